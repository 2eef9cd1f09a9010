/- The one statement over plain values to which the law comes down, and how its arguments are laid open. -/
import Derived.Test.YtmhmeifdnleoaaaDoorXFnLog11
import Derived.Test.YtmhmeifdnleoaaaDoorXOpen
import Derived.KernelRfl
namespace Go.Proofs.YtmhmeifdnleoaaaDoor.XGFnLog
open Go.RowKit Go.Proofs.YtmhmeifdnleoaaaDoor.XOpen Go.Proofs.YtmhmeifdnleoaaaDoor.XFnLog Go.Proofs.YtmhmeifdnleoaaaDoorW.PrintWords

/-- The pure statement. -/
def Pure : Prop := ∀ (l0 : List Int), (l0.length ≤ 9223372036854775807 ∧ ∀ y ∈ l0, (Lit.int .u8 y).wf = true) → ∃ k, laws_FnLog.f k l0 = some true
end Go.Proofs.YtmhmeifdnleoaaaDoor.XGFnLog

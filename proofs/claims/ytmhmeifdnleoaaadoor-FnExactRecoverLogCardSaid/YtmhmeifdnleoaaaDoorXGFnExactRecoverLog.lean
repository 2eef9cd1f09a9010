/- The one statement over plain values to which the law comes down, and how its arguments are laid open. -/
import Derived.Test.YtmhmeifdnleoaaaDoorXFnExactRecoverLog5
import Derived.Test.YtmhmeifdnleoaaaDoorXOpen
import Derived.KernelRfl
namespace Go.Proofs.YtmhmeifdnleoaaaDoor.XGFnExactRecoverLog
open Go.RowKit Go.Proofs.YtmhmeifdnleoaaaDoor.XOpen Go.Proofs.YtmhmeifdnleoaaaDoor.XFnExactRecoverLog Go.Proofs.YtmhmeifdnleoaaaDoorW.PrintWords

/-- The pure statement. -/
def Pure : Prop := ∀ (a0 : ByteArray), a0.size ≤ 9223372036854775807 → ∃ k, laws_FnExactRecoverLog.f k a0 = some true
end Go.Proofs.YtmhmeifdnleoaaaDoor.XGFnExactRecoverLog

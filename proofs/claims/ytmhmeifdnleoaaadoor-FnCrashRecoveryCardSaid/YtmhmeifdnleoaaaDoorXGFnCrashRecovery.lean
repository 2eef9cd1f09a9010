/- The one statement over plain values to which the law comes down, and how its arguments are laid open. -/
import Derived.Test.YtmhmeifdnleoaaaDoorXFnCrashRecovery11
import Derived.Test.YtmhmeifdnleoaaaDoorXOpen
import Derived.KernelRfl
namespace Go.Proofs.YtmhmeifdnleoaaaDoor.XGFnCrashRecovery
open Go.RowKit Go.Proofs.YtmhmeifdnleoaaaDoor.XOpen Go.Proofs.YtmhmeifdnleoaaaDoor.XFnCrashRecovery Go.Proofs.YtmhmeifdnleoaaaDoorW.PrintWords

/-- The pure statement. -/
def Pure : Prop := ∀ (l0 : List Int), (l0.length ≤ 9223372036854775807 ∧ ∀ y ∈ l0, (Lit.int .u8 y).wf = true) → ∃ k, laws_FnCrashRecovery.f k l0 = some true
end Go.Proofs.YtmhmeifdnleoaaaDoor.XGFnCrashRecovery

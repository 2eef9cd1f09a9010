/- The one statement over plain values to which the law comes down, and how its arguments are laid open. -/
import Derived.Test.YtccdjchaaeligaaDoorXFnLedger24
import Derived.Test.YtccdjchaaeligaaDoorXOpen
import Derived.KernelRfl
namespace Go.Proofs.YtccdjchaaeligaaDoor.XGFnLedger
open Go.RowKit Go.Proofs.YtccdjchaaeligaaDoor.XOpen Go.Proofs.YtccdjchaaeligaaDoor.XFnLedger Go.Proofs.YtccdjchaaeligaaDoorW.PrintWords

/-- The pure statement. -/
def Pure : Prop := ∀ (l0 : List Int), (l0.length ≤ 9223372036854775807 ∧ ∀ y ∈ l0, (Lit.int .u8 y).wf = true) → ∃ k, laws_FnLedger.f k l0 = some true
end Go.Proofs.YtccdjchaaeligaaDoor.XGFnLedger

/- The one statement over plain values to which the law comes down, and how its arguments are laid open. -/
import Derived.Test.YtccdjchaaeligaaDoorXFnClosing23
import Derived.Test.YtccdjchaaeligaaDoorXOpen
import Derived.KernelRfl
namespace Go.Proofs.YtccdjchaaeligaaDoor.XGFnClosing
open Go.RowKit Go.Proofs.YtccdjchaaeligaaDoor.XOpen Go.Proofs.YtccdjchaaeligaaDoor.XFnClosing Go.Proofs.YtccdjchaaeligaaDoorW.PrintWords

/-- The pure statement. -/
def Pure : Prop := ∀ (l0 : List Int), (l0.length ≤ 9223372036854775807 ∧ ∀ y ∈ l0, (Lit.int .u8 y).wf = true) → ∃ k, laws_FnClosing.f k l0 = some true
end Go.Proofs.YtccdjchaaeligaaDoor.XGFnClosing

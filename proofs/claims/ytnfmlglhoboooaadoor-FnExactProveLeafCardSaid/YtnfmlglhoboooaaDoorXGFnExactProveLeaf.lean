/- The one statement over plain values to which the law comes down, and how its arguments are laid open. -/
import Derived.Test.YtnfmlglhoboooaaDoorXFnExactProveLeaf5
import Derived.Test.YtnfmlglhoboooaaDoorXOpen
import Derived.KernelRfl
namespace Go.Proofs.YtnfmlglhoboooaaDoor.XGFnExactProveLeaf
open Go.RowKit Go.Proofs.YtnfmlglhoboooaaDoor.XOpen Go.Proofs.YtnfmlglhoboooaaDoor.XFnExactProveLeaf Go.Proofs.YtnfmlglhoboooaaDoorW.PrintWords

/-- The pure statement. -/
def Pure : Prop := ∀ (l0 : List Int) (a1 : Int), (l0.length ≤ 9223372036854775807 ∧ ∀ y ∈ l0, (Lit.int .i64 y).wf = true) → (Lit.int .i64 a1).wf = true → ∃ k, laws_FnExactProveLeaf.f k l0 a1 = some true
end Go.Proofs.YtnfmlglhoboooaaDoor.XGFnExactProveLeaf

/- The one statement over plain values to which the law comes down, and how its arguments are laid open. -/
import Derived.Test.YtnfmlglhoboooaaDoorXFnExactFirstChanged5
import Derived.Test.YtnfmlglhoboooaaDoorXOpen
import Derived.KernelRfl
namespace Go.Proofs.YtnfmlglhoboooaaDoor.XGFnExactFirstChanged
open Go.RowKit Go.Proofs.YtnfmlglhoboooaaDoor.XOpen Go.Proofs.YtnfmlglhoboooaaDoor.XFnExactFirstChanged Go.Proofs.YtnfmlglhoboooaaDoorW.PrintWords

/-- The pure statement. -/
def Pure : Prop := ∀ (l0 : List Int) (l1 : List Int), (l0.length ≤ 9223372036854775807 ∧ ∀ y ∈ l0, (Lit.int .i64 y).wf = true) → (l1.length ≤ 9223372036854775807 ∧ ∀ y ∈ l1, (Lit.int .i64 y).wf = true) → ∃ k, laws_FnExactFirstChanged.f k l0 l1 = some true
end Go.Proofs.YtnfmlglhoboooaaDoor.XGFnExactFirstChanged

/- The one statement over plain values to which the law comes down, and how its arguments are laid open. -/
import Derived.Test.YtnfmlglhoboooaaDoorXFnExactVerifySubset7
import Derived.Test.YtnfmlglhoboooaaDoorXOpen
import Derived.KernelRfl
namespace Go.Proofs.YtnfmlglhoboooaaDoor.XGFnExactVerifySubset
open Go.RowKit Go.Proofs.YtnfmlglhoboooaaDoor.XOpen Go.Proofs.YtnfmlglhoboooaaDoor.XFnExactVerifySubset Go.Proofs.YtnfmlglhoboooaaDoorW.PrintWords

/-- The pure statement. -/
def Pure : Prop := ∀ (a0 : Int) (a1 : Int) (l2 : List Int) (l3 : List Int) (l4 : List Int), (Lit.int .i64 a0).wf = true → (Lit.int .i64 a1).wf = true → (l2.length ≤ 9223372036854775807 ∧ ∀ y ∈ l2, (Lit.int .i64 y).wf = true) → (l3.length ≤ 9223372036854775807 ∧ ∀ y ∈ l3, (Lit.int .i64 y).wf = true) → (l4.length ≤ 9223372036854775807 ∧ ∀ y ∈ l4, (Lit.int .i64 y).wf = true) → ∃ k, laws_FnExactVerifySubset.f k a0 a1 l2 l3 l4 = some true
end Go.Proofs.YtnfmlglhoboooaaDoor.XGFnExactVerifySubset

/- The one statement over plain values to which the law comes down, and how its arguments are laid open. -/
import Derived.Test.YtnfmlglhoboooaaDoorXFnExactVerifyLeaf3
import Derived.Test.YtnfmlglhoboooaaDoorXOpen
import Derived.KernelRfl
namespace Go.Proofs.YtnfmlglhoboooaaDoor.XGFnExactVerifyLeaf
open Go.RowKit Go.Proofs.YtnfmlglhoboooaaDoor.XOpen Go.Proofs.YtnfmlglhoboooaaDoor.XFnExactVerifyLeaf Go.Proofs.YtnfmlglhoboooaaDoorW.PrintWords

/-- What is known of a value of struct type 76 that came in. -/
def G76 (x : S76) : Prop := (Lit.int .i64 x.f0).wf = true ∧ True
theorem open76 : Opens Tryd.prog k76 76 G76 := fun m => opens_iso (G := fun (y : Int × Bool) => (Lit.int .i64 y.1).wf = true ∧ True) (fun (z : Int × Bool) => (⟨z.1, z.2⟩ : S76)) (fun _ => rfl) (opens_struct' Tryd.underlying76 (opensF_cons (by kernel_rfl) (opens_int Tryd.underlying3 m) (opensF_one (by kernel_rfl) (by kernel_rfl) (opens_bool Tryd.underlying4 m))))
/-- The pure statement. -/
def Pure : Prop := ∀ (a0 : Int) (a1 : Int) (l2 : List (S76)), (Lit.int .i64 a0).wf = true → (Lit.int .i64 a1).wf = true → (l2.length ≤ 9223372036854775807 ∧ ∀ y ∈ l2, G76 y) → ∃ k, laws_FnExactVerifyLeaf.f k a0 a1 l2 = some true
end Go.Proofs.YtnfmlglhoboooaaDoor.XGFnExactVerifyLeaf

/- The one statement over plain values to which the law comes down, and how its arguments are laid open. -/
import Derived.Test.YtnfmlglhoboooaaDoorXFnExactLeafHash2
import Derived.Test.YtnfmlglhoboooaaDoorXOpen
import Derived.KernelRfl
namespace Go.Proofs.YtnfmlglhoboooaaDoor.XGFnExactLeafHash
open Go.RowKit Go.Proofs.YtnfmlglhoboooaaDoor.XOpen Go.Proofs.YtnfmlglhoboooaaDoor.XFnExactLeafHash Go.Proofs.YtnfmlglhoboooaaDoorW.PrintWords

/-- What is known of a value of struct type 26 that came in. -/
def G26 (x : S26) : Prop := (Lit.int .i64 x.f0).wf = true ∧ x.f1.size ≤ 9223372036854775807
theorem open26 : Opens Tryd.prog k26 26 G26 := fun m => opens_iso (G := fun (y : Int × ByteArray) => (Lit.int .i64 y.1).wf = true ∧ y.2.size ≤ 9223372036854775807) (fun (z : Int × ByteArray) => (⟨z.1, z.2⟩ : S26)) (fun _ => rfl) (opens_struct' Tryd.underlying26 (opensF_cons (by kernel_rfl) (opens_int Tryd.underlying3 m) (opensF_one (by kernel_rfl) (by kernel_rfl) (opens_string Tryd.underlying9 m))))
/-- The pure statement. -/
def Pure : Prop := ∀ (a0_0 : Int) (a0_1 : ByteArray), (Lit.int .i64 a0_0).wf = true → a0_1.size ≤ 9223372036854775807 → ∃ k, laws_FnExactLeafHash.f k a0_0 a0_1 = some true
end Go.Proofs.YtnfmlglhoboooaaDoor.XGFnExactLeafHash

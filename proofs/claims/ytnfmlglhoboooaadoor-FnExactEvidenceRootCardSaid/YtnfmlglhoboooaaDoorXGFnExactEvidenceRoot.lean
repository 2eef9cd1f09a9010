/- The one statement over plain values to which the law comes down, and how its arguments are laid open. -/
import Derived.Test.YtnfmlglhoboooaaDoorXFnExactEvidenceRoot5
import Derived.Test.YtnfmlglhoboooaaDoorXOpen
import Derived.KernelRfl
namespace Go.Proofs.YtnfmlglhoboooaaDoor.XGFnExactEvidenceRoot
open Go.RowKit Go.Proofs.YtnfmlglhoboooaaDoor.XOpen Go.Proofs.YtnfmlglhoboooaaDoor.XFnExactEvidenceRoot Go.Proofs.YtnfmlglhoboooaaDoorW.PrintWords

/-- What is known of a value of struct type 26 that came in. -/
def G26 (x : S26) : Prop := (Lit.int .i64 x.f0).wf = true ∧ x.f1.size ≤ 9223372036854775807
theorem open26 : Opens Tryd.prog k26 26 G26 := fun m => opens_iso (G := fun (y : Int × ByteArray) => (Lit.int .i64 y.1).wf = true ∧ y.2.size ≤ 9223372036854775807) (fun (z : Int × ByteArray) => (⟨z.1, z.2⟩ : S26)) (fun _ => rfl) (opens_struct' Tryd.underlying26 (opensF_cons (by kernel_rfl) (opens_int Tryd.underlying3 m) (opensF_one (by kernel_rfl) (by kernel_rfl) (opens_string Tryd.underlying9 m))))
/-- The pure statement. -/
def Pure : Prop := ∀ (l0 : List (S26)), (l0.length ≤ 9223372036854775807 ∧ ∀ y ∈ l0, G26 y) → ∃ k, laws_FnExactEvidenceRoot.f k l0 = some true
end Go.Proofs.YtnfmlglhoboooaaDoor.XGFnExactEvidenceRoot

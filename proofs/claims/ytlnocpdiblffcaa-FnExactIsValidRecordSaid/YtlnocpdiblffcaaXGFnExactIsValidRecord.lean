/- The one statement over plain values to which the law comes down, and how its arguments are laid open. -/
import Derived.Test.YtlnocpdiblffcaaXFnExactIsValidRecord1
import Derived.Test.YtlnocpdiblffcaaXOpen
import Derived.KernelRfl
namespace Go.Proofs.Ytlnocpdiblffcaa.XGFnExactIsValidRecord
open Go.RowKit Go.Proofs.Ytlnocpdiblffcaa.XOpen Go.Proofs.Ytlnocpdiblffcaa.XFnExactIsValidRecord Go.Proofs.YtlnocpdiblffcaaW.PrintWords

/-- What is known of a value of struct type 23 that came in. -/
def G23 (x : S23) : Prop := x.f0.size ≤ 9223372036854775807 ∧ x.f1.size ≤ 9223372036854775807
theorem open23 : Opens Try.prog k23 23 G23 := fun m => opens_iso (G := fun (y : ByteArray × ByteArray) => y.1.size ≤ 9223372036854775807 ∧ y.2.size ≤ 9223372036854775807) (fun (z : ByteArray × ByteArray) => (⟨z.1, z.2⟩ : S23)) (fun _ => rfl) (opens_struct' Try.underlying23 (opensF_cons (by kernel_rfl) (opens_string Try.underlying9 m) (opensF_one (by kernel_rfl) (by kernel_rfl) (opens_string Try.underlying9 m))))
/-- The pure statement. -/
def Pure : Prop := ∀ (a0_0 : ByteArray) (a0_1 : ByteArray), a0_0.size ≤ 9223372036854775807 → a0_1.size ≤ 9223372036854775807 → ∃ k, laws_FnExactIsValidRecord.f k a0_0 a0_1 = some true
end Go.Proofs.Ytlnocpdiblffcaa.XGFnExactIsValidRecord

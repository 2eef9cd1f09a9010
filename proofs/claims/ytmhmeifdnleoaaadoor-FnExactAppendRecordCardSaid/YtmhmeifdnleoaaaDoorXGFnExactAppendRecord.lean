/- The one statement over plain values to which the law comes down, and how its arguments are laid open. -/
import Derived.Test.YtmhmeifdnleoaaaDoorXFnExactAppendRecord7
import Derived.Test.YtmhmeifdnleoaaaDoorXOpen
import Derived.KernelRfl
namespace Go.Proofs.YtmhmeifdnleoaaaDoor.XGFnExactAppendRecord
open Go.RowKit Go.Proofs.YtmhmeifdnleoaaaDoor.XOpen Go.Proofs.YtmhmeifdnleoaaaDoor.XFnExactAppendRecord Go.Proofs.YtmhmeifdnleoaaaDoorW.PrintWords

/-- What is known of a value of struct type 36 that came in. -/
def G36 (x : S36) : Prop := x.f0.size ≤ 9223372036854775807 ∧ x.f1.size ≤ 9223372036854775807 ∧ (Lit.int .i64 x.f2).wf = true
theorem open36 : Opens Tryd.prog k36 36 G36 := fun m => opens_iso (G := fun (y : ByteArray × ByteArray × Int) => y.1.size ≤ 9223372036854775807 ∧ y.2.1.size ≤ 9223372036854775807 ∧ (Lit.int .i64 y.2.2).wf = true) (fun (z : ByteArray × ByteArray × Int) => (⟨z.1, z.2.1, z.2.2⟩ : S36)) (fun _ => rfl) (opens_struct' Tryd.underlying36 (opensF_cons (by kernel_rfl) (opens_string Tryd.underlying9 m) (opensF_cons (by kernel_rfl) (opens_string Tryd.underlying9 m) (opensF_one (by kernel_rfl) (by kernel_rfl) (opens_int Tryd.underlying3 m)))))
/-- What is known of a value of struct type 23 that came in. -/
def G23 (x : S23) : Prop := x.f0.size ≤ 9223372036854775807 ∧ x.f1.size ≤ 9223372036854775807
theorem open23 : Opens Tryd.prog k23 23 G23 := fun m => opens_iso (G := fun (y : ByteArray × ByteArray) => y.1.size ≤ 9223372036854775807 ∧ y.2.size ≤ 9223372036854775807) (fun (z : ByteArray × ByteArray) => (⟨z.1, z.2⟩ : S23)) (fun _ => rfl) (opens_struct' Tryd.underlying23 (opensF_cons (by kernel_rfl) (opens_string Tryd.underlying9 m) (opensF_one (by kernel_rfl) (by kernel_rfl) (opens_string Tryd.underlying9 m))))
/-- The pure statement. -/
def Pure : Prop := ∀ (a0_0 : ByteArray) (a0_1 : ByteArray) (a0_2 : Int) (a1_0 : ByteArray) (a1_1 : ByteArray), a0_0.size ≤ 9223372036854775807 → a0_1.size ≤ 9223372036854775807 → (Lit.int .i64 a0_2).wf = true → a1_0.size ≤ 9223372036854775807 → a1_1.size ≤ 9223372036854775807 → ∃ k, laws_FnExactAppendRecord.f k a0_0 a0_1 a0_2 a1_0 a1_1 = some true
end Go.Proofs.YtmhmeifdnleoaaaDoor.XGFnExactAppendRecord

/- The one statement over plain values to which the law comes down, and how its arguments are laid open. -/
import Derived.Test.YtmhmeifdnleoaaaDoorXFnExactCrashLog6
import Derived.Test.YtmhmeifdnleoaaaDoorXOpen
import Derived.KernelRfl
namespace Go.Proofs.YtmhmeifdnleoaaaDoor.XGFnExactCrashLog
open Go.RowKit Go.Proofs.YtmhmeifdnleoaaaDoor.XOpen Go.Proofs.YtmhmeifdnleoaaaDoor.XFnExactCrashLog Go.Proofs.YtmhmeifdnleoaaaDoorW.PrintWords

/-- What is known of a value of struct type 36 that came in. -/
def G36 (x : S36) : Prop := x.f0.size ≤ 9223372036854775807 ∧ x.f1.size ≤ 9223372036854775807 ∧ (Lit.int .i64 x.f2).wf = true
theorem open36 : Opens Tryd.prog k36 36 G36 := fun m => opens_iso (G := fun (y : ByteArray × ByteArray × Int) => y.1.size ≤ 9223372036854775807 ∧ y.2.1.size ≤ 9223372036854775807 ∧ (Lit.int .i64 y.2.2).wf = true) (fun (z : ByteArray × ByteArray × Int) => (⟨z.1, z.2.1, z.2.2⟩ : S36)) (fun _ => rfl) (opens_struct' Tryd.underlying36 (opensF_cons (by kernel_rfl) (opens_string Tryd.underlying9 m) (opensF_cons (by kernel_rfl) (opens_string Tryd.underlying9 m) (opensF_one (by kernel_rfl) (by kernel_rfl) (opens_int Tryd.underlying3 m)))))
/-- The pure statement. -/
def Pure : Prop := ∀ (a0_0 : ByteArray) (a0_1 : ByteArray) (a0_2 : Int) (a1 : Int) (a2 : Bool), a0_0.size ≤ 9223372036854775807 → a0_1.size ≤ 9223372036854775807 → (Lit.int .i64 a0_2).wf = true → (Lit.int .i64 a1).wf = true → ∃ k, laws_FnExactCrashLog.f k a0_0 a0_1 a0_2 a1 a2 = some true
end Go.Proofs.YtmhmeifdnleoaaaDoor.XGFnExactCrashLog

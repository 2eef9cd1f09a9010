/- The one statement over plain values to which the law comes down, and how its arguments are laid open. -/
import Derived.Test.YtccdjchaaeligaaDoorXFnExactCloseAccounts22
import Derived.Test.YtccdjchaaeligaaDoorXOpen
import Derived.KernelRfl
namespace Go.Proofs.YtccdjchaaeligaaDoor.XGFnExactCloseAccounts
open Go.RowKit Go.Proofs.YtccdjchaaeligaaDoor.XOpen Go.Proofs.YtccdjchaaeligaaDoor.XFnExactCloseAccounts Go.Proofs.YtccdjchaaeligaaDoorW.PrintWords

/-- What is known of a value of struct type 109 that came in. -/
def G109 (x : S109) : Prop := x.f0.size ≤ 9223372036854775807 ∧ (Lit.int .i64 x.f1).wf = true
theorem open109 : Opens Tryd.prog k109 109 G109 := fun m => opens_iso (G := fun (y : ByteArray × Int) => y.1.size ≤ 9223372036854775807 ∧ (Lit.int .i64 y.2).wf = true) (fun (z : ByteArray × Int) => (⟨z.1, z.2⟩ : S109)) (fun _ => rfl) (opens_struct' Tryd.underlying109 (opensF_cons (by kernel_rfl) (opens_string Tryd.underlying9 m) (opensF_one (by kernel_rfl) (by kernel_rfl) (opens_int Tryd.underlying3 m))))
/-- What is known of a value of struct type 120 that came in. -/
def G120 (x : S120) : Prop := (Lit.int .i64 x.f0).wf = true ∧ (Lit.int .i64 x.f1).wf = true
theorem open120 : Opens Tryd.prog k120 120 G120 := fun m => opens_iso (G := fun (y : Int × Int) => (Lit.int .i64 y.1).wf = true ∧ (Lit.int .i64 y.2).wf = true) (fun (z : Int × Int) => (⟨z.1, z.2⟩ : S120)) (fun _ => rfl) (opens_struct' Tryd.underlying120 (opensF_cons (by kernel_rfl) (opens_int Tryd.underlying3 m) (opensF_one (by kernel_rfl) (by kernel_rfl) (opens_int Tryd.underlying3 m))))
/-- What is known of a value of struct type 58 that came in. -/
def G58 (x : S58) : Prop := (Lit.int .i64 x.f0).wf = true ∧ x.f1.size ≤ 9223372036854775807 ∧ (x.f2.length ≤ 9223372036854775807 ∧ ∀ y ∈ x.f2, G120 y)
theorem open58 : Opens Tryd.prog k58 58 G58 := fun m => opens_iso (G := fun (y : Int × ByteArray × (List (S120))) => (Lit.int .i64 y.1).wf = true ∧ y.2.1.size ≤ 9223372036854775807 ∧ (y.2.2.length ≤ 9223372036854775807 ∧ ∀ y1 ∈ y.2.2, G120 y1)) (fun (z : Int × ByteArray × (List (S120))) => (⟨z.1, z.2.1, z.2.2⟩ : S58)) (fun _ => rfl) (opens_struct' Tryd.underlying58 (opensF_cons (by kernel_rfl) (opens_int Tryd.underlying3 m) (opensF_cons (by kernel_rfl) (opens_string Tryd.underlying9 m) (opensF_one (by kernel_rfl) (by kernel_rfl) (opens_slice' Tryd.underlying56 (by kernel_rfl) (open120 m))))))
/-- What is known of a value of struct type 25 that came in. -/
def G25 (x : S25) : Prop := (x.f0.length ≤ 9223372036854775807 ∧ ∀ y ∈ x.f0, G109 y) ∧ (x.f1.length ≤ 9223372036854775807 ∧ ∀ y ∈ x.f1, G58 y)
theorem open25 : Opens Tryd.prog k25 25 G25 := fun m => opens_iso (G := fun (y : (List (S109)) × (List (S58))) => (y.1.length ≤ 9223372036854775807 ∧ ∀ y1 ∈ y.1, G109 y1) ∧ (y.2.length ≤ 9223372036854775807 ∧ ∀ y1 ∈ y.2, G58 y1)) (fun (z : (List (S109)) × (List (S58))) => (⟨z.1, z.2⟩ : S25)) (fun _ => rfl) (opens_struct' Tryd.underlying25 (opensF_cons (by kernel_rfl) (opens_slice' Tryd.underlying22 (by kernel_rfl) (open109 m)) (opensF_one (by kernel_rfl) (by kernel_rfl) (opens_slice' Tryd.underlying23 (by kernel_rfl) (open58 m)))))
/-- The pure statement. -/
def Pure : Prop := ∀ (l0_0 : List (S109)) (l0_1 : List (S58)) (a1 : Int) (a2 : Int), (l0_0.length ≤ 9223372036854775807 ∧ ∀ y ∈ l0_0, G109 y) → (l0_1.length ≤ 9223372036854775807 ∧ ∀ y ∈ l0_1, G58 y) → (Lit.int .i64 a1).wf = true → (Lit.int .i64 a2).wf = true → ∃ k, laws_FnExactCloseAccounts.f k l0_0 l0_1 a1 a2 = some true
end Go.Proofs.YtccdjchaaeligaaDoor.XGFnExactCloseAccounts

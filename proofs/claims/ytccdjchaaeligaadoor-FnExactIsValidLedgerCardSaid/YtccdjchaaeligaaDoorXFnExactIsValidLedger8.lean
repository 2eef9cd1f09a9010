-- Printed by wip/tools/xprint.py, a program of this session, over the kit's print; Lean checks it.
import Derived.Test.YtccdjchaaeligaaDoorXFnExactIsValidLedger1
import Derived.Test.YtccdjchaaeligaaDoorXFnExactIsValidLedger0
import Derived.Test.YtccdjchaaeligaaDoorXFnExactIsValidLedger5
import Derived.Test.YtccdjchaaeligaaDoorXFnExactIsValidLedger6
import Derived.Test.YtccdjchaaeligaaDoorXFnExactIsValidLedger7
namespace Go.Proofs.YtccdjchaaeligaaDoor.XFnExactIsValidLedger
open Go.Proofs.YtccdjchaaeligaaDoor.Short Go.RowKit Go.Proofs.YtccdjchaaeligaaDoorW.PrintWords Go.Proofs.YtccdjchaaeligaaDoorW.PrintLast Go.Proofs.YtccdjchaaeligaaDoorW.PrintMore
attribute [local go_sem] max2_int min2_int max_two min_two max_three min_three max_four min_four   -- for this text's walks alone
set_option linter.unusedVariables false
set_option linter.unusedSimpArgs false
theorem ZZa30d0d {p : Prop} (h : p := by (with_reducible repeat (first | refine blk_drewN ?_ _ | refine blk_drew ?_ | refine blk_alloc ?_ _)); exact BK204.out) : p := h
theorem ZZcebc8a {p : Prop} (h : p := by repeat (first | (with_reducible first | exact HB.out | apply below_alloc | apply pw_below_drewN | apply below_drew1 | refine below_set ?_ GE204.out) | exact HB.out)) : p := h
theorem ZZa5b54a {p : Prop} (h : p := by (with_reducible repeat (first | refine blk_drewN ?_ _ | refine blk_drew ?_ | refine blk_alloc ?_ _)); refine blk_far ?_ NB204_206.out _; (with_reducible repeat (first | refine blk_drewN ?_ _ | refine blk_drew ?_ | refine blk_alloc ?_ _)); refine blk_far ?_ NB204_206.out _; (with_reducible repeat (first | refine blk_drewN ?_ _ | refine blk_drew ?_ | refine blk_alloc ?_ _)); exact BK204.out) : p := h
theorem ZZ8482de {p : Prop} (h : p := by (with_reducible repeat (first | refine blk_drewN ?_ _ | refine blk_drew ?_ | refine blk_alloc ?_ _)); refine blk_put (cs := #[.string ((rd_T48 l0_0 x23_2).f0), .int .i64 0]) ?_ 1 _ rfl; (with_reducible repeat (first | refine blk_drewN ?_ _ | refine blk_drew ?_ | refine blk_alloc ?_ _)); refine blk_put (cs := #[.string (⟨#[]⟩ : ByteArray), .int .i64 0]) ?_ 0 _ rfl; (with_reducible repeat (first | refine blk_drewN ?_ _ | refine blk_drew ?_ | refine blk_alloc ?_ _)); exact BK206.out) : p := h
theorem ZZ6fc3ee {p : Prop} (h : p := by repeat (first | (with_reducible first | exact HB.out | apply below_alloc | apply pw_below_drewN | apply below_drew1 | refine below_set ?_ GE204.out | refine below_set ?_ GE228.out) | exact HB.out)) : p := h
theorem ZZ313b37 {p : Prop} (h : p := by (with_reducible repeat (first | refine blk_drewN ?_ _ | refine blk_drew ?_ | refine blk_alloc ?_ _)); exact BK228.out) : p := h
/-! ### impl_IsValidLedger: function 17 -/
mutual
def impl_IsValidLedger.j0 : Nat → Bool → List (S48) → List (S63) → Option (Bool)
 | 0, _, _, _ => none
 | k + 1, x19, x205000, x205001 => if x19 = true then (some false) else (impl_IsValidLedger.l0 k x205000 (x205000.length : Int) 0 x205000 x205001)
def impl_IsValidLedger.l0 : Nat → List (S48) → Int → Int → List (S48) → List (S63) → Option (Bool)
 | 0, _, _, _, _, _ => none
 | k + 1, x21, x22, x23, x205000, x205001 => if x23 < x22 then (if 0 ≤ x23 then (if x23 < (x21.length : Int) then ((impl_isAccountName.f ((rd_T48 x21 x23).f0)).bind fun t207 => (if t207 = true then ((impl_within.f ((rd_T48 x21 x23).f1) 1 5).bind fun t208 => (if t208 = true then (if x23 ≤ (x205000.length : Int) then ((slices_ContainsFunc_Account_Account_impl_IsValidLedger_1.f k (x205000.take (x23 : Int).toNat) ((rd_T48 x21 x23).f0) ((rd_T48 x21 x23).f1)).bind fun bt221 => (impl_IsValidLedger.j2 k x21 x22 x23 bt221.1 x205000 x205001)) else (none)) else (impl_IsValidLedger.j2 k x21 x22 x23 true x205000 x205001))) else (impl_IsValidLedger.j2 k x21 x22 x23 true x205000 x205001))) else (none)) else (none)) else (if 0 ≤ (x205000.length : Int) then (if ((x205000.length : Int) : Int).toNat ≤ 35184372088832 then (impl_IsValidLedger.l1 k (List.replicate ((x205000.length : Int) : Int).toNat 0) x205001 (x205001.length : Int) 0 x205000 x205001) else (none)) else (none))
def impl_IsValidLedger.j2 : Nat → List (S48) → Int → Int → Bool → List (S48) → List (S63) → Option (Bool)
 | 0, _, _, _, _, _, _ => none
 | k + 1, x21, x22, x23, x45, x205000, x205001 => if x45 = true then (some false) else (impl_IsValidLedger.l0 k x21 x22 (wrap64 (x23 + 1)) x205000 x205001)
def impl_IsValidLedger.l1 : Nat → List Int → List (S63) → Int → Int → List (S48) → List (S63) → Option (Bool)
 | 0, _, _, _, _, _, _ => none
 | k + 1, x5, x52, x53, x54, x205000, x205001 => if x54 < x53 then (if 0 ≤ x54 then (if x54 < (x52.length : Int) then ((impl_isDay.f ((rd_T63 x52 x54).f0)).bind fun t229 => (if t229 = true then (if x54 > 0 then (if 0 ≤ (wrap64 (x54 - 1)) then (if (wrap64 (x54 - 1)) < (x205001.length : Int) then (if ((rd_T63 x52 x54).f0) < ((rd_T63 x205001 (wrap64 (x54 - 1))).f0) then (impl_IsValidLedger.j4 k x5 x52 x53 x54 true x205000 x205001 ((rd_T63 x52 x54).f0) ((rd_T63 x52 x54).f1) ((rd_T63 x52 x54).f2)) else ((impl_isMemo.f k ((rd_T63 x52 x54).f1)).bind fun t231 => (if t231 = true then ((impl_isPosted.f k ((rd_T63 x52 x54).f0) ((rd_T63 x52 x54).f1) ((rd_T63 x52 x54).f2) (x205000.length : Int)).bind fun t232 => (impl_IsValidLedger.j4 k x5 x52 x53 x54 (!t232) x205000 x205001 ((rd_T63 x52 x54).f0) ((rd_T63 x52 x54).f1) ((rd_T63 x52 x54).f2))) else (impl_IsValidLedger.j4 k x5 x52 x53 x54 true x205000 x205001 ((rd_T63 x52 x54).f0) ((rd_T63 x52 x54).f1) ((rd_T63 x52 x54).f2))))) else (none)) else (none)) else ((impl_isMemo.f k ((rd_T63 x52 x54).f1)).bind fun t233 => (if t233 = true then ((impl_isPosted.f k ((rd_T63 x52 x54).f0) ((rd_T63 x52 x54).f1) ((rd_T63 x52 x54).f2) (x205000.length : Int)).bind fun t234 => (impl_IsValidLedger.j4 k x5 x52 x53 x54 (!t234) x205000 x205001 ((rd_T63 x52 x54).f0) ((rd_T63 x52 x54).f1) ((rd_T63 x52 x54).f2))) else (impl_IsValidLedger.j4 k x5 x52 x53 x54 true x205000 x205001 ((rd_T63 x52 x54).f0) ((rd_T63 x52 x54).f1) ((rd_T63 x52 x54).f2))))) else (impl_IsValidLedger.j4 k x5 x52 x53 x54 true x205000 x205001 ((rd_T63 x52 x54).f0) ((rd_T63 x52 x54).f1) ((rd_T63 x52 x54).f2)))) else (none)) else (none)) else (some true)
def impl_IsValidLedger.j4 : Nat → List Int → List (S63) → Int → Int → Bool → List (S48) → List (S63) → Int → ByteArray → List (S70) → Option (Bool)
 | 0, _, _, _, _, _, _, _, _, _, _ => none
 | k + 1, x5, x52, x53, x54, x92, x205000, x205001, x229000, x229001, x229002 => if x92 = true then (some false) else (impl_IsValidLedger.l2 k x5 x52 x53 x54 x229002 (x229002.length : Int) 0 x205000 x205001)
def impl_IsValidLedger.l2 : Nat → List Int → List (S63) → Int → Int → List (S70) → Int → Int → List (S48) → List (S63) → Option (Bool)
 | 0, _, _, _, _, _, _, _, _, _ => none
 | k + 1, x5, x52, x53, x54, x94, x95, x96, x205000, x205001 => if x96 < x95 then (if 0 ≤ x96 then (if x96 < (x94.length : Int) then (if 0 ≤ ((rd_T70 x94 x96).f0) then (if ((rd_T70 x94 x96).f0) < (x5.length : Int) then ((impl_isAmount.f (wrap64 ((rd x5 ((rd_T70 x94 x96).f0)) + ((rd_T70 x94 x96).f1)))).bind fun t240 => (if t240 = true then (impl_IsValidLedger.l2 k (x5.set (((rd_T70 x94 x96).f0) : Int).toNat (wrap64 ((rd x5 ((rd_T70 x94 x96).f0)) + ((rd_T70 x94 x96).f1)))) x52 x53 x54 x94 x95 (wrap64 (x96 + 1)) x205000 x205001) else (some false))) else (none)) else (none)) else (none)) else (none)) else (impl_IsValidLedger.l1 k x5 x52 x53 (wrap64 (x54 + 1)) x205000 x205001)
end
def impl_IsValidLedger.f (k : Nat) (l0_0 : List (S48)) (l0_1 : List (S63)) : Option (Bool) := if (l0_0.length : Int) > 12 then (impl_IsValidLedger.j0 k true l0_0 l0_1) else (impl_IsValidLedger.j0 k (decide ((l0_1.length : Int) > 40)) l0_0 l0_1)
theorem impl_IsValidLedger.mono_l : ∀ k, (∀ y0 y1 y2, LeO (impl_IsValidLedger.j0 k y0 y1 y2) (impl_IsValidLedger.j0 (k + 1) y0 y1 y2)) ∧ (∀ y0 y1 y2 y3 y4, LeO (impl_IsValidLedger.l0 k y0 y1 y2 y3 y4) (impl_IsValidLedger.l0 (k + 1) y0 y1 y2 y3 y4)) ∧ (∀ y0 y1 y2 y3 y4 y5, LeO (impl_IsValidLedger.j2 k y0 y1 y2 y3 y4 y5) (impl_IsValidLedger.j2 (k + 1) y0 y1 y2 y3 y4 y5)) ∧ (∀ y0 y1 y2 y3 y4 y5, LeO (impl_IsValidLedger.l1 k y0 y1 y2 y3 y4 y5) (impl_IsValidLedger.l1 (k + 1) y0 y1 y2 y3 y4 y5)) ∧ (∀ y0 y1 y2 y3 y4 y5 y6 y7 y8 y9, LeO (impl_IsValidLedger.j4 k y0 y1 y2 y3 y4 y5 y6 y7 y8 y9) (impl_IsValidLedger.j4 (k + 1) y0 y1 y2 y3 y4 y5 y6 y7 y8 y9)) ∧ (∀ y0 y1 y2 y3 y4 y5 y6 y7 y8, LeO (impl_IsValidLedger.l2 k y0 y1 y2 y3 y4 y5 y6 y7 y8) (impl_IsValidLedger.l2 (k + 1) y0 y1 y2 y3 y4 y5 y6 y7 y8))
 | 0 => ⟨fun _ _ _ r h => by simp [impl_IsValidLedger.j0] at h, fun _ _ _ _ _ r h => by simp [impl_IsValidLedger.l0] at h, fun _ _ _ _ _ _ r h => by simp [impl_IsValidLedger.j2] at h, fun _ _ _ _ _ _ r h => by simp [impl_IsValidLedger.l1] at h, fun _ _ _ _ _ _ _ _ _ _ r h => by simp [impl_IsValidLedger.j4] at h, fun _ _ _ _ _ _ _ _ _ r h => by simp [impl_IsValidLedger.l2] at h⟩
 | k + 1 => by
  obtain ⟨ih0, ih1, ih2, ih3, ih4, ih5⟩ := impl_IsValidLedger.mono_l k
  refine ⟨?_, ?_, ?_, ?_, ?_, ?_⟩
  ·intro y0 y1 y2
   unfold impl_IsValidLedger.j0
   repeat' first
   | (with_reducible exact ih0 _ _ _)
   | (with_reducible exact ih1 _ _ _ _ _)
   | (with_reducible exact ih2 _ _ _ _ _ _)
   | (with_reducible exact ih3 _ _ _ _ _ _)
   | (with_reducible exact ih4 _ _ _ _ _ _ _ _ _ _)
   | (with_reducible exact ih5 _ _ _ _ _ _ _ _ _)
   | (with_reducible exact impl_isMemo.mono _ _)
   | (with_reducible exact impl_isPosted.mono _ _ _ _ _)
   | (with_reducible exact slices_ContainsFunc_Account_Account_impl_IsValidLedger_1.mono _ _ _ _)
   | (with_reducible exact LeO.refl _)
   | (with_reducible exact LeO.none _)
   | (with_reducible refine LeO.ite ?_ ?_)
   | (with_reducible refine LeO.bind ?_ (fun _ => ?_))
   | exact ih0 _ _ _
   | exact ih1 _ _ _ _ _
   | exact ih2 _ _ _ _ _ _
   | exact ih3 _ _ _ _ _ _
   | exact ih4 _ _ _ _ _ _ _ _ _ _
   | exact ih5 _ _ _ _ _ _ _ _ _
   | exact impl_isMemo.mono _ _
   | exact impl_isPosted.mono _ _ _ _ _
   | exact slices_ContainsFunc_Account_Account_impl_IsValidLedger_1.mono _ _ _ _
   | exact LeO.none _
   | refine LeO.ite ?_ ?_
   | refine LeO.bind ?_ (fun _ => ?_)
  ·intro y0 y1 y2 y3 y4
   unfold impl_IsValidLedger.l0
   repeat' first
   | (with_reducible exact ih0 _ _ _)
   | (with_reducible exact ih1 _ _ _ _ _)
   | (with_reducible exact ih2 _ _ _ _ _ _)
   | (with_reducible exact ih3 _ _ _ _ _ _)
   | (with_reducible exact ih4 _ _ _ _ _ _ _ _ _ _)
   | (with_reducible exact ih5 _ _ _ _ _ _ _ _ _)
   | (with_reducible exact impl_isMemo.mono _ _)
   | (with_reducible exact impl_isPosted.mono _ _ _ _ _)
   | (with_reducible exact slices_ContainsFunc_Account_Account_impl_IsValidLedger_1.mono _ _ _ _)
   | (with_reducible exact LeO.refl _)
   | (with_reducible exact LeO.none _)
   | (with_reducible refine LeO.ite ?_ ?_)
   | (with_reducible refine LeO.bind ?_ (fun _ => ?_))
   | exact ih0 _ _ _
   | exact ih1 _ _ _ _ _
   | exact ih2 _ _ _ _ _ _
   | exact ih3 _ _ _ _ _ _
   | exact ih4 _ _ _ _ _ _ _ _ _ _
   | exact ih5 _ _ _ _ _ _ _ _ _
   | exact impl_isMemo.mono _ _
   | exact impl_isPosted.mono _ _ _ _ _
   | exact slices_ContainsFunc_Account_Account_impl_IsValidLedger_1.mono _ _ _ _
   | exact LeO.none _
   | refine LeO.ite ?_ ?_
   | refine LeO.bind ?_ (fun _ => ?_)
  ·intro y0 y1 y2 y3 y4 y5
   unfold impl_IsValidLedger.j2
   repeat' first
   | (with_reducible exact ih0 _ _ _)
   | (with_reducible exact ih1 _ _ _ _ _)
   | (with_reducible exact ih2 _ _ _ _ _ _)
   | (with_reducible exact ih3 _ _ _ _ _ _)
   | (with_reducible exact ih4 _ _ _ _ _ _ _ _ _ _)
   | (with_reducible exact ih5 _ _ _ _ _ _ _ _ _)
   | (with_reducible exact impl_isMemo.mono _ _)
   | (with_reducible exact impl_isPosted.mono _ _ _ _ _)
   | (with_reducible exact slices_ContainsFunc_Account_Account_impl_IsValidLedger_1.mono _ _ _ _)
   | (with_reducible exact LeO.refl _)
   | (with_reducible exact LeO.none _)
   | (with_reducible refine LeO.ite ?_ ?_)
   | (with_reducible refine LeO.bind ?_ (fun _ => ?_))
   | exact ih0 _ _ _
   | exact ih1 _ _ _ _ _
   | exact ih2 _ _ _ _ _ _
   | exact ih3 _ _ _ _ _ _
   | exact ih4 _ _ _ _ _ _ _ _ _ _
   | exact ih5 _ _ _ _ _ _ _ _ _
   | exact impl_isMemo.mono _ _
   | exact impl_isPosted.mono _ _ _ _ _
   | exact slices_ContainsFunc_Account_Account_impl_IsValidLedger_1.mono _ _ _ _
   | exact LeO.none _
   | refine LeO.ite ?_ ?_
   | refine LeO.bind ?_ (fun _ => ?_)
  ·intro y0 y1 y2 y3 y4 y5
   unfold impl_IsValidLedger.l1
   repeat' first
   | (with_reducible exact ih0 _ _ _)
   | (with_reducible exact ih1 _ _ _ _ _)
   | (with_reducible exact ih2 _ _ _ _ _ _)
   | (with_reducible exact ih3 _ _ _ _ _ _)
   | (with_reducible exact ih4 _ _ _ _ _ _ _ _ _ _)
   | (with_reducible exact ih5 _ _ _ _ _ _ _ _ _)
   | (with_reducible exact impl_isMemo.mono _ _)
   | (with_reducible exact impl_isPosted.mono _ _ _ _ _)
   | (with_reducible exact slices_ContainsFunc_Account_Account_impl_IsValidLedger_1.mono _ _ _ _)
   | (with_reducible exact LeO.refl _)
   | (with_reducible exact LeO.none _)
   | (with_reducible refine LeO.ite ?_ ?_)
   | (with_reducible refine LeO.bind ?_ (fun _ => ?_))
   | exact ih0 _ _ _
   | exact ih1 _ _ _ _ _
   | exact ih2 _ _ _ _ _ _
   | exact ih3 _ _ _ _ _ _
   | exact ih4 _ _ _ _ _ _ _ _ _ _
   | exact ih5 _ _ _ _ _ _ _ _ _
   | exact impl_isMemo.mono _ _
   | exact impl_isPosted.mono _ _ _ _ _
   | exact slices_ContainsFunc_Account_Account_impl_IsValidLedger_1.mono _ _ _ _
   | exact LeO.none _
   | refine LeO.ite ?_ ?_
   | refine LeO.bind ?_ (fun _ => ?_)
  ·intro y0 y1 y2 y3 y4 y5 y6 y7 y8 y9
   unfold impl_IsValidLedger.j4
   repeat' first
   | (with_reducible exact ih0 _ _ _)
   | (with_reducible exact ih1 _ _ _ _ _)
   | (with_reducible exact ih2 _ _ _ _ _ _)
   | (with_reducible exact ih3 _ _ _ _ _ _)
   | (with_reducible exact ih4 _ _ _ _ _ _ _ _ _ _)
   | (with_reducible exact ih5 _ _ _ _ _ _ _ _ _)
   | (with_reducible exact impl_isMemo.mono _ _)
   | (with_reducible exact impl_isPosted.mono _ _ _ _ _)
   | (with_reducible exact slices_ContainsFunc_Account_Account_impl_IsValidLedger_1.mono _ _ _ _)
   | (with_reducible exact LeO.refl _)
   | (with_reducible exact LeO.none _)
   | (with_reducible refine LeO.ite ?_ ?_)
   | (with_reducible refine LeO.bind ?_ (fun _ => ?_))
   | exact ih0 _ _ _
   | exact ih1 _ _ _ _ _
   | exact ih2 _ _ _ _ _ _
   | exact ih3 _ _ _ _ _ _
   | exact ih4 _ _ _ _ _ _ _ _ _ _
   | exact ih5 _ _ _ _ _ _ _ _ _
   | exact impl_isMemo.mono _ _
   | exact impl_isPosted.mono _ _ _ _ _
   | exact slices_ContainsFunc_Account_Account_impl_IsValidLedger_1.mono _ _ _ _
   | exact LeO.none _
   | refine LeO.ite ?_ ?_
   | refine LeO.bind ?_ (fun _ => ?_)
  ·intro y0 y1 y2 y3 y4 y5 y6 y7 y8
   unfold impl_IsValidLedger.l2
   repeat' first
   | (with_reducible exact ih0 _ _ _)
   | (with_reducible exact ih1 _ _ _ _ _)
   | (with_reducible exact ih2 _ _ _ _ _ _)
   | (with_reducible exact ih3 _ _ _ _ _ _)
   | (with_reducible exact ih4 _ _ _ _ _ _ _ _ _ _)
   | (with_reducible exact ih5 _ _ _ _ _ _ _ _ _)
   | (with_reducible exact impl_isMemo.mono _ _)
   | (with_reducible exact impl_isPosted.mono _ _ _ _ _)
   | (with_reducible exact slices_ContainsFunc_Account_Account_impl_IsValidLedger_1.mono _ _ _ _)
   | (with_reducible exact LeO.refl _)
   | (with_reducible exact LeO.none _)
   | (with_reducible refine LeO.ite ?_ ?_)
   | (with_reducible refine LeO.bind ?_ (fun _ => ?_))
   | exact ih0 _ _ _
   | exact ih1 _ _ _ _ _
   | exact ih2 _ _ _ _ _ _
   | exact ih3 _ _ _ _ _ _
   | exact ih4 _ _ _ _ _ _ _ _ _ _
   | exact ih5 _ _ _ _ _ _ _ _ _
   | exact impl_isMemo.mono _ _
   | exact impl_isPosted.mono _ _ _ _ _
   | exact slices_ContainsFunc_Account_Account_impl_IsValidLedger_1.mono _ _ _ _
   | exact LeO.none _
   | refine LeO.ite ?_ ?_
   | refine LeO.bind ?_ (fun _ => ?_)
theorem impl_IsValidLedger.mono : ∀ a0 a1 k, LeO (impl_IsValidLedger.f k a0 a1) (impl_IsValidLedger.f (k + 1) a0 a1) := by
 intro a0 a1 k
 obtain ⟨ih0, ih1, ih2, ih3, ih4, ih5⟩ := impl_IsValidLedger.mono_l k
 unfold impl_IsValidLedger.f
 repeat' first
  | (with_reducible exact ih0 _ _ _)
  | (with_reducible exact ih1 _ _ _ _ _)
  | (with_reducible exact ih2 _ _ _ _ _ _)
  | (with_reducible exact ih3 _ _ _ _ _ _)
  | (with_reducible exact ih4 _ _ _ _ _ _ _ _ _ _)
  | (with_reducible exact ih5 _ _ _ _ _ _ _ _ _)
  | (with_reducible exact impl_isMemo.mono _ _)
  | (with_reducible exact impl_isPosted.mono _ _ _ _ _)
  | (with_reducible exact slices_ContainsFunc_Account_Account_impl_IsValidLedger_1.mono _ _ _ _)
  | (with_reducible exact LeO.refl _)
  | (with_reducible exact LeO.none _)
  | (with_reducible refine LeO.ite ?_ ?_)
  | (with_reducible refine LeO.bind ?_ (fun _ => ?_))
  | exact ih0 _ _ _
  | exact ih1 _ _ _ _ _
  | exact ih2 _ _ _ _ _ _
  | exact ih3 _ _ _ _ _ _
  | exact ih4 _ _ _ _ _ _ _ _ _ _
  | exact ih5 _ _ _ _ _ _ _ _ _
  | exact impl_isMemo.mono _ _
  | exact impl_isPosted.mono _ _ _ _ _
  | exact slices_ContainsFunc_Account_Account_impl_IsValidLedger_1.mono _ _ _ _
  | exact LeO.none _
  | refine LeO.ite ?_ ?_
  | refine LeO.bind ?_ (fun _ => ?_)
def impl_IsValidLedger.T13 : Bool × List (List Nat × List Nat) := (true, [([], []), ([0], [0]), ([1], [1]), ([2], [2]), ([3, 2], [3]), ([4], [4]), ([5, 4], [4, 5]), ([6, 4, 4], [4, 6]), ([7], [7]), ([8, 7], [7, 8]), ([7], [7]), ([10, 7], [7, 10]), ([7], [7]), ([12, 7], [7, 12]), ([11, 13, 7], [7, 11, 13]), ([14, 7], [7, 14]), ([15, 7], [7, 15]), ([9, 16, 7], [7, 9, 16]), ([7, 17, 4], [4, 7, 17]), ([4, 18], [4, 18]), ([19, 7], [19]), ([20], [20]), ([21, 20], [20, 21]), ([22, 20, 20], [20, 22]), ([23, 20], [20, 23]), ([20, 24], [20, 24]), ([25, 23], [25]), ([26], [26]), ([26], [26]), ([28, 26], [26, 28]), ([29, 26], [26, 29]), ([27, 30, 26, 26], [26, 27, 30]), ([31, 26], [26, 31]), ([26, 32], [26, 32])])
def impl_IsValidLedger.B13 : List Nat := [0, 1, 3, 7, 15, 31, 63, 127, 255, 511, 255, 1279, 255, 4351, 15615, 31999, 64767, 131071, 262143, 524287, 1048575, 2097151, 4194303, 8388607, 16777215, 33554431, 67108863, 134217727, 134217727, 402653183, 939524095, 2147483647, 4294967295, 8589934591]
theorem impl_IsValidLedger.tab13 : rtab .any (opsOf Tryd.f17 13) = impl_IsValidLedger.T13 := by kernel_rfl
theorem impl_IsValidLedger.bits13 : waitsOk impl_IsValidLedger.T13.2 impl_IsValidLedger.B13 = true := by kernel_rfl
def impl_IsValidLedger.T18 : Bool × List (List Nat × List Nat) := (true, [([], []), ([], []), ([1], [1]), ([0, 2], [0, 2]), ([3], [3]), ([], []), ([5], [5]), ([4, 6], [4, 6]), ([0, 2, 0, 1, 2, 3, 4, 5, 6, 7], [0, 2]), ([8, 7, 0, 1, 2, 3, 4, 5, 6, 7], [7, 8])])
def impl_IsValidLedger.B18 : List Nat := [0, 0, 2, 7, 15, 0, 32, 127, 255, 511]
theorem impl_IsValidLedger.tab18 : rtab .any (opsOf Tryd.f17 18) = impl_IsValidLedger.T18 := by kernel_rfl
theorem impl_IsValidLedger.bits18 : waitsOk impl_IsValidLedger.T18.2 impl_IsValidLedger.B18 = true := by kernel_rfl
set_option maxHeartbeats 8000000 in
set_option maxRecDepth 100000 in
theorem impl_IsValidLedger.calls (k : Nat) (A0_0 : Option Addr) (c0_0 : Nat) (l0_0 : List (S48)) (A0_1 : Option Addr) (c0_1 : Nat) (l0_1 : List (S63)) (r : Bool) (w : World) (hr0_0 : Kd.C k48 w A0_0 l0_0.length l0_0) (hc0_0 : l0_0.length ≤ c0_0) (hr0_1 : Kd.C k63 w A0_1 l0_1.length l0_1) (hc0_1 : l0_1.length ≤ c0_1) (h : impl_IsValidLedger.f k l0_0 l0_1 = some r) :
 Calls Tryd.prog 17 #[.agg #[.slice A0_0 l0_0.length c0_0, .slice A0_1 l0_1.length c0_1]] w fun e w' => e = .returned (.bool r) ∧ Below w.heap.size w w' := by
 have hu31 := Tryd.underlying31
 have hu48 := Tryd.underlying48
 have hu63 := Tryd.underlying63
 have hu70 := Tryd.underlying70
 have HR0_0 := Aside0.mk hr0_0
 have HC0_0 := Aside0.mk hc0_0
 clear hr0_0 hc0_0
 have HR0_1 := Aside0.mk hr0_1
 have HC0_1 := Aside0.mk hc0_1
 clear hr0_1 hc0_1
 have HB := Aside0.mk (Below.refl w.heap.size w)
 have H : (if (l0_0.length : Int) > 12 then (impl_IsValidLedger.j0 k true l0_0 l0_1) else (impl_IsValidLedger.j0 k (decide ((l0_1.length : Int) > 40)) l0_0 l0_1)) = some r := h
 clear h
 have HC2 := Aside0.mk H
 clear H
 go_enter Tryd.func17, Tryd.ntmps17
 go_upto_region 1 with (first | ((with_reducible refine gate_dst (N := 1) rfl ?_); (try (refine gate_guard (by rfl) ?_; dsimp only)); refine box_event ?hg (N := 1) ?hd (cs := #[.slice A0_0 l0_0.length c0_0, .slice A0_1 l0_1.length c0_1]) (t := 31) ?hr ?_; (case hd => rfl); (case hg => rfl); (case hr => first | (go_simp; done) | (go_simp; rfl)); intro gb204 hg w3 hbox hb; have n0_ := Aside0.mk (below_step ZZ605003 hb); have n1_ := Aside0.mk (hbox); have n2_ := Aside0.mk ((by rw [hg]; exact (below_size ZZ605003) : w.heap.size ≤ gb204)); have n3_ := Aside0.mk ((by rw [hg]; exact (below_size ZZ605003) : w.heap.size ≤ gb204)); clear HB; have HB := n0_; have BK204 := n1_; have GW204 := n2_; have GE204 := n3_; clear n0_ n1_ n2_ n3_; clear hb hbox hg))
 (try simp only [Act.put, List.setIfInBounds_toArray, List.set_cons_zero, List.set_cons_succ])
 go_cut [19] (fun v19 wc => ∃ (kq : Nat) (x19_1 : Bool), v19 = .bool x19_1 ∧ Aside0 (impl_IsValidLedger.j0 kq x19_1 l0_0 l0_1 = some r) ∧ Aside0 (kq ≤ k) ∧ Aside0 (wc.heap[gb204]? = some (.cells #[(.slice A0_0 l0_0.length c0_0), (.slice A0_1 l0_1.length c0_1)] 31 (0, 0))) ∧ Aside0 (Below w.heap.size w wc))
 case first =>
  have H := HC2.out
  clear HC2
  by_cases c4 : (l0_0.length : Int) > 12
  ·rw [if_pos c4] at H
   have c4b0 : decide (12 < (l0_0.length : Int)) = true := decide_eq_true c4
   have c4b1 : decide (12 < l0_0.length) = true := decide_eq_true (by omega)
   clear c4
   (first | rw [c4b0] | (simp only [i64_w, i32_w]; rw [c4b0]) | skip)
   have H' := Aside0.mk H
   clear H
   have hcz5_0 : w3.cell? ⟨gb204, 0, none⟩ = some (.slice A0_0 l0_0.length c0_0) := (blk_cell BK204.out 0).trans rfl
   have hcz5_1 : w3.cell? ⟨gb204, 1, none⟩ = some (.slice A0_1 l0_1.length c0_1) := (blk_cell BK204.out 1).trans rfl
   have hfz5_0 := blk_frozen BK204.out 0
   have hfz5_1 := blk_frozen BK204.out 1
   go_wp2
   go_meet
   case rel => exact ⟨_, (true), ZZ0ab324, H', ⟨by first | omega | exact Nat.le_refl _⟩, ⟨by (with_reducible repeat (first | refine blk_drewN ?_ _ | refine blk_drew ?_ | refine blk_alloc ?_ _)); exact BK204.out⟩, ⟨by repeat (first | (with_reducible first | exact HB.out | apply below_alloc | apply pw_below_drewN | apply below_drew1 | refine below_set ?_ GE204.out) | exact HB.out)⟩⟩
  ·rw [if_neg c4] at H
   have c4b0 : decide (12 < (l0_0.length : Int)) = false := decide_eq_false c4
   have c4b1 : decide (12 < l0_0.length) = false := decide_eq_false (by omega)
   clear c4
   (first | rw [c4b0] | (simp only [i64_w, i32_w]; rw [c4b0]) | skip)
   have H' := Aside0.mk H
   clear H
   have hcz6_0 : w3.cell? ⟨gb204, 0, none⟩ = some (.slice A0_0 l0_0.length c0_0) := (blk_cell BK204.out 0).trans rfl
   have hcz6_1 : w3.cell? ⟨gb204, 1, none⟩ = some (.slice A0_1 l0_1.length c0_1) := (blk_cell BK204.out 1).trans rfl
   have hfz6_0 := blk_frozen BK204.out 0
   have hfz6_1 := blk_frozen BK204.out 1
   go_wp2
   go_meet
   case rel => exact ⟨_, (decide ((l0_1.length : Int) > 40)), ZZ0ab324, H', ⟨by first | omega | exact Nat.le_refl _⟩, ⟨by (with_reducible repeat (first | refine blk_drewN ?_ _ | refine blk_drew ?_ | refine blk_alloc ?_ _)); exact BK204.out⟩, ⟨by repeat (first | (with_reducible first | exact HB.out | apply below_alloc | apply pw_below_drewN | apply below_drew1 | refine below_set ?_ GE204.out) | exact HB.out)⟩⟩
 case rest =>
  clear HC2
  try clear c1
  try clear p2
  try clear c4
  try clear c4b0
  try clear c4b1
  try clear hcz5_0
  try clear hcz5_1
  try clear hcz6_0
  try clear hcz6_1
  try clear hfz5_0
  try clear hfz5_1
  try clear hfz6_0
  try clear hfz6_1
  obtain ⟨kq, x19_1, rfl, HA, HJ1, BK204, HB⟩ := hcut
  cases kq with
  | zero => exact absurd HA.out (by simp [impl_IsValidLedger.j0])
  | succ kj1 =>
   have H := HA.out
   clear HA
   simp only [impl_IsValidLedger.j0] at H
   by_cases c7 : x19_1 = true
   ·subst c7
    have H1 : (some false) = some r := by rw [if_pos rfl] at H; exact H
    clear H
    have H := H1
    clear H1
    obtain rfl := Option.some.inj H
    go_wp2
    go_ret
    exact ⟨by first | rfl | (simp [errW_none, errW_some] <;> rfl) | (simp [*, errW_none, errW_some] <;> rfl), by repeat (first | (with_reducible first | exact HB.out | apply below_alloc | apply pw_below_drewN | apply below_drew1 | refine below_set ?_ GE204.out) | exact HB.out)⟩
   ·replace c7 := Bool.eq_false_iff.mpr c7
    subst c7
    have H1 : (impl_IsValidLedger.l0 kj1 l0_0 (l0_0.length : Int) 0 l0_0 l0_1) = some r := by rw [if_neg (show ¬ (false = true) by decide)] at H; exact H
    clear H
    have H := H1
    clear H1
    have H' := Aside0.mk H
    clear H
    have hcz8_0 : wc.cell? ⟨gb204, 0, none⟩ = some (.slice A0_0 l0_0.length c0_0) := (blk_cell BK204.out 0).trans rfl
    have hcz8_1 : wc.cell? ⟨gb204, 1, none⟩ = some (.slice A0_1 l0_1.length c0_1) := (blk_cell BK204.out 1).trans rfl
    have hfz8_0 := blk_frozen BK204.out 0
    have hfz8_1 := blk_frozen BK204.out 1
    go_wp2
    go_loopg [23] kj1 (fun kq v23 w' => ∃ (x23_2 : Int), v23 = .int .i64 x23_2 ∧ Aside0 (impl_IsValidLedger.l0 kq l0_0 (l0_0.length : Int) x23_2 l0_0 l0_1 = some r) ∧ Aside0 (kq ≤ kj1) ∧ Aside0 (w'.heap[gb204]? = some (.cells #[(.slice A0_0 l0_0.length c0_0), (.slice A0_1 l0_1.length c0_1)] 31 (0, 0))) ∧ Aside0 (Below w.heap.size w w'))
    case atStart => exact ⟨(0), ZZ0ab324, H', ⟨Nat.le_refl _⟩, ⟨by (with_reducible repeat (first | refine blk_drewN ?_ _ | refine blk_drew ?_ | refine blk_alloc ?_ _)); exact BK204.out⟩, ⟨by repeat (first | (with_reducible first | exact HB.out | apply below_alloc | apply pw_below_drewN | apply below_drew1 | refine below_set ?_ GE204.out) | exact HB.out)⟩⟩
    case round =>
     clear H'
     try clear c1
     try clear p2
     try clear c4
     try clear c4b0
     try clear c4b1
     try clear c7
     try clear hcz5_0
     try clear hcz5_1
     try clear hcz6_0
     try clear hcz6_1
     try clear hcz8_0
     try clear hcz8_1
     try clear hfz5_0
     try clear hfz5_1
     try clear hfz6_0
     try clear hfz6_1
     try clear hfz8_0
     try clear hfz8_1
     try clear p2
     obtain ⟨x23_2, rfl, HA, HK2, BK204, HB⟩ := hrel
     cases gk with
     | zero => exact absurd HA.out (by simp [impl_IsValidLedger.l0])
     | succ k2 =>
      have H := HA.out
      clear HA
      simp only [impl_IsValidLedger.l0] at H
      by_cases c9 : x23_2 < (l0_0.length : Int)
      ·rw [if_pos c9] at H
       have c9b0 : decide (x23_2 < (l0_0.length : Int)) = true := decide_eq_true c9
       clear c9
       by_cases c10 : 0 ≤ x23_2
       ·rw [if_pos c10] at H
        have c10b0 : decide (0 ≤ x23_2) = true := decide_eq_true c10
        clear c10
        by_cases c11 : x23_2 < (l0_0.length : Int)
        ·rw [if_pos c11] at H
         have c11b0 : decide (x23_2 < (l0_0.length : Int)) = true := decide_eq_true c11
         clear c11
         have HC12 := Aside0.mk H
         clear H
         have p205 : 0 ≤ (x23_2 : Int) := of_decide_eq_true ZZ853400
         have q205 : x23_2 < (l0_0.length : Int) := of_decide_eq_true ZZ853400
         obtain ⟨ad205, e205, hx205_0, hx205_1⟩ := at_T48 HR0_0.out x23_2 p205 q205
         cases e205
         replace hx205_0 := (HB.out.cell (World.block_lt_of_cell? w _ hx205_0)).trans hx205_0
         replace hx205_1 := (HB.out.cell (World.block_lt_of_cell? w _ hx205_1)).trans hx205_1
         replace p205 := eq_true p205
         replace q205 := eq_true q205
         go_upto_region 6 with (first | ((with_reducible refine gate_dst (N := 4) rfl ?_); (try (refine gate_guard (by rfl) ?_; dsimp only)); refine box_event ?hg (N := 4) ?hd (cs := #[.string (⟨#[]⟩ : ByteArray), .int .i64 0]) (t := 48) ?hr ?_; (case hd => rfl); (case hg => rfl); (case hr => first | (go_simp; done) | (go_simp; rfl)); intro gb206 hg w13 hbox hb; have n0_ := Aside0.mk (blk_below (g := gb204) (o := .cells #[.slice (some ad205) l0_0.length c0_0, .slice A0_1 l0_1.length c0_1] 31 (0, 0)) ZZa30d0d hb); have n1_ := Aside0.mk (below_step ZZcebc8a hb); have n2_ := Aside0.mk (hbox); have n3_ := Aside0.mk ((by rw [hg]; exact (below_size ZZcebc8a) : w.heap.size ≤ gb206)); have n4_ := Aside0.mk ((by rw [hg]; exact (below_size ZZcebc8a) : w.heap.size ≤ gb206)); have n5_ := Aside0.mk ((by rw [hg]; exact Nat.ne_of_lt (blk_lt (g := gb204) (o := .cells #[.slice (some ad205) l0_0.length c0_0, .slice A0_1 l0_1.length c0_1] 31 (0, 0)) ZZa30d0d) : gb204 ≠ gb206)); have n6_ := Aside0.mk ((by rw [hg]; exact Nat.ne_of_gt (blk_lt (g := gb204) (o := .cells #[.slice (some ad205) l0_0.length c0_0, .slice A0_1 l0_1.length c0_1] 31 (0, 0)) ZZa30d0d) : gb206 ≠ gb204)); clear BK204; clear HB; have BK204 := n0_; have HB := n1_; have BK206 := n2_; have GW206 := n3_; have GE206 := n4_; have NB204_206 := n5_; have NB206_204 := n6_; clear n0_ n1_ n2_ n3_ n4_ n5_ n6_; clear hb hbox hg; have hnb14 := NB206_204.out; have hnc14 := NB204_206.out; have hcz15_0 : w13.cell? ⟨gb206, 0, none⟩ = some (.string (⟨#[]⟩ : ByteArray)) := (blk_cell BK206.out 0).trans rfl; have hcz15_1 : w13.cell? ⟨gb206, 1, none⟩ = some (.int .i64 0) := (blk_cell BK206.out 1).trans rfl; have hfz15_0 := blk_frozen BK206.out 0; have hfz15_1 := blk_frozen BK206.out 1))
         (try simp only [Act.put, List.setIfInBounds_toArray, List.set_cons_zero, List.set_cons_succ])
         go_cut [45] (fun v45 wc => ∃ (kq : Nat) (x45_11 : Bool) (x207000_11 : ByteArray) (x207001_11 : Int), v45 = .bool x45_11 ∧ Aside0 (impl_IsValidLedger.j2 kq l0_0 (l0_0.length : Int) x23_2 x45_11 l0_0 l0_1 = some r) ∧ Aside0 (kq ≤ k2) ∧ Aside0 (wc.heap[gb204]? = some (.cells #[(.slice (some ad205) l0_0.length c0_0), (.slice A0_1 l0_1.length c0_1)] 31 (0, 0))) ∧ Aside0 (wc.heap[gb206]? = some (.cells #[.string x207000_11, .int .i64 x207001_11] 48 (0, 0))) ∧ Aside0 (Below w.heap.size w wc))
         case first =>
          have H := HC12.out
          clear HC12
          replace H := Option.bind_eq_some_iff.mp H
          obtain ⟨t207, A160, H⟩ := H
          replace H : (if t207 = true then ((impl_within.f ((rd_T48 l0_0 x23_2).f1) 1 5).bind fun t208 => (if t208 = true then (if x23_2 ≤ (l0_0.length : Int) then ((slices_ContainsFunc_Account_Account_impl_IsValidLedger_1.f k2 (l0_0.take (x23_2 : Int).toNat) ((rd_T48 l0_0 x23_2).f0) ((rd_T48 l0_0 x23_2).f1)).bind fun bt221 => (impl_IsValidLedger.j2 k2 l0_0 (l0_0.length : Int) x23_2 bt221.1 l0_0 l0_1)) else (none)) else (impl_IsValidLedger.j2 k2 l0_0 (l0_0.length : Int) x23_2 true l0_0 l0_1))) else (impl_IsValidLedger.j2 k2 l0_0 (l0_0.length : Int) x23_2 true l0_0 l0_1)) = some r := H
          have A16 := Aside0.mk A160
          clear A160
          by_cases c17 : t207 = true
          ·subst c17
           have H1 : ((impl_within.f ((rd_T48 l0_0 x23_2).f1) 1 5).bind fun t208 => (if t208 = true then (if x23_2 ≤ (l0_0.length : Int) then ((slices_ContainsFunc_Account_Account_impl_IsValidLedger_1.f k2 (l0_0.take (x23_2 : Int).toNat) ((rd_T48 l0_0 x23_2).f0) ((rd_T48 l0_0 x23_2).f1)).bind fun bt221 => (impl_IsValidLedger.j2 k2 l0_0 (l0_0.length : Int) x23_2 bt221.1 l0_0 l0_1)) else (none)) else (impl_IsValidLedger.j2 k2 l0_0 (l0_0.length : Int) x23_2 true l0_0 l0_1))) = some r := by rw [if_pos rfl] at H; exact H
           clear H
           have H := H1
           clear H1
           replace H := Option.bind_eq_some_iff.mp H
           obtain ⟨t208, A180, H⟩ := H
           replace H : (if t208 = true then (if x23_2 ≤ (l0_0.length : Int) then ((slices_ContainsFunc_Account_Account_impl_IsValidLedger_1.f k2 (l0_0.take (x23_2 : Int).toNat) ((rd_T48 l0_0 x23_2).f0) ((rd_T48 l0_0 x23_2).f1)).bind fun bt221 => (impl_IsValidLedger.j2 k2 l0_0 (l0_0.length : Int) x23_2 bt221.1 l0_0 l0_1)) else (none)) else (impl_IsValidLedger.j2 k2 l0_0 (l0_0.length : Int) x23_2 true l0_0 l0_1)) = some r := H
           have A18 := Aside0.mk A180
           clear A180
           by_cases c19 : t208 = true
           ·subst c19
            have H1 : (if x23_2 ≤ (l0_0.length : Int) then ((slices_ContainsFunc_Account_Account_impl_IsValidLedger_1.f k2 (l0_0.take (x23_2 : Int).toNat) ((rd_T48 l0_0 x23_2).f0) ((rd_T48 l0_0 x23_2).f1)).bind fun bt221 => (impl_IsValidLedger.j2 k2 l0_0 (l0_0.length : Int) x23_2 bt221.1 l0_0 l0_1)) else (none)) = some r := by rw [if_pos rfl] at H; exact H
            clear H
            have H := H1
            clear H1
            have c20b0 := eq_true (of_decide_eq_true ZZ853400 : 0 ≤ x23_2)
            by_cases c21 : x23_2 ≤ (l0_0.length : Int)
            ·rw [if_pos c21] at H
             have c21b0 := eq_true c21
             have c21b1 : decide (x23_2 ≤ (l0_0.length : Int)) = true := decide_eq_true c21
             clear c21
             obtain ⟨y209, hy209⟩ : ∃ y_ : List (S48), y_ = (l0_0.take (x23_2 : Int).toNat) := ⟨_, rfl⟩
             replace H : ((slices_ContainsFunc_Account_Account_impl_IsValidLedger_1.f k2 y209 ((rd_T48 l0_0 x23_2).f0) ((rd_T48 l0_0 x23_2).f1)).bind fun bt221 => (impl_IsValidLedger.j2 k2 l0_0 (l0_0.length : Int) x23_2 bt221.1 l0_0 l0_1)) = some r := by first | (rw [hy209]; with_reducible exact H) | (have H2_ := (Option.bind_some _ _).symm.trans H; rw [hy209]; with_reducible exact H2_) | (have H2_ := (Option.bind_some _ _).symm.trans H; with_reducible exact H2_) | with_reducible exact H | (rw [hy209]; exact H) | exact H
             have Ny209 := Aside0.mk hy209
             clear hy209
             replace H := Option.bind_eq_some_iff.mp H
             obtain ⟨⟨t221, t222, t223⟩, A220, H⟩ := H
             replace H : (impl_IsValidLedger.j2 k2 l0_0 (l0_0.length : Int) x23_2 t221 l0_0 l0_1) = some r := H
             have A22 := Aside0.mk A220
             clear A220
             have H' := Aside0.mk H
             clear H
             have hnb23 := NB206_204.out
             have hnc23 := NB204_206.out
             have hcz24_0 : w13.cell? ⟨gb206, 0, none⟩ = some (.string (⟨#[]⟩ : ByteArray)) := (blk_cell BK206.out 0).trans rfl
             have hcz24_1 : w13.cell? ⟨gb206, 1, none⟩ = some (.int .i64 0) := (blk_cell BK206.out 1).trans rfl
             have hfz24_0 := blk_frozen BK206.out 0
             have hfz24_1 := blk_frozen BK206.out 1
             go_wp2_with (first | ((with_reducible refine gate_callee (f := 55) rfl ?_); refine goesL_ (some 30) rfl rfl Tryd.func55 (by kernel_rfl) rfl #[.string ((rd_T48 l0_0 x23_2).f0)] rfl ZZ19826e ?_; (with_reducible refine (impl_isAccountName.calls ((rd_T48 l0_0 x23_2).f0) true _ A16.out).mono ?_); rintro e w25 ⟨rfl, hb⟩; refine ⟨_, rfl, ?_⟩; have n0_ := Aside0.mk (blk_below (g := gb204) (o := .cells #[.slice (some ad205) l0_0.length c0_0, .slice A0_1 l0_1.length c0_1] 31 (0, 0)) ZZa5b54a hb); have n1_ := Aside0.mk (blk_below (g := gb206) (o := .cells #[.string ((rd_T48 l0_0 x23_2).f0), .int .i64 ((rd_T48 l0_0 x23_2).f1)] 48 (0, 0)) ZZ8482de hb); have n2_ := Aside0.mk (below_step (by repeat (first | (with_reducible first | exact HB.out | apply below_alloc | apply pw_below_drewN | apply below_drew1 | refine below_set ?_ GE204.out | refine below_set ?_ GE206.out) | exact HB.out)) hb); clear BK204; clear BK206; clear HB; have BK204 := n0_; have BK206 := n1_; have HB := n2_; clear n0_ n1_ n2_; (try clear hb); (try clear hb2); (try clear hk); (try clear hi); have hcz26_0 : w25.cell? ⟨gb206, 0, none⟩ = some (.string ((rd_T48 l0_0 x23_2).f0)) := (blk_cell BK206.out 0).trans rfl; have hcz26_1 : w25.cell? ⟨gb206, 1, none⟩ = some (.int .i64 ((rd_T48 l0_0 x23_2).f1)) := (blk_cell BK206.out 1).trans rfl; have hfz26_0 := blk_frozen BK206.out 0; have hfz26_1 := blk_frozen BK206.out 1) | (go_at_call 56; (with_reducible refine (impl_within.calls ((rd_T48 l0_0 x23_2).f1) 1 5 true _ A18.out).mono ?_); rintro e w' ⟨rfl, ⟨nd, rfl⟩⟩; have hcz27_0 : w25.cell? ⟨gb204, 0, none⟩ = some (.slice (some ad205) l0_0.length c0_0) := (blk_cell BK204.out 0).trans rfl; have hcz27_1 : w25.cell? ⟨gb204, 1, none⟩ = some (.slice A0_1 l0_1.length c0_1) := (blk_cell BK204.out 1).trans rfl; have hfz27_0 := blk_frozen BK204.out 0; have hfz27_1 := blk_frozen BK204.out 1; have q28 : (x23_2 : Int) ≤ ((l0_0.length : Int) : Int) := of_decide_eq_true ZZ853400; obtain ⟨i028, hi028, _, hsz28, _⟩ := info_parts info48; have hroom28 : l0_0.length ≤ c0_0 := HC0_0.out; have hC28 : Kd.C k48 _ (some ad205) l0_0.length l0_0 := HR0_0.out; have hcut28 := cut_to (P := Tryd.prog) 28 48 .i64 Tryd.underlying28 hi028 (some ad205) l0_0.length c0_0 x23_2 (of_decide_eq_true ZZ853400) q28 hroom28; have hr28 := Kd.C_take (m := (x23_2 : Int).toNat) hC28 (by omega); have hy28 : y209.length = (x23_2 : Int).toNat := (by rw [Ny209.out, List.length_take]; omega); rw [← Ny209.out] at hr28; rw [← hy28] at hcut28; have HR212 := Aside0.mk hr28; have HC212 := Aside0.mk (show y209.length ≤ c0_0 from by omega); clear hr28 hC28 hroom28 hi028 hsz28; have KY28 := Aside0.mk hy28; clear hy28; replace q28 := eq_true q28; have HI206 := Aside0.mk (show IsS48 w _ gb206 ((rd_T48 l0_0 x23_2).f0) ((rd_T48 l0_0 x23_2).f1) from ⟨BK206.out, GE206.out⟩); clear BK206) | (go_at_call 57; (with_reducible refine (slices_ContainsFunc_Account_Account_impl_IsValidLedger_1.calls k2 _ _ y209 gb206 ((rd_T48 l0_0 x23_2).f0) ((rd_T48 l0_0 x23_2).f1) t221 t222 t223 w _ ?side1 ?side2 ?side3 ?side4 A22.out).mono ?_); (case side1 => repeat (first | (with_reducible first | exact HI206.out | apply IsS48.alloc | apply IsS48.drewN | apply IsS48.drew | apply IsS48.set_0 | apply IsS48.set_1 | refine IsS48.far ?_ NB206_204.out _) | exact HI206.out)); (case side2 => repeat (first | (with_reducible first | exact HB.out | apply below_alloc | apply pw_below_drewN | apply below_drew1 | refine below_set ?_ (IsS48.ge HI206.out) | refine below_set ?_ GE204.out) | exact HB.out)); (case side3 => exact Kd.C_foot_came k48_heap HR212.out (by repeat (first | (with_reducible first | exact HB.out | apply below_alloc | apply pw_below_drewN | apply below_drew1 | refine below_set ?_ (IsS48.ge HI206.out) | refine below_set ?_ GE204.out) | exact HB.out)) (IsS48.ge HI206.out)); (case side4 => exact HC212.out); rintro e w29 ⟨rfl, hi, hb, hk⟩; have n0_ := Aside0.mk (KeepBut.blk hk (g' := gb204) (o := .cells #[.slice (some ad205) l0_0.length c0_0, .slice A0_1 l0_1.length c0_1] 31 (0, 0)) ZZa30d0d NB204_206.out (by simp)); have n1_ := Aside0.mk (hb); have n2_ := Aside0.mk (hi); clear BK204; clear HB; clear HI206; have BK204 := n0_; have HB := n1_; have HI206 := n2_; clear n0_ n1_ n2_; (try clear hb); (try clear hb2); (try clear hk); (try clear hi); obtain ⟨hbx_, _⟩ := HI206.out; have BK206 := Aside0.mk hbx_; clear hbx_ HI206))
             go_meet
             case rel => exact ⟨_, (t221), (t222), (t223), ZZ0ab324, H', ⟨by have := HJ1.out; have := HK2.out; first | omega | exact Nat.le_refl _⟩, ⟨by (with_reducible repeat (first | refine blk_drewN ?_ _ | refine blk_drew ?_ | refine blk_alloc ?_ _)); exact BK204.out⟩, ⟨by (with_reducible repeat (first | refine blk_drewN ?_ _ | refine blk_drew ?_ | refine blk_alloc ?_ _)); exact BK206.out⟩, ⟨by repeat (first | (with_reducible first | exact HB.out | apply below_alloc | apply pw_below_drewN | apply below_drew1 | refine below_set ?_ GE204.out | refine below_set ?_ GE206.out) | exact HB.out)⟩⟩
            ·rw [if_neg c21] at H
             exact absurd H (by simp)
           ·replace c19 := Bool.eq_false_iff.mpr c19
            subst c19
            have H1 : (impl_IsValidLedger.j2 k2 l0_0 (l0_0.length : Int) x23_2 true l0_0 l0_1) = some r := by rw [if_neg (show ¬ (false = true) by decide)] at H; exact H
            clear H
            have H := H1
            clear H1
            have H' := Aside0.mk H
            clear H
            have hnb30 := NB206_204.out
            have hnc30 := NB204_206.out
            have hcz31_0 : w13.cell? ⟨gb206, 0, none⟩ = some (.string (⟨#[]⟩ : ByteArray)) := (blk_cell BK206.out 0).trans rfl
            have hcz31_1 : w13.cell? ⟨gb206, 1, none⟩ = some (.int .i64 0) := (blk_cell BK206.out 1).trans rfl
            have hfz31_0 := blk_frozen BK206.out 0
            have hfz31_1 := blk_frozen BK206.out 1
            go_wp2_with (first | ((with_reducible refine gate_callee (f := 55) rfl ?_); refine goesL_ (some 30) rfl rfl Tryd.func55 (by kernel_rfl) rfl #[.string ((rd_T48 l0_0 x23_2).f0)] rfl ZZ19826e ?_; (with_reducible refine (impl_isAccountName.calls ((rd_T48 l0_0 x23_2).f0) true _ A16.out).mono ?_); rintro e w32 ⟨rfl, hb⟩; refine ⟨_, rfl, ?_⟩; have n0_ := Aside0.mk (blk_below (g := gb204) (o := .cells #[.slice (some ad205) l0_0.length c0_0, .slice A0_1 l0_1.length c0_1] 31 (0, 0)) ZZa5b54a hb); have n1_ := Aside0.mk (blk_below (g := gb206) (o := .cells #[.string ((rd_T48 l0_0 x23_2).f0), .int .i64 ((rd_T48 l0_0 x23_2).f1)] 48 (0, 0)) ZZ8482de hb); have n2_ := Aside0.mk (below_step (by repeat (first | (with_reducible first | exact HB.out | apply below_alloc | apply pw_below_drewN | apply below_drew1 | refine below_set ?_ GE204.out | refine below_set ?_ GE206.out) | exact HB.out)) hb); clear BK204; clear BK206; clear HB; have BK204 := n0_; have BK206 := n1_; have HB := n2_; clear n0_ n1_ n2_; (try clear hb); (try clear hb2); (try clear hk); (try clear hi); have hcz33_0 : w32.cell? ⟨gb206, 0, none⟩ = some (.string ((rd_T48 l0_0 x23_2).f0)) := (blk_cell BK206.out 0).trans rfl; have hcz33_1 : w32.cell? ⟨gb206, 1, none⟩ = some (.int .i64 ((rd_T48 l0_0 x23_2).f1)) := (blk_cell BK206.out 1).trans rfl; have hfz33_0 := blk_frozen BK206.out 0; have hfz33_1 := blk_frozen BK206.out 1) | (go_at_call 56; (with_reducible refine (impl_within.calls ((rd_T48 l0_0 x23_2).f1) 1 5 false _ A18.out).mono ?_); rintro e w' ⟨rfl, ⟨nd, rfl⟩⟩))
            go_meet
            case rel => exact ⟨_, (true), ((rd_T48 l0_0 x23_2).f0), ((rd_T48 l0_0 x23_2).f1), ZZ0ab324, H', ⟨by have := HJ1.out; have := HK2.out; first | omega | exact Nat.le_refl _⟩, ⟨by (with_reducible repeat (first | refine blk_drewN ?_ _ | refine blk_drew ?_ | refine blk_alloc ?_ _)); exact BK204.out⟩, ⟨by (with_reducible repeat (first | refine blk_drewN ?_ _ | refine blk_drew ?_ | refine blk_alloc ?_ _)); exact BK206.out⟩, ⟨by repeat (first | (with_reducible first | exact HB.out | apply below_alloc | apply pw_below_drewN | apply below_drew1 | refine below_set ?_ GE204.out | refine below_set ?_ GE206.out) | exact HB.out)⟩⟩
          ·replace c17 := Bool.eq_false_iff.mpr c17
           subst c17
           have H1 : (impl_IsValidLedger.j2 k2 l0_0 (l0_0.length : Int) x23_2 true l0_0 l0_1) = some r := by rw [if_neg (show ¬ (false = true) by decide)] at H; exact H
           clear H
           have H := H1
           clear H1
           have H' := Aside0.mk H
           clear H
           have hnb34 := NB206_204.out
           have hnc34 := NB204_206.out
           have hcz35_0 : w13.cell? ⟨gb206, 0, none⟩ = some (.string (⟨#[]⟩ : ByteArray)) := (blk_cell BK206.out 0).trans rfl
           have hcz35_1 : w13.cell? ⟨gb206, 1, none⟩ = some (.int .i64 0) := (blk_cell BK206.out 1).trans rfl
           have hfz35_0 := blk_frozen BK206.out 0
           have hfz35_1 := blk_frozen BK206.out 1
           go_wp2_with (first | ((with_reducible refine gate_callee (f := 55) rfl ?_); refine goesL_ (some 30) rfl rfl Tryd.func55 (by kernel_rfl) rfl #[.string ((rd_T48 l0_0 x23_2).f0)] rfl ZZ19826e ?_; (with_reducible refine (impl_isAccountName.calls ((rd_T48 l0_0 x23_2).f0) false _ A16.out).mono ?_); rintro e w36 ⟨rfl, hb⟩; refine ⟨_, rfl, ?_⟩; have n0_ := Aside0.mk (blk_below (g := gb204) (o := .cells #[.slice (some ad205) l0_0.length c0_0, .slice A0_1 l0_1.length c0_1] 31 (0, 0)) ZZa5b54a hb); have n1_ := Aside0.mk (blk_below (g := gb206) (o := .cells #[.string ((rd_T48 l0_0 x23_2).f0), .int .i64 ((rd_T48 l0_0 x23_2).f1)] 48 (0, 0)) ZZ8482de hb); have n2_ := Aside0.mk (below_step (by repeat (first | (with_reducible first | exact HB.out | apply below_alloc | apply pw_below_drewN | apply below_drew1 | refine below_set ?_ GE204.out | refine below_set ?_ GE206.out) | exact HB.out)) hb); clear BK204; clear BK206; clear HB; have BK204 := n0_; have BK206 := n1_; have HB := n2_; clear n0_ n1_ n2_; (try clear hb); (try clear hb2); (try clear hk); (try clear hi)))
           go_meet
           case rel => exact ⟨_, (true), ((rd_T48 l0_0 x23_2).f0), ((rd_T48 l0_0 x23_2).f1), ZZ0ab324, H', ⟨by have := HJ1.out; have := HK2.out; first | omega | exact Nat.le_refl _⟩, ⟨by (with_reducible repeat (first | refine blk_drewN ?_ _ | refine blk_drew ?_ | refine blk_alloc ?_ _)); exact BK204.out⟩, ⟨by (with_reducible repeat (first | refine blk_drewN ?_ _ | refine blk_drew ?_ | refine blk_alloc ?_ _)); exact BK206.out⟩, ⟨by repeat (first | (with_reducible first | exact HB.out | apply below_alloc | apply pw_below_drewN | apply below_drew1 | refine below_set ?_ GE204.out | refine below_set ?_ GE206.out) | exact HB.out)⟩⟩
         case rest =>
          clear HC12
          try clear c1
          try clear c2
          try clear p2
          try clear q2
          try clear hx2
          try clear c3
          try clear c4
          try clear c4b0
          try clear c4b1
          try clear c5
          try clear c7
          try clear c9
          try clear c9b0
          try clear c10
          try clear c10b0
          try clear c11
          try clear c11b0
          try clear c14
          try clear c17
          try clear c19
          try clear c20
          try clear c20b0
          try clear p20
          try clear q20
          try clear hx20
          try clear c21
          try clear c21b0
          try clear c21b1
          try clear c23
          try clear q28
          try clear c30
          try clear c34
          try clear hcz15_0
          try clear hcz15_1
          try clear hcz24_0
          try clear hcz24_1
          try clear hcz26_0
          try clear hcz26_1
          try clear hcz27_0
          try clear hcz27_1
          try clear hcz31_0
          try clear hcz31_1
          try clear hcz33_0
          try clear hcz33_1
          try clear hcz35_0
          try clear hcz35_1
          try clear hcz5_0
          try clear hcz5_1
          try clear hcz6_0
          try clear hcz6_1
          try clear hcz8_0
          try clear hcz8_1
          try clear hfz15_0
          try clear hfz15_1
          try clear hfz24_0
          try clear hfz24_1
          try clear hfz26_0
          try clear hfz26_1
          try clear hfz27_0
          try clear hfz27_1
          try clear hfz31_0
          try clear hfz31_1
          try clear hfz33_0
          try clear hfz33_1
          try clear hfz35_0
          try clear hfz35_1
          try clear hfz5_0
          try clear hfz5_1
          try clear hfz6_0
          try clear hfz6_1
          try clear hfz8_0
          try clear hfz8_1
          try clear hx205_0
          try clear hx205_1
          try clear p2
          try clear p205
          try clear q205
          try clear q28
          obtain ⟨kq, x45_11, x207000_11, x207001_11, rfl, HA, HJ11, BK204, BK206, HB⟩ := hcut
          cases kq with
          | zero => exact absurd HA.out (by simp [impl_IsValidLedger.j2])
          | succ kj11 =>
           have H := HA.out
           clear HA
           simp only [impl_IsValidLedger.j2] at H
           by_cases c37 : x45_11 = true
           ·subst c37
            have H1 : (some false) = some r := by rw [if_pos rfl] at H; exact H
            clear H
            have H := H1
            clear H1
            obtain rfl := Option.some.inj H
            go_wp2
            go_ret
            exact ⟨by first | rfl | (simp [errW_none, errW_some] <;> rfl) | (simp [*, errW_none, errW_some] <;> rfl), by repeat (first | (with_reducible first | exact HB.out | apply below_alloc | apply pw_below_drewN | apply below_drew1 | refine below_set ?_ GE204.out | refine below_set ?_ GE206.out) | exact HB.out)⟩
           ·replace c37 := Bool.eq_false_iff.mpr c37
            subst c37
            have H1 : (impl_IsValidLedger.l0 kj11 l0_0 (l0_0.length : Int) (wrap64 (x23_2 + 1)) l0_0 l0_1) = some r := by rw [if_neg (show ¬ (false = true) by decide)] at H; exact H
            clear H
            have H := H1
            clear H1
            have H' := Aside0.mk H
            clear H
            go_wp2
            go_roundg kj11
            case measure => have := HJ1.out; have := HK2.out; have := HJ11.out; omega
            case rel => exact ⟨(wrap64 (x23_2 + 1)), ZZ0ab324, H', ⟨by have := HJ1.out; have := HK2.out; have := HJ11.out; omega⟩, ⟨by (with_reducible repeat (first | refine blk_drewN ?_ _ | refine blk_drew ?_ | refine blk_alloc ?_ _)); exact BK204.out⟩, ⟨by repeat (first | (with_reducible first | exact HB.out | apply below_alloc | apply pw_below_drewN | apply below_drew1 | refine below_set ?_ GE204.out | refine below_set ?_ GE206.out) | exact HB.out)⟩⟩
        ·rw [if_neg c11] at H
         exact absurd H (by simp)
       ·rw [if_neg c10] at H
        exact absurd H (by simp)
      ·rw [if_neg c9] at H
       have c9b0 : decide (x23_2 < (l0_0.length : Int)) = false := decide_eq_false c9
       clear c9
       by_cases c38 : 0 ≤ (l0_0.length : Int)
       ·rw [if_pos c38] at H
        have c38b0 := eq_true c38
        have c38b1 : decide (0 ≤ (l0_0.length : Int)) = true := decide_eq_true c38
        clear c38
        by_cases c39 : ((l0_0.length : Int) : Int).toNat ≤ 35184372088832
        ·rw [if_pos c39] at H
         have c39b0 := eq_true c39
         have c39b1 : decide (((l0_0.length : Int) : Int).toNat ≤ 35184372088832) = true := decide_eq_true c39
         clear c39
         obtain ⟨y224, hy224⟩ : ∃ y_ : List Int, y_ = (List.replicate ((l0_0.length : Int) : Int).toNat 0) := ⟨_, rfl⟩
         replace H : (impl_IsValidLedger.l1 k2 y224 l0_1 (l0_1.length : Int) 0 l0_0 l0_1) = some r := by first | (rw [hy224]; with_reducible exact H) | (have H2_ := (Option.bind_some _ _).symm.trans H; rw [hy224]; with_reducible exact H2_) | (have H2_ := (Option.bind_some _ _).symm.trans H; with_reducible exact H2_) | with_reducible exact H | (rw [hy224]; exact H) | exact H
         have Ny224 := Aside0.mk hy224
         clear hy224
         have H' := Aside0.mk H
         clear H
         have hcz40_0 : wr.cell? ⟨gb204, 0, none⟩ = some (.slice A0_0 l0_0.length c0_0) := (blk_cell BK204.out 0).trans rfl
         have hcz40_1 : wr.cell? ⟨gb204, 1, none⟩ = some (.slice A0_1 l0_1.length c0_1) := (blk_cell BK204.out 1).trans rfl
         have hfz40_0 := blk_frozen BK204.out 0
         have hfz40_1 := blk_frozen BK204.out 1
         go_wp2_with (first | ((with_reducible refine gate_dst (N := 50) rfl ?_); (try (refine gate_guard (by rfl) ?_; dsimp only)); refine Kd.R_make (Kd.int .i64) _ 3 rfl (N := 50) rfl 44 _ _ rfl (l0_0.length : Int) rfl rfl Tryd.underlying44 (.int .i64 0) 8 info3 rfl (by decide) (by omega) 0 (ok := fun _ => True) (okp := fun _ => True) rfl (fun _ hk => hk) trivial (of_decide_eq_true ZZ853400) (Nat.le_trans (Nat.mul_le_mul_right _ (of_decide_eq_true ZZ853400 : (l0_0.length : Int).toNat ≤ 35184372088832)) (by omega)) (Below.refl _ _) (Nat.le_refl _) ?_; intro v225 w41 ho42 hb hg_ hnew_; clear hg_ hnew_; (first | rw [← Ny224.out] at ho42 | (simp only [Int.reduceToNat] at ho42; rw [← Ny224.out] at ho42)); have n0_ := Aside0.mk (Kd.R_lower ho42 (below_size ZZcebc8a)); have n1_ := Aside0.mk (blk_below (g := gb204) (o := .cells #[.slice A0_0 l0_0.length c0_0, .slice A0_1 l0_1.length c0_1] 31 (0, 0)) ZZa30d0d hb); have n2_ := Aside0.mk (below_step ZZcebc8a hb); clear BK204; clear HB; have HO226 := n0_; have BK204 := n1_; have HB := n2_; clear n0_ n1_ n2_; clear hb ho42; have hcz43_0 : w41.cell? ⟨gb204, 0, none⟩ = some (.slice A0_0 l0_0.length c0_0) := (blk_cell BK204.out 0).trans rfl; have hcz43_1 : w41.cell? ⟨gb204, 1, none⟩ = some (.slice A0_1 l0_1.length c0_1) := (blk_cell BK204.out 1).trans rfl; have hfz43_0 := blk_frozen BK204.out 0; have hfz43_1 := blk_frozen BK204.out 1))
         go_loopg [54] k2 (fun kq v54 w' => ∃ (x5_3 : List Int) (x54_3 : Int), v54 = .int .i64 x54_3 ∧ Aside0 (impl_IsValidLedger.l1 kq x5_3 l0_1 (l0_1.length : Int) x54_3 l0_0 l0_1 = some r) ∧ Aside0 (kq ≤ k2) ∧ Aside0 (Kd.R (Kd.int .i64) 3 w' w.heap.size (fun _ => True) v225 x5_3) ∧ Aside0 (w'.heap[gb204]? = some (.cells #[(.slice A0_0 l0_0.length c0_0), (.slice A0_1 l0_1.length c0_1)] 31 (0, 0))) ∧ Aside0 (Below w.heap.size w w'))
         case atStart => exact ⟨(y224), (0), ZZ0ab324, H', ⟨Nat.le_refl _⟩, ⟨by (with_reducible repeat (first | apply Kd.R_alloc | apply Kd.R_drewN | apply Kd.R_drew)); exact HO226.out⟩, ⟨by (with_reducible repeat (first | refine blk_drewN ?_ _ | refine blk_drew ?_ | refine blk_alloc ?_ _)); exact BK204.out⟩, ⟨by repeat (first | (with_reducible first | exact HB.out | apply below_alloc | apply pw_below_drewN | apply below_drew1 | refine below_set ?_ GE204.out) | exact HB.out)⟩⟩
         case round =>
          clear H'
          try clear c1
          try clear c2
          try clear p2
          try clear q2
          try clear hx2
          try clear c3
          try clear c4
          try clear c4b0
          try clear c4b1
          try clear c5
          try clear p6
          try clear c7
          try clear c9
          try clear c9b0
          try clear c10
          try clear c10b0
          try clear c11
          try clear c11b0
          try clear c14
          try clear c17
          try clear c19
          try clear c20
          try clear c20b0
          try clear p20
          try clear q20
          try clear hx20
          try clear c21
          try clear c21b0
          try clear c21b1
          try clear c23
          try clear q28
          try clear c30
          try clear c34
          try clear c37
          try clear c38
          try clear c38b0
          try clear c38b1
          try clear c39
          try clear c39b0
          try clear c39b1
          try clear hcz15_0
          try clear hcz15_1
          try clear hcz24_0
          try clear hcz24_1
          try clear hcz26_0
          try clear hcz26_1
          try clear hcz27_0
          try clear hcz27_1
          try clear hcz31_0
          try clear hcz31_1
          try clear hcz33_0
          try clear hcz33_1
          try clear hcz35_0
          try clear hcz35_1
          try clear hcz40_0
          try clear hcz40_1
          try clear hcz43_0
          try clear hcz43_1
          try clear hcz5_0
          try clear hcz5_1
          try clear hcz6_0
          try clear hcz6_1
          try clear hcz8_0
          try clear hcz8_1
          try clear hfz15_0
          try clear hfz15_1
          try clear hfz24_0
          try clear hfz24_1
          try clear hfz26_0
          try clear hfz26_1
          try clear hfz27_0
          try clear hfz27_1
          try clear hfz31_0
          try clear hfz31_1
          try clear hfz33_0
          try clear hfz33_1
          try clear hfz35_0
          try clear hfz35_1
          try clear hfz40_0
          try clear hfz40_1
          try clear hfz43_0
          try clear hfz43_1
          try clear hfz5_0
          try clear hfz5_1
          try clear hfz6_0
          try clear hfz6_1
          try clear hfz8_0
          try clear hfz8_1
          try clear hx205_0
          try clear hx205_1
          try clear p2
          try clear p20
          try clear p205
          try clear q2
          try clear q20
          try clear q205
          try clear q28
          obtain ⟨x5_3, x54_3, rfl, HA, HK3, HO_5, BK204, HB⟩ := hrel
          cases gk with
          | zero => exact absurd HA.out (by simp [impl_IsValidLedger.l1])
          | succ k3 =>
           have H := HA.out
           clear HA
           simp only [impl_IsValidLedger.l1] at H
           by_cases c44 : x54_3 < (l0_1.length : Int)
           ·rw [if_pos c44] at H
            have c44b0 : decide (x54_3 < (l0_1.length : Int)) = true := decide_eq_true c44
            clear c44
            by_cases c45 : 0 ≤ x54_3
            ·rw [if_pos c45] at H
             have c45b0 : decide (0 ≤ x54_3) = true := decide_eq_true c45
             clear c45
             by_cases c46 : x54_3 < (l0_1.length : Int)
             ·rw [if_pos c46] at H
              have c46b0 : decide (x54_3 < (l0_1.length : Int)) = true := decide_eq_true c46
              clear c46
              have HC47 := Aside0.mk H
              clear H
              have p227 : 0 ≤ (x54_3 : Int) := of_decide_eq_true ZZ853400
              have q227 : x54_3 < (l0_1.length : Int) := of_decide_eq_true ZZ853400
              obtain ⟨ad227, A227_2, c227_2, e227, hx227_0, hx227_1, hx227_2, hl227_2, hi227_2⟩ := at_T63 HR0_1.out x54_3 p227 q227
              cases e227
              replace hx227_0 := (HB.out.cell (World.block_lt_of_cell? w _ hx227_0)).trans hx227_0
              replace hx227_1 := (HB.out.cell (World.block_lt_of_cell? w _ hx227_1)).trans hx227_1
              replace hx227_2 := (HB.out.cell (World.block_lt_of_cell? w _ hx227_2)).trans hx227_2
              have HR227_2 := Aside0.mk hi227_2
              have HC227_2 := Aside0.mk hl227_2
              clear hi227_2 hl227_2
              replace p227 := eq_true p227
              replace q227 := eq_true q227
              go_upto_region 13 with (first | ((with_reducible refine gate_dst (N := 7) rfl ?_); (try (refine gate_guard (by rfl) ?_; dsimp only)); refine box_event ?hg (N := 7) ?hd (cs := #[.int .i64 0, .string (⟨#[]⟩ : ByteArray), .slice none 0 0]) (t := 63) ?hr ?_; (case hd => rfl); (case hg => rfl); (case hr => first | (go_simp; done) | (go_simp; rfl)); intro gb228 hg w48 hbox hb; have n0_ := Aside0.mk (Kd.R_below (by (with_reducible repeat (first | apply Kd.R_alloc | apply Kd.R_drewN | apply Kd.R_drew)); exact HO_5.out) hb); have n1_ := Aside0.mk (blk_below (g := gb204) (o := .cells #[.slice A0_0 l0_0.length c0_0, .slice (some ad227) l0_1.length c0_1] 31 (0, 0)) ZZa30d0d hb); have n2_ := Aside0.mk (below_step ZZcebc8a hb); have n3_ := Aside0.mk (hbox); have n4_ := Aside0.mk ((by rw [hg]; exact (below_size ZZcebc8a) : w.heap.size ≤ gb228)); have n5_ := Aside0.mk ((by rw [hg]; exact (below_size ZZcebc8a) : w.heap.size ≤ gb228)); have n6_ := Aside0.mk ((by rw [hg]; exact Nat.ne_of_lt (blk_lt (g := gb204) (o := .cells #[.slice A0_0 l0_0.length c0_0, .slice (some ad227) l0_1.length c0_1] 31 (0, 0)) ZZa30d0d) : gb204 ≠ gb228)); have n7_ := Aside0.mk ((by rw [hg]; exact Nat.ne_of_gt (blk_lt (g := gb204) (o := .cells #[.slice A0_0 l0_0.length c0_0, .slice (some ad227) l0_1.length c0_1] 31 (0, 0)) ZZa30d0d) : gb228 ≠ gb204)); clear HO_5; clear BK204; clear HB; have HO_5 := n0_; have BK204 := n1_; have HB := n2_; have BK228 := n3_; have GW228 := n4_; have GE228 := n5_; have NB204_228 := n6_; have NB228_204 := n7_; clear n0_ n1_ n2_ n3_ n4_ n5_ n6_ n7_; clear hb hbox hg; have hnb49 := NB228_204.out; have hnc49 := NB204_228.out; have hcz50_0 : w48.cell? ⟨gb228, 0, none⟩ = some (.int .i64 0) := (blk_cell BK228.out 0).trans rfl; have hcz50_1 : w48.cell? ⟨gb228, 1, none⟩ = some (.string (⟨#[]⟩ : ByteArray)) := (blk_cell BK228.out 1).trans rfl; have hcz50_2 : w48.cell? ⟨gb228, 2, none⟩ = some (.slice none 0 0) := (blk_cell BK228.out 2).trans rfl; have hfz50_0 := blk_frozen BK228.out 0; have hfz50_1 := blk_frozen BK228.out 1; have hfz50_2 := blk_frozen BK228.out 2))
              (try simp only [Act.put, List.setIfInBounds_toArray, List.set_cons_zero, List.set_cons_succ])
              go_cut [92] (fun v92 wc => ∃ (kq : Nat) (x92_46 : Bool), v92 = .bool x92_46 ∧ Aside0 (impl_IsValidLedger.j4 kq x5_3 l0_1 (l0_1.length : Int) x54_3 x92_46 l0_0 l0_1 ((rd_T63 l0_1 x54_3).f0) ((rd_T63 l0_1 x54_3).f1) ((rd_T63 l0_1 x54_3).f2) = some r) ∧ Aside0 (kq ≤ k3) ∧ Aside0 (Kd.R (Kd.int .i64) 3 wc w.heap.size (fun _ => True) v225 x5_3) ∧ Aside0 (wc.heap[gb204]? = some (.cells #[(.slice A0_0 l0_0.length c0_0), (.slice (some ad227) l0_1.length c0_1)] 31 (0, 0))) ∧ Aside0 (wc.heap[gb228]? = some (.cells #[.int .i64 ((rd_T63 l0_1 x54_3).f0), .string ((rd_T63 l0_1 x54_3).f1), (.slice A227_2 ((rd_T63 l0_1 x54_3).f2).length c227_2)] 63 (0, 0))) ∧ Aside0 (Below w.heap.size w wc))
              case first =>
               have H := HC47.out
               clear HC47
               replace H := Option.bind_eq_some_iff.mp H
               obtain ⟨t229, A510, H⟩ := H
               replace H : (if t229 = true then (if x54_3 > 0 then (if 0 ≤ (wrap64 (x54_3 - 1)) then (if (wrap64 (x54_3 - 1)) < (l0_1.length : Int) then (if ((rd_T63 l0_1 x54_3).f0) < ((rd_T63 l0_1 (wrap64 (x54_3 - 1))).f0) then (impl_IsValidLedger.j4 k3 x5_3 l0_1 (l0_1.length : Int) x54_3 true l0_0 l0_1 ((rd_T63 l0_1 x54_3).f0) ((rd_T63 l0_1 x54_3).f1) ((rd_T63 l0_1 x54_3).f2)) else ((impl_isMemo.f k3 ((rd_T63 l0_1 x54_3).f1)).bind fun t231 => (if t231 = true then ((impl_isPosted.f k3 ((rd_T63 l0_1 x54_3).f0) ((rd_T63 l0_1 x54_3).f1) ((rd_T63 l0_1 x54_3).f2) (l0_0.length : Int)).bind fun t232 => (impl_IsValidLedger.j4 k3 x5_3 l0_1 (l0_1.length : Int) x54_3 (!t232) l0_0 l0_1 ((rd_T63 l0_1 x54_3).f0) ((rd_T63 l0_1 x54_3).f1) ((rd_T63 l0_1 x54_3).f2))) else (impl_IsValidLedger.j4 k3 x5_3 l0_1 (l0_1.length : Int) x54_3 true l0_0 l0_1 ((rd_T63 l0_1 x54_3).f0) ((rd_T63 l0_1 x54_3).f1) ((rd_T63 l0_1 x54_3).f2))))) else (none)) else (none)) else ((impl_isMemo.f k3 ((rd_T63 l0_1 x54_3).f1)).bind fun t233 => (if t233 = true then ((impl_isPosted.f k3 ((rd_T63 l0_1 x54_3).f0) ((rd_T63 l0_1 x54_3).f1) ((rd_T63 l0_1 x54_3).f2) (l0_0.length : Int)).bind fun t234 => (impl_IsValidLedger.j4 k3 x5_3 l0_1 (l0_1.length : Int) x54_3 (!t234) l0_0 l0_1 ((rd_T63 l0_1 x54_3).f0) ((rd_T63 l0_1 x54_3).f1) ((rd_T63 l0_1 x54_3).f2))) else (impl_IsValidLedger.j4 k3 x5_3 l0_1 (l0_1.length : Int) x54_3 true l0_0 l0_1 ((rd_T63 l0_1 x54_3).f0) ((rd_T63 l0_1 x54_3).f1) ((rd_T63 l0_1 x54_3).f2))))) else (impl_IsValidLedger.j4 k3 x5_3 l0_1 (l0_1.length : Int) x54_3 true l0_0 l0_1 ((rd_T63 l0_1 x54_3).f0) ((rd_T63 l0_1 x54_3).f1) ((rd_T63 l0_1 x54_3).f2))) = some r := H
               have A51 := Aside0.mk A510
               clear A510
               by_cases c52 : t229 = true
               ·subst c52
                have H1 : (if x54_3 > 0 then (if 0 ≤ (wrap64 (x54_3 - 1)) then (if (wrap64 (x54_3 - 1)) < (l0_1.length : Int) then (if ((rd_T63 l0_1 x54_3).f0) < ((rd_T63 l0_1 (wrap64 (x54_3 - 1))).f0) then (impl_IsValidLedger.j4 k3 x5_3 l0_1 (l0_1.length : Int) x54_3 true l0_0 l0_1 ((rd_T63 l0_1 x54_3).f0) ((rd_T63 l0_1 x54_3).f1) ((rd_T63 l0_1 x54_3).f2)) else ((impl_isMemo.f k3 ((rd_T63 l0_1 x54_3).f1)).bind fun t231 => (if t231 = true then ((impl_isPosted.f k3 ((rd_T63 l0_1 x54_3).f0) ((rd_T63 l0_1 x54_3).f1) ((rd_T63 l0_1 x54_3).f2) (l0_0.length : Int)).bind fun t232 => (impl_IsValidLedger.j4 k3 x5_3 l0_1 (l0_1.length : Int) x54_3 (!t232) l0_0 l0_1 ((rd_T63 l0_1 x54_3).f0) ((rd_T63 l0_1 x54_3).f1) ((rd_T63 l0_1 x54_3).f2))) else (impl_IsValidLedger.j4 k3 x5_3 l0_1 (l0_1.length : Int) x54_3 true l0_0 l0_1 ((rd_T63 l0_1 x54_3).f0) ((rd_T63 l0_1 x54_3).f1) ((rd_T63 l0_1 x54_3).f2))))) else (none)) else (none)) else ((impl_isMemo.f k3 ((rd_T63 l0_1 x54_3).f1)).bind fun t233 => (if t233 = true then ((impl_isPosted.f k3 ((rd_T63 l0_1 x54_3).f0) ((rd_T63 l0_1 x54_3).f1) ((rd_T63 l0_1 x54_3).f2) (l0_0.length : Int)).bind fun t234 => (impl_IsValidLedger.j4 k3 x5_3 l0_1 (l0_1.length : Int) x54_3 (!t234) l0_0 l0_1 ((rd_T63 l0_1 x54_3).f0) ((rd_T63 l0_1 x54_3).f1) ((rd_T63 l0_1 x54_3).f2))) else (impl_IsValidLedger.j4 k3 x5_3 l0_1 (l0_1.length : Int) x54_3 true l0_0 l0_1 ((rd_T63 l0_1 x54_3).f0) ((rd_T63 l0_1 x54_3).f1) ((rd_T63 l0_1 x54_3).f2))))) = some r := by rw [if_pos rfl] at H; exact H
                clear H
                have H := H1
                clear H1
                by_cases c53 : x54_3 > 0
                ·rw [if_pos c53] at H
                 have c53b0 : decide (0 < x54_3) = true := decide_eq_true c53
                 clear c53
                 (first | rw [c53b0] | (simp only [i64_w, i32_w]; rw [c53b0]) | skip)
                 obtain ⟨ji54, hji54⟩ : ∃ j_ : Int, (wrap64 (x54_3 - 1)) = j_ := ⟨_, rfl⟩
                 replace H : (if 0 ≤ (ji54) then (if (ji54) < (l0_1.length : Int) then (if ((rd_T63 l0_1 x54_3).f0) < ((rd_T63 l0_1 (ji54)).f0) then (impl_IsValidLedger.j4 k3 x5_3 l0_1 (l0_1.length : Int) x54_3 true l0_0 l0_1 ((rd_T63 l0_1 x54_3).f0) ((rd_T63 l0_1 x54_3).f1) ((rd_T63 l0_1 x54_3).f2)) else ((impl_isMemo.f k3 ((rd_T63 l0_1 x54_3).f1)).bind fun t231 => (if t231 = true then ((impl_isPosted.f k3 ((rd_T63 l0_1 x54_3).f0) ((rd_T63 l0_1 x54_3).f1) ((rd_T63 l0_1 x54_3).f2) (l0_0.length : Int)).bind fun t232 => (impl_IsValidLedger.j4 k3 x5_3 l0_1 (l0_1.length : Int) x54_3 (!t232) l0_0 l0_1 ((rd_T63 l0_1 x54_3).f0) ((rd_T63 l0_1 x54_3).f1) ((rd_T63 l0_1 x54_3).f2))) else (impl_IsValidLedger.j4 k3 x5_3 l0_1 (l0_1.length : Int) x54_3 true l0_0 l0_1 ((rd_T63 l0_1 x54_3).f0) ((rd_T63 l0_1 x54_3).f1) ((rd_T63 l0_1 x54_3).f2))))) else (none)) else (none)) = some r := by first | (rw [hji54] at H; exact H) | (simp only [hji54] at H ⊢; exact H)
                 (try rw [hji54] at A51)
                 have hji54w : (IntKind.i64.wrap (x54_3 - 1)) = ji54 := (i64_w _).trans hji54
                 by_cases c55 : 0 ≤ (ji54)
                 ·rw [if_pos c55] at H
                  have c55b0 : decide (0 ≤ (ji54)) = true := decide_eq_true c55
                  clear c55
                  by_cases c56 : (ji54) < (l0_1.length : Int)
                  ·rw [if_pos c56] at H
                   have c56b0 : decide ((ji54) < (l0_1.length : Int)) = true := decide_eq_true c56
                   clear c56
                   by_cases c57 : ((rd_T63 l0_1 x54_3).f0) < ((rd_T63 l0_1 (ji54)).f0)
                   ·rw [if_pos c57] at H
                    have c57b0 : decide (((rd_T63 l0_1 x54_3).f0) < ((rd_T63 l0_1 (ji54)).f0)) = true := decide_eq_true c57
                    clear c57
                    have H' := Aside0.mk H
                    clear H
                    try go_wp2
                    have n0_ : Aside0 (Kd.R (Kd.int .i64) 3 (((w48.setCell ⟨gb228, 0, none⟩ (.int .i64 ((rd_T63 l0_1 x54_3).f0))).setCell ⟨gb228, 1, none⟩ (.string ((rd_T63 l0_1 x54_3).f1))).setCell ⟨gb228, 2, none⟩ (.slice A227_2 ((rd_T63 l0_1 x54_3).f2).length c227_2)) w.heap.size (fun _ => True) v225 x5_3) := ⟨by (with_reducible repeat (first | apply Kd.R_alloc | apply Kd.R_drewN | apply Kd.R_drew)); exact Kd.R_mono (Kd.R_far (p := ⟨gb228, 2, none⟩) (Kd.R_far (p := ⟨gb228, 1, none⟩) (Kd.R_far (p := ⟨gb228, 0, none⟩) (Kd.R_types HO_5.out BK228.out (by decide)) (fun _ hk => hk.2) (.int .i64 ((rd_T63 l0_1 x54_3).f0))) (fun _ hk => hk.2) (.string ((rd_T63 l0_1 x54_3).f1))) (fun _ hk => hk.2) (.slice A227_2 ((rd_T63 l0_1 x54_3).f2).length c227_2)) (fun _ hk => trivial)⟩
                    have n1_ : Aside0 ((((w48.setCell ⟨gb228, 0, none⟩ (.int .i64 ((rd_T63 l0_1 x54_3).f0))).setCell ⟨gb228, 1, none⟩ (.string ((rd_T63 l0_1 x54_3).f1))).setCell ⟨gb228, 2, none⟩ (.slice A227_2 ((rd_T63 l0_1 x54_3).f2).length c227_2)).heap[gb204]? = some (.cells #[.slice A0_0 l0_0.length c0_0, .slice (some ad227) l0_1.length c0_1] 31 (0, 0))) := ⟨by (with_reducible repeat (first | refine blk_drewN ?_ _ | refine blk_drew ?_ | refine blk_alloc ?_ _)); refine blk_far ?_ NB204_228.out _; (with_reducible repeat (first | refine blk_drewN ?_ _ | refine blk_drew ?_ | refine blk_alloc ?_ _)); refine blk_far ?_ NB204_228.out _; (with_reducible repeat (first | refine blk_drewN ?_ _ | refine blk_drew ?_ | refine blk_alloc ?_ _)); refine blk_far ?_ NB204_228.out _; (with_reducible repeat (first | refine blk_drewN ?_ _ | refine blk_drew ?_ | refine blk_alloc ?_ _)); exact BK204.out⟩
                    have n2_ : Aside0 ((((w48.setCell ⟨gb228, 0, none⟩ (.int .i64 ((rd_T63 l0_1 x54_3).f0))).setCell ⟨gb228, 1, none⟩ (.string ((rd_T63 l0_1 x54_3).f1))).setCell ⟨gb228, 2, none⟩ (.slice A227_2 ((rd_T63 l0_1 x54_3).f2).length c227_2)).heap[gb228]? = some (.cells #[.int .i64 ((rd_T63 l0_1 x54_3).f0), .string ((rd_T63 l0_1 x54_3).f1), .slice A227_2 ((rd_T63 l0_1 x54_3).f2).length c227_2] 63 (0, 0))) := ⟨by (with_reducible repeat (first | refine blk_drewN ?_ _ | refine blk_drew ?_ | refine blk_alloc ?_ _)); refine blk_put (cs := #[.int .i64 ((rd_T63 l0_1 x54_3).f0), .string ((rd_T63 l0_1 x54_3).f1), .slice none 0 0]) ?_ 2 _ rfl; (with_reducible repeat (first | refine blk_drewN ?_ _ | refine blk_drew ?_ | refine blk_alloc ?_ _)); refine blk_put (cs := #[.int .i64 ((rd_T63 l0_1 x54_3).f0), .string (⟨#[]⟩ : ByteArray), .slice none 0 0]) ?_ 1 _ rfl; (with_reducible repeat (first | refine blk_drewN ?_ _ | refine blk_drew ?_ | refine blk_alloc ?_ _)); refine blk_put (cs := #[.int .i64 0, .string (⟨#[]⟩ : ByteArray), .slice none 0 0]) ?_ 0 _ rfl; (with_reducible repeat (first | refine blk_drewN ?_ _ | refine blk_drew ?_ | refine blk_alloc ?_ _)); exact BK228.out⟩
                    have n3_ : Aside0 (Below w.heap.size w (((w48.setCell ⟨gb228, 0, none⟩ (.int .i64 ((rd_T63 l0_1 x54_3).f0))).setCell ⟨gb228, 1, none⟩ (.string ((rd_T63 l0_1 x54_3).f1))).setCell ⟨gb228, 2, none⟩ (.slice A227_2 ((rd_T63 l0_1 x54_3).f2).length c227_2))) := ⟨by repeat (first | (with_reducible first | exact HB.out | apply below_alloc | apply pw_below_drewN | apply below_drew1 | refine below_set ?_ GE204.out | refine below_set ?_ GE228.out) | exact HB.out)⟩
                    (try clear HO_5)
                    (try clear BK204)
                    (try clear BK228)
                    (try clear HB)
                    generalize (((w48.setCell ⟨gb228, 0, none⟩ (.int .i64 ((rd_T63 l0_1 x54_3).f0))).setCell ⟨gb228, 1, none⟩ (.string ((rd_T63 l0_1 x54_3).f1))).setCell ⟨gb228, 2, none⟩ (.slice A227_2 ((rd_T63 l0_1 x54_3).f2).length c227_2)) = w58 at n0_ n1_ n2_ n3_ ⊢
                    have HO_5 := n0_
                    have BK204 := n1_
                    have BK228 := n2_
                    have HB := n3_
                    clear n0_ n1_ n2_ n3_
                    have n0_ := Aside0.mk (Kd.R_drew HO_5.out)
                    have n1_ := Aside0.mk (blk_drew BK204.out)
                    have n2_ := Aside0.mk (blk_drew BK228.out)
                    have n3_ := Aside0.mk (below_drew1 HB.out)
                    clear HO_5
                    clear BK204
                    clear BK228
                    clear HB
                    have HO_5 := n0_
                    have BK204 := n1_
                    have BK228 := n2_
                    have HB := n3_
                    clear n0_ n1_ n2_ n3_
                    have p230 : 0 ≤ ((ji54) : Int) := of_decide_eq_true ZZ853400
                    have q230 : (ji54) < (l0_1.length : Int) := of_decide_eq_true ZZ853400
                    obtain ⟨ad230, A230_2, c230_2, e230, hx230_0, hx230_1, hx230_2, hl230_2, hi230_2⟩ := at_T63 HR0_1.out (ji54) p230 q230
                    have hw230_2 := hx230_2
                    have hw230_1 := hx230_1
                    have hw230_0 := hx230_0
                    obtain rfl : ad227 = ad230 := (by injection e230)
                    replace hx230_0 := (HB.out.cell (World.block_lt_of_cell? w _ hx230_0)).trans hx230_0
                    replace hx230_1 := (HB.out.cell (World.block_lt_of_cell? w _ hx230_1)).trans hx230_1
                    replace hx230_2 := (HB.out.cell (World.block_lt_of_cell? w _ hx230_2)).trans hx230_2
                    have HR230_2 := Aside0.mk hi230_2
                    have HC230_2 := Aside0.mk hl230_2
                    clear hi230_2 hl230_2
                    replace p230 := eq_true p230
                    replace q230 := eq_true q230
                    refine start_ (n := 34) (S := fun w' => w'.cell? ⟨gb228, 0, none⟩ = some (.int .i64 ((rd_T63 l0_1 x54_3).f0)) ∧ w'.cell? ⟨gb228, 1, none⟩ = some (.string ((rd_T63 l0_1 x54_3).f1)) ∧ w'.cell? ⟨gb228, 2, none⟩ = some (.slice A227_2 ((rd_T63 l0_1 x54_3).f2).length c227_2) ∧ w'.cell? ⟨gb204, 0, none⟩ = some (.slice A0_0 l0_0.length c0_0) ∧ w'.cell? ⟨gb204, 1, none⟩ = some (.slice (some ad227) l0_1.length c0_1) ∧ w'.cell? (ad227.add (((ji54)).toNat * 3)) = some (.int .i64 ((rd_T63 l0_1 (ji54)).f0)) ∧ w'.cell? ⟨(ad227.add (((ji54)).toNat * 3)).block, (ad227.add (((ji54)).toNat * 3)).off + 1, none⟩ = some (.string ((rd_T63 l0_1 (ji54)).f1)) ∧ w'.cell? ⟨(ad227.add (((ji54)).toNat * 3)).block, (ad227.add (((ji54)).toNat * 3)).off + 2, none⟩ = some (.slice A230_2 ((rd_T63 l0_1 (ji54)).f2).length c230_2)) (ds := []) #[false, false, false, false, false, false, false, false, false, false, false, false, false, false, false, false, false, false, false, false, false, false, false, false, false, false, false, false, false, false, false, false, false, false] (by kernel_rfl) rfl rfl ⟨(blk_cell BK228.out 0).trans rfl, (blk_cell BK228.out 1).trans rfl, (blk_cell BK228.out 2).trans rfl, (blk_cell BK204.out 0).trans rfl, (blk_cell BK204.out 1).trans rfl, ((HB.out.cell (World.block_lt_of_cell? w _ hw230_0)).trans hw230_0), ((HB.out.cell (World.block_lt_of_cell? w _ hw230_1)).trans hw230_1), ((HB.out.cell (World.block_lt_of_cell? w _ hw230_2)).trans hw230_2)⟩ (fun hHeld => ?_); refine with_tabW impl_IsValidLedger.tab13 impl_IsValidLedger.bits13 (fun HT_ HW_ => ?_)
                    generalize w58.drew = w59 at HO_5 BK204 BK228 HB HR230_2 hx230_0 hx230_1 hx230_2 hHeld ⊢
                    refine pu 0 59 ?_
                    refine tk 1 60 ?_
                    refine one_ (i := 2) (N := some 61) #[true, true, true, false, false, false, false, false, false, false, false, false, false, false, false, false, false, false, false, false, false, false, false, false, false, false, false, false, false, false, false, false, false, false] rfl rfl (one_of HT_.out (by kernel_rfl)) (by decide) (fun K hK => ?_)
                    refine goes_ Tryd.func59 (by kernel_rfl) rfl #[.int .i64 ((rd_T63 l0_1 x54_3).f0)] (by rfl) rfl rfl ZZ19826e ?_
                    with_reducible refine (impl_isDay.calls ((rd_T63 l0_1 x54_3).f0) true _ A51.out).mono ?_
                    rintro e w' ⟨rfl, ⟨nd, rfl⟩⟩
                    refine ⟨_, rfl, ?_⟩
                    refine hK.out _ _ ⟨(blk_cell BK228.out 0).trans rfl, (blk_cell BK228.out 1).trans rfl, (blk_cell BK228.out 2).trans rfl, (blk_cell BK204.out 0).trans rfl, (blk_cell BK204.out 1).trans rfl, ((HB.out.cell (World.block_lt_of_cell? w _ hw230_0)).trans hw230_0), ((HB.out.cell (World.block_lt_of_cell? w _ hw230_1)).trans hw230_1), ((HB.out.cell (World.block_lt_of_cell? w _ hw230_2)).trans hw230_2)⟩ (fun hHeld => ?_)
                    clear hK K
                    refine norm_ (a' := ?_) ?_ ?_
                    rotate_left
                    ·show Act.put _ (some 61) _ = _
                     simp only [Act.put, List.setIfInBounds_toArray, List.set_cons_zero, List.set_cons_succ, i64_w, i32_w]
                     rfl
                    refine pu 3 62 ?_
                    refine pu 4 63 ?_
                    refine pu 5 64 ?_
                    refine pu 6 65 ?_
                    refine pu 7 66 ?_
                    refine pu 8 67 ?_
                    refine pu 10 69 ?_
                    refine pu 12 71 ?_
                    refine pu 13 72 ?_
                    refine tk 9 68 ?_
                    refine tk 11 70 ?_
                    refine pu 14 73 ?_
                    refine pu 15 74 ?_
                    refine tk 16 75 ?_
                    refine pu 17 76 ?_
                    refine pu 18 77 ?_
                    refine pu 19 78 ?_
                    refine pu 20 79 ?_
                    refine pn 21 80 ?_
                    refine pn 22 81 ?_
                    refine pn 23 82 ?_
                    refine pn 24 83 ?_
                    refine pu 25 84 ?_
                    refine pu 26 85 ?_
                    refine pn 27 86 ?_
                    refine pn 28 87 ?_
                    refine pn 29 88 ?_
                    refine pn 30 89 ?_
                    refine pn 31 90 ?_
                    refine pn 32 91 ?_
                    refine pu 33 92 ?_
                    refine done_ (done_of HT_.out (by kernel_rfl)) ?_
                    try go_wp2
                    go_meet
                    case rel => exact ⟨_, (true), ZZ0ab324, H', ⟨by have := HJ1.out; have := HK2.out; have := HK3.out; first | omega | exact Nat.le_refl _⟩, ⟨by (with_reducible repeat (first | apply Kd.R_alloc | apply Kd.R_drewN | apply Kd.R_drew)); exact HO_5.out⟩, ⟨by (with_reducible repeat (first | refine blk_drewN ?_ _ | refine blk_drew ?_ | refine blk_alloc ?_ _)); exact BK204.out⟩, ⟨by (with_reducible repeat (first | refine blk_drewN ?_ _ | refine blk_drew ?_ | refine blk_alloc ?_ _)); exact BK228.out⟩, ⟨by repeat (first | (with_reducible first | exact HB.out | apply below_alloc | apply pw_below_drewN | apply below_drew1 | refine below_set ?_ GE204.out | refine below_set ?_ GE228.out) | exact HB.out)⟩⟩
                   ·rw [if_neg c57] at H
                    have c57b0 : decide (((rd_T63 l0_1 x54_3).f0) < ((rd_T63 l0_1 (ji54)).f0)) = false := decide_eq_false c57
                    clear c57
                    replace H := Option.bind_eq_some_iff.mp H
                    obtain ⟨t231, A600, H⟩ := H
                    replace H : (if t231 = true then ((impl_isPosted.f k3 ((rd_T63 l0_1 x54_3).f0) ((rd_T63 l0_1 x54_3).f1) ((rd_T63 l0_1 x54_3).f2) (l0_0.length : Int)).bind fun t232 => (impl_IsValidLedger.j4 k3 x5_3 l0_1 (l0_1.length : Int) x54_3 (!t232) l0_0 l0_1 ((rd_T63 l0_1 x54_3).f0) ((rd_T63 l0_1 x54_3).f1) ((rd_T63 l0_1 x54_3).f2))) else (impl_IsValidLedger.j4 k3 x5_3 l0_1 (l0_1.length : Int) x54_3 true l0_0 l0_1 ((rd_T63 l0_1 x54_3).f0) ((rd_T63 l0_1 x54_3).f1) ((rd_T63 l0_1 x54_3).f2))) = some r := H
                    have A60 := Aside0.mk A600
                    clear A600
                    by_cases c61 : t231 = true
                    ·subst c61
                     have H1 : ((impl_isPosted.f k3 ((rd_T63 l0_1 x54_3).f0) ((rd_T63 l0_1 x54_3).f1) ((rd_T63 l0_1 x54_3).f2) (l0_0.length : Int)).bind fun t232 => (impl_IsValidLedger.j4 k3 x5_3 l0_1 (l0_1.length : Int) x54_3 (!t232) l0_0 l0_1 ((rd_T63 l0_1 x54_3).f0) ((rd_T63 l0_1 x54_3).f1) ((rd_T63 l0_1 x54_3).f2))) = some r := by rw [if_pos rfl] at H; exact H
                     clear H
                     have H := H1
                     clear H1
                     replace H := Option.bind_eq_some_iff.mp H
                     obtain ⟨t232, A620, H⟩ := H
                     replace H : (impl_IsValidLedger.j4 k3 x5_3 l0_1 (l0_1.length : Int) x54_3 (!t232) l0_0 l0_1 ((rd_T63 l0_1 x54_3).f0) ((rd_T63 l0_1 x54_3).f1) ((rd_T63 l0_1 x54_3).f2)) = some r := H
                     have A62 := Aside0.mk A620
                     clear A620
                     have H' := Aside0.mk H
                     clear H
                     try go_wp2
                     have n0_ : Aside0 (Kd.R (Kd.int .i64) 3 (((w48.setCell ⟨gb228, 0, none⟩ (.int .i64 ((rd_T63 l0_1 x54_3).f0))).setCell ⟨gb228, 1, none⟩ (.string ((rd_T63 l0_1 x54_3).f1))).setCell ⟨gb228, 2, none⟩ (.slice A227_2 ((rd_T63 l0_1 x54_3).f2).length c227_2)) w.heap.size (fun _ => True) v225 x5_3) := ⟨by (with_reducible repeat (first | apply Kd.R_alloc | apply Kd.R_drewN | apply Kd.R_drew)); exact Kd.R_mono (Kd.R_far (p := ⟨gb228, 2, none⟩) (Kd.R_far (p := ⟨gb228, 1, none⟩) (Kd.R_far (p := ⟨gb228, 0, none⟩) (Kd.R_types HO_5.out BK228.out (by decide)) (fun _ hk => hk.2) (.int .i64 ((rd_T63 l0_1 x54_3).f0))) (fun _ hk => hk.2) (.string ((rd_T63 l0_1 x54_3).f1))) (fun _ hk => hk.2) (.slice A227_2 ((rd_T63 l0_1 x54_3).f2).length c227_2)) (fun _ hk => trivial)⟩
                     have n1_ : Aside0 ((((w48.setCell ⟨gb228, 0, none⟩ (.int .i64 ((rd_T63 l0_1 x54_3).f0))).setCell ⟨gb228, 1, none⟩ (.string ((rd_T63 l0_1 x54_3).f1))).setCell ⟨gb228, 2, none⟩ (.slice A227_2 ((rd_T63 l0_1 x54_3).f2).length c227_2)).heap[gb204]? = some (.cells #[.slice A0_0 l0_0.length c0_0, .slice (some ad227) l0_1.length c0_1] 31 (0, 0))) := ⟨by (with_reducible repeat (first | refine blk_drewN ?_ _ | refine blk_drew ?_ | refine blk_alloc ?_ _)); refine blk_far ?_ NB204_228.out _; (with_reducible repeat (first | refine blk_drewN ?_ _ | refine blk_drew ?_ | refine blk_alloc ?_ _)); refine blk_far ?_ NB204_228.out _; (with_reducible repeat (first | refine blk_drewN ?_ _ | refine blk_drew ?_ | refine blk_alloc ?_ _)); refine blk_far ?_ NB204_228.out _; (with_reducible repeat (first | refine blk_drewN ?_ _ | refine blk_drew ?_ | refine blk_alloc ?_ _)); exact BK204.out⟩
                     have n2_ : Aside0 ((((w48.setCell ⟨gb228, 0, none⟩ (.int .i64 ((rd_T63 l0_1 x54_3).f0))).setCell ⟨gb228, 1, none⟩ (.string ((rd_T63 l0_1 x54_3).f1))).setCell ⟨gb228, 2, none⟩ (.slice A227_2 ((rd_T63 l0_1 x54_3).f2).length c227_2)).heap[gb228]? = some (.cells #[.int .i64 ((rd_T63 l0_1 x54_3).f0), .string ((rd_T63 l0_1 x54_3).f1), .slice A227_2 ((rd_T63 l0_1 x54_3).f2).length c227_2] 63 (0, 0))) := ⟨by (with_reducible repeat (first | refine blk_drewN ?_ _ | refine blk_drew ?_ | refine blk_alloc ?_ _)); refine blk_put (cs := #[.int .i64 ((rd_T63 l0_1 x54_3).f0), .string ((rd_T63 l0_1 x54_3).f1), .slice none 0 0]) ?_ 2 _ rfl; (with_reducible repeat (first | refine blk_drewN ?_ _ | refine blk_drew ?_ | refine blk_alloc ?_ _)); refine blk_put (cs := #[.int .i64 ((rd_T63 l0_1 x54_3).f0), .string (⟨#[]⟩ : ByteArray), .slice none 0 0]) ?_ 1 _ rfl; (with_reducible repeat (first | refine blk_drewN ?_ _ | refine blk_drew ?_ | refine blk_alloc ?_ _)); refine blk_put (cs := #[.int .i64 0, .string (⟨#[]⟩ : ByteArray), .slice none 0 0]) ?_ 0 _ rfl; (with_reducible repeat (first | refine blk_drewN ?_ _ | refine blk_drew ?_ | refine blk_alloc ?_ _)); exact BK228.out⟩
                     have n3_ : Aside0 (Below w.heap.size w (((w48.setCell ⟨gb228, 0, none⟩ (.int .i64 ((rd_T63 l0_1 x54_3).f0))).setCell ⟨gb228, 1, none⟩ (.string ((rd_T63 l0_1 x54_3).f1))).setCell ⟨gb228, 2, none⟩ (.slice A227_2 ((rd_T63 l0_1 x54_3).f2).length c227_2))) := ⟨by repeat (first | (with_reducible first | exact HB.out | apply below_alloc | apply pw_below_drewN | apply below_drew1 | refine below_set ?_ GE204.out | refine below_set ?_ GE228.out) | exact HB.out)⟩
                     (try clear HO_5)
                     (try clear BK204)
                     (try clear BK228)
                     (try clear HB)
                     generalize (((w48.setCell ⟨gb228, 0, none⟩ (.int .i64 ((rd_T63 l0_1 x54_3).f0))).setCell ⟨gb228, 1, none⟩ (.string ((rd_T63 l0_1 x54_3).f1))).setCell ⟨gb228, 2, none⟩ (.slice A227_2 ((rd_T63 l0_1 x54_3).f2).length c227_2)) = w63 at n0_ n1_ n2_ n3_ ⊢
                     have HO_5 := n0_
                     have BK204 := n1_
                     have BK228 := n2_
                     have HB := n3_
                     clear n0_ n1_ n2_ n3_
                     have n0_ := Aside0.mk (Kd.R_drew HO_5.out)
                     have n1_ := Aside0.mk (blk_drew BK204.out)
                     have n2_ := Aside0.mk (blk_drew BK228.out)
                     have n3_ := Aside0.mk (below_drew1 HB.out)
                     clear HO_5
                     clear BK204
                     clear BK228
                     clear HB
                     have HO_5 := n0_
                     have BK204 := n1_
                     have BK228 := n2_
                     have HB := n3_
                     clear n0_ n1_ n2_ n3_
                     have p230 : 0 ≤ ((ji54) : Int) := of_decide_eq_true ZZ853400
                     have q230 : (ji54) < (l0_1.length : Int) := of_decide_eq_true ZZ853400
                     obtain ⟨ad230, A230_2, c230_2, e230, hx230_0, hx230_1, hx230_2, hl230_2, hi230_2⟩ := at_T63 HR0_1.out (ji54) p230 q230
                     have hw230_2 := hx230_2
                     have hw230_1 := hx230_1
                     have hw230_0 := hx230_0
                     obtain rfl : ad227 = ad230 := (by injection e230)
                     replace hx230_0 := (HB.out.cell (World.block_lt_of_cell? w _ hx230_0)).trans hx230_0
                     replace hx230_1 := (HB.out.cell (World.block_lt_of_cell? w _ hx230_1)).trans hx230_1
                     replace hx230_2 := (HB.out.cell (World.block_lt_of_cell? w _ hx230_2)).trans hx230_2
                     have HR230_2 := Aside0.mk hi230_2
                     have HC230_2 := Aside0.mk hl230_2
                     clear hi230_2 hl230_2
                     replace p230 := eq_true p230
                     replace q230 := eq_true q230
                     refine start_ (n := 34) (S := fun w' => w'.cell? ⟨gb228, 0, none⟩ = some (.int .i64 ((rd_T63 l0_1 x54_3).f0)) ∧ w'.cell? ⟨gb228, 1, none⟩ = some (.string ((rd_T63 l0_1 x54_3).f1)) ∧ w'.cell? ⟨gb228, 2, none⟩ = some (.slice A227_2 ((rd_T63 l0_1 x54_3).f2).length c227_2) ∧ w'.cell? ⟨gb204, 0, none⟩ = some (.slice A0_0 l0_0.length c0_0) ∧ w'.cell? ⟨gb204, 1, none⟩ = some (.slice (some ad227) l0_1.length c0_1) ∧ w'.cell? (ad227.add (((ji54)).toNat * 3)) = some (.int .i64 ((rd_T63 l0_1 (ji54)).f0)) ∧ w'.cell? ⟨(ad227.add (((ji54)).toNat * 3)).block, (ad227.add (((ji54)).toNat * 3)).off + 1, none⟩ = some (.string ((rd_T63 l0_1 (ji54)).f1)) ∧ w'.cell? ⟨(ad227.add (((ji54)).toNat * 3)).block, (ad227.add (((ji54)).toNat * 3)).off + 2, none⟩ = some (.slice A230_2 ((rd_T63 l0_1 (ji54)).f2).length c230_2)) (ds := []) #[false, false, false, false, false, false, false, false, false, false, false, false, false, false, false, false, false, false, false, false, false, false, false, false, false, false, false, false, false, false, false, false, false, false] (by kernel_rfl) rfl rfl ⟨(blk_cell BK228.out 0).trans rfl, (blk_cell BK228.out 1).trans rfl, (blk_cell BK228.out 2).trans rfl, (blk_cell BK204.out 0).trans rfl, (blk_cell BK204.out 1).trans rfl, ((HB.out.cell (World.block_lt_of_cell? w _ hw230_0)).trans hw230_0), ((HB.out.cell (World.block_lt_of_cell? w _ hw230_1)).trans hw230_1), ((HB.out.cell (World.block_lt_of_cell? w _ hw230_2)).trans hw230_2)⟩ (fun hHeld => ?_); refine with_tabW impl_IsValidLedger.tab13 impl_IsValidLedger.bits13 (fun HT_ HW_ => ?_)
                     generalize w63.drew = w64 at HO_5 BK204 BK228 HB HR230_2 hx230_0 hx230_1 hx230_2 hHeld ⊢
                     refine pu 0 59 ?_
                     refine tk 1 60 ?_
                     refine one_ (i := 2) (N := some 61) #[true, true, true, false, false, false, false, false, false, false, false, false, false, false, false, false, false, false, false, false, false, false, false, false, false, false, false, false, false, false, false, false, false, false] rfl rfl (one_of HT_.out (by kernel_rfl)) (by decide) (fun K hK => ?_)
                     refine goes_ Tryd.func59 (by kernel_rfl) rfl #[.int .i64 ((rd_T63 l0_1 x54_3).f0)] (by rfl) rfl rfl ZZ19826e ?_
                     with_reducible refine (impl_isDay.calls ((rd_T63 l0_1 x54_3).f0) true _ A51.out).mono ?_
                     rintro e w' ⟨rfl, ⟨nd, rfl⟩⟩
                     refine ⟨_, rfl, ?_⟩
                     refine hK.out _ _ ⟨(blk_cell BK228.out 0).trans rfl, (blk_cell BK228.out 1).trans rfl, (blk_cell BK228.out 2).trans rfl, (blk_cell BK204.out 0).trans rfl, (blk_cell BK204.out 1).trans rfl, ((HB.out.cell (World.block_lt_of_cell? w _ hw230_0)).trans hw230_0), ((HB.out.cell (World.block_lt_of_cell? w _ hw230_1)).trans hw230_1), ((HB.out.cell (World.block_lt_of_cell? w _ hw230_2)).trans hw230_2)⟩ (fun hHeld => ?_)
                     clear hK K
                     refine norm_ (a' := ?_) ?_ ?_
                     rotate_left
                     ·show Act.put _ (some 61) _ = _
                      simp only [Act.put, List.setIfInBounds_toArray, List.set_cons_zero, List.set_cons_succ, i64_w, i32_w]
                      rfl
                     refine pu 3 62 ?_
                     refine pu 4 63 ?_
                     refine pu 5 64 ?_
                     refine pu 6 65 ?_
                     refine pu 7 66 ?_
                     refine pu 8 67 ?_
                     refine pu 10 69 ?_
                     refine pu 12 71 ?_
                     refine pu 13 72 ?_
                     refine tk 9 68 ?_
                     refine tk 11 70 ?_
                     refine pu 14 73 ?_
                     refine pu 15 74 ?_
                     refine tk 16 75 ?_
                     refine pu 17 76 ?_
                     refine pu 18 77 ?_
                     refine pu 19 78 ?_
                     refine pu 20 79 ?_
                     refine pu 21 80 ?_
                     refine tk 22 81 ?_
                     refine one_ (i := 23) (N := some 82) #[true, true, true, true, true, true, true, true, true, true, true, true, true, true, true, true, true, true, true, true, true, true, true, true, false, false, false, false, false, false, false, false, false, false] rfl rfl (one_of HT_.out (by kernel_rfl)) (by decide) (fun K hK => ?_)
                     refine goes_ Tryd.func60 (by kernel_rfl) rfl #[.string ((rd_T63 l0_1 x54_3).f1)] (by rfl) rfl rfl ZZ19826e ?_
                     with_reducible refine (impl_isMemo.calls k3 ((rd_T63 l0_1 x54_3).f1) true _ A60.out).mono ?_
                     rintro e w' ⟨rfl, ⟨nd, rfl⟩⟩
                     refine ⟨_, rfl, ?_⟩
                     refine hK.out _ _ ⟨(blk_cell BK228.out 0).trans rfl, (blk_cell BK228.out 1).trans rfl, (blk_cell BK228.out 2).trans rfl, (blk_cell BK204.out 0).trans rfl, (blk_cell BK204.out 1).trans rfl, ((HB.out.cell (World.block_lt_of_cell? w _ hw230_0)).trans hw230_0), ((HB.out.cell (World.block_lt_of_cell? w _ hw230_1)).trans hw230_1), ((HB.out.cell (World.block_lt_of_cell? w _ hw230_2)).trans hw230_2)⟩ (fun hHeld => ?_)
                     clear hK K
                     refine norm_ (a' := ?_) ?_ ?_
                     rotate_left
                     ·show Act.put _ (some 82) _ = _
                      simp only [Act.put, List.setIfInBounds_toArray, List.set_cons_zero, List.set_cons_succ, i64_w, i32_w]
                      rfl
                     refine pu 24 83 ?_
                     refine pu 25 84 ?_
                     refine pu 26 85 ?_
                     refine pu 28 87 ?_
                     refine tk 27 86 ?_
                     refine tk 29 88 ?_
                     refine pu 30 89 ?_
                     refine one_ (i := 31) (N := some 90) #[true, true, true, true, true, true, true, true, true, true, true, true, true, true, true, true, true, true, true, true, true, true, true, true, true, true, true, true, true, true, true, true, false, false] rfl rfl (one_of HT_.out (by kernel_rfl)) (by decide) (fun K hK => ?_)
                     refine goes_ Tryd.func61 (by kernel_rfl) rfl #[.agg #[.int .i64 ((rd_T63 l0_1 x54_3).f0), .string ((rd_T63 l0_1 x54_3).f1), .slice A227_2 ((rd_T63 l0_1 x54_3).f2).length c227_2], .int .i64 (l0_0.length : Int)] (by rfl) rfl rfl ZZ19826e ?_
                     with_reducible refine (impl_isPosted.calls k3 ((rd_T63 l0_1 x54_3).f0) ((rd_T63 l0_1 x54_3).f1) _ _ ((rd_T63 l0_1 x54_3).f2) (l0_0.length : Int) t232 _ ?side1 ?side2 A62.out).mono ?_
                     (case side1 => repeat (first | exact (Kd.C_below HR227_2.out ZZ6fc3ee) | (with_reducible refine Kd.C_alloc ?_ _) | (with_reducible refine Kd.C_drewN ?_ _) | (with_reducible refine Kd.C_drew ?_)))
                     (case side2 => exact HC227_2.out)
                     rintro e w65 ⟨rfl, hb⟩
                     refine ⟨_, rfl, ?_⟩
                     have n0_ := Aside0.mk (Kd.R_below (by (with_reducible repeat (first | apply Kd.R_alloc | apply Kd.R_drewN | apply Kd.R_drew)); exact HO_5.out) hb)
                     have n1_ := Aside0.mk (blk_below (g := gb204) (o := .cells #[.slice A0_0 l0_0.length c0_0, .slice (some ad227) l0_1.length c0_1] 31 (0, 0)) ZZa30d0d hb)
                     have n2_ := Aside0.mk (blk_below (g := gb228) (o := .cells #[.int .i64 ((rd_T63 l0_1 x54_3).f0), .string ((rd_T63 l0_1 x54_3).f1), .slice A227_2 ((rd_T63 l0_1 x54_3).f2).length c227_2] 63 (0, 0)) ZZ313b37 hb)
                     have n3_ := Aside0.mk (below_step ZZ6fc3ee hb)
                     clear HO_5
                     clear BK204
                     clear BK228
                     clear HB
                     have HO_5 := n0_
                     have BK204 := n1_
                     have BK228 := n2_
                     have HB := n3_
                     clear n0_ n1_ n2_ n3_
                     (try clear hb)
                     (try clear hb2)
                     (try clear hk)
                     (try clear hi)
                     refine hK.out _ _ ⟨(blk_cell BK228.out 0).trans rfl, (blk_cell BK228.out 1).trans rfl, (blk_cell BK228.out 2).trans rfl, (blk_cell BK204.out 0).trans rfl, (blk_cell BK204.out 1).trans rfl, ((HB.out.cell (World.block_lt_of_cell? w _ hw230_0)).trans hw230_0), ((HB.out.cell (World.block_lt_of_cell? w _ hw230_1)).trans hw230_1), ((HB.out.cell (World.block_lt_of_cell? w _ hw230_2)).trans hw230_2)⟩ (fun hHeld => ?_)
                     clear hK K
                     refine norm_ (a' := ?_) ?_ ?_
                     rotate_left
                     ·show Act.put _ (some 90) _ = _
                      simp only [Act.put, List.setIfInBounds_toArray, List.set_cons_zero, List.set_cons_succ, i64_w, i32_w]
                      rfl
                     refine pu 32 91 ?_
                     refine pu 33 92 ?_
                     refine done_ (done_of HT_.out (by kernel_rfl)) ?_
                     try go_wp2
                     go_meet
                     case rel => exact ⟨_, (!t232), ZZ0ab324, H', ⟨by have := HJ1.out; have := HK2.out; have := HK3.out; first | omega | exact Nat.le_refl _⟩, ⟨by (with_reducible repeat (first | apply Kd.R_alloc | apply Kd.R_drewN | apply Kd.R_drew)); exact HO_5.out⟩, ⟨by (with_reducible repeat (first | refine blk_drewN ?_ _ | refine blk_drew ?_ | refine blk_alloc ?_ _)); exact BK204.out⟩, ⟨by (with_reducible repeat (first | refine blk_drewN ?_ _ | refine blk_drew ?_ | refine blk_alloc ?_ _)); exact BK228.out⟩, ⟨by repeat (first | (with_reducible first | exact HB.out | apply below_alloc | apply pw_below_drewN | apply below_drew1 | refine below_set ?_ GE204.out | refine below_set ?_ GE228.out) | exact HB.out)⟩⟩
                    ·replace c61 := Bool.eq_false_iff.mpr c61
                     subst c61
                     have H1 : (impl_IsValidLedger.j4 k3 x5_3 l0_1 (l0_1.length : Int) x54_3 true l0_0 l0_1 ((rd_T63 l0_1 x54_3).f0) ((rd_T63 l0_1 x54_3).f1) ((rd_T63 l0_1 x54_3).f2)) = some r := by rw [if_neg (show ¬ (false = true) by decide)] at H; exact H
                     clear H
                     have H := H1
                     clear H1
                     have H' := Aside0.mk H
                     clear H
                     try go_wp2
                     have n0_ : Aside0 (Kd.R (Kd.int .i64) 3 (((w48.setCell ⟨gb228, 0, none⟩ (.int .i64 ((rd_T63 l0_1 x54_3).f0))).setCell ⟨gb228, 1, none⟩ (.string ((rd_T63 l0_1 x54_3).f1))).setCell ⟨gb228, 2, none⟩ (.slice A227_2 ((rd_T63 l0_1 x54_3).f2).length c227_2)) w.heap.size (fun _ => True) v225 x5_3) := ⟨by (with_reducible repeat (first | apply Kd.R_alloc | apply Kd.R_drewN | apply Kd.R_drew)); exact Kd.R_mono (Kd.R_far (p := ⟨gb228, 2, none⟩) (Kd.R_far (p := ⟨gb228, 1, none⟩) (Kd.R_far (p := ⟨gb228, 0, none⟩) (Kd.R_types HO_5.out BK228.out (by decide)) (fun _ hk => hk.2) (.int .i64 ((rd_T63 l0_1 x54_3).f0))) (fun _ hk => hk.2) (.string ((rd_T63 l0_1 x54_3).f1))) (fun _ hk => hk.2) (.slice A227_2 ((rd_T63 l0_1 x54_3).f2).length c227_2)) (fun _ hk => trivial)⟩
                     have n1_ : Aside0 ((((w48.setCell ⟨gb228, 0, none⟩ (.int .i64 ((rd_T63 l0_1 x54_3).f0))).setCell ⟨gb228, 1, none⟩ (.string ((rd_T63 l0_1 x54_3).f1))).setCell ⟨gb228, 2, none⟩ (.slice A227_2 ((rd_T63 l0_1 x54_3).f2).length c227_2)).heap[gb204]? = some (.cells #[.slice A0_0 l0_0.length c0_0, .slice (some ad227) l0_1.length c0_1] 31 (0, 0))) := ⟨by (with_reducible repeat (first | refine blk_drewN ?_ _ | refine blk_drew ?_ | refine blk_alloc ?_ _)); refine blk_far ?_ NB204_228.out _; (with_reducible repeat (first | refine blk_drewN ?_ _ | refine blk_drew ?_ | refine blk_alloc ?_ _)); refine blk_far ?_ NB204_228.out _; (with_reducible repeat (first | refine blk_drewN ?_ _ | refine blk_drew ?_ | refine blk_alloc ?_ _)); refine blk_far ?_ NB204_228.out _; (with_reducible repeat (first | refine blk_drewN ?_ _ | refine blk_drew ?_ | refine blk_alloc ?_ _)); exact BK204.out⟩
                     have n2_ : Aside0 ((((w48.setCell ⟨gb228, 0, none⟩ (.int .i64 ((rd_T63 l0_1 x54_3).f0))).setCell ⟨gb228, 1, none⟩ (.string ((rd_T63 l0_1 x54_3).f1))).setCell ⟨gb228, 2, none⟩ (.slice A227_2 ((rd_T63 l0_1 x54_3).f2).length c227_2)).heap[gb228]? = some (.cells #[.int .i64 ((rd_T63 l0_1 x54_3).f0), .string ((rd_T63 l0_1 x54_3).f1), .slice A227_2 ((rd_T63 l0_1 x54_3).f2).length c227_2] 63 (0, 0))) := ⟨by (with_reducible repeat (first | refine blk_drewN ?_ _ | refine blk_drew ?_ | refine blk_alloc ?_ _)); refine blk_put (cs := #[.int .i64 ((rd_T63 l0_1 x54_3).f0), .string ((rd_T63 l0_1 x54_3).f1), .slice none 0 0]) ?_ 2 _ rfl; (with_reducible repeat (first | refine blk_drewN ?_ _ | refine blk_drew ?_ | refine blk_alloc ?_ _)); refine blk_put (cs := #[.int .i64 ((rd_T63 l0_1 x54_3).f0), .string (⟨#[]⟩ : ByteArray), .slice none 0 0]) ?_ 1 _ rfl; (with_reducible repeat (first | refine blk_drewN ?_ _ | refine blk_drew ?_ | refine blk_alloc ?_ _)); refine blk_put (cs := #[.int .i64 0, .string (⟨#[]⟩ : ByteArray), .slice none 0 0]) ?_ 0 _ rfl; (with_reducible repeat (first | refine blk_drewN ?_ _ | refine blk_drew ?_ | refine blk_alloc ?_ _)); exact BK228.out⟩
                     have n3_ : Aside0 (Below w.heap.size w (((w48.setCell ⟨gb228, 0, none⟩ (.int .i64 ((rd_T63 l0_1 x54_3).f0))).setCell ⟨gb228, 1, none⟩ (.string ((rd_T63 l0_1 x54_3).f1))).setCell ⟨gb228, 2, none⟩ (.slice A227_2 ((rd_T63 l0_1 x54_3).f2).length c227_2))) := ⟨by repeat (first | (with_reducible first | exact HB.out | apply below_alloc | apply pw_below_drewN | apply below_drew1 | refine below_set ?_ GE204.out | refine below_set ?_ GE228.out) | exact HB.out)⟩
                     (try clear HO_5)
                     (try clear BK204)
                     (try clear BK228)
                     (try clear HB)
                     generalize (((w48.setCell ⟨gb228, 0, none⟩ (.int .i64 ((rd_T63 l0_1 x54_3).f0))).setCell ⟨gb228, 1, none⟩ (.string ((rd_T63 l0_1 x54_3).f1))).setCell ⟨gb228, 2, none⟩ (.slice A227_2 ((rd_T63 l0_1 x54_3).f2).length c227_2)) = w66 at n0_ n1_ n2_ n3_ ⊢
                     have HO_5 := n0_
                     have BK204 := n1_
                     have BK228 := n2_
                     have HB := n3_
                     clear n0_ n1_ n2_ n3_
                     have n0_ := Aside0.mk (Kd.R_drew HO_5.out)
                     have n1_ := Aside0.mk (blk_drew BK204.out)
                     have n2_ := Aside0.mk (blk_drew BK228.out)
                     have n3_ := Aside0.mk (below_drew1 HB.out)
                     clear HO_5
                     clear BK204
                     clear BK228
                     clear HB
                     have HO_5 := n0_
                     have BK204 := n1_
                     have BK228 := n2_
                     have HB := n3_
                     clear n0_ n1_ n2_ n3_
                     have p230 : 0 ≤ ((ji54) : Int) := of_decide_eq_true ZZ853400
                     have q230 : (ji54) < (l0_1.length : Int) := of_decide_eq_true ZZ853400
                     obtain ⟨ad230, A230_2, c230_2, e230, hx230_0, hx230_1, hx230_2, hl230_2, hi230_2⟩ := at_T63 HR0_1.out (ji54) p230 q230
                     have hw230_2 := hx230_2
                     have hw230_1 := hx230_1
                     have hw230_0 := hx230_0
                     obtain rfl : ad227 = ad230 := (by injection e230)
                     replace hx230_0 := (HB.out.cell (World.block_lt_of_cell? w _ hx230_0)).trans hx230_0
                     replace hx230_1 := (HB.out.cell (World.block_lt_of_cell? w _ hx230_1)).trans hx230_1
                     replace hx230_2 := (HB.out.cell (World.block_lt_of_cell? w _ hx230_2)).trans hx230_2
                     have HR230_2 := Aside0.mk hi230_2
                     have HC230_2 := Aside0.mk hl230_2
                     clear hi230_2 hl230_2
                     replace p230 := eq_true p230
                     replace q230 := eq_true q230
                     refine start_ (n := 34) (S := fun w' => w'.cell? ⟨gb228, 0, none⟩ = some (.int .i64 ((rd_T63 l0_1 x54_3).f0)) ∧ w'.cell? ⟨gb228, 1, none⟩ = some (.string ((rd_T63 l0_1 x54_3).f1)) ∧ w'.cell? ⟨gb228, 2, none⟩ = some (.slice A227_2 ((rd_T63 l0_1 x54_3).f2).length c227_2) ∧ w'.cell? ⟨gb204, 0, none⟩ = some (.slice A0_0 l0_0.length c0_0) ∧ w'.cell? ⟨gb204, 1, none⟩ = some (.slice (some ad227) l0_1.length c0_1) ∧ w'.cell? (ad227.add (((ji54)).toNat * 3)) = some (.int .i64 ((rd_T63 l0_1 (ji54)).f0)) ∧ w'.cell? ⟨(ad227.add (((ji54)).toNat * 3)).block, (ad227.add (((ji54)).toNat * 3)).off + 1, none⟩ = some (.string ((rd_T63 l0_1 (ji54)).f1)) ∧ w'.cell? ⟨(ad227.add (((ji54)).toNat * 3)).block, (ad227.add (((ji54)).toNat * 3)).off + 2, none⟩ = some (.slice A230_2 ((rd_T63 l0_1 (ji54)).f2).length c230_2)) (ds := []) #[false, false, false, false, false, false, false, false, false, false, false, false, false, false, false, false, false, false, false, false, false, false, false, false, false, false, false, false, false, false, false, false, false, false] (by kernel_rfl) rfl rfl ⟨(blk_cell BK228.out 0).trans rfl, (blk_cell BK228.out 1).trans rfl, (blk_cell BK228.out 2).trans rfl, (blk_cell BK204.out 0).trans rfl, (blk_cell BK204.out 1).trans rfl, ((HB.out.cell (World.block_lt_of_cell? w _ hw230_0)).trans hw230_0), ((HB.out.cell (World.block_lt_of_cell? w _ hw230_1)).trans hw230_1), ((HB.out.cell (World.block_lt_of_cell? w _ hw230_2)).trans hw230_2)⟩ (fun hHeld => ?_); refine with_tabW impl_IsValidLedger.tab13 impl_IsValidLedger.bits13 (fun HT_ HW_ => ?_)
                     generalize w66.drew = w67 at HO_5 BK204 BK228 HB HR230_2 hx230_0 hx230_1 hx230_2 hHeld ⊢
                     refine pu 0 59 ?_
                     refine tk 1 60 ?_
                     refine one_ (i := 2) (N := some 61) #[true, true, true, false, false, false, false, false, false, false, false, false, false, false, false, false, false, false, false, false, false, false, false, false, false, false, false, false, false, false, false, false, false, false] rfl rfl (one_of HT_.out (by kernel_rfl)) (by decide) (fun K hK => ?_)
                     refine goes_ Tryd.func59 (by kernel_rfl) rfl #[.int .i64 ((rd_T63 l0_1 x54_3).f0)] (by rfl) rfl rfl ZZ19826e ?_
                     with_reducible refine (impl_isDay.calls ((rd_T63 l0_1 x54_3).f0) true _ A51.out).mono ?_
                     rintro e w' ⟨rfl, ⟨nd, rfl⟩⟩
                     refine ⟨_, rfl, ?_⟩
                     refine hK.out _ _ ⟨(blk_cell BK228.out 0).trans rfl, (blk_cell BK228.out 1).trans rfl, (blk_cell BK228.out 2).trans rfl, (blk_cell BK204.out 0).trans rfl, (blk_cell BK204.out 1).trans rfl, ((HB.out.cell (World.block_lt_of_cell? w _ hw230_0)).trans hw230_0), ((HB.out.cell (World.block_lt_of_cell? w _ hw230_1)).trans hw230_1), ((HB.out.cell (World.block_lt_of_cell? w _ hw230_2)).trans hw230_2)⟩ (fun hHeld => ?_)
                     clear hK K
                     refine norm_ (a' := ?_) ?_ ?_
                     rotate_left
                     ·show Act.put _ (some 61) _ = _
                      simp only [Act.put, List.setIfInBounds_toArray, List.set_cons_zero, List.set_cons_succ, i64_w, i32_w]
                      rfl
                     refine pu 3 62 ?_
                     refine pu 4 63 ?_
                     refine pu 5 64 ?_
                     refine pu 6 65 ?_
                     refine pu 7 66 ?_
                     refine pu 8 67 ?_
                     refine pu 10 69 ?_
                     refine pu 12 71 ?_
                     refine pu 13 72 ?_
                     refine tk 9 68 ?_
                     refine tk 11 70 ?_
                     refine pu 14 73 ?_
                     refine pu 15 74 ?_
                     refine tk 16 75 ?_
                     refine pu 17 76 ?_
                     refine pu 18 77 ?_
                     refine pu 19 78 ?_
                     refine pu 20 79 ?_
                     refine pu 21 80 ?_
                     refine tk 22 81 ?_
                     refine one_ (i := 23) (N := some 82) #[true, true, true, true, true, true, true, true, true, true, true, true, true, true, true, true, true, true, true, true, true, true, true, true, false, false, false, false, false, false, false, false, false, false] rfl rfl (one_of HT_.out (by kernel_rfl)) (by decide) (fun K hK => ?_)
                     refine goes_ Tryd.func60 (by kernel_rfl) rfl #[.string ((rd_T63 l0_1 x54_3).f1)] (by rfl) rfl rfl ZZ19826e ?_
                     with_reducible refine (impl_isMemo.calls k3 ((rd_T63 l0_1 x54_3).f1) false _ A60.out).mono ?_
                     rintro e w' ⟨rfl, ⟨nd, rfl⟩⟩
                     refine ⟨_, rfl, ?_⟩
                     refine hK.out _ _ ⟨(blk_cell BK228.out 0).trans rfl, (blk_cell BK228.out 1).trans rfl, (blk_cell BK228.out 2).trans rfl, (blk_cell BK204.out 0).trans rfl, (blk_cell BK204.out 1).trans rfl, ((HB.out.cell (World.block_lt_of_cell? w _ hw230_0)).trans hw230_0), ((HB.out.cell (World.block_lt_of_cell? w _ hw230_1)).trans hw230_1), ((HB.out.cell (World.block_lt_of_cell? w _ hw230_2)).trans hw230_2)⟩ (fun hHeld => ?_)
                     clear hK K
                     refine norm_ (a' := ?_) ?_ ?_
                     rotate_left
                     ·show Act.put _ (some 82) _ = _
                      simp only [Act.put, List.setIfInBounds_toArray, List.set_cons_zero, List.set_cons_succ, i64_w, i32_w]
                      rfl
                     refine pu 24 83 ?_
                     refine pu 25 84 ?_
                     refine pu 26 85 ?_
                     refine pn 27 86 ?_
                     refine pn 28 87 ?_
                     refine pn 29 88 ?_
                     refine pn 30 89 ?_
                     refine pn 31 90 ?_
                     refine pn 32 91 ?_
                     refine pu 33 92 ?_
                     refine done_ (done_of HT_.out (by kernel_rfl)) ?_
                     try go_wp2
                     go_meet
                     case rel => exact ⟨_, (true), ZZ0ab324, H', ⟨by have := HJ1.out; have := HK2.out; have := HK3.out; first | omega | exact Nat.le_refl _⟩, ⟨by (with_reducible repeat (first | apply Kd.R_alloc | apply Kd.R_drewN | apply Kd.R_drew)); exact HO_5.out⟩, ⟨by (with_reducible repeat (first | refine blk_drewN ?_ _ | refine blk_drew ?_ | refine blk_alloc ?_ _)); exact BK204.out⟩, ⟨by (with_reducible repeat (first | refine blk_drewN ?_ _ | refine blk_drew ?_ | refine blk_alloc ?_ _)); exact BK228.out⟩, ⟨by repeat (first | (with_reducible first | exact HB.out | apply below_alloc | apply pw_below_drewN | apply below_drew1 | refine below_set ?_ GE204.out | refine below_set ?_ GE228.out) | exact HB.out)⟩⟩
                  ·rw [if_neg c56] at H
                   exact absurd H (by simp)
                 ·rw [if_neg c55] at H
                  exact absurd H (by simp)
                ·rw [if_neg c53] at H
                 have c53b0 : decide (0 < x54_3) = false := decide_eq_false c53
                 clear c53
                 (first | rw [c53b0] | (simp only [i64_w, i32_w]; rw [c53b0]) | skip)
                 replace H := Option.bind_eq_some_iff.mp H
                 obtain ⟨t233, A680, H⟩ := H
                 replace H : (if t233 = true then ((impl_isPosted.f k3 ((rd_T63 l0_1 x54_3).f0) ((rd_T63 l0_1 x54_3).f1) ((rd_T63 l0_1 x54_3).f2) (l0_0.length : Int)).bind fun t234 => (impl_IsValidLedger.j4 k3 x5_3 l0_1 (l0_1.length : Int) x54_3 (!t234) l0_0 l0_1 ((rd_T63 l0_1 x54_3).f0) ((rd_T63 l0_1 x54_3).f1) ((rd_T63 l0_1 x54_3).f2))) else (impl_IsValidLedger.j4 k3 x5_3 l0_1 (l0_1.length : Int) x54_3 true l0_0 l0_1 ((rd_T63 l0_1 x54_3).f0) ((rd_T63 l0_1 x54_3).f1) ((rd_T63 l0_1 x54_3).f2))) = some r := H
                 have A68 := Aside0.mk A680
                 clear A680
                 by_cases c69 : t233 = true
                 ·subst c69
                  have H1 : ((impl_isPosted.f k3 ((rd_T63 l0_1 x54_3).f0) ((rd_T63 l0_1 x54_3).f1) ((rd_T63 l0_1 x54_3).f2) (l0_0.length : Int)).bind fun t234 => (impl_IsValidLedger.j4 k3 x5_3 l0_1 (l0_1.length : Int) x54_3 (!t234) l0_0 l0_1 ((rd_T63 l0_1 x54_3).f0) ((rd_T63 l0_1 x54_3).f1) ((rd_T63 l0_1 x54_3).f2))) = some r := by rw [if_pos rfl] at H; exact H
                  clear H
                  have H := H1
                  clear H1
                  replace H := Option.bind_eq_some_iff.mp H
                  obtain ⟨t234, A700, H⟩ := H
                  replace H : (impl_IsValidLedger.j4 k3 x5_3 l0_1 (l0_1.length : Int) x54_3 (!t234) l0_0 l0_1 ((rd_T63 l0_1 x54_3).f0) ((rd_T63 l0_1 x54_3).f1) ((rd_T63 l0_1 x54_3).f2)) = some r := H
                  have A70 := Aside0.mk A700
                  clear A700
                  have H' := Aside0.mk H
                  clear H
                  try go_wp2
                  have n0_ : Aside0 (Kd.R (Kd.int .i64) 3 (((w48.setCell ⟨gb228, 0, none⟩ (.int .i64 ((rd_T63 l0_1 x54_3).f0))).setCell ⟨gb228, 1, none⟩ (.string ((rd_T63 l0_1 x54_3).f1))).setCell ⟨gb228, 2, none⟩ (.slice A227_2 ((rd_T63 l0_1 x54_3).f2).length c227_2)) w.heap.size (fun _ => True) v225 x5_3) := ⟨by (with_reducible repeat (first | apply Kd.R_alloc | apply Kd.R_drewN | apply Kd.R_drew)); exact Kd.R_mono (Kd.R_far (p := ⟨gb228, 2, none⟩) (Kd.R_far (p := ⟨gb228, 1, none⟩) (Kd.R_far (p := ⟨gb228, 0, none⟩) (Kd.R_types HO_5.out BK228.out (by decide)) (fun _ hk => hk.2) (.int .i64 ((rd_T63 l0_1 x54_3).f0))) (fun _ hk => hk.2) (.string ((rd_T63 l0_1 x54_3).f1))) (fun _ hk => hk.2) (.slice A227_2 ((rd_T63 l0_1 x54_3).f2).length c227_2)) (fun _ hk => trivial)⟩
                  have n1_ : Aside0 ((((w48.setCell ⟨gb228, 0, none⟩ (.int .i64 ((rd_T63 l0_1 x54_3).f0))).setCell ⟨gb228, 1, none⟩ (.string ((rd_T63 l0_1 x54_3).f1))).setCell ⟨gb228, 2, none⟩ (.slice A227_2 ((rd_T63 l0_1 x54_3).f2).length c227_2)).heap[gb204]? = some (.cells #[.slice A0_0 l0_0.length c0_0, .slice (some ad227) l0_1.length c0_1] 31 (0, 0))) := ⟨by (with_reducible repeat (first | refine blk_drewN ?_ _ | refine blk_drew ?_ | refine blk_alloc ?_ _)); refine blk_far ?_ NB204_228.out _; (with_reducible repeat (first | refine blk_drewN ?_ _ | refine blk_drew ?_ | refine blk_alloc ?_ _)); refine blk_far ?_ NB204_228.out _; (with_reducible repeat (first | refine blk_drewN ?_ _ | refine blk_drew ?_ | refine blk_alloc ?_ _)); refine blk_far ?_ NB204_228.out _; (with_reducible repeat (first | refine blk_drewN ?_ _ | refine blk_drew ?_ | refine blk_alloc ?_ _)); exact BK204.out⟩
                  have n2_ : Aside0 ((((w48.setCell ⟨gb228, 0, none⟩ (.int .i64 ((rd_T63 l0_1 x54_3).f0))).setCell ⟨gb228, 1, none⟩ (.string ((rd_T63 l0_1 x54_3).f1))).setCell ⟨gb228, 2, none⟩ (.slice A227_2 ((rd_T63 l0_1 x54_3).f2).length c227_2)).heap[gb228]? = some (.cells #[.int .i64 ((rd_T63 l0_1 x54_3).f0), .string ((rd_T63 l0_1 x54_3).f1), .slice A227_2 ((rd_T63 l0_1 x54_3).f2).length c227_2] 63 (0, 0))) := ⟨by (with_reducible repeat (first | refine blk_drewN ?_ _ | refine blk_drew ?_ | refine blk_alloc ?_ _)); refine blk_put (cs := #[.int .i64 ((rd_T63 l0_1 x54_3).f0), .string ((rd_T63 l0_1 x54_3).f1), .slice none 0 0]) ?_ 2 _ rfl; (with_reducible repeat (first | refine blk_drewN ?_ _ | refine blk_drew ?_ | refine blk_alloc ?_ _)); refine blk_put (cs := #[.int .i64 ((rd_T63 l0_1 x54_3).f0), .string (⟨#[]⟩ : ByteArray), .slice none 0 0]) ?_ 1 _ rfl; (with_reducible repeat (first | refine blk_drewN ?_ _ | refine blk_drew ?_ | refine blk_alloc ?_ _)); refine blk_put (cs := #[.int .i64 0, .string (⟨#[]⟩ : ByteArray), .slice none 0 0]) ?_ 0 _ rfl; (with_reducible repeat (first | refine blk_drewN ?_ _ | refine blk_drew ?_ | refine blk_alloc ?_ _)); exact BK228.out⟩
                  have n3_ : Aside0 (Below w.heap.size w (((w48.setCell ⟨gb228, 0, none⟩ (.int .i64 ((rd_T63 l0_1 x54_3).f0))).setCell ⟨gb228, 1, none⟩ (.string ((rd_T63 l0_1 x54_3).f1))).setCell ⟨gb228, 2, none⟩ (.slice A227_2 ((rd_T63 l0_1 x54_3).f2).length c227_2))) := ⟨by repeat (first | (with_reducible first | exact HB.out | apply below_alloc | apply pw_below_drewN | apply below_drew1 | refine below_set ?_ GE204.out | refine below_set ?_ GE228.out) | exact HB.out)⟩
                  (try clear HO_5)
                  (try clear BK204)
                  (try clear BK228)
                  (try clear HB)
                  generalize (((w48.setCell ⟨gb228, 0, none⟩ (.int .i64 ((rd_T63 l0_1 x54_3).f0))).setCell ⟨gb228, 1, none⟩ (.string ((rd_T63 l0_1 x54_3).f1))).setCell ⟨gb228, 2, none⟩ (.slice A227_2 ((rd_T63 l0_1 x54_3).f2).length c227_2)) = w71 at n0_ n1_ n2_ n3_ ⊢
                  have HO_5 := n0_
                  have BK204 := n1_
                  have BK228 := n2_
                  have HB := n3_
                  clear n0_ n1_ n2_ n3_
                  have n0_ := Aside0.mk (Kd.R_drew HO_5.out)
                  have n1_ := Aside0.mk (blk_drew BK204.out)
                  have n2_ := Aside0.mk (blk_drew BK228.out)
                  have n3_ := Aside0.mk (below_drew1 HB.out)
                  clear HO_5
                  clear BK204
                  clear BK228
                  clear HB
                  have HO_5 := n0_
                  have BK204 := n1_
                  have BK228 := n2_
                  have HB := n3_
                  clear n0_ n1_ n2_ n3_
                  refine start_ (n := 34) (S := fun w' => w'.cell? ⟨gb228, 0, none⟩ = some (.int .i64 ((rd_T63 l0_1 x54_3).f0)) ∧ w'.cell? ⟨gb228, 1, none⟩ = some (.string ((rd_T63 l0_1 x54_3).f1)) ∧ w'.cell? ⟨gb228, 2, none⟩ = some (.slice A227_2 ((rd_T63 l0_1 x54_3).f2).length c227_2) ∧ w'.cell? ⟨gb204, 0, none⟩ = some (.slice A0_0 l0_0.length c0_0) ∧ w'.cell? ⟨gb204, 1, none⟩ = some (.slice (some ad227) l0_1.length c0_1)) (ds := []) #[false, false, false, false, false, false, false, false, false, false, false, false, false, false, false, false, false, false, false, false, false, false, false, false, false, false, false, false, false, false, false, false, false, false] (by kernel_rfl) rfl rfl ⟨(blk_cell BK228.out 0).trans rfl, (blk_cell BK228.out 1).trans rfl, (blk_cell BK228.out 2).trans rfl, (blk_cell BK204.out 0).trans rfl, (blk_cell BK204.out 1).trans rfl⟩ (fun hHeld => ?_); refine with_tabW impl_IsValidLedger.tab13 impl_IsValidLedger.bits13 (fun HT_ HW_ => ?_)
                  generalize w71.drew = w72 at HO_5 BK204 BK228 HB hHeld ⊢
                  refine pu 0 59 ?_
                  refine tk 1 60 ?_
                  refine one_ (i := 2) (N := some 61) #[true, true, true, false, false, false, false, false, false, false, false, false, false, false, false, false, false, false, false, false, false, false, false, false, false, false, false, false, false, false, false, false, false, false] rfl rfl (one_of HT_.out (by kernel_rfl)) (by decide) (fun K hK => ?_)
                  refine goes_ Tryd.func59 (by kernel_rfl) rfl #[.int .i64 ((rd_T63 l0_1 x54_3).f0)] (by rfl) rfl rfl ZZ19826e ?_
                  with_reducible refine (impl_isDay.calls ((rd_T63 l0_1 x54_3).f0) true _ A51.out).mono ?_
                  rintro e w' ⟨rfl, ⟨nd, rfl⟩⟩
                  refine ⟨_, rfl, ?_⟩
                  refine hK.out _ _ ⟨(blk_cell BK228.out 0).trans rfl, (blk_cell BK228.out 1).trans rfl, (blk_cell BK228.out 2).trans rfl, (blk_cell BK204.out 0).trans rfl, (blk_cell BK204.out 1).trans rfl⟩ (fun hHeld => ?_)
                  clear hK K
                  refine norm_ (a' := ?_) ?_ ?_
                  rotate_left
                  ·show Act.put _ (some 61) _ = _
                   simp only [Act.put, List.setIfInBounds_toArray, List.set_cons_zero, List.set_cons_succ, i64_w, i32_w]
                   rfl
                  refine pu 3 62 ?_
                  refine pu 4 63 ?_
                  refine pu 5 64 ?_
                  refine pu 6 65 ?_
                  refine pu 7 66 ?_
                  refine pn 8 67 ?_
                  refine pn 9 68 ?_
                  refine pn 10 69 ?_
                  refine pn 11 70 ?_
                  refine pn 12 71 ?_
                  refine pn 13 72 ?_
                  refine pn 14 73 ?_
                  refine pn 15 74 ?_
                  refine pn 16 75 ?_
                  refine pn 17 76 ?_
                  refine pu 18 77 ?_
                  refine pu 19 78 ?_
                  refine pu 20 79 ?_
                  refine pu 21 80 ?_
                  refine tk 22 81 ?_
                  refine one_ (i := 23) (N := some 82) #[true, true, true, true, true, true, true, true, true, true, true, true, true, true, true, true, true, true, true, true, true, true, true, true, false, false, false, false, false, false, false, false, false, false] rfl rfl (one_of HT_.out (by kernel_rfl)) (by decide) (fun K hK => ?_)
                  refine goes_ Tryd.func60 (by kernel_rfl) rfl #[.string ((rd_T63 l0_1 x54_3).f1)] (by rfl) rfl rfl ZZ19826e ?_
                  with_reducible refine (impl_isMemo.calls k3 ((rd_T63 l0_1 x54_3).f1) true _ A68.out).mono ?_
                  rintro e w' ⟨rfl, ⟨nd, rfl⟩⟩
                  refine ⟨_, rfl, ?_⟩
                  refine hK.out _ _ ⟨(blk_cell BK228.out 0).trans rfl, (blk_cell BK228.out 1).trans rfl, (blk_cell BK228.out 2).trans rfl, (blk_cell BK204.out 0).trans rfl, (blk_cell BK204.out 1).trans rfl⟩ (fun hHeld => ?_)
                  clear hK K
                  refine norm_ (a' := ?_) ?_ ?_
                  rotate_left
                  ·show Act.put _ (some 82) _ = _
                   simp only [Act.put, List.setIfInBounds_toArray, List.set_cons_zero, List.set_cons_succ, i64_w, i32_w]
                   rfl
                  refine pu 24 83 ?_
                  refine pu 25 84 ?_
                  refine pu 26 85 ?_
                  refine pu 28 87 ?_
                  refine tk 27 86 ?_
                  refine tk 29 88 ?_
                  refine pu 30 89 ?_
                  refine one_ (i := 31) (N := some 90) #[true, true, true, true, true, true, true, true, true, true, true, true, true, true, true, true, true, true, true, true, true, true, true, true, true, true, true, true, true, true, true, true, false, false] rfl rfl (one_of HT_.out (by kernel_rfl)) (by decide) (fun K hK => ?_)
                  refine goes_ Tryd.func61 (by kernel_rfl) rfl #[.agg #[.int .i64 ((rd_T63 l0_1 x54_3).f0), .string ((rd_T63 l0_1 x54_3).f1), .slice A227_2 ((rd_T63 l0_1 x54_3).f2).length c227_2], .int .i64 (l0_0.length : Int)] (by rfl) rfl rfl ZZ19826e ?_
                  with_reducible refine (impl_isPosted.calls k3 ((rd_T63 l0_1 x54_3).f0) ((rd_T63 l0_1 x54_3).f1) _ _ ((rd_T63 l0_1 x54_3).f2) (l0_0.length : Int) t234 _ ?side1 ?side2 A70.out).mono ?_
                  (case side1 => repeat (first | exact (Kd.C_below HR227_2.out ZZ6fc3ee) | (with_reducible refine Kd.C_alloc ?_ _) | (with_reducible refine Kd.C_drewN ?_ _) | (with_reducible refine Kd.C_drew ?_)))
                  (case side2 => exact HC227_2.out)
                  rintro e w73 ⟨rfl, hb⟩
                  refine ⟨_, rfl, ?_⟩
                  have n0_ := Aside0.mk (Kd.R_below (by (with_reducible repeat (first | apply Kd.R_alloc | apply Kd.R_drewN | apply Kd.R_drew)); exact HO_5.out) hb)
                  have n1_ := Aside0.mk (blk_below (g := gb204) (o := .cells #[.slice A0_0 l0_0.length c0_0, .slice (some ad227) l0_1.length c0_1] 31 (0, 0)) ZZa30d0d hb)
                  have n2_ := Aside0.mk (blk_below (g := gb228) (o := .cells #[.int .i64 ((rd_T63 l0_1 x54_3).f0), .string ((rd_T63 l0_1 x54_3).f1), .slice A227_2 ((rd_T63 l0_1 x54_3).f2).length c227_2] 63 (0, 0)) ZZ313b37 hb)
                  have n3_ := Aside0.mk (below_step ZZ6fc3ee hb)
                  clear HO_5
                  clear BK204
                  clear BK228
                  clear HB
                  have HO_5 := n0_
                  have BK204 := n1_
                  have BK228 := n2_
                  have HB := n3_
                  clear n0_ n1_ n2_ n3_
                  (try clear hb)
                  (try clear hb2)
                  (try clear hk)
                  (try clear hi)
                  refine hK.out _ _ ⟨(blk_cell BK228.out 0).trans rfl, (blk_cell BK228.out 1).trans rfl, (blk_cell BK228.out 2).trans rfl, (blk_cell BK204.out 0).trans rfl, (blk_cell BK204.out 1).trans rfl⟩ (fun hHeld => ?_)
                  clear hK K
                  refine norm_ (a' := ?_) ?_ ?_
                  rotate_left
                  ·show Act.put _ (some 90) _ = _
                   simp only [Act.put, List.setIfInBounds_toArray, List.set_cons_zero, List.set_cons_succ, i64_w, i32_w]
                   rfl
                  refine pu 32 91 ?_
                  refine pu 33 92 ?_
                  refine done_ (done_of HT_.out (by kernel_rfl)) ?_
                  try go_wp2
                  go_meet
                  case rel => exact ⟨_, (!t234), ZZ0ab324, H', ⟨by have := HJ1.out; have := HK2.out; have := HK3.out; first | omega | exact Nat.le_refl _⟩, ⟨by (with_reducible repeat (first | apply Kd.R_alloc | apply Kd.R_drewN | apply Kd.R_drew)); exact HO_5.out⟩, ⟨by (with_reducible repeat (first | refine blk_drewN ?_ _ | refine blk_drew ?_ | refine blk_alloc ?_ _)); exact BK204.out⟩, ⟨by (with_reducible repeat (first | refine blk_drewN ?_ _ | refine blk_drew ?_ | refine blk_alloc ?_ _)); exact BK228.out⟩, ⟨by repeat (first | (with_reducible first | exact HB.out | apply below_alloc | apply pw_below_drewN | apply below_drew1 | refine below_set ?_ GE204.out | refine below_set ?_ GE228.out) | exact HB.out)⟩⟩
                 ·replace c69 := Bool.eq_false_iff.mpr c69
                  subst c69
                  have H1 : (impl_IsValidLedger.j4 k3 x5_3 l0_1 (l0_1.length : Int) x54_3 true l0_0 l0_1 ((rd_T63 l0_1 x54_3).f0) ((rd_T63 l0_1 x54_3).f1) ((rd_T63 l0_1 x54_3).f2)) = some r := by rw [if_neg (show ¬ (false = true) by decide)] at H; exact H
                  clear H
                  have H := H1
                  clear H1
                  have H' := Aside0.mk H
                  clear H
                  try go_wp2
                  have n0_ : Aside0 (Kd.R (Kd.int .i64) 3 (((w48.setCell ⟨gb228, 0, none⟩ (.int .i64 ((rd_T63 l0_1 x54_3).f0))).setCell ⟨gb228, 1, none⟩ (.string ((rd_T63 l0_1 x54_3).f1))).setCell ⟨gb228, 2, none⟩ (.slice A227_2 ((rd_T63 l0_1 x54_3).f2).length c227_2)) w.heap.size (fun _ => True) v225 x5_3) := ⟨by (with_reducible repeat (first | apply Kd.R_alloc | apply Kd.R_drewN | apply Kd.R_drew)); exact Kd.R_mono (Kd.R_far (p := ⟨gb228, 2, none⟩) (Kd.R_far (p := ⟨gb228, 1, none⟩) (Kd.R_far (p := ⟨gb228, 0, none⟩) (Kd.R_types HO_5.out BK228.out (by decide)) (fun _ hk => hk.2) (.int .i64 ((rd_T63 l0_1 x54_3).f0))) (fun _ hk => hk.2) (.string ((rd_T63 l0_1 x54_3).f1))) (fun _ hk => hk.2) (.slice A227_2 ((rd_T63 l0_1 x54_3).f2).length c227_2)) (fun _ hk => trivial)⟩
                  have n1_ : Aside0 ((((w48.setCell ⟨gb228, 0, none⟩ (.int .i64 ((rd_T63 l0_1 x54_3).f0))).setCell ⟨gb228, 1, none⟩ (.string ((rd_T63 l0_1 x54_3).f1))).setCell ⟨gb228, 2, none⟩ (.slice A227_2 ((rd_T63 l0_1 x54_3).f2).length c227_2)).heap[gb204]? = some (.cells #[.slice A0_0 l0_0.length c0_0, .slice (some ad227) l0_1.length c0_1] 31 (0, 0))) := ⟨by (with_reducible repeat (first | refine blk_drewN ?_ _ | refine blk_drew ?_ | refine blk_alloc ?_ _)); refine blk_far ?_ NB204_228.out _; (with_reducible repeat (first | refine blk_drewN ?_ _ | refine blk_drew ?_ | refine blk_alloc ?_ _)); refine blk_far ?_ NB204_228.out _; (with_reducible repeat (first | refine blk_drewN ?_ _ | refine blk_drew ?_ | refine blk_alloc ?_ _)); refine blk_far ?_ NB204_228.out _; (with_reducible repeat (first | refine blk_drewN ?_ _ | refine blk_drew ?_ | refine blk_alloc ?_ _)); exact BK204.out⟩
                  have n2_ : Aside0 ((((w48.setCell ⟨gb228, 0, none⟩ (.int .i64 ((rd_T63 l0_1 x54_3).f0))).setCell ⟨gb228, 1, none⟩ (.string ((rd_T63 l0_1 x54_3).f1))).setCell ⟨gb228, 2, none⟩ (.slice A227_2 ((rd_T63 l0_1 x54_3).f2).length c227_2)).heap[gb228]? = some (.cells #[.int .i64 ((rd_T63 l0_1 x54_3).f0), .string ((rd_T63 l0_1 x54_3).f1), .slice A227_2 ((rd_T63 l0_1 x54_3).f2).length c227_2] 63 (0, 0))) := ⟨by (with_reducible repeat (first | refine blk_drewN ?_ _ | refine blk_drew ?_ | refine blk_alloc ?_ _)); refine blk_put (cs := #[.int .i64 ((rd_T63 l0_1 x54_3).f0), .string ((rd_T63 l0_1 x54_3).f1), .slice none 0 0]) ?_ 2 _ rfl; (with_reducible repeat (first | refine blk_drewN ?_ _ | refine blk_drew ?_ | refine blk_alloc ?_ _)); refine blk_put (cs := #[.int .i64 ((rd_T63 l0_1 x54_3).f0), .string (⟨#[]⟩ : ByteArray), .slice none 0 0]) ?_ 1 _ rfl; (with_reducible repeat (first | refine blk_drewN ?_ _ | refine blk_drew ?_ | refine blk_alloc ?_ _)); refine blk_put (cs := #[.int .i64 0, .string (⟨#[]⟩ : ByteArray), .slice none 0 0]) ?_ 0 _ rfl; (with_reducible repeat (first | refine blk_drewN ?_ _ | refine blk_drew ?_ | refine blk_alloc ?_ _)); exact BK228.out⟩
                  have n3_ : Aside0 (Below w.heap.size w (((w48.setCell ⟨gb228, 0, none⟩ (.int .i64 ((rd_T63 l0_1 x54_3).f0))).setCell ⟨gb228, 1, none⟩ (.string ((rd_T63 l0_1 x54_3).f1))).setCell ⟨gb228, 2, none⟩ (.slice A227_2 ((rd_T63 l0_1 x54_3).f2).length c227_2))) := ⟨by repeat (first | (with_reducible first | exact HB.out | apply below_alloc | apply pw_below_drewN | apply below_drew1 | refine below_set ?_ GE204.out | refine below_set ?_ GE228.out) | exact HB.out)⟩
                  (try clear HO_5)
                  (try clear BK204)
                  (try clear BK228)
                  (try clear HB)
                  generalize (((w48.setCell ⟨gb228, 0, none⟩ (.int .i64 ((rd_T63 l0_1 x54_3).f0))).setCell ⟨gb228, 1, none⟩ (.string ((rd_T63 l0_1 x54_3).f1))).setCell ⟨gb228, 2, none⟩ (.slice A227_2 ((rd_T63 l0_1 x54_3).f2).length c227_2)) = w74 at n0_ n1_ n2_ n3_ ⊢
                  have HO_5 := n0_
                  have BK204 := n1_
                  have BK228 := n2_
                  have HB := n3_
                  clear n0_ n1_ n2_ n3_
                  have n0_ := Aside0.mk (Kd.R_drew HO_5.out)
                  have n1_ := Aside0.mk (blk_drew BK204.out)
                  have n2_ := Aside0.mk (blk_drew BK228.out)
                  have n3_ := Aside0.mk (below_drew1 HB.out)
                  clear HO_5
                  clear BK204
                  clear BK228
                  clear HB
                  have HO_5 := n0_
                  have BK204 := n1_
                  have BK228 := n2_
                  have HB := n3_
                  clear n0_ n1_ n2_ n3_
                  refine start_ (n := 34) (S := fun w' => w'.cell? ⟨gb228, 0, none⟩ = some (.int .i64 ((rd_T63 l0_1 x54_3).f0)) ∧ w'.cell? ⟨gb228, 1, none⟩ = some (.string ((rd_T63 l0_1 x54_3).f1)) ∧ w'.cell? ⟨gb228, 2, none⟩ = some (.slice A227_2 ((rd_T63 l0_1 x54_3).f2).length c227_2)) (ds := []) #[false, false, false, false, false, false, false, false, false, false, false, false, false, false, false, false, false, false, false, false, false, false, false, false, false, false, false, false, false, false, false, false, false, false] (by kernel_rfl) rfl rfl ⟨(blk_cell BK228.out 0).trans rfl, (blk_cell BK228.out 1).trans rfl, (blk_cell BK228.out 2).trans rfl⟩ (fun hHeld => ?_); refine with_tabW impl_IsValidLedger.tab13 impl_IsValidLedger.bits13 (fun HT_ HW_ => ?_)
                  generalize w74.drew = w75 at HO_5 BK204 BK228 HB hHeld ⊢
                  refine pu 0 59 ?_
                  refine tk 1 60 ?_
                  refine one_ (i := 2) (N := some 61) #[true, true, true, false, false, false, false, false, false, false, false, false, false, false, false, false, false, false, false, false, false, false, false, false, false, false, false, false, false, false, false, false, false, false] rfl rfl (one_of HT_.out (by kernel_rfl)) (by decide) (fun K hK => ?_)
                  refine goes_ Tryd.func59 (by kernel_rfl) rfl #[.int .i64 ((rd_T63 l0_1 x54_3).f0)] (by rfl) rfl rfl ZZ19826e ?_
                  with_reducible refine (impl_isDay.calls ((rd_T63 l0_1 x54_3).f0) true _ A51.out).mono ?_
                  rintro e w' ⟨rfl, ⟨nd, rfl⟩⟩
                  refine ⟨_, rfl, ?_⟩
                  refine hK.out _ _ ⟨(blk_cell BK228.out 0).trans rfl, (blk_cell BK228.out 1).trans rfl, (blk_cell BK228.out 2).trans rfl⟩ (fun hHeld => ?_)
                  clear hK K
                  refine norm_ (a' := ?_) ?_ ?_
                  rotate_left
                  ·show Act.put _ (some 61) _ = _
                   simp only [Act.put, List.setIfInBounds_toArray, List.set_cons_zero, List.set_cons_succ, i64_w, i32_w]
                   rfl
                  refine pu 3 62 ?_
                  refine pu 4 63 ?_
                  refine pu 5 64 ?_
                  refine pu 6 65 ?_
                  refine pu 7 66 ?_
                  refine pn 8 67 ?_
                  refine pn 9 68 ?_
                  refine pn 10 69 ?_
                  refine pn 11 70 ?_
                  refine pn 12 71 ?_
                  refine pn 13 72 ?_
                  refine pn 14 73 ?_
                  refine pn 15 74 ?_
                  refine pn 16 75 ?_
                  refine pn 17 76 ?_
                  refine pu 18 77 ?_
                  refine pu 19 78 ?_
                  refine pu 20 79 ?_
                  refine pu 21 80 ?_
                  refine tk 22 81 ?_
                  refine one_ (i := 23) (N := some 82) #[true, true, true, true, true, true, true, true, true, true, true, true, true, true, true, true, true, true, true, true, true, true, true, true, false, false, false, false, false, false, false, false, false, false] rfl rfl (one_of HT_.out (by kernel_rfl)) (by decide) (fun K hK => ?_)
                  refine goes_ Tryd.func60 (by kernel_rfl) rfl #[.string ((rd_T63 l0_1 x54_3).f1)] (by rfl) rfl rfl ZZ19826e ?_
                  with_reducible refine (impl_isMemo.calls k3 ((rd_T63 l0_1 x54_3).f1) false _ A68.out).mono ?_
                  rintro e w' ⟨rfl, ⟨nd, rfl⟩⟩
                  refine ⟨_, rfl, ?_⟩
                  refine hK.out _ _ ⟨(blk_cell BK228.out 0).trans rfl, (blk_cell BK228.out 1).trans rfl, (blk_cell BK228.out 2).trans rfl⟩ (fun hHeld => ?_)
                  clear hK K
                  refine norm_ (a' := ?_) ?_ ?_
                  rotate_left
                  ·show Act.put _ (some 82) _ = _
                   simp only [Act.put, List.setIfInBounds_toArray, List.set_cons_zero, List.set_cons_succ, i64_w, i32_w]
                   rfl
                  refine pu 24 83 ?_
                  refine pu 25 84 ?_
                  refine pu 26 85 ?_
                  refine pn 27 86 ?_
                  refine pn 28 87 ?_
                  refine pn 29 88 ?_
                  refine pn 30 89 ?_
                  refine pn 31 90 ?_
                  refine pn 32 91 ?_
                  refine pu 33 92 ?_
                  refine done_ (done_of HT_.out (by kernel_rfl)) ?_
                  try go_wp2
                  go_meet
                  case rel => exact ⟨_, (true), ZZ0ab324, H', ⟨by have := HJ1.out; have := HK2.out; have := HK3.out; first | omega | exact Nat.le_refl _⟩, ⟨by (with_reducible repeat (first | apply Kd.R_alloc | apply Kd.R_drewN | apply Kd.R_drew)); exact HO_5.out⟩, ⟨by (with_reducible repeat (first | refine blk_drewN ?_ _ | refine blk_drew ?_ | refine blk_alloc ?_ _)); exact BK204.out⟩, ⟨by (with_reducible repeat (first | refine blk_drewN ?_ _ | refine blk_drew ?_ | refine blk_alloc ?_ _)); exact BK228.out⟩, ⟨by repeat (first | (with_reducible first | exact HB.out | apply below_alloc | apply pw_below_drewN | apply below_drew1 | refine below_set ?_ GE204.out | refine below_set ?_ GE228.out) | exact HB.out)⟩⟩
               ·replace c52 := Bool.eq_false_iff.mpr c52
                subst c52
                have H1 : (impl_IsValidLedger.j4 k3 x5_3 l0_1 (l0_1.length : Int) x54_3 true l0_0 l0_1 ((rd_T63 l0_1 x54_3).f0) ((rd_T63 l0_1 x54_3).f1) ((rd_T63 l0_1 x54_3).f2)) = some r := by rw [if_neg (show ¬ (false = true) by decide)] at H; exact H
                clear H
                have H := H1
                clear H1
                have H' := Aside0.mk H
                clear H
                try go_wp2
                have n0_ : Aside0 (Kd.R (Kd.int .i64) 3 (((w48.setCell ⟨gb228, 0, none⟩ (.int .i64 ((rd_T63 l0_1 x54_3).f0))).setCell ⟨gb228, 1, none⟩ (.string ((rd_T63 l0_1 x54_3).f1))).setCell ⟨gb228, 2, none⟩ (.slice A227_2 ((rd_T63 l0_1 x54_3).f2).length c227_2)) w.heap.size (fun _ => True) v225 x5_3) := ⟨by (with_reducible repeat (first | apply Kd.R_alloc | apply Kd.R_drewN | apply Kd.R_drew)); exact Kd.R_mono (Kd.R_far (p := ⟨gb228, 2, none⟩) (Kd.R_far (p := ⟨gb228, 1, none⟩) (Kd.R_far (p := ⟨gb228, 0, none⟩) (Kd.R_types HO_5.out BK228.out (by decide)) (fun _ hk => hk.2) (.int .i64 ((rd_T63 l0_1 x54_3).f0))) (fun _ hk => hk.2) (.string ((rd_T63 l0_1 x54_3).f1))) (fun _ hk => hk.2) (.slice A227_2 ((rd_T63 l0_1 x54_3).f2).length c227_2)) (fun _ hk => trivial)⟩
                have n1_ : Aside0 ((((w48.setCell ⟨gb228, 0, none⟩ (.int .i64 ((rd_T63 l0_1 x54_3).f0))).setCell ⟨gb228, 1, none⟩ (.string ((rd_T63 l0_1 x54_3).f1))).setCell ⟨gb228, 2, none⟩ (.slice A227_2 ((rd_T63 l0_1 x54_3).f2).length c227_2)).heap[gb204]? = some (.cells #[.slice A0_0 l0_0.length c0_0, .slice (some ad227) l0_1.length c0_1] 31 (0, 0))) := ⟨by (with_reducible repeat (first | refine blk_drewN ?_ _ | refine blk_drew ?_ | refine blk_alloc ?_ _)); refine blk_far ?_ NB204_228.out _; (with_reducible repeat (first | refine blk_drewN ?_ _ | refine blk_drew ?_ | refine blk_alloc ?_ _)); refine blk_far ?_ NB204_228.out _; (with_reducible repeat (first | refine blk_drewN ?_ _ | refine blk_drew ?_ | refine blk_alloc ?_ _)); refine blk_far ?_ NB204_228.out _; (with_reducible repeat (first | refine blk_drewN ?_ _ | refine blk_drew ?_ | refine blk_alloc ?_ _)); exact BK204.out⟩
                have n2_ : Aside0 ((((w48.setCell ⟨gb228, 0, none⟩ (.int .i64 ((rd_T63 l0_1 x54_3).f0))).setCell ⟨gb228, 1, none⟩ (.string ((rd_T63 l0_1 x54_3).f1))).setCell ⟨gb228, 2, none⟩ (.slice A227_2 ((rd_T63 l0_1 x54_3).f2).length c227_2)).heap[gb228]? = some (.cells #[.int .i64 ((rd_T63 l0_1 x54_3).f0), .string ((rd_T63 l0_1 x54_3).f1), .slice A227_2 ((rd_T63 l0_1 x54_3).f2).length c227_2] 63 (0, 0))) := ⟨by (with_reducible repeat (first | refine blk_drewN ?_ _ | refine blk_drew ?_ | refine blk_alloc ?_ _)); refine blk_put (cs := #[.int .i64 ((rd_T63 l0_1 x54_3).f0), .string ((rd_T63 l0_1 x54_3).f1), .slice none 0 0]) ?_ 2 _ rfl; (with_reducible repeat (first | refine blk_drewN ?_ _ | refine blk_drew ?_ | refine blk_alloc ?_ _)); refine blk_put (cs := #[.int .i64 ((rd_T63 l0_1 x54_3).f0), .string (⟨#[]⟩ : ByteArray), .slice none 0 0]) ?_ 1 _ rfl; (with_reducible repeat (first | refine blk_drewN ?_ _ | refine blk_drew ?_ | refine blk_alloc ?_ _)); refine blk_put (cs := #[.int .i64 0, .string (⟨#[]⟩ : ByteArray), .slice none 0 0]) ?_ 0 _ rfl; (with_reducible repeat (first | refine blk_drewN ?_ _ | refine blk_drew ?_ | refine blk_alloc ?_ _)); exact BK228.out⟩
                have n3_ : Aside0 (Below w.heap.size w (((w48.setCell ⟨gb228, 0, none⟩ (.int .i64 ((rd_T63 l0_1 x54_3).f0))).setCell ⟨gb228, 1, none⟩ (.string ((rd_T63 l0_1 x54_3).f1))).setCell ⟨gb228, 2, none⟩ (.slice A227_2 ((rd_T63 l0_1 x54_3).f2).length c227_2))) := ⟨by repeat (first | (with_reducible first | exact HB.out | apply below_alloc | apply pw_below_drewN | apply below_drew1 | refine below_set ?_ GE204.out | refine below_set ?_ GE228.out) | exact HB.out)⟩
                (try clear HO_5)
                (try clear BK204)
                (try clear BK228)
                (try clear HB)
                generalize (((w48.setCell ⟨gb228, 0, none⟩ (.int .i64 ((rd_T63 l0_1 x54_3).f0))).setCell ⟨gb228, 1, none⟩ (.string ((rd_T63 l0_1 x54_3).f1))).setCell ⟨gb228, 2, none⟩ (.slice A227_2 ((rd_T63 l0_1 x54_3).f2).length c227_2)) = w76 at n0_ n1_ n2_ n3_ ⊢
                have HO_5 := n0_
                have BK204 := n1_
                have BK228 := n2_
                have HB := n3_
                clear n0_ n1_ n2_ n3_
                have n0_ := Aside0.mk (Kd.R_drew HO_5.out)
                have n1_ := Aside0.mk (blk_drew BK204.out)
                have n2_ := Aside0.mk (blk_drew BK228.out)
                have n3_ := Aside0.mk (below_drew1 HB.out)
                clear HO_5
                clear BK204
                clear BK228
                clear HB
                have HO_5 := n0_
                have BK204 := n1_
                have BK228 := n2_
                have HB := n3_
                clear n0_ n1_ n2_ n3_
                refine start_ (n := 34) (S := fun w' => w'.cell? ⟨gb228, 0, none⟩ = some (.int .i64 ((rd_T63 l0_1 x54_3).f0)) ∧ w'.cell? ⟨gb228, 1, none⟩ = some (.string ((rd_T63 l0_1 x54_3).f1)) ∧ w'.cell? ⟨gb228, 2, none⟩ = some (.slice A227_2 ((rd_T63 l0_1 x54_3).f2).length c227_2)) (ds := []) #[false, false, false, false, false, false, false, false, false, false, false, false, false, false, false, false, false, false, false, false, false, false, false, false, false, false, false, false, false, false, false, false, false, false] (by kernel_rfl) rfl rfl ⟨(blk_cell BK228.out 0).trans rfl, (blk_cell BK228.out 1).trans rfl, (blk_cell BK228.out 2).trans rfl⟩ (fun hHeld => ?_); refine with_tabW impl_IsValidLedger.tab13 impl_IsValidLedger.bits13 (fun HT_ HW_ => ?_)
                generalize w76.drew = w77 at HO_5 BK204 BK228 HB hHeld ⊢
                refine pu 0 59 ?_
                refine tk 1 60 ?_
                refine one_ (i := 2) (N := some 61) #[true, true, true, false, false, false, false, false, false, false, false, false, false, false, false, false, false, false, false, false, false, false, false, false, false, false, false, false, false, false, false, false, false, false] rfl rfl (one_of HT_.out (by kernel_rfl)) (by decide) (fun K hK => ?_)
                refine goes_ Tryd.func59 (by kernel_rfl) rfl #[.int .i64 ((rd_T63 l0_1 x54_3).f0)] (by rfl) rfl rfl ZZ19826e ?_
                with_reducible refine (impl_isDay.calls ((rd_T63 l0_1 x54_3).f0) false _ A51.out).mono ?_
                rintro e w' ⟨rfl, ⟨nd, rfl⟩⟩
                refine ⟨_, rfl, ?_⟩
                refine hK.out _ _ ⟨(blk_cell BK228.out 0).trans rfl, (blk_cell BK228.out 1).trans rfl, (blk_cell BK228.out 2).trans rfl⟩ (fun hHeld => ?_)
                clear hK K
                refine norm_ (a' := ?_) ?_ ?_
                rotate_left
                ·show Act.put _ (some 61) _ = _
                 simp only [Act.put, List.setIfInBounds_toArray, List.set_cons_zero, List.set_cons_succ, i64_w, i32_w]
                 rfl
                refine pu 3 62 ?_
                refine pu 4 63 ?_
                refine pn 5 64 ?_
                refine pn 6 65 ?_
                refine pn 7 66 ?_
                refine pn 8 67 ?_
                refine pn 9 68 ?_
                refine pn 10 69 ?_
                refine pn 11 70 ?_
                refine pn 12 71 ?_
                refine pn 13 72 ?_
                refine pn 14 73 ?_
                refine pn 15 74 ?_
                refine pn 16 75 ?_
                refine pn 17 76 ?_
                refine pn 18 77 ?_
                refine pu 19 78 ?_
                refine pu 20 79 ?_
                refine pn 21 80 ?_
                refine pn 22 81 ?_
                refine pn 23 82 ?_
                refine pn 24 83 ?_
                refine pu 25 84 ?_
                refine pu 26 85 ?_
                refine pn 27 86 ?_
                refine pn 28 87 ?_
                refine pn 29 88 ?_
                refine pn 30 89 ?_
                refine pn 31 90 ?_
                refine pn 32 91 ?_
                refine pu 33 92 ?_
                refine done_ (done_of HT_.out (by kernel_rfl)) ?_
                try go_wp2
                go_meet
                case rel => exact ⟨_, (true), ZZ0ab324, H', ⟨by have := HJ1.out; have := HK2.out; have := HK3.out; first | omega | exact Nat.le_refl _⟩, ⟨by (with_reducible repeat (first | apply Kd.R_alloc | apply Kd.R_drewN | apply Kd.R_drew)); exact HO_5.out⟩, ⟨by (with_reducible repeat (first | refine blk_drewN ?_ _ | refine blk_drew ?_ | refine blk_alloc ?_ _)); exact BK204.out⟩, ⟨by (with_reducible repeat (first | refine blk_drewN ?_ _ | refine blk_drew ?_ | refine blk_alloc ?_ _)); exact BK228.out⟩, ⟨by repeat (first | (with_reducible first | exact HB.out | apply below_alloc | apply pw_below_drewN | apply below_drew1 | refine below_set ?_ GE204.out | refine below_set ?_ GE228.out) | exact HB.out)⟩⟩
              case rest =>
               clear HC47
               try clear c2
               try clear p2
               try clear c5
               try clear c6
               try clear c22
               try clear c52
               try clear c59
               try clear c60
               try clear c61
               try clear c69
               obtain ⟨kq, x92_46, rfl, HA, HJ46, HO_5, BK204, BK228, HB⟩ := hcut
               cases kq with
               | zero => exact absurd HA.out (by simp [impl_IsValidLedger.j4])
               | succ kj46 =>
                have H := HA.out
                clear HA
                simp only [impl_IsValidLedger.j4] at H
                by_cases c78 : x92_46 = true
                ·subst c78
                 have H1 : (some false) = some r := by rw [if_pos rfl] at H; exact H
                 clear H
                 have H := H1
                 clear H1
                 obtain rfl := Option.some.inj H
                 go_wp2
                 go_ret
                 exact ⟨by first | rfl | (simp [errW_none, errW_some] <;> rfl) | (simp [*, errW_none, errW_some] <;> rfl), by repeat (first | (with_reducible first | exact HB.out | apply below_alloc | apply pw_below_drewN | apply below_drew1 | refine below_set ?_ GE204.out | refine below_set ?_ GE228.out) | exact HB.out)⟩
                ·replace c78 := Bool.eq_false_iff.mpr c78
                 subst c78
                 have H1 : (impl_IsValidLedger.l2 kj46 x5_3 l0_1 (l0_1.length : Int) x54_3 ((rd_T63 l0_1 x54_3).f2) (((rd_T63 l0_1 x54_3).f2).length : Int) 0 l0_0 l0_1) = some r := by rw [if_neg (show ¬ (false = true) by decide)] at H; exact H
                 clear H
                 have H := H1
                 clear H1
                 have H' := Aside0.mk H
                 clear H
                 have hnb79 := NB228_204.out
                 have hnc79 := NB204_228.out
                 have hcz80_0 : wc.cell? ⟨gb228, 0, none⟩ = some (.int .i64 ((rd_T63 l0_1 x54_3).f0)) := (blk_cell BK228.out 0).trans rfl
                 have hcz80_1 : wc.cell? ⟨gb228, 1, none⟩ = some (.string ((rd_T63 l0_1 x54_3).f1)) := (blk_cell BK228.out 1).trans rfl
                 have hcz80_2 : wc.cell? ⟨gb228, 2, none⟩ = some (.slice A227_2 ((rd_T63 l0_1 x54_3).f2).length c227_2) := (blk_cell BK228.out 2).trans rfl
                 have hfz80_0 := blk_frozen BK228.out 0
                 have hfz80_1 := blk_frozen BK228.out 1
                 have hfz80_2 := blk_frozen BK228.out 2
                 go_wp2
                 go_loopg [96] kj46 (fun kq v96 w' => ∃ (x5_5 : List Int) (x96_5 : Int), v96 = .int .i64 x96_5 ∧ Aside0 (impl_IsValidLedger.l2 kq x5_5 l0_1 (l0_1.length : Int) x54_3 ((rd_T63 l0_1 x54_3).f2) (((rd_T63 l0_1 x54_3).f2).length : Int) x96_5 l0_0 l0_1 = some r) ∧ Aside0 (kq ≤ kj46) ∧ Aside0 (Kd.R (Kd.int .i64) 3 w' w.heap.size (fun _ => True) v225 x5_5) ∧ Aside0 (w'.heap[gb204]? = some (.cells #[(.slice A0_0 l0_0.length c0_0), (.slice (some ad227) l0_1.length c0_1)] 31 (0, 0))) ∧ Aside0 (w'.heap[gb228]? = some (.cells #[.int .i64 ((rd_T63 l0_1 x54_3).f0), .string ((rd_T63 l0_1 x54_3).f1), (.slice A227_2 ((rd_T63 l0_1 x54_3).f2).length c227_2)] 63 (0, 0))) ∧ Aside0 (Below w.heap.size w w'))
                 case atStart => exact ⟨(x5_3), (0), ZZ0ab324, H', ⟨Nat.le_refl _⟩, ⟨by (with_reducible repeat (first | apply Kd.R_alloc | apply Kd.R_drewN | apply Kd.R_drew)); exact HO_5.out⟩, ⟨by (with_reducible repeat (first | refine blk_drewN ?_ _ | refine blk_drew ?_ | refine blk_alloc ?_ _)); exact BK204.out⟩, ⟨by (with_reducible repeat (first | refine blk_drewN ?_ _ | refine blk_drew ?_ | refine blk_alloc ?_ _)); exact BK228.out⟩, ⟨by repeat (first | (with_reducible first | exact HB.out | apply below_alloc | apply pw_below_drewN | apply below_drew1 | refine below_set ?_ GE204.out | refine below_set ?_ GE228.out) | exact HB.out)⟩⟩
                 case round =>
                  clear H'
                  try clear c2
                  try clear p2
                  try clear c5
                  try clear c6
                  try clear c7
                  try clear c22
                  try clear c52
                  try clear c59
                  try clear c60
                  try clear c61
                  try clear c69
                  try clear c78
                  try clear c79
                  try clear hcz80_0
                  try clear hcz80_1
                  try clear hcz80_2
                  try clear hfz80_0
                  try clear hfz80_1
                  try clear hfz80_2
                  try clear p2
                  obtain ⟨x5_5, x96_5, rfl, HA, HK5, HO_5, BK204, BK228, HB⟩ := hrel
                  cases gk with
                  | zero => exact absurd HA.out (by simp [impl_IsValidLedger.l2])
                  | succ k5 =>
                   have H := HA.out
                   clear HA
                   simp only [impl_IsValidLedger.l2] at H
                   by_cases c81 : x96_5 < (((rd_T63 l0_1 x54_3).f2).length : Int)
                   ·rw [if_pos c81] at H
                    have c81b0 : decide (x96_5 < (((rd_T63 l0_1 x54_3).f2).length : Int)) = true := decide_eq_true c81
                    clear c81
                    by_cases c82 : 0 ≤ x96_5
                    ·rw [if_pos c82] at H
                     have c82b0 : decide (0 ≤ x96_5) = true := decide_eq_true c82
                     clear c82
                     by_cases c83 : x96_5 < (((rd_T63 l0_1 x54_3).f2).length : Int)
                     ·rw [if_pos c83] at H
                      have c83b0 : decide (x96_5 < (((rd_T63 l0_1 x54_3).f2).length : Int)) = true := decide_eq_true c83
                      clear c83
                      by_cases c84 : 0 ≤ ((rd_T70 ((rd_T63 l0_1 x54_3).f2) x96_5).f0)
                      ·rw [if_pos c84] at H
                       have c84b0 : decide (0 ≤ ((rd_T70 ((rd_T63 l0_1 x54_3).f2) x96_5).f0)) = true := decide_eq_true c84
                       clear c84
                       by_cases c85 : ((rd_T70 ((rd_T63 l0_1 x54_3).f2) x96_5).f0) < (x5_5.length : Int)
                       ·rw [if_pos c85] at H
                        have c85b0 : decide (((rd_T70 ((rd_T63 l0_1 x54_3).f2) x96_5).f0) < (x5_5.length : Int)) = true := decide_eq_true c85
                        clear c85
                        obtain ⟨y238, hy238⟩ : ∃ y_ : List Int, y_ = (x5_5.set (((rd_T70 ((rd_T63 l0_1 x54_3).f2) x96_5).f0) : Int).toNat (wrap64 ((rd x5_5 ((rd_T70 ((rd_T63 l0_1 x54_3).f2) x96_5).f0)) + ((rd_T70 ((rd_T63 l0_1 x54_3).f2) x96_5).f1)))) := ⟨_, rfl⟩
                        replace H : ((impl_isAmount.f (wrap64 ((rd x5_5 ((rd_T70 ((rd_T63 l0_1 x54_3).f2) x96_5).f0)) + ((rd_T70 ((rd_T63 l0_1 x54_3).f2) x96_5).f1)))).bind fun t240 => (if t240 = true then (impl_IsValidLedger.l2 k5 y238 l0_1 (l0_1.length : Int) x54_3 ((rd_T63 l0_1 x54_3).f2) (((rd_T63 l0_1 x54_3).f2).length : Int) (wrap64 (x96_5 + 1)) l0_0 l0_1) else (some false))) = some r := by first | (rw [hy238]; with_reducible exact H) | (have H2_ := (Option.bind_some _ _).symm.trans H; rw [hy238]; with_reducible exact H2_) | (have H2_ := (Option.bind_some _ _).symm.trans H; with_reducible exact H2_) | with_reducible exact H | (rw [hy238]; exact H) | exact H
                        have Ny238 := Aside0.mk hy238
                        clear hy238
                        replace H := Option.bind_eq_some_iff.mp H
                        obtain ⟨t240, A880, H⟩ := H
                        replace H : (if t240 = true then (impl_IsValidLedger.l2 k5 y238 l0_1 (l0_1.length : Int) x54_3 ((rd_T63 l0_1 x54_3).f2) (((rd_T63 l0_1 x54_3).f2).length : Int) (wrap64 (x96_5 + 1)) l0_0 l0_1) else (some false)) = some r := H
                        have A88 := Aside0.mk A880
                        clear A880
                        by_cases c89 : t240 = true
                        ·subst c89
                         have H1 : (impl_IsValidLedger.l2 k5 y238 l0_1 (l0_1.length : Int) x54_3 ((rd_T63 l0_1 x54_3).f2) (((rd_T63 l0_1 x54_3).f2).length : Int) (wrap64 (x96_5 + 1)) l0_0 l0_1) = some r := by rw [if_pos rfl] at H; exact H
                         clear H
                         have H := H1
                         clear H1
                         have H' := Aside0.mk H
                         clear H
                         have p235 : 0 ≤ (x96_5 : Int) := of_decide_eq_true ZZ853400
                         have q235 : x96_5 < (((rd_T63 l0_1 x54_3).f2).length : Int) := of_decide_eq_true ZZ853400
                         obtain ⟨ad235, e235, hx235_0, hx235_1⟩ := at_T70 HR227_2.out x96_5 p235 q235
                         cases e235
                         replace hx235_0 := (HB.out.cell (World.block_lt_of_cell? w _ hx235_0)).trans hx235_0
                         replace hx235_1 := (HB.out.cell (World.block_lt_of_cell? w _ hx235_1)).trans hx235_1
                         replace p235 := eq_true p235
                         replace q235 := eq_true q235
                         try go_wp2_with (first | ((with_reducible refine gate_dst (N := 9) rfl ?_); (try (refine gate_guard (by rfl) ?_; dsimp only)); refine box_event ?hg (N := 9) ?hd (cs := #[.int .i64 0, .int .i64 0]) (t := 70) ?hr ?_; (case hd => rfl); (case hg => rfl); (case hr => first | (go_simp; done) | (go_simp; rfl)); intro gb236 hg w90 hbox hb; have n0_ := Aside0.mk (Kd.R_below (by (with_reducible repeat (first | apply Kd.R_alloc | apply Kd.R_drewN | apply Kd.R_drew)); exact HO_5.out) hb); have n1_ := Aside0.mk (blk_below (g := gb204) (o := .cells #[.slice A0_0 l0_0.length c0_0, .slice (some ad227) l0_1.length c0_1] 31 (0, 0)) ZZa30d0d hb); have n2_ := Aside0.mk (blk_below (g := gb228) (o := .cells #[.int .i64 ((rd_T63 l0_1 x54_3).f0), .string ((rd_T63 l0_1 x54_3).f1), .slice (some ad235) ((rd_T63 l0_1 x54_3).f2).length c227_2] 63 (0, 0)) ZZ313b37 hb); have n3_ := Aside0.mk (below_step ZZ6fc3ee hb); have n4_ := Aside0.mk (hbox); have n5_ := Aside0.mk ((by rw [hg]; exact (below_size ZZ6fc3ee) : w.heap.size ≤ gb236)); have n6_ := Aside0.mk ((by rw [hg]; exact (below_size ZZ6fc3ee) : w.heap.size ≤ gb236)); have n7_ := Aside0.mk ((by rw [hg]; exact Nat.ne_of_lt (blk_lt (g := gb204) (o := .cells #[.slice A0_0 l0_0.length c0_0, .slice (some ad227) l0_1.length c0_1] 31 (0, 0)) ZZa30d0d) : gb204 ≠ gb236)); have n8_ := Aside0.mk ((by rw [hg]; exact Nat.ne_of_gt (blk_lt (g := gb204) (o := .cells #[.slice A0_0 l0_0.length c0_0, .slice (some ad227) l0_1.length c0_1] 31 (0, 0)) ZZa30d0d) : gb236 ≠ gb204)); have n9_ := Aside0.mk ((by rw [hg]; exact Nat.ne_of_lt (blk_lt (g := gb228) (o := .cells #[.int .i64 ((rd_T63 l0_1 x54_3).f0), .string ((rd_T63 l0_1 x54_3).f1), .slice (some ad235) ((rd_T63 l0_1 x54_3).f2).length c227_2] 63 (0, 0)) ZZ313b37) : gb228 ≠ gb236)); have n10_ := Aside0.mk ((by rw [hg]; exact Nat.ne_of_gt (blk_lt (g := gb228) (o := .cells #[.int .i64 ((rd_T63 l0_1 x54_3).f0), .string ((rd_T63 l0_1 x54_3).f1), .slice (some ad235) ((rd_T63 l0_1 x54_3).f2).length c227_2] 63 (0, 0)) ZZ313b37) : gb236 ≠ gb228)); clear HO_5; clear BK204; clear BK228; clear HB; have HO_5 := n0_; have BK204 := n1_; have BK228 := n2_; have HB := n3_; have BK236 := n4_; have GW236 := n5_; have GE236 := n6_; have NB204_236 := n7_; have NB236_204 := n8_; have NB228_236 := n9_; have NB236_228 := n10_; clear n0_ n1_ n2_ n3_ n4_ n5_ n6_ n7_ n8_ n9_ n10_; clear hb hbox hg; have hnb91 := NB236_204.out; have hnc91 := NB204_236.out; have hnb92 := NB236_228.out; have hnc92 := NB228_236.out; have hcz93_0 : w90.cell? ⟨gb236, 0, none⟩ = some (.int .i64 0) := (blk_cell BK236.out 0).trans rfl; have hcz93_1 : w90.cell? ⟨gb236, 1, none⟩ = some (.int .i64 0) := (blk_cell BK236.out 1).trans rfl; have hfz93_0 := blk_frozen BK236.out 0; have hfz93_1 := blk_frozen BK236.out 1))
                         have n0_ : Aside0 (Kd.R (Kd.int .i64) 3 ((w90.setCell ⟨gb236, 0, none⟩ (.int .i64 ((rd_T70 ((rd_T63 l0_1 x54_3).f2) x96_5).f0))).setCell ⟨gb236, 1, none⟩ (.int .i64 ((rd_T70 ((rd_T63 l0_1 x54_3).f2) x96_5).f1))) w.heap.size (fun _ => True) v225 x5_5) := ⟨by (with_reducible repeat (first | apply Kd.R_alloc | apply Kd.R_drewN | apply Kd.R_drew)); exact Kd.R_mono (Kd.R_far (p := ⟨gb236, 1, none⟩) (Kd.R_far (p := ⟨gb236, 0, none⟩) (Kd.R_types HO_5.out BK236.out (by decide)) (fun _ hk => hk.2) (.int .i64 ((rd_T70 ((rd_T63 l0_1 x54_3).f2) x96_5).f0))) (fun _ hk => hk.2) (.int .i64 ((rd_T70 ((rd_T63 l0_1 x54_3).f2) x96_5).f1))) (fun _ hk => trivial)⟩
                         have n1_ : Aside0 (((w90.setCell ⟨gb236, 0, none⟩ (.int .i64 ((rd_T70 ((rd_T63 l0_1 x54_3).f2) x96_5).f0))).setCell ⟨gb236, 1, none⟩ (.int .i64 ((rd_T70 ((rd_T63 l0_1 x54_3).f2) x96_5).f1))).heap[gb204]? = some (.cells #[.slice A0_0 l0_0.length c0_0, .slice (some ad227) l0_1.length c0_1] 31 (0, 0))) := ⟨by (with_reducible repeat (first | refine blk_drewN ?_ _ | refine blk_drew ?_ | refine blk_alloc ?_ _)); refine blk_far ?_ NB204_236.out _; (with_reducible repeat (first | refine blk_drewN ?_ _ | refine blk_drew ?_ | refine blk_alloc ?_ _)); refine blk_far ?_ NB204_236.out _; (with_reducible repeat (first | refine blk_drewN ?_ _ | refine blk_drew ?_ | refine blk_alloc ?_ _)); exact BK204.out⟩
                         have n2_ : Aside0 (((w90.setCell ⟨gb236, 0, none⟩ (.int .i64 ((rd_T70 ((rd_T63 l0_1 x54_3).f2) x96_5).f0))).setCell ⟨gb236, 1, none⟩ (.int .i64 ((rd_T70 ((rd_T63 l0_1 x54_3).f2) x96_5).f1))).heap[gb228]? = some (.cells #[.int .i64 ((rd_T63 l0_1 x54_3).f0), .string ((rd_T63 l0_1 x54_3).f1), .slice (some ad235) ((rd_T63 l0_1 x54_3).f2).length c227_2] 63 (0, 0))) := ⟨by (with_reducible repeat (first | refine blk_drewN ?_ _ | refine blk_drew ?_ | refine blk_alloc ?_ _)); refine blk_far ?_ NB228_236.out _; (with_reducible repeat (first | refine blk_drewN ?_ _ | refine blk_drew ?_ | refine blk_alloc ?_ _)); refine blk_far ?_ NB228_236.out _; (with_reducible repeat (first | refine blk_drewN ?_ _ | refine blk_drew ?_ | refine blk_alloc ?_ _)); exact BK228.out⟩
                         have n3_ : Aside0 (((w90.setCell ⟨gb236, 0, none⟩ (.int .i64 ((rd_T70 ((rd_T63 l0_1 x54_3).f2) x96_5).f0))).setCell ⟨gb236, 1, none⟩ (.int .i64 ((rd_T70 ((rd_T63 l0_1 x54_3).f2) x96_5).f1))).heap[gb236]? = some (.cells #[.int .i64 ((rd_T70 ((rd_T63 l0_1 x54_3).f2) x96_5).f0), .int .i64 ((rd_T70 ((rd_T63 l0_1 x54_3).f2) x96_5).f1)] 70 (0, 0))) := ⟨by (with_reducible repeat (first | refine blk_drewN ?_ _ | refine blk_drew ?_ | refine blk_alloc ?_ _)); refine blk_put (cs := #[.int .i64 ((rd_T70 ((rd_T63 l0_1 x54_3).f2) x96_5).f0), .int .i64 0]) ?_ 1 _ rfl; (with_reducible repeat (first | refine blk_drewN ?_ _ | refine blk_drew ?_ | refine blk_alloc ?_ _)); refine blk_put (cs := #[.int .i64 0, .int .i64 0]) ?_ 0 _ rfl; (with_reducible repeat (first | refine blk_drewN ?_ _ | refine blk_drew ?_ | refine blk_alloc ?_ _)); exact BK236.out⟩
                         have n4_ : Aside0 (Below w.heap.size w ((w90.setCell ⟨gb236, 0, none⟩ (.int .i64 ((rd_T70 ((rd_T63 l0_1 x54_3).f2) x96_5).f0))).setCell ⟨gb236, 1, none⟩ (.int .i64 ((rd_T70 ((rd_T63 l0_1 x54_3).f2) x96_5).f1)))) := ⟨by repeat (first | (with_reducible first | exact HB.out | apply below_alloc | apply pw_below_drewN | apply below_drew1 | refine below_set ?_ GE204.out | refine below_set ?_ GE228.out | refine below_set ?_ GE236.out) | exact HB.out)⟩
                         (try clear HO_5)
                         (try clear BK204)
                         (try clear BK228)
                         (try clear BK236)
                         (try clear HB)
                         generalize ((w90.setCell ⟨gb236, 0, none⟩ (.int .i64 ((rd_T70 ((rd_T63 l0_1 x54_3).f2) x96_5).f0))).setCell ⟨gb236, 1, none⟩ (.int .i64 ((rd_T70 ((rd_T63 l0_1 x54_3).f2) x96_5).f1))) = w94 at n0_ n1_ n2_ n3_ n4_ ⊢
                         have HO_5 := n0_
                         have BK204 := n1_
                         have BK228 := n2_
                         have BK236 := n3_
                         have HB := n4_
                         clear n0_ n1_ n2_ n3_ n4_
                         have n0_ := Aside0.mk (Kd.R_drew HO_5.out)
                         have n1_ := Aside0.mk (blk_drew BK204.out)
                         have n2_ := Aside0.mk (blk_drew BK228.out)
                         have n3_ := Aside0.mk (blk_drew BK236.out)
                         have n4_ := Aside0.mk (below_drew1 HB.out)
                         clear HO_5
                         clear BK204
                         clear BK228
                         clear BK236
                         clear HB
                         have HO_5 := n0_
                         have BK204 := n1_
                         have BK228 := n2_
                         have BK236 := n3_
                         have HB := n4_
                         clear n0_ n1_ n2_ n3_ n4_
                         obtain ⟨Ao96, co96, eo96⟩ := Kd.R_slice HO_5.out
                         (first | subst eo96 | (injection eo96 with f1_ f2_ f3_; have f4_ := f1_.symm; have f5_ := f3_.symm; clear f1_ f2_ f3_; subst f4_; subst f5_))
                         have p237 : 0 ≤ (((rd_T70 ((rd_T63 l0_1 x54_3).f2) x96_5).f0) : Int) := of_decide_eq_true ZZ853400
                         have q237 : ((rd_T70 ((rd_T63 l0_1 x54_3).f2) x96_5).f0) < (x5_5.length : Int) := of_decide_eq_true ZZ853400
                         obtain ⟨ad237, e237, hx237_0⟩ := Kd.at_int (Kd.R_reads' HO_5.out).2.2 ((rd_T70 ((rd_T63 l0_1 x54_3).f2) x96_5).f0) p237 q237
                         cases e237
                         replace p237 := eq_true p237
                         replace q237 := eq_true q237
                         have p86 : 0 ≤ (((rd_T70 ((rd_T63 l0_1 x54_3).f2) x96_5).f0) : Int) := of_decide_eq_true ZZ853400
                         have q86 : (((rd_T70 ((rd_T63 l0_1 x54_3).f2) x96_5).f0) : Int) < ((x5_5.length : Int) : Int) := of_decide_eq_true ZZ853400
                         obtain ⟨go86, co86, eo86, gb86, gl86, cl86, HG86⟩ := Kd.R_form HO_5.out (by omega)
                         (first | cases eo86 | (injection eo86 with ea_ en_ ec_; (first | subst ea_ | (injection ea_ with ea_; subst ea_)); subst ec_; clear en_))
                         have GB86 := Aside0.mk gb86
                         have GG86 := Aside0.mk HG86
                         clear gb86 gl86 HG86
                         (first | simp only [add_plain] at hx237_0 | skip)
                         obtain ⟨hx86_0, hf86_0⟩ := Kd.R_celln 0 HO_5.out (((rd_T70 ((rd_T63 l0_1 x54_3).f2) x96_5).f0) : Int) p86 q86
                         replace p86 := eq_true p86
                         replace q86 := eq_true q86
                         have HP97 := Kd.R_putn HO_5.out (((rd_T70 ((rd_T63 l0_1 x54_3).f2) x96_5).f0) : Int) (wrap64 ((rd x5_5 ((rd_T70 ((rd_T63 l0_1 x54_3).f2) x96_5).f0)) + ((rd_T70 ((rd_T63 l0_1 x54_3).f2) x96_5).f1)))
                         rw [← Ny238.out] at HP97
                         have HQ97 := Aside0.mk HP97
                         clear HP97
                         refine start_ (n := 10) (S := fun w' => w'.cell? ⟨gb236, 0, none⟩ = some (.int .i64 ((rd_T70 ((rd_T63 l0_1 x54_3).f2) x96_5).f0)) ∧ w'.cell? ⟨gb236, 1, none⟩ = some (.int .i64 ((rd_T70 ((rd_T63 l0_1 x54_3).f2) x96_5).f1)) ∧ w'.cell? ⟨go86, (((rd_T70 ((rd_T63 l0_1 x54_3).f2) x96_5).f0)).toNat, none⟩ = some (.int .i64 (rd x5_5 ((rd_T70 ((rd_T63 l0_1 x54_3).f2) x96_5).f0)))) (ds := [9]) #[false, false, false, false, false, false, false, false, false, false] (by kernel_rfl) rfl rfl ⟨(blk_cell BK236.out 0).trans rfl, (blk_cell BK236.out 1).trans rfl, hx237_0⟩ (fun hHeld => ?_); refine with_tabW impl_IsValidLedger.tab18 impl_IsValidLedger.bits18 (fun HT_ HW_ => ?_)
                         generalize w94.drew = w95 at HO_5 BK204 BK228 BK236 HB GG86 HQ97 hf86_0 hx237_0 hx86_0 hHeld ⊢
                         refine pu 0 100 ?_
                         refine pu 1 101 ?_
                         refine pu 5 105 ?_
                         refine tk 2 102 ?_
                         refine pu 3 103 ?_
                         refine tk 4 104 ?_
                         refine tk 6 106 ?_
                         refine pu 7 107 ?_
                         refine pu 8 108 ?_
                         refine last_ (i := 9) (N := none) #[true, true, true, true, true, true, true, true, true, true] rfl rfl (one_of HT_.out (by kernel_rfl)) (by decide) (fun K hK => ?_)
                         refine skip_ (w1 := ?_) (by rfl) rfl ?_ ?_
                         rotate_left
                         ·go_simp
                          rfl
                         refine hK.out _ _ ?_
                         clear hK K
                         refine done_ (done_of HT_.out (by kernel_rfl)) ?_
                         have hnb98 : gb236 ≠ go86 := (by have h_ := Kd.R_ne HO_5.out BK236.out (by decide); intro e_; exact h_ (by rw [e_]; rfl))
                         have hnc98 : go86 ≠ gb236 := Ne.symm hnb98
                         have hcz99_0 : w95.cell? ⟨gb236, 0, none⟩ = some (.int .i64 ((rd_T70 ((rd_T63 l0_1 x54_3).f2) x96_5).f0)) := (blk_cell BK236.out 0).trans rfl
                         have hcz99_1 : w95.cell? ⟨gb236, 1, none⟩ = some (.int .i64 ((rd_T70 ((rd_T63 l0_1 x54_3).f2) x96_5).f1)) := (blk_cell BK236.out 1).trans rfl
                         have hfz99_0 := blk_frozen BK236.out 0
                         have hfz99_1 := blk_frozen BK236.out 1
                         have p87 : 0 ≤ (((rd_T70 ((rd_T63 l0_1 x54_3).f2) x96_5).f0) : Int) := of_decide_eq_true ZZ853400
                         have q87 : (((rd_T70 ((rd_T63 l0_1 x54_3).f2) x96_5).f0) : Int) < ((x5_5.length : Int) : Int) := of_decide_eq_true ZZ853400
                         replace p87 := eq_true p87
                         replace q87 := eq_true q87
                         try go_wp2_with (first | ((with_reducible refine gate_callee (f := 62) rfl ?_); refine goesL_ (some 114) rfl rfl Tryd.func62 (by kernel_rfl) rfl #[.int .i64 (wrap64 ((rd x5_5 ((rd_T70 ((rd_T63 l0_1 x54_3).f2) x96_5).f0)) + ((rd_T70 ((rd_T63 l0_1 x54_3).f2) x96_5).f1)))] rfl ZZ19826e ?_; (with_reducible refine (impl_isAmount.calls (wrap64 ((rd x5_5 ((rd_T70 ((rd_T63 l0_1 x54_3).f2) x96_5).f0)) + ((rd_T70 ((rd_T63 l0_1 x54_3).f2) x96_5).f1))) true _ A88.out).mono ?_); rintro e w' ⟨rfl, ⟨nd, rfl⟩⟩; refine ⟨_, rfl, ?_⟩))
                         go_roundg k5
                         case measure => have := HJ1.out; have := HK2.out; have := HK3.out; have := HJ46.out; have := HK5.out; omega
                         case rel => exact ⟨(y238), (wrap64 (x96_5 + 1)), ZZ0ab324, H', ⟨by have := HJ1.out; have := HK2.out; have := HK3.out; have := HJ46.out; have := HK5.out; omega⟩, ⟨by (with_reducible repeat (first | apply Kd.R_alloc | apply Kd.R_drewN | apply Kd.R_drew)); exact HQ97.out⟩, ⟨by (with_reducible repeat (first | refine blk_drewN ?_ _ | refine blk_drew ?_ | refine blk_alloc ?_ _)); refine blk_far ?_ (by have h_ := Kd.R_ne HO_5.out BK204.out (by decide); intro e_; exact h_ (by rw [e_]; rfl)) _; (with_reducible repeat (first | refine blk_drewN ?_ _ | refine blk_drew ?_ | refine blk_alloc ?_ _)); exact BK204.out⟩, ⟨by (with_reducible repeat (first | refine blk_drewN ?_ _ | refine blk_drew ?_ | refine blk_alloc ?_ _)); refine blk_far ?_ (by have h_ := Kd.R_ne HO_5.out BK228.out (by decide); intro e_; exact h_ (by rw [e_]; rfl)) _; (with_reducible repeat (first | refine blk_drewN ?_ _ | refine blk_drew ?_ | refine blk_alloc ?_ _)); exact BK228.out⟩, ⟨by repeat (first | (with_reducible first | exact HB.out | apply below_alloc | apply pw_below_drewN | apply below_drew1 | refine below_set ?_ GB86.out | refine below_set ?_ GE204.out | refine below_set ?_ GE228.out | refine below_set ?_ GE236.out) | exact HB.out)⟩⟩
                        ·replace c89 := Bool.eq_false_iff.mpr c89
                         subst c89
                         have H1 : (some false) = some r := by rw [if_neg (show ¬ (false = true) by decide)] at H; exact H
                         clear H
                         have H := H1
                         clear H1
                         obtain rfl := Option.some.inj H
                         have p235 : 0 ≤ (x96_5 : Int) := of_decide_eq_true ZZ853400
                         have q235 : x96_5 < (((rd_T63 l0_1 x54_3).f2).length : Int) := of_decide_eq_true ZZ853400
                         obtain ⟨ad235, e235, hx235_0, hx235_1⟩ := at_T70 HR227_2.out x96_5 p235 q235
                         cases e235
                         replace hx235_0 := (HB.out.cell (World.block_lt_of_cell? w _ hx235_0)).trans hx235_0
                         replace hx235_1 := (HB.out.cell (World.block_lt_of_cell? w _ hx235_1)).trans hx235_1
                         replace p235 := eq_true p235
                         replace q235 := eq_true q235
                         try go_wp2_with (first | ((with_reducible refine gate_dst (N := 9) rfl ?_); (try (refine gate_guard (by rfl) ?_; dsimp only)); refine box_event ?hg (N := 9) ?hd (cs := #[.int .i64 0, .int .i64 0]) (t := 70) ?hr ?_; (case hd => rfl); (case hg => rfl); (case hr => first | (go_simp; done) | (go_simp; rfl)); intro gb236 hg w100 hbox hb; have n0_ := Aside0.mk (Kd.R_below (by (with_reducible repeat (first | apply Kd.R_alloc | apply Kd.R_drewN | apply Kd.R_drew)); exact HO_5.out) hb); have n1_ := Aside0.mk (blk_below (g := gb204) (o := .cells #[.slice A0_0 l0_0.length c0_0, .slice (some ad227) l0_1.length c0_1] 31 (0, 0)) ZZa30d0d hb); have n2_ := Aside0.mk (blk_below (g := gb228) (o := .cells #[.int .i64 ((rd_T63 l0_1 x54_3).f0), .string ((rd_T63 l0_1 x54_3).f1), .slice (some ad235) ((rd_T63 l0_1 x54_3).f2).length c227_2] 63 (0, 0)) ZZ313b37 hb); have n3_ := Aside0.mk (below_step ZZ6fc3ee hb); have n4_ := Aside0.mk (hbox); have n5_ := Aside0.mk ((by rw [hg]; exact (below_size ZZ6fc3ee) : w.heap.size ≤ gb236)); have n6_ := Aside0.mk ((by rw [hg]; exact (below_size ZZ6fc3ee) : w.heap.size ≤ gb236)); have n7_ := Aside0.mk ((by rw [hg]; exact Nat.ne_of_lt (blk_lt (g := gb204) (o := .cells #[.slice A0_0 l0_0.length c0_0, .slice (some ad227) l0_1.length c0_1] 31 (0, 0)) ZZa30d0d) : gb204 ≠ gb236)); have n8_ := Aside0.mk ((by rw [hg]; exact Nat.ne_of_gt (blk_lt (g := gb204) (o := .cells #[.slice A0_0 l0_0.length c0_0, .slice (some ad227) l0_1.length c0_1] 31 (0, 0)) ZZa30d0d) : gb236 ≠ gb204)); have n9_ := Aside0.mk ((by rw [hg]; exact Nat.ne_of_lt (blk_lt (g := gb228) (o := .cells #[.int .i64 ((rd_T63 l0_1 x54_3).f0), .string ((rd_T63 l0_1 x54_3).f1), .slice (some ad235) ((rd_T63 l0_1 x54_3).f2).length c227_2] 63 (0, 0)) ZZ313b37) : gb228 ≠ gb236)); have n10_ := Aside0.mk ((by rw [hg]; exact Nat.ne_of_gt (blk_lt (g := gb228) (o := .cells #[.int .i64 ((rd_T63 l0_1 x54_3).f0), .string ((rd_T63 l0_1 x54_3).f1), .slice (some ad235) ((rd_T63 l0_1 x54_3).f2).length c227_2] 63 (0, 0)) ZZ313b37) : gb236 ≠ gb228)); clear HO_5; clear BK204; clear BK228; clear HB; have HO_5 := n0_; have BK204 := n1_; have BK228 := n2_; have HB := n3_; have BK236 := n4_; have GW236 := n5_; have GE236 := n6_; have NB204_236 := n7_; have NB236_204 := n8_; have NB228_236 := n9_; have NB236_228 := n10_; clear n0_ n1_ n2_ n3_ n4_ n5_ n6_ n7_ n8_ n9_ n10_; clear hb hbox hg; have hnb101 := NB236_204.out; have hnc101 := NB204_236.out; have hnb102 := NB236_228.out; have hnc102 := NB228_236.out; have hcz103_0 : w100.cell? ⟨gb236, 0, none⟩ = some (.int .i64 0) := (blk_cell BK236.out 0).trans rfl; have hcz103_1 : w100.cell? ⟨gb236, 1, none⟩ = some (.int .i64 0) := (blk_cell BK236.out 1).trans rfl; have hfz103_0 := blk_frozen BK236.out 0; have hfz103_1 := blk_frozen BK236.out 1))
                         have n0_ : Aside0 (Kd.R (Kd.int .i64) 3 ((w100.setCell ⟨gb236, 0, none⟩ (.int .i64 ((rd_T70 ((rd_T63 l0_1 x54_3).f2) x96_5).f0))).setCell ⟨gb236, 1, none⟩ (.int .i64 ((rd_T70 ((rd_T63 l0_1 x54_3).f2) x96_5).f1))) w.heap.size (fun _ => True) v225 x5_5) := ⟨by (with_reducible repeat (first | apply Kd.R_alloc | apply Kd.R_drewN | apply Kd.R_drew)); exact Kd.R_mono (Kd.R_far (p := ⟨gb236, 1, none⟩) (Kd.R_far (p := ⟨gb236, 0, none⟩) (Kd.R_types HO_5.out BK236.out (by decide)) (fun _ hk => hk.2) (.int .i64 ((rd_T70 ((rd_T63 l0_1 x54_3).f2) x96_5).f0))) (fun _ hk => hk.2) (.int .i64 ((rd_T70 ((rd_T63 l0_1 x54_3).f2) x96_5).f1))) (fun _ hk => trivial)⟩
                         have n1_ : Aside0 (((w100.setCell ⟨gb236, 0, none⟩ (.int .i64 ((rd_T70 ((rd_T63 l0_1 x54_3).f2) x96_5).f0))).setCell ⟨gb236, 1, none⟩ (.int .i64 ((rd_T70 ((rd_T63 l0_1 x54_3).f2) x96_5).f1))).heap[gb204]? = some (.cells #[.slice A0_0 l0_0.length c0_0, .slice (some ad227) l0_1.length c0_1] 31 (0, 0))) := ⟨by (with_reducible repeat (first | refine blk_drewN ?_ _ | refine blk_drew ?_ | refine blk_alloc ?_ _)); refine blk_far ?_ NB204_236.out _; (with_reducible repeat (first | refine blk_drewN ?_ _ | refine blk_drew ?_ | refine blk_alloc ?_ _)); refine blk_far ?_ NB204_236.out _; (with_reducible repeat (first | refine blk_drewN ?_ _ | refine blk_drew ?_ | refine blk_alloc ?_ _)); exact BK204.out⟩
                         have n2_ : Aside0 (((w100.setCell ⟨gb236, 0, none⟩ (.int .i64 ((rd_T70 ((rd_T63 l0_1 x54_3).f2) x96_5).f0))).setCell ⟨gb236, 1, none⟩ (.int .i64 ((rd_T70 ((rd_T63 l0_1 x54_3).f2) x96_5).f1))).heap[gb228]? = some (.cells #[.int .i64 ((rd_T63 l0_1 x54_3).f0), .string ((rd_T63 l0_1 x54_3).f1), .slice (some ad235) ((rd_T63 l0_1 x54_3).f2).length c227_2] 63 (0, 0))) := ⟨by (with_reducible repeat (first | refine blk_drewN ?_ _ | refine blk_drew ?_ | refine blk_alloc ?_ _)); refine blk_far ?_ NB228_236.out _; (with_reducible repeat (first | refine blk_drewN ?_ _ | refine blk_drew ?_ | refine blk_alloc ?_ _)); refine blk_far ?_ NB228_236.out _; (with_reducible repeat (first | refine blk_drewN ?_ _ | refine blk_drew ?_ | refine blk_alloc ?_ _)); exact BK228.out⟩
                         have n3_ : Aside0 (((w100.setCell ⟨gb236, 0, none⟩ (.int .i64 ((rd_T70 ((rd_T63 l0_1 x54_3).f2) x96_5).f0))).setCell ⟨gb236, 1, none⟩ (.int .i64 ((rd_T70 ((rd_T63 l0_1 x54_3).f2) x96_5).f1))).heap[gb236]? = some (.cells #[.int .i64 ((rd_T70 ((rd_T63 l0_1 x54_3).f2) x96_5).f0), .int .i64 ((rd_T70 ((rd_T63 l0_1 x54_3).f2) x96_5).f1)] 70 (0, 0))) := ⟨by (with_reducible repeat (first | refine blk_drewN ?_ _ | refine blk_drew ?_ | refine blk_alloc ?_ _)); refine blk_put (cs := #[.int .i64 ((rd_T70 ((rd_T63 l0_1 x54_3).f2) x96_5).f0), .int .i64 0]) ?_ 1 _ rfl; (with_reducible repeat (first | refine blk_drewN ?_ _ | refine blk_drew ?_ | refine blk_alloc ?_ _)); refine blk_put (cs := #[.int .i64 0, .int .i64 0]) ?_ 0 _ rfl; (with_reducible repeat (first | refine blk_drewN ?_ _ | refine blk_drew ?_ | refine blk_alloc ?_ _)); exact BK236.out⟩
                         have n4_ : Aside0 (Below w.heap.size w ((w100.setCell ⟨gb236, 0, none⟩ (.int .i64 ((rd_T70 ((rd_T63 l0_1 x54_3).f2) x96_5).f0))).setCell ⟨gb236, 1, none⟩ (.int .i64 ((rd_T70 ((rd_T63 l0_1 x54_3).f2) x96_5).f1)))) := ⟨by repeat (first | (with_reducible first | exact HB.out | apply below_alloc | apply pw_below_drewN | apply below_drew1 | refine below_set ?_ GE204.out | refine below_set ?_ GE228.out | refine below_set ?_ GE236.out) | exact HB.out)⟩
                         (try clear HO_5)
                         (try clear BK204)
                         (try clear BK228)
                         (try clear BK236)
                         (try clear HB)
                         generalize ((w100.setCell ⟨gb236, 0, none⟩ (.int .i64 ((rd_T70 ((rd_T63 l0_1 x54_3).f2) x96_5).f0))).setCell ⟨gb236, 1, none⟩ (.int .i64 ((rd_T70 ((rd_T63 l0_1 x54_3).f2) x96_5).f1))) = w104 at n0_ n1_ n2_ n3_ n4_ ⊢
                         have HO_5 := n0_
                         have BK204 := n1_
                         have BK228 := n2_
                         have BK236 := n3_
                         have HB := n4_
                         clear n0_ n1_ n2_ n3_ n4_
                         have n0_ := Aside0.mk (Kd.R_drew HO_5.out)
                         have n1_ := Aside0.mk (blk_drew BK204.out)
                         have n2_ := Aside0.mk (blk_drew BK228.out)
                         have n3_ := Aside0.mk (blk_drew BK236.out)
                         have n4_ := Aside0.mk (below_drew1 HB.out)
                         clear HO_5
                         clear BK204
                         clear BK228
                         clear BK236
                         clear HB
                         have HO_5 := n0_
                         have BK204 := n1_
                         have BK228 := n2_
                         have BK236 := n3_
                         have HB := n4_
                         clear n0_ n1_ n2_ n3_ n4_
                         obtain ⟨Ao106, co106, eo106⟩ := Kd.R_slice HO_5.out
                         (first | subst eo106 | (injection eo106 with f1_ f2_ f3_; have f4_ := f1_.symm; have f5_ := f3_.symm; clear f1_ f2_ f3_; subst f4_; subst f5_))
                         have p237 : 0 ≤ (((rd_T70 ((rd_T63 l0_1 x54_3).f2) x96_5).f0) : Int) := of_decide_eq_true ZZ853400
                         have q237 : ((rd_T70 ((rd_T63 l0_1 x54_3).f2) x96_5).f0) < (x5_5.length : Int) := of_decide_eq_true ZZ853400
                         obtain ⟨ad237, e237, hx237_0⟩ := Kd.at_int (Kd.R_reads' HO_5.out).2.2 ((rd_T70 ((rd_T63 l0_1 x54_3).f2) x96_5).f0) p237 q237
                         cases e237
                         replace p237 := eq_true p237
                         replace q237 := eq_true q237
                         have p86 : 0 ≤ (((rd_T70 ((rd_T63 l0_1 x54_3).f2) x96_5).f0) : Int) := of_decide_eq_true ZZ853400
                         have q86 : (((rd_T70 ((rd_T63 l0_1 x54_3).f2) x96_5).f0) : Int) < ((x5_5.length : Int) : Int) := of_decide_eq_true ZZ853400
                         obtain ⟨go86, co86, eo86, gb86, gl86, cl86, HG86⟩ := Kd.R_form HO_5.out (by omega)
                         (first | cases eo86 | (injection eo86 with ea_ en_ ec_; (first | subst ea_ | (injection ea_ with ea_; subst ea_)); subst ec_; clear en_))
                         have GB86 := Aside0.mk gb86
                         have GG86 := Aside0.mk HG86
                         clear gb86 gl86 HG86
                         (first | simp only [add_plain] at hx237_0 | skip)
                         obtain ⟨hx86_0, hf86_0⟩ := Kd.R_celln 0 HO_5.out (((rd_T70 ((rd_T63 l0_1 x54_3).f2) x96_5).f0) : Int) p86 q86
                         replace p86 := eq_true p86
                         replace q86 := eq_true q86
                         have HP107 := Kd.R_putn HO_5.out (((rd_T70 ((rd_T63 l0_1 x54_3).f2) x96_5).f0) : Int) (wrap64 ((rd x5_5 ((rd_T70 ((rd_T63 l0_1 x54_3).f2) x96_5).f0)) + ((rd_T70 ((rd_T63 l0_1 x54_3).f2) x96_5).f1)))
                         rw [← Ny238.out] at HP107
                         have HQ107 := Aside0.mk HP107
                         clear HP107
                         refine start_ (n := 10) (S := fun w' => w'.cell? ⟨gb236, 0, none⟩ = some (.int .i64 ((rd_T70 ((rd_T63 l0_1 x54_3).f2) x96_5).f0)) ∧ w'.cell? ⟨gb236, 1, none⟩ = some (.int .i64 ((rd_T70 ((rd_T63 l0_1 x54_3).f2) x96_5).f1)) ∧ w'.cell? ⟨go86, (((rd_T70 ((rd_T63 l0_1 x54_3).f2) x96_5).f0)).toNat, none⟩ = some (.int .i64 (rd x5_5 ((rd_T70 ((rd_T63 l0_1 x54_3).f2) x96_5).f0)))) (ds := [9]) #[false, false, false, false, false, false, false, false, false, false] (by kernel_rfl) rfl rfl ⟨(blk_cell BK236.out 0).trans rfl, (blk_cell BK236.out 1).trans rfl, hx237_0⟩ (fun hHeld => ?_); refine with_tabW impl_IsValidLedger.tab18 impl_IsValidLedger.bits18 (fun HT_ HW_ => ?_)
                         generalize w104.drew = w105 at HO_5 BK204 BK228 BK236 HB GG86 HQ107 hf86_0 hx237_0 hx86_0 hHeld ⊢
                         refine pu 0 100 ?_
                         refine pu 1 101 ?_
                         refine pu 5 105 ?_
                         refine tk 2 102 ?_
                         refine pu 3 103 ?_
                         refine tk 4 104 ?_
                         refine tk 6 106 ?_
                         refine pu 7 107 ?_
                         refine pu 8 108 ?_
                         refine last_ (i := 9) (N := none) #[true, true, true, true, true, true, true, true, true, true] rfl rfl (one_of HT_.out (by kernel_rfl)) (by decide) (fun K hK => ?_)
                         refine skip_ (w1 := ?_) (by rfl) rfl ?_ ?_
                         rotate_left
                         ·go_simp
                          rfl
                         refine hK.out _ _ ?_
                         clear hK K
                         refine done_ (done_of HT_.out (by kernel_rfl)) ?_
                         have hnb108 : gb236 ≠ go86 := (by have h_ := Kd.R_ne HO_5.out BK236.out (by decide); intro e_; exact h_ (by rw [e_]; rfl))
                         have hnc108 : go86 ≠ gb236 := Ne.symm hnb108
                         have hcz109_0 : w105.cell? ⟨gb236, 0, none⟩ = some (.int .i64 ((rd_T70 ((rd_T63 l0_1 x54_3).f2) x96_5).f0)) := (blk_cell BK236.out 0).trans rfl
                         have hcz109_1 : w105.cell? ⟨gb236, 1, none⟩ = some (.int .i64 ((rd_T70 ((rd_T63 l0_1 x54_3).f2) x96_5).f1)) := (blk_cell BK236.out 1).trans rfl
                         have hfz109_0 := blk_frozen BK236.out 0
                         have hfz109_1 := blk_frozen BK236.out 1
                         have p87 : 0 ≤ (((rd_T70 ((rd_T63 l0_1 x54_3).f2) x96_5).f0) : Int) := of_decide_eq_true ZZ853400
                         have q87 : (((rd_T70 ((rd_T63 l0_1 x54_3).f2) x96_5).f0) : Int) < ((x5_5.length : Int) : Int) := of_decide_eq_true ZZ853400
                         replace p87 := eq_true p87
                         replace q87 := eq_true q87
                         try go_wp2_with (first | ((with_reducible refine gate_callee (f := 62) rfl ?_); refine goesL_ (some 114) rfl rfl Tryd.func62 (by kernel_rfl) rfl #[.int .i64 (wrap64 ((rd x5_5 ((rd_T70 ((rd_T63 l0_1 x54_3).f2) x96_5).f0)) + ((rd_T70 ((rd_T63 l0_1 x54_3).f2) x96_5).f1)))] rfl ZZ19826e ?_; (with_reducible refine (impl_isAmount.calls (wrap64 ((rd x5_5 ((rd_T70 ((rd_T63 l0_1 x54_3).f2) x96_5).f0)) + ((rd_T70 ((rd_T63 l0_1 x54_3).f2) x96_5).f1))) false _ A88.out).mono ?_); rintro e w' ⟨rfl, ⟨nd, rfl⟩⟩; refine ⟨_, rfl, ?_⟩))
                         go_ret
                         exact ⟨by first | rfl | (simp [errW_none, errW_some] <;> rfl) | (simp [*, errW_none, errW_some] <;> rfl), by repeat (first | (with_reducible first | exact HB.out | apply below_alloc | apply pw_below_drewN | apply below_drew1 | refine below_set ?_ GB86.out | refine below_set ?_ GE204.out | refine below_set ?_ GE228.out | refine below_set ?_ GE236.out) | exact HB.out)⟩
                       ·rw [if_neg c85] at H
                        exact absurd H (by simp)
                      ·rw [if_neg c84] at H
                       exact absurd H (by simp)
                     ·rw [if_neg c83] at H
                      exact absurd H (by simp)
                    ·rw [if_neg c82] at H
                     exact absurd H (by simp)
                   ·rw [if_neg c81] at H
                    have c81b0 : decide (x96_5 < (((rd_T63 l0_1 x54_3).f2).length : Int)) = false := decide_eq_false c81
                    clear c81
                    have H' := Aside0.mk H
                    clear H
                    go_wp2
                    go_roundg k5
                    case measure => have := HJ1.out; have := HK2.out; have := HK3.out; have := HJ46.out; have := HK5.out; omega
                    case rel => exact ⟨(x5_5), (wrap64 (x54_3 + 1)), ZZ0ab324, H', ⟨by have := HJ1.out; have := HK2.out; have := HK3.out; have := HJ46.out; have := HK5.out; omega⟩, ⟨by (with_reducible repeat (first | apply Kd.R_alloc | apply Kd.R_drewN | apply Kd.R_drew)); exact HO_5.out⟩, ⟨by (with_reducible repeat (first | refine blk_drewN ?_ _ | refine blk_drew ?_ | refine blk_alloc ?_ _)); exact BK204.out⟩, ⟨by repeat (first | (with_reducible first | exact HB.out | apply below_alloc | apply pw_below_drewN | apply below_drew1 | refine below_set ?_ GE204.out | refine below_set ?_ GE228.out) | exact HB.out)⟩⟩
             ·rw [if_neg c46] at H
              exact absurd H (by simp)
            ·rw [if_neg c45] at H
             exact absurd H (by simp)
           ·rw [if_neg c44] at H
            have c44b0 : decide (x54_3 < (l0_1.length : Int)) = false := decide_eq_false c44
            clear c44
            obtain rfl := Option.some.inj H
            go_wp2
            go_ret
            exact ⟨by first | rfl | (simp [errW_none, errW_some] <;> rfl) | (simp [*, errW_none, errW_some] <;> rfl), by repeat (first | (with_reducible first | exact HB.out | apply below_alloc | apply pw_below_drewN | apply below_drew1 | refine below_set ?_ GE204.out) | exact HB.out)⟩
        ·rw [if_neg c39] at H
         exact absurd H (by simp)
       ·rw [if_neg c38] at H
        exact absurd H (by simp)
end Go.Proofs.YtccdjchaaeligaaDoor.XFnExactIsValidLedger

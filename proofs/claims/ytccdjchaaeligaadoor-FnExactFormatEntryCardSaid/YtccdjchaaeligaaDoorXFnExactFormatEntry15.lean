-- Printed by wip/tools/xprint.py, a program of this session, over the kit's print; Lean checks it.
import Derived.Test.YtccdjchaaeligaaDoorXFnExactFormatEntry1
import Derived.Test.YtccdjchaaeligaaDoorXFnExactFormatEntry0
import Derived.Test.YtccdjchaaeligaaDoorXFnExactFormatEntry9
import Derived.Test.YtccdjchaaeligaaDoorXFnExactFormatEntry13
import Derived.Test.YtccdjchaaeligaaDoorXFnExactFormatEntry14
namespace Go.Proofs.YtccdjchaaeligaaDoor.XFnExactFormatEntry
open Go.Proofs.YtccdjchaaeligaaDoor.Short Go.RowKit Go.Proofs.YtccdjchaaeligaaDoorW.PrintWords Go.Proofs.YtccdjchaaeligaaDoorW.PrintLast Go.Proofs.YtccdjchaaeligaaDoorW.PrintMore
attribute [local go_sem] max2_int min2_int max_two min_two max_three min_three max_four min_four   -- for this text's walks alone
set_option linter.unusedVariables false
set_option linter.unusedSimpArgs false
theorem ZZc72dea {p : Prop} (h : p := by (with_reducible repeat (first | refine blk_drewN ?_ _ | refine blk_drew ?_ | refine blk_alloc ?_ _)); exact BK310.out) : p := h
theorem ZZ1f17ff {p : Prop} (h : p := by repeat (first | (with_reducible first | exact HB.out | apply below_alloc | apply pw_below_drewN | apply below_drew1 | refine below_set ?_ GE310.out) | exact HB.out)) : p := h
theorem ZZd33ee0 {p : Prop} (h : p := by repeat (first | (with_reducible first | exact HB.out | apply below_alloc | apply pw_below_drewN | apply below_drew1 | refine below_set ?_ GE310.out | refine below_set ?_ GE314.out) | exact HB.out)) : p := h
/-! ### impl_amountText: function 99 -/
def impl_amountText.j0 : Nat → Int → ByteArray → Option (ByteArray)
 | 0, _, _ => none
 | k + 1, x0, x3 => (impl_size.f x0).bind fun t306 => ((strconv_Itoa.f (wrap64 (Int.tdiv t306 100))).bind fun t307 => (if x3.size + t307.size ≤ 9223372036854775807 then (if x3.size + t307.size + 1 ≤ 9223372036854775807 then ((impl_size.f x0).bind fun t308 => ((impl_padded.f k (Int.tmod t308 100) 2).bind fun t309 => (if x3.size + t307.size + 1 + t309.size ≤ 9223372036854775807 then (some (((x3 ++ t307) ++ (⟨#[46]⟩ : ByteArray)) ++ t309)) else (none)))) else (none)) else (none)))
def impl_amountText.f (k : Nat) (a0 : Int) : Option (ByteArray) := if a0 < 0 then (impl_amountText.j0 k a0 (⟨#[45]⟩ : ByteArray)) else (impl_amountText.j0 k a0 (⟨#[]⟩ : ByteArray))
theorem impl_amountText.mono_l : ∀ k, (∀ y0 y1, LeO (impl_amountText.j0 k y0 y1) (impl_amountText.j0 (k + 1) y0 y1))
 | 0 => fun _ _ r h => by simp [impl_amountText.j0] at h
 | k + 1 => by
  have ih0 := impl_amountText.mono_l k
  ·intro y0 y1
   unfold impl_amountText.j0
   repeat' first
   | (with_reducible exact ih0 _ _)
   | (with_reducible exact impl_padded.mono _ _ _)
   | (with_reducible exact LeO.refl _)
   | (with_reducible exact LeO.none _)
   | (with_reducible refine LeO.ite ?_ ?_)
   | (with_reducible refine LeO.bind ?_ (fun _ => ?_))
   | exact ih0 _ _
   | exact impl_padded.mono _ _ _
   | exact LeO.none _
   | refine LeO.ite ?_ ?_
   | refine LeO.bind ?_ (fun _ => ?_)
theorem impl_amountText.mono : ∀ a0 k, LeO (impl_amountText.f k a0) (impl_amountText.f (k + 1) a0) := by
 intro a0 k
 have ih0 := impl_amountText.mono_l k
 unfold impl_amountText.f
 repeat' first
  | (with_reducible exact ih0 _ _)
  | (with_reducible exact impl_padded.mono _ _ _)
  | (with_reducible exact LeO.refl _)
  | (with_reducible exact LeO.none _)
  | (with_reducible refine LeO.ite ?_ ?_)
  | (with_reducible refine LeO.bind ?_ (fun _ => ?_))
  | exact ih0 _ _
  | exact impl_padded.mono _ _ _
  | exact LeO.none _
  | refine LeO.ite ?_ ?_
  | refine LeO.bind ?_ (fun _ => ?_)
set_option maxHeartbeats 8000000 in
set_option maxRecDepth 100000 in
theorem impl_amountText.calls (k : Nat) (a0 : Int) (r : ByteArray) (w : World) (hV : TInv w) (h : impl_amountText.f k a0 = some r) :
 Calls Tryd.prog 99 #[.int .i64 a0] w fun e w' => e = .returned (.string r) ∧ Below w.heap.size w w' := by
 have HV := Aside0.mk hV
 clear hV
 have HB := Aside0.mk (Below.refl w.heap.size w)
 have H : (if a0 < 0 then (impl_amountText.j0 k a0 (⟨#[45]⟩ : ByteArray)) else (impl_amountText.j0 k a0 (⟨#[]⟩ : ByteArray))) = some r := h
 clear h
 have HC2 := Aside0.mk H
 clear H
 go_enter Tryd.func99, Tryd.ntmps99
 go_upto_if 5 with (fail)
 go_cut [3] (fun v3 wc => ∃ (kq : Nat) (x3_1 : ByteArray), v3 = .string x3_1 ∧ Aside0 (impl_amountText.j0 kq a0 x3_1 = some r) ∧ Aside0 (kq ≤ k) ∧ Aside0 (Below w.heap.size w wc))
 case first =>
  have H := HC2.out
  clear HC2
  by_cases c3 : a0 < 0
  ·rw [if_pos c3] at H
   have c3b0 : decide (a0 < 0) = true := decide_eq_true c3
   clear c3
   (first | rw [c3b0] | (simp only [i64_w, i32_w]; rw [c3b0]) | skip)
   have H' := Aside0.mk H
   clear H
   go_wp2
   go_meet
   case rel => exact ⟨_, ((⟨#[45]⟩ : ByteArray)), ZZ0ab324, H', ⟨by first | omega | exact Nat.le_refl _⟩, ⟨by repeat (first | (with_reducible first | exact HB.out | apply below_alloc | apply pw_below_drewN | apply below_drew1) | exact HB.out)⟩⟩
  ·rw [if_neg c3] at H
   have c3b0 : decide (a0 < 0) = false := decide_eq_false c3
   clear c3
   (first | rw [c3b0] | (simp only [i64_w, i32_w]; rw [c3b0]) | skip)
   have H' := Aside0.mk H
   clear H
   go_wp2
   go_meet
   case rel => exact ⟨_, ((⟨#[]⟩ : ByteArray)), ZZ0ab324, H', ⟨by first | omega | exact Nat.le_refl _⟩, ⟨by repeat (first | (with_reducible first | exact HB.out | apply below_alloc | apply pw_below_drewN | apply below_drew1) | exact HB.out)⟩⟩
 case rest =>
  clear HC2
  try clear p2
  try clear c3
  try clear c3b0
  obtain ⟨kq, x3_1, rfl, HA, HJ1, HB⟩ := hcut
  cases kq with
  | zero => exact absurd HA.out (by simp [impl_amountText.j0])
  | succ kj1 =>
   have H := HA.out
   clear HA
   simp only [impl_amountText.j0] at H
   replace H := Option.bind_eq_some_iff.mp H
   obtain ⟨t306, A40, H⟩ := H
   replace H : ((strconv_Itoa.f (wrap64 (Int.tdiv t306 100))).bind fun t307 => (if x3_1.size + t307.size ≤ 9223372036854775807 then (if x3_1.size + t307.size + 1 ≤ 9223372036854775807 then ((impl_size.f a0).bind fun t308 => ((impl_padded.f kj1 (Int.tmod t308 100) 2).bind fun t309 => (if x3_1.size + t307.size + 1 + t309.size ≤ 9223372036854775807 then (some (((x3_1 ++ t307) ++ (⟨#[46]⟩ : ByteArray)) ++ t309)) else (none)))) else (none)) else (none))) = some r := H
   have A4 := Aside0.mk A40
   clear A40
   replace H := Option.bind_eq_some_iff.mp H
   obtain ⟨t307, A50, H⟩ := H
   replace H : (if x3_1.size + t307.size ≤ 9223372036854775807 then (if x3_1.size + t307.size + 1 ≤ 9223372036854775807 then ((impl_size.f a0).bind fun t308 => ((impl_padded.f kj1 (Int.tmod t308 100) 2).bind fun t309 => (if x3_1.size + t307.size + 1 + t309.size ≤ 9223372036854775807 then (some (((x3_1 ++ t307) ++ (⟨#[46]⟩ : ByteArray)) ++ t309)) else (none)))) else (none)) else (none)) = some r := H
   have A5 := Aside0.mk A50
   clear A50
   by_cases c6 : x3_1.size + t307.size ≤ 9223372036854775807
   ·rw [if_pos c6] at H
    have c6b0 := eq_true c6
    have c6b1 : decide (x3_1.size + t307.size ≤ 9223372036854775807) = true := decide_eq_true c6
    try have c6b2 : (9223372036854775807 < x3_1.size + t307.size) = False := eq_false (Nat.not_lt.2 c6)
    by_cases c7 : x3_1.size + t307.size + 1 ≤ 9223372036854775807
    ·rw [if_pos c7] at H
     have c7b0 := eq_true c7
     have c7b1 : decide (x3_1.size + t307.size + 1 ≤ 9223372036854775807) = true := decide_eq_true c7
     try have c7b2 : (9223372036854775807 < x3_1.size + t307.size + 1) = False := eq_false (Nat.not_lt.2 c7)
     replace H := Option.bind_eq_some_iff.mp H
     obtain ⟨t308, A80, H⟩ := H
     replace H : ((impl_padded.f kj1 (Int.tmod t308 100) 2).bind fun t309 => (if x3_1.size + t307.size + 1 + t309.size ≤ 9223372036854775807 then (some (((x3_1 ++ t307) ++ (⟨#[46]⟩ : ByteArray)) ++ t309)) else (none))) = some r := H
     have A8 := Aside0.mk A80
     clear A80
     replace H := Option.bind_eq_some_iff.mp H
     obtain ⟨t309, A90, H⟩ := H
     replace H : (if x3_1.size + t307.size + 1 + t309.size ≤ 9223372036854775807 then (some (((x3_1 ++ t307) ++ (⟨#[46]⟩ : ByteArray)) ++ t309)) else (none)) = some r := H
     have A9 := Aside0.mk A90
     clear A90
     by_cases c10 : x3_1.size + t307.size + 1 + t309.size ≤ 9223372036854775807
     ·rw [if_pos c10] at H
      have c10b0 := eq_true c10
      have c10b1 : decide (x3_1.size + t307.size + 1 + t309.size ≤ 9223372036854775807) = true := decide_eq_true c10
      try have c10b2 : (9223372036854775807 < x3_1.size + t307.size + 1 + t309.size) = False := eq_false (Nat.not_lt.2 c10)
      obtain rfl := Option.some.inj H
      go_wp2_with (first | ((with_reducible refine gate_callee (f := 125) rfl ?_); refine goesL_ (some 8) rfl rfl Tryd.func125 (by kernel_rfl) rfl #[.int .i64 a0] rfl ZZ19826e ?_; (with_reducible refine (impl_size.calls a0 t306 _ A4.out).mono ?_); rintro e w11 ⟨rfl, hb⟩; refine ⟨_, rfl, ?_⟩; have n0_ := Aside0.mk (below_step ZZ605003 hb); clear HB; have HB := n0_; clear n0_; (try clear hb); (try clear hb2); (try clear hk); (try clear hi)) | ((with_reducible refine gate_callee (f := 120) rfl ?_); refine goesL_ (some 10) rfl rfl Tryd.func120 (by kernel_rfl) rfl #[.int .i64 (wrap64 (Int.tdiv t306 100))] rfl ZZ19826e ?_; (with_reducible refine (strconv_Itoa.calls (wrap64 (Int.tdiv t306 100)) t307 _ ?side1 A5.out).mono ?_); (case side1 => first | exact HV.out | exact TInv.below HV.out ZZ605003); rintro e w12 ⟨rfl, hb⟩; refine ⟨_, rfl, ?_⟩; have n0_ := Aside0.mk (below_step ZZ605003 hb); clear HB; have HB := n0_; clear n0_; (try clear hb); (try clear hb2); (try clear hk); (try clear hi)) | ((with_reducible refine gate_callee (f := 125) rfl ?_); refine goesL_ (some 14) rfl rfl Tryd.func125 (by kernel_rfl) rfl #[.int .i64 a0] rfl ZZ19826e ?_; (with_reducible refine (impl_size.calls a0 t308 _ A8.out).mono ?_); rintro e w13 ⟨rfl, hb⟩; refine ⟨_, rfl, ?_⟩; have n0_ := Aside0.mk (below_step ZZ605003 hb); clear HB; have HB := n0_; clear n0_; (try clear hb); (try clear hb2); (try clear hk); (try clear hi)) | ((with_reducible refine gate_callee (f := 124) rfl ?_); refine goesL_ (some 16) rfl rfl Tryd.func124 (by kernel_rfl) rfl #[.int .i64 (Int.tmod t308 100), .int .i64 2] rfl ZZ19826e ?_; (with_reducible refine (impl_padded.calls kj1 (Int.tmod t308 100) 2 t309 _ ?side1 A9.out).mono ?_); (case side1 => first | exact HV.out | exact TInv.below HV.out ZZ605003); rintro e w14 ⟨rfl, hb⟩; refine ⟨_, rfl, ?_⟩; have n0_ := Aside0.mk (below_step ZZ605003 hb); clear HB; have HB := n0_; clear n0_; (try clear hb); (try clear hb2); (try clear hk); (try clear hi)))
      go_ret
      exact ⟨by first | rfl | (simp [errW_none, errW_some] <;> rfl) | (simp [*, errW_none, errW_some] <;> rfl), by repeat (first | (with_reducible first | exact HB.out | apply below_alloc | apply pw_below_drewN | apply below_drew1) | exact HB.out)⟩
     ·rw [if_neg c10] at H
      exact absurd H (by simp)
    ·rw [if_neg c7] at H
     exact absurd H (by simp)
   ·rw [if_neg c6] at H
    exact absurd H (by simp)
/-! ### impl_FormatEntry: function 49 -/
mutual
def impl_FormatEntry.j0 : Nat → Int → Bool → List (S48) → List (S63) → Option (ByteArray × Bool)
 | 0, _, _, _, _ => none
 | k + 1, x1, x21, x311000, x311001 => if x21 = true then (some ((⟨#[]⟩ : ByteArray), false)) else (if 0 ≤ x1 then (if x1 < (x311001.length : Int) then ((impl_dateText.f k ((rd_T63 x311001 x1).f0)).bind fun t315 => (if t315.size + 1 ≤ 9223372036854775807 then (if t315.size + 1 + ((rd_T63 x311001 x1).f1).size ≤ 9223372036854775807 then (impl_FormatEntry.l0 k ((t315 ++ (⟨#[32]⟩ : ByteArray)) ++ ((rd_T63 x311001 x1).f1)) ((rd_T63 x311001 x1).f2) (((rd_T63 x311001 x1).f2).length : Int) 0 x311000 x311001) else (none)) else (none))) else (none)) else (none))
def impl_FormatEntry.l0 : Nat → ByteArray → List (S70) → Int → Int → List (S48) → List (S63) → Option (ByteArray × Bool)
 | 0, _, _, _, _, _, _ => none
 | k + 1, x7, x35, x36, x37, x311000, x311001 => if x37 < x36 then (if 0 ≤ x37 then (if x37 < (x35.length : Int) then (if 0 ≤ ((rd_T70 x35 x37).f0) then (if ((rd_T70 x35 x37).f0) < (x311000.length : Int) then (if 3 + ((rd_T48 x311000 ((rd_T70 x35 x37).f0)).f0).size ≤ 9223372036854775807 then (if 3 + ((rd_T48 x311000 ((rd_T70 x35 x37).f0)).f0).size + 1 ≤ 9223372036854775807 then ((impl_amountText.f k ((rd_T70 x35 x37).f1)).bind fun t319 => (if 3 + ((rd_T48 x311000 ((rd_T70 x35 x37).f0)).f0).size + 1 + t319.size ≤ 9223372036854775807 then (if x7.size + (3 + ((rd_T48 x311000 ((rd_T70 x35 x37).f0)).f0).size + 1 + t319.size) ≤ 9223372036854775807 then (impl_FormatEntry.l0 k (x7 ++ ((((⟨#[10, 32, 32]⟩ : ByteArray) ++ ((rd_T48 x311000 ((rd_T70 x35 x37).f0)).f0)) ++ (⟨#[32]⟩ : ByteArray)) ++ t319)) x35 x36 (wrap64 (x37 + 1)) x311000 x311001) else (none)) else (none))) else (none)) else (none)) else (none)) else (none)) else (none)) else (none)) else (some (x7, true))
end
def impl_FormatEntry.f (k : Nat) (l0_0 : List (S48)) (l0_1 : List (S63)) (a1 : Int) : Option (ByteArray × Bool) := (impl_IsValidLedger.f k l0_0 l0_1).bind fun t311 => (if t311 = true then ((impl_within.f a1 0 (wrap64 ((l0_1.length : Int) - 1))).bind fun t312 => (impl_FormatEntry.j0 k a1 (!t312) l0_0 l0_1)) else (impl_FormatEntry.j0 k a1 true l0_0 l0_1))
theorem impl_FormatEntry.mono_l : ∀ k, (∀ y0 y1 y2 y3, LeO (impl_FormatEntry.j0 k y0 y1 y2 y3) (impl_FormatEntry.j0 (k + 1) y0 y1 y2 y3)) ∧ (∀ y0 y1 y2 y3 y4 y5, LeO (impl_FormatEntry.l0 k y0 y1 y2 y3 y4 y5) (impl_FormatEntry.l0 (k + 1) y0 y1 y2 y3 y4 y5))
 | 0 => ⟨fun _ _ _ _ r h => by simp [impl_FormatEntry.j0] at h, fun _ _ _ _ _ _ r h => by simp [impl_FormatEntry.l0] at h⟩
 | k + 1 => by
  obtain ⟨ih0, ih1⟩ := impl_FormatEntry.mono_l k
  refine ⟨?_, ?_⟩
  ·intro y0 y1 y2 y3
   unfold impl_FormatEntry.j0
   repeat' first
   | (with_reducible exact ih0 _ _ _ _)
   | (with_reducible exact ih1 _ _ _ _ _ _)
   | (with_reducible exact impl_IsValidLedger.mono _ _ _)
   | (with_reducible exact impl_amountText.mono _ _)
   | (with_reducible exact impl_dateText.mono _ _)
   | (with_reducible exact LeO.refl _)
   | (with_reducible exact LeO.none _)
   | (with_reducible refine LeO.ite ?_ ?_)
   | (with_reducible refine LeO.bind ?_ (fun _ => ?_))
   | exact ih0 _ _ _ _
   | exact ih1 _ _ _ _ _ _
   | exact impl_IsValidLedger.mono _ _ _
   | exact impl_amountText.mono _ _
   | exact impl_dateText.mono _ _
   | exact LeO.none _
   | refine LeO.ite ?_ ?_
   | refine LeO.bind ?_ (fun _ => ?_)
  ·intro y0 y1 y2 y3 y4 y5
   unfold impl_FormatEntry.l0
   repeat' first
   | (with_reducible exact ih0 _ _ _ _)
   | (with_reducible exact ih1 _ _ _ _ _ _)
   | (with_reducible exact impl_IsValidLedger.mono _ _ _)
   | (with_reducible exact impl_amountText.mono _ _)
   | (with_reducible exact impl_dateText.mono _ _)
   | (with_reducible exact LeO.refl _)
   | (with_reducible exact LeO.none _)
   | (with_reducible refine LeO.ite ?_ ?_)
   | (with_reducible refine LeO.bind ?_ (fun _ => ?_))
   | exact ih0 _ _ _ _
   | exact ih1 _ _ _ _ _ _
   | exact impl_IsValidLedger.mono _ _ _
   | exact impl_amountText.mono _ _
   | exact impl_dateText.mono _ _
   | exact LeO.none _
   | refine LeO.ite ?_ ?_
   | refine LeO.bind ?_ (fun _ => ?_)
theorem impl_FormatEntry.mono : ∀ a0 a1 a2 k, LeO (impl_FormatEntry.f k a0 a1 a2) (impl_FormatEntry.f (k + 1) a0 a1 a2) := by
 intro a0 a1 a2 k
 obtain ⟨ih0, ih1⟩ := impl_FormatEntry.mono_l k
 unfold impl_FormatEntry.f
 repeat' first
  | (with_reducible exact ih0 _ _ _ _)
  | (with_reducible exact ih1 _ _ _ _ _ _)
  | (with_reducible exact impl_IsValidLedger.mono _ _ _)
  | (with_reducible exact impl_amountText.mono _ _)
  | (with_reducible exact impl_dateText.mono _ _)
  | (with_reducible exact LeO.refl _)
  | (with_reducible exact LeO.none _)
  | (with_reducible refine LeO.ite ?_ ?_)
  | (with_reducible refine LeO.bind ?_ (fun _ => ?_))
  | exact ih0 _ _ _ _
  | exact ih1 _ _ _ _ _ _
  | exact impl_IsValidLedger.mono _ _ _
  | exact impl_amountText.mono _ _
  | exact impl_dateText.mono _ _
  | exact LeO.none _
  | refine LeO.ite ?_ ?_
  | refine LeO.bind ?_ (fun _ => ?_)
def impl_FormatEntry.T4 : Bool × List (List Nat × List Nat) := (true, [([], []), ([0], [0]), ([1], [1]), ([2], [2]), ([], []), ([4], [4]), ([3, 5], [3, 5]), ([6, 2, 0, 1, 2, 3, 4, 5, 6], [6])])
def impl_FormatEntry.B4 : List Nat := [0, 1, 3, 7, 0, 16, 63, 127]
theorem impl_FormatEntry.tab4 : rtab .any (opsOf Tryd.f49 4) = impl_FormatEntry.T4 := by kernel_rfl
theorem impl_FormatEntry.bits4 : waitsOk impl_FormatEntry.T4.2 impl_FormatEntry.B4 = true := by kernel_rfl
def impl_FormatEntry.T8 : Bool × List (List Nat × List Nat) := (true, [([], []), ([], []), ([1], [1]), ([], []), ([3], [3]), ([2, 4], [2, 4]), ([5], [5]), ([6], [6]), ([7], [7]), ([8], [8]), ([], []), ([10], [10]), ([11], [11]), ([9, 12], [9, 12]), ([0, 13], [0, 13]), ([14, 12, 0, 1, 2, 3, 4, 5, 6, 7, 8, 9, 10, 11, 12, 13, 14], [0, 14])])
def impl_FormatEntry.B8 : List Nat := [0, 0, 2, 0, 8, 30, 62, 126, 254, 510, 0, 1024, 3072, 8190, 16383, 32767]
theorem impl_FormatEntry.tab8 : rtab .any (opsOf Tryd.f49 8) = impl_FormatEntry.T8 := by kernel_rfl
theorem impl_FormatEntry.bits8 : waitsOk impl_FormatEntry.T8.2 impl_FormatEntry.B8 = true := by kernel_rfl
set_option maxHeartbeats 8000000 in
set_option maxRecDepth 100000 in
theorem impl_FormatEntry.calls (k : Nat) (A0_0 : Option Addr) (c0_0 : Nat) (l0_0 : List (S48)) (A0_1 : Option Addr) (c0_1 : Nat) (l0_1 : List (S63)) (a1 : Int) (r1 : ByteArray) (r2 : Bool) (w : World) (hr0_0 : Kd.C k48 w A0_0 l0_0.length l0_0) (hc0_0 : l0_0.length ≤ c0_0) (hr0_1 : Kd.C k63 w A0_1 l0_1.length l0_1) (hc0_1 : l0_1.length ≤ c0_1) (hV : TInv w) (h : impl_FormatEntry.f k l0_0 l0_1 a1 = some (r1, r2)) :
 Calls Tryd.prog 49 #[.agg #[.slice A0_0 l0_0.length c0_0, .slice A0_1 l0_1.length c0_1], .int .i64 a1] w fun e w' => e = .returned (.tuple #[.string r1, .bool r2]) ∧ Below w.heap.size w w' := by
 have hu31 := Tryd.underlying31
 have hu63 := Tryd.underlying63
 have hu70 := Tryd.underlying70
 have HV := Aside0.mk hV
 clear hV
 have HR0_0 := Aside0.mk hr0_0
 have HC0_0 := Aside0.mk hc0_0
 clear hr0_0 hc0_0
 have HR0_1 := Aside0.mk hr0_1
 have HC0_1 := Aside0.mk hc0_1
 clear hr0_1 hc0_1
 have HB := Aside0.mk (Below.refl w.heap.size w)
 have H : ((impl_IsValidLedger.f k l0_0 l0_1).bind fun t311 => (if t311 = true then ((impl_within.f a1 0 (wrap64 ((l0_1.length : Int) - 1))).bind fun t312 => (impl_FormatEntry.j0 k a1 (!t312) l0_0 l0_1)) else (impl_FormatEntry.j0 k a1 true l0_0 l0_1))) = some (r1, r2) := h
 clear h
 have HC3 := Aside0.mk H
 clear H
 go_enter Tryd.func49, Tryd.ntmps49
 go_upto_region 1 with (first | ((with_reducible refine gate_dst (N := 2) rfl ?_); (try (refine gate_guard (by rfl) ?_; dsimp only)); refine box_event ?hg (N := 2) ?hd (cs := #[.slice A0_0 l0_0.length c0_0, .slice A0_1 l0_1.length c0_1]) (t := 31) ?hr ?_; (case hd => rfl); (case hg => rfl); (case hr => first | (go_simp; done) | (go_simp; rfl)); intro gb310 hg w4 hbox hb; have n0_ := Aside0.mk (below_step ZZ605003 hb); have n1_ := Aside0.mk (hbox); have n2_ := Aside0.mk ((by rw [hg]; exact (below_size ZZ605003) : w.heap.size ≤ gb310)); have n3_ := Aside0.mk ((by rw [hg]; exact (below_size ZZ605003) : w.heap.size ≤ gb310)); clear HB; have HB := n0_; have BK310 := n1_; have GW310 := n2_; have GE310 := n3_; clear n0_ n1_ n2_ n3_; clear hb hbox hg))
 (try simp only [Act.put, List.setIfInBounds_toArray, List.set_cons_zero, List.set_cons_succ])
 go_cut [21] (fun v21 wc => ∃ (kq : Nat) (x21_2 : Bool), v21 = .bool x21_2 ∧ Aside0 (impl_FormatEntry.j0 kq a1 x21_2 l0_0 l0_1 = some (r1, r2)) ∧ Aside0 (kq ≤ k) ∧ Aside0 (wc.heap[gb310]? = some (.cells #[(.slice A0_0 l0_0.length c0_0), (.slice A0_1 l0_1.length c0_1)] 31 (0, 0))) ∧ Aside0 (Below w.heap.size w wc))
 case first =>
  have H := HC3.out
  clear HC3
  replace H := Option.bind_eq_some_iff.mp H
  obtain ⟨t311, A50, H⟩ := H
  replace H : (if t311 = true then ((impl_within.f a1 0 (wrap64 ((l0_1.length : Int) - 1))).bind fun t312 => (impl_FormatEntry.j0 k a1 (!t312) l0_0 l0_1)) else (impl_FormatEntry.j0 k a1 true l0_0 l0_1)) = some (r1, r2) := H
  have A5 := Aside0.mk A50
  clear A50
  by_cases c6 : t311 = true
  ·subst c6
   have H1 : ((impl_within.f a1 0 (wrap64 ((l0_1.length : Int) - 1))).bind fun t312 => (impl_FormatEntry.j0 k a1 (!t312) l0_0 l0_1)) = some (r1, r2) := by rw [if_pos rfl] at H; exact H
   clear H
   have H := H1
   clear H1
   replace H := Option.bind_eq_some_iff.mp H
   obtain ⟨t312, A70, H⟩ := H
   replace H : (impl_FormatEntry.j0 k a1 (!t312) l0_0 l0_1) = some (r1, r2) := H
   have A7 := Aside0.mk A70
   clear A70
   have H' := Aside0.mk H
   clear H
   have hcz8_0 : w4.cell? ⟨gb310, 0, none⟩ = some (.slice A0_0 l0_0.length c0_0) := (blk_cell BK310.out 0).trans rfl
   have hcz8_1 : w4.cell? ⟨gb310, 1, none⟩ = some (.slice A0_1 l0_1.length c0_1) := (blk_cell BK310.out 1).trans rfl
   have hfz8_0 := blk_frozen BK310.out 0
   have hfz8_1 := blk_frozen BK310.out 1
   go_wp2_with (first | ((with_reducible refine gate_callee (f := 17) rfl ?_); refine goesL_ (some 11) rfl rfl Tryd.func17 (by kernel_rfl) rfl #[.agg #[.slice A0_0 l0_0.length c0_0, .slice A0_1 l0_1.length c0_1]] rfl ZZ19826e ?_; (with_reducible refine (impl_IsValidLedger.calls k _ _ l0_0 _ _ l0_1 true _ ?side1 ?side2 ?side3 ?side4 A5.out).mono ?_); (case side1 => repeat (first | exact (Kd.C_below HR0_0.out HB.out) | (with_reducible refine Kd.C_alloc ?_ _) | (with_reducible refine Kd.C_drewN ?_ _) | (with_reducible refine Kd.C_drew ?_))); (case side2 => exact HC0_0.out); (case side3 => repeat (first | exact (Kd.C_below HR0_1.out HB.out) | (with_reducible refine Kd.C_alloc ?_ _) | (with_reducible refine Kd.C_drewN ?_ _) | (with_reducible refine Kd.C_drew ?_))); (case side4 => exact HC0_1.out); rintro e w9 ⟨rfl, hb⟩; refine ⟨_, rfl, ?_⟩; have n0_ := Aside0.mk (blk_below (g := gb310) (o := .cells #[.slice A0_0 l0_0.length c0_0, .slice A0_1 l0_1.length c0_1] 31 (0, 0)) ZZc72dea hb); have n1_ := Aside0.mk (below_step ZZ1f17ff hb); clear BK310; clear HB; have BK310 := n0_; have HB := n1_; clear n0_ n1_; (try clear hb); (try clear hb2); (try clear hk); (try clear hi); have hcz10_0 : w9.cell? ⟨gb310, 0, none⟩ = some (.slice A0_0 l0_0.length c0_0) := (blk_cell BK310.out 0).trans rfl; have hcz10_1 : w9.cell? ⟨gb310, 1, none⟩ = some (.slice A0_1 l0_1.length c0_1) := (blk_cell BK310.out 1).trans rfl; have hfz10_0 := blk_frozen BK310.out 0; have hfz10_1 := blk_frozen BK310.out 1) | (go_at_call 56; (with_reducible refine (impl_within.calls a1 0 (wrap64 ((l0_1.length : Int) - 1)) t312 _ A7.out).mono ?_); rintro e w' ⟨rfl, ⟨nd, rfl⟩⟩))
   go_meet
   case rel => exact ⟨_, (!t312), ZZ0ab324, H', ⟨by first | omega | exact Nat.le_refl _⟩, ⟨by (with_reducible repeat (first | refine blk_drewN ?_ _ | refine blk_drew ?_ | refine blk_alloc ?_ _)); exact BK310.out⟩, ⟨by repeat (first | (with_reducible first | exact HB.out | apply below_alloc | apply pw_below_drewN | apply below_drew1 | refine below_set ?_ GE310.out) | exact HB.out)⟩⟩
  ·replace c6 := Bool.eq_false_iff.mpr c6
   subst c6
   have H1 : (impl_FormatEntry.j0 k a1 true l0_0 l0_1) = some (r1, r2) := by rw [if_neg (show ¬ (false = true) by decide)] at H; exact H
   clear H
   have H := H1
   clear H1
   have H' := Aside0.mk H
   clear H
   have hcz11_0 : w4.cell? ⟨gb310, 0, none⟩ = some (.slice A0_0 l0_0.length c0_0) := (blk_cell BK310.out 0).trans rfl
   have hcz11_1 : w4.cell? ⟨gb310, 1, none⟩ = some (.slice A0_1 l0_1.length c0_1) := (blk_cell BK310.out 1).trans rfl
   have hfz11_0 := blk_frozen BK310.out 0
   have hfz11_1 := blk_frozen BK310.out 1
   go_wp2_with (first | ((with_reducible refine gate_callee (f := 17) rfl ?_); refine goesL_ (some 11) rfl rfl Tryd.func17 (by kernel_rfl) rfl #[.agg #[.slice A0_0 l0_0.length c0_0, .slice A0_1 l0_1.length c0_1]] rfl ZZ19826e ?_; (with_reducible refine (impl_IsValidLedger.calls k _ _ l0_0 _ _ l0_1 false _ ?side1 ?side2 ?side3 ?side4 A5.out).mono ?_); (case side1 => repeat (first | exact (Kd.C_below HR0_0.out HB.out) | (with_reducible refine Kd.C_alloc ?_ _) | (with_reducible refine Kd.C_drewN ?_ _) | (with_reducible refine Kd.C_drew ?_))); (case side2 => exact HC0_0.out); (case side3 => repeat (first | exact (Kd.C_below HR0_1.out HB.out) | (with_reducible refine Kd.C_alloc ?_ _) | (with_reducible refine Kd.C_drewN ?_ _) | (with_reducible refine Kd.C_drew ?_))); (case side4 => exact HC0_1.out); rintro e w12 ⟨rfl, hb⟩; refine ⟨_, rfl, ?_⟩; have n0_ := Aside0.mk (blk_below (g := gb310) (o := .cells #[.slice A0_0 l0_0.length c0_0, .slice A0_1 l0_1.length c0_1] 31 (0, 0)) ZZc72dea hb); have n1_ := Aside0.mk (below_step ZZ1f17ff hb); clear BK310; clear HB; have BK310 := n0_; have HB := n1_; clear n0_ n1_; (try clear hb); (try clear hb2); (try clear hk); (try clear hi)))
   go_meet
   case rel => exact ⟨_, (true), ZZ0ab324, H', ⟨by first | omega | exact Nat.le_refl _⟩, ⟨by (with_reducible repeat (first | refine blk_drewN ?_ _ | refine blk_drew ?_ | refine blk_alloc ?_ _)); exact BK310.out⟩, ⟨by repeat (first | (with_reducible first | exact HB.out | apply below_alloc | apply pw_below_drewN | apply below_drew1 | refine below_set ?_ GE310.out) | exact HB.out)⟩⟩
 case rest =>
  clear HC3
  try clear c1
  try clear p2
  try clear c4
  try clear c6
  try clear p6
  try clear hcz10_0
  try clear hcz10_1
  try clear hcz11_0
  try clear hcz11_1
  try clear hcz8_0
  try clear hcz8_1
  try clear hfz10_0
  try clear hfz10_1
  try clear hfz11_0
  try clear hfz11_1
  try clear hfz8_0
  try clear hfz8_1
  obtain ⟨kq, x21_2, rfl, HA, HJ2, BK310, HB⟩ := hcut
  cases kq with
  | zero => exact absurd HA.out (by simp [impl_FormatEntry.j0])
  | succ kj2 =>
   have H := HA.out
   clear HA
   simp only [impl_FormatEntry.j0] at H
   by_cases c13 : x21_2 = true
   ·subst c13
    have H1 : (some ((⟨#[]⟩ : ByteArray), false)) = some (r1, r2) := by rw [if_pos rfl] at H; exact H
    clear H
    have H := H1
    clear H1
    simp only [Option.some.injEq, Prod.mk.injEq] at H
    obtain ⟨rfl, rfl⟩ := H
    go_wp2
    go_ret2
    exact ⟨by first | rfl | (simp [errW_none, errW_some] <;> rfl) | (simp [*, errW_none, errW_some] <;> rfl), by repeat (first | (with_reducible first | exact HB.out | apply below_alloc | apply pw_below_drewN | apply below_drew1 | refine below_set ?_ GE310.out) | exact HB.out)⟩
   ·replace c13 := Bool.eq_false_iff.mpr c13
    subst c13
    have H1 : (if 0 ≤ a1 then (if a1 < (l0_1.length : Int) then ((impl_dateText.f kj2 ((rd_T63 l0_1 a1).f0)).bind fun t315 => (if t315.size + 1 ≤ 9223372036854775807 then (if t315.size + 1 + ((rd_T63 l0_1 a1).f1).size ≤ 9223372036854775807 then (impl_FormatEntry.l0 kj2 ((t315 ++ (⟨#[32]⟩ : ByteArray)) ++ ((rd_T63 l0_1 a1).f1)) ((rd_T63 l0_1 a1).f2) (((rd_T63 l0_1 a1).f2).length : Int) 0 l0_0 l0_1) else (none)) else (none))) else (none)) else (none)) = some (r1, r2) := by rw [if_neg (show ¬ (false = true) by decide)] at H; exact H
    clear H
    have H := H1
    clear H1
    by_cases c14 : 0 ≤ a1
    ·rw [if_pos c14] at H
     have c14b0 : decide (0 ≤ a1) = true := decide_eq_true c14
     clear c14
     by_cases c15 : a1 < (l0_1.length : Int)
     ·rw [if_pos c15] at H
      have c15b0 : decide (a1 < (l0_1.length : Int)) = true := decide_eq_true c15
      clear c15
      replace H := Option.bind_eq_some_iff.mp H
      obtain ⟨t315, A160, H⟩ := H
      replace H : (if t315.size + 1 ≤ 9223372036854775807 then (if t315.size + 1 + ((rd_T63 l0_1 a1).f1).size ≤ 9223372036854775807 then (impl_FormatEntry.l0 kj2 ((t315 ++ (⟨#[32]⟩ : ByteArray)) ++ ((rd_T63 l0_1 a1).f1)) ((rd_T63 l0_1 a1).f2) (((rd_T63 l0_1 a1).f2).length : Int) 0 l0_0 l0_1) else (none)) else (none)) = some (r1, r2) := H
      have A16 := Aside0.mk A160
      clear A160
      by_cases c17 : t315.size + 1 ≤ 9223372036854775807
      ·rw [if_pos c17] at H
       have c17b0 := eq_true c17
       have c17b1 : decide (t315.size + 1 ≤ 9223372036854775807) = true := decide_eq_true c17
       try have c17b2 : (9223372036854775807 < t315.size + 1) = False := eq_false (Nat.not_lt.2 c17)
       by_cases c18 : t315.size + 1 + ((rd_T63 l0_1 a1).f1).size ≤ 9223372036854775807
       ·rw [if_pos c18] at H
        have c18b0 := eq_true c18
        have c18b1 : decide (t315.size + 1 + ((rd_T63 l0_1 a1).f1).size ≤ 9223372036854775807) = true := decide_eq_true c18
        try have c18b2 : (9223372036854775807 < t315.size + 1 + ((rd_T63 l0_1 a1).f1).size) = False := eq_false (Nat.not_lt.2 c18)
        have H' := Aside0.mk H
        clear H
        have hcz19_0 : wc.cell? ⟨gb310, 0, none⟩ = some (.slice A0_0 l0_0.length c0_0) := (blk_cell BK310.out 0).trans rfl
        have hcz19_1 : wc.cell? ⟨gb310, 1, none⟩ = some (.slice A0_1 l0_1.length c0_1) := (blk_cell BK310.out 1).trans rfl
        have hfz19_0 := blk_frozen BK310.out 0
        have hfz19_1 := blk_frozen BK310.out 1
        have p313 : 0 ≤ (a1 : Int) := of_decide_eq_true ZZ853400
        have q313 : a1 < (l0_1.length : Int) := of_decide_eq_true ZZ853400
        obtain ⟨ad313, A313_2, c313_2, e313, hx313_0, hx313_1, hx313_2, hl313_2, hi313_2⟩ := at_T63 HR0_1.out a1 p313 q313
        cases e313
        replace hx313_0 := (HB.out.cell (World.block_lt_of_cell? w _ hx313_0)).trans hx313_0
        replace hx313_1 := (HB.out.cell (World.block_lt_of_cell? w _ hx313_1)).trans hx313_1
        replace hx313_2 := (HB.out.cell (World.block_lt_of_cell? w _ hx313_2)).trans hx313_2
        have HR313_2 := Aside0.mk hi313_2
        have HC313_2 := Aside0.mk hl313_2
        clear hi313_2 hl313_2
        replace p313 := eq_true p313
        replace q313 := eq_true q313
        try go_wp2_with (first | ((with_reducible refine gate_dst (N := 6) rfl ?_); (try (refine gate_guard (by rfl) ?_; dsimp only)); refine box_event ?hg (N := 6) ?hd (cs := #[.int .i64 0, .string (⟨#[]⟩ : ByteArray), .slice none 0 0]) (t := 63) ?hr ?_; (case hd => rfl); (case hg => rfl); (case hr => first | (go_simp; done) | (go_simp; rfl)); intro gb314 hg w20 hbox hb; have n0_ := Aside0.mk (blk_below (g := gb310) (o := .cells #[.slice A0_0 l0_0.length c0_0, .slice (some ad313) l0_1.length c0_1] 31 (0, 0)) ZZc72dea hb); have n1_ := Aside0.mk (below_step ZZ1f17ff hb); have n2_ := Aside0.mk (hbox); have n3_ := Aside0.mk ((by rw [hg]; exact (below_size ZZ1f17ff) : w.heap.size ≤ gb314)); have n4_ := Aside0.mk ((by rw [hg]; exact (below_size ZZ1f17ff) : w.heap.size ≤ gb314)); have n5_ := Aside0.mk ((by rw [hg]; exact Nat.ne_of_lt (blk_lt (g := gb310) (o := .cells #[.slice A0_0 l0_0.length c0_0, .slice (some ad313) l0_1.length c0_1] 31 (0, 0)) ZZc72dea) : gb310 ≠ gb314)); have n6_ := Aside0.mk ((by rw [hg]; exact Nat.ne_of_gt (blk_lt (g := gb310) (o := .cells #[.slice A0_0 l0_0.length c0_0, .slice (some ad313) l0_1.length c0_1] 31 (0, 0)) ZZc72dea) : gb314 ≠ gb310)); clear BK310; clear HB; have BK310 := n0_; have HB := n1_; have BK314 := n2_; have GW314 := n3_; have GE314 := n4_; have NB310_314 := n5_; have NB314_310 := n6_; clear n0_ n1_ n2_ n3_ n4_ n5_ n6_; clear hb hbox hg; have hnb21 := NB314_310.out; have hnc21 := NB310_314.out; have hcz22_0 : w20.cell? ⟨gb314, 0, none⟩ = some (.int .i64 0) := (blk_cell BK314.out 0).trans rfl; have hcz22_1 : w20.cell? ⟨gb314, 1, none⟩ = some (.string (⟨#[]⟩ : ByteArray)) := (blk_cell BK314.out 1).trans rfl; have hcz22_2 : w20.cell? ⟨gb314, 2, none⟩ = some (.slice none 0 0) := (blk_cell BK314.out 2).trans rfl; have hfz22_0 := blk_frozen BK314.out 0; have hfz22_1 := blk_frozen BK314.out 1; have hfz22_2 := blk_frozen BK314.out 2))
        have n0_ : Aside0 ((((w20.setCell ⟨gb314, 0, none⟩ (.int .i64 ((rd_T63 l0_1 a1).f0))).setCell ⟨gb314, 1, none⟩ (.string ((rd_T63 l0_1 a1).f1))).setCell ⟨gb314, 2, none⟩ (.slice A313_2 ((rd_T63 l0_1 a1).f2).length c313_2)).heap[gb310]? = some (.cells #[.slice A0_0 l0_0.length c0_0, .slice (some ad313) l0_1.length c0_1] 31 (0, 0))) := ⟨by (with_reducible repeat (first | refine blk_drewN ?_ _ | refine blk_drew ?_ | refine blk_alloc ?_ _)); refine blk_far ?_ NB310_314.out _; (with_reducible repeat (first | refine blk_drewN ?_ _ | refine blk_drew ?_ | refine blk_alloc ?_ _)); refine blk_far ?_ NB310_314.out _; (with_reducible repeat (first | refine blk_drewN ?_ _ | refine blk_drew ?_ | refine blk_alloc ?_ _)); refine blk_far ?_ NB310_314.out _; (with_reducible repeat (first | refine blk_drewN ?_ _ | refine blk_drew ?_ | refine blk_alloc ?_ _)); exact BK310.out⟩
        have n1_ : Aside0 ((((w20.setCell ⟨gb314, 0, none⟩ (.int .i64 ((rd_T63 l0_1 a1).f0))).setCell ⟨gb314, 1, none⟩ (.string ((rd_T63 l0_1 a1).f1))).setCell ⟨gb314, 2, none⟩ (.slice A313_2 ((rd_T63 l0_1 a1).f2).length c313_2)).heap[gb314]? = some (.cells #[.int .i64 ((rd_T63 l0_1 a1).f0), .string ((rd_T63 l0_1 a1).f1), .slice A313_2 ((rd_T63 l0_1 a1).f2).length c313_2] 63 (0, 0))) := ⟨by (with_reducible repeat (first | refine blk_drewN ?_ _ | refine blk_drew ?_ | refine blk_alloc ?_ _)); refine blk_put (cs := #[.int .i64 ((rd_T63 l0_1 a1).f0), .string ((rd_T63 l0_1 a1).f1), .slice none 0 0]) ?_ 2 _ rfl; (with_reducible repeat (first | refine blk_drewN ?_ _ | refine blk_drew ?_ | refine blk_alloc ?_ _)); refine blk_put (cs := #[.int .i64 ((rd_T63 l0_1 a1).f0), .string (⟨#[]⟩ : ByteArray), .slice none 0 0]) ?_ 1 _ rfl; (with_reducible repeat (first | refine blk_drewN ?_ _ | refine blk_drew ?_ | refine blk_alloc ?_ _)); refine blk_put (cs := #[.int .i64 0, .string (⟨#[]⟩ : ByteArray), .slice none 0 0]) ?_ 0 _ rfl; (with_reducible repeat (first | refine blk_drewN ?_ _ | refine blk_drew ?_ | refine blk_alloc ?_ _)); exact BK314.out⟩
        have n2_ : Aside0 (Below w.heap.size w (((w20.setCell ⟨gb314, 0, none⟩ (.int .i64 ((rd_T63 l0_1 a1).f0))).setCell ⟨gb314, 1, none⟩ (.string ((rd_T63 l0_1 a1).f1))).setCell ⟨gb314, 2, none⟩ (.slice A313_2 ((rd_T63 l0_1 a1).f2).length c313_2))) := ⟨by repeat (first | (with_reducible first | exact HB.out | apply below_alloc | apply pw_below_drewN | apply below_drew1 | refine below_set ?_ GE310.out | refine below_set ?_ GE314.out) | exact HB.out)⟩
        (try clear BK310)
        (try clear BK314)
        (try clear HB)
        generalize (((w20.setCell ⟨gb314, 0, none⟩ (.int .i64 ((rd_T63 l0_1 a1).f0))).setCell ⟨gb314, 1, none⟩ (.string ((rd_T63 l0_1 a1).f1))).setCell ⟨gb314, 2, none⟩ (.slice A313_2 ((rd_T63 l0_1 a1).f2).length c313_2)) = w23 at n0_ n1_ n2_ ⊢
        have BK310 := n0_
        have BK314 := n1_
        have HB := n2_
        clear n0_ n1_ n2_
        have n0_ := Aside0.mk (blk_drew BK310.out)
        have n1_ := Aside0.mk (blk_drew BK314.out)
        have n2_ := Aside0.mk (below_drew1 HB.out)
        clear BK310
        clear BK314
        clear HB
        have BK310 := n0_
        have BK314 := n1_
        have HB := n2_
        clear n0_ n1_ n2_
        refine start_ (n := 8) (S := fun w' => w'.cell? ⟨gb314, 0, none⟩ = some (.int .i64 ((rd_T63 l0_1 a1).f0)) ∧ w'.cell? ⟨gb314, 1, none⟩ = some (.string ((rd_T63 l0_1 a1).f1)) ∧ w'.cell? ⟨gb314, 2, none⟩ = some (.slice A313_2 ((rd_T63 l0_1 a1).f2).length c313_2)) (ds := []) #[false, false, false, false, false, false, false, false] (by kernel_rfl) rfl rfl ⟨(blk_cell BK314.out 0).trans rfl, (blk_cell BK314.out 1).trans rfl, (blk_cell BK314.out 2).trans rfl⟩ (fun hHeld => ?_); refine with_tabW impl_FormatEntry.tab4 impl_FormatEntry.bits4 (fun HT_ HW_ => ?_)
        generalize w23.drew = w24 at BK310 BK314 HB hHeld ⊢
        refine pu 0 27 ?_
        refine pu 4 31 ?_
        refine tk 1 28 ?_
        refine tk 5 32 ?_
        refine one_ (i := 2) (N := some 29) #[true, true, true, false, true, true, false, false] rfl rfl (one_of HT_.out (by kernel_rfl)) (by decide) (fun K hK => ?_)
        refine goes_ Tryd.func98 (by kernel_rfl) rfl #[.int .i64 ((rd_T63 l0_1 a1).f0)] (by rfl) rfl rfl ZZ19826e ?_
        with_reducible refine (impl_dateText.calls kj2 ((rd_T63 l0_1 a1).f0) t315 _ ?side1 A16.out).mono ?_
        (case side1 => first | exact HV.out | exact TInv.below HV.out ZZd33ee0)
        rintro e w25 ⟨rfl, hb⟩
        refine ⟨_, rfl, ?_⟩
        have n0_ := Aside0.mk (blk_below (g := gb310) (o := .cells #[.slice A0_0 l0_0.length c0_0, .slice (some ad313) l0_1.length c0_1] 31 (0, 0)) ZZc72dea hb)
        have n1_ := Aside0.mk (blk_below (g := gb314) (o := .cells #[.int .i64 ((rd_T63 l0_1 a1).f0), .string ((rd_T63 l0_1 a1).f1), .slice A313_2 ((rd_T63 l0_1 a1).f2).length c313_2] 63 (0, 0)) (by (with_reducible repeat (first | refine blk_drewN ?_ _ | refine blk_drew ?_ | refine blk_alloc ?_ _)); exact BK314.out) hb)
        have n2_ := Aside0.mk (below_step ZZd33ee0 hb)
        clear BK310
        clear BK314
        clear HB
        have BK310 := n0_
        have BK314 := n1_
        have HB := n2_
        clear n0_ n1_ n2_
        (try clear hb)
        (try clear hb2)
        (try clear hk)
        (try clear hi)
        refine hK.out _ _ ⟨(blk_cell BK314.out 0).trans rfl, (blk_cell BK314.out 1).trans rfl, (blk_cell BK314.out 2).trans rfl⟩ (fun hHeld => ?_)
        clear hK K
        refine norm_ (a' := ?_) ?_ ?_
        rotate_left
        ·show Act.put _ (some 29) _ = _
         simp only [Act.put, List.setIfInBounds_toArray, List.set_cons_zero, List.set_cons_succ, i64_w, i32_w]
         rfl
        refine pu 3 30 ?_
        refine pu 6 33 ?_
        refine pu 7 7 ?_
        refine done_ (done_of HT_.out (by kernel_rfl)) ?_
        have hcz26_0 : w25.cell? ⟨gb314, 0, none⟩ = some (.int .i64 ((rd_T63 l0_1 a1).f0)) := (blk_cell BK314.out 0).trans rfl
        have hcz26_1 : w25.cell? ⟨gb314, 1, none⟩ = some (.string ((rd_T63 l0_1 a1).f1)) := (blk_cell BK314.out 1).trans rfl
        have hcz26_2 : w25.cell? ⟨gb314, 2, none⟩ = some (.slice A313_2 ((rd_T63 l0_1 a1).f2).length c313_2) := (blk_cell BK314.out 2).trans rfl
        have hfz26_0 := blk_frozen BK314.out 0
        have hfz26_1 := blk_frozen BK314.out 1
        have hfz26_2 := blk_frozen BK314.out 2
        try go_wp2
        go_loopg [7, 37] kj2 (fun kq v7 v37 w' => ∃ (x7_2 : ByteArray) (x37_2 : Int), v7 = .string x7_2 ∧ v37 = .int .i64 x37_2 ∧ Aside0 (impl_FormatEntry.l0 kq x7_2 ((rd_T63 l0_1 a1).f2) (((rd_T63 l0_1 a1).f2).length : Int) x37_2 l0_0 l0_1 = some (r1, r2)) ∧ Aside0 (kq ≤ kj2) ∧ Aside0 (w'.heap[gb310]? = some (.cells #[(.slice A0_0 l0_0.length c0_0), (.slice (some ad313) l0_1.length c0_1)] 31 (0, 0))) ∧ Aside0 (w'.heap[gb314]? = some (.cells #[.int .i64 ((rd_T63 l0_1 a1).f0), .string ((rd_T63 l0_1 a1).f1), (.slice A313_2 ((rd_T63 l0_1 a1).f2).length c313_2)] 63 (0, 0))) ∧ Aside0 (Below w.heap.size w w'))
        case atStart => exact ⟨((t315 ++ (⟨#[32]⟩ : ByteArray)) ++ ((rd_T63 l0_1 a1).f1)), (0), ZZ0ab324, ZZ0ab324, H', ⟨Nat.le_refl _⟩, ⟨by (with_reducible repeat (first | refine blk_drewN ?_ _ | refine blk_drew ?_ | refine blk_alloc ?_ _)); exact BK310.out⟩, ⟨by (with_reducible repeat (first | refine blk_drewN ?_ _ | refine blk_drew ?_ | refine blk_alloc ?_ _)); exact BK314.out⟩, ⟨by repeat (first | (with_reducible first | exact HB.out | apply below_alloc | apply pw_below_drewN | apply below_drew1 | refine below_set ?_ GE310.out | refine below_set ?_ GE314.out) | exact HB.out)⟩⟩
        case round =>
         clear H'
         try clear c1
         try clear c2
         try clear p2
         try clear c3
         try clear p3
         try clear q3
         try clear hx3
         try clear c4
         try clear c6
         try clear p6
         try clear c9
         try clear c13
         try clear c14
         try clear c14b0
         try clear c15
         try clear c15b0
         try clear c17
         try clear c17b0
         try clear c17b1
         try clear c17b2
         try clear c18
         try clear c18b0
         try clear c18b1
         try clear c18b2
         try clear c21
         try clear hcz10_0
         try clear hcz10_1
         try clear hcz11_0
         try clear hcz11_1
         try clear hcz19_0
         try clear hcz19_1
         try clear hcz22_0
         try clear hcz22_1
         try clear hcz22_2
         try clear hcz26_0
         try clear hcz26_1
         try clear hcz26_2
         try clear hcz8_0
         try clear hcz8_1
         try clear hfz10_0
         try clear hfz10_1
         try clear hfz11_0
         try clear hfz11_1
         try clear hfz19_0
         try clear hfz19_1
         try clear hfz22_0
         try clear hfz22_1
         try clear hfz22_2
         try clear hfz26_0
         try clear hfz26_1
         try clear hfz26_2
         try clear hfz8_0
         try clear hfz8_1
         try clear hx313_0
         try clear hx313_1
         try clear hx313_2
         try clear p2
         try clear p313
         try clear p6
         try clear q313
         obtain ⟨x7_2, x37_2, rfl, rfl, HA, HK2, BK310, BK314, HB⟩ := hrel
         cases gk with
         | zero => exact absurd HA.out (by simp [impl_FormatEntry.l0])
         | succ k2 =>
          have H := HA.out
          clear HA
          simp only [impl_FormatEntry.l0] at H
          by_cases c27 : x37_2 < (((rd_T63 l0_1 a1).f2).length : Int)
          ·rw [if_pos c27] at H
           have c27b0 : decide (x37_2 < (((rd_T63 l0_1 a1).f2).length : Int)) = true := decide_eq_true c27
           clear c27
           by_cases c28 : 0 ≤ x37_2
           ·rw [if_pos c28] at H
            have c28b0 : decide (0 ≤ x37_2) = true := decide_eq_true c28
            clear c28
            by_cases c29 : x37_2 < (((rd_T63 l0_1 a1).f2).length : Int)
            ·rw [if_pos c29] at H
             have c29b0 : decide (x37_2 < (((rd_T63 l0_1 a1).f2).length : Int)) = true := decide_eq_true c29
             clear c29
             by_cases c30 : 0 ≤ ((rd_T70 ((rd_T63 l0_1 a1).f2) x37_2).f0)
             ·rw [if_pos c30] at H
              have c30b0 : decide (0 ≤ ((rd_T70 ((rd_T63 l0_1 a1).f2) x37_2).f0)) = true := decide_eq_true c30
              clear c30
              by_cases c31 : ((rd_T70 ((rd_T63 l0_1 a1).f2) x37_2).f0) < (l0_0.length : Int)
              ·rw [if_pos c31] at H
               have c31b0 : decide (((rd_T70 ((rd_T63 l0_1 a1).f2) x37_2).f0) < (l0_0.length : Int)) = true := decide_eq_true c31
               clear c31
               by_cases c32 : 3 + ((rd_T48 l0_0 ((rd_T70 ((rd_T63 l0_1 a1).f2) x37_2).f0)).f0).size ≤ 9223372036854775807
               ·rw [if_pos c32] at H
                have c32b0 := eq_true c32
                have c32b1 : decide (3 + ((rd_T48 l0_0 ((rd_T70 ((rd_T63 l0_1 a1).f2) x37_2).f0)).f0).size ≤ 9223372036854775807) = true := decide_eq_true c32
                try have c32b2 : (9223372036854775807 < 3 + ((rd_T48 l0_0 ((rd_T70 ((rd_T63 l0_1 a1).f2) x37_2).f0)).f0).size) = False := eq_false (Nat.not_lt.2 c32)
                by_cases c33 : 3 + ((rd_T48 l0_0 ((rd_T70 ((rd_T63 l0_1 a1).f2) x37_2).f0)).f0).size + 1 ≤ 9223372036854775807
                ·rw [if_pos c33] at H
                 have c33b0 := eq_true c33
                 have c33b1 : decide (3 + ((rd_T48 l0_0 ((rd_T70 ((rd_T63 l0_1 a1).f2) x37_2).f0)).f0).size + 1 ≤ 9223372036854775807) = true := decide_eq_true c33
                 try have c33b2 : (9223372036854775807 < 3 + ((rd_T48 l0_0 ((rd_T70 ((rd_T63 l0_1 a1).f2) x37_2).f0)).f0).size + 1) = False := eq_false (Nat.not_lt.2 c33)
                 replace H := Option.bind_eq_some_iff.mp H
                 obtain ⟨t319, A340, H⟩ := H
                 replace H : (if 3 + ((rd_T48 l0_0 ((rd_T70 ((rd_T63 l0_1 a1).f2) x37_2).f0)).f0).size + 1 + t319.size ≤ 9223372036854775807 then (if x7_2.size + (3 + ((rd_T48 l0_0 ((rd_T70 ((rd_T63 l0_1 a1).f2) x37_2).f0)).f0).size + 1 + t319.size) ≤ 9223372036854775807 then (impl_FormatEntry.l0 k2 (x7_2 ++ ((((⟨#[10, 32, 32]⟩ : ByteArray) ++ ((rd_T48 l0_0 ((rd_T70 ((rd_T63 l0_1 a1).f2) x37_2).f0)).f0)) ++ (⟨#[32]⟩ : ByteArray)) ++ t319)) ((rd_T63 l0_1 a1).f2) (((rd_T63 l0_1 a1).f2).length : Int) (wrap64 (x37_2 + 1)) l0_0 l0_1) else (none)) else (none)) = some (r1, r2) := H
                 have A34 := Aside0.mk A340
                 clear A340
                 by_cases c35 : 3 + ((rd_T48 l0_0 ((rd_T70 ((rd_T63 l0_1 a1).f2) x37_2).f0)).f0).size + 1 + t319.size ≤ 9223372036854775807
                 ·rw [if_pos c35] at H
                  have c35b0 := eq_true c35
                  have c35b1 : decide (3 + ((rd_T48 l0_0 ((rd_T70 ((rd_T63 l0_1 a1).f2) x37_2).f0)).f0).size + 1 + t319.size ≤ 9223372036854775807) = true := decide_eq_true c35
                  try have c35b2 : (9223372036854775807 < 3 + ((rd_T48 l0_0 ((rd_T70 ((rd_T63 l0_1 a1).f2) x37_2).f0)).f0).size + 1 + t319.size) = False := eq_false (Nat.not_lt.2 c35)
                  by_cases c36 : x7_2.size + (3 + ((rd_T48 l0_0 ((rd_T70 ((rd_T63 l0_1 a1).f2) x37_2).f0)).f0).size + 1 + t319.size) ≤ 9223372036854775807
                  ·rw [if_pos c36] at H
                   have c36b0 := eq_true c36
                   have c36b1 : decide (x7_2.size + (3 + ((rd_T48 l0_0 ((rd_T70 ((rd_T63 l0_1 a1).f2) x37_2).f0)).f0).size + 1 + t319.size) ≤ 9223372036854775807) = true := decide_eq_true c36
                   try have c36b2 : (9223372036854775807 < x7_2.size + (3 + ((rd_T48 l0_0 ((rd_T70 ((rd_T63 l0_1 a1).f2) x37_2).f0)).f0).size + 1 + t319.size)) = False := eq_false (Nat.not_lt.2 c36)
                   have H' := Aside0.mk H
                   clear H
                   have p316 : 0 ≤ (x37_2 : Int) := of_decide_eq_true ZZ853400
                   have q316 : x37_2 < (((rd_T63 l0_1 a1).f2).length : Int) := of_decide_eq_true ZZ853400
                   obtain ⟨ad316, e316, hx316_0, hx316_1⟩ := at_T70 HR313_2.out x37_2 p316 q316
                   cases e316
                   replace hx316_0 := (HB.out.cell (World.block_lt_of_cell? w _ hx316_0)).trans hx316_0
                   replace hx316_1 := (HB.out.cell (World.block_lt_of_cell? w _ hx316_1)).trans hx316_1
                   replace p316 := eq_true p316
                   replace q316 := eq_true q316
                   try go_wp2_with (first | ((with_reducible refine gate_dst (N := 9) rfl ?_); (try (refine gate_guard (by rfl) ?_; dsimp only)); refine box_event ?hg (N := 9) ?hd (cs := #[.int .i64 0, .int .i64 0]) (t := 70) ?hr ?_; (case hd => rfl); (case hg => rfl); (case hr => first | (go_simp; done) | (go_simp; rfl)); intro gb317 hg w37 hbox hb; have n0_ := Aside0.mk (blk_below (g := gb310) (o := .cells #[.slice A0_0 l0_0.length c0_0, .slice (some ad313) l0_1.length c0_1] 31 (0, 0)) ZZc72dea hb); have n1_ := Aside0.mk (blk_below (g := gb314) (o := .cells #[.int .i64 ((rd_T63 l0_1 a1).f0), .string ((rd_T63 l0_1 a1).f1), .slice (some ad316) ((rd_T63 l0_1 a1).f2).length c313_2] 63 (0, 0)) (by (with_reducible repeat (first | refine blk_drewN ?_ _ | refine blk_drew ?_ | refine blk_alloc ?_ _)); exact BK314.out) hb); have n2_ := Aside0.mk (below_step ZZd33ee0 hb); have n3_ := Aside0.mk (hbox); have n4_ := Aside0.mk ((by rw [hg]; exact (below_size ZZd33ee0) : w.heap.size ≤ gb317)); have n5_ := Aside0.mk ((by rw [hg]; exact (below_size ZZd33ee0) : w.heap.size ≤ gb317)); have n6_ := Aside0.mk ((by rw [hg]; exact Nat.ne_of_lt (blk_lt (g := gb310) (o := .cells #[.slice A0_0 l0_0.length c0_0, .slice (some ad313) l0_1.length c0_1] 31 (0, 0)) ZZc72dea) : gb310 ≠ gb317)); have n7_ := Aside0.mk ((by rw [hg]; exact Nat.ne_of_gt (blk_lt (g := gb310) (o := .cells #[.slice A0_0 l0_0.length c0_0, .slice (some ad313) l0_1.length c0_1] 31 (0, 0)) ZZc72dea) : gb317 ≠ gb310)); have n8_ := Aside0.mk ((by rw [hg]; exact Nat.ne_of_lt (blk_lt (g := gb314) (o := .cells #[.int .i64 ((rd_T63 l0_1 a1).f0), .string ((rd_T63 l0_1 a1).f1), .slice (some ad316) ((rd_T63 l0_1 a1).f2).length c313_2] 63 (0, 0)) (by (with_reducible repeat (first | refine blk_drewN ?_ _ | refine blk_drew ?_ | refine blk_alloc ?_ _)); exact BK314.out)) : gb314 ≠ gb317)); have n9_ := Aside0.mk ((by rw [hg]; exact Nat.ne_of_gt (blk_lt (g := gb314) (o := .cells #[.int .i64 ((rd_T63 l0_1 a1).f0), .string ((rd_T63 l0_1 a1).f1), .slice (some ad316) ((rd_T63 l0_1 a1).f2).length c313_2] 63 (0, 0)) (by (with_reducible repeat (first | refine blk_drewN ?_ _ | refine blk_drew ?_ | refine blk_alloc ?_ _)); exact BK314.out)) : gb317 ≠ gb314)); clear BK310; clear BK314; clear HB; have BK310 := n0_; have BK314 := n1_; have HB := n2_; have BK317 := n3_; have GW317 := n4_; have GE317 := n5_; have NB310_317 := n6_; have NB317_310 := n7_; have NB314_317 := n8_; have NB317_314 := n9_; clear n0_ n1_ n2_ n3_ n4_ n5_ n6_ n7_ n8_ n9_; clear hb hbox hg; have hnb38 := NB317_310.out; have hnc38 := NB310_317.out; have hnb39 := NB317_314.out; have hnc39 := NB314_317.out; have hcz40_0 : w37.cell? ⟨gb317, 0, none⟩ = some (.int .i64 0) := (blk_cell BK317.out 0).trans rfl; have hcz40_1 : w37.cell? ⟨gb317, 1, none⟩ = some (.int .i64 0) := (blk_cell BK317.out 1).trans rfl; have hfz40_0 := blk_frozen BK317.out 0; have hfz40_1 := blk_frozen BK317.out 1))
                   have n0_ : Aside0 (((w37.setCell ⟨gb317, 0, none⟩ (.int .i64 ((rd_T70 ((rd_T63 l0_1 a1).f2) x37_2).f0))).setCell ⟨gb317, 1, none⟩ (.int .i64 ((rd_T70 ((rd_T63 l0_1 a1).f2) x37_2).f1))).heap[gb310]? = some (.cells #[.slice A0_0 l0_0.length c0_0, .slice (some ad313) l0_1.length c0_1] 31 (0, 0))) := ⟨by (with_reducible repeat (first | refine blk_drewN ?_ _ | refine blk_drew ?_ | refine blk_alloc ?_ _)); refine blk_far ?_ NB310_317.out _; (with_reducible repeat (first | refine blk_drewN ?_ _ | refine blk_drew ?_ | refine blk_alloc ?_ _)); refine blk_far ?_ NB310_317.out _; (with_reducible repeat (first | refine blk_drewN ?_ _ | refine blk_drew ?_ | refine blk_alloc ?_ _)); exact BK310.out⟩
                   have n1_ : Aside0 (((w37.setCell ⟨gb317, 0, none⟩ (.int .i64 ((rd_T70 ((rd_T63 l0_1 a1).f2) x37_2).f0))).setCell ⟨gb317, 1, none⟩ (.int .i64 ((rd_T70 ((rd_T63 l0_1 a1).f2) x37_2).f1))).heap[gb314]? = some (.cells #[.int .i64 ((rd_T63 l0_1 a1).f0), .string ((rd_T63 l0_1 a1).f1), .slice (some ad316) ((rd_T63 l0_1 a1).f2).length c313_2] 63 (0, 0))) := ⟨by (with_reducible repeat (first | refine blk_drewN ?_ _ | refine blk_drew ?_ | refine blk_alloc ?_ _)); refine blk_far ?_ NB314_317.out _; (with_reducible repeat (first | refine blk_drewN ?_ _ | refine blk_drew ?_ | refine blk_alloc ?_ _)); refine blk_far ?_ NB314_317.out _; (with_reducible repeat (first | refine blk_drewN ?_ _ | refine blk_drew ?_ | refine blk_alloc ?_ _)); exact BK314.out⟩
                   have n2_ : Aside0 (((w37.setCell ⟨gb317, 0, none⟩ (.int .i64 ((rd_T70 ((rd_T63 l0_1 a1).f2) x37_2).f0))).setCell ⟨gb317, 1, none⟩ (.int .i64 ((rd_T70 ((rd_T63 l0_1 a1).f2) x37_2).f1))).heap[gb317]? = some (.cells #[.int .i64 ((rd_T70 ((rd_T63 l0_1 a1).f2) x37_2).f0), .int .i64 ((rd_T70 ((rd_T63 l0_1 a1).f2) x37_2).f1)] 70 (0, 0))) := ⟨by (with_reducible repeat (first | refine blk_drewN ?_ _ | refine blk_drew ?_ | refine blk_alloc ?_ _)); refine blk_put (cs := #[.int .i64 ((rd_T70 ((rd_T63 l0_1 a1).f2) x37_2).f0), .int .i64 0]) ?_ 1 _ rfl; (with_reducible repeat (first | refine blk_drewN ?_ _ | refine blk_drew ?_ | refine blk_alloc ?_ _)); refine blk_put (cs := #[.int .i64 0, .int .i64 0]) ?_ 0 _ rfl; (with_reducible repeat (first | refine blk_drewN ?_ _ | refine blk_drew ?_ | refine blk_alloc ?_ _)); exact BK317.out⟩
                   have n3_ : Aside0 (Below w.heap.size w ((w37.setCell ⟨gb317, 0, none⟩ (.int .i64 ((rd_T70 ((rd_T63 l0_1 a1).f2) x37_2).f0))).setCell ⟨gb317, 1, none⟩ (.int .i64 ((rd_T70 ((rd_T63 l0_1 a1).f2) x37_2).f1)))) := ⟨by repeat (first | (with_reducible first | exact HB.out | apply below_alloc | apply pw_below_drewN | apply below_drew1 | refine below_set ?_ GE310.out | refine below_set ?_ GE314.out | refine below_set ?_ GE317.out) | exact HB.out)⟩
                   (try clear BK310)
                   (try clear BK314)
                   (try clear BK317)
                   (try clear HB)
                   generalize ((w37.setCell ⟨gb317, 0, none⟩ (.int .i64 ((rd_T70 ((rd_T63 l0_1 a1).f2) x37_2).f0))).setCell ⟨gb317, 1, none⟩ (.int .i64 ((rd_T70 ((rd_T63 l0_1 a1).f2) x37_2).f1))) = w41 at n0_ n1_ n2_ n3_ ⊢
                   have BK310 := n0_
                   have BK314 := n1_
                   have BK317 := n2_
                   have HB := n3_
                   clear n0_ n1_ n2_ n3_
                   have n0_ := Aside0.mk (blk_drew BK310.out)
                   have n1_ := Aside0.mk (blk_drew BK314.out)
                   have n2_ := Aside0.mk (blk_drew BK317.out)
                   have n3_ := Aside0.mk (below_drew1 HB.out)
                   clear BK310
                   clear BK314
                   clear BK317
                   clear HB
                   have BK310 := n0_
                   have BK314 := n1_
                   have BK317 := n2_
                   have HB := n3_
                   clear n0_ n1_ n2_ n3_
                   have p318 : 0 ≤ (((rd_T70 ((rd_T63 l0_1 a1).f2) x37_2).f0) : Int) := of_decide_eq_true ZZ853400
                   have q318 : ((rd_T70 ((rd_T63 l0_1 a1).f2) x37_2).f0) < (l0_0.length : Int) := of_decide_eq_true ZZ853400
                   obtain ⟨ad318, e318, hx318_0, hx318_1⟩ := at_T48 HR0_0.out ((rd_T70 ((rd_T63 l0_1 a1).f2) x37_2).f0) p318 q318
                   have hw318_1 := hx318_1
                   have hw318_0 := hx318_0
                   cases e318
                   replace hx318_0 := (HB.out.cell (World.block_lt_of_cell? w _ hx318_0)).trans hx318_0
                   replace hx318_1 := (HB.out.cell (World.block_lt_of_cell? w _ hx318_1)).trans hx318_1
                   replace p318 := eq_true p318
                   replace q318 := eq_true q318
                   refine start_ (n := 16) (S := fun w' => w'.cell? ⟨gb310, 0, none⟩ = some (.slice (some ad318) l0_0.length c0_0) ∧ w'.cell? ⟨gb310, 1, none⟩ = some (.slice (some ad313) l0_1.length c0_1) ∧ w'.cell? ⟨gb317, 0, none⟩ = some (.int .i64 ((rd_T70 ((rd_T63 l0_1 a1).f2) x37_2).f0)) ∧ w'.cell? ⟨gb317, 1, none⟩ = some (.int .i64 ((rd_T70 ((rd_T63 l0_1 a1).f2) x37_2).f1)) ∧ w'.cell? (ad318.add ((((rd_T70 ((rd_T63 l0_1 a1).f2) x37_2).f0)).toNat * 2)) = some (.string ((rd_T48 l0_0 ((rd_T70 ((rd_T63 l0_1 a1).f2) x37_2).f0)).f0)) ∧ w'.cell? ⟨(ad318.add ((((rd_T70 ((rd_T63 l0_1 a1).f2) x37_2).f0)).toNat * 2)).block, (ad318.add ((((rd_T70 ((rd_T63 l0_1 a1).f2) x37_2).f0)).toNat * 2)).off + 1, none⟩ = some (.int .i64 ((rd_T48 l0_0 ((rd_T70 ((rd_T63 l0_1 a1).f2) x37_2).f0)).f1))) (ds := []) #[false, false, false, false, false, false, false, false, false, false, false, false, false, false, false, false] (by kernel_rfl) rfl rfl ⟨(blk_cell BK310.out 0).trans rfl, (blk_cell BK310.out 1).trans rfl, (blk_cell BK317.out 0).trans rfl, (blk_cell BK317.out 1).trans rfl, ((HB.out.cell (World.block_lt_of_cell? w _ hw318_0)).trans hw318_0), ((HB.out.cell (World.block_lt_of_cell? w _ hw318_1)).trans hw318_1)⟩ (fun hHeld => ?_); refine with_tabW impl_FormatEntry.tab8 impl_FormatEntry.bits8 (fun HT_ HW_ => ?_)
                   generalize w41.drew = w42 at BK310 BK314 BK317 HB hx318_0 hx318_1 hHeld ⊢
                   refine pu 0 41 ?_
                   refine pu 1 42 ?_
                   refine pu 3 44 ?_
                   refine pu 10 51 ?_
                   refine tk 2 43 ?_
                   refine tk 4 45 ?_
                   refine pu 5 46 ?_
                   refine pu 6 47 ?_
                   refine tk 7 48 ?_
                   refine pu 8 49 ?_
                   refine pu 9 50 ?_
                   refine tk 11 52 ?_
                   refine one_ (i := 12) (N := some 53) #[true, true, true, true, true, true, true, true, true, true, true, true, true, false, false, false] rfl rfl (one_of HT_.out (by kernel_rfl)) (by decide) (fun K hK => ?_)
                   refine goes_ Tryd.func99 (by kernel_rfl) rfl #[.int .i64 ((rd_T70 ((rd_T63 l0_1 a1).f2) x37_2).f1)] (by rfl) rfl rfl ZZ19826e ?_
                   with_reducible refine (impl_amountText.calls k2 ((rd_T70 ((rd_T63 l0_1 a1).f2) x37_2).f1) t319 _ ?side1 A34.out).mono ?_
                   (case side1 => first | exact HV.out | exact TInv.below HV.out (by repeat (first | (with_reducible first | exact HB.out | apply below_alloc | apply pw_below_drewN | apply below_drew1 | refine below_set ?_ GE310.out | refine below_set ?_ GE314.out | refine below_set ?_ GE317.out) | exact HB.out)))
                   rintro e w43 ⟨rfl, hb⟩
                   refine ⟨_, rfl, ?_⟩
                   have n0_ := Aside0.mk (blk_below (g := gb310) (o := .cells #[.slice (some ad318) l0_0.length c0_0, .slice (some ad313) l0_1.length c0_1] 31 (0, 0)) ZZc72dea hb)
                   have n1_ := Aside0.mk (blk_below (g := gb314) (o := .cells #[.int .i64 ((rd_T63 l0_1 a1).f0), .string ((rd_T63 l0_1 a1).f1), .slice (some ad316) ((rd_T63 l0_1 a1).f2).length c313_2] 63 (0, 0)) (by (with_reducible repeat (first | refine blk_drewN ?_ _ | refine blk_drew ?_ | refine blk_alloc ?_ _)); exact BK314.out) hb)
                   have n2_ := Aside0.mk (blk_below (g := gb317) (o := .cells #[.int .i64 ((rd_T70 ((rd_T63 l0_1 a1).f2) x37_2).f0), .int .i64 ((rd_T70 ((rd_T63 l0_1 a1).f2) x37_2).f1)] 70 (0, 0)) (by (with_reducible repeat (first | refine blk_drewN ?_ _ | refine blk_drew ?_ | refine blk_alloc ?_ _)); exact BK317.out) hb)
                   have n3_ := Aside0.mk (below_step (by repeat (first | (with_reducible first | exact HB.out | apply below_alloc | apply pw_below_drewN | apply below_drew1 | refine below_set ?_ GE310.out | refine below_set ?_ GE314.out | refine below_set ?_ GE317.out) | exact HB.out)) hb)
                   clear BK310
                   clear BK314
                   clear BK317
                   clear HB
                   have BK310 := n0_
                   have BK314 := n1_
                   have BK317 := n2_
                   have HB := n3_
                   clear n0_ n1_ n2_ n3_
                   (try clear hb)
                   (try clear hb2)
                   (try clear hk)
                   (try clear hi)
                   refine hK.out _ _ ⟨(blk_cell BK310.out 0).trans rfl, (blk_cell BK310.out 1).trans rfl, (blk_cell BK317.out 0).trans rfl, (blk_cell BK317.out 1).trans rfl, ((HB.out.cell (World.block_lt_of_cell? w _ hw318_0)).trans hw318_0), ((HB.out.cell (World.block_lt_of_cell? w _ hw318_1)).trans hw318_1)⟩ (fun hHeld => ?_)
                   clear hK K
                   refine norm_ (a' := ?_) ?_ ?_
                   rotate_left
                   ·show Act.put _ (some 53) _ = _
                    simp only [Act.put, List.setIfInBounds_toArray, List.set_cons_zero, List.set_cons_succ, i64_w, i32_w]
                    rfl
                   refine pu 13 54 ?_
                   refine pu 14 55 ?_
                   refine pu 15 7 ?_
                   refine done_ (done_of HT_.out (by kernel_rfl)) ?_
                   try go_wp2
                   go_roundg k2
                   case measure => have := HJ2.out; have := HK2.out; omega
                   case rel => exact ⟨(x7_2 ++ ((((⟨#[10, 32, 32]⟩ : ByteArray) ++ ((rd_T48 l0_0 ((rd_T70 ((rd_T63 l0_1 a1).f2) x37_2).f0)).f0)) ++ (⟨#[32]⟩ : ByteArray)) ++ t319)), (wrap64 (x37_2 + 1)), ZZ0ab324, ZZ0ab324, H', ⟨by have := HJ2.out; have := HK2.out; omega⟩, ⟨by (with_reducible repeat (first | refine blk_drewN ?_ _ | refine blk_drew ?_ | refine blk_alloc ?_ _)); exact BK310.out⟩, ⟨by (with_reducible repeat (first | refine blk_drewN ?_ _ | refine blk_drew ?_ | refine blk_alloc ?_ _)); exact BK314.out⟩, ⟨by repeat (first | (with_reducible first | exact HB.out | apply below_alloc | apply pw_below_drewN | apply below_drew1 | refine below_set ?_ GE310.out | refine below_set ?_ GE314.out | refine below_set ?_ GE317.out) | exact HB.out)⟩⟩
                  ·rw [if_neg c36] at H
                   exact absurd H (by simp)
                 ·rw [if_neg c35] at H
                  exact absurd H (by simp)
                ·rw [if_neg c33] at H
                 exact absurd H (by simp)
               ·rw [if_neg c32] at H
                exact absurd H (by simp)
              ·rw [if_neg c31] at H
               exact absurd H (by simp)
             ·rw [if_neg c30] at H
              exact absurd H (by simp)
            ·rw [if_neg c29] at H
             exact absurd H (by simp)
           ·rw [if_neg c28] at H
            exact absurd H (by simp)
          ·rw [if_neg c27] at H
           have c27b0 : decide (x37_2 < (((rd_T63 l0_1 a1).f2).length : Int)) = false := decide_eq_false c27
           clear c27
           simp only [Option.some.injEq, Prod.mk.injEq] at H
           obtain ⟨rfl, rfl⟩ := H
           go_wp2
           go_ret2
           exact ⟨by first | rfl | (simp [errW_none, errW_some] <;> rfl) | (simp [*, errW_none, errW_some] <;> rfl), by repeat (first | (with_reducible first | exact HB.out | apply below_alloc | apply pw_below_drewN | apply below_drew1 | refine below_set ?_ GE310.out | refine below_set ?_ GE314.out) | exact HB.out)⟩
       ·rw [if_neg c18] at H
        exact absurd H (by simp)
      ·rw [if_neg c17] at H
       exact absurd H (by simp)
     ·rw [if_neg c15] at H
      exact absurd H (by simp)
    ·rw [if_neg c14] at H
     exact absurd H (by simp)
end Go.Proofs.YtccdjchaaeligaaDoor.XFnExactFormatEntry

-- Printed by wip/tools/xprint.py, a program of this session, over the kit's print; Lean checks it.
import Derived.Test.YtccdjchaaeligaaDoorXFnExactFormatEntry1
import Derived.Test.YtccdjchaaeligaaDoorXFnExactFormatEntry0
import Derived.Test.YtccdjchaaeligaaDoorXFnExactFormatEntry7
namespace Go.Proofs.YtccdjchaaeligaaDoor.XFnExactFormatEntry
open Go.Proofs.YtccdjchaaeligaaDoor.Short Go.RowKit Go.Proofs.YtccdjchaaeligaaDoorW.PrintWords Go.Proofs.YtccdjchaaeligaaDoorW.PrintLast Go.Proofs.YtccdjchaaeligaaDoorW.PrintMore
attribute [local go_sem] max2_int min2_int max_two min_two max_three min_three max_four min_four   -- for this text's walks alone
set_option linter.unusedVariables false
set_option linter.unusedSimpArgs false
/-! ### spec_l3Two: function 122 -/
def spec_l3Two.f (k : Nat) (a0 : Int) : Option (ByteArray) := if a0 < 10 then ((spec_l1Num.f k a0).bind fun t219 => (if 1 + t219.size ≤ 9223372036854775807 then (some ((⟨#[48]⟩ : ByteArray) ++ t219)) else (none))) else ((spec_l1Num.f k a0).bind fun t220 => (some t220))
theorem spec_l3Two.mono : ∀ a0 k, LeO (spec_l3Two.f k a0) (spec_l3Two.f (k + 1) a0) := by
 intro a0 k
 unfold spec_l3Two.f
 repeat' first
  | (with_reducible exact spec_l1Num.mono _ _)
  | (with_reducible exact LeO.refl _)
  | (with_reducible exact LeO.none _)
  | (with_reducible refine LeO.ite ?_ ?_)
  | (with_reducible refine LeO.bind ?_ (fun _ => ?_))
  | exact spec_l1Num.mono _ _
  | exact LeO.none _
  | refine LeO.ite ?_ ?_
  | refine LeO.bind ?_ (fun _ => ?_)
set_option maxHeartbeats 8000000 in
set_option maxRecDepth 100000 in
theorem spec_l3Two.calls (k : Nat) (a0 : Int) (r : ByteArray) (w : World) (h : spec_l3Two.f k a0 = some r) :
 Calls Tryd.prog 122 #[.int .i64 a0] w fun e w' => e = .returned (.string r) ∧ Below w.heap.size w w' := by
 have HB := Aside0.mk (Below.refl w.heap.size w)
 have H : (if a0 < 10 then ((spec_l1Num.f k a0).bind fun t219 => (if 1 + t219.size ≤ 9223372036854775807 then (some ((⟨#[48]⟩ : ByteArray) ++ t219)) else (none))) else ((spec_l1Num.f k a0).bind fun t220 => (some t220))) = some r := h
 clear h
 by_cases c2 : a0 < 10
 ·rw [if_pos c2] at H
  have c2b0 : decide (a0 < 10) = true := decide_eq_true c2
  clear c2
  replace H := Option.bind_eq_some_iff.mp H
  obtain ⟨t219, A30, H⟩ := H
  replace H : (if 1 + t219.size ≤ 9223372036854775807 then (some ((⟨#[48]⟩ : ByteArray) ++ t219)) else (none)) = some r := H
  have A3 := Aside0.mk A30
  clear A30
  by_cases c4 : 1 + t219.size ≤ 9223372036854775807
  ·rw [if_pos c4] at H
   have c4b0 := eq_true c4
   have c4b1 : decide (1 + t219.size ≤ 9223372036854775807) = true := decide_eq_true c4
   try have c4b2 : (9223372036854775807 < 1 + t219.size) = False := eq_false (Nat.not_lt.2 c4)
   obtain rfl := Option.some.inj H
   go_enter Tryd.func122, Tryd.ntmps122
   go_wp2_with (first | ((with_reducible refine gate_callee (f := 93) rfl ?_); refine goesL_ (some 6) rfl rfl Tryd.func93 (by kernel_rfl) rfl #[.int .i64 a0] rfl ZZ19826e ?_; (with_reducible refine (spec_l1Num.calls k a0 t219 _ A3.out).mono ?_); rintro e w5 ⟨rfl, hb⟩; refine ⟨_, rfl, ?_⟩; have n0_ := Aside0.mk (below_step ZZ605003 hb); clear HB; have HB := n0_; clear n0_; (try clear hb); (try clear hb2); (try clear hk); (try clear hi)))
   go_ret
   exact ⟨by first | rfl | (simp [errW_none, errW_some] <;> rfl) | (simp [*, errW_none, errW_some] <;> rfl), by repeat (first | (with_reducible first | exact HB.out | apply below_alloc | apply pw_below_drewN | apply below_drew1) | exact HB.out)⟩
  ·rw [if_neg c4] at H
   exact absurd H (by simp)
 ·rw [if_neg c2] at H
  have c2b0 : decide (a0 < 10) = false := decide_eq_false c2
  clear c2
  replace H := Option.bind_eq_some_iff.mp H
  obtain ⟨t220, A60, H⟩ := H
  replace H : (some t220) = some r := H
  have A6 := Aside0.mk A60
  clear A60
  obtain rfl := Option.some.inj H
  go_enter Tryd.func122, Tryd.ntmps122
  go_wp2_with (first | ((with_reducible refine gate_callee (f := 93) rfl ?_); refine goesL_ (some 9) rfl rfl Tryd.func93 (by kernel_rfl) rfl #[.int .i64 a0] rfl ZZ19826e ?_; (with_reducible refine (spec_l1Num.calls k a0 t220 _ A6.out).mono ?_); rintro e w7 ⟨rfl, hb⟩; refine ⟨_, rfl, ?_⟩; have n0_ := Aside0.mk (below_step ZZ605003 hb); clear HB; have HB := n0_; clear n0_; (try clear hb); (try clear hb2); (try clear hk); (try clear hi)))
  go_ret
  exact ⟨by first | rfl | (simp [errW_none, errW_some] <;> rfl) | (simp [*, errW_none, errW_some] <;> rfl), by repeat (first | (with_reducible first | exact HB.out | apply below_alloc | apply pw_below_drewN | apply below_drew1) | exact HB.out)⟩
/-! ### spec_l3Text: function 96 -/
def spec_l3Text.f (k : Nat) (a0 : Int) : Option (ByteArray) := (spec_l3Date.f k a0).bind fun bt221 => ((spec_l1Num.f k bt221.1).bind fun t225 => (if t225.size + 1 ≤ 9223372036854775807 then ((spec_l3Two.f k bt221.2.1).bind fun t226 => (if t225.size + 1 + t226.size ≤ 9223372036854775807 then (if t225.size + 1 + t226.size + 1 ≤ 9223372036854775807 then ((spec_l3Two.f k bt221.2.2).bind fun t227 => (if t225.size + 1 + t226.size + 1 + t227.size ≤ 9223372036854775807 then (some ((((t225 ++ (⟨#[45]⟩ : ByteArray)) ++ t226) ++ (⟨#[45]⟩ : ByteArray)) ++ t227)) else (none))) else (none)) else (none))) else (none)))
theorem spec_l3Text.mono : ∀ a0 k, LeO (spec_l3Text.f k a0) (spec_l3Text.f (k + 1) a0) := by
 intro a0 k
 unfold spec_l3Text.f
 repeat' first
  | (with_reducible exact spec_l1Num.mono _ _)
  | (with_reducible exact spec_l3Date.mono _ _)
  | (with_reducible exact spec_l3Two.mono _ _)
  | (with_reducible exact LeO.refl _)
  | (with_reducible exact LeO.none _)
  | (with_reducible refine LeO.ite ?_ ?_)
  | (with_reducible refine LeO.bind ?_ (fun _ => ?_))
  | exact spec_l1Num.mono _ _
  | exact spec_l3Date.mono _ _
  | exact spec_l3Two.mono _ _
  | exact LeO.none _
  | refine LeO.ite ?_ ?_
  | refine LeO.bind ?_ (fun _ => ?_)
def spec_l3Text.T2 : Bool × List (List Nat × List Nat) := (true, [([], []), ([0], [0]), ([1], [1]), ([2], [2]), ([], []), ([4], [4]), ([5, 2], [5]), ([3, 6], [3, 6]), ([7], [7]), ([], []), ([9], [9]), ([10, 6], [10]), ([8, 11], [8, 11]), ([12, 11, 0, 1, 2, 3, 4, 5, 6, 7, 8, 9, 10, 11, 12], [12])])
def spec_l3Text.B2 : List Nat := [0, 1, 3, 7, 0, 16, 55, 127, 255, 0, 512, 1655, 4095, 8191]
theorem spec_l3Text.tab2 : rtab .any (opsOf Tryd.f96 2) = spec_l3Text.T2 := by kernel_rfl
theorem spec_l3Text.bits2 : waitsOk spec_l3Text.T2.2 spec_l3Text.B2 = true := by kernel_rfl
set_option maxHeartbeats 8000000 in
set_option maxRecDepth 100000 in
theorem spec_l3Text.calls (k : Nat) (a0 : Int) (r : ByteArray) (w : World) (h : spec_l3Text.f k a0 = some r) :
 Calls Tryd.prog 96 #[.int .i64 a0] w fun e w' => e = .returned (.string r) ∧ Below w.heap.size w w' := by
 have hu125 := Tryd.underlying125
 have HB := Aside0.mk (Below.refl w.heap.size w)
 have H : ((spec_l3Date.f k a0).bind fun bt221 => ((spec_l1Num.f k bt221.1).bind fun t225 => (if t225.size + 1 ≤ 9223372036854775807 then ((spec_l3Two.f k bt221.2.1).bind fun t226 => (if t225.size + 1 + t226.size ≤ 9223372036854775807 then (if t225.size + 1 + t226.size + 1 ≤ 9223372036854775807 then ((spec_l3Two.f k bt221.2.2).bind fun t227 => (if t225.size + 1 + t226.size + 1 + t227.size ≤ 9223372036854775807 then (some ((((t225 ++ (⟨#[45]⟩ : ByteArray)) ++ t226) ++ (⟨#[45]⟩ : ByteArray)) ++ t227)) else (none))) else (none)) else (none))) else (none)))) = some r := h
 clear h
 replace H := Option.bind_eq_some_iff.mp H
 obtain ⟨⟨t221, t222, t223⟩, A20, H⟩ := H
 replace H : ((spec_l1Num.f k t221).bind fun t225 => (if t225.size + 1 ≤ 9223372036854775807 then ((spec_l3Two.f k t222).bind fun t226 => (if t225.size + 1 + t226.size ≤ 9223372036854775807 then (if t225.size + 1 + t226.size + 1 ≤ 9223372036854775807 then ((spec_l3Two.f k t223).bind fun t227 => (if t225.size + 1 + t226.size + 1 + t227.size ≤ 9223372036854775807 then (some ((((t225 ++ (⟨#[45]⟩ : ByteArray)) ++ t226) ++ (⟨#[45]⟩ : ByteArray)) ++ t227)) else (none))) else (none)) else (none))) else (none))) = some r := H
 have A2 := Aside0.mk A20
 clear A20
 replace H := Option.bind_eq_some_iff.mp H
 obtain ⟨t225, A30, H⟩ := H
 replace H : (if t225.size + 1 ≤ 9223372036854775807 then ((spec_l3Two.f k t222).bind fun t226 => (if t225.size + 1 + t226.size ≤ 9223372036854775807 then (if t225.size + 1 + t226.size + 1 ≤ 9223372036854775807 then ((spec_l3Two.f k t223).bind fun t227 => (if t225.size + 1 + t226.size + 1 + t227.size ≤ 9223372036854775807 then (some ((((t225 ++ (⟨#[45]⟩ : ByteArray)) ++ t226) ++ (⟨#[45]⟩ : ByteArray)) ++ t227)) else (none))) else (none)) else (none))) else (none)) = some r := H
 have A3 := Aside0.mk A30
 clear A30
 by_cases c4 : t225.size + 1 ≤ 9223372036854775807
 ·rw [if_pos c4] at H
  have c4b0 := eq_true c4
  have c4b1 : decide (t225.size + 1 ≤ 9223372036854775807) = true := decide_eq_true c4
  try have c4b2 : (9223372036854775807 < t225.size + 1) = False := eq_false (Nat.not_lt.2 c4)
  replace H := Option.bind_eq_some_iff.mp H
  obtain ⟨t226, A50, H⟩ := H
  replace H : (if t225.size + 1 + t226.size ≤ 9223372036854775807 then (if t225.size + 1 + t226.size + 1 ≤ 9223372036854775807 then ((spec_l3Two.f k t223).bind fun t227 => (if t225.size + 1 + t226.size + 1 + t227.size ≤ 9223372036854775807 then (some ((((t225 ++ (⟨#[45]⟩ : ByteArray)) ++ t226) ++ (⟨#[45]⟩ : ByteArray)) ++ t227)) else (none))) else (none)) else (none)) = some r := H
  have A5 := Aside0.mk A50
  clear A50
  by_cases c6 : t225.size + 1 + t226.size ≤ 9223372036854775807
  ·rw [if_pos c6] at H
   have c6b0 := eq_true c6
   have c6b1 : decide (t225.size + 1 + t226.size ≤ 9223372036854775807) = true := decide_eq_true c6
   try have c6b2 : (9223372036854775807 < t225.size + 1 + t226.size) = False := eq_false (Nat.not_lt.2 c6)
   by_cases c7 : t225.size + 1 + t226.size + 1 ≤ 9223372036854775807
   ·rw [if_pos c7] at H
    have c7b0 := eq_true c7
    have c7b1 : decide (t225.size + 1 + t226.size + 1 ≤ 9223372036854775807) = true := decide_eq_true c7
    try have c7b2 : (9223372036854775807 < t225.size + 1 + t226.size + 1) = False := eq_false (Nat.not_lt.2 c7)
    replace H := Option.bind_eq_some_iff.mp H
    obtain ⟨t227, A80, H⟩ := H
    replace H : (if t225.size + 1 + t226.size + 1 + t227.size ≤ 9223372036854775807 then (some ((((t225 ++ (⟨#[45]⟩ : ByteArray)) ++ t226) ++ (⟨#[45]⟩ : ByteArray)) ++ t227)) else (none)) = some r := H
    have A8 := Aside0.mk A80
    clear A80
    by_cases c9 : t225.size + 1 + t226.size + 1 + t227.size ≤ 9223372036854775807
    ·rw [if_pos c9] at H
     have c9b0 := eq_true c9
     have c9b1 : decide (t225.size + 1 + t226.size + 1 + t227.size ≤ 9223372036854775807) = true := decide_eq_true c9
     try have c9b2 : (9223372036854775807 < t225.size + 1 + t226.size + 1 + t227.size) = False := eq_false (Nat.not_lt.2 c9)
     obtain rfl := Option.some.inj H
     go_enter Tryd.func96, Tryd.ntmps96
     try go_wp2_with (first | ((with_reducible refine gate_callee (f := 121) rfl ?_); refine goesL_ (some 5) rfl rfl Tryd.func121 (by kernel_rfl) rfl #[.int .i64 a0] rfl ZZ19826e ?_; (with_reducible refine (spec_l3Date.calls k a0 t221 t222 t223 _ A2.out).mono ?_); rintro e w10 ⟨rfl, hb⟩; refine ⟨_, rfl, ?_⟩; have n0_ := Aside0.mk (below_step ZZ605003 hb); clear HB; have HB := n0_; clear n0_; (try clear hb); (try clear hb2); (try clear hk); (try clear hi)) | ((with_reducible refine gate_dst (N := 3) rfl ?_); refine box_event ?hg (N := 3) ?hd (cs := #[.int .i64 0, .int .i64 0, .int .i64 0]) (t := 125) ?hr ?_; (case hd => rfl); (case hg => rfl); (case hr => first | (go_simp; done) | (go_simp; rfl)); intro gb224 hg w11 hbox hb; have n0_ := Aside0.mk (below_step ZZ605003 hb); have n1_ := Aside0.mk (hbox); have n2_ := Aside0.mk ((by rw [hg]; exact (below_size ZZ605003) : w.heap.size ≤ gb224)); have n3_ := Aside0.mk ((by rw [hg]; exact (below_size ZZ605003) : w.heap.size ≤ gb224)); clear HB; have HB := n0_; have BK224 := n1_; have GW224 := n2_; have GE224 := n3_; clear n0_ n1_ n2_ n3_; clear hb hbox hg; have hcz12_0 : w11.cell? ⟨gb224, 0, none⟩ = some (.int .i64 0) := (blk_cell BK224.out 0).trans rfl; have hcz12_1 : w11.cell? ⟨gb224, 1, none⟩ = some (.int .i64 0) := (blk_cell BK224.out 1).trans rfl; have hcz12_2 : w11.cell? ⟨gb224, 2, none⟩ = some (.int .i64 0) := (blk_cell BK224.out 2).trans rfl; have hfz12_0 := blk_frozen BK224.out 0; have hfz12_1 := blk_frozen BK224.out 1; have hfz12_2 := blk_frozen BK224.out 2))
     have n0_ : Aside0 ((((w11.setCell ⟨gb224, 0, none⟩ (.int .i64 t221)).setCell ⟨gb224, 1, none⟩ (.int .i64 t222)).setCell ⟨gb224, 2, none⟩ (.int .i64 t223)).heap[gb224]? = some (.cells #[.int .i64 t221, .int .i64 t222, .int .i64 t223] 125 (0, 0))) := ⟨by (with_reducible repeat (first | refine blk_drewN ?_ _ | refine blk_drew ?_ | refine blk_alloc ?_ _)); refine blk_put (cs := #[.int .i64 t221, .int .i64 t222, .int .i64 0]) ?_ 2 _ rfl; (with_reducible repeat (first | refine blk_drewN ?_ _ | refine blk_drew ?_ | refine blk_alloc ?_ _)); refine blk_put (cs := #[.int .i64 t221, .int .i64 0, .int .i64 0]) ?_ 1 _ rfl; (with_reducible repeat (first | refine blk_drewN ?_ _ | refine blk_drew ?_ | refine blk_alloc ?_ _)); refine blk_put (cs := #[.int .i64 0, .int .i64 0, .int .i64 0]) ?_ 0 _ rfl; (with_reducible repeat (first | refine blk_drewN ?_ _ | refine blk_drew ?_ | refine blk_alloc ?_ _)); exact BK224.out⟩
     have n1_ : Aside0 (Below w.heap.size w (((w11.setCell ⟨gb224, 0, none⟩ (.int .i64 t221)).setCell ⟨gb224, 1, none⟩ (.int .i64 t222)).setCell ⟨gb224, 2, none⟩ (.int .i64 t223))) := ⟨by repeat (first | (with_reducible first | exact HB.out | apply below_alloc | apply pw_below_drewN | apply below_drew1 | refine below_set ?_ GE224.out) | exact HB.out)⟩
     (try clear BK224)
     (try clear HB)
     generalize (((w11.setCell ⟨gb224, 0, none⟩ (.int .i64 t221)).setCell ⟨gb224, 1, none⟩ (.int .i64 t222)).setCell ⟨gb224, 2, none⟩ (.int .i64 t223)) = w13 at n0_ n1_ ⊢
     have BK224 := n0_
     have HB := n1_
     clear n0_ n1_
     have n0_ := Aside0.mk (blk_drew BK224.out)
     have n1_ := Aside0.mk (below_drew1 HB.out)
     clear BK224
     clear HB
     have BK224 := n0_
     have HB := n1_
     clear n0_ n1_
     refine start_ (n := 14) (S := fun w' => w'.cell? ⟨gb224, 0, none⟩ = some (.int .i64 t221) ∧ w'.cell? ⟨gb224, 1, none⟩ = some (.int .i64 t222) ∧ w'.cell? ⟨gb224, 2, none⟩ = some (.int .i64 t223)) (ds := []) #[false, false, false, false, false, false, false, false, false, false, false, false, false, false] (by kernel_rfl) rfl rfl ⟨(blk_cell BK224.out 0).trans rfl, (blk_cell BK224.out 1).trans rfl, (blk_cell BK224.out 2).trans rfl⟩ (fun hHeld => ?_); refine with_tabW spec_l3Text.tab2 spec_l3Text.bits2 (fun HT_ HW_ => ?_)
     generalize w13.drew = w14 at BK224 HB hHeld ⊢
     refine pu 0 6 ?_
     refine pu 4 10 ?_
     refine pu 9 15 ?_
     refine tk 1 7 ?_
     refine tk 5 11 ?_
     refine tk 10 16 ?_
     refine one_ (i := 2) (N := some 8) #[true, true, true, false, true, true, false, false, false, true, true, false, false, false] rfl rfl (one_of HT_.out (by kernel_rfl)) (by decide) (fun K hK => ?_)
     refine goes_ Tryd.func93 (by kernel_rfl) rfl #[.int .i64 t221] (by rfl) rfl rfl ZZ19826e ?_
     with_reducible refine (spec_l1Num.calls k t221 t225 _ A3.out).mono ?_
     rintro e w15 ⟨rfl, hb⟩
     refine ⟨_, rfl, ?_⟩
     have n0_ := Aside0.mk (blk_below (g := gb224) (o := .cells #[.int .i64 t221, .int .i64 t222, .int .i64 t223] 125 (0, 0)) (by (with_reducible repeat (first | refine blk_drewN ?_ _ | refine blk_drew ?_ | refine blk_alloc ?_ _)); exact BK224.out) hb)
     have n1_ := Aside0.mk (below_step (by repeat (first | (with_reducible first | exact HB.out | apply below_alloc | apply pw_below_drewN | apply below_drew1 | refine below_set ?_ GE224.out) | exact HB.out)) hb)
     clear BK224
     clear HB
     have BK224 := n0_
     have HB := n1_
     clear n0_ n1_
     (try clear hb)
     (try clear hb2)
     (try clear hk)
     (try clear hi)
     refine hK.out _ _ ⟨(blk_cell BK224.out 0).trans rfl, (blk_cell BK224.out 1).trans rfl, (blk_cell BK224.out 2).trans rfl⟩ (fun hHeld => ?_)
     clear hK K
     refine norm_ (a' := ?_) ?_ ?_
     rotate_left
     ·show Act.put _ (some 8) _ = _
      simp only [Act.put, List.setIfInBounds_toArray, List.set_cons_zero, List.set_cons_succ, i64_w, i32_w]
      rfl
     refine pu 3 9 ?_
     refine one_ (i := 6) (N := some 12) #[true, true, true, true, true, true, true, false, false, true, true, false, false, false] rfl rfl (one_of HT_.out (by kernel_rfl)) (by decide) (fun K hK => ?_)
     refine goes_ Tryd.func122 (by kernel_rfl) rfl #[.int .i64 t222] (by rfl) rfl rfl ZZ19826e ?_
     with_reducible refine (spec_l3Two.calls k t222 t226 _ A5.out).mono ?_
     rintro e w16 ⟨rfl, hb⟩
     refine ⟨_, rfl, ?_⟩
     have n0_ := Aside0.mk (blk_below (g := gb224) (o := .cells #[.int .i64 t221, .int .i64 t222, .int .i64 t223] 125 (0, 0)) (by (with_reducible repeat (first | refine blk_drewN ?_ _ | refine blk_drew ?_ | refine blk_alloc ?_ _)); exact BK224.out) hb)
     have n1_ := Aside0.mk (below_step (by repeat (first | (with_reducible first | exact HB.out | apply below_alloc | apply pw_below_drewN | apply below_drew1 | refine below_set ?_ GE224.out) | exact HB.out)) hb)
     clear BK224
     clear HB
     have BK224 := n0_
     have HB := n1_
     clear n0_ n1_
     (try clear hb)
     (try clear hb2)
     (try clear hk)
     (try clear hi)
     refine hK.out _ _ ⟨(blk_cell BK224.out 0).trans rfl, (blk_cell BK224.out 1).trans rfl, (blk_cell BK224.out 2).trans rfl⟩ (fun hHeld => ?_)
     clear hK K
     refine norm_ (a' := ?_) ?_ ?_
     rotate_left
     ·show Act.put _ (some 12) _ = _
      simp only [Act.put, List.setIfInBounds_toArray, List.set_cons_zero, List.set_cons_succ, i64_w, i32_w]
      rfl
     refine pu 7 13 ?_
     refine pu 8 14 ?_
     refine one_ (i := 11) (N := some 17) #[true, true, true, true, true, true, true, true, true, true, true, true, false, false] rfl rfl (one_of HT_.out (by kernel_rfl)) (by decide) (fun K hK => ?_)
     refine goes_ Tryd.func122 (by kernel_rfl) rfl #[.int .i64 t223] (by rfl) rfl rfl ZZ19826e ?_
     with_reducible refine (spec_l3Two.calls k t223 t227 _ A8.out).mono ?_
     rintro e w17 ⟨rfl, hb⟩
     refine ⟨_, rfl, ?_⟩
     have n0_ := Aside0.mk (blk_below (g := gb224) (o := .cells #[.int .i64 t221, .int .i64 t222, .int .i64 t223] 125 (0, 0)) (by (with_reducible repeat (first | refine blk_drewN ?_ _ | refine blk_drew ?_ | refine blk_alloc ?_ _)); exact BK224.out) hb)
     have n1_ := Aside0.mk (below_step (by repeat (first | (with_reducible first | exact HB.out | apply below_alloc | apply pw_below_drewN | apply below_drew1 | refine below_set ?_ GE224.out) | exact HB.out)) hb)
     clear BK224
     clear HB
     have BK224 := n0_
     have HB := n1_
     clear n0_ n1_
     (try clear hb)
     (try clear hb2)
     (try clear hk)
     (try clear hi)
     refine hK.out _ _ ⟨(blk_cell BK224.out 0).trans rfl, (blk_cell BK224.out 1).trans rfl, (blk_cell BK224.out 2).trans rfl⟩ (fun hHeld => ?_)
     clear hK K
     refine norm_ (a' := ?_) ?_ ?_
     rotate_left
     ·show Act.put _ (some 17) _ = _
      simp only [Act.put, List.setIfInBounds_toArray, List.set_cons_zero, List.set_cons_succ, i64_w, i32_w]
      rfl
     refine pu 12 18 ?_
     refine pu 13 2 ?_
     refine done_ (done_of HT_.out (by kernel_rfl)) ?_
     try go_wp2
     go_ret
     exact ⟨by first | rfl | (simp [errW_none, errW_some] <;> rfl) | (simp [*, errW_none, errW_some] <;> rfl), by repeat (first | (with_reducible first | exact HB.out | apply below_alloc | apply pw_below_drewN | apply below_drew1 | refine below_set ?_ GE224.out) | exact HB.out)⟩
    ·rw [if_neg c9] at H
     exact absurd H (by simp)
   ·rw [if_neg c7] at H
    exact absurd H (by simp)
  ·rw [if_neg c6] at H
   exact absurd H (by simp)
 ·rw [if_neg c4] at H
  exact absurd H (by simp)
/-! ### spec_l2Format: function 97 -/
def spec_l2Format.j0 : Nat → Int → ByteArray → Option (ByteArray)
 | 0, _, _ => none
 | k + 1, x0, x3 => (spec_l1Num.f k (wrap64 (Int.tdiv x0 100))).bind fun t228 => (if x3.size + t228.size ≤ 9223372036854775807 then (if x3.size + t228.size + 1 ≤ 9223372036854775807 then (if (Int.tmod x0 100) < 10 then (if x3.size + t228.size + 1 + 1 ≤ 9223372036854775807 then ((spec_l1Num.f k (Int.tmod x0 100)).bind fun t229 => (if x3.size + t228.size + 1 + 1 + t229.size ≤ 9223372036854775807 then (some ((((x3 ++ t228) ++ (⟨#[46]⟩ : ByteArray)) ++ (⟨#[48]⟩ : ByteArray)) ++ t229)) else (none))) else (none)) else ((spec_l1Num.f k (Int.tmod x0 100)).bind fun t230 => (if x3.size + t228.size + 1 + t230.size ≤ 9223372036854775807 then (some (((x3 ++ t228) ++ (⟨#[46]⟩ : ByteArray)) ++ t230)) else (none)))) else (none)) else (none))
def spec_l2Format.f (k : Nat) (a0 : Int) : Option (ByteArray) := if a0 < 0 then (spec_l2Format.j0 k (wrap64 (-a0)) (⟨#[45]⟩ : ByteArray)) else (spec_l2Format.j0 k a0 (⟨#[]⟩ : ByteArray))
theorem spec_l2Format.mono_l : ∀ k, (∀ y0 y1, LeO (spec_l2Format.j0 k y0 y1) (spec_l2Format.j0 (k + 1) y0 y1))
 | 0 => fun _ _ r h => by simp [spec_l2Format.j0] at h
 | k + 1 => by
  have ih0 := spec_l2Format.mono_l k
  ·intro y0 y1
   unfold spec_l2Format.j0
   repeat' first
   | (with_reducible exact ih0 _ _)
   | (with_reducible exact spec_l1Num.mono _ _)
   | (with_reducible exact LeO.refl _)
   | (with_reducible exact LeO.none _)
   | (with_reducible refine LeO.ite ?_ ?_)
   | (with_reducible refine LeO.bind ?_ (fun _ => ?_))
   | exact ih0 _ _
   | exact spec_l1Num.mono _ _
   | exact LeO.none _
   | refine LeO.ite ?_ ?_
   | refine LeO.bind ?_ (fun _ => ?_)
theorem spec_l2Format.mono : ∀ a0 k, LeO (spec_l2Format.f k a0) (spec_l2Format.f (k + 1) a0) := by
 intro a0 k
 have ih0 := spec_l2Format.mono_l k
 unfold spec_l2Format.f
 repeat' first
  | (with_reducible exact ih0 _ _)
  | (with_reducible exact spec_l1Num.mono _ _)
  | (with_reducible exact LeO.refl _)
  | (with_reducible exact LeO.none _)
  | (with_reducible refine LeO.ite ?_ ?_)
  | (with_reducible refine LeO.bind ?_ (fun _ => ?_))
  | exact ih0 _ _
  | exact spec_l1Num.mono _ _
  | exact LeO.none _
  | refine LeO.ite ?_ ?_
  | refine LeO.bind ?_ (fun _ => ?_)
set_option maxHeartbeats 8000000 in
set_option maxRecDepth 100000 in
theorem spec_l2Format.calls (k : Nat) (a0 : Int) (r : ByteArray) (w : World) (h : spec_l2Format.f k a0 = some r) :
 Calls Tryd.prog 97 #[.int .i64 a0] w fun e w' => e = .returned (.string r) ∧ Below w.heap.size w w' := by
 have HB := Aside0.mk (Below.refl w.heap.size w)
 have H : (if a0 < 0 then (spec_l2Format.j0 k (wrap64 (-a0)) (⟨#[45]⟩ : ByteArray)) else (spec_l2Format.j0 k a0 (⟨#[]⟩ : ByteArray))) = some r := h
 clear h
 have HC2 := Aside0.mk H
 clear H
 go_enter Tryd.func97, Tryd.ntmps97
 go_upto_if 5 with (fail)
 go_cut [0, 3] (fun v0 v3 wc => ∃ (kq : Nat) (x0_1 : Int) (x3_1 : ByteArray), v0 = .int .i64 x0_1 ∧ v3 = .string x3_1 ∧ Aside0 (spec_l2Format.j0 kq x0_1 x3_1 = some r) ∧ Aside0 (kq ≤ k) ∧ Aside0 (Below w.heap.size w wc))
 case first =>
  have H := HC2.out
  clear HC2
  by_cases c3 : a0 < 0
  ·rw [if_pos c3] at H
   have c3b0 : decide (a0 < 0) = true := decide_eq_true c3
   clear c3
   (first | rw [c3b0] | (simp only [i64_w, i32_w]; rw [c3b0]) | skip)
   have H' := Aside0.mk H
   clear H
   go_wp2
   go_meet
   case rel => exact ⟨_, (wrap64 (-a0)), ((⟨#[45]⟩ : ByteArray)), ZZ0ab324, ZZ0ab324, H', ⟨by first | omega | exact Nat.le_refl _⟩, ⟨by repeat (first | (with_reducible first | exact HB.out | apply below_alloc | apply pw_below_drewN | apply below_drew1) | exact HB.out)⟩⟩
  ·rw [if_neg c3] at H
   have c3b0 : decide (a0 < 0) = false := decide_eq_false c3
   clear c3
   (first | rw [c3b0] | (simp only [i64_w, i32_w]; rw [c3b0]) | skip)
   have H' := Aside0.mk H
   clear H
   go_wp2
   go_meet
   case rel => exact ⟨_, (a0), ((⟨#[]⟩ : ByteArray)), ZZ0ab324, ZZ0ab324, H', ⟨by first | omega | exact Nat.le_refl _⟩, ⟨by repeat (first | (with_reducible first | exact HB.out | apply below_alloc | apply pw_below_drewN | apply below_drew1) | exact HB.out)⟩⟩
 case rest =>
  clear HC2
  try clear p2
  try clear c3
  try clear c3b0
  obtain ⟨kq, x0_1, x3_1, rfl, rfl, HA, HJ1, HB⟩ := hcut
  cases kq with
  | zero => exact absurd HA.out (by simp [spec_l2Format.j0])
  | succ kj1 =>
   have H := HA.out
   clear HA
   simp only [spec_l2Format.j0] at H
   replace H := Option.bind_eq_some_iff.mp H
   obtain ⟨t228, A40, H⟩ := H
   replace H : (if x3_1.size + t228.size ≤ 9223372036854775807 then (if x3_1.size + t228.size + 1 ≤ 9223372036854775807 then (if (Int.tmod x0_1 100) < 10 then (if x3_1.size + t228.size + 1 + 1 ≤ 9223372036854775807 then ((spec_l1Num.f kj1 (Int.tmod x0_1 100)).bind fun t229 => (if x3_1.size + t228.size + 1 + 1 + t229.size ≤ 9223372036854775807 then (some ((((x3_1 ++ t228) ++ (⟨#[46]⟩ : ByteArray)) ++ (⟨#[48]⟩ : ByteArray)) ++ t229)) else (none))) else (none)) else ((spec_l1Num.f kj1 (Int.tmod x0_1 100)).bind fun t230 => (if x3_1.size + t228.size + 1 + t230.size ≤ 9223372036854775807 then (some (((x3_1 ++ t228) ++ (⟨#[46]⟩ : ByteArray)) ++ t230)) else (none)))) else (none)) else (none)) = some r := H
   have A4 := Aside0.mk A40
   clear A40
   by_cases c5 : x3_1.size + t228.size ≤ 9223372036854775807
   ·rw [if_pos c5] at H
    have c5b0 := eq_true c5
    have c5b1 : decide (x3_1.size + t228.size ≤ 9223372036854775807) = true := decide_eq_true c5
    try have c5b2 : (9223372036854775807 < x3_1.size + t228.size) = False := eq_false (Nat.not_lt.2 c5)
    by_cases c6 : x3_1.size + t228.size + 1 ≤ 9223372036854775807
    ·rw [if_pos c6] at H
     have c6b0 := eq_true c6
     have c6b1 : decide (x3_1.size + t228.size + 1 ≤ 9223372036854775807) = true := decide_eq_true c6
     try have c6b2 : (9223372036854775807 < x3_1.size + t228.size + 1) = False := eq_false (Nat.not_lt.2 c6)
     by_cases c7 : (Int.tmod x0_1 100) < 10
     ·rw [if_pos c7] at H
      have c7b0 : decide ((Int.tmod x0_1 100) < 10) = true := decide_eq_true c7
      clear c7
      by_cases c8 : x3_1.size + t228.size + 1 + 1 ≤ 9223372036854775807
      ·rw [if_pos c8] at H
       have c8b0 := eq_true c8
       have c8b1 : decide (x3_1.size + t228.size + 1 + 1 ≤ 9223372036854775807) = true := decide_eq_true c8
       try have c8b2 : (9223372036854775807 < x3_1.size + t228.size + 1 + 1) = False := eq_false (Nat.not_lt.2 c8)
       replace H := Option.bind_eq_some_iff.mp H
       obtain ⟨t229, A90, H⟩ := H
       replace H : (if x3_1.size + t228.size + 1 + 1 + t229.size ≤ 9223372036854775807 then (some ((((x3_1 ++ t228) ++ (⟨#[46]⟩ : ByteArray)) ++ (⟨#[48]⟩ : ByteArray)) ++ t229)) else (none)) = some r := H
       have A9 := Aside0.mk A90
       clear A90
       by_cases c10 : x3_1.size + t228.size + 1 + 1 + t229.size ≤ 9223372036854775807
       ·rw [if_pos c10] at H
        have c10b0 := eq_true c10
        have c10b1 : decide (x3_1.size + t228.size + 1 + 1 + t229.size ≤ 9223372036854775807) = true := decide_eq_true c10
        try have c10b2 : (9223372036854775807 < x3_1.size + t228.size + 1 + 1 + t229.size) = False := eq_false (Nat.not_lt.2 c10)
        obtain rfl := Option.some.inj H
        go_wp2_with (first | ((with_reducible refine gate_callee (f := 93) rfl ?_); refine goesL_ (some 11) rfl rfl Tryd.func93 (by kernel_rfl) rfl #[.int .i64 (wrap64 (Int.tdiv x0_1 100))] rfl ZZ19826e ?_; (with_reducible refine (spec_l1Num.calls kj1 (wrap64 (Int.tdiv x0_1 100)) t228 _ A4.out).mono ?_); rintro e w11 ⟨rfl, hb⟩; refine ⟨_, rfl, ?_⟩; have n0_ := Aside0.mk (below_step ZZ605003 hb); clear HB; have HB := n0_; clear n0_; (try clear hb); (try clear hb2); (try clear hk); (try clear hi)) | ((with_reducible refine gate_callee (f := 93) rfl ?_); refine goesL_ (some 22) rfl rfl Tryd.func93 (by kernel_rfl) rfl #[.int .i64 (Int.tmod x0_1 100)] rfl ZZ19826e ?_; (with_reducible refine (spec_l1Num.calls kj1 (Int.tmod x0_1 100) t229 _ A9.out).mono ?_); rintro e w12 ⟨rfl, hb⟩; refine ⟨_, rfl, ?_⟩; have n0_ := Aside0.mk (below_step ZZ605003 hb); clear HB; have HB := n0_; clear n0_; (try clear hb); (try clear hb2); (try clear hk); (try clear hi)))
        go_ret
        exact ⟨by first | rfl | (simp [errW_none, errW_some] <;> rfl) | (simp [*, errW_none, errW_some] <;> rfl), by repeat (first | (with_reducible first | exact HB.out | apply below_alloc | apply pw_below_drewN | apply below_drew1) | exact HB.out)⟩
       ·rw [if_neg c10] at H
        exact absurd H (by simp)
      ·rw [if_neg c8] at H
       exact absurd H (by simp)
     ·rw [if_neg c7] at H
      have c7b0 : decide ((Int.tmod x0_1 100) < 10) = false := decide_eq_false c7
      clear c7
      replace H := Option.bind_eq_some_iff.mp H
      obtain ⟨t230, A130, H⟩ := H
      replace H : (if x3_1.size + t228.size + 1 + t230.size ≤ 9223372036854775807 then (some (((x3_1 ++ t228) ++ (⟨#[46]⟩ : ByteArray)) ++ t230)) else (none)) = some r := H
      have A13 := Aside0.mk A130
      clear A130
      by_cases c14 : x3_1.size + t228.size + 1 + t230.size ≤ 9223372036854775807
      ·rw [if_pos c14] at H
       have c14b0 := eq_true c14
       have c14b1 : decide (x3_1.size + t228.size + 1 + t230.size ≤ 9223372036854775807) = true := decide_eq_true c14
       try have c14b2 : (9223372036854775807 < x3_1.size + t228.size + 1 + t230.size) = False := eq_false (Nat.not_lt.2 c14)
       obtain rfl := Option.some.inj H
       go_wp2_with (first | ((with_reducible refine gate_callee (f := 93) rfl ?_); refine goesL_ (some 11) rfl rfl Tryd.func93 (by kernel_rfl) rfl #[.int .i64 (wrap64 (Int.tdiv x0_1 100))] rfl ZZ19826e ?_; (with_reducible refine (spec_l1Num.calls kj1 (wrap64 (Int.tdiv x0_1 100)) t228 _ A4.out).mono ?_); rintro e w15 ⟨rfl, hb⟩; refine ⟨_, rfl, ?_⟩; have n0_ := Aside0.mk (below_step ZZ605003 hb); clear HB; have HB := n0_; clear n0_; (try clear hb); (try clear hb2); (try clear hk); (try clear hi)) | ((with_reducible refine gate_callee (f := 93) rfl ?_); refine goesL_ (some 22) rfl rfl Tryd.func93 (by kernel_rfl) rfl #[.int .i64 (Int.tmod x0_1 100)] rfl ZZ19826e ?_; (with_reducible refine (spec_l1Num.calls kj1 (Int.tmod x0_1 100) t230 _ A13.out).mono ?_); rintro e w16 ⟨rfl, hb⟩; refine ⟨_, rfl, ?_⟩; have n0_ := Aside0.mk (below_step ZZ605003 hb); clear HB; have HB := n0_; clear n0_; (try clear hb); (try clear hb2); (try clear hk); (try clear hi)))
       go_ret
       exact ⟨by first | rfl | (simp [errW_none, errW_some] <;> rfl) | (simp [*, errW_none, errW_some] <;> rfl), by repeat (first | (with_reducible first | exact HB.out | apply below_alloc | apply pw_below_drewN | apply below_drew1) | exact HB.out)⟩
      ·rw [if_neg c14] at H
       exact absurd H (by simp)
    ·rw [if_neg c6] at H
     exact absurd H (by simp)
   ·rw [if_neg c5] at H
    exact absurd H (by simp)
end Go.Proofs.YtccdjchaaeligaaDoor.XFnExactFormatEntry

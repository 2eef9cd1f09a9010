-- Printed by wip/tools/xprint.py, a program of this session, over the kit's print; Lean checks it.
import Derived.Test.YtmhmeifdnleoaaaDoorXFnCrashRecovery2
import Derived.Test.YtmhmeifdnleoaaaDoorXFnCrashRecovery0
import Derived.Test.YtmhmeifdnleoaaaDoorXFnCrashRecovery3
import Derived.Test.YtmhmeifdnleoaaaDoorXFnCrashRecovery4
namespace Go.Proofs.YtmhmeifdnleoaaaDoor.XFnCrashRecovery
open Go.Proofs.YtmhmeifdnleoaaaDoor.Short Go.RowKit Go.Proofs.YtmhmeifdnleoaaaDoorW.PrintWords Go.Proofs.YtmhmeifdnleoaaaDoorW.PrintLast Go.Proofs.YtmhmeifdnleoaaaDoorW.PrintMore
attribute [local go_sem] max2_int min2_int max_two min_two max_three min_three max_four min_four   -- for this text's walks alone
set_option linter.unusedVariables false
set_option linter.unusedSimpArgs false
theorem ZZcda0cd {p : Prop} (h : p := by (with_reducible repeat (first | refine blk_drewN ?_ _ | refine blk_drew ?_ | refine blk_alloc ?_ _)); exact BK193.out) : p := h
theorem ZZb1ac1f {p : Prop} (h : p := by repeat (first | (with_reducible first | exact HB.out | apply below_alloc | apply pw_below_drewN | apply below_drew1 | refine below_set ?_ GE193.out) | exact HB.out)) : p := h
/-! ### spec_l27Line: function 44 -/
def spec_l27Line.f (k : Nat) (a0 : Int) (a1_0 : ByteArray) (a1_1 : ByteArray) : Option (ByteArray) := (spec_l1Num.f k a0).bind fun t191 => (if t191.size + 1 ≤ 9223372036854775807 then (if t191.size + 1 + a1_0.size ≤ 9223372036854775807 then (if t191.size + 1 + a1_0.size + 1 ≤ 9223372036854775807 then (if t191.size + 1 + a1_0.size + 1 + a1_1.size ≤ 9223372036854775807 then ((spec_l1Seal.f k ((((t191 ++ (⟨#[32]⟩ : ByteArray)) ++ a1_0) ++ (⟨#[64]⟩ : ByteArray)) ++ a1_1)).bind fun t192 => (if t192.size + 1 ≤ 9223372036854775807 then (some (t192 ++ (⟨#[10]⟩ : ByteArray))) else (none))) else (none)) else (none)) else (none)) else (none))
theorem spec_l27Line.mono : ∀ a0 a1 a2 k, LeO (spec_l27Line.f k a0 a1 a2) (spec_l27Line.f (k + 1) a0 a1 a2) := by
 intro a0 a1 a2 k
 unfold spec_l27Line.f
 repeat' first
  | (with_reducible exact spec_l1Num.mono _ _)
  | (with_reducible exact spec_l1Seal.mono _ _)
  | (with_reducible exact LeO.refl _)
  | (with_reducible exact LeO.none _)
  | (with_reducible refine LeO.ite ?_ ?_)
  | (with_reducible refine LeO.bind ?_ (fun _ => ?_))
  | exact spec_l1Num.mono _ _
  | exact spec_l1Seal.mono _ _
  | exact LeO.none _
  | refine LeO.ite ?_ ?_
  | refine LeO.bind ?_ (fun _ => ?_)
def spec_l27Line.T1 : Bool × List (List Nat × List Nat) := (true, [([], []), ([0], [0]), ([1], [1]), ([], []), ([3], [3]), ([2, 4], [2, 4]), ([5], [5]), ([], []), ([7], [7]), ([6, 8], [6, 8]), ([9, 1], [9]), ([10], [10]), ([11, 10, 0, 1, 2, 3, 4, 5, 6, 7, 8, 9, 10, 11], [11])])
def spec_l27Line.B1 : List Nat := [0, 1, 3, 0, 8, 31, 63, 0, 128, 511, 1023, 2047, 4095]
theorem spec_l27Line.tab1 : rtab .any (opsOf Tryd.f44 1) = spec_l27Line.T1 := by kernel_rfl
theorem spec_l27Line.bits1 : waitsOk spec_l27Line.T1.2 spec_l27Line.B1 = true := by kernel_rfl
set_option maxHeartbeats 8000000 in
set_option maxRecDepth 100000 in
theorem spec_l27Line.calls (k : Nat) (a0 : Int) (a1_0 : ByteArray) (a1_1 : ByteArray) (r : ByteArray) (w : World) (h : spec_l27Line.f k a0 a1_0 a1_1 = some r) :
 Calls Tryd.prog 44 #[.int .i64 a0, .agg #[.string a1_0, .string a1_1]] w fun e w' => e = .returned (.string r) ∧ Below w.heap.size w w' := by
 have hu27 := Tryd.underlying27
 have HB := Aside0.mk (Below.refl w.heap.size w)
 have H : ((spec_l1Num.f k a0).bind fun t191 => (if t191.size + 1 ≤ 9223372036854775807 then (if t191.size + 1 + a1_0.size ≤ 9223372036854775807 then (if t191.size + 1 + a1_0.size + 1 ≤ 9223372036854775807 then (if t191.size + 1 + a1_0.size + 1 + a1_1.size ≤ 9223372036854775807 then ((spec_l1Seal.f k ((((t191 ++ (⟨#[32]⟩ : ByteArray)) ++ a1_0) ++ (⟨#[64]⟩ : ByteArray)) ++ a1_1)).bind fun t192 => (if t192.size + 1 ≤ 9223372036854775807 then (some (t192 ++ (⟨#[10]⟩ : ByteArray))) else (none))) else (none)) else (none)) else (none)) else (none))) = some r := h
 clear h
 replace H := Option.bind_eq_some_iff.mp H
 obtain ⟨t191, A30, H⟩ := H
 replace H : (if t191.size + 1 ≤ 9223372036854775807 then (if t191.size + 1 + a1_0.size ≤ 9223372036854775807 then (if t191.size + 1 + a1_0.size + 1 ≤ 9223372036854775807 then (if t191.size + 1 + a1_0.size + 1 + a1_1.size ≤ 9223372036854775807 then ((spec_l1Seal.f k ((((t191 ++ (⟨#[32]⟩ : ByteArray)) ++ a1_0) ++ (⟨#[64]⟩ : ByteArray)) ++ a1_1)).bind fun t192 => (if t192.size + 1 ≤ 9223372036854775807 then (some (t192 ++ (⟨#[10]⟩ : ByteArray))) else (none))) else (none)) else (none)) else (none)) else (none)) = some r := H
 have A3 := Aside0.mk A30
 clear A30
 by_cases c4 : t191.size + 1 ≤ 9223372036854775807
 ·rw [if_pos c4] at H
  have c4b0 := eq_true c4
  have c4b1 : decide (t191.size + 1 ≤ 9223372036854775807) = true := decide_eq_true c4
  try have c4b2 : (9223372036854775807 < t191.size + 1) = False := eq_false (Nat.not_lt.2 c4)
  by_cases c5 : t191.size + 1 + a1_0.size ≤ 9223372036854775807
  ·rw [if_pos c5] at H
   have c5b0 := eq_true c5
   have c5b1 : decide (t191.size + 1 + a1_0.size ≤ 9223372036854775807) = true := decide_eq_true c5
   try have c5b2 : (9223372036854775807 < t191.size + 1 + a1_0.size) = False := eq_false (Nat.not_lt.2 c5)
   by_cases c6 : t191.size + 1 + a1_0.size + 1 ≤ 9223372036854775807
   ·rw [if_pos c6] at H
    have c6b0 := eq_true c6
    have c6b1 : decide (t191.size + 1 + a1_0.size + 1 ≤ 9223372036854775807) = true := decide_eq_true c6
    try have c6b2 : (9223372036854775807 < t191.size + 1 + a1_0.size + 1) = False := eq_false (Nat.not_lt.2 c6)
    by_cases c7 : t191.size + 1 + a1_0.size + 1 + a1_1.size ≤ 9223372036854775807
    ·rw [if_pos c7] at H
     have c7b0 := eq_true c7
     have c7b1 : decide (t191.size + 1 + a1_0.size + 1 + a1_1.size ≤ 9223372036854775807) = true := decide_eq_true c7
     try have c7b2 : (9223372036854775807 < t191.size + 1 + a1_0.size + 1 + a1_1.size) = False := eq_false (Nat.not_lt.2 c7)
     replace H := Option.bind_eq_some_iff.mp H
     obtain ⟨t192, A80, H⟩ := H
     replace H : (if t192.size + 1 ≤ 9223372036854775807 then (some (t192 ++ (⟨#[10]⟩ : ByteArray))) else (none)) = some r := H
     have A8 := Aside0.mk A80
     clear A80
     by_cases c9 : t192.size + 1 ≤ 9223372036854775807
     ·rw [if_pos c9] at H
      have c9b0 := eq_true c9
      have c9b1 : decide (t192.size + 1 ≤ 9223372036854775807) = true := decide_eq_true c9
      try have c9b2 : (9223372036854775807 < t192.size + 1) = False := eq_false (Nat.not_lt.2 c9)
      obtain rfl := Option.some.inj H
      go_enter Tryd.func44, Tryd.ntmps44
      try go_wp2_with (first | ((with_reducible refine gate_dst (N := 3) rfl ?_); refine box_event ?hg (N := 3) ?hd (cs := #[.string a1_0, .string a1_1]) (t := 27) ?hr ?_; (case hd => rfl); (case hg => rfl); (case hr => first | (go_simp; done) | (go_simp; rfl)); intro gb190 hg w10 hbox hb; have n0_ := Aside0.mk (below_step ZZ605003 hb); have n1_ := Aside0.mk (hbox); have n2_ := Aside0.mk ((by rw [hg]; exact (below_size ZZ605003) : w.heap.size ≤ gb190)); have n3_ := Aside0.mk ((by rw [hg]; exact (below_size ZZ605003) : w.heap.size ≤ gb190)); clear HB; have HB := n0_; have BK190 := n1_; have GW190 := n2_; have GE190 := n3_; clear n0_ n1_ n2_ n3_; clear hb hbox hg))
      have n0_ := Aside0.mk (blk_drew BK190.out)
      have n1_ := Aside0.mk (below_drew1 HB.out)
      clear BK190
      clear HB
      have BK190 := n0_
      have HB := n1_
      clear n0_ n1_
      refine start_ (n := 13) (S := fun w' => w'.cell? ⟨gb190, 0, none⟩ = some (.string a1_0) ∧ w'.cell? ⟨gb190, 1, none⟩ = some (.string a1_1)) (ds := []) #[false, false, false, false, false, false, false, false, false, false, false, false, false] (by kernel_rfl) rfl rfl ⟨(blk_cell BK190.out 0).trans rfl, (blk_cell BK190.out 1).trans rfl⟩ (fun hHeld => ?_); refine with_tabW spec_l27Line.tab1 spec_l27Line.bits1 (fun HT_ HW_ => ?_)
      generalize w10.drew = w11 at BK190 HB hHeld ⊢
      refine pu 0 5 ?_
      refine pu 3 8 ?_
      refine pu 7 12 ?_
      refine tk 4 9 ?_
      refine tk 8 13 ?_
      refine one_ (i := 1) (N := some 6) #[true, true, false, true, true, false, false, true, true, false, false, false, false] rfl rfl (one_of HT_.out (by kernel_rfl)) (by decide) (fun K hK => ?_)
      refine goes_ Tryd.func65 (by kernel_rfl) rfl #[.int .i64 a0] (by rfl) rfl rfl ZZ19826e ?_
      with_reducible refine (spec_l1Num.calls k a0 t191 _ A3.out).mono ?_
      rintro e w12 ⟨rfl, hb⟩
      refine ⟨_, rfl, ?_⟩
      have n0_ := Aside0.mk (blk_below (g := gb190) (o := .cells #[.string a1_0, .string a1_1] 27 (0, 0)) (by (with_reducible repeat (first | refine blk_drewN ?_ _ | refine blk_drew ?_ | refine blk_alloc ?_ _)); exact BK190.out) hb)
      have n1_ := Aside0.mk (below_step (by repeat (first | (with_reducible first | exact HB.out | apply below_alloc | apply pw_below_drewN | apply below_drew1 | refine below_set ?_ GE190.out) | exact HB.out)) hb)
      clear BK190
      clear HB
      have BK190 := n0_
      have HB := n1_
      clear n0_ n1_
      (try clear hb)
      (try clear hb2)
      (try clear hk)
      (try clear hi)
      refine hK.out _ _ ⟨(blk_cell BK190.out 0).trans rfl, (blk_cell BK190.out 1).trans rfl⟩ (fun hHeld => ?_)
      clear hK K
      refine norm_ (a' := ?_) ?_ ?_
      rotate_left
      ·show Act.put _ (some 6) _ = _
       simp only [Act.put, List.setIfInBounds_toArray, List.set_cons_zero, List.set_cons_succ, i64_w, i32_w]
       rfl
      refine pu 2 7 ?_
      refine pu 5 10 ?_
      refine pu 6 11 ?_
      refine pu 9 14 ?_
      refine one_ (i := 10) (N := some 15) #[true, true, true, true, true, true, true, true, true, true, true, false, false] rfl rfl (one_of HT_.out (by kernel_rfl)) (by decide) (fun K hK => ?_)
      refine goes_ Tryd.func64 (by kernel_rfl) rfl #[.string ((((t191 ++ (⟨#[32]⟩ : ByteArray)) ++ a1_0) ++ (⟨#[64]⟩ : ByteArray)) ++ a1_1)] (by rfl) rfl rfl ZZ19826e ?_
      with_reducible refine (spec_l1Seal.calls k ((((t191 ++ (⟨#[32]⟩ : ByteArray)) ++ a1_0) ++ (⟨#[64]⟩ : ByteArray)) ++ a1_1) t192 _ A8.out).mono ?_
      rintro e w13 ⟨rfl, hb⟩
      refine ⟨_, rfl, ?_⟩
      have n0_ := Aside0.mk (blk_below (g := gb190) (o := .cells #[.string a1_0, .string a1_1] 27 (0, 0)) (by (with_reducible repeat (first | refine blk_drewN ?_ _ | refine blk_drew ?_ | refine blk_alloc ?_ _)); exact BK190.out) hb)
      have n1_ := Aside0.mk (below_step (by repeat (first | (with_reducible first | exact HB.out | apply below_alloc | apply pw_below_drewN | apply below_drew1 | refine below_set ?_ GE190.out) | exact HB.out)) hb)
      clear BK190
      clear HB
      have BK190 := n0_
      have HB := n1_
      clear n0_ n1_
      (try clear hb)
      (try clear hb2)
      (try clear hk)
      (try clear hi)
      refine hK.out _ _ ⟨(blk_cell BK190.out 0).trans rfl, (blk_cell BK190.out 1).trans rfl⟩ (fun hHeld => ?_)
      clear hK K
      refine norm_ (a' := ?_) ?_ ?_
      rotate_left
      ·show Act.put _ (some 15) _ = _
       simp only [Act.put, List.setIfInBounds_toArray, List.set_cons_zero, List.set_cons_succ, i64_w, i32_w]
       rfl
      refine pu 11 16 ?_
      refine pu 12 4 ?_
      refine done_ (done_of HT_.out (by kernel_rfl)) ?_
      try go_wp2
      go_ret
      exact ⟨by first | rfl | (simp [errW_none, errW_some] <;> rfl) | (simp [*, errW_none, errW_some] <;> rfl), by repeat (first | (with_reducible first | exact HB.out | apply below_alloc | apply pw_below_drewN | apply below_drew1 | refine below_set ?_ GE190.out) | exact HB.out)⟩
     ·rw [if_neg c9] at H
      exact absurd H (by simp)
    ·rw [if_neg c7] at H
     exact absurd H (by simp)
   ·rw [if_neg c6] at H
    exact absurd H (by simp)
  ·rw [if_neg c5] at H
   exact absurd H (by simp)
 ·rw [if_neg c4] at H
  exact absurd H (by simp)
/-! ### spec_l27Read: function 69 -/
def spec_l27Read.j0 : Nat → ByteArray → Int → ByteArray → ByteArray → Bool → Option (ByteArray × ByteArray × Bool)
 | 0, _, _, _, _, _ => none
 | k + 1, x0, x1, x6, x7, x30 => if x30 = true then (some ((⟨#[]⟩ : ByteArray), (⟨#[]⟩ : ByteArray), false)) else (if 0 ≤ (x6.size : Int) then (if (x6.size : Int) ≤ (x7.size : Int) then ((spec_l1Split.f k (x7.extract ((x6.size : Int) : Int).toNat x7.size) 64).bind fun t199 => (if 0 < (t199.length : Int) then (if ((rdOf ByteArray.empty t199 0).size : Int) = ((x7.extract ((x6.size : Int) : Int).toNat x7.size).size : Int) then (some ((⟨#[]⟩ : ByteArray), (⟨#[]⟩ : ByteArray), false)) else (if 0 ≤ (wrap64 (((rdOf ByteArray.empty t199 0).size : Int) + 1)) then (if (wrap64 (((rdOf ByteArray.empty t199 0).size : Int) + 1)) ≤ ((x7.extract ((x6.size : Int) : Int).toNat x7.size).size : Int) then ((spec_l27Good.f k (rdOf ByteArray.empty t199 0) ((x7.extract ((x6.size : Int) : Int).toNat x7.size).extract ((wrap64 (((rdOf ByteArray.empty t199 0).size : Int) + 1)) : Int).toNat (x7.extract ((x6.size : Int) : Int).toNat x7.size).size)).bind fun t204 => (if t204 = true then ((spec_l27Line.f k x1 (rdOf ByteArray.empty t199 0) ((x7.extract ((x6.size : Int) : Int).toNat x7.size).extract ((wrap64 (((rdOf ByteArray.empty t199 0).size : Int) + 1)) : Int).toNat (x7.extract ((x6.size : Int) : Int).toNat x7.size).size)).bind fun t205 => (if x0.size + 1 ≤ 9223372036854775807 then (some (rdOf ByteArray.empty t199 0, (x7.extract ((x6.size : Int) : Int).toNat x7.size).extract ((wrap64 (((rdOf ByteArray.empty t199 0).size : Int) + 1)) : Int).toNat (x7.extract ((x6.size : Int) : Int).toNat x7.size).size, (t205.toList == (x0 ++ (⟨#[10]⟩ : ByteArray)).toList))) else (none))) else (some (rdOf ByteArray.empty t199 0, (x7.extract ((x6.size : Int) : Int).toNat x7.size).extract ((wrap64 (((rdOf ByteArray.empty t199 0).size : Int) + 1)) : Int).toNat (x7.extract ((x6.size : Int) : Int).toNat x7.size).size, false)))) else (none)) else (none))) else (none))) else (none)) else (none))
def spec_l27Read.f (k : Nat) (a0 : ByteArray) (a1 : Int) : Option (ByteArray × ByteArray × Bool) := (spec_l1Num.f k a1).bind fun t194 => (if t194.size + 1 ≤ 9223372036854775807 then ((spec_l1Split.f k a0 35).bind fun t195 => (if 0 < (t195.length : Int) then (if ((rdOf ByteArray.empty t195 0).size : Int) < ((t194.size : Int) + 1) then (spec_l27Read.j0 k a0 a1 (t194 ++ (⟨#[32]⟩ : ByteArray)) (rdOf ByteArray.empty t195 0) true) else (if 0 ≤ ((t194.size : Int) + 1) then (if ((t194.size : Int) + 1) ≤ ((rdOf ByteArray.empty t195 0).size : Int) then (spec_l27Read.j0 k a0 a1 (t194 ++ (⟨#[32]⟩ : ByteArray)) (rdOf ByteArray.empty t195 0) (((rdOf ByteArray.empty t195 0).extract 0 (((t194.size : Int) + 1) : Int).toNat).toList != (t194 ++ (⟨#[32]⟩ : ByteArray)).toList)) else (none)) else (none))) else (none))) else (none))
theorem spec_l27Read.mono_l : ∀ k, (∀ y0 y1 y2 y3 y4, LeO (spec_l27Read.j0 k y0 y1 y2 y3 y4) (spec_l27Read.j0 (k + 1) y0 y1 y2 y3 y4))
 | 0 => fun _ _ _ _ _ r h => by simp [spec_l27Read.j0] at h
 | k + 1 => by
  have ih0 := spec_l27Read.mono_l k
  ·intro y0 y1 y2 y3 y4
   unfold spec_l27Read.j0
   repeat' first
   | (with_reducible exact ih0 _ _ _ _ _)
   | (with_reducible exact spec_l1Num.mono _ _)
   | (with_reducible exact spec_l1Split.mono _ _ _)
   | (with_reducible exact spec_l27Good.mono _ _ _)
   | (with_reducible exact spec_l27Line.mono _ _ _ _)
   | (with_reducible exact LeO.refl _)
   | (with_reducible exact LeO.none _)
   | (with_reducible refine LeO.ite ?_ ?_)
   | (with_reducible refine LeO.bind ?_ (fun _ => ?_))
   | exact ih0 _ _ _ _ _
   | exact spec_l1Num.mono _ _
   | exact spec_l1Split.mono _ _ _
   | exact spec_l27Good.mono _ _ _
   | exact spec_l27Line.mono _ _ _ _
   | exact LeO.none _
   | refine LeO.ite ?_ ?_
   | refine LeO.bind ?_ (fun _ => ?_)
theorem spec_l27Read.mono : ∀ a0 a1 k, LeO (spec_l27Read.f k a0 a1) (spec_l27Read.f (k + 1) a0 a1) := by
 intro a0 a1 k
 have ih0 := spec_l27Read.mono_l k
 unfold spec_l27Read.f
 repeat' first
  | (with_reducible exact ih0 _ _ _ _ _)
  | (with_reducible exact spec_l1Num.mono _ _)
  | (with_reducible exact spec_l1Split.mono _ _ _)
  | (with_reducible exact spec_l27Good.mono _ _ _)
  | (with_reducible exact spec_l27Line.mono _ _ _ _)
  | (with_reducible exact LeO.refl _)
  | (with_reducible exact LeO.none _)
  | (with_reducible refine LeO.ite ?_ ?_)
  | (with_reducible refine LeO.bind ?_ (fun _ => ?_))
  | exact ih0 _ _ _ _ _
  | exact spec_l1Num.mono _ _
  | exact spec_l1Split.mono _ _ _
  | exact spec_l27Good.mono _ _ _
  | exact spec_l27Line.mono _ _ _ _
  | exact LeO.none _
  | refine LeO.ite ?_ ?_
  | refine LeO.bind ?_ (fun _ => ?_)
def spec_l27Read.T10 : Bool × List (List Nat × List Nat) := (true, [([], []), ([], []), ([1], [1]), ([2, 2], [2]), ([3], [3]), ([3], [3]), ([4, 5, 3, 3], [3, 4, 5]), ([3], [3]), ([7, 3], [3, 7]), ([6, 8, 3], [3, 6, 8]), ([3, 9], [3, 9]), ([0, 6, 0], [0]), ([10, 11, 0, 1, 2, 3, 4, 5, 6, 7, 8, 9, 10, 11], [10])])
def spec_l27Read.B10 : List Nat := [0, 0, 2, 6, 14, 14, 62, 14, 142, 510, 1022, 127, 4095]
theorem spec_l27Read.tab10 : rtab .any (opsOf Tryd.f69 10) = spec_l27Read.T10 := by kernel_rfl
theorem spec_l27Read.bits10 : waitsOk spec_l27Read.T10.2 spec_l27Read.B10 = true := by kernel_rfl
set_option maxHeartbeats 8000000 in
set_option maxRecDepth 100000 in
theorem spec_l27Read.calls (k : Nat) (a0 : ByteArray) (a1 : Int) (r1 : ByteArray) (r2 : ByteArray) (r3 : Bool) (w : World) (h : spec_l27Read.f k a0 a1 = some (r1, r2, r3)) :
 Calls Tryd.prog 69 #[.string a0, .int .i64 a1] w fun e w' => e = .returned (.tuple #[.agg #[.string r1, .string r2], .bool r3]) ∧ Below w.heap.size w w' := by
 have hu27 := Tryd.underlying27
 have HB := Aside0.mk (Below.refl w.heap.size w)
 have H : ((spec_l1Num.f k a1).bind fun t194 => (if t194.size + 1 ≤ 9223372036854775807 then ((spec_l1Split.f k a0 35).bind fun t195 => (if 0 < (t195.length : Int) then (if ((rdOf ByteArray.empty t195 0).size : Int) < ((t194.size : Int) + 1) then (spec_l27Read.j0 k a0 a1 (t194 ++ (⟨#[32]⟩ : ByteArray)) (rdOf ByteArray.empty t195 0) true) else (if 0 ≤ ((t194.size : Int) + 1) then (if ((t194.size : Int) + 1) ≤ ((rdOf ByteArray.empty t195 0).size : Int) then (spec_l27Read.j0 k a0 a1 (t194 ++ (⟨#[32]⟩ : ByteArray)) (rdOf ByteArray.empty t195 0) (((rdOf ByteArray.empty t195 0).extract 0 (((t194.size : Int) + 1) : Int).toNat).toList != (t194 ++ (⟨#[32]⟩ : ByteArray)).toList)) else (none)) else (none))) else (none))) else (none))) = some (r1, r2, r3) := h
 clear h
 replace H := Option.bind_eq_some_iff.mp H
 obtain ⟨t194, A30, H⟩ := H
 replace H : (if t194.size + 1 ≤ 9223372036854775807 then ((spec_l1Split.f k a0 35).bind fun t195 => (if 0 < (t195.length : Int) then (if ((rdOf ByteArray.empty t195 0).size : Int) < ((t194.size : Int) + 1) then (spec_l27Read.j0 k a0 a1 (t194 ++ (⟨#[32]⟩ : ByteArray)) (rdOf ByteArray.empty t195 0) true) else (if 0 ≤ ((t194.size : Int) + 1) then (if ((t194.size : Int) + 1) ≤ ((rdOf ByteArray.empty t195 0).size : Int) then (spec_l27Read.j0 k a0 a1 (t194 ++ (⟨#[32]⟩ : ByteArray)) (rdOf ByteArray.empty t195 0) (((rdOf ByteArray.empty t195 0).extract 0 (((t194.size : Int) + 1) : Int).toNat).toList != (t194 ++ (⟨#[32]⟩ : ByteArray)).toList)) else (none)) else (none))) else (none))) else (none)) = some (r1, r2, r3) := H
 have A3 := Aside0.mk A30
 clear A30
 by_cases c4 : t194.size + 1 ≤ 9223372036854775807
 ·rw [if_pos c4] at H
  have c4b0 := eq_true c4
  have c4b1 : decide (t194.size + 1 ≤ 9223372036854775807) = true := decide_eq_true c4
  try have c4b2 : (9223372036854775807 < t194.size + 1) = False := eq_false (Nat.not_lt.2 c4)
  replace H := Option.bind_eq_some_iff.mp H
  obtain ⟨t195, A50, H⟩ := H
  replace H : (if 0 < (t195.length : Int) then (if ((rdOf ByteArray.empty t195 0).size : Int) < ((t194.size : Int) + 1) then (spec_l27Read.j0 k a0 a1 (t194 ++ (⟨#[32]⟩ : ByteArray)) (rdOf ByteArray.empty t195 0) true) else (if 0 ≤ ((t194.size : Int) + 1) then (if ((t194.size : Int) + 1) ≤ ((rdOf ByteArray.empty t195 0).size : Int) then (spec_l27Read.j0 k a0 a1 (t194 ++ (⟨#[32]⟩ : ByteArray)) (rdOf ByteArray.empty t195 0) (((rdOf ByteArray.empty t195 0).extract 0 (((t194.size : Int) + 1) : Int).toNat).toList != (t194 ++ (⟨#[32]⟩ : ByteArray)).toList)) else (none)) else (none))) else (none)) = some (r1, r2, r3) := H
  have A5 := Aside0.mk A50
  clear A50
  by_cases c6 : 0 < (t195.length : Int)
  ·rw [if_pos c6] at H
   have c6b0 : decide (0 < (t195.length : Int)) = true := decide_eq_true c6
   have c6b1 : decide (0 < t195.length) = true := decide_eq_true (by omega)
   clear c6
   have HC7 := Aside0.mk H
   clear H
   go_enter Tryd.func69, Tryd.ntmps69
   go_upto_region 3 with (first | ((with_reducible refine gate_dst (N := 4) rfl ?_); (try (refine gate_guard (by rfl) ?_; dsimp only)); refine box_event ?hg (N := 4) ?hd (cs := #[.string (⟨#[]⟩ : ByteArray), .string (⟨#[]⟩ : ByteArray)]) (t := 27) ?hr ?_; (case hd => rfl); (case hg => rfl); (case hr => first | (go_simp; done) | (go_simp; rfl)); intro gb193 hg w8 hbox hb; have n0_ := Aside0.mk (below_step ZZ605003 hb); have n1_ := Aside0.mk (hbox); have n2_ := Aside0.mk ((by rw [hg]; exact (below_size ZZ605003) : w.heap.size ≤ gb193)); have n3_ := Aside0.mk ((by rw [hg]; exact (below_size ZZ605003) : w.heap.size ≤ gb193)); clear HB; have HB := n0_; have BK193 := n1_; have GW193 := n2_; have GE193 := n3_; clear n0_ n1_ n2_ n3_; clear hb hbox hg) | ((with_reducible refine gate_callee (f := 65) rfl ?_); refine goesL_ (some 12) rfl rfl Tryd.func65 (by kernel_rfl) rfl #[.int .i64 a1] rfl ZZ19826e ?_; (with_reducible refine (spec_l1Num.calls k a1 t194 _ A3.out).mono ?_); rintro e w9 ⟨rfl, hb⟩; refine ⟨_, rfl, ?_⟩; have n0_ := Aside0.mk (blk_below (g := gb193) (o := .cells #[.string (⟨#[]⟩ : ByteArray), .string (⟨#[]⟩ : ByteArray)] 27 (0, 0)) ZZcda0cd hb); have n1_ := Aside0.mk (below_step ZZb1ac1f hb); clear BK193; clear HB; have BK193 := n0_; have HB := n1_; clear n0_ n1_; (try clear hb); (try clear hb2); (try clear hk); (try clear hi)) | ((with_reducible refine gate_callee (f := 68) rfl ?_); refine goesL_ (some 15) rfl rfl Tryd.func68 (by kernel_rfl) rfl #[.string a0, .int .u8 35] rfl ZZ19826e ?_; (with_reducible refine (spec_l1Split.calls k a0 35 t195 _ A5.out).mono ?_); rintro e w10 ⟨v196, rfl, ho0, hb⟩; refine ⟨_, rfl, ?_⟩; have n0_ := Aside0.mk (Kd.R_lower ho0 (below_size ZZb1ac1f)); have n1_ := Aside0.mk (blk_below (g := gb193) (o := .cells #[.string (⟨#[]⟩ : ByteArray), .string (⟨#[]⟩ : ByteArray)] 27 (0, 0)) ZZcda0cd hb); have n2_ := Aside0.mk (below_step ZZb1ac1f hb); clear BK193; clear HB; have HO197 := n0_; have BK193 := n1_; have HB := n2_; clear n0_ n1_ n2_; (try clear hb); (try clear hb2); (try clear hk); (try clear hi); (try clear ho0); obtain ⟨Ao11, co11, eo11⟩ := Kd.R_slice HO197.out; subst eo11; have p198 : 0 ≤ (0 : Int) := (by omega); have q198 : 0 < (t195.length : Int) := of_decide_eq_true ZZ853400; obtain ⟨ad198, e198, hx198_0⟩ := Kd.at_string (Kd.R_reads' HO197.out).2.2 0 p198 q198; cases e198; have qi198 : (0 < t195.length) = True := eq_true (by omega); (try rw [show ((0 : Int)).toNat = 0 from rfl] at hx198_0); (try rw [Addr.add_zero'] at hx198_0); replace p198 := eq_true p198; replace q198 := eq_true q198))
   (try simp only [Act.put, List.setIfInBounds_toArray, List.set_cons_zero, List.set_cons_succ])
   go_cut [6, 30] (fun v6 v30 wc => ∃ (kq : Nat) (x6_6 : ByteArray) (x30_6 : Bool), v6 = .string x6_6 ∧ v30 = .bool x30_6 ∧ Aside0 (spec_l27Read.j0 kq a0 a1 x6_6 (rdOf ByteArray.empty t195 0) x30_6 = some (r1, r2, r3)) ∧ Aside0 (kq ≤ k) ∧ Aside0 (wc.heap[gb193]? = some (.cells #[.string (⟨#[]⟩ : ByteArray), .string (⟨#[]⟩ : ByteArray)] 27 (0, 0))) ∧ Aside0 (Below w.heap.size w wc))
   case first =>
    have H := HC7.out
    clear HC7
    by_cases c12 : ((rdOf ByteArray.empty t195 0).size : Int) < ((t194.size : Int) + 1)
    ·rw [if_pos c12] at H
     have c12b0 : decide (((rdOf ByteArray.empty t195 0).size : Int) < ((t194.size : Int) + 1)) = true := decide_eq_true c12
     clear c12
     (first | rw [c12b0] | (simp only [i64_w, i32_w]; rw [c12b0]) | skip)
     have H' := Aside0.mk H
     clear H
     go_wp2
     go_meet
     case rel => exact ⟨_, (t194 ++ (⟨#[32]⟩ : ByteArray)), (true), ZZ0ab324, ZZ0ab324, H', ⟨by first | omega | exact Nat.le_refl _⟩, ⟨by (with_reducible repeat (first | refine blk_drewN ?_ _ | refine blk_drew ?_ | refine blk_alloc ?_ _)); exact BK193.out⟩, ⟨by repeat (first | (with_reducible first | exact HB.out | apply below_alloc | apply pw_below_drewN | apply below_drew1 | refine below_set ?_ GE193.out) | exact HB.out)⟩⟩
    ·rw [if_neg c12] at H
     have c12b0 : decide (((rdOf ByteArray.empty t195 0).size : Int) < ((t194.size : Int) + 1)) = false := decide_eq_false c12
     clear c12
     (first | rw [c12b0] | (simp only [i64_w, i32_w]; rw [c12b0]) | skip)
     obtain ⟨ji13, hji13⟩ : ∃ j_ : Int, ((t194.size : Int) + 1) = j_ := ⟨_, rfl⟩
     replace H : (if 0 ≤ (ji13) then (if (ji13) ≤ ((rdOf ByteArray.empty t195 0).size : Int) then (spec_l27Read.j0 k a0 a1 (t194 ++ (⟨#[32]⟩ : ByteArray)) (rdOf ByteArray.empty t195 0) (((rdOf ByteArray.empty t195 0).extract 0 ((ji13) : Int).toNat).toList != (t194 ++ (⟨#[32]⟩ : ByteArray)).toList)) else (none)) else (none)) = some (r1, r2, r3) := by first | (rw [hji13] at H; exact H) | (simp only [hji13] at H ⊢; exact H)
     (try rw [hji13] at c12b0)
     by_cases c14 : 0 ≤ (ji13)
     ·rw [if_pos c14] at H
      have c14b0 := eq_true c14
      have c14b1 : decide (0 ≤ (ji13)) = true := decide_eq_true c14
      clear c14
      by_cases c15 : (ji13) ≤ ((rdOf ByteArray.empty t195 0).size : Int)
      ·rw [if_pos c15] at H
       have c15b0 := eq_true c15
       have c15b1 : decide ((ji13) ≤ ((rdOf ByteArray.empty t195 0).size : Int)) = true := decide_eq_true c15
       clear c15
       have H' := Aside0.mk H
       clear H
       go_wp2
       go_meet
       case rel => exact ⟨_, (t194 ++ (⟨#[32]⟩ : ByteArray)), ((((rdOf ByteArray.empty t195 0).extract 0 ((ji13) : Int).toNat).toList != (t194 ++ (⟨#[32]⟩ : ByteArray)).toList)), ZZ0ab324, (by first | rfl | (simp; done) | (simp only [← hji13] <;> (first | rfl | simp)) | (simp [*]; done)), H', ⟨by first | omega | exact Nat.le_refl _⟩, ⟨by (with_reducible repeat (first | refine blk_drewN ?_ _ | refine blk_drew ?_ | refine blk_alloc ?_ _)); exact BK193.out⟩, ⟨by repeat (first | (with_reducible first | exact HB.out | apply below_alloc | apply pw_below_drewN | apply below_drew1 | refine below_set ?_ GE193.out) | exact HB.out)⟩⟩
      ·rw [if_neg c15] at H
       exact absurd H (by simp)
     ·rw [if_neg c14] at H
      exact absurd H (by simp)
   case rest =>
    clear HC7
    try clear c1
    try clear p1
    try clear q1
    try clear hx1
    try clear qi1
    try clear p2
    try clear c4
    try clear c4b0
    try clear c4b1
    try clear c4b2
    try clear c6
    try clear c6b0
    try clear c6b1
    try clear c12
    try clear c12b0
    try clear c14
    try clear c14b0
    try clear c14b1
    try clear c15
    try clear c15b0
    try clear c15b1
    try clear hx198_0
    try clear p198
    try clear q198
    obtain ⟨kq, x6_6, x30_6, rfl, rfl, HA, HJ6, BK193, HB⟩ := hcut
    cases kq with
    | zero => exact absurd HA.out (by simp [spec_l27Read.j0])
    | succ kj6 =>
     have H := HA.out
     clear HA
     simp only [spec_l27Read.j0] at H
     by_cases c16 : x30_6 = true
     ·subst c16
      have H1 : (some ((⟨#[]⟩ : ByteArray), (⟨#[]⟩ : ByteArray), false)) = some (r1, r2, r3) := by rw [if_pos rfl] at H; exact H
      clear H
      have H := H1
      clear H1
      simp only [Option.some.injEq, Prod.mk.injEq] at H
      obtain ⟨rfl, rfl, rfl⟩ := H
      have hcz17_0 : wc.cell? ⟨gb193, 0, none⟩ = some (.string (⟨#[]⟩ : ByteArray)) := (blk_cell BK193.out 0).trans rfl
      have hcz17_1 : wc.cell? ⟨gb193, 1, none⟩ = some (.string (⟨#[]⟩ : ByteArray)) := (blk_cell BK193.out 1).trans rfl
      have hfz17_0 := blk_frozen BK193.out 0
      have hfz17_1 := blk_frozen BK193.out 1
      go_wp2
      refine bodyPost_ret (results_ct rfl _ _ gb193 27 #[.string (⟨#[]⟩ : ByteArray), .string (⟨#[]⟩ : ByteArray)] (0, 0) _ rfl (by (with_reducible repeat (first | refine blk_drewN ?_ _ | refine blk_drew ?_ | refine blk_alloc ?_ _)); refine blk_put (cs := #[.string (⟨#[]⟩ : ByteArray), .string (⟨#[]⟩ : ByteArray)]) ?_ 1 _ rfl; (with_reducible repeat (first | refine blk_drewN ?_ _ | refine blk_drew ?_ | refine blk_alloc ?_ _)); refine blk_put (cs := #[.string (⟨#[]⟩ : ByteArray), .string (⟨#[]⟩ : ByteArray)]) ?_ 0 _ rfl; (with_reducible repeat (first | refine blk_drewN ?_ _ | refine blk_drew ?_ | refine blk_alloc ?_ _)); exact BK193.out) Tryd.underlying27 rfl (by kernel_rfl)) rfl ?_
      exact ⟨by first | rfl | (simp [errW_none, errW_some] <;> rfl) | (simp [*, errW_none, errW_some] <;> rfl), by repeat (first | (with_reducible first | exact HB.out | apply below_alloc | apply pw_below_drewN | apply below_drew1 | refine below_set ?_ GE193.out) | exact HB.out)⟩
     ·replace c16 := Bool.eq_false_iff.mpr c16
      subst c16
      have H1 : (if 0 ≤ (x6_6.size : Int) then (if (x6_6.size : Int) ≤ ((rdOf ByteArray.empty t195 0).size : Int) then ((spec_l1Split.f kj6 ((rdOf ByteArray.empty t195 0).extract ((x6_6.size : Int) : Int).toNat (rdOf ByteArray.empty t195 0).size) 64).bind fun t199 => (if 0 < (t199.length : Int) then (if ((rdOf ByteArray.empty t199 0).size : Int) = (((rdOf ByteArray.empty t195 0).extract ((x6_6.size : Int) : Int).toNat (rdOf ByteArray.empty t195 0).size).size : Int) then (some ((⟨#[]⟩ : ByteArray), (⟨#[]⟩ : ByteArray), false)) else (if 0 ≤ (wrap64 (((rdOf ByteArray.empty t199 0).size : Int) + 1)) then (if (wrap64 (((rdOf ByteArray.empty t199 0).size : Int) + 1)) ≤ (((rdOf ByteArray.empty t195 0).extract ((x6_6.size : Int) : Int).toNat (rdOf ByteArray.empty t195 0).size).size : Int) then ((spec_l27Good.f kj6 (rdOf ByteArray.empty t199 0) (((rdOf ByteArray.empty t195 0).extract ((x6_6.size : Int) : Int).toNat (rdOf ByteArray.empty t195 0).size).extract ((wrap64 (((rdOf ByteArray.empty t199 0).size : Int) + 1)) : Int).toNat ((rdOf ByteArray.empty t195 0).extract ((x6_6.size : Int) : Int).toNat (rdOf ByteArray.empty t195 0).size).size)).bind fun t204 => (if t204 = true then ((spec_l27Line.f kj6 a1 (rdOf ByteArray.empty t199 0) (((rdOf ByteArray.empty t195 0).extract ((x6_6.size : Int) : Int).toNat (rdOf ByteArray.empty t195 0).size).extract ((wrap64 (((rdOf ByteArray.empty t199 0).size : Int) + 1)) : Int).toNat ((rdOf ByteArray.empty t195 0).extract ((x6_6.size : Int) : Int).toNat (rdOf ByteArray.empty t195 0).size).size)).bind fun t205 => (if a0.size + 1 ≤ 9223372036854775807 then (some (rdOf ByteArray.empty t199 0, ((rdOf ByteArray.empty t195 0).extract ((x6_6.size : Int) : Int).toNat (rdOf ByteArray.empty t195 0).size).extract ((wrap64 (((rdOf ByteArray.empty t199 0).size : Int) + 1)) : Int).toNat ((rdOf ByteArray.empty t195 0).extract ((x6_6.size : Int) : Int).toNat (rdOf ByteArray.empty t195 0).size).size, (t205.toList == (a0 ++ (⟨#[10]⟩ : ByteArray)).toList))) else (none))) else (some (rdOf ByteArray.empty t199 0, ((rdOf ByteArray.empty t195 0).extract ((x6_6.size : Int) : Int).toNat (rdOf ByteArray.empty t195 0).size).extract ((wrap64 (((rdOf ByteArray.empty t199 0).size : Int) + 1)) : Int).toNat ((rdOf ByteArray.empty t195 0).extract ((x6_6.size : Int) : Int).toNat (rdOf ByteArray.empty t195 0).size).size, false)))) else (none)) else (none))) else (none))) else (none)) else (none)) = some (r1, r2, r3) := by rw [if_neg (show ¬ (false = true) by decide)] at H; exact H
      clear H
      have H := H1
      clear H1
      by_cases c18 : 0 ≤ (x6_6.size : Int)
      ·rw [if_pos c18] at H
       have c18b0 := eq_true c18
       have c18b1 : decide (0 ≤ (x6_6.size : Int)) = true := decide_eq_true c18
       clear c18
       by_cases c19 : (x6_6.size : Int) ≤ ((rdOf ByteArray.empty t195 0).size : Int)
       ·rw [if_pos c19] at H
        have c19b0 := eq_true c19
        have c19b1 : decide ((x6_6.size : Int) ≤ ((rdOf ByteArray.empty t195 0).size : Int)) = true := decide_eq_true c19
        clear c19
        obtain ⟨yc1, hyc1⟩ : ∃ y_ : ByteArray, ((rdOf ByteArray.empty t195 0).extract ((x6_6.size : Int) : Int).toNat (rdOf ByteArray.empty t195 0).size) = y_ := ⟨_, rfl⟩
        rw [hyc1] at H
        have hyc1w : (rdOf ByteArray.empty t195 0).extract x6_6.size (rdOf ByteArray.empty t195 0).size = yc1 := hyc1
        replace H := Option.bind_eq_some_iff.mp H
        obtain ⟨t199, A200, H⟩ := H
        replace H : (if 0 < (t199.length : Int) then (if ((rdOf ByteArray.empty t199 0).size : Int) = (yc1.size : Int) then (some ((⟨#[]⟩ : ByteArray), (⟨#[]⟩ : ByteArray), false)) else (if 0 ≤ (wrap64 (((rdOf ByteArray.empty t199 0).size : Int) + 1)) then (if (wrap64 (((rdOf ByteArray.empty t199 0).size : Int) + 1)) ≤ (yc1.size : Int) then ((spec_l27Good.f kj6 (rdOf ByteArray.empty t199 0) (yc1.extract ((wrap64 (((rdOf ByteArray.empty t199 0).size : Int) + 1)) : Int).toNat yc1.size)).bind fun t204 => (if t204 = true then ((spec_l27Line.f kj6 a1 (rdOf ByteArray.empty t199 0) (yc1.extract ((wrap64 (((rdOf ByteArray.empty t199 0).size : Int) + 1)) : Int).toNat yc1.size)).bind fun t205 => (if a0.size + 1 ≤ 9223372036854775807 then (some (rdOf ByteArray.empty t199 0, yc1.extract ((wrap64 (((rdOf ByteArray.empty t199 0).size : Int) + 1)) : Int).toNat yc1.size, (t205.toList == (a0 ++ (⟨#[10]⟩ : ByteArray)).toList))) else (none))) else (some (rdOf ByteArray.empty t199 0, yc1.extract ((wrap64 (((rdOf ByteArray.empty t199 0).size : Int) + 1)) : Int).toNat yc1.size, false)))) else (none)) else (none))) else (none)) = some (r1, r2, r3) := H
        have A20 := Aside0.mk A200
        clear A200
        by_cases c21 : 0 < (t199.length : Int)
        ·rw [if_pos c21] at H
         have c21b0 : decide (0 < (t199.length : Int)) = true := decide_eq_true c21
         have c21b1 : decide (0 < t199.length) = true := decide_eq_true (by omega)
         clear c21
         by_cases c22 : ((rdOf ByteArray.empty t199 0).size : Int) = (yc1.size : Int)
         ·rw [if_pos c22] at H
          have c22b0 : (((rdOf ByteArray.empty t199 0).size : Int) == (yc1.size : Int)) = true := beq_iff_eq.mpr c22
          have c22b1 : (((rdOf ByteArray.empty t199 0).size : Int) != (yc1.size : Int)) = false := bne_eq_false_iff_eq.mpr c22
          have c22b2 : ((rdOf ByteArray.empty t199 0).size == yc1.size) = true := by first | simpa using c22 | (simp at c22 ⊢; omega)
          clear c22
          simp only [Option.some.injEq, Prod.mk.injEq] at H
          obtain ⟨rfl, rfl, rfl⟩ := H
          go_wp2_with (first | ((with_reducible refine gate_callee (f := 68) rfl ?_); refine goesL_ (some 37) rfl rfl Tryd.func68 (by kernel_rfl) rfl #[.string yc1, .int .u8 64] rfl ZZ19826e ?_; (with_reducible refine (spec_l1Split.calls kj6 yc1 64 t199 _ A20.out).mono ?_); rintro e w23 ⟨v200, rfl, ho0, hb⟩; refine ⟨_, rfl, ?_⟩; have n0_ := Aside0.mk (Kd.R_lower ho0 (below_size ZZb1ac1f)); have n1_ := Aside0.mk (blk_below (g := gb193) (o := .cells #[.string (⟨#[]⟩ : ByteArray), .string (⟨#[]⟩ : ByteArray)] 27 (0, 0)) ZZcda0cd hb); have n2_ := Aside0.mk (below_step ZZb1ac1f hb); clear BK193; clear HB; have HO201 := n0_; have BK193 := n1_; have HB := n2_; clear n0_ n1_ n2_; (try clear hb); (try clear hb2); (try clear hk); (try clear hi); (try clear ho0); obtain ⟨Ao24, co24, eo24⟩ := Kd.R_slice HO201.out; subst eo24; have p202 : 0 ≤ (0 : Int) := (by omega); have q202 : 0 < (t199.length : Int) := of_decide_eq_true ZZ853400; obtain ⟨ad202, e202, hx202_0⟩ := Kd.at_string (Kd.R_reads' HO201.out).2.2 0 p202 q202; cases e202; have qi202 : (0 < t199.length) = True := eq_true (by omega); (try rw [show ((0 : Int)).toNat = 0 from rfl] at hx202_0); (try rw [Addr.add_zero'] at hx202_0); replace p202 := eq_true p202; replace q202 := eq_true q202; have hcz25_0 : w23.cell? ⟨gb193, 0, none⟩ = some (.string (⟨#[]⟩ : ByteArray)) := (blk_cell BK193.out 0).trans rfl; have hcz25_1 : w23.cell? ⟨gb193, 1, none⟩ = some (.string (⟨#[]⟩ : ByteArray)) := (blk_cell BK193.out 1).trans rfl; have hfz25_0 := blk_frozen BK193.out 0; have hfz25_1 := blk_frozen BK193.out 1))
          refine bodyPost_ret (results_ct rfl _ _ gb193 27 #[.string (⟨#[]⟩ : ByteArray), .string (⟨#[]⟩ : ByteArray)] (0, 0) _ rfl (by (with_reducible repeat (first | refine blk_drewN ?_ _ | refine blk_drew ?_ | refine blk_alloc ?_ _)); refine blk_put (cs := #[.string (⟨#[]⟩ : ByteArray), .string (⟨#[]⟩ : ByteArray)]) ?_ 1 _ rfl; (with_reducible repeat (first | refine blk_drewN ?_ _ | refine blk_drew ?_ | refine blk_alloc ?_ _)); refine blk_put (cs := #[.string (⟨#[]⟩ : ByteArray), .string (⟨#[]⟩ : ByteArray)]) ?_ 0 _ rfl; (with_reducible repeat (first | refine blk_drewN ?_ _ | refine blk_drew ?_ | refine blk_alloc ?_ _)); exact BK193.out) Tryd.underlying27 rfl (by kernel_rfl)) rfl ?_
          exact ⟨by first | rfl | (simp [errW_none, errW_some] <;> rfl) | (simp [*, errW_none, errW_some] <;> rfl), by repeat (first | (with_reducible first | exact HB.out | apply below_alloc | apply pw_below_drewN | apply below_drew1 | refine below_set ?_ GE193.out) | exact HB.out)⟩
         ·rw [if_neg c22] at H
          have c22b0 : (((rdOf ByteArray.empty t199 0).size : Int) == (yc1.size : Int)) = false := beq_eq_false_iff_ne.mpr c22
          have c22b1 : (((rdOf ByteArray.empty t199 0).size : Int) != (yc1.size : Int)) = true := bne_iff_ne.mpr c22
          have c22b2 : ((rdOf ByteArray.empty t199 0).size == yc1.size) = false := by first | simpa using c22 | (simp at c22 ⊢; omega)
          obtain ⟨ji26, hji26⟩ : ∃ j_ : Int, (wrap64 (((rdOf ByteArray.empty t199 0).size : Int) + 1)) = j_ := ⟨_, rfl⟩
          replace H : (if 0 ≤ (ji26) then (if (ji26) ≤ (yc1.size : Int) then ((spec_l27Good.f kj6 (rdOf ByteArray.empty t199 0) (yc1.extract ((ji26) : Int).toNat yc1.size)).bind fun t204 => (if t204 = true then ((spec_l27Line.f kj6 a1 (rdOf ByteArray.empty t199 0) (yc1.extract ((ji26) : Int).toNat yc1.size)).bind fun t205 => (if a0.size + 1 ≤ 9223372036854775807 then (some (rdOf ByteArray.empty t199 0, yc1.extract ((ji26) : Int).toNat yc1.size, (t205.toList == (a0 ++ (⟨#[10]⟩ : ByteArray)).toList))) else (none))) else (some (rdOf ByteArray.empty t199 0, yc1.extract ((ji26) : Int).toNat yc1.size, false)))) else (none)) else (none)) = some (r1, r2, r3) := by first | (rw [hji26] at H; exact H) | (simp only [hji26] at H ⊢; exact H)
          (try rw [hji26] at A20)
          have hji26w : (IntKind.i64.wrap (((rdOf ByteArray.empty t199 0).size : Int) + 1)) = ji26 := (i64_w _).trans hji26
          by_cases c27 : 0 ≤ (ji26)
          ·rw [if_pos c27] at H
           have c27b0 := eq_true c27
           have c27b1 : decide (0 ≤ (ji26)) = true := decide_eq_true c27
           clear c27
           by_cases c28 : (ji26) ≤ (yc1.size : Int)
           ·rw [if_pos c28] at H
            have c28b0 := eq_true c28
            have c28b1 : decide ((ji26) ≤ (yc1.size : Int)) = true := decide_eq_true c28
            clear c28
            replace H := Option.bind_eq_some_iff.mp H
            obtain ⟨t204, A290, H⟩ := H
            replace H : (if t204 = true then ((spec_l27Line.f kj6 a1 (rdOf ByteArray.empty t199 0) (yc1.extract ((ji26) : Int).toNat yc1.size)).bind fun t205 => (if a0.size + 1 ≤ 9223372036854775807 then (some (rdOf ByteArray.empty t199 0, yc1.extract ((ji26) : Int).toNat yc1.size, (t205.toList == (a0 ++ (⟨#[10]⟩ : ByteArray)).toList))) else (none))) else (some (rdOf ByteArray.empty t199 0, yc1.extract ((ji26) : Int).toNat yc1.size, false))) = some (r1, r2, r3) := H
            have A29 := Aside0.mk A290
            clear A290
            by_cases c30 : t204 = true
            ·subst c30
             have H1 : ((spec_l27Line.f kj6 a1 (rdOf ByteArray.empty t199 0) (yc1.extract ((ji26) : Int).toNat yc1.size)).bind fun t205 => (if a0.size + 1 ≤ 9223372036854775807 then (some (rdOf ByteArray.empty t199 0, yc1.extract ((ji26) : Int).toNat yc1.size, (t205.toList == (a0 ++ (⟨#[10]⟩ : ByteArray)).toList))) else (none))) = some (r1, r2, r3) := by rw [if_pos rfl] at H; exact H
             clear H
             have H := H1
             clear H1
             replace H := Option.bind_eq_some_iff.mp H
             obtain ⟨t205, A310, H⟩ := H
             replace H : (if a0.size + 1 ≤ 9223372036854775807 then (some (rdOf ByteArray.empty t199 0, yc1.extract ((ji26) : Int).toNat yc1.size, (t205.toList == (a0 ++ (⟨#[10]⟩ : ByteArray)).toList))) else (none)) = some (r1, r2, r3) := H
             have A31 := Aside0.mk A310
             clear A310
             by_cases c32 : a0.size + 1 ≤ 9223372036854775807
             ·rw [if_pos c32] at H
              have c32b0 := eq_true c32
              have c32b1 : decide (a0.size + 1 ≤ 9223372036854775807) = true := decide_eq_true c32
              try have c32b2 : (9223372036854775807 < a0.size + 1) = False := eq_false (Nat.not_lt.2 c32)
              simp only [Option.some.injEq, Prod.mk.injEq] at H
              obtain ⟨rfl, rfl, rfl⟩ := H
              try go_wp2_with (first | ((with_reducible refine gate_callee (f := 68) rfl ?_); refine goesL_ (some 37) rfl rfl Tryd.func68 (by kernel_rfl) rfl #[.string yc1, .int .u8 64] rfl ZZ19826e ?_; (with_reducible refine (spec_l1Split.calls kj6 yc1 64 t199 _ A20.out).mono ?_); rintro e w33 ⟨v200, rfl, ho0, hb⟩; refine ⟨_, rfl, ?_⟩; have n0_ := Aside0.mk (Kd.R_lower ho0 (below_size ZZb1ac1f)); have n1_ := Aside0.mk (blk_below (g := gb193) (o := .cells #[.string (⟨#[]⟩ : ByteArray), .string (⟨#[]⟩ : ByteArray)] 27 (0, 0)) ZZcda0cd hb); have n2_ := Aside0.mk (below_step ZZb1ac1f hb); clear BK193; clear HB; have HO201 := n0_; have BK193 := n1_; have HB := n2_; clear n0_ n1_ n2_; (try clear hb); (try clear hb2); (try clear hk); (try clear hi); (try clear ho0); obtain ⟨Ao34, co34, eo34⟩ := Kd.R_slice HO201.out; subst eo34; have p202 : 0 ≤ (0 : Int) := (by omega); have q202 : 0 < (t199.length : Int) := of_decide_eq_true ZZ853400; obtain ⟨ad202, e202, hx202_0⟩ := Kd.at_string (Kd.R_reads' HO201.out).2.2 0 p202 q202; cases e202; have qi202 : (0 < t199.length) = True := eq_true (by omega); (try rw [show ((0 : Int)).toNat = 0 from rfl] at hx202_0); (try rw [Addr.add_zero'] at hx202_0); replace p202 := eq_true p202; replace q202 := eq_true q202) | ((with_reducible refine gate_dst (N := 10) rfl ?_); (try (refine gate_guard (by rfl) ?_; dsimp only)); refine box_event ?hg (N := 10) ?hd (cs := #[.string (⟨#[]⟩ : ByteArray), .string (⟨#[]⟩ : ByteArray)]) (t := 27) ?hr ?_; (case hd => rfl); (case hg => rfl); (case hr => first | (go_simp; done) | (go_simp; rfl)); intro gb203 hg w35 hbox hb; have n0_ := Aside0.mk (Kd.R_below (by (with_reducible repeat (first | apply Kd.R_alloc | apply Kd.R_drewN | apply Kd.R_drew)); exact HO201.out) hb); have n1_ := Aside0.mk (blk_below (g := gb193) (o := .cells #[.string (⟨#[]⟩ : ByteArray), .string (⟨#[]⟩ : ByteArray)] 27 (0, 0)) ZZcda0cd hb); have n2_ := Aside0.mk (below_step ZZb1ac1f hb); have n3_ := Aside0.mk (hbox); have n4_ := Aside0.mk ((by rw [hg]; exact (below_size ZZb1ac1f) : w.heap.size ≤ gb203)); have n5_ := Aside0.mk ((by rw [hg]; exact (below_size ZZb1ac1f) : w.heap.size ≤ gb203)); have n6_ := Aside0.mk ((by rw [hg]; exact Nat.ne_of_lt (blk_lt (g := gb193) (o := .cells #[.string (⟨#[]⟩ : ByteArray), .string (⟨#[]⟩ : ByteArray)] 27 (0, 0)) ZZcda0cd) : gb193 ≠ gb203)); have n7_ := Aside0.mk ((by rw [hg]; exact Nat.ne_of_gt (blk_lt (g := gb193) (o := .cells #[.string (⟨#[]⟩ : ByteArray), .string (⟨#[]⟩ : ByteArray)] 27 (0, 0)) ZZcda0cd) : gb203 ≠ gb193)); clear HO201; clear BK193; clear HB; have HO201 := n0_; have BK193 := n1_; have HB := n2_; have BK203 := n3_; have GW203 := n4_; have GE203 := n5_; have NB193_203 := n6_; have NB203_193 := n7_; clear n0_ n1_ n2_ n3_ n4_ n5_ n6_ n7_; clear hb hbox hg; have hnb36 := NB203_193.out; have hnc36 := NB193_203.out; have hcz37_0 : w35.cell? ⟨gb203, 0, none⟩ = some (.string (⟨#[]⟩ : ByteArray)) := (blk_cell BK203.out 0).trans rfl; have hcz37_1 : w35.cell? ⟨gb203, 1, none⟩ = some (.string (⟨#[]⟩ : ByteArray)) := (blk_cell BK203.out 1).trans rfl; have hfz37_0 := blk_frozen BK203.out 0; have hfz37_1 := blk_frozen BK203.out 1))
              have n0_ : Aside0 (Kd.R Kd.string 9 ((w35.setCell ⟨gb203, 0, none⟩ (.string (rdOf ByteArray.empty t199 0))).setCell ⟨gb203, 1, none⟩ (.string (yc1.extract ((ji26) : Int).toNat yc1.size))) w.heap.size (fun _ => True) (.slice (some ad202) t199.length co34) t199) := ⟨by (with_reducible repeat (first | apply Kd.R_alloc | apply Kd.R_drewN | apply Kd.R_drew)); exact Kd.R_mono (Kd.R_far (p := ⟨gb203, 1, none⟩) (Kd.R_far (p := ⟨gb203, 0, none⟩) (Kd.R_types HO201.out BK203.out (by decide)) (fun _ hk => hk.2) (.string (rdOf ByteArray.empty t199 0))) (fun _ hk => hk.2) (.string (yc1.extract ((ji26) : Int).toNat yc1.size))) (fun _ hk => trivial)⟩
              have n1_ : Aside0 (((w35.setCell ⟨gb203, 0, none⟩ (.string (rdOf ByteArray.empty t199 0))).setCell ⟨gb203, 1, none⟩ (.string (yc1.extract ((ji26) : Int).toNat yc1.size))).heap[gb193]? = some (.cells #[.string (⟨#[]⟩ : ByteArray), .string (⟨#[]⟩ : ByteArray)] 27 (0, 0))) := ⟨by (with_reducible repeat (first | refine blk_drewN ?_ _ | refine blk_drew ?_ | refine blk_alloc ?_ _)); refine blk_far ?_ NB193_203.out _; (with_reducible repeat (first | refine blk_drewN ?_ _ | refine blk_drew ?_ | refine blk_alloc ?_ _)); refine blk_far ?_ NB193_203.out _; (with_reducible repeat (first | refine blk_drewN ?_ _ | refine blk_drew ?_ | refine blk_alloc ?_ _)); exact BK193.out⟩
              have n2_ : Aside0 (((w35.setCell ⟨gb203, 0, none⟩ (.string (rdOf ByteArray.empty t199 0))).setCell ⟨gb203, 1, none⟩ (.string (yc1.extract ((ji26) : Int).toNat yc1.size))).heap[gb203]? = some (.cells #[.string (rdOf ByteArray.empty t199 0), .string (yc1.extract ((ji26) : Int).toNat yc1.size)] 27 (0, 0))) := ⟨by (with_reducible repeat (first | refine blk_drewN ?_ _ | refine blk_drew ?_ | refine blk_alloc ?_ _)); refine blk_put (cs := #[.string (rdOf ByteArray.empty t199 0), .string (⟨#[]⟩ : ByteArray)]) ?_ 1 _ rfl; (with_reducible repeat (first | refine blk_drewN ?_ _ | refine blk_drew ?_ | refine blk_alloc ?_ _)); refine blk_put (cs := #[.string (⟨#[]⟩ : ByteArray), .string (⟨#[]⟩ : ByteArray)]) ?_ 0 _ rfl; (with_reducible repeat (first | refine blk_drewN ?_ _ | refine blk_drew ?_ | refine blk_alloc ?_ _)); exact BK203.out⟩
              have n3_ : Aside0 (Below w.heap.size w ((w35.setCell ⟨gb203, 0, none⟩ (.string (rdOf ByteArray.empty t199 0))).setCell ⟨gb203, 1, none⟩ (.string (yc1.extract ((ji26) : Int).toNat yc1.size)))) := ⟨by repeat (first | (with_reducible first | exact HB.out | apply below_alloc | apply pw_below_drewN | apply below_drew1 | refine below_set ?_ GE193.out | refine below_set ?_ GE203.out) | exact HB.out)⟩
              (try clear HO201)
              (try clear BK193)
              (try clear BK203)
              (try clear HB)
              generalize ((w35.setCell ⟨gb203, 0, none⟩ (.string (rdOf ByteArray.empty t199 0))).setCell ⟨gb203, 1, none⟩ (.string (yc1.extract ((ji26) : Int).toNat yc1.size))) = w38 at n0_ n1_ n2_ n3_ ⊢
              have HO201 := n0_
              have BK193 := n1_
              have BK203 := n2_
              have HB := n3_
              clear n0_ n1_ n2_ n3_
              have n0_ := Aside0.mk (Kd.R_drew HO201.out)
              have n1_ := Aside0.mk (blk_drew BK193.out)
              have n2_ := Aside0.mk (blk_drew BK203.out)
              have n3_ := Aside0.mk (below_drew1 HB.out)
              clear HO201
              clear BK193
              clear BK203
              clear HB
              have HO201 := n0_
              have BK193 := n1_
              have BK203 := n2_
              have HB := n3_
              clear n0_ n1_ n2_ n3_
              refine start_ (n := 13) (S := fun w' => w'.cell? ⟨gb203, 0, none⟩ = some (.string (rdOf ByteArray.empty t199 0)) ∧ w'.cell? ⟨gb203, 1, none⟩ = some (.string (yc1.extract ((ji26) : Int).toNat yc1.size))) (ds := []) #[false, false, false, false, false, false, false, false, false, false, false, false, false] (by kernel_rfl) rfl rfl ⟨(blk_cell BK203.out 0).trans rfl, (blk_cell BK203.out 1).trans rfl⟩ (fun hHeld => ?_); refine with_tabW spec_l27Read.tab10 spec_l27Read.bits10 (fun HT_ HW_ => ?_)
              generalize w38.drew = w39 at HO201 BK193 BK203 HB hHeld ⊢
              refine tk 0 53 ?_
              refine tk 1 54 ?_
              refine one_ (i := 2) (N := some 55) #[true, true, true, false, false, false, false, false, false, false, false, false, false] rfl rfl (one_of HT_.out (by kernel_rfl)) (by decide) (fun K hK => ?_)
              refine goes_ Tryd.func43 (by kernel_rfl) rfl #[.agg #[.string (rdOf ByteArray.empty t199 0), .string (yc1.extract ((ji26) : Int).toNat yc1.size)]] (by rfl) rfl rfl (by (try simp only [List.map_toArray, List.map_cons, List.map_nil]); first | done | (simp only [hji26]; rfl) | rfl | (simp only [List.length_drop, List.length_take]; rfl)) ?_
              with_reducible refine (spec_l27Good.calls kj6 (rdOf ByteArray.empty t199 0) (yc1.extract ((ji26) : Int).toNat yc1.size) true _ A29.out).mono ?_
              rintro e w40 ⟨rfl, hb⟩
              refine ⟨_, rfl, ?_⟩
              have n0_ := Aside0.mk (Kd.R_below (by (with_reducible repeat (first | apply Kd.R_alloc | apply Kd.R_drewN | apply Kd.R_drew)); exact HO201.out) hb)
              have n1_ := Aside0.mk (blk_below (g := gb193) (o := .cells #[.string (⟨#[]⟩ : ByteArray), .string (⟨#[]⟩ : ByteArray)] 27 (0, 0)) ZZcda0cd hb)
              have n2_ := Aside0.mk (blk_below (g := gb203) (o := .cells #[.string (rdOf ByteArray.empty t199 0), .string (yc1.extract ((ji26) : Int).toNat yc1.size)] 27 (0, 0)) (by (with_reducible repeat (first | refine blk_drewN ?_ _ | refine blk_drew ?_ | refine blk_alloc ?_ _)); exact BK203.out) hb)
              have n3_ := Aside0.mk (below_step (by repeat (first | (with_reducible first | exact HB.out | apply below_alloc | apply pw_below_drewN | apply below_drew1 | refine below_set ?_ GE193.out | refine below_set ?_ GE203.out) | exact HB.out)) hb)
              clear HO201
              clear BK193
              clear BK203
              clear HB
              have HO201 := n0_
              have BK193 := n1_
              have BK203 := n2_
              have HB := n3_
              clear n0_ n1_ n2_ n3_
              (try clear hb)
              (try clear hb2)
              (try clear hk)
              (try clear hi)
              refine hK.out _ _ ⟨(blk_cell BK203.out 0).trans rfl, (blk_cell BK203.out 1).trans rfl⟩ (fun hHeld => ?_)
              clear hK K
              refine norm_ (a' := ?_) ?_ ?_
              rotate_left
              ·show Act.put _ (some 55) _ = _
               simp only [Act.put, List.setIfInBounds_toArray, List.set_cons_zero, List.set_cons_succ, i64_w, i32_w]
               rfl
              refine pu 3 56 ?_
              refine pu 4 57 ?_
              refine pu 7 60 ?_
              refine pu 8 61 ?_
              refine tk 5 58 ?_
              refine one_ (i := 6) (N := some 59) #[true, true, true, true, true, true, true, true, true, false, false, false, false] rfl rfl (one_of HT_.out (by kernel_rfl)) (by decide) (fun K hK => ?_)
              refine goes_ Tryd.func44 (by kernel_rfl) rfl #[.int .i64 a1, .agg #[.string (rdOf ByteArray.empty t199 0), .string (yc1.extract ((ji26) : Int).toNat yc1.size)]] (by rfl) rfl rfl (by (try simp only [List.map_toArray, List.map_cons, List.map_nil]); first | done | (simp only [hji26]; rfl) | rfl | (simp only [List.length_drop, List.length_take]; rfl)) ?_
              with_reducible refine (spec_l27Line.calls kj6 a1 (rdOf ByteArray.empty t199 0) (yc1.extract ((ji26) : Int).toNat yc1.size) t205 _ A31.out).mono ?_
              rintro e w41 ⟨rfl, hb⟩
              refine ⟨_, rfl, ?_⟩
              have n0_ := Aside0.mk (Kd.R_below (by (with_reducible repeat (first | apply Kd.R_alloc | apply Kd.R_drewN | apply Kd.R_drew)); exact HO201.out) hb)
              have n1_ := Aside0.mk (blk_below (g := gb193) (o := .cells #[.string (⟨#[]⟩ : ByteArray), .string (⟨#[]⟩ : ByteArray)] 27 (0, 0)) ZZcda0cd hb)
              have n2_ := Aside0.mk (blk_below (g := gb203) (o := .cells #[.string (rdOf ByteArray.empty t199 0), .string (yc1.extract ((ji26) : Int).toNat yc1.size)] 27 (0, 0)) (by (with_reducible repeat (first | refine blk_drewN ?_ _ | refine blk_drew ?_ | refine blk_alloc ?_ _)); exact BK203.out) hb)
              have n3_ := Aside0.mk (below_step (by repeat (first | (with_reducible first | exact HB.out | apply below_alloc | apply pw_below_drewN | apply below_drew1 | refine below_set ?_ GE193.out | refine below_set ?_ GE203.out) | exact HB.out)) hb)
              clear HO201
              clear BK193
              clear BK203
              clear HB
              have HO201 := n0_
              have BK193 := n1_
              have BK203 := n2_
              have HB := n3_
              clear n0_ n1_ n2_ n3_
              (try clear hb)
              (try clear hb2)
              (try clear hk)
              (try clear hi)
              refine hK.out _ _ ⟨(blk_cell BK203.out 0).trans rfl, (blk_cell BK203.out 1).trans rfl⟩ (fun hHeld => ?_)
              clear hK K
              refine norm_ (a' := ?_) ?_ ?_
              rotate_left
              ·show Act.put _ (some 59) _ = _
               simp only [Act.put, List.setIfInBounds_toArray, List.set_cons_zero, List.set_cons_succ, i64_w, i32_w]
               rfl
              refine pu 9 62 ?_
              refine pu 10 63 ?_
              refine one_ (i := 11) (N := none) #[true, true, true, true, true, true, true, true, true, true, true, true, false] rfl rfl (one_of HT_.out (by kernel_rfl)) (by decide) (fun K hK => ?_)
              have hs42 : w41.cell? ⟨gb193, 0, none⟩ = some (.string (⟨#[]⟩ : ByteArray)) := (blk_cell BK193.out 0).trans rfl
              have hfs42 := blk_frozen BK193.out 0
              have hns42_1 := NB203_193.out
              have hms42_1 := NB193_203.out
              have hs43 : w41.cell? ⟨gb193, 1, none⟩ = some (.string (⟨#[]⟩ : ByteArray)) := (blk_cell BK193.out 1).trans rfl
              have hfs43 := blk_frozen BK193.out 1
              have hns43_1 := NB203_193.out
              have hms43_1 := NB193_203.out
              refine skip_ (w1 := ?_) (by rfl) rfl ?_ ?_
              rotate_left
              ·go_simp
               rfl
              refine hK.out _ _ ⟨((cell_far (p := ⟨gb193, _, none⟩) NB203_193.out _).trans (((cell_far (p := ⟨gb193, _, none⟩) NB203_193.out _).trans (hHeld.1)))), ((cell_far (p := ⟨gb193, _, none⟩) NB203_193.out _).trans (((cell_far (p := ⟨gb193, _, none⟩) NB203_193.out _).trans (hHeld.2))))⟩ (fun hHeld => ?_)
              clear hK K
              refine pu 12 5 ?_
              refine done_ (done_of HT_.out (by kernel_rfl)) ?_
              try go_wp2
              refine bodyPost_ret (results_ct rfl _ _ gb193 27 #[.string (rdOf ByteArray.empty t199 0), .string (yc1.extract ((ji26) : Int).toNat yc1.size)] (0, 0) _ rfl (by (with_reducible repeat (first | refine blk_drewN ?_ _ | refine blk_drew ?_ | refine blk_alloc ?_ _)); refine blk_put (cs := #[.string (rdOf ByteArray.empty t199 0), .string (⟨#[]⟩ : ByteArray)]) ?_ 1 _ rfl; (with_reducible repeat (first | refine blk_drewN ?_ _ | refine blk_drew ?_ | refine blk_alloc ?_ _)); refine blk_put (cs := #[.string (⟨#[]⟩ : ByteArray), .string (⟨#[]⟩ : ByteArray)]) ?_ 0 _ rfl; (with_reducible repeat (first | refine blk_drewN ?_ _ | refine blk_drew ?_ | refine blk_alloc ?_ _)); exact BK193.out) Tryd.underlying27 rfl (by kernel_rfl)) rfl ?_
              exact ⟨by first | rfl | (simp [errW_none, errW_some] <;> rfl) | (simp only [← hji26]; first | rfl | (simp [errW_none, errW_some] <;> rfl)) | (simp [*, errW_none, errW_some] <;> rfl), by repeat (first | (with_reducible first | exact HB.out | apply below_alloc | apply pw_below_drewN | apply below_drew1 | refine below_set ?_ GE193.out | refine below_set ?_ GE203.out) | exact HB.out)⟩
             ·rw [if_neg c32] at H
              exact absurd H (by simp)
            ·replace c30 := Bool.eq_false_iff.mpr c30
             subst c30
             have H1 : (some (rdOf ByteArray.empty t199 0, yc1.extract ((ji26) : Int).toNat yc1.size, false)) = some (r1, r2, r3) := by rw [if_neg (show ¬ (false = true) by decide)] at H; exact H
             clear H
             have H := H1
             clear H1
             simp only [Option.some.injEq, Prod.mk.injEq] at H
             obtain ⟨rfl, rfl, rfl⟩ := H
             try go_wp2_with (first | ((with_reducible refine gate_callee (f := 68) rfl ?_); refine goesL_ (some 37) rfl rfl Tryd.func68 (by kernel_rfl) rfl #[.string yc1, .int .u8 64] rfl ZZ19826e ?_; (with_reducible refine (spec_l1Split.calls kj6 yc1 64 t199 _ A20.out).mono ?_); rintro e w44 ⟨v200, rfl, ho0, hb⟩; refine ⟨_, rfl, ?_⟩; have n0_ := Aside0.mk (Kd.R_lower ho0 (below_size ZZb1ac1f)); have n1_ := Aside0.mk (blk_below (g := gb193) (o := .cells #[.string (⟨#[]⟩ : ByteArray), .string (⟨#[]⟩ : ByteArray)] 27 (0, 0)) ZZcda0cd hb); have n2_ := Aside0.mk (below_step ZZb1ac1f hb); clear BK193; clear HB; have HO201 := n0_; have BK193 := n1_; have HB := n2_; clear n0_ n1_ n2_; (try clear hb); (try clear hb2); (try clear hk); (try clear hi); (try clear ho0); obtain ⟨Ao45, co45, eo45⟩ := Kd.R_slice HO201.out; subst eo45; have p202 : 0 ≤ (0 : Int) := (by omega); have q202 : 0 < (t199.length : Int) := of_decide_eq_true ZZ853400; obtain ⟨ad202, e202, hx202_0⟩ := Kd.at_string (Kd.R_reads' HO201.out).2.2 0 p202 q202; cases e202; have qi202 : (0 < t199.length) = True := eq_true (by omega); (try rw [show ((0 : Int)).toNat = 0 from rfl] at hx202_0); (try rw [Addr.add_zero'] at hx202_0); replace p202 := eq_true p202; replace q202 := eq_true q202) | ((with_reducible refine gate_dst (N := 10) rfl ?_); (try (refine gate_guard (by rfl) ?_; dsimp only)); refine box_event ?hg (N := 10) ?hd (cs := #[.string (⟨#[]⟩ : ByteArray), .string (⟨#[]⟩ : ByteArray)]) (t := 27) ?hr ?_; (case hd => rfl); (case hg => rfl); (case hr => first | (go_simp; done) | (go_simp; rfl)); intro gb203 hg w46 hbox hb; have n0_ := Aside0.mk (Kd.R_below (by (with_reducible repeat (first | apply Kd.R_alloc | apply Kd.R_drewN | apply Kd.R_drew)); exact HO201.out) hb); have n1_ := Aside0.mk (blk_below (g := gb193) (o := .cells #[.string (⟨#[]⟩ : ByteArray), .string (⟨#[]⟩ : ByteArray)] 27 (0, 0)) ZZcda0cd hb); have n2_ := Aside0.mk (below_step ZZb1ac1f hb); have n3_ := Aside0.mk (hbox); have n4_ := Aside0.mk ((by rw [hg]; exact (below_size ZZb1ac1f) : w.heap.size ≤ gb203)); have n5_ := Aside0.mk ((by rw [hg]; exact (below_size ZZb1ac1f) : w.heap.size ≤ gb203)); have n6_ := Aside0.mk ((by rw [hg]; exact Nat.ne_of_lt (blk_lt (g := gb193) (o := .cells #[.string (⟨#[]⟩ : ByteArray), .string (⟨#[]⟩ : ByteArray)] 27 (0, 0)) ZZcda0cd) : gb193 ≠ gb203)); have n7_ := Aside0.mk ((by rw [hg]; exact Nat.ne_of_gt (blk_lt (g := gb193) (o := .cells #[.string (⟨#[]⟩ : ByteArray), .string (⟨#[]⟩ : ByteArray)] 27 (0, 0)) ZZcda0cd) : gb203 ≠ gb193)); clear HO201; clear BK193; clear HB; have HO201 := n0_; have BK193 := n1_; have HB := n2_; have BK203 := n3_; have GW203 := n4_; have GE203 := n5_; have NB193_203 := n6_; have NB203_193 := n7_; clear n0_ n1_ n2_ n3_ n4_ n5_ n6_ n7_; clear hb hbox hg; have hnb47 := NB203_193.out; have hnc47 := NB193_203.out; have hcz48_0 : w46.cell? ⟨gb203, 0, none⟩ = some (.string (⟨#[]⟩ : ByteArray)) := (blk_cell BK203.out 0).trans rfl; have hcz48_1 : w46.cell? ⟨gb203, 1, none⟩ = some (.string (⟨#[]⟩ : ByteArray)) := (blk_cell BK203.out 1).trans rfl; have hfz48_0 := blk_frozen BK203.out 0; have hfz48_1 := blk_frozen BK203.out 1))
             have n0_ : Aside0 (Kd.R Kd.string 9 ((w46.setCell ⟨gb203, 0, none⟩ (.string (rdOf ByteArray.empty t199 0))).setCell ⟨gb203, 1, none⟩ (.string (yc1.extract ((ji26) : Int).toNat yc1.size))) w.heap.size (fun _ => True) (.slice (some ad202) t199.length co45) t199) := ⟨by (with_reducible repeat (first | apply Kd.R_alloc | apply Kd.R_drewN | apply Kd.R_drew)); exact Kd.R_mono (Kd.R_far (p := ⟨gb203, 1, none⟩) (Kd.R_far (p := ⟨gb203, 0, none⟩) (Kd.R_types HO201.out BK203.out (by decide)) (fun _ hk => hk.2) (.string (rdOf ByteArray.empty t199 0))) (fun _ hk => hk.2) (.string (yc1.extract ((ji26) : Int).toNat yc1.size))) (fun _ hk => trivial)⟩
             have n1_ : Aside0 (((w46.setCell ⟨gb203, 0, none⟩ (.string (rdOf ByteArray.empty t199 0))).setCell ⟨gb203, 1, none⟩ (.string (yc1.extract ((ji26) : Int).toNat yc1.size))).heap[gb193]? = some (.cells #[.string (⟨#[]⟩ : ByteArray), .string (⟨#[]⟩ : ByteArray)] 27 (0, 0))) := ⟨by (with_reducible repeat (first | refine blk_drewN ?_ _ | refine blk_drew ?_ | refine blk_alloc ?_ _)); refine blk_far ?_ NB193_203.out _; (with_reducible repeat (first | refine blk_drewN ?_ _ | refine blk_drew ?_ | refine blk_alloc ?_ _)); refine blk_far ?_ NB193_203.out _; (with_reducible repeat (first | refine blk_drewN ?_ _ | refine blk_drew ?_ | refine blk_alloc ?_ _)); exact BK193.out⟩
             have n2_ : Aside0 (((w46.setCell ⟨gb203, 0, none⟩ (.string (rdOf ByteArray.empty t199 0))).setCell ⟨gb203, 1, none⟩ (.string (yc1.extract ((ji26) : Int).toNat yc1.size))).heap[gb203]? = some (.cells #[.string (rdOf ByteArray.empty t199 0), .string (yc1.extract ((ji26) : Int).toNat yc1.size)] 27 (0, 0))) := ⟨by (with_reducible repeat (first | refine blk_drewN ?_ _ | refine blk_drew ?_ | refine blk_alloc ?_ _)); refine blk_put (cs := #[.string (rdOf ByteArray.empty t199 0), .string (⟨#[]⟩ : ByteArray)]) ?_ 1 _ rfl; (with_reducible repeat (first | refine blk_drewN ?_ _ | refine blk_drew ?_ | refine blk_alloc ?_ _)); refine blk_put (cs := #[.string (⟨#[]⟩ : ByteArray), .string (⟨#[]⟩ : ByteArray)]) ?_ 0 _ rfl; (with_reducible repeat (first | refine blk_drewN ?_ _ | refine blk_drew ?_ | refine blk_alloc ?_ _)); exact BK203.out⟩
             have n3_ : Aside0 (Below w.heap.size w ((w46.setCell ⟨gb203, 0, none⟩ (.string (rdOf ByteArray.empty t199 0))).setCell ⟨gb203, 1, none⟩ (.string (yc1.extract ((ji26) : Int).toNat yc1.size)))) := ⟨by repeat (first | (with_reducible first | exact HB.out | apply below_alloc | apply pw_below_drewN | apply below_drew1 | refine below_set ?_ GE193.out | refine below_set ?_ GE203.out) | exact HB.out)⟩
             (try clear HO201)
             (try clear BK193)
             (try clear BK203)
             (try clear HB)
             generalize ((w46.setCell ⟨gb203, 0, none⟩ (.string (rdOf ByteArray.empty t199 0))).setCell ⟨gb203, 1, none⟩ (.string (yc1.extract ((ji26) : Int).toNat yc1.size))) = w49 at n0_ n1_ n2_ n3_ ⊢
             have HO201 := n0_
             have BK193 := n1_
             have BK203 := n2_
             have HB := n3_
             clear n0_ n1_ n2_ n3_
             have n0_ := Aside0.mk (Kd.R_drew HO201.out)
             have n1_ := Aside0.mk (blk_drew BK193.out)
             have n2_ := Aside0.mk (blk_drew BK203.out)
             have n3_ := Aside0.mk (below_drew1 HB.out)
             clear HO201
             clear BK193
             clear BK203
             clear HB
             have HO201 := n0_
             have BK193 := n1_
             have BK203 := n2_
             have HB := n3_
             clear n0_ n1_ n2_ n3_
             refine start_ (n := 13) (S := fun w' => w'.cell? ⟨gb203, 0, none⟩ = some (.string (rdOf ByteArray.empty t199 0)) ∧ w'.cell? ⟨gb203, 1, none⟩ = some (.string (yc1.extract ((ji26) : Int).toNat yc1.size))) (ds := []) #[false, false, false, false, false, false, false, false, false, false, false, false, false] (by kernel_rfl) rfl rfl ⟨(blk_cell BK203.out 0).trans rfl, (blk_cell BK203.out 1).trans rfl⟩ (fun hHeld => ?_); refine with_tabW spec_l27Read.tab10 spec_l27Read.bits10 (fun HT_ HW_ => ?_)
             generalize w49.drew = w50 at HO201 BK193 BK203 HB hHeld ⊢
             refine tk 0 53 ?_
             refine tk 1 54 ?_
             refine one_ (i := 2) (N := some 55) #[true, true, true, false, false, false, false, false, false, false, false, false, false] rfl rfl (one_of HT_.out (by kernel_rfl)) (by decide) (fun K hK => ?_)
             refine goes_ Tryd.func43 (by kernel_rfl) rfl #[.agg #[.string (rdOf ByteArray.empty t199 0), .string (yc1.extract ((ji26) : Int).toNat yc1.size)]] (by rfl) rfl rfl (by (try simp only [List.map_toArray, List.map_cons, List.map_nil]); first | done | (simp only [hji26]; rfl) | rfl | (simp only [List.length_drop, List.length_take]; rfl)) ?_
             with_reducible refine (spec_l27Good.calls kj6 (rdOf ByteArray.empty t199 0) (yc1.extract ((ji26) : Int).toNat yc1.size) false _ A29.out).mono ?_
             rintro e w51 ⟨rfl, hb⟩
             refine ⟨_, rfl, ?_⟩
             have n0_ := Aside0.mk (Kd.R_below (by (with_reducible repeat (first | apply Kd.R_alloc | apply Kd.R_drewN | apply Kd.R_drew)); exact HO201.out) hb)
             have n1_ := Aside0.mk (blk_below (g := gb193) (o := .cells #[.string (⟨#[]⟩ : ByteArray), .string (⟨#[]⟩ : ByteArray)] 27 (0, 0)) ZZcda0cd hb)
             have n2_ := Aside0.mk (blk_below (g := gb203) (o := .cells #[.string (rdOf ByteArray.empty t199 0), .string (yc1.extract ((ji26) : Int).toNat yc1.size)] 27 (0, 0)) (by (with_reducible repeat (first | refine blk_drewN ?_ _ | refine blk_drew ?_ | refine blk_alloc ?_ _)); exact BK203.out) hb)
             have n3_ := Aside0.mk (below_step (by repeat (first | (with_reducible first | exact HB.out | apply below_alloc | apply pw_below_drewN | apply below_drew1 | refine below_set ?_ GE193.out | refine below_set ?_ GE203.out) | exact HB.out)) hb)
             clear HO201
             clear BK193
             clear BK203
             clear HB
             have HO201 := n0_
             have BK193 := n1_
             have BK203 := n2_
             have HB := n3_
             clear n0_ n1_ n2_ n3_
             (try clear hb)
             (try clear hb2)
             (try clear hk)
             (try clear hi)
             refine hK.out _ _ ⟨(blk_cell BK203.out 0).trans rfl, (blk_cell BK203.out 1).trans rfl⟩ (fun hHeld => ?_)
             clear hK K
             refine norm_ (a' := ?_) ?_ ?_
             rotate_left
             ·show Act.put _ (some 55) _ = _
              simp only [Act.put, List.setIfInBounds_toArray, List.set_cons_zero, List.set_cons_succ, i64_w, i32_w]
              rfl
             refine pu 3 56 ?_
             refine pn 4 57 ?_
             refine pn 5 58 ?_
             refine pn 6 59 ?_
             refine pn 7 60 ?_
             refine pn 8 61 ?_
             refine pn 9 62 ?_
             refine pu 10 63 ?_
             refine one_ (i := 11) (N := none) #[true, true, true, true, true, true, true, true, true, true, true, true, false] rfl rfl (one_of HT_.out (by kernel_rfl)) (by decide) (fun K hK => ?_)
             have hs52 : w51.cell? ⟨gb193, 0, none⟩ = some (.string (⟨#[]⟩ : ByteArray)) := (blk_cell BK193.out 0).trans rfl
             have hfs52 := blk_frozen BK193.out 0
             have hns52_1 := NB203_193.out
             have hms52_1 := NB193_203.out
             have hs53 : w51.cell? ⟨gb193, 1, none⟩ = some (.string (⟨#[]⟩ : ByteArray)) := (blk_cell BK193.out 1).trans rfl
             have hfs53 := blk_frozen BK193.out 1
             have hns53_1 := NB203_193.out
             have hms53_1 := NB193_203.out
             refine skip_ (w1 := ?_) (by rfl) rfl ?_ ?_
             rotate_left
             ·go_simp
              rfl
             refine hK.out _ _ ⟨((cell_far (p := ⟨gb193, _, none⟩) NB203_193.out _).trans (((cell_far (p := ⟨gb193, _, none⟩) NB203_193.out _).trans (hHeld.1)))), ((cell_far (p := ⟨gb193, _, none⟩) NB203_193.out _).trans (((cell_far (p := ⟨gb193, _, none⟩) NB203_193.out _).trans (hHeld.2))))⟩ (fun hHeld => ?_)
             clear hK K
             refine pu 12 5 ?_
             refine done_ (done_of HT_.out (by kernel_rfl)) ?_
             try go_wp2
             refine bodyPost_ret (results_ct rfl _ _ gb193 27 #[.string (rdOf ByteArray.empty t199 0), .string (yc1.extract ((ji26) : Int).toNat yc1.size)] (0, 0) _ rfl (by (with_reducible repeat (first | refine blk_drewN ?_ _ | refine blk_drew ?_ | refine blk_alloc ?_ _)); refine blk_put (cs := #[.string (rdOf ByteArray.empty t199 0), .string (⟨#[]⟩ : ByteArray)]) ?_ 1 _ rfl; (with_reducible repeat (first | refine blk_drewN ?_ _ | refine blk_drew ?_ | refine blk_alloc ?_ _)); refine blk_put (cs := #[.string (⟨#[]⟩ : ByteArray), .string (⟨#[]⟩ : ByteArray)]) ?_ 0 _ rfl; (with_reducible repeat (first | refine blk_drewN ?_ _ | refine blk_drew ?_ | refine blk_alloc ?_ _)); exact BK193.out) Tryd.underlying27 rfl (by kernel_rfl)) rfl ?_
             exact ⟨by first | rfl | (simp [errW_none, errW_some] <;> rfl) | (simp only [← hji26]; first | rfl | (simp [errW_none, errW_some] <;> rfl)) | (simp [*, errW_none, errW_some] <;> rfl), by repeat (first | (with_reducible first | exact HB.out | apply below_alloc | apply pw_below_drewN | apply below_drew1 | refine below_set ?_ GE193.out | refine below_set ?_ GE203.out) | exact HB.out)⟩
           ·rw [if_neg c28] at H
            exact absurd H (by simp)
          ·rw [if_neg c27] at H
           exact absurd H (by simp)
        ·rw [if_neg c21] at H
         exact absurd H (by simp)
       ·rw [if_neg c19] at H
        exact absurd H (by simp)
      ·rw [if_neg c18] at H
       exact absurd H (by simp)
  ·rw [if_neg c6] at H
   exact absurd H (by simp)
 ·rw [if_neg c4] at H
  exact absurd H (by simp)
end Go.Proofs.YtmhmeifdnleoaaaDoor.XFnCrashRecovery

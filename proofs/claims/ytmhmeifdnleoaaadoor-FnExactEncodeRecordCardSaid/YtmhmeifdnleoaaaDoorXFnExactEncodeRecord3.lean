-- Printed by wip/tools/xprint.py, a program of this session, over the kit's print; Lean checks it.
import Derived.Test.YtmhmeifdnleoaaaDoorXFnExactEncodeRecord0
import Derived.Test.YtmhmeifdnleoaaaDoorXFnExactEncodeRecord1
import Derived.Test.YtmhmeifdnleoaaaDoorXFnExactEncodeRecord2
namespace Go.Proofs.YtmhmeifdnleoaaaDoor.XFnExactEncodeRecord
open Go.Proofs.YtmhmeifdnleoaaaDoor.Short Go.RowKit Go.Proofs.YtmhmeifdnleoaaaDoorW.PrintWords Go.Proofs.YtmhmeifdnleoaaaDoorW.PrintLast Go.Proofs.YtmhmeifdnleoaaaDoorW.PrintMore
attribute [local go_sem] max2_int min2_int max_two min_two max_three min_three max_four min_four   -- for this text's walks alone
set_option linter.unusedVariables false
set_option linter.unusedSimpArgs false
/-! ### impl_encodeRecord: function 46 -/
def impl_encodeRecord.f (k : Nat) (a0 : Int) (a1_0 : ByteArray) (a1_1 : ByteArray) : Option (ByteArray) := (impl_decimal.f a0).bind fun t133 => (if t133.size + 1 ≤ 9223372036854775807 then (if t133.size + 1 + a1_0.size ≤ 9223372036854775807 then (if t133.size + 1 + a1_0.size + 1 ≤ 9223372036854775807 then (if t133.size + 1 + a1_0.size + 1 + a1_1.size ≤ 9223372036854775807 then ((impl_AppendChecksum.f k ((((t133 ++ (⟨#[32]⟩ : ByteArray)) ++ a1_0) ++ (⟨#[64]⟩ : ByteArray)) ++ a1_1)).bind fun bt134 => (if bt134.1.size + 1 ≤ 9223372036854775807 then (some (bt134.1 ++ (⟨#[10]⟩ : ByteArray))) else (none))) else (none)) else (none)) else (none)) else (none))
theorem impl_encodeRecord.mono : ∀ a0 a1 a2 k, LeO (impl_encodeRecord.f k a0 a1 a2) (impl_encodeRecord.f (k + 1) a0 a1 a2) := by
 intro a0 a1 a2 k
 unfold impl_encodeRecord.f
 repeat' first
  | (with_reducible exact impl_AppendChecksum.mono _ _)
  | (with_reducible exact LeO.refl _)
  | (with_reducible exact LeO.none _)
  | (with_reducible refine LeO.ite ?_ ?_)
  | (with_reducible refine LeO.bind ?_ (fun _ => ?_))
  | exact impl_AppendChecksum.mono _ _
  | exact LeO.none _
  | refine LeO.ite ?_ ?_
  | refine LeO.bind ?_ (fun _ => ?_)
def impl_encodeRecord.T1 : Bool × List (List Nat × List Nat) := (true, [([], []), ([0], [0]), ([1], [1]), ([], []), ([3], [3]), ([2, 4], [2, 4]), ([5], [5]), ([], []), ([7], [7]), ([6, 8], [6, 8]), ([9, 1], [9]), ([10], [10]), ([11], [11]), ([11], [11]), ([12, 10, 0, 1, 2, 3, 4, 5, 6, 7, 8, 9, 10, 11, 12], [12]), ([13, 14, 0, 1, 2, 3, 4, 5, 6, 7, 8, 9, 10, 11, 12, 13, 14], [13])])
def impl_encodeRecord.B1 : List Nat := [0, 1, 3, 0, 8, 31, 63, 0, 128, 511, 1023, 2047, 4095, 4095, 8191, 32767]
theorem impl_encodeRecord.tab1 : rtab .any (opsOf Tryd.f46 1) = impl_encodeRecord.T1 := by kernel_rfl
theorem impl_encodeRecord.bits1 : waitsOk impl_encodeRecord.T1.2 impl_encodeRecord.B1 = true := by kernel_rfl
set_option maxHeartbeats 8000000 in
set_option maxRecDepth 100000 in
theorem impl_encodeRecord.calls (k : Nat) (a0 : Int) (a1_0 : ByteArray) (a1_1 : ByteArray) (r : ByteArray) (w : World) (hV : TInv w) (h : impl_encodeRecord.f k a0 a1_0 a1_1 = some r) :
 Calls Tryd.prog 46 #[.int .i64 a0, .agg #[.string a1_0, .string a1_1]] w fun e w' => e = .returned (.string r) ∧ Below w.heap.size w w' := by
 have hu27 := Tryd.underlying27
 have HV := Aside0.mk hV
 clear hV
 have HB := Aside0.mk (Below.refl w.heap.size w)
 have H : ((impl_decimal.f a0).bind fun t133 => (if t133.size + 1 ≤ 9223372036854775807 then (if t133.size + 1 + a1_0.size ≤ 9223372036854775807 then (if t133.size + 1 + a1_0.size + 1 ≤ 9223372036854775807 then (if t133.size + 1 + a1_0.size + 1 + a1_1.size ≤ 9223372036854775807 then ((impl_AppendChecksum.f k ((((t133 ++ (⟨#[32]⟩ : ByteArray)) ++ a1_0) ++ (⟨#[64]⟩ : ByteArray)) ++ a1_1)).bind fun bt134 => (if bt134.1.size + 1 ≤ 9223372036854775807 then (some (bt134.1 ++ (⟨#[10]⟩ : ByteArray))) else (none))) else (none)) else (none)) else (none)) else (none))) = some r := h
 clear h
 replace H := Option.bind_eq_some_iff.mp H
 obtain ⟨t133, A30, H⟩ := H
 replace H : (if t133.size + 1 ≤ 9223372036854775807 then (if t133.size + 1 + a1_0.size ≤ 9223372036854775807 then (if t133.size + 1 + a1_0.size + 1 ≤ 9223372036854775807 then (if t133.size + 1 + a1_0.size + 1 + a1_1.size ≤ 9223372036854775807 then ((impl_AppendChecksum.f k ((((t133 ++ (⟨#[32]⟩ : ByteArray)) ++ a1_0) ++ (⟨#[64]⟩ : ByteArray)) ++ a1_1)).bind fun bt134 => (if bt134.1.size + 1 ≤ 9223372036854775807 then (some (bt134.1 ++ (⟨#[10]⟩ : ByteArray))) else (none))) else (none)) else (none)) else (none)) else (none)) = some r := H
 have A3 := Aside0.mk A30
 clear A30
 by_cases c4 : t133.size + 1 ≤ 9223372036854775807
 ·rw [if_pos c4] at H
  have c4b0 := eq_true c4
  have c4b1 : decide (t133.size + 1 ≤ 9223372036854775807) = true := decide_eq_true c4
  try have c4b2 : (9223372036854775807 < t133.size + 1) = False := eq_false (Nat.not_lt.2 c4)
  by_cases c5 : t133.size + 1 + a1_0.size ≤ 9223372036854775807
  ·rw [if_pos c5] at H
   have c5b0 := eq_true c5
   have c5b1 : decide (t133.size + 1 + a1_0.size ≤ 9223372036854775807) = true := decide_eq_true c5
   try have c5b2 : (9223372036854775807 < t133.size + 1 + a1_0.size) = False := eq_false (Nat.not_lt.2 c5)
   by_cases c6 : t133.size + 1 + a1_0.size + 1 ≤ 9223372036854775807
   ·rw [if_pos c6] at H
    have c6b0 := eq_true c6
    have c6b1 : decide (t133.size + 1 + a1_0.size + 1 ≤ 9223372036854775807) = true := decide_eq_true c6
    try have c6b2 : (9223372036854775807 < t133.size + 1 + a1_0.size + 1) = False := eq_false (Nat.not_lt.2 c6)
    by_cases c7 : t133.size + 1 + a1_0.size + 1 + a1_1.size ≤ 9223372036854775807
    ·rw [if_pos c7] at H
     have c7b0 := eq_true c7
     have c7b1 : decide (t133.size + 1 + a1_0.size + 1 + a1_1.size ≤ 9223372036854775807) = true := decide_eq_true c7
     try have c7b2 : (9223372036854775807 < t133.size + 1 + a1_0.size + 1 + a1_1.size) = False := eq_false (Nat.not_lt.2 c7)
     replace H := Option.bind_eq_some_iff.mp H
     obtain ⟨⟨t134, t135⟩, A80, H⟩ := H
     replace H : (if t134.size + 1 ≤ 9223372036854775807 then (some (t134 ++ (⟨#[10]⟩ : ByteArray))) else (none)) = some r := H
     have A8 := Aside0.mk A80
     clear A80
     by_cases c9 : t134.size + 1 ≤ 9223372036854775807
     ·rw [if_pos c9] at H
      have c9b0 := eq_true c9
      have c9b1 : decide (t134.size + 1 ≤ 9223372036854775807) = true := decide_eq_true c9
      try have c9b2 : (9223372036854775807 < t134.size + 1) = False := eq_false (Nat.not_lt.2 c9)
      obtain rfl := Option.some.inj H
      go_enter Tryd.func46, Tryd.ntmps46
      try go_wp2_with (first | ((with_reducible refine gate_dst (N := 3) rfl ?_); refine box_event ?hg (N := 3) ?hd (cs := #[.string a1_0, .string a1_1]) (t := 27) ?hr ?_; (case hd => rfl); (case hg => rfl); (case hr => first | (go_simp; done) | (go_simp; rfl)); intro gb132 hg w10 hbox hb; have n0_ := Aside0.mk (below_step ZZ0 hb); have n1_ := Aside0.mk (hbox); have n2_ := Aside0.mk ((by rw [hg]; exact (below_size ZZ0) : w.heap.size ≤ gb132)); have n3_ := Aside0.mk ((by rw [hg]; exact (below_size ZZ0) : w.heap.size ≤ gb132)); clear HB; have HB := n0_; have BK132 := n1_; have GW132 := n2_; have GE132 := n3_; clear n0_ n1_ n2_ n3_; clear hb hbox hg))
      have n0_ := Aside0.mk (blk_drew BK132.out)
      have n1_ := Aside0.mk (below_drew1 HB.out)
      clear BK132
      clear HB
      have BK132 := n0_
      have HB := n1_
      clear n0_ n1_
      refine start_ (n := 16) (S := fun w' => w'.cell? ⟨gb132, 0, none⟩ = some (.string a1_0) ∧ w'.cell? ⟨gb132, 1, none⟩ = some (.string a1_1)) (ds := []) #[false, false, false, false, false, false, false, false, false, false, false, false, false, false, false, false] (by kernel_rfl) rfl rfl ⟨(blk_cell BK132.out 0).trans rfl, (blk_cell BK132.out 1).trans rfl⟩ (fun hHeld => ?_); refine with_tabW impl_encodeRecord.tab1 impl_encodeRecord.bits1 (fun HT_ HW_ => ?_)
      generalize w10.drew = w11 at BK132 HB hHeld ⊢
      refine pu 0 8 ?_
      refine pu 3 11 ?_
      refine pu 7 15 ?_
      refine tk 4 12 ?_
      refine tk 8 16 ?_
      refine one_ (i := 1) (N := some 9) #[true, true, false, true, true, false, false, true, true, false, false, false, false, false, false, false] rfl rfl (one_of HT_.out (by kernel_rfl)) (by decide) (fun K hK => ?_)
      refine goes_ Tryd.func67 (by kernel_rfl) rfl #[.int .i64 a0] (by rfl) rfl rfl ZZ1 ?_
      with_reducible refine (impl_decimal.calls a0 t133 _ ?side1 A3.out).mono ?_
      (case side1 => first | exact HV.out | exact TInv.below HV.out (by repeat (first | (with_reducible first | exact HB.out | apply below_alloc | apply pw_below_drewN | apply below_drew1 | refine below_set ?_ GE132.out) | exact HB.out)))
      rintro e w12 ⟨rfl, hb⟩
      refine ⟨_, rfl, ?_⟩
      have n0_ := Aside0.mk (blk_below (g := gb132) (o := .cells #[.string a1_0, .string a1_1] 27 (0, 0)) (by (with_reducible repeat (first | refine blk_drewN ?_ _ | refine blk_drew ?_ | refine blk_alloc ?_ _)); exact BK132.out) hb)
      have n1_ := Aside0.mk (below_step (by repeat (first | (with_reducible first | exact HB.out | apply below_alloc | apply pw_below_drewN | apply below_drew1 | refine below_set ?_ GE132.out) | exact HB.out)) hb)
      clear BK132
      clear HB
      have BK132 := n0_
      have HB := n1_
      clear n0_ n1_
      (try clear hb)
      (try clear hb2)
      (try clear hk)
      (try clear hi)
      refine hK.out _ _ ⟨(blk_cell BK132.out 0).trans rfl, (blk_cell BK132.out 1).trans rfl⟩ (fun hHeld => ?_)
      clear hK K
      refine norm_ (a' := ?_) ?_ ?_
      rotate_left
      ·show Act.put _ (some 9) _ = _
       simp only [Act.put, List.setIfInBounds_toArray, List.set_cons_zero, List.set_cons_succ, i64_w, i32_w]
       rfl
      refine pu 2 10 ?_
      refine pu 5 13 ?_
      refine pu 6 14 ?_
      refine pu 9 17 ?_
      refine one_ (i := 10) (N := some 18) #[true, true, true, true, true, true, true, true, true, true, true, false, false, false, false, false] rfl rfl (one_of HT_.out (by kernel_rfl)) (by decide) (fun K hK => ?_)
      refine goes_ Tryd.func66 (by kernel_rfl) rfl #[.string ((((t133 ++ (⟨#[32]⟩ : ByteArray)) ++ a1_0) ++ (⟨#[64]⟩ : ByteArray)) ++ a1_1)] (by rfl) rfl rfl ZZ1 ?_
      with_reducible refine (impl_AppendChecksum.calls k ((((t133 ++ (⟨#[32]⟩ : ByteArray)) ++ a1_0) ++ (⟨#[64]⟩ : ByteArray)) ++ a1_1) t134 t135 _ ?side1 A8.out).mono ?_
      (case side1 => first | exact HV.out | exact TInv.below HV.out (by repeat (first | (with_reducible first | exact HB.out | apply below_alloc | apply pw_below_drewN | apply below_drew1 | refine below_set ?_ GE132.out) | exact HB.out)))
      rintro e w13 ⟨rfl, hb⟩
      refine ⟨_, rfl, ?_⟩
      have n0_ := Aside0.mk (blk_below (g := gb132) (o := .cells #[.string a1_0, .string a1_1] 27 (0, 0)) (by (with_reducible repeat (first | refine blk_drewN ?_ _ | refine blk_drew ?_ | refine blk_alloc ?_ _)); exact BK132.out) hb)
      have n1_ := Aside0.mk (below_step (by repeat (first | (with_reducible first | exact HB.out | apply below_alloc | apply pw_below_drewN | apply below_drew1 | refine below_set ?_ GE132.out) | exact HB.out)) hb)
      clear BK132
      clear HB
      have BK132 := n0_
      have HB := n1_
      clear n0_ n1_
      (try clear hb)
      (try clear hb2)
      (try clear hk)
      (try clear hi)
      refine hK.out _ _ ⟨(blk_cell BK132.out 0).trans rfl, (blk_cell BK132.out 1).trans rfl⟩ (fun hHeld => ?_)
      clear hK K
      refine norm_ (a' := ?_) ?_ ?_
      rotate_left
      ·show Act.put _ (some 18) _ = _
       simp only [Act.put, List.setIfInBounds_toArray, List.set_cons_zero, List.set_cons_succ, i64_w, i32_w]
       rfl
      refine pu 11 7 ?_
      refine pu 12 19 ?_
      refine pu 13 20 ?_
      refine pu 14 5 ?_
      refine pu 15 6 ?_
      refine done_ (done_of HT_.out (by kernel_rfl)) ?_
      try go_wp2
      go_ret
      exact ⟨by first | rfl | (simp [errW_none, errW_some] <;> rfl) | (simp [*, errW_none, errW_some] <;> rfl), by repeat (first | (with_reducible first | exact HB.out | apply below_alloc | apply pw_below_drewN | apply below_drew1 | refine below_set ?_ GE132.out) | exact HB.out)⟩
     ·rw [if_neg c9] at H
      exact absurd H (by simp)
    ·rw [if_neg c7] at H
     exact absurd H (by simp)
   ·rw [if_neg c6] at H
    exact absurd H (by simp)
  ·rw [if_neg c5] at H
   exact absurd H (by simp)
 ·rw [if_neg c4] at H
  exact absurd H (by simp)
/-! ### impl_EncodeRecord: function 16 -/
def impl_EncodeRecord.f (k : Nat) (a0 : Int) (a1_0 : ByteArray) (a1_1 : ByteArray) : Option (ByteArray × Bool) := (impl_within.f a0 0 59).bind fun t137 => (if t137 = true then ((impl_IsValidRecord.f k a1_0 a1_1).bind fun t138 => (if t138 = true then ((impl_encodeRecord.f k a0 a1_0 a1_1).bind fun t139 => (some (t139, true))) else (some ((⟨#[]⟩ : ByteArray), false)))) else (some ((⟨#[]⟩ : ByteArray), false)))
theorem impl_EncodeRecord.mono : ∀ a0 a1 a2 k, LeO (impl_EncodeRecord.f k a0 a1 a2) (impl_EncodeRecord.f (k + 1) a0 a1 a2) := by
 intro a0 a1 a2 k
 unfold impl_EncodeRecord.f
 repeat' first
  | (with_reducible exact impl_IsValidRecord.mono _ _ _)
  | (with_reducible exact impl_encodeRecord.mono _ _ _ _)
  | (with_reducible exact LeO.refl _)
  | (with_reducible exact LeO.none _)
  | (with_reducible refine LeO.ite ?_ ?_)
  | (with_reducible refine LeO.bind ?_ (fun _ => ?_))
  | exact impl_IsValidRecord.mono _ _ _
  | exact impl_encodeRecord.mono _ _ _ _
  | exact LeO.none _
  | refine LeO.ite ?_ ?_
  | refine LeO.bind ?_ (fun _ => ?_)
set_option maxHeartbeats 8000000 in
set_option maxRecDepth 100000 in
theorem impl_EncodeRecord.calls (k : Nat) (a0 : Int) (a1_0 : ByteArray) (a1_1 : ByteArray) (r1 : ByteArray) (r2 : Bool) (w : World) (hV : TInv w) (h : impl_EncodeRecord.f k a0 a1_0 a1_1 = some (r1, r2)) :
 Calls Tryd.prog 16 #[.int .i64 a0, .agg #[.string a1_0, .string a1_1]] w fun e w' => e = .returned (.tuple #[.string r1, .bool r2]) ∧ Below w.heap.size w w' := by
 have hu27 := Tryd.underlying27
 have HV := Aside0.mk hV
 clear hV
 have HB := Aside0.mk (Below.refl w.heap.size w)
 have H : ((impl_within.f a0 0 59).bind fun t137 => (if t137 = true then ((impl_IsValidRecord.f k a1_0 a1_1).bind fun t138 => (if t138 = true then ((impl_encodeRecord.f k a0 a1_0 a1_1).bind fun t139 => (some (t139, true))) else (some ((⟨#[]⟩ : ByteArray), false)))) else (some ((⟨#[]⟩ : ByteArray), false)))) = some (r1, r2) := h
 clear h
 replace H := Option.bind_eq_some_iff.mp H
 obtain ⟨t137, A30, H⟩ := H
 replace H : (if t137 = true then ((impl_IsValidRecord.f k a1_0 a1_1).bind fun t138 => (if t138 = true then ((impl_encodeRecord.f k a0 a1_0 a1_1).bind fun t139 => (some (t139, true))) else (some ((⟨#[]⟩ : ByteArray), false)))) else (some ((⟨#[]⟩ : ByteArray), false))) = some (r1, r2) := H
 have A3 := Aside0.mk A30
 clear A30
 by_cases c4 : t137 = true
 ·subst c4
  have H1 : ((impl_IsValidRecord.f k a1_0 a1_1).bind fun t138 => (if t138 = true then ((impl_encodeRecord.f k a0 a1_0 a1_1).bind fun t139 => (some (t139, true))) else (some ((⟨#[]⟩ : ByteArray), false)))) = some (r1, r2) := by rw [if_pos rfl] at H; exact H
  clear H
  have H := H1
  clear H1
  replace H := Option.bind_eq_some_iff.mp H
  obtain ⟨t138, A50, H⟩ := H
  replace H : (if t138 = true then ((impl_encodeRecord.f k a0 a1_0 a1_1).bind fun t139 => (some (t139, true))) else (some ((⟨#[]⟩ : ByteArray), false))) = some (r1, r2) := H
  have A5 := Aside0.mk A50
  clear A50
  by_cases c6 : t138 = true
  ·subst c6
   have H1 : ((impl_encodeRecord.f k a0 a1_0 a1_1).bind fun t139 => (some (t139, true))) = some (r1, r2) := by rw [if_pos rfl] at H; exact H
   clear H
   have H := H1
   clear H1
   replace H := Option.bind_eq_some_iff.mp H
   obtain ⟨t139, A70, H⟩ := H
   replace H : (some (t139, true)) = some (r1, r2) := H
   have A7 := Aside0.mk A70
   clear A70
   simp only [Option.some.injEq, Prod.mk.injEq] at H
   obtain ⟨rfl, rfl⟩ := H
   go_enter Tryd.func16, Tryd.ntmps16
   go_wp2_with (first | ((with_reducible refine gate_dst (N := 3) rfl ?_); refine box_event ?hg (N := 3) ?hd (cs := #[.string a1_0, .string a1_1]) (t := 27) ?hr ?_; (case hd => rfl); (case hg => rfl); (case hr => first | (go_simp; done) | (go_simp; rfl)); intro gb136 hg w8 hbox hb; have n0_ := Aside0.mk (below_step ZZ0 hb); have n1_ := Aside0.mk (hbox); have n2_ := Aside0.mk ((by rw [hg]; exact (below_size ZZ0) : w.heap.size ≤ gb136)); have n3_ := Aside0.mk ((by rw [hg]; exact (below_size ZZ0) : w.heap.size ≤ gb136)); clear HB; have HB := n0_; have BK136 := n1_; have GW136 := n2_; have GE136 := n3_; clear n0_ n1_ n2_ n3_; clear hb hbox hg) | ((with_reducible refine gate_callee (f := 45) rfl ?_); refine goesL_ (some 7) rfl rfl Tryd.func45 (by kernel_rfl) rfl #[.int .i64 a0, .int .i64 0, .int .i64 59] rfl ZZ1 ?_; (with_reducible refine (impl_within.calls a0 0 59 true _ A3.out).mono ?_); rintro e w' ⟨rfl, ⟨nd, rfl⟩⟩; refine ⟨_, rfl, ?_⟩; have hcz9_0 : w8.cell? ⟨gb136, 0, none⟩ = some (.string a1_0) := (blk_cell BK136.out 0).trans rfl; have hcz9_1 : w8.cell? ⟨gb136, 1, none⟩ = some (.string a1_1) := (blk_cell BK136.out 1).trans rfl; have hfz9_0 := blk_frozen BK136.out 0; have hfz9_1 := blk_frozen BK136.out 1) | (go_at_call 37; (with_reducible refine (impl_IsValidRecord.calls k a1_0 a1_1 true _ A5.out).mono ?_); rintro e w10 ⟨rfl, hb⟩; have n0_ := Aside0.mk (blk_below (g := gb136) (o := .cells #[.string a1_0, .string a1_1] 27 (0, 0)) (by (with_reducible repeat (first | refine blk_drewN ?_ _ | refine blk_drew ?_ | refine blk_alloc ?_ _)); exact BK136.out) hb); have n1_ := Aside0.mk (below_step (by repeat (first | (with_reducible first | exact HB.out | apply below_alloc | apply pw_below_drewN | apply below_drew1 | refine below_set ?_ GE136.out) | exact HB.out)) hb); clear BK136; clear HB; have BK136 := n0_; have HB := n1_; clear n0_ n1_; (try clear hb); (try clear hb2); (try clear hk); (try clear hi); have hcz11_0 : w10.cell? ⟨gb136, 0, none⟩ = some (.string a1_0) := (blk_cell BK136.out 0).trans rfl; have hcz11_1 : w10.cell? ⟨gb136, 1, none⟩ = some (.string a1_1) := (blk_cell BK136.out 1).trans rfl; have hfz11_0 := blk_frozen BK136.out 0; have hfz11_1 := blk_frozen BK136.out 1) | ((with_reducible refine gate_callee (f := 46) rfl ?_); refine goesL_ (some 16) rfl rfl Tryd.func46 (by kernel_rfl) rfl #[.int .i64 a0, .agg #[.string a1_0, .string a1_1]] rfl ZZ1 ?_; (with_reducible refine (impl_encodeRecord.calls k a0 a1_0 a1_1 t139 _ ?side1 A7.out).mono ?_); (case side1 => first | exact HV.out | exact TInv.below HV.out (by repeat (first | (with_reducible first | exact HB.out | apply below_alloc | apply pw_below_drewN | apply below_drew1 | refine below_set ?_ GE136.out) | exact HB.out))); rintro e w12 ⟨rfl, hb⟩; refine ⟨_, rfl, ?_⟩; have n0_ := Aside0.mk (blk_below (g := gb136) (o := .cells #[.string a1_0, .string a1_1] 27 (0, 0)) (by (with_reducible repeat (first | refine blk_drewN ?_ _ | refine blk_drew ?_ | refine blk_alloc ?_ _)); exact BK136.out) hb); have n1_ := Aside0.mk (below_step (by repeat (first | (with_reducible first | exact HB.out | apply below_alloc | apply pw_below_drewN | apply below_drew1 | refine below_set ?_ GE136.out) | exact HB.out)) hb); clear BK136; clear HB; have BK136 := n0_; have HB := n1_; clear n0_ n1_; (try clear hb); (try clear hb2); (try clear hk); (try clear hi)))
   go_ret2
   exact ⟨by first | rfl | (simp [errW_none, errW_some] <;> rfl) | (simp [*, errW_none, errW_some] <;> rfl), by repeat (first | (with_reducible first | exact HB.out | apply below_alloc | apply pw_below_drewN | apply below_drew1 | refine below_set ?_ GE136.out) | exact HB.out)⟩
  ·replace c6 := Bool.eq_false_iff.mpr c6
   subst c6
   have H1 : (some ((⟨#[]⟩ : ByteArray), false)) = some (r1, r2) := by rw [if_neg (show ¬ (false = true) by decide)] at H; exact H
   clear H
   have H := H1
   clear H1
   simp only [Option.some.injEq, Prod.mk.injEq] at H
   obtain ⟨rfl, rfl⟩ := H
   go_enter Tryd.func16, Tryd.ntmps16
   go_wp2_with (first | ((with_reducible refine gate_dst (N := 3) rfl ?_); refine box_event ?hg (N := 3) ?hd (cs := #[.string a1_0, .string a1_1]) (t := 27) ?hr ?_; (case hd => rfl); (case hg => rfl); (case hr => first | (go_simp; done) | (go_simp; rfl)); intro gb136 hg w13 hbox hb; have n0_ := Aside0.mk (below_step ZZ0 hb); have n1_ := Aside0.mk (hbox); have n2_ := Aside0.mk ((by rw [hg]; exact (below_size ZZ0) : w.heap.size ≤ gb136)); have n3_ := Aside0.mk ((by rw [hg]; exact (below_size ZZ0) : w.heap.size ≤ gb136)); clear HB; have HB := n0_; have BK136 := n1_; have GW136 := n2_; have GE136 := n3_; clear n0_ n1_ n2_ n3_; clear hb hbox hg) | ((with_reducible refine gate_callee (f := 45) rfl ?_); refine goesL_ (some 7) rfl rfl Tryd.func45 (by kernel_rfl) rfl #[.int .i64 a0, .int .i64 0, .int .i64 59] rfl ZZ1 ?_; (with_reducible refine (impl_within.calls a0 0 59 true _ A3.out).mono ?_); rintro e w' ⟨rfl, ⟨nd, rfl⟩⟩; refine ⟨_, rfl, ?_⟩; have hcz14_0 : w13.cell? ⟨gb136, 0, none⟩ = some (.string a1_0) := (blk_cell BK136.out 0).trans rfl; have hcz14_1 : w13.cell? ⟨gb136, 1, none⟩ = some (.string a1_1) := (blk_cell BK136.out 1).trans rfl; have hfz14_0 := blk_frozen BK136.out 0; have hfz14_1 := blk_frozen BK136.out 1) | (go_at_call 37; (with_reducible refine (impl_IsValidRecord.calls k a1_0 a1_1 false _ A5.out).mono ?_); rintro e w15 ⟨rfl, hb⟩; have n0_ := Aside0.mk (blk_below (g := gb136) (o := .cells #[.string a1_0, .string a1_1] 27 (0, 0)) (by (with_reducible repeat (first | refine blk_drewN ?_ _ | refine blk_drew ?_ | refine blk_alloc ?_ _)); exact BK136.out) hb); have n1_ := Aside0.mk (below_step (by repeat (first | (with_reducible first | exact HB.out | apply below_alloc | apply pw_below_drewN | apply below_drew1 | refine below_set ?_ GE136.out) | exact HB.out)) hb); clear BK136; clear HB; have BK136 := n0_; have HB := n1_; clear n0_ n1_; (try clear hb); (try clear hb2); (try clear hk); (try clear hi)))
   go_ret2
   exact ⟨by first | rfl | (simp [errW_none, errW_some] <;> rfl) | (simp [*, errW_none, errW_some] <;> rfl), by repeat (first | (with_reducible first | exact HB.out | apply below_alloc | apply pw_below_drewN | apply below_drew1 | refine below_set ?_ GE136.out) | exact HB.out)⟩
 ·replace c4 := Bool.eq_false_iff.mpr c4
  subst c4
  have H1 : (some ((⟨#[]⟩ : ByteArray), false)) = some (r1, r2) := by rw [if_neg (show ¬ (false = true) by decide)] at H; exact H
  clear H
  have H := H1
  clear H1
  simp only [Option.some.injEq, Prod.mk.injEq] at H
  obtain ⟨rfl, rfl⟩ := H
  go_enter Tryd.func16, Tryd.ntmps16
  go_wp2_with (first | ((with_reducible refine gate_dst (N := 3) rfl ?_); refine box_event ?hg (N := 3) ?hd (cs := #[.string a1_0, .string a1_1]) (t := 27) ?hr ?_; (case hd => rfl); (case hg => rfl); (case hr => first | (go_simp; done) | (go_simp; rfl)); intro gb136 hg w16 hbox hb; have n0_ := Aside0.mk (below_step ZZ0 hb); have n1_ := Aside0.mk (hbox); have n2_ := Aside0.mk ((by rw [hg]; exact (below_size ZZ0) : w.heap.size ≤ gb136)); have n3_ := Aside0.mk ((by rw [hg]; exact (below_size ZZ0) : w.heap.size ≤ gb136)); clear HB; have HB := n0_; have BK136 := n1_; have GW136 := n2_; have GE136 := n3_; clear n0_ n1_ n2_ n3_; clear hb hbox hg) | ((with_reducible refine gate_callee (f := 45) rfl ?_); refine goesL_ (some 7) rfl rfl Tryd.func45 (by kernel_rfl) rfl #[.int .i64 a0, .int .i64 0, .int .i64 59] rfl ZZ1 ?_; (with_reducible refine (impl_within.calls a0 0 59 false _ A3.out).mono ?_); rintro e w' ⟨rfl, ⟨nd, rfl⟩⟩; refine ⟨_, rfl, ?_⟩))
  go_ret2
  exact ⟨by first | rfl | (simp [errW_none, errW_some] <;> rfl) | (simp [*, errW_none, errW_some] <;> rfl), by repeat (first | (with_reducible first | exact HB.out | apply below_alloc | apply pw_below_drewN | apply below_drew1 | refine below_set ?_ GE136.out) | exact HB.out)⟩
/-! ### laws_FnExactEncodeRecord: function 3 -/
def laws_FnExactEncodeRecord.f (k : Nat) (a0 : Int) (a1_0 : ByteArray) (a1_1 : ByteArray) : Option (Bool) := (laws_szLogRecord.f a1_0 a1_1 1048576).bind fun t141 => (if t141 < 0 then (some true) else ((laws_toLogRecord.f a1_0 a1_1).bind fun bt142 => ((spec_EncodeRecord.f k a0 bt142.1 bt142.2).bind fun bt144 => ((laws_toLogRecord.f a1_0 a1_1).bind fun bt146 => ((impl_EncodeRecord.f k a0 bt146.1 bt146.2).bind fun bt148 => (if bt148.1.toList = bt144.1.toList then (if (bt148.2 != bt144.2) = true then (some false) else (some true)) else (some false)))))))
theorem laws_FnExactEncodeRecord.mono : ∀ a0 a1 a2 k, LeO (laws_FnExactEncodeRecord.f k a0 a1 a2) (laws_FnExactEncodeRecord.f (k + 1) a0 a1 a2) := by
 intro a0 a1 a2 k
 unfold laws_FnExactEncodeRecord.f
 repeat' first
  | (with_reducible exact impl_EncodeRecord.mono _ _ _ _)
  | (with_reducible exact spec_EncodeRecord.mono _ _ _ _)
  | (with_reducible exact LeO.refl _)
  | (with_reducible exact LeO.none _)
  | (with_reducible refine LeO.ite ?_ ?_)
  | (with_reducible refine LeO.bind ?_ (fun _ => ?_))
  | exact impl_EncodeRecord.mono _ _ _ _
  | exact spec_EncodeRecord.mono _ _ _ _
  | exact LeO.none _
  | refine LeO.ite ?_ ?_
  | refine LeO.bind ?_ (fun _ => ?_)
set_option maxHeartbeats 8000000 in
set_option maxRecDepth 100000 in
theorem laws_FnExactEncodeRecord.calls (k : Nat) (a0 : Int) (a1_0 : ByteArray) (a1_1 : ByteArray) (r : Bool) (w : World) (hV : TInv w) (h : laws_FnExactEncodeRecord.f k a0 a1_0 a1_1 = some r) :
 Calls Tryd.prog 3 #[.int .i64 a0, .agg #[.string a1_0, .string a1_1]] w fun e w' => e = .returned (.bool r) ∧ Below w.heap.size w w' := by
 have hu23 := Tryd.underlying23
 have HV := Aside0.mk hV
 clear hV
 have HB := Aside0.mk (Below.refl w.heap.size w)
 have H : ((laws_szLogRecord.f a1_0 a1_1 1048576).bind fun t141 => (if t141 < 0 then (some true) else ((laws_toLogRecord.f a1_0 a1_1).bind fun bt142 => ((spec_EncodeRecord.f k a0 bt142.1 bt142.2).bind fun bt144 => ((laws_toLogRecord.f a1_0 a1_1).bind fun bt146 => ((impl_EncodeRecord.f k a0 bt146.1 bt146.2).bind fun bt148 => (if bt148.1.toList = bt144.1.toList then (if (bt148.2 != bt144.2) = true then (some false) else (some true)) else (some false)))))))) = some r := h
 clear h
 replace H := Option.bind_eq_some_iff.mp H
 obtain ⟨t141, A30, H⟩ := H
 replace H : (if t141 < 0 then (some true) else ((laws_toLogRecord.f a1_0 a1_1).bind fun bt142 => ((spec_EncodeRecord.f k a0 bt142.1 bt142.2).bind fun bt144 => ((laws_toLogRecord.f a1_0 a1_1).bind fun bt146 => ((impl_EncodeRecord.f k a0 bt146.1 bt146.2).bind fun bt148 => (if bt148.1.toList = bt144.1.toList then (if (bt148.2 != bt144.2) = true then (some false) else (some true)) else (some false))))))) = some r := H
 have A3 := Aside0.mk A30
 clear A30
 by_cases c4 : t141 < 0
 ·rw [if_pos c4] at H
  have c4b0 : decide (t141 < 0) = true := decide_eq_true c4
  clear c4
  obtain rfl := Option.some.inj H
  go_enter Tryd.func3, Tryd.ntmps3
  go_wp2_with (first | ((with_reducible refine gate_dst (N := 3) rfl ?_); refine box_event ?hg (N := 3) ?hd (cs := #[.string a1_0, .string a1_1]) (t := 23) ?hr ?_; (case hd => rfl); (case hg => rfl); (case hr => first | (go_simp; done) | (go_simp; rfl)); intro gb140 hg w5 hbox hb; have n0_ := Aside0.mk (below_step ZZ0 hb); have n1_ := Aside0.mk (hbox); have n2_ := Aside0.mk ((by rw [hg]; exact (below_size ZZ0) : w.heap.size ≤ gb140)); have n3_ := Aside0.mk ((by rw [hg]; exact (below_size ZZ0) : w.heap.size ≤ gb140)); clear HB; have HB := n0_; have BK140 := n1_; have GW140 := n2_; have GE140 := n3_; clear n0_ n1_ n2_ n3_; clear hb hbox hg; have hcz6_0 : w5.cell? ⟨gb140, 0, none⟩ = some (.string a1_0) := (blk_cell BK140.out 0).trans rfl; have hcz6_1 : w5.cell? ⟨gb140, 1, none⟩ = some (.string a1_1) := (blk_cell BK140.out 1).trans rfl; have hfz6_0 := blk_frozen BK140.out 0; have hfz6_1 := blk_frozen BK140.out 1) | ((with_reducible refine gate_callee (f := 13) rfl ?_); refine goesL_ (some 12) rfl rfl Tryd.func13 (by kernel_rfl) rfl #[.agg #[.string a1_0, .string a1_1], .int .i64 1048576] rfl ZZ1 ?_; (with_reducible refine (laws_szLogRecord.calls a1_0 a1_1 1048576 t141 _ A3.out).mono ?_); rintro e w7 ⟨rfl, hb⟩; refine ⟨_, rfl, ?_⟩; have n0_ := Aside0.mk (blk_below (g := gb140) (o := .cells #[.string a1_0, .string a1_1] 23 (0, 0)) ZZ3 hb); have n1_ := Aside0.mk (below_step ZZ2 hb); clear BK140; clear HB; have BK140 := n0_; have HB := n1_; clear n0_ n1_; (try clear hb); (try clear hb2); (try clear hk); (try clear hi)))
  go_ret
  exact ⟨by first | rfl | (simp [errW_none, errW_some] <;> rfl) | (simp [*, errW_none, errW_some] <;> rfl), by repeat (first | (with_reducible first | exact HB.out | apply below_alloc | apply pw_below_drewN | apply below_drew1 | refine below_set ?_ GE140.out) | exact HB.out)⟩
 ·rw [if_neg c4] at H
  have c4b0 : decide (t141 < 0) = false := decide_eq_false c4
  clear c4
  replace H := Option.bind_eq_some_iff.mp H
  obtain ⟨⟨t142, t143⟩, A80, H⟩ := H
  replace H : ((spec_EncodeRecord.f k a0 t142 t143).bind fun bt144 => ((laws_toLogRecord.f a1_0 a1_1).bind fun bt146 => ((impl_EncodeRecord.f k a0 bt146.1 bt146.2).bind fun bt148 => (if bt148.1.toList = bt144.1.toList then (if (bt148.2 != bt144.2) = true then (some false) else (some true)) else (some false))))) = some r := H
  have A8 := Aside0.mk A80
  clear A80
  replace H := Option.bind_eq_some_iff.mp H
  obtain ⟨⟨t144, t145⟩, A90, H⟩ := H
  replace H : ((laws_toLogRecord.f a1_0 a1_1).bind fun bt146 => ((impl_EncodeRecord.f k a0 bt146.1 bt146.2).bind fun bt148 => (if bt148.1.toList = t144.toList then (if (bt148.2 != t145) = true then (some false) else (some true)) else (some false)))) = some r := H
  have A9 := Aside0.mk A90
  clear A90
  replace H := Option.bind_eq_some_iff.mp H
  obtain ⟨⟨t146, t147⟩, A100, H⟩ := H
  replace H : ((impl_EncodeRecord.f k a0 t146 t147).bind fun bt148 => (if bt148.1.toList = t144.toList then (if (bt148.2 != t145) = true then (some false) else (some true)) else (some false))) = some r := H
  have A10 := Aside0.mk A100
  clear A100
  replace H := Option.bind_eq_some_iff.mp H
  obtain ⟨⟨t148, t149⟩, A110, H⟩ := H
  replace H : (if t148.toList = t144.toList then (if (t149 != t145) = true then (some false) else (some true)) else (some false)) = some r := H
  have A11 := Aside0.mk A110
  clear A110
  by_cases c12 : t148.toList = t144.toList
  ·rw [if_pos c12] at H
   have c12b0 : (t148.toList == t144.toList) = true := beq_iff_eq.mpr c12
   have c12b1 : (t148.toList != t144.toList) = false := bne_eq_false_iff_eq.mpr c12
   clear c12
   by_cases c13 : (t149 != t145) = true
   ·rw [if_pos c13] at H
    have c13b0 : (t149 != t145) = true := c13
    (try (have c13b1 : decide (t149 = t145) = false := by simpa using c13))
    (try (have c13b2 : (t149 == t145) = false := by simpa using c13))
    (try (have c13b3 : ¬ (t149 = t145) := by simpa using c13))
    clear c13
    obtain rfl := Option.some.inj H
    go_enter Tryd.func3, Tryd.ntmps3
    go_wp2_with (first | ((with_reducible refine gate_dst (N := 3) rfl ?_); refine box_event ?hg (N := 3) ?hd (cs := #[.string a1_0, .string a1_1]) (t := 23) ?hr ?_; (case hd => rfl); (case hg => rfl); (case hr => first | (go_simp; done) | (go_simp; rfl)); intro gb140 hg w14 hbox hb; have n0_ := Aside0.mk (below_step ZZ0 hb); have n1_ := Aside0.mk (hbox); have n2_ := Aside0.mk ((by rw [hg]; exact (below_size ZZ0) : w.heap.size ≤ gb140)); have n3_ := Aside0.mk ((by rw [hg]; exact (below_size ZZ0) : w.heap.size ≤ gb140)); clear HB; have HB := n0_; have BK140 := n1_; have GW140 := n2_; have GE140 := n3_; clear n0_ n1_ n2_ n3_; clear hb hbox hg; have hcz15_0 : w14.cell? ⟨gb140, 0, none⟩ = some (.string a1_0) := (blk_cell BK140.out 0).trans rfl; have hcz15_1 : w14.cell? ⟨gb140, 1, none⟩ = some (.string a1_1) := (blk_cell BK140.out 1).trans rfl; have hfz15_0 := blk_frozen BK140.out 0; have hfz15_1 := blk_frozen BK140.out 1) | ((with_reducible refine gate_callee (f := 13) rfl ?_); refine goesL_ (some 12) rfl rfl Tryd.func13 (by kernel_rfl) rfl #[.agg #[.string a1_0, .string a1_1], .int .i64 1048576] rfl ZZ1 ?_; (with_reducible refine (laws_szLogRecord.calls a1_0 a1_1 1048576 t141 _ A3.out).mono ?_); rintro e w16 ⟨rfl, hb⟩; refine ⟨_, rfl, ?_⟩; have n0_ := Aside0.mk (blk_below (g := gb140) (o := .cells #[.string a1_0, .string a1_1] 23 (0, 0)) ZZ3 hb); have n1_ := Aside0.mk (below_step ZZ2 hb); clear BK140; clear HB; have BK140 := n0_; have HB := n1_; clear n0_ n1_; (try clear hb); (try clear hb2); (try clear hk); (try clear hi); have hcz17_0 : w16.cell? ⟨gb140, 0, none⟩ = some (.string a1_0) := (blk_cell BK140.out 0).trans rfl; have hcz17_1 : w16.cell? ⟨gb140, 1, none⟩ = some (.string a1_1) := (blk_cell BK140.out 1).trans rfl; have hfz17_0 := blk_frozen BK140.out 0; have hfz17_1 := blk_frozen BK140.out 1) | ((with_reducible refine gate_callee (f := 15) rfl ?_); refine goesL_ (some 18) rfl rfl Tryd.func15 (by kernel_rfl) rfl #[.agg #[.string a1_0, .string a1_1]] rfl ZZ1 ?_; (with_reducible refine (laws_toLogRecord.calls a1_0 a1_1 t142 t143 _ A8.out).mono ?_); rintro e w18 ⟨rfl, hb⟩; refine ⟨_, rfl, ?_⟩; have n0_ := Aside0.mk (blk_below (g := gb140) (o := .cells #[.string a1_0, .string a1_1] 23 (0, 0)) ZZ3 hb); have n1_ := Aside0.mk (below_step ZZ2 hb); clear BK140; clear HB; have BK140 := n0_; have HB := n1_; clear n0_ n1_; (try clear hb); (try clear hb2); (try clear hk); (try clear hi)) | ((with_reducible refine gate_callee (f := 14) rfl ?_); refine goesL_ (some 19) rfl rfl Tryd.func14 (by kernel_rfl) rfl #[.int .i64 a0, .agg #[.string t142, .string t143]] rfl ZZ1 ?_; (with_reducible refine (spec_EncodeRecord.calls k a0 t142 t143 t144 t145 _ A9.out).mono ?_); rintro e w19 ⟨rfl, hb⟩; refine ⟨_, rfl, ?_⟩; have n0_ := Aside0.mk (blk_below (g := gb140) (o := .cells #[.string a1_0, .string a1_1] 23 (0, 0)) ZZ3 hb); have n1_ := Aside0.mk (below_step ZZ2 hb); clear BK140; clear HB; have BK140 := n0_; have HB := n1_; clear n0_ n1_; (try clear hb); (try clear hb2); (try clear hk); (try clear hi); have hcz20_0 : w19.cell? ⟨gb140, 0, none⟩ = some (.string a1_0) := (blk_cell BK140.out 0).trans rfl; have hcz20_1 : w19.cell? ⟨gb140, 1, none⟩ = some (.string a1_1) := (blk_cell BK140.out 1).trans rfl; have hfz20_0 := blk_frozen BK140.out 0; have hfz20_1 := blk_frozen BK140.out 1) | ((with_reducible refine gate_callee (f := 15) rfl ?_); refine goesL_ (some 25) rfl rfl Tryd.func15 (by kernel_rfl) rfl #[.agg #[.string a1_0, .string a1_1]] rfl ZZ1 ?_; (with_reducible refine (laws_toLogRecord.calls a1_0 a1_1 t146 t147 _ A10.out).mono ?_); rintro e w21 ⟨rfl, hb⟩; refine ⟨_, rfl, ?_⟩; have n0_ := Aside0.mk (blk_below (g := gb140) (o := .cells #[.string a1_0, .string a1_1] 23 (0, 0)) ZZ3 hb); have n1_ := Aside0.mk (below_step ZZ2 hb); clear BK140; clear HB; have BK140 := n0_; have HB := n1_; clear n0_ n1_; (try clear hb); (try clear hb2); (try clear hk); (try clear hi)) | ((with_reducible refine gate_callee (f := 16) rfl ?_); refine goesL_ (some 26) rfl rfl Tryd.func16 (by kernel_rfl) rfl #[.int .i64 a0, .agg #[.string t146, .string t147]] rfl ZZ1 ?_; (with_reducible refine (impl_EncodeRecord.calls k a0 t146 t147 t148 t149 _ ?side1 A11.out).mono ?_); (case side1 => first | exact HV.out | exact TInv.below HV.out ZZ2); rintro e w22 ⟨rfl, hb⟩; refine ⟨_, rfl, ?_⟩; have n0_ := Aside0.mk (blk_below (g := gb140) (o := .cells #[.string a1_0, .string a1_1] 23 (0, 0)) ZZ3 hb); have n1_ := Aside0.mk (below_step ZZ2 hb); clear BK140; clear HB; have BK140 := n0_; have HB := n1_; clear n0_ n1_; (try clear hb); (try clear hb2); (try clear hk); (try clear hi)))
    go_ret
    exact ⟨by first | rfl | (simp [errW_none, errW_some] <;> rfl) | (simp [*, errW_none, errW_some] <;> rfl), by repeat (first | (with_reducible first | exact HB.out | apply below_alloc | apply pw_below_drewN | apply below_drew1 | refine below_set ?_ GE140.out) | exact HB.out)⟩
   ·rw [if_neg c13] at H
    have c13b0 : (t149 != t145) = false := by simpa using c13
    (try (have c13b1 : decide (t149 = t145) = true := by simpa using c13))
    (try (have c13b2 : (t149 == t145) = true := by simpa using c13))
    clear c13
    obtain rfl := Option.some.inj H
    go_enter Tryd.func3, Tryd.ntmps3
    go_wp2_with (first | ((with_reducible refine gate_dst (N := 3) rfl ?_); refine box_event ?hg (N := 3) ?hd (cs := #[.string a1_0, .string a1_1]) (t := 23) ?hr ?_; (case hd => rfl); (case hg => rfl); (case hr => first | (go_simp; done) | (go_simp; rfl)); intro gb140 hg w23 hbox hb; have n0_ := Aside0.mk (below_step ZZ0 hb); have n1_ := Aside0.mk (hbox); have n2_ := Aside0.mk ((by rw [hg]; exact (below_size ZZ0) : w.heap.size ≤ gb140)); have n3_ := Aside0.mk ((by rw [hg]; exact (below_size ZZ0) : w.heap.size ≤ gb140)); clear HB; have HB := n0_; have BK140 := n1_; have GW140 := n2_; have GE140 := n3_; clear n0_ n1_ n2_ n3_; clear hb hbox hg; have hcz24_0 : w23.cell? ⟨gb140, 0, none⟩ = some (.string a1_0) := (blk_cell BK140.out 0).trans rfl; have hcz24_1 : w23.cell? ⟨gb140, 1, none⟩ = some (.string a1_1) := (blk_cell BK140.out 1).trans rfl; have hfz24_0 := blk_frozen BK140.out 0; have hfz24_1 := blk_frozen BK140.out 1) | ((with_reducible refine gate_callee (f := 13) rfl ?_); refine goesL_ (some 12) rfl rfl Tryd.func13 (by kernel_rfl) rfl #[.agg #[.string a1_0, .string a1_1], .int .i64 1048576] rfl ZZ1 ?_; (with_reducible refine (laws_szLogRecord.calls a1_0 a1_1 1048576 t141 _ A3.out).mono ?_); rintro e w25 ⟨rfl, hb⟩; refine ⟨_, rfl, ?_⟩; have n0_ := Aside0.mk (blk_below (g := gb140) (o := .cells #[.string a1_0, .string a1_1] 23 (0, 0)) ZZ3 hb); have n1_ := Aside0.mk (below_step ZZ2 hb); clear BK140; clear HB; have BK140 := n0_; have HB := n1_; clear n0_ n1_; (try clear hb); (try clear hb2); (try clear hk); (try clear hi); have hcz26_0 : w25.cell? ⟨gb140, 0, none⟩ = some (.string a1_0) := (blk_cell BK140.out 0).trans rfl; have hcz26_1 : w25.cell? ⟨gb140, 1, none⟩ = some (.string a1_1) := (blk_cell BK140.out 1).trans rfl; have hfz26_0 := blk_frozen BK140.out 0; have hfz26_1 := blk_frozen BK140.out 1) | ((with_reducible refine gate_callee (f := 15) rfl ?_); refine goesL_ (some 18) rfl rfl Tryd.func15 (by kernel_rfl) rfl #[.agg #[.string a1_0, .string a1_1]] rfl ZZ1 ?_; (with_reducible refine (laws_toLogRecord.calls a1_0 a1_1 t142 t143 _ A8.out).mono ?_); rintro e w27 ⟨rfl, hb⟩; refine ⟨_, rfl, ?_⟩; have n0_ := Aside0.mk (blk_below (g := gb140) (o := .cells #[.string a1_0, .string a1_1] 23 (0, 0)) ZZ3 hb); have n1_ := Aside0.mk (below_step ZZ2 hb); clear BK140; clear HB; have BK140 := n0_; have HB := n1_; clear n0_ n1_; (try clear hb); (try clear hb2); (try clear hk); (try clear hi)) | ((with_reducible refine gate_callee (f := 14) rfl ?_); refine goesL_ (some 19) rfl rfl Tryd.func14 (by kernel_rfl) rfl #[.int .i64 a0, .agg #[.string t142, .string t143]] rfl ZZ1 ?_; (with_reducible refine (spec_EncodeRecord.calls k a0 t142 t143 t144 t145 _ A9.out).mono ?_); rintro e w28 ⟨rfl, hb⟩; refine ⟨_, rfl, ?_⟩; have n0_ := Aside0.mk (blk_below (g := gb140) (o := .cells #[.string a1_0, .string a1_1] 23 (0, 0)) ZZ3 hb); have n1_ := Aside0.mk (below_step ZZ2 hb); clear BK140; clear HB; have BK140 := n0_; have HB := n1_; clear n0_ n1_; (try clear hb); (try clear hb2); (try clear hk); (try clear hi); have hcz29_0 : w28.cell? ⟨gb140, 0, none⟩ = some (.string a1_0) := (blk_cell BK140.out 0).trans rfl; have hcz29_1 : w28.cell? ⟨gb140, 1, none⟩ = some (.string a1_1) := (blk_cell BK140.out 1).trans rfl; have hfz29_0 := blk_frozen BK140.out 0; have hfz29_1 := blk_frozen BK140.out 1) | ((with_reducible refine gate_callee (f := 15) rfl ?_); refine goesL_ (some 25) rfl rfl Tryd.func15 (by kernel_rfl) rfl #[.agg #[.string a1_0, .string a1_1]] rfl ZZ1 ?_; (with_reducible refine (laws_toLogRecord.calls a1_0 a1_1 t146 t147 _ A10.out).mono ?_); rintro e w30 ⟨rfl, hb⟩; refine ⟨_, rfl, ?_⟩; have n0_ := Aside0.mk (blk_below (g := gb140) (o := .cells #[.string a1_0, .string a1_1] 23 (0, 0)) ZZ3 hb); have n1_ := Aside0.mk (below_step ZZ2 hb); clear BK140; clear HB; have BK140 := n0_; have HB := n1_; clear n0_ n1_; (try clear hb); (try clear hb2); (try clear hk); (try clear hi)) | ((with_reducible refine gate_callee (f := 16) rfl ?_); refine goesL_ (some 26) rfl rfl Tryd.func16 (by kernel_rfl) rfl #[.int .i64 a0, .agg #[.string t146, .string t147]] rfl ZZ1 ?_; (with_reducible refine (impl_EncodeRecord.calls k a0 t146 t147 t148 t149 _ ?side1 A11.out).mono ?_); (case side1 => first | exact HV.out | exact TInv.below HV.out ZZ2); rintro e w31 ⟨rfl, hb⟩; refine ⟨_, rfl, ?_⟩; have n0_ := Aside0.mk (blk_below (g := gb140) (o := .cells #[.string a1_0, .string a1_1] 23 (0, 0)) ZZ3 hb); have n1_ := Aside0.mk (below_step ZZ2 hb); clear BK140; clear HB; have BK140 := n0_; have HB := n1_; clear n0_ n1_; (try clear hb); (try clear hb2); (try clear hk); (try clear hi)))
    go_ret
    exact ⟨by first | rfl | (simp [errW_none, errW_some] <;> rfl) | (simp [*, errW_none, errW_some] <;> rfl), by repeat (first | (with_reducible first | exact HB.out | apply below_alloc | apply pw_below_drewN | apply below_drew1 | refine below_set ?_ GE140.out) | exact HB.out)⟩
  ·rw [if_neg c12] at H
   have c12b0 : (t148.toList == t144.toList) = false := beq_eq_false_iff_ne.mpr c12
   have c12b1 : (t148.toList != t144.toList) = true := bne_iff_ne.mpr c12
   obtain rfl := Option.some.inj H
   go_enter Tryd.func3, Tryd.ntmps3
   go_wp2_with (first | ((with_reducible refine gate_dst (N := 3) rfl ?_); refine box_event ?hg (N := 3) ?hd (cs := #[.string a1_0, .string a1_1]) (t := 23) ?hr ?_; (case hd => rfl); (case hg => rfl); (case hr => first | (go_simp; done) | (go_simp; rfl)); intro gb140 hg w32 hbox hb; have n0_ := Aside0.mk (below_step ZZ0 hb); have n1_ := Aside0.mk (hbox); have n2_ := Aside0.mk ((by rw [hg]; exact (below_size ZZ0) : w.heap.size ≤ gb140)); have n3_ := Aside0.mk ((by rw [hg]; exact (below_size ZZ0) : w.heap.size ≤ gb140)); clear HB; have HB := n0_; have BK140 := n1_; have GW140 := n2_; have GE140 := n3_; clear n0_ n1_ n2_ n3_; clear hb hbox hg; have hcz33_0 : w32.cell? ⟨gb140, 0, none⟩ = some (.string a1_0) := (blk_cell BK140.out 0).trans rfl; have hcz33_1 : w32.cell? ⟨gb140, 1, none⟩ = some (.string a1_1) := (blk_cell BK140.out 1).trans rfl; have hfz33_0 := blk_frozen BK140.out 0; have hfz33_1 := blk_frozen BK140.out 1) | ((with_reducible refine gate_callee (f := 13) rfl ?_); refine goesL_ (some 12) rfl rfl Tryd.func13 (by kernel_rfl) rfl #[.agg #[.string a1_0, .string a1_1], .int .i64 1048576] rfl ZZ1 ?_; (with_reducible refine (laws_szLogRecord.calls a1_0 a1_1 1048576 t141 _ A3.out).mono ?_); rintro e w34 ⟨rfl, hb⟩; refine ⟨_, rfl, ?_⟩; have n0_ := Aside0.mk (blk_below (g := gb140) (o := .cells #[.string a1_0, .string a1_1] 23 (0, 0)) ZZ3 hb); have n1_ := Aside0.mk (below_step ZZ2 hb); clear BK140; clear HB; have BK140 := n0_; have HB := n1_; clear n0_ n1_; (try clear hb); (try clear hb2); (try clear hk); (try clear hi); have hcz35_0 : w34.cell? ⟨gb140, 0, none⟩ = some (.string a1_0) := (blk_cell BK140.out 0).trans rfl; have hcz35_1 : w34.cell? ⟨gb140, 1, none⟩ = some (.string a1_1) := (blk_cell BK140.out 1).trans rfl; have hfz35_0 := blk_frozen BK140.out 0; have hfz35_1 := blk_frozen BK140.out 1) | ((with_reducible refine gate_callee (f := 15) rfl ?_); refine goesL_ (some 18) rfl rfl Tryd.func15 (by kernel_rfl) rfl #[.agg #[.string a1_0, .string a1_1]] rfl ZZ1 ?_; (with_reducible refine (laws_toLogRecord.calls a1_0 a1_1 t142 t143 _ A8.out).mono ?_); rintro e w36 ⟨rfl, hb⟩; refine ⟨_, rfl, ?_⟩; have n0_ := Aside0.mk (blk_below (g := gb140) (o := .cells #[.string a1_0, .string a1_1] 23 (0, 0)) ZZ3 hb); have n1_ := Aside0.mk (below_step ZZ2 hb); clear BK140; clear HB; have BK140 := n0_; have HB := n1_; clear n0_ n1_; (try clear hb); (try clear hb2); (try clear hk); (try clear hi)) | ((with_reducible refine gate_callee (f := 14) rfl ?_); refine goesL_ (some 19) rfl rfl Tryd.func14 (by kernel_rfl) rfl #[.int .i64 a0, .agg #[.string t142, .string t143]] rfl ZZ1 ?_; (with_reducible refine (spec_EncodeRecord.calls k a0 t142 t143 t144 t145 _ A9.out).mono ?_); rintro e w37 ⟨rfl, hb⟩; refine ⟨_, rfl, ?_⟩; have n0_ := Aside0.mk (blk_below (g := gb140) (o := .cells #[.string a1_0, .string a1_1] 23 (0, 0)) ZZ3 hb); have n1_ := Aside0.mk (below_step ZZ2 hb); clear BK140; clear HB; have BK140 := n0_; have HB := n1_; clear n0_ n1_; (try clear hb); (try clear hb2); (try clear hk); (try clear hi); have hcz38_0 : w37.cell? ⟨gb140, 0, none⟩ = some (.string a1_0) := (blk_cell BK140.out 0).trans rfl; have hcz38_1 : w37.cell? ⟨gb140, 1, none⟩ = some (.string a1_1) := (blk_cell BK140.out 1).trans rfl; have hfz38_0 := blk_frozen BK140.out 0; have hfz38_1 := blk_frozen BK140.out 1) | ((with_reducible refine gate_callee (f := 15) rfl ?_); refine goesL_ (some 25) rfl rfl Tryd.func15 (by kernel_rfl) rfl #[.agg #[.string a1_0, .string a1_1]] rfl ZZ1 ?_; (with_reducible refine (laws_toLogRecord.calls a1_0 a1_1 t146 t147 _ A10.out).mono ?_); rintro e w39 ⟨rfl, hb⟩; refine ⟨_, rfl, ?_⟩; have n0_ := Aside0.mk (blk_below (g := gb140) (o := .cells #[.string a1_0, .string a1_1] 23 (0, 0)) ZZ3 hb); have n1_ := Aside0.mk (below_step ZZ2 hb); clear BK140; clear HB; have BK140 := n0_; have HB := n1_; clear n0_ n1_; (try clear hb); (try clear hb2); (try clear hk); (try clear hi)) | ((with_reducible refine gate_callee (f := 16) rfl ?_); refine goesL_ (some 26) rfl rfl Tryd.func16 (by kernel_rfl) rfl #[.int .i64 a0, .agg #[.string t146, .string t147]] rfl ZZ1 ?_; (with_reducible refine (impl_EncodeRecord.calls k a0 t146 t147 t148 t149 _ ?side1 A11.out).mono ?_); (case side1 => first | exact HV.out | exact TInv.below HV.out ZZ2); rintro e w40 ⟨rfl, hb⟩; refine ⟨_, rfl, ?_⟩; have n0_ := Aside0.mk (blk_below (g := gb140) (o := .cells #[.string a1_0, .string a1_1] 23 (0, 0)) ZZ3 hb); have n1_ := Aside0.mk (below_step ZZ2 hb); clear BK140; clear HB; have BK140 := n0_; have HB := n1_; clear n0_ n1_; (try clear hb); (try clear hb2); (try clear hk); (try clear hi)))
   go_ret
   exact ⟨by first | rfl | (simp [errW_none, errW_some] <;> rfl) | (simp [*, errW_none, errW_some] <;> rfl), by repeat (first | (with_reducible first | exact HB.out | apply below_alloc | apply pw_below_drewN | apply below_drew1 | refine below_set ?_ GE140.out) | exact HB.out)⟩
end Go.Proofs.YtmhmeifdnleoaaaDoor.XFnExactEncodeRecord

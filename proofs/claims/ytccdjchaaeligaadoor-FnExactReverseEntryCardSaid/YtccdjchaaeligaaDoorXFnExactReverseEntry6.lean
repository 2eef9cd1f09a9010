import Derived.Test.YtccdjchaaeligaaDoorXFnExactReverseEntry1
import Derived.Test.YtccdjchaaeligaaDoorXFnExactReverseEntry0
import Derived.Test.YtccdjchaaeligaaDoorXFnExactReverseEntry4
import Derived.Test.YtccdjchaaeligaaDoorXFnExactReverseEntry5
namespace Go.Proofs.YtccdjchaaeligaaDoor.XFnExactReverseEntry
open Go.Proofs.YtccdjchaaeligaaDoor.Short Go.RowKit Go.Proofs.YtccdjchaaeligaaDoorW.PrintWords Go.Proofs.YtccdjchaaeligaaDoorW.PrintLast Go.Proofs.YtccdjchaaeligaaDoorW.PrintMore
attribute [local go_sem] max2_int min2_int max_two min_two max_three min_three max_four min_four
set_option linter.unusedVariables false
set_option linter.unusedSimpArgs false
def laws_heldBookEntryS.l0 : Nat → List (S63) → Int → Int → Option (Int)
 | 0, _, _, _ => none
 | k + 1, x0, x1, x5 => if x5 < (x0.length : Int) then (if 0 ≤ x5 then (if ((rd_T63 x0 x5).f0) = x1 then ((laws_markText.f k (wrap64 (x1 + 1))).bind fun t201 => (if ((rd_T63 x0 x5).f1).toList = t201.toList then ((laws_heldPostingS.f k ((rd_T63 x0 x5).f2) (wrap64 ((wrap64 (x1 + 1)) + 1))).bind fun t203 => (if t203 < 0 then (some (-1)) else (laws_heldBookEntryS.l0 k x0 t203 (wrap64 (x5 + 1))))) else (some (-1)))) else (some (-1))) else (none)) else (some x1)
def laws_heldBookEntryS.f (k : Nat) (l0 : List (S63)) (a1 : Int) : Option (Int) := laws_heldBookEntryS.l0 k l0 a1 0
theorem laws_heldBookEntryS.mono_l : ∀ k, (∀ y0 y1 y2, LeO (laws_heldBookEntryS.l0 k y0 y1 y2) (laws_heldBookEntryS.l0 (k + 1) y0 y1 y2))
 | 0 => fun _ _ _ r h => by simp [laws_heldBookEntryS.l0] at h
 | k + 1 => by
  have ih0 := laws_heldBookEntryS.mono_l k
  ·intro y0 y1 y2
   unfold laws_heldBookEntryS.l0
   repeat' with_reducible first | apply ih0 | apply laws_heldPostingS.mono | apply laws_markText.mono | exact LeO.refl _ | exact LeO.none _ | refine LeO.ite ?_ ?_ | refine LeO.bind ?_ (fun _ => ?_)
theorem laws_heldBookEntryS.mono : ∀ a0 a1 k, LeO (laws_heldBookEntryS.f k a0 a1) (laws_heldBookEntryS.f (k + 1) a0 a1) := by
 intro a0 a1 k
 have ih0 := laws_heldBookEntryS.mono_l k
 unfold laws_heldBookEntryS.f
 repeat' with_reducible first | apply ih0 | apply laws_heldPostingS.mono | apply laws_markText.mono | exact LeO.refl _ | exact LeO.none _ | refine LeO.ite ?_ ?_ | refine LeO.bind ?_ (fun _ => ?_)
def laws_heldBookEntryS.T7 : Bool × List (List Nat × List Nat) := (true, [([], []), ([], []), ([0, 1], [0, 1]), ([2], [2]), ([3], [3]), ([], []), ([5], [5]), ([4, 6], [4, 6])])
def laws_heldBookEntryS.B7 : List Nat := [0, 0, 3, 7, 15, 0, 32, 127]
theorem laws_heldBookEntryS.tab7 : rtab .any (opsOf Tryd.f88 7) = laws_heldBookEntryS.T7 := by kernel_rfl
theorem laws_heldBookEntryS.bits7 : waitsOk laws_heldBookEntryS.T7.2 laws_heldBookEntryS.B7 = true := by kernel_rfl
set_option maxHeartbeats 8000000 in
set_option maxRecDepth 100000 in
theorem laws_heldBookEntryS.calls (k : Nat) (A0 : Option Addr) (c0 : Nat) (l0 : List (S63)) (a1 : Int) (r : Int) (w : World) (hr0 : Kd.C k63 w A0 l0.length l0) (hc0 : l0.length ≤ c0) (h : laws_heldBookEntryS.f k l0 a1 = some r) :
 Calls Tryd.prog 88 #[.slice A0 l0.length c0, .int .i64 a1] w fun e w' => e = .returned (.int .i64 r) ∧ Below w.heap.size w w' := by
 have HR0 := Aside0.mk hr0
 have HC0 := Aside0.mk hc0
 clear hr0 hc0
 have HB := Aside0.mk (Below.refl w.heap.size w)
 have H := h
 clear h
 unfold laws_heldBookEntryS.f at H
 replace H := Aside0.mk H
 go_enter Tryd.func88, Tryd.ntmps88
 go_wp2
 go_loopg [1, 5] k (fun kq v1 v5 w' => ∃ (x1_1 : Int) (x5_1 : Int), v1 = .int .i64 x1_1 ∧ v5 = .int .i64 x5_1 ∧ Aside0 (laws_heldBookEntryS.l0 kq l0 x1_1 x5_1 = some r) ∧ Aside0 (kq ≤ k) ∧ Aside0 (Below w.heap.size w w'))
 case atStart => exact ⟨(a1), (0), ZZ0ab324, ZZ0ab324, H, ⟨Nat.le_refl _⟩, ⟨ZZ605003⟩⟩
 case round =>
  clear H
  obtain ⟨x1_1, x5_1, rfl, rfl, HA, HK1, HB⟩ := hrel
  cases gk with
  | zero => exact absurd HA.out (by simp [laws_heldBookEntryS.l0])
  | succ k1 =>
   have H := HA.out
   clear HA
   simp only [laws_heldBookEntryS.l0] at H
   by_cases c3 : x5_1 < (l0.length : Int)
   ·rw [if_pos c3] at H
    have c3b0 := decide_eq_true c3
    clear c3
    obtain ⟨c4b0, H⟩ := ifYd H
    by_cases c5 : ((rd_T63 l0 x5_1).f0) = x1_1
    ·rw [if_pos c5] at H
     have c5b0 := beq_iff_eq.mpr c5
     have c5b1 := bne_eq_false_iff_eq.mpr c5
     clear c5
     obtain ⟨t201, A6, H⟩ := bdY H
     by_cases c7 : ((rd_T63 l0 x5_1).f1).toList = t201.toList
     ·rw [if_pos c7] at H
      have c7b0 := beq_iff_eq.mpr c7
      have c7b1 := bne_eq_false_iff_eq.mpr c7
      clear c7
      obtain ⟨t203, A8, H⟩ := bdY H
      by_cases c9 : t203 < 0
      ·rw [if_pos c9] at H
       have c9b0 := decide_eq_true c9
       clear c9
       obtain rfl := Option.some.inj H
       have p199 : 0 ≤ (x5_1 : Int) := of_decide_eq_true ZZ853400
       have q199 : x5_1 < (l0.length : Int) := of_decide_eq_true ZZ853400
       obtain ⟨ad199, A199_2, c199_2, e199, hx199_0, hx199_1, hx199_2, hl199_2, hi199_2⟩ := at_T63 HR0.out x5_1 p199 q199
       cases e199
       replace hx199_0 := (HB.out.cell (World.block_lt_of_cell? w _ hx199_0)).trans hx199_0
       replace hx199_1 := (HB.out.cell (World.block_lt_of_cell? w _ hx199_1)).trans hx199_1
       replace hx199_2 := (HB.out.cell (World.block_lt_of_cell? w _ hx199_2)).trans hx199_2
       have HR199_2 := Aside0.mk hi199_2
       have HC199_2 := Aside0.mk hl199_2
       clear hi199_2 hl199_2
       replace p199 := eq_true p199
       replace q199 := eq_true q199
       try go_wp2
       replace HB := Aside0.mk (below_drew1 HB.out)
       have p200 : 0 ≤ (x5_1 : Int) := of_decide_eq_true ZZ853400
       have q200 : x5_1 < (l0.length : Int) := of_decide_eq_true ZZ853400
       try clear hx199_0
       try clear hx199_1
       try clear hx199_2
       obtain ⟨ad200, A200_2, c200_2, e200, hx200_0, hx200_1, hx200_2, hl200_2, hi200_2⟩ := at_T63 HR0.out x5_1 p200 q200
       have hw200_2 := hx200_2
       have hw200_1 := hx200_1
       have hw200_0 := hx200_0
       obtain rfl : ad199 = ad200 := (by injection e200)
       replace hx200_0 := (HB.out.cell (World.block_lt_of_cell? w _ hx200_0)).trans hx200_0
       replace hx200_1 := (HB.out.cell (World.block_lt_of_cell? w _ hx200_1)).trans hx200_1
       replace hx200_2 := (HB.out.cell (World.block_lt_of_cell? w _ hx200_2)).trans hx200_2
       have HR200_2 := Aside0.mk hi200_2
       have HC200_2 := Aside0.mk hl200_2
       clear hi200_2 hl200_2
       replace p200 := eq_true p200
       replace q200 := eq_true q200
       refine st 8 (S := fun w' => w'.cell? (ad199.add ((x5_1).toNat * 3)) = some (.int .i64 ((rd_T63 l0 x5_1).f0)) ∧ w'.cell? ⟨(ad199.add ((x5_1).toNat * 3)).block, (ad199.add ((x5_1).toNat * 3)).off + 1, none⟩ = some (.string ((rd_T63 l0 x5_1).f1)) ∧ w'.cell? ⟨(ad199.add ((x5_1).toNat * 3)).block, (ad199.add ((x5_1).toNat * 3)).off + 2, none⟩ = some (.slice A200_2 ((rd_T63 l0 x5_1).f2).length c200_2)) laws_heldBookEntryS.tab7 laws_heldBookEntryS.bits7 zK (fun hHeld HT_ HW_ => ?_)
       generalize wr.drew = w10 at HB HR200_2 hx200_0 hx200_1 hx200_2 hHeld ⊢
       refine pu 0 21 ?_
       refine pu 1 22 ?_
       refine pu 2 23 ?_
       refine pu 3 24 ?_
       refine pu 5 26 ?_
       refine tk 4 25 ?_
       refine on1 6 27 Tryd.func112 #[.int .i64 (wrap64 (x1_1 + 1))] (laws_markText.calls k1 (wrap64 (x1_1 + 1)) t201 _ A6.out) ?_
       rintro w11 hb
       replace HB := hB hb
       (try clear hb)
       (try clear hb2)
       (try clear hk)
       (try clear hi)
       refine ⟨zK, fun hHeld => ?_⟩
       refine pu 7 28 ?_
       refine done_ (done_of HT_.out (by kernel_rfl)) ?_
       have p202 : 0 ≤ (x5_1 : Int) := of_decide_eq_true ZZ853400
       have q202 : x5_1 < (l0.length : Int) := of_decide_eq_true ZZ853400
       try clear hx200_0
       try clear hx200_1
       try clear hx200_2
       obtain ⟨ad202, A202_2, c202_2, e202, hx202_0, hx202_1, hx202_2, hl202_2, hi202_2⟩ := at_T63 HR0.out x5_1 p202 q202
       obtain rfl : ad199 = ad202 := (by injection e202)
       try (obtain ⟨rfl, rfl⟩ : A202_2 = A200_2 ∧ c202_2 = c200_2 := (by have h_ := hw200_2.symm.trans hx202_2; simp only [Option.some.injEq, Value.slice.injEq, true_and, eq_self] at h_; exact ⟨h_.1.symm, h_.2.symm⟩))
       replace hx202_0 := (HB.out.cell (World.block_lt_of_cell? w _ hx202_0)).trans hx202_0
       replace hx202_1 := (HB.out.cell (World.block_lt_of_cell? w _ hx202_1)).trans hx202_1
       replace hx202_2 := (HB.out.cell (World.block_lt_of_cell? w _ hx202_2)).trans hx202_2
       have HR202_2 := Aside0.mk hi202_2
       have HC202_2 := Aside0.mk hl202_2
       clear hi202_2 hl202_2
       replace p202 := eq_true p202
       replace q202 := eq_true q202
       try go_wp2_with (first | (refine gc 37 Tryd.func115 #[.slice A202_2 ((rd_T63 l0 x5_1).f2).length c202_2, .int .i64 (wrap64 ((wrap64 (x1_1 + 1)) + 1))] ?_; (with_reducible refine (laws_heldPostingS.calls k1 _ _ ((rd_T63 l0 x5_1).f2) (wrap64 ((wrap64 (x1_1 + 1)) + 1)) t203 _ ?side1 ?side2 A8.out).mono ?_); (case side1 => exact (rC (Kd.C_below HR202_2.out HB.out))); (case side2 => exact HC202_2.out); rintro e w' ⟨rfl, ⟨nd, rfl⟩⟩; refine ⟨_, rfl, ?_⟩))
       go_ret
       exact ⟨ZZab01d2, ZZ605003⟩
      rw [if_neg c9] at H
      have c9b0 := decide_eq_false c9
      clear c9
      replace H := Aside0.mk H
      have p199 : 0 ≤ (x5_1 : Int) := of_decide_eq_true ZZ853400
      have q199 : x5_1 < (l0.length : Int) := of_decide_eq_true ZZ853400
      obtain ⟨ad199, A199_2, c199_2, e199, hx199_0, hx199_1, hx199_2, hl199_2, hi199_2⟩ := at_T63 HR0.out x5_1 p199 q199
      cases e199
      replace hx199_0 := (HB.out.cell (World.block_lt_of_cell? w _ hx199_0)).trans hx199_0
      replace hx199_1 := (HB.out.cell (World.block_lt_of_cell? w _ hx199_1)).trans hx199_1
      replace hx199_2 := (HB.out.cell (World.block_lt_of_cell? w _ hx199_2)).trans hx199_2
      have HR199_2 := Aside0.mk hi199_2
      have HC199_2 := Aside0.mk hl199_2
      clear hi199_2 hl199_2
      replace p199 := eq_true p199
      replace q199 := eq_true q199
      try go_wp2
      replace HB := Aside0.mk (below_drew1 HB.out)
      have p200 : 0 ≤ (x5_1 : Int) := of_decide_eq_true ZZ853400
      have q200 : x5_1 < (l0.length : Int) := of_decide_eq_true ZZ853400
      try clear hx199_0
      try clear hx199_1
      try clear hx199_2
      obtain ⟨ad200, A200_2, c200_2, e200, hx200_0, hx200_1, hx200_2, hl200_2, hi200_2⟩ := at_T63 HR0.out x5_1 p200 q200
      have hw200_2 := hx200_2
      have hw200_1 := hx200_1
      have hw200_0 := hx200_0
      obtain rfl : ad199 = ad200 := (by injection e200)
      replace hx200_0 := (HB.out.cell (World.block_lt_of_cell? w _ hx200_0)).trans hx200_0
      replace hx200_1 := (HB.out.cell (World.block_lt_of_cell? w _ hx200_1)).trans hx200_1
      replace hx200_2 := (HB.out.cell (World.block_lt_of_cell? w _ hx200_2)).trans hx200_2
      have HR200_2 := Aside0.mk hi200_2
      have HC200_2 := Aside0.mk hl200_2
      clear hi200_2 hl200_2
      replace p200 := eq_true p200
      replace q200 := eq_true q200
      refine st 8 (S := fun w' => w'.cell? (ad199.add ((x5_1).toNat * 3)) = some (.int .i64 ((rd_T63 l0 x5_1).f0)) ∧ w'.cell? ⟨(ad199.add ((x5_1).toNat * 3)).block, (ad199.add ((x5_1).toNat * 3)).off + 1, none⟩ = some (.string ((rd_T63 l0 x5_1).f1)) ∧ w'.cell? ⟨(ad199.add ((x5_1).toNat * 3)).block, (ad199.add ((x5_1).toNat * 3)).off + 2, none⟩ = some (.slice A200_2 ((rd_T63 l0 x5_1).f2).length c200_2)) laws_heldBookEntryS.tab7 laws_heldBookEntryS.bits7 zK (fun hHeld HT_ HW_ => ?_)
      generalize wr.drew = w12 at HB HR200_2 hx200_0 hx200_1 hx200_2 hHeld ⊢
      refine pu 0 21 ?_
      refine pu 1 22 ?_
      refine pu 2 23 ?_
      refine pu 3 24 ?_
      refine pu 5 26 ?_
      refine tk 4 25 ?_
      refine on1 6 27 Tryd.func112 #[.int .i64 (wrap64 (x1_1 + 1))] (laws_markText.calls k1 (wrap64 (x1_1 + 1)) t201 _ A6.out) ?_
      rintro w13 hb
      replace HB := hB hb
      (try clear hb)
      (try clear hb2)
      (try clear hk)
      (try clear hi)
      refine ⟨zK, fun hHeld => ?_⟩
      refine pu 7 28 ?_
      refine done_ (done_of HT_.out (by kernel_rfl)) ?_
      have p202 : 0 ≤ (x5_1 : Int) := of_decide_eq_true ZZ853400
      have q202 : x5_1 < (l0.length : Int) := of_decide_eq_true ZZ853400
      try clear hx200_0
      try clear hx200_1
      try clear hx200_2
      obtain ⟨ad202, A202_2, c202_2, e202, hx202_0, hx202_1, hx202_2, hl202_2, hi202_2⟩ := at_T63 HR0.out x5_1 p202 q202
      obtain rfl : ad199 = ad202 := (by injection e202)
      try (obtain ⟨rfl, rfl⟩ : A202_2 = A200_2 ∧ c202_2 = c200_2 := (by have h_ := hw200_2.symm.trans hx202_2; simp only [Option.some.injEq, Value.slice.injEq, true_and, eq_self] at h_; exact ⟨h_.1.symm, h_.2.symm⟩))
      replace hx202_0 := (HB.out.cell (World.block_lt_of_cell? w _ hx202_0)).trans hx202_0
      replace hx202_1 := (HB.out.cell (World.block_lt_of_cell? w _ hx202_1)).trans hx202_1
      replace hx202_2 := (HB.out.cell (World.block_lt_of_cell? w _ hx202_2)).trans hx202_2
      have HR202_2 := Aside0.mk hi202_2
      have HC202_2 := Aside0.mk hl202_2
      clear hi202_2 hl202_2
      replace p202 := eq_true p202
      replace q202 := eq_true q202
      try go_wp2_with (first | (refine gc 37 Tryd.func115 #[.slice A202_2 ((rd_T63 l0 x5_1).f2).length c202_2, .int .i64 (wrap64 ((wrap64 (x1_1 + 1)) + 1))] ?_; (with_reducible refine (laws_heldPostingS.calls k1 _ _ ((rd_T63 l0 x5_1).f2) (wrap64 ((wrap64 (x1_1 + 1)) + 1)) t203 _ ?side1 ?side2 A8.out).mono ?_); (case side1 => exact (rC (Kd.C_below HR202_2.out HB.out))); (case side2 => exact HC202_2.out); rintro e w' ⟨rfl, ⟨nd, rfl⟩⟩; refine ⟨_, rfl, ?_⟩))
      go_roundg k1
      case measure => have := HK1.out; omega
      case rel => exact ⟨(t203), (wrap64 (x5_1 + 1)), ZZ0ab324, ZZ0ab324, H, kle, ⟨ZZ605003⟩⟩
     rw [if_neg c7] at H
     have c7b0 := beq_eq_false_iff_ne.mpr c7
     have c7b1 := bne_iff_ne.mpr c7
     obtain rfl := Option.some.inj H
     have p199 : 0 ≤ (x5_1 : Int) := of_decide_eq_true ZZ853400
     have q199 : x5_1 < (l0.length : Int) := of_decide_eq_true ZZ853400
     obtain ⟨ad199, A199_2, c199_2, e199, hx199_0, hx199_1, hx199_2, hl199_2, hi199_2⟩ := at_T63 HR0.out x5_1 p199 q199
     cases e199
     replace hx199_0 := (HB.out.cell (World.block_lt_of_cell? w _ hx199_0)).trans hx199_0
     replace hx199_1 := (HB.out.cell (World.block_lt_of_cell? w _ hx199_1)).trans hx199_1
     replace hx199_2 := (HB.out.cell (World.block_lt_of_cell? w _ hx199_2)).trans hx199_2
     have HR199_2 := Aside0.mk hi199_2
     have HC199_2 := Aside0.mk hl199_2
     clear hi199_2 hl199_2
     replace p199 := eq_true p199
     replace q199 := eq_true q199
     try go_wp2
     replace HB := Aside0.mk (below_drew1 HB.out)
     have p200 : 0 ≤ (x5_1 : Int) := of_decide_eq_true ZZ853400
     have q200 : x5_1 < (l0.length : Int) := of_decide_eq_true ZZ853400
     try clear hx199_0
     try clear hx199_1
     try clear hx199_2
     obtain ⟨ad200, A200_2, c200_2, e200, hx200_0, hx200_1, hx200_2, hl200_2, hi200_2⟩ := at_T63 HR0.out x5_1 p200 q200
     have hw200_2 := hx200_2
     have hw200_1 := hx200_1
     have hw200_0 := hx200_0
     obtain rfl : ad199 = ad200 := (by injection e200)
     replace hx200_0 := (HB.out.cell (World.block_lt_of_cell? w _ hx200_0)).trans hx200_0
     replace hx200_1 := (HB.out.cell (World.block_lt_of_cell? w _ hx200_1)).trans hx200_1
     replace hx200_2 := (HB.out.cell (World.block_lt_of_cell? w _ hx200_2)).trans hx200_2
     have HR200_2 := Aside0.mk hi200_2
     have HC200_2 := Aside0.mk hl200_2
     clear hi200_2 hl200_2
     replace p200 := eq_true p200
     replace q200 := eq_true q200
     refine st 8 (S := fun w' => w'.cell? (ad199.add ((x5_1).toNat * 3)) = some (.int .i64 ((rd_T63 l0 x5_1).f0)) ∧ w'.cell? ⟨(ad199.add ((x5_1).toNat * 3)).block, (ad199.add ((x5_1).toNat * 3)).off + 1, none⟩ = some (.string ((rd_T63 l0 x5_1).f1)) ∧ w'.cell? ⟨(ad199.add ((x5_1).toNat * 3)).block, (ad199.add ((x5_1).toNat * 3)).off + 2, none⟩ = some (.slice A200_2 ((rd_T63 l0 x5_1).f2).length c200_2)) laws_heldBookEntryS.tab7 laws_heldBookEntryS.bits7 zK (fun hHeld HT_ HW_ => ?_)
     generalize wr.drew = w14 at HB HR200_2 hx200_0 hx200_1 hx200_2 hHeld ⊢
     refine pu 0 21 ?_
     refine pu 1 22 ?_
     refine pu 2 23 ?_
     refine pu 3 24 ?_
     refine pu 5 26 ?_
     refine tk 4 25 ?_
     refine on1 6 27 Tryd.func112 #[.int .i64 (wrap64 (x1_1 + 1))] (laws_markText.calls k1 (wrap64 (x1_1 + 1)) t201 _ A6.out) ?_
     rintro w15 hb
     replace HB := hB hb
     (try clear hb)
     (try clear hb2)
     (try clear hk)
     (try clear hi)
     refine ⟨zK, fun hHeld => ?_⟩
     refine pu 7 28 ?_
     refine done_ (done_of HT_.out (by kernel_rfl)) ?_
     try go_wp2
     go_ret
     exact ⟨ZZab01d2, ZZ605003⟩
    rw [if_neg c5] at H
    have c5b0 := beq_eq_false_iff_ne.mpr c5
    have c5b1 := bne_iff_ne.mpr c5
    obtain rfl := Option.some.inj H
    have p199 : 0 ≤ (x5_1 : Int) := of_decide_eq_true ZZ853400
    have q199 : x5_1 < (l0.length : Int) := of_decide_eq_true ZZ853400
    obtain ⟨ad199, A199_2, c199_2, e199, hx199_0, hx199_1, hx199_2, hl199_2, hi199_2⟩ := at_T63 HR0.out x5_1 p199 q199
    cases e199
    replace hx199_0 := (HB.out.cell (World.block_lt_of_cell? w _ hx199_0)).trans hx199_0
    replace hx199_1 := (HB.out.cell (World.block_lt_of_cell? w _ hx199_1)).trans hx199_1
    replace hx199_2 := (HB.out.cell (World.block_lt_of_cell? w _ hx199_2)).trans hx199_2
    have HR199_2 := Aside0.mk hi199_2
    have HC199_2 := Aside0.mk hl199_2
    clear hi199_2 hl199_2
    replace p199 := eq_true p199
    replace q199 := eq_true q199
    go_wp2
    go_ret
    exact ⟨ZZab01d2, ZZ605003⟩
   rw [if_neg c3] at H
   have c3b0 := decide_eq_false c3
   clear c3
   obtain rfl := Option.some.inj H
   go_wp2
   go_ret
   exact ⟨ZZab01d2, ZZ605003⟩
def laws_heldLedger.f (k : Nat) (l0_0 : List (S48)) (l0_1 : List (S63)) (a1 : Int) : Option (Int) := (laws_heldAccountS.f k l0_0 a1).bind fun t205 => (if t205 < 0 then (some (-1)) else ((laws_heldBookEntryS.f k l0_1 t205).bind fun t206 => (if t206 < 0 then (some (-1)) else (some t206))))
theorem laws_heldLedger.mono : ∀ a0 a1 a2 k, LeO (laws_heldLedger.f k a0 a1 a2) (laws_heldLedger.f (k + 1) a0 a1 a2) := by
 intro a0 a1 a2 k
 unfold laws_heldLedger.f
 repeat' with_reducible first | apply laws_heldAccountS.mono | apply laws_heldBookEntryS.mono | exact LeO.refl _ | exact LeO.none _ | refine LeO.ite ?_ ?_ | refine LeO.bind ?_ (fun _ => ?_)
set_option maxHeartbeats 8000000 in
set_option maxRecDepth 100000 in
theorem laws_heldLedger.calls (k : Nat) (A0_0 : Option Addr) (c0_0 : Nat) (l0_0 : List (S48)) (A0_1 : Option Addr) (c0_1 : Nat) (l0_1 : List (S63)) (a1 : Int) (r : Int) (w : World) (hr0_0 : Kd.C k48 w A0_0 l0_0.length l0_0) (hc0_0 : l0_0.length ≤ c0_0) (hr0_1 : Kd.C k63 w A0_1 l0_1.length l0_1) (hc0_1 : l0_1.length ≤ c0_1) (h : laws_heldLedger.f k l0_0 l0_1 a1 = some r) :
 Calls Tryd.prog 41 #[.agg #[.slice A0_0 l0_0.length c0_0, .slice A0_1 l0_1.length c0_1], .int .i64 a1] w fun e w' => e = .returned (.int .i64 r) ∧ Below w.heap.size w w' := by
 have hu31 := Tryd.underlying31
 have HR0_0 := Aside0.mk hr0_0
 have HC0_0 := Aside0.mk hc0_0
 clear hr0_0 hc0_0
 have HR0_1 := Aside0.mk hr0_1
 have HC0_1 := Aside0.mk hc0_1
 clear hr0_1 hc0_1
 have HB := Aside0.mk (Below.refl w.heap.size w)
 have H := h
 clear h
 unfold laws_heldLedger.f at H
 obtain ⟨t205, A3, H⟩ := bdY H
 by_cases c4 : t205 < 0
 ·rw [if_pos c4] at H
  have c4b0 := decide_eq_true c4
  clear c4
  obtain rfl := Option.some.inj H
  go_enter Tryd.func41, Tryd.ntmps41
  go_wp2_with (first | ((with_reducible refine gate_dst (N := 2) rfl ?_); refine bx 2 (cs := #[.slice A0_0 l0_0.length c0_0, .slice A0_1 l0_1.length c0_1]) (t := 31) ?_; intro gb204 hg w5 hbox hb; have BK204 := Aside0.mk (hbox); have GW204 := gw hg; have GE204 := gw hg; replace HB := hB hb; clear hb hbox hg; obtain ⟨hcz6_0, hcz6_1, hfz6_0, hfz6_1⟩ := z2 BK204) | (refine gc 8 Tryd.func87 #[.slice A0_0 l0_0.length c0_0, .int .i64 a1] ?_; (with_reducible refine (laws_heldAccountS.calls k _ _ l0_0 a1 t205 _ ?side1 ?side2 A3.out).mono ?_); (case side1 => exact (rC (Kd.C_below HR0_0.out HB.out))); (case side2 => exact HC0_0.out); rintro e w7 ⟨rfl, hb⟩; refine ⟨_, rfl, ?_⟩; replace BK204 := kb BK204 hb; replace HB := hB hb; (try clear hb); (try clear hb2); (try clear hk); (try clear hi)))
  go_ret
  exact ⟨ZZab01d2, ZZ295621⟩
 rw [if_neg c4] at H
 have c4b0 := decide_eq_false c4
 clear c4
 obtain ⟨t206, A8, H⟩ := bdY H
 by_cases c9 : t206 < 0
 ·rw [if_pos c9] at H
  have c9b0 := decide_eq_true c9
  clear c9
  obtain rfl := Option.some.inj H
  go_enter Tryd.func41, Tryd.ntmps41
  go_wp2_with (first | ((with_reducible refine gate_dst (N := 2) rfl ?_); refine bx 2 (cs := #[.slice A0_0 l0_0.length c0_0, .slice A0_1 l0_1.length c0_1]) (t := 31) ?_; intro gb204 hg w10 hbox hb; have BK204 := Aside0.mk (hbox); have GW204 := gw hg; have GE204 := gw hg; replace HB := hB hb; clear hb hbox hg; obtain ⟨hcz11_0, hcz11_1, hfz11_0, hfz11_1⟩ := z2 BK204) | (refine gc 8 Tryd.func87 #[.slice A0_0 l0_0.length c0_0, .int .i64 a1] ?_; (with_reducible refine (laws_heldAccountS.calls k _ _ l0_0 a1 t205 _ ?side1 ?side2 A3.out).mono ?_); (case side1 => exact (rC (Kd.C_below HR0_0.out HB.out))); (case side2 => exact HC0_0.out); rintro e w12 ⟨rfl, hb⟩; refine ⟨_, rfl, ?_⟩; replace BK204 := kb BK204 hb; replace HB := hB hb; (try clear hb); (try clear hb2); (try clear hk); (try clear hi); obtain ⟨hcz13_0, hcz13_1, hfz13_0, hfz13_1⟩ := z2 BK204) | (refine gc 14 Tryd.func88 #[.slice A0_1 l0_1.length c0_1, .int .i64 t205] ?_; (with_reducible refine (laws_heldBookEntryS.calls k _ _ l0_1 t205 t206 _ ?side1 ?side2 A8.out).mono ?_); (case side1 => exact (rC (Kd.C_below HR0_1.out HB.out))); (case side2 => exact HC0_1.out); rintro e w14 ⟨rfl, hb⟩; refine ⟨_, rfl, ?_⟩; replace BK204 := kb BK204 hb; replace HB := hB hb; (try clear hb); (try clear hb2); (try clear hk); (try clear hi)))
  go_ret
  exact ⟨ZZab01d2, ZZ295621⟩
 rw [if_neg c9] at H
 have c9b0 := decide_eq_false c9
 clear c9
 obtain rfl := Option.some.inj H
 go_enter Tryd.func41, Tryd.ntmps41
 go_wp2_with (first | ((with_reducible refine gate_dst (N := 2) rfl ?_); refine bx 2 (cs := #[.slice A0_0 l0_0.length c0_0, .slice A0_1 l0_1.length c0_1]) (t := 31) ?_; intro gb204 hg w15 hbox hb; have BK204 := Aside0.mk (hbox); have GW204 := gw hg; have GE204 := gw hg; replace HB := hB hb; clear hb hbox hg; obtain ⟨hcz16_0, hcz16_1, hfz16_0, hfz16_1⟩ := z2 BK204) | (refine gc 8 Tryd.func87 #[.slice A0_0 l0_0.length c0_0, .int .i64 a1] ?_; (with_reducible refine (laws_heldAccountS.calls k _ _ l0_0 a1 t205 _ ?side1 ?side2 A3.out).mono ?_); (case side1 => exact (rC (Kd.C_below HR0_0.out HB.out))); (case side2 => exact HC0_0.out); rintro e w17 ⟨rfl, hb⟩; refine ⟨_, rfl, ?_⟩; replace BK204 := kb BK204 hb; replace HB := hB hb; (try clear hb); (try clear hb2); (try clear hk); (try clear hi); obtain ⟨hcz18_0, hcz18_1, hfz18_0, hfz18_1⟩ := z2 BK204) | (refine gc 14 Tryd.func88 #[.slice A0_1 l0_1.length c0_1, .int .i64 t205] ?_; (with_reducible refine (laws_heldBookEntryS.calls k _ _ l0_1 t205 t206 _ ?side1 ?side2 A8.out).mono ?_); (case side1 => exact (rC (Kd.C_below HR0_1.out HB.out))); (case side2 => exact HC0_1.out); rintro e w19 ⟨rfl, hb⟩; refine ⟨_, rfl, ?_⟩; replace BK204 := kb BK204 hb; replace HB := hB hb; (try clear hb); (try clear hb2); (try clear hk); (try clear hi)))
 go_ret
 exact ⟨ZZab01d2, ZZ295621⟩
def impl_within.f (a0 : Int) (a1 : Int) (a2 : Int) : Option (Bool) := if a0 ≥ a1 then (some (decide (a0 ≤ a2))) else (some false)
set_option maxHeartbeats 8000000 in
set_option maxRecDepth 100000 in
theorem impl_within.calls (a0 : Int) (a1 : Int) (a2 : Int) (r : Bool) (w : World) (h : impl_within.f a0 a1 a2 = some r) :
 Calls Tryd.prog 56 #[.int .i64 a0, .int .i64 a1, .int .i64 a2] w fun e w' => e = .returned (.bool r) ∧ Drawn0 w w' := by
 have H := h
 clear h
 unfold impl_within.f at H
 by_cases c4 : a0 ≥ a1
 ·rw [if_pos c4] at H
  have c4b0 : decide (a1 ≤ a0) = true := decide_eq_true c4
  clear c4
  obtain rfl := Option.some.inj H
  go_enter Tryd.func56, Tryd.ntmps56
  go_wp2
  go_ret
  exact ⟨ZZ0ab324, ZZ965307⟩
 rw [if_neg c4] at H
 have c4b0 : decide (a1 ≤ a0) = false := decide_eq_false c4
 clear c4
 obtain rfl := Option.some.inj H
 go_enter Tryd.func56, Tryd.ntmps56
 go_wp2
 go_ret
 exact ⟨ZZ0ab324, ZZ965307⟩
def impl_isAccountName.f (a0 : ByteArray) : Option (Bool) := (impl_within.f (a0.size : Int) 1 8).bind fun t207 => (if t207 = true then ((strings_Trim.f a0 (⟨#[97, 98, 99, 100, 101, 102, 103, 104, 105, 106, 107, 108, 109, 110, 111, 112, 113, 114, 115, 116, 117, 118, 119, 120, 121, 122]⟩ : ByteArray)).bind fun t208 => (some (t208.toList == ([] : List UInt8)))) else (some false))
set_option maxHeartbeats 8000000 in
set_option maxRecDepth 100000 in
theorem impl_isAccountName.calls (a0 : ByteArray) (r : Bool) (w : World) (h : impl_isAccountName.f a0 = some r) :
 Calls Tryd.prog 55 #[.string a0] w fun e w' => e = .returned (.bool r) ∧ Below w.heap.size w w' := by
 have HB := Aside0.mk (Below.refl w.heap.size w)
 have H := h
 clear h
 unfold impl_isAccountName.f at H
 obtain ⟨t207, A2, H⟩ := bdY H
 by_cases c3 : t207 = true
 ·subst c3
  replace H := ifT H
  obtain ⟨t208, A4, H⟩ := bdY H
  obtain rfl := Option.some.inj H
  go_enter Tryd.func55, Tryd.ntmps55
  go_wp2_with (first | (refine gc 5 Tryd.func56 #[.int .i64 (a0.size : Int), .int .i64 1, .int .i64 8] ?_; (with_reducible refine (impl_within.calls (a0.size : Int) 1 8 true _ A2.out).mono ?_); rintro e w' ⟨rfl, ⟨nd, rfl⟩⟩; refine ⟨_, rfl, ?_⟩) | (go_at_call 104; (with_reducible refine (strings_Trim.calls a0 (⟨#[97, 98, 99, 100, 101, 102, 103, 104, 105, 106, 107, 108, 109, 110, 111, 112, 113, 114, 115, 116, 117, 118, 119, 120, 121, 122]⟩ : ByteArray) t208 _ A4.out).mono ?_); rintro e w5 ⟨rfl, hb⟩; replace HB := hB hb; (try clear hb); (try clear hb2); (try clear hk); (try clear hi)))
  go_ret
  exact ⟨ZZab01d2, ZZ605003⟩
 replace c3 := Bool.eq_false_iff.mpr c3
 subst c3
 replace H := ifF H
 obtain rfl := Option.some.inj H
 go_enter Tryd.func55, Tryd.ntmps55
 go_wp2_with (first | (refine gc 5 Tryd.func56 #[.int .i64 (a0.size : Int), .int .i64 1, .int .i64 8] ?_; (with_reducible refine (impl_within.calls (a0.size : Int) 1 8 false _ A2.out).mono ?_); rintro e w' ⟨rfl, ⟨nd, rfl⟩⟩; refine ⟨_, rfl, ?_⟩))
 go_ret
 exact ⟨ZZab01d2, ZZ605003⟩
-- NOT PRINTED: function 105 (impl_Account_105)
-- NOT PRINTED: function 57 (impl_Account_57)
-- NOT PRINTED: function 58 (impl_IsValidLedger_1)
def impl_isDay.f (a0 : Int) : Option (Bool) := (impl_within.f a0 0 36524).bind fun t210 => (some t210)
set_option maxHeartbeats 8000000 in
set_option maxRecDepth 100000 in
theorem impl_isDay.calls (a0 : Int) (r : Bool) (w : World) (h : impl_isDay.f a0 = some r) :
 Calls Tryd.prog 59 #[.int .i64 a0] w fun e w' => e = .returned (.bool r) ∧ Drawn0 w w' := by
 have H := h
 clear h
 unfold impl_isDay.f at H
 obtain ⟨t210, A2, H⟩ := bdY H
 obtain rfl := Option.some.inj H
 go_enter Tryd.func59, Tryd.ntmps59
 go_wp2_with (first | (refine gc 4 Tryd.func56 #[.int .i64 a0, .int .i64 0, .int .i64 36524] ?_; (with_reducible refine (impl_within.calls a0 0 36524 t210 _ A2.out).mono ?_); rintro e w' ⟨rfl, ⟨nd, rfl⟩⟩; refine ⟨_, rfl, ?_⟩))
 go_ret
 exact ⟨ZZ0ab324, ZZ965307⟩
def impl_isMemo.l0 : Nat → ByteArray → Int → Int → Option (Bool)
 | 0, _, _, _ => none
 | k + 1, x0, x5, x6 => if x6 < x5 then (if 0 ≤ x6 then (if x6 < (x0.size : Int) then (if (bt x0 x6) < 32 then (some false) else (if (bt x0 x6) > 126 then (some false) else (impl_isMemo.l0 k x0 x5 (wrap64 (x6 + 1))))) else (none)) else (none)) else (some (decide ((x0.size : Int) ≤ 30)))
def impl_isMemo.f (k : Nat) (a0 : ByteArray) : Option (Bool) := impl_isMemo.l0 k a0 (a0.size : Int) 0
theorem impl_isMemo.mono_l : ∀ k, (∀ y0 y1 y2, LeO (impl_isMemo.l0 k y0 y1 y2) (impl_isMemo.l0 (k + 1) y0 y1 y2))
 | 0 => fun _ _ _ r h => by simp [impl_isMemo.l0] at h
 | k + 1 => by
  have ih0 := impl_isMemo.mono_l k
  ·intro y0 y1 y2
   unfold impl_isMemo.l0
   repeat' with_reducible first | apply ih0 | exact LeO.refl _ | exact LeO.none _ | refine LeO.ite ?_ ?_ | refine LeO.bind ?_ (fun _ => ?_)
theorem impl_isMemo.mono : ∀ a0 k, LeO (impl_isMemo.f k a0) (impl_isMemo.f (k + 1) a0) := by
 intro a0 k
 have ih0 := impl_isMemo.mono_l k
 unfold impl_isMemo.f
 repeat' with_reducible first | apply ih0 | exact LeO.refl _ | exact LeO.none _ | refine LeO.ite ?_ ?_ | refine LeO.bind ?_ (fun _ => ?_)
set_option maxHeartbeats 8000000 in
set_option maxRecDepth 100000 in
theorem impl_isMemo.calls (k : Nat) (a0 : ByteArray) (r : Bool) (w : World) (h : impl_isMemo.f k a0 = some r) :
 Calls Tryd.prog 60 #[.string a0] w fun e w' => e = .returned (.bool r) ∧ Drawn0 w w' := by
 have H := h
 clear h
 unfold impl_isMemo.f at H
 replace H := Aside0.mk H
 go_enter Tryd.func60, Tryd.ntmps60
 go_wp2
 go_loopg [6] k (fun kq v6 w' => ∃ (x6_1 : Int), v6 = .int .i64 x6_1 ∧ Aside0 (impl_isMemo.l0 kq a0 (a0.size : Int) x6_1 = some r) ∧ Aside0 (kq ≤ k) ∧ Drawn0 w w')
 case atStart => exact ⟨(0), ZZ0ab324, H, ⟨Nat.le_refl _⟩, ZZ965307⟩
 case round =>
  clear H
  obtain ⟨x6_1, rfl, HA, HK1, ⟨m1, rfl⟩⟩ := hrel
  cases gk with
  | zero => exact absurd HA.out (by simp [impl_isMemo.l0])
  | succ k1 =>
   have H := HA.out
   clear HA
   simp only [impl_isMemo.l0] at H
   by_cases c2 : x6_1 < (a0.size : Int)
   ·rw [if_pos c2] at H
    have c2b0 := decide_eq_true c2
    clear c2
    obtain ⟨c3b0, H⟩ := ifYd H
    obtain ⟨c4b0, H⟩ := ifYd H
    by_cases c6 : (bt a0 x6_1) < 32
    ·rw [if_pos c6] at H
     have c6b0 := decide_eq_true c6
     clear c6
     obtain rfl := Option.some.inj H
     have p5 : 0 ≤ (x6_1 : Int) := of_decide_eq_true ZZ853400
     have q5 : x6_1 < (a0.size : Int) := of_decide_eq_true ZZ853400
     have hx5 := bt_at a0 x6_1
     replace p5 := eq_true p5
     replace q5 := eq_true q5
     go_wp2
     go_ret
     exact ⟨ZZ0ab324, ZZ965307⟩
    rw [if_neg c6] at H
    have c6b0 := decide_eq_false c6
    clear c6
    by_cases c8 : (bt a0 x6_1) > 126
    ·rw [if_pos c8] at H
     have c8b0 : decide (126 < (bt a0 x6_1)) = true := decide_eq_true c8
     clear c8
     obtain rfl := Option.some.inj H
     have p5 : 0 ≤ (x6_1 : Int) := of_decide_eq_true ZZ853400
     have q5 : x6_1 < (a0.size : Int) := of_decide_eq_true ZZ853400
     have hx5 := bt_at a0 x6_1
     replace p5 := eq_true p5
     replace q5 := eq_true q5
     have p7 : 0 ≤ (x6_1 : Int) := of_decide_eq_true ZZ853400
     have q7 : x6_1 < (a0.size : Int) := of_decide_eq_true ZZ853400
     have hx7 := bt_at a0 x6_1
     replace p7 := eq_true p7
     replace q7 := eq_true q7
     go_wp2
     go_ret
     exact ⟨ZZ0ab324, ZZ965307⟩
    rw [if_neg c8] at H
    have c8b0 : decide (126 < (bt a0 x6_1)) = false := decide_eq_false c8
    clear c8
    replace H := Aside0.mk H
    have p5 : 0 ≤ (x6_1 : Int) := of_decide_eq_true ZZ853400
    have q5 : x6_1 < (a0.size : Int) := of_decide_eq_true ZZ853400
    have hx5 := bt_at a0 x6_1
    replace p5 := eq_true p5
    replace q5 := eq_true q5
    have p7 : 0 ≤ (x6_1 : Int) := of_decide_eq_true ZZ853400
    have q7 : x6_1 < (a0.size : Int) := of_decide_eq_true ZZ853400
    have hx7 := bt_at a0 x6_1
    replace p7 := eq_true p7
    replace q7 := eq_true q7
    go_wp2
    go_roundg k1
    case measure => have := HK1.out; omega
    case rel => exact ⟨(wrap64 (x6_1 + 1)), ZZ0ab324, H, kle, ZZ965307⟩
   rw [if_neg c2] at H
   have c2b0 := decide_eq_false c2
   clear c2
   obtain rfl := Option.some.inj H
   go_wp2
   go_ret
   exact ⟨ZZ0ab324, ZZ965307⟩
def impl_isAmount.f (a0 : Int) : Option (Bool) := (impl_within.f a0 (-1000000000) 1000000000).bind fun t211 => (some t211)
set_option maxHeartbeats 8000000 in
set_option maxRecDepth 100000 in
theorem impl_isAmount.calls (a0 : Int) (r : Bool) (w : World) (h : impl_isAmount.f a0 = some r) :
 Calls Tryd.prog 62 #[.int .i64 a0] w fun e w' => e = .returned (.bool r) ∧ Drawn0 w w' := by
 have H := h
 clear h
 unfold impl_isAmount.f at H
 obtain ⟨t211, A2, H⟩ := bdY H
 obtain rfl := Option.some.inj H
 go_enter Tryd.func62, Tryd.ntmps62
 go_wp2_with (first | (refine gc 4 Tryd.func56 #[.int .i64 a0, .int .i64 (-1000000000), .int .i64 1000000000] ?_; (with_reducible refine (impl_within.calls a0 (-1000000000) 1000000000 t211 _ A2.out).mono ?_); rintro e w' ⟨rfl, ⟨nd, rfl⟩⟩; refine ⟨_, rfl, ?_⟩))
 go_ret
 exact ⟨ZZ0ab324, ZZ965307⟩
end Go.Proofs.YtccdjchaaeligaaDoor.XFnExactReverseEntry

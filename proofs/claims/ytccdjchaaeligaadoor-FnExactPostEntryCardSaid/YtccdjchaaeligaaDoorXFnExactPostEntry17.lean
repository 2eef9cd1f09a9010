import Derived.Test.YtccdjchaaeligaaDoorXFnExactPostEntry1
import Derived.Test.YtccdjchaaeligaaDoorXFnExactPostEntry0
import Derived.Test.YtccdjchaaeligaaDoorXFnExactPostEntry4
import Derived.Test.YtccdjchaaeligaaDoorXFnExactPostEntry16
namespace Go.Proofs.YtccdjchaaeligaaDoor.XFnExactPostEntry
open Go.Proofs.YtccdjchaaeligaaDoor.Short Go.RowKit Go.Proofs.YtccdjchaaeligaaDoorW.PrintWords Go.Proofs.YtccdjchaaeligaaDoorW.PrintLast Go.Proofs.YtccdjchaaeligaaDoorW.PrintMore
attribute [local go_sem] max2_int min2_int max_two min_two max_three min_three max_four min_four
set_option linter.unusedVariables false
set_option linter.unusedSimpArgs false
def laws_heldBookEntryS.l0 : Nat → List (S63) → Int → Int → Option (Int)
 | 0, _, _, _ => none
 | k + 1, x0, x1, x5 => if x5 < (x0.length : Int) then (if 0 ≤ x5 then (if ((rd_T63 x0 x5).f0) = x1 then ((laws_markText.f k (wrap64 (x1 + 1))).bind fun t399 => (if ((rd_T63 x0 x5).f1).toList = t399.toList then ((laws_heldPostingS.f k ((rd_T63 x0 x5).f2) (wrap64 ((wrap64 (x1 + 1)) + 1))).bind fun t401 => (if t401 < 0 then (some (-1)) else (laws_heldBookEntryS.l0 k x0 t401 (wrap64 (x5 + 1))))) else (some (-1)))) else (some (-1))) else (none)) else (some x1)
def laws_heldBookEntryS.f (k : Nat) (l0 : List (S63)) (a1 : Int) : Option (Int) := laws_heldBookEntryS.l0 k l0 a1 0
theorem laws_heldBookEntryS.mono_l : ∀ k, (∀ y0 y1 y2, LeO (laws_heldBookEntryS.l0 k y0 y1 y2) (laws_heldBookEntryS.l0 (k + 1) y0 y1 y2))
 | 0 => fun _ _ _ r h => by simp [laws_heldBookEntryS.l0] at h
 | k + 1 => by
  have ih0 := laws_heldBookEntryS.mono_l k
  ·intro y0 y1 y2
   unfold laws_heldBookEntryS.l0
   repeat' with_reducible first | apply ih0 | apply laws_heldPostingS.mono | apply laws_markText.mono | exact LeO.refl _ | exact LeO.none _ | refine LeO.ite ?_ ?_ | refine LeO.bind ?_ (fun _ => ?_)
theorem laws_heldBookEntryS.mono : ∀ a0 a1 k, LeO (laws_heldBookEntryS.f k a0 a1) (laws_heldBookEntryS.f (k + 1) a0 a1) := by
 intro a0 a1 k
 have ih0 := laws_heldBookEntryS.mono_l k
 unfold laws_heldBookEntryS.f
 repeat' with_reducible first | apply ih0 | apply laws_heldPostingS.mono | apply laws_markText.mono | exact LeO.refl _ | exact LeO.none _ | refine LeO.ite ?_ ?_ | refine LeO.bind ?_ (fun _ => ?_)
def laws_heldBookEntryS.T7 : Bool × List (List Nat × List Nat) := (true, [([], []), ([], []), ([0, 1], [0, 1]), ([2], [2]), ([3], [3]), ([], []), ([5], [5]), ([4, 6], [4, 6])])
def laws_heldBookEntryS.B7 : List Nat := [0, 0, 3, 7, 15, 0, 32, 127]
theorem laws_heldBookEntryS.tab7 : rtab .any (opsOf Tryd.f88 7) = laws_heldBookEntryS.T7 := by kernel_rfl
theorem laws_heldBookEntryS.bits7 : waitsOk laws_heldBookEntryS.T7.2 laws_heldBookEntryS.B7 = true := by kernel_rfl
set_option maxHeartbeats 8000000 in
set_option maxRecDepth 100000 in
theorem laws_heldBookEntryS.calls (k : Nat) (A0 : Option Addr) (c0 : Nat) (l0 : List (S63)) (a1 : Int) (r : Int) (w : World) (hr0 : Kd.C k63 w A0 l0.length l0) (hc0 : l0.length ≤ c0) (h : laws_heldBookEntryS.f k l0 a1 = some r) :
 Calls Tryd.prog 88 #[.slice A0 l0.length c0, .int .i64 a1] w fun e w' => e = .returned (.int .i64 r) ∧ Below w.heap.size w w' := by
 have HR0 := Aside0.mk hr0
 have HC0 := Aside0.mk hc0
 clear hr0 hc0
 have HB := Aside0.mk (Below.refl w.heap.size w)
 have H := h
 clear h
 unfold laws_heldBookEntryS.f at H
 replace H := Aside0.mk H
 go_enter Tryd.func88, Tryd.ntmps88
 go_wp2
 go_loopg [1, 5] k (fun kq v1 v5 w' => ∃ (x1_1 : Int) (x5_1 : Int), v1 = .int .i64 x1_1 ∧ v5 = .int .i64 x5_1 ∧ Aside0 (laws_heldBookEntryS.l0 kq l0 x1_1 x5_1 = some r) ∧ Aside0 (kq ≤ k) ∧ Aside0 (Below w.heap.size w w'))
 case atStart => exact ⟨(a1), (0), ZZ0ab324, ZZ0ab324, H, ⟨Nat.le_refl _⟩, ⟨ZZ605003⟩⟩
 case round =>
  clear H
  obtain ⟨x1_1, x5_1, rfl, rfl, HA, HK1, HB⟩ := hrel
  cases gk with
  | zero => exact absurd HA.out (by simp [laws_heldBookEntryS.l0])
  | succ k1 =>
   have H := HA.out
   clear HA
   simp only [laws_heldBookEntryS.l0] at H
   by_cases c3 : x5_1 < (l0.length : Int)
   ·rw [if_pos c3] at H
    have c3b0 := decide_eq_true c3
    clear c3
    obtain ⟨c4b0, H⟩ := ifYd H
    by_cases c5 : ((rd_T63 l0 x5_1).f0) = x1_1
    ·rw [if_pos c5] at H
     have c5b0 := beq_iff_eq.mpr c5
     have c5b1 := bne_eq_false_iff_eq.mpr c5
     clear c5
     obtain ⟨t399, A6, H⟩ := bdY H
     by_cases c7 : ((rd_T63 l0 x5_1).f1).toList = t399.toList
     ·rw [if_pos c7] at H
      have c7b0 := beq_iff_eq.mpr c7
      have c7b1 := bne_eq_false_iff_eq.mpr c7
      clear c7
      obtain ⟨t401, A8, H⟩ := bdY H
      by_cases c9 : t401 < 0
      ·rw [if_pos c9] at H
       have c9b0 := decide_eq_true c9
       clear c9
       obtain rfl := Option.some.inj H
       have p397 : 0 ≤ (x5_1 : Int) := of_decide_eq_true ZZ853400
       have q397 : x5_1 < (l0.length : Int) := of_decide_eq_true ZZ853400
       obtain ⟨ad397, A397_2, c397_2, e397, hx397_0, hx397_1, hx397_2, hl397_2, hi397_2⟩ := at_T63 HR0.out x5_1 p397 q397
       cases e397
       replace hx397_0 := (HB.out.cell (World.block_lt_of_cell? w _ hx397_0)).trans hx397_0
       replace hx397_1 := (HB.out.cell (World.block_lt_of_cell? w _ hx397_1)).trans hx397_1
       replace hx397_2 := (HB.out.cell (World.block_lt_of_cell? w _ hx397_2)).trans hx397_2
       have HR397_2 := Aside0.mk hi397_2
       have HC397_2 := Aside0.mk hl397_2
       clear hi397_2 hl397_2
       replace p397 := eq_true p397
       replace q397 := eq_true q397
       try go_wp2
       replace HB := Aside0.mk (below_drew1 HB.out)
       have p398 : 0 ≤ (x5_1 : Int) := of_decide_eq_true ZZ853400
       have q398 : x5_1 < (l0.length : Int) := of_decide_eq_true ZZ853400
       try clear hx397_0
       try clear hx397_1
       try clear hx397_2
       obtain ⟨ad398, A398_2, c398_2, e398, hx398_0, hx398_1, hx398_2, hl398_2, hi398_2⟩ := at_T63 HR0.out x5_1 p398 q398
       have hw398_2 := hx398_2
       have hw398_1 := hx398_1
       have hw398_0 := hx398_0
       obtain rfl : ad397 = ad398 := (by injection e398)
       replace hx398_0 := (HB.out.cell (World.block_lt_of_cell? w _ hx398_0)).trans hx398_0
       replace hx398_1 := (HB.out.cell (World.block_lt_of_cell? w _ hx398_1)).trans hx398_1
       replace hx398_2 := (HB.out.cell (World.block_lt_of_cell? w _ hx398_2)).trans hx398_2
       have HR398_2 := Aside0.mk hi398_2
       have HC398_2 := Aside0.mk hl398_2
       clear hi398_2 hl398_2
       replace p398 := eq_true p398
       replace q398 := eq_true q398
       refine st 8 (S := fun w' => w'.cell? (ad397.add ((x5_1).toNat * 3)) = some (.int .i64 ((rd_T63 l0 x5_1).f0)) ∧ w'.cell? ⟨(ad397.add ((x5_1).toNat * 3)).block, (ad397.add ((x5_1).toNat * 3)).off + 1, none⟩ = some (.string ((rd_T63 l0 x5_1).f1)) ∧ w'.cell? ⟨(ad397.add ((x5_1).toNat * 3)).block, (ad397.add ((x5_1).toNat * 3)).off + 2, none⟩ = some (.slice A398_2 ((rd_T63 l0 x5_1).f2).length c398_2)) laws_heldBookEntryS.tab7 laws_heldBookEntryS.bits7 zK (fun hHeld HT_ HW_ => ?_)
       generalize wr.drew = w10 at HB HR398_2 hx398_0 hx398_1 hx398_2 hHeld ⊢
       refine pu 0 21 ?_
       refine pu 1 22 ?_
       refine pu 2 23 ?_
       refine pu 3 24 ?_
       refine pu 5 26 ?_
       refine tk 4 25 ?_
       refine on1 6 27 Tryd.func112 #[.int .i64 (wrap64 (x1_1 + 1))] (laws_markText.calls k1 (wrap64 (x1_1 + 1)) t399 _ A6.out) ?_
       rintro w11 hb
       replace HB := hB hb
       (try clear hb)
       (try clear hb2)
       (try clear hk)
       (try clear hi)
       refine ⟨zK, fun hHeld => ?_⟩
       refine pu 7 28 ?_
       refine done_ (done_of HT_.out (by kernel_rfl)) ?_
       have p400 : 0 ≤ (x5_1 : Int) := of_decide_eq_true ZZ853400
       have q400 : x5_1 < (l0.length : Int) := of_decide_eq_true ZZ853400
       try clear hx398_0
       try clear hx398_1
       try clear hx398_2
       obtain ⟨ad400, A400_2, c400_2, e400, hx400_0, hx400_1, hx400_2, hl400_2, hi400_2⟩ := at_T63 HR0.out x5_1 p400 q400
       obtain rfl : ad397 = ad400 := (by injection e400)
       try (obtain ⟨rfl, rfl⟩ : A400_2 = A398_2 ∧ c400_2 = c398_2 := (by have h_ := hw398_2.symm.trans hx400_2; simp only [Option.some.injEq, Value.slice.injEq, true_and, eq_self] at h_; exact ⟨h_.1.symm, h_.2.symm⟩))
       replace hx400_0 := (HB.out.cell (World.block_lt_of_cell? w _ hx400_0)).trans hx400_0
       replace hx400_1 := (HB.out.cell (World.block_lt_of_cell? w _ hx400_1)).trans hx400_1
       replace hx400_2 := (HB.out.cell (World.block_lt_of_cell? w _ hx400_2)).trans hx400_2
       have HR400_2 := Aside0.mk hi400_2
       have HC400_2 := Aside0.mk hl400_2
       clear hi400_2 hl400_2
       replace p400 := eq_true p400
       replace q400 := eq_true q400
       try go_wp2_with (first | (refine gc 37 Tryd.func115 #[.slice A400_2 ((rd_T63 l0 x5_1).f2).length c400_2, .int .i64 (wrap64 ((wrap64 (x1_1 + 1)) + 1))] ?_; (with_reducible refine (laws_heldPostingS.calls k1 _ _ ((rd_T63 l0 x5_1).f2) (wrap64 ((wrap64 (x1_1 + 1)) + 1)) t401 _ ?side1 ?side2 A8.out).mono ?_); (case side1 => exact (rC (Kd.C_below HR400_2.out HB.out))); (case side2 => exact HC400_2.out); rintro e w' ⟨rfl, ⟨nd, rfl⟩⟩; refine ⟨_, rfl, ?_⟩))
       go_ret
       exact ⟨ZZab01d2, ZZ605003⟩
      rw [if_neg c9] at H
      have c9b0 := decide_eq_false c9
      clear c9
      replace H := Aside0.mk H
      have p397 : 0 ≤ (x5_1 : Int) := of_decide_eq_true ZZ853400
      have q397 : x5_1 < (l0.length : Int) := of_decide_eq_true ZZ853400
      obtain ⟨ad397, A397_2, c397_2, e397, hx397_0, hx397_1, hx397_2, hl397_2, hi397_2⟩ := at_T63 HR0.out x5_1 p397 q397
      cases e397
      replace hx397_0 := (HB.out.cell (World.block_lt_of_cell? w _ hx397_0)).trans hx397_0
      replace hx397_1 := (HB.out.cell (World.block_lt_of_cell? w _ hx397_1)).trans hx397_1
      replace hx397_2 := (HB.out.cell (World.block_lt_of_cell? w _ hx397_2)).trans hx397_2
      have HR397_2 := Aside0.mk hi397_2
      have HC397_2 := Aside0.mk hl397_2
      clear hi397_2 hl397_2
      replace p397 := eq_true p397
      replace q397 := eq_true q397
      try go_wp2
      replace HB := Aside0.mk (below_drew1 HB.out)
      have p398 : 0 ≤ (x5_1 : Int) := of_decide_eq_true ZZ853400
      have q398 : x5_1 < (l0.length : Int) := of_decide_eq_true ZZ853400
      try clear hx397_0
      try clear hx397_1
      try clear hx397_2
      obtain ⟨ad398, A398_2, c398_2, e398, hx398_0, hx398_1, hx398_2, hl398_2, hi398_2⟩ := at_T63 HR0.out x5_1 p398 q398
      have hw398_2 := hx398_2
      have hw398_1 := hx398_1
      have hw398_0 := hx398_0
      obtain rfl : ad397 = ad398 := (by injection e398)
      replace hx398_0 := (HB.out.cell (World.block_lt_of_cell? w _ hx398_0)).trans hx398_0
      replace hx398_1 := (HB.out.cell (World.block_lt_of_cell? w _ hx398_1)).trans hx398_1
      replace hx398_2 := (HB.out.cell (World.block_lt_of_cell? w _ hx398_2)).trans hx398_2
      have HR398_2 := Aside0.mk hi398_2
      have HC398_2 := Aside0.mk hl398_2
      clear hi398_2 hl398_2
      replace p398 := eq_true p398
      replace q398 := eq_true q398
      refine st 8 (S := fun w' => w'.cell? (ad397.add ((x5_1).toNat * 3)) = some (.int .i64 ((rd_T63 l0 x5_1).f0)) ∧ w'.cell? ⟨(ad397.add ((x5_1).toNat * 3)).block, (ad397.add ((x5_1).toNat * 3)).off + 1, none⟩ = some (.string ((rd_T63 l0 x5_1).f1)) ∧ w'.cell? ⟨(ad397.add ((x5_1).toNat * 3)).block, (ad397.add ((x5_1).toNat * 3)).off + 2, none⟩ = some (.slice A398_2 ((rd_T63 l0 x5_1).f2).length c398_2)) laws_heldBookEntryS.tab7 laws_heldBookEntryS.bits7 zK (fun hHeld HT_ HW_ => ?_)
      generalize wr.drew = w12 at HB HR398_2 hx398_0 hx398_1 hx398_2 hHeld ⊢
      refine pu 0 21 ?_
      refine pu 1 22 ?_
      refine pu 2 23 ?_
      refine pu 3 24 ?_
      refine pu 5 26 ?_
      refine tk 4 25 ?_
      refine on1 6 27 Tryd.func112 #[.int .i64 (wrap64 (x1_1 + 1))] (laws_markText.calls k1 (wrap64 (x1_1 + 1)) t399 _ A6.out) ?_
      rintro w13 hb
      replace HB := hB hb
      (try clear hb)
      (try clear hb2)
      (try clear hk)
      (try clear hi)
      refine ⟨zK, fun hHeld => ?_⟩
      refine pu 7 28 ?_
      refine done_ (done_of HT_.out (by kernel_rfl)) ?_
      have p400 : 0 ≤ (x5_1 : Int) := of_decide_eq_true ZZ853400
      have q400 : x5_1 < (l0.length : Int) := of_decide_eq_true ZZ853400
      try clear hx398_0
      try clear hx398_1
      try clear hx398_2
      obtain ⟨ad400, A400_2, c400_2, e400, hx400_0, hx400_1, hx400_2, hl400_2, hi400_2⟩ := at_T63 HR0.out x5_1 p400 q400
      obtain rfl : ad397 = ad400 := (by injection e400)
      try (obtain ⟨rfl, rfl⟩ : A400_2 = A398_2 ∧ c400_2 = c398_2 := (by have h_ := hw398_2.symm.trans hx400_2; simp only [Option.some.injEq, Value.slice.injEq, true_and, eq_self] at h_; exact ⟨h_.1.symm, h_.2.symm⟩))
      replace hx400_0 := (HB.out.cell (World.block_lt_of_cell? w _ hx400_0)).trans hx400_0
      replace hx400_1 := (HB.out.cell (World.block_lt_of_cell? w _ hx400_1)).trans hx400_1
      replace hx400_2 := (HB.out.cell (World.block_lt_of_cell? w _ hx400_2)).trans hx400_2
      have HR400_2 := Aside0.mk hi400_2
      have HC400_2 := Aside0.mk hl400_2
      clear hi400_2 hl400_2
      replace p400 := eq_true p400
      replace q400 := eq_true q400
      try go_wp2_with (first | (refine gc 37 Tryd.func115 #[.slice A400_2 ((rd_T63 l0 x5_1).f2).length c400_2, .int .i64 (wrap64 ((wrap64 (x1_1 + 1)) + 1))] ?_; (with_reducible refine (laws_heldPostingS.calls k1 _ _ ((rd_T63 l0 x5_1).f2) (wrap64 ((wrap64 (x1_1 + 1)) + 1)) t401 _ ?side1 ?side2 A8.out).mono ?_); (case side1 => exact (rC (Kd.C_below HR400_2.out HB.out))); (case side2 => exact HC400_2.out); rintro e w' ⟨rfl, ⟨nd, rfl⟩⟩; refine ⟨_, rfl, ?_⟩))
      go_roundg k1
      case measure => have := HK1.out; omega
      case rel => exact ⟨(t401), (wrap64 (x5_1 + 1)), ZZ0ab324, ZZ0ab324, H, kle, ⟨ZZ605003⟩⟩
     rw [if_neg c7] at H
     have c7b0 := beq_eq_false_iff_ne.mpr c7
     have c7b1 := bne_iff_ne.mpr c7
     obtain rfl := Option.some.inj H
     have p397 : 0 ≤ (x5_1 : Int) := of_decide_eq_true ZZ853400
     have q397 : x5_1 < (l0.length : Int) := of_decide_eq_true ZZ853400
     obtain ⟨ad397, A397_2, c397_2, e397, hx397_0, hx397_1, hx397_2, hl397_2, hi397_2⟩ := at_T63 HR0.out x5_1 p397 q397
     cases e397
     replace hx397_0 := (HB.out.cell (World.block_lt_of_cell? w _ hx397_0)).trans hx397_0
     replace hx397_1 := (HB.out.cell (World.block_lt_of_cell? w _ hx397_1)).trans hx397_1
     replace hx397_2 := (HB.out.cell (World.block_lt_of_cell? w _ hx397_2)).trans hx397_2
     have HR397_2 := Aside0.mk hi397_2
     have HC397_2 := Aside0.mk hl397_2
     clear hi397_2 hl397_2
     replace p397 := eq_true p397
     replace q397 := eq_true q397
     try go_wp2
     replace HB := Aside0.mk (below_drew1 HB.out)
     have p398 : 0 ≤ (x5_1 : Int) := of_decide_eq_true ZZ853400
     have q398 : x5_1 < (l0.length : Int) := of_decide_eq_true ZZ853400
     try clear hx397_0
     try clear hx397_1
     try clear hx397_2
     obtain ⟨ad398, A398_2, c398_2, e398, hx398_0, hx398_1, hx398_2, hl398_2, hi398_2⟩ := at_T63 HR0.out x5_1 p398 q398
     have hw398_2 := hx398_2
     have hw398_1 := hx398_1
     have hw398_0 := hx398_0
     obtain rfl : ad397 = ad398 := (by injection e398)
     replace hx398_0 := (HB.out.cell (World.block_lt_of_cell? w _ hx398_0)).trans hx398_0
     replace hx398_1 := (HB.out.cell (World.block_lt_of_cell? w _ hx398_1)).trans hx398_1
     replace hx398_2 := (HB.out.cell (World.block_lt_of_cell? w _ hx398_2)).trans hx398_2
     have HR398_2 := Aside0.mk hi398_2
     have HC398_2 := Aside0.mk hl398_2
     clear hi398_2 hl398_2
     replace p398 := eq_true p398
     replace q398 := eq_true q398
     refine st 8 (S := fun w' => w'.cell? (ad397.add ((x5_1).toNat * 3)) = some (.int .i64 ((rd_T63 l0 x5_1).f0)) ∧ w'.cell? ⟨(ad397.add ((x5_1).toNat * 3)).block, (ad397.add ((x5_1).toNat * 3)).off + 1, none⟩ = some (.string ((rd_T63 l0 x5_1).f1)) ∧ w'.cell? ⟨(ad397.add ((x5_1).toNat * 3)).block, (ad397.add ((x5_1).toNat * 3)).off + 2, none⟩ = some (.slice A398_2 ((rd_T63 l0 x5_1).f2).length c398_2)) laws_heldBookEntryS.tab7 laws_heldBookEntryS.bits7 zK (fun hHeld HT_ HW_ => ?_)
     generalize wr.drew = w14 at HB HR398_2 hx398_0 hx398_1 hx398_2 hHeld ⊢
     refine pu 0 21 ?_
     refine pu 1 22 ?_
     refine pu 2 23 ?_
     refine pu 3 24 ?_
     refine pu 5 26 ?_
     refine tk 4 25 ?_
     refine on1 6 27 Tryd.func112 #[.int .i64 (wrap64 (x1_1 + 1))] (laws_markText.calls k1 (wrap64 (x1_1 + 1)) t399 _ A6.out) ?_
     rintro w15 hb
     replace HB := hB hb
     (try clear hb)
     (try clear hb2)
     (try clear hk)
     (try clear hi)
     refine ⟨zK, fun hHeld => ?_⟩
     refine pu 7 28 ?_
     refine done_ (done_of HT_.out (by kernel_rfl)) ?_
     try go_wp2
     go_ret
     exact ⟨ZZab01d2, ZZ605003⟩
    rw [if_neg c5] at H
    have c5b0 := beq_eq_false_iff_ne.mpr c5
    have c5b1 := bne_iff_ne.mpr c5
    obtain rfl := Option.some.inj H
    have p397 : 0 ≤ (x5_1 : Int) := of_decide_eq_true ZZ853400
    have q397 : x5_1 < (l0.length : Int) := of_decide_eq_true ZZ853400
    obtain ⟨ad397, A397_2, c397_2, e397, hx397_0, hx397_1, hx397_2, hl397_2, hi397_2⟩ := at_T63 HR0.out x5_1 p397 q397
    cases e397
    replace hx397_0 := (HB.out.cell (World.block_lt_of_cell? w _ hx397_0)).trans hx397_0
    replace hx397_1 := (HB.out.cell (World.block_lt_of_cell? w _ hx397_1)).trans hx397_1
    replace hx397_2 := (HB.out.cell (World.block_lt_of_cell? w _ hx397_2)).trans hx397_2
    have HR397_2 := Aside0.mk hi397_2
    have HC397_2 := Aside0.mk hl397_2
    clear hi397_2 hl397_2
    replace p397 := eq_true p397
    replace q397 := eq_true q397
    go_wp2
    go_ret
    exact ⟨ZZab01d2, ZZ605003⟩
   rw [if_neg c3] at H
   have c3b0 := decide_eq_false c3
   clear c3
   obtain rfl := Option.some.inj H
   go_wp2
   go_ret
   exact ⟨ZZab01d2, ZZ605003⟩
def laws_heldLedger.f (k : Nat) (l0_0 : List (S48)) (l0_1 : List (S63)) (a1 : Int) : Option (Int) := (laws_heldAccountS.f k l0_0 a1).bind fun t403 => (if t403 < 0 then (some (-1)) else ((laws_heldBookEntryS.f k l0_1 t403).bind fun t404 => (if t404 < 0 then (some (-1)) else (some t404))))
theorem laws_heldLedger.mono : ∀ a0 a1 a2 k, LeO (laws_heldLedger.f k a0 a1 a2) (laws_heldLedger.f (k + 1) a0 a1 a2) := by
 intro a0 a1 a2 k
 unfold laws_heldLedger.f
 repeat' with_reducible first | apply laws_heldAccountS.mono | apply laws_heldBookEntryS.mono | exact LeO.refl _ | exact LeO.none _ | refine LeO.ite ?_ ?_ | refine LeO.bind ?_ (fun _ => ?_)
set_option maxHeartbeats 8000000 in
set_option maxRecDepth 100000 in
theorem laws_heldLedger.calls (k : Nat) (A0_0 : Option Addr) (c0_0 : Nat) (l0_0 : List (S48)) (A0_1 : Option Addr) (c0_1 : Nat) (l0_1 : List (S63)) (a1 : Int) (r : Int) (w : World) (hr0_0 : Kd.C k48 w A0_0 l0_0.length l0_0) (hc0_0 : l0_0.length ≤ c0_0) (hr0_1 : Kd.C k63 w A0_1 l0_1.length l0_1) (hc0_1 : l0_1.length ≤ c0_1) (h : laws_heldLedger.f k l0_0 l0_1 a1 = some r) :
 Calls Tryd.prog 41 #[.agg #[.slice A0_0 l0_0.length c0_0, .slice A0_1 l0_1.length c0_1], .int .i64 a1] w fun e w' => e = .returned (.int .i64 r) ∧ Below w.heap.size w w' := by
 have hu31 := Tryd.underlying31
 have HR0_0 := Aside0.mk hr0_0
 have HC0_0 := Aside0.mk hc0_0
 clear hr0_0 hc0_0
 have HR0_1 := Aside0.mk hr0_1
 have HC0_1 := Aside0.mk hc0_1
 clear hr0_1 hc0_1
 have HB := Aside0.mk (Below.refl w.heap.size w)
 have H := h
 clear h
 unfold laws_heldLedger.f at H
 obtain ⟨t403, A3, H⟩ := bdY H
 by_cases c4 : t403 < 0
 ·rw [if_pos c4] at H
  have c4b0 := decide_eq_true c4
  clear c4
  obtain rfl := Option.some.inj H
  go_enter Tryd.func41, Tryd.ntmps41
  go_wp2_with (first | ((with_reducible refine gate_dst (N := 2) rfl ?_); refine bx 2 (cs := #[.slice A0_0 l0_0.length c0_0, .slice A0_1 l0_1.length c0_1]) (t := 31) ?_; intro gb402 hg w5 hbox hb; have BK402 := Aside0.mk (hbox); have GW402 := gw hg; have GE402 := gw hg; replace HB := hB hb; clear hb hbox hg; obtain ⟨hcz6_0, hcz6_1, hfz6_0, hfz6_1⟩ := z2 BK402) | (refine gc 8 Tryd.func87 #[.slice A0_0 l0_0.length c0_0, .int .i64 a1] ?_; (with_reducible refine (laws_heldAccountS.calls k _ _ l0_0 a1 t403 _ ?side1 ?side2 A3.out).mono ?_); (case side1 => exact (rC (Kd.C_below HR0_0.out HB.out))); (case side2 => exact HC0_0.out); rintro e w7 ⟨rfl, hb⟩; refine ⟨_, rfl, ?_⟩; replace BK402 := kb BK402 hb; replace HB := hB hb; (try clear hb); (try clear hb2); (try clear hk); (try clear hi)))
  go_ret
  exact ⟨ZZab01d2, ZZ295621⟩
 rw [if_neg c4] at H
 have c4b0 := decide_eq_false c4
 clear c4
 obtain ⟨t404, A8, H⟩ := bdY H
 by_cases c9 : t404 < 0
 ·rw [if_pos c9] at H
  have c9b0 := decide_eq_true c9
  clear c9
  obtain rfl := Option.some.inj H
  go_enter Tryd.func41, Tryd.ntmps41
  go_wp2_with (first | ((with_reducible refine gate_dst (N := 2) rfl ?_); refine bx 2 (cs := #[.slice A0_0 l0_0.length c0_0, .slice A0_1 l0_1.length c0_1]) (t := 31) ?_; intro gb402 hg w10 hbox hb; have BK402 := Aside0.mk (hbox); have GW402 := gw hg; have GE402 := gw hg; replace HB := hB hb; clear hb hbox hg; obtain ⟨hcz11_0, hcz11_1, hfz11_0, hfz11_1⟩ := z2 BK402) | (refine gc 8 Tryd.func87 #[.slice A0_0 l0_0.length c0_0, .int .i64 a1] ?_; (with_reducible refine (laws_heldAccountS.calls k _ _ l0_0 a1 t403 _ ?side1 ?side2 A3.out).mono ?_); (case side1 => exact (rC (Kd.C_below HR0_0.out HB.out))); (case side2 => exact HC0_0.out); rintro e w12 ⟨rfl, hb⟩; refine ⟨_, rfl, ?_⟩; replace BK402 := kb BK402 hb; replace HB := hB hb; (try clear hb); (try clear hb2); (try clear hk); (try clear hi); obtain ⟨hcz13_0, hcz13_1, hfz13_0, hfz13_1⟩ := z2 BK402) | (refine gc 14 Tryd.func88 #[.slice A0_1 l0_1.length c0_1, .int .i64 t403] ?_; (with_reducible refine (laws_heldBookEntryS.calls k _ _ l0_1 t403 t404 _ ?side1 ?side2 A8.out).mono ?_); (case side1 => exact (rC (Kd.C_below HR0_1.out HB.out))); (case side2 => exact HC0_1.out); rintro e w14 ⟨rfl, hb⟩; refine ⟨_, rfl, ?_⟩; replace BK402 := kb BK402 hb; replace HB := hB hb; (try clear hb); (try clear hb2); (try clear hk); (try clear hi)))
  go_ret
  exact ⟨ZZab01d2, ZZ295621⟩
 rw [if_neg c9] at H
 have c9b0 := decide_eq_false c9
 clear c9
 obtain rfl := Option.some.inj H
 go_enter Tryd.func41, Tryd.ntmps41
 go_wp2_with (first | ((with_reducible refine gate_dst (N := 2) rfl ?_); refine bx 2 (cs := #[.slice A0_0 l0_0.length c0_0, .slice A0_1 l0_1.length c0_1]) (t := 31) ?_; intro gb402 hg w15 hbox hb; have BK402 := Aside0.mk (hbox); have GW402 := gw hg; have GE402 := gw hg; replace HB := hB hb; clear hb hbox hg; obtain ⟨hcz16_0, hcz16_1, hfz16_0, hfz16_1⟩ := z2 BK402) | (refine gc 8 Tryd.func87 #[.slice A0_0 l0_0.length c0_0, .int .i64 a1] ?_; (with_reducible refine (laws_heldAccountS.calls k _ _ l0_0 a1 t403 _ ?side1 ?side2 A3.out).mono ?_); (case side1 => exact (rC (Kd.C_below HR0_0.out HB.out))); (case side2 => exact HC0_0.out); rintro e w17 ⟨rfl, hb⟩; refine ⟨_, rfl, ?_⟩; replace BK402 := kb BK402 hb; replace HB := hB hb; (try clear hb); (try clear hb2); (try clear hk); (try clear hi); obtain ⟨hcz18_0, hcz18_1, hfz18_0, hfz18_1⟩ := z2 BK402) | (refine gc 14 Tryd.func88 #[.slice A0_1 l0_1.length c0_1, .int .i64 t403] ?_; (with_reducible refine (laws_heldBookEntryS.calls k _ _ l0_1 t403 t404 _ ?side1 ?side2 A8.out).mono ?_); (case side1 => exact (rC (Kd.C_below HR0_1.out HB.out))); (case side2 => exact HC0_1.out); rintro e w19 ⟨rfl, hb⟩; refine ⟨_, rfl, ?_⟩; replace BK402 := kb BK402 hb; replace HB := hB hb; (try clear hb); (try clear hb2); (try clear hk); (try clear hi)))
 go_ret
 exact ⟨ZZab01d2, ZZ295621⟩
end Go.Proofs.YtccdjchaaeligaaDoor.XFnExactPostEntry

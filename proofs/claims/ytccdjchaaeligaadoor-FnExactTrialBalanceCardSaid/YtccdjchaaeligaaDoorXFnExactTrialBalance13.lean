-- Printed by wip/tools/xprint.py, a program of this session, over the kit's print; Lean checks it.
import Derived.Test.YtccdjchaaeligaaDoorXFnExactTrialBalance7
import Derived.Test.YtccdjchaaeligaaDoorXFnExactTrialBalance1
import Derived.Test.YtccdjchaaeligaaDoorXFnExactTrialBalance0
import Derived.Test.YtccdjchaaeligaaDoorXFnExactTrialBalance10
import Derived.Test.YtccdjchaaeligaaDoorXFnExactTrialBalance12
namespace Go.Proofs.YtccdjchaaeligaaDoor.XFnExactTrialBalance
open Go.Proofs.YtccdjchaaeligaaDoor.Short Go.RowKit Go.Proofs.YtccdjchaaeligaaDoorW.PrintWords Go.Proofs.YtccdjchaaeligaaDoorW.PrintLast Go.Proofs.YtccdjchaaeligaaDoorW.PrintMore
attribute [local go_sem] max2_int min2_int max_two min_two max_three min_three max_four min_four   -- for this text's walks alone
set_option linter.unusedVariables false
set_option linter.unusedSimpArgs false
/-! ### spec_l26Balances: function 67 -/
mutual
def spec_l26Balances.l0 : Nat → Int → List Int → Int → List (S48) → List (S63) → Option (List Int)
 | 0, _, _, _, _, _ => none
 | k + 1, x1, x5, x6, x299000, x299001 => if x6 < (x299001.length : Int) then (spec_l26Balances.l1 k x1 x5 x6 0 x299000 x299001) else (some x5)
def spec_l26Balances.l1 : Nat → Int → List Int → Int → Int → List (S48) → List (S63) → Option (List Int)
 | 0, _, _, _, _, _, _ => none
 | k + 1, x1, x5, x6, x7, x299000, x299001 => if 0 ≤ x6 then (if x6 < (x299001.length : Int) then (if x7 < (((rd_T63 x299001 x6).f2).length : Int) then (if ((rd_T63 x299001 x6).f0) ≤ x1 then (if 0 ≤ x7 then (if 0 ≤ ((rd_T70 ((rd_T63 x299001 x6).f2) x7).f0) then (if ((rd_T70 ((rd_T63 x299001 x6).f2) x7).f0) < (x5.length : Int) then (spec_l26Balances.l1 k x1 (x5.set (((rd_T70 ((rd_T63 x299001 x6).f2) x7).f0) : Int).toNat (wrap64 ((rd x5 ((rd_T70 ((rd_T63 x299001 x6).f2) x7).f0)) + ((rd_T70 ((rd_T63 x299001 x6).f2) x7).f1)))) x6 (wrap64 (x7 + 1)) x299000 x299001) else (none)) else (none)) else (none)) else (spec_l26Balances.l0 k x1 x5 (wrap64 (x6 + 1)) x299000 x299001)) else (spec_l26Balances.l0 k x1 x5 (wrap64 (x6 + 1)) x299000 x299001)) else (none)) else (none)
end
def spec_l26Balances.f (k : Nat) (l0_0 : List (S48)) (l0_1 : List (S63)) (a1 : Int) : Option (List Int) := if 0 ≤ (l0_0.length : Int) then (if ((l0_0.length : Int) : Int).toNat ≤ 35184372088832 then (spec_l26Balances.l0 k a1 (List.replicate ((l0_0.length : Int) : Int).toNat 0) 0 l0_0 l0_1) else (none)) else (none)
theorem spec_l26Balances.mono_l : ∀ k, (∀ y0 y1 y2 y3 y4, LeO (spec_l26Balances.l0 k y0 y1 y2 y3 y4) (spec_l26Balances.l0 (k + 1) y0 y1 y2 y3 y4)) ∧ (∀ y0 y1 y2 y3 y4 y5, LeO (spec_l26Balances.l1 k y0 y1 y2 y3 y4 y5) (spec_l26Balances.l1 (k + 1) y0 y1 y2 y3 y4 y5))
 | 0 => ⟨fun _ _ _ _ _ r h => by simp [spec_l26Balances.l0] at h, fun _ _ _ _ _ _ r h => by simp [spec_l26Balances.l1] at h⟩
 | k + 1 => by
  obtain ⟨ih0, ih1⟩ := spec_l26Balances.mono_l k
  refine ⟨?_, ?_⟩
  all_goals intros
  all_goals (first | unfold spec_l26Balances.l0 | unfold spec_l26Balances.l1)
  all_goals
   repeat' first
   | (with_reducible exact ih0 _ _ _ _ _)
   | (with_reducible exact ih1 _ _ _ _ _ _)
   | (with_reducible exact LeO.refl _)
   | (with_reducible exact LeO.none _)
   | (with_reducible refine LeO.ite ?_ ?_)
   | (with_reducible refine LeO.bind ?_ (fun _ => ?_))
   | exact ih0 _ _ _ _ _
   | exact ih1 _ _ _ _ _ _
   | exact LeO.none _
   | refine LeO.ite ?_ ?_
   | refine LeO.bind ?_ (fun _ => ?_)
theorem spec_l26Balances.mono : ∀ a0 a1 a2 k, LeO (spec_l26Balances.f k a0 a1 a2) (spec_l26Balances.f (k + 1) a0 a1 a2) := by
 intro a0 a1 a2 k
 obtain ⟨ih0, ih1⟩ := spec_l26Balances.mono_l k
 unfold spec_l26Balances.f
 repeat' first
  | (with_reducible exact ih0 _ _ _ _ _)
  | (with_reducible exact ih1 _ _ _ _ _ _)
  | (with_reducible exact LeO.refl _)
  | (with_reducible exact LeO.none _)
  | (with_reducible refine LeO.ite ?_ ?_)
  | (with_reducible refine LeO.bind ?_ (fun _ => ?_))
  | exact ih0 _ _ _ _ _
  | exact ih1 _ _ _ _ _ _
  | exact LeO.none _
  | refine LeO.ite ?_ ?_
  | refine LeO.bind ?_ (fun _ => ?_)
def spec_l26Balances.T9 : Bool × List (List Nat × List Nat) := (true, [([], []), ([], []), ([1], [1]), ([], []), ([], []), ([4], [4]), ([3, 5], [3, 5]), ([6], [6]), ([], []), ([8], [8]), ([7, 9], [7, 9]), ([0, 2, 0, 1, 2, 3, 4, 5, 6, 7, 8, 9, 10], [0, 2]), ([11, 10, 0, 1, 2, 3, 4, 5, 6, 7, 8, 9, 10], [10, 11])])
def spec_l26Balances.B9 : List Nat := [0, 0, 2, 0, 0, 16, 56, 120, 0, 256, 1016, 2047, 4095]
theorem spec_l26Balances.tab9 : rtab .any (opsOf Tryd.f67 9) = spec_l26Balances.T9 := by kernel_rfl
theorem spec_l26Balances.bits9 : waitsOk spec_l26Balances.T9.2 spec_l26Balances.B9 = true := by kernel_rfl
set_option maxHeartbeats 8000000 in
set_option maxRecDepth 100000 in
theorem spec_l26Balances.calls (k : Nat) (A0_0 : Option Addr) (c0_0 : Nat) (l0_0 : List (S48)) (A0_1 : Option Addr) (c0_1 : Nat) (l0_1 : List (S63)) (a1 : Int) (r : List Int) (w : World) (hr0_0 : Kd.C k48 w A0_0 l0_0.length l0_0) (hc0_0 : l0_0.length ≤ c0_0) (hr0_1 : Kd.C k63 w A0_1 l0_1.length l0_1) (hc0_1 : l0_1.length ≤ c0_1) (h : spec_l26Balances.f k l0_0 l0_1 a1 = some r) :
 Calls Tryd.prog 67 #[.agg #[.slice A0_0 l0_0.length c0_0, .slice A0_1 l0_1.length c0_1], .int .i64 a1] w fun e w' => ∃ v0_ : Value, e = .returned (v0_) ∧ Kd.R (Kd.int .i64) 3 w' w.heap.size (fun _ => True) v0_ r ∧ Below w.heap.size w w' := by
 have hu31 := Tryd.underlying31
 have hu70 := Tryd.underlying70
 have HR0_0 := Aside0.mk hr0_0
 have HC0_0 := Aside0.mk hc0_0
 clear hr0_0 hc0_0
 have HR0_1 := Aside0.mk hr0_1
 have HC0_1 := Aside0.mk hc0_1
 clear hr0_1 hc0_1
 have HB := Aside0.mk (Below.refl w.heap.size w)
 have H := h
 clear h
 unfold spec_l26Balances.f at H
 obtain ⟨c3, H⟩ := ifY H
 have c3b0 := eq_true c3
 have c3b1 := decide_eq_true c3
 clear c3
 obtain ⟨c4, H⟩ := ifY H
 have c4b0 := eq_true c4
 have c4b1 := decide_eq_true c4
 clear c4
 obtain ⟨y299, hy299⟩ : ∃ y_ : List Int, y_ = (List.replicate ((l0_0.length : Int) : Int).toNat 0) := ⟨_, rfl⟩
 replace H : (spec_l26Balances.l0 k a1 y299 0 l0_0 l0_1) = some r := by first | (rw [hy299]; with_reducible exact H) | (have H2_ := (Option.bind_some _ _).symm.trans H; rw [hy299]; with_reducible exact H2_) | (have H2_ := (Option.bind_some _ _).symm.trans H; with_reducible exact H2_) | with_reducible exact H | (rw [hy299]; exact H) | exact H
 have Ny299 := Aside0.mk hy299
 clear hy299
 have H' := Aside0.mk H
 clear H
 go_enter Tryd.func67, Tryd.ntmps67
 go_wp2_with (first | ((with_reducible refine gate_dst (N := 2) rfl ?_); refine box_event ?hg (N := 2) ?hd (cs := #[.slice A0_0 l0_0.length c0_0, .slice A0_1 l0_1.length c0_1]) (t := 31) ?hr ?_; (case hd => rfl); (case hg => rfl); (case hr => first | (go_simp; done) | (go_simp; rfl)); intro gb298 hg w5 hbox hb; have BK298 := Aside0.mk (hbox); have GW298 := Aside0.mk ((by rw [hg]; exact (below_size ZZ605003) : w.heap.size ≤ gb298)); have GE298 := Aside0.mk ((by rw [hg]; exact (below_size ZZ605003) : w.heap.size ≤ gb298)); replace HB := Aside0.mk (below_step ZZ605003 hb); clear hb hbox hg; have hcz6_0 : w5.cell? ⟨gb298, 0, none⟩ = some (.slice A0_0 l0_0.length c0_0) := (blk_cell BK298.out 0).trans rfl; have hcz6_1 : w5.cell? ⟨gb298, 1, none⟩ = some (.slice A0_1 l0_1.length c0_1) := (blk_cell BK298.out 1).trans rfl; have hfz6_0 := blk_frozen BK298.out 0; have hfz6_1 := blk_frozen BK298.out 1) | ((with_reducible refine gate_dst (N := 12) rfl ?_); refine Kd.R_make (Kd.int .i64) _ 3 rfl (N := 12) rfl 44 _ _ rfl (l0_0.length : Int) rfl rfl Tryd.underlying44 (.int .i64 0) 8 info3 rfl (by decide) (by omega) 0 (ok := fun _ => True) (okp := fun _ => True) rfl (fun _ hk => hk) trivial (of_decide_eq_true ZZ853400) (Nat.le_trans (Nat.mul_le_mul_right _ (of_decide_eq_true ZZ853400 : (l0_0.length : Int).toNat ≤ 35184372088832)) (by omega)) (Below.refl _ _) (Nat.le_refl _) ?_; intro v300 w7 ho8 hb hg_ hnew_; clear hg_ hnew_; (first | rw [← Ny299.out] at ho8 | (simp only [Int.reduceToNat] at ho8; rw [← Ny299.out] at ho8)); have HO301 := Aside0.mk (Kd.R_lower ho8 (below_size ZZ295621)); replace BK298 := Aside0.mk (blk_below (zB BK298) hb); replace HB := Aside0.mk (below_step ZZ295621 hb); clear hb ho8))
 go_loopg [6] k (fun kq v6 w' => ∃ (x5_1 : List Int) (x6_1 : Int), v6 = .int .i64 x6_1 ∧ Aside0 (spec_l26Balances.l0 kq a1 x5_1 x6_1 l0_0 l0_1 = some r) ∧ Aside0 (kq ≤ k) ∧ Aside0 (Kd.R (Kd.int .i64) 3 w' w.heap.size (fun _ => True) v300 x5_1) ∧ Aside0 (w'.heap[gb298]? = some (.cells #[(.slice A0_0 l0_0.length c0_0), (.slice A0_1 l0_1.length c0_1)] 31 (0, 0))) ∧ Aside0 (Below w.heap.size w w'))
 case atStart => exact ⟨(y299), (0), ZZ0ab324, H', ⟨Nat.le_refl _⟩, ⟨(zR HO301)⟩, ⟨(zB BK298)⟩, ⟨ZZ295621⟩⟩
 case round =>
  clear H'
  try clear c3b0
  try clear c3b1
  try clear c4b0
  try clear c4b1
  try clear hcz6_0
  try clear hcz6_1
  try clear hfz6_0
  try clear hfz6_1
  obtain ⟨x5_1, x6_1, rfl, HA, HK1, HO_5, BK298, HB⟩ := hrel
  cases gk with
  | zero => exact absurd HA.out (by simp [spec_l26Balances.l0])
  | succ k1 =>
   have H := HA.out
   clear HA
   simp only [spec_l26Balances.l0] at H
   by_cases c9 : x6_1 < (l0_1.length : Int)
   ·rw [if_pos c9] at H
    have c9b0 := decide_eq_true c9
    clear c9
    have H' := Aside0.mk H
    clear H
    have hcz10_0 : wr.cell? ⟨gb298, 0, none⟩ = some (.slice A0_0 l0_0.length c0_0) := (blk_cell BK298.out 0).trans rfl
    have hcz10_1 : wr.cell? ⟨gb298, 1, none⟩ = some (.slice A0_1 l0_1.length c0_1) := (blk_cell BK298.out 1).trans rfl
    have hfz10_0 := blk_frozen BK298.out 0
    have hfz10_1 := blk_frozen BK298.out 1
    go_wp2
    go_loopg [7] k1 (fun kq v7 w' => ∃ (x5_2 : List Int) (x7_2 : Int), v7 = .int .i64 x7_2 ∧ Aside0 (spec_l26Balances.l1 kq a1 x5_2 x6_1 x7_2 l0_0 l0_1 = some r) ∧ Aside0 (kq ≤ k1) ∧ Aside0 (Kd.R (Kd.int .i64) 3 w' w.heap.size (fun _ => True) v300 x5_2) ∧ Aside0 (w'.heap[gb298]? = some (.cells #[(.slice A0_0 l0_0.length c0_0), (.slice A0_1 l0_1.length c0_1)] 31 (0, 0))) ∧ Aside0 (Below w.heap.size w w'))
    case atStart => exact ⟨(x5_1), (0), ZZ0ab324, H', ⟨Nat.le_refl _⟩, ⟨(zR HO_5)⟩, ⟨(zB BK298)⟩, ⟨ZZ295621⟩⟩
    case round =>
     clear H'
     try clear c9b0
     try clear hcz10_0
     try clear hcz10_1
     try clear hfz10_0
     try clear hfz10_1
     obtain ⟨x5_2, x7_2, rfl, HA, HK2, HO_5, BK298, HB⟩ := hrel
     cases gk with
     | zero => exact absurd HA.out (by simp [spec_l26Balances.l1])
     | succ k2 =>
      have H := HA.out
      clear HA
      simp only [spec_l26Balances.l1] at H
      obtain ⟨c11, H⟩ := ifY H
      have c11b0 := decide_eq_true c11
      clear c11
      obtain ⟨c12, H⟩ := ifY H
      have c12b0 := decide_eq_true c12
      clear c12
      by_cases c13 : x7_2 < (((rd_T63 l0_1 x6_1).f2).length : Int)
      ·rw [if_pos c13] at H
       have c13b0 := decide_eq_true c13
       clear c13
       by_cases c14 : ((rd_T63 l0_1 x6_1).f0) ≤ a1
       ·rw [if_pos c14] at H
        have c14b0 := decide_eq_true c14
        clear c14
        obtain ⟨c15, H⟩ := ifY H
        have c15b0 := decide_eq_true c15
        clear c15
        obtain ⟨c16, H⟩ := ifY H
        have c16b0 := decide_eq_true c16
        clear c16
        obtain ⟨c17, H⟩ := ifY H
        have c17b0 := decide_eq_true c17
        clear c17
        obtain ⟨y308, hy308⟩ : ∃ y_ : List Int, y_ = (x5_2.set (((rd_T70 ((rd_T63 l0_1 x6_1).f2) x7_2).f0) : Int).toNat (wrap64 ((rd x5_2 ((rd_T70 ((rd_T63 l0_1 x6_1).f2) x7_2).f0)) + ((rd_T70 ((rd_T63 l0_1 x6_1).f2) x7_2).f1)))) := ⟨_, rfl⟩
        replace H : (spec_l26Balances.l1 k2 a1 y308 x6_1 (wrap64 (x7_2 + 1)) l0_0 l0_1) = some r := by first | (rw [hy308]; with_reducible exact H) | (have H2_ := (Option.bind_some _ _).symm.trans H; rw [hy308]; with_reducible exact H2_) | (have H2_ := (Option.bind_some _ _).symm.trans H; with_reducible exact H2_) | with_reducible exact H | (rw [hy308]; exact H) | exact H
        have Ny308 := Aside0.mk hy308
        clear hy308
        have H' := Aside0.mk H
        clear H
        have hcz19_0 : wr.cell? ⟨gb298, 0, none⟩ = some (.slice A0_0 l0_0.length c0_0) := (blk_cell BK298.out 0).trans rfl
        have hcz19_1 : wr.cell? ⟨gb298, 1, none⟩ = some (.slice A0_1 l0_1.length c0_1) := (blk_cell BK298.out 1).trans rfl
        have hfz19_0 := blk_frozen BK298.out 0
        have hfz19_1 := blk_frozen BK298.out 1
        have p302 : 0 ≤ (x6_1 : Int) := of_decide_eq_true ZZ853400
        have q302 : x6_1 < (l0_1.length : Int) := of_decide_eq_true ZZ853400
        obtain ⟨ad302, A302_2, c302_2, e302, hx302_0, hx302_1, hx302_2, hl302_2, hi302_2⟩ := at_T63 HR0_1.out x6_1 p302 q302
        cases e302
        replace hx302_0 := (HB.out.cell (World.block_lt_of_cell? w _ hx302_0)).trans hx302_0
        replace hx302_1 := (HB.out.cell (World.block_lt_of_cell? w _ hx302_1)).trans hx302_1
        replace hx302_2 := (HB.out.cell (World.block_lt_of_cell? w _ hx302_2)).trans hx302_2
        have HR302_2 := Aside0.mk hi302_2
        have HC302_2 := Aside0.mk hl302_2
        clear hi302_2 hl302_2
        replace p302 := eq_true p302
        replace q302 := eq_true q302
        have p303 : 0 ≤ (x6_1 : Int) := of_decide_eq_true ZZ853400
        have q303 : x6_1 < (l0_1.length : Int) := of_decide_eq_true ZZ853400
        obtain ⟨ad303, A303_2, c303_2, e303, hx303_0, hx303_1, hx303_2, hl303_2, hi303_2⟩ := at_T63 HR0_1.out x6_1 p303 q303
        obtain rfl : ad302 = ad303 := (by injection e303)
        replace hx303_0 := (HB.out.cell (World.block_lt_of_cell? w _ hx303_0)).trans hx303_0
        replace hx303_1 := (HB.out.cell (World.block_lt_of_cell? w _ hx303_1)).trans hx303_1
        replace hx303_2 := (HB.out.cell (World.block_lt_of_cell? w _ hx303_2)).trans hx303_2
        have HR303_2 := Aside0.mk hi303_2
        have HC303_2 := Aside0.mk hl303_2
        clear hi303_2 hl303_2
        replace p303 := eq_true p303
        replace q303 := eq_true q303
        have ea_ := Option.some.inj (hx302_2.symm.trans hx303_2)
        injection ea_ with ea_ en_ ec_
        subst ea_
        subst ec_
        clear en_
        have p304 : 0 ≤ (x6_1 : Int) := of_decide_eq_true ZZ853400
        have q304 : x6_1 < (l0_1.length : Int) := of_decide_eq_true ZZ853400
        obtain ⟨ad304, A304_2, c304_2, e304, hx304_0, hx304_1, hx304_2, hl304_2, hi304_2⟩ := at_T63 HR0_1.out x6_1 p304 q304
        obtain rfl : ad302 = ad304 := (by injection e304)
        replace hx304_0 := (HB.out.cell (World.block_lt_of_cell? w _ hx304_0)).trans hx304_0
        replace hx304_1 := (HB.out.cell (World.block_lt_of_cell? w _ hx304_1)).trans hx304_1
        replace hx304_2 := (HB.out.cell (World.block_lt_of_cell? w _ hx304_2)).trans hx304_2
        have HR304_2 := Aside0.mk hi304_2
        have HC304_2 := Aside0.mk hl304_2
        clear hi304_2 hl304_2
        replace p304 := eq_true p304
        replace q304 := eq_true q304
        have ea_ := Option.some.inj (hx302_2.symm.trans hx304_2)
        injection ea_ with ea_ en_ ec_
        subst ea_
        subst ec_
        clear en_
        have p305 : 0 ≤ (x7_2 : Int) := of_decide_eq_true ZZ853400
        have q305 : x7_2 < (((rd_T63 l0_1 x6_1).f2).length : Int) := of_decide_eq_true ZZ853400
        obtain ⟨ad305, e305, hx305_0, hx305_1⟩ := at_T70 HR304_2.out x7_2 p305 q305
        cases e305
        replace hx305_0 := (HB.out.cell (World.block_lt_of_cell? w _ hx305_0)).trans hx305_0
        replace hx305_1 := (HB.out.cell (World.block_lt_of_cell? w _ hx305_1)).trans hx305_1
        replace p305 := eq_true p305
        replace q305 := eq_true q305
        try go_wp2_with (first | ((with_reducible refine gate_dst (N := 8) rfl ?_); refine box_event ?hg (N := 8) ?hd (cs := #[.int .i64 0, .int .i64 0]) (t := 70) ?hr ?_; (case hd => rfl); (case hg => rfl); (case hr => first | (go_simp; done) | (go_simp; rfl)); intro gb306 hg w20 hbox hb; replace HO_5 := Aside0.mk (Kd.R_below (zR HO_5) hb); have BK306 := Aside0.mk (hbox); have GW306 := Aside0.mk ((by rw [hg]; exact (below_size ZZ295621) : w.heap.size ≤ gb306)); have GE306 := Aside0.mk ((by rw [hg]; exact (below_size ZZ295621) : w.heap.size ≤ gb306)); replace HB := Aside0.mk (below_step ZZ295621 hb); have NB298_306 := Aside0.mk ((by rw [hg]; exact Nat.ne_of_lt (blk_lt (zB BK298)) : gb298 ≠ gb306)); have NB306_298 := Aside0.mk ((by rw [hg]; exact Nat.ne_of_gt (blk_lt (zB BK298)) : gb306 ≠ gb298)); replace BK298 := Aside0.mk (blk_below (zB BK298) hb); clear hb hbox hg; have hnb21 := NB306_298.out; have hnc21 := NB298_306.out; have hcz22_0 : w20.cell? ⟨gb306, 0, none⟩ = some (.int .i64 0) := (blk_cell BK306.out 0).trans rfl; have hcz22_1 : w20.cell? ⟨gb306, 1, none⟩ = some (.int .i64 0) := (blk_cell BK306.out 1).trans rfl; have hfz22_0 := blk_frozen BK306.out 0; have hfz22_1 := blk_frozen BK306.out 1))
        have n0_ : Aside0 (Kd.R (Kd.int .i64) 3 ((w20.setCell ⟨gb306, 0, none⟩ (.int .i64 ((rd_T70 ((rd_T63 l0_1 x6_1).f2) x7_2).f0))).setCell ⟨gb306, 1, none⟩ (.int .i64 ((rd_T70 ((rd_T63 l0_1 x6_1).f2) x7_2).f1))) w.heap.size (fun _ => True) v300 x5_2) := ⟨(by (with_reducible repeat (first | apply Kd.R_alloc | apply Kd.R_drewN | apply Kd.R_drew)); exact Kd.R_mono (Kd.R_far (p := ⟨gb306, 1, none⟩) (Kd.R_far (p := ⟨gb306, 0, none⟩) (Kd.R_types HO_5.out BK306.out (by decide)) (fun _ hk => hk.2) (.int .i64 ((rd_T70 ((rd_T63 l0_1 x6_1).f2) x7_2).f0))) (fun _ hk => hk.2) (.int .i64 ((rd_T70 ((rd_T63 l0_1 x6_1).f2) x7_2).f1))) (fun _ hk => trivial))⟩
        have n1_ : Aside0 (((w20.setCell ⟨gb306, 0, none⟩ (.int .i64 ((rd_T70 ((rd_T63 l0_1 x6_1).f2) x7_2).f0))).setCell ⟨gb306, 1, none⟩ (.int .i64 ((rd_T70 ((rd_T63 l0_1 x6_1).f2) x7_2).f1))).heap[gb298]? = some (.cells #[.slice A0_0 l0_0.length c0_0, .slice (some ad302) l0_1.length c0_1] 31 (0, 0))) := ⟨(by (with_reducible repeat (first | refine blk_drewN ?_ _ | refine blk_drew ?_ | refine blk_alloc ?_ _)); refine blk_far ?_ NB298_306.out _; (with_reducible repeat (first | refine blk_drewN ?_ _ | refine blk_drew ?_ | refine blk_alloc ?_ _)); refine blk_far ?_ NB298_306.out _; (with_reducible repeat (first | refine blk_drewN ?_ _ | refine blk_drew ?_ | refine blk_alloc ?_ _)); exact BK298.out)⟩
        have n2_ : Aside0 (((w20.setCell ⟨gb306, 0, none⟩ (.int .i64 ((rd_T70 ((rd_T63 l0_1 x6_1).f2) x7_2).f0))).setCell ⟨gb306, 1, none⟩ (.int .i64 ((rd_T70 ((rd_T63 l0_1 x6_1).f2) x7_2).f1))).heap[gb306]? = some (.cells #[.int .i64 ((rd_T70 ((rd_T63 l0_1 x6_1).f2) x7_2).f0), .int .i64 ((rd_T70 ((rd_T63 l0_1 x6_1).f2) x7_2).f1)] 70 (0, 0))) := ⟨(by (with_reducible repeat (first | refine blk_drewN ?_ _ | refine blk_drew ?_ | refine blk_alloc ?_ _)); refine blk_put (cs := #[.int .i64 ((rd_T70 ((rd_T63 l0_1 x6_1).f2) x7_2).f0), .int .i64 0]) ?_ 1 _ rfl; (with_reducible repeat (first | refine blk_drewN ?_ _ | refine blk_drew ?_ | refine blk_alloc ?_ _)); refine blk_put (cs := #[.int .i64 0, .int .i64 0]) ?_ 0 _ rfl; (with_reducible repeat (first | refine blk_drewN ?_ _ | refine blk_drew ?_ | refine blk_alloc ?_ _)); exact BK306.out)⟩
        have n3_ : Aside0 (Below w.heap.size w ((w20.setCell ⟨gb306, 0, none⟩ (.int .i64 ((rd_T70 ((rd_T63 l0_1 x6_1).f2) x7_2).f0))).setCell ⟨gb306, 1, none⟩ (.int .i64 ((rd_T70 ((rd_T63 l0_1 x6_1).f2) x7_2).f1)))) := ⟨ZZ295621⟩
        (try clear HO_5)
        (try clear BK298)
        (try clear BK306)
        (try clear HB)
        generalize ((w20.setCell ⟨gb306, 0, none⟩ (.int .i64 ((rd_T70 ((rd_T63 l0_1 x6_1).f2) x7_2).f0))).setCell ⟨gb306, 1, none⟩ (.int .i64 ((rd_T70 ((rd_T63 l0_1 x6_1).f2) x7_2).f1))) = w23 at n0_ n1_ n2_ n3_ ⊢
        have HO_5 := n0_
        have BK298 := n1_
        have BK306 := n2_
        have HB := n3_
        clear n0_ n1_ n2_ n3_
        replace HO_5 := Aside0.mk (Kd.R_drew HO_5.out)
        replace BK298 := Aside0.mk (blk_drew BK298.out)
        replace BK306 := Aside0.mk (blk_drew BK306.out)
        replace HB := Aside0.mk (below_drew1 HB.out)
        obtain ⟨Ao25, co25, eo25⟩ := Kd.R_slice HO_5.out
        (first | subst eo25 | (injection eo25 with f1_ f2_ f3_; have f4_ := f1_.symm; have f5_ := f3_.symm; clear f1_ f2_ f3_; subst f4_; subst f5_))
        have p307 : 0 ≤ (((rd_T70 ((rd_T63 l0_1 x6_1).f2) x7_2).f0) : Int) := of_decide_eq_true ZZ853400
        have q307 : ((rd_T70 ((rd_T63 l0_1 x6_1).f2) x7_2).f0) < (x5_2.length : Int) := of_decide_eq_true ZZ853400
        obtain ⟨ad307, e307, hx307_0⟩ := Kd.at_int (Kd.R_reads' HO_5.out).2.2 ((rd_T70 ((rd_T63 l0_1 x6_1).f2) x7_2).f0) p307 q307
        cases e307
        replace p307 := eq_true p307
        replace q307 := eq_true q307
        have p18 : 0 ≤ (((rd_T70 ((rd_T63 l0_1 x6_1).f2) x7_2).f0) : Int) := of_decide_eq_true ZZ853400
        have q18 : (((rd_T70 ((rd_T63 l0_1 x6_1).f2) x7_2).f0) : Int) < ((x5_2.length : Int) : Int) := of_decide_eq_true ZZ853400
        obtain ⟨go18, co18, eo18, gb18, gl18, cl18, HG18⟩ := Kd.R_form HO_5.out (by omega)
        (first | cases eo18 | (injection eo18 with ea_ en_ ec_; (first | subst ea_ | (injection ea_ with ea_; subst ea_)); subst ec_; clear en_))
        have GB18 := Aside0.mk gb18
        have GG18 := Aside0.mk HG18
        clear gb18 gl18 HG18
        (first | simp only [add_plain] at hx307_0 | skip)
        obtain ⟨hx18_0, hf18_0⟩ := Kd.R_celln 0 HO_5.out (((rd_T70 ((rd_T63 l0_1 x6_1).f2) x7_2).f0) : Int) p18 q18
        replace p18 := eq_true p18
        replace q18 := eq_true q18
        have HP26 := Kd.R_putn HO_5.out (((rd_T70 ((rd_T63 l0_1 x6_1).f2) x7_2).f0) : Int) (wrap64 ((rd x5_2 ((rd_T70 ((rd_T63 l0_1 x6_1).f2) x7_2).f0)) + ((rd_T70 ((rd_T63 l0_1 x6_1).f2) x7_2).f1)))
        rw [← Ny308.out] at HP26
        have HQ26 := Aside0.mk HP26
        clear HP26
        refine start_ (n := 13) (S := fun w' => w'.cell? ⟨gb306, 0, none⟩ = some (.int .i64 ((rd_T70 ((rd_T63 l0_1 x6_1).f2) x7_2).f0)) ∧ w'.cell? ⟨gb306, 1, none⟩ = some (.int .i64 ((rd_T70 ((rd_T63 l0_1 x6_1).f2) x7_2).f1)) ∧ w'.cell? ⟨go18, (((rd_T70 ((rd_T63 l0_1 x6_1).f2) x7_2).f0)).toNat, none⟩ = some (.int .i64 (rd x5_2 ((rd_T70 ((rd_T63 l0_1 x6_1).f2) x7_2).f0)))) (ds := [12]) #[false, false, false, false, false, false, false, false, false, false, false, false, false] (by kernel_rfl) rfl rfl ⟨(blk_cell BK306.out 0).trans rfl, (blk_cell BK306.out 1).trans rfl, hx307_0⟩ (fun hHeld => ?_); refine with_tabW spec_l26Balances.tab9 spec_l26Balances.bits9 (fun HT_ HW_ => ?_)
        generalize w23.drew = w24 at HO_5 BK298 BK306 HB GG18 HQ26 hf18_0 hx18_0 hx307_0 hHeld ⊢
        refine pu 0 50 ?_
        refine pu 1 51 ?_
        refine pu 3 53 ?_
        refine pu 4 54 ?_
        refine pu 8 58 ?_
        refine tk 2 52 ?_
        refine tk 5 55 ?_
        refine pu 6 56 ?_
        refine tk 7 57 ?_
        refine tk 9 59 ?_
        refine pu 10 60 ?_
        refine pu 11 61 ?_
        refine last_ (i := 12) (N := none) #[true, true, true, true, true, true, true, true, true, true, true, true, true] rfl rfl (one_of HT_.out (by kernel_rfl)) (by decide) (fun K hK => ?_)
        refine skip_ (w1 := ?_) (by rfl) rfl ?_ ?_
        rotate_left
        ·go_simp
         rfl
        refine hK.out _ _ ?_
        clear hK K
        refine done_ (done_of HT_.out (by kernel_rfl)) ?_
        try go_wp2
        go_roundg k2
        case measure => have := HK1.out; have := HK2.out; omega
        case rel => exact ⟨(y308), (wrap64 (x7_2 + 1)), ZZ0ab324, H', ⟨(by have := HK1.out; have := HK2.out; omega)⟩, ⟨(by (with_reducible repeat (first | apply Kd.R_alloc | apply Kd.R_drewN | apply Kd.R_drew)); exact HQ26.out)⟩, ⟨(by (with_reducible repeat (first | refine blk_drewN ?_ _ | refine blk_drew ?_ | refine blk_alloc ?_ _)); refine blk_far ?_ (by have h_ := Kd.R_ne HO_5.out BK298.out (by decide); intro e_; exact h_ (by rw [e_]; rfl)) _; (with_reducible repeat (first | refine blk_drewN ?_ _ | refine blk_drew ?_ | refine blk_alloc ?_ _)); exact BK298.out)⟩, ⟨(by repeat (first | (with_reducible first | exact HB.out | apply below_alloc | apply pw_below_drewN | apply below_drew1 | refine below_set ?_ GB18.out | refine below_set ?_ GE298.out | refine below_set ?_ GE306.out) | exact HB.out))⟩⟩
       rw [if_neg c14] at H
       have c14b0 := decide_eq_false c14
       clear c14
       have H' := Aside0.mk H
       clear H
       have hcz27_0 : wr.cell? ⟨gb298, 0, none⟩ = some (.slice A0_0 l0_0.length c0_0) := (blk_cell BK298.out 0).trans rfl
       have hcz27_1 : wr.cell? ⟨gb298, 1, none⟩ = some (.slice A0_1 l0_1.length c0_1) := (blk_cell BK298.out 1).trans rfl
       have hfz27_0 := blk_frozen BK298.out 0
       have hfz27_1 := blk_frozen BK298.out 1
       have p302 : 0 ≤ (x6_1 : Int) := of_decide_eq_true ZZ853400
       have q302 : x6_1 < (l0_1.length : Int) := of_decide_eq_true ZZ853400
       obtain ⟨ad302, A302_2, c302_2, e302, hx302_0, hx302_1, hx302_2, hl302_2, hi302_2⟩ := at_T63 HR0_1.out x6_1 p302 q302
       cases e302
       replace hx302_0 := (HB.out.cell (World.block_lt_of_cell? w _ hx302_0)).trans hx302_0
       replace hx302_1 := (HB.out.cell (World.block_lt_of_cell? w _ hx302_1)).trans hx302_1
       replace hx302_2 := (HB.out.cell (World.block_lt_of_cell? w _ hx302_2)).trans hx302_2
       have HR302_2 := Aside0.mk hi302_2
       have HC302_2 := Aside0.mk hl302_2
       clear hi302_2 hl302_2
       replace p302 := eq_true p302
       replace q302 := eq_true q302
       have p303 : 0 ≤ (x6_1 : Int) := of_decide_eq_true ZZ853400
       have q303 : x6_1 < (l0_1.length : Int) := of_decide_eq_true ZZ853400
       obtain ⟨ad303, A303_2, c303_2, e303, hx303_0, hx303_1, hx303_2, hl303_2, hi303_2⟩ := at_T63 HR0_1.out x6_1 p303 q303
       obtain rfl : ad302 = ad303 := (by injection e303)
       replace hx303_0 := (HB.out.cell (World.block_lt_of_cell? w _ hx303_0)).trans hx303_0
       replace hx303_1 := (HB.out.cell (World.block_lt_of_cell? w _ hx303_1)).trans hx303_1
       replace hx303_2 := (HB.out.cell (World.block_lt_of_cell? w _ hx303_2)).trans hx303_2
       have HR303_2 := Aside0.mk hi303_2
       have HC303_2 := Aside0.mk hl303_2
       clear hi303_2 hl303_2
       replace p303 := eq_true p303
       replace q303 := eq_true q303
       have ea_ := Option.some.inj (hx302_2.symm.trans hx303_2)
       injection ea_ with ea_ en_ ec_
       subst ea_
       subst ec_
       clear en_
       go_wp2
       go_roundg k2
       case measure => have := HK1.out; have := HK2.out; omega
       case rel => exact ⟨(x5_2), (wrap64 (x6_1 + 1)), ZZ0ab324, H', ⟨(by have := HK1.out; have := HK2.out; omega)⟩, ⟨(zR HO_5)⟩, ⟨(zB BK298)⟩, ⟨ZZ295621⟩⟩
      rw [if_neg c13] at H
      have c13b0 := decide_eq_false c13
      clear c13
      have H' := Aside0.mk H
      clear H
      have hcz28_0 : wr.cell? ⟨gb298, 0, none⟩ = some (.slice A0_0 l0_0.length c0_0) := (blk_cell BK298.out 0).trans rfl
      have hcz28_1 : wr.cell? ⟨gb298, 1, none⟩ = some (.slice A0_1 l0_1.length c0_1) := (blk_cell BK298.out 1).trans rfl
      have hfz28_0 := blk_frozen BK298.out 0
      have hfz28_1 := blk_frozen BK298.out 1
      have p302 : 0 ≤ (x6_1 : Int) := of_decide_eq_true ZZ853400
      have q302 : x6_1 < (l0_1.length : Int) := of_decide_eq_true ZZ853400
      obtain ⟨ad302, A302_2, c302_2, e302, hx302_0, hx302_1, hx302_2, hl302_2, hi302_2⟩ := at_T63 HR0_1.out x6_1 p302 q302
      cases e302
      replace hx302_0 := (HB.out.cell (World.block_lt_of_cell? w _ hx302_0)).trans hx302_0
      replace hx302_1 := (HB.out.cell (World.block_lt_of_cell? w _ hx302_1)).trans hx302_1
      replace hx302_2 := (HB.out.cell (World.block_lt_of_cell? w _ hx302_2)).trans hx302_2
      have HR302_2 := Aside0.mk hi302_2
      have HC302_2 := Aside0.mk hl302_2
      clear hi302_2 hl302_2
      replace p302 := eq_true p302
      replace q302 := eq_true q302
      go_wp2
      go_roundg k2
      case measure => have := HK1.out; have := HK2.out; omega
      case rel => exact ⟨(x5_2), (wrap64 (x6_1 + 1)), ZZ0ab324, H', ⟨(by have := HK1.out; have := HK2.out; omega)⟩, ⟨(zR HO_5)⟩, ⟨(zB BK298)⟩, ⟨ZZ295621⟩⟩
   rw [if_neg c9] at H
   have c9b0 := decide_eq_false c9
   clear c9
   obtain rfl := Option.some.inj H
   have hcz29_0 : wr.cell? ⟨gb298, 0, none⟩ = some (.slice A0_0 l0_0.length c0_0) := (blk_cell BK298.out 0).trans rfl
   have hcz29_1 : wr.cell? ⟨gb298, 1, none⟩ = some (.slice A0_1 l0_1.length c0_1) := (blk_cell BK298.out 1).trans rfl
   have hfz29_0 := blk_frozen BK298.out 0
   have hfz29_1 := blk_frozen BK298.out 1
   go_wp2
   go_ret
   exact ⟨_, ZZab01d2, (zR HO_5), ZZ295621⟩/-! ### spec_l1Most: function 81 -/
def spec_l1Most.f (a0 : Int) (a1 : Int) : Option (Int) := if a0 > a1 then (some a0) else (some a1)
set_option maxHeartbeats 8000000 in
set_option maxRecDepth 100000 in
theorem spec_l1Most.calls (a0 : Int) (a1 : Int) (r : Int) (w : World) (h : spec_l1Most.f a0 a1 = some r) :
 Calls Tryd.prog 81 #[.int .i64 a0, .int .i64 a1] w fun e w' => e = .returned (.int .i64 r) ∧ Drawn0 w w' := by
 have H := h
 clear h
 unfold spec_l1Most.f at H
 by_cases c3 : a0 > a1
 ·rw [if_pos c3] at H
  have c3b0 : decide (a1 < a0) = true := decide_eq_true c3
  clear c3
  obtain rfl := Option.some.inj H
  go_enter Tryd.func81, Tryd.ntmps81
  go_wp2
  go_ret
  exact ⟨ZZ0ab324, ZZ965307⟩
 rw [if_neg c3] at H
 have c3b0 : decide (a1 < a0) = false := decide_eq_false c3
 clear c3
 obtain rfl := Option.some.inj H
 go_enter Tryd.func81, Tryd.ntmps81
 go_wp2
 go_ret
 exact ⟨ZZ0ab324, ZZ965307⟩
/-! ### spec_TrialBalance: function 34 -/
mutual
def spec_TrialBalance.j0 : Nat → Int → Bool → List (S48) → List (S63) → Option (List Int × Int × Bool)
 | 0, _, _, _, _ => none
 | k + 1, x1, x17, x310000, x310001 => if x17 = true then (some ((([] : List Int)), 0, false)) else ((spec_l26Balances.f k x310000 x310001 x1).bind fun t315 => (spec_TrialBalance.l0 k t315 0 0))
def spec_TrialBalance.l0 : Nat → List Int → Int → Int → Option (List Int × Int × Bool)
 | 0, _, _, _ => none
 | k + 1, x7, x8, x9 => if x9 < (x7.length : Int) then (if 0 ≤ x9 then ((spec_l1Most.f (rd x7 x9) 0).bind fun t319 => (spec_TrialBalance.l0 k x7 (wrap64 (x8 + t319)) (wrap64 (x9 + 1)))) else (none)) else (some (x7, x8, true))
end
def spec_TrialBalance.f (k : Nat) (l0_0 : List (S48)) (l0_1 : List (S63)) (a1 : Int) : Option (List Int × Int × Bool) := (spec_l26Good.f k l0_0 l0_1).bind fun t310 => (if t310 = true then ((spec_l3Good.f a1).bind fun t311 => (spec_TrialBalance.j0 k a1 (!t311) l0_0 l0_1)) else (spec_TrialBalance.j0 k a1 true l0_0 l0_1))
theorem spec_TrialBalance.mono_l : ∀ k, (∀ y0 y1 y2 y3, LeO (spec_TrialBalance.j0 k y0 y1 y2 y3) (spec_TrialBalance.j0 (k + 1) y0 y1 y2 y3)) ∧ (∀ y0 y1 y2, LeO (spec_TrialBalance.l0 k y0 y1 y2) (spec_TrialBalance.l0 (k + 1) y0 y1 y2))
 | 0 => ⟨fun _ _ _ _ r h => by simp [spec_TrialBalance.j0] at h, fun _ _ _ r h => by simp [spec_TrialBalance.l0] at h⟩
 | k + 1 => by
  obtain ⟨ih0, ih1⟩ := spec_TrialBalance.mono_l k
  refine ⟨?_, ?_⟩
  all_goals intros
  all_goals (first | unfold spec_TrialBalance.j0 | unfold spec_TrialBalance.l0)
  all_goals
   repeat' first
   | (with_reducible exact ih0 _ _ _ _)
   | (with_reducible exact ih1 _ _ _)
   | (with_reducible exact spec_l26Balances.mono _ _ _ _)
   | (with_reducible exact spec_l26Good.mono _ _ _)
   | (with_reducible exact LeO.refl _)
   | (with_reducible exact LeO.none _)
   | (with_reducible refine LeO.ite ?_ ?_)
   | (with_reducible refine LeO.bind ?_ (fun _ => ?_))
   | exact ih0 _ _ _ _
   | exact ih1 _ _ _
   | exact spec_l26Balances.mono _ _ _ _
   | exact spec_l26Good.mono _ _ _
   | exact LeO.none _
   | refine LeO.ite ?_ ?_
   | refine LeO.bind ?_ (fun _ => ?_)
theorem spec_TrialBalance.mono : ∀ a0 a1 a2 k, LeO (spec_TrialBalance.f k a0 a1 a2) (spec_TrialBalance.f (k + 1) a0 a1 a2) := by
 intro a0 a1 a2 k
 obtain ⟨ih0, ih1⟩ := spec_TrialBalance.mono_l k
 unfold spec_TrialBalance.f
 repeat' first
  | (with_reducible exact ih0 _ _ _ _)
  | (with_reducible exact ih1 _ _ _)
  | (with_reducible exact spec_l26Balances.mono _ _ _ _)
  | (with_reducible exact spec_l26Good.mono _ _ _)
  | (with_reducible exact LeO.refl _)
  | (with_reducible exact LeO.none _)
  | (with_reducible refine LeO.ite ?_ ?_)
  | (with_reducible refine LeO.bind ?_ (fun _ => ?_))
  | exact ih0 _ _ _ _
  | exact ih1 _ _ _
  | exact spec_l26Balances.mono _ _ _ _
  | exact spec_l26Good.mono _ _ _
  | exact LeO.none _
  | refine LeO.ite ?_ ?_
  | refine LeO.bind ?_ (fun _ => ?_)
set_option maxHeartbeats 8000000 in
set_option maxRecDepth 100000 in
theorem spec_TrialBalance.calls (k : Nat) (A0_0 : Option Addr) (c0_0 : Nat) (l0_0 : List (S48)) (A0_1 : Option Addr) (c0_1 : Nat) (l0_1 : List (S63)) (a1 : Int) (r1 : List Int) (r2 : Int) (r3 : Bool) (w : World) (hr0_0 : Kd.C k48 w A0_0 l0_0.length l0_0) (hc0_0 : l0_0.length ≤ c0_0) (hr0_1 : Kd.C k63 w A0_1 l0_1.length l0_1) (hc0_1 : l0_1.length ≤ c0_1) (h : spec_TrialBalance.f k l0_0 l0_1 a1 = some (r1, r2, r3)) :
 Calls Tryd.prog 34 #[.agg #[.slice A0_0 l0_0.length c0_0, .slice A0_1 l0_1.length c0_1], .int .i64 a1] w fun e w' => ∃ v0_ : Value, e = .returned (.tuple #[v0_, .int .i64 r2, .bool r3]) ∧ Kd.R (Kd.int .i64) 3 w' w.heap.size (fun _ => True) v0_ r1 ∧ Below w.heap.size w w' := by
 have hu31 := Tryd.underlying31
 have HR0_0 := Aside0.mk hr0_0
 have HC0_0 := Aside0.mk hc0_0
 clear hr0_0 hc0_0
 have HR0_1 := Aside0.mk hr0_1
 have HC0_1 := Aside0.mk hc0_1
 clear hr0_1 hc0_1
 have HB := Aside0.mk (Below.refl w.heap.size w)
 have H := h
 clear h
 unfold spec_TrialBalance.f at H
 have HC3 := Aside0.mk H
 clear H
 go_enter Tryd.func34, Tryd.ntmps34
 go_upto_region 1 with (first | ((with_reducible refine gate_dst (N := 2) rfl ?_); refine box_event ?hg (N := 2) ?hd (cs := #[.slice A0_0 l0_0.length c0_0, .slice A0_1 l0_1.length c0_1]) (t := 31) ?hr ?_; (case hd => rfl); (case hg => rfl); (case hr => first | (go_simp; done) | (go_simp; rfl)); intro gb309 hg w4 hbox hb; have BK309 := Aside0.mk (hbox); have GW309 := Aside0.mk ((by rw [hg]; exact (below_size ZZ605003) : w.heap.size ≤ gb309)); have GE309 := Aside0.mk ((by rw [hg]; exact (below_size ZZ605003) : w.heap.size ≤ gb309)); replace HB := Aside0.mk (below_step ZZ605003 hb); clear hb hbox hg))
 (try simp only [Act.put, List.setIfInBounds_toArray, List.set_cons_zero, List.set_cons_succ])
 go_cut [17] (fun v17 wc => ∃ (kq : Nat) (x17_2 : Bool), v17 = .bool x17_2 ∧ Aside0 (spec_TrialBalance.j0 kq a1 x17_2 l0_0 l0_1 = some (r1, r2, r3)) ∧ Aside0 (kq ≤ k) ∧ Aside0 (wc.heap[gb309]? = some (.cells #[(.slice A0_0 l0_0.length c0_0), (.slice A0_1 l0_1.length c0_1)] 31 (0, 0))) ∧ Aside0 (Below w.heap.size w wc))
 case first =>
  have H := HC3.out
  clear HC3
  obtain ⟨t310, A5, H⟩ := bdY H
  by_cases c6 : t310 = true
  ·subst c6
   have H1 : ((spec_l3Good.f a1).bind fun t311 => (spec_TrialBalance.j0 k a1 (!t311) l0_0 l0_1)) = some (r1, r2, r3) := by rw [if_pos rfl] at H; exact H
   clear H
   have H := H1
   clear H1
   obtain ⟨t311, A7, H⟩ := bdY H
   have H' := Aside0.mk H
   clear H
   have hcz8_0 : w4.cell? ⟨gb309, 0, none⟩ = some (.slice A0_0 l0_0.length c0_0) := (blk_cell BK309.out 0).trans rfl
   have hcz8_1 : w4.cell? ⟨gb309, 1, none⟩ = some (.slice A0_1 l0_1.length c0_1) := (blk_cell BK309.out 1).trans rfl
   have hfz8_0 := blk_frozen BK309.out 0
   have hfz8_1 := blk_frozen BK309.out 1
   go_wp2_with (first | ((with_reducible refine gate_callee (f := 52) rfl ?_); refine goesL_ (some 11) rfl rfl Tryd.func52 (by kernel_rfl) rfl #[.agg #[.slice A0_0 l0_0.length c0_0, .slice A0_1 l0_1.length c0_1]] rfl ZZ19826e ?_; (with_reducible refine (spec_l26Good.calls k _ _ l0_0 _ _ l0_1 true _ ?side1 ?side2 ?side3 ?side4 A5.out).mono ?_); (case side1 => exact ZZ5b25f1); (case side2 => exact HC0_0.out); (case side3 => exact ZZ8ff6b3); (case side4 => exact HC0_1.out); rintro e w9 ⟨rfl, hb⟩; refine ⟨_, rfl, ?_⟩; replace BK309 := Aside0.mk (blk_below (zB BK309) hb); replace HB := Aside0.mk (below_step ZZ295621 hb); (try clear hb); (try clear hb2); (try clear hk); (try clear hi)) | (go_at_call 66; (with_reducible refine (spec_l3Good.calls a1 t311 _ A7.out).mono ?_); rintro e w' ⟨rfl, ⟨nd, rfl⟩⟩))
   go_meet
   case rel => exact ⟨_, (!t311), ZZ0ab324, H', ⟨ZZ81c739⟩, ⟨(zB BK309)⟩, ⟨ZZ295621⟩⟩
  replace c6 := Bool.eq_false_iff.mpr c6
  subst c6
  have H1 : (spec_TrialBalance.j0 k a1 true l0_0 l0_1) = some (r1, r2, r3) := by rw [if_neg (show ¬ (false = true) by decide)] at H; exact H
  clear H
  have H := H1
  clear H1
  have H' := Aside0.mk H
  clear H
  have hcz10_0 : w4.cell? ⟨gb309, 0, none⟩ = some (.slice A0_0 l0_0.length c0_0) := (blk_cell BK309.out 0).trans rfl
  have hcz10_1 : w4.cell? ⟨gb309, 1, none⟩ = some (.slice A0_1 l0_1.length c0_1) := (blk_cell BK309.out 1).trans rfl
  have hfz10_0 := blk_frozen BK309.out 0
  have hfz10_1 := blk_frozen BK309.out 1
  go_wp2_with (first | ((with_reducible refine gate_callee (f := 52) rfl ?_); refine goesL_ (some 11) rfl rfl Tryd.func52 (by kernel_rfl) rfl #[.agg #[.slice A0_0 l0_0.length c0_0, .slice A0_1 l0_1.length c0_1]] rfl ZZ19826e ?_; (with_reducible refine (spec_l26Good.calls k _ _ l0_0 _ _ l0_1 false _ ?side1 ?side2 ?side3 ?side4 A5.out).mono ?_); (case side1 => exact ZZ5b25f1); (case side2 => exact HC0_0.out); (case side3 => exact ZZ8ff6b3); (case side4 => exact HC0_1.out); rintro e w11 ⟨rfl, hb⟩; refine ⟨_, rfl, ?_⟩; replace BK309 := Aside0.mk (blk_below (zB BK309) hb); replace HB := Aside0.mk (below_step ZZ295621 hb); (try clear hb); (try clear hb2); (try clear hk); (try clear hi)))
  go_meet
  case rel => exact ⟨_, (true), ZZ0ab324, H', ⟨ZZ81c739⟩, ⟨(zB BK309)⟩, ⟨ZZ295621⟩⟩
 case rest =>
  clear HC3
  try clear c6
  try clear hcz10_0
  try clear hcz10_1
  try clear hcz8_0
  try clear hcz8_1
  try clear hfz10_0
  try clear hfz10_1
  try clear hfz8_0
  try clear hfz8_1
  obtain ⟨kq, x17_2, rfl, HA, HJ2, BK309, HB⟩ := hcut
  cases kq with
  | zero => exact absurd HA.out (by simp [spec_TrialBalance.j0])
  | succ kj2 =>
   have H := HA.out
   clear HA
   simp only [spec_TrialBalance.j0] at H
   by_cases c12 : x17_2 = true
   ·subst c12
    have H1 : (some ((([] : List Int)), 0, false)) = some (r1, r2, r3) := by rw [if_pos rfl] at H; exact H
    clear H
    have H := H1
    clear H1
    obtain ⟨y312, hy312⟩ : ∃ y_ : List Int, y_ = (([] : List Int)) := ⟨_, rfl⟩
    replace H : (some (y312, 0, false)) = some (r1, r2, r3) := by first | (rw [hy312]; with_reducible exact H) | (have H2_ := (Option.bind_some _ _).symm.trans H; rw [hy312]; with_reducible exact H2_) | (have H2_ := (Option.bind_some _ _).symm.trans H; with_reducible exact H2_) | with_reducible exact H | (rw [hy312]; exact H) | exact H
    have Ny312 := Aside0.mk hy312
    clear hy312
    simp only [Option.some.injEq, Prod.mk.injEq] at H
    obtain ⟨rfl, rfl, rfl⟩ := H
    go_wp2_with (first | ((with_reducible refine gate_dst (N := 18) rfl ?_); refine Kd.R_lit (Kd.int .i64) _ 3 ?hg (N := 18) ?hd (xs := ([] : List Int)) (inner := []) (ok := fun _ => True) (okp := fun _ => True) ?hr ?hp (fun _ hk => hk) trivial (Below.refl _ _) (Nat.le_refl _) (by simp) ?_; (case hd => rfl); (case hg => rfl); (case hr => first | (go_simp; done) | (go_simp; rfl)); (case hp => exact (Reps.none _ _)); intro v313 w13 ho14 hb hg_ hnew_; clear hg_ hnew_; (first | rw [← Ny312.out] at ho14 | (simp only [Int.reduceToNat] at ho14; rw [← Ny312.out] at ho14)); have HO314 := Aside0.mk (Kd.R_lower ho14 (below_size ZZ295621)); replace BK309 := Aside0.mk (blk_below (zB BK309) hb); replace HB := Aside0.mk (below_step ZZ295621 hb); clear hb ho14))
    go_ret3
    exact ⟨_, ZZab01d2, (zR HO314), ZZ295621⟩
   replace c12 := Bool.eq_false_iff.mpr c12
   subst c12
   have H1 : ((spec_l26Balances.f kj2 l0_0 l0_1 a1).bind fun t315 => (spec_TrialBalance.l0 kj2 t315 0 0)) = some (r1, r2, r3) := by rw [if_neg (show ¬ (false = true) by decide)] at H; exact H
   clear H
   have H := H1
   clear H1
   obtain ⟨t315, A15, H⟩ := bdY H
   have H' := Aside0.mk H
   clear H
   have hcz16_0 : wc.cell? ⟨gb309, 0, none⟩ = some (.slice A0_0 l0_0.length c0_0) := (blk_cell BK309.out 0).trans rfl
   have hcz16_1 : wc.cell? ⟨gb309, 1, none⟩ = some (.slice A0_1 l0_1.length c0_1) := (blk_cell BK309.out 1).trans rfl
   have hfz16_0 := blk_frozen BK309.out 0
   have hfz16_1 := blk_frozen BK309.out 1
   go_wp2_with (first | ((with_reducible refine gate_callee (f := 67) rfl ?_); refine goesL_ (some 21) rfl rfl Tryd.func67 (by kernel_rfl) rfl #[.agg #[.slice A0_0 l0_0.length c0_0, .slice A0_1 l0_1.length c0_1], .int .i64 a1] rfl ZZ19826e ?_; (with_reducible refine (spec_l26Balances.calls kj2 _ _ l0_0 _ _ l0_1 a1 t315 _ ?side1 ?side2 ?side3 ?side4 A15.out).mono ?_); (case side1 => exact ZZ5b25f1); (case side2 => exact HC0_0.out); (case side3 => exact ZZ8ff6b3); (case side4 => exact HC0_1.out); rintro e w17 ⟨v316, rfl, ho0, hb⟩; refine ⟨_, rfl, ?_⟩; have HO317 := Aside0.mk (Kd.R_lower ho0 (below_size ZZ295621)); replace BK309 := Aside0.mk (blk_below (zB BK309) hb); replace HB := Aside0.mk (below_step ZZ295621 hb); (try clear hb); (try clear hb2); (try clear hk); (try clear hi); (try clear ho0)))
   go_loopg [8, 9] kj2 (fun kq v8 v9 w' => ∃ (x8_2 : Int) (x9_2 : Int), v8 = .int .i64 x8_2 ∧ v9 = .int .i64 x9_2 ∧ Aside0 (spec_TrialBalance.l0 kq t315 x8_2 x9_2 = some (r1, r2, r3)) ∧ Aside0 (kq ≤ kj2) ∧ Aside0 (Kd.R (Kd.int .i64) 3 w' w.heap.size (fun _ => True) v316 t315) ∧ Aside0 (w'.heap[gb309]? = some (.cells #[(.slice A0_0 l0_0.length c0_0), (.slice A0_1 l0_1.length c0_1)] 31 (0, 0))) ∧ Aside0 (Below w.heap.size w w'))
   case atStart => exact ⟨(0), (0), ZZ0ab324, ZZ0ab324, H', ⟨Nat.le_refl _⟩, ⟨(zR HO317)⟩, ⟨(zB BK309)⟩, ⟨ZZ295621⟩⟩
   case round =>
    clear H'
    try clear c12
    try clear hcz16_0
    try clear hcz16_1
    try clear hfz16_0
    try clear hfz16_1
    obtain ⟨x8_2, x9_2, rfl, rfl, HA, HK2, HO_7, BK309, HB⟩ := hrel
    cases gk with
    | zero => exact absurd HA.out (by simp [spec_TrialBalance.l0])
    | succ k2 =>
     have H := HA.out
     clear HA
     simp only [spec_TrialBalance.l0] at H
     by_cases c18 : x9_2 < (t315.length : Int)
     ·rw [if_pos c18] at H
      have c18b0 := decide_eq_true c18
      clear c18
      obtain ⟨c19, H⟩ := ifY H
      have c19b0 := decide_eq_true c19
      clear c19
      obtain ⟨t319, A20, H⟩ := bdY H
      have H' := Aside0.mk H
      clear H
      obtain ⟨Ao21, co21, eo21⟩ := Kd.R_slice HO_7.out
      subst eo21
      have p318 : 0 ≤ (x9_2 : Int) := of_decide_eq_true ZZ853400
      have q318 : x9_2 < (t315.length : Int) := of_decide_eq_true ZZ853400
      obtain ⟨ad318, e318, hx318_0⟩ := Kd.at_int (Kd.R_reads' HO_7.out).2.2 x9_2 p318 q318
      cases e318
      replace p318 := eq_true p318
      replace q318 := eq_true q318
      go_wp2_with (first | ((with_reducible refine gate_callee (f := 81) rfl ?_); refine goesL_ (some 33) rfl rfl Tryd.func81 (by kernel_rfl) rfl #[.int .i64 (rd t315 x9_2), .int .i64 0] rfl ZZ19826e ?_; (with_reducible refine (spec_l1Most.calls (rd t315 x9_2) 0 t319 _ A20.out).mono ?_); rintro e w' ⟨rfl, ⟨nd, rfl⟩⟩; refine ⟨_, rfl, ?_⟩))
      go_roundg k2
      case measure => have := HJ2.out; have := HK2.out; omega
      case rel => exact ⟨(wrap64 (x8_2 + t319)), (wrap64 (x9_2 + 1)), ZZ0ab324, ZZ0ab324, H', ⟨(by have := HJ2.out; have := HK2.out; omega)⟩, ⟨(zR HO_7)⟩, ⟨(zB BK309)⟩, ⟨ZZ295621⟩⟩
     rw [if_neg c18] at H
     have c18b0 := decide_eq_false c18
     clear c18
     simp only [Option.some.injEq, Prod.mk.injEq] at H
     obtain ⟨rfl, rfl, rfl⟩ := H
     obtain ⟨Ao22, co22, eo22⟩ := Kd.R_slice HO_7.out
     subst eo22
     go_wp2
     go_ret3
     exact ⟨_, ZZab01d2, (zR HO_7), ZZ295621⟩
end Go.Proofs.YtccdjchaaeligaaDoor.XFnExactTrialBalance

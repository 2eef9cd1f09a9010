import Derived.Test.YtccdjchaaeligaaDoorXFnExactCloseAccounts5
import Derived.Test.YtccdjchaaeligaaDoorXFnExactCloseAccounts1
import Derived.Test.YtccdjchaaeligaaDoorXFnExactCloseAccounts0
namespace Go.Proofs.YtccdjchaaeligaaDoor.XFnExactCloseAccounts
open Go.Proofs.YtccdjchaaeligaaDoor.Short Go.RowKit Go.Proofs.YtccdjchaaeligaaDoorW.PrintWords Go.Proofs.YtccdjchaaeligaaDoorW.PrintLast Go.Proofs.YtccdjchaaeligaaDoorW.PrintMore
attribute [local go_sem] max2_int min2_int max_two min_two max_three min_three max_four min_four
set_option linter.unusedVariables false
set_option linter.unusedSimpArgs false
mutual
def spec_l26Balances.l0 : Nat → Int → List Int → Int → List (S48) → List (S63) → Option (List Int)
 | 0, _, _, _, _, _ => none
 | k + 1, x1, x5, x6, x368000, x368001 => if x6 < (x368001.length : Int) then (spec_l26Balances.l1 k x1 x5 x6 0 x368000 x368001) else (some x5)
def spec_l26Balances.l1 : Nat → Int → List Int → Int → Int → List (S48) → List (S63) → Option (List Int)
 | 0, _, _, _, _, _, _ => none
 | k + 1, x1, x5, x6, x7, x368000, x368001 => if 0 ≤ x6 then (if x6 < (x368001.length : Int) then (if x7 < (((rd_T63 x368001 x6).f2).length : Int) then (if ((rd_T63 x368001 x6).f0) ≤ x1 then (if 0 ≤ x7 then (if 0 ≤ ((rd_T70 ((rd_T63 x368001 x6).f2) x7).f0) then (if ((rd_T70 ((rd_T63 x368001 x6).f2) x7).f0) < (x5.length : Int) then (spec_l26Balances.l1 k x1 (x5.set (((rd_T70 ((rd_T63 x368001 x6).f2) x7).f0) : Int).toNat (wrap64 ((rd x5 ((rd_T70 ((rd_T63 x368001 x6).f2) x7).f0)) + ((rd_T70 ((rd_T63 x368001 x6).f2) x7).f1)))) x6 (wrap64 (x7 + 1)) x368000 x368001) else (none)) else (none)) else (none)) else (spec_l26Balances.l0 k x1 x5 (wrap64 (x6 + 1)) x368000 x368001)) else (spec_l26Balances.l0 k x1 x5 (wrap64 (x6 + 1)) x368000 x368001)) else (none)) else (none)
end
def spec_l26Balances.f (k : Nat) (l0_0 : List (S48)) (l0_1 : List (S63)) (a1 : Int) : Option (List Int) := if 0 ≤ (l0_0.length : Int) then (if ((l0_0.length : Int) : Int).toNat ≤ 35184372088832 then (spec_l26Balances.l0 k a1 (List.replicate ((l0_0.length : Int) : Int).toNat 0) 0 l0_0 l0_1) else (none)) else (none)
theorem spec_l26Balances.mono_l : ∀ k, (∀ y0 y1 y2 y3 y4, LeO (spec_l26Balances.l0 k y0 y1 y2 y3 y4) (spec_l26Balances.l0 (k + 1) y0 y1 y2 y3 y4)) ∧ (∀ y0 y1 y2 y3 y4 y5, LeO (spec_l26Balances.l1 k y0 y1 y2 y3 y4 y5) (spec_l26Balances.l1 (k + 1) y0 y1 y2 y3 y4 y5))
 | 0 => ⟨fun _ _ _ _ _ r h => by simp [spec_l26Balances.l0] at h, fun _ _ _ _ _ _ r h => by simp [spec_l26Balances.l1] at h⟩
 | k + 1 => by
  obtain ⟨ih0, ih1⟩ := spec_l26Balances.mono_l k
  refine ⟨?_, ?_⟩
  all_goals intros
  all_goals (first | unfold spec_l26Balances.l0 | unfold spec_l26Balances.l1)
  all_goals
   repeat' with_reducible first | apply ih0 | apply ih1 | exact LeO.refl _ | exact LeO.none _ | refine LeO.ite ?_ ?_ | refine LeO.bind ?_ (fun _ => ?_)
theorem spec_l26Balances.mono : ∀ a0 a1 a2 k, LeO (spec_l26Balances.f k a0 a1 a2) (spec_l26Balances.f (k + 1) a0 a1 a2) := by
 intro a0 a1 a2 k
 obtain ⟨ih0, ih1⟩ := spec_l26Balances.mono_l k
 unfold spec_l26Balances.f
 repeat' with_reducible first | apply ih0 | apply ih1 | exact LeO.refl _ | exact LeO.none _ | refine LeO.ite ?_ ?_ | refine LeO.bind ?_ (fun _ => ?_)
def spec_l26Balances.T9 : Bool × List (List Nat × List Nat) := (true, [([], []), ([], []), ([1], [1]), ([], []), ([], []), ([4], [4]), ([3, 5], [3, 5]), ([6], [6]), ([], []), ([8], [8]), ([7, 9], [7, 9]), ([0, 2, 0, 1, 2, 3, 4, 5, 6, 7, 8, 9, 10], [0, 2]), ([11, 10, 0, 1, 2, 3, 4, 5, 6, 7, 8, 9, 10], [10, 11])])
def spec_l26Balances.B9 : List Nat := [0, 0, 2, 0, 0, 16, 56, 120, 0, 256, 1016, 2047, 4095]
theorem spec_l26Balances.tab9 : rtab .any (opsOf Tryd.f67 9) = spec_l26Balances.T9 := by kernel_rfl
theorem spec_l26Balances.bits9 : waitsOk spec_l26Balances.T9.2 spec_l26Balances.B9 = true := by kernel_rfl
set_option maxHeartbeats 8000000 in
set_option maxRecDepth 100000 in
theorem spec_l26Balances.calls (k : Nat) (A0_0 : Option Addr) (c0_0 : Nat) (l0_0 : List (S48)) (A0_1 : Option Addr) (c0_1 : Nat) (l0_1 : List (S63)) (a1 : Int) (r : List Int) (w : World) (hr0_0 : Kd.C k48 w A0_0 l0_0.length l0_0) (hc0_0 : l0_0.length ≤ c0_0) (hr0_1 : Kd.C k63 w A0_1 l0_1.length l0_1) (hc0_1 : l0_1.length ≤ c0_1) (h : spec_l26Balances.f k l0_0 l0_1 a1 = some r) :
 Calls Tryd.prog 67 #[.agg #[.slice A0_0 l0_0.length c0_0, .slice A0_1 l0_1.length c0_1], .int .i64 a1] w fun e w' => ∃ v0_ : Value, e = .returned (v0_) ∧ Kd.R (Kd.int .i64) 3 w' w.heap.size (fun _ => True) v0_ r ∧ Below w.heap.size w w' := by
 have hu31 := Tryd.underlying31
 have hu70 := Tryd.underlying70
 have HR0_0 := Aside0.mk hr0_0
 have HC0_0 := Aside0.mk hc0_0
 clear hr0_0 hc0_0
 have HR0_1 := Aside0.mk hr0_1
 have HC0_1 := Aside0.mk hc0_1
 clear hr0_1 hc0_1
 have HB := Aside0.mk (Below.refl w.heap.size w)
 have H := h
 clear h
 unfold spec_l26Balances.f at H
 obtain ⟨c3b0, c3b1, H⟩ := ifYe H
 obtain ⟨c4b0, c4b1, H⟩ := ifYe H
 try rw [Option.bind_some] at H
 generalize hy368 : (List.replicate ((l0_0.length : Int) : Int).toNat 0 : List Int) = y368 at H
 have Ny368 := Aside0.mk hy368.symm
 clear hy368
 replace H := Aside0.mk H
 go_enter Tryd.func67, Tryd.ntmps67
 go_wp2_with (first | ((with_reducible refine gate_dst (N := 2) rfl ?_); refine bx 2 (cs := #[.slice A0_0 l0_0.length c0_0, .slice A0_1 l0_1.length c0_1]) (t := 31) ?_; intro gb367 hg w5 hbox hb; have BK367 := Aside0.mk (hbox); have GW367 := gw hg; have GE367 := gw hg; replace HB := hB hb; clear hb hbox hg; obtain ⟨hcz6_0, hcz6_1, hfz6_0, hfz6_1⟩ := z2 BK367) | ((with_reducible refine gate_dst (N := 12) rfl ?_); refine Kd.R_make (Kd.int .i64) _ 3 rfl (N := 12) rfl 44 _ _ rfl (l0_0.length : Int) rfl rfl Tryd.underlying44 (.int .i64 0) 8 info3 rfl (by decide) (by omega) 0 (ok := fun _ => True) (okp := fun _ => True) rfl (fun _ hk => hk) trivial (of_decide_eq_true ZZ853400) (Nat.le_trans (Nat.mul_le_mul_right _ (of_decide_eq_true ZZ853400 : (l0_0.length : Int).toNat ≤ 35184372088832)) (by omega)) (Below.refl _ _) (Nat.le_refl _) ?_; intro v369 w7 ho8 hb hg_ hnew_; clear hg_ hnew_; (first | rw [← Ny368.out] at ho8 | (simp only [Int.reduceToNat] at ho8; rw [← Ny368.out] at ho8)); have HO370 := Aside0.mk (Kd.R_lower ho8 (below_size ZZ295621)); replace BK367 := kb BK367 hb; replace HB := hB hb; clear hb ho8))
 go_loopg [6] k (fun kq v6 w' => ∃ (x5_1 : List Int) (x6_1 : Int), v6 = .int .i64 x6_1 ∧ Aside0 (spec_l26Balances.l0 kq a1 x5_1 x6_1 l0_0 l0_1 = some r) ∧ Aside0 (kq ≤ k) ∧ Aside0 (Kd.R (Kd.int .i64) 3 w' w.heap.size (fun _ => True) v369 x5_1) ∧ Aside0 (w'.heap[gb367]? = some (.cells #[(.slice A0_0 l0_0.length c0_0), (.slice A0_1 l0_1.length c0_1)] 31 (0, 0))) ∧ Aside0 (Below w.heap.size w w'))
 case atStart => exact ⟨(y368), (0), ZZ0ab324, H, ⟨Nat.le_refl _⟩, ⟨(zR HO370)⟩, ⟨(zB BK367)⟩, ⟨ZZ295621⟩⟩
 case round =>
  clear H
  try clear c3b0
  try clear c3b1
  try clear c4b0
  try clear c4b1
  try clear hcz6_0
  try clear hcz6_1
  try clear hfz6_0
  try clear hfz6_1
  obtain ⟨x5_1, x6_1, rfl, HA, HK1, HO_5, BK367, HB⟩ := hrel
  cases gk with
  | zero => exact absurd HA.out (by simp [spec_l26Balances.l0])
  | succ k1 =>
   have H := HA.out
   clear HA
   simp only [spec_l26Balances.l0] at H
   by_cases c9 : x6_1 < (l0_1.length : Int)
   ·rw [if_pos c9] at H
    have c9b0 := decide_eq_true c9
    clear c9
    replace H := Aside0.mk H
    obtain ⟨hcz10_0, hcz10_1, hfz10_0, hfz10_1⟩ := z2 BK367
    go_wp2
    go_loopg [7] k1 (fun kq v7 w' => ∃ (x5_2 : List Int) (x7_2 : Int), v7 = .int .i64 x7_2 ∧ Aside0 (spec_l26Balances.l1 kq a1 x5_2 x6_1 x7_2 l0_0 l0_1 = some r) ∧ Aside0 (kq ≤ k1) ∧ Aside0 (Kd.R (Kd.int .i64) 3 w' w.heap.size (fun _ => True) v369 x5_2) ∧ Aside0 (w'.heap[gb367]? = some (.cells #[(.slice A0_0 l0_0.length c0_0), (.slice A0_1 l0_1.length c0_1)] 31 (0, 0))) ∧ Aside0 (Below w.heap.size w w'))
    case atStart => exact ⟨(x5_1), (0), ZZ0ab324, H, ⟨Nat.le_refl _⟩, ⟨(zR HO_5)⟩, ⟨(zB BK367)⟩, ⟨ZZ295621⟩⟩
    case round =>
     clear H
     try clear c9b0
     try clear hcz10_0
     try clear hcz10_1
     try clear hfz10_0
     try clear hfz10_1
     obtain ⟨x5_2, x7_2, rfl, HA, HK2, HO_5, BK367, HB⟩ := hrel
     cases gk with
     | zero => exact absurd HA.out (by simp [spec_l26Balances.l1])
     | succ k2 =>
      have H := HA.out
      clear HA
      simp only [spec_l26Balances.l1] at H
      obtain ⟨c11b0, H⟩ := ifYd H
      obtain ⟨c12b0, H⟩ := ifYd H
      by_cases c13 : x7_2 < (((rd_T63 l0_1 x6_1).f2).length : Int)
      ·rw [if_pos c13] at H
       have c13b0 := decide_eq_true c13
       clear c13
       by_cases c14 : ((rd_T63 l0_1 x6_1).f0) ≤ a1
       ·rw [if_pos c14] at H
        have c14b0 := decide_eq_true c14
        clear c14
        obtain ⟨c15b0, H⟩ := ifYd H
        obtain ⟨c16b0, H⟩ := ifYd H
        obtain ⟨c17b0, H⟩ := ifYd H
        try rw [Option.bind_some] at H
        generalize hy377 : (x5_2.set (((rd_T70 ((rd_T63 l0_1 x6_1).f2) x7_2).f0) : Int).toNat (wrap64 ((rd x5_2 ((rd_T70 ((rd_T63 l0_1 x6_1).f2) x7_2).f0)) + ((rd_T70 ((rd_T63 l0_1 x6_1).f2) x7_2).f1))) : List Int) = y377 at H
        have Ny377 := Aside0.mk hy377.symm
        clear hy377
        replace H := Aside0.mk H
        obtain ⟨hcz19_0, hcz19_1, hfz19_0, hfz19_1⟩ := z2 BK367
        have p371 : 0 ≤ (x6_1 : Int) := of_decide_eq_true ZZ853400
        have q371 : x6_1 < (l0_1.length : Int) := of_decide_eq_true ZZ853400
        obtain ⟨ad371, A371_2, c371_2, e371, hx371_0, hx371_1, hx371_2, hl371_2, hi371_2⟩ := at_T63 HR0_1.out x6_1 p371 q371
        cases e371
        replace hx371_0 := (HB.out.cell (World.block_lt_of_cell? w _ hx371_0)).trans hx371_0
        replace hx371_1 := (HB.out.cell (World.block_lt_of_cell? w _ hx371_1)).trans hx371_1
        replace hx371_2 := (HB.out.cell (World.block_lt_of_cell? w _ hx371_2)).trans hx371_2
        have HR371_2 := Aside0.mk hi371_2
        have HC371_2 := Aside0.mk hl371_2
        clear hi371_2 hl371_2
        replace p371 := eq_true p371
        replace q371 := eq_true q371
        have p372 : 0 ≤ (x6_1 : Int) := of_decide_eq_true ZZ853400
        have q372 : x6_1 < (l0_1.length : Int) := of_decide_eq_true ZZ853400
        try clear hx371_0
        try clear hx371_1
        obtain ⟨ad372, A372_2, c372_2, e372, hx372_0, hx372_1, hx372_2, hl372_2, hi372_2⟩ := at_T63 HR0_1.out x6_1 p372 q372
        obtain rfl : ad371 = ad372 := (by injection e372)
        replace hx372_0 := (HB.out.cell (World.block_lt_of_cell? w _ hx372_0)).trans hx372_0
        replace hx372_1 := (HB.out.cell (World.block_lt_of_cell? w _ hx372_1)).trans hx372_1
        replace hx372_2 := (HB.out.cell (World.block_lt_of_cell? w _ hx372_2)).trans hx372_2
        have HR372_2 := Aside0.mk hi372_2
        have HC372_2 := Aside0.mk hl372_2
        clear hi372_2 hl372_2
        replace p372 := eq_true p372
        replace q372 := eq_true q372
        have ea_ := Option.some.inj (hx371_2.symm.trans hx372_2)
        injection ea_ with ea_ en_ ec_
        subst ea_
        subst ec_
        clear en_
        have p373 : 0 ≤ (x6_1 : Int) := of_decide_eq_true ZZ853400
        have q373 : x6_1 < (l0_1.length : Int) := of_decide_eq_true ZZ853400
        try clear hx372_0
        try clear hx372_1
        try clear hx372_2
        obtain ⟨ad373, A373_2, c373_2, e373, hx373_0, hx373_1, hx373_2, hl373_2, hi373_2⟩ := at_T63 HR0_1.out x6_1 p373 q373
        obtain rfl : ad371 = ad373 := (by injection e373)
        replace hx373_0 := (HB.out.cell (World.block_lt_of_cell? w _ hx373_0)).trans hx373_0
        replace hx373_1 := (HB.out.cell (World.block_lt_of_cell? w _ hx373_1)).trans hx373_1
        replace hx373_2 := (HB.out.cell (World.block_lt_of_cell? w _ hx373_2)).trans hx373_2
        have HR373_2 := Aside0.mk hi373_2
        have HC373_2 := Aside0.mk hl373_2
        clear hi373_2 hl373_2
        replace p373 := eq_true p373
        replace q373 := eq_true q373
        have ea_ := Option.some.inj (hx371_2.symm.trans hx373_2)
        injection ea_ with ea_ en_ ec_
        subst ea_
        subst ec_
        clear en_
        have p374 : 0 ≤ (x7_2 : Int) := of_decide_eq_true ZZ853400
        have q374 : x7_2 < (((rd_T63 l0_1 x6_1).f2).length : Int) := of_decide_eq_true ZZ853400
        obtain ⟨ad374, e374, hx374_0, hx374_1⟩ := at_T70 HR373_2.out x7_2 p374 q374
        cases e374
        replace hx374_0 := (HB.out.cell (World.block_lt_of_cell? w _ hx374_0)).trans hx374_0
        replace hx374_1 := (HB.out.cell (World.block_lt_of_cell? w _ hx374_1)).trans hx374_1
        replace p374 := eq_true p374
        replace q374 := eq_true q374
        try go_wp2_with (first | ((with_reducible refine gate_dst (N := 8) rfl ?_); refine bx 8 (cs := #[.int .i64 0, .int .i64 0]) (t := 70) ?_; intro gb375 hg w20 hbox hb; replace HO_5 := Aside0.mk (Kd.R_below (zR HO_5) hb); have BK375 := Aside0.mk (hbox); have GW375 := gw hg; have GE375 := gw hg; replace HB := hB hb; have NB367_375 := nl hg BK367; have NB375_367 := ng hg BK367; replace BK367 := kb BK367 hb; clear hb hbox hg; have hnb21 := NB375_367.out; have hnc21 := NB367_375.out; obtain ⟨hcz22_0, hcz22_1, hfz22_0, hfz22_1⟩ := z2 BK375))
        generalize hw_ : ((w20.setCell ⟨gb375, 0, none⟩ (.int .i64 ((rd_T70 ((rd_T63 l0_1 x6_1).f2) x7_2).f0))).setCell ⟨gb375, 1, none⟩ (.int .i64 ((rd_T70 ((rd_T63 l0_1 x6_1).f2) x7_2).f1))) = w23
        replace HO_5 : Aside0 (Kd.R (Kd.int .i64) 3 w23 w.heap.size (fun _ => True) v369 x5_2) := ⟨(by subst hw_; refine bR ?_; exact Kd.R_mono (Kd.R_far (p := ⟨gb375, 1, none⟩) (Kd.R_far (p := ⟨gb375, 0, none⟩) (Kd.R_types HO_5.out BK375.out (by decide)) (fun _ hk => hk.2) (.int .i64 ((rd_T70 ((rd_T63 l0_1 x6_1).f2) x7_2).f0))) (fun _ hk => hk.2) (.int .i64 ((rd_T70 ((rd_T63 l0_1 x6_1).f2) x7_2).f1))) (fun _ hk => trivial))⟩
        replace BK367 : Aside0 (w23.heap[gb367]? = some (.cells #[.slice A0_0 l0_0.length c0_0, .slice (some ad371) l0_1.length c0_1] 31 (0, 0))) := ⟨(by subst hw_; refine bd ?_; refine blk_far ?_ NB367_375.out _; refine bd ?_; refine blk_far ?_ NB367_375.out _; refine bd ?_; exact BK367.out)⟩
        replace BK375 : Aside0 (w23.heap[gb375]? = some (.cells #[.int .i64 ((rd_T70 ((rd_T63 l0_1 x6_1).f2) x7_2).f0), .int .i64 ((rd_T70 ((rd_T63 l0_1 x6_1).f2) x7_2).f1)] 70 (0, 0))) := ⟨(by subst hw_; refine bd ?_; refine blk_put (cs := #[.int .i64 ((rd_T70 ((rd_T63 l0_1 x6_1).f2) x7_2).f0), .int .i64 0]) ?_ 1 _ rfl; refine bd ?_; refine blk_put (cs := #[.int .i64 0, .int .i64 0]) ?_ 0 _ rfl; refine bd ?_; exact BK375.out)⟩
        replace HB : Aside0 (Below w.heap.size w w23) := ⟨ZZ0d0602⟩
        clear hw_
        replace HO_5 := Aside0.mk (Kd.R_drew HO_5.out)
        replace BK367 := Aside0.mk (blk_drew BK367.out)
        replace BK375 := Aside0.mk (blk_drew BK375.out)
        replace HB := Aside0.mk (below_drew1 HB.out)
        obtain ⟨Ao25, co25, eo25⟩ := Kd.R_slice HO_5.out
        (first | subst eo25 | (injection eo25 with f1_ f2_ f3_; have f4_ := f1_.symm; have f5_ := f3_.symm; clear f1_ f2_ f3_; subst f4_; subst f5_))
        have p376 : 0 ≤ (((rd_T70 ((rd_T63 l0_1 x6_1).f2) x7_2).f0) : Int) := of_decide_eq_true ZZ853400
        have q376 : ((rd_T70 ((rd_T63 l0_1 x6_1).f2) x7_2).f0) < (x5_2.length : Int) := of_decide_eq_true ZZ853400
        obtain ⟨ad376, e376, hx376_0⟩ := Kd.at_int (Kd.R_reads' HO_5.out).2.2 ((rd_T70 ((rd_T63 l0_1 x6_1).f2) x7_2).f0) p376 q376
        cases e376
        replace p376 := eq_true p376
        replace q376 := eq_true q376
        have p18 : 0 ≤ (((rd_T70 ((rd_T63 l0_1 x6_1).f2) x7_2).f0) : Int) := of_decide_eq_true ZZ853400
        have q18 : (((rd_T70 ((rd_T63 l0_1 x6_1).f2) x7_2).f0) : Int) < ((x5_2.length : Int) : Int) := of_decide_eq_true ZZ853400
        obtain ⟨go18, co18, eo18, gb18, gl18, cl18, HG18⟩ := Kd.R_form HO_5.out (by omega)
        (first | cases eo18 | (injection eo18 with ea_ en_ ec_; (first | subst ea_ | (injection ea_ with ea_; subst ea_)); subst ec_; clear en_))
        have GB18 := Aside0.mk gb18
        have GG18 := Aside0.mk HG18
        clear gb18 gl18 HG18
        (first | simp only [add_plain] at hx376_0 | skip)
        obtain ⟨hx18_0, hf18_0⟩ := Kd.R_celln 0 HO_5.out (((rd_T70 ((rd_T63 l0_1 x6_1).f2) x7_2).f0) : Int) p18 q18
        replace p18 := eq_true p18
        replace q18 := eq_true q18
        have HP26 := Kd.R_putn HO_5.out (((rd_T70 ((rd_T63 l0_1 x6_1).f2) x7_2).f0) : Int) (wrap64 ((rd x5_2 ((rd_T70 ((rd_T63 l0_1 x6_1).f2) x7_2).f0)) + ((rd_T70 ((rd_T63 l0_1 x6_1).f2) x7_2).f1)))
        rw [← Ny377.out] at HP26
        have HQ26 := Aside0.mk HP26
        clear HP26
        refine start_ (n := 13) (S := fun w' => w'.cell? ⟨gb375, 0, none⟩ = some (.int .i64 ((rd_T70 ((rd_T63 l0_1 x6_1).f2) x7_2).f0)) ∧ w'.cell? ⟨gb375, 1, none⟩ = some (.int .i64 ((rd_T70 ((rd_T63 l0_1 x6_1).f2) x7_2).f1)) ∧ w'.cell? ⟨go18, (((rd_T70 ((rd_T63 l0_1 x6_1).f2) x7_2).f0)).toNat, none⟩ = some (.int .i64 (rd x5_2 ((rd_T70 ((rd_T63 l0_1 x6_1).f2) x7_2).f0)))) (ds := [12]) #[false, false, false, false, false, false, false, false, false, false, false, false, false] (by kernel_rfl) rfl rfl ⟨(blk_cell BK375.out 0).trans rfl, (blk_cell BK375.out 1).trans rfl, hx376_0⟩ (fun hHeld => ?_); refine with_tabW spec_l26Balances.tab9 spec_l26Balances.bits9 (fun HT_ HW_ => ?_)
        generalize w23.drew = w24 at HO_5 BK367 BK375 HB GG18 HQ26 hf18_0 hx18_0 hx376_0 hHeld ⊢
        refine pu 0 50 ?_
        refine pu 1 51 ?_
        refine pu 3 53 ?_
        refine pu 4 54 ?_
        refine pu 8 58 ?_
        refine tk 2 52 ?_
        refine tk 5 55 ?_
        refine pu 6 56 ?_
        refine tk 7 57 ?_
        refine tk 9 59 ?_
        refine pu 10 60 ?_
        refine pu 11 61 ?_
        refine last_ (i := 12) (N := none) #[true, true, true, true, true, true, true, true, true, true, true, true, true] rfl rfl (one_of HT_.out (by kernel_rfl)) (by decide) (fun K hK => ?_)
        refine skip_ (w1 := ?_) (by rfl) rfl ?_ ?_
        rotate_left
        ·go_simp
         rfl
        refine hK.out _ _ ?_
        clear hK K
        refine done_ (done_of HT_.out (by kernel_rfl)) ?_
        try go_wp2
        go_roundg k2
        case measure => have := HK1.out; have := HK2.out; omega
        case rel => exact ⟨(y377), (wrap64 (x7_2 + 1)), ZZ0ab324, H, kle, ⟨(by refine bR ?_; exact HQ26.out)⟩, ⟨(by refine bd ?_; refine blk_far ?_ (by have h_ := Kd.R_ne HO_5.out BK367.out (by decide); intro e_; exact h_ (by rw [e_]; rfl)) _; refine bd ?_; exact BK367.out)⟩, ⟨(by repeat (first | (with_reducible first | exact HB.out | apply below_alloc | apply pw_below_drewN | apply below_drew1 | refine below_set ?_ GB18.out | refine below_set ?_ GE367.out | refine below_set ?_ GE375.out) | exact HB.out))⟩⟩
       rw [if_neg c14] at H
       have c14b0 := decide_eq_false c14
       clear c14
       replace H := Aside0.mk H
       obtain ⟨hcz27_0, hcz27_1, hfz27_0, hfz27_1⟩ := z2 BK367
       have p371 : 0 ≤ (x6_1 : Int) := of_decide_eq_true ZZ853400
       have q371 : x6_1 < (l0_1.length : Int) := of_decide_eq_true ZZ853400
       obtain ⟨ad371, A371_2, c371_2, e371, hx371_0, hx371_1, hx371_2, hl371_2, hi371_2⟩ := at_T63 HR0_1.out x6_1 p371 q371
       cases e371
       replace hx371_0 := (HB.out.cell (World.block_lt_of_cell? w _ hx371_0)).trans hx371_0
       replace hx371_1 := (HB.out.cell (World.block_lt_of_cell? w _ hx371_1)).trans hx371_1
       replace hx371_2 := (HB.out.cell (World.block_lt_of_cell? w _ hx371_2)).trans hx371_2
       have HR371_2 := Aside0.mk hi371_2
       have HC371_2 := Aside0.mk hl371_2
       clear hi371_2 hl371_2
       replace p371 := eq_true p371
       replace q371 := eq_true q371
       have p372 : 0 ≤ (x6_1 : Int) := of_decide_eq_true ZZ853400
       have q372 : x6_1 < (l0_1.length : Int) := of_decide_eq_true ZZ853400
       try clear hx371_0
       try clear hx371_1
       obtain ⟨ad372, A372_2, c372_2, e372, hx372_0, hx372_1, hx372_2, hl372_2, hi372_2⟩ := at_T63 HR0_1.out x6_1 p372 q372
       obtain rfl : ad371 = ad372 := (by injection e372)
       replace hx372_0 := (HB.out.cell (World.block_lt_of_cell? w _ hx372_0)).trans hx372_0
       replace hx372_1 := (HB.out.cell (World.block_lt_of_cell? w _ hx372_1)).trans hx372_1
       replace hx372_2 := (HB.out.cell (World.block_lt_of_cell? w _ hx372_2)).trans hx372_2
       have HR372_2 := Aside0.mk hi372_2
       have HC372_2 := Aside0.mk hl372_2
       clear hi372_2 hl372_2
       replace p372 := eq_true p372
       replace q372 := eq_true q372
       have ea_ := Option.some.inj (hx371_2.symm.trans hx372_2)
       injection ea_ with ea_ en_ ec_
       subst ea_
       subst ec_
       clear en_
       go_wp2
       go_roundg k2
       case measure => have := HK1.out; have := HK2.out; omega
       case rel => exact ⟨(x5_2), (wrap64 (x6_1 + 1)), ZZ0ab324, H, kle, ⟨(zR HO_5)⟩, ⟨(zB BK367)⟩, ⟨ZZ295621⟩⟩
      rw [if_neg c13] at H
      have c13b0 := decide_eq_false c13
      clear c13
      replace H := Aside0.mk H
      obtain ⟨hcz28_0, hcz28_1, hfz28_0, hfz28_1⟩ := z2 BK367
      have p371 : 0 ≤ (x6_1 : Int) := of_decide_eq_true ZZ853400
      have q371 : x6_1 < (l0_1.length : Int) := of_decide_eq_true ZZ853400
      obtain ⟨ad371, A371_2, c371_2, e371, hx371_0, hx371_1, hx371_2, hl371_2, hi371_2⟩ := at_T63 HR0_1.out x6_1 p371 q371
      cases e371
      replace hx371_0 := (HB.out.cell (World.block_lt_of_cell? w _ hx371_0)).trans hx371_0
      replace hx371_1 := (HB.out.cell (World.block_lt_of_cell? w _ hx371_1)).trans hx371_1
      replace hx371_2 := (HB.out.cell (World.block_lt_of_cell? w _ hx371_2)).trans hx371_2
      have HR371_2 := Aside0.mk hi371_2
      have HC371_2 := Aside0.mk hl371_2
      clear hi371_2 hl371_2
      replace p371 := eq_true p371
      replace q371 := eq_true q371
      go_wp2
      go_roundg k2
      case measure => have := HK1.out; have := HK2.out; omega
      case rel => exact ⟨(x5_2), (wrap64 (x6_1 + 1)), ZZ0ab324, H, kle, ⟨(zR HO_5)⟩, ⟨(zB BK367)⟩, ⟨ZZ295621⟩⟩
   rw [if_neg c9] at H
   have c9b0 := decide_eq_false c9
   clear c9
   obtain rfl := Option.some.inj H
   obtain ⟨hcz29_0, hcz29_1, hfz29_0, hfz29_1⟩ := z2 BK367
   go_wp2
   go_ret
   exact ⟨_, ZZab01d2, (zR HO_5), ZZ295621⟩/-! ### spec_l26Temporary: function 70 -/
def spec_l26Temporary.f (a0_0 : ByteArray) (a0_1 : Int) : Option (Bool) := if a0_1 = 4 then (some true) else (some (a0_1 == 5))
set_option maxHeartbeats 8000000 in
set_option maxRecDepth 100000 in
theorem spec_l26Temporary.calls (a0_0 : ByteArray) (a0_1 : Int) (r : Bool) (w : World) (h : spec_l26Temporary.f a0_0 a0_1 = some r) :
 Calls Tryd.prog 70 #[.agg #[.string a0_0, .int .i64 a0_1]] w fun e w' => e = .returned (.bool r) ∧ Below w.heap.size w w' := by
 have hu48 := Tryd.underlying48
 have HB := Aside0.mk (Below.refl w.heap.size w)
 have H := h
 clear h
 unfold spec_l26Temporary.f at H
 by_cases c2 : a0_1 = 4
 ·rw [if_pos c2] at H
  have c2b0 := beq_iff_eq.mpr c2
  have c2b1 := bne_eq_false_iff_eq.mpr c2
  clear c2
  obtain rfl := Option.some.inj H
  go_enter Tryd.func70, Tryd.ntmps70
  go_wp2_with (first | ((with_reducible refine gate_dst (N := 1) rfl ?_); refine bx 1 (cs := #[.string a0_0, .int .i64 a0_1]) (t := 48) ?_; intro gb378 hg w3 hbox hb; have BK378 := Aside0.mk (hbox); have GW378 := gw hg; have GE378 := gw hg; replace HB := hB hb; clear hb hbox hg; obtain ⟨hcz4_0, hcz4_1, hfz4_0, hfz4_1⟩ := z2 BK378))
  go_ret
  exact ⟨ZZab01d2, ZZ295621⟩
 rw [if_neg c2] at H
 have c2b0 := beq_eq_false_iff_ne.mpr c2
 have c2b1 := bne_iff_ne.mpr c2
 obtain rfl := Option.some.inj H
 go_enter Tryd.func70, Tryd.ntmps70
 go_wp2_with (first | ((with_reducible refine gate_dst (N := 1) rfl ?_); refine bx 1 (cs := #[.string a0_0, .int .i64 a0_1]) (t := 48) ?_; intro gb378 hg w5 hbox hb; have BK378 := Aside0.mk (hbox); have GW378 := gw hg; have GE378 := gw hg; replace HB := hB hb; clear hb hbox hg; obtain ⟨hcz6_0, hcz6_1, hfz6_0, hfz6_1⟩ := z2 BK378))
 go_ret
 exact ⟨ZZab01d2, ZZ295621⟩
def spec_l26OwnEntry.f (a0_0 : Int) (a0_1 : ByteArray) (l0_2 : List (S70)) : Option (Int × ByteArray × (List (S70))) := (some (([] : List (S70)) : List (S70))).bind fun y381 => (if y381.length + l0_2.length < 8796093022208 then (some (a0_0, a0_1, (y381 ++ l0_2))) else (none))
def spec_l26OwnEntry.T1 : Bool × List (List Nat × List Nat) := (true, [([], []), ([0], [0]), ([], []), ([2], [2]), ([], []), ([], []), ([5], [5]), ([4, 6], [4, 6]), ([1, 3, 7], [1, 3, 7]), ([8, 7, 0, 1, 2, 3, 4, 5, 6, 7, 8], [8])])
def spec_l26OwnEntry.B1 : List Nat := [0, 1, 0, 4, 0, 0, 32, 112, 255, 511]
theorem spec_l26OwnEntry.tab1 : rtab .any (opsOf Tryd.f111 1) = spec_l26OwnEntry.T1 := by kernel_rfl
theorem spec_l26OwnEntry.bits1 : waitsOk spec_l26OwnEntry.T1.2 spec_l26OwnEntry.B1 = true := by kernel_rfl
set_option maxHeartbeats 8000000 in
set_option maxRecDepth 100000 in
theorem spec_l26OwnEntry.calls (a0_0 : Int) (a0_1 : ByteArray) (A0_2 : Option Addr) (c0_2 : Nat) (l0_2 : List (S70)) (r1 : Int) (r2 : ByteArray) (r3 : List (S70)) (w : World) (hr0_2 : Kd.C k70 w A0_2 l0_2.length l0_2) (hc0_2 : l0_2.length ≤ c0_2) (h : spec_l26OwnEntry.f a0_0 a0_1 l0_2 = some (r1, r2, r3)) :
 Calls Tryd.prog 111 #[.agg #[.int .i64 a0_0, .string a0_1, .slice A0_2 l0_2.length c0_2]] w fun e w' => ∃ v2_ : Value, e = .returned (.agg #[.int .i64 r1, .string r2, v2_]) ∧ Kd.R k70 70 w' w.heap.size (fun _ => True) v2_ r3 ∧ Below w.heap.size w w' := by
 have hu63 := Tryd.underlying63
 have HR0_2 := Aside0.mk hr0_2
 have HC0_2 := Aside0.mk hc0_2
 clear hr0_2 hc0_2
 have HB := Aside0.mk (Below.refl w.heap.size w)
 have H := h
 clear h
 unfold spec_l26OwnEntry.f at H
 try rw [Option.bind_some] at H
 generalize hy381 : (([] : List (S70)) : List (S70)) = y381 at H
 have Ny381 := Aside0.mk hy381.symm
 clear hy381
 obtain ⟨c2, H⟩ := ifY H
 have LMc2 := Aside0.mk c2
 clear c2
 try rw [Option.bind_some] at H
 generalize hy384 : (y381 ++ l0_2 : List (S70)) = y384 at H
 have Ny384 := Aside0.mk hy384.symm
 clear hy384
 simp only [Option.some.injEq, Prod.mk.injEq] at H
 obtain ⟨rfl, rfl, rfl⟩ := H
 go_enter Tryd.func111, Tryd.ntmps111
 try go_wp2_with (first | ((with_reducible refine gate_dst (N := 1) rfl ?_); refine bx 1 (cs := #[.int .i64 a0_0, .string a0_1, .slice A0_2 l0_2.length c0_2]) (t := 63) ?_; intro gb379 hg w3 hbox hb; have BK379 := Aside0.mk (hbox); have GW379 := gw hg; have GE379 := gw hg; replace HB := hB hb; clear hb hbox hg) | ((with_reducible refine gate_dst (N := 2) rfl ?_); refine bx 2 (cs := #[.int .i64 0, .string (⟨#[]⟩ : ByteArray), .slice none 0 0]) (t := 63) ?_; intro gb380 hg w4 hbox hb; have BK380 := Aside0.mk (hbox); have GW380 := gw hg; have GE380 := gw hg; replace HB := hB hb; have NB379_380 := nl hg BK379; have NB380_379 := ng hg BK379; replace BK379 := kb BK379 hb; clear hb hbox hg))
 replace BK379 := Aside0.mk (blk_drew BK379.out)
 replace BK380 := Aside0.mk (blk_drew BK380.out)
 replace HB := Aside0.mk (below_drew1 HB.out)
 refine st 10 (S := fun w' => w'.cell? ⟨gb379, 0, none⟩ = some (.int .i64 a0_0) ∧ w'.cell? ⟨gb379, 1, none⟩ = some (.string a0_1) ∧ w'.cell? ⟨gb379, 2, none⟩ = some (.slice A0_2 l0_2.length c0_2)) spec_l26OwnEntry.tab1 spec_l26OwnEntry.bits1 zK (fun hHeld HT_ HW_ => ?_)
 generalize w4.drew = w5 at BK379 BK380 HB hHeld ⊢
 refine pu 0 3 ?_
 refine pu 2 5 ?_
 refine pu 5 8 ?_
 refine tk 1 4 ?_
 refine tk 3 6 ?_
 refine tk 6 9 ?_
 refine on 4 (some 7) (fun K hK => ?_)
 refine Kd.R_lit_step k70 _ 70 ?hg (N := 7) ?hd (xs := ([] : List (S70))) (inner := []) (ok := fun _ => True) (okp := fun _ => True) ?hr ?hp (fun _ hk => hk) trivial (Below.refl _ _) (Nat.le_refl _) (by simp) ?_; (case hd => rfl); (case hg => rfl); (case hr => first | (go_simp; done) | (go_simp; rfl)); (case hp => exact (Reps.none _ _))
 intro v382 w6 ho7 hb hg_ hnew_
 clear hg_ hnew_
 (first | rw [← Ny381.out] at ho7 | (simp only [Int.reduceToNat] at ho7; rw [← Ny381.out] at ho7))
 have HO383 := Aside0.mk (Kd.R_lower ho7 (below_size ZZ295621))
 replace BK379 := kb BK379 hb
 replace BK380 := kb BK380 hb
 replace HB := hB hb
 clear hb ho7
 refine hK.out _ _ zK (fun hHeld => ?_)
 clear hK K
 refine nd (some 7) ?_
 refine on 7 (some 10) (fun K hK => ?_)
 refine Kd.R_append_rows_step k70 (w0 := w) w.heap.size (by rfl) (.tmp 7) (.tmp 9) 61 70 (.agg #[(.int .i64 0), (.int .i64 0)]) 16 rfl Tryd.underlying61 info70 rfl (by decide) (by omega) v382 y381 l0_2 _ _ _ (fun _ => True) (fun _ => False) rfl rfl ?aO ?aR (fun _ _ h => h) (fun _ h => h.elim) ?aF ?aB ?aS ?aL ?_
 (case aR => repeat (first | exact (Kd.C_below HR0_2.out HB.out) | (with_reducible refine Kd.C_alloc ?_ _) | (with_reducible refine Kd.C_drewN ?_ _) | (with_reducible refine Kd.C_drew ?_)))
 (case aB => exact ZZ295621)
 (case aF => exact (fun _ _ => trivial))
 (case aO => exact (zR HO383))
 (case aS => exact (below_size ZZ295621))
 (case aL => have := LMc2.out; omega)
 intro v385 w8 ho hb hg hat
 rw [← Ny384.out] at ho
 replace BK379 := Aside0.mk (blk_grown (zB BK379) hg (Kd.R_ne HO383.out BK379.out (by decide)))
 replace BK380 := Aside0.mk (blk_grown (zB BK380) hg (Kd.R_ne HO383.out BK380.out (by decide)))
 replace HB := Aside0.mk (hb)
 have HO386 := Aside0.mk (ho)
 clear HO383
 clear ho hb hg hat
 obtain ⟨Ao9, co9, eo9⟩ := Kd.R_slice HO386.out
 (first | subst eo9 | (injection eo9 with f1_ f2_ f3_; have f4_ := f1_.symm; have f5_ := f3_.symm; clear f1_ f2_ f3_; subst f4_; subst f5_))
 refine hK.out _ _ zK (fun hHeld => ?_)
 clear hK K
 refine nd (some 10) ?_
 refine pu 8 11 ?_
 refine on 9 none (fun K hK => ?_)
 have hs10 := cz BK380 0
 have hfs10 := blk_frozen BK380.out 0
 have hns10_0 := NB379_380.out
 have hms10_0 := NB380_379.out
 have hs11 := cz BK380 1
 have hfs11 := blk_frozen BK380.out 1
 have hns11_0 := NB379_380.out
 have hms11_0 := NB380_379.out
 have hs12 := cz BK380 2
 have hfs12 := blk_frozen BK380.out 2
 have hns12_0 := NB379_380.out
 have hms12_0 := NB380_379.out
 refine skip_ (w1 := ?_) (by rfl) rfl ?_ ?_
 rotate_left
 ·go_simp
  rfl
 refine hK.out _ _ ⟨((cell_far (p := ⟨gb380, _, none⟩) NB379_380.out _).trans (((cell_far (p := ⟨gb380, _, none⟩) NB379_380.out _).trans (((cell_far (p := ⟨gb380, _, none⟩) NB379_380.out _).trans (hHeld.1)))))), ((cell_far (p := ⟨gb380, _, none⟩) NB379_380.out _).trans (((cell_far (p := ⟨gb380, _, none⟩) NB379_380.out _).trans (((cell_far (p := ⟨gb380, _, none⟩) NB379_380.out _).trans (hHeld.2.1)))))), ((cell_far (p := ⟨gb380, _, none⟩) NB379_380.out _).trans (((cell_far (p := ⟨gb380, _, none⟩) NB379_380.out _).trans (((cell_far (p := ⟨gb380, _, none⟩) NB379_380.out _).trans (hHeld.2.2))))))⟩ (fun hHeld => ?_)
 clear hK K
 refine done_ (done_of HT_.out (by kernel_rfl)) ?_
 try go_wp2
 refine bodyPost_ret (results_cell_row rfl _ _ gb380 63 #[.int .i64 a0_0, .string a0_1, .slice Ao9 y384.length co9] (0, 0) _ rfl (by refine bd ?_; refine blk_put (cs := #[.int .i64 a0_0, .string a0_1, .slice none 0 0]) ?_ 2 _ rfl; refine bd ?_; refine blk_put (cs := #[.int .i64 a0_0, .string (⟨#[]⟩ : ByteArray), .slice none 0 0]) ?_ 1 _ rfl; refine bd ?_; refine blk_put (cs := #[.int .i64 0, .string (⟨#[]⟩ : ByteArray), .slice none 0 0]) ?_ 0 _ rfl; refine bd ?_; exact BK380.out) Tryd.underlying63 rfl (by kernel_rfl)) rfl ?_
 exact ⟨_, ZZab01d2, (by refine bR ?_; exact Kd.R_mono (Kd.R_far (p := ⟨gb380, 2, none⟩) (Kd.R_far (p := ⟨gb380, 1, none⟩) (Kd.R_far (p := ⟨gb380, 0, none⟩) (Kd.R_types HO386.out BK380.out (by decide)) (fun _ hk => hk.2) (.int .i64 a0_0)) (fun _ hk => hk.2) (.string a0_1)) (fun _ hk => hk.2) (.slice Ao9 y384.length co9)) (fun _ hk => trivial)), ZZ295621⟩
end Go.Proofs.YtccdjchaaeligaaDoor.XFnExactCloseAccounts

-- Printed by wip/tools/xprint.py, a program of this session, over the kit's print; Lean checks it.
import Derived.Test.YtccdjchaaeligaaDoorXFnExactTrialBalance1
import Derived.Test.YtccdjchaaeligaaDoorXFnExactTrialBalance0
import Derived.Test.YtccdjchaaeligaaDoorXFnExactTrialBalance4
import Derived.Test.YtccdjchaaeligaaDoorXFnExactTrialBalance7
namespace Go.Proofs.YtccdjchaaeligaaDoor.XFnExactTrialBalance
open Go.Proofs.YtccdjchaaeligaaDoor.Short Go.RowKit Go.Proofs.YtccdjchaaeligaaDoorW.PrintWords Go.Proofs.YtccdjchaaeligaaDoorW.PrintLast Go.Proofs.YtccdjchaaeligaaDoorW.PrintMore
attribute [local go_sem] max2_int min2_int max_two min_two max_three min_three max_four min_four   -- for this text's walks alone
set_option linter.unusedVariables false
set_option linter.unusedSimpArgs false
/-! ### impl_balancesAt: function 69 -/
mutual
def impl_balancesAt.l0 : Nat → Int → List Int → List (S63) → Int → Int → Option (List Int)
 | 0, _, _, _, _, _ => none
 | k + 1, x1, x5, x15, x16, x17 => if x17 < x16 then (if 0 ≤ x17 then (if x17 < (x15.length : Int) then (if ((rd_T63 x15 x17).f0) > x1 then (some x5) else (impl_balancesAt.l1 k x1 x5 x15 x16 x17 ((rd_T63 x15 x17).f2) (((rd_T63 x15 x17).f2).length : Int) 0)) else (none)) else (none)) else (some x5)
def impl_balancesAt.l1 : Nat → Int → List Int → List (S63) → Int → Int → List (S70) → Int → Int → Option (List Int)
 | 0, _, _, _, _, _, _, _, _ => none
 | k + 1, x1, x5, x15, x16, x17, x26, x27, x28 => if x28 < x27 then (if 0 ≤ x28 then (if x28 < (x26.length : Int) then (if 0 ≤ ((rd_T70 x26 x28).f0) then (if ((rd_T70 x26 x28).f0) < (x5.length : Int) then (impl_balancesAt.l1 k x1 (x5.set (((rd_T70 x26 x28).f0) : Int).toNat (wrap64 ((rd x5 ((rd_T70 x26 x28).f0)) + ((rd_T70 x26 x28).f1)))) x15 x16 x17 x26 x27 (wrap64 (x28 + 1))) else (none)) else (none)) else (none)) else (none)) else (impl_balancesAt.l0 k x1 x5 x15 x16 (wrap64 (x17 + 1)))
end
def impl_balancesAt.f (k : Nat) (l0_0 : List (S48)) (l0_1 : List (S63)) (a1 : Int) : Option (List Int) := if 0 ≤ (l0_0.length : Int) then (if ((l0_0.length : Int) : Int).toNat ≤ 35184372088832 then (impl_balancesAt.l0 k a1 (List.replicate ((l0_0.length : Int) : Int).toNat 0) l0_1 (l0_1.length : Int) 0) else (none)) else (none)
theorem impl_balancesAt.mono_l : ∀ k, (∀ y0 y1 y2 y3 y4, LeO (impl_balancesAt.l0 k y0 y1 y2 y3 y4) (impl_balancesAt.l0 (k + 1) y0 y1 y2 y3 y4)) ∧ (∀ y0 y1 y2 y3 y4 y5 y6 y7, LeO (impl_balancesAt.l1 k y0 y1 y2 y3 y4 y5 y6 y7) (impl_balancesAt.l1 (k + 1) y0 y1 y2 y3 y4 y5 y6 y7))
 | 0 => ⟨fun _ _ _ _ _ r h => by simp [impl_balancesAt.l0] at h, fun _ _ _ _ _ _ _ _ r h => by simp [impl_balancesAt.l1] at h⟩
 | k + 1 => by
  obtain ⟨ih0, ih1⟩ := impl_balancesAt.mono_l k
  refine ⟨?_, ?_⟩
  all_goals intros
  all_goals (first | unfold impl_balancesAt.l0 | unfold impl_balancesAt.l1)
  all_goals
   repeat' first
   | (with_reducible exact ih0 _ _ _ _ _)
   | (with_reducible exact ih1 _ _ _ _ _ _ _ _)
   | (with_reducible exact LeO.refl _)
   | (with_reducible exact LeO.none _)
   | (with_reducible refine LeO.ite ?_ ?_)
   | (with_reducible refine LeO.bind ?_ (fun _ => ?_))
   | exact ih0 _ _ _ _ _
   | exact ih1 _ _ _ _ _ _ _ _
   | exact LeO.none _
   | refine LeO.ite ?_ ?_
   | refine LeO.bind ?_ (fun _ => ?_)
theorem impl_balancesAt.mono : ∀ a0 a1 a2 k, LeO (impl_balancesAt.f k a0 a1 a2) (impl_balancesAt.f (k + 1) a0 a1 a2) := by
 intro a0 a1 a2 k
 obtain ⟨ih0, ih1⟩ := impl_balancesAt.mono_l k
 unfold impl_balancesAt.f
 repeat' first
  | (with_reducible exact ih0 _ _ _ _ _)
  | (with_reducible exact ih1 _ _ _ _ _ _ _ _)
  | (with_reducible exact LeO.refl _)
  | (with_reducible exact LeO.none _)
  | (with_reducible refine LeO.ite ?_ ?_)
  | (with_reducible refine LeO.bind ?_ (fun _ => ?_))
  | exact ih0 _ _ _ _ _
  | exact ih1 _ _ _ _ _ _ _ _
  | exact LeO.none _
  | refine LeO.ite ?_ ?_
  | refine LeO.bind ?_ (fun _ => ?_)
def impl_balancesAt.T9 : Bool × List (List Nat × List Nat) := (true, [([], []), ([], []), ([1], [1]), ([0, 2], [0, 2]), ([3], [3]), ([], []), ([5], [5]), ([4, 6], [4, 6]), ([0, 2, 0, 1, 2, 3, 4, 5, 6, 7], [0, 2]), ([8, 7, 0, 1, 2, 3, 4, 5, 6, 7], [7, 8])])
def impl_balancesAt.B9 : List Nat := [0, 0, 2, 7, 15, 0, 32, 127, 255, 511]
theorem impl_balancesAt.tab9 : rtab .any (opsOf Tryd.f69 9) = impl_balancesAt.T9 := by kernel_rfl
theorem impl_balancesAt.bits9 : waitsOk impl_balancesAt.T9.2 impl_balancesAt.B9 = true := by kernel_rfl
set_option maxHeartbeats 8000000 in
set_option maxRecDepth 100000 in
theorem impl_balancesAt.calls (k : Nat) (A0_0 : Option Addr) (c0_0 : Nat) (l0_0 : List (S48)) (A0_1 : Option Addr) (c0_1 : Nat) (l0_1 : List (S63)) (a1 : Int) (r : List Int) (w : World) (hr0_0 : Kd.C k48 w A0_0 l0_0.length l0_0) (hc0_0 : l0_0.length ≤ c0_0) (hr0_1 : Kd.C k63 w A0_1 l0_1.length l0_1) (hc0_1 : l0_1.length ≤ c0_1) (h : impl_balancesAt.f k l0_0 l0_1 a1 = some r) :
 Calls Tryd.prog 69 #[.agg #[.slice A0_0 l0_0.length c0_0, .slice A0_1 l0_1.length c0_1], .int .i64 a1] w fun e w' => ∃ v0_ : Value, e = .returned (v0_) ∧ Kd.R (Kd.int .i64) 3 w' w.heap.size (fun _ => True) v0_ r ∧ Below w.heap.size w w' := by
 have hu31 := Tryd.underlying31
 have hu63 := Tryd.underlying63
 have hu70 := Tryd.underlying70
 have HR0_0 := Aside0.mk hr0_0
 have HC0_0 := Aside0.mk hc0_0
 clear hr0_0 hc0_0
 have HR0_1 := Aside0.mk hr0_1
 have HC0_1 := Aside0.mk hc0_1
 clear hr0_1 hc0_1
 have HB := Aside0.mk (Below.refl w.heap.size w)
 have H := h
 clear h
 unfold impl_balancesAt.f at H
 obtain ⟨c3, H⟩ := ifY H
 have c3b0 := eq_true c3
 have c3b1 := decide_eq_true c3
 clear c3
 obtain ⟨c4, H⟩ := ifY H
 have c4b0 := eq_true c4
 have c4b1 := decide_eq_true c4
 clear c4
 obtain ⟨y227, hy227⟩ : ∃ y_ : List Int, y_ = (List.replicate ((l0_0.length : Int) : Int).toNat 0) := ⟨_, rfl⟩
 replace H : (impl_balancesAt.l0 k a1 y227 l0_1 (l0_1.length : Int) 0) = some r := by first | (rw [hy227]; with_reducible exact H) | (have H2_ := (Option.bind_some _ _).symm.trans H; rw [hy227]; with_reducible exact H2_) | (have H2_ := (Option.bind_some _ _).symm.trans H; with_reducible exact H2_) | with_reducible exact H | (rw [hy227]; exact H) | exact H
 have Ny227 := Aside0.mk hy227
 clear hy227
 have H' := Aside0.mk H
 clear H
 go_enter Tryd.func69, Tryd.ntmps69
 go_wp2_with (first | ((with_reducible refine gate_dst (N := 2) rfl ?_); refine box_event ?hg (N := 2) ?hd (cs := #[.slice A0_0 l0_0.length c0_0, .slice A0_1 l0_1.length c0_1]) (t := 31) ?hr ?_; (case hd => rfl); (case hg => rfl); (case hr => first | (go_simp; done) | (go_simp; rfl)); intro gb226 hg w5 hbox hb; have BK226 := Aside0.mk (hbox); have GW226 := Aside0.mk ((by rw [hg]; exact (below_size ZZ605003) : w.heap.size ≤ gb226)); have GE226 := Aside0.mk ((by rw [hg]; exact (below_size ZZ605003) : w.heap.size ≤ gb226)); replace HB := Aside0.mk (below_step ZZ605003 hb); clear hb hbox hg; have hcz6_0 : w5.cell? ⟨gb226, 0, none⟩ = some (.slice A0_0 l0_0.length c0_0) := (blk_cell BK226.out 0).trans rfl; have hcz6_1 : w5.cell? ⟨gb226, 1, none⟩ = some (.slice A0_1 l0_1.length c0_1) := (blk_cell BK226.out 1).trans rfl; have hfz6_0 := blk_frozen BK226.out 0; have hfz6_1 := blk_frozen BK226.out 1) | ((with_reducible refine gate_dst (N := 13) rfl ?_); refine Kd.R_make (Kd.int .i64) _ 3 rfl (N := 13) rfl 44 _ _ rfl (l0_0.length : Int) rfl rfl Tryd.underlying44 (.int .i64 0) 8 info3 rfl (by decide) (by omega) 0 (ok := fun _ => True) (okp := fun _ => True) rfl (fun _ hk => hk) trivial (of_decide_eq_true ZZ853400) (Nat.le_trans (Nat.mul_le_mul_right _ (of_decide_eq_true ZZ853400 : (l0_0.length : Int).toNat ≤ 35184372088832)) (by omega)) (Below.refl _ _) (Nat.le_refl _) ?_; intro v228 w7 ho8 hb hg_ hnew_; clear hg_ hnew_; (first | rw [← Ny227.out] at ho8 | (simp only [Int.reduceToNat] at ho8; rw [← Ny227.out] at ho8)); have HO229 := Aside0.mk (Kd.R_lower ho8 (below_size ZZ295621)); replace BK226 := Aside0.mk (blk_below (zB BK226) hb); replace HB := Aside0.mk (below_step ZZ295621 hb); clear hb ho8; have hcz9_0 : w7.cell? ⟨gb226, 0, none⟩ = some (.slice A0_0 l0_0.length c0_0) := (blk_cell BK226.out 0).trans rfl; have hcz9_1 : w7.cell? ⟨gb226, 1, none⟩ = some (.slice A0_1 l0_1.length c0_1) := (blk_cell BK226.out 1).trans rfl; have hfz9_0 := blk_frozen BK226.out 0; have hfz9_1 := blk_frozen BK226.out 1))
 go_loopg [17] k (fun kq v17 w' => ∃ (x5_1 : List Int) (x17_1 : Int), v17 = .int .i64 x17_1 ∧ Aside0 (impl_balancesAt.l0 kq a1 x5_1 l0_1 (l0_1.length : Int) x17_1 = some r) ∧ Aside0 (kq ≤ k) ∧ Aside0 (Kd.R (Kd.int .i64) 3 w' w.heap.size (fun _ => True) v228 x5_1) ∧ Aside0 (w'.heap[gb226]? = some (.cells #[(.slice A0_0 l0_0.length c0_0), (.slice A0_1 l0_1.length c0_1)] 31 (0, 0))) ∧ Aside0 (Below w.heap.size w w'))
 case atStart => exact ⟨(y227), (0), ZZ0ab324, H', ⟨Nat.le_refl _⟩, ⟨(zR HO229)⟩, ⟨(zB BK226)⟩, ⟨ZZ295621⟩⟩
 case round =>
  clear H'
  try clear c3b0
  try clear c3b1
  try clear c4b0
  try clear c4b1
  try clear hcz6_0
  try clear hcz6_1
  try clear hcz9_0
  try clear hcz9_1
  try clear hfz6_0
  try clear hfz6_1
  try clear hfz9_0
  try clear hfz9_1
  obtain ⟨x5_1, x17_1, rfl, HA, HK1, HO_5, BK226, HB⟩ := hrel
  cases gk with
  | zero => exact absurd HA.out (by simp [impl_balancesAt.l0])
  | succ k1 =>
   have H := HA.out
   clear HA
   simp only [impl_balancesAt.l0] at H
   by_cases c10 : x17_1 < (l0_1.length : Int)
   ·rw [if_pos c10] at H
    have c10b0 := decide_eq_true c10
    clear c10
    obtain ⟨c11, H⟩ := ifY H
    have c11b0 := decide_eq_true c11
    clear c11
    obtain ⟨c12, H⟩ := ifY H
    have c12b0 := decide_eq_true c12
    clear c12
    by_cases c13 : ((rd_T63 l0_1 x17_1).f0) > a1
    ·rw [if_pos c13] at H
     have c13b0 : decide (a1 < ((rd_T63 l0_1 x17_1).f0)) = true := decide_eq_true c13
     clear c13
     obtain rfl := Option.some.inj H
     have p230 : 0 ≤ (x17_1 : Int) := of_decide_eq_true ZZ853400
     have q230 : x17_1 < (l0_1.length : Int) := of_decide_eq_true ZZ853400
     obtain ⟨ad230, A230_2, c230_2, e230, hx230_0, hx230_1, hx230_2, hl230_2, hi230_2⟩ := at_T63 HR0_1.out x17_1 p230 q230
     cases e230
     replace hx230_0 := (HB.out.cell (World.block_lt_of_cell? w _ hx230_0)).trans hx230_0
     replace hx230_1 := (HB.out.cell (World.block_lt_of_cell? w _ hx230_1)).trans hx230_1
     replace hx230_2 := (HB.out.cell (World.block_lt_of_cell? w _ hx230_2)).trans hx230_2
     have HR230_2 := Aside0.mk hi230_2
     have HC230_2 := Aside0.mk hl230_2
     clear hi230_2 hl230_2
     replace p230 := eq_true p230
     replace q230 := eq_true q230
     go_wp2_with (first | ((with_reducible refine gate_dst (N := 7) rfl ?_); refine box_event ?hg (N := 7) ?hd (cs := #[.int .i64 0, .string (⟨#[]⟩ : ByteArray), .slice none 0 0]) (t := 63) ?hr ?_; (case hd => rfl); (case hg => rfl); (case hr => first | (go_simp; done) | (go_simp; rfl)); intro gb231 hg w14 hbox hb; replace HO_5 := Aside0.mk (Kd.R_below (zR HO_5) hb); have BK231 := Aside0.mk (hbox); have GW231 := Aside0.mk ((by rw [hg]; exact (below_size ZZ295621) : w.heap.size ≤ gb231)); have GE231 := Aside0.mk ((by rw [hg]; exact (below_size ZZ295621) : w.heap.size ≤ gb231)); replace HB := Aside0.mk (below_step ZZ295621 hb); have NB226_231 := Aside0.mk ((by rw [hg]; exact Nat.ne_of_lt (blk_lt (zB BK226)) : gb226 ≠ gb231)); have NB231_226 := Aside0.mk ((by rw [hg]; exact Nat.ne_of_gt (blk_lt (zB BK226)) : gb231 ≠ gb226)); replace BK226 := Aside0.mk (blk_below (zB BK226) hb); clear hb hbox hg; have hnb15 := NB231_226.out; have hnc15 := NB226_231.out; have hcz16_0 : w14.cell? ⟨gb231, 0, none⟩ = some (.int .i64 0) := (blk_cell BK231.out 0).trans rfl; have hcz16_1 : w14.cell? ⟨gb231, 1, none⟩ = some (.string (⟨#[]⟩ : ByteArray)) := (blk_cell BK231.out 1).trans rfl; have hcz16_2 : w14.cell? ⟨gb231, 2, none⟩ = some (.slice none 0 0) := (blk_cell BK231.out 2).trans rfl; have hfz16_0 := blk_frozen BK231.out 0; have hfz16_1 := blk_frozen BK231.out 1; have hfz16_2 := blk_frozen BK231.out 2))
     go_ret
     exact ⟨_, ZZab01d2, (by (with_reducible repeat (first | apply Kd.R_alloc | apply Kd.R_drewN | apply Kd.R_drew)); exact Kd.R_mono (Kd.R_far (p := ⟨gb231, 2, none⟩) (Kd.R_far (p := ⟨gb231, 1, none⟩) (Kd.R_far (p := ⟨gb231, 0, none⟩) (Kd.R_types HO_5.out BK231.out (by decide)) (fun _ hk => hk.2) (.int .i64 ((rd_T63 l0_1 x17_1).f0))) (fun _ hk => hk.2) (.string ((rd_T63 l0_1 x17_1).f1))) (fun _ hk => hk.2) (.slice A230_2 ((rd_T63 l0_1 x17_1).f2).length c230_2)) (fun _ hk => trivial)), ZZ295621⟩
    rw [if_neg c13] at H
    have c13b0 : decide (a1 < ((rd_T63 l0_1 x17_1).f0)) = false := decide_eq_false c13
    clear c13
    have H' := Aside0.mk H
    clear H
    have p230 : 0 ≤ (x17_1 : Int) := of_decide_eq_true ZZ853400
    have q230 : x17_1 < (l0_1.length : Int) := of_decide_eq_true ZZ853400
    obtain ⟨ad230, A230_2, c230_2, e230, hx230_0, hx230_1, hx230_2, hl230_2, hi230_2⟩ := at_T63 HR0_1.out x17_1 p230 q230
    cases e230
    replace hx230_0 := (HB.out.cell (World.block_lt_of_cell? w _ hx230_0)).trans hx230_0
    replace hx230_1 := (HB.out.cell (World.block_lt_of_cell? w _ hx230_1)).trans hx230_1
    replace hx230_2 := (HB.out.cell (World.block_lt_of_cell? w _ hx230_2)).trans hx230_2
    have HR230_2 := Aside0.mk hi230_2
    have HC230_2 := Aside0.mk hl230_2
    clear hi230_2 hl230_2
    replace p230 := eq_true p230
    replace q230 := eq_true q230
    go_wp2_with (first | ((with_reducible refine gate_dst (N := 7) rfl ?_); refine box_event ?hg (N := 7) ?hd (cs := #[.int .i64 0, .string (⟨#[]⟩ : ByteArray), .slice none 0 0]) (t := 63) ?hr ?_; (case hd => rfl); (case hg => rfl); (case hr => first | (go_simp; done) | (go_simp; rfl)); intro gb231 hg w17 hbox hb; replace HO_5 := Aside0.mk (Kd.R_below (zR HO_5) hb); have BK231 := Aside0.mk (hbox); have GW231 := Aside0.mk ((by rw [hg]; exact (below_size ZZ295621) : w.heap.size ≤ gb231)); have GE231 := Aside0.mk ((by rw [hg]; exact (below_size ZZ295621) : w.heap.size ≤ gb231)); replace HB := Aside0.mk (below_step ZZ295621 hb); have NB226_231 := Aside0.mk ((by rw [hg]; exact Nat.ne_of_lt (blk_lt (zB BK226)) : gb226 ≠ gb231)); have NB231_226 := Aside0.mk ((by rw [hg]; exact Nat.ne_of_gt (blk_lt (zB BK226)) : gb231 ≠ gb226)); replace BK226 := Aside0.mk (blk_below (zB BK226) hb); clear hb hbox hg; have hnb18 := NB231_226.out; have hnc18 := NB226_231.out; have hcz19_0 : w17.cell? ⟨gb231, 0, none⟩ = some (.int .i64 0) := (blk_cell BK231.out 0).trans rfl; have hcz19_1 : w17.cell? ⟨gb231, 1, none⟩ = some (.string (⟨#[]⟩ : ByteArray)) := (blk_cell BK231.out 1).trans rfl; have hcz19_2 : w17.cell? ⟨gb231, 2, none⟩ = some (.slice none 0 0) := (blk_cell BK231.out 2).trans rfl; have hfz19_0 := blk_frozen BK231.out 0; have hfz19_1 := blk_frozen BK231.out 1; have hfz19_2 := blk_frozen BK231.out 2))
    go_loopg [28] k1 (fun kq v28 w' => ∃ (x5_2 : List Int) (x28_2 : Int), v28 = .int .i64 x28_2 ∧ Aside0 (impl_balancesAt.l1 kq a1 x5_2 l0_1 (l0_1.length : Int) x17_1 ((rd_T63 l0_1 x17_1).f2) (((rd_T63 l0_1 x17_1).f2).length : Int) x28_2 = some r) ∧ Aside0 (kq ≤ k1) ∧ Aside0 (Kd.R (Kd.int .i64) 3 w' w.heap.size (fun _ => True) v228 x5_2) ∧ Aside0 (w'.heap[gb226]? = some (.cells #[(.slice A0_0 l0_0.length c0_0), (.slice (some ad230) l0_1.length c0_1)] 31 (0, 0))) ∧ Aside0 (w'.heap[gb231]? = some (.cells #[.int .i64 ((rd_T63 l0_1 x17_1).f0), .string ((rd_T63 l0_1 x17_1).f1), (.slice A230_2 ((rd_T63 l0_1 x17_1).f2).length c230_2)] 63 (0, 0))) ∧ Aside0 (Below w.heap.size w w'))
    case atStart => exact ⟨(x5_1), (0), ZZ0ab324, H', ⟨Nat.le_refl _⟩, ⟨(by (with_reducible repeat (first | apply Kd.R_alloc | apply Kd.R_drewN | apply Kd.R_drew)); exact Kd.R_mono (Kd.R_far (p := ⟨gb231, 2, none⟩) (Kd.R_far (p := ⟨gb231, 1, none⟩) (Kd.R_far (p := ⟨gb231, 0, none⟩) (Kd.R_types HO_5.out BK231.out (by decide)) (fun _ hk => hk.2) (.int .i64 ((rd_T63 l0_1 x17_1).f0))) (fun _ hk => hk.2) (.string ((rd_T63 l0_1 x17_1).f1))) (fun _ hk => hk.2) (.slice A230_2 ((rd_T63 l0_1 x17_1).f2).length c230_2)) (fun _ hk => trivial))⟩, ⟨(by (with_reducible repeat (first | refine blk_drewN ?_ _ | refine blk_drew ?_ | refine blk_alloc ?_ _)); refine blk_far ?_ NB226_231.out _; (with_reducible repeat (first | refine blk_drewN ?_ _ | refine blk_drew ?_ | refine blk_alloc ?_ _)); refine blk_far ?_ NB226_231.out _; (with_reducible repeat (first | refine blk_drewN ?_ _ | refine blk_drew ?_ | refine blk_alloc ?_ _)); refine blk_far ?_ NB226_231.out _; (with_reducible repeat (first | refine blk_drewN ?_ _ | refine blk_drew ?_ | refine blk_alloc ?_ _)); exact BK226.out)⟩, ⟨(by (with_reducible repeat (first | refine blk_drewN ?_ _ | refine blk_drew ?_ | refine blk_alloc ?_ _)); refine blk_put (cs := #[.int .i64 ((rd_T63 l0_1 x17_1).f0), .string ((rd_T63 l0_1 x17_1).f1), .slice none 0 0]) ?_ 2 _ rfl; (with_reducible repeat (first | refine blk_drewN ?_ _ | refine blk_drew ?_ | refine blk_alloc ?_ _)); refine blk_put (cs := #[.int .i64 ((rd_T63 l0_1 x17_1).f0), .string (⟨#[]⟩ : ByteArray), .slice none 0 0]) ?_ 1 _ rfl; (with_reducible repeat (first | refine blk_drewN ?_ _ | refine blk_drew ?_ | refine blk_alloc ?_ _)); refine blk_put (cs := #[.int .i64 0, .string (⟨#[]⟩ : ByteArray), .slice none 0 0]) ?_ 0 _ rfl; (with_reducible repeat (first | refine blk_drewN ?_ _ | refine blk_drew ?_ | refine blk_alloc ?_ _)); exact BK231.out)⟩, ⟨ZZ295621⟩⟩
    case round =>
     clear H'
     try clear c10b0
     try clear c11b0
     try clear c12b0
     try clear c13b0
     try clear hcz16_0
     try clear hcz16_1
     try clear hcz16_2
     try clear hcz19_0
     try clear hcz19_1
     try clear hcz19_2
     try clear hfz16_0
     try clear hfz16_1
     try clear hfz16_2
     try clear hfz19_0
     try clear hfz19_1
     try clear hfz19_2
     try clear hx230_0
     try clear hx230_1
     try clear hx230_2
     try clear p230
     try clear q230
     obtain ⟨x5_2, x28_2, rfl, HA, HK2, HO_5, BK226, BK231, HB⟩ := hrel
     cases gk with
     | zero => exact absurd HA.out (by simp [impl_balancesAt.l1])
     | succ k2 =>
      have H := HA.out
      clear HA
      simp only [impl_balancesAt.l1] at H
      by_cases c20 : x28_2 < (((rd_T63 l0_1 x17_1).f2).length : Int)
      ·rw [if_pos c20] at H
       have c20b0 := decide_eq_true c20
       clear c20
       obtain ⟨c21, H⟩ := ifY H
       have c21b0 := decide_eq_true c21
       clear c21
       obtain ⟨c22, H⟩ := ifY H
       have c22b0 := decide_eq_true c22
       clear c22
       obtain ⟨c23, H⟩ := ifY H
       have c23b0 := decide_eq_true c23
       clear c23
       obtain ⟨c24, H⟩ := ifY H
       have c24b0 := decide_eq_true c24
       clear c24
       obtain ⟨y235, hy235⟩ : ∃ y_ : List Int, y_ = (x5_2.set (((rd_T70 ((rd_T63 l0_1 x17_1).f2) x28_2).f0) : Int).toNat (wrap64 ((rd x5_2 ((rd_T70 ((rd_T63 l0_1 x17_1).f2) x28_2).f0)) + ((rd_T70 ((rd_T63 l0_1 x17_1).f2) x28_2).f1)))) := ⟨_, rfl⟩
       replace H : (impl_balancesAt.l1 k2 a1 y235 l0_1 (l0_1.length : Int) x17_1 ((rd_T63 l0_1 x17_1).f2) (((rd_T63 l0_1 x17_1).f2).length : Int) (wrap64 (x28_2 + 1))) = some r := by first | (rw [hy235]; with_reducible exact H) | (have H2_ := (Option.bind_some _ _).symm.trans H; rw [hy235]; with_reducible exact H2_) | (have H2_ := (Option.bind_some _ _).symm.trans H; with_reducible exact H2_) | with_reducible exact H | (rw [hy235]; exact H) | exact H
       have Ny235 := Aside0.mk hy235
       clear hy235
       have H' := Aside0.mk H
       clear H
       have p232 : 0 ≤ (x28_2 : Int) := of_decide_eq_true ZZ853400
       have q232 : x28_2 < (((rd_T63 l0_1 x17_1).f2).length : Int) := of_decide_eq_true ZZ853400
       obtain ⟨ad232, e232, hx232_0, hx232_1⟩ := at_T70 HR230_2.out x28_2 p232 q232
       cases e232
       replace hx232_0 := (HB.out.cell (World.block_lt_of_cell? w _ hx232_0)).trans hx232_0
       replace hx232_1 := (HB.out.cell (World.block_lt_of_cell? w _ hx232_1)).trans hx232_1
       replace p232 := eq_true p232
       replace q232 := eq_true q232
       try go_wp2_with (first | ((with_reducible refine gate_dst (N := 9) rfl ?_); refine box_event ?hg (N := 9) ?hd (cs := #[.int .i64 0, .int .i64 0]) (t := 70) ?hr ?_; (case hd => rfl); (case hg => rfl); (case hr => first | (go_simp; done) | (go_simp; rfl)); intro gb233 hg w26 hbox hb; replace HO_5 := Aside0.mk (Kd.R_below (zR HO_5) hb); have BK233 := Aside0.mk (hbox); have GW233 := Aside0.mk ((by rw [hg]; exact (below_size ZZ295621) : w.heap.size ≤ gb233)); have GE233 := Aside0.mk ((by rw [hg]; exact (below_size ZZ295621) : w.heap.size ≤ gb233)); replace HB := Aside0.mk (below_step ZZ295621 hb); have NB226_233 := Aside0.mk ((by rw [hg]; exact Nat.ne_of_lt (blk_lt (zB BK226)) : gb226 ≠ gb233)); have NB233_226 := Aside0.mk ((by rw [hg]; exact Nat.ne_of_gt (blk_lt (zB BK226)) : gb233 ≠ gb226)); replace BK226 := Aside0.mk (blk_below (zB BK226) hb); have NB231_233 := Aside0.mk ((by rw [hg]; exact Nat.ne_of_lt (blk_lt (zB BK231)) : gb231 ≠ gb233)); have NB233_231 := Aside0.mk ((by rw [hg]; exact Nat.ne_of_gt (blk_lt (zB BK231)) : gb233 ≠ gb231)); replace BK231 := Aside0.mk (blk_below (zB BK231) hb); clear hb hbox hg; have hnb27 := NB233_226.out; have hnc27 := NB226_233.out; have hnb28 := NB233_231.out; have hnc28 := NB231_233.out; have hcz29_0 : w26.cell? ⟨gb233, 0, none⟩ = some (.int .i64 0) := (blk_cell BK233.out 0).trans rfl; have hcz29_1 : w26.cell? ⟨gb233, 1, none⟩ = some (.int .i64 0) := (blk_cell BK233.out 1).trans rfl; have hfz29_0 := blk_frozen BK233.out 0; have hfz29_1 := blk_frozen BK233.out 1))
       have n0_ : Aside0 (Kd.R (Kd.int .i64) 3 ((w26.setCell ⟨gb233, 0, none⟩ (.int .i64 ((rd_T70 ((rd_T63 l0_1 x17_1).f2) x28_2).f0))).setCell ⟨gb233, 1, none⟩ (.int .i64 ((rd_T70 ((rd_T63 l0_1 x17_1).f2) x28_2).f1))) w.heap.size (fun _ => True) v228 x5_2) := ⟨(by (with_reducible repeat (first | apply Kd.R_alloc | apply Kd.R_drewN | apply Kd.R_drew)); exact Kd.R_mono (Kd.R_far (p := ⟨gb233, 1, none⟩) (Kd.R_far (p := ⟨gb233, 0, none⟩) (Kd.R_types HO_5.out BK233.out (by decide)) (fun _ hk => hk.2) (.int .i64 ((rd_T70 ((rd_T63 l0_1 x17_1).f2) x28_2).f0))) (fun _ hk => hk.2) (.int .i64 ((rd_T70 ((rd_T63 l0_1 x17_1).f2) x28_2).f1))) (fun _ hk => trivial))⟩
       have n1_ : Aside0 (((w26.setCell ⟨gb233, 0, none⟩ (.int .i64 ((rd_T70 ((rd_T63 l0_1 x17_1).f2) x28_2).f0))).setCell ⟨gb233, 1, none⟩ (.int .i64 ((rd_T70 ((rd_T63 l0_1 x17_1).f2) x28_2).f1))).heap[gb226]? = some (.cells #[.slice A0_0 l0_0.length c0_0, .slice (some ad230) l0_1.length c0_1] 31 (0, 0))) := ⟨(by (with_reducible repeat (first | refine blk_drewN ?_ _ | refine blk_drew ?_ | refine blk_alloc ?_ _)); refine blk_far ?_ NB226_233.out _; (with_reducible repeat (first | refine blk_drewN ?_ _ | refine blk_drew ?_ | refine blk_alloc ?_ _)); refine blk_far ?_ NB226_233.out _; (with_reducible repeat (first | refine blk_drewN ?_ _ | refine blk_drew ?_ | refine blk_alloc ?_ _)); exact BK226.out)⟩
       have n2_ : Aside0 (((w26.setCell ⟨gb233, 0, none⟩ (.int .i64 ((rd_T70 ((rd_T63 l0_1 x17_1).f2) x28_2).f0))).setCell ⟨gb233, 1, none⟩ (.int .i64 ((rd_T70 ((rd_T63 l0_1 x17_1).f2) x28_2).f1))).heap[gb231]? = some (.cells #[.int .i64 ((rd_T63 l0_1 x17_1).f0), .string ((rd_T63 l0_1 x17_1).f1), .slice (some ad232) ((rd_T63 l0_1 x17_1).f2).length c230_2] 63 (0, 0))) := ⟨(by (with_reducible repeat (first | refine blk_drewN ?_ _ | refine blk_drew ?_ | refine blk_alloc ?_ _)); refine blk_far ?_ NB231_233.out _; (with_reducible repeat (first | refine blk_drewN ?_ _ | refine blk_drew ?_ | refine blk_alloc ?_ _)); refine blk_far ?_ NB231_233.out _; (with_reducible repeat (first | refine blk_drewN ?_ _ | refine blk_drew ?_ | refine blk_alloc ?_ _)); exact BK231.out)⟩
       have n3_ : Aside0 (((w26.setCell ⟨gb233, 0, none⟩ (.int .i64 ((rd_T70 ((rd_T63 l0_1 x17_1).f2) x28_2).f0))).setCell ⟨gb233, 1, none⟩ (.int .i64 ((rd_T70 ((rd_T63 l0_1 x17_1).f2) x28_2).f1))).heap[gb233]? = some (.cells #[.int .i64 ((rd_T70 ((rd_T63 l0_1 x17_1).f2) x28_2).f0), .int .i64 ((rd_T70 ((rd_T63 l0_1 x17_1).f2) x28_2).f1)] 70 (0, 0))) := ⟨(by (with_reducible repeat (first | refine blk_drewN ?_ _ | refine blk_drew ?_ | refine blk_alloc ?_ _)); refine blk_put (cs := #[.int .i64 ((rd_T70 ((rd_T63 l0_1 x17_1).f2) x28_2).f0), .int .i64 0]) ?_ 1 _ rfl; (with_reducible repeat (first | refine blk_drewN ?_ _ | refine blk_drew ?_ | refine blk_alloc ?_ _)); refine blk_put (cs := #[.int .i64 0, .int .i64 0]) ?_ 0 _ rfl; (with_reducible repeat (first | refine blk_drewN ?_ _ | refine blk_drew ?_ | refine blk_alloc ?_ _)); exact BK233.out)⟩
       have n4_ : Aside0 (Below w.heap.size w ((w26.setCell ⟨gb233, 0, none⟩ (.int .i64 ((rd_T70 ((rd_T63 l0_1 x17_1).f2) x28_2).f0))).setCell ⟨gb233, 1, none⟩ (.int .i64 ((rd_T70 ((rd_T63 l0_1 x17_1).f2) x28_2).f1)))) := ⟨ZZ295621⟩
       (try clear HO_5)
       (try clear BK226)
       (try clear BK231)
       (try clear BK233)
       (try clear HB)
       generalize ((w26.setCell ⟨gb233, 0, none⟩ (.int .i64 ((rd_T70 ((rd_T63 l0_1 x17_1).f2) x28_2).f0))).setCell ⟨gb233, 1, none⟩ (.int .i64 ((rd_T70 ((rd_T63 l0_1 x17_1).f2) x28_2).f1))) = w30 at n0_ n1_ n2_ n3_ n4_ ⊢
       have HO_5 := n0_
       have BK226 := n1_
       have BK231 := n2_
       have BK233 := n3_
       have HB := n4_
       clear n0_ n1_ n2_ n3_ n4_
       replace HO_5 := Aside0.mk (Kd.R_drew HO_5.out)
       replace BK226 := Aside0.mk (blk_drew BK226.out)
       replace BK231 := Aside0.mk (blk_drew BK231.out)
       replace BK233 := Aside0.mk (blk_drew BK233.out)
       replace HB := Aside0.mk (below_drew1 HB.out)
       obtain ⟨Ao32, co32, eo32⟩ := Kd.R_slice HO_5.out
       (first | subst eo32 | (injection eo32 with f1_ f2_ f3_; have f4_ := f1_.symm; have f5_ := f3_.symm; clear f1_ f2_ f3_; subst f4_; subst f5_))
       have p234 : 0 ≤ (((rd_T70 ((rd_T63 l0_1 x17_1).f2) x28_2).f0) : Int) := of_decide_eq_true ZZ853400
       have q234 : ((rd_T70 ((rd_T63 l0_1 x17_1).f2) x28_2).f0) < (x5_2.length : Int) := of_decide_eq_true ZZ853400
       obtain ⟨ad234, e234, hx234_0⟩ := Kd.at_int (Kd.R_reads' HO_5.out).2.2 ((rd_T70 ((rd_T63 l0_1 x17_1).f2) x28_2).f0) p234 q234
       cases e234
       replace p234 := eq_true p234
       replace q234 := eq_true q234
       have p25 : 0 ≤ (((rd_T70 ((rd_T63 l0_1 x17_1).f2) x28_2).f0) : Int) := of_decide_eq_true ZZ853400
       have q25 : (((rd_T70 ((rd_T63 l0_1 x17_1).f2) x28_2).f0) : Int) < ((x5_2.length : Int) : Int) := of_decide_eq_true ZZ853400
       obtain ⟨go25, co25, eo25, gb25, gl25, cl25, HG25⟩ := Kd.R_form HO_5.out (by omega)
       (first | cases eo25 | (injection eo25 with ea_ en_ ec_; (first | subst ea_ | (injection ea_ with ea_; subst ea_)); subst ec_; clear en_))
       have GB25 := Aside0.mk gb25
       have GG25 := Aside0.mk HG25
       clear gb25 gl25 HG25
       (first | simp only [add_plain] at hx234_0 | skip)
       obtain ⟨hx25_0, hf25_0⟩ := Kd.R_celln 0 HO_5.out (((rd_T70 ((rd_T63 l0_1 x17_1).f2) x28_2).f0) : Int) p25 q25
       replace p25 := eq_true p25
       replace q25 := eq_true q25
       have HP33 := Kd.R_putn HO_5.out (((rd_T70 ((rd_T63 l0_1 x17_1).f2) x28_2).f0) : Int) (wrap64 ((rd x5_2 ((rd_T70 ((rd_T63 l0_1 x17_1).f2) x28_2).f0)) + ((rd_T70 ((rd_T63 l0_1 x17_1).f2) x28_2).f1)))
       rw [← Ny235.out] at HP33
       have HQ33 := Aside0.mk HP33
       clear HP33
       refine start_ (n := 10) (S := fun w' => w'.cell? ⟨gb233, 0, none⟩ = some (.int .i64 ((rd_T70 ((rd_T63 l0_1 x17_1).f2) x28_2).f0)) ∧ w'.cell? ⟨gb233, 1, none⟩ = some (.int .i64 ((rd_T70 ((rd_T63 l0_1 x17_1).f2) x28_2).f1)) ∧ w'.cell? ⟨go25, (((rd_T70 ((rd_T63 l0_1 x17_1).f2) x28_2).f0)).toNat, none⟩ = some (.int .i64 (rd x5_2 ((rd_T70 ((rd_T63 l0_1 x17_1).f2) x28_2).f0)))) (ds := [9]) #[false, false, false, false, false, false, false, false, false, false] (by kernel_rfl) rfl rfl ⟨(blk_cell BK233.out 0).trans rfl, (blk_cell BK233.out 1).trans rfl, hx234_0⟩ (fun hHeld => ?_); refine with_tabW impl_balancesAt.tab9 impl_balancesAt.bits9 (fun HT_ HW_ => ?_)
       generalize w30.drew = w31 at HO_5 BK226 BK231 BK233 HB GG25 HQ33 hf25_0 hx234_0 hx25_0 hHeld ⊢
       refine pu 0 32 ?_
       refine pu 1 33 ?_
       refine pu 5 37 ?_
       refine tk 2 34 ?_
       refine pu 3 35 ?_
       refine tk 4 36 ?_
       refine tk 6 38 ?_
       refine pu 7 39 ?_
       refine pu 8 40 ?_
       refine last_ (i := 9) (N := none) #[true, true, true, true, true, true, true, true, true, true] rfl rfl (one_of HT_.out (by kernel_rfl)) (by decide) (fun K hK => ?_)
       refine skip_ (w1 := ?_) (by rfl) rfl ?_ ?_
       rotate_left
       ·go_simp
        rfl
       refine hK.out _ _ ?_
       clear hK K
       refine done_ (done_of HT_.out (by kernel_rfl)) ?_
       try go_wp2
       go_roundg k2
       case measure => have := HK1.out; have := HK2.out; omega
       case rel => exact ⟨(y235), (wrap64 (x28_2 + 1)), ZZ0ab324, H', ⟨(by have := HK1.out; have := HK2.out; omega)⟩, ⟨(by (with_reducible repeat (first | apply Kd.R_alloc | apply Kd.R_drewN | apply Kd.R_drew)); exact HQ33.out)⟩, ⟨(by (with_reducible repeat (first | refine blk_drewN ?_ _ | refine blk_drew ?_ | refine blk_alloc ?_ _)); refine blk_far ?_ (by have h_ := Kd.R_ne HO_5.out BK226.out (by decide); intro e_; exact h_ (by rw [e_]; rfl)) _; (with_reducible repeat (first | refine blk_drewN ?_ _ | refine blk_drew ?_ | refine blk_alloc ?_ _)); exact BK226.out)⟩, ⟨(by (with_reducible repeat (first | refine blk_drewN ?_ _ | refine blk_drew ?_ | refine blk_alloc ?_ _)); refine blk_far ?_ (by have h_ := Kd.R_ne HO_5.out BK231.out (by decide); intro e_; exact h_ (by rw [e_]; rfl)) _; (with_reducible repeat (first | refine blk_drewN ?_ _ | refine blk_drew ?_ | refine blk_alloc ?_ _)); exact BK231.out)⟩, ⟨(by repeat (first | (with_reducible first | exact HB.out | apply below_alloc | apply pw_below_drewN | apply below_drew1 | refine below_set ?_ GB25.out | refine below_set ?_ GE226.out | refine below_set ?_ GE231.out | refine below_set ?_ GE233.out) | exact HB.out))⟩⟩
      rw [if_neg c20] at H
      have c20b0 := decide_eq_false c20
      clear c20
      have H' := Aside0.mk H
      clear H
      go_wp2
      go_roundg k2
      case measure => have := HK1.out; have := HK2.out; omega
      case rel => exact ⟨(x5_2), (wrap64 (x17_1 + 1)), ZZ0ab324, H', ⟨(by have := HK1.out; have := HK2.out; omega)⟩, ⟨(zR HO_5)⟩, ⟨(zB BK226)⟩, ⟨ZZ295621⟩⟩
   rw [if_neg c10] at H
   have c10b0 := decide_eq_false c10
   clear c10
   obtain rfl := Option.some.inj H
   go_wp2
   go_ret
   exact ⟨_, ZZab01d2, (zR HO_5), ZZ295621⟩/-! ### impl_TrialBalance: function 27 -/
mutual
def impl_TrialBalance.j0 : Nat → Int → Bool → List (S48) → List (S63) → Option (List Int × Int × Bool)
 | 0, _, _, _, _ => none
 | k + 1, x1, x18, x237000, x237001 => if x18 = true then (some (([] : List Int), 0, false)) else ((impl_balancesAt.f k x237000 x237001 x1).bind fun t239 => (impl_TrialBalance.l0 k t239 0 t239 (t239.length : Int) 0))
def impl_TrialBalance.l0 : Nat → List Int → Int → List Int → Int → Int → Option (List Int × Int × Bool)
 | 0, _, _, _, _, _ => none
 | k + 1, x7, x8, x22, x23, x24 => if x24 < x23 then (if 0 ≤ x24 then (if x24 < (x22.length : Int) then (impl_TrialBalance.l0 k x7 (wrap64 (x8 + (mx 0 (rd x22 x24)))) x22 x23 (wrap64 (x24 + 1))) else (none)) else (none)) else (some (x7, x8, true))
end
def impl_TrialBalance.f (k : Nat) (l0_0 : List (S48)) (l0_1 : List (S63)) (a1 : Int) : Option (List Int × Int × Bool) := (impl_IsValidLedger.f k l0_0 l0_1).bind fun t237 => (if t237 = true then ((impl_isDay.f a1).bind fun t238 => (impl_TrialBalance.j0 k a1 (!t238) l0_0 l0_1)) else (impl_TrialBalance.j0 k a1 true l0_0 l0_1))
theorem impl_TrialBalance.mono_l : ∀ k, (∀ y0 y1 y2 y3, LeO (impl_TrialBalance.j0 k y0 y1 y2 y3) (impl_TrialBalance.j0 (k + 1) y0 y1 y2 y3)) ∧ (∀ y0 y1 y2 y3 y4, LeO (impl_TrialBalance.l0 k y0 y1 y2 y3 y4) (impl_TrialBalance.l0 (k + 1) y0 y1 y2 y3 y4))
 | 0 => ⟨fun _ _ _ _ r h => by simp [impl_TrialBalance.j0] at h, fun _ _ _ _ _ r h => by simp [impl_TrialBalance.l0] at h⟩
 | k + 1 => by
  obtain ⟨ih0, ih1⟩ := impl_TrialBalance.mono_l k
  refine ⟨?_, ?_⟩
  all_goals intros
  all_goals (first | unfold impl_TrialBalance.j0 | unfold impl_TrialBalance.l0)
  all_goals
   repeat' first
   | (with_reducible exact ih0 _ _ _ _)
   | (with_reducible exact ih1 _ _ _ _ _)
   | (with_reducible exact impl_IsValidLedger.mono _ _ _)
   | (with_reducible exact impl_balancesAt.mono _ _ _ _)
   | (with_reducible exact LeO.refl _)
   | (with_reducible exact LeO.none _)
   | (with_reducible refine LeO.ite ?_ ?_)
   | (with_reducible refine LeO.bind ?_ (fun _ => ?_))
   | exact ih0 _ _ _ _
   | exact ih1 _ _ _ _ _
   | exact impl_IsValidLedger.mono _ _ _
   | exact impl_balancesAt.mono _ _ _ _
   | exact LeO.none _
   | refine LeO.ite ?_ ?_
   | refine LeO.bind ?_ (fun _ => ?_)
theorem impl_TrialBalance.mono : ∀ a0 a1 a2 k, LeO (impl_TrialBalance.f k a0 a1 a2) (impl_TrialBalance.f (k + 1) a0 a1 a2) := by
 intro a0 a1 a2 k
 obtain ⟨ih0, ih1⟩ := impl_TrialBalance.mono_l k
 unfold impl_TrialBalance.f
 repeat' first
  | (with_reducible exact ih0 _ _ _ _)
  | (with_reducible exact ih1 _ _ _ _ _)
  | (with_reducible exact impl_IsValidLedger.mono _ _ _)
  | (with_reducible exact impl_balancesAt.mono _ _ _ _)
  | (with_reducible exact LeO.refl _)
  | (with_reducible exact LeO.none _)
  | (with_reducible refine LeO.ite ?_ ?_)
  | (with_reducible refine LeO.bind ?_ (fun _ => ?_))
  | exact ih0 _ _ _ _
  | exact ih1 _ _ _ _ _
  | exact impl_IsValidLedger.mono _ _ _
  | exact impl_balancesAt.mono _ _ _ _
  | exact LeO.none _
  | refine LeO.ite ?_ ?_
  | refine LeO.bind ?_ (fun _ => ?_)
set_option maxHeartbeats 8000000 in
set_option maxRecDepth 100000 in
theorem impl_TrialBalance.calls (k : Nat) (A0_0 : Option Addr) (c0_0 : Nat) (l0_0 : List (S48)) (A0_1 : Option Addr) (c0_1 : Nat) (l0_1 : List (S63)) (a1 : Int) (r1 : List Int) (r2 : Int) (r3 : Bool) (w : World) (hr0_0 : Kd.C k48 w A0_0 l0_0.length l0_0) (hc0_0 : l0_0.length ≤ c0_0) (hr0_1 : Kd.C k63 w A0_1 l0_1.length l0_1) (hc0_1 : l0_1.length ≤ c0_1) (h : impl_TrialBalance.f k l0_0 l0_1 a1 = some (r1, r2, r3)) :
 Calls Tryd.prog 27 #[.agg #[.slice A0_0 l0_0.length c0_0, .slice A0_1 l0_1.length c0_1], .int .i64 a1] w fun e w' => ∃ v0_ : Value, e = .returned (.tuple #[v0_, .int .i64 r2, .bool r3]) ∧ Kd.R (Kd.int .i64) 3 w' w.heap.size (fun _ => True) v0_ r1 ∧ Below w.heap.size w w' := by
 have hu31 := Tryd.underlying31
 have HR0_0 := Aside0.mk hr0_0
 have HC0_0 := Aside0.mk hc0_0
 clear hr0_0 hc0_0
 have HR0_1 := Aside0.mk hr0_1
 have HC0_1 := Aside0.mk hc0_1
 clear hr0_1 hc0_1
 have HB := Aside0.mk (Below.refl w.heap.size w)
 have H := h
 clear h
 unfold impl_TrialBalance.f at H
 have HC3 := Aside0.mk H
 clear H
 go_enter Tryd.func27, Tryd.ntmps27
 go_upto_region 1 with (first | ((with_reducible refine gate_dst (N := 2) rfl ?_); refine box_event ?hg (N := 2) ?hd (cs := #[.slice A0_0 l0_0.length c0_0, .slice A0_1 l0_1.length c0_1]) (t := 31) ?hr ?_; (case hd => rfl); (case hg => rfl); (case hr => first | (go_simp; done) | (go_simp; rfl)); intro gb236 hg w4 hbox hb; have BK236 := Aside0.mk (hbox); have GW236 := Aside0.mk ((by rw [hg]; exact (below_size ZZ605003) : w.heap.size ≤ gb236)); have GE236 := Aside0.mk ((by rw [hg]; exact (below_size ZZ605003) : w.heap.size ≤ gb236)); replace HB := Aside0.mk (below_step ZZ605003 hb); clear hb hbox hg))
 (try simp only [Act.put, List.setIfInBounds_toArray, List.set_cons_zero, List.set_cons_succ])
 go_cut [18] (fun v18 wc => ∃ (kq : Nat) (x18_2 : Bool), v18 = .bool x18_2 ∧ Aside0 (impl_TrialBalance.j0 kq a1 x18_2 l0_0 l0_1 = some (r1, r2, r3)) ∧ Aside0 (kq ≤ k) ∧ Aside0 (wc.heap[gb236]? = some (.cells #[(.slice A0_0 l0_0.length c0_0), (.slice A0_1 l0_1.length c0_1)] 31 (0, 0))) ∧ Aside0 (Below w.heap.size w wc))
 case first =>
  have H := HC3.out
  clear HC3
  obtain ⟨t237, A5, H⟩ := bdY H
  by_cases c6 : t237 = true
  ·subst c6
   have H1 : ((impl_isDay.f a1).bind fun t238 => (impl_TrialBalance.j0 k a1 (!t238) l0_0 l0_1)) = some (r1, r2, r3) := by rw [if_pos rfl] at H; exact H
   clear H
   have H := H1
   clear H1
   obtain ⟨t238, A7, H⟩ := bdY H
   have H' := Aside0.mk H
   clear H
   have hcz8_0 : w4.cell? ⟨gb236, 0, none⟩ = some (.slice A0_0 l0_0.length c0_0) := (blk_cell BK236.out 0).trans rfl
   have hcz8_1 : w4.cell? ⟨gb236, 1, none⟩ = some (.slice A0_1 l0_1.length c0_1) := (blk_cell BK236.out 1).trans rfl
   have hfz8_0 := blk_frozen BK236.out 0
   have hfz8_1 := blk_frozen BK236.out 1
   go_wp2_with (first | ((with_reducible refine gate_callee (f := 17) rfl ?_); refine goesL_ (some 12) rfl rfl Tryd.func17 (by kernel_rfl) rfl #[.agg #[.slice A0_0 l0_0.length c0_0, .slice A0_1 l0_1.length c0_1]] rfl ZZ19826e ?_; (with_reducible refine (impl_IsValidLedger.calls k _ _ l0_0 _ _ l0_1 true _ ?side1 ?side2 ?side3 ?side4 A5.out).mono ?_); (case side1 => exact ZZ5b25f1); (case side2 => exact HC0_0.out); (case side3 => exact ZZ8ff6b3); (case side4 => exact HC0_1.out); rintro e w9 ⟨rfl, hb⟩; refine ⟨_, rfl, ?_⟩; replace BK236 := Aside0.mk (blk_below (zB BK236) hb); replace HB := Aside0.mk (below_step ZZ295621 hb); (try clear hb); (try clear hb2); (try clear hk); (try clear hi)) | (go_at_call 59; (with_reducible refine (impl_isDay.calls a1 t238 _ A7.out).mono ?_); rintro e w' ⟨rfl, ⟨nd, rfl⟩⟩))
   go_meet
   case rel => exact ⟨_, (!t238), ZZ0ab324, H', ⟨ZZ81c739⟩, ⟨(zB BK236)⟩, ⟨ZZ295621⟩⟩
  replace c6 := Bool.eq_false_iff.mpr c6
  subst c6
  have H1 : (impl_TrialBalance.j0 k a1 true l0_0 l0_1) = some (r1, r2, r3) := by rw [if_neg (show ¬ (false = true) by decide)] at H; exact H
  clear H
  have H := H1
  clear H1
  have H' := Aside0.mk H
  clear H
  have hcz10_0 : w4.cell? ⟨gb236, 0, none⟩ = some (.slice A0_0 l0_0.length c0_0) := (blk_cell BK236.out 0).trans rfl
  have hcz10_1 : w4.cell? ⟨gb236, 1, none⟩ = some (.slice A0_1 l0_1.length c0_1) := (blk_cell BK236.out 1).trans rfl
  have hfz10_0 := blk_frozen BK236.out 0
  have hfz10_1 := blk_frozen BK236.out 1
  go_wp2_with (first | ((with_reducible refine gate_callee (f := 17) rfl ?_); refine goesL_ (some 12) rfl rfl Tryd.func17 (by kernel_rfl) rfl #[.agg #[.slice A0_0 l0_0.length c0_0, .slice A0_1 l0_1.length c0_1]] rfl ZZ19826e ?_; (with_reducible refine (impl_IsValidLedger.calls k _ _ l0_0 _ _ l0_1 false _ ?side1 ?side2 ?side3 ?side4 A5.out).mono ?_); (case side1 => exact ZZ5b25f1); (case side2 => exact HC0_0.out); (case side3 => exact ZZ8ff6b3); (case side4 => exact HC0_1.out); rintro e w11 ⟨rfl, hb⟩; refine ⟨_, rfl, ?_⟩; replace BK236 := Aside0.mk (blk_below (zB BK236) hb); replace HB := Aside0.mk (below_step ZZ295621 hb); (try clear hb); (try clear hb2); (try clear hk); (try clear hi)))
  go_meet
  case rel => exact ⟨_, (true), ZZ0ab324, H', ⟨ZZ81c739⟩, ⟨(zB BK236)⟩, ⟨ZZ295621⟩⟩
 case rest =>
  clear HC3
  try clear c6
  try clear hcz10_0
  try clear hcz10_1
  try clear hcz8_0
  try clear hcz8_1
  try clear hfz10_0
  try clear hfz10_1
  try clear hfz8_0
  try clear hfz8_1
  obtain ⟨kq, x18_2, rfl, HA, HJ2, BK236, HB⟩ := hcut
  cases kq with
  | zero => exact absurd HA.out (by simp [impl_TrialBalance.j0])
  | succ kj2 =>
   have H := HA.out
   clear HA
   simp only [impl_TrialBalance.j0] at H
   by_cases c12 : x18_2 = true
   ·subst c12
    have H1 : (some (([] : List Int), 0, false)) = some (r1, r2, r3) := by rw [if_pos rfl] at H; exact H
    clear H
    have H := H1
    clear H1
    simp only [Option.some.injEq, Prod.mk.injEq] at H
    obtain ⟨rfl, rfl, rfl⟩ := H
    go_wp2
    go_ret3
    exact ⟨_, ZZab01d2, (by first | exact Kd.R_nil _ _ _ _ _ | exact Kd.N_nil _ _ _ _ _ | exact Kd.V_nil _ _ _ _ _ | exact Kd.Q_nil _ _ _ _ _ | exact Kd.S_nil _ _ _ _ _), ZZ295621⟩
   replace c12 := Bool.eq_false_iff.mpr c12
   subst c12
   have H1 : ((impl_balancesAt.f kj2 l0_0 l0_1 a1).bind fun t239 => (impl_TrialBalance.l0 kj2 t239 0 t239 (t239.length : Int) 0)) = some (r1, r2, r3) := by rw [if_neg (show ¬ (false = true) by decide)] at H; exact H
   clear H
   have H := H1
   clear H1
   obtain ⟨t239, A13, H⟩ := bdY H
   have H' := Aside0.mk H
   clear H
   have hcz14_0 : wc.cell? ⟨gb236, 0, none⟩ = some (.slice A0_0 l0_0.length c0_0) := (blk_cell BK236.out 0).trans rfl
   have hcz14_1 : wc.cell? ⟨gb236, 1, none⟩ = some (.slice A0_1 l0_1.length c0_1) := (blk_cell BK236.out 1).trans rfl
   have hfz14_0 := blk_frozen BK236.out 0
   have hfz14_1 := blk_frozen BK236.out 1
   go_wp2_with (first | ((with_reducible refine gate_callee (f := 69) rfl ?_); refine goesL_ (some 21) rfl rfl Tryd.func69 (by kernel_rfl) rfl #[.agg #[.slice A0_0 l0_0.length c0_0, .slice A0_1 l0_1.length c0_1], .int .i64 a1] rfl ZZ19826e ?_; (with_reducible refine (impl_balancesAt.calls kj2 _ _ l0_0 _ _ l0_1 a1 t239 _ ?side1 ?side2 ?side3 ?side4 A13.out).mono ?_); (case side1 => exact ZZ5b25f1); (case side2 => exact HC0_0.out); (case side3 => exact ZZ8ff6b3); (case side4 => exact HC0_1.out); rintro e w15 ⟨v240, rfl, ho0, hb⟩; refine ⟨_, rfl, ?_⟩; have HO241 := Aside0.mk (Kd.R_lower ho0 (below_size ZZ295621)); replace BK236 := Aside0.mk (blk_below (zB BK236) hb); replace HB := Aside0.mk (below_step ZZ295621 hb); (try clear hb); (try clear hb2); (try clear hk); (try clear hi); (try clear ho0); obtain ⟨Ao16, co16, eo16⟩ := Kd.R_slice HO241.out; subst eo16))
   go_loopg [8, 24] kj2 (fun kq v8 v24 w' => ∃ (x8_2 : Int) (x24_2 : Int), v8 = .int .i64 x8_2 ∧ v24 = .int .i64 x24_2 ∧ Aside0 (impl_TrialBalance.l0 kq t239 x8_2 t239 (t239.length : Int) x24_2 = some (r1, r2, r3)) ∧ Aside0 (kq ≤ kj2) ∧ Aside0 (Kd.R (Kd.int .i64) 3 w' w.heap.size (fun _ => True) (.slice Ao16 t239.length co16) t239) ∧ Aside0 (Kd.R (Kd.int .i64) 3 w' w.heap.size (fun _ => True) (.slice Ao16 t239.length co16) t239) ∧ Aside0 (w'.heap[gb236]? = some (.cells #[(.slice A0_0 l0_0.length c0_0), (.slice A0_1 l0_1.length c0_1)] 31 (0, 0))) ∧ Aside0 (Below w.heap.size w w'))
   case atStart => exact ⟨(0), (0), ZZ0ab324, ZZ0ab324, H', ⟨Nat.le_refl _⟩, ⟨(zR HO241)⟩, ⟨(zR HO241)⟩, ⟨(zB BK236)⟩, ⟨ZZ295621⟩⟩
   case round =>
    clear H'
    try clear c12
    try clear hcz14_0
    try clear hcz14_1
    try clear hfz14_0
    try clear hfz14_1
    obtain ⟨x8_2, x24_2, rfl, rfl, HA, HK2, HO_7, HO_22, BK236, HB⟩ := hrel
    cases gk with
    | zero => exact absurd HA.out (by simp [impl_TrialBalance.l0])
    | succ k2 =>
     have H := HA.out
     clear HA
     simp only [impl_TrialBalance.l0] at H
     by_cases c17 : x24_2 < (t239.length : Int)
     ·rw [if_pos c17] at H
      have c17b0 := decide_eq_true c17
      clear c17
      obtain ⟨c18, H⟩ := ifY H
      have c18b0 := decide_eq_true c18
      clear c18
      obtain ⟨c19, H⟩ := ifY H
      have c19b0 := decide_eq_true c19
      clear c19
      obtain ⟨ji20, hji20⟩ : ∃ j_ : Int, (mx 0 (rd t239 x24_2)) = j_ := ⟨_, rfl⟩
      replace H : (impl_TrialBalance.l0 k2 t239 (wrap64 (x8_2 + (ji20))) t239 (t239.length : Int) (wrap64 (x24_2 + 1))) = some (r1, r2, r3) := by first | (rw [hji20] at H; exact H) | (simp only [hji20] at H ⊢; exact H)
      have hji20_ : (if 0 < (rd t239 x24_2) then (rd t239 x24_2) else 0) = ji20 := hji20
      have H' := Aside0.mk H
      clear H
      have p242 : 0 ≤ (x24_2 : Int) := of_decide_eq_true ZZ853400
      have q242 : x24_2 < (t239.length : Int) := of_decide_eq_true ZZ853400
      obtain ⟨ad242, e242, hx242_0⟩ := Kd.at_int (Kd.R_reads' HO_22.out).2.2 x24_2 p242 q242
      cases e242
      replace p242 := eq_true p242
      replace q242 := eq_true q242
      go_wp2
      go_roundg k2
      case measure => have := HJ2.out; have := HK2.out; omega
      case rel => exact ⟨(wrap64 (x8_2 + (ji20))), (wrap64 (x24_2 + 1)), (by first | rfl | (simp; done) | (simp only [← hji20] <;> (first | rfl | simp)) | (simp [*]; done)), ZZ0ab324, H', ⟨(by have := HJ2.out; have := HK2.out; omega)⟩, ⟨(zR HO_7)⟩, ⟨(zR HO_22)⟩, ⟨(zB BK236)⟩, ⟨ZZ295621⟩⟩
     rw [if_neg c17] at H
     have c17b0 := decide_eq_false c17
     clear c17
     simp only [Option.some.injEq, Prod.mk.injEq] at H
     obtain ⟨rfl, rfl, rfl⟩ := H
     go_wp2
     go_ret3
     exact ⟨_, ZZab01d2, (zR HO_7), ZZ295621⟩
/-! ### laws_eqIntS: function 30 -/
def laws_eqIntS.l0 : Nat → List Int → List Int → Int → Option (Bool)
 | 0, _, _, _ => none
 | k + 1, x0, x1, x5 => if x5 < (x0.length : Int) then (if 0 ≤ x5 then (if x5 < (x1.length : Int) then (if (rd x0 x5) = (rd x1 x5) then (laws_eqIntS.l0 k x0 x1 (wrap64 (x5 + 1))) else (some false)) else (none)) else (none)) else (some true)
def laws_eqIntS.f (k : Nat) (l0 : List Int) (l1 : List Int) : Option (Bool) := if (l0.length : Int) = (l1.length : Int) then (laws_eqIntS.l0 k l0 l1 0) else (some false)
theorem laws_eqIntS.mono_l : ∀ k, (∀ y0 y1 y2, LeO (laws_eqIntS.l0 k y0 y1 y2) (laws_eqIntS.l0 (k + 1) y0 y1 y2))
 | 0 => fun _ _ _ r h => by simp [laws_eqIntS.l0] at h
 | k + 1 => by
  have ih0 := laws_eqIntS.mono_l k
  ·intro y0 y1 y2
   unfold laws_eqIntS.l0
   repeat' first
   | (with_reducible exact ih0 _ _ _)
   | (with_reducible exact LeO.refl _)
   | (with_reducible exact LeO.none _)
   | (with_reducible refine LeO.ite ?_ ?_)
   | (with_reducible refine LeO.bind ?_ (fun _ => ?_))
   | exact ih0 _ _ _
   | exact LeO.none _
   | refine LeO.ite ?_ ?_
   | refine LeO.bind ?_ (fun _ => ?_)
theorem laws_eqIntS.mono : ∀ a0 a1 k, LeO (laws_eqIntS.f k a0 a1) (laws_eqIntS.f (k + 1) a0 a1) := by
 intro a0 a1 k
 have ih0 := laws_eqIntS.mono_l k
 unfold laws_eqIntS.f
 repeat' first
  | (with_reducible exact ih0 _ _ _)
  | (with_reducible exact LeO.refl _)
  | (with_reducible exact LeO.none _)
  | (with_reducible refine LeO.ite ?_ ?_)
  | (with_reducible refine LeO.bind ?_ (fun _ => ?_))
  | exact ih0 _ _ _
  | exact LeO.none _
  | refine LeO.ite ?_ ?_
  | refine LeO.bind ?_ (fun _ => ?_)
set_option maxHeartbeats 8000000 in
set_option maxRecDepth 100000 in
theorem laws_eqIntS.calls (k : Nat) (A0 : Option Addr) (c0 : Nat) (l0 : List Int) (A1 : Option Addr) (c1 : Nat) (l1 : List Int) (r : Bool) (w : World) (hr0 : Kd.C (Kd.int .i64) w A0 l0.length l0) (hc0 : l0.length ≤ c0) (hr1 : Kd.C (Kd.int .i64) w A1 l1.length l1) (hc1 : l1.length ≤ c1) (h : laws_eqIntS.f k l0 l1 = some r) :
 Calls Tryd.prog 30 #[.slice A0 l0.length c0, .slice A1 l1.length c1] w fun e w' => e = .returned (.bool r) ∧ Drawn0 w w' := by
 have HR0 := Aside0.mk hr0
 have HC0 := Aside0.mk hc0
 clear hr0 hc0
 have HR1 := Aside0.mk hr1
 have HC1 := Aside0.mk hc1
 clear hr1 hc1
 have H := h
 clear h
 unfold laws_eqIntS.f at H
 by_cases c3 : (l0.length : Int) = (l1.length : Int)
 ·rw [if_pos c3] at H
  have c3b0 := beq_iff_eq.mpr c3
  have c3b1 := bne_eq_false_iff_eq.mpr c3
  have c3b2 : (l0.length == l1.length) = true := by first | simpa using c3 | (simp at c3 ⊢; omega)
  clear c3
  have H' := Aside0.mk H
  clear H
  go_enter Tryd.func30, Tryd.ntmps30
  go_wp2
  repeat (go_quiet (fail); try go_wp2)
  go_loopg [5] k (fun kq v5 w' => ∃ (x5_1 : Int), v5 = .int .i64 x5_1 ∧ Aside0 (laws_eqIntS.l0 kq l0 l1 x5_1 = some r) ∧ Aside0 (kq ≤ k) ∧ Drawn0 w w')
  case atStart => exact ⟨(0), ZZ0ab324, H', ⟨Nat.le_refl _⟩, ZZ965307⟩
  case round =>
   clear H'
   try clear c1
   try clear c3b0
   try clear c3b1
   try clear c3b2
   obtain ⟨x5_1, rfl, HA, HK1, ⟨m1, rfl⟩⟩ := hrel
   cases gk with
   | zero => exact absurd HA.out (by simp [laws_eqIntS.l0])
   | succ k1 =>
    have H := HA.out
    clear HA
    simp only [laws_eqIntS.l0] at H
    by_cases c4 : x5_1 < (l0.length : Int)
    ·rw [if_pos c4] at H
     have c4b0 := decide_eq_true c4
     clear c4
     obtain ⟨c5, H⟩ := ifY H
     have c5b0 := decide_eq_true c5
     clear c5
     obtain ⟨c6, H⟩ := ifY H
     have c6b0 := decide_eq_true c6
     clear c6
     by_cases c7 : (rd l0 x5_1) = (rd l1 x5_1)
     ·rw [if_pos c7] at H
      have c7b0 := beq_iff_eq.mpr c7
      have c7b1 := bne_eq_false_iff_eq.mpr c7
      clear c7
      have H' := Aside0.mk H
      clear H
      have p243 : 0 ≤ (x5_1 : Int) := of_decide_eq_true ZZ853400
      have q243 : x5_1 < (l0.length : Int) := of_decide_eq_true ZZ853400
      obtain ⟨ad243, e243, hx243_0⟩ := Kd.at_int HR0.out x5_1 p243 q243
      cases e243
      replace p243 := eq_true p243
      replace q243 := eq_true q243
      have p244 : 0 ≤ (x5_1 : Int) := of_decide_eq_true ZZ853400
      have q244 : x5_1 < (l1.length : Int) := of_decide_eq_true ZZ853400
      obtain ⟨ad244, e244, hx244_0⟩ := Kd.at_int HR1.out x5_1 p244 q244
      cases e244
      replace p244 := eq_true p244
      replace q244 := eq_true q244
      go_wp2
      repeat (go_quiet (fail); try go_wp2)
      go_roundg k1
      case measure => have := HK1.out; omega
      case rel => exact ⟨(wrap64 (x5_1 + 1)), ZZ0ab324, H', ⟨(by have := HK1.out; omega)⟩, ZZ965307⟩
     rw [if_neg c7] at H
     have c7b0 := beq_eq_false_iff_ne.mpr c7
     have c7b1 := bne_iff_ne.mpr c7
     obtain rfl := Option.some.inj H
     have p243 : 0 ≤ (x5_1 : Int) := of_decide_eq_true ZZ853400
     have q243 : x5_1 < (l0.length : Int) := of_decide_eq_true ZZ853400
     obtain ⟨ad243, e243, hx243_0⟩ := Kd.at_int HR0.out x5_1 p243 q243
     cases e243
     replace p243 := eq_true p243
     replace q243 := eq_true q243
     have p244 : 0 ≤ (x5_1 : Int) := of_decide_eq_true ZZ853400
     have q244 : x5_1 < (l1.length : Int) := of_decide_eq_true ZZ853400
     obtain ⟨ad244, e244, hx244_0⟩ := Kd.at_int HR1.out x5_1 p244 q244
     cases e244
     replace p244 := eq_true p244
     replace q244 := eq_true q244
     go_wp2
     repeat (go_quiet (fail); try go_wp2)
     go_ret
     exact ⟨ZZ0ab324, ZZ965307⟩
    rw [if_neg c4] at H
    have c4b0 := decide_eq_false c4
    clear c4
    obtain rfl := Option.some.inj H
    go_wp2
    repeat (go_quiet (fail); try go_wp2)
    go_ret
    exact ⟨ZZ0ab324, ZZ965307⟩
 rw [if_neg c3] at H
 have c3b0 := beq_eq_false_iff_ne.mpr c3
 have c3b1 := bne_iff_ne.mpr c3
 have c3b2 : (l0.length == l1.length) = false := by first | simpa using c3 | (simp at c3 ⊢; omega)
 obtain rfl := Option.some.inj H
 go_enter Tryd.func30, Tryd.ntmps30
 go_wp2
 repeat (go_quiet (fail); try go_wp2)
 go_ret
 exact ⟨ZZ0ab324, ZZ965307⟩
end Go.Proofs.YtccdjchaaeligaaDoor.XFnExactTrialBalance

-- Printed by wip/tools/xprint.py, a program of this session, over the kit's print; Lean checks it.
import Derived.Test.YtccdjchaaeligaaDoorXFnExactAccountStatement5
import Derived.Test.YtccdjchaaeligaaDoorXFnExactAccountStatement1
import Derived.Test.YtccdjchaaeligaaDoorXFnExactAccountStatement0
import Derived.Test.YtccdjchaaeligaaDoorXFnExactAccountStatement4
import Derived.Test.YtccdjchaaeligaaDoorXFnExactAccountStatement6
namespace Go.Proofs.YtccdjchaaeligaaDoor.XFnExactAccountStatement
open Go.Proofs.YtccdjchaaeligaaDoor.Short Go.RowKit Go.Proofs.YtccdjchaaeligaaDoorW.PrintWords Go.Proofs.YtccdjchaaeligaaDoorW.PrintLast Go.Proofs.YtccdjchaaeligaaDoorW.PrintMore
attribute [local go_sem] max2_int min2_int max_two min_two max_three min_three max_four min_four   -- for this text's walks alone
set_option linter.unusedVariables false
set_option linter.unusedSimpArgs false
theorem ZZe2ab6b {p : Prop} (h : p := by first | (rw [add_block]; exact hn224_0) | (show (Addr.add _ _).block ≠ _; rw [add_block]; exact hn224_0) | exact hn224_0) : p := h
theorem ZZ404a90 {p : Prop} (h : p := by first | (rw [add_block]; exact hn224_1) | (show (Addr.add _ _).block ≠ _; rw [add_block]; exact hn224_1) | exact hn224_1) : p := h
theorem ZZ1be17e {p : Prop} (h : p := by (with_reducible repeat (first | apply Kd.R_alloc | apply Kd.R_drewN | apply Kd.R_drew)); exact Kd.R_mono (Kd.R_far (p := ⟨gb223, 1, none⟩) (Kd.R_far (p := ⟨gb223, 0, none⟩) (Kd.R_types HO_11.out BK223.out (by decide)) (fun _ hk => hk.2) (.int .i64 ((rd_T70 ((rd_T63 l0_1 x14_2).f2) x15_3).f0))) (fun _ hk => hk.2) (.int .i64 ((rd_T70 ((rd_T63 l0_1 x14_2).f2) x15_3).f1))) (fun _ hk => hk.1)) : p := h
theorem ZZa95532 {p : Prop} (h : p := by (with_reducible repeat (first | refine blk_drewN ?_ _ | refine blk_drew ?_ | refine blk_alloc ?_ _)); refine blk_far ?_ NB209_223.out _; (with_reducible repeat (first | refine blk_drewN ?_ _ | refine blk_drew ?_ | refine blk_alloc ?_ _)); refine blk_far ?_ NB209_223.out _; (with_reducible repeat (first | refine blk_drewN ?_ _ | refine blk_drew ?_ | refine blk_alloc ?_ _)); exact BK209.out) : p := h
/-! ### spec_AccountStatement: function 28 -/
mutual
def spec_AccountStatement.j0 : Nat → Int → Int → Int → List Int → List Int → Bool → List (S48) → List (S63) → Option (List Int × List Int × Bool)
 | 0, _, _, _, _, _, _, _, _ => none
 | k + 1, x1, x2, x3, x11, x12, x40, x210000, x210001 => if x40 = true then (some (x11, x12, false)) else (spec_AccountStatement.l0 k x1 x2 x3 x11 x12 0 0 x210000 x210001)
def spec_AccountStatement.l0 : Nat → Int → Int → Int → List Int → List Int → Int → Int → List (S48) → List (S63) → Option (List Int × List Int × Bool)
 | 0, _, _, _, _, _, _, _, _, _ => none
 | k + 1, x1, x2, x3, x11, x12, x13, x14, x210000, x210001 => if x14 < (x210001.length : Int) then (spec_AccountStatement.l1 k x1 x2 x3 x11 x12 x13 x14 0 x210000 x210001) else (some (x11, x12, true))
def spec_AccountStatement.l1 : Nat → Int → Int → Int → List Int → List Int → Int → Int → Int → List (S48) → List (S63) → Option (List Int × List Int × Bool)
 | 0, _, _, _, _, _, _, _, _, _, _ => none
 | k + 1, x1, x2, x3, x11, x12, x13, x14, x15, x210000, x210001 => if 0 ≤ x14 then (if x14 < (x210001.length : Int) then (if x15 < (((rd_T63 x210001 x14).f2).length : Int) then (if 0 ≤ x15 then (if ((rd_T70 ((rd_T63 x210001 x14).f2) x15).f0) = x1 then ((spec_l1In.f ((rd_T63 x210001 x14).f0) x2 x3).bind fun t225 => (if t225 = true then (if x11.length < 17592186044416 then (if x12.length < 17592186044416 then (spec_AccountStatement.l1 k x1 x2 x3 (x11 ++ [x14]) (x12 ++ [wrap64 (x13 + ((rd_T70 ((rd_T63 x210001 x14).f2) x15).f1))]) (wrap64 (x13 + ((rd_T70 ((rd_T63 x210001 x14).f2) x15).f1))) x14 (wrap64 (x15 + 1)) x210000 x210001) else (none)) else (none)) else (spec_AccountStatement.l1 k x1 x2 x3 x11 x12 (wrap64 (x13 + ((rd_T70 ((rd_T63 x210001 x14).f2) x15).f1))) x14 (wrap64 (x15 + 1)) x210000 x210001))) else (spec_AccountStatement.l1 k x1 x2 x3 x11 x12 x13 x14 (wrap64 (x15 + 1)) x210000 x210001)) else (none)) else (spec_AccountStatement.l0 k x1 x2 x3 x11 x12 x13 (wrap64 (x14 + 1)) x210000 x210001)) else (none)) else (none)
end
def spec_AccountStatement.f (k : Nat) (l0_0 : List (S48)) (l0_1 : List (S63)) (a1 : Int) (a2 : Int) (a3 : Int) : Option (List Int × List Int × Bool) := (some (([] : List Int) : List Int)).bind fun y210 => ((some (([] : List Int) : List Int)).bind fun y213 => ((spec_l26Good.f k l0_0 l0_1).bind fun t216 => (if t216 = true then ((spec_l1In.f a1 0 (wrap64 ((l0_0.length : Int) - 1))).bind fun t217 => (if t217 = true then ((spec_l3Good.f a2).bind fun t218 => (if t218 = true then ((spec_l3Good.f a3).bind fun t219 => (spec_AccountStatement.j0 k a1 a2 a3 y210 y213 (!t219) l0_0 l0_1)) else (spec_AccountStatement.j0 k a1 a2 a3 y210 y213 true l0_0 l0_1))) else (spec_AccountStatement.j0 k a1 a2 a3 y210 y213 true l0_0 l0_1))) else (spec_AccountStatement.j0 k a1 a2 a3 y210 y213 true l0_0 l0_1))))
theorem spec_AccountStatement.mono_l : ∀ k, (∀ y0 y1 y2 y3 y4 y5 y6 y7, LeO (spec_AccountStatement.j0 k y0 y1 y2 y3 y4 y5 y6 y7) (spec_AccountStatement.j0 (k + 1) y0 y1 y2 y3 y4 y5 y6 y7)) ∧ (∀ y0 y1 y2 y3 y4 y5 y6 y7 y8, LeO (spec_AccountStatement.l0 k y0 y1 y2 y3 y4 y5 y6 y7 y8) (spec_AccountStatement.l0 (k + 1) y0 y1 y2 y3 y4 y5 y6 y7 y8)) ∧ (∀ y0 y1 y2 y3 y4 y5 y6 y7 y8 y9, LeO (spec_AccountStatement.l1 k y0 y1 y2 y3 y4 y5 y6 y7 y8 y9) (spec_AccountStatement.l1 (k + 1) y0 y1 y2 y3 y4 y5 y6 y7 y8 y9))
 | 0 => ⟨fun _ _ _ _ _ _ _ _ r h => by simp [spec_AccountStatement.j0] at h, fun _ _ _ _ _ _ _ _ _ r h => by simp [spec_AccountStatement.l0] at h, fun _ _ _ _ _ _ _ _ _ _ r h => by simp [spec_AccountStatement.l1] at h⟩
 | k + 1 => by
  obtain ⟨ih0, ih1, ih2⟩ := spec_AccountStatement.mono_l k
  refine ⟨?_, ?_, ?_⟩
  all_goals intros
  all_goals (first | unfold spec_AccountStatement.j0 | unfold spec_AccountStatement.l0 | unfold spec_AccountStatement.l1)
  all_goals
   repeat' first
   | (with_reducible exact ih0 _ _ _ _ _ _ _ _)
   | (with_reducible exact ih1 _ _ _ _ _ _ _ _ _)
   | (with_reducible exact ih2 _ _ _ _ _ _ _ _ _ _)
   | (with_reducible exact spec_l26Good.mono _ _ _)
   | (with_reducible exact LeO.refl _)
   | (with_reducible exact LeO.none _)
   | (with_reducible refine LeO.ite ?_ ?_)
   | (with_reducible refine LeO.bind ?_ (fun _ => ?_))
   | exact ih0 _ _ _ _ _ _ _ _
   | exact ih1 _ _ _ _ _ _ _ _ _
   | exact ih2 _ _ _ _ _ _ _ _ _ _
   | exact spec_l26Good.mono _ _ _
   | exact LeO.none _
   | refine LeO.ite ?_ ?_
   | refine LeO.bind ?_ (fun _ => ?_)
theorem spec_AccountStatement.mono : ∀ a0 a1 a2 a3 a4 k, LeO (spec_AccountStatement.f k a0 a1 a2 a3 a4) (spec_AccountStatement.f (k + 1) a0 a1 a2 a3 a4) := by
 intro a0 a1 a2 a3 a4 k
 obtain ⟨ih0, ih1, ih2⟩ := spec_AccountStatement.mono_l k
 unfold spec_AccountStatement.f
 repeat' first
  | (with_reducible exact ih0 _ _ _ _ _ _ _ _)
  | (with_reducible exact ih1 _ _ _ _ _ _ _ _ _)
  | (with_reducible exact ih2 _ _ _ _ _ _ _ _ _ _)
  | (with_reducible exact spec_l26Good.mono _ _ _)
  | (with_reducible exact LeO.refl _)
  | (with_reducible exact LeO.none _)
  | (with_reducible refine LeO.ite ?_ ?_)
  | (with_reducible refine LeO.bind ?_ (fun _ => ?_))
  | exact ih0 _ _ _ _ _ _ _ _
  | exact ih1 _ _ _ _ _ _ _ _ _
  | exact ih2 _ _ _ _ _ _ _ _ _ _
  | exact spec_l26Good.mono _ _ _
  | exact LeO.none _
  | refine LeO.ite ?_ ?_
  | refine LeO.bind ?_ (fun _ => ?_)
set_option maxHeartbeats 8000000 in
set_option maxRecDepth 100000 in
theorem spec_AccountStatement.calls (k : Nat) (A0_0 : Option Addr) (c0_0 : Nat) (l0_0 : List (S48)) (A0_1 : Option Addr) (c0_1 : Nat) (l0_1 : List (S63)) (a1 : Int) (a2 : Int) (a3 : Int) (r1 : List Int) (r2 : List Int) (r3 : Bool) (w : World) (hr0_0 : Kd.C k48 w A0_0 l0_0.length l0_0) (hc0_0 : l0_0.length ≤ c0_0) (hr0_1 : Kd.C k63 w A0_1 l0_1.length l0_1) (hc0_1 : l0_1.length ≤ c0_1) (h : spec_AccountStatement.f k l0_0 l0_1 a1 a2 a3 = some (r1, r2, r3)) :
 Calls Tryd.prog 28 #[.agg #[.slice A0_0 l0_0.length c0_0, .slice A0_1 l0_1.length c0_1], .int .i64 a1, .int .i64 a2, .int .i64 a3] w fun e w' => ∃ v0_ v1_ : Value, e = .returned (.tuple #[v0_, v1_, .bool r3]) ∧ Kd.R (Kd.int .i64) 3 w' w.heap.size (fun k_ => some k_ ≠ (v1_ : Value).ownBlock) v0_ r1 ∧ Kd.R (Kd.int .i64) 3 w' w.heap.size (fun k_ => some k_ ≠ (v0_ : Value).ownBlock) v1_ r2 ∧ Below w.heap.size w w' := by
 have hu31 := Tryd.underlying31
 have hu70 := Tryd.underlying70
 have HR0_0 := Aside0.mk hr0_0
 have HC0_0 := Aside0.mk hc0_0
 clear hr0_0 hc0_0
 have HR0_1 := Aside0.mk hr0_1
 have HC0_1 := Aside0.mk hc0_1
 clear hr0_1 hc0_1
 have HB := Aside0.mk (Below.refl w.heap.size w)
 have H := h
 clear h
 unfold spec_AccountStatement.f at H
 obtain ⟨y210, hy210⟩ : ∃ y_ : List Int, y_ = (([] : List Int)) := ⟨_, rfl⟩
 replace H : ((some (([] : List Int) : List Int)).bind fun y213 => ((spec_l26Good.f k l0_0 l0_1).bind fun t216 => (if t216 = true then ((spec_l1In.f a1 0 (wrap64 ((l0_0.length : Int) - 1))).bind fun t217 => (if t217 = true then ((spec_l3Good.f a2).bind fun t218 => (if t218 = true then ((spec_l3Good.f a3).bind fun t219 => (spec_AccountStatement.j0 k a1 a2 a3 y210 y213 (!t219) l0_0 l0_1)) else (spec_AccountStatement.j0 k a1 a2 a3 y210 y213 true l0_0 l0_1))) else (spec_AccountStatement.j0 k a1 a2 a3 y210 y213 true l0_0 l0_1))) else (spec_AccountStatement.j0 k a1 a2 a3 y210 y213 true l0_0 l0_1)))) = some (r1, r2, r3) := by first | (rw [hy210]; with_reducible exact H) | (have H2_ := (Option.bind_some _ _).symm.trans H; rw [hy210]; with_reducible exact H2_) | (have H2_ := (Option.bind_some _ _).symm.trans H; with_reducible exact H2_) | with_reducible exact H | (rw [hy210]; exact H) | exact H
 have Ny210 := Aside0.mk hy210
 clear hy210
 obtain ⟨y213, hy213⟩ : ∃ y_ : List Int, y_ = (([] : List Int)) := ⟨_, rfl⟩
 replace H : ((spec_l26Good.f k l0_0 l0_1).bind fun t216 => (if t216 = true then ((spec_l1In.f a1 0 (wrap64 ((l0_0.length : Int) - 1))).bind fun t217 => (if t217 = true then ((spec_l3Good.f a2).bind fun t218 => (if t218 = true then ((spec_l3Good.f a3).bind fun t219 => (spec_AccountStatement.j0 k a1 a2 a3 y210 y213 (!t219) l0_0 l0_1)) else (spec_AccountStatement.j0 k a1 a2 a3 y210 y213 true l0_0 l0_1))) else (spec_AccountStatement.j0 k a1 a2 a3 y210 y213 true l0_0 l0_1))) else (spec_AccountStatement.j0 k a1 a2 a3 y210 y213 true l0_0 l0_1))) = some (r1, r2, r3) := by first | (rw [hy213]; with_reducible exact H) | (have H2_ := (Option.bind_some _ _).symm.trans H; rw [hy213]; with_reducible exact H2_) | (have H2_ := (Option.bind_some _ _).symm.trans H; with_reducible exact H2_) | with_reducible exact H | (rw [hy213]; exact H) | exact H
 have Ny213 := Aside0.mk hy213
 clear hy213
 have HC5 := Aside0.mk H
 clear H
 go_enter Tryd.func28, Tryd.ntmps28
 go_upto_region 3 with (first | ((with_reducible refine gate_dst (N := 4) rfl ?_); (try (refine gate_guard (by rfl) ?_; dsimp only)); refine box_event ?hg (N := 4) ?hd (cs := #[.slice A0_0 l0_0.length c0_0, .slice A0_1 l0_1.length c0_1]) (t := 31) ?hr ?_; (case hd => rfl); (case hg => rfl); (case hr => first | (go_simp; done) | (go_simp; rfl)); intro gb209 hg w6 hbox hb; have BK209 := Aside0.mk (hbox); have GW209 := Aside0.mk ((by rw [hg]; exact (below_size ZZ605003) : w.heap.size ≤ gb209)); have GE209 := Aside0.mk ((by rw [hg]; exact (below_size ZZ605003) : w.heap.size ≤ gb209)); replace HB := Aside0.mk (below_step ZZ605003 hb); clear hb hbox hg) | ((with_reducible refine gate_dst (N := 17) rfl ?_); (try (refine gate_guard (by rfl) ?_; dsimp only)); refine Kd.R_lit (Kd.int .i64) _ 3 ?hg (N := 17) ?hd (xs := ([] : List Int)) (inner := []) (ok := fun _ => True) (okp := fun _ => True) ?hr ?hp (fun _ hk => hk) trivial (Below.refl _ _) (Nat.le_refl _) (by simp) ?_; (case hd => rfl); (case hg => rfl); (case hr => first | (go_simp; done) | (go_simp; rfl)); (case hp => exact (Reps.none _ _)); intro v211 w7 ho8 hb hg_ hnew_; clear hg_ hnew_; (first | rw [← Ny210.out] at ho8 | (simp only [Int.reduceToNat] at ho8; rw [← Ny210.out] at ho8)); have HO212 := Aside0.mk (Kd.R_lower ho8 (below_size ZZ295621)); replace BK209 := Aside0.mk (blk_below (zB BK209) hb); replace HB := Aside0.mk (below_step ZZ295621 hb); clear hb ho8) | ((with_reducible refine gate_dst (N := 18) rfl ?_); (try (refine gate_guard (by rfl) ?_; dsimp only)); refine Kd.R_lit (Kd.int .i64) _ 3 ?hg (N := 18) ?hd (xs := ([] : List Int)) (inner := []) (ok := fun _ => True) (okp := fun _ => True) ?hr ?hp (fun _ hk => hk) trivial (Below.refl _ _) (Nat.le_refl _) (by simp) ?_; (case hd => rfl); (case hg => rfl); (case hr => first | (go_simp; done) | (go_simp; rfl)); (case hp => exact (Reps.none _ _)); intro v214 w9 ho10 hb hg_ hnew_; clear hg_ hnew_; (first | rw [← Ny213.out] at ho10 | (simp only [Int.reduceToNat] at ho10; rw [← Ny213.out] at ho10)); have HO215 := Aside0.mk (Kd.R_lower (Kd.R_new' ho10 (Kd.R_lt (zR HO212))) (below_size ZZ295621)); replace HO212 := Aside0.mk (Kd.R_elder' (zR HO212) (Kd.R_base ho10) hb); replace BK209 := Aside0.mk (blk_below (zB BK209) hb); replace HB := Aside0.mk (below_step ZZ295621 hb); clear hb ho10))
 (try simp only [Act.put, List.setIfInBounds_toArray, List.set_cons_zero, List.set_cons_succ])
 go_cut [40] (fun v40 wc => ∃ (kq : Nat) (x40_4 : Bool), v40 = .bool x40_4 ∧ Aside0 (spec_AccountStatement.j0 kq a1 a2 a3 y210 y213 x40_4 l0_0 l0_1 = some (r1, r2, r3)) ∧ Aside0 (kq ≤ k) ∧ Aside0 (Kd.R (Kd.int .i64) 3 wc w.heap.size (fun k_ => some k_ ≠ (v214 : Value).ownBlock) v211 y210) ∧ Aside0 (Kd.R (Kd.int .i64) 3 wc w.heap.size (fun k_ => some k_ ≠ (v211 : Value).ownBlock) v214 y213) ∧ Aside0 (wc.heap[gb209]? = some (.cells #[(.slice A0_0 l0_0.length c0_0), (.slice A0_1 l0_1.length c0_1)] 31 (0, 0))) ∧ Aside0 (Below w.heap.size w wc))
 case first =>
  have H := HC5.out
  clear HC5
  obtain ⟨t216, A11, H⟩ := bdY H
  by_cases c12 : t216 = true
  ·subst c12
   have H1 : ((spec_l1In.f a1 0 (wrap64 ((l0_0.length : Int) - 1))).bind fun t217 => (if t217 = true then ((spec_l3Good.f a2).bind fun t218 => (if t218 = true then ((spec_l3Good.f a3).bind fun t219 => (spec_AccountStatement.j0 k a1 a2 a3 y210 y213 (!t219) l0_0 l0_1)) else (spec_AccountStatement.j0 k a1 a2 a3 y210 y213 true l0_0 l0_1))) else (spec_AccountStatement.j0 k a1 a2 a3 y210 y213 true l0_0 l0_1))) = some (r1, r2, r3) := by rw [if_pos rfl] at H; exact H
   clear H
   have H := H1
   clear H1
   obtain ⟨t217, A13, H⟩ := bdY H
   by_cases c14 : t217 = true
   ·subst c14
    have H1 : ((spec_l3Good.f a2).bind fun t218 => (if t218 = true then ((spec_l3Good.f a3).bind fun t219 => (spec_AccountStatement.j0 k a1 a2 a3 y210 y213 (!t219) l0_0 l0_1)) else (spec_AccountStatement.j0 k a1 a2 a3 y210 y213 true l0_0 l0_1))) = some (r1, r2, r3) := by rw [if_pos rfl] at H; exact H
    clear H
    have H := H1
    clear H1
    obtain ⟨t218, A15, H⟩ := bdY H
    by_cases c16 : t218 = true
    ·subst c16
     have H1 : ((spec_l3Good.f a3).bind fun t219 => (spec_AccountStatement.j0 k a1 a2 a3 y210 y213 (!t219) l0_0 l0_1)) = some (r1, r2, r3) := by rw [if_pos rfl] at H; exact H
     clear H
     have H := H1
     clear H1
     obtain ⟨t219, A17, H⟩ := bdY H
     have H' := Aside0.mk H
     clear H
     have hcz18_0 : w9.cell? ⟨gb209, 0, none⟩ = some (.slice A0_0 l0_0.length c0_0) := (blk_cell BK209.out 0).trans rfl
     have hcz18_1 : w9.cell? ⟨gb209, 1, none⟩ = some (.slice A0_1 l0_1.length c0_1) := (blk_cell BK209.out 1).trans rfl
     have hfz18_0 := blk_frozen BK209.out 0
     have hfz18_1 := blk_frozen BK209.out 1
     go_wp2_with (first | ((with_reducible refine gate_callee (f := 52) rfl ?_); refine goesL_ (some 20) rfl rfl Tryd.func52 (by kernel_rfl) rfl #[.agg #[.slice A0_0 l0_0.length c0_0, .slice A0_1 l0_1.length c0_1]] rfl ZZ19826e ?_; (with_reducible refine (spec_l26Good.calls k _ _ l0_0 _ _ l0_1 true _ ?side1 ?side2 ?side3 ?side4 A11.out).mono ?_); (case side1 => exact ZZ5b25f1); (case side2 => exact HC0_0.out); (case side3 => exact ZZ8ff6b3); (case side4 => exact HC0_1.out); rintro e w19 ⟨rfl, hb⟩; refine ⟨_, rfl, ?_⟩; replace HO212 := Aside0.mk (Kd.R_below (zR HO212) hb); replace HO215 := Aside0.mk (Kd.R_below (zR HO215) hb); replace BK209 := Aside0.mk (blk_below (zB BK209) hb); replace HB := Aside0.mk (below_step ZZ295621 hb); (try clear hb); (try clear hb2); (try clear hk); (try clear hi); have hcz20_0 : w19.cell? ⟨gb209, 0, none⟩ = some (.slice A0_0 l0_0.length c0_0) := (blk_cell BK209.out 0).trans rfl; have hcz20_1 : w19.cell? ⟨gb209, 1, none⟩ = some (.slice A0_1 l0_1.length c0_1) := (blk_cell BK209.out 1).trans rfl; have hfz20_0 := blk_frozen BK209.out 0; have hfz20_1 := blk_frozen BK209.out 1) | (go_at_call 65; (with_reducible refine (spec_l1In.calls a1 0 (wrap64 ((l0_0.length : Int) - 1)) true _ A13.out).mono ?_); rintro e w' ⟨rfl, ⟨nd, rfl⟩⟩) | (go_at_call 66; (with_reducible refine (spec_l3Good.calls a2 true _ A15.out).mono ?_); rintro e w' ⟨rfl, ⟨nd, rfl⟩⟩) | (go_at_call 66; (with_reducible refine (spec_l3Good.calls a3 t219 _ A17.out).mono ?_); rintro e w' ⟨rfl, ⟨nd, rfl⟩⟩))
     go_meet
     case rel => exact ⟨_, (!t219), ZZ0ab324, H', ⟨ZZ81c739⟩, ⟨(by (with_reducible repeat (first | apply Kd.R_alloc | apply Kd.R_drewN | apply Kd.R_drew)); exact Kd.R_mono HO212.out (fun _ hk => hk.2))⟩, ⟨(by (with_reducible repeat (first | apply Kd.R_alloc | apply Kd.R_drewN | apply Kd.R_drew)); exact Kd.R_mono HO215.out (fun _ hk => hk.2))⟩, ⟨(zB BK209)⟩, ⟨ZZ295621⟩⟩
    replace c16 := Bool.eq_false_iff.mpr c16
    subst c16
    have H1 : (spec_AccountStatement.j0 k a1 a2 a3 y210 y213 true l0_0 l0_1) = some (r1, r2, r3) := by rw [if_neg (show ¬ (false = true) by decide)] at H; exact H
    clear H
    have H := H1
    clear H1
    have H' := Aside0.mk H
    clear H
    have hcz21_0 : w9.cell? ⟨gb209, 0, none⟩ = some (.slice A0_0 l0_0.length c0_0) := (blk_cell BK209.out 0).trans rfl
    have hcz21_1 : w9.cell? ⟨gb209, 1, none⟩ = some (.slice A0_1 l0_1.length c0_1) := (blk_cell BK209.out 1).trans rfl
    have hfz21_0 := blk_frozen BK209.out 0
    have hfz21_1 := blk_frozen BK209.out 1
    go_wp2_with (first | ((with_reducible refine gate_callee (f := 52) rfl ?_); refine goesL_ (some 20) rfl rfl Tryd.func52 (by kernel_rfl) rfl #[.agg #[.slice A0_0 l0_0.length c0_0, .slice A0_1 l0_1.length c0_1]] rfl ZZ19826e ?_; (with_reducible refine (spec_l26Good.calls k _ _ l0_0 _ _ l0_1 true _ ?side1 ?side2 ?side3 ?side4 A11.out).mono ?_); (case side1 => exact ZZ5b25f1); (case side2 => exact HC0_0.out); (case side3 => exact ZZ8ff6b3); (case side4 => exact HC0_1.out); rintro e w22 ⟨rfl, hb⟩; refine ⟨_, rfl, ?_⟩; replace HO212 := Aside0.mk (Kd.R_below (zR HO212) hb); replace HO215 := Aside0.mk (Kd.R_below (zR HO215) hb); replace BK209 := Aside0.mk (blk_below (zB BK209) hb); replace HB := Aside0.mk (below_step ZZ295621 hb); (try clear hb); (try clear hb2); (try clear hk); (try clear hi); have hcz23_0 : w22.cell? ⟨gb209, 0, none⟩ = some (.slice A0_0 l0_0.length c0_0) := (blk_cell BK209.out 0).trans rfl; have hcz23_1 : w22.cell? ⟨gb209, 1, none⟩ = some (.slice A0_1 l0_1.length c0_1) := (blk_cell BK209.out 1).trans rfl; have hfz23_0 := blk_frozen BK209.out 0; have hfz23_1 := blk_frozen BK209.out 1) | (go_at_call 65; (with_reducible refine (spec_l1In.calls a1 0 (wrap64 ((l0_0.length : Int) - 1)) true _ A13.out).mono ?_); rintro e w' ⟨rfl, ⟨nd, rfl⟩⟩) | (go_at_call 66; (with_reducible refine (spec_l3Good.calls a2 false _ A15.out).mono ?_); rintro e w' ⟨rfl, ⟨nd, rfl⟩⟩))
    go_meet
    case rel => exact ⟨_, (true), ZZ0ab324, H', ⟨ZZ81c739⟩, ⟨(by (with_reducible repeat (first | apply Kd.R_alloc | apply Kd.R_drewN | apply Kd.R_drew)); exact Kd.R_mono HO212.out (fun _ hk => hk.2))⟩, ⟨(by (with_reducible repeat (first | apply Kd.R_alloc | apply Kd.R_drewN | apply Kd.R_drew)); exact Kd.R_mono HO215.out (fun _ hk => hk.2))⟩, ⟨(zB BK209)⟩, ⟨ZZ295621⟩⟩
   replace c14 := Bool.eq_false_iff.mpr c14
   subst c14
   have H1 : (spec_AccountStatement.j0 k a1 a2 a3 y210 y213 true l0_0 l0_1) = some (r1, r2, r3) := by rw [if_neg (show ¬ (false = true) by decide)] at H; exact H
   clear H
   have H := H1
   clear H1
   have H' := Aside0.mk H
   clear H
   have hcz24_0 : w9.cell? ⟨gb209, 0, none⟩ = some (.slice A0_0 l0_0.length c0_0) := (blk_cell BK209.out 0).trans rfl
   have hcz24_1 : w9.cell? ⟨gb209, 1, none⟩ = some (.slice A0_1 l0_1.length c0_1) := (blk_cell BK209.out 1).trans rfl
   have hfz24_0 := blk_frozen BK209.out 0
   have hfz24_1 := blk_frozen BK209.out 1
   go_wp2_with (first | ((with_reducible refine gate_callee (f := 52) rfl ?_); refine goesL_ (some 20) rfl rfl Tryd.func52 (by kernel_rfl) rfl #[.agg #[.slice A0_0 l0_0.length c0_0, .slice A0_1 l0_1.length c0_1]] rfl ZZ19826e ?_; (with_reducible refine (spec_l26Good.calls k _ _ l0_0 _ _ l0_1 true _ ?side1 ?side2 ?side3 ?side4 A11.out).mono ?_); (case side1 => exact ZZ5b25f1); (case side2 => exact HC0_0.out); (case side3 => exact ZZ8ff6b3); (case side4 => exact HC0_1.out); rintro e w25 ⟨rfl, hb⟩; refine ⟨_, rfl, ?_⟩; replace HO212 := Aside0.mk (Kd.R_below (zR HO212) hb); replace HO215 := Aside0.mk (Kd.R_below (zR HO215) hb); replace BK209 := Aside0.mk (blk_below (zB BK209) hb); replace HB := Aside0.mk (below_step ZZ295621 hb); (try clear hb); (try clear hb2); (try clear hk); (try clear hi); have hcz26_0 : w25.cell? ⟨gb209, 0, none⟩ = some (.slice A0_0 l0_0.length c0_0) := (blk_cell BK209.out 0).trans rfl; have hcz26_1 : w25.cell? ⟨gb209, 1, none⟩ = some (.slice A0_1 l0_1.length c0_1) := (blk_cell BK209.out 1).trans rfl; have hfz26_0 := blk_frozen BK209.out 0; have hfz26_1 := blk_frozen BK209.out 1) | (go_at_call 65; (with_reducible refine (spec_l1In.calls a1 0 (wrap64 ((l0_0.length : Int) - 1)) false _ A13.out).mono ?_); rintro e w' ⟨rfl, ⟨nd, rfl⟩⟩))
   go_meet
   case rel => exact ⟨_, (true), ZZ0ab324, H', ⟨ZZ81c739⟩, ⟨(by (with_reducible repeat (first | apply Kd.R_alloc | apply Kd.R_drewN | apply Kd.R_drew)); exact Kd.R_mono HO212.out (fun _ hk => hk.2))⟩, ⟨(by (with_reducible repeat (first | apply Kd.R_alloc | apply Kd.R_drewN | apply Kd.R_drew)); exact Kd.R_mono HO215.out (fun _ hk => hk.2))⟩, ⟨(zB BK209)⟩, ⟨ZZ295621⟩⟩
  replace c12 := Bool.eq_false_iff.mpr c12
  subst c12
  have H1 : (spec_AccountStatement.j0 k a1 a2 a3 y210 y213 true l0_0 l0_1) = some (r1, r2, r3) := by rw [if_neg (show ¬ (false = true) by decide)] at H; exact H
  clear H
  have H := H1
  clear H1
  have H' := Aside0.mk H
  clear H
  have hcz27_0 : w9.cell? ⟨gb209, 0, none⟩ = some (.slice A0_0 l0_0.length c0_0) := (blk_cell BK209.out 0).trans rfl
  have hcz27_1 : w9.cell? ⟨gb209, 1, none⟩ = some (.slice A0_1 l0_1.length c0_1) := (blk_cell BK209.out 1).trans rfl
  have hfz27_0 := blk_frozen BK209.out 0
  have hfz27_1 := blk_frozen BK209.out 1
  go_wp2_with (first | ((with_reducible refine gate_callee (f := 52) rfl ?_); refine goesL_ (some 20) rfl rfl Tryd.func52 (by kernel_rfl) rfl #[.agg #[.slice A0_0 l0_0.length c0_0, .slice A0_1 l0_1.length c0_1]] rfl ZZ19826e ?_; (with_reducible refine (spec_l26Good.calls k _ _ l0_0 _ _ l0_1 false _ ?side1 ?side2 ?side3 ?side4 A11.out).mono ?_); (case side1 => exact ZZ5b25f1); (case side2 => exact HC0_0.out); (case side3 => exact ZZ8ff6b3); (case side4 => exact HC0_1.out); rintro e w28 ⟨rfl, hb⟩; refine ⟨_, rfl, ?_⟩; replace HO212 := Aside0.mk (Kd.R_below (zR HO212) hb); replace HO215 := Aside0.mk (Kd.R_below (zR HO215) hb); replace BK209 := Aside0.mk (blk_below (zB BK209) hb); replace HB := Aside0.mk (below_step ZZ295621 hb); (try clear hb); (try clear hb2); (try clear hk); (try clear hi)))
  go_meet
  case rel => exact ⟨_, (true), ZZ0ab324, H', ⟨ZZ81c739⟩, ⟨(by (with_reducible repeat (first | apply Kd.R_alloc | apply Kd.R_drewN | apply Kd.R_drew)); exact Kd.R_mono HO212.out (fun _ hk => hk.2))⟩, ⟨(by (with_reducible repeat (first | apply Kd.R_alloc | apply Kd.R_drewN | apply Kd.R_drew)); exact Kd.R_mono HO215.out (fun _ hk => hk.2))⟩, ⟨(zB BK209)⟩, ⟨ZZ295621⟩⟩
 case rest =>
  clear HC5
  try clear c12
  try clear c14
  try clear c16
  try clear hcz18_0
  try clear hcz18_1
  try clear hcz20_0
  try clear hcz20_1
  try clear hcz21_0
  try clear hcz21_1
  try clear hcz23_0
  try clear hcz23_1
  try clear hcz24_0
  try clear hcz24_1
  try clear hcz26_0
  try clear hcz26_1
  try clear hcz27_0
  try clear hcz27_1
  try clear hfz18_0
  try clear hfz18_1
  try clear hfz20_0
  try clear hfz20_1
  try clear hfz21_0
  try clear hfz21_1
  try clear hfz23_0
  try clear hfz23_1
  try clear hfz24_0
  try clear hfz24_1
  try clear hfz26_0
  try clear hfz26_1
  try clear hfz27_0
  try clear hfz27_1
  obtain ⟨kq, x40_4, rfl, HA, HJ4, HO_11, HO_12, BK209, HB⟩ := hcut
  cases kq with
  | zero => exact absurd HA.out (by simp [spec_AccountStatement.j0])
  | succ kj4 =>
   have H := HA.out
   clear HA
   simp only [spec_AccountStatement.j0] at H
   by_cases c29 : x40_4 = true
   ·subst c29
    have H1 : (some (y210, y213, false)) = some (r1, r2, r3) := by rw [if_pos rfl] at H; exact H
    clear H
    have H := H1
    clear H1
    simp only [Option.some.injEq, Prod.mk.injEq] at H
    obtain ⟨rfl, rfl, rfl⟩ := H
    go_wp2
    go_ret3
    exact ⟨_, _, ZZab01d2, (zR HO_11), (zR HO_12), ZZ295621⟩
   replace c29 := Bool.eq_false_iff.mpr c29
   subst c29
   have H1 : (spec_AccountStatement.l0 kj4 a1 a2 a3 y210 y213 0 0 l0_0 l0_1) = some (r1, r2, r3) := by rw [if_neg (show ¬ (false = true) by decide)] at H; exact H
   clear H
   have H := H1
   clear H1
   have H' := Aside0.mk H
   clear H
   go_wp2
   go_loopg [11, 12, 13, 14] kj4 (fun kq v11 v12 v13 v14 w' => ∃ (x11_2 : List Int) (x12_2 : List Int) (x13_2 : Int) (x14_2 : Int), v13 = .int .i64 x13_2 ∧ v14 = .int .i64 x14_2 ∧ Aside0 (spec_AccountStatement.l0 kq a1 a2 a3 x11_2 x12_2 x13_2 x14_2 l0_0 l0_1 = some (r1, r2, r3)) ∧ Aside0 (kq ≤ kj4) ∧ Aside0 (Kd.R (Kd.int .i64) 3 w' w.heap.size (fun k_ => some k_ ≠ (v12 : Value).ownBlock) v11 x11_2) ∧ Aside0 (Kd.R (Kd.int .i64) 3 w' w.heap.size (fun k_ => some k_ ≠ (v11 : Value).ownBlock) v12 x12_2) ∧ Aside0 (w'.heap[gb209]? = some (.cells #[(.slice A0_0 l0_0.length c0_0), (.slice A0_1 l0_1.length c0_1)] 31 (0, 0))) ∧ Aside0 (Below w.heap.size w w'))
   case atStart => exact ⟨(y210), (y213), (0), (0), ZZ0ab324, ZZ0ab324, H', ⟨Nat.le_refl _⟩, ⟨(zR HO_11)⟩, ⟨(zR HO_12)⟩, ⟨(zB BK209)⟩, ⟨ZZ295621⟩⟩
   case round =>
    clear H'
    try clear c29
    obtain ⟨x11_2, x12_2, x13_2, x14_2, rfl, rfl, HA, HK2, HO_11, HO_12, BK209, HB⟩ := hrel
    cases gk with
    | zero => exact absurd HA.out (by simp [spec_AccountStatement.l0])
    | succ k2 =>
     have H := HA.out
     clear HA
     simp only [spec_AccountStatement.l0] at H
     by_cases c30 : x14_2 < (l0_1.length : Int)
     ·rw [if_pos c30] at H
      have c30b0 := decide_eq_true c30
      clear c30
      have H' := Aside0.mk H
      clear H
      have hcz31_0 : wr.cell? ⟨gb209, 0, none⟩ = some (.slice A0_0 l0_0.length c0_0) := (blk_cell BK209.out 0).trans rfl
      have hcz31_1 : wr.cell? ⟨gb209, 1, none⟩ = some (.slice A0_1 l0_1.length c0_1) := (blk_cell BK209.out 1).trans rfl
      have hfz31_0 := blk_frozen BK209.out 0
      have hfz31_1 := blk_frozen BK209.out 1
      go_wp2
      go_loopg [11, 12, 13, 15] k2 (fun kq v11 v12 v13 v15 w' => ∃ (x11_3 : List Int) (x12_3 : List Int) (x13_3 : Int) (x15_3 : Int), v13 = .int .i64 x13_3 ∧ v15 = .int .i64 x15_3 ∧ Aside0 (spec_AccountStatement.l1 kq a1 a2 a3 x11_3 x12_3 x13_3 x14_2 x15_3 l0_0 l0_1 = some (r1, r2, r3)) ∧ Aside0 (kq ≤ k2) ∧ Aside0 (Kd.R (Kd.int .i64) 3 w' w.heap.size (fun k_ => some k_ ≠ (v12 : Value).ownBlock) v11 x11_3) ∧ Aside0 (Kd.R (Kd.int .i64) 3 w' w.heap.size (fun k_ => some k_ ≠ (v11 : Value).ownBlock) v12 x12_3) ∧ Aside0 (w'.heap[gb209]? = some (.cells #[(.slice A0_0 l0_0.length c0_0), (.slice A0_1 l0_1.length c0_1)] 31 (0, 0))) ∧ Aside0 (Below w.heap.size w w'))
      case atStart => exact ⟨(x11_2), (x12_2), (x13_2), (0), ZZ0ab324, ZZ0ab324, H', ⟨Nat.le_refl _⟩, ⟨(zR HO_11)⟩, ⟨(zR HO_12)⟩, ⟨(zB BK209)⟩, ⟨ZZ295621⟩⟩
      case round =>
       clear H'
       try clear c30b0
       try clear hcz31_0
       try clear hcz31_1
       try clear hfz31_0
       try clear hfz31_1
       obtain ⟨x11_3, x12_3, x13_3, x15_3, rfl, rfl, HA, HK3, HO_11, HO_12, BK209, HB⟩ := hrel
       cases gk with
       | zero => exact absurd HA.out (by simp [spec_AccountStatement.l1])
       | succ k3 =>
        have H := HA.out
        clear HA
        simp only [spec_AccountStatement.l1] at H
        obtain ⟨c32, H⟩ := ifY H
        have c32b0 := decide_eq_true c32
        clear c32
        obtain ⟨c33, H⟩ := ifY H
        have c33b0 := decide_eq_true c33
        clear c33
        by_cases c34 : x15_3 < (((rd_T63 l0_1 x14_2).f2).length : Int)
        ·rw [if_pos c34] at H
         have c34b0 := decide_eq_true c34
         clear c34
         obtain ⟨c35, H⟩ := ifY H
         have c35b0 := decide_eq_true c35
         clear c35
         by_cases c36 : ((rd_T70 ((rd_T63 l0_1 x14_2).f2) x15_3).f0) = a1
         ·rw [if_pos c36] at H
          have c36b0 := beq_iff_eq.mpr c36
          have c36b1 := bne_eq_false_iff_eq.mpr c36
          clear c36
          obtain ⟨t225, A37, H⟩ := bdY H
          by_cases c38 : t225 = true
          ·subst c38
           have H1 : (if x11_3.length < 17592186044416 then (if x12_3.length < 17592186044416 then (spec_AccountStatement.l1 k3 a1 a2 a3 (x11_3 ++ [x14_2]) (x12_3 ++ [wrap64 (x13_3 + ((rd_T70 ((rd_T63 l0_1 x14_2).f2) x15_3).f1))]) (wrap64 (x13_3 + ((rd_T70 ((rd_T63 l0_1 x14_2).f2) x15_3).f1))) x14_2 (wrap64 (x15_3 + 1)) l0_0 l0_1) else (none)) else (none)) = some (r1, r2, r3) := by rw [if_pos rfl] at H; exact H
           clear H
           have H := H1
           clear H1
           obtain ⟨c39, H⟩ := ifY H
           have LMc39 := Aside0.mk c39
           clear c39
           obtain ⟨y226, hy226⟩ : ∃ y_ : List Int, y_ = (x11_3 ++ [x14_2]) := ⟨_, rfl⟩
           replace H : (if x12_3.length < 17592186044416 then (spec_AccountStatement.l1 k3 a1 a2 a3 y226 (x12_3 ++ [wrap64 (x13_3 + ((rd_T70 ((rd_T63 l0_1 x14_2).f2) x15_3).f1))]) (wrap64 (x13_3 + ((rd_T70 ((rd_T63 l0_1 x14_2).f2) x15_3).f1))) x14_2 (wrap64 (x15_3 + 1)) l0_0 l0_1) else (none)) = some (r1, r2, r3) := by first | (rw [hy226]; with_reducible exact H) | (have H2_ := (Option.bind_some _ _).symm.trans H; rw [hy226]; with_reducible exact H2_) | (have H2_ := (Option.bind_some _ _).symm.trans H; with_reducible exact H2_) | with_reducible exact H | (rw [hy226]; exact H) | exact H
           have Ny226 := Aside0.mk hy226
           clear hy226
           obtain ⟨c40, H⟩ := ifY H
           have LMc40 := Aside0.mk c40
           clear c40
           obtain ⟨y229, hy229⟩ : ∃ y_ : List Int, y_ = (x12_3 ++ [wrap64 (x13_3 + ((rd_T70 ((rd_T63 l0_1 x14_2).f2) x15_3).f1))]) := ⟨_, rfl⟩
           replace H : (spec_AccountStatement.l1 k3 a1 a2 a3 y226 y229 (wrap64 (x13_3 + ((rd_T70 ((rd_T63 l0_1 x14_2).f2) x15_3).f1))) x14_2 (wrap64 (x15_3 + 1)) l0_0 l0_1) = some (r1, r2, r3) := by first | (rw [hy229]; with_reducible exact H) | (have H2_ := (Option.bind_some _ _).symm.trans H; rw [hy229]; with_reducible exact H2_) | (have H2_ := (Option.bind_some _ _).symm.trans H; with_reducible exact H2_) | with_reducible exact H | (rw [hy229]; exact H) | exact H
           have Ny229 := Aside0.mk hy229
           clear hy229
           have H' := Aside0.mk H
           clear H
           have hcz41_0 : wr.cell? ⟨gb209, 0, none⟩ = some (.slice A0_0 l0_0.length c0_0) := (blk_cell BK209.out 0).trans rfl
           have hcz41_1 : wr.cell? ⟨gb209, 1, none⟩ = some (.slice A0_1 l0_1.length c0_1) := (blk_cell BK209.out 1).trans rfl
           have hfz41_0 := blk_frozen BK209.out 0
           have hfz41_1 := blk_frozen BK209.out 1
           have p220 : 0 ≤ (x14_2 : Int) := of_decide_eq_true ZZ853400
           have q220 : x14_2 < (l0_1.length : Int) := of_decide_eq_true ZZ853400
           obtain ⟨ad220, A220_2, c220_2, e220, hx220_0, hx220_1, hx220_2, hl220_2, hi220_2⟩ := at_T63 HR0_1.out x14_2 p220 q220
           cases e220
           replace hx220_0 := (HB.out.cell (World.block_lt_of_cell? w _ hx220_0)).trans hx220_0
           replace hx220_1 := (HB.out.cell (World.block_lt_of_cell? w _ hx220_1)).trans hx220_1
           replace hx220_2 := (HB.out.cell (World.block_lt_of_cell? w _ hx220_2)).trans hx220_2
           have HR220_2 := Aside0.mk hi220_2
           have HC220_2 := Aside0.mk hl220_2
           clear hi220_2 hl220_2
           replace p220 := eq_true p220
           replace q220 := eq_true q220
           have p221 : 0 ≤ (x14_2 : Int) := of_decide_eq_true ZZ853400
           have q221 : x14_2 < (l0_1.length : Int) := of_decide_eq_true ZZ853400
           obtain ⟨ad221, A221_2, c221_2, e221, hx221_0, hx221_1, hx221_2, hl221_2, hi221_2⟩ := at_T63 HR0_1.out x14_2 p221 q221
           obtain rfl : ad220 = ad221 := (by injection e221)
           replace hx221_0 := (HB.out.cell (World.block_lt_of_cell? w _ hx221_0)).trans hx221_0
           replace hx221_1 := (HB.out.cell (World.block_lt_of_cell? w _ hx221_1)).trans hx221_1
           replace hx221_2 := (HB.out.cell (World.block_lt_of_cell? w _ hx221_2)).trans hx221_2
           have HR221_2 := Aside0.mk hi221_2
           have HC221_2 := Aside0.mk hl221_2
           clear hi221_2 hl221_2
           replace p221 := eq_true p221
           replace q221 := eq_true q221
           have ea_ := Option.some.inj (hx220_2.symm.trans hx221_2)
           injection ea_ with ea_ en_ ec_
           subst ea_
           subst ec_
           clear en_
           have p222 : 0 ≤ (x15_3 : Int) := of_decide_eq_true ZZ853400
           have q222 : x15_3 < (((rd_T63 l0_1 x14_2).f2).length : Int) := of_decide_eq_true ZZ853400
           obtain ⟨ad222, e222, hx222_0, hx222_1⟩ := at_T70 HR221_2.out x15_3 p222 q222
           cases e222
           replace hx222_0 := (HB.out.cell (World.block_lt_of_cell? w _ hx222_0)).trans hx222_0
           replace hx222_1 := (HB.out.cell (World.block_lt_of_cell? w _ hx222_1)).trans hx222_1
           replace p222 := eq_true p222
           replace q222 := eq_true q222
           go_wp2_with (first | ((with_reducible refine gate_dst (N := 16) rfl ?_); (try (refine gate_guard (by rfl) ?_; dsimp only)); refine box_event ?hg (N := 16) ?hd (cs := #[.int .i64 0, .int .i64 0]) (t := 70) ?hr ?_; (case hd => rfl); (case hg => rfl); (case hr => first | (go_simp; done) | (go_simp; rfl)); intro gb223 hg w42 hbox hb; replace HO_11 := Aside0.mk (Kd.R_below (zR HO_11) hb); replace HO_12 := Aside0.mk (Kd.R_below (zR HO_12) hb); have BK223 := Aside0.mk (hbox); have GW223 := Aside0.mk ((by rw [hg]; exact (below_size ZZ295621) : w.heap.size ≤ gb223)); have GE223 := Aside0.mk ((by rw [hg]; exact (below_size ZZ295621) : w.heap.size ≤ gb223)); replace HB := Aside0.mk (below_step ZZ295621 hb); have NB209_223 := Aside0.mk ((by rw [hg]; exact Nat.ne_of_lt (blk_lt (zB BK209)) : gb209 ≠ gb223)); have NB223_209 := Aside0.mk ((by rw [hg]; exact Nat.ne_of_gt (blk_lt (zB BK209)) : gb223 ≠ gb209)); replace BK209 := Aside0.mk (blk_below (zB BK209) hb); clear hb hbox hg; have hnb43 := NB223_209.out; have hnc43 := NB209_223.out; have hcz44_0 : w42.cell? ⟨gb223, 0, none⟩ = some (.int .i64 0) := (blk_cell BK223.out 0).trans rfl; have hcz44_1 : w42.cell? ⟨gb223, 1, none⟩ = some (.int .i64 0) := (blk_cell BK223.out 1).trans rfl; have hfz44_0 := blk_frozen BK223.out 0; have hfz44_1 := blk_frozen BK223.out 1; have hcz45_0 : w42.cell? ⟨gb209, 0, none⟩ = some (.slice A0_0 l0_0.length c0_0) := (blk_cell BK209.out 0).trans rfl; have hcz45_1 : w42.cell? ⟨gb209, 1, none⟩ = some (.slice (some ad220) l0_1.length c0_1) := (blk_cell BK209.out 1).trans rfl; have hfz45_0 := blk_frozen BK209.out 0; have hfz45_1 := blk_frozen BK209.out 1; have p224 : 0 ≤ (x14_2 : Int) := of_decide_eq_true ZZ853400; have q224 : x14_2 < (l0_1.length : Int) := of_decide_eq_true ZZ853400; obtain ⟨ad224, A224_2, c224_2, e224, hx224_0, hx224_1, hx224_2, hl224_2, hi224_2⟩ := at_T63 HR0_1.out x14_2 p224 q224; obtain rfl : ad220 = ad224 := (by injection e224); have hn224_0 : ad220.block ≠ gb223 := Nat.ne_of_lt (Nat.lt_of_lt_of_le (by have := World.block_lt_of_cell? _ _ hx224_0; first | rwa [add_block] at this | exact this) GW223.out); have hn224_1 : ad220.block ≠ gb223 := Nat.ne_of_lt (Nat.lt_of_lt_of_le (by have := World.block_lt_of_cell? _ _ hx224_0; first | rwa [add_block] at this | exact this) GW223.out); replace hx224_0 := (HB.out.cell (World.block_lt_of_cell? w _ hx224_0)).trans hx224_0; replace hx224_1 := (HB.out.cell (World.block_lt_of_cell? w _ hx224_1)).trans hx224_1; replace hx224_2 := (HB.out.cell (World.block_lt_of_cell? w _ hx224_2)).trans hx224_2; have HR224_2 := Aside0.mk hi224_2; have HC224_2 := Aside0.mk hl224_2; clear hi224_2 hl224_2; replace hx224_0 := (cell_far (p := ⟨gb223, 0, none⟩) ZZe2ab6b (.int .i64 ((rd_T70 ((rd_T63 l0_1 x14_2).f2) x15_3).f0))).trans hx224_0; replace hx224_1 := (cell_far (p := ⟨gb223, 0, none⟩) ZZe2ab6b (.int .i64 ((rd_T70 ((rd_T63 l0_1 x14_2).f2) x15_3).f0))).trans hx224_1; replace hx224_2 := (cell_far (p := ⟨gb223, 0, none⟩) ZZe2ab6b (.int .i64 ((rd_T70 ((rd_T63 l0_1 x14_2).f2) x15_3).f0))).trans hx224_2; replace hx224_0 := (cell_far (p := ⟨gb223, 1, none⟩) ZZ404a90 (.int .i64 ((rd_T70 ((rd_T63 l0_1 x14_2).f2) x15_3).f1))).trans hx224_0; replace hx224_1 := (cell_far (p := ⟨gb223, 1, none⟩) ZZ404a90 (.int .i64 ((rd_T70 ((rd_T63 l0_1 x14_2).f2) x15_3).f1))).trans hx224_1; replace hx224_2 := (cell_far (p := ⟨gb223, 1, none⟩) ZZ404a90 (.int .i64 ((rd_T70 ((rd_T63 l0_1 x14_2).f2) x15_3).f1))).trans hx224_2; clear hn224_0; clear hn224_1; replace p224 := eq_true p224; replace q224 := eq_true q224) | ((with_reducible refine gate_callee (f := 65) rfl ?_); refine goesL_ (some 86) rfl rfl Tryd.func65 (by kernel_rfl) rfl #[.int .i64 ((rd_T63 l0_1 x14_2).f0), .int .i64 a2, .int .i64 a3] rfl ZZ19826e ?_; (with_reducible refine (spec_l1In.calls ((rd_T63 l0_1 x14_2).f0) a2 a3 true _ A37.out).mono ?_); rintro e w' ⟨rfl, ⟨nd, rfl⟩⟩; refine ⟨_, rfl, ?_⟩) | ((with_reducible refine gate_builtin (b := .append) (xs := #[.tmp 87, .tmp 89]) rfl ?_); (try (refine gate_guard (by rfl) ?_; dsimp only)); at_builtin; refine Kd.R_append (Kd.int .i64) (w0 := w) w.heap.size rfl (.tmp 87) (.tmp 89) 44 3 (.int .i64 0) 8 rfl Tryd.underlying44 info3 rfl (by decide) (by omega) u11 x11_3 x14_2 [.int .i64 x14_2] (fun k_ => some k_ ≠ (u12 : Value).ownBlock) (fun _ => False) rfl (by first | (go_simp; done) | (go_simp; rfl)) ?aP (fun _ hk => hk.elim) ?aF ?aO ?aB ?aS ?aL ?_; (case aP => exact rfl); (case aB => exact ZZ295621); (case aF => exact (fun k_ hk => Kd.fresh' (Kd.R_lt (by (with_reducible repeat (first | apply Kd.R_alloc | apply Kd.R_drewN | apply Kd.R_drew)); exact (Kd.R_mono (Kd.R_far (p := ⟨gb223, 1, none⟩) (Kd.R_far (p := ⟨gb223, 0, none⟩) (Kd.R_types HO_12.out BK223.out (by decide)) (fun _ hk => hk.2) (.int .i64 ((rd_T70 ((rd_T63 l0_1 x14_2).f2) x15_3).f0))) (fun _ hk => hk.2) (.int .i64 ((rd_T70 ((rd_T63 l0_1 x14_2).f2) x15_3).f1))) (fun _ h_ => h_.1)))) k_ hk)); (case aO => exact ZZ1be17e); (case aS => exact (below_size ZZ295621)); (case aL => have := LMc39.out; omega); intro v227 w46 ho hb hg hat; rw [← Ny226.out] at ho; replace HO_12 := Aside0.mk (Kd.R_after (ok := (fun _ => True)) (by (with_reducible repeat (first | apply Kd.R_alloc | apply Kd.R_drewN | apply Kd.R_drew)); exact Kd.R_mono (Kd.R_far (p := ⟨gb223, 1, none⟩) (Kd.R_far (p := ⟨gb223, 0, none⟩) (Kd.R_types HO_12.out BK223.out (by decide)) (fun _ hk => hk.2) (.int .i64 ((rd_T70 ((rd_T63 l0_1 x14_2).f2) x15_3).f0))) (fun _ hk => hk.2) (.int .i64 ((rd_T70 ((rd_T63 l0_1 x14_2).f2) x15_3).f1))) (fun _ hk => ⟨trivial, hk.1⟩)) hg hat); replace BK209 := Aside0.mk (blk_grown (g := gb209) (o := .cells #[.slice A0_0 l0_0.length c0_0, .slice (some ad220) l0_1.length c0_1] 31 (0, 0)) ZZa95532 hg (Kd.R_ne HO_11.out BK209.out (by decide))); replace BK223 := Aside0.mk (blk_grown (g := gb223) (o := .cells #[.int .i64 ((rd_T70 ((rd_T63 l0_1 x14_2).f2) x15_3).f0), .int .i64 ((rd_T70 ((rd_T63 l0_1 x14_2).f2) x15_3).f1)] 70 (0, 0)) (by (with_reducible repeat (first | refine blk_drewN ?_ _ | refine blk_drew ?_ | refine blk_alloc ?_ _)); refine blk_put (cs := #[.int .i64 ((rd_T70 ((rd_T63 l0_1 x14_2).f2) x15_3).f0), .int .i64 0]) ?_ 1 _ rfl; (with_reducible repeat (first | refine blk_drewN ?_ _ | refine blk_drew ?_ | refine blk_alloc ?_ _)); refine blk_put (cs := #[.int .i64 0, .int .i64 0]) ?_ 0 _ rfl; (with_reducible repeat (first | refine blk_drewN ?_ _ | refine blk_drew ?_ | refine blk_alloc ?_ _)); exact BK223.out) hg (Kd.R_ne HO_11.out BK223.out (by decide))); replace HB := Aside0.mk (hb); have HO228 := Aside0.mk (ho); clear HO_11; clear ho hb hg hat) | ((with_reducible refine gate_builtin (b := .append) (xs := #[.tmp 91, .tmp 93]) rfl ?_); (try (refine gate_guard (by rfl) ?_; dsimp only)); at_builtin; refine Kd.R_append (Kd.int .i64) (w0 := w) w.heap.size rfl (.tmp 91) (.tmp 93) 44 3 (.int .i64 0) 8 rfl Tryd.underlying44 info3 rfl (by decide) (by omega) u12 x12_3 (wrap64 (x13_3 + ((rd_T70 ((rd_T63 l0_1 x14_2).f2) x15_3).f1))) [.int .i64 (wrap64 (x13_3 + ((rd_T70 ((rd_T63 l0_1 x14_2).f2) x15_3).f1)))] (fun k_ => some k_ ≠ (v227 : Value).ownBlock) (fun _ => False) rfl rfl ?aP (fun _ hk => hk.elim) ?aF ?aO ?aB ?aS ?aL ?_; (case aP => exact rfl); (case aB => exact ZZ295621); (case aF => exact (fun k_ hk => Kd.fresh' (Kd.R_lt (zR HO228)) k_ hk)); (case aO => exact (by (with_reducible repeat (first | apply Kd.R_alloc | apply Kd.R_drewN | apply Kd.R_drew)); exact Kd.R_mono HO_12.out (fun _ hk => hk.2))); (case aS => exact (below_size ZZ295621)); (case aL => have := LMc40.out; omega); intro v230 w47 ho hb hg hat; rw [← Ny229.out] at ho; replace BK209 := Aside0.mk (blk_grown (zB BK209) hg (Kd.R_ne HO_12.out BK209.out (by decide))); replace BK223 := Aside0.mk (blk_grown (zB BK223) hg (Kd.R_ne HO_12.out BK223.out (by decide))); replace HO228 := Aside0.mk (Kd.R_after (ok := (fun _ => True)) (by (with_reducible repeat (first | apply Kd.R_alloc | apply Kd.R_drewN | apply Kd.R_drew)); exact Kd.R_mono HO228.out (fun _ hk => ⟨trivial, hk⟩)) hg hat); replace HB := Aside0.mk (hb); have HO231 := Aside0.mk (ho); clear HO_12; clear ho hb hg hat))
           go_roundg k3
           case measure => have := HJ4.out; have := HK2.out; have := HK3.out; omega
           case rel => exact ⟨(y226), (y229), (wrap64 (x13_3 + ((rd_T70 ((rd_T63 l0_1 x14_2).f2) x15_3).f1))), (wrap64 (x15_3 + 1)), ZZ0ab324, ZZ0ab324, H', ⟨(by have := HJ4.out; have := HK2.out; have := HK3.out; omega)⟩, ⟨(by (with_reducible repeat (first | apply Kd.R_alloc | apply Kd.R_drewN | apply Kd.R_drew)); exact Kd.R_mono HO228.out (fun _ hk => hk.2))⟩, ⟨(zR HO231)⟩, ⟨(zB BK209)⟩, ⟨ZZ295621⟩⟩
          replace c38 := Bool.eq_false_iff.mpr c38
          subst c38
          have H1 : (spec_AccountStatement.l1 k3 a1 a2 a3 x11_3 x12_3 (wrap64 (x13_3 + ((rd_T70 ((rd_T63 l0_1 x14_2).f2) x15_3).f1))) x14_2 (wrap64 (x15_3 + 1)) l0_0 l0_1) = some (r1, r2, r3) := by rw [if_neg (show ¬ (false = true) by decide)] at H; exact H
          clear H
          have H := H1
          clear H1
          have H' := Aside0.mk H
          clear H
          have hcz48_0 : wr.cell? ⟨gb209, 0, none⟩ = some (.slice A0_0 l0_0.length c0_0) := (blk_cell BK209.out 0).trans rfl
          have hcz48_1 : wr.cell? ⟨gb209, 1, none⟩ = some (.slice A0_1 l0_1.length c0_1) := (blk_cell BK209.out 1).trans rfl
          have hfz48_0 := blk_frozen BK209.out 0
          have hfz48_1 := blk_frozen BK209.out 1
          have p220 : 0 ≤ (x14_2 : Int) := of_decide_eq_true ZZ853400
          have q220 : x14_2 < (l0_1.length : Int) := of_decide_eq_true ZZ853400
          obtain ⟨ad220, A220_2, c220_2, e220, hx220_0, hx220_1, hx220_2, hl220_2, hi220_2⟩ := at_T63 HR0_1.out x14_2 p220 q220
          cases e220
          replace hx220_0 := (HB.out.cell (World.block_lt_of_cell? w _ hx220_0)).trans hx220_0
          replace hx220_1 := (HB.out.cell (World.block_lt_of_cell? w _ hx220_1)).trans hx220_1
          replace hx220_2 := (HB.out.cell (World.block_lt_of_cell? w _ hx220_2)).trans hx220_2
          have HR220_2 := Aside0.mk hi220_2
          have HC220_2 := Aside0.mk hl220_2
          clear hi220_2 hl220_2
          replace p220 := eq_true p220
          replace q220 := eq_true q220
          have p221 : 0 ≤ (x14_2 : Int) := of_decide_eq_true ZZ853400
          have q221 : x14_2 < (l0_1.length : Int) := of_decide_eq_true ZZ853400
          obtain ⟨ad221, A221_2, c221_2, e221, hx221_0, hx221_1, hx221_2, hl221_2, hi221_2⟩ := at_T63 HR0_1.out x14_2 p221 q221
          obtain rfl : ad220 = ad221 := (by injection e221)
          replace hx221_0 := (HB.out.cell (World.block_lt_of_cell? w _ hx221_0)).trans hx221_0
          replace hx221_1 := (HB.out.cell (World.block_lt_of_cell? w _ hx221_1)).trans hx221_1
          replace hx221_2 := (HB.out.cell (World.block_lt_of_cell? w _ hx221_2)).trans hx221_2
          have HR221_2 := Aside0.mk hi221_2
          have HC221_2 := Aside0.mk hl221_2
          clear hi221_2 hl221_2
          replace p221 := eq_true p221
          replace q221 := eq_true q221
          have ea_ := Option.some.inj (hx220_2.symm.trans hx221_2)
          injection ea_ with ea_ en_ ec_
          subst ea_
          subst ec_
          clear en_
          have p222 : 0 ≤ (x15_3 : Int) := of_decide_eq_true ZZ853400
          have q222 : x15_3 < (((rd_T63 l0_1 x14_2).f2).length : Int) := of_decide_eq_true ZZ853400
          obtain ⟨ad222, e222, hx222_0, hx222_1⟩ := at_T70 HR221_2.out x15_3 p222 q222
          cases e222
          replace hx222_0 := (HB.out.cell (World.block_lt_of_cell? w _ hx222_0)).trans hx222_0
          replace hx222_1 := (HB.out.cell (World.block_lt_of_cell? w _ hx222_1)).trans hx222_1
          replace p222 := eq_true p222
          replace q222 := eq_true q222
          go_wp2_with (first | ((with_reducible refine gate_dst (N := 16) rfl ?_); (try (refine gate_guard (by rfl) ?_; dsimp only)); refine box_event ?hg (N := 16) ?hd (cs := #[.int .i64 0, .int .i64 0]) (t := 70) ?hr ?_; (case hd => rfl); (case hg => rfl); (case hr => first | (go_simp; done) | (go_simp; rfl)); intro gb223 hg w49 hbox hb; replace HO_11 := Aside0.mk (Kd.R_below (zR HO_11) hb); replace HO_12 := Aside0.mk (Kd.R_below (zR HO_12) hb); have BK223 := Aside0.mk (hbox); have GW223 := Aside0.mk ((by rw [hg]; exact (below_size ZZ295621) : w.heap.size ≤ gb223)); have GE223 := Aside0.mk ((by rw [hg]; exact (below_size ZZ295621) : w.heap.size ≤ gb223)); replace HB := Aside0.mk (below_step ZZ295621 hb); have NB209_223 := Aside0.mk ((by rw [hg]; exact Nat.ne_of_lt (blk_lt (zB BK209)) : gb209 ≠ gb223)); have NB223_209 := Aside0.mk ((by rw [hg]; exact Nat.ne_of_gt (blk_lt (zB BK209)) : gb223 ≠ gb209)); replace BK209 := Aside0.mk (blk_below (zB BK209) hb); clear hb hbox hg; have hnb50 := NB223_209.out; have hnc50 := NB209_223.out; have hcz51_0 : w49.cell? ⟨gb223, 0, none⟩ = some (.int .i64 0) := (blk_cell BK223.out 0).trans rfl; have hcz51_1 : w49.cell? ⟨gb223, 1, none⟩ = some (.int .i64 0) := (blk_cell BK223.out 1).trans rfl; have hfz51_0 := blk_frozen BK223.out 0; have hfz51_1 := blk_frozen BK223.out 1; have hcz52_0 : w49.cell? ⟨gb209, 0, none⟩ = some (.slice A0_0 l0_0.length c0_0) := (blk_cell BK209.out 0).trans rfl; have hcz52_1 : w49.cell? ⟨gb209, 1, none⟩ = some (.slice (some ad220) l0_1.length c0_1) := (blk_cell BK209.out 1).trans rfl; have hfz52_0 := blk_frozen BK209.out 0; have hfz52_1 := blk_frozen BK209.out 1; have p224 : 0 ≤ (x14_2 : Int) := of_decide_eq_true ZZ853400; have q224 : x14_2 < (l0_1.length : Int) := of_decide_eq_true ZZ853400; obtain ⟨ad224, A224_2, c224_2, e224, hx224_0, hx224_1, hx224_2, hl224_2, hi224_2⟩ := at_T63 HR0_1.out x14_2 p224 q224; obtain rfl : ad220 = ad224 := (by injection e224); have hn224_0 : ad220.block ≠ gb223 := Nat.ne_of_lt (Nat.lt_of_lt_of_le (by have := World.block_lt_of_cell? _ _ hx224_0; first | rwa [add_block] at this | exact this) GW223.out); have hn224_1 : ad220.block ≠ gb223 := Nat.ne_of_lt (Nat.lt_of_lt_of_le (by have := World.block_lt_of_cell? _ _ hx224_0; first | rwa [add_block] at this | exact this) GW223.out); replace hx224_0 := (HB.out.cell (World.block_lt_of_cell? w _ hx224_0)).trans hx224_0; replace hx224_1 := (HB.out.cell (World.block_lt_of_cell? w _ hx224_1)).trans hx224_1; replace hx224_2 := (HB.out.cell (World.block_lt_of_cell? w _ hx224_2)).trans hx224_2; have HR224_2 := Aside0.mk hi224_2; have HC224_2 := Aside0.mk hl224_2; clear hi224_2 hl224_2; replace hx224_0 := (cell_far (p := ⟨gb223, 0, none⟩) ZZe2ab6b (.int .i64 ((rd_T70 ((rd_T63 l0_1 x14_2).f2) x15_3).f0))).trans hx224_0; replace hx224_1 := (cell_far (p := ⟨gb223, 0, none⟩) ZZe2ab6b (.int .i64 ((rd_T70 ((rd_T63 l0_1 x14_2).f2) x15_3).f0))).trans hx224_1; replace hx224_2 := (cell_far (p := ⟨gb223, 0, none⟩) ZZe2ab6b (.int .i64 ((rd_T70 ((rd_T63 l0_1 x14_2).f2) x15_3).f0))).trans hx224_2; replace hx224_0 := (cell_far (p := ⟨gb223, 1, none⟩) ZZ404a90 (.int .i64 ((rd_T70 ((rd_T63 l0_1 x14_2).f2) x15_3).f1))).trans hx224_0; replace hx224_1 := (cell_far (p := ⟨gb223, 1, none⟩) ZZ404a90 (.int .i64 ((rd_T70 ((rd_T63 l0_1 x14_2).f2) x15_3).f1))).trans hx224_1; replace hx224_2 := (cell_far (p := ⟨gb223, 1, none⟩) ZZ404a90 (.int .i64 ((rd_T70 ((rd_T63 l0_1 x14_2).f2) x15_3).f1))).trans hx224_2; clear hn224_0; clear hn224_1; replace p224 := eq_true p224; replace q224 := eq_true q224) | ((with_reducible refine gate_callee (f := 65) rfl ?_); refine goesL_ (some 86) rfl rfl Tryd.func65 (by kernel_rfl) rfl #[.int .i64 ((rd_T63 l0_1 x14_2).f0), .int .i64 a2, .int .i64 a3] rfl ZZ19826e ?_; (with_reducible refine (spec_l1In.calls ((rd_T63 l0_1 x14_2).f0) a2 a3 false _ A37.out).mono ?_); rintro e w' ⟨rfl, ⟨nd, rfl⟩⟩; refine ⟨_, rfl, ?_⟩))
          go_roundg k3
          case measure => have := HJ4.out; have := HK2.out; have := HK3.out; omega
          case rel => exact ⟨(x11_3), (x12_3), (wrap64 (x13_3 + ((rd_T70 ((rd_T63 l0_1 x14_2).f2) x15_3).f1))), (wrap64 (x15_3 + 1)), ZZ0ab324, ZZ0ab324, H', ⟨(by have := HJ4.out; have := HK2.out; have := HK3.out; omega)⟩, ⟨ZZ1be17e⟩, ⟨(by (with_reducible repeat (first | apply Kd.R_alloc | apply Kd.R_drewN | apply Kd.R_drew)); exact Kd.R_mono (Kd.R_far (p := ⟨gb223, 1, none⟩) (Kd.R_far (p := ⟨gb223, 0, none⟩) (Kd.R_types HO_12.out BK223.out (by decide)) (fun _ hk => hk.2) (.int .i64 ((rd_T70 ((rd_T63 l0_1 x14_2).f2) x15_3).f0))) (fun _ hk => hk.2) (.int .i64 ((rd_T70 ((rd_T63 l0_1 x14_2).f2) x15_3).f1))) (fun _ hk => hk.1))⟩, ⟨ZZa95532⟩, ⟨ZZ295621⟩⟩
         rw [if_neg c36] at H
         have c36b0 := beq_eq_false_iff_ne.mpr c36
         have c36b1 := bne_iff_ne.mpr c36
         have H' := Aside0.mk H
         clear H
         have hcz53_0 : wr.cell? ⟨gb209, 0, none⟩ = some (.slice A0_0 l0_0.length c0_0) := (blk_cell BK209.out 0).trans rfl
         have hcz53_1 : wr.cell? ⟨gb209, 1, none⟩ = some (.slice A0_1 l0_1.length c0_1) := (blk_cell BK209.out 1).trans rfl
         have hfz53_0 := blk_frozen BK209.out 0
         have hfz53_1 := blk_frozen BK209.out 1
         have p220 : 0 ≤ (x14_2 : Int) := of_decide_eq_true ZZ853400
         have q220 : x14_2 < (l0_1.length : Int) := of_decide_eq_true ZZ853400
         obtain ⟨ad220, A220_2, c220_2, e220, hx220_0, hx220_1, hx220_2, hl220_2, hi220_2⟩ := at_T63 HR0_1.out x14_2 p220 q220
         cases e220
         replace hx220_0 := (HB.out.cell (World.block_lt_of_cell? w _ hx220_0)).trans hx220_0
         replace hx220_1 := (HB.out.cell (World.block_lt_of_cell? w _ hx220_1)).trans hx220_1
         replace hx220_2 := (HB.out.cell (World.block_lt_of_cell? w _ hx220_2)).trans hx220_2
         have HR220_2 := Aside0.mk hi220_2
         have HC220_2 := Aside0.mk hl220_2
         clear hi220_2 hl220_2
         replace p220 := eq_true p220
         replace q220 := eq_true q220
         have p221 : 0 ≤ (x14_2 : Int) := of_decide_eq_true ZZ853400
         have q221 : x14_2 < (l0_1.length : Int) := of_decide_eq_true ZZ853400
         obtain ⟨ad221, A221_2, c221_2, e221, hx221_0, hx221_1, hx221_2, hl221_2, hi221_2⟩ := at_T63 HR0_1.out x14_2 p221 q221
         obtain rfl : ad220 = ad221 := (by injection e221)
         replace hx221_0 := (HB.out.cell (World.block_lt_of_cell? w _ hx221_0)).trans hx221_0
         replace hx221_1 := (HB.out.cell (World.block_lt_of_cell? w _ hx221_1)).trans hx221_1
         replace hx221_2 := (HB.out.cell (World.block_lt_of_cell? w _ hx221_2)).trans hx221_2
         have HR221_2 := Aside0.mk hi221_2
         have HC221_2 := Aside0.mk hl221_2
         clear hi221_2 hl221_2
         replace p221 := eq_true p221
         replace q221 := eq_true q221
         have ea_ := Option.some.inj (hx220_2.symm.trans hx221_2)
         injection ea_ with ea_ en_ ec_
         subst ea_
         subst ec_
         clear en_
         have p222 : 0 ≤ (x15_3 : Int) := of_decide_eq_true ZZ853400
         have q222 : x15_3 < (((rd_T63 l0_1 x14_2).f2).length : Int) := of_decide_eq_true ZZ853400
         obtain ⟨ad222, e222, hx222_0, hx222_1⟩ := at_T70 HR221_2.out x15_3 p222 q222
         cases e222
         replace hx222_0 := (HB.out.cell (World.block_lt_of_cell? w _ hx222_0)).trans hx222_0
         replace hx222_1 := (HB.out.cell (World.block_lt_of_cell? w _ hx222_1)).trans hx222_1
         replace p222 := eq_true p222
         replace q222 := eq_true q222
         go_wp2_with (first | ((with_reducible refine gate_dst (N := 16) rfl ?_); (try (refine gate_guard (by rfl) ?_; dsimp only)); refine box_event ?hg (N := 16) ?hd (cs := #[.int .i64 0, .int .i64 0]) (t := 70) ?hr ?_; (case hd => rfl); (case hg => rfl); (case hr => first | (go_simp; done) | (go_simp; rfl)); intro gb223 hg w54 hbox hb; replace HO_11 := Aside0.mk (Kd.R_below (zR HO_11) hb); replace HO_12 := Aside0.mk (Kd.R_below (zR HO_12) hb); have BK223 := Aside0.mk (hbox); have GW223 := Aside0.mk ((by rw [hg]; exact (below_size ZZ295621) : w.heap.size ≤ gb223)); have GE223 := Aside0.mk ((by rw [hg]; exact (below_size ZZ295621) : w.heap.size ≤ gb223)); replace HB := Aside0.mk (below_step ZZ295621 hb); have NB209_223 := Aside0.mk ((by rw [hg]; exact Nat.ne_of_lt (blk_lt (zB BK209)) : gb209 ≠ gb223)); have NB223_209 := Aside0.mk ((by rw [hg]; exact Nat.ne_of_gt (blk_lt (zB BK209)) : gb223 ≠ gb209)); replace BK209 := Aside0.mk (blk_below (zB BK209) hb); clear hb hbox hg; have hnb55 := NB223_209.out; have hnc55 := NB209_223.out; have hcz56_0 : w54.cell? ⟨gb223, 0, none⟩ = some (.int .i64 0) := (blk_cell BK223.out 0).trans rfl; have hcz56_1 : w54.cell? ⟨gb223, 1, none⟩ = some (.int .i64 0) := (blk_cell BK223.out 1).trans rfl; have hfz56_0 := blk_frozen BK223.out 0; have hfz56_1 := blk_frozen BK223.out 1))
         go_roundg k3
         case measure => have := HJ4.out; have := HK2.out; have := HK3.out; omega
         case rel => exact ⟨(x11_3), (x12_3), (x13_3), (wrap64 (x15_3 + 1)), ZZ0ab324, ZZ0ab324, H', ⟨(by have := HJ4.out; have := HK2.out; have := HK3.out; omega)⟩, ⟨ZZ1be17e⟩, ⟨(by (with_reducible repeat (first | apply Kd.R_alloc | apply Kd.R_drewN | apply Kd.R_drew)); exact Kd.R_mono (Kd.R_far (p := ⟨gb223, 1, none⟩) (Kd.R_far (p := ⟨gb223, 0, none⟩) (Kd.R_types HO_12.out BK223.out (by decide)) (fun _ hk => hk.2) (.int .i64 ((rd_T70 ((rd_T63 l0_1 x14_2).f2) x15_3).f0))) (fun _ hk => hk.2) (.int .i64 ((rd_T70 ((rd_T63 l0_1 x14_2).f2) x15_3).f1))) (fun _ hk => hk.1))⟩, ⟨ZZa95532⟩, ⟨ZZ295621⟩⟩
        rw [if_neg c34] at H
        have c34b0 := decide_eq_false c34
        clear c34
        have H' := Aside0.mk H
        clear H
        have hcz57_0 : wr.cell? ⟨gb209, 0, none⟩ = some (.slice A0_0 l0_0.length c0_0) := (blk_cell BK209.out 0).trans rfl
        have hcz57_1 : wr.cell? ⟨gb209, 1, none⟩ = some (.slice A0_1 l0_1.length c0_1) := (blk_cell BK209.out 1).trans rfl
        have hfz57_0 := blk_frozen BK209.out 0
        have hfz57_1 := blk_frozen BK209.out 1
        have p220 : 0 ≤ (x14_2 : Int) := of_decide_eq_true ZZ853400
        have q220 : x14_2 < (l0_1.length : Int) := of_decide_eq_true ZZ853400
        obtain ⟨ad220, A220_2, c220_2, e220, hx220_0, hx220_1, hx220_2, hl220_2, hi220_2⟩ := at_T63 HR0_1.out x14_2 p220 q220
        cases e220
        replace hx220_0 := (HB.out.cell (World.block_lt_of_cell? w _ hx220_0)).trans hx220_0
        replace hx220_1 := (HB.out.cell (World.block_lt_of_cell? w _ hx220_1)).trans hx220_1
        replace hx220_2 := (HB.out.cell (World.block_lt_of_cell? w _ hx220_2)).trans hx220_2
        have HR220_2 := Aside0.mk hi220_2
        have HC220_2 := Aside0.mk hl220_2
        clear hi220_2 hl220_2
        replace p220 := eq_true p220
        replace q220 := eq_true q220
        go_wp2
        go_roundg k3
        case measure => have := HJ4.out; have := HK2.out; have := HK3.out; omega
        case rel => exact ⟨(x11_3), (x12_3), (x13_3), (wrap64 (x14_2 + 1)), ZZ0ab324, ZZ0ab324, H', ⟨(by have := HJ4.out; have := HK2.out; have := HK3.out; omega)⟩, ⟨(zR HO_11)⟩, ⟨(zR HO_12)⟩, ⟨(zB BK209)⟩, ⟨ZZ295621⟩⟩
     rw [if_neg c30] at H
     have c30b0 := decide_eq_false c30
     clear c30
     simp only [Option.some.injEq, Prod.mk.injEq] at H
     obtain ⟨rfl, rfl, rfl⟩ := H
     have hcz58_0 : wr.cell? ⟨gb209, 0, none⟩ = some (.slice A0_0 l0_0.length c0_0) := (blk_cell BK209.out 0).trans rfl
     have hcz58_1 : wr.cell? ⟨gb209, 1, none⟩ = some (.slice A0_1 l0_1.length c0_1) := (blk_cell BK209.out 1).trans rfl
     have hfz58_0 := blk_frozen BK209.out 0
     have hfz58_1 := blk_frozen BK209.out 1
     go_wp2
     go_ret3
     exact ⟨_, _, ZZab01d2, (zR HO_11), (zR HO_12), ZZ295621⟩
/-! ### impl_within: function 56 -/
def impl_within.f (a0 : Int) (a1 : Int) (a2 : Int) : Option (Bool) := if a0 ≥ a1 then (some (decide (a0 ≤ a2))) else (some false)
set_option maxHeartbeats 8000000 in
set_option maxRecDepth 100000 in
theorem impl_within.calls (a0 : Int) (a1 : Int) (a2 : Int) (r : Bool) (w : World) (h : impl_within.f a0 a1 a2 = some r) :
 Calls Tryd.prog 56 #[.int .i64 a0, .int .i64 a1, .int .i64 a2] w fun e w' => e = .returned (.bool r) ∧ Drawn0 w w' := by
 have H := h
 clear h
 unfold impl_within.f at H
 by_cases c4 : a0 ≥ a1
 ·rw [if_pos c4] at H
  have c4b0 : decide (a1 ≤ a0) = true := decide_eq_true c4
  clear c4
  obtain rfl := Option.some.inj H
  go_enter Tryd.func56, Tryd.ntmps56
  go_wp2
  go_ret
  exact ⟨ZZ0ab324, ZZ965307⟩
 rw [if_neg c4] at H
 have c4b0 : decide (a1 ≤ a0) = false := decide_eq_false c4
 clear c4
 obtain rfl := Option.some.inj H
 go_enter Tryd.func56, Tryd.ntmps56
 go_wp2
 go_ret
 exact ⟨ZZ0ab324, ZZ965307⟩
/-! ### impl_isAccountName: function 55 -/
def impl_isAccountName.f (a0 : ByteArray) : Option (Bool) := (impl_within.f (a0.size : Int) 1 8).bind fun t232 => (if t232 = true then ((strings_Trim.f a0 (⟨#[97, 98, 99, 100, 101, 102, 103, 104, 105, 106, 107, 108, 109, 110, 111, 112, 113, 114, 115, 116, 117, 118, 119, 120, 121, 122]⟩ : ByteArray)).bind fun t233 => (some (t233.toList == ([] : List UInt8)))) else (some false))
set_option maxHeartbeats 8000000 in
set_option maxRecDepth 100000 in
theorem impl_isAccountName.calls (a0 : ByteArray) (r : Bool) (w : World) (h : impl_isAccountName.f a0 = some r) :
 Calls Tryd.prog 55 #[.string a0] w fun e w' => e = .returned (.bool r) ∧ Below w.heap.size w w' := by
 have HB := Aside0.mk (Below.refl w.heap.size w)
 have H := h
 clear h
 unfold impl_isAccountName.f at H
 obtain ⟨t232, A2, H⟩ := bdY H
 by_cases c3 : t232 = true
 ·subst c3
  have H1 : ((strings_Trim.f a0 (⟨#[97, 98, 99, 100, 101, 102, 103, 104, 105, 106, 107, 108, 109, 110, 111, 112, 113, 114, 115, 116, 117, 118, 119, 120, 121, 122]⟩ : ByteArray)).bind fun t233 => (some (t233.toList == ([] : List UInt8)))) = some r := by rw [if_pos rfl] at H; exact H
  clear H
  have H := H1
  clear H1
  obtain ⟨t233, A4, H⟩ := bdY H
  obtain rfl := Option.some.inj H
  go_enter Tryd.func55, Tryd.ntmps55
  go_wp2_with (first | ((with_reducible refine gate_callee (f := 56) rfl ?_); refine goesL_ (some 5) rfl rfl Tryd.func56 (by kernel_rfl) rfl #[.int .i64 (a0.size : Int), .int .i64 1, .int .i64 8] rfl ZZ19826e ?_; (with_reducible refine (impl_within.calls (a0.size : Int) 1 8 true _ A2.out).mono ?_); rintro e w' ⟨rfl, ⟨nd, rfl⟩⟩; refine ⟨_, rfl, ?_⟩) | (go_at_call 104; (with_reducible refine (strings_Trim.calls a0 (⟨#[97, 98, 99, 100, 101, 102, 103, 104, 105, 106, 107, 108, 109, 110, 111, 112, 113, 114, 115, 116, 117, 118, 119, 120, 121, 122]⟩ : ByteArray) t233 _ A4.out).mono ?_); rintro e w5 ⟨rfl, hb⟩; replace HB := Aside0.mk (below_step ZZ605003 hb); (try clear hb); (try clear hb2); (try clear hk); (try clear hi)))
  go_ret
  exact ⟨ZZab01d2, ZZ605003⟩
 replace c3 := Bool.eq_false_iff.mpr c3
 subst c3
 have H1 : (some false) = some r := by rw [if_neg (show ¬ (false = true) by decide)] at H; exact H
 clear H
 have H := H1
 clear H1
 obtain rfl := Option.some.inj H
 go_enter Tryd.func55, Tryd.ntmps55
 go_wp2_with (first | ((with_reducible refine gate_callee (f := 56) rfl ?_); refine goesL_ (some 5) rfl rfl Tryd.func56 (by kernel_rfl) rfl #[.int .i64 (a0.size : Int), .int .i64 1, .int .i64 8] rfl ZZ19826e ?_; (with_reducible refine (impl_within.calls (a0.size : Int) 1 8 false _ A2.out).mono ?_); rintro e w' ⟨rfl, ⟨nd, rfl⟩⟩; refine ⟨_, rfl, ?_⟩))
 go_ret
 exact ⟨ZZab01d2, ZZ605003⟩
-- NOT PRINTED: function 105 (impl_Account_105)
-- NOT PRINTED: function 57 (impl_Account_57)
-- NOT PRINTED: function 58 (impl_IsValidLedger_1)
/-! ### impl_isDay: function 59 -/
def impl_isDay.f (a0 : Int) : Option (Bool) := (impl_within.f a0 0 36524).bind fun t235 => (some t235)
set_option maxHeartbeats 8000000 in
set_option maxRecDepth 100000 in
theorem impl_isDay.calls (a0 : Int) (r : Bool) (w : World) (h : impl_isDay.f a0 = some r) :
 Calls Tryd.prog 59 #[.int .i64 a0] w fun e w' => e = .returned (.bool r) ∧ Drawn0 w w' := by
 have H := h
 clear h
 unfold impl_isDay.f at H
 obtain ⟨t235, A2, H⟩ := bdY H
 obtain rfl := Option.some.inj H
 go_enter Tryd.func59, Tryd.ntmps59
 go_wp2_with (first | ((with_reducible refine gate_callee (f := 56) rfl ?_); refine goesL_ (some 4) rfl rfl Tryd.func56 (by kernel_rfl) rfl #[.int .i64 a0, .int .i64 0, .int .i64 36524] rfl ZZ19826e ?_; (with_reducible refine (impl_within.calls a0 0 36524 t235 _ A2.out).mono ?_); rintro e w' ⟨rfl, ⟨nd, rfl⟩⟩; refine ⟨_, rfl, ?_⟩))
 go_ret
 exact ⟨ZZ0ab324, ZZ965307⟩
/-! ### impl_isMemo: function 60 -/
def impl_isMemo.l0 : Nat → ByteArray → Int → Int → Option (Bool)
 | 0, _, _, _ => none
 | k + 1, x0, x5, x6 => if x6 < x5 then (if 0 ≤ x6 then (if x6 < (x0.size : Int) then (if (bt x0 x6) < 32 then (some false) else (if (bt x0 x6) > 126 then (some false) else (impl_isMemo.l0 k x0 x5 (wrap64 (x6 + 1))))) else (none)) else (none)) else (some (decide ((x0.size : Int) ≤ 30)))
def impl_isMemo.f (k : Nat) (a0 : ByteArray) : Option (Bool) := impl_isMemo.l0 k a0 (a0.size : Int) 0
theorem impl_isMemo.mono_l : ∀ k, (∀ y0 y1 y2, LeO (impl_isMemo.l0 k y0 y1 y2) (impl_isMemo.l0 (k + 1) y0 y1 y2))
 | 0 => fun _ _ _ r h => by simp [impl_isMemo.l0] at h
 | k + 1 => by
  have ih0 := impl_isMemo.mono_l k
  ·intro y0 y1 y2
   unfold impl_isMemo.l0
   repeat' first
   | (with_reducible exact ih0 _ _ _)
   | (with_reducible exact LeO.refl _)
   | (with_reducible exact LeO.none _)
   | (with_reducible refine LeO.ite ?_ ?_)
   | (with_reducible refine LeO.bind ?_ (fun _ => ?_))
   | exact ih0 _ _ _
   | exact LeO.none _
   | refine LeO.ite ?_ ?_
   | refine LeO.bind ?_ (fun _ => ?_)
theorem impl_isMemo.mono : ∀ a0 k, LeO (impl_isMemo.f k a0) (impl_isMemo.f (k + 1) a0) := by
 intro a0 k
 have ih0 := impl_isMemo.mono_l k
 unfold impl_isMemo.f
 repeat' first
  | (with_reducible exact ih0 _ _ _)
  | (with_reducible exact LeO.refl _)
  | (with_reducible exact LeO.none _)
  | (with_reducible refine LeO.ite ?_ ?_)
  | (with_reducible refine LeO.bind ?_ (fun _ => ?_))
  | exact ih0 _ _ _
  | exact LeO.none _
  | refine LeO.ite ?_ ?_
  | refine LeO.bind ?_ (fun _ => ?_)
set_option maxHeartbeats 8000000 in
set_option maxRecDepth 100000 in
theorem impl_isMemo.calls (k : Nat) (a0 : ByteArray) (r : Bool) (w : World) (h : impl_isMemo.f k a0 = some r) :
 Calls Tryd.prog 60 #[.string a0] w fun e w' => e = .returned (.bool r) ∧ Drawn0 w w' := by
 have H := h
 clear h
 unfold impl_isMemo.f at H
 have H' := Aside0.mk H
 clear H
 go_enter Tryd.func60, Tryd.ntmps60
 go_wp2
 go_loopg [6] k (fun kq v6 w' => ∃ (x6_1 : Int), v6 = .int .i64 x6_1 ∧ Aside0 (impl_isMemo.l0 kq a0 (a0.size : Int) x6_1 = some r) ∧ Aside0 (kq ≤ k) ∧ Drawn0 w w')
 case atStart => exact ⟨(0), ZZ0ab324, H', ⟨Nat.le_refl _⟩, ZZ965307⟩
 case round =>
  clear H'
  obtain ⟨x6_1, rfl, HA, HK1, ⟨m1, rfl⟩⟩ := hrel
  cases gk with
  | zero => exact absurd HA.out (by simp [impl_isMemo.l0])
  | succ k1 =>
   have H := HA.out
   clear HA
   simp only [impl_isMemo.l0] at H
   by_cases c2 : x6_1 < (a0.size : Int)
   ·rw [if_pos c2] at H
    have c2b0 := decide_eq_true c2
    clear c2
    obtain ⟨c3, H⟩ := ifY H
    have c3b0 := decide_eq_true c3
    clear c3
    obtain ⟨c4, H⟩ := ifY H
    have c4b0 := decide_eq_true c4
    clear c4
    by_cases c6 : (bt a0 x6_1) < 32
    ·rw [if_pos c6] at H
     have c6b0 := decide_eq_true c6
     clear c6
     obtain rfl := Option.some.inj H
     have p5 : 0 ≤ (x6_1 : Int) := of_decide_eq_true ZZ853400
     have q5 : x6_1 < (a0.size : Int) := of_decide_eq_true ZZ853400
     have hx5 := bt_at a0 x6_1
     replace p5 := eq_true p5
     replace q5 := eq_true q5
     go_wp2
     go_ret
     exact ⟨ZZ0ab324, ZZ965307⟩
    rw [if_neg c6] at H
    have c6b0 := decide_eq_false c6
    clear c6
    by_cases c8 : (bt a0 x6_1) > 126
    ·rw [if_pos c8] at H
     have c8b0 : decide (126 < (bt a0 x6_1)) = true := decide_eq_true c8
     clear c8
     obtain rfl := Option.some.inj H
     have p5 : 0 ≤ (x6_1 : Int) := of_decide_eq_true ZZ853400
     have q5 : x6_1 < (a0.size : Int) := of_decide_eq_true ZZ853400
     have hx5 := bt_at a0 x6_1
     replace p5 := eq_true p5
     replace q5 := eq_true q5
     have p7 : 0 ≤ (x6_1 : Int) := of_decide_eq_true ZZ853400
     have q7 : x6_1 < (a0.size : Int) := of_decide_eq_true ZZ853400
     have hx7 := bt_at a0 x6_1
     replace p7 := eq_true p7
     replace q7 := eq_true q7
     go_wp2
     go_ret
     exact ⟨ZZ0ab324, ZZ965307⟩
    rw [if_neg c8] at H
    have c8b0 : decide (126 < (bt a0 x6_1)) = false := decide_eq_false c8
    clear c8
    have H' := Aside0.mk H
    clear H
    have p5 : 0 ≤ (x6_1 : Int) := of_decide_eq_true ZZ853400
    have q5 : x6_1 < (a0.size : Int) := of_decide_eq_true ZZ853400
    have hx5 := bt_at a0 x6_1
    replace p5 := eq_true p5
    replace q5 := eq_true q5
    have p7 : 0 ≤ (x6_1 : Int) := of_decide_eq_true ZZ853400
    have q7 : x6_1 < (a0.size : Int) := of_decide_eq_true ZZ853400
    have hx7 := bt_at a0 x6_1
    replace p7 := eq_true p7
    replace q7 := eq_true q7
    go_wp2
    go_roundg k1
    case measure => have := HK1.out; omega
    case rel => exact ⟨(wrap64 (x6_1 + 1)), ZZ0ab324, H', ⟨(by have := HK1.out; omega)⟩, ZZ965307⟩
   rw [if_neg c2] at H
   have c2b0 := decide_eq_false c2
   clear c2
   obtain rfl := Option.some.inj H
   go_wp2
   go_ret
   exact ⟨ZZ0ab324, ZZ965307⟩
/-! ### impl_isAmount: function 62 -/
def impl_isAmount.f (a0 : Int) : Option (Bool) := (impl_within.f a0 (-1000000000) 1000000000).bind fun t236 => (some t236)
set_option maxHeartbeats 8000000 in
set_option maxRecDepth 100000 in
theorem impl_isAmount.calls (a0 : Int) (r : Bool) (w : World) (h : impl_isAmount.f a0 = some r) :
 Calls Tryd.prog 62 #[.int .i64 a0] w fun e w' => e = .returned (.bool r) ∧ Drawn0 w w' := by
 have H := h
 clear h
 unfold impl_isAmount.f at H
 obtain ⟨t236, A2, H⟩ := bdY H
 obtain rfl := Option.some.inj H
 go_enter Tryd.func62, Tryd.ntmps62
 go_wp2_with (first | ((with_reducible refine gate_callee (f := 56) rfl ?_); refine goesL_ (some 4) rfl rfl Tryd.func56 (by kernel_rfl) rfl #[.int .i64 a0, .int .i64 (-1000000000), .int .i64 1000000000] rfl ZZ19826e ?_; (with_reducible refine (impl_within.calls a0 (-1000000000) 1000000000 t236 _ A2.out).mono ?_); rintro e w' ⟨rfl, ⟨nd, rfl⟩⟩; refine ⟨_, rfl, ?_⟩))
 go_ret
 exact ⟨ZZ0ab324, ZZ965307⟩
end Go.Proofs.YtccdjchaaeligaaDoor.XFnExactAccountStatement

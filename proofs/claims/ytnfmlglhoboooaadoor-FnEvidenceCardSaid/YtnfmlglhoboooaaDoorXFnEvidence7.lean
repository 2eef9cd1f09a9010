-- Printed by wip/tools/xprint.py, a program of this session, over the kit's print; Lean checks it.
import Derived.Test.YtnfmlglhoboooaaDoorXFnEvidence3
import Derived.Test.YtnfmlglhoboooaaDoorXFnEvidence0
import Derived.Test.YtnfmlglhoboooaaDoorXFnEvidence1
import Derived.Test.YtnfmlglhoboooaaDoorXFnEvidence2
import Derived.Test.YtnfmlglhoboooaaDoorXFnEvidence6
namespace Go.Proofs.YtnfmlglhoboooaaDoor.XFnEvidence
open Go.Proofs.YtnfmlglhoboooaaDoor.Short Go.RowKit Go.Proofs.YtnfmlglhoboooaaDoorW.PrintWords Go.Proofs.YtnfmlglhoboooaaDoorW.PrintLast Go.Proofs.YtnfmlglhoboooaaDoorW.PrintMore
attribute [local go_sem] max2_int min2_int max_two min_two max_three min_three max_four min_four   -- for this text's walks alone
set_option linter.unusedVariables false
set_option linter.unusedSimpArgs false
theorem ZZ341499 {p : Prop} (h : p := by have := HJ2.out; have := HK2.out; have := HK3.out; have := HJ20.out; have := HJ23.out; have := HJ27.out; omega) : p := h
/-! ### spec_ProveSubset: function 43 -/
mutual
def spec_ProveSubset.j0 : Nat → List Int → List Int → List Int → Bool → Option (List Int × Bool)
 | 0, _, _, _, _ => none
 | k + 1, x0, x1, x6, x23 => if x23 = true then (some (x6, false)) else ((spec_l1Own.f x0).bind fun t264 => ((spec_l1Own.f x1).bind fun t267 => (spec_ProveSubset.l0 k x6 t264 t267)))
def spec_ProveSubset.l0 : Nat → List Int → List Int → List Int → Option (List Int × Bool)
 | 0, _, _, _ => none
 | k + 1, x6, x7, x8 => if (x7.length : Int) > 1 then (spec_ProveSubset.l1 k x6 x7 x8 (([] : List Int)) 0) else (some (x6, true))
def spec_ProveSubset.l1 : Nat → List Int → List Int → List Int → List Int → Int → Option (List Int × Bool)
 | 0, _, _, _, _, _ => none
 | k + 1, x6, x7, x8, x9, x10 => if x10 < (x7.length : Int) then ((spec_l1Has.f k x8 x10).bind fun t276 => ((spec_l1Has.f k x8 (wrap64 (x10 + 1))).bind fun t277 => (if t276 = true then (spec_ProveSubset.j3 k x6 x7 x8 x9 x10 t276 t277 true) else (spec_ProveSubset.j3 k x6 x7 x8 x9 x10 t276 t277 t277)))) else ((spec_l25Up.f k x7).bind fun t273 => (spec_ProveSubset.l0 k x6 t273 x9))
def spec_ProveSubset.j3 : Nat → List Int → List Int → List Int → List Int → Int → Bool → Bool → Bool → Option (List Int × Bool)
 | 0, _, _, _, _, _, _, _, _ => none
 | k + 1, x6, x7, x8, x9, x10, x11, x12, x49 => if x49 = true then (if x9.length < 17592186044416 then (spec_ProveSubset.j4 k x6 x7 x8 (x9 ++ [wrap64 (Int.tdiv x10 2)]) x10 x11 x12) else (none)) else (spec_ProveSubset.j4 k x6 x7 x8 x9 x10 x11 x12)
def spec_ProveSubset.j4 : Nat → List Int → List Int → List Int → List Int → Int → Bool → Bool → Option (List Int × Bool)
 | 0, _, _, _, _, _, _, _ => none
 | k + 1, x6, x7, x8, x9, x10, x11, x12 => if x11 = true then (if x12 = true then (spec_ProveSubset.j5 k x6 x7 x8 x9 x10 x11 x12 false) else (spec_ProveSubset.j5 k x6 x7 x8 x9 x10 x11 x12 (decide ((wrap64 (x10 + 1)) < (x7.length : Int))))) else (spec_ProveSubset.j5 k x6 x7 x8 x9 x10 x11 x12 false)
def spec_ProveSubset.j5 : Nat → List Int → List Int → List Int → List Int → Int → Bool → Bool → Bool → Option (List Int × Bool)
 | 0, _, _, _, _, _, _, _, _ => none
 | k + 1, x6, x7, x8, x9, x10, x11, x12, x66 => if x66 = true then (if 0 ≤ (wrap64 (x10 + 1)) then (if (wrap64 (x10 + 1)) < (x7.length : Int) then (if x6.length < 17592186044416 then ((some (x6 ++ [rd x7 (wrap64 (x10 + 1))] : List Int)).bind fun y282 => (if x12 = true then (if x11 = true then (spec_ProveSubset.l1 k y282 x7 x8 x9 (wrap64 (x10 + 2))) else (if 0 ≤ x10 then (if x10 < (x7.length : Int) then (if y282.length < 17592186044416 then (spec_ProveSubset.l1 k (y282 ++ [rd x7 x10]) x7 x8 x9 (wrap64 (x10 + 2))) else (none)) else (none)) else (none))) else (spec_ProveSubset.l1 k y282 x7 x8 x9 (wrap64 (x10 + 2))))) else (none)) else (none)) else (none)) else (if x12 = true then (if x11 = true then (spec_ProveSubset.l1 k x6 x7 x8 x9 (wrap64 (x10 + 2))) else (if 0 ≤ x10 then (if x10 < (x7.length : Int) then (if x6.length < 17592186044416 then (spec_ProveSubset.l1 k (x6 ++ [rd x7 x10]) x7 x8 x9 (wrap64 (x10 + 2))) else (none)) else (none)) else (none))) else (spec_ProveSubset.l1 k x6 x7 x8 x9 (wrap64 (x10 + 2))))
end
def spec_ProveSubset.f (k : Nat) (l0 : List Int) (l1 : List Int) : Option (List Int × Bool) := (some (([] : List Int) : List Int)).bind fun y259 => ((spec_l25Leaves.f k l0).bind fun t262 => (if t262 = true then ((spec_l25Indices.f k l1 (l0.length : Int)).bind fun t263 => (spec_ProveSubset.j0 k l0 l1 y259 (!t263))) else (spec_ProveSubset.j0 k l0 l1 y259 true)))
theorem spec_ProveSubset.mono_l : ∀ k, (∀ y0 y1 y2 y3, LeO (spec_ProveSubset.j0 k y0 y1 y2 y3) (spec_ProveSubset.j0 (k + 1) y0 y1 y2 y3)) ∧ (∀ y0 y1 y2, LeO (spec_ProveSubset.l0 k y0 y1 y2) (spec_ProveSubset.l0 (k + 1) y0 y1 y2)) ∧ (∀ y0 y1 y2 y3 y4, LeO (spec_ProveSubset.l1 k y0 y1 y2 y3 y4) (spec_ProveSubset.l1 (k + 1) y0 y1 y2 y3 y4)) ∧ (∀ y0 y1 y2 y3 y4 y5 y6 y7, LeO (spec_ProveSubset.j3 k y0 y1 y2 y3 y4 y5 y6 y7) (spec_ProveSubset.j3 (k + 1) y0 y1 y2 y3 y4 y5 y6 y7)) ∧ (∀ y0 y1 y2 y3 y4 y5 y6, LeO (spec_ProveSubset.j4 k y0 y1 y2 y3 y4 y5 y6) (spec_ProveSubset.j4 (k + 1) y0 y1 y2 y3 y4 y5 y6)) ∧ (∀ y0 y1 y2 y3 y4 y5 y6 y7, LeO (spec_ProveSubset.j5 k y0 y1 y2 y3 y4 y5 y6 y7) (spec_ProveSubset.j5 (k + 1) y0 y1 y2 y3 y4 y5 y6 y7))
 | 0 => ⟨fun _ _ _ _ r h => by simp [spec_ProveSubset.j0] at h, fun _ _ _ r h => by simp [spec_ProveSubset.l0] at h, fun _ _ _ _ _ r h => by simp [spec_ProveSubset.l1] at h, fun _ _ _ _ _ _ _ _ r h => by simp [spec_ProveSubset.j3] at h, fun _ _ _ _ _ _ _ r h => by simp [spec_ProveSubset.j4] at h, fun _ _ _ _ _ _ _ _ r h => by simp [spec_ProveSubset.j5] at h⟩
 | k + 1 => by
  obtain ⟨ih0, ih1, ih2, ih3, ih4, ih5⟩ := spec_ProveSubset.mono_l k
  refine ⟨?_, ?_, ?_, ?_, ?_, ?_⟩
  all_goals intros
  all_goals (first | unfold spec_ProveSubset.j0 | unfold spec_ProveSubset.l0 | unfold spec_ProveSubset.l1 | unfold spec_ProveSubset.j3 | unfold spec_ProveSubset.j4 | unfold spec_ProveSubset.j5)
  all_goals
   repeat' first
   | (with_reducible exact ih0 _ _ _ _)
   | (with_reducible exact ih1 _ _ _)
   | (with_reducible exact ih2 _ _ _ _ _)
   | (with_reducible exact ih3 _ _ _ _ _ _ _ _)
   | (with_reducible exact ih4 _ _ _ _ _ _ _)
   | (with_reducible exact ih5 _ _ _ _ _ _ _ _)
   | (with_reducible exact spec_l1Has.mono _ _ _)
   | (with_reducible exact spec_l25Indices.mono _ _ _)
   | (with_reducible exact spec_l25Leaves.mono _ _)
   | (with_reducible exact spec_l25Up.mono _ _)
   | (with_reducible exact LeO.refl _)
   | (with_reducible exact LeO.none _)
   | (with_reducible refine LeO.ite ?_ ?_)
   | (with_reducible refine LeO.bind ?_ (fun _ => ?_))
   | exact ih0 _ _ _ _
   | exact ih1 _ _ _
   | exact ih2 _ _ _ _ _
   | exact ih3 _ _ _ _ _ _ _ _
   | exact ih4 _ _ _ _ _ _ _
   | exact ih5 _ _ _ _ _ _ _ _
   | exact spec_l1Has.mono _ _ _
   | exact spec_l25Indices.mono _ _ _
   | exact spec_l25Leaves.mono _ _
   | exact spec_l25Up.mono _ _
   | exact LeO.none _
   | refine LeO.ite ?_ ?_
   | refine LeO.bind ?_ (fun _ => ?_)
theorem spec_ProveSubset.mono : ∀ a0 a1 k, LeO (spec_ProveSubset.f k a0 a1) (spec_ProveSubset.f (k + 1) a0 a1) := by
 intro a0 a1 k
 obtain ⟨ih0, ih1, ih2, ih3, ih4, ih5⟩ := spec_ProveSubset.mono_l k
 unfold spec_ProveSubset.f
 repeat' first
  | (with_reducible exact ih0 _ _ _ _)
  | (with_reducible exact ih1 _ _ _)
  | (with_reducible exact ih2 _ _ _ _ _)
  | (with_reducible exact ih3 _ _ _ _ _ _ _ _)
  | (with_reducible exact ih4 _ _ _ _ _ _ _)
  | (with_reducible exact ih5 _ _ _ _ _ _ _ _)
  | (with_reducible exact spec_l1Has.mono _ _ _)
  | (with_reducible exact spec_l25Indices.mono _ _ _)
  | (with_reducible exact spec_l25Leaves.mono _ _)
  | (with_reducible exact spec_l25Up.mono _ _)
  | (with_reducible exact LeO.refl _)
  | (with_reducible exact LeO.none _)
  | (with_reducible refine LeO.ite ?_ ?_)
  | (with_reducible refine LeO.bind ?_ (fun _ => ?_))
  | exact ih0 _ _ _ _
  | exact ih1 _ _ _
  | exact ih2 _ _ _ _ _
  | exact ih3 _ _ _ _ _ _ _ _
  | exact ih4 _ _ _ _ _ _ _
  | exact ih5 _ _ _ _ _ _ _ _
  | exact spec_l1Has.mono _ _ _
  | exact spec_l25Indices.mono _ _ _
  | exact spec_l25Leaves.mono _ _
  | exact spec_l25Up.mono _ _
  | exact LeO.none _
  | refine LeO.ite ?_ ?_
  | refine LeO.bind ?_ (fun _ => ?_)
set_option maxHeartbeats 8000000 in
set_option maxRecDepth 100000 in
theorem spec_ProveSubset.calls (k : Nat) (A0 : Option Addr) (c0 : Nat) (l0 : List Int) (A1 : Option Addr) (c1 : Nat) (l1 : List Int) (r1 : List Int) (r2 : Bool) (w : World) (hr0 : Kd.C (Kd.int .i64) w A0 l0.length l0) (hc0 : l0.length ≤ c0) (hr1 : Kd.C (Kd.int .i64) w A1 l1.length l1) (hc1 : l1.length ≤ c1) (h : spec_ProveSubset.f k l0 l1 = some (r1, r2)) :
 Calls Tryd.prog 43 #[.slice A0 l0.length c0, .slice A1 l1.length c1] w fun e w' => ∃ v0_ : Value, e = .returned (.tuple #[v0_, .bool r2]) ∧ Kd.R (Kd.int .i64) 3 w' w.heap.size (fun _ => True) v0_ r1 ∧ Below w.heap.size w w' := by
 have HR0 := Aside0.mk hr0
 have HC0 := Aside0.mk hc0
 clear hr0 hc0
 have HR1 := Aside0.mk hr1
 have HC1 := Aside0.mk hc1
 clear hr1 hc1
 have HB := Aside0.mk (Below.refl w.heap.size w)
 have H := h
 clear h
 unfold spec_ProveSubset.f at H
 obtain ⟨y259, hy259⟩ : ∃ y_ : List Int, y_ = (([] : List Int)) := ⟨_, rfl⟩
 replace H : ((spec_l25Leaves.f k l0).bind fun t262 => (if t262 = true then ((spec_l25Indices.f k l1 (l0.length : Int)).bind fun t263 => (spec_ProveSubset.j0 k l0 l1 y259 (!t263))) else (spec_ProveSubset.j0 k l0 l1 y259 true))) = some (r1, r2) := by first | (rw [hy259]; with_reducible exact H) | (have H2_ := (Option.bind_some _ _).symm.trans H; rw [hy259]; with_reducible exact H2_) | (have H2_ := (Option.bind_some _ _).symm.trans H; with_reducible exact H2_) | with_reducible exact H | (rw [hy259]; exact H) | exact H
 have Ny259 := Aside0.mk hy259
 clear hy259
 have HC3 := Aside0.mk H
 clear H
 go_enter Tryd.func43, Tryd.ntmps43
 go_upto_region 2 with (first | ((with_reducible refine gate_dst (N := 13) rfl ?_); (try (refine gate_guard (by rfl) ?_; dsimp only)); refine Kd.R_lit (Kd.int .i64) _ 3 ?hg (N := 13) ?hd (xs := ([] : List Int)) (inner := []) (ok := fun _ => True) (okp := fun _ => True) ?hr ?hp (fun _ hk => hk) trivial (Below.refl _ _) (Nat.le_refl _) (by simp) ?_; (case hd => rfl); (case hg => rfl); (case hr => first | (go_simp; done) | (go_simp; rfl)); (case hp => exact (Reps.none _ _)); intro v260 w4 ho5 hb hg_ hnew_; clear hg_ hnew_; (first | rw [← Ny259.out] at ho5 | (simp only [Int.reduceToNat] at ho5; rw [← Ny259.out] at ho5)); have HO261 := Aside0.mk (Kd.R_lower ho5 (below_size ZZ605003)); replace HB := Aside0.mk (below_step ZZ605003 hb); clear hb ho5))
 (try simp only [Act.put, List.setIfInBounds_toArray, List.set_cons_zero, List.set_cons_succ])
 go_cut [23] (fun v23 wc => ∃ (kq : Nat) (x23_2 : Bool), v23 = .bool x23_2 ∧ Aside0 (spec_ProveSubset.j0 kq l0 l1 y259 x23_2 = some (r1, r2)) ∧ Aside0 (kq ≤ k) ∧ Aside0 (Kd.R (Kd.int .i64) 3 wc w.heap.size (fun _ => True) v260 y259) ∧ Aside0 (Below w.heap.size w wc))
 case first =>
  have H := HC3.out
  clear HC3
  obtain ⟨t262, A6, H⟩ := bdY H
  by_cases c7 : t262 = true
  ·subst c7
   have H1 : ((spec_l25Indices.f k l1 (l0.length : Int)).bind fun t263 => (spec_ProveSubset.j0 k l0 l1 y259 (!t263))) = some (r1, r2) := by rw [if_pos rfl] at H; exact H
   clear H
   have H := H1
   clear H1
   obtain ⟨t263, A8, H⟩ := bdY H
   have H' := Aside0.mk H
   clear H
   go_wp2_with (first | ((with_reducible refine gate_callee (f := 61) rfl ?_); refine goesL_ (some 15) rfl rfl Tryd.func61 (by kernel_rfl) rfl #[.slice A0 l0.length c0] rfl ZZ19826e ?_; (with_reducible refine (spec_l25Leaves.calls k _ _ l0 true _ ?side1 ?side2 A6.out).mono ?_); (case side1 => exact ZZ13f2d6); (case side2 => exact HC0.out); rintro e w' ⟨rfl, ⟨nd, rfl⟩⟩; refine ⟨_, rfl, ?_⟩) | (go_at_call 68; (with_reducible refine (spec_l25Indices.calls k _ _ l1 (l0.length : Int) t263 _ ?side1 ?side2 A8.out).mono ?_); (case side1 => repeat (first | exact (Kd.C_below HR1.out ZZ605003) | (with_reducible refine Kd.C_alloc ?_ _) | (with_reducible refine Kd.C_drewN ?_ _) | (with_reducible refine Kd.C_drew ?_))); (case side2 => exact HC1.out); rintro e w' ⟨rfl, ⟨nd, rfl⟩⟩))
   go_meet
   case rel => exact ⟨_, (!t263), ZZ0ab324, H', ⟨ZZ81c739⟩, ⟨(zR HO261)⟩, ⟨ZZ605003⟩⟩
  replace c7 := Bool.eq_false_iff.mpr c7
  subst c7
  have H1 : (spec_ProveSubset.j0 k l0 l1 y259 true) = some (r1, r2) := by rw [if_neg (show ¬ (false = true) by decide)] at H; exact H
  clear H
  have H := H1
  clear H1
  have H' := Aside0.mk H
  clear H
  go_wp2_with (first | ((with_reducible refine gate_callee (f := 61) rfl ?_); refine goesL_ (some 15) rfl rfl Tryd.func61 (by kernel_rfl) rfl #[.slice A0 l0.length c0] rfl ZZ19826e ?_; (with_reducible refine (spec_l25Leaves.calls k _ _ l0 false _ ?side1 ?side2 A6.out).mono ?_); (case side1 => exact ZZ13f2d6); (case side2 => exact HC0.out); rintro e w' ⟨rfl, ⟨nd, rfl⟩⟩; refine ⟨_, rfl, ?_⟩))
  go_meet
  case rel => exact ⟨_, (true), ZZ0ab324, H', ⟨ZZ81c739⟩, ⟨(zR HO261)⟩, ⟨ZZ605003⟩⟩
 case rest =>
  clear HC3
  try clear c1
  try clear c7
  obtain ⟨kq, x23_2, rfl, HA, HJ2, HO_6, HB⟩ := hcut
  cases kq with
  | zero => exact absurd HA.out (by simp [spec_ProveSubset.j0])
  | succ kj2 =>
   have H := HA.out
   clear HA
   simp only [spec_ProveSubset.j0] at H
   by_cases c9 : x23_2 = true
   ·subst c9
    have H1 : (some (y259, false)) = some (r1, r2) := by rw [if_pos rfl] at H; exact H
    clear H
    have H := H1
    clear H1
    simp only [Option.some.injEq, Prod.mk.injEq] at H
    obtain ⟨rfl, rfl⟩ := H
    go_wp2
    go_ret2
    exact ⟨_, ZZab01d2, (zR HO_6), ZZ605003⟩
   replace c9 := Bool.eq_false_iff.mpr c9
   subst c9
   have H1 : ((spec_l1Own.f l0).bind fun t264 => ((spec_l1Own.f l1).bind fun t267 => (spec_ProveSubset.l0 kj2 y259 t264 t267))) = some (r1, r2) := by rw [if_neg (show ¬ (false = true) by decide)] at H; exact H
   clear H
   have H := H1
   clear H1
   obtain ⟨t264, A10, H⟩ := bdY H
   obtain ⟨t267, A11, H⟩ := bdY H
   have H' := Aside0.mk H
   clear H
   go_wp2_with (first | ((with_reducible refine gate_callee (f := 77) rfl ?_); refine goesL_ (some 26) rfl rfl Tryd.func77 (by kernel_rfl) rfl #[.slice A0 l0.length c0] rfl ZZ19826e ?_; (with_reducible refine (spec_l1Own.calls _ _ l0 t264 _ ?side1 ?side2 A10.out).mono ?_); (case side1 => exact ZZ13f2d6); (case side2 => exact HC0.out); rintro e w12 ⟨v265, rfl, ho0, hb⟩; refine ⟨_, rfl, ?_⟩; have HO266 := Aside0.mk (Kd.R_lower (Kd.R_new' ho0 (Kd.R_lt (zR HO_6))) (below_size ZZ605003)); replace HO_6 := Aside0.mk (Kd.R_elder' (zR HO_6) (Kd.R_base ho0) hb); replace HB := Aside0.mk (below_step ZZ605003 hb); (try clear hb); (try clear hb2); (try clear hk); (try clear hi); (try clear ho0)) | ((with_reducible refine gate_callee (f := 77) rfl ?_); refine goesL_ (some 28) rfl rfl Tryd.func77 (by kernel_rfl) rfl #[.slice A1 l1.length c1] rfl ZZ19826e ?_; (with_reducible refine (spec_l1Own.calls _ _ l1 t267 _ ?side1 ?side2 A11.out).mono ?_); (case side1 => exact (by repeat (first | exact (Kd.C_below HR1.out HB.out) | (with_reducible refine Kd.C_alloc ?_ _) | (with_reducible refine Kd.C_drewN ?_ _) | (with_reducible refine Kd.C_drew ?_)))); (case side2 => exact HC1.out); rintro e w13 ⟨v268, rfl, ho0, hb⟩; refine ⟨_, rfl, ?_⟩; have HO269 := Aside0.mk (Kd.R_lower (Kd.R_new' (Kd.R_new' ho0 (Kd.R_lt (zR HO_6))) (Kd.R_lt (zR HO266))) (below_size ZZ605003)); replace HO_6 := Aside0.mk (Kd.R_elder' (zR HO_6) (Kd.R_base ho0) hb); replace HO266 := Aside0.mk (Kd.R_elder' (zR HO266) (Kd.R_base ho0) hb); replace HB := Aside0.mk (below_step ZZ605003 hb); (try clear hb); (try clear hb2); (try clear hk); (try clear hi); (try clear ho0)))
   go_loopg [6, 7, 8] kj2 (fun kq v6 v7 v8 w' => ∃ (x6_2 : List Int) (x7_2 : List Int) (x8_2 : List Int), Aside0 (spec_ProveSubset.l0 kq x6_2 x7_2 x8_2 = some (r1, r2)) ∧ Aside0 (kq ≤ kj2) ∧ Aside0 (Kd.R (Kd.int .i64) 3 w' w.heap.size (fun k_ => some k_ ≠ (v7 : Value).ownBlock ∧ some k_ ≠ (v8 : Value).ownBlock) v6 x6_2) ∧ Aside0 (Kd.R (Kd.int .i64) 3 w' w.heap.size (fun k_ => some k_ ≠ (v6 : Value).ownBlock ∧ some k_ ≠ (v8 : Value).ownBlock) v7 x7_2) ∧ Aside0 (Kd.R (Kd.int .i64) 3 w' w.heap.size (fun k_ => some k_ ≠ (v6 : Value).ownBlock ∧ some k_ ≠ (v7 : Value).ownBlock) v8 x8_2) ∧ Aside0 (Below w.heap.size w w'))
   case atStart => exact ⟨(y259), (t264), (t267), H', ⟨Nat.le_refl _⟩, ⟨(by (with_reducible repeat (first | apply Kd.R_alloc | apply Kd.R_drewN | apply Kd.R_drew)); exact Kd.R_mono HO_6.out (fun _ hk => ⟨hk.1.2, hk.2⟩))⟩, ⟨(by (with_reducible repeat (first | apply Kd.R_alloc | apply Kd.R_drewN | apply Kd.R_drew)); exact Kd.R_mono HO266.out (fun _ hk => ⟨hk.1.2, hk.2⟩))⟩, ⟨(by (with_reducible repeat (first | apply Kd.R_alloc | apply Kd.R_drewN | apply Kd.R_drew)); exact Kd.R_mono HO269.out (fun _ hk => ⟨hk.1.2, hk.2⟩))⟩, ⟨ZZ605003⟩⟩
   case round =>
    clear H'
    try clear c1
    try clear c9
    obtain ⟨x6_2, x7_2, x8_2, HA, HK2, HO_6, HO_7, HO_8, HB⟩ := hrel
    cases gk with
    | zero => exact absurd HA.out (by simp [spec_ProveSubset.l0])
    | succ k2 =>
     have H := HA.out
     clear HA
     simp only [spec_ProveSubset.l0] at H
     by_cases c14 : (x7_2.length : Int) > 1
     ·rw [if_pos c14] at H
      have c14b0 : decide (1 < (x7_2.length : Int)) = true := decide_eq_true c14
      have c14b1 : decide (1 < x7_2.length) = true := decide_eq_true (by omega)
      clear c14
      obtain ⟨y270, hy270⟩ : ∃ y_ : List Int, y_ = (([] : List Int)) := ⟨_, rfl⟩
      replace H : (spec_ProveSubset.l1 k2 x6_2 x7_2 x8_2 y270 0) = some (r1, r2) := by first | (rw [hy270]; with_reducible exact H) | (have H2_ := (Option.bind_some _ _).symm.trans H; rw [hy270]; with_reducible exact H2_) | (have H2_ := (Option.bind_some _ _).symm.trans H; with_reducible exact H2_) | with_reducible exact H | (rw [hy270]; exact H) | exact H
      have Ny270 := Aside0.mk hy270
      clear hy270
      have H' := Aside0.mk H
      clear H
      obtain ⟨Ao15, co15, eo15⟩ := Kd.R_slice HO_7.out
      subst eo15
      go_wp2_with (first | ((with_reducible refine gate_dst (N := 32) rfl ?_); (try (refine gate_guard (by rfl) ?_; dsimp only)); refine Kd.R_lit (Kd.int .i64) _ 3 ?hg (N := 32) ?hd (xs := ([] : List Int)) (inner := []) (ok := fun _ => True) (okp := fun _ => True) ?hr ?hp (fun _ hk => hk) trivial (Below.refl _ _) (Nat.le_refl _) (by simp) ?_; (case hd => rfl); (case hg => rfl); (case hr => first | (go_simp; done) | (go_simp; rfl)); (case hp => exact (Reps.none _ _)); intro v271 w16 ho17 hb hg_ hnew_; clear hg_ hnew_; (first | rw [← Ny270.out] at ho17 | (simp only [Int.reduceToNat] at ho17; rw [← Ny270.out] at ho17)); have HO272 := Aside0.mk (Kd.R_lower (Kd.R_new' (Kd.R_new' (Kd.R_new' ho17 (Kd.R_lt (zR HO_6))) (Kd.R_lt (zR HO_7))) (Kd.R_lt (zR HO_8))) (below_size ZZ605003)); replace HO_6 := Aside0.mk (Kd.R_elder' (zR HO_6) (Kd.R_base ho17) hb); replace HO_7 := Aside0.mk (Kd.R_elder' (zR HO_7) (Kd.R_base ho17) hb); replace HO_8 := Aside0.mk (Kd.R_elder' (zR HO_8) (Kd.R_base ho17) hb); replace HB := Aside0.mk (below_step ZZ605003 hb); clear hb ho17))
      go_loopg [6, 9, 10] k2 (fun kq v6 v9 v10 w' => ∃ (x6_3 : List Int) (x9_3 : List Int) (x10_3 : Int), v10 = .int .i64 x10_3 ∧ Aside0 (spec_ProveSubset.l1 kq x6_3 x7_2 x8_2 x9_3 x10_3 = some (r1, r2)) ∧ Aside0 (kq ≤ k2) ∧ Aside0 (Kd.R (Kd.int .i64) 3 w' w.heap.size (fun k_ => some k_ ≠ ((.slice Ao15 x7_2.length co15) : Value).ownBlock ∧ some k_ ≠ (u8 : Value).ownBlock ∧ some k_ ≠ (v9 : Value).ownBlock) v6 x6_3) ∧ Aside0 (Kd.R (Kd.int .i64) 3 w' w.heap.size (fun k_ => some k_ ≠ (v6 : Value).ownBlock ∧ some k_ ≠ (u8 : Value).ownBlock ∧ some k_ ≠ (v9 : Value).ownBlock) (.slice Ao15 x7_2.length co15) x7_2) ∧ Aside0 (Kd.R (Kd.int .i64) 3 w' w.heap.size (fun k_ => some k_ ≠ (v6 : Value).ownBlock ∧ some k_ ≠ ((.slice Ao15 x7_2.length co15) : Value).ownBlock ∧ some k_ ≠ (v9 : Value).ownBlock) u8 x8_2) ∧ Aside0 (Kd.R (Kd.int .i64) 3 w' w.heap.size (fun k_ => some k_ ≠ (v6 : Value).ownBlock ∧ some k_ ≠ ((.slice Ao15 x7_2.length co15) : Value).ownBlock ∧ some k_ ≠ (u8 : Value).ownBlock) v9 x9_3) ∧ Aside0 (Below w.heap.size w w'))
      case atStart => exact ⟨(x6_2), (y270), (0), ZZ0ab324, H', ⟨Nat.le_refl _⟩, ⟨(by (with_reducible repeat (first | apply Kd.R_alloc | apply Kd.R_drewN | apply Kd.R_drew)); exact Kd.R_mono HO_6.out (fun _ hk => ⟨hk.1.1, ⟨hk.1.2, hk.2⟩⟩))⟩, ⟨(by (with_reducible repeat (first | apply Kd.R_alloc | apply Kd.R_drewN | apply Kd.R_drew)); exact Kd.R_mono HO_7.out (fun _ hk => ⟨hk.1.1, ⟨hk.1.2, hk.2⟩⟩))⟩, ⟨(by (with_reducible repeat (first | apply Kd.R_alloc | apply Kd.R_drewN | apply Kd.R_drew)); exact Kd.R_mono HO_8.out (fun _ hk => ⟨hk.1.1, ⟨hk.1.2, hk.2⟩⟩))⟩, ⟨(by (with_reducible repeat (first | apply Kd.R_alloc | apply Kd.R_drewN | apply Kd.R_drew)); exact Kd.R_mono HO272.out (fun _ hk => ⟨hk.1.1.2, ⟨hk.1.2, hk.2⟩⟩))⟩, ⟨ZZ605003⟩⟩
      case round =>
       clear H'
       try clear c14b0
       try clear c14b1
       obtain ⟨x6_3, x9_3, x10_3, rfl, HA, HK3, HO_6, HO_7, HO_8, HO_9, HB⟩ := hrel
       cases gk with
       | zero => exact absurd HA.out (by simp [spec_ProveSubset.l1])
       | succ k3 =>
        have H := HA.out
        clear HA
        simp only [spec_ProveSubset.l1] at H
        by_cases c18 : x10_3 < (x7_2.length : Int)
        ·rw [if_pos c18] at H
         have c18b0 := decide_eq_true c18
         clear c18
         obtain ⟨t276, A19, H⟩ := bdY H
         obtain ⟨t277, A20, H⟩ := bdY H
         have HC21 := Aside0.mk H
         clear H
         obtain ⟨Ao22, co22, eo22⟩ := Kd.R_slice HO_8.out
         subst eo22
         go_upto_region 12 with (first | ((with_reducible refine gate_callee (f := 79) rfl ?_); refine goesL_ (some 41) rfl rfl Tryd.func79 (by kernel_rfl) rfl #[.slice Ao22 x8_2.length co22, .int .i64 x10_3] rfl ZZ19826e ?_; (with_reducible refine (spec_l1Has.calls k3 _ _ x8_2 x10_3 t276 _ ?side1 ?side2 A19.out).mono ?_); (case side1 => repeat (first | exact (Kd.R_reads' HO_8.out).2.2 | (with_reducible refine Kd.C_alloc ?_ _) | (with_reducible refine Kd.C_drewN ?_ _) | (with_reducible refine Kd.C_drew ?_))); (case side2 => exact (Kd.R_reads' HO_8.out).2.1); rintro e w' ⟨rfl, ⟨nd, rfl⟩⟩; refine ⟨_, rfl, ?_⟩) | ((with_reducible refine gate_callee (f := 79) rfl ?_); refine goesL_ (some 45) rfl rfl Tryd.func79 (by kernel_rfl) rfl #[.slice Ao22 x8_2.length co22, .int .i64 (wrap64 (x10_3 + 1))] rfl ZZ19826e ?_; (with_reducible refine (spec_l1Has.calls k3 _ _ x8_2 (wrap64 (x10_3 + 1)) t277 _ ?side1 ?side2 A20.out).mono ?_); (case side1 => repeat (first | exact (Kd.R_reads' HO_8.out).2.2 | (with_reducible refine Kd.C_alloc ?_ _) | (with_reducible refine Kd.C_drewN ?_ _) | (with_reducible refine Kd.C_drew ?_))); (case side2 => exact (Kd.R_reads' HO_8.out).2.1); rintro e w' ⟨rfl, ⟨nd, rfl⟩⟩; refine ⟨_, rfl, ?_⟩))
         (try simp only [Act.put, List.setIfInBounds_toArray, List.set_cons_zero, List.set_cons_succ])
         go_cut [49] (fun v49 wc => ∃ (kq : Nat) (x49_20 : Bool), v49 = .bool x49_20 ∧ Aside0 (spec_ProveSubset.j3 kq x6_3 x7_2 x8_2 x9_3 x10_3 t276 t277 x49_20 = some (r1, r2)) ∧ Aside0 (kq ≤ k3) ∧ Aside0 (Kd.R (Kd.int .i64) 3 wc w.heap.size (fun k_ => some k_ ≠ ((.slice Ao15 x7_2.length co15) : Value).ownBlock ∧ some k_ ≠ ((.slice Ao22 x8_2.length co22) : Value).ownBlock ∧ some k_ ≠ (u9 : Value).ownBlock) u6 x6_3) ∧ Aside0 (Kd.R (Kd.int .i64) 3 wc w.heap.size (fun k_ => some k_ ≠ (u6 : Value).ownBlock ∧ some k_ ≠ ((.slice Ao22 x8_2.length co22) : Value).ownBlock ∧ some k_ ≠ (u9 : Value).ownBlock) (.slice Ao15 x7_2.length co15) x7_2) ∧ Aside0 (Kd.R (Kd.int .i64) 3 wc w.heap.size (fun k_ => some k_ ≠ (u6 : Value).ownBlock ∧ some k_ ≠ ((.slice Ao15 x7_2.length co15) : Value).ownBlock ∧ some k_ ≠ (u9 : Value).ownBlock) (.slice Ao22 x8_2.length co22) x8_2) ∧ Aside0 (Kd.R (Kd.int .i64) 3 wc w.heap.size (fun k_ => some k_ ≠ (u6 : Value).ownBlock ∧ some k_ ≠ ((.slice Ao15 x7_2.length co15) : Value).ownBlock ∧ some k_ ≠ ((.slice Ao22 x8_2.length co22) : Value).ownBlock) u9 x9_3) ∧ Aside0 (Below w.heap.size w wc))
         case first =>
          have H := HC21.out
          clear HC21
          by_cases c23 : t276 = true
          ·subst c23
           have H1 : (spec_ProveSubset.j3 k3 x6_3 x7_2 x8_2 x9_3 x10_3 true t277 true) = some (r1, r2) := by rw [if_pos rfl] at H; exact H
           clear H
           have H := H1
           clear H1
           have H' := Aside0.mk H
           clear H
           go_wp2
           go_meet
           case rel => exact ⟨_, (true), ZZ0ab324, H', ⟨(by have := HJ2.out; have := HK2.out; have := HK3.out; first | omega | exact Nat.le_refl _)⟩, ⟨(zR HO_6)⟩, ⟨(zR HO_7)⟩, ⟨(zR HO_8)⟩, ⟨(zR HO_9)⟩, ⟨ZZ605003⟩⟩
          replace c23 := Bool.eq_false_iff.mpr c23
          subst c23
          have H1 : (spec_ProveSubset.j3 k3 x6_3 x7_2 x8_2 x9_3 x10_3 false t277 t277) = some (r1, r2) := by rw [if_neg (show ¬ (false = true) by decide)] at H; exact H
          clear H
          have H := H1
          clear H1
          have H' := Aside0.mk H
          clear H
          go_wp2
          go_meet
          case rel => exact ⟨_, (t277), ZZ0ab324, H', ⟨(by have := HJ2.out; have := HK2.out; have := HK3.out; first | omega | exact Nat.le_refl _)⟩, ⟨(zR HO_6)⟩, ⟨(zR HO_7)⟩, ⟨(zR HO_8)⟩, ⟨(zR HO_9)⟩, ⟨ZZ605003⟩⟩
         case rest =>
          clear HC21
          try clear c18b0
          try clear c23
          obtain ⟨kq, x49_20, rfl, HA, HJ20, HO_6, HO_7, HO_8, HO_9, HB⟩ := hcut
          cases kq with
          | zero => exact absurd HA.out (by simp [spec_ProveSubset.j3])
          | succ kj20 =>
           have H := HA.out
           clear HA
           simp only [spec_ProveSubset.j3] at H
           have HC24 := Aside0.mk H
           clear H
           go_upto_if 49 with (fail)
           go_cut [9] (fun v9 wc => ∃ (kq : Nat) (x9_23 : List Int), Aside0 (spec_ProveSubset.j4 kq x6_3 x7_2 x8_2 x9_23 x10_3 t276 t277 = some (r1, r2)) ∧ Aside0 (kq ≤ kj20) ∧ Aside0 (Kd.R (Kd.int .i64) 3 wc w.heap.size (fun k_ => some k_ ≠ ((.slice Ao15 x7_2.length co15) : Value).ownBlock ∧ some k_ ≠ ((.slice Ao22 x8_2.length co22) : Value).ownBlock ∧ some k_ ≠ (v9 : Value).ownBlock) u6 x6_3) ∧ Aside0 (Kd.R (Kd.int .i64) 3 wc w.heap.size (fun k_ => some k_ ≠ (u6 : Value).ownBlock ∧ some k_ ≠ ((.slice Ao22 x8_2.length co22) : Value).ownBlock ∧ some k_ ≠ (v9 : Value).ownBlock) (.slice Ao15 x7_2.length co15) x7_2) ∧ Aside0 (Kd.R (Kd.int .i64) 3 wc w.heap.size (fun k_ => some k_ ≠ (u6 : Value).ownBlock ∧ some k_ ≠ ((.slice Ao15 x7_2.length co15) : Value).ownBlock ∧ some k_ ≠ (v9 : Value).ownBlock) (.slice Ao22 x8_2.length co22) x8_2) ∧ Aside0 (Kd.R (Kd.int .i64) 3 wc w.heap.size (fun k_ => some k_ ≠ (u6 : Value).ownBlock ∧ some k_ ≠ ((.slice Ao15 x7_2.length co15) : Value).ownBlock ∧ some k_ ≠ ((.slice Ao22 x8_2.length co22) : Value).ownBlock) v9 x9_23) ∧ Aside0 (Below w.heap.size w wc))
           case first =>
            have H := HC24.out
            clear HC24
            by_cases c25 : x49_20 = true
            ·subst c25
             have H1 : (if x9_3.length < 17592186044416 then (spec_ProveSubset.j4 kj20 x6_3 x7_2 x8_2 (x9_3 ++ [wrap64 (Int.tdiv x10_3 2)]) x10_3 t276 t277) else (none)) = some (r1, r2) := by rw [if_pos rfl] at H; exact H
             clear H
             have H := H1
             clear H1
             obtain ⟨c26, H⟩ := ifY H
             have LMc26 := Aside0.mk c26
             clear c26
             obtain ⟨y278, hy278⟩ : ∃ y_ : List Int, y_ = (x9_3 ++ [wrap64 (Int.tdiv x10_3 2)]) := ⟨_, rfl⟩
             replace H : (spec_ProveSubset.j4 kj20 x6_3 x7_2 x8_2 y278 x10_3 t276 t277) = some (r1, r2) := by first | (rw [hy278]; with_reducible exact H) | (have H2_ := (Option.bind_some _ _).symm.trans H; rw [hy278]; with_reducible exact H2_) | (have H2_ := (Option.bind_some _ _).symm.trans H; with_reducible exact H2_) | with_reducible exact H | (rw [hy278]; exact H) | exact H
             have Ny278 := Aside0.mk hy278
             clear hy278
             have H' := Aside0.mk H
             clear H
             go_wp2_with (first | ((with_reducible refine gate_builtin (b := .append) (xs := #[.tmp 50, .tmp 53]) rfl ?_); (try (refine gate_guard (by rfl) ?_; dsimp only)); at_builtin; refine Kd.R_append (Kd.int .i64) (w0 := w) w.heap.size rfl (.tmp 50) (.tmp 53) 40 3 (.int .i64 0) 8 rfl Tryd.underlying40 info3 rfl (by decide) (by omega) u9 x9_3 (wrap64 (Int.tdiv x10_3 2)) [.int .i64 (wrap64 (Int.tdiv x10_3 2))] (fun k_ => some k_ ≠ (u6 : Value).ownBlock ∧ some k_ ≠ (.slice Ao15 x7_2.length co15 : Value).ownBlock ∧ some k_ ≠ (.slice Ao22 x8_2.length co22 : Value).ownBlock) (fun _ => False) rfl rfl ?aP (fun _ hk => hk.elim) ?aF ?aO ?aB ?aS ?aL ?_; (case aP => exact rfl); (case aB => exact ZZ605003); (case aF => exact (fun k_ hk => ⟨Kd.fresh' (Kd.R_lt (zR HO_6)) k_ hk, Kd.fresh' (Kd.R_lt (zR HO_7)) k_ hk, Kd.fresh' (Kd.R_lt (zR HO_8)) k_ hk⟩)); (case aO => exact (zR HO_9)); (case aS => exact (below_size ZZ605003)); (case aL => have := LMc26.out; omega); intro v279 w27 ho hb hg hat; rw [← Ny278.out] at ho; replace HO_6 := Aside0.mk (Kd.R_after (ok := (fun k_ => some k_ ≠ (.slice Ao15 x7_2.length co15 : Value).ownBlock ∧ some k_ ≠ (.slice Ao22 x8_2.length co22 : Value).ownBlock)) (by (with_reducible repeat (first | apply Kd.R_alloc | apply Kd.R_drewN | apply Kd.R_drew)); exact Kd.R_mono HO_6.out (fun _ hk => ⟨⟨hk.1, hk.2.1⟩, hk.2.2⟩)) hg hat); replace HO_7 := Aside0.mk (Kd.R_after (ok := (fun k_ => some k_ ≠ (u6 : Value).ownBlock ∧ some k_ ≠ (.slice Ao22 x8_2.length co22 : Value).ownBlock)) (by (with_reducible repeat (first | apply Kd.R_alloc | apply Kd.R_drewN | apply Kd.R_drew)); exact Kd.R_mono HO_7.out (fun _ hk => ⟨⟨hk.1, hk.2.1⟩, hk.2.2⟩)) hg hat); replace HO_8 := Aside0.mk (Kd.R_after (ok := (fun k_ => some k_ ≠ (u6 : Value).ownBlock ∧ some k_ ≠ (.slice Ao15 x7_2.length co15 : Value).ownBlock)) (by (with_reducible repeat (first | apply Kd.R_alloc | apply Kd.R_drewN | apply Kd.R_drew)); exact Kd.R_mono HO_8.out (fun _ hk => ⟨⟨hk.1, hk.2.1⟩, hk.2.2⟩)) hg hat); replace HB := Aside0.mk (hb); have HO280 := Aside0.mk (ho); clear HO_9; clear ho hb hg hat))
             go_meet
             case rel => exact ⟨_, (y278), H', ⟨(by have := HJ2.out; have := HK2.out; have := HK3.out; have := HJ20.out; first | omega | exact Nat.le_refl _)⟩, ⟨(by (with_reducible repeat (first | apply Kd.R_alloc | apply Kd.R_drewN | apply Kd.R_drew)); exact Kd.R_mono HO_6.out (fun _ hk => ⟨hk.1.1, ⟨hk.1.2, hk.2⟩⟩))⟩, ⟨(by (with_reducible repeat (first | apply Kd.R_alloc | apply Kd.R_drewN | apply Kd.R_drew)); exact Kd.R_mono HO_7.out (fun _ hk => ⟨hk.1.1, ⟨hk.1.2, hk.2⟩⟩))⟩, ⟨(by (with_reducible repeat (first | apply Kd.R_alloc | apply Kd.R_drewN | apply Kd.R_drew)); exact Kd.R_mono HO_8.out (fun _ hk => ⟨hk.1.1, ⟨hk.1.2, hk.2⟩⟩))⟩, ⟨(zR HO280)⟩, ⟨ZZ605003⟩⟩
            replace c25 := Bool.eq_false_iff.mpr c25
            subst c25
            have H1 : (spec_ProveSubset.j4 kj20 x6_3 x7_2 x8_2 x9_3 x10_3 t276 t277) = some (r1, r2) := by rw [if_neg (show ¬ (false = true) by decide)] at H; exact H
            clear H
            have H := H1
            clear H1
            have H' := Aside0.mk H
            clear H
            go_wp2
            go_meet
            case rel => exact ⟨_, (x9_3), H', ⟨(by have := HJ2.out; have := HK2.out; have := HK3.out; have := HJ20.out; first | omega | exact Nat.le_refl _)⟩, ⟨(zR HO_6)⟩, ⟨(zR HO_7)⟩, ⟨(zR HO_8)⟩, ⟨(zR HO_9)⟩, ⟨ZZ605003⟩⟩
           case rest =>
            clear HC24
            try clear c25
            try clear c26
            obtain ⟨kq, x9_23, HA, HJ23, HO_6, HO_7, HO_8, HO_9, HB⟩ := hcut
            cases kq with
            | zero => exact absurd HA.out (by simp [spec_ProveSubset.j4])
            | succ kj23 =>
             have H := HA.out
             clear HA
             simp only [spec_ProveSubset.j4] at H
             have HC28 := Aside0.mk H
             clear H
             go_upto_region 14 with (fail)
             go_cut [66] (fun v66 wc => ∃ (kq : Nat) (x66_27 : Bool), v66 = .bool x66_27 ∧ Aside0 (spec_ProveSubset.j5 kq x6_3 x7_2 x8_2 x9_23 x10_3 t276 t277 x66_27 = some (r1, r2)) ∧ Aside0 (kq ≤ kj23) ∧ Aside0 (Kd.R (Kd.int .i64) 3 wc w.heap.size (fun k_ => some k_ ≠ ((.slice Ao15 x7_2.length co15) : Value).ownBlock ∧ some k_ ≠ ((.slice Ao22 x8_2.length co22) : Value).ownBlock ∧ some k_ ≠ (u9 : Value).ownBlock) u6 x6_3) ∧ Aside0 (Kd.R (Kd.int .i64) 3 wc w.heap.size (fun k_ => some k_ ≠ (u6 : Value).ownBlock ∧ some k_ ≠ ((.slice Ao22 x8_2.length co22) : Value).ownBlock ∧ some k_ ≠ (u9 : Value).ownBlock) (.slice Ao15 x7_2.length co15) x7_2) ∧ Aside0 (Kd.R (Kd.int .i64) 3 wc w.heap.size (fun k_ => some k_ ≠ (u6 : Value).ownBlock ∧ some k_ ≠ ((.slice Ao15 x7_2.length co15) : Value).ownBlock ∧ some k_ ≠ (u9 : Value).ownBlock) (.slice Ao22 x8_2.length co22) x8_2) ∧ Aside0 (Kd.R (Kd.int .i64) 3 wc w.heap.size (fun k_ => some k_ ≠ (u6 : Value).ownBlock ∧ some k_ ≠ ((.slice Ao15 x7_2.length co15) : Value).ownBlock ∧ some k_ ≠ ((.slice Ao22 x8_2.length co22) : Value).ownBlock) u9 x9_23) ∧ Aside0 (Below w.heap.size w wc))
             case first =>
              have H := HC28.out
              clear HC28
              by_cases c29 : t276 = true
              ·subst c29
               have H1 : (if t277 = true then (spec_ProveSubset.j5 kj23 x6_3 x7_2 x8_2 x9_23 x10_3 true t277 false) else (spec_ProveSubset.j5 kj23 x6_3 x7_2 x8_2 x9_23 x10_3 true t277 (decide ((wrap64 (x10_3 + 1)) < (x7_2.length : Int))))) = some (r1, r2) := by rw [if_pos rfl] at H; exact H
               clear H
               have H := H1
               clear H1
               by_cases c30 : t277 = true
               ·subst c30
                have H1 : (spec_ProveSubset.j5 kj23 x6_3 x7_2 x8_2 x9_23 x10_3 true true false) = some (r1, r2) := by rw [if_pos rfl] at H; exact H
                clear H
                have H := H1
                clear H1
                have H' := Aside0.mk H
                clear H
                go_wp2
                go_meet
                case rel => exact ⟨_, (false), ZZ0ab324, H', ⟨(by have := HJ2.out; have := HK2.out; have := HK3.out; have := HJ20.out; have := HJ23.out; first | omega | exact Nat.le_refl _)⟩, ⟨(zR HO_6)⟩, ⟨(zR HO_7)⟩, ⟨(zR HO_8)⟩, ⟨(zR HO_9)⟩, ⟨ZZ605003⟩⟩
               replace c30 := Bool.eq_false_iff.mpr c30
               subst c30
               have H1 : (spec_ProveSubset.j5 kj23 x6_3 x7_2 x8_2 x9_23 x10_3 true false (decide ((wrap64 (x10_3 + 1)) < (x7_2.length : Int)))) = some (r1, r2) := by rw [if_neg (show ¬ (false = true) by decide)] at H; exact H
               clear H
               have H := H1
               clear H1
               have H' := Aside0.mk H
               clear H
               go_wp2
               go_meet
               case rel => exact ⟨_, (decide ((wrap64 (x10_3 + 1)) < (x7_2.length : Int))), ZZ0ab324, H', ⟨(by have := HJ2.out; have := HK2.out; have := HK3.out; have := HJ20.out; have := HJ23.out; first | omega | exact Nat.le_refl _)⟩, ⟨(zR HO_6)⟩, ⟨(zR HO_7)⟩, ⟨(zR HO_8)⟩, ⟨(zR HO_9)⟩, ⟨ZZ605003⟩⟩
              replace c29 := Bool.eq_false_iff.mpr c29
              subst c29
              have H1 : (spec_ProveSubset.j5 kj23 x6_3 x7_2 x8_2 x9_23 x10_3 false t277 false) = some (r1, r2) := by rw [if_neg (show ¬ (false = true) by decide)] at H; exact H
              clear H
              have H := H1
              clear H1
              have H' := Aside0.mk H
              clear H
              go_wp2
              go_meet
              case rel => exact ⟨_, (false), ZZ0ab324, H', ⟨(by have := HJ2.out; have := HK2.out; have := HK3.out; have := HJ20.out; have := HJ23.out; first | omega | exact Nat.le_refl _)⟩, ⟨(zR HO_6)⟩, ⟨(zR HO_7)⟩, ⟨(zR HO_8)⟩, ⟨(zR HO_9)⟩, ⟨ZZ605003⟩⟩
             case rest =>
              clear HC28
              try clear c29
              try clear c30
              obtain ⟨kq, x66_27, rfl, HA, HJ27, HO_6, HO_7, HO_8, HO_9, HB⟩ := hcut
              cases kq with
              | zero => exact absurd HA.out (by simp [spec_ProveSubset.j5])
              | succ kj27 =>
               have H := HA.out
               clear HA
               simp only [spec_ProveSubset.j5] at H
               by_cases c31 : x66_27 = true
               ·subst c31
                have H1 : (if 0 ≤ (wrap64 (x10_3 + 1)) then (if (wrap64 (x10_3 + 1)) < (x7_2.length : Int) then (if x6_3.length < 17592186044416 then ((some (x6_3 ++ [rd x7_2 (wrap64 (x10_3 + 1))] : List Int)).bind fun y282 => (if t277 = true then (if t276 = true then (spec_ProveSubset.l1 kj27 y282 x7_2 x8_2 x9_23 (wrap64 (x10_3 + 2))) else (if 0 ≤ x10_3 then (if x10_3 < (x7_2.length : Int) then (if y282.length < 17592186044416 then (spec_ProveSubset.l1 kj27 (y282 ++ [rd x7_2 x10_3]) x7_2 x8_2 x9_23 (wrap64 (x10_3 + 2))) else (none)) else (none)) else (none))) else (spec_ProveSubset.l1 kj27 y282 x7_2 x8_2 x9_23 (wrap64 (x10_3 + 2))))) else (none)) else (none)) else (none)) = some (r1, r2) := by rw [if_pos rfl] at H; exact H
                clear H
                have H := H1
                clear H1
                obtain ⟨ji32, hji32⟩ : ∃ j_ : Int, (wrap64 (x10_3 + 1)) = j_ := ⟨_, rfl⟩
                replace H : (if 0 ≤ (ji32) then (if (ji32) < (x7_2.length : Int) then (if x6_3.length < 17592186044416 then ((some (x6_3 ++ [rd x7_2 (ji32)] : List Int)).bind fun y282 => (if t277 = true then (if t276 = true then (spec_ProveSubset.l1 kj27 y282 x7_2 x8_2 x9_23 (wrap64 (x10_3 + 2))) else (if 0 ≤ x10_3 then (if x10_3 < (x7_2.length : Int) then (if y282.length < 17592186044416 then (spec_ProveSubset.l1 kj27 (y282 ++ [rd x7_2 x10_3]) x7_2 x8_2 x9_23 (wrap64 (x10_3 + 2))) else (none)) else (none)) else (none))) else (spec_ProveSubset.l1 kj27 y282 x7_2 x8_2 x9_23 (wrap64 (x10_3 + 2))))) else (none)) else (none)) else (none)) = some (r1, r2) := by first | (rw [hji32] at H; exact H) | (simp only [hji32] at H ⊢; exact H)
                have hji32w : (IntKind.i64.wrap (x10_3 + 1)) = ji32 := (i64_w _).trans hji32
                obtain ⟨c33, H⟩ := ifY H
                have c33b0 := decide_eq_true c33
                clear c33
                obtain ⟨c34, H⟩ := ifY H
                have c34b0 := decide_eq_true c34
                clear c34
                obtain ⟨c35, H⟩ := ifY H
                have LMc35 := Aside0.mk c35
                clear c35
                obtain ⟨y282, hy282⟩ : ∃ y_ : List Int, y_ = (x6_3 ++ [rd x7_2 (ji32)]) := ⟨_, rfl⟩
                replace H : (if t277 = true then (if t276 = true then (spec_ProveSubset.l1 kj27 y282 x7_2 x8_2 x9_23 (wrap64 (x10_3 + 2))) else (if 0 ≤ x10_3 then (if x10_3 < (x7_2.length : Int) then (if y282.length < 17592186044416 then (spec_ProveSubset.l1 kj27 (y282 ++ [rd x7_2 x10_3]) x7_2 x8_2 x9_23 (wrap64 (x10_3 + 2))) else (none)) else (none)) else (none))) else (spec_ProveSubset.l1 kj27 y282 x7_2 x8_2 x9_23 (wrap64 (x10_3 + 2)))) = some (r1, r2) := by first | (rw [hy282]; with_reducible exact H) | (have H2_ := (Option.bind_some _ _).symm.trans H; rw [hy282]; with_reducible exact H2_) | (have H2_ := (Option.bind_some _ _).symm.trans H; with_reducible exact H2_) | with_reducible exact H | (rw [hy282]; exact H) | exact H
                have Ny282 := Aside0.mk hy282
                clear hy282
                by_cases c36 : t277 = true
                ·subst c36
                 have H1 : (if t276 = true then (spec_ProveSubset.l1 kj27 y282 x7_2 x8_2 x9_23 (wrap64 (x10_3 + 2))) else (if 0 ≤ x10_3 then (if x10_3 < (x7_2.length : Int) then (if y282.length < 17592186044416 then (spec_ProveSubset.l1 kj27 (y282 ++ [rd x7_2 x10_3]) x7_2 x8_2 x9_23 (wrap64 (x10_3 + 2))) else (none)) else (none)) else (none))) = some (r1, r2) := by rw [if_pos rfl] at H; exact H
                 clear H
                 have H := H1
                 clear H1
                 by_cases c37 : t276 = true
                 ·subst c37
                  have H1 : (spec_ProveSubset.l1 kj27 y282 x7_2 x8_2 x9_23 (wrap64 (x10_3 + 2))) = some (r1, r2) := by rw [if_pos rfl] at H; exact H
                  clear H
                  have H := H1
                  clear H1
                  have H' := Aside0.mk H
                  clear H
                  have p281 : 0 ≤ ((ji32) : Int) := of_decide_eq_true ZZ853400
                  have q281 : (ji32) < (x7_2.length : Int) := of_decide_eq_true ZZ853400
                  obtain ⟨ad281, e281, hx281_0⟩ := Kd.at_int (Kd.R_reads' HO_7.out).2.2 (ji32) p281 q281
                  cases e281
                  replace p281 := eq_true p281
                  replace q281 := eq_true q281
                  go_wp2_with (first | ((with_reducible refine gate_builtin (b := .append) (xs := #[.tmp 67, .tmp 73]) rfl ?_); (try (refine gate_guard (by rfl) ?_; dsimp only)); at_builtin; refine Kd.R_append (Kd.int .i64) (w0 := w) w.heap.size rfl (.tmp 67) (.tmp 73) 40 3 (.int .i64 0) 8 rfl Tryd.underlying40 info3 rfl (by decide) (by omega) u6 x6_3 (rd x7_2 (ji32)) [.int .i64 (rd x7_2 (ji32))] (fun k_ => some k_ ≠ (.slice (some ad281) x7_2.length co15 : Value).ownBlock ∧ some k_ ≠ (.slice Ao22 x8_2.length co22 : Value).ownBlock ∧ some k_ ≠ (u9 : Value).ownBlock) (fun _ => False) rfl rfl ?aP (fun _ hk => hk.elim) ?aF ?aO ?aB ?aS ?aL ?_; (case aP => exact rfl); (case aB => exact ZZ605003); (case aF => exact (fun k_ hk => ⟨Kd.fresh' (Kd.R_lt (zR HO_7)) k_ hk, Kd.fresh' (Kd.R_lt (zR HO_8)) k_ hk, Kd.fresh' (Kd.R_lt (zR HO_9)) k_ hk⟩)); (case aO => exact (zR HO_6)); (case aS => exact (below_size ZZ605003)); (case aL => have := LMc35.out; omega); intro v283 w38 ho hb hg hat; rw [← Ny282.out] at ho; replace HO_7 := Aside0.mk (Kd.R_after (ok := (fun k_ => some k_ ≠ (.slice Ao22 x8_2.length co22 : Value).ownBlock ∧ some k_ ≠ (u9 : Value).ownBlock)) (by (with_reducible repeat (first | apply Kd.R_alloc | apply Kd.R_drewN | apply Kd.R_drew)); exact Kd.R_mono HO_7.out (fun _ hk => ⟨⟨hk.2.1, hk.2.2⟩, hk.1⟩)) hg hat); replace HO_8 := Aside0.mk (Kd.R_after (ok := (fun k_ => some k_ ≠ (.slice (some ad281) x7_2.length co15 : Value).ownBlock ∧ some k_ ≠ (u9 : Value).ownBlock)) (by (with_reducible repeat (first | apply Kd.R_alloc | apply Kd.R_drewN | apply Kd.R_drew)); exact Kd.R_mono HO_8.out (fun _ hk => ⟨⟨hk.2.1, hk.2.2⟩, hk.1⟩)) hg hat); replace HO_9 := Aside0.mk (Kd.R_after (ok := (fun k_ => some k_ ≠ (.slice (some ad281) x7_2.length co15 : Value).ownBlock ∧ some k_ ≠ (.slice Ao22 x8_2.length co22 : Value).ownBlock)) (by (with_reducible repeat (first | apply Kd.R_alloc | apply Kd.R_drewN | apply Kd.R_drew)); exact Kd.R_mono HO_9.out (fun _ hk => ⟨⟨hk.2.1, hk.2.2⟩, hk.1⟩)) hg hat); replace HB := Aside0.mk (hb); have HO284 := Aside0.mk (ho); clear HO_6; clear ho hb hg hat))
                  go_roundg kj27
                  case measure => have := HJ2.out; have := HK2.out; have := HK3.out; have := HJ20.out; have := HJ23.out; have := HJ27.out; omega
                  case rel => exact ⟨(y282), (x9_23), (wrap64 (x10_3 + 2)), ZZ0ab324, H', ⟨ZZ341499⟩, ⟨(zR HO284)⟩, ⟨(by (with_reducible repeat (first | apply Kd.R_alloc | apply Kd.R_drewN | apply Kd.R_drew)); exact Kd.R_mono HO_7.out (fun _ hk => ⟨hk.2, ⟨hk.1.1, hk.1.2⟩⟩))⟩, ⟨(by (with_reducible repeat (first | apply Kd.R_alloc | apply Kd.R_drewN | apply Kd.R_drew)); exact Kd.R_mono HO_8.out (fun _ hk => ⟨hk.2, ⟨hk.1.1, hk.1.2⟩⟩))⟩, ⟨(by (with_reducible repeat (first | apply Kd.R_alloc | apply Kd.R_drewN | apply Kd.R_drew)); exact Kd.R_mono HO_9.out (fun _ hk => ⟨hk.2, ⟨hk.1.1, hk.1.2⟩⟩))⟩, ⟨ZZ605003⟩⟩
                 replace c37 := Bool.eq_false_iff.mpr c37
                 subst c37
                 have H1 : (if 0 ≤ x10_3 then (if x10_3 < (x7_2.length : Int) then (if y282.length < 17592186044416 then (spec_ProveSubset.l1 kj27 (y282 ++ [rd x7_2 x10_3]) x7_2 x8_2 x9_23 (wrap64 (x10_3 + 2))) else (none)) else (none)) else (none)) = some (r1, r2) := by rw [if_neg (show ¬ (false = true) by decide)] at H; exact H
                 clear H
                 have H := H1
                 clear H1
                 obtain ⟨c39, H⟩ := ifY H
                 have c39b0 := decide_eq_true c39
                 clear c39
                 obtain ⟨c40, H⟩ := ifY H
                 have c40b0 := decide_eq_true c40
                 clear c40
                 obtain ⟨c41, H⟩ := ifY H
                 have LMc41 := Aside0.mk c41
                 clear c41
                 obtain ⟨y286, hy286⟩ : ∃ y_ : List Int, y_ = (y282 ++ [rd x7_2 x10_3]) := ⟨_, rfl⟩
                 replace H : (spec_ProveSubset.l1 kj27 y286 x7_2 x8_2 x9_23 (wrap64 (x10_3 + 2))) = some (r1, r2) := by first | (rw [hy286]; with_reducible exact H) | (have H2_ := (Option.bind_some _ _).symm.trans H; rw [hy286]; with_reducible exact H2_) | (have H2_ := (Option.bind_some _ _).symm.trans H; with_reducible exact H2_) | with_reducible exact H | (rw [hy286]; exact H) | exact H
                 have Ny286 := Aside0.mk hy286
                 clear hy286
                 have H' := Aside0.mk H
                 clear H
                 have p281 : 0 ≤ ((ji32) : Int) := of_decide_eq_true ZZ853400
                 have q281 : (ji32) < (x7_2.length : Int) := of_decide_eq_true ZZ853400
                 obtain ⟨ad281, e281, hx281_0⟩ := Kd.at_int (Kd.R_reads' HO_7.out).2.2 (ji32) p281 q281
                 cases e281
                 replace p281 := eq_true p281
                 replace q281 := eq_true q281
                 go_wp2_with (first | ((with_reducible refine gate_builtin (b := .append) (xs := #[.tmp 67, .tmp 73]) rfl ?_); (try (refine gate_guard (by rfl) ?_; dsimp only)); at_builtin; refine Kd.R_append (Kd.int .i64) (w0 := w) w.heap.size rfl (.tmp 67) (.tmp 73) 40 3 (.int .i64 0) 8 rfl Tryd.underlying40 info3 rfl (by decide) (by omega) u6 x6_3 (rd x7_2 (ji32)) [.int .i64 (rd x7_2 (ji32))] (fun k_ => some k_ ≠ (.slice (some ad281) x7_2.length co15 : Value).ownBlock ∧ some k_ ≠ (.slice Ao22 x8_2.length co22 : Value).ownBlock ∧ some k_ ≠ (u9 : Value).ownBlock) (fun _ => False) rfl rfl ?aP (fun _ hk => hk.elim) ?aF ?aO ?aB ?aS ?aL ?_; (case aP => exact rfl); (case aB => exact ZZ605003); (case aF => exact (fun k_ hk => ⟨Kd.fresh' (Kd.R_lt (zR HO_7)) k_ hk, Kd.fresh' (Kd.R_lt (zR HO_8)) k_ hk, Kd.fresh' (Kd.R_lt (zR HO_9)) k_ hk⟩)); (case aO => exact (zR HO_6)); (case aS => exact (below_size ZZ605003)); (case aL => have := LMc35.out; omega); intro v283 w42 ho hb hg hat; rw [← Ny282.out] at ho; replace HO_7 := Aside0.mk (Kd.R_after (ok := (fun k_ => some k_ ≠ (.slice Ao22 x8_2.length co22 : Value).ownBlock ∧ some k_ ≠ (u9 : Value).ownBlock)) (by (with_reducible repeat (first | apply Kd.R_alloc | apply Kd.R_drewN | apply Kd.R_drew)); exact Kd.R_mono HO_7.out (fun _ hk => ⟨⟨hk.2.1, hk.2.2⟩, hk.1⟩)) hg hat); replace HO_8 := Aside0.mk (Kd.R_after (ok := (fun k_ => some k_ ≠ (.slice (some ad281) x7_2.length co15 : Value).ownBlock ∧ some k_ ≠ (u9 : Value).ownBlock)) (by (with_reducible repeat (first | apply Kd.R_alloc | apply Kd.R_drewN | apply Kd.R_drew)); exact Kd.R_mono HO_8.out (fun _ hk => ⟨⟨hk.2.1, hk.2.2⟩, hk.1⟩)) hg hat); replace HO_9 := Aside0.mk (Kd.R_after (ok := (fun k_ => some k_ ≠ (.slice (some ad281) x7_2.length co15 : Value).ownBlock ∧ some k_ ≠ (.slice Ao22 x8_2.length co22 : Value).ownBlock)) (by (with_reducible repeat (first | apply Kd.R_alloc | apply Kd.R_drewN | apply Kd.R_drew)); exact Kd.R_mono HO_9.out (fun _ hk => ⟨⟨hk.2.1, hk.2.2⟩, hk.1⟩)) hg hat); replace HB := Aside0.mk (hb); have HO284 := Aside0.mk (ho); clear HO_6; clear ho hb hg hat; have p285 : 0 ≤ (x10_3 : Int) := of_decide_eq_true ZZ853400; have q285 : x10_3 < (x7_2.length : Int) := of_decide_eq_true ZZ853400; obtain ⟨ad285, e285, hx285_0⟩ := Kd.at_int (Kd.R_reads' HO_7.out).2.2 x10_3 p285 q285; obtain rfl : ad281 = ad285 := (by injection e285); replace p285 := eq_true p285; replace q285 := eq_true q285) | ((with_reducible refine gate_builtin (b := .append) (xs := #[.tmp 80, .tmp 85]) rfl ?_); (try (refine gate_guard (by rfl) ?_; dsimp only)); at_builtin; refine Kd.R_append (Kd.int .i64) (w0 := w) w.heap.size rfl (.tmp 80) (.tmp 85) 40 3 (.int .i64 0) 8 rfl Tryd.underlying40 info3 rfl (by decide) (by omega) v283 y282 (rd x7_2 x10_3) [.int .i64 (rd x7_2 x10_3)] (fun k_ => some k_ ≠ (.slice (some ad281) x7_2.length co15 : Value).ownBlock ∧ some k_ ≠ (.slice Ao22 x8_2.length co22 : Value).ownBlock ∧ some k_ ≠ (u9 : Value).ownBlock) (fun _ => False) rfl rfl ?aP (fun _ hk => hk.elim) ?aF ?aO ?aB ?aS ?aL ?_; (case aP => exact rfl); (case aB => exact ZZ605003); (case aF => exact (fun k_ hk => ⟨Kd.fresh' (Kd.R_lt (zR HO_7)) k_ hk, Kd.fresh' (Kd.R_lt (zR HO_8)) k_ hk, Kd.fresh' (Kd.R_lt (zR HO_9)) k_ hk⟩)); (case aO => exact (zR HO284)); (case aS => exact (below_size ZZ605003)); (case aL => have := LMc41.out; omega); intro v287 w43 ho hb hg hat; rw [← Ny286.out] at ho; replace HO_7 := Aside0.mk (Kd.R_after (ok := (fun k_ => some k_ ≠ (.slice Ao22 x8_2.length co22 : Value).ownBlock ∧ some k_ ≠ (u9 : Value).ownBlock)) (zR HO_7) hg hat); replace HO_8 := Aside0.mk (Kd.R_after (ok := (fun k_ => some k_ ≠ (.slice (some ad281) x7_2.length co15 : Value).ownBlock ∧ some k_ ≠ (u9 : Value).ownBlock)) (zR HO_8) hg hat); replace HO_9 := Aside0.mk (Kd.R_after (ok := (fun k_ => some k_ ≠ (.slice (some ad281) x7_2.length co15 : Value).ownBlock ∧ some k_ ≠ (.slice Ao22 x8_2.length co22 : Value).ownBlock)) (zR HO_9) hg hat); replace HB := Aside0.mk (hb); have HO288 := Aside0.mk (ho); clear HO284; clear ho hb hg hat))
                 go_roundg kj27
                 case measure => have := HJ2.out; have := HK2.out; have := HK3.out; have := HJ20.out; have := HJ23.out; have := HJ27.out; omega
                 case rel => exact ⟨(y286), (x9_23), (wrap64 (x10_3 + 2)), ZZ0ab324, H', ⟨ZZ341499⟩, ⟨(zR HO288)⟩, ⟨(by (with_reducible repeat (first | apply Kd.R_alloc | apply Kd.R_drewN | apply Kd.R_drew)); exact Kd.R_mono HO_7.out (fun _ hk => ⟨hk.2, ⟨hk.1.1, hk.1.2⟩⟩))⟩, ⟨(by (with_reducible repeat (first | apply Kd.R_alloc | apply Kd.R_drewN | apply Kd.R_drew)); exact Kd.R_mono HO_8.out (fun _ hk => ⟨hk.2, ⟨hk.1.1, hk.1.2⟩⟩))⟩, ⟨(by (with_reducible repeat (first | apply Kd.R_alloc | apply Kd.R_drewN | apply Kd.R_drew)); exact Kd.R_mono HO_9.out (fun _ hk => ⟨hk.2, ⟨hk.1.1, hk.1.2⟩⟩))⟩, ⟨ZZ605003⟩⟩
                replace c36 := Bool.eq_false_iff.mpr c36
                subst c36
                have H1 : (spec_ProveSubset.l1 kj27 y282 x7_2 x8_2 x9_23 (wrap64 (x10_3 + 2))) = some (r1, r2) := by rw [if_neg (show ¬ (false = true) by decide)] at H; exact H
                clear H
                have H := H1
                clear H1
                have H' := Aside0.mk H
                clear H
                have p281 : 0 ≤ ((ji32) : Int) := of_decide_eq_true ZZ853400
                have q281 : (ji32) < (x7_2.length : Int) := of_decide_eq_true ZZ853400
                obtain ⟨ad281, e281, hx281_0⟩ := Kd.at_int (Kd.R_reads' HO_7.out).2.2 (ji32) p281 q281
                cases e281
                replace p281 := eq_true p281
                replace q281 := eq_true q281
                go_wp2_with (first | ((with_reducible refine gate_builtin (b := .append) (xs := #[.tmp 67, .tmp 73]) rfl ?_); (try (refine gate_guard (by rfl) ?_; dsimp only)); at_builtin; refine Kd.R_append (Kd.int .i64) (w0 := w) w.heap.size rfl (.tmp 67) (.tmp 73) 40 3 (.int .i64 0) 8 rfl Tryd.underlying40 info3 rfl (by decide) (by omega) u6 x6_3 (rd x7_2 (ji32)) [.int .i64 (rd x7_2 (ji32))] (fun k_ => some k_ ≠ (.slice (some ad281) x7_2.length co15 : Value).ownBlock ∧ some k_ ≠ (.slice Ao22 x8_2.length co22 : Value).ownBlock ∧ some k_ ≠ (u9 : Value).ownBlock) (fun _ => False) rfl rfl ?aP (fun _ hk => hk.elim) ?aF ?aO ?aB ?aS ?aL ?_; (case aP => exact rfl); (case aB => exact ZZ605003); (case aF => exact (fun k_ hk => ⟨Kd.fresh' (Kd.R_lt (zR HO_7)) k_ hk, Kd.fresh' (Kd.R_lt (zR HO_8)) k_ hk, Kd.fresh' (Kd.R_lt (zR HO_9)) k_ hk⟩)); (case aO => exact (zR HO_6)); (case aS => exact (below_size ZZ605003)); (case aL => have := LMc35.out; omega); intro v283 w44 ho hb hg hat; rw [← Ny282.out] at ho; replace HO_7 := Aside0.mk (Kd.R_after (ok := (fun k_ => some k_ ≠ (.slice Ao22 x8_2.length co22 : Value).ownBlock ∧ some k_ ≠ (u9 : Value).ownBlock)) (by (with_reducible repeat (first | apply Kd.R_alloc | apply Kd.R_drewN | apply Kd.R_drew)); exact Kd.R_mono HO_7.out (fun _ hk => ⟨⟨hk.2.1, hk.2.2⟩, hk.1⟩)) hg hat); replace HO_8 := Aside0.mk (Kd.R_after (ok := (fun k_ => some k_ ≠ (.slice (some ad281) x7_2.length co15 : Value).ownBlock ∧ some k_ ≠ (u9 : Value).ownBlock)) (by (with_reducible repeat (first | apply Kd.R_alloc | apply Kd.R_drewN | apply Kd.R_drew)); exact Kd.R_mono HO_8.out (fun _ hk => ⟨⟨hk.2.1, hk.2.2⟩, hk.1⟩)) hg hat); replace HO_9 := Aside0.mk (Kd.R_after (ok := (fun k_ => some k_ ≠ (.slice (some ad281) x7_2.length co15 : Value).ownBlock ∧ some k_ ≠ (.slice Ao22 x8_2.length co22 : Value).ownBlock)) (by (with_reducible repeat (first | apply Kd.R_alloc | apply Kd.R_drewN | apply Kd.R_drew)); exact Kd.R_mono HO_9.out (fun _ hk => ⟨⟨hk.2.1, hk.2.2⟩, hk.1⟩)) hg hat); replace HB := Aside0.mk (hb); have HO284 := Aside0.mk (ho); clear HO_6; clear ho hb hg hat))
                go_roundg kj27
                case measure => have := HJ2.out; have := HK2.out; have := HK3.out; have := HJ20.out; have := HJ23.out; have := HJ27.out; omega
                case rel => exact ⟨(y282), (x9_23), (wrap64 (x10_3 + 2)), ZZ0ab324, H', ⟨ZZ341499⟩, ⟨(zR HO284)⟩, ⟨(by (with_reducible repeat (first | apply Kd.R_alloc | apply Kd.R_drewN | apply Kd.R_drew)); exact Kd.R_mono HO_7.out (fun _ hk => ⟨hk.2, ⟨hk.1.1, hk.1.2⟩⟩))⟩, ⟨(by (with_reducible repeat (first | apply Kd.R_alloc | apply Kd.R_drewN | apply Kd.R_drew)); exact Kd.R_mono HO_8.out (fun _ hk => ⟨hk.2, ⟨hk.1.1, hk.1.2⟩⟩))⟩, ⟨(by (with_reducible repeat (first | apply Kd.R_alloc | apply Kd.R_drewN | apply Kd.R_drew)); exact Kd.R_mono HO_9.out (fun _ hk => ⟨hk.2, ⟨hk.1.1, hk.1.2⟩⟩))⟩, ⟨ZZ605003⟩⟩
               replace c31 := Bool.eq_false_iff.mpr c31
               subst c31
               have H1 : (if t277 = true then (if t276 = true then (spec_ProveSubset.l1 kj27 x6_3 x7_2 x8_2 x9_23 (wrap64 (x10_3 + 2))) else (if 0 ≤ x10_3 then (if x10_3 < (x7_2.length : Int) then (if x6_3.length < 17592186044416 then (spec_ProveSubset.l1 kj27 (x6_3 ++ [rd x7_2 x10_3]) x7_2 x8_2 x9_23 (wrap64 (x10_3 + 2))) else (none)) else (none)) else (none))) else (spec_ProveSubset.l1 kj27 x6_3 x7_2 x8_2 x9_23 (wrap64 (x10_3 + 2)))) = some (r1, r2) := by rw [if_neg (show ¬ (false = true) by decide)] at H; exact H
               clear H
               have H := H1
               clear H1
               by_cases c45 : t277 = true
               ·subst c45
                have H1 : (if t276 = true then (spec_ProveSubset.l1 kj27 x6_3 x7_2 x8_2 x9_23 (wrap64 (x10_3 + 2))) else (if 0 ≤ x10_3 then (if x10_3 < (x7_2.length : Int) then (if x6_3.length < 17592186044416 then (spec_ProveSubset.l1 kj27 (x6_3 ++ [rd x7_2 x10_3]) x7_2 x8_2 x9_23 (wrap64 (x10_3 + 2))) else (none)) else (none)) else (none))) = some (r1, r2) := by rw [if_pos rfl] at H; exact H
                clear H
                have H := H1
                clear H1
                by_cases c46 : t276 = true
                ·subst c46
                 have H1 : (spec_ProveSubset.l1 kj27 x6_3 x7_2 x8_2 x9_23 (wrap64 (x10_3 + 2))) = some (r1, r2) := by rw [if_pos rfl] at H; exact H
                 clear H
                 have H := H1
                 clear H1
                 have H' := Aside0.mk H
                 clear H
                 go_wp2
                 go_roundg kj27
                 case measure => have := HJ2.out; have := HK2.out; have := HK3.out; have := HJ20.out; have := HJ23.out; have := HJ27.out; omega
                 case rel => exact ⟨(x6_3), (x9_23), (wrap64 (x10_3 + 2)), ZZ0ab324, H', ⟨ZZ341499⟩, ⟨(zR HO_6)⟩, ⟨(zR HO_7)⟩, ⟨(zR HO_8)⟩, ⟨(zR HO_9)⟩, ⟨ZZ605003⟩⟩
                replace c46 := Bool.eq_false_iff.mpr c46
                subst c46
                have H1 : (if 0 ≤ x10_3 then (if x10_3 < (x7_2.length : Int) then (if x6_3.length < 17592186044416 then (spec_ProveSubset.l1 kj27 (x6_3 ++ [rd x7_2 x10_3]) x7_2 x8_2 x9_23 (wrap64 (x10_3 + 2))) else (none)) else (none)) else (none)) = some (r1, r2) := by rw [if_neg (show ¬ (false = true) by decide)] at H; exact H
                clear H
                have H := H1
                clear H1
                obtain ⟨c47, H⟩ := ifY H
                have c47b0 := decide_eq_true c47
                clear c47
                obtain ⟨c48, H⟩ := ifY H
                have c48b0 := decide_eq_true c48
                clear c48
                obtain ⟨c49, H⟩ := ifY H
                have LMc49 := Aside0.mk c49
                clear c49
                obtain ⟨y290, hy290⟩ : ∃ y_ : List Int, y_ = (x6_3 ++ [rd x7_2 x10_3]) := ⟨_, rfl⟩
                replace H : (spec_ProveSubset.l1 kj27 y290 x7_2 x8_2 x9_23 (wrap64 (x10_3 + 2))) = some (r1, r2) := by first | (rw [hy290]; with_reducible exact H) | (have H2_ := (Option.bind_some _ _).symm.trans H; rw [hy290]; with_reducible exact H2_) | (have H2_ := (Option.bind_some _ _).symm.trans H; with_reducible exact H2_) | with_reducible exact H | (rw [hy290]; exact H) | exact H
                have Ny290 := Aside0.mk hy290
                clear hy290
                have H' := Aside0.mk H
                clear H
                have p289 : 0 ≤ (x10_3 : Int) := of_decide_eq_true ZZ853400
                have q289 : x10_3 < (x7_2.length : Int) := of_decide_eq_true ZZ853400
                obtain ⟨ad289, e289, hx289_0⟩ := Kd.at_int (Kd.R_reads' HO_7.out).2.2 x10_3 p289 q289
                cases e289
                replace p289 := eq_true p289
                replace q289 := eq_true q289
                go_wp2_with (first | ((with_reducible refine gate_builtin (b := .append) (xs := #[.tmp 80, .tmp 85]) rfl ?_); (try (refine gate_guard (by rfl) ?_; dsimp only)); at_builtin; refine Kd.R_append (Kd.int .i64) (w0 := w) w.heap.size rfl (.tmp 80) (.tmp 85) 40 3 (.int .i64 0) 8 rfl Tryd.underlying40 info3 rfl (by decide) (by omega) u6 x6_3 (rd x7_2 x10_3) [.int .i64 (rd x7_2 x10_3)] (fun k_ => some k_ ≠ (.slice (some ad289) x7_2.length co15 : Value).ownBlock ∧ some k_ ≠ (.slice Ao22 x8_2.length co22 : Value).ownBlock ∧ some k_ ≠ (u9 : Value).ownBlock) (fun _ => False) rfl rfl ?aP (fun _ hk => hk.elim) ?aF ?aO ?aB ?aS ?aL ?_; (case aP => exact rfl); (case aB => exact ZZ605003); (case aF => exact (fun k_ hk => ⟨Kd.fresh' (Kd.R_lt (zR HO_7)) k_ hk, Kd.fresh' (Kd.R_lt (zR HO_8)) k_ hk, Kd.fresh' (Kd.R_lt (zR HO_9)) k_ hk⟩)); (case aO => exact (zR HO_6)); (case aS => exact (below_size ZZ605003)); (case aL => have := LMc49.out; omega); intro v291 w50 ho hb hg hat; rw [← Ny290.out] at ho; replace HO_7 := Aside0.mk (Kd.R_after (ok := (fun k_ => some k_ ≠ (.slice Ao22 x8_2.length co22 : Value).ownBlock ∧ some k_ ≠ (u9 : Value).ownBlock)) (by (with_reducible repeat (first | apply Kd.R_alloc | apply Kd.R_drewN | apply Kd.R_drew)); exact Kd.R_mono HO_7.out (fun _ hk => ⟨⟨hk.2.1, hk.2.2⟩, hk.1⟩)) hg hat); replace HO_8 := Aside0.mk (Kd.R_after (ok := (fun k_ => some k_ ≠ (.slice (some ad289) x7_2.length co15 : Value).ownBlock ∧ some k_ ≠ (u9 : Value).ownBlock)) (by (with_reducible repeat (first | apply Kd.R_alloc | apply Kd.R_drewN | apply Kd.R_drew)); exact Kd.R_mono HO_8.out (fun _ hk => ⟨⟨hk.2.1, hk.2.2⟩, hk.1⟩)) hg hat); replace HO_9 := Aside0.mk (Kd.R_after (ok := (fun k_ => some k_ ≠ (.slice (some ad289) x7_2.length co15 : Value).ownBlock ∧ some k_ ≠ (.slice Ao22 x8_2.length co22 : Value).ownBlock)) (by (with_reducible repeat (first | apply Kd.R_alloc | apply Kd.R_drewN | apply Kd.R_drew)); exact Kd.R_mono HO_9.out (fun _ hk => ⟨⟨hk.2.1, hk.2.2⟩, hk.1⟩)) hg hat); replace HB := Aside0.mk (hb); have HO292 := Aside0.mk (ho); clear HO_6; clear ho hb hg hat))
                go_roundg kj27
                case measure => have := HJ2.out; have := HK2.out; have := HK3.out; have := HJ20.out; have := HJ23.out; have := HJ27.out; omega
                case rel => exact ⟨(y290), (x9_23), (wrap64 (x10_3 + 2)), ZZ0ab324, H', ⟨ZZ341499⟩, ⟨(zR HO292)⟩, ⟨(by (with_reducible repeat (first | apply Kd.R_alloc | apply Kd.R_drewN | apply Kd.R_drew)); exact Kd.R_mono HO_7.out (fun _ hk => ⟨hk.2, ⟨hk.1.1, hk.1.2⟩⟩))⟩, ⟨(by (with_reducible repeat (first | apply Kd.R_alloc | apply Kd.R_drewN | apply Kd.R_drew)); exact Kd.R_mono HO_8.out (fun _ hk => ⟨hk.2, ⟨hk.1.1, hk.1.2⟩⟩))⟩, ⟨(by (with_reducible repeat (first | apply Kd.R_alloc | apply Kd.R_drewN | apply Kd.R_drew)); exact Kd.R_mono HO_9.out (fun _ hk => ⟨hk.2, ⟨hk.1.1, hk.1.2⟩⟩))⟩, ⟨ZZ605003⟩⟩
               replace c45 := Bool.eq_false_iff.mpr c45
               subst c45
               have H1 : (spec_ProveSubset.l1 kj27 x6_3 x7_2 x8_2 x9_23 (wrap64 (x10_3 + 2))) = some (r1, r2) := by rw [if_neg (show ¬ (false = true) by decide)] at H; exact H
               clear H
               have H := H1
               clear H1
               have H' := Aside0.mk H
               clear H
               go_wp2
               go_roundg kj27
               case measure => have := HJ2.out; have := HK2.out; have := HK3.out; have := HJ20.out; have := HJ23.out; have := HJ27.out; omega
               case rel => exact ⟨(x6_3), (x9_23), (wrap64 (x10_3 + 2)), ZZ0ab324, H', ⟨ZZ341499⟩, ⟨(zR HO_6)⟩, ⟨(zR HO_7)⟩, ⟨(zR HO_8)⟩, ⟨(zR HO_9)⟩, ⟨ZZ605003⟩⟩
        rw [if_neg c18] at H
        have c18b0 := decide_eq_false c18
        clear c18
        obtain ⟨t273, A51, H⟩ := bdY H
        have H' := Aside0.mk H
        clear H
        go_wp2_with (first | ((with_reducible refine gate_callee (f := 78) rfl ?_); refine goesL_ (some 88) rfl rfl Tryd.func78 (by kernel_rfl) rfl #[.slice Ao15 x7_2.length co15] rfl ZZ19826e ?_; (with_reducible refine (spec_l25Up.calls k3 _ _ x7_2 t273 _ ?side1 ?side2 A51.out).mono ?_); (case side1 => repeat (first | exact (Kd.R_reads' HO_7.out).2.2 | (with_reducible refine Kd.C_alloc ?_ _) | (with_reducible refine Kd.C_drewN ?_ _) | (with_reducible refine Kd.C_drew ?_))); (case side2 => exact (Kd.R_reads' HO_7.out).2.1); rintro e w52 ⟨v274, rfl, ho0, hb⟩; refine ⟨_, rfl, ?_⟩; have HO275 := Aside0.mk (Kd.R_lower (Kd.R_new' (Kd.R_new' (Kd.R_new' (Kd.R_new' ho0 (Kd.R_lt (zR HO_6))) (Kd.R_lt (zR HO_7))) (Kd.R_lt (zR HO_8))) (Kd.R_lt (zR HO_9))) (below_size ZZ605003)); replace HO_6 := Aside0.mk (Kd.R_elder' (zR HO_6) (Kd.R_base ho0) hb); replace HO_7 := Aside0.mk (Kd.R_elder' (zR HO_7) (Kd.R_base ho0) hb); replace HO_8 := Aside0.mk (Kd.R_elder' (zR HO_8) (Kd.R_base ho0) hb); replace HO_9 := Aside0.mk (Kd.R_elder' (zR HO_9) (Kd.R_base ho0) hb); replace HB := Aside0.mk (below_step ZZ605003 hb); (try clear hb); (try clear hb2); (try clear hk); (try clear hi); (try clear ho0)))
        go_roundg k3
        case measure => have := HJ2.out; have := HK2.out; have := HK3.out; omega
        case rel => exact ⟨(x6_3), (t273), (x9_3), H', ⟨(by have := HJ2.out; have := HK2.out; have := HK3.out; omega)⟩, ⟨(by (with_reducible repeat (first | apply Kd.R_alloc | apply Kd.R_drewN | apply Kd.R_drew)); exact Kd.R_mono HO_6.out (fun _ hk => ⟨hk.2, hk.1.2.2⟩))⟩, ⟨(by (with_reducible repeat (first | apply Kd.R_alloc | apply Kd.R_drewN | apply Kd.R_drew)); exact Kd.R_mono HO275.out (fun _ hk => ⟨hk.1.1.1.2, hk.2⟩))⟩, ⟨(by (with_reducible repeat (first | apply Kd.R_alloc | apply Kd.R_drewN | apply Kd.R_drew)); exact Kd.R_mono HO_9.out (fun _ hk => ⟨hk.1.1, hk.2⟩))⟩, ⟨ZZ605003⟩⟩
     rw [if_neg c14] at H
     have c14b0 : decide (1 < (x7_2.length : Int)) = false := decide_eq_false c14
     have c14b1 : decide (1 < x7_2.length) = false := decide_eq_false (by omega)
     clear c14
     simp only [Option.some.injEq, Prod.mk.injEq] at H
     obtain ⟨rfl, rfl⟩ := H
     obtain ⟨Ao53, co53, eo53⟩ := Kd.R_slice HO_7.out
     subst eo53
     go_wp2
     go_ret2
     exact ⟨_, ZZab01d2, (by (with_reducible repeat (first | apply Kd.R_alloc | apply Kd.R_drewN | apply Kd.R_drew)); exact Kd.R_mono HO_6.out (fun _ hk => trivial)), ZZ605003⟩
end Go.Proofs.YtnfmlglhoboooaaDoor.XFnEvidence

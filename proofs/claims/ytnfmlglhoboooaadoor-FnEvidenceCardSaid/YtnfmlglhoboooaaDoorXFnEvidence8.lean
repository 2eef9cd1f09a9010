-- Printed by wip/tools/xprint.py, a program of this session, over the kit's print; Lean checks it.
import Derived.Test.YtnfmlglhoboooaaDoorXFnEvidence5
import Derived.Test.YtnfmlglhoboooaaDoorXFnEvidence1
import Derived.Test.YtnfmlglhoboooaaDoorXFnEvidence0
import Derived.Test.YtnfmlglhoboooaaDoorXFnEvidence3
import Derived.Test.YtnfmlglhoboooaaDoorXFnEvidence4
namespace Go.Proofs.YtnfmlglhoboooaaDoor.XFnEvidence
open Go.Proofs.YtnfmlglhoboooaaDoor.Short Go.RowKit Go.Proofs.YtnfmlglhoboooaaDoorW.PrintWords Go.Proofs.YtnfmlglhoboooaaDoorW.PrintLast Go.Proofs.YtnfmlglhoboooaaDoorW.PrintMore
attribute [local go_sem] max2_int min2_int max_two min_two max_three min_three max_four min_four   -- for this text's walks alone
set_option linter.unusedVariables false
set_option linter.unusedSimpArgs false
theorem ZZ87f9b3 {p : Prop} (h : p := by (with_reducible repeat (first | apply Kd.N_alloc | apply Kd.N_drewN | apply Kd.N_drew)); exact HO_36.out) : p := h
theorem ZZ0f9b83 {p : Prop} (h : p := by (with_reducible repeat (first | apply Kd.V_alloc | apply Kd.V_drewN | apply Kd.V_drew)); exact HL.out) : p := h
/-! ### impl_ProveSubset: function 44 -/
mutual
def impl_ProveSubset.j0 : Nat → List Int → List Int → Bool → Option (List Int × Bool)
 | 0, _, _, _ => none
 | k + 1, x0, x1, x23 => if x23 = true then (some (([] : List Int), false)) else (impl_ProveSubset.l0 k x0 (([] : List Int)) [] x1 (x1.length : Int) 0)
def impl_ProveSubset.l0 : Nat → List Int → List Int → List (Int × Bool) → List Int → Int → Int → Option (List Int × Bool)
 | 0, _, _, _, _, _, _ => none
 | k + 1, x0, x6, x7, x26, x27, x28 => if x28 < x27 then (if 0 ≤ x28 then (if x28 < (x26.length : Int) then ((mapPut.f x7 (rd x26 x28) true).bind fun t299 => (impl_ProveSubset.l0 k x0 x6 t299 x26 x27 (wrap64 (x28 + 1)))) else (none)) else (none)) else ((impl_levelsOf.f k x0).bind fun t300 => (impl_ProveSubset.l1 k x6 x7 t300 (t300.length : Int) 0))
def impl_ProveSubset.l1 : Nat → List Int → List (Int × Bool) → List (List Int) → Int → Int → Option (List Int × Bool)
 | 0, _, _, _, _, _ => none
 | k + 1, x6, x7, x36, x37, x38 => if x38 < x37 then (if 0 ≤ x38 then (if x38 < (x36.length : Int) then (impl_ProveSubset.l2 k x6 x7 (rd_L5 x36 x38) [] 0 x36 x37 x38) else (none)) else (none)) else (some (x6, true))
def impl_ProveSubset.l2 : Nat → List Int → List (Int × Bool) → List Int → List (Int × Bool) → Int → List (List Int) → Int → Int → Option (List Int × Bool)
 | 0, _, _, _, _, _, _, _, _ => none
 | k + 1, x6, x7, x11, x12, x13, x36, x37, x38 => if x13 < (x11.length : Int) then (if (wrap64 (x13 + 1)) = (x11.length : Int) then ((mapHas.f x7 x13).bind fun t304 => ((mapPut.f x12 (wrap64 (Int.tdiv x13 2)) t304).bind fun t305 => (impl_ProveSubset.l2 k x6 x7 x11 t305 (wrap64 (x13 + 2)) x36 x37 x38))) else ((mapHas.f x7 x13).bind fun t306 => (if t306 = true then ((mapHas.f x7 (wrap64 (x13 + 1))).bind fun t307 => (impl_ProveSubset.j4 k x6 x7 x11 x12 x13 x36 x37 x38 (!t307))) else (impl_ProveSubset.j4 k x6 x7 x11 x12 x13 x36 x37 x38 false)))) else (impl_ProveSubset.l1 k x6 x12 x36 x37 (wrap64 (x38 + 1)))
def impl_ProveSubset.j4 : Nat → List Int → List (Int × Bool) → List Int → List (Int × Bool) → Int → List (List Int) → Int → Int → Bool → Option (List Int × Bool)
 | 0, _, _, _, _, _, _, _, _, _ => none
 | k + 1, x6, x7, x11, x12, x13, x36, x37, x38, x61 => if x61 = true then (if 0 ≤ (wrap64 (x13 + 1)) then (if (wrap64 (x13 + 1)) < (x11.length : Int) then (if x6.length < 17592186044416 then ((some (x6 ++ [rd x11 (wrap64 (x13 + 1))] : List Int)).bind fun y309 => ((mapHas.f x7 x13).bind fun t312 => (if t312 = true then ((mapPut.f x12 (wrap64 (Int.tdiv x13 2)) true).bind fun t313 => (impl_ProveSubset.l2 k y309 x7 x11 t313 (wrap64 (x13 + 2)) x36 x37 x38)) else ((mapHas.f x7 (wrap64 (x13 + 1))).bind fun t314 => ((mapPut.f x12 (wrap64 (Int.tdiv x13 2)) t314).bind fun t315 => (impl_ProveSubset.l2 k y309 x7 x11 t315 (wrap64 (x13 + 2)) x36 x37 x38)))))) else (none)) else (none)) else (none)) else ((mapHas.f x7 x13).bind fun t316 => (if t316 = true then (impl_ProveSubset.j5 k x6 x7 x11 x12 x13 x36 x37 x38 false) else ((mapHas.f x7 (wrap64 (x13 + 1))).bind fun t317 => (impl_ProveSubset.j5 k x6 x7 x11 x12 x13 x36 x37 x38 t317))))
def impl_ProveSubset.j5 : Nat → List Int → List (Int × Bool) → List Int → List (Int × Bool) → Int → List (List Int) → Int → Int → Bool → Option (List Int × Bool)
 | 0, _, _, _, _, _, _, _, _, _ => none
 | k + 1, x6, x7, x11, x12, x13, x36, x37, x38, x80 => if x80 = true then (if 0 ≤ x13 then (if x13 < (x11.length : Int) then (if x6.length < 17592186044416 then ((some (x6 ++ [rd x11 x13] : List Int)).bind fun y319 => ((mapHas.f x7 x13).bind fun t322 => (if t322 = true then ((mapPut.f x12 (wrap64 (Int.tdiv x13 2)) true).bind fun t323 => (impl_ProveSubset.l2 k y319 x7 x11 t323 (wrap64 (x13 + 2)) x36 x37 x38)) else ((mapHas.f x7 (wrap64 (x13 + 1))).bind fun t324 => ((mapPut.f x12 (wrap64 (Int.tdiv x13 2)) t324).bind fun t325 => (impl_ProveSubset.l2 k y319 x7 x11 t325 (wrap64 (x13 + 2)) x36 x37 x38)))))) else (none)) else (none)) else (none)) else ((mapHas.f x7 x13).bind fun t326 => (if t326 = true then ((mapPut.f x12 (wrap64 (Int.tdiv x13 2)) true).bind fun t327 => (impl_ProveSubset.l2 k x6 x7 x11 t327 (wrap64 (x13 + 2)) x36 x37 x38)) else ((mapHas.f x7 (wrap64 (x13 + 1))).bind fun t328 => ((mapPut.f x12 (wrap64 (Int.tdiv x13 2)) t328).bind fun t329 => (impl_ProveSubset.l2 k x6 x7 x11 t329 (wrap64 (x13 + 2)) x36 x37 x38)))))
end
def impl_ProveSubset.f (k : Nat) (l0 : List Int) (l1 : List Int) : Option (List Int × Bool) := (impl_areLeaves.f k l0).bind fun t293 => (if t293 = true then ((impl_isSubset.f k l1 (l0.length : Int)).bind fun t294 => (impl_ProveSubset.j0 k l0 l1 (!t294))) else (impl_ProveSubset.j0 k l0 l1 true))
theorem impl_ProveSubset.mono_l : ∀ k, (∀ y0 y1 y2, LeO (impl_ProveSubset.j0 k y0 y1 y2) (impl_ProveSubset.j0 (k + 1) y0 y1 y2)) ∧ (∀ y0 y1 y2 y3 y4 y5, LeO (impl_ProveSubset.l0 k y0 y1 y2 y3 y4 y5) (impl_ProveSubset.l0 (k + 1) y0 y1 y2 y3 y4 y5)) ∧ (∀ y0 y1 y2 y3 y4, LeO (impl_ProveSubset.l1 k y0 y1 y2 y3 y4) (impl_ProveSubset.l1 (k + 1) y0 y1 y2 y3 y4)) ∧ (∀ y0 y1 y2 y3 y4 y5 y6 y7, LeO (impl_ProveSubset.l2 k y0 y1 y2 y3 y4 y5 y6 y7) (impl_ProveSubset.l2 (k + 1) y0 y1 y2 y3 y4 y5 y6 y7)) ∧ (∀ y0 y1 y2 y3 y4 y5 y6 y7 y8, LeO (impl_ProveSubset.j4 k y0 y1 y2 y3 y4 y5 y6 y7 y8) (impl_ProveSubset.j4 (k + 1) y0 y1 y2 y3 y4 y5 y6 y7 y8)) ∧ (∀ y0 y1 y2 y3 y4 y5 y6 y7 y8, LeO (impl_ProveSubset.j5 k y0 y1 y2 y3 y4 y5 y6 y7 y8) (impl_ProveSubset.j5 (k + 1) y0 y1 y2 y3 y4 y5 y6 y7 y8))
 | 0 => ⟨fun _ _ _ r h => by simp [impl_ProveSubset.j0] at h, fun _ _ _ _ _ _ r h => by simp [impl_ProveSubset.l0] at h, fun _ _ _ _ _ r h => by simp [impl_ProveSubset.l1] at h, fun _ _ _ _ _ _ _ _ r h => by simp [impl_ProveSubset.l2] at h, fun _ _ _ _ _ _ _ _ _ r h => by simp [impl_ProveSubset.j4] at h, fun _ _ _ _ _ _ _ _ _ r h => by simp [impl_ProveSubset.j5] at h⟩
 | k + 1 => by
  obtain ⟨ih0, ih1, ih2, ih3, ih4, ih5⟩ := impl_ProveSubset.mono_l k
  refine ⟨?_, ?_, ?_, ?_, ?_, ?_⟩
  all_goals intros
  all_goals (first | unfold impl_ProveSubset.j0 | unfold impl_ProveSubset.l0 | unfold impl_ProveSubset.l1 | unfold impl_ProveSubset.l2 | unfold impl_ProveSubset.j4 | unfold impl_ProveSubset.j5)
  all_goals
   repeat' first
   | (with_reducible exact ih0 _ _ _)
   | (with_reducible exact ih1 _ _ _ _ _ _)
   | (with_reducible exact ih2 _ _ _ _ _)
   | (with_reducible exact ih3 _ _ _ _ _ _ _ _)
   | (with_reducible exact ih4 _ _ _ _ _ _ _ _ _)
   | (with_reducible exact ih5 _ _ _ _ _ _ _ _ _)
   | (with_reducible exact impl_areLeaves.mono _ _)
   | (with_reducible exact impl_isSubset.mono _ _ _)
   | (with_reducible exact impl_levelsOf.mono _ _)
   | (with_reducible exact LeO.refl _)
   | (with_reducible exact LeO.none _)
   | (with_reducible refine LeO.ite ?_ ?_)
   | (with_reducible refine LeO.bind ?_ (fun _ => ?_))
   | exact ih0 _ _ _
   | exact ih1 _ _ _ _ _ _
   | exact ih2 _ _ _ _ _
   | exact ih3 _ _ _ _ _ _ _ _
   | exact ih4 _ _ _ _ _ _ _ _ _
   | exact ih5 _ _ _ _ _ _ _ _ _
   | exact impl_areLeaves.mono _ _
   | exact impl_isSubset.mono _ _ _
   | exact impl_levelsOf.mono _ _
   | exact LeO.none _
   | refine LeO.ite ?_ ?_
   | refine LeO.bind ?_ (fun _ => ?_)
theorem impl_ProveSubset.mono : ∀ a0 a1 k, LeO (impl_ProveSubset.f k a0 a1) (impl_ProveSubset.f (k + 1) a0 a1) := by
 intro a0 a1 k
 obtain ⟨ih0, ih1, ih2, ih3, ih4, ih5⟩ := impl_ProveSubset.mono_l k
 unfold impl_ProveSubset.f
 repeat' first
  | (with_reducible exact ih0 _ _ _)
  | (with_reducible exact ih1 _ _ _ _ _ _)
  | (with_reducible exact ih2 _ _ _ _ _)
  | (with_reducible exact ih3 _ _ _ _ _ _ _ _)
  | (with_reducible exact ih4 _ _ _ _ _ _ _ _ _)
  | (with_reducible exact ih5 _ _ _ _ _ _ _ _ _)
  | (with_reducible exact impl_areLeaves.mono _ _)
  | (with_reducible exact impl_isSubset.mono _ _ _)
  | (with_reducible exact impl_levelsOf.mono _ _)
  | (with_reducible exact LeO.refl _)
  | (with_reducible exact LeO.none _)
  | (with_reducible refine LeO.ite ?_ ?_)
  | (with_reducible refine LeO.bind ?_ (fun _ => ?_))
  | exact ih0 _ _ _
  | exact ih1 _ _ _ _ _ _
  | exact ih2 _ _ _ _ _
  | exact ih3 _ _ _ _ _ _ _ _
  | exact ih4 _ _ _ _ _ _ _ _ _
  | exact ih5 _ _ _ _ _ _ _ _ _
  | exact impl_areLeaves.mono _ _
  | exact impl_isSubset.mono _ _ _
  | exact impl_levelsOf.mono _ _
  | exact LeO.none _
  | refine LeO.ite ?_ ?_
  | refine LeO.bind ?_ (fun _ => ?_)
set_option maxHeartbeats 8000000 in
set_option maxRecDepth 100000 in
theorem impl_ProveSubset.calls (k : Nat) (A0 : Option Addr) (c0 : Nat) (l0 : List Int) (A1 : Option Addr) (c1 : Nat) (l1 : List Int) (r1 : List Int) (r2 : Bool) (w : World) (hr0 : Kd.C (Kd.int .i64) w A0 l0.length l0) (hc0 : l0.length ≤ c0) (hr1 : Kd.C (Kd.int .i64) w A1 l1.length l1) (hc1 : l1.length ≤ c1) (hV : TInv w) (h : impl_ProveSubset.f k l0 l1 = some (r1, r2)) :
 Calls Tryd.prog 44 #[.slice A0 l0.length c0, .slice A1 l1.length c1] w fun e w' => ∃ v0_ : Value, e = .returned (.tuple #[v0_, .bool r2]) ∧ Kd.R (Kd.int .i64) 3 w' w.heap.size (fun _ => True) v0_ r1 ∧ Below w.heap.size w w' := by
 have HV := Aside0.mk hV
 clear hV
 have HR0 := Aside0.mk hr0
 have HC0 := Aside0.mk hc0
 clear hr0 hc0
 have HR1 := Aside0.mk hr1
 have HC1 := Aside0.mk hc1
 clear hr1 hc1
 have HB := Aside0.mk (Below.refl w.heap.size w)
 have H := h
 clear h
 unfold impl_ProveSubset.f at H
 have HC3 := Aside0.mk H
 clear H
 go_enter Tryd.func44, Tryd.ntmps44
 go_upto_region 1 with (fail)
 go_cut [23] (fun v23 wc => ∃ (kq : Nat) (x23_2 : Bool), v23 = .bool x23_2 ∧ Aside0 (impl_ProveSubset.j0 kq l0 l1 x23_2 = some (r1, r2)) ∧ Aside0 (kq ≤ k) ∧ Aside0 (Below w.heap.size w wc))
 case first =>
  have H := HC3.out
  clear HC3
  obtain ⟨t293, A4, H⟩ := bdY H
  by_cases c5 : t293 = true
  ·subst c5
   have H1 : ((impl_isSubset.f k l1 (l0.length : Int)).bind fun t294 => (impl_ProveSubset.j0 k l0 l1 (!t294))) = some (r1, r2) := by rw [if_pos rfl] at H; exact H
   clear H
   have H := H1
   clear H1
   obtain ⟨t294, A6, H⟩ := bdY H
   have H' := Aside0.mk H
   clear H
   go_wp2_with (first | ((with_reducible refine gate_callee (f := 63) rfl ?_); refine goesL_ (some 15) rfl rfl Tryd.func63 (by kernel_rfl) rfl #[.slice A0 l0.length c0] rfl ZZ19826e ?_; (with_reducible refine (impl_areLeaves.calls k _ _ l0 true _ ?side1 ?side2 A4.out).mono ?_); (case side1 => exact ZZ13f2d6); (case side2 => exact HC0.out); rintro e w7 ⟨rfl, hb⟩; refine ⟨_, rfl, ?_⟩; replace HB := Aside0.mk (below_step ZZ605003 hb); (try clear hb); (try clear hb2); (try clear hk); (try clear hi)) | (go_at_call 72; (with_reducible refine (impl_isSubset.calls k _ _ l1 (l0.length : Int) t294 _ ?side1 ?side2 A6.out).mono ?_); (case side1 => exact (by repeat (first | exact (Kd.C_below HR1.out HB.out) | (with_reducible refine Kd.C_alloc ?_ _) | (with_reducible refine Kd.C_drewN ?_ _) | (with_reducible refine Kd.C_drew ?_)))); (case side2 => exact HC1.out); rintro e w' ⟨rfl, ⟨nd, rfl⟩⟩))
   go_meet
   case rel => exact ⟨_, (!t294), ZZ0ab324, H', ⟨ZZ81c739⟩, ⟨ZZ605003⟩⟩
  replace c5 := Bool.eq_false_iff.mpr c5
  subst c5
  have H1 : (impl_ProveSubset.j0 k l0 l1 true) = some (r1, r2) := by rw [if_neg (show ¬ (false = true) by decide)] at H; exact H
  clear H
  have H := H1
  clear H1
  have H' := Aside0.mk H
  clear H
  go_wp2_with (first | ((with_reducible refine gate_callee (f := 63) rfl ?_); refine goesL_ (some 15) rfl rfl Tryd.func63 (by kernel_rfl) rfl #[.slice A0 l0.length c0] rfl ZZ19826e ?_; (with_reducible refine (impl_areLeaves.calls k _ _ l0 false _ ?side1 ?side2 A4.out).mono ?_); (case side1 => exact ZZ13f2d6); (case side2 => exact HC0.out); rintro e w8 ⟨rfl, hb⟩; refine ⟨_, rfl, ?_⟩; replace HB := Aside0.mk (below_step ZZ605003 hb); (try clear hb); (try clear hb2); (try clear hk); (try clear hi)))
  go_meet
  case rel => exact ⟨_, (true), ZZ0ab324, H', ⟨ZZ81c739⟩, ⟨ZZ605003⟩⟩
 case rest =>
  clear HC3
  try clear c1
  try clear c5
  obtain ⟨kq, x23_2, rfl, HA, HJ2, HB⟩ := hcut
  cases kq with
  | zero => exact absurd HA.out (by simp [impl_ProveSubset.j0])
  | succ kj2 =>
   have H := HA.out
   clear HA
   simp only [impl_ProveSubset.j0] at H
   by_cases c9 : x23_2 = true
   ·subst c9
    have H1 : (some (([] : List Int), false)) = some (r1, r2) := by rw [if_pos rfl] at H; exact H
    clear H
    have H := H1
    clear H1
    simp only [Option.some.injEq, Prod.mk.injEq] at H
    obtain ⟨rfl, rfl⟩ := H
    go_wp2
    go_ret2
    exact ⟨_, ZZab01d2, (by first | exact Kd.R_nil _ _ _ _ _ | exact Kd.N_nil _ _ _ _ _ | exact Kd.V_nil _ _ _ _ _ | exact Kd.Q_nil _ _ _ _ _ | exact Kd.S_nil _ _ _ _ _), ZZ605003⟩
   replace c9 := Bool.eq_false_iff.mpr c9
   subst c9
   have H1 : (impl_ProveSubset.l0 kj2 l0 (([] : List Int)) [] l1 (l1.length : Int) 0) = some (r1, r2) := by rw [if_neg (show ¬ (false = true) by decide)] at H; exact H
   clear H
   have H := H1
   clear H1
   obtain ⟨y295, hy295⟩ : ∃ y_ : List Int, y_ = (([] : List Int)) := ⟨_, rfl⟩
   replace H : (impl_ProveSubset.l0 kj2 l0 y295 [] l1 (l1.length : Int) 0) = some (r1, r2) := by first | (rw [hy295]; with_reducible exact H) | (have H2_ := (Option.bind_some _ _).symm.trans H; rw [hy295]; with_reducible exact H2_) | (have H2_ := (Option.bind_some _ _).symm.trans H; with_reducible exact H2_) | with_reducible exact H | (rw [hy295]; exact H) | exact H
   have Ny295 := Aside0.mk hy295
   clear hy295
   have H' := Aside0.mk H
   clear H
   go_wp2_with (first | ((with_reducible refine gate_dst (N := 24) rfl ?_); (try (refine gate_guard (by rfl) ?_; dsimp only)); refine Kd.R_lit (Kd.int .i64) _ 3 ?hg (N := 24) ?hd (xs := ([] : List Int)) (inner := []) (ok := fun _ => True) (okp := fun _ => True) ?hr ?hp (fun _ hk => hk) trivial (Below.refl _ _) (Nat.le_refl _) (by simp) ?_; (case hd => rfl); (case hg => rfl); (case hr => first | (go_simp; done) | (go_simp; rfl)); (case hp => exact (Reps.none _ _)); intro v296 w10 ho11 hb hg_ hnew_; clear hg_ hnew_; (first | rw [← Ny295.out] at ho11 | (simp only [Int.reduceToNat] at ho11; rw [← Ny295.out] at ho11)); have HO297 := Aside0.mk (Kd.R_lower ho11 (below_size ZZ605003)); replace HB := Aside0.mk (below_step ZZ605003 hb); clear hb ho11) | ((with_reducible refine gate_makeMap rfl ?_); refine make_event 3 4 Lit.bool rfl rfl ?_; intro gm_ hgm wm1 hm hb; have n0_ := Aside0.mk (Kd.R_below (zR HO297) hb); have n1_ := Aside0.mk (below_step ZZ605003 hb); have GMa := Aside0.mk ((by rw [hgm]; exact (below_size ZZ605003)) : w.heap.size ≤ gm_); have HM7 := Aside0.mk hm; clear HO297 HB; have HO297 := n0_; have HB := n1_; clear n0_ n1_ hb hm hgm))
   go_loopg [28] kj2 (fun kq v28 w' => ∃ (x7_2 : List (Int × Bool)) (x28_2 : Int), v28 = .int .i64 x28_2 ∧ Aside0 (impl_ProveSubset.l0 kq l0 y295 x7_2 l1 (l1.length : Int) x28_2 = some (r1, r2)) ∧ Aside0 (kq ≤ kj2) ∧ Aside0 (Kd.R (Kd.int .i64) 3 w' w.heap.size (fun _ => True) v296 y295) ∧ Aside0 (MapW Tryd.prog 3 4 Lit.bool w' gm_ x7_2) ∧ Aside0 (Below w.heap.size w w'))
   case atStart => exact ⟨([]), (0), ZZ0ab324, H', ⟨Nat.le_refl _⟩, ⟨(zR HO297)⟩, ⟨ZZ04b898⟩, ⟨ZZ605003⟩⟩
   case round =>
    clear H'
    try clear c9
    obtain ⟨x7_2, x28_2, rfl, HA, HK2, HO_6, HM7, HB⟩ := hrel
    cases gk with
    | zero => exact absurd HA.out (by simp [impl_ProveSubset.l0])
    | succ k2 =>
     have H := HA.out
     clear HA
     simp only [impl_ProveSubset.l0] at H
     by_cases c12 : x28_2 < (l1.length : Int)
     ·rw [if_pos c12] at H
      have c12b0 := decide_eq_true c12
      clear c12
      obtain ⟨c13, H⟩ := ifY H
      have c13b0 := decide_eq_true c13
      clear c13
      obtain ⟨c14, H⟩ := ifY H
      have c14b0 := decide_eq_true c14
      clear c14
      obtain ⟨t299, A15, H⟩ := bdY H
      have H' := Aside0.mk H
      clear H
      have p298 : 0 ≤ (x28_2 : Int) := of_decide_eq_true ZZ853400
      have q298 : x28_2 < (l1.length : Int) := of_decide_eq_true ZZ853400
      obtain ⟨ad298, e298, hx298_0⟩ := Kd.at_int HR1.out x28_2 p298 q298
      cases e298
      replace hx298_0 := (HB.out.cell (World.block_lt_of_cell? w _ hx298_0)).trans hx298_0
      replace p298 := eq_true p298
      replace q298 := eq_true q298
      go_wp2_with (first | ((with_reducible refine gate_update rfl ?_); obtain ⟨hky, hln, hle⟩ := mapPut.open_ A15.out; refine update_event (k := 3) (e := 4) (enc := Lit.bool) (vv := true) (L := x7_2) rfl _ _ _ 90 (Or.inl rfl) rfl rfl rfl Tryd.underlying3 Tryd.underlying90 ZZ04b898 hln hky (plainElem_bool Tryd.underlying4 true) ?_; intro wm2 hm hg; rw [← hle] at hm; replace HO_6 := Aside0.mk (MapW.row ZZ04b898 (zR HO_6) hg); replace HB := Aside0.mk (Below.grown ZZ605003 hg (below_size ZZ605003) (fun _ e_ => by cases e_; exact GMa.out)); have HM7 := Aside0.mk hm; clear hm hg hky hln hle))
      go_roundg k2
      case measure => have := HJ2.out; have := HK2.out; omega
      case rel => exact ⟨(t299), (wrap64 (x28_2 + 1)), ZZ0ab324, H', ⟨(by have := HJ2.out; have := HK2.out; omega)⟩, ⟨(zR HO_6)⟩, ⟨ZZ04b898⟩, ⟨ZZ605003⟩⟩
     rw [if_neg c12] at H
     have c12b0 := decide_eq_false c12
     clear c12
     obtain ⟨t300, A17, H⟩ := bdY H
     have H' := Aside0.mk H
     clear H
     go_wp2_with (first | ((with_reducible refine gate_callee (f := 66) rfl ?_); refine goesL_ (some 36) rfl rfl Tryd.func66 (by kernel_rfl) rfl #[.slice A0 l0.length c0] rfl ZZ19826e ?_; (with_reducible refine (impl_levelsOf.calls k2 (fun k_ => k_ < w.heap.size) _ _ l0 t300 _ ?side1 ?side2 A17.out).mono ?_); (case side1 => exact Kd.V_mk HC0.out (Kd.F_below (Kd.C_F (Kd.heap_int .i64) HR0.out) ZZ605003)); (case side2 => first | (with_reducible exact HV.out) | exact TInv.below HV.out ZZ605003); rintro e w18 ⟨v301, rfl, ho0, hb⟩; have HM7 := Aside0.mk (MapW.below (L := x7_2) ZZ04b898 hb); refine ⟨_, rfl, ?_⟩; have HO302 := Aside0.mk (Kd.N_lower (Kd.N_mono (ok' := fun k_ => some k_ ≠ (v296 : Value).ownBlock) ho0 (fun k_ hk_ => Or.elim hk_ (fun hs_ => fun e_ => Nat.not_le.2 hs_ (Kd.R_base HO_6.out k_ e_.symm)) (fun hn_ => (Kd.fresh' (Kd.R_lt (zR HO_6)) k_ hn_)))) (below_size ZZ605003)); replace HO_6 := Aside0.mk (Kd.R_below (zR HO_6) hb); replace HB := Aside0.mk (below_step ZZ605003 hb); (try clear hb); (try clear hb2); (try clear hk); (try clear hi); (try clear ho0); obtain ⟨Ao19, co19, eo19⟩ := Kd.N_slice HO302.out; subst eo19))
     go_loopg [6, 7, 38] k2 (fun kq v6 v7 v38 w' => ∃ (x6_3 : List Int) (x7_3 : List (Int × Bool)) (x38_3 : Int) (g7 : Nat), v7 = .map (some g7) ∧ v38 = .int .i64 x38_3 ∧ Aside0 (impl_ProveSubset.l1 kq x6_3 x7_3 t300 (t300.length : Int) x38_3 = some (r1, r2)) ∧ Aside0 (kq ≤ k2) ∧ Aside0 (Kd.R (Kd.int .i64) 3 w' w.heap.size (fun _ => True) v6 x6_3) ∧ Aside0 (Kd.N (Kd.slice 3 (Kd.int .i64)) 40 w' w.heap.size (fun k_ => some k_ ≠ (v6 : Value).ownBlock) (.slice Ao19 t300.length co19) t300) ∧ Aside0 (MapW Tryd.prog 3 4 Lit.bool w' g7 x7_3) ∧ Aside0 (w.heap.size ≤ g7) ∧ Aside0 (Below w.heap.size w w'))
     case atStart => exact ⟨(y295), (x7_2), (0), gm_, ZZ0ab324, ZZ0ab324, H', ⟨Nat.le_refl _⟩, ⟨(zR HO_6)⟩, ⟨(by (with_reducible repeat (first | apply Kd.N_alloc | apply Kd.N_drewN | apply Kd.N_drew)); exact HO302.out)⟩, ⟨ZZ04b898⟩, GMa, ⟨ZZ605003⟩⟩
     case round =>
      clear H'
      try clear c12b0
      try clear c13b0
      try clear c14b0
      try clear hx298_0
      try clear p298
      try clear q298
      obtain ⟨x6_3, x7_3, x38_3, g7, rfl, rfl, HA, HK3, HO_6, HO_36, HM7, GM7, HB⟩ := hrel
      cases gk with
      | zero => exact absurd HA.out (by simp [impl_ProveSubset.l1])
      | succ k3 =>
       have H := HA.out
       clear HA
       simp only [impl_ProveSubset.l1] at H
       by_cases c20 : x38_3 < (t300.length : Int)
       ·rw [if_pos c20] at H
        have c20b0 := decide_eq_true c20
        clear c20
        obtain ⟨c21, H⟩ := ifY H
        have c21b0 := decide_eq_true c21
        clear c21
        obtain ⟨c22, H⟩ := ifY H
        have c22b0 := decide_eq_true c22
        clear c22
        have H' := Aside0.mk H
        clear H
        have p303 : 0 ≤ (x38_3 : Int) := of_decide_eq_true ZZ853400
        have q303 : x38_3 < (t300.length : Int) := of_decide_eq_true ZZ853400
        obtain ⟨ad303, A303_0, c303_0, e303, hx303_0, hl303_0, hi303_0⟩ := at_L5 (Kd.N_reads' HO_36.out).2.2 x38_3 p303 q303
        cases e303
        obtain ⟨ce303, hce303, hMe303, hcc303⟩ := Kd.N_get HO_36.out [] x38_3 p303 (by first | exact q303 | exact of_decide_eq_true ZZ853400 | (have e_ := (Kd.N_reads' HO_36.out).1; omega))
        obtain ⟨ua303_0, uc303_0, rfl, ul303_0, ge303_0⟩ := Kd.FK_slice_open hMe303
        have hv303_0 := hcc303 0 _ rfl
        rw [Nat.add_zero, show ((Kd.slice 3 (Kd.int .i64))).sz = 1 from rfl, Nat.mul_one] at hv303_0
        replace hv303_0 := Option.some.inj (hv303_0.symm.trans hx303_0)
        injection hv303_0 with hva_ hvn_ hvc_
        rw [hva_] at ge303_0
        rw [hvc_] at ul303_0
        have HL303_0 := Aside0.mk (show Kd.V (Kd.int .i64) 3 _ w.heap.size _ _ (rd_L5 t300 x38_3) from Kd.V_mk ul303_0 ge303_0)
        clear hva_ hvn_ hvc_ ge303_0 ul303_0
        clear hcc303 hce303
        have HR303_0 := Aside0.mk hi303_0
        have HC303_0 := Aside0.mk hl303_0
        clear hi303_0 hl303_0
        replace p303 := eq_true p303
        replace q303 := eq_true q303
        have HL := Aside0.mk (Kd.V_mono (ok' := fun k_ => some k_ ≠ (u6 : Value).ownBlock) HL303_0.out (fun _ hk => hk.1))
        go_wp2_with (first | ((with_reducible refine gate_makeMap rfl ?_); refine make_event 3 4 Lit.bool rfl rfl ?_; intro gq_ hgq wm1 hm hb; have HNE := Aside0.mk (show g7 ≠ gq_ from (by rw [hgq]; exact Nat.ne_of_lt (MapW.lt (P := Tryd.prog) (k := 3) (e := 4) (enc := Lit.bool) (L := x7_3) ZZ04b898))); have n0_ := Aside0.mk (Kd.R_below (zR HO_6) hb); have n1_ := Aside0.mk (Kd.N_below (Kd.N_elderB ZZ87f9b3 gq_ (Nat.le_of_eq hgq.symm)) hb); have HL := Aside0.mk (Kd.V_below (Kd.V_elderB (ok := fun k_ => some k_ ≠ (u6 : Value).ownBlock) ZZ0f9b83 gq_ (Nat.le_of_eq hgq.symm)) hb); have HM7 := Aside0.mk (MapW.below (L := x7_3) ZZ04b898 hb); have n2_ := Aside0.mk (below_step ZZ605003 hb); have GM12 := Aside0.mk ((by rw [hgq]; exact (below_size ZZ605003)) : w.heap.size ≤ gq_); have HM12 := Aside0.mk hm; clear HO_6 HO_36 HB; have HO_6 := n0_; have HO_36 := n1_; have HB := n2_; clear n0_ n1_ n2_ hb hm hgq))
        go_loopg [6, 13] k3 (fun kq v6 v13 w' => ∃ (x6_4 : List Int) (x12_4 : List (Int × Bool)) (x13_4 : Int), v13 = .int .i64 x13_4 ∧ Aside0 (impl_ProveSubset.l2 kq x6_4 x7_3 (rd_L5 t300 x38_3) x12_4 x13_4 t300 (t300.length : Int) x38_3 = some (r1, r2)) ∧ Aside0 (kq ≤ k3) ∧ Aside0 (Kd.R (Kd.int .i64) 3 w' w.heap.size (fun _ => True) v6 x6_4) ∧ Aside0 (Kd.N (Kd.slice 3 (Kd.int .i64)) 40 w' w.heap.size (fun k_ => some k_ ≠ (v6 : Value).ownBlock ∧ k_ ≠ gq_) (.slice (some ad303) t300.length co19) t300) ∧ Aside0 (Kd.V (Kd.int .i64) 3 w' w.heap.size (fun k_ => some k_ ≠ (v6 : Value).ownBlock ∧ k_ ≠ gq_) (.slice A303_0 ((rd_L5 t300 x38_3)).length c303_0) ((rd_L5 t300 x38_3))) ∧ Aside0 (MapW Tryd.prog 3 4 Lit.bool w' g7 x7_3) ∧ Aside0 (MapW Tryd.prog 3 4 Lit.bool w' gq_ x12_4) ∧ Aside0 (Below w.heap.size w w'))
        case atStart => exact ⟨(x6_3), ([]), (0), ZZ0ab324, H', ⟨Nat.le_refl _⟩, ⟨(zR HO_6)⟩, ⟨ZZ87f9b3⟩, ⟨ZZ0f9b83⟩, ⟨ZZ04b898⟩, ⟨ZZaf2bc8⟩, ⟨ZZ605003⟩⟩
        case round =>
         clear H'
         try clear c20b0
         try clear c21b0
         try clear c22b0
         try clear hx303_0
         try clear p303
         try clear q303
         obtain ⟨x6_4, x12_4, x13_4, rfl, HA, HK4, HO_6, HO_36, HL, HM7, HM12, HB⟩ := hrel
         cases gk with
         | zero => exact absurd HA.out (by simp [impl_ProveSubset.l2])
         | succ k4 =>
          have H := HA.out
          clear HA
          simp only [impl_ProveSubset.l2] at H
          by_cases c23 : x13_4 < ((rd_L5 t300 x38_3).length : Int)
          ·rw [if_pos c23] at H
           have c23b0 := decide_eq_true c23
           clear c23
           by_cases c24 : (wrap64 (x13_4 + 1)) = ((rd_L5 t300 x38_3).length : Int)
           ·rw [if_pos c24] at H
            have c24b0 := beq_iff_eq.mpr c24
            have c24b1 := bne_eq_false_iff_eq.mpr c24
            clear c24
            obtain ⟨t304, A25, H⟩ := bdY H
            obtain ⟨t305, A26, H⟩ := bdY H
            have H' := Aside0.mk H
            clear H
            go_wp2_with (first | ((with_reducible refine gate_lookup rfl ?_); refine look_eventB A25.out rfl _ _ 90 rfl rfl rfl Tryd.underlying3 Tryd.underlying90 Tryd.underlying4 (by kernel_rfl) ZZ04b898 ?_) | ((with_reducible refine gate_update rfl ?_); obtain ⟨hky, hln, hle⟩ := mapPut.open_ A26.out; refine update_event (k := 3) (e := 4) (enc := Lit.bool) (vv := t304) (L := x12_4) rfl _ _ _ 90 (Or.inl rfl) rfl rfl rfl Tryd.underlying3 Tryd.underlying90 ZZaf2bc8 hln hky (plainElem_bool Tryd.underlying4 t304) ?_; intro wm2 hm hg; rw [← hle] at hm; have HL := Aside0.mk (Kd.V_grown (ok := fun k_ => some k_ ≠ (u6 : Value).ownBlock ∧ k_ ≠ gq_) ZZ0f9b83 hg (fun k_ hk_ e_ => hk_.2 (by injection e_))); have HM7 := Aside0.mk (MapW.kept (P := Tryd.prog) (k := 3) (e := 4) (enc := Lit.bool) (b := g7) (L := x7_3) ZZ04b898 hg (fun e_ => HNE.out (by injection e_))); replace HO_6 := Aside0.mk (MapW.row ZZaf2bc8 (zR HO_6) hg); replace HO_36 := Aside0.mk (Kd.N_grown (ok := fun k_ => some k_ ≠ (u6 : Value).ownBlock ∧ k_ ≠ gq_) ZZ87f9b3 hg (fun k_ hk_ e_ => hk_.2 (by injection e_))); replace HB := Aside0.mk (Below.grown ZZ605003 hg (below_size ZZ605003) (fun _ e_ => by cases e_; exact GM12.out)); have HM12 := Aside0.mk hm; clear hm hg hky hln hle))
            go_roundg k4
            case measure => have := HJ2.out; have := HK2.out; have := HK3.out; have := HK4.out; omega
            case rel => exact ⟨(x6_4), (t305), (wrap64 (x13_4 + 2)), ZZ0ab324, H', ⟨(by have := HJ2.out; have := HK2.out; have := HK3.out; have := HK4.out; omega)⟩, ⟨(zR HO_6)⟩, ⟨ZZ87f9b3⟩, ⟨ZZ0f9b83⟩, ⟨ZZ04b898⟩, ⟨ZZaf2bc8⟩, ⟨ZZ605003⟩⟩
           rw [if_neg c24] at H
           have c24b0 := beq_eq_false_iff_ne.mpr c24
           have c24b1 := bne_iff_ne.mpr c24
           have HC28 := Aside0.mk H
           clear H
           go_upto_region 19 with (fail)
           go_cut [61] (fun v61 wc => ∃ (kq : Nat) (x61_27 : Bool), v61 = .bool x61_27 ∧ Aside0 (impl_ProveSubset.j4 kq x6_4 x7_3 (rd_L5 t300 x38_3) x12_4 x13_4 t300 (t300.length : Int) x38_3 x61_27 = some (r1, r2)) ∧ Aside0 (kq ≤ k4) ∧ Aside0 (Kd.R (Kd.int .i64) 3 wc w.heap.size (fun _ => True) u6 x6_4) ∧ Aside0 (Kd.N (Kd.slice 3 (Kd.int .i64)) 40 wc w.heap.size (fun k_ => some k_ ≠ (u6 : Value).ownBlock ∧ k_ ≠ gq_) (.slice (some ad303) t300.length co19) t300) ∧ Aside0 (Kd.V (Kd.int .i64) 3 wc w.heap.size (fun k_ => some k_ ≠ (u6 : Value).ownBlock ∧ k_ ≠ gq_) (.slice A303_0 ((rd_L5 t300 x38_3)).length c303_0) ((rd_L5 t300 x38_3))) ∧ Aside0 (MapW Tryd.prog 3 4 Lit.bool wc g7 x7_3) ∧ Aside0 (MapW Tryd.prog 3 4 Lit.bool wc gq_ x12_4) ∧ Aside0 (Below w.heap.size w wc))
           case first =>
            have H := HC28.out
            clear HC28
            obtain ⟨t306, A29, H⟩ := bdY H
            by_cases c30 : t306 = true
            ·subst c30
             have H1 : ((mapHas.f x7_3 (wrap64 (x13_4 + 1))).bind fun t307 => (impl_ProveSubset.j4 k4 x6_4 x7_3 (rd_L5 t300 x38_3) x12_4 x13_4 t300 (t300.length : Int) x38_3 (!t307))) = some (r1, r2) := by rw [if_pos rfl] at H; exact H
             clear H
             have H := H1
             clear H1
             obtain ⟨t307, A31, H⟩ := bdY H
             have H' := Aside0.mk H
             clear H
             obtain ⟨hlk0, hlk1, hlk2⟩ := MapW.lookAll (k := 3) (e := 4) (t := 90) A31.out HM7.out Tryd.underlying3 Tryd.underlying90 Tryd.underlying4 (fun _ => by kernel_rfl)
             go_wp2_with (first | ((with_reducible refine gate_lookup rfl ?_); refine look_eventB A29.out rfl _ _ 90 rfl rfl rfl Tryd.underlying3 Tryd.underlying90 Tryd.underlying4 (by kernel_rfl) ZZ04b898 ?_) | (fail))
             go_meet
             case rel => exact ⟨_, (!t307), ZZ0ab324, H', ⟨(by have := HJ2.out; have := HK2.out; have := HK3.out; have := HK4.out; first | omega | exact Nat.le_refl _)⟩, ⟨(zR HO_6)⟩, ⟨ZZ87f9b3⟩, ⟨ZZ0f9b83⟩, ⟨ZZ04b898⟩, ⟨ZZaf2bc8⟩, ⟨ZZ605003⟩⟩
            replace c30 := Bool.eq_false_iff.mpr c30
            subst c30
            have H1 : (impl_ProveSubset.j4 k4 x6_4 x7_3 (rd_L5 t300 x38_3) x12_4 x13_4 t300 (t300.length : Int) x38_3 false) = some (r1, r2) := by rw [if_neg (show ¬ (false = true) by decide)] at H; exact H
            clear H
            have H := H1
            clear H1
            have H' := Aside0.mk H
            clear H
            go_wp2_with (first | ((with_reducible refine gate_lookup rfl ?_); refine look_eventB A29.out rfl _ _ 90 rfl rfl rfl Tryd.underlying3 Tryd.underlying90 Tryd.underlying4 (by kernel_rfl) ZZ04b898 ?_))
            go_meet
            case rel => exact ⟨_, (false), ZZ0ab324, H', ⟨(by have := HJ2.out; have := HK2.out; have := HK3.out; have := HK4.out; first | omega | exact Nat.le_refl _)⟩, ⟨(zR HO_6)⟩, ⟨ZZ87f9b3⟩, ⟨ZZ0f9b83⟩, ⟨ZZ04b898⟩, ⟨ZZaf2bc8⟩, ⟨ZZ605003⟩⟩
           case rest =>
            clear HC28
            try clear c23b0
            try clear c24
            try clear c24b0
            try clear c24b1
            try clear c30
            obtain ⟨kq, x61_27, rfl, HA, HJ27, HO_6, HO_36, HL, HM7, HM12, HB⟩ := hcut
            cases kq with
            | zero => exact absurd HA.out (by simp [impl_ProveSubset.j4])
            | succ kj27 =>
             have H := HA.out
             clear HA
             simp only [impl_ProveSubset.j4] at H
             by_cases c32 : x61_27 = true
             ·subst c32
              have H1 : (if 0 ≤ (wrap64 (x13_4 + 1)) then (if (wrap64 (x13_4 + 1)) < ((rd_L5 t300 x38_3).length : Int) then (if x6_4.length < 17592186044416 then ((some (x6_4 ++ [rd (rd_L5 t300 x38_3) (wrap64 (x13_4 + 1))] : List Int)).bind fun y309 => ((mapHas.f x7_3 x13_4).bind fun t312 => (if t312 = true then ((mapPut.f x12_4 (wrap64 (Int.tdiv x13_4 2)) true).bind fun t313 => (impl_ProveSubset.l2 kj27 y309 x7_3 (rd_L5 t300 x38_3) t313 (wrap64 (x13_4 + 2)) t300 (t300.length : Int) x38_3)) else ((mapHas.f x7_3 (wrap64 (x13_4 + 1))).bind fun t314 => ((mapPut.f x12_4 (wrap64 (Int.tdiv x13_4 2)) t314).bind fun t315 => (impl_ProveSubset.l2 kj27 y309 x7_3 (rd_L5 t300 x38_3) t315 (wrap64 (x13_4 + 2)) t300 (t300.length : Int) x38_3)))))) else (none)) else (none)) else (none)) = some (r1, r2) := by rw [if_pos rfl] at H; exact H
              clear H
              have H := H1
              clear H1
              obtain ⟨ji33, hji33⟩ : ∃ j_ : Int, (wrap64 (x13_4 + 1)) = j_ := ⟨_, rfl⟩
              replace H : (if 0 ≤ (ji33) then (if (ji33) < ((rd_L5 t300 x38_3).length : Int) then (if x6_4.length < 17592186044416 then ((some (x6_4 ++ [rd (rd_L5 t300 x38_3) (ji33)] : List Int)).bind fun y309 => ((mapHas.f x7_3 x13_4).bind fun t312 => (if t312 = true then ((mapPut.f x12_4 (wrap64 (Int.tdiv x13_4 2)) true).bind fun t313 => (impl_ProveSubset.l2 kj27 y309 x7_3 (rd_L5 t300 x38_3) t313 (wrap64 (x13_4 + 2)) t300 (t300.length : Int) x38_3)) else ((mapHas.f x7_3 (ji33)).bind fun t314 => ((mapPut.f x12_4 (wrap64 (Int.tdiv x13_4 2)) t314).bind fun t315 => (impl_ProveSubset.l2 kj27 y309 x7_3 (rd_L5 t300 x38_3) t315 (wrap64 (x13_4 + 2)) t300 (t300.length : Int) x38_3)))))) else (none)) else (none)) else (none)) = some (r1, r2) := by first | (rw [hji33] at H; exact H) | (simp only [hji33] at H ⊢; exact H)
              (try rw [hji33] at c24b0)
              (try rw [hji33] at c24b1)
              have hji33w : (IntKind.i64.wrap (x13_4 + 1)) = ji33 := (i64_w _).trans hji33
              obtain ⟨c34, H⟩ := ifY H
              have c34b0 := decide_eq_true c34
              clear c34
              obtain ⟨c35, H⟩ := ifY H
              have c35b0 := decide_eq_true c35
              clear c35
              obtain ⟨c36, H⟩ := ifY H
              have LMc36 := Aside0.mk c36
              clear c36
              obtain ⟨y309, hy309⟩ : ∃ y_ : List Int, y_ = (x6_4 ++ [rd (rd_L5 t300 x38_3) (ji33)]) := ⟨_, rfl⟩
              replace H : ((mapHas.f x7_3 x13_4).bind fun t312 => (if t312 = true then ((mapPut.f x12_4 (wrap64 (Int.tdiv x13_4 2)) true).bind fun t313 => (impl_ProveSubset.l2 kj27 y309 x7_3 (rd_L5 t300 x38_3) t313 (wrap64 (x13_4 + 2)) t300 (t300.length : Int) x38_3)) else ((mapHas.f x7_3 (ji33)).bind fun t314 => ((mapPut.f x12_4 (wrap64 (Int.tdiv x13_4 2)) t314).bind fun t315 => (impl_ProveSubset.l2 kj27 y309 x7_3 (rd_L5 t300 x38_3) t315 (wrap64 (x13_4 + 2)) t300 (t300.length : Int) x38_3))))) = some (r1, r2) := by first | (rw [hy309]; with_reducible exact H) | (have H2_ := (Option.bind_some _ _).symm.trans H; rw [hy309]; with_reducible exact H2_) | (have H2_ := (Option.bind_some _ _).symm.trans H; with_reducible exact H2_) | with_reducible exact H | (rw [hy309]; exact H) | exact H
              have Ny309 := Aside0.mk hy309
              clear hy309
              obtain ⟨t312, A37, H⟩ := bdY H
              by_cases c38 : t312 = true
              ·subst c38
               have H1 : ((mapPut.f x12_4 (wrap64 (Int.tdiv x13_4 2)) true).bind fun t313 => (impl_ProveSubset.l2 kj27 y309 x7_3 (rd_L5 t300 x38_3) t313 (wrap64 (x13_4 + 2)) t300 (t300.length : Int) x38_3)) = some (r1, r2) := by rw [if_pos rfl] at H; exact H
               clear H
               have H := H1
               clear H1
               obtain ⟨t313, A39, H⟩ := bdY H
               have H' := Aside0.mk H
               clear H
               have p308 : 0 ≤ ((ji33) : Int) := of_decide_eq_true ZZ853400
               have q308 : (ji33) < ((rd_L5 t300 x38_3).length : Int) := of_decide_eq_true ZZ853400
               obtain ⟨ad308, e308, hx308_0⟩ := Kd.at_int (Kd.V_reads' HL.out).2.2 (ji33) p308 q308
               cases e308
               replace p308 := eq_true p308
               replace q308 := eq_true q308
               go_wp2_with (first | ((with_reducible refine gate_builtin (b := .append) (xs := #[.tmp 72, .tmp 78]) rfl ?_); (try (refine gate_guard (by rfl) ?_; dsimp only)); at_builtin; refine Kd.R_append (Kd.int .i64) (w0 := w) w.heap.size rfl (.tmp 72) (.tmp 78) 40 3 (.int .i64 0) 8 rfl Tryd.underlying40 info3 rfl (by decide) (by omega) u6 x6_4 (rd (rd_L5 t300 x38_3) (ji33)) [.int .i64 (rd (rd_L5 t300 x38_3) (ji33))] (fun _ => True) (fun _ => False) rfl rfl ?aP (fun _ hk => hk.elim) ?aF ?aO ?aB ?aS ?aL ?_; (case aP => exact rfl); (case aB => exact ZZ605003); (case aF => exact (fun _ _ => trivial)); (case aO => exact (zR HO_6)); (case aS => exact (below_size ZZ605003)); (case aL => have := LMc36.out; omega); intro v310 w40 ho hb hg hat; have HL := Aside0.mk (Kd.V_mono (ok' := fun k_ => some k_ ≠ (v310 : Value).ownBlock ∧ k_ ≠ gq_) (Kd.V_afterv (ok := (fun k_ => k_ ≠ gq_)) (by (with_reducible repeat (first | apply Kd.V_alloc | apply Kd.V_drewN | apply Kd.V_drew)); exact Kd.V_mono HL.out (fun _ hk => ⟨hk.2, hk.1⟩)) hg hat) (fun _ hk => ⟨hk.2, hk.1⟩)); have HM12 := Aside0.mk (MapW.kept (P := Tryd.prog) (k := 3) (e := 4) (enc := Lit.bool) (b := gq_) (L := x12_4) ZZaf2bc8 hg (MapW.ne_own HM12.out HO_6.out)); have HM7 := Aside0.mk (MapW.kept (P := Tryd.prog) (k := 3) (e := 4) (enc := Lit.bool) (b := g7) (L := x7_3) ZZ04b898 hg (MapW.ne_own HM7.out HO_6.out)); rw [← Ny309.out] at ho; replace HO_36 := Aside0.mk (Kd.N_mono (ok' := fun k_ => some k_ ≠ (v310 : Value).ownBlock ∧ k_ ≠ gq_) (Kd.N_afterv (ok := (fun k_ => k_ ≠ gq_)) (by (with_reducible repeat (first | apply Kd.N_alloc | apply Kd.N_drewN | apply Kd.N_drew)); exact Kd.N_mono HO_36.out (fun _ hk => ⟨hk.2, hk.1⟩)) hg hat) (fun _ hk => ⟨hk.2, hk.1⟩)); replace HB := Aside0.mk (hb); have HO311 := Aside0.mk (ho); clear HO_6; clear ho hb hg hat) | ((with_reducible refine gate_lookup rfl ?_); refine look_eventB A37.out rfl _ _ 90 rfl rfl rfl Tryd.underlying3 Tryd.underlying90 Tryd.underlying4 (by kernel_rfl) ZZ04b898 ?_) | ((with_reducible refine gate_update rfl ?_); obtain ⟨hky, hln, hle⟩ := mapPut.open_ A39.out; refine update_event (k := 3) (e := 4) (enc := Lit.bool) (vv := true) (L := x12_4) rfl _ _ _ 90 (Or.inl rfl) rfl rfl rfl Tryd.underlying3 Tryd.underlying90 ZZaf2bc8 hln hky (plainElem_bool Tryd.underlying4 true) ?_; intro wm2 hm hg; rw [← hle] at hm; have HL := Aside0.mk (Kd.V_grown (ok := fun k_ => some k_ ≠ (v310 : Value).ownBlock ∧ k_ ≠ gq_) ZZ0f9b83 hg (fun k_ hk_ e_ => hk_.2 (by injection e_))); have HM7 := Aside0.mk (MapW.kept (P := Tryd.prog) (k := 3) (e := 4) (enc := Lit.bool) (b := g7) (L := x7_3) ZZ04b898 hg (fun e_ => HNE.out (by injection e_))); replace HO_36 := Aside0.mk (Kd.N_grown (ok := fun k_ => some k_ ≠ (v310 : Value).ownBlock ∧ k_ ≠ gq_) ZZ87f9b3 hg (fun k_ hk_ e_ => hk_.2 (by injection e_))); replace HO311 := Aside0.mk (MapW.row ZZaf2bc8 (zR HO311) hg); replace HB := Aside0.mk (Below.grown ZZ605003 hg (below_size ZZ605003) (fun _ e_ => by cases e_; exact GM12.out)); have HM12 := Aside0.mk hm; clear hm hg hky hln hle))
               go_roundg kj27
               case measure => have := HJ2.out; have := HK2.out; have := HK3.out; have := HK4.out; have := HJ27.out; omega
               case rel => exact ⟨(y309), (t313), (wrap64 (x13_4 + 2)), ZZ0ab324, H', ⟨(by have := HJ2.out; have := HK2.out; have := HK3.out; have := HK4.out; have := HJ27.out; omega)⟩, ⟨(zR HO311)⟩, ⟨ZZ87f9b3⟩, ⟨ZZ0f9b83⟩, ⟨ZZ04b898⟩, ⟨ZZaf2bc8⟩, ⟨ZZ605003⟩⟩
              replace c38 := Bool.eq_false_iff.mpr c38
              subst c38
              have H1 : ((mapHas.f x7_3 (ji33)).bind fun t314 => ((mapPut.f x12_4 (wrap64 (Int.tdiv x13_4 2)) t314).bind fun t315 => (impl_ProveSubset.l2 kj27 y309 x7_3 (rd_L5 t300 x38_3) t315 (wrap64 (x13_4 + 2)) t300 (t300.length : Int) x38_3))) = some (r1, r2) := by rw [if_neg (show ¬ (false = true) by decide)] at H; exact H
              clear H
              have H := H1
              clear H1
              obtain ⟨t314, A42, H⟩ := bdY H
              obtain ⟨t315, A43, H⟩ := bdY H
              have H' := Aside0.mk H
              clear H
              have p308 : 0 ≤ ((ji33) : Int) := of_decide_eq_true ZZ853400
              have q308 : (ji33) < ((rd_L5 t300 x38_3).length : Int) := of_decide_eq_true ZZ853400
              obtain ⟨ad308, e308, hx308_0⟩ := Kd.at_int (Kd.V_reads' HL.out).2.2 (ji33) p308 q308
              cases e308
              replace p308 := eq_true p308
              replace q308 := eq_true q308
              go_wp2_with (first | ((with_reducible refine gate_builtin (b := .append) (xs := #[.tmp 72, .tmp 78]) rfl ?_); (try (refine gate_guard (by rfl) ?_; dsimp only)); at_builtin; refine Kd.R_append (Kd.int .i64) (w0 := w) w.heap.size rfl (.tmp 72) (.tmp 78) 40 3 (.int .i64 0) 8 rfl Tryd.underlying40 info3 rfl (by decide) (by omega) u6 x6_4 (rd (rd_L5 t300 x38_3) (ji33)) [.int .i64 (rd (rd_L5 t300 x38_3) (ji33))] (fun _ => True) (fun _ => False) rfl rfl ?aP (fun _ hk => hk.elim) ?aF ?aO ?aB ?aS ?aL ?_; (case aP => exact rfl); (case aB => exact ZZ605003); (case aF => exact (fun _ _ => trivial)); (case aO => exact (zR HO_6)); (case aS => exact (below_size ZZ605003)); (case aL => have := LMc36.out; omega); intro v310 w44 ho hb hg hat; have HL := Aside0.mk (Kd.V_mono (ok' := fun k_ => some k_ ≠ (v310 : Value).ownBlock ∧ k_ ≠ gq_) (Kd.V_afterv (ok := (fun k_ => k_ ≠ gq_)) (by (with_reducible repeat (first | apply Kd.V_alloc | apply Kd.V_drewN | apply Kd.V_drew)); exact Kd.V_mono HL.out (fun _ hk => ⟨hk.2, hk.1⟩)) hg hat) (fun _ hk => ⟨hk.2, hk.1⟩)); have HM12 := Aside0.mk (MapW.kept (P := Tryd.prog) (k := 3) (e := 4) (enc := Lit.bool) (b := gq_) (L := x12_4) ZZaf2bc8 hg (MapW.ne_own HM12.out HO_6.out)); have HM7 := Aside0.mk (MapW.kept (P := Tryd.prog) (k := 3) (e := 4) (enc := Lit.bool) (b := g7) (L := x7_3) ZZ04b898 hg (MapW.ne_own HM7.out HO_6.out)); rw [← Ny309.out] at ho; replace HO_36 := Aside0.mk (Kd.N_mono (ok' := fun k_ => some k_ ≠ (v310 : Value).ownBlock ∧ k_ ≠ gq_) (Kd.N_afterv (ok := (fun k_ => k_ ≠ gq_)) (by (with_reducible repeat (first | apply Kd.N_alloc | apply Kd.N_drewN | apply Kd.N_drew)); exact Kd.N_mono HO_36.out (fun _ hk => ⟨hk.2, hk.1⟩)) hg hat) (fun _ hk => ⟨hk.2, hk.1⟩)); replace HB := Aside0.mk (hb); have HO311 := Aside0.mk (ho); clear HO_6; clear ho hb hg hat; obtain ⟨hlk0, hlk1, hlk2⟩ := MapW.lookAll (k := 3) (e := 4) (t := 90) A42.out HM7.out Tryd.underlying3 Tryd.underlying90 Tryd.underlying4 (fun _ => by kernel_rfl)) | ((with_reducible refine gate_lookup rfl ?_); refine look_eventB A37.out rfl _ _ 90 rfl rfl rfl Tryd.underlying3 Tryd.underlying90 Tryd.underlying4 (by kernel_rfl) ZZ04b898 ?_) | (fail) | ((with_reducible refine gate_update rfl ?_); obtain ⟨hky, hln, hle⟩ := mapPut.open_ A43.out; refine update_event (k := 3) (e := 4) (enc := Lit.bool) (vv := t314) (L := x12_4) rfl _ _ _ 90 (Or.inl rfl) rfl rfl rfl Tryd.underlying3 Tryd.underlying90 ZZaf2bc8 hln hky (plainElem_bool Tryd.underlying4 t314) ?_; intro wm2 hm hg; rw [← hle] at hm; have HL := Aside0.mk (Kd.V_grown (ok := fun k_ => some k_ ≠ (v310 : Value).ownBlock ∧ k_ ≠ gq_) ZZ0f9b83 hg (fun k_ hk_ e_ => hk_.2 (by injection e_))); have HM7 := Aside0.mk (MapW.kept (P := Tryd.prog) (k := 3) (e := 4) (enc := Lit.bool) (b := g7) (L := x7_3) ZZ04b898 hg (fun e_ => HNE.out (by injection e_))); replace HO_36 := Aside0.mk (Kd.N_grown (ok := fun k_ => some k_ ≠ (v310 : Value).ownBlock ∧ k_ ≠ gq_) ZZ87f9b3 hg (fun k_ hk_ e_ => hk_.2 (by injection e_))); replace HO311 := Aside0.mk (MapW.row ZZaf2bc8 (zR HO311) hg); replace HB := Aside0.mk (Below.grown ZZ605003 hg (below_size ZZ605003) (fun _ e_ => by cases e_; exact GM12.out)); have HM12 := Aside0.mk hm; clear hm hg hky hln hle))
              go_roundg kj27
              case measure => have := HJ2.out; have := HK2.out; have := HK3.out; have := HK4.out; have := HJ27.out; omega
              case rel => exact ⟨(y309), (t315), (wrap64 (x13_4 + 2)), ZZ0ab324, H', ⟨(by have := HJ2.out; have := HK2.out; have := HK3.out; have := HK4.out; have := HJ27.out; omega)⟩, ⟨(zR HO311)⟩, ⟨ZZ87f9b3⟩, ⟨ZZ0f9b83⟩, ⟨ZZ04b898⟩, ⟨ZZaf2bc8⟩, ⟨ZZ605003⟩⟩
             replace c32 := Bool.eq_false_iff.mpr c32
             subst c32
             have H1 : ((mapHas.f x7_3 x13_4).bind fun t316 => (if t316 = true then (impl_ProveSubset.j5 kj27 x6_4 x7_3 (rd_L5 t300 x38_3) x12_4 x13_4 t300 (t300.length : Int) x38_3 false) else ((mapHas.f x7_3 (wrap64 (x13_4 + 1))).bind fun t317 => (impl_ProveSubset.j5 kj27 x6_4 x7_3 (rd_L5 t300 x38_3) x12_4 x13_4 t300 (t300.length : Int) x38_3 t317)))) = some (r1, r2) := by rw [if_neg (show ¬ (false = true) by decide)] at H; exact H
             clear H
             have H := H1
             clear H1
             have HC46 := Aside0.mk H
             clear H
             go_upto_region 21 with (fail)
             go_cut [80] (fun v80 wc => ∃ (kq : Nat) (x80_45 : Bool), v80 = .bool x80_45 ∧ Aside0 (impl_ProveSubset.j5 kq x6_4 x7_3 (rd_L5 t300 x38_3) x12_4 x13_4 t300 (t300.length : Int) x38_3 x80_45 = some (r1, r2)) ∧ Aside0 (kq ≤ kj27) ∧ Aside0 (Kd.R (Kd.int .i64) 3 wc w.heap.size (fun _ => True) u6 x6_4) ∧ Aside0 (Kd.N (Kd.slice 3 (Kd.int .i64)) 40 wc w.heap.size (fun k_ => some k_ ≠ (u6 : Value).ownBlock ∧ k_ ≠ gq_) (.slice (some ad303) t300.length co19) t300) ∧ Aside0 (Kd.V (Kd.int .i64) 3 wc w.heap.size (fun k_ => some k_ ≠ (u6 : Value).ownBlock ∧ k_ ≠ gq_) (.slice A303_0 ((rd_L5 t300 x38_3)).length c303_0) ((rd_L5 t300 x38_3))) ∧ Aside0 (MapW Tryd.prog 3 4 Lit.bool wc g7 x7_3) ∧ Aside0 (MapW Tryd.prog 3 4 Lit.bool wc gq_ x12_4) ∧ Aside0 (Below w.heap.size w wc))
             case first =>
              have H := HC46.out
              clear HC46
              obtain ⟨t316, A47, H⟩ := bdY H
              by_cases c48 : t316 = true
              ·subst c48
               have H1 : (impl_ProveSubset.j5 kj27 x6_4 x7_3 (rd_L5 t300 x38_3) x12_4 x13_4 t300 (t300.length : Int) x38_3 false) = some (r1, r2) := by rw [if_pos rfl] at H; exact H
               clear H
               have H := H1
               clear H1
               have H' := Aside0.mk H
               clear H
               go_wp2_with (first | ((with_reducible refine gate_lookup rfl ?_); refine look_eventB A47.out rfl _ _ 90 rfl rfl rfl Tryd.underlying3 Tryd.underlying90 Tryd.underlying4 (by kernel_rfl) ZZ04b898 ?_))
               go_meet
               case rel => exact ⟨_, (false), ZZ0ab324, H', ⟨(by have := HJ2.out; have := HK2.out; have := HK3.out; have := HK4.out; have := HJ27.out; first | omega | exact Nat.le_refl _)⟩, ⟨(zR HO_6)⟩, ⟨ZZ87f9b3⟩, ⟨ZZ0f9b83⟩, ⟨ZZ04b898⟩, ⟨ZZaf2bc8⟩, ⟨ZZ605003⟩⟩
              replace c48 := Bool.eq_false_iff.mpr c48
              subst c48
              have H1 : ((mapHas.f x7_3 (wrap64 (x13_4 + 1))).bind fun t317 => (impl_ProveSubset.j5 kj27 x6_4 x7_3 (rd_L5 t300 x38_3) x12_4 x13_4 t300 (t300.length : Int) x38_3 t317)) = some (r1, r2) := by rw [if_neg (show ¬ (false = true) by decide)] at H; exact H
              clear H
              have H := H1
              clear H1
              obtain ⟨t317, A49, H⟩ := bdY H
              have H' := Aside0.mk H
              clear H
              obtain ⟨hlk0, hlk1, hlk2⟩ := MapW.lookAll (k := 3) (e := 4) (t := 90) A49.out HM7.out Tryd.underlying3 Tryd.underlying90 Tryd.underlying4 (fun _ => by kernel_rfl)
              go_wp2_with (first | ((with_reducible refine gate_lookup rfl ?_); refine look_eventB A47.out rfl _ _ 90 rfl rfl rfl Tryd.underlying3 Tryd.underlying90 Tryd.underlying4 (by kernel_rfl) ZZ04b898 ?_) | (fail))
              go_meet
              case rel => exact ⟨_, (t317), ZZ0ab324, H', ⟨(by have := HJ2.out; have := HK2.out; have := HK3.out; have := HK4.out; have := HJ27.out; first | omega | exact Nat.le_refl _)⟩, ⟨(zR HO_6)⟩, ⟨ZZ87f9b3⟩, ⟨ZZ0f9b83⟩, ⟨ZZ04b898⟩, ⟨ZZaf2bc8⟩, ⟨ZZ605003⟩⟩
             case rest =>
              clear HC46
              try clear c24b0
              try clear c24b1
              try clear c32
              try clear c34b0
              try clear c35b0
              try clear c38
              try clear c48
              try clear hx308_0
              try clear p308
              try clear q308
              obtain ⟨kq, x80_45, rfl, HA, HJ45, HO_6, HO_36, HL, HM7, HM12, HB⟩ := hcut
              cases kq with
              | zero => exact absurd HA.out (by simp [impl_ProveSubset.j5])
              | succ kj45 =>
               have H := HA.out
               clear HA
               simp only [impl_ProveSubset.j5] at H
               by_cases c50 : x80_45 = true
               ·subst c50
                have H1 : (if 0 ≤ x13_4 then (if x13_4 < ((rd_L5 t300 x38_3).length : Int) then (if x6_4.length < 17592186044416 then ((some (x6_4 ++ [rd (rd_L5 t300 x38_3) x13_4] : List Int)).bind fun y319 => ((mapHas.f x7_3 x13_4).bind fun t322 => (if t322 = true then ((mapPut.f x12_4 (wrap64 (Int.tdiv x13_4 2)) true).bind fun t323 => (impl_ProveSubset.l2 kj45 y319 x7_3 (rd_L5 t300 x38_3) t323 (wrap64 (x13_4 + 2)) t300 (t300.length : Int) x38_3)) else ((mapHas.f x7_3 (wrap64 (x13_4 + 1))).bind fun t324 => ((mapPut.f x12_4 (wrap64 (Int.tdiv x13_4 2)) t324).bind fun t325 => (impl_ProveSubset.l2 kj45 y319 x7_3 (rd_L5 t300 x38_3) t325 (wrap64 (x13_4 + 2)) t300 (t300.length : Int) x38_3)))))) else (none)) else (none)) else (none)) = some (r1, r2) := by rw [if_pos rfl] at H; exact H
                clear H
                have H := H1
                clear H1
                obtain ⟨c51, H⟩ := ifY H
                have c51b0 := decide_eq_true c51
                clear c51
                obtain ⟨c52, H⟩ := ifY H
                have c52b0 := decide_eq_true c52
                clear c52
                obtain ⟨c53, H⟩ := ifY H
                have LMc53 := Aside0.mk c53
                clear c53
                obtain ⟨y319, hy319⟩ : ∃ y_ : List Int, y_ = (x6_4 ++ [rd (rd_L5 t300 x38_3) x13_4]) := ⟨_, rfl⟩
                replace H : ((mapHas.f x7_3 x13_4).bind fun t322 => (if t322 = true then ((mapPut.f x12_4 (wrap64 (Int.tdiv x13_4 2)) true).bind fun t323 => (impl_ProveSubset.l2 kj45 y319 x7_3 (rd_L5 t300 x38_3) t323 (wrap64 (x13_4 + 2)) t300 (t300.length : Int) x38_3)) else ((mapHas.f x7_3 (wrap64 (x13_4 + 1))).bind fun t324 => ((mapPut.f x12_4 (wrap64 (Int.tdiv x13_4 2)) t324).bind fun t325 => (impl_ProveSubset.l2 kj45 y319 x7_3 (rd_L5 t300 x38_3) t325 (wrap64 (x13_4 + 2)) t300 (t300.length : Int) x38_3))))) = some (r1, r2) := by first | (rw [hy319]; with_reducible exact H) | (have H2_ := (Option.bind_some _ _).symm.trans H; rw [hy319]; with_reducible exact H2_) | (have H2_ := (Option.bind_some _ _).symm.trans H; with_reducible exact H2_) | with_reducible exact H | (rw [hy319]; exact H) | exact H
                have Ny319 := Aside0.mk hy319
                clear hy319
                obtain ⟨t322, A54, H⟩ := bdY H
                by_cases c55 : t322 = true
                ·subst c55
                 have H1 : ((mapPut.f x12_4 (wrap64 (Int.tdiv x13_4 2)) true).bind fun t323 => (impl_ProveSubset.l2 kj45 y319 x7_3 (rd_L5 t300 x38_3) t323 (wrap64 (x13_4 + 2)) t300 (t300.length : Int) x38_3)) = some (r1, r2) := by rw [if_pos rfl] at H; exact H
                 clear H
                 have H := H1
                 clear H1
                 obtain ⟨t323, A56, H⟩ := bdY H
                 have H' := Aside0.mk H
                 clear H
                 have p318 : 0 ≤ (x13_4 : Int) := of_decide_eq_true ZZ853400
                 have q318 : x13_4 < ((rd_L5 t300 x38_3).length : Int) := of_decide_eq_true ZZ853400
                 obtain ⟨ad318, e318, hx318_0⟩ := Kd.at_int (Kd.V_reads' HL.out).2.2 x13_4 p318 q318
                 cases e318
                 replace p318 := eq_true p318
                 replace q318 := eq_true q318
                 go_wp2_with (first | ((with_reducible refine gate_builtin (b := .append) (xs := #[.tmp 91, .tmp 96]) rfl ?_); (try (refine gate_guard (by rfl) ?_; dsimp only)); at_builtin; refine Kd.R_append (Kd.int .i64) (w0 := w) w.heap.size rfl (.tmp 91) (.tmp 96) 40 3 (.int .i64 0) 8 rfl Tryd.underlying40 info3 rfl (by decide) (by omega) u6 x6_4 (rd (rd_L5 t300 x38_3) x13_4) [.int .i64 (rd (rd_L5 t300 x38_3) x13_4)] (fun _ => True) (fun _ => False) rfl rfl ?aP (fun _ hk => hk.elim) ?aF ?aO ?aB ?aS ?aL ?_; (case aP => exact rfl); (case aB => exact ZZ605003); (case aF => exact (fun _ _ => trivial)); (case aO => exact (zR HO_6)); (case aS => exact (below_size ZZ605003)); (case aL => have := LMc53.out; omega); intro v320 w57 ho hb hg hat; have HL := Aside0.mk (Kd.V_mono (ok' := fun k_ => some k_ ≠ (v320 : Value).ownBlock ∧ k_ ≠ gq_) (Kd.V_afterv (ok := (fun k_ => k_ ≠ gq_)) (by (with_reducible repeat (first | apply Kd.V_alloc | apply Kd.V_drewN | apply Kd.V_drew)); exact Kd.V_mono HL.out (fun _ hk => ⟨hk.2, hk.1⟩)) hg hat) (fun _ hk => ⟨hk.2, hk.1⟩)); have HM12 := Aside0.mk (MapW.kept (P := Tryd.prog) (k := 3) (e := 4) (enc := Lit.bool) (b := gq_) (L := x12_4) ZZaf2bc8 hg (MapW.ne_own HM12.out HO_6.out)); have HM7 := Aside0.mk (MapW.kept (P := Tryd.prog) (k := 3) (e := 4) (enc := Lit.bool) (b := g7) (L := x7_3) ZZ04b898 hg (MapW.ne_own HM7.out HO_6.out)); rw [← Ny319.out] at ho; replace HO_36 := Aside0.mk (Kd.N_mono (ok' := fun k_ => some k_ ≠ (v320 : Value).ownBlock ∧ k_ ≠ gq_) (Kd.N_afterv (ok := (fun k_ => k_ ≠ gq_)) (by (with_reducible repeat (first | apply Kd.N_alloc | apply Kd.N_drewN | apply Kd.N_drew)); exact Kd.N_mono HO_36.out (fun _ hk => ⟨hk.2, hk.1⟩)) hg hat) (fun _ hk => ⟨hk.2, hk.1⟩)); replace HB := Aside0.mk (hb); have HO321 := Aside0.mk (ho); clear HO_6; clear ho hb hg hat) | ((with_reducible refine gate_lookup rfl ?_); refine look_eventB A54.out rfl _ _ 90 rfl rfl rfl Tryd.underlying3 Tryd.underlying90 Tryd.underlying4 (by kernel_rfl) ZZ04b898 ?_) | ((with_reducible refine gate_update rfl ?_); obtain ⟨hky, hln, hle⟩ := mapPut.open_ A56.out; refine update_event (k := 3) (e := 4) (enc := Lit.bool) (vv := true) (L := x12_4) rfl _ _ _ 90 (Or.inl rfl) rfl rfl rfl Tryd.underlying3 Tryd.underlying90 ZZaf2bc8 hln hky (plainElem_bool Tryd.underlying4 true) ?_; intro wm2 hm hg; rw [← hle] at hm; have HL := Aside0.mk (Kd.V_grown (ok := fun k_ => some k_ ≠ (v320 : Value).ownBlock ∧ k_ ≠ gq_) ZZ0f9b83 hg (fun k_ hk_ e_ => hk_.2 (by injection e_))); have HM7 := Aside0.mk (MapW.kept (P := Tryd.prog) (k := 3) (e := 4) (enc := Lit.bool) (b := g7) (L := x7_3) ZZ04b898 hg (fun e_ => HNE.out (by injection e_))); replace HO_36 := Aside0.mk (Kd.N_grown (ok := fun k_ => some k_ ≠ (v320 : Value).ownBlock ∧ k_ ≠ gq_) ZZ87f9b3 hg (fun k_ hk_ e_ => hk_.2 (by injection e_))); replace HO321 := Aside0.mk (MapW.row ZZaf2bc8 (zR HO321) hg); replace HB := Aside0.mk (Below.grown ZZ605003 hg (below_size ZZ605003) (fun _ e_ => by cases e_; exact GM12.out)); have HM12 := Aside0.mk hm; clear hm hg hky hln hle))
                 go_roundg kj45
                 case measure => have := HJ2.out; have := HK2.out; have := HK3.out; have := HK4.out; have := HJ27.out; have := HJ45.out; omega
                 case rel => exact ⟨(y319), (t323), (wrap64 (x13_4 + 2)), ZZ0ab324, H', ⟨(by have := HJ2.out; have := HK2.out; have := HK3.out; have := HK4.out; have := HJ27.out; have := HJ45.out; omega)⟩, ⟨(zR HO321)⟩, ⟨ZZ87f9b3⟩, ⟨ZZ0f9b83⟩, ⟨ZZ04b898⟩, ⟨ZZaf2bc8⟩, ⟨ZZ605003⟩⟩
                replace c55 := Bool.eq_false_iff.mpr c55
                subst c55
                have H1 : ((mapHas.f x7_3 (wrap64 (x13_4 + 1))).bind fun t324 => ((mapPut.f x12_4 (wrap64 (Int.tdiv x13_4 2)) t324).bind fun t325 => (impl_ProveSubset.l2 kj45 y319 x7_3 (rd_L5 t300 x38_3) t325 (wrap64 (x13_4 + 2)) t300 (t300.length : Int) x38_3))) = some (r1, r2) := by rw [if_neg (show ¬ (false = true) by decide)] at H; exact H
                clear H
                have H := H1
                clear H1
                obtain ⟨t324, A59, H⟩ := bdY H
                obtain ⟨t325, A60, H⟩ := bdY H
                have H' := Aside0.mk H
                clear H
                have p318 : 0 ≤ (x13_4 : Int) := of_decide_eq_true ZZ853400
                have q318 : x13_4 < ((rd_L5 t300 x38_3).length : Int) := of_decide_eq_true ZZ853400
                obtain ⟨ad318, e318, hx318_0⟩ := Kd.at_int (Kd.V_reads' HL.out).2.2 x13_4 p318 q318
                cases e318
                replace p318 := eq_true p318
                replace q318 := eq_true q318
                go_wp2_with (first | ((with_reducible refine gate_builtin (b := .append) (xs := #[.tmp 91, .tmp 96]) rfl ?_); (try (refine gate_guard (by rfl) ?_; dsimp only)); at_builtin; refine Kd.R_append (Kd.int .i64) (w0 := w) w.heap.size rfl (.tmp 91) (.tmp 96) 40 3 (.int .i64 0) 8 rfl Tryd.underlying40 info3 rfl (by decide) (by omega) u6 x6_4 (rd (rd_L5 t300 x38_3) x13_4) [.int .i64 (rd (rd_L5 t300 x38_3) x13_4)] (fun _ => True) (fun _ => False) rfl rfl ?aP (fun _ hk => hk.elim) ?aF ?aO ?aB ?aS ?aL ?_; (case aP => exact rfl); (case aB => exact ZZ605003); (case aF => exact (fun _ _ => trivial)); (case aO => exact (zR HO_6)); (case aS => exact (below_size ZZ605003)); (case aL => have := LMc53.out; omega); intro v320 w61 ho hb hg hat; have HL := Aside0.mk (Kd.V_mono (ok' := fun k_ => some k_ ≠ (v320 : Value).ownBlock ∧ k_ ≠ gq_) (Kd.V_afterv (ok := (fun k_ => k_ ≠ gq_)) (by (with_reducible repeat (first | apply Kd.V_alloc | apply Kd.V_drewN | apply Kd.V_drew)); exact Kd.V_mono HL.out (fun _ hk => ⟨hk.2, hk.1⟩)) hg hat) (fun _ hk => ⟨hk.2, hk.1⟩)); have HM12 := Aside0.mk (MapW.kept (P := Tryd.prog) (k := 3) (e := 4) (enc := Lit.bool) (b := gq_) (L := x12_4) ZZaf2bc8 hg (MapW.ne_own HM12.out HO_6.out)); have HM7 := Aside0.mk (MapW.kept (P := Tryd.prog) (k := 3) (e := 4) (enc := Lit.bool) (b := g7) (L := x7_3) ZZ04b898 hg (MapW.ne_own HM7.out HO_6.out)); rw [← Ny319.out] at ho; replace HO_36 := Aside0.mk (Kd.N_mono (ok' := fun k_ => some k_ ≠ (v320 : Value).ownBlock ∧ k_ ≠ gq_) (Kd.N_afterv (ok := (fun k_ => k_ ≠ gq_)) (by (with_reducible repeat (first | apply Kd.N_alloc | apply Kd.N_drewN | apply Kd.N_drew)); exact Kd.N_mono HO_36.out (fun _ hk => ⟨hk.2, hk.1⟩)) hg hat) (fun _ hk => ⟨hk.2, hk.1⟩)); replace HB := Aside0.mk (hb); have HO321 := Aside0.mk (ho); clear HO_6; clear ho hb hg hat; obtain ⟨hlk0, hlk1, hlk2⟩ := MapW.lookAll (k := 3) (e := 4) (t := 90) A59.out HM7.out Tryd.underlying3 Tryd.underlying90 Tryd.underlying4 (fun _ => by kernel_rfl)) | ((with_reducible refine gate_lookup rfl ?_); refine look_eventB A54.out rfl _ _ 90 rfl rfl rfl Tryd.underlying3 Tryd.underlying90 Tryd.underlying4 (by kernel_rfl) ZZ04b898 ?_) | (fail) | ((with_reducible refine gate_update rfl ?_); obtain ⟨hky, hln, hle⟩ := mapPut.open_ A60.out; refine update_event (k := 3) (e := 4) (enc := Lit.bool) (vv := t324) (L := x12_4) rfl _ _ _ 90 (Or.inl rfl) rfl rfl rfl Tryd.underlying3 Tryd.underlying90 ZZaf2bc8 hln hky (plainElem_bool Tryd.underlying4 t324) ?_; intro wm2 hm hg; rw [← hle] at hm; have HL := Aside0.mk (Kd.V_grown (ok := fun k_ => some k_ ≠ (v320 : Value).ownBlock ∧ k_ ≠ gq_) ZZ0f9b83 hg (fun k_ hk_ e_ => hk_.2 (by injection e_))); have HM7 := Aside0.mk (MapW.kept (P := Tryd.prog) (k := 3) (e := 4) (enc := Lit.bool) (b := g7) (L := x7_3) ZZ04b898 hg (fun e_ => HNE.out (by injection e_))); replace HO_36 := Aside0.mk (Kd.N_grown (ok := fun k_ => some k_ ≠ (v320 : Value).ownBlock ∧ k_ ≠ gq_) ZZ87f9b3 hg (fun k_ hk_ e_ => hk_.2 (by injection e_))); replace HO321 := Aside0.mk (MapW.row ZZaf2bc8 (zR HO321) hg); replace HB := Aside0.mk (Below.grown ZZ605003 hg (below_size ZZ605003) (fun _ e_ => by cases e_; exact GM12.out)); have HM12 := Aside0.mk hm; clear hm hg hky hln hle))
                go_roundg kj45
                case measure => have := HJ2.out; have := HK2.out; have := HK3.out; have := HK4.out; have := HJ27.out; have := HJ45.out; omega
                case rel => exact ⟨(y319), (t325), (wrap64 (x13_4 + 2)), ZZ0ab324, H', ⟨(by have := HJ2.out; have := HK2.out; have := HK3.out; have := HK4.out; have := HJ27.out; have := HJ45.out; omega)⟩, ⟨(zR HO321)⟩, ⟨ZZ87f9b3⟩, ⟨ZZ0f9b83⟩, ⟨ZZ04b898⟩, ⟨ZZaf2bc8⟩, ⟨ZZ605003⟩⟩
               replace c50 := Bool.eq_false_iff.mpr c50
               subst c50
               have H1 : ((mapHas.f x7_3 x13_4).bind fun t326 => (if t326 = true then ((mapPut.f x12_4 (wrap64 (Int.tdiv x13_4 2)) true).bind fun t327 => (impl_ProveSubset.l2 kj45 x6_4 x7_3 (rd_L5 t300 x38_3) t327 (wrap64 (x13_4 + 2)) t300 (t300.length : Int) x38_3)) else ((mapHas.f x7_3 (wrap64 (x13_4 + 1))).bind fun t328 => ((mapPut.f x12_4 (wrap64 (Int.tdiv x13_4 2)) t328).bind fun t329 => (impl_ProveSubset.l2 kj45 x6_4 x7_3 (rd_L5 t300 x38_3) t329 (wrap64 (x13_4 + 2)) t300 (t300.length : Int) x38_3))))) = some (r1, r2) := by rw [if_neg (show ¬ (false = true) by decide)] at H; exact H
               clear H
               have H := H1
               clear H1
               obtain ⟨t326, A63, H⟩ := bdY H
               by_cases c64 : t326 = true
               ·subst c64
                have H1 : ((mapPut.f x12_4 (wrap64 (Int.tdiv x13_4 2)) true).bind fun t327 => (impl_ProveSubset.l2 kj45 x6_4 x7_3 (rd_L5 t300 x38_3) t327 (wrap64 (x13_4 + 2)) t300 (t300.length : Int) x38_3)) = some (r1, r2) := by rw [if_pos rfl] at H; exact H
                clear H
                have H := H1
                clear H1
                obtain ⟨t327, A65, H⟩ := bdY H
                have H' := Aside0.mk H
                clear H
                go_wp2_with (first | ((with_reducible refine gate_lookup rfl ?_); refine look_eventB A63.out rfl _ _ 90 rfl rfl rfl Tryd.underlying3 Tryd.underlying90 Tryd.underlying4 (by kernel_rfl) ZZ04b898 ?_) | ((with_reducible refine gate_update rfl ?_); obtain ⟨hky, hln, hle⟩ := mapPut.open_ A65.out; refine update_event (k := 3) (e := 4) (enc := Lit.bool) (vv := true) (L := x12_4) rfl _ _ _ 90 (Or.inl rfl) rfl rfl rfl Tryd.underlying3 Tryd.underlying90 ZZaf2bc8 hln hky (plainElem_bool Tryd.underlying4 true) ?_; intro wm2 hm hg; rw [← hle] at hm; have HL := Aside0.mk (Kd.V_grown (ok := fun k_ => some k_ ≠ (u6 : Value).ownBlock ∧ k_ ≠ gq_) ZZ0f9b83 hg (fun k_ hk_ e_ => hk_.2 (by injection e_))); have HM7 := Aside0.mk (MapW.kept (P := Tryd.prog) (k := 3) (e := 4) (enc := Lit.bool) (b := g7) (L := x7_3) ZZ04b898 hg (fun e_ => HNE.out (by injection e_))); replace HO_6 := Aside0.mk (MapW.row ZZaf2bc8 (zR HO_6) hg); replace HO_36 := Aside0.mk (Kd.N_grown (ok := fun k_ => some k_ ≠ (u6 : Value).ownBlock ∧ k_ ≠ gq_) ZZ87f9b3 hg (fun k_ hk_ e_ => hk_.2 (by injection e_))); replace HB := Aside0.mk (Below.grown ZZ605003 hg (below_size ZZ605003) (fun _ e_ => by cases e_; exact GM12.out)); have HM12 := Aside0.mk hm; clear hm hg hky hln hle))
                go_roundg kj45
                case measure => have := HJ2.out; have := HK2.out; have := HK3.out; have := HK4.out; have := HJ27.out; have := HJ45.out; omega
                case rel => exact ⟨(x6_4), (t327), (wrap64 (x13_4 + 2)), ZZ0ab324, H', ⟨(by have := HJ2.out; have := HK2.out; have := HK3.out; have := HK4.out; have := HJ27.out; have := HJ45.out; omega)⟩, ⟨(zR HO_6)⟩, ⟨ZZ87f9b3⟩, ⟨ZZ0f9b83⟩, ⟨ZZ04b898⟩, ⟨ZZaf2bc8⟩, ⟨ZZ605003⟩⟩
               replace c64 := Bool.eq_false_iff.mpr c64
               subst c64
               have H1 : ((mapHas.f x7_3 (wrap64 (x13_4 + 1))).bind fun t328 => ((mapPut.f x12_4 (wrap64 (Int.tdiv x13_4 2)) t328).bind fun t329 => (impl_ProveSubset.l2 kj45 x6_4 x7_3 (rd_L5 t300 x38_3) t329 (wrap64 (x13_4 + 2)) t300 (t300.length : Int) x38_3))) = some (r1, r2) := by rw [if_neg (show ¬ (false = true) by decide)] at H; exact H
               clear H
               have H := H1
               clear H1
               obtain ⟨t328, A67, H⟩ := bdY H
               obtain ⟨t329, A68, H⟩ := bdY H
               have H' := Aside0.mk H
               clear H
               obtain ⟨hlk0, hlk1, hlk2⟩ := MapW.lookAll (k := 3) (e := 4) (t := 90) A67.out HM7.out Tryd.underlying3 Tryd.underlying90 Tryd.underlying4 (fun _ => by kernel_rfl)
               go_wp2_with (first | ((with_reducible refine gate_lookup rfl ?_); refine look_eventB A63.out rfl _ _ 90 rfl rfl rfl Tryd.underlying3 Tryd.underlying90 Tryd.underlying4 (by kernel_rfl) ZZ04b898 ?_) | (fail) | ((with_reducible refine gate_update rfl ?_); obtain ⟨hky, hln, hle⟩ := mapPut.open_ A68.out; refine update_event (k := 3) (e := 4) (enc := Lit.bool) (vv := t328) (L := x12_4) rfl _ _ _ 90 (Or.inl rfl) rfl rfl rfl Tryd.underlying3 Tryd.underlying90 ZZaf2bc8 hln hky (plainElem_bool Tryd.underlying4 t328) ?_; intro wm2 hm hg; rw [← hle] at hm; have HL := Aside0.mk (Kd.V_grown (ok := fun k_ => some k_ ≠ (u6 : Value).ownBlock ∧ k_ ≠ gq_) ZZ0f9b83 hg (fun k_ hk_ e_ => hk_.2 (by injection e_))); have HM7 := Aside0.mk (MapW.kept (P := Tryd.prog) (k := 3) (e := 4) (enc := Lit.bool) (b := g7) (L := x7_3) ZZ04b898 hg (fun e_ => HNE.out (by injection e_))); replace HO_6 := Aside0.mk (MapW.row ZZaf2bc8 (zR HO_6) hg); replace HO_36 := Aside0.mk (Kd.N_grown (ok := fun k_ => some k_ ≠ (u6 : Value).ownBlock ∧ k_ ≠ gq_) ZZ87f9b3 hg (fun k_ hk_ e_ => hk_.2 (by injection e_))); replace HB := Aside0.mk (Below.grown ZZ605003 hg (below_size ZZ605003) (fun _ e_ => by cases e_; exact GM12.out)); have HM12 := Aside0.mk hm; clear hm hg hky hln hle))
               go_roundg kj45
               case measure => have := HJ2.out; have := HK2.out; have := HK3.out; have := HK4.out; have := HJ27.out; have := HJ45.out; omega
               case rel => exact ⟨(x6_4), (t329), (wrap64 (x13_4 + 2)), ZZ0ab324, H', ⟨(by have := HJ2.out; have := HK2.out; have := HK3.out; have := HK4.out; have := HJ27.out; have := HJ45.out; omega)⟩, ⟨(zR HO_6)⟩, ⟨ZZ87f9b3⟩, ⟨ZZ0f9b83⟩, ⟨ZZ04b898⟩, ⟨ZZaf2bc8⟩, ⟨ZZ605003⟩⟩
          rw [if_neg c23] at H
          have c23b0 := decide_eq_false c23
          clear c23
          have H' := Aside0.mk H
          clear H
          go_wp2
          go_roundg k4
          case measure => have := HJ2.out; have := HK2.out; have := HK3.out; have := HK4.out; omega
          case rel => exact ⟨(x6_4), (x12_4), (wrap64 (x38_3 + 1)), gq_, ZZ0ab324, ZZ0ab324, H', ⟨(by have := HJ2.out; have := HK2.out; have := HK3.out; have := HK4.out; omega)⟩, ⟨(zR HO_6)⟩, ⟨(by (with_reducible repeat (first | apply Kd.N_alloc | apply Kd.N_drewN | apply Kd.N_drew)); exact Kd.N_mono HO_36.out (fun _ hk => hk.1))⟩, ⟨ZZaf2bc8⟩, GM12, ⟨ZZ605003⟩⟩
       rw [if_neg c20] at H
       have c20b0 := decide_eq_false c20
       clear c20
       simp only [Option.some.injEq, Prod.mk.injEq] at H
       obtain ⟨rfl, rfl⟩ := H
       go_wp2
       go_ret2
       exact ⟨_, ZZab01d2, (zR HO_6), ZZ605003⟩
end Go.Proofs.YtnfmlglhoboooaaDoor.XFnEvidence

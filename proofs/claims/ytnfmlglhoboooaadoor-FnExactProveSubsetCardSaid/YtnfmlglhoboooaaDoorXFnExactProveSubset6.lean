-- Printed by wip/tools/xprint.py, a program of this session, over the kit's print; Lean checks it.
import Derived.Test.YtnfmlglhoboooaaDoorXFnExactProveSubset0
import Derived.Test.YtnfmlglhoboooaaDoorXFnExactProveSubset4
import Derived.Test.YtnfmlglhoboooaaDoorXFnExactProveSubset5
namespace Go.Proofs.YtnfmlglhoboooaaDoor.XFnExactProveSubset
open Go.RowKit Go.Proofs.YtnfmlglhoboooaaDoorW.PrintWords Go.Proofs.YtnfmlglhoboooaaDoorW.PrintLast Go.Proofs.YtnfmlglhoboooaaDoorW.PrintMore
attribute [local go_sem] max2_int min2_int max_two min_two max_three min_three max_four min_four   -- for this text's walks alone
set_option linter.unusedVariables false
set_option linter.unusedSimpArgs false

/-! ### impl_ProveSubset: function 44 -/
mutual
def impl_ProveSubset.j0 : Nat → List Int → List Int → Bool → Option (List Int × Bool)
  | 0, _, _, _ => none
  | k + 1, x0, x1, x23 => if x23 = true then (some (([] : List Int), false)) else (impl_ProveSubset.l0 k x0 (([] : List Int)) [] x1 (x1.length : Int) 0)
def impl_ProveSubset.l0 : Nat → List Int → List Int → List (Int × Bool) → List Int → Int → Int → Option (List Int × Bool)
  | 0, _, _, _, _, _, _ => none
  | k + 1, x0, x6, x7, x26, x27, x28 => if x28 < x27 then (if 0 ≤ x28 then (if x28 < (x26.length : Int) then ((mapPut.f x7 (rd x26 x28) true).bind fun t221 => (impl_ProveSubset.l0 k x0 x6 t221 x26 x27 (wrap64 (x28 + 1)))) else (none)) else (none)) else ((impl_levelsOf.f k x0).bind fun t222 => (impl_ProveSubset.l1 k x6 x7 t222 (t222.length : Int) 0))
def impl_ProveSubset.l1 : Nat → List Int → List (Int × Bool) → List (List Int) → Int → Int → Option (List Int × Bool)
  | 0, _, _, _, _, _ => none
  | k + 1, x6, x7, x36, x37, x38 => if x38 < x37 then (if 0 ≤ x38 then (if x38 < (x36.length : Int) then (impl_ProveSubset.l2 k x6 x7 (rd_L1 x36 x38) [] 0 x36 x37 x38) else (none)) else (none)) else (some (x6, true))
def impl_ProveSubset.l2 : Nat → List Int → List (Int × Bool) → List Int → List (Int × Bool) → Int → List (List Int) → Int → Int → Option (List Int × Bool)
  | 0, _, _, _, _, _, _, _, _ => none
  | k + 1, x6, x7, x11, x12, x13, x36, x37, x38 => if x13 < (x11.length : Int) then (if (wrap64 (x13 + 1)) = (x11.length : Int) then ((mapHas.f x7 x13).bind fun t226 => ((mapPut.f x12 (wrap64 (Int.tdiv x13 2)) t226).bind fun t227 => (impl_ProveSubset.l2 k x6 x7 x11 t227 (wrap64 (x13 + 2)) x36 x37 x38))) else ((mapHas.f x7 x13).bind fun t228 => (if t228 = true then ((mapHas.f x7 (wrap64 (x13 + 1))).bind fun t229 => (impl_ProveSubset.j4 k x6 x7 x11 x12 x13 x36 x37 x38 (!t229))) else (impl_ProveSubset.j4 k x6 x7 x11 x12 x13 x36 x37 x38 false)))) else (impl_ProveSubset.l1 k x6 x12 x36 x37 (wrap64 (x38 + 1)))
def impl_ProveSubset.j4 : Nat → List Int → List (Int × Bool) → List Int → List (Int × Bool) → Int → List (List Int) → Int → Int → Bool → Option (List Int × Bool)
  | 0, _, _, _, _, _, _, _, _, _ => none
  | k + 1, x6, x7, x11, x12, x13, x36, x37, x38, x61 => if x61 = true then (if 0 ≤ (wrap64 (x13 + 1)) then (if (wrap64 (x13 + 1)) < (x11.length : Int) then (if x6.length < 17592186044416 then ((some (x6 ++ [rd x11 (wrap64 (x13 + 1))] : List Int)).bind fun y231 => ((mapHas.f x7 x13).bind fun t234 => (if t234 = true then ((mapPut.f x12 (wrap64 (Int.tdiv x13 2)) true).bind fun t235 => (impl_ProveSubset.l2 k y231 x7 x11 t235 (wrap64 (x13 + 2)) x36 x37 x38)) else ((mapHas.f x7 (wrap64 (x13 + 1))).bind fun t236 => ((mapPut.f x12 (wrap64 (Int.tdiv x13 2)) t236).bind fun t237 => (impl_ProveSubset.l2 k y231 x7 x11 t237 (wrap64 (x13 + 2)) x36 x37 x38)))))) else (none)) else (none)) else (none)) else ((mapHas.f x7 x13).bind fun t238 => (if t238 = true then (impl_ProveSubset.j5 k x6 x7 x11 x12 x13 x36 x37 x38 false) else ((mapHas.f x7 (wrap64 (x13 + 1))).bind fun t239 => (impl_ProveSubset.j5 k x6 x7 x11 x12 x13 x36 x37 x38 t239))))
def impl_ProveSubset.j5 : Nat → List Int → List (Int × Bool) → List Int → List (Int × Bool) → Int → List (List Int) → Int → Int → Bool → Option (List Int × Bool)
  | 0, _, _, _, _, _, _, _, _, _ => none
  | k + 1, x6, x7, x11, x12, x13, x36, x37, x38, x80 => if x80 = true then (if 0 ≤ x13 then (if x13 < (x11.length : Int) then (if x6.length < 17592186044416 then ((some (x6 ++ [rd x11 x13] : List Int)).bind fun y241 => ((mapHas.f x7 x13).bind fun t244 => (if t244 = true then ((mapPut.f x12 (wrap64 (Int.tdiv x13 2)) true).bind fun t245 => (impl_ProveSubset.l2 k y241 x7 x11 t245 (wrap64 (x13 + 2)) x36 x37 x38)) else ((mapHas.f x7 (wrap64 (x13 + 1))).bind fun t246 => ((mapPut.f x12 (wrap64 (Int.tdiv x13 2)) t246).bind fun t247 => (impl_ProveSubset.l2 k y241 x7 x11 t247 (wrap64 (x13 + 2)) x36 x37 x38)))))) else (none)) else (none)) else (none)) else ((mapHas.f x7 x13).bind fun t248 => (if t248 = true then ((mapPut.f x12 (wrap64 (Int.tdiv x13 2)) true).bind fun t249 => (impl_ProveSubset.l2 k x6 x7 x11 t249 (wrap64 (x13 + 2)) x36 x37 x38)) else ((mapHas.f x7 (wrap64 (x13 + 1))).bind fun t250 => ((mapPut.f x12 (wrap64 (Int.tdiv x13 2)) t250).bind fun t251 => (impl_ProveSubset.l2 k x6 x7 x11 t251 (wrap64 (x13 + 2)) x36 x37 x38)))))
end
def impl_ProveSubset.f (k : Nat) (l0 : List Int) (l1 : List Int) : Option (List Int × Bool) := (impl_areLeaves.f k l0).bind fun t215 => (if t215 = true then ((impl_isSubset.f k l1 (l0.length : Int)).bind fun t216 => (impl_ProveSubset.j0 k l0 l1 (!t216))) else (impl_ProveSubset.j0 k l0 l1 true))
theorem impl_ProveSubset.mono_l : ∀ k, (∀ y0 y1 y2, LeO (impl_ProveSubset.j0 k y0 y1 y2) (impl_ProveSubset.j0 (k + 1) y0 y1 y2)) ∧ (∀ y0 y1 y2 y3 y4 y5, LeO (impl_ProveSubset.l0 k y0 y1 y2 y3 y4 y5) (impl_ProveSubset.l0 (k + 1) y0 y1 y2 y3 y4 y5)) ∧ (∀ y0 y1 y2 y3 y4, LeO (impl_ProveSubset.l1 k y0 y1 y2 y3 y4) (impl_ProveSubset.l1 (k + 1) y0 y1 y2 y3 y4)) ∧ (∀ y0 y1 y2 y3 y4 y5 y6 y7, LeO (impl_ProveSubset.l2 k y0 y1 y2 y3 y4 y5 y6 y7) (impl_ProveSubset.l2 (k + 1) y0 y1 y2 y3 y4 y5 y6 y7)) ∧ (∀ y0 y1 y2 y3 y4 y5 y6 y7 y8, LeO (impl_ProveSubset.j4 k y0 y1 y2 y3 y4 y5 y6 y7 y8) (impl_ProveSubset.j4 (k + 1) y0 y1 y2 y3 y4 y5 y6 y7 y8)) ∧ (∀ y0 y1 y2 y3 y4 y5 y6 y7 y8, LeO (impl_ProveSubset.j5 k y0 y1 y2 y3 y4 y5 y6 y7 y8) (impl_ProveSubset.j5 (k + 1) y0 y1 y2 y3 y4 y5 y6 y7 y8))
  | 0 => ⟨fun _ _ _ r h => by simp [impl_ProveSubset.j0] at h, fun _ _ _ _ _ _ r h => by simp [impl_ProveSubset.l0] at h, fun _ _ _ _ _ r h => by simp [impl_ProveSubset.l1] at h, fun _ _ _ _ _ _ _ _ r h => by simp [impl_ProveSubset.l2] at h, fun _ _ _ _ _ _ _ _ _ r h => by simp [impl_ProveSubset.j4] at h, fun _ _ _ _ _ _ _ _ _ r h => by simp [impl_ProveSubset.j5] at h⟩
  | k + 1 => by
    obtain ⟨ih0, ih1, ih2, ih3, ih4, ih5⟩ := impl_ProveSubset.mono_l k
    refine ⟨?_, ?_, ?_, ?_, ?_, ?_⟩
    · intro y0 y1 y2
      unfold impl_ProveSubset.j0
      repeat' first
      | (with_reducible exact ih0 _ _ _)
      | (with_reducible exact ih1 _ _ _ _ _ _)
      | (with_reducible exact ih2 _ _ _ _ _)
      | (with_reducible exact ih3 _ _ _ _ _ _ _ _)
      | (with_reducible exact ih4 _ _ _ _ _ _ _ _ _)
      | (with_reducible exact ih5 _ _ _ _ _ _ _ _ _)
      | (with_reducible exact impl_areLeaves.mono _ _)
      | (with_reducible exact impl_isSubset.mono _ _ _)
      | (with_reducible exact impl_levelsOf.mono _ _)
      | (with_reducible exact LeO.refl _)
      | (with_reducible exact LeO.none _)
      | (with_reducible refine LeO.ite ?_ ?_)
      | (with_reducible refine LeO.bind ?_ (fun _ => ?_))
      | exact ih0 _ _ _
      | exact ih1 _ _ _ _ _ _
      | exact ih2 _ _ _ _ _
      | exact ih3 _ _ _ _ _ _ _ _
      | exact ih4 _ _ _ _ _ _ _ _ _
      | exact ih5 _ _ _ _ _ _ _ _ _
      | exact impl_areLeaves.mono _ _
      | exact impl_isSubset.mono _ _ _
      | exact impl_levelsOf.mono _ _
      | exact LeO.none _
      | refine LeO.ite ?_ ?_
      | refine LeO.bind ?_ (fun _ => ?_)
    · intro y0 y1 y2 y3 y4 y5
      unfold impl_ProveSubset.l0
      repeat' first
      | (with_reducible exact ih0 _ _ _)
      | (with_reducible exact ih1 _ _ _ _ _ _)
      | (with_reducible exact ih2 _ _ _ _ _)
      | (with_reducible exact ih3 _ _ _ _ _ _ _ _)
      | (with_reducible exact ih4 _ _ _ _ _ _ _ _ _)
      | (with_reducible exact ih5 _ _ _ _ _ _ _ _ _)
      | (with_reducible exact impl_areLeaves.mono _ _)
      | (with_reducible exact impl_isSubset.mono _ _ _)
      | (with_reducible exact impl_levelsOf.mono _ _)
      | (with_reducible exact LeO.refl _)
      | (with_reducible exact LeO.none _)
      | (with_reducible refine LeO.ite ?_ ?_)
      | (with_reducible refine LeO.bind ?_ (fun _ => ?_))
      | exact ih0 _ _ _
      | exact ih1 _ _ _ _ _ _
      | exact ih2 _ _ _ _ _
      | exact ih3 _ _ _ _ _ _ _ _
      | exact ih4 _ _ _ _ _ _ _ _ _
      | exact ih5 _ _ _ _ _ _ _ _ _
      | exact impl_areLeaves.mono _ _
      | exact impl_isSubset.mono _ _ _
      | exact impl_levelsOf.mono _ _
      | exact LeO.none _
      | refine LeO.ite ?_ ?_
      | refine LeO.bind ?_ (fun _ => ?_)
    · intro y0 y1 y2 y3 y4
      unfold impl_ProveSubset.l1
      repeat' first
      | (with_reducible exact ih0 _ _ _)
      | (with_reducible exact ih1 _ _ _ _ _ _)
      | (with_reducible exact ih2 _ _ _ _ _)
      | (with_reducible exact ih3 _ _ _ _ _ _ _ _)
      | (with_reducible exact ih4 _ _ _ _ _ _ _ _ _)
      | (with_reducible exact ih5 _ _ _ _ _ _ _ _ _)
      | (with_reducible exact impl_areLeaves.mono _ _)
      | (with_reducible exact impl_isSubset.mono _ _ _)
      | (with_reducible exact impl_levelsOf.mono _ _)
      | (with_reducible exact LeO.refl _)
      | (with_reducible exact LeO.none _)
      | (with_reducible refine LeO.ite ?_ ?_)
      | (with_reducible refine LeO.bind ?_ (fun _ => ?_))
      | exact ih0 _ _ _
      | exact ih1 _ _ _ _ _ _
      | exact ih2 _ _ _ _ _
      | exact ih3 _ _ _ _ _ _ _ _
      | exact ih4 _ _ _ _ _ _ _ _ _
      | exact ih5 _ _ _ _ _ _ _ _ _
      | exact impl_areLeaves.mono _ _
      | exact impl_isSubset.mono _ _ _
      | exact impl_levelsOf.mono _ _
      | exact LeO.none _
      | refine LeO.ite ?_ ?_
      | refine LeO.bind ?_ (fun _ => ?_)
    · intro y0 y1 y2 y3 y4 y5 y6 y7
      unfold impl_ProveSubset.l2
      repeat' first
      | (with_reducible exact ih0 _ _ _)
      | (with_reducible exact ih1 _ _ _ _ _ _)
      | (with_reducible exact ih2 _ _ _ _ _)
      | (with_reducible exact ih3 _ _ _ _ _ _ _ _)
      | (with_reducible exact ih4 _ _ _ _ _ _ _ _ _)
      | (with_reducible exact ih5 _ _ _ _ _ _ _ _ _)
      | (with_reducible exact impl_areLeaves.mono _ _)
      | (with_reducible exact impl_isSubset.mono _ _ _)
      | (with_reducible exact impl_levelsOf.mono _ _)
      | (with_reducible exact LeO.refl _)
      | (with_reducible exact LeO.none _)
      | (with_reducible refine LeO.ite ?_ ?_)
      | (with_reducible refine LeO.bind ?_ (fun _ => ?_))
      | exact ih0 _ _ _
      | exact ih1 _ _ _ _ _ _
      | exact ih2 _ _ _ _ _
      | exact ih3 _ _ _ _ _ _ _ _
      | exact ih4 _ _ _ _ _ _ _ _ _
      | exact ih5 _ _ _ _ _ _ _ _ _
      | exact impl_areLeaves.mono _ _
      | exact impl_isSubset.mono _ _ _
      | exact impl_levelsOf.mono _ _
      | exact LeO.none _
      | refine LeO.ite ?_ ?_
      | refine LeO.bind ?_ (fun _ => ?_)
    · intro y0 y1 y2 y3 y4 y5 y6 y7 y8
      unfold impl_ProveSubset.j4
      repeat' first
      | (with_reducible exact ih0 _ _ _)
      | (with_reducible exact ih1 _ _ _ _ _ _)
      | (with_reducible exact ih2 _ _ _ _ _)
      | (with_reducible exact ih3 _ _ _ _ _ _ _ _)
      | (with_reducible exact ih4 _ _ _ _ _ _ _ _ _)
      | (with_reducible exact ih5 _ _ _ _ _ _ _ _ _)
      | (with_reducible exact impl_areLeaves.mono _ _)
      | (with_reducible exact impl_isSubset.mono _ _ _)
      | (with_reducible exact impl_levelsOf.mono _ _)
      | (with_reducible exact LeO.refl _)
      | (with_reducible exact LeO.none _)
      | (with_reducible refine LeO.ite ?_ ?_)
      | (with_reducible refine LeO.bind ?_ (fun _ => ?_))
      | exact ih0 _ _ _
      | exact ih1 _ _ _ _ _ _
      | exact ih2 _ _ _ _ _
      | exact ih3 _ _ _ _ _ _ _ _
      | exact ih4 _ _ _ _ _ _ _ _ _
      | exact ih5 _ _ _ _ _ _ _ _ _
      | exact impl_areLeaves.mono _ _
      | exact impl_isSubset.mono _ _ _
      | exact impl_levelsOf.mono _ _
      | exact LeO.none _
      | refine LeO.ite ?_ ?_
      | refine LeO.bind ?_ (fun _ => ?_)
    · intro y0 y1 y2 y3 y4 y5 y6 y7 y8
      unfold impl_ProveSubset.j5
      repeat' first
      | (with_reducible exact ih0 _ _ _)
      | (with_reducible exact ih1 _ _ _ _ _ _)
      | (with_reducible exact ih2 _ _ _ _ _)
      | (with_reducible exact ih3 _ _ _ _ _ _ _ _)
      | (with_reducible exact ih4 _ _ _ _ _ _ _ _ _)
      | (with_reducible exact ih5 _ _ _ _ _ _ _ _ _)
      | (with_reducible exact impl_areLeaves.mono _ _)
      | (with_reducible exact impl_isSubset.mono _ _ _)
      | (with_reducible exact impl_levelsOf.mono _ _)
      | (with_reducible exact LeO.refl _)
      | (with_reducible exact LeO.none _)
      | (with_reducible refine LeO.ite ?_ ?_)
      | (with_reducible refine LeO.bind ?_ (fun _ => ?_))
      | exact ih0 _ _ _
      | exact ih1 _ _ _ _ _ _
      | exact ih2 _ _ _ _ _
      | exact ih3 _ _ _ _ _ _ _ _
      | exact ih4 _ _ _ _ _ _ _ _ _
      | exact ih5 _ _ _ _ _ _ _ _ _
      | exact impl_areLeaves.mono _ _
      | exact impl_isSubset.mono _ _ _
      | exact impl_levelsOf.mono _ _
      | exact LeO.none _
      | refine LeO.ite ?_ ?_
      | refine LeO.bind ?_ (fun _ => ?_)
theorem impl_ProveSubset.mono : ∀ a0 a1 k, LeO (impl_ProveSubset.f k a0 a1) (impl_ProveSubset.f (k + 1) a0 a1) := by
  intro a0 a1 k
  obtain ⟨ih0, ih1, ih2, ih3, ih4, ih5⟩ := impl_ProveSubset.mono_l k
  unfold impl_ProveSubset.f
  repeat' first
      | (with_reducible exact ih0 _ _ _)
      | (with_reducible exact ih1 _ _ _ _ _ _)
      | (with_reducible exact ih2 _ _ _ _ _)
      | (with_reducible exact ih3 _ _ _ _ _ _ _ _)
      | (with_reducible exact ih4 _ _ _ _ _ _ _ _ _)
      | (with_reducible exact ih5 _ _ _ _ _ _ _ _ _)
      | (with_reducible exact impl_areLeaves.mono _ _)
      | (with_reducible exact impl_isSubset.mono _ _ _)
      | (with_reducible exact impl_levelsOf.mono _ _)
      | (with_reducible exact LeO.refl _)
      | (with_reducible exact LeO.none _)
      | (with_reducible refine LeO.ite ?_ ?_)
      | (with_reducible refine LeO.bind ?_ (fun _ => ?_))
      | exact ih0 _ _ _
      | exact ih1 _ _ _ _ _ _
      | exact ih2 _ _ _ _ _
      | exact ih3 _ _ _ _ _ _ _ _
      | exact ih4 _ _ _ _ _ _ _ _ _
      | exact ih5 _ _ _ _ _ _ _ _ _
      | exact impl_areLeaves.mono _ _
      | exact impl_isSubset.mono _ _ _
      | exact impl_levelsOf.mono _ _
      | exact LeO.none _
      | refine LeO.ite ?_ ?_
      | refine LeO.bind ?_ (fun _ => ?_)
set_option maxHeartbeats 8000000 in
set_option maxRecDepth 100000 in
theorem impl_ProveSubset.calls (k : Nat) (A0 : Option Addr) (c0 : Nat) (l0 : List Int) (A1 : Option Addr) (c1 : Nat) (l1 : List Int) (r1 : List Int) (r2 : Bool) (w : World) (hr0 : Kd.C (Kd.int .i64) w A0 l0.length l0) (hc0 : l0.length ≤ c0) (hr1 : Kd.C (Kd.int .i64) w A1 l1.length l1) (hc1 : l1.length ≤ c1) (hV : TInv w) (h : impl_ProveSubset.f k l0 l1 = some (r1, r2)) :
    Calls Tryd.prog 44 #[.slice A0 l0.length c0, .slice A1 l1.length c1] w fun e w' => ∃ v0_ : Value, e = .returned (.tuple #[v0_, .bool r2]) ∧ Kd.R (Kd.int .i64) 3 w' w.heap.size (fun _ => True) v0_ r1 ∧ Below w.heap.size w w' := by
  have HV := Aside0.mk hV
  clear hV
  have HR0 := Aside0.mk hr0
  have HC0 := Aside0.mk hc0
  clear hr0 hc0
  have HR1 := Aside0.mk hr1
  have HC1 := Aside0.mk hc1
  clear hr1 hc1
  have HB := Aside0.mk (Below.refl w.heap.size w)
  have H : ((impl_areLeaves.f k l0).bind fun t215 => (if t215 = true then ((impl_isSubset.f k l1 (l0.length : Int)).bind fun t216 => (impl_ProveSubset.j0 k l0 l1 (!t216))) else (impl_ProveSubset.j0 k l0 l1 true))) = some (r1, r2) := h
  clear h
  have HC3 := Aside0.mk H
  clear H
  go_enter Tryd.func44, Tryd.ntmps44
  go_upto_region 1 with (fail)
  go_cut [23] (fun v23 wc => ∃ (kq : Nat) (x23_2 : Bool), v23 = .bool x23_2 ∧ Aside0 (impl_ProveSubset.j0 kq l0 l1 x23_2 = some (r1, r2)) ∧ Aside0 (kq ≤ k) ∧ Aside0 (Below w.heap.size w wc))
  case first =>
    have H := HC3.out
    clear HC3
    replace H := Option.bind_eq_some_iff.mp H
    obtain ⟨t215, A40, H⟩ := H
    replace H : (if t215 = true then ((impl_isSubset.f k l1 (l0.length : Int)).bind fun t216 => (impl_ProveSubset.j0 k l0 l1 (!t216))) else (impl_ProveSubset.j0 k l0 l1 true)) = some (r1, r2) := H
    have A4 := Aside0.mk A40
    clear A40
    by_cases c5 : t215 = true
    · subst c5
      have H1 : ((impl_isSubset.f k l1 (l0.length : Int)).bind fun t216 => (impl_ProveSubset.j0 k l0 l1 (!t216))) = some (r1, r2) := by rw [if_pos rfl] at H; exact H
      clear H
      have H := H1
      clear H1
      replace H := Option.bind_eq_some_iff.mp H
      obtain ⟨t216, A60, H⟩ := H
      replace H : (impl_ProveSubset.j0 k l0 l1 (!t216)) = some (r1, r2) := H
      have A6 := Aside0.mk A60
      clear A60
      have H' := Aside0.mk H
      clear H
      go_wp2_with (first | ((with_reducible refine gate_callee (f := 63) rfl ?_); refine goesL_ (some 15) rfl rfl Tryd.func63 (by kernel_rfl) rfl #[.slice A0 l0.length c0] rfl (by (try simp only [List.map_toArray, List.map_cons, List.map_nil]); first | done | rfl | (simp only [List.length_drop, List.length_take]; rfl)) ?_; (with_reducible refine (impl_areLeaves.calls k _ _ l0 true _ ?side1 ?side2 A4.out).mono ?_); (case side1 => repeat (first | exact (Kd.C_below HR0.out HB.out) | (with_reducible refine Kd.C_alloc ?_ _) | (with_reducible refine Kd.C_drewN ?_ _) | (with_reducible refine Kd.C_drew ?_))); (case side2 => exact HC0.out); rintro e w7 ⟨rfl, hb⟩; refine ⟨_, rfl, ?_⟩; have n0_ := Aside0.mk (below_step (by repeat (first | (with_reducible first | exact HB.out | apply below_alloc | apply pw_below_drewN | apply below_drew1) | exact HB.out)) hb); clear HB; have HB := n0_; clear n0_; (try clear hb); (try clear hb2); (try clear hk); (try clear hi)) | (go_at_call 72; (with_reducible refine (impl_isSubset.calls k _ _ l1 (l0.length : Int) t216 _ ?side1 ?side2 A6.out).mono ?_); (case side1 => repeat (first | exact (Kd.C_below HR1.out HB.out) | (with_reducible refine Kd.C_alloc ?_ _) | (with_reducible refine Kd.C_drewN ?_ _) | (with_reducible refine Kd.C_drew ?_))); (case side2 => exact HC1.out); rintro e w' ⟨rfl, ⟨nd, rfl⟩⟩))
      go_meet
      case rel => exact ⟨_, (!t216), (by first | rfl | (simp; done) | (simp [*]; done)), H', ⟨by first | omega | exact Nat.le_refl _⟩, ⟨by repeat (first | (with_reducible first | exact HB.out | apply below_alloc | apply pw_below_drewN | apply below_drew1) | exact HB.out)⟩⟩
    · replace c5 := Bool.eq_false_iff.mpr c5
      subst c5
      have H1 : (impl_ProveSubset.j0 k l0 l1 true) = some (r1, r2) := by rw [if_neg (show ¬ (false = true) by decide)] at H; exact H
      clear H
      have H := H1
      clear H1
      have H' := Aside0.mk H
      clear H
      go_wp2_with (first | ((with_reducible refine gate_callee (f := 63) rfl ?_); refine goesL_ (some 15) rfl rfl Tryd.func63 (by kernel_rfl) rfl #[.slice A0 l0.length c0] rfl (by (try simp only [List.map_toArray, List.map_cons, List.map_nil]); first | done | rfl | (simp only [List.length_drop, List.length_take]; rfl)) ?_; (with_reducible refine (impl_areLeaves.calls k _ _ l0 false _ ?side1 ?side2 A4.out).mono ?_); (case side1 => repeat (first | exact (Kd.C_below HR0.out HB.out) | (with_reducible refine Kd.C_alloc ?_ _) | (with_reducible refine Kd.C_drewN ?_ _) | (with_reducible refine Kd.C_drew ?_))); (case side2 => exact HC0.out); rintro e w8 ⟨rfl, hb⟩; refine ⟨_, rfl, ?_⟩; have n0_ := Aside0.mk (below_step (by repeat (first | (with_reducible first | exact HB.out | apply below_alloc | apply pw_below_drewN | apply below_drew1) | exact HB.out)) hb); clear HB; have HB := n0_; clear n0_; (try clear hb); (try clear hb2); (try clear hk); (try clear hi)))
      go_meet
      case rel => exact ⟨_, (true), (by first | rfl | (simp; done) | (simp [*]; done)), H', ⟨by first | omega | exact Nat.le_refl _⟩, ⟨by repeat (first | (with_reducible first | exact HB.out | apply below_alloc | apply pw_below_drewN | apply below_drew1) | exact HB.out)⟩⟩
  case rest =>
    clear HC3
    try clear c1
    try clear p2
    try clear c4
    try clear c5
    try clear c6
    obtain ⟨kq, x23_2, rfl, HA, HJ2, HB⟩ := hcut
    cases kq with
    | zero => exact absurd HA.out (by simp [impl_ProveSubset.j0])
    | succ kj2 =>
      have H := HA.out
      clear HA
      simp only [impl_ProveSubset.j0] at H
      by_cases c9 : x23_2 = true
      · subst c9
        have H1 : (some (([] : List Int), false)) = some (r1, r2) := by rw [if_pos rfl] at H; exact H
        clear H
        have H := H1
        clear H1
        simp only [Option.some.injEq, Prod.mk.injEq] at H
        obtain ⟨rfl, rfl⟩ := H
        go_wp2
        go_ret2
        exact ⟨_, by first | rfl | (simp [errW_none, errW_some] <;> rfl) | (simp [*, errW_none, errW_some] <;> rfl), by first | exact Kd.R_nil _ _ _ _ _ | exact Kd.N_nil _ _ _ _ _ | exact Kd.V_nil _ _ _ _ _ | exact Kd.Q_nil _ _ _ _ _ | exact Kd.S_nil _ _ _ _ _, by repeat (first | (with_reducible first | exact HB.out | apply below_alloc | apply pw_below_drewN | apply below_drew1) | exact HB.out)⟩
      · replace c9 := Bool.eq_false_iff.mpr c9
        subst c9
        have H1 : (impl_ProveSubset.l0 kj2 l0 (([] : List Int)) [] l1 (l1.length : Int) 0) = some (r1, r2) := by rw [if_neg (show ¬ (false = true) by decide)] at H; exact H
        clear H
        have H := H1
        clear H1
        obtain ⟨y217, hy217⟩ : ∃ y_ : List Int, y_ = (([] : List Int)) := ⟨_, rfl⟩
        replace H : (impl_ProveSubset.l0 kj2 l0 y217 [] l1 (l1.length : Int) 0) = some (r1, r2) := by first | (rw [hy217]; with_reducible exact H) | (have H2_ := (Option.bind_some _ _).symm.trans H; rw [hy217]; with_reducible exact H2_) | (have H2_ := (Option.bind_some _ _).symm.trans H; with_reducible exact H2_) | with_reducible exact H | (rw [hy217]; exact H) | exact H
        have Ny217 := Aside0.mk hy217
        clear hy217
        have H' := Aside0.mk H
        clear H
        go_wp2_with (first | ((with_reducible refine gate_dst (N := 24) rfl ?_); (try (refine gate_guard (by rfl) ?_; dsimp only)); refine Kd.R_lit (Kd.int .i64) _ 3 ?hg (N := 24) ?hd (xs := ([] : List Int)) (inner := []) (ok := fun _ => True) (okp := fun _ => True) ?hr ?hp (fun _ hk => hk) trivial (Below.refl _ _) (Nat.le_refl _) (by simp) ?_; (case hd => rfl); (case hg => rfl); (case hr => first | (go_simp; done) | (go_simp; rfl)); (case hp => exact (Reps.none _ _)); intro v218 w10 ho11 hb hg_ hnew_; clear hg_ hnew_; (first | rw [← Ny217.out] at ho11 | (simp only [Int.reduceToNat] at ho11; rw [← Ny217.out] at ho11)); have n0_ := Aside0.mk (Kd.R_lower ho11 (below_size (by repeat (first | (with_reducible first | exact HB.out | apply below_alloc | apply pw_below_drewN | apply below_drew1) | exact HB.out)))); have n1_ := Aside0.mk (below_step (by repeat (first | (with_reducible first | exact HB.out | apply below_alloc | apply pw_below_drewN | apply below_drew1) | exact HB.out)) hb); clear HB; have HO219 := n0_; have HB := n1_; clear n0_ n1_; clear hb ho11) | ((with_reducible refine gate_makeMap rfl ?_); refine make_event 3 4 Lit.bool rfl rfl ?_; intro gm_ hgm wm1 hm hb; have n0_ := Aside0.mk (Kd.R_below (by (with_reducible repeat (first | apply Kd.R_alloc | apply Kd.R_drewN | apply Kd.R_drew)); exact HO219.out) hb); have n1_ := Aside0.mk (below_step (by repeat (first | (with_reducible first | exact HB.out | apply below_alloc | apply pw_below_drewN | apply below_drew1) | exact HB.out)) hb); have GMa := Aside0.mk ((by rw [hgm]; exact (below_size (by repeat (first | (with_reducible first | exact HB.out | apply below_alloc | apply pw_below_drewN | apply below_drew1) | exact HB.out)))) : w.heap.size ≤ gm_); have HM7 := Aside0.mk hm; clear HO219 HB; have HO219 := n0_; have HB := n1_; clear n0_ n1_ hb hm hgm))
        go_loopg [28] kj2 (fun kq v28 w' => ∃ (x7_2 : List (Int × Bool)) (x28_2 : Int), v28 = .int .i64 x28_2 ∧ Aside0 (impl_ProveSubset.l0 kq l0 y217 x7_2 l1 (l1.length : Int) x28_2 = some (r1, r2)) ∧ Aside0 (kq ≤ kj2) ∧ Aside0 (Kd.R (Kd.int .i64) 3 w' w.heap.size (fun _ => True) v218 y217) ∧ Aside0 (MapW Tryd.prog 3 4 Lit.bool w' gm_ x7_2) ∧ Aside0 (Below w.heap.size w w'))
        case atStart => exact ⟨([]), (0), (by first | rfl | (simp; done) | (simp [*]; done)), H', ⟨Nat.le_refl _⟩, ⟨by (with_reducible repeat (first | apply Kd.R_alloc | apply Kd.R_drewN | apply Kd.R_drew)); exact HO219.out⟩, ⟨(by repeat (first | (with_reducible first | exact HM7.out | apply MapW.alloc | apply MapW.drewN | apply MapW.drew)))⟩, ⟨by repeat (first | (with_reducible first | exact HB.out | apply below_alloc | apply pw_below_drewN | apply below_drew1) | exact HB.out)⟩⟩
        case round =>
          clear H'
          try clear c1
          try clear p2
          try clear c4
          try clear c5
          try clear c6
          try clear c9
          try clear p2
          obtain ⟨x7_2, x28_2, rfl, HA, HK2, HO_6, HM7, HB⟩ := hrel
          cases gk with
          | zero => exact absurd HA.out (by simp [impl_ProveSubset.l0])
          | succ k2 =>
            have H := HA.out
            clear HA
            simp only [impl_ProveSubset.l0] at H
            by_cases c12 : x28_2 < (l1.length : Int)
            · rw [if_pos c12] at H
              have c12b0 : decide (x28_2 < (l1.length : Int)) = true := decide_eq_true c12
              clear c12
              by_cases c13 : 0 ≤ x28_2
              · rw [if_pos c13] at H
                have c13b0 : decide (0 ≤ x28_2) = true := decide_eq_true c13
                clear c13
                by_cases c14 : x28_2 < (l1.length : Int)
                · rw [if_pos c14] at H
                  have c14b0 : decide (x28_2 < (l1.length : Int)) = true := decide_eq_true c14
                  clear c14
                  replace H := Option.bind_eq_some_iff.mp H
                  obtain ⟨t221, A150, H⟩ := H
                  replace H : (impl_ProveSubset.l0 k2 l0 y217 t221 l1 (l1.length : Int) (wrap64 (x28_2 + 1))) = some (r1, r2) := H
                  have A15 := Aside0.mk A150
                  clear A150
                  have H' := Aside0.mk H
                  clear H
                  have p220 : 0 ≤ (x28_2 : Int) := of_decide_eq_true (by first | (with_reducible assumption) | assumption)
                  have q220 : x28_2 < (l1.length : Int) := of_decide_eq_true (by first | (with_reducible assumption) | assumption)
                  obtain ⟨ad220, e220, hx220_0⟩ := Kd.at_int HR1.out x28_2 p220 q220
                  cases e220
                  replace hx220_0 := (HB.out.cell (World.block_lt_of_cell? w _ hx220_0)).trans hx220_0
                  replace p220 := eq_true p220
                  replace q220 := eq_true q220
                  go_wp2_with (first | ((with_reducible refine gate_update rfl ?_); obtain ⟨hky, hln, hle⟩ := mapPut.open_ A15.out; refine update_event (k := 3) (e := 4) (enc := Lit.bool) (vv := true) (L := x7_2) rfl _ _ _ 90 (Or.inl rfl) rfl rfl rfl Tryd.underlying3 Tryd.underlying90 (by repeat (first | (with_reducible first | exact HM7.out | apply MapW.alloc | apply MapW.drewN | apply MapW.drew))) hln hky (plainElem_bool Tryd.underlying4 true) ?_; intro wm2 hm hg; rw [← hle] at hm; have n0_ := Aside0.mk (MapW.row (by repeat (first | (with_reducible first | exact HM7.out | apply MapW.alloc | apply MapW.drewN | apply MapW.drew))) (by (with_reducible repeat (first | apply Kd.R_alloc | apply Kd.R_drewN | apply Kd.R_drew)); exact HO_6.out) hg); have n1_ := Aside0.mk (Below.grown (by repeat (first | (with_reducible first | exact HB.out | apply below_alloc | apply pw_below_drewN | apply below_drew1) | exact HB.out)) hg (below_size (by repeat (first | (with_reducible first | exact HB.out | apply below_alloc | apply pw_below_drewN | apply below_drew1) | exact HB.out))) (fun _ e_ => by cases e_; exact GMa.out)); clear HO_6; clear HB; have HO_6 := n0_; have HB := n1_; clear n0_ n1_; have HM7 := Aside0.mk hm; clear hm hg hky hln hle))
                  go_roundg k2
                  case measure => have := HJ2.out; have := HK2.out; omega
                  case rel => exact ⟨(t221), (wrap64 (x28_2 + 1)), (by first | rfl | (simp; done) | (simp [*]; done)), H', ⟨by have := HJ2.out; have := HK2.out; omega⟩, ⟨by (with_reducible repeat (first | apply Kd.R_alloc | apply Kd.R_drewN | apply Kd.R_drew)); exact HO_6.out⟩, ⟨(by repeat (first | (with_reducible first | exact HM7.out | apply MapW.alloc | apply MapW.drewN | apply MapW.drew)))⟩, ⟨by repeat (first | (with_reducible first | exact HB.out | apply below_alloc | apply pw_below_drewN | apply below_drew1) | exact HB.out)⟩⟩
                · rw [if_neg c14] at H
                  exact absurd H (by simp)
              · rw [if_neg c13] at H
                exact absurd H (by simp)
            · rw [if_neg c12] at H
              have c12b0 : decide (x28_2 < (l1.length : Int)) = false := decide_eq_false c12
              clear c12
              replace H := Option.bind_eq_some_iff.mp H
              obtain ⟨t222, A170, H⟩ := H
              replace H : (impl_ProveSubset.l1 k2 y217 x7_2 t222 (t222.length : Int) 0) = some (r1, r2) := H
              have A17 := Aside0.mk A170
              clear A170
              have H' := Aside0.mk H
              clear H
              go_wp2_with (first | ((with_reducible refine gate_callee (f := 66) rfl ?_); refine goesL_ (some 36) rfl rfl Tryd.func66 (by kernel_rfl) rfl #[.slice A0 l0.length c0] rfl (by (try simp only [List.map_toArray, List.map_cons, List.map_nil]); first | done | rfl | (simp only [List.length_drop, List.length_take]; rfl)) ?_; (with_reducible refine (impl_levelsOf.calls k2 (fun k_ => k_ < w.heap.size) _ _ l0 t222 _ ?side1 ?side2 A17.out).mono ?_); (case side1 => exact Kd.V_mk HC0.out (Kd.F_below (Kd.C_F (Kd.heap_int .i64) HR0.out) (by repeat (first | (with_reducible first | exact HB.out | apply below_alloc | apply pw_below_drewN | apply below_drew1) | exact HB.out)))); (case side2 => first | exact HV.out | exact TInv.below HV.out (by repeat (first | (with_reducible first | exact HB.out | apply below_alloc | apply pw_below_drewN | apply below_drew1) | exact HB.out))); rintro e w18 ⟨v223, rfl, ho0, hb⟩; have HM7 := Aside0.mk (MapW.below (L := x7_2) (by repeat (first | (with_reducible first | exact HM7.out | apply MapW.alloc | apply MapW.drewN | apply MapW.drew))) hb); refine ⟨_, rfl, ?_⟩; have n0_ := Aside0.mk (Kd.R_below (by (with_reducible repeat (first | apply Kd.R_alloc | apply Kd.R_drewN | apply Kd.R_drew)); exact HO_6.out) hb); have n1_ := Aside0.mk (Kd.N_lower (Kd.N_mono (ok' := fun k_ => some k_ ≠ (v218 : Value).ownBlock) ho0 (fun k_ hk_ => Or.elim hk_ (fun hs_ => fun e_ => Nat.not_le.2 hs_ (Kd.R_base HO_6.out k_ e_.symm)) (fun hn_ => (Kd.fresh' (Kd.R_lt (by (with_reducible repeat (first | apply Kd.R_alloc | apply Kd.R_drewN | apply Kd.R_drew)); exact HO_6.out)) k_ hn_)))) (below_size (by repeat (first | (with_reducible first | exact HB.out | apply below_alloc | apply pw_below_drewN | apply below_drew1) | exact HB.out)))); have n2_ := Aside0.mk (below_step (by repeat (first | (with_reducible first | exact HB.out | apply below_alloc | apply pw_below_drewN | apply below_drew1) | exact HB.out)) hb); clear HO_6; clear HB; have HO_6 := n0_; have HO224 := n1_; have HB := n2_; clear n0_ n1_ n2_; (try clear hb); (try clear hb2); (try clear hk); (try clear hi); (try clear ho0); obtain ⟨Ao19, co19, eo19⟩ := Kd.N_slice HO224.out; subst eo19))
              go_loopg [6, 7, 38] k2 (fun kq v6 v7 v38 w' => ∃ (x6_3 : List Int) (x7_3 : List (Int × Bool)) (x38_3 : Int) (g7 : Nat), v7 = .map (some g7) ∧ v38 = .int .i64 x38_3 ∧ Aside0 (impl_ProveSubset.l1 kq x6_3 x7_3 t222 (t222.length : Int) x38_3 = some (r1, r2)) ∧ Aside0 (kq ≤ k2) ∧ Aside0 (Kd.R (Kd.int .i64) 3 w' w.heap.size (fun _ => True) v6 x6_3) ∧ Aside0 (Kd.N (Kd.slice 3 (Kd.int .i64)) 40 w' w.heap.size (fun k_ => some k_ ≠ (v6 : Value).ownBlock) (.slice Ao19 t222.length co19) t222) ∧ Aside0 (MapW Tryd.prog 3 4 Lit.bool w' g7 x7_3) ∧ Aside0 (w.heap.size ≤ g7) ∧ Aside0 (Below w.heap.size w w'))
              case atStart => exact ⟨(y217), (x7_2), (0), gm_, (by first | rfl | (simp; done) | (simp [*]; done)), (by first | rfl | (simp; done) | (simp [*]; done)), H', ⟨Nat.le_refl _⟩, ⟨by (with_reducible repeat (first | apply Kd.R_alloc | apply Kd.R_drewN | apply Kd.R_drew)); exact HO_6.out⟩, ⟨by (with_reducible repeat (first | apply Kd.N_alloc | apply Kd.N_drewN | apply Kd.N_drew)); exact HO224.out⟩, ⟨(by repeat (first | (with_reducible first | exact HM7.out | apply MapW.alloc | apply MapW.drewN | apply MapW.drew)))⟩, GMa, ⟨by repeat (first | (with_reducible first | exact HB.out | apply below_alloc | apply pw_below_drewN | apply below_drew1) | exact HB.out)⟩⟩
              case round =>
                clear H'
                try clear c1
                try clear p2
                try clear q2
                try clear hx2
                try clear c4
                try clear c5
                try clear c6
                try clear p6
                try clear c9
                try clear c12
                try clear c12b0
                try clear c13
                try clear c13b0
                try clear c14
                try clear c14b0
                try clear hx220_0
                try clear p2
                try clear p220
                try clear q220
                obtain ⟨x6_3, x7_3, x38_3, g7, rfl, rfl, HA, HK3, HO_6, HO_36, HM7, GM7, HB⟩ := hrel
                cases gk with
                | zero => exact absurd HA.out (by simp [impl_ProveSubset.l1])
                | succ k3 =>
                  have H := HA.out
                  clear HA
                  simp only [impl_ProveSubset.l1] at H
                  by_cases c20 : x38_3 < (t222.length : Int)
                  · rw [if_pos c20] at H
                    have c20b0 : decide (x38_3 < (t222.length : Int)) = true := decide_eq_true c20
                    clear c20
                    by_cases c21 : 0 ≤ x38_3
                    · rw [if_pos c21] at H
                      have c21b0 : decide (0 ≤ x38_3) = true := decide_eq_true c21
                      clear c21
                      by_cases c22 : x38_3 < (t222.length : Int)
                      · rw [if_pos c22] at H
                        have c22b0 : decide (x38_3 < (t222.length : Int)) = true := decide_eq_true c22
                        clear c22
                        have H' := Aside0.mk H
                        clear H
                        have p225 : 0 ≤ (x38_3 : Int) := of_decide_eq_true (by first | (with_reducible assumption) | assumption)
                        have q225 : x38_3 < (t222.length : Int) := of_decide_eq_true (by first | (with_reducible assumption) | assumption)
                        obtain ⟨ad225, A225_0, c225_0, e225, hx225_0, hl225_0, hi225_0⟩ := at_L1 (Kd.N_reads' HO_36.out).2.2 x38_3 p225 q225
                        cases e225
                        obtain ⟨ce225, hce225, hMe225, hcc225⟩ := Kd.N_get HO_36.out [] x38_3 p225 (by first | exact q225 | exact of_decide_eq_true (by first | (with_reducible assumption) | assumption) | (have e_ := (Kd.N_reads' HO_36.out).1; omega))
                        obtain ⟨ua225_0, uc225_0, rfl, ul225_0, ge225_0⟩ := Kd.FK_slice_open hMe225
                        have hv225_0 := hcc225 0 _ rfl
                        rw [Nat.add_zero, show ((Kd.slice 3 (Kd.int .i64))).sz = 1 from rfl, Nat.mul_one] at hv225_0
                        replace hv225_0 := Option.some.inj (hv225_0.symm.trans hx225_0)
                        injection hv225_0 with hva_ hvn_ hvc_
                        rw [hva_] at ge225_0
                        rw [hvc_] at ul225_0
                        have HL225_0 := Aside0.mk (show Kd.V (Kd.int .i64) 3 _ w.heap.size _ _ (rd_L1 t222 x38_3) from Kd.V_mk ul225_0 ge225_0)
                        clear hva_ hvn_ hvc_ ge225_0 ul225_0
                        clear hcc225 hce225
                        have HR225_0 := Aside0.mk hi225_0
                        have HC225_0 := Aside0.mk hl225_0
                        clear hi225_0 hl225_0
                        replace p225 := eq_true p225
                        replace q225 := eq_true q225
                        have HL := Aside0.mk (Kd.V_mono (ok' := fun k_ => some k_ ≠ (u6 : Value).ownBlock) HL225_0.out (fun _ hk => hk.1))
                        go_wp2_with (first | ((with_reducible refine gate_makeMap rfl ?_); refine make_event 3 4 Lit.bool rfl rfl ?_; intro gq_ hgq wm1 hm hb; have HNE := Aside0.mk (show g7 ≠ gq_ from (by rw [hgq]; exact Nat.ne_of_lt (MapW.lt (P := Tryd.prog) (k := 3) (e := 4) (enc := Lit.bool) (L := x7_3) (by repeat (first | (with_reducible first | exact HM7.out | apply MapW.alloc | apply MapW.drewN | apply MapW.drew)))))); have n0_ := Aside0.mk (Kd.R_below (by (with_reducible repeat (first | apply Kd.R_alloc | apply Kd.R_drewN | apply Kd.R_drew)); exact HO_6.out) hb); have n1_ := Aside0.mk (Kd.N_below (Kd.N_elderB (by (with_reducible repeat (first | apply Kd.N_alloc | apply Kd.N_drewN | apply Kd.N_drew)); exact HO_36.out) gq_ (Nat.le_of_eq hgq.symm)) hb); have HL := Aside0.mk (Kd.V_below (Kd.V_elderB (ok := fun k_ => some k_ ≠ (u6 : Value).ownBlock) (by (with_reducible repeat (first | apply Kd.V_alloc | apply Kd.V_drewN | apply Kd.V_drew)); exact HL.out) gq_ (Nat.le_of_eq hgq.symm)) hb); have HM7 := Aside0.mk (MapW.below (L := x7_3) (by repeat (first | (with_reducible first | exact HM7.out | apply MapW.alloc | apply MapW.drewN | apply MapW.drew))) hb); have n2_ := Aside0.mk (below_step (by repeat (first | (with_reducible first | exact HB.out | apply below_alloc | apply pw_below_drewN | apply below_drew1) | exact HB.out)) hb); have GM12 := Aside0.mk ((by rw [hgq]; exact (below_size (by repeat (first | (with_reducible first | exact HB.out | apply below_alloc | apply pw_below_drewN | apply below_drew1) | exact HB.out)))) : w.heap.size ≤ gq_); have HM12 := Aside0.mk hm; clear HO_6 HO_36 HB; have HO_6 := n0_; have HO_36 := n1_; have HB := n2_; clear n0_ n1_ n2_ hb hm hgq))
                        go_loopg [6, 13] k3 (fun kq v6 v13 w' => ∃ (x6_4 : List Int) (x12_4 : List (Int × Bool)) (x13_4 : Int), v13 = .int .i64 x13_4 ∧ Aside0 (impl_ProveSubset.l2 kq x6_4 x7_3 (rd_L1 t222 x38_3) x12_4 x13_4 t222 (t222.length : Int) x38_3 = some (r1, r2)) ∧ Aside0 (kq ≤ k3) ∧ Aside0 (Kd.R (Kd.int .i64) 3 w' w.heap.size (fun _ => True) v6 x6_4) ∧ Aside0 (Kd.N (Kd.slice 3 (Kd.int .i64)) 40 w' w.heap.size (fun k_ => some k_ ≠ (v6 : Value).ownBlock ∧ k_ ≠ gq_) (.slice (some ad225) t222.length co19) t222) ∧ Aside0 (Kd.V (Kd.int .i64) 3 w' w.heap.size (fun k_ => some k_ ≠ (v6 : Value).ownBlock ∧ k_ ≠ gq_) (.slice A225_0 ((rd_L1 t222 x38_3)).length c225_0) ((rd_L1 t222 x38_3))) ∧ Aside0 (MapW Tryd.prog 3 4 Lit.bool w' g7 x7_3) ∧ Aside0 (MapW Tryd.prog 3 4 Lit.bool w' gq_ x12_4) ∧ Aside0 (Below w.heap.size w w'))
                        case atStart => exact ⟨(x6_3), ([]), (0), (by first | rfl | (simp; done) | (simp [*]; done)), H', ⟨Nat.le_refl _⟩, ⟨by (with_reducible repeat (first | apply Kd.R_alloc | apply Kd.R_drewN | apply Kd.R_drew)); exact HO_6.out⟩, ⟨by (with_reducible repeat (first | apply Kd.N_alloc | apply Kd.N_drewN | apply Kd.N_drew)); exact HO_36.out⟩, ⟨by (with_reducible repeat (first | apply Kd.V_alloc | apply Kd.V_drewN | apply Kd.V_drew)); exact HL.out⟩, ⟨(by repeat (first | (with_reducible first | exact HM7.out | apply MapW.alloc | apply MapW.drewN | apply MapW.drew)))⟩, ⟨(by repeat (first | (with_reducible first | exact HM12.out | apply MapW.alloc | apply MapW.drewN | apply MapW.drew)))⟩, ⟨by repeat (first | (with_reducible first | exact HB.out | apply below_alloc | apply pw_below_drewN | apply below_drew1) | exact HB.out)⟩⟩
                        case round =>
                          clear H'
                          try clear c1
                          try clear c2
                          try clear p2
                          try clear q2
                          try clear hx2
                          try clear c4
                          try clear c5
                          try clear c6
                          try clear p6
                          try clear c9
                          try clear c12
                          try clear c12b0
                          try clear c13
                          try clear c13b0
                          try clear c14
                          try clear c14b0
                          try clear c20
                          try clear c20b0
                          try clear c21
                          try clear c21b0
                          try clear c22
                          try clear c22b0
                          try clear p22
                          try clear q22
                          try clear hx22
                          try clear hx220_0
                          try clear hx225_0
                          try clear p2
                          try clear p220
                          try clear p225
                          try clear p6
                          try clear q2
                          try clear q220
                          try clear q225
                          obtain ⟨x6_4, x12_4, x13_4, rfl, HA, HK4, HO_6, HO_36, HL, HM7, HM12, HB⟩ := hrel
                          cases gk with
                          | zero => exact absurd HA.out (by simp [impl_ProveSubset.l2])
                          | succ k4 =>
                            have H := HA.out
                            clear HA
                            simp only [impl_ProveSubset.l2] at H
                            by_cases c23 : x13_4 < ((rd_L1 t222 x38_3).length : Int)
                            · rw [if_pos c23] at H
                              have c23b0 : decide (x13_4 < ((rd_L1 t222 x38_3).length : Int)) = true := decide_eq_true c23
                              clear c23
                              by_cases c24 : (wrap64 (x13_4 + 1)) = ((rd_L1 t222 x38_3).length : Int)
                              · rw [if_pos c24] at H
                                have c24b0 : ((wrap64 (x13_4 + 1)) == ((rd_L1 t222 x38_3).length : Int)) = true := beq_iff_eq.mpr c24
                                have c24b1 : ((wrap64 (x13_4 + 1)) != ((rd_L1 t222 x38_3).length : Int)) = false := bne_eq_false_iff_eq.mpr c24
                                clear c24
                                replace H := Option.bind_eq_some_iff.mp H
                                obtain ⟨t226, A250, H⟩ := H
                                replace H : ((mapPut.f x12_4 (wrap64 (Int.tdiv x13_4 2)) t226).bind fun t227 => (impl_ProveSubset.l2 k4 x6_4 x7_3 (rd_L1 t222 x38_3) t227 (wrap64 (x13_4 + 2)) t222 (t222.length : Int) x38_3)) = some (r1, r2) := H
                                have A25 := Aside0.mk A250
                                clear A250
                                replace H := Option.bind_eq_some_iff.mp H
                                obtain ⟨t227, A260, H⟩ := H
                                replace H : (impl_ProveSubset.l2 k4 x6_4 x7_3 (rd_L1 t222 x38_3) t227 (wrap64 (x13_4 + 2)) t222 (t222.length : Int) x38_3) = some (r1, r2) := H
                                have A26 := Aside0.mk A260
                                clear A260
                                have H' := Aside0.mk H
                                clear H
                                go_wp2_with (first | ((with_reducible refine gate_lookup rfl ?_); refine look_eventB A25.out rfl _ _ 90 rfl rfl rfl Tryd.underlying3 Tryd.underlying90 Tryd.underlying4 (by kernel_rfl) (by repeat (first | (with_reducible first | exact HM7.out | apply MapW.alloc | apply MapW.drewN | apply MapW.drew))) ?_) | ((with_reducible refine gate_update rfl ?_); obtain ⟨hky, hln, hle⟩ := mapPut.open_ A26.out; refine update_event (k := 3) (e := 4) (enc := Lit.bool) (vv := t226) (L := x12_4) rfl _ _ _ 90 (Or.inl rfl) rfl rfl rfl Tryd.underlying3 Tryd.underlying90 (by repeat (first | (with_reducible first | exact HM12.out | apply MapW.alloc | apply MapW.drewN | apply MapW.drew))) hln hky (plainElem_bool Tryd.underlying4 t226) ?_; intro wm2 hm hg; rw [← hle] at hm; have HL := Aside0.mk (Kd.V_grown (ok := fun k_ => some k_ ≠ (u6 : Value).ownBlock ∧ k_ ≠ gq_) (by (with_reducible repeat (first | apply Kd.V_alloc | apply Kd.V_drewN | apply Kd.V_drew)); exact HL.out) hg (fun k_ hk_ e_ => hk_.2 (by injection e_))); have HM7 := Aside0.mk (MapW.kept (P := Tryd.prog) (k := 3) (e := 4) (enc := Lit.bool) (b := g7) (L := x7_3) (by repeat (first | (with_reducible first | exact HM7.out | apply MapW.alloc | apply MapW.drewN | apply MapW.drew))) hg (fun e_ => HNE.out (by injection e_))); have n0_ := Aside0.mk (MapW.row (by repeat (first | (with_reducible first | exact HM12.out | apply MapW.alloc | apply MapW.drewN | apply MapW.drew))) (by (with_reducible repeat (first | apply Kd.R_alloc | apply Kd.R_drewN | apply Kd.R_drew)); exact HO_6.out) hg); have n1_ := Aside0.mk (Kd.N_grown (ok := fun k_ => some k_ ≠ (u6 : Value).ownBlock ∧ k_ ≠ gq_) (by (with_reducible repeat (first | apply Kd.N_alloc | apply Kd.N_drewN | apply Kd.N_drew)); exact HO_36.out) hg (fun k_ hk_ e_ => hk_.2 (by injection e_))); have n2_ := Aside0.mk (Below.grown (by repeat (first | (with_reducible first | exact HB.out | apply below_alloc | apply pw_below_drewN | apply below_drew1) | exact HB.out)) hg (below_size (by repeat (first | (with_reducible first | exact HB.out | apply below_alloc | apply pw_below_drewN | apply below_drew1) | exact HB.out))) (fun _ e_ => by cases e_; exact GM12.out)); clear HO_6; clear HO_36; clear HB; have HO_6 := n0_; have HO_36 := n1_; have HB := n2_; clear n0_ n1_ n2_; have HM12 := Aside0.mk hm; clear hm hg hky hln hle))
                                go_roundg k4
                                case measure => have := HJ2.out; have := HK2.out; have := HK3.out; have := HK4.out; omega
                                case rel => exact ⟨(x6_4), (t227), (wrap64 (x13_4 + 2)), (by first | rfl | (simp; done) | (simp [*]; done)), H', ⟨by have := HJ2.out; have := HK2.out; have := HK3.out; have := HK4.out; omega⟩, ⟨by (with_reducible repeat (first | apply Kd.R_alloc | apply Kd.R_drewN | apply Kd.R_drew)); exact HO_6.out⟩, ⟨by (with_reducible repeat (first | apply Kd.N_alloc | apply Kd.N_drewN | apply Kd.N_drew)); exact HO_36.out⟩, ⟨by (with_reducible repeat (first | apply Kd.V_alloc | apply Kd.V_drewN | apply Kd.V_drew)); exact HL.out⟩, ⟨(by repeat (first | (with_reducible first | exact HM7.out | apply MapW.alloc | apply MapW.drewN | apply MapW.drew)))⟩, ⟨(by repeat (first | (with_reducible first | exact HM12.out | apply MapW.alloc | apply MapW.drewN | apply MapW.drew)))⟩, ⟨by repeat (first | (with_reducible first | exact HB.out | apply below_alloc | apply pw_below_drewN | apply below_drew1) | exact HB.out)⟩⟩
                              · rw [if_neg c24] at H
                                have c24b0 : ((wrap64 (x13_4 + 1)) == ((rd_L1 t222 x38_3).length : Int)) = false := beq_eq_false_iff_ne.mpr c24
                                have c24b1 : ((wrap64 (x13_4 + 1)) != ((rd_L1 t222 x38_3).length : Int)) = true := bne_iff_ne.mpr c24
                                have HC28 := Aside0.mk H
                                clear H
                                go_upto_region 19 with (fail)
                                go_cut [61] (fun v61 wc => ∃ (kq : Nat) (x61_27 : Bool), v61 = .bool x61_27 ∧ Aside0 (impl_ProveSubset.j4 kq x6_4 x7_3 (rd_L1 t222 x38_3) x12_4 x13_4 t222 (t222.length : Int) x38_3 x61_27 = some (r1, r2)) ∧ Aside0 (kq ≤ k4) ∧ Aside0 (Kd.R (Kd.int .i64) 3 wc w.heap.size (fun _ => True) u6 x6_4) ∧ Aside0 (Kd.N (Kd.slice 3 (Kd.int .i64)) 40 wc w.heap.size (fun k_ => some k_ ≠ (u6 : Value).ownBlock ∧ k_ ≠ gq_) (.slice (some ad225) t222.length co19) t222) ∧ Aside0 (Kd.V (Kd.int .i64) 3 wc w.heap.size (fun k_ => some k_ ≠ (u6 : Value).ownBlock ∧ k_ ≠ gq_) (.slice A225_0 ((rd_L1 t222 x38_3)).length c225_0) ((rd_L1 t222 x38_3))) ∧ Aside0 (MapW Tryd.prog 3 4 Lit.bool wc g7 x7_3) ∧ Aside0 (MapW Tryd.prog 3 4 Lit.bool wc gq_ x12_4) ∧ Aside0 (Below w.heap.size w wc))
                                case first =>
                                  have H := HC28.out
                                  clear HC28
                                  replace H := Option.bind_eq_some_iff.mp H
                                  obtain ⟨t228, A290, H⟩ := H
                                  replace H : (if t228 = true then ((mapHas.f x7_3 (wrap64 (x13_4 + 1))).bind fun t229 => (impl_ProveSubset.j4 k4 x6_4 x7_3 (rd_L1 t222 x38_3) x12_4 x13_4 t222 (t222.length : Int) x38_3 (!t229))) else (impl_ProveSubset.j4 k4 x6_4 x7_3 (rd_L1 t222 x38_3) x12_4 x13_4 t222 (t222.length : Int) x38_3 false)) = some (r1, r2) := H
                                  have A29 := Aside0.mk A290
                                  clear A290
                                  by_cases c30 : t228 = true
                                  · subst c30
                                    have H1 : ((mapHas.f x7_3 (wrap64 (x13_4 + 1))).bind fun t229 => (impl_ProveSubset.j4 k4 x6_4 x7_3 (rd_L1 t222 x38_3) x12_4 x13_4 t222 (t222.length : Int) x38_3 (!t229))) = some (r1, r2) := by rw [if_pos rfl] at H; exact H
                                    clear H
                                    have H := H1
                                    clear H1
                                    replace H := Option.bind_eq_some_iff.mp H
                                    obtain ⟨t229, A310, H⟩ := H
                                    replace H : (impl_ProveSubset.j4 k4 x6_4 x7_3 (rd_L1 t222 x38_3) x12_4 x13_4 t222 (t222.length : Int) x38_3 (!t229)) = some (r1, r2) := H
                                    have A31 := Aside0.mk A310
                                    clear A310
                                    have H' := Aside0.mk H
                                    clear H
                                    obtain ⟨hlk0, hlk1, hlk2⟩ := MapW.lookAll (k := 3) (e := 4) (t := 90) A31.out HM7.out Tryd.underlying3 Tryd.underlying90 Tryd.underlying4 (fun _ => by kernel_rfl)
                                    go_wp2_with (first | ((with_reducible refine gate_lookup rfl ?_); refine look_eventB A29.out rfl _ _ 90 rfl rfl rfl Tryd.underlying3 Tryd.underlying90 Tryd.underlying4 (by kernel_rfl) (by repeat (first | (with_reducible first | exact HM7.out | apply MapW.alloc | apply MapW.drewN | apply MapW.drew))) ?_) | (fail))
                                    go_meet
                                    case rel => exact ⟨_, (!t229), (by first | rfl | (simp; done) | (simp [*]; done)), H', ⟨by have := HJ2.out; have := HK2.out; have := HK3.out; have := HK4.out; first | omega | exact Nat.le_refl _⟩, ⟨by (with_reducible repeat (first | apply Kd.R_alloc | apply Kd.R_drewN | apply Kd.R_drew)); exact HO_6.out⟩, ⟨by (with_reducible repeat (first | apply Kd.N_alloc | apply Kd.N_drewN | apply Kd.N_drew)); exact HO_36.out⟩, ⟨by (with_reducible repeat (first | apply Kd.V_alloc | apply Kd.V_drewN | apply Kd.V_drew)); exact HL.out⟩, ⟨(by repeat (first | (with_reducible first | exact HM7.out | apply MapW.alloc | apply MapW.drewN | apply MapW.drew)))⟩, ⟨(by repeat (first | (with_reducible first | exact HM12.out | apply MapW.alloc | apply MapW.drewN | apply MapW.drew)))⟩, ⟨by repeat (first | (with_reducible first | exact HB.out | apply below_alloc | apply pw_below_drewN | apply below_drew1) | exact HB.out)⟩⟩
                                  · replace c30 := Bool.eq_false_iff.mpr c30
                                    subst c30
                                    have H1 : (impl_ProveSubset.j4 k4 x6_4 x7_3 (rd_L1 t222 x38_3) x12_4 x13_4 t222 (t222.length : Int) x38_3 false) = some (r1, r2) := by rw [if_neg (show ¬ (false = true) by decide)] at H; exact H
                                    clear H
                                    have H := H1
                                    clear H1
                                    have H' := Aside0.mk H
                                    clear H
                                    go_wp2_with (first | ((with_reducible refine gate_lookup rfl ?_); refine look_eventB A29.out rfl _ _ 90 rfl rfl rfl Tryd.underlying3 Tryd.underlying90 Tryd.underlying4 (by kernel_rfl) (by repeat (first | (with_reducible first | exact HM7.out | apply MapW.alloc | apply MapW.drewN | apply MapW.drew))) ?_))
                                    go_meet
                                    case rel => exact ⟨_, (false), (by first | rfl | (simp; done) | (simp [*]; done)), H', ⟨by have := HJ2.out; have := HK2.out; have := HK3.out; have := HK4.out; first | omega | exact Nat.le_refl _⟩, ⟨by (with_reducible repeat (first | apply Kd.R_alloc | apply Kd.R_drewN | apply Kd.R_drew)); exact HO_6.out⟩, ⟨by (with_reducible repeat (first | apply Kd.N_alloc | apply Kd.N_drewN | apply Kd.N_drew)); exact HO_36.out⟩, ⟨by (with_reducible repeat (first | apply Kd.V_alloc | apply Kd.V_drewN | apply Kd.V_drew)); exact HL.out⟩, ⟨(by repeat (first | (with_reducible first | exact HM7.out | apply MapW.alloc | apply MapW.drewN | apply MapW.drew)))⟩, ⟨(by repeat (first | (with_reducible first | exact HM12.out | apply MapW.alloc | apply MapW.drewN | apply MapW.drew)))⟩, ⟨by repeat (first | (with_reducible first | exact HB.out | apply below_alloc | apply pw_below_drewN | apply below_drew1) | exact HB.out)⟩⟩
                                case rest =>
                                  clear HC28
                                  try clear c1
                                  try clear c2
                                  try clear p2
                                  try clear q2
                                  try clear hx2
                                  try clear c3
                                  try clear c4
                                  try clear c5
                                  try clear c6
                                  try clear p6
                                  try clear c7
                                  try clear c9
                                  try clear c12
                                  try clear c12b0
                                  try clear c13
                                  try clear c13b0
                                  try clear c14
                                  try clear c14b0
                                  try clear c20
                                  try clear c20b0
                                  try clear c21
                                  try clear c21b0
                                  try clear c22
                                  try clear c22b0
                                  try clear p22
                                  try clear q22
                                  try clear hx22
                                  try clear c23
                                  try clear c23b0
                                  try clear c24
                                  try clear c24b0
                                  try clear c24b1
                                  try clear c30
                                  try clear hx220_0
                                  try clear hx225_0
                                  try clear p2
                                  try clear p22
                                  try clear p220
                                  try clear p225
                                  try clear p6
                                  try clear q2
                                  try clear q22
                                  try clear q220
                                  try clear q225
                                  obtain ⟨kq, x61_27, rfl, HA, HJ27, HO_6, HO_36, HL, HM7, HM12, HB⟩ := hcut
                                  cases kq with
                                  | zero => exact absurd HA.out (by simp [impl_ProveSubset.j4])
                                  | succ kj27 =>
                                    have H := HA.out
                                    clear HA
                                    simp only [impl_ProveSubset.j4] at H
                                    by_cases c32 : x61_27 = true
                                    · subst c32
                                      have H1 : (if 0 ≤ (wrap64 (x13_4 + 1)) then (if (wrap64 (x13_4 + 1)) < ((rd_L1 t222 x38_3).length : Int) then (if x6_4.length < 17592186044416 then ((some (x6_4 ++ [rd (rd_L1 t222 x38_3) (wrap64 (x13_4 + 1))] : List Int)).bind fun y231 => ((mapHas.f x7_3 x13_4).bind fun t234 => (if t234 = true then ((mapPut.f x12_4 (wrap64 (Int.tdiv x13_4 2)) true).bind fun t235 => (impl_ProveSubset.l2 kj27 y231 x7_3 (rd_L1 t222 x38_3) t235 (wrap64 (x13_4 + 2)) t222 (t222.length : Int) x38_3)) else ((mapHas.f x7_3 (wrap64 (x13_4 + 1))).bind fun t236 => ((mapPut.f x12_4 (wrap64 (Int.tdiv x13_4 2)) t236).bind fun t237 => (impl_ProveSubset.l2 kj27 y231 x7_3 (rd_L1 t222 x38_3) t237 (wrap64 (x13_4 + 2)) t222 (t222.length : Int) x38_3)))))) else (none)) else (none)) else (none)) = some (r1, r2) := by rw [if_pos rfl] at H; exact H
                                      clear H
                                      have H := H1
                                      clear H1
                                      obtain ⟨ji33, hji33⟩ : ∃ j_ : Int, (wrap64 (x13_4 + 1)) = j_ := ⟨_, rfl⟩
                                      replace H : (if 0 ≤ (ji33) then (if (ji33) < ((rd_L1 t222 x38_3).length : Int) then (if x6_4.length < 17592186044416 then ((some (x6_4 ++ [rd (rd_L1 t222 x38_3) (ji33)] : List Int)).bind fun y231 => ((mapHas.f x7_3 x13_4).bind fun t234 => (if t234 = true then ((mapPut.f x12_4 (wrap64 (Int.tdiv x13_4 2)) true).bind fun t235 => (impl_ProveSubset.l2 kj27 y231 x7_3 (rd_L1 t222 x38_3) t235 (wrap64 (x13_4 + 2)) t222 (t222.length : Int) x38_3)) else ((mapHas.f x7_3 (ji33)).bind fun t236 => ((mapPut.f x12_4 (wrap64 (Int.tdiv x13_4 2)) t236).bind fun t237 => (impl_ProveSubset.l2 kj27 y231 x7_3 (rd_L1 t222 x38_3) t237 (wrap64 (x13_4 + 2)) t222 (t222.length : Int) x38_3)))))) else (none)) else (none)) else (none)) = some (r1, r2) := by first | (rw [hji33] at H; exact H) | (simp only [hji33] at H ⊢; exact H)
                                      (try rw [hji33] at c24b0)
                                      (try rw [hji33] at c24b1)
                                      have hji33w : (IntKind.i64.wrap (x13_4 + 1)) = ji33 := (i64_w _).trans hji33
                                      by_cases c34 : 0 ≤ (ji33)
                                      · rw [if_pos c34] at H
                                        have c34b0 : decide (0 ≤ (ji33)) = true := decide_eq_true c34
                                        clear c34
                                        by_cases c35 : (ji33) < ((rd_L1 t222 x38_3).length : Int)
                                        · rw [if_pos c35] at H
                                          have c35b0 : decide ((ji33) < ((rd_L1 t222 x38_3).length : Int)) = true := decide_eq_true c35
                                          clear c35
                                          by_cases c36 : x6_4.length < 17592186044416
                                          · rw [if_pos c36] at H
                                            have LMc36 := Aside0.mk c36
                                            clear c36
                                            obtain ⟨y231, hy231⟩ : ∃ y_ : List Int, y_ = (x6_4 ++ [rd (rd_L1 t222 x38_3) (ji33)]) := ⟨_, rfl⟩
                                            replace H : ((mapHas.f x7_3 x13_4).bind fun t234 => (if t234 = true then ((mapPut.f x12_4 (wrap64 (Int.tdiv x13_4 2)) true).bind fun t235 => (impl_ProveSubset.l2 kj27 y231 x7_3 (rd_L1 t222 x38_3) t235 (wrap64 (x13_4 + 2)) t222 (t222.length : Int) x38_3)) else ((mapHas.f x7_3 (ji33)).bind fun t236 => ((mapPut.f x12_4 (wrap64 (Int.tdiv x13_4 2)) t236).bind fun t237 => (impl_ProveSubset.l2 kj27 y231 x7_3 (rd_L1 t222 x38_3) t237 (wrap64 (x13_4 + 2)) t222 (t222.length : Int) x38_3))))) = some (r1, r2) := by first | (rw [hy231]; with_reducible exact H) | (have H2_ := (Option.bind_some _ _).symm.trans H; rw [hy231]; with_reducible exact H2_) | (have H2_ := (Option.bind_some _ _).symm.trans H; with_reducible exact H2_) | with_reducible exact H | (rw [hy231]; exact H) | exact H
                                            have Ny231 := Aside0.mk hy231
                                            clear hy231
                                            replace H := Option.bind_eq_some_iff.mp H
                                            obtain ⟨t234, A370, H⟩ := H
                                            replace H : (if t234 = true then ((mapPut.f x12_4 (wrap64 (Int.tdiv x13_4 2)) true).bind fun t235 => (impl_ProveSubset.l2 kj27 y231 x7_3 (rd_L1 t222 x38_3) t235 (wrap64 (x13_4 + 2)) t222 (t222.length : Int) x38_3)) else ((mapHas.f x7_3 (ji33)).bind fun t236 => ((mapPut.f x12_4 (wrap64 (Int.tdiv x13_4 2)) t236).bind fun t237 => (impl_ProveSubset.l2 kj27 y231 x7_3 (rd_L1 t222 x38_3) t237 (wrap64 (x13_4 + 2)) t222 (t222.length : Int) x38_3)))) = some (r1, r2) := H
                                            have A37 := Aside0.mk A370
                                            clear A370
                                            by_cases c38 : t234 = true
                                            · subst c38
                                              have H1 : ((mapPut.f x12_4 (wrap64 (Int.tdiv x13_4 2)) true).bind fun t235 => (impl_ProveSubset.l2 kj27 y231 x7_3 (rd_L1 t222 x38_3) t235 (wrap64 (x13_4 + 2)) t222 (t222.length : Int) x38_3)) = some (r1, r2) := by rw [if_pos rfl] at H; exact H
                                              clear H
                                              have H := H1
                                              clear H1
                                              replace H := Option.bind_eq_some_iff.mp H
                                              obtain ⟨t235, A390, H⟩ := H
                                              replace H : (impl_ProveSubset.l2 kj27 y231 x7_3 (rd_L1 t222 x38_3) t235 (wrap64 (x13_4 + 2)) t222 (t222.length : Int) x38_3) = some (r1, r2) := H
                                              have A39 := Aside0.mk A390
                                              clear A390
                                              have H' := Aside0.mk H
                                              clear H
                                              have p230 : 0 ≤ ((ji33) : Int) := of_decide_eq_true (by first | (with_reducible assumption) | assumption)
                                              have q230 : (ji33) < ((rd_L1 t222 x38_3).length : Int) := of_decide_eq_true (by first | (with_reducible assumption) | assumption)
                                              obtain ⟨ad230, e230, hx230_0⟩ := Kd.at_int (Kd.V_reads' HL.out).2.2 (ji33) p230 q230
                                              cases e230
                                              replace p230 := eq_true p230
                                              replace q230 := eq_true q230
                                              go_wp2_with (first | ((with_reducible refine gate_builtin (b := .append) (xs := #[.tmp 72, .tmp 78]) rfl ?_); (try (refine gate_guard (by rfl) ?_; dsimp only)); at_builtin; refine Kd.R_append (Kd.int .i64) (w0 := w) w.heap.size rfl (.tmp 72) (.tmp 78) 40 3 (.int .i64 0) 8 rfl Tryd.underlying40 info3 rfl (by decide) (by omega) u6 x6_4 (rd (rd_L1 t222 x38_3) (ji33)) [.int .i64 (rd (rd_L1 t222 x38_3) (ji33))] (fun _ => True) (fun _ => False) rfl rfl ?aP (fun _ hk => hk.elim) ?aF ?aO ?aB ?aS ?aL ?_; (case aP => exact rfl); (case aB => exact (by repeat (first | (with_reducible first | exact HB.out | apply below_alloc | apply pw_below_drewN | apply below_drew1) | exact HB.out))); (case aF => exact (fun _ _ => trivial)); (case aO => exact (by (with_reducible repeat (first | apply Kd.R_alloc | apply Kd.R_drewN | apply Kd.R_drew)); exact HO_6.out)); (case aS => exact (below_size (by repeat (first | (with_reducible first | exact HB.out | apply below_alloc | apply pw_below_drewN | apply below_drew1) | exact HB.out)))); (case aL => have := LMc36.out; omega); intro v232 w40 ho hb hg hat; have HL := Aside0.mk (Kd.V_mono (ok' := fun k_ => some k_ ≠ (v232 : Value).ownBlock ∧ k_ ≠ gq_) (Kd.V_afterv (ok := (fun k_ => k_ ≠ gq_)) (by (with_reducible repeat (first | apply Kd.V_alloc | apply Kd.V_drewN | apply Kd.V_drew)); exact Kd.V_mono HL.out (fun _ hk => ⟨hk.2, hk.1⟩)) hg hat) (fun _ hk => ⟨hk.2, hk.1⟩)); have HM12 := Aside0.mk (MapW.kept (P := Tryd.prog) (k := 3) (e := 4) (enc := Lit.bool) (b := gq_) (L := x12_4) (by repeat (first | (with_reducible first | exact HM12.out | apply MapW.alloc | apply MapW.drewN | apply MapW.drew))) hg (MapW.ne_own HM12.out HO_6.out)); have HM7 := Aside0.mk (MapW.kept (P := Tryd.prog) (k := 3) (e := 4) (enc := Lit.bool) (b := g7) (L := x7_3) (by repeat (first | (with_reducible first | exact HM7.out | apply MapW.alloc | apply MapW.drewN | apply MapW.drew))) hg (MapW.ne_own HM7.out HO_6.out)); rw [← Ny231.out] at ho; have n0_ := Aside0.mk (Kd.N_mono (ok' := fun k_ => some k_ ≠ (v232 : Value).ownBlock ∧ k_ ≠ gq_) (Kd.N_afterv (ok := (fun k_ => k_ ≠ gq_)) (by (with_reducible repeat (first | apply Kd.N_alloc | apply Kd.N_drewN | apply Kd.N_drew)); exact Kd.N_mono HO_36.out (fun _ hk => ⟨hk.2, hk.1⟩)) hg hat) (fun _ hk => ⟨hk.2, hk.1⟩)); have n1_ := Aside0.mk (hb); have n2_ := Aside0.mk (ho); clear HO_36; clear HB; clear HO_6; have HO_36 := n0_; have HB := n1_; have HO233 := n2_; clear n0_ n1_ n2_; clear ho hb hg hat) | ((with_reducible refine gate_lookup rfl ?_); refine look_eventB A37.out rfl _ _ 90 rfl rfl rfl Tryd.underlying3 Tryd.underlying90 Tryd.underlying4 (by kernel_rfl) (by repeat (first | (with_reducible first | exact HM7.out | apply MapW.alloc | apply MapW.drewN | apply MapW.drew))) ?_) | ((with_reducible refine gate_update rfl ?_); obtain ⟨hky, hln, hle⟩ := mapPut.open_ A39.out; refine update_event (k := 3) (e := 4) (enc := Lit.bool) (vv := true) (L := x12_4) rfl _ _ _ 90 (Or.inl rfl) rfl rfl rfl Tryd.underlying3 Tryd.underlying90 (by repeat (first | (with_reducible first | exact HM12.out | apply MapW.alloc | apply MapW.drewN | apply MapW.drew))) hln hky (plainElem_bool Tryd.underlying4 true) ?_; intro wm2 hm hg; rw [← hle] at hm; have HL := Aside0.mk (Kd.V_grown (ok := fun k_ => some k_ ≠ (v232 : Value).ownBlock ∧ k_ ≠ gq_) (by (with_reducible repeat (first | apply Kd.V_alloc | apply Kd.V_drewN | apply Kd.V_drew)); exact HL.out) hg (fun k_ hk_ e_ => hk_.2 (by injection e_))); have HM7 := Aside0.mk (MapW.kept (P := Tryd.prog) (k := 3) (e := 4) (enc := Lit.bool) (b := g7) (L := x7_3) (by repeat (first | (with_reducible first | exact HM7.out | apply MapW.alloc | apply MapW.drewN | apply MapW.drew))) hg (fun e_ => HNE.out (by injection e_))); have n0_ := Aside0.mk (Kd.N_grown (ok := fun k_ => some k_ ≠ (v232 : Value).ownBlock ∧ k_ ≠ gq_) (by (with_reducible repeat (first | apply Kd.N_alloc | apply Kd.N_drewN | apply Kd.N_drew)); exact HO_36.out) hg (fun k_ hk_ e_ => hk_.2 (by injection e_))); have n1_ := Aside0.mk (MapW.row (by repeat (first | (with_reducible first | exact HM12.out | apply MapW.alloc | apply MapW.drewN | apply MapW.drew))) (by (with_reducible repeat (first | apply Kd.R_alloc | apply Kd.R_drewN | apply Kd.R_drew)); exact HO233.out) hg); have n2_ := Aside0.mk (Below.grown (by repeat (first | (with_reducible first | exact HB.out | apply below_alloc | apply pw_below_drewN | apply below_drew1) | exact HB.out)) hg (below_size (by repeat (first | (with_reducible first | exact HB.out | apply below_alloc | apply pw_below_drewN | apply below_drew1) | exact HB.out))) (fun _ e_ => by cases e_; exact GM12.out)); clear HO_36; clear HO233; clear HB; have HO_36 := n0_; have HO233 := n1_; have HB := n2_; clear n0_ n1_ n2_; have HM12 := Aside0.mk hm; clear hm hg hky hln hle))
                                              go_roundg kj27
                                              case measure => have := HJ2.out; have := HK2.out; have := HK3.out; have := HK4.out; have := HJ27.out; omega
                                              case rel => exact ⟨(y231), (t235), (wrap64 (x13_4 + 2)), (by first | rfl | (simp; done) | (simp [*]; done)), H', ⟨by have := HJ2.out; have := HK2.out; have := HK3.out; have := HK4.out; have := HJ27.out; omega⟩, ⟨by (with_reducible repeat (first | apply Kd.R_alloc | apply Kd.R_drewN | apply Kd.R_drew)); exact HO233.out⟩, ⟨by (with_reducible repeat (first | apply Kd.N_alloc | apply Kd.N_drewN | apply Kd.N_drew)); exact HO_36.out⟩, ⟨by (with_reducible repeat (first | apply Kd.V_alloc | apply Kd.V_drewN | apply Kd.V_drew)); exact HL.out⟩, ⟨(by repeat (first | (with_reducible first | exact HM7.out | apply MapW.alloc | apply MapW.drewN | apply MapW.drew)))⟩, ⟨(by repeat (first | (with_reducible first | exact HM12.out | apply MapW.alloc | apply MapW.drewN | apply MapW.drew)))⟩, ⟨by repeat (first | (with_reducible first | exact HB.out | apply below_alloc | apply pw_below_drewN | apply below_drew1) | exact HB.out)⟩⟩
                                            · replace c38 := Bool.eq_false_iff.mpr c38
                                              subst c38
                                              have H1 : ((mapHas.f x7_3 (ji33)).bind fun t236 => ((mapPut.f x12_4 (wrap64 (Int.tdiv x13_4 2)) t236).bind fun t237 => (impl_ProveSubset.l2 kj27 y231 x7_3 (rd_L1 t222 x38_3) t237 (wrap64 (x13_4 + 2)) t222 (t222.length : Int) x38_3))) = some (r1, r2) := by rw [if_neg (show ¬ (false = true) by decide)] at H; exact H
                                              clear H
                                              have H := H1
                                              clear H1
                                              replace H := Option.bind_eq_some_iff.mp H
                                              obtain ⟨t236, A420, H⟩ := H
                                              replace H : ((mapPut.f x12_4 (wrap64 (Int.tdiv x13_4 2)) t236).bind fun t237 => (impl_ProveSubset.l2 kj27 y231 x7_3 (rd_L1 t222 x38_3) t237 (wrap64 (x13_4 + 2)) t222 (t222.length : Int) x38_3)) = some (r1, r2) := H
                                              have A42 := Aside0.mk A420
                                              clear A420
                                              replace H := Option.bind_eq_some_iff.mp H
                                              obtain ⟨t237, A430, H⟩ := H
                                              replace H : (impl_ProveSubset.l2 kj27 y231 x7_3 (rd_L1 t222 x38_3) t237 (wrap64 (x13_4 + 2)) t222 (t222.length : Int) x38_3) = some (r1, r2) := H
                                              have A43 := Aside0.mk A430
                                              clear A430
                                              have H' := Aside0.mk H
                                              clear H
                                              have p230 : 0 ≤ ((ji33) : Int) := of_decide_eq_true (by first | (with_reducible assumption) | assumption)
                                              have q230 : (ji33) < ((rd_L1 t222 x38_3).length : Int) := of_decide_eq_true (by first | (with_reducible assumption) | assumption)
                                              obtain ⟨ad230, e230, hx230_0⟩ := Kd.at_int (Kd.V_reads' HL.out).2.2 (ji33) p230 q230
                                              cases e230
                                              replace p230 := eq_true p230
                                              replace q230 := eq_true q230
                                              go_wp2_with (first | ((with_reducible refine gate_builtin (b := .append) (xs := #[.tmp 72, .tmp 78]) rfl ?_); (try (refine gate_guard (by rfl) ?_; dsimp only)); at_builtin; refine Kd.R_append (Kd.int .i64) (w0 := w) w.heap.size rfl (.tmp 72) (.tmp 78) 40 3 (.int .i64 0) 8 rfl Tryd.underlying40 info3 rfl (by decide) (by omega) u6 x6_4 (rd (rd_L1 t222 x38_3) (ji33)) [.int .i64 (rd (rd_L1 t222 x38_3) (ji33))] (fun _ => True) (fun _ => False) rfl rfl ?aP (fun _ hk => hk.elim) ?aF ?aO ?aB ?aS ?aL ?_; (case aP => exact rfl); (case aB => exact (by repeat (first | (with_reducible first | exact HB.out | apply below_alloc | apply pw_below_drewN | apply below_drew1) | exact HB.out))); (case aF => exact (fun _ _ => trivial)); (case aO => exact (by (with_reducible repeat (first | apply Kd.R_alloc | apply Kd.R_drewN | apply Kd.R_drew)); exact HO_6.out)); (case aS => exact (below_size (by repeat (first | (with_reducible first | exact HB.out | apply below_alloc | apply pw_below_drewN | apply below_drew1) | exact HB.out)))); (case aL => have := LMc36.out; omega); intro v232 w44 ho hb hg hat; have HL := Aside0.mk (Kd.V_mono (ok' := fun k_ => some k_ ≠ (v232 : Value).ownBlock ∧ k_ ≠ gq_) (Kd.V_afterv (ok := (fun k_ => k_ ≠ gq_)) (by (with_reducible repeat (first | apply Kd.V_alloc | apply Kd.V_drewN | apply Kd.V_drew)); exact Kd.V_mono HL.out (fun _ hk => ⟨hk.2, hk.1⟩)) hg hat) (fun _ hk => ⟨hk.2, hk.1⟩)); have HM12 := Aside0.mk (MapW.kept (P := Tryd.prog) (k := 3) (e := 4) (enc := Lit.bool) (b := gq_) (L := x12_4) (by repeat (first | (with_reducible first | exact HM12.out | apply MapW.alloc | apply MapW.drewN | apply MapW.drew))) hg (MapW.ne_own HM12.out HO_6.out)); have HM7 := Aside0.mk (MapW.kept (P := Tryd.prog) (k := 3) (e := 4) (enc := Lit.bool) (b := g7) (L := x7_3) (by repeat (first | (with_reducible first | exact HM7.out | apply MapW.alloc | apply MapW.drewN | apply MapW.drew))) hg (MapW.ne_own HM7.out HO_6.out)); rw [← Ny231.out] at ho; have n0_ := Aside0.mk (Kd.N_mono (ok' := fun k_ => some k_ ≠ (v232 : Value).ownBlock ∧ k_ ≠ gq_) (Kd.N_afterv (ok := (fun k_ => k_ ≠ gq_)) (by (with_reducible repeat (first | apply Kd.N_alloc | apply Kd.N_drewN | apply Kd.N_drew)); exact Kd.N_mono HO_36.out (fun _ hk => ⟨hk.2, hk.1⟩)) hg hat) (fun _ hk => ⟨hk.2, hk.1⟩)); have n1_ := Aside0.mk (hb); have n2_ := Aside0.mk (ho); clear HO_36; clear HB; clear HO_6; have HO_36 := n0_; have HB := n1_; have HO233 := n2_; clear n0_ n1_ n2_; clear ho hb hg hat; obtain ⟨hlk0, hlk1, hlk2⟩ := MapW.lookAll (k := 3) (e := 4) (t := 90) A42.out HM7.out Tryd.underlying3 Tryd.underlying90 Tryd.underlying4 (fun _ => by kernel_rfl)) | ((with_reducible refine gate_lookup rfl ?_); refine look_eventB A37.out rfl _ _ 90 rfl rfl rfl Tryd.underlying3 Tryd.underlying90 Tryd.underlying4 (by kernel_rfl) (by repeat (first | (with_reducible first | exact HM7.out | apply MapW.alloc | apply MapW.drewN | apply MapW.drew))) ?_) | (fail) | ((with_reducible refine gate_update rfl ?_); obtain ⟨hky, hln, hle⟩ := mapPut.open_ A43.out; refine update_event (k := 3) (e := 4) (enc := Lit.bool) (vv := t236) (L := x12_4) rfl _ _ _ 90 (Or.inl rfl) rfl rfl rfl Tryd.underlying3 Tryd.underlying90 (by repeat (first | (with_reducible first | exact HM12.out | apply MapW.alloc | apply MapW.drewN | apply MapW.drew))) hln hky (plainElem_bool Tryd.underlying4 t236) ?_; intro wm2 hm hg; rw [← hle] at hm; have HL := Aside0.mk (Kd.V_grown (ok := fun k_ => some k_ ≠ (v232 : Value).ownBlock ∧ k_ ≠ gq_) (by (with_reducible repeat (first | apply Kd.V_alloc | apply Kd.V_drewN | apply Kd.V_drew)); exact HL.out) hg (fun k_ hk_ e_ => hk_.2 (by injection e_))); have HM7 := Aside0.mk (MapW.kept (P := Tryd.prog) (k := 3) (e := 4) (enc := Lit.bool) (b := g7) (L := x7_3) (by repeat (first | (with_reducible first | exact HM7.out | apply MapW.alloc | apply MapW.drewN | apply MapW.drew))) hg (fun e_ => HNE.out (by injection e_))); have n0_ := Aside0.mk (Kd.N_grown (ok := fun k_ => some k_ ≠ (v232 : Value).ownBlock ∧ k_ ≠ gq_) (by (with_reducible repeat (first | apply Kd.N_alloc | apply Kd.N_drewN | apply Kd.N_drew)); exact HO_36.out) hg (fun k_ hk_ e_ => hk_.2 (by injection e_))); have n1_ := Aside0.mk (MapW.row (by repeat (first | (with_reducible first | exact HM12.out | apply MapW.alloc | apply MapW.drewN | apply MapW.drew))) (by (with_reducible repeat (first | apply Kd.R_alloc | apply Kd.R_drewN | apply Kd.R_drew)); exact HO233.out) hg); have n2_ := Aside0.mk (Below.grown (by repeat (first | (with_reducible first | exact HB.out | apply below_alloc | apply pw_below_drewN | apply below_drew1) | exact HB.out)) hg (below_size (by repeat (first | (with_reducible first | exact HB.out | apply below_alloc | apply pw_below_drewN | apply below_drew1) | exact HB.out))) (fun _ e_ => by cases e_; exact GM12.out)); clear HO_36; clear HO233; clear HB; have HO_36 := n0_; have HO233 := n1_; have HB := n2_; clear n0_ n1_ n2_; have HM12 := Aside0.mk hm; clear hm hg hky hln hle))
                                              go_roundg kj27
                                              case measure => have := HJ2.out; have := HK2.out; have := HK3.out; have := HK4.out; have := HJ27.out; omega
                                              case rel => exact ⟨(y231), (t237), (wrap64 (x13_4 + 2)), (by first | rfl | (simp; done) | (simp [*]; done)), H', ⟨by have := HJ2.out; have := HK2.out; have := HK3.out; have := HK4.out; have := HJ27.out; omega⟩, ⟨by (with_reducible repeat (first | apply Kd.R_alloc | apply Kd.R_drewN | apply Kd.R_drew)); exact HO233.out⟩, ⟨by (with_reducible repeat (first | apply Kd.N_alloc | apply Kd.N_drewN | apply Kd.N_drew)); exact HO_36.out⟩, ⟨by (with_reducible repeat (first | apply Kd.V_alloc | apply Kd.V_drewN | apply Kd.V_drew)); exact HL.out⟩, ⟨(by repeat (first | (with_reducible first | exact HM7.out | apply MapW.alloc | apply MapW.drewN | apply MapW.drew)))⟩, ⟨(by repeat (first | (with_reducible first | exact HM12.out | apply MapW.alloc | apply MapW.drewN | apply MapW.drew)))⟩, ⟨by repeat (first | (with_reducible first | exact HB.out | apply below_alloc | apply pw_below_drewN | apply below_drew1) | exact HB.out)⟩⟩
                                          · rw [if_neg c36] at H
                                            exact absurd H (by simp)
                                        · rw [if_neg c35] at H
                                          exact absurd H (by simp)
                                      · rw [if_neg c34] at H
                                        exact absurd H (by simp)
                                    · replace c32 := Bool.eq_false_iff.mpr c32
                                      subst c32
                                      have H1 : ((mapHas.f x7_3 x13_4).bind fun t238 => (if t238 = true then (impl_ProveSubset.j5 kj27 x6_4 x7_3 (rd_L1 t222 x38_3) x12_4 x13_4 t222 (t222.length : Int) x38_3 false) else ((mapHas.f x7_3 (wrap64 (x13_4 + 1))).bind fun t239 => (impl_ProveSubset.j5 kj27 x6_4 x7_3 (rd_L1 t222 x38_3) x12_4 x13_4 t222 (t222.length : Int) x38_3 t239)))) = some (r1, r2) := by rw [if_neg (show ¬ (false = true) by decide)] at H; exact H
                                      clear H
                                      have H := H1
                                      clear H1
                                      have HC46 := Aside0.mk H
                                      clear H
                                      go_upto_region 21 with (fail)
                                      go_cut [80] (fun v80 wc => ∃ (kq : Nat) (x80_45 : Bool), v80 = .bool x80_45 ∧ Aside0 (impl_ProveSubset.j5 kq x6_4 x7_3 (rd_L1 t222 x38_3) x12_4 x13_4 t222 (t222.length : Int) x38_3 x80_45 = some (r1, r2)) ∧ Aside0 (kq ≤ kj27) ∧ Aside0 (Kd.R (Kd.int .i64) 3 wc w.heap.size (fun _ => True) u6 x6_4) ∧ Aside0 (Kd.N (Kd.slice 3 (Kd.int .i64)) 40 wc w.heap.size (fun k_ => some k_ ≠ (u6 : Value).ownBlock ∧ k_ ≠ gq_) (.slice (some ad225) t222.length co19) t222) ∧ Aside0 (Kd.V (Kd.int .i64) 3 wc w.heap.size (fun k_ => some k_ ≠ (u6 : Value).ownBlock ∧ k_ ≠ gq_) (.slice A225_0 ((rd_L1 t222 x38_3)).length c225_0) ((rd_L1 t222 x38_3))) ∧ Aside0 (MapW Tryd.prog 3 4 Lit.bool wc g7 x7_3) ∧ Aside0 (MapW Tryd.prog 3 4 Lit.bool wc gq_ x12_4) ∧ Aside0 (Below w.heap.size w wc))
                                      case first =>
                                        have H := HC46.out
                                        clear HC46
                                        replace H := Option.bind_eq_some_iff.mp H
                                        obtain ⟨t238, A470, H⟩ := H
                                        replace H : (if t238 = true then (impl_ProveSubset.j5 kj27 x6_4 x7_3 (rd_L1 t222 x38_3) x12_4 x13_4 t222 (t222.length : Int) x38_3 false) else ((mapHas.f x7_3 (wrap64 (x13_4 + 1))).bind fun t239 => (impl_ProveSubset.j5 kj27 x6_4 x7_3 (rd_L1 t222 x38_3) x12_4 x13_4 t222 (t222.length : Int) x38_3 t239))) = some (r1, r2) := H
                                        have A47 := Aside0.mk A470
                                        clear A470
                                        by_cases c48 : t238 = true
                                        · subst c48
                                          have H1 : (impl_ProveSubset.j5 kj27 x6_4 x7_3 (rd_L1 t222 x38_3) x12_4 x13_4 t222 (t222.length : Int) x38_3 false) = some (r1, r2) := by rw [if_pos rfl] at H; exact H
                                          clear H
                                          have H := H1
                                          clear H1
                                          have H' := Aside0.mk H
                                          clear H
                                          go_wp2_with (first | ((with_reducible refine gate_lookup rfl ?_); refine look_eventB A47.out rfl _ _ 90 rfl rfl rfl Tryd.underlying3 Tryd.underlying90 Tryd.underlying4 (by kernel_rfl) (by repeat (first | (with_reducible first | exact HM7.out | apply MapW.alloc | apply MapW.drewN | apply MapW.drew))) ?_))
                                          go_meet
                                          case rel => exact ⟨_, (false), (by first | rfl | (simp; done) | (simp [*]; done)), H', ⟨by have := HJ2.out; have := HK2.out; have := HK3.out; have := HK4.out; have := HJ27.out; first | omega | exact Nat.le_refl _⟩, ⟨by (with_reducible repeat (first | apply Kd.R_alloc | apply Kd.R_drewN | apply Kd.R_drew)); exact HO_6.out⟩, ⟨by (with_reducible repeat (first | apply Kd.N_alloc | apply Kd.N_drewN | apply Kd.N_drew)); exact HO_36.out⟩, ⟨by (with_reducible repeat (first | apply Kd.V_alloc | apply Kd.V_drewN | apply Kd.V_drew)); exact HL.out⟩, ⟨(by repeat (first | (with_reducible first | exact HM7.out | apply MapW.alloc | apply MapW.drewN | apply MapW.drew)))⟩, ⟨(by repeat (first | (with_reducible first | exact HM12.out | apply MapW.alloc | apply MapW.drewN | apply MapW.drew)))⟩, ⟨by repeat (first | (with_reducible first | exact HB.out | apply below_alloc | apply pw_below_drewN | apply below_drew1) | exact HB.out)⟩⟩
                                        · replace c48 := Bool.eq_false_iff.mpr c48
                                          subst c48
                                          have H1 : ((mapHas.f x7_3 (wrap64 (x13_4 + 1))).bind fun t239 => (impl_ProveSubset.j5 kj27 x6_4 x7_3 (rd_L1 t222 x38_3) x12_4 x13_4 t222 (t222.length : Int) x38_3 t239)) = some (r1, r2) := by rw [if_neg (show ¬ (false = true) by decide)] at H; exact H
                                          clear H
                                          have H := H1
                                          clear H1
                                          replace H := Option.bind_eq_some_iff.mp H
                                          obtain ⟨t239, A490, H⟩ := H
                                          replace H : (impl_ProveSubset.j5 kj27 x6_4 x7_3 (rd_L1 t222 x38_3) x12_4 x13_4 t222 (t222.length : Int) x38_3 t239) = some (r1, r2) := H
                                          have A49 := Aside0.mk A490
                                          clear A490
                                          have H' := Aside0.mk H
                                          clear H
                                          obtain ⟨hlk0, hlk1, hlk2⟩ := MapW.lookAll (k := 3) (e := 4) (t := 90) A49.out HM7.out Tryd.underlying3 Tryd.underlying90 Tryd.underlying4 (fun _ => by kernel_rfl)
                                          go_wp2_with (first | ((with_reducible refine gate_lookup rfl ?_); refine look_eventB A47.out rfl _ _ 90 rfl rfl rfl Tryd.underlying3 Tryd.underlying90 Tryd.underlying4 (by kernel_rfl) (by repeat (first | (with_reducible first | exact HM7.out | apply MapW.alloc | apply MapW.drewN | apply MapW.drew))) ?_) | (fail))
                                          go_meet
                                          case rel => exact ⟨_, (t239), (by first | rfl | (simp; done) | (simp [*]; done)), H', ⟨by have := HJ2.out; have := HK2.out; have := HK3.out; have := HK4.out; have := HJ27.out; first | omega | exact Nat.le_refl _⟩, ⟨by (with_reducible repeat (first | apply Kd.R_alloc | apply Kd.R_drewN | apply Kd.R_drew)); exact HO_6.out⟩, ⟨by (with_reducible repeat (first | apply Kd.N_alloc | apply Kd.N_drewN | apply Kd.N_drew)); exact HO_36.out⟩, ⟨by (with_reducible repeat (first | apply Kd.V_alloc | apply Kd.V_drewN | apply Kd.V_drew)); exact HL.out⟩, ⟨(by repeat (first | (with_reducible first | exact HM7.out | apply MapW.alloc | apply MapW.drewN | apply MapW.drew)))⟩, ⟨(by repeat (first | (with_reducible first | exact HM12.out | apply MapW.alloc | apply MapW.drewN | apply MapW.drew)))⟩, ⟨by repeat (first | (with_reducible first | exact HB.out | apply below_alloc | apply pw_below_drewN | apply below_drew1) | exact HB.out)⟩⟩
                                      case rest =>
                                        clear HC46
                                        try clear c1
                                        try clear c2
                                        try clear p2
                                        try clear q2
                                        try clear hx2
                                        try clear c3
                                        try clear c4
                                        try clear c5
                                        try clear c6
                                        try clear p6
                                        try clear c7
                                        try clear c9
                                        try clear c12
                                        try clear c12b0
                                        try clear c13
                                        try clear c13b0
                                        try clear c14
                                        try clear c14b0
                                        try clear c20
                                        try clear c20b0
                                        try clear c21
                                        try clear c21b0
                                        try clear c22
                                        try clear c22b0
                                        try clear p22
                                        try clear q22
                                        try clear hx22
                                        try clear c23
                                        try clear c23b0
                                        try clear p23
                                        try clear q23
                                        try clear hx23
                                        try clear c24
                                        try clear c24b0
                                        try clear c24b1
                                        try clear c30
                                        try clear c32
                                        try clear c34
                                        try clear c34b0
                                        try clear c35
                                        try clear c35b0
                                        try clear c36
                                        try clear c38
                                        try clear c44
                                        try clear c48
                                        try clear hx220_0
                                        try clear hx225_0
                                        try clear hx230_0
                                        try clear p2
                                        try clear p22
                                        try clear p220
                                        try clear p225
                                        try clear p230
                                        try clear p6
                                        try clear q2
                                        try clear q22
                                        try clear q220
                                        try clear q225
                                        try clear q230
                                        obtain ⟨kq, x80_45, rfl, HA, HJ45, HO_6, HO_36, HL, HM7, HM12, HB⟩ := hcut
                                        cases kq with
                                        | zero => exact absurd HA.out (by simp [impl_ProveSubset.j5])
                                        | succ kj45 =>
                                          have H := HA.out
                                          clear HA
                                          simp only [impl_ProveSubset.j5] at H
                                          by_cases c50 : x80_45 = true
                                          · subst c50
                                            have H1 : (if 0 ≤ x13_4 then (if x13_4 < ((rd_L1 t222 x38_3).length : Int) then (if x6_4.length < 17592186044416 then ((some (x6_4 ++ [rd (rd_L1 t222 x38_3) x13_4] : List Int)).bind fun y241 => ((mapHas.f x7_3 x13_4).bind fun t244 => (if t244 = true then ((mapPut.f x12_4 (wrap64 (Int.tdiv x13_4 2)) true).bind fun t245 => (impl_ProveSubset.l2 kj45 y241 x7_3 (rd_L1 t222 x38_3) t245 (wrap64 (x13_4 + 2)) t222 (t222.length : Int) x38_3)) else ((mapHas.f x7_3 (wrap64 (x13_4 + 1))).bind fun t246 => ((mapPut.f x12_4 (wrap64 (Int.tdiv x13_4 2)) t246).bind fun t247 => (impl_ProveSubset.l2 kj45 y241 x7_3 (rd_L1 t222 x38_3) t247 (wrap64 (x13_4 + 2)) t222 (t222.length : Int) x38_3)))))) else (none)) else (none)) else (none)) = some (r1, r2) := by rw [if_pos rfl] at H; exact H
                                            clear H
                                            have H := H1
                                            clear H1
                                            by_cases c51 : 0 ≤ x13_4
                                            · rw [if_pos c51] at H
                                              have c51b0 : decide (0 ≤ x13_4) = true := decide_eq_true c51
                                              clear c51
                                              by_cases c52 : x13_4 < ((rd_L1 t222 x38_3).length : Int)
                                              · rw [if_pos c52] at H
                                                have c52b0 : decide (x13_4 < ((rd_L1 t222 x38_3).length : Int)) = true := decide_eq_true c52
                                                clear c52
                                                by_cases c53 : x6_4.length < 17592186044416
                                                · rw [if_pos c53] at H
                                                  have LMc53 := Aside0.mk c53
                                                  clear c53
                                                  obtain ⟨y241, hy241⟩ : ∃ y_ : List Int, y_ = (x6_4 ++ [rd (rd_L1 t222 x38_3) x13_4]) := ⟨_, rfl⟩
                                                  replace H : ((mapHas.f x7_3 x13_4).bind fun t244 => (if t244 = true then ((mapPut.f x12_4 (wrap64 (Int.tdiv x13_4 2)) true).bind fun t245 => (impl_ProveSubset.l2 kj45 y241 x7_3 (rd_L1 t222 x38_3) t245 (wrap64 (x13_4 + 2)) t222 (t222.length : Int) x38_3)) else ((mapHas.f x7_3 (wrap64 (x13_4 + 1))).bind fun t246 => ((mapPut.f x12_4 (wrap64 (Int.tdiv x13_4 2)) t246).bind fun t247 => (impl_ProveSubset.l2 kj45 y241 x7_3 (rd_L1 t222 x38_3) t247 (wrap64 (x13_4 + 2)) t222 (t222.length : Int) x38_3))))) = some (r1, r2) := by first | (rw [hy241]; with_reducible exact H) | (have H2_ := (Option.bind_some _ _).symm.trans H; rw [hy241]; with_reducible exact H2_) | (have H2_ := (Option.bind_some _ _).symm.trans H; with_reducible exact H2_) | with_reducible exact H | (rw [hy241]; exact H) | exact H
                                                  have Ny241 := Aside0.mk hy241
                                                  clear hy241
                                                  replace H := Option.bind_eq_some_iff.mp H
                                                  obtain ⟨t244, A540, H⟩ := H
                                                  replace H : (if t244 = true then ((mapPut.f x12_4 (wrap64 (Int.tdiv x13_4 2)) true).bind fun t245 => (impl_ProveSubset.l2 kj45 y241 x7_3 (rd_L1 t222 x38_3) t245 (wrap64 (x13_4 + 2)) t222 (t222.length : Int) x38_3)) else ((mapHas.f x7_3 (wrap64 (x13_4 + 1))).bind fun t246 => ((mapPut.f x12_4 (wrap64 (Int.tdiv x13_4 2)) t246).bind fun t247 => (impl_ProveSubset.l2 kj45 y241 x7_3 (rd_L1 t222 x38_3) t247 (wrap64 (x13_4 + 2)) t222 (t222.length : Int) x38_3)))) = some (r1, r2) := H
                                                  have A54 := Aside0.mk A540
                                                  clear A540
                                                  by_cases c55 : t244 = true
                                                  · subst c55
                                                    have H1 : ((mapPut.f x12_4 (wrap64 (Int.tdiv x13_4 2)) true).bind fun t245 => (impl_ProveSubset.l2 kj45 y241 x7_3 (rd_L1 t222 x38_3) t245 (wrap64 (x13_4 + 2)) t222 (t222.length : Int) x38_3)) = some (r1, r2) := by rw [if_pos rfl] at H; exact H
                                                    clear H
                                                    have H := H1
                                                    clear H1
                                                    replace H := Option.bind_eq_some_iff.mp H
                                                    obtain ⟨t245, A560, H⟩ := H
                                                    replace H : (impl_ProveSubset.l2 kj45 y241 x7_3 (rd_L1 t222 x38_3) t245 (wrap64 (x13_4 + 2)) t222 (t222.length : Int) x38_3) = some (r1, r2) := H
                                                    have A56 := Aside0.mk A560
                                                    clear A560
                                                    have H' := Aside0.mk H
                                                    clear H
                                                    have p240 : 0 ≤ (x13_4 : Int) := of_decide_eq_true (by first | (with_reducible assumption) | assumption)
                                                    have q240 : x13_4 < ((rd_L1 t222 x38_3).length : Int) := of_decide_eq_true (by first | (with_reducible assumption) | assumption)
                                                    obtain ⟨ad240, e240, hx240_0⟩ := Kd.at_int (Kd.V_reads' HL.out).2.2 x13_4 p240 q240
                                                    cases e240
                                                    replace p240 := eq_true p240
                                                    replace q240 := eq_true q240
                                                    go_wp2_with (first | ((with_reducible refine gate_builtin (b := .append) (xs := #[.tmp 91, .tmp 96]) rfl ?_); (try (refine gate_guard (by rfl) ?_; dsimp only)); at_builtin; refine Kd.R_append (Kd.int .i64) (w0 := w) w.heap.size rfl (.tmp 91) (.tmp 96) 40 3 (.int .i64 0) 8 rfl Tryd.underlying40 info3 rfl (by decide) (by omega) u6 x6_4 (rd (rd_L1 t222 x38_3) x13_4) [.int .i64 (rd (rd_L1 t222 x38_3) x13_4)] (fun _ => True) (fun _ => False) rfl rfl ?aP (fun _ hk => hk.elim) ?aF ?aO ?aB ?aS ?aL ?_; (case aP => exact rfl); (case aB => exact (by repeat (first | (with_reducible first | exact HB.out | apply below_alloc | apply pw_below_drewN | apply below_drew1) | exact HB.out))); (case aF => exact (fun _ _ => trivial)); (case aO => exact (by (with_reducible repeat (first | apply Kd.R_alloc | apply Kd.R_drewN | apply Kd.R_drew)); exact HO_6.out)); (case aS => exact (below_size (by repeat (first | (with_reducible first | exact HB.out | apply below_alloc | apply pw_below_drewN | apply below_drew1) | exact HB.out)))); (case aL => have := LMc53.out; omega); intro v242 w57 ho hb hg hat; have HL := Aside0.mk (Kd.V_mono (ok' := fun k_ => some k_ ≠ (v242 : Value).ownBlock ∧ k_ ≠ gq_) (Kd.V_afterv (ok := (fun k_ => k_ ≠ gq_)) (by (with_reducible repeat (first | apply Kd.V_alloc | apply Kd.V_drewN | apply Kd.V_drew)); exact Kd.V_mono HL.out (fun _ hk => ⟨hk.2, hk.1⟩)) hg hat) (fun _ hk => ⟨hk.2, hk.1⟩)); have HM12 := Aside0.mk (MapW.kept (P := Tryd.prog) (k := 3) (e := 4) (enc := Lit.bool) (b := gq_) (L := x12_4) (by repeat (first | (with_reducible first | exact HM12.out | apply MapW.alloc | apply MapW.drewN | apply MapW.drew))) hg (MapW.ne_own HM12.out HO_6.out)); have HM7 := Aside0.mk (MapW.kept (P := Tryd.prog) (k := 3) (e := 4) (enc := Lit.bool) (b := g7) (L := x7_3) (by repeat (first | (with_reducible first | exact HM7.out | apply MapW.alloc | apply MapW.drewN | apply MapW.drew))) hg (MapW.ne_own HM7.out HO_6.out)); rw [← Ny241.out] at ho; have n0_ := Aside0.mk (Kd.N_mono (ok' := fun k_ => some k_ ≠ (v242 : Value).ownBlock ∧ k_ ≠ gq_) (Kd.N_afterv (ok := (fun k_ => k_ ≠ gq_)) (by (with_reducible repeat (first | apply Kd.N_alloc | apply Kd.N_drewN | apply Kd.N_drew)); exact Kd.N_mono HO_36.out (fun _ hk => ⟨hk.2, hk.1⟩)) hg hat) (fun _ hk => ⟨hk.2, hk.1⟩)); have n1_ := Aside0.mk (hb); have n2_ := Aside0.mk (ho); clear HO_36; clear HB; clear HO_6; have HO_36 := n0_; have HB := n1_; have HO243 := n2_; clear n0_ n1_ n2_; clear ho hb hg hat) | ((with_reducible refine gate_lookup rfl ?_); refine look_eventB A54.out rfl _ _ 90 rfl rfl rfl Tryd.underlying3 Tryd.underlying90 Tryd.underlying4 (by kernel_rfl) (by repeat (first | (with_reducible first | exact HM7.out | apply MapW.alloc | apply MapW.drewN | apply MapW.drew))) ?_) | ((with_reducible refine gate_update rfl ?_); obtain ⟨hky, hln, hle⟩ := mapPut.open_ A56.out; refine update_event (k := 3) (e := 4) (enc := Lit.bool) (vv := true) (L := x12_4) rfl _ _ _ 90 (Or.inl rfl) rfl rfl rfl Tryd.underlying3 Tryd.underlying90 (by repeat (first | (with_reducible first | exact HM12.out | apply MapW.alloc | apply MapW.drewN | apply MapW.drew))) hln hky (plainElem_bool Tryd.underlying4 true) ?_; intro wm2 hm hg; rw [← hle] at hm; have HL := Aside0.mk (Kd.V_grown (ok := fun k_ => some k_ ≠ (v242 : Value).ownBlock ∧ k_ ≠ gq_) (by (with_reducible repeat (first | apply Kd.V_alloc | apply Kd.V_drewN | apply Kd.V_drew)); exact HL.out) hg (fun k_ hk_ e_ => hk_.2 (by injection e_))); have HM7 := Aside0.mk (MapW.kept (P := Tryd.prog) (k := 3) (e := 4) (enc := Lit.bool) (b := g7) (L := x7_3) (by repeat (first | (with_reducible first | exact HM7.out | apply MapW.alloc | apply MapW.drewN | apply MapW.drew))) hg (fun e_ => HNE.out (by injection e_))); have n0_ := Aside0.mk (Kd.N_grown (ok := fun k_ => some k_ ≠ (v242 : Value).ownBlock ∧ k_ ≠ gq_) (by (with_reducible repeat (first | apply Kd.N_alloc | apply Kd.N_drewN | apply Kd.N_drew)); exact HO_36.out) hg (fun k_ hk_ e_ => hk_.2 (by injection e_))); have n1_ := Aside0.mk (MapW.row (by repeat (first | (with_reducible first | exact HM12.out | apply MapW.alloc | apply MapW.drewN | apply MapW.drew))) (by (with_reducible repeat (first | apply Kd.R_alloc | apply Kd.R_drewN | apply Kd.R_drew)); exact HO243.out) hg); have n2_ := Aside0.mk (Below.grown (by repeat (first | (with_reducible first | exact HB.out | apply below_alloc | apply pw_below_drewN | apply below_drew1) | exact HB.out)) hg (below_size (by repeat (first | (with_reducible first | exact HB.out | apply below_alloc | apply pw_below_drewN | apply below_drew1) | exact HB.out))) (fun _ e_ => by cases e_; exact GM12.out)); clear HO_36; clear HO243; clear HB; have HO_36 := n0_; have HO243 := n1_; have HB := n2_; clear n0_ n1_ n2_; have HM12 := Aside0.mk hm; clear hm hg hky hln hle))
                                                    go_roundg kj45
                                                    case measure => have := HJ2.out; have := HK2.out; have := HK3.out; have := HK4.out; have := HJ27.out; have := HJ45.out; omega
                                                    case rel => exact ⟨(y241), (t245), (wrap64 (x13_4 + 2)), (by first | rfl | (simp; done) | (simp [*]; done)), H', ⟨by have := HJ2.out; have := HK2.out; have := HK3.out; have := HK4.out; have := HJ27.out; have := HJ45.out; omega⟩, ⟨by (with_reducible repeat (first | apply Kd.R_alloc | apply Kd.R_drewN | apply Kd.R_drew)); exact HO243.out⟩, ⟨by (with_reducible repeat (first | apply Kd.N_alloc | apply Kd.N_drewN | apply Kd.N_drew)); exact HO_36.out⟩, ⟨by (with_reducible repeat (first | apply Kd.V_alloc | apply Kd.V_drewN | apply Kd.V_drew)); exact HL.out⟩, ⟨(by repeat (first | (with_reducible first | exact HM7.out | apply MapW.alloc | apply MapW.drewN | apply MapW.drew)))⟩, ⟨(by repeat (first | (with_reducible first | exact HM12.out | apply MapW.alloc | apply MapW.drewN | apply MapW.drew)))⟩, ⟨by repeat (first | (with_reducible first | exact HB.out | apply below_alloc | apply pw_below_drewN | apply below_drew1) | exact HB.out)⟩⟩
                                                  · replace c55 := Bool.eq_false_iff.mpr c55
                                                    subst c55
                                                    have H1 : ((mapHas.f x7_3 (wrap64 (x13_4 + 1))).bind fun t246 => ((mapPut.f x12_4 (wrap64 (Int.tdiv x13_4 2)) t246).bind fun t247 => (impl_ProveSubset.l2 kj45 y241 x7_3 (rd_L1 t222 x38_3) t247 (wrap64 (x13_4 + 2)) t222 (t222.length : Int) x38_3))) = some (r1, r2) := by rw [if_neg (show ¬ (false = true) by decide)] at H; exact H
                                                    clear H
                                                    have H := H1
                                                    clear H1
                                                    replace H := Option.bind_eq_some_iff.mp H
                                                    obtain ⟨t246, A590, H⟩ := H
                                                    replace H : ((mapPut.f x12_4 (wrap64 (Int.tdiv x13_4 2)) t246).bind fun t247 => (impl_ProveSubset.l2 kj45 y241 x7_3 (rd_L1 t222 x38_3) t247 (wrap64 (x13_4 + 2)) t222 (t222.length : Int) x38_3)) = some (r1, r2) := H
                                                    have A59 := Aside0.mk A590
                                                    clear A590
                                                    replace H := Option.bind_eq_some_iff.mp H
                                                    obtain ⟨t247, A600, H⟩ := H
                                                    replace H : (impl_ProveSubset.l2 kj45 y241 x7_3 (rd_L1 t222 x38_3) t247 (wrap64 (x13_4 + 2)) t222 (t222.length : Int) x38_3) = some (r1, r2) := H
                                                    have A60 := Aside0.mk A600
                                                    clear A600
                                                    have H' := Aside0.mk H
                                                    clear H
                                                    have p240 : 0 ≤ (x13_4 : Int) := of_decide_eq_true (by first | (with_reducible assumption) | assumption)
                                                    have q240 : x13_4 < ((rd_L1 t222 x38_3).length : Int) := of_decide_eq_true (by first | (with_reducible assumption) | assumption)
                                                    obtain ⟨ad240, e240, hx240_0⟩ := Kd.at_int (Kd.V_reads' HL.out).2.2 x13_4 p240 q240
                                                    cases e240
                                                    replace p240 := eq_true p240
                                                    replace q240 := eq_true q240
                                                    go_wp2_with (first | ((with_reducible refine gate_builtin (b := .append) (xs := #[.tmp 91, .tmp 96]) rfl ?_); (try (refine gate_guard (by rfl) ?_; dsimp only)); at_builtin; refine Kd.R_append (Kd.int .i64) (w0 := w) w.heap.size rfl (.tmp 91) (.tmp 96) 40 3 (.int .i64 0) 8 rfl Tryd.underlying40 info3 rfl (by decide) (by omega) u6 x6_4 (rd (rd_L1 t222 x38_3) x13_4) [.int .i64 (rd (rd_L1 t222 x38_3) x13_4)] (fun _ => True) (fun _ => False) rfl rfl ?aP (fun _ hk => hk.elim) ?aF ?aO ?aB ?aS ?aL ?_; (case aP => exact rfl); (case aB => exact (by repeat (first | (with_reducible first | exact HB.out | apply below_alloc | apply pw_below_drewN | apply below_drew1) | exact HB.out))); (case aF => exact (fun _ _ => trivial)); (case aO => exact (by (with_reducible repeat (first | apply Kd.R_alloc | apply Kd.R_drewN | apply Kd.R_drew)); exact HO_6.out)); (case aS => exact (below_size (by repeat (first | (with_reducible first | exact HB.out | apply below_alloc | apply pw_below_drewN | apply below_drew1) | exact HB.out)))); (case aL => have := LMc53.out; omega); intro v242 w61 ho hb hg hat; have HL := Aside0.mk (Kd.V_mono (ok' := fun k_ => some k_ ≠ (v242 : Value).ownBlock ∧ k_ ≠ gq_) (Kd.V_afterv (ok := (fun k_ => k_ ≠ gq_)) (by (with_reducible repeat (first | apply Kd.V_alloc | apply Kd.V_drewN | apply Kd.V_drew)); exact Kd.V_mono HL.out (fun _ hk => ⟨hk.2, hk.1⟩)) hg hat) (fun _ hk => ⟨hk.2, hk.1⟩)); have HM12 := Aside0.mk (MapW.kept (P := Tryd.prog) (k := 3) (e := 4) (enc := Lit.bool) (b := gq_) (L := x12_4) (by repeat (first | (with_reducible first | exact HM12.out | apply MapW.alloc | apply MapW.drewN | apply MapW.drew))) hg (MapW.ne_own HM12.out HO_6.out)); have HM7 := Aside0.mk (MapW.kept (P := Tryd.prog) (k := 3) (e := 4) (enc := Lit.bool) (b := g7) (L := x7_3) (by repeat (first | (with_reducible first | exact HM7.out | apply MapW.alloc | apply MapW.drewN | apply MapW.drew))) hg (MapW.ne_own HM7.out HO_6.out)); rw [← Ny241.out] at ho; have n0_ := Aside0.mk (Kd.N_mono (ok' := fun k_ => some k_ ≠ (v242 : Value).ownBlock ∧ k_ ≠ gq_) (Kd.N_afterv (ok := (fun k_ => k_ ≠ gq_)) (by (with_reducible repeat (first | apply Kd.N_alloc | apply Kd.N_drewN | apply Kd.N_drew)); exact Kd.N_mono HO_36.out (fun _ hk => ⟨hk.2, hk.1⟩)) hg hat) (fun _ hk => ⟨hk.2, hk.1⟩)); have n1_ := Aside0.mk (hb); have n2_ := Aside0.mk (ho); clear HO_36; clear HB; clear HO_6; have HO_36 := n0_; have HB := n1_; have HO243 := n2_; clear n0_ n1_ n2_; clear ho hb hg hat; obtain ⟨hlk0, hlk1, hlk2⟩ := MapW.lookAll (k := 3) (e := 4) (t := 90) A59.out HM7.out Tryd.underlying3 Tryd.underlying90 Tryd.underlying4 (fun _ => by kernel_rfl)) | ((with_reducible refine gate_lookup rfl ?_); refine look_eventB A54.out rfl _ _ 90 rfl rfl rfl Tryd.underlying3 Tryd.underlying90 Tryd.underlying4 (by kernel_rfl) (by repeat (first | (with_reducible first | exact HM7.out | apply MapW.alloc | apply MapW.drewN | apply MapW.drew))) ?_) | (fail) | ((with_reducible refine gate_update rfl ?_); obtain ⟨hky, hln, hle⟩ := mapPut.open_ A60.out; refine update_event (k := 3) (e := 4) (enc := Lit.bool) (vv := t246) (L := x12_4) rfl _ _ _ 90 (Or.inl rfl) rfl rfl rfl Tryd.underlying3 Tryd.underlying90 (by repeat (first | (with_reducible first | exact HM12.out | apply MapW.alloc | apply MapW.drewN | apply MapW.drew))) hln hky (plainElem_bool Tryd.underlying4 t246) ?_; intro wm2 hm hg; rw [← hle] at hm; have HL := Aside0.mk (Kd.V_grown (ok := fun k_ => some k_ ≠ (v242 : Value).ownBlock ∧ k_ ≠ gq_) (by (with_reducible repeat (first | apply Kd.V_alloc | apply Kd.V_drewN | apply Kd.V_drew)); exact HL.out) hg (fun k_ hk_ e_ => hk_.2 (by injection e_))); have HM7 := Aside0.mk (MapW.kept (P := Tryd.prog) (k := 3) (e := 4) (enc := Lit.bool) (b := g7) (L := x7_3) (by repeat (first | (with_reducible first | exact HM7.out | apply MapW.alloc | apply MapW.drewN | apply MapW.drew))) hg (fun e_ => HNE.out (by injection e_))); have n0_ := Aside0.mk (Kd.N_grown (ok := fun k_ => some k_ ≠ (v242 : Value).ownBlock ∧ k_ ≠ gq_) (by (with_reducible repeat (first | apply Kd.N_alloc | apply Kd.N_drewN | apply Kd.N_drew)); exact HO_36.out) hg (fun k_ hk_ e_ => hk_.2 (by injection e_))); have n1_ := Aside0.mk (MapW.row (by repeat (first | (with_reducible first | exact HM12.out | apply MapW.alloc | apply MapW.drewN | apply MapW.drew))) (by (with_reducible repeat (first | apply Kd.R_alloc | apply Kd.R_drewN | apply Kd.R_drew)); exact HO243.out) hg); have n2_ := Aside0.mk (Below.grown (by repeat (first | (with_reducible first | exact HB.out | apply below_alloc | apply pw_below_drewN | apply below_drew1) | exact HB.out)) hg (below_size (by repeat (first | (with_reducible first | exact HB.out | apply below_alloc | apply pw_below_drewN | apply below_drew1) | exact HB.out))) (fun _ e_ => by cases e_; exact GM12.out)); clear HO_36; clear HO243; clear HB; have HO_36 := n0_; have HO243 := n1_; have HB := n2_; clear n0_ n1_ n2_; have HM12 := Aside0.mk hm; clear hm hg hky hln hle))
                                                    go_roundg kj45
                                                    case measure => have := HJ2.out; have := HK2.out; have := HK3.out; have := HK4.out; have := HJ27.out; have := HJ45.out; omega
                                                    case rel => exact ⟨(y241), (t247), (wrap64 (x13_4 + 2)), (by first | rfl | (simp; done) | (simp [*]; done)), H', ⟨by have := HJ2.out; have := HK2.out; have := HK3.out; have := HK4.out; have := HJ27.out; have := HJ45.out; omega⟩, ⟨by (with_reducible repeat (first | apply Kd.R_alloc | apply Kd.R_drewN | apply Kd.R_drew)); exact HO243.out⟩, ⟨by (with_reducible repeat (first | apply Kd.N_alloc | apply Kd.N_drewN | apply Kd.N_drew)); exact HO_36.out⟩, ⟨by (with_reducible repeat (first | apply Kd.V_alloc | apply Kd.V_drewN | apply Kd.V_drew)); exact HL.out⟩, ⟨(by repeat (first | (with_reducible first | exact HM7.out | apply MapW.alloc | apply MapW.drewN | apply MapW.drew)))⟩, ⟨(by repeat (first | (with_reducible first | exact HM12.out | apply MapW.alloc | apply MapW.drewN | apply MapW.drew)))⟩, ⟨by repeat (first | (with_reducible first | exact HB.out | apply below_alloc | apply pw_below_drewN | apply below_drew1) | exact HB.out)⟩⟩
                                                · rw [if_neg c53] at H
                                                  exact absurd H (by simp)
                                              · rw [if_neg c52] at H
                                                exact absurd H (by simp)
                                            · rw [if_neg c51] at H
                                              exact absurd H (by simp)
                                          · replace c50 := Bool.eq_false_iff.mpr c50
                                            subst c50
                                            have H1 : ((mapHas.f x7_3 x13_4).bind fun t248 => (if t248 = true then ((mapPut.f x12_4 (wrap64 (Int.tdiv x13_4 2)) true).bind fun t249 => (impl_ProveSubset.l2 kj45 x6_4 x7_3 (rd_L1 t222 x38_3) t249 (wrap64 (x13_4 + 2)) t222 (t222.length : Int) x38_3)) else ((mapHas.f x7_3 (wrap64 (x13_4 + 1))).bind fun t250 => ((mapPut.f x12_4 (wrap64 (Int.tdiv x13_4 2)) t250).bind fun t251 => (impl_ProveSubset.l2 kj45 x6_4 x7_3 (rd_L1 t222 x38_3) t251 (wrap64 (x13_4 + 2)) t222 (t222.length : Int) x38_3))))) = some (r1, r2) := by rw [if_neg (show ¬ (false = true) by decide)] at H; exact H
                                            clear H
                                            have H := H1
                                            clear H1
                                            replace H := Option.bind_eq_some_iff.mp H
                                            obtain ⟨t248, A630, H⟩ := H
                                            replace H : (if t248 = true then ((mapPut.f x12_4 (wrap64 (Int.tdiv x13_4 2)) true).bind fun t249 => (impl_ProveSubset.l2 kj45 x6_4 x7_3 (rd_L1 t222 x38_3) t249 (wrap64 (x13_4 + 2)) t222 (t222.length : Int) x38_3)) else ((mapHas.f x7_3 (wrap64 (x13_4 + 1))).bind fun t250 => ((mapPut.f x12_4 (wrap64 (Int.tdiv x13_4 2)) t250).bind fun t251 => (impl_ProveSubset.l2 kj45 x6_4 x7_3 (rd_L1 t222 x38_3) t251 (wrap64 (x13_4 + 2)) t222 (t222.length : Int) x38_3)))) = some (r1, r2) := H
                                            have A63 := Aside0.mk A630
                                            clear A630
                                            by_cases c64 : t248 = true
                                            · subst c64
                                              have H1 : ((mapPut.f x12_4 (wrap64 (Int.tdiv x13_4 2)) true).bind fun t249 => (impl_ProveSubset.l2 kj45 x6_4 x7_3 (rd_L1 t222 x38_3) t249 (wrap64 (x13_4 + 2)) t222 (t222.length : Int) x38_3)) = some (r1, r2) := by rw [if_pos rfl] at H; exact H
                                              clear H
                                              have H := H1
                                              clear H1
                                              replace H := Option.bind_eq_some_iff.mp H
                                              obtain ⟨t249, A650, H⟩ := H
                                              replace H : (impl_ProveSubset.l2 kj45 x6_4 x7_3 (rd_L1 t222 x38_3) t249 (wrap64 (x13_4 + 2)) t222 (t222.length : Int) x38_3) = some (r1, r2) := H
                                              have A65 := Aside0.mk A650
                                              clear A650
                                              have H' := Aside0.mk H
                                              clear H
                                              go_wp2_with (first | ((with_reducible refine gate_lookup rfl ?_); refine look_eventB A63.out rfl _ _ 90 rfl rfl rfl Tryd.underlying3 Tryd.underlying90 Tryd.underlying4 (by kernel_rfl) (by repeat (first | (with_reducible first | exact HM7.out | apply MapW.alloc | apply MapW.drewN | apply MapW.drew))) ?_) | ((with_reducible refine gate_update rfl ?_); obtain ⟨hky, hln, hle⟩ := mapPut.open_ A65.out; refine update_event (k := 3) (e := 4) (enc := Lit.bool) (vv := true) (L := x12_4) rfl _ _ _ 90 (Or.inl rfl) rfl rfl rfl Tryd.underlying3 Tryd.underlying90 (by repeat (first | (with_reducible first | exact HM12.out | apply MapW.alloc | apply MapW.drewN | apply MapW.drew))) hln hky (plainElem_bool Tryd.underlying4 true) ?_; intro wm2 hm hg; rw [← hle] at hm; have HL := Aside0.mk (Kd.V_grown (ok := fun k_ => some k_ ≠ (u6 : Value).ownBlock ∧ k_ ≠ gq_) (by (with_reducible repeat (first | apply Kd.V_alloc | apply Kd.V_drewN | apply Kd.V_drew)); exact HL.out) hg (fun k_ hk_ e_ => hk_.2 (by injection e_))); have HM7 := Aside0.mk (MapW.kept (P := Tryd.prog) (k := 3) (e := 4) (enc := Lit.bool) (b := g7) (L := x7_3) (by repeat (first | (with_reducible first | exact HM7.out | apply MapW.alloc | apply MapW.drewN | apply MapW.drew))) hg (fun e_ => HNE.out (by injection e_))); have n0_ := Aside0.mk (MapW.row (by repeat (first | (with_reducible first | exact HM12.out | apply MapW.alloc | apply MapW.drewN | apply MapW.drew))) (by (with_reducible repeat (first | apply Kd.R_alloc | apply Kd.R_drewN | apply Kd.R_drew)); exact HO_6.out) hg); have n1_ := Aside0.mk (Kd.N_grown (ok := fun k_ => some k_ ≠ (u6 : Value).ownBlock ∧ k_ ≠ gq_) (by (with_reducible repeat (first | apply Kd.N_alloc | apply Kd.N_drewN | apply Kd.N_drew)); exact HO_36.out) hg (fun k_ hk_ e_ => hk_.2 (by injection e_))); have n2_ := Aside0.mk (Below.grown (by repeat (first | (with_reducible first | exact HB.out | apply below_alloc | apply pw_below_drewN | apply below_drew1) | exact HB.out)) hg (below_size (by repeat (first | (with_reducible first | exact HB.out | apply below_alloc | apply pw_below_drewN | apply below_drew1) | exact HB.out))) (fun _ e_ => by cases e_; exact GM12.out)); clear HO_6; clear HO_36; clear HB; have HO_6 := n0_; have HO_36 := n1_; have HB := n2_; clear n0_ n1_ n2_; have HM12 := Aside0.mk hm; clear hm hg hky hln hle))
                                              go_roundg kj45
                                              case measure => have := HJ2.out; have := HK2.out; have := HK3.out; have := HK4.out; have := HJ27.out; have := HJ45.out; omega
                                              case rel => exact ⟨(x6_4), (t249), (wrap64 (x13_4 + 2)), (by first | rfl | (simp; done) | (simp [*]; done)), H', ⟨by have := HJ2.out; have := HK2.out; have := HK3.out; have := HK4.out; have := HJ27.out; have := HJ45.out; omega⟩, ⟨by (with_reducible repeat (first | apply Kd.R_alloc | apply Kd.R_drewN | apply Kd.R_drew)); exact HO_6.out⟩, ⟨by (with_reducible repeat (first | apply Kd.N_alloc | apply Kd.N_drewN | apply Kd.N_drew)); exact HO_36.out⟩, ⟨by (with_reducible repeat (first | apply Kd.V_alloc | apply Kd.V_drewN | apply Kd.V_drew)); exact HL.out⟩, ⟨(by repeat (first | (with_reducible first | exact HM7.out | apply MapW.alloc | apply MapW.drewN | apply MapW.drew)))⟩, ⟨(by repeat (first | (with_reducible first | exact HM12.out | apply MapW.alloc | apply MapW.drewN | apply MapW.drew)))⟩, ⟨by repeat (first | (with_reducible first | exact HB.out | apply below_alloc | apply pw_below_drewN | apply below_drew1) | exact HB.out)⟩⟩
                                            · replace c64 := Bool.eq_false_iff.mpr c64
                                              subst c64
                                              have H1 : ((mapHas.f x7_3 (wrap64 (x13_4 + 1))).bind fun t250 => ((mapPut.f x12_4 (wrap64 (Int.tdiv x13_4 2)) t250).bind fun t251 => (impl_ProveSubset.l2 kj45 x6_4 x7_3 (rd_L1 t222 x38_3) t251 (wrap64 (x13_4 + 2)) t222 (t222.length : Int) x38_3))) = some (r1, r2) := by rw [if_neg (show ¬ (false = true) by decide)] at H; exact H
                                              clear H
                                              have H := H1
                                              clear H1
                                              replace H := Option.bind_eq_some_iff.mp H
                                              obtain ⟨t250, A670, H⟩ := H
                                              replace H : ((mapPut.f x12_4 (wrap64 (Int.tdiv x13_4 2)) t250).bind fun t251 => (impl_ProveSubset.l2 kj45 x6_4 x7_3 (rd_L1 t222 x38_3) t251 (wrap64 (x13_4 + 2)) t222 (t222.length : Int) x38_3)) = some (r1, r2) := H
                                              have A67 := Aside0.mk A670
                                              clear A670
                                              replace H := Option.bind_eq_some_iff.mp H
                                              obtain ⟨t251, A680, H⟩ := H
                                              replace H : (impl_ProveSubset.l2 kj45 x6_4 x7_3 (rd_L1 t222 x38_3) t251 (wrap64 (x13_4 + 2)) t222 (t222.length : Int) x38_3) = some (r1, r2) := H
                                              have A68 := Aside0.mk A680
                                              clear A680
                                              have H' := Aside0.mk H
                                              clear H
                                              obtain ⟨hlk0, hlk1, hlk2⟩ := MapW.lookAll (k := 3) (e := 4) (t := 90) A67.out HM7.out Tryd.underlying3 Tryd.underlying90 Tryd.underlying4 (fun _ => by kernel_rfl)
                                              go_wp2_with (first | ((with_reducible refine gate_lookup rfl ?_); refine look_eventB A63.out rfl _ _ 90 rfl rfl rfl Tryd.underlying3 Tryd.underlying90 Tryd.underlying4 (by kernel_rfl) (by repeat (first | (with_reducible first | exact HM7.out | apply MapW.alloc | apply MapW.drewN | apply MapW.drew))) ?_) | (fail) | ((with_reducible refine gate_update rfl ?_); obtain ⟨hky, hln, hle⟩ := mapPut.open_ A68.out; refine update_event (k := 3) (e := 4) (enc := Lit.bool) (vv := t250) (L := x12_4) rfl _ _ _ 90 (Or.inl rfl) rfl rfl rfl Tryd.underlying3 Tryd.underlying90 (by repeat (first | (with_reducible first | exact HM12.out | apply MapW.alloc | apply MapW.drewN | apply MapW.drew))) hln hky (plainElem_bool Tryd.underlying4 t250) ?_; intro wm2 hm hg; rw [← hle] at hm; have HL := Aside0.mk (Kd.V_grown (ok := fun k_ => some k_ ≠ (u6 : Value).ownBlock ∧ k_ ≠ gq_) (by (with_reducible repeat (first | apply Kd.V_alloc | apply Kd.V_drewN | apply Kd.V_drew)); exact HL.out) hg (fun k_ hk_ e_ => hk_.2 (by injection e_))); have HM7 := Aside0.mk (MapW.kept (P := Tryd.prog) (k := 3) (e := 4) (enc := Lit.bool) (b := g7) (L := x7_3) (by repeat (first | (with_reducible first | exact HM7.out | apply MapW.alloc | apply MapW.drewN | apply MapW.drew))) hg (fun e_ => HNE.out (by injection e_))); have n0_ := Aside0.mk (MapW.row (by repeat (first | (with_reducible first | exact HM12.out | apply MapW.alloc | apply MapW.drewN | apply MapW.drew))) (by (with_reducible repeat (first | apply Kd.R_alloc | apply Kd.R_drewN | apply Kd.R_drew)); exact HO_6.out) hg); have n1_ := Aside0.mk (Kd.N_grown (ok := fun k_ => some k_ ≠ (u6 : Value).ownBlock ∧ k_ ≠ gq_) (by (with_reducible repeat (first | apply Kd.N_alloc | apply Kd.N_drewN | apply Kd.N_drew)); exact HO_36.out) hg (fun k_ hk_ e_ => hk_.2 (by injection e_))); have n2_ := Aside0.mk (Below.grown (by repeat (first | (with_reducible first | exact HB.out | apply below_alloc | apply pw_below_drewN | apply below_drew1) | exact HB.out)) hg (below_size (by repeat (first | (with_reducible first | exact HB.out | apply below_alloc | apply pw_below_drewN | apply below_drew1) | exact HB.out))) (fun _ e_ => by cases e_; exact GM12.out)); clear HO_6; clear HO_36; clear HB; have HO_6 := n0_; have HO_36 := n1_; have HB := n2_; clear n0_ n1_ n2_; have HM12 := Aside0.mk hm; clear hm hg hky hln hle))
                                              go_roundg kj45
                                              case measure => have := HJ2.out; have := HK2.out; have := HK3.out; have := HK4.out; have := HJ27.out; have := HJ45.out; omega
                                              case rel => exact ⟨(x6_4), (t251), (wrap64 (x13_4 + 2)), (by first | rfl | (simp; done) | (simp [*]; done)), H', ⟨by have := HJ2.out; have := HK2.out; have := HK3.out; have := HK4.out; have := HJ27.out; have := HJ45.out; omega⟩, ⟨by (with_reducible repeat (first | apply Kd.R_alloc | apply Kd.R_drewN | apply Kd.R_drew)); exact HO_6.out⟩, ⟨by (with_reducible repeat (first | apply Kd.N_alloc | apply Kd.N_drewN | apply Kd.N_drew)); exact HO_36.out⟩, ⟨by (with_reducible repeat (first | apply Kd.V_alloc | apply Kd.V_drewN | apply Kd.V_drew)); exact HL.out⟩, ⟨(by repeat (first | (with_reducible first | exact HM7.out | apply MapW.alloc | apply MapW.drewN | apply MapW.drew)))⟩, ⟨(by repeat (first | (with_reducible first | exact HM12.out | apply MapW.alloc | apply MapW.drewN | apply MapW.drew)))⟩, ⟨by repeat (first | (with_reducible first | exact HB.out | apply below_alloc | apply pw_below_drewN | apply below_drew1) | exact HB.out)⟩⟩
                            · rw [if_neg c23] at H
                              have c23b0 : decide (x13_4 < ((rd_L1 t222 x38_3).length : Int)) = false := decide_eq_false c23
                              clear c23
                              have H' := Aside0.mk H
                              clear H
                              go_wp2
                              go_roundg k4
                              case measure => have := HJ2.out; have := HK2.out; have := HK3.out; have := HK4.out; omega
                              case rel => exact ⟨(x6_4), (x12_4), (wrap64 (x38_3 + 1)), gq_, (by first | rfl | (simp; done) | (simp [*]; done)), (by first | rfl | (simp; done) | (simp [*]; done)), H', ⟨by have := HJ2.out; have := HK2.out; have := HK3.out; have := HK4.out; omega⟩, ⟨by (with_reducible repeat (first | apply Kd.R_alloc | apply Kd.R_drewN | apply Kd.R_drew)); exact HO_6.out⟩, ⟨by (with_reducible repeat (first | apply Kd.N_alloc | apply Kd.N_drewN | apply Kd.N_drew)); exact Kd.N_mono HO_36.out (fun _ hk => hk.1)⟩, ⟨(by repeat (first | (with_reducible first | exact HM12.out | apply MapW.alloc | apply MapW.drewN | apply MapW.drew)))⟩, GM12, ⟨by repeat (first | (with_reducible first | exact HB.out | apply below_alloc | apply pw_below_drewN | apply below_drew1) | exact HB.out)⟩⟩
                      · rw [if_neg c22] at H
                        exact absurd H (by simp)
                    · rw [if_neg c21] at H
                      exact absurd H (by simp)
                  · rw [if_neg c20] at H
                    have c20b0 : decide (x38_3 < (t222.length : Int)) = false := decide_eq_false c20
                    clear c20
                    simp only [Option.some.injEq, Prod.mk.injEq] at H
                    obtain ⟨rfl, rfl⟩ := H
                    go_wp2
                    go_ret2
                    exact ⟨_, by first | rfl | (simp [errW_none, errW_some] <;> rfl) | (simp [*, errW_none, errW_some] <;> rfl), by (with_reducible repeat (first | apply Kd.R_alloc | apply Kd.R_drewN | apply Kd.R_drew)); exact HO_6.out, by repeat (first | (with_reducible first | exact HB.out | apply below_alloc | apply pw_below_drewN | apply below_drew1) | exact HB.out)⟩

end Go.Proofs.YtnfmlglhoboooaaDoor.XFnExactProveSubset

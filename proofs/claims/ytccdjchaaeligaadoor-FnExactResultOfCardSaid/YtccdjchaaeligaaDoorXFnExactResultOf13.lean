-- Printed by wip/tools/xprint.py, a program of this session, over the kit's print; Lean checks it.
import Derived.Test.YtccdjchaaeligaaDoorXFnExactResultOf1
import Derived.Test.YtccdjchaaeligaaDoorXFnExactResultOf0
import Derived.Test.YtccdjchaaeligaaDoorXFnExactResultOf9
import Derived.Test.YtccdjchaaeligaaDoorXFnExactResultOf12
namespace Go.Proofs.YtccdjchaaeligaaDoor.XFnExactResultOf
open Go.Proofs.YtccdjchaaeligaaDoor.Short Go.RowKit Go.Proofs.YtccdjchaaeligaaDoorW.PrintWords Go.Proofs.YtccdjchaaeligaaDoorW.PrintLast Go.Proofs.YtccdjchaaeligaaDoorW.PrintMore
attribute [local go_sem] max2_int min2_int max_two min_two max_three min_three max_four min_four   -- for this text's walks alone
set_option linter.unusedVariables false
set_option linter.unusedSimpArgs false
theorem ZZ6567dc {p : Prop} (h : p := by (with_reducible repeat (first | refine blk_drewN ?_ _ | refine blk_drew ?_ | refine blk_alloc ?_ _)); exact BK274.out) : p := h
theorem ZZ323b16 {p : Prop} (h : p := by repeat (first | (with_reducible first | exact HB.out | apply below_alloc | apply pw_below_drewN | apply below_drew1 | refine below_set ?_ GE274.out) | exact HB.out)) : p := h
/-! ### impl_isResult: function 72 -/
def impl_isResult.f (a0_0 : ByteArray) (a0_1 : Int) : Option (Bool) := if a0_1 = 4 then (some true) else (some (a0_1 == 5))
set_option maxHeartbeats 8000000 in
set_option maxRecDepth 100000 in
theorem impl_isResult.calls (a0_0 : ByteArray) (a0_1 : Int) (r : Bool) (w : World) (h : impl_isResult.f a0_0 a0_1 = some r) :
 Calls Tryd.prog 72 #[.agg #[.string a0_0, .int .i64 a0_1]] w fun e w' => e = .returned (.bool r) ∧ Below w.heap.size w w' := by
 have hu48 := Tryd.underlying48
 have HB := Aside0.mk (Below.refl w.heap.size w)
 have H : (if a0_1 = 4 then (some true) else (some (a0_1 == 5))) = some r := h
 clear h
 by_cases c2 : a0_1 = 4
 ·rw [if_pos c2] at H
  have c2b0 : (a0_1 == 4) = true := beq_iff_eq.mpr c2
  have c2b1 : (a0_1 != 4) = false := bne_eq_false_iff_eq.mpr c2
  clear c2
  obtain rfl := Option.some.inj H
  go_enter Tryd.func72, Tryd.ntmps72
  go_wp2_with (first | ((with_reducible refine gate_dst (N := 1) rfl ?_); refine box_event ?hg (N := 1) ?hd (cs := #[.string a0_0, .int .i64 a0_1]) (t := 48) ?hr ?_; (case hd => rfl); (case hg => rfl); (case hr => first | (go_simp; done) | (go_simp; rfl)); intro gb272 hg w3 hbox hb; have n0_ := Aside0.mk (below_step ZZ605003 hb); have n1_ := Aside0.mk (hbox); have n2_ := Aside0.mk ((by rw [hg]; exact (below_size ZZ605003) : w.heap.size ≤ gb272)); have n3_ := Aside0.mk ((by rw [hg]; exact (below_size ZZ605003) : w.heap.size ≤ gb272)); clear HB; have HB := n0_; have BK272 := n1_; have GW272 := n2_; have GE272 := n3_; clear n0_ n1_ n2_ n3_; clear hb hbox hg; have hcz4_0 : w3.cell? ⟨gb272, 0, none⟩ = some (.string a0_0) := (blk_cell BK272.out 0).trans rfl; have hcz4_1 : w3.cell? ⟨gb272, 1, none⟩ = some (.int .i64 a0_1) := (blk_cell BK272.out 1).trans rfl; have hfz4_0 := blk_frozen BK272.out 0; have hfz4_1 := blk_frozen BK272.out 1))
  go_ret
  exact ⟨by first | rfl | (simp [errW_none, errW_some] <;> rfl) | (simp [*, errW_none, errW_some] <;> rfl), by repeat (first | (with_reducible first | exact HB.out | apply below_alloc | apply pw_below_drewN | apply below_drew1 | refine below_set ?_ GE272.out) | exact HB.out)⟩
 ·rw [if_neg c2] at H
  have c2b0 : (a0_1 == 4) = false := beq_eq_false_iff_ne.mpr c2
  have c2b1 : (a0_1 != 4) = true := bne_iff_ne.mpr c2
  obtain rfl := Option.some.inj H
  go_enter Tryd.func72, Tryd.ntmps72
  go_wp2_with (first | ((with_reducible refine gate_dst (N := 1) rfl ?_); refine box_event ?hg (N := 1) ?hd (cs := #[.string a0_0, .int .i64 a0_1]) (t := 48) ?hr ?_; (case hd => rfl); (case hg => rfl); (case hr => first | (go_simp; done) | (go_simp; rfl)); intro gb272 hg w5 hbox hb; have n0_ := Aside0.mk (below_step ZZ605003 hb); have n1_ := Aside0.mk (hbox); have n2_ := Aside0.mk ((by rw [hg]; exact (below_size ZZ605003) : w.heap.size ≤ gb272)); have n3_ := Aside0.mk ((by rw [hg]; exact (below_size ZZ605003) : w.heap.size ≤ gb272)); clear HB; have HB := n0_; have BK272 := n1_; have GW272 := n2_; have GE272 := n3_; clear n0_ n1_ n2_ n3_; clear hb hbox hg; have hcz6_0 : w5.cell? ⟨gb272, 0, none⟩ = some (.string a0_0) := (blk_cell BK272.out 0).trans rfl; have hcz6_1 : w5.cell? ⟨gb272, 1, none⟩ = some (.int .i64 a0_1) := (blk_cell BK272.out 1).trans rfl; have hfz6_0 := blk_frozen BK272.out 0; have hfz6_1 := blk_frozen BK272.out 1))
  go_ret
  exact ⟨by first | rfl | (simp [errW_none, errW_some] <;> rfl) | (simp [*, errW_none, errW_some] <;> rfl), by repeat (first | (with_reducible first | exact HB.out | apply below_alloc | apply pw_below_drewN | apply below_drew1 | refine below_set ?_ GE272.out) | exact HB.out)⟩
/-! ### impl_amountOr: function 73 -/
def impl_amountOr.f (a0 : Int) : Option (Int × Bool) := (impl_isAmount.f a0).bind fun t273 => (if t273 = true then (some (a0, true)) else (some (0, false)))
set_option maxHeartbeats 8000000 in
set_option maxRecDepth 100000 in
theorem impl_amountOr.calls (a0 : Int) (r1 : Int) (r2 : Bool) (w : World) (h : impl_amountOr.f a0 = some (r1, r2)) :
 Calls Tryd.prog 73 #[.int .i64 a0] w fun e w' => e = .returned (.tuple #[.int .i64 r1, .bool r2]) ∧ Drawn0 w w' := by
 have H : ((impl_isAmount.f a0).bind fun t273 => (if t273 = true then (some (a0, true)) else (some (0, false)))) = some (r1, r2) := h
 clear h
 replace H := Option.bind_eq_some_iff.mp H
 obtain ⟨t273, A20, H⟩ := H
 replace H : (if t273 = true then (some (a0, true)) else (some (0, false))) = some (r1, r2) := H
 have A2 := Aside0.mk A20
 clear A20
 by_cases c3 : t273 = true
 ·subst c3
  have H1 : (some (a0, true)) = some (r1, r2) := by rw [if_pos rfl] at H; exact H
  clear H
  have H := H1
  clear H1
  simp only [Option.some.injEq, Prod.mk.injEq] at H
  obtain ⟨rfl, rfl⟩ := H
  go_enter Tryd.func73, Tryd.ntmps73
  go_wp2_with (first | ((with_reducible refine gate_callee (f := 62) rfl ?_); refine goesL_ (some 5) rfl rfl Tryd.func62 (by kernel_rfl) rfl #[.int .i64 a0] rfl ZZ19826e ?_; (with_reducible refine (impl_isAmount.calls a0 true _ A2.out).mono ?_); rintro e w' ⟨rfl, ⟨nd, rfl⟩⟩; refine ⟨_, rfl, ?_⟩))
  go_ret2
  exact ⟨by first | rfl | (simp; done) | (simp [*]; done), by repeat (first | exact Drawn0.refl _ | apply Drawn0.step)⟩
 ·replace c3 := Bool.eq_false_iff.mpr c3
  subst c3
  have H1 : (some (0, false)) = some (r1, r2) := by rw [if_neg (show ¬ (false = true) by decide)] at H; exact H
  clear H
  have H := H1
  clear H1
  simp only [Option.some.injEq, Prod.mk.injEq] at H
  obtain ⟨rfl, rfl⟩ := H
  go_enter Tryd.func73, Tryd.ntmps73
  go_wp2_with (first | ((with_reducible refine gate_callee (f := 62) rfl ?_); refine goesL_ (some 5) rfl rfl Tryd.func62 (by kernel_rfl) rfl #[.int .i64 a0] rfl ZZ19826e ?_; (with_reducible refine (impl_isAmount.calls a0 false _ A2.out).mono ?_); rintro e w' ⟨rfl, ⟨nd, rfl⟩⟩; refine ⟨_, rfl, ?_⟩))
  go_ret2
  exact ⟨by first | rfl | (simp; done) | (simp [*]; done), by repeat (first | exact Drawn0.refl _ | apply Drawn0.step)⟩
/-! ### impl_ResultOf: function 22 -/
mutual
def impl_ResultOf.j0 : Nat → Int → Int → Bool → List (S48) → List (S63) → Option (Int × Bool)
 | 0, _, _, _, _, _ => none
 | k + 1, x1, x2, x25, x275000, x275001 => if x25 = true then (some (0, false)) else (impl_ResultOf.l0 k x1 x2 0 x275001 (x275001.length : Int) 0 x275000 x275001)
def impl_ResultOf.l0 : Nat → Int → Int → Int → List (S63) → Int → Int → List (S48) → List (S63) → Option (Int × Bool)
 | 0, _, _, _, _, _, _, _, _ => none
 | k + 1, x1, x2, x8, x27, x28, x29, x275000, x275001 => if x29 < x28 then (if 0 ≤ x29 then (if x29 < (x27.length : Int) then (impl_ResultOf.l1 k x1 x2 x8 x27 x28 x29 ((rd_T63 x27 x29).f2) (((rd_T63 x27 x29).f2).length : Int) 0 x275000 x275001 ((rd_T63 x27 x29).f0) ((rd_T63 x27 x29).f1) ((rd_T63 x27 x29).f2)) else (none)) else (none)) else ((impl_amountOr.f x8).bind fun bt278 => (some (bt278.1, bt278.2)))
def impl_ResultOf.l1 : Nat → Int → Int → Int → List (S63) → Int → Int → List (S70) → Int → Int → List (S48) → List (S63) → Int → ByteArray → List (S70) → Option (Int × Bool)
 | 0, _, _, _, _, _, _, _, _, _, _, _, _, _, _ => none
 | k + 1, x1, x2, x8, x27, x28, x29, x34, x35, x36, x275000, x275001, x282000, x282001, x282002 => if x36 < x35 then (if 0 ≤ x36 then (if x36 < (x34.length : Int) then ((impl_within.f x282000 x1 x2).bind fun t284 => (if t284 = true then (if x282001.toList = ([99, 108, 111, 115, 105, 110, 103] : List UInt8) then (impl_ResultOf.j3 k x1 x2 x8 x27 x28 x29 x34 x35 x36 false x275000 x275001 x282000 x282001 x282002 ((rd_T70 x34 x36).f0) ((rd_T70 x34 x36).f1)) else (if 0 ≤ ((rd_T70 x34 x36).f0) then (if ((rd_T70 x34 x36).f0) < (x275000.length : Int) then ((impl_isResult.f ((rd_T48 x275000 ((rd_T70 x34 x36).f0)).f0) ((rd_T48 x275000 ((rd_T70 x34 x36).f0)).f1)).bind fun t286 => (impl_ResultOf.j3 k x1 x2 x8 x27 x28 x29 x34 x35 x36 t286 x275000 x275001 x282000 x282001 x282002 ((rd_T70 x34 x36).f0) ((rd_T70 x34 x36).f1))) else (none)) else (none))) else (impl_ResultOf.j3 k x1 x2 x8 x27 x28 x29 x34 x35 x36 false x275000 x275001 x282000 x282001 x282002 ((rd_T70 x34 x36).f0) ((rd_T70 x34 x36).f1)))) else (none)) else (none)) else (impl_ResultOf.l0 k x1 x2 x8 x27 x28 (wrap64 (x29 + 1)) x275000 x275001)
def impl_ResultOf.j3 : Nat → Int → Int → Int → List (S63) → Int → Int → List (S70) → Int → Int → Bool → List (S48) → List (S63) → Int → ByteArray → List (S70) → Int → Int → Option (Int × Bool)
 | 0, _, _, _, _, _, _, _, _, _, _, _, _, _, _, _, _, _ => none
 | k + 1, x1, x2, x8, x27, x28, x29, x34, x35, x36, x58, x275000, x275001, x282000, x282001, x282002, x284000, x284001 => if x58 = true then (impl_ResultOf.l1 k x1 x2 (wrap64 (x8 - x284001)) x27 x28 x29 x34 x35 (wrap64 (x36 + 1)) x275000 x275001 x282000 x282001 x282002) else (impl_ResultOf.l1 k x1 x2 x8 x27 x28 x29 x34 x35 (wrap64 (x36 + 1)) x275000 x275001 x282000 x282001 x282002)
end
def impl_ResultOf.f (k : Nat) (l0_0 : List (S48)) (l0_1 : List (S63)) (a1 : Int) (a2 : Int) : Option (Int × Bool) := (impl_IsValidLedger.f k l0_0 l0_1).bind fun t275 => (if t275 = true then ((impl_isDay.f a1).bind fun t276 => (if t276 = true then ((impl_isDay.f a2).bind fun t277 => (impl_ResultOf.j0 k a1 a2 (!t277) l0_0 l0_1)) else (impl_ResultOf.j0 k a1 a2 true l0_0 l0_1))) else (impl_ResultOf.j0 k a1 a2 true l0_0 l0_1))
theorem impl_ResultOf.mono_l : ∀ k, (∀ y0 y1 y2 y3 y4, LeO (impl_ResultOf.j0 k y0 y1 y2 y3 y4) (impl_ResultOf.j0 (k + 1) y0 y1 y2 y3 y4)) ∧ (∀ y0 y1 y2 y3 y4 y5 y6 y7, LeO (impl_ResultOf.l0 k y0 y1 y2 y3 y4 y5 y6 y7) (impl_ResultOf.l0 (k + 1) y0 y1 y2 y3 y4 y5 y6 y7)) ∧ (∀ y0 y1 y2 y3 y4 y5 y6 y7 y8 y9 y10 y11 y12 y13, LeO (impl_ResultOf.l1 k y0 y1 y2 y3 y4 y5 y6 y7 y8 y9 y10 y11 y12 y13) (impl_ResultOf.l1 (k + 1) y0 y1 y2 y3 y4 y5 y6 y7 y8 y9 y10 y11 y12 y13)) ∧ (∀ y0 y1 y2 y3 y4 y5 y6 y7 y8 y9 y10 y11 y12 y13 y14 y15 y16, LeO (impl_ResultOf.j3 k y0 y1 y2 y3 y4 y5 y6 y7 y8 y9 y10 y11 y12 y13 y14 y15 y16) (impl_ResultOf.j3 (k + 1) y0 y1 y2 y3 y4 y5 y6 y7 y8 y9 y10 y11 y12 y13 y14 y15 y16))
 | 0 => ⟨fun _ _ _ _ _ r h => by simp [impl_ResultOf.j0] at h, fun _ _ _ _ _ _ _ _ r h => by simp [impl_ResultOf.l0] at h, fun _ _ _ _ _ _ _ _ _ _ _ _ _ _ r h => by simp [impl_ResultOf.l1] at h, fun _ _ _ _ _ _ _ _ _ _ _ _ _ _ _ _ _ r h => by simp [impl_ResultOf.j3] at h⟩
 | k + 1 => by
  obtain ⟨ih0, ih1, ih2, ih3⟩ := impl_ResultOf.mono_l k
  refine ⟨?_, ?_, ?_, ?_⟩
  ·intro y0 y1 y2 y3 y4
   unfold impl_ResultOf.j0
   repeat' first
   | (with_reducible exact ih0 _ _ _ _ _)
   | (with_reducible exact ih1 _ _ _ _ _ _ _ _)
   | (with_reducible exact ih2 _ _ _ _ _ _ _ _ _ _ _ _ _ _)
   | (with_reducible exact ih3 _ _ _ _ _ _ _ _ _ _ _ _ _ _ _ _ _)
   | (with_reducible exact impl_IsValidLedger.mono _ _ _)
   | (with_reducible exact LeO.refl _)
   | (with_reducible exact LeO.none _)
   | (with_reducible refine LeO.ite ?_ ?_)
   | (with_reducible refine LeO.bind ?_ (fun _ => ?_))
   | exact ih0 _ _ _ _ _
   | exact ih1 _ _ _ _ _ _ _ _
   | exact ih2 _ _ _ _ _ _ _ _ _ _ _ _ _ _
   | exact ih3 _ _ _ _ _ _ _ _ _ _ _ _ _ _ _ _ _
   | exact impl_IsValidLedger.mono _ _ _
   | exact LeO.none _
   | refine LeO.ite ?_ ?_
   | refine LeO.bind ?_ (fun _ => ?_)
  ·intro y0 y1 y2 y3 y4 y5 y6 y7
   unfold impl_ResultOf.l0
   repeat' first
   | (with_reducible exact ih0 _ _ _ _ _)
   | (with_reducible exact ih1 _ _ _ _ _ _ _ _)
   | (with_reducible exact ih2 _ _ _ _ _ _ _ _ _ _ _ _ _ _)
   | (with_reducible exact ih3 _ _ _ _ _ _ _ _ _ _ _ _ _ _ _ _ _)
   | (with_reducible exact impl_IsValidLedger.mono _ _ _)
   | (with_reducible exact LeO.refl _)
   | (with_reducible exact LeO.none _)
   | (with_reducible refine LeO.ite ?_ ?_)
   | (with_reducible refine LeO.bind ?_ (fun _ => ?_))
   | exact ih0 _ _ _ _ _
   | exact ih1 _ _ _ _ _ _ _ _
   | exact ih2 _ _ _ _ _ _ _ _ _ _ _ _ _ _
   | exact ih3 _ _ _ _ _ _ _ _ _ _ _ _ _ _ _ _ _
   | exact impl_IsValidLedger.mono _ _ _
   | exact LeO.none _
   | refine LeO.ite ?_ ?_
   | refine LeO.bind ?_ (fun _ => ?_)
  ·intro y0 y1 y2 y3 y4 y5 y6 y7 y8 y9 y10 y11 y12 y13
   unfold impl_ResultOf.l1
   repeat' first
   | (with_reducible exact ih0 _ _ _ _ _)
   | (with_reducible exact ih1 _ _ _ _ _ _ _ _)
   | (with_reducible exact ih2 _ _ _ _ _ _ _ _ _ _ _ _ _ _)
   | (with_reducible exact ih3 _ _ _ _ _ _ _ _ _ _ _ _ _ _ _ _ _)
   | (with_reducible exact impl_IsValidLedger.mono _ _ _)
   | (with_reducible exact LeO.refl _)
   | (with_reducible exact LeO.none _)
   | (with_reducible refine LeO.ite ?_ ?_)
   | (with_reducible refine LeO.bind ?_ (fun _ => ?_))
   | exact ih0 _ _ _ _ _
   | exact ih1 _ _ _ _ _ _ _ _
   | exact ih2 _ _ _ _ _ _ _ _ _ _ _ _ _ _
   | exact ih3 _ _ _ _ _ _ _ _ _ _ _ _ _ _ _ _ _
   | exact impl_IsValidLedger.mono _ _ _
   | exact LeO.none _
   | refine LeO.ite ?_ ?_
   | refine LeO.bind ?_ (fun _ => ?_)
  ·intro y0 y1 y2 y3 y4 y5 y6 y7 y8 y9 y10 y11 y12 y13 y14 y15 y16
   unfold impl_ResultOf.j3
   repeat' first
   | (with_reducible exact ih0 _ _ _ _ _)
   | (with_reducible exact ih1 _ _ _ _ _ _ _ _)
   | (with_reducible exact ih2 _ _ _ _ _ _ _ _ _ _ _ _ _ _)
   | (with_reducible exact ih3 _ _ _ _ _ _ _ _ _ _ _ _ _ _ _ _ _)
   | (with_reducible exact impl_IsValidLedger.mono _ _ _)
   | (with_reducible exact LeO.refl _)
   | (with_reducible exact LeO.none _)
   | (with_reducible refine LeO.ite ?_ ?_)
   | (with_reducible refine LeO.bind ?_ (fun _ => ?_))
   | exact ih0 _ _ _ _ _
   | exact ih1 _ _ _ _ _ _ _ _
   | exact ih2 _ _ _ _ _ _ _ _ _ _ _ _ _ _
   | exact ih3 _ _ _ _ _ _ _ _ _ _ _ _ _ _ _ _ _
   | exact impl_IsValidLedger.mono _ _ _
   | exact LeO.none _
   | refine LeO.ite ?_ ?_
   | refine LeO.bind ?_ (fun _ => ?_)
theorem impl_ResultOf.mono : ∀ a0 a1 a2 a3 k, LeO (impl_ResultOf.f k a0 a1 a2 a3) (impl_ResultOf.f (k + 1) a0 a1 a2 a3) := by
 intro a0 a1 a2 a3 k
 obtain ⟨ih0, ih1, ih2, ih3⟩ := impl_ResultOf.mono_l k
 unfold impl_ResultOf.f
 repeat' first
  | (with_reducible exact ih0 _ _ _ _ _)
  | (with_reducible exact ih1 _ _ _ _ _ _ _ _)
  | (with_reducible exact ih2 _ _ _ _ _ _ _ _ _ _ _ _ _ _)
  | (with_reducible exact ih3 _ _ _ _ _ _ _ _ _ _ _ _ _ _ _ _ _)
  | (with_reducible exact impl_IsValidLedger.mono _ _ _)
  | (with_reducible exact LeO.refl _)
  | (with_reducible exact LeO.none _)
  | (with_reducible refine LeO.ite ?_ ?_)
  | (with_reducible refine LeO.bind ?_ (fun _ => ?_))
  | exact ih0 _ _ _ _ _
  | exact ih1 _ _ _ _ _ _ _ _
  | exact ih2 _ _ _ _ _ _ _ _ _ _ _ _ _ _
  | exact ih3 _ _ _ _ _ _ _ _ _ _ _ _ _ _ _ _ _
  | exact impl_IsValidLedger.mono _ _ _
  | exact LeO.none _
  | refine LeO.ite ?_ ?_
  | refine LeO.bind ?_ (fun _ => ?_)
set_option maxHeartbeats 8000000 in
set_option maxRecDepth 100000 in
theorem impl_ResultOf.calls (k : Nat) (A0_0 : Option Addr) (c0_0 : Nat) (l0_0 : List (S48)) (A0_1 : Option Addr) (c0_1 : Nat) (l0_1 : List (S63)) (a1 : Int) (a2 : Int) (r1 : Int) (r2 : Bool) (w : World) (hr0_0 : Kd.C k48 w A0_0 l0_0.length l0_0) (hc0_0 : l0_0.length ≤ c0_0) (hr0_1 : Kd.C k63 w A0_1 l0_1.length l0_1) (hc0_1 : l0_1.length ≤ c0_1) (h : impl_ResultOf.f k l0_0 l0_1 a1 a2 = some (r1, r2)) :
 Calls Tryd.prog 22 #[.agg #[.slice A0_0 l0_0.length c0_0, .slice A0_1 l0_1.length c0_1], .int .i64 a1, .int .i64 a2] w fun e w' => e = .returned (.tuple #[.int .i64 r1, .bool r2]) ∧ Below w.heap.size w w' := by
 have hu31 := Tryd.underlying31
 have hu63 := Tryd.underlying63
 have hu70 := Tryd.underlying70
 have hu48 := Tryd.underlying48
 have HR0_0 := Aside0.mk hr0_0
 have HC0_0 := Aside0.mk hc0_0
 clear hr0_0 hc0_0
 have HR0_1 := Aside0.mk hr0_1
 have HC0_1 := Aside0.mk hc0_1
 clear hr0_1 hc0_1
 have HB := Aside0.mk (Below.refl w.heap.size w)
 have H : ((impl_IsValidLedger.f k l0_0 l0_1).bind fun t275 => (if t275 = true then ((impl_isDay.f a1).bind fun t276 => (if t276 = true then ((impl_isDay.f a2).bind fun t277 => (impl_ResultOf.j0 k a1 a2 (!t277) l0_0 l0_1)) else (impl_ResultOf.j0 k a1 a2 true l0_0 l0_1))) else (impl_ResultOf.j0 k a1 a2 true l0_0 l0_1))) = some (r1, r2) := h
 clear h
 have HC4 := Aside0.mk H
 clear H
 go_enter Tryd.func22, Tryd.ntmps22
 go_upto_region 1 with (first | ((with_reducible refine gate_dst (N := 3) rfl ?_); refine box_event ?hg (N := 3) ?hd (cs := #[.slice A0_0 l0_0.length c0_0, .slice A0_1 l0_1.length c0_1]) (t := 31) ?hr ?_; (case hd => rfl); (case hg => rfl); (case hr => first | (go_simp; done) | (go_simp; rfl)); intro gb274 hg w5 hbox hb; have n0_ := Aside0.mk (below_step ZZ605003 hb); have n1_ := Aside0.mk (hbox); have n2_ := Aside0.mk ((by rw [hg]; exact (below_size ZZ605003) : w.heap.size ≤ gb274)); have n3_ := Aside0.mk ((by rw [hg]; exact (below_size ZZ605003) : w.heap.size ≤ gb274)); clear HB; have HB := n0_; have BK274 := n1_; have GW274 := n2_; have GE274 := n3_; clear n0_ n1_ n2_ n3_; clear hb hbox hg))
 (try simp only [Act.put, List.setIfInBounds_toArray, List.set_cons_zero, List.set_cons_succ])
 go_cut [25] (fun v25 wc => ∃ (kq : Nat) (x25_3 : Bool), v25 = .bool x25_3 ∧ Aside0 (impl_ResultOf.j0 kq a1 a2 x25_3 l0_0 l0_1 = some (r1, r2)) ∧ Aside0 (kq ≤ k) ∧ Aside0 (wc.heap[gb274]? = some (.cells #[(.slice A0_0 l0_0.length c0_0), (.slice A0_1 l0_1.length c0_1)] 31 (0, 0))) ∧ Aside0 (Below w.heap.size w wc))
 case first =>
  have H := HC4.out
  clear HC4
  replace H := Option.bind_eq_some_iff.mp H
  obtain ⟨t275, A60, H⟩ := H
  replace H : (if t275 = true then ((impl_isDay.f a1).bind fun t276 => (if t276 = true then ((impl_isDay.f a2).bind fun t277 => (impl_ResultOf.j0 k a1 a2 (!t277) l0_0 l0_1)) else (impl_ResultOf.j0 k a1 a2 true l0_0 l0_1))) else (impl_ResultOf.j0 k a1 a2 true l0_0 l0_1)) = some (r1, r2) := H
  have A6 := Aside0.mk A60
  clear A60
  by_cases c7 : t275 = true
  ·subst c7
   have H1 : ((impl_isDay.f a1).bind fun t276 => (if t276 = true then ((impl_isDay.f a2).bind fun t277 => (impl_ResultOf.j0 k a1 a2 (!t277) l0_0 l0_1)) else (impl_ResultOf.j0 k a1 a2 true l0_0 l0_1))) = some (r1, r2) := by rw [if_pos rfl] at H; exact H
   clear H
   have H := H1
   clear H1
   replace H := Option.bind_eq_some_iff.mp H
   obtain ⟨t276, A80, H⟩ := H
   replace H : (if t276 = true then ((impl_isDay.f a2).bind fun t277 => (impl_ResultOf.j0 k a1 a2 (!t277) l0_0 l0_1)) else (impl_ResultOf.j0 k a1 a2 true l0_0 l0_1)) = some (r1, r2) := H
   have A8 := Aside0.mk A80
   clear A80
   by_cases c9 : t276 = true
   ·subst c9
    have H1 : ((impl_isDay.f a2).bind fun t277 => (impl_ResultOf.j0 k a1 a2 (!t277) l0_0 l0_1)) = some (r1, r2) := by rw [if_pos rfl] at H; exact H
    clear H
    have H := H1
    clear H1
    replace H := Option.bind_eq_some_iff.mp H
    obtain ⟨t277, A100, H⟩ := H
    replace H : (impl_ResultOf.j0 k a1 a2 (!t277) l0_0 l0_1) = some (r1, r2) := H
    have A10 := Aside0.mk A100
    clear A100
    have H' := Aside0.mk H
    clear H
    have hcz11_0 : w5.cell? ⟨gb274, 0, none⟩ = some (.slice A0_0 l0_0.length c0_0) := (blk_cell BK274.out 0).trans rfl
    have hcz11_1 : w5.cell? ⟨gb274, 1, none⟩ = some (.slice A0_1 l0_1.length c0_1) := (blk_cell BK274.out 1).trans rfl
    have hfz11_0 := blk_frozen BK274.out 0
    have hfz11_1 := blk_frozen BK274.out 1
    go_wp2_with (first | ((with_reducible refine gate_callee (f := 17) rfl ?_); refine goesL_ (some 14) rfl rfl Tryd.func17 (by kernel_rfl) rfl #[.agg #[.slice A0_0 l0_0.length c0_0, .slice A0_1 l0_1.length c0_1]] rfl ZZ19826e ?_; (with_reducible refine (impl_IsValidLedger.calls k _ _ l0_0 _ _ l0_1 true _ ?side1 ?side2 ?side3 ?side4 A6.out).mono ?_); (case side1 => repeat (first | exact (Kd.C_below HR0_0.out HB.out) | (with_reducible refine Kd.C_alloc ?_ _) | (with_reducible refine Kd.C_drewN ?_ _) | (with_reducible refine Kd.C_drew ?_))); (case side2 => exact HC0_0.out); (case side3 => repeat (first | exact (Kd.C_below HR0_1.out HB.out) | (with_reducible refine Kd.C_alloc ?_ _) | (with_reducible refine Kd.C_drewN ?_ _) | (with_reducible refine Kd.C_drew ?_))); (case side4 => exact HC0_1.out); rintro e w12 ⟨rfl, hb⟩; refine ⟨_, rfl, ?_⟩; have n0_ := Aside0.mk (blk_below (g := gb274) (o := .cells #[.slice A0_0 l0_0.length c0_0, .slice A0_1 l0_1.length c0_1] 31 (0, 0)) ZZ6567dc hb); have n1_ := Aside0.mk (below_step ZZ323b16 hb); clear BK274; clear HB; have BK274 := n0_; have HB := n1_; clear n0_ n1_; (try clear hb); (try clear hb2); (try clear hk); (try clear hi)) | (go_at_call 59; (with_reducible refine (impl_isDay.calls a1 true _ A8.out).mono ?_); rintro e w' ⟨rfl, ⟨nd, rfl⟩⟩) | (go_at_call 59; (with_reducible refine (impl_isDay.calls a2 t277 _ A10.out).mono ?_); rintro e w' ⟨rfl, ⟨nd, rfl⟩⟩))
    go_meet
    case rel => exact ⟨_, (!t277), ZZ0ab324, H', ⟨by first | omega | exact Nat.le_refl _⟩, ⟨by (with_reducible repeat (first | refine blk_drewN ?_ _ | refine blk_drew ?_ | refine blk_alloc ?_ _)); exact BK274.out⟩, ⟨by repeat (first | (with_reducible first | exact HB.out | apply below_alloc | apply pw_below_drewN | apply below_drew1 | refine below_set ?_ GE274.out) | exact HB.out)⟩⟩
   ·replace c9 := Bool.eq_false_iff.mpr c9
    subst c9
    have H1 : (impl_ResultOf.j0 k a1 a2 true l0_0 l0_1) = some (r1, r2) := by rw [if_neg (show ¬ (false = true) by decide)] at H; exact H
    clear H
    have H := H1
    clear H1
    have H' := Aside0.mk H
    clear H
    have hcz13_0 : w5.cell? ⟨gb274, 0, none⟩ = some (.slice A0_0 l0_0.length c0_0) := (blk_cell BK274.out 0).trans rfl
    have hcz13_1 : w5.cell? ⟨gb274, 1, none⟩ = some (.slice A0_1 l0_1.length c0_1) := (blk_cell BK274.out 1).trans rfl
    have hfz13_0 := blk_frozen BK274.out 0
    have hfz13_1 := blk_frozen BK274.out 1
    go_wp2_with (first | ((with_reducible refine gate_callee (f := 17) rfl ?_); refine goesL_ (some 14) rfl rfl Tryd.func17 (by kernel_rfl) rfl #[.agg #[.slice A0_0 l0_0.length c0_0, .slice A0_1 l0_1.length c0_1]] rfl ZZ19826e ?_; (with_reducible refine (impl_IsValidLedger.calls k _ _ l0_0 _ _ l0_1 true _ ?side1 ?side2 ?side3 ?side4 A6.out).mono ?_); (case side1 => repeat (first | exact (Kd.C_below HR0_0.out HB.out) | (with_reducible refine Kd.C_alloc ?_ _) | (with_reducible refine Kd.C_drewN ?_ _) | (with_reducible refine Kd.C_drew ?_))); (case side2 => exact HC0_0.out); (case side3 => repeat (first | exact (Kd.C_below HR0_1.out HB.out) | (with_reducible refine Kd.C_alloc ?_ _) | (with_reducible refine Kd.C_drewN ?_ _) | (with_reducible refine Kd.C_drew ?_))); (case side4 => exact HC0_1.out); rintro e w14 ⟨rfl, hb⟩; refine ⟨_, rfl, ?_⟩; have n0_ := Aside0.mk (blk_below (g := gb274) (o := .cells #[.slice A0_0 l0_0.length c0_0, .slice A0_1 l0_1.length c0_1] 31 (0, 0)) ZZ6567dc hb); have n1_ := Aside0.mk (below_step ZZ323b16 hb); clear BK274; clear HB; have BK274 := n0_; have HB := n1_; clear n0_ n1_; (try clear hb); (try clear hb2); (try clear hk); (try clear hi)) | (go_at_call 59; (with_reducible refine (impl_isDay.calls a1 false _ A8.out).mono ?_); rintro e w' ⟨rfl, ⟨nd, rfl⟩⟩))
    go_meet
    case rel => exact ⟨_, (true), ZZ0ab324, H', ⟨by first | omega | exact Nat.le_refl _⟩, ⟨by (with_reducible repeat (first | refine blk_drewN ?_ _ | refine blk_drew ?_ | refine blk_alloc ?_ _)); exact BK274.out⟩, ⟨by repeat (first | (with_reducible first | exact HB.out | apply below_alloc | apply pw_below_drewN | apply below_drew1 | refine below_set ?_ GE274.out) | exact HB.out)⟩⟩
  ·replace c7 := Bool.eq_false_iff.mpr c7
   subst c7
   have H1 : (impl_ResultOf.j0 k a1 a2 true l0_0 l0_1) = some (r1, r2) := by rw [if_neg (show ¬ (false = true) by decide)] at H; exact H
   clear H
   have H := H1
   clear H1
   have H' := Aside0.mk H
   clear H
   have hcz15_0 : w5.cell? ⟨gb274, 0, none⟩ = some (.slice A0_0 l0_0.length c0_0) := (blk_cell BK274.out 0).trans rfl
   have hcz15_1 : w5.cell? ⟨gb274, 1, none⟩ = some (.slice A0_1 l0_1.length c0_1) := (blk_cell BK274.out 1).trans rfl
   have hfz15_0 := blk_frozen BK274.out 0
   have hfz15_1 := blk_frozen BK274.out 1
   go_wp2_with (first | ((with_reducible refine gate_callee (f := 17) rfl ?_); refine goesL_ (some 14) rfl rfl Tryd.func17 (by kernel_rfl) rfl #[.agg #[.slice A0_0 l0_0.length c0_0, .slice A0_1 l0_1.length c0_1]] rfl ZZ19826e ?_; (with_reducible refine (impl_IsValidLedger.calls k _ _ l0_0 _ _ l0_1 false _ ?side1 ?side2 ?side3 ?side4 A6.out).mono ?_); (case side1 => repeat (first | exact (Kd.C_below HR0_0.out HB.out) | (with_reducible refine Kd.C_alloc ?_ _) | (with_reducible refine Kd.C_drewN ?_ _) | (with_reducible refine Kd.C_drew ?_))); (case side2 => exact HC0_0.out); (case side3 => repeat (first | exact (Kd.C_below HR0_1.out HB.out) | (with_reducible refine Kd.C_alloc ?_ _) | (with_reducible refine Kd.C_drewN ?_ _) | (with_reducible refine Kd.C_drew ?_))); (case side4 => exact HC0_1.out); rintro e w16 ⟨rfl, hb⟩; refine ⟨_, rfl, ?_⟩; have n0_ := Aside0.mk (blk_below (g := gb274) (o := .cells #[.slice A0_0 l0_0.length c0_0, .slice A0_1 l0_1.length c0_1] 31 (0, 0)) ZZ6567dc hb); have n1_ := Aside0.mk (below_step ZZ323b16 hb); clear BK274; clear HB; have BK274 := n0_; have HB := n1_; clear n0_ n1_; (try clear hb); (try clear hb2); (try clear hk); (try clear hi)))
   go_meet
   case rel => exact ⟨_, (true), ZZ0ab324, H', ⟨by first | omega | exact Nat.le_refl _⟩, ⟨by (with_reducible repeat (first | refine blk_drewN ?_ _ | refine blk_drew ?_ | refine blk_alloc ?_ _)); exact BK274.out⟩, ⟨by repeat (first | (with_reducible first | exact HB.out | apply below_alloc | apply pw_below_drewN | apply below_drew1 | refine below_set ?_ GE274.out) | exact HB.out)⟩⟩
 case rest =>
  clear HC4
  try clear c1
  try clear c2
  try clear p2
  try clear c7
  try clear c9
  try clear hcz11_0
  try clear hcz11_1
  try clear hcz13_0
  try clear hcz13_1
  try clear hcz15_0
  try clear hcz15_1
  try clear hfz11_0
  try clear hfz11_1
  try clear hfz13_0
  try clear hfz13_1
  try clear hfz15_0
  try clear hfz15_1
  obtain ⟨kq, x25_3, rfl, HA, HJ3, BK274, HB⟩ := hcut
  cases kq with
  | zero => exact absurd HA.out (by simp [impl_ResultOf.j0])
  | succ kj3 =>
   have H := HA.out
   clear HA
   simp only [impl_ResultOf.j0] at H
   by_cases c17 : x25_3 = true
   ·subst c17
    have H1 : (some (0, false)) = some (r1, r2) := by rw [if_pos rfl] at H; exact H
    clear H
    have H := H1
    clear H1
    simp only [Option.some.injEq, Prod.mk.injEq] at H
    obtain ⟨rfl, rfl⟩ := H
    go_wp2
    go_ret2
    exact ⟨by first | rfl | (simp [errW_none, errW_some] <;> rfl) | (simp [*, errW_none, errW_some] <;> rfl), by repeat (first | (with_reducible first | exact HB.out | apply below_alloc | apply pw_below_drewN | apply below_drew1 | refine below_set ?_ GE274.out) | exact HB.out)⟩
   ·replace c17 := Bool.eq_false_iff.mpr c17
    subst c17
    have H1 : (impl_ResultOf.l0 kj3 a1 a2 0 l0_1 (l0_1.length : Int) 0 l0_0 l0_1) = some (r1, r2) := by rw [if_neg (show ¬ (false = true) by decide)] at H; exact H
    clear H
    have H := H1
    clear H1
    have H' := Aside0.mk H
    clear H
    have hcz18_0 : wc.cell? ⟨gb274, 0, none⟩ = some (.slice A0_0 l0_0.length c0_0) := (blk_cell BK274.out 0).trans rfl
    have hcz18_1 : wc.cell? ⟨gb274, 1, none⟩ = some (.slice A0_1 l0_1.length c0_1) := (blk_cell BK274.out 1).trans rfl
    have hfz18_0 := blk_frozen BK274.out 0
    have hfz18_1 := blk_frozen BK274.out 1
    go_wp2
    go_loopg [8, 29] kj3 (fun kq v8 v29 w' => ∃ (x8_2 : Int) (x29_2 : Int), v8 = .int .i64 x8_2 ∧ v29 = .int .i64 x29_2 ∧ Aside0 (impl_ResultOf.l0 kq a1 a2 x8_2 l0_1 (l0_1.length : Int) x29_2 l0_0 l0_1 = some (r1, r2)) ∧ Aside0 (kq ≤ kj3) ∧ Aside0 (w'.heap[gb274]? = some (.cells #[(.slice A0_0 l0_0.length c0_0), (.slice A0_1 l0_1.length c0_1)] 31 (0, 0))) ∧ Aside0 (Below w.heap.size w w'))
    case atStart => exact ⟨(0), (0), ZZ0ab324, ZZ0ab324, H', ⟨Nat.le_refl _⟩, ⟨by (with_reducible repeat (first | refine blk_drewN ?_ _ | refine blk_drew ?_ | refine blk_alloc ?_ _)); exact BK274.out⟩, ⟨by repeat (first | (with_reducible first | exact HB.out | apply below_alloc | apply pw_below_drewN | apply below_drew1 | refine below_set ?_ GE274.out) | exact HB.out)⟩⟩
    case round =>
     clear H'
     try clear c1
     try clear c2
     try clear p2
     try clear c7
     try clear c9
     try clear c17
     try clear hcz11_0
     try clear hcz11_1
     try clear hcz13_0
     try clear hcz13_1
     try clear hcz15_0
     try clear hcz15_1
     try clear hcz18_0
     try clear hcz18_1
     try clear hfz11_0
     try clear hfz11_1
     try clear hfz13_0
     try clear hfz13_1
     try clear hfz15_0
     try clear hfz15_1
     try clear hfz18_0
     try clear hfz18_1
     try clear p2
     obtain ⟨x8_2, x29_2, rfl, rfl, HA, HK2, BK274, HB⟩ := hrel
     cases gk with
     | zero => exact absurd HA.out (by simp [impl_ResultOf.l0])
     | succ k2 =>
      have H := HA.out
      clear HA
      simp only [impl_ResultOf.l0] at H
      by_cases c19 : x29_2 < (l0_1.length : Int)
      ·rw [if_pos c19] at H
       have c19b0 : decide (x29_2 < (l0_1.length : Int)) = true := decide_eq_true c19
       clear c19
       by_cases c20 : 0 ≤ x29_2
       ·rw [if_pos c20] at H
        have c20b0 : decide (0 ≤ x29_2) = true := decide_eq_true c20
        clear c20
        by_cases c21 : x29_2 < (l0_1.length : Int)
        ·rw [if_pos c21] at H
         have c21b0 : decide (x29_2 < (l0_1.length : Int)) = true := decide_eq_true c21
         clear c21
         have H' := Aside0.mk H
         clear H
         have p280 : 0 ≤ (x29_2 : Int) := of_decide_eq_true ZZ853400
         have q280 : x29_2 < (l0_1.length : Int) := of_decide_eq_true ZZ853400
         obtain ⟨ad280, A280_2, c280_2, e280, hx280_0, hx280_1, hx280_2, hl280_2, hi280_2⟩ := at_T63 HR0_1.out x29_2 p280 q280
         cases e280
         replace hx280_0 := (HB.out.cell (World.block_lt_of_cell? w _ hx280_0)).trans hx280_0
         replace hx280_1 := (HB.out.cell (World.block_lt_of_cell? w _ hx280_1)).trans hx280_1
         replace hx280_2 := (HB.out.cell (World.block_lt_of_cell? w _ hx280_2)).trans hx280_2
         have HR280_2 := Aside0.mk hi280_2
         have HC280_2 := Aside0.mk hl280_2
         clear hi280_2 hl280_2
         replace p280 := eq_true p280
         replace q280 := eq_true q280
         go_wp2_with (first | ((with_reducible refine gate_dst (N := 10) rfl ?_); refine box_event ?hg (N := 10) ?hd (cs := #[.int .i64 0, .string (⟨#[]⟩ : ByteArray), .slice none 0 0]) (t := 63) ?hr ?_; (case hd => rfl); (case hg => rfl); (case hr => first | (go_simp; done) | (go_simp; rfl)); intro gb281 hg w22 hbox hb; have n0_ := Aside0.mk (blk_below (g := gb274) (o := .cells #[.slice A0_0 l0_0.length c0_0, .slice (some ad280) l0_1.length c0_1] 31 (0, 0)) ZZ6567dc hb); have n1_ := Aside0.mk (below_step ZZ323b16 hb); have n2_ := Aside0.mk (hbox); have n3_ := Aside0.mk ((by rw [hg]; exact (below_size ZZ323b16) : w.heap.size ≤ gb281)); have n4_ := Aside0.mk ((by rw [hg]; exact (below_size ZZ323b16) : w.heap.size ≤ gb281)); have n5_ := Aside0.mk ((by rw [hg]; exact Nat.ne_of_lt (blk_lt (g := gb274) (o := .cells #[.slice A0_0 l0_0.length c0_0, .slice (some ad280) l0_1.length c0_1] 31 (0, 0)) ZZ6567dc) : gb274 ≠ gb281)); have n6_ := Aside0.mk ((by rw [hg]; exact Nat.ne_of_gt (blk_lt (g := gb274) (o := .cells #[.slice A0_0 l0_0.length c0_0, .slice (some ad280) l0_1.length c0_1] 31 (0, 0)) ZZ6567dc) : gb281 ≠ gb274)); clear BK274; clear HB; have BK274 := n0_; have HB := n1_; have BK281 := n2_; have GW281 := n3_; have GE281 := n4_; have NB274_281 := n5_; have NB281_274 := n6_; clear n0_ n1_ n2_ n3_ n4_ n5_ n6_; clear hb hbox hg; have hnb23 := NB281_274.out; have hnc23 := NB274_281.out; have hcz24_0 : w22.cell? ⟨gb281, 0, none⟩ = some (.int .i64 0) := (blk_cell BK281.out 0).trans rfl; have hcz24_1 : w22.cell? ⟨gb281, 1, none⟩ = some (.string (⟨#[]⟩ : ByteArray)) := (blk_cell BK281.out 1).trans rfl; have hcz24_2 : w22.cell? ⟨gb281, 2, none⟩ = some (.slice none 0 0) := (blk_cell BK281.out 2).trans rfl; have hfz24_0 := blk_frozen BK281.out 0; have hfz24_1 := blk_frozen BK281.out 1; have hfz24_2 := blk_frozen BK281.out 2))
         go_loopg [8, 36] k2 (fun kq v8 v36 w' => ∃ (x8_3 : Int) (x36_3 : Int), v8 = .int .i64 x8_3 ∧ v36 = .int .i64 x36_3 ∧ Aside0 (impl_ResultOf.l1 kq a1 a2 x8_3 l0_1 (l0_1.length : Int) x29_2 ((rd_T63 l0_1 x29_2).f2) (((rd_T63 l0_1 x29_2).f2).length : Int) x36_3 l0_0 l0_1 ((rd_T63 l0_1 x29_2).f0) ((rd_T63 l0_1 x29_2).f1) ((rd_T63 l0_1 x29_2).f2) = some (r1, r2)) ∧ Aside0 (kq ≤ k2) ∧ Aside0 (w'.heap[gb274]? = some (.cells #[(.slice A0_0 l0_0.length c0_0), (.slice (some ad280) l0_1.length c0_1)] 31 (0, 0))) ∧ Aside0 (w'.heap[gb281]? = some (.cells #[.int .i64 ((rd_T63 l0_1 x29_2).f0), .string ((rd_T63 l0_1 x29_2).f1), (.slice A280_2 ((rd_T63 l0_1 x29_2).f2).length c280_2)] 63 (0, 0))) ∧ Aside0 (Below w.heap.size w w'))
         case atStart => exact ⟨(x8_2), (0), ZZ0ab324, ZZ0ab324, H', ⟨Nat.le_refl _⟩, ⟨by (with_reducible repeat (first | refine blk_drewN ?_ _ | refine blk_drew ?_ | refine blk_alloc ?_ _)); refine blk_far ?_ NB274_281.out _; (with_reducible repeat (first | refine blk_drewN ?_ _ | refine blk_drew ?_ | refine blk_alloc ?_ _)); refine blk_far ?_ NB274_281.out _; (with_reducible repeat (first | refine blk_drewN ?_ _ | refine blk_drew ?_ | refine blk_alloc ?_ _)); refine blk_far ?_ NB274_281.out _; (with_reducible repeat (first | refine blk_drewN ?_ _ | refine blk_drew ?_ | refine blk_alloc ?_ _)); exact BK274.out⟩, ⟨by (with_reducible repeat (first | refine blk_drewN ?_ _ | refine blk_drew ?_ | refine blk_alloc ?_ _)); refine blk_put (cs := #[.int .i64 ((rd_T63 l0_1 x29_2).f0), .string ((rd_T63 l0_1 x29_2).f1), .slice none 0 0]) ?_ 2 _ rfl; (with_reducible repeat (first | refine blk_drewN ?_ _ | refine blk_drew ?_ | refine blk_alloc ?_ _)); refine blk_put (cs := #[.int .i64 ((rd_T63 l0_1 x29_2).f0), .string (⟨#[]⟩ : ByteArray), .slice none 0 0]) ?_ 1 _ rfl; (with_reducible repeat (first | refine blk_drewN ?_ _ | refine blk_drew ?_ | refine blk_alloc ?_ _)); refine blk_put (cs := #[.int .i64 0, .string (⟨#[]⟩ : ByteArray), .slice none 0 0]) ?_ 0 _ rfl; (with_reducible repeat (first | refine blk_drewN ?_ _ | refine blk_drew ?_ | refine blk_alloc ?_ _)); exact BK281.out⟩, ⟨by repeat (first | (with_reducible first | exact HB.out | apply below_alloc | apply pw_below_drewN | apply below_drew1 | refine below_set ?_ GE274.out | refine below_set ?_ GE281.out) | exact HB.out)⟩⟩
         case round =>
          clear H'
          try clear c1
          try clear c2
          try clear p2
          try clear q2
          try clear hx2
          try clear c7
          try clear c9
          try clear c17
          try clear c19
          try clear c19b0
          try clear c20
          try clear c20b0
          try clear c21
          try clear c21b0
          try clear c22
          try clear c23
          try clear hcz11_0
          try clear hcz11_1
          try clear hcz13_0
          try clear hcz13_1
          try clear hcz15_0
          try clear hcz15_1
          try clear hcz18_0
          try clear hcz18_1
          try clear hcz24_0
          try clear hcz24_1
          try clear hcz24_2
          try clear hfz11_0
          try clear hfz11_1
          try clear hfz13_0
          try clear hfz13_1
          try clear hfz15_0
          try clear hfz15_1
          try clear hfz18_0
          try clear hfz18_1
          try clear hfz24_0
          try clear hfz24_1
          try clear hfz24_2
          try clear hx280_0
          try clear hx280_1
          try clear hx280_2
          try clear p2
          try clear p280
          try clear q280
          obtain ⟨x8_3, x36_3, rfl, rfl, HA, HK3, BK274, BK281, HB⟩ := hrel
          cases gk with
          | zero => exact absurd HA.out (by simp [impl_ResultOf.l1])
          | succ k3 =>
           have H := HA.out
           clear HA
           simp only [impl_ResultOf.l1] at H
           by_cases c25 : x36_3 < (((rd_T63 l0_1 x29_2).f2).length : Int)
           ·rw [if_pos c25] at H
            have c25b0 : decide (x36_3 < (((rd_T63 l0_1 x29_2).f2).length : Int)) = true := decide_eq_true c25
            clear c25
            by_cases c26 : 0 ≤ x36_3
            ·rw [if_pos c26] at H
             have c26b0 : decide (0 ≤ x36_3) = true := decide_eq_true c26
             clear c26
             by_cases c27 : x36_3 < (((rd_T63 l0_1 x29_2).f2).length : Int)
             ·rw [if_pos c27] at H
              have c27b0 : decide (x36_3 < (((rd_T63 l0_1 x29_2).f2).length : Int)) = true := decide_eq_true c27
              clear c27
              have HC28 := Aside0.mk H
              clear H
              have p282 : 0 ≤ (x36_3 : Int) := of_decide_eq_true ZZ853400
              have q282 : x36_3 < (((rd_T63 l0_1 x29_2).f2).length : Int) := of_decide_eq_true ZZ853400
              obtain ⟨ad282, e282, hx282_0, hx282_1⟩ := at_T70 HR280_2.out x36_3 p282 q282
              cases e282
              replace hx282_0 := (HB.out.cell (World.block_lt_of_cell? w _ hx282_0)).trans hx282_0
              replace hx282_1 := (HB.out.cell (World.block_lt_of_cell? w _ hx282_1)).trans hx282_1
              replace p282 := eq_true p282
              replace q282 := eq_true q282
              go_upto_region 10 with (first | ((with_reducible refine gate_dst (N := 12) rfl ?_); refine box_event ?hg (N := 12) ?hd (cs := #[.int .i64 0, .int .i64 0]) (t := 70) ?hr ?_; (case hd => rfl); (case hg => rfl); (case hr => first | (go_simp; done) | (go_simp; rfl)); intro gb283 hg w29 hbox hb; have n0_ := Aside0.mk (blk_below (g := gb274) (o := .cells #[.slice A0_0 l0_0.length c0_0, .slice (some ad280) l0_1.length c0_1] 31 (0, 0)) ZZ6567dc hb); have n1_ := Aside0.mk (blk_below (g := gb281) (o := .cells #[.int .i64 ((rd_T63 l0_1 x29_2).f0), .string ((rd_T63 l0_1 x29_2).f1), .slice (some ad282) ((rd_T63 l0_1 x29_2).f2).length c280_2] 63 (0, 0)) (by (with_reducible repeat (first | refine blk_drewN ?_ _ | refine blk_drew ?_ | refine blk_alloc ?_ _)); exact BK281.out) hb); have n2_ := Aside0.mk (below_step (by repeat (first | (with_reducible first | exact HB.out | apply below_alloc | apply pw_below_drewN | apply below_drew1 | refine below_set ?_ GE274.out | refine below_set ?_ GE281.out) | exact HB.out)) hb); have n3_ := Aside0.mk (hbox); have n4_ := Aside0.mk ((by rw [hg]; exact (below_size (by repeat (first | (with_reducible first | exact HB.out | apply below_alloc | apply pw_below_drewN | apply below_drew1 | refine below_set ?_ GE274.out | refine below_set ?_ GE281.out) | exact HB.out))) : w.heap.size ≤ gb283)); have n5_ := Aside0.mk ((by rw [hg]; exact (below_size (by repeat (first | (with_reducible first | exact HB.out | apply below_alloc | apply pw_below_drewN | apply below_drew1 | refine below_set ?_ GE274.out | refine below_set ?_ GE281.out) | exact HB.out))) : w.heap.size ≤ gb283)); have n6_ := Aside0.mk ((by rw [hg]; exact Nat.ne_of_lt (blk_lt (g := gb274) (o := .cells #[.slice A0_0 l0_0.length c0_0, .slice (some ad280) l0_1.length c0_1] 31 (0, 0)) ZZ6567dc) : gb274 ≠ gb283)); have n7_ := Aside0.mk ((by rw [hg]; exact Nat.ne_of_gt (blk_lt (g := gb274) (o := .cells #[.slice A0_0 l0_0.length c0_0, .slice (some ad280) l0_1.length c0_1] 31 (0, 0)) ZZ6567dc) : gb283 ≠ gb274)); have n8_ := Aside0.mk ((by rw [hg]; exact Nat.ne_of_lt (blk_lt (g := gb281) (o := .cells #[.int .i64 ((rd_T63 l0_1 x29_2).f0), .string ((rd_T63 l0_1 x29_2).f1), .slice (some ad282) ((rd_T63 l0_1 x29_2).f2).length c280_2] 63 (0, 0)) (by (with_reducible repeat (first | refine blk_drewN ?_ _ | refine blk_drew ?_ | refine blk_alloc ?_ _)); exact BK281.out)) : gb281 ≠ gb283)); have n9_ := Aside0.mk ((by rw [hg]; exact Nat.ne_of_gt (blk_lt (g := gb281) (o := .cells #[.int .i64 ((rd_T63 l0_1 x29_2).f0), .string ((rd_T63 l0_1 x29_2).f1), .slice (some ad282) ((rd_T63 l0_1 x29_2).f2).length c280_2] 63 (0, 0)) (by (with_reducible repeat (first | refine blk_drewN ?_ _ | refine blk_drew ?_ | refine blk_alloc ?_ _)); exact BK281.out)) : gb283 ≠ gb281)); clear BK274; clear BK281; clear HB; have BK274 := n0_; have BK281 := n1_; have HB := n2_; have BK283 := n3_; have GW283 := n4_; have GE283 := n5_; have NB274_283 := n6_; have NB283_274 := n7_; have NB281_283 := n8_; have NB283_281 := n9_; clear n0_ n1_ n2_ n3_ n4_ n5_ n6_ n7_ n8_ n9_; clear hb hbox hg; have hnb30 := NB283_274.out; have hnc30 := NB274_283.out; have hnb31 := NB283_281.out; have hnc31 := NB281_283.out; have hcz32_0 : w29.cell? ⟨gb283, 0, none⟩ = some (.int .i64 0) := (blk_cell BK283.out 0).trans rfl; have hcz32_1 : w29.cell? ⟨gb283, 1, none⟩ = some (.int .i64 0) := (blk_cell BK283.out 1).trans rfl; have hfz32_0 := blk_frozen BK283.out 0; have hfz32_1 := blk_frozen BK283.out 1))
              (try simp only [Act.put, List.setIfInBounds_toArray, List.set_cons_zero, List.set_cons_succ])
              go_cut [58] (fun v58 wc => ∃ (kq : Nat) (x58_27 : Bool), v58 = .bool x58_27 ∧ Aside0 (impl_ResultOf.j3 kq a1 a2 x8_3 l0_1 (l0_1.length : Int) x29_2 ((rd_T63 l0_1 x29_2).f2) (((rd_T63 l0_1 x29_2).f2).length : Int) x36_3 x58_27 l0_0 l0_1 ((rd_T63 l0_1 x29_2).f0) ((rd_T63 l0_1 x29_2).f1) ((rd_T63 l0_1 x29_2).f2) ((rd_T70 ((rd_T63 l0_1 x29_2).f2) x36_3).f0) ((rd_T70 ((rd_T63 l0_1 x29_2).f2) x36_3).f1) = some (r1, r2)) ∧ Aside0 (kq ≤ k3) ∧ Aside0 (wc.heap[gb274]? = some (.cells #[(.slice A0_0 l0_0.length c0_0), (.slice (some ad280) l0_1.length c0_1)] 31 (0, 0))) ∧ Aside0 (wc.heap[gb281]? = some (.cells #[.int .i64 ((rd_T63 l0_1 x29_2).f0), .string ((rd_T63 l0_1 x29_2).f1), (.slice (some ad282) ((rd_T63 l0_1 x29_2).f2).length c280_2)] 63 (0, 0))) ∧ Aside0 (wc.heap[gb283]? = some (.cells #[.int .i64 ((rd_T70 ((rd_T63 l0_1 x29_2).f2) x36_3).f0), .int .i64 ((rd_T70 ((rd_T63 l0_1 x29_2).f2) x36_3).f1)] 70 (0, 0))) ∧ Aside0 (Below w.heap.size w wc))
              case first =>
               have H := HC28.out
               clear HC28
               replace H := Option.bind_eq_some_iff.mp H
               obtain ⟨t284, A330, H⟩ := H
               replace H : (if t284 = true then (if ((rd_T63 l0_1 x29_2).f1).toList = ([99, 108, 111, 115, 105, 110, 103] : List UInt8) then (impl_ResultOf.j3 k3 a1 a2 x8_3 l0_1 (l0_1.length : Int) x29_2 ((rd_T63 l0_1 x29_2).f2) (((rd_T63 l0_1 x29_2).f2).length : Int) x36_3 false l0_0 l0_1 ((rd_T63 l0_1 x29_2).f0) ((rd_T63 l0_1 x29_2).f1) ((rd_T63 l0_1 x29_2).f2) ((rd_T70 ((rd_T63 l0_1 x29_2).f2) x36_3).f0) ((rd_T70 ((rd_T63 l0_1 x29_2).f2) x36_3).f1)) else (if 0 ≤ ((rd_T70 ((rd_T63 l0_1 x29_2).f2) x36_3).f0) then (if ((rd_T70 ((rd_T63 l0_1 x29_2).f2) x36_3).f0) < (l0_0.length : Int) then ((impl_isResult.f ((rd_T48 l0_0 ((rd_T70 ((rd_T63 l0_1 x29_2).f2) x36_3).f0)).f0) ((rd_T48 l0_0 ((rd_T70 ((rd_T63 l0_1 x29_2).f2) x36_3).f0)).f1)).bind fun t286 => (impl_ResultOf.j3 k3 a1 a2 x8_3 l0_1 (l0_1.length : Int) x29_2 ((rd_T63 l0_1 x29_2).f2) (((rd_T63 l0_1 x29_2).f2).length : Int) x36_3 t286 l0_0 l0_1 ((rd_T63 l0_1 x29_2).f0) ((rd_T63 l0_1 x29_2).f1) ((rd_T63 l0_1 x29_2).f2) ((rd_T70 ((rd_T63 l0_1 x29_2).f2) x36_3).f0) ((rd_T70 ((rd_T63 l0_1 x29_2).f2) x36_3).f1))) else (none)) else (none))) else (impl_ResultOf.j3 k3 a1 a2 x8_3 l0_1 (l0_1.length : Int) x29_2 ((rd_T63 l0_1 x29_2).f2) (((rd_T63 l0_1 x29_2).f2).length : Int) x36_3 false l0_0 l0_1 ((rd_T63 l0_1 x29_2).f0) ((rd_T63 l0_1 x29_2).f1) ((rd_T63 l0_1 x29_2).f2) ((rd_T70 ((rd_T63 l0_1 x29_2).f2) x36_3).f0) ((rd_T70 ((rd_T63 l0_1 x29_2).f2) x36_3).f1))) = some (r1, r2) := H
               have A33 := Aside0.mk A330
               clear A330
               by_cases c34 : t284 = true
               ·subst c34
                have H1 : (if ((rd_T63 l0_1 x29_2).f1).toList = ([99, 108, 111, 115, 105, 110, 103] : List UInt8) then (impl_ResultOf.j3 k3 a1 a2 x8_3 l0_1 (l0_1.length : Int) x29_2 ((rd_T63 l0_1 x29_2).f2) (((rd_T63 l0_1 x29_2).f2).length : Int) x36_3 false l0_0 l0_1 ((rd_T63 l0_1 x29_2).f0) ((rd_T63 l0_1 x29_2).f1) ((rd_T63 l0_1 x29_2).f2) ((rd_T70 ((rd_T63 l0_1 x29_2).f2) x36_3).f0) ((rd_T70 ((rd_T63 l0_1 x29_2).f2) x36_3).f1)) else (if 0 ≤ ((rd_T70 ((rd_T63 l0_1 x29_2).f2) x36_3).f0) then (if ((rd_T70 ((rd_T63 l0_1 x29_2).f2) x36_3).f0) < (l0_0.length : Int) then ((impl_isResult.f ((rd_T48 l0_0 ((rd_T70 ((rd_T63 l0_1 x29_2).f2) x36_3).f0)).f0) ((rd_T48 l0_0 ((rd_T70 ((rd_T63 l0_1 x29_2).f2) x36_3).f0)).f1)).bind fun t286 => (impl_ResultOf.j3 k3 a1 a2 x8_3 l0_1 (l0_1.length : Int) x29_2 ((rd_T63 l0_1 x29_2).f2) (((rd_T63 l0_1 x29_2).f2).length : Int) x36_3 t286 l0_0 l0_1 ((rd_T63 l0_1 x29_2).f0) ((rd_T63 l0_1 x29_2).f1) ((rd_T63 l0_1 x29_2).f2) ((rd_T70 ((rd_T63 l0_1 x29_2).f2) x36_3).f0) ((rd_T70 ((rd_T63 l0_1 x29_2).f2) x36_3).f1))) else (none)) else (none))) = some (r1, r2) := by rw [if_pos rfl] at H; exact H
                clear H
                have H := H1
                clear H1
                by_cases c35 : ((rd_T63 l0_1 x29_2).f1).toList = ([99, 108, 111, 115, 105, 110, 103] : List UInt8)
                ·rw [if_pos c35] at H
                 have c35b0 : (((rd_T63 l0_1 x29_2).f1).toList == ([99, 108, 111, 115, 105, 110, 103] : List UInt8)) = true := beq_iff_eq.mpr c35
                 have c35b1 : (((rd_T63 l0_1 x29_2).f1).toList != ([99, 108, 111, 115, 105, 110, 103] : List UInt8)) = false := bne_eq_false_iff_eq.mpr c35
                 clear c35
                 (first | rw [c35b0] | (simp only [i64_w, i32_w]; rw [c35b0]) | skip)
                 have H' := Aside0.mk H
                 clear H
                 have hnb36 := NB281_274.out
                 have hnc36 := NB274_281.out
                 have hnb37 := NB281_283.out
                 have hnc37 := NB283_281.out
                 have hcz38_0 : w29.cell? ⟨gb281, 0, none⟩ = some (.int .i64 ((rd_T63 l0_1 x29_2).f0)) := (blk_cell BK281.out 0).trans rfl
                 have hcz38_1 : w29.cell? ⟨gb281, 1, none⟩ = some (.string ((rd_T63 l0_1 x29_2).f1)) := (blk_cell BK281.out 1).trans rfl
                 have hcz38_2 : w29.cell? ⟨gb281, 2, none⟩ = some (.slice (some ad282) ((rd_T63 l0_1 x29_2).f2).length c280_2) := (blk_cell BK281.out 2).trans rfl
                 have hfz38_0 := blk_frozen BK281.out 0
                 have hfz38_1 := blk_frozen BK281.out 1
                 have hfz38_2 := blk_frozen BK281.out 2
                 go_wp2_with (first | ((with_reducible refine gate_callee (f := 56) rfl ?_); refine goesL_ (some 44) rfl rfl Tryd.func56 (by kernel_rfl) rfl #[.int .i64 ((rd_T63 l0_1 x29_2).f0), .int .i64 a1, .int .i64 a2] rfl ZZ19826e ?_; (with_reducible refine (impl_within.calls ((rd_T63 l0_1 x29_2).f0) a1 a2 true _ A33.out).mono ?_); rintro e w' ⟨rfl, ⟨nd, rfl⟩⟩; refine ⟨_, rfl, ?_⟩))
                 go_meet
                 case rel => exact ⟨_, (false), ZZ0ab324, H', ⟨by have := HJ3.out; have := HK2.out; have := HK3.out; first | omega | exact Nat.le_refl _⟩, ⟨by (with_reducible repeat (first | refine blk_drewN ?_ _ | refine blk_drew ?_ | refine blk_alloc ?_ _)); refine blk_far ?_ NB274_283.out _; (with_reducible repeat (first | refine blk_drewN ?_ _ | refine blk_drew ?_ | refine blk_alloc ?_ _)); refine blk_far ?_ NB274_283.out _; (with_reducible repeat (first | refine blk_drewN ?_ _ | refine blk_drew ?_ | refine blk_alloc ?_ _)); exact BK274.out⟩, ⟨by (with_reducible repeat (first | refine blk_drewN ?_ _ | refine blk_drew ?_ | refine blk_alloc ?_ _)); refine blk_far ?_ NB281_283.out _; (with_reducible repeat (first | refine blk_drewN ?_ _ | refine blk_drew ?_ | refine blk_alloc ?_ _)); refine blk_far ?_ NB281_283.out _; (with_reducible repeat (first | refine blk_drewN ?_ _ | refine blk_drew ?_ | refine blk_alloc ?_ _)); exact BK281.out⟩, ⟨by (with_reducible repeat (first | refine blk_drewN ?_ _ | refine blk_drew ?_ | refine blk_alloc ?_ _)); refine blk_put (cs := #[.int .i64 ((rd_T70 ((rd_T63 l0_1 x29_2).f2) x36_3).f0), .int .i64 0]) ?_ 1 _ rfl; (with_reducible repeat (first | refine blk_drewN ?_ _ | refine blk_drew ?_ | refine blk_alloc ?_ _)); refine blk_put (cs := #[.int .i64 0, .int .i64 0]) ?_ 0 _ rfl; (with_reducible repeat (first | refine blk_drewN ?_ _ | refine blk_drew ?_ | refine blk_alloc ?_ _)); exact BK283.out⟩, ⟨by repeat (first | (with_reducible first | exact HB.out | apply below_alloc | apply pw_below_drewN | apply below_drew1 | refine below_set ?_ GE274.out | refine below_set ?_ GE281.out | refine below_set ?_ GE283.out) | exact HB.out)⟩⟩
                ·rw [if_neg c35] at H
                 have c35b0 : (((rd_T63 l0_1 x29_2).f1).toList == ([99, 108, 111, 115, 105, 110, 103] : List UInt8)) = false := beq_eq_false_iff_ne.mpr c35
                 have c35b1 : (((rd_T63 l0_1 x29_2).f1).toList != ([99, 108, 111, 115, 105, 110, 103] : List UInt8)) = true := bne_iff_ne.mpr c35
                 (first | rw [c35b0] | (simp only [i64_w, i32_w]; rw [c35b0]) | skip)
                 by_cases c39 : 0 ≤ ((rd_T70 ((rd_T63 l0_1 x29_2).f2) x36_3).f0)
                 ·rw [if_pos c39] at H
                  have c39b0 : decide (0 ≤ ((rd_T70 ((rd_T63 l0_1 x29_2).f2) x36_3).f0)) = true := decide_eq_true c39
                  clear c39
                  by_cases c40 : ((rd_T70 ((rd_T63 l0_1 x29_2).f2) x36_3).f0) < (l0_0.length : Int)
                  ·rw [if_pos c40] at H
                   have c40b0 : decide (((rd_T70 ((rd_T63 l0_1 x29_2).f2) x36_3).f0) < (l0_0.length : Int)) = true := decide_eq_true c40
                   clear c40
                   replace H := Option.bind_eq_some_iff.mp H
                   obtain ⟨t286, A410, H⟩ := H
                   replace H : (impl_ResultOf.j3 k3 a1 a2 x8_3 l0_1 (l0_1.length : Int) x29_2 ((rd_T63 l0_1 x29_2).f2) (((rd_T63 l0_1 x29_2).f2).length : Int) x36_3 t286 l0_0 l0_1 ((rd_T63 l0_1 x29_2).f0) ((rd_T63 l0_1 x29_2).f1) ((rd_T63 l0_1 x29_2).f2) ((rd_T70 ((rd_T63 l0_1 x29_2).f2) x36_3).f0) ((rd_T70 ((rd_T63 l0_1 x29_2).f2) x36_3).f1)) = some (r1, r2) := H
                   have A41 := Aside0.mk A410
                   clear A410
                   have H' := Aside0.mk H
                   clear H
                   have hnb42 := NB281_274.out
                   have hnc42 := NB274_281.out
                   have hnb43 := NB281_283.out
                   have hnc43 := NB283_281.out
                   have hcz44_0 : w29.cell? ⟨gb281, 0, none⟩ = some (.int .i64 ((rd_T63 l0_1 x29_2).f0)) := (blk_cell BK281.out 0).trans rfl
                   have hcz44_1 : w29.cell? ⟨gb281, 1, none⟩ = some (.string ((rd_T63 l0_1 x29_2).f1)) := (blk_cell BK281.out 1).trans rfl
                   have hcz44_2 : w29.cell? ⟨gb281, 2, none⟩ = some (.slice (some ad282) ((rd_T63 l0_1 x29_2).f2).length c280_2) := (blk_cell BK281.out 2).trans rfl
                   have hfz44_0 := blk_frozen BK281.out 0
                   have hfz44_1 := blk_frozen BK281.out 1
                   have hfz44_2 := blk_frozen BK281.out 2
                   go_wp2_with (first | ((with_reducible refine gate_callee (f := 56) rfl ?_); refine goesL_ (some 44) rfl rfl Tryd.func56 (by kernel_rfl) rfl #[.int .i64 ((rd_T63 l0_1 x29_2).f0), .int .i64 a1, .int .i64 a2] rfl ZZ19826e ?_; (with_reducible refine (impl_within.calls ((rd_T63 l0_1 x29_2).f0) a1 a2 true _ A33.out).mono ?_); rintro e w' ⟨rfl, ⟨nd, rfl⟩⟩; refine ⟨_, rfl, ?_⟩; have hnb45 := NB274_283.out; have hnc45 := NB283_274.out; have hcz46_0 : w29.cell? ⟨gb274, 0, none⟩ = some (.slice A0_0 l0_0.length c0_0) := (blk_cell BK274.out 0).trans rfl; have hcz46_1 : w29.cell? ⟨gb274, 1, none⟩ = some (.slice (some ad280) l0_1.length c0_1) := (blk_cell BK274.out 1).trans rfl; have hfz46_0 := blk_frozen BK274.out 0; have hfz46_1 := blk_frozen BK274.out 1; have hcz47_0 : w29.cell? ⟨gb283, 0, none⟩ = some (.int .i64 0) := (blk_cell BK283.out 0).trans rfl; have hcz47_1 : w29.cell? ⟨gb283, 1, none⟩ = some (.int .i64 0) := (blk_cell BK283.out 1).trans rfl; have hfz47_0 := blk_frozen BK283.out 0; have hfz47_1 := blk_frozen BK283.out 1; have p285 : 0 ≤ (((rd_T70 ((rd_T63 l0_1 x29_2).f2) x36_3).f0) : Int) := of_decide_eq_true ZZ853400; have q285 : ((rd_T70 ((rd_T63 l0_1 x29_2).f2) x36_3).f0) < (l0_0.length : Int) := of_decide_eq_true ZZ853400; obtain ⟨ad285, e285, hx285_0, hx285_1⟩ := at_T48 HR0_0.out ((rd_T70 ((rd_T63 l0_1 x29_2).f2) x36_3).f0) p285 q285; cases e285; have hn285_0 : ad285.block ≠ gb283 := Nat.ne_of_lt (Nat.lt_of_lt_of_le (by have := World.block_lt_of_cell? _ _ hx285_0; first | rwa [add_block] at this | exact this) GW283.out); have hn285_1 : ad285.block ≠ gb283 := Nat.ne_of_lt (Nat.lt_of_lt_of_le (by have := World.block_lt_of_cell? _ _ hx285_0; first | rwa [add_block] at this | exact this) GW283.out); replace hx285_0 := (HB.out.cell (World.block_lt_of_cell? w _ hx285_0)).trans hx285_0; replace hx285_1 := (HB.out.cell (World.block_lt_of_cell? w _ hx285_1)).trans hx285_1; replace hx285_0 := (cell_far (p := ⟨gb283, 0, none⟩) (by first | (rw [add_block]; exact hn285_0) | (show (Addr.add _ _).block ≠ _; rw [add_block]; exact hn285_0) | exact hn285_0) (.int .i64 ((rd_T70 ((rd_T63 l0_1 x29_2).f2) x36_3).f0))).trans hx285_0; replace hx285_1 := (cell_far (p := ⟨gb283, 0, none⟩) (by first | (rw [add_block]; exact hn285_0) | (show (Addr.add _ _).block ≠ _; rw [add_block]; exact hn285_0) | exact hn285_0) (.int .i64 ((rd_T70 ((rd_T63 l0_1 x29_2).f2) x36_3).f0))).trans hx285_1; replace hx285_0 := (cell_far (p := ⟨gb283, 1, none⟩) (by first | (rw [add_block]; exact hn285_1) | (show (Addr.add _ _).block ≠ _; rw [add_block]; exact hn285_1) | exact hn285_1) (.int .i64 ((rd_T70 ((rd_T63 l0_1 x29_2).f2) x36_3).f1))).trans hx285_0; replace hx285_1 := (cell_far (p := ⟨gb283, 1, none⟩) (by first | (rw [add_block]; exact hn285_1) | (show (Addr.add _ _).block ≠ _; rw [add_block]; exact hn285_1) | exact hn285_1) (.int .i64 ((rd_T70 ((rd_T63 l0_1 x29_2).f2) x36_3).f1))).trans hx285_1; clear hn285_0; clear hn285_1; replace p285 := eq_true p285; replace q285 := eq_true q285) | (go_at_call 72; (with_reducible refine (impl_isResult.calls ((rd_T48 l0_0 ((rd_T70 ((rd_T63 l0_1 x29_2).f2) x36_3).f0)).f0) ((rd_T48 l0_0 ((rd_T70 ((rd_T63 l0_1 x29_2).f2) x36_3).f0)).f1) t286 _ A41.out).mono ?_); rintro e w48 ⟨rfl, hb⟩; have n0_ := Aside0.mk (blk_below (g := gb274) (o := .cells #[.slice (some ad285) l0_0.length c0_0, .slice (some ad280) l0_1.length c0_1] 31 (0, 0)) (by (with_reducible repeat (first | refine blk_drewN ?_ _ | refine blk_drew ?_ | refine blk_alloc ?_ _)); refine blk_far ?_ NB274_283.out _; (with_reducible repeat (first | refine blk_drewN ?_ _ | refine blk_drew ?_ | refine blk_alloc ?_ _)); refine blk_far ?_ NB274_283.out _; (with_reducible repeat (first | refine blk_drewN ?_ _ | refine blk_drew ?_ | refine blk_alloc ?_ _)); exact BK274.out) hb); have n1_ := Aside0.mk (blk_below (g := gb281) (o := .cells #[.int .i64 ((rd_T63 l0_1 x29_2).f0), .string ((rd_T63 l0_1 x29_2).f1), .slice (some ad282) ((rd_T63 l0_1 x29_2).f2).length c280_2] 63 (0, 0)) (by (with_reducible repeat (first | refine blk_drewN ?_ _ | refine blk_drew ?_ | refine blk_alloc ?_ _)); refine blk_far ?_ NB281_283.out _; (with_reducible repeat (first | refine blk_drewN ?_ _ | refine blk_drew ?_ | refine blk_alloc ?_ _)); refine blk_far ?_ NB281_283.out _; (with_reducible repeat (first | refine blk_drewN ?_ _ | refine blk_drew ?_ | refine blk_alloc ?_ _)); exact BK281.out) hb); have n2_ := Aside0.mk (blk_below (g := gb283) (o := .cells #[.int .i64 ((rd_T70 ((rd_T63 l0_1 x29_2).f2) x36_3).f0), .int .i64 ((rd_T70 ((rd_T63 l0_1 x29_2).f2) x36_3).f1)] 70 (0, 0)) (by (with_reducible repeat (first | refine blk_drewN ?_ _ | refine blk_drew ?_ | refine blk_alloc ?_ _)); refine blk_put (cs := #[.int .i64 ((rd_T70 ((rd_T63 l0_1 x29_2).f2) x36_3).f0), .int .i64 0]) ?_ 1 _ rfl; (with_reducible repeat (first | refine blk_drewN ?_ _ | refine blk_drew ?_ | refine blk_alloc ?_ _)); refine blk_put (cs := #[.int .i64 0, .int .i64 0]) ?_ 0 _ rfl; (with_reducible repeat (first | refine blk_drewN ?_ _ | refine blk_drew ?_ | refine blk_alloc ?_ _)); exact BK283.out) hb); have n3_ := Aside0.mk (below_step (by repeat (first | (with_reducible first | exact HB.out | apply below_alloc | apply pw_below_drewN | apply below_drew1 | refine below_set ?_ GE274.out | refine below_set ?_ GE281.out | refine below_set ?_ GE283.out) | exact HB.out)) hb); clear BK274; clear BK281; clear BK283; clear HB; have BK274 := n0_; have BK281 := n1_; have BK283 := n2_; have HB := n3_; clear n0_ n1_ n2_ n3_; (try clear hb); (try clear hb2); (try clear hk); (try clear hi)))
                   go_meet
                   case rel => exact ⟨_, (t286), ZZ0ab324, H', ⟨by have := HJ3.out; have := HK2.out; have := HK3.out; first | omega | exact Nat.le_refl _⟩, ⟨by (with_reducible repeat (first | refine blk_drewN ?_ _ | refine blk_drew ?_ | refine blk_alloc ?_ _)); exact BK274.out⟩, ⟨by (with_reducible repeat (first | refine blk_drewN ?_ _ | refine blk_drew ?_ | refine blk_alloc ?_ _)); exact BK281.out⟩, ⟨by (with_reducible repeat (first | refine blk_drewN ?_ _ | refine blk_drew ?_ | refine blk_alloc ?_ _)); exact BK283.out⟩, ⟨by repeat (first | (with_reducible first | exact HB.out | apply below_alloc | apply pw_below_drewN | apply below_drew1 | refine below_set ?_ GE274.out | refine below_set ?_ GE281.out | refine below_set ?_ GE283.out) | exact HB.out)⟩⟩
                  ·rw [if_neg c40] at H
                   exact absurd H (by simp)
                 ·rw [if_neg c39] at H
                  exact absurd H (by simp)
               ·replace c34 := Bool.eq_false_iff.mpr c34
                subst c34
                have H1 : (impl_ResultOf.j3 k3 a1 a2 x8_3 l0_1 (l0_1.length : Int) x29_2 ((rd_T63 l0_1 x29_2).f2) (((rd_T63 l0_1 x29_2).f2).length : Int) x36_3 false l0_0 l0_1 ((rd_T63 l0_1 x29_2).f0) ((rd_T63 l0_1 x29_2).f1) ((rd_T63 l0_1 x29_2).f2) ((rd_T70 ((rd_T63 l0_1 x29_2).f2) x36_3).f0) ((rd_T70 ((rd_T63 l0_1 x29_2).f2) x36_3).f1)) = some (r1, r2) := by rw [if_neg (show ¬ (false = true) by decide)] at H; exact H
                clear H
                have H := H1
                clear H1
                have H' := Aside0.mk H
                clear H
                have hnb49 := NB281_274.out
                have hnc49 := NB274_281.out
                have hnb50 := NB281_283.out
                have hnc50 := NB283_281.out
                have hcz51_0 : w29.cell? ⟨gb281, 0, none⟩ = some (.int .i64 ((rd_T63 l0_1 x29_2).f0)) := (blk_cell BK281.out 0).trans rfl
                have hcz51_1 : w29.cell? ⟨gb281, 1, none⟩ = some (.string ((rd_T63 l0_1 x29_2).f1)) := (blk_cell BK281.out 1).trans rfl
                have hcz51_2 : w29.cell? ⟨gb281, 2, none⟩ = some (.slice (some ad282) ((rd_T63 l0_1 x29_2).f2).length c280_2) := (blk_cell BK281.out 2).trans rfl
                have hfz51_0 := blk_frozen BK281.out 0
                have hfz51_1 := blk_frozen BK281.out 1
                have hfz51_2 := blk_frozen BK281.out 2
                go_wp2_with (first | ((with_reducible refine gate_callee (f := 56) rfl ?_); refine goesL_ (some 44) rfl rfl Tryd.func56 (by kernel_rfl) rfl #[.int .i64 ((rd_T63 l0_1 x29_2).f0), .int .i64 a1, .int .i64 a2] rfl ZZ19826e ?_; (with_reducible refine (impl_within.calls ((rd_T63 l0_1 x29_2).f0) a1 a2 false _ A33.out).mono ?_); rintro e w' ⟨rfl, ⟨nd, rfl⟩⟩; refine ⟨_, rfl, ?_⟩))
                go_meet
                case rel => exact ⟨_, (false), ZZ0ab324, H', ⟨by have := HJ3.out; have := HK2.out; have := HK3.out; first | omega | exact Nat.le_refl _⟩, ⟨by (with_reducible repeat (first | refine blk_drewN ?_ _ | refine blk_drew ?_ | refine blk_alloc ?_ _)); refine blk_far ?_ NB274_283.out _; (with_reducible repeat (first | refine blk_drewN ?_ _ | refine blk_drew ?_ | refine blk_alloc ?_ _)); refine blk_far ?_ NB274_283.out _; (with_reducible repeat (first | refine blk_drewN ?_ _ | refine blk_drew ?_ | refine blk_alloc ?_ _)); exact BK274.out⟩, ⟨by (with_reducible repeat (first | refine blk_drewN ?_ _ | refine blk_drew ?_ | refine blk_alloc ?_ _)); refine blk_far ?_ NB281_283.out _; (with_reducible repeat (first | refine blk_drewN ?_ _ | refine blk_drew ?_ | refine blk_alloc ?_ _)); refine blk_far ?_ NB281_283.out _; (with_reducible repeat (first | refine blk_drewN ?_ _ | refine blk_drew ?_ | refine blk_alloc ?_ _)); exact BK281.out⟩, ⟨by (with_reducible repeat (first | refine blk_drewN ?_ _ | refine blk_drew ?_ | refine blk_alloc ?_ _)); refine blk_put (cs := #[.int .i64 ((rd_T70 ((rd_T63 l0_1 x29_2).f2) x36_3).f0), .int .i64 0]) ?_ 1 _ rfl; (with_reducible repeat (first | refine blk_drewN ?_ _ | refine blk_drew ?_ | refine blk_alloc ?_ _)); refine blk_put (cs := #[.int .i64 0, .int .i64 0]) ?_ 0 _ rfl; (with_reducible repeat (first | refine blk_drewN ?_ _ | refine blk_drew ?_ | refine blk_alloc ?_ _)); exact BK283.out⟩, ⟨by repeat (first | (with_reducible first | exact HB.out | apply below_alloc | apply pw_below_drewN | apply below_drew1 | refine below_set ?_ GE274.out | refine below_set ?_ GE281.out | refine below_set ?_ GE283.out) | exact HB.out)⟩⟩
              case rest =>
               clear HC28
               try clear c1
               try clear c2
               try clear p2
               try clear q2
               try clear hx2
               try clear c3
               try clear c4
               try clear c5
               try clear c7
               try clear c9
               try clear c17
               try clear c19
               try clear c19b0
               try clear c20
               try clear c20b0
               try clear c21
               try clear c21b0
               try clear c22
               try clear c23
               try clear c25
               try clear c25b0
               try clear c26
               try clear c26b0
               try clear c27
               try clear c27b0
               try clear c28
               try clear p28
               try clear q28
               try clear hx28
               try clear c30
               try clear c31
               try clear c34
               try clear c35
               try clear c35b0
               try clear c35b1
               try clear c36
               try clear c37
               try clear c39
               try clear c39b0
               try clear c40
               try clear c40b0
               try clear c42
               try clear c43
               try clear c45
               try clear c49
               try clear c50
               try clear hcz11_0
               try clear hcz11_1
               try clear hcz13_0
               try clear hcz13_1
               try clear hcz15_0
               try clear hcz15_1
               try clear hcz18_0
               try clear hcz18_1
               try clear hcz24_0
               try clear hcz24_1
               try clear hcz24_2
               try clear hcz32_0
               try clear hcz32_1
               try clear hcz38_0
               try clear hcz38_1
               try clear hcz38_2
               try clear hcz44_0
               try clear hcz44_1
               try clear hcz44_2
               try clear hcz46_0
               try clear hcz46_1
               try clear hcz47_0
               try clear hcz47_1
               try clear hcz51_0
               try clear hcz51_1
               try clear hcz51_2
               try clear hfz11_0
               try clear hfz11_1
               try clear hfz13_0
               try clear hfz13_1
               try clear hfz15_0
               try clear hfz15_1
               try clear hfz18_0
               try clear hfz18_1
               try clear hfz24_0
               try clear hfz24_1
               try clear hfz24_2
               try clear hfz32_0
               try clear hfz32_1
               try clear hfz38_0
               try clear hfz38_1
               try clear hfz38_2
               try clear hfz44_0
               try clear hfz44_1
               try clear hfz44_2
               try clear hfz46_0
               try clear hfz46_1
               try clear hfz47_0
               try clear hfz47_1
               try clear hfz51_0
               try clear hfz51_1
               try clear hfz51_2
               try clear hx280_0
               try clear hx280_1
               try clear hx280_2
               try clear hx282_0
               try clear hx282_1
               try clear hx285_0
               try clear hx285_1
               try clear p2
               try clear p280
               try clear p282
               try clear p285
               try clear q2
               try clear q280
               try clear q282
               try clear q285
               obtain ⟨kq, x58_27, rfl, HA, HJ27, BK274, BK281, BK283, HB⟩ := hcut
               cases kq with
               | zero => exact absurd HA.out (by simp [impl_ResultOf.j3])
               | succ kj27 =>
                have H := HA.out
                clear HA
                simp only [impl_ResultOf.j3] at H
                by_cases c52 : x58_27 = true
                ·subst c52
                 have H1 : (impl_ResultOf.l1 kj27 a1 a2 (wrap64 (x8_3 - ((rd_T70 ((rd_T63 l0_1 x29_2).f2) x36_3).f1))) l0_1 (l0_1.length : Int) x29_2 ((rd_T63 l0_1 x29_2).f2) (((rd_T63 l0_1 x29_2).f2).length : Int) (wrap64 (x36_3 + 1)) l0_0 l0_1 ((rd_T63 l0_1 x29_2).f0) ((rd_T63 l0_1 x29_2).f1) ((rd_T63 l0_1 x29_2).f2)) = some (r1, r2) := by rw [if_pos rfl] at H; exact H
                 clear H
                 have H := H1
                 clear H1
                 have H' := Aside0.mk H
                 clear H
                 have hnb53 := NB283_274.out
                 have hnc53 := NB274_283.out
                 have hnb54 := NB283_281.out
                 have hnc54 := NB281_283.out
                 have hcz55_0 : wc.cell? ⟨gb283, 0, none⟩ = some (.int .i64 ((rd_T70 ((rd_T63 l0_1 x29_2).f2) x36_3).f0)) := (blk_cell BK283.out 0).trans rfl
                 have hcz55_1 : wc.cell? ⟨gb283, 1, none⟩ = some (.int .i64 ((rd_T70 ((rd_T63 l0_1 x29_2).f2) x36_3).f1)) := (blk_cell BK283.out 1).trans rfl
                 have hfz55_0 := blk_frozen BK283.out 0
                 have hfz55_1 := blk_frozen BK283.out 1
                 go_wp2
                 go_roundg kj27
                 case measure => have := HJ3.out; have := HK2.out; have := HK3.out; have := HJ27.out; omega
                 case rel => exact ⟨(wrap64 (x8_3 - ((rd_T70 ((rd_T63 l0_1 x29_2).f2) x36_3).f1))), (wrap64 (x36_3 + 1)), ZZ0ab324, ZZ0ab324, H', ⟨by have := HJ3.out; have := HK2.out; have := HK3.out; have := HJ27.out; omega⟩, ⟨by (with_reducible repeat (first | refine blk_drewN ?_ _ | refine blk_drew ?_ | refine blk_alloc ?_ _)); exact BK274.out⟩, ⟨by (with_reducible repeat (first | refine blk_drewN ?_ _ | refine blk_drew ?_ | refine blk_alloc ?_ _)); exact BK281.out⟩, ⟨by repeat (first | (with_reducible first | exact HB.out | apply below_alloc | apply pw_below_drewN | apply below_drew1 | refine below_set ?_ GE274.out | refine below_set ?_ GE281.out | refine below_set ?_ GE283.out) | exact HB.out)⟩⟩
                ·replace c52 := Bool.eq_false_iff.mpr c52
                 subst c52
                 have H1 : (impl_ResultOf.l1 kj27 a1 a2 x8_3 l0_1 (l0_1.length : Int) x29_2 ((rd_T63 l0_1 x29_2).f2) (((rd_T63 l0_1 x29_2).f2).length : Int) (wrap64 (x36_3 + 1)) l0_0 l0_1 ((rd_T63 l0_1 x29_2).f0) ((rd_T63 l0_1 x29_2).f1) ((rd_T63 l0_1 x29_2).f2)) = some (r1, r2) := by rw [if_neg (show ¬ (false = true) by decide)] at H; exact H
                 clear H
                 have H := H1
                 clear H1
                 have H' := Aside0.mk H
                 clear H
                 go_wp2
                 go_roundg kj27
                 case measure => have := HJ3.out; have := HK2.out; have := HK3.out; have := HJ27.out; omega
                 case rel => exact ⟨(x8_3), (wrap64 (x36_3 + 1)), ZZ0ab324, ZZ0ab324, H', ⟨by have := HJ3.out; have := HK2.out; have := HK3.out; have := HJ27.out; omega⟩, ⟨by (with_reducible repeat (first | refine blk_drewN ?_ _ | refine blk_drew ?_ | refine blk_alloc ?_ _)); exact BK274.out⟩, ⟨by (with_reducible repeat (first | refine blk_drewN ?_ _ | refine blk_drew ?_ | refine blk_alloc ?_ _)); exact BK281.out⟩, ⟨by repeat (first | (with_reducible first | exact HB.out | apply below_alloc | apply pw_below_drewN | apply below_drew1 | refine below_set ?_ GE274.out | refine below_set ?_ GE281.out | refine below_set ?_ GE283.out) | exact HB.out)⟩⟩
             ·rw [if_neg c27] at H
              exact absurd H (by simp)
            ·rw [if_neg c26] at H
             exact absurd H (by simp)
           ·rw [if_neg c25] at H
            have c25b0 : decide (x36_3 < (((rd_T63 l0_1 x29_2).f2).length : Int)) = false := decide_eq_false c25
            clear c25
            have H' := Aside0.mk H
            clear H
            go_wp2
            go_roundg k3
            case measure => have := HJ3.out; have := HK2.out; have := HK3.out; omega
            case rel => exact ⟨(x8_3), (wrap64 (x29_2 + 1)), ZZ0ab324, ZZ0ab324, H', ⟨by have := HJ3.out; have := HK2.out; have := HK3.out; omega⟩, ⟨by (with_reducible repeat (first | refine blk_drewN ?_ _ | refine blk_drew ?_ | refine blk_alloc ?_ _)); exact BK274.out⟩, ⟨by repeat (first | (with_reducible first | exact HB.out | apply below_alloc | apply pw_below_drewN | apply below_drew1 | refine below_set ?_ GE274.out | refine below_set ?_ GE281.out) | exact HB.out)⟩⟩
        ·rw [if_neg c21] at H
         exact absurd H (by simp)
       ·rw [if_neg c20] at H
        exact absurd H (by simp)
      ·rw [if_neg c19] at H
       have c19b0 : decide (x29_2 < (l0_1.length : Int)) = false := decide_eq_false c19
       clear c19
       replace H := Option.bind_eq_some_iff.mp H
       obtain ⟨⟨t278, t279⟩, A560, H⟩ := H
       replace H : (some (t278, t279)) = some (r1, r2) := H
       have A56 := Aside0.mk A560
       clear A560
       simp only [Option.some.injEq, Prod.mk.injEq] at H
       obtain ⟨rfl, rfl⟩ := H
       go_wp2_with (first | ((with_reducible refine gate_callee (f := 73) rfl ?_); refine goesL_ (some 66) rfl rfl Tryd.func73 (by kernel_rfl) rfl #[.int .i64 x8_2] rfl ZZ19826e ?_; (with_reducible refine (impl_amountOr.calls x8_2 t278 t279 _ A56.out).mono ?_); rintro e w' ⟨rfl, ⟨nd, rfl⟩⟩; refine ⟨_, rfl, ?_⟩))
       go_ret2
       exact ⟨by first | rfl | (simp [errW_none, errW_some] <;> rfl) | (simp [*, errW_none, errW_some] <;> rfl), by repeat (first | (with_reducible first | exact HB.out | apply below_alloc | apply pw_below_drewN | apply below_drew1 | refine below_set ?_ GE274.out) | exact HB.out)⟩
end Go.Proofs.YtccdjchaaeligaaDoor.XFnExactResultOf

-- Printed by wip/tools/xprint.py, a program of this session, over the kit's print; Lean checks it.
import Derived.Test.YtccdjchaaeligaaDoorXFnExactResultOf1
import Derived.Test.YtccdjchaaeligaaDoorXFnExactResultOf0
import Derived.Test.YtccdjchaaeligaaDoorXFnExactResultOf4
import Derived.Test.YtccdjchaaeligaaDoorXFnExactResultOf6
import Derived.Test.YtccdjchaaeligaaDoorXFnExactResultOf7
namespace Go.Proofs.YtccdjchaaeligaaDoor.XFnExactResultOf
open Go.Proofs.YtccdjchaaeligaaDoor.Short Go.RowKit Go.Proofs.YtccdjchaaeligaaDoorW.PrintWords Go.Proofs.YtccdjchaaeligaaDoorW.PrintLast Go.Proofs.YtccdjchaaeligaaDoorW.PrintMore
attribute [local go_sem] max2_int min2_int max_two min_two max_three min_three max_four min_four   -- for this text's walks alone
set_option linter.unusedVariables false
set_option linter.unusedSimpArgs false
theorem ZZc699e7 {p : Prop} (h : p := by (with_reducible repeat (first | refine blk_drewN ?_ _ | refine blk_drew ?_ | refine blk_alloc ?_ _)); exact BK210.out) : p := h
theorem ZZafa3e9 {p : Prop} (h : p := by repeat (first | (with_reducible first | exact HB.out | apply below_alloc | apply pw_below_drewN | apply below_drew1 | refine below_set ?_ GE210.out) | exact HB.out)) : p := h
/-! ### spec_ResultOf: function 21 -/
mutual
def spec_ResultOf.j0 : Nat → Int → Int → Bool → List (S48) → List (S63) → Option (Int × Bool)
 | 0, _, _, _, _, _ => none
 | k + 1, x1, x2, x24, x211000, x211001 => if x24 = true then (some (0, false)) else (spec_ResultOf.l0 k x1 x2 0 0 x211000 x211001)
def spec_ResultOf.l0 : Nat → Int → Int → Int → Int → List (S48) → List (S63) → Option (Int × Bool)
 | 0, _, _, _, _, _, _ => none
 | k + 1, x1, x2, x8, x9, x211000, x211001 => if x9 < (x211001.length : Int) then (if 0 ≤ x9 then (spec_ResultOf.l1 k x1 x2 x8 x9 0 x211000 x211001 ((rd_T63 x211001 x9).f0) ((rd_T63 x211001 x9).f1) ((rd_T63 x211001 x9).f2)) else (none)) else ((spec_l2Amount.f x8).bind fun t221 => (if t221 = true then (some (x8, true)) else (some (0, false))))
def spec_ResultOf.l1 : Nat → Int → Int → Int → Int → Int → List (S48) → List (S63) → Int → ByteArray → List (S70) → Option (Int × Bool)
 | 0, _, _, _, _, _, _, _, _, _, _ => none
 | k + 1, x1, x2, x8, x9, x11, x211000, x211001, x216000, x216001, x216002 => if x11 < (x216002.length : Int) then ((spec_l1In.f x216000 x1 x2).bind fun t216 => (if t216 = true then (spec_ResultOf.j3 k x1 x2 x8 x9 x11 (x216001.toList != ([99, 108, 111, 115, 105, 110, 103] : List UInt8)) x211000 x211001 x216000 x216001 x216002) else (spec_ResultOf.j3 k x1 x2 x8 x9 x11 false x211000 x211001 x216000 x216001 x216002))) else (spec_ResultOf.j3 k x1 x2 x8 x9 x11 false x211000 x211001 x216000 x216001 x216002)
def spec_ResultOf.j3 : Nat → Int → Int → Int → Int → Int → Bool → List (S48) → List (S63) → Int → ByteArray → List (S70) → Option (Int × Bool)
 | 0, _, _, _, _, _, _, _, _, _, _, _ => none
 | k + 1, x1, x2, x8, x9, x11, x53, x211000, x211001, x216000, x216001, x216002 => if x53 = true then (if 0 ≤ x11 then (if x11 < (x216002.length : Int) then (if 0 ≤ ((rd_T70 x216002 x11).f0) then (if ((rd_T70 x216002 x11).f0) < (x211000.length : Int) then ((spec_l26Temporary.f ((rd_T48 x211000 ((rd_T70 x216002 x11).f0)).f0) ((rd_T48 x211000 ((rd_T70 x216002 x11).f0)).f1)).bind fun t219 => (if t219 = true then (spec_ResultOf.l1 k x1 x2 (wrap64 (x8 - ((rd_T70 x216002 x11).f1))) x9 (wrap64 (x11 + 1)) x211000 x211001 x216000 x216001 x216002) else (spec_ResultOf.l1 k x1 x2 x8 x9 (wrap64 (x11 + 1)) x211000 x211001 x216000 x216001 x216002))) else (none)) else (none)) else (none)) else (none)) else (spec_ResultOf.l0 k x1 x2 x8 (wrap64 (x9 + 1)) x211000 x211001)
end
def spec_ResultOf.f (k : Nat) (l0_0 : List (S48)) (l0_1 : List (S63)) (a1 : Int) (a2 : Int) : Option (Int × Bool) := (spec_l26Good.f k l0_0 l0_1).bind fun t211 => (if t211 = true then ((spec_l3Good.f a1).bind fun t212 => (if t212 = true then ((spec_l3Good.f a2).bind fun t213 => (spec_ResultOf.j0 k a1 a2 (!t213) l0_0 l0_1)) else (spec_ResultOf.j0 k a1 a2 true l0_0 l0_1))) else (spec_ResultOf.j0 k a1 a2 true l0_0 l0_1))
theorem spec_ResultOf.mono_l : ∀ k, (∀ y0 y1 y2 y3 y4, LeO (spec_ResultOf.j0 k y0 y1 y2 y3 y4) (spec_ResultOf.j0 (k + 1) y0 y1 y2 y3 y4)) ∧ (∀ y0 y1 y2 y3 y4 y5, LeO (spec_ResultOf.l0 k y0 y1 y2 y3 y4 y5) (spec_ResultOf.l0 (k + 1) y0 y1 y2 y3 y4 y5)) ∧ (∀ y0 y1 y2 y3 y4 y5 y6 y7 y8 y9, LeO (spec_ResultOf.l1 k y0 y1 y2 y3 y4 y5 y6 y7 y8 y9) (spec_ResultOf.l1 (k + 1) y0 y1 y2 y3 y4 y5 y6 y7 y8 y9)) ∧ (∀ y0 y1 y2 y3 y4 y5 y6 y7 y8 y9 y10, LeO (spec_ResultOf.j3 k y0 y1 y2 y3 y4 y5 y6 y7 y8 y9 y10) (spec_ResultOf.j3 (k + 1) y0 y1 y2 y3 y4 y5 y6 y7 y8 y9 y10))
 | 0 => ⟨fun _ _ _ _ _ r h => by simp [spec_ResultOf.j0] at h, fun _ _ _ _ _ _ r h => by simp [spec_ResultOf.l0] at h, fun _ _ _ _ _ _ _ _ _ _ r h => by simp [spec_ResultOf.l1] at h, fun _ _ _ _ _ _ _ _ _ _ _ r h => by simp [spec_ResultOf.j3] at h⟩
 | k + 1 => by
  obtain ⟨ih0, ih1, ih2, ih3⟩ := spec_ResultOf.mono_l k
  refine ⟨?_, ?_, ?_, ?_⟩
  ·intro y0 y1 y2 y3 y4
   unfold spec_ResultOf.j0
   repeat' first
   | (with_reducible exact ih0 _ _ _ _ _)
   | (with_reducible exact ih1 _ _ _ _ _ _)
   | (with_reducible exact ih2 _ _ _ _ _ _ _ _ _ _)
   | (with_reducible exact ih3 _ _ _ _ _ _ _ _ _ _ _)
   | (with_reducible exact spec_l26Good.mono _ _ _)
   | (with_reducible exact LeO.refl _)
   | (with_reducible exact LeO.none _)
   | (with_reducible refine LeO.ite ?_ ?_)
   | (with_reducible refine LeO.bind ?_ (fun _ => ?_))
   | exact ih0 _ _ _ _ _
   | exact ih1 _ _ _ _ _ _
   | exact ih2 _ _ _ _ _ _ _ _ _ _
   | exact ih3 _ _ _ _ _ _ _ _ _ _ _
   | exact spec_l26Good.mono _ _ _
   | exact LeO.none _
   | refine LeO.ite ?_ ?_
   | refine LeO.bind ?_ (fun _ => ?_)
  ·intro y0 y1 y2 y3 y4 y5
   unfold spec_ResultOf.l0
   repeat' first
   | (with_reducible exact ih0 _ _ _ _ _)
   | (with_reducible exact ih1 _ _ _ _ _ _)
   | (with_reducible exact ih2 _ _ _ _ _ _ _ _ _ _)
   | (with_reducible exact ih3 _ _ _ _ _ _ _ _ _ _ _)
   | (with_reducible exact spec_l26Good.mono _ _ _)
   | (with_reducible exact LeO.refl _)
   | (with_reducible exact LeO.none _)
   | (with_reducible refine LeO.ite ?_ ?_)
   | (with_reducible refine LeO.bind ?_ (fun _ => ?_))
   | exact ih0 _ _ _ _ _
   | exact ih1 _ _ _ _ _ _
   | exact ih2 _ _ _ _ _ _ _ _ _ _
   | exact ih3 _ _ _ _ _ _ _ _ _ _ _
   | exact spec_l26Good.mono _ _ _
   | exact LeO.none _
   | refine LeO.ite ?_ ?_
   | refine LeO.bind ?_ (fun _ => ?_)
  ·intro y0 y1 y2 y3 y4 y5 y6 y7 y8 y9
   unfold spec_ResultOf.l1
   repeat' first
   | (with_reducible exact ih0 _ _ _ _ _)
   | (with_reducible exact ih1 _ _ _ _ _ _)
   | (with_reducible exact ih2 _ _ _ _ _ _ _ _ _ _)
   | (with_reducible exact ih3 _ _ _ _ _ _ _ _ _ _ _)
   | (with_reducible exact spec_l26Good.mono _ _ _)
   | (with_reducible exact LeO.refl _)
   | (with_reducible exact LeO.none _)
   | (with_reducible refine LeO.ite ?_ ?_)
   | (with_reducible refine LeO.bind ?_ (fun _ => ?_))
   | exact ih0 _ _ _ _ _
   | exact ih1 _ _ _ _ _ _
   | exact ih2 _ _ _ _ _ _ _ _ _ _
   | exact ih3 _ _ _ _ _ _ _ _ _ _ _
   | exact spec_l26Good.mono _ _ _
   | exact LeO.none _
   | refine LeO.ite ?_ ?_
   | refine LeO.bind ?_ (fun _ => ?_)
  ·intro y0 y1 y2 y3 y4 y5 y6 y7 y8 y9 y10
   unfold spec_ResultOf.j3
   repeat' first
   | (with_reducible exact ih0 _ _ _ _ _)
   | (with_reducible exact ih1 _ _ _ _ _ _)
   | (with_reducible exact ih2 _ _ _ _ _ _ _ _ _ _)
   | (with_reducible exact ih3 _ _ _ _ _ _ _ _ _ _ _)
   | (with_reducible exact spec_l26Good.mono _ _ _)
   | (with_reducible exact LeO.refl _)
   | (with_reducible exact LeO.none _)
   | (with_reducible refine LeO.ite ?_ ?_)
   | (with_reducible refine LeO.bind ?_ (fun _ => ?_))
   | exact ih0 _ _ _ _ _
   | exact ih1 _ _ _ _ _ _
   | exact ih2 _ _ _ _ _ _ _ _ _ _
   | exact ih3 _ _ _ _ _ _ _ _ _ _ _
   | exact spec_l26Good.mono _ _ _
   | exact LeO.none _
   | refine LeO.ite ?_ ?_
   | refine LeO.bind ?_ (fun _ => ?_)
theorem spec_ResultOf.mono : ∀ a0 a1 a2 a3 k, LeO (spec_ResultOf.f k a0 a1 a2 a3) (spec_ResultOf.f (k + 1) a0 a1 a2 a3) := by
 intro a0 a1 a2 a3 k
 obtain ⟨ih0, ih1, ih2, ih3⟩ := spec_ResultOf.mono_l k
 unfold spec_ResultOf.f
 repeat' first
  | (with_reducible exact ih0 _ _ _ _ _)
  | (with_reducible exact ih1 _ _ _ _ _ _)
  | (with_reducible exact ih2 _ _ _ _ _ _ _ _ _ _)
  | (with_reducible exact ih3 _ _ _ _ _ _ _ _ _ _ _)
  | (with_reducible exact spec_l26Good.mono _ _ _)
  | (with_reducible exact LeO.refl _)
  | (with_reducible exact LeO.none _)
  | (with_reducible refine LeO.ite ?_ ?_)
  | (with_reducible refine LeO.bind ?_ (fun _ => ?_))
  | exact ih0 _ _ _ _ _
  | exact ih1 _ _ _ _ _ _
  | exact ih2 _ _ _ _ _ _ _ _ _ _
  | exact ih3 _ _ _ _ _ _ _ _ _ _ _
  | exact spec_l26Good.mono _ _ _
  | exact LeO.none _
  | refine LeO.ite ?_ ?_
  | refine LeO.bind ?_ (fun _ => ?_)
def spec_ResultOf.T11 : Bool × List (List Nat × List Nat) := (true, [([], []), ([0], [0]), ([], []), ([2], [2]), ([], []), ([3, 4], [3, 4]), ([5], [5]), ([6], [6]), ([1, 7], [1, 7]), ([8], [8]), ([9], [9])])
def spec_ResultOf.B11 : List Nat := [0, 1, 0, 4, 0, 28, 60, 124, 255, 511, 1023]
theorem spec_ResultOf.tab11 : rtab .any (opsOf Tryd.f21 11) = spec_ResultOf.T11 := by kernel_rfl
theorem spec_ResultOf.bits11 : waitsOk spec_ResultOf.T11.2 spec_ResultOf.B11 = true := by kernel_rfl
set_option maxHeartbeats 8000000 in
set_option maxRecDepth 100000 in
theorem spec_ResultOf.calls (k : Nat) (A0_0 : Option Addr) (c0_0 : Nat) (l0_0 : List (S48)) (A0_1 : Option Addr) (c0_1 : Nat) (l0_1 : List (S63)) (a1 : Int) (a2 : Int) (r1 : Int) (r2 : Bool) (w : World) (hr0_0 : Kd.C k48 w A0_0 l0_0.length l0_0) (hc0_0 : l0_0.length ≤ c0_0) (hr0_1 : Kd.C k63 w A0_1 l0_1.length l0_1) (hc0_1 : l0_1.length ≤ c0_1) (h : spec_ResultOf.f k l0_0 l0_1 a1 a2 = some (r1, r2)) :
 Calls Tryd.prog 21 #[.agg #[.slice A0_0 l0_0.length c0_0, .slice A0_1 l0_1.length c0_1], .int .i64 a1, .int .i64 a2] w fun e w' => e = .returned (.tuple #[.int .i64 r1, .bool r2]) ∧ Below w.heap.size w w' := by
 have hu31 := Tryd.underlying31
 have hu63 := Tryd.underlying63
 have hu48 := Tryd.underlying48
 have HR0_0 := Aside0.mk hr0_0
 have HC0_0 := Aside0.mk hc0_0
 clear hr0_0 hc0_0
 have HR0_1 := Aside0.mk hr0_1
 have HC0_1 := Aside0.mk hc0_1
 clear hr0_1 hc0_1
 have HB := Aside0.mk (Below.refl w.heap.size w)
 have H : ((spec_l26Good.f k l0_0 l0_1).bind fun t211 => (if t211 = true then ((spec_l3Good.f a1).bind fun t212 => (if t212 = true then ((spec_l3Good.f a2).bind fun t213 => (spec_ResultOf.j0 k a1 a2 (!t213) l0_0 l0_1)) else (spec_ResultOf.j0 k a1 a2 true l0_0 l0_1))) else (spec_ResultOf.j0 k a1 a2 true l0_0 l0_1))) = some (r1, r2) := h
 clear h
 have HC4 := Aside0.mk H
 clear H
 go_enter Tryd.func21, Tryd.ntmps21
 go_upto_region 1 with (first | ((with_reducible refine gate_dst (N := 3) rfl ?_); refine box_event ?hg (N := 3) ?hd (cs := #[.slice A0_0 l0_0.length c0_0, .slice A0_1 l0_1.length c0_1]) (t := 31) ?hr ?_; (case hd => rfl); (case hg => rfl); (case hr => first | (go_simp; done) | (go_simp; rfl)); intro gb210 hg w5 hbox hb; have n0_ := Aside0.mk (below_step ZZ605003 hb); have n1_ := Aside0.mk (hbox); have n2_ := Aside0.mk ((by rw [hg]; exact (below_size ZZ605003) : w.heap.size ≤ gb210)); have n3_ := Aside0.mk ((by rw [hg]; exact (below_size ZZ605003) : w.heap.size ≤ gb210)); clear HB; have HB := n0_; have BK210 := n1_; have GW210 := n2_; have GE210 := n3_; clear n0_ n1_ n2_ n3_; clear hb hbox hg))
 (try simp only [Act.put, List.setIfInBounds_toArray, List.set_cons_zero, List.set_cons_succ])
 go_cut [24] (fun v24 wc => ∃ (kq : Nat) (x24_3 : Bool), v24 = .bool x24_3 ∧ Aside0 (spec_ResultOf.j0 kq a1 a2 x24_3 l0_0 l0_1 = some (r1, r2)) ∧ Aside0 (kq ≤ k) ∧ Aside0 (wc.heap[gb210]? = some (.cells #[(.slice A0_0 l0_0.length c0_0), (.slice A0_1 l0_1.length c0_1)] 31 (0, 0))) ∧ Aside0 (Below w.heap.size w wc))
 case first =>
  have H := HC4.out
  clear HC4
  replace H := Option.bind_eq_some_iff.mp H
  obtain ⟨t211, A60, H⟩ := H
  replace H : (if t211 = true then ((spec_l3Good.f a1).bind fun t212 => (if t212 = true then ((spec_l3Good.f a2).bind fun t213 => (spec_ResultOf.j0 k a1 a2 (!t213) l0_0 l0_1)) else (spec_ResultOf.j0 k a1 a2 true l0_0 l0_1))) else (spec_ResultOf.j0 k a1 a2 true l0_0 l0_1)) = some (r1, r2) := H
  have A6 := Aside0.mk A60
  clear A60
  by_cases c7 : t211 = true
  ·subst c7
   have H1 : ((spec_l3Good.f a1).bind fun t212 => (if t212 = true then ((spec_l3Good.f a2).bind fun t213 => (spec_ResultOf.j0 k a1 a2 (!t213) l0_0 l0_1)) else (spec_ResultOf.j0 k a1 a2 true l0_0 l0_1))) = some (r1, r2) := by rw [if_pos rfl] at H; exact H
   clear H
   have H := H1
   clear H1
   replace H := Option.bind_eq_some_iff.mp H
   obtain ⟨t212, A80, H⟩ := H
   replace H : (if t212 = true then ((spec_l3Good.f a2).bind fun t213 => (spec_ResultOf.j0 k a1 a2 (!t213) l0_0 l0_1)) else (spec_ResultOf.j0 k a1 a2 true l0_0 l0_1)) = some (r1, r2) := H
   have A8 := Aside0.mk A80
   clear A80
   by_cases c9 : t212 = true
   ·subst c9
    have H1 : ((spec_l3Good.f a2).bind fun t213 => (spec_ResultOf.j0 k a1 a2 (!t213) l0_0 l0_1)) = some (r1, r2) := by rw [if_pos rfl] at H; exact H
    clear H
    have H := H1
    clear H1
    replace H := Option.bind_eq_some_iff.mp H
    obtain ⟨t213, A100, H⟩ := H
    replace H : (spec_ResultOf.j0 k a1 a2 (!t213) l0_0 l0_1) = some (r1, r2) := H
    have A10 := Aside0.mk A100
    clear A100
    have H' := Aside0.mk H
    clear H
    have hcz11_0 : w5.cell? ⟨gb210, 0, none⟩ = some (.slice A0_0 l0_0.length c0_0) := (blk_cell BK210.out 0).trans rfl
    have hcz11_1 : w5.cell? ⟨gb210, 1, none⟩ = some (.slice A0_1 l0_1.length c0_1) := (blk_cell BK210.out 1).trans rfl
    have hfz11_0 := blk_frozen BK210.out 0
    have hfz11_1 := blk_frozen BK210.out 1
    go_wp2_with (first | ((with_reducible refine gate_callee (f := 52) rfl ?_); refine goesL_ (some 13) rfl rfl Tryd.func52 (by kernel_rfl) rfl #[.agg #[.slice A0_0 l0_0.length c0_0, .slice A0_1 l0_1.length c0_1]] rfl ZZ19826e ?_; (with_reducible refine (spec_l26Good.calls k _ _ l0_0 _ _ l0_1 true _ ?side1 ?side2 ?side3 ?side4 A6.out).mono ?_); (case side1 => repeat (first | exact (Kd.C_below HR0_0.out HB.out) | (with_reducible refine Kd.C_alloc ?_ _) | (with_reducible refine Kd.C_drewN ?_ _) | (with_reducible refine Kd.C_drew ?_))); (case side2 => exact HC0_0.out); (case side3 => repeat (first | exact (Kd.C_below HR0_1.out HB.out) | (with_reducible refine Kd.C_alloc ?_ _) | (with_reducible refine Kd.C_drewN ?_ _) | (with_reducible refine Kd.C_drew ?_))); (case side4 => exact HC0_1.out); rintro e w12 ⟨rfl, hb⟩; refine ⟨_, rfl, ?_⟩; have n0_ := Aside0.mk (blk_below (g := gb210) (o := .cells #[.slice A0_0 l0_0.length c0_0, .slice A0_1 l0_1.length c0_1] 31 (0, 0)) ZZc699e7 hb); have n1_ := Aside0.mk (below_step ZZafa3e9 hb); clear BK210; clear HB; have BK210 := n0_; have HB := n1_; clear n0_ n1_; (try clear hb); (try clear hb2); (try clear hk); (try clear hi)) | (go_at_call 66; (with_reducible refine (spec_l3Good.calls a1 true _ A8.out).mono ?_); rintro e w' ⟨rfl, ⟨nd, rfl⟩⟩) | (go_at_call 66; (with_reducible refine (spec_l3Good.calls a2 t213 _ A10.out).mono ?_); rintro e w' ⟨rfl, ⟨nd, rfl⟩⟩))
    go_meet
    case rel => exact ⟨_, (!t213), ZZ0ab324, H', ⟨by first | omega | exact Nat.le_refl _⟩, ⟨by (with_reducible repeat (first | refine blk_drewN ?_ _ | refine blk_drew ?_ | refine blk_alloc ?_ _)); exact BK210.out⟩, ⟨by repeat (first | (with_reducible first | exact HB.out | apply below_alloc | apply pw_below_drewN | apply below_drew1 | refine below_set ?_ GE210.out) | exact HB.out)⟩⟩
   ·replace c9 := Bool.eq_false_iff.mpr c9
    subst c9
    have H1 : (spec_ResultOf.j0 k a1 a2 true l0_0 l0_1) = some (r1, r2) := by rw [if_neg (show ¬ (false = true) by decide)] at H; exact H
    clear H
    have H := H1
    clear H1
    have H' := Aside0.mk H
    clear H
    have hcz13_0 : w5.cell? ⟨gb210, 0, none⟩ = some (.slice A0_0 l0_0.length c0_0) := (blk_cell BK210.out 0).trans rfl
    have hcz13_1 : w5.cell? ⟨gb210, 1, none⟩ = some (.slice A0_1 l0_1.length c0_1) := (blk_cell BK210.out 1).trans rfl
    have hfz13_0 := blk_frozen BK210.out 0
    have hfz13_1 := blk_frozen BK210.out 1
    go_wp2_with (first | ((with_reducible refine gate_callee (f := 52) rfl ?_); refine goesL_ (some 13) rfl rfl Tryd.func52 (by kernel_rfl) rfl #[.agg #[.slice A0_0 l0_0.length c0_0, .slice A0_1 l0_1.length c0_1]] rfl ZZ19826e ?_; (with_reducible refine (spec_l26Good.calls k _ _ l0_0 _ _ l0_1 true _ ?side1 ?side2 ?side3 ?side4 A6.out).mono ?_); (case side1 => repeat (first | exact (Kd.C_below HR0_0.out HB.out) | (with_reducible refine Kd.C_alloc ?_ _) | (with_reducible refine Kd.C_drewN ?_ _) | (with_reducible refine Kd.C_drew ?_))); (case side2 => exact HC0_0.out); (case side3 => repeat (first | exact (Kd.C_below HR0_1.out HB.out) | (with_reducible refine Kd.C_alloc ?_ _) | (with_reducible refine Kd.C_drewN ?_ _) | (with_reducible refine Kd.C_drew ?_))); (case side4 => exact HC0_1.out); rintro e w14 ⟨rfl, hb⟩; refine ⟨_, rfl, ?_⟩; have n0_ := Aside0.mk (blk_below (g := gb210) (o := .cells #[.slice A0_0 l0_0.length c0_0, .slice A0_1 l0_1.length c0_1] 31 (0, 0)) ZZc699e7 hb); have n1_ := Aside0.mk (below_step ZZafa3e9 hb); clear BK210; clear HB; have BK210 := n0_; have HB := n1_; clear n0_ n1_; (try clear hb); (try clear hb2); (try clear hk); (try clear hi)) | (go_at_call 66; (with_reducible refine (spec_l3Good.calls a1 false _ A8.out).mono ?_); rintro e w' ⟨rfl, ⟨nd, rfl⟩⟩))
    go_meet
    case rel => exact ⟨_, (true), ZZ0ab324, H', ⟨by first | omega | exact Nat.le_refl _⟩, ⟨by (with_reducible repeat (first | refine blk_drewN ?_ _ | refine blk_drew ?_ | refine blk_alloc ?_ _)); exact BK210.out⟩, ⟨by repeat (first | (with_reducible first | exact HB.out | apply below_alloc | apply pw_below_drewN | apply below_drew1 | refine below_set ?_ GE210.out) | exact HB.out)⟩⟩
  ·replace c7 := Bool.eq_false_iff.mpr c7
   subst c7
   have H1 : (spec_ResultOf.j0 k a1 a2 true l0_0 l0_1) = some (r1, r2) := by rw [if_neg (show ¬ (false = true) by decide)] at H; exact H
   clear H
   have H := H1
   clear H1
   have H' := Aside0.mk H
   clear H
   have hcz15_0 : w5.cell? ⟨gb210, 0, none⟩ = some (.slice A0_0 l0_0.length c0_0) := (blk_cell BK210.out 0).trans rfl
   have hcz15_1 : w5.cell? ⟨gb210, 1, none⟩ = some (.slice A0_1 l0_1.length c0_1) := (blk_cell BK210.out 1).trans rfl
   have hfz15_0 := blk_frozen BK210.out 0
   have hfz15_1 := blk_frozen BK210.out 1
   go_wp2_with (first | ((with_reducible refine gate_callee (f := 52) rfl ?_); refine goesL_ (some 13) rfl rfl Tryd.func52 (by kernel_rfl) rfl #[.agg #[.slice A0_0 l0_0.length c0_0, .slice A0_1 l0_1.length c0_1]] rfl ZZ19826e ?_; (with_reducible refine (spec_l26Good.calls k _ _ l0_0 _ _ l0_1 false _ ?side1 ?side2 ?side3 ?side4 A6.out).mono ?_); (case side1 => repeat (first | exact (Kd.C_below HR0_0.out HB.out) | (with_reducible refine Kd.C_alloc ?_ _) | (with_reducible refine Kd.C_drewN ?_ _) | (with_reducible refine Kd.C_drew ?_))); (case side2 => exact HC0_0.out); (case side3 => repeat (first | exact (Kd.C_below HR0_1.out HB.out) | (with_reducible refine Kd.C_alloc ?_ _) | (with_reducible refine Kd.C_drewN ?_ _) | (with_reducible refine Kd.C_drew ?_))); (case side4 => exact HC0_1.out); rintro e w16 ⟨rfl, hb⟩; refine ⟨_, rfl, ?_⟩; have n0_ := Aside0.mk (blk_below (g := gb210) (o := .cells #[.slice A0_0 l0_0.length c0_0, .slice A0_1 l0_1.length c0_1] 31 (0, 0)) ZZc699e7 hb); have n1_ := Aside0.mk (below_step ZZafa3e9 hb); clear BK210; clear HB; have BK210 := n0_; have HB := n1_; clear n0_ n1_; (try clear hb); (try clear hb2); (try clear hk); (try clear hi)))
   go_meet
   case rel => exact ⟨_, (true), ZZ0ab324, H', ⟨by first | omega | exact Nat.le_refl _⟩, ⟨by (with_reducible repeat (first | refine blk_drewN ?_ _ | refine blk_drew ?_ | refine blk_alloc ?_ _)); exact BK210.out⟩, ⟨by repeat (first | (with_reducible first | exact HB.out | apply below_alloc | apply pw_below_drewN | apply below_drew1 | refine below_set ?_ GE210.out) | exact HB.out)⟩⟩
 case rest =>
  clear HC4
  try clear c2
  try clear p2
  try clear c5
  try clear c7
  try clear c9
  try clear hcz11_0
  try clear hcz11_1
  try clear hcz13_0
  try clear hcz13_1
  try clear hcz15_0
  try clear hcz15_1
  try clear hfz11_0
  try clear hfz11_1
  try clear hfz13_0
  try clear hfz13_1
  try clear hfz15_0
  try clear hfz15_1
  obtain ⟨kq, x24_3, rfl, HA, HJ3, BK210, HB⟩ := hcut
  cases kq with
  | zero => exact absurd HA.out (by simp [spec_ResultOf.j0])
  | succ kj3 =>
   have H := HA.out
   clear HA
   simp only [spec_ResultOf.j0] at H
   by_cases c17 : x24_3 = true
   ·subst c17
    have H1 : (some (0, false)) = some (r1, r2) := by rw [if_pos rfl] at H; exact H
    clear H
    have H := H1
    clear H1
    simp only [Option.some.injEq, Prod.mk.injEq] at H
    obtain ⟨rfl, rfl⟩ := H
    go_wp2
    go_ret2
    exact ⟨by first | rfl | (simp [errW_none, errW_some] <;> rfl) | (simp [*, errW_none, errW_some] <;> rfl), by repeat (first | (with_reducible first | exact HB.out | apply below_alloc | apply pw_below_drewN | apply below_drew1 | refine below_set ?_ GE210.out) | exact HB.out)⟩
   ·replace c17 := Bool.eq_false_iff.mpr c17
    subst c17
    have H1 : (spec_ResultOf.l0 kj3 a1 a2 0 0 l0_0 l0_1) = some (r1, r2) := by rw [if_neg (show ¬ (false = true) by decide)] at H; exact H
    clear H
    have H := H1
    clear H1
    have H' := Aside0.mk H
    clear H
    go_wp2
    go_loopg [8, 9] kj3 (fun kq v8 v9 w' => ∃ (x8_2 : Int) (x9_2 : Int), v8 = .int .i64 x8_2 ∧ v9 = .int .i64 x9_2 ∧ Aside0 (spec_ResultOf.l0 kq a1 a2 x8_2 x9_2 l0_0 l0_1 = some (r1, r2)) ∧ Aside0 (kq ≤ kj3) ∧ Aside0 (w'.heap[gb210]? = some (.cells #[(.slice A0_0 l0_0.length c0_0), (.slice A0_1 l0_1.length c0_1)] 31 (0, 0))) ∧ Aside0 (Below w.heap.size w w'))
    case atStart => exact ⟨(0), (0), ZZ0ab324, ZZ0ab324, H', ⟨Nat.le_refl _⟩, ⟨by (with_reducible repeat (first | refine blk_drewN ?_ _ | refine blk_drew ?_ | refine blk_alloc ?_ _)); exact BK210.out⟩, ⟨by repeat (first | (with_reducible first | exact HB.out | apply below_alloc | apply pw_below_drewN | apply below_drew1 | refine below_set ?_ GE210.out) | exact HB.out)⟩⟩
    case round =>
     clear H'
     try clear c1
     try clear c2
     try clear p2
     try clear c5
     try clear c7
     try clear c9
     try clear c17
     try clear hcz11_0
     try clear hcz11_1
     try clear hcz13_0
     try clear hcz13_1
     try clear hcz15_0
     try clear hcz15_1
     try clear hfz11_0
     try clear hfz11_1
     try clear hfz13_0
     try clear hfz13_1
     try clear hfz15_0
     try clear hfz15_1
     try clear p2
     obtain ⟨x8_2, x9_2, rfl, rfl, HA, HK2, BK210, HB⟩ := hrel
     cases gk with
     | zero => exact absurd HA.out (by simp [spec_ResultOf.l0])
     | succ k2 =>
      have H := HA.out
      clear HA
      simp only [spec_ResultOf.l0] at H
      by_cases c18 : x9_2 < (l0_1.length : Int)
      ·rw [if_pos c18] at H
       have c18b0 : decide (x9_2 < (l0_1.length : Int)) = true := decide_eq_true c18
       clear c18
       by_cases c19 : 0 ≤ x9_2
       ·rw [if_pos c19] at H
        have c19b0 : decide (0 ≤ x9_2) = true := decide_eq_true c19
        clear c19
        have H' := Aside0.mk H
        clear H
        have hcz20_0 : wr.cell? ⟨gb210, 0, none⟩ = some (.slice A0_0 l0_0.length c0_0) := (blk_cell BK210.out 0).trans rfl
        have hcz20_1 : wr.cell? ⟨gb210, 1, none⟩ = some (.slice A0_1 l0_1.length c0_1) := (blk_cell BK210.out 1).trans rfl
        have hfz20_0 := blk_frozen BK210.out 0
        have hfz20_1 := blk_frozen BK210.out 1
        have p214 : 0 ≤ (x9_2 : Int) := of_decide_eq_true ZZ853400
        have q214 : x9_2 < (l0_1.length : Int) := of_decide_eq_true ZZ853400
        obtain ⟨ad214, A214_2, c214_2, e214, hx214_0, hx214_1, hx214_2, hl214_2, hi214_2⟩ := at_T63 HR0_1.out x9_2 p214 q214
        cases e214
        replace hx214_0 := (HB.out.cell (World.block_lt_of_cell? w _ hx214_0)).trans hx214_0
        replace hx214_1 := (HB.out.cell (World.block_lt_of_cell? w _ hx214_1)).trans hx214_1
        replace hx214_2 := (HB.out.cell (World.block_lt_of_cell? w _ hx214_2)).trans hx214_2
        have HR214_2 := Aside0.mk hi214_2
        have HC214_2 := Aside0.mk hl214_2
        clear hi214_2 hl214_2
        replace p214 := eq_true p214
        replace q214 := eq_true q214
        go_wp2_with (first | ((with_reducible refine gate_dst (N := 10) rfl ?_); refine box_event ?hg (N := 10) ?hd (cs := #[.int .i64 0, .string (⟨#[]⟩ : ByteArray), .slice none 0 0]) (t := 63) ?hr ?_; (case hd => rfl); (case hg => rfl); (case hr => first | (go_simp; done) | (go_simp; rfl)); intro gb215 hg w21 hbox hb; have n0_ := Aside0.mk (blk_below (g := gb210) (o := .cells #[.slice A0_0 l0_0.length c0_0, .slice (some ad214) l0_1.length c0_1] 31 (0, 0)) ZZc699e7 hb); have n1_ := Aside0.mk (below_step ZZafa3e9 hb); have n2_ := Aside0.mk (hbox); have n3_ := Aside0.mk ((by rw [hg]; exact (below_size ZZafa3e9) : w.heap.size ≤ gb215)); have n4_ := Aside0.mk ((by rw [hg]; exact (below_size ZZafa3e9) : w.heap.size ≤ gb215)); have n5_ := Aside0.mk ((by rw [hg]; exact Nat.ne_of_lt (blk_lt (g := gb210) (o := .cells #[.slice A0_0 l0_0.length c0_0, .slice (some ad214) l0_1.length c0_1] 31 (0, 0)) ZZc699e7) : gb210 ≠ gb215)); have n6_ := Aside0.mk ((by rw [hg]; exact Nat.ne_of_gt (blk_lt (g := gb210) (o := .cells #[.slice A0_0 l0_0.length c0_0, .slice (some ad214) l0_1.length c0_1] 31 (0, 0)) ZZc699e7) : gb215 ≠ gb210)); clear BK210; clear HB; have BK210 := n0_; have HB := n1_; have BK215 := n2_; have GW215 := n3_; have GE215 := n4_; have NB210_215 := n5_; have NB215_210 := n6_; clear n0_ n1_ n2_ n3_ n4_ n5_ n6_; clear hb hbox hg; have hnb22 := NB215_210.out; have hnc22 := NB210_215.out; have hcz23_0 : w21.cell? ⟨gb215, 0, none⟩ = some (.int .i64 0) := (blk_cell BK215.out 0).trans rfl; have hcz23_1 : w21.cell? ⟨gb215, 1, none⟩ = some (.string (⟨#[]⟩ : ByteArray)) := (blk_cell BK215.out 1).trans rfl; have hcz23_2 : w21.cell? ⟨gb215, 2, none⟩ = some (.slice none 0 0) := (blk_cell BK215.out 2).trans rfl; have hfz23_0 := blk_frozen BK215.out 0; have hfz23_1 := blk_frozen BK215.out 1; have hfz23_2 := blk_frozen BK215.out 2))
        go_loopg [8, 11] k2 (fun kq v8 v11 w' => ∃ (x8_3 : Int) (x11_3 : Int), v8 = .int .i64 x8_3 ∧ v11 = .int .i64 x11_3 ∧ Aside0 (spec_ResultOf.l1 kq a1 a2 x8_3 x9_2 x11_3 l0_0 l0_1 ((rd_T63 l0_1 x9_2).f0) ((rd_T63 l0_1 x9_2).f1) ((rd_T63 l0_1 x9_2).f2) = some (r1, r2)) ∧ Aside0 (kq ≤ k2) ∧ Aside0 (w'.heap[gb210]? = some (.cells #[(.slice A0_0 l0_0.length c0_0), (.slice (some ad214) l0_1.length c0_1)] 31 (0, 0))) ∧ Aside0 (w'.heap[gb215]? = some (.cells #[.int .i64 ((rd_T63 l0_1 x9_2).f0), .string ((rd_T63 l0_1 x9_2).f1), (.slice A214_2 ((rd_T63 l0_1 x9_2).f2).length c214_2)] 63 (0, 0))) ∧ Aside0 (Below w.heap.size w w'))
        case atStart => exact ⟨(x8_2), (0), ZZ0ab324, ZZ0ab324, H', ⟨Nat.le_refl _⟩, ⟨by (with_reducible repeat (first | refine blk_drewN ?_ _ | refine blk_drew ?_ | refine blk_alloc ?_ _)); refine blk_far ?_ NB210_215.out _; (with_reducible repeat (first | refine blk_drewN ?_ _ | refine blk_drew ?_ | refine blk_alloc ?_ _)); refine blk_far ?_ NB210_215.out _; (with_reducible repeat (first | refine blk_drewN ?_ _ | refine blk_drew ?_ | refine blk_alloc ?_ _)); refine blk_far ?_ NB210_215.out _; (with_reducible repeat (first | refine blk_drewN ?_ _ | refine blk_drew ?_ | refine blk_alloc ?_ _)); exact BK210.out⟩, ⟨by (with_reducible repeat (first | refine blk_drewN ?_ _ | refine blk_drew ?_ | refine blk_alloc ?_ _)); refine blk_put (cs := #[.int .i64 ((rd_T63 l0_1 x9_2).f0), .string ((rd_T63 l0_1 x9_2).f1), .slice none 0 0]) ?_ 2 _ rfl; (with_reducible repeat (first | refine blk_drewN ?_ _ | refine blk_drew ?_ | refine blk_alloc ?_ _)); refine blk_put (cs := #[.int .i64 ((rd_T63 l0_1 x9_2).f0), .string (⟨#[]⟩ : ByteArray), .slice none 0 0]) ?_ 1 _ rfl; (with_reducible repeat (first | refine blk_drewN ?_ _ | refine blk_drew ?_ | refine blk_alloc ?_ _)); refine blk_put (cs := #[.int .i64 0, .string (⟨#[]⟩ : ByteArray), .slice none 0 0]) ?_ 0 _ rfl; (with_reducible repeat (first | refine blk_drewN ?_ _ | refine blk_drew ?_ | refine blk_alloc ?_ _)); exact BK215.out⟩, ⟨by repeat (first | (with_reducible first | exact HB.out | apply below_alloc | apply pw_below_drewN | apply below_drew1 | refine below_set ?_ GE210.out | refine below_set ?_ GE215.out) | exact HB.out)⟩⟩
        case round =>
         clear H'
         try clear c1
         try clear c2
         try clear p2
         try clear q2
         try clear hx2
         try clear c5
         try clear c7
         try clear c9
         try clear c17
         try clear c18
         try clear c18b0
         try clear c19
         try clear c19b0
         try clear c21
         try clear p21
         try clear q21
         try clear hx21
         try clear c22
         try clear hcz11_0
         try clear hcz11_1
         try clear hcz13_0
         try clear hcz13_1
         try clear hcz15_0
         try clear hcz15_1
         try clear hcz20_0
         try clear hcz20_1
         try clear hcz23_0
         try clear hcz23_1
         try clear hcz23_2
         try clear hfz11_0
         try clear hfz11_1
         try clear hfz13_0
         try clear hfz13_1
         try clear hfz15_0
         try clear hfz15_1
         try clear hfz20_0
         try clear hfz20_1
         try clear hfz23_0
         try clear hfz23_1
         try clear hfz23_2
         try clear hx214_0
         try clear hx214_1
         try clear hx214_2
         try clear p2
         try clear p214
         try clear q214
         obtain ⟨x8_3, x11_3, rfl, rfl, HA, HK3, BK210, BK215, HB⟩ := hrel
         cases gk with
         | zero => exact absurd HA.out (by simp [spec_ResultOf.l1])
         | succ k3 =>
          have H := HA.out
          clear HA
          simp only [spec_ResultOf.l1] at H
          have HC24 := Aside0.mk H
          clear H
          go_upto_region 9 with (fail)
          go_cut [53] (fun v53 wc => ∃ (kq : Nat) (x53_23 : Bool), v53 = .bool x53_23 ∧ Aside0 (spec_ResultOf.j3 kq a1 a2 x8_3 x9_2 x11_3 x53_23 l0_0 l0_1 ((rd_T63 l0_1 x9_2).f0) ((rd_T63 l0_1 x9_2).f1) ((rd_T63 l0_1 x9_2).f2) = some (r1, r2)) ∧ Aside0 (kq ≤ k3) ∧ Aside0 (wc.heap[gb210]? = some (.cells #[(.slice A0_0 l0_0.length c0_0), (.slice (some ad214) l0_1.length c0_1)] 31 (0, 0))) ∧ Aside0 (wc.heap[gb215]? = some (.cells #[.int .i64 ((rd_T63 l0_1 x9_2).f0), .string ((rd_T63 l0_1 x9_2).f1), (.slice A214_2 ((rd_T63 l0_1 x9_2).f2).length c214_2)] 63 (0, 0))) ∧ Aside0 (Below w.heap.size w wc))
          case first =>
           have H := HC24.out
           clear HC24
           by_cases c25 : x11_3 < (((rd_T63 l0_1 x9_2).f2).length : Int)
           ·rw [if_pos c25] at H
            have c25b0 : decide (x11_3 < (((rd_T63 l0_1 x9_2).f2).length : Int)) = true := decide_eq_true c25
            clear c25
            (first | rw [c25b0] | (simp only [i64_w, i32_w]; rw [c25b0]) | skip)
            replace H := Option.bind_eq_some_iff.mp H
            obtain ⟨t216, A260, H⟩ := H
            replace H : (if t216 = true then (spec_ResultOf.j3 k3 a1 a2 x8_3 x9_2 x11_3 (((rd_T63 l0_1 x9_2).f1).toList != ([99, 108, 111, 115, 105, 110, 103] : List UInt8)) l0_0 l0_1 ((rd_T63 l0_1 x9_2).f0) ((rd_T63 l0_1 x9_2).f1) ((rd_T63 l0_1 x9_2).f2)) else (spec_ResultOf.j3 k3 a1 a2 x8_3 x9_2 x11_3 false l0_0 l0_1 ((rd_T63 l0_1 x9_2).f0) ((rd_T63 l0_1 x9_2).f1) ((rd_T63 l0_1 x9_2).f2))) = some (r1, r2) := H
            have A26 := Aside0.mk A260
            clear A260
            by_cases c27 : t216 = true
            ·subst c27
             have H1 : (spec_ResultOf.j3 k3 a1 a2 x8_3 x9_2 x11_3 (((rd_T63 l0_1 x9_2).f1).toList != ([99, 108, 111, 115, 105, 110, 103] : List UInt8)) l0_0 l0_1 ((rd_T63 l0_1 x9_2).f0) ((rd_T63 l0_1 x9_2).f1) ((rd_T63 l0_1 x9_2).f2)) = some (r1, r2) := by rw [if_pos rfl] at H; exact H
             clear H
             have H := H1
             clear H1
             have H' := Aside0.mk H
             clear H
             have hnb28 := NB215_210.out
             have hnc28 := NB210_215.out
             have hcz29_0 : wr.cell? ⟨gb215, 0, none⟩ = some (.int .i64 ((rd_T63 l0_1 x9_2).f0)) := (blk_cell BK215.out 0).trans rfl
             have hcz29_1 : wr.cell? ⟨gb215, 1, none⟩ = some (.string ((rd_T63 l0_1 x9_2).f1)) := (blk_cell BK215.out 1).trans rfl
             have hcz29_2 : wr.cell? ⟨gb215, 2, none⟩ = some (.slice A214_2 ((rd_T63 l0_1 x9_2).f2).length c214_2) := (blk_cell BK215.out 2).trans rfl
             have hfz29_0 := blk_frozen BK215.out 0
             have hfz29_1 := blk_frozen BK215.out 1
             have hfz29_2 := blk_frozen BK215.out 2
             go_wp2_with (first | (go_at_call 65; (with_reducible refine (spec_l1In.calls ((rd_T63 l0_1 x9_2).f0) a1 a2 true _ A26.out).mono ?_); rintro e w' ⟨rfl, ⟨nd, rfl⟩⟩))
             go_meet
             case rel => exact ⟨_, ((((rd_T63 l0_1 x9_2).f1).toList != ([99, 108, 111, 115, 105, 110, 103] : List UInt8))), ZZ0ab324, H', ⟨by have := HJ3.out; have := HK2.out; have := HK3.out; first | omega | exact Nat.le_refl _⟩, ⟨by (with_reducible repeat (first | refine blk_drewN ?_ _ | refine blk_drew ?_ | refine blk_alloc ?_ _)); exact BK210.out⟩, ⟨by (with_reducible repeat (first | refine blk_drewN ?_ _ | refine blk_drew ?_ | refine blk_alloc ?_ _)); exact BK215.out⟩, ⟨by repeat (first | (with_reducible first | exact HB.out | apply below_alloc | apply pw_below_drewN | apply below_drew1 | refine below_set ?_ GE210.out | refine below_set ?_ GE215.out) | exact HB.out)⟩⟩
            ·replace c27 := Bool.eq_false_iff.mpr c27
             subst c27
             have H1 : (spec_ResultOf.j3 k3 a1 a2 x8_3 x9_2 x11_3 false l0_0 l0_1 ((rd_T63 l0_1 x9_2).f0) ((rd_T63 l0_1 x9_2).f1) ((rd_T63 l0_1 x9_2).f2)) = some (r1, r2) := by rw [if_neg (show ¬ (false = true) by decide)] at H; exact H
             clear H
             have H := H1
             clear H1
             have H' := Aside0.mk H
             clear H
             have hnb30 := NB215_210.out
             have hnc30 := NB210_215.out
             have hcz31_0 : wr.cell? ⟨gb215, 0, none⟩ = some (.int .i64 ((rd_T63 l0_1 x9_2).f0)) := (blk_cell BK215.out 0).trans rfl
             have hcz31_1 : wr.cell? ⟨gb215, 1, none⟩ = some (.string ((rd_T63 l0_1 x9_2).f1)) := (blk_cell BK215.out 1).trans rfl
             have hcz31_2 : wr.cell? ⟨gb215, 2, none⟩ = some (.slice A214_2 ((rd_T63 l0_1 x9_2).f2).length c214_2) := (blk_cell BK215.out 2).trans rfl
             have hfz31_0 := blk_frozen BK215.out 0
             have hfz31_1 := blk_frozen BK215.out 1
             have hfz31_2 := blk_frozen BK215.out 2
             go_wp2_with (first | (go_at_call 65; (with_reducible refine (spec_l1In.calls ((rd_T63 l0_1 x9_2).f0) a1 a2 false _ A26.out).mono ?_); rintro e w' ⟨rfl, ⟨nd, rfl⟩⟩))
             go_meet
             case rel => exact ⟨_, (false), ZZ0ab324, H', ⟨by have := HJ3.out; have := HK2.out; have := HK3.out; first | omega | exact Nat.le_refl _⟩, ⟨by (with_reducible repeat (first | refine blk_drewN ?_ _ | refine blk_drew ?_ | refine blk_alloc ?_ _)); exact BK210.out⟩, ⟨by (with_reducible repeat (first | refine blk_drewN ?_ _ | refine blk_drew ?_ | refine blk_alloc ?_ _)); exact BK215.out⟩, ⟨by repeat (first | (with_reducible first | exact HB.out | apply below_alloc | apply pw_below_drewN | apply below_drew1 | refine below_set ?_ GE210.out | refine below_set ?_ GE215.out) | exact HB.out)⟩⟩
           ·rw [if_neg c25] at H
            have c25b0 : decide (x11_3 < (((rd_T63 l0_1 x9_2).f2).length : Int)) = false := decide_eq_false c25
            clear c25
            (first | rw [c25b0] | (simp only [i64_w, i32_w]; rw [c25b0]) | skip)
            have H' := Aside0.mk H
            clear H
            have hnb32 := NB215_210.out
            have hnc32 := NB210_215.out
            have hcz33_0 : wr.cell? ⟨gb215, 0, none⟩ = some (.int .i64 ((rd_T63 l0_1 x9_2).f0)) := (blk_cell BK215.out 0).trans rfl
            have hcz33_1 : wr.cell? ⟨gb215, 1, none⟩ = some (.string ((rd_T63 l0_1 x9_2).f1)) := (blk_cell BK215.out 1).trans rfl
            have hcz33_2 : wr.cell? ⟨gb215, 2, none⟩ = some (.slice A214_2 ((rd_T63 l0_1 x9_2).f2).length c214_2) := (blk_cell BK215.out 2).trans rfl
            have hfz33_0 := blk_frozen BK215.out 0
            have hfz33_1 := blk_frozen BK215.out 1
            have hfz33_2 := blk_frozen BK215.out 2
            go_wp2
            go_meet
            case rel => exact ⟨_, (false), ZZ0ab324, H', ⟨by have := HJ3.out; have := HK2.out; have := HK3.out; first | omega | exact Nat.le_refl _⟩, ⟨by (with_reducible repeat (first | refine blk_drewN ?_ _ | refine blk_drew ?_ | refine blk_alloc ?_ _)); exact BK210.out⟩, ⟨by (with_reducible repeat (first | refine blk_drewN ?_ _ | refine blk_drew ?_ | refine blk_alloc ?_ _)); exact BK215.out⟩, ⟨by repeat (first | (with_reducible first | exact HB.out | apply below_alloc | apply pw_below_drewN | apply below_drew1 | refine below_set ?_ GE210.out | refine below_set ?_ GE215.out) | exact HB.out)⟩⟩
          case rest =>
           clear HC24
           try clear c1
           try clear c2
           try clear p2
           try clear q2
           try clear hx2
           try clear c3
           try clear c5
           try clear c7
           try clear c9
           try clear c17
           try clear c18
           try clear c18b0
           try clear c19
           try clear c19b0
           try clear c21
           try clear p21
           try clear q21
           try clear hx21
           try clear c22
           try clear c25
           try clear c25b0
           try clear c27
           try clear c28
           try clear c30
           try clear c32
           try clear hcz11_0
           try clear hcz11_1
           try clear hcz13_0
           try clear hcz13_1
           try clear hcz15_0
           try clear hcz15_1
           try clear hcz20_0
           try clear hcz20_1
           try clear hcz23_0
           try clear hcz23_1
           try clear hcz23_2
           try clear hcz29_0
           try clear hcz29_1
           try clear hcz29_2
           try clear hcz31_0
           try clear hcz31_1
           try clear hcz31_2
           try clear hcz33_0
           try clear hcz33_1
           try clear hcz33_2
           try clear hfz11_0
           try clear hfz11_1
           try clear hfz13_0
           try clear hfz13_1
           try clear hfz15_0
           try clear hfz15_1
           try clear hfz20_0
           try clear hfz20_1
           try clear hfz23_0
           try clear hfz23_1
           try clear hfz23_2
           try clear hfz29_0
           try clear hfz29_1
           try clear hfz29_2
           try clear hfz31_0
           try clear hfz31_1
           try clear hfz31_2
           try clear hfz33_0
           try clear hfz33_1
           try clear hfz33_2
           try clear hx214_0
           try clear hx214_1
           try clear hx214_2
           try clear p2
           try clear p21
           try clear p214
           try clear q2
           try clear q21
           try clear q214
           obtain ⟨kq, x53_23, rfl, HA, HJ23, BK210, BK215, HB⟩ := hcut
           cases kq with
           | zero => exact absurd HA.out (by simp [spec_ResultOf.j3])
           | succ kj23 =>
            have H := HA.out
            clear HA
            simp only [spec_ResultOf.j3] at H
            by_cases c34 : x53_23 = true
            ·subst c34
             have H1 : (if 0 ≤ x11_3 then (if x11_3 < (((rd_T63 l0_1 x9_2).f2).length : Int) then (if 0 ≤ ((rd_T70 ((rd_T63 l0_1 x9_2).f2) x11_3).f0) then (if ((rd_T70 ((rd_T63 l0_1 x9_2).f2) x11_3).f0) < (l0_0.length : Int) then ((spec_l26Temporary.f ((rd_T48 l0_0 ((rd_T70 ((rd_T63 l0_1 x9_2).f2) x11_3).f0)).f0) ((rd_T48 l0_0 ((rd_T70 ((rd_T63 l0_1 x9_2).f2) x11_3).f0)).f1)).bind fun t219 => (if t219 = true then (spec_ResultOf.l1 kj23 a1 a2 (wrap64 (x8_3 - ((rd_T70 ((rd_T63 l0_1 x9_2).f2) x11_3).f1))) x9_2 (wrap64 (x11_3 + 1)) l0_0 l0_1 ((rd_T63 l0_1 x9_2).f0) ((rd_T63 l0_1 x9_2).f1) ((rd_T63 l0_1 x9_2).f2)) else (spec_ResultOf.l1 kj23 a1 a2 x8_3 x9_2 (wrap64 (x11_3 + 1)) l0_0 l0_1 ((rd_T63 l0_1 x9_2).f0) ((rd_T63 l0_1 x9_2).f1) ((rd_T63 l0_1 x9_2).f2)))) else (none)) else (none)) else (none)) else (none)) = some (r1, r2) := by rw [if_pos rfl] at H; exact H
             clear H
             have H := H1
             clear H1
             by_cases c35 : 0 ≤ x11_3
             ·rw [if_pos c35] at H
              have c35b0 : decide (0 ≤ x11_3) = true := decide_eq_true c35
              clear c35
              by_cases c36 : x11_3 < (((rd_T63 l0_1 x9_2).f2).length : Int)
              ·rw [if_pos c36] at H
               have c36b0 : decide (x11_3 < (((rd_T63 l0_1 x9_2).f2).length : Int)) = true := decide_eq_true c36
               clear c36
               by_cases c37 : 0 ≤ ((rd_T70 ((rd_T63 l0_1 x9_2).f2) x11_3).f0)
               ·rw [if_pos c37] at H
                have c37b0 : decide (0 ≤ ((rd_T70 ((rd_T63 l0_1 x9_2).f2) x11_3).f0)) = true := decide_eq_true c37
                clear c37
                by_cases c38 : ((rd_T70 ((rd_T63 l0_1 x9_2).f2) x11_3).f0) < (l0_0.length : Int)
                ·rw [if_pos c38] at H
                 have c38b0 : decide (((rd_T70 ((rd_T63 l0_1 x9_2).f2) x11_3).f0) < (l0_0.length : Int)) = true := decide_eq_true c38
                 clear c38
                 replace H := Option.bind_eq_some_iff.mp H
                 obtain ⟨t219, A390, H⟩ := H
                 replace H : (if t219 = true then (spec_ResultOf.l1 kj23 a1 a2 (wrap64 (x8_3 - ((rd_T70 ((rd_T63 l0_1 x9_2).f2) x11_3).f1))) x9_2 (wrap64 (x11_3 + 1)) l0_0 l0_1 ((rd_T63 l0_1 x9_2).f0) ((rd_T63 l0_1 x9_2).f1) ((rd_T63 l0_1 x9_2).f2)) else (spec_ResultOf.l1 kj23 a1 a2 x8_3 x9_2 (wrap64 (x11_3 + 1)) l0_0 l0_1 ((rd_T63 l0_1 x9_2).f0) ((rd_T63 l0_1 x9_2).f1) ((rd_T63 l0_1 x9_2).f2))) = some (r1, r2) := H
                 have A39 := Aside0.mk A390
                 clear A390
                 by_cases c40 : t219 = true
                 ·subst c40
                  have H1 : (spec_ResultOf.l1 kj23 a1 a2 (wrap64 (x8_3 - ((rd_T70 ((rd_T63 l0_1 x9_2).f2) x11_3).f1))) x9_2 (wrap64 (x11_3 + 1)) l0_0 l0_1 ((rd_T63 l0_1 x9_2).f0) ((rd_T63 l0_1 x9_2).f1) ((rd_T63 l0_1 x9_2).f2)) = some (r1, r2) := by rw [if_pos rfl] at H; exact H
                  clear H
                  have H := H1
                  clear H1
                  have H' := Aside0.mk H
                  clear H
                  try go_wp2
                  have n0_ := Aside0.mk (blk_drew BK210.out)
                  have n1_ := Aside0.mk (blk_drew BK215.out)
                  have n2_ := Aside0.mk (below_drew1 HB.out)
                  clear BK210
                  clear BK215
                  clear HB
                  have BK210 := n0_
                  have BK215 := n1_
                  have HB := n2_
                  clear n0_ n1_ n2_
                  have p217 : 0 ≤ (x11_3 : Int) := of_decide_eq_true ZZ853400
                  have q217 : x11_3 < (((rd_T63 l0_1 x9_2).f2).length : Int) := of_decide_eq_true ZZ853400
                  obtain ⟨ad217, e217, hx217_0, hx217_1⟩ := at_T70 HR214_2.out x11_3 p217 q217
                  have hw217_1 := hx217_1
                  have hw217_0 := hx217_0
                  cases e217
                  replace hx217_0 := (HB.out.cell (World.block_lt_of_cell? w _ hx217_0)).trans hx217_0
                  replace hx217_1 := (HB.out.cell (World.block_lt_of_cell? w _ hx217_1)).trans hx217_1
                  replace p217 := eq_true p217
                  replace q217 := eq_true q217
                  have p218 : 0 ≤ (((rd_T70 ((rd_T63 l0_1 x9_2).f2) x11_3).f0) : Int) := of_decide_eq_true ZZ853400
                  have q218 : ((rd_T70 ((rd_T63 l0_1 x9_2).f2) x11_3).f0) < (l0_0.length : Int) := of_decide_eq_true ZZ853400
                  obtain ⟨ad218, e218, hx218_0, hx218_1⟩ := at_T48 HR0_0.out ((rd_T70 ((rd_T63 l0_1 x9_2).f2) x11_3).f0) p218 q218
                  have hw218_1 := hx218_1
                  have hw218_0 := hx218_0
                  cases e218
                  replace hx218_0 := (HB.out.cell (World.block_lt_of_cell? w _ hx218_0)).trans hx218_0
                  replace hx218_1 := (HB.out.cell (World.block_lt_of_cell? w _ hx218_1)).trans hx218_1
                  replace p218 := eq_true p218
                  replace q218 := eq_true q218
                  refine start_ (n := 11) (S := fun w' => w'.cell? ⟨gb210, 0, none⟩ = some (.slice (some ad218) l0_0.length c0_0) ∧ w'.cell? ⟨gb210, 1, none⟩ = some (.slice (some ad214) l0_1.length c0_1) ∧ w'.cell? ⟨gb215, 0, none⟩ = some (.int .i64 ((rd_T63 l0_1 x9_2).f0)) ∧ w'.cell? ⟨gb215, 1, none⟩ = some (.string ((rd_T63 l0_1 x9_2).f1)) ∧ w'.cell? ⟨gb215, 2, none⟩ = some (.slice (some ad217) ((rd_T63 l0_1 x9_2).f2).length c214_2) ∧ w'.cell? (ad217.add ((x11_3).toNat * 2)) = some (.int .i64 ((rd_T70 ((rd_T63 l0_1 x9_2).f2) x11_3).f0)) ∧ w'.cell? ⟨(ad217.add ((x11_3).toNat * 2)).block, (ad217.add ((x11_3).toNat * 2)).off + 1, none⟩ = some (.int .i64 ((rd_T70 ((rd_T63 l0_1 x9_2).f2) x11_3).f1)) ∧ w'.cell? (ad218.add ((((rd_T70 ((rd_T63 l0_1 x9_2).f2) x11_3).f0)).toNat * 2)) = some (.string ((rd_T48 l0_0 ((rd_T70 ((rd_T63 l0_1 x9_2).f2) x11_3).f0)).f0)) ∧ w'.cell? ⟨(ad218.add ((((rd_T70 ((rd_T63 l0_1 x9_2).f2) x11_3).f0)).toNat * 2)).block, (ad218.add ((((rd_T70 ((rd_T63 l0_1 x9_2).f2) x11_3).f0)).toNat * 2)).off + 1, none⟩ = some (.int .i64 ((rd_T48 l0_0 ((rd_T70 ((rd_T63 l0_1 x9_2).f2) x11_3).f0)).f1))) (ds := []) #[false, false, false, false, false, false, false, false, false, false, false] (by kernel_rfl) rfl rfl ⟨(blk_cell BK210.out 0).trans rfl, (blk_cell BK210.out 1).trans rfl, (blk_cell BK215.out 0).trans rfl, (blk_cell BK215.out 1).trans rfl, (blk_cell BK215.out 2).trans rfl, ((HB.out.cell (World.block_lt_of_cell? w _ hw217_0)).trans hw217_0), ((HB.out.cell (World.block_lt_of_cell? w _ hw217_1)).trans hw217_1), ((HB.out.cell (World.block_lt_of_cell? w _ hw218_0)).trans hw218_0), ((HB.out.cell (World.block_lt_of_cell? w _ hw218_1)).trans hw218_1)⟩ (fun hHeld => ?_); refine with_tabW spec_ResultOf.tab11 spec_ResultOf.bits11 (fun HT_ HW_ => ?_)
                  generalize wc.drew = w41 at BK210 BK215 HB hx217_0 hx217_1 hx218_0 hx218_1 hHeld ⊢
                  refine pu 0 56 ?_
                  refine pu 2 58 ?_
                  refine pu 4 60 ?_
                  refine tk 1 57 ?_
                  refine tk 3 59 ?_
                  refine pu 5 61 ?_
                  refine pu 6 62 ?_
                  refine tk 7 63 ?_
                  refine pu 8 64 ?_
                  refine tk 9 65 ?_
                  refine one_ (i := 10) (N := some 66) #[true, true, true, true, true, true, true, true, true, true, true] rfl rfl (one_of HT_.out (by kernel_rfl)) (by decide) (fun K hK => ?_)
                  refine goes_ Tryd.func70 (by kernel_rfl) rfl #[.agg #[.string ((rd_T48 l0_0 ((rd_T70 ((rd_T63 l0_1 x9_2).f2) x11_3).f0)).f0), .int .i64 ((rd_T48 l0_0 ((rd_T70 ((rd_T63 l0_1 x9_2).f2) x11_3).f0)).f1)]] (by rfl) rfl rfl ZZ19826e ?_
                  with_reducible refine (spec_l26Temporary.calls ((rd_T48 l0_0 ((rd_T70 ((rd_T63 l0_1 x9_2).f2) x11_3).f0)).f0) ((rd_T48 l0_0 ((rd_T70 ((rd_T63 l0_1 x9_2).f2) x11_3).f0)).f1) true _ A39.out).mono ?_
                  rintro e w42 ⟨rfl, hb⟩
                  refine ⟨_, rfl, ?_⟩
                  have n0_ := Aside0.mk (blk_below (g := gb210) (o := .cells #[.slice (some ad218) l0_0.length c0_0, .slice (some ad214) l0_1.length c0_1] 31 (0, 0)) ZZc699e7 hb)
                  have n1_ := Aside0.mk (blk_below (g := gb215) (o := .cells #[.int .i64 ((rd_T63 l0_1 x9_2).f0), .string ((rd_T63 l0_1 x9_2).f1), .slice (some ad217) ((rd_T63 l0_1 x9_2).f2).length c214_2] 63 (0, 0)) (by (with_reducible repeat (first | refine blk_drewN ?_ _ | refine blk_drew ?_ | refine blk_alloc ?_ _)); exact BK215.out) hb)
                  have n2_ := Aside0.mk (below_step (by repeat (first | (with_reducible first | exact HB.out | apply below_alloc | apply pw_below_drewN | apply below_drew1 | refine below_set ?_ GE210.out | refine below_set ?_ GE215.out) | exact HB.out)) hb)
                  clear BK210
                  clear BK215
                  clear HB
                  have BK210 := n0_
                  have BK215 := n1_
                  have HB := n2_
                  clear n0_ n1_ n2_
                  (try clear hb)
                  (try clear hb2)
                  (try clear hk)
                  (try clear hi)
                  refine hK.out _ _ ⟨(blk_cell BK210.out 0).trans rfl, (blk_cell BK210.out 1).trans rfl, (blk_cell BK215.out 0).trans rfl, (blk_cell BK215.out 1).trans rfl, (blk_cell BK215.out 2).trans rfl, ((HB.out.cell (World.block_lt_of_cell? w _ hw217_0)).trans hw217_0), ((HB.out.cell (World.block_lt_of_cell? w _ hw217_1)).trans hw217_1), ((HB.out.cell (World.block_lt_of_cell? w _ hw218_0)).trans hw218_0), ((HB.out.cell (World.block_lt_of_cell? w _ hw218_1)).trans hw218_1)⟩ (fun hHeld => ?_)
                  clear hK K
                  refine norm_ (a' := ?_) ?_ ?_
                  rotate_left
                  ·show Act.put _ (some 66) _ = _
                   simp only [Act.put, List.setIfInBounds_toArray, List.set_cons_zero, List.set_cons_succ, i64_w, i32_w]
                   rfl
                  refine done_ (done_of HT_.out (by kernel_rfl)) ?_
                  have hnb43 := NB215_210.out
                  have hnc43 := NB210_215.out
                  have hcz44_0 : w42.cell? ⟨gb215, 0, none⟩ = some (.int .i64 ((rd_T63 l0_1 x9_2).f0)) := (blk_cell BK215.out 0).trans rfl
                  have hcz44_1 : w42.cell? ⟨gb215, 1, none⟩ = some (.string ((rd_T63 l0_1 x9_2).f1)) := (blk_cell BK215.out 1).trans rfl
                  have hcz44_2 : w42.cell? ⟨gb215, 2, none⟩ = some (.slice (some ad217) ((rd_T63 l0_1 x9_2).f2).length c214_2) := (blk_cell BK215.out 2).trans rfl
                  have hfz44_0 := blk_frozen BK215.out 0
                  have hfz44_1 := blk_frozen BK215.out 1
                  have hfz44_2 := blk_frozen BK215.out 2
                  have p220 : 0 ≤ (x11_3 : Int) := of_decide_eq_true ZZ853400
                  have q220 : x11_3 < (((rd_T63 l0_1 x9_2).f2).length : Int) := of_decide_eq_true ZZ853400
                  obtain ⟨ad220, e220, hx220_0, hx220_1⟩ := at_T70 HR214_2.out x11_3 p220 q220
                  obtain rfl : ad217 = ad220 := (by injection e220)
                  replace hx220_0 := (HB.out.cell (World.block_lt_of_cell? w _ hx220_0)).trans hx220_0
                  replace hx220_1 := (HB.out.cell (World.block_lt_of_cell? w _ hx220_1)).trans hx220_1
                  replace p220 := eq_true p220
                  replace q220 := eq_true q220
                  try go_wp2
                  go_roundg kj23
                  case measure => have := HJ3.out; have := HK2.out; have := HK3.out; have := HJ23.out; omega
                  case rel => exact ⟨(wrap64 (x8_3 - ((rd_T70 ((rd_T63 l0_1 x9_2).f2) x11_3).f1))), (wrap64 (x11_3 + 1)), ZZ0ab324, ZZ0ab324, H', ⟨by have := HJ3.out; have := HK2.out; have := HK3.out; have := HJ23.out; omega⟩, ⟨by (with_reducible repeat (first | refine blk_drewN ?_ _ | refine blk_drew ?_ | refine blk_alloc ?_ _)); exact BK210.out⟩, ⟨by (with_reducible repeat (first | refine blk_drewN ?_ _ | refine blk_drew ?_ | refine blk_alloc ?_ _)); exact BK215.out⟩, ⟨by repeat (first | (with_reducible first | exact HB.out | apply below_alloc | apply pw_below_drewN | apply below_drew1 | refine below_set ?_ GE210.out | refine below_set ?_ GE215.out) | exact HB.out)⟩⟩
                 ·replace c40 := Bool.eq_false_iff.mpr c40
                  subst c40
                  have H1 : (spec_ResultOf.l1 kj23 a1 a2 x8_3 x9_2 (wrap64 (x11_3 + 1)) l0_0 l0_1 ((rd_T63 l0_1 x9_2).f0) ((rd_T63 l0_1 x9_2).f1) ((rd_T63 l0_1 x9_2).f2)) = some (r1, r2) := by rw [if_neg (show ¬ (false = true) by decide)] at H; exact H
                  clear H
                  have H := H1
                  clear H1
                  have H' := Aside0.mk H
                  clear H
                  try go_wp2
                  have n0_ := Aside0.mk (blk_drew BK210.out)
                  have n1_ := Aside0.mk (blk_drew BK215.out)
                  have n2_ := Aside0.mk (below_drew1 HB.out)
                  clear BK210
                  clear BK215
                  clear HB
                  have BK210 := n0_
                  have BK215 := n1_
                  have HB := n2_
                  clear n0_ n1_ n2_
                  have p217 : 0 ≤ (x11_3 : Int) := of_decide_eq_true ZZ853400
                  have q217 : x11_3 < (((rd_T63 l0_1 x9_2).f2).length : Int) := of_decide_eq_true ZZ853400
                  obtain ⟨ad217, e217, hx217_0, hx217_1⟩ := at_T70 HR214_2.out x11_3 p217 q217
                  have hw217_1 := hx217_1
                  have hw217_0 := hx217_0
                  cases e217
                  replace hx217_0 := (HB.out.cell (World.block_lt_of_cell? w _ hx217_0)).trans hx217_0
                  replace hx217_1 := (HB.out.cell (World.block_lt_of_cell? w _ hx217_1)).trans hx217_1
                  replace p217 := eq_true p217
                  replace q217 := eq_true q217
                  have p218 : 0 ≤ (((rd_T70 ((rd_T63 l0_1 x9_2).f2) x11_3).f0) : Int) := of_decide_eq_true ZZ853400
                  have q218 : ((rd_T70 ((rd_T63 l0_1 x9_2).f2) x11_3).f0) < (l0_0.length : Int) := of_decide_eq_true ZZ853400
                  obtain ⟨ad218, e218, hx218_0, hx218_1⟩ := at_T48 HR0_0.out ((rd_T70 ((rd_T63 l0_1 x9_2).f2) x11_3).f0) p218 q218
                  have hw218_1 := hx218_1
                  have hw218_0 := hx218_0
                  cases e218
                  replace hx218_0 := (HB.out.cell (World.block_lt_of_cell? w _ hx218_0)).trans hx218_0
                  replace hx218_1 := (HB.out.cell (World.block_lt_of_cell? w _ hx218_1)).trans hx218_1
                  replace p218 := eq_true p218
                  replace q218 := eq_true q218
                  refine start_ (n := 11) (S := fun w' => w'.cell? ⟨gb210, 0, none⟩ = some (.slice (some ad218) l0_0.length c0_0) ∧ w'.cell? ⟨gb210, 1, none⟩ = some (.slice (some ad214) l0_1.length c0_1) ∧ w'.cell? ⟨gb215, 0, none⟩ = some (.int .i64 ((rd_T63 l0_1 x9_2).f0)) ∧ w'.cell? ⟨gb215, 1, none⟩ = some (.string ((rd_T63 l0_1 x9_2).f1)) ∧ w'.cell? ⟨gb215, 2, none⟩ = some (.slice (some ad217) ((rd_T63 l0_1 x9_2).f2).length c214_2) ∧ w'.cell? (ad217.add ((x11_3).toNat * 2)) = some (.int .i64 ((rd_T70 ((rd_T63 l0_1 x9_2).f2) x11_3).f0)) ∧ w'.cell? ⟨(ad217.add ((x11_3).toNat * 2)).block, (ad217.add ((x11_3).toNat * 2)).off + 1, none⟩ = some (.int .i64 ((rd_T70 ((rd_T63 l0_1 x9_2).f2) x11_3).f1)) ∧ w'.cell? (ad218.add ((((rd_T70 ((rd_T63 l0_1 x9_2).f2) x11_3).f0)).toNat * 2)) = some (.string ((rd_T48 l0_0 ((rd_T70 ((rd_T63 l0_1 x9_2).f2) x11_3).f0)).f0)) ∧ w'.cell? ⟨(ad218.add ((((rd_T70 ((rd_T63 l0_1 x9_2).f2) x11_3).f0)).toNat * 2)).block, (ad218.add ((((rd_T70 ((rd_T63 l0_1 x9_2).f2) x11_3).f0)).toNat * 2)).off + 1, none⟩ = some (.int .i64 ((rd_T48 l0_0 ((rd_T70 ((rd_T63 l0_1 x9_2).f2) x11_3).f0)).f1))) (ds := []) #[false, false, false, false, false, false, false, false, false, false, false] (by kernel_rfl) rfl rfl ⟨(blk_cell BK210.out 0).trans rfl, (blk_cell BK210.out 1).trans rfl, (blk_cell BK215.out 0).trans rfl, (blk_cell BK215.out 1).trans rfl, (blk_cell BK215.out 2).trans rfl, ((HB.out.cell (World.block_lt_of_cell? w _ hw217_0)).trans hw217_0), ((HB.out.cell (World.block_lt_of_cell? w _ hw217_1)).trans hw217_1), ((HB.out.cell (World.block_lt_of_cell? w _ hw218_0)).trans hw218_0), ((HB.out.cell (World.block_lt_of_cell? w _ hw218_1)).trans hw218_1)⟩ (fun hHeld => ?_); refine with_tabW spec_ResultOf.tab11 spec_ResultOf.bits11 (fun HT_ HW_ => ?_)
                  generalize wc.drew = w45 at BK210 BK215 HB hx217_0 hx217_1 hx218_0 hx218_1 hHeld ⊢
                  refine pu 0 56 ?_
                  refine pu 2 58 ?_
                  refine pu 4 60 ?_
                  refine tk 1 57 ?_
                  refine tk 3 59 ?_
                  refine pu 5 61 ?_
                  refine pu 6 62 ?_
                  refine tk 7 63 ?_
                  refine pu 8 64 ?_
                  refine tk 9 65 ?_
                  refine one_ (i := 10) (N := some 66) #[true, true, true, true, true, true, true, true, true, true, true] rfl rfl (one_of HT_.out (by kernel_rfl)) (by decide) (fun K hK => ?_)
                  refine goes_ Tryd.func70 (by kernel_rfl) rfl #[.agg #[.string ((rd_T48 l0_0 ((rd_T70 ((rd_T63 l0_1 x9_2).f2) x11_3).f0)).f0), .int .i64 ((rd_T48 l0_0 ((rd_T70 ((rd_T63 l0_1 x9_2).f2) x11_3).f0)).f1)]] (by rfl) rfl rfl ZZ19826e ?_
                  with_reducible refine (spec_l26Temporary.calls ((rd_T48 l0_0 ((rd_T70 ((rd_T63 l0_1 x9_2).f2) x11_3).f0)).f0) ((rd_T48 l0_0 ((rd_T70 ((rd_T63 l0_1 x9_2).f2) x11_3).f0)).f1) false _ A39.out).mono ?_
                  rintro e w46 ⟨rfl, hb⟩
                  refine ⟨_, rfl, ?_⟩
                  have n0_ := Aside0.mk (blk_below (g := gb210) (o := .cells #[.slice (some ad218) l0_0.length c0_0, .slice (some ad214) l0_1.length c0_1] 31 (0, 0)) ZZc699e7 hb)
                  have n1_ := Aside0.mk (blk_below (g := gb215) (o := .cells #[.int .i64 ((rd_T63 l0_1 x9_2).f0), .string ((rd_T63 l0_1 x9_2).f1), .slice (some ad217) ((rd_T63 l0_1 x9_2).f2).length c214_2] 63 (0, 0)) (by (with_reducible repeat (first | refine blk_drewN ?_ _ | refine blk_drew ?_ | refine blk_alloc ?_ _)); exact BK215.out) hb)
                  have n2_ := Aside0.mk (below_step (by repeat (first | (with_reducible first | exact HB.out | apply below_alloc | apply pw_below_drewN | apply below_drew1 | refine below_set ?_ GE210.out | refine below_set ?_ GE215.out) | exact HB.out)) hb)
                  clear BK210
                  clear BK215
                  clear HB
                  have BK210 := n0_
                  have BK215 := n1_
                  have HB := n2_
                  clear n0_ n1_ n2_
                  (try clear hb)
                  (try clear hb2)
                  (try clear hk)
                  (try clear hi)
                  refine hK.out _ _ ⟨(blk_cell BK210.out 0).trans rfl, (blk_cell BK210.out 1).trans rfl, (blk_cell BK215.out 0).trans rfl, (blk_cell BK215.out 1).trans rfl, (blk_cell BK215.out 2).trans rfl, ((HB.out.cell (World.block_lt_of_cell? w _ hw217_0)).trans hw217_0), ((HB.out.cell (World.block_lt_of_cell? w _ hw217_1)).trans hw217_1), ((HB.out.cell (World.block_lt_of_cell? w _ hw218_0)).trans hw218_0), ((HB.out.cell (World.block_lt_of_cell? w _ hw218_1)).trans hw218_1)⟩ (fun hHeld => ?_)
                  clear hK K
                  refine norm_ (a' := ?_) ?_ ?_
                  rotate_left
                  ·show Act.put _ (some 66) _ = _
                   simp only [Act.put, List.setIfInBounds_toArray, List.set_cons_zero, List.set_cons_succ, i64_w, i32_w]
                   rfl
                  refine done_ (done_of HT_.out (by kernel_rfl)) ?_
                  try go_wp2
                  go_roundg kj23
                  case measure => have := HJ3.out; have := HK2.out; have := HK3.out; have := HJ23.out; omega
                  case rel => exact ⟨(x8_3), (wrap64 (x11_3 + 1)), ZZ0ab324, ZZ0ab324, H', ⟨by have := HJ3.out; have := HK2.out; have := HK3.out; have := HJ23.out; omega⟩, ⟨by (with_reducible repeat (first | refine blk_drewN ?_ _ | refine blk_drew ?_ | refine blk_alloc ?_ _)); exact BK210.out⟩, ⟨by (with_reducible repeat (first | refine blk_drewN ?_ _ | refine blk_drew ?_ | refine blk_alloc ?_ _)); exact BK215.out⟩, ⟨by repeat (first | (with_reducible first | exact HB.out | apply below_alloc | apply pw_below_drewN | apply below_drew1 | refine below_set ?_ GE210.out | refine below_set ?_ GE215.out) | exact HB.out)⟩⟩
                ·rw [if_neg c38] at H
                 exact absurd H (by simp)
               ·rw [if_neg c37] at H
                exact absurd H (by simp)
              ·rw [if_neg c36] at H
               exact absurd H (by simp)
             ·rw [if_neg c35] at H
              exact absurd H (by simp)
            ·replace c34 := Bool.eq_false_iff.mpr c34
             subst c34
             have H1 : (spec_ResultOf.l0 kj23 a1 a2 x8_3 (wrap64 (x9_2 + 1)) l0_0 l0_1) = some (r1, r2) := by rw [if_neg (show ¬ (false = true) by decide)] at H; exact H
             clear H
             have H := H1
             clear H1
             have H' := Aside0.mk H
             clear H
             go_wp2
             go_roundg kj23
             case measure => have := HJ3.out; have := HK2.out; have := HK3.out; have := HJ23.out; omega
             case rel => exact ⟨(x8_3), (wrap64 (x9_2 + 1)), ZZ0ab324, ZZ0ab324, H', ⟨by have := HJ3.out; have := HK2.out; have := HK3.out; have := HJ23.out; omega⟩, ⟨by (with_reducible repeat (first | refine blk_drewN ?_ _ | refine blk_drew ?_ | refine blk_alloc ?_ _)); exact BK210.out⟩, ⟨by repeat (first | (with_reducible first | exact HB.out | apply below_alloc | apply pw_below_drewN | apply below_drew1 | refine below_set ?_ GE210.out | refine below_set ?_ GE215.out) | exact HB.out)⟩⟩
       ·rw [if_neg c19] at H
        exact absurd H (by simp)
      ·rw [if_neg c18] at H
       have c18b0 : decide (x9_2 < (l0_1.length : Int)) = false := decide_eq_false c18
       clear c18
       replace H := Option.bind_eq_some_iff.mp H
       obtain ⟨t221, A470, H⟩ := H
       replace H : (if t221 = true then (some (x8_2, true)) else (some (0, false))) = some (r1, r2) := H
       have A47 := Aside0.mk A470
       clear A470
       by_cases c48 : t221 = true
       ·subst c48
        have H1 : (some (x8_2, true)) = some (r1, r2) := by rw [if_pos rfl] at H; exact H
        clear H
        have H := H1
        clear H1
        simp only [Option.some.injEq, Prod.mk.injEq] at H
        obtain ⟨rfl, rfl⟩ := H
        have hcz49_0 : wr.cell? ⟨gb210, 0, none⟩ = some (.slice A0_0 l0_0.length c0_0) := (blk_cell BK210.out 0).trans rfl
        have hcz49_1 : wr.cell? ⟨gb210, 1, none⟩ = some (.slice A0_1 l0_1.length c0_1) := (blk_cell BK210.out 1).trans rfl
        have hfz49_0 := blk_frozen BK210.out 0
        have hfz49_1 := blk_frozen BK210.out 1
        go_wp2_with (first | ((with_reducible refine gate_callee (f := 71) rfl ?_); refine goesL_ (some 76) rfl rfl Tryd.func71 (by kernel_rfl) rfl #[.int .i64 x8_2] rfl ZZ19826e ?_; (with_reducible refine (spec_l2Amount.calls x8_2 true _ A47.out).mono ?_); rintro e w' ⟨rfl, ⟨nd, rfl⟩⟩; refine ⟨_, rfl, ?_⟩))
        go_ret2
        exact ⟨by first | rfl | (simp [errW_none, errW_some] <;> rfl) | (simp [*, errW_none, errW_some] <;> rfl), by repeat (first | (with_reducible first | exact HB.out | apply below_alloc | apply pw_below_drewN | apply below_drew1 | refine below_set ?_ GE210.out) | exact HB.out)⟩
       ·replace c48 := Bool.eq_false_iff.mpr c48
        subst c48
        have H1 : (some (0, false)) = some (r1, r2) := by rw [if_neg (show ¬ (false = true) by decide)] at H; exact H
        clear H
        have H := H1
        clear H1
        simp only [Option.some.injEq, Prod.mk.injEq] at H
        obtain ⟨rfl, rfl⟩ := H
        have hcz50_0 : wr.cell? ⟨gb210, 0, none⟩ = some (.slice A0_0 l0_0.length c0_0) := (blk_cell BK210.out 0).trans rfl
        have hcz50_1 : wr.cell? ⟨gb210, 1, none⟩ = some (.slice A0_1 l0_1.length c0_1) := (blk_cell BK210.out 1).trans rfl
        have hfz50_0 := blk_frozen BK210.out 0
        have hfz50_1 := blk_frozen BK210.out 1
        go_wp2_with (first | ((with_reducible refine gate_callee (f := 71) rfl ?_); refine goesL_ (some 76) rfl rfl Tryd.func71 (by kernel_rfl) rfl #[.int .i64 x8_2] rfl ZZ19826e ?_; (with_reducible refine (spec_l2Amount.calls x8_2 false _ A47.out).mono ?_); rintro e w' ⟨rfl, ⟨nd, rfl⟩⟩; refine ⟨_, rfl, ?_⟩))
        go_ret2
        exact ⟨by first | rfl | (simp [errW_none, errW_some] <;> rfl) | (simp [*, errW_none, errW_some] <;> rfl), by repeat (first | (with_reducible first | exact HB.out | apply below_alloc | apply pw_below_drewN | apply below_drew1 | refine below_set ?_ GE210.out) | exact HB.out)⟩
end Go.Proofs.YtccdjchaaeligaaDoor.XFnExactResultOf

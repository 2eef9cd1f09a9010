-- Printed by wip/tools/xprint.py, a program of this session, over the kit's print; Lean checks it.
import Derived.Test.YtccdjchaaeligaaDoorXFnExactFormatEntry1
import Derived.Test.YtccdjchaaeligaaDoorXFnExactFormatEntry0
import Derived.Test.YtccdjchaaeligaaDoorXFnExactFormatEntry4
import Derived.Test.YtccdjchaaeligaaDoorXFnExactFormatEntry6
import Derived.Test.YtccdjchaaeligaaDoorXFnExactFormatEntry8
namespace Go.Proofs.YtccdjchaaeligaaDoor.XFnExactFormatEntry
open Go.Proofs.YtccdjchaaeligaaDoor.Short Go.RowKit Go.Proofs.YtccdjchaaeligaaDoorW.PrintWords Go.Proofs.YtccdjchaaeligaaDoorW.PrintLast Go.Proofs.YtccdjchaaeligaaDoorW.PrintMore
attribute [local go_sem] max2_int min2_int max_two min_two max_three min_three max_four min_four   -- for this text's walks alone
set_option linter.unusedVariables false
set_option linter.unusedSimpArgs false
theorem ZZ3844aa {p : Prop} (h : p := by (with_reducible repeat (first | refine blk_drewN ?_ _ | refine blk_drew ?_ | refine blk_alloc ?_ _)); exact BK231.out) : p := h
theorem ZZ64a253 {p : Prop} (h : p := by repeat (first | (with_reducible first | exact HB.out | apply below_alloc | apply pw_below_drewN | apply below_drew1 | refine below_set ?_ GE231.out) | exact HB.out)) : p := h
/-! ### spec_FormatEntry: function 48 -/
mutual
def spec_FormatEntry.j0 : Nat → Int → Bool → List (S48) → List (S63) → Option (ByteArray × Bool)
 | 0, _, _, _, _ => none
 | k + 1, x1, x20, x232000, x232001 => if x20 = true then (some ((⟨#[]⟩ : ByteArray), false)) else (if 0 ≤ x1 then (if x1 < (x232001.length : Int) then ((spec_l3Text.f k ((rd_T63 x232001 x1).f0)).bind fun t236 => (if t236.size + 1 ≤ 9223372036854775807 then (if t236.size + 1 + ((rd_T63 x232001 x1).f1).size ≤ 9223372036854775807 then (spec_FormatEntry.l0 k ((t236 ++ (⟨#[32]⟩ : ByteArray)) ++ ((rd_T63 x232001 x1).f1)) 0 x232000 x232001 ((rd_T63 x232001 x1).f0) ((rd_T63 x232001 x1).f1) ((rd_T63 x232001 x1).f2)) else (none)) else (none))) else (none)) else (none))
def spec_FormatEntry.l0 : Nat → ByteArray → Int → List (S48) → List (S63) → Int → ByteArray → List (S70) → Option (ByteArray × Bool)
 | 0, _, _, _, _, _, _, _ => none
 | k + 1, x7, x8, x232000, x232001, x236000, x236001, x236002 => if x8 < (x236002.length : Int) then (if x7.size + 3 ≤ 9223372036854775807 then (if 0 ≤ x8 then (if 0 ≤ ((rd_T70 x236002 x8).f0) then (if ((rd_T70 x236002 x8).f0) < (x232000.length : Int) then (if x7.size + 3 + ((rd_T48 x232000 ((rd_T70 x236002 x8).f0)).f0).size ≤ 9223372036854775807 then (if x7.size + 3 + ((rd_T48 x232000 ((rd_T70 x236002 x8).f0)).f0).size + 1 ≤ 9223372036854775807 then ((spec_l2Format.f k ((rd_T70 x236002 x8).f1)).bind fun t240 => (if x7.size + 3 + ((rd_T48 x232000 ((rd_T70 x236002 x8).f0)).f0).size + 1 + t240.size ≤ 9223372036854775807 then (spec_FormatEntry.l0 k ((((x7 ++ (⟨#[10, 32, 32]⟩ : ByteArray)) ++ ((rd_T48 x232000 ((rd_T70 x236002 x8).f0)).f0)) ++ (⟨#[32]⟩ : ByteArray)) ++ t240) (wrap64 (x8 + 1)) x232000 x232001 x236000 x236001 x236002) else (none))) else (none)) else (none)) else (none)) else (none)) else (none)) else (none)) else (some (x7, true))
end
def spec_FormatEntry.f (k : Nat) (l0_0 : List (S48)) (l0_1 : List (S63)) (a1 : Int) : Option (ByteArray × Bool) := (spec_l26Good.f k l0_0 l0_1).bind fun t232 => (if t232 = true then ((spec_l1In.f a1 0 (wrap64 ((l0_1.length : Int) - 1))).bind fun t233 => (spec_FormatEntry.j0 k a1 (!t233) l0_0 l0_1)) else (spec_FormatEntry.j0 k a1 true l0_0 l0_1))
theorem spec_FormatEntry.mono_l : ∀ k, (∀ y0 y1 y2 y3, LeO (spec_FormatEntry.j0 k y0 y1 y2 y3) (spec_FormatEntry.j0 (k + 1) y0 y1 y2 y3)) ∧ (∀ y0 y1 y2 y3 y4 y5 y6, LeO (spec_FormatEntry.l0 k y0 y1 y2 y3 y4 y5 y6) (spec_FormatEntry.l0 (k + 1) y0 y1 y2 y3 y4 y5 y6))
 | 0 => ⟨fun _ _ _ _ r h => by simp [spec_FormatEntry.j0] at h, fun _ _ _ _ _ _ _ r h => by simp [spec_FormatEntry.l0] at h⟩
 | k + 1 => by
  obtain ⟨ih0, ih1⟩ := spec_FormatEntry.mono_l k
  refine ⟨?_, ?_⟩
  ·intro y0 y1 y2 y3
   unfold spec_FormatEntry.j0
   repeat' first
   | (with_reducible exact ih0 _ _ _ _)
   | (with_reducible exact ih1 _ _ _ _ _ _ _)
   | (with_reducible exact spec_l26Good.mono _ _ _)
   | (with_reducible exact spec_l2Format.mono _ _)
   | (with_reducible exact spec_l3Text.mono _ _)
   | (with_reducible exact LeO.refl _)
   | (with_reducible exact LeO.none _)
   | (with_reducible refine LeO.ite ?_ ?_)
   | (with_reducible refine LeO.bind ?_ (fun _ => ?_))
   | exact ih0 _ _ _ _
   | exact ih1 _ _ _ _ _ _ _
   | exact spec_l26Good.mono _ _ _
   | exact spec_l2Format.mono _ _
   | exact spec_l3Text.mono _ _
   | exact LeO.none _
   | refine LeO.ite ?_ ?_
   | refine LeO.bind ?_ (fun _ => ?_)
  ·intro y0 y1 y2 y3 y4 y5 y6
   unfold spec_FormatEntry.l0
   repeat' first
   | (with_reducible exact ih0 _ _ _ _)
   | (with_reducible exact ih1 _ _ _ _ _ _ _)
   | (with_reducible exact spec_l26Good.mono _ _ _)
   | (with_reducible exact spec_l2Format.mono _ _)
   | (with_reducible exact spec_l3Text.mono _ _)
   | (with_reducible exact LeO.refl _)
   | (with_reducible exact LeO.none _)
   | (with_reducible refine LeO.ite ?_ ?_)
   | (with_reducible refine LeO.bind ?_ (fun _ => ?_))
   | exact ih0 _ _ _ _
   | exact ih1 _ _ _ _ _ _ _
   | exact spec_l26Good.mono _ _ _
   | exact spec_l2Format.mono _ _
   | exact spec_l3Text.mono _ _
   | exact LeO.none _
   | refine LeO.ite ?_ ?_
   | refine LeO.bind ?_ (fun _ => ?_)
theorem spec_FormatEntry.mono : ∀ a0 a1 a2 k, LeO (spec_FormatEntry.f k a0 a1 a2) (spec_FormatEntry.f (k + 1) a0 a1 a2) := by
 intro a0 a1 a2 k
 obtain ⟨ih0, ih1⟩ := spec_FormatEntry.mono_l k
 unfold spec_FormatEntry.f
 repeat' first
  | (with_reducible exact ih0 _ _ _ _)
  | (with_reducible exact ih1 _ _ _ _ _ _ _)
  | (with_reducible exact spec_l26Good.mono _ _ _)
  | (with_reducible exact spec_l2Format.mono _ _)
  | (with_reducible exact spec_l3Text.mono _ _)
  | (with_reducible exact LeO.refl _)
  | (with_reducible exact LeO.none _)
  | (with_reducible refine LeO.ite ?_ ?_)
  | (with_reducible refine LeO.bind ?_ (fun _ => ?_))
  | exact ih0 _ _ _ _
  | exact ih1 _ _ _ _ _ _ _
  | exact spec_l26Good.mono _ _ _
  | exact spec_l2Format.mono _ _
  | exact spec_l3Text.mono _ _
  | exact LeO.none _
  | refine LeO.ite ?_ ?_
  | refine LeO.bind ?_ (fun _ => ?_)
def spec_FormatEntry.T4 : Bool × List (List Nat × List Nat) := (true, [([], []), ([0], [0]), ([1], [1]), ([2], [2]), ([], []), ([4], [4]), ([3, 5], [3, 5]), ([6, 2, 0, 1, 2, 3, 4, 5, 6], [6])])
def spec_FormatEntry.B4 : List Nat := [0, 1, 3, 7, 0, 16, 63, 127]
theorem spec_FormatEntry.tab4 : rtab .any (opsOf Tryd.f48 4) = spec_FormatEntry.T4 := by kernel_rfl
theorem spec_FormatEntry.bits4 : waitsOk spec_FormatEntry.T4.2 spec_FormatEntry.B4 = true := by kernel_rfl
def spec_FormatEntry.T8 : Bool × List (List Nat × List Nat) := (true, [([], []), ([0], [0]), ([], []), ([2], [2]), ([], []), ([4], [4]), ([], []), ([5, 6], [5, 6]), ([7], [7]), ([8], [8]), ([3, 9], [3, 9]), ([10], [10]), ([11], [11]), ([1, 12], [1, 12]), ([13], [13]), ([], []), ([15], [15]), ([], []), ([16, 17], [16, 17]), ([18], [18]), ([19], [19]), ([20], [20]), ([14, 21], [14, 21]), ([22, 21, 0, 1, 2, 3, 4, 5, 6, 7, 8, 9, 10, 11, 12, 13, 14, 15, 16, 17, 18, 19, 20, 21, 22], [0, 22])])
def spec_FormatEntry.B8 : List Nat := [0, 1, 0, 4, 0, 16, 0, 112, 240, 496, 1020, 2044, 4092, 8191, 16383, 0, 32768, 0, 229376, 491520, 1015808, 2064384, 4194303, 8388607]
theorem spec_FormatEntry.tab8 : rtab .any (opsOf Tryd.f48 8) = spec_FormatEntry.T8 := by kernel_rfl
theorem spec_FormatEntry.bits8 : waitsOk spec_FormatEntry.T8.2 spec_FormatEntry.B8 = true := by kernel_rfl
set_option maxHeartbeats 8000000 in
set_option maxRecDepth 100000 in
theorem spec_FormatEntry.calls (k : Nat) (A0_0 : Option Addr) (c0_0 : Nat) (l0_0 : List (S48)) (A0_1 : Option Addr) (c0_1 : Nat) (l0_1 : List (S63)) (a1 : Int) (r1 : ByteArray) (r2 : Bool) (w : World) (hr0_0 : Kd.C k48 w A0_0 l0_0.length l0_0) (hc0_0 : l0_0.length ≤ c0_0) (hr0_1 : Kd.C k63 w A0_1 l0_1.length l0_1) (hc0_1 : l0_1.length ≤ c0_1) (h : spec_FormatEntry.f k l0_0 l0_1 a1 = some (r1, r2)) :
 Calls Tryd.prog 48 #[.agg #[.slice A0_0 l0_0.length c0_0, .slice A0_1 l0_1.length c0_1], .int .i64 a1] w fun e w' => e = .returned (.tuple #[.string r1, .bool r2]) ∧ Below w.heap.size w w' := by
 have hu31 := Tryd.underlying31
 have hu63 := Tryd.underlying63
 have HR0_0 := Aside0.mk hr0_0
 have HC0_0 := Aside0.mk hc0_0
 clear hr0_0 hc0_0
 have HR0_1 := Aside0.mk hr0_1
 have HC0_1 := Aside0.mk hc0_1
 clear hr0_1 hc0_1
 have HB := Aside0.mk (Below.refl w.heap.size w)
 have H : ((spec_l26Good.f k l0_0 l0_1).bind fun t232 => (if t232 = true then ((spec_l1In.f a1 0 (wrap64 ((l0_1.length : Int) - 1))).bind fun t233 => (spec_FormatEntry.j0 k a1 (!t233) l0_0 l0_1)) else (spec_FormatEntry.j0 k a1 true l0_0 l0_1))) = some (r1, r2) := h
 clear h
 have HC3 := Aside0.mk H
 clear H
 go_enter Tryd.func48, Tryd.ntmps48
 go_upto_region 1 with (first | ((with_reducible refine gate_dst (N := 2) rfl ?_); (try (refine gate_guard (by rfl) ?_; dsimp only)); refine box_event ?hg (N := 2) ?hd (cs := #[.slice A0_0 l0_0.length c0_0, .slice A0_1 l0_1.length c0_1]) (t := 31) ?hr ?_; (case hd => rfl); (case hg => rfl); (case hr => first | (go_simp; done) | (go_simp; rfl)); intro gb231 hg w4 hbox hb; have n0_ := Aside0.mk (below_step ZZ605003 hb); have n1_ := Aside0.mk (hbox); have n2_ := Aside0.mk ((by rw [hg]; exact (below_size ZZ605003) : w.heap.size ≤ gb231)); have n3_ := Aside0.mk ((by rw [hg]; exact (below_size ZZ605003) : w.heap.size ≤ gb231)); clear HB; have HB := n0_; have BK231 := n1_; have GW231 := n2_; have GE231 := n3_; clear n0_ n1_ n2_ n3_; clear hb hbox hg))
 (try simp only [Act.put, List.setIfInBounds_toArray, List.set_cons_zero, List.set_cons_succ])
 go_cut [20] (fun v20 wc => ∃ (kq : Nat) (x20_2 : Bool), v20 = .bool x20_2 ∧ Aside0 (spec_FormatEntry.j0 kq a1 x20_2 l0_0 l0_1 = some (r1, r2)) ∧ Aside0 (kq ≤ k) ∧ Aside0 (wc.heap[gb231]? = some (.cells #[(.slice A0_0 l0_0.length c0_0), (.slice A0_1 l0_1.length c0_1)] 31 (0, 0))) ∧ Aside0 (Below w.heap.size w wc))
 case first =>
  have H := HC3.out
  clear HC3
  replace H := Option.bind_eq_some_iff.mp H
  obtain ⟨t232, A50, H⟩ := H
  replace H : (if t232 = true then ((spec_l1In.f a1 0 (wrap64 ((l0_1.length : Int) - 1))).bind fun t233 => (spec_FormatEntry.j0 k a1 (!t233) l0_0 l0_1)) else (spec_FormatEntry.j0 k a1 true l0_0 l0_1)) = some (r1, r2) := H
  have A5 := Aside0.mk A50
  clear A50
  by_cases c6 : t232 = true
  ·subst c6
   have H1 : ((spec_l1In.f a1 0 (wrap64 ((l0_1.length : Int) - 1))).bind fun t233 => (spec_FormatEntry.j0 k a1 (!t233) l0_0 l0_1)) = some (r1, r2) := by rw [if_pos rfl] at H; exact H
   clear H
   have H := H1
   clear H1
   replace H := Option.bind_eq_some_iff.mp H
   obtain ⟨t233, A70, H⟩ := H
   replace H : (spec_FormatEntry.j0 k a1 (!t233) l0_0 l0_1) = some (r1, r2) := H
   have A7 := Aside0.mk A70
   clear A70
   have H' := Aside0.mk H
   clear H
   have hcz8_0 : w4.cell? ⟨gb231, 0, none⟩ = some (.slice A0_0 l0_0.length c0_0) := (blk_cell BK231.out 0).trans rfl
   have hcz8_1 : w4.cell? ⟨gb231, 1, none⟩ = some (.slice A0_1 l0_1.length c0_1) := (blk_cell BK231.out 1).trans rfl
   have hfz8_0 := blk_frozen BK231.out 0
   have hfz8_1 := blk_frozen BK231.out 1
   go_wp2_with (first | ((with_reducible refine gate_callee (f := 52) rfl ?_); refine goesL_ (some 10) rfl rfl Tryd.func52 (by kernel_rfl) rfl #[.agg #[.slice A0_0 l0_0.length c0_0, .slice A0_1 l0_1.length c0_1]] rfl ZZ19826e ?_; (with_reducible refine (spec_l26Good.calls k _ _ l0_0 _ _ l0_1 true _ ?side1 ?side2 ?side3 ?side4 A5.out).mono ?_); (case side1 => repeat (first | exact (Kd.C_below HR0_0.out HB.out) | (with_reducible refine Kd.C_alloc ?_ _) | (with_reducible refine Kd.C_drewN ?_ _) | (with_reducible refine Kd.C_drew ?_))); (case side2 => exact HC0_0.out); (case side3 => repeat (first | exact (Kd.C_below HR0_1.out HB.out) | (with_reducible refine Kd.C_alloc ?_ _) | (with_reducible refine Kd.C_drewN ?_ _) | (with_reducible refine Kd.C_drew ?_))); (case side4 => exact HC0_1.out); rintro e w9 ⟨rfl, hb⟩; refine ⟨_, rfl, ?_⟩; have n0_ := Aside0.mk (blk_below (g := gb231) (o := .cells #[.slice A0_0 l0_0.length c0_0, .slice A0_1 l0_1.length c0_1] 31 (0, 0)) ZZ3844aa hb); have n1_ := Aside0.mk (below_step ZZ64a253 hb); clear BK231; clear HB; have BK231 := n0_; have HB := n1_; clear n0_ n1_; (try clear hb); (try clear hb2); (try clear hk); (try clear hi); have hcz10_0 : w9.cell? ⟨gb231, 0, none⟩ = some (.slice A0_0 l0_0.length c0_0) := (blk_cell BK231.out 0).trans rfl; have hcz10_1 : w9.cell? ⟨gb231, 1, none⟩ = some (.slice A0_1 l0_1.length c0_1) := (blk_cell BK231.out 1).trans rfl; have hfz10_0 := blk_frozen BK231.out 0; have hfz10_1 := blk_frozen BK231.out 1) | (go_at_call 65; (with_reducible refine (spec_l1In.calls a1 0 (wrap64 ((l0_1.length : Int) - 1)) t233 _ A7.out).mono ?_); rintro e w' ⟨rfl, ⟨nd, rfl⟩⟩))
   go_meet
   case rel => exact ⟨_, (!t233), ZZ0ab324, H', ⟨by first | omega | exact Nat.le_refl _⟩, ⟨by (with_reducible repeat (first | refine blk_drewN ?_ _ | refine blk_drew ?_ | refine blk_alloc ?_ _)); exact BK231.out⟩, ⟨by repeat (first | (with_reducible first | exact HB.out | apply below_alloc | apply pw_below_drewN | apply below_drew1 | refine below_set ?_ GE231.out) | exact HB.out)⟩⟩
  ·replace c6 := Bool.eq_false_iff.mpr c6
   subst c6
   have H1 : (spec_FormatEntry.j0 k a1 true l0_0 l0_1) = some (r1, r2) := by rw [if_neg (show ¬ (false = true) by decide)] at H; exact H
   clear H
   have H := H1
   clear H1
   have H' := Aside0.mk H
   clear H
   have hcz11_0 : w4.cell? ⟨gb231, 0, none⟩ = some (.slice A0_0 l0_0.length c0_0) := (blk_cell BK231.out 0).trans rfl
   have hcz11_1 : w4.cell? ⟨gb231, 1, none⟩ = some (.slice A0_1 l0_1.length c0_1) := (blk_cell BK231.out 1).trans rfl
   have hfz11_0 := blk_frozen BK231.out 0
   have hfz11_1 := blk_frozen BK231.out 1
   go_wp2_with (first | ((with_reducible refine gate_callee (f := 52) rfl ?_); refine goesL_ (some 10) rfl rfl Tryd.func52 (by kernel_rfl) rfl #[.agg #[.slice A0_0 l0_0.length c0_0, .slice A0_1 l0_1.length c0_1]] rfl ZZ19826e ?_; (with_reducible refine (spec_l26Good.calls k _ _ l0_0 _ _ l0_1 false _ ?side1 ?side2 ?side3 ?side4 A5.out).mono ?_); (case side1 => repeat (first | exact (Kd.C_below HR0_0.out HB.out) | (with_reducible refine Kd.C_alloc ?_ _) | (with_reducible refine Kd.C_drewN ?_ _) | (with_reducible refine Kd.C_drew ?_))); (case side2 => exact HC0_0.out); (case side3 => repeat (first | exact (Kd.C_below HR0_1.out HB.out) | (with_reducible refine Kd.C_alloc ?_ _) | (with_reducible refine Kd.C_drewN ?_ _) | (with_reducible refine Kd.C_drew ?_))); (case side4 => exact HC0_1.out); rintro e w12 ⟨rfl, hb⟩; refine ⟨_, rfl, ?_⟩; have n0_ := Aside0.mk (blk_below (g := gb231) (o := .cells #[.slice A0_0 l0_0.length c0_0, .slice A0_1 l0_1.length c0_1] 31 (0, 0)) ZZ3844aa hb); have n1_ := Aside0.mk (below_step ZZ64a253 hb); clear BK231; clear HB; have BK231 := n0_; have HB := n1_; clear n0_ n1_; (try clear hb); (try clear hb2); (try clear hk); (try clear hi)))
   go_meet
   case rel => exact ⟨_, (true), ZZ0ab324, H', ⟨by first | omega | exact Nat.le_refl _⟩, ⟨by (with_reducible repeat (first | refine blk_drewN ?_ _ | refine blk_drew ?_ | refine blk_alloc ?_ _)); exact BK231.out⟩, ⟨by repeat (first | (with_reducible first | exact HB.out | apply below_alloc | apply pw_below_drewN | apply below_drew1 | refine below_set ?_ GE231.out) | exact HB.out)⟩⟩
 case rest =>
  clear HC3
  try clear p2
  try clear c4
  try clear c5
  try clear c6
  try clear p6
  try clear hcz10_0
  try clear hcz10_1
  try clear hcz11_0
  try clear hcz11_1
  try clear hcz8_0
  try clear hcz8_1
  try clear hfz10_0
  try clear hfz10_1
  try clear hfz11_0
  try clear hfz11_1
  try clear hfz8_0
  try clear hfz8_1
  obtain ⟨kq, x20_2, rfl, HA, HJ2, BK231, HB⟩ := hcut
  cases kq with
  | zero => exact absurd HA.out (by simp [spec_FormatEntry.j0])
  | succ kj2 =>
   have H := HA.out
   clear HA
   simp only [spec_FormatEntry.j0] at H
   by_cases c13 : x20_2 = true
   ·subst c13
    have H1 : (some ((⟨#[]⟩ : ByteArray), false)) = some (r1, r2) := by rw [if_pos rfl] at H; exact H
    clear H
    have H := H1
    clear H1
    simp only [Option.some.injEq, Prod.mk.injEq] at H
    obtain ⟨rfl, rfl⟩ := H
    go_wp2
    go_ret2
    exact ⟨by first | rfl | (simp [errW_none, errW_some] <;> rfl) | (simp [*, errW_none, errW_some] <;> rfl), by repeat (first | (with_reducible first | exact HB.out | apply below_alloc | apply pw_below_drewN | apply below_drew1 | refine below_set ?_ GE231.out) | exact HB.out)⟩
   ·replace c13 := Bool.eq_false_iff.mpr c13
    subst c13
    have H1 : (if 0 ≤ a1 then (if a1 < (l0_1.length : Int) then ((spec_l3Text.f kj2 ((rd_T63 l0_1 a1).f0)).bind fun t236 => (if t236.size + 1 ≤ 9223372036854775807 then (if t236.size + 1 + ((rd_T63 l0_1 a1).f1).size ≤ 9223372036854775807 then (spec_FormatEntry.l0 kj2 ((t236 ++ (⟨#[32]⟩ : ByteArray)) ++ ((rd_T63 l0_1 a1).f1)) 0 l0_0 l0_1 ((rd_T63 l0_1 a1).f0) ((rd_T63 l0_1 a1).f1) ((rd_T63 l0_1 a1).f2)) else (none)) else (none))) else (none)) else (none)) = some (r1, r2) := by rw [if_neg (show ¬ (false = true) by decide)] at H; exact H
    clear H
    have H := H1
    clear H1
    by_cases c14 : 0 ≤ a1
    ·rw [if_pos c14] at H
     have c14b0 : decide (0 ≤ a1) = true := decide_eq_true c14
     clear c14
     by_cases c15 : a1 < (l0_1.length : Int)
     ·rw [if_pos c15] at H
      have c15b0 : decide (a1 < (l0_1.length : Int)) = true := decide_eq_true c15
      clear c15
      replace H := Option.bind_eq_some_iff.mp H
      obtain ⟨t236, A160, H⟩ := H
      replace H : (if t236.size + 1 ≤ 9223372036854775807 then (if t236.size + 1 + ((rd_T63 l0_1 a1).f1).size ≤ 9223372036854775807 then (spec_FormatEntry.l0 kj2 ((t236 ++ (⟨#[32]⟩ : ByteArray)) ++ ((rd_T63 l0_1 a1).f1)) 0 l0_0 l0_1 ((rd_T63 l0_1 a1).f0) ((rd_T63 l0_1 a1).f1) ((rd_T63 l0_1 a1).f2)) else (none)) else (none)) = some (r1, r2) := H
      have A16 := Aside0.mk A160
      clear A160
      by_cases c17 : t236.size + 1 ≤ 9223372036854775807
      ·rw [if_pos c17] at H
       have c17b0 := eq_true c17
       have c17b1 : decide (t236.size + 1 ≤ 9223372036854775807) = true := decide_eq_true c17
       try have c17b2 : (9223372036854775807 < t236.size + 1) = False := eq_false (Nat.not_lt.2 c17)
       by_cases c18 : t236.size + 1 + ((rd_T63 l0_1 a1).f1).size ≤ 9223372036854775807
       ·rw [if_pos c18] at H
        have c18b0 := eq_true c18
        have c18b1 : decide (t236.size + 1 + ((rd_T63 l0_1 a1).f1).size ≤ 9223372036854775807) = true := decide_eq_true c18
        try have c18b2 : (9223372036854775807 < t236.size + 1 + ((rd_T63 l0_1 a1).f1).size) = False := eq_false (Nat.not_lt.2 c18)
        have H' := Aside0.mk H
        clear H
        have hcz19_0 : wc.cell? ⟨gb231, 0, none⟩ = some (.slice A0_0 l0_0.length c0_0) := (blk_cell BK231.out 0).trans rfl
        have hcz19_1 : wc.cell? ⟨gb231, 1, none⟩ = some (.slice A0_1 l0_1.length c0_1) := (blk_cell BK231.out 1).trans rfl
        have hfz19_0 := blk_frozen BK231.out 0
        have hfz19_1 := blk_frozen BK231.out 1
        have p234 : 0 ≤ (a1 : Int) := of_decide_eq_true ZZ853400
        have q234 : a1 < (l0_1.length : Int) := of_decide_eq_true ZZ853400
        obtain ⟨ad234, A234_2, c234_2, e234, hx234_0, hx234_1, hx234_2, hl234_2, hi234_2⟩ := at_T63 HR0_1.out a1 p234 q234
        cases e234
        replace hx234_0 := (HB.out.cell (World.block_lt_of_cell? w _ hx234_0)).trans hx234_0
        replace hx234_1 := (HB.out.cell (World.block_lt_of_cell? w _ hx234_1)).trans hx234_1
        replace hx234_2 := (HB.out.cell (World.block_lt_of_cell? w _ hx234_2)).trans hx234_2
        have HR234_2 := Aside0.mk hi234_2
        have HC234_2 := Aside0.mk hl234_2
        clear hi234_2 hl234_2
        replace p234 := eq_true p234
        replace q234 := eq_true q234
        try go_wp2_with (first | ((with_reducible refine gate_dst (N := 6) rfl ?_); (try (refine gate_guard (by rfl) ?_; dsimp only)); refine box_event ?hg (N := 6) ?hd (cs := #[.int .i64 0, .string (⟨#[]⟩ : ByteArray), .slice none 0 0]) (t := 63) ?hr ?_; (case hd => rfl); (case hg => rfl); (case hr => first | (go_simp; done) | (go_simp; rfl)); intro gb235 hg w20 hbox hb; have n0_ := Aside0.mk (blk_below (g := gb231) (o := .cells #[.slice A0_0 l0_0.length c0_0, .slice (some ad234) l0_1.length c0_1] 31 (0, 0)) ZZ3844aa hb); have n1_ := Aside0.mk (below_step ZZ64a253 hb); have n2_ := Aside0.mk (hbox); have n3_ := Aside0.mk ((by rw [hg]; exact (below_size ZZ64a253) : w.heap.size ≤ gb235)); have n4_ := Aside0.mk ((by rw [hg]; exact (below_size ZZ64a253) : w.heap.size ≤ gb235)); have n5_ := Aside0.mk ((by rw [hg]; exact Nat.ne_of_lt (blk_lt (g := gb231) (o := .cells #[.slice A0_0 l0_0.length c0_0, .slice (some ad234) l0_1.length c0_1] 31 (0, 0)) ZZ3844aa) : gb231 ≠ gb235)); have n6_ := Aside0.mk ((by rw [hg]; exact Nat.ne_of_gt (blk_lt (g := gb231) (o := .cells #[.slice A0_0 l0_0.length c0_0, .slice (some ad234) l0_1.length c0_1] 31 (0, 0)) ZZ3844aa) : gb235 ≠ gb231)); clear BK231; clear HB; have BK231 := n0_; have HB := n1_; have BK235 := n2_; have GW235 := n3_; have GE235 := n4_; have NB231_235 := n5_; have NB235_231 := n6_; clear n0_ n1_ n2_ n3_ n4_ n5_ n6_; clear hb hbox hg; have hnb21 := NB235_231.out; have hnc21 := NB231_235.out; have hcz22_0 : w20.cell? ⟨gb235, 0, none⟩ = some (.int .i64 0) := (blk_cell BK235.out 0).trans rfl; have hcz22_1 : w20.cell? ⟨gb235, 1, none⟩ = some (.string (⟨#[]⟩ : ByteArray)) := (blk_cell BK235.out 1).trans rfl; have hcz22_2 : w20.cell? ⟨gb235, 2, none⟩ = some (.slice none 0 0) := (blk_cell BK235.out 2).trans rfl; have hfz22_0 := blk_frozen BK235.out 0; have hfz22_1 := blk_frozen BK235.out 1; have hfz22_2 := blk_frozen BK235.out 2))
        have n0_ : Aside0 ((((w20.setCell ⟨gb235, 0, none⟩ (.int .i64 ((rd_T63 l0_1 a1).f0))).setCell ⟨gb235, 1, none⟩ (.string ((rd_T63 l0_1 a1).f1))).setCell ⟨gb235, 2, none⟩ (.slice A234_2 ((rd_T63 l0_1 a1).f2).length c234_2)).heap[gb231]? = some (.cells #[.slice A0_0 l0_0.length c0_0, .slice (some ad234) l0_1.length c0_1] 31 (0, 0))) := ⟨by (with_reducible repeat (first | refine blk_drewN ?_ _ | refine blk_drew ?_ | refine blk_alloc ?_ _)); refine blk_far ?_ NB231_235.out _; (with_reducible repeat (first | refine blk_drewN ?_ _ | refine blk_drew ?_ | refine blk_alloc ?_ _)); refine blk_far ?_ NB231_235.out _; (with_reducible repeat (first | refine blk_drewN ?_ _ | refine blk_drew ?_ | refine blk_alloc ?_ _)); refine blk_far ?_ NB231_235.out _; (with_reducible repeat (first | refine blk_drewN ?_ _ | refine blk_drew ?_ | refine blk_alloc ?_ _)); exact BK231.out⟩
        have n1_ : Aside0 ((((w20.setCell ⟨gb235, 0, none⟩ (.int .i64 ((rd_T63 l0_1 a1).f0))).setCell ⟨gb235, 1, none⟩ (.string ((rd_T63 l0_1 a1).f1))).setCell ⟨gb235, 2, none⟩ (.slice A234_2 ((rd_T63 l0_1 a1).f2).length c234_2)).heap[gb235]? = some (.cells #[.int .i64 ((rd_T63 l0_1 a1).f0), .string ((rd_T63 l0_1 a1).f1), .slice A234_2 ((rd_T63 l0_1 a1).f2).length c234_2] 63 (0, 0))) := ⟨by (with_reducible repeat (first | refine blk_drewN ?_ _ | refine blk_drew ?_ | refine blk_alloc ?_ _)); refine blk_put (cs := #[.int .i64 ((rd_T63 l0_1 a1).f0), .string ((rd_T63 l0_1 a1).f1), .slice none 0 0]) ?_ 2 _ rfl; (with_reducible repeat (first | refine blk_drewN ?_ _ | refine blk_drew ?_ | refine blk_alloc ?_ _)); refine blk_put (cs := #[.int .i64 ((rd_T63 l0_1 a1).f0), .string (⟨#[]⟩ : ByteArray), .slice none 0 0]) ?_ 1 _ rfl; (with_reducible repeat (first | refine blk_drewN ?_ _ | refine blk_drew ?_ | refine blk_alloc ?_ _)); refine blk_put (cs := #[.int .i64 0, .string (⟨#[]⟩ : ByteArray), .slice none 0 0]) ?_ 0 _ rfl; (with_reducible repeat (first | refine blk_drewN ?_ _ | refine blk_drew ?_ | refine blk_alloc ?_ _)); exact BK235.out⟩
        have n2_ : Aside0 (Below w.heap.size w (((w20.setCell ⟨gb235, 0, none⟩ (.int .i64 ((rd_T63 l0_1 a1).f0))).setCell ⟨gb235, 1, none⟩ (.string ((rd_T63 l0_1 a1).f1))).setCell ⟨gb235, 2, none⟩ (.slice A234_2 ((rd_T63 l0_1 a1).f2).length c234_2))) := ⟨by repeat (first | (with_reducible first | exact HB.out | apply below_alloc | apply pw_below_drewN | apply below_drew1 | refine below_set ?_ GE231.out | refine below_set ?_ GE235.out) | exact HB.out)⟩
        (try clear BK231)
        (try clear BK235)
        (try clear HB)
        generalize (((w20.setCell ⟨gb235, 0, none⟩ (.int .i64 ((rd_T63 l0_1 a1).f0))).setCell ⟨gb235, 1, none⟩ (.string ((rd_T63 l0_1 a1).f1))).setCell ⟨gb235, 2, none⟩ (.slice A234_2 ((rd_T63 l0_1 a1).f2).length c234_2)) = w23 at n0_ n1_ n2_ ⊢
        have BK231 := n0_
        have BK235 := n1_
        have HB := n2_
        clear n0_ n1_ n2_
        have n0_ := Aside0.mk (blk_drew BK231.out)
        have n1_ := Aside0.mk (blk_drew BK235.out)
        have n2_ := Aside0.mk (below_drew1 HB.out)
        clear BK231
        clear BK235
        clear HB
        have BK231 := n0_
        have BK235 := n1_
        have HB := n2_
        clear n0_ n1_ n2_
        refine start_ (n := 8) (S := fun w' => w'.cell? ⟨gb235, 0, none⟩ = some (.int .i64 ((rd_T63 l0_1 a1).f0)) ∧ w'.cell? ⟨gb235, 1, none⟩ = some (.string ((rd_T63 l0_1 a1).f1)) ∧ w'.cell? ⟨gb235, 2, none⟩ = some (.slice A234_2 ((rd_T63 l0_1 a1).f2).length c234_2)) (ds := []) #[false, false, false, false, false, false, false, false] (by kernel_rfl) rfl rfl ⟨(blk_cell BK235.out 0).trans rfl, (blk_cell BK235.out 1).trans rfl, (blk_cell BK235.out 2).trans rfl⟩ (fun hHeld => ?_); refine with_tabW spec_FormatEntry.tab4 spec_FormatEntry.bits4 (fun HT_ HW_ => ?_)
        generalize w23.drew = w24 at BK231 BK235 HB hHeld ⊢
        refine pu 0 26 ?_
        refine pu 4 30 ?_
        refine tk 1 27 ?_
        refine tk 5 31 ?_
        refine one_ (i := 2) (N := some 28) #[true, true, true, false, true, true, false, false] rfl rfl (one_of HT_.out (by kernel_rfl)) (by decide) (fun K hK => ?_)
        refine goes_ Tryd.func96 (by kernel_rfl) rfl #[.int .i64 ((rd_T63 l0_1 a1).f0)] (by rfl) rfl rfl ZZ19826e ?_
        with_reducible refine (spec_l3Text.calls kj2 ((rd_T63 l0_1 a1).f0) t236 _ A16.out).mono ?_
        rintro e w25 ⟨rfl, hb⟩
        refine ⟨_, rfl, ?_⟩
        have n0_ := Aside0.mk (blk_below (g := gb231) (o := .cells #[.slice A0_0 l0_0.length c0_0, .slice (some ad234) l0_1.length c0_1] 31 (0, 0)) ZZ3844aa hb)
        have n1_ := Aside0.mk (blk_below (g := gb235) (o := .cells #[.int .i64 ((rd_T63 l0_1 a1).f0), .string ((rd_T63 l0_1 a1).f1), .slice A234_2 ((rd_T63 l0_1 a1).f2).length c234_2] 63 (0, 0)) (by (with_reducible repeat (first | refine blk_drewN ?_ _ | refine blk_drew ?_ | refine blk_alloc ?_ _)); exact BK235.out) hb)
        have n2_ := Aside0.mk (below_step (by repeat (first | (with_reducible first | exact HB.out | apply below_alloc | apply pw_below_drewN | apply below_drew1 | refine below_set ?_ GE231.out | refine below_set ?_ GE235.out) | exact HB.out)) hb)
        clear BK231
        clear BK235
        clear HB
        have BK231 := n0_
        have BK235 := n1_
        have HB := n2_
        clear n0_ n1_ n2_
        (try clear hb)
        (try clear hb2)
        (try clear hk)
        (try clear hi)
        refine hK.out _ _ ⟨(blk_cell BK235.out 0).trans rfl, (blk_cell BK235.out 1).trans rfl, (blk_cell BK235.out 2).trans rfl⟩ (fun hHeld => ?_)
        clear hK K
        refine norm_ (a' := ?_) ?_ ?_
        rotate_left
        ·show Act.put _ (some 28) _ = _
         simp only [Act.put, List.setIfInBounds_toArray, List.set_cons_zero, List.set_cons_succ, i64_w, i32_w]
         rfl
        refine pu 3 29 ?_
        refine pu 6 32 ?_
        refine pu 7 7 ?_
        refine done_ (done_of HT_.out (by kernel_rfl)) ?_
        try go_wp2
        go_loopg [7, 8] kj2 (fun kq v7 v8 w' => ∃ (x7_2 : ByteArray) (x8_2 : Int), v7 = .string x7_2 ∧ v8 = .int .i64 x8_2 ∧ Aside0 (spec_FormatEntry.l0 kq x7_2 x8_2 l0_0 l0_1 ((rd_T63 l0_1 a1).f0) ((rd_T63 l0_1 a1).f1) ((rd_T63 l0_1 a1).f2) = some (r1, r2)) ∧ Aside0 (kq ≤ kj2) ∧ Aside0 (w'.heap[gb231]? = some (.cells #[(.slice A0_0 l0_0.length c0_0), (.slice (some ad234) l0_1.length c0_1)] 31 (0, 0))) ∧ Aside0 (w'.heap[gb235]? = some (.cells #[.int .i64 ((rd_T63 l0_1 a1).f0), .string ((rd_T63 l0_1 a1).f1), (.slice A234_2 ((rd_T63 l0_1 a1).f2).length c234_2)] 63 (0, 0))) ∧ Aside0 (Below w.heap.size w w'))
        case atStart => exact ⟨((t236 ++ (⟨#[32]⟩ : ByteArray)) ++ ((rd_T63 l0_1 a1).f1)), (0), ZZ0ab324, ZZ0ab324, H', ⟨Nat.le_refl _⟩, ⟨by (with_reducible repeat (first | refine blk_drewN ?_ _ | refine blk_drew ?_ | refine blk_alloc ?_ _)); exact BK231.out⟩, ⟨by (with_reducible repeat (first | refine blk_drewN ?_ _ | refine blk_drew ?_ | refine blk_alloc ?_ _)); exact BK235.out⟩, ⟨by repeat (first | (with_reducible first | exact HB.out | apply below_alloc | apply pw_below_drewN | apply below_drew1 | refine below_set ?_ GE231.out | refine below_set ?_ GE235.out) | exact HB.out)⟩⟩
        case round =>
         clear H'
         try clear c1
         try clear c2
         try clear p2
         try clear q2
         try clear hx2
         try clear c4
         try clear c5
         try clear c6
         try clear p6
         try clear c9
         try clear c13
         try clear c14
         try clear c14b0
         try clear c15
         try clear c15b0
         try clear c17
         try clear c17b0
         try clear c17b1
         try clear c17b2
         try clear c18
         try clear c18b0
         try clear c18b1
         try clear c18b2
         try clear c21
         try clear c23
         try clear p23
         try clear q23
         try clear hx23
         try clear hcz10_0
         try clear hcz10_1
         try clear hcz11_0
         try clear hcz11_1
         try clear hcz19_0
         try clear hcz19_1
         try clear hcz22_0
         try clear hcz22_1
         try clear hcz22_2
         try clear hcz8_0
         try clear hcz8_1
         try clear hfz10_0
         try clear hfz10_1
         try clear hfz11_0
         try clear hfz11_1
         try clear hfz19_0
         try clear hfz19_1
         try clear hfz22_0
         try clear hfz22_1
         try clear hfz22_2
         try clear hfz8_0
         try clear hfz8_1
         try clear hx234_0
         try clear hx234_1
         try clear hx234_2
         try clear p2
         try clear p234
         try clear p6
         try clear q234
         obtain ⟨x7_2, x8_2, rfl, rfl, HA, HK2, BK231, BK235, HB⟩ := hrel
         cases gk with
         | zero => exact absurd HA.out (by simp [spec_FormatEntry.l0])
         | succ k2 =>
          have H := HA.out
          clear HA
          simp only [spec_FormatEntry.l0] at H
          by_cases c26 : x8_2 < (((rd_T63 l0_1 a1).f2).length : Int)
          ·rw [if_pos c26] at H
           have c26b0 : decide (x8_2 < (((rd_T63 l0_1 a1).f2).length : Int)) = true := decide_eq_true c26
           clear c26
           by_cases c27 : x7_2.size + 3 ≤ 9223372036854775807
           ·rw [if_pos c27] at H
            have c27b0 := eq_true c27
            have c27b1 : decide (x7_2.size + 3 ≤ 9223372036854775807) = true := decide_eq_true c27
            try have c27b2 : (9223372036854775807 < x7_2.size + 3) = False := eq_false (Nat.not_lt.2 c27)
            by_cases c28 : 0 ≤ x8_2
            ·rw [if_pos c28] at H
             have c28b0 : decide (0 ≤ x8_2) = true := decide_eq_true c28
             clear c28
             by_cases c29 : 0 ≤ ((rd_T70 ((rd_T63 l0_1 a1).f2) x8_2).f0)
             ·rw [if_pos c29] at H
              have c29b0 : decide (0 ≤ ((rd_T70 ((rd_T63 l0_1 a1).f2) x8_2).f0)) = true := decide_eq_true c29
              clear c29
              by_cases c30 : ((rd_T70 ((rd_T63 l0_1 a1).f2) x8_2).f0) < (l0_0.length : Int)
              ·rw [if_pos c30] at H
               have c30b0 : decide (((rd_T70 ((rd_T63 l0_1 a1).f2) x8_2).f0) < (l0_0.length : Int)) = true := decide_eq_true c30
               clear c30
               by_cases c31 : x7_2.size + 3 + ((rd_T48 l0_0 ((rd_T70 ((rd_T63 l0_1 a1).f2) x8_2).f0)).f0).size ≤ 9223372036854775807
               ·rw [if_pos c31] at H
                have c31b0 := eq_true c31
                have c31b1 : decide (x7_2.size + 3 + ((rd_T48 l0_0 ((rd_T70 ((rd_T63 l0_1 a1).f2) x8_2).f0)).f0).size ≤ 9223372036854775807) = true := decide_eq_true c31
                try have c31b2 : (9223372036854775807 < x7_2.size + 3 + ((rd_T48 l0_0 ((rd_T70 ((rd_T63 l0_1 a1).f2) x8_2).f0)).f0).size) = False := eq_false (Nat.not_lt.2 c31)
                by_cases c32 : x7_2.size + 3 + ((rd_T48 l0_0 ((rd_T70 ((rd_T63 l0_1 a1).f2) x8_2).f0)).f0).size + 1 ≤ 9223372036854775807
                ·rw [if_pos c32] at H
                 have c32b0 := eq_true c32
                 have c32b1 : decide (x7_2.size + 3 + ((rd_T48 l0_0 ((rd_T70 ((rd_T63 l0_1 a1).f2) x8_2).f0)).f0).size + 1 ≤ 9223372036854775807) = true := decide_eq_true c32
                 try have c32b2 : (9223372036854775807 < x7_2.size + 3 + ((rd_T48 l0_0 ((rd_T70 ((rd_T63 l0_1 a1).f2) x8_2).f0)).f0).size + 1) = False := eq_false (Nat.not_lt.2 c32)
                 replace H := Option.bind_eq_some_iff.mp H
                 obtain ⟨t240, A330, H⟩ := H
                 replace H : (if x7_2.size + 3 + ((rd_T48 l0_0 ((rd_T70 ((rd_T63 l0_1 a1).f2) x8_2).f0)).f0).size + 1 + t240.size ≤ 9223372036854775807 then (spec_FormatEntry.l0 k2 ((((x7_2 ++ (⟨#[10, 32, 32]⟩ : ByteArray)) ++ ((rd_T48 l0_0 ((rd_T70 ((rd_T63 l0_1 a1).f2) x8_2).f0)).f0)) ++ (⟨#[32]⟩ : ByteArray)) ++ t240) (wrap64 (x8_2 + 1)) l0_0 l0_1 ((rd_T63 l0_1 a1).f0) ((rd_T63 l0_1 a1).f1) ((rd_T63 l0_1 a1).f2)) else (none)) = some (r1, r2) := H
                 have A33 := Aside0.mk A330
                 clear A330
                 by_cases c34 : x7_2.size + 3 + ((rd_T48 l0_0 ((rd_T70 ((rd_T63 l0_1 a1).f2) x8_2).f0)).f0).size + 1 + t240.size ≤ 9223372036854775807
                 ·rw [if_pos c34] at H
                  have c34b0 := eq_true c34
                  have c34b1 : decide (x7_2.size + 3 + ((rd_T48 l0_0 ((rd_T70 ((rd_T63 l0_1 a1).f2) x8_2).f0)).f0).size + 1 + t240.size ≤ 9223372036854775807) = true := decide_eq_true c34
                  try have c34b2 : (9223372036854775807 < x7_2.size + 3 + ((rd_T48 l0_0 ((rd_T70 ((rd_T63 l0_1 a1).f2) x8_2).f0)).f0).size + 1 + t240.size) = False := eq_false (Nat.not_lt.2 c34)
                  have H' := Aside0.mk H
                  clear H
                  have hnb35 := NB235_231.out
                  have hnc35 := NB231_235.out
                  have hcz36_0 : wr.cell? ⟨gb235, 0, none⟩ = some (.int .i64 ((rd_T63 l0_1 a1).f0)) := (blk_cell BK235.out 0).trans rfl
                  have hcz36_1 : wr.cell? ⟨gb235, 1, none⟩ = some (.string ((rd_T63 l0_1 a1).f1)) := (blk_cell BK235.out 1).trans rfl
                  have hcz36_2 : wr.cell? ⟨gb235, 2, none⟩ = some (.slice A234_2 ((rd_T63 l0_1 a1).f2).length c234_2) := (blk_cell BK235.out 2).trans rfl
                  have hfz36_0 := blk_frozen BK235.out 0
                  have hfz36_1 := blk_frozen BK235.out 1
                  have hfz36_2 := blk_frozen BK235.out 2
                  try go_wp2
                  have n0_ := Aside0.mk (blk_drew BK231.out)
                  have n1_ := Aside0.mk (blk_drew BK235.out)
                  have n2_ := Aside0.mk (below_drew1 HB.out)
                  clear BK231
                  clear BK235
                  clear HB
                  have BK231 := n0_
                  have BK235 := n1_
                  have HB := n2_
                  clear n0_ n1_ n2_
                  have p237 : 0 ≤ (x8_2 : Int) := of_decide_eq_true ZZ853400
                  have q237 : x8_2 < (((rd_T63 l0_1 a1).f2).length : Int) := of_decide_eq_true ZZ853400
                  obtain ⟨ad237, e237, hx237_0, hx237_1⟩ := at_T70 HR234_2.out x8_2 p237 q237
                  have hw237_1 := hx237_1
                  have hw237_0 := hx237_0
                  cases e237
                  replace hx237_0 := (HB.out.cell (World.block_lt_of_cell? w _ hx237_0)).trans hx237_0
                  replace hx237_1 := (HB.out.cell (World.block_lt_of_cell? w _ hx237_1)).trans hx237_1
                  replace p237 := eq_true p237
                  replace q237 := eq_true q237
                  have p238 : 0 ≤ (((rd_T70 ((rd_T63 l0_1 a1).f2) x8_2).f0) : Int) := of_decide_eq_true ZZ853400
                  have q238 : ((rd_T70 ((rd_T63 l0_1 a1).f2) x8_2).f0) < (l0_0.length : Int) := of_decide_eq_true ZZ853400
                  obtain ⟨ad238, e238, hx238_0, hx238_1⟩ := at_T48 HR0_0.out ((rd_T70 ((rd_T63 l0_1 a1).f2) x8_2).f0) p238 q238
                  have hw238_1 := hx238_1
                  have hw238_0 := hx238_0
                  cases e238
                  replace hx238_0 := (HB.out.cell (World.block_lt_of_cell? w _ hx238_0)).trans hx238_0
                  replace hx238_1 := (HB.out.cell (World.block_lt_of_cell? w _ hx238_1)).trans hx238_1
                  replace p238 := eq_true p238
                  replace q238 := eq_true q238
                  have p239 : 0 ≤ (x8_2 : Int) := of_decide_eq_true ZZ853400
                  have q239 : x8_2 < (((rd_T63 l0_1 a1).f2).length : Int) := of_decide_eq_true ZZ853400
                  obtain ⟨ad239, e239, hx239_0, hx239_1⟩ := at_T70 HR234_2.out x8_2 p239 q239
                  have hw239_1 := hx239_1
                  have hw239_0 := hx239_0
                  obtain rfl : ad237 = ad239 := (by injection e239)
                  replace hx239_0 := (HB.out.cell (World.block_lt_of_cell? w _ hx239_0)).trans hx239_0
                  replace hx239_1 := (HB.out.cell (World.block_lt_of_cell? w _ hx239_1)).trans hx239_1
                  replace p239 := eq_true p239
                  replace q239 := eq_true q239
                  refine start_ (n := 24) (S := fun w' => w'.cell? ⟨gb231, 0, none⟩ = some (.slice (some ad238) l0_0.length c0_0) ∧ w'.cell? ⟨gb231, 1, none⟩ = some (.slice (some ad234) l0_1.length c0_1) ∧ w'.cell? ⟨gb235, 0, none⟩ = some (.int .i64 ((rd_T63 l0_1 a1).f0)) ∧ w'.cell? ⟨gb235, 1, none⟩ = some (.string ((rd_T63 l0_1 a1).f1)) ∧ w'.cell? ⟨gb235, 2, none⟩ = some (.slice (some ad237) ((rd_T63 l0_1 a1).f2).length c234_2) ∧ w'.cell? (ad237.add ((x8_2).toNat * 2)) = some (.int .i64 ((rd_T70 ((rd_T63 l0_1 a1).f2) x8_2).f0)) ∧ w'.cell? ⟨(ad237.add ((x8_2).toNat * 2)).block, (ad237.add ((x8_2).toNat * 2)).off + 1, none⟩ = some (.int .i64 ((rd_T70 ((rd_T63 l0_1 a1).f2) x8_2).f1)) ∧ w'.cell? (ad238.add ((((rd_T70 ((rd_T63 l0_1 a1).f2) x8_2).f0)).toNat * 2)) = some (.string ((rd_T48 l0_0 ((rd_T70 ((rd_T63 l0_1 a1).f2) x8_2).f0)).f0)) ∧ w'.cell? ⟨(ad238.add ((((rd_T70 ((rd_T63 l0_1 a1).f2) x8_2).f0)).toNat * 2)).block, (ad238.add ((((rd_T70 ((rd_T63 l0_1 a1).f2) x8_2).f0)).toNat * 2)).off + 1, none⟩ = some (.int .i64 ((rd_T48 l0_0 ((rd_T70 ((rd_T63 l0_1 a1).f2) x8_2).f0)).f1)) ∧ w'.cell? (ad237.add ((x8_2).toNat * 2)) = some (.int .i64 ((rd_T70 ((rd_T63 l0_1 a1).f2) x8_2).f0)) ∧ w'.cell? ⟨(ad237.add ((x8_2).toNat * 2)).block, (ad237.add ((x8_2).toNat * 2)).off + 1, none⟩ = some (.int .i64 ((rd_T70 ((rd_T63 l0_1 a1).f2) x8_2).f1))) (ds := []) #[false, false, false, false, false, false, false, false, false, false, false, false, false, false, false, false, false, false, false, false, false, false, false, false] (by kernel_rfl) rfl rfl ⟨(blk_cell BK231.out 0).trans rfl, (blk_cell BK231.out 1).trans rfl, (blk_cell BK235.out 0).trans rfl, (blk_cell BK235.out 1).trans rfl, (blk_cell BK235.out 2).trans rfl, ((HB.out.cell (World.block_lt_of_cell? w _ hw237_0)).trans hw237_0), ((HB.out.cell (World.block_lt_of_cell? w _ hw237_1)).trans hw237_1), ((HB.out.cell (World.block_lt_of_cell? w _ hw238_0)).trans hw238_0), ((HB.out.cell (World.block_lt_of_cell? w _ hw238_1)).trans hw238_1), ((HB.out.cell (World.block_lt_of_cell? w _ hw239_0)).trans hw239_0), ((HB.out.cell (World.block_lt_of_cell? w _ hw239_1)).trans hw239_1)⟩ (fun hHeld => ?_); refine with_tabW spec_FormatEntry.tab8 spec_FormatEntry.bits8 (fun HT_ HW_ => ?_)
                  generalize wr.drew = w37 at BK231 BK235 HB hx237_0 hx237_1 hx238_0 hx238_1 hx239_0 hx239_1 hHeld ⊢
                  refine pu 0 40 ?_
                  refine pu 1 41 ?_
                  refine pu 2 42 ?_
                  refine pu 4 44 ?_
                  refine pu 6 46 ?_
                  refine pu 15 55 ?_
                  refine pu 17 57 ?_
                  refine tk 3 43 ?_
                  refine tk 5 45 ?_
                  refine pu 7 47 ?_
                  refine pu 8 48 ?_
                  refine tk 9 49 ?_
                  refine pu 10 50 ?_
                  refine pu 11 51 ?_
                  refine tk 12 52 ?_
                  refine pu 13 53 ?_
                  refine pu 14 54 ?_
                  refine tk 16 56 ?_
                  refine pu 18 58 ?_
                  refine pu 19 59 ?_
                  refine tk 20 60 ?_
                  refine one_ (i := 21) (N := some 61) #[true, true, true, true, true, true, true, true, true, true, true, true, true, true, true, true, true, true, true, true, true, true, false, false] rfl rfl (one_of HT_.out (by kernel_rfl)) (by decide) (fun K hK => ?_)
                  refine goes_ Tryd.func97 (by kernel_rfl) rfl #[.int .i64 ((rd_T70 ((rd_T63 l0_1 a1).f2) x8_2).f1)] (by rfl) rfl rfl ZZ19826e ?_
                  with_reducible refine (spec_l2Format.calls k2 ((rd_T70 ((rd_T63 l0_1 a1).f2) x8_2).f1) t240 _ A33.out).mono ?_
                  rintro e w38 ⟨rfl, hb⟩
                  refine ⟨_, rfl, ?_⟩
                  have n0_ := Aside0.mk (blk_below (g := gb231) (o := .cells #[.slice (some ad238) l0_0.length c0_0, .slice (some ad234) l0_1.length c0_1] 31 (0, 0)) ZZ3844aa hb)
                  have n1_ := Aside0.mk (blk_below (g := gb235) (o := .cells #[.int .i64 ((rd_T63 l0_1 a1).f0), .string ((rd_T63 l0_1 a1).f1), .slice (some ad237) ((rd_T63 l0_1 a1).f2).length c234_2] 63 (0, 0)) (by (with_reducible repeat (first | refine blk_drewN ?_ _ | refine blk_drew ?_ | refine blk_alloc ?_ _)); exact BK235.out) hb)
                  have n2_ := Aside0.mk (below_step (by repeat (first | (with_reducible first | exact HB.out | apply below_alloc | apply pw_below_drewN | apply below_drew1 | refine below_set ?_ GE231.out | refine below_set ?_ GE235.out) | exact HB.out)) hb)
                  clear BK231
                  clear BK235
                  clear HB
                  have BK231 := n0_
                  have BK235 := n1_
                  have HB := n2_
                  clear n0_ n1_ n2_
                  (try clear hb)
                  (try clear hb2)
                  (try clear hk)
                  (try clear hi)
                  refine hK.out _ _ ⟨(blk_cell BK231.out 0).trans rfl, (blk_cell BK231.out 1).trans rfl, (blk_cell BK235.out 0).trans rfl, (blk_cell BK235.out 1).trans rfl, (blk_cell BK235.out 2).trans rfl, ((HB.out.cell (World.block_lt_of_cell? w _ hw237_0)).trans hw237_0), ((HB.out.cell (World.block_lt_of_cell? w _ hw237_1)).trans hw237_1), ((HB.out.cell (World.block_lt_of_cell? w _ hw238_0)).trans hw238_0), ((HB.out.cell (World.block_lt_of_cell? w _ hw238_1)).trans hw238_1), ((HB.out.cell (World.block_lt_of_cell? w _ hw239_0)).trans hw239_0), ((HB.out.cell (World.block_lt_of_cell? w _ hw239_1)).trans hw239_1)⟩ (fun hHeld => ?_)
                  clear hK K
                  refine norm_ (a' := ?_) ?_ ?_
                  rotate_left
                  ·show Act.put _ (some 61) _ = _
                   simp only [Act.put, List.setIfInBounds_toArray, List.set_cons_zero, List.set_cons_succ, i64_w, i32_w]
                   rfl
                  refine pu 22 62 ?_
                  refine pu 23 7 ?_
                  refine done_ (done_of HT_.out (by kernel_rfl)) ?_
                  try go_wp2
                  go_roundg k2
                  case measure => have := HJ2.out; have := HK2.out; omega
                  case rel => exact ⟨((((x7_2 ++ (⟨#[10, 32, 32]⟩ : ByteArray)) ++ ((rd_T48 l0_0 ((rd_T70 ((rd_T63 l0_1 a1).f2) x8_2).f0)).f0)) ++ (⟨#[32]⟩ : ByteArray)) ++ t240), (wrap64 (x8_2 + 1)), ZZ0ab324, ZZ0ab324, H', ⟨by have := HJ2.out; have := HK2.out; omega⟩, ⟨by (with_reducible repeat (first | refine blk_drewN ?_ _ | refine blk_drew ?_ | refine blk_alloc ?_ _)); exact BK231.out⟩, ⟨by (with_reducible repeat (first | refine blk_drewN ?_ _ | refine blk_drew ?_ | refine blk_alloc ?_ _)); exact BK235.out⟩, ⟨by repeat (first | (with_reducible first | exact HB.out | apply below_alloc | apply pw_below_drewN | apply below_drew1 | refine below_set ?_ GE231.out | refine below_set ?_ GE235.out) | exact HB.out)⟩⟩
                 ·rw [if_neg c34] at H
                  exact absurd H (by simp)
                ·rw [if_neg c32] at H
                 exact absurd H (by simp)
               ·rw [if_neg c31] at H
                exact absurd H (by simp)
              ·rw [if_neg c30] at H
               exact absurd H (by simp)
             ·rw [if_neg c29] at H
              exact absurd H (by simp)
            ·rw [if_neg c28] at H
             exact absurd H (by simp)
           ·rw [if_neg c27] at H
            exact absurd H (by simp)
          ·rw [if_neg c26] at H
           have c26b0 : decide (x8_2 < (((rd_T63 l0_1 a1).f2).length : Int)) = false := decide_eq_false c26
           clear c26
           simp only [Option.some.injEq, Prod.mk.injEq] at H
           obtain ⟨rfl, rfl⟩ := H
           have hnb39 := NB235_231.out
           have hnc39 := NB231_235.out
           have hcz40_0 : wr.cell? ⟨gb235, 0, none⟩ = some (.int .i64 ((rd_T63 l0_1 a1).f0)) := (blk_cell BK235.out 0).trans rfl
           have hcz40_1 : wr.cell? ⟨gb235, 1, none⟩ = some (.string ((rd_T63 l0_1 a1).f1)) := (blk_cell BK235.out 1).trans rfl
           have hcz40_2 : wr.cell? ⟨gb235, 2, none⟩ = some (.slice A234_2 ((rd_T63 l0_1 a1).f2).length c234_2) := (blk_cell BK235.out 2).trans rfl
           have hfz40_0 := blk_frozen BK235.out 0
           have hfz40_1 := blk_frozen BK235.out 1
           have hfz40_2 := blk_frozen BK235.out 2
           go_wp2
           go_ret2
           exact ⟨by first | rfl | (simp [errW_none, errW_some] <;> rfl) | (simp [*, errW_none, errW_some] <;> rfl), by repeat (first | (with_reducible first | exact HB.out | apply below_alloc | apply pw_below_drewN | apply below_drew1 | refine below_set ?_ GE231.out | refine below_set ?_ GE235.out) | exact HB.out)⟩
       ·rw [if_neg c18] at H
        exact absurd H (by simp)
      ·rw [if_neg c17] at H
       exact absurd H (by simp)
     ·rw [if_neg c15] at H
      exact absurd H (by simp)
    ·rw [if_neg c14] at H
     exact absurd H (by simp)
/-! ### impl_within: function 56 -/
def impl_within.f (a0 : Int) (a1 : Int) (a2 : Int) : Option (Bool) := if a0 ≥ a1 then (some (decide (a0 ≤ a2))) else (some false)
set_option maxHeartbeats 8000000 in
set_option maxRecDepth 100000 in
theorem impl_within.calls (a0 : Int) (a1 : Int) (a2 : Int) (r : Bool) (w : World) (h : impl_within.f a0 a1 a2 = some r) :
 Calls Tryd.prog 56 #[.int .i64 a0, .int .i64 a1, .int .i64 a2] w fun e w' => e = .returned (.bool r) ∧ Drawn0 w w' := by
 have H : (if a0 ≥ a1 then (some (decide (a0 ≤ a2))) else (some false)) = some r := h
 clear h
 by_cases c4 : a0 ≥ a1
 ·rw [if_pos c4] at H
  have c4b0 : decide (a1 ≤ a0) = true := decide_eq_true c4
  clear c4
  obtain rfl := Option.some.inj H
  go_enter Tryd.func56, Tryd.ntmps56
  go_wp2
  go_ret
  exact ⟨by first | rfl | (simp; done) | (simp [*]; done), by repeat (first | exact Drawn0.refl _ | apply Drawn0.step)⟩
 ·rw [if_neg c4] at H
  have c4b0 : decide (a1 ≤ a0) = false := decide_eq_false c4
  clear c4
  obtain rfl := Option.some.inj H
  go_enter Tryd.func56, Tryd.ntmps56
  go_wp2
  go_ret
  exact ⟨by first | rfl | (simp; done) | (simp [*]; done), by repeat (first | exact Drawn0.refl _ | apply Drawn0.step)⟩
/-! ### impl_isAccountName: function 55 -/
def impl_isAccountName.f (a0 : ByteArray) : Option (Bool) := (impl_within.f (a0.size : Int) 1 8).bind fun t241 => (if t241 = true then ((strings_Trim.f a0 (⟨#[97, 98, 99, 100, 101, 102, 103, 104, 105, 106, 107, 108, 109, 110, 111, 112, 113, 114, 115, 116, 117, 118, 119, 120, 121, 122]⟩ : ByteArray)).bind fun t242 => (some (t242.toList == ([] : List UInt8)))) else (some false))
set_option maxHeartbeats 8000000 in
set_option maxRecDepth 100000 in
theorem impl_isAccountName.calls (a0 : ByteArray) (r : Bool) (w : World) (h : impl_isAccountName.f a0 = some r) :
 Calls Tryd.prog 55 #[.string a0] w fun e w' => e = .returned (.bool r) ∧ Below w.heap.size w w' := by
 have HB := Aside0.mk (Below.refl w.heap.size w)
 have H : ((impl_within.f (a0.size : Int) 1 8).bind fun t241 => (if t241 = true then ((strings_Trim.f a0 (⟨#[97, 98, 99, 100, 101, 102, 103, 104, 105, 106, 107, 108, 109, 110, 111, 112, 113, 114, 115, 116, 117, 118, 119, 120, 121, 122]⟩ : ByteArray)).bind fun t242 => (some (t242.toList == ([] : List UInt8)))) else (some false))) = some r := h
 clear h
 replace H := Option.bind_eq_some_iff.mp H
 obtain ⟨t241, A20, H⟩ := H
 replace H : (if t241 = true then ((strings_Trim.f a0 (⟨#[97, 98, 99, 100, 101, 102, 103, 104, 105, 106, 107, 108, 109, 110, 111, 112, 113, 114, 115, 116, 117, 118, 119, 120, 121, 122]⟩ : ByteArray)).bind fun t242 => (some (t242.toList == ([] : List UInt8)))) else (some false)) = some r := H
 have A2 := Aside0.mk A20
 clear A20
 by_cases c3 : t241 = true
 ·subst c3
  have H1 : ((strings_Trim.f a0 (⟨#[97, 98, 99, 100, 101, 102, 103, 104, 105, 106, 107, 108, 109, 110, 111, 112, 113, 114, 115, 116, 117, 118, 119, 120, 121, 122]⟩ : ByteArray)).bind fun t242 => (some (t242.toList == ([] : List UInt8)))) = some r := by rw [if_pos rfl] at H; exact H
  clear H
  have H := H1
  clear H1
  replace H := Option.bind_eq_some_iff.mp H
  obtain ⟨t242, A40, H⟩ := H
  replace H : (some (t242.toList == ([] : List UInt8))) = some r := H
  have A4 := Aside0.mk A40
  clear A40
  obtain rfl := Option.some.inj H
  go_enter Tryd.func55, Tryd.ntmps55
  go_wp2_with (first | ((with_reducible refine gate_callee (f := 56) rfl ?_); refine goesL_ (some 5) rfl rfl Tryd.func56 (by kernel_rfl) rfl #[.int .i64 (a0.size : Int), .int .i64 1, .int .i64 8] rfl ZZ19826e ?_; (with_reducible refine (impl_within.calls (a0.size : Int) 1 8 true _ A2.out).mono ?_); rintro e w' ⟨rfl, ⟨nd, rfl⟩⟩; refine ⟨_, rfl, ?_⟩) | (go_at_call 104; (with_reducible refine (strings_Trim.calls a0 (⟨#[97, 98, 99, 100, 101, 102, 103, 104, 105, 106, 107, 108, 109, 110, 111, 112, 113, 114, 115, 116, 117, 118, 119, 120, 121, 122]⟩ : ByteArray) t242 _ A4.out).mono ?_); rintro e w5 ⟨rfl, hb⟩; have n0_ := Aside0.mk (below_step ZZ605003 hb); clear HB; have HB := n0_; clear n0_; (try clear hb); (try clear hb2); (try clear hk); (try clear hi)))
  go_ret
  exact ⟨by first | rfl | (simp [errW_none, errW_some] <;> rfl) | (simp [*, errW_none, errW_some] <;> rfl), by repeat (first | (with_reducible first | exact HB.out | apply below_alloc | apply pw_below_drewN | apply below_drew1) | exact HB.out)⟩
 ·replace c3 := Bool.eq_false_iff.mpr c3
  subst c3
  have H1 : (some false) = some r := by rw [if_neg (show ¬ (false = true) by decide)] at H; exact H
  clear H
  have H := H1
  clear H1
  obtain rfl := Option.some.inj H
  go_enter Tryd.func55, Tryd.ntmps55
  go_wp2_with (first | ((with_reducible refine gate_callee (f := 56) rfl ?_); refine goesL_ (some 5) rfl rfl Tryd.func56 (by kernel_rfl) rfl #[.int .i64 (a0.size : Int), .int .i64 1, .int .i64 8] rfl ZZ19826e ?_; (with_reducible refine (impl_within.calls (a0.size : Int) 1 8 false _ A2.out).mono ?_); rintro e w' ⟨rfl, ⟨nd, rfl⟩⟩; refine ⟨_, rfl, ?_⟩))
  go_ret
  exact ⟨by first | rfl | (simp [errW_none, errW_some] <;> rfl) | (simp [*, errW_none, errW_some] <;> rfl), by repeat (first | (with_reducible first | exact HB.out | apply below_alloc | apply pw_below_drewN | apply below_drew1) | exact HB.out)⟩
-- NOT PRINTED: function 105 (impl_Account_105)
-- NOT PRINTED: function 57 (impl_Account_57)
-- NOT PRINTED: function 58 (impl_IsValidLedger_1)
/-! ### impl_isDay: function 59 -/
def impl_isDay.f (a0 : Int) : Option (Bool) := (impl_within.f a0 0 36524).bind fun t244 => (some t244)
set_option maxHeartbeats 8000000 in
set_option maxRecDepth 100000 in
theorem impl_isDay.calls (a0 : Int) (r : Bool) (w : World) (h : impl_isDay.f a0 = some r) :
 Calls Tryd.prog 59 #[.int .i64 a0] w fun e w' => e = .returned (.bool r) ∧ Drawn0 w w' := by
 have H : ((impl_within.f a0 0 36524).bind fun t244 => (some t244)) = some r := h
 clear h
 replace H := Option.bind_eq_some_iff.mp H
 obtain ⟨t244, A20, H⟩ := H
 replace H : (some t244) = some r := H
 have A2 := Aside0.mk A20
 clear A20
 obtain rfl := Option.some.inj H
 go_enter Tryd.func59, Tryd.ntmps59
 go_wp2_with (first | ((with_reducible refine gate_callee (f := 56) rfl ?_); refine goesL_ (some 4) rfl rfl Tryd.func56 (by kernel_rfl) rfl #[.int .i64 a0, .int .i64 0, .int .i64 36524] rfl ZZ19826e ?_; (with_reducible refine (impl_within.calls a0 0 36524 t244 _ A2.out).mono ?_); rintro e w' ⟨rfl, ⟨nd, rfl⟩⟩; refine ⟨_, rfl, ?_⟩))
 go_ret
 exact ⟨by first | rfl | (simp; done) | (simp [*]; done), by repeat (first | exact Drawn0.refl _ | apply Drawn0.step)⟩
end Go.Proofs.YtccdjchaaeligaaDoor.XFnExactFormatEntry

-- Printed by wip/tools/xprint.py, a program of this session, over the kit's print; Lean checks it.
import Derived.Test.YtccdjchaaeligaaDoorXFnExactIsValidLedger0
import Derived.Test.YtccdjchaaeligaaDoorXFnExactIsValidLedger1
import Derived.Test.YtccdjchaaeligaaDoorXFnExactIsValidLedger2
import Derived.Test.YtccdjchaaeligaaDoorXFnExactIsValidLedger3
namespace Go.Proofs.YtccdjchaaeligaaDoor.XFnExactIsValidLedger
open Go.Proofs.YtccdjchaaeligaaDoor.Short Go.RowKit Go.Proofs.YtccdjchaaeligaaDoorW.PrintWords Go.Proofs.YtccdjchaaeligaaDoorW.PrintLast Go.Proofs.YtccdjchaaeligaaDoorW.PrintMore
attribute [local go_sem] max2_int min2_int max_two min_two max_three min_three max_four min_four   -- for this text's walks alone
set_option linter.unusedVariables false
set_option linter.unusedSimpArgs false
theorem ZZ416247 {p : Prop} (h : p := by repeat (first | (with_reducible first | exact HB.out | apply below_alloc | apply pw_below_drewN | apply below_drew1 | refine below_set ?_ GE129.out) | exact HB.out)) : p := h
theorem ZZ1d5f87 {p : Prop} (h : p := by (with_reducible repeat (first | refine blk_drewN ?_ _ | refine blk_drew ?_ | refine blk_alloc ?_ _)); exact BK129.out) : p := h
theorem ZZ5d7d61 {p : Prop} (h : p := by (with_reducible repeat (first | apply Kd.R_alloc | apply Kd.R_drewN | apply Kd.R_drew)); exact HO_3.out) : p := h
/-! ### spec_l26Good: function 52 -/
mutual
def spec_l26Good.j0 : Nat → Bool → List (S48) → List (S63) → Option (Bool)
 | 0, _, _, _ => none
 | k + 1, x17, x130000, x130001 => if x17 = true then (some false) else (if 0 ≤ (x130000.length : Int) then (if ((x130000.length : Int) : Int).toNat ≤ 35184372088832 then (spec_l26Good.l0 k (List.replicate ((x130000.length : Int) : Int).toNat 0) 0 x130000 x130001) else (none)) else (none))
def spec_l26Good.l0 : Nat → List Int → Int → List (S48) → List (S63) → Option (Bool)
 | 0, _, _, _, _ => none
 | k + 1, x3, x4, x130000, x130001 => if x4 < (x130001.length : Int) then (if 0 ≤ x4 then ((spec_l26Entry.f k ((rd_T63 x130001 x4).f0) ((rd_T63 x130001 x4).f1) ((rd_T63 x130001 x4).f2) (x130000.length : Int)).bind fun t136 => (if t136 = true then (if x4 > 0 then (if 0 ≤ (wrap64 (x4 - 1)) then (if (wrap64 (x4 - 1)) < (x130001.length : Int) then (spec_l26Good.j2 k x3 x4 (decide (((rd_T63 x130001 (wrap64 (x4 - 1))).f0) > ((rd_T63 x130001 x4).f0))) x130000 x130001 ((rd_T63 x130001 x4).f0) ((rd_T63 x130001 x4).f1) ((rd_T63 x130001 x4).f2)) else (none)) else (none)) else (spec_l26Good.j2 k x3 x4 false x130000 x130001 ((rd_T63 x130001 x4).f0) ((rd_T63 x130001 x4).f1) ((rd_T63 x130001 x4).f2))) else (spec_l26Good.j2 k x3 x4 true x130000 x130001 ((rd_T63 x130001 x4).f0) ((rd_T63 x130001 x4).f1) ((rd_T63 x130001 x4).f2)))) else (none)) else (some true)
def spec_l26Good.j2 : Nat → List Int → Int → Bool → List (S48) → List (S63) → Int → ByteArray → List (S70) → Option (Bool)
 | 0, _, _, _, _, _, _, _, _ => none
 | k + 1, x3, x4, x55, x130000, x130001, x136000, x136001, x136002 => if x55 = true then (some false) else (spec_l26Good.l1 k x3 x4 0 x130000 x130001 x136000 x136001 x136002)
def spec_l26Good.l1 : Nat → List Int → Int → Int → List (S48) → List (S63) → Int → ByteArray → List (S70) → Option (Bool)
 | 0, _, _, _, _, _, _, _, _ => none
 | k + 1, x3, x4, x6, x130000, x130001, x136000, x136001, x136002 => if x6 < (x136002.length : Int) then (if 0 ≤ x6 then (if 0 ≤ ((rd_T70 x136002 x6).f0) then (if ((rd_T70 x136002 x6).f0) < (x3.length : Int) then ((spec_l2Amount.f (wrap64 ((rd x3 ((rd_T70 x136002 x6).f0)) + ((rd_T70 x136002 x6).f1)))).bind fun t143 => (if t143 = true then (spec_l26Good.l1 k (x3.set (((rd_T70 x136002 x6).f0) : Int).toNat (wrap64 ((rd x3 ((rd_T70 x136002 x6).f0)) + ((rd_T70 x136002 x6).f1)))) x4 (wrap64 (x6 + 1)) x130000 x130001 x136000 x136001 x136002) else (some false))) else (none)) else (none)) else (none)) else (spec_l26Good.l0 k x3 (wrap64 (x4 + 1)) x130000 x130001)
end
def spec_l26Good.f (k : Nat) (l0_0 : List (S48)) (l0_1 : List (S63)) : Option (Bool) := (spec_l26Accounts.f k l0_0).bind fun t130 => (if t130 = true then (spec_l26Good.j0 k (decide ((l0_1.length : Int) > 40)) l0_0 l0_1) else (spec_l26Good.j0 k true l0_0 l0_1))
theorem spec_l26Good.mono_l : ∀ k, (∀ y0 y1 y2, LeO (spec_l26Good.j0 k y0 y1 y2) (spec_l26Good.j0 (k + 1) y0 y1 y2)) ∧ (∀ y0 y1 y2 y3, LeO (spec_l26Good.l0 k y0 y1 y2 y3) (spec_l26Good.l0 (k + 1) y0 y1 y2 y3)) ∧ (∀ y0 y1 y2 y3 y4 y5 y6 y7, LeO (spec_l26Good.j2 k y0 y1 y2 y3 y4 y5 y6 y7) (spec_l26Good.j2 (k + 1) y0 y1 y2 y3 y4 y5 y6 y7)) ∧ (∀ y0 y1 y2 y3 y4 y5 y6 y7, LeO (spec_l26Good.l1 k y0 y1 y2 y3 y4 y5 y6 y7) (spec_l26Good.l1 (k + 1) y0 y1 y2 y3 y4 y5 y6 y7))
 | 0 => ⟨fun _ _ _ r h => by simp [spec_l26Good.j0] at h, fun _ _ _ _ r h => by simp [spec_l26Good.l0] at h, fun _ _ _ _ _ _ _ _ r h => by simp [spec_l26Good.j2] at h, fun _ _ _ _ _ _ _ _ r h => by simp [spec_l26Good.l1] at h⟩
 | k + 1 => by
  obtain ⟨ih0, ih1, ih2, ih3⟩ := spec_l26Good.mono_l k
  refine ⟨?_, ?_, ?_, ?_⟩
  ·intro y0 y1 y2
   unfold spec_l26Good.j0
   repeat' first
   | (with_reducible exact ih0 _ _ _)
   | (with_reducible exact ih1 _ _ _ _)
   | (with_reducible exact ih2 _ _ _ _ _ _ _ _)
   | (with_reducible exact ih3 _ _ _ _ _ _ _ _)
   | (with_reducible exact spec_l26Accounts.mono _ _)
   | (with_reducible exact spec_l26Entry.mono _ _ _ _ _)
   | (with_reducible exact LeO.refl _)
   | (with_reducible exact LeO.none _)
   | (with_reducible refine LeO.ite ?_ ?_)
   | (with_reducible refine LeO.bind ?_ (fun _ => ?_))
   | exact ih0 _ _ _
   | exact ih1 _ _ _ _
   | exact ih2 _ _ _ _ _ _ _ _
   | exact ih3 _ _ _ _ _ _ _ _
   | exact spec_l26Accounts.mono _ _
   | exact spec_l26Entry.mono _ _ _ _ _
   | exact LeO.none _
   | refine LeO.ite ?_ ?_
   | refine LeO.bind ?_ (fun _ => ?_)
  ·intro y0 y1 y2 y3
   unfold spec_l26Good.l0
   repeat' first
   | (with_reducible exact ih0 _ _ _)
   | (with_reducible exact ih1 _ _ _ _)
   | (with_reducible exact ih2 _ _ _ _ _ _ _ _)
   | (with_reducible exact ih3 _ _ _ _ _ _ _ _)
   | (with_reducible exact spec_l26Accounts.mono _ _)
   | (with_reducible exact spec_l26Entry.mono _ _ _ _ _)
   | (with_reducible exact LeO.refl _)
   | (with_reducible exact LeO.none _)
   | (with_reducible refine LeO.ite ?_ ?_)
   | (with_reducible refine LeO.bind ?_ (fun _ => ?_))
   | exact ih0 _ _ _
   | exact ih1 _ _ _ _
   | exact ih2 _ _ _ _ _ _ _ _
   | exact ih3 _ _ _ _ _ _ _ _
   | exact spec_l26Accounts.mono _ _
   | exact spec_l26Entry.mono _ _ _ _ _
   | exact LeO.none _
   | refine LeO.ite ?_ ?_
   | refine LeO.bind ?_ (fun _ => ?_)
  ·intro y0 y1 y2 y3 y4 y5 y6 y7
   unfold spec_l26Good.j2
   repeat' first
   | (with_reducible exact ih0 _ _ _)
   | (with_reducible exact ih1 _ _ _ _)
   | (with_reducible exact ih2 _ _ _ _ _ _ _ _)
   | (with_reducible exact ih3 _ _ _ _ _ _ _ _)
   | (with_reducible exact spec_l26Accounts.mono _ _)
   | (with_reducible exact spec_l26Entry.mono _ _ _ _ _)
   | (with_reducible exact LeO.refl _)
   | (with_reducible exact LeO.none _)
   | (with_reducible refine LeO.ite ?_ ?_)
   | (with_reducible refine LeO.bind ?_ (fun _ => ?_))
   | exact ih0 _ _ _
   | exact ih1 _ _ _ _
   | exact ih2 _ _ _ _ _ _ _ _
   | exact ih3 _ _ _ _ _ _ _ _
   | exact spec_l26Accounts.mono _ _
   | exact spec_l26Entry.mono _ _ _ _ _
   | exact LeO.none _
   | refine LeO.ite ?_ ?_
   | refine LeO.bind ?_ (fun _ => ?_)
  ·intro y0 y1 y2 y3 y4 y5 y6 y7
   unfold spec_l26Good.l1
   repeat' first
   | (with_reducible exact ih0 _ _ _)
   | (with_reducible exact ih1 _ _ _ _)
   | (with_reducible exact ih2 _ _ _ _ _ _ _ _)
   | (with_reducible exact ih3 _ _ _ _ _ _ _ _)
   | (with_reducible exact spec_l26Accounts.mono _ _)
   | (with_reducible exact spec_l26Entry.mono _ _ _ _ _)
   | (with_reducible exact LeO.refl _)
   | (with_reducible exact LeO.none _)
   | (with_reducible refine LeO.ite ?_ ?_)
   | (with_reducible refine LeO.bind ?_ (fun _ => ?_))
   | exact ih0 _ _ _
   | exact ih1 _ _ _ _
   | exact ih2 _ _ _ _ _ _ _ _
   | exact ih3 _ _ _ _ _ _ _ _
   | exact spec_l26Accounts.mono _ _
   | exact spec_l26Entry.mono _ _ _ _ _
   | exact LeO.none _
   | refine LeO.ite ?_ ?_
   | refine LeO.bind ?_ (fun _ => ?_)
theorem spec_l26Good.mono : ∀ a0 a1 k, LeO (spec_l26Good.f k a0 a1) (spec_l26Good.f (k + 1) a0 a1) := by
 intro a0 a1 k
 obtain ⟨ih0, ih1, ih2, ih3⟩ := spec_l26Good.mono_l k
 unfold spec_l26Good.f
 repeat' first
  | (with_reducible exact ih0 _ _ _)
  | (with_reducible exact ih1 _ _ _ _)
  | (with_reducible exact ih2 _ _ _ _ _ _ _ _)
  | (with_reducible exact ih3 _ _ _ _ _ _ _ _)
  | (with_reducible exact spec_l26Accounts.mono _ _)
  | (with_reducible exact spec_l26Entry.mono _ _ _ _ _)
  | (with_reducible exact LeO.refl _)
  | (with_reducible exact LeO.none _)
  | (with_reducible refine LeO.ite ?_ ?_)
  | (with_reducible refine LeO.bind ?_ (fun _ => ?_))
  | exact ih0 _ _ _
  | exact ih1 _ _ _ _
  | exact ih2 _ _ _ _ _ _ _ _
  | exact ih3 _ _ _ _ _ _ _ _
  | exact spec_l26Accounts.mono _ _
  | exact spec_l26Entry.mono _ _ _ _ _
  | exact LeO.none _
  | refine LeO.ite ?_ ?_
  | refine LeO.bind ?_ (fun _ => ?_)
def spec_l26Good.T8 : Bool × List (List Nat × List Nat) := (true, [([], []), ([], []), ([1], [1]), ([2], [2]), ([0, 3], [0, 3]), ([4], [4]), ([5, 4], [5]), ([6], [6]), ([7, 6], [6, 7]), ([8, 6, 6], [6, 8]), ([9], [9]), ([10, 9], [9, 10]), ([9], [9]), ([12, 9], [9, 12]), ([11, 13, 9], [9, 11, 13]), ([14, 9], [9, 14]), ([15, 9], [9, 15]), ([9], [9]), ([17, 9], [9, 17]), ([16, 18, 9], [9, 16, 18]), ([9, 19, 6], [6, 9, 19]), ([6, 20], [6, 20])])
def spec_l26Good.B8 : List Nat := [0, 0, 2, 6, 15, 31, 63, 127, 255, 511, 1023, 2047, 1023, 5119, 16383, 32767, 65535, 1023, 132095, 524287, 1048575, 2097151]
theorem spec_l26Good.tab8 : rtab .any (opsOf Tryd.f52 8) = spec_l26Good.T8 := by kernel_rfl
theorem spec_l26Good.bits8 : waitsOk spec_l26Good.T8.2 spec_l26Good.B8 = true := by kernel_rfl
def spec_l26Good.T14 : Bool × List (List Nat × List Nat) := (true, [([], []), ([], []), ([], []), ([], []), ([2, 3], [2, 3]), ([4], [4]), ([], []), ([6], [6]), ([], []), ([7, 8], [7, 8]), ([9], [9]), ([10], [10]), ([5, 11], [5, 11]), ([0, 1, 0, 1, 2, 3, 4, 5, 6, 7, 8, 9, 10, 11, 12], [0, 1]), ([13, 12, 0, 1, 2, 3, 4, 5, 6, 7, 8, 9, 10, 11, 12], [12, 13])])
def spec_l26Good.B14 : List Nat := [0, 0, 0, 0, 12, 28, 0, 64, 0, 448, 960, 1984, 4092, 8191, 16383]
theorem spec_l26Good.tab14 : rtab .any (opsOf Tryd.f52 14) = spec_l26Good.T14 := by kernel_rfl
theorem spec_l26Good.bits14 : waitsOk spec_l26Good.T14.2 spec_l26Good.B14 = true := by kernel_rfl
set_option maxHeartbeats 8000000 in
set_option maxRecDepth 100000 in
theorem spec_l26Good.calls (k : Nat) (A0_0 : Option Addr) (c0_0 : Nat) (l0_0 : List (S48)) (A0_1 : Option Addr) (c0_1 : Nat) (l0_1 : List (S63)) (r : Bool) (w : World) (hr0_0 : Kd.C k48 w A0_0 l0_0.length l0_0) (hc0_0 : l0_0.length ≤ c0_0) (hr0_1 : Kd.C k63 w A0_1 l0_1.length l0_1) (hc0_1 : l0_1.length ≤ c0_1) (h : spec_l26Good.f k l0_0 l0_1 = some r) :
 Calls Tryd.prog 52 #[.agg #[.slice A0_0 l0_0.length c0_0, .slice A0_1 l0_1.length c0_1]] w fun e w' => e = .returned (.bool r) ∧ Below w.heap.size w w' := by
 have hu31 := Tryd.underlying31
 have hu63 := Tryd.underlying63
 have HR0_0 := Aside0.mk hr0_0
 have HC0_0 := Aside0.mk hc0_0
 clear hr0_0 hc0_0
 have HR0_1 := Aside0.mk hr0_1
 have HC0_1 := Aside0.mk hc0_1
 clear hr0_1 hc0_1
 have HB := Aside0.mk (Below.refl w.heap.size w)
 have H : ((spec_l26Accounts.f k l0_0).bind fun t130 => (if t130 = true then (spec_l26Good.j0 k (decide ((l0_1.length : Int) > 40)) l0_0 l0_1) else (spec_l26Good.j0 k true l0_0 l0_1))) = some r := h
 clear h
 have HC2 := Aside0.mk H
 clear H
 go_enter Tryd.func52, Tryd.ntmps52
 go_upto_region 1 with (first | ((with_reducible refine gate_dst (N := 1) rfl ?_); (try (refine gate_guard (by rfl) ?_; dsimp only)); refine box_event ?hg (N := 1) ?hd (cs := #[.slice A0_0 l0_0.length c0_0, .slice A0_1 l0_1.length c0_1]) (t := 31) ?hr ?_; (case hd => rfl); (case hg => rfl); (case hr => first | (go_simp; done) | (go_simp; rfl)); intro gb129 hg w3 hbox hb; have n0_ := Aside0.mk (below_step ZZ605003 hb); have n1_ := Aside0.mk (hbox); have n2_ := Aside0.mk ((by rw [hg]; exact (below_size ZZ605003) : w.heap.size ≤ gb129)); have n3_ := Aside0.mk ((by rw [hg]; exact (below_size ZZ605003) : w.heap.size ≤ gb129)); clear HB; have HB := n0_; have BK129 := n1_; have GW129 := n2_; have GE129 := n3_; clear n0_ n1_ n2_ n3_; clear hb hbox hg))
 (try simp only [Act.put, List.setIfInBounds_toArray, List.set_cons_zero, List.set_cons_succ])
 go_cut [17] (fun v17 wc => ∃ (kq : Nat) (x17_1 : Bool), v17 = .bool x17_1 ∧ Aside0 (spec_l26Good.j0 kq x17_1 l0_0 l0_1 = some r) ∧ Aside0 (kq ≤ k) ∧ Aside0 (wc.heap[gb129]? = some (.cells #[(.slice A0_0 l0_0.length c0_0), (.slice A0_1 l0_1.length c0_1)] 31 (0, 0))) ∧ Aside0 (Below w.heap.size w wc))
 case first =>
  have H := HC2.out
  clear HC2
  replace H := Option.bind_eq_some_iff.mp H
  obtain ⟨t130, A40, H⟩ := H
  replace H : (if t130 = true then (spec_l26Good.j0 k (decide ((l0_1.length : Int) > 40)) l0_0 l0_1) else (spec_l26Good.j0 k true l0_0 l0_1)) = some r := H
  have A4 := Aside0.mk A40
  clear A40
  by_cases c5 : t130 = true
  ·subst c5
   have H1 : (spec_l26Good.j0 k (decide ((l0_1.length : Int) > 40)) l0_0 l0_1) = some r := by rw [if_pos rfl] at H; exact H
   clear H
   have H := H1
   clear H1
   have H' := Aside0.mk H
   clear H
   have hcz6_0 : w3.cell? ⟨gb129, 0, none⟩ = some (.slice A0_0 l0_0.length c0_0) := (blk_cell BK129.out 0).trans rfl
   have hcz6_1 : w3.cell? ⟨gb129, 1, none⟩ = some (.slice A0_1 l0_1.length c0_1) := (blk_cell BK129.out 1).trans rfl
   have hfz6_0 := blk_frozen BK129.out 0
   have hfz6_1 := blk_frozen BK129.out 1
   go_wp2_with (first | ((with_reducible refine gate_callee (f := 101) rfl ?_); refine goesL_ (some 10) rfl rfl Tryd.func101 (by kernel_rfl) rfl #[.slice A0_0 l0_0.length c0_0] rfl ZZ19826e ?_; (with_reducible refine (spec_l26Accounts.calls k _ _ l0_0 true _ ?side1 ?side2 A4.out).mono ?_); (case side1 => repeat (first | exact (Kd.C_below HR0_0.out HB.out) | (with_reducible refine Kd.C_alloc ?_ _) | (with_reducible refine Kd.C_drewN ?_ _) | (with_reducible refine Kd.C_drew ?_))); (case side2 => exact HC0_0.out); rintro e w' ⟨rfl, ⟨nd, rfl⟩⟩; refine ⟨_, rfl, ?_⟩))
   go_meet
   case rel => exact ⟨_, (decide ((l0_1.length : Int) > 40)), ZZ0ab324, H', ⟨by first | omega | exact Nat.le_refl _⟩, ⟨by (with_reducible repeat (first | refine blk_drewN ?_ _ | refine blk_drew ?_ | refine blk_alloc ?_ _)); exact BK129.out⟩, ⟨by repeat (first | (with_reducible first | exact HB.out | apply below_alloc | apply pw_below_drewN | apply below_drew1 | refine below_set ?_ GE129.out) | exact HB.out)⟩⟩
  ·replace c5 := Bool.eq_false_iff.mpr c5
   subst c5
   have H1 : (spec_l26Good.j0 k true l0_0 l0_1) = some r := by rw [if_neg (show ¬ (false = true) by decide)] at H; exact H
   clear H
   have H := H1
   clear H1
   have H' := Aside0.mk H
   clear H
   have hcz7_0 : w3.cell? ⟨gb129, 0, none⟩ = some (.slice A0_0 l0_0.length c0_0) := (blk_cell BK129.out 0).trans rfl
   have hcz7_1 : w3.cell? ⟨gb129, 1, none⟩ = some (.slice A0_1 l0_1.length c0_1) := (blk_cell BK129.out 1).trans rfl
   have hfz7_0 := blk_frozen BK129.out 0
   have hfz7_1 := blk_frozen BK129.out 1
   go_wp2_with (first | ((with_reducible refine gate_callee (f := 101) rfl ?_); refine goesL_ (some 10) rfl rfl Tryd.func101 (by kernel_rfl) rfl #[.slice A0_0 l0_0.length c0_0] rfl ZZ19826e ?_; (with_reducible refine (spec_l26Accounts.calls k _ _ l0_0 false _ ?side1 ?side2 A4.out).mono ?_); (case side1 => repeat (first | exact (Kd.C_below HR0_0.out HB.out) | (with_reducible refine Kd.C_alloc ?_ _) | (with_reducible refine Kd.C_drewN ?_ _) | (with_reducible refine Kd.C_drew ?_))); (case side2 => exact HC0_0.out); rintro e w' ⟨rfl, ⟨nd, rfl⟩⟩; refine ⟨_, rfl, ?_⟩))
   go_meet
   case rel => exact ⟨_, (true), ZZ0ab324, H', ⟨by first | omega | exact Nat.le_refl _⟩, ⟨by (with_reducible repeat (first | refine blk_drewN ?_ _ | refine blk_drew ?_ | refine blk_alloc ?_ _)); exact BK129.out⟩, ⟨by repeat (first | (with_reducible first | exact HB.out | apply below_alloc | apply pw_below_drewN | apply below_drew1 | refine below_set ?_ GE129.out) | exact HB.out)⟩⟩
 case rest =>
  clear HC2
  try clear c1
  try clear p2
  try clear c5
  try clear hcz6_0
  try clear hcz6_1
  try clear hcz7_0
  try clear hcz7_1
  try clear hfz6_0
  try clear hfz6_1
  try clear hfz7_0
  try clear hfz7_1
  obtain ⟨kq, x17_1, rfl, HA, HJ1, BK129, HB⟩ := hcut
  cases kq with
  | zero => exact absurd HA.out (by simp [spec_l26Good.j0])
  | succ kj1 =>
   have H := HA.out
   clear HA
   simp only [spec_l26Good.j0] at H
   by_cases c8 : x17_1 = true
   ·subst c8
    have H1 : (some false) = some r := by rw [if_pos rfl] at H; exact H
    clear H
    have H := H1
    clear H1
    obtain rfl := Option.some.inj H
    go_wp2
    go_ret
    exact ⟨by first | rfl | (simp [errW_none, errW_some] <;> rfl) | (simp [*, errW_none, errW_some] <;> rfl), by repeat (first | (with_reducible first | exact HB.out | apply below_alloc | apply pw_below_drewN | apply below_drew1 | refine below_set ?_ GE129.out) | exact HB.out)⟩
   ·replace c8 := Bool.eq_false_iff.mpr c8
    subst c8
    have H1 : (if 0 ≤ (l0_0.length : Int) then (if ((l0_0.length : Int) : Int).toNat ≤ 35184372088832 then (spec_l26Good.l0 kj1 (List.replicate ((l0_0.length : Int) : Int).toNat 0) 0 l0_0 l0_1) else (none)) else (none)) = some r := by rw [if_neg (show ¬ (false = true) by decide)] at H; exact H
    clear H
    have H := H1
    clear H1
    by_cases c9 : 0 ≤ (l0_0.length : Int)
    ·rw [if_pos c9] at H
     have c9b0 := eq_true c9
     have c9b1 : decide (0 ≤ (l0_0.length : Int)) = true := decide_eq_true c9
     clear c9
     by_cases c10 : ((l0_0.length : Int) : Int).toNat ≤ 35184372088832
     ·rw [if_pos c10] at H
      have c10b0 := eq_true c10
      have c10b1 : decide (((l0_0.length : Int) : Int).toNat ≤ 35184372088832) = true := decide_eq_true c10
      clear c10
      obtain ⟨y131, hy131⟩ : ∃ y_ : List Int, y_ = (List.replicate ((l0_0.length : Int) : Int).toNat 0) := ⟨_, rfl⟩
      replace H : (spec_l26Good.l0 kj1 y131 0 l0_0 l0_1) = some r := by first | (rw [hy131]; with_reducible exact H) | (have H2_ := (Option.bind_some _ _).symm.trans H; rw [hy131]; with_reducible exact H2_) | (have H2_ := (Option.bind_some _ _).symm.trans H; with_reducible exact H2_) | with_reducible exact H | (rw [hy131]; exact H) | exact H
      have Ny131 := Aside0.mk hy131
      clear hy131
      have H' := Aside0.mk H
      clear H
      have hcz11_0 : wc.cell? ⟨gb129, 0, none⟩ = some (.slice A0_0 l0_0.length c0_0) := (blk_cell BK129.out 0).trans rfl
      have hcz11_1 : wc.cell? ⟨gb129, 1, none⟩ = some (.slice A0_1 l0_1.length c0_1) := (blk_cell BK129.out 1).trans rfl
      have hfz11_0 := blk_frozen BK129.out 0
      have hfz11_1 := blk_frozen BK129.out 1
      go_wp2_with (first | ((with_reducible refine gate_dst (N := 21) rfl ?_); (try (refine gate_guard (by rfl) ?_; dsimp only)); refine Kd.R_make (Kd.int .i64) _ 3 rfl (N := 21) rfl 44 _ _ rfl (l0_0.length : Int) rfl rfl Tryd.underlying44 (.int .i64 0) 8 info3 rfl (by decide) (by omega) 0 (ok := fun _ => True) (okp := fun _ => True) rfl (fun _ hk => hk) trivial (of_decide_eq_true ZZ853400) (Nat.le_trans (Nat.mul_le_mul_right _ (of_decide_eq_true ZZ853400 : (l0_0.length : Int).toNat ≤ 35184372088832)) (by omega)) (Below.refl _ _) (Nat.le_refl _) ?_; intro v132 w12 ho13 hb hg_ hnew_; clear hg_ hnew_; (first | rw [← Ny131.out] at ho13 | (simp only [Int.reduceToNat] at ho13; rw [← Ny131.out] at ho13)); have n0_ := Aside0.mk (Kd.R_lower ho13 (below_size ZZ416247)); have n1_ := Aside0.mk (blk_below (g := gb129) (o := .cells #[.slice A0_0 l0_0.length c0_0, .slice A0_1 l0_1.length c0_1] 31 (0, 0)) ZZ1d5f87 hb); have n2_ := Aside0.mk (below_step ZZ416247 hb); clear BK129; clear HB; have HO133 := n0_; have BK129 := n1_; have HB := n2_; clear n0_ n1_ n2_; clear hb ho13))
      go_loopg [4] kj1 (fun kq v4 w' => ∃ (x3_2 : List Int) (x4_2 : Int), v4 = .int .i64 x4_2 ∧ Aside0 (spec_l26Good.l0 kq x3_2 x4_2 l0_0 l0_1 = some r) ∧ Aside0 (kq ≤ kj1) ∧ Aside0 (Kd.R (Kd.int .i64) 3 w' w.heap.size (fun _ => True) v132 x3_2) ∧ Aside0 (w'.heap[gb129]? = some (.cells #[(.slice A0_0 l0_0.length c0_0), (.slice A0_1 l0_1.length c0_1)] 31 (0, 0))) ∧ Aside0 (Below w.heap.size w w'))
      case atStart => exact ⟨(y131), (0), ZZ0ab324, H', ⟨Nat.le_refl _⟩, ⟨by (with_reducible repeat (first | apply Kd.R_alloc | apply Kd.R_drewN | apply Kd.R_drew)); exact HO133.out⟩, ⟨by (with_reducible repeat (first | refine blk_drewN ?_ _ | refine blk_drew ?_ | refine blk_alloc ?_ _)); exact BK129.out⟩, ⟨by repeat (first | (with_reducible first | exact HB.out | apply below_alloc | apply pw_below_drewN | apply below_drew1 | refine below_set ?_ GE129.out) | exact HB.out)⟩⟩
      case round =>
       clear H'
       try clear c1
       try clear p2
       try clear c5
       try clear c8
       try clear c9
       try clear c9b0
       try clear c9b1
       try clear c10
       try clear c10b0
       try clear c10b1
       try clear hcz11_0
       try clear hcz11_1
       try clear hcz6_0
       try clear hcz6_1
       try clear hcz7_0
       try clear hcz7_1
       try clear hfz11_0
       try clear hfz11_1
       try clear hfz6_0
       try clear hfz6_1
       try clear hfz7_0
       try clear hfz7_1
       try clear p2
       obtain ⟨x3_2, x4_2, rfl, HA, HK2, HO_3, BK129, HB⟩ := hrel
       cases gk with
       | zero => exact absurd HA.out (by simp [spec_l26Good.l0])
       | succ k2 =>
        have H := HA.out
        clear HA
        simp only [spec_l26Good.l0] at H
        by_cases c14 : x4_2 < (l0_1.length : Int)
        ·rw [if_pos c14] at H
         have c14b0 : decide (x4_2 < (l0_1.length : Int)) = true := decide_eq_true c14
         clear c14
         by_cases c15 : 0 ≤ x4_2
         ·rw [if_pos c15] at H
          have c15b0 : decide (0 ≤ x4_2) = true := decide_eq_true c15
          clear c15
          have HC16 := Aside0.mk H
          clear H
          have hcz17_0 : wr.cell? ⟨gb129, 0, none⟩ = some (.slice A0_0 l0_0.length c0_0) := (blk_cell BK129.out 0).trans rfl
          have hcz17_1 : wr.cell? ⟨gb129, 1, none⟩ = some (.slice A0_1 l0_1.length c0_1) := (blk_cell BK129.out 1).trans rfl
          have hfz17_0 := blk_frozen BK129.out 0
          have hfz17_1 := blk_frozen BK129.out 1
          have p134 : 0 ≤ (x4_2 : Int) := of_decide_eq_true ZZ853400
          have q134 : x4_2 < (l0_1.length : Int) := of_decide_eq_true ZZ853400
          obtain ⟨ad134, A134_2, c134_2, e134, hx134_0, hx134_1, hx134_2, hl134_2, hi134_2⟩ := at_T63 HR0_1.out x4_2 p134 q134
          cases e134
          replace hx134_0 := (HB.out.cell (World.block_lt_of_cell? w _ hx134_0)).trans hx134_0
          replace hx134_1 := (HB.out.cell (World.block_lt_of_cell? w _ hx134_1)).trans hx134_1
          replace hx134_2 := (HB.out.cell (World.block_lt_of_cell? w _ hx134_2)).trans hx134_2
          have HR134_2 := Aside0.mk hi134_2
          have HC134_2 := Aside0.mk hl134_2
          clear hi134_2 hl134_2
          replace p134 := eq_true p134
          replace q134 := eq_true q134
          go_upto_region 8 with (first | ((with_reducible refine gate_dst (N := 5) rfl ?_); (try (refine gate_guard (by rfl) ?_; dsimp only)); refine box_event ?hg (N := 5) ?hd (cs := #[.int .i64 0, .string (⟨#[]⟩ : ByteArray), .slice none 0 0]) (t := 63) ?hr ?_; (case hd => rfl); (case hg => rfl); (case hr => first | (go_simp; done) | (go_simp; rfl)); intro gb135 hg w18 hbox hb; have n0_ := Aside0.mk (Kd.R_below ZZ5d7d61 hb); have n1_ := Aside0.mk (blk_below (g := gb129) (o := .cells #[.slice A0_0 l0_0.length c0_0, .slice (some ad134) l0_1.length c0_1] 31 (0, 0)) ZZ1d5f87 hb); have n2_ := Aside0.mk (below_step ZZ416247 hb); have n3_ := Aside0.mk (hbox); have n4_ := Aside0.mk ((by rw [hg]; exact (below_size ZZ416247) : w.heap.size ≤ gb135)); have n5_ := Aside0.mk ((by rw [hg]; exact (below_size ZZ416247) : w.heap.size ≤ gb135)); have n6_ := Aside0.mk ((by rw [hg]; exact Nat.ne_of_lt (blk_lt (g := gb129) (o := .cells #[.slice A0_0 l0_0.length c0_0, .slice (some ad134) l0_1.length c0_1] 31 (0, 0)) ZZ1d5f87) : gb129 ≠ gb135)); have n7_ := Aside0.mk ((by rw [hg]; exact Nat.ne_of_gt (blk_lt (g := gb129) (o := .cells #[.slice A0_0 l0_0.length c0_0, .slice (some ad134) l0_1.length c0_1] 31 (0, 0)) ZZ1d5f87) : gb135 ≠ gb129)); clear HO_3; clear BK129; clear HB; have HO_3 := n0_; have BK129 := n1_; have HB := n2_; have BK135 := n3_; have GW135 := n4_; have GE135 := n5_; have NB129_135 := n6_; have NB135_129 := n7_; clear n0_ n1_ n2_ n3_ n4_ n5_ n6_ n7_; clear hb hbox hg; have hnb19 := NB135_129.out; have hnc19 := NB129_135.out; have hcz20_0 : w18.cell? ⟨gb135, 0, none⟩ = some (.int .i64 0) := (blk_cell BK135.out 0).trans rfl; have hcz20_1 : w18.cell? ⟨gb135, 1, none⟩ = some (.string (⟨#[]⟩ : ByteArray)) := (blk_cell BK135.out 1).trans rfl; have hcz20_2 : w18.cell? ⟨gb135, 2, none⟩ = some (.slice none 0 0) := (blk_cell BK135.out 2).trans rfl; have hfz20_0 := blk_frozen BK135.out 0; have hfz20_1 := blk_frozen BK135.out 1; have hfz20_2 := blk_frozen BK135.out 2))
          (try simp only [Act.put, List.setIfInBounds_toArray, List.set_cons_zero, List.set_cons_succ])
          go_cut [55] (fun v55 wc => ∃ (kq : Nat) (x55_15 : Bool), v55 = .bool x55_15 ∧ Aside0 (spec_l26Good.j2 kq x3_2 x4_2 x55_15 l0_0 l0_1 ((rd_T63 l0_1 x4_2).f0) ((rd_T63 l0_1 x4_2).f1) ((rd_T63 l0_1 x4_2).f2) = some r) ∧ Aside0 (kq ≤ k2) ∧ Aside0 (Kd.R (Kd.int .i64) 3 wc w.heap.size (fun _ => True) v132 x3_2) ∧ Aside0 (wc.heap[gb129]? = some (.cells #[(.slice A0_0 l0_0.length c0_0), (.slice (some ad134) l0_1.length c0_1)] 31 (0, 0))) ∧ Aside0 (wc.heap[gb135]? = some (.cells #[.int .i64 ((rd_T63 l0_1 x4_2).f0), .string ((rd_T63 l0_1 x4_2).f1), (.slice A134_2 ((rd_T63 l0_1 x4_2).f2).length c134_2)] 63 (0, 0))) ∧ Aside0 (Below w.heap.size w wc))
          case first =>
           have H := HC16.out
           clear HC16
           replace H := Option.bind_eq_some_iff.mp H
           obtain ⟨t136, A210, H⟩ := H
           replace H : (if t136 = true then (if x4_2 > 0 then (if 0 ≤ (wrap64 (x4_2 - 1)) then (if (wrap64 (x4_2 - 1)) < (l0_1.length : Int) then (spec_l26Good.j2 k2 x3_2 x4_2 (decide (((rd_T63 l0_1 (wrap64 (x4_2 - 1))).f0) > ((rd_T63 l0_1 x4_2).f0))) l0_0 l0_1 ((rd_T63 l0_1 x4_2).f0) ((rd_T63 l0_1 x4_2).f1) ((rd_T63 l0_1 x4_2).f2)) else (none)) else (none)) else (spec_l26Good.j2 k2 x3_2 x4_2 false l0_0 l0_1 ((rd_T63 l0_1 x4_2).f0) ((rd_T63 l0_1 x4_2).f1) ((rd_T63 l0_1 x4_2).f2))) else (spec_l26Good.j2 k2 x3_2 x4_2 true l0_0 l0_1 ((rd_T63 l0_1 x4_2).f0) ((rd_T63 l0_1 x4_2).f1) ((rd_T63 l0_1 x4_2).f2))) = some r := H
           have A21 := Aside0.mk A210
           clear A210
           by_cases c22 : t136 = true
           ·subst c22
            have H1 : (if x4_2 > 0 then (if 0 ≤ (wrap64 (x4_2 - 1)) then (if (wrap64 (x4_2 - 1)) < (l0_1.length : Int) then (spec_l26Good.j2 k2 x3_2 x4_2 (decide (((rd_T63 l0_1 (wrap64 (x4_2 - 1))).f0) > ((rd_T63 l0_1 x4_2).f0))) l0_0 l0_1 ((rd_T63 l0_1 x4_2).f0) ((rd_T63 l0_1 x4_2).f1) ((rd_T63 l0_1 x4_2).f2)) else (none)) else (none)) else (spec_l26Good.j2 k2 x3_2 x4_2 false l0_0 l0_1 ((rd_T63 l0_1 x4_2).f0) ((rd_T63 l0_1 x4_2).f1) ((rd_T63 l0_1 x4_2).f2))) = some r := by rw [if_pos rfl] at H; exact H
            clear H
            have H := H1
            clear H1
            by_cases c23 : x4_2 > 0
            ·rw [if_pos c23] at H
             have c23b0 : decide (0 < x4_2) = true := decide_eq_true c23
             clear c23
             (first | rw [c23b0] | (simp only [i64_w, i32_w]; rw [c23b0]) | skip)
             obtain ⟨ji24, hji24⟩ : ∃ j_ : Int, (wrap64 (x4_2 - 1)) = j_ := ⟨_, rfl⟩
             replace H : (if 0 ≤ (ji24) then (if (ji24) < (l0_1.length : Int) then (spec_l26Good.j2 k2 x3_2 x4_2 (decide (((rd_T63 l0_1 (ji24)).f0) > ((rd_T63 l0_1 x4_2).f0))) l0_0 l0_1 ((rd_T63 l0_1 x4_2).f0) ((rd_T63 l0_1 x4_2).f1) ((rd_T63 l0_1 x4_2).f2)) else (none)) else (none)) = some r := by first | (rw [hji24] at H; exact H) | (simp only [hji24] at H ⊢; exact H)
             (try rw [hji24] at A21)
             have hji24w : (IntKind.i64.wrap (x4_2 - 1)) = ji24 := (i64_w _).trans hji24
             by_cases c25 : 0 ≤ (ji24)
             ·rw [if_pos c25] at H
              have c25b0 : decide (0 ≤ (ji24)) = true := decide_eq_true c25
              clear c25
              by_cases c26 : (ji24) < (l0_1.length : Int)
              ·rw [if_pos c26] at H
               have c26b0 : decide ((ji24) < (l0_1.length : Int)) = true := decide_eq_true c26
               clear c26
               have H' := Aside0.mk H
               clear H
               try go_wp2
               have n0_ : Aside0 (Kd.R (Kd.int .i64) 3 (((w18.setCell ⟨gb135, 0, none⟩ (.int .i64 ((rd_T63 l0_1 x4_2).f0))).setCell ⟨gb135, 1, none⟩ (.string ((rd_T63 l0_1 x4_2).f1))).setCell ⟨gb135, 2, none⟩ (.slice A134_2 ((rd_T63 l0_1 x4_2).f2).length c134_2)) w.heap.size (fun _ => True) v132 x3_2) := ⟨by (with_reducible repeat (first | apply Kd.R_alloc | apply Kd.R_drewN | apply Kd.R_drew)); exact Kd.R_mono (Kd.R_far (p := ⟨gb135, 2, none⟩) (Kd.R_far (p := ⟨gb135, 1, none⟩) (Kd.R_far (p := ⟨gb135, 0, none⟩) (Kd.R_types HO_3.out BK135.out (by decide)) (fun _ hk => hk.2) (.int .i64 ((rd_T63 l0_1 x4_2).f0))) (fun _ hk => hk.2) (.string ((rd_T63 l0_1 x4_2).f1))) (fun _ hk => hk.2) (.slice A134_2 ((rd_T63 l0_1 x4_2).f2).length c134_2)) (fun _ hk => trivial)⟩
               have n1_ : Aside0 ((((w18.setCell ⟨gb135, 0, none⟩ (.int .i64 ((rd_T63 l0_1 x4_2).f0))).setCell ⟨gb135, 1, none⟩ (.string ((rd_T63 l0_1 x4_2).f1))).setCell ⟨gb135, 2, none⟩ (.slice A134_2 ((rd_T63 l0_1 x4_2).f2).length c134_2)).heap[gb129]? = some (.cells #[.slice A0_0 l0_0.length c0_0, .slice (some ad134) l0_1.length c0_1] 31 (0, 0))) := ⟨by (with_reducible repeat (first | refine blk_drewN ?_ _ | refine blk_drew ?_ | refine blk_alloc ?_ _)); refine blk_far ?_ NB129_135.out _; (with_reducible repeat (first | refine blk_drewN ?_ _ | refine blk_drew ?_ | refine blk_alloc ?_ _)); refine blk_far ?_ NB129_135.out _; (with_reducible repeat (first | refine blk_drewN ?_ _ | refine blk_drew ?_ | refine blk_alloc ?_ _)); refine blk_far ?_ NB129_135.out _; (with_reducible repeat (first | refine blk_drewN ?_ _ | refine blk_drew ?_ | refine blk_alloc ?_ _)); exact BK129.out⟩
               have n2_ : Aside0 ((((w18.setCell ⟨gb135, 0, none⟩ (.int .i64 ((rd_T63 l0_1 x4_2).f0))).setCell ⟨gb135, 1, none⟩ (.string ((rd_T63 l0_1 x4_2).f1))).setCell ⟨gb135, 2, none⟩ (.slice A134_2 ((rd_T63 l0_1 x4_2).f2).length c134_2)).heap[gb135]? = some (.cells #[.int .i64 ((rd_T63 l0_1 x4_2).f0), .string ((rd_T63 l0_1 x4_2).f1), .slice A134_2 ((rd_T63 l0_1 x4_2).f2).length c134_2] 63 (0, 0))) := ⟨by (with_reducible repeat (first | refine blk_drewN ?_ _ | refine blk_drew ?_ | refine blk_alloc ?_ _)); refine blk_put (cs := #[.int .i64 ((rd_T63 l0_1 x4_2).f0), .string ((rd_T63 l0_1 x4_2).f1), .slice none 0 0]) ?_ 2 _ rfl; (with_reducible repeat (first | refine blk_drewN ?_ _ | refine blk_drew ?_ | refine blk_alloc ?_ _)); refine blk_put (cs := #[.int .i64 ((rd_T63 l0_1 x4_2).f0), .string (⟨#[]⟩ : ByteArray), .slice none 0 0]) ?_ 1 _ rfl; (with_reducible repeat (first | refine blk_drewN ?_ _ | refine blk_drew ?_ | refine blk_alloc ?_ _)); refine blk_put (cs := #[.int .i64 0, .string (⟨#[]⟩ : ByteArray), .slice none 0 0]) ?_ 0 _ rfl; (with_reducible repeat (first | refine blk_drewN ?_ _ | refine blk_drew ?_ | refine blk_alloc ?_ _)); exact BK135.out⟩
               have n3_ : Aside0 (Below w.heap.size w (((w18.setCell ⟨gb135, 0, none⟩ (.int .i64 ((rd_T63 l0_1 x4_2).f0))).setCell ⟨gb135, 1, none⟩ (.string ((rd_T63 l0_1 x4_2).f1))).setCell ⟨gb135, 2, none⟩ (.slice A134_2 ((rd_T63 l0_1 x4_2).f2).length c134_2))) := ⟨by repeat (first | (with_reducible first | exact HB.out | apply below_alloc | apply pw_below_drewN | apply below_drew1 | refine below_set ?_ GE129.out | refine below_set ?_ GE135.out) | exact HB.out)⟩
               (try clear HO_3)
               (try clear BK129)
               (try clear BK135)
               (try clear HB)
               generalize (((w18.setCell ⟨gb135, 0, none⟩ (.int .i64 ((rd_T63 l0_1 x4_2).f0))).setCell ⟨gb135, 1, none⟩ (.string ((rd_T63 l0_1 x4_2).f1))).setCell ⟨gb135, 2, none⟩ (.slice A134_2 ((rd_T63 l0_1 x4_2).f2).length c134_2)) = w27 at n0_ n1_ n2_ n3_ ⊢
               have HO_3 := n0_
               have BK129 := n1_
               have BK135 := n2_
               have HB := n3_
               clear n0_ n1_ n2_ n3_
               have n0_ := Aside0.mk (Kd.R_drew HO_3.out)
               have n1_ := Aside0.mk (blk_drew BK129.out)
               have n2_ := Aside0.mk (blk_drew BK135.out)
               have n3_ := Aside0.mk (below_drew1 HB.out)
               clear HO_3
               clear BK129
               clear BK135
               clear HB
               have HO_3 := n0_
               have BK129 := n1_
               have BK135 := n2_
               have HB := n3_
               clear n0_ n1_ n2_ n3_
               have p137 : 0 ≤ ((ji24) : Int) := of_decide_eq_true ZZ853400
               have q137 : (ji24) < (l0_1.length : Int) := of_decide_eq_true ZZ853400
               obtain ⟨ad137, A137_2, c137_2, e137, hx137_0, hx137_1, hx137_2, hl137_2, hi137_2⟩ := at_T63 HR0_1.out (ji24) p137 q137
               have hw137_2 := hx137_2
               have hw137_1 := hx137_1
               have hw137_0 := hx137_0
               obtain rfl : ad134 = ad137 := (by injection e137)
               replace hx137_0 := (HB.out.cell (World.block_lt_of_cell? w _ hx137_0)).trans hx137_0
               replace hx137_1 := (HB.out.cell (World.block_lt_of_cell? w _ hx137_1)).trans hx137_1
               replace hx137_2 := (HB.out.cell (World.block_lt_of_cell? w _ hx137_2)).trans hx137_2
               have HR137_2 := Aside0.mk hi137_2
               have HC137_2 := Aside0.mk hl137_2
               clear hi137_2 hl137_2
               replace p137 := eq_true p137
               replace q137 := eq_true q137
               refine start_ (n := 22) (S := fun w' => w'.cell? ⟨gb135, 0, none⟩ = some (.int .i64 ((rd_T63 l0_1 x4_2).f0)) ∧ w'.cell? ⟨gb135, 1, none⟩ = some (.string ((rd_T63 l0_1 x4_2).f1)) ∧ w'.cell? ⟨gb135, 2, none⟩ = some (.slice A134_2 ((rd_T63 l0_1 x4_2).f2).length c134_2) ∧ w'.cell? ⟨gb129, 0, none⟩ = some (.slice A0_0 l0_0.length c0_0) ∧ w'.cell? ⟨gb129, 1, none⟩ = some (.slice (some ad134) l0_1.length c0_1) ∧ w'.cell? (ad134.add (((ji24)).toNat * 3)) = some (.int .i64 ((rd_T63 l0_1 (ji24)).f0)) ∧ w'.cell? ⟨(ad134.add (((ji24)).toNat * 3)).block, (ad134.add (((ji24)).toNat * 3)).off + 1, none⟩ = some (.string ((rd_T63 l0_1 (ji24)).f1)) ∧ w'.cell? ⟨(ad134.add (((ji24)).toNat * 3)).block, (ad134.add (((ji24)).toNat * 3)).off + 2, none⟩ = some (.slice A137_2 ((rd_T63 l0_1 (ji24)).f2).length c137_2)) (ds := []) #[false, false, false, false, false, false, false, false, false, false, false, false, false, false, false, false, false, false, false, false, false, false] (by kernel_rfl) rfl rfl ⟨(blk_cell BK135.out 0).trans rfl, (blk_cell BK135.out 1).trans rfl, (blk_cell BK135.out 2).trans rfl, (blk_cell BK129.out 0).trans rfl, (blk_cell BK129.out 1).trans rfl, ((HB.out.cell (World.block_lt_of_cell? w _ hw137_0)).trans hw137_0), ((HB.out.cell (World.block_lt_of_cell? w _ hw137_1)).trans hw137_1), ((HB.out.cell (World.block_lt_of_cell? w _ hw137_2)).trans hw137_2)⟩ (fun hHeld => ?_); refine with_tabW spec_l26Good.tab8 spec_l26Good.bits8 (fun HT_ HW_ => ?_)
               generalize w27.drew = w28 at HO_3 BK129 BK135 HB HR137_2 hx137_0 hx137_1 hx137_2 hHeld ⊢
               refine pu 1 35 ?_
               refine tk 0 34 ?_
               refine tk 2 36 ?_
               refine pu 3 37 ?_
               refine one_ (i := 4) (N := some 38) #[true, true, true, true, true, false, false, false, false, false, false, false, false, false, false, false, false, false, false, false, false, false] rfl rfl (one_of HT_.out (by kernel_rfl)) (by decide) (fun K hK => ?_)
               refine goes_ Tryd.func102 (by kernel_rfl) rfl #[.agg #[.int .i64 ((rd_T63 l0_1 x4_2).f0), .string ((rd_T63 l0_1 x4_2).f1), .slice A134_2 ((rd_T63 l0_1 x4_2).f2).length c134_2], .int .i64 (l0_0.length : Int)] (by rfl) rfl rfl ZZ19826e ?_
               with_reducible refine (spec_l26Entry.calls k2 ((rd_T63 l0_1 x4_2).f0) ((rd_T63 l0_1 x4_2).f1) _ _ ((rd_T63 l0_1 x4_2).f2) (l0_0.length : Int) true _ ?side1 ?side2 A21.out).mono ?_
               (case side1 => repeat (first | exact (Kd.C_below HR134_2.out HB.out) | (with_reducible refine Kd.C_alloc ?_ _) | (with_reducible refine Kd.C_drewN ?_ _) | (with_reducible refine Kd.C_drew ?_)))
               (case side2 => exact HC134_2.out)
               rintro e w29 ⟨rfl, hb⟩
               refine ⟨_, rfl, ?_⟩
               have n0_ := Aside0.mk (Kd.R_below ZZ5d7d61 hb)
               have n1_ := Aside0.mk (blk_below (g := gb129) (o := .cells #[.slice A0_0 l0_0.length c0_0, .slice (some ad134) l0_1.length c0_1] 31 (0, 0)) ZZ1d5f87 hb)
               have n2_ := Aside0.mk (blk_below (g := gb135) (o := .cells #[.int .i64 ((rd_T63 l0_1 x4_2).f0), .string ((rd_T63 l0_1 x4_2).f1), .slice A134_2 ((rd_T63 l0_1 x4_2).f2).length c134_2] 63 (0, 0)) (by (with_reducible repeat (first | refine blk_drewN ?_ _ | refine blk_drew ?_ | refine blk_alloc ?_ _)); exact BK135.out) hb)
               have n3_ := Aside0.mk (below_step (by repeat (first | (with_reducible first | exact HB.out | apply below_alloc | apply pw_below_drewN | apply below_drew1 | refine below_set ?_ GE129.out | refine below_set ?_ GE135.out) | exact HB.out)) hb)
               clear HO_3
               clear BK129
               clear BK135
               clear HB
               have HO_3 := n0_
               have BK129 := n1_
               have BK135 := n2_
               have HB := n3_
               clear n0_ n1_ n2_ n3_
               (try clear hb)
               (try clear hb2)
               (try clear hk)
               (try clear hi)
               refine hK.out _ _ ⟨(blk_cell BK135.out 0).trans rfl, (blk_cell BK135.out 1).trans rfl, (blk_cell BK135.out 2).trans rfl, (blk_cell BK129.out 0).trans rfl, (blk_cell BK129.out 1).trans rfl, ((HB.out.cell (World.block_lt_of_cell? w _ hw137_0)).trans hw137_0), ((HB.out.cell (World.block_lt_of_cell? w _ hw137_1)).trans hw137_1), ((HB.out.cell (World.block_lt_of_cell? w _ hw137_2)).trans hw137_2)⟩ (fun hHeld => ?_)
               clear hK K
               refine norm_ (a' := ?_) ?_ ?_
               rotate_left
               ·show Act.put _ (some 38) _ = _
                simp only [Act.put, List.setIfInBounds_toArray, List.set_cons_zero, List.set_cons_succ, i64_w, i32_w]
                rfl
               refine pu 5 39 ?_
               refine pu 6 40 ?_
               refine pu 7 41 ?_
               refine pu 8 42 ?_
               refine pu 9 43 ?_
               refine pu 10 44 ?_
               refine pu 12 46 ?_
               refine pu 13 47 ?_
               refine pu 17 51 ?_
               refine tk 11 45 ?_
               refine pu 14 48 ?_
               refine pu 15 49 ?_
               refine tk 16 50 ?_
               refine tk 18 52 ?_
               refine pu 19 53 ?_
               refine pu 20 54 ?_
               refine pu 21 55 ?_
               refine done_ (done_of HT_.out (by kernel_rfl)) ?_
               try go_wp2
               go_meet
               case rel => exact ⟨_, (decide (((rd_T63 l0_1 (ji24)).f0) > ((rd_T63 l0_1 x4_2).f0))), (by first | rfl | (simp; done) | (simp only [← hji24] <;> (first | rfl | simp)) | (simp [*]; done)), H', ⟨by have := HJ1.out; have := HK2.out; first | omega | exact Nat.le_refl _⟩, ⟨by (with_reducible repeat (first | apply Kd.R_alloc | apply Kd.R_drewN | apply Kd.R_drew)); exact HO_3.out⟩, ⟨by (with_reducible repeat (first | refine blk_drewN ?_ _ | refine blk_drew ?_ | refine blk_alloc ?_ _)); exact BK129.out⟩, ⟨by (with_reducible repeat (first | refine blk_drewN ?_ _ | refine blk_drew ?_ | refine blk_alloc ?_ _)); exact BK135.out⟩, ⟨by repeat (first | (with_reducible first | exact HB.out | apply below_alloc | apply pw_below_drewN | apply below_drew1 | refine below_set ?_ GE129.out | refine below_set ?_ GE135.out) | exact HB.out)⟩⟩
              ·rw [if_neg c26] at H
               exact absurd H (by simp)
             ·rw [if_neg c25] at H
              exact absurd H (by simp)
            ·rw [if_neg c23] at H
             have c23b0 : decide (0 < x4_2) = false := decide_eq_false c23
             clear c23
             (first | rw [c23b0] | (simp only [i64_w, i32_w]; rw [c23b0]) | skip)
             have H' := Aside0.mk H
             clear H
             try go_wp2
             have n0_ : Aside0 (Kd.R (Kd.int .i64) 3 (((w18.setCell ⟨gb135, 0, none⟩ (.int .i64 ((rd_T63 l0_1 x4_2).f0))).setCell ⟨gb135, 1, none⟩ (.string ((rd_T63 l0_1 x4_2).f1))).setCell ⟨gb135, 2, none⟩ (.slice A134_2 ((rd_T63 l0_1 x4_2).f2).length c134_2)) w.heap.size (fun _ => True) v132 x3_2) := ⟨by (with_reducible repeat (first | apply Kd.R_alloc | apply Kd.R_drewN | apply Kd.R_drew)); exact Kd.R_mono (Kd.R_far (p := ⟨gb135, 2, none⟩) (Kd.R_far (p := ⟨gb135, 1, none⟩) (Kd.R_far (p := ⟨gb135, 0, none⟩) (Kd.R_types HO_3.out BK135.out (by decide)) (fun _ hk => hk.2) (.int .i64 ((rd_T63 l0_1 x4_2).f0))) (fun _ hk => hk.2) (.string ((rd_T63 l0_1 x4_2).f1))) (fun _ hk => hk.2) (.slice A134_2 ((rd_T63 l0_1 x4_2).f2).length c134_2)) (fun _ hk => trivial)⟩
             have n1_ : Aside0 ((((w18.setCell ⟨gb135, 0, none⟩ (.int .i64 ((rd_T63 l0_1 x4_2).f0))).setCell ⟨gb135, 1, none⟩ (.string ((rd_T63 l0_1 x4_2).f1))).setCell ⟨gb135, 2, none⟩ (.slice A134_2 ((rd_T63 l0_1 x4_2).f2).length c134_2)).heap[gb129]? = some (.cells #[.slice A0_0 l0_0.length c0_0, .slice (some ad134) l0_1.length c0_1] 31 (0, 0))) := ⟨by (with_reducible repeat (first | refine blk_drewN ?_ _ | refine blk_drew ?_ | refine blk_alloc ?_ _)); refine blk_far ?_ NB129_135.out _; (with_reducible repeat (first | refine blk_drewN ?_ _ | refine blk_drew ?_ | refine blk_alloc ?_ _)); refine blk_far ?_ NB129_135.out _; (with_reducible repeat (first | refine blk_drewN ?_ _ | refine blk_drew ?_ | refine blk_alloc ?_ _)); refine blk_far ?_ NB129_135.out _; (with_reducible repeat (first | refine blk_drewN ?_ _ | refine blk_drew ?_ | refine blk_alloc ?_ _)); exact BK129.out⟩
             have n2_ : Aside0 ((((w18.setCell ⟨gb135, 0, none⟩ (.int .i64 ((rd_T63 l0_1 x4_2).f0))).setCell ⟨gb135, 1, none⟩ (.string ((rd_T63 l0_1 x4_2).f1))).setCell ⟨gb135, 2, none⟩ (.slice A134_2 ((rd_T63 l0_1 x4_2).f2).length c134_2)).heap[gb135]? = some (.cells #[.int .i64 ((rd_T63 l0_1 x4_2).f0), .string ((rd_T63 l0_1 x4_2).f1), .slice A134_2 ((rd_T63 l0_1 x4_2).f2).length c134_2] 63 (0, 0))) := ⟨by (with_reducible repeat (first | refine blk_drewN ?_ _ | refine blk_drew ?_ | refine blk_alloc ?_ _)); refine blk_put (cs := #[.int .i64 ((rd_T63 l0_1 x4_2).f0), .string ((rd_T63 l0_1 x4_2).f1), .slice none 0 0]) ?_ 2 _ rfl; (with_reducible repeat (first | refine blk_drewN ?_ _ | refine blk_drew ?_ | refine blk_alloc ?_ _)); refine blk_put (cs := #[.int .i64 ((rd_T63 l0_1 x4_2).f0), .string (⟨#[]⟩ : ByteArray), .slice none 0 0]) ?_ 1 _ rfl; (with_reducible repeat (first | refine blk_drewN ?_ _ | refine blk_drew ?_ | refine blk_alloc ?_ _)); refine blk_put (cs := #[.int .i64 0, .string (⟨#[]⟩ : ByteArray), .slice none 0 0]) ?_ 0 _ rfl; (with_reducible repeat (first | refine blk_drewN ?_ _ | refine blk_drew ?_ | refine blk_alloc ?_ _)); exact BK135.out⟩
             have n3_ : Aside0 (Below w.heap.size w (((w18.setCell ⟨gb135, 0, none⟩ (.int .i64 ((rd_T63 l0_1 x4_2).f0))).setCell ⟨gb135, 1, none⟩ (.string ((rd_T63 l0_1 x4_2).f1))).setCell ⟨gb135, 2, none⟩ (.slice A134_2 ((rd_T63 l0_1 x4_2).f2).length c134_2))) := ⟨by repeat (first | (with_reducible first | exact HB.out | apply below_alloc | apply pw_below_drewN | apply below_drew1 | refine below_set ?_ GE129.out | refine below_set ?_ GE135.out) | exact HB.out)⟩
             (try clear HO_3)
             (try clear BK129)
             (try clear BK135)
             (try clear HB)
             generalize (((w18.setCell ⟨gb135, 0, none⟩ (.int .i64 ((rd_T63 l0_1 x4_2).f0))).setCell ⟨gb135, 1, none⟩ (.string ((rd_T63 l0_1 x4_2).f1))).setCell ⟨gb135, 2, none⟩ (.slice A134_2 ((rd_T63 l0_1 x4_2).f2).length c134_2)) = w30 at n0_ n1_ n2_ n3_ ⊢
             have HO_3 := n0_
             have BK129 := n1_
             have BK135 := n2_
             have HB := n3_
             clear n0_ n1_ n2_ n3_
             have n0_ := Aside0.mk (Kd.R_drew HO_3.out)
             have n1_ := Aside0.mk (blk_drew BK129.out)
             have n2_ := Aside0.mk (blk_drew BK135.out)
             have n3_ := Aside0.mk (below_drew1 HB.out)
             clear HO_3
             clear BK129
             clear BK135
             clear HB
             have HO_3 := n0_
             have BK129 := n1_
             have BK135 := n2_
             have HB := n3_
             clear n0_ n1_ n2_ n3_
             refine start_ (n := 22) (S := fun w' => w'.cell? ⟨gb135, 0, none⟩ = some (.int .i64 ((rd_T63 l0_1 x4_2).f0)) ∧ w'.cell? ⟨gb135, 1, none⟩ = some (.string ((rd_T63 l0_1 x4_2).f1)) ∧ w'.cell? ⟨gb135, 2, none⟩ = some (.slice A134_2 ((rd_T63 l0_1 x4_2).f2).length c134_2) ∧ w'.cell? ⟨gb129, 0, none⟩ = some (.slice A0_0 l0_0.length c0_0) ∧ w'.cell? ⟨gb129, 1, none⟩ = some (.slice (some ad134) l0_1.length c0_1)) (ds := []) #[false, false, false, false, false, false, false, false, false, false, false, false, false, false, false, false, false, false, false, false, false, false] (by kernel_rfl) rfl rfl ⟨(blk_cell BK135.out 0).trans rfl, (blk_cell BK135.out 1).trans rfl, (blk_cell BK135.out 2).trans rfl, (blk_cell BK129.out 0).trans rfl, (blk_cell BK129.out 1).trans rfl⟩ (fun hHeld => ?_); refine with_tabW spec_l26Good.tab8 spec_l26Good.bits8 (fun HT_ HW_ => ?_)
             generalize w30.drew = w31 at HO_3 BK129 BK135 HB hHeld ⊢
             refine pu 1 35 ?_
             refine tk 0 34 ?_
             refine tk 2 36 ?_
             refine pu 3 37 ?_
             refine one_ (i := 4) (N := some 38) #[true, true, true, true, true, false, false, false, false, false, false, false, false, false, false, false, false, false, false, false, false, false] rfl rfl (one_of HT_.out (by kernel_rfl)) (by decide) (fun K hK => ?_)
             refine goes_ Tryd.func102 (by kernel_rfl) rfl #[.agg #[.int .i64 ((rd_T63 l0_1 x4_2).f0), .string ((rd_T63 l0_1 x4_2).f1), .slice A134_2 ((rd_T63 l0_1 x4_2).f2).length c134_2], .int .i64 (l0_0.length : Int)] (by rfl) rfl rfl ZZ19826e ?_
             with_reducible refine (spec_l26Entry.calls k2 ((rd_T63 l0_1 x4_2).f0) ((rd_T63 l0_1 x4_2).f1) _ _ ((rd_T63 l0_1 x4_2).f2) (l0_0.length : Int) true _ ?side1 ?side2 A21.out).mono ?_
             (case side1 => repeat (first | exact (Kd.C_below HR134_2.out HB.out) | (with_reducible refine Kd.C_alloc ?_ _) | (with_reducible refine Kd.C_drewN ?_ _) | (with_reducible refine Kd.C_drew ?_)))
             (case side2 => exact HC134_2.out)
             rintro e w32 ⟨rfl, hb⟩
             refine ⟨_, rfl, ?_⟩
             have n0_ := Aside0.mk (Kd.R_below ZZ5d7d61 hb)
             have n1_ := Aside0.mk (blk_below (g := gb129) (o := .cells #[.slice A0_0 l0_0.length c0_0, .slice (some ad134) l0_1.length c0_1] 31 (0, 0)) ZZ1d5f87 hb)
             have n2_ := Aside0.mk (blk_below (g := gb135) (o := .cells #[.int .i64 ((rd_T63 l0_1 x4_2).f0), .string ((rd_T63 l0_1 x4_2).f1), .slice A134_2 ((rd_T63 l0_1 x4_2).f2).length c134_2] 63 (0, 0)) (by (with_reducible repeat (first | refine blk_drewN ?_ _ | refine blk_drew ?_ | refine blk_alloc ?_ _)); exact BK135.out) hb)
             have n3_ := Aside0.mk (below_step (by repeat (first | (with_reducible first | exact HB.out | apply below_alloc | apply pw_below_drewN | apply below_drew1 | refine below_set ?_ GE129.out | refine below_set ?_ GE135.out) | exact HB.out)) hb)
             clear HO_3
             clear BK129
             clear BK135
             clear HB
             have HO_3 := n0_
             have BK129 := n1_
             have BK135 := n2_
             have HB := n3_
             clear n0_ n1_ n2_ n3_
             (try clear hb)
             (try clear hb2)
             (try clear hk)
             (try clear hi)
             refine hK.out _ _ ⟨(blk_cell BK135.out 0).trans rfl, (blk_cell BK135.out 1).trans rfl, (blk_cell BK135.out 2).trans rfl, (blk_cell BK129.out 0).trans rfl, (blk_cell BK129.out 1).trans rfl⟩ (fun hHeld => ?_)
             clear hK K
             refine norm_ (a' := ?_) ?_ ?_
             rotate_left
             ·show Act.put _ (some 38) _ = _
              simp only [Act.put, List.setIfInBounds_toArray, List.set_cons_zero, List.set_cons_succ, i64_w, i32_w]
              rfl
             refine pu 5 39 ?_
             refine pu 6 40 ?_
             refine pu 7 41 ?_
             refine pu 8 42 ?_
             refine pu 9 43 ?_
             refine pn 10 44 ?_
             refine pn 11 45 ?_
             refine pn 12 46 ?_
             refine pn 13 47 ?_
             refine pn 14 48 ?_
             refine pn 15 49 ?_
             refine pn 16 50 ?_
             refine pn 17 51 ?_
             refine pn 18 52 ?_
             refine pn 19 53 ?_
             refine pu 20 54 ?_
             refine pu 21 55 ?_
             refine done_ (done_of HT_.out (by kernel_rfl)) ?_
             try go_wp2
             go_meet
             case rel => exact ⟨_, (false), ZZ0ab324, H', ⟨by have := HJ1.out; have := HK2.out; first | omega | exact Nat.le_refl _⟩, ⟨by (with_reducible repeat (first | apply Kd.R_alloc | apply Kd.R_drewN | apply Kd.R_drew)); exact HO_3.out⟩, ⟨by (with_reducible repeat (first | refine blk_drewN ?_ _ | refine blk_drew ?_ | refine blk_alloc ?_ _)); exact BK129.out⟩, ⟨by (with_reducible repeat (first | refine blk_drewN ?_ _ | refine blk_drew ?_ | refine blk_alloc ?_ _)); exact BK135.out⟩, ⟨by repeat (first | (with_reducible first | exact HB.out | apply below_alloc | apply pw_below_drewN | apply below_drew1 | refine below_set ?_ GE129.out | refine below_set ?_ GE135.out) | exact HB.out)⟩⟩
           ·replace c22 := Bool.eq_false_iff.mpr c22
            subst c22
            have H1 : (spec_l26Good.j2 k2 x3_2 x4_2 true l0_0 l0_1 ((rd_T63 l0_1 x4_2).f0) ((rd_T63 l0_1 x4_2).f1) ((rd_T63 l0_1 x4_2).f2)) = some r := by rw [if_neg (show ¬ (false = true) by decide)] at H; exact H
            clear H
            have H := H1
            clear H1
            have H' := Aside0.mk H
            clear H
            try go_wp2
            have n0_ : Aside0 (Kd.R (Kd.int .i64) 3 (((w18.setCell ⟨gb135, 0, none⟩ (.int .i64 ((rd_T63 l0_1 x4_2).f0))).setCell ⟨gb135, 1, none⟩ (.string ((rd_T63 l0_1 x4_2).f1))).setCell ⟨gb135, 2, none⟩ (.slice A134_2 ((rd_T63 l0_1 x4_2).f2).length c134_2)) w.heap.size (fun _ => True) v132 x3_2) := ⟨by (with_reducible repeat (first | apply Kd.R_alloc | apply Kd.R_drewN | apply Kd.R_drew)); exact Kd.R_mono (Kd.R_far (p := ⟨gb135, 2, none⟩) (Kd.R_far (p := ⟨gb135, 1, none⟩) (Kd.R_far (p := ⟨gb135, 0, none⟩) (Kd.R_types HO_3.out BK135.out (by decide)) (fun _ hk => hk.2) (.int .i64 ((rd_T63 l0_1 x4_2).f0))) (fun _ hk => hk.2) (.string ((rd_T63 l0_1 x4_2).f1))) (fun _ hk => hk.2) (.slice A134_2 ((rd_T63 l0_1 x4_2).f2).length c134_2)) (fun _ hk => trivial)⟩
            have n1_ : Aside0 ((((w18.setCell ⟨gb135, 0, none⟩ (.int .i64 ((rd_T63 l0_1 x4_2).f0))).setCell ⟨gb135, 1, none⟩ (.string ((rd_T63 l0_1 x4_2).f1))).setCell ⟨gb135, 2, none⟩ (.slice A134_2 ((rd_T63 l0_1 x4_2).f2).length c134_2)).heap[gb129]? = some (.cells #[.slice A0_0 l0_0.length c0_0, .slice (some ad134) l0_1.length c0_1] 31 (0, 0))) := ⟨by (with_reducible repeat (first | refine blk_drewN ?_ _ | refine blk_drew ?_ | refine blk_alloc ?_ _)); refine blk_far ?_ NB129_135.out _; (with_reducible repeat (first | refine blk_drewN ?_ _ | refine blk_drew ?_ | refine blk_alloc ?_ _)); refine blk_far ?_ NB129_135.out _; (with_reducible repeat (first | refine blk_drewN ?_ _ | refine blk_drew ?_ | refine blk_alloc ?_ _)); refine blk_far ?_ NB129_135.out _; (with_reducible repeat (first | refine blk_drewN ?_ _ | refine blk_drew ?_ | refine blk_alloc ?_ _)); exact BK129.out⟩
            have n2_ : Aside0 ((((w18.setCell ⟨gb135, 0, none⟩ (.int .i64 ((rd_T63 l0_1 x4_2).f0))).setCell ⟨gb135, 1, none⟩ (.string ((rd_T63 l0_1 x4_2).f1))).setCell ⟨gb135, 2, none⟩ (.slice A134_2 ((rd_T63 l0_1 x4_2).f2).length c134_2)).heap[gb135]? = some (.cells #[.int .i64 ((rd_T63 l0_1 x4_2).f0), .string ((rd_T63 l0_1 x4_2).f1), .slice A134_2 ((rd_T63 l0_1 x4_2).f2).length c134_2] 63 (0, 0))) := ⟨by (with_reducible repeat (first | refine blk_drewN ?_ _ | refine blk_drew ?_ | refine blk_alloc ?_ _)); refine blk_put (cs := #[.int .i64 ((rd_T63 l0_1 x4_2).f0), .string ((rd_T63 l0_1 x4_2).f1), .slice none 0 0]) ?_ 2 _ rfl; (with_reducible repeat (first | refine blk_drewN ?_ _ | refine blk_drew ?_ | refine blk_alloc ?_ _)); refine blk_put (cs := #[.int .i64 ((rd_T63 l0_1 x4_2).f0), .string (⟨#[]⟩ : ByteArray), .slice none 0 0]) ?_ 1 _ rfl; (with_reducible repeat (first | refine blk_drewN ?_ _ | refine blk_drew ?_ | refine blk_alloc ?_ _)); refine blk_put (cs := #[.int .i64 0, .string (⟨#[]⟩ : ByteArray), .slice none 0 0]) ?_ 0 _ rfl; (with_reducible repeat (first | refine blk_drewN ?_ _ | refine blk_drew ?_ | refine blk_alloc ?_ _)); exact BK135.out⟩
            have n3_ : Aside0 (Below w.heap.size w (((w18.setCell ⟨gb135, 0, none⟩ (.int .i64 ((rd_T63 l0_1 x4_2).f0))).setCell ⟨gb135, 1, none⟩ (.string ((rd_T63 l0_1 x4_2).f1))).setCell ⟨gb135, 2, none⟩ (.slice A134_2 ((rd_T63 l0_1 x4_2).f2).length c134_2))) := ⟨by repeat (first | (with_reducible first | exact HB.out | apply below_alloc | apply pw_below_drewN | apply below_drew1 | refine below_set ?_ GE129.out | refine below_set ?_ GE135.out) | exact HB.out)⟩
            (try clear HO_3)
            (try clear BK129)
            (try clear BK135)
            (try clear HB)
            generalize (((w18.setCell ⟨gb135, 0, none⟩ (.int .i64 ((rd_T63 l0_1 x4_2).f0))).setCell ⟨gb135, 1, none⟩ (.string ((rd_T63 l0_1 x4_2).f1))).setCell ⟨gb135, 2, none⟩ (.slice A134_2 ((rd_T63 l0_1 x4_2).f2).length c134_2)) = w33 at n0_ n1_ n2_ n3_ ⊢
            have HO_3 := n0_
            have BK129 := n1_
            have BK135 := n2_
            have HB := n3_
            clear n0_ n1_ n2_ n3_
            have n0_ := Aside0.mk (Kd.R_drew HO_3.out)
            have n1_ := Aside0.mk (blk_drew BK129.out)
            have n2_ := Aside0.mk (blk_drew BK135.out)
            have n3_ := Aside0.mk (below_drew1 HB.out)
            clear HO_3
            clear BK129
            clear BK135
            clear HB
            have HO_3 := n0_
            have BK129 := n1_
            have BK135 := n2_
            have HB := n3_
            clear n0_ n1_ n2_ n3_
            refine start_ (n := 22) (S := fun w' => w'.cell? ⟨gb135, 0, none⟩ = some (.int .i64 ((rd_T63 l0_1 x4_2).f0)) ∧ w'.cell? ⟨gb135, 1, none⟩ = some (.string ((rd_T63 l0_1 x4_2).f1)) ∧ w'.cell? ⟨gb135, 2, none⟩ = some (.slice A134_2 ((rd_T63 l0_1 x4_2).f2).length c134_2) ∧ w'.cell? ⟨gb129, 0, none⟩ = some (.slice A0_0 l0_0.length c0_0) ∧ w'.cell? ⟨gb129, 1, none⟩ = some (.slice (some ad134) l0_1.length c0_1)) (ds := []) #[false, false, false, false, false, false, false, false, false, false, false, false, false, false, false, false, false, false, false, false, false, false] (by kernel_rfl) rfl rfl ⟨(blk_cell BK135.out 0).trans rfl, (blk_cell BK135.out 1).trans rfl, (blk_cell BK135.out 2).trans rfl, (blk_cell BK129.out 0).trans rfl, (blk_cell BK129.out 1).trans rfl⟩ (fun hHeld => ?_); refine with_tabW spec_l26Good.tab8 spec_l26Good.bits8 (fun HT_ HW_ => ?_)
            generalize w33.drew = w34 at HO_3 BK129 BK135 HB hHeld ⊢
            refine pu 1 35 ?_
            refine tk 0 34 ?_
            refine tk 2 36 ?_
            refine pu 3 37 ?_
            refine one_ (i := 4) (N := some 38) #[true, true, true, true, true, false, false, false, false, false, false, false, false, false, false, false, false, false, false, false, false, false] rfl rfl (one_of HT_.out (by kernel_rfl)) (by decide) (fun K hK => ?_)
            refine goes_ Tryd.func102 (by kernel_rfl) rfl #[.agg #[.int .i64 ((rd_T63 l0_1 x4_2).f0), .string ((rd_T63 l0_1 x4_2).f1), .slice A134_2 ((rd_T63 l0_1 x4_2).f2).length c134_2], .int .i64 (l0_0.length : Int)] (by rfl) rfl rfl ZZ19826e ?_
            with_reducible refine (spec_l26Entry.calls k2 ((rd_T63 l0_1 x4_2).f0) ((rd_T63 l0_1 x4_2).f1) _ _ ((rd_T63 l0_1 x4_2).f2) (l0_0.length : Int) false _ ?side1 ?side2 A21.out).mono ?_
            (case side1 => repeat (first | exact (Kd.C_below HR134_2.out HB.out) | (with_reducible refine Kd.C_alloc ?_ _) | (with_reducible refine Kd.C_drewN ?_ _) | (with_reducible refine Kd.C_drew ?_)))
            (case side2 => exact HC134_2.out)
            rintro e w35 ⟨rfl, hb⟩
            refine ⟨_, rfl, ?_⟩
            have n0_ := Aside0.mk (Kd.R_below ZZ5d7d61 hb)
            have n1_ := Aside0.mk (blk_below (g := gb129) (o := .cells #[.slice A0_0 l0_0.length c0_0, .slice (some ad134) l0_1.length c0_1] 31 (0, 0)) ZZ1d5f87 hb)
            have n2_ := Aside0.mk (blk_below (g := gb135) (o := .cells #[.int .i64 ((rd_T63 l0_1 x4_2).f0), .string ((rd_T63 l0_1 x4_2).f1), .slice A134_2 ((rd_T63 l0_1 x4_2).f2).length c134_2] 63 (0, 0)) (by (with_reducible repeat (first | refine blk_drewN ?_ _ | refine blk_drew ?_ | refine blk_alloc ?_ _)); exact BK135.out) hb)
            have n3_ := Aside0.mk (below_step (by repeat (first | (with_reducible first | exact HB.out | apply below_alloc | apply pw_below_drewN | apply below_drew1 | refine below_set ?_ GE129.out | refine below_set ?_ GE135.out) | exact HB.out)) hb)
            clear HO_3
            clear BK129
            clear BK135
            clear HB
            have HO_3 := n0_
            have BK129 := n1_
            have BK135 := n2_
            have HB := n3_
            clear n0_ n1_ n2_ n3_
            (try clear hb)
            (try clear hb2)
            (try clear hk)
            (try clear hi)
            refine hK.out _ _ ⟨(blk_cell BK135.out 0).trans rfl, (blk_cell BK135.out 1).trans rfl, (blk_cell BK135.out 2).trans rfl, (blk_cell BK129.out 0).trans rfl, (blk_cell BK129.out 1).trans rfl⟩ (fun hHeld => ?_)
            clear hK K
            refine norm_ (a' := ?_) ?_ ?_
            rotate_left
            ·show Act.put _ (some 38) _ = _
             simp only [Act.put, List.setIfInBounds_toArray, List.set_cons_zero, List.set_cons_succ, i64_w, i32_w]
             rfl
            refine pu 5 39 ?_
            refine pu 6 40 ?_
            refine pn 7 41 ?_
            refine pn 8 42 ?_
            refine pn 9 43 ?_
            refine pn 10 44 ?_
            refine pn 11 45 ?_
            refine pn 12 46 ?_
            refine pn 13 47 ?_
            refine pn 14 48 ?_
            refine pn 15 49 ?_
            refine pn 16 50 ?_
            refine pn 17 51 ?_
            refine pn 18 52 ?_
            refine pn 19 53 ?_
            refine pn 20 54 ?_
            refine pu 21 55 ?_
            refine done_ (done_of HT_.out (by kernel_rfl)) ?_
            try go_wp2
            go_meet
            case rel => exact ⟨_, (true), ZZ0ab324, H', ⟨by have := HJ1.out; have := HK2.out; first | omega | exact Nat.le_refl _⟩, ⟨by (with_reducible repeat (first | apply Kd.R_alloc | apply Kd.R_drewN | apply Kd.R_drew)); exact HO_3.out⟩, ⟨by (with_reducible repeat (first | refine blk_drewN ?_ _ | refine blk_drew ?_ | refine blk_alloc ?_ _)); exact BK129.out⟩, ⟨by (with_reducible repeat (first | refine blk_drewN ?_ _ | refine blk_drew ?_ | refine blk_alloc ?_ _)); exact BK135.out⟩, ⟨by repeat (first | (with_reducible first | exact HB.out | apply below_alloc | apply pw_below_drewN | apply below_drew1 | refine below_set ?_ GE129.out | refine below_set ?_ GE135.out) | exact HB.out)⟩⟩
          case rest =>
           clear HC16
           try clear c1
           try clear p1
           try clear q1
           try clear hx1
           try clear c2
           try clear p2
           try clear c10
           try clear c13
           try clear p13
           try clear q13
           try clear hx13
           try clear c22
           try clear c23
           try clear c23b0
           try clear c25
           try clear c26
           try clear hx137_0
           try clear hx137_1
           try clear hx137_2
           try clear p137
           try clear q137
           obtain ⟨kq, x55_15, rfl, HA, HJ15, HO_3, BK129, BK135, HB⟩ := hcut
           cases kq with
           | zero => exact absurd HA.out (by simp [spec_l26Good.j2])
           | succ kj15 =>
            have H := HA.out
            clear HA
            simp only [spec_l26Good.j2] at H
            by_cases c36 : x55_15 = true
            ·subst c36
             have H1 : (some false) = some r := by rw [if_pos rfl] at H; exact H
             clear H
             have H := H1
             clear H1
             obtain rfl := Option.some.inj H
             go_wp2
             go_ret
             exact ⟨by first | rfl | (simp [errW_none, errW_some] <;> rfl) | (simp [*, errW_none, errW_some] <;> rfl), by repeat (first | (with_reducible first | exact HB.out | apply below_alloc | apply pw_below_drewN | apply below_drew1 | refine below_set ?_ GE129.out | refine below_set ?_ GE135.out) | exact HB.out)⟩
            ·replace c36 := Bool.eq_false_iff.mpr c36
             subst c36
             have H1 : (spec_l26Good.l1 kj15 x3_2 x4_2 0 l0_0 l0_1 ((rd_T63 l0_1 x4_2).f0) ((rd_T63 l0_1 x4_2).f1) ((rd_T63 l0_1 x4_2).f2)) = some r := by rw [if_neg (show ¬ (false = true) by decide)] at H; exact H
             clear H
             have H := H1
             clear H1
             have H' := Aside0.mk H
             clear H
             go_wp2
             go_loopg [6] kj15 (fun kq v6 w' => ∃ (x3_4 : List Int) (x6_4 : Int), v6 = .int .i64 x6_4 ∧ Aside0 (spec_l26Good.l1 kq x3_4 x4_2 x6_4 l0_0 l0_1 ((rd_T63 l0_1 x4_2).f0) ((rd_T63 l0_1 x4_2).f1) ((rd_T63 l0_1 x4_2).f2) = some r) ∧ Aside0 (kq ≤ kj15) ∧ Aside0 (Kd.R (Kd.int .i64) 3 w' w.heap.size (fun _ => True) v132 x3_4) ∧ Aside0 (w'.heap[gb129]? = some (.cells #[(.slice A0_0 l0_0.length c0_0), (.slice (some ad134) l0_1.length c0_1)] 31 (0, 0))) ∧ Aside0 (w'.heap[gb135]? = some (.cells #[.int .i64 ((rd_T63 l0_1 x4_2).f0), .string ((rd_T63 l0_1 x4_2).f1), (.slice A134_2 ((rd_T63 l0_1 x4_2).f2).length c134_2)] 63 (0, 0))) ∧ Aside0 (Below w.heap.size w w'))
             case atStart => exact ⟨(x3_2), (0), ZZ0ab324, H', ⟨Nat.le_refl _⟩, ⟨by (with_reducible repeat (first | apply Kd.R_alloc | apply Kd.R_drewN | apply Kd.R_drew)); exact HO_3.out⟩, ⟨by (with_reducible repeat (first | refine blk_drewN ?_ _ | refine blk_drew ?_ | refine blk_alloc ?_ _)); exact BK129.out⟩, ⟨by (with_reducible repeat (first | refine blk_drewN ?_ _ | refine blk_drew ?_ | refine blk_alloc ?_ _)); exact BK135.out⟩, ⟨by repeat (first | (with_reducible first | exact HB.out | apply below_alloc | apply pw_below_drewN | apply below_drew1 | refine below_set ?_ GE129.out | refine below_set ?_ GE135.out) | exact HB.out)⟩⟩
             case round =>
              clear H'
              try clear c1
              try clear p1
              try clear q1
              try clear hx1
              try clear c2
              try clear p2
              try clear c3
              try clear c10
              try clear c13
              try clear p13
              try clear q13
              try clear hx13
              try clear c22
              try clear c23
              try clear c23b0
              try clear c25
              try clear c26
              try clear c36
              try clear hx137_0
              try clear hx137_1
              try clear hx137_2
              try clear p1
              try clear p13
              try clear p137
              try clear p2
              try clear q1
              try clear q13
              try clear q137
              obtain ⟨x3_4, x6_4, rfl, HA, HK4, HO_3, BK129, BK135, HB⟩ := hrel
              cases gk with
              | zero => exact absurd HA.out (by simp [spec_l26Good.l1])
              | succ k4 =>
               have H := HA.out
               clear HA
               simp only [spec_l26Good.l1] at H
               by_cases c37 : x6_4 < (((rd_T63 l0_1 x4_2).f2).length : Int)
               ·rw [if_pos c37] at H
                have c37b0 : decide (x6_4 < (((rd_T63 l0_1 x4_2).f2).length : Int)) = true := decide_eq_true c37
                clear c37
                by_cases c38 : 0 ≤ x6_4
                ·rw [if_pos c38] at H
                 have c38b0 : decide (0 ≤ x6_4) = true := decide_eq_true c38
                 clear c38
                 by_cases c39 : 0 ≤ ((rd_T70 ((rd_T63 l0_1 x4_2).f2) x6_4).f0)
                 ·rw [if_pos c39] at H
                  have c39b0 : decide (0 ≤ ((rd_T70 ((rd_T63 l0_1 x4_2).f2) x6_4).f0)) = true := decide_eq_true c39
                  clear c39
                  by_cases c40 : ((rd_T70 ((rd_T63 l0_1 x4_2).f2) x6_4).f0) < (x3_4.length : Int)
                  ·rw [if_pos c40] at H
                   have c40b0 : decide (((rd_T70 ((rd_T63 l0_1 x4_2).f2) x6_4).f0) < (x3_4.length : Int)) = true := decide_eq_true c40
                   clear c40
                   obtain ⟨y141, hy141⟩ : ∃ y_ : List Int, y_ = (x3_4.set (((rd_T70 ((rd_T63 l0_1 x4_2).f2) x6_4).f0) : Int).toNat (wrap64 ((rd x3_4 ((rd_T70 ((rd_T63 l0_1 x4_2).f2) x6_4).f0)) + ((rd_T70 ((rd_T63 l0_1 x4_2).f2) x6_4).f1)))) := ⟨_, rfl⟩
                   replace H : ((spec_l2Amount.f (wrap64 ((rd x3_4 ((rd_T70 ((rd_T63 l0_1 x4_2).f2) x6_4).f0)) + ((rd_T70 ((rd_T63 l0_1 x4_2).f2) x6_4).f1)))).bind fun t143 => (if t143 = true then (spec_l26Good.l1 k4 y141 x4_2 (wrap64 (x6_4 + 1)) l0_0 l0_1 ((rd_T63 l0_1 x4_2).f0) ((rd_T63 l0_1 x4_2).f1) ((rd_T63 l0_1 x4_2).f2)) else (some false))) = some r := by first | (rw [hy141]; with_reducible exact H) | (have H2_ := (Option.bind_some _ _).symm.trans H; rw [hy141]; with_reducible exact H2_) | (have H2_ := (Option.bind_some _ _).symm.trans H; with_reducible exact H2_) | with_reducible exact H | (rw [hy141]; exact H) | exact H
                   have Ny141 := Aside0.mk hy141
                   clear hy141
                   replace H := Option.bind_eq_some_iff.mp H
                   obtain ⟨t143, A430, H⟩ := H
                   replace H : (if t143 = true then (spec_l26Good.l1 k4 y141 x4_2 (wrap64 (x6_4 + 1)) l0_0 l0_1 ((rd_T63 l0_1 x4_2).f0) ((rd_T63 l0_1 x4_2).f1) ((rd_T63 l0_1 x4_2).f2)) else (some false)) = some r := H
                   have A43 := Aside0.mk A430
                   clear A430
                   by_cases c44 : t143 = true
                   ·subst c44
                    have H1 : (spec_l26Good.l1 k4 y141 x4_2 (wrap64 (x6_4 + 1)) l0_0 l0_1 ((rd_T63 l0_1 x4_2).f0) ((rd_T63 l0_1 x4_2).f1) ((rd_T63 l0_1 x4_2).f2)) = some r := by rw [if_pos rfl] at H; exact H
                    clear H
                    have H := H1
                    clear H1
                    have H' := Aside0.mk H
                    clear H
                    have hnb45 := NB135_129.out
                    have hnc45 := NB129_135.out
                    have hcz46_0 : wr.cell? ⟨gb135, 0, none⟩ = some (.int .i64 ((rd_T63 l0_1 x4_2).f0)) := (blk_cell BK135.out 0).trans rfl
                    have hcz46_1 : wr.cell? ⟨gb135, 1, none⟩ = some (.string ((rd_T63 l0_1 x4_2).f1)) := (blk_cell BK135.out 1).trans rfl
                    have hcz46_2 : wr.cell? ⟨gb135, 2, none⟩ = some (.slice A134_2 ((rd_T63 l0_1 x4_2).f2).length c134_2) := (blk_cell BK135.out 2).trans rfl
                    have hfz46_0 := blk_frozen BK135.out 0
                    have hfz46_1 := blk_frozen BK135.out 1
                    have hfz46_2 := blk_frozen BK135.out 2
                    have p138 : 0 ≤ (x6_4 : Int) := of_decide_eq_true ZZ853400
                    have q138 : x6_4 < (((rd_T63 l0_1 x4_2).f2).length : Int) := of_decide_eq_true ZZ853400
                    obtain ⟨ad138, e138, hx138_0, hx138_1⟩ := at_T70 HR134_2.out x6_4 p138 q138
                    cases e138
                    replace hx138_0 := (HB.out.cell (World.block_lt_of_cell? w _ hx138_0)).trans hx138_0
                    replace hx138_1 := (HB.out.cell (World.block_lt_of_cell? w _ hx138_1)).trans hx138_1
                    replace p138 := eq_true p138
                    replace q138 := eq_true q138
                    try go_wp2
                    have n0_ := Aside0.mk (Kd.R_drew HO_3.out)
                    have n1_ := Aside0.mk (blk_drew BK129.out)
                    have n2_ := Aside0.mk (blk_drew BK135.out)
                    have n3_ := Aside0.mk (below_drew1 HB.out)
                    clear HO_3
                    clear BK129
                    clear BK135
                    clear HB
                    have HO_3 := n0_
                    have BK129 := n1_
                    have BK135 := n2_
                    have HB := n3_
                    clear n0_ n1_ n2_ n3_
                    obtain ⟨Ao48, co48, eo48⟩ := Kd.R_slice HO_3.out
                    (first | subst eo48 | (injection eo48 with f1_ f2_ f3_; have f4_ := f1_.symm; have f5_ := f3_.symm; clear f1_ f2_ f3_; subst f4_; subst f5_))
                    have p139 : 0 ≤ (((rd_T70 ((rd_T63 l0_1 x4_2).f2) x6_4).f0) : Int) := of_decide_eq_true ZZ853400
                    have q139 : ((rd_T70 ((rd_T63 l0_1 x4_2).f2) x6_4).f0) < (x3_4.length : Int) := of_decide_eq_true ZZ853400
                    obtain ⟨ad139, e139, hx139_0⟩ := Kd.at_int (Kd.R_reads' HO_3.out).2.2 ((rd_T70 ((rd_T63 l0_1 x4_2).f2) x6_4).f0) p139 q139
                    cases e139
                    replace p139 := eq_true p139
                    replace q139 := eq_true q139
                    have p140 : 0 ≤ (x6_4 : Int) := of_decide_eq_true ZZ853400
                    have q140 : x6_4 < (((rd_T63 l0_1 x4_2).f2).length : Int) := of_decide_eq_true ZZ853400
                    obtain ⟨ad140, e140, hx140_0, hx140_1⟩ := at_T70 HR134_2.out x6_4 p140 q140
                    have hw140_1 := hx140_1
                    have hw140_0 := hx140_0
                    obtain rfl : ad138 = ad140 := (by injection e140)
                    replace hx140_0 := (HB.out.cell (World.block_lt_of_cell? w _ hx140_0)).trans hx140_0
                    replace hx140_1 := (HB.out.cell (World.block_lt_of_cell? w _ hx140_1)).trans hx140_1
                    replace p140 := eq_true p140
                    replace q140 := eq_true q140
                    have p41 : 0 ≤ (((rd_T70 ((rd_T63 l0_1 x4_2).f2) x6_4).f0) : Int) := of_decide_eq_true ZZ853400
                    have q41 : (((rd_T70 ((rd_T63 l0_1 x4_2).f2) x6_4).f0) : Int) < ((x3_4.length : Int) : Int) := of_decide_eq_true ZZ853400
                    obtain ⟨go41, co41, eo41, gb41, gl41, cl41, HG41⟩ := Kd.R_form HO_3.out (by omega)
                    (first | cases eo41 | (injection eo41 with ea_ en_ ec_; (first | subst ea_ | (injection ea_ with ea_; subst ea_)); subst ec_; clear en_))
                    have GB41 := Aside0.mk gb41
                    have GG41 := Aside0.mk HG41
                    clear gb41 gl41 HG41
                    (first | simp only [add_plain] at hx139_0 | skip)
                    obtain ⟨hx41_0, hf41_0⟩ := Kd.R_celln 0 HO_3.out (((rd_T70 ((rd_T63 l0_1 x4_2).f2) x6_4).f0) : Int) p41 q41
                    replace p41 := eq_true p41
                    replace q41 := eq_true q41
                    have HP49 := Kd.R_putn HO_3.out (((rd_T70 ((rd_T63 l0_1 x4_2).f2) x6_4).f0) : Int) (wrap64 ((rd x3_4 ((rd_T70 ((rd_T63 l0_1 x4_2).f2) x6_4).f0)) + ((rd_T70 ((rd_T63 l0_1 x4_2).f2) x6_4).f1)))
                    rw [← Ny141.out] at HP49
                    have HQ49 := Aside0.mk HP49
                    clear HP49
                    refine start_ (n := 15) (S := fun w' => w'.cell? ⟨gb135, 0, none⟩ = some (.int .i64 ((rd_T63 l0_1 x4_2).f0)) ∧ w'.cell? ⟨gb135, 1, none⟩ = some (.string ((rd_T63 l0_1 x4_2).f1)) ∧ w'.cell? ⟨gb135, 2, none⟩ = some (.slice (some ad138) ((rd_T63 l0_1 x4_2).f2).length c134_2) ∧ w'.cell? ⟨go41, (((rd_T70 ((rd_T63 l0_1 x4_2).f2) x6_4).f0)).toNat, none⟩ = some (.int .i64 (rd x3_4 ((rd_T70 ((rd_T63 l0_1 x4_2).f2) x6_4).f0))) ∧ w'.cell? (ad138.add ((x6_4).toNat * 2)) = some (.int .i64 ((rd_T70 ((rd_T63 l0_1 x4_2).f2) x6_4).f0)) ∧ w'.cell? ⟨(ad138.add ((x6_4).toNat * 2)).block, (ad138.add ((x6_4).toNat * 2)).off + 1, none⟩ = some (.int .i64 ((rd_T70 ((rd_T63 l0_1 x4_2).f2) x6_4).f1))) (ds := [14]) #[false, false, false, false, false, false, false, false, false, false, false, false, false, false, false] (by kernel_rfl) rfl rfl ⟨(blk_cell BK135.out 0).trans rfl, (blk_cell BK135.out 1).trans rfl, (blk_cell BK135.out 2).trans rfl, hx139_0, ((HB.out.cell (World.block_lt_of_cell? w _ hw140_0)).trans hw140_0), ((HB.out.cell (World.block_lt_of_cell? w _ hw140_1)).trans hw140_1)⟩ (fun hHeld => ?_); refine with_tabW spec_l26Good.tab14 spec_l26Good.bits14 (fun HT_ HW_ => ?_)
                    generalize wr.drew = w47 at HO_3 BK129 BK135 HB GG41 HQ49 hf41_0 hx139_0 hx140_0 hx140_1 hx41_0 hHeld ⊢
                    refine pu 0 69 ?_
                    refine pu 1 70 ?_
                    refine pu 2 71 ?_
                    refine pu 3 72 ?_
                    refine pu 4 73 ?_
                    refine pu 6 75 ?_
                    refine pu 8 77 ?_
                    refine tk 5 74 ?_
                    refine tk 7 76 ?_
                    refine pu 9 78 ?_
                    refine pu 10 79 ?_
                    refine tk 11 80 ?_
                    refine pu 12 81 ?_
                    refine pu 13 82 ?_
                    refine last_ (i := 14) (N := none) #[true, true, true, true, true, true, true, true, true, true, true, true, true, true, true] rfl rfl (one_of HT_.out (by kernel_rfl)) (by decide) (fun K hK => ?_)
                    refine skip_ (w1 := ?_) (by rfl) rfl ?_ ?_
                    rotate_left
                    ·go_simp
                     rfl
                    refine hK.out _ _ ?_
                    clear hK K
                    refine done_ (done_of HT_.out (by kernel_rfl)) ?_
                    have p42 : 0 ≤ (((rd_T70 ((rd_T63 l0_1 x4_2).f2) x6_4).f0) : Int) := of_decide_eq_true ZZ853400
                    have q42 : (((rd_T70 ((rd_T63 l0_1 x4_2).f2) x6_4).f0) : Int) < ((x3_4.length : Int) : Int) := of_decide_eq_true ZZ853400
                    replace p42 := eq_true p42
                    replace q42 := eq_true q42
                    try go_wp2_with (first | ((with_reducible refine gate_callee (f := 71) rfl ?_); refine goesL_ (some 87) rfl rfl Tryd.func71 (by kernel_rfl) rfl #[.int .i64 (wrap64 ((rd x3_4 ((rd_T70 ((rd_T63 l0_1 x4_2).f2) x6_4).f0)) + ((rd_T70 ((rd_T63 l0_1 x4_2).f2) x6_4).f1)))] rfl ZZ19826e ?_; (with_reducible refine (spec_l2Amount.calls (wrap64 ((rd x3_4 ((rd_T70 ((rd_T63 l0_1 x4_2).f2) x6_4).f0)) + ((rd_T70 ((rd_T63 l0_1 x4_2).f2) x6_4).f1))) true _ A43.out).mono ?_); rintro e w' ⟨rfl, ⟨nd, rfl⟩⟩; refine ⟨_, rfl, ?_⟩))
                    go_roundg k4
                    case measure => have := HJ1.out; have := HK2.out; have := HJ15.out; have := HK4.out; omega
                    case rel => exact ⟨(y141), (wrap64 (x6_4 + 1)), ZZ0ab324, H', ⟨by have := HJ1.out; have := HK2.out; have := HJ15.out; have := HK4.out; omega⟩, ⟨by (with_reducible repeat (first | apply Kd.R_alloc | apply Kd.R_drewN | apply Kd.R_drew)); exact HQ49.out⟩, ⟨by (with_reducible repeat (first | refine blk_drewN ?_ _ | refine blk_drew ?_ | refine blk_alloc ?_ _)); refine blk_far ?_ (by have h_ := Kd.R_ne HO_3.out BK129.out (by decide); intro e_; exact h_ (by rw [e_]; rfl)) _; (with_reducible repeat (first | refine blk_drewN ?_ _ | refine blk_drew ?_ | refine blk_alloc ?_ _)); exact BK129.out⟩, ⟨by (with_reducible repeat (first | refine blk_drewN ?_ _ | refine blk_drew ?_ | refine blk_alloc ?_ _)); refine blk_far ?_ (by have h_ := Kd.R_ne HO_3.out BK135.out (by decide); intro e_; exact h_ (by rw [e_]; rfl)) _; (with_reducible repeat (first | refine blk_drewN ?_ _ | refine blk_drew ?_ | refine blk_alloc ?_ _)); exact BK135.out⟩, ⟨by repeat (first | (with_reducible first | exact HB.out | apply below_alloc | apply pw_below_drewN | apply below_drew1 | refine below_set ?_ GB41.out | refine below_set ?_ GE129.out | refine below_set ?_ GE135.out) | exact HB.out)⟩⟩
                   ·replace c44 := Bool.eq_false_iff.mpr c44
                    subst c44
                    have H1 : (some false) = some r := by rw [if_neg (show ¬ (false = true) by decide)] at H; exact H
                    clear H
                    have H := H1
                    clear H1
                    obtain rfl := Option.some.inj H
                    have hnb50 := NB135_129.out
                    have hnc50 := NB129_135.out
                    have hcz51_0 : wr.cell? ⟨gb135, 0, none⟩ = some (.int .i64 ((rd_T63 l0_1 x4_2).f0)) := (blk_cell BK135.out 0).trans rfl
                    have hcz51_1 : wr.cell? ⟨gb135, 1, none⟩ = some (.string ((rd_T63 l0_1 x4_2).f1)) := (blk_cell BK135.out 1).trans rfl
                    have hcz51_2 : wr.cell? ⟨gb135, 2, none⟩ = some (.slice A134_2 ((rd_T63 l0_1 x4_2).f2).length c134_2) := (blk_cell BK135.out 2).trans rfl
                    have hfz51_0 := blk_frozen BK135.out 0
                    have hfz51_1 := blk_frozen BK135.out 1
                    have hfz51_2 := blk_frozen BK135.out 2
                    have p138 : 0 ≤ (x6_4 : Int) := of_decide_eq_true ZZ853400
                    have q138 : x6_4 < (((rd_T63 l0_1 x4_2).f2).length : Int) := of_decide_eq_true ZZ853400
                    obtain ⟨ad138, e138, hx138_0, hx138_1⟩ := at_T70 HR134_2.out x6_4 p138 q138
                    cases e138
                    replace hx138_0 := (HB.out.cell (World.block_lt_of_cell? w _ hx138_0)).trans hx138_0
                    replace hx138_1 := (HB.out.cell (World.block_lt_of_cell? w _ hx138_1)).trans hx138_1
                    replace p138 := eq_true p138
                    replace q138 := eq_true q138
                    try go_wp2
                    have n0_ := Aside0.mk (Kd.R_drew HO_3.out)
                    have n1_ := Aside0.mk (blk_drew BK129.out)
                    have n2_ := Aside0.mk (blk_drew BK135.out)
                    have n3_ := Aside0.mk (below_drew1 HB.out)
                    clear HO_3
                    clear BK129
                    clear BK135
                    clear HB
                    have HO_3 := n0_
                    have BK129 := n1_
                    have BK135 := n2_
                    have HB := n3_
                    clear n0_ n1_ n2_ n3_
                    obtain ⟨Ao53, co53, eo53⟩ := Kd.R_slice HO_3.out
                    (first | subst eo53 | (injection eo53 with f1_ f2_ f3_; have f4_ := f1_.symm; have f5_ := f3_.symm; clear f1_ f2_ f3_; subst f4_; subst f5_))
                    have p139 : 0 ≤ (((rd_T70 ((rd_T63 l0_1 x4_2).f2) x6_4).f0) : Int) := of_decide_eq_true ZZ853400
                    have q139 : ((rd_T70 ((rd_T63 l0_1 x4_2).f2) x6_4).f0) < (x3_4.length : Int) := of_decide_eq_true ZZ853400
                    obtain ⟨ad139, e139, hx139_0⟩ := Kd.at_int (Kd.R_reads' HO_3.out).2.2 ((rd_T70 ((rd_T63 l0_1 x4_2).f2) x6_4).f0) p139 q139
                    cases e139
                    replace p139 := eq_true p139
                    replace q139 := eq_true q139
                    have p140 : 0 ≤ (x6_4 : Int) := of_decide_eq_true ZZ853400
                    have q140 : x6_4 < (((rd_T63 l0_1 x4_2).f2).length : Int) := of_decide_eq_true ZZ853400
                    obtain ⟨ad140, e140, hx140_0, hx140_1⟩ := at_T70 HR134_2.out x6_4 p140 q140
                    have hw140_1 := hx140_1
                    have hw140_0 := hx140_0
                    obtain rfl : ad138 = ad140 := (by injection e140)
                    replace hx140_0 := (HB.out.cell (World.block_lt_of_cell? w _ hx140_0)).trans hx140_0
                    replace hx140_1 := (HB.out.cell (World.block_lt_of_cell? w _ hx140_1)).trans hx140_1
                    replace p140 := eq_true p140
                    replace q140 := eq_true q140
                    have p41 : 0 ≤ (((rd_T70 ((rd_T63 l0_1 x4_2).f2) x6_4).f0) : Int) := of_decide_eq_true ZZ853400
                    have q41 : (((rd_T70 ((rd_T63 l0_1 x4_2).f2) x6_4).f0) : Int) < ((x3_4.length : Int) : Int) := of_decide_eq_true ZZ853400
                    obtain ⟨go41, co41, eo41, gb41, gl41, cl41, HG41⟩ := Kd.R_form HO_3.out (by omega)
                    (first | cases eo41 | (injection eo41 with ea_ en_ ec_; (first | subst ea_ | (injection ea_ with ea_; subst ea_)); subst ec_; clear en_))
                    have GB41 := Aside0.mk gb41
                    have GG41 := Aside0.mk HG41
                    clear gb41 gl41 HG41
                    (first | simp only [add_plain] at hx139_0 | skip)
                    obtain ⟨hx41_0, hf41_0⟩ := Kd.R_celln 0 HO_3.out (((rd_T70 ((rd_T63 l0_1 x4_2).f2) x6_4).f0) : Int) p41 q41
                    replace p41 := eq_true p41
                    replace q41 := eq_true q41
                    have HP54 := Kd.R_putn HO_3.out (((rd_T70 ((rd_T63 l0_1 x4_2).f2) x6_4).f0) : Int) (wrap64 ((rd x3_4 ((rd_T70 ((rd_T63 l0_1 x4_2).f2) x6_4).f0)) + ((rd_T70 ((rd_T63 l0_1 x4_2).f2) x6_4).f1)))
                    rw [← Ny141.out] at HP54
                    have HQ54 := Aside0.mk HP54
                    clear HP54
                    refine start_ (n := 15) (S := fun w' => w'.cell? ⟨gb135, 0, none⟩ = some (.int .i64 ((rd_T63 l0_1 x4_2).f0)) ∧ w'.cell? ⟨gb135, 1, none⟩ = some (.string ((rd_T63 l0_1 x4_2).f1)) ∧ w'.cell? ⟨gb135, 2, none⟩ = some (.slice (some ad138) ((rd_T63 l0_1 x4_2).f2).length c134_2) ∧ w'.cell? ⟨go41, (((rd_T70 ((rd_T63 l0_1 x4_2).f2) x6_4).f0)).toNat, none⟩ = some (.int .i64 (rd x3_4 ((rd_T70 ((rd_T63 l0_1 x4_2).f2) x6_4).f0))) ∧ w'.cell? (ad138.add ((x6_4).toNat * 2)) = some (.int .i64 ((rd_T70 ((rd_T63 l0_1 x4_2).f2) x6_4).f0)) ∧ w'.cell? ⟨(ad138.add ((x6_4).toNat * 2)).block, (ad138.add ((x6_4).toNat * 2)).off + 1, none⟩ = some (.int .i64 ((rd_T70 ((rd_T63 l0_1 x4_2).f2) x6_4).f1))) (ds := [14]) #[false, false, false, false, false, false, false, false, false, false, false, false, false, false, false] (by kernel_rfl) rfl rfl ⟨(blk_cell BK135.out 0).trans rfl, (blk_cell BK135.out 1).trans rfl, (blk_cell BK135.out 2).trans rfl, hx139_0, ((HB.out.cell (World.block_lt_of_cell? w _ hw140_0)).trans hw140_0), ((HB.out.cell (World.block_lt_of_cell? w _ hw140_1)).trans hw140_1)⟩ (fun hHeld => ?_); refine with_tabW spec_l26Good.tab14 spec_l26Good.bits14 (fun HT_ HW_ => ?_)
                    generalize wr.drew = w52 at HO_3 BK129 BK135 HB GG41 HQ54 hf41_0 hx139_0 hx140_0 hx140_1 hx41_0 hHeld ⊢
                    refine pu 0 69 ?_
                    refine pu 1 70 ?_
                    refine pu 2 71 ?_
                    refine pu 3 72 ?_
                    refine pu 4 73 ?_
                    refine pu 6 75 ?_
                    refine pu 8 77 ?_
                    refine tk 5 74 ?_
                    refine tk 7 76 ?_
                    refine pu 9 78 ?_
                    refine pu 10 79 ?_
                    refine tk 11 80 ?_
                    refine pu 12 81 ?_
                    refine pu 13 82 ?_
                    refine last_ (i := 14) (N := none) #[true, true, true, true, true, true, true, true, true, true, true, true, true, true, true] rfl rfl (one_of HT_.out (by kernel_rfl)) (by decide) (fun K hK => ?_)
                    refine skip_ (w1 := ?_) (by rfl) rfl ?_ ?_
                    rotate_left
                    ·go_simp
                     rfl
                    refine hK.out _ _ ?_
                    clear hK K
                    refine done_ (done_of HT_.out (by kernel_rfl)) ?_
                    have p42 : 0 ≤ (((rd_T70 ((rd_T63 l0_1 x4_2).f2) x6_4).f0) : Int) := of_decide_eq_true ZZ853400
                    have q42 : (((rd_T70 ((rd_T63 l0_1 x4_2).f2) x6_4).f0) : Int) < ((x3_4.length : Int) : Int) := of_decide_eq_true ZZ853400
                    replace p42 := eq_true p42
                    replace q42 := eq_true q42
                    try go_wp2_with (first | ((with_reducible refine gate_callee (f := 71) rfl ?_); refine goesL_ (some 87) rfl rfl Tryd.func71 (by kernel_rfl) rfl #[.int .i64 (wrap64 ((rd x3_4 ((rd_T70 ((rd_T63 l0_1 x4_2).f2) x6_4).f0)) + ((rd_T70 ((rd_T63 l0_1 x4_2).f2) x6_4).f1)))] rfl ZZ19826e ?_; (with_reducible refine (spec_l2Amount.calls (wrap64 ((rd x3_4 ((rd_T70 ((rd_T63 l0_1 x4_2).f2) x6_4).f0)) + ((rd_T70 ((rd_T63 l0_1 x4_2).f2) x6_4).f1))) false _ A43.out).mono ?_); rintro e w' ⟨rfl, ⟨nd, rfl⟩⟩; refine ⟨_, rfl, ?_⟩))
                    go_ret
                    exact ⟨by first | rfl | (simp [errW_none, errW_some] <;> rfl) | (simp [*, errW_none, errW_some] <;> rfl), by repeat (first | (with_reducible first | exact HB.out | apply below_alloc | apply pw_below_drewN | apply below_drew1 | refine below_set ?_ GB41.out | refine below_set ?_ GE129.out | refine below_set ?_ GE135.out) | exact HB.out)⟩
                  ·rw [if_neg c40] at H
                   exact absurd H (by simp)
                 ·rw [if_neg c39] at H
                  exact absurd H (by simp)
                ·rw [if_neg c38] at H
                 exact absurd H (by simp)
               ·rw [if_neg c37] at H
                have c37b0 : decide (x6_4 < (((rd_T63 l0_1 x4_2).f2).length : Int)) = false := decide_eq_false c37
                clear c37
                have H' := Aside0.mk H
                clear H
                have hnb55 := NB135_129.out
                have hnc55 := NB129_135.out
                have hcz56_0 : wr.cell? ⟨gb135, 0, none⟩ = some (.int .i64 ((rd_T63 l0_1 x4_2).f0)) := (blk_cell BK135.out 0).trans rfl
                have hcz56_1 : wr.cell? ⟨gb135, 1, none⟩ = some (.string ((rd_T63 l0_1 x4_2).f1)) := (blk_cell BK135.out 1).trans rfl
                have hcz56_2 : wr.cell? ⟨gb135, 2, none⟩ = some (.slice A134_2 ((rd_T63 l0_1 x4_2).f2).length c134_2) := (blk_cell BK135.out 2).trans rfl
                have hfz56_0 := blk_frozen BK135.out 0
                have hfz56_1 := blk_frozen BK135.out 1
                have hfz56_2 := blk_frozen BK135.out 2
                go_wp2
                go_roundg k4
                case measure => have := HJ1.out; have := HK2.out; have := HJ15.out; have := HK4.out; omega
                case rel => exact ⟨(x3_4), (wrap64 (x4_2 + 1)), ZZ0ab324, H', ⟨by have := HJ1.out; have := HK2.out; have := HJ15.out; have := HK4.out; omega⟩, ⟨by (with_reducible repeat (first | apply Kd.R_alloc | apply Kd.R_drewN | apply Kd.R_drew)); exact HO_3.out⟩, ⟨by (with_reducible repeat (first | refine blk_drewN ?_ _ | refine blk_drew ?_ | refine blk_alloc ?_ _)); exact BK129.out⟩, ⟨by repeat (first | (with_reducible first | exact HB.out | apply below_alloc | apply pw_below_drewN | apply below_drew1 | refine below_set ?_ GE129.out | refine below_set ?_ GE135.out) | exact HB.out)⟩⟩
         ·rw [if_neg c15] at H
          exact absurd H (by simp)
        ·rw [if_neg c14] at H
         have c14b0 : decide (x4_2 < (l0_1.length : Int)) = false := decide_eq_false c14
         clear c14
         obtain rfl := Option.some.inj H
         have hcz57_0 : wr.cell? ⟨gb129, 0, none⟩ = some (.slice A0_0 l0_0.length c0_0) := (blk_cell BK129.out 0).trans rfl
         have hcz57_1 : wr.cell? ⟨gb129, 1, none⟩ = some (.slice A0_1 l0_1.length c0_1) := (blk_cell BK129.out 1).trans rfl
         have hfz57_0 := blk_frozen BK129.out 0
         have hfz57_1 := blk_frozen BK129.out 1
         go_wp2
         go_ret
         exact ⟨by first | rfl | (simp [errW_none, errW_some] <;> rfl) | (simp [*, errW_none, errW_some] <;> rfl), by repeat (first | (with_reducible first | exact HB.out | apply below_alloc | apply pw_below_drewN | apply below_drew1 | refine below_set ?_ GE129.out) | exact HB.out)⟩
     ·rw [if_neg c10] at H
      exact absurd H (by simp)
    ·rw [if_neg c9] at H
     exact absurd H (by simp)
end Go.Proofs.YtccdjchaaeligaaDoor.XFnExactIsValidLedger

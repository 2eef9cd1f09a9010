-- Printed by wip/tools/xprint.py, a program of this session, over the kit's print; Lean checks it.
import Derived.Test.YtccdjchaaeligaaDoorXFnExactAccountStatement1
import Derived.Test.YtccdjchaaeligaaDoorXFnExactAccountStatement0
import Derived.Test.YtccdjchaaeligaaDoorXFnExactAccountStatement4
import Derived.Test.YtccdjchaaeligaaDoorXFnExactAccountStatement5
namespace Go.Proofs.YtccdjchaaeligaaDoor.XFnExactAccountStatement
open Go.Proofs.YtccdjchaaeligaaDoor.Short Go.RowKit Go.Proofs.YtccdjchaaeligaaDoorW.PrintWords Go.Proofs.YtccdjchaaeligaaDoorW.PrintLast Go.Proofs.YtccdjchaaeligaaDoorW.PrintMore
attribute [local go_sem] max2_int min2_int max_two min_two max_three min_three max_four min_four   -- for this text's walks alone
set_option linter.unusedVariables false
set_option linter.unusedSimpArgs false
theorem ZZ53cbe9 {p : Prop} (h : p := by (with_reducible repeat (first | apply Kd.R_alloc | apply Kd.R_drewN | apply Kd.R_drew)); exact Kd.R_mono (Kd.R_far (p := ⟨gb200, 2, none⟩) (Kd.R_far (p := ⟨gb200, 1, none⟩) (Kd.R_far (p := ⟨gb200, 0, none⟩) (Kd.R_types HO_3.out BK200.out (by decide)) (fun _ hk => hk.2) (.int .i64 ((rd_T63 l0_1 x4_2).f0))) (fun _ hk => hk.2) (.string ((rd_T63 l0_1 x4_2).f1))) (fun _ hk => hk.2) (.slice A199_2 ((rd_T63 l0_1 x4_2).f2).length c199_2)) (fun _ hk => trivial)) : p := h
theorem ZZe5cbb6 {p : Prop} (h : p := by (with_reducible repeat (first | refine blk_drewN ?_ _ | refine blk_drew ?_ | refine blk_alloc ?_ _)); refine blk_far ?_ NB194_200.out _; (with_reducible repeat (first | refine blk_drewN ?_ _ | refine blk_drew ?_ | refine blk_alloc ?_ _)); refine blk_far ?_ NB194_200.out _; (with_reducible repeat (first | refine blk_drewN ?_ _ | refine blk_drew ?_ | refine blk_alloc ?_ _)); refine blk_far ?_ NB194_200.out _; (with_reducible repeat (first | refine blk_drewN ?_ _ | refine blk_drew ?_ | refine blk_alloc ?_ _)); exact BK194.out) : p := h
theorem ZZ797400 {p : Prop} (h : p := by (with_reducible repeat (first | refine blk_drewN ?_ _ | refine blk_drew ?_ | refine blk_alloc ?_ _)); refine blk_put (cs := #[.int .i64 ((rd_T63 l0_1 x4_2).f0), .string ((rd_T63 l0_1 x4_2).f1), .slice none 0 0]) ?_ 2 _ rfl; (with_reducible repeat (first | refine blk_drewN ?_ _ | refine blk_drew ?_ | refine blk_alloc ?_ _)); refine blk_put (cs := #[.int .i64 ((rd_T63 l0_1 x4_2).f0), .string (⟨#[]⟩ : ByteArray), .slice none 0 0]) ?_ 1 _ rfl; (with_reducible repeat (first | refine blk_drewN ?_ _ | refine blk_drew ?_ | refine blk_alloc ?_ _)); refine blk_put (cs := #[.int .i64 0, .string (⟨#[]⟩ : ByteArray), .slice none 0 0]) ?_ 0 _ rfl; (with_reducible repeat (first | refine blk_drewN ?_ _ | refine blk_drew ?_ | refine blk_alloc ?_ _)); exact BK200.out) : p := h
/-! ### spec_l26Good: function 52 -/
mutual
def spec_l26Good.j0 : Nat → Bool → List (S48) → List (S63) → Option (Bool)
 | 0, _, _, _ => none
 | k + 1, x17, x195000, x195001 => if x17 = true then (some false) else (if 0 ≤ (x195000.length : Int) then (if ((x195000.length : Int) : Int).toNat ≤ 35184372088832 then (spec_l26Good.l0 k (List.replicate ((x195000.length : Int) : Int).toNat 0) 0 x195000 x195001) else (none)) else (none))
def spec_l26Good.l0 : Nat → List Int → Int → List (S48) → List (S63) → Option (Bool)
 | 0, _, _, _, _ => none
 | k + 1, x3, x4, x195000, x195001 => if x4 < (x195001.length : Int) then (if 0 ≤ x4 then ((spec_l26Entry.f k ((rd_T63 x195001 x4).f0) ((rd_T63 x195001 x4).f1) ((rd_T63 x195001 x4).f2) (x195000.length : Int)).bind fun t201 => (if t201 = true then (if x4 > 0 then (if 0 ≤ (wrap64 (x4 - 1)) then (if (wrap64 (x4 - 1)) < (x195001.length : Int) then (spec_l26Good.j2 k x3 x4 (decide (((rd_T63 x195001 (wrap64 (x4 - 1))).f0) > ((rd_T63 x195001 x4).f0))) x195000 x195001 ((rd_T63 x195001 x4).f0) ((rd_T63 x195001 x4).f1) ((rd_T63 x195001 x4).f2)) else (none)) else (none)) else (spec_l26Good.j2 k x3 x4 false x195000 x195001 ((rd_T63 x195001 x4).f0) ((rd_T63 x195001 x4).f1) ((rd_T63 x195001 x4).f2))) else (spec_l26Good.j2 k x3 x4 true x195000 x195001 ((rd_T63 x195001 x4).f0) ((rd_T63 x195001 x4).f1) ((rd_T63 x195001 x4).f2)))) else (none)) else (some true)
def spec_l26Good.j2 : Nat → List Int → Int → Bool → List (S48) → List (S63) → Int → ByteArray → List (S70) → Option (Bool)
 | 0, _, _, _, _, _, _, _, _ => none
 | k + 1, x3, x4, x55, x195000, x195001, x201000, x201001, x201002 => if x55 = true then (some false) else (spec_l26Good.l1 k x3 x4 0 x195000 x195001 x201000 x201001 x201002)
def spec_l26Good.l1 : Nat → List Int → Int → Int → List (S48) → List (S63) → Int → ByteArray → List (S70) → Option (Bool)
 | 0, _, _, _, _, _, _, _, _ => none
 | k + 1, x3, x4, x6, x195000, x195001, x201000, x201001, x201002 => if x6 < (x201002.length : Int) then (if 0 ≤ x6 then (if 0 ≤ ((rd_T70 x201002 x6).f0) then (if ((rd_T70 x201002 x6).f0) < (x3.length : Int) then ((spec_l2Amount.f (wrap64 ((rd x3 ((rd_T70 x201002 x6).f0)) + ((rd_T70 x201002 x6).f1)))).bind fun t208 => (if t208 = true then (spec_l26Good.l1 k (x3.set (((rd_T70 x201002 x6).f0) : Int).toNat (wrap64 ((rd x3 ((rd_T70 x201002 x6).f0)) + ((rd_T70 x201002 x6).f1)))) x4 (wrap64 (x6 + 1)) x195000 x195001 x201000 x201001 x201002) else (some false))) else (none)) else (none)) else (none)) else (spec_l26Good.l0 k x3 (wrap64 (x4 + 1)) x195000 x195001)
end
def spec_l26Good.f (k : Nat) (l0_0 : List (S48)) (l0_1 : List (S63)) : Option (Bool) := (spec_l26Accounts.f k l0_0).bind fun t195 => (if t195 = true then (spec_l26Good.j0 k (decide ((l0_1.length : Int) > 40)) l0_0 l0_1) else (spec_l26Good.j0 k true l0_0 l0_1))
theorem spec_l26Good.mono_l : ∀ k, (∀ y0 y1 y2, LeO (spec_l26Good.j0 k y0 y1 y2) (spec_l26Good.j0 (k + 1) y0 y1 y2)) ∧ (∀ y0 y1 y2 y3, LeO (spec_l26Good.l0 k y0 y1 y2 y3) (spec_l26Good.l0 (k + 1) y0 y1 y2 y3)) ∧ (∀ y0 y1 y2 y3 y4 y5 y6 y7, LeO (spec_l26Good.j2 k y0 y1 y2 y3 y4 y5 y6 y7) (spec_l26Good.j2 (k + 1) y0 y1 y2 y3 y4 y5 y6 y7)) ∧ (∀ y0 y1 y2 y3 y4 y5 y6 y7, LeO (spec_l26Good.l1 k y0 y1 y2 y3 y4 y5 y6 y7) (spec_l26Good.l1 (k + 1) y0 y1 y2 y3 y4 y5 y6 y7))
 | 0 => ⟨fun _ _ _ r h => by simp [spec_l26Good.j0] at h, fun _ _ _ _ r h => by simp [spec_l26Good.l0] at h, fun _ _ _ _ _ _ _ _ r h => by simp [spec_l26Good.j2] at h, fun _ _ _ _ _ _ _ _ r h => by simp [spec_l26Good.l1] at h⟩
 | k + 1 => by
  obtain ⟨ih0, ih1, ih2, ih3⟩ := spec_l26Good.mono_l k
  refine ⟨?_, ?_, ?_, ?_⟩
  all_goals intros
  all_goals (first | unfold spec_l26Good.j0 | unfold spec_l26Good.l0 | unfold spec_l26Good.j2 | unfold spec_l26Good.l1)
  all_goals
   repeat' first
   | (with_reducible exact ih0 _ _ _)
   | (with_reducible exact ih1 _ _ _ _)
   | (with_reducible exact ih2 _ _ _ _ _ _ _ _)
   | (with_reducible exact ih3 _ _ _ _ _ _ _ _)
   | (with_reducible exact spec_l26Accounts.mono _ _)
   | (with_reducible exact spec_l26Entry.mono _ _ _ _ _)
   | (with_reducible exact LeO.refl _)
   | (with_reducible exact LeO.none _)
   | (with_reducible refine LeO.ite ?_ ?_)
   | (with_reducible refine LeO.bind ?_ (fun _ => ?_))
   | exact ih0 _ _ _
   | exact ih1 _ _ _ _
   | exact ih2 _ _ _ _ _ _ _ _
   | exact ih3 _ _ _ _ _ _ _ _
   | exact spec_l26Accounts.mono _ _
   | exact spec_l26Entry.mono _ _ _ _ _
   | exact LeO.none _
   | refine LeO.ite ?_ ?_
   | refine LeO.bind ?_ (fun _ => ?_)
theorem spec_l26Good.mono : ∀ a0 a1 k, LeO (spec_l26Good.f k a0 a1) (spec_l26Good.f (k + 1) a0 a1) := by
 intro a0 a1 k
 obtain ⟨ih0, ih1, ih2, ih3⟩ := spec_l26Good.mono_l k
 unfold spec_l26Good.f
 repeat' first
  | (with_reducible exact ih0 _ _ _)
  | (with_reducible exact ih1 _ _ _ _)
  | (with_reducible exact ih2 _ _ _ _ _ _ _ _)
  | (with_reducible exact ih3 _ _ _ _ _ _ _ _)
  | (with_reducible exact spec_l26Accounts.mono _ _)
  | (with_reducible exact spec_l26Entry.mono _ _ _ _ _)
  | (with_reducible exact LeO.refl _)
  | (with_reducible exact LeO.none _)
  | (with_reducible refine LeO.ite ?_ ?_)
  | (with_reducible refine LeO.bind ?_ (fun _ => ?_))
  | exact ih0 _ _ _
  | exact ih1 _ _ _ _
  | exact ih2 _ _ _ _ _ _ _ _
  | exact ih3 _ _ _ _ _ _ _ _
  | exact spec_l26Accounts.mono _ _
  | exact spec_l26Entry.mono _ _ _ _ _
  | exact LeO.none _
  | refine LeO.ite ?_ ?_
  | refine LeO.bind ?_ (fun _ => ?_)
def spec_l26Good.T8 : Bool × List (List Nat × List Nat) := (true, [([], []), ([], []), ([1], [1]), ([2], [2]), ([0, 3], [0, 3]), ([4], [4]), ([5, 4], [5]), ([6], [6]), ([7, 6], [6, 7]), ([8, 6, 6], [6, 8]), ([9], [9]), ([10, 9], [9, 10]), ([9], [9]), ([12, 9], [9, 12]), ([11, 13, 9], [9, 11, 13]), ([14, 9], [9, 14]), ([15, 9], [9, 15]), ([9], [9]), ([17, 9], [9, 17]), ([16, 18, 9], [9, 16, 18]), ([9, 19, 6], [6, 9, 19]), ([6, 20], [6, 20])])
def spec_l26Good.B8 : List Nat := [0, 0, 2, 6, 15, 31, 63, 127, 255, 511, 1023, 2047, 1023, 5119, 16383, 32767, 65535, 1023, 132095, 524287, 1048575, 2097151]
theorem spec_l26Good.tab8 : rtab .any (opsOf Tryd.f52 8) = spec_l26Good.T8 := by kernel_rfl
theorem spec_l26Good.bits8 : waitsOk spec_l26Good.T8.2 spec_l26Good.B8 = true := by kernel_rfl
def spec_l26Good.T14 : Bool × List (List Nat × List Nat) := (true, [([], []), ([], []), ([], []), ([], []), ([2, 3], [2, 3]), ([4], [4]), ([], []), ([6], [6]), ([], []), ([7, 8], [7, 8]), ([9], [9]), ([10], [10]), ([5, 11], [5, 11]), ([0, 1, 0, 1, 2, 3, 4, 5, 6, 7, 8, 9, 10, 11, 12], [0, 1]), ([13, 12, 0, 1, 2, 3, 4, 5, 6, 7, 8, 9, 10, 11, 12], [12, 13])])
def spec_l26Good.B14 : List Nat := [0, 0, 0, 0, 12, 28, 0, 64, 0, 448, 960, 1984, 4092, 8191, 16383]
theorem spec_l26Good.tab14 : rtab .any (opsOf Tryd.f52 14) = spec_l26Good.T14 := by kernel_rfl
theorem spec_l26Good.bits14 : waitsOk spec_l26Good.T14.2 spec_l26Good.B14 = true := by kernel_rfl
set_option maxHeartbeats 8000000 in
set_option maxRecDepth 100000 in
theorem spec_l26Good.calls (k : Nat) (A0_0 : Option Addr) (c0_0 : Nat) (l0_0 : List (S48)) (A0_1 : Option Addr) (c0_1 : Nat) (l0_1 : List (S63)) (r : Bool) (w : World) (hr0_0 : Kd.C k48 w A0_0 l0_0.length l0_0) (hc0_0 : l0_0.length ≤ c0_0) (hr0_1 : Kd.C k63 w A0_1 l0_1.length l0_1) (hc0_1 : l0_1.length ≤ c0_1) (h : spec_l26Good.f k l0_0 l0_1 = some r) :
 Calls Tryd.prog 52 #[.agg #[.slice A0_0 l0_0.length c0_0, .slice A0_1 l0_1.length c0_1]] w fun e w' => e = .returned (.bool r) ∧ Below w.heap.size w w' := by
 have hu31 := Tryd.underlying31
 have hu63 := Tryd.underlying63
 have HR0_0 := Aside0.mk hr0_0
 have HC0_0 := Aside0.mk hc0_0
 clear hr0_0 hc0_0
 have HR0_1 := Aside0.mk hr0_1
 have HC0_1 := Aside0.mk hc0_1
 clear hr0_1 hc0_1
 have HB := Aside0.mk (Below.refl w.heap.size w)
 have H := h
 clear h
 unfold spec_l26Good.f at H
 have HC2 := Aside0.mk H
 clear H
 go_enter Tryd.func52, Tryd.ntmps52
 go_upto_region 1 with (first | ((with_reducible refine gate_dst (N := 1) rfl ?_); (try (refine gate_guard (by rfl) ?_; dsimp only)); refine box_event ?hg (N := 1) ?hd (cs := #[.slice A0_0 l0_0.length c0_0, .slice A0_1 l0_1.length c0_1]) (t := 31) ?hr ?_; (case hd => rfl); (case hg => rfl); (case hr => first | (go_simp; done) | (go_simp; rfl)); intro gb194 hg w3 hbox hb; have BK194 := Aside0.mk (hbox); have GW194 := Aside0.mk ((by rw [hg]; exact (below_size ZZ605003) : w.heap.size ≤ gb194)); have GE194 := Aside0.mk ((by rw [hg]; exact (below_size ZZ605003) : w.heap.size ≤ gb194)); replace HB := Aside0.mk (below_step ZZ605003 hb); clear hb hbox hg))
 (try simp only [Act.put, List.setIfInBounds_toArray, List.set_cons_zero, List.set_cons_succ])
 go_cut [17] (fun v17 wc => ∃ (kq : Nat) (x17_1 : Bool), v17 = .bool x17_1 ∧ Aside0 (spec_l26Good.j0 kq x17_1 l0_0 l0_1 = some r) ∧ Aside0 (kq ≤ k) ∧ Aside0 (wc.heap[gb194]? = some (.cells #[(.slice A0_0 l0_0.length c0_0), (.slice A0_1 l0_1.length c0_1)] 31 (0, 0))) ∧ Aside0 (Below w.heap.size w wc))
 case first =>
  have H := HC2.out
  clear HC2
  obtain ⟨t195, A4, H⟩ := bdY H
  by_cases c5 : t195 = true
  ·subst c5
   have H1 : (spec_l26Good.j0 k (decide ((l0_1.length : Int) > 40)) l0_0 l0_1) = some r := by rw [if_pos rfl] at H; exact H
   clear H
   have H := H1
   clear H1
   have H' := Aside0.mk H
   clear H
   have hcz6_0 : w3.cell? ⟨gb194, 0, none⟩ = some (.slice A0_0 l0_0.length c0_0) := (blk_cell BK194.out 0).trans rfl
   have hcz6_1 : w3.cell? ⟨gb194, 1, none⟩ = some (.slice A0_1 l0_1.length c0_1) := (blk_cell BK194.out 1).trans rfl
   have hfz6_0 := blk_frozen BK194.out 0
   have hfz6_1 := blk_frozen BK194.out 1
   go_wp2_with (first | ((with_reducible refine gate_callee (f := 101) rfl ?_); refine goesL_ (some 10) rfl rfl Tryd.func101 (by kernel_rfl) rfl #[.slice A0_0 l0_0.length c0_0] rfl ZZ19826e ?_; (with_reducible refine (spec_l26Accounts.calls k _ _ l0_0 true _ ?side1 ?side2 A4.out).mono ?_); (case side1 => exact ZZ5b25f1); (case side2 => exact HC0_0.out); rintro e w' ⟨rfl, ⟨nd, rfl⟩⟩; refine ⟨_, rfl, ?_⟩))
   go_meet
   case rel => exact ⟨_, (decide ((l0_1.length : Int) > 40)), ZZ0ab324, H', ⟨ZZ81c739⟩, ⟨(zB BK194)⟩, ⟨ZZ295621⟩⟩
  replace c5 := Bool.eq_false_iff.mpr c5
  subst c5
  have H1 : (spec_l26Good.j0 k true l0_0 l0_1) = some r := by rw [if_neg (show ¬ (false = true) by decide)] at H; exact H
  clear H
  have H := H1
  clear H1
  have H' := Aside0.mk H
  clear H
  have hcz7_0 : w3.cell? ⟨gb194, 0, none⟩ = some (.slice A0_0 l0_0.length c0_0) := (blk_cell BK194.out 0).trans rfl
  have hcz7_1 : w3.cell? ⟨gb194, 1, none⟩ = some (.slice A0_1 l0_1.length c0_1) := (blk_cell BK194.out 1).trans rfl
  have hfz7_0 := blk_frozen BK194.out 0
  have hfz7_1 := blk_frozen BK194.out 1
  go_wp2_with (first | ((with_reducible refine gate_callee (f := 101) rfl ?_); refine goesL_ (some 10) rfl rfl Tryd.func101 (by kernel_rfl) rfl #[.slice A0_0 l0_0.length c0_0] rfl ZZ19826e ?_; (with_reducible refine (spec_l26Accounts.calls k _ _ l0_0 false _ ?side1 ?side2 A4.out).mono ?_); (case side1 => exact ZZ5b25f1); (case side2 => exact HC0_0.out); rintro e w' ⟨rfl, ⟨nd, rfl⟩⟩; refine ⟨_, rfl, ?_⟩))
  go_meet
  case rel => exact ⟨_, (true), ZZ0ab324, H', ⟨ZZ81c739⟩, ⟨(zB BK194)⟩, ⟨ZZ295621⟩⟩
 case rest =>
  clear HC2
  try clear c5
  try clear hcz6_0
  try clear hcz6_1
  try clear hcz7_0
  try clear hcz7_1
  try clear hfz6_0
  try clear hfz6_1
  try clear hfz7_0
  try clear hfz7_1
  obtain ⟨kq, x17_1, rfl, HA, HJ1, BK194, HB⟩ := hcut
  cases kq with
  | zero => exact absurd HA.out (by simp [spec_l26Good.j0])
  | succ kj1 =>
   have H := HA.out
   clear HA
   simp only [spec_l26Good.j0] at H
   by_cases c8 : x17_1 = true
   ·subst c8
    have H1 : (some false) = some r := by rw [if_pos rfl] at H; exact H
    clear H
    have H := H1
    clear H1
    obtain rfl := Option.some.inj H
    go_wp2
    go_ret
    exact ⟨ZZab01d2, ZZ295621⟩
   replace c8 := Bool.eq_false_iff.mpr c8
   subst c8
   have H1 : (if 0 ≤ (l0_0.length : Int) then (if ((l0_0.length : Int) : Int).toNat ≤ 35184372088832 then (spec_l26Good.l0 kj1 (List.replicate ((l0_0.length : Int) : Int).toNat 0) 0 l0_0 l0_1) else (none)) else (none)) = some r := by rw [if_neg (show ¬ (false = true) by decide)] at H; exact H
   clear H
   have H := H1
   clear H1
   obtain ⟨c9, H⟩ := ifY H
   have c9b0 := eq_true c9
   have c9b1 := decide_eq_true c9
   clear c9
   obtain ⟨c10, H⟩ := ifY H
   have c10b0 := eq_true c10
   have c10b1 := decide_eq_true c10
   clear c10
   obtain ⟨y196, hy196⟩ : ∃ y_ : List Int, y_ = (List.replicate ((l0_0.length : Int) : Int).toNat 0) := ⟨_, rfl⟩
   replace H : (spec_l26Good.l0 kj1 y196 0 l0_0 l0_1) = some r := by first | (rw [hy196]; with_reducible exact H) | (have H2_ := (Option.bind_some _ _).symm.trans H; rw [hy196]; with_reducible exact H2_) | (have H2_ := (Option.bind_some _ _).symm.trans H; with_reducible exact H2_) | with_reducible exact H | (rw [hy196]; exact H) | exact H
   have Ny196 := Aside0.mk hy196
   clear hy196
   have H' := Aside0.mk H
   clear H
   have hcz11_0 : wc.cell? ⟨gb194, 0, none⟩ = some (.slice A0_0 l0_0.length c0_0) := (blk_cell BK194.out 0).trans rfl
   have hcz11_1 : wc.cell? ⟨gb194, 1, none⟩ = some (.slice A0_1 l0_1.length c0_1) := (blk_cell BK194.out 1).trans rfl
   have hfz11_0 := blk_frozen BK194.out 0
   have hfz11_1 := blk_frozen BK194.out 1
   go_wp2_with (first | ((with_reducible refine gate_dst (N := 21) rfl ?_); (try (refine gate_guard (by rfl) ?_; dsimp only)); refine Kd.R_make (Kd.int .i64) _ 3 rfl (N := 21) rfl 44 _ _ rfl (l0_0.length : Int) rfl rfl Tryd.underlying44 (.int .i64 0) 8 info3 rfl (by decide) (by omega) 0 (ok := fun _ => True) (okp := fun _ => True) rfl (fun _ hk => hk) trivial (of_decide_eq_true ZZ853400) (Nat.le_trans (Nat.mul_le_mul_right _ (of_decide_eq_true ZZ853400 : (l0_0.length : Int).toNat ≤ 35184372088832)) (by omega)) (Below.refl _ _) (Nat.le_refl _) ?_; intro v197 w12 ho13 hb hg_ hnew_; clear hg_ hnew_; (first | rw [← Ny196.out] at ho13 | (simp only [Int.reduceToNat] at ho13; rw [← Ny196.out] at ho13)); have HO198 := Aside0.mk (Kd.R_lower ho13 (below_size ZZ295621)); replace BK194 := Aside0.mk (blk_below (zB BK194) hb); replace HB := Aside0.mk (below_step ZZ295621 hb); clear hb ho13))
   go_loopg [4] kj1 (fun kq v4 w' => ∃ (x3_2 : List Int) (x4_2 : Int), v4 = .int .i64 x4_2 ∧ Aside0 (spec_l26Good.l0 kq x3_2 x4_2 l0_0 l0_1 = some r) ∧ Aside0 (kq ≤ kj1) ∧ Aside0 (Kd.R (Kd.int .i64) 3 w' w.heap.size (fun _ => True) v197 x3_2) ∧ Aside0 (w'.heap[gb194]? = some (.cells #[(.slice A0_0 l0_0.length c0_0), (.slice A0_1 l0_1.length c0_1)] 31 (0, 0))) ∧ Aside0 (Below w.heap.size w w'))
   case atStart => exact ⟨(y196), (0), ZZ0ab324, H', ⟨Nat.le_refl _⟩, ⟨(zR HO198)⟩, ⟨(zB BK194)⟩, ⟨ZZ295621⟩⟩
   case round =>
    clear H'
    try clear c8
    try clear c9b0
    try clear c9b1
    try clear c10b0
    try clear c10b1
    try clear hcz11_0
    try clear hcz11_1
    try clear hfz11_0
    try clear hfz11_1
    obtain ⟨x3_2, x4_2, rfl, HA, HK2, HO_3, BK194, HB⟩ := hrel
    cases gk with
    | zero => exact absurd HA.out (by simp [spec_l26Good.l0])
    | succ k2 =>
     have H := HA.out
     clear HA
     simp only [spec_l26Good.l0] at H
     by_cases c14 : x4_2 < (l0_1.length : Int)
     ·rw [if_pos c14] at H
      have c14b0 := decide_eq_true c14
      clear c14
      obtain ⟨c15, H⟩ := ifY H
      have c15b0 := decide_eq_true c15
      clear c15
      have HC16 := Aside0.mk H
      clear H
      have hcz17_0 : wr.cell? ⟨gb194, 0, none⟩ = some (.slice A0_0 l0_0.length c0_0) := (blk_cell BK194.out 0).trans rfl
      have hcz17_1 : wr.cell? ⟨gb194, 1, none⟩ = some (.slice A0_1 l0_1.length c0_1) := (blk_cell BK194.out 1).trans rfl
      have hfz17_0 := blk_frozen BK194.out 0
      have hfz17_1 := blk_frozen BK194.out 1
      have p199 : 0 ≤ (x4_2 : Int) := of_decide_eq_true ZZ853400
      have q199 : x4_2 < (l0_1.length : Int) := of_decide_eq_true ZZ853400
      obtain ⟨ad199, A199_2, c199_2, e199, hx199_0, hx199_1, hx199_2, hl199_2, hi199_2⟩ := at_T63 HR0_1.out x4_2 p199 q199
      cases e199
      replace hx199_0 := (HB.out.cell (World.block_lt_of_cell? w _ hx199_0)).trans hx199_0
      replace hx199_1 := (HB.out.cell (World.block_lt_of_cell? w _ hx199_1)).trans hx199_1
      replace hx199_2 := (HB.out.cell (World.block_lt_of_cell? w _ hx199_2)).trans hx199_2
      have HR199_2 := Aside0.mk hi199_2
      have HC199_2 := Aside0.mk hl199_2
      clear hi199_2 hl199_2
      replace p199 := eq_true p199
      replace q199 := eq_true q199
      go_upto_region 8 with (first | ((with_reducible refine gate_dst (N := 5) rfl ?_); (try (refine gate_guard (by rfl) ?_; dsimp only)); refine box_event ?hg (N := 5) ?hd (cs := #[.int .i64 0, .string (⟨#[]⟩ : ByteArray), .slice none 0 0]) (t := 63) ?hr ?_; (case hd => rfl); (case hg => rfl); (case hr => first | (go_simp; done) | (go_simp; rfl)); intro gb200 hg w18 hbox hb; replace HO_3 := Aside0.mk (Kd.R_below (zR HO_3) hb); have BK200 := Aside0.mk (hbox); have GW200 := Aside0.mk ((by rw [hg]; exact (below_size ZZ295621) : w.heap.size ≤ gb200)); have GE200 := Aside0.mk ((by rw [hg]; exact (below_size ZZ295621) : w.heap.size ≤ gb200)); replace HB := Aside0.mk (below_step ZZ295621 hb); have NB194_200 := Aside0.mk ((by rw [hg]; exact Nat.ne_of_lt (blk_lt (zB BK194)) : gb194 ≠ gb200)); have NB200_194 := Aside0.mk ((by rw [hg]; exact Nat.ne_of_gt (blk_lt (zB BK194)) : gb200 ≠ gb194)); replace BK194 := Aside0.mk (blk_below (zB BK194) hb); clear hb hbox hg; have hnb19 := NB200_194.out; have hnc19 := NB194_200.out; have hcz20_0 : w18.cell? ⟨gb200, 0, none⟩ = some (.int .i64 0) := (blk_cell BK200.out 0).trans rfl; have hcz20_1 : w18.cell? ⟨gb200, 1, none⟩ = some (.string (⟨#[]⟩ : ByteArray)) := (blk_cell BK200.out 1).trans rfl; have hcz20_2 : w18.cell? ⟨gb200, 2, none⟩ = some (.slice none 0 0) := (blk_cell BK200.out 2).trans rfl; have hfz20_0 := blk_frozen BK200.out 0; have hfz20_1 := blk_frozen BK200.out 1; have hfz20_2 := blk_frozen BK200.out 2))
      (try simp only [Act.put, List.setIfInBounds_toArray, List.set_cons_zero, List.set_cons_succ])
      go_cut [55] (fun v55 wc => ∃ (kq : Nat) (x55_15 : Bool), v55 = .bool x55_15 ∧ Aside0 (spec_l26Good.j2 kq x3_2 x4_2 x55_15 l0_0 l0_1 ((rd_T63 l0_1 x4_2).f0) ((rd_T63 l0_1 x4_2).f1) ((rd_T63 l0_1 x4_2).f2) = some r) ∧ Aside0 (kq ≤ k2) ∧ Aside0 (Kd.R (Kd.int .i64) 3 wc w.heap.size (fun _ => True) v197 x3_2) ∧ Aside0 (wc.heap[gb194]? = some (.cells #[(.slice A0_0 l0_0.length c0_0), (.slice (some ad199) l0_1.length c0_1)] 31 (0, 0))) ∧ Aside0 (wc.heap[gb200]? = some (.cells #[.int .i64 ((rd_T63 l0_1 x4_2).f0), .string ((rd_T63 l0_1 x4_2).f1), (.slice A199_2 ((rd_T63 l0_1 x4_2).f2).length c199_2)] 63 (0, 0))) ∧ Aside0 (Below w.heap.size w wc))
      case first =>
       have H := HC16.out
       clear HC16
       obtain ⟨t201, A21, H⟩ := bdY H
       by_cases c22 : t201 = true
       ·subst c22
        have H1 : (if x4_2 > 0 then (if 0 ≤ (wrap64 (x4_2 - 1)) then (if (wrap64 (x4_2 - 1)) < (l0_1.length : Int) then (spec_l26Good.j2 k2 x3_2 x4_2 (decide (((rd_T63 l0_1 (wrap64 (x4_2 - 1))).f0) > ((rd_T63 l0_1 x4_2).f0))) l0_0 l0_1 ((rd_T63 l0_1 x4_2).f0) ((rd_T63 l0_1 x4_2).f1) ((rd_T63 l0_1 x4_2).f2)) else (none)) else (none)) else (spec_l26Good.j2 k2 x3_2 x4_2 false l0_0 l0_1 ((rd_T63 l0_1 x4_2).f0) ((rd_T63 l0_1 x4_2).f1) ((rd_T63 l0_1 x4_2).f2))) = some r := by rw [if_pos rfl] at H; exact H
        clear H
        have H := H1
        clear H1
        by_cases c23 : x4_2 > 0
        ·rw [if_pos c23] at H
         have c23b0 : decide (0 < x4_2) = true := decide_eq_true c23
         clear c23
         (first | rw [c23b0] | (simp only [i64_w, i32_w]; rw [c23b0]) | skip)
         obtain ⟨ji24, hji24⟩ : ∃ j_ : Int, (wrap64 (x4_2 - 1)) = j_ := ⟨_, rfl⟩
         replace H : (if 0 ≤ (ji24) then (if (ji24) < (l0_1.length : Int) then (spec_l26Good.j2 k2 x3_2 x4_2 (decide (((rd_T63 l0_1 (ji24)).f0) > ((rd_T63 l0_1 x4_2).f0))) l0_0 l0_1 ((rd_T63 l0_1 x4_2).f0) ((rd_T63 l0_1 x4_2).f1) ((rd_T63 l0_1 x4_2).f2)) else (none)) else (none)) = some r := by first | (rw [hji24] at H; exact H) | (simp only [hji24] at H ⊢; exact H)
         (try rw [hji24] at A21)
         have hji24w : (IntKind.i64.wrap (x4_2 - 1)) = ji24 := (i64_w _).trans hji24
         obtain ⟨c25, H⟩ := ifY H
         have c25b0 := decide_eq_true c25
         clear c25
         obtain ⟨c26, H⟩ := ifY H
         have c26b0 := decide_eq_true c26
         clear c26
         have H' := Aside0.mk H
         clear H
         try go_wp2
         have n0_ : Aside0 (Kd.R (Kd.int .i64) 3 (((w18.setCell ⟨gb200, 0, none⟩ (.int .i64 ((rd_T63 l0_1 x4_2).f0))).setCell ⟨gb200, 1, none⟩ (.string ((rd_T63 l0_1 x4_2).f1))).setCell ⟨gb200, 2, none⟩ (.slice A199_2 ((rd_T63 l0_1 x4_2).f2).length c199_2)) w.heap.size (fun _ => True) v197 x3_2) := ⟨ZZ53cbe9⟩
         have n1_ : Aside0 ((((w18.setCell ⟨gb200, 0, none⟩ (.int .i64 ((rd_T63 l0_1 x4_2).f0))).setCell ⟨gb200, 1, none⟩ (.string ((rd_T63 l0_1 x4_2).f1))).setCell ⟨gb200, 2, none⟩ (.slice A199_2 ((rd_T63 l0_1 x4_2).f2).length c199_2)).heap[gb194]? = some (.cells #[.slice A0_0 l0_0.length c0_0, .slice (some ad199) l0_1.length c0_1] 31 (0, 0))) := ⟨ZZe5cbb6⟩
         have n2_ : Aside0 ((((w18.setCell ⟨gb200, 0, none⟩ (.int .i64 ((rd_T63 l0_1 x4_2).f0))).setCell ⟨gb200, 1, none⟩ (.string ((rd_T63 l0_1 x4_2).f1))).setCell ⟨gb200, 2, none⟩ (.slice A199_2 ((rd_T63 l0_1 x4_2).f2).length c199_2)).heap[gb200]? = some (.cells #[.int .i64 ((rd_T63 l0_1 x4_2).f0), .string ((rd_T63 l0_1 x4_2).f1), .slice A199_2 ((rd_T63 l0_1 x4_2).f2).length c199_2] 63 (0, 0))) := ⟨ZZ797400⟩
         have n3_ : Aside0 (Below w.heap.size w (((w18.setCell ⟨gb200, 0, none⟩ (.int .i64 ((rd_T63 l0_1 x4_2).f0))).setCell ⟨gb200, 1, none⟩ (.string ((rd_T63 l0_1 x4_2).f1))).setCell ⟨gb200, 2, none⟩ (.slice A199_2 ((rd_T63 l0_1 x4_2).f2).length c199_2))) := ⟨ZZ295621⟩
         (try clear HO_3)
         (try clear BK194)
         (try clear BK200)
         (try clear HB)
         generalize (((w18.setCell ⟨gb200, 0, none⟩ (.int .i64 ((rd_T63 l0_1 x4_2).f0))).setCell ⟨gb200, 1, none⟩ (.string ((rd_T63 l0_1 x4_2).f1))).setCell ⟨gb200, 2, none⟩ (.slice A199_2 ((rd_T63 l0_1 x4_2).f2).length c199_2)) = w27 at n0_ n1_ n2_ n3_ ⊢
         have HO_3 := n0_
         have BK194 := n1_
         have BK200 := n2_
         have HB := n3_
         clear n0_ n1_ n2_ n3_
         replace HO_3 := Aside0.mk (Kd.R_drew HO_3.out)
         replace BK194 := Aside0.mk (blk_drew BK194.out)
         replace BK200 := Aside0.mk (blk_drew BK200.out)
         replace HB := Aside0.mk (below_drew1 HB.out)
         have p202 : 0 ≤ ((ji24) : Int) := of_decide_eq_true ZZ853400
         have q202 : (ji24) < (l0_1.length : Int) := of_decide_eq_true ZZ853400
         obtain ⟨ad202, A202_2, c202_2, e202, hx202_0, hx202_1, hx202_2, hl202_2, hi202_2⟩ := at_T63 HR0_1.out (ji24) p202 q202
         have hw202_2 := hx202_2
         have hw202_1 := hx202_1
         have hw202_0 := hx202_0
         obtain rfl : ad199 = ad202 := (by injection e202)
         replace hx202_0 := (HB.out.cell (World.block_lt_of_cell? w _ hx202_0)).trans hx202_0
         replace hx202_1 := (HB.out.cell (World.block_lt_of_cell? w _ hx202_1)).trans hx202_1
         replace hx202_2 := (HB.out.cell (World.block_lt_of_cell? w _ hx202_2)).trans hx202_2
         have HR202_2 := Aside0.mk hi202_2
         have HC202_2 := Aside0.mk hl202_2
         clear hi202_2 hl202_2
         replace p202 := eq_true p202
         replace q202 := eq_true q202
         refine start_ (n := 22) (S := fun w' => w'.cell? ⟨gb200, 0, none⟩ = some (.int .i64 ((rd_T63 l0_1 x4_2).f0)) ∧ w'.cell? ⟨gb200, 1, none⟩ = some (.string ((rd_T63 l0_1 x4_2).f1)) ∧ w'.cell? ⟨gb200, 2, none⟩ = some (.slice A199_2 ((rd_T63 l0_1 x4_2).f2).length c199_2) ∧ w'.cell? ⟨gb194, 0, none⟩ = some (.slice A0_0 l0_0.length c0_0) ∧ w'.cell? ⟨gb194, 1, none⟩ = some (.slice (some ad199) l0_1.length c0_1) ∧ w'.cell? (ad199.add (((ji24)).toNat * 3)) = some (.int .i64 ((rd_T63 l0_1 (ji24)).f0)) ∧ w'.cell? ⟨(ad199.add (((ji24)).toNat * 3)).block, (ad199.add (((ji24)).toNat * 3)).off + 1, none⟩ = some (.string ((rd_T63 l0_1 (ji24)).f1)) ∧ w'.cell? ⟨(ad199.add (((ji24)).toNat * 3)).block, (ad199.add (((ji24)).toNat * 3)).off + 2, none⟩ = some (.slice A202_2 ((rd_T63 l0_1 (ji24)).f2).length c202_2)) (ds := []) #[false, false, false, false, false, false, false, false, false, false, false, false, false, false, false, false, false, false, false, false, false, false] (by kernel_rfl) rfl rfl ⟨(blk_cell BK200.out 0).trans rfl, (blk_cell BK200.out 1).trans rfl, (blk_cell BK200.out 2).trans rfl, (blk_cell BK194.out 0).trans rfl, (blk_cell BK194.out 1).trans rfl, ((HB.out.cell (World.block_lt_of_cell? w _ hw202_0)).trans hw202_0), ((HB.out.cell (World.block_lt_of_cell? w _ hw202_1)).trans hw202_1), ((HB.out.cell (World.block_lt_of_cell? w _ hw202_2)).trans hw202_2)⟩ (fun hHeld => ?_); refine with_tabW spec_l26Good.tab8 spec_l26Good.bits8 (fun HT_ HW_ => ?_)
         generalize w27.drew = w28 at HO_3 BK194 BK200 HB HR202_2 hx202_0 hx202_1 hx202_2 hHeld ⊢
         refine pu 1 35 ?_
         refine tk 0 34 ?_
         refine tk 2 36 ?_
         refine pu 3 37 ?_
         refine one_ (i := 4) (N := some 38) #[true, true, true, true, true, false, false, false, false, false, false, false, false, false, false, false, false, false, false, false, false, false] rfl rfl (one_of HT_.out (by kernel_rfl)) (by decide) (fun K hK => ?_)
         refine goes_ Tryd.func102 (by kernel_rfl) rfl #[.agg #[.int .i64 ((rd_T63 l0_1 x4_2).f0), .string ((rd_T63 l0_1 x4_2).f1), .slice A199_2 ((rd_T63 l0_1 x4_2).f2).length c199_2], .int .i64 (l0_0.length : Int)] (by rfl) rfl rfl ZZ19826e ?_
         with_reducible refine (spec_l26Entry.calls k2 ((rd_T63 l0_1 x4_2).f0) ((rd_T63 l0_1 x4_2).f1) _ _ ((rd_T63 l0_1 x4_2).f2) (l0_0.length : Int) true _ ?side1 ?side2 A21.out).mono ?_
         (case side1 => exact (by repeat (first | exact (Kd.C_below HR199_2.out HB.out) | (with_reducible refine Kd.C_alloc ?_ _) | (with_reducible refine Kd.C_drewN ?_ _) | (with_reducible refine Kd.C_drew ?_))))
         (case side2 => exact HC199_2.out)
         rintro e w29 ⟨rfl, hb⟩
         refine ⟨_, rfl, ?_⟩
         replace HO_3 := Aside0.mk (Kd.R_below (zR HO_3) hb)
         replace BK194 := Aside0.mk (blk_below (zB BK194) hb)
         replace BK200 := Aside0.mk (blk_below (zB BK200) hb)
         replace HB := Aside0.mk (below_step ZZ295621 hb)
         (try clear hb)
         (try clear hb2)
         (try clear hk)
         (try clear hi)
         refine hK.out _ _ ⟨(blk_cell BK200.out 0).trans rfl, (blk_cell BK200.out 1).trans rfl, (blk_cell BK200.out 2).trans rfl, (blk_cell BK194.out 0).trans rfl, (blk_cell BK194.out 1).trans rfl, ((HB.out.cell (World.block_lt_of_cell? w _ hw202_0)).trans hw202_0), ((HB.out.cell (World.block_lt_of_cell? w _ hw202_1)).trans hw202_1), ((HB.out.cell (World.block_lt_of_cell? w _ hw202_2)).trans hw202_2)⟩ (fun hHeld => ?_)
         clear hK K
         refine norm_ (a' := ?_) ?_ ?_
         rotate_left
         ·show Act.put _ (some 38) _ = _
          simp only [Act.put, List.setIfInBounds_toArray, List.set_cons_zero, List.set_cons_succ, i64_w, i32_w]
          rfl
         refine pu 5 39 ?_
         refine pu 6 40 ?_
         refine pu 7 41 ?_
         refine pu 8 42 ?_
         refine pu 9 43 ?_
         refine pu 10 44 ?_
         refine pu 12 46 ?_
         refine pu 13 47 ?_
         refine pu 17 51 ?_
         refine tk 11 45 ?_
         refine pu 14 48 ?_
         refine pu 15 49 ?_
         refine tk 16 50 ?_
         refine tk 18 52 ?_
         refine pu 19 53 ?_
         refine pu 20 54 ?_
         refine pu 21 55 ?_
         refine done_ (done_of HT_.out (by kernel_rfl)) ?_
         try go_wp2
         go_meet
         case rel => exact ⟨_, (decide (((rd_T63 l0_1 (ji24)).f0) > ((rd_T63 l0_1 x4_2).f0))), (by first | rfl | (simp; done) | (simp only [← hji24] <;> (first | rfl | simp)) | (simp [*]; done)), H', ⟨(by have := HJ1.out; have := HK2.out; first | omega | exact Nat.le_refl _)⟩, ⟨(zR HO_3)⟩, ⟨(zB BK194)⟩, ⟨(zB BK200)⟩, ⟨ZZ295621⟩⟩
        rw [if_neg c23] at H
        have c23b0 : decide (0 < x4_2) = false := decide_eq_false c23
        clear c23
        (first | rw [c23b0] | (simp only [i64_w, i32_w]; rw [c23b0]) | skip)
        have H' := Aside0.mk H
        clear H
        try go_wp2
        have n0_ : Aside0 (Kd.R (Kd.int .i64) 3 (((w18.setCell ⟨gb200, 0, none⟩ (.int .i64 ((rd_T63 l0_1 x4_2).f0))).setCell ⟨gb200, 1, none⟩ (.string ((rd_T63 l0_1 x4_2).f1))).setCell ⟨gb200, 2, none⟩ (.slice A199_2 ((rd_T63 l0_1 x4_2).f2).length c199_2)) w.heap.size (fun _ => True) v197 x3_2) := ⟨ZZ53cbe9⟩
        have n1_ : Aside0 ((((w18.setCell ⟨gb200, 0, none⟩ (.int .i64 ((rd_T63 l0_1 x4_2).f0))).setCell ⟨gb200, 1, none⟩ (.string ((rd_T63 l0_1 x4_2).f1))).setCell ⟨gb200, 2, none⟩ (.slice A199_2 ((rd_T63 l0_1 x4_2).f2).length c199_2)).heap[gb194]? = some (.cells #[.slice A0_0 l0_0.length c0_0, .slice (some ad199) l0_1.length c0_1] 31 (0, 0))) := ⟨ZZe5cbb6⟩
        have n2_ : Aside0 ((((w18.setCell ⟨gb200, 0, none⟩ (.int .i64 ((rd_T63 l0_1 x4_2).f0))).setCell ⟨gb200, 1, none⟩ (.string ((rd_T63 l0_1 x4_2).f1))).setCell ⟨gb200, 2, none⟩ (.slice A199_2 ((rd_T63 l0_1 x4_2).f2).length c199_2)).heap[gb200]? = some (.cells #[.int .i64 ((rd_T63 l0_1 x4_2).f0), .string ((rd_T63 l0_1 x4_2).f1), .slice A199_2 ((rd_T63 l0_1 x4_2).f2).length c199_2] 63 (0, 0))) := ⟨ZZ797400⟩
        have n3_ : Aside0 (Below w.heap.size w (((w18.setCell ⟨gb200, 0, none⟩ (.int .i64 ((rd_T63 l0_1 x4_2).f0))).setCell ⟨gb200, 1, none⟩ (.string ((rd_T63 l0_1 x4_2).f1))).setCell ⟨gb200, 2, none⟩ (.slice A199_2 ((rd_T63 l0_1 x4_2).f2).length c199_2))) := ⟨ZZ295621⟩
        (try clear HO_3)
        (try clear BK194)
        (try clear BK200)
        (try clear HB)
        generalize (((w18.setCell ⟨gb200, 0, none⟩ (.int .i64 ((rd_T63 l0_1 x4_2).f0))).setCell ⟨gb200, 1, none⟩ (.string ((rd_T63 l0_1 x4_2).f1))).setCell ⟨gb200, 2, none⟩ (.slice A199_2 ((rd_T63 l0_1 x4_2).f2).length c199_2)) = w30 at n0_ n1_ n2_ n3_ ⊢
        have HO_3 := n0_
        have BK194 := n1_
        have BK200 := n2_
        have HB := n3_
        clear n0_ n1_ n2_ n3_
        replace HO_3 := Aside0.mk (Kd.R_drew HO_3.out)
        replace BK194 := Aside0.mk (blk_drew BK194.out)
        replace BK200 := Aside0.mk (blk_drew BK200.out)
        replace HB := Aside0.mk (below_drew1 HB.out)
        refine start_ (n := 22) (S := fun w' => w'.cell? ⟨gb200, 0, none⟩ = some (.int .i64 ((rd_T63 l0_1 x4_2).f0)) ∧ w'.cell? ⟨gb200, 1, none⟩ = some (.string ((rd_T63 l0_1 x4_2).f1)) ∧ w'.cell? ⟨gb200, 2, none⟩ = some (.slice A199_2 ((rd_T63 l0_1 x4_2).f2).length c199_2) ∧ w'.cell? ⟨gb194, 0, none⟩ = some (.slice A0_0 l0_0.length c0_0) ∧ w'.cell? ⟨gb194, 1, none⟩ = some (.slice (some ad199) l0_1.length c0_1)) (ds := []) #[false, false, false, false, false, false, false, false, false, false, false, false, false, false, false, false, false, false, false, false, false, false] (by kernel_rfl) rfl rfl ⟨(blk_cell BK200.out 0).trans rfl, (blk_cell BK200.out 1).trans rfl, (blk_cell BK200.out 2).trans rfl, (blk_cell BK194.out 0).trans rfl, (blk_cell BK194.out 1).trans rfl⟩ (fun hHeld => ?_); refine with_tabW spec_l26Good.tab8 spec_l26Good.bits8 (fun HT_ HW_ => ?_)
        generalize w30.drew = w31 at HO_3 BK194 BK200 HB hHeld ⊢
        refine pu 1 35 ?_
        refine tk 0 34 ?_
        refine tk 2 36 ?_
        refine pu 3 37 ?_
        refine one_ (i := 4) (N := some 38) #[true, true, true, true, true, false, false, false, false, false, false, false, false, false, false, false, false, false, false, false, false, false] rfl rfl (one_of HT_.out (by kernel_rfl)) (by decide) (fun K hK => ?_)
        refine goes_ Tryd.func102 (by kernel_rfl) rfl #[.agg #[.int .i64 ((rd_T63 l0_1 x4_2).f0), .string ((rd_T63 l0_1 x4_2).f1), .slice A199_2 ((rd_T63 l0_1 x4_2).f2).length c199_2], .int .i64 (l0_0.length : Int)] (by rfl) rfl rfl ZZ19826e ?_
        with_reducible refine (spec_l26Entry.calls k2 ((rd_T63 l0_1 x4_2).f0) ((rd_T63 l0_1 x4_2).f1) _ _ ((rd_T63 l0_1 x4_2).f2) (l0_0.length : Int) true _ ?side1 ?side2 A21.out).mono ?_
        (case side1 => exact (by repeat (first | exact (Kd.C_below HR199_2.out HB.out) | (with_reducible refine Kd.C_alloc ?_ _) | (with_reducible refine Kd.C_drewN ?_ _) | (with_reducible refine Kd.C_drew ?_))))
        (case side2 => exact HC199_2.out)
        rintro e w32 ⟨rfl, hb⟩
        refine ⟨_, rfl, ?_⟩
        replace HO_3 := Aside0.mk (Kd.R_below (zR HO_3) hb)
        replace BK194 := Aside0.mk (blk_below (zB BK194) hb)
        replace BK200 := Aside0.mk (blk_below (zB BK200) hb)
        replace HB := Aside0.mk (below_step ZZ295621 hb)
        (try clear hb)
        (try clear hb2)
        (try clear hk)
        (try clear hi)
        refine hK.out _ _ ⟨(blk_cell BK200.out 0).trans rfl, (blk_cell BK200.out 1).trans rfl, (blk_cell BK200.out 2).trans rfl, (blk_cell BK194.out 0).trans rfl, (blk_cell BK194.out 1).trans rfl⟩ (fun hHeld => ?_)
        clear hK K
        refine norm_ (a' := ?_) ?_ ?_
        rotate_left
        ·show Act.put _ (some 38) _ = _
         simp only [Act.put, List.setIfInBounds_toArray, List.set_cons_zero, List.set_cons_succ, i64_w, i32_w]
         rfl
        refine pu 5 39 ?_
        refine pu 6 40 ?_
        refine pu 7 41 ?_
        refine pu 8 42 ?_
        refine pu 9 43 ?_
        refine pn 10 44 ?_
        refine pn 11 45 ?_
        refine pn 12 46 ?_
        refine pn 13 47 ?_
        refine pn 14 48 ?_
        refine pn 15 49 ?_
        refine pn 16 50 ?_
        refine pn 17 51 ?_
        refine pn 18 52 ?_
        refine pn 19 53 ?_
        refine pu 20 54 ?_
        refine pu 21 55 ?_
        refine done_ (done_of HT_.out (by kernel_rfl)) ?_
        try go_wp2
        go_meet
        case rel => exact ⟨_, (false), ZZ0ab324, H', ⟨(by have := HJ1.out; have := HK2.out; first | omega | exact Nat.le_refl _)⟩, ⟨(zR HO_3)⟩, ⟨(zB BK194)⟩, ⟨(zB BK200)⟩, ⟨ZZ295621⟩⟩
       replace c22 := Bool.eq_false_iff.mpr c22
       subst c22
       have H1 : (spec_l26Good.j2 k2 x3_2 x4_2 true l0_0 l0_1 ((rd_T63 l0_1 x4_2).f0) ((rd_T63 l0_1 x4_2).f1) ((rd_T63 l0_1 x4_2).f2)) = some r := by rw [if_neg (show ¬ (false = true) by decide)] at H; exact H
       clear H
       have H := H1
       clear H1
       have H' := Aside0.mk H
       clear H
       try go_wp2
       have n0_ : Aside0 (Kd.R (Kd.int .i64) 3 (((w18.setCell ⟨gb200, 0, none⟩ (.int .i64 ((rd_T63 l0_1 x4_2).f0))).setCell ⟨gb200, 1, none⟩ (.string ((rd_T63 l0_1 x4_2).f1))).setCell ⟨gb200, 2, none⟩ (.slice A199_2 ((rd_T63 l0_1 x4_2).f2).length c199_2)) w.heap.size (fun _ => True) v197 x3_2) := ⟨ZZ53cbe9⟩
       have n1_ : Aside0 ((((w18.setCell ⟨gb200, 0, none⟩ (.int .i64 ((rd_T63 l0_1 x4_2).f0))).setCell ⟨gb200, 1, none⟩ (.string ((rd_T63 l0_1 x4_2).f1))).setCell ⟨gb200, 2, none⟩ (.slice A199_2 ((rd_T63 l0_1 x4_2).f2).length c199_2)).heap[gb194]? = some (.cells #[.slice A0_0 l0_0.length c0_0, .slice (some ad199) l0_1.length c0_1] 31 (0, 0))) := ⟨ZZe5cbb6⟩
       have n2_ : Aside0 ((((w18.setCell ⟨gb200, 0, none⟩ (.int .i64 ((rd_T63 l0_1 x4_2).f0))).setCell ⟨gb200, 1, none⟩ (.string ((rd_T63 l0_1 x4_2).f1))).setCell ⟨gb200, 2, none⟩ (.slice A199_2 ((rd_T63 l0_1 x4_2).f2).length c199_2)).heap[gb200]? = some (.cells #[.int .i64 ((rd_T63 l0_1 x4_2).f0), .string ((rd_T63 l0_1 x4_2).f1), .slice A199_2 ((rd_T63 l0_1 x4_2).f2).length c199_2] 63 (0, 0))) := ⟨ZZ797400⟩
       have n3_ : Aside0 (Below w.heap.size w (((w18.setCell ⟨gb200, 0, none⟩ (.int .i64 ((rd_T63 l0_1 x4_2).f0))).setCell ⟨gb200, 1, none⟩ (.string ((rd_T63 l0_1 x4_2).f1))).setCell ⟨gb200, 2, none⟩ (.slice A199_2 ((rd_T63 l0_1 x4_2).f2).length c199_2))) := ⟨ZZ295621⟩
       (try clear HO_3)
       (try clear BK194)
       (try clear BK200)
       (try clear HB)
       generalize (((w18.setCell ⟨gb200, 0, none⟩ (.int .i64 ((rd_T63 l0_1 x4_2).f0))).setCell ⟨gb200, 1, none⟩ (.string ((rd_T63 l0_1 x4_2).f1))).setCell ⟨gb200, 2, none⟩ (.slice A199_2 ((rd_T63 l0_1 x4_2).f2).length c199_2)) = w33 at n0_ n1_ n2_ n3_ ⊢
       have HO_3 := n0_
       have BK194 := n1_
       have BK200 := n2_
       have HB := n3_
       clear n0_ n1_ n2_ n3_
       replace HO_3 := Aside0.mk (Kd.R_drew HO_3.out)
       replace BK194 := Aside0.mk (blk_drew BK194.out)
       replace BK200 := Aside0.mk (blk_drew BK200.out)
       replace HB := Aside0.mk (below_drew1 HB.out)
       refine start_ (n := 22) (S := fun w' => w'.cell? ⟨gb200, 0, none⟩ = some (.int .i64 ((rd_T63 l0_1 x4_2).f0)) ∧ w'.cell? ⟨gb200, 1, none⟩ = some (.string ((rd_T63 l0_1 x4_2).f1)) ∧ w'.cell? ⟨gb200, 2, none⟩ = some (.slice A199_2 ((rd_T63 l0_1 x4_2).f2).length c199_2) ∧ w'.cell? ⟨gb194, 0, none⟩ = some (.slice A0_0 l0_0.length c0_0) ∧ w'.cell? ⟨gb194, 1, none⟩ = some (.slice (some ad199) l0_1.length c0_1)) (ds := []) #[false, false, false, false, false, false, false, false, false, false, false, false, false, false, false, false, false, false, false, false, false, false] (by kernel_rfl) rfl rfl ⟨(blk_cell BK200.out 0).trans rfl, (blk_cell BK200.out 1).trans rfl, (blk_cell BK200.out 2).trans rfl, (blk_cell BK194.out 0).trans rfl, (blk_cell BK194.out 1).trans rfl⟩ (fun hHeld => ?_); refine with_tabW spec_l26Good.tab8 spec_l26Good.bits8 (fun HT_ HW_ => ?_)
       generalize w33.drew = w34 at HO_3 BK194 BK200 HB hHeld ⊢
       refine pu 1 35 ?_
       refine tk 0 34 ?_
       refine tk 2 36 ?_
       refine pu 3 37 ?_
       refine one_ (i := 4) (N := some 38) #[true, true, true, true, true, false, false, false, false, false, false, false, false, false, false, false, false, false, false, false, false, false] rfl rfl (one_of HT_.out (by kernel_rfl)) (by decide) (fun K hK => ?_)
       refine goes_ Tryd.func102 (by kernel_rfl) rfl #[.agg #[.int .i64 ((rd_T63 l0_1 x4_2).f0), .string ((rd_T63 l0_1 x4_2).f1), .slice A199_2 ((rd_T63 l0_1 x4_2).f2).length c199_2], .int .i64 (l0_0.length : Int)] (by rfl) rfl rfl ZZ19826e ?_
       with_reducible refine (spec_l26Entry.calls k2 ((rd_T63 l0_1 x4_2).f0) ((rd_T63 l0_1 x4_2).f1) _ _ ((rd_T63 l0_1 x4_2).f2) (l0_0.length : Int) false _ ?side1 ?side2 A21.out).mono ?_
       (case side1 => exact (by repeat (first | exact (Kd.C_below HR199_2.out HB.out) | (with_reducible refine Kd.C_alloc ?_ _) | (with_reducible refine Kd.C_drewN ?_ _) | (with_reducible refine Kd.C_drew ?_))))
       (case side2 => exact HC199_2.out)
       rintro e w35 ⟨rfl, hb⟩
       refine ⟨_, rfl, ?_⟩
       replace HO_3 := Aside0.mk (Kd.R_below (zR HO_3) hb)
       replace BK194 := Aside0.mk (blk_below (zB BK194) hb)
       replace BK200 := Aside0.mk (blk_below (zB BK200) hb)
       replace HB := Aside0.mk (below_step ZZ295621 hb)
       (try clear hb)
       (try clear hb2)
       (try clear hk)
       (try clear hi)
       refine hK.out _ _ ⟨(blk_cell BK200.out 0).trans rfl, (blk_cell BK200.out 1).trans rfl, (blk_cell BK200.out 2).trans rfl, (blk_cell BK194.out 0).trans rfl, (blk_cell BK194.out 1).trans rfl⟩ (fun hHeld => ?_)
       clear hK K
       refine norm_ (a' := ?_) ?_ ?_
       rotate_left
       ·show Act.put _ (some 38) _ = _
        simp only [Act.put, List.setIfInBounds_toArray, List.set_cons_zero, List.set_cons_succ, i64_w, i32_w]
        rfl
       refine pu 5 39 ?_
       refine pu 6 40 ?_
       refine pn 7 41 ?_
       refine pn 8 42 ?_
       refine pn 9 43 ?_
       refine pn 10 44 ?_
       refine pn 11 45 ?_
       refine pn 12 46 ?_
       refine pn 13 47 ?_
       refine pn 14 48 ?_
       refine pn 15 49 ?_
       refine pn 16 50 ?_
       refine pn 17 51 ?_
       refine pn 18 52 ?_
       refine pn 19 53 ?_
       refine pn 20 54 ?_
       refine pu 21 55 ?_
       refine done_ (done_of HT_.out (by kernel_rfl)) ?_
       try go_wp2
       go_meet
       case rel => exact ⟨_, (true), ZZ0ab324, H', ⟨(by have := HJ1.out; have := HK2.out; first | omega | exact Nat.le_refl _)⟩, ⟨(zR HO_3)⟩, ⟨(zB BK194)⟩, ⟨(zB BK200)⟩, ⟨ZZ295621⟩⟩
      case rest =>
       clear HC16
       try clear c22
       try clear c23
       try clear c23b0
       try clear c25
       try clear c26
       try clear hx202_0
       try clear hx202_1
       try clear hx202_2
       try clear p202
       try clear q202
       obtain ⟨kq, x55_15, rfl, HA, HJ15, HO_3, BK194, BK200, HB⟩ := hcut
       cases kq with
       | zero => exact absurd HA.out (by simp [spec_l26Good.j2])
       | succ kj15 =>
        have H := HA.out
        clear HA
        simp only [spec_l26Good.j2] at H
        by_cases c36 : x55_15 = true
        ·subst c36
         have H1 : (some false) = some r := by rw [if_pos rfl] at H; exact H
         clear H
         have H := H1
         clear H1
         obtain rfl := Option.some.inj H
         go_wp2
         go_ret
         exact ⟨ZZab01d2, ZZ295621⟩
        replace c36 := Bool.eq_false_iff.mpr c36
        subst c36
        have H1 : (spec_l26Good.l1 kj15 x3_2 x4_2 0 l0_0 l0_1 ((rd_T63 l0_1 x4_2).f0) ((rd_T63 l0_1 x4_2).f1) ((rd_T63 l0_1 x4_2).f2)) = some r := by rw [if_neg (show ¬ (false = true) by decide)] at H; exact H
        clear H
        have H := H1
        clear H1
        have H' := Aside0.mk H
        clear H
        go_wp2
        go_loopg [6] kj15 (fun kq v6 w' => ∃ (x3_4 : List Int) (x6_4 : Int), v6 = .int .i64 x6_4 ∧ Aside0 (spec_l26Good.l1 kq x3_4 x4_2 x6_4 l0_0 l0_1 ((rd_T63 l0_1 x4_2).f0) ((rd_T63 l0_1 x4_2).f1) ((rd_T63 l0_1 x4_2).f2) = some r) ∧ Aside0 (kq ≤ kj15) ∧ Aside0 (Kd.R (Kd.int .i64) 3 w' w.heap.size (fun _ => True) v197 x3_4) ∧ Aside0 (w'.heap[gb194]? = some (.cells #[(.slice A0_0 l0_0.length c0_0), (.slice (some ad199) l0_1.length c0_1)] 31 (0, 0))) ∧ Aside0 (w'.heap[gb200]? = some (.cells #[.int .i64 ((rd_T63 l0_1 x4_2).f0), .string ((rd_T63 l0_1 x4_2).f1), (.slice A199_2 ((rd_T63 l0_1 x4_2).f2).length c199_2)] 63 (0, 0))) ∧ Aside0 (Below w.heap.size w w'))
        case atStart => exact ⟨(x3_2), (0), ZZ0ab324, H', ⟨Nat.le_refl _⟩, ⟨(zR HO_3)⟩, ⟨(zB BK194)⟩, ⟨(zB BK200)⟩, ⟨ZZ295621⟩⟩
        case round =>
         clear H'
         try clear c36
         obtain ⟨x3_4, x6_4, rfl, HA, HK4, HO_3, BK194, BK200, HB⟩ := hrel
         cases gk with
         | zero => exact absurd HA.out (by simp [spec_l26Good.l1])
         | succ k4 =>
          have H := HA.out
          clear HA
          simp only [spec_l26Good.l1] at H
          by_cases c37 : x6_4 < (((rd_T63 l0_1 x4_2).f2).length : Int)
          ·rw [if_pos c37] at H
           have c37b0 := decide_eq_true c37
           clear c37
           obtain ⟨c38, H⟩ := ifY H
           have c38b0 := decide_eq_true c38
           clear c38
           obtain ⟨c39, H⟩ := ifY H
           have c39b0 := decide_eq_true c39
           clear c39
           obtain ⟨c40, H⟩ := ifY H
           have c40b0 := decide_eq_true c40
           clear c40
           obtain ⟨y206, hy206⟩ : ∃ y_ : List Int, y_ = (x3_4.set (((rd_T70 ((rd_T63 l0_1 x4_2).f2) x6_4).f0) : Int).toNat (wrap64 ((rd x3_4 ((rd_T70 ((rd_T63 l0_1 x4_2).f2) x6_4).f0)) + ((rd_T70 ((rd_T63 l0_1 x4_2).f2) x6_4).f1)))) := ⟨_, rfl⟩
           replace H : ((spec_l2Amount.f (wrap64 ((rd x3_4 ((rd_T70 ((rd_T63 l0_1 x4_2).f2) x6_4).f0)) + ((rd_T70 ((rd_T63 l0_1 x4_2).f2) x6_4).f1)))).bind fun t208 => (if t208 = true then (spec_l26Good.l1 k4 y206 x4_2 (wrap64 (x6_4 + 1)) l0_0 l0_1 ((rd_T63 l0_1 x4_2).f0) ((rd_T63 l0_1 x4_2).f1) ((rd_T63 l0_1 x4_2).f2)) else (some false))) = some r := by first | (rw [hy206]; with_reducible exact H) | (have H2_ := (Option.bind_some _ _).symm.trans H; rw [hy206]; with_reducible exact H2_) | (have H2_ := (Option.bind_some _ _).symm.trans H; with_reducible exact H2_) | with_reducible exact H | (rw [hy206]; exact H) | exact H
           have Ny206 := Aside0.mk hy206
           clear hy206
           obtain ⟨t208, A43, H⟩ := bdY H
           by_cases c44 : t208 = true
           ·subst c44
            have H1 : (spec_l26Good.l1 k4 y206 x4_2 (wrap64 (x6_4 + 1)) l0_0 l0_1 ((rd_T63 l0_1 x4_2).f0) ((rd_T63 l0_1 x4_2).f1) ((rd_T63 l0_1 x4_2).f2)) = some r := by rw [if_pos rfl] at H; exact H
            clear H
            have H := H1
            clear H1
            have H' := Aside0.mk H
            clear H
            have hnb45 := NB200_194.out
            have hnc45 := NB194_200.out
            have hcz46_0 : wr.cell? ⟨gb200, 0, none⟩ = some (.int .i64 ((rd_T63 l0_1 x4_2).f0)) := (blk_cell BK200.out 0).trans rfl
            have hcz46_1 : wr.cell? ⟨gb200, 1, none⟩ = some (.string ((rd_T63 l0_1 x4_2).f1)) := (blk_cell BK200.out 1).trans rfl
            have hcz46_2 : wr.cell? ⟨gb200, 2, none⟩ = some (.slice A199_2 ((rd_T63 l0_1 x4_2).f2).length c199_2) := (blk_cell BK200.out 2).trans rfl
            have hfz46_0 := blk_frozen BK200.out 0
            have hfz46_1 := blk_frozen BK200.out 1
            have hfz46_2 := blk_frozen BK200.out 2
            have p203 : 0 ≤ (x6_4 : Int) := of_decide_eq_true ZZ853400
            have q203 : x6_4 < (((rd_T63 l0_1 x4_2).f2).length : Int) := of_decide_eq_true ZZ853400
            obtain ⟨ad203, e203, hx203_0, hx203_1⟩ := at_T70 HR199_2.out x6_4 p203 q203
            cases e203
            replace hx203_0 := (HB.out.cell (World.block_lt_of_cell? w _ hx203_0)).trans hx203_0
            replace hx203_1 := (HB.out.cell (World.block_lt_of_cell? w _ hx203_1)).trans hx203_1
            replace p203 := eq_true p203
            replace q203 := eq_true q203
            try go_wp2
            replace HO_3 := Aside0.mk (Kd.R_drew HO_3.out)
            replace BK194 := Aside0.mk (blk_drew BK194.out)
            replace BK200 := Aside0.mk (blk_drew BK200.out)
            replace HB := Aside0.mk (below_drew1 HB.out)
            obtain ⟨Ao48, co48, eo48⟩ := Kd.R_slice HO_3.out
            (first | subst eo48 | (injection eo48 with f1_ f2_ f3_; have f4_ := f1_.symm; have f5_ := f3_.symm; clear f1_ f2_ f3_; subst f4_; subst f5_))
            have p204 : 0 ≤ (((rd_T70 ((rd_T63 l0_1 x4_2).f2) x6_4).f0) : Int) := of_decide_eq_true ZZ853400
            have q204 : ((rd_T70 ((rd_T63 l0_1 x4_2).f2) x6_4).f0) < (x3_4.length : Int) := of_decide_eq_true ZZ853400
            obtain ⟨ad204, e204, hx204_0⟩ := Kd.at_int (Kd.R_reads' HO_3.out).2.2 ((rd_T70 ((rd_T63 l0_1 x4_2).f2) x6_4).f0) p204 q204
            cases e204
            replace p204 := eq_true p204
            replace q204 := eq_true q204
            have p205 : 0 ≤ (x6_4 : Int) := of_decide_eq_true ZZ853400
            have q205 : x6_4 < (((rd_T63 l0_1 x4_2).f2).length : Int) := of_decide_eq_true ZZ853400
            obtain ⟨ad205, e205, hx205_0, hx205_1⟩ := at_T70 HR199_2.out x6_4 p205 q205
            have hw205_1 := hx205_1
            have hw205_0 := hx205_0
            obtain rfl : ad203 = ad205 := (by injection e205)
            replace hx205_0 := (HB.out.cell (World.block_lt_of_cell? w _ hx205_0)).trans hx205_0
            replace hx205_1 := (HB.out.cell (World.block_lt_of_cell? w _ hx205_1)).trans hx205_1
            replace p205 := eq_true p205
            replace q205 := eq_true q205
            have p41 : 0 ≤ (((rd_T70 ((rd_T63 l0_1 x4_2).f2) x6_4).f0) : Int) := of_decide_eq_true ZZ853400
            have q41 : (((rd_T70 ((rd_T63 l0_1 x4_2).f2) x6_4).f0) : Int) < ((x3_4.length : Int) : Int) := of_decide_eq_true ZZ853400
            obtain ⟨go41, co41, eo41, gb41, gl41, cl41, HG41⟩ := Kd.R_form HO_3.out (by omega)
            (first | cases eo41 | (injection eo41 with ea_ en_ ec_; (first | subst ea_ | (injection ea_ with ea_; subst ea_)); subst ec_; clear en_))
            have GB41 := Aside0.mk gb41
            have GG41 := Aside0.mk HG41
            clear gb41 gl41 HG41
            (first | simp only [add_plain] at hx204_0 | skip)
            obtain ⟨hx41_0, hf41_0⟩ := Kd.R_celln 0 HO_3.out (((rd_T70 ((rd_T63 l0_1 x4_2).f2) x6_4).f0) : Int) p41 q41
            replace p41 := eq_true p41
            replace q41 := eq_true q41
            have HP49 := Kd.R_putn HO_3.out (((rd_T70 ((rd_T63 l0_1 x4_2).f2) x6_4).f0) : Int) (wrap64 ((rd x3_4 ((rd_T70 ((rd_T63 l0_1 x4_2).f2) x6_4).f0)) + ((rd_T70 ((rd_T63 l0_1 x4_2).f2) x6_4).f1)))
            rw [← Ny206.out] at HP49
            have HQ49 := Aside0.mk HP49
            clear HP49
            refine start_ (n := 15) (S := fun w' => w'.cell? ⟨gb200, 0, none⟩ = some (.int .i64 ((rd_T63 l0_1 x4_2).f0)) ∧ w'.cell? ⟨gb200, 1, none⟩ = some (.string ((rd_T63 l0_1 x4_2).f1)) ∧ w'.cell? ⟨gb200, 2, none⟩ = some (.slice (some ad203) ((rd_T63 l0_1 x4_2).f2).length c199_2) ∧ w'.cell? ⟨go41, (((rd_T70 ((rd_T63 l0_1 x4_2).f2) x6_4).f0)).toNat, none⟩ = some (.int .i64 (rd x3_4 ((rd_T70 ((rd_T63 l0_1 x4_2).f2) x6_4).f0))) ∧ w'.cell? (ad203.add ((x6_4).toNat * 2)) = some (.int .i64 ((rd_T70 ((rd_T63 l0_1 x4_2).f2) x6_4).f0)) ∧ w'.cell? ⟨(ad203.add ((x6_4).toNat * 2)).block, (ad203.add ((x6_4).toNat * 2)).off + 1, none⟩ = some (.int .i64 ((rd_T70 ((rd_T63 l0_1 x4_2).f2) x6_4).f1))) (ds := [14]) #[false, false, false, false, false, false, false, false, false, false, false, false, false, false, false] (by kernel_rfl) rfl rfl ⟨(blk_cell BK200.out 0).trans rfl, (blk_cell BK200.out 1).trans rfl, (blk_cell BK200.out 2).trans rfl, hx204_0, ((HB.out.cell (World.block_lt_of_cell? w _ hw205_0)).trans hw205_0), ((HB.out.cell (World.block_lt_of_cell? w _ hw205_1)).trans hw205_1)⟩ (fun hHeld => ?_); refine with_tabW spec_l26Good.tab14 spec_l26Good.bits14 (fun HT_ HW_ => ?_)
            generalize wr.drew = w47 at HO_3 BK194 BK200 HB GG41 HQ49 hf41_0 hx204_0 hx205_0 hx205_1 hx41_0 hHeld ⊢
            refine pu 0 69 ?_
            refine pu 1 70 ?_
            refine pu 2 71 ?_
            refine pu 3 72 ?_
            refine pu 4 73 ?_
            refine pu 6 75 ?_
            refine pu 8 77 ?_
            refine tk 5 74 ?_
            refine tk 7 76 ?_
            refine pu 9 78 ?_
            refine pu 10 79 ?_
            refine tk 11 80 ?_
            refine pu 12 81 ?_
            refine pu 13 82 ?_
            refine last_ (i := 14) (N := none) #[true, true, true, true, true, true, true, true, true, true, true, true, true, true, true] rfl rfl (one_of HT_.out (by kernel_rfl)) (by decide) (fun K hK => ?_)
            refine skip_ (w1 := ?_) (by rfl) rfl ?_ ?_
            rotate_left
            ·go_simp
             rfl
            refine hK.out _ _ ?_
            clear hK K
            refine done_ (done_of HT_.out (by kernel_rfl)) ?_
            have p42 : 0 ≤ (((rd_T70 ((rd_T63 l0_1 x4_2).f2) x6_4).f0) : Int) := of_decide_eq_true ZZ853400
            have q42 : (((rd_T70 ((rd_T63 l0_1 x4_2).f2) x6_4).f0) : Int) < ((x3_4.length : Int) : Int) := of_decide_eq_true ZZ853400
            replace p42 := eq_true p42
            replace q42 := eq_true q42
            try go_wp2_with (first | ((with_reducible refine gate_callee (f := 71) rfl ?_); refine goesL_ (some 87) rfl rfl Tryd.func71 (by kernel_rfl) rfl #[.int .i64 (wrap64 ((rd x3_4 ((rd_T70 ((rd_T63 l0_1 x4_2).f2) x6_4).f0)) + ((rd_T70 ((rd_T63 l0_1 x4_2).f2) x6_4).f1)))] rfl ZZ19826e ?_; (with_reducible refine (spec_l2Amount.calls (wrap64 ((rd x3_4 ((rd_T70 ((rd_T63 l0_1 x4_2).f2) x6_4).f0)) + ((rd_T70 ((rd_T63 l0_1 x4_2).f2) x6_4).f1))) true _ A43.out).mono ?_); rintro e w' ⟨rfl, ⟨nd, rfl⟩⟩; refine ⟨_, rfl, ?_⟩))
            go_roundg k4
            case measure => have := HJ1.out; have := HK2.out; have := HJ15.out; have := HK4.out; omega
            case rel => exact ⟨(y206), (wrap64 (x6_4 + 1)), ZZ0ab324, H', ⟨(by have := HJ1.out; have := HK2.out; have := HJ15.out; have := HK4.out; omega)⟩, ⟨(by (with_reducible repeat (first | apply Kd.R_alloc | apply Kd.R_drewN | apply Kd.R_drew)); exact HQ49.out)⟩, ⟨(by (with_reducible repeat (first | refine blk_drewN ?_ _ | refine blk_drew ?_ | refine blk_alloc ?_ _)); refine blk_far ?_ (by have h_ := Kd.R_ne HO_3.out BK194.out (by decide); intro e_; exact h_ (by rw [e_]; rfl)) _; (with_reducible repeat (first | refine blk_drewN ?_ _ | refine blk_drew ?_ | refine blk_alloc ?_ _)); exact BK194.out)⟩, ⟨(by (with_reducible repeat (first | refine blk_drewN ?_ _ | refine blk_drew ?_ | refine blk_alloc ?_ _)); refine blk_far ?_ (by have h_ := Kd.R_ne HO_3.out BK200.out (by decide); intro e_; exact h_ (by rw [e_]; rfl)) _; (with_reducible repeat (first | refine blk_drewN ?_ _ | refine blk_drew ?_ | refine blk_alloc ?_ _)); exact BK200.out)⟩, ⟨(by repeat (first | (with_reducible first | exact HB.out | apply below_alloc | apply pw_below_drewN | apply below_drew1 | refine below_set ?_ GB41.out | refine below_set ?_ GE194.out | refine below_set ?_ GE200.out) | exact HB.out))⟩⟩
           replace c44 := Bool.eq_false_iff.mpr c44
           subst c44
           have H1 : (some false) = some r := by rw [if_neg (show ¬ (false = true) by decide)] at H; exact H
           clear H
           have H := H1
           clear H1
           obtain rfl := Option.some.inj H
           have hnb50 := NB200_194.out
           have hnc50 := NB194_200.out
           have hcz51_0 : wr.cell? ⟨gb200, 0, none⟩ = some (.int .i64 ((rd_T63 l0_1 x4_2).f0)) := (blk_cell BK200.out 0).trans rfl
           have hcz51_1 : wr.cell? ⟨gb200, 1, none⟩ = some (.string ((rd_T63 l0_1 x4_2).f1)) := (blk_cell BK200.out 1).trans rfl
           have hcz51_2 : wr.cell? ⟨gb200, 2, none⟩ = some (.slice A199_2 ((rd_T63 l0_1 x4_2).f2).length c199_2) := (blk_cell BK200.out 2).trans rfl
           have hfz51_0 := blk_frozen BK200.out 0
           have hfz51_1 := blk_frozen BK200.out 1
           have hfz51_2 := blk_frozen BK200.out 2
           have p203 : 0 ≤ (x6_4 : Int) := of_decide_eq_true ZZ853400
           have q203 : x6_4 < (((rd_T63 l0_1 x4_2).f2).length : Int) := of_decide_eq_true ZZ853400
           obtain ⟨ad203, e203, hx203_0, hx203_1⟩ := at_T70 HR199_2.out x6_4 p203 q203
           cases e203
           replace hx203_0 := (HB.out.cell (World.block_lt_of_cell? w _ hx203_0)).trans hx203_0
           replace hx203_1 := (HB.out.cell (World.block_lt_of_cell? w _ hx203_1)).trans hx203_1
           replace p203 := eq_true p203
           replace q203 := eq_true q203
           try go_wp2
           replace HO_3 := Aside0.mk (Kd.R_drew HO_3.out)
           replace BK194 := Aside0.mk (blk_drew BK194.out)
           replace BK200 := Aside0.mk (blk_drew BK200.out)
           replace HB := Aside0.mk (below_drew1 HB.out)
           obtain ⟨Ao53, co53, eo53⟩ := Kd.R_slice HO_3.out
           (first | subst eo53 | (injection eo53 with f1_ f2_ f3_; have f4_ := f1_.symm; have f5_ := f3_.symm; clear f1_ f2_ f3_; subst f4_; subst f5_))
           have p204 : 0 ≤ (((rd_T70 ((rd_T63 l0_1 x4_2).f2) x6_4).f0) : Int) := of_decide_eq_true ZZ853400
           have q204 : ((rd_T70 ((rd_T63 l0_1 x4_2).f2) x6_4).f0) < (x3_4.length : Int) := of_decide_eq_true ZZ853400
           obtain ⟨ad204, e204, hx204_0⟩ := Kd.at_int (Kd.R_reads' HO_3.out).2.2 ((rd_T70 ((rd_T63 l0_1 x4_2).f2) x6_4).f0) p204 q204
           cases e204
           replace p204 := eq_true p204
           replace q204 := eq_true q204
           have p205 : 0 ≤ (x6_4 : Int) := of_decide_eq_true ZZ853400
           have q205 : x6_4 < (((rd_T63 l0_1 x4_2).f2).length : Int) := of_decide_eq_true ZZ853400
           obtain ⟨ad205, e205, hx205_0, hx205_1⟩ := at_T70 HR199_2.out x6_4 p205 q205
           have hw205_1 := hx205_1
           have hw205_0 := hx205_0
           obtain rfl : ad203 = ad205 := (by injection e205)
           replace hx205_0 := (HB.out.cell (World.block_lt_of_cell? w _ hx205_0)).trans hx205_0
           replace hx205_1 := (HB.out.cell (World.block_lt_of_cell? w _ hx205_1)).trans hx205_1
           replace p205 := eq_true p205
           replace q205 := eq_true q205
           have p41 : 0 ≤ (((rd_T70 ((rd_T63 l0_1 x4_2).f2) x6_4).f0) : Int) := of_decide_eq_true ZZ853400
           have q41 : (((rd_T70 ((rd_T63 l0_1 x4_2).f2) x6_4).f0) : Int) < ((x3_4.length : Int) : Int) := of_decide_eq_true ZZ853400
           obtain ⟨go41, co41, eo41, gb41, gl41, cl41, HG41⟩ := Kd.R_form HO_3.out (by omega)
           (first | cases eo41 | (injection eo41 with ea_ en_ ec_; (first | subst ea_ | (injection ea_ with ea_; subst ea_)); subst ec_; clear en_))
           have GB41 := Aside0.mk gb41
           have GG41 := Aside0.mk HG41
           clear gb41 gl41 HG41
           (first | simp only [add_plain] at hx204_0 | skip)
           obtain ⟨hx41_0, hf41_0⟩ := Kd.R_celln 0 HO_3.out (((rd_T70 ((rd_T63 l0_1 x4_2).f2) x6_4).f0) : Int) p41 q41
           replace p41 := eq_true p41
           replace q41 := eq_true q41
           have HP54 := Kd.R_putn HO_3.out (((rd_T70 ((rd_T63 l0_1 x4_2).f2) x6_4).f0) : Int) (wrap64 ((rd x3_4 ((rd_T70 ((rd_T63 l0_1 x4_2).f2) x6_4).f0)) + ((rd_T70 ((rd_T63 l0_1 x4_2).f2) x6_4).f1)))
           rw [← Ny206.out] at HP54
           have HQ54 := Aside0.mk HP54
           clear HP54
           refine start_ (n := 15) (S := fun w' => w'.cell? ⟨gb200, 0, none⟩ = some (.int .i64 ((rd_T63 l0_1 x4_2).f0)) ∧ w'.cell? ⟨gb200, 1, none⟩ = some (.string ((rd_T63 l0_1 x4_2).f1)) ∧ w'.cell? ⟨gb200, 2, none⟩ = some (.slice (some ad203) ((rd_T63 l0_1 x4_2).f2).length c199_2) ∧ w'.cell? ⟨go41, (((rd_T70 ((rd_T63 l0_1 x4_2).f2) x6_4).f0)).toNat, none⟩ = some (.int .i64 (rd x3_4 ((rd_T70 ((rd_T63 l0_1 x4_2).f2) x6_4).f0))) ∧ w'.cell? (ad203.add ((x6_4).toNat * 2)) = some (.int .i64 ((rd_T70 ((rd_T63 l0_1 x4_2).f2) x6_4).f0)) ∧ w'.cell? ⟨(ad203.add ((x6_4).toNat * 2)).block, (ad203.add ((x6_4).toNat * 2)).off + 1, none⟩ = some (.int .i64 ((rd_T70 ((rd_T63 l0_1 x4_2).f2) x6_4).f1))) (ds := [14]) #[false, false, false, false, false, false, false, false, false, false, false, false, false, false, false] (by kernel_rfl) rfl rfl ⟨(blk_cell BK200.out 0).trans rfl, (blk_cell BK200.out 1).trans rfl, (blk_cell BK200.out 2).trans rfl, hx204_0, ((HB.out.cell (World.block_lt_of_cell? w _ hw205_0)).trans hw205_0), ((HB.out.cell (World.block_lt_of_cell? w _ hw205_1)).trans hw205_1)⟩ (fun hHeld => ?_); refine with_tabW spec_l26Good.tab14 spec_l26Good.bits14 (fun HT_ HW_ => ?_)
           generalize wr.drew = w52 at HO_3 BK194 BK200 HB GG41 HQ54 hf41_0 hx204_0 hx205_0 hx205_1 hx41_0 hHeld ⊢
           refine pu 0 69 ?_
           refine pu 1 70 ?_
           refine pu 2 71 ?_
           refine pu 3 72 ?_
           refine pu 4 73 ?_
           refine pu 6 75 ?_
           refine pu 8 77 ?_
           refine tk 5 74 ?_
           refine tk 7 76 ?_
           refine pu 9 78 ?_
           refine pu 10 79 ?_
           refine tk 11 80 ?_
           refine pu 12 81 ?_
           refine pu 13 82 ?_
           refine last_ (i := 14) (N := none) #[true, true, true, true, true, true, true, true, true, true, true, true, true, true, true] rfl rfl (one_of HT_.out (by kernel_rfl)) (by decide) (fun K hK => ?_)
           refine skip_ (w1 := ?_) (by rfl) rfl ?_ ?_
           rotate_left
           ·go_simp
            rfl
           refine hK.out _ _ ?_
           clear hK K
           refine done_ (done_of HT_.out (by kernel_rfl)) ?_
           have p42 : 0 ≤ (((rd_T70 ((rd_T63 l0_1 x4_2).f2) x6_4).f0) : Int) := of_decide_eq_true ZZ853400
           have q42 : (((rd_T70 ((rd_T63 l0_1 x4_2).f2) x6_4).f0) : Int) < ((x3_4.length : Int) : Int) := of_decide_eq_true ZZ853400
           replace p42 := eq_true p42
           replace q42 := eq_true q42
           try go_wp2_with (first | ((with_reducible refine gate_callee (f := 71) rfl ?_); refine goesL_ (some 87) rfl rfl Tryd.func71 (by kernel_rfl) rfl #[.int .i64 (wrap64 ((rd x3_4 ((rd_T70 ((rd_T63 l0_1 x4_2).f2) x6_4).f0)) + ((rd_T70 ((rd_T63 l0_1 x4_2).f2) x6_4).f1)))] rfl ZZ19826e ?_; (with_reducible refine (spec_l2Amount.calls (wrap64 ((rd x3_4 ((rd_T70 ((rd_T63 l0_1 x4_2).f2) x6_4).f0)) + ((rd_T70 ((rd_T63 l0_1 x4_2).f2) x6_4).f1))) false _ A43.out).mono ?_); rintro e w' ⟨rfl, ⟨nd, rfl⟩⟩; refine ⟨_, rfl, ?_⟩))
           go_ret
           exact ⟨ZZab01d2, (by repeat (first | (with_reducible first | exact HB.out | apply below_alloc | apply pw_below_drewN | apply below_drew1 | refine below_set ?_ GB41.out | refine below_set ?_ GE194.out | refine below_set ?_ GE200.out) | exact HB.out))⟩
          rw [if_neg c37] at H
          have c37b0 := decide_eq_false c37
          clear c37
          have H' := Aside0.mk H
          clear H
          have hnb55 := NB200_194.out
          have hnc55 := NB194_200.out
          have hcz56_0 : wr.cell? ⟨gb200, 0, none⟩ = some (.int .i64 ((rd_T63 l0_1 x4_2).f0)) := (blk_cell BK200.out 0).trans rfl
          have hcz56_1 : wr.cell? ⟨gb200, 1, none⟩ = some (.string ((rd_T63 l0_1 x4_2).f1)) := (blk_cell BK200.out 1).trans rfl
          have hcz56_2 : wr.cell? ⟨gb200, 2, none⟩ = some (.slice A199_2 ((rd_T63 l0_1 x4_2).f2).length c199_2) := (blk_cell BK200.out 2).trans rfl
          have hfz56_0 := blk_frozen BK200.out 0
          have hfz56_1 := blk_frozen BK200.out 1
          have hfz56_2 := blk_frozen BK200.out 2
          go_wp2
          go_roundg k4
          case measure => have := HJ1.out; have := HK2.out; have := HJ15.out; have := HK4.out; omega
          case rel => exact ⟨(x3_4), (wrap64 (x4_2 + 1)), ZZ0ab324, H', ⟨(by have := HJ1.out; have := HK2.out; have := HJ15.out; have := HK4.out; omega)⟩, ⟨(zR HO_3)⟩, ⟨(zB BK194)⟩, ⟨ZZ295621⟩⟩
     rw [if_neg c14] at H
     have c14b0 := decide_eq_false c14
     clear c14
     obtain rfl := Option.some.inj H
     have hcz57_0 : wr.cell? ⟨gb194, 0, none⟩ = some (.slice A0_0 l0_0.length c0_0) := (blk_cell BK194.out 0).trans rfl
     have hcz57_1 : wr.cell? ⟨gb194, 1, none⟩ = some (.slice A0_1 l0_1.length c0_1) := (blk_cell BK194.out 1).trans rfl
     have hfz57_0 := blk_frozen BK194.out 0
     have hfz57_1 := blk_frozen BK194.out 1
     go_wp2
     go_ret
     exact ⟨ZZab01d2, ZZ295621⟩
end Go.Proofs.YtccdjchaaeligaaDoor.XFnExactAccountStatement

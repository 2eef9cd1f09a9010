-- Printed by wip/tools/xprint.py, a program of this session, over the kit's print; Lean checks it.
import Derived.Test.YtccdjchaaeligaaDoorXFnExactAccountStatement5
import Derived.Test.YtccdjchaaeligaaDoorXFnExactAccountStatement1
import Derived.Test.YtccdjchaaeligaaDoorXFnExactAccountStatement0
import Derived.Test.YtccdjchaaeligaaDoorXFnExactAccountStatement7
import Derived.Test.YtccdjchaaeligaaDoorXFnExactAccountStatement8
import Derived.Test.YtccdjchaaeligaaDoorXFnExactAccountStatement9
namespace Go.Proofs.YtccdjchaaeligaaDoor.XFnExactAccountStatement
open Go.Proofs.YtccdjchaaeligaaDoor.Short Go.RowKit Go.Proofs.YtccdjchaaeligaaDoorW.PrintWords Go.Proofs.YtccdjchaaeligaaDoorW.PrintLast Go.Proofs.YtccdjchaaeligaaDoorW.PrintMore
attribute [local go_sem] max2_int min2_int max_two min_two max_three min_three max_four min_four   -- for this text's walks alone
set_option linter.unusedVariables false
set_option linter.unusedSimpArgs false
theorem ZZ0a258c {p : Prop} (h : p := by (with_reducible repeat (first | refine blk_drewN ?_ _ | refine blk_drew ?_ | refine blk_alloc ?_ _)); refine blk_far ?_ NB245_247.out _; (with_reducible repeat (first | refine blk_drewN ?_ _ | refine blk_drew ?_ | refine blk_alloc ?_ _)); refine blk_far ?_ NB245_247.out _; (with_reducible repeat (first | refine blk_drewN ?_ _ | refine blk_drew ?_ | refine blk_alloc ?_ _)); exact BK245.out) : p := h
theorem ZZfcac98 {p : Prop} (h : p := by (with_reducible repeat (first | refine blk_drewN ?_ _ | refine blk_drew ?_ | refine blk_alloc ?_ _)); refine blk_put (cs := #[.string ((rd_T48 l0_0 x23_2).f0), .int .i64 0]) ?_ 1 _ rfl; (with_reducible repeat (first | refine blk_drewN ?_ _ | refine blk_drew ?_ | refine blk_alloc ?_ _)); refine blk_put (cs := #[.string (⟨#[]⟩ : ByteArray), .int .i64 0]) ?_ 0 _ rfl; (with_reducible repeat (first | refine blk_drewN ?_ _ | refine blk_drew ?_ | refine blk_alloc ?_ _)); exact BK247.out) : p := h
theorem ZZ26f029 {p : Prop} (h : p := by (with_reducible repeat (first | apply Kd.R_alloc | apply Kd.R_drewN | apply Kd.R_drew)); exact Kd.R_mono (Kd.R_far (p := ⟨gb269, 2, none⟩) (Kd.R_far (p := ⟨gb269, 1, none⟩) (Kd.R_far (p := ⟨gb269, 0, none⟩) (Kd.R_types HO_5.out BK269.out (by decide)) (fun _ hk => hk.2) (.int .i64 ((rd_T63 l0_1 x54_3).f0))) (fun _ hk => hk.2) (.string ((rd_T63 l0_1 x54_3).f1))) (fun _ hk => hk.2) (.slice A268_2 ((rd_T63 l0_1 x54_3).f2).length c268_2)) (fun _ hk => trivial)) : p := h
theorem ZZ08a298 {p : Prop} (h : p := by (with_reducible repeat (first | refine blk_drewN ?_ _ | refine blk_drew ?_ | refine blk_alloc ?_ _)); refine blk_far ?_ NB245_269.out _; (with_reducible repeat (first | refine blk_drewN ?_ _ | refine blk_drew ?_ | refine blk_alloc ?_ _)); refine blk_far ?_ NB245_269.out _; (with_reducible repeat (first | refine blk_drewN ?_ _ | refine blk_drew ?_ | refine blk_alloc ?_ _)); refine blk_far ?_ NB245_269.out _; (with_reducible repeat (first | refine blk_drewN ?_ _ | refine blk_drew ?_ | refine blk_alloc ?_ _)); exact BK245.out) : p := h
theorem ZZ582304 {p : Prop} (h : p := by (with_reducible repeat (first | refine blk_drewN ?_ _ | refine blk_drew ?_ | refine blk_alloc ?_ _)); refine blk_put (cs := #[.int .i64 ((rd_T63 l0_1 x54_3).f0), .string ((rd_T63 l0_1 x54_3).f1), .slice none 0 0]) ?_ 2 _ rfl; (with_reducible repeat (first | refine blk_drewN ?_ _ | refine blk_drew ?_ | refine blk_alloc ?_ _)); refine blk_put (cs := #[.int .i64 ((rd_T63 l0_1 x54_3).f0), .string (⟨#[]⟩ : ByteArray), .slice none 0 0]) ?_ 1 _ rfl; (with_reducible repeat (first | refine blk_drewN ?_ _ | refine blk_drew ?_ | refine blk_alloc ?_ _)); refine blk_put (cs := #[.int .i64 0, .string (⟨#[]⟩ : ByteArray), .slice none 0 0]) ?_ 0 _ rfl; (with_reducible repeat (first | refine blk_drewN ?_ _ | refine blk_drew ?_ | refine blk_alloc ?_ _)); exact BK269.out) : p := h
/-! ### impl_IsValidLedger: function 17 -/
mutual
def impl_IsValidLedger.j0 : Nat → Bool → List (S48) → List (S63) → Option (Bool)
 | 0, _, _, _ => none
 | k + 1, x19, x246000, x246001 => if x19 = true then (some false) else (impl_IsValidLedger.l0 k x246000 (x246000.length : Int) 0 x246000 x246001)
def impl_IsValidLedger.l0 : Nat → List (S48) → Int → Int → List (S48) → List (S63) → Option (Bool)
 | 0, _, _, _, _, _ => none
 | k + 1, x21, x22, x23, x246000, x246001 => if x23 < x22 then (if 0 ≤ x23 then (if x23 < (x21.length : Int) then ((impl_isAccountName.f ((rd_T48 x21 x23).f0)).bind fun t248 => (if t248 = true then ((impl_within.f ((rd_T48 x21 x23).f1) 1 5).bind fun t249 => (if t249 = true then (if x23 ≤ (x246000.length : Int) then ((slices_ContainsFunc_Account_Account_impl_IsValidLedger_1.f k (x246000.take (x23 : Int).toNat) ((rd_T48 x21 x23).f0) ((rd_T48 x21 x23).f1)).bind fun bt262 => (impl_IsValidLedger.j2 k x21 x22 x23 bt262.1 x246000 x246001)) else (none)) else (impl_IsValidLedger.j2 k x21 x22 x23 true x246000 x246001))) else (impl_IsValidLedger.j2 k x21 x22 x23 true x246000 x246001))) else (none)) else (none)) else (if 0 ≤ (x246000.length : Int) then (if ((x246000.length : Int) : Int).toNat ≤ 35184372088832 then (impl_IsValidLedger.l1 k (List.replicate ((x246000.length : Int) : Int).toNat 0) x246001 (x246001.length : Int) 0 x246000 x246001) else (none)) else (none))
def impl_IsValidLedger.j2 : Nat → List (S48) → Int → Int → Bool → List (S48) → List (S63) → Option (Bool)
 | 0, _, _, _, _, _, _ => none
 | k + 1, x21, x22, x23, x45, x246000, x246001 => if x45 = true then (some false) else (impl_IsValidLedger.l0 k x21 x22 (wrap64 (x23 + 1)) x246000 x246001)
def impl_IsValidLedger.l1 : Nat → List Int → List (S63) → Int → Int → List (S48) → List (S63) → Option (Bool)
 | 0, _, _, _, _, _, _ => none
 | k + 1, x5, x52, x53, x54, x246000, x246001 => if x54 < x53 then (if 0 ≤ x54 then (if x54 < (x52.length : Int) then ((impl_isDay.f ((rd_T63 x52 x54).f0)).bind fun t270 => (if t270 = true then (if x54 > 0 then (if 0 ≤ (wrap64 (x54 - 1)) then (if (wrap64 (x54 - 1)) < (x246001.length : Int) then (if ((rd_T63 x52 x54).f0) < ((rd_T63 x246001 (wrap64 (x54 - 1))).f0) then (impl_IsValidLedger.j4 k x5 x52 x53 x54 true x246000 x246001 ((rd_T63 x52 x54).f0) ((rd_T63 x52 x54).f1) ((rd_T63 x52 x54).f2)) else ((impl_isMemo.f k ((rd_T63 x52 x54).f1)).bind fun t272 => (if t272 = true then ((impl_isPosted.f k ((rd_T63 x52 x54).f0) ((rd_T63 x52 x54).f1) ((rd_T63 x52 x54).f2) (x246000.length : Int)).bind fun t273 => (impl_IsValidLedger.j4 k x5 x52 x53 x54 (!t273) x246000 x246001 ((rd_T63 x52 x54).f0) ((rd_T63 x52 x54).f1) ((rd_T63 x52 x54).f2))) else (impl_IsValidLedger.j4 k x5 x52 x53 x54 true x246000 x246001 ((rd_T63 x52 x54).f0) ((rd_T63 x52 x54).f1) ((rd_T63 x52 x54).f2))))) else (none)) else (none)) else ((impl_isMemo.f k ((rd_T63 x52 x54).f1)).bind fun t274 => (if t274 = true then ((impl_isPosted.f k ((rd_T63 x52 x54).f0) ((rd_T63 x52 x54).f1) ((rd_T63 x52 x54).f2) (x246000.length : Int)).bind fun t275 => (impl_IsValidLedger.j4 k x5 x52 x53 x54 (!t275) x246000 x246001 ((rd_T63 x52 x54).f0) ((rd_T63 x52 x54).f1) ((rd_T63 x52 x54).f2))) else (impl_IsValidLedger.j4 k x5 x52 x53 x54 true x246000 x246001 ((rd_T63 x52 x54).f0) ((rd_T63 x52 x54).f1) ((rd_T63 x52 x54).f2))))) else (impl_IsValidLedger.j4 k x5 x52 x53 x54 true x246000 x246001 ((rd_T63 x52 x54).f0) ((rd_T63 x52 x54).f1) ((rd_T63 x52 x54).f2)))) else (none)) else (none)) else (some true)
def impl_IsValidLedger.j4 : Nat → List Int → List (S63) → Int → Int → Bool → List (S48) → List (S63) → Int → ByteArray → List (S70) → Option (Bool)
 | 0, _, _, _, _, _, _, _, _, _, _ => none
 | k + 1, x5, x52, x53, x54, x92, x246000, x246001, x270000, x270001, x270002 => if x92 = true then (some false) else (impl_IsValidLedger.l2 k x5 x52 x53 x54 x270002 (x270002.length : Int) 0 x246000 x246001)
def impl_IsValidLedger.l2 : Nat → List Int → List (S63) → Int → Int → List (S70) → Int → Int → List (S48) → List (S63) → Option (Bool)
 | 0, _, _, _, _, _, _, _, _, _ => none
 | k + 1, x5, x52, x53, x54, x94, x95, x96, x246000, x246001 => if x96 < x95 then (if 0 ≤ x96 then (if x96 < (x94.length : Int) then (if 0 ≤ ((rd_T70 x94 x96).f0) then (if ((rd_T70 x94 x96).f0) < (x5.length : Int) then ((impl_isAmount.f (wrap64 ((rd x5 ((rd_T70 x94 x96).f0)) + ((rd_T70 x94 x96).f1)))).bind fun t281 => (if t281 = true then (impl_IsValidLedger.l2 k (x5.set (((rd_T70 x94 x96).f0) : Int).toNat (wrap64 ((rd x5 ((rd_T70 x94 x96).f0)) + ((rd_T70 x94 x96).f1)))) x52 x53 x54 x94 x95 (wrap64 (x96 + 1)) x246000 x246001) else (some false))) else (none)) else (none)) else (none)) else (none)) else (impl_IsValidLedger.l1 k x5 x52 x53 (wrap64 (x54 + 1)) x246000 x246001)
end
def impl_IsValidLedger.f (k : Nat) (l0_0 : List (S48)) (l0_1 : List (S63)) : Option (Bool) := if (l0_0.length : Int) > 12 then (impl_IsValidLedger.j0 k true l0_0 l0_1) else (impl_IsValidLedger.j0 k (decide ((l0_1.length : Int) > 40)) l0_0 l0_1)
theorem impl_IsValidLedger.mono_l : ∀ k, (∀ y0 y1 y2, LeO (impl_IsValidLedger.j0 k y0 y1 y2) (impl_IsValidLedger.j0 (k + 1) y0 y1 y2)) ∧ (∀ y0 y1 y2 y3 y4, LeO (impl_IsValidLedger.l0 k y0 y1 y2 y3 y4) (impl_IsValidLedger.l0 (k + 1) y0 y1 y2 y3 y4)) ∧ (∀ y0 y1 y2 y3 y4 y5, LeO (impl_IsValidLedger.j2 k y0 y1 y2 y3 y4 y5) (impl_IsValidLedger.j2 (k + 1) y0 y1 y2 y3 y4 y5)) ∧ (∀ y0 y1 y2 y3 y4 y5, LeO (impl_IsValidLedger.l1 k y0 y1 y2 y3 y4 y5) (impl_IsValidLedger.l1 (k + 1) y0 y1 y2 y3 y4 y5)) ∧ (∀ y0 y1 y2 y3 y4 y5 y6 y7 y8 y9, LeO (impl_IsValidLedger.j4 k y0 y1 y2 y3 y4 y5 y6 y7 y8 y9) (impl_IsValidLedger.j4 (k + 1) y0 y1 y2 y3 y4 y5 y6 y7 y8 y9)) ∧ (∀ y0 y1 y2 y3 y4 y5 y6 y7 y8, LeO (impl_IsValidLedger.l2 k y0 y1 y2 y3 y4 y5 y6 y7 y8) (impl_IsValidLedger.l2 (k + 1) y0 y1 y2 y3 y4 y5 y6 y7 y8))
 | 0 => ⟨fun _ _ _ r h => by simp [impl_IsValidLedger.j0] at h, fun _ _ _ _ _ r h => by simp [impl_IsValidLedger.l0] at h, fun _ _ _ _ _ _ r h => by simp [impl_IsValidLedger.j2] at h, fun _ _ _ _ _ _ r h => by simp [impl_IsValidLedger.l1] at h, fun _ _ _ _ _ _ _ _ _ _ r h => by simp [impl_IsValidLedger.j4] at h, fun _ _ _ _ _ _ _ _ _ r h => by simp [impl_IsValidLedger.l2] at h⟩
 | k + 1 => by
  obtain ⟨ih0, ih1, ih2, ih3, ih4, ih5⟩ := impl_IsValidLedger.mono_l k
  refine ⟨?_, ?_, ?_, ?_, ?_, ?_⟩
  all_goals intros
  all_goals (first | unfold impl_IsValidLedger.j0 | unfold impl_IsValidLedger.l0 | unfold impl_IsValidLedger.j2 | unfold impl_IsValidLedger.l1 | unfold impl_IsValidLedger.j4 | unfold impl_IsValidLedger.l2)
  all_goals
   repeat' first
   | (with_reducible exact ih0 _ _ _)
   | (with_reducible exact ih1 _ _ _ _ _)
   | (with_reducible exact ih2 _ _ _ _ _ _)
   | (with_reducible exact ih3 _ _ _ _ _ _)
   | (with_reducible exact ih4 _ _ _ _ _ _ _ _ _ _)
   | (with_reducible exact ih5 _ _ _ _ _ _ _ _ _)
   | (with_reducible exact impl_isMemo.mono _ _)
   | (with_reducible exact impl_isPosted.mono _ _ _ _ _)
   | (with_reducible exact slices_ContainsFunc_Account_Account_impl_IsValidLedger_1.mono _ _ _ _)
   | (with_reducible exact LeO.refl _)
   | (with_reducible exact LeO.none _)
   | (with_reducible refine LeO.ite ?_ ?_)
   | (with_reducible refine LeO.bind ?_ (fun _ => ?_))
   | exact ih0 _ _ _
   | exact ih1 _ _ _ _ _
   | exact ih2 _ _ _ _ _ _
   | exact ih3 _ _ _ _ _ _
   | exact ih4 _ _ _ _ _ _ _ _ _ _
   | exact ih5 _ _ _ _ _ _ _ _ _
   | exact impl_isMemo.mono _ _
   | exact impl_isPosted.mono _ _ _ _ _
   | exact slices_ContainsFunc_Account_Account_impl_IsValidLedger_1.mono _ _ _ _
   | exact LeO.none _
   | refine LeO.ite ?_ ?_
   | refine LeO.bind ?_ (fun _ => ?_)
theorem impl_IsValidLedger.mono : ∀ a0 a1 k, LeO (impl_IsValidLedger.f k a0 a1) (impl_IsValidLedger.f (k + 1) a0 a1) := by
 intro a0 a1 k
 obtain ⟨ih0, ih1, ih2, ih3, ih4, ih5⟩ := impl_IsValidLedger.mono_l k
 unfold impl_IsValidLedger.f
 repeat' first
  | (with_reducible exact ih0 _ _ _)
  | (with_reducible exact ih1 _ _ _ _ _)
  | (with_reducible exact ih2 _ _ _ _ _ _)
  | (with_reducible exact ih3 _ _ _ _ _ _)
  | (with_reducible exact ih4 _ _ _ _ _ _ _ _ _ _)
  | (with_reducible exact ih5 _ _ _ _ _ _ _ _ _)
  | (with_reducible exact impl_isMemo.mono _ _)
  | (with_reducible exact impl_isPosted.mono _ _ _ _ _)
  | (with_reducible exact slices_ContainsFunc_Account_Account_impl_IsValidLedger_1.mono _ _ _ _)
  | (with_reducible exact LeO.refl _)
  | (with_reducible exact LeO.none _)
  | (with_reducible refine LeO.ite ?_ ?_)
  | (with_reducible refine LeO.bind ?_ (fun _ => ?_))
  | exact ih0 _ _ _
  | exact ih1 _ _ _ _ _
  | exact ih2 _ _ _ _ _ _
  | exact ih3 _ _ _ _ _ _
  | exact ih4 _ _ _ _ _ _ _ _ _ _
  | exact ih5 _ _ _ _ _ _ _ _ _
  | exact impl_isMemo.mono _ _
  | exact impl_isPosted.mono _ _ _ _ _
  | exact slices_ContainsFunc_Account_Account_impl_IsValidLedger_1.mono _ _ _ _
  | exact LeO.none _
  | refine LeO.ite ?_ ?_
  | refine LeO.bind ?_ (fun _ => ?_)
def impl_IsValidLedger.T13 : Bool × List (List Nat × List Nat) := (true, [([], []), ([0], [0]), ([1], [1]), ([2], [2]), ([3, 2], [3]), ([4], [4]), ([5, 4], [4, 5]), ([6, 4, 4], [4, 6]), ([7], [7]), ([8, 7], [7, 8]), ([7], [7]), ([10, 7], [7, 10]), ([7], [7]), ([12, 7], [7, 12]), ([11, 13, 7], [7, 11, 13]), ([14, 7], [7, 14]), ([15, 7], [7, 15]), ([9, 16, 7], [7, 9, 16]), ([7, 17, 4], [4, 7, 17]), ([4, 18], [4, 18]), ([19, 7], [19]), ([20], [20]), ([21, 20], [20, 21]), ([22, 20, 20], [20, 22]), ([23, 20], [20, 23]), ([20, 24], [20, 24]), ([25, 23], [25]), ([26], [26]), ([26], [26]), ([28, 26], [26, 28]), ([29, 26], [26, 29]), ([27, 30, 26, 26], [26, 27, 30]), ([31, 26], [26, 31]), ([26, 32], [26, 32])])
def impl_IsValidLedger.B13 : List Nat := [0, 1, 3, 7, 15, 31, 63, 127, 255, 511, 255, 1279, 255, 4351, 15615, 31999, 64767, 131071, 262143, 524287, 1048575, 2097151, 4194303, 8388607, 16777215, 33554431, 67108863, 134217727, 134217727, 402653183, 939524095, 2147483647, 4294967295, 8589934591]
theorem impl_IsValidLedger.tab13 : rtab .any (opsOf Tryd.f17 13) = impl_IsValidLedger.T13 := by kernel_rfl
theorem impl_IsValidLedger.bits13 : waitsOk impl_IsValidLedger.T13.2 impl_IsValidLedger.B13 = true := by kernel_rfl
def impl_IsValidLedger.T18 : Bool × List (List Nat × List Nat) := (true, [([], []), ([], []), ([1], [1]), ([0, 2], [0, 2]), ([3], [3]), ([], []), ([5], [5]), ([4, 6], [4, 6]), ([0, 2, 0, 1, 2, 3, 4, 5, 6, 7], [0, 2]), ([8, 7, 0, 1, 2, 3, 4, 5, 6, 7], [7, 8])])
def impl_IsValidLedger.B18 : List Nat := [0, 0, 2, 7, 15, 0, 32, 127, 255, 511]
theorem impl_IsValidLedger.tab18 : rtab .any (opsOf Tryd.f17 18) = impl_IsValidLedger.T18 := by kernel_rfl
theorem impl_IsValidLedger.bits18 : waitsOk impl_IsValidLedger.T18.2 impl_IsValidLedger.B18 = true := by kernel_rfl
set_option maxHeartbeats 8000000 in
set_option maxRecDepth 100000 in
theorem impl_IsValidLedger.calls (k : Nat) (A0_0 : Option Addr) (c0_0 : Nat) (l0_0 : List (S48)) (A0_1 : Option Addr) (c0_1 : Nat) (l0_1 : List (S63)) (r : Bool) (w : World) (hr0_0 : Kd.C k48 w A0_0 l0_0.length l0_0) (hc0_0 : l0_0.length ≤ c0_0) (hr0_1 : Kd.C k63 w A0_1 l0_1.length l0_1) (hc0_1 : l0_1.length ≤ c0_1) (h : impl_IsValidLedger.f k l0_0 l0_1 = some r) :
 Calls Tryd.prog 17 #[.agg #[.slice A0_0 l0_0.length c0_0, .slice A0_1 l0_1.length c0_1]] w fun e w' => e = .returned (.bool r) ∧ Below w.heap.size w w' := by
 have hu31 := Tryd.underlying31
 have hu48 := Tryd.underlying48
 have hu63 := Tryd.underlying63
 have hu70 := Tryd.underlying70
 have HR0_0 := Aside0.mk hr0_0
 have HC0_0 := Aside0.mk hc0_0
 clear hr0_0 hc0_0
 have HR0_1 := Aside0.mk hr0_1
 have HC0_1 := Aside0.mk hc0_1
 clear hr0_1 hc0_1
 have HB := Aside0.mk (Below.refl w.heap.size w)
 have H := h
 clear h
 unfold impl_IsValidLedger.f at H
 have HC2 := Aside0.mk H
 clear H
 go_enter Tryd.func17, Tryd.ntmps17
 go_upto_region 1 with (first | ((with_reducible refine gate_dst (N := 1) rfl ?_); (try (refine gate_guard (by rfl) ?_; dsimp only)); refine box_event ?hg (N := 1) ?hd (cs := #[.slice A0_0 l0_0.length c0_0, .slice A0_1 l0_1.length c0_1]) (t := 31) ?hr ?_; (case hd => rfl); (case hg => rfl); (case hr => first | (go_simp; done) | (go_simp; rfl)); intro gb245 hg w3 hbox hb; have BK245 := Aside0.mk (hbox); have GW245 := Aside0.mk ((by rw [hg]; exact (below_size ZZ605003) : w.heap.size ≤ gb245)); have GE245 := Aside0.mk ((by rw [hg]; exact (below_size ZZ605003) : w.heap.size ≤ gb245)); replace HB := Aside0.mk (below_step ZZ605003 hb); clear hb hbox hg))
 (try simp only [Act.put, List.setIfInBounds_toArray, List.set_cons_zero, List.set_cons_succ])
 go_cut [19] (fun v19 wc => ∃ (kq : Nat) (x19_1 : Bool), v19 = .bool x19_1 ∧ Aside0 (impl_IsValidLedger.j0 kq x19_1 l0_0 l0_1 = some r) ∧ Aside0 (kq ≤ k) ∧ Aside0 (wc.heap[gb245]? = some (.cells #[(.slice A0_0 l0_0.length c0_0), (.slice A0_1 l0_1.length c0_1)] 31 (0, 0))) ∧ Aside0 (Below w.heap.size w wc))
 case first =>
  have H := HC2.out
  clear HC2
  by_cases c4 : (l0_0.length : Int) > 12
  ·rw [if_pos c4] at H
   have c4b0 : decide (12 < (l0_0.length : Int)) = true := decide_eq_true c4
   have c4b1 : decide (12 < l0_0.length) = true := decide_eq_true (by omega)
   clear c4
   (first | rw [c4b0] | (simp only [i64_w, i32_w]; rw [c4b0]) | skip)
   have H' := Aside0.mk H
   clear H
   have hcz5_0 : w3.cell? ⟨gb245, 0, none⟩ = some (.slice A0_0 l0_0.length c0_0) := (blk_cell BK245.out 0).trans rfl
   have hcz5_1 : w3.cell? ⟨gb245, 1, none⟩ = some (.slice A0_1 l0_1.length c0_1) := (blk_cell BK245.out 1).trans rfl
   have hfz5_0 := blk_frozen BK245.out 0
   have hfz5_1 := blk_frozen BK245.out 1
   go_wp2
   go_meet
   case rel => exact ⟨_, (true), ZZ0ab324, H', ⟨ZZ81c739⟩, ⟨(zB BK245)⟩, ⟨ZZ295621⟩⟩
  rw [if_neg c4] at H
  have c4b0 : decide (12 < (l0_0.length : Int)) = false := decide_eq_false c4
  have c4b1 : decide (12 < l0_0.length) = false := decide_eq_false (by omega)
  clear c4
  (first | rw [c4b0] | (simp only [i64_w, i32_w]; rw [c4b0]) | skip)
  have H' := Aside0.mk H
  clear H
  have hcz6_0 : w3.cell? ⟨gb245, 0, none⟩ = some (.slice A0_0 l0_0.length c0_0) := (blk_cell BK245.out 0).trans rfl
  have hcz6_1 : w3.cell? ⟨gb245, 1, none⟩ = some (.slice A0_1 l0_1.length c0_1) := (blk_cell BK245.out 1).trans rfl
  have hfz6_0 := blk_frozen BK245.out 0
  have hfz6_1 := blk_frozen BK245.out 1
  go_wp2
  go_meet
  case rel => exact ⟨_, (decide ((l0_1.length : Int) > 40)), ZZ0ab324, H', ⟨ZZ81c739⟩, ⟨(zB BK245)⟩, ⟨ZZ295621⟩⟩
 case rest =>
  clear HC2
  try clear c4
  try clear c4b0
  try clear c4b1
  try clear hcz5_0
  try clear hcz5_1
  try clear hcz6_0
  try clear hcz6_1
  try clear hfz5_0
  try clear hfz5_1
  try clear hfz6_0
  try clear hfz6_1
  obtain ⟨kq, x19_1, rfl, HA, HJ1, BK245, HB⟩ := hcut
  cases kq with
  | zero => exact absurd HA.out (by simp [impl_IsValidLedger.j0])
  | succ kj1 =>
   have H := HA.out
   clear HA
   simp only [impl_IsValidLedger.j0] at H
   by_cases c7 : x19_1 = true
   ·subst c7
    have H1 : (some false) = some r := by rw [if_pos rfl] at H; exact H
    clear H
    have H := H1
    clear H1
    obtain rfl := Option.some.inj H
    go_wp2
    go_ret
    exact ⟨ZZab01d2, ZZ295621⟩
   replace c7 := Bool.eq_false_iff.mpr c7
   subst c7
   have H1 : (impl_IsValidLedger.l0 kj1 l0_0 (l0_0.length : Int) 0 l0_0 l0_1) = some r := by rw [if_neg (show ¬ (false = true) by decide)] at H; exact H
   clear H
   have H := H1
   clear H1
   have H' := Aside0.mk H
   clear H
   have hcz8_0 : wc.cell? ⟨gb245, 0, none⟩ = some (.slice A0_0 l0_0.length c0_0) := (blk_cell BK245.out 0).trans rfl
   have hcz8_1 : wc.cell? ⟨gb245, 1, none⟩ = some (.slice A0_1 l0_1.length c0_1) := (blk_cell BK245.out 1).trans rfl
   have hfz8_0 := blk_frozen BK245.out 0
   have hfz8_1 := blk_frozen BK245.out 1
   go_wp2
   go_loopg [23] kj1 (fun kq v23 w' => ∃ (x23_2 : Int), v23 = .int .i64 x23_2 ∧ Aside0 (impl_IsValidLedger.l0 kq l0_0 (l0_0.length : Int) x23_2 l0_0 l0_1 = some r) ∧ Aside0 (kq ≤ kj1) ∧ Aside0 (w'.heap[gb245]? = some (.cells #[(.slice A0_0 l0_0.length c0_0), (.slice A0_1 l0_1.length c0_1)] 31 (0, 0))) ∧ Aside0 (Below w.heap.size w w'))
   case atStart => exact ⟨(0), ZZ0ab324, H', ⟨Nat.le_refl _⟩, ⟨(zB BK245)⟩, ⟨ZZ295621⟩⟩
   case round =>
    clear H'
    try clear c7
    try clear hcz8_0
    try clear hcz8_1
    try clear hfz8_0
    try clear hfz8_1
    obtain ⟨x23_2, rfl, HA, HK2, BK245, HB⟩ := hrel
    cases gk with
    | zero => exact absurd HA.out (by simp [impl_IsValidLedger.l0])
    | succ k2 =>
     have H := HA.out
     clear HA
     simp only [impl_IsValidLedger.l0] at H
     by_cases c9 : x23_2 < (l0_0.length : Int)
     ·rw [if_pos c9] at H
      have c9b0 := decide_eq_true c9
      clear c9
      obtain ⟨c10, H⟩ := ifY H
      have c10b0 := decide_eq_true c10
      clear c10
      obtain ⟨c11, H⟩ := ifY H
      have c11b0 := decide_eq_true c11
      clear c11
      have HC12 := Aside0.mk H
      clear H
      have p246 : 0 ≤ (x23_2 : Int) := of_decide_eq_true ZZ853400
      have q246 : x23_2 < (l0_0.length : Int) := of_decide_eq_true ZZ853400
      obtain ⟨ad246, e246, hx246_0, hx246_1⟩ := at_T48 HR0_0.out x23_2 p246 q246
      cases e246
      replace hx246_0 := (HB.out.cell (World.block_lt_of_cell? w _ hx246_0)).trans hx246_0
      replace hx246_1 := (HB.out.cell (World.block_lt_of_cell? w _ hx246_1)).trans hx246_1
      replace p246 := eq_true p246
      replace q246 := eq_true q246
      go_upto_region 6 with (first | ((with_reducible refine gate_dst (N := 4) rfl ?_); (try (refine gate_guard (by rfl) ?_; dsimp only)); refine box_event ?hg (N := 4) ?hd (cs := #[.string (⟨#[]⟩ : ByteArray), .int .i64 0]) (t := 48) ?hr ?_; (case hd => rfl); (case hg => rfl); (case hr => first | (go_simp; done) | (go_simp; rfl)); intro gb247 hg w13 hbox hb; have BK247 := Aside0.mk (hbox); have GW247 := Aside0.mk ((by rw [hg]; exact (below_size ZZ295621) : w.heap.size ≤ gb247)); have GE247 := Aside0.mk ((by rw [hg]; exact (below_size ZZ295621) : w.heap.size ≤ gb247)); replace HB := Aside0.mk (below_step ZZ295621 hb); have NB245_247 := Aside0.mk ((by rw [hg]; exact Nat.ne_of_lt (blk_lt (zB BK245)) : gb245 ≠ gb247)); have NB247_245 := Aside0.mk ((by rw [hg]; exact Nat.ne_of_gt (blk_lt (zB BK245)) : gb247 ≠ gb245)); replace BK245 := Aside0.mk (blk_below (zB BK245) hb); clear hb hbox hg; have hnb14 := NB247_245.out; have hnc14 := NB245_247.out; have hcz15_0 : w13.cell? ⟨gb247, 0, none⟩ = some (.string (⟨#[]⟩ : ByteArray)) := (blk_cell BK247.out 0).trans rfl; have hcz15_1 : w13.cell? ⟨gb247, 1, none⟩ = some (.int .i64 0) := (blk_cell BK247.out 1).trans rfl; have hfz15_0 := blk_frozen BK247.out 0; have hfz15_1 := blk_frozen BK247.out 1))
      (try simp only [Act.put, List.setIfInBounds_toArray, List.set_cons_zero, List.set_cons_succ])
      go_cut [45] (fun v45 wc => ∃ (kq : Nat) (x45_11 : Bool) (x248000_11 : ByteArray) (x248001_11 : Int), v45 = .bool x45_11 ∧ Aside0 (impl_IsValidLedger.j2 kq l0_0 (l0_0.length : Int) x23_2 x45_11 l0_0 l0_1 = some r) ∧ Aside0 (kq ≤ k2) ∧ Aside0 (wc.heap[gb245]? = some (.cells #[(.slice (some ad246) l0_0.length c0_0), (.slice A0_1 l0_1.length c0_1)] 31 (0, 0))) ∧ Aside0 (wc.heap[gb247]? = some (.cells #[.string x248000_11, .int .i64 x248001_11] 48 (0, 0))) ∧ Aside0 (Below w.heap.size w wc))
      case first =>
       have H := HC12.out
       clear HC12
       obtain ⟨t248, A16, H⟩ := bdY H
       by_cases c17 : t248 = true
       ·subst c17
        have H1 : ((impl_within.f ((rd_T48 l0_0 x23_2).f1) 1 5).bind fun t249 => (if t249 = true then (if x23_2 ≤ (l0_0.length : Int) then ((slices_ContainsFunc_Account_Account_impl_IsValidLedger_1.f k2 (l0_0.take (x23_2 : Int).toNat) ((rd_T48 l0_0 x23_2).f0) ((rd_T48 l0_0 x23_2).f1)).bind fun bt262 => (impl_IsValidLedger.j2 k2 l0_0 (l0_0.length : Int) x23_2 bt262.1 l0_0 l0_1)) else (none)) else (impl_IsValidLedger.j2 k2 l0_0 (l0_0.length : Int) x23_2 true l0_0 l0_1))) = some r := by rw [if_pos rfl] at H; exact H
        clear H
        have H := H1
        clear H1
        obtain ⟨t249, A18, H⟩ := bdY H
        by_cases c19 : t249 = true
        ·subst c19
         have H1 : (if x23_2 ≤ (l0_0.length : Int) then ((slices_ContainsFunc_Account_Account_impl_IsValidLedger_1.f k2 (l0_0.take (x23_2 : Int).toNat) ((rd_T48 l0_0 x23_2).f0) ((rd_T48 l0_0 x23_2).f1)).bind fun bt262 => (impl_IsValidLedger.j2 k2 l0_0 (l0_0.length : Int) x23_2 bt262.1 l0_0 l0_1)) else (none)) = some r := by rw [if_pos rfl] at H; exact H
         clear H
         have H := H1
         clear H1
         have c20b0 := eq_true (of_decide_eq_true ZZ853400 : 0 ≤ x23_2)
         obtain ⟨c21, H⟩ := ifY H
         have c21b0 := eq_true c21
         have c21b1 := decide_eq_true c21
         clear c21
         obtain ⟨y250, hy250⟩ : ∃ y_ : List (S48), y_ = (l0_0.take (x23_2 : Int).toNat) := ⟨_, rfl⟩
         replace H : ((slices_ContainsFunc_Account_Account_impl_IsValidLedger_1.f k2 y250 ((rd_T48 l0_0 x23_2).f0) ((rd_T48 l0_0 x23_2).f1)).bind fun bt262 => (impl_IsValidLedger.j2 k2 l0_0 (l0_0.length : Int) x23_2 bt262.1 l0_0 l0_1)) = some r := by first | (rw [hy250]; with_reducible exact H) | (have H2_ := (Option.bind_some _ _).symm.trans H; rw [hy250]; with_reducible exact H2_) | (have H2_ := (Option.bind_some _ _).symm.trans H; with_reducible exact H2_) | with_reducible exact H | (rw [hy250]; exact H) | exact H
         have Ny250 := Aside0.mk hy250
         clear hy250
         obtain ⟨⟨t262, t263, t264⟩, A22, H⟩ := bdY H
         try dsimp only at H
         have H' := Aside0.mk H
         clear H
         have hnb23 := NB247_245.out
         have hnc23 := NB245_247.out
         have hcz24_0 : w13.cell? ⟨gb247, 0, none⟩ = some (.string (⟨#[]⟩ : ByteArray)) := (blk_cell BK247.out 0).trans rfl
         have hcz24_1 : w13.cell? ⟨gb247, 1, none⟩ = some (.int .i64 0) := (blk_cell BK247.out 1).trans rfl
         have hfz24_0 := blk_frozen BK247.out 0
         have hfz24_1 := blk_frozen BK247.out 1
         go_wp2_with (first | ((with_reducible refine gate_callee (f := 55) rfl ?_); refine goesL_ (some 30) rfl rfl Tryd.func55 (by kernel_rfl) rfl #[.string ((rd_T48 l0_0 x23_2).f0)] rfl ZZ19826e ?_; (with_reducible refine (impl_isAccountName.calls ((rd_T48 l0_0 x23_2).f0) true _ A16.out).mono ?_); rintro e w25 ⟨rfl, hb⟩; refine ⟨_, rfl, ?_⟩; replace BK245 := Aside0.mk (blk_below (g := gb245) (o := .cells #[.slice (some ad246) l0_0.length c0_0, .slice A0_1 l0_1.length c0_1] 31 (0, 0)) ZZ0a258c hb); replace BK247 := Aside0.mk (blk_below (g := gb247) (o := .cells #[.string ((rd_T48 l0_0 x23_2).f0), .int .i64 ((rd_T48 l0_0 x23_2).f1)] 48 (0, 0)) ZZfcac98 hb); replace HB := Aside0.mk (below_step ZZ295621 hb); (try clear hb); (try clear hb2); (try clear hk); (try clear hi); have hcz26_0 : w25.cell? ⟨gb247, 0, none⟩ = some (.string ((rd_T48 l0_0 x23_2).f0)) := (blk_cell BK247.out 0).trans rfl; have hcz26_1 : w25.cell? ⟨gb247, 1, none⟩ = some (.int .i64 ((rd_T48 l0_0 x23_2).f1)) := (blk_cell BK247.out 1).trans rfl; have hfz26_0 := blk_frozen BK247.out 0; have hfz26_1 := blk_frozen BK247.out 1) | (go_at_call 56; (with_reducible refine (impl_within.calls ((rd_T48 l0_0 x23_2).f1) 1 5 true _ A18.out).mono ?_); rintro e w' ⟨rfl, ⟨nd, rfl⟩⟩; have hcz27_0 : w25.cell? ⟨gb245, 0, none⟩ = some (.slice (some ad246) l0_0.length c0_0) := (blk_cell BK245.out 0).trans rfl; have hcz27_1 : w25.cell? ⟨gb245, 1, none⟩ = some (.slice A0_1 l0_1.length c0_1) := (blk_cell BK245.out 1).trans rfl; have hfz27_0 := blk_frozen BK245.out 0; have hfz27_1 := blk_frozen BK245.out 1; have q28 : (x23_2 : Int) ≤ ((l0_0.length : Int) : Int) := of_decide_eq_true ZZ853400; obtain ⟨i028, hi028, _, hsz28, _⟩ := info_parts info48; have hroom28 : l0_0.length ≤ c0_0 := HC0_0.out; have hC28 : Kd.C k48 _ (some ad246) l0_0.length l0_0 := HR0_0.out; have hcut28 := cut_to (P := Tryd.prog) 28 48 .i64 Tryd.underlying28 hi028 (some ad246) l0_0.length c0_0 x23_2 (of_decide_eq_true ZZ853400) q28 hroom28; have hr28 := Kd.C_take (m := (x23_2 : Int).toNat) hC28 (by omega); have hy28 : y250.length = (x23_2 : Int).toNat := (by rw [Ny250.out, List.length_take]; omega); rw [← Ny250.out] at hr28; rw [← hy28] at hcut28; have HR253 := Aside0.mk hr28; have HC253 := Aside0.mk (show y250.length ≤ c0_0 from by omega); clear hr28 hC28 hroom28 hi028 hsz28; have KY28 := Aside0.mk hy28; clear hy28; replace q28 := eq_true q28; have HI247 := Aside0.mk (show IsS48 w _ gb247 ((rd_T48 l0_0 x23_2).f0) ((rd_T48 l0_0 x23_2).f1) from ⟨BK247.out, GE247.out⟩); clear BK247) | (go_at_call 57; (with_reducible refine (slices_ContainsFunc_Account_Account_impl_IsValidLedger_1.calls k2 _ _ y250 gb247 ((rd_T48 l0_0 x23_2).f0) ((rd_T48 l0_0 x23_2).f1) t262 t263 t264 w _ ?side1 ?side2 ?side3 ?side4 A22.out).mono ?_); (case side1 => repeat (first | (with_reducible first | exact HI247.out | apply IsS48.alloc | apply IsS48.drewN | apply IsS48.drew | apply IsS48.set_0 | apply IsS48.set_1 | refine IsS48.far ?_ NB247_245.out _) | exact HI247.out)); (case side2 => repeat (first | (with_reducible first | exact HB.out | apply below_alloc | apply pw_below_drewN | apply below_drew1 | refine below_set ?_ (IsS48.ge HI247.out) | refine below_set ?_ GE245.out) | exact HB.out)); (case side3 => exact Kd.C_foot_came k48_heap HR253.out (by repeat (first | (with_reducible first | exact HB.out | apply below_alloc | apply pw_below_drewN | apply below_drew1 | refine below_set ?_ (IsS48.ge HI247.out) | refine below_set ?_ GE245.out) | exact HB.out)) (IsS48.ge HI247.out)); (case side4 => exact HC253.out); rintro e w29 ⟨rfl, hi, hb, hk⟩; replace BK245 := Aside0.mk (KeepBut.blk hk (g' := gb245) (o := .cells #[.slice (some ad246) l0_0.length c0_0, .slice A0_1 l0_1.length c0_1] 31 (0, 0)) (zB BK245) NB245_247.out (by simp)); replace HB := Aside0.mk (hb); replace HI247 := Aside0.mk (hi); (try clear hb); (try clear hb2); (try clear hk); (try clear hi); obtain ⟨hbx_, _⟩ := HI247.out; have BK247 := Aside0.mk hbx_; clear hbx_ HI247))
         go_meet
         case rel => exact ⟨_, (t262), (t263), (t264), ZZ0ab324, H', ⟨(by have := HJ1.out; have := HK2.out; first | omega | exact Nat.le_refl _)⟩, ⟨(zB BK245)⟩, ⟨(zB BK247)⟩, ⟨ZZ295621⟩⟩
        replace c19 := Bool.eq_false_iff.mpr c19
        subst c19
        have H1 : (impl_IsValidLedger.j2 k2 l0_0 (l0_0.length : Int) x23_2 true l0_0 l0_1) = some r := by rw [if_neg (show ¬ (false = true) by decide)] at H; exact H
        clear H
        have H := H1
        clear H1
        have H' := Aside0.mk H
        clear H
        have hnb30 := NB247_245.out
        have hnc30 := NB245_247.out
        have hcz31_0 : w13.cell? ⟨gb247, 0, none⟩ = some (.string (⟨#[]⟩ : ByteArray)) := (blk_cell BK247.out 0).trans rfl
        have hcz31_1 : w13.cell? ⟨gb247, 1, none⟩ = some (.int .i64 0) := (blk_cell BK247.out 1).trans rfl
        have hfz31_0 := blk_frozen BK247.out 0
        have hfz31_1 := blk_frozen BK247.out 1
        go_wp2_with (first | ((with_reducible refine gate_callee (f := 55) rfl ?_); refine goesL_ (some 30) rfl rfl Tryd.func55 (by kernel_rfl) rfl #[.string ((rd_T48 l0_0 x23_2).f0)] rfl ZZ19826e ?_; (with_reducible refine (impl_isAccountName.calls ((rd_T48 l0_0 x23_2).f0) true _ A16.out).mono ?_); rintro e w32 ⟨rfl, hb⟩; refine ⟨_, rfl, ?_⟩; replace BK245 := Aside0.mk (blk_below (g := gb245) (o := .cells #[.slice (some ad246) l0_0.length c0_0, .slice A0_1 l0_1.length c0_1] 31 (0, 0)) ZZ0a258c hb); replace BK247 := Aside0.mk (blk_below (g := gb247) (o := .cells #[.string ((rd_T48 l0_0 x23_2).f0), .int .i64 ((rd_T48 l0_0 x23_2).f1)] 48 (0, 0)) ZZfcac98 hb); replace HB := Aside0.mk (below_step ZZ295621 hb); (try clear hb); (try clear hb2); (try clear hk); (try clear hi); have hcz33_0 : w32.cell? ⟨gb247, 0, none⟩ = some (.string ((rd_T48 l0_0 x23_2).f0)) := (blk_cell BK247.out 0).trans rfl; have hcz33_1 : w32.cell? ⟨gb247, 1, none⟩ = some (.int .i64 ((rd_T48 l0_0 x23_2).f1)) := (blk_cell BK247.out 1).trans rfl; have hfz33_0 := blk_frozen BK247.out 0; have hfz33_1 := blk_frozen BK247.out 1) | (go_at_call 56; (with_reducible refine (impl_within.calls ((rd_T48 l0_0 x23_2).f1) 1 5 false _ A18.out).mono ?_); rintro e w' ⟨rfl, ⟨nd, rfl⟩⟩))
        go_meet
        case rel => exact ⟨_, (true), ((rd_T48 l0_0 x23_2).f0), ((rd_T48 l0_0 x23_2).f1), ZZ0ab324, H', ⟨(by have := HJ1.out; have := HK2.out; first | omega | exact Nat.le_refl _)⟩, ⟨(zB BK245)⟩, ⟨(zB BK247)⟩, ⟨ZZ295621⟩⟩
       replace c17 := Bool.eq_false_iff.mpr c17
       subst c17
       have H1 : (impl_IsValidLedger.j2 k2 l0_0 (l0_0.length : Int) x23_2 true l0_0 l0_1) = some r := by rw [if_neg (show ¬ (false = true) by decide)] at H; exact H
       clear H
       have H := H1
       clear H1
       have H' := Aside0.mk H
       clear H
       have hnb34 := NB247_245.out
       have hnc34 := NB245_247.out
       have hcz35_0 : w13.cell? ⟨gb247, 0, none⟩ = some (.string (⟨#[]⟩ : ByteArray)) := (blk_cell BK247.out 0).trans rfl
       have hcz35_1 : w13.cell? ⟨gb247, 1, none⟩ = some (.int .i64 0) := (blk_cell BK247.out 1).trans rfl
       have hfz35_0 := blk_frozen BK247.out 0
       have hfz35_1 := blk_frozen BK247.out 1
       go_wp2_with (first | ((with_reducible refine gate_callee (f := 55) rfl ?_); refine goesL_ (some 30) rfl rfl Tryd.func55 (by kernel_rfl) rfl #[.string ((rd_T48 l0_0 x23_2).f0)] rfl ZZ19826e ?_; (with_reducible refine (impl_isAccountName.calls ((rd_T48 l0_0 x23_2).f0) false _ A16.out).mono ?_); rintro e w36 ⟨rfl, hb⟩; refine ⟨_, rfl, ?_⟩; replace BK245 := Aside0.mk (blk_below (g := gb245) (o := .cells #[.slice (some ad246) l0_0.length c0_0, .slice A0_1 l0_1.length c0_1] 31 (0, 0)) ZZ0a258c hb); replace BK247 := Aside0.mk (blk_below (g := gb247) (o := .cells #[.string ((rd_T48 l0_0 x23_2).f0), .int .i64 ((rd_T48 l0_0 x23_2).f1)] 48 (0, 0)) ZZfcac98 hb); replace HB := Aside0.mk (below_step ZZ295621 hb); (try clear hb); (try clear hb2); (try clear hk); (try clear hi)))
       go_meet
       case rel => exact ⟨_, (true), ((rd_T48 l0_0 x23_2).f0), ((rd_T48 l0_0 x23_2).f1), ZZ0ab324, H', ⟨(by have := HJ1.out; have := HK2.out; first | omega | exact Nat.le_refl _)⟩, ⟨(zB BK245)⟩, ⟨(zB BK247)⟩, ⟨ZZ295621⟩⟩
      case rest =>
       clear HC12
       try clear c9b0
       try clear c10b0
       try clear c11b0
       try clear c17
       try clear c19
       try clear c20b0
       try clear c21
       try clear c21b0
       try clear c21b1
       try clear q28
       try clear hcz15_0
       try clear hcz15_1
       try clear hcz24_0
       try clear hcz24_1
       try clear hcz26_0
       try clear hcz26_1
       try clear hcz27_0
       try clear hcz27_1
       try clear hcz31_0
       try clear hcz31_1
       try clear hcz33_0
       try clear hcz33_1
       try clear hcz35_0
       try clear hcz35_1
       try clear hfz15_0
       try clear hfz15_1
       try clear hfz24_0
       try clear hfz24_1
       try clear hfz26_0
       try clear hfz26_1
       try clear hfz27_0
       try clear hfz27_1
       try clear hfz31_0
       try clear hfz31_1
       try clear hfz33_0
       try clear hfz33_1
       try clear hfz35_0
       try clear hfz35_1
       try clear hx246_0
       try clear hx246_1
       try clear p246
       try clear q246
       obtain ⟨kq, x45_11, x248000_11, x248001_11, rfl, HA, HJ11, BK245, BK247, HB⟩ := hcut
       cases kq with
       | zero => exact absurd HA.out (by simp [impl_IsValidLedger.j2])
       | succ kj11 =>
        have H := HA.out
        clear HA
        simp only [impl_IsValidLedger.j2] at H
        by_cases c37 : x45_11 = true
        ·subst c37
         have H1 : (some false) = some r := by rw [if_pos rfl] at H; exact H
         clear H
         have H := H1
         clear H1
         obtain rfl := Option.some.inj H
         go_wp2
         go_ret
         exact ⟨ZZab01d2, ZZ295621⟩
        replace c37 := Bool.eq_false_iff.mpr c37
        subst c37
        have H1 : (impl_IsValidLedger.l0 kj11 l0_0 (l0_0.length : Int) (wrap64 (x23_2 + 1)) l0_0 l0_1) = some r := by rw [if_neg (show ¬ (false = true) by decide)] at H; exact H
        clear H
        have H := H1
        clear H1
        have H' := Aside0.mk H
        clear H
        go_wp2
        go_roundg kj11
        case measure => have := HJ1.out; have := HK2.out; have := HJ11.out; omega
        case rel => exact ⟨(wrap64 (x23_2 + 1)), ZZ0ab324, H', ⟨(by have := HJ1.out; have := HK2.out; have := HJ11.out; omega)⟩, ⟨(zB BK245)⟩, ⟨ZZ295621⟩⟩
     rw [if_neg c9] at H
     have c9b0 := decide_eq_false c9
     clear c9
     obtain ⟨c38, H⟩ := ifY H
     have c38b0 := eq_true c38
     have c38b1 := decide_eq_true c38
     clear c38
     obtain ⟨c39, H⟩ := ifY H
     have c39b0 := eq_true c39
     have c39b1 := decide_eq_true c39
     clear c39
     obtain ⟨y265, hy265⟩ : ∃ y_ : List Int, y_ = (List.replicate ((l0_0.length : Int) : Int).toNat 0) := ⟨_, rfl⟩
     replace H : (impl_IsValidLedger.l1 k2 y265 l0_1 (l0_1.length : Int) 0 l0_0 l0_1) = some r := by first | (rw [hy265]; with_reducible exact H) | (have H2_ := (Option.bind_some _ _).symm.trans H; rw [hy265]; with_reducible exact H2_) | (have H2_ := (Option.bind_some _ _).symm.trans H; with_reducible exact H2_) | with_reducible exact H | (rw [hy265]; exact H) | exact H
     have Ny265 := Aside0.mk hy265
     clear hy265
     have H' := Aside0.mk H
     clear H
     have hcz40_0 : wr.cell? ⟨gb245, 0, none⟩ = some (.slice A0_0 l0_0.length c0_0) := (blk_cell BK245.out 0).trans rfl
     have hcz40_1 : wr.cell? ⟨gb245, 1, none⟩ = some (.slice A0_1 l0_1.length c0_1) := (blk_cell BK245.out 1).trans rfl
     have hfz40_0 := blk_frozen BK245.out 0
     have hfz40_1 := blk_frozen BK245.out 1
     go_wp2_with (first | ((with_reducible refine gate_dst (N := 50) rfl ?_); (try (refine gate_guard (by rfl) ?_; dsimp only)); refine Kd.R_make (Kd.int .i64) _ 3 rfl (N := 50) rfl 44 _ _ rfl (l0_0.length : Int) rfl rfl Tryd.underlying44 (.int .i64 0) 8 info3 rfl (by decide) (by omega) 0 (ok := fun _ => True) (okp := fun _ => True) rfl (fun _ hk => hk) trivial (of_decide_eq_true ZZ853400) (Nat.le_trans (Nat.mul_le_mul_right _ (of_decide_eq_true ZZ853400 : (l0_0.length : Int).toNat ≤ 35184372088832)) (by omega)) (Below.refl _ _) (Nat.le_refl _) ?_; intro v266 w41 ho42 hb hg_ hnew_; clear hg_ hnew_; (first | rw [← Ny265.out] at ho42 | (simp only [Int.reduceToNat] at ho42; rw [← Ny265.out] at ho42)); have HO267 := Aside0.mk (Kd.R_lower ho42 (below_size ZZ295621)); replace BK245 := Aside0.mk (blk_below (zB BK245) hb); replace HB := Aside0.mk (below_step ZZ295621 hb); clear hb ho42; have hcz43_0 : w41.cell? ⟨gb245, 0, none⟩ = some (.slice A0_0 l0_0.length c0_0) := (blk_cell BK245.out 0).trans rfl; have hcz43_1 : w41.cell? ⟨gb245, 1, none⟩ = some (.slice A0_1 l0_1.length c0_1) := (blk_cell BK245.out 1).trans rfl; have hfz43_0 := blk_frozen BK245.out 0; have hfz43_1 := blk_frozen BK245.out 1))
     go_loopg [54] k2 (fun kq v54 w' => ∃ (x5_3 : List Int) (x54_3 : Int), v54 = .int .i64 x54_3 ∧ Aside0 (impl_IsValidLedger.l1 kq x5_3 l0_1 (l0_1.length : Int) x54_3 l0_0 l0_1 = some r) ∧ Aside0 (kq ≤ k2) ∧ Aside0 (Kd.R (Kd.int .i64) 3 w' w.heap.size (fun _ => True) v266 x5_3) ∧ Aside0 (w'.heap[gb245]? = some (.cells #[(.slice A0_0 l0_0.length c0_0), (.slice A0_1 l0_1.length c0_1)] 31 (0, 0))) ∧ Aside0 (Below w.heap.size w w'))
     case atStart => exact ⟨(y265), (0), ZZ0ab324, H', ⟨Nat.le_refl _⟩, ⟨(zR HO267)⟩, ⟨(zB BK245)⟩, ⟨ZZ295621⟩⟩
     case round =>
      clear H'
      try clear c9b0
      try clear c37
      try clear c38b0
      try clear c38b1
      try clear c39b0
      try clear c39b1
      try clear hcz40_0
      try clear hcz40_1
      try clear hcz43_0
      try clear hcz43_1
      try clear hfz40_0
      try clear hfz40_1
      try clear hfz43_0
      try clear hfz43_1
      obtain ⟨x5_3, x54_3, rfl, HA, HK3, HO_5, BK245, HB⟩ := hrel
      cases gk with
      | zero => exact absurd HA.out (by simp [impl_IsValidLedger.l1])
      | succ k3 =>
       have H := HA.out
       clear HA
       simp only [impl_IsValidLedger.l1] at H
       by_cases c44 : x54_3 < (l0_1.length : Int)
       ·rw [if_pos c44] at H
        have c44b0 := decide_eq_true c44
        clear c44
        obtain ⟨c45, H⟩ := ifY H
        have c45b0 := decide_eq_true c45
        clear c45
        obtain ⟨c46, H⟩ := ifY H
        have c46b0 := decide_eq_true c46
        clear c46
        have HC47 := Aside0.mk H
        clear H
        have p268 : 0 ≤ (x54_3 : Int) := of_decide_eq_true ZZ853400
        have q268 : x54_3 < (l0_1.length : Int) := of_decide_eq_true ZZ853400
        obtain ⟨ad268, A268_2, c268_2, e268, hx268_0, hx268_1, hx268_2, hl268_2, hi268_2⟩ := at_T63 HR0_1.out x54_3 p268 q268
        cases e268
        replace hx268_0 := (HB.out.cell (World.block_lt_of_cell? w _ hx268_0)).trans hx268_0
        replace hx268_1 := (HB.out.cell (World.block_lt_of_cell? w _ hx268_1)).trans hx268_1
        replace hx268_2 := (HB.out.cell (World.block_lt_of_cell? w _ hx268_2)).trans hx268_2
        have HR268_2 := Aside0.mk hi268_2
        have HC268_2 := Aside0.mk hl268_2
        clear hi268_2 hl268_2
        replace p268 := eq_true p268
        replace q268 := eq_true q268
        go_upto_region 13 with (first | ((with_reducible refine gate_dst (N := 7) rfl ?_); (try (refine gate_guard (by rfl) ?_; dsimp only)); refine box_event ?hg (N := 7) ?hd (cs := #[.int .i64 0, .string (⟨#[]⟩ : ByteArray), .slice none 0 0]) (t := 63) ?hr ?_; (case hd => rfl); (case hg => rfl); (case hr => first | (go_simp; done) | (go_simp; rfl)); intro gb269 hg w48 hbox hb; replace HO_5 := Aside0.mk (Kd.R_below (zR HO_5) hb); have BK269 := Aside0.mk (hbox); have GW269 := Aside0.mk ((by rw [hg]; exact (below_size ZZ295621) : w.heap.size ≤ gb269)); have GE269 := Aside0.mk ((by rw [hg]; exact (below_size ZZ295621) : w.heap.size ≤ gb269)); replace HB := Aside0.mk (below_step ZZ295621 hb); have NB245_269 := Aside0.mk ((by rw [hg]; exact Nat.ne_of_lt (blk_lt (zB BK245)) : gb245 ≠ gb269)); have NB269_245 := Aside0.mk ((by rw [hg]; exact Nat.ne_of_gt (blk_lt (zB BK245)) : gb269 ≠ gb245)); replace BK245 := Aside0.mk (blk_below (zB BK245) hb); clear hb hbox hg; have hnb49 := NB269_245.out; have hnc49 := NB245_269.out; have hcz50_0 : w48.cell? ⟨gb269, 0, none⟩ = some (.int .i64 0) := (blk_cell BK269.out 0).trans rfl; have hcz50_1 : w48.cell? ⟨gb269, 1, none⟩ = some (.string (⟨#[]⟩ : ByteArray)) := (blk_cell BK269.out 1).trans rfl; have hcz50_2 : w48.cell? ⟨gb269, 2, none⟩ = some (.slice none 0 0) := (blk_cell BK269.out 2).trans rfl; have hfz50_0 := blk_frozen BK269.out 0; have hfz50_1 := blk_frozen BK269.out 1; have hfz50_2 := blk_frozen BK269.out 2))
        (try simp only [Act.put, List.setIfInBounds_toArray, List.set_cons_zero, List.set_cons_succ])
        go_cut [92] (fun v92 wc => ∃ (kq : Nat) (x92_46 : Bool), v92 = .bool x92_46 ∧ Aside0 (impl_IsValidLedger.j4 kq x5_3 l0_1 (l0_1.length : Int) x54_3 x92_46 l0_0 l0_1 ((rd_T63 l0_1 x54_3).f0) ((rd_T63 l0_1 x54_3).f1) ((rd_T63 l0_1 x54_3).f2) = some r) ∧ Aside0 (kq ≤ k3) ∧ Aside0 (Kd.R (Kd.int .i64) 3 wc w.heap.size (fun _ => True) v266 x5_3) ∧ Aside0 (wc.heap[gb245]? = some (.cells #[(.slice A0_0 l0_0.length c0_0), (.slice (some ad268) l0_1.length c0_1)] 31 (0, 0))) ∧ Aside0 (wc.heap[gb269]? = some (.cells #[.int .i64 ((rd_T63 l0_1 x54_3).f0), .string ((rd_T63 l0_1 x54_3).f1), (.slice A268_2 ((rd_T63 l0_1 x54_3).f2).length c268_2)] 63 (0, 0))) ∧ Aside0 (Below w.heap.size w wc))
        case first =>
         have H := HC47.out
         clear HC47
         obtain ⟨t270, A51, H⟩ := bdY H
         by_cases c52 : t270 = true
         ·subst c52
          have H1 : (if x54_3 > 0 then (if 0 ≤ (wrap64 (x54_3 - 1)) then (if (wrap64 (x54_3 - 1)) < (l0_1.length : Int) then (if ((rd_T63 l0_1 x54_3).f0) < ((rd_T63 l0_1 (wrap64 (x54_3 - 1))).f0) then (impl_IsValidLedger.j4 k3 x5_3 l0_1 (l0_1.length : Int) x54_3 true l0_0 l0_1 ((rd_T63 l0_1 x54_3).f0) ((rd_T63 l0_1 x54_3).f1) ((rd_T63 l0_1 x54_3).f2)) else ((impl_isMemo.f k3 ((rd_T63 l0_1 x54_3).f1)).bind fun t272 => (if t272 = true then ((impl_isPosted.f k3 ((rd_T63 l0_1 x54_3).f0) ((rd_T63 l0_1 x54_3).f1) ((rd_T63 l0_1 x54_3).f2) (l0_0.length : Int)).bind fun t273 => (impl_IsValidLedger.j4 k3 x5_3 l0_1 (l0_1.length : Int) x54_3 (!t273) l0_0 l0_1 ((rd_T63 l0_1 x54_3).f0) ((rd_T63 l0_1 x54_3).f1) ((rd_T63 l0_1 x54_3).f2))) else (impl_IsValidLedger.j4 k3 x5_3 l0_1 (l0_1.length : Int) x54_3 true l0_0 l0_1 ((rd_T63 l0_1 x54_3).f0) ((rd_T63 l0_1 x54_3).f1) ((rd_T63 l0_1 x54_3).f2))))) else (none)) else (none)) else ((impl_isMemo.f k3 ((rd_T63 l0_1 x54_3).f1)).bind fun t274 => (if t274 = true then ((impl_isPosted.f k3 ((rd_T63 l0_1 x54_3).f0) ((rd_T63 l0_1 x54_3).f1) ((rd_T63 l0_1 x54_3).f2) (l0_0.length : Int)).bind fun t275 => (impl_IsValidLedger.j4 k3 x5_3 l0_1 (l0_1.length : Int) x54_3 (!t275) l0_0 l0_1 ((rd_T63 l0_1 x54_3).f0) ((rd_T63 l0_1 x54_3).f1) ((rd_T63 l0_1 x54_3).f2))) else (impl_IsValidLedger.j4 k3 x5_3 l0_1 (l0_1.length : Int) x54_3 true l0_0 l0_1 ((rd_T63 l0_1 x54_3).f0) ((rd_T63 l0_1 x54_3).f1) ((rd_T63 l0_1 x54_3).f2))))) = some r := by rw [if_pos rfl] at H; exact H
          clear H
          have H := H1
          clear H1
          by_cases c53 : x54_3 > 0
          ·rw [if_pos c53] at H
           have c53b0 : decide (0 < x54_3) = true := decide_eq_true c53
           clear c53
           (first | rw [c53b0] | (simp only [i64_w, i32_w]; rw [c53b0]) | skip)
           obtain ⟨ji54, hji54⟩ : ∃ j_ : Int, (wrap64 (x54_3 - 1)) = j_ := ⟨_, rfl⟩
           replace H : (if 0 ≤ (ji54) then (if (ji54) < (l0_1.length : Int) then (if ((rd_T63 l0_1 x54_3).f0) < ((rd_T63 l0_1 (ji54)).f0) then (impl_IsValidLedger.j4 k3 x5_3 l0_1 (l0_1.length : Int) x54_3 true l0_0 l0_1 ((rd_T63 l0_1 x54_3).f0) ((rd_T63 l0_1 x54_3).f1) ((rd_T63 l0_1 x54_3).f2)) else ((impl_isMemo.f k3 ((rd_T63 l0_1 x54_3).f1)).bind fun t272 => (if t272 = true then ((impl_isPosted.f k3 ((rd_T63 l0_1 x54_3).f0) ((rd_T63 l0_1 x54_3).f1) ((rd_T63 l0_1 x54_3).f2) (l0_0.length : Int)).bind fun t273 => (impl_IsValidLedger.j4 k3 x5_3 l0_1 (l0_1.length : Int) x54_3 (!t273) l0_0 l0_1 ((rd_T63 l0_1 x54_3).f0) ((rd_T63 l0_1 x54_3).f1) ((rd_T63 l0_1 x54_3).f2))) else (impl_IsValidLedger.j4 k3 x5_3 l0_1 (l0_1.length : Int) x54_3 true l0_0 l0_1 ((rd_T63 l0_1 x54_3).f0) ((rd_T63 l0_1 x54_3).f1) ((rd_T63 l0_1 x54_3).f2))))) else (none)) else (none)) = some r := by first | (rw [hji54] at H; exact H) | (simp only [hji54] at H ⊢; exact H)
           (try rw [hji54] at A51)
           have hji54w : (IntKind.i64.wrap (x54_3 - 1)) = ji54 := (i64_w _).trans hji54
           obtain ⟨c55, H⟩ := ifY H
           have c55b0 := decide_eq_true c55
           clear c55
           obtain ⟨c56, H⟩ := ifY H
           have c56b0 := decide_eq_true c56
           clear c56
           by_cases c57 : ((rd_T63 l0_1 x54_3).f0) < ((rd_T63 l0_1 (ji54)).f0)
           ·rw [if_pos c57] at H
            have c57b0 := decide_eq_true c57
            clear c57
            have H' := Aside0.mk H
            clear H
            try go_wp2
            have n0_ : Aside0 (Kd.R (Kd.int .i64) 3 (((w48.setCell ⟨gb269, 0, none⟩ (.int .i64 ((rd_T63 l0_1 x54_3).f0))).setCell ⟨gb269, 1, none⟩ (.string ((rd_T63 l0_1 x54_3).f1))).setCell ⟨gb269, 2, none⟩ (.slice A268_2 ((rd_T63 l0_1 x54_3).f2).length c268_2)) w.heap.size (fun _ => True) v266 x5_3) := ⟨ZZ26f029⟩
            have n1_ : Aside0 ((((w48.setCell ⟨gb269, 0, none⟩ (.int .i64 ((rd_T63 l0_1 x54_3).f0))).setCell ⟨gb269, 1, none⟩ (.string ((rd_T63 l0_1 x54_3).f1))).setCell ⟨gb269, 2, none⟩ (.slice A268_2 ((rd_T63 l0_1 x54_3).f2).length c268_2)).heap[gb245]? = some (.cells #[.slice A0_0 l0_0.length c0_0, .slice (some ad268) l0_1.length c0_1] 31 (0, 0))) := ⟨ZZ08a298⟩
            have n2_ : Aside0 ((((w48.setCell ⟨gb269, 0, none⟩ (.int .i64 ((rd_T63 l0_1 x54_3).f0))).setCell ⟨gb269, 1, none⟩ (.string ((rd_T63 l0_1 x54_3).f1))).setCell ⟨gb269, 2, none⟩ (.slice A268_2 ((rd_T63 l0_1 x54_3).f2).length c268_2)).heap[gb269]? = some (.cells #[.int .i64 ((rd_T63 l0_1 x54_3).f0), .string ((rd_T63 l0_1 x54_3).f1), .slice A268_2 ((rd_T63 l0_1 x54_3).f2).length c268_2] 63 (0, 0))) := ⟨ZZ582304⟩
            have n3_ : Aside0 (Below w.heap.size w (((w48.setCell ⟨gb269, 0, none⟩ (.int .i64 ((rd_T63 l0_1 x54_3).f0))).setCell ⟨gb269, 1, none⟩ (.string ((rd_T63 l0_1 x54_3).f1))).setCell ⟨gb269, 2, none⟩ (.slice A268_2 ((rd_T63 l0_1 x54_3).f2).length c268_2))) := ⟨ZZ295621⟩
            (try clear HO_5)
            (try clear BK245)
            (try clear BK269)
            (try clear HB)
            generalize (((w48.setCell ⟨gb269, 0, none⟩ (.int .i64 ((rd_T63 l0_1 x54_3).f0))).setCell ⟨gb269, 1, none⟩ (.string ((rd_T63 l0_1 x54_3).f1))).setCell ⟨gb269, 2, none⟩ (.slice A268_2 ((rd_T63 l0_1 x54_3).f2).length c268_2)) = w58 at n0_ n1_ n2_ n3_ ⊢
            have HO_5 := n0_
            have BK245 := n1_
            have BK269 := n2_
            have HB := n3_
            clear n0_ n1_ n2_ n3_
            replace HO_5 := Aside0.mk (Kd.R_drew HO_5.out)
            replace BK245 := Aside0.mk (blk_drew BK245.out)
            replace BK269 := Aside0.mk (blk_drew BK269.out)
            replace HB := Aside0.mk (below_drew1 HB.out)
            have p271 : 0 ≤ ((ji54) : Int) := of_decide_eq_true ZZ853400
            have q271 : (ji54) < (l0_1.length : Int) := of_decide_eq_true ZZ853400
            obtain ⟨ad271, A271_2, c271_2, e271, hx271_0, hx271_1, hx271_2, hl271_2, hi271_2⟩ := at_T63 HR0_1.out (ji54) p271 q271
            have hw271_2 := hx271_2
            have hw271_1 := hx271_1
            have hw271_0 := hx271_0
            obtain rfl : ad268 = ad271 := (by injection e271)
            replace hx271_0 := (HB.out.cell (World.block_lt_of_cell? w _ hx271_0)).trans hx271_0
            replace hx271_1 := (HB.out.cell (World.block_lt_of_cell? w _ hx271_1)).trans hx271_1
            replace hx271_2 := (HB.out.cell (World.block_lt_of_cell? w _ hx271_2)).trans hx271_2
            have HR271_2 := Aside0.mk hi271_2
            have HC271_2 := Aside0.mk hl271_2
            clear hi271_2 hl271_2
            replace p271 := eq_true p271
            replace q271 := eq_true q271
            refine start_ (n := 34) (S := fun w' => w'.cell? ⟨gb269, 0, none⟩ = some (.int .i64 ((rd_T63 l0_1 x54_3).f0)) ∧ w'.cell? ⟨gb269, 1, none⟩ = some (.string ((rd_T63 l0_1 x54_3).f1)) ∧ w'.cell? ⟨gb269, 2, none⟩ = some (.slice A268_2 ((rd_T63 l0_1 x54_3).f2).length c268_2) ∧ w'.cell? ⟨gb245, 0, none⟩ = some (.slice A0_0 l0_0.length c0_0) ∧ w'.cell? ⟨gb245, 1, none⟩ = some (.slice (some ad268) l0_1.length c0_1) ∧ w'.cell? (ad268.add (((ji54)).toNat * 3)) = some (.int .i64 ((rd_T63 l0_1 (ji54)).f0)) ∧ w'.cell? ⟨(ad268.add (((ji54)).toNat * 3)).block, (ad268.add (((ji54)).toNat * 3)).off + 1, none⟩ = some (.string ((rd_T63 l0_1 (ji54)).f1)) ∧ w'.cell? ⟨(ad268.add (((ji54)).toNat * 3)).block, (ad268.add (((ji54)).toNat * 3)).off + 2, none⟩ = some (.slice A271_2 ((rd_T63 l0_1 (ji54)).f2).length c271_2)) (ds := []) #[false, false, false, false, false, false, false, false, false, false, false, false, false, false, false, false, false, false, false, false, false, false, false, false, false, false, false, false, false, false, false, false, false, false] (by kernel_rfl) rfl rfl ⟨(blk_cell BK269.out 0).trans rfl, (blk_cell BK269.out 1).trans rfl, (blk_cell BK269.out 2).trans rfl, (blk_cell BK245.out 0).trans rfl, (blk_cell BK245.out 1).trans rfl, ((HB.out.cell (World.block_lt_of_cell? w _ hw271_0)).trans hw271_0), ((HB.out.cell (World.block_lt_of_cell? w _ hw271_1)).trans hw271_1), ((HB.out.cell (World.block_lt_of_cell? w _ hw271_2)).trans hw271_2)⟩ (fun hHeld => ?_); refine with_tabW impl_IsValidLedger.tab13 impl_IsValidLedger.bits13 (fun HT_ HW_ => ?_)
            generalize w58.drew = w59 at HO_5 BK245 BK269 HB HR271_2 hx271_0 hx271_1 hx271_2 hHeld ⊢
            refine pu 0 59 ?_
            refine tk 1 60 ?_
            refine one_ (i := 2) (N := some 61) #[true, true, true, false, false, false, false, false, false, false, false, false, false, false, false, false, false, false, false, false, false, false, false, false, false, false, false, false, false, false, false, false, false, false] rfl rfl (one_of HT_.out (by kernel_rfl)) (by decide) (fun K hK => ?_)
            refine goes_ Tryd.func59 (by kernel_rfl) rfl #[.int .i64 ((rd_T63 l0_1 x54_3).f0)] (by rfl) rfl rfl ZZ19826e ?_
            with_reducible refine (impl_isDay.calls ((rd_T63 l0_1 x54_3).f0) true _ A51.out).mono ?_
            rintro e w' ⟨rfl, ⟨nd, rfl⟩⟩
            refine ⟨_, rfl, ?_⟩
            refine hK.out _ _ ⟨(blk_cell BK269.out 0).trans rfl, (blk_cell BK269.out 1).trans rfl, (blk_cell BK269.out 2).trans rfl, (blk_cell BK245.out 0).trans rfl, (blk_cell BK245.out 1).trans rfl, ((HB.out.cell (World.block_lt_of_cell? w _ hw271_0)).trans hw271_0), ((HB.out.cell (World.block_lt_of_cell? w _ hw271_1)).trans hw271_1), ((HB.out.cell (World.block_lt_of_cell? w _ hw271_2)).trans hw271_2)⟩ (fun hHeld => ?_)
            clear hK K
            refine norm_ (a' := ?_) ?_ ?_
            rotate_left
            ·show Act.put _ (some 61) _ = _
             simp only [Act.put, List.setIfInBounds_toArray, List.set_cons_zero, List.set_cons_succ, i64_w, i32_w]
             rfl
            refine pu 3 62 ?_
            refine pu 4 63 ?_
            refine pu 5 64 ?_
            refine pu 6 65 ?_
            refine pu 7 66 ?_
            refine pu 8 67 ?_
            refine pu 10 69 ?_
            refine pu 12 71 ?_
            refine pu 13 72 ?_
            refine tk 9 68 ?_
            refine tk 11 70 ?_
            refine pu 14 73 ?_
            refine pu 15 74 ?_
            refine tk 16 75 ?_
            refine pu 17 76 ?_
            refine pu 18 77 ?_
            refine pu 19 78 ?_
            refine pu 20 79 ?_
            refine pn 21 80 ?_
            refine pn 22 81 ?_
            refine pn 23 82 ?_
            refine pn 24 83 ?_
            refine pu 25 84 ?_
            refine pu 26 85 ?_
            refine pn 27 86 ?_
            refine pn 28 87 ?_
            refine pn 29 88 ?_
            refine pn 30 89 ?_
            refine pn 31 90 ?_
            refine pn 32 91 ?_
            refine pu 33 92 ?_
            refine done_ (done_of HT_.out (by kernel_rfl)) ?_
            try go_wp2
            go_meet
            case rel => exact ⟨_, (true), ZZ0ab324, H', ⟨(by have := HJ1.out; have := HK2.out; have := HK3.out; first | omega | exact Nat.le_refl _)⟩, ⟨(zR HO_5)⟩, ⟨(zB BK245)⟩, ⟨(zB BK269)⟩, ⟨ZZ295621⟩⟩
           rw [if_neg c57] at H
           have c57b0 := decide_eq_false c57
           clear c57
           obtain ⟨t272, A60, H⟩ := bdY H
           by_cases c61 : t272 = true
           ·subst c61
            have H1 : ((impl_isPosted.f k3 ((rd_T63 l0_1 x54_3).f0) ((rd_T63 l0_1 x54_3).f1) ((rd_T63 l0_1 x54_3).f2) (l0_0.length : Int)).bind fun t273 => (impl_IsValidLedger.j4 k3 x5_3 l0_1 (l0_1.length : Int) x54_3 (!t273) l0_0 l0_1 ((rd_T63 l0_1 x54_3).f0) ((rd_T63 l0_1 x54_3).f1) ((rd_T63 l0_1 x54_3).f2))) = some r := by rw [if_pos rfl] at H; exact H
            clear H
            have H := H1
            clear H1
            obtain ⟨t273, A62, H⟩ := bdY H
            have H' := Aside0.mk H
            clear H
            try go_wp2
            have n0_ : Aside0 (Kd.R (Kd.int .i64) 3 (((w48.setCell ⟨gb269, 0, none⟩ (.int .i64 ((rd_T63 l0_1 x54_3).f0))).setCell ⟨gb269, 1, none⟩ (.string ((rd_T63 l0_1 x54_3).f1))).setCell ⟨gb269, 2, none⟩ (.slice A268_2 ((rd_T63 l0_1 x54_3).f2).length c268_2)) w.heap.size (fun _ => True) v266 x5_3) := ⟨ZZ26f029⟩
            have n1_ : Aside0 ((((w48.setCell ⟨gb269, 0, none⟩ (.int .i64 ((rd_T63 l0_1 x54_3).f0))).setCell ⟨gb269, 1, none⟩ (.string ((rd_T63 l0_1 x54_3).f1))).setCell ⟨gb269, 2, none⟩ (.slice A268_2 ((rd_T63 l0_1 x54_3).f2).length c268_2)).heap[gb245]? = some (.cells #[.slice A0_0 l0_0.length c0_0, .slice (some ad268) l0_1.length c0_1] 31 (0, 0))) := ⟨ZZ08a298⟩
            have n2_ : Aside0 ((((w48.setCell ⟨gb269, 0, none⟩ (.int .i64 ((rd_T63 l0_1 x54_3).f0))).setCell ⟨gb269, 1, none⟩ (.string ((rd_T63 l0_1 x54_3).f1))).setCell ⟨gb269, 2, none⟩ (.slice A268_2 ((rd_T63 l0_1 x54_3).f2).length c268_2)).heap[gb269]? = some (.cells #[.int .i64 ((rd_T63 l0_1 x54_3).f0), .string ((rd_T63 l0_1 x54_3).f1), .slice A268_2 ((rd_T63 l0_1 x54_3).f2).length c268_2] 63 (0, 0))) := ⟨ZZ582304⟩
            have n3_ : Aside0 (Below w.heap.size w (((w48.setCell ⟨gb269, 0, none⟩ (.int .i64 ((rd_T63 l0_1 x54_3).f0))).setCell ⟨gb269, 1, none⟩ (.string ((rd_T63 l0_1 x54_3).f1))).setCell ⟨gb269, 2, none⟩ (.slice A268_2 ((rd_T63 l0_1 x54_3).f2).length c268_2))) := ⟨ZZ295621⟩
            (try clear HO_5)
            (try clear BK245)
            (try clear BK269)
            (try clear HB)
            generalize (((w48.setCell ⟨gb269, 0, none⟩ (.int .i64 ((rd_T63 l0_1 x54_3).f0))).setCell ⟨gb269, 1, none⟩ (.string ((rd_T63 l0_1 x54_3).f1))).setCell ⟨gb269, 2, none⟩ (.slice A268_2 ((rd_T63 l0_1 x54_3).f2).length c268_2)) = w63 at n0_ n1_ n2_ n3_ ⊢
            have HO_5 := n0_
            have BK245 := n1_
            have BK269 := n2_
            have HB := n3_
            clear n0_ n1_ n2_ n3_
            replace HO_5 := Aside0.mk (Kd.R_drew HO_5.out)
            replace BK245 := Aside0.mk (blk_drew BK245.out)
            replace BK269 := Aside0.mk (blk_drew BK269.out)
            replace HB := Aside0.mk (below_drew1 HB.out)
            have p271 : 0 ≤ ((ji54) : Int) := of_decide_eq_true ZZ853400
            have q271 : (ji54) < (l0_1.length : Int) := of_decide_eq_true ZZ853400
            obtain ⟨ad271, A271_2, c271_2, e271, hx271_0, hx271_1, hx271_2, hl271_2, hi271_2⟩ := at_T63 HR0_1.out (ji54) p271 q271
            have hw271_2 := hx271_2
            have hw271_1 := hx271_1
            have hw271_0 := hx271_0
            obtain rfl : ad268 = ad271 := (by injection e271)
            replace hx271_0 := (HB.out.cell (World.block_lt_of_cell? w _ hx271_0)).trans hx271_0
            replace hx271_1 := (HB.out.cell (World.block_lt_of_cell? w _ hx271_1)).trans hx271_1
            replace hx271_2 := (HB.out.cell (World.block_lt_of_cell? w _ hx271_2)).trans hx271_2
            have HR271_2 := Aside0.mk hi271_2
            have HC271_2 := Aside0.mk hl271_2
            clear hi271_2 hl271_2
            replace p271 := eq_true p271
            replace q271 := eq_true q271
            refine start_ (n := 34) (S := fun w' => w'.cell? ⟨gb269, 0, none⟩ = some (.int .i64 ((rd_T63 l0_1 x54_3).f0)) ∧ w'.cell? ⟨gb269, 1, none⟩ = some (.string ((rd_T63 l0_1 x54_3).f1)) ∧ w'.cell? ⟨gb269, 2, none⟩ = some (.slice A268_2 ((rd_T63 l0_1 x54_3).f2).length c268_2) ∧ w'.cell? ⟨gb245, 0, none⟩ = some (.slice A0_0 l0_0.length c0_0) ∧ w'.cell? ⟨gb245, 1, none⟩ = some (.slice (some ad268) l0_1.length c0_1) ∧ w'.cell? (ad268.add (((ji54)).toNat * 3)) = some (.int .i64 ((rd_T63 l0_1 (ji54)).f0)) ∧ w'.cell? ⟨(ad268.add (((ji54)).toNat * 3)).block, (ad268.add (((ji54)).toNat * 3)).off + 1, none⟩ = some (.string ((rd_T63 l0_1 (ji54)).f1)) ∧ w'.cell? ⟨(ad268.add (((ji54)).toNat * 3)).block, (ad268.add (((ji54)).toNat * 3)).off + 2, none⟩ = some (.slice A271_2 ((rd_T63 l0_1 (ji54)).f2).length c271_2)) (ds := []) #[false, false, false, false, false, false, false, false, false, false, false, false, false, false, false, false, false, false, false, false, false, false, false, false, false, false, false, false, false, false, false, false, false, false] (by kernel_rfl) rfl rfl ⟨(blk_cell BK269.out 0).trans rfl, (blk_cell BK269.out 1).trans rfl, (blk_cell BK269.out 2).trans rfl, (blk_cell BK245.out 0).trans rfl, (blk_cell BK245.out 1).trans rfl, ((HB.out.cell (World.block_lt_of_cell? w _ hw271_0)).trans hw271_0), ((HB.out.cell (World.block_lt_of_cell? w _ hw271_1)).trans hw271_1), ((HB.out.cell (World.block_lt_of_cell? w _ hw271_2)).trans hw271_2)⟩ (fun hHeld => ?_); refine with_tabW impl_IsValidLedger.tab13 impl_IsValidLedger.bits13 (fun HT_ HW_ => ?_)
            generalize w63.drew = w64 at HO_5 BK245 BK269 HB HR271_2 hx271_0 hx271_1 hx271_2 hHeld ⊢
            refine pu 0 59 ?_
            refine tk 1 60 ?_
            refine one_ (i := 2) (N := some 61) #[true, true, true, false, false, false, false, false, false, false, false, false, false, false, false, false, false, false, false, false, false, false, false, false, false, false, false, false, false, false, false, false, false, false] rfl rfl (one_of HT_.out (by kernel_rfl)) (by decide) (fun K hK => ?_)
            refine goes_ Tryd.func59 (by kernel_rfl) rfl #[.int .i64 ((rd_T63 l0_1 x54_3).f0)] (by rfl) rfl rfl ZZ19826e ?_
            with_reducible refine (impl_isDay.calls ((rd_T63 l0_1 x54_3).f0) true _ A51.out).mono ?_
            rintro e w' ⟨rfl, ⟨nd, rfl⟩⟩
            refine ⟨_, rfl, ?_⟩
            refine hK.out _ _ ⟨(blk_cell BK269.out 0).trans rfl, (blk_cell BK269.out 1).trans rfl, (blk_cell BK269.out 2).trans rfl, (blk_cell BK245.out 0).trans rfl, (blk_cell BK245.out 1).trans rfl, ((HB.out.cell (World.block_lt_of_cell? w _ hw271_0)).trans hw271_0), ((HB.out.cell (World.block_lt_of_cell? w _ hw271_1)).trans hw271_1), ((HB.out.cell (World.block_lt_of_cell? w _ hw271_2)).trans hw271_2)⟩ (fun hHeld => ?_)
            clear hK K
            refine norm_ (a' := ?_) ?_ ?_
            rotate_left
            ·show Act.put _ (some 61) _ = _
             simp only [Act.put, List.setIfInBounds_toArray, List.set_cons_zero, List.set_cons_succ, i64_w, i32_w]
             rfl
            refine pu 3 62 ?_
            refine pu 4 63 ?_
            refine pu 5 64 ?_
            refine pu 6 65 ?_
            refine pu 7 66 ?_
            refine pu 8 67 ?_
            refine pu 10 69 ?_
            refine pu 12 71 ?_
            refine pu 13 72 ?_
            refine tk 9 68 ?_
            refine tk 11 70 ?_
            refine pu 14 73 ?_
            refine pu 15 74 ?_
            refine tk 16 75 ?_
            refine pu 17 76 ?_
            refine pu 18 77 ?_
            refine pu 19 78 ?_
            refine pu 20 79 ?_
            refine pu 21 80 ?_
            refine tk 22 81 ?_
            refine one_ (i := 23) (N := some 82) #[true, true, true, true, true, true, true, true, true, true, true, true, true, true, true, true, true, true, true, true, true, true, true, true, false, false, false, false, false, false, false, false, false, false] rfl rfl (one_of HT_.out (by kernel_rfl)) (by decide) (fun K hK => ?_)
            refine goes_ Tryd.func60 (by kernel_rfl) rfl #[.string ((rd_T63 l0_1 x54_3).f1)] (by rfl) rfl rfl ZZ19826e ?_
            with_reducible refine (impl_isMemo.calls k3 ((rd_T63 l0_1 x54_3).f1) true _ A60.out).mono ?_
            rintro e w' ⟨rfl, ⟨nd, rfl⟩⟩
            refine ⟨_, rfl, ?_⟩
            refine hK.out _ _ ⟨(blk_cell BK269.out 0).trans rfl, (blk_cell BK269.out 1).trans rfl, (blk_cell BK269.out 2).trans rfl, (blk_cell BK245.out 0).trans rfl, (blk_cell BK245.out 1).trans rfl, ((HB.out.cell (World.block_lt_of_cell? w _ hw271_0)).trans hw271_0), ((HB.out.cell (World.block_lt_of_cell? w _ hw271_1)).trans hw271_1), ((HB.out.cell (World.block_lt_of_cell? w _ hw271_2)).trans hw271_2)⟩ (fun hHeld => ?_)
            clear hK K
            refine norm_ (a' := ?_) ?_ ?_
            rotate_left
            ·show Act.put _ (some 82) _ = _
             simp only [Act.put, List.setIfInBounds_toArray, List.set_cons_zero, List.set_cons_succ, i64_w, i32_w]
             rfl
            refine pu 24 83 ?_
            refine pu 25 84 ?_
            refine pu 26 85 ?_
            refine pu 28 87 ?_
            refine tk 27 86 ?_
            refine tk 29 88 ?_
            refine pu 30 89 ?_
            refine one_ (i := 31) (N := some 90) #[true, true, true, true, true, true, true, true, true, true, true, true, true, true, true, true, true, true, true, true, true, true, true, true, true, true, true, true, true, true, true, true, false, false] rfl rfl (one_of HT_.out (by kernel_rfl)) (by decide) (fun K hK => ?_)
            refine goes_ Tryd.func61 (by kernel_rfl) rfl #[.agg #[.int .i64 ((rd_T63 l0_1 x54_3).f0), .string ((rd_T63 l0_1 x54_3).f1), .slice A268_2 ((rd_T63 l0_1 x54_3).f2).length c268_2], .int .i64 (l0_0.length : Int)] (by rfl) rfl rfl ZZ19826e ?_
            with_reducible refine (impl_isPosted.calls k3 ((rd_T63 l0_1 x54_3).f0) ((rd_T63 l0_1 x54_3).f1) _ _ ((rd_T63 l0_1 x54_3).f2) (l0_0.length : Int) t273 _ ?side1 ?side2 A62.out).mono ?_
            (case side1 => repeat (first | exact (Kd.C_below HR268_2.out ZZ295621) | (with_reducible refine Kd.C_alloc ?_ _) | (with_reducible refine Kd.C_drewN ?_ _) | (with_reducible refine Kd.C_drew ?_)))
            (case side2 => exact HC268_2.out)
            rintro e w65 ⟨rfl, hb⟩
            refine ⟨_, rfl, ?_⟩
            replace HO_5 := Aside0.mk (Kd.R_below (zR HO_5) hb)
            replace BK245 := Aside0.mk (blk_below (zB BK245) hb)
            replace BK269 := Aside0.mk (blk_below (zB BK269) hb)
            replace HB := Aside0.mk (below_step ZZ295621 hb)
            (try clear hb)
            (try clear hb2)
            (try clear hk)
            (try clear hi)
            refine hK.out _ _ ⟨(blk_cell BK269.out 0).trans rfl, (blk_cell BK269.out 1).trans rfl, (blk_cell BK269.out 2).trans rfl, (blk_cell BK245.out 0).trans rfl, (blk_cell BK245.out 1).trans rfl, ((HB.out.cell (World.block_lt_of_cell? w _ hw271_0)).trans hw271_0), ((HB.out.cell (World.block_lt_of_cell? w _ hw271_1)).trans hw271_1), ((HB.out.cell (World.block_lt_of_cell? w _ hw271_2)).trans hw271_2)⟩ (fun hHeld => ?_)
            clear hK K
            refine norm_ (a' := ?_) ?_ ?_
            rotate_left
            ·show Act.put _ (some 90) _ = _
             simp only [Act.put, List.setIfInBounds_toArray, List.set_cons_zero, List.set_cons_succ, i64_w, i32_w]
             rfl
            refine pu 32 91 ?_
            refine pu 33 92 ?_
            refine done_ (done_of HT_.out (by kernel_rfl)) ?_
            try go_wp2
            go_meet
            case rel => exact ⟨_, (!t273), ZZ0ab324, H', ⟨(by have := HJ1.out; have := HK2.out; have := HK3.out; first | omega | exact Nat.le_refl _)⟩, ⟨(zR HO_5)⟩, ⟨(zB BK245)⟩, ⟨(zB BK269)⟩, ⟨ZZ295621⟩⟩
           replace c61 := Bool.eq_false_iff.mpr c61
           subst c61
           have H1 : (impl_IsValidLedger.j4 k3 x5_3 l0_1 (l0_1.length : Int) x54_3 true l0_0 l0_1 ((rd_T63 l0_1 x54_3).f0) ((rd_T63 l0_1 x54_3).f1) ((rd_T63 l0_1 x54_3).f2)) = some r := by rw [if_neg (show ¬ (false = true) by decide)] at H; exact H
           clear H
           have H := H1
           clear H1
           have H' := Aside0.mk H
           clear H
           try go_wp2
           have n0_ : Aside0 (Kd.R (Kd.int .i64) 3 (((w48.setCell ⟨gb269, 0, none⟩ (.int .i64 ((rd_T63 l0_1 x54_3).f0))).setCell ⟨gb269, 1, none⟩ (.string ((rd_T63 l0_1 x54_3).f1))).setCell ⟨gb269, 2, none⟩ (.slice A268_2 ((rd_T63 l0_1 x54_3).f2).length c268_2)) w.heap.size (fun _ => True) v266 x5_3) := ⟨ZZ26f029⟩
           have n1_ : Aside0 ((((w48.setCell ⟨gb269, 0, none⟩ (.int .i64 ((rd_T63 l0_1 x54_3).f0))).setCell ⟨gb269, 1, none⟩ (.string ((rd_T63 l0_1 x54_3).f1))).setCell ⟨gb269, 2, none⟩ (.slice A268_2 ((rd_T63 l0_1 x54_3).f2).length c268_2)).heap[gb245]? = some (.cells #[.slice A0_0 l0_0.length c0_0, .slice (some ad268) l0_1.length c0_1] 31 (0, 0))) := ⟨ZZ08a298⟩
           have n2_ : Aside0 ((((w48.setCell ⟨gb269, 0, none⟩ (.int .i64 ((rd_T63 l0_1 x54_3).f0))).setCell ⟨gb269, 1, none⟩ (.string ((rd_T63 l0_1 x54_3).f1))).setCell ⟨gb269, 2, none⟩ (.slice A268_2 ((rd_T63 l0_1 x54_3).f2).length c268_2)).heap[gb269]? = some (.cells #[.int .i64 ((rd_T63 l0_1 x54_3).f0), .string ((rd_T63 l0_1 x54_3).f1), .slice A268_2 ((rd_T63 l0_1 x54_3).f2).length c268_2] 63 (0, 0))) := ⟨ZZ582304⟩
           have n3_ : Aside0 (Below w.heap.size w (((w48.setCell ⟨gb269, 0, none⟩ (.int .i64 ((rd_T63 l0_1 x54_3).f0))).setCell ⟨gb269, 1, none⟩ (.string ((rd_T63 l0_1 x54_3).f1))).setCell ⟨gb269, 2, none⟩ (.slice A268_2 ((rd_T63 l0_1 x54_3).f2).length c268_2))) := ⟨ZZ295621⟩
           (try clear HO_5)
           (try clear BK245)
           (try clear BK269)
           (try clear HB)
           generalize (((w48.setCell ⟨gb269, 0, none⟩ (.int .i64 ((rd_T63 l0_1 x54_3).f0))).setCell ⟨gb269, 1, none⟩ (.string ((rd_T63 l0_1 x54_3).f1))).setCell ⟨gb269, 2, none⟩ (.slice A268_2 ((rd_T63 l0_1 x54_3).f2).length c268_2)) = w66 at n0_ n1_ n2_ n3_ ⊢
           have HO_5 := n0_
           have BK245 := n1_
           have BK269 := n2_
           have HB := n3_
           clear n0_ n1_ n2_ n3_
           replace HO_5 := Aside0.mk (Kd.R_drew HO_5.out)
           replace BK245 := Aside0.mk (blk_drew BK245.out)
           replace BK269 := Aside0.mk (blk_drew BK269.out)
           replace HB := Aside0.mk (below_drew1 HB.out)
           have p271 : 0 ≤ ((ji54) : Int) := of_decide_eq_true ZZ853400
           have q271 : (ji54) < (l0_1.length : Int) := of_decide_eq_true ZZ853400
           obtain ⟨ad271, A271_2, c271_2, e271, hx271_0, hx271_1, hx271_2, hl271_2, hi271_2⟩ := at_T63 HR0_1.out (ji54) p271 q271
           have hw271_2 := hx271_2
           have hw271_1 := hx271_1
           have hw271_0 := hx271_0
           obtain rfl : ad268 = ad271 := (by injection e271)
           replace hx271_0 := (HB.out.cell (World.block_lt_of_cell? w _ hx271_0)).trans hx271_0
           replace hx271_1 := (HB.out.cell (World.block_lt_of_cell? w _ hx271_1)).trans hx271_1
           replace hx271_2 := (HB.out.cell (World.block_lt_of_cell? w _ hx271_2)).trans hx271_2
           have HR271_2 := Aside0.mk hi271_2
           have HC271_2 := Aside0.mk hl271_2
           clear hi271_2 hl271_2
           replace p271 := eq_true p271
           replace q271 := eq_true q271
           refine start_ (n := 34) (S := fun w' => w'.cell? ⟨gb269, 0, none⟩ = some (.int .i64 ((rd_T63 l0_1 x54_3).f0)) ∧ w'.cell? ⟨gb269, 1, none⟩ = some (.string ((rd_T63 l0_1 x54_3).f1)) ∧ w'.cell? ⟨gb269, 2, none⟩ = some (.slice A268_2 ((rd_T63 l0_1 x54_3).f2).length c268_2) ∧ w'.cell? ⟨gb245, 0, none⟩ = some (.slice A0_0 l0_0.length c0_0) ∧ w'.cell? ⟨gb245, 1, none⟩ = some (.slice (some ad268) l0_1.length c0_1) ∧ w'.cell? (ad268.add (((ji54)).toNat * 3)) = some (.int .i64 ((rd_T63 l0_1 (ji54)).f0)) ∧ w'.cell? ⟨(ad268.add (((ji54)).toNat * 3)).block, (ad268.add (((ji54)).toNat * 3)).off + 1, none⟩ = some (.string ((rd_T63 l0_1 (ji54)).f1)) ∧ w'.cell? ⟨(ad268.add (((ji54)).toNat * 3)).block, (ad268.add (((ji54)).toNat * 3)).off + 2, none⟩ = some (.slice A271_2 ((rd_T63 l0_1 (ji54)).f2).length c271_2)) (ds := []) #[false, false, false, false, false, false, false, false, false, false, false, false, false, false, false, false, false, false, false, false, false, false, false, false, false, false, false, false, false, false, false, false, false, false] (by kernel_rfl) rfl rfl ⟨(blk_cell BK269.out 0).trans rfl, (blk_cell BK269.out 1).trans rfl, (blk_cell BK269.out 2).trans rfl, (blk_cell BK245.out 0).trans rfl, (blk_cell BK245.out 1).trans rfl, ((HB.out.cell (World.block_lt_of_cell? w _ hw271_0)).trans hw271_0), ((HB.out.cell (World.block_lt_of_cell? w _ hw271_1)).trans hw271_1), ((HB.out.cell (World.block_lt_of_cell? w _ hw271_2)).trans hw271_2)⟩ (fun hHeld => ?_); refine with_tabW impl_IsValidLedger.tab13 impl_IsValidLedger.bits13 (fun HT_ HW_ => ?_)
           generalize w66.drew = w67 at HO_5 BK245 BK269 HB HR271_2 hx271_0 hx271_1 hx271_2 hHeld ⊢
           refine pu 0 59 ?_
           refine tk 1 60 ?_
           refine one_ (i := 2) (N := some 61) #[true, true, true, false, false, false, false, false, false, false, false, false, false, false, false, false, false, false, false, false, false, false, false, false, false, false, false, false, false, false, false, false, false, false] rfl rfl (one_of HT_.out (by kernel_rfl)) (by decide) (fun K hK => ?_)
           refine goes_ Tryd.func59 (by kernel_rfl) rfl #[.int .i64 ((rd_T63 l0_1 x54_3).f0)] (by rfl) rfl rfl ZZ19826e ?_
           with_reducible refine (impl_isDay.calls ((rd_T63 l0_1 x54_3).f0) true _ A51.out).mono ?_
           rintro e w' ⟨rfl, ⟨nd, rfl⟩⟩
           refine ⟨_, rfl, ?_⟩
           refine hK.out _ _ ⟨(blk_cell BK269.out 0).trans rfl, (blk_cell BK269.out 1).trans rfl, (blk_cell BK269.out 2).trans rfl, (blk_cell BK245.out 0).trans rfl, (blk_cell BK245.out 1).trans rfl, ((HB.out.cell (World.block_lt_of_cell? w _ hw271_0)).trans hw271_0), ((HB.out.cell (World.block_lt_of_cell? w _ hw271_1)).trans hw271_1), ((HB.out.cell (World.block_lt_of_cell? w _ hw271_2)).trans hw271_2)⟩ (fun hHeld => ?_)
           clear hK K
           refine norm_ (a' := ?_) ?_ ?_
           rotate_left
           ·show Act.put _ (some 61) _ = _
            simp only [Act.put, List.setIfInBounds_toArray, List.set_cons_zero, List.set_cons_succ, i64_w, i32_w]
            rfl
           refine pu 3 62 ?_
           refine pu 4 63 ?_
           refine pu 5 64 ?_
           refine pu 6 65 ?_
           refine pu 7 66 ?_
           refine pu 8 67 ?_
           refine pu 10 69 ?_
           refine pu 12 71 ?_
           refine pu 13 72 ?_
           refine tk 9 68 ?_
           refine tk 11 70 ?_
           refine pu 14 73 ?_
           refine pu 15 74 ?_
           refine tk 16 75 ?_
           refine pu 17 76 ?_
           refine pu 18 77 ?_
           refine pu 19 78 ?_
           refine pu 20 79 ?_
           refine pu 21 80 ?_
           refine tk 22 81 ?_
           refine one_ (i := 23) (N := some 82) #[true, true, true, true, true, true, true, true, true, true, true, true, true, true, true, true, true, true, true, true, true, true, true, true, false, false, false, false, false, false, false, false, false, false] rfl rfl (one_of HT_.out (by kernel_rfl)) (by decide) (fun K hK => ?_)
           refine goes_ Tryd.func60 (by kernel_rfl) rfl #[.string ((rd_T63 l0_1 x54_3).f1)] (by rfl) rfl rfl ZZ19826e ?_
           with_reducible refine (impl_isMemo.calls k3 ((rd_T63 l0_1 x54_3).f1) false _ A60.out).mono ?_
           rintro e w' ⟨rfl, ⟨nd, rfl⟩⟩
           refine ⟨_, rfl, ?_⟩
           refine hK.out _ _ ⟨(blk_cell BK269.out 0).trans rfl, (blk_cell BK269.out 1).trans rfl, (blk_cell BK269.out 2).trans rfl, (blk_cell BK245.out 0).trans rfl, (blk_cell BK245.out 1).trans rfl, ((HB.out.cell (World.block_lt_of_cell? w _ hw271_0)).trans hw271_0), ((HB.out.cell (World.block_lt_of_cell? w _ hw271_1)).trans hw271_1), ((HB.out.cell (World.block_lt_of_cell? w _ hw271_2)).trans hw271_2)⟩ (fun hHeld => ?_)
           clear hK K
           refine norm_ (a' := ?_) ?_ ?_
           rotate_left
           ·show Act.put _ (some 82) _ = _
            simp only [Act.put, List.setIfInBounds_toArray, List.set_cons_zero, List.set_cons_succ, i64_w, i32_w]
            rfl
           refine pu 24 83 ?_
           refine pu 25 84 ?_
           refine pu 26 85 ?_
           refine pn 27 86 ?_
           refine pn 28 87 ?_
           refine pn 29 88 ?_
           refine pn 30 89 ?_
           refine pn 31 90 ?_
           refine pn 32 91 ?_
           refine pu 33 92 ?_
           refine done_ (done_of HT_.out (by kernel_rfl)) ?_
           try go_wp2
           go_meet
           case rel => exact ⟨_, (true), ZZ0ab324, H', ⟨(by have := HJ1.out; have := HK2.out; have := HK3.out; first | omega | exact Nat.le_refl _)⟩, ⟨(zR HO_5)⟩, ⟨(zB BK245)⟩, ⟨(zB BK269)⟩, ⟨ZZ295621⟩⟩
          rw [if_neg c53] at H
          have c53b0 : decide (0 < x54_3) = false := decide_eq_false c53
          clear c53
          (first | rw [c53b0] | (simp only [i64_w, i32_w]; rw [c53b0]) | skip)
          obtain ⟨t274, A68, H⟩ := bdY H
          by_cases c69 : t274 = true
          ·subst c69
           have H1 : ((impl_isPosted.f k3 ((rd_T63 l0_1 x54_3).f0) ((rd_T63 l0_1 x54_3).f1) ((rd_T63 l0_1 x54_3).f2) (l0_0.length : Int)).bind fun t275 => (impl_IsValidLedger.j4 k3 x5_3 l0_1 (l0_1.length : Int) x54_3 (!t275) l0_0 l0_1 ((rd_T63 l0_1 x54_3).f0) ((rd_T63 l0_1 x54_3).f1) ((rd_T63 l0_1 x54_3).f2))) = some r := by rw [if_pos rfl] at H; exact H
           clear H
           have H := H1
           clear H1
           obtain ⟨t275, A70, H⟩ := bdY H
           have H' := Aside0.mk H
           clear H
           try go_wp2
           have n0_ : Aside0 (Kd.R (Kd.int .i64) 3 (((w48.setCell ⟨gb269, 0, none⟩ (.int .i64 ((rd_T63 l0_1 x54_3).f0))).setCell ⟨gb269, 1, none⟩ (.string ((rd_T63 l0_1 x54_3).f1))).setCell ⟨gb269, 2, none⟩ (.slice A268_2 ((rd_T63 l0_1 x54_3).f2).length c268_2)) w.heap.size (fun _ => True) v266 x5_3) := ⟨ZZ26f029⟩
           have n1_ : Aside0 ((((w48.setCell ⟨gb269, 0, none⟩ (.int .i64 ((rd_T63 l0_1 x54_3).f0))).setCell ⟨gb269, 1, none⟩ (.string ((rd_T63 l0_1 x54_3).f1))).setCell ⟨gb269, 2, none⟩ (.slice A268_2 ((rd_T63 l0_1 x54_3).f2).length c268_2)).heap[gb245]? = some (.cells #[.slice A0_0 l0_0.length c0_0, .slice (some ad268) l0_1.length c0_1] 31 (0, 0))) := ⟨ZZ08a298⟩
           have n2_ : Aside0 ((((w48.setCell ⟨gb269, 0, none⟩ (.int .i64 ((rd_T63 l0_1 x54_3).f0))).setCell ⟨gb269, 1, none⟩ (.string ((rd_T63 l0_1 x54_3).f1))).setCell ⟨gb269, 2, none⟩ (.slice A268_2 ((rd_T63 l0_1 x54_3).f2).length c268_2)).heap[gb269]? = some (.cells #[.int .i64 ((rd_T63 l0_1 x54_3).f0), .string ((rd_T63 l0_1 x54_3).f1), .slice A268_2 ((rd_T63 l0_1 x54_3).f2).length c268_2] 63 (0, 0))) := ⟨ZZ582304⟩
           have n3_ : Aside0 (Below w.heap.size w (((w48.setCell ⟨gb269, 0, none⟩ (.int .i64 ((rd_T63 l0_1 x54_3).f0))).setCell ⟨gb269, 1, none⟩ (.string ((rd_T63 l0_1 x54_3).f1))).setCell ⟨gb269, 2, none⟩ (.slice A268_2 ((rd_T63 l0_1 x54_3).f2).length c268_2))) := ⟨ZZ295621⟩
           (try clear HO_5)
           (try clear BK245)
           (try clear BK269)
           (try clear HB)
           generalize (((w48.setCell ⟨gb269, 0, none⟩ (.int .i64 ((rd_T63 l0_1 x54_3).f0))).setCell ⟨gb269, 1, none⟩ (.string ((rd_T63 l0_1 x54_3).f1))).setCell ⟨gb269, 2, none⟩ (.slice A268_2 ((rd_T63 l0_1 x54_3).f2).length c268_2)) = w71 at n0_ n1_ n2_ n3_ ⊢
           have HO_5 := n0_
           have BK245 := n1_
           have BK269 := n2_
           have HB := n3_
           clear n0_ n1_ n2_ n3_
           replace HO_5 := Aside0.mk (Kd.R_drew HO_5.out)
           replace BK245 := Aside0.mk (blk_drew BK245.out)
           replace BK269 := Aside0.mk (blk_drew BK269.out)
           replace HB := Aside0.mk (below_drew1 HB.out)
           refine start_ (n := 34) (S := fun w' => w'.cell? ⟨gb269, 0, none⟩ = some (.int .i64 ((rd_T63 l0_1 x54_3).f0)) ∧ w'.cell? ⟨gb269, 1, none⟩ = some (.string ((rd_T63 l0_1 x54_3).f1)) ∧ w'.cell? ⟨gb269, 2, none⟩ = some (.slice A268_2 ((rd_T63 l0_1 x54_3).f2).length c268_2) ∧ w'.cell? ⟨gb245, 0, none⟩ = some (.slice A0_0 l0_0.length c0_0) ∧ w'.cell? ⟨gb245, 1, none⟩ = some (.slice (some ad268) l0_1.length c0_1)) (ds := []) #[false, false, false, false, false, false, false, false, false, false, false, false, false, false, false, false, false, false, false, false, false, false, false, false, false, false, false, false, false, false, false, false, false, false] (by kernel_rfl) rfl rfl ⟨(blk_cell BK269.out 0).trans rfl, (blk_cell BK269.out 1).trans rfl, (blk_cell BK269.out 2).trans rfl, (blk_cell BK245.out 0).trans rfl, (blk_cell BK245.out 1).trans rfl⟩ (fun hHeld => ?_); refine with_tabW impl_IsValidLedger.tab13 impl_IsValidLedger.bits13 (fun HT_ HW_ => ?_)
           generalize w71.drew = w72 at HO_5 BK245 BK269 HB hHeld ⊢
           refine pu 0 59 ?_
           refine tk 1 60 ?_
           refine one_ (i := 2) (N := some 61) #[true, true, true, false, false, false, false, false, false, false, false, false, false, false, false, false, false, false, false, false, false, false, false, false, false, false, false, false, false, false, false, false, false, false] rfl rfl (one_of HT_.out (by kernel_rfl)) (by decide) (fun K hK => ?_)
           refine goes_ Tryd.func59 (by kernel_rfl) rfl #[.int .i64 ((rd_T63 l0_1 x54_3).f0)] (by rfl) rfl rfl ZZ19826e ?_
           with_reducible refine (impl_isDay.calls ((rd_T63 l0_1 x54_3).f0) true _ A51.out).mono ?_
           rintro e w' ⟨rfl, ⟨nd, rfl⟩⟩
           refine ⟨_, rfl, ?_⟩
           refine hK.out _ _ ⟨(blk_cell BK269.out 0).trans rfl, (blk_cell BK269.out 1).trans rfl, (blk_cell BK269.out 2).trans rfl, (blk_cell BK245.out 0).trans rfl, (blk_cell BK245.out 1).trans rfl⟩ (fun hHeld => ?_)
           clear hK K
           refine norm_ (a' := ?_) ?_ ?_
           rotate_left
           ·show Act.put _ (some 61) _ = _
            simp only [Act.put, List.setIfInBounds_toArray, List.set_cons_zero, List.set_cons_succ, i64_w, i32_w]
            rfl
           refine pu 3 62 ?_
           refine pu 4 63 ?_
           refine pu 5 64 ?_
           refine pu 6 65 ?_
           refine pu 7 66 ?_
           refine pn 8 67 ?_
           refine pn 9 68 ?_
           refine pn 10 69 ?_
           refine pn 11 70 ?_
           refine pn 12 71 ?_
           refine pn 13 72 ?_
           refine pn 14 73 ?_
           refine pn 15 74 ?_
           refine pn 16 75 ?_
           refine pn 17 76 ?_
           refine pu 18 77 ?_
           refine pu 19 78 ?_
           refine pu 20 79 ?_
           refine pu 21 80 ?_
           refine tk 22 81 ?_
           refine one_ (i := 23) (N := some 82) #[true, true, true, true, true, true, true, true, true, true, true, true, true, true, true, true, true, true, true, true, true, true, true, true, false, false, false, false, false, false, false, false, false, false] rfl rfl (one_of HT_.out (by kernel_rfl)) (by decide) (fun K hK => ?_)
           refine goes_ Tryd.func60 (by kernel_rfl) rfl #[.string ((rd_T63 l0_1 x54_3).f1)] (by rfl) rfl rfl ZZ19826e ?_
           with_reducible refine (impl_isMemo.calls k3 ((rd_T63 l0_1 x54_3).f1) true _ A68.out).mono ?_
           rintro e w' ⟨rfl, ⟨nd, rfl⟩⟩
           refine ⟨_, rfl, ?_⟩
           refine hK.out _ _ ⟨(blk_cell BK269.out 0).trans rfl, (blk_cell BK269.out 1).trans rfl, (blk_cell BK269.out 2).trans rfl, (blk_cell BK245.out 0).trans rfl, (blk_cell BK245.out 1).trans rfl⟩ (fun hHeld => ?_)
           clear hK K
           refine norm_ (a' := ?_) ?_ ?_
           rotate_left
           ·show Act.put _ (some 82) _ = _
            simp only [Act.put, List.setIfInBounds_toArray, List.set_cons_zero, List.set_cons_succ, i64_w, i32_w]
            rfl
           refine pu 24 83 ?_
           refine pu 25 84 ?_
           refine pu 26 85 ?_
           refine pu 28 87 ?_
           refine tk 27 86 ?_
           refine tk 29 88 ?_
           refine pu 30 89 ?_
           refine one_ (i := 31) (N := some 90) #[true, true, true, true, true, true, true, true, true, true, true, true, true, true, true, true, true, true, true, true, true, true, true, true, true, true, true, true, true, true, true, true, false, false] rfl rfl (one_of HT_.out (by kernel_rfl)) (by decide) (fun K hK => ?_)
           refine goes_ Tryd.func61 (by kernel_rfl) rfl #[.agg #[.int .i64 ((rd_T63 l0_1 x54_3).f0), .string ((rd_T63 l0_1 x54_3).f1), .slice A268_2 ((rd_T63 l0_1 x54_3).f2).length c268_2], .int .i64 (l0_0.length : Int)] (by rfl) rfl rfl ZZ19826e ?_
           with_reducible refine (impl_isPosted.calls k3 ((rd_T63 l0_1 x54_3).f0) ((rd_T63 l0_1 x54_3).f1) _ _ ((rd_T63 l0_1 x54_3).f2) (l0_0.length : Int) t275 _ ?side1 ?side2 A70.out).mono ?_
           (case side1 => repeat (first | exact (Kd.C_below HR268_2.out ZZ295621) | (with_reducible refine Kd.C_alloc ?_ _) | (with_reducible refine Kd.C_drewN ?_ _) | (with_reducible refine Kd.C_drew ?_)))
           (case side2 => exact HC268_2.out)
           rintro e w73 ⟨rfl, hb⟩
           refine ⟨_, rfl, ?_⟩
           replace HO_5 := Aside0.mk (Kd.R_below (zR HO_5) hb)
           replace BK245 := Aside0.mk (blk_below (zB BK245) hb)
           replace BK269 := Aside0.mk (blk_below (zB BK269) hb)
           replace HB := Aside0.mk (below_step ZZ295621 hb)
           (try clear hb)
           (try clear hb2)
           (try clear hk)
           (try clear hi)
           refine hK.out _ _ ⟨(blk_cell BK269.out 0).trans rfl, (blk_cell BK269.out 1).trans rfl, (blk_cell BK269.out 2).trans rfl, (blk_cell BK245.out 0).trans rfl, (blk_cell BK245.out 1).trans rfl⟩ (fun hHeld => ?_)
           clear hK K
           refine norm_ (a' := ?_) ?_ ?_
           rotate_left
           ·show Act.put _ (some 90) _ = _
            simp only [Act.put, List.setIfInBounds_toArray, List.set_cons_zero, List.set_cons_succ, i64_w, i32_w]
            rfl
           refine pu 32 91 ?_
           refine pu 33 92 ?_
           refine done_ (done_of HT_.out (by kernel_rfl)) ?_
           try go_wp2
           go_meet
           case rel => exact ⟨_, (!t275), ZZ0ab324, H', ⟨(by have := HJ1.out; have := HK2.out; have := HK3.out; first | omega | exact Nat.le_refl _)⟩, ⟨(zR HO_5)⟩, ⟨(zB BK245)⟩, ⟨(zB BK269)⟩, ⟨ZZ295621⟩⟩
          replace c69 := Bool.eq_false_iff.mpr c69
          subst c69
          have H1 : (impl_IsValidLedger.j4 k3 x5_3 l0_1 (l0_1.length : Int) x54_3 true l0_0 l0_1 ((rd_T63 l0_1 x54_3).f0) ((rd_T63 l0_1 x54_3).f1) ((rd_T63 l0_1 x54_3).f2)) = some r := by rw [if_neg (show ¬ (false = true) by decide)] at H; exact H
          clear H
          have H := H1
          clear H1
          have H' := Aside0.mk H
          clear H
          try go_wp2
          have n0_ : Aside0 (Kd.R (Kd.int .i64) 3 (((w48.setCell ⟨gb269, 0, none⟩ (.int .i64 ((rd_T63 l0_1 x54_3).f0))).setCell ⟨gb269, 1, none⟩ (.string ((rd_T63 l0_1 x54_3).f1))).setCell ⟨gb269, 2, none⟩ (.slice A268_2 ((rd_T63 l0_1 x54_3).f2).length c268_2)) w.heap.size (fun _ => True) v266 x5_3) := ⟨ZZ26f029⟩
          have n1_ : Aside0 ((((w48.setCell ⟨gb269, 0, none⟩ (.int .i64 ((rd_T63 l0_1 x54_3).f0))).setCell ⟨gb269, 1, none⟩ (.string ((rd_T63 l0_1 x54_3).f1))).setCell ⟨gb269, 2, none⟩ (.slice A268_2 ((rd_T63 l0_1 x54_3).f2).length c268_2)).heap[gb245]? = some (.cells #[.slice A0_0 l0_0.length c0_0, .slice (some ad268) l0_1.length c0_1] 31 (0, 0))) := ⟨ZZ08a298⟩
          have n2_ : Aside0 ((((w48.setCell ⟨gb269, 0, none⟩ (.int .i64 ((rd_T63 l0_1 x54_3).f0))).setCell ⟨gb269, 1, none⟩ (.string ((rd_T63 l0_1 x54_3).f1))).setCell ⟨gb269, 2, none⟩ (.slice A268_2 ((rd_T63 l0_1 x54_3).f2).length c268_2)).heap[gb269]? = some (.cells #[.int .i64 ((rd_T63 l0_1 x54_3).f0), .string ((rd_T63 l0_1 x54_3).f1), .slice A268_2 ((rd_T63 l0_1 x54_3).f2).length c268_2] 63 (0, 0))) := ⟨ZZ582304⟩
          have n3_ : Aside0 (Below w.heap.size w (((w48.setCell ⟨gb269, 0, none⟩ (.int .i64 ((rd_T63 l0_1 x54_3).f0))).setCell ⟨gb269, 1, none⟩ (.string ((rd_T63 l0_1 x54_3).f1))).setCell ⟨gb269, 2, none⟩ (.slice A268_2 ((rd_T63 l0_1 x54_3).f2).length c268_2))) := ⟨ZZ295621⟩
          (try clear HO_5)
          (try clear BK245)
          (try clear BK269)
          (try clear HB)
          generalize (((w48.setCell ⟨gb269, 0, none⟩ (.int .i64 ((rd_T63 l0_1 x54_3).f0))).setCell ⟨gb269, 1, none⟩ (.string ((rd_T63 l0_1 x54_3).f1))).setCell ⟨gb269, 2, none⟩ (.slice A268_2 ((rd_T63 l0_1 x54_3).f2).length c268_2)) = w74 at n0_ n1_ n2_ n3_ ⊢
          have HO_5 := n0_
          have BK245 := n1_
          have BK269 := n2_
          have HB := n3_
          clear n0_ n1_ n2_ n3_
          replace HO_5 := Aside0.mk (Kd.R_drew HO_5.out)
          replace BK245 := Aside0.mk (blk_drew BK245.out)
          replace BK269 := Aside0.mk (blk_drew BK269.out)
          replace HB := Aside0.mk (below_drew1 HB.out)
          refine start_ (n := 34) (S := fun w' => w'.cell? ⟨gb269, 0, none⟩ = some (.int .i64 ((rd_T63 l0_1 x54_3).f0)) ∧ w'.cell? ⟨gb269, 1, none⟩ = some (.string ((rd_T63 l0_1 x54_3).f1)) ∧ w'.cell? ⟨gb269, 2, none⟩ = some (.slice A268_2 ((rd_T63 l0_1 x54_3).f2).length c268_2)) (ds := []) #[false, false, false, false, false, false, false, false, false, false, false, false, false, false, false, false, false, false, false, false, false, false, false, false, false, false, false, false, false, false, false, false, false, false] (by kernel_rfl) rfl rfl ⟨(blk_cell BK269.out 0).trans rfl, (blk_cell BK269.out 1).trans rfl, (blk_cell BK269.out 2).trans rfl⟩ (fun hHeld => ?_); refine with_tabW impl_IsValidLedger.tab13 impl_IsValidLedger.bits13 (fun HT_ HW_ => ?_)
          generalize w74.drew = w75 at HO_5 BK245 BK269 HB hHeld ⊢
          refine pu 0 59 ?_
          refine tk 1 60 ?_
          refine one_ (i := 2) (N := some 61) #[true, true, true, false, false, false, false, false, false, false, false, false, false, false, false, false, false, false, false, false, false, false, false, false, false, false, false, false, false, false, false, false, false, false] rfl rfl (one_of HT_.out (by kernel_rfl)) (by decide) (fun K hK => ?_)
          refine goes_ Tryd.func59 (by kernel_rfl) rfl #[.int .i64 ((rd_T63 l0_1 x54_3).f0)] (by rfl) rfl rfl ZZ19826e ?_
          with_reducible refine (impl_isDay.calls ((rd_T63 l0_1 x54_3).f0) true _ A51.out).mono ?_
          rintro e w' ⟨rfl, ⟨nd, rfl⟩⟩
          refine ⟨_, rfl, ?_⟩
          refine hK.out _ _ ⟨(blk_cell BK269.out 0).trans rfl, (blk_cell BK269.out 1).trans rfl, (blk_cell BK269.out 2).trans rfl⟩ (fun hHeld => ?_)
          clear hK K
          refine norm_ (a' := ?_) ?_ ?_
          rotate_left
          ·show Act.put _ (some 61) _ = _
           simp only [Act.put, List.setIfInBounds_toArray, List.set_cons_zero, List.set_cons_succ, i64_w, i32_w]
           rfl
          refine pu 3 62 ?_
          refine pu 4 63 ?_
          refine pu 5 64 ?_
          refine pu 6 65 ?_
          refine pu 7 66 ?_
          refine pn 8 67 ?_
          refine pn 9 68 ?_
          refine pn 10 69 ?_
          refine pn 11 70 ?_
          refine pn 12 71 ?_
          refine pn 13 72 ?_
          refine pn 14 73 ?_
          refine pn 15 74 ?_
          refine pn 16 75 ?_
          refine pn 17 76 ?_
          refine pu 18 77 ?_
          refine pu 19 78 ?_
          refine pu 20 79 ?_
          refine pu 21 80 ?_
          refine tk 22 81 ?_
          refine one_ (i := 23) (N := some 82) #[true, true, true, true, true, true, true, true, true, true, true, true, true, true, true, true, true, true, true, true, true, true, true, true, false, false, false, false, false, false, false, false, false, false] rfl rfl (one_of HT_.out (by kernel_rfl)) (by decide) (fun K hK => ?_)
          refine goes_ Tryd.func60 (by kernel_rfl) rfl #[.string ((rd_T63 l0_1 x54_3).f1)] (by rfl) rfl rfl ZZ19826e ?_
          with_reducible refine (impl_isMemo.calls k3 ((rd_T63 l0_1 x54_3).f1) false _ A68.out).mono ?_
          rintro e w' ⟨rfl, ⟨nd, rfl⟩⟩
          refine ⟨_, rfl, ?_⟩
          refine hK.out _ _ ⟨(blk_cell BK269.out 0).trans rfl, (blk_cell BK269.out 1).trans rfl, (blk_cell BK269.out 2).trans rfl⟩ (fun hHeld => ?_)
          clear hK K
          refine norm_ (a' := ?_) ?_ ?_
          rotate_left
          ·show Act.put _ (some 82) _ = _
           simp only [Act.put, List.setIfInBounds_toArray, List.set_cons_zero, List.set_cons_succ, i64_w, i32_w]
           rfl
          refine pu 24 83 ?_
          refine pu 25 84 ?_
          refine pu 26 85 ?_
          refine pn 27 86 ?_
          refine pn 28 87 ?_
          refine pn 29 88 ?_
          refine pn 30 89 ?_
          refine pn 31 90 ?_
          refine pn 32 91 ?_
          refine pu 33 92 ?_
          refine done_ (done_of HT_.out (by kernel_rfl)) ?_
          try go_wp2
          go_meet
          case rel => exact ⟨_, (true), ZZ0ab324, H', ⟨(by have := HJ1.out; have := HK2.out; have := HK3.out; first | omega | exact Nat.le_refl _)⟩, ⟨(zR HO_5)⟩, ⟨(zB BK245)⟩, ⟨(zB BK269)⟩, ⟨ZZ295621⟩⟩
         replace c52 := Bool.eq_false_iff.mpr c52
         subst c52
         have H1 : (impl_IsValidLedger.j4 k3 x5_3 l0_1 (l0_1.length : Int) x54_3 true l0_0 l0_1 ((rd_T63 l0_1 x54_3).f0) ((rd_T63 l0_1 x54_3).f1) ((rd_T63 l0_1 x54_3).f2)) = some r := by rw [if_neg (show ¬ (false = true) by decide)] at H; exact H
         clear H
         have H := H1
         clear H1
         have H' := Aside0.mk H
         clear H
         try go_wp2
         have n0_ : Aside0 (Kd.R (Kd.int .i64) 3 (((w48.setCell ⟨gb269, 0, none⟩ (.int .i64 ((rd_T63 l0_1 x54_3).f0))).setCell ⟨gb269, 1, none⟩ (.string ((rd_T63 l0_1 x54_3).f1))).setCell ⟨gb269, 2, none⟩ (.slice A268_2 ((rd_T63 l0_1 x54_3).f2).length c268_2)) w.heap.size (fun _ => True) v266 x5_3) := ⟨ZZ26f029⟩
         have n1_ : Aside0 ((((w48.setCell ⟨gb269, 0, none⟩ (.int .i64 ((rd_T63 l0_1 x54_3).f0))).setCell ⟨gb269, 1, none⟩ (.string ((rd_T63 l0_1 x54_3).f1))).setCell ⟨gb269, 2, none⟩ (.slice A268_2 ((rd_T63 l0_1 x54_3).f2).length c268_2)).heap[gb245]? = some (.cells #[.slice A0_0 l0_0.length c0_0, .slice (some ad268) l0_1.length c0_1] 31 (0, 0))) := ⟨ZZ08a298⟩
         have n2_ : Aside0 ((((w48.setCell ⟨gb269, 0, none⟩ (.int .i64 ((rd_T63 l0_1 x54_3).f0))).setCell ⟨gb269, 1, none⟩ (.string ((rd_T63 l0_1 x54_3).f1))).setCell ⟨gb269, 2, none⟩ (.slice A268_2 ((rd_T63 l0_1 x54_3).f2).length c268_2)).heap[gb269]? = some (.cells #[.int .i64 ((rd_T63 l0_1 x54_3).f0), .string ((rd_T63 l0_1 x54_3).f1), .slice A268_2 ((rd_T63 l0_1 x54_3).f2).length c268_2] 63 (0, 0))) := ⟨ZZ582304⟩
         have n3_ : Aside0 (Below w.heap.size w (((w48.setCell ⟨gb269, 0, none⟩ (.int .i64 ((rd_T63 l0_1 x54_3).f0))).setCell ⟨gb269, 1, none⟩ (.string ((rd_T63 l0_1 x54_3).f1))).setCell ⟨gb269, 2, none⟩ (.slice A268_2 ((rd_T63 l0_1 x54_3).f2).length c268_2))) := ⟨ZZ295621⟩
         (try clear HO_5)
         (try clear BK245)
         (try clear BK269)
         (try clear HB)
         generalize (((w48.setCell ⟨gb269, 0, none⟩ (.int .i64 ((rd_T63 l0_1 x54_3).f0))).setCell ⟨gb269, 1, none⟩ (.string ((rd_T63 l0_1 x54_3).f1))).setCell ⟨gb269, 2, none⟩ (.slice A268_2 ((rd_T63 l0_1 x54_3).f2).length c268_2)) = w76 at n0_ n1_ n2_ n3_ ⊢
         have HO_5 := n0_
         have BK245 := n1_
         have BK269 := n2_
         have HB := n3_
         clear n0_ n1_ n2_ n3_
         replace HO_5 := Aside0.mk (Kd.R_drew HO_5.out)
         replace BK245 := Aside0.mk (blk_drew BK245.out)
         replace BK269 := Aside0.mk (blk_drew BK269.out)
         replace HB := Aside0.mk (below_drew1 HB.out)
         refine start_ (n := 34) (S := fun w' => w'.cell? ⟨gb269, 0, none⟩ = some (.int .i64 ((rd_T63 l0_1 x54_3).f0)) ∧ w'.cell? ⟨gb269, 1, none⟩ = some (.string ((rd_T63 l0_1 x54_3).f1)) ∧ w'.cell? ⟨gb269, 2, none⟩ = some (.slice A268_2 ((rd_T63 l0_1 x54_3).f2).length c268_2)) (ds := []) #[false, false, false, false, false, false, false, false, false, false, false, false, false, false, false, false, false, false, false, false, false, false, false, false, false, false, false, false, false, false, false, false, false, false] (by kernel_rfl) rfl rfl ⟨(blk_cell BK269.out 0).trans rfl, (blk_cell BK269.out 1).trans rfl, (blk_cell BK269.out 2).trans rfl⟩ (fun hHeld => ?_); refine with_tabW impl_IsValidLedger.tab13 impl_IsValidLedger.bits13 (fun HT_ HW_ => ?_)
         generalize w76.drew = w77 at HO_5 BK245 BK269 HB hHeld ⊢
         refine pu 0 59 ?_
         refine tk 1 60 ?_
         refine one_ (i := 2) (N := some 61) #[true, true, true, false, false, false, false, false, false, false, false, false, false, false, false, false, false, false, false, false, false, false, false, false, false, false, false, false, false, false, false, false, false, false] rfl rfl (one_of HT_.out (by kernel_rfl)) (by decide) (fun K hK => ?_)
         refine goes_ Tryd.func59 (by kernel_rfl) rfl #[.int .i64 ((rd_T63 l0_1 x54_3).f0)] (by rfl) rfl rfl ZZ19826e ?_
         with_reducible refine (impl_isDay.calls ((rd_T63 l0_1 x54_3).f0) false _ A51.out).mono ?_
         rintro e w' ⟨rfl, ⟨nd, rfl⟩⟩
         refine ⟨_, rfl, ?_⟩
         refine hK.out _ _ ⟨(blk_cell BK269.out 0).trans rfl, (blk_cell BK269.out 1).trans rfl, (blk_cell BK269.out 2).trans rfl⟩ (fun hHeld => ?_)
         clear hK K
         refine norm_ (a' := ?_) ?_ ?_
         rotate_left
         ·show Act.put _ (some 61) _ = _
          simp only [Act.put, List.setIfInBounds_toArray, List.set_cons_zero, List.set_cons_succ, i64_w, i32_w]
          rfl
         refine pu 3 62 ?_
         refine pu 4 63 ?_
         refine pn 5 64 ?_
         refine pn 6 65 ?_
         refine pn 7 66 ?_
         refine pn 8 67 ?_
         refine pn 9 68 ?_
         refine pn 10 69 ?_
         refine pn 11 70 ?_
         refine pn 12 71 ?_
         refine pn 13 72 ?_
         refine pn 14 73 ?_
         refine pn 15 74 ?_
         refine pn 16 75 ?_
         refine pn 17 76 ?_
         refine pn 18 77 ?_
         refine pu 19 78 ?_
         refine pu 20 79 ?_
         refine pn 21 80 ?_
         refine pn 22 81 ?_
         refine pn 23 82 ?_
         refine pn 24 83 ?_
         refine pu 25 84 ?_
         refine pu 26 85 ?_
         refine pn 27 86 ?_
         refine pn 28 87 ?_
         refine pn 29 88 ?_
         refine pn 30 89 ?_
         refine pn 31 90 ?_
         refine pn 32 91 ?_
         refine pu 33 92 ?_
         refine done_ (done_of HT_.out (by kernel_rfl)) ?_
         try go_wp2
         go_meet
         case rel => exact ⟨_, (true), ZZ0ab324, H', ⟨(by have := HJ1.out; have := HK2.out; have := HK3.out; first | omega | exact Nat.le_refl _)⟩, ⟨(zR HO_5)⟩, ⟨(zB BK245)⟩, ⟨(zB BK269)⟩, ⟨ZZ295621⟩⟩
        case rest =>
         clear HC47
         try clear c52
         try clear c61
         try clear c69
         obtain ⟨kq, x92_46, rfl, HA, HJ46, HO_5, BK245, BK269, HB⟩ := hcut
         cases kq with
         | zero => exact absurd HA.out (by simp [impl_IsValidLedger.j4])
         | succ kj46 =>
          have H := HA.out
          clear HA
          simp only [impl_IsValidLedger.j4] at H
          by_cases c78 : x92_46 = true
          ·subst c78
           have H1 : (some false) = some r := by rw [if_pos rfl] at H; exact H
           clear H
           have H := H1
           clear H1
           obtain rfl := Option.some.inj H
           go_wp2
           go_ret
           exact ⟨ZZab01d2, ZZ295621⟩
          replace c78 := Bool.eq_false_iff.mpr c78
          subst c78
          have H1 : (impl_IsValidLedger.l2 kj46 x5_3 l0_1 (l0_1.length : Int) x54_3 ((rd_T63 l0_1 x54_3).f2) (((rd_T63 l0_1 x54_3).f2).length : Int) 0 l0_0 l0_1) = some r := by rw [if_neg (show ¬ (false = true) by decide)] at H; exact H
          clear H
          have H := H1
          clear H1
          have H' := Aside0.mk H
          clear H
          have hnb79 := NB269_245.out
          have hnc79 := NB245_269.out
          have hcz80_0 : wc.cell? ⟨gb269, 0, none⟩ = some (.int .i64 ((rd_T63 l0_1 x54_3).f0)) := (blk_cell BK269.out 0).trans rfl
          have hcz80_1 : wc.cell? ⟨gb269, 1, none⟩ = some (.string ((rd_T63 l0_1 x54_3).f1)) := (blk_cell BK269.out 1).trans rfl
          have hcz80_2 : wc.cell? ⟨gb269, 2, none⟩ = some (.slice A268_2 ((rd_T63 l0_1 x54_3).f2).length c268_2) := (blk_cell BK269.out 2).trans rfl
          have hfz80_0 := blk_frozen BK269.out 0
          have hfz80_1 := blk_frozen BK269.out 1
          have hfz80_2 := blk_frozen BK269.out 2
          go_wp2
          go_loopg [96] kj46 (fun kq v96 w' => ∃ (x5_5 : List Int) (x96_5 : Int), v96 = .int .i64 x96_5 ∧ Aside0 (impl_IsValidLedger.l2 kq x5_5 l0_1 (l0_1.length : Int) x54_3 ((rd_T63 l0_1 x54_3).f2) (((rd_T63 l0_1 x54_3).f2).length : Int) x96_5 l0_0 l0_1 = some r) ∧ Aside0 (kq ≤ kj46) ∧ Aside0 (Kd.R (Kd.int .i64) 3 w' w.heap.size (fun _ => True) v266 x5_5) ∧ Aside0 (w'.heap[gb245]? = some (.cells #[(.slice A0_0 l0_0.length c0_0), (.slice (some ad268) l0_1.length c0_1)] 31 (0, 0))) ∧ Aside0 (w'.heap[gb269]? = some (.cells #[.int .i64 ((rd_T63 l0_1 x54_3).f0), .string ((rd_T63 l0_1 x54_3).f1), (.slice A268_2 ((rd_T63 l0_1 x54_3).f2).length c268_2)] 63 (0, 0))) ∧ Aside0 (Below w.heap.size w w'))
          case atStart => exact ⟨(x5_3), (0), ZZ0ab324, H', ⟨Nat.le_refl _⟩, ⟨(zR HO_5)⟩, ⟨(zB BK245)⟩, ⟨(zB BK269)⟩, ⟨ZZ295621⟩⟩
          case round =>
           clear H'
           try clear c78
           try clear hcz80_0
           try clear hcz80_1
           try clear hcz80_2
           try clear hfz80_0
           try clear hfz80_1
           try clear hfz80_2
           obtain ⟨x5_5, x96_5, rfl, HA, HK5, HO_5, BK245, BK269, HB⟩ := hrel
           cases gk with
           | zero => exact absurd HA.out (by simp [impl_IsValidLedger.l2])
           | succ k5 =>
            have H := HA.out
            clear HA
            simp only [impl_IsValidLedger.l2] at H
            by_cases c81 : x96_5 < (((rd_T63 l0_1 x54_3).f2).length : Int)
            ·rw [if_pos c81] at H
             have c81b0 := decide_eq_true c81
             clear c81
             obtain ⟨c82, H⟩ := ifY H
             have c82b0 := decide_eq_true c82
             clear c82
             obtain ⟨c83, H⟩ := ifY H
             have c83b0 := decide_eq_true c83
             clear c83
             obtain ⟨c84, H⟩ := ifY H
             have c84b0 := decide_eq_true c84
             clear c84
             obtain ⟨c85, H⟩ := ifY H
             have c85b0 := decide_eq_true c85
             clear c85
             obtain ⟨y279, hy279⟩ : ∃ y_ : List Int, y_ = (x5_5.set (((rd_T70 ((rd_T63 l0_1 x54_3).f2) x96_5).f0) : Int).toNat (wrap64 ((rd x5_5 ((rd_T70 ((rd_T63 l0_1 x54_3).f2) x96_5).f0)) + ((rd_T70 ((rd_T63 l0_1 x54_3).f2) x96_5).f1)))) := ⟨_, rfl⟩
             replace H : ((impl_isAmount.f (wrap64 ((rd x5_5 ((rd_T70 ((rd_T63 l0_1 x54_3).f2) x96_5).f0)) + ((rd_T70 ((rd_T63 l0_1 x54_3).f2) x96_5).f1)))).bind fun t281 => (if t281 = true then (impl_IsValidLedger.l2 k5 y279 l0_1 (l0_1.length : Int) x54_3 ((rd_T63 l0_1 x54_3).f2) (((rd_T63 l0_1 x54_3).f2).length : Int) (wrap64 (x96_5 + 1)) l0_0 l0_1) else (some false))) = some r := by first | (rw [hy279]; with_reducible exact H) | (have H2_ := (Option.bind_some _ _).symm.trans H; rw [hy279]; with_reducible exact H2_) | (have H2_ := (Option.bind_some _ _).symm.trans H; with_reducible exact H2_) | with_reducible exact H | (rw [hy279]; exact H) | exact H
             have Ny279 := Aside0.mk hy279
             clear hy279
             obtain ⟨t281, A88, H⟩ := bdY H
             by_cases c89 : t281 = true
             ·subst c89
              have H1 : (impl_IsValidLedger.l2 k5 y279 l0_1 (l0_1.length : Int) x54_3 ((rd_T63 l0_1 x54_3).f2) (((rd_T63 l0_1 x54_3).f2).length : Int) (wrap64 (x96_5 + 1)) l0_0 l0_1) = some r := by rw [if_pos rfl] at H; exact H
              clear H
              have H := H1
              clear H1
              have H' := Aside0.mk H
              clear H
              have p276 : 0 ≤ (x96_5 : Int) := of_decide_eq_true ZZ853400
              have q276 : x96_5 < (((rd_T63 l0_1 x54_3).f2).length : Int) := of_decide_eq_true ZZ853400
              obtain ⟨ad276, e276, hx276_0, hx276_1⟩ := at_T70 HR268_2.out x96_5 p276 q276
              cases e276
              replace hx276_0 := (HB.out.cell (World.block_lt_of_cell? w _ hx276_0)).trans hx276_0
              replace hx276_1 := (HB.out.cell (World.block_lt_of_cell? w _ hx276_1)).trans hx276_1
              replace p276 := eq_true p276
              replace q276 := eq_true q276
              try go_wp2_with (first | ((with_reducible refine gate_dst (N := 9) rfl ?_); (try (refine gate_guard (by rfl) ?_; dsimp only)); refine box_event ?hg (N := 9) ?hd (cs := #[.int .i64 0, .int .i64 0]) (t := 70) ?hr ?_; (case hd => rfl); (case hg => rfl); (case hr => first | (go_simp; done) | (go_simp; rfl)); intro gb277 hg w90 hbox hb; replace HO_5 := Aside0.mk (Kd.R_below (zR HO_5) hb); have BK277 := Aside0.mk (hbox); have GW277 := Aside0.mk ((by rw [hg]; exact (below_size ZZ295621) : w.heap.size ≤ gb277)); have GE277 := Aside0.mk ((by rw [hg]; exact (below_size ZZ295621) : w.heap.size ≤ gb277)); replace HB := Aside0.mk (below_step ZZ295621 hb); have NB245_277 := Aside0.mk ((by rw [hg]; exact Nat.ne_of_lt (blk_lt (zB BK245)) : gb245 ≠ gb277)); have NB277_245 := Aside0.mk ((by rw [hg]; exact Nat.ne_of_gt (blk_lt (zB BK245)) : gb277 ≠ gb245)); replace BK245 := Aside0.mk (blk_below (zB BK245) hb); have NB269_277 := Aside0.mk ((by rw [hg]; exact Nat.ne_of_lt (blk_lt (zB BK269)) : gb269 ≠ gb277)); have NB277_269 := Aside0.mk ((by rw [hg]; exact Nat.ne_of_gt (blk_lt (zB BK269)) : gb277 ≠ gb269)); replace BK269 := Aside0.mk (blk_below (zB BK269) hb); clear hb hbox hg; have hnb91 := NB277_245.out; have hnc91 := NB245_277.out; have hnb92 := NB277_269.out; have hnc92 := NB269_277.out; have hcz93_0 : w90.cell? ⟨gb277, 0, none⟩ = some (.int .i64 0) := (blk_cell BK277.out 0).trans rfl; have hcz93_1 : w90.cell? ⟨gb277, 1, none⟩ = some (.int .i64 0) := (blk_cell BK277.out 1).trans rfl; have hfz93_0 := blk_frozen BK277.out 0; have hfz93_1 := blk_frozen BK277.out 1))
              have n0_ : Aside0 (Kd.R (Kd.int .i64) 3 ((w90.setCell ⟨gb277, 0, none⟩ (.int .i64 ((rd_T70 ((rd_T63 l0_1 x54_3).f2) x96_5).f0))).setCell ⟨gb277, 1, none⟩ (.int .i64 ((rd_T70 ((rd_T63 l0_1 x54_3).f2) x96_5).f1))) w.heap.size (fun _ => True) v266 x5_5) := ⟨(by (with_reducible repeat (first | apply Kd.R_alloc | apply Kd.R_drewN | apply Kd.R_drew)); exact Kd.R_mono (Kd.R_far (p := ⟨gb277, 1, none⟩) (Kd.R_far (p := ⟨gb277, 0, none⟩) (Kd.R_types HO_5.out BK277.out (by decide)) (fun _ hk => hk.2) (.int .i64 ((rd_T70 ((rd_T63 l0_1 x54_3).f2) x96_5).f0))) (fun _ hk => hk.2) (.int .i64 ((rd_T70 ((rd_T63 l0_1 x54_3).f2) x96_5).f1))) (fun _ hk => trivial))⟩
              have n1_ : Aside0 (((w90.setCell ⟨gb277, 0, none⟩ (.int .i64 ((rd_T70 ((rd_T63 l0_1 x54_3).f2) x96_5).f0))).setCell ⟨gb277, 1, none⟩ (.int .i64 ((rd_T70 ((rd_T63 l0_1 x54_3).f2) x96_5).f1))).heap[gb245]? = some (.cells #[.slice A0_0 l0_0.length c0_0, .slice (some ad268) l0_1.length c0_1] 31 (0, 0))) := ⟨(by (with_reducible repeat (first | refine blk_drewN ?_ _ | refine blk_drew ?_ | refine blk_alloc ?_ _)); refine blk_far ?_ NB245_277.out _; (with_reducible repeat (first | refine blk_drewN ?_ _ | refine blk_drew ?_ | refine blk_alloc ?_ _)); refine blk_far ?_ NB245_277.out _; (with_reducible repeat (first | refine blk_drewN ?_ _ | refine blk_drew ?_ | refine blk_alloc ?_ _)); exact BK245.out)⟩
              have n2_ : Aside0 (((w90.setCell ⟨gb277, 0, none⟩ (.int .i64 ((rd_T70 ((rd_T63 l0_1 x54_3).f2) x96_5).f0))).setCell ⟨gb277, 1, none⟩ (.int .i64 ((rd_T70 ((rd_T63 l0_1 x54_3).f2) x96_5).f1))).heap[gb269]? = some (.cells #[.int .i64 ((rd_T63 l0_1 x54_3).f0), .string ((rd_T63 l0_1 x54_3).f1), .slice (some ad276) ((rd_T63 l0_1 x54_3).f2).length c268_2] 63 (0, 0))) := ⟨(by (with_reducible repeat (first | refine blk_drewN ?_ _ | refine blk_drew ?_ | refine blk_alloc ?_ _)); refine blk_far ?_ NB269_277.out _; (with_reducible repeat (first | refine blk_drewN ?_ _ | refine blk_drew ?_ | refine blk_alloc ?_ _)); refine blk_far ?_ NB269_277.out _; (with_reducible repeat (first | refine blk_drewN ?_ _ | refine blk_drew ?_ | refine blk_alloc ?_ _)); exact BK269.out)⟩
              have n3_ : Aside0 (((w90.setCell ⟨gb277, 0, none⟩ (.int .i64 ((rd_T70 ((rd_T63 l0_1 x54_3).f2) x96_5).f0))).setCell ⟨gb277, 1, none⟩ (.int .i64 ((rd_T70 ((rd_T63 l0_1 x54_3).f2) x96_5).f1))).heap[gb277]? = some (.cells #[.int .i64 ((rd_T70 ((rd_T63 l0_1 x54_3).f2) x96_5).f0), .int .i64 ((rd_T70 ((rd_T63 l0_1 x54_3).f2) x96_5).f1)] 70 (0, 0))) := ⟨(by (with_reducible repeat (first | refine blk_drewN ?_ _ | refine blk_drew ?_ | refine blk_alloc ?_ _)); refine blk_put (cs := #[.int .i64 ((rd_T70 ((rd_T63 l0_1 x54_3).f2) x96_5).f0), .int .i64 0]) ?_ 1 _ rfl; (with_reducible repeat (first | refine blk_drewN ?_ _ | refine blk_drew ?_ | refine blk_alloc ?_ _)); refine blk_put (cs := #[.int .i64 0, .int .i64 0]) ?_ 0 _ rfl; (with_reducible repeat (first | refine blk_drewN ?_ _ | refine blk_drew ?_ | refine blk_alloc ?_ _)); exact BK277.out)⟩
              have n4_ : Aside0 (Below w.heap.size w ((w90.setCell ⟨gb277, 0, none⟩ (.int .i64 ((rd_T70 ((rd_T63 l0_1 x54_3).f2) x96_5).f0))).setCell ⟨gb277, 1, none⟩ (.int .i64 ((rd_T70 ((rd_T63 l0_1 x54_3).f2) x96_5).f1)))) := ⟨ZZ295621⟩
              (try clear HO_5)
              (try clear BK245)
              (try clear BK269)
              (try clear BK277)
              (try clear HB)
              generalize ((w90.setCell ⟨gb277, 0, none⟩ (.int .i64 ((rd_T70 ((rd_T63 l0_1 x54_3).f2) x96_5).f0))).setCell ⟨gb277, 1, none⟩ (.int .i64 ((rd_T70 ((rd_T63 l0_1 x54_3).f2) x96_5).f1))) = w94 at n0_ n1_ n2_ n3_ n4_ ⊢
              have HO_5 := n0_
              have BK245 := n1_
              have BK269 := n2_
              have BK277 := n3_
              have HB := n4_
              clear n0_ n1_ n2_ n3_ n4_
              replace HO_5 := Aside0.mk (Kd.R_drew HO_5.out)
              replace BK245 := Aside0.mk (blk_drew BK245.out)
              replace BK269 := Aside0.mk (blk_drew BK269.out)
              replace BK277 := Aside0.mk (blk_drew BK277.out)
              replace HB := Aside0.mk (below_drew1 HB.out)
              obtain ⟨Ao96, co96, eo96⟩ := Kd.R_slice HO_5.out
              (first | subst eo96 | (injection eo96 with f1_ f2_ f3_; have f4_ := f1_.symm; have f5_ := f3_.symm; clear f1_ f2_ f3_; subst f4_; subst f5_))
              have p278 : 0 ≤ (((rd_T70 ((rd_T63 l0_1 x54_3).f2) x96_5).f0) : Int) := of_decide_eq_true ZZ853400
              have q278 : ((rd_T70 ((rd_T63 l0_1 x54_3).f2) x96_5).f0) < (x5_5.length : Int) := of_decide_eq_true ZZ853400
              obtain ⟨ad278, e278, hx278_0⟩ := Kd.at_int (Kd.R_reads' HO_5.out).2.2 ((rd_T70 ((rd_T63 l0_1 x54_3).f2) x96_5).f0) p278 q278
              cases e278
              replace p278 := eq_true p278
              replace q278 := eq_true q278
              have p86 : 0 ≤ (((rd_T70 ((rd_T63 l0_1 x54_3).f2) x96_5).f0) : Int) := of_decide_eq_true ZZ853400
              have q86 : (((rd_T70 ((rd_T63 l0_1 x54_3).f2) x96_5).f0) : Int) < ((x5_5.length : Int) : Int) := of_decide_eq_true ZZ853400
              obtain ⟨go86, co86, eo86, gb86, gl86, cl86, HG86⟩ := Kd.R_form HO_5.out (by omega)
              (first | cases eo86 | (injection eo86 with ea_ en_ ec_; (first | subst ea_ | (injection ea_ with ea_; subst ea_)); subst ec_; clear en_))
              have GB86 := Aside0.mk gb86
              have GG86 := Aside0.mk HG86
              clear gb86 gl86 HG86
              (first | simp only [add_plain] at hx278_0 | skip)
              obtain ⟨hx86_0, hf86_0⟩ := Kd.R_celln 0 HO_5.out (((rd_T70 ((rd_T63 l0_1 x54_3).f2) x96_5).f0) : Int) p86 q86
              replace p86 := eq_true p86
              replace q86 := eq_true q86
              have HP97 := Kd.R_putn HO_5.out (((rd_T70 ((rd_T63 l0_1 x54_3).f2) x96_5).f0) : Int) (wrap64 ((rd x5_5 ((rd_T70 ((rd_T63 l0_1 x54_3).f2) x96_5).f0)) + ((rd_T70 ((rd_T63 l0_1 x54_3).f2) x96_5).f1)))
              rw [← Ny279.out] at HP97
              have HQ97 := Aside0.mk HP97
              clear HP97
              refine start_ (n := 10) (S := fun w' => w'.cell? ⟨gb277, 0, none⟩ = some (.int .i64 ((rd_T70 ((rd_T63 l0_1 x54_3).f2) x96_5).f0)) ∧ w'.cell? ⟨gb277, 1, none⟩ = some (.int .i64 ((rd_T70 ((rd_T63 l0_1 x54_3).f2) x96_5).f1)) ∧ w'.cell? ⟨go86, (((rd_T70 ((rd_T63 l0_1 x54_3).f2) x96_5).f0)).toNat, none⟩ = some (.int .i64 (rd x5_5 ((rd_T70 ((rd_T63 l0_1 x54_3).f2) x96_5).f0)))) (ds := [9]) #[false, false, false, false, false, false, false, false, false, false] (by kernel_rfl) rfl rfl ⟨(blk_cell BK277.out 0).trans rfl, (blk_cell BK277.out 1).trans rfl, hx278_0⟩ (fun hHeld => ?_); refine with_tabW impl_IsValidLedger.tab18 impl_IsValidLedger.bits18 (fun HT_ HW_ => ?_)
              generalize w94.drew = w95 at HO_5 BK245 BK269 BK277 HB GG86 HQ97 hf86_0 hx278_0 hx86_0 hHeld ⊢
              refine pu 0 100 ?_
              refine pu 1 101 ?_
              refine pu 5 105 ?_
              refine tk 2 102 ?_
              refine pu 3 103 ?_
              refine tk 4 104 ?_
              refine tk 6 106 ?_
              refine pu 7 107 ?_
              refine pu 8 108 ?_
              refine last_ (i := 9) (N := none) #[true, true, true, true, true, true, true, true, true, true] rfl rfl (one_of HT_.out (by kernel_rfl)) (by decide) (fun K hK => ?_)
              refine skip_ (w1 := ?_) (by rfl) rfl ?_ ?_
              rotate_left
              ·go_simp
               rfl
              refine hK.out _ _ ?_
              clear hK K
              refine done_ (done_of HT_.out (by kernel_rfl)) ?_
              have hnb98 : gb277 ≠ go86 := (by have h_ := Kd.R_ne HO_5.out BK277.out (by decide); intro e_; exact h_ (by rw [e_]; rfl))
              have hnc98 : go86 ≠ gb277 := Ne.symm hnb98
              have hcz99_0 : w95.cell? ⟨gb277, 0, none⟩ = some (.int .i64 ((rd_T70 ((rd_T63 l0_1 x54_3).f2) x96_5).f0)) := (blk_cell BK277.out 0).trans rfl
              have hcz99_1 : w95.cell? ⟨gb277, 1, none⟩ = some (.int .i64 ((rd_T70 ((rd_T63 l0_1 x54_3).f2) x96_5).f1)) := (blk_cell BK277.out 1).trans rfl
              have hfz99_0 := blk_frozen BK277.out 0
              have hfz99_1 := blk_frozen BK277.out 1
              have p87 : 0 ≤ (((rd_T70 ((rd_T63 l0_1 x54_3).f2) x96_5).f0) : Int) := of_decide_eq_true ZZ853400
              have q87 : (((rd_T70 ((rd_T63 l0_1 x54_3).f2) x96_5).f0) : Int) < ((x5_5.length : Int) : Int) := of_decide_eq_true ZZ853400
              replace p87 := eq_true p87
              replace q87 := eq_true q87
              try go_wp2_with (first | ((with_reducible refine gate_callee (f := 62) rfl ?_); refine goesL_ (some 114) rfl rfl Tryd.func62 (by kernel_rfl) rfl #[.int .i64 (wrap64 ((rd x5_5 ((rd_T70 ((rd_T63 l0_1 x54_3).f2) x96_5).f0)) + ((rd_T70 ((rd_T63 l0_1 x54_3).f2) x96_5).f1)))] rfl ZZ19826e ?_; (with_reducible refine (impl_isAmount.calls (wrap64 ((rd x5_5 ((rd_T70 ((rd_T63 l0_1 x54_3).f2) x96_5).f0)) + ((rd_T70 ((rd_T63 l0_1 x54_3).f2) x96_5).f1))) true _ A88.out).mono ?_); rintro e w' ⟨rfl, ⟨nd, rfl⟩⟩; refine ⟨_, rfl, ?_⟩))
              go_roundg k5
              case measure => have := HJ1.out; have := HK2.out; have := HK3.out; have := HJ46.out; have := HK5.out; omega
              case rel => exact ⟨(y279), (wrap64 (x96_5 + 1)), ZZ0ab324, H', ⟨(by have := HJ1.out; have := HK2.out; have := HK3.out; have := HJ46.out; have := HK5.out; omega)⟩, ⟨(by (with_reducible repeat (first | apply Kd.R_alloc | apply Kd.R_drewN | apply Kd.R_drew)); exact HQ97.out)⟩, ⟨(by (with_reducible repeat (first | refine blk_drewN ?_ _ | refine blk_drew ?_ | refine blk_alloc ?_ _)); refine blk_far ?_ (by have h_ := Kd.R_ne HO_5.out BK245.out (by decide); intro e_; exact h_ (by rw [e_]; rfl)) _; (with_reducible repeat (first | refine blk_drewN ?_ _ | refine blk_drew ?_ | refine blk_alloc ?_ _)); exact BK245.out)⟩, ⟨(by (with_reducible repeat (first | refine blk_drewN ?_ _ | refine blk_drew ?_ | refine blk_alloc ?_ _)); refine blk_far ?_ (by have h_ := Kd.R_ne HO_5.out BK269.out (by decide); intro e_; exact h_ (by rw [e_]; rfl)) _; (with_reducible repeat (first | refine blk_drewN ?_ _ | refine blk_drew ?_ | refine blk_alloc ?_ _)); exact BK269.out)⟩, ⟨(by repeat (first | (with_reducible first | exact HB.out | apply below_alloc | apply pw_below_drewN | apply below_drew1 | refine below_set ?_ GB86.out | refine below_set ?_ GE245.out | refine below_set ?_ GE269.out | refine below_set ?_ GE277.out) | exact HB.out))⟩⟩
             replace c89 := Bool.eq_false_iff.mpr c89
             subst c89
             have H1 : (some false) = some r := by rw [if_neg (show ¬ (false = true) by decide)] at H; exact H
             clear H
             have H := H1
             clear H1
             obtain rfl := Option.some.inj H
             have p276 : 0 ≤ (x96_5 : Int) := of_decide_eq_true ZZ853400
             have q276 : x96_5 < (((rd_T63 l0_1 x54_3).f2).length : Int) := of_decide_eq_true ZZ853400
             obtain ⟨ad276, e276, hx276_0, hx276_1⟩ := at_T70 HR268_2.out x96_5 p276 q276
             cases e276
             replace hx276_0 := (HB.out.cell (World.block_lt_of_cell? w _ hx276_0)).trans hx276_0
             replace hx276_1 := (HB.out.cell (World.block_lt_of_cell? w _ hx276_1)).trans hx276_1
             replace p276 := eq_true p276
             replace q276 := eq_true q276
             try go_wp2_with (first | ((with_reducible refine gate_dst (N := 9) rfl ?_); (try (refine gate_guard (by rfl) ?_; dsimp only)); refine box_event ?hg (N := 9) ?hd (cs := #[.int .i64 0, .int .i64 0]) (t := 70) ?hr ?_; (case hd => rfl); (case hg => rfl); (case hr => first | (go_simp; done) | (go_simp; rfl)); intro gb277 hg w100 hbox hb; replace HO_5 := Aside0.mk (Kd.R_below (zR HO_5) hb); have BK277 := Aside0.mk (hbox); have GW277 := Aside0.mk ((by rw [hg]; exact (below_size ZZ295621) : w.heap.size ≤ gb277)); have GE277 := Aside0.mk ((by rw [hg]; exact (below_size ZZ295621) : w.heap.size ≤ gb277)); replace HB := Aside0.mk (below_step ZZ295621 hb); have NB245_277 := Aside0.mk ((by rw [hg]; exact Nat.ne_of_lt (blk_lt (zB BK245)) : gb245 ≠ gb277)); have NB277_245 := Aside0.mk ((by rw [hg]; exact Nat.ne_of_gt (blk_lt (zB BK245)) : gb277 ≠ gb245)); replace BK245 := Aside0.mk (blk_below (zB BK245) hb); have NB269_277 := Aside0.mk ((by rw [hg]; exact Nat.ne_of_lt (blk_lt (zB BK269)) : gb269 ≠ gb277)); have NB277_269 := Aside0.mk ((by rw [hg]; exact Nat.ne_of_gt (blk_lt (zB BK269)) : gb277 ≠ gb269)); replace BK269 := Aside0.mk (blk_below (zB BK269) hb); clear hb hbox hg; have hnb101 := NB277_245.out; have hnc101 := NB245_277.out; have hnb102 := NB277_269.out; have hnc102 := NB269_277.out; have hcz103_0 : w100.cell? ⟨gb277, 0, none⟩ = some (.int .i64 0) := (blk_cell BK277.out 0).trans rfl; have hcz103_1 : w100.cell? ⟨gb277, 1, none⟩ = some (.int .i64 0) := (blk_cell BK277.out 1).trans rfl; have hfz103_0 := blk_frozen BK277.out 0; have hfz103_1 := blk_frozen BK277.out 1))
             have n0_ : Aside0 (Kd.R (Kd.int .i64) 3 ((w100.setCell ⟨gb277, 0, none⟩ (.int .i64 ((rd_T70 ((rd_T63 l0_1 x54_3).f2) x96_5).f0))).setCell ⟨gb277, 1, none⟩ (.int .i64 ((rd_T70 ((rd_T63 l0_1 x54_3).f2) x96_5).f1))) w.heap.size (fun _ => True) v266 x5_5) := ⟨(by (with_reducible repeat (first | apply Kd.R_alloc | apply Kd.R_drewN | apply Kd.R_drew)); exact Kd.R_mono (Kd.R_far (p := ⟨gb277, 1, none⟩) (Kd.R_far (p := ⟨gb277, 0, none⟩) (Kd.R_types HO_5.out BK277.out (by decide)) (fun _ hk => hk.2) (.int .i64 ((rd_T70 ((rd_T63 l0_1 x54_3).f2) x96_5).f0))) (fun _ hk => hk.2) (.int .i64 ((rd_T70 ((rd_T63 l0_1 x54_3).f2) x96_5).f1))) (fun _ hk => trivial))⟩
             have n1_ : Aside0 (((w100.setCell ⟨gb277, 0, none⟩ (.int .i64 ((rd_T70 ((rd_T63 l0_1 x54_3).f2) x96_5).f0))).setCell ⟨gb277, 1, none⟩ (.int .i64 ((rd_T70 ((rd_T63 l0_1 x54_3).f2) x96_5).f1))).heap[gb245]? = some (.cells #[.slice A0_0 l0_0.length c0_0, .slice (some ad268) l0_1.length c0_1] 31 (0, 0))) := ⟨(by (with_reducible repeat (first | refine blk_drewN ?_ _ | refine blk_drew ?_ | refine blk_alloc ?_ _)); refine blk_far ?_ NB245_277.out _; (with_reducible repeat (first | refine blk_drewN ?_ _ | refine blk_drew ?_ | refine blk_alloc ?_ _)); refine blk_far ?_ NB245_277.out _; (with_reducible repeat (first | refine blk_drewN ?_ _ | refine blk_drew ?_ | refine blk_alloc ?_ _)); exact BK245.out)⟩
             have n2_ : Aside0 (((w100.setCell ⟨gb277, 0, none⟩ (.int .i64 ((rd_T70 ((rd_T63 l0_1 x54_3).f2) x96_5).f0))).setCell ⟨gb277, 1, none⟩ (.int .i64 ((rd_T70 ((rd_T63 l0_1 x54_3).f2) x96_5).f1))).heap[gb269]? = some (.cells #[.int .i64 ((rd_T63 l0_1 x54_3).f0), .string ((rd_T63 l0_1 x54_3).f1), .slice (some ad276) ((rd_T63 l0_1 x54_3).f2).length c268_2] 63 (0, 0))) := ⟨(by (with_reducible repeat (first | refine blk_drewN ?_ _ | refine blk_drew ?_ | refine blk_alloc ?_ _)); refine blk_far ?_ NB269_277.out _; (with_reducible repeat (first | refine blk_drewN ?_ _ | refine blk_drew ?_ | refine blk_alloc ?_ _)); refine blk_far ?_ NB269_277.out _; (with_reducible repeat (first | refine blk_drewN ?_ _ | refine blk_drew ?_ | refine blk_alloc ?_ _)); exact BK269.out)⟩
             have n3_ : Aside0 (((w100.setCell ⟨gb277, 0, none⟩ (.int .i64 ((rd_T70 ((rd_T63 l0_1 x54_3).f2) x96_5).f0))).setCell ⟨gb277, 1, none⟩ (.int .i64 ((rd_T70 ((rd_T63 l0_1 x54_3).f2) x96_5).f1))).heap[gb277]? = some (.cells #[.int .i64 ((rd_T70 ((rd_T63 l0_1 x54_3).f2) x96_5).f0), .int .i64 ((rd_T70 ((rd_T63 l0_1 x54_3).f2) x96_5).f1)] 70 (0, 0))) := ⟨(by (with_reducible repeat (first | refine blk_drewN ?_ _ | refine blk_drew ?_ | refine blk_alloc ?_ _)); refine blk_put (cs := #[.int .i64 ((rd_T70 ((rd_T63 l0_1 x54_3).f2) x96_5).f0), .int .i64 0]) ?_ 1 _ rfl; (with_reducible repeat (first | refine blk_drewN ?_ _ | refine blk_drew ?_ | refine blk_alloc ?_ _)); refine blk_put (cs := #[.int .i64 0, .int .i64 0]) ?_ 0 _ rfl; (with_reducible repeat (first | refine blk_drewN ?_ _ | refine blk_drew ?_ | refine blk_alloc ?_ _)); exact BK277.out)⟩
             have n4_ : Aside0 (Below w.heap.size w ((w100.setCell ⟨gb277, 0, none⟩ (.int .i64 ((rd_T70 ((rd_T63 l0_1 x54_3).f2) x96_5).f0))).setCell ⟨gb277, 1, none⟩ (.int .i64 ((rd_T70 ((rd_T63 l0_1 x54_3).f2) x96_5).f1)))) := ⟨ZZ295621⟩
             (try clear HO_5)
             (try clear BK245)
             (try clear BK269)
             (try clear BK277)
             (try clear HB)
             generalize ((w100.setCell ⟨gb277, 0, none⟩ (.int .i64 ((rd_T70 ((rd_T63 l0_1 x54_3).f2) x96_5).f0))).setCell ⟨gb277, 1, none⟩ (.int .i64 ((rd_T70 ((rd_T63 l0_1 x54_3).f2) x96_5).f1))) = w104 at n0_ n1_ n2_ n3_ n4_ ⊢
             have HO_5 := n0_
             have BK245 := n1_
             have BK269 := n2_
             have BK277 := n3_
             have HB := n4_
             clear n0_ n1_ n2_ n3_ n4_
             replace HO_5 := Aside0.mk (Kd.R_drew HO_5.out)
             replace BK245 := Aside0.mk (blk_drew BK245.out)
             replace BK269 := Aside0.mk (blk_drew BK269.out)
             replace BK277 := Aside0.mk (blk_drew BK277.out)
             replace HB := Aside0.mk (below_drew1 HB.out)
             obtain ⟨Ao106, co106, eo106⟩ := Kd.R_slice HO_5.out
             (first | subst eo106 | (injection eo106 with f1_ f2_ f3_; have f4_ := f1_.symm; have f5_ := f3_.symm; clear f1_ f2_ f3_; subst f4_; subst f5_))
             have p278 : 0 ≤ (((rd_T70 ((rd_T63 l0_1 x54_3).f2) x96_5).f0) : Int) := of_decide_eq_true ZZ853400
             have q278 : ((rd_T70 ((rd_T63 l0_1 x54_3).f2) x96_5).f0) < (x5_5.length : Int) := of_decide_eq_true ZZ853400
             obtain ⟨ad278, e278, hx278_0⟩ := Kd.at_int (Kd.R_reads' HO_5.out).2.2 ((rd_T70 ((rd_T63 l0_1 x54_3).f2) x96_5).f0) p278 q278
             cases e278
             replace p278 := eq_true p278
             replace q278 := eq_true q278
             have p86 : 0 ≤ (((rd_T70 ((rd_T63 l0_1 x54_3).f2) x96_5).f0) : Int) := of_decide_eq_true ZZ853400
             have q86 : (((rd_T70 ((rd_T63 l0_1 x54_3).f2) x96_5).f0) : Int) < ((x5_5.length : Int) : Int) := of_decide_eq_true ZZ853400
             obtain ⟨go86, co86, eo86, gb86, gl86, cl86, HG86⟩ := Kd.R_form HO_5.out (by omega)
             (first | cases eo86 | (injection eo86 with ea_ en_ ec_; (first | subst ea_ | (injection ea_ with ea_; subst ea_)); subst ec_; clear en_))
             have GB86 := Aside0.mk gb86
             have GG86 := Aside0.mk HG86
             clear gb86 gl86 HG86
             (first | simp only [add_plain] at hx278_0 | skip)
             obtain ⟨hx86_0, hf86_0⟩ := Kd.R_celln 0 HO_5.out (((rd_T70 ((rd_T63 l0_1 x54_3).f2) x96_5).f0) : Int) p86 q86
             replace p86 := eq_true p86
             replace q86 := eq_true q86
             have HP107 := Kd.R_putn HO_5.out (((rd_T70 ((rd_T63 l0_1 x54_3).f2) x96_5).f0) : Int) (wrap64 ((rd x5_5 ((rd_T70 ((rd_T63 l0_1 x54_3).f2) x96_5).f0)) + ((rd_T70 ((rd_T63 l0_1 x54_3).f2) x96_5).f1)))
             rw [← Ny279.out] at HP107
             have HQ107 := Aside0.mk HP107
             clear HP107
             refine start_ (n := 10) (S := fun w' => w'.cell? ⟨gb277, 0, none⟩ = some (.int .i64 ((rd_T70 ((rd_T63 l0_1 x54_3).f2) x96_5).f0)) ∧ w'.cell? ⟨gb277, 1, none⟩ = some (.int .i64 ((rd_T70 ((rd_T63 l0_1 x54_3).f2) x96_5).f1)) ∧ w'.cell? ⟨go86, (((rd_T70 ((rd_T63 l0_1 x54_3).f2) x96_5).f0)).toNat, none⟩ = some (.int .i64 (rd x5_5 ((rd_T70 ((rd_T63 l0_1 x54_3).f2) x96_5).f0)))) (ds := [9]) #[false, false, false, false, false, false, false, false, false, false] (by kernel_rfl) rfl rfl ⟨(blk_cell BK277.out 0).trans rfl, (blk_cell BK277.out 1).trans rfl, hx278_0⟩ (fun hHeld => ?_); refine with_tabW impl_IsValidLedger.tab18 impl_IsValidLedger.bits18 (fun HT_ HW_ => ?_)
             generalize w104.drew = w105 at HO_5 BK245 BK269 BK277 HB GG86 HQ107 hf86_0 hx278_0 hx86_0 hHeld ⊢
             refine pu 0 100 ?_
             refine pu 1 101 ?_
             refine pu 5 105 ?_
             refine tk 2 102 ?_
             refine pu 3 103 ?_
             refine tk 4 104 ?_
             refine tk 6 106 ?_
             refine pu 7 107 ?_
             refine pu 8 108 ?_
             refine last_ (i := 9) (N := none) #[true, true, true, true, true, true, true, true, true, true] rfl rfl (one_of HT_.out (by kernel_rfl)) (by decide) (fun K hK => ?_)
             refine skip_ (w1 := ?_) (by rfl) rfl ?_ ?_
             rotate_left
             ·go_simp
              rfl
             refine hK.out _ _ ?_
             clear hK K
             refine done_ (done_of HT_.out (by kernel_rfl)) ?_
             have hnb108 : gb277 ≠ go86 := (by have h_ := Kd.R_ne HO_5.out BK277.out (by decide); intro e_; exact h_ (by rw [e_]; rfl))
             have hnc108 : go86 ≠ gb277 := Ne.symm hnb108
             have hcz109_0 : w105.cell? ⟨gb277, 0, none⟩ = some (.int .i64 ((rd_T70 ((rd_T63 l0_1 x54_3).f2) x96_5).f0)) := (blk_cell BK277.out 0).trans rfl
             have hcz109_1 : w105.cell? ⟨gb277, 1, none⟩ = some (.int .i64 ((rd_T70 ((rd_T63 l0_1 x54_3).f2) x96_5).f1)) := (blk_cell BK277.out 1).trans rfl
             have hfz109_0 := blk_frozen BK277.out 0
             have hfz109_1 := blk_frozen BK277.out 1
             have p87 : 0 ≤ (((rd_T70 ((rd_T63 l0_1 x54_3).f2) x96_5).f0) : Int) := of_decide_eq_true ZZ853400
             have q87 : (((rd_T70 ((rd_T63 l0_1 x54_3).f2) x96_5).f0) : Int) < ((x5_5.length : Int) : Int) := of_decide_eq_true ZZ853400
             replace p87 := eq_true p87
             replace q87 := eq_true q87
             try go_wp2_with (first | ((with_reducible refine gate_callee (f := 62) rfl ?_); refine goesL_ (some 114) rfl rfl Tryd.func62 (by kernel_rfl) rfl #[.int .i64 (wrap64 ((rd x5_5 ((rd_T70 ((rd_T63 l0_1 x54_3).f2) x96_5).f0)) + ((rd_T70 ((rd_T63 l0_1 x54_3).f2) x96_5).f1)))] rfl ZZ19826e ?_; (with_reducible refine (impl_isAmount.calls (wrap64 ((rd x5_5 ((rd_T70 ((rd_T63 l0_1 x54_3).f2) x96_5).f0)) + ((rd_T70 ((rd_T63 l0_1 x54_3).f2) x96_5).f1))) false _ A88.out).mono ?_); rintro e w' ⟨rfl, ⟨nd, rfl⟩⟩; refine ⟨_, rfl, ?_⟩))
             go_ret
             exact ⟨ZZab01d2, (by repeat (first | (with_reducible first | exact HB.out | apply below_alloc | apply pw_below_drewN | apply below_drew1 | refine below_set ?_ GB86.out | refine below_set ?_ GE245.out | refine below_set ?_ GE269.out | refine below_set ?_ GE277.out) | exact HB.out))⟩
            rw [if_neg c81] at H
            have c81b0 := decide_eq_false c81
            clear c81
            have H' := Aside0.mk H
            clear H
            go_wp2
            go_roundg k5
            case measure => have := HJ1.out; have := HK2.out; have := HK3.out; have := HJ46.out; have := HK5.out; omega
            case rel => exact ⟨(x5_5), (wrap64 (x54_3 + 1)), ZZ0ab324, H', ⟨(by have := HJ1.out; have := HK2.out; have := HK3.out; have := HJ46.out; have := HK5.out; omega)⟩, ⟨(zR HO_5)⟩, ⟨(zB BK245)⟩, ⟨ZZ295621⟩⟩
       rw [if_neg c44] at H
       have c44b0 := decide_eq_false c44
       clear c44
       obtain rfl := Option.some.inj H
       go_wp2
       go_ret
       exact ⟨ZZab01d2, ZZ295621⟩
end Go.Proofs.YtccdjchaaeligaaDoor.XFnExactAccountStatement

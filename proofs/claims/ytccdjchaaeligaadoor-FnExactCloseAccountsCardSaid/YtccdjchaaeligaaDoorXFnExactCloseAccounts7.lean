import Derived.Test.YtccdjchaaeligaaDoorXFnExactCloseAccounts1
import Derived.Test.YtccdjchaaeligaaDoorXFnExactCloseAccounts0
import Derived.Test.YtccdjchaaeligaaDoorXFnExactCloseAccounts4
import Derived.Test.YtccdjchaaeligaaDoorXFnExactCloseAccounts5
import Derived.Test.YtccdjchaaeligaaDoorXFnExactCloseAccounts6
namespace Go.Proofs.YtccdjchaaeligaaDoor.XFnExactCloseAccounts
open Go.Proofs.YtccdjchaaeligaaDoor.Short Go.RowKit Go.Proofs.YtccdjchaaeligaaDoorW.PrintWords Go.Proofs.YtccdjchaaeligaaDoorW.PrintLast Go.Proofs.YtccdjchaaeligaaDoorW.PrintMore
attribute [local go_sem] max2_int min2_int max_two min_two max_three min_three max_four min_four
set_option linter.unusedVariables false
set_option linter.unusedSimpArgs false
theorem ZZcb3c2f {p : Prop} (h : p := by refine bd ?_; refine blk_far ?_ NB189_191.out _; refine bd ?_; refine blk_far ?_ NB189_191.out _; refine bd ?_; exact BK189.out) : p := h
theorem ZZb5a793 {p : Prop} (h : p := by refine bd ?_; refine blk_put (cs := #[.string ((rd_T48 l0_0 x23_2).f0), .int .i64 0]) ?_ 1 _ rfl; refine bd ?_; refine blk_put (cs := #[.string (⟨#[]⟩ : ByteArray), .int .i64 0]) ?_ 0 _ rfl; refine bd ?_; exact BK191.out) : p := h
theorem ZZf114fb {p : Prop} (h : p := by subst hw_; refine bR ?_; exact Kd.R_mono (Kd.R_far (p := ⟨gb213, 2, none⟩) (Kd.R_far (p := ⟨gb213, 1, none⟩) (Kd.R_far (p := ⟨gb213, 0, none⟩) (Kd.R_types HO_5.out BK213.out (by decide)) (fun _ hk => hk.2) (.int .i64 ((rd_T63 l0_1 x54_3).f0))) (fun _ hk => hk.2) (.string ((rd_T63 l0_1 x54_3).f1))) (fun _ hk => hk.2) (.slice A212_2 ((rd_T63 l0_1 x54_3).f2).length c212_2)) (fun _ hk => trivial)) : p := h
theorem ZZa17de9 {p : Prop} (h : p := by subst hw_; refine bd ?_; refine blk_far ?_ NB189_213.out _; refine bd ?_; refine blk_far ?_ NB189_213.out _; refine bd ?_; refine blk_far ?_ NB189_213.out _; refine bd ?_; exact BK189.out) : p := h
theorem ZZ61f687 {p : Prop} (h : p := by subst hw_; refine bd ?_; refine blk_put (cs := #[.int .i64 ((rd_T63 l0_1 x54_3).f0), .string ((rd_T63 l0_1 x54_3).f1), .slice none 0 0]) ?_ 2 _ rfl; refine bd ?_; refine blk_put (cs := #[.int .i64 ((rd_T63 l0_1 x54_3).f0), .string (⟨#[]⟩ : ByteArray), .slice none 0 0]) ?_ 1 _ rfl; refine bd ?_; refine blk_put (cs := #[.int .i64 0, .string (⟨#[]⟩ : ByteArray), .slice none 0 0]) ?_ 0 _ rfl; refine bd ?_; exact BK213.out) : p := h
mutual
def impl_IsValidLedger.j0 : Nat → Bool → List (S48) → List (S63) → Option (Bool)
 | 0, _, _, _ => none
 | k + 1, x19, x190000, x190001 => if x19 = true then (some false) else (impl_IsValidLedger.l0 k x190000 (x190000.length : Int) 0 x190000 x190001)
def impl_IsValidLedger.l0 : Nat → List (S48) → Int → Int → List (S48) → List (S63) → Option (Bool)
 | 0, _, _, _, _, _ => none
 | k + 1, x21, x22, x23, x190000, x190001 => if x23 < x22 then (if 0 ≤ x23 then (if x23 < (x21.length : Int) then ((impl_isAccountName.f ((rd_T48 x21 x23).f0)).bind fun t192 => (if t192 = true then ((impl_within.f ((rd_T48 x21 x23).f1) 1 5).bind fun t193 => (if t193 = true then (if x23 ≤ (x190000.length : Int) then ((slices_ContainsFunc_Account_Account_impl_IsValidLedger_1.f k (x190000.take (x23 : Int).toNat) ((rd_T48 x21 x23).f0) ((rd_T48 x21 x23).f1)).bind fun bt206 => (impl_IsValidLedger.j2 k x21 x22 x23 bt206.1 x190000 x190001)) else (none)) else (impl_IsValidLedger.j2 k x21 x22 x23 true x190000 x190001))) else (impl_IsValidLedger.j2 k x21 x22 x23 true x190000 x190001))) else (none)) else (none)) else (if 0 ≤ (x190000.length : Int) then (if ((x190000.length : Int) : Int).toNat ≤ 35184372088832 then (impl_IsValidLedger.l1 k (List.replicate ((x190000.length : Int) : Int).toNat 0) x190001 (x190001.length : Int) 0 x190000 x190001) else (none)) else (none))
def impl_IsValidLedger.j2 : Nat → List (S48) → Int → Int → Bool → List (S48) → List (S63) → Option (Bool)
 | 0, _, _, _, _, _, _ => none
 | k + 1, x21, x22, x23, x45, x190000, x190001 => if x45 = true then (some false) else (impl_IsValidLedger.l0 k x21 x22 (wrap64 (x23 + 1)) x190000 x190001)
def impl_IsValidLedger.l1 : Nat → List Int → List (S63) → Int → Int → List (S48) → List (S63) → Option (Bool)
 | 0, _, _, _, _, _, _ => none
 | k + 1, x5, x52, x53, x54, x190000, x190001 => if x54 < x53 then (if 0 ≤ x54 then (if x54 < (x52.length : Int) then ((impl_isDay.f ((rd_T63 x52 x54).f0)).bind fun t214 => (if t214 = true then (if x54 > 0 then (if 0 ≤ (wrap64 (x54 - 1)) then (if (wrap64 (x54 - 1)) < (x190001.length : Int) then (if ((rd_T63 x52 x54).f0) < ((rd_T63 x190001 (wrap64 (x54 - 1))).f0) then (impl_IsValidLedger.j4 k x5 x52 x53 x54 true x190000 x190001 ((rd_T63 x52 x54).f0) ((rd_T63 x52 x54).f1) ((rd_T63 x52 x54).f2)) else ((impl_isMemo.f k ((rd_T63 x52 x54).f1)).bind fun t216 => (if t216 = true then ((impl_isPosted.f k ((rd_T63 x52 x54).f0) ((rd_T63 x52 x54).f1) ((rd_T63 x52 x54).f2) (x190000.length : Int)).bind fun t217 => (impl_IsValidLedger.j4 k x5 x52 x53 x54 (!t217) x190000 x190001 ((rd_T63 x52 x54).f0) ((rd_T63 x52 x54).f1) ((rd_T63 x52 x54).f2))) else (impl_IsValidLedger.j4 k x5 x52 x53 x54 true x190000 x190001 ((rd_T63 x52 x54).f0) ((rd_T63 x52 x54).f1) ((rd_T63 x52 x54).f2))))) else (none)) else (none)) else ((impl_isMemo.f k ((rd_T63 x52 x54).f1)).bind fun t218 => (if t218 = true then ((impl_isPosted.f k ((rd_T63 x52 x54).f0) ((rd_T63 x52 x54).f1) ((rd_T63 x52 x54).f2) (x190000.length : Int)).bind fun t219 => (impl_IsValidLedger.j4 k x5 x52 x53 x54 (!t219) x190000 x190001 ((rd_T63 x52 x54).f0) ((rd_T63 x52 x54).f1) ((rd_T63 x52 x54).f2))) else (impl_IsValidLedger.j4 k x5 x52 x53 x54 true x190000 x190001 ((rd_T63 x52 x54).f0) ((rd_T63 x52 x54).f1) ((rd_T63 x52 x54).f2))))) else (impl_IsValidLedger.j4 k x5 x52 x53 x54 true x190000 x190001 ((rd_T63 x52 x54).f0) ((rd_T63 x52 x54).f1) ((rd_T63 x52 x54).f2)))) else (none)) else (none)) else (some true)
def impl_IsValidLedger.j4 : Nat → List Int → List (S63) → Int → Int → Bool → List (S48) → List (S63) → Int → ByteArray → List (S70) → Option (Bool)
 | 0, _, _, _, _, _, _, _, _, _, _ => none
 | k + 1, x5, x52, x53, x54, x92, x190000, x190001, x214000, x214001, x214002 => if x92 = true then (some false) else (impl_IsValidLedger.l2 k x5 x52 x53 x54 x214002 (x214002.length : Int) 0 x190000 x190001)
def impl_IsValidLedger.l2 : Nat → List Int → List (S63) → Int → Int → List (S70) → Int → Int → List (S48) → List (S63) → Option (Bool)
 | 0, _, _, _, _, _, _, _, _, _ => none
 | k + 1, x5, x52, x53, x54, x94, x95, x96, x190000, x190001 => if x96 < x95 then (if 0 ≤ x96 then (if x96 < (x94.length : Int) then (if 0 ≤ ((rd_T70 x94 x96).f0) then (if ((rd_T70 x94 x96).f0) < (x5.length : Int) then ((impl_isAmount.f (wrap64 ((rd x5 ((rd_T70 x94 x96).f0)) + ((rd_T70 x94 x96).f1)))).bind fun t225 => (if t225 = true then (impl_IsValidLedger.l2 k (x5.set (((rd_T70 x94 x96).f0) : Int).toNat (wrap64 ((rd x5 ((rd_T70 x94 x96).f0)) + ((rd_T70 x94 x96).f1)))) x52 x53 x54 x94 x95 (wrap64 (x96 + 1)) x190000 x190001) else (some false))) else (none)) else (none)) else (none)) else (none)) else (impl_IsValidLedger.l1 k x5 x52 x53 (wrap64 (x54 + 1)) x190000 x190001)
end
def impl_IsValidLedger.f (k : Nat) (l0_0 : List (S48)) (l0_1 : List (S63)) : Option (Bool) := if (l0_0.length : Int) > 12 then (impl_IsValidLedger.j0 k true l0_0 l0_1) else (impl_IsValidLedger.j0 k (decide ((l0_1.length : Int) > 40)) l0_0 l0_1)
theorem impl_IsValidLedger.mono_l : ∀ k, (∀ y0 y1 y2, LeO (impl_IsValidLedger.j0 k y0 y1 y2) (impl_IsValidLedger.j0 (k + 1) y0 y1 y2)) ∧ (∀ y0 y1 y2 y3 y4, LeO (impl_IsValidLedger.l0 k y0 y1 y2 y3 y4) (impl_IsValidLedger.l0 (k + 1) y0 y1 y2 y3 y4)) ∧ (∀ y0 y1 y2 y3 y4 y5, LeO (impl_IsValidLedger.j2 k y0 y1 y2 y3 y4 y5) (impl_IsValidLedger.j2 (k + 1) y0 y1 y2 y3 y4 y5)) ∧ (∀ y0 y1 y2 y3 y4 y5, LeO (impl_IsValidLedger.l1 k y0 y1 y2 y3 y4 y5) (impl_IsValidLedger.l1 (k + 1) y0 y1 y2 y3 y4 y5)) ∧ (∀ y0 y1 y2 y3 y4 y5 y6 y7 y8 y9, LeO (impl_IsValidLedger.j4 k y0 y1 y2 y3 y4 y5 y6 y7 y8 y9) (impl_IsValidLedger.j4 (k + 1) y0 y1 y2 y3 y4 y5 y6 y7 y8 y9)) ∧ (∀ y0 y1 y2 y3 y4 y5 y6 y7 y8, LeO (impl_IsValidLedger.l2 k y0 y1 y2 y3 y4 y5 y6 y7 y8) (impl_IsValidLedger.l2 (k + 1) y0 y1 y2 y3 y4 y5 y6 y7 y8))
 | 0 => ⟨fun _ _ _ r h => by simp [impl_IsValidLedger.j0] at h, fun _ _ _ _ _ r h => by simp [impl_IsValidLedger.l0] at h, fun _ _ _ _ _ _ r h => by simp [impl_IsValidLedger.j2] at h, fun _ _ _ _ _ _ r h => by simp [impl_IsValidLedger.l1] at h, fun _ _ _ _ _ _ _ _ _ _ r h => by simp [impl_IsValidLedger.j4] at h, fun _ _ _ _ _ _ _ _ _ r h => by simp [impl_IsValidLedger.l2] at h⟩
 | k + 1 => by
  obtain ⟨ih0, ih1, ih2, ih3, ih4, ih5⟩ := impl_IsValidLedger.mono_l k
  refine ⟨?_, ?_, ?_, ?_, ?_, ?_⟩
  all_goals intros
  all_goals (first | unfold impl_IsValidLedger.j0 | unfold impl_IsValidLedger.l0 | unfold impl_IsValidLedger.j2 | unfold impl_IsValidLedger.l1 | unfold impl_IsValidLedger.j4 | unfold impl_IsValidLedger.l2)
  all_goals
   repeat' with_reducible first | apply ih0 | apply ih1 | apply ih2 | apply ih3 | apply ih4 | apply ih5 | apply impl_isMemo.mono | apply impl_isPosted.mono | apply slices_ContainsFunc_Account_Account_impl_IsValidLedger_1.mono | exact LeO.refl _ | exact LeO.none _ | refine LeO.ite ?_ ?_ | refine LeO.bind ?_ (fun _ => ?_)
theorem impl_IsValidLedger.mono : ∀ a0 a1 k, LeO (impl_IsValidLedger.f k a0 a1) (impl_IsValidLedger.f (k + 1) a0 a1) := by
 intro a0 a1 k
 obtain ⟨ih0, ih1, ih2, ih3, ih4, ih5⟩ := impl_IsValidLedger.mono_l k
 unfold impl_IsValidLedger.f
 repeat' with_reducible first | apply ih0 | apply ih1 | apply ih2 | apply ih3 | apply ih4 | apply ih5 | apply impl_isMemo.mono | apply impl_isPosted.mono | apply slices_ContainsFunc_Account_Account_impl_IsValidLedger_1.mono | exact LeO.refl _ | exact LeO.none _ | refine LeO.ite ?_ ?_ | refine LeO.bind ?_ (fun _ => ?_)
def impl_IsValidLedger.T13 : Bool × List (List Nat × List Nat) := (true, [([], []), ([0], [0]), ([1], [1]), ([2], [2]), ([3, 2], [3]), ([4], [4]), ([5, 4], [4, 5]), ([6, 4, 4], [4, 6]), ([7], [7]), ([8, 7], [7, 8]), ([7], [7]), ([10, 7], [7, 10]), ([7], [7]), ([12, 7], [7, 12]), ([11, 13, 7], [7, 11, 13]), ([14, 7], [7, 14]), ([15, 7], [7, 15]), ([9, 16, 7], [7, 9, 16]), ([7, 17, 4], [4, 7, 17]), ([4, 18], [4, 18]), ([19, 7], [19]), ([20], [20]), ([21, 20], [20, 21]), ([22, 20, 20], [20, 22]), ([23, 20], [20, 23]), ([20, 24], [20, 24]), ([25, 23], [25]), ([26], [26]), ([26], [26]), ([28, 26], [26, 28]), ([29, 26], [26, 29]), ([27, 30, 26, 26], [26, 27, 30]), ([31, 26], [26, 31]), ([26, 32], [26, 32])])
def impl_IsValidLedger.B13 : List Nat := [0, 1, 3, 7, 15, 31, 63, 127, 255, 511, 255, 1279, 255, 4351, 15615, 31999, 64767, 131071, 262143, 524287, 1048575, 2097151, 4194303, 8388607, 16777215, 33554431, 67108863, 134217727, 134217727, 402653183, 939524095, 2147483647, 4294967295, 8589934591]
theorem impl_IsValidLedger.tab13 : rtab .any (opsOf Tryd.f17 13) = impl_IsValidLedger.T13 := by kernel_rfl
theorem impl_IsValidLedger.bits13 : waitsOk impl_IsValidLedger.T13.2 impl_IsValidLedger.B13 = true := by kernel_rfl
def impl_IsValidLedger.T18 : Bool × List (List Nat × List Nat) := (true, [([], []), ([], []), ([1], [1]), ([0, 2], [0, 2]), ([3], [3]), ([], []), ([5], [5]), ([4, 6], [4, 6]), ([0, 2, 0, 1, 2, 3, 4, 5, 6, 7], [0, 2]), ([8, 7, 0, 1, 2, 3, 4, 5, 6, 7], [7, 8])])
def impl_IsValidLedger.B18 : List Nat := [0, 0, 2, 7, 15, 0, 32, 127, 255, 511]
theorem impl_IsValidLedger.tab18 : rtab .any (opsOf Tryd.f17 18) = impl_IsValidLedger.T18 := by kernel_rfl
theorem impl_IsValidLedger.bits18 : waitsOk impl_IsValidLedger.T18.2 impl_IsValidLedger.B18 = true := by kernel_rfl
set_option maxHeartbeats 8000000 in
set_option maxRecDepth 100000 in
theorem impl_IsValidLedger.calls (k : Nat) (A0_0 : Option Addr) (c0_0 : Nat) (l0_0 : List (S48)) (A0_1 : Option Addr) (c0_1 : Nat) (l0_1 : List (S63)) (r : Bool) (w : World) (hr0_0 : Kd.C k48 w A0_0 l0_0.length l0_0) (hc0_0 : l0_0.length ≤ c0_0) (hr0_1 : Kd.C k63 w A0_1 l0_1.length l0_1) (hc0_1 : l0_1.length ≤ c0_1) (h : impl_IsValidLedger.f k l0_0 l0_1 = some r) :
 Calls Tryd.prog 17 #[.agg #[.slice A0_0 l0_0.length c0_0, .slice A0_1 l0_1.length c0_1]] w fun e w' => e = .returned (.bool r) ∧ Below w.heap.size w w' := by
 have hu31 := Tryd.underlying31
 have hu48 := Tryd.underlying48
 have hu63 := Tryd.underlying63
 have hu70 := Tryd.underlying70
 have HR0_0 := Aside0.mk hr0_0
 have HC0_0 := Aside0.mk hc0_0
 clear hr0_0 hc0_0
 have HR0_1 := Aside0.mk hr0_1
 have HC0_1 := Aside0.mk hc0_1
 clear hr0_1 hc0_1
 have HB := Aside0.mk (Below.refl w.heap.size w)
 have H := h
 clear h
 unfold impl_IsValidLedger.f at H
 have HC2 := Aside0.mk H
 clear H
 go_enter Tryd.func17, Tryd.ntmps17
 go_upto_region 1 with (first | ((with_reducible refine gate_dst (N := 1) rfl ?_); (try (refine gate_guard (by rfl) ?_; dsimp only)); refine bx 1 (cs := #[.slice A0_0 l0_0.length c0_0, .slice A0_1 l0_1.length c0_1]) (t := 31) ?_; intro gb189 hg w3 hbox hb; have BK189 := Aside0.mk (hbox); have GW189 := gw hg; have GE189 := gw hg; replace HB := hB hb; clear hb hbox hg))
 (try simp only [Act.put, List.setIfInBounds_toArray, List.set_cons_zero, List.set_cons_succ])
 go_cut [19] (fun v19 wc => ∃ (kq : Nat) (x19_1 : Bool), v19 = .bool x19_1 ∧ Aside0 (impl_IsValidLedger.j0 kq x19_1 l0_0 l0_1 = some r) ∧ Aside0 (kq ≤ k) ∧ Aside0 (wc.heap[gb189]? = some (.cells #[(.slice A0_0 l0_0.length c0_0), (.slice A0_1 l0_1.length c0_1)] 31 (0, 0))) ∧ Aside0 (Below w.heap.size w wc))
 case first =>
  have H := HC2.out
  clear HC2
  by_cases c4 : (l0_0.length : Int) > 12
  ·rw [if_pos c4] at H
   have c4b0 : decide (12 < (l0_0.length : Int)) = true := decide_eq_true c4
   have c4b1 : decide (12 < l0_0.length) = true := decide_eq_true (by omega)
   clear c4
   (first | rw [c4b0] | (simp only [i64_w, i32_w]; rw [c4b0]) | skip)
   replace H := Aside0.mk H
   obtain ⟨hcz5_0, hcz5_1, hfz5_0, hfz5_1⟩ := z2 BK189
   go_wp2
   go_meet
   case rel => exact ⟨_, (true), ZZ0ab324, H, kle, ⟨(zB BK189)⟩, ⟨ZZ295621⟩⟩
  rw [if_neg c4] at H
  have c4b0 : decide (12 < (l0_0.length : Int)) = false := decide_eq_false c4
  have c4b1 : decide (12 < l0_0.length) = false := decide_eq_false (by omega)
  clear c4
  (first | rw [c4b0] | (simp only [i64_w, i32_w]; rw [c4b0]) | skip)
  replace H := Aside0.mk H
  obtain ⟨hcz6_0, hcz6_1, hfz6_0, hfz6_1⟩ := z2 BK189
  go_wp2
  go_meet
  case rel => exact ⟨_, (decide ((l0_1.length : Int) > 40)), ZZ0ab324, H, kle, ⟨(zB BK189)⟩, ⟨ZZ295621⟩⟩
 case rest =>
  clear HC2
  try clear c4
  try clear c4b0
  try clear c4b1
  try clear hcz5_0
  try clear hcz5_1
  try clear hcz6_0
  try clear hcz6_1
  try clear hfz5_0
  try clear hfz5_1
  try clear hfz6_0
  try clear hfz6_1
  obtain ⟨kq, x19_1, rfl, HA, HJ1, BK189, HB⟩ := hcut
  cases kq with
  | zero => exact absurd HA.out (by simp [impl_IsValidLedger.j0])
  | succ kj1 =>
   have H := HA.out
   clear HA
   simp only [impl_IsValidLedger.j0] at H
   by_cases c7 : x19_1 = true
   ·subst c7
    replace H := ifT H
    obtain rfl := Option.some.inj H
    go_wp2
    go_ret
    exact ⟨ZZab01d2, ZZ295621⟩
   replace c7 := Bool.eq_false_iff.mpr c7
   subst c7
   replace H := ifF H
   replace H := Aside0.mk H
   obtain ⟨hcz8_0, hcz8_1, hfz8_0, hfz8_1⟩ := z2 BK189
   go_wp2
   go_loopg [23] kj1 (fun kq v23 w' => ∃ (x23_2 : Int), v23 = .int .i64 x23_2 ∧ Aside0 (impl_IsValidLedger.l0 kq l0_0 (l0_0.length : Int) x23_2 l0_0 l0_1 = some r) ∧ Aside0 (kq ≤ kj1) ∧ Aside0 (w'.heap[gb189]? = some (.cells #[(.slice A0_0 l0_0.length c0_0), (.slice A0_1 l0_1.length c0_1)] 31 (0, 0))) ∧ Aside0 (Below w.heap.size w w'))
   case atStart => exact ⟨(0), ZZ0ab324, H, ⟨Nat.le_refl _⟩, ⟨(zB BK189)⟩, ⟨ZZ295621⟩⟩
   case round =>
    clear H
    try clear c7
    try clear hcz8_0
    try clear hcz8_1
    try clear hfz8_0
    try clear hfz8_1
    obtain ⟨x23_2, rfl, HA, HK2, BK189, HB⟩ := hrel
    cases gk with
    | zero => exact absurd HA.out (by simp [impl_IsValidLedger.l0])
    | succ k2 =>
     have H := HA.out
     clear HA
     simp only [impl_IsValidLedger.l0] at H
     by_cases c9 : x23_2 < (l0_0.length : Int)
     ·rw [if_pos c9] at H
      have c9b0 := decide_eq_true c9
      clear c9
      obtain ⟨c10b0, H⟩ := ifYd H
      obtain ⟨c11b0, H⟩ := ifYd H
      have HC12 := Aside0.mk H
      clear H
      have p190 : 0 ≤ (x23_2 : Int) := of_decide_eq_true ZZ853400
      have q190 : x23_2 < (l0_0.length : Int) := of_decide_eq_true ZZ853400
      obtain ⟨ad190, e190, hx190_0, hx190_1⟩ := at_T48 HR0_0.out x23_2 p190 q190
      cases e190
      replace hx190_0 := (HB.out.cell (World.block_lt_of_cell? w _ hx190_0)).trans hx190_0
      replace hx190_1 := (HB.out.cell (World.block_lt_of_cell? w _ hx190_1)).trans hx190_1
      replace p190 := eq_true p190
      replace q190 := eq_true q190
      go_upto_region 6 with (first | ((with_reducible refine gate_dst (N := 4) rfl ?_); (try (refine gate_guard (by rfl) ?_; dsimp only)); refine bx 4 (cs := #[.string (⟨#[]⟩ : ByteArray), .int .i64 0]) (t := 48) ?_; intro gb191 hg w13 hbox hb; have BK191 := Aside0.mk (hbox); have GW191 := gw hg; have GE191 := gw hg; replace HB := hB hb; have NB189_191 := nl hg BK189; have NB191_189 := ng hg BK189; replace BK189 := kb BK189 hb; clear hb hbox hg; have hnb14 := NB191_189.out; have hnc14 := NB189_191.out; obtain ⟨hcz15_0, hcz15_1, hfz15_0, hfz15_1⟩ := z2 BK191))
      (try simp only [Act.put, List.setIfInBounds_toArray, List.set_cons_zero, List.set_cons_succ])
      go_cut [45] (fun v45 wc => ∃ (kq : Nat) (x45_11 : Bool) (x192000_11 : ByteArray) (x192001_11 : Int), v45 = .bool x45_11 ∧ Aside0 (impl_IsValidLedger.j2 kq l0_0 (l0_0.length : Int) x23_2 x45_11 l0_0 l0_1 = some r) ∧ Aside0 (kq ≤ k2) ∧ Aside0 (wc.heap[gb189]? = some (.cells #[(.slice (some ad190) l0_0.length c0_0), (.slice A0_1 l0_1.length c0_1)] 31 (0, 0))) ∧ Aside0 (wc.heap[gb191]? = some (.cells #[.string x192000_11, .int .i64 x192001_11] 48 (0, 0))) ∧ Aside0 (Below w.heap.size w wc))
      case first =>
       have H := HC12.out
       clear HC12
       obtain ⟨t192, A16, H⟩ := bdY H
       by_cases c17 : t192 = true
       ·subst c17
        replace H := ifT H
        obtain ⟨t193, A18, H⟩ := bdY H
        by_cases c19 : t193 = true
        ·subst c19
         replace H := ifT H
         have c20b0 := eq_true (of_decide_eq_true ZZ853400 : 0 ≤ x23_2)
         obtain ⟨c21b0, c21b1, H⟩ := ifYe H
         try rw [Option.bind_some] at H
         generalize hy194 : (l0_0.take (x23_2 : Int).toNat : List (S48)) = y194 at H
         have Ny194 := Aside0.mk hy194.symm
         clear hy194
         obtain ⟨⟨t206, t207, t208⟩, A22, H⟩ := bdY H
         try dsimp only at H
         replace H := Aside0.mk H
         have hnb23 := NB191_189.out
         have hnc23 := NB189_191.out
         obtain ⟨hcz24_0, hcz24_1, hfz24_0, hfz24_1⟩ := z2 BK191
         go_wp2_with (first | (refine gc 30 Tryd.func55 #[.string ((rd_T48 l0_0 x23_2).f0)] ?_; (with_reducible refine (impl_isAccountName.calls ((rd_T48 l0_0 x23_2).f0) true _ A16.out).mono ?_); rintro e w25 ⟨rfl, hb⟩; refine ⟨_, rfl, ?_⟩; replace BK189 := Aside0.mk (blk_below (g := gb189) (o := .cells #[.slice (some ad190) l0_0.length c0_0, .slice A0_1 l0_1.length c0_1] 31 (0, 0)) ZZcb3c2f hb); replace BK191 := Aside0.mk (blk_below (g := gb191) (o := .cells #[.string ((rd_T48 l0_0 x23_2).f0), .int .i64 ((rd_T48 l0_0 x23_2).f1)] 48 (0, 0)) ZZb5a793 hb); replace HB := hB hb; (try clear hb); (try clear hb2); (try clear hk); (try clear hi); obtain ⟨hcz26_0, hcz26_1, hfz26_0, hfz26_1⟩ := z2 BK191) | (go_at_call 56; (with_reducible refine (impl_within.calls ((rd_T48 l0_0 x23_2).f1) 1 5 true _ A18.out).mono ?_); rintro e w' ⟨rfl, ⟨nd, rfl⟩⟩; obtain ⟨hcz27_0, hcz27_1, hfz27_0, hfz27_1⟩ := z2 BK189; have q28 : (x23_2 : Int) ≤ ((l0_0.length : Int) : Int) := of_decide_eq_true ZZ853400; obtain ⟨i028, hi028, _, hsz28, _⟩ := info_parts info48; have hroom28 : l0_0.length ≤ c0_0 := HC0_0.out; have hC28 : Kd.C k48 _ (some ad190) l0_0.length l0_0 := HR0_0.out; have hcut28 := cut_to (P := Tryd.prog) 28 48 .i64 Tryd.underlying28 hi028 (some ad190) l0_0.length c0_0 x23_2 (of_decide_eq_true ZZ853400) q28 hroom28; have hr28 := Kd.C_take (m := (x23_2 : Int).toNat) hC28 (by omega); have hy28 : y194.length = (x23_2 : Int).toNat := (by rw [Ny194.out, List.length_take]; omega); rw [← Ny194.out] at hr28; rw [← hy28] at hcut28; have HR197 := Aside0.mk hr28; have HC197 := Aside0.mk (show y194.length ≤ c0_0 from by omega); clear hr28 hC28 hroom28 hi028 hsz28; have KY28 := Aside0.mk hy28; clear hy28; replace q28 := eq_true q28; have HI191 := Aside0.mk (show IsS48 w _ gb191 ((rd_T48 l0_0 x23_2).f0) ((rd_T48 l0_0 x23_2).f1) from ⟨BK191.out, GE191.out⟩); clear BK191) | (go_at_call 57; (with_reducible refine (slices_ContainsFunc_Account_Account_impl_IsValidLedger_1.calls k2 _ _ y194 gb191 ((rd_T48 l0_0 x23_2).f0) ((rd_T48 l0_0 x23_2).f1) t206 t207 t208 w _ ?side1 ?side2 ?side3 ?side4 A22.out).mono ?_); (case side1 => exact (by repeat (first | (with_reducible first | exact HI191.out | apply IsS48.alloc | apply IsS48.drewN | apply IsS48.drew | apply IsS48.set_0 | apply IsS48.set_1 | refine IsS48.far ?_ (Aside0.out (by assumption)) _) | exact HI191.out))); (case side2 => exact bw); (case side3 => exact Kd.C_foot_came k48_heap HR197.out (by repeat (first | (with_reducible first | exact HB.out | apply below_alloc | apply pw_below_drewN | apply below_drew1 | refine below_set ?_ (IsS48.ge HI191.out) | refine below_set ?_ GE189.out) | exact HB.out)) (IsS48.ge HI191.out)); (case side4 => exact HC197.out); rintro e w29 ⟨rfl, hi, hb, hk⟩; replace BK189 := kk BK189 hk NB189_191; replace HB := Aside0.mk (hb); replace HI191 := Aside0.mk (hi); (try clear hb); (try clear hb2); (try clear hk); (try clear hi); obtain ⟨hbx_, _⟩ := HI191.out; have BK191 := Aside0.mk hbx_; clear hbx_ HI191))
         go_meet
         case rel => exact ⟨_, (t206), (t207), (t208), ZZ0ab324, H, kle, ⟨(zB BK189)⟩, ⟨(zB BK191)⟩, ⟨ZZ295621⟩⟩
        replace c19 := Bool.eq_false_iff.mpr c19
        subst c19
        replace H := ifF H
        replace H := Aside0.mk H
        have hnb30 := NB191_189.out
        have hnc30 := NB189_191.out
        obtain ⟨hcz31_0, hcz31_1, hfz31_0, hfz31_1⟩ := z2 BK191
        go_wp2_with (first | (refine gc 30 Tryd.func55 #[.string ((rd_T48 l0_0 x23_2).f0)] ?_; (with_reducible refine (impl_isAccountName.calls ((rd_T48 l0_0 x23_2).f0) true _ A16.out).mono ?_); rintro e w32 ⟨rfl, hb⟩; refine ⟨_, rfl, ?_⟩; replace BK189 := Aside0.mk (blk_below (g := gb189) (o := .cells #[.slice (some ad190) l0_0.length c0_0, .slice A0_1 l0_1.length c0_1] 31 (0, 0)) ZZcb3c2f hb); replace BK191 := Aside0.mk (blk_below (g := gb191) (o := .cells #[.string ((rd_T48 l0_0 x23_2).f0), .int .i64 ((rd_T48 l0_0 x23_2).f1)] 48 (0, 0)) ZZb5a793 hb); replace HB := hB hb; (try clear hb); (try clear hb2); (try clear hk); (try clear hi); obtain ⟨hcz33_0, hcz33_1, hfz33_0, hfz33_1⟩ := z2 BK191) | (go_at_call 56; (with_reducible refine (impl_within.calls ((rd_T48 l0_0 x23_2).f1) 1 5 false _ A18.out).mono ?_); rintro e w' ⟨rfl, ⟨nd, rfl⟩⟩))
        go_meet
        case rel => exact ⟨_, (true), ((rd_T48 l0_0 x23_2).f0), ((rd_T48 l0_0 x23_2).f1), ZZ0ab324, H, kle, ⟨(zB BK189)⟩, ⟨(zB BK191)⟩, ⟨ZZ295621⟩⟩
       replace c17 := Bool.eq_false_iff.mpr c17
       subst c17
       replace H := ifF H
       replace H := Aside0.mk H
       have hnb34 := NB191_189.out
       have hnc34 := NB189_191.out
       obtain ⟨hcz35_0, hcz35_1, hfz35_0, hfz35_1⟩ := z2 BK191
       go_wp2_with (first | (refine gc 30 Tryd.func55 #[.string ((rd_T48 l0_0 x23_2).f0)] ?_; (with_reducible refine (impl_isAccountName.calls ((rd_T48 l0_0 x23_2).f0) false _ A16.out).mono ?_); rintro e w36 ⟨rfl, hb⟩; refine ⟨_, rfl, ?_⟩; replace BK189 := Aside0.mk (blk_below (g := gb189) (o := .cells #[.slice (some ad190) l0_0.length c0_0, .slice A0_1 l0_1.length c0_1] 31 (0, 0)) ZZcb3c2f hb); replace BK191 := Aside0.mk (blk_below (g := gb191) (o := .cells #[.string ((rd_T48 l0_0 x23_2).f0), .int .i64 ((rd_T48 l0_0 x23_2).f1)] 48 (0, 0)) ZZb5a793 hb); replace HB := hB hb; (try clear hb); (try clear hb2); (try clear hk); (try clear hi)))
       go_meet
       case rel => exact ⟨_, (true), ((rd_T48 l0_0 x23_2).f0), ((rd_T48 l0_0 x23_2).f1), ZZ0ab324, H, kle, ⟨(zB BK189)⟩, ⟨(zB BK191)⟩, ⟨ZZ295621⟩⟩
      case rest =>
       clear HC12
       try clear c9b0
       try clear c10b0
       try clear c11b0
       try clear c17
       try clear c19
       try clear c20b0
       try clear c21b0
       try clear c21b1
       try clear q28
       try clear hcz15_0
       try clear hcz15_1
       try clear hcz24_0
       try clear hcz24_1
       try clear hcz26_0
       try clear hcz26_1
       try clear hcz27_0
       try clear hcz27_1
       try clear hcz31_0
       try clear hcz31_1
       try clear hcz33_0
       try clear hcz33_1
       try clear hcz35_0
       try clear hcz35_1
       try clear hfz15_0
       try clear hfz15_1
       try clear hfz24_0
       try clear hfz24_1
       try clear hfz26_0
       try clear hfz26_1
       try clear hfz27_0
       try clear hfz27_1
       try clear hfz31_0
       try clear hfz31_1
       try clear hfz33_0
       try clear hfz33_1
       try clear hfz35_0
       try clear hfz35_1
       try clear hx190_0
       try clear hx190_1
       try clear p190
       try clear q190
       obtain ⟨kq, x45_11, x192000_11, x192001_11, rfl, HA, HJ11, BK189, BK191, HB⟩ := hcut
       cases kq with
       | zero => exact absurd HA.out (by simp [impl_IsValidLedger.j2])
       | succ kj11 =>
        have H := HA.out
        clear HA
        simp only [impl_IsValidLedger.j2] at H
        by_cases c37 : x45_11 = true
        ·subst c37
         replace H := ifT H
         obtain rfl := Option.some.inj H
         go_wp2
         go_ret
         exact ⟨ZZab01d2, ZZ295621⟩
        replace c37 := Bool.eq_false_iff.mpr c37
        subst c37
        replace H := ifF H
        replace H := Aside0.mk H
        go_wp2
        go_roundg kj11
        case measure => have := HJ1.out; have := HK2.out; have := HJ11.out; omega
        case rel => exact ⟨(wrap64 (x23_2 + 1)), ZZ0ab324, H, kle, ⟨(zB BK189)⟩, ⟨ZZ295621⟩⟩
     rw [if_neg c9] at H
     have c9b0 := decide_eq_false c9
     clear c9
     obtain ⟨c38b0, c38b1, H⟩ := ifYe H
     obtain ⟨c39b0, c39b1, H⟩ := ifYe H
     try rw [Option.bind_some] at H
     generalize hy209 : (List.replicate ((l0_0.length : Int) : Int).toNat 0 : List Int) = y209 at H
     have Ny209 := Aside0.mk hy209.symm
     clear hy209
     replace H := Aside0.mk H
     obtain ⟨hcz40_0, hcz40_1, hfz40_0, hfz40_1⟩ := z2 BK189
     go_wp2_with (first | ((with_reducible refine gate_dst (N := 50) rfl ?_); (try (refine gate_guard (by rfl) ?_; dsimp only)); refine Kd.R_make (Kd.int .i64) _ 3 rfl (N := 50) rfl 44 _ _ rfl (l0_0.length : Int) rfl rfl Tryd.underlying44 (.int .i64 0) 8 info3 rfl (by decide) (by omega) 0 (ok := fun _ => True) (okp := fun _ => True) rfl (fun _ hk => hk) trivial (of_decide_eq_true ZZ853400) (Nat.le_trans (Nat.mul_le_mul_right _ (of_decide_eq_true ZZ853400 : (l0_0.length : Int).toNat ≤ 35184372088832)) (by omega)) (Below.refl _ _) (Nat.le_refl _) ?_; intro v210 w41 ho42 hb hg_ hnew_; clear hg_ hnew_; (first | rw [← Ny209.out] at ho42 | (simp only [Int.reduceToNat] at ho42; rw [← Ny209.out] at ho42)); have HO211 := Aside0.mk (Kd.R_lower ho42 (below_size ZZ295621)); replace BK189 := kb BK189 hb; replace HB := hB hb; clear hb ho42; obtain ⟨hcz43_0, hcz43_1, hfz43_0, hfz43_1⟩ := z2 BK189))
     go_loopg [54] k2 (fun kq v54 w' => ∃ (x5_3 : List Int) (x54_3 : Int), v54 = .int .i64 x54_3 ∧ Aside0 (impl_IsValidLedger.l1 kq x5_3 l0_1 (l0_1.length : Int) x54_3 l0_0 l0_1 = some r) ∧ Aside0 (kq ≤ k2) ∧ Aside0 (Kd.R (Kd.int .i64) 3 w' w.heap.size (fun _ => True) v210 x5_3) ∧ Aside0 (w'.heap[gb189]? = some (.cells #[(.slice A0_0 l0_0.length c0_0), (.slice A0_1 l0_1.length c0_1)] 31 (0, 0))) ∧ Aside0 (Below w.heap.size w w'))
     case atStart => exact ⟨(y209), (0), ZZ0ab324, H, ⟨Nat.le_refl _⟩, ⟨(zR HO211)⟩, ⟨(zB BK189)⟩, ⟨ZZ295621⟩⟩
     case round =>
      clear H
      try clear c9b0
      try clear c37
      try clear c38b0
      try clear c38b1
      try clear c39b0
      try clear c39b1
      try clear hcz40_0
      try clear hcz40_1
      try clear hcz43_0
      try clear hcz43_1
      try clear hfz40_0
      try clear hfz40_1
      try clear hfz43_0
      try clear hfz43_1
      obtain ⟨x5_3, x54_3, rfl, HA, HK3, HO_5, BK189, HB⟩ := hrel
      cases gk with
      | zero => exact absurd HA.out (by simp [impl_IsValidLedger.l1])
      | succ k3 =>
       have H := HA.out
       clear HA
       simp only [impl_IsValidLedger.l1] at H
       by_cases c44 : x54_3 < (l0_1.length : Int)
       ·rw [if_pos c44] at H
        have c44b0 := decide_eq_true c44
        clear c44
        obtain ⟨c45b0, H⟩ := ifYd H
        obtain ⟨c46b0, H⟩ := ifYd H
        have HC47 := Aside0.mk H
        clear H
        have p212 : 0 ≤ (x54_3 : Int) := of_decide_eq_true ZZ853400
        have q212 : x54_3 < (l0_1.length : Int) := of_decide_eq_true ZZ853400
        obtain ⟨ad212, A212_2, c212_2, e212, hx212_0, hx212_1, hx212_2, hl212_2, hi212_2⟩ := at_T63 HR0_1.out x54_3 p212 q212
        cases e212
        replace hx212_0 := (HB.out.cell (World.block_lt_of_cell? w _ hx212_0)).trans hx212_0
        replace hx212_1 := (HB.out.cell (World.block_lt_of_cell? w _ hx212_1)).trans hx212_1
        replace hx212_2 := (HB.out.cell (World.block_lt_of_cell? w _ hx212_2)).trans hx212_2
        have HR212_2 := Aside0.mk hi212_2
        have HC212_2 := Aside0.mk hl212_2
        clear hi212_2 hl212_2
        replace p212 := eq_true p212
        replace q212 := eq_true q212
        go_upto_region 13 with (first | ((with_reducible refine gate_dst (N := 7) rfl ?_); (try (refine gate_guard (by rfl) ?_; dsimp only)); refine bx 7 (cs := #[.int .i64 0, .string (⟨#[]⟩ : ByteArray), .slice none 0 0]) (t := 63) ?_; intro gb213 hg w48 hbox hb; replace HO_5 := Aside0.mk (Kd.R_below (zR HO_5) hb); have BK213 := Aside0.mk (hbox); have GW213 := gw hg; have GE213 := gw hg; replace HB := hB hb; have NB189_213 := nl hg BK189; have NB213_189 := ng hg BK189; replace BK189 := kb BK189 hb; clear hb hbox hg; have hnb49 := NB213_189.out; have hnc49 := NB189_213.out; obtain ⟨hcz50_0, hcz50_1, hcz50_2, hfz50_0, hfz50_1, hfz50_2⟩ := z3 BK213))
        (try simp only [Act.put, List.setIfInBounds_toArray, List.set_cons_zero, List.set_cons_succ])
        go_cut [92] (fun v92 wc => ∃ (kq : Nat) (x92_46 : Bool), v92 = .bool x92_46 ∧ Aside0 (impl_IsValidLedger.j4 kq x5_3 l0_1 (l0_1.length : Int) x54_3 x92_46 l0_0 l0_1 ((rd_T63 l0_1 x54_3).f0) ((rd_T63 l0_1 x54_3).f1) ((rd_T63 l0_1 x54_3).f2) = some r) ∧ Aside0 (kq ≤ k3) ∧ Aside0 (Kd.R (Kd.int .i64) 3 wc w.heap.size (fun _ => True) v210 x5_3) ∧ Aside0 (wc.heap[gb189]? = some (.cells #[(.slice A0_0 l0_0.length c0_0), (.slice (some ad212) l0_1.length c0_1)] 31 (0, 0))) ∧ Aside0 (wc.heap[gb213]? = some (.cells #[.int .i64 ((rd_T63 l0_1 x54_3).f0), .string ((rd_T63 l0_1 x54_3).f1), (.slice A212_2 ((rd_T63 l0_1 x54_3).f2).length c212_2)] 63 (0, 0))) ∧ Aside0 (Below w.heap.size w wc))
        case first =>
         have H := HC47.out
         clear HC47
         obtain ⟨t214, A51, H⟩ := bdY H
         by_cases c52 : t214 = true
         ·subst c52
          replace H := ifT H
          by_cases c53 : x54_3 > 0
          ·rw [if_pos c53] at H
           have c53b0 : decide (0 < x54_3) = true := decide_eq_true c53
           clear c53
           (first | rw [c53b0] | (simp only [i64_w, i32_w]; rw [c53b0]) | skip)
           obtain ⟨ji54, hji54⟩ : ∃ j_ : Int, (wrap64 (x54_3 - 1)) = j_ := ⟨_, rfl⟩
           (first | rw [hji54] at H | simp only [hji54] at H)
           (try rw [hji54] at A51)
           have hji54w : (IntKind.i64.wrap (x54_3 - 1)) = ji54 := (i64_w _).trans hji54
           obtain ⟨c55b0, H⟩ := ifYd H
           obtain ⟨c56b0, H⟩ := ifYd H
           by_cases c57 : ((rd_T63 l0_1 x54_3).f0) < ((rd_T63 l0_1 (ji54)).f0)
           ·rw [if_pos c57] at H
            have c57b0 := decide_eq_true c57
            clear c57
            replace H := Aside0.mk H
            try go_wp2
            generalize hw_ : (((w48.setCell ⟨gb213, 0, none⟩ (.int .i64 ((rd_T63 l0_1 x54_3).f0))).setCell ⟨gb213, 1, none⟩ (.string ((rd_T63 l0_1 x54_3).f1))).setCell ⟨gb213, 2, none⟩ (.slice A212_2 ((rd_T63 l0_1 x54_3).f2).length c212_2)) = w58
            replace HO_5 : Aside0 (Kd.R (Kd.int .i64) 3 w58 w.heap.size (fun _ => True) v210 x5_3) := ⟨ZZf114fb⟩
            replace BK189 : Aside0 (w58.heap[gb189]? = some (.cells #[.slice A0_0 l0_0.length c0_0, .slice (some ad212) l0_1.length c0_1] 31 (0, 0))) := ⟨ZZa17de9⟩
            replace BK213 : Aside0 (w58.heap[gb213]? = some (.cells #[.int .i64 ((rd_T63 l0_1 x54_3).f0), .string ((rd_T63 l0_1 x54_3).f1), .slice A212_2 ((rd_T63 l0_1 x54_3).f2).length c212_2] 63 (0, 0))) := ⟨ZZ61f687⟩
            replace HB : Aside0 (Below w.heap.size w w58) := ⟨ZZ0d0602⟩
            clear hw_
            replace HO_5 := Aside0.mk (Kd.R_drew HO_5.out)
            replace BK189 := Aside0.mk (blk_drew BK189.out)
            replace BK213 := Aside0.mk (blk_drew BK213.out)
            replace HB := Aside0.mk (below_drew1 HB.out)
            have p215 : 0 ≤ ((ji54) : Int) := of_decide_eq_true ZZ853400
            have q215 : (ji54) < (l0_1.length : Int) := of_decide_eq_true ZZ853400
            obtain ⟨ad215, A215_2, c215_2, e215, hx215_0, hx215_1, hx215_2, hl215_2, hi215_2⟩ := at_T63 HR0_1.out (ji54) p215 q215
            have hw215_2 := hx215_2
            have hw215_1 := hx215_1
            have hw215_0 := hx215_0
            obtain rfl : ad212 = ad215 := (by injection e215)
            replace hx215_0 := (HB.out.cell (World.block_lt_of_cell? w _ hx215_0)).trans hx215_0
            replace hx215_1 := (HB.out.cell (World.block_lt_of_cell? w _ hx215_1)).trans hx215_1
            replace hx215_2 := (HB.out.cell (World.block_lt_of_cell? w _ hx215_2)).trans hx215_2
            have HR215_2 := Aside0.mk hi215_2
            have HC215_2 := Aside0.mk hl215_2
            clear hi215_2 hl215_2
            replace p215 := eq_true p215
            replace q215 := eq_true q215
            refine st 34 (S := fun w' => w'.cell? ⟨gb213, 0, none⟩ = some (.int .i64 ((rd_T63 l0_1 x54_3).f0)) ∧ w'.cell? ⟨gb213, 1, none⟩ = some (.string ((rd_T63 l0_1 x54_3).f1)) ∧ w'.cell? ⟨gb213, 2, none⟩ = some (.slice A212_2 ((rd_T63 l0_1 x54_3).f2).length c212_2) ∧ w'.cell? ⟨gb189, 0, none⟩ = some (.slice A0_0 l0_0.length c0_0) ∧ w'.cell? ⟨gb189, 1, none⟩ = some (.slice (some ad212) l0_1.length c0_1) ∧ w'.cell? (ad212.add (((ji54)).toNat * 3)) = some (.int .i64 ((rd_T63 l0_1 (ji54)).f0)) ∧ w'.cell? ⟨(ad212.add (((ji54)).toNat * 3)).block, (ad212.add (((ji54)).toNat * 3)).off + 1, none⟩ = some (.string ((rd_T63 l0_1 (ji54)).f1)) ∧ w'.cell? ⟨(ad212.add (((ji54)).toNat * 3)).block, (ad212.add (((ji54)).toNat * 3)).off + 2, none⟩ = some (.slice A215_2 ((rd_T63 l0_1 (ji54)).f2).length c215_2)) impl_IsValidLedger.tab13 impl_IsValidLedger.bits13 zK (fun hHeld HT_ HW_ => ?_)
            generalize w58.drew = w59 at HO_5 BK189 BK213 HB HR215_2 hx215_0 hx215_1 hx215_2 hHeld ⊢
            refine pu 0 59 ?_
            refine tk 1 60 ?_
            refine on1 2 61 Tryd.func59 #[.int .i64 ((rd_T63 l0_1 x54_3).f0)] (impl_isDay.calls ((rd_T63 l0_1 x54_3).f0) true _ A51.out) ?_
            rintro w' ⟨nd, rfl⟩
            refine ⟨hHeld, fun hHeld => ?_⟩
            refine pu 3 62 ?_
            refine pu 4 63 ?_
            refine pu 5 64 ?_
            refine pu 6 65 ?_
            refine pu 7 66 ?_
            refine pu 8 67 ?_
            refine pu 10 69 ?_
            refine pu 12 71 ?_
            refine pu 13 72 ?_
            refine tk 9 68 ?_
            refine tk 11 70 ?_
            refine pu 14 73 ?_
            refine pu 15 74 ?_
            refine tk 16 75 ?_
            refine pu 17 76 ?_
            refine pu 18 77 ?_
            refine pu 19 78 ?_
            refine pu 20 79 ?_
            refine pn 21 80 ?_
            refine pn 22 81 ?_
            refine pn 23 82 ?_
            refine pn 24 83 ?_
            refine pu 25 84 ?_
            refine pu 26 85 ?_
            refine pn 27 86 ?_
            refine pn 28 87 ?_
            refine pn 29 88 ?_
            refine pn 30 89 ?_
            refine pn 31 90 ?_
            refine pn 32 91 ?_
            refine pu 33 92 ?_
            refine done_ (done_of HT_.out (by kernel_rfl)) ?_
            try go_wp2
            go_meet
            case rel => exact ⟨_, (true), ZZ0ab324, H, kle, ⟨(zR HO_5)⟩, ⟨(zB BK189)⟩, ⟨(zB BK213)⟩, ⟨ZZ295621⟩⟩
           rw [if_neg c57] at H
           have c57b0 := decide_eq_false c57
           clear c57
           obtain ⟨t216, A60, H⟩ := bdY H
           try go_wp2
           generalize hw_ : (((w48.setCell ⟨gb213, 0, none⟩ (.int .i64 ((rd_T63 l0_1 x54_3).f0))).setCell ⟨gb213, 1, none⟩ (.string ((rd_T63 l0_1 x54_3).f1))).setCell ⟨gb213, 2, none⟩ (.slice A212_2 ((rd_T63 l0_1 x54_3).f2).length c212_2)) = w63
           replace HO_5 : Aside0 (Kd.R (Kd.int .i64) 3 w63 w.heap.size (fun _ => True) v210 x5_3) := ⟨ZZf114fb⟩
           replace BK189 : Aside0 (w63.heap[gb189]? = some (.cells #[.slice A0_0 l0_0.length c0_0, .slice (some ad212) l0_1.length c0_1] 31 (0, 0))) := ⟨ZZa17de9⟩
           replace BK213 : Aside0 (w63.heap[gb213]? = some (.cells #[.int .i64 ((rd_T63 l0_1 x54_3).f0), .string ((rd_T63 l0_1 x54_3).f1), .slice A212_2 ((rd_T63 l0_1 x54_3).f2).length c212_2] 63 (0, 0))) := ⟨ZZ61f687⟩
           replace HB : Aside0 (Below w.heap.size w w63) := ⟨ZZ0d0602⟩
           clear hw_
           replace HO_5 := Aside0.mk (Kd.R_drew HO_5.out)
           replace BK189 := Aside0.mk (blk_drew BK189.out)
           replace BK213 := Aside0.mk (blk_drew BK213.out)
           replace HB := Aside0.mk (below_drew1 HB.out)
           have p215 : 0 ≤ ((ji54) : Int) := of_decide_eq_true ZZ853400
           have q215 : (ji54) < (l0_1.length : Int) := of_decide_eq_true ZZ853400
           obtain ⟨ad215, A215_2, c215_2, e215, hx215_0, hx215_1, hx215_2, hl215_2, hi215_2⟩ := at_T63 HR0_1.out (ji54) p215 q215
           have hw215_2 := hx215_2
           have hw215_1 := hx215_1
           have hw215_0 := hx215_0
           obtain rfl : ad212 = ad215 := (by injection e215)
           replace hx215_0 := (HB.out.cell (World.block_lt_of_cell? w _ hx215_0)).trans hx215_0
           replace hx215_1 := (HB.out.cell (World.block_lt_of_cell? w _ hx215_1)).trans hx215_1
           replace hx215_2 := (HB.out.cell (World.block_lt_of_cell? w _ hx215_2)).trans hx215_2
           have HR215_2 := Aside0.mk hi215_2
           have HC215_2 := Aside0.mk hl215_2
           clear hi215_2 hl215_2
           replace p215 := eq_true p215
           replace q215 := eq_true q215
           refine st 34 (S := fun w' => w'.cell? ⟨gb213, 0, none⟩ = some (.int .i64 ((rd_T63 l0_1 x54_3).f0)) ∧ w'.cell? ⟨gb213, 1, none⟩ = some (.string ((rd_T63 l0_1 x54_3).f1)) ∧ w'.cell? ⟨gb213, 2, none⟩ = some (.slice A212_2 ((rd_T63 l0_1 x54_3).f2).length c212_2) ∧ w'.cell? ⟨gb189, 0, none⟩ = some (.slice A0_0 l0_0.length c0_0) ∧ w'.cell? ⟨gb189, 1, none⟩ = some (.slice (some ad212) l0_1.length c0_1) ∧ w'.cell? (ad212.add (((ji54)).toNat * 3)) = some (.int .i64 ((rd_T63 l0_1 (ji54)).f0)) ∧ w'.cell? ⟨(ad212.add (((ji54)).toNat * 3)).block, (ad212.add (((ji54)).toNat * 3)).off + 1, none⟩ = some (.string ((rd_T63 l0_1 (ji54)).f1)) ∧ w'.cell? ⟨(ad212.add (((ji54)).toNat * 3)).block, (ad212.add (((ji54)).toNat * 3)).off + 2, none⟩ = some (.slice A215_2 ((rd_T63 l0_1 (ji54)).f2).length c215_2)) impl_IsValidLedger.tab13 impl_IsValidLedger.bits13 zK (fun hHeld HT_ HW_ => ?_)
           generalize w63.drew = w64 at HO_5 BK189 BK213 HB HR215_2 hx215_0 hx215_1 hx215_2 hHeld ⊢
           refine pu 0 59 ?_
           refine tk 1 60 ?_
           refine on1 2 61 Tryd.func59 #[.int .i64 ((rd_T63 l0_1 x54_3).f0)] (impl_isDay.calls ((rd_T63 l0_1 x54_3).f0) true _ A51.out) ?_
           rintro w' ⟨nd, rfl⟩
           refine ⟨hHeld, fun hHeld => ?_⟩
           refine pu 3 62 ?_
           refine pu 4 63 ?_
           refine pu 5 64 ?_
           refine pu 6 65 ?_
           refine pu 7 66 ?_
           refine pu 8 67 ?_
           refine pu 10 69 ?_
           refine pu 12 71 ?_
           refine pu 13 72 ?_
           refine tk 9 68 ?_
           refine tk 11 70 ?_
           refine pu 14 73 ?_
           refine pu 15 74 ?_
           refine tk 16 75 ?_
           refine pu 17 76 ?_
           refine pu 18 77 ?_
           refine pu 19 78 ?_
           refine pu 20 79 ?_
           refine pu 21 80 ?_
           refine tk 22 81 ?_
           by_cases c61 : t216 = true
           ·subst c61
            replace H := ifT H
            obtain ⟨t217, A62, H⟩ := bdY H
            replace H := Aside0.mk H
            refine on1 23 82 Tryd.func60 #[.string ((rd_T63 l0_1 x54_3).f1)] (impl_isMemo.calls k3 ((rd_T63 l0_1 x54_3).f1) true _ A60.out) ?_
            rintro w' ⟨nd, rfl⟩
            refine ⟨hHeld, fun hHeld => ?_⟩
            refine pu 24 83 ?_
            refine pu 25 84 ?_
            refine pu 26 85 ?_
            refine pu 28 87 ?_
            refine tk 27 86 ?_
            refine tk 29 88 ?_
            refine pu 30 89 ?_
            refine on1 31 90 Tryd.func61 #[.agg #[.int .i64 ((rd_T63 l0_1 x54_3).f0), .string ((rd_T63 l0_1 x54_3).f1), .slice A212_2 ((rd_T63 l0_1 x54_3).f2).length c212_2], .int .i64 (l0_0.length : Int)] (impl_isPosted.calls k3 ((rd_T63 l0_1 x54_3).f0) ((rd_T63 l0_1 x54_3).f1) _ _ ((rd_T63 l0_1 x54_3).f2) (l0_0.length : Int) t217 _ ?side1 ?side2 A62.out) ?_
            (case side1 => repeat (first | exact (Kd.C_below HR212_2.out ZZ295621) | (with_reducible refine Kd.C_alloc ?_ _) | (with_reducible refine Kd.C_drewN ?_ _) | (with_reducible refine Kd.C_drew ?_)))
            (case side2 => exact HC212_2.out)
            rintro w65 hb
            replace HO_5 := Aside0.mk (Kd.R_below (zR HO_5) hb)
            replace BK189 := kb BK189 hb
            replace BK213 := kb BK213 hb
            replace HB := hB hb
            (try clear hb)
            (try clear hb2)
            (try clear hk)
            (try clear hi)
            refine ⟨zK, fun hHeld => ?_⟩
            refine pu 32 91 ?_
            refine pu 33 92 ?_
            refine done_ (done_of HT_.out (by kernel_rfl)) ?_
            try go_wp2
            go_meet
            case rel => exact ⟨_, (!t217), ZZ0ab324, H, kle, ⟨(zR HO_5)⟩, ⟨(zB BK189)⟩, ⟨(zB BK213)⟩, ⟨ZZ295621⟩⟩
           replace c61 := Bool.eq_false_iff.mpr c61
           subst c61
           replace H := ifF H
           replace H := Aside0.mk H
           refine on1 23 82 Tryd.func60 #[.string ((rd_T63 l0_1 x54_3).f1)] (impl_isMemo.calls k3 ((rd_T63 l0_1 x54_3).f1) false _ A60.out) ?_
           rintro w' ⟨nd, rfl⟩
           refine ⟨hHeld, fun hHeld => ?_⟩
           refine pu 24 83 ?_
           refine pu 25 84 ?_
           refine pu 26 85 ?_
           refine pn 27 86 ?_
           refine pn 28 87 ?_
           refine pn 29 88 ?_
           refine pn 30 89 ?_
           refine pn 31 90 ?_
           refine pn 32 91 ?_
           refine pu 33 92 ?_
           refine done_ (done_of HT_.out (by kernel_rfl)) ?_
           try go_wp2
           go_meet
           case rel => exact ⟨_, (true), ZZ0ab324, H, kle, ⟨(zR HO_5)⟩, ⟨(zB BK189)⟩, ⟨(zB BK213)⟩, ⟨ZZ295621⟩⟩
          rw [if_neg c53] at H
          have c53b0 : decide (0 < x54_3) = false := decide_eq_false c53
          clear c53
          (first | rw [c53b0] | (simp only [i64_w, i32_w]; rw [c53b0]) | skip)
          obtain ⟨t218, A68, H⟩ := bdY H
          try go_wp2
          generalize hw_ : (((w48.setCell ⟨gb213, 0, none⟩ (.int .i64 ((rd_T63 l0_1 x54_3).f0))).setCell ⟨gb213, 1, none⟩ (.string ((rd_T63 l0_1 x54_3).f1))).setCell ⟨gb213, 2, none⟩ (.slice A212_2 ((rd_T63 l0_1 x54_3).f2).length c212_2)) = w71
          replace HO_5 : Aside0 (Kd.R (Kd.int .i64) 3 w71 w.heap.size (fun _ => True) v210 x5_3) := ⟨ZZf114fb⟩
          replace BK189 : Aside0 (w71.heap[gb189]? = some (.cells #[.slice A0_0 l0_0.length c0_0, .slice (some ad212) l0_1.length c0_1] 31 (0, 0))) := ⟨ZZa17de9⟩
          replace BK213 : Aside0 (w71.heap[gb213]? = some (.cells #[.int .i64 ((rd_T63 l0_1 x54_3).f0), .string ((rd_T63 l0_1 x54_3).f1), .slice A212_2 ((rd_T63 l0_1 x54_3).f2).length c212_2] 63 (0, 0))) := ⟨ZZ61f687⟩
          replace HB : Aside0 (Below w.heap.size w w71) := ⟨ZZ0d0602⟩
          clear hw_
          replace HO_5 := Aside0.mk (Kd.R_drew HO_5.out)
          replace BK189 := Aside0.mk (blk_drew BK189.out)
          replace BK213 := Aside0.mk (blk_drew BK213.out)
          replace HB := Aside0.mk (below_drew1 HB.out)
          by_cases c69 : t218 = true
          ·subst c69
           replace H := ifT H
           obtain ⟨t219, A70, H⟩ := bdY H
           replace H := Aside0.mk H
           refine st 34 (S := fun w' => w'.cell? ⟨gb213, 0, none⟩ = some (.int .i64 ((rd_T63 l0_1 x54_3).f0)) ∧ w'.cell? ⟨gb213, 1, none⟩ = some (.string ((rd_T63 l0_1 x54_3).f1)) ∧ w'.cell? ⟨gb213, 2, none⟩ = some (.slice A212_2 ((rd_T63 l0_1 x54_3).f2).length c212_2) ∧ w'.cell? ⟨gb189, 0, none⟩ = some (.slice A0_0 l0_0.length c0_0) ∧ w'.cell? ⟨gb189, 1, none⟩ = some (.slice (some ad212) l0_1.length c0_1)) impl_IsValidLedger.tab13 impl_IsValidLedger.bits13 zK (fun hHeld HT_ HW_ => ?_)
           generalize w71.drew = w72 at HO_5 BK189 BK213 HB hHeld ⊢
           refine pu 0 59 ?_
           refine tk 1 60 ?_
           refine on1 2 61 Tryd.func59 #[.int .i64 ((rd_T63 l0_1 x54_3).f0)] (impl_isDay.calls ((rd_T63 l0_1 x54_3).f0) true _ A51.out) ?_
           rintro w' ⟨nd, rfl⟩
           refine ⟨hHeld, fun hHeld => ?_⟩
           refine pu 3 62 ?_
           refine pu 4 63 ?_
           refine pu 5 64 ?_
           refine pu 6 65 ?_
           refine pu 7 66 ?_
           refine pn 8 67 ?_
           refine pn 9 68 ?_
           refine pn 10 69 ?_
           refine pn 11 70 ?_
           refine pn 12 71 ?_
           refine pn 13 72 ?_
           refine pn 14 73 ?_
           refine pn 15 74 ?_
           refine pn 16 75 ?_
           refine pn 17 76 ?_
           refine pu 18 77 ?_
           refine pu 19 78 ?_
           refine pu 20 79 ?_
           refine pu 21 80 ?_
           refine tk 22 81 ?_
           refine on1 23 82 Tryd.func60 #[.string ((rd_T63 l0_1 x54_3).f1)] (impl_isMemo.calls k3 ((rd_T63 l0_1 x54_3).f1) true _ A68.out) ?_
           rintro w' ⟨nd, rfl⟩
           refine ⟨hHeld, fun hHeld => ?_⟩
           refine pu 24 83 ?_
           refine pu 25 84 ?_
           refine pu 26 85 ?_
           refine pu 28 87 ?_
           refine tk 27 86 ?_
           refine tk 29 88 ?_
           refine pu 30 89 ?_
           refine on1 31 90 Tryd.func61 #[.agg #[.int .i64 ((rd_T63 l0_1 x54_3).f0), .string ((rd_T63 l0_1 x54_3).f1), .slice A212_2 ((rd_T63 l0_1 x54_3).f2).length c212_2], .int .i64 (l0_0.length : Int)] (impl_isPosted.calls k3 ((rd_T63 l0_1 x54_3).f0) ((rd_T63 l0_1 x54_3).f1) _ _ ((rd_T63 l0_1 x54_3).f2) (l0_0.length : Int) t219 _ ?side1 ?side2 A70.out) ?_
           (case side1 => repeat (first | exact (Kd.C_below HR212_2.out ZZ295621) | (with_reducible refine Kd.C_alloc ?_ _) | (with_reducible refine Kd.C_drewN ?_ _) | (with_reducible refine Kd.C_drew ?_)))
           (case side2 => exact HC212_2.out)
           rintro w73 hb
           replace HO_5 := Aside0.mk (Kd.R_below (zR HO_5) hb)
           replace BK189 := kb BK189 hb
           replace BK213 := kb BK213 hb
           replace HB := hB hb
           (try clear hb)
           (try clear hb2)
           (try clear hk)
           (try clear hi)
           refine ⟨zK, fun hHeld => ?_⟩
           refine pu 32 91 ?_
           refine pu 33 92 ?_
           refine done_ (done_of HT_.out (by kernel_rfl)) ?_
           try go_wp2
           go_meet
           case rel => exact ⟨_, (!t219), ZZ0ab324, H, kle, ⟨(zR HO_5)⟩, ⟨(zB BK189)⟩, ⟨(zB BK213)⟩, ⟨ZZ295621⟩⟩
          replace c69 := Bool.eq_false_iff.mpr c69
          subst c69
          replace H := ifF H
          replace H := Aside0.mk H
          refine st 34 (S := fun w' => w'.cell? ⟨gb213, 0, none⟩ = some (.int .i64 ((rd_T63 l0_1 x54_3).f0)) ∧ w'.cell? ⟨gb213, 1, none⟩ = some (.string ((rd_T63 l0_1 x54_3).f1)) ∧ w'.cell? ⟨gb213, 2, none⟩ = some (.slice A212_2 ((rd_T63 l0_1 x54_3).f2).length c212_2)) impl_IsValidLedger.tab13 impl_IsValidLedger.bits13 zK (fun hHeld HT_ HW_ => ?_)
          generalize w71.drew = w75 at HO_5 BK189 BK213 HB hHeld ⊢
          refine pu 0 59 ?_
          refine tk 1 60 ?_
          refine on1 2 61 Tryd.func59 #[.int .i64 ((rd_T63 l0_1 x54_3).f0)] (impl_isDay.calls ((rd_T63 l0_1 x54_3).f0) true _ A51.out) ?_
          rintro w' ⟨nd, rfl⟩
          refine ⟨hHeld, fun hHeld => ?_⟩
          refine pu 3 62 ?_
          refine pu 4 63 ?_
          refine pu 5 64 ?_
          refine pu 6 65 ?_
          refine pu 7 66 ?_
          refine pn 8 67 ?_
          refine pn 9 68 ?_
          refine pn 10 69 ?_
          refine pn 11 70 ?_
          refine pn 12 71 ?_
          refine pn 13 72 ?_
          refine pn 14 73 ?_
          refine pn 15 74 ?_
          refine pn 16 75 ?_
          refine pn 17 76 ?_
          refine pu 18 77 ?_
          refine pu 19 78 ?_
          refine pu 20 79 ?_
          refine pu 21 80 ?_
          refine tk 22 81 ?_
          refine on1 23 82 Tryd.func60 #[.string ((rd_T63 l0_1 x54_3).f1)] (impl_isMemo.calls k3 ((rd_T63 l0_1 x54_3).f1) false _ A68.out) ?_
          rintro w' ⟨nd, rfl⟩
          refine ⟨hHeld, fun hHeld => ?_⟩
          refine pu 24 83 ?_
          refine pu 25 84 ?_
          refine pu 26 85 ?_
          refine pn 27 86 ?_
          refine pn 28 87 ?_
          refine pn 29 88 ?_
          refine pn 30 89 ?_
          refine pn 31 90 ?_
          refine pn 32 91 ?_
          refine pu 33 92 ?_
          refine done_ (done_of HT_.out (by kernel_rfl)) ?_
          try go_wp2
          go_meet
          case rel => exact ⟨_, (true), ZZ0ab324, H, kle, ⟨(zR HO_5)⟩, ⟨(zB BK189)⟩, ⟨(zB BK213)⟩, ⟨ZZ295621⟩⟩
         replace c52 := Bool.eq_false_iff.mpr c52
         subst c52
         replace H := ifF H
         replace H := Aside0.mk H
         try go_wp2
         generalize hw_ : (((w48.setCell ⟨gb213, 0, none⟩ (.int .i64 ((rd_T63 l0_1 x54_3).f0))).setCell ⟨gb213, 1, none⟩ (.string ((rd_T63 l0_1 x54_3).f1))).setCell ⟨gb213, 2, none⟩ (.slice A212_2 ((rd_T63 l0_1 x54_3).f2).length c212_2)) = w76
         replace HO_5 : Aside0 (Kd.R (Kd.int .i64) 3 w76 w.heap.size (fun _ => True) v210 x5_3) := ⟨ZZf114fb⟩
         replace BK189 : Aside0 (w76.heap[gb189]? = some (.cells #[.slice A0_0 l0_0.length c0_0, .slice (some ad212) l0_1.length c0_1] 31 (0, 0))) := ⟨ZZa17de9⟩
         replace BK213 : Aside0 (w76.heap[gb213]? = some (.cells #[.int .i64 ((rd_T63 l0_1 x54_3).f0), .string ((rd_T63 l0_1 x54_3).f1), .slice A212_2 ((rd_T63 l0_1 x54_3).f2).length c212_2] 63 (0, 0))) := ⟨ZZ61f687⟩
         replace HB : Aside0 (Below w.heap.size w w76) := ⟨ZZ0d0602⟩
         clear hw_
         replace HO_5 := Aside0.mk (Kd.R_drew HO_5.out)
         replace BK189 := Aside0.mk (blk_drew BK189.out)
         replace BK213 := Aside0.mk (blk_drew BK213.out)
         replace HB := Aside0.mk (below_drew1 HB.out)
         refine st 34 (S := fun w' => w'.cell? ⟨gb213, 0, none⟩ = some (.int .i64 ((rd_T63 l0_1 x54_3).f0)) ∧ w'.cell? ⟨gb213, 1, none⟩ = some (.string ((rd_T63 l0_1 x54_3).f1)) ∧ w'.cell? ⟨gb213, 2, none⟩ = some (.slice A212_2 ((rd_T63 l0_1 x54_3).f2).length c212_2)) impl_IsValidLedger.tab13 impl_IsValidLedger.bits13 zK (fun hHeld HT_ HW_ => ?_)
         generalize w76.drew = w77 at HO_5 BK189 BK213 HB hHeld ⊢
         refine pu 0 59 ?_
         refine tk 1 60 ?_
         refine on1 2 61 Tryd.func59 #[.int .i64 ((rd_T63 l0_1 x54_3).f0)] (impl_isDay.calls ((rd_T63 l0_1 x54_3).f0) false _ A51.out) ?_
         rintro w' ⟨nd, rfl⟩
         refine ⟨hHeld, fun hHeld => ?_⟩
         refine pu 3 62 ?_
         refine pu 4 63 ?_
         refine pn 5 64 ?_
         refine pn 6 65 ?_
         refine pn 7 66 ?_
         refine pn 8 67 ?_
         refine pn 9 68 ?_
         refine pn 10 69 ?_
         refine pn 11 70 ?_
         refine pn 12 71 ?_
         refine pn 13 72 ?_
         refine pn 14 73 ?_
         refine pn 15 74 ?_
         refine pn 16 75 ?_
         refine pn 17 76 ?_
         refine pn 18 77 ?_
         refine pu 19 78 ?_
         refine pu 20 79 ?_
         refine pn 21 80 ?_
         refine pn 22 81 ?_
         refine pn 23 82 ?_
         refine pn 24 83 ?_
         refine pu 25 84 ?_
         refine pu 26 85 ?_
         refine pn 27 86 ?_
         refine pn 28 87 ?_
         refine pn 29 88 ?_
         refine pn 30 89 ?_
         refine pn 31 90 ?_
         refine pn 32 91 ?_
         refine pu 33 92 ?_
         refine done_ (done_of HT_.out (by kernel_rfl)) ?_
         try go_wp2
         go_meet
         case rel => exact ⟨_, (true), ZZ0ab324, H, kle, ⟨(zR HO_5)⟩, ⟨(zB BK189)⟩, ⟨(zB BK213)⟩, ⟨ZZ295621⟩⟩
        case rest =>
         clear HC47
         try clear c52
         try clear c61
         try clear c69
         obtain ⟨kq, x92_46, rfl, HA, HJ46, HO_5, BK189, BK213, HB⟩ := hcut
         cases kq with
         | zero => exact absurd HA.out (by simp [impl_IsValidLedger.j4])
         | succ kj46 =>
          have H := HA.out
          clear HA
          simp only [impl_IsValidLedger.j4] at H
          by_cases c78 : x92_46 = true
          ·subst c78
           replace H := ifT H
           obtain rfl := Option.some.inj H
           go_wp2
           go_ret
           exact ⟨ZZab01d2, ZZ295621⟩
          replace c78 := Bool.eq_false_iff.mpr c78
          subst c78
          replace H := ifF H
          replace H := Aside0.mk H
          have hnb79 := NB213_189.out
          have hnc79 := NB189_213.out
          obtain ⟨hcz80_0, hcz80_1, hcz80_2, hfz80_0, hfz80_1, hfz80_2⟩ := z3 BK213
          go_wp2
          go_loopg [96] kj46 (fun kq v96 w' => ∃ (x5_5 : List Int) (x96_5 : Int), v96 = .int .i64 x96_5 ∧ Aside0 (impl_IsValidLedger.l2 kq x5_5 l0_1 (l0_1.length : Int) x54_3 ((rd_T63 l0_1 x54_3).f2) (((rd_T63 l0_1 x54_3).f2).length : Int) x96_5 l0_0 l0_1 = some r) ∧ Aside0 (kq ≤ kj46) ∧ Aside0 (Kd.R (Kd.int .i64) 3 w' w.heap.size (fun _ => True) v210 x5_5) ∧ Aside0 (w'.heap[gb189]? = some (.cells #[(.slice A0_0 l0_0.length c0_0), (.slice (some ad212) l0_1.length c0_1)] 31 (0, 0))) ∧ Aside0 (w'.heap[gb213]? = some (.cells #[.int .i64 ((rd_T63 l0_1 x54_3).f0), .string ((rd_T63 l0_1 x54_3).f1), (.slice A212_2 ((rd_T63 l0_1 x54_3).f2).length c212_2)] 63 (0, 0))) ∧ Aside0 (Below w.heap.size w w'))
          case atStart => exact ⟨(x5_3), (0), ZZ0ab324, H, ⟨Nat.le_refl _⟩, ⟨(zR HO_5)⟩, ⟨(zB BK189)⟩, ⟨(zB BK213)⟩, ⟨ZZ295621⟩⟩
          case round =>
           clear H
           try clear c78
           try clear hcz80_0
           try clear hcz80_1
           try clear hcz80_2
           try clear hfz80_0
           try clear hfz80_1
           try clear hfz80_2
           obtain ⟨x5_5, x96_5, rfl, HA, HK5, HO_5, BK189, BK213, HB⟩ := hrel
           cases gk with
           | zero => exact absurd HA.out (by simp [impl_IsValidLedger.l2])
           | succ k5 =>
            have H := HA.out
            clear HA
            simp only [impl_IsValidLedger.l2] at H
            by_cases c81 : x96_5 < (((rd_T63 l0_1 x54_3).f2).length : Int)
            ·rw [if_pos c81] at H
             have c81b0 := decide_eq_true c81
             clear c81
             obtain ⟨c82b0, H⟩ := ifYd H
             obtain ⟨c83b0, H⟩ := ifYd H
             obtain ⟨c84b0, H⟩ := ifYd H
             obtain ⟨c85b0, H⟩ := ifYd H
             try rw [Option.bind_some] at H
             generalize hy223 : (x5_5.set (((rd_T70 ((rd_T63 l0_1 x54_3).f2) x96_5).f0) : Int).toNat (wrap64 ((rd x5_5 ((rd_T70 ((rd_T63 l0_1 x54_3).f2) x96_5).f0)) + ((rd_T70 ((rd_T63 l0_1 x54_3).f2) x96_5).f1))) : List Int) = y223 at H
             have Ny223 := Aside0.mk hy223.symm
             clear hy223
             obtain ⟨t225, A88, H⟩ := bdY H
             have p220 : 0 ≤ (x96_5 : Int) := of_decide_eq_true ZZ853400
             have q220 : x96_5 < (((rd_T63 l0_1 x54_3).f2).length : Int) := of_decide_eq_true ZZ853400
             obtain ⟨ad220, e220, hx220_0, hx220_1⟩ := at_T70 HR212_2.out x96_5 p220 q220
             cases e220
             replace hx220_0 := (HB.out.cell (World.block_lt_of_cell? w _ hx220_0)).trans hx220_0
             replace hx220_1 := (HB.out.cell (World.block_lt_of_cell? w _ hx220_1)).trans hx220_1
             replace p220 := eq_true p220
             replace q220 := eq_true q220
             try go_wp2_with (first | ((with_reducible refine gate_dst (N := 9) rfl ?_); (try (refine gate_guard (by rfl) ?_; dsimp only)); refine bx 9 (cs := #[.int .i64 0, .int .i64 0]) (t := 70) ?_; intro gb221 hg w90 hbox hb; replace HO_5 := Aside0.mk (Kd.R_below (zR HO_5) hb); have BK221 := Aside0.mk (hbox); have GW221 := gw hg; have GE221 := gw hg; replace HB := hB hb; have NB189_221 := nl hg BK189; have NB221_189 := ng hg BK189; replace BK189 := kb BK189 hb; have NB213_221 := nl hg BK213; have NB221_213 := ng hg BK213; replace BK213 := kb BK213 hb; clear hb hbox hg; have hnb91 := NB221_189.out; have hnc91 := NB189_221.out; have hnb92 := NB221_213.out; have hnc92 := NB213_221.out; obtain ⟨hcz93_0, hcz93_1, hfz93_0, hfz93_1⟩ := z2 BK221))
             generalize hw_ : ((w90.setCell ⟨gb221, 0, none⟩ (.int .i64 ((rd_T70 ((rd_T63 l0_1 x54_3).f2) x96_5).f0))).setCell ⟨gb221, 1, none⟩ (.int .i64 ((rd_T70 ((rd_T63 l0_1 x54_3).f2) x96_5).f1))) = w94
             replace HO_5 : Aside0 (Kd.R (Kd.int .i64) 3 w94 w.heap.size (fun _ => True) v210 x5_5) := ⟨(by subst hw_; refine bR ?_; exact Kd.R_mono (Kd.R_far (p := ⟨gb221, 1, none⟩) (Kd.R_far (p := ⟨gb221, 0, none⟩) (Kd.R_types HO_5.out BK221.out (by decide)) (fun _ hk => hk.2) (.int .i64 ((rd_T70 ((rd_T63 l0_1 x54_3).f2) x96_5).f0))) (fun _ hk => hk.2) (.int .i64 ((rd_T70 ((rd_T63 l0_1 x54_3).f2) x96_5).f1))) (fun _ hk => trivial))⟩
             replace BK189 : Aside0 (w94.heap[gb189]? = some (.cells #[.slice A0_0 l0_0.length c0_0, .slice (some ad212) l0_1.length c0_1] 31 (0, 0))) := ⟨(by subst hw_; refine bd ?_; refine blk_far ?_ NB189_221.out _; refine bd ?_; refine blk_far ?_ NB189_221.out _; refine bd ?_; exact BK189.out)⟩
             replace BK213 : Aside0 (w94.heap[gb213]? = some (.cells #[.int .i64 ((rd_T63 l0_1 x54_3).f0), .string ((rd_T63 l0_1 x54_3).f1), .slice (some ad220) ((rd_T63 l0_1 x54_3).f2).length c212_2] 63 (0, 0))) := ⟨(by subst hw_; refine bd ?_; refine blk_far ?_ NB213_221.out _; refine bd ?_; refine blk_far ?_ NB213_221.out _; refine bd ?_; exact BK213.out)⟩
             replace BK221 : Aside0 (w94.heap[gb221]? = some (.cells #[.int .i64 ((rd_T70 ((rd_T63 l0_1 x54_3).f2) x96_5).f0), .int .i64 ((rd_T70 ((rd_T63 l0_1 x54_3).f2) x96_5).f1)] 70 (0, 0))) := ⟨(by subst hw_; refine bd ?_; refine blk_put (cs := #[.int .i64 ((rd_T70 ((rd_T63 l0_1 x54_3).f2) x96_5).f0), .int .i64 0]) ?_ 1 _ rfl; refine bd ?_; refine blk_put (cs := #[.int .i64 0, .int .i64 0]) ?_ 0 _ rfl; refine bd ?_; exact BK221.out)⟩
             replace HB : Aside0 (Below w.heap.size w w94) := ⟨ZZ0d0602⟩
             clear hw_
             replace HO_5 := Aside0.mk (Kd.R_drew HO_5.out)
             replace BK189 := Aside0.mk (blk_drew BK189.out)
             replace BK213 := Aside0.mk (blk_drew BK213.out)
             replace BK221 := Aside0.mk (blk_drew BK221.out)
             replace HB := Aside0.mk (below_drew1 HB.out)
             obtain ⟨Ao96, co96, eo96⟩ := Kd.R_slice HO_5.out
             (first | subst eo96 | (injection eo96 with f1_ f2_ f3_; have f4_ := f1_.symm; have f5_ := f3_.symm; clear f1_ f2_ f3_; subst f4_; subst f5_))
             have p222 : 0 ≤ (((rd_T70 ((rd_T63 l0_1 x54_3).f2) x96_5).f0) : Int) := of_decide_eq_true ZZ853400
             have q222 : ((rd_T70 ((rd_T63 l0_1 x54_3).f2) x96_5).f0) < (x5_5.length : Int) := of_decide_eq_true ZZ853400
             obtain ⟨ad222, e222, hx222_0⟩ := Kd.at_int (Kd.R_reads' HO_5.out).2.2 ((rd_T70 ((rd_T63 l0_1 x54_3).f2) x96_5).f0) p222 q222
             cases e222
             replace p222 := eq_true p222
             replace q222 := eq_true q222
             have p86 : 0 ≤ (((rd_T70 ((rd_T63 l0_1 x54_3).f2) x96_5).f0) : Int) := of_decide_eq_true ZZ853400
             have q86 : (((rd_T70 ((rd_T63 l0_1 x54_3).f2) x96_5).f0) : Int) < ((x5_5.length : Int) : Int) := of_decide_eq_true ZZ853400
             obtain ⟨go86, co86, eo86, gb86, gl86, cl86, HG86⟩ := Kd.R_form HO_5.out (by omega)
             (first | cases eo86 | (injection eo86 with ea_ en_ ec_; (first | subst ea_ | (injection ea_ with ea_; subst ea_)); subst ec_; clear en_))
             have GB86 := Aside0.mk gb86
             have GG86 := Aside0.mk HG86
             clear gb86 gl86 HG86
             (first | simp only [add_plain] at hx222_0 | skip)
             obtain ⟨hx86_0, hf86_0⟩ := Kd.R_celln 0 HO_5.out (((rd_T70 ((rd_T63 l0_1 x54_3).f2) x96_5).f0) : Int) p86 q86
             replace p86 := eq_true p86
             replace q86 := eq_true q86
             have HP97 := Kd.R_putn HO_5.out (((rd_T70 ((rd_T63 l0_1 x54_3).f2) x96_5).f0) : Int) (wrap64 ((rd x5_5 ((rd_T70 ((rd_T63 l0_1 x54_3).f2) x96_5).f0)) + ((rd_T70 ((rd_T63 l0_1 x54_3).f2) x96_5).f1)))
             rw [← Ny223.out] at HP97
             have HQ97 := Aside0.mk HP97
             clear HP97
             refine start_ (n := 10) (S := fun w' => w'.cell? ⟨gb221, 0, none⟩ = some (.int .i64 ((rd_T70 ((rd_T63 l0_1 x54_3).f2) x96_5).f0)) ∧ w'.cell? ⟨gb221, 1, none⟩ = some (.int .i64 ((rd_T70 ((rd_T63 l0_1 x54_3).f2) x96_5).f1)) ∧ w'.cell? ⟨go86, (((rd_T70 ((rd_T63 l0_1 x54_3).f2) x96_5).f0)).toNat, none⟩ = some (.int .i64 (rd x5_5 ((rd_T70 ((rd_T63 l0_1 x54_3).f2) x96_5).f0)))) (ds := [9]) #[false, false, false, false, false, false, false, false, false, false] (by kernel_rfl) rfl rfl ⟨(blk_cell BK221.out 0).trans rfl, (blk_cell BK221.out 1).trans rfl, hx222_0⟩ (fun hHeld => ?_); refine with_tabW impl_IsValidLedger.tab18 impl_IsValidLedger.bits18 (fun HT_ HW_ => ?_)
             generalize w94.drew = w95 at HO_5 BK189 BK213 BK221 HB GG86 HQ97 hf86_0 hx222_0 hx86_0 hHeld ⊢
             refine pu 0 100 ?_
             refine pu 1 101 ?_
             refine pu 5 105 ?_
             refine tk 2 102 ?_
             refine pu 3 103 ?_
             refine tk 4 104 ?_
             refine tk 6 106 ?_
             refine pu 7 107 ?_
             refine pu 8 108 ?_
             refine last_ (i := 9) (N := none) #[true, true, true, true, true, true, true, true, true, true] rfl rfl (one_of HT_.out (by kernel_rfl)) (by decide) (fun K hK => ?_)
             refine skip_ (w1 := ?_) (by rfl) rfl ?_ ?_
             rotate_left
             ·go_simp
              rfl
             refine hK.out _ _ ?_
             clear hK K
             refine done_ (done_of HT_.out (by kernel_rfl)) ?_
             have hnb98 : gb221 ≠ go86 := (by have h_ := Kd.R_ne HO_5.out BK221.out (by decide); intro e_; exact h_ (by rw [e_]; rfl))
             have hnc98 : go86 ≠ gb221 := Ne.symm hnb98
             obtain ⟨hcz99_0, hcz99_1, hfz99_0, hfz99_1⟩ := z2 BK221
             have p87 : 0 ≤ (((rd_T70 ((rd_T63 l0_1 x54_3).f2) x96_5).f0) : Int) := of_decide_eq_true ZZ853400
             have q87 : (((rd_T70 ((rd_T63 l0_1 x54_3).f2) x96_5).f0) : Int) < ((x5_5.length : Int) : Int) := of_decide_eq_true ZZ853400
             replace p87 := eq_true p87
             replace q87 := eq_true q87
             by_cases c89 : t225 = true
             ·subst c89
              replace H := ifT H
              replace H := Aside0.mk H
              try go_wp2_with (first | (refine gc 114 Tryd.func62 #[.int .i64 (wrap64 ((rd x5_5 ((rd_T70 ((rd_T63 l0_1 x54_3).f2) x96_5).f0)) + ((rd_T70 ((rd_T63 l0_1 x54_3).f2) x96_5).f1)))] ?_; (with_reducible refine (impl_isAmount.calls (wrap64 ((rd x5_5 ((rd_T70 ((rd_T63 l0_1 x54_3).f2) x96_5).f0)) + ((rd_T70 ((rd_T63 l0_1 x54_3).f2) x96_5).f1))) true _ A88.out).mono ?_); rintro e w' ⟨rfl, ⟨nd, rfl⟩⟩; refine ⟨_, rfl, ?_⟩))
              go_roundg k5
              case measure => have := HJ1.out; have := HK2.out; have := HK3.out; have := HJ46.out; have := HK5.out; omega
              case rel => exact ⟨(y223), (wrap64 (x96_5 + 1)), ZZ0ab324, H, kle, ⟨(by refine bR ?_; exact HQ97.out)⟩, ⟨(by refine bd ?_; refine blk_far ?_ (by have h_ := Kd.R_ne HO_5.out BK189.out (by decide); intro e_; exact h_ (by rw [e_]; rfl)) _; refine bd ?_; exact BK189.out)⟩, ⟨(by refine bd ?_; refine blk_far ?_ (by have h_ := Kd.R_ne HO_5.out BK213.out (by decide); intro e_; exact h_ (by rw [e_]; rfl)) _; refine bd ?_; exact BK213.out)⟩, ⟨(by repeat (first | (with_reducible first | exact HB.out | apply below_alloc | apply pw_below_drewN | apply below_drew1 | refine below_set ?_ GB86.out | refine below_set ?_ GE189.out | refine below_set ?_ GE213.out | refine below_set ?_ GE221.out) | exact HB.out))⟩⟩
             replace c89 := Bool.eq_false_iff.mpr c89
             subst c89
             replace H := ifF H
             obtain rfl := Option.some.inj H
             try go_wp2_with (first | (refine gc 114 Tryd.func62 #[.int .i64 (wrap64 ((rd x5_5 ((rd_T70 ((rd_T63 l0_1 x54_3).f2) x96_5).f0)) + ((rd_T70 ((rd_T63 l0_1 x54_3).f2) x96_5).f1)))] ?_; (with_reducible refine (impl_isAmount.calls (wrap64 ((rd x5_5 ((rd_T70 ((rd_T63 l0_1 x54_3).f2) x96_5).f0)) + ((rd_T70 ((rd_T63 l0_1 x54_3).f2) x96_5).f1))) false _ A88.out).mono ?_); rintro e w' ⟨rfl, ⟨nd, rfl⟩⟩; refine ⟨_, rfl, ?_⟩))
             go_ret
             exact ⟨ZZab01d2, (by repeat (first | (with_reducible first | exact HB.out | apply below_alloc | apply pw_below_drewN | apply below_drew1 | refine below_set ?_ GB86.out | refine below_set ?_ GE189.out | refine below_set ?_ GE213.out | refine below_set ?_ GE221.out) | exact HB.out))⟩
            rw [if_neg c81] at H
            have c81b0 := decide_eq_false c81
            clear c81
            replace H := Aside0.mk H
            go_wp2
            go_roundg k5
            case measure => have := HJ1.out; have := HK2.out; have := HK3.out; have := HJ46.out; have := HK5.out; omega
            case rel => exact ⟨(x5_5), (wrap64 (x54_3 + 1)), ZZ0ab324, H, kle, ⟨(zR HO_5)⟩, ⟨(zB BK189)⟩, ⟨ZZ295621⟩⟩
       rw [if_neg c44] at H
       have c44b0 := decide_eq_false c44
       clear c44
       obtain rfl := Option.some.inj H
       go_wp2
       go_ret
       exact ⟨ZZab01d2, ZZ295621⟩
end Go.Proofs.YtccdjchaaeligaaDoor.XFnExactCloseAccounts

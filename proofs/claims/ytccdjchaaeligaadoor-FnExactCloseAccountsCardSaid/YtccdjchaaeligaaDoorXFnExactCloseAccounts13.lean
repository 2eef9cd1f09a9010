import Derived.Test.YtccdjchaaeligaaDoorXFnExactCloseAccounts5
import Derived.Test.YtccdjchaaeligaaDoorXFnExactCloseAccounts1
import Derived.Test.YtccdjchaaeligaaDoorXFnExactCloseAccounts0
import Derived.Test.YtccdjchaaeligaaDoorXFnExactCloseAccounts12
namespace Go.Proofs.YtccdjchaaeligaaDoor.XFnExactCloseAccounts
open Go.Proofs.YtccdjchaaeligaaDoor.Short Go.RowKit Go.Proofs.YtccdjchaaeligaaDoorW.PrintWords Go.Proofs.YtccdjchaaeligaaDoorW.PrintLast Go.Proofs.YtccdjchaaeligaaDoorW.PrintMore
attribute [local go_sem] max2_int min2_int max_two min_two max_three min_three max_four min_four
set_option linter.unusedVariables false
set_option linter.unusedSimpArgs false
theorem ZZ73da48 {p : Prop} (h : p := by subst hw_; refine bd ?_; refine blk_far ?_ NB343_348.out _; refine bd ?_; refine blk_far ?_ NB343_348.out _; refine bd ?_; exact BK343.out) : p := h
theorem ZZ747cd9 {p : Prop} (h : p := by subst hw_; refine bd ?_; refine blk_put (cs := #[.int .i64 ((rd_T70 l0_2 x7_3).f0), .int .i64 0]) ?_ 1 _ rfl; refine bd ?_; refine blk_put (cs := #[.int .i64 0, .int .i64 0]) ?_ 0 _ rfl; refine bd ?_; exact BK348.out) : p := h
mutual
def spec_l26Entry.j0 : Nat → Int → Bool → Int → ByteArray → List (S70) → Option (Bool)
 | 0, _, _, _, _, _ => none
 | k + 1, x1, x25, x344000, x344001, x344002 => if x25 = true then (some false) else (spec_l26Entry.l0 k x1 0 x344000 x344001 x344002)
def spec_l26Entry.l0 : Nat → Int → Int → Int → ByteArray → List (S70) → Option (Bool)
 | 0, _, _, _, _, _ => none
 | k + 1, x1, x5, x344000, x344001, x344002 => if x5 < (x344001.size : Int) then (if 0 ≤ x5 then ((spec_l1In.f (wrap64 (bt x344001 x5)) 32 126).bind fun t346 => (if t346 = true then (spec_l26Entry.l0 k x1 (wrap64 (x5 + 1)) x344000 x344001 x344002) else (some false))) else (none)) else (spec_l26Entry.l1 k x1 0 0 x344000 x344001 x344002)
def spec_l26Entry.l1 : Nat → Int → Int → Int → Int → ByteArray → List (S70) → Option (Bool)
 | 0, _, _, _, _, _, _ => none
 | k + 1, x1, x6, x7, x344000, x344001, x344002 => if x7 < (x344002.length : Int) then (if 0 ≤ x7 then ((spec_l1In.f ((rd_T70 x344002 x7).f0) 0 (wrap64 (x1 - 1))).bind fun t349 => (if t349 = true then ((spec_l2Amount.f ((rd_T70 x344002 x7).f1)).bind fun t350 => (if t350 = true then (if ((rd_T70 x344002 x7).f1) = 0 then (spec_l26Entry.j3 k x1 x6 x7 true x344000 x344001 x344002 ((rd_T70 x344002 x7).f0) ((rd_T70 x344002 x7).f1)) else (if x7 > 0 then (if 0 ≤ (wrap64 (x7 - 1)) then (if (wrap64 (x7 - 1)) < (x344002.length : Int) then (spec_l26Entry.j3 k x1 x6 x7 (decide (((rd_T70 x344002 (wrap64 (x7 - 1))).f0) ≥ ((rd_T70 x344002 x7).f0))) x344000 x344001 x344002 ((rd_T70 x344002 x7).f0) ((rd_T70 x344002 x7).f1)) else (none)) else (none)) else (spec_l26Entry.j3 k x1 x6 x7 false x344000 x344001 x344002 ((rd_T70 x344002 x7).f0) ((rd_T70 x344002 x7).f1)))) else (spec_l26Entry.j3 k x1 x6 x7 true x344000 x344001 x344002 ((rd_T70 x344002 x7).f0) ((rd_T70 x344002 x7).f1)))) else (spec_l26Entry.j3 k x1 x6 x7 true x344000 x344001 x344002 ((rd_T70 x344002 x7).f0) ((rd_T70 x344002 x7).f1)))) else (none)) else (some (x6 == 0))
def spec_l26Entry.j3 : Nat → Int → Int → Int → Bool → Int → ByteArray → List (S70) → Int → Int → Option (Bool)
 | 0, _, _, _, _, _, _, _, _, _ => none
 | k + 1, x1, x6, x7, x84, x344000, x344001, x344002, x349000, x349001 => if x84 = true then (some false) else (spec_l26Entry.l1 k x1 (wrap64 (x6 + x349001)) (wrap64 (x7 + 1)) x344000 x344001 x344002)
end
def spec_l26Entry.f (k : Nat) (a0_0 : Int) (a0_1 : ByteArray) (l0_2 : List (S70)) (a1 : Int) : Option (Bool) := (spec_l3Good.f a0_0).bind fun t344 => (if t344 = true then (if (a0_1.size : Int) > 30 then (spec_l26Entry.j0 k a1 true a0_0 a0_1 l0_2) else ((spec_l1In.f (l0_2.length : Int) 2 8).bind fun t345 => (spec_l26Entry.j0 k a1 (!t345) a0_0 a0_1 l0_2))) else (spec_l26Entry.j0 k a1 true a0_0 a0_1 l0_2))
theorem spec_l26Entry.mono_l : ∀ k, (∀ y0 y1 y2 y3 y4, LeO (spec_l26Entry.j0 k y0 y1 y2 y3 y4) (spec_l26Entry.j0 (k + 1) y0 y1 y2 y3 y4)) ∧ (∀ y0 y1 y2 y3 y4, LeO (spec_l26Entry.l0 k y0 y1 y2 y3 y4) (spec_l26Entry.l0 (k + 1) y0 y1 y2 y3 y4)) ∧ (∀ y0 y1 y2 y3 y4 y5, LeO (spec_l26Entry.l1 k y0 y1 y2 y3 y4 y5) (spec_l26Entry.l1 (k + 1) y0 y1 y2 y3 y4 y5)) ∧ (∀ y0 y1 y2 y3 y4 y5 y6 y7 y8, LeO (spec_l26Entry.j3 k y0 y1 y2 y3 y4 y5 y6 y7 y8) (spec_l26Entry.j3 (k + 1) y0 y1 y2 y3 y4 y5 y6 y7 y8))
 | 0 => ⟨fun _ _ _ _ _ r h => by simp [spec_l26Entry.j0] at h, fun _ _ _ _ _ r h => by simp [spec_l26Entry.l0] at h, fun _ _ _ _ _ _ r h => by simp [spec_l26Entry.l1] at h, fun _ _ _ _ _ _ _ _ _ r h => by simp [spec_l26Entry.j3] at h⟩
 | k + 1 => by
  obtain ⟨ih0, ih1, ih2, ih3⟩ := spec_l26Entry.mono_l k
  refine ⟨?_, ?_, ?_, ?_⟩
  all_goals intros
  all_goals (first | unfold spec_l26Entry.j0 | unfold spec_l26Entry.l0 | unfold spec_l26Entry.l1 | unfold spec_l26Entry.j3)
  all_goals
   repeat' with_reducible first | apply ih0 | apply ih1 | apply ih2 | apply ih3 | exact LeO.refl _ | exact LeO.none _ | refine LeO.ite ?_ ?_ | refine LeO.bind ?_ (fun _ => ?_)
theorem spec_l26Entry.mono : ∀ a0 a1 a2 a3 k, LeO (spec_l26Entry.f k a0 a1 a2 a3) (spec_l26Entry.f (k + 1) a0 a1 a2 a3) := by
 intro a0 a1 a2 a3 k
 obtain ⟨ih0, ih1, ih2, ih3⟩ := spec_l26Entry.mono_l k
 unfold spec_l26Entry.f
 repeat' with_reducible first | apply ih0 | apply ih1 | apply ih2 | apply ih3 | exact LeO.refl _ | exact LeO.none _ | refine LeO.ite ?_ ?_ | refine LeO.bind ?_ (fun _ => ?_)
def spec_l26Entry.T13 : Bool × List (List Nat × List Nat) := (true, [([], []), ([0], [0]), ([], []), ([2], [2]), ([1, 3], [1, 3]), ([4], [4]), ([5, 4], [5]), ([6], [6]), ([7, 6], [6, 7]), ([8, 6, 6], [6, 8]), ([9, 6], [6, 9]), ([6, 10], [6, 10]), ([11, 9], [11]), ([12], [12]), ([13, 12], [12, 13]), ([14, 12], [12, 14]), ([12, 15], [12, 15]), ([16, 12], [16]), ([17], [17]), ([18, 17], [17, 18]), ([19, 17, 17], [17, 19]), ([20], [20]), ([21, 20], [20, 21]), ([20], [20]), ([23, 20], [20, 23]), ([22, 24, 20], [20, 22, 24]), ([25, 20], [20, 25]), ([26, 20], [20, 26]), ([20], [20]), ([28, 20], [20, 28]), ([27, 29, 20], [20, 27, 29]), ([20, 30, 17], [17, 20, 30]), ([17, 31], [17, 31])])
def spec_l26Entry.B13 : List Nat := [0, 1, 0, 4, 15, 31, 63, 127, 255, 511, 1023, 2047, 4095, 8191, 16383, 32767, 65535, 131071, 262143, 524287, 1048575, 2097151, 4194303, 2097151, 10485759, 33554431, 67108863, 134217727, 2097151, 270532607, 1073741823, 2147483647, 4294967295]
theorem spec_l26Entry.tab13 : rtab .any (opsOf Tryd.f102 13) = spec_l26Entry.T13 := by kernel_rfl
theorem spec_l26Entry.bits13 : waitsOk spec_l26Entry.T13.2 spec_l26Entry.B13 = true := by kernel_rfl
set_option maxHeartbeats 8000000 in
set_option maxRecDepth 100000 in
theorem spec_l26Entry.calls (k : Nat) (a0_0 : Int) (a0_1 : ByteArray) (A0_2 : Option Addr) (c0_2 : Nat) (l0_2 : List (S70)) (a1 : Int) (r : Bool) (w : World) (hr0_2 : Kd.C k70 w A0_2 l0_2.length l0_2) (hc0_2 : l0_2.length ≤ c0_2) (h : spec_l26Entry.f k a0_0 a0_1 l0_2 a1 = some r) :
 Calls Tryd.prog 102 #[.agg #[.int .i64 a0_0, .string a0_1, .slice A0_2 l0_2.length c0_2], .int .i64 a1] w fun e w' => e = .returned (.bool r) ∧ Below w.heap.size w w' := by
 have hu63 := Tryd.underlying63
 have hu70 := Tryd.underlying70
 have HR0_2 := Aside0.mk hr0_2
 have HC0_2 := Aside0.mk hc0_2
 clear hr0_2 hc0_2
 have HB := Aside0.mk (Below.refl w.heap.size w)
 have H := h
 clear h
 unfold spec_l26Entry.f at H
 have HC3 := Aside0.mk H
 clear H
 go_enter Tryd.func102, Tryd.ntmps102
 go_upto_region 1 with (first | ((with_reducible refine gate_dst (N := 2) rfl ?_); (try (refine gate_guard (by rfl) ?_; dsimp only)); refine bx 2 (cs := #[.int .i64 a0_0, .string a0_1, .slice A0_2 l0_2.length c0_2]) (t := 63) ?_; intro gb343 hg w4 hbox hb; have BK343 := Aside0.mk (hbox); have GW343 := gw hg; have GE343 := gw hg; replace HB := hB hb; clear hb hbox hg))
 (try simp only [Act.put, List.setIfInBounds_toArray, List.set_cons_zero, List.set_cons_succ])
 go_cut [25] (fun v25 wc => ∃ (kq : Nat) (x25_2 : Bool), v25 = .bool x25_2 ∧ Aside0 (spec_l26Entry.j0 kq a1 x25_2 a0_0 a0_1 l0_2 = some r) ∧ Aside0 (kq ≤ k) ∧ Aside0 (wc.heap[gb343]? = some (.cells #[.int .i64 a0_0, .string a0_1, (.slice A0_2 l0_2.length c0_2)] 63 (0, 0))) ∧ Aside0 (Below w.heap.size w wc))
 case first =>
  have H := HC3.out
  clear HC3
  obtain ⟨t344, A5, H⟩ := bdY H
  by_cases c6 : t344 = true
  ·subst c6
   replace H := ifT H
   by_cases c7 : (a0_1.size : Int) > 30
   ·rw [if_pos c7] at H
    have c7b0 : decide (30 < (a0_1.size : Int)) = true := decide_eq_true c7
    have c7b1 : decide (30 < a0_1.size) = true := decide_eq_true (by omega)
    clear c7
    (first | rw [c7b0] | (simp only [i64_w, i32_w]; rw [c7b0]) | skip)
    replace H := Aside0.mk H
    obtain ⟨hcz8_0, hcz8_1, hcz8_2, hfz8_0, hfz8_1, hfz8_2⟩ := z3 BK343
    go_wp2_with (first | (refine gc 11 Tryd.func66 #[.int .i64 a0_0] ?_; (with_reducible refine (spec_l3Good.calls a0_0 true _ A5.out).mono ?_); rintro e w' ⟨rfl, ⟨nd, rfl⟩⟩; refine ⟨_, rfl, ?_⟩))
    go_meet
    case rel => exact ⟨_, (true), ZZ0ab324, H, kle, ⟨(zB BK343)⟩, ⟨ZZ295621⟩⟩
   rw [if_neg c7] at H
   have c7b0 : decide (30 < (a0_1.size : Int)) = false := decide_eq_false c7
   have c7b1 : decide (30 < a0_1.size) = false := decide_eq_false (by omega)
   clear c7
   (first | rw [c7b0] | (simp only [i64_w, i32_w]; rw [c7b0]) | skip)
   obtain ⟨t345, A9, H⟩ := bdY H
   replace H := Aside0.mk H
   obtain ⟨hcz10_0, hcz10_1, hcz10_2, hfz10_0, hfz10_1, hfz10_2⟩ := z3 BK343
   go_wp2_with (first | (refine gc 11 Tryd.func66 #[.int .i64 a0_0] ?_; (with_reducible refine (spec_l3Good.calls a0_0 true _ A5.out).mono ?_); rintro e w' ⟨rfl, ⟨nd, rfl⟩⟩; refine ⟨_, rfl, ?_⟩) | (go_at_call 65; (with_reducible refine (spec_l1In.calls (l0_2.length : Int) 2 8 t345 _ A9.out).mono ?_); rintro e w' ⟨rfl, ⟨nd, rfl⟩⟩))
   go_meet
   case rel => exact ⟨_, (!t345), ZZ0ab324, H, kle, ⟨(zB BK343)⟩, ⟨ZZ295621⟩⟩
  replace c6 := Bool.eq_false_iff.mpr c6
  subst c6
  replace H := ifF H
  replace H := Aside0.mk H
  obtain ⟨hcz11_0, hcz11_1, hcz11_2, hfz11_0, hfz11_1, hfz11_2⟩ := z3 BK343
  go_wp2_with (first | (refine gc 11 Tryd.func66 #[.int .i64 a0_0] ?_; (with_reducible refine (spec_l3Good.calls a0_0 false _ A5.out).mono ?_); rintro e w' ⟨rfl, ⟨nd, rfl⟩⟩; refine ⟨_, rfl, ?_⟩))
  go_meet
  case rel => exact ⟨_, (true), ZZ0ab324, H, kle, ⟨(zB BK343)⟩, ⟨ZZ295621⟩⟩
 case rest =>
  clear HC3
  try clear c6
  try clear c7
  try clear c7b0
  try clear c7b1
  try clear hcz10_0
  try clear hcz10_1
  try clear hcz10_2
  try clear hcz11_0
  try clear hcz11_1
  try clear hcz11_2
  try clear hcz8_0
  try clear hcz8_1
  try clear hcz8_2
  try clear hfz10_0
  try clear hfz10_1
  try clear hfz10_2
  try clear hfz11_0
  try clear hfz11_1
  try clear hfz11_2
  try clear hfz8_0
  try clear hfz8_1
  try clear hfz8_2
  obtain ⟨kq, x25_2, rfl, HA, HJ2, BK343, HB⟩ := hcut
  cases kq with
  | zero => exact absurd HA.out (by simp [spec_l26Entry.j0])
  | succ kj2 =>
   have H := HA.out
   clear HA
   simp only [spec_l26Entry.j0] at H
   by_cases c12 : x25_2 = true
   ·subst c12
    replace H := ifT H
    obtain rfl := Option.some.inj H
    go_wp2
    go_ret
    exact ⟨ZZab01d2, ZZ295621⟩
   replace c12 := Bool.eq_false_iff.mpr c12
   subst c12
   replace H := ifF H
   replace H := Aside0.mk H
   go_wp2
   go_loopg [5] kj2 (fun kq v5 w' => ∃ (x5_2 : Int), v5 = .int .i64 x5_2 ∧ Aside0 (spec_l26Entry.l0 kq a1 x5_2 a0_0 a0_1 l0_2 = some r) ∧ Aside0 (kq ≤ kj2) ∧ Aside0 (w'.heap[gb343]? = some (.cells #[.int .i64 a0_0, .string a0_1, (.slice A0_2 l0_2.length c0_2)] 63 (0, 0))) ∧ Aside0 (Below w.heap.size w w'))
   case atStart => exact ⟨(0), ZZ0ab324, H, ⟨Nat.le_refl _⟩, ⟨(zB BK343)⟩, ⟨ZZ295621⟩⟩
   case round =>
    clear H
    try clear c12
    obtain ⟨x5_2, rfl, HA, HK2, BK343, HB⟩ := hrel
    cases gk with
    | zero => exact absurd HA.out (by simp [spec_l26Entry.l0])
    | succ k2 =>
     have H := HA.out
     clear HA
     simp only [spec_l26Entry.l0] at H
     by_cases c13 : x5_2 < (a0_1.size : Int)
     ·rw [if_pos c13] at H
      have c13b0 := decide_eq_true c13
      clear c13
      obtain ⟨c14b0, H⟩ := ifYd H
      obtain ⟨t346, A16, H⟩ := bdY H
      by_cases c17 : t346 = true
      ·subst c17
       replace H := ifT H
       replace H := Aside0.mk H
       obtain ⟨hcz18_0, hcz18_1, hcz18_2, hfz18_0, hfz18_1, hfz18_2⟩ := z3 BK343
       have p15 : 0 ≤ (x5_2 : Int) := of_decide_eq_true ZZ853400
       have q15 : x5_2 < (a0_1.size : Int) := of_decide_eq_true ZZ853400
       have hx15 := bt_at a0_1 x5_2
       replace p15 := eq_true p15
       replace q15 := eq_true q15
       go_wp2_with (first | (refine gc 38 Tryd.func65 #[.int .i64 (wrap64 (bt a0_1 x5_2)), .int .i64 32, .int .i64 126] ?_; (with_reducible refine (spec_l1In.calls (wrap64 (bt a0_1 x5_2)) 32 126 true _ A16.out).mono ?_); rintro e w' ⟨rfl, ⟨nd, rfl⟩⟩; refine ⟨_, rfl, ?_⟩))
       go_roundg k2
       case measure => have := HJ2.out; have := HK2.out; omega
       case rel => exact ⟨(wrap64 (x5_2 + 1)), ZZ0ab324, H, kle, ⟨(zB BK343)⟩, ⟨ZZ295621⟩⟩
      replace c17 := Bool.eq_false_iff.mpr c17
      subst c17
      replace H := ifF H
      obtain rfl := Option.some.inj H
      obtain ⟨hcz19_0, hcz19_1, hcz19_2, hfz19_0, hfz19_1, hfz19_2⟩ := z3 BK343
      have p15 : 0 ≤ (x5_2 : Int) := of_decide_eq_true ZZ853400
      have q15 : x5_2 < (a0_1.size : Int) := of_decide_eq_true ZZ853400
      have hx15 := bt_at a0_1 x5_2
      replace p15 := eq_true p15
      replace q15 := eq_true q15
      go_wp2_with (first | (refine gc 38 Tryd.func65 #[.int .i64 (wrap64 (bt a0_1 x5_2)), .int .i64 32, .int .i64 126] ?_; (with_reducible refine (spec_l1In.calls (wrap64 (bt a0_1 x5_2)) 32 126 false _ A16.out).mono ?_); rintro e w' ⟨rfl, ⟨nd, rfl⟩⟩; refine ⟨_, rfl, ?_⟩))
      go_ret
      exact ⟨ZZab01d2, ZZ295621⟩
     rw [if_neg c13] at H
     have c13b0 := decide_eq_false c13
     clear c13
     replace H := Aside0.mk H
     obtain ⟨hcz20_0, hcz20_1, hcz20_2, hfz20_0, hfz20_1, hfz20_2⟩ := z3 BK343
     go_wp2
     go_loopg [6, 7] k2 (fun kq v6 v7 w' => ∃ (x6_3 : Int) (x7_3 : Int), v6 = .int .i64 x6_3 ∧ v7 = .int .i64 x7_3 ∧ Aside0 (spec_l26Entry.l1 kq a1 x6_3 x7_3 a0_0 a0_1 l0_2 = some r) ∧ Aside0 (kq ≤ k2) ∧ Aside0 (w'.heap[gb343]? = some (.cells #[.int .i64 a0_0, .string a0_1, (.slice A0_2 l0_2.length c0_2)] 63 (0, 0))) ∧ Aside0 (Below w.heap.size w w'))
     case atStart => exact ⟨(0), (0), ZZ0ab324, ZZ0ab324, H, ⟨Nat.le_refl _⟩, ⟨(zB BK343)⟩, ⟨ZZ295621⟩⟩
     case round =>
      clear H
      try clear c13b0
      try clear c14b0
      try clear p15
      try clear q15
      try clear hx15
      try clear c17
      try clear hcz18_0
      try clear hcz18_1
      try clear hcz18_2
      try clear hcz19_0
      try clear hcz19_1
      try clear hcz19_2
      try clear hcz20_0
      try clear hcz20_1
      try clear hcz20_2
      try clear hfz18_0
      try clear hfz18_1
      try clear hfz18_2
      try clear hfz19_0
      try clear hfz19_1
      try clear hfz19_2
      try clear hfz20_0
      try clear hfz20_1
      try clear hfz20_2
      obtain ⟨x6_3, x7_3, rfl, rfl, HA, HK3, BK343, HB⟩ := hrel
      cases gk with
      | zero => exact absurd HA.out (by simp [spec_l26Entry.l1])
      | succ k3 =>
       have H := HA.out
       clear HA
       simp only [spec_l26Entry.l1] at H
       by_cases c21 : x7_3 < (l0_2.length : Int)
       ·rw [if_pos c21] at H
        have c21b0 := decide_eq_true c21
        clear c21
        obtain ⟨c22b0, H⟩ := ifYd H
        have HC23 := Aside0.mk H
        clear H
        obtain ⟨hcz24_0, hcz24_1, hcz24_2, hfz24_0, hfz24_1, hfz24_2⟩ := z3 BK343
        have p347 : 0 ≤ (x7_3 : Int) := of_decide_eq_true ZZ853400
        have q347 : x7_3 < (l0_2.length : Int) := of_decide_eq_true ZZ853400
        obtain ⟨ad347, e347, hx347_0, hx347_1⟩ := at_T70 HR0_2.out x7_3 p347 q347
        cases e347
        replace hx347_0 := (HB.out.cell (World.block_lt_of_cell? w _ hx347_0)).trans hx347_0
        replace hx347_1 := (HB.out.cell (World.block_lt_of_cell? w _ hx347_1)).trans hx347_1
        replace p347 := eq_true p347
        replace q347 := eq_true q347
        go_upto_region 13 with (first | ((with_reducible refine gate_dst (N := 8) rfl ?_); (try (refine gate_guard (by rfl) ?_; dsimp only)); refine bx 8 (cs := #[.int .i64 0, .int .i64 0]) (t := 70) ?_; intro gb348 hg w25 hbox hb; have BK348 := Aside0.mk (hbox); have GW348 := gw hg; have GE348 := gw hg; replace HB := hB hb; have NB343_348 := nl hg BK343; have NB348_343 := ng hg BK343; replace BK343 := kb BK343 hb; clear hb hbox hg; have hnb26 := NB348_343.out; have hnc26 := NB343_348.out; obtain ⟨hcz27_0, hcz27_1, hfz27_0, hfz27_1⟩ := z2 BK348))
        (try simp only [Act.put, List.setIfInBounds_toArray, List.set_cons_zero, List.set_cons_succ])
        go_cut [84] (fun v84 wc => ∃ (kq : Nat) (x84_22 : Bool), v84 = .bool x84_22 ∧ Aside0 (spec_l26Entry.j3 kq a1 x6_3 x7_3 x84_22 a0_0 a0_1 l0_2 ((rd_T70 l0_2 x7_3).f0) ((rd_T70 l0_2 x7_3).f1) = some r) ∧ Aside0 (kq ≤ k3) ∧ Aside0 (wc.heap[gb343]? = some (.cells #[.int .i64 a0_0, .string a0_1, (.slice (some ad347) l0_2.length c0_2)] 63 (0, 0))) ∧ Aside0 (wc.heap[gb348]? = some (.cells #[.int .i64 ((rd_T70 l0_2 x7_3).f0), .int .i64 ((rd_T70 l0_2 x7_3).f1)] 70 (0, 0))) ∧ Aside0 (Below w.heap.size w wc))
        case first =>
         have H := HC23.out
         clear HC23
         obtain ⟨t349, A28, H⟩ := bdY H
         by_cases c29 : t349 = true
         ·subst c29
          replace H := ifT H
          obtain ⟨t350, A30, H⟩ := bdY H
          by_cases c31 : t350 = true
          ·subst c31
           replace H := ifT H
           by_cases c32 : ((rd_T70 l0_2 x7_3).f1) = 0
           ·rw [if_pos c32] at H
            have c32b0 := beq_iff_eq.mpr c32
            have c32b1 := bne_eq_false_iff_eq.mpr c32
            clear c32
            (first | rw [c32b0] | (simp only [i64_w, i32_w]; rw [c32b0]) | skip)
            replace H := Aside0.mk H
            try go_wp2
            generalize hw_ : ((w25.setCell ⟨gb348, 0, none⟩ (.int .i64 ((rd_T70 l0_2 x7_3).f0))).setCell ⟨gb348, 1, none⟩ (.int .i64 ((rd_T70 l0_2 x7_3).f1))) = w33
            replace BK343 : Aside0 (w33.heap[gb343]? = some (.cells #[.int .i64 a0_0, .string a0_1, .slice (some ad347) l0_2.length c0_2] 63 (0, 0))) := ⟨ZZ73da48⟩
            replace BK348 : Aside0 (w33.heap[gb348]? = some (.cells #[.int .i64 ((rd_T70 l0_2 x7_3).f0), .int .i64 ((rd_T70 l0_2 x7_3).f1)] 70 (0, 0))) := ⟨ZZ747cd9⟩
            replace HB : Aside0 (Below w.heap.size w w33) := ⟨ZZ0d0602⟩
            clear hw_
            replace BK343 := Aside0.mk (blk_drew BK343.out)
            replace BK348 := Aside0.mk (blk_drew BK348.out)
            replace HB := Aside0.mk (below_drew1 HB.out)
            refine st 33 (S := fun w' => w'.cell? ⟨gb348, 0, none⟩ = some (.int .i64 ((rd_T70 l0_2 x7_3).f0)) ∧ w'.cell? ⟨gb348, 1, none⟩ = some (.int .i64 ((rd_T70 l0_2 x7_3).f1))) spec_l26Entry.tab13 spec_l26Entry.bits13 zK (fun hHeld HT_ HW_ => ?_)
            generalize w33.drew = w34 at BK343 BK348 HB hHeld ⊢
            refine pu 0 52 ?_
            refine pu 2 54 ?_
            refine pu 3 55 ?_
            refine tk 1 53 ?_
            refine on1 4 56 Tryd.func65 #[.int .i64 ((rd_T70 l0_2 x7_3).f0), .int .i64 0, .int .i64 (wrap64 (a1 - 1))] (spec_l1In.calls ((rd_T70 l0_2 x7_3).f0) 0 (wrap64 (a1 - 1)) true _ A28.out) ?_
            rintro w' ⟨nd, rfl⟩
            refine ⟨hHeld, fun hHeld => ?_⟩
            refine pu 5 57 ?_
            refine pu 6 58 ?_
            refine pu 7 59 ?_
            refine tk 8 60 ?_
            refine on1 9 61 Tryd.func71 #[.int .i64 ((rd_T70 l0_2 x7_3).f1)] (spec_l2Amount.calls ((rd_T70 l0_2 x7_3).f1) true _ A30.out) ?_
            rintro w' ⟨nd, rfl⟩
            refine ⟨hHeld, fun hHeld => ?_⟩
            refine pu 10 62 ?_
            refine pu 11 63 ?_
            refine pu 12 64 ?_
            refine pu 13 65 ?_
            refine tk 14 66 ?_
            refine pu 15 67 ?_
            refine pu 16 68 ?_
            refine pu 17 69 ?_
            refine pn 18 70 ?_
            refine pn 19 71 ?_
            refine pn 20 72 ?_
            refine pn 21 73 ?_
            refine pn 22 74 ?_
            refine pn 23 75 ?_
            refine pn 24 76 ?_
            refine pn 25 77 ?_
            refine pn 26 78 ?_
            refine pn 27 79 ?_
            refine pn 28 80 ?_
            refine pn 29 81 ?_
            refine pn 30 82 ?_
            refine pn 31 83 ?_
            refine pu 32 84 ?_
            refine done_ (done_of HT_.out (by kernel_rfl)) ?_
            try go_wp2
            go_meet
            case rel => exact ⟨_, (true), ZZ0ab324, H, kle, ⟨(zB BK343)⟩, ⟨(zB BK348)⟩, ⟨ZZ295621⟩⟩
           rw [if_neg c32] at H
           have c32b0 := beq_eq_false_iff_ne.mpr c32
           have c32b1 := bne_iff_ne.mpr c32
           (first | rw [c32b0] | (simp only [i64_w, i32_w]; rw [c32b0]) | skip)
           by_cases c35 : x7_3 > 0
           ·rw [if_pos c35] at H
            have c35b0 : decide (0 < x7_3) = true := decide_eq_true c35
            clear c35
            obtain ⟨ji36, hji36⟩ : ∃ j_ : Int, (wrap64 (x7_3 - 1)) = j_ := ⟨_, rfl⟩
            (first | rw [hji36] at H | simp only [hji36] at H)
            (try rw [hji36] at A28)
            (try rw [hji36] at A30)
            have hji36w : (IntKind.i64.wrap (x7_3 - 1)) = ji36 := (i64_w _).trans hji36
            obtain ⟨c37b0, H⟩ := ifYd H
            obtain ⟨c38b0, H⟩ := ifYd H
            replace H := Aside0.mk H
            try go_wp2
            generalize hw_ : ((w25.setCell ⟨gb348, 0, none⟩ (.int .i64 ((rd_T70 l0_2 x7_3).f0))).setCell ⟨gb348, 1, none⟩ (.int .i64 ((rd_T70 l0_2 x7_3).f1))) = w39
            replace BK343 : Aside0 (w39.heap[gb343]? = some (.cells #[.int .i64 a0_0, .string a0_1, .slice (some ad347) l0_2.length c0_2] 63 (0, 0))) := ⟨ZZ73da48⟩
            replace BK348 : Aside0 (w39.heap[gb348]? = some (.cells #[.int .i64 ((rd_T70 l0_2 x7_3).f0), .int .i64 ((rd_T70 l0_2 x7_3).f1)] 70 (0, 0))) := ⟨ZZ747cd9⟩
            replace HB : Aside0 (Below w.heap.size w w39) := ⟨ZZ0d0602⟩
            clear hw_
            replace BK343 := Aside0.mk (blk_drew BK343.out)
            replace BK348 := Aside0.mk (blk_drew BK348.out)
            replace HB := Aside0.mk (below_drew1 HB.out)
            have p351 : 0 ≤ ((ji36) : Int) := of_decide_eq_true ZZ853400
            have q351 : (ji36) < (l0_2.length : Int) := of_decide_eq_true ZZ853400
            obtain ⟨ad351, e351, hx351_0, hx351_1⟩ := at_T70 HR0_2.out (ji36) p351 q351
            have hw351_1 := hx351_1
            have hw351_0 := hx351_0
            obtain rfl : ad347 = ad351 := (by injection e351)
            replace hx351_0 := (HB.out.cell (World.block_lt_of_cell? w _ hx351_0)).trans hx351_0
            replace hx351_1 := (HB.out.cell (World.block_lt_of_cell? w _ hx351_1)).trans hx351_1
            replace p351 := eq_true p351
            replace q351 := eq_true q351
            refine st 33 (S := fun w' => w'.cell? ⟨gb348, 0, none⟩ = some (.int .i64 ((rd_T70 l0_2 x7_3).f0)) ∧ w'.cell? ⟨gb348, 1, none⟩ = some (.int .i64 ((rd_T70 l0_2 x7_3).f1)) ∧ w'.cell? ⟨gb343, 0, none⟩ = some (.int .i64 a0_0) ∧ w'.cell? ⟨gb343, 1, none⟩ = some (.string a0_1) ∧ w'.cell? ⟨gb343, 2, none⟩ = some (.slice (some ad347) l0_2.length c0_2) ∧ w'.cell? (ad347.add (((ji36)).toNat * 2)) = some (.int .i64 ((rd_T70 l0_2 (ji36)).f0)) ∧ w'.cell? ⟨(ad347.add (((ji36)).toNat * 2)).block, (ad347.add (((ji36)).toNat * 2)).off + 1, none⟩ = some (.int .i64 ((rd_T70 l0_2 (ji36)).f1))) spec_l26Entry.tab13 spec_l26Entry.bits13 zK (fun hHeld HT_ HW_ => ?_)
            generalize w39.drew = w40 at BK343 BK348 HB hx351_0 hx351_1 hHeld ⊢
            refine pu 0 52 ?_
            refine pu 2 54 ?_
            refine pu 3 55 ?_
            refine tk 1 53 ?_
            refine on1 4 56 Tryd.func65 #[.int .i64 ((rd_T70 l0_2 x7_3).f0), .int .i64 0, .int .i64 (wrap64 (a1 - 1))] (spec_l1In.calls ((rd_T70 l0_2 x7_3).f0) 0 (wrap64 (a1 - 1)) true _ A28.out) ?_
            rintro w' ⟨nd, rfl⟩
            refine ⟨hHeld, fun hHeld => ?_⟩
            refine pu 5 57 ?_
            refine pu 6 58 ?_
            refine pu 7 59 ?_
            refine tk 8 60 ?_
            refine on1 9 61 Tryd.func71 #[.int .i64 ((rd_T70 l0_2 x7_3).f1)] (spec_l2Amount.calls ((rd_T70 l0_2 x7_3).f1) true _ A30.out) ?_
            rintro w' ⟨nd, rfl⟩
            refine ⟨hHeld, fun hHeld => ?_⟩
            refine pu 10 62 ?_
            refine pu 11 63 ?_
            refine pu 12 64 ?_
            refine pu 13 65 ?_
            refine tk 14 66 ?_
            refine pu 15 67 ?_
            refine pu 16 68 ?_
            refine pu 17 69 ?_
            refine pu 18 70 ?_
            refine pu 19 71 ?_
            refine pu 20 72 ?_
            refine pu 21 73 ?_
            refine pu 23 75 ?_
            refine pu 24 76 ?_
            refine pu 28 80 ?_
            refine tk 22 74 ?_
            refine pu 25 77 ?_
            refine pu 26 78 ?_
            refine tk 27 79 ?_
            refine tk 29 81 ?_
            refine pu 30 82 ?_
            refine pu 31 83 ?_
            refine pu 32 84 ?_
            refine done_ (done_of HT_.out (by kernel_rfl)) ?_
            try go_wp2
            go_meet
            case rel => exact ⟨_, (decide (((rd_T70 l0_2 (ji36)).f0) ≥ ((rd_T70 l0_2 x7_3).f0))), (by first | rfl | (simp; done) | (simp only [← hji36] <;> (first | rfl | simp)) | (simp [*]; done)), H, kle, ⟨(zB BK343)⟩, ⟨(zB BK348)⟩, ⟨ZZ295621⟩⟩
           rw [if_neg c35] at H
           have c35b0 : decide (0 < x7_3) = false := decide_eq_false c35
           clear c35
           replace H := Aside0.mk H
           try go_wp2
           generalize hw_ : ((w25.setCell ⟨gb348, 0, none⟩ (.int .i64 ((rd_T70 l0_2 x7_3).f0))).setCell ⟨gb348, 1, none⟩ (.int .i64 ((rd_T70 l0_2 x7_3).f1))) = w41
           replace BK343 : Aside0 (w41.heap[gb343]? = some (.cells #[.int .i64 a0_0, .string a0_1, .slice (some ad347) l0_2.length c0_2] 63 (0, 0))) := ⟨ZZ73da48⟩
           replace BK348 : Aside0 (w41.heap[gb348]? = some (.cells #[.int .i64 ((rd_T70 l0_2 x7_3).f0), .int .i64 ((rd_T70 l0_2 x7_3).f1)] 70 (0, 0))) := ⟨ZZ747cd9⟩
           replace HB : Aside0 (Below w.heap.size w w41) := ⟨ZZ0d0602⟩
           clear hw_
           replace BK343 := Aside0.mk (blk_drew BK343.out)
           replace BK348 := Aside0.mk (blk_drew BK348.out)
           replace HB := Aside0.mk (below_drew1 HB.out)
           refine st 33 (S := fun w' => w'.cell? ⟨gb348, 0, none⟩ = some (.int .i64 ((rd_T70 l0_2 x7_3).f0)) ∧ w'.cell? ⟨gb348, 1, none⟩ = some (.int .i64 ((rd_T70 l0_2 x7_3).f1))) spec_l26Entry.tab13 spec_l26Entry.bits13 zK (fun hHeld HT_ HW_ => ?_)
           generalize w41.drew = w42 at BK343 BK348 HB hHeld ⊢
           refine pu 0 52 ?_
           refine pu 2 54 ?_
           refine pu 3 55 ?_
           refine tk 1 53 ?_
           refine on1 4 56 Tryd.func65 #[.int .i64 ((rd_T70 l0_2 x7_3).f0), .int .i64 0, .int .i64 (wrap64 (a1 - 1))] (spec_l1In.calls ((rd_T70 l0_2 x7_3).f0) 0 (wrap64 (a1 - 1)) true _ A28.out) ?_
           rintro w' ⟨nd, rfl⟩
           refine ⟨hHeld, fun hHeld => ?_⟩
           refine pu 5 57 ?_
           refine pu 6 58 ?_
           refine pu 7 59 ?_
           refine tk 8 60 ?_
           refine on1 9 61 Tryd.func71 #[.int .i64 ((rd_T70 l0_2 x7_3).f1)] (spec_l2Amount.calls ((rd_T70 l0_2 x7_3).f1) true _ A30.out) ?_
           rintro w' ⟨nd, rfl⟩
           refine ⟨hHeld, fun hHeld => ?_⟩
           refine pu 10 62 ?_
           refine pu 11 63 ?_
           refine pu 12 64 ?_
           refine pu 13 65 ?_
           refine tk 14 66 ?_
           refine pu 15 67 ?_
           refine pu 16 68 ?_
           refine pu 17 69 ?_
           refine pu 18 70 ?_
           refine pu 19 71 ?_
           refine pu 20 72 ?_
           refine pn 21 73 ?_
           refine pn 22 74 ?_
           refine pn 23 75 ?_
           refine pn 24 76 ?_
           refine pn 25 77 ?_
           refine pn 26 78 ?_
           refine pn 27 79 ?_
           refine pn 28 80 ?_
           refine pn 29 81 ?_
           refine pn 30 82 ?_
           refine pu 31 83 ?_
           refine pu 32 84 ?_
           refine done_ (done_of HT_.out (by kernel_rfl)) ?_
           try go_wp2
           go_meet
           case rel => exact ⟨_, (false), ZZ0ab324, H, kle, ⟨(zB BK343)⟩, ⟨(zB BK348)⟩, ⟨ZZ295621⟩⟩
          replace c31 := Bool.eq_false_iff.mpr c31
          subst c31
          replace H := ifF H
          replace H := Aside0.mk H
          try go_wp2
          generalize hw_ : ((w25.setCell ⟨gb348, 0, none⟩ (.int .i64 ((rd_T70 l0_2 x7_3).f0))).setCell ⟨gb348, 1, none⟩ (.int .i64 ((rd_T70 l0_2 x7_3).f1))) = w43
          replace BK343 : Aside0 (w43.heap[gb343]? = some (.cells #[.int .i64 a0_0, .string a0_1, .slice (some ad347) l0_2.length c0_2] 63 (0, 0))) := ⟨ZZ73da48⟩
          replace BK348 : Aside0 (w43.heap[gb348]? = some (.cells #[.int .i64 ((rd_T70 l0_2 x7_3).f0), .int .i64 ((rd_T70 l0_2 x7_3).f1)] 70 (0, 0))) := ⟨ZZ747cd9⟩
          replace HB : Aside0 (Below w.heap.size w w43) := ⟨ZZ0d0602⟩
          clear hw_
          replace BK343 := Aside0.mk (blk_drew BK343.out)
          replace BK348 := Aside0.mk (blk_drew BK348.out)
          replace HB := Aside0.mk (below_drew1 HB.out)
          refine st 33 (S := fun w' => w'.cell? ⟨gb348, 0, none⟩ = some (.int .i64 ((rd_T70 l0_2 x7_3).f0)) ∧ w'.cell? ⟨gb348, 1, none⟩ = some (.int .i64 ((rd_T70 l0_2 x7_3).f1))) spec_l26Entry.tab13 spec_l26Entry.bits13 zK (fun hHeld HT_ HW_ => ?_)
          generalize w43.drew = w44 at BK343 BK348 HB hHeld ⊢
          refine pu 0 52 ?_
          refine pu 2 54 ?_
          refine pu 3 55 ?_
          refine tk 1 53 ?_
          refine on1 4 56 Tryd.func65 #[.int .i64 ((rd_T70 l0_2 x7_3).f0), .int .i64 0, .int .i64 (wrap64 (a1 - 1))] (spec_l1In.calls ((rd_T70 l0_2 x7_3).f0) 0 (wrap64 (a1 - 1)) true _ A28.out) ?_
          rintro w' ⟨nd, rfl⟩
          refine ⟨hHeld, fun hHeld => ?_⟩
          refine pu 5 57 ?_
          refine pu 6 58 ?_
          refine pu 7 59 ?_
          refine tk 8 60 ?_
          refine on1 9 61 Tryd.func71 #[.int .i64 ((rd_T70 l0_2 x7_3).f1)] (spec_l2Amount.calls ((rd_T70 l0_2 x7_3).f1) false _ A30.out) ?_
          rintro w' ⟨nd, rfl⟩
          refine ⟨hHeld, fun hHeld => ?_⟩
          refine pu 10 62 ?_
          refine pu 11 63 ?_
          refine pu 12 64 ?_
          refine pn 13 65 ?_
          refine pn 14 66 ?_
          refine pn 15 67 ?_
          refine pu 16 68 ?_
          refine pu 17 69 ?_
          refine pn 18 70 ?_
          refine pn 19 71 ?_
          refine pn 20 72 ?_
          refine pn 21 73 ?_
          refine pn 22 74 ?_
          refine pn 23 75 ?_
          refine pn 24 76 ?_
          refine pn 25 77 ?_
          refine pn 26 78 ?_
          refine pn 27 79 ?_
          refine pn 28 80 ?_
          refine pn 29 81 ?_
          refine pn 30 82 ?_
          refine pn 31 83 ?_
          refine pu 32 84 ?_
          refine done_ (done_of HT_.out (by kernel_rfl)) ?_
          try go_wp2
          go_meet
          case rel => exact ⟨_, (true), ZZ0ab324, H, kle, ⟨(zB BK343)⟩, ⟨(zB BK348)⟩, ⟨ZZ295621⟩⟩
         replace c29 := Bool.eq_false_iff.mpr c29
         subst c29
         replace H := ifF H
         replace H := Aside0.mk H
         try go_wp2
         generalize hw_ : ((w25.setCell ⟨gb348, 0, none⟩ (.int .i64 ((rd_T70 l0_2 x7_3).f0))).setCell ⟨gb348, 1, none⟩ (.int .i64 ((rd_T70 l0_2 x7_3).f1))) = w45
         replace BK343 : Aside0 (w45.heap[gb343]? = some (.cells #[.int .i64 a0_0, .string a0_1, .slice (some ad347) l0_2.length c0_2] 63 (0, 0))) := ⟨ZZ73da48⟩
         replace BK348 : Aside0 (w45.heap[gb348]? = some (.cells #[.int .i64 ((rd_T70 l0_2 x7_3).f0), .int .i64 ((rd_T70 l0_2 x7_3).f1)] 70 (0, 0))) := ⟨ZZ747cd9⟩
         replace HB : Aside0 (Below w.heap.size w w45) := ⟨ZZ0d0602⟩
         clear hw_
         replace BK343 := Aside0.mk (blk_drew BK343.out)
         replace BK348 := Aside0.mk (blk_drew BK348.out)
         replace HB := Aside0.mk (below_drew1 HB.out)
         refine st 33 (S := fun w' => w'.cell? ⟨gb348, 0, none⟩ = some (.int .i64 ((rd_T70 l0_2 x7_3).f0)) ∧ w'.cell? ⟨gb348, 1, none⟩ = some (.int .i64 ((rd_T70 l0_2 x7_3).f1))) spec_l26Entry.tab13 spec_l26Entry.bits13 zK (fun hHeld HT_ HW_ => ?_)
         generalize w45.drew = w46 at BK343 BK348 HB hHeld ⊢
         refine pu 0 52 ?_
         refine pu 2 54 ?_
         refine pu 3 55 ?_
         refine tk 1 53 ?_
         refine on1 4 56 Tryd.func65 #[.int .i64 ((rd_T70 l0_2 x7_3).f0), .int .i64 0, .int .i64 (wrap64 (a1 - 1))] (spec_l1In.calls ((rd_T70 l0_2 x7_3).f0) 0 (wrap64 (a1 - 1)) false _ A28.out) ?_
         rintro w' ⟨nd, rfl⟩
         refine ⟨hHeld, fun hHeld => ?_⟩
         refine pu 5 57 ?_
         refine pu 6 58 ?_
         refine pn 7 59 ?_
         refine pn 8 60 ?_
         refine pn 9 61 ?_
         refine pn 10 62 ?_
         refine pu 11 63 ?_
         refine pu 12 64 ?_
         refine pn 13 65 ?_
         refine pn 14 66 ?_
         refine pn 15 67 ?_
         refine pu 16 68 ?_
         refine pu 17 69 ?_
         refine pn 18 70 ?_
         refine pn 19 71 ?_
         refine pn 20 72 ?_
         refine pn 21 73 ?_
         refine pn 22 74 ?_
         refine pn 23 75 ?_
         refine pn 24 76 ?_
         refine pn 25 77 ?_
         refine pn 26 78 ?_
         refine pn 27 79 ?_
         refine pn 28 80 ?_
         refine pn 29 81 ?_
         refine pn 30 82 ?_
         refine pn 31 83 ?_
         refine pu 32 84 ?_
         refine done_ (done_of HT_.out (by kernel_rfl)) ?_
         try go_wp2
         go_meet
         case rel => exact ⟨_, (true), ZZ0ab324, H, kle, ⟨(zB BK343)⟩, ⟨(zB BK348)⟩, ⟨ZZ295621⟩⟩
        case rest =>
         clear HC23
         try clear c29
         try clear c31
         obtain ⟨kq, x84_22, rfl, HA, HJ22, BK343, BK348, HB⟩ := hcut
         cases kq with
         | zero => exact absurd HA.out (by simp [spec_l26Entry.j3])
         | succ kj22 =>
          have H := HA.out
          clear HA
          simp only [spec_l26Entry.j3] at H
          by_cases c47 : x84_22 = true
          ·subst c47
           replace H := ifT H
           obtain rfl := Option.some.inj H
           go_wp2
           go_ret
           exact ⟨ZZab01d2, ZZ295621⟩
          replace c47 := Bool.eq_false_iff.mpr c47
          subst c47
          replace H := ifF H
          replace H := Aside0.mk H
          have hnb48 := NB348_343.out
          have hnc48 := NB343_348.out
          obtain ⟨hcz49_0, hcz49_1, hfz49_0, hfz49_1⟩ := z2 BK348
          go_wp2
          go_roundg kj22
          case measure => have := HJ2.out; have := HK2.out; have := HK3.out; have := HJ22.out; omega
          case rel => exact ⟨(wrap64 (x6_3 + ((rd_T70 l0_2 x7_3).f1))), (wrap64 (x7_3 + 1)), ZZ0ab324, ZZ0ab324, H, kle, ⟨(zB BK343)⟩, ⟨ZZ295621⟩⟩
       rw [if_neg c21] at H
       have c21b0 := decide_eq_false c21
       clear c21
       obtain rfl := Option.some.inj H
       obtain ⟨hcz50_0, hcz50_1, hcz50_2, hfz50_0, hfz50_1, hfz50_2⟩ := z3 BK343
       go_wp2
       go_ret
       exact ⟨ZZab01d2, ZZ295621⟩
end Go.Proofs.YtccdjchaaeligaaDoor.XFnExactCloseAccounts

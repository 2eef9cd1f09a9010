import Derived.Test.YtccdjchaaeligaaDoorXFnExactReverseEntry11
import Derived.Test.YtccdjchaaeligaaDoorXFnExactReverseEntry10
import Derived.Test.YtccdjchaaeligaaDoorXFnExactReverseEntry1
import Derived.Test.YtccdjchaaeligaaDoorXFnExactReverseEntry0
import Derived.Test.YtccdjchaaeligaaDoorXFnExactReverseEntry14
import Derived.Test.YtccdjchaaeligaaDoorXFnExactReverseEntry16
import Derived.Test.YtccdjchaaeligaaDoorXFnExactReverseEntry18
namespace Go.Proofs.YtccdjchaaeligaaDoor.XFnExactReverseEntry
open Go.Proofs.YtccdjchaaeligaaDoor.Short Go.RowKit Go.Proofs.YtccdjchaaeligaaDoorW.PrintWords Go.Proofs.YtccdjchaaeligaaDoorW.PrintLast Go.Proofs.YtccdjchaaeligaaDoorW.PrintMore
attribute [local go_sem] max2_int min2_int max_two min_two max_three min_three max_four min_four
set_option linter.unusedVariables false
set_option linter.unusedSimpArgs false
def spec_l1Num.f : Nat → Int → Option (ByteArray)
 | 0, _ => none
 | k + 1, a0 => if a0 < 0 then ((spec_l1Num.f k (wrap64 (-a0))).bind fun t412 => (if 1 + t412.size ≤ 9223372036854775807 then (some ((⟨#[45]⟩ : ByteArray) ++ t412)) else (none))) else (if a0 < 10 then (if 0 ≤ a0 then (if a0 ≤ (wrap64 (a0 + 1)) then (if (wrap64 (a0 + 1)) ≤ 10 then (some ((⟨#[48, 49, 50, 51, 52, 53, 54, 55, 56, 57]⟩ : ByteArray).extract (a0 : Int).toNat ((wrap64 (a0 + 1)) : Int).toNat)) else (none)) else (none)) else (none)) else ((spec_l1Num.f k (wrap64 (Int.tdiv a0 10))).bind fun t413 => (if 0 ≤ (Int.tmod a0 10) then (if (Int.tmod a0 10) ≤ (wrap64 ((Int.tmod a0 10) + 1)) then (if (wrap64 ((Int.tmod a0 10) + 1)) ≤ 10 then (if t413.size + (((wrap64 ((Int.tmod a0 10) + 1)) : Int).toNat - ((Int.tmod a0 10) : Int).toNat) ≤ 9223372036854775807 then (some (t413 ++ ((⟨#[48, 49, 50, 51, 52, 53, 54, 55, 56, 57]⟩ : ByteArray).extract ((Int.tmod a0 10) : Int).toNat ((wrap64 ((Int.tmod a0 10) + 1)) : Int).toNat))) else (none)) else (none)) else (none)) else (none))))
theorem spec_l1Num.mono_l : ∀ k, (∀ y0, LeO (spec_l1Num.f k y0) (spec_l1Num.f (k + 1) y0))
 | 0 => fun _ r h => by simp [spec_l1Num.f] at h
 | k + 1 => by
  have ih0 := spec_l1Num.mono_l k
  ·intro y0
   unfold spec_l1Num.f
   repeat' with_reducible first | apply ih0 | exact LeO.refl _ | exact LeO.none _ | refine LeO.ite ?_ ?_ | refine LeO.bind ?_ (fun _ => ?_)
theorem spec_l1Num.mono : ∀ a0 k, LeO (spec_l1Num.f k a0) (spec_l1Num.f (k + 1) a0) := by
 intro a0 k
 have ih0 := spec_l1Num.mono_l k
 exact ih0 a0
def spec_l1Num.T5 : Bool × List (List Nat × List Nat) := (true, [([], []), ([0], [0]), ([1], [1]), ([], []), ([3], [3]), ([], []), ([5], [5]), ([6], [6]), ([4, 7], [4, 7]), ([2, 8], [2, 8]), ([9, 2, 0, 1, 2, 3, 4, 5, 6, 7, 8, 9], [9])])
def spec_l1Num.B5 : List Nat := [0, 1, 3, 0, 8, 0, 32, 96, 248, 511, 1023]
theorem spec_l1Num.tab5 : rtab .any (opsOf Tryd.f93 5) = spec_l1Num.T5 := by kernel_rfl
theorem spec_l1Num.bits5 : waitsOk spec_l1Num.T5.2 spec_l1Num.B5 = true := by kernel_rfl
set_option maxHeartbeats 8000000 in
set_option maxRecDepth 100000 in
theorem spec_l1Num.calls (k : Nat) : ∀ (a0 : Int) (r : ByteArray) (w : World) (h : spec_l1Num.f k a0 = some r),
 Calls Tryd.prog 93 #[.int .i64 a0] w fun e w' => e = .returned (.string r) ∧ Below w.heap.size w w' := by
 induction k using Nat.strongRecOn with
 | _ k ih =>
 intro a0 r w h
 cases k with
 | zero => exact absurd h (by simp [spec_l1Num.f])
 | succ k =>
 simp only [spec_l1Num.f] at h
 have HB := Aside0.mk (Below.refl w.heap.size w)
 have H : (if a0 < 0 then ((spec_l1Num.f k (wrap64 (-a0))).bind fun t412 => (if 1 + t412.size ≤ 9223372036854775807 then (some ((⟨#[45]⟩ : ByteArray) ++ t412)) else (none))) else (if a0 < 10 then (if 0 ≤ a0 then (if a0 ≤ (wrap64 (a0 + 1)) then (if (wrap64 (a0 + 1)) ≤ 10 then (some ((⟨#[48, 49, 50, 51, 52, 53, 54, 55, 56, 57]⟩ : ByteArray).extract (a0 : Int).toNat ((wrap64 (a0 + 1)) : Int).toNat)) else (none)) else (none)) else (none)) else ((spec_l1Num.f k (wrap64 (Int.tdiv a0 10))).bind fun t413 => (if 0 ≤ (Int.tmod a0 10) then (if (Int.tmod a0 10) ≤ (wrap64 ((Int.tmod a0 10) + 1)) then (if (wrap64 ((Int.tmod a0 10) + 1)) ≤ 10 then (if t413.size + (((wrap64 ((Int.tmod a0 10) + 1)) : Int).toNat - ((Int.tmod a0 10) : Int).toNat) ≤ 9223372036854775807 then (some (t413 ++ ((⟨#[48, 49, 50, 51, 52, 53, 54, 55, 56, 57]⟩ : ByteArray).extract ((Int.tmod a0 10) : Int).toNat ((wrap64 ((Int.tmod a0 10) + 1)) : Int).toNat))) else (none)) else (none)) else (none)) else (none))))) = some r := h
 clear h
 by_cases c2 : a0 < 0
 ·rw [if_pos c2] at H
  have c2b0 := decide_eq_true c2
  clear c2
  obtain ⟨t412, A3, H⟩ := bdY H
  obtain ⟨c4, H⟩ := ifY H
  have c4b0 := eq_true c4
  have c4b1 := decide_eq_true c4
  try have c4b2 : (9223372036854775807 < 1 + t412.size) = False := eq_false (Nat.not_lt.2 c4)
  obtain rfl := Option.some.inj H
  go_enter Tryd.func93, Tryd.ntmps93
  go_wp2_with (first | (refine gc 7 Tryd.func93 #[.int .i64 (wrap64 (-a0))] ?_; (with_reducible refine (ih k (by omega) (wrap64 (-a0)) t412 _ A3.out).mono ?_); rintro e w5 ⟨rfl, hb⟩; refine ⟨_, rfl, ?_⟩; replace HB := hB hb; (try clear hb); (try clear hb2); (try clear hk); (try clear hi)))
  go_ret
  exact ⟨ZZab01d2, ZZ605003⟩
 rw [if_neg c2] at H
 have c2b0 := decide_eq_false c2
 clear c2
 by_cases c6 : a0 < 10
 ·rw [if_pos c6] at H
  have c6b0 := decide_eq_true c6
  clear c6
  obtain ⟨c7b0, c7b1, H⟩ := ifYe H
  obtain ⟨c8, H⟩ := ifY H
  have c8b0 := eq_true c8
  have c8b1 := decide_eq_true c8
  obtain ⟨c9, H⟩ := ifY H
  have c9b0 := eq_true c9
  have c9b1 := decide_eq_true c9
  obtain rfl := Option.some.inj H
  go_enter Tryd.func93, Tryd.ntmps93
  go_wp2
  go_ret
  exact ⟨ZZab01d2, ZZ605003⟩
 rw [if_neg c6] at H
 have c6b0 := decide_eq_false c6
 clear c6
 obtain ⟨t413, A10, H⟩ := bdY H
 obtain ⟨ji11, hji11⟩ : ∃ j_ : Int, (Int.tmod a0 10) = j_ := ⟨_, rfl⟩
 (first | rw [hji11] at H | simp only [hji11] at H)
 (try rw [hji11] at A10)
 obtain ⟨c12b0, c12b1, H⟩ := ifYe H
 obtain ⟨c13, H⟩ := ifY H
 have c13b0 := eq_true c13
 have c13b1 := decide_eq_true c13
 obtain ⟨c14, H⟩ := ifY H
 have c14b0 := eq_true c14
 have c14b1 := decide_eq_true c14
 obtain ⟨c15, H⟩ := ifY H
 have c15b0 := eq_true c15
 have c15b1 := decide_eq_true c15
 try have c15b2 : (9223372036854775807 < t413.size + (((wrap64 ((ji11) + 1)) : Int).toNat - ((ji11) : Int).toNat)) = False := eq_false (Nat.not_lt.2 c15)
 obtain rfl := Option.some.inj H
 go_enter Tryd.func93, Tryd.ntmps93
 try go_wp2
 replace HB := Aside0.mk (below_drew1 HB.out)
 refine st 11 (S := fun w' => True) spec_l1Num.tab5 spec_l1Num.bits5 trivial (fun hHeld HT_ HW_ => ?_)
 generalize w.drew = w16 at HB hHeld ⊢
 refine pu 0 15 ?_
 refine pu 1 16 ?_
 refine pu 3 18 ?_
 refine pu 4 19 ?_
 refine pu 5 20 ?_
 refine pu 6 21 ?_
 refine pu 7 22 ?_
 refine pu 8 23 ?_
 refine on1 2 17 Tryd.func93 #[.int .i64 (wrap64 (Int.tdiv a0 10))] (ih k (by omega) (wrap64 (Int.tdiv a0 10)) t413 _ A10.out) ?_
 rintro w17 hb
 replace HB := hB hb
 (try clear hb)
 (try clear hb2)
 (try clear hk)
 (try clear hi)
 refine ⟨trivial, fun hHeld => ?_⟩
 refine pu 9 24 ?_
 refine pu 10 2 ?_
 refine done_ (done_of HT_.out (by kernel_rfl)) ?_
 try go_wp2
 go_ret
 exact ⟨(by first | rfl | (simp [errW_none, errW_some] <;> rfl) | (simp only [← hji11]; first | rfl | (simp [errW_none, errW_some] <;> rfl)) | (simp [*, errW_none, errW_some] <;> rfl)), ZZ605003⟩/-! ### spec_ReverseEntry: function 44 -/
mutual
def spec_ReverseEntry.j0 : Nat → Int → Int → Bool → List (S48) → List (S63) → Option ((List (S48)) × (List (S63)) × Bool)
 | 0, _, _, _, _, _ => none
 | k + 1, x1, x2, x22, x415000, x415001 => if x22 = true then (some (([] : List (S48)), ([] : List (S63)), false)) else ((spec_l1Num.f k x1).bind fun t418 => (if 12 + t418.size ≤ 9223372036854775807 then (spec_ReverseEntry.l0 k x1 0 x415000 x415001 x2 ((⟨#[114, 101, 118, 101, 114, 115, 97, 108, 32, 111, 102, 32]⟩ : ByteArray) ++ t418) ([] : List (S70))) else (none)))
def spec_ReverseEntry.l0 : Nat → Int → Int → List (S48) → List (S63) → Int → ByteArray → List (S70) → Option ((List (S48)) × (List (S63)) × Bool)
 | 0, _, _, _, _, _, _, _ => none
 | k + 1, x1, x9, x415000, x415001, x420000, x420001, x420002 => if 0 ≤ x1 then (if x1 < (x415001.length : Int) then (if x9 < (((rd_T63 x415001 x1).f2).length : Int) then (if 0 ≤ x9 then (if x420002.length < 8796093022208 then (spec_ReverseEntry.l0 k x1 (wrap64 (x9 + 1)) x415000 x415001 x420000 x420001 (x420002 ++ [(⟨(rd_T70 ((rd_T63 x415001 x1).f2) x9).f0, wrap64 (-((rd_T70 ((rd_T63 x415001 x1).f2) x9).f1))⟩ : S70)])) else (none)) else (none)) else ((spec_l26Post.f k x415000 x415001 x420000 x420001 x420002).bind fun bt427 => (some (bt427.1, bt427.2.1, bt427.2.2)))) else (none)) else (none)
end
def spec_ReverseEntry.f (k : Nat) (l0_0 : List (S48)) (l0_1 : List (S63)) (a1 : Int) (a2 : Int) : Option ((List (S48)) × (List (S63)) × Bool) := (spec_l26Good.f k l0_0 l0_1).bind fun t416 => (if t416 = true then ((spec_l1In.f a1 0 (wrap64 ((l0_1.length : Int) - 1))).bind fun t417 => (spec_ReverseEntry.j0 k a1 a2 (!t417) l0_0 l0_1)) else (spec_ReverseEntry.j0 k a1 a2 true l0_0 l0_1))
theorem spec_ReverseEntry.mono_l : ∀ k, (∀ y0 y1 y2 y3 y4, LeO (spec_ReverseEntry.j0 k y0 y1 y2 y3 y4) (spec_ReverseEntry.j0 (k + 1) y0 y1 y2 y3 y4)) ∧ (∀ y0 y1 y2 y3 y4 y5 y6, LeO (spec_ReverseEntry.l0 k y0 y1 y2 y3 y4 y5 y6) (spec_ReverseEntry.l0 (k + 1) y0 y1 y2 y3 y4 y5 y6))
 | 0 => ⟨fun _ _ _ _ _ r h => by simp [spec_ReverseEntry.j0] at h, fun _ _ _ _ _ _ _ r h => by simp [spec_ReverseEntry.l0] at h⟩
 | k + 1 => by
  obtain ⟨ih0, ih1⟩ := spec_ReverseEntry.mono_l k
  refine ⟨?_, ?_⟩
  all_goals intros
  all_goals (first | unfold spec_ReverseEntry.j0 | unfold spec_ReverseEntry.l0)
  all_goals
   repeat' with_reducible first | apply ih0 | apply ih1 | apply spec_l1Num.mono | apply spec_l26Good.mono | apply spec_l26Post.mono | exact LeO.refl _ | exact LeO.none _ | refine LeO.ite ?_ ?_ | refine LeO.bind ?_ (fun _ => ?_)
theorem spec_ReverseEntry.mono : ∀ a0 a1 a2 a3 k, LeO (spec_ReverseEntry.f k a0 a1 a2 a3) (spec_ReverseEntry.f (k + 1) a0 a1 a2 a3) := by
 intro a0 a1 a2 a3 k
 obtain ⟨ih0, ih1⟩ := spec_ReverseEntry.mono_l k
 unfold spec_ReverseEntry.f
 repeat' with_reducible first | apply ih0 | apply ih1 | apply spec_l1Num.mono | apply spec_l26Good.mono | apply spec_l26Post.mono | exact LeO.refl _ | exact LeO.none _ | refine LeO.ite ?_ ?_ | refine LeO.bind ?_ (fun _ => ?_)
set_option maxHeartbeats 8000000 in
set_option maxRecDepth 100000 in
theorem spec_ReverseEntry.calls (k : Nat) (A0_0 : Option Addr) (c0_0 : Nat) (l0_0 : List (S48)) (A0_1 : Option Addr) (c0_1 : Nat) (l0_1 : List (S63)) (a1 : Int) (a2 : Int) (r1 : List (S48)) (r2 : List (S63)) (r3 : Bool) (w : World) (hr0_0 : Kd.C k48 w A0_0 l0_0.length l0_0) (hc0_0 : l0_0.length ≤ c0_0) (hr0_1 : Kd.C k63 w A0_1 l0_1.length l0_1) (hc0_1 : l0_1.length ≤ c0_1) (h : spec_ReverseEntry.f k l0_0 l0_1 a1 a2 = some (r1, r2, r3)) :
 Calls Tryd.prog 44 #[.agg #[.slice A0_0 l0_0.length c0_0, .slice A0_1 l0_1.length c0_1], .int .i64 a1, .int .i64 a2] w fun e w' => ∃ v0_ v1_ : Value, e = .returned (.tuple #[.agg #[v0_, v1_], .bool r3]) ∧ Kd.R k48 48 w' w.heap.size (fun _ => True) v0_ r1 ∧ Kd.S k63 63 w' w.heap.size (fun _ => True) v1_ r2 ∧ Below w.heap.size w w' := by
 have hu31 := Tryd.underlying31
 have hu63 := Tryd.underlying63
 have hu70 := Tryd.underlying70
 have HR0_0 := Aside0.mk hr0_0
 have HC0_0 := Aside0.mk hc0_0
 clear hr0_0 hc0_0
 have HR0_1 := Aside0.mk hr0_1
 have HC0_1 := Aside0.mk hc0_1
 clear hr0_1 hc0_1
 have HB := Aside0.mk (Below.refl w.heap.size w)
 have H := h
 clear h
 unfold spec_ReverseEntry.f at H
 have HC4 := Aside0.mk H
 clear H
 go_enter Tryd.func44, Tryd.ntmps44
 go_upto_region 1 with (first | ((with_reducible refine gate_dst (N := 3) rfl ?_); (try (refine gate_guard (by rfl) ?_; dsimp only)); refine bx 3 (cs := #[.slice A0_0 l0_0.length c0_0, .slice A0_1 l0_1.length c0_1]) (t := 31) ?_; intro gb414 hg w5 hbox hb; have BK414 := Aside0.mk (hbox); have GW414 := gw hg; have GE414 := gw hg; replace HB := hB hb; clear hb hbox hg) | ((with_reducible refine gate_dst (N := 6) rfl ?_); (try (refine gate_guard (by rfl) ?_; dsimp only)); refine bx 6 (cs := #[.slice none 0 0, .slice none 0 0]) (t := 31) ?_; intro gb415 hg w6 hbox hb; have BK415 := Aside0.mk (hbox); have GW415 := gw hg; have GE415 := gw hg; replace HB := hB hb; have NB414_415 := nl hg BK414; have NB415_414 := ng hg BK414; replace BK414 := kb BK414 hb; clear hb hbox hg))
 (try simp only [Act.put, List.setIfInBounds_toArray, List.set_cons_zero, List.set_cons_succ])
 go_cut [22] (fun v22 wc => ∃ (kq : Nat) (x22_3 : Bool), v22 = .bool x22_3 ∧ Aside0 (spec_ReverseEntry.j0 kq a1 a2 x22_3 l0_0 l0_1 = some (r1, r2, r3)) ∧ Aside0 (kq ≤ k) ∧ Aside0 (wc.heap[gb414]? = some (.cells #[(.slice A0_0 l0_0.length c0_0), (.slice A0_1 l0_1.length c0_1)] 31 (0, 0))) ∧ Aside0 (wc.heap[gb415]? = some (.cells #[(.slice none 0 0), (.slice none 0 0)] 31 (0, 0))) ∧ Aside0 (Below w.heap.size w wc))
 case first =>
  have H := HC4.out
  clear HC4
  obtain ⟨t416, A7, H⟩ := bdY H
  by_cases c8 : t416 = true
  ·subst c8
   replace H := ifT H
   obtain ⟨t417, A9, H⟩ := bdY H
   replace H := Aside0.mk H
   have hnb10 := NB414_415.out
   have hnc10 := NB415_414.out
   obtain ⟨hcz11_0, hcz11_1, hfz11_0, hfz11_1⟩ := z2 BK414
   go_wp2_with (first | (refine gc 12 Tryd.func52 #[.agg #[.slice A0_0 l0_0.length c0_0, .slice A0_1 l0_1.length c0_1]] ?_; (with_reducible refine (spec_l26Good.calls k _ _ l0_0 _ _ l0_1 true _ ?side1 ?side2 ?side3 ?side4 A7.out).mono ?_); (case side1 => exact (rC (Kd.C_below HR0_0.out HB.out))); (case side2 => exact HC0_0.out); (case side3 => exact (rC (Kd.C_below HR0_1.out HB.out))); (case side4 => exact HC0_1.out); rintro e w12 ⟨rfl, hb⟩; refine ⟨_, rfl, ?_⟩; replace BK414 := kb BK414 hb; replace BK415 := kb BK415 hb; replace HB := hB hb; (try clear hb); (try clear hb2); (try clear hk); (try clear hi); obtain ⟨hcz13_0, hcz13_1, hfz13_0, hfz13_1⟩ := z2 BK414) | (go_at_call 65; (with_reducible refine (spec_l1In.calls a1 0 (wrap64 ((l0_1.length : Int) - 1)) t417 _ A9.out).mono ?_); rintro e w' ⟨rfl, ⟨nd, rfl⟩⟩))
   go_meet
   case rel => exact ⟨_, (!t417), ZZ0ab324, H, kle, ⟨(zB BK414)⟩, ⟨(zB BK415)⟩, ⟨ZZ295621⟩⟩
  replace c8 := Bool.eq_false_iff.mpr c8
  subst c8
  replace H := ifF H
  replace H := Aside0.mk H
  have hnb14 := NB414_415.out
  have hnc14 := NB415_414.out
  obtain ⟨hcz15_0, hcz15_1, hfz15_0, hfz15_1⟩ := z2 BK414
  go_wp2_with (first | (refine gc 12 Tryd.func52 #[.agg #[.slice A0_0 l0_0.length c0_0, .slice A0_1 l0_1.length c0_1]] ?_; (with_reducible refine (spec_l26Good.calls k _ _ l0_0 _ _ l0_1 false _ ?side1 ?side2 ?side3 ?side4 A7.out).mono ?_); (case side1 => exact (rC (Kd.C_below HR0_0.out HB.out))); (case side2 => exact HC0_0.out); (case side3 => exact (rC (Kd.C_below HR0_1.out HB.out))); (case side4 => exact HC0_1.out); rintro e w16 ⟨rfl, hb⟩; refine ⟨_, rfl, ?_⟩; replace BK414 := kb BK414 hb; replace BK415 := kb BK415 hb; replace HB := hB hb; (try clear hb); (try clear hb2); (try clear hk); (try clear hi)))
  go_meet
  case rel => exact ⟨_, (true), ZZ0ab324, H, kle, ⟨(zB BK414)⟩, ⟨(zB BK415)⟩, ⟨ZZ295621⟩⟩
 case rest =>
  clear HC4
  try clear c8
  try clear hcz11_0
  try clear hcz11_1
  try clear hcz13_0
  try clear hcz13_1
  try clear hcz15_0
  try clear hcz15_1
  try clear hfz11_0
  try clear hfz11_1
  try clear hfz13_0
  try clear hfz13_1
  try clear hfz15_0
  try clear hfz15_1
  obtain ⟨kq, x22_3, rfl, HA, HJ3, BK414, BK415, HB⟩ := hcut
  cases kq with
  | zero => exact absurd HA.out (by simp [spec_ReverseEntry.j0])
  | succ kj3 =>
   have H := HA.out
   clear HA
   simp only [spec_ReverseEntry.j0] at H
   by_cases c17 : x22_3 = true
   ·subst c17
    replace H := ifT H
    simp only [Option.some.injEq, Prod.mk.injEq] at H
    obtain ⟨rfl, rfl, rfl⟩ := H
    have hnb18 := NB415_414.out
    have hnc18 := NB414_415.out
    obtain ⟨hcz19_0, hcz19_1, hfz19_0, hfz19_1⟩ := z2 BK415
    go_wp2
    refine bodyPost_ret (results_ct rfl _ _ gb415 31 #[.slice none 0 0, .slice none 0 0] (0, 0) _ rfl (by refine bd ?_; refine blk_put (cs := #[.slice none 0 0, .slice none 0 0]) ?_ 1 _ rfl; refine bd ?_; refine blk_put (cs := #[.slice none 0 0, .slice none 0 0]) ?_ 0 _ rfl; refine bd ?_; exact BK415.out) Tryd.underlying31 rfl (by kernel_rfl)) rfl ?_
    exact ⟨_, _, ZZab01d2, ZZf4214b, ZZc4c4be, ZZ295621⟩
   replace c17 := Bool.eq_false_iff.mpr c17
   subst c17
   replace H := ifF H
   obtain ⟨t418, A20, H⟩ := bdY H
   obtain ⟨c21, H⟩ := ifY H
   have c21b0 := eq_true c21
   have c21b1 := decide_eq_true c21
   try have c21b2 : (9223372036854775807 < 12 + t418.size) = False := eq_false (Nat.not_lt.2 c21)
   replace H := Aside0.mk H
   go_wp2_with (first | (refine gc 26 Tryd.func93 #[.int .i64 a1] ?_; (with_reducible refine (spec_l1Num.calls kj3 a1 t418 _ A20.out).mono ?_); rintro e w22 ⟨rfl, hb⟩; refine ⟨_, rfl, ?_⟩; replace BK414 := kb BK414 hb; replace BK415 := kb BK415 hb; replace HB := hB hb; (try clear hb); (try clear hb2); (try clear hk); (try clear hi)) | ((with_reducible refine gate_dst (N := 8) rfl ?_); (try (refine gate_guard (by rfl) ?_; dsimp only)); refine bx 8 (cs := #[.int .i64 0, .string (⟨#[]⟩ : ByteArray), .slice none 0 0]) (t := 63) ?_; intro gb419 hg w23 hbox hb; have BK419 := Aside0.mk (hbox); have GW419 := gw hg; have GE419 := gw hg; replace HB := hB hb; have NB414_419 := nl hg BK414; have NB419_414 := ng hg BK414; replace BK414 := kb BK414 hb; have NB415_419 := nl hg BK415; have NB419_415 := ng hg BK415; replace BK415 := kb BK415 hb; clear hb hbox hg; have hnb24 := NB419_414.out; have hnc24 := NB414_419.out; have hnb25 := NB419_415.out; have hnc25 := NB415_419.out; obtain ⟨hcz26_0, hcz26_1, hcz26_2, hfz26_0, hfz26_1, hfz26_2⟩ := z3 BK419))
   go_loopg [9] kj3 (fun kq v9 w' => ∃ (x9_2 : Int) (x420002_2 : List (S70)) (u420002 : Value), v9 = .int .i64 x9_2 ∧ Aside0 (spec_ReverseEntry.l0 kq a1 x9_2 l0_0 l0_1 a2 ((⟨#[114, 101, 118, 101, 114, 115, 97, 108, 32, 111, 102, 32]⟩ : ByteArray) ++ t418) x420002_2 = some (r1, r2, r3)) ∧ Aside0 (kq ≤ kj3) ∧ Aside0 (Kd.R k70 70 w' w.heap.size (fun _ => True) u420002 x420002_2) ∧ Aside0 (w'.heap[gb414]? = some (.cells #[(.slice A0_0 l0_0.length c0_0), (.slice A0_1 l0_1.length c0_1)] 31 (0, 0))) ∧ Aside0 (w'.heap[gb415]? = some (.cells #[(.slice none 0 0), (.slice none 0 0)] 31 (0, 0))) ∧ Aside0 (w'.heap[gb419]? = some (.cells #[.int .i64 a2, .string ((⟨#[114, 101, 118, 101, 114, 115, 97, 108, 32, 111, 102, 32]⟩ : ByteArray) ++ t418), u420002] 63 (0, 0))) ∧ Aside0 (Below w.heap.size w w'))
   case atStart => exact ⟨(0), (([] : List (S70))), (.slice none 0 0), ZZ0ab324, H, ⟨Nat.le_refl _⟩, ⟨ZZf4214b⟩, ⟨(by refine bd ?_; refine blk_far ?_ NB414_419.out _; refine bd ?_; refine blk_far ?_ NB414_419.out _; refine bd ?_; refine blk_far ?_ NB414_419.out _; refine bd ?_; exact BK414.out)⟩, ⟨(by refine bd ?_; refine blk_far ?_ NB415_419.out _; refine bd ?_; refine blk_far ?_ NB415_419.out _; refine bd ?_; refine blk_far ?_ NB415_419.out _; refine bd ?_; exact BK415.out)⟩, ⟨(by refine bd ?_; refine blk_put (cs := #[.int .i64 a2, .string ((⟨#[114, 101, 118, 101, 114, 115, 97, 108, 32, 111, 102, 32]⟩ : ByteArray) ++ t418), .slice none 0 0]) ?_ 2 _ rfl; refine bd ?_; refine blk_put (cs := #[.int .i64 a2, .string (⟨#[]⟩ : ByteArray), .slice none 0 0]) ?_ 1 _ rfl; refine bd ?_; refine blk_put (cs := #[.int .i64 0, .string (⟨#[]⟩ : ByteArray), .slice none 0 0]) ?_ 0 _ rfl; refine bd ?_; exact BK419.out)⟩, ⟨ZZ295621⟩⟩
   case round =>
    clear H
    try clear c17
    try clear c21
    try clear c21b0
    try clear c21b1
    try clear c21b2
    try clear hcz19_0
    try clear hcz19_1
    try clear hcz26_0
    try clear hcz26_1
    try clear hcz26_2
    try clear hfz19_0
    try clear hfz19_1
    try clear hfz26_0
    try clear hfz26_1
    try clear hfz26_2
    obtain ⟨x9_2, x420002_2, u420002, rfl, HA, HK2, HO_420002, BK414, BK415, BK419, HB⟩ := hrel
    cases gk with
    | zero => exact absurd HA.out (by simp [spec_ReverseEntry.l0])
    | succ k2 =>
     have H := HA.out
     clear HA
     simp only [spec_ReverseEntry.l0] at H
     obtain ⟨c27b0, H⟩ := ifYd H
     obtain ⟨c28b0, H⟩ := ifYd H
     by_cases c29 : x9_2 < (((rd_T63 l0_1 a1).f2).length : Int)
     ·rw [if_pos c29] at H
      have c29b0 := decide_eq_true c29
      clear c29
      obtain ⟨c30b0, H⟩ := ifYd H
      obtain ⟨c31, H⟩ := ifY H
      have LMc31 := Aside0.mk c31
      clear c31
      try rw [Option.bind_some] at H
      generalize hy424 : (x420002_2 ++ [(⟨(rd_T70 ((rd_T63 l0_1 a1).f2) x9_2).f0, wrap64 (-((rd_T70 ((rd_T63 l0_1 a1).f2) x9_2).f1))⟩ : S70)] : List (S70)) = y424 at H
      have Ny424 := Aside0.mk hy424.symm
      clear hy424
      replace H := Aside0.mk H
      have hnb32 := NB414_415.out
      have hnc32 := NB415_414.out
      have hnb33 := NB414_419.out
      have hnc33 := NB419_414.out
      obtain ⟨hcz34_0, hcz34_1, hfz34_0, hfz34_1⟩ := z2 BK414
      have p420 : 0 ≤ (a1 : Int) := of_decide_eq_true ZZ853400
      have q420 : a1 < (l0_1.length : Int) := of_decide_eq_true ZZ853400
      obtain ⟨ad420, A420_2, c420_2, e420, hx420_0, hx420_1, hx420_2, hl420_2, hi420_2⟩ := at_T63 HR0_1.out a1 p420 q420
      cases e420
      replace hx420_0 := (HB.out.cell (World.block_lt_of_cell? w _ hx420_0)).trans hx420_0
      replace hx420_1 := (HB.out.cell (World.block_lt_of_cell? w _ hx420_1)).trans hx420_1
      replace hx420_2 := (HB.out.cell (World.block_lt_of_cell? w _ hx420_2)).trans hx420_2
      have HR420_2 := Aside0.mk hi420_2
      have HC420_2 := Aside0.mk hl420_2
      clear hi420_2 hl420_2
      replace p420 := eq_true p420
      replace q420 := eq_true q420
      have p421 : 0 ≤ (a1 : Int) := of_decide_eq_true ZZ853400
      have q421 : a1 < (l0_1.length : Int) := of_decide_eq_true ZZ853400
      try clear hx420_0
      try clear hx420_1
      obtain ⟨ad421, A421_2, c421_2, e421, hx421_0, hx421_1, hx421_2, hl421_2, hi421_2⟩ := at_T63 HR0_1.out a1 p421 q421
      obtain rfl : ad420 = ad421 := (by injection e421)
      replace hx421_0 := (HB.out.cell (World.block_lt_of_cell? w _ hx421_0)).trans hx421_0
      replace hx421_1 := (HB.out.cell (World.block_lt_of_cell? w _ hx421_1)).trans hx421_1
      replace hx421_2 := (HB.out.cell (World.block_lt_of_cell? w _ hx421_2)).trans hx421_2
      have HR421_2 := Aside0.mk hi421_2
      have HC421_2 := Aside0.mk hl421_2
      clear hi421_2 hl421_2
      replace p421 := eq_true p421
      replace q421 := eq_true q421
      have ea_ := Option.some.inj (hx420_2.symm.trans hx421_2)
      injection ea_ with ea_ en_ ec_
      subst ea_
      subst ec_
      clear en_
      have p422 : 0 ≤ (x9_2 : Int) := of_decide_eq_true ZZ853400
      have q422 : x9_2 < (((rd_T63 l0_1 a1).f2).length : Int) := of_decide_eq_true ZZ853400
      obtain ⟨ad422, e422, hx422_0, hx422_1⟩ := at_T70 HR421_2.out x9_2 p422 q422
      cases e422
      replace hx422_0 := (HB.out.cell (World.block_lt_of_cell? w _ hx422_0)).trans hx422_0
      replace hx422_1 := (HB.out.cell (World.block_lt_of_cell? w _ hx422_1)).trans hx422_1
      replace p422 := eq_true p422
      replace q422 := eq_true q422
      go_wp2_with (first | ((with_reducible refine gate_dst (N := 10) rfl ?_); (try (refine gate_guard (by rfl) ?_; dsimp only)); refine bx 10 (cs := #[.int .i64 0, .int .i64 0]) (t := 70) ?_; intro gb423 hg w35 hbox hb; replace HO_420002 := Aside0.mk (Kd.R_below (Kd.R_elderB (zR HO_420002) gb423 (Nat.le_of_eq hg.symm)) hb); have BK423 := Aside0.mk (hbox); have GW423 := gw hg; have GE423 := gw hg; replace HB := hB hb; have NB414_423 := nl hg BK414; have NB423_414 := ng hg BK414; replace BK414 := kb BK414 hb; have NB415_423 := nl hg BK415; have NB423_415 := ng hg BK415; replace BK415 := kb BK415 hb; have NB419_423 := nl hg BK419; have NB423_419 := ng hg BK419; replace BK419 := kb BK419 hb; clear hb hbox hg; have hnb36 := NB423_414.out; have hnc36 := NB414_423.out; have hnb37 := NB423_415.out; have hnc37 := NB415_423.out; have hnb38 := NB423_419.out; have hnc38 := NB419_423.out; obtain ⟨hcz39_0, hcz39_1, hfz39_0, hfz39_1⟩ := z2 BK423; have hnb40 := NB419_415.out; have hnc40 := NB415_419.out; obtain ⟨hcz41_0, hcz41_1, hcz41_2, hfz41_0, hfz41_1, hfz41_2⟩ := z3 BK419) | ((with_reducible refine gate_builtin (b := .append) (xs := #[.tmp 50, .tmp 57]) rfl ?_); (try (refine gate_guard (by rfl) ?_; dsimp only)); at_builtin; refine Kd.R_append k70 (w0 := w) w.heap.size rfl (.tmp 50) (.tmp 57) 61 70 (.agg #[(.int .i64 0), (.int .i64 0)]) 16 rfl Tryd.underlying61 info70 rfl (by decide) (by omega) u420002 x420002_2 (⟨(rd_T70 ((rd_T63 l0_1 a1).f2) x9_2).f0, wrap64 (-((rd_T70 ((rd_T63 l0_1 a1).f2) x9_2).f1))⟩ : S70) [.int .i64 ((rd_T70 ((rd_T63 l0_1 a1).f2) x9_2).f0), .int .i64 (wrap64 (-((rd_T70 ((rd_T63 l0_1 a1).f2) x9_2).f1)))] (fun k_ => k_ ≠ gb423) (fun _ => False) rfl (by first | (go_simp; done) | (go_simp; rfl)) ?aP (fun _ hk => hk.elim) ?aF ?aO ?aB ?aS ?aL ?_; (case aP => exact k70_mkM _ _ _ (⟨(rd_T70 ((rd_T63 l0_1 a1).f2) x9_2).f0, wrap64 (-((rd_T70 ((rd_T63 l0_1 a1).f2) x9_2).f1))⟩ : S70)); (case aB => exact ZZ295621); (case aF => exact (fun k_ hk => Kd.freshB (g := gb423) (o := .cells #[.int .i64 ((rd_T70 ((rd_T63 l0_1 a1).f2) x9_2).f0), .int .i64 ((rd_T70 ((rd_T63 l0_1 a1).f2) x9_2).f1)] 70 (0, 0)) (by refine bd ?_; refine blk_put (cs := #[.int .i64 ((rd_T70 ((rd_T63 l0_1 a1).f2) x9_2).f0), .int .i64 0]) ?_ 1 _ rfl; refine bd ?_; refine blk_put (cs := #[.int .i64 0, .int .i64 0]) ?_ 0 _ rfl; refine bd ?_; exact BK423.out) k_ hk)); (case aO => exact (by refine bR ?_; exact Kd.R_mono (Kd.R_far (p := ⟨gb423, 1, none⟩) (Kd.R_far (p := ⟨gb423, 0, none⟩) (Kd.R_mono HO_420002.out (fun k_ hk => (⟨hk, hk.2⟩ : _ ∧ k_ ≠ gb423))) (fun _ hk => hk.2) (.int .i64 ((rd_T70 ((rd_T63 l0_1 a1).f2) x9_2).f0))) (fun _ hk => hk.2) (.int .i64 ((rd_T70 ((rd_T63 l0_1 a1).f2) x9_2).f1))) (fun _ hk => hk.1.2))); (case aS => exact (below_size ZZ295621)); (case aL => have := LMc31.out; omega); intro v425 w42 ho hb hg hat; rw [← Ny424.out] at ho; replace BK414 := Aside0.mk (blk_grown (g := gb414) (o := .cells #[.slice A0_0 l0_0.length c0_0, .slice (some ad420) l0_1.length c0_1] 31 (0, 0)) (by refine bd ?_; refine blk_far ?_ NB414_423.out _; refine bd ?_; refine blk_far ?_ NB414_423.out _; refine bd ?_; exact BK414.out) hg (Kd.R_ne HO_420002.out BK414.out (by decide))); replace BK415 := Aside0.mk (blk_grown (g := gb415) (o := .cells #[.slice none 0 0, .slice none 0 0] 31 (0, 0)) (by refine bd ?_; refine blk_far ?_ NB415_423.out _; refine bd ?_; refine blk_far ?_ NB415_423.out _; refine bd ?_; exact BK415.out) hg (Kd.R_ne HO_420002.out BK415.out (by decide))); replace BK419 := Aside0.mk (blk_grown (g := gb419) (o := .cells #[.int .i64 a2, .string ((⟨#[114, 101, 118, 101, 114, 115, 97, 108, 32, 111, 102, 32]⟩ : ByteArray) ++ t418), u420002] 63 (0, 0)) (by refine bd ?_; refine blk_far ?_ NB419_423.out _; refine bd ?_; refine blk_far ?_ NB419_423.out _; refine bd ?_; exact BK419.out) hg (Kd.R_ne HO_420002.out BK419.out (by decide))); replace BK423 := Aside0.mk (blk_grown (g := gb423) (o := .cells #[.int .i64 ((rd_T70 ((rd_T63 l0_1 a1).f2) x9_2).f0), .int .i64 ((rd_T70 ((rd_T63 l0_1 a1).f2) x9_2).f1)] 70 (0, 0)) (by refine bd ?_; refine blk_put (cs := #[.int .i64 ((rd_T70 ((rd_T63 l0_1 a1).f2) x9_2).f0), .int .i64 0]) ?_ 1 _ rfl; refine bd ?_; refine blk_put (cs := #[.int .i64 0, .int .i64 0]) ?_ 0 _ rfl; refine bd ?_; exact BK423.out) hg (Kd.R_away HO_420002.out (fun _ hk => hk.2))); replace HB := Aside0.mk (hb); have HO426 := Aside0.mk (ho); clear HO_420002; clear ho hb hg hat; obtain ⟨Ao43, co43, eo43⟩ := Kd.R_slice HO426.out; subst eo43; obtain ⟨hcz44_0, hcz44_1, hcz44_2, hfz44_0, hfz44_1, hfz44_2⟩ := z3 BK419))
      go_roundg k2
      case measure => have := HJ3.out; have := HK2.out; omega
      case rel => exact ⟨(wrap64 (x9_2 + 1)), (y424), (.slice Ao43 y424.length co43), ZZ0ab324, H, kle, ⟨(by refine bR ?_; exact Kd.R_mono (Kd.R_far (p := ⟨gb419, 2, none⟩) (Kd.R_types HO426.out BK419.out (by decide)) (fun _ hk => hk.2) (.slice Ao43 y424.length co43)) (fun _ hk => trivial))⟩, ⟨(by refine bd ?_; refine blk_far ?_ NB414_419.out _; refine bd ?_; exact BK414.out)⟩, ⟨(by refine bd ?_; refine blk_far ?_ NB415_419.out _; refine bd ?_; exact BK415.out)⟩, ⟨(by refine bd ?_; refine blk_put (cs := #[.int .i64 a2, .string ((⟨#[114, 101, 118, 101, 114, 115, 97, 108, 32, 111, 102, 32]⟩ : ByteArray) ++ t418), u420002]) ?_ 2 _ rfl; refine bd ?_; exact BK419.out)⟩, ⟨ZZ295621⟩⟩
     rw [if_neg c29] at H
     have c29b0 := decide_eq_false c29
     clear c29
     obtain ⟨⟨t427, t430, t433⟩, A45, H⟩ := bdY H
     try dsimp only at H
     simp only [Option.some.injEq, Prod.mk.injEq] at H
     obtain ⟨rfl, rfl, rfl⟩ := H
     have hnb46 := NB414_415.out
     have hnc46 := NB415_414.out
     have hnb47 := NB414_419.out
     have hnc47 := NB419_414.out
     obtain ⟨hcz48_0, hcz48_1, hfz48_0, hfz48_1⟩ := z2 BK414
     have p420 : 0 ≤ (a1 : Int) := of_decide_eq_true ZZ853400
     have q420 : a1 < (l0_1.length : Int) := of_decide_eq_true ZZ853400
     obtain ⟨ad420, A420_2, c420_2, e420, hx420_0, hx420_1, hx420_2, hl420_2, hi420_2⟩ := at_T63 HR0_1.out a1 p420 q420
     cases e420
     replace hx420_0 := (HB.out.cell (World.block_lt_of_cell? w _ hx420_0)).trans hx420_0
     replace hx420_1 := (HB.out.cell (World.block_lt_of_cell? w _ hx420_1)).trans hx420_1
     replace hx420_2 := (HB.out.cell (World.block_lt_of_cell? w _ hx420_2)).trans hx420_2
     have HR420_2 := Aside0.mk hi420_2
     have HC420_2 := Aside0.mk hl420_2
     clear hi420_2 hl420_2
     replace p420 := eq_true p420
     replace q420 := eq_true q420
     have hnb49 := NB419_415.out
     have hnc49 := NB415_419.out
     obtain ⟨hcz50_0, hcz50_1, hcz50_2, hfz50_0, hfz50_1, hfz50_2⟩ := z3 BK419
     obtain ⟨Ao51, co51, eo51⟩ := Kd.R_slice HO_420002.out
     subst eo51
     go_wp2_with (first | (refine gc 62 Tryd.func78 #[.agg #[.slice A0_0 l0_0.length c0_0, .slice (some ad420) l0_1.length c0_1], .agg #[.int .i64 a2, .string ((⟨#[114, 101, 118, 101, 114, 115, 97, 108, 32, 111, 102, 32]⟩ : ByteArray) ++ t418), .slice Ao51 x420002_2.length co51]] ?_; (with_reducible refine (spec_l26Post.calls k2 _ _ l0_0 _ _ l0_1 a2 ((⟨#[114, 101, 118, 101, 114, 115, 97, 108, 32, 111, 102, 32]⟩ : ByteArray) ++ t418) _ _ x420002_2 t427 t430 t433 _ ?side1 ?side2 ?side3 ?side4 ?side5 ?side6 A45.out).mono ?_); (case side1 => exact (rC (Kd.C_below HR0_0.out HB.out))); (case side2 => exact HC0_0.out); (case side3 => exact (rC (Kd.C_below HR0_1.out HB.out))); (case side4 => exact HC0_1.out); (case side5 => exact rC (Kd.R_reads' HO_420002.out).2.2); (case side6 => exact (Kd.R_reads' HO_420002.out).2.1); rintro e w52 ⟨v428, v431, rfl, ho0, ho1, hb⟩; refine ⟨_, rfl, ?_⟩; have HO429 := Aside0.mk (Kd.R_lower ho0 (below_size ZZ295621)); have HO432 := Aside0.mk (Kd.S_lower (Kd.S_newB (Kd.S_new' ho1 (Kd.R_lt (zR HO_420002))) (zB BK419)) (below_size ZZ295621)); replace HO_420002 := Aside0.mk (Kd.R_below (zR HO_420002) hb); replace BK414 := kb BK414 hb; replace BK415 := kb BK415 hb; replace BK419 := kb BK419 hb; replace HB := hB hb; (try clear hb); (try clear hb2); (try clear hk); (try clear hi); (try clear ho0); (try clear ho1); obtain ⟨Ao53, co53, eo53⟩ := Kd.R_slice HO429.out; subst eo53; obtain ⟨hcz54_0, hcz54_1, hfz54_0, hfz54_1⟩ := z2 BK415; obtain ⟨Ao55, co55, eo55⟩ := Kd.S_slice HO432.out; subst eo55))
     refine bodyPost_ret (results_ct rfl _ _ gb415 31 #[.slice Ao53 t427.length co53, .slice Ao55 t430.length co55] (0, 0) _ rfl (by refine bd ?_; refine blk_put (cs := #[.slice Ao53 t427.length co53, .slice none 0 0]) ?_ 1 _ rfl; refine bd ?_; refine blk_put (cs := #[.slice none 0 0, .slice none 0 0]) ?_ 0 _ rfl; refine bd ?_; exact BK415.out) Tryd.underlying31 rfl (by kernel_rfl)) rfl ?_
     exact ⟨_, _, ZZab01d2, (by refine bR ?_; exact Kd.R_mono (Kd.R_far (p := ⟨gb415, 1, none⟩) (Kd.R_far (p := ⟨gb415, 0, none⟩) (Kd.R_types HO429.out BK415.out (by decide)) (fun _ hk => hk.2) (.slice Ao53 t427.length co53)) (fun _ hk => hk.2) (.slice Ao55 t430.length co55)) (fun _ hk => trivial)), (by refine bS ?_; exact Kd.S_mono (Kd.S_far (p := ⟨gb415, 1, none⟩) (Kd.S_far (p := ⟨gb415, 0, none⟩) (Kd.S_types HO432.out BK415.out (by decide)) (fun _ hk => hk.2) (.slice Ao53 t427.length co53)) (fun _ hk => hk.2) (.slice Ao55 t430.length co55)) (fun _ hk => trivial)), ZZ295621⟩
end Go.Proofs.YtccdjchaaeligaaDoor.XFnExactReverseEntry

import Derived.Test.YtccdjchaaeligaaDoorXFnExactCloseAccounts1
import Derived.Test.YtccdjchaaeligaaDoorXFnExactCloseAccounts0
import Derived.Test.YtccdjchaaeligaaDoorXFnExactCloseAccounts2
import Derived.Test.YtccdjchaaeligaaDoorXFnExactCloseAccounts3
namespace Go.Proofs.YtccdjchaaeligaaDoor.XFnExactCloseAccounts
open Go.Proofs.YtccdjchaaeligaaDoor.Short Go.RowKit Go.Proofs.YtccdjchaaeligaaDoorW.PrintWords Go.Proofs.YtccdjchaaeligaaDoorW.PrintLast Go.Proofs.YtccdjchaaeligaaDoorW.PrintMore
attribute [local go_sem] max2_int min2_int max_two min_two max_three min_three max_four min_four
set_option linter.unusedVariables false
set_option linter.unusedSimpArgs false
def laws_eqLedger.f (k : Nat) (l0_0 : List (S48)) (l0_1 : List (S63)) (l1_0 : List (S48)) (l1_1 : List (S63)) : Option (Bool) := (laws_eqAccountS.f k l0_0 l1_0).bind fun t174 => (if t174 = true then ((laws_eqBookEntryS.f k l0_1 l1_1).bind fun t175 => (if t175 = true then (some true) else (some false))) else (some false))
theorem laws_eqLedger.mono : ∀ a0 a1 a2 a3 k, LeO (laws_eqLedger.f k a0 a1 a2 a3) (laws_eqLedger.f (k + 1) a0 a1 a2 a3) := by
 intro a0 a1 a2 a3 k
 unfold laws_eqLedger.f
 repeat' with_reducible first | apply laws_eqAccountS.mono | apply laws_eqBookEntryS.mono | exact LeO.refl _ | exact LeO.none _ | refine LeO.ite ?_ ?_ | refine LeO.bind ?_ (fun _ => ?_)
set_option maxHeartbeats 8000000 in
set_option maxRecDepth 100000 in
theorem laws_eqLedger.calls (k : Nat) (A0_0 : Option Addr) (c0_0 : Nat) (l0_0 : List (S48)) (A0_1 : Option Addr) (c0_1 : Nat) (l0_1 : List (S63)) (A1_0 : Option Addr) (c1_0 : Nat) (l1_0 : List (S48)) (A1_1 : Option Addr) (c1_1 : Nat) (l1_1 : List (S63)) (r : Bool) (w : World) (hr0_0 : Kd.C k48 w A0_0 l0_0.length l0_0) (hc0_0 : l0_0.length ≤ c0_0) (hr0_1 : Kd.C k63 w A0_1 l0_1.length l0_1) (hc0_1 : l0_1.length ≤ c0_1) (hr1_0 : Kd.C k48 w A1_0 l1_0.length l1_0) (hc1_0 : l1_0.length ≤ c1_0) (hr1_1 : Kd.C k63 w A1_1 l1_1.length l1_1) (hc1_1 : l1_1.length ≤ c1_1) (h : laws_eqLedger.f k l0_0 l0_1 l1_0 l1_1 = some r) :
 Calls Tryd.prog 18 #[.agg #[.slice A0_0 l0_0.length c0_0, .slice A0_1 l0_1.length c0_1], .agg #[.slice A1_0 l1_0.length c1_0, .slice A1_1 l1_1.length c1_1]] w fun e w' => e = .returned (.bool r) ∧ Below w.heap.size w w' := by
 have hu31 := Tryd.underlying31
 have HR0_0 := Aside0.mk hr0_0
 have HC0_0 := Aside0.mk hc0_0
 clear hr0_0 hc0_0
 have HR0_1 := Aside0.mk hr0_1
 have HC0_1 := Aside0.mk hc0_1
 clear hr0_1 hc0_1
 have HR1_0 := Aside0.mk hr1_0
 have HC1_0 := Aside0.mk hc1_0
 clear hr1_0 hc1_0
 have HR1_1 := Aside0.mk hr1_1
 have HC1_1 := Aside0.mk hc1_1
 clear hr1_1 hc1_1
 have HB := Aside0.mk (Below.refl w.heap.size w)
 have H := h
 clear h
 unfold laws_eqLedger.f at H
 obtain ⟨t174, A3, H⟩ := bdY H
 by_cases c4 : t174 = true
 ·subst c4
  replace H := ifT H
  obtain ⟨t175, A5, H⟩ := bdY H
  by_cases c6 : t175 = true
  ·subst c6
   replace H := ifT H
   obtain rfl := Option.some.inj H
   go_enter Tryd.func18, Tryd.ntmps18
   go_wp2_with (first | ((with_reducible refine gate_dst (N := 2) rfl ?_); refine bx 2 (cs := #[.slice A0_0 l0_0.length c0_0, .slice A0_1 l0_1.length c0_1]) (t := 31) ?_; intro gb172 hg w7 hbox hb; have BK172 := Aside0.mk (hbox); have GW172 := gw hg; have GE172 := gw hg; replace HB := hB hb; clear hb hbox hg) | ((with_reducible refine gate_dst (N := 3) rfl ?_); refine bx 3 (cs := #[.slice A1_0 l1_0.length c1_0, .slice A1_1 l1_1.length c1_1]) (t := 31) ?_; intro gb173 hg w8 hbox hb; have BK173 := Aside0.mk (hbox); have GW173 := gw hg; have GE173 := gw hg; replace HB := hB hb; have NB172_173 := nl hg BK172; have NB173_172 := ng hg BK172; replace BK172 := kb BK172 hb; clear hb hbox hg; have hnb9 := NB172_173.out; have hnc9 := NB173_172.out; obtain ⟨hcz10_0, hcz10_1, hfz10_0, hfz10_1⟩ := z2 BK172; obtain ⟨hcz11_0, hcz11_1, hfz11_0, hfz11_1⟩ := z2 BK173) | (refine gc 9 Tryd.func63 #[.slice A0_0 l0_0.length c0_0, .slice A1_0 l1_0.length c1_0] ?_; (with_reducible refine (laws_eqAccountS.calls k _ _ l0_0 _ _ l1_0 true _ ?side1 ?side2 ?side3 ?side4 A3.out).mono ?_); (case side1 => exact (rC (Kd.C_below HR0_0.out HB.out))); (case side2 => exact HC0_0.out); (case side3 => exact (rC (Kd.C_below HR1_0.out HB.out))); (case side4 => exact HC1_0.out); rintro e w12 ⟨rfl, hb⟩; refine ⟨_, rfl, ?_⟩; replace BK172 := kb BK172 hb; replace BK173 := kb BK173 hb; replace HB := hB hb; (try clear hb); (try clear hb2); (try clear hk); (try clear hi); obtain ⟨hcz13_0, hcz13_1, hfz13_0, hfz13_1⟩ := z2 BK172; obtain ⟨hcz14_0, hcz14_1, hfz14_0, hfz14_1⟩ := z2 BK173) | (refine gc 15 Tryd.func64 #[.slice A0_1 l0_1.length c0_1, .slice A1_1 l1_1.length c1_1] ?_; (with_reducible refine (laws_eqBookEntryS.calls k _ _ l0_1 _ _ l1_1 true _ ?side1 ?side2 ?side3 ?side4 A5.out).mono ?_); (case side1 => exact (rC (Kd.C_below HR0_1.out HB.out))); (case side2 => exact HC0_1.out); (case side3 => exact (rC (Kd.C_below HR1_1.out HB.out))); (case side4 => exact HC1_1.out); rintro e w15 ⟨rfl, hb⟩; refine ⟨_, rfl, ?_⟩; replace BK172 := kb BK172 hb; replace BK173 := kb BK173 hb; replace HB := hB hb; (try clear hb); (try clear hb2); (try clear hk); (try clear hi)))
   go_ret
   exact ⟨ZZab01d2, ZZ295621⟩
  replace c6 := Bool.eq_false_iff.mpr c6
  subst c6
  replace H := ifF H
  obtain rfl := Option.some.inj H
  go_enter Tryd.func18, Tryd.ntmps18
  go_wp2_with (first | ((with_reducible refine gate_dst (N := 2) rfl ?_); refine bx 2 (cs := #[.slice A0_0 l0_0.length c0_0, .slice A0_1 l0_1.length c0_1]) (t := 31) ?_; intro gb172 hg w16 hbox hb; have BK172 := Aside0.mk (hbox); have GW172 := gw hg; have GE172 := gw hg; replace HB := hB hb; clear hb hbox hg) | ((with_reducible refine gate_dst (N := 3) rfl ?_); refine bx 3 (cs := #[.slice A1_0 l1_0.length c1_0, .slice A1_1 l1_1.length c1_1]) (t := 31) ?_; intro gb173 hg w17 hbox hb; have BK173 := Aside0.mk (hbox); have GW173 := gw hg; have GE173 := gw hg; replace HB := hB hb; have NB172_173 := nl hg BK172; have NB173_172 := ng hg BK172; replace BK172 := kb BK172 hb; clear hb hbox hg; have hnb18 := NB172_173.out; have hnc18 := NB173_172.out; obtain ⟨hcz19_0, hcz19_1, hfz19_0, hfz19_1⟩ := z2 BK172; obtain ⟨hcz20_0, hcz20_1, hfz20_0, hfz20_1⟩ := z2 BK173) | (refine gc 9 Tryd.func63 #[.slice A0_0 l0_0.length c0_0, .slice A1_0 l1_0.length c1_0] ?_; (with_reducible refine (laws_eqAccountS.calls k _ _ l0_0 _ _ l1_0 true _ ?side1 ?side2 ?side3 ?side4 A3.out).mono ?_); (case side1 => exact (rC (Kd.C_below HR0_0.out HB.out))); (case side2 => exact HC0_0.out); (case side3 => exact (rC (Kd.C_below HR1_0.out HB.out))); (case side4 => exact HC1_0.out); rintro e w21 ⟨rfl, hb⟩; refine ⟨_, rfl, ?_⟩; replace BK172 := kb BK172 hb; replace BK173 := kb BK173 hb; replace HB := hB hb; (try clear hb); (try clear hb2); (try clear hk); (try clear hi); obtain ⟨hcz22_0, hcz22_1, hfz22_0, hfz22_1⟩ := z2 BK172; obtain ⟨hcz23_0, hcz23_1, hfz23_0, hfz23_1⟩ := z2 BK173) | (refine gc 15 Tryd.func64 #[.slice A0_1 l0_1.length c0_1, .slice A1_1 l1_1.length c1_1] ?_; (with_reducible refine (laws_eqBookEntryS.calls k _ _ l0_1 _ _ l1_1 false _ ?side1 ?side2 ?side3 ?side4 A5.out).mono ?_); (case side1 => exact (rC (Kd.C_below HR0_1.out HB.out))); (case side2 => exact HC0_1.out); (case side3 => exact (rC (Kd.C_below HR1_1.out HB.out))); (case side4 => exact HC1_1.out); rintro e w24 ⟨rfl, hb⟩; refine ⟨_, rfl, ?_⟩; replace BK172 := kb BK172 hb; replace BK173 := kb BK173 hb; replace HB := hB hb; (try clear hb); (try clear hb2); (try clear hk); (try clear hi)))
  go_ret
  exact ⟨ZZab01d2, ZZ295621⟩
 replace c4 := Bool.eq_false_iff.mpr c4
 subst c4
 replace H := ifF H
 obtain rfl := Option.some.inj H
 go_enter Tryd.func18, Tryd.ntmps18
 go_wp2_with (first | ((with_reducible refine gate_dst (N := 2) rfl ?_); refine bx 2 (cs := #[.slice A0_0 l0_0.length c0_0, .slice A0_1 l0_1.length c0_1]) (t := 31) ?_; intro gb172 hg w25 hbox hb; have BK172 := Aside0.mk (hbox); have GW172 := gw hg; have GE172 := gw hg; replace HB := hB hb; clear hb hbox hg) | ((with_reducible refine gate_dst (N := 3) rfl ?_); refine bx 3 (cs := #[.slice A1_0 l1_0.length c1_0, .slice A1_1 l1_1.length c1_1]) (t := 31) ?_; intro gb173 hg w26 hbox hb; have BK173 := Aside0.mk (hbox); have GW173 := gw hg; have GE173 := gw hg; replace HB := hB hb; have NB172_173 := nl hg BK172; have NB173_172 := ng hg BK172; replace BK172 := kb BK172 hb; clear hb hbox hg; have hnb27 := NB172_173.out; have hnc27 := NB173_172.out; obtain ⟨hcz28_0, hcz28_1, hfz28_0, hfz28_1⟩ := z2 BK172; obtain ⟨hcz29_0, hcz29_1, hfz29_0, hfz29_1⟩ := z2 BK173) | (refine gc 9 Tryd.func63 #[.slice A0_0 l0_0.length c0_0, .slice A1_0 l1_0.length c1_0] ?_; (with_reducible refine (laws_eqAccountS.calls k _ _ l0_0 _ _ l1_0 false _ ?side1 ?side2 ?side3 ?side4 A3.out).mono ?_); (case side1 => exact (rC (Kd.C_below HR0_0.out HB.out))); (case side2 => exact HC0_0.out); (case side3 => exact (rC (Kd.C_below HR1_0.out HB.out))); (case side4 => exact HC1_0.out); rintro e w30 ⟨rfl, hb⟩; refine ⟨_, rfl, ?_⟩; replace BK172 := kb BK172 hb; replace BK173 := kb BK173 hb; replace HB := hB hb; (try clear hb); (try clear hb2); (try clear hk); (try clear hi)))
 go_ret
 exact ⟨ZZab01d2, ZZ295621⟩
def impl_within.f (a0 : Int) (a1 : Int) (a2 : Int) : Option (Bool) := if a0 ≥ a1 then (some (decide (a0 ≤ a2))) else (some false)
set_option maxHeartbeats 8000000 in
set_option maxRecDepth 100000 in
theorem impl_within.calls (a0 : Int) (a1 : Int) (a2 : Int) (r : Bool) (w : World) (h : impl_within.f a0 a1 a2 = some r) :
 Calls Tryd.prog 56 #[.int .i64 a0, .int .i64 a1, .int .i64 a2] w fun e w' => e = .returned (.bool r) ∧ Drawn0 w w' := by
 have H := h
 clear h
 unfold impl_within.f at H
 by_cases c4 : a0 ≥ a1
 ·rw [if_pos c4] at H
  have c4b0 : decide (a1 ≤ a0) = true := decide_eq_true c4
  clear c4
  obtain rfl := Option.some.inj H
  go_enter Tryd.func56, Tryd.ntmps56
  go_wp2
  go_ret
  exact ⟨ZZ0ab324, ZZ965307⟩
 rw [if_neg c4] at H
 have c4b0 : decide (a1 ≤ a0) = false := decide_eq_false c4
 clear c4
 obtain rfl := Option.some.inj H
 go_enter Tryd.func56, Tryd.ntmps56
 go_wp2
 go_ret
 exact ⟨ZZ0ab324, ZZ965307⟩
def impl_isAccountName.f (a0 : ByteArray) : Option (Bool) := (impl_within.f (a0.size : Int) 1 8).bind fun t176 => (if t176 = true then ((strings_Trim.f a0 (⟨#[97, 98, 99, 100, 101, 102, 103, 104, 105, 106, 107, 108, 109, 110, 111, 112, 113, 114, 115, 116, 117, 118, 119, 120, 121, 122]⟩ : ByteArray)).bind fun t177 => (some (t177.toList == ([] : List UInt8)))) else (some false))
set_option maxHeartbeats 8000000 in
set_option maxRecDepth 100000 in
theorem impl_isAccountName.calls (a0 : ByteArray) (r : Bool) (w : World) (h : impl_isAccountName.f a0 = some r) :
 Calls Tryd.prog 55 #[.string a0] w fun e w' => e = .returned (.bool r) ∧ Below w.heap.size w w' := by
 have HB := Aside0.mk (Below.refl w.heap.size w)
 have H := h
 clear h
 unfold impl_isAccountName.f at H
 obtain ⟨t176, A2, H⟩ := bdY H
 by_cases c3 : t176 = true
 ·subst c3
  replace H := ifT H
  obtain ⟨t177, A4, H⟩ := bdY H
  obtain rfl := Option.some.inj H
  go_enter Tryd.func55, Tryd.ntmps55
  go_wp2_with (first | (refine gc 5 Tryd.func56 #[.int .i64 (a0.size : Int), .int .i64 1, .int .i64 8] ?_; (with_reducible refine (impl_within.calls (a0.size : Int) 1 8 true _ A2.out).mono ?_); rintro e w' ⟨rfl, ⟨nd, rfl⟩⟩; refine ⟨_, rfl, ?_⟩) | (go_at_call 104; (with_reducible refine (strings_Trim.calls a0 (⟨#[97, 98, 99, 100, 101, 102, 103, 104, 105, 106, 107, 108, 109, 110, 111, 112, 113, 114, 115, 116, 117, 118, 119, 120, 121, 122]⟩ : ByteArray) t177 _ A4.out).mono ?_); rintro e w5 ⟨rfl, hb⟩; replace HB := hB hb; (try clear hb); (try clear hb2); (try clear hk); (try clear hi)))
  go_ret
  exact ⟨ZZab01d2, ZZ605003⟩
 replace c3 := Bool.eq_false_iff.mpr c3
 subst c3
 replace H := ifF H
 obtain rfl := Option.some.inj H
 go_enter Tryd.func55, Tryd.ntmps55
 go_wp2_with (first | (refine gc 5 Tryd.func56 #[.int .i64 (a0.size : Int), .int .i64 1, .int .i64 8] ?_; (with_reducible refine (impl_within.calls (a0.size : Int) 1 8 false _ A2.out).mono ?_); rintro e w' ⟨rfl, ⟨nd, rfl⟩⟩; refine ⟨_, rfl, ?_⟩))
 go_ret
 exact ⟨ZZab01d2, ZZ605003⟩
-- NOT PRINTED: function 105 (impl_Account_105)
-- NOT PRINTED: function 57 (impl_Account_57)
-- NOT PRINTED: function 58 (impl_IsValidLedger_1)
def impl_isDay.f (a0 : Int) : Option (Bool) := (impl_within.f a0 0 36524).bind fun t179 => (some t179)
set_option maxHeartbeats 8000000 in
set_option maxRecDepth 100000 in
theorem impl_isDay.calls (a0 : Int) (r : Bool) (w : World) (h : impl_isDay.f a0 = some r) :
 Calls Tryd.prog 59 #[.int .i64 a0] w fun e w' => e = .returned (.bool r) ∧ Drawn0 w w' := by
 have H := h
 clear h
 unfold impl_isDay.f at H
 obtain ⟨t179, A2, H⟩ := bdY H
 obtain rfl := Option.some.inj H
 go_enter Tryd.func59, Tryd.ntmps59
 go_wp2_with (first | (refine gc 4 Tryd.func56 #[.int .i64 a0, .int .i64 0, .int .i64 36524] ?_; (with_reducible refine (impl_within.calls a0 0 36524 t179 _ A2.out).mono ?_); rintro e w' ⟨rfl, ⟨nd, rfl⟩⟩; refine ⟨_, rfl, ?_⟩))
 go_ret
 exact ⟨ZZ0ab324, ZZ965307⟩
def impl_isMemo.l0 : Nat → ByteArray → Int → Int → Option (Bool)
 | 0, _, _, _ => none
 | k + 1, x0, x5, x6 => if x6 < x5 then (if 0 ≤ x6 then (if x6 < (x0.size : Int) then (if (bt x0 x6) < 32 then (some false) else (if (bt x0 x6) > 126 then (some false) else (impl_isMemo.l0 k x0 x5 (wrap64 (x6 + 1))))) else (none)) else (none)) else (some (decide ((x0.size : Int) ≤ 30)))
def impl_isMemo.f (k : Nat) (a0 : ByteArray) : Option (Bool) := impl_isMemo.l0 k a0 (a0.size : Int) 0
theorem impl_isMemo.mono_l : ∀ k, (∀ y0 y1 y2, LeO (impl_isMemo.l0 k y0 y1 y2) (impl_isMemo.l0 (k + 1) y0 y1 y2))
 | 0 => fun _ _ _ r h => by simp [impl_isMemo.l0] at h
 | k + 1 => by
  have ih0 := impl_isMemo.mono_l k
  ·intro y0 y1 y2
   unfold impl_isMemo.l0
   repeat' with_reducible first | apply ih0 | exact LeO.refl _ | exact LeO.none _ | refine LeO.ite ?_ ?_ | refine LeO.bind ?_ (fun _ => ?_)
theorem impl_isMemo.mono : ∀ a0 k, LeO (impl_isMemo.f k a0) (impl_isMemo.f (k + 1) a0) := by
 intro a0 k
 have ih0 := impl_isMemo.mono_l k
 unfold impl_isMemo.f
 repeat' with_reducible first | apply ih0 | exact LeO.refl _ | exact LeO.none _ | refine LeO.ite ?_ ?_ | refine LeO.bind ?_ (fun _ => ?_)
set_option maxHeartbeats 8000000 in
set_option maxRecDepth 100000 in
theorem impl_isMemo.calls (k : Nat) (a0 : ByteArray) (r : Bool) (w : World) (h : impl_isMemo.f k a0 = some r) :
 Calls Tryd.prog 60 #[.string a0] w fun e w' => e = .returned (.bool r) ∧ Drawn0 w w' := by
 have H := h
 clear h
 unfold impl_isMemo.f at H
 replace H := Aside0.mk H
 go_enter Tryd.func60, Tryd.ntmps60
 go_wp2
 go_loopg [6] k (fun kq v6 w' => ∃ (x6_1 : Int), v6 = .int .i64 x6_1 ∧ Aside0 (impl_isMemo.l0 kq a0 (a0.size : Int) x6_1 = some r) ∧ Aside0 (kq ≤ k) ∧ Drawn0 w w')
 case atStart => exact ⟨(0), ZZ0ab324, H, ⟨Nat.le_refl _⟩, ZZ965307⟩
 case round =>
  clear H
  obtain ⟨x6_1, rfl, HA, HK1, ⟨m1, rfl⟩⟩ := hrel
  cases gk with
  | zero => exact absurd HA.out (by simp [impl_isMemo.l0])
  | succ k1 =>
   have H := HA.out
   clear HA
   simp only [impl_isMemo.l0] at H
   by_cases c2 : x6_1 < (a0.size : Int)
   ·rw [if_pos c2] at H
    have c2b0 := decide_eq_true c2
    clear c2
    obtain ⟨c3b0, H⟩ := ifYd H
    obtain ⟨c4b0, H⟩ := ifYd H
    by_cases c6 : (bt a0 x6_1) < 32
    ·rw [if_pos c6] at H
     have c6b0 := decide_eq_true c6
     clear c6
     obtain rfl := Option.some.inj H
     have p5 : 0 ≤ (x6_1 : Int) := of_decide_eq_true ZZ853400
     have q5 : x6_1 < (a0.size : Int) := of_decide_eq_true ZZ853400
     have hx5 := bt_at a0 x6_1
     replace p5 := eq_true p5
     replace q5 := eq_true q5
     go_wp2
     go_ret
     exact ⟨ZZ0ab324, ZZ965307⟩
    rw [if_neg c6] at H
    have c6b0 := decide_eq_false c6
    clear c6
    by_cases c8 : (bt a0 x6_1) > 126
    ·rw [if_pos c8] at H
     have c8b0 : decide (126 < (bt a0 x6_1)) = true := decide_eq_true c8
     clear c8
     obtain rfl := Option.some.inj H
     have p5 : 0 ≤ (x6_1 : Int) := of_decide_eq_true ZZ853400
     have q5 : x6_1 < (a0.size : Int) := of_decide_eq_true ZZ853400
     have hx5 := bt_at a0 x6_1
     replace p5 := eq_true p5
     replace q5 := eq_true q5
     have p7 : 0 ≤ (x6_1 : Int) := of_decide_eq_true ZZ853400
     have q7 : x6_1 < (a0.size : Int) := of_decide_eq_true ZZ853400
     have hx7 := bt_at a0 x6_1
     replace p7 := eq_true p7
     replace q7 := eq_true q7
     go_wp2
     go_ret
     exact ⟨ZZ0ab324, ZZ965307⟩
    rw [if_neg c8] at H
    have c8b0 : decide (126 < (bt a0 x6_1)) = false := decide_eq_false c8
    clear c8
    replace H := Aside0.mk H
    have p5 : 0 ≤ (x6_1 : Int) := of_decide_eq_true ZZ853400
    have q5 : x6_1 < (a0.size : Int) := of_decide_eq_true ZZ853400
    have hx5 := bt_at a0 x6_1
    replace p5 := eq_true p5
    replace q5 := eq_true q5
    have p7 : 0 ≤ (x6_1 : Int) := of_decide_eq_true ZZ853400
    have q7 : x6_1 < (a0.size : Int) := of_decide_eq_true ZZ853400
    have hx7 := bt_at a0 x6_1
    replace p7 := eq_true p7
    replace q7 := eq_true q7
    go_wp2
    go_roundg k1
    case measure => have := HK1.out; omega
    case rel => exact ⟨(wrap64 (x6_1 + 1)), ZZ0ab324, H, kle, ZZ965307⟩
   rw [if_neg c2] at H
   have c2b0 := decide_eq_false c2
   clear c2
   obtain rfl := Option.some.inj H
   go_wp2
   go_ret
   exact ⟨ZZ0ab324, ZZ965307⟩
def impl_isAmount.f (a0 : Int) : Option (Bool) := (impl_within.f a0 (-1000000000) 1000000000).bind fun t180 => (some t180)
set_option maxHeartbeats 8000000 in
set_option maxRecDepth 100000 in
theorem impl_isAmount.calls (a0 : Int) (r : Bool) (w : World) (h : impl_isAmount.f a0 = some r) :
 Calls Tryd.prog 62 #[.int .i64 a0] w fun e w' => e = .returned (.bool r) ∧ Drawn0 w w' := by
 have H := h
 clear h
 unfold impl_isAmount.f at H
 obtain ⟨t180, A2, H⟩ := bdY H
 obtain rfl := Option.some.inj H
 go_enter Tryd.func62, Tryd.ntmps62
 go_wp2_with (first | (refine gc 4 Tryd.func56 #[.int .i64 a0, .int .i64 (-1000000000), .int .i64 1000000000] ?_; (with_reducible refine (impl_within.calls a0 (-1000000000) 1000000000 t180 _ A2.out).mono ?_); rintro e w' ⟨rfl, ⟨nd, rfl⟩⟩; refine ⟨_, rfl, ?_⟩))
 go_ret
 exact ⟨ZZ0ab324, ZZ965307⟩
end Go.Proofs.YtccdjchaaeligaaDoor.XFnExactCloseAccounts

import Derived.Test.YtccdjchaaeligaaDoorXFnLedger2
import Derived.Test.YtccdjchaaeligaaDoorXFnLedger0
import Derived.Test.YtccdjchaaeligaaDoorXFnLedger4
namespace Go.Proofs.YtccdjchaaeligaaDoor.XFnLedger
open Go.Proofs.YtccdjchaaeligaaDoor.Short Go.RowKit Go.Proofs.YtccdjchaaeligaaDoorW.PrintWords Go.Proofs.YtccdjchaaeligaaDoorW.PrintLast Go.Proofs.YtccdjchaaeligaaDoorW.PrintMore
attribute [local go_sem] max2_int min2_int max_two min_two max_three min_three max_four min_four
set_option linter.unusedVariables false
set_option linter.unusedSimpArgs false
-- NOT PRINTED: function 134 (slices_IndexFunc_int_int)
-- NOT PRINTED: function 107 (slices_ContainsFunc_int_int)
def impl_isAccount_1.f (a0 : Int) : Option (Bool):=(impl_isDay.f a0).bind fun t151 => (some (!t151))
set_option maxHeartbeats 8000000 in
set_option maxRecDepth 100000 in
theorem impl_isAccount_1.calls (a0 : Int) (r : Bool) (w : World) (h : impl_isAccount_1.f a0 = some r) :
 Calls Tryd.prog 108 #[.int .i64 a0] w fun e w' => e = .returned (.bool r) ∧ Drawn0 w w':=by
 have H:=h;clear h;unfold impl_isAccount_1.f at H;obtain ⟨t151,A2,H⟩:=bdY H;obtain rfl:=Option.some.inj H
 go_enter Tryd.func108,Tryd.ntmps108
 go_wp2_with (first | (refine gc 4 Tryd.func59 #[.int .i64 a0] ?_;(with_reducible refine (impl_isDay.calls a0 t151 _ A2.out).mono ?_);rintro e w' ⟨rfl,⟨nd,rfl⟩⟩;refine ⟨_,rfl,?_⟩))
 go_ret;exact ⟨ZZ0ab324,ZZ965307⟩
def slices_IndexFunc_int_int_impl_isAccount_1.l0 : Nat → List Int → Int → Int → Option (Int)
 | 0,_,_,_ => none
 | k + 1,x0,x7,x8 => if x8 < x7 then (if 0 ≤ x8 then (if x8 < (x0.length : Int) then ((XFnLedger.impl_isAccount_1.f (rd x0 x8)).bind fun t156 => (if t156 = true then (some x8) else (slices_IndexFunc_int_int_impl_isAccount_1.l0 k x0 x7 (wrap64 (x8 + 1))))) else (none)) else (none)) else (some (-1))
def slices_IndexFunc_int_int_impl_isAccount_1.f (k : Nat) (l0 : List Int)  : Option (Int):=slices_IndexFunc_int_int_impl_isAccount_1.l0 k l0 (l0.length : Int) 0
theorem slices_IndexFunc_int_int_impl_isAccount_1.mono_l : ∀ k,(∀ y0 y1 y2,LeO (slices_IndexFunc_int_int_impl_isAccount_1.l0 k y0 y1 y2) (slices_IndexFunc_int_int_impl_isAccount_1.l0 (k + 1) y0 y1 y2))
 | 0 => fun _ _ _ r h => by simp [slices_IndexFunc_int_int_impl_isAccount_1.l0] at h
 | k + 1 => by
  have ih0:=slices_IndexFunc_int_int_impl_isAccount_1.mono_l k
  ·intro y0 y1 y2;unfold slices_IndexFunc_int_int_impl_isAccount_1.l0;repeat' with_reducible first | apply ih0 | exact LeO.refl _ | exact LeO.none _ | refine LeO.ite ?_ ?_ | refine LeO.bind ?_ (fun _ => ?_)
theorem slices_IndexFunc_int_int_impl_isAccount_1.mono : ∀ a0 k,LeO (slices_IndexFunc_int_int_impl_isAccount_1.f k a0) (slices_IndexFunc_int_int_impl_isAccount_1.f (k + 1) a0):=by
 intro a0 k;have ih0:=slices_IndexFunc_int_int_impl_isAccount_1.mono_l k;unfold slices_IndexFunc_int_int_impl_isAccount_1.f;repeat' with_reducible first | apply ih0 | exact LeO.refl _ | exact LeO.none _ | refine LeO.ite ?_ ?_ | refine LeO.bind ?_ (fun _ => ?_)
set_option maxHeartbeats 8000000 in
set_option maxRecDepth 100000 in
theorem slices_IndexFunc_int_int_impl_isAccount_1.calls (k : Nat) (A0 : Option Addr) (c0 : Nat) (l0 : List Int)  (r : Int) (w : World) (hr0 : Kd.C (Kd.int .i64) w A0 l0.length l0) (hc0 : l0.length ≤ c0) (h : slices_IndexFunc_int_int_impl_isAccount_1.f k l0 = some r) :
 Calls Tryd.prog 134 #[.slice A0 l0.length c0,.func (.func 108) #[] #[]] w fun e w' => e = .returned (.int .i64 r) ∧ Drawn0 w w':=by
 have HR0:=ak hr0;have HC0:=ak hc0;clear hr0 hc0;have H:=h;clear h;unfold slices_IndexFunc_int_int_impl_isAccount_1.f at H;replace H:=ak H
 go_enter Tryd.func134,Tryd.ntmps134
 go_wp2
 go_loopg [8] k (fun kq v8 w' => ∃ (x8_1 : Int),v8 = .int .i64 x8_1 ∧ Aside0 (slices_IndexFunc_int_int_impl_isAccount_1.l0 kq l0 (l0.length : Int) x8_1 = some r) ∧ Aside0 (kq ≤ k) ∧ Drawn0 w w')
 case atStart => exact ⟨(0),ZZ0ab324,H,⟨Nat.le_refl _⟩,ZZ965307⟩
 case round =>
  clear H;obtain ⟨x8_1,rfl,HA,HK1,⟨m1,rfl⟩⟩:=hrel
  cases gk with
  | zero => exact absurd HA.out (by simp [slices_IndexFunc_int_int_impl_isAccount_1.l0])
  | succ k1 =>
   have H:=HA.out;clear HA;simp only [slices_IndexFunc_int_int_impl_isAccount_1.l0] at H;by_cases c3 : x8_1 < (l0.length : Int)
   ·rw [if_pos c3] at H;have c3b0:=decide_eq_true c3;clear c3;obtain ⟨c4b0,H⟩:=ifYd H;obtain ⟨c5b0,H⟩:=ifYd H;obtain ⟨t156,A6,H⟩:=bdY H;by_cases c7 : t156 = true
    ·subst c7;replace H:=ifT H;obtain rfl:=Option.some.inj H;have p155 : 0 ≤ (x8_1 : Int):=of_decide_eq_true ZZ853400;have q155 : x8_1 < (l0.length : Int):=of_decide_eq_true ZZ853400;obtain ⟨ad155,e155,hx155_0⟩:=Kd.at_int HR0.out x8_1 p155 q155
     cases e155
     replace p155:=eq_true p155;replace q155:=eq_true q155;go_wp2_with (first | (go_at_call 108;(with_reducible refine (XFnLedger.impl_isAccount_1.calls (rd l0 x8_1) true _ A6.out).mono ?_);rintro e w' ⟨rfl,⟨nd,rfl⟩⟩))
     go_ret;exact ⟨ZZ0ab324,ZZ965307⟩
    replace c7:=Bool.eq_false_iff.mpr c7;subst c7;replace H:=ifF H;replace H:=ak H;have p155 : 0 ≤ (x8_1 : Int):=of_decide_eq_true ZZ853400;have q155 : x8_1 < (l0.length : Int):=of_decide_eq_true ZZ853400;obtain ⟨ad155,e155,hx155_0⟩:=Kd.at_int HR0.out x8_1 p155 q155
    cases e155
    replace p155:=eq_true p155;replace q155:=eq_true q155;go_wp2_with (first | (go_at_call 108;(with_reducible refine (XFnLedger.impl_isAccount_1.calls (rd l0 x8_1) false _ A6.out).mono ?_);rintro e w' ⟨rfl,⟨nd,rfl⟩⟩))
    go_roundg k1
    case measure => have:=HK1.out;omega
    case rel => exact ⟨(wrap64 (x8_1 + 1)),ZZ0ab324,H,kle,ZZ965307⟩
   rw [if_neg c3] at H;have c3b0:=decide_eq_false c3;clear c3;obtain rfl:=Option.some.inj H;go_wp2;go_ret;exact ⟨ZZ0ab324,ZZ965307⟩
def slices_ContainsFunc_int_int_impl_isAccount_1.f (k : Nat) (l0 : List Int)  : Option (Bool):=(slices_IndexFunc_int_int_impl_isAccount_1.f k l0).bind fun t157 => (some (decide (t157 ≥ 0)))
theorem slices_ContainsFunc_int_int_impl_isAccount_1.mono : ∀ a0 k,LeO (slices_ContainsFunc_int_int_impl_isAccount_1.f k a0) (slices_ContainsFunc_int_int_impl_isAccount_1.f (k + 1) a0):=by
 intro a0 k;unfold slices_ContainsFunc_int_int_impl_isAccount_1.f;repeat' with_reducible first | apply slices_IndexFunc_int_int_impl_isAccount_1.mono | exact LeO.refl _ | exact LeO.none _ | refine LeO.ite ?_ ?_ | refine LeO.bind ?_ (fun _ => ?_)
set_option maxHeartbeats 8000000 in
set_option maxRecDepth 100000 in
theorem slices_ContainsFunc_int_int_impl_isAccount_1.calls (k : Nat) (A0 : Option Addr) (c0 : Nat) (l0 : List Int)  (r : Bool) (w : World) (hr0 : Kd.C (Kd.int .i64) w A0 l0.length l0) (hc0 : l0.length ≤ c0) (h : slices_ContainsFunc_int_int_impl_isAccount_1.f k l0 = some r) :
 Calls Tryd.prog 107 #[.slice A0 l0.length c0,.func (.func 108) #[] #[]] w fun e w' => e = .returned (.bool r) ∧ Below w.heap.size w w':=by
 have HR0:=ak hr0;have HC0:=ak hc0;clear hr0 hc0;have HB:=ak (Below.refl w.heap.size w);have H:=h;clear h;unfold slices_ContainsFunc_int_int_impl_isAccount_1.f at H;obtain ⟨t157,A3,H⟩:=bdY H;obtain rfl:=Option.some.inj H
 go_enter Tryd.func107,Tryd.ntmps107
 go_wp2_with (first | (refine gc 7 Tryd.func134 #[.slice A0 l0.length c0,.func (.func 108) #[] #[]] ?_;(with_reducible refine (slices_IndexFunc_int_int_impl_isAccount_1.calls k _ _ l0  t157 _ ?side1 ?side2 A3.out).mono ?_);(case side1 => exact (rC HR0.out));(case side2 => exact HC0.out);rintro e w' ⟨rfl,⟨nd,rfl⟩⟩;refine ⟨_,rfl,?_⟩))
 go_ret;exact ⟨ZZab01d2,ZZ605003⟩
def impl_isAccount.f (k : Nat) (l0_0 : List (S48)) (l0_1 : List (S63)) (a1 : Int) (l2 : List Int) : Option (Bool):=(impl_IsValidLedger.f k l0_0 l0_1).bind fun t153 => (if t153 = true then ((impl_within.f a1 0 (wrap64 ((l0_0.length : Int) - 1))).bind fun t154 => (if t154 = true then ((slices_ContainsFunc_int_int_impl_isAccount_1.f k l2).bind fun t158 => (some (!t158))) else (some false))) else (some false))
theorem impl_isAccount.mono : ∀ a0 a1 a2 a3 k,LeO (impl_isAccount.f k a0 a1 a2 a3) (impl_isAccount.f (k + 1) a0 a1 a2 a3):=by
 intro a0 a1 a2 a3 k;unfold impl_isAccount.f;repeat' with_reducible first | apply impl_IsValidLedger.mono | apply slices_ContainsFunc_int_int_impl_isAccount_1.mono | exact LeO.refl _ | exact LeO.none _ | refine LeO.ite ?_ ?_ | refine LeO.bind ?_ (fun _ => ?_)
set_option maxHeartbeats 8000000 in
set_option maxRecDepth 100000 in
theorem impl_isAccount.calls (k : Nat) (A0_0 : Option Addr) (c0_0 : Nat) (l0_0 : List (S48)) (A0_1 : Option Addr) (c0_1 : Nat) (l0_1 : List (S63)) (a1 : Int) (A2 : Option Addr) (c2 : Nat) (l2 : List Int) (r : Bool) (w : World) (hr0_0 : Kd.C k48 w A0_0 l0_0.length l0_0) (hc0_0 : l0_0.length ≤ c0_0) (hr0_1 : Kd.C k63 w A0_1 l0_1.length l0_1) (hc0_1 : l0_1.length ≤ c0_1) (hr2 : Kd.C (Kd.int .i64) w A2 l2.length l2) (hc2 : l2.length ≤ c2) (h : impl_isAccount.f k l0_0 l0_1 a1 l2 = some r) :
 Calls Tryd.prog 68 #[.agg #[.slice A0_0 l0_0.length c0_0,.slice A0_1 l0_1.length c0_1],.int .i64 a1,.slice A2 l2.length c2] w fun e w' => e = .returned (.bool r) ∧ Below w.heap.size w w':=by
 have hu31:=Tryd.underlying31;have HR0_0:=ak hr0_0;have HC0_0:=ak hc0_0;clear hr0_0 hc0_0;have HR0_1:=ak hr0_1;have HC0_1:=ak hc0_1;clear hr0_1 hc0_1;have HR2:=ak hr2;have HC2:=ak hc2;clear hr2 hc2;have HB:=ak (Below.refl w.heap.size w);have H:=h;clear h;unfold impl_isAccount.f at H;obtain ⟨t153,A4,H⟩:=bdY H;by_cases c5 : t153 = true
 ·subst c5;replace H:=ifT H;obtain ⟨t154,A6,H⟩:=bdY H;by_cases c7 : t154 = true
  ·subst c7;replace H:=ifT H;obtain ⟨t158,A8,H⟩:=bdY H;obtain rfl:=Option.some.inj H
   go_enter Tryd.func68,Tryd.ntmps68
   go_wp2_with (first | ((with_reducible refine gate_dst (N:=3) rfl ?_);(try (refine gate_guard (by rfl) ?_;dsimp only));refine bx 3 (cs:=#[.slice A0_0 l0_0.length c0_0,.slice A0_1 l0_1.length c0_1]) (t:=31) ?_;intro gb152 hg w9 hbox hb;have BK152:=ak (hbox);have GW152:=gw hg;have GE152:=gw hg;replace HB:=hB hb;clear hb hbox hg;obtain ⟨hcz10_0,hcz10_1,hfz10_0,hfz10_1⟩:=z2 BK152) | (refine gc 8 Tryd.func17 #[.agg #[.slice A0_0 l0_0.length c0_0,.slice A0_1 l0_1.length c0_1]] ?_;(with_reducible refine (impl_IsValidLedger.calls k _ _ l0_0 _ _ l0_1 true _ ?side1 ?side2 ?side3 ?side4 A4.out).mono ?_);(case side1 => exact (rC (Kd.C_below HR0_0.out HB.out)));(case side2 => exact HC0_0.out);(case side3 => exact (rC (Kd.C_below HR0_1.out HB.out)));(case side4 => exact HC0_1.out);rintro e w11 ⟨rfl,hb⟩;refine ⟨_,rfl,?_⟩;replace BK152:=kb BK152 hb;replace HB:=hB hb;(try clear hb);(try clear hb2);(try clear hk);(try clear hi);obtain ⟨hcz12_0,hcz12_1,hfz12_0,hfz12_1⟩:=z2 BK152) | (go_at_call 56;(with_reducible refine (impl_within.calls a1 0 (wrap64 ((l0_0.length : Int) - 1)) true _ A6.out).mono ?_);rintro e w' ⟨rfl,⟨nd,rfl⟩⟩) | (go_at_call 107;(with_reducible refine (slices_ContainsFunc_int_int_impl_isAccount_1.calls k _ _ l2  t158 _ ?side1 ?side2 A8.out).mono ?_);(case side1 => repeat (first | exact (Kd.C_below HR2.out ZZ295621) | (with_reducible refine Kd.C_alloc ?_ _) | (with_reducible refine Kd.C_drewN ?_ _) | (with_reducible refine Kd.C_drew ?_)));(case side2 => exact HC2.out);rintro e w13 ⟨rfl,hb⟩;replace BK152:=kb BK152 hb;replace HB:=hB hb;(try clear hb);(try clear hb2);(try clear hk);(try clear hi)))
   go_ret;exact ⟨ZZab01d2,ZZ295621⟩
  replace c7:=Bool.eq_false_iff.mpr c7;subst c7;replace H:=ifF H;obtain rfl:=Option.some.inj H
  go_enter Tryd.func68,Tryd.ntmps68
  go_wp2_with (first | ((with_reducible refine gate_dst (N:=3) rfl ?_);(try (refine gate_guard (by rfl) ?_;dsimp only));refine bx 3 (cs:=#[.slice A0_0 l0_0.length c0_0,.slice A0_1 l0_1.length c0_1]) (t:=31) ?_;intro gb152 hg w14 hbox hb;have BK152:=ak (hbox);have GW152:=gw hg;have GE152:=gw hg;replace HB:=hB hb;clear hb hbox hg;obtain ⟨hcz15_0,hcz15_1,hfz15_0,hfz15_1⟩:=z2 BK152) | (refine gc 8 Tryd.func17 #[.agg #[.slice A0_0 l0_0.length c0_0,.slice A0_1 l0_1.length c0_1]] ?_;(with_reducible refine (impl_IsValidLedger.calls k _ _ l0_0 _ _ l0_1 true _ ?side1 ?side2 ?side3 ?side4 A4.out).mono ?_);(case side1 => exact (rC (Kd.C_below HR0_0.out HB.out)));(case side2 => exact HC0_0.out);(case side3 => exact (rC (Kd.C_below HR0_1.out HB.out)));(case side4 => exact HC0_1.out);rintro e w16 ⟨rfl,hb⟩;refine ⟨_,rfl,?_⟩;replace BK152:=kb BK152 hb;replace HB:=hB hb;(try clear hb);(try clear hb2);(try clear hk);(try clear hi);obtain ⟨hcz17_0,hcz17_1,hfz17_0,hfz17_1⟩:=z2 BK152) | (go_at_call 56;(with_reducible refine (impl_within.calls a1 0 (wrap64 ((l0_0.length : Int) - 1)) false _ A6.out).mono ?_);rintro e w' ⟨rfl,⟨nd,rfl⟩⟩))
  go_ret;exact ⟨ZZab01d2,ZZ295621⟩
 replace c5:=Bool.eq_false_iff.mpr c5;subst c5;replace H:=ifF H;obtain rfl:=Option.some.inj H
 go_enter Tryd.func68,Tryd.ntmps68
 go_wp2_with (first | ((with_reducible refine gate_dst (N:=3) rfl ?_);(try (refine gate_guard (by rfl) ?_;dsimp only));refine bx 3 (cs:=#[.slice A0_0 l0_0.length c0_0,.slice A0_1 l0_1.length c0_1]) (t:=31) ?_;intro gb152 hg w18 hbox hb;have BK152:=ak (hbox);have GW152:=gw hg;have GE152:=gw hg;replace HB:=hB hb;clear hb hbox hg;obtain ⟨hcz19_0,hcz19_1,hfz19_0,hfz19_1⟩:=z2 BK152) | (refine gc 8 Tryd.func17 #[.agg #[.slice A0_0 l0_0.length c0_0,.slice A0_1 l0_1.length c0_1]] ?_;(with_reducible refine (impl_IsValidLedger.calls k _ _ l0_0 _ _ l0_1 false _ ?side1 ?side2 ?side3 ?side4 A4.out).mono ?_);(case side1 => exact (rC (Kd.C_below HR0_0.out HB.out)));(case side2 => exact HC0_0.out);(case side3 => exact (rC (Kd.C_below HR0_1.out HB.out)));(case side4 => exact HC0_1.out);rintro e w20 ⟨rfl,hb⟩;refine ⟨_,rfl,?_⟩;replace BK152:=kb BK152 hb;replace HB:=hB hb;(try clear hb);(try clear hb2);(try clear hk);(try clear hi)))
 go_ret;exact ⟨ZZab01d2,ZZ295621⟩
mutual
def impl_balancesAt.l0 : Nat → Int → List Int → List (S63) → Int → Int → Option (List Int)
 | 0,_,_,_,_,_ => none
 | k + 1,x1,x5,x15,x16,x17 => if x17 < x16 then (if 0 ≤ x17 then (if x17 < (x15.length : Int) then (if ((rd_T63 x15 x17).f0) > x1 then (some x5) else (impl_balancesAt.l1 k x1 x5 x15 x16 x17 ((rd_T63 x15 x17).f2) (((rd_T63 x15 x17).f2).length : Int) 0)) else (none)) else (none)) else (some x5)
def impl_balancesAt.l1 : Nat → Int → List Int → List (S63) → Int → Int → List (S70) → Int → Int → Option (List Int)
 | 0,_,_,_,_,_,_,_,_ => none
 | k + 1,x1,x5,x15,x16,x17,x26,x27,x28 => if x28 < x27 then (if 0 ≤ x28 then (if x28 < (x26.length : Int) then (if 0 ≤ ((rd_T70 x26 x28).f0) then (if ((rd_T70 x26 x28).f0) < (x5.length : Int) then (impl_balancesAt.l1 k x1 (x5.set (((rd_T70 x26 x28).f0) : Int).toNat (wrap64 ((rd x5 ((rd_T70 x26 x28).f0)) + ((rd_T70 x26 x28).f1)))) x15 x16 x17 x26 x27 (wrap64 (x28 + 1))) else (none)) else (none)) else (none)) else (none)) else (impl_balancesAt.l0 k x1 x5 x15 x16 (wrap64 (x17 + 1)))
end
def impl_balancesAt.f (k : Nat) (l0_0 : List (S48)) (l0_1 : List (S63)) (a1 : Int) : Option (List Int):=if 0 ≤ (l0_0.length : Int) then (if ((l0_0.length : Int) : Int).toNat ≤ 35184372088832 then (impl_balancesAt.l0 k a1 (List.replicate ((l0_0.length : Int) : Int).toNat 0) l0_1 (l0_1.length : Int) 0) else (none)) else (none)
theorem impl_balancesAt.mono_l : ∀ k,(∀ y0 y1 y2 y3 y4,LeO (impl_balancesAt.l0 k y0 y1 y2 y3 y4) (impl_balancesAt.l0 (k + 1) y0 y1 y2 y3 y4)) ∧ (∀ y0 y1 y2 y3 y4 y5 y6 y7,LeO (impl_balancesAt.l1 k y0 y1 y2 y3 y4 y5 y6 y7) (impl_balancesAt.l1 (k + 1) y0 y1 y2 y3 y4 y5 y6 y7))
 | 0 => ⟨fun _ _ _ _ _ r h => by simp [impl_balancesAt.l0] at h,fun _ _ _ _ _ _ _ _ r h => by simp [impl_balancesAt.l1] at h⟩
 | k + 1 => by
  obtain ⟨ih0,ih1⟩:=impl_balancesAt.mono_l k;refine ⟨?_,?_⟩;all_goals intros
  all_goals (first | unfold impl_balancesAt.l0 | unfold impl_balancesAt.l1)
  all_goals
   repeat' with_reducible first | apply ih0 | apply ih1 | exact LeO.refl _ | exact LeO.none _ | refine LeO.ite ?_ ?_ | refine LeO.bind ?_ (fun _ => ?_)
theorem impl_balancesAt.mono : ∀ a0 a1 a2 k,LeO (impl_balancesAt.f k a0 a1 a2) (impl_balancesAt.f (k + 1) a0 a1 a2):=by
 intro a0 a1 a2 k;obtain ⟨ih0,ih1⟩:=impl_balancesAt.mono_l k;unfold impl_balancesAt.f;repeat' with_reducible first | apply ih0 | apply ih1 | exact LeO.refl _ | exact LeO.none _ | refine LeO.ite ?_ ?_ | refine LeO.bind ?_ (fun _ => ?_)
def impl_balancesAt.T9 : Bool × List (List Nat × List Nat):=(true,[([],[]),([],[]),([1],[1]),([0,2],[0,2]),([3],[3]),([],[]),([5],[5]),([4,6],[4,6]),([0,2,0,1,2,3,4,5,6,7],[0,2]),([8,7,0,1,2,3,4,5,6,7],[7,8])])
def impl_balancesAt.B9 : List Nat:=[0,0,2,7,15,0,32,127,255,511]
theorem impl_balancesAt.tab9 : rtab .any (opsOf Tryd.f69 9) = impl_balancesAt.T9:=by kernel_rfl
theorem impl_balancesAt.bits9 : waitsOk impl_balancesAt.T9.2 impl_balancesAt.B9 = true:=by kernel_rfl
set_option maxHeartbeats 8000000 in
set_option maxRecDepth 100000 in
theorem impl_balancesAt.calls (k : Nat) (A0_0 : Option Addr) (c0_0 : Nat) (l0_0 : List (S48)) (A0_1 : Option Addr) (c0_1 : Nat) (l0_1 : List (S63)) (a1 : Int) (r : List Int) (w : World) (hr0_0 : Kd.C k48 w A0_0 l0_0.length l0_0) (hc0_0 : l0_0.length ≤ c0_0) (hr0_1 : Kd.C k63 w A0_1 l0_1.length l0_1) (hc0_1 : l0_1.length ≤ c0_1) (h : impl_balancesAt.f k l0_0 l0_1 a1 = some r) :
 Calls Tryd.prog 69 #[.agg #[.slice A0_0 l0_0.length c0_0,.slice A0_1 l0_1.length c0_1],.int .i64 a1] w fun e w' => ∃ v0_ : Value,e = .returned (v0_) ∧ Kd.R (Kd.int .i64) 3 w' w.heap.size (fun _ => True) v0_ r ∧ Below w.heap.size w w':=by
 have hu31:=Tryd.underlying31;have hu63:=Tryd.underlying63;have hu70:=Tryd.underlying70;have HR0_0:=ak hr0_0;have HC0_0:=ak hc0_0;clear hr0_0 hc0_0;have HR0_1:=ak hr0_1;have HC0_1:=ak hc0_1;clear hr0_1 hc0_1;have HB:=ak (Below.refl w.heap.size w);have H:=h;clear h;unfold impl_balancesAt.f at H;obtain ⟨c3b0,c3b1,H⟩:=ifYe H;obtain ⟨c4b0,c4b1,H⟩:=ifYe H;try rw [Option.bind_some] at H
 generalize hy160 : (List.replicate ((l0_0.length : Int) : Int).toNat 0 : List Int) = y160 at H;have Ny160:=ak hy160.symm;clear hy160;replace H:=ak H
 go_enter Tryd.func69,Tryd.ntmps69
 go_wp2_with (first | ((with_reducible refine gate_dst (N:=2) rfl ?_);refine bx 2 (cs:=#[.slice A0_0 l0_0.length c0_0,.slice A0_1 l0_1.length c0_1]) (t:=31) ?_;intro gb159 hg w5 hbox hb;have BK159:=ak (hbox);have GW159:=gw hg;have GE159:=gw hg;replace HB:=hB hb;clear hb hbox hg;obtain ⟨hcz6_0,hcz6_1,hfz6_0,hfz6_1⟩:=z2 BK159) | ((with_reducible refine gate_dst (N:=13) rfl ?_);refine Kd.R_make (Kd.int .i64) _ 3 rfl (N:=13) rfl 44 _ _ rfl (l0_0.length : Int) rfl rfl Tryd.underlying44 (.int .i64 0) 8 info3 rfl (by decide) (by omega) 0 (ok:=fun _ => True) (okp:=fun _ => True) rfl (fun _ hk => hk) trivial (of_decide_eq_true ZZ853400) (Nat.le_trans (Nat.mul_le_mul_right _ (of_decide_eq_true ZZ853400 : (l0_0.length : Int).toNat ≤ 35184372088832)) (by omega)) (Below.refl _ _) (Nat.le_refl _) ?_;intro v161 w7 ho8 hb hg_ hnew_;clear hg_ hnew_;(first | rw [← Ny160.out] at ho8 | (simp only [Int.reduceToNat] at ho8;rw [← Ny160.out] at ho8));have HO162:=ak (Kd.R_lower ho8 (below_size ZZ295621));replace BK159:=kb BK159 hb;replace HB:=hB hb;clear hb ho8;obtain ⟨hcz9_0,hcz9_1,hfz9_0,hfz9_1⟩:=z2 BK159))
 go_loopg [17] k (fun kq v17 w' => ∃ (x5_1 : List Int) (x17_1 : Int),v17 = .int .i64 x17_1 ∧ Aside0 (impl_balancesAt.l0 kq a1 x5_1 l0_1 (l0_1.length : Int) x17_1 = some r) ∧ Aside0 (kq ≤ k) ∧ Aside0 (Kd.R (Kd.int .i64) 3 w' w.heap.size (fun _ => True) v161 x5_1) ∧ Aside0 (w'.heap[gb159]? = some (.cells #[(.slice A0_0 l0_0.length c0_0),(.slice A0_1 l0_1.length c0_1)] 31 (0,0))) ∧ Aside0 (Below w.heap.size w w'))
 case atStart => exact ⟨(y160),(0),ZZ0ab324,H,⟨Nat.le_refl _⟩,⟨(zR HO162)⟩,⟨(zB BK159)⟩,⟨ZZ295621⟩⟩
 case round =>
  clear H;try clear c3b0
  try clear c3b1
  try clear c4b0
  try clear c4b1
  try clear hcz6_0
  try clear hcz6_1
  try clear hcz9_0
  try clear hcz9_1
  try clear hfz6_0
  try clear hfz6_1
  try clear hfz9_0
  try clear hfz9_1
  obtain ⟨x5_1,x17_1,rfl,HA,HK1,HO_5,BK159,HB⟩:=hrel
  cases gk with
  | zero => exact absurd HA.out (by simp [impl_balancesAt.l0])
  | succ k1 =>
   have H:=HA.out;clear HA;simp only [impl_balancesAt.l0] at H;by_cases c10 : x17_1 < (l0_1.length : Int)
   ·rw [if_pos c10] at H;have c10b0:=decide_eq_true c10;clear c10;obtain ⟨c11b0,H⟩:=ifYd H;obtain ⟨c12b0,H⟩:=ifYd H;by_cases c13 : ((rd_T63 l0_1 x17_1).f0) > a1
    ·rw [if_pos c13] at H;have c13b0 : decide (a1 < ((rd_T63 l0_1 x17_1).f0)) = true:=decide_eq_true c13;clear c13;obtain rfl:=Option.some.inj H;have p163 : 0 ≤ (x17_1 : Int):=of_decide_eq_true ZZ853400;have q163 : x17_1 < (l0_1.length : Int):=of_decide_eq_true ZZ853400;obtain ⟨ad163,A163_2,c163_2,e163,hx163_0,hx163_1,hx163_2,hl163_2,hi163_2⟩:=at_T63 HR0_1.out x17_1 p163 q163
     cases e163
     replace hx163_0:=bc HB hx163_0;replace hx163_1:=bc HB hx163_1;replace hx163_2:=bc HB hx163_2;have HR163_2:=ak hi163_2;have HC163_2:=ak hl163_2;clear hi163_2 hl163_2;replace p163:=eq_true p163;replace q163:=eq_true q163;go_wp2_with (first | ((with_reducible refine gate_dst (N:=7) rfl ?_);refine bx 7 (cs:=#[.int .i64 0,.string (⟨#[]⟩ : ByteArray),.slice none 0 0]) (t:=63) ?_;intro gb164 hg w14 hbox hb;replace HO_5:=Kd.rb HO_5 hb;have BK164:=ak (hbox);have GW164:=gw hg;have GE164:=gw hg;replace HB:=hB hb;have NB159_164:=nl hg BK159;have NB164_159:=ng hg BK159;replace BK159:=kb BK159 hb;clear hb hbox hg;have hnb15:=NB164_159.out;have hnc15:=NB159_164.out;obtain ⟨hcz16_0,hcz16_1,hcz16_2,hfz16_0,hfz16_1,hfz16_2⟩:=z3 BK164))
     go_ret;exact ⟨_,ZZab01d2,(by refine bR ?_;exact Kd.R_mono (Kd.rf (Kd.rf (Kd.rf (Kd.R_types HO_5.out BK164.out (by decide))))) (fun _ hk => trivial)),ZZ295621⟩
    rw [if_neg c13] at H;have c13b0 : decide (a1 < ((rd_T63 l0_1 x17_1).f0)) = false:=decide_eq_false c13;clear c13;replace H:=ak H;have p163 : 0 ≤ (x17_1 : Int):=of_decide_eq_true ZZ853400;have q163 : x17_1 < (l0_1.length : Int):=of_decide_eq_true ZZ853400;obtain ⟨ad163,A163_2,c163_2,e163,hx163_0,hx163_1,hx163_2,hl163_2,hi163_2⟩:=at_T63 HR0_1.out x17_1 p163 q163
    cases e163
    replace hx163_0:=bc HB hx163_0;replace hx163_1:=bc HB hx163_1;replace hx163_2:=bc HB hx163_2;have HR163_2:=ak hi163_2;have HC163_2:=ak hl163_2;clear hi163_2 hl163_2;replace p163:=eq_true p163;replace q163:=eq_true q163;go_wp2_with (first | ((with_reducible refine gate_dst (N:=7) rfl ?_);refine bx 7 (cs:=#[.int .i64 0,.string (⟨#[]⟩ : ByteArray),.slice none 0 0]) (t:=63) ?_;intro gb164 hg w17 hbox hb;replace HO_5:=Kd.rb HO_5 hb;have BK164:=ak (hbox);have GW164:=gw hg;have GE164:=gw hg;replace HB:=hB hb;have NB159_164:=nl hg BK159;have NB164_159:=ng hg BK159;replace BK159:=kb BK159 hb;clear hb hbox hg;have hnb18:=NB164_159.out;have hnc18:=NB159_164.out;obtain ⟨hcz19_0,hcz19_1,hcz19_2,hfz19_0,hfz19_1,hfz19_2⟩:=z3 BK164))
    go_loopg [28] k1 (fun kq v28 w' => ∃ (x5_2 : List Int) (x28_2 : Int),v28 = .int .i64 x28_2 ∧ Aside0 (impl_balancesAt.l1 kq a1 x5_2 l0_1 (l0_1.length : Int) x17_1 ((rd_T63 l0_1 x17_1).f2) (((rd_T63 l0_1 x17_1).f2).length : Int) x28_2 = some r) ∧ Aside0 (kq ≤ k1) ∧ Aside0 (Kd.R (Kd.int .i64) 3 w' w.heap.size (fun _ => True) v161 x5_2) ∧ Aside0 (w'.heap[gb159]? = some (.cells #[(.slice A0_0 l0_0.length c0_0),(.slice (some ad163) l0_1.length c0_1)] 31 (0,0))) ∧ Aside0 (w'.heap[gb164]? = some (.cells #[.int .i64 ((rd_T63 l0_1 x17_1).f0),.string ((rd_T63 l0_1 x17_1).f1),(.slice A163_2 ((rd_T63 l0_1 x17_1).f2).length c163_2)] 63 (0,0))) ∧ Aside0 (Below w.heap.size w w'))
    case atStart => exact ⟨(x5_1),(0),ZZ0ab324,H,⟨Nat.le_refl _⟩,⟨(by refine bR ?_;exact Kd.R_mono (Kd.rf (Kd.rf (Kd.rf (Kd.R_types HO_5.out BK164.out (by decide))))) (fun _ hk => trivial))⟩,⟨(by refine bd ?_;refine blk_far ?_ NB159_164.out _;refine bd ?_;refine blk_far ?_ NB159_164.out _;refine bd ?_;refine blk_far ?_ NB159_164.out _;refine bd ?_;exact BK159.out)⟩,⟨(by refine bd ?_;refine blk_put (cs:=#[.int .i64 ((rd_T63 l0_1 x17_1).f0),.string ((rd_T63 l0_1 x17_1).f1),.slice none 0 0]) ?_ 2 _ rfl;refine bd ?_;refine blk_put (cs:=#[.int .i64 ((rd_T63 l0_1 x17_1).f0),.string (⟨#[]⟩ : ByteArray),.slice none 0 0]) ?_ 1 _ rfl;refine bd ?_;refine blk_put (cs:=#[.int .i64 0,.string (⟨#[]⟩ : ByteArray),.slice none 0 0]) ?_ 0 _ rfl;refine bd ?_;exact BK164.out)⟩,⟨ZZ295621⟩⟩
    case round =>
     clear H;try clear c10b0
     try clear c11b0
     try clear c12b0
     try clear c13b0
     try clear hcz16_0
     try clear hcz16_1
     try clear hcz16_2
     try clear hcz19_0
     try clear hcz19_1
     try clear hcz19_2
     try clear hfz16_0
     try clear hfz16_1
     try clear hfz16_2
     try clear hfz19_0
     try clear hfz19_1
     try clear hfz19_2
     try clear hx163_0
     try clear hx163_1
     try clear hx163_2
     try clear p163
     try clear q163
     obtain ⟨x5_2,x28_2,rfl,HA,HK2,HO_5,BK159,BK164,HB⟩:=hrel
     cases gk with
     | zero => exact absurd HA.out (by simp [impl_balancesAt.l1])
     | succ k2 =>
      have H:=HA.out;clear HA;simp only [impl_balancesAt.l1] at H;by_cases c20 : x28_2 < (((rd_T63 l0_1 x17_1).f2).length : Int)
      ·rw [if_pos c20] at H;have c20b0:=decide_eq_true c20;clear c20;obtain ⟨c21b0,H⟩:=ifYd H;obtain ⟨c22b0,H⟩:=ifYd H;obtain ⟨c23b0,H⟩:=ifYd H;obtain ⟨c24b0,H⟩:=ifYd H;try rw [Option.bind_some] at H
       generalize hy168 : (x5_2.set (((rd_T70 ((rd_T63 l0_1 x17_1).f2) x28_2).f0) : Int).toNat (wrap64 ((rd x5_2 ((rd_T70 ((rd_T63 l0_1 x17_1).f2) x28_2).f0)) + ((rd_T70 ((rd_T63 l0_1 x17_1).f2) x28_2).f1))) : List Int) = y168 at H;have Ny168:=ak hy168.symm;clear hy168;replace H:=ak H;have p165 : 0 ≤ (x28_2 : Int):=of_decide_eq_true ZZ853400;have q165 : x28_2 < (((rd_T63 l0_1 x17_1).f2).length : Int):=of_decide_eq_true ZZ853400;obtain ⟨ad165,e165,hx165_0,hx165_1⟩:=at_T70 HR163_2.out x28_2 p165 q165
       cases e165
       replace hx165_0:=bc HB hx165_0;replace hx165_1:=bc HB hx165_1;replace p165:=eq_true p165;replace q165:=eq_true q165;try go_wp2_with (first | ((with_reducible refine gate_dst (N:=9) rfl ?_);refine bx 9 (cs:=#[.int .i64 0,.int .i64 0]) (t:=70) ?_;intro gb166 hg w26 hbox hb;replace HO_5:=Kd.rb HO_5 hb;have BK166:=ak (hbox);have GW166:=gw hg;have GE166:=gw hg;replace HB:=hB hb;have NB159_166:=nl hg BK159;have NB166_159:=ng hg BK159;replace BK159:=kb BK159 hb;have NB164_166:=nl hg BK164;have NB166_164:=ng hg BK164;replace BK164:=kb BK164 hb;clear hb hbox hg;have hnb27:=NB166_159.out;have hnc27:=NB159_166.out;have hnb28:=NB166_164.out;have hnc28:=NB164_166.out;obtain ⟨hcz29_0,hcz29_1,hfz29_0,hfz29_1⟩:=z2 BK166))
       generalize hw_ : ((w26.setCell ⟨gb166,0,none⟩ (.int .i64 ((rd_T70 ((rd_T63 l0_1 x17_1).f2) x28_2).f0))).setCell ⟨gb166,1,none⟩ (.int .i64 ((rd_T70 ((rd_T63 l0_1 x17_1).f2) x28_2).f1))) = w30;replace HO_5 : Aside0 (Kd.R (Kd.int .i64) 3 w30 w.heap.size (fun _ => True) v161 x5_2):=⟨(by subst hw_;refine bR ?_;exact Kd.R_mono (Kd.rf (Kd.rf (Kd.R_types HO_5.out BK166.out (by decide)))) (fun _ hk => trivial))⟩;replace BK159 : Aside0 (w30.heap[gb159]? = some (.cells #[.slice A0_0 l0_0.length c0_0,.slice (some ad163) l0_1.length c0_1] 31 (0,0))):=⟨(by subst hw_;refine bd ?_;refine blk_far ?_ NB159_166.out _;refine bd ?_;refine blk_far ?_ NB159_166.out _;refine bd ?_;exact BK159.out)⟩;replace BK164 : Aside0 (w30.heap[gb164]? = some (.cells #[.int .i64 ((rd_T63 l0_1 x17_1).f0),.string ((rd_T63 l0_1 x17_1).f1),.slice (some ad165) ((rd_T63 l0_1 x17_1).f2).length c163_2] 63 (0,0))):=⟨(by subst hw_;refine bd ?_;refine blk_far ?_ NB164_166.out _;refine bd ?_;refine blk_far ?_ NB164_166.out _;refine bd ?_;exact BK164.out)⟩;replace BK166 : Aside0 (w30.heap[gb166]? = some (.cells #[.int .i64 ((rd_T70 ((rd_T63 l0_1 x17_1).f2) x28_2).f0),.int .i64 ((rd_T70 ((rd_T63 l0_1 x17_1).f2) x28_2).f1)] 70 (0,0))):=⟨(by subst hw_;refine bd ?_;refine blk_put (cs:=#[.int .i64 ((rd_T70 ((rd_T63 l0_1 x17_1).f2) x28_2).f0),.int .i64 0]) ?_ 1 _ rfl;refine bd ?_;refine blk_put (cs:=#[.int .i64 0,.int .i64 0]) ?_ 0 _ rfl;refine bd ?_;exact BK166.out)⟩;replace HB : Aside0 (Below w.heap.size w w30):=⟨ZZ0d0602⟩;clear hw_;replace HO_5:=ak (Kd.R_drew HO_5.out);replace BK159:=ak (blk_drew BK159.out);replace BK164:=ak (blk_drew BK164.out);replace BK166:=ak (blk_drew BK166.out);replace HB:=ak (below_drew1 HB.out);obtain ⟨Ao32,co32,eo32⟩:=Kd.R_slice HO_5.out;(first | subst eo32 | (injection eo32 with f1_ f2_ f3_;have f4_:=f1_.symm;have f5_:=f3_.symm;clear f1_ f2_ f3_;subst f4_;subst f5_));have p167 : 0 ≤ (((rd_T70 ((rd_T63 l0_1 x17_1).f2) x28_2).f0) : Int):=of_decide_eq_true ZZ853400;have q167 : ((rd_T70 ((rd_T63 l0_1 x17_1).f2) x28_2).f0) < (x5_2.length : Int):=of_decide_eq_true ZZ853400;obtain ⟨ad167,e167,hx167_0⟩:=Kd.at_int (Kd.R_reads' HO_5.out).2.2 ((rd_T70 ((rd_T63 l0_1 x17_1).f2) x28_2).f0) p167 q167
       cases e167
       replace p167:=eq_true p167;replace q167:=eq_true q167;have p25 : 0 ≤ (((rd_T70 ((rd_T63 l0_1 x17_1).f2) x28_2).f0) : Int):=of_decide_eq_true ZZ853400;have q25 : (((rd_T70 ((rd_T63 l0_1 x17_1).f2) x28_2).f0) : Int) < ((x5_2.length : Int) : Int):=of_decide_eq_true ZZ853400;obtain ⟨go25,co25,eo25,gb25,gl25,cl25,HG25⟩:=Kd.R_form HO_5.out (by omega);(first | cases eo25 | (injection eo25 with ea_ en_ ec_;(first | subst ea_ | (injection ea_ with ea_;subst ea_));subst ec_;clear en_));have GB25:=ak gb25;have GG25:=ak HG25;clear gb25 gl25 HG25;(first | simp only [add_plain] at hx167_0 | skip);obtain ⟨hx25_0,hf25_0⟩:=Kd.R_celln 0 HO_5.out (((rd_T70 ((rd_T63 l0_1 x17_1).f2) x28_2).f0) : Int) p25 q25;replace p25:=eq_true p25;replace q25:=eq_true q25;have HP33:=Kd.R_putn HO_5.out (((rd_T70 ((rd_T63 l0_1 x17_1).f2) x28_2).f0) : Int) (wrap64 ((rd x5_2 ((rd_T70 ((rd_T63 l0_1 x17_1).f2) x28_2).f0)) + ((rd_T70 ((rd_T63 l0_1 x17_1).f2) x28_2).f1)));rw [← Ny168.out] at HP33;have HQ33:=ak HP33;clear HP33;refine start_ (n:=10) (S:=fun w' => w'.cell? ⟨gb166,0,none⟩ = some (.int .i64 ((rd_T70 ((rd_T63 l0_1 x17_1).f2) x28_2).f0)) ∧ w'.cell? ⟨gb166,1,none⟩ = some (.int .i64 ((rd_T70 ((rd_T63 l0_1 x17_1).f2) x28_2).f1)) ∧ w'.cell? ⟨go25,(((rd_T70 ((rd_T63 l0_1 x17_1).f2) x28_2).f0)).toNat,none⟩ = some (.int .i64 (rd x5_2 ((rd_T70 ((rd_T63 l0_1 x17_1).f2) x28_2).f0)))) (ds:=[9]) #[false,false,false,false,false,false,false,false,false,false] (by kernel_rfl) rfl rfl ⟨(blk_cell BK166.out 0).trans rfl,(blk_cell BK166.out 1).trans rfl,hx167_0⟩ (fun hHeld => ?_);refine with_tabW impl_balancesAt.tab9 impl_balancesAt.bits9 (fun HT_ HW_ => ?_)
       generalize w30.drew = w31 at HO_5 BK159 BK164 BK166 HB GG25 HQ33 hf25_0 hx167_0 hx25_0 hHeld ⊢;refine pu 0 32 ?_;refine pu 1 33 ?_;refine pu 5 37 ?_;refine tk 2 34 ?_;refine pu 3 35 ?_;refine tk 4 36 ?_;refine tk 6 38 ?_;refine pu 7 39 ?_;refine pu 8 40 ?_;refine last_ (i:=9) (N:=none) #[true,true,true,true,true,true,true,true,true,true] rfl rfl (one_of HT_.out (by kernel_rfl)) (by decide) (fun K hK => ?_);refine skip_ (w1:=?_) (by rfl) rfl ?_ ?_;rotate_left
       ·go_simp;rfl
       refine hK.out _ _ ?_;clear hK K;refine done_ (done_of HT_.out (by kernel_rfl)) ?_;try go_wp2
       go_roundg k2
       case measure => have:=HK1.out;have:=HK2.out;omega
       case rel => exact ⟨(y168),(wrap64 (x28_2 + 1)),ZZ0ab324,H,kle,⟨(by refine bR ?_;exact HQ33.out)⟩,⟨(by refine bd ?_;refine blk_far ?_ (by have h_:=Kd.R_ne HO_5.out BK159.out (by decide);intro e_;exact h_ (by rw [e_];rfl)) _;refine bd ?_;exact BK159.out)⟩,⟨(by refine bd ?_;refine blk_far ?_ (by have h_:=Kd.R_ne HO_5.out BK164.out (by decide);intro e_;exact h_ (by rw [e_];rfl)) _;refine bd ?_;exact BK164.out)⟩,⟨(by repeat (first | (with_reducible first | exact HB.out | apply below_alloc | apply pw_below_drewN | apply below_drew1 | refine below_set ?_ GB25.out | refine below_set ?_ GE159.out | refine below_set ?_ GE164.out | refine below_set ?_ GE166.out) | exact HB.out))⟩⟩
      rw [if_neg c20] at H;have c20b0:=decide_eq_false c20;clear c20;replace H:=ak H;go_wp2
      go_roundg k2
      case measure => have:=HK1.out;have:=HK2.out;omega
      case rel => exact ⟨(x5_2),(wrap64 (x17_1 + 1)),ZZ0ab324,H,kle,⟨(zR HO_5)⟩,⟨(zB BK159)⟩,⟨ZZ295621⟩⟩
   rw [if_neg c10] at H;have c10b0:=decide_eq_false c10;clear c10;obtain rfl:=Option.some.inj H;go_wp2;go_ret;exact ⟨_,ZZab01d2,(zR HO_5),ZZ295621⟩/-! ### impl_BalanceOf: function 20 -/
def impl_BalanceOf.f (k : Nat) (l0_0 : List (S48)) (l0_1 : List (S63)) (a1 : Int) (a2 : Int) : Option (Int × Bool):=(impl_isAccount.f k l0_0 l0_1 a1 (([a2] : List Int))).bind fun t173 => (if t173 = true then ((impl_balancesAt.f k l0_0 l0_1 a2).bind fun t174 => (if 0 ≤ a1 then (if a1 < (t174.length : Int) then (some (rd t174 a1,true)) else (none)) else (none))) else (some (0,false)))
theorem impl_BalanceOf.mono : ∀ a0 a1 a2 a3 k,LeO (impl_BalanceOf.f k a0 a1 a2 a3) (impl_BalanceOf.f (k + 1) a0 a1 a2 a3):=by
 intro a0 a1 a2 a3 k;unfold impl_BalanceOf.f;repeat' with_reducible first | apply impl_balancesAt.mono | apply impl_isAccount.mono | exact LeO.refl _ | exact LeO.none _ | refine LeO.ite ?_ ?_ | refine LeO.bind ?_ (fun _ => ?_)
set_option maxHeartbeats 8000000 in
set_option maxRecDepth 100000 in
theorem impl_BalanceOf.calls (k : Nat) (A0_0 : Option Addr) (c0_0 : Nat) (l0_0 : List (S48)) (A0_1 : Option Addr) (c0_1 : Nat) (l0_1 : List (S63)) (a1 : Int) (a2 : Int) (r1 : Int) (r2 : Bool) (w : World) (hr0_0 : Kd.C k48 w A0_0 l0_0.length l0_0) (hc0_0 : l0_0.length ≤ c0_0) (hr0_1 : Kd.C k63 w A0_1 l0_1.length l0_1) (hc0_1 : l0_1.length ≤ c0_1) (h : impl_BalanceOf.f k l0_0 l0_1 a1 a2 = some (r1,r2)) :
 Calls Tryd.prog 20 #[.agg #[.slice A0_0 l0_0.length c0_0,.slice A0_1 l0_1.length c0_1],.int .i64 a1,.int .i64 a2] w fun e w' => e = .returned (.tuple #[.int .i64 r1,.bool r2]) ∧ Below w.heap.size w w':=by
 have hu31:=Tryd.underlying31;have HR0_0:=ak hr0_0;have HC0_0:=ak hc0_0;clear hr0_0 hc0_0;have HR0_1:=ak hr0_1;have HC0_1:=ak hc0_1;clear hr0_1 hc0_1;have HB:=ak (Below.refl w.heap.size w);have H:=h;clear h;unfold impl_BalanceOf.f at H;try rw [Option.bind_some] at H
 generalize hy170 : (([a2] : List Int) : List Int) = y170 at H;have Ny170:=ak hy170.symm;clear hy170;obtain ⟨t173,A4,H⟩:=bdY H;by_cases c5 : t173 = true
 ·subst c5;replace H:=ifT H;obtain ⟨t174,A6,H⟩:=bdY H;obtain ⟨c7b0,H⟩:=ifYd H;obtain ⟨c8b0,H⟩:=ifYd H;simp only [Option.some.injEq,Prod.mk.injEq] at H;obtain ⟨rfl,rfl⟩:=H
  go_enter Tryd.func20,Tryd.ntmps20
  go_wp2_with (first | ((with_reducible refine gate_dst (N:=3) rfl ?_);refine bx 3 (cs:=#[.slice A0_0 l0_0.length c0_0,.slice A0_1 l0_1.length c0_1]) (t:=31) ?_;intro gb169 hg w9 hbox hb;have BK169:=ak (hbox);have GW169:=gw hg;have GE169:=gw hg;replace HB:=hB hb;clear hb hbox hg;obtain ⟨hcz10_0,hcz10_1,hfz10_0,hfz10_1⟩:=z2 BK169) | ((with_reducible refine gate_dst (N:=11) rfl ?_);refine Kd.R_lit (Kd.int .i64) _ 3 ?hg (N:=11) ?hd (xs:=([a2] : List Int)) (inner:=[.int .i64 a2]) (ok:=fun _ => True) (okp:=fun _ => True) ?hr ?hp (fun _ hk => hk) trivial (Below.refl _ _) (Nat.le_refl _) (by simp) ?_;(case hd => rfl);(case hg => rfl);(case hr => first | (go_simp;done) | (go_simp;rfl));(case hp => exact (Reps.one (show Kd.M (Kd.int .i64) _ _ _ a2 [.int .i64 a2] from rfl) (Reps.none _ _)));intro v171 w11 ho12 hb hg_ hnew_;clear hg_ hnew_;(first | rw [← Ny170.out] at ho12 | (simp only [Int.reduceToNat] at ho12;rw [← Ny170.out] at ho12));have HO172:=ak (Kd.R_lower ho12 (below_size ZZ295621));replace BK169:=kb BK169 hb;replace HB:=hB hb;clear hb ho12;obtain ⟨Ao13,co13,eo13⟩:=Kd.R_slice HO172.out;subst eo13) | (refine gc 12 Tryd.func68 #[.agg #[.slice A0_0 l0_0.length c0_0,.slice A0_1 l0_1.length c0_1],.int .i64 a1,.slice Ao13 y170.length co13] ?_;(with_reducible refine (impl_isAccount.calls k _ _ l0_0 _ _ l0_1 a1 _ _ y170 true _ ?side1 ?side2 ?side3 ?side4 ?side5 ?side6 A4.out).mono ?_);(case side1 => exact (rC (Kd.C_below HR0_0.out HB.out)));(case side2 => exact HC0_0.out);(case side3 => exact (rC (Kd.C_below HR0_1.out HB.out)));(case side4 => exact HC0_1.out);(case side5 => exact rC (Kd.R_reads' HO172.out).2.2);(case side6 => exact (Kd.R_reads' HO172.out).2.1);rintro e w14 ⟨rfl,hb⟩;refine ⟨_,rfl,?_⟩;replace HO172:=Kd.rb HO172 hb;replace BK169:=kb BK169 hb;replace HB:=hB hb;(try clear hb);(try clear hb2);(try clear hk);(try clear hi);obtain ⟨hcz15_0,hcz15_1,hfz15_0,hfz15_1⟩:=z2 BK169) | (refine gc 16 Tryd.func69 #[.agg #[.slice A0_0 l0_0.length c0_0,.slice A0_1 l0_1.length c0_1],.int .i64 a2] ?_;(with_reducible refine (impl_balancesAt.calls k _ _ l0_0 _ _ l0_1 a2 t174 _ ?side1 ?side2 ?side3 ?side4 A6.out).mono ?_);(case side1 => exact (rC (Kd.C_below HR0_0.out HB.out)));(case side2 => exact HC0_0.out);(case side3 => exact (rC (Kd.C_below HR0_1.out HB.out)));(case side4 => exact HC0_1.out);rintro e w16 ⟨v175,rfl,ho0,hb⟩;refine ⟨_,rfl,?_⟩;have HO176:=ak (Kd.R_lower (Kd.R_new' ho0 (Kd.R_lt (zR HO172))) (below_size ZZ295621));replace HO172:=ak (Kd.R_elder' (zR HO172) (Kd.R_base ho0) hb);replace BK169:=kb BK169 hb;replace HB:=hB hb;(try clear hb);(try clear hb2);(try clear hk);(try clear hi);(try clear ho0);obtain ⟨Ao17,co17,eo17⟩:=Kd.R_slice HO176.out;subst eo17;have p177 : 0 ≤ (a1 : Int):=of_decide_eq_true ZZ853400;have q177 : a1 < (t174.length : Int):=of_decide_eq_true ZZ853400;obtain ⟨ad177,e177,hx177_0⟩:=Kd.at_int (Kd.R_reads' HO176.out).2.2 a1 p177 q177;cases e177;replace p177:=eq_true p177;replace q177:=eq_true q177))
  go_ret2
  exact ⟨ZZab01d2,ZZ295621⟩
 replace c5:=Bool.eq_false_iff.mpr c5;subst c5;replace H:=ifF H;simp only [Option.some.injEq,Prod.mk.injEq] at H;obtain ⟨rfl,rfl⟩:=H
 go_enter Tryd.func20,Tryd.ntmps20
 go_wp2_with (first | ((with_reducible refine gate_dst (N:=3) rfl ?_);refine bx 3 (cs:=#[.slice A0_0 l0_0.length c0_0,.slice A0_1 l0_1.length c0_1]) (t:=31) ?_;intro gb169 hg w18 hbox hb;have BK169:=ak (hbox);have GW169:=gw hg;have GE169:=gw hg;replace HB:=hB hb;clear hb hbox hg;obtain ⟨hcz19_0,hcz19_1,hfz19_0,hfz19_1⟩:=z2 BK169) | ((with_reducible refine gate_dst (N:=11) rfl ?_);refine Kd.R_lit (Kd.int .i64) _ 3 ?hg (N:=11) ?hd (xs:=([a2] : List Int)) (inner:=[.int .i64 a2]) (ok:=fun _ => True) (okp:=fun _ => True) ?hr ?hp (fun _ hk => hk) trivial (Below.refl _ _) (Nat.le_refl _) (by simp) ?_;(case hd => rfl);(case hg => rfl);(case hr => first | (go_simp;done) | (go_simp;rfl));(case hp => exact (Reps.one (show Kd.M (Kd.int .i64) _ _ _ a2 [.int .i64 a2] from rfl) (Reps.none _ _)));intro v171 w20 ho21 hb hg_ hnew_;clear hg_ hnew_;(first | rw [← Ny170.out] at ho21 | (simp only [Int.reduceToNat] at ho21;rw [← Ny170.out] at ho21));have HO172:=ak (Kd.R_lower ho21 (below_size ZZ295621));replace BK169:=kb BK169 hb;replace HB:=hB hb;clear hb ho21;obtain ⟨Ao22,co22,eo22⟩:=Kd.R_slice HO172.out;subst eo22) | (refine gc 12 Tryd.func68 #[.agg #[.slice A0_0 l0_0.length c0_0,.slice A0_1 l0_1.length c0_1],.int .i64 a1,.slice Ao22 y170.length co22] ?_;(with_reducible refine (impl_isAccount.calls k _ _ l0_0 _ _ l0_1 a1 _ _ y170 false _ ?side1 ?side2 ?side3 ?side4 ?side5 ?side6 A4.out).mono ?_);(case side1 => exact (rC (Kd.C_below HR0_0.out HB.out)));(case side2 => exact HC0_0.out);(case side3 => exact (rC (Kd.C_below HR0_1.out HB.out)));(case side4 => exact HC0_1.out);(case side5 => exact rC (Kd.R_reads' HO172.out).2.2);(case side6 => exact (Kd.R_reads' HO172.out).2.1);rintro e w23 ⟨rfl,hb⟩;refine ⟨_,rfl,?_⟩;replace HO172:=Kd.rb HO172 hb;replace BK169:=kb BK169 hb;replace HB:=hB hb;(try clear hb);(try clear hb2);(try clear hk);(try clear hi)))
 go_ret2
 exact ⟨ZZab01d2,ZZ295621⟩
def laws_vBig.f (l0 : List Int) : Option (Bool):=some (decide ((l0.length : Int) > 65536))
set_option maxHeartbeats 8000000 in
set_option maxRecDepth 100000 in
theorem laws_vBig.calls (A0 : Option Addr) (c0 : Nat) (l0 : List Int) (r : Bool) (w : World) (hr0 : Kd.C (Kd.int .u8) w A0 l0.length l0) (hc0 : l0.length ≤ c0) (h : laws_vBig.f l0 = some r) :
 Calls Tryd.prog 23 #[.slice A0 l0.length c0] w fun e w' => e = .returned (.bool r) ∧ Drawn0 w w':=by
 have HR0:=ak hr0;have HC0:=ak hc0;clear hr0 hc0;have H:=h;clear h;unfold laws_vBig.f at H;obtain rfl:=Option.some.inj H
 go_enter Tryd.func23,Tryd.ntmps23
 go_wp2;go_ret;exact ⟨ZZ0ab324,ZZ965307⟩
end Go.Proofs.YtccdjchaaeligaaDoor.XFnLedger

import Derived.Test.YtccdjchaaeligaaDoorXFnClosing0
namespace Go.Proofs.YtccdjchaaeligaaDoor.XFnClosing
open Go.Proofs.YtccdjchaaeligaaDoor.Short Go.RowKit Go.Proofs.YtccdjchaaeligaaDoorW.PrintWords Go.Proofs.YtccdjchaaeligaaDoorW.PrintLast Go.Proofs.YtccdjchaaeligaaDoorW.PrintMore
attribute [local go_sem] max2_int min2_int max_two min_two max_three min_three max_four min_four
set_option linter.unusedVariables false
set_option linter.unusedSimpArgs false
theorem ZZ0ab324 {p : Prop} (h : p:=by first | rfl | (simp;done) | (simp [*];done)) : p:=h
theorem ZZ965307 {p : Prop} (h : p:=by repeat (first | exact Drawn0.refl _ | apply Drawn0.step)) : p:=h
theorem ZZab01d2 {p : Prop} (h : p:=by first | rfl | (simp [errW_none,errW_some] <;> rfl) | (simp [*,errW_none,errW_some] <;> rfl)) : p:=h
theorem ZZ605003 {p : Prop} (h : p:=by repeat (first | (with_reducible first | exact HB.out | apply below_alloc | apply pw_below_drewN | apply below_drew1) | exact HB.out)) : p:=h
theorem ZZ853400 {p : Prop} (h : p:=by first | (with_reducible assumption) | assumption) : p:=h
def impl_within.f (a0 : Int) (a1 : Int) (a2 : Int) : Option (Bool):=if a0 ≥ a1 then (some (decide (a0 ≤ a2))) else (some false)
set_option maxHeartbeats 8000000 in
set_option maxRecDepth 100000 in
theorem impl_within.calls (a0 : Int) (a1 : Int) (a2 : Int) (r : Bool) (w : World) (h : impl_within.f a0 a1 a2 = some r) :
 Calls Tryd.prog 56 #[.int .i64 a0,.int .i64 a1,.int .i64 a2] w fun e w' => e = .returned (.bool r) ∧ Drawn0 w w':=by
 have H:=h;clear h;unfold impl_within.f at H;by_cases c4 : a0 ≥ a1
 ·rw [if_pos c4] at H;have c4b0 : decide (a1 ≤ a0) = true:=decide_eq_true c4;clear c4;obtain rfl:=Option.some.inj H
  go_enter Tryd.func56,Tryd.ntmps56
  go_wp2;go_ret;exact ⟨ZZ0ab324,ZZ965307⟩
 rw [if_neg c4] at H;have c4b0 : decide (a1 ≤ a0) = false:=decide_eq_false c4;clear c4;obtain rfl:=Option.some.inj H
 go_enter Tryd.func56,Tryd.ntmps56
 go_wp2;go_ret;exact ⟨ZZ0ab324,ZZ965307⟩
def impl_isAccountName.f (a0 : ByteArray) : Option (Bool):=(impl_within.f (a0.size : Int) 1 8).bind fun t101 => (if t101 = true then ((strings_Trim.f a0 (⟨#[97,98,99,100,101,102,103,104,105,106,107,108,109,110,111,112,113,114,115,116,117,118,119,120,121,122]⟩ : ByteArray)).bind fun t102 => (some (t102.toList == ([] : List UInt8)))) else (some false))
set_option maxHeartbeats 8000000 in
set_option maxRecDepth 100000 in
theorem impl_isAccountName.calls (a0 : ByteArray) (r : Bool) (w : World) (h : impl_isAccountName.f a0 = some r) :
 Calls Tryd.prog 55 #[.string a0] w fun e w' => e = .returned (.bool r) ∧ Below w.heap.size w w':=by
 have HB:=Aside0.mk (Below.refl w.heap.size w);have H:=h;clear h;unfold impl_isAccountName.f at H;obtain ⟨t101,A2,H⟩:=bdY H;by_cases c3 : t101 = true
 ·subst c3;replace H:=ifT H;obtain ⟨t102,A4,H⟩:=bdY H;obtain rfl:=Option.some.inj H
  go_enter Tryd.func55,Tryd.ntmps55
  go_wp2_with (first | (refine gc 5 Tryd.func56 #[.int .i64 (a0.size : Int),.int .i64 1,.int .i64 8] ?_;(with_reducible refine (impl_within.calls (a0.size : Int) 1 8 true _ A2.out).mono ?_);rintro e w' ⟨rfl,⟨nd,rfl⟩⟩;refine ⟨_,rfl,?_⟩) | (go_at_call 104;(with_reducible refine (strings_Trim.calls a0 (⟨#[97,98,99,100,101,102,103,104,105,106,107,108,109,110,111,112,113,114,115,116,117,118,119,120,121,122]⟩ : ByteArray) t102 _ A4.out).mono ?_);rintro e w5 ⟨rfl,hb⟩;replace HB:=hB hb;(try clear hb);(try clear hb2);(try clear hk);(try clear hi)))
  go_ret;exact ⟨ZZab01d2,ZZ605003⟩
 replace c3:=Bool.eq_false_iff.mpr c3;subst c3;replace H:=ifF H;obtain rfl:=Option.some.inj H
 go_enter Tryd.func55,Tryd.ntmps55
 go_wp2_with (first | (refine gc 5 Tryd.func56 #[.int .i64 (a0.size : Int),.int .i64 1,.int .i64 8] ?_;(with_reducible refine (impl_within.calls (a0.size : Int) 1 8 false _ A2.out).mono ?_);rintro e w' ⟨rfl,⟨nd,rfl⟩⟩;refine ⟨_,rfl,?_⟩))
 go_ret;exact ⟨ZZab01d2,ZZ605003⟩
-- NOT PRINTED: function 105 (impl_Account_105)
-- NOT PRINTED: function 57 (impl_Account_57)
-- NOT PRINTED: function 58 (impl_IsValidLedger_1)
def impl_isDay.f (a0 : Int) : Option (Bool):=(impl_within.f a0 0 36524).bind fun t104 => (some t104)
set_option maxHeartbeats 8000000 in
set_option maxRecDepth 100000 in
theorem impl_isDay.calls (a0 : Int) (r : Bool) (w : World) (h : impl_isDay.f a0 = some r) :
 Calls Tryd.prog 59 #[.int .i64 a0] w fun e w' => e = .returned (.bool r) ∧ Drawn0 w w':=by
 have H:=h;clear h;unfold impl_isDay.f at H;obtain ⟨t104,A2,H⟩:=bdY H;obtain rfl:=Option.some.inj H
 go_enter Tryd.func59,Tryd.ntmps59
 go_wp2_with (first | (refine gc 4 Tryd.func56 #[.int .i64 a0,.int .i64 0,.int .i64 36524] ?_;(with_reducible refine (impl_within.calls a0 0 36524 t104 _ A2.out).mono ?_);rintro e w' ⟨rfl,⟨nd,rfl⟩⟩;refine ⟨_,rfl,?_⟩))
 go_ret;exact ⟨ZZ0ab324,ZZ965307⟩
def impl_isMemo.l0 : Nat → ByteArray → Int → Int → Option (Bool)
 | 0,_,_,_ => none
 | k + 1,x0,x5,x6 => if x6 < x5 then (if 0 ≤ x6 then (if x6 < (x0.size : Int) then (if (bt x0 x6) < 32 then (some false) else (if (bt x0 x6) > 126 then (some false) else (impl_isMemo.l0 k x0 x5 (wrap64 (x6 + 1))))) else (none)) else (none)) else (some (decide ((x0.size : Int) ≤ 30)))
def impl_isMemo.f (k : Nat) (a0 : ByteArray) : Option (Bool):=impl_isMemo.l0 k a0 (a0.size : Int) 0
theorem impl_isMemo.mono_l : ∀ k,(∀ y0 y1 y2,LeO (impl_isMemo.l0 k y0 y1 y2) (impl_isMemo.l0 (k + 1) y0 y1 y2))
 | 0 => fun _ _ _ r h => by simp [impl_isMemo.l0] at h
 | k + 1 => by
  have ih0:=impl_isMemo.mono_l k
  ·intro y0 y1 y2;unfold impl_isMemo.l0;repeat' with_reducible first | apply ih0 | exact LeO.refl _ | exact LeO.none _ | refine LeO.ite ?_ ?_ | refine LeO.bind ?_ (fun _ => ?_)
theorem impl_isMemo.mono : ∀ a0 k,LeO (impl_isMemo.f k a0) (impl_isMemo.f (k + 1) a0):=by
 intro a0 k;have ih0:=impl_isMemo.mono_l k;unfold impl_isMemo.f;repeat' with_reducible first | apply ih0 | exact LeO.refl _ | exact LeO.none _ | refine LeO.ite ?_ ?_ | refine LeO.bind ?_ (fun _ => ?_)
set_option maxHeartbeats 8000000 in
set_option maxRecDepth 100000 in
theorem impl_isMemo.calls (k : Nat) (a0 : ByteArray) (r : Bool) (w : World) (h : impl_isMemo.f k a0 = some r) :
 Calls Tryd.prog 60 #[.string a0] w fun e w' => e = .returned (.bool r) ∧ Drawn0 w w':=by
 have H:=h;clear h;unfold impl_isMemo.f at H;replace H:=Aside0.mk H
 go_enter Tryd.func60,Tryd.ntmps60
 go_wp2
 go_loopg [6] k (fun kq v6 w' => ∃ (x6_1 : Int),v6 = .int .i64 x6_1 ∧ Aside0 (impl_isMemo.l0 kq a0 (a0.size : Int) x6_1 = some r) ∧ Aside0 (kq ≤ k) ∧ Drawn0 w w')
 case atStart => exact ⟨(0),ZZ0ab324,H,⟨Nat.le_refl _⟩,ZZ965307⟩
 case round =>
  clear H;obtain ⟨x6_1,rfl,HA,HK1,⟨m1,rfl⟩⟩:=hrel
  cases gk with
  | zero => exact absurd HA.out (by simp [impl_isMemo.l0])
  | succ k1 =>
   have H:=HA.out;clear HA;simp only [impl_isMemo.l0] at H;by_cases c2 : x6_1 < (a0.size : Int)
   ·rw [if_pos c2] at H;have c2b0:=decide_eq_true c2;clear c2;obtain ⟨c3b0,H⟩:=ifYd H;obtain ⟨c4b0,H⟩:=ifYd H;by_cases c6 : (bt a0 x6_1) < 32
    ·rw [if_pos c6] at H;have c6b0:=decide_eq_true c6;clear c6;obtain rfl:=Option.some.inj H;have p5 : 0 ≤ (x6_1 : Int):=of_decide_eq_true ZZ853400;have q5 : x6_1 < (a0.size : Int):=of_decide_eq_true ZZ853400;have hx5:=bt_at a0 x6_1;replace p5:=eq_true p5;replace q5:=eq_true q5;go_wp2;go_ret;exact ⟨ZZ0ab324,ZZ965307⟩
    rw [if_neg c6] at H;have c6b0:=decide_eq_false c6;clear c6;by_cases c8 : (bt a0 x6_1) > 126
    ·rw [if_pos c8] at H;have c8b0 : decide (126 < (bt a0 x6_1)) = true:=decide_eq_true c8;clear c8;obtain rfl:=Option.some.inj H;have p5 : 0 ≤ (x6_1 : Int):=of_decide_eq_true ZZ853400;have q5 : x6_1 < (a0.size : Int):=of_decide_eq_true ZZ853400;have hx5:=bt_at a0 x6_1;replace p5:=eq_true p5;replace q5:=eq_true q5;have p7 : 0 ≤ (x6_1 : Int):=of_decide_eq_true ZZ853400;have q7 : x6_1 < (a0.size : Int):=of_decide_eq_true ZZ853400;have hx7:=bt_at a0 x6_1;replace p7:=eq_true p7;replace q7:=eq_true q7;go_wp2;go_ret;exact ⟨ZZ0ab324,ZZ965307⟩
    rw [if_neg c8] at H;have c8b0 : decide (126 < (bt a0 x6_1)) = false:=decide_eq_false c8;clear c8;replace H:=Aside0.mk H;have p5 : 0 ≤ (x6_1 : Int):=of_decide_eq_true ZZ853400;have q5 : x6_1 < (a0.size : Int):=of_decide_eq_true ZZ853400;have hx5:=bt_at a0 x6_1;replace p5:=eq_true p5;replace q5:=eq_true q5;have p7 : 0 ≤ (x6_1 : Int):=of_decide_eq_true ZZ853400;have q7 : x6_1 < (a0.size : Int):=of_decide_eq_true ZZ853400;have hx7:=bt_at a0 x6_1;replace p7:=eq_true p7;replace q7:=eq_true q7;go_wp2
    go_roundg k1
    case measure => have:=HK1.out;omega
    case rel => exact ⟨(wrap64 (x6_1 + 1)),ZZ0ab324,H,kle,ZZ965307⟩
   rw [if_neg c2] at H;have c2b0:=decide_eq_false c2;clear c2;obtain rfl:=Option.some.inj H;go_wp2;go_ret;exact ⟨ZZ0ab324,ZZ965307⟩
def impl_isAmount.f (a0 : Int) : Option (Bool):=(impl_within.f a0 (-1000000000) 1000000000).bind fun t105 => (some t105)
set_option maxHeartbeats 8000000 in
set_option maxRecDepth 100000 in
theorem impl_isAmount.calls (a0 : Int) (r : Bool) (w : World) (h : impl_isAmount.f a0 = some r) :
 Calls Tryd.prog 62 #[.int .i64 a0] w fun e w' => e = .returned (.bool r) ∧ Drawn0 w w':=by
 have H:=h;clear h;unfold impl_isAmount.f at H;obtain ⟨t105,A2,H⟩:=bdY H;obtain rfl:=Option.some.inj H
 go_enter Tryd.func62,Tryd.ntmps62
 go_wp2_with (first | (refine gc 4 Tryd.func56 #[.int .i64 a0,.int .i64 (-1000000000),.int .i64 1000000000] ?_;(with_reducible refine (impl_within.calls a0 (-1000000000) 1000000000 t105 _ A2.out).mono ?_);rintro e w' ⟨rfl,⟨nd,rfl⟩⟩;refine ⟨_,rfl,?_⟩))
 go_ret;exact ⟨ZZ0ab324,ZZ965307⟩
end Go.Proofs.YtccdjchaaeligaaDoor.XFnClosing

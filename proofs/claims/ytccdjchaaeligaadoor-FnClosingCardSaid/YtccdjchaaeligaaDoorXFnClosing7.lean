import Derived.Test.YtccdjchaaeligaaDoorXFnClosing1
import Derived.Test.YtccdjchaaeligaaDoorXFnClosing0
import Derived.Test.YtccdjchaaeligaaDoorXFnClosing6
namespace Go.Proofs.YtccdjchaaeligaaDoor.XFnClosing
open Go.Proofs.YtccdjchaaeligaaDoor.Short Go.RowKit Go.Proofs.YtccdjchaaeligaaDoorW.PrintWords Go.Proofs.YtccdjchaaeligaaDoorW.PrintLast Go.Proofs.YtccdjchaaeligaaDoorW.PrintMore
attribute [local go_sem] max2_int min2_int max_two min_two max_three min_three max_four min_four
set_option linter.unusedVariables false
set_option linter.unusedSimpArgs false
mutual
def spec_l26Accounts.l0 : Nat → List (S48) → Int → Option (Bool)
 | 0,_,_ => none
 | k + 1,x0,x3 => if x3 < (x0.length : Int) then (if 0 ≤ x3 then ((spec_l26Name.f k ((rd_T48 x0 x3).f0)).bind fun t183 => (if t183 = true then ((spec_l1In.f ((rd_T48 x0 x3).f1) 1 5).bind fun t185 => (spec_l26Accounts.j1 k x0 x3 (!t185))) else (spec_l26Accounts.j1 k x0 x3 true))) else (none)) else (some (decide ((x0.length : Int) ≤ 12)))
def spec_l26Accounts.j1 : Nat → List (S48) → Int → Bool → Option (Bool)
 | 0,_,_,_ => none
 | k + 1,x0,x3,x26 => if x26 = true then (some false) else (spec_l26Accounts.l1 k x0 x3 0)
def spec_l26Accounts.l1 : Nat → List (S48) → Int → Int → Option (Bool)
 | 0,_,_,_ => none
 | k + 1,x0,x3,x4 => if x4 < x3 then (if 0 ≤ x4 then (if x4 < (x0.length : Int) then (if 0 ≤ x3 then (if x3 < (x0.length : Int) then (if ((rd_T48 x0 x4).f0).toList = ((rd_T48 x0 x3).f0).toList then (some false) else (spec_l26Accounts.l1 k x0 x3 (wrap64 (x4 + 1)))) else (none)) else (none)) else (none)) else (none)) else (spec_l26Accounts.l0 k x0 (wrap64 (x3 + 1)))
end
def spec_l26Accounts.f (k : Nat) (l0 : List (S48)) : Option (Bool):=spec_l26Accounts.l0 k l0 0
theorem spec_l26Accounts.mono_l : ∀ k,(∀ y0 y1,LeO (spec_l26Accounts.l0 k y0 y1) (spec_l26Accounts.l0 (k + 1) y0 y1)) ∧ (∀ y0 y1 y2,LeO (spec_l26Accounts.j1 k y0 y1 y2) (spec_l26Accounts.j1 (k + 1) y0 y1 y2)) ∧ (∀ y0 y1 y2,LeO (spec_l26Accounts.l1 k y0 y1 y2) (spec_l26Accounts.l1 (k + 1) y0 y1 y2))
 | 0 => ⟨fun _ _ r h => by simp [spec_l26Accounts.l0] at h,fun _ _ _ r h => by simp [spec_l26Accounts.j1] at h,fun _ _ _ r h => by simp [spec_l26Accounts.l1] at h⟩
 | k + 1 => by
  obtain ⟨ih0,ih1,ih2⟩:=spec_l26Accounts.mono_l k;refine ⟨?_,?_,?_⟩;all_goals intros
  all_goals (first | unfold spec_l26Accounts.l0 | unfold spec_l26Accounts.j1 | unfold spec_l26Accounts.l1)
  all_goals
   repeat' with_reducible first | apply ih0 | apply ih1 | apply ih2 | apply spec_l26Name.mono | exact LeO.refl _ | exact LeO.none _ | refine LeO.ite ?_ ?_ | refine LeO.bind ?_ (fun _ => ?_)
theorem spec_l26Accounts.mono : ∀ a0 k,LeO (spec_l26Accounts.f k a0) (spec_l26Accounts.f (k + 1) a0):=by
 intro a0 k;obtain ⟨ih0,ih1,ih2⟩:=spec_l26Accounts.mono_l k;unfold spec_l26Accounts.f;repeat' with_reducible first | apply ih0 | apply ih1 | apply ih2 | apply spec_l26Name.mono | exact LeO.refl _ | exact LeO.none _ | refine LeO.ite ?_ ?_ | refine LeO.bind ?_ (fun _ => ?_)
set_option maxHeartbeats 8000000 in
set_option maxRecDepth 100000 in
theorem spec_l26Accounts.calls (k : Nat) (A0 : Option Addr) (c0 : Nat) (l0 : List (S48)) (r : Bool) (w : World) (hr0 : Kd.C k48 w A0 l0.length l0) (hc0 : l0.length ≤ c0) (h : spec_l26Accounts.f k l0 = some r) :
 Calls Tryd.prog 101 #[.slice A0 l0.length c0] w fun e w' => e = .returned (.bool r) ∧ Drawn0 w w':=by
 have HR0:=Aside0.mk hr0;have HC0:=Aside0.mk hc0;clear hr0 hc0;have H:=h;clear h;unfold spec_l26Accounts.f at H;replace H:=Aside0.mk H
 go_enter Tryd.func101,Tryd.ntmps101
 go_wp2;repeat (go_quiet (fail);try go_wp2)
 go_loopg [3] k (fun kq v3 w' => ∃ (x3_1 : Int),v3 = .int .i64 x3_1 ∧ Aside0 (spec_l26Accounts.l0 kq l0 x3_1 = some r) ∧ Aside0 (kq ≤ k) ∧ Drawn0 w w')
 case atStart => exact ⟨(0),ZZ0ab324,H,⟨Nat.le_refl _⟩,ZZ965307⟩
 case round =>
  clear H;obtain ⟨x3_1,rfl,HA,HK1,⟨m1,rfl⟩⟩:=hrel
  cases gk with
  | zero => exact absurd HA.out (by simp [spec_l26Accounts.l0])
  | succ k1 =>
   have H:=HA.out;clear HA;simp only [spec_l26Accounts.l0] at H;by_cases c2 : x3_1 < (l0.length : Int)
   ·rw [if_pos c2] at H;have c2b0:=decide_eq_true c2;clear c2;have HC3:=Aside0.mk H;clear H;go_upto_region 4 with (fail)
    repeat (go_quiet (fail);go_upto_region 4 with (fail))
    go_cut [26] (fun v26 wc => ∃ (kq : Nat) (x26_2 : Bool),v26 = .bool x26_2 ∧ Aside0 (spec_l26Accounts.j1 kq l0 x3_1 x26_2 = some r) ∧ Aside0 (kq ≤ k1) ∧ Drawn0 w wc)
    case first =>
     have H:=HC3.out;clear HC3;obtain ⟨c4b0,H⟩:=ifYd H;(first | rw [c4b0] | (simp only [i64_w,i32_w];rw [c4b0]) | skip);obtain ⟨t183,A5,H⟩:=bdY H;by_cases c6 : t183 = true
     ·subst c6;replace H:=ifT H;obtain ⟨t185,A7,H⟩:=bdY H;replace H:=Aside0.mk H;have p182 : 0 ≤ (x3_1 : Int):=of_decide_eq_true ZZ853400;have q182 : x3_1 < (l0.length : Int):=of_decide_eq_true ZZ853400;obtain ⟨ad182,e182,hx182_0,hx182_1⟩:=at_T48 HR0.out x3_1 p182 q182
      cases e182
      replace p182:=eq_true p182;replace q182:=eq_true q182;go_wp2_with (first | (go_at_call 126;(with_reducible refine (spec_l26Name.calls k1 ((rd_T48 l0 x3_1).f0) true _ A5.out).mono ?_);rintro e w' ⟨rfl,⟨nd,rfl⟩⟩;(try first | exact ⟨rfl,_,World.drewN_drewN _ _ _⟩ | exact ⟨rfl,_,Eq.trans (World.drewN_drewN _ _ _) (congrArg (World.drewN _) (Nat.add_assoc _ _ _))⟩);have p184 : 0 ≤ (x3_1 : Int):=of_decide_eq_true ZZ853400;have q184 : x3_1 < (l0.length : Int):=of_decide_eq_true ZZ853400;obtain ⟨ad184,e184,hx184_0,hx184_1⟩:=at_T48 HR0.out x3_1 p184 q184;obtain rfl : ad182 = ad184:=(by injection e184);replace p184:=eq_true p184;replace q184:=eq_true q184) | (go_at_call 65;(with_reducible refine (spec_l1In.calls ((rd_T48 l0 x3_1).f1) 1 5 t185 _ A7.out).mono ?_);rintro e w' ⟨rfl,⟨nd,rfl⟩⟩;(try first | exact ⟨rfl,_,World.drewN_drewN _ _ _⟩ | exact ⟨rfl,_,Eq.trans (World.drewN_drewN _ _ _) (congrArg (World.drewN _) (Nat.add_assoc _ _ _))⟩)))
      repeat (go_quiet (first | (go_at_call 126;(with_reducible refine (spec_l26Name.calls k1 ((rd_T48 l0 x3_1).f0) true _ A5.out).mono ?_);rintro e w' ⟨rfl,⟨nd,rfl⟩⟩;(try first | exact ⟨rfl,_,World.drewN_drewN _ _ _⟩ | exact ⟨rfl,_,Eq.trans (World.drewN_drewN _ _ _) (congrArg (World.drewN _) (Nat.add_assoc _ _ _))⟩);have p184 : 0 ≤ (x3_1 : Int):=of_decide_eq_true ZZ853400;have q184 : x3_1 < (l0.length : Int):=of_decide_eq_true ZZ853400;obtain ⟨ad184,e184,hx184_0,hx184_1⟩:=at_T48 HR0.out x3_1 p184 q184;obtain rfl : ad182 = ad184:=(by injection e184);replace p184:=eq_true p184;replace q184:=eq_true q184) | (go_at_call 65;(with_reducible refine (spec_l1In.calls ((rd_T48 l0 x3_1).f1) 1 5 t185 _ A7.out).mono ?_);rintro e w' ⟨rfl,⟨nd,rfl⟩⟩;(try first | exact ⟨rfl,_,World.drewN_drewN _ _ _⟩ | exact ⟨rfl,_,Eq.trans (World.drewN_drewN _ _ _) (congrArg (World.drewN _) (Nat.add_assoc _ _ _))⟩)));try go_wp2_with (first | (go_at_call 126;(with_reducible refine (spec_l26Name.calls k1 ((rd_T48 l0 x3_1).f0) true _ A5.out).mono ?_);rintro e w' ⟨rfl,⟨nd,rfl⟩⟩;(try first | exact ⟨rfl,_,World.drewN_drewN _ _ _⟩ | exact ⟨rfl,_,Eq.trans (World.drewN_drewN _ _ _) (congrArg (World.drewN _) (Nat.add_assoc _ _ _))⟩);have p184 : 0 ≤ (x3_1 : Int):=of_decide_eq_true ZZ853400;have q184 : x3_1 < (l0.length : Int):=of_decide_eq_true ZZ853400;obtain ⟨ad184,e184,hx184_0,hx184_1⟩:=at_T48 HR0.out x3_1 p184 q184;obtain rfl : ad182 = ad184:=(by injection e184);replace p184:=eq_true p184;replace q184:=eq_true q184) | (go_at_call 65;(with_reducible refine (spec_l1In.calls ((rd_T48 l0 x3_1).f1) 1 5 t185 _ A7.out).mono ?_);rintro e w' ⟨rfl,⟨nd,rfl⟩⟩;(try first | exact ⟨rfl,_,World.drewN_drewN _ _ _⟩ | exact ⟨rfl,_,Eq.trans (World.drewN_drewN _ _ _) (congrArg (World.drewN _) (Nat.add_assoc _ _ _))⟩))))
      go_meet
      case rel => exact ⟨_,(!t185),ZZ0ab324,H,kle,ZZ965307⟩
     replace c6:=Bool.eq_false_iff.mpr c6;subst c6;replace H:=ifF H;replace H:=Aside0.mk H;have p182 : 0 ≤ (x3_1 : Int):=of_decide_eq_true ZZ853400;have q182 : x3_1 < (l0.length : Int):=of_decide_eq_true ZZ853400;obtain ⟨ad182,e182,hx182_0,hx182_1⟩:=at_T48 HR0.out x3_1 p182 q182
     cases e182
     replace p182:=eq_true p182;replace q182:=eq_true q182;go_wp2_with (first | (go_at_call 126;(with_reducible refine (spec_l26Name.calls k1 ((rd_T48 l0 x3_1).f0) false _ A5.out).mono ?_);rintro e w' ⟨rfl,⟨nd,rfl⟩⟩;(try first | exact ⟨rfl,_,World.drewN_drewN _ _ _⟩ | exact ⟨rfl,_,Eq.trans (World.drewN_drewN _ _ _) (congrArg (World.drewN _) (Nat.add_assoc _ _ _))⟩)))
     repeat (go_quiet (first | (go_at_call 126;(with_reducible refine (spec_l26Name.calls k1 ((rd_T48 l0 x3_1).f0) false _ A5.out).mono ?_);rintro e w' ⟨rfl,⟨nd,rfl⟩⟩;(try first | exact ⟨rfl,_,World.drewN_drewN _ _ _⟩ | exact ⟨rfl,_,Eq.trans (World.drewN_drewN _ _ _) (congrArg (World.drewN _) (Nat.add_assoc _ _ _))⟩)));try go_wp2_with (first | (go_at_call 126;(with_reducible refine (spec_l26Name.calls k1 ((rd_T48 l0 x3_1).f0) false _ A5.out).mono ?_);rintro e w' ⟨rfl,⟨nd,rfl⟩⟩;(try first | exact ⟨rfl,_,World.drewN_drewN _ _ _⟩ | exact ⟨rfl,_,Eq.trans (World.drewN_drewN _ _ _) (congrArg (World.drewN _) (Nat.add_assoc _ _ _))⟩))))
     go_meet
     case rel => exact ⟨_,(true),ZZ0ab324,H,kle,ZZ965307⟩
    case rest =>
     clear HC3;try clear c2b0
     try clear c4b0
     try clear c6
     try clear hx182_0
     try clear hx182_1
     try clear hx184_0
     try clear hx184_1
     try clear p182
     try clear p184
     try clear q182
     try clear q184
     obtain ⟨kq,x26_2,rfl,HA,HJ2,⟨mc2,rfl⟩⟩:=hcut
     cases kq with
     | zero => exact absurd HA.out (by simp [spec_l26Accounts.j1])
     | succ kj2 =>
      have H:=HA.out;clear HA;simp only [spec_l26Accounts.j1] at H;by_cases c8 : x26_2 = true
      ·subst c8;replace H:=ifT H;obtain rfl:=Option.some.inj H;go_wp2;repeat (go_quiet (fail);try go_wp2)
       go_ret;exact ⟨ZZ0ab324,ZZ965307⟩
      replace c8:=Bool.eq_false_iff.mpr c8;subst c8;replace H:=ifF H;replace H:=Aside0.mk H;go_wp2;repeat (go_quiet (fail);try go_wp2)
      go_loopg [4] kj2 (fun kq v4 w' => ∃ (x4_3 : Int),v4 = .int .i64 x4_3 ∧ Aside0 (spec_l26Accounts.l1 kq l0 x3_1 x4_3 = some r) ∧ Aside0 (kq ≤ kj2) ∧ Drawn0 w w')
      case atStart => exact ⟨(0),ZZ0ab324,H,⟨Nat.le_refl _⟩,ZZ965307⟩
      case round =>
       clear H;try clear c8
       obtain ⟨x4_3,rfl,HA,HK3,⟨m3,rfl⟩⟩:=hrel
       cases gk with
       | zero => exact absurd HA.out (by simp [spec_l26Accounts.l1])
       | succ k3 =>
        have H:=HA.out;clear HA;simp only [spec_l26Accounts.l1] at H;by_cases c9 : x4_3 < x3_1
        ·rw [if_pos c9] at H;have c9b0:=decide_eq_true c9;clear c9;obtain ⟨c10b0,H⟩:=ifYd H;obtain ⟨c11b0,H⟩:=ifYd H;obtain ⟨c12b0,H⟩:=ifYd H;obtain ⟨c13b0,H⟩:=ifYd H;by_cases c14 : ((rd_T48 l0 x4_3).f0).toList = ((rd_T48 l0 x3_1).f0).toList
         ·rw [if_pos c14] at H;have c14b0:=beq_iff_eq.mpr c14;have c14b1:=bne_eq_false_iff_eq.mpr c14;clear c14;obtain rfl:=Option.some.inj H;have p186 : 0 ≤ (x4_3 : Int):=of_decide_eq_true ZZ853400;have q186 : x4_3 < (l0.length : Int):=of_decide_eq_true ZZ853400;obtain ⟨ad186,e186,hx186_0,hx186_1⟩:=at_T48 HR0.out x4_3 p186 q186
          cases e186
          replace p186:=eq_true p186;replace q186:=eq_true q186;have p187 : 0 ≤ (x3_1 : Int):=of_decide_eq_true ZZ853400;have q187 : x3_1 < (l0.length : Int):=of_decide_eq_true ZZ853400;obtain ⟨ad187,e187,hx187_0,hx187_1⟩:=at_T48 HR0.out x3_1 p187 q187;obtain rfl : ad186 = ad187:=(by injection e187);replace p187:=eq_true p187;replace q187:=eq_true q187;go_wp2;repeat (go_quiet (fail);try go_wp2)
          go_ret;exact ⟨ZZ0ab324,ZZ965307⟩
         rw [if_neg c14] at H;have c14b0:=beq_eq_false_iff_ne.mpr c14;have c14b1:=bne_iff_ne.mpr c14;replace H:=Aside0.mk H;have p186 : 0 ≤ (x4_3 : Int):=of_decide_eq_true ZZ853400;have q186 : x4_3 < (l0.length : Int):=of_decide_eq_true ZZ853400;obtain ⟨ad186,e186,hx186_0,hx186_1⟩:=at_T48 HR0.out x4_3 p186 q186
         cases e186
         replace p186:=eq_true p186;replace q186:=eq_true q186;have p187 : 0 ≤ (x3_1 : Int):=of_decide_eq_true ZZ853400;have q187 : x3_1 < (l0.length : Int):=of_decide_eq_true ZZ853400;obtain ⟨ad187,e187,hx187_0,hx187_1⟩:=at_T48 HR0.out x3_1 p187 q187;obtain rfl : ad186 = ad187:=(by injection e187);replace p187:=eq_true p187;replace q187:=eq_true q187;go_wp2;repeat (go_quiet (fail);try go_wp2)
         go_roundg k3
         case measure => have:=HK1.out;have:=HJ2.out;have:=HK3.out;omega
         case rel => exact ⟨(wrap64 (x4_3 + 1)),ZZ0ab324,H,kle,ZZ965307⟩
        rw [if_neg c9] at H;have c9b0:=decide_eq_false c9;clear c9;replace H:=Aside0.mk H;go_wp2;repeat (go_quiet (fail);try go_wp2)
        go_roundg k3
        case measure => have:=HK1.out;have:=HJ2.out;have:=HK3.out;omega
        case rel => exact ⟨(wrap64 (x3_1 + 1)),ZZ0ab324,H,kle,ZZ965307⟩
   rw [if_neg c2] at H;have c2b0:=decide_eq_false c2;clear c2;obtain rfl:=Option.some.inj H;go_wp2;repeat (go_quiet (fail);try go_wp2)
   go_ret;exact ⟨ZZ0ab324,ZZ965307⟩
def spec_l3Good.f (a0 : Int) : Option (Bool):=(spec_l1In.f a0 0 36524).bind fun t188 => (some t188)
set_option maxHeartbeats 8000000 in
set_option maxRecDepth 100000 in
theorem spec_l3Good.calls (a0 : Int) (r : Bool) (w : World) (h : spec_l3Good.f a0 = some r) :
 Calls Tryd.prog 66 #[.int .i64 a0] w fun e w' => e = .returned (.bool r) ∧ Drawn0 w w':=by
 have H:=h;clear h;unfold spec_l3Good.f at H;obtain ⟨t188,A2,H⟩:=bdY H;obtain rfl:=Option.some.inj H
 go_enter Tryd.func66,Tryd.ntmps66
 go_wp2_with (first | (refine gc 4 Tryd.func65 #[.int .i64 a0,.int .i64 0,.int .i64 36524] ?_;(with_reducible refine (spec_l1In.calls a0 0 36524 t188 _ A2.out).mono ?_);rintro e w' ⟨rfl,⟨nd,rfl⟩⟩;refine ⟨_,rfl,?_⟩))
 go_ret;exact ⟨ZZ0ab324,ZZ965307⟩
end Go.Proofs.YtccdjchaaeligaaDoor.XFnClosing

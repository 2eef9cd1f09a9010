import Derived.Test.YtccdjchaaeligaaDoorXFnLedger2
import Derived.Test.YtccdjchaaeligaaDoorXFnLedger0
import Derived.Test.YtccdjchaaeligaaDoorXFnLedger4
import Derived.Test.YtccdjchaaeligaaDoorXFnLedger5
namespace Go.Proofs.YtccdjchaaeligaaDoor.XFnLedger
open Go.Proofs.YtccdjchaaeligaaDoor.Short Go.RowKit Go.Proofs.YtccdjchaaeligaaDoorW.PrintWords Go.Proofs.YtccdjchaaeligaaDoorW.PrintLast Go.Proofs.YtccdjchaaeligaaDoorW.PrintMore
attribute [local go_sem] max2_int min2_int max_two min_two max_three min_three max_four min_four
set_option linter.unusedVariables false
set_option linter.unusedSimpArgs false
theorem ZZf4214b {p : Prop} (h : p:=by first | exact Kd.R_nil _ _ _ _ _ | exact Kd.N_nil _ _ _ _ _ | exact Kd.V_nil _ _ _ _ _ | exact Kd.Q_nil _ _ _ _ _ | exact Kd.S_nil _ _ _ _ _) : p:=h
mutual
def impl_TrialBalance.j0 : Nat → Int → Bool → List (S48) → List (S63) → Option (List Int × Int × Bool)
 | 0,_,_,_,_ => none
 | k + 1,x1,x18,x179000,x179001 => if x18 = true then (some (([] : List Int),0,false)) else ((impl_balancesAt.f k x179000 x179001 x1).bind fun t181 => (impl_TrialBalance.l0 k t181 0 t181 (t181.length : Int) 0))
def impl_TrialBalance.l0 : Nat → List Int → Int → List Int → Int → Int → Option (List Int × Int × Bool)
 | 0,_,_,_,_,_ => none
 | k + 1,x7,x8,x22,x23,x24 => if x24 < x23 then (if 0 ≤ x24 then (if x24 < (x22.length : Int) then (impl_TrialBalance.l0 k x7 (wrap64 (x8 + (mx 0 (rd x22 x24)))) x22 x23 (wrap64 (x24 + 1))) else (none)) else (none)) else (some (x7,x8,true))
end
def impl_TrialBalance.f (k : Nat) (l0_0 : List (S48)) (l0_1 : List (S63)) (a1 : Int) : Option (List Int × Int × Bool):=(impl_IsValidLedger.f k l0_0 l0_1).bind fun t179 => (if t179 = true then ((impl_isDay.f a1).bind fun t180 => (impl_TrialBalance.j0 k a1 (!t180) l0_0 l0_1)) else (impl_TrialBalance.j0 k a1 true l0_0 l0_1))
theorem impl_TrialBalance.mono_l : ∀ k,(∀ y0 y1 y2 y3,LeO (impl_TrialBalance.j0 k y0 y1 y2 y3) (impl_TrialBalance.j0 (k + 1) y0 y1 y2 y3)) ∧ (∀ y0 y1 y2 y3 y4,LeO (impl_TrialBalance.l0 k y0 y1 y2 y3 y4) (impl_TrialBalance.l0 (k + 1) y0 y1 y2 y3 y4))
 | 0 => ⟨fun _ _ _ _ r h => by simp [impl_TrialBalance.j0] at h,fun _ _ _ _ _ r h => by simp [impl_TrialBalance.l0] at h⟩
 | k + 1 => by
  obtain ⟨ih0,ih1⟩:=impl_TrialBalance.mono_l k;refine ⟨?_,?_⟩;all_goals intros
  all_goals (first | unfold impl_TrialBalance.j0 | unfold impl_TrialBalance.l0)
  all_goals
   repeat' with_reducible first | apply ih0 | apply ih1 | apply impl_IsValidLedger.mono | apply impl_balancesAt.mono | exact LeO.refl _ | exact LeO.none _ | refine LeO.ite ?_ ?_ | refine LeO.bind ?_ (fun _ => ?_)
theorem impl_TrialBalance.mono : ∀ a0 a1 a2 k,LeO (impl_TrialBalance.f k a0 a1 a2) (impl_TrialBalance.f (k + 1) a0 a1 a2):=by
 intro a0 a1 a2 k;obtain ⟨ih0,ih1⟩:=impl_TrialBalance.mono_l k;unfold impl_TrialBalance.f;repeat' with_reducible first | apply ih0 | apply ih1 | apply impl_IsValidLedger.mono | apply impl_balancesAt.mono | exact LeO.refl _ | exact LeO.none _ | refine LeO.ite ?_ ?_ | refine LeO.bind ?_ (fun _ => ?_)
set_option maxHeartbeats 8000000 in
set_option maxRecDepth 100000 in
theorem impl_TrialBalance.calls (k : Nat) (A0_0 : Option Addr) (c0_0 : Nat) (l0_0 : List (S48)) (A0_1 : Option Addr) (c0_1 : Nat) (l0_1 : List (S63)) (a1 : Int) (r1 : List Int) (r2 : Int) (r3 : Bool) (w : World) (hr0_0 : Kd.C k48 w A0_0 l0_0.length l0_0) (hc0_0 : l0_0.length ≤ c0_0) (hr0_1 : Kd.C k63 w A0_1 l0_1.length l0_1) (hc0_1 : l0_1.length ≤ c0_1) (h : impl_TrialBalance.f k l0_0 l0_1 a1 = some (r1,r2,r3)) :
 Calls Tryd.prog 27 #[.agg #[.slice A0_0 l0_0.length c0_0,.slice A0_1 l0_1.length c0_1],.int .i64 a1] w fun e w' => ∃ v0_ : Value,e = .returned (.tuple #[v0_,.int .i64 r2,.bool r3]) ∧ Kd.R (Kd.int .i64) 3 w' w.heap.size (fun _ => True) v0_ r1 ∧ Below w.heap.size w w':=by
 have hu31:=Tryd.underlying31;have HR0_0:=ak hr0_0;have HC0_0:=ak hc0_0;clear hr0_0 hc0_0;have HR0_1:=ak hr0_1;have HC0_1:=ak hc0_1;clear hr0_1 hc0_1;have HB:=ak (Below.refl w.heap.size w);have H:=h;clear h;unfold impl_TrialBalance.f at H;have HC3:=ak H;clear H
 go_enter Tryd.func27,Tryd.ntmps27
 go_upto_region 1 with (first | ((with_reducible refine gate_dst (N:=2) rfl ?_);refine bx 2 (cs:=#[.slice A0_0 l0_0.length c0_0,.slice A0_1 l0_1.length c0_1]) (t:=31) ?_;intro gb178 hg w4 hbox hb;have BK178:=ak (hbox);have GW178:=gw hg;have GE178:=gw hg;replace HB:=hB hb;clear hb hbox hg))
 (try simp only [Act.put,List.setIfInBounds_toArray,List.set_cons_zero,List.set_cons_succ])
 go_cut [18] (fun v18 wc => ∃ (kq : Nat) (x18_2 : Bool),v18 = .bool x18_2 ∧ Aside0 (impl_TrialBalance.j0 kq a1 x18_2 l0_0 l0_1 = some (r1,r2,r3)) ∧ Aside0 (kq ≤ k) ∧ Aside0 (wc.heap[gb178]? = some (.cells #[(.slice A0_0 l0_0.length c0_0),(.slice A0_1 l0_1.length c0_1)] 31 (0,0))) ∧ Aside0 (Below w.heap.size w wc))
 case first =>
  have H:=HC3.out;clear HC3;obtain ⟨t179,A5,H⟩:=bdY H;by_cases c6 : t179 = true
  ·subst c6;replace H:=ifT H;obtain ⟨t180,A7,H⟩:=bdY H;replace H:=ak H;obtain ⟨hcz8_0,hcz8_1,hfz8_0,hfz8_1⟩:=z2 BK178;go_wp2_with (first | (refine gc 12 Tryd.func17 #[.agg #[.slice A0_0 l0_0.length c0_0,.slice A0_1 l0_1.length c0_1]] ?_;(with_reducible refine (impl_IsValidLedger.calls k _ _ l0_0 _ _ l0_1 true _ ?side1 ?side2 ?side3 ?side4 A5.out).mono ?_);(case side1 => exact (rC (Kd.C_below HR0_0.out HB.out)));(case side2 => exact HC0_0.out);(case side3 => exact (rC (Kd.C_below HR0_1.out HB.out)));(case side4 => exact HC0_1.out);rintro e w9 ⟨rfl,hb⟩;refine ⟨_,rfl,?_⟩;replace BK178:=kb BK178 hb;replace HB:=hB hb;(try clear hb);(try clear hb2);(try clear hk);(try clear hi)) | (go_at_call 59;(with_reducible refine (impl_isDay.calls a1 t180 _ A7.out).mono ?_);rintro e w' ⟨rfl,⟨nd,rfl⟩⟩))
   go_meet
   case rel => exact ⟨_,(!t180),ZZ0ab324,H,kle,⟨(zB BK178)⟩,⟨ZZ295621⟩⟩
  replace c6:=Bool.eq_false_iff.mpr c6;subst c6;replace H:=ifF H;replace H:=ak H;obtain ⟨hcz10_0,hcz10_1,hfz10_0,hfz10_1⟩:=z2 BK178;go_wp2_with (first | (refine gc 12 Tryd.func17 #[.agg #[.slice A0_0 l0_0.length c0_0,.slice A0_1 l0_1.length c0_1]] ?_;(with_reducible refine (impl_IsValidLedger.calls k _ _ l0_0 _ _ l0_1 false _ ?side1 ?side2 ?side3 ?side4 A5.out).mono ?_);(case side1 => exact (rC (Kd.C_below HR0_0.out HB.out)));(case side2 => exact HC0_0.out);(case side3 => exact (rC (Kd.C_below HR0_1.out HB.out)));(case side4 => exact HC0_1.out);rintro e w11 ⟨rfl,hb⟩;refine ⟨_,rfl,?_⟩;replace BK178:=kb BK178 hb;replace HB:=hB hb;(try clear hb);(try clear hb2);(try clear hk);(try clear hi)))
  go_meet
  case rel => exact ⟨_,(true),ZZ0ab324,H,kle,⟨(zB BK178)⟩,⟨ZZ295621⟩⟩
 case rest =>
  clear HC3;try clear c6
  try clear hcz10_0
  try clear hcz10_1
  try clear hcz8_0
  try clear hcz8_1
  try clear hfz10_0
  try clear hfz10_1
  try clear hfz8_0
  try clear hfz8_1
  obtain ⟨kq,x18_2,rfl,HA,HJ2,BK178,HB⟩:=hcut
  cases kq with
  | zero => exact absurd HA.out (by simp [impl_TrialBalance.j0])
  | succ kj2 =>
   have H:=HA.out;clear HA;simp only [impl_TrialBalance.j0] at H;by_cases c12 : x18_2 = true
   ·subst c12;replace H:=ifT H;simp only [Option.some.injEq,Prod.mk.injEq] at H;obtain ⟨rfl,rfl,rfl⟩:=H;go_wp2
    go_ret3
    exact ⟨_,ZZab01d2,ZZf4214b,ZZ295621⟩
   replace c12:=Bool.eq_false_iff.mpr c12;subst c12;replace H:=ifF H;obtain ⟨t181,A13,H⟩:=bdY H;replace H:=ak H;obtain ⟨hcz14_0,hcz14_1,hfz14_0,hfz14_1⟩:=z2 BK178;go_wp2_with (first | (refine gc 21 Tryd.func69 #[.agg #[.slice A0_0 l0_0.length c0_0,.slice A0_1 l0_1.length c0_1],.int .i64 a1] ?_;(with_reducible refine (impl_balancesAt.calls kj2 _ _ l0_0 _ _ l0_1 a1 t181 _ ?side1 ?side2 ?side3 ?side4 A13.out).mono ?_);(case side1 => exact (rC (Kd.C_below HR0_0.out HB.out)));(case side2 => exact HC0_0.out);(case side3 => exact (rC (Kd.C_below HR0_1.out HB.out)));(case side4 => exact HC0_1.out);rintro e w15 ⟨v182,rfl,ho0,hb⟩;refine ⟨_,rfl,?_⟩;have HO183:=ak (Kd.R_lower ho0 (below_size ZZ295621));replace BK178:=kb BK178 hb;replace HB:=hB hb;(try clear hb);(try clear hb2);(try clear hk);(try clear hi);(try clear ho0);obtain ⟨Ao16,co16,eo16⟩:=Kd.R_slice HO183.out;subst eo16))
   go_loopg [8,24] kj2 (fun kq v8 v24 w' => ∃ (x8_2 : Int) (x24_2 : Int),v8 = .int .i64 x8_2 ∧ v24 = .int .i64 x24_2 ∧ Aside0 (impl_TrialBalance.l0 kq t181 x8_2 t181 (t181.length : Int) x24_2 = some (r1,r2,r3)) ∧ Aside0 (kq ≤ kj2) ∧ Aside0 (Kd.R (Kd.int .i64) 3 w' w.heap.size (fun _ => True) (.slice Ao16 t181.length co16) t181) ∧ Aside0 (Kd.R (Kd.int .i64) 3 w' w.heap.size (fun _ => True) (.slice Ao16 t181.length co16) t181) ∧ Aside0 (w'.heap[gb178]? = some (.cells #[(.slice A0_0 l0_0.length c0_0),(.slice A0_1 l0_1.length c0_1)] 31 (0,0))) ∧ Aside0 (Below w.heap.size w w'))
   case atStart => exact ⟨(0),(0),ZZ0ab324,ZZ0ab324,H,⟨Nat.le_refl _⟩,⟨(zR HO183)⟩,⟨(zR HO183)⟩,⟨(zB BK178)⟩,⟨ZZ295621⟩⟩
   case round =>
    clear H;try clear c12
    try clear hcz14_0
    try clear hcz14_1
    try clear hfz14_0
    try clear hfz14_1
    obtain ⟨x8_2,x24_2,rfl,rfl,HA,HK2,HO_7,HO_22,BK178,HB⟩:=hrel
    cases gk with
    | zero => exact absurd HA.out (by simp [impl_TrialBalance.l0])
    | succ k2 =>
     have H:=HA.out;clear HA;simp only [impl_TrialBalance.l0] at H;by_cases c17 : x24_2 < (t181.length : Int)
     ·rw [if_pos c17] at H;have c17b0:=decide_eq_true c17;clear c17;obtain ⟨c18b0,H⟩:=ifYd H;obtain ⟨c19b0,H⟩:=ifYd H;obtain ⟨ji20,hji20⟩ : ∃ j_ : Int,(mx 0 (rd t181 x24_2)) = j_:=⟨_,rfl⟩;(first | rw [hji20] at H | simp only [hji20] at H);have hji20_ : (if 0 < (rd t181 x24_2) then (rd t181 x24_2) else 0) = ji20:=hji20;replace H:=ak H;have p184 : 0 ≤ (x24_2 : Int):=of_decide_eq_true ZZ853400;have q184 : x24_2 < (t181.length : Int):=of_decide_eq_true ZZ853400;obtain ⟨ad184,e184,hx184_0⟩:=Kd.at_int (Kd.R_reads' HO_22.out).2.2 x24_2 p184 q184
      cases e184
      replace p184:=eq_true p184;replace q184:=eq_true q184;go_wp2
      go_roundg k2
      case measure => have:=HJ2.out;have:=HK2.out;omega
      case rel => exact ⟨(wrap64 (x8_2 + (ji20))),(wrap64 (x24_2 + 1)),(by first | rfl | (simp;done) | (simp only [← hji20] <;> (first | rfl | simp)) | (simp [*];done)),ZZ0ab324,‹_›,kle,⟨(zR HO_7)⟩,⟨(zR HO_22)⟩,⟨(zB BK178)⟩,⟨ZZ295621⟩⟩
     rw [if_neg c17] at H;have c17b0:=decide_eq_false c17;clear c17;simp only [Option.some.injEq,Prod.mk.injEq] at H;obtain ⟨rfl,rfl,rfl⟩:=H;go_wp2
     go_ret3
     exact ⟨_,ZZab01d2,(zR HO_7),ZZ295621⟩
def spec_l1In.f (a0 : Int) (a1 : Int) (a2 : Int) : Option (Bool):=if a0 ≥ a1 then (some (decide (a0 ≤ a2))) else (some false)
set_option maxHeartbeats 8000000 in
set_option maxRecDepth 100000 in
theorem spec_l1In.calls (a0 : Int) (a1 : Int) (a2 : Int) (r : Bool) (w : World) (h : spec_l1In.f a0 a1 a2 = some r) :
 Calls Tryd.prog 65 #[.int .i64 a0,.int .i64 a1,.int .i64 a2] w fun e w' => e = .returned (.bool r) ∧ Drawn0 w w':=by
 have H:=h;clear h;unfold spec_l1In.f at H;by_cases c4 : a0 ≥ a1
 ·rw [if_pos c4] at H;have c4b0 : decide (a1 ≤ a0) = true:=decide_eq_true c4;clear c4;obtain rfl:=Option.some.inj H
  go_enter Tryd.func65,Tryd.ntmps65
  go_wp2;go_ret;exact ⟨ZZ0ab324,ZZ965307⟩
 rw [if_neg c4] at H;have c4b0 : decide (a1 ≤ a0) = false:=decide_eq_false c4;clear c4;obtain rfl:=Option.some.inj H
 go_enter Tryd.func65,Tryd.ntmps65
 go_wp2;go_ret;exact ⟨ZZ0ab324,ZZ965307⟩
def spec_l2Amount.f (a0 : Int) : Option (Bool):=(spec_l1In.f a0 (-1000000000) 1000000000).bind fun t185 => (some t185)
set_option maxHeartbeats 8000000 in
set_option maxRecDepth 100000 in
theorem spec_l2Amount.calls (a0 : Int) (r : Bool) (w : World) (h : spec_l2Amount.f a0 = some r) :
 Calls Tryd.prog 71 #[.int .i64 a0] w fun e w' => e = .returned (.bool r) ∧ Drawn0 w w':=by
 have H:=h;clear h;unfold spec_l2Amount.f at H;obtain ⟨t185,A2,H⟩:=bdY H;obtain rfl:=Option.some.inj H
 go_enter Tryd.func71,Tryd.ntmps71
 go_wp2_with (first | (refine gc 4 Tryd.func65 #[.int .i64 a0,.int .i64 (-1000000000),.int .i64 1000000000] ?_;(with_reducible refine (spec_l1In.calls a0 (-1000000000) 1000000000 t185 _ A2.out).mono ?_);rintro e w' ⟨rfl,⟨nd,rfl⟩⟩;refine ⟨_,rfl,?_⟩))
 go_ret;exact ⟨ZZ0ab324,ZZ965307⟩
def spec_l26Name.l0 : Nat → ByteArray → Int → Option (Bool)
 | 0,_,_ => none
 | k + 1,x0,x3 => if x3 < (x0.size : Int) then (if 0 ≤ x3 then (if (bt x0 x3) < 97 then (some false) else (if (bt x0 x3) > 122 then (some false) else (spec_l26Name.l0 k x0 (wrap64 (x3 + 1))))) else (none)) else ((spec_l1In.f (x0.size : Int) 1 8).bind fun t186 => (some t186))
def spec_l26Name.f (k : Nat) (a0 : ByteArray) : Option (Bool):=spec_l26Name.l0 k a0 0
theorem spec_l26Name.mono_l : ∀ k,(∀ y0 y1,LeO (spec_l26Name.l0 k y0 y1) (spec_l26Name.l0 (k + 1) y0 y1))
 | 0 => fun _ _ r h => by simp [spec_l26Name.l0] at h
 | k + 1 => by
  have ih0:=spec_l26Name.mono_l k
  ·intro y0 y1;unfold spec_l26Name.l0;repeat' with_reducible first | apply ih0 | exact LeO.refl _ | exact LeO.none _ | refine LeO.ite ?_ ?_ | refine LeO.bind ?_ (fun _ => ?_)
theorem spec_l26Name.mono : ∀ a0 k,LeO (spec_l26Name.f k a0) (spec_l26Name.f (k + 1) a0):=by
 intro a0 k;have ih0:=spec_l26Name.mono_l k;unfold spec_l26Name.f;repeat' with_reducible first | apply ih0 | exact LeO.refl _ | exact LeO.none _ | refine LeO.ite ?_ ?_ | refine LeO.bind ?_ (fun _ => ?_)
set_option maxHeartbeats 8000000 in
set_option maxRecDepth 100000 in
theorem spec_l26Name.calls (k : Nat) (a0 : ByteArray) (r : Bool) (w : World) (h : spec_l26Name.f k a0 = some r) :
 Calls Tryd.prog 126 #[.string a0] w fun e w' => e = .returned (.bool r) ∧ Drawn0 w w':=by
 have H:=h;clear h;unfold spec_l26Name.f at H;replace H:=ak H
 go_enter Tryd.func126,Tryd.ntmps126
 go_wp2
 go_loopg [3] k (fun kq v3 w' => ∃ (x3_1 : Int),v3 = .int .i64 x3_1 ∧ Aside0 (spec_l26Name.l0 kq a0 x3_1 = some r) ∧ Aside0 (kq ≤ k) ∧ Drawn0 w w')
 case atStart => exact ⟨(0),ZZ0ab324,H,⟨Nat.le_refl _⟩,ZZ965307⟩
 case round =>
  clear H;obtain ⟨x3_1,rfl,HA,HK1,⟨m1,rfl⟩⟩:=hrel
  cases gk with
  | zero => exact absurd HA.out (by simp [spec_l26Name.l0])
  | succ k1 =>
   have H:=HA.out;clear HA;simp only [spec_l26Name.l0] at H;by_cases c2 : x3_1 < (a0.size : Int)
   ·rw [if_pos c2] at H;have c2b0:=decide_eq_true c2;clear c2;obtain ⟨c3b0,H⟩:=ifYd H;by_cases c5 : (bt a0 x3_1) < 97
    ·rw [if_pos c5] at H;have c5b0:=decide_eq_true c5;clear c5;obtain rfl:=Option.some.inj H;have p4 : 0 ≤ (x3_1 : Int):=of_decide_eq_true ZZ853400;have q4 : x3_1 < (a0.size : Int):=of_decide_eq_true ZZ853400;have hx4:=bt_at a0 x3_1;replace p4:=eq_true p4;replace q4:=eq_true q4;go_wp2;go_ret;exact ⟨ZZ0ab324,ZZ965307⟩
    rw [if_neg c5] at H;have c5b0:=decide_eq_false c5;clear c5;by_cases c7 : (bt a0 x3_1) > 122
    ·rw [if_pos c7] at H;have c7b0 : decide (122 < (bt a0 x3_1)) = true:=decide_eq_true c7;clear c7;obtain rfl:=Option.some.inj H;have p4 : 0 ≤ (x3_1 : Int):=of_decide_eq_true ZZ853400;have q4 : x3_1 < (a0.size : Int):=of_decide_eq_true ZZ853400;have hx4:=bt_at a0 x3_1;replace p4:=eq_true p4;replace q4:=eq_true q4;have p6 : 0 ≤ (x3_1 : Int):=of_decide_eq_true ZZ853400;have q6 : x3_1 < (a0.size : Int):=of_decide_eq_true ZZ853400;have hx6:=bt_at a0 x3_1;replace p6:=eq_true p6;replace q6:=eq_true q6;go_wp2;go_ret;exact ⟨ZZ0ab324,ZZ965307⟩
    rw [if_neg c7] at H;have c7b0 : decide (122 < (bt a0 x3_1)) = false:=decide_eq_false c7;clear c7;replace H:=ak H;have p4 : 0 ≤ (x3_1 : Int):=of_decide_eq_true ZZ853400;have q4 : x3_1 < (a0.size : Int):=of_decide_eq_true ZZ853400;have hx4:=bt_at a0 x3_1;replace p4:=eq_true p4;replace q4:=eq_true q4;have p6 : 0 ≤ (x3_1 : Int):=of_decide_eq_true ZZ853400;have q6 : x3_1 < (a0.size : Int):=of_decide_eq_true ZZ853400;have hx6:=bt_at a0 x3_1;replace p6:=eq_true p6;replace q6:=eq_true q6;go_wp2
    go_roundg k1
    case measure => have:=HK1.out;omega
    case rel => exact ⟨(wrap64 (x3_1 + 1)),ZZ0ab324,H,kle,ZZ965307⟩
   rw [if_neg c2] at H;have c2b0:=decide_eq_false c2;clear c2;obtain ⟨t186,A8,H⟩:=bdY H;obtain rfl:=Option.some.inj H;go_wp2_with (first | (refine gc 22 Tryd.func65 #[.int .i64 (a0.size : Int),.int .i64 1,.int .i64 8] ?_;(with_reducible refine (spec_l1In.calls (a0.size : Int) 1 8 t186 _ A8.out).mono ?_);rintro e w' ⟨rfl,⟨nd,rfl⟩⟩;refine ⟨_,rfl,?_⟩))
   go_ret;exact ⟨ZZ0ab324,ZZ965307⟩
mutual
def spec_l26Accounts.l0 : Nat → List (S48) → Int → Option (Bool)
 | 0,_,_ => none
 | k + 1,x0,x3 => if x3 < (x0.length : Int) then (if 0 ≤ x3 then ((spec_l26Name.f k ((rd_T48 x0 x3).f0)).bind fun t188 => (if t188 = true then ((spec_l1In.f ((rd_T48 x0 x3).f1) 1 5).bind fun t190 => (spec_l26Accounts.j1 k x0 x3 (!t190))) else (spec_l26Accounts.j1 k x0 x3 true))) else (none)) else (some (decide ((x0.length : Int) ≤ 12)))
def spec_l26Accounts.j1 : Nat → List (S48) → Int → Bool → Option (Bool)
 | 0,_,_,_ => none
 | k + 1,x0,x3,x26 => if x26 = true then (some false) else (spec_l26Accounts.l1 k x0 x3 0)
def spec_l26Accounts.l1 : Nat → List (S48) → Int → Int → Option (Bool)
 | 0,_,_,_ => none
 | k + 1,x0,x3,x4 => if x4 < x3 then (if 0 ≤ x4 then (if x4 < (x0.length : Int) then (if 0 ≤ x3 then (if x3 < (x0.length : Int) then (if ((rd_T48 x0 x4).f0).toList = ((rd_T48 x0 x3).f0).toList then (some false) else (spec_l26Accounts.l1 k x0 x3 (wrap64 (x4 + 1)))) else (none)) else (none)) else (none)) else (none)) else (spec_l26Accounts.l0 k x0 (wrap64 (x3 + 1)))
end
def spec_l26Accounts.f (k : Nat) (l0 : List (S48)) : Option (Bool):=spec_l26Accounts.l0 k l0 0
theorem spec_l26Accounts.mono_l : ∀ k,(∀ y0 y1,LeO (spec_l26Accounts.l0 k y0 y1) (spec_l26Accounts.l0 (k + 1) y0 y1)) ∧ (∀ y0 y1 y2,LeO (spec_l26Accounts.j1 k y0 y1 y2) (spec_l26Accounts.j1 (k + 1) y0 y1 y2)) ∧ (∀ y0 y1 y2,LeO (spec_l26Accounts.l1 k y0 y1 y2) (spec_l26Accounts.l1 (k + 1) y0 y1 y2))
 | 0 => ⟨fun _ _ r h => by simp [spec_l26Accounts.l0] at h,fun _ _ _ r h => by simp [spec_l26Accounts.j1] at h,fun _ _ _ r h => by simp [spec_l26Accounts.l1] at h⟩
 | k + 1 => by
  obtain ⟨ih0,ih1,ih2⟩:=spec_l26Accounts.mono_l k;refine ⟨?_,?_,?_⟩;all_goals intros
  all_goals (first | unfold spec_l26Accounts.l0 | unfold spec_l26Accounts.j1 | unfold spec_l26Accounts.l1)
  all_goals
   repeat' with_reducible first | apply ih0 | apply ih1 | apply ih2 | apply spec_l26Name.mono | exact LeO.refl _ | exact LeO.none _ | refine LeO.ite ?_ ?_ | refine LeO.bind ?_ (fun _ => ?_)
theorem spec_l26Accounts.mono : ∀ a0 k,LeO (spec_l26Accounts.f k a0) (spec_l26Accounts.f (k + 1) a0):=by
 intro a0 k;obtain ⟨ih0,ih1,ih2⟩:=spec_l26Accounts.mono_l k;unfold spec_l26Accounts.f;repeat' with_reducible first | apply ih0 | apply ih1 | apply ih2 | apply spec_l26Name.mono | exact LeO.refl _ | exact LeO.none _ | refine LeO.ite ?_ ?_ | refine LeO.bind ?_ (fun _ => ?_)
set_option maxHeartbeats 8000000 in
set_option maxRecDepth 100000 in
theorem spec_l26Accounts.calls (k : Nat) (A0 : Option Addr) (c0 : Nat) (l0 : List (S48)) (r : Bool) (w : World) (hr0 : Kd.C k48 w A0 l0.length l0) (hc0 : l0.length ≤ c0) (h : spec_l26Accounts.f k l0 = some r) :
 Calls Tryd.prog 101 #[.slice A0 l0.length c0] w fun e w' => e = .returned (.bool r) ∧ Drawn0 w w':=by
 have HR0:=ak hr0;have HC0:=ak hc0;clear hr0 hc0;have H:=h;clear h;unfold spec_l26Accounts.f at H;replace H:=ak H
 go_enter Tryd.func101,Tryd.ntmps101
 go_wp2;repeat (go_quiet (fail);try go_wp2)
 go_loopg [3] k (fun kq v3 w' => ∃ (x3_1 : Int),v3 = .int .i64 x3_1 ∧ Aside0 (spec_l26Accounts.l0 kq l0 x3_1 = some r) ∧ Aside0 (kq ≤ k) ∧ Drawn0 w w')
 case atStart => exact ⟨(0),ZZ0ab324,H,⟨Nat.le_refl _⟩,ZZ965307⟩
 case round =>
  clear H;obtain ⟨x3_1,rfl,HA,HK1,⟨m1,rfl⟩⟩:=hrel
  cases gk with
  | zero => exact absurd HA.out (by simp [spec_l26Accounts.l0])
  | succ k1 =>
   have H:=HA.out;clear HA;simp only [spec_l26Accounts.l0] at H;by_cases c2 : x3_1 < (l0.length : Int)
   ·rw [if_pos c2] at H;have c2b0:=decide_eq_true c2;clear c2;have HC3:=ak H;clear H;go_upto_region 4 with (fail)
    repeat (go_quiet (fail);go_upto_region 4 with (fail))
    go_cut [26] (fun v26 wc => ∃ (kq : Nat) (x26_2 : Bool),v26 = .bool x26_2 ∧ Aside0 (spec_l26Accounts.j1 kq l0 x3_1 x26_2 = some r) ∧ Aside0 (kq ≤ k1) ∧ Drawn0 w wc)
    case first =>
     have H:=HC3.out;clear HC3;obtain ⟨c4b0,H⟩:=ifYd H;(first | rw [c4b0] | (simp only [i64_w,i32_w];rw [c4b0]) | skip);obtain ⟨t188,A5,H⟩:=bdY H;by_cases c6 : t188 = true
     ·subst c6;replace H:=ifT H;obtain ⟨t190,A7,H⟩:=bdY H;replace H:=ak H;have p187 : 0 ≤ (x3_1 : Int):=of_decide_eq_true ZZ853400;have q187 : x3_1 < (l0.length : Int):=of_decide_eq_true ZZ853400;obtain ⟨ad187,e187,hx187_0,hx187_1⟩:=at_T48 HR0.out x3_1 p187 q187
      cases e187
      replace p187:=eq_true p187;replace q187:=eq_true q187;go_wp2_with (first | (go_at_call 126;(with_reducible refine (spec_l26Name.calls k1 ((rd_T48 l0 x3_1).f0) true _ A5.out).mono ?_);rintro e w' ⟨rfl,⟨nd,rfl⟩⟩;(try first | exact ⟨rfl,_,World.drewN_drewN _ _ _⟩ | exact ⟨rfl,_,Eq.trans (World.drewN_drewN _ _ _) (congrArg (World.drewN _) (Nat.add_assoc _ _ _))⟩);have p189 : 0 ≤ (x3_1 : Int):=of_decide_eq_true ZZ853400;have q189 : x3_1 < (l0.length : Int):=of_decide_eq_true ZZ853400;obtain ⟨ad189,e189,hx189_0,hx189_1⟩:=at_T48 HR0.out x3_1 p189 q189;obtain rfl : ad187 = ad189:=(by injection e189);replace p189:=eq_true p189;replace q189:=eq_true q189) | (go_at_call 65;(with_reducible refine (spec_l1In.calls ((rd_T48 l0 x3_1).f1) 1 5 t190 _ A7.out).mono ?_);rintro e w' ⟨rfl,⟨nd,rfl⟩⟩;(try first | exact ⟨rfl,_,World.drewN_drewN _ _ _⟩ | exact ⟨rfl,_,Eq.trans (World.drewN_drewN _ _ _) (congrArg (World.drewN _) (Nat.add_assoc _ _ _))⟩)))
      go_meet
      case rel => exact ⟨_,(!t190),ZZ0ab324,H,kle,ZZ965307⟩
     replace c6:=Bool.eq_false_iff.mpr c6;subst c6;replace H:=ifF H;replace H:=ak H;have p187 : 0 ≤ (x3_1 : Int):=of_decide_eq_true ZZ853400;have q187 : x3_1 < (l0.length : Int):=of_decide_eq_true ZZ853400;obtain ⟨ad187,e187,hx187_0,hx187_1⟩:=at_T48 HR0.out x3_1 p187 q187
     cases e187
     replace p187:=eq_true p187;replace q187:=eq_true q187;go_wp2_with (first | (go_at_call 126;(with_reducible refine (spec_l26Name.calls k1 ((rd_T48 l0 x3_1).f0) false _ A5.out).mono ?_);rintro e w' ⟨rfl,⟨nd,rfl⟩⟩;(try first | exact ⟨rfl,_,World.drewN_drewN _ _ _⟩ | exact ⟨rfl,_,Eq.trans (World.drewN_drewN _ _ _) (congrArg (World.drewN _) (Nat.add_assoc _ _ _))⟩)))
     go_meet
     case rel => exact ⟨_,(true),ZZ0ab324,H,kle,ZZ965307⟩
    case rest =>
     clear HC3;try clear c2b0
     try clear c4b0
     try clear c6
     try clear hx187_0
     try clear hx187_1
     try clear hx189_0
     try clear hx189_1
     try clear p187
     try clear p189
     try clear q187
     try clear q189
     obtain ⟨kq,x26_2,rfl,HA,HJ2,⟨mc2,rfl⟩⟩:=hcut
     cases kq with
     | zero => exact absurd HA.out (by simp [spec_l26Accounts.j1])
     | succ kj2 =>
      have H:=HA.out;clear HA;simp only [spec_l26Accounts.j1] at H;by_cases c8 : x26_2 = true
      ·subst c8;replace H:=ifT H;obtain rfl:=Option.some.inj H;go_wp2;repeat (go_quiet (fail);try go_wp2)
       go_ret;exact ⟨ZZ0ab324,ZZ965307⟩
      replace c8:=Bool.eq_false_iff.mpr c8;subst c8;replace H:=ifF H;replace H:=ak H;go_wp2;repeat (go_quiet (fail);try go_wp2)
      go_loopg [4] kj2 (fun kq v4 w' => ∃ (x4_3 : Int),v4 = .int .i64 x4_3 ∧ Aside0 (spec_l26Accounts.l1 kq l0 x3_1 x4_3 = some r) ∧ Aside0 (kq ≤ kj2) ∧ Drawn0 w w')
      case atStart => exact ⟨(0),ZZ0ab324,H,⟨Nat.le_refl _⟩,ZZ965307⟩
      case round =>
       clear H;try clear c8
       obtain ⟨x4_3,rfl,HA,HK3,⟨m3,rfl⟩⟩:=hrel
       cases gk with
       | zero => exact absurd HA.out (by simp [spec_l26Accounts.l1])
       | succ k3 =>
        have H:=HA.out;clear HA;simp only [spec_l26Accounts.l1] at H;by_cases c9 : x4_3 < x3_1
        ·rw [if_pos c9] at H;have c9b0:=decide_eq_true c9;clear c9;obtain ⟨c10b0,H⟩:=ifYd H;obtain ⟨c11b0,H⟩:=ifYd H;obtain ⟨c12b0,H⟩:=ifYd H;obtain ⟨c13b0,H⟩:=ifYd H;by_cases c14 : ((rd_T48 l0 x4_3).f0).toList = ((rd_T48 l0 x3_1).f0).toList
         ·rw [if_pos c14] at H;have c14b0:=beq_iff_eq.mpr c14;have c14b1:=bne_eq_false_iff_eq.mpr c14;clear c14;obtain rfl:=Option.some.inj H;have p191 : 0 ≤ (x4_3 : Int):=of_decide_eq_true ZZ853400;have q191 : x4_3 < (l0.length : Int):=of_decide_eq_true ZZ853400;obtain ⟨ad191,e191,hx191_0,hx191_1⟩:=at_T48 HR0.out x4_3 p191 q191
          cases e191
          replace p191:=eq_true p191;replace q191:=eq_true q191;have p192 : 0 ≤ (x3_1 : Int):=of_decide_eq_true ZZ853400;have q192 : x3_1 < (l0.length : Int):=of_decide_eq_true ZZ853400;obtain ⟨ad192,e192,hx192_0,hx192_1⟩:=at_T48 HR0.out x3_1 p192 q192;obtain rfl : ad191 = ad192:=(by injection e192);replace p192:=eq_true p192;replace q192:=eq_true q192;go_wp2;repeat (go_quiet (fail);try go_wp2)
          go_ret;exact ⟨ZZ0ab324,ZZ965307⟩
         rw [if_neg c14] at H;have c14b0:=beq_eq_false_iff_ne.mpr c14;have c14b1:=bne_iff_ne.mpr c14;replace H:=ak H;have p191 : 0 ≤ (x4_3 : Int):=of_decide_eq_true ZZ853400;have q191 : x4_3 < (l0.length : Int):=of_decide_eq_true ZZ853400;obtain ⟨ad191,e191,hx191_0,hx191_1⟩:=at_T48 HR0.out x4_3 p191 q191
         cases e191
         replace p191:=eq_true p191;replace q191:=eq_true q191;have p192 : 0 ≤ (x3_1 : Int):=of_decide_eq_true ZZ853400;have q192 : x3_1 < (l0.length : Int):=of_decide_eq_true ZZ853400;obtain ⟨ad192,e192,hx192_0,hx192_1⟩:=at_T48 HR0.out x3_1 p192 q192;obtain rfl : ad191 = ad192:=(by injection e192);replace p192:=eq_true p192;replace q192:=eq_true q192;go_wp2;repeat (go_quiet (fail);try go_wp2)
         go_roundg k3
         case measure => have:=HK1.out;have:=HJ2.out;have:=HK3.out;omega
         case rel => exact ⟨(wrap64 (x4_3 + 1)),ZZ0ab324,‹_›,kle,ZZ965307⟩
        rw [if_neg c9] at H;have c9b0:=decide_eq_false c9;clear c9;replace H:=ak H;go_wp2;repeat (go_quiet (fail);try go_wp2)
        go_roundg k3
        case measure => have:=HK1.out;have:=HJ2.out;have:=HK3.out;omega
        case rel => exact ⟨(wrap64 (x3_1 + 1)),ZZ0ab324,‹_›,kle,ZZ965307⟩
   rw [if_neg c2] at H;have c2b0:=decide_eq_false c2;clear c2;obtain rfl:=Option.some.inj H;go_wp2;repeat (go_quiet (fail);try go_wp2)
   go_ret;exact ⟨ZZ0ab324,ZZ965307⟩
def spec_l3Good.f (a0 : Int) : Option (Bool):=(spec_l1In.f a0 0 36524).bind fun t193 => (some t193)
set_option maxHeartbeats 8000000 in
set_option maxRecDepth 100000 in
theorem spec_l3Good.calls (a0 : Int) (r : Bool) (w : World) (h : spec_l3Good.f a0 = some r) :
 Calls Tryd.prog 66 #[.int .i64 a0] w fun e w' => e = .returned (.bool r) ∧ Drawn0 w w':=by
 have H:=h;clear h;unfold spec_l3Good.f at H;obtain ⟨t193,A2,H⟩:=bdY H;obtain rfl:=Option.some.inj H
 go_enter Tryd.func66,Tryd.ntmps66
 go_wp2_with (first | (refine gc 4 Tryd.func65 #[.int .i64 a0,.int .i64 0,.int .i64 36524] ?_;(with_reducible refine (spec_l1In.calls a0 0 36524 t193 _ A2.out).mono ?_);rintro e w' ⟨rfl,⟨nd,rfl⟩⟩;refine ⟨_,rfl,?_⟩))
 go_ret;exact ⟨ZZ0ab324,ZZ965307⟩
end Go.Proofs.YtccdjchaaeligaaDoor.XFnLedger

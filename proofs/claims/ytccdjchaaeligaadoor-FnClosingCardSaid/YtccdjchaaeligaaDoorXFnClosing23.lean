import Derived.Test.YtccdjchaaeligaaDoorXFnClosing2
import Derived.Test.YtccdjchaaeligaaDoorXFnClosing11
import Derived.Test.YtccdjchaaeligaaDoorXFnClosing0
import Derived.Test.YtccdjchaaeligaaDoorXFnClosing1
import Derived.Test.YtccdjchaaeligaaDoorXFnClosing4
import Derived.Test.YtccdjchaaeligaaDoorXFnClosing17
import Derived.Test.YtccdjchaaeligaaDoorXFnClosing5
import Derived.Test.YtccdjchaaeligaaDoorXFnClosing16
import Derived.Test.YtccdjchaaeligaaDoorXFnClosing20
import Derived.Test.YtccdjchaaeligaaDoorXFnClosing22
namespace Go.Proofs.YtccdjchaaeligaaDoor.XFnClosing
open Go.Proofs.YtccdjchaaeligaaDoor.Short Go.RowKit Go.Proofs.YtccdjchaaeligaaDoorW.PrintWords Go.Proofs.YtccdjchaaeligaaDoorW.PrintLast Go.Proofs.YtccdjchaaeligaaDoorW.PrintMore
attribute [local go_sem] max2_int min2_int max_two min_two max_three min_three max_four min_four
set_option linter.unusedVariables false
set_option linter.unusedSimpArgs false
mutual
def impl_TrialBalance.j0 : Nat → Int → Bool → List (S48) → List (S63) → Option (List Int × Int × Bool)
 | 0,_,_,_,_ => none
 | k + 1,x1,x18,x630000,x630001 => if x18 = true then (some (([] : List Int),0,false)) else ((impl_balancesAt.f k x630000 x630001 x1).bind fun t632 => (impl_TrialBalance.l0 k t632 0 t632 (t632.length : Int) 0))
def impl_TrialBalance.l0 : Nat → List Int → Int → List Int → Int → Int → Option (List Int × Int × Bool)
 | 0,_,_,_,_,_ => none
 | k + 1,x7,x8,x22,x23,x24 => if x24 < x23 then (if 0 ≤ x24 then (if x24 < (x22.length : Int) then (impl_TrialBalance.l0 k x7 (wrap64 (x8 + (mx 0 (rd x22 x24)))) x22 x23 (wrap64 (x24 + 1))) else (none)) else (none)) else (some (x7,x8,true))
end
def impl_TrialBalance.f (k : Nat) (l0_0 : List (S48)) (l0_1 : List (S63)) (a1 : Int) : Option (List Int × Int × Bool):=(impl_IsValidLedger.f k l0_0 l0_1).bind fun t630 => (if t630 = true then ((impl_isDay.f a1).bind fun t631 => (impl_TrialBalance.j0 k a1 (!t631) l0_0 l0_1)) else (impl_TrialBalance.j0 k a1 true l0_0 l0_1))
theorem impl_TrialBalance.mono_l : ∀ k,(∀ y0 y1 y2 y3,LeO (impl_TrialBalance.j0 k y0 y1 y2 y3) (impl_TrialBalance.j0 (k + 1) y0 y1 y2 y3)) ∧ (∀ y0 y1 y2 y3 y4,LeO (impl_TrialBalance.l0 k y0 y1 y2 y3 y4) (impl_TrialBalance.l0 (k + 1) y0 y1 y2 y3 y4))
 | 0 => ⟨fun _ _ _ _ r h => by simp [impl_TrialBalance.j0] at h,fun _ _ _ _ _ r h => by simp [impl_TrialBalance.l0] at h⟩
 | k + 1 => by
  obtain ⟨ih0,ih1⟩:=impl_TrialBalance.mono_l k;refine ⟨?_,?_⟩;all_goals intros
  all_goals (first | unfold impl_TrialBalance.j0 | unfold impl_TrialBalance.l0)
  all_goals
   repeat' with_reducible first | apply ih0 | apply ih1 | apply impl_IsValidLedger.mono | apply impl_balancesAt.mono | exact LeO.refl _ | exact LeO.none _ | refine LeO.ite ?_ ?_ | refine LeO.bind ?_ (fun _ => ?_)
theorem impl_TrialBalance.mono : ∀ a0 a1 a2 k,LeO (impl_TrialBalance.f k a0 a1 a2) (impl_TrialBalance.f (k + 1) a0 a1 a2):=by
 intro a0 a1 a2 k;obtain ⟨ih0,ih1⟩:=impl_TrialBalance.mono_l k;unfold impl_TrialBalance.f;repeat' with_reducible first | apply ih0 | apply ih1 | apply impl_IsValidLedger.mono | apply impl_balancesAt.mono | exact LeO.refl _ | exact LeO.none _ | refine LeO.ite ?_ ?_ | refine LeO.bind ?_ (fun _ => ?_)
set_option maxHeartbeats 8000000 in
set_option maxRecDepth 100000 in
theorem impl_TrialBalance.calls (k : Nat) (A0_0 : Option Addr) (c0_0 : Nat) (l0_0 : List (S48)) (A0_1 : Option Addr) (c0_1 : Nat) (l0_1 : List (S63)) (a1 : Int) (r1 : List Int) (r2 : Int) (r3 : Bool) (w : World) (hr0_0 : Kd.C k48 w A0_0 l0_0.length l0_0) (hc0_0 : l0_0.length ≤ c0_0) (hr0_1 : Kd.C k63 w A0_1 l0_1.length l0_1) (hc0_1 : l0_1.length ≤ c0_1) (h : impl_TrialBalance.f k l0_0 l0_1 a1 = some (r1,r2,r3)) :
 Calls Tryd.prog 27 #[.agg #[.slice A0_0 l0_0.length c0_0,.slice A0_1 l0_1.length c0_1],.int .i64 a1] w fun e w' => ∃ v0_ : Value,e = .returned (.tuple #[v0_,.int .i64 r2,.bool r3]) ∧ Kd.R (Kd.int .i64) 3 w' w.heap.size (fun _ => True) v0_ r1 ∧ Below w.heap.size w w':=by
 have hu31:=Tryd.underlying31;have HR0_0:=Aside0.mk hr0_0;have HC0_0:=Aside0.mk hc0_0;clear hr0_0 hc0_0;have HR0_1:=Aside0.mk hr0_1;have HC0_1:=Aside0.mk hc0_1;clear hr0_1 hc0_1;have HB:=Aside0.mk (Below.refl w.heap.size w);have H:=h;clear h;unfold impl_TrialBalance.f at H;have HC3:=Aside0.mk H;clear H
 go_enter Tryd.func27,Tryd.ntmps27
 go_upto_region 1 with (first | ((with_reducible refine gate_dst (N:=2) rfl ?_);refine bx 2 (cs:=#[.slice A0_0 l0_0.length c0_0,.slice A0_1 l0_1.length c0_1]) (t:=31) ?_;intro gb629 hg w4 hbox hb;have BK629:=Aside0.mk (hbox);have GW629:=gw hg;have GE629:=gw hg;replace HB:=hB hb;clear hb hbox hg))
 (try simp only [Act.put,List.setIfInBounds_toArray,List.set_cons_zero,List.set_cons_succ])
 go_cut [18] (fun v18 wc => ∃ (kq : Nat) (x18_2 : Bool),v18 = .bool x18_2 ∧ Aside0 (impl_TrialBalance.j0 kq a1 x18_2 l0_0 l0_1 = some (r1,r2,r3)) ∧ Aside0 (kq ≤ k) ∧ Aside0 (wc.heap[gb629]? = some (.cells #[(.slice A0_0 l0_0.length c0_0),(.slice A0_1 l0_1.length c0_1)] 31 (0,0))) ∧ Aside0 (Below w.heap.size w wc))
 case first =>
  have H:=HC3.out;clear HC3;obtain ⟨t630,A5,H⟩:=bdY H;by_cases c6 : t630 = true
  ·subst c6;replace H:=ifT H;obtain ⟨t631,A7,H⟩:=bdY H;replace H:=Aside0.mk H;obtain ⟨hcz8_0,hcz8_1,hfz8_0,hfz8_1⟩:=z2 BK629;go_wp2_with (first | (refine gc 12 Tryd.func17 #[.agg #[.slice A0_0 l0_0.length c0_0,.slice A0_1 l0_1.length c0_1]] ?_;(with_reducible refine (impl_IsValidLedger.calls k _ _ l0_0 _ _ l0_1 true _ ?side1 ?side2 ?side3 ?side4 A5.out).mono ?_);(case side1 => exact (rC (Kd.C_below HR0_0.out HB.out)));(case side2 => exact HC0_0.out);(case side3 => exact (rC (Kd.C_below HR0_1.out HB.out)));(case side4 => exact HC0_1.out);rintro e w9 ⟨rfl,hb⟩;refine ⟨_,rfl,?_⟩;replace BK629:=kb BK629 hb;replace HB:=hB hb;(try clear hb);(try clear hb2);(try clear hk);(try clear hi)) | (go_at_call 59;(with_reducible refine (impl_isDay.calls a1 t631 _ A7.out).mono ?_);rintro e w' ⟨rfl,⟨nd,rfl⟩⟩))
   go_meet
   case rel => exact ⟨_,(!t631),ZZ0ab324,H,kle,⟨(zB BK629)⟩,⟨ZZ295621⟩⟩
  replace c6:=Bool.eq_false_iff.mpr c6;subst c6;replace H:=ifF H;replace H:=Aside0.mk H;obtain ⟨hcz10_0,hcz10_1,hfz10_0,hfz10_1⟩:=z2 BK629;go_wp2_with (first | (refine gc 12 Tryd.func17 #[.agg #[.slice A0_0 l0_0.length c0_0,.slice A0_1 l0_1.length c0_1]] ?_;(with_reducible refine (impl_IsValidLedger.calls k _ _ l0_0 _ _ l0_1 false _ ?side1 ?side2 ?side3 ?side4 A5.out).mono ?_);(case side1 => exact (rC (Kd.C_below HR0_0.out HB.out)));(case side2 => exact HC0_0.out);(case side3 => exact (rC (Kd.C_below HR0_1.out HB.out)));(case side4 => exact HC0_1.out);rintro e w11 ⟨rfl,hb⟩;refine ⟨_,rfl,?_⟩;replace BK629:=kb BK629 hb;replace HB:=hB hb;(try clear hb);(try clear hb2);(try clear hk);(try clear hi)))
  go_meet
  case rel => exact ⟨_,(true),ZZ0ab324,H,kle,⟨(zB BK629)⟩,⟨ZZ295621⟩⟩
 case rest =>
  clear HC3;try clear c6
  try clear hcz10_0
  try clear hcz10_1
  try clear hcz8_0
  try clear hcz8_1
  try clear hfz10_0
  try clear hfz10_1
  try clear hfz8_0
  try clear hfz8_1
  obtain ⟨kq,x18_2,rfl,HA,HJ2,BK629,HB⟩:=hcut
  cases kq with
  | zero => exact absurd HA.out (by simp [impl_TrialBalance.j0])
  | succ kj2 =>
   have H:=HA.out;clear HA;simp only [impl_TrialBalance.j0] at H;by_cases c12 : x18_2 = true
   ·subst c12;replace H:=ifT H;simp only [Option.some.injEq,Prod.mk.injEq] at H;obtain ⟨rfl,rfl,rfl⟩:=H;go_wp2
    go_ret3
    exact ⟨_,ZZab01d2,ZZf4214b,ZZ295621⟩
   replace c12:=Bool.eq_false_iff.mpr c12;subst c12;replace H:=ifF H;obtain ⟨t632,A13,H⟩:=bdY H;replace H:=Aside0.mk H;obtain ⟨hcz14_0,hcz14_1,hfz14_0,hfz14_1⟩:=z2 BK629;go_wp2_with (first | (refine gc 21 Tryd.func69 #[.agg #[.slice A0_0 l0_0.length c0_0,.slice A0_1 l0_1.length c0_1],.int .i64 a1] ?_;(with_reducible refine (impl_balancesAt.calls kj2 _ _ l0_0 _ _ l0_1 a1 t632 _ ?side1 ?side2 ?side3 ?side4 A13.out).mono ?_);(case side1 => exact (rC (Kd.C_below HR0_0.out HB.out)));(case side2 => exact HC0_0.out);(case side3 => exact (rC (Kd.C_below HR0_1.out HB.out)));(case side4 => exact HC0_1.out);rintro e w15 ⟨v633,rfl,ho0,hb⟩;refine ⟨_,rfl,?_⟩;have HO634:=Aside0.mk (Kd.R_lower ho0 (below_size ZZ295621));replace BK629:=kb BK629 hb;replace HB:=hB hb;(try clear hb);(try clear hb2);(try clear hk);(try clear hi);(try clear ho0);obtain ⟨Ao16,co16,eo16⟩:=Kd.R_slice HO634.out;subst eo16))
   go_loopg [8,24] kj2 (fun kq v8 v24 w' => ∃ (x8_2 : Int) (x24_2 : Int),v8 = .int .i64 x8_2 ∧ v24 = .int .i64 x24_2 ∧ Aside0 (impl_TrialBalance.l0 kq t632 x8_2 t632 (t632.length : Int) x24_2 = some (r1,r2,r3)) ∧ Aside0 (kq ≤ kj2) ∧ Aside0 (Kd.R (Kd.int .i64) 3 w' w.heap.size (fun _ => True) (.slice Ao16 t632.length co16) t632) ∧ Aside0 (Kd.R (Kd.int .i64) 3 w' w.heap.size (fun _ => True) (.slice Ao16 t632.length co16) t632) ∧ Aside0 (w'.heap[gb629]? = some (.cells #[(.slice A0_0 l0_0.length c0_0),(.slice A0_1 l0_1.length c0_1)] 31 (0,0))) ∧ Aside0 (Below w.heap.size w w'))
   case atStart => exact ⟨(0),(0),ZZ0ab324,ZZ0ab324,H,⟨Nat.le_refl _⟩,⟨(zR HO634)⟩,⟨(zR HO634)⟩,⟨(zB BK629)⟩,⟨ZZ295621⟩⟩
   case round =>
    clear H;try clear c12
    try clear hcz14_0
    try clear hcz14_1
    try clear hfz14_0
    try clear hfz14_1
    obtain ⟨x8_2,x24_2,rfl,rfl,HA,HK2,HO_7,HO_22,BK629,HB⟩:=hrel
    cases gk with
    | zero => exact absurd HA.out (by simp [impl_TrialBalance.l0])
    | succ k2 =>
     have H:=HA.out;clear HA;simp only [impl_TrialBalance.l0] at H;by_cases c17 : x24_2 < (t632.length : Int)
     ·rw [if_pos c17] at H;have c17b0:=decide_eq_true c17;clear c17;obtain ⟨c18b0,H⟩:=ifYd H;obtain ⟨c19b0,H⟩:=ifYd H;obtain ⟨ji20,hji20⟩ : ∃ j_ : Int,(mx 0 (rd t632 x24_2)) = j_:=⟨_,rfl⟩;(first | rw [hji20] at H | simp only [hji20] at H);have hji20_ : (if 0 < (rd t632 x24_2) then (rd t632 x24_2) else 0) = ji20:=hji20;replace H:=Aside0.mk H;have p635 : 0 ≤ (x24_2 : Int):=of_decide_eq_true ZZ853400;have q635 : x24_2 < (t632.length : Int):=of_decide_eq_true ZZ853400;obtain ⟨ad635,e635,hx635_0⟩:=Kd.at_int (Kd.R_reads' HO_22.out).2.2 x24_2 p635 q635
      cases e635
      replace p635:=eq_true p635;replace q635:=eq_true q635;go_wp2
      go_roundg k2
      case measure => have:=HJ2.out;have:=HK2.out;omega
      case rel => exact ⟨(wrap64 (x8_2 + (ji20))),(wrap64 (x24_2 + 1)),(by first | rfl | (simp;done) | (simp only [← hji20] <;> (first | rfl | simp)) | (simp [*];done)),ZZ0ab324,‹_›,kle,⟨(zR HO_7)⟩,⟨(zR HO_22)⟩,⟨(zB BK629)⟩,⟨ZZ295621⟩⟩
     rw [if_neg c17] at H;have c17b0:=decide_eq_false c17;clear c17;simp only [Option.some.injEq,Prod.mk.injEq] at H;obtain ⟨rfl,rfl,rfl⟩:=H;go_wp2
     go_ret3
     exact ⟨_,ZZab01d2,(zR HO_7),ZZ295621⟩
theorem ZZc57c98 {p : Prop} (h : p:=by refine bR ?_;exact (Kd.R_mono (Kd.R_far (p:=⟨gb645,1,none⟩) (Kd.R_far (p:=⟨gb645,0,none⟩) (Kd.R_types HO639.out BK645.out (by decide)) (fun _ hk => hk.2) (.slice Ao10 t637.length co10)) (fun _ hk => hk.2) (.slice Ao12 t640.length co12)) (fun _ h_ => h_.1))) : p:=h
theorem ZZf72477 {p : Prop} (h : p:=by refine bS ?_;exact (Kd.S_mono (Kd.S_far (p:=⟨gb645,1,none⟩) (Kd.S_far (p:=⟨gb645,0,none⟩) (Kd.S_types HO642.out BK645.out (by decide)) (fun _ hk => hk.2) (.slice Ao10 t637.length co10)) (fun _ hk => hk.2) (.slice Ao12 t640.length co12)) (fun _ h_ => h_.1))) : p:=h
theorem ZZ75494e {p : Prop} (h : p:=by refine bR ?_;exact (Kd.R_mono (Kd.R_far (p:=⟨gb653,1,none⟩) (Kd.R_far (p:=⟨gb653,0,none⟩) (Kd.R_types HO639.out BK653.out (by decide)) (fun _ hk => hk.2) (.slice Ao15 t646.length co15)) (fun _ hk => hk.2) (.slice Ao18 t649.length co18)) (fun _ h_ => h_.1))) : p:=h
theorem ZZc80f49 {p : Prop} (h : p:=by refine bS ?_;exact (Kd.S_mono (Kd.S_far (p:=⟨gb653,1,none⟩) (Kd.S_far (p:=⟨gb653,0,none⟩) (Kd.S_types HO642.out BK653.out (by decide)) (fun _ hk => hk.2) (.slice Ao15 t646.length co15)) (fun _ hk => hk.2) (.slice Ao18 t649.length co18)) (fun _ h_ => h_.1))) : p:=h
mutual
def laws_FnClosing.j0 : Nat → Int → Bool → Bool → Bool → List (S48) → List (S63) → List (S48) → List (S63) → Option (Bool)
 | 0,_,_,_,_,_,_,_,_ => none
 | k + 1,x5,x7,x9,x47,x646000,x646001,x654000,x654001 => if x47 = true then (if (x7 == x9) = true then (some ((x654000.length : Int) == 0)) else (some false)) else ((impl_TrialBalance.f k x654000 x654001 x5).bind fun bt662 => (if bt662.2.2 = true then (laws_FnClosing.j1 k x5 bt662.1 ((bt662.1.length : Int) != (x646000.length : Int)) x646000 x646001 x654000 x654001) else (laws_FnClosing.j1 k x5 bt662.1 true x646000 x646001 x654000 x654001)))
def laws_FnClosing.j1 : Nat → Int → List Int → Bool → List (S48) → List (S63) → List (S48) → List (S63) → Option (Bool)
 | 0,_,_,_,_,_,_,_ => none
 | k + 1,x5,x10,x73,x646000,x646001,x654000,x654001 => if x73 = true then (some false) else (laws_FnClosing.l0 k x5 x10 0 x646000 x646001 x654000 x654001)
def laws_FnClosing.l0 : Nat → Int → List Int → Int → List (S48) → List (S63) → List (S48) → List (S63) → Option (Bool)
 | 0,_,_,_,_,_,_,_ => none
 | k + 1,x5,x10,x13,x646000,x646001,x654000,x654001 => if x13 < (x10.length : Int) then (if 0 ≤ x13 then (if x13 < (x646000.length : Int) then (if ((rd_T48 x646000 x13).f1) = 4 then (laws_FnClosing.j3 k x5 x10 x13 ((rd x10 x13) != 0) x646000 x646001 x654000 x654001) else (if ((rd_T48 x646000 x13).f1) = 5 then (laws_FnClosing.j3 k x5 x10 x13 ((rd x10 x13) != 0) x646000 x646001 x654000 x654001) else (laws_FnClosing.j3 k x5 x10 x13 false x646000 x646001 x654000 x654001))) else (none)) else (none)) else ((impl_ResultOf.f k x646000 x646001 0 x5).bind fun bt670 => ((impl_ResultOf.f k x654000 x654001 0 x5).bind fun bt672 => (if (bt670.2 == bt672.2) = true then (some (bt670.1 == bt672.1)) else (some false))))
def laws_FnClosing.j3 : Nat → Int → List Int → Int → Bool → List (S48) → List (S63) → List (S48) → List (S63) → Option (Bool)
 | 0,_,_,_,_,_,_,_,_ => none
 | k + 1,x5,x10,x13,x98,x646000,x646001,x654000,x654001 => if x98 = true then (some false) else (laws_FnClosing.l0 k x5 x10 (wrap64 (x13 + 1)) x646000 x646001 x654000 x654001)
end
def laws_FnClosing.f (k : Nat) (l0 : List Int) : Option (Bool):=(laws_vBig.f l0).bind fun t636 => (if t636 = true then (some true) else ((spec_DrawCloseAccounts.f k l0).bind fun bt637 => ((impl_CloseAccounts.f k bt637.1 bt637.2.1 bt637.2.2.1 bt637.2.2.2).bind fun bt646 => ((spec_CloseAccounts.f k bt637.1 bt637.2.1 bt637.2.2.1 bt637.2.2.2).bind fun bt654 => (if (bt646.2.2 != bt654.2.2) = true then (laws_FnClosing.j0 k bt637.2.2.2 bt646.2.2 bt654.2.2 true bt637.1 bt637.2.1 bt646.1 bt646.2.1) else (laws_FnClosing.j0 k bt637.2.2.2 bt646.2.2 bt654.2.2 (!bt646.2.2) bt637.1 bt637.2.1 bt646.1 bt646.2.1))))))
theorem laws_FnClosing.mono_l : ∀ k,(∀ y0 y1 y2 y3 y4 y5 y6 y7,LeO (laws_FnClosing.j0 k y0 y1 y2 y3 y4 y5 y6 y7) (laws_FnClosing.j0 (k + 1) y0 y1 y2 y3 y4 y5 y6 y7)) ∧ (∀ y0 y1 y2 y3 y4 y5 y6,LeO (laws_FnClosing.j1 k y0 y1 y2 y3 y4 y5 y6) (laws_FnClosing.j1 (k + 1) y0 y1 y2 y3 y4 y5 y6)) ∧ (∀ y0 y1 y2 y3 y4 y5 y6,LeO (laws_FnClosing.l0 k y0 y1 y2 y3 y4 y5 y6) (laws_FnClosing.l0 (k + 1) y0 y1 y2 y3 y4 y5 y6)) ∧ (∀ y0 y1 y2 y3 y4 y5 y6 y7,LeO (laws_FnClosing.j3 k y0 y1 y2 y3 y4 y5 y6 y7) (laws_FnClosing.j3 (k + 1) y0 y1 y2 y3 y4 y5 y6 y7))
 | 0 => ⟨fun _ _ _ _ _ _ _ _ r h => by simp [laws_FnClosing.j0] at h,fun _ _ _ _ _ _ _ r h => by simp [laws_FnClosing.j1] at h,fun _ _ _ _ _ _ _ r h => by simp [laws_FnClosing.l0] at h,fun _ _ _ _ _ _ _ _ r h => by simp [laws_FnClosing.j3] at h⟩
 | k + 1 => by
  obtain ⟨ih0,ih1,ih2,ih3⟩:=laws_FnClosing.mono_l k;refine ⟨?_,?_,?_,?_⟩;all_goals intros
  all_goals (first | unfold laws_FnClosing.j0 | unfold laws_FnClosing.j1 | unfold laws_FnClosing.l0 | unfold laws_FnClosing.j3)
  all_goals
   repeat' with_reducible first | apply ih0 | apply ih1 | apply ih2 | apply ih3 | apply impl_CloseAccounts.mono | apply impl_ResultOf.mono | apply impl_TrialBalance.mono | apply spec_CloseAccounts.mono | apply spec_DrawCloseAccounts.mono | exact LeO.refl _ | exact LeO.none _ | refine LeO.ite ?_ ?_ | refine LeO.bind ?_ (fun _ => ?_)
theorem laws_FnClosing.mono : ∀ a0 k,LeO (laws_FnClosing.f k a0) (laws_FnClosing.f (k + 1) a0):=by
 intro a0 k;obtain ⟨ih0,ih1,ih2,ih3⟩:=laws_FnClosing.mono_l k;unfold laws_FnClosing.f;repeat' with_reducible first | apply ih0 | apply ih1 | apply ih2 | apply ih3 | apply impl_CloseAccounts.mono | apply impl_ResultOf.mono | apply impl_TrialBalance.mono | apply spec_CloseAccounts.mono | apply spec_DrawCloseAccounts.mono | exact LeO.refl _ | exact LeO.none _ | refine LeO.ite ?_ ?_ | refine LeO.bind ?_ (fun _ => ?_)
set_option maxHeartbeats 8000000 in
set_option maxRecDepth 100000 in
theorem laws_FnClosing.calls (k : Nat) (A0 : Option Addr) (c0 : Nat) (l0 : List Int) (r : Bool) (w : World) (hr0 : Kd.C (Kd.int .u8) w A0 l0.length l0) (hc0 : l0.length ≤ c0) (h : laws_FnClosing.f k l0 = some r) :
 Calls Tryd.prog 6 #[.slice A0 l0.length c0] w fun e w' => e = .returned (.bool r) ∧ Below w.heap.size w w':=by
 have hu31:=Tryd.underlying31;have HR0:=Aside0.mk hr0;have HC0:=Aside0.mk hc0;clear hr0 hc0;have HB:=Aside0.mk (Below.refl w.heap.size w);have H:=h;clear h;unfold laws_FnClosing.f at H;obtain ⟨t636,A2,H⟩:=bdY H;by_cases c3 : t636 = true
 ·subst c3;replace H:=ifT H;obtain rfl:=Option.some.inj H
  go_enter Tryd.func6,Tryd.ntmps6
  go_wp2_with (first | (refine gc 20 Tryd.func23 #[.slice A0 l0.length c0] ?_;(with_reducible refine (laws_vBig.calls _ _ l0 true _ ?side1 ?side2 A2.out).mono ?_);(case side1 => exact (rC HR0.out));(case side2 => exact HC0.out);rintro e w' ⟨rfl,⟨nd,rfl⟩⟩;refine ⟨_,rfl,?_⟩))
  go_ret;exact ⟨ZZab01d2,ZZ605003⟩
 replace c3:=Bool.eq_false_iff.mpr c3;subst c3;replace H:=ifF H;obtain ⟨⟨t637,t640,t643,t644⟩,A4,H⟩:=bdY H;try dsimp only at H
 obtain ⟨⟨t646,t649,t652⟩,A5,H⟩:=bdY H;try dsimp only at H
 obtain ⟨⟨t654,t657,t660⟩,A6,H⟩:=bdY H;try dsimp only at H
 have HC7:=Aside0.mk H;clear H
 go_enter Tryd.func6,Tryd.ntmps6
 go_upto_region 6 with (first | (refine gc 20 Tryd.func23 #[.slice A0 l0.length c0] ?_;(with_reducible refine (laws_vBig.calls _ _ l0 false _ ?side1 ?side2 A2.out).mono ?_);(case side1 => exact (rC HR0.out));(case side2 => exact HC0.out);rintro e w' ⟨rfl,⟨nd,rfl⟩⟩;refine ⟨_,rfl,?_⟩) | (refine gc 23 Tryd.func24 #[.slice A0 l0.length c0] ?_;(with_reducible refine (spec_DrawCloseAccounts.calls k _ _ l0 t637 t640 t643 t644 _ ?side1 ?side2 A4.out).mono ?_);(case side1 => exact (rC HR0.out));(case side2 => exact HC0.out);rintro e w8 ⟨v638,v641,rfl,ho0,ho1,hb⟩;refine ⟨_,rfl,?_⟩;have HO639:=Aside0.mk (Kd.R_lower ho0 (below_size ZZ605003));have HO642:=Aside0.mk (Kd.S_lower ho1 (below_size ZZ605003));replace HB:=hB hb;(try clear hb);(try clear hb2);(try clear hk);(try clear hi);(try clear ho0);(try clear ho1)) | ((with_reducible refine gate_dst (N:=3) rfl ?_);(try (refine gate_guard (by rfl) ?_;dsimp only));refine bx 3 (cs:=#[.slice none 0 0,.slice none 0 0]) (t:=31) ?_;intro gb645 hg w9 hbox hb;replace HO639:=Aside0.mk (Kd.R_below (zR HO639) hb);replace HO642:=Aside0.mk (Kd.S_below (zS HO642) hb);have BK645:=Aside0.mk (hbox);have GW645:=gw hg;have GE645:=gw hg;replace HB:=hB hb;clear hb hbox hg;obtain ⟨Ao10,co10,eo10⟩:=Kd.R_slice HO639.out;subst eo10;obtain ⟨hcz11_0,hcz11_1,hfz11_0,hfz11_1⟩:=z2 BK645;obtain ⟨Ao12,co12,eo12⟩:=Kd.S_slice HO642.out;subst eo12) | (refine gc 31 Tryd.func25 #[.agg #[.slice Ao10 t637.length co10,.slice Ao12 t640.length co12],.int .i64 t643,.int .i64 t644] ?_;(with_reducible refine (impl_CloseAccounts.calls k _ _ t637 _ _ t640 t643 t644 t646 t649 t652 _ ?side1 ?side2 ?side3 ?side4 A5.out).mono ?_);(case side1 => exact (Kd.R_reads' (e:=48) (base:=w.heap.size) (n:=t637.length) (c:=co10) ZZc57c98).2.2);(case side2 => exact (Kd.R_reads' HO639.out).2.1);(case side3 => exact (Kd.S_reads' (e:=63) (base:=w.heap.size) (n:=t640.length) (c:=co12) ZZf72477).2.2);(case side4 => exact (Kd.S_reads' HO642.out).2.1);rintro e w13 ⟨v647,v650,rfl,ho0,ho1,hb⟩;refine ⟨_,rfl,?_⟩;have HO648:=Aside0.mk (Kd.R_lower (Kd.R_new' ho0 (Kd.R_lt ZZc57c98)) (below_size ZZ295621));replace HO639:=Aside0.mk (Kd.R_elder' ZZc57c98 (Kd.R_base ho0) hb);have HO651:=Aside0.mk (Kd.S_lower (Kd.S_new' ho1 (Kd.S_lt ZZf72477)) (below_size ZZ295621));replace HO642:=Aside0.mk (Kd.S_elder' ZZf72477 (Kd.S_base ho1) hb);replace BK645:=Aside0.mk (blk_below (g:=gb645) (o:=.cells #[.slice Ao10 t637.length co10,.slice Ao12 t640.length co12] 31 (0,0)) (by refine bd ?_;refine blk_put (cs:=#[.slice Ao10 t637.length co10,.slice none 0 0]) ?_ 1 _ rfl;refine bd ?_;refine blk_put (cs:=#[.slice none 0 0,.slice none 0 0]) ?_ 0 _ rfl;refine bd ?_;exact BK645.out) hb);replace HB:=hB hb;(try clear hb);(try clear hb2);(try clear hk);(try clear hi);(try clear ho0);(try clear ho1)) | ((with_reducible refine gate_dst (N:=6) rfl ?_);(try (refine gate_guard (by rfl) ?_;dsimp only));refine bx 6 (cs:=#[.slice none 0 0,.slice none 0 0]) (t:=31) ?_;intro gb653 hg w14 hbox hb;replace HO639:=Aside0.mk (Kd.R_below (zR HO639) hb);replace HO642:=Aside0.mk (Kd.S_below (zS HO642) hb);replace HO648:=Aside0.mk (Kd.R_below (zR HO648) hb);replace HO651:=Aside0.mk (Kd.S_below (zS HO651) hb);have BK653:=Aside0.mk (hbox);have GW653:=gw hg;have GE653:=gw hg;replace HB:=hB hb;have NB645_653:=nl hg BK645;have NB653_645:=ng hg BK645;replace BK645:=kb BK645 hb;clear hb hbox hg;obtain ⟨Ao15,co15,eo15⟩:=Kd.R_slice HO648.out;subst eo15;have hnb16:=NB653_645.out;have hnc16:=NB645_653.out;obtain ⟨hcz17_0,hcz17_1,hfz17_0,hfz17_1⟩:=z2 BK653;obtain ⟨Ao18,co18,eo18⟩:=Kd.S_slice HO651.out;subst eo18;obtain ⟨hcz19_0,hcz19_1,hfz19_0,hfz19_1⟩:=z2 BK645) | (refine gc 38 Tryd.func26 #[.agg #[.slice Ao10 t637.length co10,.slice Ao12 t640.length co12],.int .i64 t643,.int .i64 t644] ?_;(with_reducible refine (spec_CloseAccounts.calls k _ _ t637 _ _ t640 t643 t644 t654 t657 t660 _ ?side1 ?side2 ?side3 ?side4 A6.out).mono ?_);(case side1 => exact (Kd.R_reads' (e:=48) (base:=w.heap.size) (n:=t637.length) (c:=co10) ZZ75494e).2.2);(case side2 => exact (Kd.R_reads' HO639.out).2.1);(case side3 => exact (Kd.S_reads' (e:=63) (base:=w.heap.size) (n:=t640.length) (c:=co12) ZZc80f49).2.2);(case side4 => exact (Kd.S_reads' HO642.out).2.1);rintro e w20 ⟨v655,v658,rfl,ho0,ho1,hb⟩;refine ⟨_,rfl,?_⟩;have HO656:=Aside0.mk (Kd.R_lower (Kd.R_new' (Kd.R_new' ho0 (Kd.R_lt ZZ75494e)) (Kd.R_lt (by refine bR ?_;exact (Kd.R_mono (Kd.R_far (p:=⟨gb653,1,none⟩) (Kd.R_far (p:=⟨gb653,0,none⟩) (Kd.R_types HO648.out BK653.out (by decide)) (fun _ hk => hk.2) (.slice Ao15 t646.length co15)) (fun _ hk => hk.2) (.slice Ao18 t649.length co18)) (fun _ h_ => h_.1))))) (below_size ZZ295621));replace HO639:=Aside0.mk (Kd.R_elder' ZZ75494e (Kd.R_base ho0) hb);replace HO648:=Aside0.mk (Kd.R_elder' (by refine bR ?_;exact (Kd.R_mono (Kd.R_far (p:=⟨gb653,1,none⟩) (Kd.R_far (p:=⟨gb653,0,none⟩) (Kd.R_types HO648.out BK653.out (by decide)) (fun _ hk => hk.2) (.slice Ao15 t646.length co15)) (fun _ hk => hk.2) (.slice Ao18 t649.length co18)) (fun _ h_ => h_.1))) (Kd.R_base ho0) hb);have HO659:=Aside0.mk (Kd.S_lower (Kd.S_new' (Kd.S_new' ho1 (Kd.S_lt ZZc80f49)) (Kd.S_lt (by refine bS ?_;exact (Kd.S_mono (Kd.S_far (p:=⟨gb653,1,none⟩) (Kd.S_far (p:=⟨gb653,0,none⟩) (Kd.S_types HO651.out BK653.out (by decide)) (fun _ hk => hk.2) (.slice Ao15 t646.length co15)) (fun _ hk => hk.2) (.slice Ao18 t649.length co18)) (fun _ h_ => h_.1))))) (below_size ZZ295621));replace HO642:=Aside0.mk (Kd.S_elder' ZZc80f49 (Kd.S_base ho1) hb);replace HO651:=Aside0.mk (Kd.S_elder' (by refine bS ?_;exact (Kd.S_mono (Kd.S_far (p:=⟨gb653,1,none⟩) (Kd.S_far (p:=⟨gb653,0,none⟩) (Kd.S_types HO651.out BK653.out (by decide)) (fun _ hk => hk.2) (.slice Ao15 t646.length co15)) (fun _ hk => hk.2) (.slice Ao18 t649.length co18)) (fun _ h_ => h_.1))) (Kd.S_base ho1) hb);replace BK645:=Aside0.mk (blk_below (g:=gb645) (o:=.cells #[.slice Ao10 t637.length co10,.slice Ao12 t640.length co12] 31 (0,0)) (by refine bd ?_;refine blk_far ?_ NB645_653.out _;refine bd ?_;refine blk_far ?_ NB645_653.out _;refine bd ?_;exact BK645.out) hb);replace BK653:=Aside0.mk (blk_below (g:=gb653) (o:=.cells #[.slice Ao15 t646.length co15,.slice Ao18 t649.length co18] 31 (0,0)) (by refine bd ?_;refine blk_put (cs:=#[.slice Ao15 t646.length co15,.slice none 0 0]) ?_ 1 _ rfl;refine bd ?_;refine blk_put (cs:=#[.slice none 0 0,.slice none 0 0]) ?_ 0 _ rfl;refine bd ?_;exact BK653.out) hb);replace HB:=hB hb;(try clear hb);(try clear hb2);(try clear hk);(try clear hi);(try clear ho0);(try clear ho1)) | ((with_reducible refine gate_dst (N:=8) rfl ?_);(try (refine gate_guard (by rfl) ?_;dsimp only));refine bx 8 (cs:=#[.slice none 0 0,.slice none 0 0]) (t:=31) ?_;intro gb661 hg w21 hbox hb;replace HO639:=Aside0.mk (Kd.R_below (zR HO639) hb);replace HO642:=Aside0.mk (Kd.S_below (zS HO642) hb);replace HO648:=Aside0.mk (Kd.R_below (zR HO648) hb);replace HO651:=Aside0.mk (Kd.S_below (zS HO651) hb);replace HO656:=Aside0.mk (Kd.R_below (zR HO656) hb);replace HO659:=Aside0.mk (Kd.S_below (zS HO659) hb);have BK661:=Aside0.mk (hbox);have GW661:=gw hg;have GE661:=gw hg;replace HB:=hB hb;have NB645_661:=nl hg BK645;have NB661_645:=ng hg BK645;replace BK645:=kb BK645 hb;have NB653_661:=nl hg BK653;have NB661_653:=ng hg BK653;replace BK653:=kb BK653 hb;clear hb hbox hg;obtain ⟨Ao22,co22,eo22⟩:=Kd.R_slice HO656.out;subst eo22;have hnb23:=NB661_645.out;have hnc23:=NB645_661.out;have hnb24:=NB661_653.out;have hnc24:=NB653_661.out;obtain ⟨hcz25_0,hcz25_1,hfz25_0,hfz25_1⟩:=z2 BK661;obtain ⟨Ao26,co26,eo26⟩:=Kd.S_slice HO659.out;subst eo26))
 (try simp only [Act.put,List.setIfInBounds_toArray,List.set_cons_zero,List.set_cons_succ])
 go_cut [47] (fun v47 wc => ∃ (kq : Nat) (x47_6 : Bool),v47 = .bool x47_6 ∧ Aside0 (laws_FnClosing.j0 kq t644 t652 t660 x47_6 t637 t640 t646 t649 = some r) ∧ Aside0 (kq ≤ k) ∧ Aside0 (Kd.R k48 48 wc w.heap.size (fun k_ => some k_ ≠ ((.slice Ao15 t646.length co15) : Value).ownBlock ∧ some k_ ≠ ((.slice Ao22 t654.length co22) : Value).ownBlock) (.slice Ao10 t637.length co10) t637) ∧ Aside0 (Kd.S k63 63 wc w.heap.size (fun k_ => some k_ ≠ ((.slice Ao18 t649.length co18) : Value).ownBlock ∧ some k_ ≠ ((.slice Ao26 t657.length co26) : Value).ownBlock) (.slice Ao12 t640.length co12) t640) ∧ Aside0 (Kd.R k48 48 wc w.heap.size (fun k_ => some k_ ≠ ((.slice Ao10 t637.length co10) : Value).ownBlock ∧ some k_ ≠ ((.slice Ao22 t654.length co22) : Value).ownBlock) (.slice Ao15 t646.length co15) t646) ∧ Aside0 (Kd.S k63 63 wc w.heap.size (fun k_ => some k_ ≠ ((.slice Ao12 t640.length co12) : Value).ownBlock ∧ some k_ ≠ ((.slice Ao26 t657.length co26) : Value).ownBlock) (.slice Ao18 t649.length co18) t649) ∧ Aside0 (Kd.R k48 48 wc w.heap.size (fun k_ => some k_ ≠ ((.slice Ao10 t637.length co10) : Value).ownBlock ∧ some k_ ≠ ((.slice Ao15 t646.length co15) : Value).ownBlock) (.slice Ao22 t654.length co22) t654) ∧ Aside0 (Kd.S k63 63 wc w.heap.size (fun k_ => some k_ ≠ ((.slice Ao12 t640.length co12) : Value).ownBlock ∧ some k_ ≠ ((.slice Ao18 t649.length co18) : Value).ownBlock) (.slice Ao26 t657.length co26) t657) ∧ Aside0 (wc.heap[gb645]? = some (.cells #[(.slice Ao10 t637.length co10),(.slice Ao12 t640.length co12)] 31 (0,0))) ∧ Aside0 (wc.heap[gb653]? = some (.cells #[(.slice Ao15 t646.length co15),(.slice Ao18 t649.length co18)] 31 (0,0))) ∧ Aside0 (wc.heap[gb661]? = some (.cells #[(.slice Ao22 t654.length co22),(.slice Ao26 t657.length co26)] 31 (0,0))) ∧ Aside0 (Below w.heap.size w wc))
 case first =>
  have H:=HC7.out;clear HC7;by_cases c27 : (t652 != t660) = true
  ·rw [if_pos c27] at H;have c27b0 : (t652 != t660) = true:=c27;(try (have c27b1 : decide (t652 = t660) = false:=by simpa using c27));(try (have c27b2 : (t652 == t660) = false:=by simpa using c27));(try (have c27b3 : ¬ (t652 = t660):=by simpa using c27));clear c27;(first | rw [c27b0] | (simp only [i64_w,i32_w];rw [c27b0]) | skip);replace H:=Aside0.mk H;go_wp2;go_meet
   case rel => exact ⟨_,(true),ZZ0ab324,H,kle,⟨(by refine bR ?_;exact Kd.R_mono (Kd.R_far (p:=⟨gb661,1,none⟩) (Kd.R_far (p:=⟨gb661,0,none⟩) (Kd.R_types HO639.out BK661.out (by decide)) (fun _ hk => hk.2) (.slice Ao22 t654.length co22)) (fun _ hk => hk.2) (.slice Ao26 t657.length co26)) (fun _ hk => ⟨hk.1.1.2,hk.1.2⟩))⟩,⟨(by refine bS ?_;exact Kd.S_mono (Kd.S_far (p:=⟨gb661,1,none⟩) (Kd.S_far (p:=⟨gb661,0,none⟩) (Kd.S_types HO642.out BK661.out (by decide)) (fun _ hk => hk.2) (.slice Ao22 t654.length co22)) (fun _ hk => hk.2) (.slice Ao26 t657.length co26)) (fun _ hk => ⟨hk.1.1.2,hk.1.2⟩))⟩,⟨(by refine bR ?_;exact Kd.R_mono (Kd.R_far (p:=⟨gb661,1,none⟩) (Kd.R_far (p:=⟨gb661,0,none⟩) (Kd.R_types HO648.out BK661.out (by decide)) (fun _ hk => hk.2) (.slice Ao22 t654.length co22)) (fun _ hk => hk.2) (.slice Ao26 t657.length co26)) (fun _ hk => ⟨hk.1.1.2,hk.1.2⟩))⟩,⟨(by refine bS ?_;exact Kd.S_mono (Kd.S_far (p:=⟨gb661,1,none⟩) (Kd.S_far (p:=⟨gb661,0,none⟩) (Kd.S_types HO651.out BK661.out (by decide)) (fun _ hk => hk.2) (.slice Ao22 t654.length co22)) (fun _ hk => hk.2) (.slice Ao26 t657.length co26)) (fun _ hk => ⟨hk.1.1.2,hk.1.2⟩))⟩,⟨(by refine bR ?_;exact Kd.R_mono (Kd.R_far (p:=⟨gb661,1,none⟩) (Kd.R_far (p:=⟨gb661,0,none⟩) (Kd.R_types HO656.out BK661.out (by decide)) (fun _ hk => hk.2) (.slice Ao22 t654.length co22)) (fun _ hk => hk.2) (.slice Ao26 t657.length co26)) (fun _ hk => ⟨hk.1.1.2,hk.1.2⟩))⟩,⟨(by refine bS ?_;exact Kd.S_mono (Kd.S_far (p:=⟨gb661,1,none⟩) (Kd.S_far (p:=⟨gb661,0,none⟩) (Kd.S_types HO659.out BK661.out (by decide)) (fun _ hk => hk.2) (.slice Ao22 t654.length co22)) (fun _ hk => hk.2) (.slice Ao26 t657.length co26)) (fun _ hk => ⟨hk.1.1.2,hk.1.2⟩))⟩,⟨(by refine bd ?_;refine blk_far ?_ NB645_661.out _;refine bd ?_;refine blk_far ?_ NB645_661.out _;refine bd ?_;exact BK645.out)⟩,⟨(by refine bd ?_;refine blk_far ?_ NB653_661.out _;refine bd ?_;refine blk_far ?_ NB653_661.out _;refine bd ?_;exact BK653.out)⟩,⟨(by refine bd ?_;refine blk_put (cs:=#[.slice Ao22 t654.length co22,.slice none 0 0]) ?_ 1 _ rfl;refine bd ?_;refine blk_put (cs:=#[.slice none 0 0,.slice none 0 0]) ?_ 0 _ rfl;refine bd ?_;exact BK661.out)⟩,⟨ZZ295621⟩⟩
  rw [if_neg c27] at H;have c27b0 : (t652 != t660) = false:=by simpa using c27
  (try (have c27b1 : decide (t652 = t660) = true:=by simpa using c27));(try (have c27b2 : (t652 == t660) = true:=by simpa using c27));clear c27;(first | rw [c27b0] | (simp only [i64_w,i32_w];rw [c27b0]) | skip);replace H:=Aside0.mk H;go_wp2;go_meet
  case rel => exact ⟨_,(!t652),ZZ0ab324,H,kle,⟨(by refine bR ?_;exact Kd.R_mono (Kd.R_far (p:=⟨gb661,1,none⟩) (Kd.R_far (p:=⟨gb661,0,none⟩) (Kd.R_types HO639.out BK661.out (by decide)) (fun _ hk => hk.2) (.slice Ao22 t654.length co22)) (fun _ hk => hk.2) (.slice Ao26 t657.length co26)) (fun _ hk => ⟨hk.1.1.2,hk.1.2⟩))⟩,⟨(by refine bS ?_;exact Kd.S_mono (Kd.S_far (p:=⟨gb661,1,none⟩) (Kd.S_far (p:=⟨gb661,0,none⟩) (Kd.S_types HO642.out BK661.out (by decide)) (fun _ hk => hk.2) (.slice Ao22 t654.length co22)) (fun _ hk => hk.2) (.slice Ao26 t657.length co26)) (fun _ hk => ⟨hk.1.1.2,hk.1.2⟩))⟩,⟨(by refine bR ?_;exact Kd.R_mono (Kd.R_far (p:=⟨gb661,1,none⟩) (Kd.R_far (p:=⟨gb661,0,none⟩) (Kd.R_types HO648.out BK661.out (by decide)) (fun _ hk => hk.2) (.slice Ao22 t654.length co22)) (fun _ hk => hk.2) (.slice Ao26 t657.length co26)) (fun _ hk => ⟨hk.1.1.2,hk.1.2⟩))⟩,⟨(by refine bS ?_;exact Kd.S_mono (Kd.S_far (p:=⟨gb661,1,none⟩) (Kd.S_far (p:=⟨gb661,0,none⟩) (Kd.S_types HO651.out BK661.out (by decide)) (fun _ hk => hk.2) (.slice Ao22 t654.length co22)) (fun _ hk => hk.2) (.slice Ao26 t657.length co26)) (fun _ hk => ⟨hk.1.1.2,hk.1.2⟩))⟩,⟨(by refine bR ?_;exact Kd.R_mono (Kd.R_far (p:=⟨gb661,1,none⟩) (Kd.R_far (p:=⟨gb661,0,none⟩) (Kd.R_types HO656.out BK661.out (by decide)) (fun _ hk => hk.2) (.slice Ao22 t654.length co22)) (fun _ hk => hk.2) (.slice Ao26 t657.length co26)) (fun _ hk => ⟨hk.1.1.2,hk.1.2⟩))⟩,⟨(by refine bS ?_;exact Kd.S_mono (Kd.S_far (p:=⟨gb661,1,none⟩) (Kd.S_far (p:=⟨gb661,0,none⟩) (Kd.S_types HO659.out BK661.out (by decide)) (fun _ hk => hk.2) (.slice Ao22 t654.length co22)) (fun _ hk => hk.2) (.slice Ao26 t657.length co26)) (fun _ hk => ⟨hk.1.1.2,hk.1.2⟩))⟩,⟨(by refine bd ?_;refine blk_far ?_ NB645_661.out _;refine bd ?_;refine blk_far ?_ NB645_661.out _;refine bd ?_;exact BK645.out)⟩,⟨(by refine bd ?_;refine blk_far ?_ NB653_661.out _;refine bd ?_;refine blk_far ?_ NB653_661.out _;refine bd ?_;exact BK653.out)⟩,⟨(by refine bd ?_;refine blk_put (cs:=#[.slice Ao22 t654.length co22,.slice none 0 0]) ?_ 1 _ rfl;refine bd ?_;refine blk_put (cs:=#[.slice none 0 0,.slice none 0 0]) ?_ 0 _ rfl;refine bd ?_;exact BK661.out)⟩,⟨ZZ295621⟩⟩
 case rest =>
  clear HC7;try clear c3
  try clear c27
  try clear c27b0
  try clear c27b1
  try clear c27b2
  try clear hcz11_0
  try clear hcz11_1
  try clear hcz17_0
  try clear hcz17_1
  try clear hcz19_0
  try clear hcz19_1
  try clear hcz25_0
  try clear hcz25_1
  try clear hfz11_0
  try clear hfz11_1
  try clear hfz17_0
  try clear hfz17_1
  try clear hfz19_0
  try clear hfz19_1
  try clear hfz25_0
  try clear hfz25_1
  obtain ⟨kq,x47_6,rfl,HA,HJ6,HO_646000,HO_646001,HO_654000,HO_654001,HO_662000,HO_662001,BK645,BK653,BK661,HB⟩:=hcut
  cases kq with
  | zero => exact absurd HA.out (by simp [laws_FnClosing.j0])
  | succ kj6 =>
   have H:=HA.out;clear HA;simp only [laws_FnClosing.j0] at H;by_cases c28 : x47_6 = true
   ·subst c28;replace H:=ifT H;by_cases c29 : (t652 == t660) = true
    ·rw [if_pos c29] at H;have c29b0 : (t652 == t660) = true:=c29;(try (have c29b1 : decide (t652 = t660) = true:=by simpa using c29));(try (have c29b2 : (t652 == t660) = true:=by simpa using c29));clear c29;obtain rfl:=Option.some.inj H;have hnb30:=NB653_645.out;have hnc30:=NB645_653.out;have hnb31:=NB653_661.out;have hnc31:=NB661_653.out;obtain ⟨hcz32_0,hcz32_1,hfz32_0,hfz32_1⟩:=z2 BK653;go_wp2;go_ret;exact ⟨ZZab01d2,ZZ295621⟩
    rw [if_neg c29] at H;have c29b0 : (t652 == t660) = false:=by simpa using c29
    (try (have c29b1 : decide (t652 = t660) = false:=by simpa using c29));(try (have c29b2 : (t652 == t660) = false:=by simpa using c29));(try (have c29b3 : ¬ (t652 = t660):=by simpa using c29));clear c29;obtain rfl:=Option.some.inj H;go_wp2;go_ret;exact ⟨ZZab01d2,ZZ295621⟩
   replace c28:=Bool.eq_false_iff.mpr c28;subst c28;replace H:=ifF H;obtain ⟨⟨t662,t665,t666⟩,A33,H⟩:=bdY H;try dsimp only at H
   have HC34:=Aside0.mk H;clear H;have hnb35:=NB653_645.out;have hnc35:=NB645_653.out;have hnb36:=NB653_661.out;have hnc36:=NB661_653.out;obtain ⟨hcz37_0,hcz37_1,hfz37_0,hfz37_1⟩:=z2 BK653;go_upto_region 9 with (first | (refine gc 60 Tryd.func27 #[.agg #[.slice Ao15 t646.length co15,.slice Ao18 t649.length co18],.int .i64 t644] ?_;(with_reducible refine (impl_TrialBalance.calls kj6 _ _ t646 _ _ t649 t644 t662 t665 t666 _ ?side1 ?side2 ?side3 ?side4 A33.out).mono ?_);(case side1 => exact rC (Kd.R_reads' HO_654000.out).2.2);(case side2 => exact (Kd.R_reads' HO_654000.out).2.1);(case side3 => exact rC (Kd.S_reads' HO_654001.out).2.2);(case side4 => exact (Kd.S_reads' HO_654001.out).2.1);rintro e w38 ⟨v663,rfl,ho0,hb⟩;refine ⟨_,rfl,?_⟩;replace HO_646000:=Aside0.mk (Kd.R_below (zR HO_646000) hb);replace HO_646001:=Aside0.mk (Kd.S_below (zS HO_646001) hb);replace HO_654000:=Aside0.mk (Kd.R_below (zR HO_654000) hb);replace HO_654001:=Aside0.mk (Kd.S_below (zS HO_654001) hb);replace HO_662000:=Aside0.mk (Kd.R_below (zR HO_662000) hb);replace HO_662001:=Aside0.mk (Kd.S_below (zS HO_662001) hb);have HO664:=Aside0.mk (Kd.R_lower ho0 (below_size ZZ295621));replace BK645:=kb BK645 hb;replace BK653:=kb BK653 hb;replace BK661:=kb BK661 hb;replace HB:=hB hb;(try clear hb);(try clear hb2);(try clear hk);(try clear hi);(try clear ho0)))
   (try simp only [Act.put,List.setIfInBounds_toArray,List.set_cons_zero,List.set_cons_succ])
   go_cut [73] (fun v73 wc => ∃ (kq : Nat) (x73_33 : Bool),v73 = .bool x73_33 ∧ Aside0 (laws_FnClosing.j1 kq t644 t662 x73_33 t637 t640 t646 t649 = some r) ∧ Aside0 (kq ≤ kj6) ∧ Aside0 (Kd.R (Kd.int .i64) 3 wc w.heap.size (fun _ => True) v663 t662) ∧ Aside0 (Kd.R k48 48 wc w.heap.size (fun k_ => some k_ ≠ ((.slice Ao15 t646.length co15) : Value).ownBlock ∧ some k_ ≠ ((.slice Ao22 t654.length co22) : Value).ownBlock) (.slice Ao10 t637.length co10) t637) ∧ Aside0 (Kd.S k63 63 wc w.heap.size (fun k_ => some k_ ≠ ((.slice Ao18 t649.length co18) : Value).ownBlock ∧ some k_ ≠ ((.slice Ao26 t657.length co26) : Value).ownBlock) (.slice Ao12 t640.length co12) t640) ∧ Aside0 (Kd.R k48 48 wc w.heap.size (fun k_ => some k_ ≠ ((.slice Ao10 t637.length co10) : Value).ownBlock ∧ some k_ ≠ ((.slice Ao22 t654.length co22) : Value).ownBlock) (.slice Ao15 t646.length co15) t646) ∧ Aside0 (Kd.S k63 63 wc w.heap.size (fun k_ => some k_ ≠ ((.slice Ao12 t640.length co12) : Value).ownBlock ∧ some k_ ≠ ((.slice Ao26 t657.length co26) : Value).ownBlock) (.slice Ao18 t649.length co18) t649) ∧ Aside0 (Kd.R k48 48 wc w.heap.size (fun k_ => some k_ ≠ ((.slice Ao10 t637.length co10) : Value).ownBlock ∧ some k_ ≠ ((.slice Ao15 t646.length co15) : Value).ownBlock) (.slice Ao22 t654.length co22) t654) ∧ Aside0 (Kd.S k63 63 wc w.heap.size (fun k_ => some k_ ≠ ((.slice Ao12 t640.length co12) : Value).ownBlock ∧ some k_ ≠ ((.slice Ao18 t649.length co18) : Value).ownBlock) (.slice Ao26 t657.length co26) t657) ∧ Aside0 (wc.heap[gb645]? = some (.cells #[(.slice Ao10 t637.length co10),(.slice Ao12 t640.length co12)] 31 (0,0))) ∧ Aside0 (wc.heap[gb653]? = some (.cells #[(.slice Ao15 t646.length co15),(.slice Ao18 t649.length co18)] 31 (0,0))) ∧ Aside0 (wc.heap[gb661]? = some (.cells #[(.slice Ao22 t654.length co22),(.slice Ao26 t657.length co26)] 31 (0,0))) ∧ Aside0 (Below w.heap.size w wc))
   case first =>
    have H:=HC34.out;clear HC34;by_cases c39 : t666 = true
    ·subst c39;replace H:=ifT H;replace H:=Aside0.mk H;obtain ⟨Ao40,co40,eo40⟩:=Kd.R_slice HO664.out;subst eo40;have hnb41:=NB645_653.out;have hnc41:=NB653_645.out;have hnb42:=NB645_661.out;have hnc42:=NB661_645.out;obtain ⟨hcz43_0,hcz43_1,hfz43_0,hfz43_1⟩:=z2 BK645;go_wp2;go_meet
     case rel => exact ⟨_,(((t662.length : Int) != (t637.length : Int))),ZZ0ab324,H,kle,⟨(zR HO664)⟩,⟨(zR HO_646000)⟩,⟨(zS HO_646001)⟩,⟨(zR HO_654000)⟩,⟨(zS HO_654001)⟩,⟨(zR HO_662000)⟩,⟨(zS HO_662001)⟩,⟨(zB BK645)⟩,⟨(zB BK653)⟩,⟨(zB BK661)⟩,⟨ZZ295621⟩⟩
    replace c39:=Bool.eq_false_iff.mpr c39;subst c39;replace H:=ifF H;replace H:=Aside0.mk H;go_wp2;go_meet
    case rel => exact ⟨_,(true),ZZ0ab324,H,kle,⟨(zR HO664)⟩,⟨(zR HO_646000)⟩,⟨(zS HO_646001)⟩,⟨(zR HO_654000)⟩,⟨(zS HO_654001)⟩,⟨(zR HO_662000)⟩,⟨(zS HO_662001)⟩,⟨(zB BK645)⟩,⟨(zB BK653)⟩,⟨(zB BK661)⟩,⟨ZZ295621⟩⟩
   case rest =>
    clear HC34;try clear c28
    try clear c29b0
    try clear c29b1
    try clear c29b2
    try clear c39
    try clear hcz32_0
    try clear hcz32_1
    try clear hcz37_0
    try clear hcz37_1
    try clear hcz43_0
    try clear hcz43_1
    try clear hfz32_0
    try clear hfz32_1
    try clear hfz37_0
    try clear hfz37_1
    try clear hfz43_0
    try clear hfz43_1
    obtain ⟨kq,x73_33,rfl,HA,HJ33,HO_10,HO_646000,HO_646001,HO_654000,HO_654001,HO_662000,HO_662001,BK645,BK653,BK661,HB⟩:=hcut
    cases kq with
    | zero => exact absurd HA.out (by simp [laws_FnClosing.j1])
    | succ kj33 =>
     have H:=HA.out;clear HA;simp only [laws_FnClosing.j1] at H;by_cases c44 : x73_33 = true
     ·subst c44;replace H:=ifT H;obtain rfl:=Option.some.inj H;go_wp2;go_ret;exact ⟨ZZab01d2,ZZ295621⟩
     replace c44:=Bool.eq_false_iff.mpr c44;subst c44;replace H:=ifF H;replace H:=Aside0.mk H;go_wp2
     go_loopg [13] kj33 (fun kq v13 w' => ∃ (x13_3 : Int),v13 = .int .i64 x13_3 ∧ Aside0 (laws_FnClosing.l0 kq t644 t662 x13_3 t637 t640 t646 t649 = some r) ∧ Aside0 (kq ≤ kj33) ∧ Aside0 (Kd.R (Kd.int .i64) 3 w' w.heap.size (fun _ => True) v663 t662) ∧ Aside0 (Kd.R k48 48 w' w.heap.size (fun k_ => some k_ ≠ ((.slice Ao15 t646.length co15) : Value).ownBlock ∧ some k_ ≠ ((.slice Ao22 t654.length co22) : Value).ownBlock) (.slice Ao10 t637.length co10) t637) ∧ Aside0 (Kd.S k63 63 w' w.heap.size (fun k_ => some k_ ≠ ((.slice Ao18 t649.length co18) : Value).ownBlock ∧ some k_ ≠ ((.slice Ao26 t657.length co26) : Value).ownBlock) (.slice Ao12 t640.length co12) t640) ∧ Aside0 (Kd.R k48 48 w' w.heap.size (fun k_ => some k_ ≠ ((.slice Ao10 t637.length co10) : Value).ownBlock ∧ some k_ ≠ ((.slice Ao22 t654.length co22) : Value).ownBlock) (.slice Ao15 t646.length co15) t646) ∧ Aside0 (Kd.S k63 63 w' w.heap.size (fun k_ => some k_ ≠ ((.slice Ao12 t640.length co12) : Value).ownBlock ∧ some k_ ≠ ((.slice Ao26 t657.length co26) : Value).ownBlock) (.slice Ao18 t649.length co18) t649) ∧ Aside0 (Kd.R k48 48 w' w.heap.size (fun k_ => some k_ ≠ ((.slice Ao10 t637.length co10) : Value).ownBlock ∧ some k_ ≠ ((.slice Ao15 t646.length co15) : Value).ownBlock) (.slice Ao22 t654.length co22) t654) ∧ Aside0 (Kd.S k63 63 w' w.heap.size (fun k_ => some k_ ≠ ((.slice Ao12 t640.length co12) : Value).ownBlock ∧ some k_ ≠ ((.slice Ao18 t649.length co18) : Value).ownBlock) (.slice Ao26 t657.length co26) t657) ∧ Aside0 (w'.heap[gb645]? = some (.cells #[(.slice Ao10 t637.length co10),(.slice Ao12 t640.length co12)] 31 (0,0))) ∧ Aside0 (w'.heap[gb653]? = some (.cells #[(.slice Ao15 t646.length co15),(.slice Ao18 t649.length co18)] 31 (0,0))) ∧ Aside0 (w'.heap[gb661]? = some (.cells #[(.slice Ao22 t654.length co22),(.slice Ao26 t657.length co26)] 31 (0,0))) ∧ Aside0 (Below w.heap.size w w'))
     case atStart => exact ⟨(0),ZZ0ab324,H,⟨Nat.le_refl _⟩,⟨(zR HO_10)⟩,⟨(zR HO_646000)⟩,⟨(zS HO_646001)⟩,⟨(zR HO_654000)⟩,⟨(zS HO_654001)⟩,⟨(zR HO_662000)⟩,⟨(zS HO_662001)⟩,⟨(zB BK645)⟩,⟨(zB BK653)⟩,⟨(zB BK661)⟩,⟨ZZ295621⟩⟩
     case round =>
      clear H;try clear c44
      obtain ⟨x13_3,rfl,HA,HK3,HO_10,HO_646000,HO_646001,HO_654000,HO_654001,HO_662000,HO_662001,BK645,BK653,BK661,HB⟩:=hrel
      cases gk with
      | zero => exact absurd HA.out (by simp [laws_FnClosing.l0])
      | succ k3 =>
       have H:=HA.out;clear HA;simp only [laws_FnClosing.l0] at H;by_cases c45 : x13_3 < (t662.length : Int)
       ·rw [if_pos c45] at H;have c45b0:=decide_eq_true c45;clear c45;obtain ⟨c46b0,H⟩:=ifYd H;obtain ⟨c47b0,H⟩:=ifYd H;have HC48:=Aside0.mk H;clear H;obtain ⟨Ao49,co49,eo49⟩:=Kd.R_slice HO_10.out;subst eo49;have hnb50:=NB645_653.out;have hnc50:=NB653_645.out;have hnb51:=NB645_661.out;have hnc51:=NB661_645.out;obtain ⟨hcz52_0,hcz52_1,hfz52_0,hfz52_1⟩:=z2 BK645;have p667 : 0 ≤ (x13_3 : Int):=of_decide_eq_true ZZ853400;have q667 : x13_3 < (t637.length : Int):=of_decide_eq_true ZZ853400;obtain ⟨ad667,e667,hx667_0,hx667_1⟩:=at_T48 (Kd.R_reads' HO_646000.out).2.2 x13_3 p667 q667
        cases e667
        replace p667:=eq_true p667;replace q667:=eq_true q667;go_upto_region 15 with (fail)
        go_cut [98] (fun v98 wc => ∃ (kq : Nat) (x98_47 : Bool),v98 = .bool x98_47 ∧ Aside0 (laws_FnClosing.j3 kq t644 t662 x13_3 x98_47 t637 t640 t646 t649 = some r) ∧ Aside0 (kq ≤ k3) ∧ Aside0 (Kd.R (Kd.int .i64) 3 wc w.heap.size (fun _ => True) (.slice Ao49 t662.length co49) t662) ∧ Aside0 (Kd.R k48 48 wc w.heap.size (fun k_ => some k_ ≠ ((.slice Ao15 t646.length co15) : Value).ownBlock ∧ some k_ ≠ ((.slice Ao22 t654.length co22) : Value).ownBlock) (.slice (some ad667) t637.length co10) t637) ∧ Aside0 (Kd.S k63 63 wc w.heap.size (fun k_ => some k_ ≠ ((.slice Ao18 t649.length co18) : Value).ownBlock ∧ some k_ ≠ ((.slice Ao26 t657.length co26) : Value).ownBlock) (.slice Ao12 t640.length co12) t640) ∧ Aside0 (Kd.R k48 48 wc w.heap.size (fun k_ => some k_ ≠ ((.slice (some ad667) t637.length co10) : Value).ownBlock ∧ some k_ ≠ ((.slice Ao22 t654.length co22) : Value).ownBlock) (.slice Ao15 t646.length co15) t646) ∧ Aside0 (Kd.S k63 63 wc w.heap.size (fun k_ => some k_ ≠ ((.slice Ao12 t640.length co12) : Value).ownBlock ∧ some k_ ≠ ((.slice Ao26 t657.length co26) : Value).ownBlock) (.slice Ao18 t649.length co18) t649) ∧ Aside0 (Kd.R k48 48 wc w.heap.size (fun k_ => some k_ ≠ ((.slice (some ad667) t637.length co10) : Value).ownBlock ∧ some k_ ≠ ((.slice Ao15 t646.length co15) : Value).ownBlock) (.slice Ao22 t654.length co22) t654) ∧ Aside0 (Kd.S k63 63 wc w.heap.size (fun k_ => some k_ ≠ ((.slice Ao12 t640.length co12) : Value).ownBlock ∧ some k_ ≠ ((.slice Ao18 t649.length co18) : Value).ownBlock) (.slice Ao26 t657.length co26) t657) ∧ Aside0 (wc.heap[gb645]? = some (.cells #[(.slice (some ad667) t637.length co10),(.slice Ao12 t640.length co12)] 31 (0,0))) ∧ Aside0 (wc.heap[gb653]? = some (.cells #[(.slice Ao15 t646.length co15),(.slice Ao18 t649.length co18)] 31 (0,0))) ∧ Aside0 (wc.heap[gb661]? = some (.cells #[(.slice Ao22 t654.length co22),(.slice Ao26 t657.length co26)] 31 (0,0))) ∧ Aside0 (Below w.heap.size w wc))
        case first =>
         have H:=HC48.out;clear HC48;by_cases c53 : ((rd_T48 t637 x13_3).f1) = 4
         ·rw [if_pos c53] at H;have c53b0:=beq_iff_eq.mpr c53;have c53b1:=bne_eq_false_iff_eq.mpr c53;clear c53;(first | rw [c53b0] | (simp only [i64_w,i32_w];rw [c53b0]) | skip);replace H:=Aside0.mk H;have p668 : 0 ≤ (x13_3 : Int):=of_decide_eq_true ZZ853400;have q668 : x13_3 < (t662.length : Int):=of_decide_eq_true ZZ853400;obtain ⟨ad668,e668,hx668_0⟩:=Kd.at_int (Kd.R_reads' HO_10.out).2.2 x13_3 p668 q668
          cases e668
          replace p668:=eq_true p668;replace q668:=eq_true q668;go_wp2;go_meet
          case rel => exact ⟨_,(((rd t662 x13_3) != 0)),ZZ0ab324,H,kle,⟨(zR HO_10)⟩,⟨(zR HO_646000)⟩,⟨(zS HO_646001)⟩,⟨(zR HO_654000)⟩,⟨(zS HO_654001)⟩,⟨(zR HO_662000)⟩,⟨(zS HO_662001)⟩,⟨(zB BK645)⟩,⟨(zB BK653)⟩,⟨(zB BK661)⟩,⟨ZZ295621⟩⟩
         rw [if_neg c53] at H;have c53b0:=beq_eq_false_iff_ne.mpr c53;have c53b1:=bne_iff_ne.mpr c53;(first | rw [c53b0] | (simp only [i64_w,i32_w];rw [c53b0]) | skip);by_cases c54 : ((rd_T48 t637 x13_3).f1) = 5
         ·rw [if_pos c54] at H;have c54b0:=beq_iff_eq.mpr c54;have c54b1:=bne_eq_false_iff_eq.mpr c54;clear c54;replace H:=Aside0.mk H;have p669 : 0 ≤ (x13_3 : Int):=of_decide_eq_true ZZ853400;have q669 : x13_3 < (t662.length : Int):=of_decide_eq_true ZZ853400;obtain ⟨ad669,e669,hx669_0⟩:=Kd.at_int (Kd.R_reads' HO_10.out).2.2 x13_3 p669 q669
          cases e669
          replace p669:=eq_true p669;replace q669:=eq_true q669;go_wp2;go_meet
          case rel => exact ⟨_,(((rd t662 x13_3) != 0)),ZZ0ab324,H,kle,⟨(zR HO_10)⟩,⟨(zR HO_646000)⟩,⟨(zS HO_646001)⟩,⟨(zR HO_654000)⟩,⟨(zS HO_654001)⟩,⟨(zR HO_662000)⟩,⟨(zS HO_662001)⟩,⟨(zB BK645)⟩,⟨(zB BK653)⟩,⟨(zB BK661)⟩,⟨ZZ295621⟩⟩
         rw [if_neg c54] at H;have c54b0:=beq_eq_false_iff_ne.mpr c54;have c54b1:=bne_iff_ne.mpr c54;replace H:=Aside0.mk H;go_wp2;go_meet
         case rel => exact ⟨_,(false),ZZ0ab324,H,kle,⟨(zR HO_10)⟩,⟨(zR HO_646000)⟩,⟨(zS HO_646001)⟩,⟨(zR HO_654000)⟩,⟨(zS HO_654001)⟩,⟨(zR HO_662000)⟩,⟨(zS HO_662001)⟩,⟨(zB BK645)⟩,⟨(zB BK653)⟩,⟨(zB BK661)⟩,⟨ZZ295621⟩⟩
        case rest =>
         clear HC48;try clear c45b0
         try clear c46b0
         try clear c47b0
         try clear c53
         try clear c53b0
         try clear c53b1
         try clear c54
         try clear c54b0
         try clear c54b1
         try clear hcz52_0
         try clear hcz52_1
         try clear hfz52_0
         try clear hfz52_1
         try clear hx667_0
         try clear hx667_1
         try clear hx668_0
         try clear hx669_0
         try clear p667
         try clear p668
         try clear p669
         try clear q667
         try clear q668
         try clear q669
         obtain ⟨kq,x98_47,rfl,HA,HJ47,HO_10,HO_646000,HO_646001,HO_654000,HO_654001,HO_662000,HO_662001,BK645,BK653,BK661,HB⟩:=hcut
         cases kq with
         | zero => exact absurd HA.out (by simp [laws_FnClosing.j3])
         | succ kj47 =>
          have H:=HA.out;clear HA;simp only [laws_FnClosing.j3] at H;by_cases c55 : x98_47 = true
          ·subst c55;replace H:=ifT H;obtain rfl:=Option.some.inj H;go_wp2;go_ret;exact ⟨ZZab01d2,ZZ295621⟩
          replace c55:=Bool.eq_false_iff.mpr c55;subst c55;replace H:=ifF H;replace H:=Aside0.mk H;go_wp2
          go_roundg kj47
          case measure => have:=HJ6.out;have:=HJ33.out;have:=HK3.out;have:=HJ47.out;omega
          case rel => exact ⟨(wrap64 (x13_3 + 1)),ZZ0ab324,‹_›,kle,⟨(zR HO_10)⟩,⟨(zR HO_646000)⟩,⟨(zS HO_646001)⟩,⟨(zR HO_654000)⟩,⟨(zS HO_654001)⟩,⟨(zR HO_662000)⟩,⟨(zS HO_662001)⟩,⟨(zB BK645)⟩,⟨(zB BK653)⟩,⟨(zB BK661)⟩,⟨ZZ295621⟩⟩
       rw [if_neg c45] at H;have c45b0:=decide_eq_false c45;clear c45;obtain ⟨⟨t670,t671⟩,A56,H⟩:=bdY H;try dsimp only at H
       obtain ⟨⟨t672,t673⟩,A57,H⟩:=bdY H;try dsimp only at H
       by_cases c58 : (t671 == t673) = true
       ·rw [if_pos c58] at H;have c58b0 : (t671 == t673) = true:=c58;(try (have c58b1 : decide (t671 = t673) = true:=by simpa using c58));(try (have c58b2 : (t671 == t673) = true:=by simpa using c58));clear c58;obtain rfl:=Option.some.inj H;obtain ⟨Ao59,co59,eo59⟩:=Kd.R_slice HO_10.out;subst eo59;have hnb60:=NB645_653.out;have hnc60:=NB653_645.out;have hnb61:=NB645_661.out;have hnc61:=NB661_645.out;obtain ⟨hcz62_0,hcz62_1,hfz62_0,hfz62_1⟩:=z2 BK645;go_wp2_with (first | (refine gc 102 Tryd.func22 #[.agg #[.slice Ao10 t637.length co10,.slice Ao12 t640.length co12],.int .i64 0,.int .i64 t644] ?_;(with_reducible refine (impl_ResultOf.calls k3 _ _ t637 _ _ t640 0 t644 t670 t671 _ ?side1 ?side2 ?side3 ?side4 A56.out).mono ?_);(case side1 => exact rC (Kd.R_reads' HO_646000.out).2.2);(case side2 => exact (Kd.R_reads' HO_646000.out).2.1);(case side3 => exact rC (Kd.S_reads' HO_646001.out).2.2);(case side4 => exact (Kd.S_reads' HO_646001.out).2.1);rintro e w63 ⟨rfl,hb⟩;refine ⟨_,rfl,?_⟩;replace HO_10:=Aside0.mk (Kd.R_below (zR HO_10) hb);replace HO_646000:=Aside0.mk (Kd.R_below (zR HO_646000) hb);replace HO_646001:=Aside0.mk (Kd.S_below (zS HO_646001) hb);replace HO_654000:=Aside0.mk (Kd.R_below (zR HO_654000) hb);replace HO_654001:=Aside0.mk (Kd.S_below (zS HO_654001) hb);replace HO_662000:=Aside0.mk (Kd.R_below (zR HO_662000) hb);replace HO_662001:=Aside0.mk (Kd.S_below (zS HO_662001) hb);replace BK645:=kb BK645 hb;replace BK653:=kb BK653 hb;replace BK661:=kb BK661 hb;replace HB:=hB hb;(try clear hb);(try clear hb2);(try clear hk);(try clear hi);have hnb64:=NB653_661.out;have hnc64:=NB661_653.out;obtain ⟨hcz65_0,hcz65_1,hfz65_0,hfz65_1⟩:=z2 BK653) | (refine gc 108 Tryd.func22 #[.agg #[.slice Ao15 t646.length co15,.slice Ao18 t649.length co18],.int .i64 0,.int .i64 t644] ?_;(with_reducible refine (impl_ResultOf.calls k3 _ _ t646 _ _ t649 0 t644 t672 t673 _ ?side1 ?side2 ?side3 ?side4 A57.out).mono ?_);(case side1 => exact rC (Kd.R_reads' HO_654000.out).2.2);(case side2 => exact (Kd.R_reads' HO_654000.out).2.1);(case side3 => exact rC (Kd.S_reads' HO_654001.out).2.2);(case side4 => exact (Kd.S_reads' HO_654001.out).2.1);rintro e w66 ⟨rfl,hb⟩;refine ⟨_,rfl,?_⟩;replace HO_10:=Aside0.mk (Kd.R_below (zR HO_10) hb);replace HO_646000:=Aside0.mk (Kd.R_below (zR HO_646000) hb);replace HO_646001:=Aside0.mk (Kd.S_below (zS HO_646001) hb);replace HO_654000:=Aside0.mk (Kd.R_below (zR HO_654000) hb);replace HO_654001:=Aside0.mk (Kd.S_below (zS HO_654001) hb);replace HO_662000:=Aside0.mk (Kd.R_below (zR HO_662000) hb);replace HO_662001:=Aside0.mk (Kd.S_below (zS HO_662001) hb);replace BK645:=kb BK645 hb;replace BK653:=kb BK653 hb;replace BK661:=kb BK661 hb;replace HB:=hB hb;(try clear hb);(try clear hb2);(try clear hk);(try clear hi)))
        go_ret;exact ⟨ZZab01d2,ZZ295621⟩
       rw [if_neg c58] at H;have c58b0 : (t671 == t673) = false:=by simpa using c58
       (try (have c58b1 : decide (t671 = t673) = false:=by simpa using c58));(try (have c58b2 : (t671 == t673) = false:=by simpa using c58));(try (have c58b3 : ¬ (t671 = t673):=by simpa using c58));clear c58;obtain rfl:=Option.some.inj H;obtain ⟨Ao67,co67,eo67⟩:=Kd.R_slice HO_10.out;subst eo67;have hnb68:=NB645_653.out;have hnc68:=NB653_645.out;have hnb69:=NB645_661.out;have hnc69:=NB661_645.out;obtain ⟨hcz70_0,hcz70_1,hfz70_0,hfz70_1⟩:=z2 BK645;go_wp2_with (first | (refine gc 102 Tryd.func22 #[.agg #[.slice Ao10 t637.length co10,.slice Ao12 t640.length co12],.int .i64 0,.int .i64 t644] ?_;(with_reducible refine (impl_ResultOf.calls k3 _ _ t637 _ _ t640 0 t644 t670 t671 _ ?side1 ?side2 ?side3 ?side4 A56.out).mono ?_);(case side1 => exact rC (Kd.R_reads' HO_646000.out).2.2);(case side2 => exact (Kd.R_reads' HO_646000.out).2.1);(case side3 => exact rC (Kd.S_reads' HO_646001.out).2.2);(case side4 => exact (Kd.S_reads' HO_646001.out).2.1);rintro e w71 ⟨rfl,hb⟩;refine ⟨_,rfl,?_⟩;replace HO_10:=Aside0.mk (Kd.R_below (zR HO_10) hb);replace HO_646000:=Aside0.mk (Kd.R_below (zR HO_646000) hb);replace HO_646001:=Aside0.mk (Kd.S_below (zS HO_646001) hb);replace HO_654000:=Aside0.mk (Kd.R_below (zR HO_654000) hb);replace HO_654001:=Aside0.mk (Kd.S_below (zS HO_654001) hb);replace HO_662000:=Aside0.mk (Kd.R_below (zR HO_662000) hb);replace HO_662001:=Aside0.mk (Kd.S_below (zS HO_662001) hb);replace BK645:=kb BK645 hb;replace BK653:=kb BK653 hb;replace BK661:=kb BK661 hb;replace HB:=hB hb;(try clear hb);(try clear hb2);(try clear hk);(try clear hi);have hnb72:=NB653_661.out;have hnc72:=NB661_653.out;obtain ⟨hcz73_0,hcz73_1,hfz73_0,hfz73_1⟩:=z2 BK653) | (refine gc 108 Tryd.func22 #[.agg #[.slice Ao15 t646.length co15,.slice Ao18 t649.length co18],.int .i64 0,.int .i64 t644] ?_;(with_reducible refine (impl_ResultOf.calls k3 _ _ t646 _ _ t649 0 t644 t672 t673 _ ?side1 ?side2 ?side3 ?side4 A57.out).mono ?_);(case side1 => exact rC (Kd.R_reads' HO_654000.out).2.2);(case side2 => exact (Kd.R_reads' HO_654000.out).2.1);(case side3 => exact rC (Kd.S_reads' HO_654001.out).2.2);(case side4 => exact (Kd.S_reads' HO_654001.out).2.1);rintro e w74 ⟨rfl,hb⟩;refine ⟨_,rfl,?_⟩;replace HO_10:=Aside0.mk (Kd.R_below (zR HO_10) hb);replace HO_646000:=Aside0.mk (Kd.R_below (zR HO_646000) hb);replace HO_646001:=Aside0.mk (Kd.S_below (zS HO_646001) hb);replace HO_654000:=Aside0.mk (Kd.R_below (zR HO_654000) hb);replace HO_654001:=Aside0.mk (Kd.S_below (zS HO_654001) hb);replace HO_662000:=Aside0.mk (Kd.R_below (zR HO_662000) hb);replace HO_662001:=Aside0.mk (Kd.S_below (zS HO_662001) hb);replace BK645:=kb BK645 hb;replace BK653:=kb BK653 hb;replace BK661:=kb BK661 hb;replace HB:=hB hb;(try clear hb);(try clear hb2);(try clear hk);(try clear hi)))
       go_ret;exact ⟨ZZab01d2,ZZ295621⟩
end Go.Proofs.YtccdjchaaeligaaDoor.XFnClosing

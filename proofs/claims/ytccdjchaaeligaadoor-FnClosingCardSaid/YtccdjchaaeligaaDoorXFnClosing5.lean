import Derived.Test.YtccdjchaaeligaaDoorXFnClosing2
import Derived.Test.YtccdjchaaeligaaDoorXFnClosing0
import Derived.Test.YtccdjchaaeligaaDoorXFnClosing1
import Derived.Test.YtccdjchaaeligaaDoorXFnClosing4
namespace Go.Proofs.YtccdjchaaeligaaDoor.XFnClosing
open Go.Proofs.YtccdjchaaeligaaDoor.Short Go.RowKit Go.Proofs.YtccdjchaaeligaaDoorW.PrintWords Go.Proofs.YtccdjchaaeligaaDoorW.PrintLast Go.Proofs.YtccdjchaaeligaaDoorW.PrintMore
attribute [local go_sem] max2_int min2_int max_two min_two max_three min_three max_four min_four
set_option linter.unusedVariables false
set_option linter.unusedSimpArgs false
theorem ZZe565f6 {p : Prop} (h : p:=by refine bd ?_;refine blk_far ?_ NB153_162.out _;refine bd ?_;refine blk_far ?_ NB153_162.out _;refine bd ?_;exact BK153.out) : p:=h
theorem ZZ42d6d1 {p : Prop} (h : p:=by refine bd ?_;refine blk_far ?_ NB160_162.out _;refine bd ?_;refine blk_far ?_ NB160_162.out _;refine bd ?_;exact BK160.out) : p:=h
theorem ZZe78bba {p : Prop} (h : p:=by refine bd ?_;refine blk_put (cs:=#[.int .i64 ((rd_T70 ((rd_T63 l0_1 x29_2).f2) x36_3).f0),.int .i64 0]) ?_ 1 _ rfl;refine bd ?_;refine blk_put (cs:=#[.int .i64 0,.int .i64 0]) ?_ 0 _ rfl;refine bd ?_;exact BK162.out) : p:=h
def impl_isResult.f (a0_0 : ByteArray) (a0_1 : Int) : Option (Bool):=if a0_1 = 4 then (some true) else (some (a0_1 == 5))
set_option maxHeartbeats 8000000 in
set_option maxRecDepth 100000 in
theorem impl_isResult.calls (a0_0 : ByteArray) (a0_1 : Int) (r : Bool) (w : World) (h : impl_isResult.f a0_0 a0_1 = some r) :
 Calls Tryd.prog 72 #[.agg #[.string a0_0,.int .i64 a0_1]] w fun e w' => e = .returned (.bool r) ∧ Below w.heap.size w w':=by
 have hu48:=Tryd.underlying48;have HB:=Aside0.mk (Below.refl w.heap.size w);have H:=h;clear h;unfold impl_isResult.f at H;by_cases c2 : a0_1 = 4
 ·rw [if_pos c2] at H;have c2b0:=beq_iff_eq.mpr c2;have c2b1:=bne_eq_false_iff_eq.mpr c2;clear c2;obtain rfl:=Option.some.inj H
  go_enter Tryd.func72,Tryd.ntmps72
  go_wp2_with (first | ((with_reducible refine gate_dst (N:=1) rfl ?_);refine bx 1 (cs:=#[.string a0_0,.int .i64 a0_1]) (t:=48) ?_;intro gb151 hg w3 hbox hb;have BK151:=Aside0.mk (hbox);have GW151:=gw hg;have GE151:=gw hg;replace HB:=hB hb;clear hb hbox hg;obtain ⟨hcz4_0,hcz4_1,hfz4_0,hfz4_1⟩:=z2 BK151))
  go_ret;exact ⟨ZZab01d2,ZZ295621⟩
 rw [if_neg c2] at H;have c2b0:=beq_eq_false_iff_ne.mpr c2;have c2b1:=bne_iff_ne.mpr c2;obtain rfl:=Option.some.inj H
 go_enter Tryd.func72,Tryd.ntmps72
 go_wp2_with (first | ((with_reducible refine gate_dst (N:=1) rfl ?_);refine bx 1 (cs:=#[.string a0_0,.int .i64 a0_1]) (t:=48) ?_;intro gb151 hg w5 hbox hb;have BK151:=Aside0.mk (hbox);have GW151:=gw hg;have GE151:=gw hg;replace HB:=hB hb;clear hb hbox hg;obtain ⟨hcz6_0,hcz6_1,hfz6_0,hfz6_1⟩:=z2 BK151))
 go_ret;exact ⟨ZZab01d2,ZZ295621⟩
def impl_amountOr.f (a0 : Int) : Option (Int × Bool):=(impl_isAmount.f a0).bind fun t152 => (if t152 = true then (some (a0,true)) else (some (0,false)))
set_option maxHeartbeats 8000000 in
set_option maxRecDepth 100000 in
theorem impl_amountOr.calls (a0 : Int) (r1 : Int) (r2 : Bool) (w : World) (h : impl_amountOr.f a0 = some (r1,r2)) :
 Calls Tryd.prog 73 #[.int .i64 a0] w fun e w' => e = .returned (.tuple #[.int .i64 r1,.bool r2]) ∧ Drawn0 w w':=by
 have H:=h;clear h;unfold impl_amountOr.f at H;obtain ⟨t152,A2,H⟩:=bdY H;by_cases c3 : t152 = true
 ·subst c3;replace H:=ifT H;simp only [Option.some.injEq,Prod.mk.injEq] at H;obtain ⟨rfl,rfl⟩:=H
  go_enter Tryd.func73,Tryd.ntmps73
  go_wp2_with (first | (refine gc 5 Tryd.func62 #[.int .i64 a0] ?_;(with_reducible refine (impl_isAmount.calls a0 true _ A2.out).mono ?_);rintro e w' ⟨rfl,⟨nd,rfl⟩⟩;refine ⟨_,rfl,?_⟩))
  go_ret2
  exact ⟨ZZ0ab324,ZZ965307⟩
 replace c3:=Bool.eq_false_iff.mpr c3;subst c3;replace H:=ifF H;simp only [Option.some.injEq,Prod.mk.injEq] at H;obtain ⟨rfl,rfl⟩:=H
 go_enter Tryd.func73,Tryd.ntmps73
 go_wp2_with (first | (refine gc 5 Tryd.func62 #[.int .i64 a0] ?_;(with_reducible refine (impl_isAmount.calls a0 false _ A2.out).mono ?_);rintro e w' ⟨rfl,⟨nd,rfl⟩⟩;refine ⟨_,rfl,?_⟩))
 go_ret2
 exact ⟨ZZ0ab324,ZZ965307⟩
mutual
def impl_ResultOf.j0 : Nat → Int → Int → Bool → List (S48) → List (S63) → Option (Int × Bool)
 | 0,_,_,_,_,_ => none
 | k + 1,x1,x2,x25,x154000,x154001 => if x25 = true then (some (0,false)) else (impl_ResultOf.l0 k x1 x2 0 x154001 (x154001.length : Int) 0 x154000 x154001)
def impl_ResultOf.l0 : Nat → Int → Int → Int → List (S63) → Int → Int → List (S48) → List (S63) → Option (Int × Bool)
 | 0,_,_,_,_,_,_,_,_ => none
 | k + 1,x1,x2,x8,x27,x28,x29,x154000,x154001 => if x29 < x28 then (if 0 ≤ x29 then (if x29 < (x27.length : Int) then (impl_ResultOf.l1 k x1 x2 x8 x27 x28 x29 ((rd_T63 x27 x29).f2) (((rd_T63 x27 x29).f2).length : Int) 0 x154000 x154001 ((rd_T63 x27 x29).f0) ((rd_T63 x27 x29).f1) ((rd_T63 x27 x29).f2)) else (none)) else (none)) else ((impl_amountOr.f x8).bind fun bt157 => (some (bt157.1,bt157.2)))
def impl_ResultOf.l1 : Nat → Int → Int → Int → List (S63) → Int → Int → List (S70) → Int → Int → List (S48) → List (S63) → Int → ByteArray → List (S70) → Option (Int × Bool)
 | 0,_,_,_,_,_,_,_,_,_,_,_,_,_,_ => none
 | k + 1,x1,x2,x8,x27,x28,x29,x34,x35,x36,x154000,x154001,x161000,x161001,x161002 => if x36 < x35 then (if 0 ≤ x36 then (if x36 < (x34.length : Int) then ((impl_within.f x161000 x1 x2).bind fun t163 => (if t163 = true then (if x161001.toList = ([99,108,111,115,105,110,103] : List UInt8) then (impl_ResultOf.j3 k x1 x2 x8 x27 x28 x29 x34 x35 x36 false x154000 x154001 x161000 x161001 x161002 ((rd_T70 x34 x36).f0) ((rd_T70 x34 x36).f1)) else (if 0 ≤ ((rd_T70 x34 x36).f0) then (if ((rd_T70 x34 x36).f0) < (x154000.length : Int) then ((impl_isResult.f ((rd_T48 x154000 ((rd_T70 x34 x36).f0)).f0) ((rd_T48 x154000 ((rd_T70 x34 x36).f0)).f1)).bind fun t165 => (impl_ResultOf.j3 k x1 x2 x8 x27 x28 x29 x34 x35 x36 t165 x154000 x154001 x161000 x161001 x161002 ((rd_T70 x34 x36).f0) ((rd_T70 x34 x36).f1))) else (none)) else (none))) else (impl_ResultOf.j3 k x1 x2 x8 x27 x28 x29 x34 x35 x36 false x154000 x154001 x161000 x161001 x161002 ((rd_T70 x34 x36).f0) ((rd_T70 x34 x36).f1)))) else (none)) else (none)) else (impl_ResultOf.l0 k x1 x2 x8 x27 x28 (wrap64 (x29 + 1)) x154000 x154001)
def impl_ResultOf.j3 : Nat → Int → Int → Int → List (S63) → Int → Int → List (S70) → Int → Int → Bool → List (S48) → List (S63) → Int → ByteArray → List (S70) → Int → Int → Option (Int × Bool)
 | 0,_,_,_,_,_,_,_,_,_,_,_,_,_,_,_,_,_ => none
 | k + 1,x1,x2,x8,x27,x28,x29,x34,x35,x36,x58,x154000,x154001,x161000,x161001,x161002,x163000,x163001 => if x58 = true then (impl_ResultOf.l1 k x1 x2 (wrap64 (x8 - x163001)) x27 x28 x29 x34 x35 (wrap64 (x36 + 1)) x154000 x154001 x161000 x161001 x161002) else (impl_ResultOf.l1 k x1 x2 x8 x27 x28 x29 x34 x35 (wrap64 (x36 + 1)) x154000 x154001 x161000 x161001 x161002)
end
def impl_ResultOf.f (k : Nat) (l0_0 : List (S48)) (l0_1 : List (S63)) (a1 : Int) (a2 : Int) : Option (Int × Bool):=(impl_IsValidLedger.f k l0_0 l0_1).bind fun t154 => (if t154 = true then ((impl_isDay.f a1).bind fun t155 => (if t155 = true then ((impl_isDay.f a2).bind fun t156 => (impl_ResultOf.j0 k a1 a2 (!t156) l0_0 l0_1)) else (impl_ResultOf.j0 k a1 a2 true l0_0 l0_1))) else (impl_ResultOf.j0 k a1 a2 true l0_0 l0_1))
theorem impl_ResultOf.mono_l : ∀ k,(∀ y0 y1 y2 y3 y4,LeO (impl_ResultOf.j0 k y0 y1 y2 y3 y4) (impl_ResultOf.j0 (k + 1) y0 y1 y2 y3 y4)) ∧ (∀ y0 y1 y2 y3 y4 y5 y6 y7,LeO (impl_ResultOf.l0 k y0 y1 y2 y3 y4 y5 y6 y7) (impl_ResultOf.l0 (k + 1) y0 y1 y2 y3 y4 y5 y6 y7)) ∧ (∀ y0 y1 y2 y3 y4 y5 y6 y7 y8 y9 y10 y11 y12 y13,LeO (impl_ResultOf.l1 k y0 y1 y2 y3 y4 y5 y6 y7 y8 y9 y10 y11 y12 y13) (impl_ResultOf.l1 (k + 1) y0 y1 y2 y3 y4 y5 y6 y7 y8 y9 y10 y11 y12 y13)) ∧ (∀ y0 y1 y2 y3 y4 y5 y6 y7 y8 y9 y10 y11 y12 y13 y14 y15 y16,LeO (impl_ResultOf.j3 k y0 y1 y2 y3 y4 y5 y6 y7 y8 y9 y10 y11 y12 y13 y14 y15 y16) (impl_ResultOf.j3 (k + 1) y0 y1 y2 y3 y4 y5 y6 y7 y8 y9 y10 y11 y12 y13 y14 y15 y16))
 | 0 => ⟨fun _ _ _ _ _ r h => by simp [impl_ResultOf.j0] at h,fun _ _ _ _ _ _ _ _ r h => by simp [impl_ResultOf.l0] at h,fun _ _ _ _ _ _ _ _ _ _ _ _ _ _ r h => by simp [impl_ResultOf.l1] at h,fun _ _ _ _ _ _ _ _ _ _ _ _ _ _ _ _ _ r h => by simp [impl_ResultOf.j3] at h⟩
 | k + 1 => by
  obtain ⟨ih0,ih1,ih2,ih3⟩:=impl_ResultOf.mono_l k;refine ⟨?_,?_,?_,?_⟩;all_goals intros
  all_goals (first | unfold impl_ResultOf.j0 | unfold impl_ResultOf.l0 | unfold impl_ResultOf.l1 | unfold impl_ResultOf.j3)
  all_goals
   repeat' with_reducible first | apply ih0 | apply ih1 | apply ih2 | apply ih3 | apply impl_IsValidLedger.mono | exact LeO.refl _ | exact LeO.none _ | refine LeO.ite ?_ ?_ | refine LeO.bind ?_ (fun _ => ?_)
theorem impl_ResultOf.mono : ∀ a0 a1 a2 a3 k,LeO (impl_ResultOf.f k a0 a1 a2 a3) (impl_ResultOf.f (k + 1) a0 a1 a2 a3):=by
 intro a0 a1 a2 a3 k;obtain ⟨ih0,ih1,ih2,ih3⟩:=impl_ResultOf.mono_l k;unfold impl_ResultOf.f;repeat' with_reducible first | apply ih0 | apply ih1 | apply ih2 | apply ih3 | apply impl_IsValidLedger.mono | exact LeO.refl _ | exact LeO.none _ | refine LeO.ite ?_ ?_ | refine LeO.bind ?_ (fun _ => ?_)
set_option maxHeartbeats 8000000 in
set_option maxRecDepth 100000 in
theorem impl_ResultOf.calls (k : Nat) (A0_0 : Option Addr) (c0_0 : Nat) (l0_0 : List (S48)) (A0_1 : Option Addr) (c0_1 : Nat) (l0_1 : List (S63)) (a1 : Int) (a2 : Int) (r1 : Int) (r2 : Bool) (w : World) (hr0_0 : Kd.C k48 w A0_0 l0_0.length l0_0) (hc0_0 : l0_0.length ≤ c0_0) (hr0_1 : Kd.C k63 w A0_1 l0_1.length l0_1) (hc0_1 : l0_1.length ≤ c0_1) (h : impl_ResultOf.f k l0_0 l0_1 a1 a2 = some (r1,r2)) :
 Calls Tryd.prog 22 #[.agg #[.slice A0_0 l0_0.length c0_0,.slice A0_1 l0_1.length c0_1],.int .i64 a1,.int .i64 a2] w fun e w' => e = .returned (.tuple #[.int .i64 r1,.bool r2]) ∧ Below w.heap.size w w':=by
 have hu31:=Tryd.underlying31;have hu63:=Tryd.underlying63;have hu70:=Tryd.underlying70;have hu48:=Tryd.underlying48;have HR0_0:=Aside0.mk hr0_0;have HC0_0:=Aside0.mk hc0_0;clear hr0_0 hc0_0;have HR0_1:=Aside0.mk hr0_1;have HC0_1:=Aside0.mk hc0_1;clear hr0_1 hc0_1;have HB:=Aside0.mk (Below.refl w.heap.size w);have H:=h;clear h;unfold impl_ResultOf.f at H;have HC4:=Aside0.mk H;clear H
 go_enter Tryd.func22,Tryd.ntmps22
 go_upto_region 1 with (first | ((with_reducible refine gate_dst (N:=3) rfl ?_);refine bx 3 (cs:=#[.slice A0_0 l0_0.length c0_0,.slice A0_1 l0_1.length c0_1]) (t:=31) ?_;intro gb153 hg w5 hbox hb;have BK153:=Aside0.mk (hbox);have GW153:=gw hg;have GE153:=gw hg;replace HB:=hB hb;clear hb hbox hg))
 (try simp only [Act.put,List.setIfInBounds_toArray,List.set_cons_zero,List.set_cons_succ])
 go_cut [25] (fun v25 wc => ∃ (kq : Nat) (x25_3 : Bool),v25 = .bool x25_3 ∧ Aside0 (impl_ResultOf.j0 kq a1 a2 x25_3 l0_0 l0_1 = some (r1,r2)) ∧ Aside0 (kq ≤ k) ∧ Aside0 (wc.heap[gb153]? = some (.cells #[(.slice A0_0 l0_0.length c0_0),(.slice A0_1 l0_1.length c0_1)] 31 (0,0))) ∧ Aside0 (Below w.heap.size w wc))
 case first =>
  have H:=HC4.out;clear HC4;obtain ⟨t154,A6,H⟩:=bdY H;by_cases c7 : t154 = true
  ·subst c7;replace H:=ifT H;obtain ⟨t155,A8,H⟩:=bdY H;by_cases c9 : t155 = true
   ·subst c9;replace H:=ifT H;obtain ⟨t156,A10,H⟩:=bdY H;replace H:=Aside0.mk H;obtain ⟨hcz11_0,hcz11_1,hfz11_0,hfz11_1⟩:=z2 BK153;go_wp2_with (first | (refine gc 14 Tryd.func17 #[.agg #[.slice A0_0 l0_0.length c0_0,.slice A0_1 l0_1.length c0_1]] ?_;(with_reducible refine (impl_IsValidLedger.calls k _ _ l0_0 _ _ l0_1 true _ ?side1 ?side2 ?side3 ?side4 A6.out).mono ?_);(case side1 => exact (rC (Kd.C_below HR0_0.out HB.out)));(case side2 => exact HC0_0.out);(case side3 => exact (rC (Kd.C_below HR0_1.out HB.out)));(case side4 => exact HC0_1.out);rintro e w12 ⟨rfl,hb⟩;refine ⟨_,rfl,?_⟩;replace BK153:=kb BK153 hb;replace HB:=hB hb;(try clear hb);(try clear hb2);(try clear hk);(try clear hi)) | (go_at_call 59;(with_reducible refine (impl_isDay.calls a1 true _ A8.out).mono ?_);rintro e w' ⟨rfl,⟨nd,rfl⟩⟩) | (go_at_call 59;(with_reducible refine (impl_isDay.calls a2 t156 _ A10.out).mono ?_);rintro e w' ⟨rfl,⟨nd,rfl⟩⟩))
    go_meet
    case rel => exact ⟨_,(!t156),ZZ0ab324,H,kle,⟨(zB BK153)⟩,⟨ZZ295621⟩⟩
   replace c9:=Bool.eq_false_iff.mpr c9;subst c9;replace H:=ifF H;replace H:=Aside0.mk H;obtain ⟨hcz13_0,hcz13_1,hfz13_0,hfz13_1⟩:=z2 BK153;go_wp2_with (first | (refine gc 14 Tryd.func17 #[.agg #[.slice A0_0 l0_0.length c0_0,.slice A0_1 l0_1.length c0_1]] ?_;(with_reducible refine (impl_IsValidLedger.calls k _ _ l0_0 _ _ l0_1 true _ ?side1 ?side2 ?side3 ?side4 A6.out).mono ?_);(case side1 => exact (rC (Kd.C_below HR0_0.out HB.out)));(case side2 => exact HC0_0.out);(case side3 => exact (rC (Kd.C_below HR0_1.out HB.out)));(case side4 => exact HC0_1.out);rintro e w14 ⟨rfl,hb⟩;refine ⟨_,rfl,?_⟩;replace BK153:=kb BK153 hb;replace HB:=hB hb;(try clear hb);(try clear hb2);(try clear hk);(try clear hi)) | (go_at_call 59;(with_reducible refine (impl_isDay.calls a1 false _ A8.out).mono ?_);rintro e w' ⟨rfl,⟨nd,rfl⟩⟩))
   go_meet
   case rel => exact ⟨_,(true),ZZ0ab324,H,kle,⟨(zB BK153)⟩,⟨ZZ295621⟩⟩
  replace c7:=Bool.eq_false_iff.mpr c7;subst c7;replace H:=ifF H;replace H:=Aside0.mk H;obtain ⟨hcz15_0,hcz15_1,hfz15_0,hfz15_1⟩:=z2 BK153;go_wp2_with (first | (refine gc 14 Tryd.func17 #[.agg #[.slice A0_0 l0_0.length c0_0,.slice A0_1 l0_1.length c0_1]] ?_;(with_reducible refine (impl_IsValidLedger.calls k _ _ l0_0 _ _ l0_1 false _ ?side1 ?side2 ?side3 ?side4 A6.out).mono ?_);(case side1 => exact (rC (Kd.C_below HR0_0.out HB.out)));(case side2 => exact HC0_0.out);(case side3 => exact (rC (Kd.C_below HR0_1.out HB.out)));(case side4 => exact HC0_1.out);rintro e w16 ⟨rfl,hb⟩;refine ⟨_,rfl,?_⟩;replace BK153:=kb BK153 hb;replace HB:=hB hb;(try clear hb);(try clear hb2);(try clear hk);(try clear hi)))
  go_meet
  case rel => exact ⟨_,(true),ZZ0ab324,H,kle,⟨(zB BK153)⟩,⟨ZZ295621⟩⟩
 case rest =>
  clear HC4;try clear c7
  try clear c9
  try clear hcz11_0
  try clear hcz11_1
  try clear hcz13_0
  try clear hcz13_1
  try clear hcz15_0
  try clear hcz15_1
  try clear hfz11_0
  try clear hfz11_1
  try clear hfz13_0
  try clear hfz13_1
  try clear hfz15_0
  try clear hfz15_1
  obtain ⟨kq,x25_3,rfl,HA,HJ3,BK153,HB⟩:=hcut
  cases kq with
  | zero => exact absurd HA.out (by simp [impl_ResultOf.j0])
  | succ kj3 =>
   have H:=HA.out;clear HA;simp only [impl_ResultOf.j0] at H;by_cases c17 : x25_3 = true
   ·subst c17;replace H:=ifT H;simp only [Option.some.injEq,Prod.mk.injEq] at H;obtain ⟨rfl,rfl⟩:=H;go_wp2
    go_ret2
    exact ⟨ZZab01d2,ZZ295621⟩
   replace c17:=Bool.eq_false_iff.mpr c17;subst c17;replace H:=ifF H;replace H:=Aside0.mk H;obtain ⟨hcz18_0,hcz18_1,hfz18_0,hfz18_1⟩:=z2 BK153;go_wp2
   go_loopg [8,29] kj3 (fun kq v8 v29 w' => ∃ (x8_2 : Int) (x29_2 : Int),v8 = .int .i64 x8_2 ∧ v29 = .int .i64 x29_2 ∧ Aside0 (impl_ResultOf.l0 kq a1 a2 x8_2 l0_1 (l0_1.length : Int) x29_2 l0_0 l0_1 = some (r1,r2)) ∧ Aside0 (kq ≤ kj3) ∧ Aside0 (w'.heap[gb153]? = some (.cells #[(.slice A0_0 l0_0.length c0_0),(.slice A0_1 l0_1.length c0_1)] 31 (0,0))) ∧ Aside0 (Below w.heap.size w w'))
   case atStart => exact ⟨(0),(0),ZZ0ab324,ZZ0ab324,H,⟨Nat.le_refl _⟩,⟨(zB BK153)⟩,⟨ZZ295621⟩⟩
   case round =>
    clear H;try clear c17
    try clear hcz18_0
    try clear hcz18_1
    try clear hfz18_0
    try clear hfz18_1
    obtain ⟨x8_2,x29_2,rfl,rfl,HA,HK2,BK153,HB⟩:=hrel
    cases gk with
    | zero => exact absurd HA.out (by simp [impl_ResultOf.l0])
    | succ k2 =>
     have H:=HA.out;clear HA;simp only [impl_ResultOf.l0] at H;by_cases c19 : x29_2 < (l0_1.length : Int)
     ·rw [if_pos c19] at H;have c19b0:=decide_eq_true c19;clear c19;obtain ⟨c20b0,H⟩:=ifYd H;obtain ⟨c21b0,H⟩:=ifYd H;replace H:=Aside0.mk H;have p159 : 0 ≤ (x29_2 : Int):=of_decide_eq_true ZZ853400;have q159 : x29_2 < (l0_1.length : Int):=of_decide_eq_true ZZ853400;obtain ⟨ad159,A159_2,c159_2,e159,hx159_0,hx159_1,hx159_2,hl159_2,hi159_2⟩:=at_T63 HR0_1.out x29_2 p159 q159
      cases e159
      replace hx159_0:=(HB.out.cell (World.block_lt_of_cell? w _ hx159_0)).trans hx159_0;replace hx159_1:=(HB.out.cell (World.block_lt_of_cell? w _ hx159_1)).trans hx159_1;replace hx159_2:=(HB.out.cell (World.block_lt_of_cell? w _ hx159_2)).trans hx159_2;have HR159_2:=Aside0.mk hi159_2;have HC159_2:=Aside0.mk hl159_2;clear hi159_2 hl159_2;replace p159:=eq_true p159;replace q159:=eq_true q159;go_wp2_with (first | ((with_reducible refine gate_dst (N:=10) rfl ?_);refine bx 10 (cs:=#[.int .i64 0,.string (⟨#[]⟩ : ByteArray),.slice none 0 0]) (t:=63) ?_;intro gb160 hg w22 hbox hb;have BK160:=Aside0.mk (hbox);have GW160:=gw hg;have GE160:=gw hg;replace HB:=hB hb;have NB153_160:=nl hg BK153;have NB160_153:=ng hg BK153;replace BK153:=kb BK153 hb;clear hb hbox hg;have hnb23:=NB160_153.out;have hnc23:=NB153_160.out;obtain ⟨hcz24_0,hcz24_1,hcz24_2,hfz24_0,hfz24_1,hfz24_2⟩:=z3 BK160))
      go_loopg [8,36] k2 (fun kq v8 v36 w' => ∃ (x8_3 : Int) (x36_3 : Int),v8 = .int .i64 x8_3 ∧ v36 = .int .i64 x36_3 ∧ Aside0 (impl_ResultOf.l1 kq a1 a2 x8_3 l0_1 (l0_1.length : Int) x29_2 ((rd_T63 l0_1 x29_2).f2) (((rd_T63 l0_1 x29_2).f2).length : Int) x36_3 l0_0 l0_1 ((rd_T63 l0_1 x29_2).f0) ((rd_T63 l0_1 x29_2).f1) ((rd_T63 l0_1 x29_2).f2) = some (r1,r2)) ∧ Aside0 (kq ≤ k2) ∧ Aside0 (w'.heap[gb153]? = some (.cells #[(.slice A0_0 l0_0.length c0_0),(.slice (some ad159) l0_1.length c0_1)] 31 (0,0))) ∧ Aside0 (w'.heap[gb160]? = some (.cells #[.int .i64 ((rd_T63 l0_1 x29_2).f0),.string ((rd_T63 l0_1 x29_2).f1),(.slice A159_2 ((rd_T63 l0_1 x29_2).f2).length c159_2)] 63 (0,0))) ∧ Aside0 (Below w.heap.size w w'))
      case atStart => exact ⟨(x8_2),(0),ZZ0ab324,ZZ0ab324,H,⟨Nat.le_refl _⟩,⟨(by refine bd ?_;refine blk_far ?_ NB153_160.out _;refine bd ?_;refine blk_far ?_ NB153_160.out _;refine bd ?_;refine blk_far ?_ NB153_160.out _;refine bd ?_;exact BK153.out)⟩,⟨(by refine bd ?_;refine blk_put (cs:=#[.int .i64 ((rd_T63 l0_1 x29_2).f0),.string ((rd_T63 l0_1 x29_2).f1),.slice none 0 0]) ?_ 2 _ rfl;refine bd ?_;refine blk_put (cs:=#[.int .i64 ((rd_T63 l0_1 x29_2).f0),.string (⟨#[]⟩ : ByteArray),.slice none 0 0]) ?_ 1 _ rfl;refine bd ?_;refine blk_put (cs:=#[.int .i64 0,.string (⟨#[]⟩ : ByteArray),.slice none 0 0]) ?_ 0 _ rfl;refine bd ?_;exact BK160.out)⟩,⟨ZZ295621⟩⟩
      case round =>
       clear H;try clear c19b0
       try clear c20b0
       try clear c21b0
       try clear hcz24_0
       try clear hcz24_1
       try clear hcz24_2
       try clear hfz24_0
       try clear hfz24_1
       try clear hfz24_2
       try clear hx159_0
       try clear hx159_1
       try clear hx159_2
       try clear p159
       try clear q159
       obtain ⟨x8_3,x36_3,rfl,rfl,HA,HK3,BK153,BK160,HB⟩:=hrel
       cases gk with
       | zero => exact absurd HA.out (by simp [impl_ResultOf.l1])
       | succ k3 =>
        have H:=HA.out;clear HA;simp only [impl_ResultOf.l1] at H;by_cases c25 : x36_3 < (((rd_T63 l0_1 x29_2).f2).length : Int)
        ·rw [if_pos c25] at H;have c25b0:=decide_eq_true c25;clear c25;obtain ⟨c26b0,H⟩:=ifYd H;obtain ⟨c27b0,H⟩:=ifYd H;have HC28:=Aside0.mk H;clear H;have p161 : 0 ≤ (x36_3 : Int):=of_decide_eq_true ZZ853400;have q161 : x36_3 < (((rd_T63 l0_1 x29_2).f2).length : Int):=of_decide_eq_true ZZ853400;obtain ⟨ad161,e161,hx161_0,hx161_1⟩:=at_T70 HR159_2.out x36_3 p161 q161
         cases e161
         replace hx161_0:=(HB.out.cell (World.block_lt_of_cell? w _ hx161_0)).trans hx161_0;replace hx161_1:=(HB.out.cell (World.block_lt_of_cell? w _ hx161_1)).trans hx161_1;replace p161:=eq_true p161;replace q161:=eq_true q161;go_upto_region 10 with (first | ((with_reducible refine gate_dst (N:=12) rfl ?_);refine bx 12 (cs:=#[.int .i64 0,.int .i64 0]) (t:=70) ?_;intro gb162 hg w29 hbox hb;have BK162:=Aside0.mk (hbox);have GW162:=gw hg;have GE162:=gw hg;replace HB:=hB hb;have NB153_162:=nl hg BK153;have NB162_153:=ng hg BK153;replace BK153:=kb BK153 hb;have NB160_162:=nl hg BK160;have NB162_160:=ng hg BK160;replace BK160:=kb BK160 hb;clear hb hbox hg;have hnb30:=NB162_153.out;have hnc30:=NB153_162.out;have hnb31:=NB162_160.out;have hnc31:=NB160_162.out;obtain ⟨hcz32_0,hcz32_1,hfz32_0,hfz32_1⟩:=z2 BK162))
         (try simp only [Act.put,List.setIfInBounds_toArray,List.set_cons_zero,List.set_cons_succ])
         go_cut [58] (fun v58 wc => ∃ (kq : Nat) (x58_27 : Bool),v58 = .bool x58_27 ∧ Aside0 (impl_ResultOf.j3 kq a1 a2 x8_3 l0_1 (l0_1.length : Int) x29_2 ((rd_T63 l0_1 x29_2).f2) (((rd_T63 l0_1 x29_2).f2).length : Int) x36_3 x58_27 l0_0 l0_1 ((rd_T63 l0_1 x29_2).f0) ((rd_T63 l0_1 x29_2).f1) ((rd_T63 l0_1 x29_2).f2) ((rd_T70 ((rd_T63 l0_1 x29_2).f2) x36_3).f0) ((rd_T70 ((rd_T63 l0_1 x29_2).f2) x36_3).f1) = some (r1,r2)) ∧ Aside0 (kq ≤ k3) ∧ Aside0 (wc.heap[gb153]? = some (.cells #[(.slice A0_0 l0_0.length c0_0),(.slice (some ad159) l0_1.length c0_1)] 31 (0,0))) ∧ Aside0 (wc.heap[gb160]? = some (.cells #[.int .i64 ((rd_T63 l0_1 x29_2).f0),.string ((rd_T63 l0_1 x29_2).f1),(.slice (some ad161) ((rd_T63 l0_1 x29_2).f2).length c159_2)] 63 (0,0))) ∧ Aside0 (wc.heap[gb162]? = some (.cells #[.int .i64 ((rd_T70 ((rd_T63 l0_1 x29_2).f2) x36_3).f0),.int .i64 ((rd_T70 ((rd_T63 l0_1 x29_2).f2) x36_3).f1)] 70 (0,0))) ∧ Aside0 (Below w.heap.size w wc))
         case first =>
          have H:=HC28.out;clear HC28;obtain ⟨t163,A33,H⟩:=bdY H;by_cases c34 : t163 = true
          ·subst c34;replace H:=ifT H;by_cases c35 : ((rd_T63 l0_1 x29_2).f1).toList = ([99,108,111,115,105,110,103] : List UInt8)
           ·rw [if_pos c35] at H;have c35b0:=beq_iff_eq.mpr c35;have c35b1:=bne_eq_false_iff_eq.mpr c35;clear c35;(first | rw [c35b0] | (simp only [i64_w,i32_w];rw [c35b0]) | skip);replace H:=Aside0.mk H;have hnb36:=NB160_153.out;have hnc36:=NB153_160.out;have hnb37:=NB160_162.out;have hnc37:=NB162_160.out;obtain ⟨hcz38_0,hcz38_1,hcz38_2,hfz38_0,hfz38_1,hfz38_2⟩:=z3 BK160;go_wp2_with (first | (refine gc 44 Tryd.func56 #[.int .i64 ((rd_T63 l0_1 x29_2).f0),.int .i64 a1,.int .i64 a2] ?_;(with_reducible refine (impl_within.calls ((rd_T63 l0_1 x29_2).f0) a1 a2 true _ A33.out).mono ?_);rintro e w' ⟨rfl,⟨nd,rfl⟩⟩;refine ⟨_,rfl,?_⟩))
            go_meet
            case rel => exact ⟨_,(false),ZZ0ab324,H,kle,⟨ZZe565f6⟩,⟨ZZ42d6d1⟩,⟨ZZe78bba⟩,⟨ZZ295621⟩⟩
           rw [if_neg c35] at H;have c35b0:=beq_eq_false_iff_ne.mpr c35;have c35b1:=bne_iff_ne.mpr c35;(first | rw [c35b0] | (simp only [i64_w,i32_w];rw [c35b0]) | skip);obtain ⟨c39b0,H⟩:=ifYd H;obtain ⟨c40b0,H⟩:=ifYd H;obtain ⟨t165,A41,H⟩:=bdY H;replace H:=Aside0.mk H;have hnb42:=NB160_153.out;have hnc42:=NB153_160.out;have hnb43:=NB160_162.out;have hnc43:=NB162_160.out;obtain ⟨hcz44_0,hcz44_1,hcz44_2,hfz44_0,hfz44_1,hfz44_2⟩:=z3 BK160;go_wp2_with (first | (refine gc 44 Tryd.func56 #[.int .i64 ((rd_T63 l0_1 x29_2).f0),.int .i64 a1,.int .i64 a2] ?_;(with_reducible refine (impl_within.calls ((rd_T63 l0_1 x29_2).f0) a1 a2 true _ A33.out).mono ?_);rintro e w' ⟨rfl,⟨nd,rfl⟩⟩;refine ⟨_,rfl,?_⟩;have hnb45:=NB153_162.out;have hnc45:=NB162_153.out;obtain ⟨hcz46_0,hcz46_1,hfz46_0,hfz46_1⟩:=z2 BK153;obtain ⟨hcz47_0,hcz47_1,hfz47_0,hfz47_1⟩:=z2 BK162;have p164 : 0 ≤ (((rd_T70 ((rd_T63 l0_1 x29_2).f2) x36_3).f0) : Int):=of_decide_eq_true ZZ853400;have q164 : ((rd_T70 ((rd_T63 l0_1 x29_2).f2) x36_3).f0) < (l0_0.length : Int):=of_decide_eq_true ZZ853400;obtain ⟨ad164,e164,hx164_0,hx164_1⟩:=at_T48 HR0_0.out ((rd_T70 ((rd_T63 l0_1 x29_2).f2) x36_3).f0) p164 q164;cases e164;have hn164_0 : ad164.block ≠ gb162:=Nat.ne_of_lt (Nat.lt_of_lt_of_le (by have:=World.block_lt_of_cell? _ _ hx164_0;first | rwa [add_block] at this | exact this) GW162.out);have hn164_1 : ad164.block ≠ gb162:=Nat.ne_of_lt (Nat.lt_of_lt_of_le (by have:=World.block_lt_of_cell? _ _ hx164_0;first | rwa [add_block] at this | exact this) GW162.out);replace hx164_0:=(HB.out.cell (World.block_lt_of_cell? w _ hx164_0)).trans hx164_0;replace hx164_1:=(HB.out.cell (World.block_lt_of_cell? w _ hx164_1)).trans hx164_1;replace hx164_0:=(cell_far (p:=⟨gb162,0,none⟩) (by first | (rw [add_block];exact hn164_0) | (show (Addr.add _ _).block ≠ _;rw [add_block];exact hn164_0) | exact hn164_0) (.int .i64 ((rd_T70 ((rd_T63 l0_1 x29_2).f2) x36_3).f0))).trans hx164_0;replace hx164_1:=(cell_far (p:=⟨gb162,0,none⟩) (by first | (rw [add_block];exact hn164_0) | (show (Addr.add _ _).block ≠ _;rw [add_block];exact hn164_0) | exact hn164_0) (.int .i64 ((rd_T70 ((rd_T63 l0_1 x29_2).f2) x36_3).f0))).trans hx164_1;replace hx164_0:=(cell_far (p:=⟨gb162,1,none⟩) (by first | (rw [add_block];exact hn164_1) | (show (Addr.add _ _).block ≠ _;rw [add_block];exact hn164_1) | exact hn164_1) (.int .i64 ((rd_T70 ((rd_T63 l0_1 x29_2).f2) x36_3).f1))).trans hx164_0;replace hx164_1:=(cell_far (p:=⟨gb162,1,none⟩) (by first | (rw [add_block];exact hn164_1) | (show (Addr.add _ _).block ≠ _;rw [add_block];exact hn164_1) | exact hn164_1) (.int .i64 ((rd_T70 ((rd_T63 l0_1 x29_2).f2) x36_3).f1))).trans hx164_1;clear hn164_0;clear hn164_1;replace p164:=eq_true p164;replace q164:=eq_true q164) | (go_at_call 72;(with_reducible refine (impl_isResult.calls ((rd_T48 l0_0 ((rd_T70 ((rd_T63 l0_1 x29_2).f2) x36_3).f0)).f0) ((rd_T48 l0_0 ((rd_T70 ((rd_T63 l0_1 x29_2).f2) x36_3).f0)).f1) t165 _ A41.out).mono ?_);rintro e w48 ⟨rfl,hb⟩;replace BK153:=Aside0.mk (blk_below (g:=gb153) (o:=.cells #[.slice (some ad164) l0_0.length c0_0,.slice (some ad159) l0_1.length c0_1] 31 (0,0)) ZZe565f6 hb);replace BK160:=Aside0.mk (blk_below (g:=gb160) (o:=.cells #[.int .i64 ((rd_T63 l0_1 x29_2).f0),.string ((rd_T63 l0_1 x29_2).f1),.slice (some ad161) ((rd_T63 l0_1 x29_2).f2).length c159_2] 63 (0,0)) ZZ42d6d1 hb);replace BK162:=Aside0.mk (blk_below (g:=gb162) (o:=.cells #[.int .i64 ((rd_T70 ((rd_T63 l0_1 x29_2).f2) x36_3).f0),.int .i64 ((rd_T70 ((rd_T63 l0_1 x29_2).f2) x36_3).f1)] 70 (0,0)) ZZe78bba hb);replace HB:=hB hb;(try clear hb);(try clear hb2);(try clear hk);(try clear hi)))
           go_meet
           case rel => exact ⟨_,(t165),ZZ0ab324,H,kle,⟨(zB BK153)⟩,⟨(zB BK160)⟩,⟨(zB BK162)⟩,⟨ZZ295621⟩⟩
          replace c34:=Bool.eq_false_iff.mpr c34;subst c34;replace H:=ifF H;replace H:=Aside0.mk H;have hnb49:=NB160_153.out;have hnc49:=NB153_160.out;have hnb50:=NB160_162.out;have hnc50:=NB162_160.out;obtain ⟨hcz51_0,hcz51_1,hcz51_2,hfz51_0,hfz51_1,hfz51_2⟩:=z3 BK160;go_wp2_with (first | (refine gc 44 Tryd.func56 #[.int .i64 ((rd_T63 l0_1 x29_2).f0),.int .i64 a1,.int .i64 a2] ?_;(with_reducible refine (impl_within.calls ((rd_T63 l0_1 x29_2).f0) a1 a2 false _ A33.out).mono ?_);rintro e w' ⟨rfl,⟨nd,rfl⟩⟩;refine ⟨_,rfl,?_⟩))
          go_meet
          case rel => exact ⟨_,(false),ZZ0ab324,H,kle,⟨ZZe565f6⟩,⟨ZZ42d6d1⟩,⟨ZZe78bba⟩,⟨ZZ295621⟩⟩
         case rest =>
          clear HC28;try clear c25b0
          try clear c26b0
          try clear c27b0
          try clear c34
          try clear c35
          try clear c35b0
          try clear c35b1
          try clear c39b0
          try clear c40b0
          try clear hcz32_0
          try clear hcz32_1
          try clear hcz38_0
          try clear hcz38_1
          try clear hcz38_2
          try clear hcz44_0
          try clear hcz44_1
          try clear hcz44_2
          try clear hcz46_0
          try clear hcz46_1
          try clear hcz47_0
          try clear hcz47_1
          try clear hcz51_0
          try clear hcz51_1
          try clear hcz51_2
          try clear hfz32_0
          try clear hfz32_1
          try clear hfz38_0
          try clear hfz38_1
          try clear hfz38_2
          try clear hfz44_0
          try clear hfz44_1
          try clear hfz44_2
          try clear hfz46_0
          try clear hfz46_1
          try clear hfz47_0
          try clear hfz47_1
          try clear hfz51_0
          try clear hfz51_1
          try clear hfz51_2
          try clear hx161_0
          try clear hx161_1
          try clear hx164_0
          try clear hx164_1
          try clear p161
          try clear p164
          try clear q161
          try clear q164
          obtain ⟨kq,x58_27,rfl,HA,HJ27,BK153,BK160,BK162,HB⟩:=hcut
          cases kq with
          | zero => exact absurd HA.out (by simp [impl_ResultOf.j3])
          | succ kj27 =>
           have H:=HA.out;clear HA;simp only [impl_ResultOf.j3] at H;by_cases c52 : x58_27 = true
           ·subst c52;replace H:=ifT H;replace H:=Aside0.mk H;have hnb53:=NB162_153.out;have hnc53:=NB153_162.out;have hnb54:=NB162_160.out;have hnc54:=NB160_162.out;obtain ⟨hcz55_0,hcz55_1,hfz55_0,hfz55_1⟩:=z2 BK162;go_wp2
            go_roundg kj27
            case measure => have:=HJ3.out;have:=HK2.out;have:=HK3.out;have:=HJ27.out;omega
            case rel => exact ⟨(wrap64 (x8_3 - ((rd_T70 ((rd_T63 l0_1 x29_2).f2) x36_3).f1))),(wrap64 (x36_3 + 1)),ZZ0ab324,ZZ0ab324,H,kle,⟨(zB BK153)⟩,⟨(zB BK160)⟩,⟨ZZ295621⟩⟩
           replace c52:=Bool.eq_false_iff.mpr c52;subst c52;replace H:=ifF H;replace H:=Aside0.mk H;go_wp2
           go_roundg kj27
           case measure => have:=HJ3.out;have:=HK2.out;have:=HK3.out;have:=HJ27.out;omega
           case rel => exact ⟨(x8_3),(wrap64 (x36_3 + 1)),ZZ0ab324,ZZ0ab324,H,kle,⟨(zB BK153)⟩,⟨(zB BK160)⟩,⟨ZZ295621⟩⟩
        rw [if_neg c25] at H;have c25b0:=decide_eq_false c25;clear c25;replace H:=Aside0.mk H;go_wp2
        go_roundg k3
        case measure => have:=HJ3.out;have:=HK2.out;have:=HK3.out;omega
        case rel => exact ⟨(x8_3),(wrap64 (x29_2 + 1)),ZZ0ab324,ZZ0ab324,H,kle,⟨(zB BK153)⟩,⟨ZZ295621⟩⟩
     rw [if_neg c19] at H;have c19b0:=decide_eq_false c19;clear c19;obtain ⟨⟨t157,t158⟩,A56,H⟩:=bdY H;try dsimp only at H
     simp only [Option.some.injEq,Prod.mk.injEq] at H;obtain ⟨rfl,rfl⟩:=H;go_wp2_with (first | (refine gc 66 Tryd.func73 #[.int .i64 x8_2] ?_;(with_reducible refine (impl_amountOr.calls x8_2 t157 t158 _ A56.out).mono ?_);rintro e w' ⟨rfl,⟨nd,rfl⟩⟩;refine ⟨_,rfl,?_⟩))
     go_ret2
     exact ⟨ZZab01d2,ZZ295621⟩
def laws_vBig.f (l0 : List Int) : Option (Bool):=some (decide ((l0.length : Int) > 65536))
set_option maxHeartbeats 8000000 in
set_option maxRecDepth 100000 in
theorem laws_vBig.calls (A0 : Option Addr) (c0 : Nat) (l0 : List Int) (r : Bool) (w : World) (hr0 : Kd.C (Kd.int .u8) w A0 l0.length l0) (hc0 : l0.length ≤ c0) (h : laws_vBig.f l0 = some r) :
 Calls Tryd.prog 23 #[.slice A0 l0.length c0] w fun e w' => e = .returned (.bool r) ∧ Drawn0 w w':=by
 have HR0:=Aside0.mk hr0;have HC0:=Aside0.mk hc0;clear hr0 hc0;have H:=h;clear h;unfold laws_vBig.f at H;obtain rfl:=Option.some.inj H
 go_enter Tryd.func23,Tryd.ntmps23
 go_wp2;go_ret;exact ⟨ZZ0ab324,ZZ965307⟩
end Go.Proofs.YtccdjchaaeligaaDoor.XFnClosing

import Derived.Test.YtccdjchaaeligaaDoorXFnLedger2
import Derived.Test.YtccdjchaaeligaaDoorXFnLedger0
import Derived.Test.YtccdjchaaeligaaDoorXFnLedger6
namespace Go.Proofs.YtccdjchaaeligaaDoor.XFnLedger
open Go.Proofs.YtccdjchaaeligaaDoor.Short Go.RowKit Go.Proofs.YtccdjchaaeligaaDoorW.PrintWords Go.Proofs.YtccdjchaaeligaaDoorW.PrintLast Go.Proofs.YtccdjchaaeligaaDoorW.PrintMore
attribute [local go_sem] max2_int min2_int max_two min_two max_three min_three max_four min_four
set_option linter.unusedVariables false
set_option linter.unusedSimpArgs false
theorem ZZc8eb39 {p : Prop} (h : p:=by subst hw_;refine bd ?_;refine blk_far ?_ NB194_199.out _;refine bd ?_;refine blk_far ?_ NB194_199.out _;refine bd ?_;exact BK194.out) : p:=h
theorem ZZd7c2b9 {p : Prop} (h : p:=by subst hw_;refine bd ?_;refine blk_put (cs:=#[.int .i64 ((rd_T70 l0_2 x7_3).f0),.int .i64 0]) ?_ 1 _ rfl;refine bd ?_;refine blk_put (cs:=#[.int .i64 0,.int .i64 0]) ?_ 0 _ rfl;refine bd ?_;exact BK199.out) : p:=h
mutual
def spec_l26Entry.j0 : Nat → Int → Bool → Int → ByteArray → List (S70) → Option (Bool)
 | 0,_,_,_,_,_ => none
 | k + 1,x1,x25,x195000,x195001,x195002 => if x25 = true then (some false) else (spec_l26Entry.l0 k x1 0 x195000 x195001 x195002)
def spec_l26Entry.l0 : Nat → Int → Int → Int → ByteArray → List (S70) → Option (Bool)
 | 0,_,_,_,_,_ => none
 | k + 1,x1,x5,x195000,x195001,x195002 => if x5 < (x195001.size : Int) then (if 0 ≤ x5 then ((spec_l1In.f (wrap64 (bt x195001 x5)) 32 126).bind fun t197 => (if t197 = true then (spec_l26Entry.l0 k x1 (wrap64 (x5 + 1)) x195000 x195001 x195002) else (some false))) else (none)) else (spec_l26Entry.l1 k x1 0 0 x195000 x195001 x195002)
def spec_l26Entry.l1 : Nat → Int → Int → Int → Int → ByteArray → List (S70) → Option (Bool)
 | 0,_,_,_,_,_,_ => none
 | k + 1,x1,x6,x7,x195000,x195001,x195002 => if x7 < (x195002.length : Int) then (if 0 ≤ x7 then ((spec_l1In.f ((rd_T70 x195002 x7).f0) 0 (wrap64 (x1 - 1))).bind fun t200 => (if t200 = true then ((spec_l2Amount.f ((rd_T70 x195002 x7).f1)).bind fun t201 => (if t201 = true then (if ((rd_T70 x195002 x7).f1) = 0 then (spec_l26Entry.j3 k x1 x6 x7 true x195000 x195001 x195002 ((rd_T70 x195002 x7).f0) ((rd_T70 x195002 x7).f1)) else (if x7 > 0 then (if 0 ≤ (wrap64 (x7 - 1)) then (if (wrap64 (x7 - 1)) < (x195002.length : Int) then (spec_l26Entry.j3 k x1 x6 x7 (decide (((rd_T70 x195002 (wrap64 (x7 - 1))).f0) ≥ ((rd_T70 x195002 x7).f0))) x195000 x195001 x195002 ((rd_T70 x195002 x7).f0) ((rd_T70 x195002 x7).f1)) else (none)) else (none)) else (spec_l26Entry.j3 k x1 x6 x7 false x195000 x195001 x195002 ((rd_T70 x195002 x7).f0) ((rd_T70 x195002 x7).f1)))) else (spec_l26Entry.j3 k x1 x6 x7 true x195000 x195001 x195002 ((rd_T70 x195002 x7).f0) ((rd_T70 x195002 x7).f1)))) else (spec_l26Entry.j3 k x1 x6 x7 true x195000 x195001 x195002 ((rd_T70 x195002 x7).f0) ((rd_T70 x195002 x7).f1)))) else (none)) else (some (x6 == 0))
def spec_l26Entry.j3 : Nat → Int → Int → Int → Bool → Int → ByteArray → List (S70) → Int → Int → Option (Bool)
 | 0,_,_,_,_,_,_,_,_,_ => none
 | k + 1,x1,x6,x7,x84,x195000,x195001,x195002,x200000,x200001 => if x84 = true then (some false) else (spec_l26Entry.l1 k x1 (wrap64 (x6 + x200001)) (wrap64 (x7 + 1)) x195000 x195001 x195002)
end
def spec_l26Entry.f (k : Nat) (a0_0 : Int) (a0_1 : ByteArray) (l0_2 : List (S70)) (a1 : Int) : Option (Bool):=(spec_l3Good.f a0_0).bind fun t195 => (if t195 = true then (if (a0_1.size : Int) > 30 then (spec_l26Entry.j0 k a1 true a0_0 a0_1 l0_2) else ((spec_l1In.f (l0_2.length : Int) 2 8).bind fun t196 => (spec_l26Entry.j0 k a1 (!t196) a0_0 a0_1 l0_2))) else (spec_l26Entry.j0 k a1 true a0_0 a0_1 l0_2))
theorem spec_l26Entry.mono_l : ∀ k,(∀ y0 y1 y2 y3 y4,LeO (spec_l26Entry.j0 k y0 y1 y2 y3 y4) (spec_l26Entry.j0 (k + 1) y0 y1 y2 y3 y4)) ∧ (∀ y0 y1 y2 y3 y4,LeO (spec_l26Entry.l0 k y0 y1 y2 y3 y4) (spec_l26Entry.l0 (k + 1) y0 y1 y2 y3 y4)) ∧ (∀ y0 y1 y2 y3 y4 y5,LeO (spec_l26Entry.l1 k y0 y1 y2 y3 y4 y5) (spec_l26Entry.l1 (k + 1) y0 y1 y2 y3 y4 y5)) ∧ (∀ y0 y1 y2 y3 y4 y5 y6 y7 y8,LeO (spec_l26Entry.j3 k y0 y1 y2 y3 y4 y5 y6 y7 y8) (spec_l26Entry.j3 (k + 1) y0 y1 y2 y3 y4 y5 y6 y7 y8))
 | 0 => ⟨fun _ _ _ _ _ r h => by simp [spec_l26Entry.j0] at h,fun _ _ _ _ _ r h => by simp [spec_l26Entry.l0] at h,fun _ _ _ _ _ _ r h => by simp [spec_l26Entry.l1] at h,fun _ _ _ _ _ _ _ _ _ r h => by simp [spec_l26Entry.j3] at h⟩
 | k + 1 => by
  obtain ⟨ih0,ih1,ih2,ih3⟩:=spec_l26Entry.mono_l k;refine ⟨?_,?_,?_,?_⟩;all_goals intros
  all_goals (first | unfold spec_l26Entry.j0 | unfold spec_l26Entry.l0 | unfold spec_l26Entry.l1 | unfold spec_l26Entry.j3)
  all_goals
   repeat' with_reducible first | apply ih0 | apply ih1 | apply ih2 | apply ih3 | exact LeO.refl _ | exact LeO.none _ | refine LeO.ite ?_ ?_ | refine LeO.bind ?_ (fun _ => ?_)
theorem spec_l26Entry.mono : ∀ a0 a1 a2 a3 k,LeO (spec_l26Entry.f k a0 a1 a2 a3) (spec_l26Entry.f (k + 1) a0 a1 a2 a3):=by
 intro a0 a1 a2 a3 k;obtain ⟨ih0,ih1,ih2,ih3⟩:=spec_l26Entry.mono_l k;unfold spec_l26Entry.f;repeat' with_reducible first | apply ih0 | apply ih1 | apply ih2 | apply ih3 | exact LeO.refl _ | exact LeO.none _ | refine LeO.ite ?_ ?_ | refine LeO.bind ?_ (fun _ => ?_)
def spec_l26Entry.T13 : Bool × List (List Nat × List Nat):=(true,[([],[]),([0],[0]),([],[]),([2],[2]),([1,3],[1,3]),([4],[4]),([5,4],[5]),([6],[6]),([7,6],[6,7]),([8,6,6],[6,8]),([9,6],[6,9]),([6,10],[6,10]),([11,9],[11]),([12],[12]),([13,12],[12,13]),([14,12],[12,14]),([12,15],[12,15]),([16,12],[16]),([17],[17]),([18,17],[17,18]),([19,17,17],[17,19]),([20],[20]),([21,20],[20,21]),([20],[20]),([23,20],[20,23]),([22,24,20],[20,22,24]),([25,20],[20,25]),([26,20],[20,26]),([20],[20]),([28,20],[20,28]),([27,29,20],[20,27,29]),([20,30,17],[17,20,30]),([17,31],[17,31])])
def spec_l26Entry.B13 : List Nat:=[0,1,0,4,15,31,63,127,255,511,1023,2047,4095,8191,16383,32767,65535,131071,262143,524287,1048575,2097151,4194303,2097151,10485759,33554431,67108863,134217727,2097151,270532607,1073741823,2147483647,4294967295]
theorem spec_l26Entry.tab13 : rtab .any (opsOf Tryd.f102 13) = spec_l26Entry.T13:=by kernel_rfl
theorem spec_l26Entry.bits13 : waitsOk spec_l26Entry.T13.2 spec_l26Entry.B13 = true:=by kernel_rfl
set_option maxHeartbeats 8000000 in
set_option maxRecDepth 100000 in
theorem spec_l26Entry.calls (k : Nat) (a0_0 : Int) (a0_1 : ByteArray) (A0_2 : Option Addr) (c0_2 : Nat) (l0_2 : List (S70)) (a1 : Int) (r : Bool) (w : World) (hr0_2 : Kd.C k70 w A0_2 l0_2.length l0_2) (hc0_2 : l0_2.length ≤ c0_2) (h : spec_l26Entry.f k a0_0 a0_1 l0_2 a1 = some r) :
 Calls Tryd.prog 102 #[.agg #[.int .i64 a0_0,.string a0_1,.slice A0_2 l0_2.length c0_2],.int .i64 a1] w fun e w' => e = .returned (.bool r) ∧ Below w.heap.size w w':=by
 have hu63:=Tryd.underlying63;have hu70:=Tryd.underlying70;have HR0_2:=ak hr0_2;have HC0_2:=ak hc0_2;clear hr0_2 hc0_2;have HB:=ak (Below.refl w.heap.size w);have H:=h;clear h;unfold spec_l26Entry.f at H;have HC3:=ak H;clear H
 go_enter Tryd.func102,Tryd.ntmps102
 go_upto_region 1 with (first | ((with_reducible refine gate_dst (N:=2) rfl ?_);(try (refine gate_guard (by rfl) ?_;dsimp only));refine bx 2 (cs:=#[.int .i64 a0_0,.string a0_1,.slice A0_2 l0_2.length c0_2]) (t:=63) ?_;intro gb194 hg w4 hbox hb;have BK194:=ak (hbox);have GW194:=gw hg;have GE194:=gw hg;replace HB:=hB hb;clear hb hbox hg))
 (try simp only [Act.put,List.setIfInBounds_toArray,List.set_cons_zero,List.set_cons_succ])
 go_cut [25] (fun v25 wc => ∃ (kq : Nat) (x25_2 : Bool),v25 = .bool x25_2 ∧ Aside0 (spec_l26Entry.j0 kq a1 x25_2 a0_0 a0_1 l0_2 = some r) ∧ Aside0 (kq ≤ k) ∧ Aside0 (wc.heap[gb194]? = some (.cells #[.int .i64 a0_0,.string a0_1,(.slice A0_2 l0_2.length c0_2)] 63 (0,0))) ∧ Aside0 (Below w.heap.size w wc))
 case first =>
  have H:=HC3.out;clear HC3;obtain ⟨t195,A5,H⟩:=bdY H;by_cases c6 : t195 = true
  ·subst c6;replace H:=ifT H;by_cases c7 : (a0_1.size : Int) > 30
   ·rw [if_pos c7] at H;have c7b0 : decide (30 < (a0_1.size : Int)) = true:=decide_eq_true c7;have c7b1 : decide (30 < a0_1.size) = true:=decide_eq_true (by omega);clear c7;(first | rw [c7b0] | (simp only [i64_w,i32_w];rw [c7b0]) | skip);replace H:=ak H;obtain ⟨hcz8_0,hcz8_1,hcz8_2,hfz8_0,hfz8_1,hfz8_2⟩:=z3 BK194;go_wp2_with (first | (refine gc 11 Tryd.func66 #[.int .i64 a0_0] ?_;(with_reducible refine (spec_l3Good.calls a0_0 true _ A5.out).mono ?_);rintro e w' ⟨rfl,⟨nd,rfl⟩⟩;refine ⟨_,rfl,?_⟩))
    go_meet
    case rel => exact ⟨_,(true),ZZ0ab324,H,kle,⟨(zB BK194)⟩,⟨ZZ295621⟩⟩
   rw [if_neg c7] at H;have c7b0 : decide (30 < (a0_1.size : Int)) = false:=decide_eq_false c7;have c7b1 : decide (30 < a0_1.size) = false:=decide_eq_false (by omega);clear c7;(first | rw [c7b0] | (simp only [i64_w,i32_w];rw [c7b0]) | skip);obtain ⟨t196,A9,H⟩:=bdY H;replace H:=ak H;obtain ⟨hcz10_0,hcz10_1,hcz10_2,hfz10_0,hfz10_1,hfz10_2⟩:=z3 BK194;go_wp2_with (first | (refine gc 11 Tryd.func66 #[.int .i64 a0_0] ?_;(with_reducible refine (spec_l3Good.calls a0_0 true _ A5.out).mono ?_);rintro e w' ⟨rfl,⟨nd,rfl⟩⟩;refine ⟨_,rfl,?_⟩) | (go_at_call 65;(with_reducible refine (spec_l1In.calls (l0_2.length : Int) 2 8 t196 _ A9.out).mono ?_);rintro e w' ⟨rfl,⟨nd,rfl⟩⟩))
   go_meet
   case rel => exact ⟨_,(!t196),ZZ0ab324,H,kle,⟨(zB BK194)⟩,⟨ZZ295621⟩⟩
  replace c6:=Bool.eq_false_iff.mpr c6;subst c6;replace H:=ifF H;replace H:=ak H;obtain ⟨hcz11_0,hcz11_1,hcz11_2,hfz11_0,hfz11_1,hfz11_2⟩:=z3 BK194;go_wp2_with (first | (refine gc 11 Tryd.func66 #[.int .i64 a0_0] ?_;(with_reducible refine (spec_l3Good.calls a0_0 false _ A5.out).mono ?_);rintro e w' ⟨rfl,⟨nd,rfl⟩⟩;refine ⟨_,rfl,?_⟩))
  go_meet
  case rel => exact ⟨_,(true),ZZ0ab324,H,kle,⟨(zB BK194)⟩,⟨ZZ295621⟩⟩
 case rest =>
  clear HC3;try clear c6
  try clear c7
  try clear c7b0
  try clear c7b1
  try clear hcz10_0
  try clear hcz10_1
  try clear hcz10_2
  try clear hcz11_0
  try clear hcz11_1
  try clear hcz11_2
  try clear hcz8_0
  try clear hcz8_1
  try clear hcz8_2
  try clear hfz10_0
  try clear hfz10_1
  try clear hfz10_2
  try clear hfz11_0
  try clear hfz11_1
  try clear hfz11_2
  try clear hfz8_0
  try clear hfz8_1
  try clear hfz8_2
  obtain ⟨kq,x25_2,rfl,HA,HJ2,BK194,HB⟩:=hcut
  cases kq with
  | zero => exact absurd HA.out (by simp [spec_l26Entry.j0])
  | succ kj2 =>
   have H:=HA.out;clear HA;simp only [spec_l26Entry.j0] at H;by_cases c12 : x25_2 = true
   ·subst c12;replace H:=ifT H;obtain rfl:=Option.some.inj H;go_wp2;go_ret;exact ⟨ZZab01d2,ZZ295621⟩
   replace c12:=Bool.eq_false_iff.mpr c12;subst c12;replace H:=ifF H;replace H:=ak H;go_wp2
   go_loopg [5] kj2 (fun kq v5 w' => ∃ (x5_2 : Int),v5 = .int .i64 x5_2 ∧ Aside0 (spec_l26Entry.l0 kq a1 x5_2 a0_0 a0_1 l0_2 = some r) ∧ Aside0 (kq ≤ kj2) ∧ Aside0 (w'.heap[gb194]? = some (.cells #[.int .i64 a0_0,.string a0_1,(.slice A0_2 l0_2.length c0_2)] 63 (0,0))) ∧ Aside0 (Below w.heap.size w w'))
   case atStart => exact ⟨(0),ZZ0ab324,H,⟨Nat.le_refl _⟩,⟨(zB BK194)⟩,⟨ZZ295621⟩⟩
   case round =>
    clear H;try clear c12
    obtain ⟨x5_2,rfl,HA,HK2,BK194,HB⟩:=hrel
    cases gk with
    | zero => exact absurd HA.out (by simp [spec_l26Entry.l0])
    | succ k2 =>
     have H:=HA.out;clear HA;simp only [spec_l26Entry.l0] at H;by_cases c13 : x5_2 < (a0_1.size : Int)
     ·rw [if_pos c13] at H;have c13b0:=decide_eq_true c13;clear c13;obtain ⟨c14b0,H⟩:=ifYd H;obtain ⟨t197,A16,H⟩:=bdY H;by_cases c17 : t197 = true
      ·subst c17;replace H:=ifT H;replace H:=ak H;obtain ⟨hcz18_0,hcz18_1,hcz18_2,hfz18_0,hfz18_1,hfz18_2⟩:=z3 BK194;have p15 : 0 ≤ (x5_2 : Int):=of_decide_eq_true ZZ853400;have q15 : x5_2 < (a0_1.size : Int):=of_decide_eq_true ZZ853400;have hx15:=bt_at a0_1 x5_2;replace p15:=eq_true p15;replace q15:=eq_true q15;go_wp2_with (first | (refine gc 38 Tryd.func65 #[.int .i64 (wrap64 (bt a0_1 x5_2)),.int .i64 32,.int .i64 126] ?_;(with_reducible refine (spec_l1In.calls (wrap64 (bt a0_1 x5_2)) 32 126 true _ A16.out).mono ?_);rintro e w' ⟨rfl,⟨nd,rfl⟩⟩;refine ⟨_,rfl,?_⟩))
       go_roundg k2
       case measure => have:=HJ2.out;have:=HK2.out;omega
       case rel => exact ⟨(wrap64 (x5_2 + 1)),ZZ0ab324,‹_›,kle,⟨(zB BK194)⟩,⟨ZZ295621⟩⟩
      replace c17:=Bool.eq_false_iff.mpr c17;subst c17;replace H:=ifF H;obtain rfl:=Option.some.inj H;obtain ⟨hcz19_0,hcz19_1,hcz19_2,hfz19_0,hfz19_1,hfz19_2⟩:=z3 BK194;have p15 : 0 ≤ (x5_2 : Int):=of_decide_eq_true ZZ853400;have q15 : x5_2 < (a0_1.size : Int):=of_decide_eq_true ZZ853400;have hx15:=bt_at a0_1 x5_2;replace p15:=eq_true p15;replace q15:=eq_true q15;go_wp2_with (first | (refine gc 38 Tryd.func65 #[.int .i64 (wrap64 (bt a0_1 x5_2)),.int .i64 32,.int .i64 126] ?_;(with_reducible refine (spec_l1In.calls (wrap64 (bt a0_1 x5_2)) 32 126 false _ A16.out).mono ?_);rintro e w' ⟨rfl,⟨nd,rfl⟩⟩;refine ⟨_,rfl,?_⟩))
      go_ret;exact ⟨ZZab01d2,ZZ295621⟩
     rw [if_neg c13] at H;have c13b0:=decide_eq_false c13;clear c13;replace H:=ak H;obtain ⟨hcz20_0,hcz20_1,hcz20_2,hfz20_0,hfz20_1,hfz20_2⟩:=z3 BK194;go_wp2
     go_loopg [6,7] k2 (fun kq v6 v7 w' => ∃ (x6_3 : Int) (x7_3 : Int),v6 = .int .i64 x6_3 ∧ v7 = .int .i64 x7_3 ∧ Aside0 (spec_l26Entry.l1 kq a1 x6_3 x7_3 a0_0 a0_1 l0_2 = some r) ∧ Aside0 (kq ≤ k2) ∧ Aside0 (w'.heap[gb194]? = some (.cells #[.int .i64 a0_0,.string a0_1,(.slice A0_2 l0_2.length c0_2)] 63 (0,0))) ∧ Aside0 (Below w.heap.size w w'))
     case atStart => exact ⟨(0),(0),ZZ0ab324,ZZ0ab324,H,⟨Nat.le_refl _⟩,⟨(zB BK194)⟩,⟨ZZ295621⟩⟩
     case round =>
      clear H;try clear c13b0
      try clear c14b0
      try clear p15
      try clear q15
      try clear hx15
      try clear c17
      try clear hcz18_0
      try clear hcz18_1
      try clear hcz18_2
      try clear hcz19_0
      try clear hcz19_1
      try clear hcz19_2
      try clear hcz20_0
      try clear hcz20_1
      try clear hcz20_2
      try clear hfz18_0
      try clear hfz18_1
      try clear hfz18_2
      try clear hfz19_0
      try clear hfz19_1
      try clear hfz19_2
      try clear hfz20_0
      try clear hfz20_1
      try clear hfz20_2
      obtain ⟨x6_3,x7_3,rfl,rfl,HA,HK3,BK194,HB⟩:=hrel
      cases gk with
      | zero => exact absurd HA.out (by simp [spec_l26Entry.l1])
      | succ k3 =>
       have H:=HA.out;clear HA;simp only [spec_l26Entry.l1] at H;by_cases c21 : x7_3 < (l0_2.length : Int)
       ·rw [if_pos c21] at H;have c21b0:=decide_eq_true c21;clear c21;obtain ⟨c22b0,H⟩:=ifYd H;have HC23:=ak H;clear H;obtain ⟨hcz24_0,hcz24_1,hcz24_2,hfz24_0,hfz24_1,hfz24_2⟩:=z3 BK194;have p198 : 0 ≤ (x7_3 : Int):=of_decide_eq_true ZZ853400;have q198 : x7_3 < (l0_2.length : Int):=of_decide_eq_true ZZ853400;obtain ⟨ad198,e198,hx198_0,hx198_1⟩:=at_T70 HR0_2.out x7_3 p198 q198
        cases e198
        replace hx198_0:=bc HB hx198_0;replace hx198_1:=bc HB hx198_1;replace p198:=eq_true p198;replace q198:=eq_true q198;go_upto_region 13 with (first | ((with_reducible refine gate_dst (N:=8) rfl ?_);(try (refine gate_guard (by rfl) ?_;dsimp only));refine bx 8 (cs:=#[.int .i64 0,.int .i64 0]) (t:=70) ?_;intro gb199 hg w25 hbox hb;have BK199:=ak (hbox);have GW199:=gw hg;have GE199:=gw hg;replace HB:=hB hb;have NB194_199:=nl hg BK194;have NB199_194:=ng hg BK194;replace BK194:=kb BK194 hb;clear hb hbox hg;have hnb26:=NB199_194.out;have hnc26:=NB194_199.out;obtain ⟨hcz27_0,hcz27_1,hfz27_0,hfz27_1⟩:=z2 BK199))
        (try simp only [Act.put,List.setIfInBounds_toArray,List.set_cons_zero,List.set_cons_succ])
        go_cut [84] (fun v84 wc => ∃ (kq : Nat) (x84_22 : Bool),v84 = .bool x84_22 ∧ Aside0 (spec_l26Entry.j3 kq a1 x6_3 x7_3 x84_22 a0_0 a0_1 l0_2 ((rd_T70 l0_2 x7_3).f0) ((rd_T70 l0_2 x7_3).f1) = some r) ∧ Aside0 (kq ≤ k3) ∧ Aside0 (wc.heap[gb194]? = some (.cells #[.int .i64 a0_0,.string a0_1,(.slice (some ad198) l0_2.length c0_2)] 63 (0,0))) ∧ Aside0 (wc.heap[gb199]? = some (.cells #[.int .i64 ((rd_T70 l0_2 x7_3).f0),.int .i64 ((rd_T70 l0_2 x7_3).f1)] 70 (0,0))) ∧ Aside0 (Below w.heap.size w wc))
        case first =>
         have H:=HC23.out;clear HC23;obtain ⟨t200,A28,H⟩:=bdY H;by_cases c29 : t200 = true
         ·subst c29;replace H:=ifT H;obtain ⟨t201,A30,H⟩:=bdY H;by_cases c31 : t201 = true
          ·subst c31;replace H:=ifT H;by_cases c32 : ((rd_T70 l0_2 x7_3).f1) = 0
           ·rw [if_pos c32] at H;have c32b0:=beq_iff_eq.mpr c32;have c32b1:=bne_eq_false_iff_eq.mpr c32;clear c32;(first | rw [c32b0] | (simp only [i64_w,i32_w];rw [c32b0]) | skip);replace H:=ak H;try go_wp2
            generalize hw_ : ((w25.setCell ⟨gb199,0,none⟩ (.int .i64 ((rd_T70 l0_2 x7_3).f0))).setCell ⟨gb199,1,none⟩ (.int .i64 ((rd_T70 l0_2 x7_3).f1))) = w33;replace BK194 : Aside0 (w33.heap[gb194]? = some (.cells #[.int .i64 a0_0,.string a0_1,.slice (some ad198) l0_2.length c0_2] 63 (0,0))):=⟨ZZc8eb39⟩;replace BK199 : Aside0 (w33.heap[gb199]? = some (.cells #[.int .i64 ((rd_T70 l0_2 x7_3).f0),.int .i64 ((rd_T70 l0_2 x7_3).f1)] 70 (0,0))):=⟨ZZd7c2b9⟩;replace HB : Aside0 (Below w.heap.size w w33):=⟨ZZ0d0602⟩;clear hw_;replace BK194:=ak (blk_drew BK194.out);replace BK199:=ak (blk_drew BK199.out);replace HB:=ak (below_drew1 HB.out);refine st 33 (S:=fun w' => w'.cell? ⟨gb199,0,none⟩ = some (.int .i64 ((rd_T70 l0_2 x7_3).f0)) ∧ w'.cell? ⟨gb199,1,none⟩ = some (.int .i64 ((rd_T70 l0_2 x7_3).f1))) spec_l26Entry.tab13 spec_l26Entry.bits13 zK (fun hHeld HT_ HW_ => ?_);generalize w33.drew = w34 at BK194 BK199 HB hHeld ⊢;refine pu 0 52 ?_;refine pu 2 54 ?_;refine pu 3 55 ?_;refine tk 1 53 ?_;refine on1 4 56 Tryd.func65 #[.int .i64 ((rd_T70 l0_2 x7_3).f0),.int .i64 0,.int .i64 (wrap64 (a1 - 1))] (spec_l1In.calls ((rd_T70 l0_2 x7_3).f0) 0 (wrap64 (a1 - 1)) true _ A28.out) ?_;rintro w' ⟨nd,rfl⟩;refine ⟨hHeld,fun hHeld => ?_⟩;refine pu 5 57 ?_;refine pu 6 58 ?_;refine pu 7 59 ?_;refine tk 8 60 ?_;refine on1 9 61 Tryd.func71 #[.int .i64 ((rd_T70 l0_2 x7_3).f1)] (spec_l2Amount.calls ((rd_T70 l0_2 x7_3).f1) true _ A30.out) ?_;rintro w' ⟨nd,rfl⟩;refine ⟨hHeld,fun hHeld => ?_⟩;refine pu 10 62 ?_;refine pu 11 63 ?_;refine pu 12 64 ?_;refine pu 13 65 ?_;refine tk 14 66 ?_;refine pu 15 67 ?_;refine pu 16 68 ?_;refine pu 17 69 ?_;refine pn 18 70 ?_;refine pn 19 71 ?_;refine pn 20 72 ?_;refine pn 21 73 ?_;refine pn 22 74 ?_;refine pn 23 75 ?_;refine pn 24 76 ?_;refine pn 25 77 ?_;refine pn 26 78 ?_;refine pn 27 79 ?_;refine pn 28 80 ?_;refine pn 29 81 ?_;refine pn 30 82 ?_;refine pn 31 83 ?_;refine pu 32 84 ?_;refine done_ (done_of HT_.out (by kernel_rfl)) ?_;try go_wp2
            go_meet
            case rel => exact ⟨_,(true),ZZ0ab324,H,kle,⟨(zB BK194)⟩,⟨(zB BK199)⟩,⟨ZZ295621⟩⟩
           rw [if_neg c32] at H;have c32b0:=beq_eq_false_iff_ne.mpr c32;have c32b1:=bne_iff_ne.mpr c32;(first | rw [c32b0] | (simp only [i64_w,i32_w];rw [c32b0]) | skip);by_cases c35 : x7_3 > 0
           ·rw [if_pos c35] at H;have c35b0 : decide (0 < x7_3) = true:=decide_eq_true c35;clear c35;obtain ⟨ji36,hji36⟩ : ∃ j_ : Int,(wrap64 (x7_3 - 1)) = j_:=⟨_,rfl⟩;(first | rw [hji36] at H | simp only [hji36] at H);(try rw [hji36] at A28);(try rw [hji36] at A30);have hji36w : (IntKind.i64.wrap (x7_3 - 1)) = ji36:=(i64_w _).trans hji36;obtain ⟨c37b0,H⟩:=ifYd H;obtain ⟨c38b0,H⟩:=ifYd H;replace H:=ak H;try go_wp2
            generalize hw_ : ((w25.setCell ⟨gb199,0,none⟩ (.int .i64 ((rd_T70 l0_2 x7_3).f0))).setCell ⟨gb199,1,none⟩ (.int .i64 ((rd_T70 l0_2 x7_3).f1))) = w39;replace BK194 : Aside0 (w39.heap[gb194]? = some (.cells #[.int .i64 a0_0,.string a0_1,.slice (some ad198) l0_2.length c0_2] 63 (0,0))):=⟨ZZc8eb39⟩;replace BK199 : Aside0 (w39.heap[gb199]? = some (.cells #[.int .i64 ((rd_T70 l0_2 x7_3).f0),.int .i64 ((rd_T70 l0_2 x7_3).f1)] 70 (0,0))):=⟨ZZd7c2b9⟩;replace HB : Aside0 (Below w.heap.size w w39):=⟨ZZ0d0602⟩;clear hw_;replace BK194:=ak (blk_drew BK194.out);replace BK199:=ak (blk_drew BK199.out);replace HB:=ak (below_drew1 HB.out);have p202 : 0 ≤ ((ji36) : Int):=of_decide_eq_true ZZ853400;have q202 : (ji36) < (l0_2.length : Int):=of_decide_eq_true ZZ853400;obtain ⟨ad202,e202,hx202_0,hx202_1⟩:=at_T70 HR0_2.out (ji36) p202 q202;have hw202_1:=hx202_1;have hw202_0:=hx202_0;obtain rfl : ad198 = ad202:=(by injection e202);replace hx202_0:=bc HB hx202_0;replace hx202_1:=bc HB hx202_1;replace p202:=eq_true p202;replace q202:=eq_true q202;refine st 33 (S:=fun w' => w'.cell? ⟨gb199,0,none⟩ = some (.int .i64 ((rd_T70 l0_2 x7_3).f0)) ∧ w'.cell? ⟨gb199,1,none⟩ = some (.int .i64 ((rd_T70 l0_2 x7_3).f1)) ∧ w'.cell? ⟨gb194,0,none⟩ = some (.int .i64 a0_0) ∧ w'.cell? ⟨gb194,1,none⟩ = some (.string a0_1) ∧ w'.cell? ⟨gb194,2,none⟩ = some (.slice (some ad198) l0_2.length c0_2) ∧ w'.cell? (ad198.add (((ji36)).toNat * 2)) = some (.int .i64 ((rd_T70 l0_2 (ji36)).f0)) ∧ w'.cell? ⟨(ad198.add (((ji36)).toNat * 2)).block,(ad198.add (((ji36)).toNat * 2)).off + 1,none⟩ = some (.int .i64 ((rd_T70 l0_2 (ji36)).f1))) spec_l26Entry.tab13 spec_l26Entry.bits13 zK (fun hHeld HT_ HW_ => ?_);generalize w39.drew = w40 at BK194 BK199 HB hx202_0 hx202_1 hHeld ⊢;refine pu 0 52 ?_;refine pu 2 54 ?_;refine pu 3 55 ?_;refine tk 1 53 ?_;refine on1 4 56 Tryd.func65 #[.int .i64 ((rd_T70 l0_2 x7_3).f0),.int .i64 0,.int .i64 (wrap64 (a1 - 1))] (spec_l1In.calls ((rd_T70 l0_2 x7_3).f0) 0 (wrap64 (a1 - 1)) true _ A28.out) ?_;rintro w' ⟨nd,rfl⟩;refine ⟨hHeld,fun hHeld => ?_⟩;refine pu 5 57 ?_;refine pu 6 58 ?_;refine pu 7 59 ?_;refine tk 8 60 ?_;refine on1 9 61 Tryd.func71 #[.int .i64 ((rd_T70 l0_2 x7_3).f1)] (spec_l2Amount.calls ((rd_T70 l0_2 x7_3).f1) true _ A30.out) ?_;rintro w' ⟨nd,rfl⟩;refine ⟨hHeld,fun hHeld => ?_⟩;refine pu 10 62 ?_;refine pu 11 63 ?_;refine pu 12 64 ?_;refine pu 13 65 ?_;refine tk 14 66 ?_;refine pu 15 67 ?_;refine pu 16 68 ?_;refine pu 17 69 ?_;refine pu 18 70 ?_;refine pu 19 71 ?_;refine pu 20 72 ?_;refine pu 21 73 ?_;refine pu 23 75 ?_;refine pu 24 76 ?_;refine pu 28 80 ?_;refine tk 22 74 ?_;refine pu 25 77 ?_;refine pu 26 78 ?_;refine tk 27 79 ?_;refine tk 29 81 ?_;refine pu 30 82 ?_;refine pu 31 83 ?_;refine pu 32 84 ?_;refine done_ (done_of HT_.out (by kernel_rfl)) ?_;try go_wp2
            go_meet
            case rel => exact ⟨_,(decide (((rd_T70 l0_2 (ji36)).f0) ≥ ((rd_T70 l0_2 x7_3).f0))),(by first | rfl | (simp;done) | (simp only [← hji36] <;> (first | rfl | simp)) | (simp [*];done)),H,kle,⟨(zB BK194)⟩,⟨(zB BK199)⟩,⟨ZZ295621⟩⟩
           rw [if_neg c35] at H;have c35b0 : decide (0 < x7_3) = false:=decide_eq_false c35;clear c35;replace H:=ak H;try go_wp2
           generalize hw_ : ((w25.setCell ⟨gb199,0,none⟩ (.int .i64 ((rd_T70 l0_2 x7_3).f0))).setCell ⟨gb199,1,none⟩ (.int .i64 ((rd_T70 l0_2 x7_3).f1))) = w41;replace BK194 : Aside0 (w41.heap[gb194]? = some (.cells #[.int .i64 a0_0,.string a0_1,.slice (some ad198) l0_2.length c0_2] 63 (0,0))):=⟨ZZc8eb39⟩;replace BK199 : Aside0 (w41.heap[gb199]? = some (.cells #[.int .i64 ((rd_T70 l0_2 x7_3).f0),.int .i64 ((rd_T70 l0_2 x7_3).f1)] 70 (0,0))):=⟨ZZd7c2b9⟩;replace HB : Aside0 (Below w.heap.size w w41):=⟨ZZ0d0602⟩;clear hw_;replace BK194:=ak (blk_drew BK194.out);replace BK199:=ak (blk_drew BK199.out);replace HB:=ak (below_drew1 HB.out);refine st 33 (S:=fun w' => w'.cell? ⟨gb199,0,none⟩ = some (.int .i64 ((rd_T70 l0_2 x7_3).f0)) ∧ w'.cell? ⟨gb199,1,none⟩ = some (.int .i64 ((rd_T70 l0_2 x7_3).f1))) spec_l26Entry.tab13 spec_l26Entry.bits13 zK (fun hHeld HT_ HW_ => ?_);generalize w41.drew = w42 at BK194 BK199 HB hHeld ⊢;refine pu 0 52 ?_;refine pu 2 54 ?_;refine pu 3 55 ?_;refine tk 1 53 ?_;refine on1 4 56 Tryd.func65 #[.int .i64 ((rd_T70 l0_2 x7_3).f0),.int .i64 0,.int .i64 (wrap64 (a1 - 1))] (spec_l1In.calls ((rd_T70 l0_2 x7_3).f0) 0 (wrap64 (a1 - 1)) true _ A28.out) ?_;rintro w' ⟨nd,rfl⟩;refine ⟨hHeld,fun hHeld => ?_⟩;refine pu 5 57 ?_;refine pu 6 58 ?_;refine pu 7 59 ?_;refine tk 8 60 ?_;refine on1 9 61 Tryd.func71 #[.int .i64 ((rd_T70 l0_2 x7_3).f1)] (spec_l2Amount.calls ((rd_T70 l0_2 x7_3).f1) true _ A30.out) ?_;rintro w' ⟨nd,rfl⟩;refine ⟨hHeld,fun hHeld => ?_⟩;refine pu 10 62 ?_;refine pu 11 63 ?_;refine pu 12 64 ?_;refine pu 13 65 ?_;refine tk 14 66 ?_;refine pu 15 67 ?_;refine pu 16 68 ?_;refine pu 17 69 ?_;refine pu 18 70 ?_;refine pu 19 71 ?_;refine pu 20 72 ?_;refine pn 21 73 ?_;refine pn 22 74 ?_;refine pn 23 75 ?_;refine pn 24 76 ?_;refine pn 25 77 ?_;refine pn 26 78 ?_;refine pn 27 79 ?_;refine pn 28 80 ?_;refine pn 29 81 ?_;refine pn 30 82 ?_;refine pu 31 83 ?_;refine pu 32 84 ?_;refine done_ (done_of HT_.out (by kernel_rfl)) ?_;try go_wp2
           go_meet
           case rel => exact ⟨_,(false),ZZ0ab324,H,kle,⟨(zB BK194)⟩,⟨(zB BK199)⟩,⟨ZZ295621⟩⟩
          replace c31:=Bool.eq_false_iff.mpr c31;subst c31;replace H:=ifF H;replace H:=ak H;try go_wp2
          generalize hw_ : ((w25.setCell ⟨gb199,0,none⟩ (.int .i64 ((rd_T70 l0_2 x7_3).f0))).setCell ⟨gb199,1,none⟩ (.int .i64 ((rd_T70 l0_2 x7_3).f1))) = w43;replace BK194 : Aside0 (w43.heap[gb194]? = some (.cells #[.int .i64 a0_0,.string a0_1,.slice (some ad198) l0_2.length c0_2] 63 (0,0))):=⟨ZZc8eb39⟩;replace BK199 : Aside0 (w43.heap[gb199]? = some (.cells #[.int .i64 ((rd_T70 l0_2 x7_3).f0),.int .i64 ((rd_T70 l0_2 x7_3).f1)] 70 (0,0))):=⟨ZZd7c2b9⟩;replace HB : Aside0 (Below w.heap.size w w43):=⟨ZZ0d0602⟩;clear hw_;replace BK194:=ak (blk_drew BK194.out);replace BK199:=ak (blk_drew BK199.out);replace HB:=ak (below_drew1 HB.out);refine st 33 (S:=fun w' => w'.cell? ⟨gb199,0,none⟩ = some (.int .i64 ((rd_T70 l0_2 x7_3).f0)) ∧ w'.cell? ⟨gb199,1,none⟩ = some (.int .i64 ((rd_T70 l0_2 x7_3).f1))) spec_l26Entry.tab13 spec_l26Entry.bits13 zK (fun hHeld HT_ HW_ => ?_);generalize w43.drew = w44 at BK194 BK199 HB hHeld ⊢;refine pu 0 52 ?_;refine pu 2 54 ?_;refine pu 3 55 ?_;refine tk 1 53 ?_;refine on1 4 56 Tryd.func65 #[.int .i64 ((rd_T70 l0_2 x7_3).f0),.int .i64 0,.int .i64 (wrap64 (a1 - 1))] (spec_l1In.calls ((rd_T70 l0_2 x7_3).f0) 0 (wrap64 (a1 - 1)) true _ A28.out) ?_;rintro w' ⟨nd,rfl⟩;refine ⟨hHeld,fun hHeld => ?_⟩;refine pu 5 57 ?_;refine pu 6 58 ?_;refine pu 7 59 ?_;refine tk 8 60 ?_;refine on1 9 61 Tryd.func71 #[.int .i64 ((rd_T70 l0_2 x7_3).f1)] (spec_l2Amount.calls ((rd_T70 l0_2 x7_3).f1) false _ A30.out) ?_;rintro w' ⟨nd,rfl⟩;refine ⟨hHeld,fun hHeld => ?_⟩;refine pu 10 62 ?_;refine pu 11 63 ?_;refine pu 12 64 ?_;refine pn 13 65 ?_;refine pn 14 66 ?_;refine pn 15 67 ?_;refine pu 16 68 ?_;refine pu 17 69 ?_;refine pn 18 70 ?_;refine pn 19 71 ?_;refine pn 20 72 ?_;refine pn 21 73 ?_;refine pn 22 74 ?_;refine pn 23 75 ?_;refine pn 24 76 ?_;refine pn 25 77 ?_;refine pn 26 78 ?_;refine pn 27 79 ?_;refine pn 28 80 ?_;refine pn 29 81 ?_;refine pn 30 82 ?_;refine pn 31 83 ?_;refine pu 32 84 ?_;refine done_ (done_of HT_.out (by kernel_rfl)) ?_;try go_wp2
          go_meet
          case rel => exact ⟨_,(true),ZZ0ab324,H,kle,⟨(zB BK194)⟩,⟨(zB BK199)⟩,⟨ZZ295621⟩⟩
         replace c29:=Bool.eq_false_iff.mpr c29;subst c29;replace H:=ifF H;replace H:=ak H;try go_wp2
         generalize hw_ : ((w25.setCell ⟨gb199,0,none⟩ (.int .i64 ((rd_T70 l0_2 x7_3).f0))).setCell ⟨gb199,1,none⟩ (.int .i64 ((rd_T70 l0_2 x7_3).f1))) = w45;replace BK194 : Aside0 (w45.heap[gb194]? = some (.cells #[.int .i64 a0_0,.string a0_1,.slice (some ad198) l0_2.length c0_2] 63 (0,0))):=⟨ZZc8eb39⟩;replace BK199 : Aside0 (w45.heap[gb199]? = some (.cells #[.int .i64 ((rd_T70 l0_2 x7_3).f0),.int .i64 ((rd_T70 l0_2 x7_3).f1)] 70 (0,0))):=⟨ZZd7c2b9⟩;replace HB : Aside0 (Below w.heap.size w w45):=⟨ZZ0d0602⟩;clear hw_;replace BK194:=ak (blk_drew BK194.out);replace BK199:=ak (blk_drew BK199.out);replace HB:=ak (below_drew1 HB.out);refine st 33 (S:=fun w' => w'.cell? ⟨gb199,0,none⟩ = some (.int .i64 ((rd_T70 l0_2 x7_3).f0)) ∧ w'.cell? ⟨gb199,1,none⟩ = some (.int .i64 ((rd_T70 l0_2 x7_3).f1))) spec_l26Entry.tab13 spec_l26Entry.bits13 zK (fun hHeld HT_ HW_ => ?_);generalize w45.drew = w46 at BK194 BK199 HB hHeld ⊢;refine pu 0 52 ?_;refine pu 2 54 ?_;refine pu 3 55 ?_;refine tk 1 53 ?_;refine on1 4 56 Tryd.func65 #[.int .i64 ((rd_T70 l0_2 x7_3).f0),.int .i64 0,.int .i64 (wrap64 (a1 - 1))] (spec_l1In.calls ((rd_T70 l0_2 x7_3).f0) 0 (wrap64 (a1 - 1)) false _ A28.out) ?_;rintro w' ⟨nd,rfl⟩;refine ⟨hHeld,fun hHeld => ?_⟩;refine pu 5 57 ?_;refine pu 6 58 ?_;refine pn 7 59 ?_;refine pn 8 60 ?_;refine pn 9 61 ?_;refine pn 10 62 ?_;refine pu 11 63 ?_;refine pu 12 64 ?_;refine pn 13 65 ?_;refine pn 14 66 ?_;refine pn 15 67 ?_;refine pu 16 68 ?_;refine pu 17 69 ?_;refine pn 18 70 ?_;refine pn 19 71 ?_;refine pn 20 72 ?_;refine pn 21 73 ?_;refine pn 22 74 ?_;refine pn 23 75 ?_;refine pn 24 76 ?_;refine pn 25 77 ?_;refine pn 26 78 ?_;refine pn 27 79 ?_;refine pn 28 80 ?_;refine pn 29 81 ?_;refine pn 30 82 ?_;refine pn 31 83 ?_;refine pu 32 84 ?_;refine done_ (done_of HT_.out (by kernel_rfl)) ?_;try go_wp2
         go_meet
         case rel => exact ⟨_,(true),ZZ0ab324,H,kle,⟨(zB BK194)⟩,⟨(zB BK199)⟩,⟨ZZ295621⟩⟩
        case rest =>
         clear HC23;try clear c29
         try clear c31
         obtain ⟨kq,x84_22,rfl,HA,HJ22,BK194,BK199,HB⟩:=hcut
         cases kq with
         | zero => exact absurd HA.out (by simp [spec_l26Entry.j3])
         | succ kj22 =>
          have H:=HA.out;clear HA;simp only [spec_l26Entry.j3] at H;by_cases c47 : x84_22 = true
          ·subst c47;replace H:=ifT H;obtain rfl:=Option.some.inj H;go_wp2;go_ret;exact ⟨ZZab01d2,ZZ295621⟩
          replace c47:=Bool.eq_false_iff.mpr c47;subst c47;replace H:=ifF H;replace H:=ak H;have hnb48:=NB199_194.out;have hnc48:=NB194_199.out;obtain ⟨hcz49_0,hcz49_1,hfz49_0,hfz49_1⟩:=z2 BK199;go_wp2
          go_roundg kj22
          case measure => have:=HJ2.out;have:=HK2.out;have:=HK3.out;have:=HJ22.out;omega
          case rel => exact ⟨(wrap64 (x6_3 + ((rd_T70 l0_2 x7_3).f1))),(wrap64 (x7_3 + 1)),ZZ0ab324,ZZ0ab324,‹_›,kle,⟨(zB BK194)⟩,⟨ZZ295621⟩⟩
       rw [if_neg c21] at H;have c21b0:=decide_eq_false c21;clear c21;obtain rfl:=Option.some.inj H;obtain ⟨hcz50_0,hcz50_1,hcz50_2,hfz50_0,hfz50_1,hfz50_2⟩:=z3 BK194;go_wp2;go_ret;exact ⟨ZZab01d2,ZZ295621⟩
theorem ZZ6f6112 {p : Prop} (h : p:=by subst hw_;refine bR ?_;exact Kd.R_mono (Kd.rf (Kd.rf (Kd.rf (Kd.R_types HO_3.out BK209.out (by decide))))) (fun _ hk => trivial)) : p:=h
theorem ZZc1367a {p : Prop} (h : p:=by subst hw_;refine bd ?_;refine blk_far ?_ NB203_209.out _;refine bd ?_;refine blk_far ?_ NB203_209.out _;refine bd ?_;refine blk_far ?_ NB203_209.out _;refine bd ?_;exact BK203.out) : p:=h
theorem ZZcac3c8 {p : Prop} (h : p:=by subst hw_;refine bd ?_;refine blk_put (cs:=#[.int .i64 ((rd_T63 l0_1 x4_2).f0),.string ((rd_T63 l0_1 x4_2).f1),.slice none 0 0]) ?_ 2 _ rfl;refine bd ?_;refine blk_put (cs:=#[.int .i64 ((rd_T63 l0_1 x4_2).f0),.string (⟨#[]⟩ : ByteArray),.slice none 0 0]) ?_ 1 _ rfl;refine bd ?_;refine blk_put (cs:=#[.int .i64 0,.string (⟨#[]⟩ : ByteArray),.slice none 0 0]) ?_ 0 _ rfl;refine bd ?_;exact BK209.out) : p:=h
mutual
def spec_l26Good.j0 : Nat → Bool → List (S48) → List (S63) → Option (Bool)
 | 0,_,_,_ => none
 | k + 1,x17,x204000,x204001 => if x17 = true then (some false) else (if 0 ≤ (x204000.length : Int) then (if ((x204000.length : Int) : Int).toNat ≤ 35184372088832 then (spec_l26Good.l0 k (List.replicate ((x204000.length : Int) : Int).toNat 0) 0 x204000 x204001) else (none)) else (none))
def spec_l26Good.l0 : Nat → List Int → Int → List (S48) → List (S63) → Option (Bool)
 | 0,_,_,_,_ => none
 | k + 1,x3,x4,x204000,x204001 => if x4 < (x204001.length : Int) then (if 0 ≤ x4 then ((spec_l26Entry.f k ((rd_T63 x204001 x4).f0) ((rd_T63 x204001 x4).f1) ((rd_T63 x204001 x4).f2) (x204000.length : Int)).bind fun t210 => (if t210 = true then (if x4 > 0 then (if 0 ≤ (wrap64 (x4 - 1)) then (if (wrap64 (x4 - 1)) < (x204001.length : Int) then (spec_l26Good.j2 k x3 x4 (decide (((rd_T63 x204001 (wrap64 (x4 - 1))).f0) > ((rd_T63 x204001 x4).f0))) x204000 x204001 ((rd_T63 x204001 x4).f0) ((rd_T63 x204001 x4).f1) ((rd_T63 x204001 x4).f2)) else (none)) else (none)) else (spec_l26Good.j2 k x3 x4 false x204000 x204001 ((rd_T63 x204001 x4).f0) ((rd_T63 x204001 x4).f1) ((rd_T63 x204001 x4).f2))) else (spec_l26Good.j2 k x3 x4 true x204000 x204001 ((rd_T63 x204001 x4).f0) ((rd_T63 x204001 x4).f1) ((rd_T63 x204001 x4).f2)))) else (none)) else (some true)
def spec_l26Good.j2 : Nat → List Int → Int → Bool → List (S48) → List (S63) → Int → ByteArray → List (S70) → Option (Bool)
 | 0,_,_,_,_,_,_,_,_ => none
 | k + 1,x3,x4,x55,x204000,x204001,x210000,x210001,x210002 => if x55 = true then (some false) else (spec_l26Good.l1 k x3 x4 0 x204000 x204001 x210000 x210001 x210002)
def spec_l26Good.l1 : Nat → List Int → Int → Int → List (S48) → List (S63) → Int → ByteArray → List (S70) → Option (Bool)
 | 0,_,_,_,_,_,_,_,_ => none
 | k + 1,x3,x4,x6,x204000,x204001,x210000,x210001,x210002 => if x6 < (x210002.length : Int) then (if 0 ≤ x6 then (if 0 ≤ ((rd_T70 x210002 x6).f0) then (if ((rd_T70 x210002 x6).f0) < (x3.length : Int) then ((spec_l2Amount.f (wrap64 ((rd x3 ((rd_T70 x210002 x6).f0)) + ((rd_T70 x210002 x6).f1)))).bind fun t217 => (if t217 = true then (spec_l26Good.l1 k (x3.set (((rd_T70 x210002 x6).f0) : Int).toNat (wrap64 ((rd x3 ((rd_T70 x210002 x6).f0)) + ((rd_T70 x210002 x6).f1)))) x4 (wrap64 (x6 + 1)) x204000 x204001 x210000 x210001 x210002) else (some false))) else (none)) else (none)) else (none)) else (spec_l26Good.l0 k x3 (wrap64 (x4 + 1)) x204000 x204001)
end
def spec_l26Good.f (k : Nat) (l0_0 : List (S48)) (l0_1 : List (S63)) : Option (Bool):=(spec_l26Accounts.f k l0_0).bind fun t204 => (if t204 = true then (spec_l26Good.j0 k (decide ((l0_1.length : Int) > 40)) l0_0 l0_1) else (spec_l26Good.j0 k true l0_0 l0_1))
theorem spec_l26Good.mono_l : ∀ k,(∀ y0 y1 y2,LeO (spec_l26Good.j0 k y0 y1 y2) (spec_l26Good.j0 (k + 1) y0 y1 y2)) ∧ (∀ y0 y1 y2 y3,LeO (spec_l26Good.l0 k y0 y1 y2 y3) (spec_l26Good.l0 (k + 1) y0 y1 y2 y3)) ∧ (∀ y0 y1 y2 y3 y4 y5 y6 y7,LeO (spec_l26Good.j2 k y0 y1 y2 y3 y4 y5 y6 y7) (spec_l26Good.j2 (k + 1) y0 y1 y2 y3 y4 y5 y6 y7)) ∧ (∀ y0 y1 y2 y3 y4 y5 y6 y7,LeO (spec_l26Good.l1 k y0 y1 y2 y3 y4 y5 y6 y7) (spec_l26Good.l1 (k + 1) y0 y1 y2 y3 y4 y5 y6 y7))
 | 0 => ⟨fun _ _ _ r h => by simp [spec_l26Good.j0] at h,fun _ _ _ _ r h => by simp [spec_l26Good.l0] at h,fun _ _ _ _ _ _ _ _ r h => by simp [spec_l26Good.j2] at h,fun _ _ _ _ _ _ _ _ r h => by simp [spec_l26Good.l1] at h⟩
 | k + 1 => by
  obtain ⟨ih0,ih1,ih2,ih3⟩:=spec_l26Good.mono_l k;refine ⟨?_,?_,?_,?_⟩;all_goals intros
  all_goals (first | unfold spec_l26Good.j0 | unfold spec_l26Good.l0 | unfold spec_l26Good.j2 | unfold spec_l26Good.l1)
  all_goals
   repeat' with_reducible first | apply ih0 | apply ih1 | apply ih2 | apply ih3 | apply spec_l26Accounts.mono | apply spec_l26Entry.mono | exact LeO.refl _ | exact LeO.none _ | refine LeO.ite ?_ ?_ | refine LeO.bind ?_ (fun _ => ?_)
theorem spec_l26Good.mono : ∀ a0 a1 k,LeO (spec_l26Good.f k a0 a1) (spec_l26Good.f (k + 1) a0 a1):=by
 intro a0 a1 k;obtain ⟨ih0,ih1,ih2,ih3⟩:=spec_l26Good.mono_l k;unfold spec_l26Good.f;repeat' with_reducible first | apply ih0 | apply ih1 | apply ih2 | apply ih3 | apply spec_l26Accounts.mono | apply spec_l26Entry.mono | exact LeO.refl _ | exact LeO.none _ | refine LeO.ite ?_ ?_ | refine LeO.bind ?_ (fun _ => ?_)
def spec_l26Good.T8 : Bool × List (List Nat × List Nat):=(true,[([],[]),([],[]),([1],[1]),([2],[2]),([0,3],[0,3]),([4],[4]),([5,4],[5]),([6],[6]),([7,6],[6,7]),([8,6,6],[6,8]),([9],[9]),([10,9],[9,10]),([9],[9]),([12,9],[9,12]),([11,13,9],[9,11,13]),([14,9],[9,14]),([15,9],[9,15]),([9],[9]),([17,9],[9,17]),([16,18,9],[9,16,18]),([9,19,6],[6,9,19]),([6,20],[6,20])])
def spec_l26Good.B8 : List Nat:=[0,0,2,6,15,31,63,127,255,511,1023,2047,1023,5119,16383,32767,65535,1023,132095,524287,1048575,2097151]
theorem spec_l26Good.tab8 : rtab .any (opsOf Tryd.f52 8) = spec_l26Good.T8:=by kernel_rfl
theorem spec_l26Good.bits8 : waitsOk spec_l26Good.T8.2 spec_l26Good.B8 = true:=by kernel_rfl
def spec_l26Good.T14 : Bool × List (List Nat × List Nat):=(true,[([],[]),([],[]),([],[]),([],[]),([2,3],[2,3]),([4],[4]),([],[]),([6],[6]),([],[]),([7,8],[7,8]),([9],[9]),([10],[10]),([5,11],[5,11]),([0,1,0,1,2,3,4,5,6,7,8,9,10,11,12],[0,1]),([13,12,0,1,2,3,4,5,6,7,8,9,10,11,12],[12,13])])
def spec_l26Good.B14 : List Nat:=[0,0,0,0,12,28,0,64,0,448,960,1984,4092,8191,16383]
theorem spec_l26Good.tab14 : rtab .any (opsOf Tryd.f52 14) = spec_l26Good.T14:=by kernel_rfl
theorem spec_l26Good.bits14 : waitsOk spec_l26Good.T14.2 spec_l26Good.B14 = true:=by kernel_rfl
set_option maxHeartbeats 8000000 in
set_option maxRecDepth 100000 in
theorem spec_l26Good.calls (k : Nat) (A0_0 : Option Addr) (c0_0 : Nat) (l0_0 : List (S48)) (A0_1 : Option Addr) (c0_1 : Nat) (l0_1 : List (S63)) (r : Bool) (w : World) (hr0_0 : Kd.C k48 w A0_0 l0_0.length l0_0) (hc0_0 : l0_0.length ≤ c0_0) (hr0_1 : Kd.C k63 w A0_1 l0_1.length l0_1) (hc0_1 : l0_1.length ≤ c0_1) (h : spec_l26Good.f k l0_0 l0_1 = some r) :
 Calls Tryd.prog 52 #[.agg #[.slice A0_0 l0_0.length c0_0,.slice A0_1 l0_1.length c0_1]] w fun e w' => e = .returned (.bool r) ∧ Below w.heap.size w w':=by
 have hu31:=Tryd.underlying31;have hu63:=Tryd.underlying63;have HR0_0:=ak hr0_0;have HC0_0:=ak hc0_0;clear hr0_0 hc0_0;have HR0_1:=ak hr0_1;have HC0_1:=ak hc0_1;clear hr0_1 hc0_1;have HB:=ak (Below.refl w.heap.size w);have H:=h;clear h;unfold spec_l26Good.f at H;have HC2:=ak H;clear H
 go_enter Tryd.func52,Tryd.ntmps52
 go_upto_region 1 with (first | ((with_reducible refine gate_dst (N:=1) rfl ?_);(try (refine gate_guard (by rfl) ?_;dsimp only));refine bx 1 (cs:=#[.slice A0_0 l0_0.length c0_0,.slice A0_1 l0_1.length c0_1]) (t:=31) ?_;intro gb203 hg w3 hbox hb;have BK203:=ak (hbox);have GW203:=gw hg;have GE203:=gw hg;replace HB:=hB hb;clear hb hbox hg))
 (try simp only [Act.put,List.setIfInBounds_toArray,List.set_cons_zero,List.set_cons_succ])
 go_cut [17] (fun v17 wc => ∃ (kq : Nat) (x17_1 : Bool),v17 = .bool x17_1 ∧ Aside0 (spec_l26Good.j0 kq x17_1 l0_0 l0_1 = some r) ∧ Aside0 (kq ≤ k) ∧ Aside0 (wc.heap[gb203]? = some (.cells #[(.slice A0_0 l0_0.length c0_0),(.slice A0_1 l0_1.length c0_1)] 31 (0,0))) ∧ Aside0 (Below w.heap.size w wc))
 case first =>
  have H:=HC2.out;clear HC2;obtain ⟨t204,A4,H⟩:=bdY H;by_cases c5 : t204 = true
  ·subst c5;replace H:=ifT H;replace H:=ak H;obtain ⟨hcz6_0,hcz6_1,hfz6_0,hfz6_1⟩:=z2 BK203;go_wp2_with (first | (refine gc 10 Tryd.func101 #[.slice A0_0 l0_0.length c0_0] ?_;(with_reducible refine (spec_l26Accounts.calls k _ _ l0_0 true _ ?side1 ?side2 A4.out).mono ?_);(case side1 => exact (rC (Kd.C_below HR0_0.out HB.out)));(case side2 => exact HC0_0.out);rintro e w' ⟨rfl,⟨nd,rfl⟩⟩;refine ⟨_,rfl,?_⟩))
   go_meet
   case rel => exact ⟨_,(decide ((l0_1.length : Int) > 40)),ZZ0ab324,H,kle,⟨(zB BK203)⟩,⟨ZZ295621⟩⟩
  replace c5:=Bool.eq_false_iff.mpr c5;subst c5;replace H:=ifF H;replace H:=ak H;obtain ⟨hcz7_0,hcz7_1,hfz7_0,hfz7_1⟩:=z2 BK203;go_wp2_with (first | (refine gc 10 Tryd.func101 #[.slice A0_0 l0_0.length c0_0] ?_;(with_reducible refine (spec_l26Accounts.calls k _ _ l0_0 false _ ?side1 ?side2 A4.out).mono ?_);(case side1 => exact (rC (Kd.C_below HR0_0.out HB.out)));(case side2 => exact HC0_0.out);rintro e w' ⟨rfl,⟨nd,rfl⟩⟩;refine ⟨_,rfl,?_⟩))
  go_meet
  case rel => exact ⟨_,(true),ZZ0ab324,H,kle,⟨(zB BK203)⟩,⟨ZZ295621⟩⟩
 case rest =>
  clear HC2;try clear c5
  try clear hcz6_0
  try clear hcz6_1
  try clear hcz7_0
  try clear hcz7_1
  try clear hfz6_0
  try clear hfz6_1
  try clear hfz7_0
  try clear hfz7_1
  obtain ⟨kq,x17_1,rfl,HA,HJ1,BK203,HB⟩:=hcut
  cases kq with
  | zero => exact absurd HA.out (by simp [spec_l26Good.j0])
  | succ kj1 =>
   have H:=HA.out;clear HA;simp only [spec_l26Good.j0] at H;by_cases c8 : x17_1 = true
   ·subst c8;replace H:=ifT H;obtain rfl:=Option.some.inj H;go_wp2;go_ret;exact ⟨ZZab01d2,ZZ295621⟩
   replace c8:=Bool.eq_false_iff.mpr c8;subst c8;replace H:=ifF H;obtain ⟨c9b0,c9b1,H⟩:=ifYe H;obtain ⟨c10b0,c10b1,H⟩:=ifYe H;try rw [Option.bind_some] at H
   generalize hy205 : (List.replicate ((l0_0.length : Int) : Int).toNat 0 : List Int) = y205 at H;have Ny205:=ak hy205.symm;clear hy205;replace H:=ak H;obtain ⟨hcz11_0,hcz11_1,hfz11_0,hfz11_1⟩:=z2 BK203;go_wp2_with (first | ((with_reducible refine gate_dst (N:=21) rfl ?_);(try (refine gate_guard (by rfl) ?_;dsimp only));refine Kd.R_make (Kd.int .i64) _ 3 rfl (N:=21) rfl 44 _ _ rfl (l0_0.length : Int) rfl rfl Tryd.underlying44 (.int .i64 0) 8 info3 rfl (by decide) (by omega) 0 (ok:=fun _ => True) (okp:=fun _ => True) rfl (fun _ hk => hk) trivial (of_decide_eq_true ZZ853400) (Nat.le_trans (Nat.mul_le_mul_right _ (of_decide_eq_true ZZ853400 : (l0_0.length : Int).toNat ≤ 35184372088832)) (by omega)) (Below.refl _ _) (Nat.le_refl _) ?_;intro v206 w12 ho13 hb hg_ hnew_;clear hg_ hnew_;(first | rw [← Ny205.out] at ho13 | (simp only [Int.reduceToNat] at ho13;rw [← Ny205.out] at ho13));have HO207:=ak (Kd.R_lower ho13 (below_size ZZ295621));replace BK203:=kb BK203 hb;replace HB:=hB hb;clear hb ho13))
   go_loopg [4] kj1 (fun kq v4 w' => ∃ (x3_2 : List Int) (x4_2 : Int),v4 = .int .i64 x4_2 ∧ Aside0 (spec_l26Good.l0 kq x3_2 x4_2 l0_0 l0_1 = some r) ∧ Aside0 (kq ≤ kj1) ∧ Aside0 (Kd.R (Kd.int .i64) 3 w' w.heap.size (fun _ => True) v206 x3_2) ∧ Aside0 (w'.heap[gb203]? = some (.cells #[(.slice A0_0 l0_0.length c0_0),(.slice A0_1 l0_1.length c0_1)] 31 (0,0))) ∧ Aside0 (Below w.heap.size w w'))
   case atStart => exact ⟨(y205),(0),ZZ0ab324,H,⟨Nat.le_refl _⟩,⟨(zR HO207)⟩,⟨(zB BK203)⟩,⟨ZZ295621⟩⟩
   case round =>
    clear H;try clear c8
    try clear c9b0
    try clear c9b1
    try clear c10b0
    try clear c10b1
    try clear hcz11_0
    try clear hcz11_1
    try clear hfz11_0
    try clear hfz11_1
    obtain ⟨x3_2,x4_2,rfl,HA,HK2,HO_3,BK203,HB⟩:=hrel
    cases gk with
    | zero => exact absurd HA.out (by simp [spec_l26Good.l0])
    | succ k2 =>
     have H:=HA.out;clear HA;simp only [spec_l26Good.l0] at H;by_cases c14 : x4_2 < (l0_1.length : Int)
     ·rw [if_pos c14] at H;have c14b0:=decide_eq_true c14;clear c14;obtain ⟨c15b0,H⟩:=ifYd H;have HC16:=ak H;clear H;obtain ⟨hcz17_0,hcz17_1,hfz17_0,hfz17_1⟩:=z2 BK203;have p208 : 0 ≤ (x4_2 : Int):=of_decide_eq_true ZZ853400;have q208 : x4_2 < (l0_1.length : Int):=of_decide_eq_true ZZ853400;obtain ⟨ad208,A208_2,c208_2,e208,hx208_0,hx208_1,hx208_2,hl208_2,hi208_2⟩:=at_T63 HR0_1.out x4_2 p208 q208
      cases e208
      replace hx208_0:=bc HB hx208_0;replace hx208_1:=bc HB hx208_1;replace hx208_2:=bc HB hx208_2;have HR208_2:=ak hi208_2;have HC208_2:=ak hl208_2;clear hi208_2 hl208_2;replace p208:=eq_true p208;replace q208:=eq_true q208;go_upto_region 8 with (first | ((with_reducible refine gate_dst (N:=5) rfl ?_);(try (refine gate_guard (by rfl) ?_;dsimp only));refine bx 5 (cs:=#[.int .i64 0,.string (⟨#[]⟩ : ByteArray),.slice none 0 0]) (t:=63) ?_;intro gb209 hg w18 hbox hb;replace HO_3:=Kd.rb HO_3 hb;have BK209:=ak (hbox);have GW209:=gw hg;have GE209:=gw hg;replace HB:=hB hb;have NB203_209:=nl hg BK203;have NB209_203:=ng hg BK203;replace BK203:=kb BK203 hb;clear hb hbox hg;have hnb19:=NB209_203.out;have hnc19:=NB203_209.out;obtain ⟨hcz20_0,hcz20_1,hcz20_2,hfz20_0,hfz20_1,hfz20_2⟩:=z3 BK209))
      (try simp only [Act.put,List.setIfInBounds_toArray,List.set_cons_zero,List.set_cons_succ])
      go_cut [55] (fun v55 wc => ∃ (kq : Nat) (x55_15 : Bool),v55 = .bool x55_15 ∧ Aside0 (spec_l26Good.j2 kq x3_2 x4_2 x55_15 l0_0 l0_1 ((rd_T63 l0_1 x4_2).f0) ((rd_T63 l0_1 x4_2).f1) ((rd_T63 l0_1 x4_2).f2) = some r) ∧ Aside0 (kq ≤ k2) ∧ Aside0 (Kd.R (Kd.int .i64) 3 wc w.heap.size (fun _ => True) v206 x3_2) ∧ Aside0 (wc.heap[gb203]? = some (.cells #[(.slice A0_0 l0_0.length c0_0),(.slice (some ad208) l0_1.length c0_1)] 31 (0,0))) ∧ Aside0 (wc.heap[gb209]? = some (.cells #[.int .i64 ((rd_T63 l0_1 x4_2).f0),.string ((rd_T63 l0_1 x4_2).f1),(.slice A208_2 ((rd_T63 l0_1 x4_2).f2).length c208_2)] 63 (0,0))) ∧ Aside0 (Below w.heap.size w wc))
      case first =>
       have H:=HC16.out;clear HC16;obtain ⟨t210,A21,H⟩:=bdY H;by_cases c22 : t210 = true
       ·subst c22;replace H:=ifT H;by_cases c23 : x4_2 > 0
        ·rw [if_pos c23] at H;have c23b0 : decide (0 < x4_2) = true:=decide_eq_true c23;clear c23;(first | rw [c23b0] | (simp only [i64_w,i32_w];rw [c23b0]) | skip);obtain ⟨ji24,hji24⟩ : ∃ j_ : Int,(wrap64 (x4_2 - 1)) = j_:=⟨_,rfl⟩;(first | rw [hji24] at H | simp only [hji24] at H);(try rw [hji24] at A21);have hji24w : (IntKind.i64.wrap (x4_2 - 1)) = ji24:=(i64_w _).trans hji24;obtain ⟨c25b0,H⟩:=ifYd H;obtain ⟨c26b0,H⟩:=ifYd H;replace H:=ak H;try go_wp2
         generalize hw_ : (((w18.setCell ⟨gb209,0,none⟩ (.int .i64 ((rd_T63 l0_1 x4_2).f0))).setCell ⟨gb209,1,none⟩ (.string ((rd_T63 l0_1 x4_2).f1))).setCell ⟨gb209,2,none⟩ (.slice A208_2 ((rd_T63 l0_1 x4_2).f2).length c208_2)) = w27;replace HO_3 : Aside0 (Kd.R (Kd.int .i64) 3 w27 w.heap.size (fun _ => True) v206 x3_2):=⟨ZZ6f6112⟩;replace BK203 : Aside0 (w27.heap[gb203]? = some (.cells #[.slice A0_0 l0_0.length c0_0,.slice (some ad208) l0_1.length c0_1] 31 (0,0))):=⟨ZZc1367a⟩;replace BK209 : Aside0 (w27.heap[gb209]? = some (.cells #[.int .i64 ((rd_T63 l0_1 x4_2).f0),.string ((rd_T63 l0_1 x4_2).f1),.slice A208_2 ((rd_T63 l0_1 x4_2).f2).length c208_2] 63 (0,0))):=⟨ZZcac3c8⟩;replace HB : Aside0 (Below w.heap.size w w27):=⟨ZZ0d0602⟩;clear hw_;replace HO_3:=ak (Kd.R_drew HO_3.out);replace BK203:=ak (blk_drew BK203.out);replace BK209:=ak (blk_drew BK209.out);replace HB:=ak (below_drew1 HB.out);have p211 : 0 ≤ ((ji24) : Int):=of_decide_eq_true ZZ853400;have q211 : (ji24) < (l0_1.length : Int):=of_decide_eq_true ZZ853400;obtain ⟨ad211,A211_2,c211_2,e211,hx211_0,hx211_1,hx211_2,hl211_2,hi211_2⟩:=at_T63 HR0_1.out (ji24) p211 q211;have hw211_2:=hx211_2;have hw211_1:=hx211_1;have hw211_0:=hx211_0;obtain rfl : ad208 = ad211:=(by injection e211);replace hx211_0:=bc HB hx211_0;replace hx211_1:=bc HB hx211_1;replace hx211_2:=bc HB hx211_2;have HR211_2:=ak hi211_2;have HC211_2:=ak hl211_2;clear hi211_2 hl211_2;replace p211:=eq_true p211;replace q211:=eq_true q211;refine st 22 (S:=fun w' => w'.cell? ⟨gb209,0,none⟩ = some (.int .i64 ((rd_T63 l0_1 x4_2).f0)) ∧ w'.cell? ⟨gb209,1,none⟩ = some (.string ((rd_T63 l0_1 x4_2).f1)) ∧ w'.cell? ⟨gb209,2,none⟩ = some (.slice A208_2 ((rd_T63 l0_1 x4_2).f2).length c208_2) ∧ w'.cell? ⟨gb203,0,none⟩ = some (.slice A0_0 l0_0.length c0_0) ∧ w'.cell? ⟨gb203,1,none⟩ = some (.slice (some ad208) l0_1.length c0_1) ∧ w'.cell? (ad208.add (((ji24)).toNat * 3)) = some (.int .i64 ((rd_T63 l0_1 (ji24)).f0)) ∧ w'.cell? ⟨(ad208.add (((ji24)).toNat * 3)).block,(ad208.add (((ji24)).toNat * 3)).off + 1,none⟩ = some (.string ((rd_T63 l0_1 (ji24)).f1)) ∧ w'.cell? ⟨(ad208.add (((ji24)).toNat * 3)).block,(ad208.add (((ji24)).toNat * 3)).off + 2,none⟩ = some (.slice A211_2 ((rd_T63 l0_1 (ji24)).f2).length c211_2)) spec_l26Good.tab8 spec_l26Good.bits8 zK (fun hHeld HT_ HW_ => ?_);generalize w27.drew = w28 at HO_3 BK203 BK209 HB HR211_2 hx211_0 hx211_1 hx211_2 hHeld ⊢;refine pu 1 35 ?_;refine tk 0 34 ?_;refine tk 2 36 ?_;refine pu 3 37 ?_;refine on1 4 38 Tryd.func102 #[.agg #[.int .i64 ((rd_T63 l0_1 x4_2).f0),.string ((rd_T63 l0_1 x4_2).f1),.slice A208_2 ((rd_T63 l0_1 x4_2).f2).length c208_2],.int .i64 (l0_0.length : Int)] (spec_l26Entry.calls k2 ((rd_T63 l0_1 x4_2).f0) ((rd_T63 l0_1 x4_2).f1) _ _ ((rd_T63 l0_1 x4_2).f2) (l0_0.length : Int) true _ ?side1 ?side2 A21.out) ?_;(case side1 => exact (rC (Kd.C_below HR208_2.out HB.out)));(case side2 => exact HC208_2.out);rintro w29 hb;replace HO_3:=Kd.rb HO_3 hb;replace BK203:=kb BK203 hb;replace BK209:=kb BK209 hb;replace HB:=hB hb;(try clear hb);(try clear hb2);(try clear hk);(try clear hi);refine ⟨zK,fun hHeld => ?_⟩;refine pu 5 39 ?_;refine pu 6 40 ?_;refine pu 7 41 ?_;refine pu 8 42 ?_;refine pu 9 43 ?_;refine pu 10 44 ?_;refine pu 12 46 ?_;refine pu 13 47 ?_;refine pu 17 51 ?_;refine tk 11 45 ?_;refine pu 14 48 ?_;refine pu 15 49 ?_;refine tk 16 50 ?_;refine tk 18 52 ?_;refine pu 19 53 ?_;refine pu 20 54 ?_;refine pu 21 55 ?_;refine done_ (done_of HT_.out (by kernel_rfl)) ?_;try go_wp2
         go_meet
         case rel => exact ⟨_,(decide (((rd_T63 l0_1 (ji24)).f0) > ((rd_T63 l0_1 x4_2).f0))),(by first | rfl | (simp;done) | (simp only [← hji24] <;> (first | rfl | simp)) | (simp [*];done)),H,kle,⟨(zR HO_3)⟩,⟨(zB BK203)⟩,⟨(zB BK209)⟩,⟨ZZ295621⟩⟩
        rw [if_neg c23] at H;have c23b0 : decide (0 < x4_2) = false:=decide_eq_false c23;clear c23;(first | rw [c23b0] | (simp only [i64_w,i32_w];rw [c23b0]) | skip);replace H:=ak H;try go_wp2
        generalize hw_ : (((w18.setCell ⟨gb209,0,none⟩ (.int .i64 ((rd_T63 l0_1 x4_2).f0))).setCell ⟨gb209,1,none⟩ (.string ((rd_T63 l0_1 x4_2).f1))).setCell ⟨gb209,2,none⟩ (.slice A208_2 ((rd_T63 l0_1 x4_2).f2).length c208_2)) = w30;replace HO_3 : Aside0 (Kd.R (Kd.int .i64) 3 w30 w.heap.size (fun _ => True) v206 x3_2):=⟨ZZ6f6112⟩;replace BK203 : Aside0 (w30.heap[gb203]? = some (.cells #[.slice A0_0 l0_0.length c0_0,.slice (some ad208) l0_1.length c0_1] 31 (0,0))):=⟨ZZc1367a⟩;replace BK209 : Aside0 (w30.heap[gb209]? = some (.cells #[.int .i64 ((rd_T63 l0_1 x4_2).f0),.string ((rd_T63 l0_1 x4_2).f1),.slice A208_2 ((rd_T63 l0_1 x4_2).f2).length c208_2] 63 (0,0))):=⟨ZZcac3c8⟩;replace HB : Aside0 (Below w.heap.size w w30):=⟨ZZ0d0602⟩;clear hw_;replace HO_3:=ak (Kd.R_drew HO_3.out);replace BK203:=ak (blk_drew BK203.out);replace BK209:=ak (blk_drew BK209.out);replace HB:=ak (below_drew1 HB.out);refine st 22 (S:=fun w' => w'.cell? ⟨gb209,0,none⟩ = some (.int .i64 ((rd_T63 l0_1 x4_2).f0)) ∧ w'.cell? ⟨gb209,1,none⟩ = some (.string ((rd_T63 l0_1 x4_2).f1)) ∧ w'.cell? ⟨gb209,2,none⟩ = some (.slice A208_2 ((rd_T63 l0_1 x4_2).f2).length c208_2) ∧ w'.cell? ⟨gb203,0,none⟩ = some (.slice A0_0 l0_0.length c0_0) ∧ w'.cell? ⟨gb203,1,none⟩ = some (.slice (some ad208) l0_1.length c0_1)) spec_l26Good.tab8 spec_l26Good.bits8 zK (fun hHeld HT_ HW_ => ?_);generalize w30.drew = w31 at HO_3 BK203 BK209 HB hHeld ⊢;refine pu 1 35 ?_;refine tk 0 34 ?_;refine tk 2 36 ?_;refine pu 3 37 ?_;refine on1 4 38 Tryd.func102 #[.agg #[.int .i64 ((rd_T63 l0_1 x4_2).f0),.string ((rd_T63 l0_1 x4_2).f1),.slice A208_2 ((rd_T63 l0_1 x4_2).f2).length c208_2],.int .i64 (l0_0.length : Int)] (spec_l26Entry.calls k2 ((rd_T63 l0_1 x4_2).f0) ((rd_T63 l0_1 x4_2).f1) _ _ ((rd_T63 l0_1 x4_2).f2) (l0_0.length : Int) true _ ?side1 ?side2 A21.out) ?_;(case side1 => exact (rC (Kd.C_below HR208_2.out HB.out)));(case side2 => exact HC208_2.out);rintro w32 hb;replace HO_3:=Kd.rb HO_3 hb;replace BK203:=kb BK203 hb;replace BK209:=kb BK209 hb;replace HB:=hB hb;(try clear hb);(try clear hb2);(try clear hk);(try clear hi);refine ⟨zK,fun hHeld => ?_⟩;refine pu 5 39 ?_;refine pu 6 40 ?_;refine pu 7 41 ?_;refine pu 8 42 ?_;refine pu 9 43 ?_;refine pn 10 44 ?_;refine pn 11 45 ?_;refine pn 12 46 ?_;refine pn 13 47 ?_;refine pn 14 48 ?_;refine pn 15 49 ?_;refine pn 16 50 ?_;refine pn 17 51 ?_;refine pn 18 52 ?_;refine pn 19 53 ?_;refine pu 20 54 ?_;refine pu 21 55 ?_;refine done_ (done_of HT_.out (by kernel_rfl)) ?_;try go_wp2
        go_meet
        case rel => exact ⟨_,(false),ZZ0ab324,H,kle,⟨(zR HO_3)⟩,⟨(zB BK203)⟩,⟨(zB BK209)⟩,⟨ZZ295621⟩⟩
       replace c22:=Bool.eq_false_iff.mpr c22;subst c22;replace H:=ifF H;replace H:=ak H;try go_wp2
       generalize hw_ : (((w18.setCell ⟨gb209,0,none⟩ (.int .i64 ((rd_T63 l0_1 x4_2).f0))).setCell ⟨gb209,1,none⟩ (.string ((rd_T63 l0_1 x4_2).f1))).setCell ⟨gb209,2,none⟩ (.slice A208_2 ((rd_T63 l0_1 x4_2).f2).length c208_2)) = w33;replace HO_3 : Aside0 (Kd.R (Kd.int .i64) 3 w33 w.heap.size (fun _ => True) v206 x3_2):=⟨ZZ6f6112⟩;replace BK203 : Aside0 (w33.heap[gb203]? = some (.cells #[.slice A0_0 l0_0.length c0_0,.slice (some ad208) l0_1.length c0_1] 31 (0,0))):=⟨ZZc1367a⟩;replace BK209 : Aside0 (w33.heap[gb209]? = some (.cells #[.int .i64 ((rd_T63 l0_1 x4_2).f0),.string ((rd_T63 l0_1 x4_2).f1),.slice A208_2 ((rd_T63 l0_1 x4_2).f2).length c208_2] 63 (0,0))):=⟨ZZcac3c8⟩;replace HB : Aside0 (Below w.heap.size w w33):=⟨ZZ0d0602⟩;clear hw_;replace HO_3:=ak (Kd.R_drew HO_3.out);replace BK203:=ak (blk_drew BK203.out);replace BK209:=ak (blk_drew BK209.out);replace HB:=ak (below_drew1 HB.out);refine st 22 (S:=fun w' => w'.cell? ⟨gb209,0,none⟩ = some (.int .i64 ((rd_T63 l0_1 x4_2).f0)) ∧ w'.cell? ⟨gb209,1,none⟩ = some (.string ((rd_T63 l0_1 x4_2).f1)) ∧ w'.cell? ⟨gb209,2,none⟩ = some (.slice A208_2 ((rd_T63 l0_1 x4_2).f2).length c208_2) ∧ w'.cell? ⟨gb203,0,none⟩ = some (.slice A0_0 l0_0.length c0_0) ∧ w'.cell? ⟨gb203,1,none⟩ = some (.slice (some ad208) l0_1.length c0_1)) spec_l26Good.tab8 spec_l26Good.bits8 zK (fun hHeld HT_ HW_ => ?_);generalize w33.drew = w34 at HO_3 BK203 BK209 HB hHeld ⊢;refine pu 1 35 ?_;refine tk 0 34 ?_;refine tk 2 36 ?_;refine pu 3 37 ?_;refine on1 4 38 Tryd.func102 #[.agg #[.int .i64 ((rd_T63 l0_1 x4_2).f0),.string ((rd_T63 l0_1 x4_2).f1),.slice A208_2 ((rd_T63 l0_1 x4_2).f2).length c208_2],.int .i64 (l0_0.length : Int)] (spec_l26Entry.calls k2 ((rd_T63 l0_1 x4_2).f0) ((rd_T63 l0_1 x4_2).f1) _ _ ((rd_T63 l0_1 x4_2).f2) (l0_0.length : Int) false _ ?side1 ?side2 A21.out) ?_;(case side1 => exact (rC (Kd.C_below HR208_2.out HB.out)));(case side2 => exact HC208_2.out);rintro w35 hb;replace HO_3:=Kd.rb HO_3 hb;replace BK203:=kb BK203 hb;replace BK209:=kb BK209 hb;replace HB:=hB hb;(try clear hb);(try clear hb2);(try clear hk);(try clear hi);refine ⟨zK,fun hHeld => ?_⟩;refine pu 5 39 ?_;refine pu 6 40 ?_;refine pn 7 41 ?_;refine pn 8 42 ?_;refine pn 9 43 ?_;refine pn 10 44 ?_;refine pn 11 45 ?_;refine pn 12 46 ?_;refine pn 13 47 ?_;refine pn 14 48 ?_;refine pn 15 49 ?_;refine pn 16 50 ?_;refine pn 17 51 ?_;refine pn 18 52 ?_;refine pn 19 53 ?_;refine pn 20 54 ?_;refine pu 21 55 ?_;refine done_ (done_of HT_.out (by kernel_rfl)) ?_;try go_wp2
       go_meet
       case rel => exact ⟨_,(true),ZZ0ab324,H,kle,⟨(zR HO_3)⟩,⟨(zB BK203)⟩,⟨(zB BK209)⟩,⟨ZZ295621⟩⟩
      case rest =>
       clear HC16;try clear c22
       try clear c23
       try clear c23b0
       try clear hx211_0
       try clear hx211_1
       try clear hx211_2
       try clear p211
       try clear q211
       obtain ⟨kq,x55_15,rfl,HA,HJ15,HO_3,BK203,BK209,HB⟩:=hcut
       cases kq with
       | zero => exact absurd HA.out (by simp [spec_l26Good.j2])
       | succ kj15 =>
        have H:=HA.out;clear HA;simp only [spec_l26Good.j2] at H;by_cases c36 : x55_15 = true
        ·subst c36;replace H:=ifT H;obtain rfl:=Option.some.inj H;go_wp2;go_ret;exact ⟨ZZab01d2,ZZ295621⟩
        replace c36:=Bool.eq_false_iff.mpr c36;subst c36;replace H:=ifF H;replace H:=ak H;go_wp2
        go_loopg [6] kj15 (fun kq v6 w' => ∃ (x3_4 : List Int) (x6_4 : Int),v6 = .int .i64 x6_4 ∧ Aside0 (spec_l26Good.l1 kq x3_4 x4_2 x6_4 l0_0 l0_1 ((rd_T63 l0_1 x4_2).f0) ((rd_T63 l0_1 x4_2).f1) ((rd_T63 l0_1 x4_2).f2) = some r) ∧ Aside0 (kq ≤ kj15) ∧ Aside0 (Kd.R (Kd.int .i64) 3 w' w.heap.size (fun _ => True) v206 x3_4) ∧ Aside0 (w'.heap[gb203]? = some (.cells #[(.slice A0_0 l0_0.length c0_0),(.slice (some ad208) l0_1.length c0_1)] 31 (0,0))) ∧ Aside0 (w'.heap[gb209]? = some (.cells #[.int .i64 ((rd_T63 l0_1 x4_2).f0),.string ((rd_T63 l0_1 x4_2).f1),(.slice A208_2 ((rd_T63 l0_1 x4_2).f2).length c208_2)] 63 (0,0))) ∧ Aside0 (Below w.heap.size w w'))
        case atStart => exact ⟨(x3_2),(0),ZZ0ab324,H,⟨Nat.le_refl _⟩,⟨(zR HO_3)⟩,⟨(zB BK203)⟩,⟨(zB BK209)⟩,⟨ZZ295621⟩⟩
        case round =>
         clear H;try clear c36
         obtain ⟨x3_4,x6_4,rfl,HA,HK4,HO_3,BK203,BK209,HB⟩:=hrel
         cases gk with
         | zero => exact absurd HA.out (by simp [spec_l26Good.l1])
         | succ k4 =>
          have H:=HA.out;clear HA;simp only [spec_l26Good.l1] at H;by_cases c37 : x6_4 < (((rd_T63 l0_1 x4_2).f2).length : Int)
          ·rw [if_pos c37] at H;have c37b0:=decide_eq_true c37;clear c37;obtain ⟨c38b0,H⟩:=ifYd H;obtain ⟨c39b0,H⟩:=ifYd H;obtain ⟨c40b0,H⟩:=ifYd H;try rw [Option.bind_some] at H
           generalize hy215 : (x3_4.set (((rd_T70 ((rd_T63 l0_1 x4_2).f2) x6_4).f0) : Int).toNat (wrap64 ((rd x3_4 ((rd_T70 ((rd_T63 l0_1 x4_2).f2) x6_4).f0)) + ((rd_T70 ((rd_T63 l0_1 x4_2).f2) x6_4).f1))) : List Int) = y215 at H;have Ny215:=ak hy215.symm;clear hy215;obtain ⟨t217,A43,H⟩:=bdY H;have hnb45:=NB209_203.out;have hnc45:=NB203_209.out;obtain ⟨hcz46_0,hcz46_1,hcz46_2,hfz46_0,hfz46_1,hfz46_2⟩:=z3 BK209;have p212 : 0 ≤ (x6_4 : Int):=of_decide_eq_true ZZ853400;have q212 : x6_4 < (((rd_T63 l0_1 x4_2).f2).length : Int):=of_decide_eq_true ZZ853400;obtain ⟨ad212,e212,hx212_0,hx212_1⟩:=at_T70 HR208_2.out x6_4 p212 q212
           cases e212
           replace hx212_0:=bc HB hx212_0;replace hx212_1:=bc HB hx212_1;replace p212:=eq_true p212;replace q212:=eq_true q212;try go_wp2
           replace HO_3:=ak (Kd.R_drew HO_3.out);replace BK203:=ak (blk_drew BK203.out);replace BK209:=ak (blk_drew BK209.out);replace HB:=ak (below_drew1 HB.out);obtain ⟨Ao48,co48,eo48⟩:=Kd.R_slice HO_3.out;(first | subst eo48 | (injection eo48 with f1_ f2_ f3_;have f4_:=f1_.symm;have f5_:=f3_.symm;clear f1_ f2_ f3_;subst f4_;subst f5_));have p213 : 0 ≤ (((rd_T70 ((rd_T63 l0_1 x4_2).f2) x6_4).f0) : Int):=of_decide_eq_true ZZ853400;have q213 : ((rd_T70 ((rd_T63 l0_1 x4_2).f2) x6_4).f0) < (x3_4.length : Int):=of_decide_eq_true ZZ853400;obtain ⟨ad213,e213,hx213_0⟩:=Kd.at_int (Kd.R_reads' HO_3.out).2.2 ((rd_T70 ((rd_T63 l0_1 x4_2).f2) x6_4).f0) p213 q213
           cases e213
           replace p213:=eq_true p213;replace q213:=eq_true q213;have p214 : 0 ≤ (x6_4 : Int):=of_decide_eq_true ZZ853400;have q214 : x6_4 < (((rd_T63 l0_1 x4_2).f2).length : Int):=of_decide_eq_true ZZ853400;obtain ⟨ad214,e214,hx214_0,hx214_1⟩:=at_T70 HR208_2.out x6_4 p214 q214;have hw214_1:=hx214_1;have hw214_0:=hx214_0;obtain rfl : ad212 = ad214:=(by injection e214);replace hx214_0:=bc HB hx214_0;replace hx214_1:=bc HB hx214_1;replace p214:=eq_true p214;replace q214:=eq_true q214;have p41 : 0 ≤ (((rd_T70 ((rd_T63 l0_1 x4_2).f2) x6_4).f0) : Int):=of_decide_eq_true ZZ853400;have q41 : (((rd_T70 ((rd_T63 l0_1 x4_2).f2) x6_4).f0) : Int) < ((x3_4.length : Int) : Int):=of_decide_eq_true ZZ853400;obtain ⟨go41,co41,eo41,gb41,gl41,cl41,HG41⟩:=Kd.R_form HO_3.out (by omega);(first | cases eo41 | (injection eo41 with ea_ en_ ec_;(first | subst ea_ | (injection ea_ with ea_;subst ea_));subst ec_;clear en_));have GB41:=ak gb41;have GG41:=ak HG41;clear gb41 gl41 HG41;(first | simp only [add_plain] at hx213_0 | skip);obtain ⟨hx41_0,hf41_0⟩:=Kd.R_celln 0 HO_3.out (((rd_T70 ((rd_T63 l0_1 x4_2).f2) x6_4).f0) : Int) p41 q41;replace p41:=eq_true p41;replace q41:=eq_true q41;have HP49:=Kd.R_putn HO_3.out (((rd_T70 ((rd_T63 l0_1 x4_2).f2) x6_4).f0) : Int) (wrap64 ((rd x3_4 ((rd_T70 ((rd_T63 l0_1 x4_2).f2) x6_4).f0)) + ((rd_T70 ((rd_T63 l0_1 x4_2).f2) x6_4).f1)));rw [← Ny215.out] at HP49;have HQ49:=ak HP49;clear HP49;refine start_ (n:=15) (S:=fun w' => w'.cell? ⟨gb209,0,none⟩ = some (.int .i64 ((rd_T63 l0_1 x4_2).f0)) ∧ w'.cell? ⟨gb209,1,none⟩ = some (.string ((rd_T63 l0_1 x4_2).f1)) ∧ w'.cell? ⟨gb209,2,none⟩ = some (.slice (some ad212) ((rd_T63 l0_1 x4_2).f2).length c208_2) ∧ w'.cell? ⟨go41,(((rd_T70 ((rd_T63 l0_1 x4_2).f2) x6_4).f0)).toNat,none⟩ = some (.int .i64 (rd x3_4 ((rd_T70 ((rd_T63 l0_1 x4_2).f2) x6_4).f0))) ∧ w'.cell? (ad212.add ((x6_4).toNat * 2)) = some (.int .i64 ((rd_T70 ((rd_T63 l0_1 x4_2).f2) x6_4).f0)) ∧ w'.cell? ⟨(ad212.add ((x6_4).toNat * 2)).block,(ad212.add ((x6_4).toNat * 2)).off + 1,none⟩ = some (.int .i64 ((rd_T70 ((rd_T63 l0_1 x4_2).f2) x6_4).f1))) (ds:=[14]) #[false,false,false,false,false,false,false,false,false,false,false,false,false,false,false] (by kernel_rfl) rfl rfl ⟨(blk_cell BK209.out 0).trans rfl,(blk_cell BK209.out 1).trans rfl,(blk_cell BK209.out 2).trans rfl,hx213_0,((HB.out.cell (World.block_lt_of_cell? w _ hw214_0)).trans hw214_0),((HB.out.cell (World.block_lt_of_cell? w _ hw214_1)).trans hw214_1)⟩ (fun hHeld => ?_);refine with_tabW spec_l26Good.tab14 spec_l26Good.bits14 (fun HT_ HW_ => ?_)
           generalize wr.drew = w47 at HO_3 BK203 BK209 HB GG41 HQ49 hf41_0 hx213_0 hx214_0 hx214_1 hx41_0 hHeld ⊢;refine pu 0 69 ?_;refine pu 1 70 ?_;refine pu 2 71 ?_;refine pu 3 72 ?_;refine pu 4 73 ?_;refine pu 6 75 ?_;refine pu 8 77 ?_;refine tk 5 74 ?_;refine tk 7 76 ?_;refine pu 9 78 ?_;refine pu 10 79 ?_;refine tk 11 80 ?_;refine pu 12 81 ?_;refine pu 13 82 ?_;refine last_ (i:=14) (N:=none) #[true,true,true,true,true,true,true,true,true,true,true,true,true,true,true] rfl rfl (one_of HT_.out (by kernel_rfl)) (by decide) (fun K hK => ?_);refine skip_ (w1:=?_) (by rfl) rfl ?_ ?_;rotate_left
           ·go_simp;rfl
           refine hK.out _ _ ?_;clear hK K;refine done_ (done_of HT_.out (by kernel_rfl)) ?_;have p42 : 0 ≤ (((rd_T70 ((rd_T63 l0_1 x4_2).f2) x6_4).f0) : Int):=of_decide_eq_true ZZ853400;have q42 : (((rd_T70 ((rd_T63 l0_1 x4_2).f2) x6_4).f0) : Int) < ((x3_4.length : Int) : Int):=of_decide_eq_true ZZ853400;replace p42:=eq_true p42;replace q42:=eq_true q42;by_cases c44 : t217 = true
           ·subst c44;replace H:=ifT H;replace H:=ak H;try go_wp2_with (first | (refine gc 87 Tryd.func71 #[.int .i64 (wrap64 ((rd x3_4 ((rd_T70 ((rd_T63 l0_1 x4_2).f2) x6_4).f0)) + ((rd_T70 ((rd_T63 l0_1 x4_2).f2) x6_4).f1)))] ?_;(with_reducible refine (spec_l2Amount.calls (wrap64 ((rd x3_4 ((rd_T70 ((rd_T63 l0_1 x4_2).f2) x6_4).f0)) + ((rd_T70 ((rd_T63 l0_1 x4_2).f2) x6_4).f1))) true _ A43.out).mono ?_);rintro e w' ⟨rfl,⟨nd,rfl⟩⟩;refine ⟨_,rfl,?_⟩))
            go_roundg k4
            case measure => have:=HJ1.out;have:=HK2.out;have:=HJ15.out;have:=HK4.out;omega
            case rel => exact ⟨(y215),(wrap64 (x6_4 + 1)),ZZ0ab324,‹_›,kle,⟨(by refine bR ?_;exact HQ49.out)⟩,⟨(by refine bd ?_;refine blk_far ?_ (by have h_:=Kd.R_ne HO_3.out BK203.out (by decide);intro e_;exact h_ (by rw [e_];rfl)) _;refine bd ?_;exact BK203.out)⟩,⟨(by refine bd ?_;refine blk_far ?_ (by have h_:=Kd.R_ne HO_3.out BK209.out (by decide);intro e_;exact h_ (by rw [e_];rfl)) _;refine bd ?_;exact BK209.out)⟩,⟨(by repeat (first | (with_reducible first | exact HB.out | apply below_alloc | apply pw_below_drewN | apply below_drew1 | refine below_set ?_ GB41.out | refine below_set ?_ GE203.out | refine below_set ?_ GE209.out) | exact HB.out))⟩⟩
           replace c44:=Bool.eq_false_iff.mpr c44;subst c44;replace H:=ifF H;obtain rfl:=Option.some.inj H;try go_wp2_with (first | (refine gc 87 Tryd.func71 #[.int .i64 (wrap64 ((rd x3_4 ((rd_T70 ((rd_T63 l0_1 x4_2).f2) x6_4).f0)) + ((rd_T70 ((rd_T63 l0_1 x4_2).f2) x6_4).f1)))] ?_;(with_reducible refine (spec_l2Amount.calls (wrap64 ((rd x3_4 ((rd_T70 ((rd_T63 l0_1 x4_2).f2) x6_4).f0)) + ((rd_T70 ((rd_T63 l0_1 x4_2).f2) x6_4).f1))) false _ A43.out).mono ?_);rintro e w' ⟨rfl,⟨nd,rfl⟩⟩;refine ⟨_,rfl,?_⟩))
           go_ret;exact ⟨ZZab01d2,(by repeat (first | (with_reducible first | exact HB.out | apply below_alloc | apply pw_below_drewN | apply below_drew1 | refine below_set ?_ GB41.out | refine below_set ?_ GE203.out | refine below_set ?_ GE209.out) | exact HB.out))⟩
          rw [if_neg c37] at H;have c37b0:=decide_eq_false c37;clear c37;replace H:=ak H;have hnb55:=NB209_203.out;have hnc55:=NB203_209.out;obtain ⟨hcz56_0,hcz56_1,hcz56_2,hfz56_0,hfz56_1,hfz56_2⟩:=z3 BK209;go_wp2
          go_roundg k4
          case measure => have:=HJ1.out;have:=HK2.out;have:=HJ15.out;have:=HK4.out;omega
          case rel => exact ⟨(x3_4),(wrap64 (x4_2 + 1)),ZZ0ab324,‹_›,kle,⟨(zR HO_3)⟩,⟨(zB BK203)⟩,⟨ZZ295621⟩⟩
     rw [if_neg c14] at H;have c14b0:=decide_eq_false c14;clear c14;obtain rfl:=Option.some.inj H;obtain ⟨hcz57_0,hcz57_1,hfz57_0,hfz57_1⟩:=z2 BK203;go_wp2;go_ret;exact ⟨ZZab01d2,ZZ295621⟩
end Go.Proofs.YtccdjchaaeligaaDoor.XFnLedger

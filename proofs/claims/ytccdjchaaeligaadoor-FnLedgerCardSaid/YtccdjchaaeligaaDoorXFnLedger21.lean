import Derived.Test.YtccdjchaaeligaaDoorXFnLedger2
import Derived.Test.YtccdjchaaeligaaDoorXFnLedger0
import Derived.Test.YtccdjchaaeligaaDoorXFnLedger6
import Derived.Test.YtccdjchaaeligaaDoorXFnLedger7
import Derived.Test.YtccdjchaaeligaaDoorXFnLedger12
namespace Go.Proofs.YtccdjchaaeligaaDoor.XFnLedger
open Go.Proofs.YtccdjchaaeligaaDoor.Short Go.RowKit Go.Proofs.YtccdjchaaeligaaDoorW.PrintWords Go.Proofs.YtccdjchaaeligaaDoorW.PrintLast Go.Proofs.YtccdjchaaeligaaDoorW.PrintMore
attribute [local go_sem] max2_int min2_int max_two min_two max_three min_three max_four min_four
set_option linter.unusedVariables false
set_option linter.unusedSimpArgs false
def spec_l1Num.f : Nat → Int → Option (ByteArray)
 | 0,_ => none
 | k + 1,a0 => if a0 < 0 then ((spec_l1Num.f k (wrap64 (-a0))).bind fun t596 => (if 1 + t596.size ≤ 9223372036854775807 then (some ((⟨#[45]⟩ : ByteArray) ++ t596)) else (none))) else (if a0 < 10 then (if 0 ≤ a0 then (if a0 ≤ (wrap64 (a0 + 1)) then (if (wrap64 (a0 + 1)) ≤ 10 then (some ((⟨#[48,49,50,51,52,53,54,55,56,57]⟩ : ByteArray).extract (a0 : Int).toNat ((wrap64 (a0 + 1)) : Int).toNat)) else (none)) else (none)) else (none)) else ((spec_l1Num.f k (wrap64 (Int.tdiv a0 10))).bind fun t597 => (if 0 ≤ (Int.tmod a0 10) then (if (Int.tmod a0 10) ≤ (wrap64 ((Int.tmod a0 10) + 1)) then (if (wrap64 ((Int.tmod a0 10) + 1)) ≤ 10 then (if t597.size + (((wrap64 ((Int.tmod a0 10) + 1)) : Int).toNat - ((Int.tmod a0 10) : Int).toNat) ≤ 9223372036854775807 then (some (t597 ++ ((⟨#[48,49,50,51,52,53,54,55,56,57]⟩ : ByteArray).extract ((Int.tmod a0 10) : Int).toNat ((wrap64 ((Int.tmod a0 10) + 1)) : Int).toNat))) else (none)) else (none)) else (none)) else (none))))
theorem spec_l1Num.mono_l : ∀ k,(∀ y0,LeO (spec_l1Num.f k y0) (spec_l1Num.f (k + 1) y0))
 | 0 => fun _ r h => by simp [spec_l1Num.f] at h
 | k + 1 => by
  have ih0:=spec_l1Num.mono_l k
  ·intro y0;unfold spec_l1Num.f;repeat' with_reducible first | apply ih0 | exact LeO.refl _ | exact LeO.none _ | refine LeO.ite ?_ ?_ | refine LeO.bind ?_ (fun _ => ?_)
theorem spec_l1Num.mono : ∀ a0 k,LeO (spec_l1Num.f k a0) (spec_l1Num.f (k + 1) a0):=by
 intro a0 k;have ih0:=spec_l1Num.mono_l k;exact ih0 a0
def spec_l1Num.T5 : Bool × List (List Nat × List Nat):=(true,[([],[]),([0],[0]),([1],[1]),([],[]),([3],[3]),([],[]),([5],[5]),([6],[6]),([4,7],[4,7]),([2,8],[2,8]),([9,2,0,1,2,3,4,5,6,7,8,9],[9])])
def spec_l1Num.B5 : List Nat:=[0,1,3,0,8,0,32,96,248,511,1023]
theorem spec_l1Num.tab5 : rtab .any (opsOf Tryd.f93 5) = spec_l1Num.T5:=by kernel_rfl
theorem spec_l1Num.bits5 : waitsOk spec_l1Num.T5.2 spec_l1Num.B5 = true:=by kernel_rfl
set_option maxHeartbeats 8000000 in
set_option maxRecDepth 100000 in
theorem spec_l1Num.calls (k : Nat) : ∀ (a0 : Int) (r : ByteArray) (w : World) (h : spec_l1Num.f k a0 = some r),
 Calls Tryd.prog 93 #[.int .i64 a0] w fun e w' => e = .returned (.string r) ∧ Below w.heap.size w w':=by
 induction k using Nat.strongRecOn with
 | _ k ih =>
 intro a0 r w h
 cases k with
 | zero => exact absurd h (by simp [spec_l1Num.f])
 | succ k =>
 simp only [spec_l1Num.f] at h;have HB:=ak (Below.refl w.heap.size w);have H : (if a0 < 0 then ((spec_l1Num.f k (wrap64 (-a0))).bind fun t596 => (if 1 + t596.size ≤ 9223372036854775807 then (some ((⟨#[45]⟩ : ByteArray) ++ t596)) else (none))) else (if a0 < 10 then (if 0 ≤ a0 then (if a0 ≤ (wrap64 (a0 + 1)) then (if (wrap64 (a0 + 1)) ≤ 10 then (some ((⟨#[48,49,50,51,52,53,54,55,56,57]⟩ : ByteArray).extract (a0 : Int).toNat ((wrap64 (a0 + 1)) : Int).toNat)) else (none)) else (none)) else (none)) else ((spec_l1Num.f k (wrap64 (Int.tdiv a0 10))).bind fun t597 => (if 0 ≤ (Int.tmod a0 10) then (if (Int.tmod a0 10) ≤ (wrap64 ((Int.tmod a0 10) + 1)) then (if (wrap64 ((Int.tmod a0 10) + 1)) ≤ 10 then (if t597.size + (((wrap64 ((Int.tmod a0 10) + 1)) : Int).toNat - ((Int.tmod a0 10) : Int).toNat) ≤ 9223372036854775807 then (some (t597 ++ ((⟨#[48,49,50,51,52,53,54,55,56,57]⟩ : ByteArray).extract ((Int.tmod a0 10) : Int).toNat ((wrap64 ((Int.tmod a0 10) + 1)) : Int).toNat))) else (none)) else (none)) else (none)) else (none))))) = some r:=h;clear h;by_cases c2 : a0 < 0
 ·rw [if_pos c2] at H;have c2b0:=decide_eq_true c2;clear c2;obtain ⟨t596,A3,H⟩:=bdY H;obtain ⟨c4,H⟩:=ifY H;have c4b0:=eq_true c4;have c4b1:=decide_eq_true c4;try have c4b2 : (9223372036854775807 < 1 + t596.size) = False:=eq_false (Nat.not_lt.2 c4)
  obtain rfl:=Option.some.inj H
  go_enter Tryd.func93,Tryd.ntmps93
  go_wp2_with (first | (refine gc 7 Tryd.func93 #[.int .i64 (wrap64 (-a0))] ?_;(with_reducible refine (ih k (by omega) (wrap64 (-a0)) t596 _ A3.out).mono ?_);rintro e w5 ⟨rfl,hb⟩;refine ⟨_,rfl,?_⟩;replace HB:=hB hb;(try clear hb);(try clear hb2);(try clear hk);(try clear hi)))
  go_ret;exact ⟨ZZab01d2,ZZ605003⟩
 rw [if_neg c2] at H;have c2b0:=decide_eq_false c2;clear c2;by_cases c6 : a0 < 10
 ·rw [if_pos c6] at H;have c6b0:=decide_eq_true c6;clear c6;obtain ⟨c7b0,c7b1,H⟩:=ifYe H;obtain ⟨c8,H⟩:=ifY H;have c8b0:=eq_true c8;have c8b1:=decide_eq_true c8;obtain ⟨c9,H⟩:=ifY H;have c9b0:=eq_true c9;have c9b1:=decide_eq_true c9;obtain rfl:=Option.some.inj H
  go_enter Tryd.func93,Tryd.ntmps93
  go_wp2;go_ret;exact ⟨ZZab01d2,ZZ605003⟩
 rw [if_neg c6] at H;have c6b0:=decide_eq_false c6;clear c6;obtain ⟨t597,A10,H⟩:=bdY H;obtain ⟨ji11,hji11⟩ : ∃ j_ : Int,(Int.tmod a0 10) = j_:=⟨_,rfl⟩;(first | rw [hji11] at H | simp only [hji11] at H);(try rw [hji11] at A10);obtain ⟨c12b0,c12b1,H⟩:=ifYe H;obtain ⟨c13,H⟩:=ifY H;have c13b0:=eq_true c13;have c13b1:=decide_eq_true c13;obtain ⟨c14,H⟩:=ifY H;have c14b0:=eq_true c14;have c14b1:=decide_eq_true c14;obtain ⟨c15,H⟩:=ifY H;have c15b0:=eq_true c15;have c15b1:=decide_eq_true c15;try have c15b2 : (9223372036854775807 < t597.size + (((wrap64 ((ji11) + 1)) : Int).toNat - ((ji11) : Int).toNat)) = False:=eq_false (Nat.not_lt.2 c15)
 obtain rfl:=Option.some.inj H
 go_enter Tryd.func93,Tryd.ntmps93
 try go_wp2
 replace HB:=ak (below_drew1 HB.out);refine st 11 (S:=fun w' => True) spec_l1Num.tab5 spec_l1Num.bits5 trivial (fun hHeld HT_ HW_ => ?_);generalize w.drew = w16 at HB hHeld ⊢;refine pu 0 15 ?_;refine pu 1 16 ?_;refine pu 3 18 ?_;refine pu 4 19 ?_;refine pu 5 20 ?_;refine pu 6 21 ?_;refine pu 7 22 ?_;refine pu 8 23 ?_;refine on1 2 17 Tryd.func93 #[.int .i64 (wrap64 (Int.tdiv a0 10))] (ih k (by omega) (wrap64 (Int.tdiv a0 10)) t597 _ A10.out) ?_;rintro w17 hb;replace HB:=hB hb;(try clear hb);(try clear hb2);(try clear hk);(try clear hi);refine ⟨trivial,fun hHeld => ?_⟩;refine pu 9 24 ?_;refine pu 10 2 ?_;refine done_ (done_of HT_.out (by kernel_rfl)) ?_;try go_wp2
 go_ret;exact ⟨(by first | rfl | (simp [errW_none,errW_some] <;> rfl) | (simp only [← hji11];first | rfl | (simp [errW_none,errW_some] <;> rfl)) | (simp [*,errW_none,errW_some] <;> rfl)),ZZ605003⟩/-! ### spec_ReverseEntry: function 44 -/
mutual
def spec_ReverseEntry.j0 : Nat → Int → Int → Bool → List (S48) → List (S63) → Option ((List (S48)) × (List (S63)) × Bool)
 | 0,_,_,_,_,_ => none
 | k + 1,x1,x2,x22,x599000,x599001 => if x22 = true then (some (([] : List (S48)),([] : List (S63)),false)) else ((spec_l1Num.f k x1).bind fun t602 => (if 12 + t602.size ≤ 9223372036854775807 then (spec_ReverseEntry.l0 k x1 0 x599000 x599001 x2 ((⟨#[114,101,118,101,114,115,97,108,32,111,102,32]⟩ : ByteArray) ++ t602) ([] : List (S70))) else (none)))
def spec_ReverseEntry.l0 : Nat → Int → Int → List (S48) → List (S63) → Int → ByteArray → List (S70) → Option ((List (S48)) × (List (S63)) × Bool)
 | 0,_,_,_,_,_,_,_ => none
 | k + 1,x1,x9,x599000,x599001,x604000,x604001,x604002 => if 0 ≤ x1 then (if x1 < (x599001.length : Int) then (if x9 < (((rd_T63 x599001 x1).f2).length : Int) then (if 0 ≤ x9 then (if x604002.length < 8796093022208 then (spec_ReverseEntry.l0 k x1 (wrap64 (x9 + 1)) x599000 x599001 x604000 x604001 (x604002 ++ [(⟨(rd_T70 ((rd_T63 x599001 x1).f2) x9).f0,wrap64 (-((rd_T70 ((rd_T63 x599001 x1).f2) x9).f1))⟩ : S70)])) else (none)) else (none)) else ((spec_l26Post.f k x599000 x599001 x604000 x604001 x604002).bind fun bt611 => (some (bt611.1,bt611.2.1,bt611.2.2)))) else (none)) else (none)
end
def spec_ReverseEntry.f (k : Nat) (l0_0 : List (S48)) (l0_1 : List (S63)) (a1 : Int) (a2 : Int) : Option ((List (S48)) × (List (S63)) × Bool):=(spec_l26Good.f k l0_0 l0_1).bind fun t600 => (if t600 = true then ((spec_l1In.f a1 0 (wrap64 ((l0_1.length : Int) - 1))).bind fun t601 => (spec_ReverseEntry.j0 k a1 a2 (!t601) l0_0 l0_1)) else (spec_ReverseEntry.j0 k a1 a2 true l0_0 l0_1))
theorem spec_ReverseEntry.mono_l : ∀ k,(∀ y0 y1 y2 y3 y4,LeO (spec_ReverseEntry.j0 k y0 y1 y2 y3 y4) (spec_ReverseEntry.j0 (k + 1) y0 y1 y2 y3 y4)) ∧ (∀ y0 y1 y2 y3 y4 y5 y6,LeO (spec_ReverseEntry.l0 k y0 y1 y2 y3 y4 y5 y6) (spec_ReverseEntry.l0 (k + 1) y0 y1 y2 y3 y4 y5 y6))
 | 0 => ⟨fun _ _ _ _ _ r h => by simp [spec_ReverseEntry.j0] at h,fun _ _ _ _ _ _ _ r h => by simp [spec_ReverseEntry.l0] at h⟩
 | k + 1 => by
  obtain ⟨ih0,ih1⟩:=spec_ReverseEntry.mono_l k;refine ⟨?_,?_⟩;all_goals intros
  all_goals (first | unfold spec_ReverseEntry.j0 | unfold spec_ReverseEntry.l0)
  all_goals
   repeat' with_reducible first | apply ih0 | apply ih1 | apply spec_l1Num.mono | apply spec_l26Good.mono | apply spec_l26Post.mono | exact LeO.refl _ | exact LeO.none _ | refine LeO.ite ?_ ?_ | refine LeO.bind ?_ (fun _ => ?_)
theorem spec_ReverseEntry.mono : ∀ a0 a1 a2 a3 k,LeO (spec_ReverseEntry.f k a0 a1 a2 a3) (spec_ReverseEntry.f (k + 1) a0 a1 a2 a3):=by
 intro a0 a1 a2 a3 k;obtain ⟨ih0,ih1⟩:=spec_ReverseEntry.mono_l k;unfold spec_ReverseEntry.f;repeat' with_reducible first | apply ih0 | apply ih1 | apply spec_l1Num.mono | apply spec_l26Good.mono | apply spec_l26Post.mono | exact LeO.refl _ | exact LeO.none _ | refine LeO.ite ?_ ?_ | refine LeO.bind ?_ (fun _ => ?_)
set_option maxHeartbeats 8000000 in
set_option maxRecDepth 100000 in
theorem spec_ReverseEntry.calls (k : Nat) (A0_0 : Option Addr) (c0_0 : Nat) (l0_0 : List (S48)) (A0_1 : Option Addr) (c0_1 : Nat) (l0_1 : List (S63)) (a1 : Int) (a2 : Int) (r1 : List (S48)) (r2 : List (S63)) (r3 : Bool) (w : World) (hr0_0 : Kd.C k48 w A0_0 l0_0.length l0_0) (hc0_0 : l0_0.length ≤ c0_0) (hr0_1 : Kd.C k63 w A0_1 l0_1.length l0_1) (hc0_1 : l0_1.length ≤ c0_1) (h : spec_ReverseEntry.f k l0_0 l0_1 a1 a2 = some (r1,r2,r3)) :
 Calls Tryd.prog 44 #[.agg #[.slice A0_0 l0_0.length c0_0,.slice A0_1 l0_1.length c0_1],.int .i64 a1,.int .i64 a2] w fun e w' => ∃ v0_ v1_ : Value,e = .returned (.tuple #[.agg #[v0_,v1_],.bool r3]) ∧ Kd.R k48 48 w' w.heap.size (fun _ => True) v0_ r1 ∧ Kd.S k63 63 w' w.heap.size (fun _ => True) v1_ r2 ∧ Below w.heap.size w w':=by
 have hu31:=Tryd.underlying31;have hu63:=Tryd.underlying63;have hu70:=Tryd.underlying70;have HR0_0:=ak hr0_0;have HC0_0:=ak hc0_0;clear hr0_0 hc0_0;have HR0_1:=ak hr0_1;have HC0_1:=ak hc0_1;clear hr0_1 hc0_1;have HB:=ak (Below.refl w.heap.size w);have H:=h;clear h;unfold spec_ReverseEntry.f at H;have HC4:=ak H;clear H
 go_enter Tryd.func44,Tryd.ntmps44
 go_upto_region 1 with (first | ((with_reducible refine gate_dst (N:=3) rfl ?_);(try (refine gate_guard (by rfl) ?_;dsimp only));refine bx 3 (cs:=#[.slice A0_0 l0_0.length c0_0,.slice A0_1 l0_1.length c0_1]) (t:=31) ?_;intro gb598 hg w5 hbox hb;have BK598:=ak (hbox);have GW598:=gw hg;have GE598:=gw hg;replace HB:=hB hb;clear hb hbox hg) | ((with_reducible refine gate_dst (N:=6) rfl ?_);(try (refine gate_guard (by rfl) ?_;dsimp only));refine bx 6 (cs:=#[.slice none 0 0,.slice none 0 0]) (t:=31) ?_;intro gb599 hg w6 hbox hb;have BK599:=ak (hbox);have GW599:=gw hg;have GE599:=gw hg;replace HB:=hB hb;have NB598_599:=nl hg BK598;have NB599_598:=ng hg BK598;replace BK598:=kb BK598 hb;clear hb hbox hg))
 (try simp only [Act.put,List.setIfInBounds_toArray,List.set_cons_zero,List.set_cons_succ])
 go_cut [22] (fun v22 wc => ∃ (kq : Nat) (x22_3 : Bool),v22 = .bool x22_3 ∧ Aside0 (spec_ReverseEntry.j0 kq a1 a2 x22_3 l0_0 l0_1 = some (r1,r2,r3)) ∧ Aside0 (kq ≤ k) ∧ Aside0 (wc.heap[gb598]? = some (.cells #[(.slice A0_0 l0_0.length c0_0),(.slice A0_1 l0_1.length c0_1)] 31 (0,0))) ∧ Aside0 (wc.heap[gb599]? = some (.cells #[(.slice none 0 0),(.slice none 0 0)] 31 (0,0))) ∧ Aside0 (Below w.heap.size w wc))
 case first =>
  have H:=HC4.out;clear HC4;obtain ⟨t600,A7,H⟩:=bdY H;by_cases c8 : t600 = true
  ·subst c8;replace H:=ifT H;obtain ⟨t601,A9,H⟩:=bdY H;replace H:=ak H;have hnb10:=NB598_599.out;have hnc10:=NB599_598.out;obtain ⟨hcz11_0,hcz11_1,hfz11_0,hfz11_1⟩:=z2 BK598;go_wp2_with (first | (refine gc 12 Tryd.func52 #[.agg #[.slice A0_0 l0_0.length c0_0,.slice A0_1 l0_1.length c0_1]] ?_;(with_reducible refine (spec_l26Good.calls k _ _ l0_0 _ _ l0_1 true _ ?side1 ?side2 ?side3 ?side4 A7.out).mono ?_);(case side1 => exact (rC (Kd.C_below HR0_0.out HB.out)));(case side2 => exact HC0_0.out);(case side3 => exact (rC (Kd.C_below HR0_1.out HB.out)));(case side4 => exact HC0_1.out);rintro e w12 ⟨rfl,hb⟩;refine ⟨_,rfl,?_⟩;replace BK598:=kb BK598 hb;replace BK599:=kb BK599 hb;replace HB:=hB hb;(try clear hb);(try clear hb2);(try clear hk);(try clear hi);obtain ⟨hcz13_0,hcz13_1,hfz13_0,hfz13_1⟩:=z2 BK598) | (go_at_call 65;(with_reducible refine (spec_l1In.calls a1 0 (wrap64 ((l0_1.length : Int) - 1)) t601 _ A9.out).mono ?_);rintro e w' ⟨rfl,⟨nd,rfl⟩⟩))
   go_meet
   case rel => exact ⟨_,(!t601),ZZ0ab324,H,kle,⟨(zB BK598)⟩,⟨(zB BK599)⟩,⟨ZZ295621⟩⟩
  replace c8:=Bool.eq_false_iff.mpr c8;subst c8;replace H:=ifF H;replace H:=ak H;have hnb14:=NB598_599.out;have hnc14:=NB599_598.out;obtain ⟨hcz15_0,hcz15_1,hfz15_0,hfz15_1⟩:=z2 BK598;go_wp2_with (first | (refine gc 12 Tryd.func52 #[.agg #[.slice A0_0 l0_0.length c0_0,.slice A0_1 l0_1.length c0_1]] ?_;(with_reducible refine (spec_l26Good.calls k _ _ l0_0 _ _ l0_1 false _ ?side1 ?side2 ?side3 ?side4 A7.out).mono ?_);(case side1 => exact (rC (Kd.C_below HR0_0.out HB.out)));(case side2 => exact HC0_0.out);(case side3 => exact (rC (Kd.C_below HR0_1.out HB.out)));(case side4 => exact HC0_1.out);rintro e w16 ⟨rfl,hb⟩;refine ⟨_,rfl,?_⟩;replace BK598:=kb BK598 hb;replace BK599:=kb BK599 hb;replace HB:=hB hb;(try clear hb);(try clear hb2);(try clear hk);(try clear hi)))
  go_meet
  case rel => exact ⟨_,(true),ZZ0ab324,H,kle,⟨(zB BK598)⟩,⟨(zB BK599)⟩,⟨ZZ295621⟩⟩
 case rest =>
  clear HC4;try clear c8
  try clear hcz11_0
  try clear hcz11_1
  try clear hcz13_0
  try clear hcz13_1
  try clear hcz15_0
  try clear hcz15_1
  try clear hfz11_0
  try clear hfz11_1
  try clear hfz13_0
  try clear hfz13_1
  try clear hfz15_0
  try clear hfz15_1
  obtain ⟨kq,x22_3,rfl,HA,HJ3,BK598,BK599,HB⟩:=hcut
  cases kq with
  | zero => exact absurd HA.out (by simp [spec_ReverseEntry.j0])
  | succ kj3 =>
   have H:=HA.out;clear HA;simp only [spec_ReverseEntry.j0] at H;by_cases c17 : x22_3 = true
   ·subst c17;replace H:=ifT H;simp only [Option.some.injEq,Prod.mk.injEq] at H;obtain ⟨rfl,rfl,rfl⟩:=H;have hnb18:=NB599_598.out;have hnc18:=NB598_599.out;obtain ⟨hcz19_0,hcz19_1,hfz19_0,hfz19_1⟩:=z2 BK599;go_wp2;refine bodyPost_ret (results_ct rfl _ _ gb599 31 #[.slice none 0 0,.slice none 0 0] (0,0) _ rfl (by refine bd ?_;refine blk_put (cs:=#[.slice none 0 0,.slice none 0 0]) ?_ 1 _ rfl;refine bd ?_;refine blk_put (cs:=#[.slice none 0 0,.slice none 0 0]) ?_ 0 _ rfl;refine bd ?_;exact BK599.out) Tryd.underlying31 rfl (by kernel_rfl)) rfl ?_;exact ⟨_,_,ZZab01d2,ZZf4214b,ZZc4c4be,ZZ295621⟩
   replace c17:=Bool.eq_false_iff.mpr c17;subst c17;replace H:=ifF H;obtain ⟨t602,A20,H⟩:=bdY H;obtain ⟨c21,H⟩:=ifY H;have c21b0:=eq_true c21;have c21b1:=decide_eq_true c21;try have c21b2 : (9223372036854775807 < 12 + t602.size) = False:=eq_false (Nat.not_lt.2 c21)
   replace H:=ak H;go_wp2_with (first | (refine gc 26 Tryd.func93 #[.int .i64 a1] ?_;(with_reducible refine (spec_l1Num.calls kj3 a1 t602 _ A20.out).mono ?_);rintro e w22 ⟨rfl,hb⟩;refine ⟨_,rfl,?_⟩;replace BK598:=kb BK598 hb;replace BK599:=kb BK599 hb;replace HB:=hB hb;(try clear hb);(try clear hb2);(try clear hk);(try clear hi)) | ((with_reducible refine gate_dst (N:=8) rfl ?_);(try (refine gate_guard (by rfl) ?_;dsimp only));refine bx 8 (cs:=#[.int .i64 0,.string (⟨#[]⟩ : ByteArray),.slice none 0 0]) (t:=63) ?_;intro gb603 hg w23 hbox hb;have BK603:=ak (hbox);have GW603:=gw hg;have GE603:=gw hg;replace HB:=hB hb;have NB598_603:=nl hg BK598;have NB603_598:=ng hg BK598;replace BK598:=kb BK598 hb;have NB599_603:=nl hg BK599;have NB603_599:=ng hg BK599;replace BK599:=kb BK599 hb;clear hb hbox hg;have hnb24:=NB603_598.out;have hnc24:=NB598_603.out;have hnb25:=NB603_599.out;have hnc25:=NB599_603.out;obtain ⟨hcz26_0,hcz26_1,hcz26_2,hfz26_0,hfz26_1,hfz26_2⟩:=z3 BK603))
   go_loopg [9] kj3 (fun kq v9 w' => ∃ (x9_2 : Int) (x604002_2 : List (S70)) (u604002 : Value),v9 = .int .i64 x9_2 ∧ Aside0 (spec_ReverseEntry.l0 kq a1 x9_2 l0_0 l0_1 a2 ((⟨#[114,101,118,101,114,115,97,108,32,111,102,32]⟩ : ByteArray) ++ t602) x604002_2 = some (r1,r2,r3)) ∧ Aside0 (kq ≤ kj3) ∧ Aside0 (Kd.R k70 70 w' w.heap.size (fun _ => True) u604002 x604002_2) ∧ Aside0 (w'.heap[gb598]? = some (.cells #[(.slice A0_0 l0_0.length c0_0),(.slice A0_1 l0_1.length c0_1)] 31 (0,0))) ∧ Aside0 (w'.heap[gb599]? = some (.cells #[(.slice none 0 0),(.slice none 0 0)] 31 (0,0))) ∧ Aside0 (w'.heap[gb603]? = some (.cells #[.int .i64 a2,.string ((⟨#[114,101,118,101,114,115,97,108,32,111,102,32]⟩ : ByteArray) ++ t602),u604002] 63 (0,0))) ∧ Aside0 (Below w.heap.size w w'))
   case atStart => exact ⟨(0),(([] : List (S70))),(.slice none 0 0),ZZ0ab324,H,⟨Nat.le_refl _⟩,⟨ZZf4214b⟩,⟨(by refine bd ?_;refine blk_far ?_ NB598_603.out _;refine bd ?_;refine blk_far ?_ NB598_603.out _;refine bd ?_;refine blk_far ?_ NB598_603.out _;refine bd ?_;exact BK598.out)⟩,⟨(by refine bd ?_;refine blk_far ?_ NB599_603.out _;refine bd ?_;refine blk_far ?_ NB599_603.out _;refine bd ?_;refine blk_far ?_ NB599_603.out _;refine bd ?_;exact BK599.out)⟩,⟨(by refine bd ?_;refine blk_put (cs:=#[.int .i64 a2,.string ((⟨#[114,101,118,101,114,115,97,108,32,111,102,32]⟩ : ByteArray) ++ t602),.slice none 0 0]) ?_ 2 _ rfl;refine bd ?_;refine blk_put (cs:=#[.int .i64 a2,.string (⟨#[]⟩ : ByteArray),.slice none 0 0]) ?_ 1 _ rfl;refine bd ?_;refine blk_put (cs:=#[.int .i64 0,.string (⟨#[]⟩ : ByteArray),.slice none 0 0]) ?_ 0 _ rfl;refine bd ?_;exact BK603.out)⟩,⟨ZZ295621⟩⟩
   case round =>
    clear H;try clear c17
    try clear c21
    try clear c21b0
    try clear c21b1
    try clear c21b2
    try clear hcz19_0
    try clear hcz19_1
    try clear hcz26_0
    try clear hcz26_1
    try clear hcz26_2
    try clear hfz19_0
    try clear hfz19_1
    try clear hfz26_0
    try clear hfz26_1
    try clear hfz26_2
    obtain ⟨x9_2,x604002_2,u604002,rfl,HA,HK2,HO_604002,BK598,BK599,BK603,HB⟩:=hrel
    cases gk with
    | zero => exact absurd HA.out (by simp [spec_ReverseEntry.l0])
    | succ k2 =>
     have H:=HA.out;clear HA;simp only [spec_ReverseEntry.l0] at H;obtain ⟨c27b0,H⟩:=ifYd H;obtain ⟨c28b0,H⟩:=ifYd H;by_cases c29 : x9_2 < (((rd_T63 l0_1 a1).f2).length : Int)
     ·rw [if_pos c29] at H;have c29b0:=decide_eq_true c29;clear c29;obtain ⟨c30b0,H⟩:=ifYd H;obtain ⟨c31,H⟩:=ifY H;have LMc31:=ak c31;clear c31;try rw [Option.bind_some] at H
      generalize hy608 : (x604002_2 ++ [(⟨(rd_T70 ((rd_T63 l0_1 a1).f2) x9_2).f0,wrap64 (-((rd_T70 ((rd_T63 l0_1 a1).f2) x9_2).f1))⟩ : S70)] : List (S70)) = y608 at H;have Ny608:=ak hy608.symm;clear hy608;replace H:=ak H;have hnb32:=NB598_599.out;have hnc32:=NB599_598.out;have hnb33:=NB598_603.out;have hnc33:=NB603_598.out;obtain ⟨hcz34_0,hcz34_1,hfz34_0,hfz34_1⟩:=z2 BK598;have p604 : 0 ≤ (a1 : Int):=of_decide_eq_true ZZ853400;have q604 : a1 < (l0_1.length : Int):=of_decide_eq_true ZZ853400;obtain ⟨ad604,A604_2,c604_2,e604,hx604_0,hx604_1,hx604_2,hl604_2,hi604_2⟩:=at_T63 HR0_1.out a1 p604 q604
      cases e604
      replace hx604_0:=bc HB hx604_0;replace hx604_1:=bc HB hx604_1;replace hx604_2:=bc HB hx604_2;have HR604_2:=ak hi604_2;have HC604_2:=ak hl604_2;clear hi604_2 hl604_2;replace p604:=eq_true p604;replace q604:=eq_true q604;have p605 : 0 ≤ (a1 : Int):=of_decide_eq_true ZZ853400;have q605 : a1 < (l0_1.length : Int):=of_decide_eq_true ZZ853400;try clear hx604_0
      try clear hx604_1
      obtain ⟨ad605,A605_2,c605_2,e605,hx605_0,hx605_1,hx605_2,hl605_2,hi605_2⟩:=at_T63 HR0_1.out a1 p605 q605;obtain rfl : ad604 = ad605:=(by injection e605);replace hx605_0:=bc HB hx605_0;replace hx605_1:=bc HB hx605_1;replace hx605_2:=bc HB hx605_2;have HR605_2:=ak hi605_2;have HC605_2:=ak hl605_2;clear hi605_2 hl605_2;replace p605:=eq_true p605;replace q605:=eq_true q605;have ea_:=Option.some.inj (hx604_2.symm.trans hx605_2)
      injection ea_ with ea_ en_ ec_
      subst ea_;subst ec_;clear en_;have p606 : 0 ≤ (x9_2 : Int):=of_decide_eq_true ZZ853400;have q606 : x9_2 < (((rd_T63 l0_1 a1).f2).length : Int):=of_decide_eq_true ZZ853400;obtain ⟨ad606,e606,hx606_0,hx606_1⟩:=at_T70 HR605_2.out x9_2 p606 q606
      cases e606
      replace hx606_0:=bc HB hx606_0;replace hx606_1:=bc HB hx606_1;replace p606:=eq_true p606;replace q606:=eq_true q606;go_wp2_with (first | ((with_reducible refine gate_dst (N:=10) rfl ?_);(try (refine gate_guard (by rfl) ?_;dsimp only));refine bx 10 (cs:=#[.int .i64 0,.int .i64 0]) (t:=70) ?_;intro gb607 hg w35 hbox hb;replace HO_604002:=ak (Kd.R_below (Kd.R_elderB (zR HO_604002) gb607 (Nat.le_of_eq hg.symm)) hb);have BK607:=ak (hbox);have GW607:=gw hg;have GE607:=gw hg;replace HB:=hB hb;have NB598_607:=nl hg BK598;have NB607_598:=ng hg BK598;replace BK598:=kb BK598 hb;have NB599_607:=nl hg BK599;have NB607_599:=ng hg BK599;replace BK599:=kb BK599 hb;have NB603_607:=nl hg BK603;have NB607_603:=ng hg BK603;replace BK603:=kb BK603 hb;clear hb hbox hg;have hnb36:=NB607_598.out;have hnc36:=NB598_607.out;have hnb37:=NB607_599.out;have hnc37:=NB599_607.out;have hnb38:=NB607_603.out;have hnc38:=NB603_607.out;obtain ⟨hcz39_0,hcz39_1,hfz39_0,hfz39_1⟩:=z2 BK607;have hnb40:=NB603_599.out;have hnc40:=NB599_603.out;obtain ⟨hcz41_0,hcz41_1,hcz41_2,hfz41_0,hfz41_1,hfz41_2⟩:=z3 BK603) | ((with_reducible refine gate_builtin (b:=.append) (xs:=#[.tmp 50,.tmp 57]) rfl ?_);(try (refine gate_guard (by rfl) ?_;dsimp only));at_builtin;refine Kd.R_append k70 (w0:=w) w.heap.size rfl (.tmp 50) (.tmp 57) 61 70 (.agg #[(.int .i64 0),(.int .i64 0)]) 16 rfl Tryd.underlying61 info70 rfl (by decide) (by omega) u604002 x604002_2 (⟨(rd_T70 ((rd_T63 l0_1 a1).f2) x9_2).f0,wrap64 (-((rd_T70 ((rd_T63 l0_1 a1).f2) x9_2).f1))⟩ : S70) [.int .i64 ((rd_T70 ((rd_T63 l0_1 a1).f2) x9_2).f0),.int .i64 (wrap64 (-((rd_T70 ((rd_T63 l0_1 a1).f2) x9_2).f1)))] (fun k_ => k_ ≠ gb607) (fun _ => False) rfl (by first | (go_simp;done) | (go_simp;rfl)) ?aP (fun _ hk => hk.elim) ?aF ?aO ?aB ?aS ?aL ?_;(case aP => exact k70_mkM _ _ _ (⟨(rd_T70 ((rd_T63 l0_1 a1).f2) x9_2).f0,wrap64 (-((rd_T70 ((rd_T63 l0_1 a1).f2) x9_2).f1))⟩ : S70));(case aB => exact ZZ295621);(case aF => exact (fun k_ hk => Kd.freshB (g:=gb607) (o:=.cells #[.int .i64 ((rd_T70 ((rd_T63 l0_1 a1).f2) x9_2).f0),.int .i64 ((rd_T70 ((rd_T63 l0_1 a1).f2) x9_2).f1)] 70 (0,0)) (by refine bd ?_;refine blk_put (cs:=#[.int .i64 ((rd_T70 ((rd_T63 l0_1 a1).f2) x9_2).f0),.int .i64 0]) ?_ 1 _ rfl;refine bd ?_;refine blk_put (cs:=#[.int .i64 0,.int .i64 0]) ?_ 0 _ rfl;refine bd ?_;exact BK607.out) k_ hk));(case aO => exact (by refine bR ?_;exact Kd.R_mono (Kd.rf (Kd.rf (Kd.R_mono HO_604002.out (fun k_ hk => (⟨hk,hk.2⟩ : _ ∧ k_ ≠ gb607))))) (fun _ hk => hk.1.2)));(case aS => exact (below_size ZZ295621));(case aL => have:=LMc31.out;omega);intro v609 w42 ho hb hg hat;rw [← Ny608.out] at ho;replace BK598:=ak (blk_grown (g:=gb598) (o:=.cells #[.slice A0_0 l0_0.length c0_0,.slice (some ad604) l0_1.length c0_1] 31 (0,0)) (by refine bd ?_;refine blk_far ?_ NB598_607.out _;refine bd ?_;refine blk_far ?_ NB598_607.out _;refine bd ?_;exact BK598.out) hg (Kd.R_ne HO_604002.out BK598.out (by decide)));replace BK599:=ak (blk_grown (g:=gb599) (o:=.cells #[.slice none 0 0,.slice none 0 0] 31 (0,0)) (by refine bd ?_;refine blk_far ?_ NB599_607.out _;refine bd ?_;refine blk_far ?_ NB599_607.out _;refine bd ?_;exact BK599.out) hg (Kd.R_ne HO_604002.out BK599.out (by decide)));replace BK603:=ak (blk_grown (g:=gb603) (o:=.cells #[.int .i64 a2,.string ((⟨#[114,101,118,101,114,115,97,108,32,111,102,32]⟩ : ByteArray) ++ t602),u604002] 63 (0,0)) (by refine bd ?_;refine blk_far ?_ NB603_607.out _;refine bd ?_;refine blk_far ?_ NB603_607.out _;refine bd ?_;exact BK603.out) hg (Kd.R_ne HO_604002.out BK603.out (by decide)));replace BK607:=ak (blk_grown (g:=gb607) (o:=.cells #[.int .i64 ((rd_T70 ((rd_T63 l0_1 a1).f2) x9_2).f0),.int .i64 ((rd_T70 ((rd_T63 l0_1 a1).f2) x9_2).f1)] 70 (0,0)) (by refine bd ?_;refine blk_put (cs:=#[.int .i64 ((rd_T70 ((rd_T63 l0_1 a1).f2) x9_2).f0),.int .i64 0]) ?_ 1 _ rfl;refine bd ?_;refine blk_put (cs:=#[.int .i64 0,.int .i64 0]) ?_ 0 _ rfl;refine bd ?_;exact BK607.out) hg (Kd.R_away HO_604002.out (fun _ hk => hk.2)));replace HB:=ak (hb);have HO610:=ak (ho);clear HO_604002;clear ho hb hg hat;obtain ⟨Ao43,co43,eo43⟩:=Kd.R_slice HO610.out;subst eo43;obtain ⟨hcz44_0,hcz44_1,hcz44_2,hfz44_0,hfz44_1,hfz44_2⟩:=z3 BK603))
      go_roundg k2
      case measure => have:=HJ3.out;have:=HK2.out;omega
      case rel => exact ⟨(wrap64 (x9_2 + 1)),(y608),(.slice Ao43 y608.length co43),ZZ0ab324,‹_›,kle,⟨(by refine bR ?_;exact Kd.R_mono (Kd.rf (Kd.R_types HO610.out BK603.out (by decide))) (fun _ hk => trivial))⟩,⟨(by refine bd ?_;refine blk_far ?_ NB598_603.out _;refine bd ?_;exact BK598.out)⟩,⟨(by refine bd ?_;refine blk_far ?_ NB599_603.out _;refine bd ?_;exact BK599.out)⟩,⟨(by refine bd ?_;refine blk_put (cs:=#[.int .i64 a2,.string ((⟨#[114,101,118,101,114,115,97,108,32,111,102,32]⟩ : ByteArray) ++ t602),u604002]) ?_ 2 _ rfl;refine bd ?_;exact BK603.out)⟩,⟨ZZ295621⟩⟩
     rw [if_neg c29] at H;have c29b0:=decide_eq_false c29;clear c29;obtain ⟨⟨t611,t614,t617⟩,A45,H⟩:=bdY H;try dsimp only at H
     simp only [Option.some.injEq,Prod.mk.injEq] at H;obtain ⟨rfl,rfl,rfl⟩:=H;have hnb46:=NB598_599.out;have hnc46:=NB599_598.out;have hnb47:=NB598_603.out;have hnc47:=NB603_598.out;obtain ⟨hcz48_0,hcz48_1,hfz48_0,hfz48_1⟩:=z2 BK598;have p604 : 0 ≤ (a1 : Int):=of_decide_eq_true ZZ853400;have q604 : a1 < (l0_1.length : Int):=of_decide_eq_true ZZ853400;obtain ⟨ad604,A604_2,c604_2,e604,hx604_0,hx604_1,hx604_2,hl604_2,hi604_2⟩:=at_T63 HR0_1.out a1 p604 q604
     cases e604
     replace hx604_0:=bc HB hx604_0;replace hx604_1:=bc HB hx604_1;replace hx604_2:=bc HB hx604_2;have HR604_2:=ak hi604_2;have HC604_2:=ak hl604_2;clear hi604_2 hl604_2;replace p604:=eq_true p604;replace q604:=eq_true q604;have hnb49:=NB603_599.out;have hnc49:=NB599_603.out;obtain ⟨hcz50_0,hcz50_1,hcz50_2,hfz50_0,hfz50_1,hfz50_2⟩:=z3 BK603;obtain ⟨Ao51,co51,eo51⟩:=Kd.R_slice HO_604002.out;subst eo51;go_wp2_with (first | (refine gc 62 Tryd.func78 #[.agg #[.slice A0_0 l0_0.length c0_0,.slice (some ad604) l0_1.length c0_1],.agg #[.int .i64 a2,.string ((⟨#[114,101,118,101,114,115,97,108,32,111,102,32]⟩ : ByteArray) ++ t602),.slice Ao51 x604002_2.length co51]] ?_;(with_reducible refine (spec_l26Post.calls k2 _ _ l0_0 _ _ l0_1 a2 ((⟨#[114,101,118,101,114,115,97,108,32,111,102,32]⟩ : ByteArray) ++ t602) _ _ x604002_2 t611 t614 t617 _ ?side1 ?side2 ?side3 ?side4 ?side5 ?side6 A45.out).mono ?_);(case side1 => exact (rC (Kd.C_below HR0_0.out HB.out)));(case side2 => exact HC0_0.out);(case side3 => exact (rC (Kd.C_below HR0_1.out HB.out)));(case side4 => exact HC0_1.out);(case side5 => exact rC (Kd.R_reads' HO_604002.out).2.2);(case side6 => exact (Kd.R_reads' HO_604002.out).2.1);rintro e w52 ⟨v612,v615,rfl,ho0,ho1,hb⟩;refine ⟨_,rfl,?_⟩;have HO613:=ak (Kd.R_lower ho0 (below_size ZZ295621));have HO616:=ak (Kd.S_lower (Kd.S_newB (Kd.S_new' ho1 (Kd.R_lt (zR HO_604002))) (zB BK603)) (below_size ZZ295621));replace HO_604002:=Kd.rb HO_604002 hb;replace BK598:=kb BK598 hb;replace BK599:=kb BK599 hb;replace BK603:=kb BK603 hb;replace HB:=hB hb;(try clear hb);(try clear hb2);(try clear hk);(try clear hi);(try clear ho0);(try clear ho1);obtain ⟨Ao53,co53,eo53⟩:=Kd.R_slice HO613.out;subst eo53;obtain ⟨hcz54_0,hcz54_1,hfz54_0,hfz54_1⟩:=z2 BK599;obtain ⟨Ao55,co55,eo55⟩:=Kd.S_slice HO616.out;subst eo55))
     refine bodyPost_ret (results_ct rfl _ _ gb599 31 #[.slice Ao53 t611.length co53,.slice Ao55 t614.length co55] (0,0) _ rfl (by refine bd ?_;refine blk_put (cs:=#[.slice Ao53 t611.length co53,.slice none 0 0]) ?_ 1 _ rfl;refine bd ?_;refine blk_put (cs:=#[.slice none 0 0,.slice none 0 0]) ?_ 0 _ rfl;refine bd ?_;exact BK599.out) Tryd.underlying31 rfl (by kernel_rfl)) rfl ?_;exact ⟨_,_,ZZab01d2,(by refine bR ?_;exact Kd.R_mono (Kd.rf (Kd.rf (Kd.R_types HO613.out BK599.out (by decide)))) (fun _ hk => trivial)),(by refine bS ?_;exact Kd.S_mono (Kd.sf (Kd.sf (Kd.S_types HO616.out BK599.out (by decide)))) (fun _ hk => trivial)),ZZ295621⟩/-! ### laws_rSum: function 45 -/
def laws_rSum.l0 : Nat → List Int → Int → Int → Option (Int)
 | 0,_,_,_ => none
 | k + 1,x0,x3,x4 => if x4 < (x0.length : Int) then (if 0 ≤ x4 then (laws_rSum.l0 k x0 (wrap64 (x3 + (rd x0 x4))) (wrap64 (x4 + 1))) else (none)) else (some x3)
def laws_rSum.f (k : Nat) (l0 : List Int) : Option (Int):=laws_rSum.l0 k l0 0 0
theorem laws_rSum.mono_l : ∀ k,(∀ y0 y1 y2,LeO (laws_rSum.l0 k y0 y1 y2) (laws_rSum.l0 (k + 1) y0 y1 y2))
 | 0 => fun _ _ _ r h => by simp [laws_rSum.l0] at h
 | k + 1 => by
  have ih0:=laws_rSum.mono_l k
  ·intro y0 y1 y2;unfold laws_rSum.l0;repeat' with_reducible first | apply ih0 | exact LeO.refl _ | exact LeO.none _ | refine LeO.ite ?_ ?_ | refine LeO.bind ?_ (fun _ => ?_)
theorem laws_rSum.mono : ∀ a0 k,LeO (laws_rSum.f k a0) (laws_rSum.f (k + 1) a0):=by
 intro a0 k;have ih0:=laws_rSum.mono_l k;unfold laws_rSum.f;repeat' with_reducible first | apply ih0 | exact LeO.refl _ | exact LeO.none _ | refine LeO.ite ?_ ?_ | refine LeO.bind ?_ (fun _ => ?_)
set_option maxHeartbeats 8000000 in
set_option maxRecDepth 100000 in
theorem laws_rSum.calls (k : Nat) (A0 : Option Addr) (c0 : Nat) (l0 : List Int) (r : Int) (w : World) (hr0 : Kd.C (Kd.int .i64) w A0 l0.length l0) (hc0 : l0.length ≤ c0) (h : laws_rSum.f k l0 = some r) :
 Calls Tryd.prog 45 #[.slice A0 l0.length c0] w fun e w' => e = .returned (.int .i64 r) ∧ Drawn0 w w':=by
 have HR0:=ak hr0;have HC0:=ak hc0;clear hr0 hc0;have H:=h;clear h;unfold laws_rSum.f at H;replace H:=ak H
 go_enter Tryd.func45,Tryd.ntmps45
 go_wp2
 go_loopg [3,4] k (fun kq v3 v4 w' => ∃ (x3_1 : Int) (x4_1 : Int),v3 = .int .i64 x3_1 ∧ v4 = .int .i64 x4_1 ∧ Aside0 (laws_rSum.l0 kq l0 x3_1 x4_1 = some r) ∧ Aside0 (kq ≤ k) ∧ Drawn0 w w')
 case atStart => exact ⟨(0),(0),ZZ0ab324,ZZ0ab324,H,⟨Nat.le_refl _⟩,ZZ965307⟩
 case round =>
  clear H;obtain ⟨x3_1,x4_1,rfl,rfl,HA,HK1,⟨m1,rfl⟩⟩:=hrel
  cases gk with
  | zero => exact absurd HA.out (by simp [laws_rSum.l0])
  | succ k1 =>
   have H:=HA.out;clear HA;simp only [laws_rSum.l0] at H;by_cases c2 : x4_1 < (l0.length : Int)
   ·rw [if_pos c2] at H;have c2b0:=decide_eq_true c2;clear c2;obtain ⟨c3b0,H⟩:=ifYd H;replace H:=ak H;have p618 : 0 ≤ (x4_1 : Int):=of_decide_eq_true ZZ853400;have q618 : x4_1 < (l0.length : Int):=of_decide_eq_true ZZ853400;obtain ⟨ad618,e618,hx618_0⟩:=Kd.at_int HR0.out x4_1 p618 q618
    cases e618
    replace p618:=eq_true p618;replace q618:=eq_true q618;go_wp2
    go_roundg k1
    case measure => have:=HK1.out;omega
    case rel => exact ⟨(wrap64 (x3_1 + (rd l0 x4_1))),(wrap64 (x4_1 + 1)),ZZ0ab324,ZZ0ab324,H,kle,ZZ965307⟩
   rw [if_neg c2] at H;have c2b0:=decide_eq_false c2;clear c2;obtain rfl:=Option.some.inj H;go_wp2;go_ret;exact ⟨ZZ0ab324,ZZ965307⟩
end Go.Proofs.YtccdjchaaeligaaDoor.XFnLedger

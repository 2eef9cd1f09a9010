import Derived.Test.YtccdjchaaeligaaDoorXFnClosing2
import Derived.Test.YtccdjchaaeligaaDoorXFnClosing1
import Derived.Test.YtccdjchaaeligaaDoorXFnClosing0
import Derived.Test.YtccdjchaaeligaaDoorXFnClosing6
import Derived.Test.YtccdjchaaeligaaDoorXFnClosing7
import Derived.Test.YtccdjchaaeligaaDoorXFnClosing9
import Derived.Test.YtccdjchaaeligaaDoorXFnClosing10
import Derived.Test.YtccdjchaaeligaaDoorXFnClosing11
import Derived.Test.YtccdjchaaeligaaDoorXFnClosing21
namespace Go.Proofs.YtccdjchaaeligaaDoor.XFnClosing
open Go.Proofs.YtccdjchaaeligaaDoor.Short Go.RowKit Go.Proofs.YtccdjchaaeligaaDoorW.PrintWords Go.Proofs.YtccdjchaaeligaaDoorW.PrintLast Go.Proofs.YtccdjchaaeligaaDoorW.PrintMore
attribute [local go_sem] max2_int min2_int max_two min_two max_three min_three max_four min_four
set_option linter.unusedVariables false
set_option linter.unusedSimpArgs false
mutual
def spec_CloseAccounts.j0 : Nat → Int → Int → Bool → List (S48) → List (S63) → Option ((List (S48)) × (List (S63)) × Bool)
 | 0,_,_,_,_,_ => none
 | k + 1,x1,x2,x41,x596000,x596001 => if x41 = true then (some (([] : List (S48)),([] : List (S63)),false)) else (if (x596001.length : Int) > 0 then (if 0 ≤ (wrap64 ((x596001.length : Int) - 1)) then (if (wrap64 ((x596001.length : Int) - 1)) < (x596001.length : Int) then (spec_CloseAccounts.j1 k x1 x2 (decide (((rd_T63 x596001 (wrap64 ((x596001.length : Int) - 1))).f0) > x2)) x596000 x596001) else (none)) else (none)) else (spec_CloseAccounts.j1 k x1 x2 false x596000 x596001))
def spec_CloseAccounts.j1 : Nat → Int → Int → Bool → List (S48) → List (S63) → Option ((List (S48)) × (List (S63)) × Bool)
 | 0,_,_,_,_,_ => none
 | k + 1,x1,x2,x58,x596000,x596001 => if x58 = true then (some (([] : List (S48)),([] : List (S63)),false)) else ((spec_l26Balances.f k x596000 x596001 x2).bind fun t602 => (spec_CloseAccounts.l0 k x1 x2 t602 0 false 0 x596000 x596001))
def spec_CloseAccounts.l0 : Nat → Int → Int → List Int → Int → Bool → Int → List (S48) → List (S63) → Option ((List (S48)) × (List (S63)) × Bool)
 | 0,_,_,_,_,_,_,_,_ => none
 | k + 1,x1,x2,x9,x10,x11,x12,x596000,x596001 => if x12 < (x9.length : Int) then (if 0 ≤ x12 then (if x12 < (x596000.length : Int) then ((spec_l26Temporary.f ((rd_T48 x596000 x12).f0) ((rd_T48 x596000 x12).f1)).bind fun t606 => (if t606 = true then (if x11 = true then (spec_CloseAccounts.l0 k x1 x2 x9 (wrap64 (x10 + (rd x9 x12))) true (wrap64 (x12 + 1)) x596000 x596001) else (spec_CloseAccounts.l0 k x1 x2 x9 (wrap64 (x10 + (rd x9 x12))) ((rd x9 x12) != 0) (wrap64 (x12 + 1)) x596000 x596001)) else (spec_CloseAccounts.l0 k x1 x2 x9 x10 x11 (wrap64 (x12 + 1)) x596000 x596001))) else (none)) else (none)) else (if x11 = true then (spec_CloseAccounts.l1 k x1 x9 x10 0 x596000 x596001 x2 (⟨#[99,108,111,115,105,110,103]⟩ : ByteArray) ([] : List (S70))) else ((spec_l26Own.f k x596000 x596001).bind fun bt609 => (some (bt609.1,bt609.2,true))))
def spec_CloseAccounts.l1 : Nat → Int → List Int → Int → Int → List (S48) → List (S63) → Int → ByteArray → List (S70) → Option ((List (S48)) × (List (S63)) × Bool)
 | 0,_,_,_,_,_,_,_,_,_ => none
 | k + 1,x1,x9,x10,x14,x596000,x596001,x616000,x616001,x616002 => if x14 < (x9.length : Int) then (if 0 ≤ x14 then (if x14 < (x596000.length : Int) then ((spec_l26Temporary.f ((rd_T48 x596000 x14).f0) ((rd_T48 x596000 x14).f1)).bind fun t624 => (if t624 = true then (spec_CloseAccounts.j4 k x1 x9 x10 x14 (wrap64 (-(rd x9 x14))) x596000 x596001 x616000 x616001 x616002) else (spec_CloseAccounts.j4 k x1 x9 x10 x14 0 x596000 x596001 x616000 x616001 x616002))) else (none)) else (none)) else ((spec_l26Post.f k x596000 x596001 x616000 x616001 x616002).bind fun bt616 => (some (bt616.1,bt616.2.1,bt616.2.2)))
def spec_CloseAccounts.j4 : Nat → Int → List Int → Int → Int → Int → List (S48) → List (S63) → Int → ByteArray → List (S70) → Option ((List (S48)) × (List (S63)) × Bool)
 | 0,_,_,_,_,_,_,_,_,_,_ => none
 | k + 1,x1,x9,x10,x14,x15,x596000,x596001,x616000,x616001,x616002 => if x14 = x1 then (spec_CloseAccounts.j5 k x1 x9 x10 x14 x10 x596000 x596001 x616000 x616001 x616002) else (spec_CloseAccounts.j5 k x1 x9 x10 x14 x15 x596000 x596001 x616000 x616001 x616002)
def spec_CloseAccounts.j5 : Nat → Int → List Int → Int → Int → Int → List (S48) → List (S63) → Int → ByteArray → List (S70) → Option ((List (S48)) × (List (S63)) × Bool)
 | 0,_,_,_,_,_,_,_,_,_,_ => none
 | k + 1,x1,x9,x10,x14,x15,x596000,x596001,x616000,x616001,x616002 => if x15 = 0 then (spec_CloseAccounts.l1 k x1 x9 x10 (wrap64 (x14 + 1)) x596000 x596001 x616000 x616001 x616002) else (if x616002.length < 8796093022208 then (spec_CloseAccounts.l1 k x1 x9 x10 (wrap64 (x14 + 1)) x596000 x596001 x616000 x616001 (x616002 ++ [(⟨x14,x15⟩ : S70)])) else (none))
end
def spec_CloseAccounts.f (k : Nat) (l0_0 : List (S48)) (l0_1 : List (S63)) (a1 : Int) (a2 : Int) : Option ((List (S48)) × (List (S63)) × Bool):=(spec_l26Good.f k l0_0 l0_1).bind fun t597 => (if t597 = true then ((spec_l1In.f a1 0 (wrap64 ((l0_0.length : Int) - 1))).bind fun t598 => (if t598 = true then (if 0 ≤ a1 then (if a1 < (l0_0.length : Int) then (if ((rd_T48 l0_0 a1).f1) = 3 then ((spec_l3Good.f a2).bind fun t600 => (spec_CloseAccounts.j0 k a1 a2 (!t600) l0_0 l0_1)) else (spec_CloseAccounts.j0 k a1 a2 true l0_0 l0_1)) else (none)) else (none)) else (spec_CloseAccounts.j0 k a1 a2 true l0_0 l0_1))) else (spec_CloseAccounts.j0 k a1 a2 true l0_0 l0_1))
theorem spec_CloseAccounts.mono_l : ∀ k,(∀ y0 y1 y2 y3 y4,LeO (spec_CloseAccounts.j0 k y0 y1 y2 y3 y4) (spec_CloseAccounts.j0 (k + 1) y0 y1 y2 y3 y4)) ∧ (∀ y0 y1 y2 y3 y4,LeO (spec_CloseAccounts.j1 k y0 y1 y2 y3 y4) (spec_CloseAccounts.j1 (k + 1) y0 y1 y2 y3 y4)) ∧ (∀ y0 y1 y2 y3 y4 y5 y6 y7,LeO (spec_CloseAccounts.l0 k y0 y1 y2 y3 y4 y5 y6 y7) (spec_CloseAccounts.l0 (k + 1) y0 y1 y2 y3 y4 y5 y6 y7)) ∧ (∀ y0 y1 y2 y3 y4 y5 y6 y7 y8,LeO (spec_CloseAccounts.l1 k y0 y1 y2 y3 y4 y5 y6 y7 y8) (spec_CloseAccounts.l1 (k + 1) y0 y1 y2 y3 y4 y5 y6 y7 y8)) ∧ (∀ y0 y1 y2 y3 y4 y5 y6 y7 y8 y9,LeO (spec_CloseAccounts.j4 k y0 y1 y2 y3 y4 y5 y6 y7 y8 y9) (spec_CloseAccounts.j4 (k + 1) y0 y1 y2 y3 y4 y5 y6 y7 y8 y9)) ∧ (∀ y0 y1 y2 y3 y4 y5 y6 y7 y8 y9,LeO (spec_CloseAccounts.j5 k y0 y1 y2 y3 y4 y5 y6 y7 y8 y9) (spec_CloseAccounts.j5 (k + 1) y0 y1 y2 y3 y4 y5 y6 y7 y8 y9))
 | 0 => ⟨fun _ _ _ _ _ r h => by simp [spec_CloseAccounts.j0] at h,fun _ _ _ _ _ r h => by simp [spec_CloseAccounts.j1] at h,fun _ _ _ _ _ _ _ _ r h => by simp [spec_CloseAccounts.l0] at h,fun _ _ _ _ _ _ _ _ _ r h => by simp [spec_CloseAccounts.l1] at h,fun _ _ _ _ _ _ _ _ _ _ r h => by simp [spec_CloseAccounts.j4] at h,fun _ _ _ _ _ _ _ _ _ _ r h => by simp [spec_CloseAccounts.j5] at h⟩
 | k + 1 => by
  obtain ⟨ih0,ih1,ih2,ih3,ih4,ih5⟩:=spec_CloseAccounts.mono_l k;refine ⟨?_,?_,?_,?_,?_,?_⟩;all_goals intros
  all_goals (first | unfold spec_CloseAccounts.j0 | unfold spec_CloseAccounts.j1 | unfold spec_CloseAccounts.l0 | unfold spec_CloseAccounts.l1 | unfold spec_CloseAccounts.j4 | unfold spec_CloseAccounts.j5)
  all_goals
   repeat' with_reducible first | apply ih0 | apply ih1 | apply ih2 | apply ih3 | apply ih4 | apply ih5 | apply spec_l26Balances.mono | apply spec_l26Good.mono | apply spec_l26Own.mono | apply spec_l26Post.mono | exact LeO.refl _ | exact LeO.none _ | refine LeO.ite ?_ ?_ | refine LeO.bind ?_ (fun _ => ?_)
theorem spec_CloseAccounts.mono : ∀ a0 a1 a2 a3 k,LeO (spec_CloseAccounts.f k a0 a1 a2 a3) (spec_CloseAccounts.f (k + 1) a0 a1 a2 a3):=by
 intro a0 a1 a2 a3 k;obtain ⟨ih0,ih1,ih2,ih3,ih4,ih5⟩:=spec_CloseAccounts.mono_l k;unfold spec_CloseAccounts.f;repeat' with_reducible first | apply ih0 | apply ih1 | apply ih2 | apply ih3 | apply ih4 | apply ih5 | apply spec_l26Balances.mono | apply spec_l26Good.mono | apply spec_l26Own.mono | apply spec_l26Post.mono | exact LeO.refl _ | exact LeO.none _ | refine LeO.ite ?_ ?_ | refine LeO.bind ?_ (fun _ => ?_)
set_option maxHeartbeats 8000000 in
set_option maxRecDepth 100000 in
theorem spec_CloseAccounts.calls (k : Nat) (A0_0 : Option Addr) (c0_0 : Nat) (l0_0 : List (S48)) (A0_1 : Option Addr) (c0_1 : Nat) (l0_1 : List (S63)) (a1 : Int) (a2 : Int) (r1 : List (S48)) (r2 : List (S63)) (r3 : Bool) (w : World) (hr0_0 : Kd.C k48 w A0_0 l0_0.length l0_0) (hc0_0 : l0_0.length ≤ c0_0) (hr0_1 : Kd.C k63 w A0_1 l0_1.length l0_1) (hc0_1 : l0_1.length ≤ c0_1) (h : spec_CloseAccounts.f k l0_0 l0_1 a1 a2 = some (r1,r2,r3)) :
 Calls Tryd.prog 26 #[.agg #[.slice A0_0 l0_0.length c0_0,.slice A0_1 l0_1.length c0_1],.int .i64 a1,.int .i64 a2] w fun e w' => ∃ v0_ v1_ : Value,e = .returned (.tuple #[.agg #[v0_,v1_],.bool r3]) ∧ Kd.R k48 48 w' w.heap.size (fun _ => True) v0_ r1 ∧ Kd.S k63 63 w' w.heap.size (fun _ => True) v1_ r2 ∧ Below w.heap.size w w':=by
 have hu31:=Tryd.underlying31;have hu48:=Tryd.underlying48;have hu63:=Tryd.underlying63;have hu70:=Tryd.underlying70;have HR0_0:=Aside0.mk hr0_0;have HC0_0:=Aside0.mk hc0_0;clear hr0_0 hc0_0;have HR0_1:=Aside0.mk hr0_1;have HC0_1:=Aside0.mk hc0_1;clear hr0_1 hc0_1;have HB:=Aside0.mk (Below.refl w.heap.size w);have H:=h;clear h;unfold spec_CloseAccounts.f at H;have HC4:=Aside0.mk H;clear H
 go_enter Tryd.func26,Tryd.ntmps26
 go_upto_region 1 with (first | ((with_reducible refine gate_dst (N:=3) rfl ?_);(try (refine gate_guard (by rfl) ?_;dsimp only));refine bx 3 (cs:=#[.slice A0_0 l0_0.length c0_0,.slice A0_1 l0_1.length c0_1]) (t:=31) ?_;intro gb595 hg w5 hbox hb;have BK595:=Aside0.mk (hbox);have GW595:=gw hg;have GE595:=gw hg;replace HB:=hB hb;clear hb hbox hg) | ((with_reducible refine gate_dst (N:=6) rfl ?_);(try (refine gate_guard (by rfl) ?_;dsimp only));refine bx 6 (cs:=#[.slice none 0 0,.slice none 0 0]) (t:=31) ?_;intro gb596 hg w6 hbox hb;have BK596:=Aside0.mk (hbox);have GW596:=gw hg;have GE596:=gw hg;replace HB:=hB hb;have NB595_596:=nl hg BK595;have NB596_595:=ng hg BK595;replace BK595:=kb BK595 hb;clear hb hbox hg))
 (try simp only [Act.put,List.setIfInBounds_toArray,List.set_cons_zero,List.set_cons_succ])
 go_cut [41] (fun v41 wc => ∃ (kq : Nat) (x41_3 : Bool),v41 = .bool x41_3 ∧ Aside0 (spec_CloseAccounts.j0 kq a1 a2 x41_3 l0_0 l0_1 = some (r1,r2,r3)) ∧ Aside0 (kq ≤ k) ∧ Aside0 (wc.heap[gb595]? = some (.cells #[(.slice A0_0 l0_0.length c0_0),(.slice A0_1 l0_1.length c0_1)] 31 (0,0))) ∧ Aside0 (wc.heap[gb596]? = some (.cells #[(.slice none 0 0),(.slice none 0 0)] 31 (0,0))) ∧ Aside0 (Below w.heap.size w wc))
 case first =>
  have H:=HC4.out;clear HC4;obtain ⟨t597,A7,H⟩:=bdY H;by_cases c8 : t597 = true
  ·subst c8;replace H:=ifT H;obtain ⟨t598,A9,H⟩:=bdY H;by_cases c10 : t598 = true
   ·subst c10;replace H:=ifT H;obtain ⟨c11b0,H⟩:=ifYd H;(first | rw [c11b0] | (simp only [i64_w,i32_w];rw [c11b0]) | skip);obtain ⟨c12b0,H⟩:=ifYd H;by_cases c13 : ((rd_T48 l0_0 a1).f1) = 3
    ·rw [if_pos c13] at H;have c13b0:=beq_iff_eq.mpr c13;have c13b1:=bne_eq_false_iff_eq.mpr c13;clear c13;obtain ⟨t600,A14,H⟩:=bdY H;replace H:=Aside0.mk H;have hnb15:=NB595_596.out;have hnc15:=NB596_595.out;obtain ⟨hcz16_0,hcz16_1,hfz16_0,hfz16_1⟩:=z2 BK595;go_wp2_with (first | (refine gc 17 Tryd.func52 #[.agg #[.slice A0_0 l0_0.length c0_0,.slice A0_1 l0_1.length c0_1]] ?_;(with_reducible refine (spec_l26Good.calls k _ _ l0_0 _ _ l0_1 true _ ?side1 ?side2 ?side3 ?side4 A7.out).mono ?_);(case side1 => exact (rC (Kd.C_below HR0_0.out HB.out)));(case side2 => exact HC0_0.out);(case side3 => exact (rC (Kd.C_below HR0_1.out HB.out)));(case side4 => exact HC0_1.out);rintro e w17 ⟨rfl,hb⟩;refine ⟨_,rfl,?_⟩;replace BK595:=kb BK595 hb;replace BK596:=kb BK596 hb;replace HB:=hB hb;(try clear hb);(try clear hb2);(try clear hk);(try clear hi);obtain ⟨hcz18_0,hcz18_1,hfz18_0,hfz18_1⟩:=z2 BK595) | (go_at_call 65;(with_reducible refine (spec_l1In.calls a1 0 (wrap64 ((l0_0.length : Int) - 1)) true _ A9.out).mono ?_);rintro e w' ⟨rfl,⟨nd,rfl⟩⟩;have p599 : 0 ≤ (a1 : Int):=of_decide_eq_true ZZ853400;have q599 : a1 < (l0_0.length : Int):=of_decide_eq_true ZZ853400;obtain ⟨ad599,e599,hx599_0,hx599_1⟩:=at_T48 HR0_0.out a1 p599 q599;cases e599;replace hx599_0:=(HB.out.cell (World.block_lt_of_cell? w _ hx599_0)).trans hx599_0;replace hx599_1:=(HB.out.cell (World.block_lt_of_cell? w _ hx599_1)).trans hx599_1;replace p599:=eq_true p599;replace q599:=eq_true q599) | (go_at_call 66;(with_reducible refine (spec_l3Good.calls a2 t600 _ A14.out).mono ?_);rintro e w' ⟨rfl,⟨nd,rfl⟩⟩))
     go_meet
     case rel => exact ⟨_,(!t600),ZZ0ab324,H,kle,⟨(zB BK595)⟩,⟨(zB BK596)⟩,⟨ZZ295621⟩⟩
    rw [if_neg c13] at H;have c13b0:=beq_eq_false_iff_ne.mpr c13;have c13b1:=bne_iff_ne.mpr c13;replace H:=Aside0.mk H;have hnb19:=NB595_596.out;have hnc19:=NB596_595.out;obtain ⟨hcz20_0,hcz20_1,hfz20_0,hfz20_1⟩:=z2 BK595;go_wp2_with (first | (refine gc 17 Tryd.func52 #[.agg #[.slice A0_0 l0_0.length c0_0,.slice A0_1 l0_1.length c0_1]] ?_;(with_reducible refine (spec_l26Good.calls k _ _ l0_0 _ _ l0_1 true _ ?side1 ?side2 ?side3 ?side4 A7.out).mono ?_);(case side1 => exact (rC (Kd.C_below HR0_0.out HB.out)));(case side2 => exact HC0_0.out);(case side3 => exact (rC (Kd.C_below HR0_1.out HB.out)));(case side4 => exact HC0_1.out);rintro e w21 ⟨rfl,hb⟩;refine ⟨_,rfl,?_⟩;replace BK595:=kb BK595 hb;replace BK596:=kb BK596 hb;replace HB:=hB hb;(try clear hb);(try clear hb2);(try clear hk);(try clear hi);obtain ⟨hcz22_0,hcz22_1,hfz22_0,hfz22_1⟩:=z2 BK595) | (go_at_call 65;(with_reducible refine (spec_l1In.calls a1 0 (wrap64 ((l0_0.length : Int) - 1)) true _ A9.out).mono ?_);rintro e w' ⟨rfl,⟨nd,rfl⟩⟩;have p599 : 0 ≤ (a1 : Int):=of_decide_eq_true ZZ853400;have q599 : a1 < (l0_0.length : Int):=of_decide_eq_true ZZ853400;obtain ⟨ad599,e599,hx599_0,hx599_1⟩:=at_T48 HR0_0.out a1 p599 q599;cases e599;replace hx599_0:=(HB.out.cell (World.block_lt_of_cell? w _ hx599_0)).trans hx599_0;replace hx599_1:=(HB.out.cell (World.block_lt_of_cell? w _ hx599_1)).trans hx599_1;replace p599:=eq_true p599;replace q599:=eq_true q599))
    go_meet
    case rel => exact ⟨_,(true),ZZ0ab324,H,kle,⟨(zB BK595)⟩,⟨(zB BK596)⟩,⟨ZZ295621⟩⟩
   replace c10:=Bool.eq_false_iff.mpr c10;subst c10;replace H:=ifF H;replace H:=Aside0.mk H;have hnb23:=NB595_596.out;have hnc23:=NB596_595.out;obtain ⟨hcz24_0,hcz24_1,hfz24_0,hfz24_1⟩:=z2 BK595;go_wp2_with (first | (refine gc 17 Tryd.func52 #[.agg #[.slice A0_0 l0_0.length c0_0,.slice A0_1 l0_1.length c0_1]] ?_;(with_reducible refine (spec_l26Good.calls k _ _ l0_0 _ _ l0_1 true _ ?side1 ?side2 ?side3 ?side4 A7.out).mono ?_);(case side1 => exact (rC (Kd.C_below HR0_0.out HB.out)));(case side2 => exact HC0_0.out);(case side3 => exact (rC (Kd.C_below HR0_1.out HB.out)));(case side4 => exact HC0_1.out);rintro e w25 ⟨rfl,hb⟩;refine ⟨_,rfl,?_⟩;replace BK595:=kb BK595 hb;replace BK596:=kb BK596 hb;replace HB:=hB hb;(try clear hb);(try clear hb2);(try clear hk);(try clear hi);obtain ⟨hcz26_0,hcz26_1,hfz26_0,hfz26_1⟩:=z2 BK595) | (go_at_call 65;(with_reducible refine (spec_l1In.calls a1 0 (wrap64 ((l0_0.length : Int) - 1)) false _ A9.out).mono ?_);rintro e w' ⟨rfl,⟨nd,rfl⟩⟩))
   go_meet
   case rel => exact ⟨_,(true),ZZ0ab324,H,kle,⟨(zB BK595)⟩,⟨(zB BK596)⟩,⟨ZZ295621⟩⟩
  replace c8:=Bool.eq_false_iff.mpr c8;subst c8;replace H:=ifF H;replace H:=Aside0.mk H;have hnb27:=NB595_596.out;have hnc27:=NB596_595.out;obtain ⟨hcz28_0,hcz28_1,hfz28_0,hfz28_1⟩:=z2 BK595;go_wp2_with (first | (refine gc 17 Tryd.func52 #[.agg #[.slice A0_0 l0_0.length c0_0,.slice A0_1 l0_1.length c0_1]] ?_;(with_reducible refine (spec_l26Good.calls k _ _ l0_0 _ _ l0_1 false _ ?side1 ?side2 ?side3 ?side4 A7.out).mono ?_);(case side1 => exact (rC (Kd.C_below HR0_0.out HB.out)));(case side2 => exact HC0_0.out);(case side3 => exact (rC (Kd.C_below HR0_1.out HB.out)));(case side4 => exact HC0_1.out);rintro e w29 ⟨rfl,hb⟩;refine ⟨_,rfl,?_⟩;replace BK595:=kb BK595 hb;replace BK596:=kb BK596 hb;replace HB:=hB hb;(try clear hb);(try clear hb2);(try clear hk);(try clear hi)))
  go_meet
  case rel => exact ⟨_,(true),ZZ0ab324,H,kle,⟨(zB BK595)⟩,⟨(zB BK596)⟩,⟨ZZ295621⟩⟩
 case rest =>
  clear HC4;try clear c8
  try clear c10
  try clear c11b0
  try clear c12b0
  try clear c13
  try clear c13b0
  try clear c13b1
  try clear hcz16_0
  try clear hcz16_1
  try clear hcz18_0
  try clear hcz18_1
  try clear hcz20_0
  try clear hcz20_1
  try clear hcz22_0
  try clear hcz22_1
  try clear hcz24_0
  try clear hcz24_1
  try clear hcz26_0
  try clear hcz26_1
  try clear hcz28_0
  try clear hcz28_1
  try clear hfz16_0
  try clear hfz16_1
  try clear hfz18_0
  try clear hfz18_1
  try clear hfz20_0
  try clear hfz20_1
  try clear hfz22_0
  try clear hfz22_1
  try clear hfz24_0
  try clear hfz24_1
  try clear hfz26_0
  try clear hfz26_1
  try clear hfz28_0
  try clear hfz28_1
  try clear hx599_0
  try clear hx599_1
  try clear p599
  try clear q599
  obtain ⟨kq,x41_3,rfl,HA,HJ3,BK595,BK596,HB⟩:=hcut
  cases kq with
  | zero => exact absurd HA.out (by simp [spec_CloseAccounts.j0])
  | succ kj3 =>
   have H:=HA.out;clear HA;simp only [spec_CloseAccounts.j0] at H;by_cases c30 : x41_3 = true
   ·subst c30;replace H:=ifT H;simp only [Option.some.injEq,Prod.mk.injEq] at H;obtain ⟨rfl,rfl,rfl⟩:=H;have hnb31:=NB596_595.out;have hnc31:=NB595_596.out;obtain ⟨hcz32_0,hcz32_1,hfz32_0,hfz32_1⟩:=z2 BK596;go_wp2;refine bodyPost_ret (results_ct rfl _ _ gb596 31 #[.slice none 0 0,.slice none 0 0] (0,0) _ rfl (by refine bd ?_;refine blk_put (cs:=#[.slice none 0 0,.slice none 0 0]) ?_ 1 _ rfl;refine bd ?_;refine blk_put (cs:=#[.slice none 0 0,.slice none 0 0]) ?_ 0 _ rfl;refine bd ?_;exact BK596.out) Tryd.underlying31 rfl (by kernel_rfl)) rfl ?_;exact ⟨_,_,ZZab01d2,ZZf4214b,ZZc4c4be,ZZ295621⟩
   replace c30:=Bool.eq_false_iff.mpr c30;subst c30;replace H:=ifF H;have HC33:=Aside0.mk H;clear H;have hnb34:=NB595_596.out;have hnc34:=NB596_595.out;obtain ⟨hcz35_0,hcz35_1,hfz35_0,hfz35_1⟩:=z2 BK595;go_upto_region 4 with (fail)
   go_cut [58] (fun v58 wc => ∃ (kq : Nat) (x58_32 : Bool),v58 = .bool x58_32 ∧ Aside0 (spec_CloseAccounts.j1 kq a1 a2 x58_32 l0_0 l0_1 = some (r1,r2,r3)) ∧ Aside0 (kq ≤ kj3) ∧ Aside0 (wc.heap[gb595]? = some (.cells #[(.slice A0_0 l0_0.length c0_0),(.slice A0_1 l0_1.length c0_1)] 31 (0,0))) ∧ Aside0 (wc.heap[gb596]? = some (.cells #[(.slice none 0 0),(.slice none 0 0)] 31 (0,0))) ∧ Aside0 (Below w.heap.size w wc))
   case first =>
    have H:=HC33.out;clear HC33;by_cases c36 : (l0_1.length : Int) > 0
    ·rw [if_pos c36] at H;have c36b0 : decide (0 < (l0_1.length : Int)) = true:=decide_eq_true c36;have c36b1 : decide (0 < l0_1.length) = true:=decide_eq_true (by omega);clear c36;(first | rw [c36b0] | (simp only [i64_w,i32_w];rw [c36b0]) | skip);obtain ⟨ji37,hji37⟩ : ∃ j_ : Int,(wrap64 ((l0_1.length : Int) - 1)) = j_:=⟨_,rfl⟩;(first | rw [hji37] at H | simp only [hji37] at H);have hji37w : (IntKind.i64.wrap ((l0_1.length : Int) - 1)) = ji37:=(i64_w _).trans hji37;obtain ⟨c38b0,H⟩:=ifYd H;obtain ⟨c39b0,H⟩:=ifYd H;replace H:=Aside0.mk H;have hnb40:=NB595_596.out;have hnc40:=NB596_595.out;obtain ⟨hcz41_0,hcz41_1,hfz41_0,hfz41_1⟩:=z2 BK595;have p601 : 0 ≤ ((ji37) : Int):=of_decide_eq_true ZZ853400;have q601 : (ji37) < (l0_1.length : Int):=of_decide_eq_true ZZ853400;obtain ⟨ad601,A601_2,c601_2,e601,hx601_0,hx601_1,hx601_2,hl601_2,hi601_2⟩:=at_T63 HR0_1.out (ji37) p601 q601
     cases e601
     replace hx601_0:=(HB.out.cell (World.block_lt_of_cell? w _ hx601_0)).trans hx601_0;replace hx601_1:=(HB.out.cell (World.block_lt_of_cell? w _ hx601_1)).trans hx601_1;replace hx601_2:=(HB.out.cell (World.block_lt_of_cell? w _ hx601_2)).trans hx601_2;have HR601_2:=Aside0.mk hi601_2;have HC601_2:=Aside0.mk hl601_2;clear hi601_2 hl601_2;replace p601:=eq_true p601;replace q601:=eq_true q601;go_wp2;go_meet
     case rel => exact ⟨_,(decide (((rd_T63 l0_1 (ji37)).f0) > a2)),(by first | rfl | (simp;done) | (simp only [← hji37] <;> (first | rfl | simp)) | (simp [*];done)),H,kle,⟨(zB BK595)⟩,⟨(zB BK596)⟩,⟨ZZ295621⟩⟩
    rw [if_neg c36] at H;have c36b0 : decide (0 < (l0_1.length : Int)) = false:=decide_eq_false c36;have c36b1 : decide (0 < l0_1.length) = false:=decide_eq_false (by omega);clear c36;(first | rw [c36b0] | (simp only [i64_w,i32_w];rw [c36b0]) | skip);replace H:=Aside0.mk H;go_wp2;go_meet
    case rel => exact ⟨_,(false),ZZ0ab324,H,kle,⟨(zB BK595)⟩,⟨(zB BK596)⟩,⟨ZZ295621⟩⟩
   case rest =>
    clear HC33;try clear c30
    try clear c36
    try clear c36b0
    try clear c36b1
    try clear c38b0
    try clear c39b0
    try clear hcz32_0
    try clear hcz32_1
    try clear hcz35_0
    try clear hcz35_1
    try clear hcz41_0
    try clear hcz41_1
    try clear hfz32_0
    try clear hfz32_1
    try clear hfz35_0
    try clear hfz35_1
    try clear hfz41_0
    try clear hfz41_1
    try clear hx601_0
    try clear hx601_1
    try clear hx601_2
    try clear p601
    try clear q601
    obtain ⟨kq,x58_32,rfl,HA,HJ32,BK595,BK596,HB⟩:=hcut
    cases kq with
    | zero => exact absurd HA.out (by simp [spec_CloseAccounts.j1])
    | succ kj32 =>
     have H:=HA.out;clear HA;simp only [spec_CloseAccounts.j1] at H;by_cases c42 : x58_32 = true
     ·subst c42;replace H:=ifT H;simp only [Option.some.injEq,Prod.mk.injEq] at H;obtain ⟨rfl,rfl,rfl⟩:=H;have hnb43:=NB596_595.out;have hnc43:=NB595_596.out;obtain ⟨hcz44_0,hcz44_1,hfz44_0,hfz44_1⟩:=z2 BK596;go_wp2;refine bodyPost_ret (results_ct rfl _ _ gb596 31 #[.slice none 0 0,.slice none 0 0] (0,0) _ rfl (by refine bd ?_;refine blk_put (cs:=#[.slice none 0 0,.slice none 0 0]) ?_ 1 _ rfl;refine bd ?_;refine blk_put (cs:=#[.slice none 0 0,.slice none 0 0]) ?_ 0 _ rfl;refine bd ?_;exact BK596.out) Tryd.underlying31 rfl (by kernel_rfl)) rfl ?_;exact ⟨_,_,ZZab01d2,ZZf4214b,ZZc4c4be,ZZ295621⟩
     replace c42:=Bool.eq_false_iff.mpr c42;subst c42;replace H:=ifF H;obtain ⟨t602,A45,H⟩:=bdY H;replace H:=Aside0.mk H;have hnb46:=NB595_596.out;have hnc46:=NB596_595.out;obtain ⟨hcz47_0,hcz47_1,hfz47_0,hfz47_1⟩:=z2 BK595;go_wp2_with (first | (refine gc 62 Tryd.func67 #[.agg #[.slice A0_0 l0_0.length c0_0,.slice A0_1 l0_1.length c0_1],.int .i64 a2] ?_;(with_reducible refine (spec_l26Balances.calls kj32 _ _ l0_0 _ _ l0_1 a2 t602 _ ?side1 ?side2 ?side3 ?side4 A45.out).mono ?_);(case side1 => exact (rC (Kd.C_below HR0_0.out HB.out)));(case side2 => exact HC0_0.out);(case side3 => exact (rC (Kd.C_below HR0_1.out HB.out)));(case side4 => exact HC0_1.out);rintro e w48 ⟨v603,rfl,ho0,hb⟩;refine ⟨_,rfl,?_⟩;have HO604:=Aside0.mk (Kd.R_lower ho0 (below_size ZZ295621));replace BK595:=kb BK595 hb;replace BK596:=kb BK596 hb;replace HB:=hB hb;(try clear hb);(try clear hb2);(try clear hk);(try clear hi);(try clear ho0)))
     go_loopg [10,11,12] kj32 (fun kq v10 v11 v12 w' => ∃ (x10_3 : Int) (x11_3 : Bool) (x12_3 : Int),v10 = .int .i64 x10_3 ∧ v11 = .bool x11_3 ∧ v12 = .int .i64 x12_3 ∧ Aside0 (spec_CloseAccounts.l0 kq a1 a2 t602 x10_3 x11_3 x12_3 l0_0 l0_1 = some (r1,r2,r3)) ∧ Aside0 (kq ≤ kj32) ∧ Aside0 (Kd.R (Kd.int .i64) 3 w' w.heap.size (fun _ => True) v603 t602) ∧ Aside0 (w'.heap[gb595]? = some (.cells #[(.slice A0_0 l0_0.length c0_0),(.slice A0_1 l0_1.length c0_1)] 31 (0,0))) ∧ Aside0 (w'.heap[gb596]? = some (.cells #[(.slice none 0 0),(.slice none 0 0)] 31 (0,0))) ∧ Aside0 (Below w.heap.size w w'))
     case atStart => exact ⟨(0),(false),(0),ZZ0ab324,ZZ0ab324,ZZ0ab324,H,⟨Nat.le_refl _⟩,⟨(zR HO604)⟩,⟨(zB BK595)⟩,⟨(zB BK596)⟩,⟨ZZ295621⟩⟩
     case round =>
      clear H;try clear c42
      try clear hcz44_0
      try clear hcz44_1
      try clear hcz47_0
      try clear hcz47_1
      try clear hfz44_0
      try clear hfz44_1
      try clear hfz47_0
      try clear hfz47_1
      obtain ⟨x10_3,x11_3,x12_3,rfl,rfl,rfl,HA,HK3,HO_9,BK595,BK596,HB⟩:=hrel
      cases gk with
      | zero => exact absurd HA.out (by simp [spec_CloseAccounts.l0])
      | succ k3 =>
       have H:=HA.out;clear HA;simp only [spec_CloseAccounts.l0] at H;by_cases c49 : x12_3 < (t602.length : Int)
       ·rw [if_pos c49] at H;have c49b0:=decide_eq_true c49;clear c49;obtain ⟨c50b0,H⟩:=ifYd H;obtain ⟨c51b0,H⟩:=ifYd H;obtain ⟨t606,A52,H⟩:=bdY H;by_cases c53 : t606 = true
        ·subst c53;replace H:=ifT H;by_cases c54 : x11_3 = true
         ·subst c54;replace H:=ifT H;replace H:=Aside0.mk H;obtain ⟨Ao55,co55,eo55⟩:=Kd.R_slice HO_9.out;subst eo55;have hnb56:=NB595_596.out;have hnc56:=NB596_595.out;obtain ⟨hcz57_0,hcz57_1,hfz57_0,hfz57_1⟩:=z2 BK595;have p605 : 0 ≤ (x12_3 : Int):=of_decide_eq_true ZZ853400;have q605 : x12_3 < (l0_0.length : Int):=of_decide_eq_true ZZ853400;obtain ⟨ad605,e605,hx605_0,hx605_1⟩:=at_T48 HR0_0.out x12_3 p605 q605
          cases e605
          replace hx605_0:=(HB.out.cell (World.block_lt_of_cell? w _ hx605_0)).trans hx605_0;replace hx605_1:=(HB.out.cell (World.block_lt_of_cell? w _ hx605_1)).trans hx605_1;replace p605:=eq_true p605;replace q605:=eq_true q605;go_wp2_with (first | (refine gc 74 Tryd.func70 #[.agg #[.string ((rd_T48 l0_0 x12_3).f0),.int .i64 ((rd_T48 l0_0 x12_3).f1)]] ?_;(with_reducible refine (spec_l26Temporary.calls ((rd_T48 l0_0 x12_3).f0) ((rd_T48 l0_0 x12_3).f1) true _ A52.out).mono ?_);rintro e w58 ⟨rfl,hb⟩;refine ⟨_,rfl,?_⟩;replace HO_9:=Aside0.mk (Kd.R_below (zR HO_9) hb);replace BK595:=kb BK595 hb;replace BK596:=kb BK596 hb;replace HB:=hB hb;(try clear hb);(try clear hb2);(try clear hk);(try clear hi);have p607 : 0 ≤ (x12_3 : Int):=of_decide_eq_true ZZ853400;have q607 : x12_3 < (t602.length : Int):=of_decide_eq_true ZZ853400;obtain ⟨ad607,e607,hx607_0⟩:=Kd.at_int (Kd.R_reads' HO_9.out).2.2 x12_3 p607 q607;cases e607;replace p607:=eq_true p607;replace q607:=eq_true q607))
          go_roundg k3
          case measure => have:=HJ3.out;have:=HJ32.out;have:=HK3.out;omega
          case rel => exact ⟨(wrap64 (x10_3 + (rd t602 x12_3))),(true),(wrap64 (x12_3 + 1)),ZZ0ab324,ZZ0ab324,ZZ0ab324,‹_›,kle,⟨(zR HO_9)⟩,⟨(zB BK595)⟩,⟨(zB BK596)⟩,⟨ZZ295621⟩⟩
         replace c54:=Bool.eq_false_iff.mpr c54;subst c54;replace H:=ifF H;replace H:=Aside0.mk H;obtain ⟨Ao59,co59,eo59⟩:=Kd.R_slice HO_9.out;subst eo59;have hnb60:=NB595_596.out;have hnc60:=NB596_595.out;obtain ⟨hcz61_0,hcz61_1,hfz61_0,hfz61_1⟩:=z2 BK595;have p605 : 0 ≤ (x12_3 : Int):=of_decide_eq_true ZZ853400;have q605 : x12_3 < (l0_0.length : Int):=of_decide_eq_true ZZ853400;obtain ⟨ad605,e605,hx605_0,hx605_1⟩:=at_T48 HR0_0.out x12_3 p605 q605
         cases e605
         replace hx605_0:=(HB.out.cell (World.block_lt_of_cell? w _ hx605_0)).trans hx605_0;replace hx605_1:=(HB.out.cell (World.block_lt_of_cell? w _ hx605_1)).trans hx605_1;replace p605:=eq_true p605;replace q605:=eq_true q605;go_wp2_with (first | (refine gc 74 Tryd.func70 #[.agg #[.string ((rd_T48 l0_0 x12_3).f0),.int .i64 ((rd_T48 l0_0 x12_3).f1)]] ?_;(with_reducible refine (spec_l26Temporary.calls ((rd_T48 l0_0 x12_3).f0) ((rd_T48 l0_0 x12_3).f1) true _ A52.out).mono ?_);rintro e w62 ⟨rfl,hb⟩;refine ⟨_,rfl,?_⟩;replace HO_9:=Aside0.mk (Kd.R_below (zR HO_9) hb);replace BK595:=kb BK595 hb;replace BK596:=kb BK596 hb;replace HB:=hB hb;(try clear hb);(try clear hb2);(try clear hk);(try clear hi);have p607 : 0 ≤ (x12_3 : Int):=of_decide_eq_true ZZ853400;have q607 : x12_3 < (t602.length : Int):=of_decide_eq_true ZZ853400;obtain ⟨ad607,e607,hx607_0⟩:=Kd.at_int (Kd.R_reads' HO_9.out).2.2 x12_3 p607 q607;cases e607;replace p607:=eq_true p607;replace q607:=eq_true q607;have p608 : 0 ≤ (x12_3 : Int):=of_decide_eq_true ZZ853400;have q608 : x12_3 < (t602.length : Int):=of_decide_eq_true ZZ853400;obtain ⟨ad608,e608,hx608_0⟩:=Kd.at_int (Kd.R_reads' HO_9.out).2.2 x12_3 p608 q608;obtain rfl : ad607 = ad608:=(by injection e608);replace p608:=eq_true p608;replace q608:=eq_true q608))
         go_roundg k3
         case measure => have:=HJ3.out;have:=HJ32.out;have:=HK3.out;omega
         case rel => exact ⟨(wrap64 (x10_3 + (rd t602 x12_3))),(((rd t602 x12_3) != 0)),(wrap64 (x12_3 + 1)),ZZ0ab324,ZZ0ab324,ZZ0ab324,‹_›,kle,⟨(zR HO_9)⟩,⟨(zB BK595)⟩,⟨(zB BK596)⟩,⟨ZZ295621⟩⟩
        replace c53:=Bool.eq_false_iff.mpr c53;subst c53;replace H:=ifF H;replace H:=Aside0.mk H;obtain ⟨Ao63,co63,eo63⟩:=Kd.R_slice HO_9.out;subst eo63;have hnb64:=NB595_596.out;have hnc64:=NB596_595.out;obtain ⟨hcz65_0,hcz65_1,hfz65_0,hfz65_1⟩:=z2 BK595;have p605 : 0 ≤ (x12_3 : Int):=of_decide_eq_true ZZ853400;have q605 : x12_3 < (l0_0.length : Int):=of_decide_eq_true ZZ853400;obtain ⟨ad605,e605,hx605_0,hx605_1⟩:=at_T48 HR0_0.out x12_3 p605 q605
        cases e605
        replace hx605_0:=(HB.out.cell (World.block_lt_of_cell? w _ hx605_0)).trans hx605_0;replace hx605_1:=(HB.out.cell (World.block_lt_of_cell? w _ hx605_1)).trans hx605_1;replace p605:=eq_true p605;replace q605:=eq_true q605;go_wp2_with (first | (refine gc 74 Tryd.func70 #[.agg #[.string ((rd_T48 l0_0 x12_3).f0),.int .i64 ((rd_T48 l0_0 x12_3).f1)]] ?_;(with_reducible refine (spec_l26Temporary.calls ((rd_T48 l0_0 x12_3).f0) ((rd_T48 l0_0 x12_3).f1) false _ A52.out).mono ?_);rintro e w66 ⟨rfl,hb⟩;refine ⟨_,rfl,?_⟩;replace HO_9:=Aside0.mk (Kd.R_below (zR HO_9) hb);replace BK595:=kb BK595 hb;replace BK596:=kb BK596 hb;replace HB:=hB hb;(try clear hb);(try clear hb2);(try clear hk);(try clear hi)))
        go_roundg k3
        case measure => have:=HJ3.out;have:=HJ32.out;have:=HK3.out;omega
        case rel => exact ⟨(x10_3),(x11_3),(wrap64 (x12_3 + 1)),ZZ0ab324,ZZ0ab324,ZZ0ab324,H,kle,⟨(zR HO_9)⟩,⟨(zB BK595)⟩,⟨(zB BK596)⟩,⟨ZZ295621⟩⟩
       rw [if_neg c49] at H;have c49b0:=decide_eq_false c49;clear c49;by_cases c67 : x11_3 = true
       ·subst c67;replace H:=ifT H;replace H:=Aside0.mk H;obtain ⟨Ao68,co68,eo68⟩:=Kd.R_slice HO_9.out;subst eo68;go_wp2_with (first | ((with_reducible refine gate_dst (N:=13) rfl ?_);(try (refine gate_guard (by rfl) ?_;dsimp only));refine bx 13 (cs:=#[.int .i64 0,.string (⟨#[]⟩ : ByteArray),.slice none 0 0]) (t:=63) ?_;intro gb615 hg w69 hbox hb;replace HO_9:=Aside0.mk (Kd.R_below (zR HO_9) hb);have BK615:=Aside0.mk (hbox);have GW615:=gw hg;have GE615:=gw hg;replace HB:=hB hb;have NB595_615:=nl hg BK595;have NB615_595:=ng hg BK595;replace BK595:=kb BK595 hb;have NB596_615:=nl hg BK596;have NB615_596:=ng hg BK596;replace BK596:=kb BK596 hb;clear hb hbox hg;have hnb70:=NB615_595.out;have hnc70:=NB595_615.out;have hnb71:=NB615_596.out;have hnc71:=NB596_615.out;obtain ⟨hcz72_0,hcz72_1,hcz72_2,hfz72_0,hfz72_1,hfz72_2⟩:=z3 BK615))
        go_loopg [14] k3 (fun kq v14 w' => ∃ (x14_4 : Int) (x616002_4 : List (S70)) (u616002 : Value),v14 = .int .i64 x14_4 ∧ Aside0 (spec_CloseAccounts.l1 kq a1 t602 x10_3 x14_4 l0_0 l0_1 a2 (⟨#[99,108,111,115,105,110,103]⟩ : ByteArray) x616002_4 = some (r1,r2,r3)) ∧ Aside0 (kq ≤ k3) ∧ Aside0 (Kd.R (Kd.int .i64) 3 w' w.heap.size (fun _ => True) (.slice Ao68 t602.length co68) t602) ∧ Aside0 (Kd.R k70 70 w' w.heap.size (fun _ => True) u616002 x616002_4) ∧ Aside0 (w'.heap[gb595]? = some (.cells #[(.slice A0_0 l0_0.length c0_0),(.slice A0_1 l0_1.length c0_1)] 31 (0,0))) ∧ Aside0 (w'.heap[gb596]? = some (.cells #[(.slice none 0 0),(.slice none 0 0)] 31 (0,0))) ∧ Aside0 (w'.heap[gb615]? = some (.cells #[.int .i64 a2,.string (⟨#[99,108,111,115,105,110,103]⟩ : ByteArray),u616002] 63 (0,0))) ∧ Aside0 (Below w.heap.size w w'))
        case atStart => exact ⟨(0),(([] : List (S70))),(.slice none 0 0),ZZ0ab324,H,⟨Nat.le_refl _⟩,⟨(by refine bR ?_;exact Kd.R_mono (Kd.R_far (p:=⟨gb615,2,none⟩) (Kd.R_far (p:=⟨gb615,1,none⟩) (Kd.R_far (p:=⟨gb615,0,none⟩) (Kd.R_types HO_9.out BK615.out (by decide)) (fun _ hk => hk.2) (.int .i64 a2)) (fun _ hk => hk.2) (.string (⟨#[99,108,111,115,105,110,103]⟩ : ByteArray))) (fun _ hk => hk.2) (.slice none 0 0)) (fun _ hk => trivial))⟩,⟨ZZf4214b⟩,⟨(by refine bd ?_;refine blk_far ?_ NB595_615.out _;refine bd ?_;refine blk_far ?_ NB595_615.out _;refine bd ?_;refine blk_far ?_ NB595_615.out _;refine bd ?_;exact BK595.out)⟩,⟨(by refine bd ?_;refine blk_far ?_ NB596_615.out _;refine bd ?_;refine blk_far ?_ NB596_615.out _;refine bd ?_;refine blk_far ?_ NB596_615.out _;refine bd ?_;exact BK596.out)⟩,⟨(by refine bd ?_;refine blk_put (cs:=#[.int .i64 a2,.string (⟨#[99,108,111,115,105,110,103]⟩ : ByteArray),.slice none 0 0]) ?_ 2 _ rfl;refine bd ?_;refine blk_put (cs:=#[.int .i64 a2,.string (⟨#[]⟩ : ByteArray),.slice none 0 0]) ?_ 1 _ rfl;refine bd ?_;refine blk_put (cs:=#[.int .i64 0,.string (⟨#[]⟩ : ByteArray),.slice none 0 0]) ?_ 0 _ rfl;refine bd ?_;exact BK615.out)⟩,⟨ZZ295621⟩⟩
        case round =>
         clear H;try clear c49b0
         try clear c50b0
         try clear c51b0
         try clear c53
         try clear c54
         try clear c67
         try clear hcz57_0
         try clear hcz57_1
         try clear hcz61_0
         try clear hcz61_1
         try clear hcz65_0
         try clear hcz65_1
         try clear hcz72_0
         try clear hcz72_1
         try clear hcz72_2
         try clear hfz57_0
         try clear hfz57_1
         try clear hfz61_0
         try clear hfz61_1
         try clear hfz65_0
         try clear hfz65_1
         try clear hfz72_0
         try clear hfz72_1
         try clear hfz72_2
         try clear hx605_0
         try clear hx605_1
         try clear hx607_0
         try clear hx608_0
         try clear p605
         try clear p607
         try clear p608
         try clear q605
         try clear q607
         try clear q608
         obtain ⟨x14_4,x616002_4,u616002,rfl,HA,HK4,HO_9,HO_616002,BK595,BK596,BK615,HB⟩:=hrel
         cases gk with
         | zero => exact absurd HA.out (by simp [spec_CloseAccounts.l1])
         | succ k4 =>
          have H:=HA.out;clear HA;simp only [spec_CloseAccounts.l1] at H;by_cases c73 : x14_4 < (t602.length : Int)
          ·rw [if_pos c73] at H;have c73b0:=decide_eq_true c73;clear c73;obtain ⟨c74b0,H⟩:=ifYd H;obtain ⟨c75b0,H⟩:=ifYd H;obtain ⟨t624,A76,H⟩:=bdY H;have HC77:=Aside0.mk H;clear H;have hnb78:=NB595_596.out;have hnc78:=NB596_595.out;have hnb79:=NB595_615.out;have hnc79:=NB615_595.out;obtain ⟨hcz80_0,hcz80_1,hfz80_0,hfz80_1⟩:=z2 BK595;have p623 : 0 ≤ (x14_4 : Int):=of_decide_eq_true ZZ853400;have q623 : x14_4 < (l0_0.length : Int):=of_decide_eq_true ZZ853400;obtain ⟨ad623,e623,hx623_0,hx623_1⟩:=at_T48 HR0_0.out x14_4 p623 q623
           cases e623
           replace hx623_0:=(HB.out.cell (World.block_lt_of_cell? w _ hx623_0)).trans hx623_0;replace hx623_1:=(HB.out.cell (World.block_lt_of_cell? w _ hx623_1)).trans hx623_1;replace p623:=eq_true p623;replace q623:=eq_true q623
           go_upto_if 106 with (first | (refine gc 106 Tryd.func70 #[.agg #[.string ((rd_T48 l0_0 x14_4).f0),.int .i64 ((rd_T48 l0_0 x14_4).f1)]] ?_;(with_reducible refine (spec_l26Temporary.calls ((rd_T48 l0_0 x14_4).f0) ((rd_T48 l0_0 x14_4).f1) t624 _ A76.out).mono ?_);rintro e w81 ⟨rfl,hb⟩;refine ⟨_,rfl,?_⟩;replace HO_9:=Aside0.mk (Kd.R_below (zR HO_9) hb);replace HO_616002:=Aside0.mk (Kd.R_below (zR HO_616002) hb);replace BK595:=kb BK595 hb;replace BK596:=kb BK596 hb;replace BK615:=kb BK615 hb;replace HB:=hB hb;(try clear hb);(try clear hb2);(try clear hk);(try clear hi)))
           (try simp only [Act.put,List.setIfInBounds_toArray,List.set_cons_zero,List.set_cons_succ])
           go_cut [15] (fun v15 wc => ∃ (kq : Nat) (x15_76 : Int),v15 = .int .i64 x15_76 ∧ Aside0 (spec_CloseAccounts.j4 kq a1 t602 x10_3 x14_4 x15_76 l0_0 l0_1 a2 (⟨#[99,108,111,115,105,110,103]⟩ : ByteArray) x616002_4 = some (r1,r2,r3)) ∧ Aside0 (kq ≤ k4) ∧ Aside0 (Kd.R (Kd.int .i64) 3 wc w.heap.size (fun _ => True) (.slice Ao68 t602.length co68) t602) ∧ Aside0 (Kd.R k70 70 wc w.heap.size (fun _ => True) u616002 x616002_4) ∧ Aside0 (wc.heap[gb595]? = some (.cells #[(.slice (some ad623) l0_0.length c0_0),(.slice A0_1 l0_1.length c0_1)] 31 (0,0))) ∧ Aside0 (wc.heap[gb596]? = some (.cells #[(.slice none 0 0),(.slice none 0 0)] 31 (0,0))) ∧ Aside0 (wc.heap[gb615]? = some (.cells #[.int .i64 a2,.string (⟨#[99,108,111,115,105,110,103]⟩ : ByteArray),u616002] 63 (0,0))) ∧ Aside0 (Below w.heap.size w wc))
           case first =>
            have H:=HC77.out;clear HC77;by_cases c82 : t624 = true
            ·subst c82;replace H:=ifT H;replace H:=Aside0.mk H;have p625 : 0 ≤ (x14_4 : Int):=of_decide_eq_true ZZ853400;have q625 : x14_4 < (t602.length : Int):=of_decide_eq_true ZZ853400;obtain ⟨ad625,e625,hx625_0⟩:=Kd.at_int (Kd.R_reads' HO_9.out).2.2 x14_4 p625 q625
             cases e625
             replace p625:=eq_true p625;replace q625:=eq_true q625;go_wp2;go_meet
             case rel => exact ⟨_,(wrap64 (-(rd t602 x14_4))),ZZ0ab324,H,kle,⟨(zR HO_9)⟩,⟨(zR HO_616002)⟩,⟨(zB BK595)⟩,⟨(zB BK596)⟩,⟨(zB BK615)⟩,⟨ZZ295621⟩⟩
            replace c82:=Bool.eq_false_iff.mpr c82;subst c82;replace H:=ifF H;replace H:=Aside0.mk H;go_wp2;go_meet
            case rel => exact ⟨_,(0),ZZ0ab324,H,kle,⟨(zR HO_9)⟩,⟨(zR HO_616002)⟩,⟨(zB BK595)⟩,⟨(zB BK596)⟩,⟨(zB BK615)⟩,⟨ZZ295621⟩⟩
           case rest =>
            clear HC77;try clear c73b0
            try clear c74b0
            try clear c75b0
            try clear c82
            try clear hcz80_0
            try clear hcz80_1
            try clear hfz80_0
            try clear hfz80_1
            try clear hx623_0
            try clear hx623_1
            try clear hx625_0
            try clear p623
            try clear p625
            try clear q623
            try clear q625
            obtain ⟨kq,x15_76,rfl,HA,HJ76,HO_9,HO_616002,BK595,BK596,BK615,HB⟩:=hcut
            cases kq with
            | zero => exact absurd HA.out (by simp [spec_CloseAccounts.j4])
            | succ kj76 =>
             have H:=HA.out;clear HA;simp only [spec_CloseAccounts.j4] at H;have HC83:=Aside0.mk H;clear H
             go_upto_if 114 with (fail)
             go_cut [15] (fun v15 wc => ∃ (kq : Nat) (x15_82 : Int),v15 = .int .i64 x15_82 ∧ Aside0 (spec_CloseAccounts.j5 kq a1 t602 x10_3 x14_4 x15_82 l0_0 l0_1 a2 (⟨#[99,108,111,115,105,110,103]⟩ : ByteArray) x616002_4 = some (r1,r2,r3)) ∧ Aside0 (kq ≤ kj76) ∧ Aside0 (Kd.R (Kd.int .i64) 3 wc w.heap.size (fun _ => True) (.slice Ao68 t602.length co68) t602) ∧ Aside0 (Kd.R k70 70 wc w.heap.size (fun _ => True) u616002 x616002_4) ∧ Aside0 (wc.heap[gb595]? = some (.cells #[(.slice (some ad623) l0_0.length c0_0),(.slice A0_1 l0_1.length c0_1)] 31 (0,0))) ∧ Aside0 (wc.heap[gb596]? = some (.cells #[(.slice none 0 0),(.slice none 0 0)] 31 (0,0))) ∧ Aside0 (wc.heap[gb615]? = some (.cells #[.int .i64 a2,.string (⟨#[99,108,111,115,105,110,103]⟩ : ByteArray),u616002] 63 (0,0))) ∧ Aside0 (Below w.heap.size w wc))
             case first =>
              have H:=HC83.out;clear HC83;by_cases c84 : x14_4 = a1
              ·rw [if_pos c84] at H;have c84b0:=beq_iff_eq.mpr c84;have c84b1:=bne_eq_false_iff_eq.mpr c84;clear c84;(first | rw [c84b0] | (simp only [i64_w,i32_w];rw [c84b0]) | skip);replace H:=Aside0.mk H;go_wp2;go_meet
               case rel => exact ⟨_,(x10_3),ZZ0ab324,H,kle,⟨(zR HO_9)⟩,⟨(zR HO_616002)⟩,⟨(zB BK595)⟩,⟨(zB BK596)⟩,⟨(zB BK615)⟩,⟨ZZ295621⟩⟩
              rw [if_neg c84] at H;have c84b0:=beq_eq_false_iff_ne.mpr c84;have c84b1:=bne_iff_ne.mpr c84;(first | rw [c84b0] | (simp only [i64_w,i32_w];rw [c84b0]) | skip);replace H:=Aside0.mk H;go_wp2;go_meet
              case rel => exact ⟨_,(x15_76),ZZ0ab324,H,kle,⟨(zR HO_9)⟩,⟨(zR HO_616002)⟩,⟨(zB BK595)⟩,⟨(zB BK596)⟩,⟨(zB BK615)⟩,⟨ZZ295621⟩⟩
             case rest =>
              clear HC83;try clear c84
              try clear c84b0
              try clear c84b1
              obtain ⟨kq,x15_82,rfl,HA,HJ82,HO_9,HO_616002,BK595,BK596,BK615,HB⟩:=hcut
              cases kq with
              | zero => exact absurd HA.out (by simp [spec_CloseAccounts.j5])
              | succ kj82 =>
               have H:=HA.out;clear HA;simp only [spec_CloseAccounts.j5] at H;by_cases c85 : x15_82 = 0
               ·rw [if_pos c85] at H;have c85b0:=beq_iff_eq.mpr c85;have c85b1:=bne_eq_false_iff_eq.mpr c85;clear c85;replace H:=Aside0.mk H;go_wp2
                go_roundg kj82
                case measure => have:=HJ3.out;have:=HJ32.out;have:=HK3.out;have:=HK4.out;have:=HJ76.out;have:=HJ82.out;omega
                case rel => exact ⟨(wrap64 (x14_4 + 1)),(x616002_4),(u616002),ZZ0ab324,‹_›,kle,⟨(zR HO_9)⟩,⟨(zR HO_616002)⟩,⟨(zB BK595)⟩,⟨(zB BK596)⟩,⟨(zB BK615)⟩,⟨ZZ295621⟩⟩
               rw [if_neg c85] at H;have c85b0:=beq_eq_false_iff_ne.mpr c85;have c85b1:=bne_iff_ne.mpr c85;obtain ⟨c86,H⟩:=ifY H;have LMc86:=Aside0.mk c86;clear c86;try rw [Option.bind_some] at H
               generalize hy626 : (x616002_4 ++ [(⟨x14_4,x15_82⟩ : S70)] : List (S70)) = y626 at H;have Ny626:=Aside0.mk hy626.symm;clear hy626;replace H:=Aside0.mk H;have hnb87:=NB615_595.out;have hnc87:=NB595_615.out;have hnb88:=NB615_596.out;have hnc88:=NB596_615.out;obtain ⟨hcz89_0,hcz89_1,hcz89_2,hfz89_0,hfz89_1,hfz89_2⟩:=z3 BK615;go_wp2_with (first | ((with_reducible refine gate_builtin (b:=.append) (xs:=#[.tmp 119,.tmp 123]) rfl ?_);(try (refine gate_guard (by rfl) ?_;dsimp only));at_builtin;refine Kd.R_append k70 (w0:=w) w.heap.size rfl (.tmp 119) (.tmp 123) 61 70 (.agg #[(.int .i64 0),(.int .i64 0)]) 16 rfl Tryd.underlying61 info70 rfl (by decide) (by omega) u616002 x616002_4 (⟨x14_4,x15_82⟩ : S70) [.int .i64 x14_4,.int .i64 x15_82] (fun _ => True) (fun _ => False) rfl rfl ?aP (fun _ hk => hk.elim) ?aF ?aO ?aB ?aS ?aL ?_;(case aP => exact k70_mkM _ _ _ (⟨x14_4,x15_82⟩ : S70));(case aB => exact ZZ295621);(case aF => exact (fun _ _ => trivial));(case aO => exact (zR HO_616002));(case aS => exact (below_size ZZ295621));(case aL => have:=LMc86.out;omega);intro v627 w90 ho hb hg hat;rw [← Ny626.out] at ho;replace HO_9:=Aside0.mk (Kd.R_over' (zR HO_9) (Kd.R_typed (zR HO_616002)) (by decide) hg);replace BK595:=Aside0.mk (blk_grown (zB BK595) hg (Kd.R_ne HO_616002.out BK595.out (by decide)));replace BK596:=Aside0.mk (blk_grown (zB BK596) hg (Kd.R_ne HO_616002.out BK596.out (by decide)));replace BK615:=Aside0.mk (blk_grown (zB BK615) hg (Kd.R_ne HO_616002.out BK615.out (by decide)));replace HB:=Aside0.mk (hb);have HO628:=Aside0.mk (ho);clear HO_616002;clear ho hb hg hat;obtain ⟨Ao91,co91,eo91⟩:=Kd.R_slice HO628.out;subst eo91;obtain ⟨hcz92_0,hcz92_1,hcz92_2,hfz92_0,hfz92_1,hfz92_2⟩:=z3 BK615))
               go_roundg kj82
               case measure => have:=HJ3.out;have:=HJ32.out;have:=HK3.out;have:=HK4.out;have:=HJ76.out;have:=HJ82.out;omega
               case rel => exact ⟨(wrap64 (x14_4 + 1)),(y626),(.slice Ao91 y626.length co91),ZZ0ab324,‹_›,kle,⟨(by refine bR ?_;exact Kd.R_mono (Kd.R_far (p:=⟨gb615,2,none⟩) (Kd.R_types HO_9.out BK615.out (by decide)) (fun _ hk => hk.2) (.slice Ao91 y626.length co91)) (fun _ hk => trivial))⟩,⟨(by refine bR ?_;exact Kd.R_mono (Kd.R_far (p:=⟨gb615,2,none⟩) (Kd.R_types HO628.out BK615.out (by decide)) (fun _ hk => hk.2) (.slice Ao91 y626.length co91)) (fun _ hk => trivial))⟩,⟨(by refine bd ?_;refine blk_far ?_ NB595_615.out _;refine bd ?_;exact BK595.out)⟩,⟨(by refine bd ?_;refine blk_far ?_ NB596_615.out _;refine bd ?_;exact BK596.out)⟩,⟨(by refine bd ?_;refine blk_put (cs:=#[.int .i64 a2,.string (⟨#[99,108,111,115,105,110,103]⟩ : ByteArray),u616002]) ?_ 2 _ rfl;refine bd ?_;exact BK615.out)⟩,⟨ZZ295621⟩⟩
          rw [if_neg c73] at H;have c73b0:=decide_eq_false c73;clear c73;obtain ⟨⟨t616,t619,t622⟩,A93,H⟩:=bdY H;try dsimp only at H
          simp only [Option.some.injEq,Prod.mk.injEq] at H;obtain ⟨rfl,rfl,rfl⟩:=H;have hnb94:=NB595_596.out;have hnc94:=NB596_595.out;have hnb95:=NB595_615.out;have hnc95:=NB615_595.out;obtain ⟨hcz96_0,hcz96_1,hfz96_0,hfz96_1⟩:=z2 BK595;have hnb97:=NB615_596.out;have hnc97:=NB596_615.out;obtain ⟨hcz98_0,hcz98_1,hcz98_2,hfz98_0,hfz98_1,hfz98_2⟩:=z3 BK615;obtain ⟨Ao99,co99,eo99⟩:=Kd.R_slice HO_616002.out;subst eo99;go_wp2_with (first | (refine gc 128 Tryd.func78 #[.agg #[.slice A0_0 l0_0.length c0_0,.slice A0_1 l0_1.length c0_1],.agg #[.int .i64 a2,.string (⟨#[99,108,111,115,105,110,103]⟩ : ByteArray),.slice Ao99 x616002_4.length co99]] ?_;(with_reducible refine (spec_l26Post.calls k4 _ _ l0_0 _ _ l0_1 a2 (⟨#[99,108,111,115,105,110,103]⟩ : ByteArray) _ _ x616002_4 t616 t619 t622 _ ?side1 ?side2 ?side3 ?side4 ?side5 ?side6 A93.out).mono ?_);(case side1 => exact (rC (Kd.C_below HR0_0.out HB.out)));(case side2 => exact HC0_0.out);(case side3 => exact (rC (Kd.C_below HR0_1.out HB.out)));(case side4 => exact HC0_1.out);(case side5 => exact rC (Kd.R_reads' HO_616002.out).2.2);(case side6 => exact (Kd.R_reads' HO_616002.out).2.1);rintro e w100 ⟨v617,v620,rfl,ho0,ho1,hb⟩;refine ⟨_,rfl,?_⟩;replace HO_9:=Aside0.mk (Kd.R_below (zR HO_9) hb);have HO618:=Aside0.mk (Kd.R_lower ho0 (below_size ZZ295621));have HO621:=Aside0.mk (Kd.S_lower (Kd.S_newB (Kd.S_new' ho1 (Kd.R_lt (zR HO_616002))) (zB BK615)) (below_size ZZ295621));replace HO_616002:=Aside0.mk (Kd.R_below (zR HO_616002) hb);replace BK595:=kb BK595 hb;replace BK596:=kb BK596 hb;replace BK615:=kb BK615 hb;replace HB:=hB hb;(try clear hb);(try clear hb2);(try clear hk);(try clear hi);(try clear ho0);(try clear ho1);obtain ⟨Ao101,co101,eo101⟩:=Kd.R_slice HO618.out;subst eo101;obtain ⟨hcz102_0,hcz102_1,hfz102_0,hfz102_1⟩:=z2 BK596;obtain ⟨Ao103,co103,eo103⟩:=Kd.S_slice HO621.out;subst eo103))
          refine bodyPost_ret (results_ct rfl _ _ gb596 31 #[.slice Ao101 t616.length co101,.slice Ao103 t619.length co103] (0,0) _ rfl (by refine bd ?_;refine blk_put (cs:=#[.slice Ao101 t616.length co101,.slice none 0 0]) ?_ 1 _ rfl;refine bd ?_;refine blk_put (cs:=#[.slice none 0 0,.slice none 0 0]) ?_ 0 _ rfl;refine bd ?_;exact BK596.out) Tryd.underlying31 rfl (by kernel_rfl)) rfl ?_;exact ⟨_,_,ZZab01d2,(by refine bR ?_;exact Kd.R_mono (Kd.R_far (p:=⟨gb596,1,none⟩) (Kd.R_far (p:=⟨gb596,0,none⟩) (Kd.R_types HO618.out BK596.out (by decide)) (fun _ hk => hk.2) (.slice Ao101 t616.length co101)) (fun _ hk => hk.2) (.slice Ao103 t619.length co103)) (fun _ hk => trivial)),(by refine bS ?_;exact Kd.S_mono (Kd.S_far (p:=⟨gb596,1,none⟩) (Kd.S_far (p:=⟨gb596,0,none⟩) (Kd.S_types HO621.out BK596.out (by decide)) (fun _ hk => hk.2) (.slice Ao101 t616.length co101)) (fun _ hk => hk.2) (.slice Ao103 t619.length co103)) (fun _ hk => trivial)),ZZ295621⟩
       replace c67:=Bool.eq_false_iff.mpr c67;subst c67;replace H:=ifF H;obtain ⟨⟨t609,t612⟩,A104,H⟩:=bdY H;try dsimp only at H
       simp only [Option.some.injEq,Prod.mk.injEq] at H;obtain ⟨rfl,rfl,rfl⟩:=H;obtain ⟨Ao105,co105,eo105⟩:=Kd.R_slice HO_9.out;subst eo105;have hnb106:=NB595_596.out;have hnc106:=NB596_595.out;obtain ⟨hcz107_0,hcz107_1,hfz107_0,hfz107_1⟩:=z2 BK595;go_wp2_with (first | (refine gc 92 Tryd.func77 #[.agg #[.slice A0_0 l0_0.length c0_0,.slice A0_1 l0_1.length c0_1]] ?_;(with_reducible refine (spec_l26Own.calls k3 _ _ l0_0 _ _ l0_1 t609 t612 _ ?side1 ?side2 ?side3 ?side4 A104.out).mono ?_);(case side1 => exact (rC (Kd.C_below HR0_0.out HB.out)));(case side2 => exact HC0_0.out);(case side3 => exact (rC (Kd.C_below HR0_1.out HB.out)));(case side4 => exact HC0_1.out);rintro e w108 ⟨v610,v613,rfl,ho0,ho1,hb⟩;refine ⟨_,rfl,?_⟩;replace HO_9:=Aside0.mk (Kd.R_below (zR HO_9) hb);have HO611:=Aside0.mk (Kd.R_lower ho0 (below_size ZZ295621));have HO614:=Aside0.mk (Kd.S_lower ho1 (below_size ZZ295621));replace BK595:=kb BK595 hb;replace BK596:=kb BK596 hb;replace HB:=hB hb;(try clear hb);(try clear hb2);(try clear hk);(try clear hi);(try clear ho0);(try clear ho1);obtain ⟨Ao109,co109,eo109⟩:=Kd.R_slice HO611.out;subst eo109;obtain ⟨hcz110_0,hcz110_1,hfz110_0,hfz110_1⟩:=z2 BK596;obtain ⟨Ao111,co111,eo111⟩:=Kd.S_slice HO614.out;subst eo111))
       refine bodyPost_ret (results_ct rfl _ _ gb596 31 #[.slice Ao109 t609.length co109,.slice Ao111 t612.length co111] (0,0) _ rfl (by refine bd ?_;refine blk_put (cs:=#[.slice Ao109 t609.length co109,.slice none 0 0]) ?_ 1 _ rfl;refine bd ?_;refine blk_put (cs:=#[.slice none 0 0,.slice none 0 0]) ?_ 0 _ rfl;refine bd ?_;exact BK596.out) Tryd.underlying31 rfl (by kernel_rfl)) rfl ?_;exact ⟨_,_,ZZab01d2,(by refine bR ?_;exact Kd.R_mono (Kd.R_far (p:=⟨gb596,1,none⟩) (Kd.R_far (p:=⟨gb596,0,none⟩) (Kd.R_types HO611.out BK596.out (by decide)) (fun _ hk => hk.2) (.slice Ao109 t609.length co109)) (fun _ hk => hk.2) (.slice Ao111 t612.length co111)) (fun _ hk => trivial)),(by refine bS ?_;exact Kd.S_mono (Kd.S_far (p:=⟨gb596,1,none⟩) (Kd.S_far (p:=⟨gb596,0,none⟩) (Kd.S_types HO614.out BK596.out (by decide)) (fun _ hk => hk.2) (.slice Ao109 t609.length co109)) (fun _ hk => hk.2) (.slice Ao111 t612.length co111)) (fun _ hk => trivial)),ZZ295621⟩
end Go.Proofs.YtccdjchaaeligaaDoor.XFnClosing

import Derived.Test.YtccdjchaaeligaaDoorXFnClosing2
import Derived.Test.YtccdjchaaeligaaDoorXFnClosing1
import Derived.Test.YtccdjchaaeligaaDoorXFnClosing0
namespace Go.Proofs.YtccdjchaaeligaaDoor.XFnClosing
open Go.Proofs.YtccdjchaaeligaaDoor.Short Go.RowKit Go.Proofs.YtccdjchaaeligaaDoorW.PrintWords Go.Proofs.YtccdjchaaeligaaDoorW.PrintLast Go.Proofs.YtccdjchaaeligaaDoorW.PrintMore
attribute [local go_sem] max2_int min2_int max_two min_two max_three min_three max_four min_four
set_option linter.unusedVariables false
set_option linter.unusedSimpArgs false
mutual
def spec_l26Balances.l0 : Nat → Int → List Int → Int → List (S48) → List (S63) → Option (List Int)
 | 0,_,_,_,_,_ => none
 | k + 1,x1,x5,x6,x584000,x584001 => if x6 < (x584001.length : Int) then (spec_l26Balances.l1 k x1 x5 x6 0 x584000 x584001) else (some x5)
def spec_l26Balances.l1 : Nat → Int → List Int → Int → Int → List (S48) → List (S63) → Option (List Int)
 | 0,_,_,_,_,_,_ => none
 | k + 1,x1,x5,x6,x7,x584000,x584001 => if 0 ≤ x6 then (if x6 < (x584001.length : Int) then (if x7 < (((rd_T63 x584001 x6).f2).length : Int) then (if ((rd_T63 x584001 x6).f0) ≤ x1 then (if 0 ≤ x7 then (if 0 ≤ ((rd_T70 ((rd_T63 x584001 x6).f2) x7).f0) then (if ((rd_T70 ((rd_T63 x584001 x6).f2) x7).f0) < (x5.length : Int) then (spec_l26Balances.l1 k x1 (x5.set (((rd_T70 ((rd_T63 x584001 x6).f2) x7).f0) : Int).toNat (wrap64 ((rd x5 ((rd_T70 ((rd_T63 x584001 x6).f2) x7).f0)) + ((rd_T70 ((rd_T63 x584001 x6).f2) x7).f1)))) x6 (wrap64 (x7 + 1)) x584000 x584001) else (none)) else (none)) else (none)) else (spec_l26Balances.l0 k x1 x5 (wrap64 (x6 + 1)) x584000 x584001)) else (spec_l26Balances.l0 k x1 x5 (wrap64 (x6 + 1)) x584000 x584001)) else (none)) else (none)
end
def spec_l26Balances.f (k : Nat) (l0_0 : List (S48)) (l0_1 : List (S63)) (a1 : Int) : Option (List Int):=if 0 ≤ (l0_0.length : Int) then (if ((l0_0.length : Int) : Int).toNat ≤ 35184372088832 then (spec_l26Balances.l0 k a1 (List.replicate ((l0_0.length : Int) : Int).toNat 0) 0 l0_0 l0_1) else (none)) else (none)
theorem spec_l26Balances.mono_l : ∀ k,(∀ y0 y1 y2 y3 y4,LeO (spec_l26Balances.l0 k y0 y1 y2 y3 y4) (spec_l26Balances.l0 (k + 1) y0 y1 y2 y3 y4)) ∧ (∀ y0 y1 y2 y3 y4 y5,LeO (spec_l26Balances.l1 k y0 y1 y2 y3 y4 y5) (spec_l26Balances.l1 (k + 1) y0 y1 y2 y3 y4 y5))
 | 0 => ⟨fun _ _ _ _ _ r h => by simp [spec_l26Balances.l0] at h,fun _ _ _ _ _ _ r h => by simp [spec_l26Balances.l1] at h⟩
 | k + 1 => by
  obtain ⟨ih0,ih1⟩:=spec_l26Balances.mono_l k;refine ⟨?_,?_⟩;all_goals intros
  all_goals (first | unfold spec_l26Balances.l0 | unfold spec_l26Balances.l1)
  all_goals
   repeat' with_reducible first | apply ih0 | apply ih1 | exact LeO.refl _ | exact LeO.none _ | refine LeO.ite ?_ ?_ | refine LeO.bind ?_ (fun _ => ?_)
theorem spec_l26Balances.mono : ∀ a0 a1 a2 k,LeO (spec_l26Balances.f k a0 a1 a2) (spec_l26Balances.f (k + 1) a0 a1 a2):=by
 intro a0 a1 a2 k;obtain ⟨ih0,ih1⟩:=spec_l26Balances.mono_l k;unfold spec_l26Balances.f;repeat' with_reducible first | apply ih0 | apply ih1 | exact LeO.refl _ | exact LeO.none _ | refine LeO.ite ?_ ?_ | refine LeO.bind ?_ (fun _ => ?_)
def spec_l26Balances.T9 : Bool × List (List Nat × List Nat):=(true,[([],[]),([],[]),([1],[1]),([],[]),([],[]),([4],[4]),([3,5],[3,5]),([6],[6]),([],[]),([8],[8]),([7,9],[7,9]),([0,2,0,1,2,3,4,5,6,7,8,9,10],[0,2]),([11,10,0,1,2,3,4,5,6,7,8,9,10],[10,11])])
def spec_l26Balances.B9 : List Nat:=[0,0,2,0,0,16,56,120,0,256,1016,2047,4095]
theorem spec_l26Balances.tab9 : rtab .any (opsOf Tryd.f67 9) = spec_l26Balances.T9:=by kernel_rfl
theorem spec_l26Balances.bits9 : waitsOk spec_l26Balances.T9.2 spec_l26Balances.B9 = true:=by kernel_rfl
set_option maxHeartbeats 8000000 in
set_option maxRecDepth 100000 in
theorem spec_l26Balances.calls (k : Nat) (A0_0 : Option Addr) (c0_0 : Nat) (l0_0 : List (S48)) (A0_1 : Option Addr) (c0_1 : Nat) (l0_1 : List (S63)) (a1 : Int) (r : List Int) (w : World) (hr0_0 : Kd.C k48 w A0_0 l0_0.length l0_0) (hc0_0 : l0_0.length ≤ c0_0) (hr0_1 : Kd.C k63 w A0_1 l0_1.length l0_1) (hc0_1 : l0_1.length ≤ c0_1) (h : spec_l26Balances.f k l0_0 l0_1 a1 = some r) :
 Calls Tryd.prog 67 #[.agg #[.slice A0_0 l0_0.length c0_0,.slice A0_1 l0_1.length c0_1],.int .i64 a1] w fun e w' => ∃ v0_ : Value,e = .returned (v0_) ∧ Kd.R (Kd.int .i64) 3 w' w.heap.size (fun _ => True) v0_ r ∧ Below w.heap.size w w':=by
 have hu31:=Tryd.underlying31;have hu70:=Tryd.underlying70;have HR0_0:=Aside0.mk hr0_0;have HC0_0:=Aside0.mk hc0_0;clear hr0_0 hc0_0;have HR0_1:=Aside0.mk hr0_1;have HC0_1:=Aside0.mk hc0_1;clear hr0_1 hc0_1;have HB:=Aside0.mk (Below.refl w.heap.size w);have H:=h;clear h;unfold spec_l26Balances.f at H;obtain ⟨c3b0,c3b1,H⟩:=ifYe H;obtain ⟨c4b0,c4b1,H⟩:=ifYe H;try rw [Option.bind_some] at H
 generalize hy584 : (List.replicate ((l0_0.length : Int) : Int).toNat 0 : List Int) = y584 at H;have Ny584:=Aside0.mk hy584.symm;clear hy584;replace H:=Aside0.mk H
 go_enter Tryd.func67,Tryd.ntmps67
 go_wp2_with (first | ((with_reducible refine gate_dst (N:=2) rfl ?_);refine bx 2 (cs:=#[.slice A0_0 l0_0.length c0_0,.slice A0_1 l0_1.length c0_1]) (t:=31) ?_;intro gb583 hg w5 hbox hb;have BK583:=Aside0.mk (hbox);have GW583:=gw hg;have GE583:=gw hg;replace HB:=hB hb;clear hb hbox hg;obtain ⟨hcz6_0,hcz6_1,hfz6_0,hfz6_1⟩:=z2 BK583) | ((with_reducible refine gate_dst (N:=12) rfl ?_);refine Kd.R_make (Kd.int .i64) _ 3 rfl (N:=12) rfl 44 _ _ rfl (l0_0.length : Int) rfl rfl Tryd.underlying44 (.int .i64 0) 8 info3 rfl (by decide) (by omega) 0 (ok:=fun _ => True) (okp:=fun _ => True) rfl (fun _ hk => hk) trivial (of_decide_eq_true ZZ853400) (Nat.le_trans (Nat.mul_le_mul_right _ (of_decide_eq_true ZZ853400 : (l0_0.length : Int).toNat ≤ 35184372088832)) (by omega)) (Below.refl _ _) (Nat.le_refl _) ?_;intro v585 w7 ho8 hb hg_ hnew_;clear hg_ hnew_;(first | rw [← Ny584.out] at ho8 | (simp only [Int.reduceToNat] at ho8;rw [← Ny584.out] at ho8));have HO586:=Aside0.mk (Kd.R_lower ho8 (below_size ZZ295621));replace BK583:=kb BK583 hb;replace HB:=hB hb;clear hb ho8))
 go_loopg [6] k (fun kq v6 w' => ∃ (x5_1 : List Int) (x6_1 : Int),v6 = .int .i64 x6_1 ∧ Aside0 (spec_l26Balances.l0 kq a1 x5_1 x6_1 l0_0 l0_1 = some r) ∧ Aside0 (kq ≤ k) ∧ Aside0 (Kd.R (Kd.int .i64) 3 w' w.heap.size (fun _ => True) v585 x5_1) ∧ Aside0 (w'.heap[gb583]? = some (.cells #[(.slice A0_0 l0_0.length c0_0),(.slice A0_1 l0_1.length c0_1)] 31 (0,0))) ∧ Aside0 (Below w.heap.size w w'))
 case atStart => exact ⟨(y584),(0),ZZ0ab324,H,⟨Nat.le_refl _⟩,⟨(zR HO586)⟩,⟨(zB BK583)⟩,⟨ZZ295621⟩⟩
 case round =>
  clear H;try clear c3b0
  try clear c3b1
  try clear c4b0
  try clear c4b1
  try clear hcz6_0
  try clear hcz6_1
  try clear hfz6_0
  try clear hfz6_1
  obtain ⟨x5_1,x6_1,rfl,HA,HK1,HO_5,BK583,HB⟩:=hrel
  cases gk with
  | zero => exact absurd HA.out (by simp [spec_l26Balances.l0])
  | succ k1 =>
   have H:=HA.out;clear HA;simp only [spec_l26Balances.l0] at H;by_cases c9 : x6_1 < (l0_1.length : Int)
   ·rw [if_pos c9] at H;have c9b0:=decide_eq_true c9;clear c9;replace H:=Aside0.mk H;obtain ⟨hcz10_0,hcz10_1,hfz10_0,hfz10_1⟩:=z2 BK583;go_wp2
    go_loopg [7] k1 (fun kq v7 w' => ∃ (x5_2 : List Int) (x7_2 : Int),v7 = .int .i64 x7_2 ∧ Aside0 (spec_l26Balances.l1 kq a1 x5_2 x6_1 x7_2 l0_0 l0_1 = some r) ∧ Aside0 (kq ≤ k1) ∧ Aside0 (Kd.R (Kd.int .i64) 3 w' w.heap.size (fun _ => True) v585 x5_2) ∧ Aside0 (w'.heap[gb583]? = some (.cells #[(.slice A0_0 l0_0.length c0_0),(.slice A0_1 l0_1.length c0_1)] 31 (0,0))) ∧ Aside0 (Below w.heap.size w w'))
    case atStart => exact ⟨(x5_1),(0),ZZ0ab324,H,⟨Nat.le_refl _⟩,⟨(zR HO_5)⟩,⟨(zB BK583)⟩,⟨ZZ295621⟩⟩
    case round =>
     clear H;try clear c9b0
     try clear hcz10_0
     try clear hcz10_1
     try clear hfz10_0
     try clear hfz10_1
     obtain ⟨x5_2,x7_2,rfl,HA,HK2,HO_5,BK583,HB⟩:=hrel
     cases gk with
     | zero => exact absurd HA.out (by simp [spec_l26Balances.l1])
     | succ k2 =>
      have H:=HA.out;clear HA;simp only [spec_l26Balances.l1] at H;obtain ⟨c11b0,H⟩:=ifYd H;obtain ⟨c12b0,H⟩:=ifYd H;by_cases c13 : x7_2 < (((rd_T63 l0_1 x6_1).f2).length : Int)
      ·rw [if_pos c13] at H;have c13b0:=decide_eq_true c13;clear c13;by_cases c14 : ((rd_T63 l0_1 x6_1).f0) ≤ a1
       ·rw [if_pos c14] at H;have c14b0:=decide_eq_true c14;clear c14;obtain ⟨c15b0,H⟩:=ifYd H;obtain ⟨c16b0,H⟩:=ifYd H;obtain ⟨c17b0,H⟩:=ifYd H;try rw [Option.bind_some] at H
        generalize hy593 : (x5_2.set (((rd_T70 ((rd_T63 l0_1 x6_1).f2) x7_2).f0) : Int).toNat (wrap64 ((rd x5_2 ((rd_T70 ((rd_T63 l0_1 x6_1).f2) x7_2).f0)) + ((rd_T70 ((rd_T63 l0_1 x6_1).f2) x7_2).f1))) : List Int) = y593 at H;have Ny593:=Aside0.mk hy593.symm;clear hy593;replace H:=Aside0.mk H;obtain ⟨hcz19_0,hcz19_1,hfz19_0,hfz19_1⟩:=z2 BK583;have p587 : 0 ≤ (x6_1 : Int):=of_decide_eq_true ZZ853400;have q587 : x6_1 < (l0_1.length : Int):=of_decide_eq_true ZZ853400;obtain ⟨ad587,A587_2,c587_2,e587,hx587_0,hx587_1,hx587_2,hl587_2,hi587_2⟩:=at_T63 HR0_1.out x6_1 p587 q587
        cases e587
        replace hx587_0:=(HB.out.cell (World.block_lt_of_cell? w _ hx587_0)).trans hx587_0;replace hx587_1:=(HB.out.cell (World.block_lt_of_cell? w _ hx587_1)).trans hx587_1;replace hx587_2:=(HB.out.cell (World.block_lt_of_cell? w _ hx587_2)).trans hx587_2;have HR587_2:=Aside0.mk hi587_2;have HC587_2:=Aside0.mk hl587_2;clear hi587_2 hl587_2;replace p587:=eq_true p587;replace q587:=eq_true q587;have p588 : 0 ≤ (x6_1 : Int):=of_decide_eq_true ZZ853400;have q588 : x6_1 < (l0_1.length : Int):=of_decide_eq_true ZZ853400;try clear hx587_0
        try clear hx587_1
        obtain ⟨ad588,A588_2,c588_2,e588,hx588_0,hx588_1,hx588_2,hl588_2,hi588_2⟩:=at_T63 HR0_1.out x6_1 p588 q588;obtain rfl : ad587 = ad588:=(by injection e588);replace hx588_0:=(HB.out.cell (World.block_lt_of_cell? w _ hx588_0)).trans hx588_0;replace hx588_1:=(HB.out.cell (World.block_lt_of_cell? w _ hx588_1)).trans hx588_1;replace hx588_2:=(HB.out.cell (World.block_lt_of_cell? w _ hx588_2)).trans hx588_2;have HR588_2:=Aside0.mk hi588_2;have HC588_2:=Aside0.mk hl588_2;clear hi588_2 hl588_2;replace p588:=eq_true p588;replace q588:=eq_true q588;have ea_:=Option.some.inj (hx587_2.symm.trans hx588_2)
        injection ea_ with ea_ en_ ec_
        subst ea_;subst ec_;clear en_;have p589 : 0 ≤ (x6_1 : Int):=of_decide_eq_true ZZ853400;have q589 : x6_1 < (l0_1.length : Int):=of_decide_eq_true ZZ853400;try clear hx588_0
        try clear hx588_1
        try clear hx588_2
        obtain ⟨ad589,A589_2,c589_2,e589,hx589_0,hx589_1,hx589_2,hl589_2,hi589_2⟩:=at_T63 HR0_1.out x6_1 p589 q589;obtain rfl : ad587 = ad589:=(by injection e589);replace hx589_0:=(HB.out.cell (World.block_lt_of_cell? w _ hx589_0)).trans hx589_0;replace hx589_1:=(HB.out.cell (World.block_lt_of_cell? w _ hx589_1)).trans hx589_1;replace hx589_2:=(HB.out.cell (World.block_lt_of_cell? w _ hx589_2)).trans hx589_2;have HR589_2:=Aside0.mk hi589_2;have HC589_2:=Aside0.mk hl589_2;clear hi589_2 hl589_2;replace p589:=eq_true p589;replace q589:=eq_true q589;have ea_:=Option.some.inj (hx587_2.symm.trans hx589_2)
        injection ea_ with ea_ en_ ec_
        subst ea_;subst ec_;clear en_;have p590 : 0 ≤ (x7_2 : Int):=of_decide_eq_true ZZ853400;have q590 : x7_2 < (((rd_T63 l0_1 x6_1).f2).length : Int):=of_decide_eq_true ZZ853400;obtain ⟨ad590,e590,hx590_0,hx590_1⟩:=at_T70 HR589_2.out x7_2 p590 q590
        cases e590
        replace hx590_0:=(HB.out.cell (World.block_lt_of_cell? w _ hx590_0)).trans hx590_0;replace hx590_1:=(HB.out.cell (World.block_lt_of_cell? w _ hx590_1)).trans hx590_1;replace p590:=eq_true p590;replace q590:=eq_true q590;try go_wp2_with (first | ((with_reducible refine gate_dst (N:=8) rfl ?_);refine bx 8 (cs:=#[.int .i64 0,.int .i64 0]) (t:=70) ?_;intro gb591 hg w20 hbox hb;replace HO_5:=Aside0.mk (Kd.R_below (zR HO_5) hb);have BK591:=Aside0.mk (hbox);have GW591:=gw hg;have GE591:=gw hg;replace HB:=hB hb;have NB583_591:=nl hg BK583;have NB591_583:=ng hg BK583;replace BK583:=kb BK583 hb;clear hb hbox hg;have hnb21:=NB591_583.out;have hnc21:=NB583_591.out;obtain ⟨hcz22_0,hcz22_1,hfz22_0,hfz22_1⟩:=z2 BK591))
        generalize hw_ : ((w20.setCell ⟨gb591,0,none⟩ (.int .i64 ((rd_T70 ((rd_T63 l0_1 x6_1).f2) x7_2).f0))).setCell ⟨gb591,1,none⟩ (.int .i64 ((rd_T70 ((rd_T63 l0_1 x6_1).f2) x7_2).f1))) = w23;replace HO_5 : Aside0 (Kd.R (Kd.int .i64) 3 w23 w.heap.size (fun _ => True) v585 x5_2):=⟨(by subst hw_;refine bR ?_;exact Kd.R_mono (Kd.R_far (p:=⟨gb591,1,none⟩) (Kd.R_far (p:=⟨gb591,0,none⟩) (Kd.R_types HO_5.out BK591.out (by decide)) (fun _ hk => hk.2) (.int .i64 ((rd_T70 ((rd_T63 l0_1 x6_1).f2) x7_2).f0))) (fun _ hk => hk.2) (.int .i64 ((rd_T70 ((rd_T63 l0_1 x6_1).f2) x7_2).f1))) (fun _ hk => trivial))⟩;replace BK583 : Aside0 (w23.heap[gb583]? = some (.cells #[.slice A0_0 l0_0.length c0_0,.slice (some ad587) l0_1.length c0_1] 31 (0,0))):=⟨(by subst hw_;refine bd ?_;refine blk_far ?_ NB583_591.out _;refine bd ?_;refine blk_far ?_ NB583_591.out _;refine bd ?_;exact BK583.out)⟩;replace BK591 : Aside0 (w23.heap[gb591]? = some (.cells #[.int .i64 ((rd_T70 ((rd_T63 l0_1 x6_1).f2) x7_2).f0),.int .i64 ((rd_T70 ((rd_T63 l0_1 x6_1).f2) x7_2).f1)] 70 (0,0))):=⟨(by subst hw_;refine bd ?_;refine blk_put (cs:=#[.int .i64 ((rd_T70 ((rd_T63 l0_1 x6_1).f2) x7_2).f0),.int .i64 0]) ?_ 1 _ rfl;refine bd ?_;refine blk_put (cs:=#[.int .i64 0,.int .i64 0]) ?_ 0 _ rfl;refine bd ?_;exact BK591.out)⟩;replace HB : Aside0 (Below w.heap.size w w23):=⟨ZZ0d0602⟩;clear hw_;replace HO_5:=Aside0.mk (Kd.R_drew HO_5.out);replace BK583:=Aside0.mk (blk_drew BK583.out);replace BK591:=Aside0.mk (blk_drew BK591.out);replace HB:=Aside0.mk (below_drew1 HB.out);obtain ⟨Ao25,co25,eo25⟩:=Kd.R_slice HO_5.out;(first | subst eo25 | (injection eo25 with f1_ f2_ f3_;have f4_:=f1_.symm;have f5_:=f3_.symm;clear f1_ f2_ f3_;subst f4_;subst f5_));have p592 : 0 ≤ (((rd_T70 ((rd_T63 l0_1 x6_1).f2) x7_2).f0) : Int):=of_decide_eq_true ZZ853400;have q592 : ((rd_T70 ((rd_T63 l0_1 x6_1).f2) x7_2).f0) < (x5_2.length : Int):=of_decide_eq_true ZZ853400;obtain ⟨ad592,e592,hx592_0⟩:=Kd.at_int (Kd.R_reads' HO_5.out).2.2 ((rd_T70 ((rd_T63 l0_1 x6_1).f2) x7_2).f0) p592 q592
        cases e592
        replace p592:=eq_true p592;replace q592:=eq_true q592;have p18 : 0 ≤ (((rd_T70 ((rd_T63 l0_1 x6_1).f2) x7_2).f0) : Int):=of_decide_eq_true ZZ853400;have q18 : (((rd_T70 ((rd_T63 l0_1 x6_1).f2) x7_2).f0) : Int) < ((x5_2.length : Int) : Int):=of_decide_eq_true ZZ853400;obtain ⟨go18,co18,eo18,gb18,gl18,cl18,HG18⟩:=Kd.R_form HO_5.out (by omega);(first | cases eo18 | (injection eo18 with ea_ en_ ec_;(first | subst ea_ | (injection ea_ with ea_;subst ea_));subst ec_;clear en_));have GB18:=Aside0.mk gb18;have GG18:=Aside0.mk HG18;clear gb18 gl18 HG18;(first | simp only [add_plain] at hx592_0 | skip);obtain ⟨hx18_0,hf18_0⟩:=Kd.R_celln 0 HO_5.out (((rd_T70 ((rd_T63 l0_1 x6_1).f2) x7_2).f0) : Int) p18 q18;replace p18:=eq_true p18;replace q18:=eq_true q18;have HP26:=Kd.R_putn HO_5.out (((rd_T70 ((rd_T63 l0_1 x6_1).f2) x7_2).f0) : Int) (wrap64 ((rd x5_2 ((rd_T70 ((rd_T63 l0_1 x6_1).f2) x7_2).f0)) + ((rd_T70 ((rd_T63 l0_1 x6_1).f2) x7_2).f1)));rw [← Ny593.out] at HP26;have HQ26:=Aside0.mk HP26;clear HP26;refine start_ (n:=13) (S:=fun w' => w'.cell? ⟨gb591,0,none⟩ = some (.int .i64 ((rd_T70 ((rd_T63 l0_1 x6_1).f2) x7_2).f0)) ∧ w'.cell? ⟨gb591,1,none⟩ = some (.int .i64 ((rd_T70 ((rd_T63 l0_1 x6_1).f2) x7_2).f1)) ∧ w'.cell? ⟨go18,(((rd_T70 ((rd_T63 l0_1 x6_1).f2) x7_2).f0)).toNat,none⟩ = some (.int .i64 (rd x5_2 ((rd_T70 ((rd_T63 l0_1 x6_1).f2) x7_2).f0)))) (ds:=[12]) #[false,false,false,false,false,false,false,false,false,false,false,false,false] (by kernel_rfl) rfl rfl ⟨(blk_cell BK591.out 0).trans rfl,(blk_cell BK591.out 1).trans rfl,hx592_0⟩ (fun hHeld => ?_);refine with_tabW spec_l26Balances.tab9 spec_l26Balances.bits9 (fun HT_ HW_ => ?_)
        generalize w23.drew = w24 at HO_5 BK583 BK591 HB GG18 HQ26 hf18_0 hx18_0 hx592_0 hHeld ⊢;refine pu 0 50 ?_;refine pu 1 51 ?_;refine pu 3 53 ?_;refine pu 4 54 ?_;refine pu 8 58 ?_;refine tk 2 52 ?_;refine tk 5 55 ?_;refine pu 6 56 ?_;refine tk 7 57 ?_;refine tk 9 59 ?_;refine pu 10 60 ?_;refine pu 11 61 ?_;refine last_ (i:=12) (N:=none) #[true,true,true,true,true,true,true,true,true,true,true,true,true] rfl rfl (one_of HT_.out (by kernel_rfl)) (by decide) (fun K hK => ?_);refine skip_ (w1:=?_) (by rfl) rfl ?_ ?_;rotate_left
        ·go_simp;rfl
        refine hK.out _ _ ?_;clear hK K;refine done_ (done_of HT_.out (by kernel_rfl)) ?_;try go_wp2
        go_roundg k2
        case measure => have:=HK1.out;have:=HK2.out;omega
        case rel => exact ⟨(y593),(wrap64 (x7_2 + 1)),ZZ0ab324,H,kle,⟨(by refine bR ?_;exact HQ26.out)⟩,⟨(by refine bd ?_;refine blk_far ?_ (by have h_:=Kd.R_ne HO_5.out BK583.out (by decide);intro e_;exact h_ (by rw [e_];rfl)) _;refine bd ?_;exact BK583.out)⟩,⟨(by repeat (first | (with_reducible first | exact HB.out | apply below_alloc | apply pw_below_drewN | apply below_drew1 | refine below_set ?_ GB18.out | refine below_set ?_ GE583.out | refine below_set ?_ GE591.out) | exact HB.out))⟩⟩
       rw [if_neg c14] at H;have c14b0:=decide_eq_false c14;clear c14;replace H:=Aside0.mk H;obtain ⟨hcz27_0,hcz27_1,hfz27_0,hfz27_1⟩:=z2 BK583;have p587 : 0 ≤ (x6_1 : Int):=of_decide_eq_true ZZ853400;have q587 : x6_1 < (l0_1.length : Int):=of_decide_eq_true ZZ853400;obtain ⟨ad587,A587_2,c587_2,e587,hx587_0,hx587_1,hx587_2,hl587_2,hi587_2⟩:=at_T63 HR0_1.out x6_1 p587 q587
       cases e587
       replace hx587_0:=(HB.out.cell (World.block_lt_of_cell? w _ hx587_0)).trans hx587_0;replace hx587_1:=(HB.out.cell (World.block_lt_of_cell? w _ hx587_1)).trans hx587_1;replace hx587_2:=(HB.out.cell (World.block_lt_of_cell? w _ hx587_2)).trans hx587_2;have HR587_2:=Aside0.mk hi587_2;have HC587_2:=Aside0.mk hl587_2;clear hi587_2 hl587_2;replace p587:=eq_true p587;replace q587:=eq_true q587;have p588 : 0 ≤ (x6_1 : Int):=of_decide_eq_true ZZ853400;have q588 : x6_1 < (l0_1.length : Int):=of_decide_eq_true ZZ853400;try clear hx587_0
       try clear hx587_1
       obtain ⟨ad588,A588_2,c588_2,e588,hx588_0,hx588_1,hx588_2,hl588_2,hi588_2⟩:=at_T63 HR0_1.out x6_1 p588 q588;obtain rfl : ad587 = ad588:=(by injection e588);replace hx588_0:=(HB.out.cell (World.block_lt_of_cell? w _ hx588_0)).trans hx588_0;replace hx588_1:=(HB.out.cell (World.block_lt_of_cell? w _ hx588_1)).trans hx588_1;replace hx588_2:=(HB.out.cell (World.block_lt_of_cell? w _ hx588_2)).trans hx588_2;have HR588_2:=Aside0.mk hi588_2;have HC588_2:=Aside0.mk hl588_2;clear hi588_2 hl588_2;replace p588:=eq_true p588;replace q588:=eq_true q588;have ea_:=Option.some.inj (hx587_2.symm.trans hx588_2)
       injection ea_ with ea_ en_ ec_
       subst ea_;subst ec_;clear en_;go_wp2
       go_roundg k2
       case measure => have:=HK1.out;have:=HK2.out;omega
       case rel => exact ⟨(x5_2),(wrap64 (x6_1 + 1)),ZZ0ab324,H,kle,⟨(zR HO_5)⟩,⟨(zB BK583)⟩,⟨ZZ295621⟩⟩
      rw [if_neg c13] at H;have c13b0:=decide_eq_false c13;clear c13;replace H:=Aside0.mk H;obtain ⟨hcz28_0,hcz28_1,hfz28_0,hfz28_1⟩:=z2 BK583;have p587 : 0 ≤ (x6_1 : Int):=of_decide_eq_true ZZ853400;have q587 : x6_1 < (l0_1.length : Int):=of_decide_eq_true ZZ853400;obtain ⟨ad587,A587_2,c587_2,e587,hx587_0,hx587_1,hx587_2,hl587_2,hi587_2⟩:=at_T63 HR0_1.out x6_1 p587 q587
      cases e587
      replace hx587_0:=(HB.out.cell (World.block_lt_of_cell? w _ hx587_0)).trans hx587_0;replace hx587_1:=(HB.out.cell (World.block_lt_of_cell? w _ hx587_1)).trans hx587_1;replace hx587_2:=(HB.out.cell (World.block_lt_of_cell? w _ hx587_2)).trans hx587_2;have HR587_2:=Aside0.mk hi587_2;have HC587_2:=Aside0.mk hl587_2;clear hi587_2 hl587_2;replace p587:=eq_true p587;replace q587:=eq_true q587;go_wp2
      go_roundg k2
      case measure => have:=HK1.out;have:=HK2.out;omega
      case rel => exact ⟨(x5_2),(wrap64 (x6_1 + 1)),ZZ0ab324,H,kle,⟨(zR HO_5)⟩,⟨(zB BK583)⟩,⟨ZZ295621⟩⟩
   rw [if_neg c9] at H;have c9b0:=decide_eq_false c9;clear c9;obtain rfl:=Option.some.inj H;obtain ⟨hcz29_0,hcz29_1,hfz29_0,hfz29_1⟩:=z2 BK583;go_wp2;go_ret;exact ⟨_,ZZab01d2,(zR HO_5),ZZ295621⟩/-! ### spec_l26Temporary: function 70 -/
def spec_l26Temporary.f (a0_0 : ByteArray) (a0_1 : Int) : Option (Bool):=if a0_1 = 4 then (some true) else (some (a0_1 == 5))
set_option maxHeartbeats 8000000 in
set_option maxRecDepth 100000 in
theorem spec_l26Temporary.calls (a0_0 : ByteArray) (a0_1 : Int) (r : Bool) (w : World) (h : spec_l26Temporary.f a0_0 a0_1 = some r) :
 Calls Tryd.prog 70 #[.agg #[.string a0_0,.int .i64 a0_1]] w fun e w' => e = .returned (.bool r) ∧ Below w.heap.size w w':=by
 have hu48:=Tryd.underlying48;have HB:=Aside0.mk (Below.refl w.heap.size w);have H:=h;clear h;unfold spec_l26Temporary.f at H;by_cases c2 : a0_1 = 4
 ·rw [if_pos c2] at H;have c2b0:=beq_iff_eq.mpr c2;have c2b1:=bne_eq_false_iff_eq.mpr c2;clear c2;obtain rfl:=Option.some.inj H
  go_enter Tryd.func70,Tryd.ntmps70
  go_wp2_with (first | ((with_reducible refine gate_dst (N:=1) rfl ?_);refine bx 1 (cs:=#[.string a0_0,.int .i64 a0_1]) (t:=48) ?_;intro gb594 hg w3 hbox hb;have BK594:=Aside0.mk (hbox);have GW594:=gw hg;have GE594:=gw hg;replace HB:=hB hb;clear hb hbox hg;obtain ⟨hcz4_0,hcz4_1,hfz4_0,hfz4_1⟩:=z2 BK594))
  go_ret;exact ⟨ZZab01d2,ZZ295621⟩
 rw [if_neg c2] at H;have c2b0:=beq_eq_false_iff_ne.mpr c2;have c2b1:=bne_iff_ne.mpr c2;obtain rfl:=Option.some.inj H
 go_enter Tryd.func70,Tryd.ntmps70
 go_wp2_with (first | ((with_reducible refine gate_dst (N:=1) rfl ?_);refine bx 1 (cs:=#[.string a0_0,.int .i64 a0_1]) (t:=48) ?_;intro gb594 hg w5 hbox hb;have BK594:=Aside0.mk (hbox);have GW594:=gw hg;have GE594:=gw hg;replace HB:=hB hb;clear hb hbox hg;obtain ⟨hcz6_0,hcz6_1,hfz6_0,hfz6_1⟩:=z2 BK594))
 go_ret;exact ⟨ZZab01d2,ZZ295621⟩
end Go.Proofs.YtccdjchaaeligaaDoor.XFnClosing

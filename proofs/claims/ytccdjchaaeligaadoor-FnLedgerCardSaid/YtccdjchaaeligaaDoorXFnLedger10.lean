import Derived.Test.YtccdjchaaeligaaDoorXFnLedger6
import Derived.Test.YtccdjchaaeligaaDoorXFnLedger3
import Derived.Test.YtccdjchaaeligaaDoorXFnLedger2
import Derived.Test.YtccdjchaaeligaaDoorXFnLedger0
import Derived.Test.YtccdjchaaeligaaDoorXFnLedger5
namespace Go.Proofs.YtccdjchaaeligaaDoor.XFnLedger
open Go.Proofs.YtccdjchaaeligaaDoor.Short Go.RowKit Go.Proofs.YtccdjchaaeligaaDoorW.PrintWords Go.Proofs.YtccdjchaaeligaaDoorW.PrintLast Go.Proofs.YtccdjchaaeligaaDoorW.PrintMore
attribute [local go_sem] max2_int min2_int max_two min_two max_three min_three max_four min_four
set_option linter.unusedVariables false
set_option linter.unusedSimpArgs false
theorem ZZ8d16d5 {p : Prop} (h : p:=by refine bR ?_;exact Kd.R_mono (Kd.rf (Kd.rf (Kd.R_types HO_11.out BK255.out (by decide)))) (fun _ hk => hk.1)) : p:=h
theorem ZZ9df8f5 {p : Prop} (h : p:=by refine bd ?_;refine blk_far ?_ NB241_255.out _;refine bd ?_;refine blk_far ?_ NB241_255.out _;refine bd ?_;exact BK241.out) : p:=h
theorem ZZaab597 {p : Prop} (h : p:=by refine bd ?_;refine blk_far ?_ NB253_255.out _;refine bd ?_;refine blk_far ?_ NB253_255.out _;refine bd ?_;exact BK253.out) : p:=h
theorem ZZ6b3774 {p : Prop} (h : p:=by repeat (first | (with_reducible first | exact HI0.out | apply IsS93.alloc | apply IsS93.drewN | apply IsS93.drew | apply IsS93.set_1 | apply IsS93.set_2) | exact HI0.out)) : p:=h
theorem ZZ3665a6 {p : Prop} (h : p:=by repeat (first | (with_reducible first | exact HB.out | apply below_alloc | apply pw_below_drewN | apply below_drew1 | refine below_set ?_ (IsS93.ge HI0.out)) | exact HB.out)) : p:=h
mutual
def impl_AccountStatement.l0 : Nat → Int → Int → Int → List Int → List Int → Int → List (S63) → Int → Int → Option (List Int × List Int × Bool)
 | 0,_,_,_,_,_,_,_,_,_ => none
 | k + 1,x1,x2,x3,x11,x12,x13,x28,x29,x30 => if x30 < x29 then (if 0 ≤ x30 then (if x30 < (x28.length : Int) then (impl_AccountStatement.l1 k x1 x2 x3 x11 x12 x13 x30 x28 x29 x30 ((rd_T63 x28 x30).f2) (((rd_T63 x28 x30).f2).length : Int) 0 ((rd_T63 x28 x30).f0) ((rd_T63 x28 x30).f1) ((rd_T63 x28 x30).f2)) else (none)) else (none)) else (some (x11,x12,true))
def impl_AccountStatement.l1 : Nat → Int → Int → Int → List Int → List Int → Int → Int → List (S63) → Int → Int → List (S70) → Int → Int → Int → ByteArray → List (S70) → Option (List Int × List Int × Bool)
 | 0,_,_,_,_,_,_,_,_,_,_,_,_,_,_,_,_ => none
 | k + 1,x1,x2,x3,x11,x12,x13,x14,x28,x29,x30,x36,x37,x38,x254000,x254001,x254002 => if x38 < x37 then (if 0 ≤ x38 then (if x38 < (x36.length : Int) then (if ((rd_T70 x36 x38).f0) = x1 then ((impl_within.f x254000 x2 x3).bind fun t256 => (if t256 = true then (if x11.length < 17592186044416 then (if x12.length < 17592186044416 then (impl_AccountStatement.l1 k x1 x2 x3 (x11 ++ [x14]) (x12 ++ [wrap64 (x13 + ((rd_T70 x36 x38).f1))]) (wrap64 (x13 + ((rd_T70 x36 x38).f1))) x14 x28 x29 x30 x36 x37 (wrap64 (x38 + 1)) x254000 x254001 x254002) else (none)) else (none)) else (impl_AccountStatement.l1 k x1 x2 x3 x11 x12 (wrap64 (x13 + ((rd_T70 x36 x38).f1))) x14 x28 x29 x30 x36 x37 (wrap64 (x38 + 1)) x254000 x254001 x254002))) else (impl_AccountStatement.l1 k x1 x2 x3 x11 x12 x13 x14 x28 x29 x30 x36 x37 (wrap64 (x38 + 1)) x254000 x254001 x254002)) else (none)) else (none)) else (impl_AccountStatement.l0 k x1 x2 x3 x11 x12 x13 x28 x29 (wrap64 (x30 + 1)))
end
def impl_AccountStatement.f (k : Nat) (l0_0 : List (S48)) (l0_1 : List (S63)) (a1 : Int) (a2 : Int) (a3 : Int) : Option (List Int × List Int × Bool):=(impl_isAccount.f k l0_0 l0_1 a1 (([a2,a3] : List Int))).bind fun t245 => (if t245 = true then (impl_AccountStatement.l0 k a1 a2 a3 (([] : List Int)) (([] : List Int)) 0 l0_1 (l0_1.length : Int) 0) else (some (([] : List Int),([] : List Int),false)))
theorem impl_AccountStatement.mono_l : ∀ k,(∀ y0 y1 y2 y3 y4 y5 y6 y7 y8,LeO (impl_AccountStatement.l0 k y0 y1 y2 y3 y4 y5 y6 y7 y8) (impl_AccountStatement.l0 (k + 1) y0 y1 y2 y3 y4 y5 y6 y7 y8)) ∧ (∀ y0 y1 y2 y3 y4 y5 y6 y7 y8 y9 y10 y11 y12 y13 y14 y15,LeO (impl_AccountStatement.l1 k y0 y1 y2 y3 y4 y5 y6 y7 y8 y9 y10 y11 y12 y13 y14 y15) (impl_AccountStatement.l1 (k + 1) y0 y1 y2 y3 y4 y5 y6 y7 y8 y9 y10 y11 y12 y13 y14 y15))
 | 0 => ⟨fun _ _ _ _ _ _ _ _ _ r h => by simp [impl_AccountStatement.l0] at h,fun _ _ _ _ _ _ _ _ _ _ _ _ _ _ _ _ r h => by simp [impl_AccountStatement.l1] at h⟩
 | k + 1 => by
  obtain ⟨ih0,ih1⟩:=impl_AccountStatement.mono_l k;refine ⟨?_,?_⟩;all_goals intros
  all_goals (first | unfold impl_AccountStatement.l0 | unfold impl_AccountStatement.l1)
  all_goals
   repeat' with_reducible first | apply ih0 | apply ih1 | apply impl_isAccount.mono | exact LeO.refl _ | exact LeO.none _ | refine LeO.ite ?_ ?_ | refine LeO.bind ?_ (fun _ => ?_)
theorem impl_AccountStatement.mono : ∀ a0 a1 a2 a3 a4 k,LeO (impl_AccountStatement.f k a0 a1 a2 a3 a4) (impl_AccountStatement.f (k + 1) a0 a1 a2 a3 a4):=by
 intro a0 a1 a2 a3 a4 k;obtain ⟨ih0,ih1⟩:=impl_AccountStatement.mono_l k;unfold impl_AccountStatement.f;repeat' with_reducible first | apply ih0 | apply ih1 | apply impl_isAccount.mono | exact LeO.refl _ | exact LeO.none _ | refine LeO.ite ?_ ?_ | refine LeO.bind ?_ (fun _ => ?_)
set_option maxHeartbeats 8000000 in
set_option maxRecDepth 100000 in
theorem impl_AccountStatement.calls (k : Nat) (A0_0 : Option Addr) (c0_0 : Nat) (l0_0 : List (S48)) (A0_1 : Option Addr) (c0_1 : Nat) (l0_1 : List (S63)) (a1 : Int) (a2 : Int) (a3 : Int) (r1 : List Int) (r2 : List Int) (r3 : Bool) (w : World) (hr0_0 : Kd.C k48 w A0_0 l0_0.length l0_0) (hc0_0 : l0_0.length ≤ c0_0) (hr0_1 : Kd.C k63 w A0_1 l0_1.length l0_1) (hc0_1 : l0_1.length ≤ c0_1) (h : impl_AccountStatement.f k l0_0 l0_1 a1 a2 a3 = some (r1,r2,r3)) :
 Calls Tryd.prog 29 #[.agg #[.slice A0_0 l0_0.length c0_0,.slice A0_1 l0_1.length c0_1],.int .i64 a1,.int .i64 a2,.int .i64 a3] w fun e w' => ∃ v0_ v1_ : Value,e = .returned (.tuple #[v0_,v1_,.bool r3]) ∧ Kd.R (Kd.int .i64) 3 w' w.heap.size (fun k_ => some k_ ≠ (v1_ : Value).ownBlock) v0_ r1 ∧ Kd.R (Kd.int .i64) 3 w' w.heap.size (fun k_ => some k_ ≠ (v0_ : Value).ownBlock) v1_ r2 ∧ Below w.heap.size w w':=by
 have hu31:=Tryd.underlying31;have hu63:=Tryd.underlying63;have hu70:=Tryd.underlying70;have HR0_0:=ak hr0_0;have HC0_0:=ak hc0_0;clear hr0_0 hc0_0;have HR0_1:=ak hr0_1;have HC0_1:=ak hc0_1;clear hr0_1 hc0_1;have HB:=ak (Below.refl w.heap.size w);have H:=h;clear h;unfold impl_AccountStatement.f at H;try rw [Option.bind_some] at H
 generalize hy242 : (([a2,a3] : List Int) : List Int) = y242 at H;have Ny242:=ak hy242.symm;clear hy242;obtain ⟨t245,A5,H⟩:=bdY H;by_cases c6 : t245 = true
 ·subst c6;replace H:=ifT H;obtain ⟨y246,hy246⟩ : ∃ y_ : List Int,y_ = (([] : List Int)):=⟨_,rfl⟩;replace H : (impl_AccountStatement.l0 k a1 a2 a3 y246 (([] : List Int)) 0 l0_1 (l0_1.length : Int) 0) = some (r1,r2,r3):=by first | (rw [hy246];with_reducible exact H) | (have H2_:=(Option.bind_some _ _).symm.trans H;rw [hy246];with_reducible exact H2_) | (have H2_:=(Option.bind_some _ _).symm.trans H;with_reducible exact H2_) | with_reducible exact H | (rw [hy246];exact H) | exact H
  have Ny246:=ak hy246;clear hy246;try rw [Option.bind_some] at H
  generalize hy249 : (([] : List Int) : List Int) = y249 at H;have Ny249:=ak hy249.symm;clear hy249;replace H:=ak H
  go_enter Tryd.func29,Tryd.ntmps29
  go_wp2_with (first | ((with_reducible refine gate_dst (N:=4) rfl ?_);refine bx 4 (cs:=#[.slice A0_0 l0_0.length c0_0,.slice A0_1 l0_1.length c0_1]) (t:=31) ?_;intro gb241 hg w7 hbox hb;have BK241:=ak (hbox);have GW241:=gw hg;have GE241:=gw hg;replace HB:=hB hb;clear hb hbox hg;obtain ⟨hcz8_0,hcz8_1,hfz8_0,hfz8_1⟩:=z2 BK241) | ((with_reducible refine gate_dst (N:=22) rfl ?_);refine Kd.R_lit (Kd.int .i64) _ 3 ?hg (N:=22) ?hd (xs:=([a2,a3] : List Int)) (inner:=[.int .i64 a2,.int .i64 a3]) (ok:=fun _ => True) (okp:=fun _ => True) ?hr ?hp (fun _ hk => hk) trivial (Below.refl _ _) (Nat.le_refl _) (by simp) ?_;(case hd => rfl);(case hg => rfl);(case hr => first | (go_simp;done) | (go_simp;rfl));(case hp => exact (Reps.one (show Kd.M (Kd.int .i64) _ _ _ a2 [.int .i64 a2] from rfl) (Reps.one (show Kd.M (Kd.int .i64) _ _ _ a3 [.int .i64 a3] from rfl) (Reps.none _ _))));intro v243 w9 ho10 hb hg_ hnew_;clear hg_ hnew_;(first | rw [← Ny242.out] at ho10 | (simp only [Int.reduceToNat] at ho10;rw [← Ny242.out] at ho10));have HO244:=ak (Kd.R_lower ho10 (below_size ZZ295621));replace BK241:=kb BK241 hb;replace HB:=hB hb;clear hb ho10;obtain ⟨Ao11,co11,eo11⟩:=Kd.R_slice HO244.out;subst eo11) | (refine gc 23 Tryd.func68 #[.agg #[.slice A0_0 l0_0.length c0_0,.slice A0_1 l0_1.length c0_1],.int .i64 a1,.slice Ao11 y242.length co11] ?_;(with_reducible refine (impl_isAccount.calls k _ _ l0_0 _ _ l0_1 a1 _ _ y242 true _ ?side1 ?side2 ?side3 ?side4 ?side5 ?side6 A5.out).mono ?_);(case side1 => exact (rC (Kd.C_below HR0_0.out HB.out)));(case side2 => exact HC0_0.out);(case side3 => exact (rC (Kd.C_below HR0_1.out HB.out)));(case side4 => exact HC0_1.out);(case side5 => exact rC (Kd.R_reads' HO244.out).2.2);(case side6 => exact (Kd.R_reads' HO244.out).2.1);rintro e w12 ⟨rfl,hb⟩;refine ⟨_,rfl,?_⟩;replace HO244:=Kd.rb HO244 hb;replace BK241:=kb BK241 hb;replace HB:=hB hb;(try clear hb);(try clear hb2);(try clear hk);(try clear hi)) | ((with_reducible refine gate_dst (N:=25) rfl ?_);refine Kd.R_lit (Kd.int .i64) _ 3 ?hg (N:=25) ?hd (xs:=([] : List Int)) (inner:=[]) (ok:=fun _ => True) (okp:=fun _ => True) ?hr ?hp (fun _ hk => hk) trivial (Below.refl _ _) (Nat.le_refl _) (by simp) ?_;(case hd => rfl);(case hg => rfl);(case hr => first | (go_simp;done) | (go_simp;rfl));(case hp => exact (Reps.none _ _));intro v247 w13 ho14 hb hg_ hnew_;clear hg_ hnew_;(first | rw [← Ny246.out] at ho14 | (simp only [Int.reduceToNat] at ho14;rw [← Ny246.out] at ho14));have HO248:=ak (Kd.R_lower (Kd.R_new' ho14 (Kd.R_lt (zR HO244))) (below_size ZZ295621));replace HO244:=ak (Kd.R_elder' (zR HO244) (Kd.R_base ho14) hb);replace BK241:=kb BK241 hb;replace HB:=hB hb;clear hb ho14) | ((with_reducible refine gate_dst (N:=26) rfl ?_);refine Kd.R_lit (Kd.int .i64) _ 3 ?hg (N:=26) ?hd (xs:=([] : List Int)) (inner:=[]) (ok:=fun _ => True) (okp:=fun _ => True) ?hr ?hp (fun _ hk => hk) trivial (Below.refl _ _) (Nat.le_refl _) (by simp) ?_;(case hd => rfl);(case hg => rfl);(case hr => first | (go_simp;done) | (go_simp;rfl));(case hp => exact (Reps.none _ _));intro v250 w15 ho16 hb hg_ hnew_;clear hg_ hnew_;(first | rw [← Ny249.out] at ho16 | (simp only [Int.reduceToNat] at ho16;rw [← Ny249.out] at ho16));have HO251:=ak (Kd.R_lower (Kd.R_new' (Kd.R_new' ho16 (Kd.R_lt (zR HO244))) (Kd.R_lt (zR HO248))) (below_size ZZ295621));replace HO244:=ak (Kd.R_elder' (zR HO244) (Kd.R_base ho16) hb);replace HO248:=ak (Kd.R_elder' (zR HO248) (Kd.R_base ho16) hb);replace BK241:=kb BK241 hb;replace HB:=hB hb;clear hb ho16;obtain ⟨hcz17_0,hcz17_1,hfz17_0,hfz17_1⟩:=z2 BK241))
  go_loopg [11,12,13,30] k (fun kq v11 v12 v13 v30 w' => ∃ (x11_1 : List Int) (x12_1 : List Int) (x13_1 : Int) (x30_1 : Int),v13 = .int .i64 x13_1 ∧ v30 = .int .i64 x30_1 ∧ Aside0 (impl_AccountStatement.l0 kq a1 a2 a3 x11_1 x12_1 x13_1 l0_1 (l0_1.length : Int) x30_1 = some (r1,r2,r3)) ∧ Aside0 (kq ≤ k) ∧ Aside0 (Kd.R (Kd.int .i64) 3 w' w.heap.size (fun k_ => some k_ ≠ (v12 : Value).ownBlock) v11 x11_1) ∧ Aside0 (Kd.R (Kd.int .i64) 3 w' w.heap.size (fun k_ => some k_ ≠ (v11 : Value).ownBlock) v12 x12_1) ∧ Aside0 (w'.heap[gb241]? = some (.cells #[(.slice A0_0 l0_0.length c0_0),(.slice A0_1 l0_1.length c0_1)] 31 (0,0))) ∧ Aside0 (Below w.heap.size w w'))
  case atStart => exact ⟨(y246),(y249),(0),(0),ZZ0ab324,ZZ0ab324,H,⟨Nat.le_refl _⟩,⟨(by refine bR ?_;exact Kd.R_mono HO248.out (fun _ hk => hk.2))⟩,⟨(by refine bR ?_;exact Kd.R_mono HO251.out (fun _ hk => hk.2))⟩,⟨(zB BK241)⟩,⟨ZZ295621⟩⟩
  case round =>
   clear H;try clear c6
   try clear hcz17_0
   try clear hcz17_1
   try clear hcz8_0
   try clear hcz8_1
   try clear hfz17_0
   try clear hfz17_1
   try clear hfz8_0
   try clear hfz8_1
   obtain ⟨x11_1,x12_1,x13_1,x30_1,rfl,rfl,HA,HK1,HO_11,HO_12,BK241,HB⟩:=hrel
   cases gk with
   | zero => exact absurd HA.out (by simp [impl_AccountStatement.l0])
   | succ k1 =>
    have H:=HA.out;clear HA;simp only [impl_AccountStatement.l0] at H;by_cases c18 : x30_1 < (l0_1.length : Int)
    ·rw [if_pos c18] at H;have c18b0:=decide_eq_true c18;clear c18;obtain ⟨c19b0,H⟩:=ifYd H;obtain ⟨c20b0,H⟩:=ifYd H;replace H:=ak H;have p252 : 0 ≤ (x30_1 : Int):=of_decide_eq_true ZZ853400;have q252 : x30_1 < (l0_1.length : Int):=of_decide_eq_true ZZ853400;obtain ⟨ad252,A252_2,c252_2,e252,hx252_0,hx252_1,hx252_2,hl252_2,hi252_2⟩:=at_T63 HR0_1.out x30_1 p252 q252
     cases e252
     replace hx252_0:=bc HB hx252_0;replace hx252_1:=bc HB hx252_1;replace hx252_2:=bc HB hx252_2;have HR252_2:=ak hi252_2;have HC252_2:=ak hl252_2;clear hi252_2 hl252_2;replace p252:=eq_true p252;replace q252:=eq_true q252;go_wp2_with (first | ((with_reducible refine gate_dst (N:=15) rfl ?_);refine bx 15 (cs:=#[.int .i64 0,.string (⟨#[]⟩ : ByteArray),.slice none 0 0]) (t:=63) ?_;intro gb253 hg w21 hbox hb;replace HO_11:=Kd.rb HO_11 hb;replace HO_12:=Kd.rb HO_12 hb;have BK253:=ak (hbox);have GW253:=gw hg;have GE253:=gw hg;replace HB:=hB hb;have NB241_253:=nl hg BK241;have NB253_241:=ng hg BK241;replace BK241:=kb BK241 hb;clear hb hbox hg;have hnb22:=NB253_241.out;have hnc22:=NB241_253.out;obtain ⟨hcz23_0,hcz23_1,hcz23_2,hfz23_0,hfz23_1,hfz23_2⟩:=z3 BK253))
     go_loopg [11,12,13,38] k1 (fun kq v11 v12 v13 v38 w' => ∃ (x11_2 : List Int) (x12_2 : List Int) (x13_2 : Int) (x38_2 : Int),v13 = .int .i64 x13_2 ∧ v38 = .int .i64 x38_2 ∧ Aside0 (impl_AccountStatement.l1 kq a1 a2 a3 x11_2 x12_2 x13_2 x30_1 l0_1 (l0_1.length : Int) x30_1 ((rd_T63 l0_1 x30_1).f2) (((rd_T63 l0_1 x30_1).f2).length : Int) x38_2 ((rd_T63 l0_1 x30_1).f0) ((rd_T63 l0_1 x30_1).f1) ((rd_T63 l0_1 x30_1).f2) = some (r1,r2,r3)) ∧ Aside0 (kq ≤ k1) ∧ Aside0 (Kd.R (Kd.int .i64) 3 w' w.heap.size (fun k_ => some k_ ≠ (v12 : Value).ownBlock) v11 x11_2) ∧ Aside0 (Kd.R (Kd.int .i64) 3 w' w.heap.size (fun k_ => some k_ ≠ (v11 : Value).ownBlock) v12 x12_2) ∧ Aside0 (w'.heap[gb241]? = some (.cells #[(.slice A0_0 l0_0.length c0_0),(.slice (some ad252) l0_1.length c0_1)] 31 (0,0))) ∧ Aside0 (w'.heap[gb253]? = some (.cells #[.int .i64 ((rd_T63 l0_1 x30_1).f0),.string ((rd_T63 l0_1 x30_1).f1),(.slice A252_2 ((rd_T63 l0_1 x30_1).f2).length c252_2)] 63 (0,0))) ∧ Aside0 (Below w.heap.size w w'))
     case atStart => exact ⟨(x11_1),(x12_1),(x13_1),(0),ZZ0ab324,ZZ0ab324,H,⟨Nat.le_refl _⟩,⟨(by refine bR ?_;exact Kd.R_mono (Kd.rf (Kd.rf (Kd.rf (Kd.R_types HO_11.out BK253.out (by decide))))) (fun _ hk => hk.1))⟩,⟨(by refine bR ?_;exact Kd.R_mono (Kd.rf (Kd.rf (Kd.rf (Kd.R_types HO_12.out BK253.out (by decide))))) (fun _ hk => hk.1))⟩,⟨(by refine bd ?_;refine blk_far ?_ NB241_253.out _;refine bd ?_;refine blk_far ?_ NB241_253.out _;refine bd ?_;refine blk_far ?_ NB241_253.out _;refine bd ?_;exact BK241.out)⟩,⟨(by refine bd ?_;refine blk_put (cs:=#[.int .i64 ((rd_T63 l0_1 x30_1).f0),.string ((rd_T63 l0_1 x30_1).f1),.slice none 0 0]) ?_ 2 _ rfl;refine bd ?_;refine blk_put (cs:=#[.int .i64 ((rd_T63 l0_1 x30_1).f0),.string (⟨#[]⟩ : ByteArray),.slice none 0 0]) ?_ 1 _ rfl;refine bd ?_;refine blk_put (cs:=#[.int .i64 0,.string (⟨#[]⟩ : ByteArray),.slice none 0 0]) ?_ 0 _ rfl;refine bd ?_;exact BK253.out)⟩,⟨ZZ295621⟩⟩
     case round =>
      clear H;try clear c18b0
      try clear c19b0
      try clear c20b0
      try clear hcz23_0
      try clear hcz23_1
      try clear hcz23_2
      try clear hfz23_0
      try clear hfz23_1
      try clear hfz23_2
      try clear hx252_0
      try clear hx252_1
      try clear hx252_2
      try clear p252
      try clear q252
      obtain ⟨x11_2,x12_2,x13_2,x38_2,rfl,rfl,HA,HK2,HO_11,HO_12,BK241,BK253,HB⟩:=hrel
      cases gk with
      | zero => exact absurd HA.out (by simp [impl_AccountStatement.l1])
      | succ k2 =>
       have H:=HA.out;clear HA;simp only [impl_AccountStatement.l1] at H;by_cases c24 : x38_2 < (((rd_T63 l0_1 x30_1).f2).length : Int)
       ·rw [if_pos c24] at H;have c24b0:=decide_eq_true c24;clear c24;obtain ⟨c25b0,H⟩:=ifYd H;obtain ⟨c26b0,H⟩:=ifYd H;by_cases c27 : ((rd_T70 ((rd_T63 l0_1 x30_1).f2) x38_2).f0) = a1
        ·rw [if_pos c27] at H;have c27b0:=beq_iff_eq.mpr c27;have c27b1:=bne_eq_false_iff_eq.mpr c27;clear c27;obtain ⟨t256,A28,H⟩:=bdY H;by_cases c29 : t256 = true
         ·subst c29;replace H:=ifT H;obtain ⟨c30,H⟩:=ifY H;have LMc30:=ak c30;clear c30;try rw [Option.bind_some] at H
          generalize hy257 : (x11_2 ++ [x30_1] : List Int) = y257 at H;have Ny257:=ak hy257.symm;clear hy257;obtain ⟨c31,H⟩:=ifY H;have LMc31:=ak c31;clear c31;try rw [Option.bind_some] at H
          generalize hy260 : (x12_2 ++ [wrap64 (x13_2 + ((rd_T70 ((rd_T63 l0_1 x30_1).f2) x38_2).f1))] : List Int) = y260 at H;have Ny260:=ak hy260.symm;clear hy260;replace H:=ak H;have p254 : 0 ≤ (x38_2 : Int):=of_decide_eq_true ZZ853400;have q254 : x38_2 < (((rd_T63 l0_1 x30_1).f2).length : Int):=of_decide_eq_true ZZ853400;obtain ⟨ad254,e254,hx254_0,hx254_1⟩:=at_T70 HR252_2.out x38_2 p254 q254
          cases e254
          replace hx254_0:=bc HB hx254_0;replace hx254_1:=bc HB hx254_1;replace p254:=eq_true p254;replace q254:=eq_true q254;go_wp2_with (first | ((with_reducible refine gate_dst (N:=17) rfl ?_);refine bx 17 (cs:=#[.int .i64 0,.int .i64 0]) (t:=70) ?_;intro gb255 hg w32 hbox hb;replace HO_11:=Kd.rb HO_11 hb;replace HO_12:=Kd.rb HO_12 hb;have BK255:=ak (hbox);have GW255:=gw hg;have GE255:=gw hg;replace HB:=hB hb;have NB241_255:=nl hg BK241;have NB255_241:=ng hg BK241;replace BK241:=kb BK241 hb;have NB253_255:=nl hg BK253;have NB255_253:=ng hg BK253;replace BK253:=kb BK253 hb;clear hb hbox hg;have hnb33:=NB255_241.out;have hnc33:=NB241_255.out;have hnb34:=NB255_253.out;have hnc34:=NB253_255.out;obtain ⟨hcz35_0,hcz35_1,hfz35_0,hfz35_1⟩:=z2 BK255;have hnb36:=NB253_241.out;have hnc36:=NB241_253.out;obtain ⟨hcz37_0,hcz37_1,hcz37_2,hfz37_0,hfz37_1,hfz37_2⟩:=z3 BK253) | (refine gc 54 Tryd.func56 #[.int .i64 ((rd_T63 l0_1 x30_1).f0),.int .i64 a2,.int .i64 a3] ?_;(with_reducible refine (impl_within.calls ((rd_T63 l0_1 x30_1).f0) a2 a3 true _ A28.out).mono ?_);rintro e w' ⟨rfl,⟨nd,rfl⟩⟩;refine ⟨_,rfl,?_⟩) | ((with_reducible refine gate_builtin (b:=.append) (xs:=#[.tmp 55,.tmp 57]) rfl ?_);at_builtin;refine Kd.R_append (Kd.int .i64) (w0:=w) w.heap.size rfl (.tmp 55) (.tmp 57) 44 3 (.int .i64 0) 8 rfl Tryd.underlying44 info3 rfl (by decide) (by omega) u11 x11_2 x30_1 [.int .i64 x30_1] (fun k_ => some k_ ≠ (u12 : Value).ownBlock) (fun _ => False) rfl (by first | (go_simp;done) | (go_simp;rfl)) ?aP (fun _ hk => hk.elim) ?aF ?aO ?aB ?aS ?aL ?_;(case aP => exact rfl);(case aB => exact ZZ295621);(case aF => exact (fun k_ hk => Kd.fresh' (Kd.R_lt (by refine bR ?_;exact (Kd.R_mono (Kd.rf (Kd.rf (Kd.R_types HO_12.out BK255.out (by decide)))) (fun _ h_ => h_.1)))) k_ hk));(case aO => exact ZZ8d16d5);(case aS => exact (below_size ZZ295621));(case aL => have:=LMc30.out;omega);intro v258 w38 ho hb hg hat;rw [← Ny257.out] at ho;replace HO_12:=ak (Kd.R_after (ok:=(fun _ => True)) (by refine bR ?_;exact Kd.R_mono (Kd.rf (Kd.rf (Kd.R_types HO_12.out BK255.out (by decide)))) (fun _ hk => ⟨trivial,hk.1⟩)) hg hat);replace BK241:=ak (blk_grown (g:=gb241) (o:=.cells #[.slice A0_0 l0_0.length c0_0,.slice (some ad252) l0_1.length c0_1] 31 (0,0)) ZZ9df8f5 hg (Kd.R_ne HO_11.out BK241.out (by decide)));replace BK253:=ak (blk_grown (g:=gb253) (o:=.cells #[.int .i64 ((rd_T63 l0_1 x30_1).f0),.string ((rd_T63 l0_1 x30_1).f1),.slice (some ad254) ((rd_T63 l0_1 x30_1).f2).length c252_2] 63 (0,0)) ZZaab597 hg (Kd.R_ne HO_11.out BK253.out (by decide)));replace BK255:=ak (blk_grown (g:=gb255) (o:=.cells #[.int .i64 ((rd_T70 ((rd_T63 l0_1 x30_1).f2) x38_2).f0),.int .i64 ((rd_T70 ((rd_T63 l0_1 x30_1).f2) x38_2).f1)] 70 (0,0)) (by refine bd ?_;refine blk_put (cs:=#[.int .i64 ((rd_T70 ((rd_T63 l0_1 x30_1).f2) x38_2).f0),.int .i64 0]) ?_ 1 _ rfl;refine bd ?_;refine blk_put (cs:=#[.int .i64 0,.int .i64 0]) ?_ 0 _ rfl;refine bd ?_;exact BK255.out) hg (Kd.R_ne HO_11.out BK255.out (by decide)));replace HB:=ak (hb);have HO259:=ak (ho);clear HO_11;clear ho hb hg hat) | ((with_reducible refine gate_builtin (b:=.append) (xs:=#[.tmp 59,.tmp 61]) rfl ?_);at_builtin;refine Kd.R_append (Kd.int .i64) (w0:=w) w.heap.size rfl (.tmp 59) (.tmp 61) 44 3 (.int .i64 0) 8 rfl Tryd.underlying44 info3 rfl (by decide) (by omega) u12 x12_2 (wrap64 (x13_2 + ((rd_T70 ((rd_T63 l0_1 x30_1).f2) x38_2).f1))) [.int .i64 (wrap64 (x13_2 + ((rd_T70 ((rd_T63 l0_1 x30_1).f2) x38_2).f1)))] (fun k_ => some k_ ≠ (v258 : Value).ownBlock) (fun _ => False) rfl rfl ?aP (fun _ hk => hk.elim) ?aF ?aO ?aB ?aS ?aL ?_;(case aP => exact rfl);(case aB => exact ZZ295621);(case aF => exact (fun k_ hk => Kd.fresh' (Kd.R_lt (zR HO259)) k_ hk));(case aO => exact (by refine bR ?_;exact Kd.R_mono HO_12.out (fun _ hk => hk.2)));(case aS => exact (below_size ZZ295621));(case aL => have:=LMc31.out;omega);intro v261 w39 ho hb hg hat;rw [← Ny260.out] at ho;replace BK241:=ak (blk_grown (zB BK241) hg (Kd.R_ne HO_12.out BK241.out (by decide)));replace BK253:=ak (blk_grown (zB BK253) hg (Kd.R_ne HO_12.out BK253.out (by decide)));replace BK255:=ak (blk_grown (zB BK255) hg (Kd.R_ne HO_12.out BK255.out (by decide)));replace HO259:=ak (Kd.R_after (ok:=(fun _ => True)) (by refine bR ?_;exact Kd.R_mono HO259.out (fun _ hk => ⟨trivial,hk⟩)) hg hat);replace HB:=ak (hb);have HO262:=ak (ho);clear HO_12;clear ho hb hg hat))
          go_roundg k2
          case measure => have:=HK1.out;have:=HK2.out;omega
          case rel => exact ⟨(y257),(y260),(wrap64 (x13_2 + ((rd_T70 ((rd_T63 l0_1 x30_1).f2) x38_2).f1))),(wrap64 (x38_2 + 1)),ZZ0ab324,ZZ0ab324,H,kle,⟨(by refine bR ?_;exact Kd.R_mono HO259.out (fun _ hk => hk.2))⟩,⟨(zR HO262)⟩,⟨(zB BK241)⟩,⟨(zB BK253)⟩,⟨ZZ295621⟩⟩
         replace c29:=Bool.eq_false_iff.mpr c29;subst c29;replace H:=ifF H;replace H:=ak H;have p254 : 0 ≤ (x38_2 : Int):=of_decide_eq_true ZZ853400;have q254 : x38_2 < (((rd_T63 l0_1 x30_1).f2).length : Int):=of_decide_eq_true ZZ853400;obtain ⟨ad254,e254,hx254_0,hx254_1⟩:=at_T70 HR252_2.out x38_2 p254 q254
         cases e254
         replace hx254_0:=bc HB hx254_0;replace hx254_1:=bc HB hx254_1;replace p254:=eq_true p254;replace q254:=eq_true q254;go_wp2_with (first | ((with_reducible refine gate_dst (N:=17) rfl ?_);refine bx 17 (cs:=#[.int .i64 0,.int .i64 0]) (t:=70) ?_;intro gb255 hg w40 hbox hb;replace HO_11:=Kd.rb HO_11 hb;replace HO_12:=Kd.rb HO_12 hb;have BK255:=ak (hbox);have GW255:=gw hg;have GE255:=gw hg;replace HB:=hB hb;have NB241_255:=nl hg BK241;have NB255_241:=ng hg BK241;replace BK241:=kb BK241 hb;have NB253_255:=nl hg BK253;have NB255_253:=ng hg BK253;replace BK253:=kb BK253 hb;clear hb hbox hg;have hnb41:=NB255_241.out;have hnc41:=NB241_255.out;have hnb42:=NB255_253.out;have hnc42:=NB253_255.out;obtain ⟨hcz43_0,hcz43_1,hfz43_0,hfz43_1⟩:=z2 BK255;have hnb44:=NB253_241.out;have hnc44:=NB241_253.out;obtain ⟨hcz45_0,hcz45_1,hcz45_2,hfz45_0,hfz45_1,hfz45_2⟩:=z3 BK253) | (refine gc 54 Tryd.func56 #[.int .i64 ((rd_T63 l0_1 x30_1).f0),.int .i64 a2,.int .i64 a3] ?_;(with_reducible refine (impl_within.calls ((rd_T63 l0_1 x30_1).f0) a2 a3 false _ A28.out).mono ?_);rintro e w' ⟨rfl,⟨nd,rfl⟩⟩;refine ⟨_,rfl,?_⟩))
         go_roundg k2
         case measure => have:=HK1.out;have:=HK2.out;omega
         case rel => exact ⟨(x11_2),(x12_2),(wrap64 (x13_2 + ((rd_T70 ((rd_T63 l0_1 x30_1).f2) x38_2).f1))),(wrap64 (x38_2 + 1)),ZZ0ab324,ZZ0ab324,H,kle,⟨ZZ8d16d5⟩,⟨(by refine bR ?_;exact Kd.R_mono (Kd.rf (Kd.rf (Kd.R_types HO_12.out BK255.out (by decide)))) (fun _ hk => hk.1))⟩,⟨ZZ9df8f5⟩,⟨ZZaab597⟩,⟨ZZ295621⟩⟩
        rw [if_neg c27] at H;have c27b0:=beq_eq_false_iff_ne.mpr c27;have c27b1:=bne_iff_ne.mpr c27;replace H:=ak H;have p254 : 0 ≤ (x38_2 : Int):=of_decide_eq_true ZZ853400;have q254 : x38_2 < (((rd_T63 l0_1 x30_1).f2).length : Int):=of_decide_eq_true ZZ853400;obtain ⟨ad254,e254,hx254_0,hx254_1⟩:=at_T70 HR252_2.out x38_2 p254 q254
        cases e254
        replace hx254_0:=bc HB hx254_0;replace hx254_1:=bc HB hx254_1;replace p254:=eq_true p254;replace q254:=eq_true q254;go_wp2_with (first | ((with_reducible refine gate_dst (N:=17) rfl ?_);refine bx 17 (cs:=#[.int .i64 0,.int .i64 0]) (t:=70) ?_;intro gb255 hg w46 hbox hb;replace HO_11:=Kd.rb HO_11 hb;replace HO_12:=Kd.rb HO_12 hb;have BK255:=ak (hbox);have GW255:=gw hg;have GE255:=gw hg;replace HB:=hB hb;have NB241_255:=nl hg BK241;have NB255_241:=ng hg BK241;replace BK241:=kb BK241 hb;have NB253_255:=nl hg BK253;have NB255_253:=ng hg BK253;replace BK253:=kb BK253 hb;clear hb hbox hg;have hnb47:=NB255_241.out;have hnc47:=NB241_255.out;have hnb48:=NB255_253.out;have hnc48:=NB253_255.out;obtain ⟨hcz49_0,hcz49_1,hfz49_0,hfz49_1⟩:=z2 BK255))
        go_roundg k2
        case measure => have:=HK1.out;have:=HK2.out;omega
        case rel => exact ⟨(x11_2),(x12_2),(x13_2),(wrap64 (x38_2 + 1)),ZZ0ab324,ZZ0ab324,H,kle,⟨ZZ8d16d5⟩,⟨(by refine bR ?_;exact Kd.R_mono (Kd.rf (Kd.rf (Kd.R_types HO_12.out BK255.out (by decide)))) (fun _ hk => hk.1))⟩,⟨ZZ9df8f5⟩,⟨ZZaab597⟩,⟨ZZ295621⟩⟩
       rw [if_neg c24] at H;have c24b0:=decide_eq_false c24;clear c24;replace H:=ak H;go_wp2
       go_roundg k2
       case measure => have:=HK1.out;have:=HK2.out;omega
       case rel => exact ⟨(x11_2),(x12_2),(x13_2),(wrap64 (x30_1 + 1)),ZZ0ab324,ZZ0ab324,H,kle,⟨(zR HO_11)⟩,⟨(zR HO_12)⟩,⟨(zB BK241)⟩,⟨ZZ295621⟩⟩
    rw [if_neg c18] at H;have c18b0:=decide_eq_false c18;clear c18;simp only [Option.some.injEq,Prod.mk.injEq] at H;obtain ⟨rfl,rfl,rfl⟩:=H;go_wp2
    go_ret3
    exact ⟨_,_,ZZab01d2,(zR HO_11),(zR HO_12),ZZ295621⟩
 replace c6:=Bool.eq_false_iff.mpr c6;subst c6;replace H:=ifF H;simp only [Option.some.injEq,Prod.mk.injEq] at H;obtain ⟨rfl,rfl,rfl⟩:=H
 go_enter Tryd.func29,Tryd.ntmps29
 go_wp2_with (first | ((with_reducible refine gate_dst (N:=4) rfl ?_);refine bx 4 (cs:=#[.slice A0_0 l0_0.length c0_0,.slice A0_1 l0_1.length c0_1]) (t:=31) ?_;intro gb241 hg w50 hbox hb;have BK241:=ak (hbox);have GW241:=gw hg;have GE241:=gw hg;replace HB:=hB hb;clear hb hbox hg;obtain ⟨hcz51_0,hcz51_1,hfz51_0,hfz51_1⟩:=z2 BK241) | ((with_reducible refine gate_dst (N:=22) rfl ?_);refine Kd.R_lit (Kd.int .i64) _ 3 ?hg (N:=22) ?hd (xs:=([a2,a3] : List Int)) (inner:=[.int .i64 a2,.int .i64 a3]) (ok:=fun _ => True) (okp:=fun _ => True) ?hr ?hp (fun _ hk => hk) trivial (Below.refl _ _) (Nat.le_refl _) (by simp) ?_;(case hd => rfl);(case hg => rfl);(case hr => first | (go_simp;done) | (go_simp;rfl));(case hp => exact (Reps.one (show Kd.M (Kd.int .i64) _ _ _ a2 [.int .i64 a2] from rfl) (Reps.one (show Kd.M (Kd.int .i64) _ _ _ a3 [.int .i64 a3] from rfl) (Reps.none _ _))));intro v243 w52 ho53 hb hg_ hnew_;clear hg_ hnew_;(first | rw [← Ny242.out] at ho53 | (simp only [Int.reduceToNat] at ho53;rw [← Ny242.out] at ho53));have HO244:=ak (Kd.R_lower ho53 (below_size ZZ295621));replace BK241:=kb BK241 hb;replace HB:=hB hb;clear hb ho53;obtain ⟨Ao54,co54,eo54⟩:=Kd.R_slice HO244.out;subst eo54) | (refine gc 23 Tryd.func68 #[.agg #[.slice A0_0 l0_0.length c0_0,.slice A0_1 l0_1.length c0_1],.int .i64 a1,.slice Ao54 y242.length co54] ?_;(with_reducible refine (impl_isAccount.calls k _ _ l0_0 _ _ l0_1 a1 _ _ y242 false _ ?side1 ?side2 ?side3 ?side4 ?side5 ?side6 A5.out).mono ?_);(case side1 => exact (rC (Kd.C_below HR0_0.out HB.out)));(case side2 => exact HC0_0.out);(case side3 => exact (rC (Kd.C_below HR0_1.out HB.out)));(case side4 => exact HC0_1.out);(case side5 => exact rC (Kd.R_reads' HO244.out).2.2);(case side6 => exact (Kd.R_reads' HO244.out).2.1);rintro e w55 ⟨rfl,hb⟩;refine ⟨_,rfl,?_⟩;replace HO244:=Kd.rb HO244 hb;replace BK241:=kb BK241 hb;replace HB:=hB hb;(try clear hb);(try clear hb2);(try clear hk);(try clear hi)))
 go_ret3
 exact ⟨_,_,ZZab01d2,ZZf4214b,ZZf4214b,ZZ295621⟩
/-- A state of type 93 at block g of W; what its slices lead to came in by w0. -/
def IsS93 (w0 W : World) (g : Nat) (f0 : List Int) (f1 : Int) (f2 : Int) : Prop:=∃ A0 c0,W.heap[g]? = some (.cells #[.slice A0 f0.length c0,.int .i64 f1,.int .u64 f2] 93 (0,0)) ∧ w0.heap.size ≤ g ∧ Kd.C (Kd.int .u8) w0 A0 f0.length f0
theorem IsS93.grown {w0 W : World} {g : Nat} {f0 : List Int} {f1 : Int} {f2 : Int} {W1 : World} {row : Option Nat} (h : IsS93 w0 W g f0 f1 f2) (hw : W.grownBy W1 row) (hne : some g ≠ row) : IsS93 w0 W1 g f0 f1 f2:=by
 obtain ⟨A0,c0,hb,hg,hr0⟩:=h;exact ⟨A0,c0,blk_grown hb hw hne,hg,hr0⟩
theorem IsS93.own_neN {w0 W : World} {g : Nat} {f0 : List Int} {f1 : Int} {f2 : Int} {α : Type} {d : Kd α} {e : Nat} {base : Nat} {ok : Nat → Prop} {v : Value} {xs : List α} (h : IsS93 w0 W g f0 f1 f2) (ho : Kd.N d e W base ok v xs) (ht : e ≠ 93) : some g ≠ v.ownBlock:=by
 obtain ⟨A0,c0,hb,hg,hr0⟩:=h;exact Kd.N_ne ho hb ht
theorem IsS93.fresh {w0 W : World} {g : Nat} {f0 : List Int} {f1 : Int} {f2 : Int} (h : IsS93 w0 W g f0 f1 f2) : ∀ k,W.heap.size ≤ k → k ≠ g:=by
 obtain ⟨A0,c0,hb,hg,hr0⟩:=h;exact Kd.freshB hb
theorem IsS93.kept {w0 W : World} {g : Nat} {f0 : List Int} {f1 : Int} {f2 : Int} {W1 : World} {S : Nat → Prop} (h : IsS93 w0 W g f0 f1 f2) (hk : Kept W W1 S) (hne : ¬ S g) : IsS93 w0 W1 g f0 f1 f2:=by
 obtain ⟨A0,c0,hb,hg,hr0⟩:=h;exact ⟨A0,c0,blk_kept hb hk hne,hg,hr0⟩
theorem IsS93.below {w0 W : World} {g : Nat} {f0 : List Int} {f1 : Int} {f2 : Int} {W1 : World} (h : IsS93 w0 W g f0 f1 f2) (hw : Below W.heap.size W W1) : IsS93 w0 W1 g f0 f1 f2:=h.grown (grown_of_below hw none) (by simp)
theorem IsS93.alloc {w0 W : World} {g : Nat} {f0 : List Int} {f1 : Int} {f2 : Int} (h : IsS93 w0 W g f0 f1 f2) (o : Obj) : IsS93 w0 (W.alloc o) g f0 f1 f2:=h.below (below_alloc (Below.refl _ _) o)
theorem IsS93.drewN {w0 W : World} {g : Nat} {f0 : List Int} {f1 : Int} {f2 : Int} (h : IsS93 w0 W g f0 f1 f2) (m : Nat) : IsS93 w0 (W.drewN m) g f0 f1 f2:=h
theorem IsS93.drew {w0 W : World} {g : Nat} {f0 : List Int} {f1 : Int} {f2 : Int} (h : IsS93 w0 W g f0 f1 f2) : IsS93 w0 W.drew g f0 f1 f2:=h
theorem IsS93.at_ {w0 W : World} {g : Nat} {f0 : List Int} {f1 : Int} {f2 : Int} {w' : World} {m : Nat} (hq : W.drewN m = w') (h : IsS93 w0 W g f0 f1 f2) : IsS93 w0 w' g f0 f1 f2:=by subst hq;exact IsS93.drewN h m
theorem IsS93.apart {w0 W : World} {g : Nat} {f0 : List Int} {f1 : Int} {f2 : Int} {α : Type} {d : Kd α} {e : Nat} {base : Nat} {ok : Nat → Prop} {v : Value} {xs : List α} (h : IsS93 w0 W g f0 f1 f2) (ho : d.R e W base ok v xs) (ht : ∀ q,q ∈ e :: d.E → q ≠ 93) : d.R e W base (fun k => ok k ∧ k ≠ g) v xs:=by
 obtain ⟨A0,c0,hb,hg,hr0⟩:=h;exact Kd.R_types ho hb ht
theorem IsS93.own_ne {w0 W : World} {g : Nat} {f0 : List Int} {f1 : Int} {f2 : Int} {α : Type} {d : Kd α} {e : Nat} {base : Nat} {ok : Nat → Prop} {v : Value} {xs : List α} (h : IsS93 w0 W g f0 f1 f2) (ho : d.R e W base ok v xs) (ht : e ≠ 93) : some g ≠ v.ownBlock:=by
 obtain ⟨A0,c0,hb,hg,hr0⟩:=h;exact Kd.R_ne ho hb ht
theorem IsS93.apartQ {w0 W : World} {g : Nat} {f0 : List Int} {f1 : Int} {f2 : Int} {α : Type} {d : Kd α} {e : Nat} {base : Nat} {ok : Nat → Prop} {v : Value} {xs : List α} (h : IsS93 w0 W g f0 f1 f2) (ho : d.Q e W base ok v xs) (ht : ∀ q,q ∈ e :: d.E → q ≠ 93) : d.Q e W base (fun k => ok k ∧ k ≠ g) v xs:=by
 obtain ⟨A0,c0,hb,hg,hr0⟩:=h;exact Kd.Q_types ho hb ht
theorem IsS93.own_neQ {w0 W : World} {g : Nat} {f0 : List Int} {f1 : Int} {f2 : Int} {α : Type} {d : Kd α} {e : Nat} {base : Nat} {ok : Nat → Prop} {v : Value} {xs : List α} (h : IsS93 w0 W g f0 f1 f2) (ho : d.Q e W base ok v xs) (ht : e ≠ 93) : some g ≠ v.ownBlock:=by
 obtain ⟨A0,c0,hb,hg,hr0⟩:=h;exact Kd.Q_ne ho hb ht
theorem IsS93.apartS {w0 W : World} {g : Nat} {f0 : List Int} {f1 : Int} {f2 : Int} {α : Type} {d : Kd α} {e : Nat} {base : Nat} {ok : Nat → Prop} {v : Value} {xs : List α} (h : IsS93 w0 W g f0 f1 f2) (ho : d.S e W base ok v xs) (ht : ∀ q,q ∈ e :: d.E → q ≠ 93) : d.S e W base (fun k => ok k ∧ k ≠ g) v xs:=by
 obtain ⟨A0,c0,hb,hg,hr0⟩:=h;exact Kd.S_types ho hb ht
theorem IsS93.own_neS {w0 W : World} {g : Nat} {f0 : List Int} {f1 : Int} {f2 : Int} {α : Type} {d : Kd α} {e : Nat} {base : Nat} {ok : Nat → Prop} {v : Value} {xs : List α} (h : IsS93 w0 W g f0 f1 f2) (ho : d.S e W base ok v xs) (ht : e ≠ 93) : some g ≠ v.ownBlock:=by
 obtain ⟨A0,c0,hb,hg,hr0⟩:=h;exact Kd.S_ne ho hb ht
theorem IsS93.lt {w0 W : World} {g : Nat} {f0 : List Int} {f1 : Int} {f2 : Int} (h : IsS93 w0 W g f0 f1 f2) : g < W.heap.size:=by
 obtain ⟨A0,c0,hb,hg,hr0⟩:=h;exact blk_lt hb
theorem IsS93.ge {w0 W : World} {g : Nat} {f0 : List Int} {f1 : Int} {f2 : Int} (h : IsS93 w0 W g f0 f1 f2) : w0.heap.size ≤ g:=by
 obtain ⟨A0,c0,hb,hg,hr0⟩:=h;exact hg
theorem IsS93.ne_blk {w0 W : World} {g : Nat} {f0 : List Int} {f1 : Int} {f2 : Int} {a : Nat} {cs : Array Value} {t : TypeId} {fr : Nat × Nat} (h : IsS93 w0 W g f0 f1 f2) (hb2 : W.heap[a]? = some (.cells cs t fr)) (ht : t ≠ 93) : g ≠ a:=by
 obtain ⟨A0,c0,hb,hg,hr0⟩:=h;rintro rfl;rw [hb] at hb2
 injection hb2 with hb2
 injection hb2 with _ ht2
 exact ht ht2.symm
theorem IsS93.far {w0 W : World} {g : Nat} {f0 : List Int} {f1 : Int} {f2 : Int} {p : Addr} (h : IsS93 w0 W g f0 f1 f2) (hne : g ≠ p.block) (u : Value) : IsS93 w0 (W.setCell p u) g f0 f1 f2:=by
 obtain ⟨A0,c0,hb,hg,hr0⟩:=h;exact ⟨A0,c0,blk_far hb hne u,hg,hr0⟩
theorem cellS93_0 {W : World} {g : Nat} {A0 : Option Addr} {c0 : Nat} {f0 : List Int} {f1 : Int} {f2 : Int} (h : W.heap[g]? = some (.cells #[.slice A0 f0.length c0,.int .i64 f1,.int .u64 f2] 93 (0,0))) : W.cell? ⟨g,0,none⟩ = some (.slice A0 f0.length c0):=(blk_cell h 0).trans rfl
theorem cellS93_1 {W : World} {g : Nat} {A0 : Option Addr} {c0 : Nat} {f0 : List Int} {f1 : Int} {f2 : Int} (h : W.heap[g]? = some (.cells #[.slice A0 f0.length c0,.int .i64 f1,.int .u64 f2] 93 (0,0))) : W.cell? ⟨g,1,none⟩ = some (.int .i64 f1):=(blk_cell h 1).trans rfl
theorem IsS93.set_1 {w0 W : World} {g : Nat} {f0 : List Int} {f1 : Int} {f2 : Int} (h : IsS93 w0 W g f0 f1 f2) (x : Int) : IsS93 w0 (W.setCell ⟨g,1,none⟩ (.int .i64 x)) g f0 x f2:=by
 obtain ⟨A0,c0,hb,hg,hr0⟩:=h;exact ⟨A0,c0,(by simpa using blk_set hb 1 (.int .i64 x)),hg,hr0⟩
theorem cellS93_2 {W : World} {g : Nat} {A0 : Option Addr} {c0 : Nat} {f0 : List Int} {f1 : Int} {f2 : Int} (h : W.heap[g]? = some (.cells #[.slice A0 f0.length c0,.int .i64 f1,.int .u64 f2] 93 (0,0))) : W.cell? ⟨g,2,none⟩ = some (.int .u64 f2):=(blk_cell h 2).trans rfl
theorem IsS93.set_2 {w0 W : World} {g : Nat} {f0 : List Int} {f1 : Int} {f2 : Int} (h : IsS93 w0 W g f0 f1 f2) (x : Int) : IsS93 w0 (W.setCell ⟨g,2,none⟩ (.int .u64 x)) g f0 f1 x:=by
 obtain ⟨A0,c0,hb,hg,hr0⟩:=h;exact ⟨A0,c0,(by simpa using blk_set hb 2 (.int .u64 x)),hg,hr0⟩
theorem IsS93.new (w0 W : World) (A0 : Option Addr) (c0 : Nat) (f0 : List Int) (f1 : Int) (f2 : Int) (hB : Below w0.heap.size w0 W) (hr0 : Kd.C (Kd.int .u8) w0 A0 f0.length f0) : IsS93 w0 (W.alloc (.cells #[.slice A0 f0.length c0,.int .i64 f1,.int .u64 f2] 93)) W.heap.size f0 f1 f2:=⟨A0,c0,(by simpa using heap_alloc_new W _),hB.size,hr0⟩
def spec_l1Cur_next.j0 : Nat → Int → List Int → Int → Int → Option (Int × Int × Int)
 | 0,_,_,_,_ => none
 | k + 1,x3,x1000,x1001,x1002 => if (wrap64 (x1001 + 1)) ≤ (x1000.length : Int) then (some (x3,wrap64 (x1001 + 1),IntKind.u64.wrap ((IntKind.u64.wrap ((IntKind.u64.wrap (x1002 * 6364136223846793005)) + (IntKind.u64.wrap (x3)))) + 902902))) else (some (wrap64 (Go.bits .and .u64 ((IntKind.u64.wrap ((IntKind.u64.wrap ((IntKind.u64.wrap (x1002 * 6364136223846793005)) + (IntKind.u64.wrap (x3)))) + 902902)) / 1099511627776) 255),wrap64 (x1001 + 1),IntKind.u64.wrap ((IntKind.u64.wrap ((IntKind.u64.wrap (x1002 * 6364136223846793005)) + (IntKind.u64.wrap (x3)))) + 902902)))
def spec_l1Cur_next.f (k : Nat) (s0_0 : List Int) (s0_1 : Int) (s0_2 : Int) : Option (Int × Int × Int):=if s0_1 < (s0_0.length : Int) then (if 0 ≤ s0_1 then (spec_l1Cur_next.j0 k (wrap64 (rd s0_0 s0_1)) s0_0 s0_1 s0_2) else (none)) else (spec_l1Cur_next.j0 k 0 s0_0 s0_1 s0_2)
theorem spec_l1Cur_next.mono_l : ∀ k,(∀ y0 y1 y2 y3,LeO (spec_l1Cur_next.j0 k y0 y1 y2 y3) (spec_l1Cur_next.j0 (k + 1) y0 y1 y2 y3))
 | 0 => fun _ _ _ _ r h => by simp [spec_l1Cur_next.j0] at h
 | k + 1 => by
  have ih0:=spec_l1Cur_next.mono_l k
  ·intro y0 y1 y2 y3;unfold spec_l1Cur_next.j0;repeat' with_reducible first | apply ih0 | exact LeO.refl _ | exact LeO.none _ | refine LeO.ite ?_ ?_ | refine LeO.bind ?_ (fun _ => ?_)
theorem spec_l1Cur_next.mono : ∀ a0 a1 a2 k,LeO (spec_l1Cur_next.f k a0 a1 a2) (spec_l1Cur_next.f (k + 1) a0 a1 a2):=by
 intro a0 a1 a2 k;have ih0:=spec_l1Cur_next.mono_l k;unfold spec_l1Cur_next.f;repeat' with_reducible first | apply ih0 | exact LeO.refl _ | exact LeO.none _ | refine LeO.ite ?_ ?_ | refine LeO.bind ?_ (fun _ => ?_)
set_option maxHeartbeats 8000000 in
set_option maxRecDepth 100000 in
theorem spec_l1Cur_next.calls (k : Nat) (g : Nat) (s0_0 : List Int) (s0_1 : Int) (s0_2 : Int) (r1 : Int) (r2 : Int) (r3 : Int) (w0 w : World) (hI : IsS93 w0 w g s0_0 s0_1 s0_2) (hB : Below w0.heap.size w0 w) (h : spec_l1Cur_next.f k s0_0 s0_1 s0_2 = some (r1,r2,r3)) :
 Calls Tryd.prog 109 #[.pointer (some ⟨g,0,none⟩)] w fun e w' => e = .returned (.int .i64 r1) ∧ IsS93 w0 w' g s0_0 r2 r3 ∧ Below w0.heap.size w0 w' ∧ KeepBut w w' g none:=by
 have HI0:=ak hI;have GES_:=ak (IsS93.ge hI);have HK:=ak (KeepBut.refl w g none);have HL:=ak hB.size;clear hI;have HW0:=ak hB.size;have HB:=ak hB;clear hB;have H:=h;clear h;unfold spec_l1Cur_next.f at H;have HC2:=ak H;clear H;obtain ⟨ASz3_0,cSz3_0,HGz3,hgz3,HSz3_0⟩:=HI0.out;have hcz3_0:=cellS93_0 HGz3;have hcz3_1:=cellS93_1 HGz3;have hcz3_2:=cellS93_2 HGz3;have hfz3_1:=blk_frozen HGz3 1;have hfz3_2:=blk_frozen HGz3 2;clear HGz3 hgz3
 go_enter Tryd.func109,Tryd.ntmps109
 go_upto_if 13 with (fail)
 repeat (go_quiet (fail);go_upto_if 13 with (fail))
 go_cut [3] (fun v3 wc => ∃ (kq : Nat) (x3_1 : Int),v3 = .int .i64 x3_1 ∧ Aside0 (spec_l1Cur_next.j0 kq x3_1 s0_0 s0_1 s0_2 = some (r1,r2,r3)) ∧ Aside0 (kq ≤ k) ∧ Aside0 (IsS93 w0 wc g s0_0 s0_1 s0_2) ∧ Aside0 (KeepBut w wc g none) ∧ Aside0 (Below w0.heap.size w0 wc))
 case first =>
  have H:=HC2.out;clear HC2;by_cases c4 : s0_1 < (s0_0.length : Int)
  ·rw [if_pos c4] at H;have c4b0:=decide_eq_true c4;clear c4;(first | rw [c4b0] | (simp only [i64_w,i32_w];rw [c4b0]) | skip);obtain ⟨c5b0,H⟩:=ifYd H;replace H:=ak H;try clear hcz3_0 hcz3_1 hcz3_2 hfz3_1 hfz3_2
   obtain ⟨ASz6_0,cSz6_0,HGz6,hgz6,HSz6_0⟩:=HI0.out;have hcz6_0:=cellS93_0 HGz6;have hcz6_1:=cellS93_1 HGz6;have hcz6_2:=cellS93_2 HGz6;have hfz6_1:=blk_frozen HGz6 1;have hfz6_2:=blk_frozen HGz6 2;clear HGz6 hgz6;have p263 : 0 ≤ (s0_1 : Int):=of_decide_eq_true ZZ853400;have q263 : s0_1 < (s0_0.length : Int):=of_decide_eq_true ZZ853400;obtain ⟨ad263,e263,hx263_0⟩:=Kd.at_int HSz6_0 s0_1 p263 q263
   cases e263
   replace hx263_0:=pw_cell_below HB.out hx263_0;replace p263:=eq_true p263;replace q263:=eq_true q263;go_wp2;repeat (go_quiet (fail);try go_wp2)
   go_meet
   case rel => exact ⟨_,(wrap64 (rd s0_0 s0_1)),ZZ0ab324,H,kle,⟨ZZ6b3774⟩,⟨ZZ9f3a2f⟩,⟨ZZ3665a6⟩⟩
  rw [if_neg c4] at H;have c4b0:=decide_eq_false c4;clear c4;(first | rw [c4b0] | (simp only [i64_w,i32_w];rw [c4b0]) | skip);replace H:=ak H;go_wp2;repeat (go_quiet (fail);try go_wp2)
  go_meet
  case rel => exact ⟨_,(0),ZZ0ab324,H,kle,⟨ZZ6b3774⟩,⟨ZZ9f3a2f⟩,⟨ZZ3665a6⟩⟩
 case rest =>
  clear HC2;try clear c4
  try clear c4b0
  try clear c5b0
  try clear hcz3_0
  try clear hcz3_1
  try clear hcz3_2
  try clear hcz6_0
  try clear hcz6_1
  try clear hcz6_2
  try clear hfz3_1
  try clear hfz3_2
  try clear hfz6_1
  try clear hfz6_2
  try clear hx263_0
  try clear p263
  try clear q263
  obtain ⟨kq,x3_1,rfl,HA,HJ1,HI0,HK,HB⟩:=hcut
  cases kq with
  | zero => exact absurd HA.out (by simp [spec_l1Cur_next.j0])
  | succ kj1 =>
   have H:=HA.out;clear HA;simp only [spec_l1Cur_next.j0] at H;by_cases c7 : (wrap64 (s0_1 + 1)) ≤ (s0_0.length : Int)
   ·rw [if_pos c7] at H;have c7b0:=decide_eq_true c7;clear c7;simp only [Option.some.injEq,Prod.mk.injEq] at H;obtain ⟨rfl,rfl,rfl⟩:=H;obtain ⟨ASz8_0,cSz8_0,HGz8,hgz8,HSz8_0⟩:=HI0.out;have hcz8_0:=cellS93_0 HGz8;have hcz8_1:=cellS93_1 HGz8;have hcz8_2:=cellS93_2 HGz8;have hfz8_1:=blk_frozen HGz8 1;have hfz8_2:=blk_frozen HGz8 2;clear HGz8 hgz8;go_wp2;repeat (go_quiet (fail);try go_wp2)
    go_ret;exact ⟨ZZab01d2,ZZ6b3774,ZZ3665a6,ZZ9f3a2f⟩
   rw [if_neg c7] at H;have c7b0:=decide_eq_false c7;clear c7;simp only [Option.some.injEq,Prod.mk.injEq] at H;obtain ⟨rfl,rfl,rfl⟩:=H;obtain ⟨ASz9_0,cSz9_0,HGz9,hgz9,HSz9_0⟩:=HI0.out;have hcz9_0:=cellS93_0 HGz9;have hcz9_1:=cellS93_1 HGz9;have hcz9_2:=cellS93_2 HGz9;have hfz9_1:=blk_frozen HGz9 1;have hfz9_2:=blk_frozen HGz9 2;clear HGz9 hgz9;go_wp2;repeat (go_quiet (fail);try go_wp2)
   go_ret;exact ⟨ZZab01d2,ZZ6b3774,ZZ3665a6,ZZ9f3a2f⟩
def spec_l1Cur_pick.f (k : Nat) (s0_0 : List Int) (s0_1 : Int) (s0_2 : Int) (a1 : Int) : Option (Int × Int × Int):=if a1 ≤ 1 then (some (0,s0_1,s0_2)) else ((spec_l1Cur_next.f k s0_0 s0_1 s0_2).bind fun bt264 => (if a1 > 200 then ((spec_l1Cur_next.f k s0_0 bt264.2.1 bt264.2.2).bind fun bt267 => (if a1 = 0 then (none) else (some (Int.tmod (wrap64 ((wrap64 (bt264.1 * 256)) + bt267.1)) a1,bt267.2.1,bt267.2.2)))) else (if a1 = 0 then (none) else (some (Int.tmod bt264.1 a1,bt264.2.1,bt264.2.2)))))
theorem spec_l1Cur_pick.mono : ∀ a0 a1 a2 a3 k,LeO (spec_l1Cur_pick.f k a0 a1 a2 a3) (spec_l1Cur_pick.f (k + 1) a0 a1 a2 a3):=by
 intro a0 a1 a2 a3 k;unfold spec_l1Cur_pick.f;repeat' with_reducible first | apply spec_l1Cur_next.mono | exact LeO.refl _ | exact LeO.none _ | refine LeO.ite ?_ ?_ | refine LeO.bind ?_ (fun _ => ?_)
set_option maxHeartbeats 8000000 in
set_option maxRecDepth 100000 in
theorem spec_l1Cur_pick.calls (k : Nat) (g : Nat) (s0_0 : List Int) (s0_1 : Int) (s0_2 : Int) (a1 : Int) (r1 : Int) (r2 : Int) (r3 : Int) (w0 w : World) (hI : IsS93 w0 w g s0_0 s0_1 s0_2) (hB : Below w0.heap.size w0 w) (h : spec_l1Cur_pick.f k s0_0 s0_1 s0_2 a1 = some (r1,r2,r3)) :
 Calls Tryd.prog 75 #[.pointer (some ⟨g,0,none⟩),.int .i64 a1] w fun e w' => e = .returned (.int .i64 r1) ∧ IsS93 w0 w' g s0_0 r2 r3 ∧ Below w0.heap.size w0 w' ∧ KeepBut w w' g none:=by
 have HI0:=ak hI;have GES_:=ak (IsS93.ge hI);have HK:=ak (KeepBut.refl w g none);have HL:=ak hB.size;clear hI;have HW0:=ak hB.size;have HB:=ak hB;clear hB;have H:=h;clear h;unfold spec_l1Cur_pick.f at H;by_cases c3 : a1 ≤ 1
 ·rw [if_pos c3] at H;have c3b0:=decide_eq_true c3;clear c3;simp only [Option.some.injEq,Prod.mk.injEq] at H;obtain ⟨rfl,rfl,rfl⟩:=H
  go_enter Tryd.func75,Tryd.ntmps75
  go_wp2;go_ret;exact ⟨ZZab01d2,ZZ6b3774,ZZ3665a6,ZZ9f3a2f⟩
 rw [if_neg c3] at H;have c3b0:=decide_eq_false c3;clear c3;obtain ⟨⟨t264,t265,t266⟩,A4,H⟩:=bdY H;try dsimp only at H
 by_cases c5 : a1 > 200
 ·rw [if_pos c5] at H;have c5b0 : decide (200 < a1) = true:=decide_eq_true c5;clear c5;obtain ⟨⟨t267,t268,t269⟩,A6,H⟩:=bdY H;try dsimp only at H
  obtain ⟨c7,H⟩:=ifN H;have c7b0:=beq_eq_false_iff_ne.mpr c7;have c7b1:=bne_iff_ne.mpr c7;simp only [Option.some.injEq,Prod.mk.injEq] at H;obtain ⟨rfl,rfl,rfl⟩:=H
  go_enter Tryd.func75,Tryd.ntmps75
  go_wp2_with (first | (refine gc 9 Tryd.func109 #[.pointer (some ⟨g,0,none⟩)] ?_;(with_reducible refine (spec_l1Cur_next.calls k g s0_0 s0_1 s0_2 t264 t265 t266 w0 _ ?side1 ?side2 A4.out).mono ?_);(case side1 => exact ZZ6b3774);(case side2 => exact bw);rintro e w8 ⟨rfl,hi,hb,hk⟩;refine ⟨_,rfl,?_⟩;replace HK:=ak (KeepBut.trans ZZ9f3a2f hk (.inl rfl));replace HB:=ak (hb);replace HI0:=ak (hi);(try clear hb);(try clear hb2);(try clear hk);(try clear hi)) | (refine gc 15 Tryd.func109 #[.pointer (some ⟨g,0,none⟩)] ?_;(with_reducible refine (spec_l1Cur_next.calls k g s0_0 t265 t266 t267 t268 t269 w0 _ ?side1 ?side2 A6.out).mono ?_);(case side1 => exact ZZ6b3774);(case side2 => exact bw);rintro e w9 ⟨rfl,hi,hb,hk⟩;refine ⟨_,rfl,?_⟩;replace HK:=ak (KeepBut.trans ZZ9f3a2f hk (.inl rfl));replace HB:=ak (hb);replace HI0:=ak (hi);(try clear hb);(try clear hb2);(try clear hk);(try clear hi)))
  go_ret;exact ⟨ZZab01d2,ZZ6b3774,ZZ3665a6,ZZ9f3a2f⟩
 rw [if_neg c5] at H;have c5b0 : decide (200 < a1) = false:=decide_eq_false c5;clear c5;obtain ⟨c10,H⟩:=ifN H;have c10b0:=beq_eq_false_iff_ne.mpr c10;have c10b1:=bne_iff_ne.mpr c10;simp only [Option.some.injEq,Prod.mk.injEq] at H;obtain ⟨rfl,rfl,rfl⟩:=H
 go_enter Tryd.func75,Tryd.ntmps75
 go_wp2_with (first | (refine gc 9 Tryd.func109 #[.pointer (some ⟨g,0,none⟩)] ?_;(with_reducible refine (spec_l1Cur_next.calls k g s0_0 s0_1 s0_2 t264 t265 t266 w0 _ ?side1 ?side2 A4.out).mono ?_);(case side1 => exact ZZ6b3774);(case side2 => exact bw);rintro e w11 ⟨rfl,hi,hb,hk⟩;refine ⟨_,rfl,?_⟩;replace HK:=ak (KeepBut.trans ZZ9f3a2f hk (.inl rfl));replace HB:=ak (hb);replace HI0:=ak (hi);(try clear hb);(try clear hb2);(try clear hk);(try clear hi)))
 go_ret;exact ⟨ZZab01d2,ZZ6b3774,ZZ3665a6,ZZ9f3a2f⟩
def spec_l1Cur_one.f (k : Nat) (s0_0 : List Int) (s0_1 : Int) (s0_2 : Int) (a1 : Int) : Option (Bool × Int × Int):=(spec_l1Cur_pick.f k s0_0 s0_1 s0_2 a1).bind fun bt270 => (some ((bt270.1 == 0),bt270.2.1,bt270.2.2))
theorem spec_l1Cur_one.mono : ∀ a0 a1 a2 a3 k,LeO (spec_l1Cur_one.f k a0 a1 a2 a3) (spec_l1Cur_one.f (k + 1) a0 a1 a2 a3):=by
 intro a0 a1 a2 a3 k;unfold spec_l1Cur_one.f;repeat' with_reducible first | apply spec_l1Cur_pick.mono | exact LeO.refl _ | exact LeO.none _ | refine LeO.ite ?_ ?_ | refine LeO.bind ?_ (fun _ => ?_)
set_option maxHeartbeats 8000000 in
set_option maxRecDepth 100000 in
theorem spec_l1Cur_one.calls (k : Nat) (g : Nat) (s0_0 : List Int) (s0_1 : Int) (s0_2 : Int) (a1 : Int) (r1 : Bool) (r2 : Int) (r3 : Int) (w0 w : World) (hI : IsS93 w0 w g s0_0 s0_1 s0_2) (hB : Below w0.heap.size w0 w) (h : spec_l1Cur_one.f k s0_0 s0_1 s0_2 a1 = some (r1,r2,r3)) :
 Calls Tryd.prog 74 #[.pointer (some ⟨g,0,none⟩),.int .i64 a1] w fun e w' => e = .returned (.bool r1) ∧ IsS93 w0 w' g s0_0 r2 r3 ∧ Below w0.heap.size w0 w' ∧ KeepBut w w' g none:=by
 have HI0:=ak hI;have GES_:=ak (IsS93.ge hI);have HK:=ak (KeepBut.refl w g none);have HL:=ak hB.size;clear hI;have HW0:=ak hB.size;have HB:=ak hB;clear hB;have H:=h;clear h;unfold spec_l1Cur_one.f at H;obtain ⟨⟨t270,t271,t272⟩,A3,H⟩:=bdY H;try dsimp only at H
 simp only [Option.some.injEq,Prod.mk.injEq] at H;obtain ⟨rfl,rfl,rfl⟩:=H
 go_enter Tryd.func74,Tryd.ntmps74
 go_wp2_with (first | (refine gc 7 Tryd.func75 #[.pointer (some ⟨g,0,none⟩),.int .i64 a1] ?_;(with_reducible refine (spec_l1Cur_pick.calls k g s0_0 s0_1 s0_2 a1 t270 t271 t272 w0 _ ?side1 ?side2 A3.out).mono ?_);(case side1 => exact ZZ6b3774);(case side2 => exact bw);rintro e w4 ⟨rfl,hi,hb,hk⟩;refine ⟨_,rfl,?_⟩;replace HK:=ak (KeepBut.trans ZZ9f3a2f hk (.inl rfl));replace HB:=ak (hb);replace HI0:=ak (hi);(try clear hb);(try clear hb2);(try clear hk);(try clear hi)))
 go_ret;exact ⟨ZZab01d2,ZZ6b3774,ZZ3665a6,ZZ9f3a2f⟩
def spec_l1Cur_among.f (k : Nat) (s0_0 : List Int) (s0_1 : Int) (s0_2 : Int) (l1 : List Int) : Option (Int × Int × Int):=(spec_l1Cur_pick.f k s0_0 s0_1 s0_2 (l1.length : Int)).bind fun bt273 => (if 0 ≤ bt273.1 then (if bt273.1 < (l1.length : Int) then (some (rd l1 bt273.1,bt273.2.1,bt273.2.2)) else (none)) else (none))
theorem spec_l1Cur_among.mono : ∀ a0 a1 a2 a3 k,LeO (spec_l1Cur_among.f k a0 a1 a2 a3) (spec_l1Cur_among.f (k + 1) a0 a1 a2 a3):=by
 intro a0 a1 a2 a3 k;unfold spec_l1Cur_among.f;repeat' with_reducible first | apply spec_l1Cur_pick.mono | exact LeO.refl _ | exact LeO.none _ | refine LeO.ite ?_ ?_ | refine LeO.bind ?_ (fun _ => ?_)
set_option maxHeartbeats 8000000 in
set_option maxRecDepth 100000 in
theorem spec_l1Cur_among.calls (k : Nat) (g : Nat) (s0_0 : List Int) (s0_1 : Int) (s0_2 : Int) (A1 : Option Addr) (c1 : Nat) (l1 : List Int) (r1 : Int) (r2 : Int) (r3 : Int) (w0 w : World) (hI : IsS93 w0 w g s0_0 s0_1 s0_2) (hB : Below w0.heap.size w0 w) (hr1 : Kd.C (Kd.int .i64) w A1 l1.length l1) (hc1 : l1.length ≤ c1) (hf1 : ∀ ad,A1 = some ad → 0 < l1.length → ad.block ≠ g) (h : spec_l1Cur_among.f k s0_0 s0_1 s0_2 l1 = some (r1,r2,r3)) :
 Calls Tryd.prog 95 #[.pointer (some ⟨g,0,none⟩),.slice A1 l1.length c1] w fun e w' => e = .returned (.int .i64 r1) ∧ IsS93 w0 w' g s0_0 r2 r3 ∧ Below w0.heap.size w0 w' ∧ KeepBut w w' g none:=by
 have HR1:=ak hr1;have HC1:=ak hc1;clear hr1 hc1;have HI0:=ak hI;have GES_:=ak (IsS93.ge hI);have HK:=ak (KeepBut.refl w g none);have HL:=ak hB.size;clear hI;have HW0:=ak hB.size;have HB:=ak hB;clear hB;have H:=h;clear h;unfold spec_l1Cur_among.f at H;obtain ⟨⟨t273,t274,t275⟩,A3,H⟩:=bdY H;try dsimp only at H
 obtain ⟨c4b0,H⟩:=ifYd H;obtain ⟨c5b0,H⟩:=ifYd H;simp only [Option.some.injEq,Prod.mk.injEq] at H;obtain ⟨rfl,rfl,rfl⟩:=H
 go_enter Tryd.func95,Tryd.ntmps95
 go_wp2_with (first | (refine gc 9 Tryd.func75 #[.pointer (some ⟨g,0,none⟩),.int .i64 (l1.length : Int)] ?_;(with_reducible refine (spec_l1Cur_pick.calls k g s0_0 s0_1 s0_2 (l1.length : Int) t273 t274 t275 w0 _ ?side1 ?side2 A3.out).mono ?_);(case side1 => exact ZZ6b3774);(case side2 => exact bw);rintro e w6 ⟨rfl,hi,hb,hk⟩;refine ⟨_,rfl,?_⟩;replace HK:=ak (KeepBut.trans ZZ9f3a2f hk (.inl rfl));replace HB:=ak (hb);replace HI0:=ak (hi);(try clear hb);(try clear hb2);(try clear hk);(try clear hi);have p276 : 0 ≤ (t273 : Int):=of_decide_eq_true ZZ853400;have q276 : t273 < (l1.length : Int):=of_decide_eq_true ZZ853400;obtain ⟨ad276,e276,hx276_0⟩:=Kd.at_int HR1.out t273 p276 q276;cases e276;replace hx276_0:=keep_cell HK.out hx276_0 (by first | (rw [add_block];exact hf1 _ rfl (by omega)) | exact hf1 _ rfl (by omega) | exact hf1 ad276 rfl (by omega));replace p276:=eq_true p276;replace q276:=eq_true q276))
 go_ret;exact ⟨ZZab01d2,ZZ6b3774,ZZ3665a6,ZZ9f3a2f⟩
end Go.Proofs.YtccdjchaaeligaaDoor.XFnLedger

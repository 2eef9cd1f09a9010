import Derived.Test.YtccdjchaaeligaaDoorXFnClosing3
import Derived.Test.YtccdjchaaeligaaDoorXFnClosing1
import Derived.Test.YtccdjchaaeligaaDoorXFnClosing0
namespace Go.Proofs.YtccdjchaaeligaaDoor.XFnClosing
open Go.Proofs.YtccdjchaaeligaaDoor.Short Go.RowKit Go.Proofs.YtccdjchaaeligaaDoorW.PrintWords Go.Proofs.YtccdjchaaeligaaDoorW.PrintLast Go.Proofs.YtccdjchaaeligaaDoorW.PrintMore
attribute [local go_sem] max2_int min2_int max_two min_two max_three min_three max_four min_four
set_option linter.unusedVariables false
set_option linter.unusedSimpArgs false
theorem ZZ6b3774 {p : Prop} (h : p:=by repeat (first | (with_reducible first | exact HI0.out | apply IsS93.alloc | apply IsS93.drewN | apply IsS93.drew | apply IsS93.set_1 | apply IsS93.set_2) | exact HI0.out)) : p:=h
theorem ZZ3665a6 {p : Prop} (h : p:=by repeat (first | (with_reducible first | exact HB.out | apply below_alloc | apply pw_below_drewN | apply below_drew1 | refine below_set ?_ (IsS93.ge HI0.out)) | exact HB.out)) : p:=h
/-- A state of type 93 at block g of W; what its slices lead to came in by w0. -/
def IsS93 (w0 W : World) (g : Nat) (f0 : List Int) (f1 : Int) (f2 : Int) : Prop:=∃ A0 c0,W.heap[g]? = some (.cells #[.slice A0 f0.length c0,.int .i64 f1,.int .u64 f2] 93 (0,0)) ∧ w0.heap.size ≤ g ∧ Kd.C (Kd.int .u8) w0 A0 f0.length f0
theorem IsS93.grown {w0 W : World} {g : Nat} {f0 : List Int} {f1 : Int} {f2 : Int} {W1 : World} {row : Option Nat} (h : IsS93 w0 W g f0 f1 f2) (hw : W.grownBy W1 row) (hne : some g ≠ row) : IsS93 w0 W1 g f0 f1 f2:=by
 obtain ⟨A0,c0,hb,hg,hr0⟩:=h;exact ⟨A0,c0,blk_grown hb hw hne,hg,hr0⟩
theorem IsS93.own_neN {w0 W : World} {g : Nat} {f0 : List Int} {f1 : Int} {f2 : Int} {α : Type} {d : Kd α} {e : Nat} {base : Nat} {ok : Nat → Prop} {v : Value} {xs : List α} (h : IsS93 w0 W g f0 f1 f2) (ho : Kd.N d e W base ok v xs) (ht : e ≠ 93) : some g ≠ v.ownBlock:=by
 obtain ⟨A0,c0,hb,hg,hr0⟩:=h;exact Kd.N_ne ho hb ht
theorem IsS93.fresh {w0 W : World} {g : Nat} {f0 : List Int} {f1 : Int} {f2 : Int} (h : IsS93 w0 W g f0 f1 f2) : ∀ k,W.heap.size ≤ k → k ≠ g:=by
 obtain ⟨A0,c0,hb,hg,hr0⟩:=h;exact Kd.freshB hb
theorem IsS93.kept {w0 W : World} {g : Nat} {f0 : List Int} {f1 : Int} {f2 : Int} {W1 : World} {S : Nat → Prop} (h : IsS93 w0 W g f0 f1 f2) (hk : Kept W W1 S) (hne : ¬ S g) : IsS93 w0 W1 g f0 f1 f2:=by
 obtain ⟨A0,c0,hb,hg,hr0⟩:=h;exact ⟨A0,c0,blk_kept hb hk hne,hg,hr0⟩
theorem IsS93.below {w0 W : World} {g : Nat} {f0 : List Int} {f1 : Int} {f2 : Int} {W1 : World} (h : IsS93 w0 W g f0 f1 f2) (hw : Below W.heap.size W W1) : IsS93 w0 W1 g f0 f1 f2:=h.grown (grown_of_below hw none) (by simp)
theorem IsS93.alloc {w0 W : World} {g : Nat} {f0 : List Int} {f1 : Int} {f2 : Int} (h : IsS93 w0 W g f0 f1 f2) (o : Obj) : IsS93 w0 (W.alloc o) g f0 f1 f2:=h.below (below_alloc (Below.refl _ _) o)
theorem IsS93.drewN {w0 W : World} {g : Nat} {f0 : List Int} {f1 : Int} {f2 : Int} (h : IsS93 w0 W g f0 f1 f2) (m : Nat) : IsS93 w0 (W.drewN m) g f0 f1 f2:=h
theorem IsS93.drew {w0 W : World} {g : Nat} {f0 : List Int} {f1 : Int} {f2 : Int} (h : IsS93 w0 W g f0 f1 f2) : IsS93 w0 W.drew g f0 f1 f2:=h
theorem IsS93.at_ {w0 W : World} {g : Nat} {f0 : List Int} {f1 : Int} {f2 : Int} {w' : World} {m : Nat} (hq : W.drewN m = w') (h : IsS93 w0 W g f0 f1 f2) : IsS93 w0 w' g f0 f1 f2:=by subst hq;exact IsS93.drewN h m
theorem IsS93.apart {w0 W : World} {g : Nat} {f0 : List Int} {f1 : Int} {f2 : Int} {α : Type} {d : Kd α} {e : Nat} {base : Nat} {ok : Nat → Prop} {v : Value} {xs : List α} (h : IsS93 w0 W g f0 f1 f2) (ho : d.R e W base ok v xs) (ht : ∀ q,q ∈ e :: d.E → q ≠ 93) : d.R e W base (fun k => ok k ∧ k ≠ g) v xs:=by
 obtain ⟨A0,c0,hb,hg,hr0⟩:=h;exact Kd.R_types ho hb ht
theorem IsS93.own_ne {w0 W : World} {g : Nat} {f0 : List Int} {f1 : Int} {f2 : Int} {α : Type} {d : Kd α} {e : Nat} {base : Nat} {ok : Nat → Prop} {v : Value} {xs : List α} (h : IsS93 w0 W g f0 f1 f2) (ho : d.R e W base ok v xs) (ht : e ≠ 93) : some g ≠ v.ownBlock:=by
 obtain ⟨A0,c0,hb,hg,hr0⟩:=h;exact Kd.R_ne ho hb ht
theorem IsS93.apartQ {w0 W : World} {g : Nat} {f0 : List Int} {f1 : Int} {f2 : Int} {α : Type} {d : Kd α} {e : Nat} {base : Nat} {ok : Nat → Prop} {v : Value} {xs : List α} (h : IsS93 w0 W g f0 f1 f2) (ho : d.Q e W base ok v xs) (ht : ∀ q,q ∈ e :: d.E → q ≠ 93) : d.Q e W base (fun k => ok k ∧ k ≠ g) v xs:=by
 obtain ⟨A0,c0,hb,hg,hr0⟩:=h;exact Kd.Q_types ho hb ht
theorem IsS93.own_neQ {w0 W : World} {g : Nat} {f0 : List Int} {f1 : Int} {f2 : Int} {α : Type} {d : Kd α} {e : Nat} {base : Nat} {ok : Nat → Prop} {v : Value} {xs : List α} (h : IsS93 w0 W g f0 f1 f2) (ho : d.Q e W base ok v xs) (ht : e ≠ 93) : some g ≠ v.ownBlock:=by
 obtain ⟨A0,c0,hb,hg,hr0⟩:=h;exact Kd.Q_ne ho hb ht
theorem IsS93.apartS {w0 W : World} {g : Nat} {f0 : List Int} {f1 : Int} {f2 : Int} {α : Type} {d : Kd α} {e : Nat} {base : Nat} {ok : Nat → Prop} {v : Value} {xs : List α} (h : IsS93 w0 W g f0 f1 f2) (ho : d.S e W base ok v xs) (ht : ∀ q,q ∈ e :: d.E → q ≠ 93) : d.S e W base (fun k => ok k ∧ k ≠ g) v xs:=by
 obtain ⟨A0,c0,hb,hg,hr0⟩:=h;exact Kd.S_types ho hb ht
theorem IsS93.own_neS {w0 W : World} {g : Nat} {f0 : List Int} {f1 : Int} {f2 : Int} {α : Type} {d : Kd α} {e : Nat} {base : Nat} {ok : Nat → Prop} {v : Value} {xs : List α} (h : IsS93 w0 W g f0 f1 f2) (ho : d.S e W base ok v xs) (ht : e ≠ 93) : some g ≠ v.ownBlock:=by
 obtain ⟨A0,c0,hb,hg,hr0⟩:=h;exact Kd.S_ne ho hb ht
theorem IsS93.lt {w0 W : World} {g : Nat} {f0 : List Int} {f1 : Int} {f2 : Int} (h : IsS93 w0 W g f0 f1 f2) : g < W.heap.size:=by
 obtain ⟨A0,c0,hb,hg,hr0⟩:=h;exact blk_lt hb
theorem IsS93.ge {w0 W : World} {g : Nat} {f0 : List Int} {f1 : Int} {f2 : Int} (h : IsS93 w0 W g f0 f1 f2) : w0.heap.size ≤ g:=by
 obtain ⟨A0,c0,hb,hg,hr0⟩:=h;exact hg
theorem IsS93.ne_blk {w0 W : World} {g : Nat} {f0 : List Int} {f1 : Int} {f2 : Int} {a : Nat} {cs : Array Value} {t : TypeId} {fr : Nat × Nat} (h : IsS93 w0 W g f0 f1 f2) (hb2 : W.heap[a]? = some (.cells cs t fr)) (ht : t ≠ 93) : g ≠ a:=by
 obtain ⟨A0,c0,hb,hg,hr0⟩:=h;rintro rfl;rw [hb] at hb2
 injection hb2 with hb2
 injection hb2 with _ ht2
 exact ht ht2.symm
theorem IsS93.far {w0 W : World} {g : Nat} {f0 : List Int} {f1 : Int} {f2 : Int} {p : Addr} (h : IsS93 w0 W g f0 f1 f2) (hne : g ≠ p.block) (u : Value) : IsS93 w0 (W.setCell p u) g f0 f1 f2:=by
 obtain ⟨A0,c0,hb,hg,hr0⟩:=h;exact ⟨A0,c0,blk_far hb hne u,hg,hr0⟩
theorem cellS93_0 {W : World} {g : Nat} {A0 : Option Addr} {c0 : Nat} {f0 : List Int} {f1 : Int} {f2 : Int} (h : W.heap[g]? = some (.cells #[.slice A0 f0.length c0,.int .i64 f1,.int .u64 f2] 93 (0,0))) : W.cell? ⟨g,0,none⟩ = some (.slice A0 f0.length c0):=(blk_cell h 0).trans rfl
theorem cellS93_1 {W : World} {g : Nat} {A0 : Option Addr} {c0 : Nat} {f0 : List Int} {f1 : Int} {f2 : Int} (h : W.heap[g]? = some (.cells #[.slice A0 f0.length c0,.int .i64 f1,.int .u64 f2] 93 (0,0))) : W.cell? ⟨g,1,none⟩ = some (.int .i64 f1):=(blk_cell h 1).trans rfl
theorem IsS93.set_1 {w0 W : World} {g : Nat} {f0 : List Int} {f1 : Int} {f2 : Int} (h : IsS93 w0 W g f0 f1 f2) (x : Int) : IsS93 w0 (W.setCell ⟨g,1,none⟩ (.int .i64 x)) g f0 x f2:=by
 obtain ⟨A0,c0,hb,hg,hr0⟩:=h;exact ⟨A0,c0,by simpa using blk_set hb 1 (.int .i64 x),hg,hr0⟩
theorem cellS93_2 {W : World} {g : Nat} {A0 : Option Addr} {c0 : Nat} {f0 : List Int} {f1 : Int} {f2 : Int} (h : W.heap[g]? = some (.cells #[.slice A0 f0.length c0,.int .i64 f1,.int .u64 f2] 93 (0,0))) : W.cell? ⟨g,2,none⟩ = some (.int .u64 f2):=(blk_cell h 2).trans rfl
theorem IsS93.set_2 {w0 W : World} {g : Nat} {f0 : List Int} {f1 : Int} {f2 : Int} (h : IsS93 w0 W g f0 f1 f2) (x : Int) : IsS93 w0 (W.setCell ⟨g,2,none⟩ (.int .u64 x)) g f0 f1 x:=by
 obtain ⟨A0,c0,hb,hg,hr0⟩:=h;exact ⟨A0,c0,by simpa using blk_set hb 2 (.int .u64 x),hg,hr0⟩
theorem IsS93.new (w0 W : World) (A0 : Option Addr) (c0 : Nat) (f0 : List Int) (f1 : Int) (f2 : Int) (hB : Below w0.heap.size w0 W) (hr0 : Kd.C (Kd.int .u8) w0 A0 f0.length f0) : IsS93 w0 (W.alloc (.cells #[.slice A0 f0.length c0,.int .i64 f1,.int .u64 f2] 93)) W.heap.size f0 f1 f2:=⟨A0,c0,by simpa using heap_alloc_new W _,hB.size,hr0⟩
def spec_l1Cur_next.j0 : Nat → Int → List Int → Int → Int → Option (Int × Int × Int)
 | 0,_,_,_,_ => none
 | k + 1,x3,x1000,x1001,x1002 => if (wrap64 (x1001 + 1)) ≤ (x1000.length : Int) then (some (x3,wrap64 (x1001 + 1),IntKind.u64.wrap ((IntKind.u64.wrap ((IntKind.u64.wrap (x1002 * 6364136223846793005)) + (IntKind.u64.wrap (x3)))) + 902902))) else (some (wrap64 (Go.bits .and .u64 ((IntKind.u64.wrap ((IntKind.u64.wrap ((IntKind.u64.wrap (x1002 * 6364136223846793005)) + (IntKind.u64.wrap (x3)))) + 902902)) / 1099511627776) 255),wrap64 (x1001 + 1),IntKind.u64.wrap ((IntKind.u64.wrap ((IntKind.u64.wrap (x1002 * 6364136223846793005)) + (IntKind.u64.wrap (x3)))) + 902902)))
def spec_l1Cur_next.f (k : Nat) (s0_0 : List Int) (s0_1 : Int) (s0_2 : Int) : Option (Int × Int × Int):=if s0_1 < (s0_0.length : Int) then (if 0 ≤ s0_1 then (spec_l1Cur_next.j0 k (wrap64 (rd s0_0 s0_1)) s0_0 s0_1 s0_2) else (none)) else (spec_l1Cur_next.j0 k 0 s0_0 s0_1 s0_2)
theorem spec_l1Cur_next.mono_l : ∀ k,(∀ y0 y1 y2 y3,LeO (spec_l1Cur_next.j0 k y0 y1 y2 y3) (spec_l1Cur_next.j0 (k + 1) y0 y1 y2 y3))
 | 0 => fun _ _ _ _ r h => by simp [spec_l1Cur_next.j0] at h
 | k + 1 => by
  have ih0:=spec_l1Cur_next.mono_l k
  ·intro y0 y1 y2 y3;unfold spec_l1Cur_next.j0;repeat' with_reducible first | apply ih0 | exact LeO.refl _ | exact LeO.none _ | refine LeO.ite ?_ ?_ | refine LeO.bind ?_ (fun _ => ?_)
theorem spec_l1Cur_next.mono : ∀ a0 a1 a2 k,LeO (spec_l1Cur_next.f k a0 a1 a2) (spec_l1Cur_next.f (k + 1) a0 a1 a2):=by
 intro a0 a1 a2 k;have ih0:=spec_l1Cur_next.mono_l k;unfold spec_l1Cur_next.f;repeat' with_reducible first | apply ih0 | exact LeO.refl _ | exact LeO.none _ | refine LeO.ite ?_ ?_ | refine LeO.bind ?_ (fun _ => ?_)
set_option maxHeartbeats 8000000 in
set_option maxRecDepth 100000 in
theorem spec_l1Cur_next.calls (k : Nat) (g : Nat) (s0_0 : List Int) (s0_1 : Int) (s0_2 : Int) (r1 : Int) (r2 : Int) (r3 : Int) (w0 w : World) (hI : IsS93 w0 w g s0_0 s0_1 s0_2) (hB : Below w0.heap.size w0 w) (h : spec_l1Cur_next.f k s0_0 s0_1 s0_2 = some (r1,r2,r3)) :
 Calls Tryd.prog 109 #[.pointer (some ⟨g,0,none⟩)] w fun e w' => e = .returned (.int .i64 r1) ∧ IsS93 w0 w' g s0_0 r2 r3 ∧ Below w0.heap.size w0 w' ∧ KeepBut w w' g none:=by
 have HI0:=Aside0.mk hI;have GES_:=Aside0.mk (IsS93.ge hI);have HK:=Aside0.mk (KeepBut.refl w g none);have HL:=Aside0.mk hB.size;clear hI;have HW0:=Aside0.mk hB.size;have HB:=Aside0.mk hB;clear hB;have H:=h;clear h;unfold spec_l1Cur_next.f at H;have HC2:=Aside0.mk H;clear H;obtain ⟨ASz3_0,cSz3_0,HGz3,hgz3,HSz3_0⟩:=HI0.out;have hcz3_0:=cellS93_0 HGz3;have hcz3_1:=cellS93_1 HGz3;have hcz3_2:=cellS93_2 HGz3;have hfz3_1:=blk_frozen HGz3 1;have hfz3_2:=blk_frozen HGz3 2;clear HGz3 hgz3
 go_enter Tryd.func109,Tryd.ntmps109
 go_upto_if 13 with (fail)
 repeat (go_quiet (fail);go_upto_if 13 with (fail))
 go_cut [3] (fun v3 wc => ∃ (kq : Nat) (x3_1 : Int),v3 = .int .i64 x3_1 ∧ Aside0 (spec_l1Cur_next.j0 kq x3_1 s0_0 s0_1 s0_2 = some (r1,r2,r3)) ∧ Aside0 (kq ≤ k) ∧ Aside0 (IsS93 w0 wc g s0_0 s0_1 s0_2) ∧ Aside0 (KeepBut w wc g none) ∧ Aside0 (Below w0.heap.size w0 wc))
 case first =>
  have H:=HC2.out;clear HC2;by_cases c4 : s0_1 < (s0_0.length : Int)
  ·rw [if_pos c4] at H;have c4b0:=decide_eq_true c4;clear c4;(first | rw [c4b0] | (simp only [i64_w,i32_w];rw [c4b0]) | skip);obtain ⟨c5b0,H⟩:=ifYd H;replace H:=Aside0.mk H;try clear hcz3_0 hcz3_1 hcz3_2 hfz3_1 hfz3_2
   obtain ⟨ASz6_0,cSz6_0,HGz6,hgz6,HSz6_0⟩:=HI0.out;have hcz6_0:=cellS93_0 HGz6;have hcz6_1:=cellS93_1 HGz6;have hcz6_2:=cellS93_2 HGz6;have hfz6_1:=blk_frozen HGz6 1;have hfz6_2:=blk_frozen HGz6 2;clear HGz6 hgz6;have p166 : 0 ≤ (s0_1 : Int):=of_decide_eq_true ZZ853400;have q166 : s0_1 < (s0_0.length : Int):=of_decide_eq_true ZZ853400;obtain ⟨ad166,e166,hx166_0⟩:=Kd.at_int HSz6_0 s0_1 p166 q166
   cases e166
   replace hx166_0:=pw_cell_below HB.out hx166_0;replace p166:=eq_true p166;replace q166:=eq_true q166;go_wp2;repeat (go_quiet (fail);try go_wp2)
   go_meet
   case rel => exact ⟨_,(wrap64 (rd s0_0 s0_1)),ZZ0ab324,H,kle,⟨ZZ6b3774⟩,⟨ZZ9f3a2f⟩,⟨ZZ3665a6⟩⟩
  rw [if_neg c4] at H;have c4b0:=decide_eq_false c4;clear c4;(first | rw [c4b0] | (simp only [i64_w,i32_w];rw [c4b0]) | skip);replace H:=Aside0.mk H;go_wp2;repeat (go_quiet (fail);try go_wp2)
  go_meet
  case rel => exact ⟨_,(0),ZZ0ab324,H,kle,⟨ZZ6b3774⟩,⟨ZZ9f3a2f⟩,⟨ZZ3665a6⟩⟩
 case rest =>
  clear HC2;try clear c4
  try clear c4b0
  try clear c5b0
  try clear hcz3_0
  try clear hcz3_1
  try clear hcz3_2
  try clear hcz6_0
  try clear hcz6_1
  try clear hcz6_2
  try clear hfz3_1
  try clear hfz3_2
  try clear hfz6_1
  try clear hfz6_2
  try clear hx166_0
  try clear p166
  try clear q166
  obtain ⟨kq,x3_1,rfl,HA,HJ1,HI0,HK,HB⟩:=hcut
  cases kq with
  | zero => exact absurd HA.out (by simp [spec_l1Cur_next.j0])
  | succ kj1 =>
   have H:=HA.out;clear HA;simp only [spec_l1Cur_next.j0] at H;by_cases c7 : (wrap64 (s0_1 + 1)) ≤ (s0_0.length : Int)
   ·rw [if_pos c7] at H;have c7b0:=decide_eq_true c7;clear c7;simp only [Option.some.injEq,Prod.mk.injEq] at H;obtain ⟨rfl,rfl,rfl⟩:=H;obtain ⟨ASz8_0,cSz8_0,HGz8,hgz8,HSz8_0⟩:=HI0.out;have hcz8_0:=cellS93_0 HGz8;have hcz8_1:=cellS93_1 HGz8;have hcz8_2:=cellS93_2 HGz8;have hfz8_1:=blk_frozen HGz8 1;have hfz8_2:=blk_frozen HGz8 2;clear HGz8 hgz8;go_wp2;repeat (go_quiet (fail);try go_wp2)
    go_ret;exact ⟨ZZab01d2,ZZ6b3774,ZZ3665a6,ZZ9f3a2f⟩
   rw [if_neg c7] at H;have c7b0:=decide_eq_false c7;clear c7;simp only [Option.some.injEq,Prod.mk.injEq] at H;obtain ⟨rfl,rfl,rfl⟩:=H;obtain ⟨ASz9_0,cSz9_0,HGz9,hgz9,HSz9_0⟩:=HI0.out;have hcz9_0:=cellS93_0 HGz9;have hcz9_1:=cellS93_1 HGz9;have hcz9_2:=cellS93_2 HGz9;have hfz9_1:=blk_frozen HGz9 1;have hfz9_2:=blk_frozen HGz9 2;clear HGz9 hgz9;go_wp2;repeat (go_quiet (fail);try go_wp2)
   go_ret;exact ⟨ZZab01d2,ZZ6b3774,ZZ3665a6,ZZ9f3a2f⟩
def spec_l1Cur_pick.f (k : Nat) (s0_0 : List Int) (s0_1 : Int) (s0_2 : Int) (a1 : Int) : Option (Int × Int × Int):=if a1 ≤ 1 then (some (0,s0_1,s0_2)) else ((spec_l1Cur_next.f k s0_0 s0_1 s0_2).bind fun bt167 => (if a1 > 200 then ((spec_l1Cur_next.f k s0_0 bt167.2.1 bt167.2.2).bind fun bt170 => (if a1 = 0 then (none) else (some (Int.tmod (wrap64 ((wrap64 (bt167.1 * 256)) + bt170.1)) a1,bt170.2.1,bt170.2.2)))) else (if a1 = 0 then (none) else (some (Int.tmod bt167.1 a1,bt167.2.1,bt167.2.2)))))
theorem spec_l1Cur_pick.mono : ∀ a0 a1 a2 a3 k,LeO (spec_l1Cur_pick.f k a0 a1 a2 a3) (spec_l1Cur_pick.f (k + 1) a0 a1 a2 a3):=by
 intro a0 a1 a2 a3 k;unfold spec_l1Cur_pick.f;repeat' with_reducible first | apply spec_l1Cur_next.mono | exact LeO.refl _ | exact LeO.none _ | refine LeO.ite ?_ ?_ | refine LeO.bind ?_ (fun _ => ?_)
set_option maxHeartbeats 8000000 in
set_option maxRecDepth 100000 in
theorem spec_l1Cur_pick.calls (k : Nat) (g : Nat) (s0_0 : List Int) (s0_1 : Int) (s0_2 : Int) (a1 : Int) (r1 : Int) (r2 : Int) (r3 : Int) (w0 w : World) (hI : IsS93 w0 w g s0_0 s0_1 s0_2) (hB : Below w0.heap.size w0 w) (h : spec_l1Cur_pick.f k s0_0 s0_1 s0_2 a1 = some (r1,r2,r3)) :
 Calls Tryd.prog 75 #[.pointer (some ⟨g,0,none⟩),.int .i64 a1] w fun e w' => e = .returned (.int .i64 r1) ∧ IsS93 w0 w' g s0_0 r2 r3 ∧ Below w0.heap.size w0 w' ∧ KeepBut w w' g none:=by
 have HI0:=Aside0.mk hI;have GES_:=Aside0.mk (IsS93.ge hI);have HK:=Aside0.mk (KeepBut.refl w g none);have HL:=Aside0.mk hB.size;clear hI;have HW0:=Aside0.mk hB.size;have HB:=Aside0.mk hB;clear hB;have H:=h;clear h;unfold spec_l1Cur_pick.f at H;by_cases c3 : a1 ≤ 1
 ·rw [if_pos c3] at H;have c3b0:=decide_eq_true c3;clear c3;simp only [Option.some.injEq,Prod.mk.injEq] at H;obtain ⟨rfl,rfl,rfl⟩:=H
  go_enter Tryd.func75,Tryd.ntmps75
  go_wp2;go_ret;exact ⟨ZZab01d2,ZZ6b3774,ZZ3665a6,ZZ9f3a2f⟩
 rw [if_neg c3] at H;have c3b0:=decide_eq_false c3;clear c3;obtain ⟨⟨t167,t168,t169⟩,A4,H⟩:=bdY H;try dsimp only at H
 by_cases c5 : a1 > 200
 ·rw [if_pos c5] at H;have c5b0 : decide (200 < a1) = true:=decide_eq_true c5;clear c5;obtain ⟨⟨t170,t171,t172⟩,A6,H⟩:=bdY H;try dsimp only at H
  obtain ⟨c7,H⟩:=ifN H;have c7b0:=beq_eq_false_iff_ne.mpr c7;have c7b1:=bne_iff_ne.mpr c7;simp only [Option.some.injEq,Prod.mk.injEq] at H;obtain ⟨rfl,rfl,rfl⟩:=H
  go_enter Tryd.func75,Tryd.ntmps75
  go_wp2_with (first | (refine gc 9 Tryd.func109 #[.pointer (some ⟨g,0,none⟩)] ?_;(with_reducible refine (spec_l1Cur_next.calls k g s0_0 s0_1 s0_2 t167 t168 t169 w0 _ ?side1 ?side2 A4.out).mono ?_);(case side1 => exact ZZ6b3774);(case side2 => exact bw);rintro e w8 ⟨rfl,hi,hb,hk⟩;refine ⟨_,rfl,?_⟩;replace HK:=Aside0.mk (KeepBut.trans ZZ9f3a2f hk (.inl rfl));replace HB:=Aside0.mk (hb);replace HI0:=Aside0.mk (hi);(try clear hb);(try clear hb2);(try clear hk);(try clear hi)) | (refine gc 15 Tryd.func109 #[.pointer (some ⟨g,0,none⟩)] ?_;(with_reducible refine (spec_l1Cur_next.calls k g s0_0 t168 t169 t170 t171 t172 w0 _ ?side1 ?side2 A6.out).mono ?_);(case side1 => exact ZZ6b3774);(case side2 => exact bw);rintro e w9 ⟨rfl,hi,hb,hk⟩;refine ⟨_,rfl,?_⟩;replace HK:=Aside0.mk (KeepBut.trans ZZ9f3a2f hk (.inl rfl));replace HB:=Aside0.mk (hb);replace HI0:=Aside0.mk (hi);(try clear hb);(try clear hb2);(try clear hk);(try clear hi)))
  go_ret;exact ⟨ZZab01d2,ZZ6b3774,ZZ3665a6,ZZ9f3a2f⟩
 rw [if_neg c5] at H;have c5b0 : decide (200 < a1) = false:=decide_eq_false c5;clear c5;obtain ⟨c10,H⟩:=ifN H;have c10b0:=beq_eq_false_iff_ne.mpr c10;have c10b1:=bne_iff_ne.mpr c10;simp only [Option.some.injEq,Prod.mk.injEq] at H;obtain ⟨rfl,rfl,rfl⟩:=H
 go_enter Tryd.func75,Tryd.ntmps75
 go_wp2_with (first | (refine gc 9 Tryd.func109 #[.pointer (some ⟨g,0,none⟩)] ?_;(with_reducible refine (spec_l1Cur_next.calls k g s0_0 s0_1 s0_2 t167 t168 t169 w0 _ ?side1 ?side2 A4.out).mono ?_);(case side1 => exact ZZ6b3774);(case side2 => exact bw);rintro e w11 ⟨rfl,hi,hb,hk⟩;refine ⟨_,rfl,?_⟩;replace HK:=Aside0.mk (KeepBut.trans ZZ9f3a2f hk (.inl rfl));replace HB:=Aside0.mk (hb);replace HI0:=Aside0.mk (hi);(try clear hb);(try clear hb2);(try clear hk);(try clear hi)))
 go_ret;exact ⟨ZZab01d2,ZZ6b3774,ZZ3665a6,ZZ9f3a2f⟩
def spec_l1Cur_one.f (k : Nat) (s0_0 : List Int) (s0_1 : Int) (s0_2 : Int) (a1 : Int) : Option (Bool × Int × Int):=(spec_l1Cur_pick.f k s0_0 s0_1 s0_2 a1).bind fun bt173 => (some ((bt173.1 == 0),bt173.2.1,bt173.2.2))
theorem spec_l1Cur_one.mono : ∀ a0 a1 a2 a3 k,LeO (spec_l1Cur_one.f k a0 a1 a2 a3) (spec_l1Cur_one.f (k + 1) a0 a1 a2 a3):=by
 intro a0 a1 a2 a3 k;unfold spec_l1Cur_one.f;repeat' with_reducible first | apply spec_l1Cur_pick.mono | exact LeO.refl _ | exact LeO.none _ | refine LeO.ite ?_ ?_ | refine LeO.bind ?_ (fun _ => ?_)
set_option maxHeartbeats 8000000 in
set_option maxRecDepth 100000 in
theorem spec_l1Cur_one.calls (k : Nat) (g : Nat) (s0_0 : List Int) (s0_1 : Int) (s0_2 : Int) (a1 : Int) (r1 : Bool) (r2 : Int) (r3 : Int) (w0 w : World) (hI : IsS93 w0 w g s0_0 s0_1 s0_2) (hB : Below w0.heap.size w0 w) (h : spec_l1Cur_one.f k s0_0 s0_1 s0_2 a1 = some (r1,r2,r3)) :
 Calls Tryd.prog 74 #[.pointer (some ⟨g,0,none⟩),.int .i64 a1] w fun e w' => e = .returned (.bool r1) ∧ IsS93 w0 w' g s0_0 r2 r3 ∧ Below w0.heap.size w0 w' ∧ KeepBut w w' g none:=by
 have HI0:=Aside0.mk hI;have GES_:=Aside0.mk (IsS93.ge hI);have HK:=Aside0.mk (KeepBut.refl w g none);have HL:=Aside0.mk hB.size;clear hI;have HW0:=Aside0.mk hB.size;have HB:=Aside0.mk hB;clear hB;have H:=h;clear h;unfold spec_l1Cur_one.f at H;obtain ⟨⟨t173,t174,t175⟩,A3,H⟩:=bdY H;try dsimp only at H
 simp only [Option.some.injEq,Prod.mk.injEq] at H;obtain ⟨rfl,rfl,rfl⟩:=H
 go_enter Tryd.func74,Tryd.ntmps74
 go_wp2_with (first | (refine gc 7 Tryd.func75 #[.pointer (some ⟨g,0,none⟩),.int .i64 a1] ?_;(with_reducible refine (spec_l1Cur_pick.calls k g s0_0 s0_1 s0_2 a1 t173 t174 t175 w0 _ ?side1 ?side2 A3.out).mono ?_);(case side1 => exact ZZ6b3774);(case side2 => exact bw);rintro e w4 ⟨rfl,hi,hb,hk⟩;refine ⟨_,rfl,?_⟩;replace HK:=Aside0.mk (KeepBut.trans ZZ9f3a2f hk (.inl rfl));replace HB:=Aside0.mk (hb);replace HI0:=Aside0.mk (hi);(try clear hb);(try clear hb2);(try clear hk);(try clear hi)))
 go_ret;exact ⟨ZZab01d2,ZZ6b3774,ZZ3665a6,ZZ9f3a2f⟩
def spec_l1Cur_among.f (k : Nat) (s0_0 : List Int) (s0_1 : Int) (s0_2 : Int) (l1 : List Int) : Option (Int × Int × Int):=(spec_l1Cur_pick.f k s0_0 s0_1 s0_2 (l1.length : Int)).bind fun bt176 => (if 0 ≤ bt176.1 then (if bt176.1 < (l1.length : Int) then (some (rd l1 bt176.1,bt176.2.1,bt176.2.2)) else (none)) else (none))
theorem spec_l1Cur_among.mono : ∀ a0 a1 a2 a3 k,LeO (spec_l1Cur_among.f k a0 a1 a2 a3) (spec_l1Cur_among.f (k + 1) a0 a1 a2 a3):=by
 intro a0 a1 a2 a3 k;unfold spec_l1Cur_among.f;repeat' with_reducible first | apply spec_l1Cur_pick.mono | exact LeO.refl _ | exact LeO.none _ | refine LeO.ite ?_ ?_ | refine LeO.bind ?_ (fun _ => ?_)
set_option maxHeartbeats 8000000 in
set_option maxRecDepth 100000 in
theorem spec_l1Cur_among.calls (k : Nat) (g : Nat) (s0_0 : List Int) (s0_1 : Int) (s0_2 : Int) (A1 : Option Addr) (c1 : Nat) (l1 : List Int) (r1 : Int) (r2 : Int) (r3 : Int) (w0 w : World) (hI : IsS93 w0 w g s0_0 s0_1 s0_2) (hB : Below w0.heap.size w0 w) (hr1 : Kd.C (Kd.int .i64) w A1 l1.length l1) (hc1 : l1.length ≤ c1) (hf1 : ∀ ad,A1 = some ad → 0 < l1.length → ad.block ≠ g) (h : spec_l1Cur_among.f k s0_0 s0_1 s0_2 l1 = some (r1,r2,r3)) :
 Calls Tryd.prog 95 #[.pointer (some ⟨g,0,none⟩),.slice A1 l1.length c1] w fun e w' => e = .returned (.int .i64 r1) ∧ IsS93 w0 w' g s0_0 r2 r3 ∧ Below w0.heap.size w0 w' ∧ KeepBut w w' g none:=by
 have HR1:=Aside0.mk hr1;have HC1:=Aside0.mk hc1;clear hr1 hc1;have HI0:=Aside0.mk hI;have GES_:=Aside0.mk (IsS93.ge hI);have HK:=Aside0.mk (KeepBut.refl w g none);have HL:=Aside0.mk hB.size;clear hI;have HW0:=Aside0.mk hB.size;have HB:=Aside0.mk hB;clear hB;have H:=h;clear h;unfold spec_l1Cur_among.f at H;obtain ⟨⟨t176,t177,t178⟩,A3,H⟩:=bdY H;try dsimp only at H
 obtain ⟨c4b0,H⟩:=ifYd H;obtain ⟨c5b0,H⟩:=ifYd H;simp only [Option.some.injEq,Prod.mk.injEq] at H;obtain ⟨rfl,rfl,rfl⟩:=H
 go_enter Tryd.func95,Tryd.ntmps95
 go_wp2_with (first | (refine gc 9 Tryd.func75 #[.pointer (some ⟨g,0,none⟩),.int .i64 (l1.length : Int)] ?_;(with_reducible refine (spec_l1Cur_pick.calls k g s0_0 s0_1 s0_2 (l1.length : Int) t176 t177 t178 w0 _ ?side1 ?side2 A3.out).mono ?_);(case side1 => exact ZZ6b3774);(case side2 => exact bw);rintro e w6 ⟨rfl,hi,hb,hk⟩;refine ⟨_,rfl,?_⟩;replace HK:=Aside0.mk (KeepBut.trans ZZ9f3a2f hk (.inl rfl));replace HB:=Aside0.mk (hb);replace HI0:=Aside0.mk (hi);(try clear hb);(try clear hb2);(try clear hk);(try clear hi);have p179 : 0 ≤ (t176 : Int):=of_decide_eq_true ZZ853400;have q179 : t176 < (l1.length : Int):=of_decide_eq_true ZZ853400;obtain ⟨ad179,e179,hx179_0⟩:=Kd.at_int HR1.out t176 p179 q179;cases e179;replace hx179_0:=keep_cell HK.out hx179_0 (by first | (rw [add_block];exact hf1 _ rfl (by omega)) | exact hf1 _ rfl (by omega) | exact hf1 ad179 rfl (by omega));replace p179:=eq_true p179;replace q179:=eq_true q179))
 go_ret;exact ⟨ZZab01d2,ZZ6b3774,ZZ3665a6,ZZ9f3a2f⟩/-! ### spec_l1In: function 65 -/
def spec_l1In.f (a0 : Int) (a1 : Int) (a2 : Int) : Option (Bool):=if a0 ≥ a1 then (some (decide (a0 ≤ a2))) else (some false)
set_option maxHeartbeats 8000000 in
set_option maxRecDepth 100000 in
theorem spec_l1In.calls (a0 : Int) (a1 : Int) (a2 : Int) (r : Bool) (w : World) (h : spec_l1In.f a0 a1 a2 = some r) :
 Calls Tryd.prog 65 #[.int .i64 a0,.int .i64 a1,.int .i64 a2] w fun e w' => e = .returned (.bool r) ∧ Drawn0 w w':=by
 have H:=h;clear h;unfold spec_l1In.f at H;by_cases c4 : a0 ≥ a1
 ·rw [if_pos c4] at H;have c4b0 : decide (a1 ≤ a0) = true:=decide_eq_true c4;clear c4;obtain rfl:=Option.some.inj H
  go_enter Tryd.func65,Tryd.ntmps65
  go_wp2;go_ret;exact ⟨ZZ0ab324,ZZ965307⟩
 rw [if_neg c4] at H;have c4b0 : decide (a1 ≤ a0) = false:=decide_eq_false c4;clear c4;obtain rfl:=Option.some.inj H
 go_enter Tryd.func65,Tryd.ntmps65
 go_wp2;go_ret;exact ⟨ZZ0ab324,ZZ965307⟩
def spec_l2Amount.f (a0 : Int) : Option (Bool):=(spec_l1In.f a0 (-1000000000) 1000000000).bind fun t180 => (some t180)
set_option maxHeartbeats 8000000 in
set_option maxRecDepth 100000 in
theorem spec_l2Amount.calls (a0 : Int) (r : Bool) (w : World) (h : spec_l2Amount.f a0 = some r) :
 Calls Tryd.prog 71 #[.int .i64 a0] w fun e w' => e = .returned (.bool r) ∧ Drawn0 w w':=by
 have H:=h;clear h;unfold spec_l2Amount.f at H;obtain ⟨t180,A2,H⟩:=bdY H;obtain rfl:=Option.some.inj H
 go_enter Tryd.func71,Tryd.ntmps71
 go_wp2_with (first | (refine gc 4 Tryd.func65 #[.int .i64 a0,.int .i64 (-1000000000),.int .i64 1000000000] ?_;(with_reducible refine (spec_l1In.calls a0 (-1000000000) 1000000000 t180 _ A2.out).mono ?_);rintro e w' ⟨rfl,⟨nd,rfl⟩⟩;refine ⟨_,rfl,?_⟩))
 go_ret;exact ⟨ZZ0ab324,ZZ965307⟩
def spec_l26Name.l0 : Nat → ByteArray → Int → Option (Bool)
 | 0,_,_ => none
 | k + 1,x0,x3 => if x3 < (x0.size : Int) then (if 0 ≤ x3 then (if (bt x0 x3) < 97 then (some false) else (if (bt x0 x3) > 122 then (some false) else (spec_l26Name.l0 k x0 (wrap64 (x3 + 1))))) else (none)) else ((spec_l1In.f (x0.size : Int) 1 8).bind fun t181 => (some t181))
def spec_l26Name.f (k : Nat) (a0 : ByteArray) : Option (Bool):=spec_l26Name.l0 k a0 0
theorem spec_l26Name.mono_l : ∀ k,(∀ y0 y1,LeO (spec_l26Name.l0 k y0 y1) (spec_l26Name.l0 (k + 1) y0 y1))
 | 0 => fun _ _ r h => by simp [spec_l26Name.l0] at h
 | k + 1 => by
  have ih0:=spec_l26Name.mono_l k
  ·intro y0 y1;unfold spec_l26Name.l0;repeat' with_reducible first | apply ih0 | exact LeO.refl _ | exact LeO.none _ | refine LeO.ite ?_ ?_ | refine LeO.bind ?_ (fun _ => ?_)
theorem spec_l26Name.mono : ∀ a0 k,LeO (spec_l26Name.f k a0) (spec_l26Name.f (k + 1) a0):=by
 intro a0 k;have ih0:=spec_l26Name.mono_l k;unfold spec_l26Name.f;repeat' with_reducible first | apply ih0 | exact LeO.refl _ | exact LeO.none _ | refine LeO.ite ?_ ?_ | refine LeO.bind ?_ (fun _ => ?_)
set_option maxHeartbeats 8000000 in
set_option maxRecDepth 100000 in
theorem spec_l26Name.calls (k : Nat) (a0 : ByteArray) (r : Bool) (w : World) (h : spec_l26Name.f k a0 = some r) :
 Calls Tryd.prog 126 #[.string a0] w fun e w' => e = .returned (.bool r) ∧ Drawn0 w w':=by
 have H:=h;clear h;unfold spec_l26Name.f at H;replace H:=Aside0.mk H
 go_enter Tryd.func126,Tryd.ntmps126
 go_wp2
 go_loopg [3] k (fun kq v3 w' => ∃ (x3_1 : Int),v3 = .int .i64 x3_1 ∧ Aside0 (spec_l26Name.l0 kq a0 x3_1 = some r) ∧ Aside0 (kq ≤ k) ∧ Drawn0 w w')
 case atStart => exact ⟨(0),ZZ0ab324,H,⟨Nat.le_refl _⟩,ZZ965307⟩
 case round =>
  clear H;obtain ⟨x3_1,rfl,HA,HK1,⟨m1,rfl⟩⟩:=hrel
  cases gk with
  | zero => exact absurd HA.out (by simp [spec_l26Name.l0])
  | succ k1 =>
   have H:=HA.out;clear HA;simp only [spec_l26Name.l0] at H;by_cases c2 : x3_1 < (a0.size : Int)
   ·rw [if_pos c2] at H;have c2b0:=decide_eq_true c2;clear c2;obtain ⟨c3b0,H⟩:=ifYd H;by_cases c5 : (bt a0 x3_1) < 97
    ·rw [if_pos c5] at H;have c5b0:=decide_eq_true c5;clear c5;obtain rfl:=Option.some.inj H;have p4 : 0 ≤ (x3_1 : Int):=of_decide_eq_true ZZ853400;have q4 : x3_1 < (a0.size : Int):=of_decide_eq_true ZZ853400;have hx4:=bt_at a0 x3_1;replace p4:=eq_true p4;replace q4:=eq_true q4;go_wp2;go_ret;exact ⟨ZZ0ab324,ZZ965307⟩
    rw [if_neg c5] at H;have c5b0:=decide_eq_false c5;clear c5;by_cases c7 : (bt a0 x3_1) > 122
    ·rw [if_pos c7] at H;have c7b0 : decide (122 < (bt a0 x3_1)) = true:=decide_eq_true c7;clear c7;obtain rfl:=Option.some.inj H;have p4 : 0 ≤ (x3_1 : Int):=of_decide_eq_true ZZ853400;have q4 : x3_1 < (a0.size : Int):=of_decide_eq_true ZZ853400;have hx4:=bt_at a0 x3_1;replace p4:=eq_true p4;replace q4:=eq_true q4;have p6 : 0 ≤ (x3_1 : Int):=of_decide_eq_true ZZ853400;have q6 : x3_1 < (a0.size : Int):=of_decide_eq_true ZZ853400;have hx6:=bt_at a0 x3_1;replace p6:=eq_true p6;replace q6:=eq_true q6;go_wp2;go_ret;exact ⟨ZZ0ab324,ZZ965307⟩
    rw [if_neg c7] at H;have c7b0 : decide (122 < (bt a0 x3_1)) = false:=decide_eq_false c7;clear c7;replace H:=Aside0.mk H;have p4 : 0 ≤ (x3_1 : Int):=of_decide_eq_true ZZ853400;have q4 : x3_1 < (a0.size : Int):=of_decide_eq_true ZZ853400;have hx4:=bt_at a0 x3_1;replace p4:=eq_true p4;replace q4:=eq_true q4;have p6 : 0 ≤ (x3_1 : Int):=of_decide_eq_true ZZ853400;have q6 : x3_1 < (a0.size : Int):=of_decide_eq_true ZZ853400;have hx6:=bt_at a0 x3_1;replace p6:=eq_true p6;replace q6:=eq_true q6;go_wp2
    go_roundg k1
    case measure => have:=HK1.out;omega
    case rel => exact ⟨(wrap64 (x3_1 + 1)),ZZ0ab324,H,kle,ZZ965307⟩
   rw [if_neg c2] at H;have c2b0:=decide_eq_false c2;clear c2;obtain ⟨t181,A8,H⟩:=bdY H;obtain rfl:=Option.some.inj H;go_wp2_with (first | (refine gc 22 Tryd.func65 #[.int .i64 (a0.size : Int),.int .i64 1,.int .i64 8] ?_;(with_reducible refine (spec_l1In.calls (a0.size : Int) 1 8 t181 _ A8.out).mono ?_);rintro e w' ⟨rfl,⟨nd,rfl⟩⟩;refine ⟨_,rfl,?_⟩))
   go_ret;exact ⟨ZZ0ab324,ZZ965307⟩
end Go.Proofs.YtccdjchaaeligaaDoor.XFnClosing

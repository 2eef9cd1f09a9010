import Derived.Test.YtccdjchaaeligaaDoorXFnLedger0
namespace Go.Proofs.YtccdjchaaeligaaDoor.XFnLedger
open Go.Proofs.YtccdjchaaeligaaDoor.Short Go.RowKit Go.Proofs.YtccdjchaaeligaaDoorW.PrintWords Go.Proofs.YtccdjchaaeligaaDoorW.PrintLast Go.Proofs.YtccdjchaaeligaaDoorW.PrintMore
attribute [local go_sem] max2_int min2_int max_two min_two max_three min_three max_four min_four
set_option linter.unusedVariables false
set_option linter.unusedSimpArgs false
theorem ZZ9f3a2f {p : Prop} (h : p:=by repeat (first | (with_reducible first | exact HK.out | apply KeepBut.set_ | apply keep_drewN | apply keep_drew | apply keep_alloc) | exact HK.out)) : p:=h
theorem ZZf153cd {p : Prop} (h : p:=by repeat (first | (with_reducible first | exact HI1.out | apply IsS48.alloc | apply IsS48.drewN | apply IsS48.drew | apply IsS48.set_0 | apply IsS48.set_1) | exact HI1.out)) : p:=h
theorem ZZfdb396 {p : Prop} (h : p:=by repeat (first | (with_reducible first | exact HB.out | apply below_alloc | apply pw_below_drewN | apply below_drew1 | refine below_set ?_ (IsS48.ge HI1.out)) | exact HB.out)) : p:=h
/-- A state of type 48 at block g of W; what its slices lead to came in by w0. -/
def IsS48 (w0 W : World) (g : Nat) (f0 : ByteArray) (f1 : Int) : Prop:=W.heap[g]? = some (.cells #[.string f0,.int .i64 f1] 48 (0,0)) ∧ w0.heap.size ≤ g
theorem IsS48.grown {w0 W : World} {g : Nat} {f0 : ByteArray} {f1 : Int} {W1 : World} {row : Option Nat} (h : IsS48 w0 W g f0 f1) (hw : W.grownBy W1 row) (hne : some g ≠ row) : IsS48 w0 W1 g f0 f1:=by
 obtain ⟨hb,hg⟩:=h;exact ⟨blk_grown hb hw hne,hg⟩
theorem IsS48.own_neN {w0 W : World} {g : Nat} {f0 : ByteArray} {f1 : Int} {α : Type} {d : Kd α} {e : Nat} {base : Nat} {ok : Nat → Prop} {v : Value} {xs : List α} (h : IsS48 w0 W g f0 f1) (ho : Kd.N d e W base ok v xs) (ht : e ≠ 48) : some g ≠ v.ownBlock:=by
 obtain ⟨hb,hg⟩:=h;exact Kd.N_ne ho hb ht
theorem IsS48.fresh {w0 W : World} {g : Nat} {f0 : ByteArray} {f1 : Int} (h : IsS48 w0 W g f0 f1) : ∀ k,W.heap.size ≤ k → k ≠ g:=by
 obtain ⟨hb,hg⟩:=h;exact Kd.freshB hb
theorem IsS48.kept {w0 W : World} {g : Nat} {f0 : ByteArray} {f1 : Int} {W1 : World} {S : Nat → Prop} (h : IsS48 w0 W g f0 f1) (hk : Kept W W1 S) (hne : ¬ S g) : IsS48 w0 W1 g f0 f1:=by
 obtain ⟨hb,hg⟩:=h;exact ⟨blk_kept hb hk hne,hg⟩
theorem IsS48.below {w0 W : World} {g : Nat} {f0 : ByteArray} {f1 : Int} {W1 : World} (h : IsS48 w0 W g f0 f1) (hw : Below W.heap.size W W1) : IsS48 w0 W1 g f0 f1:=h.grown (grown_of_below hw none) (by simp)
theorem IsS48.alloc {w0 W : World} {g : Nat} {f0 : ByteArray} {f1 : Int} (h : IsS48 w0 W g f0 f1) (o : Obj) : IsS48 w0 (W.alloc o) g f0 f1:=h.below (below_alloc (Below.refl _ _) o)
theorem IsS48.drewN {w0 W : World} {g : Nat} {f0 : ByteArray} {f1 : Int} (h : IsS48 w0 W g f0 f1) (m : Nat) : IsS48 w0 (W.drewN m) g f0 f1:=h
theorem IsS48.drew {w0 W : World} {g : Nat} {f0 : ByteArray} {f1 : Int} (h : IsS48 w0 W g f0 f1) : IsS48 w0 W.drew g f0 f1:=h
theorem IsS48.at_ {w0 W : World} {g : Nat} {f0 : ByteArray} {f1 : Int} {w' : World} {m : Nat} (hq : W.drewN m = w') (h : IsS48 w0 W g f0 f1) : IsS48 w0 w' g f0 f1:=by subst hq;exact IsS48.drewN h m
theorem IsS48.apart {w0 W : World} {g : Nat} {f0 : ByteArray} {f1 : Int} {α : Type} {d : Kd α} {e : Nat} {base : Nat} {ok : Nat → Prop} {v : Value} {xs : List α} (h : IsS48 w0 W g f0 f1) (ho : d.R e W base ok v xs) (ht : ∀ q,q ∈ e :: d.E → q ≠ 48) : d.R e W base (fun k => ok k ∧ k ≠ g) v xs:=by
 obtain ⟨hb,hg⟩:=h;exact Kd.R_types ho hb ht
theorem IsS48.own_ne {w0 W : World} {g : Nat} {f0 : ByteArray} {f1 : Int} {α : Type} {d : Kd α} {e : Nat} {base : Nat} {ok : Nat → Prop} {v : Value} {xs : List α} (h : IsS48 w0 W g f0 f1) (ho : d.R e W base ok v xs) (ht : e ≠ 48) : some g ≠ v.ownBlock:=by
 obtain ⟨hb,hg⟩:=h;exact Kd.R_ne ho hb ht
theorem IsS48.apartQ {w0 W : World} {g : Nat} {f0 : ByteArray} {f1 : Int} {α : Type} {d : Kd α} {e : Nat} {base : Nat} {ok : Nat → Prop} {v : Value} {xs : List α} (h : IsS48 w0 W g f0 f1) (ho : d.Q e W base ok v xs) (ht : ∀ q,q ∈ e :: d.E → q ≠ 48) : d.Q e W base (fun k => ok k ∧ k ≠ g) v xs:=by
 obtain ⟨hb,hg⟩:=h;exact Kd.Q_types ho hb ht
theorem IsS48.own_neQ {w0 W : World} {g : Nat} {f0 : ByteArray} {f1 : Int} {α : Type} {d : Kd α} {e : Nat} {base : Nat} {ok : Nat → Prop} {v : Value} {xs : List α} (h : IsS48 w0 W g f0 f1) (ho : d.Q e W base ok v xs) (ht : e ≠ 48) : some g ≠ v.ownBlock:=by
 obtain ⟨hb,hg⟩:=h;exact Kd.Q_ne ho hb ht
theorem IsS48.apartS {w0 W : World} {g : Nat} {f0 : ByteArray} {f1 : Int} {α : Type} {d : Kd α} {e : Nat} {base : Nat} {ok : Nat → Prop} {v : Value} {xs : List α} (h : IsS48 w0 W g f0 f1) (ho : d.S e W base ok v xs) (ht : ∀ q,q ∈ e :: d.E → q ≠ 48) : d.S e W base (fun k => ok k ∧ k ≠ g) v xs:=by
 obtain ⟨hb,hg⟩:=h;exact Kd.S_types ho hb ht
theorem IsS48.own_neS {w0 W : World} {g : Nat} {f0 : ByteArray} {f1 : Int} {α : Type} {d : Kd α} {e : Nat} {base : Nat} {ok : Nat → Prop} {v : Value} {xs : List α} (h : IsS48 w0 W g f0 f1) (ho : d.S e W base ok v xs) (ht : e ≠ 48) : some g ≠ v.ownBlock:=by
 obtain ⟨hb,hg⟩:=h;exact Kd.S_ne ho hb ht
theorem IsS48.lt {w0 W : World} {g : Nat} {f0 : ByteArray} {f1 : Int} (h : IsS48 w0 W g f0 f1) : g < W.heap.size:=by
 obtain ⟨hb,hg⟩:=h;exact blk_lt hb
theorem IsS48.ge {w0 W : World} {g : Nat} {f0 : ByteArray} {f1 : Int} (h : IsS48 w0 W g f0 f1) : w0.heap.size ≤ g:=by
 obtain ⟨hb,hg⟩:=h;exact hg
theorem IsS48.ne_blk {w0 W : World} {g : Nat} {f0 : ByteArray} {f1 : Int} {a : Nat} {cs : Array Value} {t : TypeId} {fr : Nat × Nat} (h : IsS48 w0 W g f0 f1) (hb2 : W.heap[a]? = some (.cells cs t fr)) (ht : t ≠ 48) : g ≠ a:=by
 obtain ⟨hb,hg⟩:=h;rintro rfl;rw [hb] at hb2
 injection hb2 with hb2
 injection hb2 with _ ht2
 exact ht ht2.symm
theorem IsS48.far {w0 W : World} {g : Nat} {f0 : ByteArray} {f1 : Int} {p : Addr} (h : IsS48 w0 W g f0 f1) (hne : g ≠ p.block) (u : Value) : IsS48 w0 (W.setCell p u) g f0 f1:=by
 obtain ⟨hb,hg⟩:=h;exact ⟨blk_far hb hne u,hg⟩
theorem cellS48_0 {W : World} {g : Nat} {f0 : ByteArray} {f1 : Int} (h : W.heap[g]? = some (.cells #[.string f0,.int .i64 f1] 48 (0,0))) : W.cell? ⟨g,0,none⟩ = some (.string f0):=(blk_cell h 0).trans rfl
theorem IsS48.set_0 {w0 W : World} {g : Nat} {f0 : ByteArray} {f1 : Int} (h : IsS48 w0 W g f0 f1) (x : ByteArray) : IsS48 w0 (W.setCell ⟨g,0,none⟩ (.string x)) g x f1:=by
 obtain ⟨hb,hg⟩:=h;exact ⟨by simpa using blk_set hb 0 (.string x),hg⟩
theorem cellS48_1 {W : World} {g : Nat} {f0 : ByteArray} {f1 : Int} (h : W.heap[g]? = some (.cells #[.string f0,.int .i64 f1] 48 (0,0))) : W.cell? ⟨g,1,none⟩ = some (.int .i64 f1):=(blk_cell h 1).trans rfl
theorem IsS48.set_1 {w0 W : World} {g : Nat} {f0 : ByteArray} {f1 : Int} (h : IsS48 w0 W g f0 f1) (x : Int) : IsS48 w0 (W.setCell ⟨g,1,none⟩ (.int .i64 x)) g f0 x:=by
 obtain ⟨hb,hg⟩:=h;exact ⟨by simpa using blk_set hb 1 (.int .i64 x),hg⟩
theorem IsS48.new (w0 W : World) (f0 : ByteArray) (f1 : Int) (hB : Below w0.heap.size w0 W) : IsS48 w0 (W.alloc (.cells #[.string f0,.int .i64 f1] 48)) W.heap.size f0 f1:=⟨by simpa using heap_alloc_new W _,hB.size⟩
def impl_IsValidLedger_1.f (a0_0 : ByteArray) (a0_1 : Int) (s1_0 : ByteArray) (s1_1 : Int) : Option (Bool × ByteArray × Int):=some ((a0_0.toList == s1_0.toList),s1_0,s1_1)
set_option maxHeartbeats 8000000 in
set_option maxRecDepth 100000 in
theorem impl_IsValidLedger_1.calls (a0_0 : ByteArray) (a0_1 : Int) (g : Nat) (s1_0 : ByteArray) (s1_1 : Int) (r1 : Bool) (r2 : ByteArray) (r3 : Int) (w0 w : World) (hI : IsS48 w0 w g s1_0 s1_1) (hB : Below w0.heap.size w0 w) (h : impl_IsValidLedger_1.f a0_0 a0_1 s1_0 s1_1 = some (r1,r2,r3)) :
 Calls Tryd.prog 58 #[.agg #[.string a0_0,.int .i64 a0_1],.pointer (some ⟨g,0,none⟩)] w fun e w' => e = .returned (.bool r1) ∧ IsS48 w0 w' g r2 r3 ∧ Below w0.heap.size w0 w' ∧ KeepBut w w' g none:=by
 have hu48:=Tryd.underlying48;have HI1:=ak hI;have HK:=ak (KeepBut.refl w g none);have HL:=ak hB.size;clear hI;have HW0:=ak hB.size;have HB:=ak hB;clear hB;have H:=h;clear h;unfold impl_IsValidLedger_1.f at H;simp only [Option.some.injEq,Prod.mk.injEq] at H;obtain ⟨rfl,rfl,rfl⟩:=H
 go_enter Tryd.func58,Tryd.ntmps58
 go_wp2_with (first | ((with_reducible refine gate_dst (N:=2) rfl ?_);refine bx 2 (cs:=#[.string a0_0,.int .i64 a0_1]) (t:=48) ?_;intro gb123 hg w3 hbox hb;replace HB:=hB hb;have BK123:=ak (hbox);have GW123:=ak ((by rw [hg];exact (keep_size (w:=w) (g:=g) (row:=none) ZZ9f3a2f) : w.heap.size ≤ gb123));have GE123:=ak ((Nat.le_trans HW0.out (by rw [hg];exact (keep_size (w:=w) (g:=g) (row:=none) ZZ9f3a2f) : w.heap.size ≤ gb123) : w0.heap.size ≤ gb123));replace HK:=ak (KeepBut.trans ZZ9f3a2f (KeepBut.of_below hb g none) (.inl rfl));have NB1_123:=ak ((by rw [hg];exact Nat.ne_of_lt (IsS48.lt (show IsS48 w0 _ g s1_0 s1_1 from ZZf153cd)) : g ≠ gb123));have NB123_1:=ak ((by rw [hg];exact Nat.ne_of_gt (IsS48.lt (show IsS48 w0 _ g s1_0 s1_1 from ZZf153cd)) : gb123 ≠ g));replace HI1:=ak (IsS48.below ZZf153cd hb);clear hb hbox hg;have hnb4:=NB123_1.out;have hnc4:=NB1_123.out;obtain ⟨hcz5_0,hcz5_1,hfz5_0,hfz5_1⟩:=z2 BK123;obtain ⟨HGz6,hgz6⟩:=HI1.out;have hcz6_0:=cellS48_0 HGz6;have hcz6_1:=cellS48_1 HGz6;have hfz6_0:=blk_frozen HGz6 0;have hfz6_1:=blk_frozen HGz6 1;clear HGz6 hgz6))
 go_ret;exact ⟨ZZab01d2,(by repeat (first | (with_reducible first | exact HI1.out | apply IsS48.alloc | apply IsS48.drewN | apply IsS48.drew | apply IsS48.set_0 | apply IsS48.set_1 | refine IsS48.far ?_ (Aside0.out (by assumption)) _) | exact HI1.out)),(by repeat (first | (with_reducible first | exact HB.out | apply below_alloc | apply pw_below_drewN | apply below_drew1 | refine below_set ?_ (IsS48.ge HI1.out) | refine below_set ?_ GE123.out) | exact HB.out)),(by repeat (first | (with_reducible first | exact HK.out | apply KeepBut.set_ | apply keep_drewN | apply keep_drew | apply keep_alloc | refine keep_far ?_ GW123.out _) | exact HK.out))⟩
def slices_IndexFunc_Account_Account_impl_IsValidLedger_1.l0 : Nat → List (S48) → Int → Int → ByteArray → Int → Option (Int × ByteArray × Int)
 | 0,_,_,_,_,_ => none
 | k + 1,x0,x7,x8,x2000,x2001 => if x8 < x7 then (if 0 ≤ x8 then (if x8 < (x0.length : Int) then ((XFnLedger.impl_IsValidLedger_1.f ((rd_T48 x0 x8).f0) ((rd_T48 x0 x8).f1) x2000 x2001).bind fun bt125 => (if bt125.1 = true then (some (x8,bt125.2.1,bt125.2.2)) else (slices_IndexFunc_Account_Account_impl_IsValidLedger_1.l0 k x0 x7 (wrap64 (x8 + 1)) bt125.2.1 bt125.2.2))) else (none)) else (none)) else (some ((-1),x2000,x2001))
def slices_IndexFunc_Account_Account_impl_IsValidLedger_1.f (k : Nat) (l0 : List (S48)) (s1_0 : ByteArray) (s1_1 : Int) : Option (Int × ByteArray × Int):=slices_IndexFunc_Account_Account_impl_IsValidLedger_1.l0 k l0 (l0.length : Int) 0 s1_0 s1_1
theorem slices_IndexFunc_Account_Account_impl_IsValidLedger_1.mono_l : ∀ k,(∀ y0 y1 y2 y3 y4,LeO (slices_IndexFunc_Account_Account_impl_IsValidLedger_1.l0 k y0 y1 y2 y3 y4) (slices_IndexFunc_Account_Account_impl_IsValidLedger_1.l0 (k + 1) y0 y1 y2 y3 y4))
 | 0 => fun _ _ _ _ _ r h => by simp [slices_IndexFunc_Account_Account_impl_IsValidLedger_1.l0] at h
 | k + 1 => by
  have ih0:=slices_IndexFunc_Account_Account_impl_IsValidLedger_1.mono_l k
  ·intro y0 y1 y2 y3 y4;unfold slices_IndexFunc_Account_Account_impl_IsValidLedger_1.l0;repeat' with_reducible first | apply ih0 | exact LeO.refl _ | exact LeO.none _ | refine LeO.ite ?_ ?_ | refine LeO.bind ?_ (fun _ => ?_)
theorem slices_IndexFunc_Account_Account_impl_IsValidLedger_1.mono : ∀ a0 a1 a2 k,LeO (slices_IndexFunc_Account_Account_impl_IsValidLedger_1.f k a0 a1 a2) (slices_IndexFunc_Account_Account_impl_IsValidLedger_1.f (k + 1) a0 a1 a2):=by
 intro a0 a1 a2 k;have ih0:=slices_IndexFunc_Account_Account_impl_IsValidLedger_1.mono_l k;unfold slices_IndexFunc_Account_Account_impl_IsValidLedger_1.f;repeat' with_reducible first | apply ih0 | exact LeO.refl _ | exact LeO.none _ | refine LeO.ite ?_ ?_ | refine LeO.bind ?_ (fun _ => ?_)
set_option maxHeartbeats 8000000 in
set_option maxRecDepth 100000 in
theorem slices_IndexFunc_Account_Account_impl_IsValidLedger_1.calls (k : Nat) (A0 : Option Addr) (c0 : Nat) (l0 : List (S48)) (g : Nat) (s1_0 : ByteArray) (s1_1 : Int) (r1 : Int) (r2 : ByteArray) (r3 : Int) (w0 w : World) (hI : IsS48 w0 w g s1_0 s1_1) (hB : Below w0.heap.size w0 w) (hr0 : ∀ W_,KeepBut w W_ g none → Kd.C k48 W_ A0 l0.length l0) (hc0 : l0.length ≤ c0) (h : slices_IndexFunc_Account_Account_impl_IsValidLedger_1.f k l0 s1_0 s1_1 = some (r1,r2,r3)) :
 Calls Tryd.prog 105 #[.slice A0 l0.length c0,.func (.func 58) #[] #[.pointer (some ⟨g,0,none⟩)]] w fun e w' => e = .returned (.int .i64 r1) ∧ IsS48 w0 w' g r2 r3 ∧ Below w0.heap.size w0 w' ∧ KeepBut w w' g none:=by
 have hu48:=Tryd.underlying48;have HR0:=ak hr0;have HC0:=ak hc0;clear hr0 hc0;have HI1:=ak hI;have HK:=ak (KeepBut.refl w g none);have HL:=ak hB.size;clear hI;have HW0:=ak hB.size;have HB:=ak hB;clear hB;have H:=h;clear h;unfold slices_IndexFunc_Account_Account_impl_IsValidLedger_1.f at H;replace H:=ak H
 go_enter Tryd.func105,Tryd.ntmps105
 go_wp2
 go_loopg [8] k (fun kq v8 w' => ∃ (x8_1 : Int) (x2000_1 : ByteArray) (x2001_1 : Int),v8 = .int .i64 x8_1 ∧ Aside0 (slices_IndexFunc_Account_Account_impl_IsValidLedger_1.l0 kq l0 (l0.length : Int) x8_1 x2000_1 x2001_1 = some (r1,r2,r3)) ∧ Aside0 (kq ≤ k) ∧ Aside0 (IsS48 w0 w' g x2000_1 x2001_1) ∧ Aside0 (KeepBut w w' g none) ∧ Aside0 (Below w0.heap.size w0 w'))
 case atStart => exact ⟨(0),(s1_0),(s1_1),ZZ0ab324,H,⟨Nat.le_refl _⟩,⟨ZZf153cd⟩,⟨ZZ9f3a2f⟩,⟨ZZfdb396⟩⟩
 case round =>
  clear H;obtain ⟨x8_1,x2000_1,x2001_1,rfl,HA,HK1,HI1,HK,HB⟩:=hrel
  cases gk with
  | zero => exact absurd HA.out (by simp [slices_IndexFunc_Account_Account_impl_IsValidLedger_1.l0])
  | succ k1 =>
   have H:=HA.out;clear HA;simp only [slices_IndexFunc_Account_Account_impl_IsValidLedger_1.l0] at H;by_cases c3 : x8_1 < (l0.length : Int)
   ·rw [if_pos c3] at H;have c3b0:=decide_eq_true c3;clear c3;obtain ⟨c4b0,H⟩:=ifYd H;obtain ⟨c5b0,H⟩:=ifYd H;obtain ⟨⟨t125,t126,t127⟩,A6,H⟩:=bdY H;try dsimp only at H
    by_cases c7 : t125 = true
    ·subst c7;replace H:=ifT H;simp only [Option.some.injEq,Prod.mk.injEq] at H;obtain ⟨rfl,rfl,rfl⟩:=H;have p124 : 0 ≤ (x8_1 : Int):=of_decide_eq_true ZZ853400;have q124 : x8_1 < (l0.length : Int):=of_decide_eq_true ZZ853400;obtain ⟨ad124,e124,hx124_0,hx124_1⟩:=at_T48 (Kd.C_foot_now HR0.out HK.out) x8_1 p124 q124
     cases e124
     replace p124:=eq_true p124;replace q124:=eq_true q124;go_wp2_with (first | (go_at_call 58;(with_reducible refine (XFnLedger.impl_IsValidLedger_1.calls ((rd_T48 l0 x8_1).f0) ((rd_T48 l0 x8_1).f1) g x2000_1 x2001_1 true t126 t127 w0 _ ?side1 ?side2 A6.out).mono ?_);(case side1 => exact ZZf153cd);(case side2 => exact bw);rintro e w8 ⟨rfl,hi,hb,hk⟩;replace HK:=ak (KeepBut.trans ZZ9f3a2f hk (.inl rfl));replace HB:=ak (hb);replace HI1:=ak (hi);(try clear hb);(try clear hb2);(try clear hk);(try clear hi)))
     go_ret;exact ⟨ZZab01d2,ZZf153cd,ZZfdb396,ZZ9f3a2f⟩
    replace c7:=Bool.eq_false_iff.mpr c7;subst c7;replace H:=ifF H;replace H:=ak H;have p124 : 0 ≤ (x8_1 : Int):=of_decide_eq_true ZZ853400;have q124 : x8_1 < (l0.length : Int):=of_decide_eq_true ZZ853400;obtain ⟨ad124,e124,hx124_0,hx124_1⟩:=at_T48 (Kd.C_foot_now HR0.out HK.out) x8_1 p124 q124
    cases e124
    replace p124:=eq_true p124;replace q124:=eq_true q124;go_wp2_with (first | (go_at_call 58;(with_reducible refine (XFnLedger.impl_IsValidLedger_1.calls ((rd_T48 l0 x8_1).f0) ((rd_T48 l0 x8_1).f1) g x2000_1 x2001_1 false t126 t127 w0 _ ?side1 ?side2 A6.out).mono ?_);(case side1 => exact ZZf153cd);(case side2 => exact bw);rintro e w9 ⟨rfl,hi,hb,hk⟩;replace HK:=ak (KeepBut.trans ZZ9f3a2f hk (.inl rfl));replace HB:=ak (hb);replace HI1:=ak (hi);(try clear hb);(try clear hb2);(try clear hk);(try clear hi)))
    go_roundg k1
    case measure => have:=HK1.out;omega
    case rel => exact ⟨(wrap64 (x8_1 + 1)),(t126),(t127),ZZ0ab324,H,kle,⟨ZZf153cd⟩,⟨ZZ9f3a2f⟩,⟨ZZfdb396⟩⟩
   rw [if_neg c3] at H;have c3b0:=decide_eq_false c3;clear c3;simp only [Option.some.injEq,Prod.mk.injEq] at H;obtain ⟨rfl,rfl,rfl⟩:=H;go_wp2;go_ret;exact ⟨ZZab01d2,ZZf153cd,ZZfdb396,ZZ9f3a2f⟩
def slices_ContainsFunc_Account_Account_impl_IsValidLedger_1.f (k : Nat) (l0 : List (S48)) (s1_0 : ByteArray) (s1_1 : Int) : Option (Bool × ByteArray × Int):=(slices_IndexFunc_Account_Account_impl_IsValidLedger_1.f k l0 s1_0 s1_1).bind fun bt128 => (some (decide (bt128.1 ≥ 0),bt128.2.1,bt128.2.2))
theorem slices_ContainsFunc_Account_Account_impl_IsValidLedger_1.mono : ∀ a0 a1 a2 k,LeO (slices_ContainsFunc_Account_Account_impl_IsValidLedger_1.f k a0 a1 a2) (slices_ContainsFunc_Account_Account_impl_IsValidLedger_1.f (k + 1) a0 a1 a2):=by
 intro a0 a1 a2 k;unfold slices_ContainsFunc_Account_Account_impl_IsValidLedger_1.f;repeat' with_reducible first | apply slices_IndexFunc_Account_Account_impl_IsValidLedger_1.mono | exact LeO.refl _ | exact LeO.none _ | refine LeO.ite ?_ ?_ | refine LeO.bind ?_ (fun _ => ?_)
set_option maxHeartbeats 8000000 in
set_option maxRecDepth 100000 in
theorem slices_ContainsFunc_Account_Account_impl_IsValidLedger_1.calls (k : Nat) (A0 : Option Addr) (c0 : Nat) (l0 : List (S48)) (g : Nat) (s1_0 : ByteArray) (s1_1 : Int) (r1 : Bool) (r2 : ByteArray) (r3 : Int) (w0 w : World) (hI : IsS48 w0 w g s1_0 s1_1) (hB : Below w0.heap.size w0 w) (hr0 : ∀ W_,KeepBut w W_ g none → Kd.C k48 W_ A0 l0.length l0) (hc0 : l0.length ≤ c0) (h : slices_ContainsFunc_Account_Account_impl_IsValidLedger_1.f k l0 s1_0 s1_1 = some (r1,r2,r3)) :
 Calls Tryd.prog 57 #[.slice A0 l0.length c0,.func (.func 58) #[] #[.pointer (some ⟨g,0,none⟩)]] w fun e w' => e = .returned (.bool r1) ∧ IsS48 w0 w' g r2 r3 ∧ Below w0.heap.size w0 w' ∧ KeepBut w w' g none:=by
 have HR0:=ak hr0;have HC0:=ak hc0;clear hr0 hc0;have HI1:=ak hI;have HK:=ak (KeepBut.refl w g none);have HL:=ak hB.size;clear hI;have HW0:=ak hB.size;have HB:=ak hB;clear hB;have H:=h;clear h;unfold slices_ContainsFunc_Account_Account_impl_IsValidLedger_1.f at H;obtain ⟨⟨t128,t129,t130⟩,A3,H⟩:=bdY H;try dsimp only at H
 simp only [Option.some.injEq,Prod.mk.injEq] at H;obtain ⟨rfl,rfl,rfl⟩:=H
 go_enter Tryd.func57,Tryd.ntmps57
 go_wp2_with (first | (refine gc 7 Tryd.func105 #[.slice A0 l0.length c0,.func (.func 58) #[] #[.pointer (some ⟨g,0,none⟩)]] ?_;(with_reducible refine (slices_IndexFunc_Account_Account_impl_IsValidLedger_1.calls k _ _ l0 g s1_0 s1_1 t128 t129 t130 w0 _ ?side1 ?side2 ?side3 ?side4 A3.out).mono ?_);(case side1 => exact ZZf153cd);(case side2 => exact bw);(case side3 => exact Kd.C_foot_step HR0.out ZZ9f3a2f);(case side4 => exact HC0.out);rintro e w4 ⟨rfl,hi,hb,hk⟩;refine ⟨_,rfl,?_⟩;replace HK:=ak (KeepBut.trans ZZ9f3a2f hk (.inl rfl));replace HB:=ak (hb);replace HI1:=ak (hi);(try clear hb);(try clear hb2);(try clear hk);(try clear hi)))
 go_ret;exact ⟨ZZab01d2,ZZf153cd,ZZfdb396,ZZ9f3a2f⟩
end Go.Proofs.YtccdjchaaeligaaDoor.XFnLedger

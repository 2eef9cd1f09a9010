import Derived.Test.YtccdjchaaeligaaDoorProg
import Derived.Test.YtccdjchaaeligaaDoorXInv
import Derived.Test.YtccdjchaaeligaaDoorXItoa
import Derived.Test.YtccdjchaaeligaaDoorXTrim
import Derived.Test.YtccdjchaaeligaaDoorXMark
import Derived.Test.YtccdjchaaeligaaDoorXSeen
import Derived.Test.YtccdjchaaeligaaDoorXShort
import Derived.Below
import Derived.Deep.Draws
import Derived.Deep.AppendLies
import Derived.Maps.AppendAt
import Derived.OwnWalk
import Derived.Laws.BytesArg
import Derived.Laws.MakeOwn
import Derived.Laws.OwnMore
import Derived.Deep.OwnRows
import Derived.Tactics
import Derived.Lib.ConvBytes
import Derived.Laws.Slices
import Derived.WalkKit
import Derived.KernelRfl
import Derived.RowKit3
import Derived.Deep.LoopGhost
import Derived.Deep.QuietTactic
import Derived.BigQuiet
import Derived.WideLaws
import Derived.Deep.DeepCutAuto
import Derived.Deep.CutBlock
import Derived.Deep.RegionHeld3
import Derived.Laws.Rows
import Derived.Lib.AppendStr
import Derived.ArgAppend
import Derived.Laws.IdiomCopy
import Derived.OrdersHeld
import Derived.Laws.BitsLemmas
import Derived.RowKit
import Derived.Test.YtccdjchaaeligaaDoorWWords
import Derived.Test.YtccdjchaaeligaaDoorWLast
import Derived.Test.YtccdjchaaeligaaDoorWTab
import Derived.Test.YtccdjchaaeligaaDoorWFour
import Derived.Test.YtccdjchaaeligaaDoorWQPut
import Derived.Test.YtccdjchaaeligaaDoorWApart
import Derived.Test.YtccdjchaaeligaaDoorWArr
import Derived.Test.YtccdjchaaeligaaDoorWZeros
import Derived.Test.YtccdjchaaeligaaDoorWFoot
import Derived.Test.YtccdjchaaeligaaDoorWKept
import Derived.Test.YtccdjchaaeligaaDoorWShare
import Derived.Test.YtccdjchaaeligaaDoorWN
import Derived.Test.YtccdjchaaeligaaDoorWFootNe
import Derived.Test.YtccdjchaaeligaaDoorWAt
import Derived.Test.YtccdjchaaeligaaDoorWEqStruct
import Derived.Test.YtccdjchaaeligaaDoorWRepsOne
import Derived.Test.YtccdjchaaeligaaDoorWInv
import Derived.Test.YtccdjchaaeligaaDoorWInvWords
import Derived.Test.YtccdjchaaeligaaDoorWGuard
import Derived.Test.YtccdjchaaeligaaDoorWNEv
import Derived.Test.YtccdjchaaeligaaDoorWMore
namespace Go.Proofs.YtccdjchaaeligaaDoor.XFnLedger
open Go.Proofs.YtccdjchaaeligaaDoor.Short Go.RowKit Go.Proofs.YtccdjchaaeligaaDoorW.PrintWords Go.Proofs.YtccdjchaaeligaaDoorW.PrintLast Go.Proofs.YtccdjchaaeligaaDoorW.PrintMore
attribute [local go_sem] max2_int min2_int max_two min_two max_three min_three max_four min_four
set_option linter.unusedVariables false
set_option linter.unusedSimpArgs false
def errW : Option Int → Value
 | none => .nilIface
 | some c => .iface 0 (.int .i64 c)
theorem errW_none : errW none = .nilIface:=rfl
theorem errW_some (c : Int) : errW (some c) = .iface 0 (.int .i64 c):=rfl
theorem info3 : (Tryd.prog.info? 3).map (fun i => (i.zero,i.size,i.bytes)) = some (some (.int .i64 0),1,8):=by kernel_rfl
theorem info9 : (Tryd.prog.info? 9).map (fun i => (i.zero,i.size,i.bytes)) = some (some (.string ⟨#[]⟩),1,16):=by kernel_rfl
theorem info48 : (Tryd.prog.info? 48).map (fun i => (i.zero,i.size,i.bytes)) = some (some (.agg #[(.string ⟨#[]⟩),(.int .i64 0)]),2,24):=by kernel_rfl
theorem info63 : (Tryd.prog.info? 63).map (fun i => (i.zero,i.size,i.bytes)) = some (some (.agg #[(.int .i64 0),(.string ⟨#[]⟩),(.slice none 0 0)]),3,48):=by kernel_rfl
theorem info70 : (Tryd.prog.info? 70).map (fun i => (i.zero,i.size,i.bytes)) = some (some (.agg #[(.int .i64 0),(.int .i64 0)]),2,16):=by kernel_rfl
-- the values' own types
def rd_L1 (xs : List (List Int)) (i : Int) : (List Int):=xs.getD i.toNat ([] : List Int)
theorem at_L1 {w : World} {A : Option Addr} {n : Nat} {xs : List (List Int)} (h : Kd.C (Kd.slice 5 (Kd.int .u8)) w A n xs) (i : Int) (h0 : 0 ≤ i) (h1 : i < n) : ∃ ad A0 c0,A = some ad ∧ w.cell? (ad.add i.toNat) = some (.slice A0 (rd_L1 xs i).length c0) ∧ (rd_L1 xs i).length ≤ c0 ∧ (Kd.int .u8).C w A0 (rd_L1 xs i).length (rd_L1 xs i):=by
 obtain ⟨ad,c,e,_,hK,hc0⟩:=Kd.C_get h ([] : List Int) i h0 h1;have hc : ∀ j u,c[j]? = some u → w.cell? (ad.add (i.toNat * 1 + j)) = some u:=hc0;obtain ⟨A0,c0,rfl,l0,g0⟩:=hK;exact ⟨ad,A0,c0,e,by have hq:=hc 0 _ rfl;rwa [Nat.mul_one,Nat.add_zero] at hq,l0,g0⟩
/-! #### struct type 70 -/
structure S70 where
 f0 : Int
 f1 : Int
def z70 : S70:=⟨(0 : Int),(0 : Int)⟩
def k70 : Kd S70:=Kd.iso (Kd.pair (Kd.int .i64) (Kd.int .i64)) (fun x : S70 => (x.f0,x.f1))
theorem k70_heap : Kd.Heap k70:=Kd.heap_iso _ (Kd.heap_pair (Kd.heap_int .i64) (Kd.heap_int .i64))
theorem k70_open {w : World} {x : S70} {cs : List Value} (h : k70.K w x cs) : cs = [.int .i64 x.f0,.int .i64 x.f1]:=by
 obtain ⟨_,_,rfl,rfl,rfl⟩:=h;exact rfl
theorem k70_openM {w : World} {base : Nat} {ok : Nat → Prop} {x : S70} {cs : List Value} (h : k70.M w base ok x cs) : cs = [.int .i64 x.f0,.int .i64 x.f1]:=by
 obtain ⟨_,_,rfl,rfl,rfl⟩:=h;exact rfl
theorem k70_mk (w : World) (x : S70)  : k70.K w x [.int .i64 x.f0,.int .i64 x.f1]:=⟨[.int .i64 x.f0],[.int .i64 x.f1],rfl,rfl,rfl⟩
theorem k70_mkM (w : World) (base : Nat) (ok : Nat → Prop) (x : S70)  : k70.M w base ok x [.int .i64 x.f0,.int .i64 x.f1]:=⟨[.int .i64 x.f0],[.int .i64 x.f1],rfl,rfl,rfl⟩
theorem k70_mkF (W : World) (ok : Nat → Prop) (x : S70) : Kd.FK k70 W ok x [.int .i64 x.f0,.int .i64 x.f1]:=fun W2 _ => k70_mk W2 x
def rd_T70 (xs : List S70) (i : Int) : S70:=xs.getD i.toNat z70
theorem at_T70 {w : World} {A : Option Addr} {n : Nat} {xs : List S70} (h : Kd.C k70 w A n xs) (i : Int) (h0 : 0 ≤ i) (h1 : i < n) : ∃ ad ,A = some ad ∧ w.cell? (ad.add (i.toNat * 2)) = some (.int .i64 (rd_T70 xs i).f0) ∧ w.cell? ⟨(ad.add (i.toNat * 2)).block,(ad.add (i.toNat * 2)).off + 1,none⟩ = some (.int .i64 (rd_T70 xs i).f1):=by
 obtain ⟨ad,c,e,_,hK,hc0⟩:=Kd.C_get h z70 i h0 h1;have hc : ∀ j u,c[j]? = some u → w.cell? (ad.add (i.toNat * 2 + j)) = some u:=hc0;obtain rfl:=k70_open hK;exact ⟨ad,e,hc 0 _ rfl,by rw [← add_field _ _ 1 (by omega)];exact hc 1 _ rfl⟩
/-! #### struct type 48 -/
structure S48 where
 f0 : ByteArray
 f1 : Int
def z48 : S48:=⟨(⟨#[]⟩ : ByteArray),(0 : Int)⟩
def k48 : Kd S48:=Kd.iso (Kd.pair Kd.string (Kd.int .i64)) (fun x : S48 => (x.f0,x.f1))
theorem k48_heap : Kd.Heap k48:=Kd.heap_iso _ (Kd.heap_pair Kd.heap_string (Kd.heap_int .i64))
theorem k48_open {w : World} {x : S48} {cs : List Value} (h : k48.K w x cs) : cs = [.string x.f0,.int .i64 x.f1]:=by
 obtain ⟨_,_,rfl,rfl,rfl⟩:=h;exact rfl
theorem k48_openM {w : World} {base : Nat} {ok : Nat → Prop} {x : S48} {cs : List Value} (h : k48.M w base ok x cs) : cs = [.string x.f0,.int .i64 x.f1]:=by
 obtain ⟨_,_,rfl,rfl,rfl⟩:=h;exact rfl
theorem k48_mk (w : World) (x : S48)  : k48.K w x [.string x.f0,.int .i64 x.f1]:=⟨[.string x.f0],[.int .i64 x.f1],rfl,rfl,rfl⟩
theorem k48_mkM (w : World) (base : Nat) (ok : Nat → Prop) (x : S48)  : k48.M w base ok x [.string x.f0,.int .i64 x.f1]:=⟨[.string x.f0],[.int .i64 x.f1],rfl,rfl,rfl⟩
theorem k48_mkF (W : World) (ok : Nat → Prop) (x : S48) : Kd.FK k48 W ok x [.string x.f0,.int .i64 x.f1]:=fun W2 _ => k48_mk W2 x
def rd_T48 (xs : List S48) (i : Int) : S48:=xs.getD i.toNat z48
theorem at_T48 {w : World} {A : Option Addr} {n : Nat} {xs : List S48} (h : Kd.C k48 w A n xs) (i : Int) (h0 : 0 ≤ i) (h1 : i < n) : ∃ ad ,A = some ad ∧ w.cell? (ad.add (i.toNat * 2)) = some (.string (rd_T48 xs i).f0) ∧ w.cell? ⟨(ad.add (i.toNat * 2)).block,(ad.add (i.toNat * 2)).off + 1,none⟩ = some (.int .i64 (rd_T48 xs i).f1):=by
 obtain ⟨ad,c,e,_,hK,hc0⟩:=Kd.C_get h z48 i h0 h1;have hc : ∀ j u,c[j]? = some u → w.cell? (ad.add (i.toNat * 2 + j)) = some u:=hc0;obtain rfl:=k48_open hK;exact ⟨ad,e,hc 0 _ rfl,by rw [← add_field _ _ 1 (by omega)];exact hc 1 _ rfl⟩
def rd_L6 (xs : List (List S70)) (i : Int) : (List S70):=xs.getD i.toNat ([] : List S70)
theorem at_L6 {w : World} {A : Option Addr} {n : Nat} {xs : List (List S70)} (h : Kd.C (Kd.slice 70 k70) w A n xs) (i : Int) (h0 : 0 ≤ i) (h1 : i < n) : ∃ ad A0 c0,A = some ad ∧ w.cell? (ad.add i.toNat) = some (.slice A0 (rd_L6 xs i).length c0) ∧ (rd_L6 xs i).length ≤ c0 ∧ k70.C w A0 (rd_L6 xs i).length (rd_L6 xs i):=by
 obtain ⟨ad,c,e,_,hK,hc0⟩:=Kd.C_get h ([] : List S70) i h0 h1;have hc : ∀ j u,c[j]? = some u → w.cell? (ad.add (i.toNat * 1 + j)) = some u:=hc0;obtain ⟨A0,c0,rfl,l0,g0⟩:=hK;exact ⟨ad,A0,c0,e,by have hq:=hc 0 _ rfl;rwa [Nat.mul_one,Nat.add_zero] at hq,l0,g0⟩
/-! #### struct type 63 -/
structure S63 where
 f0 : Int
 f1 : ByteArray
 f2 : (List S70)
def z63 : S63:=⟨(0 : Int),(⟨#[]⟩ : ByteArray),([] : List S70)⟩
def k63 : Kd S63:=Kd.iso (Kd.pair (Kd.int .i64) (Kd.pair Kd.string (Kd.slice 70 k70))) (fun x : S63 => (x.f0,x.f1,x.f2))
theorem k63_heap : Kd.Heap k63:=Kd.heap_iso _ (Kd.heap_pair (Kd.heap_int .i64) (Kd.heap_pair Kd.heap_string (Kd.heap_slice 70 k70_heap)))
theorem k63_open {w : World} {x : S63} {cs : List Value} (h : k63.K w x cs) : ∃ A2 c2,cs = [.int .i64 x.f0,.string x.f1,.slice A2 x.f2.length c2] ∧ x.f2.length ≤ c2 ∧ k70.C w A2 x.f2.length x.f2:=by
 obtain ⟨_,_,rfl,rfl,⟨_,_,rfl,rfl,⟨A2,c2,rfl,l2,g2⟩⟩⟩:=h;exact ⟨A2,c2,rfl,l2,g2⟩
theorem k63_openM {w : World} {base : Nat} {ok : Nat → Prop} {x : S63} {cs : List Value} (h : k63.M w base ok x cs) : ∃ v2,cs = [.int .i64 x.f0,.string x.f1,v2] ∧ k70.R 70 w base ok v2 x.f2:=by
 obtain ⟨_,_,rfl,rfl,⟨_,_,rfl,rfl,⟨v2,rfl,g2⟩⟩⟩:=h;exact ⟨v2,rfl,g2⟩
theorem k63_mk (w : World) (x : S63) {A2 : Option Addr} {c2 : Nat} (l2 : x.f2.length ≤ c2) (g2 : k70.C w A2 x.f2.length x.f2) : k63.K w x [.int .i64 x.f0,.string x.f1,.slice A2 x.f2.length c2]:=⟨[.int .i64 x.f0],[.string x.f1,.slice A2 x.f2.length c2],rfl,rfl,⟨[.string x.f1],[.slice A2 x.f2.length c2],rfl,rfl,⟨A2,c2,rfl,l2,g2⟩⟩⟩
theorem k63_mkM (w : World) (base : Nat) (ok : Nat → Prop) (x : S63) {v2 : Value} (g2 : k70.R 70 w base ok v2 x.f2) : k63.M w base ok x [.int .i64 x.f0,.string x.f1,v2]:=⟨[.int .i64 x.f0],[.string x.f1,v2],rfl,rfl,⟨[.string x.f1],[v2],rfl,rfl,⟨v2,rfl,g2⟩⟩⟩
theorem k63_openF {W : World} {ok : Nat → Prop} {x : S63} {cs : List Value} (h : Kd.FK k63 W ok x cs) : ∃ A2 c2,cs = [.int .i64 x.f0,.string x.f1,.slice A2 x.f2.length c2] ∧ x.f2.length ≤ c2 ∧ Kd.F k70 W ok A2 x.f2.length x.f2:=by
 obtain ⟨A2,c2,rfl,l2,_⟩:=k63_open (Kd.FK_now h);exact ⟨A2,c2,rfl,l2,(fun W' hW => by obtain ⟨A2_,c2_,he,l2_,g2_⟩:=k63_open (h W' hW);injection (Option.some.inj (show some (Value.slice A2 x.f2.length c2) = some (Value.slice A2_ x.f2.length c2_) from congrArg (fun l => l[2]?) he)) with ha_ _ _;rw [ha_];exact g2_)⟩
theorem k63_mkF (W : World) (ok : Nat → Prop) (x : S63) {A2 : Option Addr} {c2 : Nat} (l2 : x.f2.length ≤ c2) (g2 : Kd.F k70 W ok A2 x.f2.length x.f2) : Kd.FK k63 W ok x [.int .i64 x.f0,.string x.f1,.slice A2 x.f2.length c2]:=fun W2 hW => k63_mk W2 x l2 (g2 W2 hW)
def rd_T63 (xs : List S63) (i : Int) : S63:=xs.getD i.toNat z63
theorem at_T63 {w : World} {A : Option Addr} {n : Nat} {xs : List S63} (h : Kd.C k63 w A n xs) (i : Int) (h0 : 0 ≤ i) (h1 : i < n) : ∃ ad A2 c2,A = some ad ∧ w.cell? (ad.add (i.toNat * 3)) = some (.int .i64 (rd_T63 xs i).f0) ∧ w.cell? ⟨(ad.add (i.toNat * 3)).block,(ad.add (i.toNat * 3)).off + 1,none⟩ = some (.string (rd_T63 xs i).f1) ∧ w.cell? ⟨(ad.add (i.toNat * 3)).block,(ad.add (i.toNat * 3)).off + 2,none⟩ = some (.slice A2 (rd_T63 xs i).f2.length c2) ∧ (rd_T63 xs i).f2.length ≤ c2 ∧ k70.C w A2 (rd_T63 xs i).f2.length (rd_T63 xs i).f2:=by
 obtain ⟨ad,c,e,_,hK,hc0⟩:=Kd.C_get h z63 i h0 h1;have hc : ∀ j u,c[j]? = some u → w.cell? (ad.add (i.toNat * 3 + j)) = some u:=hc0;obtain ⟨A2,c2,rfl,l2,g2⟩:=k63_open hK;exact ⟨ad,A2,c2,e,hc 0 _ rfl,by rw [← add_field _ _ 1 (by omega)];exact hc 1 _ rfl,by rw [← add_field _ _ 2 (by omega)];exact hc 2 _ rfl,l2,g2⟩
theorem ZZ0ab324 {p : Prop} (h : p:=by first | rfl | (simp;done) | (simp [*];done)) : p:=h
theorem ZZ965307 {p : Prop} (h : p:=by repeat (first | exact Drawn0.refl _ | apply Drawn0.step)) : p:=h
theorem ZZab01d2 {p : Prop} (h : p:=by first | rfl | (simp [errW_none,errW_some] <;> rfl) | (simp [*,errW_none,errW_some] <;> rfl)) : p:=h
theorem ZZ605003 {p : Prop} (h : p:=by repeat (first | (with_reducible first | exact HB.out | apply below_alloc | apply pw_below_drewN | apply below_drew1) | exact HB.out)) : p:=h
theorem ZZ853400 {p : Prop} (h : p:=by first | (with_reducible assumption) | assumption) : p:=h
def impl_within.f (a0 : Int) (a1 : Int) (a2 : Int) : Option (Bool):=if a0 ≥ a1 then (some (decide (a0 ≤ a2))) else (some false)
set_option maxHeartbeats 8000000 in
set_option maxRecDepth 100000 in
theorem impl_within.calls (a0 : Int) (a1 : Int) (a2 : Int) (r : Bool) (w : World) (h : impl_within.f a0 a1 a2 = some r) :
 Calls Tryd.prog 56 #[.int .i64 a0,.int .i64 a1,.int .i64 a2] w fun e w' => e = .returned (.bool r) ∧ Drawn0 w w':=by
 have H:=h;clear h;unfold impl_within.f at H;by_cases c4 : a0 ≥ a1
 ·rw [if_pos c4] at H;have c4b0 : decide (a1 ≤ a0) = true:=decide_eq_true c4;clear c4;obtain rfl:=Option.some.inj H
  go_enter Tryd.func56,Tryd.ntmps56
  go_wp2;go_ret;exact ⟨ZZ0ab324,ZZ965307⟩
 rw [if_neg c4] at H;have c4b0 : decide (a1 ≤ a0) = false:=decide_eq_false c4;clear c4;obtain rfl:=Option.some.inj H
 go_enter Tryd.func56,Tryd.ntmps56
 go_wp2;go_ret;exact ⟨ZZ0ab324,ZZ965307⟩
def impl_isAccountName.f (a0 : ByteArray) : Option (Bool):=(impl_within.f (a0.size : Int) 1 8).bind fun t101 => (if t101 = true then ((strings_Trim.f a0 (⟨#[97,98,99,100,101,102,103,104,105,106,107,108,109,110,111,112,113,114,115,116,117,118,119,120,121,122]⟩ : ByteArray)).bind fun t102 => (some (t102.toList == ([] : List UInt8)))) else (some false))
set_option maxHeartbeats 8000000 in
set_option maxRecDepth 100000 in
theorem impl_isAccountName.calls (a0 : ByteArray) (r : Bool) (w : World) (h : impl_isAccountName.f a0 = some r) :
 Calls Tryd.prog 55 #[.string a0] w fun e w' => e = .returned (.bool r) ∧ Below w.heap.size w w':=by
 have HB:=ak (Below.refl w.heap.size w);have H:=h;clear h;unfold impl_isAccountName.f at H;obtain ⟨t101,A2,H⟩:=bdY H;by_cases c3 : t101 = true
 ·subst c3;replace H:=ifT H;obtain ⟨t102,A4,H⟩:=bdY H;obtain rfl:=Option.some.inj H
  go_enter Tryd.func55,Tryd.ntmps55
  go_wp2_with (first | (refine gc 5 Tryd.func56 #[.int .i64 (a0.size : Int),.int .i64 1,.int .i64 8] ?_;(with_reducible refine (impl_within.calls (a0.size : Int) 1 8 true _ A2.out).mono ?_);rintro e w' ⟨rfl,⟨nd,rfl⟩⟩;refine ⟨_,rfl,?_⟩) | (go_at_call 104;(with_reducible refine (strings_Trim.calls a0 (⟨#[97,98,99,100,101,102,103,104,105,106,107,108,109,110,111,112,113,114,115,116,117,118,119,120,121,122]⟩ : ByteArray) t102 _ A4.out).mono ?_);rintro e w5 ⟨rfl,hb⟩;replace HB:=hB hb;(try clear hb);(try clear hb2);(try clear hk);(try clear hi)))
  go_ret;exact ⟨ZZab01d2,ZZ605003⟩
 replace c3:=Bool.eq_false_iff.mpr c3;subst c3;replace H:=ifF H;obtain rfl:=Option.some.inj H
 go_enter Tryd.func55,Tryd.ntmps55
 go_wp2_with (first | (refine gc 5 Tryd.func56 #[.int .i64 (a0.size : Int),.int .i64 1,.int .i64 8] ?_;(with_reducible refine (impl_within.calls (a0.size : Int) 1 8 false _ A2.out).mono ?_);rintro e w' ⟨rfl,⟨nd,rfl⟩⟩;refine ⟨_,rfl,?_⟩))
 go_ret;exact ⟨ZZab01d2,ZZ605003⟩
-- NOT PRINTED: function 105 (impl_Account_105)
-- NOT PRINTED: function 57 (impl_Account_57)
-- NOT PRINTED: function 58 (impl_IsValidLedger_1)
def impl_isDay.f (a0 : Int) : Option (Bool):=(impl_within.f a0 0 36524).bind fun t104 => (some t104)
set_option maxHeartbeats 8000000 in
set_option maxRecDepth 100000 in
theorem impl_isDay.calls (a0 : Int) (r : Bool) (w : World) (h : impl_isDay.f a0 = some r) :
 Calls Tryd.prog 59 #[.int .i64 a0] w fun e w' => e = .returned (.bool r) ∧ Drawn0 w w':=by
 have H:=h;clear h;unfold impl_isDay.f at H;obtain ⟨t104,A2,H⟩:=bdY H;obtain rfl:=Option.some.inj H
 go_enter Tryd.func59,Tryd.ntmps59
 go_wp2_with (first | (refine gc 4 Tryd.func56 #[.int .i64 a0,.int .i64 0,.int .i64 36524] ?_;(with_reducible refine (impl_within.calls a0 0 36524 t104 _ A2.out).mono ?_);rintro e w' ⟨rfl,⟨nd,rfl⟩⟩;refine ⟨_,rfl,?_⟩))
 go_ret;exact ⟨ZZ0ab324,ZZ965307⟩
def impl_isMemo.l0 : Nat → ByteArray → Int → Int → Option (Bool)
 | 0,_,_,_ => none
 | k + 1,x0,x5,x6 => if x6 < x5 then (if 0 ≤ x6 then (if x6 < (x0.size : Int) then (if (bt x0 x6) < 32 then (some false) else (if (bt x0 x6) > 126 then (some false) else (impl_isMemo.l0 k x0 x5 (wrap64 (x6 + 1))))) else (none)) else (none)) else (some (decide ((x0.size : Int) ≤ 30)))
def impl_isMemo.f (k : Nat) (a0 : ByteArray) : Option (Bool):=impl_isMemo.l0 k a0 (a0.size : Int) 0
theorem impl_isMemo.mono_l : ∀ k,(∀ y0 y1 y2,LeO (impl_isMemo.l0 k y0 y1 y2) (impl_isMemo.l0 (k + 1) y0 y1 y2))
 | 0 => fun _ _ _ r h => by simp [impl_isMemo.l0] at h
 | k + 1 => by
  have ih0:=impl_isMemo.mono_l k
  ·intro y0 y1 y2;unfold impl_isMemo.l0;repeat' with_reducible first | apply ih0 | exact LeO.refl _ | exact LeO.none _ | refine LeO.ite ?_ ?_ | refine LeO.bind ?_ (fun _ => ?_)
theorem impl_isMemo.mono : ∀ a0 k,LeO (impl_isMemo.f k a0) (impl_isMemo.f (k + 1) a0):=by
 intro a0 k;have ih0:=impl_isMemo.mono_l k;unfold impl_isMemo.f;repeat' with_reducible first | apply ih0 | exact LeO.refl _ | exact LeO.none _ | refine LeO.ite ?_ ?_ | refine LeO.bind ?_ (fun _ => ?_)
set_option maxHeartbeats 8000000 in
set_option maxRecDepth 100000 in
theorem impl_isMemo.calls (k : Nat) (a0 : ByteArray) (r : Bool) (w : World) (h : impl_isMemo.f k a0 = some r) :
 Calls Tryd.prog 60 #[.string a0] w fun e w' => e = .returned (.bool r) ∧ Drawn0 w w':=by
 have H:=h;clear h;unfold impl_isMemo.f at H;replace H:=ak H
 go_enter Tryd.func60,Tryd.ntmps60
 go_wp2
 go_loopg [6] k (fun kq v6 w' => ∃ (x6_1 : Int),v6 = .int .i64 x6_1 ∧ Aside0 (impl_isMemo.l0 kq a0 (a0.size : Int) x6_1 = some r) ∧ Aside0 (kq ≤ k) ∧ Drawn0 w w')
 case atStart => exact ⟨(0),ZZ0ab324,H,⟨Nat.le_refl _⟩,ZZ965307⟩
 case round =>
  clear H;obtain ⟨x6_1,rfl,HA,HK1,⟨m1,rfl⟩⟩:=hrel
  cases gk with
  | zero => exact absurd HA.out (by simp [impl_isMemo.l0])
  | succ k1 =>
   have H:=HA.out;clear HA;simp only [impl_isMemo.l0] at H;by_cases c2 : x6_1 < (a0.size : Int)
   ·rw [if_pos c2] at H;have c2b0:=decide_eq_true c2;clear c2;obtain ⟨c3b0,H⟩:=ifYd H;obtain ⟨c4b0,H⟩:=ifYd H;by_cases c6 : (bt a0 x6_1) < 32
    ·rw [if_pos c6] at H;have c6b0:=decide_eq_true c6;clear c6;obtain rfl:=Option.some.inj H;have p5 : 0 ≤ (x6_1 : Int):=of_decide_eq_true ZZ853400;have q5 : x6_1 < (a0.size : Int):=of_decide_eq_true ZZ853400;have hx5:=bt_at a0 x6_1;replace p5:=eq_true p5;replace q5:=eq_true q5;go_wp2;go_ret;exact ⟨ZZ0ab324,ZZ965307⟩
    rw [if_neg c6] at H;have c6b0:=decide_eq_false c6;clear c6;by_cases c8 : (bt a0 x6_1) > 126
    ·rw [if_pos c8] at H;have c8b0 : decide (126 < (bt a0 x6_1)) = true:=decide_eq_true c8;clear c8;obtain rfl:=Option.some.inj H;have p5 : 0 ≤ (x6_1 : Int):=of_decide_eq_true ZZ853400;have q5 : x6_1 < (a0.size : Int):=of_decide_eq_true ZZ853400;have hx5:=bt_at a0 x6_1;replace p5:=eq_true p5;replace q5:=eq_true q5;have p7 : 0 ≤ (x6_1 : Int):=of_decide_eq_true ZZ853400;have q7 : x6_1 < (a0.size : Int):=of_decide_eq_true ZZ853400;have hx7:=bt_at a0 x6_1;replace p7:=eq_true p7;replace q7:=eq_true q7;go_wp2;go_ret;exact ⟨ZZ0ab324,ZZ965307⟩
    rw [if_neg c8] at H;have c8b0 : decide (126 < (bt a0 x6_1)) = false:=decide_eq_false c8;clear c8;replace H:=ak H;have p5 : 0 ≤ (x6_1 : Int):=of_decide_eq_true ZZ853400;have q5 : x6_1 < (a0.size : Int):=of_decide_eq_true ZZ853400;have hx5:=bt_at a0 x6_1;replace p5:=eq_true p5;replace q5:=eq_true q5;have p7 : 0 ≤ (x6_1 : Int):=of_decide_eq_true ZZ853400;have q7 : x6_1 < (a0.size : Int):=of_decide_eq_true ZZ853400;have hx7:=bt_at a0 x6_1;replace p7:=eq_true p7;replace q7:=eq_true q7;go_wp2
    go_roundg k1
    case measure => have:=HK1.out;omega
    case rel => exact ⟨(wrap64 (x6_1 + 1)),ZZ0ab324,H,kle,ZZ965307⟩
   rw [if_neg c2] at H;have c2b0:=decide_eq_false c2;clear c2;obtain rfl:=Option.some.inj H;go_wp2;go_ret;exact ⟨ZZ0ab324,ZZ965307⟩
def impl_isAmount.f (a0 : Int) : Option (Bool):=(impl_within.f a0 (-1000000000) 1000000000).bind fun t105 => (some t105)
set_option maxHeartbeats 8000000 in
set_option maxRecDepth 100000 in
theorem impl_isAmount.calls (a0 : Int) (r : Bool) (w : World) (h : impl_isAmount.f a0 = some r) :
 Calls Tryd.prog 62 #[.int .i64 a0] w fun e w' => e = .returned (.bool r) ∧ Drawn0 w w':=by
 have H:=h;clear h;unfold impl_isAmount.f at H;obtain ⟨t105,A2,H⟩:=bdY H;obtain rfl:=Option.some.inj H
 go_enter Tryd.func62,Tryd.ntmps62
 go_wp2_with (first | (refine gc 4 Tryd.func56 #[.int .i64 a0,.int .i64 (-1000000000),.int .i64 1000000000] ?_;(with_reducible refine (impl_within.calls a0 (-1000000000) 1000000000 t105 _ A2.out).mono ?_);rintro e w' ⟨rfl,⟨nd,rfl⟩⟩;refine ⟨_,rfl,?_⟩))
 go_ret;exact ⟨ZZ0ab324,ZZ965307⟩
end Go.Proofs.YtccdjchaaeligaaDoor.XFnLedger

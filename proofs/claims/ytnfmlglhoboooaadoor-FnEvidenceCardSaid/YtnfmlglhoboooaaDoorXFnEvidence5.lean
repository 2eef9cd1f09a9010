-- Printed by wip/tools/xprint.py, a program of this session, over the kit's print; Lean checks it.
import Derived.Test.YtnfmlglhoboooaaDoorXFnEvidence0
import Derived.Test.YtnfmlglhoboooaaDoorXFnEvidence1
import Derived.Test.YtnfmlglhoboooaaDoorXFnEvidence3
import Derived.Test.YtnfmlglhoboooaaDoorXFnEvidence4
namespace Go.Proofs.YtnfmlglhoboooaaDoor.XFnEvidence
open Go.Proofs.YtnfmlglhoboooaaDoor.Short Go.RowKit Go.Proofs.YtnfmlglhoboooaaDoorW.PrintWords Go.Proofs.YtnfmlglhoboooaaDoorW.PrintLast Go.Proofs.YtnfmlglhoboooaaDoorW.PrintMore
attribute [local go_sem] max2_int min2_int max_two min_two max_three min_three max_four min_four   -- for this text's walks alone
set_option linter.unusedVariables false
set_option linter.unusedSimpArgs false
theorem ZZ99dde5 {p : Prop} (h : p := by (with_reducible repeat (first | apply Kd.V_alloc | apply Kd.V_drewN | apply Kd.V_drew)); exact HO4.out) : p := h
theorem ZZ04b898 {p : Prop} (h : p := by repeat (first | (with_reducible first | exact HM7.out | apply MapW.alloc | apply MapW.drewN | apply MapW.drew))) : p := h
theorem ZZ7bec11 {p : Prop} (h : p := by (with_reducible repeat (first | apply Kd.V_alloc | apply Kd.V_drewN | apply Kd.V_drew)); exact HO_15.out) : p := h
theorem ZZaf2bc8 {p : Prop} (h : p := by repeat (first | (with_reducible first | exact HM12.out | apply MapW.alloc | apply MapW.drewN | apply MapW.drew))) : p := h
/-! ### impl_VerifySubset: function 32 -/
mutual
def impl_VerifySubset.j0 : Nat → Int → Int → List Int → List Int → List Int → Bool → Option (Bool × Bool)
 | 0, _, _, _, _, _, _ => none
 | k + 1, x0, x1, x2, x3, x4, x53 => if x53 = true then (some (false, false)) else (impl_VerifySubset.l0 k x0 x1 x3 x4 [] x2 (x2.length : Int) 0)
def impl_VerifySubset.l0 : Nat → Int → Int → List Int → List Int → List (Int × Int) → List Int → Int → Int → Option (Bool × Bool)
 | 0, _, _, _, _, _, _, _, _ => none
 | k + 1, x0, x1, x3, x4, x12, x55, x56, x57 => if x57 < x56 then (if 0 ≤ x57 then (if x57 < (x55.length : Int) then (if x57 < (x3.length : Int) then ((mapSet.f x12 (rd x55 x57) (rd x3 x57)).bind fun t197 => (impl_VerifySubset.l0 k x0 x1 x3 x4 t197 x55 x56 (wrap64 (x57 + 1)))) else (none)) else (none)) else (none)) else (impl_VerifySubset.l1 k x0 x12 x4 x1)
def impl_VerifySubset.l1 : Nat → Int → List (Int × Int) → List Int → Int → Option (Bool × Bool)
 | 0, _, _, _, _ => none
 | k + 1, x0, x12, x15, x16 => if x16 > 1 then (impl_VerifySubset.l2 k x0 x12 x15 x16 [] 0) else ((mapVal.f x12 0).bind fun t198 => (if t198 = x0 then (some (((x15.length : Int) == 0), true)) else (some (false, true))))
def impl_VerifySubset.l2 : Nat → Int → List (Int × Int) → List Int → Int → List (Int × Int) → Int → Option (Bool × Bool)
 | 0, _, _, _, _, _, _ => none
 | k + 1, x0, x12, x15, x16, x17, x18 => if x18 < x16 then ((mapGet.f x12 x18).bind fun bt199 => ((mapGet.f x12 (wrap64 (x18 + 1))).bind fun bt201 => (if bt199.2 = true then (impl_VerifySubset.j4 k x0 x12 x15 x16 x17 x18 bt199.1 bt199.2 bt201.1 bt201.2 false) else (impl_VerifySubset.j4 k x0 x12 x15 x16 x17 x18 bt199.1 bt199.2 bt201.1 bt201.2 (!bt201.2))))) else (impl_VerifySubset.l1 k x0 x17 x15 (wrap64 (Int.tdiv (wrap64 (x16 + 1)) 2)))
def impl_VerifySubset.j4 : Nat → Int → List (Int × Int) → List Int → Int → List (Int × Int) → Int → Int → Bool → Int → Bool → Bool → Option (Bool × Bool)
 | 0, _, _, _, _, _, _, _, _, _, _, _ => none
 | k + 1, x0, x12, x15, x16, x17, x18, x19, x20, x21, x22, x95 => if x95 = true then (impl_VerifySubset.l2 k x0 x12 x15 x16 x17 (wrap64 (x18 + 2))) else (if (wrap64 (x18 + 1)) = x16 then ((mapSet.f x17 (wrap64 (Int.tdiv x18 2)) x19).bind fun t203 => (impl_VerifySubset.l2 k x0 x12 x15 x16 t203 (wrap64 (x18 + 2)))) else (if x20 = true then (impl_VerifySubset.j5 k x0 x12 x15 x16 x17 x18 x19 x20 x21 (!x22)) else (impl_VerifySubset.j5 k x0 x12 x15 x16 x17 x18 x19 x20 x21 true)))
def impl_VerifySubset.j5 : Nat → Int → List (Int × Int) → List Int → Int → List (Int × Int) → Int → Int → Bool → Int → Bool → Option (Bool × Bool)
 | 0, _, _, _, _, _, _, _, _, _, _ => none
 | k + 1, x0, x12, x15, x16, x17, x18, x19, x20, x21, x111 => if x111 = true then (if (x15.length : Int) = 0 then (some (false, true)) else (if x20 = true then (if 0 < (x15.length : Int) then (if 1 ≤ (x15.length : Int) then ((impl_pairHash.f k x19 (rd x15 0)).bind fun t210 => ((mapSet.f x17 (wrap64 (Int.tdiv x18 2)) t210).bind fun t211 => (impl_VerifySubset.l2 k x0 x12 (x15.drop 1) x16 t211 (wrap64 (x18 + 2))))) else (none)) else (none)) else (if 0 < (x15.length : Int) then (if 1 ≤ (x15.length : Int) then ((impl_pairHash.f k (rd x15 0) x21).bind fun t218 => ((mapSet.f x17 (wrap64 (Int.tdiv x18 2)) t218).bind fun t219 => (impl_VerifySubset.l2 k x0 x12 (x15.drop 1) x16 t219 (wrap64 (x18 + 2))))) else (none)) else (none)))) else ((impl_pairHash.f k x19 x21).bind fun t220 => ((mapSet.f x17 (wrap64 (Int.tdiv x18 2)) t220).bind fun t221 => (impl_VerifySubset.l2 k x0 x12 x15 x16 t221 (wrap64 (x18 + 2)))))
end
def impl_VerifySubset.f (k : Nat) (a0 : Int) (a1 : Int) (l2 : List Int) (l3 : List Int) (l4 : List Int) : Option (Bool × Bool) := (impl_isHash.f a0).bind fun t190 => (if t190 = true then ((impl_within.f a1 1 32).bind fun t191 => (if t191 = true then ((impl_isSubset.f k l2 a1).bind fun t192 => (if t192 = true then (if (l3.length : Int) = (l2.length : Int) then ((impl_areHashes.f k l3).bind fun t193 => (if t193 = true then ((impl_areHashes.f k l4).bind fun t194 => (impl_VerifySubset.j0 k a0 a1 l2 l3 l4 (!t194))) else (impl_VerifySubset.j0 k a0 a1 l2 l3 l4 true))) else (impl_VerifySubset.j0 k a0 a1 l2 l3 l4 true)) else (impl_VerifySubset.j0 k a0 a1 l2 l3 l4 true))) else (impl_VerifySubset.j0 k a0 a1 l2 l3 l4 true))) else (impl_VerifySubset.j0 k a0 a1 l2 l3 l4 true))
theorem impl_VerifySubset.mono_l : ∀ k, (∀ y0 y1 y2 y3 y4 y5, LeO (impl_VerifySubset.j0 k y0 y1 y2 y3 y4 y5) (impl_VerifySubset.j0 (k + 1) y0 y1 y2 y3 y4 y5)) ∧ (∀ y0 y1 y2 y3 y4 y5 y6 y7, LeO (impl_VerifySubset.l0 k y0 y1 y2 y3 y4 y5 y6 y7) (impl_VerifySubset.l0 (k + 1) y0 y1 y2 y3 y4 y5 y6 y7)) ∧ (∀ y0 y1 y2 y3, LeO (impl_VerifySubset.l1 k y0 y1 y2 y3) (impl_VerifySubset.l1 (k + 1) y0 y1 y2 y3)) ∧ (∀ y0 y1 y2 y3 y4 y5, LeO (impl_VerifySubset.l2 k y0 y1 y2 y3 y4 y5) (impl_VerifySubset.l2 (k + 1) y0 y1 y2 y3 y4 y5)) ∧ (∀ y0 y1 y2 y3 y4 y5 y6 y7 y8 y9 y10, LeO (impl_VerifySubset.j4 k y0 y1 y2 y3 y4 y5 y6 y7 y8 y9 y10) (impl_VerifySubset.j4 (k + 1) y0 y1 y2 y3 y4 y5 y6 y7 y8 y9 y10)) ∧ (∀ y0 y1 y2 y3 y4 y5 y6 y7 y8 y9, LeO (impl_VerifySubset.j5 k y0 y1 y2 y3 y4 y5 y6 y7 y8 y9) (impl_VerifySubset.j5 (k + 1) y0 y1 y2 y3 y4 y5 y6 y7 y8 y9))
 | 0 => ⟨fun _ _ _ _ _ _ r h => by simp [impl_VerifySubset.j0] at h, fun _ _ _ _ _ _ _ _ r h => by simp [impl_VerifySubset.l0] at h, fun _ _ _ _ r h => by simp [impl_VerifySubset.l1] at h, fun _ _ _ _ _ _ r h => by simp [impl_VerifySubset.l2] at h, fun _ _ _ _ _ _ _ _ _ _ _ r h => by simp [impl_VerifySubset.j4] at h, fun _ _ _ _ _ _ _ _ _ _ r h => by simp [impl_VerifySubset.j5] at h⟩
 | k + 1 => by
  obtain ⟨ih0, ih1, ih2, ih3, ih4, ih5⟩ := impl_VerifySubset.mono_l k
  refine ⟨?_, ?_, ?_, ?_, ?_, ?_⟩
  all_goals intros
  all_goals (first | unfold impl_VerifySubset.j0 | unfold impl_VerifySubset.l0 | unfold impl_VerifySubset.l1 | unfold impl_VerifySubset.l2 | unfold impl_VerifySubset.j4 | unfold impl_VerifySubset.j5)
  all_goals
   repeat' first
   | (with_reducible exact ih0 _ _ _ _ _ _)
   | (with_reducible exact ih1 _ _ _ _ _ _ _ _)
   | (with_reducible exact ih2 _ _ _ _)
   | (with_reducible exact ih3 _ _ _ _ _ _)
   | (with_reducible exact ih4 _ _ _ _ _ _ _ _ _ _ _)
   | (with_reducible exact ih5 _ _ _ _ _ _ _ _ _ _)
   | (with_reducible exact impl_areHashes.mono _ _)
   | (with_reducible exact impl_isSubset.mono _ _ _)
   | (with_reducible exact impl_pairHash.mono _ _ _)
   | (with_reducible exact LeO.refl _)
   | (with_reducible exact LeO.none _)
   | (with_reducible refine LeO.ite ?_ ?_)
   | (with_reducible refine LeO.bind ?_ (fun _ => ?_))
   | exact ih0 _ _ _ _ _ _
   | exact ih1 _ _ _ _ _ _ _ _
   | exact ih2 _ _ _ _
   | exact ih3 _ _ _ _ _ _
   | exact ih4 _ _ _ _ _ _ _ _ _ _ _
   | exact ih5 _ _ _ _ _ _ _ _ _ _
   | exact impl_areHashes.mono _ _
   | exact impl_isSubset.mono _ _ _
   | exact impl_pairHash.mono _ _ _
   | exact LeO.none _
   | refine LeO.ite ?_ ?_
   | refine LeO.bind ?_ (fun _ => ?_)
theorem impl_VerifySubset.mono : ∀ a0 a1 a2 a3 a4 k, LeO (impl_VerifySubset.f k a0 a1 a2 a3 a4) (impl_VerifySubset.f (k + 1) a0 a1 a2 a3 a4) := by
 intro a0 a1 a2 a3 a4 k
 obtain ⟨ih0, ih1, ih2, ih3, ih4, ih5⟩ := impl_VerifySubset.mono_l k
 unfold impl_VerifySubset.f
 repeat' first
  | (with_reducible exact ih0 _ _ _ _ _ _)
  | (with_reducible exact ih1 _ _ _ _ _ _ _ _)
  | (with_reducible exact ih2 _ _ _ _)
  | (with_reducible exact ih3 _ _ _ _ _ _)
  | (with_reducible exact ih4 _ _ _ _ _ _ _ _ _ _ _)
  | (with_reducible exact ih5 _ _ _ _ _ _ _ _ _ _)
  | (with_reducible exact impl_areHashes.mono _ _)
  | (with_reducible exact impl_isSubset.mono _ _ _)
  | (with_reducible exact impl_pairHash.mono _ _ _)
  | (with_reducible exact LeO.refl _)
  | (with_reducible exact LeO.none _)
  | (with_reducible refine LeO.ite ?_ ?_)
  | (with_reducible refine LeO.bind ?_ (fun _ => ?_))
  | exact ih0 _ _ _ _ _ _
  | exact ih1 _ _ _ _ _ _ _ _
  | exact ih2 _ _ _ _
  | exact ih3 _ _ _ _ _ _
  | exact ih4 _ _ _ _ _ _ _ _ _ _ _
  | exact ih5 _ _ _ _ _ _ _ _ _ _
  | exact impl_areHashes.mono _ _
  | exact impl_isSubset.mono _ _ _
  | exact impl_pairHash.mono _ _ _
  | exact LeO.none _
  | refine LeO.ite ?_ ?_
  | refine LeO.bind ?_ (fun _ => ?_)
set_option maxHeartbeats 8000000 in
set_option maxRecDepth 100000 in
theorem impl_VerifySubset.calls (k : Nat) (a0 : Int) (a1 : Int) (A2 : Option Addr) (c2 : Nat) (l2 : List Int) (A3 : Option Addr) (c3 : Nat) (l3 : List Int) (P4_ : Nat → Prop) (A4 : Option Addr) (c4 : Nat) (l4 : List Int) (r1 : Bool) (r2 : Bool) (w : World) (hr2 : Kd.C (Kd.int .i64) w A2 l2.length l2) (hc2 : l2.length ≤ c2) (hr3 : Kd.C (Kd.int .i64) w A3 l3.length l3) (hc3 : l3.length ≤ c3) (hs4 : Kd.V (Kd.int .i64) 3 w w.heap.size (fun k_ => P4_ k_) (.slice A4 l4.length c4) l4) (hV : TInv w) (h : impl_VerifySubset.f k a0 a1 l2 l3 l4 = some (r1, r2)) :
 Calls Tryd.prog 32 #[.int .i64 a0, .int .i64 a1, .slice A2 l2.length c2, .slice A3 l3.length c3, .slice A4 l4.length c4] w fun e w' => e = .returned (.tuple #[.bool r1, .bool r2]) ∧ Below w.heap.size w w' := by
 have HV := Aside0.mk hV
 clear hV
 have HR2 := Aside0.mk hr2
 have HC2 := Aside0.mk hc2
 clear hr2 hc2
 have HR3 := Aside0.mk hr3
 have HC3 := Aside0.mk hc3
 clear hr3 hc3
 have HO4 := Aside0.mk (show Kd.V (Kd.int .i64) 3 w w.heap.size (fun k_ => k_ < w.heap.size) (.slice A4 l4.length c4) l4 from Kd.V_mono (Kd.V_bound hs4) (fun k_ hk => hk.2))
 have HB := Aside0.mk (Below.refl w.heap.size w)
 have H := h
 clear h
 unfold impl_VerifySubset.f at H
 have HC6 := Aside0.mk H
 clear H
 go_enter Tryd.func32, Tryd.ntmps32
 go_upto_region 1 with (fail)
 go_cut [53] (fun v53 wc => ∃ (kq : Nat) (x53_5 : Bool), v53 = .bool x53_5 ∧ Aside0 (impl_VerifySubset.j0 kq a0 a1 l2 l3 l4 x53_5 = some (r1, r2)) ∧ Aside0 (kq ≤ k) ∧ Aside0 (Kd.V (Kd.int .i64) 3 wc w.heap.size (fun k_ => k_ < w.heap.size) (.slice A4 l4.length c4) l4) ∧ Aside0 (Below w.heap.size w wc))
 case first =>
  have H := HC6.out
  clear HC6
  obtain ⟨t190, A7, H⟩ := bdY H
  by_cases c8 : t190 = true
  ·subst c8
   have H1 : ((impl_within.f a1 1 32).bind fun t191 => (if t191 = true then ((impl_isSubset.f k l2 a1).bind fun t192 => (if t192 = true then (if (l3.length : Int) = (l2.length : Int) then ((impl_areHashes.f k l3).bind fun t193 => (if t193 = true then ((impl_areHashes.f k l4).bind fun t194 => (impl_VerifySubset.j0 k a0 a1 l2 l3 l4 (!t194))) else (impl_VerifySubset.j0 k a0 a1 l2 l3 l4 true))) else (impl_VerifySubset.j0 k a0 a1 l2 l3 l4 true)) else (impl_VerifySubset.j0 k a0 a1 l2 l3 l4 true))) else (impl_VerifySubset.j0 k a0 a1 l2 l3 l4 true))) = some (r1, r2) := by rw [if_pos rfl] at H; exact H
   clear H
   have H := H1
   clear H1
   obtain ⟨t191, A9, H⟩ := bdY H
   by_cases c10 : t191 = true
   ·subst c10
    have H1 : ((impl_isSubset.f k l2 a1).bind fun t192 => (if t192 = true then (if (l3.length : Int) = (l2.length : Int) then ((impl_areHashes.f k l3).bind fun t193 => (if t193 = true then ((impl_areHashes.f k l4).bind fun t194 => (impl_VerifySubset.j0 k a0 a1 l2 l3 l4 (!t194))) else (impl_VerifySubset.j0 k a0 a1 l2 l3 l4 true))) else (impl_VerifySubset.j0 k a0 a1 l2 l3 l4 true)) else (impl_VerifySubset.j0 k a0 a1 l2 l3 l4 true))) = some (r1, r2) := by rw [if_pos rfl] at H; exact H
    clear H
    have H := H1
    clear H1
    obtain ⟨t192, A11, H⟩ := bdY H
    by_cases c12 : t192 = true
    ·subst c12
     have H1 : (if (l3.length : Int) = (l2.length : Int) then ((impl_areHashes.f k l3).bind fun t193 => (if t193 = true then ((impl_areHashes.f k l4).bind fun t194 => (impl_VerifySubset.j0 k a0 a1 l2 l3 l4 (!t194))) else (impl_VerifySubset.j0 k a0 a1 l2 l3 l4 true))) else (impl_VerifySubset.j0 k a0 a1 l2 l3 l4 true)) = some (r1, r2) := by rw [if_pos rfl] at H; exact H
     clear H
     have H := H1
     clear H1
     by_cases c13 : (l3.length : Int) = (l2.length : Int)
     ·rw [if_pos c13] at H
      have c13b0 := beq_iff_eq.mpr c13
      have c13b1 := bne_eq_false_iff_eq.mpr c13
      have c13b2 : (l3.length == l2.length) = true := by first | simpa using c13 | (simp at c13 ⊢; omega)
      clear c13
      (first | rw [c13b0] | (simp only [i64_w, i32_w]; rw [c13b0]) | skip)
      obtain ⟨t193, A14, H⟩ := bdY H
      by_cases c15 : t193 = true
      ·subst c15
       have H1 : ((impl_areHashes.f k l4).bind fun t194 => (impl_VerifySubset.j0 k a0 a1 l2 l3 l4 (!t194))) = some (r1, r2) := by rw [if_pos rfl] at H; exact H
       clear H
       have H := H1
       clear H1
       obtain ⟨t194, A16, H⟩ := bdY H
       have H' := Aside0.mk H
       clear H
       go_wp2_with (first | ((with_reducible refine gate_callee (f := 53) rfl ?_); refine goesL_ (some 24) rfl rfl Tryd.func53 (by kernel_rfl) rfl #[.int .i64 a0] rfl ZZ19826e ?_; (with_reducible refine (impl_isHash.calls a0 true _ A7.out).mono ?_); rintro e w' ⟨rfl, ⟨nd, rfl⟩⟩; refine ⟨_, rfl, ?_⟩) | (go_at_call 71; (with_reducible refine (impl_within.calls a1 1 32 true _ A9.out).mono ?_); rintro e w' ⟨rfl, ⟨nd, rfl⟩⟩) | (go_at_call 72; (with_reducible refine (impl_isSubset.calls k _ _ l2 a1 true _ ?side1 ?side2 A11.out).mono ?_); (case side1 => repeat (first | exact (Kd.C_below HR2.out ZZ605003) | (with_reducible refine Kd.C_alloc ?_ _) | (with_reducible refine Kd.C_drewN ?_ _) | (with_reducible refine Kd.C_drew ?_))); (case side2 => exact HC2.out); rintro e w' ⟨rfl, ⟨nd, rfl⟩⟩) | (go_at_call 73; (with_reducible refine (impl_areHashes.calls k _ _ l3 true _ ?side1 ?side2 A14.out).mono ?_); (case side1 => repeat (first | exact (Kd.C_below HR3.out ZZ605003) | (with_reducible refine Kd.C_alloc ?_ _) | (with_reducible refine Kd.C_drewN ?_ _) | (with_reducible refine Kd.C_drew ?_))); (case side2 => exact HC3.out); rintro e w17 ⟨rfl, hb⟩; replace HO4 := Aside0.mk (Kd.V_below ZZ99dde5 hb); replace HB := Aside0.mk (below_step ZZ605003 hb); (try clear hb); (try clear hb2); (try clear hk); (try clear hi)) | (go_at_call 73; (with_reducible refine (impl_areHashes.calls k _ _ l4 t194 _ ?side1 ?side2 A16.out).mono ?_); (case side1 => repeat (first | exact (Kd.V_reads' HO4.out).2.2 | (with_reducible refine Kd.C_alloc ?_ _) | (with_reducible refine Kd.C_drewN ?_ _) | (with_reducible refine Kd.C_drew ?_))); (case side2 => exact (Kd.V_reads' HO4.out).2.1); rintro e w18 ⟨rfl, hb⟩; replace HO4 := Aside0.mk (Kd.V_below ZZ99dde5 hb); replace HB := Aside0.mk (below_step ZZ605003 hb); (try clear hb); (try clear hb2); (try clear hk); (try clear hi)))
       go_meet
       case rel => exact ⟨_, (!t194), ZZ0ab324, H', ⟨ZZ81c739⟩, ⟨ZZ99dde5⟩, ⟨ZZ605003⟩⟩
      replace c15 := Bool.eq_false_iff.mpr c15
      subst c15
      have H1 : (impl_VerifySubset.j0 k a0 a1 l2 l3 l4 true) = some (r1, r2) := by rw [if_neg (show ¬ (false = true) by decide)] at H; exact H
      clear H
      have H := H1
      clear H1
      have H' := Aside0.mk H
      clear H
      go_wp2_with (first | ((with_reducible refine gate_callee (f := 53) rfl ?_); refine goesL_ (some 24) rfl rfl Tryd.func53 (by kernel_rfl) rfl #[.int .i64 a0] rfl ZZ19826e ?_; (with_reducible refine (impl_isHash.calls a0 true _ A7.out).mono ?_); rintro e w' ⟨rfl, ⟨nd, rfl⟩⟩; refine ⟨_, rfl, ?_⟩) | (go_at_call 71; (with_reducible refine (impl_within.calls a1 1 32 true _ A9.out).mono ?_); rintro e w' ⟨rfl, ⟨nd, rfl⟩⟩) | (go_at_call 72; (with_reducible refine (impl_isSubset.calls k _ _ l2 a1 true _ ?side1 ?side2 A11.out).mono ?_); (case side1 => repeat (first | exact (Kd.C_below HR2.out ZZ605003) | (with_reducible refine Kd.C_alloc ?_ _) | (with_reducible refine Kd.C_drewN ?_ _) | (with_reducible refine Kd.C_drew ?_))); (case side2 => exact HC2.out); rintro e w' ⟨rfl, ⟨nd, rfl⟩⟩) | (go_at_call 73; (with_reducible refine (impl_areHashes.calls k _ _ l3 false _ ?side1 ?side2 A14.out).mono ?_); (case side1 => repeat (first | exact (Kd.C_below HR3.out ZZ605003) | (with_reducible refine Kd.C_alloc ?_ _) | (with_reducible refine Kd.C_drewN ?_ _) | (with_reducible refine Kd.C_drew ?_))); (case side2 => exact HC3.out); rintro e w19 ⟨rfl, hb⟩; replace HO4 := Aside0.mk (Kd.V_below ZZ99dde5 hb); replace HB := Aside0.mk (below_step ZZ605003 hb); (try clear hb); (try clear hb2); (try clear hk); (try clear hi)))
      go_meet
      case rel => exact ⟨_, (true), ZZ0ab324, H', ⟨ZZ81c739⟩, ⟨ZZ99dde5⟩, ⟨ZZ605003⟩⟩
     rw [if_neg c13] at H
     have c13b0 := beq_eq_false_iff_ne.mpr c13
     have c13b1 := bne_iff_ne.mpr c13
     have c13b2 : (l3.length == l2.length) = false := by first | simpa using c13 | (simp at c13 ⊢; omega)
     (first | rw [c13b0] | (simp only [i64_w, i32_w]; rw [c13b0]) | skip)
     have H' := Aside0.mk H
     clear H
     go_wp2_with (first | ((with_reducible refine gate_callee (f := 53) rfl ?_); refine goesL_ (some 24) rfl rfl Tryd.func53 (by kernel_rfl) rfl #[.int .i64 a0] rfl ZZ19826e ?_; (with_reducible refine (impl_isHash.calls a0 true _ A7.out).mono ?_); rintro e w' ⟨rfl, ⟨nd, rfl⟩⟩; refine ⟨_, rfl, ?_⟩) | (go_at_call 71; (with_reducible refine (impl_within.calls a1 1 32 true _ A9.out).mono ?_); rintro e w' ⟨rfl, ⟨nd, rfl⟩⟩) | (go_at_call 72; (with_reducible refine (impl_isSubset.calls k _ _ l2 a1 true _ ?side1 ?side2 A11.out).mono ?_); (case side1 => repeat (first | exact (Kd.C_below HR2.out ZZ605003) | (with_reducible refine Kd.C_alloc ?_ _) | (with_reducible refine Kd.C_drewN ?_ _) | (with_reducible refine Kd.C_drew ?_))); (case side2 => exact HC2.out); rintro e w' ⟨rfl, ⟨nd, rfl⟩⟩))
     go_meet
     case rel => exact ⟨_, (true), ZZ0ab324, H', ⟨ZZ81c739⟩, ⟨ZZ99dde5⟩, ⟨ZZ605003⟩⟩
    replace c12 := Bool.eq_false_iff.mpr c12
    subst c12
    have H1 : (impl_VerifySubset.j0 k a0 a1 l2 l3 l4 true) = some (r1, r2) := by rw [if_neg (show ¬ (false = true) by decide)] at H; exact H
    clear H
    have H := H1
    clear H1
    have H' := Aside0.mk H
    clear H
    go_wp2_with (first | ((with_reducible refine gate_callee (f := 53) rfl ?_); refine goesL_ (some 24) rfl rfl Tryd.func53 (by kernel_rfl) rfl #[.int .i64 a0] rfl ZZ19826e ?_; (with_reducible refine (impl_isHash.calls a0 true _ A7.out).mono ?_); rintro e w' ⟨rfl, ⟨nd, rfl⟩⟩; refine ⟨_, rfl, ?_⟩) | (go_at_call 71; (with_reducible refine (impl_within.calls a1 1 32 true _ A9.out).mono ?_); rintro e w' ⟨rfl, ⟨nd, rfl⟩⟩) | (go_at_call 72; (with_reducible refine (impl_isSubset.calls k _ _ l2 a1 false _ ?side1 ?side2 A11.out).mono ?_); (case side1 => repeat (first | exact (Kd.C_below HR2.out ZZ605003) | (with_reducible refine Kd.C_alloc ?_ _) | (with_reducible refine Kd.C_drewN ?_ _) | (with_reducible refine Kd.C_drew ?_))); (case side2 => exact HC2.out); rintro e w' ⟨rfl, ⟨nd, rfl⟩⟩))
    go_meet
    case rel => exact ⟨_, (true), ZZ0ab324, H', ⟨ZZ81c739⟩, ⟨ZZ99dde5⟩, ⟨ZZ605003⟩⟩
   replace c10 := Bool.eq_false_iff.mpr c10
   subst c10
   have H1 : (impl_VerifySubset.j0 k a0 a1 l2 l3 l4 true) = some (r1, r2) := by rw [if_neg (show ¬ (false = true) by decide)] at H; exact H
   clear H
   have H := H1
   clear H1
   have H' := Aside0.mk H
   clear H
   go_wp2_with (first | ((with_reducible refine gate_callee (f := 53) rfl ?_); refine goesL_ (some 24) rfl rfl Tryd.func53 (by kernel_rfl) rfl #[.int .i64 a0] rfl ZZ19826e ?_; (with_reducible refine (impl_isHash.calls a0 true _ A7.out).mono ?_); rintro e w' ⟨rfl, ⟨nd, rfl⟩⟩; refine ⟨_, rfl, ?_⟩) | (go_at_call 71; (with_reducible refine (impl_within.calls a1 1 32 false _ A9.out).mono ?_); rintro e w' ⟨rfl, ⟨nd, rfl⟩⟩))
   go_meet
   case rel => exact ⟨_, (true), ZZ0ab324, H', ⟨ZZ81c739⟩, ⟨ZZ99dde5⟩, ⟨ZZ605003⟩⟩
  replace c8 := Bool.eq_false_iff.mpr c8
  subst c8
  have H1 : (impl_VerifySubset.j0 k a0 a1 l2 l3 l4 true) = some (r1, r2) := by rw [if_neg (show ¬ (false = true) by decide)] at H; exact H
  clear H
  have H := H1
  clear H1
  have H' := Aside0.mk H
  clear H
  go_wp2_with (first | ((with_reducible refine gate_callee (f := 53) rfl ?_); refine goesL_ (some 24) rfl rfl Tryd.func53 (by kernel_rfl) rfl #[.int .i64 a0] rfl ZZ19826e ?_; (with_reducible refine (impl_isHash.calls a0 false _ A7.out).mono ?_); rintro e w' ⟨rfl, ⟨nd, rfl⟩⟩; refine ⟨_, rfl, ?_⟩))
  go_meet
  case rel => exact ⟨_, (true), ZZ0ab324, H', ⟨ZZ81c739⟩, ⟨ZZ99dde5⟩, ⟨ZZ605003⟩⟩
 case rest =>
  clear HC6
  try clear c2
  try clear c3
  try clear c4
  try clear c8
  try clear c10
  try clear c12
  try clear c13
  try clear c13b0
  try clear c13b1
  try clear c13b2
  try clear c15
  obtain ⟨kq, x53_5, rfl, HA, HJ5, HO_4, HB⟩ := hcut
  cases kq with
  | zero => exact absurd HA.out (by simp [impl_VerifySubset.j0])
  | succ kj5 =>
   have H := HA.out
   clear HA
   simp only [impl_VerifySubset.j0] at H
   by_cases c20 : x53_5 = true
   ·subst c20
    have H1 : (some (false, false)) = some (r1, r2) := by rw [if_pos rfl] at H; exact H
    clear H
    have H := H1
    clear H1
    simp only [Option.some.injEq, Prod.mk.injEq] at H
    obtain ⟨rfl, rfl⟩ := H
    go_wp2
    go_ret2
    exact ⟨ZZab01d2, ZZ605003⟩
   replace c20 := Bool.eq_false_iff.mpr c20
   subst c20
   have H1 : (impl_VerifySubset.l0 kj5 a0 a1 l3 l4 [] l2 (l2.length : Int) 0) = some (r1, r2) := by rw [if_neg (show ¬ (false = true) by decide)] at H; exact H
   clear H
   have H := H1
   clear H1
   have H' := Aside0.mk H
   clear H
   go_wp2_with (first | ((with_reducible refine gate_makeMap rfl ?_); refine make_event 3 3 (Lit.int .i64) rfl rfl ?_; intro gm_ hgm wm1 hm hb; have n0_ := Aside0.mk (Kd.V_below (by (with_reducible repeat (first | apply Kd.V_alloc | apply Kd.V_drewN | apply Kd.V_drew)); exact HO_4.out) hb); have n1_ := Aside0.mk (below_step ZZ605003 hb); have GM7 := Aside0.mk ((by rw [hgm]; exact (below_size ZZ605003)) : w.heap.size ≤ gm_); have HM7 := Aside0.mk hm; clear HO_4 HB; have HO_4 := n0_; have HB := n1_; clear n0_ n1_ hb hm hgm))
   go_loopg [57] kj5 (fun kq v57 w' => ∃ (x12_2 : List (Int × Int)) (x57_2 : Int), v57 = .int .i64 x57_2 ∧ Aside0 (impl_VerifySubset.l0 kq a0 a1 l3 l4 x12_2 l2 (l2.length : Int) x57_2 = some (r1, r2)) ∧ Aside0 (kq ≤ kj5) ∧ Aside0 (Kd.V (Kd.int .i64) 3 w' w.heap.size (fun k_ => k_ < w.heap.size) (.slice A4 l4.length c4) l4) ∧ Aside0 (MapW Tryd.prog 3 3 (Lit.int .i64) w' gm_ x12_2) ∧ Aside0 (Below w.heap.size w w'))
   case atStart => exact ⟨([]), (0), ZZ0ab324, H', ⟨Nat.le_refl _⟩, ⟨(by (with_reducible repeat (first | apply Kd.V_alloc | apply Kd.V_drewN | apply Kd.V_drew)); exact HO_4.out)⟩, ⟨ZZ04b898⟩, ⟨ZZ605003⟩⟩
   case round =>
    clear H'
    try clear c4
    try clear c20
    obtain ⟨x12_2, x57_2, rfl, HA, HK2, HO_4, HM7, HB⟩ := hrel
    cases gk with
    | zero => exact absurd HA.out (by simp [impl_VerifySubset.l0])
    | succ k2 =>
     have H := HA.out
     clear HA
     simp only [impl_VerifySubset.l0] at H
     by_cases c21 : x57_2 < (l2.length : Int)
     ·rw [if_pos c21] at H
      have c21b0 := decide_eq_true c21
      clear c21
      obtain ⟨c22, H⟩ := ifY H
      have c22b0 := decide_eq_true c22
      clear c22
      obtain ⟨c23, H⟩ := ifY H
      have c23b0 := decide_eq_true c23
      clear c23
      obtain ⟨c24, H⟩ := ifY H
      have c24b0 := decide_eq_true c24
      clear c24
      obtain ⟨t197, A25, H⟩ := bdY H
      have H' := Aside0.mk H
      clear H
      have p195 : 0 ≤ (x57_2 : Int) := of_decide_eq_true ZZ853400
      have q195 : x57_2 < (l2.length : Int) := of_decide_eq_true ZZ853400
      obtain ⟨ad195, e195, hx195_0⟩ := Kd.at_int HR2.out x57_2 p195 q195
      cases e195
      replace hx195_0 := (HB.out.cell (World.block_lt_of_cell? w _ hx195_0)).trans hx195_0
      replace p195 := eq_true p195
      replace q195 := eq_true q195
      have p196 : 0 ≤ (x57_2 : Int) := of_decide_eq_true ZZ853400
      have q196 : x57_2 < (l3.length : Int) := of_decide_eq_true ZZ853400
      obtain ⟨ad196, e196, hx196_0⟩ := Kd.at_int HR3.out x57_2 p196 q196
      cases e196
      replace hx196_0 := (HB.out.cell (World.block_lt_of_cell? w _ hx196_0)).trans hx196_0
      replace p196 := eq_true p196
      replace q196 := eq_true q196
      go_wp2_with (first | ((with_reducible refine gate_update rfl ?_); obtain ⟨hky, hvy, hln, hle⟩ := mapSet.open_ A25.out; refine update_event (k := 3) (e := 3) (enc := Lit.int .i64) (vv := (rd l3 x57_2)) (L := x12_2) rfl _ _ _ 87 (Or.inl rfl) rfl rfl rfl Tryd.underlying3 Tryd.underlying87 ZZ04b898 hln hky (plainElem_int Tryd.underlying3 hvy) ?_; intro wm2 hm hg; rw [← hle] at hm; replace HO_4 := Aside0.mk (Kd.V_grown (by (with_reducible repeat (first | apply Kd.V_alloc | apply Kd.V_drewN | apply Kd.V_drew)); exact HO_4.out) hg (fun k_ hk_ e_ => by injection e_ with e_; subst e_; exact Nat.not_le.2 hk_ GM7.out)); replace HB := Aside0.mk (Below.grown ZZ605003 hg (below_size ZZ605003) (fun _ e_ => by cases e_; exact GM7.out)); have HM7 := Aside0.mk hm; clear hm hg hky hvy hln hle))
      go_roundg k2
      case measure => have := HJ5.out; have := HK2.out; omega
      case rel => exact ⟨(t197), (wrap64 (x57_2 + 1)), ZZ0ab324, H', ⟨(by have := HJ5.out; have := HK2.out; omega)⟩, ⟨(by (with_reducible repeat (first | apply Kd.V_alloc | apply Kd.V_drewN | apply Kd.V_drew)); exact HO_4.out)⟩, ⟨ZZ04b898⟩, ⟨ZZ605003⟩⟩
     rw [if_neg c21] at H
     have c21b0 := decide_eq_false c21
     clear c21
     have H' := Aside0.mk H
     clear H
     go_wp2
     go_loopg [12, 15, 16] k2 (fun kq v12 v15 v16 w' => ∃ (x12_3 : List (Int × Int)) (x15_3 : List Int) (x16_3 : Int) (g7 : Nat), v12 = .map (some g7) ∧ v16 = .int .i64 x16_3 ∧ Aside0 (impl_VerifySubset.l1 kq a0 x12_3 x15_3 x16_3 = some (r1, r2)) ∧ Aside0 (kq ≤ k2) ∧ Aside0 (Kd.V (Kd.int .i64) 3 w' w.heap.size (fun k_ => k_ < w.heap.size) v15 x15_3) ∧ Aside0 (MapW Tryd.prog 3 3 (Lit.int .i64) w' g7 x12_3) ∧ Aside0 (w.heap.size ≤ g7) ∧ Aside0 (Below w.heap.size w w'))
     case atStart => exact ⟨(x12_2), (l4), (a1), gm_, ZZ0ab324, ZZ0ab324, H', ⟨Nat.le_refl _⟩, ⟨(by (with_reducible repeat (first | apply Kd.V_alloc | apply Kd.V_drewN | apply Kd.V_drew)); exact HO_4.out)⟩, ⟨ZZ04b898⟩, GM7, ⟨ZZ605003⟩⟩
     case round =>
      clear H'
      try clear c21b0
      try clear c22b0
      try clear c23b0
      try clear c24b0
      try clear hx195_0
      try clear hx196_0
      try clear p195
      try clear p196
      try clear q195
      try clear q196
      obtain ⟨x12_3, x15_3, x16_3, g7, rfl, rfl, HA, HK3, HO_15, HM7, GM7, HB⟩ := hrel
      cases gk with
      | zero => exact absurd HA.out (by simp [impl_VerifySubset.l1])
      | succ k3 =>
       have H := HA.out
       clear HA
       simp only [impl_VerifySubset.l1] at H
       by_cases c27 : x16_3 > 1
       ·rw [if_pos c27] at H
        have c27b0 : decide (1 < x16_3) = true := decide_eq_true c27
        clear c27
        have H' := Aside0.mk H
        clear H
        go_wp2_with (first | ((with_reducible refine gate_makeMap rfl ?_); refine make_event 3 3 (Lit.int .i64) rfl rfl ?_; intro gq_ hgm wm1 hm hb; have HNE := Aside0.mk (show g7 ≠ gq_ from (by rw [hgm]; exact Nat.ne_of_lt (MapW.lt (P := Tryd.prog) (k := 3) (e := 3) (enc := Lit.int .i64) (L := x12_3) ZZ04b898))); have HM7 := Aside0.mk (MapW.below (L := x12_3) ZZ04b898 hb); have n0_ := Aside0.mk (Kd.V_below ZZ7bec11 hb); have n1_ := Aside0.mk (below_step ZZ605003 hb); have GM12 := Aside0.mk ((by rw [hgm]; exact (below_size ZZ605003)) : w.heap.size ≤ gq_); have HM12 := Aside0.mk hm; clear HO_15 HB; have HO_15 := n0_; have HB := n1_; clear n0_ n1_ hb hm hgm))
        go_loopg [15, 18] k3 (fun kq v15 v18 w' => ∃ (x15_4 : List Int) (x17_4 : List (Int × Int)) (x18_4 : Int), v18 = .int .i64 x18_4 ∧ Aside0 (impl_VerifySubset.l2 kq a0 x12_3 x15_4 x16_3 x17_4 x18_4 = some (r1, r2)) ∧ Aside0 (kq ≤ k3) ∧ Aside0 (Kd.V (Kd.int .i64) 3 w' w.heap.size (fun k_ => k_ < w.heap.size) v15 x15_4) ∧ Aside0 (MapW Tryd.prog 3 3 (Lit.int .i64) w' g7 x12_3) ∧ Aside0 (MapW Tryd.prog 3 3 (Lit.int .i64) w' gq_ x17_4) ∧ Aside0 (Below w.heap.size w w'))
        case atStart => exact ⟨(x15_3), ([]), (0), ZZ0ab324, H', ⟨Nat.le_refl _⟩, ⟨ZZ7bec11⟩, ⟨ZZ04b898⟩, ⟨ZZaf2bc8⟩, ⟨ZZ605003⟩⟩
        case round =>
         clear H'
         try clear c27b0
         obtain ⟨x15_4, x17_4, x18_4, rfl, HA, HK4, HO_15, HM7, HM12, HB⟩ := hrel
         cases gk with
         | zero => exact absurd HA.out (by simp [impl_VerifySubset.l2])
         | succ k4 =>
          have H := HA.out
          clear HA
          simp only [impl_VerifySubset.l2] at H
          by_cases c28 : x18_4 < x16_3
          ·rw [if_pos c28] at H
           have c28b0 := decide_eq_true c28
           clear c28
           obtain ⟨⟨t199, t200⟩, A29, H⟩ := bdY H
           try dsimp only at H
           obtain ⟨⟨t201, t202⟩, A30, H⟩ := bdY H
           try dsimp only at H
           have HC31 := Aside0.mk H
           clear H
           go_upto_region 19 with (first | ((with_reducible refine gate_lookup2 rfl ?_); refine look_eventG A29.out rfl _ _ 87 rfl rfl rfl Tryd.underlying3 Tryd.underlying87 Tryd.underlying3 (by kernel_rfl) ZZ04b898 ?_) | ((with_reducible refine gate_lookup2 rfl ?_); refine look_eventG A30.out rfl _ _ 87 rfl rfl rfl Tryd.underlying3 Tryd.underlying87 Tryd.underlying3 (by kernel_rfl) ZZ04b898 ?_))
           (try simp only [Act.put, List.setIfInBounds_toArray, List.set_cons_zero, List.set_cons_succ])
           go_cut [95] (fun v95 wc => ∃ (kq : Nat) (x95_30 : Bool), v95 = .bool x95_30 ∧ Aside0 (impl_VerifySubset.j4 kq a0 x12_3 x15_4 x16_3 x17_4 x18_4 t199 t200 t201 t202 x95_30 = some (r1, r2)) ∧ Aside0 (kq ≤ k4) ∧ Aside0 (Kd.V (Kd.int .i64) 3 wc w.heap.size (fun k_ => k_ < w.heap.size) u15 x15_4) ∧ Aside0 (MapW Tryd.prog 3 3 (Lit.int .i64) wc g7 x12_3) ∧ Aside0 (MapW Tryd.prog 3 3 (Lit.int .i64) wc gq_ x17_4) ∧ Aside0 (Below w.heap.size w wc))
           case first =>
            have H := HC31.out
            clear HC31
            by_cases c32 : t200 = true
            ·subst c32
             have H1 : (impl_VerifySubset.j4 k4 a0 x12_3 x15_4 x16_3 x17_4 x18_4 t199 true t201 t202 false) = some (r1, r2) := by rw [if_pos rfl] at H; exact H
             clear H
             have H := H1
             clear H1
             have H' := Aside0.mk H
             clear H
             go_wp2
             go_meet
             case rel => exact ⟨_, (false), ZZ0ab324, H', ⟨(by have := HJ5.out; have := HK2.out; have := HK3.out; have := HK4.out; first | omega | exact Nat.le_refl _)⟩, ⟨ZZ7bec11⟩, ⟨ZZ04b898⟩, ⟨ZZaf2bc8⟩, ⟨ZZ605003⟩⟩
            replace c32 := Bool.eq_false_iff.mpr c32
            subst c32
            have H1 : (impl_VerifySubset.j4 k4 a0 x12_3 x15_4 x16_3 x17_4 x18_4 t199 false t201 t202 (!t202)) = some (r1, r2) := by rw [if_neg (show ¬ (false = true) by decide)] at H; exact H
            clear H
            have H := H1
            clear H1
            have H' := Aside0.mk H
            clear H
            go_wp2
            go_meet
            case rel => exact ⟨_, (!t202), ZZ0ab324, H', ⟨(by have := HJ5.out; have := HK2.out; have := HK3.out; have := HK4.out; first | omega | exact Nat.le_refl _)⟩, ⟨ZZ7bec11⟩, ⟨ZZ04b898⟩, ⟨ZZaf2bc8⟩, ⟨ZZ605003⟩⟩
           case rest =>
            clear HC31
            try clear c28b0
            try clear c32
            obtain ⟨kq, x95_30, rfl, HA, HJ30, HO_15, HM7, HM12, HB⟩ := hcut
            cases kq with
            | zero => exact absurd HA.out (by simp [impl_VerifySubset.j4])
            | succ kj30 =>
             have H := HA.out
             clear HA
             simp only [impl_VerifySubset.j4] at H
             by_cases c33 : x95_30 = true
             ·subst c33
              have H1 : (impl_VerifySubset.l2 kj30 a0 x12_3 x15_4 x16_3 x17_4 (wrap64 (x18_4 + 2))) = some (r1, r2) := by rw [if_pos rfl] at H; exact H
              clear H
              have H := H1
              clear H1
              have H' := Aside0.mk H
              clear H
              go_wp2
              go_roundg kj30
              case measure => have := HJ5.out; have := HK2.out; have := HK3.out; have := HK4.out; have := HJ30.out; omega
              case rel => exact ⟨(x15_4), (x17_4), (wrap64 (x18_4 + 2)), ZZ0ab324, H', ⟨(by have := HJ5.out; have := HK2.out; have := HK3.out; have := HK4.out; have := HJ30.out; omega)⟩, ⟨ZZ7bec11⟩, ⟨ZZ04b898⟩, ⟨ZZaf2bc8⟩, ⟨ZZ605003⟩⟩
             replace c33 := Bool.eq_false_iff.mpr c33
             subst c33
             have H1 : (if (wrap64 (x18_4 + 1)) = x16_3 then ((mapSet.f x17_4 (wrap64 (Int.tdiv x18_4 2)) t199).bind fun t203 => (impl_VerifySubset.l2 kj30 a0 x12_3 x15_4 x16_3 t203 (wrap64 (x18_4 + 2)))) else (if t200 = true then (impl_VerifySubset.j5 kj30 a0 x12_3 x15_4 x16_3 x17_4 x18_4 t199 t200 t201 (!t202)) else (impl_VerifySubset.j5 kj30 a0 x12_3 x15_4 x16_3 x17_4 x18_4 t199 t200 t201 true))) = some (r1, r2) := by rw [if_neg (show ¬ (false = true) by decide)] at H; exact H
             clear H
             have H := H1
             clear H1
             by_cases c34 : (wrap64 (x18_4 + 1)) = x16_3
             ·rw [if_pos c34] at H
              have c34b0 := beq_iff_eq.mpr c34
              have c34b1 := bne_eq_false_iff_eq.mpr c34
              clear c34
              obtain ⟨t203, A35, H⟩ := bdY H
              have H' := Aside0.mk H
              clear H
              go_wp2_with (first | ((with_reducible refine gate_update rfl ?_); obtain ⟨hky, hvy, hln, hle⟩ := mapSet.open_ A35.out; refine update_event (k := 3) (e := 3) (enc := Lit.int .i64) (vv := t199) (L := x17_4) rfl _ _ _ 87 (Or.inl rfl) rfl rfl rfl Tryd.underlying3 Tryd.underlying87 ZZaf2bc8 hln hky (plainElem_int Tryd.underlying3 hvy) ?_; intro wm2 hm hg; rw [← hle] at hm; have HM7 := Aside0.mk (MapW.kept (P := Tryd.prog) (k := 3) (e := 3) (enc := Lit.int .i64) (b := g7) (L := x12_3) ZZ04b898 hg (fun e_ => HNE.out (by injection e_))); replace HO_15 := Aside0.mk (Kd.V_grown ZZ7bec11 hg (fun k_ hk_ e_ => by injection e_ with e_; subst e_; exact Nat.not_le.2 hk_ GM12.out)); replace HB := Aside0.mk (Below.grown ZZ605003 hg (below_size ZZ605003) (fun _ e_ => by cases e_; exact GM12.out)); have HM12 := Aside0.mk hm; clear hm hg hky hvy hln hle))
              go_roundg kj30
              case measure => have := HJ5.out; have := HK2.out; have := HK3.out; have := HK4.out; have := HJ30.out; omega
              case rel => exact ⟨(x15_4), (t203), (wrap64 (x18_4 + 2)), ZZ0ab324, H', ⟨(by have := HJ5.out; have := HK2.out; have := HK3.out; have := HK4.out; have := HJ30.out; omega)⟩, ⟨ZZ7bec11⟩, ⟨ZZ04b898⟩, ⟨ZZaf2bc8⟩, ⟨ZZ605003⟩⟩
             rw [if_neg c34] at H
             have c34b0 := beq_eq_false_iff_ne.mpr c34
             have c34b1 := bne_iff_ne.mpr c34
             have HC37 := Aside0.mk H
             clear H
             go_upto_region 22 with (fail)
             go_cut [111] (fun v111 wc => ∃ (kq : Nat) (x111_36 : Bool), v111 = .bool x111_36 ∧ Aside0 (impl_VerifySubset.j5 kq a0 x12_3 x15_4 x16_3 x17_4 x18_4 t199 t200 t201 x111_36 = some (r1, r2)) ∧ Aside0 (kq ≤ kj30) ∧ Aside0 (Kd.V (Kd.int .i64) 3 wc w.heap.size (fun k_ => k_ < w.heap.size) u15 x15_4) ∧ Aside0 (MapW Tryd.prog 3 3 (Lit.int .i64) wc g7 x12_3) ∧ Aside0 (MapW Tryd.prog 3 3 (Lit.int .i64) wc gq_ x17_4) ∧ Aside0 (Below w.heap.size w wc))
             case first =>
              have H := HC37.out
              clear HC37
              by_cases c38 : t200 = true
              ·subst c38
               have H1 : (impl_VerifySubset.j5 kj30 a0 x12_3 x15_4 x16_3 x17_4 x18_4 t199 true t201 (!t202)) = some (r1, r2) := by rw [if_pos rfl] at H; exact H
               clear H
               have H := H1
               clear H1
               have H' := Aside0.mk H
               clear H
               go_wp2
               go_meet
               case rel => exact ⟨_, (!t202), ZZ0ab324, H', ⟨(by have := HJ5.out; have := HK2.out; have := HK3.out; have := HK4.out; have := HJ30.out; first | omega | exact Nat.le_refl _)⟩, ⟨ZZ7bec11⟩, ⟨ZZ04b898⟩, ⟨ZZaf2bc8⟩, ⟨ZZ605003⟩⟩
              replace c38 := Bool.eq_false_iff.mpr c38
              subst c38
              have H1 : (impl_VerifySubset.j5 kj30 a0 x12_3 x15_4 x16_3 x17_4 x18_4 t199 false t201 true) = some (r1, r2) := by rw [if_neg (show ¬ (false = true) by decide)] at H; exact H
              clear H
              have H := H1
              clear H1
              have H' := Aside0.mk H
              clear H
              go_wp2
              go_meet
              case rel => exact ⟨_, (true), ZZ0ab324, H', ⟨(by have := HJ5.out; have := HK2.out; have := HK3.out; have := HK4.out; have := HJ30.out; first | omega | exact Nat.le_refl _)⟩, ⟨ZZ7bec11⟩, ⟨ZZ04b898⟩, ⟨ZZaf2bc8⟩, ⟨ZZ605003⟩⟩
             case rest =>
              clear HC37
              try clear c33
              try clear c34
              try clear c34b0
              try clear c34b1
              try clear c38
              obtain ⟨kq, x111_36, rfl, HA, HJ36, HO_15, HM7, HM12, HB⟩ := hcut
              cases kq with
              | zero => exact absurd HA.out (by simp [impl_VerifySubset.j5])
              | succ kj36 =>
               have H := HA.out
               clear HA
               simp only [impl_VerifySubset.j5] at H
               by_cases c39 : x111_36 = true
               ·subst c39
                have H1 : (if (x15_4.length : Int) = 0 then (some (false, true)) else (if t200 = true then (if 0 < (x15_4.length : Int) then (if 1 ≤ (x15_4.length : Int) then ((impl_pairHash.f kj36 t199 (rd x15_4 0)).bind fun t210 => ((mapSet.f x17_4 (wrap64 (Int.tdiv x18_4 2)) t210).bind fun t211 => (impl_VerifySubset.l2 kj36 a0 x12_3 (x15_4.drop 1) x16_3 t211 (wrap64 (x18_4 + 2))))) else (none)) else (none)) else (if 0 < (x15_4.length : Int) then (if 1 ≤ (x15_4.length : Int) then ((impl_pairHash.f kj36 (rd x15_4 0) t201).bind fun t218 => ((mapSet.f x17_4 (wrap64 (Int.tdiv x18_4 2)) t218).bind fun t219 => (impl_VerifySubset.l2 kj36 a0 x12_3 (x15_4.drop 1) x16_3 t219 (wrap64 (x18_4 + 2))))) else (none)) else (none)))) = some (r1, r2) := by rw [if_pos rfl] at H; exact H
                clear H
                have H := H1
                clear H1
                by_cases c40 : (x15_4.length : Int) = 0
                ·rw [if_pos c40] at H
                 have c40b0 := beq_iff_eq.mpr c40
                 have c40b1 := bne_eq_false_iff_eq.mpr c40
                 clear c40
                 simp only [Option.some.injEq, Prod.mk.injEq] at H
                 obtain ⟨rfl, rfl⟩ := H
                 obtain ⟨Ao41, co41, eo41⟩ := Kd.V_slice HO_15.out
                 subst eo41
                 go_wp2
                 go_ret2
                 exact ⟨ZZab01d2, ZZ605003⟩
                rw [if_neg c40] at H
                have c40b0 := beq_eq_false_iff_ne.mpr c40
                have c40b1 := bne_iff_ne.mpr c40
                have c40b2 : ¬ (x15_4 = []) := fun h_ => c40 (by rw [h_]; rfl)
                by_cases c42 : t200 = true
                ·subst c42
                 have H1 : (if 0 < (x15_4.length : Int) then (if 1 ≤ (x15_4.length : Int) then ((impl_pairHash.f kj36 t199 (rd x15_4 0)).bind fun t210 => ((mapSet.f x17_4 (wrap64 (Int.tdiv x18_4 2)) t210).bind fun t211 => (impl_VerifySubset.l2 kj36 a0 x12_3 (x15_4.drop 1) x16_3 t211 (wrap64 (x18_4 + 2))))) else (none)) else (none)) = some (r1, r2) := by rw [if_pos rfl] at H; exact H
                 clear H
                 have H := H1
                 clear H1
                 obtain ⟨c43, H⟩ := ifY H
                 have c43b0 := decide_eq_true c43
                 have c43b1 : decide (0 < x15_4.length) = true := decide_eq_true (by omega)
                 clear c43
                 obtain ⟨c44, H⟩ := ifY H
                 have c44b0 := eq_true c44
                 have c44b1 := decide_eq_true c44
                 clear c44
                 obtain ⟨y205, hy205⟩ : ∃ y_ : List Int, y_ = (x15_4.drop 1) := ⟨_, rfl⟩
                 replace H : ((impl_pairHash.f kj36 t199 (rd x15_4 0)).bind fun t210 => ((mapSet.f x17_4 (wrap64 (Int.tdiv x18_4 2)) t210).bind fun t211 => (impl_VerifySubset.l2 kj36 a0 x12_3 y205 x16_3 t211 (wrap64 (x18_4 + 2))))) = some (r1, r2) := by first | (rw [hy205]; with_reducible exact H) | (have H2_ := (Option.bind_some _ _).symm.trans H; rw [hy205]; with_reducible exact H2_) | (have H2_ := (Option.bind_some _ _).symm.trans H; with_reducible exact H2_) | with_reducible exact H | (rw [hy205]; exact H) | exact H
                 have Ny205 := Aside0.mk hy205
                 clear hy205
                 obtain ⟨t210, A45, H⟩ := bdY H
                 obtain ⟨t211, A46, H⟩ := bdY H
                 have H' := Aside0.mk H
                 clear H
                 obtain ⟨Ao47, co47, eo47⟩ := Kd.V_slice HO_15.out
                 subst eo47
                 have p204 : 0 ≤ (0 : Int) := (by omega)
                 have q204 : 0 < (x15_4.length : Int) := of_decide_eq_true ZZ853400
                 obtain ⟨ad204, e204, hx204_0⟩ := Kd.at_int (Kd.V_reads' HO_15.out).2.2 0 p204 q204
                 cases e204
                 have qi204 : (0 < x15_4.length) = True := eq_true (by omega)
                 (try rw [show ((0 : Int)).toNat = 0 from rfl] at hx204_0)
                 (try rw [Addr.add_zero'] at hx204_0)
                 replace p204 := eq_true p204
                 replace q204 := eq_true q204
                 have q48 : (1 : Int) ≤ ((x15_4.length : Int) : Int) := of_decide_eq_true ZZ853400
                 obtain ⟨i048, hi048, _, hsz48, _⟩ := info_parts info3
                 have hroom48 : x15_4.length ≤ co47 := (Kd.V_reads' HO_15.out).2.1
                 have hC48 : Kd.F (Kd.int .i64) _ _ (some ad204) x15_4.length x15_4 := (Kd.V_at (base := w.heap.size) HO_15.out).2.2
                 have hcut48 := cut_from (P := Tryd.prog) 40 3 .i64 Tryd.underlying40 hi048 1 hsz48 (some ad204) x15_4.length co47 1 (by omega) q48
                 have hr48 := Kd.F_cut (m := (1 : Int).toNat) (c := co47) hC48 (by omega) hroom48
                 obtain ⟨A48, hA48⟩ : ∃ A1, A1 = (if co47 = (1 : Int).toNat then (some ad204) else ((some ad204) : Option Addr).map (·.add ((1 : Int).toNat * 1))) := ⟨_, rfl⟩
                 obtain ⟨c48, hc48⟩ : ∃ c1, c1 = co47 - (1 : Int).toNat := ⟨_, rfl⟩
                 have hy48 : y205.length = x15_4.length - (1 : Int).toNat := (by rw [Ny205.out, List.length_drop] <;> omega)
                 rw [show (x15_4).drop (1 : Int).toNat = y205 from Ny205.out.symm] at hr48
                 replace hr48 : Kd.F (Kd.int .i64) _ _ A48 y205.length y205 := (by rw [hA48]; exact hr48)
                 rw [← hy48, ← hA48, ← hc48] at hcut48
                 have HO209 := Aside0.mk (show Kd.V (Kd.int .i64) 3 _ w.heap.size _ (.slice A48 y205.length c48) y205 from Kd.V_mk (by rw [hy48, hc48]; exact Nat.sub_le_sub_right hroom48 _) hr48)
                 have HC209 := Aside0.mk (show y205.length ≤ c48 from by rw [hy48, hc48]; exact Nat.sub_le_sub_right hroom48 _)
                 clear hr48 hC48 hroom48 hi048 hsz48 hc48
                 have KY48 := Aside0.mk hy48
                 have KA48 := Aside0.mk hA48
                 clear hy48 hA48
                 replace q48 := eq_true q48
                 go_wp2_with (first | ((with_reducible refine gate_callee (f := 54) rfl ?_); refine goesL_ (some 135) rfl rfl Tryd.func54 (by kernel_rfl) rfl #[.int .i64 t199, .int .i64 (rd x15_4 0)] rfl ZZ19826e ?_; (with_reducible refine (impl_pairHash.calls kj36 t199 (rd x15_4 0) t210 _ ?side1 A45.out).mono ?_); (case side1 => first | (with_reducible exact HV.out) | exact TInv.below HV.out ZZ605003); rintro e w49 ⟨rfl, hb⟩; refine ⟨_, rfl, ?_⟩; have HM7 := Aside0.mk (MapW.below (L := x12_3) ZZ04b898 hb); have HM12 := Aside0.mk (MapW.below (L := x17_4) ZZaf2bc8 hb); replace HO_15 := Aside0.mk (Kd.V_below ZZ7bec11 hb); replace HO209 := Aside0.mk (Kd.V_below (by (with_reducible repeat (first | apply Kd.V_alloc | apply Kd.V_drewN | apply Kd.V_drew)); exact HO209.out) hb); replace HB := Aside0.mk (below_step ZZ605003 hb); (try clear hb); (try clear hb2); (try clear hk); (try clear hi)) | ((with_reducible refine gate_update rfl ?_); obtain ⟨hky, hvy, hln, hle⟩ := mapSet.open_ A46.out; refine update_event (k := 3) (e := 3) (enc := Lit.int .i64) (vv := t210) (L := x17_4) rfl _ _ _ 87 (Or.inl rfl) rfl rfl rfl Tryd.underlying3 Tryd.underlying87 ZZaf2bc8 hln hky (plainElem_int Tryd.underlying3 hvy) ?_; intro wm2 hm hg; rw [← hle] at hm; have HM7 := Aside0.mk (MapW.kept (P := Tryd.prog) (k := 3) (e := 3) (enc := Lit.int .i64) (b := g7) (L := x12_3) ZZ04b898 hg (fun e_ => HNE.out (by injection e_))); replace HO_15 := Aside0.mk (Kd.V_grown ZZ7bec11 hg (fun k_ hk_ e_ => by injection e_ with e_; subst e_; exact Nat.not_le.2 hk_ GM12.out)); replace HO209 := Aside0.mk (Kd.V_grown (by (with_reducible repeat (first | apply Kd.V_alloc | apply Kd.V_drewN | apply Kd.V_drew)); exact HO209.out) hg (fun k_ hk_ e_ => by injection e_ with e_; subst e_; exact Nat.not_le.2 hk_ GM12.out)); replace HB := Aside0.mk (Below.grown ZZ605003 hg (below_size ZZ605003) (fun _ e_ => by cases e_; exact GM12.out)); have HM12 := Aside0.mk hm; clear hm hg hky hvy hln hle))
                 go_roundg kj36
                 case measure => have := HJ5.out; have := HK2.out; have := HK3.out; have := HK4.out; have := HJ30.out; have := HJ36.out; omega
                 case rel => exact ⟨(y205), (t211), (wrap64 (x18_4 + 2)), ZZ0ab324, H', ⟨(by have := HJ5.out; have := HK2.out; have := HK3.out; have := HK4.out; have := HJ30.out; have := HJ36.out; omega)⟩, ⟨(by (with_reducible repeat (first | apply Kd.V_alloc | apply Kd.V_drewN | apply Kd.V_drew)); exact HO209.out)⟩, ⟨ZZ04b898⟩, ⟨ZZaf2bc8⟩, ⟨ZZ605003⟩⟩
                replace c42 := Bool.eq_false_iff.mpr c42
                subst c42
                have H1 : (if 0 < (x15_4.length : Int) then (if 1 ≤ (x15_4.length : Int) then ((impl_pairHash.f kj36 (rd x15_4 0) t201).bind fun t218 => ((mapSet.f x17_4 (wrap64 (Int.tdiv x18_4 2)) t218).bind fun t219 => (impl_VerifySubset.l2 kj36 a0 x12_3 (x15_4.drop 1) x16_3 t219 (wrap64 (x18_4 + 2))))) else (none)) else (none)) = some (r1, r2) := by rw [if_neg (show ¬ (false = true) by decide)] at H; exact H
                clear H
                have H := H1
                clear H1
                obtain ⟨c51, H⟩ := ifY H
                have c51b0 := decide_eq_true c51
                have c51b1 : decide (0 < x15_4.length) = true := decide_eq_true (by omega)
                clear c51
                obtain ⟨c52, H⟩ := ifY H
                have c52b0 := eq_true c52
                have c52b1 := decide_eq_true c52
                clear c52
                obtain ⟨y213, hy213⟩ : ∃ y_ : List Int, y_ = (x15_4.drop 1) := ⟨_, rfl⟩
                replace H : ((impl_pairHash.f kj36 (rd x15_4 0) t201).bind fun t218 => ((mapSet.f x17_4 (wrap64 (Int.tdiv x18_4 2)) t218).bind fun t219 => (impl_VerifySubset.l2 kj36 a0 x12_3 y213 x16_3 t219 (wrap64 (x18_4 + 2))))) = some (r1, r2) := by first | (rw [hy213]; with_reducible exact H) | (have H2_ := (Option.bind_some _ _).symm.trans H; rw [hy213]; with_reducible exact H2_) | (have H2_ := (Option.bind_some _ _).symm.trans H; with_reducible exact H2_) | with_reducible exact H | (rw [hy213]; exact H) | exact H
                have Ny213 := Aside0.mk hy213
                clear hy213
                obtain ⟨t218, A53, H⟩ := bdY H
                obtain ⟨t219, A54, H⟩ := bdY H
                have H' := Aside0.mk H
                clear H
                obtain ⟨Ao55, co55, eo55⟩ := Kd.V_slice HO_15.out
                subst eo55
                have p212 : 0 ≤ (0 : Int) := (by omega)
                have q212 : 0 < (x15_4.length : Int) := of_decide_eq_true ZZ853400
                obtain ⟨ad212, e212, hx212_0⟩ := Kd.at_int (Kd.V_reads' HO_15.out).2.2 0 p212 q212
                cases e212
                have qi212 : (0 < x15_4.length) = True := eq_true (by omega)
                (try rw [show ((0 : Int)).toNat = 0 from rfl] at hx212_0)
                (try rw [Addr.add_zero'] at hx212_0)
                replace p212 := eq_true p212
                replace q212 := eq_true q212
                have q56 : (1 : Int) ≤ ((x15_4.length : Int) : Int) := of_decide_eq_true ZZ853400
                obtain ⟨i056, hi056, _, hsz56, _⟩ := info_parts info3
                have hroom56 : x15_4.length ≤ co55 := (Kd.V_reads' HO_15.out).2.1
                have hC56 : Kd.F (Kd.int .i64) _ _ (some ad212) x15_4.length x15_4 := (Kd.V_at (base := w.heap.size) HO_15.out).2.2
                have hcut56 := cut_from (P := Tryd.prog) 40 3 .i64 Tryd.underlying40 hi056 1 hsz56 (some ad212) x15_4.length co55 1 (by omega) q56
                have hr56 := Kd.F_cut (m := (1 : Int).toNat) (c := co55) hC56 (by omega) hroom56
                obtain ⟨A56, hA56⟩ : ∃ A1, A1 = (if co55 = (1 : Int).toNat then (some ad212) else ((some ad212) : Option Addr).map (·.add ((1 : Int).toNat * 1))) := ⟨_, rfl⟩
                obtain ⟨c56, hc56⟩ : ∃ c1, c1 = co55 - (1 : Int).toNat := ⟨_, rfl⟩
                have hy56 : y213.length = x15_4.length - (1 : Int).toNat := (by rw [Ny213.out, List.length_drop] <;> omega)
                rw [show (x15_4).drop (1 : Int).toNat = y213 from Ny213.out.symm] at hr56
                replace hr56 : Kd.F (Kd.int .i64) _ _ A56 y213.length y213 := (by rw [hA56]; exact hr56)
                rw [← hy56, ← hA56, ← hc56] at hcut56
                have HO217 := Aside0.mk (show Kd.V (Kd.int .i64) 3 _ w.heap.size _ (.slice A56 y213.length c56) y213 from Kd.V_mk (by rw [hy56, hc56]; exact Nat.sub_le_sub_right hroom56 _) hr56)
                have HC217 := Aside0.mk (show y213.length ≤ c56 from by rw [hy56, hc56]; exact Nat.sub_le_sub_right hroom56 _)
                clear hr56 hC56 hroom56 hi056 hsz56 hc56
                have KY56 := Aside0.mk hy56
                have KA56 := Aside0.mk hA56
                clear hy56 hA56
                replace q56 := eq_true q56
                go_wp2_with (first | ((with_reducible refine gate_callee (f := 54) rfl ?_); refine goesL_ (some 135) rfl rfl Tryd.func54 (by kernel_rfl) rfl #[.int .i64 (rd x15_4 0), .int .i64 t201] rfl ZZ19826e ?_; (with_reducible refine (impl_pairHash.calls kj36 (rd x15_4 0) t201 t218 _ ?side1 A53.out).mono ?_); (case side1 => first | (with_reducible exact HV.out) | exact TInv.below HV.out ZZ605003); rintro e w57 ⟨rfl, hb⟩; refine ⟨_, rfl, ?_⟩; have HM7 := Aside0.mk (MapW.below (L := x12_3) ZZ04b898 hb); have HM12 := Aside0.mk (MapW.below (L := x17_4) ZZaf2bc8 hb); replace HO_15 := Aside0.mk (Kd.V_below ZZ7bec11 hb); replace HO217 := Aside0.mk (Kd.V_below (by (with_reducible repeat (first | apply Kd.V_alloc | apply Kd.V_drewN | apply Kd.V_drew)); exact HO217.out) hb); replace HB := Aside0.mk (below_step ZZ605003 hb); (try clear hb); (try clear hb2); (try clear hk); (try clear hi)) | ((with_reducible refine gate_update rfl ?_); obtain ⟨hky, hvy, hln, hle⟩ := mapSet.open_ A54.out; refine update_event (k := 3) (e := 3) (enc := Lit.int .i64) (vv := t218) (L := x17_4) rfl _ _ _ 87 (Or.inl rfl) rfl rfl rfl Tryd.underlying3 Tryd.underlying87 ZZaf2bc8 hln hky (plainElem_int Tryd.underlying3 hvy) ?_; intro wm2 hm hg; rw [← hle] at hm; have HM7 := Aside0.mk (MapW.kept (P := Tryd.prog) (k := 3) (e := 3) (enc := Lit.int .i64) (b := g7) (L := x12_3) ZZ04b898 hg (fun e_ => HNE.out (by injection e_))); replace HO_15 := Aside0.mk (Kd.V_grown ZZ7bec11 hg (fun k_ hk_ e_ => by injection e_ with e_; subst e_; exact Nat.not_le.2 hk_ GM12.out)); replace HO217 := Aside0.mk (Kd.V_grown (by (with_reducible repeat (first | apply Kd.V_alloc | apply Kd.V_drewN | apply Kd.V_drew)); exact HO217.out) hg (fun k_ hk_ e_ => by injection e_ with e_; subst e_; exact Nat.not_le.2 hk_ GM12.out)); replace HB := Aside0.mk (Below.grown ZZ605003 hg (below_size ZZ605003) (fun _ e_ => by cases e_; exact GM12.out)); have HM12 := Aside0.mk hm; clear hm hg hky hvy hln hle))
                go_roundg kj36
                case measure => have := HJ5.out; have := HK2.out; have := HK3.out; have := HK4.out; have := HJ30.out; have := HJ36.out; omega
                case rel => exact ⟨(y213), (t219), (wrap64 (x18_4 + 2)), ZZ0ab324, H', ⟨(by have := HJ5.out; have := HK2.out; have := HK3.out; have := HK4.out; have := HJ30.out; have := HJ36.out; omega)⟩, ⟨(by (with_reducible repeat (first | apply Kd.V_alloc | apply Kd.V_drewN | apply Kd.V_drew)); exact HO217.out)⟩, ⟨ZZ04b898⟩, ⟨ZZaf2bc8⟩, ⟨ZZ605003⟩⟩
               replace c39 := Bool.eq_false_iff.mpr c39
               subst c39
               have H1 : ((impl_pairHash.f kj36 t199 t201).bind fun t220 => ((mapSet.f x17_4 (wrap64 (Int.tdiv x18_4 2)) t220).bind fun t221 => (impl_VerifySubset.l2 kj36 a0 x12_3 x15_4 x16_3 t221 (wrap64 (x18_4 + 2))))) = some (r1, r2) := by rw [if_neg (show ¬ (false = true) by decide)] at H; exact H
               clear H
               have H := H1
               clear H1
               obtain ⟨t220, A59, H⟩ := bdY H
               obtain ⟨t221, A60, H⟩ := bdY H
               have H' := Aside0.mk H
               clear H
               go_wp2_with (first | ((with_reducible refine gate_callee (f := 54) rfl ?_); refine goesL_ (some 135) rfl rfl Tryd.func54 (by kernel_rfl) rfl #[.int .i64 t199, .int .i64 t201] rfl ZZ19826e ?_; (with_reducible refine (impl_pairHash.calls kj36 t199 t201 t220 _ ?side1 A59.out).mono ?_); (case side1 => first | (with_reducible exact HV.out) | exact TInv.below HV.out ZZ605003); rintro e w61 ⟨rfl, hb⟩; refine ⟨_, rfl, ?_⟩; have HM7 := Aside0.mk (MapW.below (L := x12_3) ZZ04b898 hb); have HM12 := Aside0.mk (MapW.below (L := x17_4) ZZaf2bc8 hb); replace HO_15 := Aside0.mk (Kd.V_below ZZ7bec11 hb); replace HB := Aside0.mk (below_step ZZ605003 hb); (try clear hb); (try clear hb2); (try clear hk); (try clear hi)) | ((with_reducible refine gate_update rfl ?_); obtain ⟨hky, hvy, hln, hle⟩ := mapSet.open_ A60.out; refine update_event (k := 3) (e := 3) (enc := Lit.int .i64) (vv := t220) (L := x17_4) rfl _ _ _ 87 (Or.inl rfl) rfl rfl rfl Tryd.underlying3 Tryd.underlying87 ZZaf2bc8 hln hky (plainElem_int Tryd.underlying3 hvy) ?_; intro wm2 hm hg; rw [← hle] at hm; have HM7 := Aside0.mk (MapW.kept (P := Tryd.prog) (k := 3) (e := 3) (enc := Lit.int .i64) (b := g7) (L := x12_3) ZZ04b898 hg (fun e_ => HNE.out (by injection e_))); replace HO_15 := Aside0.mk (Kd.V_grown ZZ7bec11 hg (fun k_ hk_ e_ => by injection e_ with e_; subst e_; exact Nat.not_le.2 hk_ GM12.out)); replace HB := Aside0.mk (Below.grown ZZ605003 hg (below_size ZZ605003) (fun _ e_ => by cases e_; exact GM12.out)); have HM12 := Aside0.mk hm; clear hm hg hky hvy hln hle))
               go_roundg kj36
               case measure => have := HJ5.out; have := HK2.out; have := HK3.out; have := HK4.out; have := HJ30.out; have := HJ36.out; omega
               case rel => exact ⟨(x15_4), (t221), (wrap64 (x18_4 + 2)), ZZ0ab324, H', ⟨(by have := HJ5.out; have := HK2.out; have := HK3.out; have := HK4.out; have := HJ30.out; have := HJ36.out; omega)⟩, ⟨ZZ7bec11⟩, ⟨ZZ04b898⟩, ⟨ZZaf2bc8⟩, ⟨ZZ605003⟩⟩
          rw [if_neg c28] at H
          have c28b0 := decide_eq_false c28
          clear c28
          have H' := Aside0.mk H
          clear H
          go_wp2
          go_roundg k4
          case measure => have := HJ5.out; have := HK2.out; have := HK3.out; have := HK4.out; omega
          case rel => exact ⟨(x17_4), (x15_4), (wrap64 (Int.tdiv (wrap64 (x16_3 + 1)) 2)), gq_, ZZ0ab324, ZZ0ab324, H', ⟨(by have := HJ5.out; have := HK2.out; have := HK3.out; have := HK4.out; omega)⟩, ⟨ZZ7bec11⟩, ⟨ZZaf2bc8⟩, GM12, ⟨ZZ605003⟩⟩
       rw [if_neg c27] at H
       have c27b0 : decide (1 < x16_3) = false := decide_eq_false c27
       clear c27
       obtain ⟨t198, A63, H⟩ := bdY H
       by_cases c64 : t198 = a0
       ·rw [if_pos c64] at H
        have c64b0 := beq_iff_eq.mpr c64
        have c64b1 := bne_eq_false_iff_eq.mpr c64
        clear c64
        simp only [Option.some.injEq, Prod.mk.injEq] at H
        obtain ⟨rfl, rfl⟩ := H
        go_wp2_with (first | ((with_reducible refine gate_lookup rfl ?_); refine look_eventV A63.out rfl _ _ 87 rfl rfl rfl Tryd.underlying3 Tryd.underlying87 Tryd.underlying3 (by kernel_rfl) ZZ04b898 ?_; obtain ⟨Ao65, co65, eo65⟩ := Kd.V_slice HO_15.out; subst eo65))
        go_ret2
        exact ⟨ZZab01d2, ZZ605003⟩
       rw [if_neg c64] at H
       have c64b0 := beq_eq_false_iff_ne.mpr c64
       have c64b1 := bne_iff_ne.mpr c64
       simp only [Option.some.injEq, Prod.mk.injEq] at H
       obtain ⟨rfl, rfl⟩ := H
       go_wp2_with (first | ((with_reducible refine gate_lookup rfl ?_); refine look_eventV A63.out rfl _ _ 87 rfl rfl rfl Tryd.underlying3 Tryd.underlying87 Tryd.underlying3 (by kernel_rfl) ZZ04b898 ?_))
       go_ret2
       exact ⟨ZZab01d2, ZZ605003⟩
end Go.Proofs.YtnfmlglhoboooaaDoor.XFnEvidence

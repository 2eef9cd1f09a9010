-- Printed by wip/tools/xprint.py, a program of this session, over the kit's print; Lean checks it.
import Derived.Test.YtnfmlglhoboooaaDoorXFnEvidence0
import Derived.Test.YtnfmlglhoboooaaDoorXFnEvidence1
import Derived.Test.YtnfmlglhoboooaaDoorXFnEvidence2
import Derived.Test.YtnfmlglhoboooaaDoorXFnEvidence3
import Derived.Test.YtnfmlglhoboooaaDoorXFnEvidence5
import Derived.Test.YtnfmlglhoboooaaDoorXFnEvidence6
import Derived.Test.YtnfmlglhoboooaaDoorXFnEvidence7
import Derived.Test.YtnfmlglhoboooaaDoorXFnEvidence8
import Derived.Test.YtnfmlglhoboooaaDoorXFnEvidence9
import Derived.Test.YtnfmlglhoboooaaDoorXFnEvidence10
namespace Go.Proofs.YtnfmlglhoboooaaDoor.XFnEvidence
open Go.Proofs.YtnfmlglhoboooaaDoor.Short Go.RowKit Go.Proofs.YtnfmlglhoboooaaDoorW.PrintWords Go.Proofs.YtnfmlglhoboooaaDoorW.PrintLast Go.Proofs.YtnfmlglhoboooaaDoorW.PrintMore
attribute [local go_sem] max2_int min2_int max_two min_two max_three min_three max_four min_four   -- for this text's walks alone
set_option linter.unusedVariables false
set_option linter.unusedSimpArgs false
/-! ### laws_FnEvidence: function 13 -/
mutual
def laws_FnEvidence.j0 : Nat → List Int → List Int → Int → Int → Bool → Option (Bool)
 | 0, _, _, _, _, _ => none
 | k + 1, x0, x3, x4, x5, x51 => if x51 = true then (some false) else ((impl_ProveLeaf.f k x3 x4).bind fun bt439 => ((spec_ProveLeaf.f k x3 x4).bind fun bt443 => (if (bt439.2 != bt443.2) = true then (some false) else (if bt439.2 = true then (if 0 ≤ x4 then (if x4 < (x3.length : Int) then ((impl_VerifyLeaf.f k x5 (rd x3 x4) bt439.1).bind fun bt448 => (if bt448.1 = true then (if bt448.2 = true then (laws_FnEvidence.j1 k x0) else (some false)) else (some false))) else (none)) else (none)) else (laws_FnEvidence.j1 k x0)))))
def laws_FnEvidence.j1 : Nat → List Int → Option (Bool)
 | 0, _ => none
 | k + 1, x0 => (spec_DrawProveSubset.f k x0).bind fun bt450 => ((impl_ProveSubset.f k bt450.1 bt450.2).bind fun bt456 => ((spec_ProveSubset.f k bt450.1 bt450.2).bind fun bt460 => (if (bt456.2 != bt460.2) = true then (laws_FnEvidence.j2 k bt450.1 bt450.2 bt456.1 bt456.2 bt460.1 bt460.2 true) else ((laws_vInts.f k bt456.1 bt460.1).bind fun t464 => (if t464 = true then (laws_FnEvidence.j2 k bt450.1 bt450.2 bt456.1 bt456.2 bt460.1 bt460.2 (!bt456.2)) else (laws_FnEvidence.j2 k bt450.1 bt450.2 bt456.1 bt456.2 bt460.1 bt460.2 true))))))
def laws_FnEvidence.j2 : Nat → List Int → List Int → List Int → Bool → List Int → Bool → Bool → Option (Bool)
 | 0, _, _, _, _, _, _, _ => none
 | k + 1, x15, x16, x17, x18, x19, x20, x113 => if x113 = true then (if (x18 == x20) = true then ((laws_vInts.f k x17 x19).bind fun t465 => (some t465)) else (some false)) else (laws_FnEvidence.l0 k x15 x16 x17 (([] : List Int)) 0)
def laws_FnEvidence.l0 : Nat → List Int → List Int → List Int → List Int → Int → Option (Bool)
 | 0, _, _, _, _, _ => none
 | k + 1, x15, x16, x17, x21, x22 => if x22 < (x16.length : Int) then (if 0 ≤ x22 then (if 0 ≤ (rd x16 x22) then (if (rd x16 x22) < (x15.length : Int) then (if x21.length < 17592186044416 then (laws_FnEvidence.l0 k x15 x16 x17 (x21 ++ [rd x15 (rd x16 x22)]) (wrap64 (x22 + 1))) else (none)) else (none)) else (none)) else (none)) else ((impl_TreeRoot.f k x15).bind fun bt474 => ((impl_VerifySubset.f k bt474.1 (x15.length : Int) x16 x21 x17).bind fun bt476 => (if bt474.2 = true then (if bt476.1 = true then (if bt476.2 = true then (some (decide ((x17.length : Int) ≤ (wrap64 ((wrap64 ((x15.length : Int) - (x16.length : Int))) + (wrap64 ((x16.length : Int) * 5))))))) else (some false)) else (some false)) else (some false))))
end
def laws_FnEvidence.f (k : Nat) (l0 : List Int) : Option (Bool) := (laws_vBig.f l0).bind fun t430 => (if t430 = true then (some true) else ((spec_DrawProveLeaf.f k l0).bind fun bt431 => ((impl_TreeRoot.f k bt431.1).bind fun bt435 => ((spec_TreeRoot.f k bt431.1).bind fun bt437 => (if bt435.1 = bt437.1 then (laws_FnEvidence.j0 k l0 bt431.1 bt431.2 bt435.1 (bt435.2 != bt437.2)) else (laws_FnEvidence.j0 k l0 bt431.1 bt431.2 bt435.1 true))))))
theorem laws_FnEvidence.mono_l : ∀ k, (∀ y0 y1 y2 y3 y4, LeO (laws_FnEvidence.j0 k y0 y1 y2 y3 y4) (laws_FnEvidence.j0 (k + 1) y0 y1 y2 y3 y4)) ∧ (∀ y0, LeO (laws_FnEvidence.j1 k y0) (laws_FnEvidence.j1 (k + 1) y0)) ∧ (∀ y0 y1 y2 y3 y4 y5 y6, LeO (laws_FnEvidence.j2 k y0 y1 y2 y3 y4 y5 y6) (laws_FnEvidence.j2 (k + 1) y0 y1 y2 y3 y4 y5 y6)) ∧ (∀ y0 y1 y2 y3 y4, LeO (laws_FnEvidence.l0 k y0 y1 y2 y3 y4) (laws_FnEvidence.l0 (k + 1) y0 y1 y2 y3 y4))
 | 0 => ⟨fun _ _ _ _ _ r h => by simp [laws_FnEvidence.j0] at h, fun _ r h => by simp [laws_FnEvidence.j1] at h, fun _ _ _ _ _ _ _ r h => by simp [laws_FnEvidence.j2] at h, fun _ _ _ _ _ r h => by simp [laws_FnEvidence.l0] at h⟩
 | k + 1 => by
  obtain ⟨ih0, ih1, ih2, ih3⟩ := laws_FnEvidence.mono_l k
  refine ⟨?_, ?_, ?_, ?_⟩
  all_goals intros
  all_goals (first | unfold laws_FnEvidence.j0 | unfold laws_FnEvidence.j1 | unfold laws_FnEvidence.j2 | unfold laws_FnEvidence.l0)
  all_goals
   repeat' first
   | (with_reducible exact ih0 _ _ _ _ _)
   | (with_reducible exact ih1 _)
   | (with_reducible exact ih2 _ _ _ _ _ _ _)
   | (with_reducible exact ih3 _ _ _ _ _)
   | (with_reducible exact impl_ProveLeaf.mono _ _ _)
   | (with_reducible exact impl_ProveSubset.mono _ _ _)
   | (with_reducible exact impl_TreeRoot.mono _ _)
   | (with_reducible exact impl_VerifyLeaf.mono _ _ _ _)
   | (with_reducible exact impl_VerifySubset.mono _ _ _ _ _ _)
   | (with_reducible exact laws_vInts.mono _ _ _)
   | (with_reducible exact spec_DrawProveLeaf.mono _ _)
   | (with_reducible exact spec_DrawProveSubset.mono _ _)
   | (with_reducible exact spec_ProveLeaf.mono _ _ _)
   | (with_reducible exact spec_ProveSubset.mono _ _ _)
   | (with_reducible exact spec_TreeRoot.mono _ _)
   | (with_reducible exact LeO.refl _)
   | (with_reducible exact LeO.none _)
   | (with_reducible refine LeO.ite ?_ ?_)
   | (with_reducible refine LeO.bind ?_ (fun _ => ?_))
   | exact ih0 _ _ _ _ _
   | exact ih1 _
   | exact ih2 _ _ _ _ _ _ _
   | exact ih3 _ _ _ _ _
   | exact impl_ProveLeaf.mono _ _ _
   | exact impl_ProveSubset.mono _ _ _
   | exact impl_TreeRoot.mono _ _
   | exact impl_VerifyLeaf.mono _ _ _ _
   | exact impl_VerifySubset.mono _ _ _ _ _ _
   | exact laws_vInts.mono _ _ _
   | exact spec_DrawProveLeaf.mono _ _
   | exact spec_DrawProveSubset.mono _ _
   | exact spec_ProveLeaf.mono _ _ _
   | exact spec_ProveSubset.mono _ _ _
   | exact spec_TreeRoot.mono _ _
   | exact LeO.none _
   | refine LeO.ite ?_ ?_
   | refine LeO.bind ?_ (fun _ => ?_)
theorem laws_FnEvidence.mono : ∀ a0 k, LeO (laws_FnEvidence.f k a0) (laws_FnEvidence.f (k + 1) a0) := by
 intro a0 k
 obtain ⟨ih0, ih1, ih2, ih3⟩ := laws_FnEvidence.mono_l k
 unfold laws_FnEvidence.f
 repeat' first
  | (with_reducible exact ih0 _ _ _ _ _)
  | (with_reducible exact ih1 _)
  | (with_reducible exact ih2 _ _ _ _ _ _ _)
  | (with_reducible exact ih3 _ _ _ _ _)
  | (with_reducible exact impl_ProveLeaf.mono _ _ _)
  | (with_reducible exact impl_ProveSubset.mono _ _ _)
  | (with_reducible exact impl_TreeRoot.mono _ _)
  | (with_reducible exact impl_VerifyLeaf.mono _ _ _ _)
  | (with_reducible exact impl_VerifySubset.mono _ _ _ _ _ _)
  | (with_reducible exact laws_vInts.mono _ _ _)
  | (with_reducible exact spec_DrawProveLeaf.mono _ _)
  | (with_reducible exact spec_DrawProveSubset.mono _ _)
  | (with_reducible exact spec_ProveLeaf.mono _ _ _)
  | (with_reducible exact spec_ProveSubset.mono _ _ _)
  | (with_reducible exact spec_TreeRoot.mono _ _)
  | (with_reducible exact LeO.refl _)
  | (with_reducible exact LeO.none _)
  | (with_reducible refine LeO.ite ?_ ?_)
  | (with_reducible refine LeO.bind ?_ (fun _ => ?_))
  | exact ih0 _ _ _ _ _
  | exact ih1 _
  | exact ih2 _ _ _ _ _ _ _
  | exact ih3 _ _ _ _ _
  | exact impl_ProveLeaf.mono _ _ _
  | exact impl_ProveSubset.mono _ _ _
  | exact impl_TreeRoot.mono _ _
  | exact impl_VerifyLeaf.mono _ _ _ _
  | exact impl_VerifySubset.mono _ _ _ _ _ _
  | exact laws_vInts.mono _ _ _
  | exact spec_DrawProveLeaf.mono _ _
  | exact spec_DrawProveSubset.mono _ _
  | exact spec_ProveLeaf.mono _ _ _
  | exact spec_ProveSubset.mono _ _ _
  | exact spec_TreeRoot.mono _ _
  | exact LeO.none _
  | refine LeO.ite ?_ ?_
  | refine LeO.bind ?_ (fun _ => ?_)
set_option maxHeartbeats 8000000 in
set_option maxRecDepth 100000 in
theorem laws_FnEvidence.calls (k : Nat) (A0 : Option Addr) (c0 : Nat) (l0 : List Int) (r : Bool) (w : World) (hr0 : Kd.C (Kd.int .u8) w A0 l0.length l0) (hc0 : l0.length ≤ c0) (hV : TInv w) (h : laws_FnEvidence.f k l0 = some r) :
 Calls Tryd.prog 13 #[.slice A0 l0.length c0] w fun e w' => e = .returned (.bool r) ∧ Below w.heap.size w w' := by
 have HV := Aside0.mk hV
 clear hV
 have HR0 := Aside0.mk hr0
 have HC0 := Aside0.mk hc0
 clear hr0 hc0
 have HB := Aside0.mk (Below.refl w.heap.size w)
 have H := h
 clear h
 unfold laws_FnEvidence.f at H
 obtain ⟨t430, A2, H⟩ := bdY H
 by_cases c3 : t430 = true
 ·subst c3
  have H1 : (some true) = some r := by rw [if_pos rfl] at H; exact H
  clear H
  have H := H1
  clear H1
  obtain rfl := Option.some.inj H
  go_enter Tryd.func13, Tryd.ntmps13
  go_wp2_with (first | ((with_reducible refine gate_callee (f := 46) rfl ?_); refine goesL_ (some 28) rfl rfl Tryd.func46 (by kernel_rfl) rfl #[.slice A0 l0.length c0] rfl ZZ19826e ?_; (with_reducible refine (laws_vBig.calls _ _ l0 true _ ?side1 ?side2 A2.out).mono ?_); (case side1 => exact ZZ427f3f); (case side2 => exact HC0.out); rintro e w' ⟨rfl, ⟨nd, rfl⟩⟩; refine ⟨_, rfl, ?_⟩))
  go_ret
  exact ⟨ZZab01d2, ZZ605003⟩
 replace c3 := Bool.eq_false_iff.mpr c3
 subst c3
 have H1 : ((spec_DrawProveLeaf.f k l0).bind fun bt431 => ((impl_TreeRoot.f k bt431.1).bind fun bt435 => ((spec_TreeRoot.f k bt431.1).bind fun bt437 => (if bt435.1 = bt437.1 then (laws_FnEvidence.j0 k l0 bt431.1 bt431.2 bt435.1 (bt435.2 != bt437.2)) else (laws_FnEvidence.j0 k l0 bt431.1 bt431.2 bt435.1 true))))) = some r := by rw [if_neg (show ¬ (false = true) by decide)] at H; exact H
 clear H
 have H := H1
 clear H1
 obtain ⟨⟨t431, t432⟩, A4, H⟩ := bdY H
 try dsimp only at H
 obtain ⟨⟨t435, t436⟩, A5, H⟩ := bdY H
 try dsimp only at H
 obtain ⟨⟨t437, t438⟩, A6, H⟩ := bdY H
 try dsimp only at H
 have HC7 := Aside0.mk H
 clear H
 go_enter Tryd.func13, Tryd.ntmps13
 go_upto_region 6 with (first | ((with_reducible refine gate_callee (f := 46) rfl ?_); refine goesL_ (some 28) rfl rfl Tryd.func46 (by kernel_rfl) rfl #[.slice A0 l0.length c0] rfl ZZ19826e ?_; (with_reducible refine (laws_vBig.calls _ _ l0 false _ ?side1 ?side2 A2.out).mono ?_); (case side1 => exact ZZ427f3f); (case side2 => exact HC0.out); rintro e w' ⟨rfl, ⟨nd, rfl⟩⟩; refine ⟨_, rfl, ?_⟩) | ((with_reducible refine gate_callee (f := 49) rfl ?_); refine goesL_ (some 31) rfl rfl Tryd.func49 (by kernel_rfl) rfl #[.slice A0 l0.length c0] rfl ZZ19826e ?_; (with_reducible refine (spec_DrawProveLeaf.calls k _ _ l0 t431 t432 _ ?side1 ?side2 A4.out).mono ?_); (case side1 => exact ZZ427f3f); (case side2 => exact HC0.out); rintro e w8 ⟨v433, rfl, ho0, hb⟩; refine ⟨_, rfl, ?_⟩; have HO434 := Aside0.mk (Kd.R_lower ho0 (below_size ZZ605003)); replace HB := Aside0.mk (below_step ZZ605003 hb); (try clear hb); (try clear hb2); (try clear hk); (try clear hi); (try clear ho0); obtain ⟨Ao9, co9, eo9⟩ := Kd.R_slice HO434.out; subst eo9) | ((with_reducible refine gate_callee (f := 27) rfl ?_); refine goesL_ (some 36) rfl rfl Tryd.func27 (by kernel_rfl) rfl #[.slice Ao9 t431.length co9] rfl ZZ19826e ?_; (with_reducible refine (impl_TreeRoot.calls k _ _ t431 t435 t436 _ ?side1 ?side2 ?side3 A5.out).mono ?_); (case side1 => repeat (first | exact (Kd.R_reads' HO434.out).2.2 | (with_reducible refine Kd.C_alloc ?_ _) | (with_reducible refine Kd.C_drewN ?_ _) | (with_reducible refine Kd.C_drew ?_))); (case side2 => exact (Kd.R_reads' HO434.out).2.1); (case side3 => first | (with_reducible exact HV.out) | exact TInv.below HV.out ZZ605003); rintro e w10 ⟨rfl, hb⟩; refine ⟨_, rfl, ?_⟩; replace HO434 := Aside0.mk (Kd.R_below (zR HO434) hb); replace HB := Aside0.mk (below_step ZZ605003 hb); (try clear hb); (try clear hb2); (try clear hk); (try clear hi)) | ((with_reducible refine gate_callee (f := 25) rfl ?_); refine goesL_ (some 41) rfl rfl Tryd.func25 (by kernel_rfl) rfl #[.slice Ao9 t431.length co9] rfl ZZ19826e ?_; (with_reducible refine (spec_TreeRoot.calls k _ _ t431 t437 t438 _ ?side1 ?side2 A6.out).mono ?_); (case side1 => repeat (first | exact (Kd.R_reads' HO434.out).2.2 | (with_reducible refine Kd.C_alloc ?_ _) | (with_reducible refine Kd.C_drewN ?_ _) | (with_reducible refine Kd.C_drew ?_))); (case side2 => exact (Kd.R_reads' HO434.out).2.1); rintro e w11 ⟨rfl, hb⟩; refine ⟨_, rfl, ?_⟩; replace HO434 := Aside0.mk (Kd.R_below (zR HO434) hb); replace HB := Aside0.mk (below_step ZZ605003 hb); (try clear hb); (try clear hb2); (try clear hk); (try clear hi)))
 (try simp only [Act.put, List.setIfInBounds_toArray, List.set_cons_zero, List.set_cons_succ])
 go_cut [51] (fun v51 wc => ∃ (kq : Nat) (x51_6 : Bool), v51 = .bool x51_6 ∧ Aside0 (laws_FnEvidence.j0 kq l0 t431 t432 t435 x51_6 = some r) ∧ Aside0 (kq ≤ k) ∧ Aside0 (Kd.R (Kd.int .i64) 3 wc w.heap.size (fun _ => True) (.slice Ao9 t431.length co9) t431) ∧ Aside0 (Below w.heap.size w wc))
 case first =>
  have H := HC7.out
  clear HC7
  by_cases c12 : t435 = t437
  ·rw [if_pos c12] at H
   have c12b0 := beq_iff_eq.mpr c12
   have c12b1 := bne_eq_false_iff_eq.mpr c12
   clear c12
   (first | rw [c12b0] | (simp only [i64_w, i32_w]; rw [c12b0]) | skip)
   have H' := Aside0.mk H
   clear H
   go_wp2
   go_meet
   case rel => exact ⟨_, ((t436 != t438)), ZZ0ab324, H', ⟨ZZ81c739⟩, ⟨(zR HO434)⟩, ⟨ZZ605003⟩⟩
  rw [if_neg c12] at H
  have c12b0 := beq_eq_false_iff_ne.mpr c12
  have c12b1 := bne_iff_ne.mpr c12
  (first | rw [c12b0] | (simp only [i64_w, i32_w]; rw [c12b0]) | skip)
  have H' := Aside0.mk H
  clear H
  go_wp2
  go_meet
  case rel => exact ⟨_, (true), ZZ0ab324, H', ⟨ZZ81c739⟩, ⟨(zR HO434)⟩, ⟨ZZ605003⟩⟩
 case rest =>
  clear HC7
  try clear c3
  try clear c12
  try clear c12b0
  try clear c12b1
  obtain ⟨kq, x51_6, rfl, HA, HJ6, HO_3, HB⟩ := hcut
  cases kq with
  | zero => exact absurd HA.out (by simp [laws_FnEvidence.j0])
  | succ kj6 =>
   have H := HA.out
   clear HA
   simp only [laws_FnEvidence.j0] at H
   by_cases c13 : x51_6 = true
   ·subst c13
    have H1 : (some false) = some r := by rw [if_pos rfl] at H; exact H
    clear H
    have H := H1
    clear H1
    obtain rfl := Option.some.inj H
    go_wp2
    go_ret
    exact ⟨ZZab01d2, ZZ605003⟩
   replace c13 := Bool.eq_false_iff.mpr c13
   subst c13
   have H1 : ((impl_ProveLeaf.f kj6 t431 t432).bind fun bt439 => ((spec_ProveLeaf.f kj6 t431 t432).bind fun bt443 => (if (bt439.2 != bt443.2) = true then (some false) else (if bt439.2 = true then (if 0 ≤ t432 then (if t432 < (t431.length : Int) then ((impl_VerifyLeaf.f kj6 t435 (rd t431 t432) bt439.1).bind fun bt448 => (if bt448.1 = true then (if bt448.2 = true then (laws_FnEvidence.j1 kj6 l0) else (some false)) else (some false))) else (none)) else (none)) else (laws_FnEvidence.j1 kj6 l0))))) = some r := by rw [if_neg (show ¬ (false = true) by decide)] at H; exact H
   clear H
   have H := H1
   clear H1
   obtain ⟨⟨t439, t440⟩, A14, H⟩ := bdY H
   try dsimp only at H
   obtain ⟨⟨t443, t444⟩, A15, H⟩ := bdY H
   try dsimp only at H
   by_cases c16 : (t440 != t444) = true
   ·rw [if_pos c16] at H
    have c16b0 : (t440 != t444) = true := c16
    (try (have c16b1 : decide (t440 = t444) = false := by simpa using c16))
    (try (have c16b2 : (t440 == t444) = false := by simpa using c16))
    (try (have c16b3 : ¬ (t440 = t444) := by simpa using c16))
    clear c16
    obtain rfl := Option.some.inj H
    go_wp2_with (first | ((with_reducible refine gate_callee (f := 39) rfl ?_); refine goesL_ (some 55) rfl rfl Tryd.func39 (by kernel_rfl) rfl #[.slice Ao9 t431.length co9, .int .i64 t432] rfl ZZ19826e ?_; (with_reducible refine (impl_ProveLeaf.calls kj6 _ _ t431 t432 t439 t440 _ ?side1 ?side2 ?side3 A14.out).mono ?_); (case side1 => repeat (first | exact (Kd.R_reads' HO_3.out).2.2 | (with_reducible refine Kd.C_alloc ?_ _) | (with_reducible refine Kd.C_drewN ?_ _) | (with_reducible refine Kd.C_drew ?_))); (case side2 => exact (Kd.R_reads' HO_3.out).2.1); (case side3 => first | (with_reducible exact HV.out) | exact TInv.below HV.out ZZ605003); rintro e w17 ⟨v441, rfl, ho0, hb⟩; refine ⟨_, rfl, ?_⟩; replace HO_3 := Aside0.mk (Kd.R_below (zR HO_3) hb); have HO442 := Aside0.mk (Kd.R_lower ho0 (below_size ZZ605003)); replace HB := Aside0.mk (below_step ZZ605003 hb); (try clear hb); (try clear hb2); (try clear hk); (try clear hi); (try clear ho0)) | ((with_reducible refine gate_callee (f := 38) rfl ?_); refine goesL_ (some 61) rfl rfl Tryd.func38 (by kernel_rfl) rfl #[.slice Ao9 t431.length co9, .int .i64 t432] rfl ZZ19826e ?_; (with_reducible refine (spec_ProveLeaf.calls kj6 _ _ t431 t432 t443 t444 _ ?side1 ?side2 A15.out).mono ?_); (case side1 => repeat (first | exact (Kd.R_reads' HO_3.out).2.2 | (with_reducible refine Kd.C_alloc ?_ _) | (with_reducible refine Kd.C_drewN ?_ _) | (with_reducible refine Kd.C_drew ?_))); (case side2 => exact (Kd.R_reads' HO_3.out).2.1); rintro e w18 ⟨v445, rfl, ho0, hb⟩; refine ⟨_, rfl, ?_⟩; replace HO_3 := Aside0.mk (Kd.R_below (zR HO_3) hb); have HO446 := Aside0.mk (Kd.R_lower (Kd.R_new' ho0 (Kd.R_lt (zR HO442))) (below_size ZZ605003)); replace HO442 := Aside0.mk (Kd.R_elder' (zR HO442) (Kd.R_base ho0) hb); replace HB := Aside0.mk (below_step ZZ605003 hb); (try clear hb); (try clear hb2); (try clear hk); (try clear hi); (try clear ho0)))
    go_ret
    exact ⟨ZZab01d2, ZZ605003⟩
   rw [if_neg c16] at H
   have c16b0 : (t440 != t444) = false := by simpa using c16
   (try (have c16b1 : decide (t440 = t444) = true := by simpa using c16))
   (try (have c16b2 : (t440 == t444) = true := by simpa using c16))
   clear c16
   have HC19 := Aside0.mk H
   clear H
   go_upto_if 67 with (first | ((with_reducible refine gate_callee (f := 39) rfl ?_); refine goesL_ (some 55) rfl rfl Tryd.func39 (by kernel_rfl) rfl #[.slice Ao9 t431.length co9, .int .i64 t432] rfl ZZ19826e ?_; (with_reducible refine (impl_ProveLeaf.calls kj6 _ _ t431 t432 t439 t440 _ ?side1 ?side2 ?side3 A14.out).mono ?_); (case side1 => repeat (first | exact (Kd.R_reads' HO_3.out).2.2 | (with_reducible refine Kd.C_alloc ?_ _) | (with_reducible refine Kd.C_drewN ?_ _) | (with_reducible refine Kd.C_drew ?_))); (case side2 => exact (Kd.R_reads' HO_3.out).2.1); (case side3 => first | (with_reducible exact HV.out) | exact TInv.below HV.out ZZ605003); rintro e w20 ⟨v441, rfl, ho0, hb⟩; refine ⟨_, rfl, ?_⟩; replace HO_3 := Aside0.mk (Kd.R_below (zR HO_3) hb); have HO442 := Aside0.mk (Kd.R_lower ho0 (below_size ZZ605003)); replace HB := Aside0.mk (below_step ZZ605003 hb); (try clear hb); (try clear hb2); (try clear hk); (try clear hi); (try clear ho0)) | ((with_reducible refine gate_callee (f := 38) rfl ?_); refine goesL_ (some 61) rfl rfl Tryd.func38 (by kernel_rfl) rfl #[.slice Ao9 t431.length co9, .int .i64 t432] rfl ZZ19826e ?_; (with_reducible refine (spec_ProveLeaf.calls kj6 _ _ t431 t432 t443 t444 _ ?side1 ?side2 A15.out).mono ?_); (case side1 => repeat (first | exact (Kd.R_reads' HO_3.out).2.2 | (with_reducible refine Kd.C_alloc ?_ _) | (with_reducible refine Kd.C_drewN ?_ _) | (with_reducible refine Kd.C_drew ?_))); (case side2 => exact (Kd.R_reads' HO_3.out).2.1); rintro e w21 ⟨v445, rfl, ho0, hb⟩; refine ⟨_, rfl, ?_⟩; replace HO_3 := Aside0.mk (Kd.R_below (zR HO_3) hb); have HO446 := Aside0.mk (Kd.R_lower (Kd.R_new' ho0 (Kd.R_lt (zR HO442))) (below_size ZZ605003)); replace HO442 := Aside0.mk (Kd.R_elder' (zR HO442) (Kd.R_base ho0) hb); replace HB := Aside0.mk (below_step ZZ605003 hb); (try clear hb); (try clear hb2); (try clear hk); (try clear hi); (try clear ho0)))
   (try simp only [Act.put, List.setIfInBounds_toArray, List.set_cons_zero, List.set_cons_succ])
   go_cut [] (fun wc => ∃ (kq : Nat), Aside0 (laws_FnEvidence.j1 kq l0 = some r) ∧ Aside0 (kq ≤ kj6) ∧ Aside0 (Below w.heap.size w wc))
   case first =>
    have H := HC19.out
    clear HC19
    by_cases c22 : t440 = true
    ·subst c22
     have H1 : (if 0 ≤ t432 then (if t432 < (t431.length : Int) then ((impl_VerifyLeaf.f kj6 t435 (rd t431 t432) t439).bind fun bt448 => (if bt448.1 = true then (if bt448.2 = true then (laws_FnEvidence.j1 kj6 l0) else (some false)) else (some false))) else (none)) else (none)) = some r := by rw [if_pos rfl] at H; exact H
     clear H
     have H := H1
     clear H1
     obtain ⟨c23, H⟩ := ifY H
     have c23b0 := decide_eq_true c23
     clear c23
     (first | rw [c23b0] | (simp only [i64_w, i32_w]; rw [c23b0]) | skip)
     obtain ⟨c24, H⟩ := ifY H
     have c24b0 := decide_eq_true c24
     clear c24
     obtain ⟨⟨t448, t449⟩, A25, H⟩ := bdY H
     try dsimp only at H
     by_cases c26 : t448 = true
     ·subst c26
      have H1 : (if t449 = true then (laws_FnEvidence.j1 kj6 l0) else (some false)) = some r := by rw [if_pos rfl] at H; exact H
      clear H
      have H := H1
      clear H1
      by_cases c27 : t449 = true
      ·subst c27
       have H1 : (laws_FnEvidence.j1 kj6 l0) = some r := by rw [if_pos rfl] at H; exact H
       clear H
       have H := H1
       clear H1
       have H' := Aside0.mk H
       clear H
       have p447 : 0 ≤ (t432 : Int) := of_decide_eq_true ZZ853400
       have q447 : t432 < (t431.length : Int) := of_decide_eq_true ZZ853400
       obtain ⟨ad447, e447, hx447_0⟩ := Kd.at_int (Kd.R_reads' HO_3.out).2.2 t432 p447 q447
       cases e447
       replace p447 := eq_true p447
       replace q447 := eq_true q447
       obtain ⟨Ao28, co28, eo28⟩ := Kd.R_slice HO442.out
       subst eo28
       go_wp2_with (first | ((with_reducible refine gate_callee (f := 23) rfl ?_); refine goesL_ (some 75) rfl rfl Tryd.func23 (by kernel_rfl) rfl #[.int .i64 t435, .int .i64 (rd t431 t432), .slice Ao28 t439.length co28] rfl ZZ19826e ?_; (with_reducible refine (impl_VerifyLeaf.calls kj6 t435 (rd t431 t432) _ _ t439 true true _ ?side1 ?side2 ?side3 A25.out).mono ?_); (case side1 => repeat (first | exact (Kd.R_reads' HO442.out).2.2 | (with_reducible refine Kd.C_alloc ?_ _) | (with_reducible refine Kd.C_drewN ?_ _) | (with_reducible refine Kd.C_drew ?_))); (case side2 => exact (Kd.R_reads' HO442.out).2.1); (case side3 => first | (with_reducible exact HV.out) | exact TInv.below HV.out ZZ605003); rintro e w29 ⟨rfl, hb⟩; refine ⟨_, rfl, ?_⟩; replace HO_3 := Aside0.mk (Kd.R_below (zR HO_3) hb); replace HO442 := Aside0.mk (Kd.R_below (zR HO442) hb); replace HO446 := Aside0.mk (Kd.R_below (zR HO446) hb); replace HB := Aside0.mk (below_step ZZ605003 hb); (try clear hb); (try clear hb2); (try clear hk); (try clear hi)))
       go_meet
       case rel => exact ⟨_, H', ⟨(by have := HJ6.out; first | omega | exact Nat.le_refl _)⟩, ⟨ZZ605003⟩⟩
      replace c27 := Bool.eq_false_iff.mpr c27
      subst c27
      have H1 : (some false) = some r := by rw [if_neg (show ¬ (false = true) by decide)] at H; exact H
      clear H
      have H := H1
      clear H1
      obtain rfl := Option.some.inj H
      have p447 : 0 ≤ (t432 : Int) := of_decide_eq_true ZZ853400
      have q447 : t432 < (t431.length : Int) := of_decide_eq_true ZZ853400
      obtain ⟨ad447, e447, hx447_0⟩ := Kd.at_int (Kd.R_reads' HO_3.out).2.2 t432 p447 q447
      cases e447
      replace p447 := eq_true p447
      replace q447 := eq_true q447
      obtain ⟨Ao30, co30, eo30⟩ := Kd.R_slice HO442.out
      subst eo30
      go_wp2_with (first | ((with_reducible refine gate_callee (f := 23) rfl ?_); refine goesL_ (some 75) rfl rfl Tryd.func23 (by kernel_rfl) rfl #[.int .i64 t435, .int .i64 (rd t431 t432), .slice Ao30 t439.length co30] rfl ZZ19826e ?_; (with_reducible refine (impl_VerifyLeaf.calls kj6 t435 (rd t431 t432) _ _ t439 true false _ ?side1 ?side2 ?side3 A25.out).mono ?_); (case side1 => repeat (first | exact (Kd.R_reads' HO442.out).2.2 | (with_reducible refine Kd.C_alloc ?_ _) | (with_reducible refine Kd.C_drewN ?_ _) | (with_reducible refine Kd.C_drew ?_))); (case side2 => exact (Kd.R_reads' HO442.out).2.1); (case side3 => first | (with_reducible exact HV.out) | exact TInv.below HV.out ZZ605003); rintro e w31 ⟨rfl, hb⟩; refine ⟨_, rfl, ?_⟩; replace HO_3 := Aside0.mk (Kd.R_below (zR HO_3) hb); replace HO442 := Aside0.mk (Kd.R_below (zR HO442) hb); replace HO446 := Aside0.mk (Kd.R_below (zR HO446) hb); replace HB := Aside0.mk (below_step ZZ605003 hb); (try clear hb); (try clear hb2); (try clear hk); (try clear hi)))
      go_ret
      exact ⟨ZZab01d2, ZZ605003⟩
     replace c26 := Bool.eq_false_iff.mpr c26
     subst c26
     have H1 : (some false) = some r := by rw [if_neg (show ¬ (false = true) by decide)] at H; exact H
     clear H
     have H := H1
     clear H1
     obtain rfl := Option.some.inj H
     have p447 : 0 ≤ (t432 : Int) := of_decide_eq_true ZZ853400
     have q447 : t432 < (t431.length : Int) := of_decide_eq_true ZZ853400
     obtain ⟨ad447, e447, hx447_0⟩ := Kd.at_int (Kd.R_reads' HO_3.out).2.2 t432 p447 q447
     cases e447
     replace p447 := eq_true p447
     replace q447 := eq_true q447
     obtain ⟨Ao32, co32, eo32⟩ := Kd.R_slice HO442.out
     subst eo32
     go_wp2_with (first | ((with_reducible refine gate_callee (f := 23) rfl ?_); refine goesL_ (some 75) rfl rfl Tryd.func23 (by kernel_rfl) rfl #[.int .i64 t435, .int .i64 (rd t431 t432), .slice Ao32 t439.length co32] rfl ZZ19826e ?_; (with_reducible refine (impl_VerifyLeaf.calls kj6 t435 (rd t431 t432) _ _ t439 false t449 _ ?side1 ?side2 ?side3 A25.out).mono ?_); (case side1 => repeat (first | exact (Kd.R_reads' HO442.out).2.2 | (with_reducible refine Kd.C_alloc ?_ _) | (with_reducible refine Kd.C_drewN ?_ _) | (with_reducible refine Kd.C_drew ?_))); (case side2 => exact (Kd.R_reads' HO442.out).2.1); (case side3 => first | (with_reducible exact HV.out) | exact TInv.below HV.out ZZ605003); rintro e w33 ⟨rfl, hb⟩; refine ⟨_, rfl, ?_⟩; replace HO_3 := Aside0.mk (Kd.R_below (zR HO_3) hb); replace HO442 := Aside0.mk (Kd.R_below (zR HO442) hb); replace HO446 := Aside0.mk (Kd.R_below (zR HO446) hb); replace HB := Aside0.mk (below_step ZZ605003 hb); (try clear hb); (try clear hb2); (try clear hk); (try clear hi)))
     go_ret
     exact ⟨ZZab01d2, ZZ605003⟩
    replace c22 := Bool.eq_false_iff.mpr c22
    subst c22
    have H1 : (laws_FnEvidence.j1 kj6 l0) = some r := by rw [if_neg (show ¬ (false = true) by decide)] at H; exact H
    clear H
    have H := H1
    clear H1
    have H' := Aside0.mk H
    clear H
    go_wp2
    go_meet
    case rel => exact ⟨_, H', ⟨(by have := HJ6.out; first | omega | exact Nat.le_refl _)⟩, ⟨ZZ605003⟩⟩
   case rest =>
    clear HC19
    try clear c13
    try clear c16b0
    try clear c16b1
    try clear c16b2
    try clear c22
    try clear c23
    try clear c23b0
    try clear c24
    try clear c24b0
    try clear c26
    try clear c27
    try clear hx447_0
    try clear p447
    try clear q447
    obtain ⟨kq, HA, HJ18, HB⟩ := hcut
    cases kq with
    | zero => exact absurd HA.out (by simp [laws_FnEvidence.j1])
    | succ kj18 =>
     have H := HA.out
     clear HA
     simp only [laws_FnEvidence.j1] at H
     obtain ⟨⟨t450, t451⟩, A34, H⟩ := bdY H
     try dsimp only at H
     obtain ⟨⟨t456, t457⟩, A35, H⟩ := bdY H
     try dsimp only at H
     obtain ⟨⟨t460, t461⟩, A36, H⟩ := bdY H
     try dsimp only at H
     have HC37 := Aside0.mk H
     clear H
     go_upto_region 19 with (first | ((with_reducible refine gate_callee (f := 50) rfl ?_); refine goesL_ (some 86) rfl rfl Tryd.func50 (by kernel_rfl) rfl #[.slice A0 l0.length c0] rfl ZZ19826e ?_; (with_reducible refine (spec_DrawProveSubset.calls kj18 _ _ l0 t450 t451 _ ?side1 ?side2 A34.out).mono ?_); (case side1 => exact ZZ13f2d6); (case side2 => exact HC0.out); rintro e w38 ⟨v452, v454, rfl, ho0, ho1, hb⟩; refine ⟨_, rfl, ?_⟩; have HO453 := Aside0.mk (Kd.R_lower ho0 (below_size ZZ605003)); have HO455 := Aside0.mk (Kd.R_lower ho1 (below_size ZZ605003)); replace HB := Aside0.mk (below_step ZZ605003 hb); (try clear hb); (try clear hb2); (try clear hk); (try clear hi); (try clear ho0); (try clear ho1); obtain ⟨Ao39, co39, eo39⟩ := Kd.R_slice HO453.out; subst eo39; obtain ⟨Ao40, co40, eo40⟩ := Kd.R_slice HO455.out; subst eo40) | ((with_reducible refine gate_callee (f := 44) rfl ?_); refine goesL_ (some 92) rfl rfl Tryd.func44 (by kernel_rfl) rfl #[.slice Ao39 t450.length co39, .slice Ao40 t451.length co40] rfl ZZ19826e ?_; (with_reducible refine (impl_ProveSubset.calls kj18 _ _ t450 _ _ t451 t456 t457 _ ?side1 ?side2 ?side3 ?side4 ?side5 A35.out).mono ?_); (case side1 => repeat (first | exact (Kd.R_reads' HO453.out).2.2 | (with_reducible refine Kd.C_alloc ?_ _) | (with_reducible refine Kd.C_drewN ?_ _) | (with_reducible refine Kd.C_drew ?_))); (case side2 => exact (Kd.R_reads' HO453.out).2.1); (case side3 => repeat (first | exact (Kd.R_reads' HO455.out).2.2 | (with_reducible refine Kd.C_alloc ?_ _) | (with_reducible refine Kd.C_drewN ?_ _) | (with_reducible refine Kd.C_drew ?_))); (case side4 => exact (Kd.R_reads' HO455.out).2.1); (case side5 => first | (with_reducible exact HV.out) | exact TInv.below HV.out ZZ605003); rintro e w41 ⟨v458, rfl, ho0, hb⟩; refine ⟨_, rfl, ?_⟩; have HO459 := Aside0.mk (Kd.R_lower (Kd.R_new' (Kd.R_new' ho0 (Kd.R_lt (zR HO453))) (Kd.R_lt (zR HO455))) (below_size ZZ605003)); replace HO453 := Aside0.mk (Kd.R_elder' (zR HO453) (Kd.R_base ho0) hb); replace HO455 := Aside0.mk (Kd.R_elder' (zR HO455) (Kd.R_base ho0) hb); replace HB := Aside0.mk (below_step ZZ605003 hb); (try clear hb); (try clear hb2); (try clear hk); (try clear hi); (try clear ho0)) | ((with_reducible refine gate_callee (f := 43) rfl ?_); refine goesL_ (some 98) rfl rfl Tryd.func43 (by kernel_rfl) rfl #[.slice Ao39 t450.length co39, .slice Ao40 t451.length co40] rfl ZZ19826e ?_; (with_reducible refine (spec_ProveSubset.calls kj18 _ _ t450 _ _ t451 t460 t461 _ ?side1 ?side2 ?side3 ?side4 A36.out).mono ?_); (case side1 => repeat (first | exact (Kd.R_reads' HO453.out).2.2 | (with_reducible refine Kd.C_alloc ?_ _) | (with_reducible refine Kd.C_drewN ?_ _) | (with_reducible refine Kd.C_drew ?_))); (case side2 => exact (Kd.R_reads' HO453.out).2.1); (case side3 => repeat (first | exact (Kd.R_reads' HO455.out).2.2 | (with_reducible refine Kd.C_alloc ?_ _) | (with_reducible refine Kd.C_drewN ?_ _) | (with_reducible refine Kd.C_drew ?_))); (case side4 => exact (Kd.R_reads' HO455.out).2.1); rintro e w42 ⟨v462, rfl, ho0, hb⟩; refine ⟨_, rfl, ?_⟩; have HO463 := Aside0.mk (Kd.R_lower (Kd.R_new' (Kd.R_new' (Kd.R_new' ho0 (Kd.R_lt (zR HO453))) (Kd.R_lt (zR HO455))) (Kd.R_lt (zR HO459))) (below_size ZZ605003)); replace HO453 := Aside0.mk (Kd.R_elder' (zR HO453) (Kd.R_base ho0) hb); replace HO455 := Aside0.mk (Kd.R_elder' (zR HO455) (Kd.R_base ho0) hb); replace HO459 := Aside0.mk (Kd.R_elder' (zR HO459) (Kd.R_base ho0) hb); replace HB := Aside0.mk (below_step ZZ605003 hb); (try clear hb); (try clear hb2); (try clear hk); (try clear hi); (try clear ho0)))
     (try simp only [Act.put, List.setIfInBounds_toArray, List.set_cons_zero, List.set_cons_succ])
     go_cut [113] (fun v113 wc => ∃ (kq : Nat) (x113_36 : Bool), v113 = .bool x113_36 ∧ Aside0 (laws_FnEvidence.j2 kq t450 t451 t456 t457 t460 t461 x113_36 = some r) ∧ Aside0 (kq ≤ kj18) ∧ Aside0 (Kd.R (Kd.int .i64) 3 wc w.heap.size (fun k_ => some k_ ≠ ((.slice Ao40 t451.length co40) : Value).ownBlock ∧ some k_ ≠ (v458 : Value).ownBlock ∧ some k_ ≠ (v462 : Value).ownBlock) (.slice Ao39 t450.length co39) t450) ∧ Aside0 (Kd.R (Kd.int .i64) 3 wc w.heap.size (fun k_ => some k_ ≠ ((.slice Ao39 t450.length co39) : Value).ownBlock ∧ some k_ ≠ (v458 : Value).ownBlock ∧ some k_ ≠ (v462 : Value).ownBlock) (.slice Ao40 t451.length co40) t451) ∧ Aside0 (Kd.R (Kd.int .i64) 3 wc w.heap.size (fun k_ => some k_ ≠ ((.slice Ao39 t450.length co39) : Value).ownBlock ∧ some k_ ≠ ((.slice Ao40 t451.length co40) : Value).ownBlock ∧ some k_ ≠ (v462 : Value).ownBlock) v458 t456) ∧ Aside0 (Kd.R (Kd.int .i64) 3 wc w.heap.size (fun k_ => some k_ ≠ ((.slice Ao39 t450.length co39) : Value).ownBlock ∧ some k_ ≠ ((.slice Ao40 t451.length co40) : Value).ownBlock ∧ some k_ ≠ (v458 : Value).ownBlock) v462 t460) ∧ Aside0 (Below w.heap.size w wc))
     case first =>
      have H := HC37.out
      clear HC37
      by_cases c43 : (t457 != t461) = true
      ·rw [if_pos c43] at H
       have c43b0 : (t457 != t461) = true := c43
       (try (have c43b1 : decide (t457 = t461) = false := by simpa using c43))
       (try (have c43b2 : (t457 == t461) = false := by simpa using c43))
       (try (have c43b3 : ¬ (t457 = t461) := by simpa using c43))
       clear c43
       (first | rw [c43b0] | (simp only [i64_w, i32_w]; rw [c43b0]) | skip)
       have H' := Aside0.mk H
       clear H
       go_wp2
       go_meet
       case rel => exact ⟨_, (true), ZZ0ab324, H', ⟨(by have := HJ6.out; have := HJ18.out; first | omega | exact Nat.le_refl _)⟩, ⟨(by (with_reducible repeat (first | apply Kd.R_alloc | apply Kd.R_drewN | apply Kd.R_drew)); exact Kd.R_mono HO453.out (fun _ hk => ⟨hk.1.1, ⟨hk.1.2, hk.2⟩⟩))⟩, ⟨(by (with_reducible repeat (first | apply Kd.R_alloc | apply Kd.R_drewN | apply Kd.R_drew)); exact Kd.R_mono HO455.out (fun _ hk => ⟨hk.1.1, ⟨hk.1.2, hk.2⟩⟩))⟩, ⟨(by (with_reducible repeat (first | apply Kd.R_alloc | apply Kd.R_drewN | apply Kd.R_drew)); exact Kd.R_mono HO459.out (fun _ hk => ⟨hk.1.1.2, ⟨hk.1.2, hk.2⟩⟩))⟩, ⟨(by (with_reducible repeat (first | apply Kd.R_alloc | apply Kd.R_drewN | apply Kd.R_drew)); exact Kd.R_mono HO463.out (fun _ hk => ⟨hk.1.1.2, ⟨hk.1.2, hk.2⟩⟩))⟩, ⟨ZZ605003⟩⟩
      rw [if_neg c43] at H
      have c43b0 : (t457 != t461) = false := by simpa using c43
      (try (have c43b1 : decide (t457 = t461) = true := by simpa using c43))
      (try (have c43b2 : (t457 == t461) = true := by simpa using c43))
      clear c43
      (first | rw [c43b0] | (simp only [i64_w, i32_w]; rw [c43b0]) | skip)
      obtain ⟨t464, A44, H⟩ := bdY H
      by_cases c45 : t464 = true
      ·subst c45
       have H1 : (laws_FnEvidence.j2 kj18 t450 t451 t456 t457 t460 t461 (!t457)) = some r := by rw [if_pos rfl] at H; exact H
       clear H
       have H := H1
       clear H1
       have H' := Aside0.mk H
       clear H
       obtain ⟨Ao46, co46, eo46⟩ := Kd.R_slice HO459.out
       subst eo46
       obtain ⟨Ao47, co47, eo47⟩ := Kd.R_slice HO463.out
       subst eo47
       go_wp2_with (first | (go_at_call 48; (with_reducible refine (laws_vInts.calls kj18 _ _ t456 _ _ t460 true _ ?side1 ?side2 ?side3 ?side4 A44.out).mono ?_); (case side1 => repeat (first | exact (Kd.R_reads' HO459.out).2.2 | (with_reducible refine Kd.C_alloc ?_ _) | (with_reducible refine Kd.C_drewN ?_ _) | (with_reducible refine Kd.C_drew ?_))); (case side2 => exact (Kd.R_reads' HO459.out).2.1); (case side3 => repeat (first | exact (Kd.R_reads' HO463.out).2.2 | (with_reducible refine Kd.C_alloc ?_ _) | (with_reducible refine Kd.C_drewN ?_ _) | (with_reducible refine Kd.C_drew ?_))); (case side4 => exact (Kd.R_reads' HO463.out).2.1); rintro e w' ⟨rfl, ⟨nd, rfl⟩⟩))
       go_meet
       case rel => exact ⟨_, (!t457), ZZ0ab324, H', ⟨(by have := HJ6.out; have := HJ18.out; first | omega | exact Nat.le_refl _)⟩, ⟨(by (with_reducible repeat (first | apply Kd.R_alloc | apply Kd.R_drewN | apply Kd.R_drew)); exact Kd.R_mono HO453.out (fun _ hk => ⟨hk.1.1, ⟨hk.1.2, hk.2⟩⟩))⟩, ⟨(by (with_reducible repeat (first | apply Kd.R_alloc | apply Kd.R_drewN | apply Kd.R_drew)); exact Kd.R_mono HO455.out (fun _ hk => ⟨hk.1.1, ⟨hk.1.2, hk.2⟩⟩))⟩, ⟨(by (with_reducible repeat (first | apply Kd.R_alloc | apply Kd.R_drewN | apply Kd.R_drew)); exact Kd.R_mono HO459.out (fun _ hk => ⟨hk.1.1.2, ⟨hk.1.2, hk.2⟩⟩))⟩, ⟨(by (with_reducible repeat (first | apply Kd.R_alloc | apply Kd.R_drewN | apply Kd.R_drew)); exact Kd.R_mono HO463.out (fun _ hk => ⟨hk.1.1.2, ⟨hk.1.2, hk.2⟩⟩))⟩, ⟨ZZ605003⟩⟩
      replace c45 := Bool.eq_false_iff.mpr c45
      subst c45
      have H1 : (laws_FnEvidence.j2 kj18 t450 t451 t456 t457 t460 t461 true) = some r := by rw [if_neg (show ¬ (false = true) by decide)] at H; exact H
      clear H
      have H := H1
      clear H1
      have H' := Aside0.mk H
      clear H
      obtain ⟨Ao48, co48, eo48⟩ := Kd.R_slice HO459.out
      subst eo48
      obtain ⟨Ao49, co49, eo49⟩ := Kd.R_slice HO463.out
      subst eo49
      go_wp2_with (first | (go_at_call 48; (with_reducible refine (laws_vInts.calls kj18 _ _ t456 _ _ t460 false _ ?side1 ?side2 ?side3 ?side4 A44.out).mono ?_); (case side1 => repeat (first | exact (Kd.R_reads' HO459.out).2.2 | (with_reducible refine Kd.C_alloc ?_ _) | (with_reducible refine Kd.C_drewN ?_ _) | (with_reducible refine Kd.C_drew ?_))); (case side2 => exact (Kd.R_reads' HO459.out).2.1); (case side3 => repeat (first | exact (Kd.R_reads' HO463.out).2.2 | (with_reducible refine Kd.C_alloc ?_ _) | (with_reducible refine Kd.C_drewN ?_ _) | (with_reducible refine Kd.C_drew ?_))); (case side4 => exact (Kd.R_reads' HO463.out).2.1); rintro e w' ⟨rfl, ⟨nd, rfl⟩⟩))
      go_meet
      case rel => exact ⟨_, (true), ZZ0ab324, H', ⟨(by have := HJ6.out; have := HJ18.out; first | omega | exact Nat.le_refl _)⟩, ⟨(by (with_reducible repeat (first | apply Kd.R_alloc | apply Kd.R_drewN | apply Kd.R_drew)); exact Kd.R_mono HO453.out (fun _ hk => ⟨hk.1.1, ⟨hk.1.2, hk.2⟩⟩))⟩, ⟨(by (with_reducible repeat (first | apply Kd.R_alloc | apply Kd.R_drewN | apply Kd.R_drew)); exact Kd.R_mono HO455.out (fun _ hk => ⟨hk.1.1, ⟨hk.1.2, hk.2⟩⟩))⟩, ⟨(by (with_reducible repeat (first | apply Kd.R_alloc | apply Kd.R_drewN | apply Kd.R_drew)); exact Kd.R_mono HO459.out (fun _ hk => ⟨hk.1.1.2, ⟨hk.1.2, hk.2⟩⟩))⟩, ⟨(by (with_reducible repeat (first | apply Kd.R_alloc | apply Kd.R_drewN | apply Kd.R_drew)); exact Kd.R_mono HO463.out (fun _ hk => ⟨hk.1.1.2, ⟨hk.1.2, hk.2⟩⟩))⟩, ⟨ZZ605003⟩⟩
     case rest =>
      clear HC37
      try clear c43
      try clear c43b0
      try clear c43b1
      try clear c43b2
      try clear c45
      obtain ⟨kq, x113_36, rfl, HA, HJ36, HO_15, HO_16, HO_17, HO_19, HB⟩ := hcut
      cases kq with
      | zero => exact absurd HA.out (by simp [laws_FnEvidence.j2])
      | succ kj36 =>
       have H := HA.out
       clear HA
       simp only [laws_FnEvidence.j2] at H
       by_cases c50 : x113_36 = true
       ·subst c50
        have H1 : (if (t457 == t461) = true then ((laws_vInts.f kj36 t456 t460).bind fun t465 => (some t465)) else (some false)) = some r := by rw [if_pos rfl] at H; exact H
        clear H
        have H := H1
        clear H1
        by_cases c51 : (t457 == t461) = true
        ·rw [if_pos c51] at H
         have c51b0 : (t457 == t461) = true := c51
         (try (have c51b1 : decide (t457 = t461) = true := by simpa using c51))
         (try (have c51b2 : (t457 == t461) = true := by simpa using c51))
         clear c51
         obtain ⟨t465, A52, H⟩ := bdY H
         obtain rfl := Option.some.inj H
         obtain ⟨Ao53, co53, eo53⟩ := Kd.R_slice HO_17.out
         subst eo53
         obtain ⟨Ao54, co54, eo54⟩ := Kd.R_slice HO_19.out
         subst eo54
         go_wp2_with (first | (go_at_call 48; (with_reducible refine (laws_vInts.calls kj36 _ _ t456 _ _ t460 t465 _ ?side1 ?side2 ?side3 ?side4 A52.out).mono ?_); (case side1 => repeat (first | exact (Kd.R_reads' HO_17.out).2.2 | (with_reducible refine Kd.C_alloc ?_ _) | (with_reducible refine Kd.C_drewN ?_ _) | (with_reducible refine Kd.C_drew ?_))); (case side2 => exact (Kd.R_reads' HO_17.out).2.1); (case side3 => repeat (first | exact (Kd.R_reads' HO_19.out).2.2 | (with_reducible refine Kd.C_alloc ?_ _) | (with_reducible refine Kd.C_drewN ?_ _) | (with_reducible refine Kd.C_drew ?_))); (case side4 => exact (Kd.R_reads' HO_19.out).2.1); rintro e w' ⟨rfl, ⟨nd, rfl⟩⟩))
         go_ret
         exact ⟨ZZab01d2, ZZ605003⟩
        rw [if_neg c51] at H
        have c51b0 : (t457 == t461) = false := by simpa using c51
        (try (have c51b1 : decide (t457 = t461) = false := by simpa using c51))
        (try (have c51b2 : (t457 == t461) = false := by simpa using c51))
        (try (have c51b3 : ¬ (t457 = t461) := by simpa using c51))
        clear c51
        obtain rfl := Option.some.inj H
        go_wp2
        go_ret
        exact ⟨ZZab01d2, ZZ605003⟩
       replace c50 := Bool.eq_false_iff.mpr c50
       subst c50
       have H1 : (laws_FnEvidence.l0 kj36 t450 t451 t456 (([] : List Int)) 0) = some r := by rw [if_neg (show ¬ (false = true) by decide)] at H; exact H
       clear H
       have H := H1
       clear H1
       obtain ⟨y466, hy466⟩ : ∃ y_ : List Int, y_ = (([] : List Int)) := ⟨_, rfl⟩
       replace H : (laws_FnEvidence.l0 kj36 t450 t451 t456 y466 0) = some r := by first | (rw [hy466]; with_reducible exact H) | (have H2_ := (Option.bind_some _ _).symm.trans H; rw [hy466]; with_reducible exact H2_) | (have H2_ := (Option.bind_some _ _).symm.trans H; with_reducible exact H2_) | with_reducible exact H | (rw [hy466]; exact H) | exact H
       have Ny466 := Aside0.mk hy466
       clear hy466
       have H' := Aside0.mk H
       clear H
       go_wp2_with (first | ((with_reducible refine gate_dst (N := 122) rfl ?_); (try (refine gate_guard (by rfl) ?_; dsimp only)); refine Kd.R_lit (Kd.int .i64) _ 3 ?hg (N := 122) ?hd (xs := ([] : List Int)) (inner := []) (ok := fun _ => True) (okp := fun _ => True) ?hr ?hp (fun _ hk => hk) trivial (Below.refl _ _) (Nat.le_refl _) (by simp) ?_; (case hd => rfl); (case hg => rfl); (case hr => first | (go_simp; done) | (go_simp; rfl)); (case hp => exact (Reps.none _ _)); intro v467 w55 ho56 hb hg_ hnew_; clear hg_ hnew_; (first | rw [← Ny466.out] at ho56 | (simp only [Int.reduceToNat] at ho56; rw [← Ny466.out] at ho56)); have HO468 := Aside0.mk (Kd.R_lower (Kd.R_new' (Kd.R_new' (Kd.R_new' (Kd.R_new' ho56 (Kd.R_lt (zR HO_15))) (Kd.R_lt (zR HO_16))) (Kd.R_lt (zR HO_17))) (Kd.R_lt (zR HO_19))) (below_size ZZ605003)); replace HO_15 := Aside0.mk (Kd.R_elder' (zR HO_15) (Kd.R_base ho56) hb); replace HO_16 := Aside0.mk (Kd.R_elder' (zR HO_16) (Kd.R_base ho56) hb); replace HO_17 := Aside0.mk (Kd.R_elder' (zR HO_17) (Kd.R_base ho56) hb); replace HO_19 := Aside0.mk (Kd.R_elder' (zR HO_19) (Kd.R_base ho56) hb); replace HB := Aside0.mk (below_step ZZ605003 hb); clear hb ho56))
       go_loopg [21, 22] kj36 (fun kq v21 v22 w' => ∃ (x21_4 : List Int) (x22_4 : Int), v22 = .int .i64 x22_4 ∧ Aside0 (laws_FnEvidence.l0 kq t450 t451 t456 x21_4 x22_4 = some r) ∧ Aside0 (kq ≤ kj36) ∧ Aside0 (Kd.R (Kd.int .i64) 3 w' w.heap.size (fun k_ => some k_ ≠ ((.slice Ao40 t451.length co40) : Value).ownBlock ∧ some k_ ≠ (v458 : Value).ownBlock ∧ some k_ ≠ (v21 : Value).ownBlock) (.slice Ao39 t450.length co39) t450) ∧ Aside0 (Kd.R (Kd.int .i64) 3 w' w.heap.size (fun k_ => some k_ ≠ ((.slice Ao39 t450.length co39) : Value).ownBlock ∧ some k_ ≠ (v458 : Value).ownBlock ∧ some k_ ≠ (v21 : Value).ownBlock) (.slice Ao40 t451.length co40) t451) ∧ Aside0 (Kd.R (Kd.int .i64) 3 w' w.heap.size (fun k_ => some k_ ≠ ((.slice Ao39 t450.length co39) : Value).ownBlock ∧ some k_ ≠ ((.slice Ao40 t451.length co40) : Value).ownBlock ∧ some k_ ≠ (v21 : Value).ownBlock) v458 t456) ∧ Aside0 (Kd.R (Kd.int .i64) 3 w' w.heap.size (fun k_ => some k_ ≠ ((.slice Ao39 t450.length co39) : Value).ownBlock ∧ some k_ ≠ ((.slice Ao40 t451.length co40) : Value).ownBlock ∧ some k_ ≠ (v458 : Value).ownBlock) v21 x21_4) ∧ Aside0 (Below w.heap.size w w'))
       case atStart => exact ⟨(y466), (0), ZZ0ab324, H', ⟨Nat.le_refl _⟩, ⟨(by (with_reducible repeat (first | apply Kd.R_alloc | apply Kd.R_drewN | apply Kd.R_drew)); exact Kd.R_mono HO_15.out (fun _ hk => ⟨hk.1.1, ⟨hk.1.2.1, hk.2⟩⟩))⟩, ⟨(by (with_reducible repeat (first | apply Kd.R_alloc | apply Kd.R_drewN | apply Kd.R_drew)); exact Kd.R_mono HO_16.out (fun _ hk => ⟨hk.1.1, ⟨hk.1.2.1, hk.2⟩⟩))⟩, ⟨(by (with_reducible repeat (first | apply Kd.R_alloc | apply Kd.R_drewN | apply Kd.R_drew)); exact Kd.R_mono HO_17.out (fun _ hk => ⟨hk.1.1, ⟨hk.1.2.1, hk.2⟩⟩))⟩, ⟨(by (with_reducible repeat (first | apply Kd.R_alloc | apply Kd.R_drewN | apply Kd.R_drew)); exact Kd.R_mono HO468.out (fun _ hk => ⟨hk.1.1.1.2, ⟨hk.1.1.2, hk.1.2⟩⟩))⟩, ⟨ZZ605003⟩⟩
       case round =>
        clear H'
        try clear c50
        try clear c51b0
        try clear c51b1
        try clear c51b2
        obtain ⟨x21_4, x22_4, rfl, HA, HK4, HO_15, HO_16, HO_17, HO_21, HB⟩ := hrel
        cases gk with
        | zero => exact absurd HA.out (by simp [laws_FnEvidence.l0])
        | succ k4 =>
         have H := HA.out
         clear HA
         simp only [laws_FnEvidence.l0] at H
         by_cases c57 : x22_4 < (t451.length : Int)
         ·rw [if_pos c57] at H
          have c57b0 := decide_eq_true c57
          clear c57
          obtain ⟨c58, H⟩ := ifY H
          have c58b0 := decide_eq_true c58
          clear c58
          obtain ⟨c59, H⟩ := ifY H
          have c59b0 := decide_eq_true c59
          clear c59
          obtain ⟨c60, H⟩ := ifY H
          have c60b0 := decide_eq_true c60
          clear c60
          obtain ⟨c61, H⟩ := ifY H
          have LMc61 := Aside0.mk c61
          clear c61
          obtain ⟨y471, hy471⟩ : ∃ y_ : List Int, y_ = (x21_4 ++ [rd t450 (rd t451 x22_4)]) := ⟨_, rfl⟩
          replace H : (laws_FnEvidence.l0 k4 t450 t451 t456 y471 (wrap64 (x22_4 + 1))) = some r := by first | (rw [hy471]; with_reducible exact H) | (have H2_ := (Option.bind_some _ _).symm.trans H; rw [hy471]; with_reducible exact H2_) | (have H2_ := (Option.bind_some _ _).symm.trans H; with_reducible exact H2_) | with_reducible exact H | (rw [hy471]; exact H) | exact H
          have Ny471 := Aside0.mk hy471
          clear hy471
          have H' := Aside0.mk H
          clear H
          have p469 : 0 ≤ (x22_4 : Int) := of_decide_eq_true ZZ853400
          have q469 : x22_4 < (t451.length : Int) := of_decide_eq_true ZZ853400
          obtain ⟨ad469, e469, hx469_0⟩ := Kd.at_int (Kd.R_reads' HO_16.out).2.2 x22_4 p469 q469
          cases e469
          replace p469 := eq_true p469
          replace q469 := eq_true q469
          have p470 : 0 ≤ ((rd t451 x22_4) : Int) := of_decide_eq_true ZZ853400
          have q470 : (rd t451 x22_4) < (t450.length : Int) := of_decide_eq_true ZZ853400
          obtain ⟨ad470, e470, hx470_0⟩ := Kd.at_int (Kd.R_reads' HO_15.out).2.2 (rd t451 x22_4) p470 q470
          cases e470
          replace p470 := eq_true p470
          replace q470 := eq_true q470
          go_wp2_with (first | ((with_reducible refine gate_builtin (b := .append) (xs := #[.tmp 129, .tmp 137]) rfl ?_); (try (refine gate_guard (by rfl) ?_; dsimp only)); at_builtin; refine Kd.R_append (Kd.int .i64) (w0 := w) w.heap.size rfl (.tmp 129) (.tmp 137) 40 3 (.int .i64 0) 8 rfl Tryd.underlying40 info3 rfl (by decide) (by omega) u21 x21_4 (rd t450 (rd t451 x22_4)) [.int .i64 (rd t450 (rd t451 x22_4))] (fun k_ => some k_ ≠ (.slice (some ad470) t450.length co39 : Value).ownBlock ∧ some k_ ≠ (.slice (some ad469) t451.length co40 : Value).ownBlock ∧ some k_ ≠ (v458 : Value).ownBlock) (fun _ => False) rfl rfl ?aP (fun _ hk => hk.elim) ?aF ?aO ?aB ?aS ?aL ?_; (case aP => exact rfl); (case aB => exact ZZ605003); (case aF => exact (fun k_ hk => ⟨Kd.fresh' (Kd.R_lt (zR HO_15)) k_ hk, Kd.fresh' (Kd.R_lt (zR HO_16)) k_ hk, Kd.fresh' (Kd.R_lt (zR HO_17)) k_ hk⟩)); (case aO => exact (zR HO_21)); (case aS => exact (below_size ZZ605003)); (case aL => have := LMc61.out; omega); intro v472 w62 ho hb hg hat; rw [← Ny471.out] at ho; replace HO_15 := Aside0.mk (Kd.R_after (ok := (fun k_ => some k_ ≠ (.slice (some ad469) t451.length co40 : Value).ownBlock ∧ some k_ ≠ (v458 : Value).ownBlock)) (by (with_reducible repeat (first | apply Kd.R_alloc | apply Kd.R_drewN | apply Kd.R_drew)); exact Kd.R_mono HO_15.out (fun _ hk => ⟨⟨hk.1, hk.2.1⟩, hk.2.2⟩)) hg hat); replace HO_16 := Aside0.mk (Kd.R_after (ok := (fun k_ => some k_ ≠ (.slice (some ad470) t450.length co39 : Value).ownBlock ∧ some k_ ≠ (v458 : Value).ownBlock)) (by (with_reducible repeat (first | apply Kd.R_alloc | apply Kd.R_drewN | apply Kd.R_drew)); exact Kd.R_mono HO_16.out (fun _ hk => ⟨⟨hk.1, hk.2.1⟩, hk.2.2⟩)) hg hat); replace HO_17 := Aside0.mk (Kd.R_after (ok := (fun k_ => some k_ ≠ (.slice (some ad470) t450.length co39 : Value).ownBlock ∧ some k_ ≠ (.slice (some ad469) t451.length co40 : Value).ownBlock)) (by (with_reducible repeat (first | apply Kd.R_alloc | apply Kd.R_drewN | apply Kd.R_drew)); exact Kd.R_mono HO_17.out (fun _ hk => ⟨⟨hk.1, hk.2.1⟩, hk.2.2⟩)) hg hat); replace HB := Aside0.mk (hb); have HO473 := Aside0.mk (ho); clear HO_21; clear ho hb hg hat))
          go_roundg k4
          case measure => have := HJ6.out; have := HJ18.out; have := HJ36.out; have := HK4.out; omega
          case rel => exact ⟨(y471), (wrap64 (x22_4 + 1)), ZZ0ab324, H', ⟨(by have := HJ6.out; have := HJ18.out; have := HJ36.out; have := HK4.out; omega)⟩, ⟨(by (with_reducible repeat (first | apply Kd.R_alloc | apply Kd.R_drewN | apply Kd.R_drew)); exact Kd.R_mono HO_15.out (fun _ hk => ⟨hk.1.1, ⟨hk.1.2, hk.2⟩⟩))⟩, ⟨(by (with_reducible repeat (first | apply Kd.R_alloc | apply Kd.R_drewN | apply Kd.R_drew)); exact Kd.R_mono HO_16.out (fun _ hk => ⟨hk.1.1, ⟨hk.1.2, hk.2⟩⟩))⟩, ⟨(by (with_reducible repeat (first | apply Kd.R_alloc | apply Kd.R_drewN | apply Kd.R_drew)); exact Kd.R_mono HO_17.out (fun _ hk => ⟨hk.1.1, ⟨hk.1.2, hk.2⟩⟩))⟩, ⟨(zR HO473)⟩, ⟨ZZ605003⟩⟩
         rw [if_neg c57] at H
         have c57b0 := decide_eq_false c57
         clear c57
         obtain ⟨⟨t474, t475⟩, A63, H⟩ := bdY H
         try dsimp only at H
         obtain ⟨⟨t476, t477⟩, A64, H⟩ := bdY H
         try dsimp only at H
         by_cases c65 : t475 = true
         ·subst c65
          have H1 : (if t476 = true then (if t477 = true then (some (decide ((t456.length : Int) ≤ (wrap64 ((wrap64 ((t450.length : Int) - (t451.length : Int))) + (wrap64 ((t451.length : Int) * 5))))))) else (some false)) else (some false)) = some r := by rw [if_pos rfl] at H; exact H
          clear H
          have H := H1
          clear H1
          by_cases c66 : t476 = true
          ·subst c66
           have H1 : (if t477 = true then (some (decide ((t456.length : Int) ≤ (wrap64 ((wrap64 ((t450.length : Int) - (t451.length : Int))) + (wrap64 ((t451.length : Int) * 5))))))) else (some false)) = some r := by rw [if_pos rfl] at H; exact H
           clear H
           have H := H1
           clear H1
           by_cases c67 : t477 = true
           ·subst c67
            have H1 : (some (decide ((t456.length : Int) ≤ (wrap64 ((wrap64 ((t450.length : Int) - (t451.length : Int))) + (wrap64 ((t451.length : Int) * 5))))))) = some r := by rw [if_pos rfl] at H; exact H
            clear H
            have H := H1
            clear H1
            obtain rfl := Option.some.inj H
            go_wp2_with (first | ((with_reducible refine gate_callee (f := 27) rfl ?_); refine goesL_ (some 141) rfl rfl Tryd.func27 (by kernel_rfl) rfl #[.slice Ao39 t450.length co39] rfl ZZ19826e ?_; (with_reducible refine (impl_TreeRoot.calls k4 _ _ t450 t474 true _ ?side1 ?side2 ?side3 A63.out).mono ?_); (case side1 => repeat (first | exact (Kd.R_reads' HO_15.out).2.2 | (with_reducible refine Kd.C_alloc ?_ _) | (with_reducible refine Kd.C_drewN ?_ _) | (with_reducible refine Kd.C_drew ?_))); (case side2 => exact (Kd.R_reads' HO_15.out).2.1); (case side3 => first | (with_reducible exact HV.out) | exact TInv.below HV.out ZZ605003); rintro e w68 ⟨rfl, hb⟩; refine ⟨_, rfl, ?_⟩; replace HO_15 := Aside0.mk (Kd.R_below (zR HO_15) hb); replace HO_16 := Aside0.mk (Kd.R_below (zR HO_16) hb); replace HO_17 := Aside0.mk (Kd.R_below (zR HO_17) hb); replace HO_21 := Aside0.mk (Kd.R_below (zR HO_21) hb); replace HB := Aside0.mk (below_step ZZ605003 hb); (try clear hb); (try clear hb2); (try clear hk); (try clear hi); obtain ⟨Ao69, co69, eo69⟩ := Kd.R_slice HO_21.out; subst eo69; obtain ⟨Ao70, co70, eo70⟩ := Kd.R_slice HO_17.out; subst eo70) | ((with_reducible refine gate_callee (f := 32) rfl ?_); refine goesL_ (some 151) rfl rfl Tryd.func32 (by kernel_rfl) rfl #[.int .i64 t474, .int .i64 (t450.length : Int), .slice Ao40 t451.length co40, .slice Ao69 x21_4.length co69, .slice Ao70 t456.length co70] rfl ZZ19826e ?_; (with_reducible refine (impl_VerifySubset.calls k4 t474 (t450.length : Int) _ _ t451 _ _ x21_4 (fun k_ => some k_ = (.slice Ao70 t456.length co70 : Value).ownBlock) _ _ t456 true true _ ?side1 ?side2 ?side3 ?side4 ?side5 ?side6 A64.out).mono ?_); (case side1 => repeat (first | exact (Kd.R_reads' HO_16.out).2.2 | (with_reducible refine Kd.C_alloc ?_ _) | (with_reducible refine Kd.C_drewN ?_ _) | (with_reducible refine Kd.C_drew ?_))); (case side2 => exact (Kd.R_reads' HO_16.out).2.1); (case side3 => repeat (first | exact (Kd.R_reads' HO_21.out).2.2 | (with_reducible refine Kd.C_alloc ?_ _) | (with_reducible refine Kd.C_drewN ?_ _) | (with_reducible refine Kd.C_drew ?_))); (case side4 => exact (Kd.R_reads' HO_21.out).2.1); (case side5 => exact Kd.R_V (Kd.R_tight rfl (HO_17.out))); (case side6 => first | (with_reducible exact HV.out) | exact TInv.below HV.out ZZ605003); rintro e w71 ⟨rfl, hb⟩; refine ⟨_, rfl, ?_⟩; replace HO_15 := Aside0.mk (Kd.R_below (zR HO_15) hb); replace HO_16 := Aside0.mk (Kd.R_below (zR HO_16) hb); replace HO_17 := Aside0.mk (Kd.R_below (zR HO_17) hb); replace HO_21 := Aside0.mk (Kd.R_below (zR HO_21) hb); replace HB := Aside0.mk (below_step ZZ605003 hb); (try clear hb); (try clear hb2); (try clear hk); (try clear hi)))
            go_ret
            exact ⟨ZZab01d2, ZZ605003⟩
           replace c67 := Bool.eq_false_iff.mpr c67
           subst c67
           have H1 : (some false) = some r := by rw [if_neg (show ¬ (false = true) by decide)] at H; exact H
           clear H
           have H := H1
           clear H1
           obtain rfl := Option.some.inj H
           go_wp2_with (first | ((with_reducible refine gate_callee (f := 27) rfl ?_); refine goesL_ (some 141) rfl rfl Tryd.func27 (by kernel_rfl) rfl #[.slice Ao39 t450.length co39] rfl ZZ19826e ?_; (with_reducible refine (impl_TreeRoot.calls k4 _ _ t450 t474 true _ ?side1 ?side2 ?side3 A63.out).mono ?_); (case side1 => repeat (first | exact (Kd.R_reads' HO_15.out).2.2 | (with_reducible refine Kd.C_alloc ?_ _) | (with_reducible refine Kd.C_drewN ?_ _) | (with_reducible refine Kd.C_drew ?_))); (case side2 => exact (Kd.R_reads' HO_15.out).2.1); (case side3 => first | (with_reducible exact HV.out) | exact TInv.below HV.out ZZ605003); rintro e w72 ⟨rfl, hb⟩; refine ⟨_, rfl, ?_⟩; replace HO_15 := Aside0.mk (Kd.R_below (zR HO_15) hb); replace HO_16 := Aside0.mk (Kd.R_below (zR HO_16) hb); replace HO_17 := Aside0.mk (Kd.R_below (zR HO_17) hb); replace HO_21 := Aside0.mk (Kd.R_below (zR HO_21) hb); replace HB := Aside0.mk (below_step ZZ605003 hb); (try clear hb); (try clear hb2); (try clear hk); (try clear hi); obtain ⟨Ao73, co73, eo73⟩ := Kd.R_slice HO_21.out; subst eo73; obtain ⟨Ao74, co74, eo74⟩ := Kd.R_slice HO_17.out; subst eo74) | ((with_reducible refine gate_callee (f := 32) rfl ?_); refine goesL_ (some 151) rfl rfl Tryd.func32 (by kernel_rfl) rfl #[.int .i64 t474, .int .i64 (t450.length : Int), .slice Ao40 t451.length co40, .slice Ao73 x21_4.length co73, .slice Ao74 t456.length co74] rfl ZZ19826e ?_; (with_reducible refine (impl_VerifySubset.calls k4 t474 (t450.length : Int) _ _ t451 _ _ x21_4 (fun k_ => some k_ = (.slice Ao74 t456.length co74 : Value).ownBlock) _ _ t456 true false _ ?side1 ?side2 ?side3 ?side4 ?side5 ?side6 A64.out).mono ?_); (case side1 => repeat (first | exact (Kd.R_reads' HO_16.out).2.2 | (with_reducible refine Kd.C_alloc ?_ _) | (with_reducible refine Kd.C_drewN ?_ _) | (with_reducible refine Kd.C_drew ?_))); (case side2 => exact (Kd.R_reads' HO_16.out).2.1); (case side3 => repeat (first | exact (Kd.R_reads' HO_21.out).2.2 | (with_reducible refine Kd.C_alloc ?_ _) | (with_reducible refine Kd.C_drewN ?_ _) | (with_reducible refine Kd.C_drew ?_))); (case side4 => exact (Kd.R_reads' HO_21.out).2.1); (case side5 => exact Kd.R_V (Kd.R_tight rfl (HO_17.out))); (case side6 => first | (with_reducible exact HV.out) | exact TInv.below HV.out ZZ605003); rintro e w75 ⟨rfl, hb⟩; refine ⟨_, rfl, ?_⟩; replace HO_15 := Aside0.mk (Kd.R_below (zR HO_15) hb); replace HO_16 := Aside0.mk (Kd.R_below (zR HO_16) hb); replace HO_17 := Aside0.mk (Kd.R_below (zR HO_17) hb); replace HO_21 := Aside0.mk (Kd.R_below (zR HO_21) hb); replace HB := Aside0.mk (below_step ZZ605003 hb); (try clear hb); (try clear hb2); (try clear hk); (try clear hi)))
           go_ret
           exact ⟨ZZab01d2, ZZ605003⟩
          replace c66 := Bool.eq_false_iff.mpr c66
          subst c66
          have H1 : (some false) = some r := by rw [if_neg (show ¬ (false = true) by decide)] at H; exact H
          clear H
          have H := H1
          clear H1
          obtain rfl := Option.some.inj H
          go_wp2_with (first | ((with_reducible refine gate_callee (f := 27) rfl ?_); refine goesL_ (some 141) rfl rfl Tryd.func27 (by kernel_rfl) rfl #[.slice Ao39 t450.length co39] rfl ZZ19826e ?_; (with_reducible refine (impl_TreeRoot.calls k4 _ _ t450 t474 true _ ?side1 ?side2 ?side3 A63.out).mono ?_); (case side1 => repeat (first | exact (Kd.R_reads' HO_15.out).2.2 | (with_reducible refine Kd.C_alloc ?_ _) | (with_reducible refine Kd.C_drewN ?_ _) | (with_reducible refine Kd.C_drew ?_))); (case side2 => exact (Kd.R_reads' HO_15.out).2.1); (case side3 => first | (with_reducible exact HV.out) | exact TInv.below HV.out ZZ605003); rintro e w76 ⟨rfl, hb⟩; refine ⟨_, rfl, ?_⟩; replace HO_15 := Aside0.mk (Kd.R_below (zR HO_15) hb); replace HO_16 := Aside0.mk (Kd.R_below (zR HO_16) hb); replace HO_17 := Aside0.mk (Kd.R_below (zR HO_17) hb); replace HO_21 := Aside0.mk (Kd.R_below (zR HO_21) hb); replace HB := Aside0.mk (below_step ZZ605003 hb); (try clear hb); (try clear hb2); (try clear hk); (try clear hi); obtain ⟨Ao77, co77, eo77⟩ := Kd.R_slice HO_21.out; subst eo77; obtain ⟨Ao78, co78, eo78⟩ := Kd.R_slice HO_17.out; subst eo78) | ((with_reducible refine gate_callee (f := 32) rfl ?_); refine goesL_ (some 151) rfl rfl Tryd.func32 (by kernel_rfl) rfl #[.int .i64 t474, .int .i64 (t450.length : Int), .slice Ao40 t451.length co40, .slice Ao77 x21_4.length co77, .slice Ao78 t456.length co78] rfl ZZ19826e ?_; (with_reducible refine (impl_VerifySubset.calls k4 t474 (t450.length : Int) _ _ t451 _ _ x21_4 (fun k_ => some k_ = (.slice Ao78 t456.length co78 : Value).ownBlock) _ _ t456 false t477 _ ?side1 ?side2 ?side3 ?side4 ?side5 ?side6 A64.out).mono ?_); (case side1 => repeat (first | exact (Kd.R_reads' HO_16.out).2.2 | (with_reducible refine Kd.C_alloc ?_ _) | (with_reducible refine Kd.C_drewN ?_ _) | (with_reducible refine Kd.C_drew ?_))); (case side2 => exact (Kd.R_reads' HO_16.out).2.1); (case side3 => repeat (first | exact (Kd.R_reads' HO_21.out).2.2 | (with_reducible refine Kd.C_alloc ?_ _) | (with_reducible refine Kd.C_drewN ?_ _) | (with_reducible refine Kd.C_drew ?_))); (case side4 => exact (Kd.R_reads' HO_21.out).2.1); (case side5 => exact Kd.R_V (Kd.R_tight rfl (HO_17.out))); (case side6 => first | (with_reducible exact HV.out) | exact TInv.below HV.out ZZ605003); rintro e w79 ⟨rfl, hb⟩; refine ⟨_, rfl, ?_⟩; replace HO_15 := Aside0.mk (Kd.R_below (zR HO_15) hb); replace HO_16 := Aside0.mk (Kd.R_below (zR HO_16) hb); replace HO_17 := Aside0.mk (Kd.R_below (zR HO_17) hb); replace HO_21 := Aside0.mk (Kd.R_below (zR HO_21) hb); replace HB := Aside0.mk (below_step ZZ605003 hb); (try clear hb); (try clear hb2); (try clear hk); (try clear hi)))
          go_ret
          exact ⟨ZZab01d2, ZZ605003⟩
         replace c65 := Bool.eq_false_iff.mpr c65
         subst c65
         have H1 : (some false) = some r := by rw [if_neg (show ¬ (false = true) by decide)] at H; exact H
         clear H
         have H := H1
         clear H1
         obtain rfl := Option.some.inj H
         go_wp2_with (first | ((with_reducible refine gate_callee (f := 27) rfl ?_); refine goesL_ (some 141) rfl rfl Tryd.func27 (by kernel_rfl) rfl #[.slice Ao39 t450.length co39] rfl ZZ19826e ?_; (with_reducible refine (impl_TreeRoot.calls k4 _ _ t450 t474 false _ ?side1 ?side2 ?side3 A63.out).mono ?_); (case side1 => repeat (first | exact (Kd.R_reads' HO_15.out).2.2 | (with_reducible refine Kd.C_alloc ?_ _) | (with_reducible refine Kd.C_drewN ?_ _) | (with_reducible refine Kd.C_drew ?_))); (case side2 => exact (Kd.R_reads' HO_15.out).2.1); (case side3 => first | (with_reducible exact HV.out) | exact TInv.below HV.out ZZ605003); rintro e w80 ⟨rfl, hb⟩; refine ⟨_, rfl, ?_⟩; replace HO_15 := Aside0.mk (Kd.R_below (zR HO_15) hb); replace HO_16 := Aside0.mk (Kd.R_below (zR HO_16) hb); replace HO_17 := Aside0.mk (Kd.R_below (zR HO_17) hb); replace HO_21 := Aside0.mk (Kd.R_below (zR HO_21) hb); replace HB := Aside0.mk (below_step ZZ605003 hb); (try clear hb); (try clear hb2); (try clear hk); (try clear hi); obtain ⟨Ao81, co81, eo81⟩ := Kd.R_slice HO_21.out; subst eo81; obtain ⟨Ao82, co82, eo82⟩ := Kd.R_slice HO_17.out; subst eo82) | ((with_reducible refine gate_callee (f := 32) rfl ?_); refine goesL_ (some 151) rfl rfl Tryd.func32 (by kernel_rfl) rfl #[.int .i64 t474, .int .i64 (t450.length : Int), .slice Ao40 t451.length co40, .slice Ao81 x21_4.length co81, .slice Ao82 t456.length co82] rfl ZZ19826e ?_; (with_reducible refine (impl_VerifySubset.calls k4 t474 (t450.length : Int) _ _ t451 _ _ x21_4 (fun k_ => some k_ = (.slice Ao82 t456.length co82 : Value).ownBlock) _ _ t456 t476 t477 _ ?side1 ?side2 ?side3 ?side4 ?side5 ?side6 A64.out).mono ?_); (case side1 => repeat (first | exact (Kd.R_reads' HO_16.out).2.2 | (with_reducible refine Kd.C_alloc ?_ _) | (with_reducible refine Kd.C_drewN ?_ _) | (with_reducible refine Kd.C_drew ?_))); (case side2 => exact (Kd.R_reads' HO_16.out).2.1); (case side3 => repeat (first | exact (Kd.R_reads' HO_21.out).2.2 | (with_reducible refine Kd.C_alloc ?_ _) | (with_reducible refine Kd.C_drewN ?_ _) | (with_reducible refine Kd.C_drew ?_))); (case side4 => exact (Kd.R_reads' HO_21.out).2.1); (case side5 => exact Kd.R_V (Kd.R_tight rfl (HO_17.out))); (case side6 => first | (with_reducible exact HV.out) | exact TInv.below HV.out ZZ605003); rintro e w83 ⟨rfl, hb⟩; refine ⟨_, rfl, ?_⟩; replace HO_15 := Aside0.mk (Kd.R_below (zR HO_15) hb); replace HO_16 := Aside0.mk (Kd.R_below (zR HO_16) hb); replace HO_17 := Aside0.mk (Kd.R_below (zR HO_17) hb); replace HO_21 := Aside0.mk (Kd.R_below (zR HO_21) hb); replace HB := Aside0.mk (below_step ZZ605003 hb); (try clear hb); (try clear hb2); (try clear hk); (try clear hi)))
         go_ret
         exact ⟨ZZab01d2, ZZ605003⟩
end Go.Proofs.YtnfmlglhoboooaaDoor.XFnEvidence

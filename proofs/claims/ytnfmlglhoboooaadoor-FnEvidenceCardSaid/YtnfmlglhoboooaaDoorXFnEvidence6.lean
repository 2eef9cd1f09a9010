-- Printed by wip/tools/xprint.py, a program of this session, over the kit's print; Lean checks it.
import Derived.Test.YtnfmlglhoboooaaDoorXFnEvidence0
import Derived.Test.YtnfmlglhoboooaaDoorXFnEvidence1
import Derived.Test.YtnfmlglhoboooaaDoorXFnEvidence2
import Derived.Test.YtnfmlglhoboooaaDoorXFnEvidence3
namespace Go.Proofs.YtnfmlglhoboooaaDoor.XFnEvidence
open Go.Proofs.YtnfmlglhoboooaaDoor.Short Go.RowKit Go.Proofs.YtnfmlglhoboooaaDoorW.PrintWords Go.Proofs.YtnfmlglhoboooaaDoorW.PrintLast Go.Proofs.YtnfmlglhoboooaaDoorW.PrintMore
attribute [local go_sem] max2_int min2_int max_two min_two max_three min_three max_four min_four   -- for this text's walks alone
set_option linter.unusedVariables false
set_option linter.unusedSimpArgs false
/-! ### spec_ProveLeaf: function 38 -/
mutual
def spec_ProveLeaf.j0 : Nat → List Int → Int → List (S74) → Bool → Option ((List (S74)) × Bool)
 | 0, _, _, _, _ => none
 | k + 1, x0, x1, x6, x20 => if x20 = true then (some (x6, false)) else ((spec_l1Own.f x0).bind fun t227 => (spec_ProveLeaf.l0 k x1 x6 t227))
def spec_ProveLeaf.l0 : Nat → Int → List (S74) → List Int → Option ((List (S74)) × Bool)
 | 0, _, _, _ => none
 | k + 1, x1, x6, x7 => if (x7.length : Int) > 1 then (if (Go.bits .xor .i64 x1 1) < (x7.length : Int) then (if 0 ≤ (Go.bits .xor .i64 x1 1) then (if x6.length < 8796093022208 then ((spec_l25Up.f k x7).bind fun t234 => (spec_ProveLeaf.l0 k (wrap64 (Int.tdiv x1 2)) (x6 ++ [(⟨rd x7 (Go.bits .xor .i64 x1 1), decide ((Go.bits .xor .i64 x1 1) < x1)⟩ : S74)]) t234)) else (none)) else (none)) else ((spec_l25Up.f k x7).bind fun t237 => (spec_ProveLeaf.l0 k (wrap64 (Int.tdiv x1 2)) x6 t237))) else (some (x6, true))
end
def spec_ProveLeaf.f (k : Nat) (l0 : List Int) (a1 : Int) : Option ((List (S74)) × Bool) := (some (([] : List (S74)) : List (S74))).bind fun y222 => ((spec_l25Leaves.f k l0).bind fun t225 => (if t225 = true then ((spec_l1In.f a1 0 (wrap64 ((l0.length : Int) - 1))).bind fun t226 => (spec_ProveLeaf.j0 k l0 a1 y222 (!t226))) else (spec_ProveLeaf.j0 k l0 a1 y222 true)))
theorem spec_ProveLeaf.mono_l : ∀ k, (∀ y0 y1 y2 y3, LeO (spec_ProveLeaf.j0 k y0 y1 y2 y3) (spec_ProveLeaf.j0 (k + 1) y0 y1 y2 y3)) ∧ (∀ y0 y1 y2, LeO (spec_ProveLeaf.l0 k y0 y1 y2) (spec_ProveLeaf.l0 (k + 1) y0 y1 y2))
 | 0 => ⟨fun _ _ _ _ r h => by simp [spec_ProveLeaf.j0] at h, fun _ _ _ r h => by simp [spec_ProveLeaf.l0] at h⟩
 | k + 1 => by
  obtain ⟨ih0, ih1⟩ := spec_ProveLeaf.mono_l k
  refine ⟨?_, ?_⟩
  all_goals intros
  all_goals (first | unfold spec_ProveLeaf.j0 | unfold spec_ProveLeaf.l0)
  all_goals
   repeat' first
   | (with_reducible exact ih0 _ _ _ _)
   | (with_reducible exact ih1 _ _ _)
   | (with_reducible exact spec_l25Leaves.mono _ _)
   | (with_reducible exact spec_l25Up.mono _ _)
   | (with_reducible exact LeO.refl _)
   | (with_reducible exact LeO.none _)
   | (with_reducible refine LeO.ite ?_ ?_)
   | (with_reducible refine LeO.bind ?_ (fun _ => ?_))
   | exact ih0 _ _ _ _
   | exact ih1 _ _ _
   | exact spec_l25Leaves.mono _ _
   | exact spec_l25Up.mono _ _
   | exact LeO.none _
   | refine LeO.ite ?_ ?_
   | refine LeO.bind ?_ (fun _ => ?_)
theorem spec_ProveLeaf.mono : ∀ a0 a1 k, LeO (spec_ProveLeaf.f k a0 a1) (spec_ProveLeaf.f (k + 1) a0 a1) := by
 intro a0 a1 k
 obtain ⟨ih0, ih1⟩ := spec_ProveLeaf.mono_l k
 unfold spec_ProveLeaf.f
 repeat' first
  | (with_reducible exact ih0 _ _ _ _)
  | (with_reducible exact ih1 _ _ _)
  | (with_reducible exact spec_l25Leaves.mono _ _)
  | (with_reducible exact spec_l25Up.mono _ _)
  | (with_reducible exact LeO.refl _)
  | (with_reducible exact LeO.none _)
  | (with_reducible refine LeO.ite ?_ ?_)
  | (with_reducible refine LeO.bind ?_ (fun _ => ?_))
  | exact ih0 _ _ _ _
  | exact ih1 _ _ _
  | exact spec_l25Leaves.mono _ _
  | exact spec_l25Up.mono _ _
  | exact LeO.none _
  | refine LeO.ite ?_ ?_
  | refine LeO.bind ?_ (fun _ => ?_)
set_option maxHeartbeats 8000000 in
set_option maxRecDepth 100000 in
theorem spec_ProveLeaf.calls (k : Nat) (A0 : Option Addr) (c0 : Nat) (l0 : List Int) (a1 : Int) (r1 : List (S74)) (r2 : Bool) (w : World) (hr0 : Kd.C (Kd.int .i64) w A0 l0.length l0) (hc0 : l0.length ≤ c0) (h : spec_ProveLeaf.f k l0 a1 = some (r1, r2)) :
 Calls Tryd.prog 38 #[.slice A0 l0.length c0, .int .i64 a1] w fun e w' => ∃ v0_ : Value, e = .returned (.tuple #[v0_, .bool r2]) ∧ Kd.R k74 74 w' w.heap.size (fun _ => True) v0_ r1 ∧ Below w.heap.size w w' := by
 have hu74 := Tryd.underlying74
 have HR0 := Aside0.mk hr0
 have HC0 := Aside0.mk hc0
 clear hr0 hc0
 have HB := Aside0.mk (Below.refl w.heap.size w)
 have H := h
 clear h
 unfold spec_ProveLeaf.f at H
 obtain ⟨y222, hy222⟩ : ∃ y_ : List (S74), y_ = (([] : List (S74))) := ⟨_, rfl⟩
 replace H : ((spec_l25Leaves.f k l0).bind fun t225 => (if t225 = true then ((spec_l1In.f a1 0 (wrap64 ((l0.length : Int) - 1))).bind fun t226 => (spec_ProveLeaf.j0 k l0 a1 y222 (!t226))) else (spec_ProveLeaf.j0 k l0 a1 y222 true))) = some (r1, r2) := by first | (rw [hy222]; with_reducible exact H) | (have H2_ := (Option.bind_some _ _).symm.trans H; rw [hy222]; with_reducible exact H2_) | (have H2_ := (Option.bind_some _ _).symm.trans H; with_reducible exact H2_) | with_reducible exact H | (rw [hy222]; exact H) | exact H
 have Ny222 := Aside0.mk hy222
 clear hy222
 have HC3 := Aside0.mk H
 clear H
 go_enter Tryd.func38, Tryd.ntmps38
 go_upto_region 2 with (first | ((with_reducible refine gate_dst (N := 9) rfl ?_); (try (refine gate_guard (by rfl) ?_; dsimp only)); refine Kd.R_lit k74 _ 74 ?hg (N := 9) ?hd (xs := ([] : List (S74))) (inner := []) (ok := fun _ => True) (okp := fun _ => True) ?hr ?hp (fun _ hk => hk) trivial (Below.refl _ _) (Nat.le_refl _) (by simp) ?_; (case hd => rfl); (case hg => rfl); (case hr => first | (go_simp; done) | (go_simp; rfl)); (case hp => exact (Reps.none _ _)); intro v223 w4 ho5 hb hg_ hnew_; clear hg_ hnew_; (first | rw [← Ny222.out] at ho5 | (simp only [Int.reduceToNat] at ho5; rw [← Ny222.out] at ho5)); have HO224 := Aside0.mk (Kd.R_lower ho5 (below_size ZZ605003)); replace HB := Aside0.mk (below_step ZZ605003 hb); clear hb ho5))
 (try simp only [Act.put, List.setIfInBounds_toArray, List.set_cons_zero, List.set_cons_succ])
 go_cut [20] (fun v20 wc => ∃ (kq : Nat) (x20_2 : Bool), v20 = .bool x20_2 ∧ Aside0 (spec_ProveLeaf.j0 kq l0 a1 y222 x20_2 = some (r1, r2)) ∧ Aside0 (kq ≤ k) ∧ Aside0 (Kd.R k74 74 wc w.heap.size (fun _ => True) v223 y222) ∧ Aside0 (Below w.heap.size w wc))
 case first =>
  have H := HC3.out
  clear HC3
  obtain ⟨t225, A6, H⟩ := bdY H
  by_cases c7 : t225 = true
  ·subst c7
   have H1 : ((spec_l1In.f a1 0 (wrap64 ((l0.length : Int) - 1))).bind fun t226 => (spec_ProveLeaf.j0 k l0 a1 y222 (!t226))) = some (r1, r2) := by rw [if_pos rfl] at H; exact H
   clear H
   have H := H1
   clear H1
   obtain ⟨t226, A8, H⟩ := bdY H
   have H' := Aside0.mk H
   clear H
   go_wp2_with (first | ((with_reducible refine gate_callee (f := 61) rfl ?_); refine goesL_ (some 11) rfl rfl Tryd.func61 (by kernel_rfl) rfl #[.slice A0 l0.length c0] rfl ZZ19826e ?_; (with_reducible refine (spec_l25Leaves.calls k _ _ l0 true _ ?side1 ?side2 A6.out).mono ?_); (case side1 => exact ZZ13f2d6); (case side2 => exact HC0.out); rintro e w' ⟨rfl, ⟨nd, rfl⟩⟩; refine ⟨_, rfl, ?_⟩) | (go_at_call 67; (with_reducible refine (spec_l1In.calls a1 0 (wrap64 ((l0.length : Int) - 1)) t226 _ A8.out).mono ?_); rintro e w' ⟨rfl, ⟨nd, rfl⟩⟩))
   go_meet
   case rel => exact ⟨_, (!t226), ZZ0ab324, H', ⟨ZZ81c739⟩, ⟨(zR HO224)⟩, ⟨ZZ605003⟩⟩
  replace c7 := Bool.eq_false_iff.mpr c7
  subst c7
  have H1 : (spec_ProveLeaf.j0 k l0 a1 y222 true) = some (r1, r2) := by rw [if_neg (show ¬ (false = true) by decide)] at H; exact H
  clear H
  have H := H1
  clear H1
  have H' := Aside0.mk H
  clear H
  go_wp2_with (first | ((with_reducible refine gate_callee (f := 61) rfl ?_); refine goesL_ (some 11) rfl rfl Tryd.func61 (by kernel_rfl) rfl #[.slice A0 l0.length c0] rfl ZZ19826e ?_; (with_reducible refine (spec_l25Leaves.calls k _ _ l0 false _ ?side1 ?side2 A6.out).mono ?_); (case side1 => exact ZZ13f2d6); (case side2 => exact HC0.out); rintro e w' ⟨rfl, ⟨nd, rfl⟩⟩; refine ⟨_, rfl, ?_⟩))
  go_meet
  case rel => exact ⟨_, (true), ZZ0ab324, H', ⟨ZZ81c739⟩, ⟨(zR HO224)⟩, ⟨ZZ605003⟩⟩
 case rest =>
  clear HC3
  try clear c7
  obtain ⟨kq, x20_2, rfl, HA, HJ2, HO_6, HB⟩ := hcut
  cases kq with
  | zero => exact absurd HA.out (by simp [spec_ProveLeaf.j0])
  | succ kj2 =>
   have H := HA.out
   clear HA
   simp only [spec_ProveLeaf.j0] at H
   by_cases c9 : x20_2 = true
   ·subst c9
    have H1 : (some (y222, false)) = some (r1, r2) := by rw [if_pos rfl] at H; exact H
    clear H
    have H := H1
    clear H1
    simp only [Option.some.injEq, Prod.mk.injEq] at H
    obtain ⟨rfl, rfl⟩ := H
    go_wp2
    go_ret2
    exact ⟨_, ZZab01d2, (zR HO_6), ZZ605003⟩
   replace c9 := Bool.eq_false_iff.mpr c9
   subst c9
   have H1 : ((spec_l1Own.f l0).bind fun t227 => (spec_ProveLeaf.l0 kj2 a1 y222 t227)) = some (r1, r2) := by rw [if_neg (show ¬ (false = true) by decide)] at H; exact H
   clear H
   have H := H1
   clear H1
   obtain ⟨t227, A10, H⟩ := bdY H
   have H' := Aside0.mk H
   clear H
   go_wp2_with (first | ((with_reducible refine gate_callee (f := 77) rfl ?_); refine goesL_ (some 23) rfl rfl Tryd.func77 (by kernel_rfl) rfl #[.slice A0 l0.length c0] rfl ZZ19826e ?_; (with_reducible refine (spec_l1Own.calls _ _ l0 t227 _ ?side1 ?side2 A10.out).mono ?_); (case side1 => exact ZZ13f2d6); (case side2 => exact HC0.out); rintro e w11 ⟨v228, rfl, ho0, hb⟩; refine ⟨_, rfl, ?_⟩; replace HO_6 := Aside0.mk (Kd.R_below (zR HO_6) hb); have HO229 := Aside0.mk (Kd.R_lower ho0 (below_size ZZ605003)); replace HB := Aside0.mk (below_step ZZ605003 hb); (try clear hb); (try clear hb2); (try clear hk); (try clear hi); (try clear ho0)))
   go_loopg [1, 6, 7] kj2 (fun kq v1 v6 v7 w' => ∃ (x1_2 : Int) (x6_2 : List (S74)) (x7_2 : List Int), v1 = .int .i64 x1_2 ∧ Aside0 (spec_ProveLeaf.l0 kq x1_2 x6_2 x7_2 = some (r1, r2)) ∧ Aside0 (kq ≤ kj2) ∧ Aside0 (Kd.R k74 74 w' w.heap.size (fun _ => True) v6 x6_2) ∧ Aside0 (Kd.R (Kd.int .i64) 3 w' w.heap.size (fun _ => True) v7 x7_2) ∧ Aside0 (Below w.heap.size w w'))
   case atStart => exact ⟨(a1), (y222), (t227), ZZ0ab324, H', ⟨Nat.le_refl _⟩, ⟨(zR HO_6)⟩, ⟨(zR HO229)⟩, ⟨ZZ605003⟩⟩
   case round =>
    clear H'
    try clear c9
    obtain ⟨x1_2, x6_2, x7_2, rfl, HA, HK2, HO_6, HO_7, HB⟩ := hrel
    cases gk with
    | zero => exact absurd HA.out (by simp [spec_ProveLeaf.l0])
    | succ k2 =>
     have H := HA.out
     clear HA
     simp only [spec_ProveLeaf.l0] at H
     by_cases c12 : (x7_2.length : Int) > 1
     ·rw [if_pos c12] at H
      have c12b0 : decide (1 < (x7_2.length : Int)) = true := decide_eq_true c12
      have c12b1 : decide (1 < x7_2.length) = true := decide_eq_true (by omega)
      clear c12
      by_cases c13 : (Go.bits .xor .i64 x1_2 1) < (x7_2.length : Int)
      ·rw [if_pos c13] at H
       have c13b0 := decide_eq_true c13
       clear c13
       obtain ⟨c14, H⟩ := ifY H
       have c14b0 := decide_eq_true c14
       clear c14
       obtain ⟨c15, H⟩ := ifY H
       have LMc15 := Aside0.mk c15
       clear c15
       obtain ⟨y231, hy231⟩ : ∃ y_ : List (S74), y_ = (x6_2 ++ [(⟨rd x7_2 (Go.bits .xor .i64 x1_2 1), decide ((Go.bits .xor .i64 x1_2 1) < x1_2)⟩ : S74)]) := ⟨_, rfl⟩
       replace H : ((spec_l25Up.f k2 x7_2).bind fun t234 => (spec_ProveLeaf.l0 k2 (wrap64 (Int.tdiv x1_2 2)) y231 t234)) = some (r1, r2) := by first | (rw [hy231]; with_reducible exact H) | (have H2_ := (Option.bind_some _ _).symm.trans H; rw [hy231]; with_reducible exact H2_) | (have H2_ := (Option.bind_some _ _).symm.trans H; with_reducible exact H2_) | with_reducible exact H | (rw [hy231]; exact H) | exact H
       have Ny231 := Aside0.mk hy231
       clear hy231
       obtain ⟨t234, A16, H⟩ := bdY H
       have H' := Aside0.mk H
       clear H
       obtain ⟨Ao17, co17, eo17⟩ := Kd.R_slice HO_7.out
       subst eo17
       have p230 : 0 ≤ ((Go.bits .xor .i64 x1_2 1) : Int) := of_decide_eq_true ZZ853400
       have q230 : (Go.bits .xor .i64 x1_2 1) < (x7_2.length : Int) := of_decide_eq_true ZZ853400
       obtain ⟨ad230, e230, hx230_0⟩ := Kd.at_int (Kd.R_reads' HO_7.out).2.2 (Go.bits .xor .i64 x1_2 1) p230 q230
       cases e230
       replace p230 := eq_true p230
       replace q230 := eq_true q230
       go_wp2_with (first | ((with_reducible refine gate_builtin (b := .append) (xs := #[.tmp 33, .tmp 42]) rfl ?_); (try (refine gate_guard (by rfl) ?_; dsimp only)); at_builtin; refine Kd.R_append k74 (w0 := w) w.heap.size rfl (.tmp 33) (.tmp 42) 36 74 (.agg #[(.int .i64 0), (.bool false)]) 16 rfl Tryd.underlying36 info74 rfl (by decide) (by omega) u6 x6_2 (⟨rd x7_2 (Go.bits .xor .i64 x1_2 1), decide ((Go.bits .xor .i64 x1_2 1) < x1_2)⟩ : S74) [.int .i64 (rd x7_2 (Go.bits .xor .i64 x1_2 1)), .bool (decide ((Go.bits .xor .i64 x1_2 1) < x1_2))] (fun _ => True) (fun _ => False) rfl rfl ?aP (fun _ hk => hk.elim) ?aF ?aO ?aB ?aS ?aL ?_; (case aP => exact k74_mkM _ _ _ (⟨rd x7_2 (Go.bits .xor .i64 x1_2 1), decide ((Go.bits .xor .i64 x1_2 1) < x1_2)⟩ : S74)); (case aB => exact ZZ605003); (case aF => exact (fun _ _ => trivial)); (case aO => exact (zR HO_6)); (case aS => exact (below_size ZZ605003)); (case aL => have := LMc15.out; omega); intro v232 w18 ho hb hg hat; rw [← Ny231.out] at ho; replace HO_7 := Aside0.mk (Kd.R_over' (zR HO_7) (Kd.R_typed (zR HO_6)) (by decide) hg); replace HB := Aside0.mk (hb); have HO233 := Aside0.mk (ho); clear HO_6; clear ho hb hg hat) | ((with_reducible refine gate_callee (f := 78) rfl ?_); refine goesL_ (some 45) rfl rfl Tryd.func78 (by kernel_rfl) rfl #[.slice (some ad230) x7_2.length co17] rfl ZZ19826e ?_; (with_reducible refine (spec_l25Up.calls k2 _ _ x7_2 t234 _ ?side1 ?side2 A16.out).mono ?_); (case side1 => repeat (first | exact (Kd.R_reads' HO_7.out).2.2 | (with_reducible refine Kd.C_alloc ?_ _) | (with_reducible refine Kd.C_drewN ?_ _) | (with_reducible refine Kd.C_drew ?_))); (case side2 => exact (Kd.R_reads' HO_7.out).2.1); rintro e w19 ⟨v235, rfl, ho0, hb⟩; refine ⟨_, rfl, ?_⟩; replace HO233 := Aside0.mk (Kd.R_below (zR HO233) hb); have HO236 := Aside0.mk (Kd.R_lower (Kd.R_new' ho0 (Kd.R_lt (zR HO_7))) (below_size ZZ605003)); replace HO_7 := Aside0.mk (Kd.R_elder' (zR HO_7) (Kd.R_base ho0) hb); replace HB := Aside0.mk (below_step ZZ605003 hb); (try clear hb); (try clear hb2); (try clear hk); (try clear hi); (try clear ho0)))
       go_roundg k2
       case measure => have := HJ2.out; have := HK2.out; omega
       case rel => exact ⟨(wrap64 (Int.tdiv x1_2 2)), (y231), (t234), ZZ0ab324, H', ⟨(by have := HJ2.out; have := HK2.out; omega)⟩, ⟨(zR HO233)⟩, ⟨(by (with_reducible repeat (first | apply Kd.R_alloc | apply Kd.R_drewN | apply Kd.R_drew)); exact Kd.R_mono HO236.out (fun _ hk => trivial))⟩, ⟨ZZ605003⟩⟩
      rw [if_neg c13] at H
      have c13b0 := decide_eq_false c13
      clear c13
      obtain ⟨t237, A20, H⟩ := bdY H
      have H' := Aside0.mk H
      clear H
      obtain ⟨Ao21, co21, eo21⟩ := Kd.R_slice HO_7.out
      subst eo21
      go_wp2_with (first | ((with_reducible refine gate_callee (f := 78) rfl ?_); refine goesL_ (some 45) rfl rfl Tryd.func78 (by kernel_rfl) rfl #[.slice Ao21 x7_2.length co21] rfl ZZ19826e ?_; (with_reducible refine (spec_l25Up.calls k2 _ _ x7_2 t237 _ ?side1 ?side2 A20.out).mono ?_); (case side1 => repeat (first | exact (Kd.R_reads' HO_7.out).2.2 | (with_reducible refine Kd.C_alloc ?_ _) | (with_reducible refine Kd.C_drewN ?_ _) | (with_reducible refine Kd.C_drew ?_))); (case side2 => exact (Kd.R_reads' HO_7.out).2.1); rintro e w22 ⟨v238, rfl, ho0, hb⟩; refine ⟨_, rfl, ?_⟩; replace HO_6 := Aside0.mk (Kd.R_below (zR HO_6) hb); have HO239 := Aside0.mk (Kd.R_lower (Kd.R_new' ho0 (Kd.R_lt (zR HO_7))) (below_size ZZ605003)); replace HO_7 := Aside0.mk (Kd.R_elder' (zR HO_7) (Kd.R_base ho0) hb); replace HB := Aside0.mk (below_step ZZ605003 hb); (try clear hb); (try clear hb2); (try clear hk); (try clear hi); (try clear ho0)))
      go_roundg k2
      case measure => have := HJ2.out; have := HK2.out; omega
      case rel => exact ⟨(wrap64 (Int.tdiv x1_2 2)), (x6_2), (t237), ZZ0ab324, H', ⟨(by have := HJ2.out; have := HK2.out; omega)⟩, ⟨(zR HO_6)⟩, ⟨(by (with_reducible repeat (first | apply Kd.R_alloc | apply Kd.R_drewN | apply Kd.R_drew)); exact Kd.R_mono HO239.out (fun _ hk => trivial))⟩, ⟨ZZ605003⟩⟩
     rw [if_neg c12] at H
     have c12b0 : decide (1 < (x7_2.length : Int)) = false := decide_eq_false c12
     have c12b1 : decide (1 < x7_2.length) = false := decide_eq_false (by omega)
     clear c12
     simp only [Option.some.injEq, Prod.mk.injEq] at H
     obtain ⟨rfl, rfl⟩ := H
     obtain ⟨Ao23, co23, eo23⟩ := Kd.R_slice HO_7.out
     subst eo23
     go_wp2
     go_ret2
     exact ⟨_, ZZab01d2, (zR HO_6), ZZ605003⟩
/-! ### impl_ProveLeaf: function 39 -/
mutual
def impl_ProveLeaf.j0 : Nat → List Int → Int → Bool → Option ((List (S74)) × Bool)
 | 0, _, _, _ => none
 | k + 1, x0, x1, x20 => if x20 = true then (some (([] : List (S74)), false)) else ((impl_levelsOf.f k x0).bind fun t245 => (impl_ProveLeaf.l0 k x1 (([] : List (S74))) t245 (t245.length : Int) 0))
def impl_ProveLeaf.l0 : Nat → Int → List (S74) → List (List Int) → Int → Int → Option ((List (S74)) × Bool)
 | 0, _, _, _, _, _ => none
 | k + 1, x1, x6, x23, x24, x25 => if x25 < x24 then (if 0 ≤ x25 then (if x25 < (x23.length : Int) then (if (Go.bits .xor .i64 x1 1) < ((rd_L5 x23 x25).length : Int) then (if 0 ≤ (Go.bits .xor .i64 x1 1) then (if x6.length < 8796093022208 then (impl_ProveLeaf.l0 k (wrap64 (Int.tdiv x1 2)) (x6 ++ [(⟨rd (rd_L5 x23 x25) (Go.bits .xor .i64 x1 1), decide ((Go.bits .xor .i64 x1 1) < x1)⟩ : S74)]) x23 x24 (wrap64 (x25 + 1))) else (none)) else (none)) else (impl_ProveLeaf.l0 k (wrap64 (Int.tdiv x1 2)) x6 x23 x24 (wrap64 (x25 + 1)))) else (none)) else (none)) else (some (x6, true))
end
def impl_ProveLeaf.f (k : Nat) (l0 : List Int) (a1 : Int) : Option ((List (S74)) × Bool) := (impl_areLeaves.f k l0).bind fun t240 => (if t240 = true then ((impl_within.f a1 0 (wrap64 ((l0.length : Int) - 1))).bind fun t241 => (impl_ProveLeaf.j0 k l0 a1 (!t241))) else (impl_ProveLeaf.j0 k l0 a1 true))
theorem impl_ProveLeaf.mono_l : ∀ k, (∀ y0 y1 y2, LeO (impl_ProveLeaf.j0 k y0 y1 y2) (impl_ProveLeaf.j0 (k + 1) y0 y1 y2)) ∧ (∀ y0 y1 y2 y3 y4, LeO (impl_ProveLeaf.l0 k y0 y1 y2 y3 y4) (impl_ProveLeaf.l0 (k + 1) y0 y1 y2 y3 y4))
 | 0 => ⟨fun _ _ _ r h => by simp [impl_ProveLeaf.j0] at h, fun _ _ _ _ _ r h => by simp [impl_ProveLeaf.l0] at h⟩
 | k + 1 => by
  obtain ⟨ih0, ih1⟩ := impl_ProveLeaf.mono_l k
  refine ⟨?_, ?_⟩
  all_goals intros
  all_goals (first | unfold impl_ProveLeaf.j0 | unfold impl_ProveLeaf.l0)
  all_goals
   repeat' first
   | (with_reducible exact ih0 _ _ _)
   | (with_reducible exact ih1 _ _ _ _ _)
   | (with_reducible exact impl_areLeaves.mono _ _)
   | (with_reducible exact impl_levelsOf.mono _ _)
   | (with_reducible exact LeO.refl _)
   | (with_reducible exact LeO.none _)
   | (with_reducible refine LeO.ite ?_ ?_)
   | (with_reducible refine LeO.bind ?_ (fun _ => ?_))
   | exact ih0 _ _ _
   | exact ih1 _ _ _ _ _
   | exact impl_areLeaves.mono _ _
   | exact impl_levelsOf.mono _ _
   | exact LeO.none _
   | refine LeO.ite ?_ ?_
   | refine LeO.bind ?_ (fun _ => ?_)
theorem impl_ProveLeaf.mono : ∀ a0 a1 k, LeO (impl_ProveLeaf.f k a0 a1) (impl_ProveLeaf.f (k + 1) a0 a1) := by
 intro a0 a1 k
 obtain ⟨ih0, ih1⟩ := impl_ProveLeaf.mono_l k
 unfold impl_ProveLeaf.f
 repeat' first
  | (with_reducible exact ih0 _ _ _)
  | (with_reducible exact ih1 _ _ _ _ _)
  | (with_reducible exact impl_areLeaves.mono _ _)
  | (with_reducible exact impl_levelsOf.mono _ _)
  | (with_reducible exact LeO.refl _)
  | (with_reducible exact LeO.none _)
  | (with_reducible refine LeO.ite ?_ ?_)
  | (with_reducible refine LeO.bind ?_ (fun _ => ?_))
  | exact ih0 _ _ _
  | exact ih1 _ _ _ _ _
  | exact impl_areLeaves.mono _ _
  | exact impl_levelsOf.mono _ _
  | exact LeO.none _
  | refine LeO.ite ?_ ?_
  | refine LeO.bind ?_ (fun _ => ?_)
set_option maxHeartbeats 8000000 in
set_option maxRecDepth 100000 in
theorem impl_ProveLeaf.calls (k : Nat) (A0 : Option Addr) (c0 : Nat) (l0 : List Int) (a1 : Int) (r1 : List (S74)) (r2 : Bool) (w : World) (hr0 : Kd.C (Kd.int .i64) w A0 l0.length l0) (hc0 : l0.length ≤ c0) (hV : TInv w) (h : impl_ProveLeaf.f k l0 a1 = some (r1, r2)) :
 Calls Tryd.prog 39 #[.slice A0 l0.length c0, .int .i64 a1] w fun e w' => ∃ v0_ : Value, e = .returned (.tuple #[v0_, .bool r2]) ∧ Kd.R k74 74 w' w.heap.size (fun _ => True) v0_ r1 ∧ Below w.heap.size w w' := by
 have hu74 := Tryd.underlying74
 have HV := Aside0.mk hV
 clear hV
 have HR0 := Aside0.mk hr0
 have HC0 := Aside0.mk hc0
 clear hr0 hc0
 have HB := Aside0.mk (Below.refl w.heap.size w)
 have H := h
 clear h
 unfold impl_ProveLeaf.f at H
 have HC3 := Aside0.mk H
 clear H
 go_enter Tryd.func39, Tryd.ntmps39
 go_upto_region 1 with (fail)
 go_cut [20] (fun v20 wc => ∃ (kq : Nat) (x20_2 : Bool), v20 = .bool x20_2 ∧ Aside0 (impl_ProveLeaf.j0 kq l0 a1 x20_2 = some (r1, r2)) ∧ Aside0 (kq ≤ k) ∧ Aside0 (Below w.heap.size w wc))
 case first =>
  have H := HC3.out
  clear HC3
  obtain ⟨t240, A4, H⟩ := bdY H
  by_cases c5 : t240 = true
  ·subst c5
   have H1 : ((impl_within.f a1 0 (wrap64 ((l0.length : Int) - 1))).bind fun t241 => (impl_ProveLeaf.j0 k l0 a1 (!t241))) = some (r1, r2) := by rw [if_pos rfl] at H; exact H
   clear H
   have H := H1
   clear H1
   obtain ⟨t241, A6, H⟩ := bdY H
   have H' := Aside0.mk H
   clear H
   go_wp2_with (first | ((with_reducible refine gate_callee (f := 63) rfl ?_); refine goesL_ (some 11) rfl rfl Tryd.func63 (by kernel_rfl) rfl #[.slice A0 l0.length c0] rfl ZZ19826e ?_; (with_reducible refine (impl_areLeaves.calls k _ _ l0 true _ ?side1 ?side2 A4.out).mono ?_); (case side1 => exact ZZ13f2d6); (case side2 => exact HC0.out); rintro e w7 ⟨rfl, hb⟩; refine ⟨_, rfl, ?_⟩; replace HB := Aside0.mk (below_step ZZ605003 hb); (try clear hb); (try clear hb2); (try clear hk); (try clear hi)) | (go_at_call 71; (with_reducible refine (impl_within.calls a1 0 (wrap64 ((l0.length : Int) - 1)) t241 _ A6.out).mono ?_); rintro e w' ⟨rfl, ⟨nd, rfl⟩⟩))
   go_meet
   case rel => exact ⟨_, (!t241), ZZ0ab324, H', ⟨ZZ81c739⟩, ⟨ZZ605003⟩⟩
  replace c5 := Bool.eq_false_iff.mpr c5
  subst c5
  have H1 : (impl_ProveLeaf.j0 k l0 a1 true) = some (r1, r2) := by rw [if_neg (show ¬ (false = true) by decide)] at H; exact H
  clear H
  have H := H1
  clear H1
  have H' := Aside0.mk H
  clear H
  go_wp2_with (first | ((with_reducible refine gate_callee (f := 63) rfl ?_); refine goesL_ (some 11) rfl rfl Tryd.func63 (by kernel_rfl) rfl #[.slice A0 l0.length c0] rfl ZZ19826e ?_; (with_reducible refine (impl_areLeaves.calls k _ _ l0 false _ ?side1 ?side2 A4.out).mono ?_); (case side1 => exact ZZ13f2d6); (case side2 => exact HC0.out); rintro e w8 ⟨rfl, hb⟩; refine ⟨_, rfl, ?_⟩; replace HB := Aside0.mk (below_step ZZ605003 hb); (try clear hb); (try clear hb2); (try clear hk); (try clear hi)))
  go_meet
  case rel => exact ⟨_, (true), ZZ0ab324, H', ⟨ZZ81c739⟩, ⟨ZZ605003⟩⟩
 case rest =>
  clear HC3
  try clear c5
  obtain ⟨kq, x20_2, rfl, HA, HJ2, HB⟩ := hcut
  cases kq with
  | zero => exact absurd HA.out (by simp [impl_ProveLeaf.j0])
  | succ kj2 =>
   have H := HA.out
   clear HA
   simp only [impl_ProveLeaf.j0] at H
   by_cases c9 : x20_2 = true
   ·subst c9
    have H1 : (some (([] : List (S74)), false)) = some (r1, r2) := by rw [if_pos rfl] at H; exact H
    clear H
    have H := H1
    clear H1
    simp only [Option.some.injEq, Prod.mk.injEq] at H
    obtain ⟨rfl, rfl⟩ := H
    go_wp2
    go_ret2
    exact ⟨_, ZZab01d2, (by first | exact Kd.R_nil _ _ _ _ _ | exact Kd.N_nil _ _ _ _ _ | exact Kd.V_nil _ _ _ _ _ | exact Kd.Q_nil _ _ _ _ _ | exact Kd.S_nil _ _ _ _ _), ZZ605003⟩
   replace c9 := Bool.eq_false_iff.mpr c9
   subst c9
   have H1 : ((impl_levelsOf.f kj2 l0).bind fun t245 => (impl_ProveLeaf.l0 kj2 a1 (([] : List (S74))) t245 (t245.length : Int) 0)) = some (r1, r2) := by rw [if_neg (show ¬ (false = true) by decide)] at H; exact H
   clear H
   have H := H1
   clear H1
   obtain ⟨y242, hy242⟩ : ∃ y_ : List (S74), y_ = (([] : List (S74))) := ⟨_, rfl⟩
   replace H : ((impl_levelsOf.f kj2 l0).bind fun t245 => (impl_ProveLeaf.l0 kj2 a1 y242 t245 (t245.length : Int) 0)) = some (r1, r2) := by first | (rw [hy242]; with_reducible exact H) | (have H2_ := (Option.bind_some _ _).symm.trans H; rw [hy242]; with_reducible exact H2_) | (have H2_ := (Option.bind_some _ _).symm.trans H; with_reducible exact H2_) | with_reducible exact H | (rw [hy242]; exact H) | exact H
   have Ny242 := Aside0.mk hy242
   clear hy242
   obtain ⟨t245, A10, H⟩ := bdY H
   have H' := Aside0.mk H
   clear H
   go_wp2_with (first | ((with_reducible refine gate_dst (N := 21) rfl ?_); (try (refine gate_guard (by rfl) ?_; dsimp only)); refine Kd.R_lit k74 _ 74 ?hg (N := 21) ?hd (xs := ([] : List (S74))) (inner := []) (ok := fun _ => True) (okp := fun _ => True) ?hr ?hp (fun _ hk => hk) trivial (Below.refl _ _) (Nat.le_refl _) (by simp) ?_; (case hd => rfl); (case hg => rfl); (case hr => first | (go_simp; done) | (go_simp; rfl)); (case hp => exact (Reps.none _ _)); intro v243 w11 ho12 hb hg_ hnew_; clear hg_ hnew_; (first | rw [← Ny242.out] at ho12 | (simp only [Int.reduceToNat] at ho12; rw [← Ny242.out] at ho12)); have HO244 := Aside0.mk (Kd.R_lower ho12 (below_size ZZ605003)); replace HB := Aside0.mk (below_step ZZ605003 hb); clear hb ho12) | ((with_reducible refine gate_callee (f := 66) rfl ?_); refine goesL_ (some 23) rfl rfl Tryd.func66 (by kernel_rfl) rfl #[.slice A0 l0.length c0] rfl ZZ19826e ?_; (with_reducible refine (impl_levelsOf.calls kj2 (fun k_ => k_ < w.heap.size) _ _ l0 t245 _ ?side1 ?side2 A10.out).mono ?_); (case side1 => exact Kd.V_mk HC0.out (Kd.F_below (Kd.C_F (Kd.heap_int .i64) HR0.out) ZZ605003)); (case side2 => first | (with_reducible exact HV.out) | exact TInv.below HV.out ZZ605003); rintro e w13 ⟨v246, rfl, ho0, hb⟩; refine ⟨_, rfl, ?_⟩; have HO247 := Aside0.mk (Kd.N_lower (Kd.N_mono (ok' := fun k_ => some k_ ≠ (v243 : Value).ownBlock) ho0 (fun k_ hk_ => Or.elim hk_ (fun hs_ => fun e_ => Nat.not_le.2 hs_ (Kd.R_base HO244.out k_ e_.symm)) (fun hn_ => (Kd.fresh' (Kd.R_lt (zR HO244)) k_ hn_)))) (below_size ZZ605003)); replace HO244 := Aside0.mk (Kd.R_below (zR HO244) hb); replace HB := Aside0.mk (below_step ZZ605003 hb); (try clear hb); (try clear hb2); (try clear hk); (try clear hi); (try clear ho0); obtain ⟨Ao14, co14, eo14⟩ := Kd.N_slice HO247.out; subst eo14))
   go_loopg [1, 6, 25] kj2 (fun kq v1 v6 v25 w' => ∃ (x1_2 : Int) (x6_2 : List (S74)) (x25_2 : Int), v1 = .int .i64 x1_2 ∧ v25 = .int .i64 x25_2 ∧ Aside0 (impl_ProveLeaf.l0 kq x1_2 x6_2 t245 (t245.length : Int) x25_2 = some (r1, r2)) ∧ Aside0 (kq ≤ kj2) ∧ Aside0 (Kd.R k74 74 w' w.heap.size (fun _ => True) v6 x6_2) ∧ Aside0 (Kd.N (Kd.slice 3 (Kd.int .i64)) 40 w' w.heap.size (fun k_ => some k_ ≠ (v6 : Value).ownBlock) (.slice Ao14 t245.length co14) t245) ∧ Aside0 (Below w.heap.size w w'))
   case atStart => exact ⟨(a1), (y242), (0), ZZ0ab324, ZZ0ab324, H', ⟨Nat.le_refl _⟩, ⟨(zR HO244)⟩, ⟨(by (with_reducible repeat (first | apply Kd.N_alloc | apply Kd.N_drewN | apply Kd.N_drew)); exact HO247.out)⟩, ⟨ZZ605003⟩⟩
   case round =>
    clear H'
    try clear c9
    obtain ⟨x1_2, x6_2, x25_2, rfl, rfl, HA, HK2, HO_6, HO_23, HB⟩ := hrel
    cases gk with
    | zero => exact absurd HA.out (by simp [impl_ProveLeaf.l0])
    | succ k2 =>
     have H := HA.out
     clear HA
     simp only [impl_ProveLeaf.l0] at H
     by_cases c15 : x25_2 < (t245.length : Int)
     ·rw [if_pos c15] at H
      have c15b0 := decide_eq_true c15
      clear c15
      obtain ⟨c16, H⟩ := ifY H
      have c16b0 := decide_eq_true c16
      clear c16
      obtain ⟨c17, H⟩ := ifY H
      have c17b0 := decide_eq_true c17
      clear c17
      by_cases c18 : (Go.bits .xor .i64 x1_2 1) < ((rd_L5 t245 x25_2).length : Int)
      ·rw [if_pos c18] at H
       have c18b0 := decide_eq_true c18
       clear c18
       obtain ⟨c19, H⟩ := ifY H
       have c19b0 := decide_eq_true c19
       clear c19
       obtain ⟨c20, H⟩ := ifY H
       have LMc20 := Aside0.mk c20
       clear c20
       obtain ⟨y250, hy250⟩ : ∃ y_ : List (S74), y_ = (x6_2 ++ [(⟨rd (rd_L5 t245 x25_2) (Go.bits .xor .i64 x1_2 1), decide ((Go.bits .xor .i64 x1_2 1) < x1_2)⟩ : S74)]) := ⟨_, rfl⟩
       replace H : (impl_ProveLeaf.l0 k2 (wrap64 (Int.tdiv x1_2 2)) y250 t245 (t245.length : Int) (wrap64 (x25_2 + 1))) = some (r1, r2) := by first | (rw [hy250]; with_reducible exact H) | (have H2_ := (Option.bind_some _ _).symm.trans H; rw [hy250]; with_reducible exact H2_) | (have H2_ := (Option.bind_some _ _).symm.trans H; with_reducible exact H2_) | with_reducible exact H | (rw [hy250]; exact H) | exact H
       have Ny250 := Aside0.mk hy250
       clear hy250
       have H' := Aside0.mk H
       clear H
       have p248 : 0 ≤ (x25_2 : Int) := of_decide_eq_true ZZ853400
       have q248 : x25_2 < (t245.length : Int) := of_decide_eq_true ZZ853400
       obtain ⟨ad248, A248_0, c248_0, e248, hx248_0, hl248_0, hi248_0⟩ := at_L5 (Kd.N_reads' HO_23.out).2.2 x25_2 p248 q248
       cases e248
       obtain ⟨ce248, hce248, hMe248, hcc248⟩ := Kd.N_get HO_23.out [] x25_2 p248 (by first | exact q248 | exact of_decide_eq_true ZZ853400 | (have e_ := (Kd.N_reads' HO_23.out).1; omega))
       obtain ⟨ua248_0, uc248_0, rfl, ul248_0, ge248_0⟩ := Kd.FK_slice_open hMe248
       have hv248_0 := hcc248 0 _ rfl
       rw [Nat.add_zero, show ((Kd.slice 3 (Kd.int .i64))).sz = 1 from rfl, Nat.mul_one] at hv248_0
       replace hv248_0 := Option.some.inj (hv248_0.symm.trans hx248_0)
       injection hv248_0 with hva_ hvn_ hvc_
       rw [hva_] at ge248_0
       rw [hvc_] at ul248_0
       have HL248_0 := Aside0.mk (show Kd.V (Kd.int .i64) 3 _ w.heap.size _ _ (rd_L5 t245 x25_2) from Kd.V_mk ul248_0 ge248_0)
       clear hva_ hvn_ hvc_ ge248_0 ul248_0
       clear hcc248 hce248
       have HR248_0 := Aside0.mk hi248_0
       have HC248_0 := Aside0.mk hl248_0
       clear hi248_0 hl248_0
       replace p248 := eq_true p248
       replace q248 := eq_true q248
       have p249 : 0 ≤ ((Go.bits .xor .i64 x1_2 1) : Int) := of_decide_eq_true ZZ853400
       have q249 : (Go.bits .xor .i64 x1_2 1) < ((rd_L5 t245 x25_2).length : Int) := of_decide_eq_true ZZ853400
       obtain ⟨ad249, e249, hx249_0⟩ := Kd.at_int (by repeat (first | (with_reducible exact HR248_0.out) | (with_reducible refine Kd.C_alloc ?_ _) | (with_reducible refine Kd.C_drewN ?_ _) | (with_reducible refine Kd.C_drew ?_) | exact HR248_0.out)) (Go.bits .xor .i64 x1_2 1) p249 q249
       cases e249
       replace p249 := eq_true p249
       replace q249 := eq_true q249
       go_wp2_with (first | ((with_reducible refine gate_builtin (b := .append) (xs := #[.tmp 35, .tmp 44]) rfl ?_); (try (refine gate_guard (by rfl) ?_; dsimp only)); at_builtin; refine Kd.R_append k74 (w0 := w) w.heap.size rfl (.tmp 35) (.tmp 44) 36 74 (.agg #[(.int .i64 0), (.bool false)]) 16 rfl Tryd.underlying36 info74 rfl (by decide) (by omega) u6 x6_2 (⟨rd (rd_L5 t245 x25_2) (Go.bits .xor .i64 x1_2 1), decide ((Go.bits .xor .i64 x1_2 1) < x1_2)⟩ : S74) [.int .i64 (rd (rd_L5 t245 x25_2) (Go.bits .xor .i64 x1_2 1)), .bool (decide ((Go.bits .xor .i64 x1_2 1) < x1_2))] (fun _ => True) (fun _ => False) rfl rfl ?aP (fun _ hk => hk.elim) ?aF ?aO ?aB ?aS ?aL ?_; (case aP => exact k74_mkM _ _ _ (⟨rd (rd_L5 t245 x25_2) (Go.bits .xor .i64 x1_2 1), decide ((Go.bits .xor .i64 x1_2 1) < x1_2)⟩ : S74)); (case aB => exact ZZ605003); (case aF => exact (fun _ _ => trivial)); (case aO => exact (zR HO_6)); (case aS => exact (below_size ZZ605003)); (case aL => have := LMc20.out; omega); intro v251 w21 ho hb hg hat; rw [← Ny250.out] at ho; replace HO_23 := Aside0.mk (Kd.N_afterv (ok := (fun _ => True)) (by (with_reducible repeat (first | apply Kd.N_alloc | apply Kd.N_drewN | apply Kd.N_drew)); exact Kd.N_mono HO_23.out (fun _ hk => ⟨trivial, hk⟩)) hg hat); replace HL248_0 := Aside0.mk (Kd.V_afterv (ok := (fun k_ => some k_ ≠ (.slice (some ad248) t245.length co14 : Value).ownBlock)) (by (with_reducible repeat (first | apply Kd.V_alloc | apply Kd.V_drewN | apply Kd.V_drew)); exact Kd.V_mono HL248_0.out (fun _ hk => ⟨hk.2, hk.1⟩)) hg hat); replace HB := Aside0.mk (hb); have HO252 := Aside0.mk (ho); clear HO_6; clear ho hb hg hat))
       go_roundg k2
       case measure => have := HJ2.out; have := HK2.out; omega
       case rel => exact ⟨(wrap64 (Int.tdiv x1_2 2)), (y250), (wrap64 (x25_2 + 1)), ZZ0ab324, ZZ0ab324, H', ⟨(by have := HJ2.out; have := HK2.out; omega)⟩, ⟨(zR HO252)⟩, ⟨(by (with_reducible repeat (first | apply Kd.N_alloc | apply Kd.N_drewN | apply Kd.N_drew)); exact Kd.N_mono HO_23.out (fun _ hk => hk.2))⟩, ⟨ZZ605003⟩⟩
      rw [if_neg c18] at H
      have c18b0 := decide_eq_false c18
      clear c18
      have H' := Aside0.mk H
      clear H
      have p248 : 0 ≤ (x25_2 : Int) := of_decide_eq_true ZZ853400
      have q248 : x25_2 < (t245.length : Int) := of_decide_eq_true ZZ853400
      obtain ⟨ad248, A248_0, c248_0, e248, hx248_0, hl248_0, hi248_0⟩ := at_L5 (Kd.N_reads' HO_23.out).2.2 x25_2 p248 q248
      cases e248
      obtain ⟨ce248, hce248, hMe248, hcc248⟩ := Kd.N_get HO_23.out [] x25_2 p248 (by first | exact q248 | exact of_decide_eq_true ZZ853400 | (have e_ := (Kd.N_reads' HO_23.out).1; omega))
      obtain ⟨ua248_0, uc248_0, rfl, ul248_0, ge248_0⟩ := Kd.FK_slice_open hMe248
      have hv248_0 := hcc248 0 _ rfl
      rw [Nat.add_zero, show ((Kd.slice 3 (Kd.int .i64))).sz = 1 from rfl, Nat.mul_one] at hv248_0
      replace hv248_0 := Option.some.inj (hv248_0.symm.trans hx248_0)
      injection hv248_0 with hva_ hvn_ hvc_
      rw [hva_] at ge248_0
      rw [hvc_] at ul248_0
      have HL248_0 := Aside0.mk (show Kd.V (Kd.int .i64) 3 _ w.heap.size _ _ (rd_L5 t245 x25_2) from Kd.V_mk ul248_0 ge248_0)
      clear hva_ hvn_ hvc_ ge248_0 ul248_0
      clear hcc248 hce248
      have HR248_0 := Aside0.mk hi248_0
      have HC248_0 := Aside0.mk hl248_0
      clear hi248_0 hl248_0
      replace p248 := eq_true p248
      replace q248 := eq_true q248
      go_wp2
      go_roundg k2
      case measure => have := HJ2.out; have := HK2.out; omega
      case rel => exact ⟨(wrap64 (Int.tdiv x1_2 2)), (x6_2), (wrap64 (x25_2 + 1)), ZZ0ab324, ZZ0ab324, H', ⟨(by have := HJ2.out; have := HK2.out; omega)⟩, ⟨(zR HO_6)⟩, ⟨(by (with_reducible repeat (first | apply Kd.N_alloc | apply Kd.N_drewN | apply Kd.N_drew)); exact HO_23.out)⟩, ⟨ZZ605003⟩⟩
     rw [if_neg c15] at H
     have c15b0 := decide_eq_false c15
     clear c15
     simp only [Option.some.injEq, Prod.mk.injEq] at H
     obtain ⟨rfl, rfl⟩ := H
     go_wp2
     go_ret2
     exact ⟨_, ZZab01d2, (zR HO_6), ZZ605003⟩
/-! ### spec_l1Rising: function 89 -/
def spec_l1Rising.l0 : Nat → List Int → Int → Int → Int → Option (Bool)
 | 0, _, _, _, _ => none
 | k + 1, x0, x1, x2, x7 => if x7 < (x0.length : Int) then (if 0 ≤ x7 then ((spec_l1In.f (rd x0 x7) x1 x2).bind fun t254 => (if t254 = true then (if x7 > 0 then (if 0 ≤ (wrap64 (x7 - 1)) then (if (wrap64 (x7 - 1)) < (x0.length : Int) then (if (rd x0 (wrap64 (x7 - 1))) ≥ (rd x0 x7) then (some false) else (spec_l1Rising.l0 k x0 x1 x2 (wrap64 (x7 + 1)))) else (none)) else (none)) else (spec_l1Rising.l0 k x0 x1 x2 (wrap64 (x7 + 1)))) else (some false))) else (none)) else (some true)
def spec_l1Rising.f (k : Nat) (l0 : List Int) (a1 : Int) (a2 : Int) : Option (Bool) := spec_l1Rising.l0 k l0 a1 a2 0
theorem spec_l1Rising.mono_l : ∀ k, (∀ y0 y1 y2 y3, LeO (spec_l1Rising.l0 k y0 y1 y2 y3) (spec_l1Rising.l0 (k + 1) y0 y1 y2 y3))
 | 0 => fun _ _ _ _ r h => by simp [spec_l1Rising.l0] at h
 | k + 1 => by
  have ih0 := spec_l1Rising.mono_l k
  ·intro y0 y1 y2 y3
   unfold spec_l1Rising.l0
   repeat' first
   | (with_reducible exact ih0 _ _ _ _)
   | (with_reducible exact LeO.refl _)
   | (with_reducible exact LeO.none _)
   | (with_reducible refine LeO.ite ?_ ?_)
   | (with_reducible refine LeO.bind ?_ (fun _ => ?_))
   | exact ih0 _ _ _ _
   | exact LeO.none _
   | refine LeO.ite ?_ ?_
   | refine LeO.bind ?_ (fun _ => ?_)
theorem spec_l1Rising.mono : ∀ a0 a1 a2 k, LeO (spec_l1Rising.f k a0 a1 a2) (spec_l1Rising.f (k + 1) a0 a1 a2) := by
 intro a0 a1 a2 k
 have ih0 := spec_l1Rising.mono_l k
 unfold spec_l1Rising.f
 repeat' first
  | (with_reducible exact ih0 _ _ _ _)
  | (with_reducible exact LeO.refl _)
  | (with_reducible exact LeO.none _)
  | (with_reducible refine LeO.ite ?_ ?_)
  | (with_reducible refine LeO.bind ?_ (fun _ => ?_))
  | exact ih0 _ _ _ _
  | exact LeO.none _
  | refine LeO.ite ?_ ?_
  | refine LeO.bind ?_ (fun _ => ?_)
set_option maxHeartbeats 8000000 in
set_option maxRecDepth 100000 in
theorem spec_l1Rising.calls (k : Nat) (A0 : Option Addr) (c0 : Nat) (l0 : List Int) (a1 : Int) (a2 : Int) (r : Bool) (w : World) (hr0 : Kd.C (Kd.int .i64) w A0 l0.length l0) (hc0 : l0.length ≤ c0) (h : spec_l1Rising.f k l0 a1 a2 = some r) :
 Calls Tryd.prog 89 #[.slice A0 l0.length c0, .int .i64 a1, .int .i64 a2] w fun e w' => e = .returned (.bool r) ∧ Drawn0 w w' := by
 have HR0 := Aside0.mk hr0
 have HC0 := Aside0.mk hc0
 clear hr0 hc0
 have H := h
 clear h
 unfold spec_l1Rising.f at H
 have H' := Aside0.mk H
 clear H
 go_enter Tryd.func89, Tryd.ntmps89
 go_wp2
 repeat (go_quiet (fail); try go_wp2)
 go_loopg [7] k (fun kq v7 w' => ∃ (x7_1 : Int), v7 = .int .i64 x7_1 ∧ Aside0 (spec_l1Rising.l0 kq l0 a1 a2 x7_1 = some r) ∧ Aside0 (kq ≤ k) ∧ Drawn0 w w')
 case atStart => exact ⟨(0), ZZ0ab324, H', ⟨Nat.le_refl _⟩, ZZ965307⟩
 case round =>
  clear H'
  obtain ⟨x7_1, rfl, HA, HK1, ⟨m1, rfl⟩⟩ := hrel
  cases gk with
  | zero => exact absurd HA.out (by simp [spec_l1Rising.l0])
  | succ k1 =>
   have H := HA.out
   clear HA
   simp only [spec_l1Rising.l0] at H
   by_cases c4 : x7_1 < (l0.length : Int)
   ·rw [if_pos c4] at H
    have c4b0 := decide_eq_true c4
    clear c4
    obtain ⟨c5, H⟩ := ifY H
    have c5b0 := decide_eq_true c5
    clear c5
    obtain ⟨t254, A6, H⟩ := bdY H
    by_cases c7 : t254 = true
    ·subst c7
     have H1 : (if x7_1 > 0 then (if 0 ≤ (wrap64 (x7_1 - 1)) then (if (wrap64 (x7_1 - 1)) < (l0.length : Int) then (if (rd l0 (wrap64 (x7_1 - 1))) ≥ (rd l0 x7_1) then (some false) else (spec_l1Rising.l0 k1 l0 a1 a2 (wrap64 (x7_1 + 1)))) else (none)) else (none)) else (spec_l1Rising.l0 k1 l0 a1 a2 (wrap64 (x7_1 + 1)))) = some r := by rw [if_pos rfl] at H; exact H
     clear H
     have H := H1
     clear H1
     by_cases c8 : x7_1 > 0
     ·rw [if_pos c8] at H
      have c8b0 : decide (0 < x7_1) = true := decide_eq_true c8
      clear c8
      obtain ⟨ji9, hji9⟩ : ∃ j_ : Int, (wrap64 (x7_1 - 1)) = j_ := ⟨_, rfl⟩
      replace H : (if 0 ≤ (ji9) then (if (ji9) < (l0.length : Int) then (if (rd l0 (ji9)) ≥ (rd l0 x7_1) then (some false) else (spec_l1Rising.l0 k1 l0 a1 a2 (wrap64 (x7_1 + 1)))) else (none)) else (none)) = some r := by first | (rw [hji9] at H; exact H) | (simp only [hji9] at H ⊢; exact H)
      (try rw [hji9] at A6)
      have hji9w : (IntKind.i64.wrap (x7_1 - 1)) = ji9 := (i64_w _).trans hji9
      obtain ⟨c10, H⟩ := ifY H
      have c10b0 := decide_eq_true c10
      clear c10
      obtain ⟨c11, H⟩ := ifY H
      have c11b0 := decide_eq_true c11
      clear c11
      by_cases c12 : (rd l0 (ji9)) ≥ (rd l0 x7_1)
      ·rw [if_pos c12] at H
       have c12b0 : decide ((rd l0 x7_1) ≤ (rd l0 (ji9))) = true := decide_eq_true c12
       clear c12
       obtain rfl := Option.some.inj H
       have p253 : 0 ≤ (x7_1 : Int) := of_decide_eq_true ZZ853400
       have q253 : x7_1 < (l0.length : Int) := of_decide_eq_true ZZ853400
       obtain ⟨ad253, e253, hx253_0⟩ := Kd.at_int HR0.out x7_1 p253 q253
       cases e253
       replace p253 := eq_true p253
       replace q253 := eq_true q253
       go_wp2_with (first | (go_at_call 67; (with_reducible refine (spec_l1In.calls (rd l0 x7_1) a1 a2 true _ A6.out).mono ?_); rintro e w' ⟨rfl, ⟨nd, rfl⟩⟩; (try first | exact ⟨rfl, _, World.drewN_drewN _ _ _⟩ | exact ⟨rfl, _, Eq.trans (World.drewN_drewN _ _ _) (congrArg (World.drewN _) (Nat.add_assoc _ _ _))⟩); have p255 : 0 ≤ ((ji9) : Int) := of_decide_eq_true ZZ853400; have q255 : (ji9) < (l0.length : Int) := of_decide_eq_true ZZ853400; obtain ⟨ad255, e255, hx255_0⟩ := Kd.at_int HR0.out (ji9) p255 q255; obtain rfl : ad253 = ad255 := (by injection e255); replace p255 := eq_true p255; replace q255 := eq_true q255; have p256 : 0 ≤ (x7_1 : Int) := of_decide_eq_true ZZ853400; have q256 : x7_1 < (l0.length : Int) := of_decide_eq_true ZZ853400; obtain ⟨ad256, e256, hx256_0⟩ := Kd.at_int HR0.out x7_1 p256 q256; obtain rfl : ad253 = ad256 := (by injection e256); replace p256 := eq_true p256; replace q256 := eq_true q256))
       repeat (go_quiet (first | (go_at_call 67; (with_reducible refine (spec_l1In.calls (rd l0 x7_1) a1 a2 true _ A6.out).mono ?_); rintro e w' ⟨rfl, ⟨nd, rfl⟩⟩; (try first | exact ⟨rfl, _, World.drewN_drewN _ _ _⟩ | exact ⟨rfl, _, Eq.trans (World.drewN_drewN _ _ _) (congrArg (World.drewN _) (Nat.add_assoc _ _ _))⟩); have p255 : 0 ≤ ((ji9) : Int) := of_decide_eq_true ZZ853400; have q255 : (ji9) < (l0.length : Int) := of_decide_eq_true ZZ853400; obtain ⟨ad255, e255, hx255_0⟩ := Kd.at_int HR0.out (ji9) p255 q255; obtain rfl : ad253 = ad255 := (by injection e255); replace p255 := eq_true p255; replace q255 := eq_true q255; have p256 : 0 ≤ (x7_1 : Int) := of_decide_eq_true ZZ853400; have q256 : x7_1 < (l0.length : Int) := of_decide_eq_true ZZ853400; obtain ⟨ad256, e256, hx256_0⟩ := Kd.at_int HR0.out x7_1 p256 q256; obtain rfl : ad253 = ad256 := (by injection e256); replace p256 := eq_true p256; replace q256 := eq_true q256)); try go_wp2_with (first | (go_at_call 67; (with_reducible refine (spec_l1In.calls (rd l0 x7_1) a1 a2 true _ A6.out).mono ?_); rintro e w' ⟨rfl, ⟨nd, rfl⟩⟩; (try first | exact ⟨rfl, _, World.drewN_drewN _ _ _⟩ | exact ⟨rfl, _, Eq.trans (World.drewN_drewN _ _ _) (congrArg (World.drewN _) (Nat.add_assoc _ _ _))⟩); have p255 : 0 ≤ ((ji9) : Int) := of_decide_eq_true ZZ853400; have q255 : (ji9) < (l0.length : Int) := of_decide_eq_true ZZ853400; obtain ⟨ad255, e255, hx255_0⟩ := Kd.at_int HR0.out (ji9) p255 q255; obtain rfl : ad253 = ad255 := (by injection e255); replace p255 := eq_true p255; replace q255 := eq_true q255; have p256 : 0 ≤ (x7_1 : Int) := of_decide_eq_true ZZ853400; have q256 : x7_1 < (l0.length : Int) := of_decide_eq_true ZZ853400; obtain ⟨ad256, e256, hx256_0⟩ := Kd.at_int HR0.out x7_1 p256 q256; obtain rfl : ad253 = ad256 := (by injection e256); replace p256 := eq_true p256; replace q256 := eq_true q256)))
       go_ret
       exact ⟨(by first | rfl | (simp; done) | (simp only [← hji9] <;> (first | rfl | simp)) | (simp [*]; done)), ZZ965307⟩
      rw [if_neg c12] at H
      have c12b0 : decide ((rd l0 x7_1) ≤ (rd l0 (ji9))) = false := decide_eq_false c12
      clear c12
      have H' := Aside0.mk H
      clear H
      have p253 : 0 ≤ (x7_1 : Int) := of_decide_eq_true ZZ853400
      have q253 : x7_1 < (l0.length : Int) := of_decide_eq_true ZZ853400
      obtain ⟨ad253, e253, hx253_0⟩ := Kd.at_int HR0.out x7_1 p253 q253
      cases e253
      replace p253 := eq_true p253
      replace q253 := eq_true q253
      go_wp2_with (first | (go_at_call 67; (with_reducible refine (spec_l1In.calls (rd l0 x7_1) a1 a2 true _ A6.out).mono ?_); rintro e w' ⟨rfl, ⟨nd, rfl⟩⟩; (try first | exact ⟨rfl, _, World.drewN_drewN _ _ _⟩ | exact ⟨rfl, _, Eq.trans (World.drewN_drewN _ _ _) (congrArg (World.drewN _) (Nat.add_assoc _ _ _))⟩); have p255 : 0 ≤ ((ji9) : Int) := of_decide_eq_true ZZ853400; have q255 : (ji9) < (l0.length : Int) := of_decide_eq_true ZZ853400; obtain ⟨ad255, e255, hx255_0⟩ := Kd.at_int HR0.out (ji9) p255 q255; obtain rfl : ad253 = ad255 := (by injection e255); replace p255 := eq_true p255; replace q255 := eq_true q255; have p256 : 0 ≤ (x7_1 : Int) := of_decide_eq_true ZZ853400; have q256 : x7_1 < (l0.length : Int) := of_decide_eq_true ZZ853400; obtain ⟨ad256, e256, hx256_0⟩ := Kd.at_int HR0.out x7_1 p256 q256; obtain rfl : ad253 = ad256 := (by injection e256); replace p256 := eq_true p256; replace q256 := eq_true q256))
      repeat (go_quiet (first | (go_at_call 67; (with_reducible refine (spec_l1In.calls (rd l0 x7_1) a1 a2 true _ A6.out).mono ?_); rintro e w' ⟨rfl, ⟨nd, rfl⟩⟩; (try first | exact ⟨rfl, _, World.drewN_drewN _ _ _⟩ | exact ⟨rfl, _, Eq.trans (World.drewN_drewN _ _ _) (congrArg (World.drewN _) (Nat.add_assoc _ _ _))⟩); have p255 : 0 ≤ ((ji9) : Int) := of_decide_eq_true ZZ853400; have q255 : (ji9) < (l0.length : Int) := of_decide_eq_true ZZ853400; obtain ⟨ad255, e255, hx255_0⟩ := Kd.at_int HR0.out (ji9) p255 q255; obtain rfl : ad253 = ad255 := (by injection e255); replace p255 := eq_true p255; replace q255 := eq_true q255; have p256 : 0 ≤ (x7_1 : Int) := of_decide_eq_true ZZ853400; have q256 : x7_1 < (l0.length : Int) := of_decide_eq_true ZZ853400; obtain ⟨ad256, e256, hx256_0⟩ := Kd.at_int HR0.out x7_1 p256 q256; obtain rfl : ad253 = ad256 := (by injection e256); replace p256 := eq_true p256; replace q256 := eq_true q256)); try go_wp2_with (first | (go_at_call 67; (with_reducible refine (spec_l1In.calls (rd l0 x7_1) a1 a2 true _ A6.out).mono ?_); rintro e w' ⟨rfl, ⟨nd, rfl⟩⟩; (try first | exact ⟨rfl, _, World.drewN_drewN _ _ _⟩ | exact ⟨rfl, _, Eq.trans (World.drewN_drewN _ _ _) (congrArg (World.drewN _) (Nat.add_assoc _ _ _))⟩); have p255 : 0 ≤ ((ji9) : Int) := of_decide_eq_true ZZ853400; have q255 : (ji9) < (l0.length : Int) := of_decide_eq_true ZZ853400; obtain ⟨ad255, e255, hx255_0⟩ := Kd.at_int HR0.out (ji9) p255 q255; obtain rfl : ad253 = ad255 := (by injection e255); replace p255 := eq_true p255; replace q255 := eq_true q255; have p256 : 0 ≤ (x7_1 : Int) := of_decide_eq_true ZZ853400; have q256 : x7_1 < (l0.length : Int) := of_decide_eq_true ZZ853400; obtain ⟨ad256, e256, hx256_0⟩ := Kd.at_int HR0.out x7_1 p256 q256; obtain rfl : ad253 = ad256 := (by injection e256); replace p256 := eq_true p256; replace q256 := eq_true q256)))
      go_roundg k1
      case measure => have := HK1.out; omega
      case rel => exact ⟨(wrap64 (x7_1 + 1)), ZZ0ab324, H', ⟨(by have := HK1.out; omega)⟩, ZZ965307⟩
     rw [if_neg c8] at H
     have c8b0 : decide (0 < x7_1) = false := decide_eq_false c8
     clear c8
     have H' := Aside0.mk H
     clear H
     have p253 : 0 ≤ (x7_1 : Int) := of_decide_eq_true ZZ853400
     have q253 : x7_1 < (l0.length : Int) := of_decide_eq_true ZZ853400
     obtain ⟨ad253, e253, hx253_0⟩ := Kd.at_int HR0.out x7_1 p253 q253
     cases e253
     replace p253 := eq_true p253
     replace q253 := eq_true q253
     go_wp2_with (first | (go_at_call 67; (with_reducible refine (spec_l1In.calls (rd l0 x7_1) a1 a2 true _ A6.out).mono ?_); rintro e w' ⟨rfl, ⟨nd, rfl⟩⟩; (try first | exact ⟨rfl, _, World.drewN_drewN _ _ _⟩ | exact ⟨rfl, _, Eq.trans (World.drewN_drewN _ _ _) (congrArg (World.drewN _) (Nat.add_assoc _ _ _))⟩)))
     repeat (go_quiet (first | (go_at_call 67; (with_reducible refine (spec_l1In.calls (rd l0 x7_1) a1 a2 true _ A6.out).mono ?_); rintro e w' ⟨rfl, ⟨nd, rfl⟩⟩; (try first | exact ⟨rfl, _, World.drewN_drewN _ _ _⟩ | exact ⟨rfl, _, Eq.trans (World.drewN_drewN _ _ _) (congrArg (World.drewN _) (Nat.add_assoc _ _ _))⟩))); try go_wp2_with (first | (go_at_call 67; (with_reducible refine (spec_l1In.calls (rd l0 x7_1) a1 a2 true _ A6.out).mono ?_); rintro e w' ⟨rfl, ⟨nd, rfl⟩⟩; (try first | exact ⟨rfl, _, World.drewN_drewN _ _ _⟩ | exact ⟨rfl, _, Eq.trans (World.drewN_drewN _ _ _) (congrArg (World.drewN _) (Nat.add_assoc _ _ _))⟩))))
     go_roundg k1
     case measure => have := HK1.out; omega
     case rel => exact ⟨(wrap64 (x7_1 + 1)), ZZ0ab324, H', ⟨(by have := HK1.out; omega)⟩, ZZ965307⟩
    replace c7 := Bool.eq_false_iff.mpr c7
    subst c7
    have H1 : (some false) = some r := by rw [if_neg (show ¬ (false = true) by decide)] at H; exact H
    clear H
    have H := H1
    clear H1
    obtain rfl := Option.some.inj H
    have p253 : 0 ≤ (x7_1 : Int) := of_decide_eq_true ZZ853400
    have q253 : x7_1 < (l0.length : Int) := of_decide_eq_true ZZ853400
    obtain ⟨ad253, e253, hx253_0⟩ := Kd.at_int HR0.out x7_1 p253 q253
    cases e253
    replace p253 := eq_true p253
    replace q253 := eq_true q253
    go_wp2_with (first | (go_at_call 67; (with_reducible refine (spec_l1In.calls (rd l0 x7_1) a1 a2 false _ A6.out).mono ?_); rintro e w' ⟨rfl, ⟨nd, rfl⟩⟩; (try first | exact ⟨rfl, _, World.drewN_drewN _ _ _⟩ | exact ⟨rfl, _, Eq.trans (World.drewN_drewN _ _ _) (congrArg (World.drewN _) (Nat.add_assoc _ _ _))⟩)))
    repeat (go_quiet (first | (go_at_call 67; (with_reducible refine (spec_l1In.calls (rd l0 x7_1) a1 a2 false _ A6.out).mono ?_); rintro e w' ⟨rfl, ⟨nd, rfl⟩⟩; (try first | exact ⟨rfl, _, World.drewN_drewN _ _ _⟩ | exact ⟨rfl, _, Eq.trans (World.drewN_drewN _ _ _) (congrArg (World.drewN _) (Nat.add_assoc _ _ _))⟩))); try go_wp2_with (first | (go_at_call 67; (with_reducible refine (spec_l1In.calls (rd l0 x7_1) a1 a2 false _ A6.out).mono ?_); rintro e w' ⟨rfl, ⟨nd, rfl⟩⟩; (try first | exact ⟨rfl, _, World.drewN_drewN _ _ _⟩ | exact ⟨rfl, _, Eq.trans (World.drewN_drewN _ _ _) (congrArg (World.drewN _) (Nat.add_assoc _ _ _))⟩))))
    go_ret
    exact ⟨ZZ0ab324, ZZ965307⟩
   rw [if_neg c4] at H
   have c4b0 := decide_eq_false c4
   clear c4
   obtain rfl := Option.some.inj H
   go_wp2
   repeat (go_quiet (fail); try go_wp2)
   go_ret
   exact ⟨ZZ0ab324, ZZ965307⟩
/-! ### spec_l25Indices: function 68 -/
def spec_l25Indices.f (k : Nat) (l0 : List Int) (a1 : Int) : Option (Bool) := if (l0.length : Int) > 0 then ((spec_l1Rising.f k l0 0 (wrap64 (a1 - 1))).bind fun t257 => (some t257)) else (some false)
theorem spec_l25Indices.mono : ∀ a0 a1 k, LeO (spec_l25Indices.f k a0 a1) (spec_l25Indices.f (k + 1) a0 a1) := by
 intro a0 a1 k
 unfold spec_l25Indices.f
 repeat' first
  | (with_reducible exact spec_l1Rising.mono _ _ _ _)
  | (with_reducible exact LeO.refl _)
  | (with_reducible exact LeO.none _)
  | (with_reducible refine LeO.ite ?_ ?_)
  | (with_reducible refine LeO.bind ?_ (fun _ => ?_))
  | exact spec_l1Rising.mono _ _ _ _
  | exact LeO.none _
  | refine LeO.ite ?_ ?_
  | refine LeO.bind ?_ (fun _ => ?_)
set_option maxHeartbeats 8000000 in
set_option maxRecDepth 100000 in
theorem spec_l25Indices.calls (k : Nat) (A0 : Option Addr) (c0 : Nat) (l0 : List Int) (a1 : Int) (r : Bool) (w : World) (hr0 : Kd.C (Kd.int .i64) w A0 l0.length l0) (hc0 : l0.length ≤ c0) (h : spec_l25Indices.f k l0 a1 = some r) :
 Calls Tryd.prog 68 #[.slice A0 l0.length c0, .int .i64 a1] w fun e w' => e = .returned (.bool r) ∧ Drawn0 w w' := by
 have HR0 := Aside0.mk hr0
 have HC0 := Aside0.mk hc0
 clear hr0 hc0
 have H := h
 clear h
 unfold spec_l25Indices.f at H
 by_cases c3 : (l0.length : Int) > 0
 ·rw [if_pos c3] at H
  have c3b0 : decide (0 < (l0.length : Int)) = true := decide_eq_true c3
  have c3b1 : decide (0 < l0.length) = true := decide_eq_true (by omega)
  clear c3
  obtain ⟨t257, A4, H⟩ := bdY H
  obtain rfl := Option.some.inj H
  go_enter Tryd.func68, Tryd.ntmps68
  go_wp2_with (first | (go_at_call 89; (with_reducible refine (spec_l1Rising.calls k _ _ l0 0 (wrap64 (a1 - 1)) t257 _ ?side1 ?side2 A4.out).mono ?_); (case side1 => exact ZZ427f3f); (case side2 => exact HC0.out); rintro e w' ⟨rfl, ⟨nd, rfl⟩⟩))
  go_ret
  exact ⟨ZZ0ab324, ZZ965307⟩
 rw [if_neg c3] at H
 have c3b0 : decide (0 < (l0.length : Int)) = false := decide_eq_false c3
 have c3b1 : decide (0 < l0.length) = false := decide_eq_false (by omega)
 clear c3
 obtain rfl := Option.some.inj H
 go_enter Tryd.func68, Tryd.ntmps68
 go_wp2
 go_ret
 exact ⟨ZZ0ab324, ZZ965307⟩
/-! ### spec_l1Has: function 79 -/
def spec_l1Has.l0 : Nat → List Int → Int → Int → Option (Bool)
 | 0, _, _, _ => none
 | k + 1, x0, x1, x5 => if x5 < (x0.length : Int) then (if 0 ≤ x5 then (if (rd x0 x5) = x1 then (some true) else (spec_l1Has.l0 k x0 x1 (wrap64 (x5 + 1)))) else (none)) else (some false)
def spec_l1Has.f (k : Nat) (l0 : List Int) (a1 : Int) : Option (Bool) := spec_l1Has.l0 k l0 a1 0
theorem spec_l1Has.mono_l : ∀ k, (∀ y0 y1 y2, LeO (spec_l1Has.l0 k y0 y1 y2) (spec_l1Has.l0 (k + 1) y0 y1 y2))
 | 0 => fun _ _ _ r h => by simp [spec_l1Has.l0] at h
 | k + 1 => by
  have ih0 := spec_l1Has.mono_l k
  ·intro y0 y1 y2
   unfold spec_l1Has.l0
   repeat' first
   | (with_reducible exact ih0 _ _ _)
   | (with_reducible exact LeO.refl _)
   | (with_reducible exact LeO.none _)
   | (with_reducible refine LeO.ite ?_ ?_)
   | (with_reducible refine LeO.bind ?_ (fun _ => ?_))
   | exact ih0 _ _ _
   | exact LeO.none _
   | refine LeO.ite ?_ ?_
   | refine LeO.bind ?_ (fun _ => ?_)
theorem spec_l1Has.mono : ∀ a0 a1 k, LeO (spec_l1Has.f k a0 a1) (spec_l1Has.f (k + 1) a0 a1) := by
 intro a0 a1 k
 have ih0 := spec_l1Has.mono_l k
 unfold spec_l1Has.f
 repeat' first
  | (with_reducible exact ih0 _ _ _)
  | (with_reducible exact LeO.refl _)
  | (with_reducible exact LeO.none _)
  | (with_reducible refine LeO.ite ?_ ?_)
  | (with_reducible refine LeO.bind ?_ (fun _ => ?_))
  | exact ih0 _ _ _
  | exact LeO.none _
  | refine LeO.ite ?_ ?_
  | refine LeO.bind ?_ (fun _ => ?_)
set_option maxHeartbeats 8000000 in
set_option maxRecDepth 100000 in
theorem spec_l1Has.calls (k : Nat) (A0 : Option Addr) (c0 : Nat) (l0 : List Int) (a1 : Int) (r : Bool) (w : World) (hr0 : Kd.C (Kd.int .i64) w A0 l0.length l0) (hc0 : l0.length ≤ c0) (h : spec_l1Has.f k l0 a1 = some r) :
 Calls Tryd.prog 79 #[.slice A0 l0.length c0, .int .i64 a1] w fun e w' => e = .returned (.bool r) ∧ Drawn0 w w' := by
 have HR0 := Aside0.mk hr0
 have HC0 := Aside0.mk hc0
 clear hr0 hc0
 have H := h
 clear h
 unfold spec_l1Has.f at H
 have H' := Aside0.mk H
 clear H
 go_enter Tryd.func79, Tryd.ntmps79
 go_wp2
 go_loopg [5] k (fun kq v5 w' => ∃ (x5_1 : Int), v5 = .int .i64 x5_1 ∧ Aside0 (spec_l1Has.l0 kq l0 a1 x5_1 = some r) ∧ Aside0 (kq ≤ k) ∧ Drawn0 w w')
 case atStart => exact ⟨(0), ZZ0ab324, H', ⟨Nat.le_refl _⟩, ZZ965307⟩
 case round =>
  clear H'
  obtain ⟨x5_1, rfl, HA, HK1, ⟨m1, rfl⟩⟩ := hrel
  cases gk with
  | zero => exact absurd HA.out (by simp [spec_l1Has.l0])
  | succ k1 =>
   have H := HA.out
   clear HA
   simp only [spec_l1Has.l0] at H
   by_cases c3 : x5_1 < (l0.length : Int)
   ·rw [if_pos c3] at H
    have c3b0 := decide_eq_true c3
    clear c3
    obtain ⟨c4, H⟩ := ifY H
    have c4b0 := decide_eq_true c4
    clear c4
    by_cases c5 : (rd l0 x5_1) = a1
    ·rw [if_pos c5] at H
     have c5b0 := beq_iff_eq.mpr c5
     have c5b1 := bne_eq_false_iff_eq.mpr c5
     clear c5
     obtain rfl := Option.some.inj H
     have p258 : 0 ≤ (x5_1 : Int) := of_decide_eq_true ZZ853400
     have q258 : x5_1 < (l0.length : Int) := of_decide_eq_true ZZ853400
     obtain ⟨ad258, e258, hx258_0⟩ := Kd.at_int HR0.out x5_1 p258 q258
     cases e258
     replace p258 := eq_true p258
     replace q258 := eq_true q258
     go_wp2
     go_ret
     exact ⟨ZZ0ab324, ZZ965307⟩
    rw [if_neg c5] at H
    have c5b0 := beq_eq_false_iff_ne.mpr c5
    have c5b1 := bne_iff_ne.mpr c5
    have H' := Aside0.mk H
    clear H
    have p258 : 0 ≤ (x5_1 : Int) := of_decide_eq_true ZZ853400
    have q258 : x5_1 < (l0.length : Int) := of_decide_eq_true ZZ853400
    obtain ⟨ad258, e258, hx258_0⟩ := Kd.at_int HR0.out x5_1 p258 q258
    cases e258
    replace p258 := eq_true p258
    replace q258 := eq_true q258
    go_wp2
    go_roundg k1
    case measure => have := HK1.out; omega
    case rel => exact ⟨(wrap64 (x5_1 + 1)), ZZ0ab324, H', ⟨(by have := HK1.out; omega)⟩, ZZ965307⟩
   rw [if_neg c3] at H
   have c3b0 := decide_eq_false c3
   clear c3
   obtain rfl := Option.some.inj H
   go_wp2
   go_ret
   exact ⟨ZZ0ab324, ZZ965307⟩
end Go.Proofs.YtnfmlglhoboooaaDoor.XFnEvidence

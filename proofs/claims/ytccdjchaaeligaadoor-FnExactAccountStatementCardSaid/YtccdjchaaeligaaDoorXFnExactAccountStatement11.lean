-- Printed by wip/tools/xprint.py, a program of this session, over the kit's print; Lean checks it.
import Derived.Test.YtccdjchaaeligaaDoorXFnExactAccountStatement1
import Derived.Test.YtccdjchaaeligaaDoorXFnExactAccountStatement0
import Derived.Test.YtccdjchaaeligaaDoorXFnExactAccountStatement7
import Derived.Test.YtccdjchaaeligaaDoorXFnExactAccountStatement10
namespace Go.Proofs.YtccdjchaaeligaaDoor.XFnExactAccountStatement
open Go.Proofs.YtccdjchaaeligaaDoor.Short Go.RowKit Go.Proofs.YtccdjchaaeligaaDoorW.PrintWords Go.Proofs.YtccdjchaaeligaaDoorW.PrintLast Go.Proofs.YtccdjchaaeligaaDoorW.PrintMore
attribute [local go_sem] max2_int min2_int max_two min_two max_three min_three max_four min_four   -- for this text's walks alone
set_option linter.unusedVariables false
set_option linter.unusedSimpArgs false
theorem ZZ8c3819 {p : Prop} (h : p := by (with_reducible repeat (first | apply Kd.R_alloc | apply Kd.R_drewN | apply Kd.R_drew)); exact Kd.R_mono (Kd.R_far (p := ⟨gb304, 1, none⟩) (Kd.R_far (p := ⟨gb304, 0, none⟩) (Kd.R_types HO_11.out BK304.out (by decide)) (fun _ hk => hk.2) (.int .i64 ((rd_T70 ((rd_T63 l0_1 x30_1).f2) x38_2).f0))) (fun _ hk => hk.2) (.int .i64 ((rd_T70 ((rd_T63 l0_1 x30_1).f2) x38_2).f1))) (fun _ hk => hk.1)) : p := h
theorem ZZae429a {p : Prop} (h : p := by (with_reducible repeat (first | refine blk_drewN ?_ _ | refine blk_drew ?_ | refine blk_alloc ?_ _)); refine blk_far ?_ NB290_304.out _; (with_reducible repeat (first | refine blk_drewN ?_ _ | refine blk_drew ?_ | refine blk_alloc ?_ _)); refine blk_far ?_ NB290_304.out _; (with_reducible repeat (first | refine blk_drewN ?_ _ | refine blk_drew ?_ | refine blk_alloc ?_ _)); exact BK290.out) : p := h
theorem ZZ7a3077 {p : Prop} (h : p := by (with_reducible repeat (first | refine blk_drewN ?_ _ | refine blk_drew ?_ | refine blk_alloc ?_ _)); refine blk_far ?_ NB302_304.out _; (with_reducible repeat (first | refine blk_drewN ?_ _ | refine blk_drew ?_ | refine blk_alloc ?_ _)); refine blk_far ?_ NB302_304.out _; (with_reducible repeat (first | refine blk_drewN ?_ _ | refine blk_drew ?_ | refine blk_alloc ?_ _)); exact BK302.out) : p := h
-- NOT PRINTED: function 134 (slices_IndexFunc_int_int)
-- NOT PRINTED: function 107 (slices_ContainsFunc_int_int)
/-! ### impl_isAccount_1: function 108 -/
def impl_isAccount_1.f (a0 : Int) : Option (Bool) := (impl_isDay.f a0).bind fun t282 => (some (!t282))
set_option maxHeartbeats 8000000 in
set_option maxRecDepth 100000 in
theorem impl_isAccount_1.calls (a0 : Int) (r : Bool) (w : World) (h : impl_isAccount_1.f a0 = some r) :
 Calls Tryd.prog 108 #[.int .i64 a0] w fun e w' => e = .returned (.bool r) ∧ Drawn0 w w' := by
 have H := h
 clear h
 unfold impl_isAccount_1.f at H
 obtain ⟨t282, A2, H⟩ := bdY H
 obtain rfl := Option.some.inj H
 go_enter Tryd.func108, Tryd.ntmps108
 go_wp2_with (first | ((with_reducible refine gate_callee (f := 59) rfl ?_); refine goesL_ (some 4) rfl rfl Tryd.func59 (by kernel_rfl) rfl #[.int .i64 a0] rfl ZZ19826e ?_; (with_reducible refine (impl_isDay.calls a0 t282 _ A2.out).mono ?_); rintro e w' ⟨rfl, ⟨nd, rfl⟩⟩; refine ⟨_, rfl, ?_⟩))
 go_ret
 exact ⟨ZZ0ab324, ZZ965307⟩
/-! ### slices_IndexFunc_int_int_impl_isAccount_1: function 134 -/
def slices_IndexFunc_int_int_impl_isAccount_1.l0 : Nat → List Int → Int → Int → Option (Int)
 | 0, _, _, _ => none
 | k + 1, x0, x7, x8 => if x8 < x7 then (if 0 ≤ x8 then (if x8 < (x0.length : Int) then ((XFnExactAccountStatement.impl_isAccount_1.f (rd x0 x8)).bind fun t287 => (if t287 = true then (some x8) else (slices_IndexFunc_int_int_impl_isAccount_1.l0 k x0 x7 (wrap64 (x8 + 1))))) else (none)) else (none)) else (some (-1))
def slices_IndexFunc_int_int_impl_isAccount_1.f (k : Nat) (l0 : List Int)  : Option (Int) := slices_IndexFunc_int_int_impl_isAccount_1.l0 k l0 (l0.length : Int) 0
theorem slices_IndexFunc_int_int_impl_isAccount_1.mono_l : ∀ k, (∀ y0 y1 y2, LeO (slices_IndexFunc_int_int_impl_isAccount_1.l0 k y0 y1 y2) (slices_IndexFunc_int_int_impl_isAccount_1.l0 (k + 1) y0 y1 y2))
 | 0 => fun _ _ _ r h => by simp [slices_IndexFunc_int_int_impl_isAccount_1.l0] at h
 | k + 1 => by
  have ih0 := slices_IndexFunc_int_int_impl_isAccount_1.mono_l k
  ·intro y0 y1 y2
   unfold slices_IndexFunc_int_int_impl_isAccount_1.l0
   repeat' first
   | (with_reducible exact ih0 _ _ _)
   | (with_reducible exact LeO.refl _)
   | (with_reducible exact LeO.none _)
   | (with_reducible refine LeO.ite ?_ ?_)
   | (with_reducible refine LeO.bind ?_ (fun _ => ?_))
   | exact ih0 _ _ _
   | exact LeO.none _
   | refine LeO.ite ?_ ?_
   | refine LeO.bind ?_ (fun _ => ?_)
theorem slices_IndexFunc_int_int_impl_isAccount_1.mono : ∀ a0 k, LeO (slices_IndexFunc_int_int_impl_isAccount_1.f k a0) (slices_IndexFunc_int_int_impl_isAccount_1.f (k + 1) a0) := by
 intro a0 k
 have ih0 := slices_IndexFunc_int_int_impl_isAccount_1.mono_l k
 unfold slices_IndexFunc_int_int_impl_isAccount_1.f
 repeat' first
  | (with_reducible exact ih0 _ _ _)
  | (with_reducible exact LeO.refl _)
  | (with_reducible exact LeO.none _)
  | (with_reducible refine LeO.ite ?_ ?_)
  | (with_reducible refine LeO.bind ?_ (fun _ => ?_))
  | exact ih0 _ _ _
  | exact LeO.none _
  | refine LeO.ite ?_ ?_
  | refine LeO.bind ?_ (fun _ => ?_)
set_option maxHeartbeats 8000000 in
set_option maxRecDepth 100000 in
theorem slices_IndexFunc_int_int_impl_isAccount_1.calls (k : Nat) (A0 : Option Addr) (c0 : Nat) (l0 : List Int)  (r : Int) (w : World) (hr0 : Kd.C (Kd.int .i64) w A0 l0.length l0) (hc0 : l0.length ≤ c0) (h : slices_IndexFunc_int_int_impl_isAccount_1.f k l0 = some r) :
 Calls Tryd.prog 134 #[.slice A0 l0.length c0, .func (.func 108) #[] #[]] w fun e w' => e = .returned (.int .i64 r) ∧ Drawn0 w w' := by
 have HR0 := Aside0.mk hr0
 have HC0 := Aside0.mk hc0
 clear hr0 hc0
 have H := h
 clear h
 unfold slices_IndexFunc_int_int_impl_isAccount_1.f at H
 have H' := Aside0.mk H
 clear H
 go_enter Tryd.func134, Tryd.ntmps134
 go_wp2
 go_loopg [8] k (fun kq v8 w' => ∃ (x8_1 : Int), v8 = .int .i64 x8_1 ∧ Aside0 (slices_IndexFunc_int_int_impl_isAccount_1.l0 kq l0 (l0.length : Int) x8_1 = some r) ∧ Aside0 (kq ≤ k) ∧ Drawn0 w w')
 case atStart => exact ⟨(0), ZZ0ab324, H', ⟨Nat.le_refl _⟩, ZZ965307⟩
 case round =>
  clear H'
  obtain ⟨x8_1, rfl, HA, HK1, ⟨m1, rfl⟩⟩ := hrel
  cases gk with
  | zero => exact absurd HA.out (by simp [slices_IndexFunc_int_int_impl_isAccount_1.l0])
  | succ k1 =>
   have H := HA.out
   clear HA
   simp only [slices_IndexFunc_int_int_impl_isAccount_1.l0] at H
   by_cases c3 : x8_1 < (l0.length : Int)
   ·rw [if_pos c3] at H
    have c3b0 := decide_eq_true c3
    clear c3
    obtain ⟨c4, H⟩ := ifY H
    have c4b0 := decide_eq_true c4
    clear c4
    obtain ⟨c5, H⟩ := ifY H
    have c5b0 := decide_eq_true c5
    clear c5
    obtain ⟨t287, A6, H⟩ := bdY H
    by_cases c7 : t287 = true
    ·subst c7
     have H1 : (some x8_1) = some r := by rw [if_pos rfl] at H; exact H
     clear H
     have H := H1
     clear H1
     obtain rfl := Option.some.inj H
     have p286 : 0 ≤ (x8_1 : Int) := of_decide_eq_true ZZ853400
     have q286 : x8_1 < (l0.length : Int) := of_decide_eq_true ZZ853400
     obtain ⟨ad286, e286, hx286_0⟩ := Kd.at_int HR0.out x8_1 p286 q286
     cases e286
     replace p286 := eq_true p286
     replace q286 := eq_true q286
     go_wp2_with (first | (go_at_call 108; (with_reducible refine (XFnExactAccountStatement.impl_isAccount_1.calls (rd l0 x8_1) true _ A6.out).mono ?_); rintro e w' ⟨rfl, ⟨nd, rfl⟩⟩))
     go_ret
     exact ⟨ZZ0ab324, ZZ965307⟩
    replace c7 := Bool.eq_false_iff.mpr c7
    subst c7
    have H1 : (slices_IndexFunc_int_int_impl_isAccount_1.l0 k1 l0 (l0.length : Int) (wrap64 (x8_1 + 1))) = some r := by rw [if_neg (show ¬ (false = true) by decide)] at H; exact H
    clear H
    have H := H1
    clear H1
    have H' := Aside0.mk H
    clear H
    have p286 : 0 ≤ (x8_1 : Int) := of_decide_eq_true ZZ853400
    have q286 : x8_1 < (l0.length : Int) := of_decide_eq_true ZZ853400
    obtain ⟨ad286, e286, hx286_0⟩ := Kd.at_int HR0.out x8_1 p286 q286
    cases e286
    replace p286 := eq_true p286
    replace q286 := eq_true q286
    go_wp2_with (first | (go_at_call 108; (with_reducible refine (XFnExactAccountStatement.impl_isAccount_1.calls (rd l0 x8_1) false _ A6.out).mono ?_); rintro e w' ⟨rfl, ⟨nd, rfl⟩⟩))
    go_roundg k1
    case measure => have := HK1.out; omega
    case rel => exact ⟨(wrap64 (x8_1 + 1)), ZZ0ab324, H', ⟨(by have := HK1.out; omega)⟩, ZZ965307⟩
   rw [if_neg c3] at H
   have c3b0 := decide_eq_false c3
   clear c3
   obtain rfl := Option.some.inj H
   go_wp2
   go_ret
   exact ⟨ZZ0ab324, ZZ965307⟩
/-! ### slices_ContainsFunc_int_int_impl_isAccount_1: function 107 -/
def slices_ContainsFunc_int_int_impl_isAccount_1.f (k : Nat) (l0 : List Int)  : Option (Bool) := (slices_IndexFunc_int_int_impl_isAccount_1.f k l0).bind fun t288 => (some (decide (t288 ≥ 0)))
theorem slices_ContainsFunc_int_int_impl_isAccount_1.mono : ∀ a0 k, LeO (slices_ContainsFunc_int_int_impl_isAccount_1.f k a0) (slices_ContainsFunc_int_int_impl_isAccount_1.f (k + 1) a0) := by
 intro a0 k
 unfold slices_ContainsFunc_int_int_impl_isAccount_1.f
 repeat' first
  | (with_reducible exact slices_IndexFunc_int_int_impl_isAccount_1.mono _ _)
  | (with_reducible exact LeO.refl _)
  | (with_reducible exact LeO.none _)
  | (with_reducible refine LeO.ite ?_ ?_)
  | (with_reducible refine LeO.bind ?_ (fun _ => ?_))
  | exact slices_IndexFunc_int_int_impl_isAccount_1.mono _ _
  | exact LeO.none _
  | refine LeO.ite ?_ ?_
  | refine LeO.bind ?_ (fun _ => ?_)
set_option maxHeartbeats 8000000 in
set_option maxRecDepth 100000 in
theorem slices_ContainsFunc_int_int_impl_isAccount_1.calls (k : Nat) (A0 : Option Addr) (c0 : Nat) (l0 : List Int)  (r : Bool) (w : World) (hr0 : Kd.C (Kd.int .i64) w A0 l0.length l0) (hc0 : l0.length ≤ c0) (h : slices_ContainsFunc_int_int_impl_isAccount_1.f k l0 = some r) :
 Calls Tryd.prog 107 #[.slice A0 l0.length c0, .func (.func 108) #[] #[]] w fun e w' => e = .returned (.bool r) ∧ Below w.heap.size w w' := by
 have HR0 := Aside0.mk hr0
 have HC0 := Aside0.mk hc0
 clear hr0 hc0
 have HB := Aside0.mk (Below.refl w.heap.size w)
 have H := h
 clear h
 unfold slices_ContainsFunc_int_int_impl_isAccount_1.f at H
 obtain ⟨t288, A3, H⟩ := bdY H
 obtain rfl := Option.some.inj H
 go_enter Tryd.func107, Tryd.ntmps107
 go_wp2_with (first | ((with_reducible refine gate_callee (f := 134) rfl ?_); refine goesL_ (some 7) rfl rfl Tryd.func134 (by kernel_rfl) rfl #[.slice A0 l0.length c0, .func (.func 108) #[] #[]] rfl ZZ19826e ?_; (with_reducible refine (slices_IndexFunc_int_int_impl_isAccount_1.calls k _ _ l0  t288 _ ?side1 ?side2 A3.out).mono ?_); (case side1 => exact (by repeat (first | exact HR0.out | (with_reducible refine Kd.C_alloc ?_ _) | (with_reducible refine Kd.C_drewN ?_ _) | (with_reducible refine Kd.C_drew ?_)))); (case side2 => exact HC0.out); rintro e w' ⟨rfl, ⟨nd, rfl⟩⟩; refine ⟨_, rfl, ?_⟩))
 go_ret
 exact ⟨ZZab01d2, ZZ605003⟩
/-! ### impl_isAccount: function 68 -/
def impl_isAccount.f (k : Nat) (l0_0 : List (S48)) (l0_1 : List (S63)) (a1 : Int) (l2 : List Int) : Option (Bool) := (impl_IsValidLedger.f k l0_0 l0_1).bind fun t284 => (if t284 = true then ((impl_within.f a1 0 (wrap64 ((l0_0.length : Int) - 1))).bind fun t285 => (if t285 = true then ((slices_ContainsFunc_int_int_impl_isAccount_1.f k l2).bind fun t289 => (some (!t289))) else (some false))) else (some false))
theorem impl_isAccount.mono : ∀ a0 a1 a2 a3 k, LeO (impl_isAccount.f k a0 a1 a2 a3) (impl_isAccount.f (k + 1) a0 a1 a2 a3) := by
 intro a0 a1 a2 a3 k
 unfold impl_isAccount.f
 repeat' first
  | (with_reducible exact impl_IsValidLedger.mono _ _ _)
  | (with_reducible exact slices_ContainsFunc_int_int_impl_isAccount_1.mono _ _)
  | (with_reducible exact LeO.refl _)
  | (with_reducible exact LeO.none _)
  | (with_reducible refine LeO.ite ?_ ?_)
  | (with_reducible refine LeO.bind ?_ (fun _ => ?_))
  | exact impl_IsValidLedger.mono _ _ _
  | exact slices_ContainsFunc_int_int_impl_isAccount_1.mono _ _
  | exact LeO.none _
  | refine LeO.ite ?_ ?_
  | refine LeO.bind ?_ (fun _ => ?_)
set_option maxHeartbeats 8000000 in
set_option maxRecDepth 100000 in
theorem impl_isAccount.calls (k : Nat) (A0_0 : Option Addr) (c0_0 : Nat) (l0_0 : List (S48)) (A0_1 : Option Addr) (c0_1 : Nat) (l0_1 : List (S63)) (a1 : Int) (A2 : Option Addr) (c2 : Nat) (l2 : List Int) (r : Bool) (w : World) (hr0_0 : Kd.C k48 w A0_0 l0_0.length l0_0) (hc0_0 : l0_0.length ≤ c0_0) (hr0_1 : Kd.C k63 w A0_1 l0_1.length l0_1) (hc0_1 : l0_1.length ≤ c0_1) (hr2 : Kd.C (Kd.int .i64) w A2 l2.length l2) (hc2 : l2.length ≤ c2) (h : impl_isAccount.f k l0_0 l0_1 a1 l2 = some r) :
 Calls Tryd.prog 68 #[.agg #[.slice A0_0 l0_0.length c0_0, .slice A0_1 l0_1.length c0_1], .int .i64 a1, .slice A2 l2.length c2] w fun e w' => e = .returned (.bool r) ∧ Below w.heap.size w w' := by
 have hu31 := Tryd.underlying31
 have HR0_0 := Aside0.mk hr0_0
 have HC0_0 := Aside0.mk hc0_0
 clear hr0_0 hc0_0
 have HR0_1 := Aside0.mk hr0_1
 have HC0_1 := Aside0.mk hc0_1
 clear hr0_1 hc0_1
 have HR2 := Aside0.mk hr2
 have HC2 := Aside0.mk hc2
 clear hr2 hc2
 have HB := Aside0.mk (Below.refl w.heap.size w)
 have H := h
 clear h
 unfold impl_isAccount.f at H
 obtain ⟨t284, A4, H⟩ := bdY H
 by_cases c5 : t284 = true
 ·subst c5
  have H1 : ((impl_within.f a1 0 (wrap64 ((l0_0.length : Int) - 1))).bind fun t285 => (if t285 = true then ((slices_ContainsFunc_int_int_impl_isAccount_1.f k l2).bind fun t289 => (some (!t289))) else (some false))) = some r := by rw [if_pos rfl] at H; exact H
  clear H
  have H := H1
  clear H1
  obtain ⟨t285, A6, H⟩ := bdY H
  by_cases c7 : t285 = true
  ·subst c7
   have H1 : ((slices_ContainsFunc_int_int_impl_isAccount_1.f k l2).bind fun t289 => (some (!t289))) = some r := by rw [if_pos rfl] at H; exact H
   clear H
   have H := H1
   clear H1
   obtain ⟨t289, A8, H⟩ := bdY H
   obtain rfl := Option.some.inj H
   go_enter Tryd.func68, Tryd.ntmps68
   go_wp2_with (first | ((with_reducible refine gate_dst (N := 3) rfl ?_); (try (refine gate_guard (by rfl) ?_; dsimp only)); refine box_event ?hg (N := 3) ?hd (cs := #[.slice A0_0 l0_0.length c0_0, .slice A0_1 l0_1.length c0_1]) (t := 31) ?hr ?_; (case hd => rfl); (case hg => rfl); (case hr => first | (go_simp; done) | (go_simp; rfl)); intro gb283 hg w9 hbox hb; have BK283 := Aside0.mk (hbox); have GW283 := Aside0.mk ((by rw [hg]; exact (below_size ZZ605003) : w.heap.size ≤ gb283)); have GE283 := Aside0.mk ((by rw [hg]; exact (below_size ZZ605003) : w.heap.size ≤ gb283)); replace HB := Aside0.mk (below_step ZZ605003 hb); clear hb hbox hg; have hcz10_0 : w9.cell? ⟨gb283, 0, none⟩ = some (.slice A0_0 l0_0.length c0_0) := (blk_cell BK283.out 0).trans rfl; have hcz10_1 : w9.cell? ⟨gb283, 1, none⟩ = some (.slice A0_1 l0_1.length c0_1) := (blk_cell BK283.out 1).trans rfl; have hfz10_0 := blk_frozen BK283.out 0; have hfz10_1 := blk_frozen BK283.out 1) | ((with_reducible refine gate_callee (f := 17) rfl ?_); refine goesL_ (some 8) rfl rfl Tryd.func17 (by kernel_rfl) rfl #[.agg #[.slice A0_0 l0_0.length c0_0, .slice A0_1 l0_1.length c0_1]] rfl ZZ19826e ?_; (with_reducible refine (impl_IsValidLedger.calls k _ _ l0_0 _ _ l0_1 true _ ?side1 ?side2 ?side3 ?side4 A4.out).mono ?_); (case side1 => exact ZZ5b25f1); (case side2 => exact HC0_0.out); (case side3 => exact ZZ8ff6b3); (case side4 => exact HC0_1.out); rintro e w11 ⟨rfl, hb⟩; refine ⟨_, rfl, ?_⟩; replace BK283 := Aside0.mk (blk_below (zB BK283) hb); replace HB := Aside0.mk (below_step ZZ295621 hb); (try clear hb); (try clear hb2); (try clear hk); (try clear hi); have hcz12_0 : w11.cell? ⟨gb283, 0, none⟩ = some (.slice A0_0 l0_0.length c0_0) := (blk_cell BK283.out 0).trans rfl; have hcz12_1 : w11.cell? ⟨gb283, 1, none⟩ = some (.slice A0_1 l0_1.length c0_1) := (blk_cell BK283.out 1).trans rfl; have hfz12_0 := blk_frozen BK283.out 0; have hfz12_1 := blk_frozen BK283.out 1) | (go_at_call 56; (with_reducible refine (impl_within.calls a1 0 (wrap64 ((l0_0.length : Int) - 1)) true _ A6.out).mono ?_); rintro e w' ⟨rfl, ⟨nd, rfl⟩⟩) | (go_at_call 107; (with_reducible refine (slices_ContainsFunc_int_int_impl_isAccount_1.calls k _ _ l2  t289 _ ?side1 ?side2 A8.out).mono ?_); (case side1 => repeat (first | exact (Kd.C_below HR2.out ZZ295621) | (with_reducible refine Kd.C_alloc ?_ _) | (with_reducible refine Kd.C_drewN ?_ _) | (with_reducible refine Kd.C_drew ?_))); (case side2 => exact HC2.out); rintro e w13 ⟨rfl, hb⟩; replace BK283 := Aside0.mk (blk_below (zB BK283) hb); replace HB := Aside0.mk (below_step ZZ295621 hb); (try clear hb); (try clear hb2); (try clear hk); (try clear hi)))
   go_ret
   exact ⟨ZZab01d2, ZZ295621⟩
  replace c7 := Bool.eq_false_iff.mpr c7
  subst c7
  have H1 : (some false) = some r := by rw [if_neg (show ¬ (false = true) by decide)] at H; exact H
  clear H
  have H := H1
  clear H1
  obtain rfl := Option.some.inj H
  go_enter Tryd.func68, Tryd.ntmps68
  go_wp2_with (first | ((with_reducible refine gate_dst (N := 3) rfl ?_); (try (refine gate_guard (by rfl) ?_; dsimp only)); refine box_event ?hg (N := 3) ?hd (cs := #[.slice A0_0 l0_0.length c0_0, .slice A0_1 l0_1.length c0_1]) (t := 31) ?hr ?_; (case hd => rfl); (case hg => rfl); (case hr => first | (go_simp; done) | (go_simp; rfl)); intro gb283 hg w14 hbox hb; have BK283 := Aside0.mk (hbox); have GW283 := Aside0.mk ((by rw [hg]; exact (below_size ZZ605003) : w.heap.size ≤ gb283)); have GE283 := Aside0.mk ((by rw [hg]; exact (below_size ZZ605003) : w.heap.size ≤ gb283)); replace HB := Aside0.mk (below_step ZZ605003 hb); clear hb hbox hg; have hcz15_0 : w14.cell? ⟨gb283, 0, none⟩ = some (.slice A0_0 l0_0.length c0_0) := (blk_cell BK283.out 0).trans rfl; have hcz15_1 : w14.cell? ⟨gb283, 1, none⟩ = some (.slice A0_1 l0_1.length c0_1) := (blk_cell BK283.out 1).trans rfl; have hfz15_0 := blk_frozen BK283.out 0; have hfz15_1 := blk_frozen BK283.out 1) | ((with_reducible refine gate_callee (f := 17) rfl ?_); refine goesL_ (some 8) rfl rfl Tryd.func17 (by kernel_rfl) rfl #[.agg #[.slice A0_0 l0_0.length c0_0, .slice A0_1 l0_1.length c0_1]] rfl ZZ19826e ?_; (with_reducible refine (impl_IsValidLedger.calls k _ _ l0_0 _ _ l0_1 true _ ?side1 ?side2 ?side3 ?side4 A4.out).mono ?_); (case side1 => exact ZZ5b25f1); (case side2 => exact HC0_0.out); (case side3 => exact ZZ8ff6b3); (case side4 => exact HC0_1.out); rintro e w16 ⟨rfl, hb⟩; refine ⟨_, rfl, ?_⟩; replace BK283 := Aside0.mk (blk_below (zB BK283) hb); replace HB := Aside0.mk (below_step ZZ295621 hb); (try clear hb); (try clear hb2); (try clear hk); (try clear hi); have hcz17_0 : w16.cell? ⟨gb283, 0, none⟩ = some (.slice A0_0 l0_0.length c0_0) := (blk_cell BK283.out 0).trans rfl; have hcz17_1 : w16.cell? ⟨gb283, 1, none⟩ = some (.slice A0_1 l0_1.length c0_1) := (blk_cell BK283.out 1).trans rfl; have hfz17_0 := blk_frozen BK283.out 0; have hfz17_1 := blk_frozen BK283.out 1) | (go_at_call 56; (with_reducible refine (impl_within.calls a1 0 (wrap64 ((l0_0.length : Int) - 1)) false _ A6.out).mono ?_); rintro e w' ⟨rfl, ⟨nd, rfl⟩⟩))
  go_ret
  exact ⟨ZZab01d2, ZZ295621⟩
 replace c5 := Bool.eq_false_iff.mpr c5
 subst c5
 have H1 : (some false) = some r := by rw [if_neg (show ¬ (false = true) by decide)] at H; exact H
 clear H
 have H := H1
 clear H1
 obtain rfl := Option.some.inj H
 go_enter Tryd.func68, Tryd.ntmps68
 go_wp2_with (first | ((with_reducible refine gate_dst (N := 3) rfl ?_); (try (refine gate_guard (by rfl) ?_; dsimp only)); refine box_event ?hg (N := 3) ?hd (cs := #[.slice A0_0 l0_0.length c0_0, .slice A0_1 l0_1.length c0_1]) (t := 31) ?hr ?_; (case hd => rfl); (case hg => rfl); (case hr => first | (go_simp; done) | (go_simp; rfl)); intro gb283 hg w18 hbox hb; have BK283 := Aside0.mk (hbox); have GW283 := Aside0.mk ((by rw [hg]; exact (below_size ZZ605003) : w.heap.size ≤ gb283)); have GE283 := Aside0.mk ((by rw [hg]; exact (below_size ZZ605003) : w.heap.size ≤ gb283)); replace HB := Aside0.mk (below_step ZZ605003 hb); clear hb hbox hg; have hcz19_0 : w18.cell? ⟨gb283, 0, none⟩ = some (.slice A0_0 l0_0.length c0_0) := (blk_cell BK283.out 0).trans rfl; have hcz19_1 : w18.cell? ⟨gb283, 1, none⟩ = some (.slice A0_1 l0_1.length c0_1) := (blk_cell BK283.out 1).trans rfl; have hfz19_0 := blk_frozen BK283.out 0; have hfz19_1 := blk_frozen BK283.out 1) | ((with_reducible refine gate_callee (f := 17) rfl ?_); refine goesL_ (some 8) rfl rfl Tryd.func17 (by kernel_rfl) rfl #[.agg #[.slice A0_0 l0_0.length c0_0, .slice A0_1 l0_1.length c0_1]] rfl ZZ19826e ?_; (with_reducible refine (impl_IsValidLedger.calls k _ _ l0_0 _ _ l0_1 false _ ?side1 ?side2 ?side3 ?side4 A4.out).mono ?_); (case side1 => exact ZZ5b25f1); (case side2 => exact HC0_0.out); (case side3 => exact ZZ8ff6b3); (case side4 => exact HC0_1.out); rintro e w20 ⟨rfl, hb⟩; refine ⟨_, rfl, ?_⟩; replace BK283 := Aside0.mk (blk_below (zB BK283) hb); replace HB := Aside0.mk (below_step ZZ295621 hb); (try clear hb); (try clear hb2); (try clear hk); (try clear hi)))
 go_ret
 exact ⟨ZZab01d2, ZZ295621⟩
/-! ### impl_AccountStatement: function 29 -/
mutual
def impl_AccountStatement.l0 : Nat → Int → Int → Int → List Int → List Int → Int → List (S63) → Int → Int → Option (List Int × List Int × Bool)
 | 0, _, _, _, _, _, _, _, _, _ => none
 | k + 1, x1, x2, x3, x11, x12, x13, x28, x29, x30 => if x30 < x29 then (if 0 ≤ x30 then (if x30 < (x28.length : Int) then (impl_AccountStatement.l1 k x1 x2 x3 x11 x12 x13 x30 x28 x29 x30 ((rd_T63 x28 x30).f2) (((rd_T63 x28 x30).f2).length : Int) 0 ((rd_T63 x28 x30).f0) ((rd_T63 x28 x30).f1) ((rd_T63 x28 x30).f2)) else (none)) else (none)) else (some (x11, x12, true))
def impl_AccountStatement.l1 : Nat → Int → Int → Int → List Int → List Int → Int → Int → List (S63) → Int → Int → List (S70) → Int → Int → Int → ByteArray → List (S70) → Option (List Int × List Int × Bool)
 | 0, _, _, _, _, _, _, _, _, _, _, _, _, _, _, _, _ => none
 | k + 1, x1, x2, x3, x11, x12, x13, x14, x28, x29, x30, x36, x37, x38, x303000, x303001, x303002 => if x38 < x37 then (if 0 ≤ x38 then (if x38 < (x36.length : Int) then (if ((rd_T70 x36 x38).f0) = x1 then ((impl_within.f x303000 x2 x3).bind fun t305 => (if t305 = true then (if x11.length < 17592186044416 then (if x12.length < 17592186044416 then (impl_AccountStatement.l1 k x1 x2 x3 (x11 ++ [x14]) (x12 ++ [wrap64 (x13 + ((rd_T70 x36 x38).f1))]) (wrap64 (x13 + ((rd_T70 x36 x38).f1))) x14 x28 x29 x30 x36 x37 (wrap64 (x38 + 1)) x303000 x303001 x303002) else (none)) else (none)) else (impl_AccountStatement.l1 k x1 x2 x3 x11 x12 (wrap64 (x13 + ((rd_T70 x36 x38).f1))) x14 x28 x29 x30 x36 x37 (wrap64 (x38 + 1)) x303000 x303001 x303002))) else (impl_AccountStatement.l1 k x1 x2 x3 x11 x12 x13 x14 x28 x29 x30 x36 x37 (wrap64 (x38 + 1)) x303000 x303001 x303002)) else (none)) else (none)) else (impl_AccountStatement.l0 k x1 x2 x3 x11 x12 x13 x28 x29 (wrap64 (x30 + 1)))
end
def impl_AccountStatement.f (k : Nat) (l0_0 : List (S48)) (l0_1 : List (S63)) (a1 : Int) (a2 : Int) (a3 : Int) : Option (List Int × List Int × Bool) := (impl_isAccount.f k l0_0 l0_1 a1 (([a2, a3] : List Int))).bind fun t294 => (if t294 = true then (impl_AccountStatement.l0 k a1 a2 a3 (([] : List Int)) (([] : List Int)) 0 l0_1 (l0_1.length : Int) 0) else (some (([] : List Int), ([] : List Int), false)))
theorem impl_AccountStatement.mono_l : ∀ k, (∀ y0 y1 y2 y3 y4 y5 y6 y7 y8, LeO (impl_AccountStatement.l0 k y0 y1 y2 y3 y4 y5 y6 y7 y8) (impl_AccountStatement.l0 (k + 1) y0 y1 y2 y3 y4 y5 y6 y7 y8)) ∧ (∀ y0 y1 y2 y3 y4 y5 y6 y7 y8 y9 y10 y11 y12 y13 y14 y15, LeO (impl_AccountStatement.l1 k y0 y1 y2 y3 y4 y5 y6 y7 y8 y9 y10 y11 y12 y13 y14 y15) (impl_AccountStatement.l1 (k + 1) y0 y1 y2 y3 y4 y5 y6 y7 y8 y9 y10 y11 y12 y13 y14 y15))
 | 0 => ⟨fun _ _ _ _ _ _ _ _ _ r h => by simp [impl_AccountStatement.l0] at h, fun _ _ _ _ _ _ _ _ _ _ _ _ _ _ _ _ r h => by simp [impl_AccountStatement.l1] at h⟩
 | k + 1 => by
  obtain ⟨ih0, ih1⟩ := impl_AccountStatement.mono_l k
  refine ⟨?_, ?_⟩
  all_goals intros
  all_goals (first | unfold impl_AccountStatement.l0 | unfold impl_AccountStatement.l1)
  all_goals
   repeat' first
   | (with_reducible exact ih0 _ _ _ _ _ _ _ _ _)
   | (with_reducible exact ih1 _ _ _ _ _ _ _ _ _ _ _ _ _ _ _ _)
   | (with_reducible exact impl_isAccount.mono _ _ _ _ _)
   | (with_reducible exact LeO.refl _)
   | (with_reducible exact LeO.none _)
   | (with_reducible refine LeO.ite ?_ ?_)
   | (with_reducible refine LeO.bind ?_ (fun _ => ?_))
   | exact ih0 _ _ _ _ _ _ _ _ _
   | exact ih1 _ _ _ _ _ _ _ _ _ _ _ _ _ _ _ _
   | exact impl_isAccount.mono _ _ _ _ _
   | exact LeO.none _
   | refine LeO.ite ?_ ?_
   | refine LeO.bind ?_ (fun _ => ?_)
theorem impl_AccountStatement.mono : ∀ a0 a1 a2 a3 a4 k, LeO (impl_AccountStatement.f k a0 a1 a2 a3 a4) (impl_AccountStatement.f (k + 1) a0 a1 a2 a3 a4) := by
 intro a0 a1 a2 a3 a4 k
 obtain ⟨ih0, ih1⟩ := impl_AccountStatement.mono_l k
 unfold impl_AccountStatement.f
 repeat' first
  | (with_reducible exact ih0 _ _ _ _ _ _ _ _ _)
  | (with_reducible exact ih1 _ _ _ _ _ _ _ _ _ _ _ _ _ _ _ _)
  | (with_reducible exact impl_isAccount.mono _ _ _ _ _)
  | (with_reducible exact LeO.refl _)
  | (with_reducible exact LeO.none _)
  | (with_reducible refine LeO.ite ?_ ?_)
  | (with_reducible refine LeO.bind ?_ (fun _ => ?_))
  | exact ih0 _ _ _ _ _ _ _ _ _
  | exact ih1 _ _ _ _ _ _ _ _ _ _ _ _ _ _ _ _
  | exact impl_isAccount.mono _ _ _ _ _
  | exact LeO.none _
  | refine LeO.ite ?_ ?_
  | refine LeO.bind ?_ (fun _ => ?_)
set_option maxHeartbeats 8000000 in
set_option maxRecDepth 100000 in
theorem impl_AccountStatement.calls (k : Nat) (A0_0 : Option Addr) (c0_0 : Nat) (l0_0 : List (S48)) (A0_1 : Option Addr) (c0_1 : Nat) (l0_1 : List (S63)) (a1 : Int) (a2 : Int) (a3 : Int) (r1 : List Int) (r2 : List Int) (r3 : Bool) (w : World) (hr0_0 : Kd.C k48 w A0_0 l0_0.length l0_0) (hc0_0 : l0_0.length ≤ c0_0) (hr0_1 : Kd.C k63 w A0_1 l0_1.length l0_1) (hc0_1 : l0_1.length ≤ c0_1) (h : impl_AccountStatement.f k l0_0 l0_1 a1 a2 a3 = some (r1, r2, r3)) :
 Calls Tryd.prog 29 #[.agg #[.slice A0_0 l0_0.length c0_0, .slice A0_1 l0_1.length c0_1], .int .i64 a1, .int .i64 a2, .int .i64 a3] w fun e w' => ∃ v0_ v1_ : Value, e = .returned (.tuple #[v0_, v1_, .bool r3]) ∧ Kd.R (Kd.int .i64) 3 w' w.heap.size (fun k_ => some k_ ≠ (v1_ : Value).ownBlock) v0_ r1 ∧ Kd.R (Kd.int .i64) 3 w' w.heap.size (fun k_ => some k_ ≠ (v0_ : Value).ownBlock) v1_ r2 ∧ Below w.heap.size w w' := by
 have hu31 := Tryd.underlying31
 have hu63 := Tryd.underlying63
 have hu70 := Tryd.underlying70
 have HR0_0 := Aside0.mk hr0_0
 have HC0_0 := Aside0.mk hc0_0
 clear hr0_0 hc0_0
 have HR0_1 := Aside0.mk hr0_1
 have HC0_1 := Aside0.mk hc0_1
 clear hr0_1 hc0_1
 have HB := Aside0.mk (Below.refl w.heap.size w)
 have H := h
 clear h
 unfold impl_AccountStatement.f at H
 obtain ⟨y291, hy291⟩ : ∃ y_ : List Int, y_ = (([a2, a3] : List Int)) := ⟨_, rfl⟩
 replace H : ((impl_isAccount.f k l0_0 l0_1 a1 y291).bind fun t294 => (if t294 = true then (impl_AccountStatement.l0 k a1 a2 a3 (([] : List Int)) (([] : List Int)) 0 l0_1 (l0_1.length : Int) 0) else (some (([] : List Int), ([] : List Int), false)))) = some (r1, r2, r3) := by first | (rw [hy291]; with_reducible exact H) | (have H2_ := (Option.bind_some _ _).symm.trans H; rw [hy291]; with_reducible exact H2_) | (have H2_ := (Option.bind_some _ _).symm.trans H; with_reducible exact H2_) | with_reducible exact H | (rw [hy291]; exact H) | exact H
 have Ny291 := Aside0.mk hy291
 clear hy291
 obtain ⟨t294, A5, H⟩ := bdY H
 by_cases c6 : t294 = true
 ·subst c6
  have H1 : (impl_AccountStatement.l0 k a1 a2 a3 (([] : List Int)) (([] : List Int)) 0 l0_1 (l0_1.length : Int) 0) = some (r1, r2, r3) := by rw [if_pos rfl] at H; exact H
  clear H
  have H := H1
  clear H1
  obtain ⟨y295, hy295⟩ : ∃ y_ : List Int, y_ = (([] : List Int)) := ⟨_, rfl⟩
  replace H : (impl_AccountStatement.l0 k a1 a2 a3 y295 (([] : List Int)) 0 l0_1 (l0_1.length : Int) 0) = some (r1, r2, r3) := by first | (rw [hy295]; with_reducible exact H) | (have H2_ := (Option.bind_some _ _).symm.trans H; rw [hy295]; with_reducible exact H2_) | (have H2_ := (Option.bind_some _ _).symm.trans H; with_reducible exact H2_) | with_reducible exact H | (rw [hy295]; exact H) | exact H
  have Ny295 := Aside0.mk hy295
  clear hy295
  obtain ⟨y298, hy298⟩ : ∃ y_ : List Int, y_ = (([] : List Int)) := ⟨_, rfl⟩
  replace H : (impl_AccountStatement.l0 k a1 a2 a3 y295 y298 0 l0_1 (l0_1.length : Int) 0) = some (r1, r2, r3) := by first | (rw [hy298]; with_reducible exact H) | (have H2_ := (Option.bind_some _ _).symm.trans H; rw [hy298]; with_reducible exact H2_) | (have H2_ := (Option.bind_some _ _).symm.trans H; with_reducible exact H2_) | with_reducible exact H | (rw [hy298]; exact H) | exact H
  have Ny298 := Aside0.mk hy298
  clear hy298
  have H' := Aside0.mk H
  clear H
  go_enter Tryd.func29, Tryd.ntmps29
  go_wp2_with (first | ((with_reducible refine gate_dst (N := 4) rfl ?_); refine box_event ?hg (N := 4) ?hd (cs := #[.slice A0_0 l0_0.length c0_0, .slice A0_1 l0_1.length c0_1]) (t := 31) ?hr ?_; (case hd => rfl); (case hg => rfl); (case hr => first | (go_simp; done) | (go_simp; rfl)); intro gb290 hg w7 hbox hb; have BK290 := Aside0.mk (hbox); have GW290 := Aside0.mk ((by rw [hg]; exact (below_size ZZ605003) : w.heap.size ≤ gb290)); have GE290 := Aside0.mk ((by rw [hg]; exact (below_size ZZ605003) : w.heap.size ≤ gb290)); replace HB := Aside0.mk (below_step ZZ605003 hb); clear hb hbox hg; have hcz8_0 : w7.cell? ⟨gb290, 0, none⟩ = some (.slice A0_0 l0_0.length c0_0) := (blk_cell BK290.out 0).trans rfl; have hcz8_1 : w7.cell? ⟨gb290, 1, none⟩ = some (.slice A0_1 l0_1.length c0_1) := (blk_cell BK290.out 1).trans rfl; have hfz8_0 := blk_frozen BK290.out 0; have hfz8_1 := blk_frozen BK290.out 1) | ((with_reducible refine gate_dst (N := 22) rfl ?_); refine Kd.R_lit (Kd.int .i64) _ 3 ?hg (N := 22) ?hd (xs := ([a2, a3] : List Int)) (inner := [.int .i64 a2, .int .i64 a3]) (ok := fun _ => True) (okp := fun _ => True) ?hr ?hp (fun _ hk => hk) trivial (Below.refl _ _) (Nat.le_refl _) (by simp) ?_; (case hd => rfl); (case hg => rfl); (case hr => first | (go_simp; done) | (go_simp; rfl)); (case hp => exact (Reps.one (show Kd.M (Kd.int .i64) _ _ _ a2 [.int .i64 a2] from rfl) (Reps.one (show Kd.M (Kd.int .i64) _ _ _ a3 [.int .i64 a3] from rfl) (Reps.none _ _)))); intro v292 w9 ho10 hb hg_ hnew_; clear hg_ hnew_; (first | rw [← Ny291.out] at ho10 | (simp only [Int.reduceToNat] at ho10; rw [← Ny291.out] at ho10)); have HO293 := Aside0.mk (Kd.R_lower ho10 (below_size ZZ295621)); replace BK290 := Aside0.mk (blk_below (zB BK290) hb); replace HB := Aside0.mk (below_step ZZ295621 hb); clear hb ho10; obtain ⟨Ao11, co11, eo11⟩ := Kd.R_slice HO293.out; subst eo11) | ((with_reducible refine gate_callee (f := 68) rfl ?_); refine goesL_ (some 23) rfl rfl Tryd.func68 (by kernel_rfl) rfl #[.agg #[.slice A0_0 l0_0.length c0_0, .slice A0_1 l0_1.length c0_1], .int .i64 a1, .slice Ao11 y291.length co11] rfl ZZ19826e ?_; (with_reducible refine (impl_isAccount.calls k _ _ l0_0 _ _ l0_1 a1 _ _ y291 true _ ?side1 ?side2 ?side3 ?side4 ?side5 ?side6 A5.out).mono ?_); (case side1 => exact ZZ5b25f1); (case side2 => exact HC0_0.out); (case side3 => exact ZZ8ff6b3); (case side4 => exact HC0_1.out); (case side5 => repeat (first | exact (Kd.R_reads' HO293.out).2.2 | (with_reducible refine Kd.C_alloc ?_ _) | (with_reducible refine Kd.C_drewN ?_ _) | (with_reducible refine Kd.C_drew ?_))); (case side6 => exact (Kd.R_reads' HO293.out).2.1); rintro e w12 ⟨rfl, hb⟩; refine ⟨_, rfl, ?_⟩; replace HO293 := Aside0.mk (Kd.R_below (zR HO293) hb); replace BK290 := Aside0.mk (blk_below (zB BK290) hb); replace HB := Aside0.mk (below_step ZZ295621 hb); (try clear hb); (try clear hb2); (try clear hk); (try clear hi)) | ((with_reducible refine gate_dst (N := 25) rfl ?_); refine Kd.R_lit (Kd.int .i64) _ 3 ?hg (N := 25) ?hd (xs := ([] : List Int)) (inner := []) (ok := fun _ => True) (okp := fun _ => True) ?hr ?hp (fun _ hk => hk) trivial (Below.refl _ _) (Nat.le_refl _) (by simp) ?_; (case hd => rfl); (case hg => rfl); (case hr => first | (go_simp; done) | (go_simp; rfl)); (case hp => exact (Reps.none _ _)); intro v296 w13 ho14 hb hg_ hnew_; clear hg_ hnew_; (first | rw [← Ny295.out] at ho14 | (simp only [Int.reduceToNat] at ho14; rw [← Ny295.out] at ho14)); have HO297 := Aside0.mk (Kd.R_lower (Kd.R_new' ho14 (Kd.R_lt (zR HO293))) (below_size ZZ295621)); replace HO293 := Aside0.mk (Kd.R_elder' (zR HO293) (Kd.R_base ho14) hb); replace BK290 := Aside0.mk (blk_below (zB BK290) hb); replace HB := Aside0.mk (below_step ZZ295621 hb); clear hb ho14) | ((with_reducible refine gate_dst (N := 26) rfl ?_); refine Kd.R_lit (Kd.int .i64) _ 3 ?hg (N := 26) ?hd (xs := ([] : List Int)) (inner := []) (ok := fun _ => True) (okp := fun _ => True) ?hr ?hp (fun _ hk => hk) trivial (Below.refl _ _) (Nat.le_refl _) (by simp) ?_; (case hd => rfl); (case hg => rfl); (case hr => first | (go_simp; done) | (go_simp; rfl)); (case hp => exact (Reps.none _ _)); intro v299 w15 ho16 hb hg_ hnew_; clear hg_ hnew_; (first | rw [← Ny298.out] at ho16 | (simp only [Int.reduceToNat] at ho16; rw [← Ny298.out] at ho16)); have HO300 := Aside0.mk (Kd.R_lower (Kd.R_new' (Kd.R_new' ho16 (Kd.R_lt (zR HO293))) (Kd.R_lt (zR HO297))) (below_size ZZ295621)); replace HO293 := Aside0.mk (Kd.R_elder' (zR HO293) (Kd.R_base ho16) hb); replace HO297 := Aside0.mk (Kd.R_elder' (zR HO297) (Kd.R_base ho16) hb); replace BK290 := Aside0.mk (blk_below (zB BK290) hb); replace HB := Aside0.mk (below_step ZZ295621 hb); clear hb ho16; have hcz17_0 : w15.cell? ⟨gb290, 0, none⟩ = some (.slice A0_0 l0_0.length c0_0) := (blk_cell BK290.out 0).trans rfl; have hcz17_1 : w15.cell? ⟨gb290, 1, none⟩ = some (.slice A0_1 l0_1.length c0_1) := (blk_cell BK290.out 1).trans rfl; have hfz17_0 := blk_frozen BK290.out 0; have hfz17_1 := blk_frozen BK290.out 1))
  go_loopg [11, 12, 13, 30] k (fun kq v11 v12 v13 v30 w' => ∃ (x11_1 : List Int) (x12_1 : List Int) (x13_1 : Int) (x30_1 : Int), v13 = .int .i64 x13_1 ∧ v30 = .int .i64 x30_1 ∧ Aside0 (impl_AccountStatement.l0 kq a1 a2 a3 x11_1 x12_1 x13_1 l0_1 (l0_1.length : Int) x30_1 = some (r1, r2, r3)) ∧ Aside0 (kq ≤ k) ∧ Aside0 (Kd.R (Kd.int .i64) 3 w' w.heap.size (fun k_ => some k_ ≠ (v12 : Value).ownBlock) v11 x11_1) ∧ Aside0 (Kd.R (Kd.int .i64) 3 w' w.heap.size (fun k_ => some k_ ≠ (v11 : Value).ownBlock) v12 x12_1) ∧ Aside0 (w'.heap[gb290]? = some (.cells #[(.slice A0_0 l0_0.length c0_0), (.slice A0_1 l0_1.length c0_1)] 31 (0, 0))) ∧ Aside0 (Below w.heap.size w w'))
  case atStart => exact ⟨(y295), (y298), (0), (0), ZZ0ab324, ZZ0ab324, H', ⟨Nat.le_refl _⟩, ⟨(by (with_reducible repeat (first | apply Kd.R_alloc | apply Kd.R_drewN | apply Kd.R_drew)); exact Kd.R_mono HO297.out (fun _ hk => hk.2))⟩, ⟨(by (with_reducible repeat (first | apply Kd.R_alloc | apply Kd.R_drewN | apply Kd.R_drew)); exact Kd.R_mono HO300.out (fun _ hk => hk.2))⟩, ⟨(zB BK290)⟩, ⟨ZZ295621⟩⟩
  case round =>
   clear H'
   try clear c6
   try clear hcz17_0
   try clear hcz17_1
   try clear hcz8_0
   try clear hcz8_1
   try clear hfz17_0
   try clear hfz17_1
   try clear hfz8_0
   try clear hfz8_1
   obtain ⟨x11_1, x12_1, x13_1, x30_1, rfl, rfl, HA, HK1, HO_11, HO_12, BK290, HB⟩ := hrel
   cases gk with
   | zero => exact absurd HA.out (by simp [impl_AccountStatement.l0])
   | succ k1 =>
    have H := HA.out
    clear HA
    simp only [impl_AccountStatement.l0] at H
    by_cases c18 : x30_1 < (l0_1.length : Int)
    ·rw [if_pos c18] at H
     have c18b0 := decide_eq_true c18
     clear c18
     obtain ⟨c19, H⟩ := ifY H
     have c19b0 := decide_eq_true c19
     clear c19
     obtain ⟨c20, H⟩ := ifY H
     have c20b0 := decide_eq_true c20
     clear c20
     have H' := Aside0.mk H
     clear H
     have p301 : 0 ≤ (x30_1 : Int) := of_decide_eq_true ZZ853400
     have q301 : x30_1 < (l0_1.length : Int) := of_decide_eq_true ZZ853400
     obtain ⟨ad301, A301_2, c301_2, e301, hx301_0, hx301_1, hx301_2, hl301_2, hi301_2⟩ := at_T63 HR0_1.out x30_1 p301 q301
     cases e301
     replace hx301_0 := (HB.out.cell (World.block_lt_of_cell? w _ hx301_0)).trans hx301_0
     replace hx301_1 := (HB.out.cell (World.block_lt_of_cell? w _ hx301_1)).trans hx301_1
     replace hx301_2 := (HB.out.cell (World.block_lt_of_cell? w _ hx301_2)).trans hx301_2
     have HR301_2 := Aside0.mk hi301_2
     have HC301_2 := Aside0.mk hl301_2
     clear hi301_2 hl301_2
     replace p301 := eq_true p301
     replace q301 := eq_true q301
     go_wp2_with (first | ((with_reducible refine gate_dst (N := 15) rfl ?_); refine box_event ?hg (N := 15) ?hd (cs := #[.int .i64 0, .string (⟨#[]⟩ : ByteArray), .slice none 0 0]) (t := 63) ?hr ?_; (case hd => rfl); (case hg => rfl); (case hr => first | (go_simp; done) | (go_simp; rfl)); intro gb302 hg w21 hbox hb; replace HO_11 := Aside0.mk (Kd.R_below (zR HO_11) hb); replace HO_12 := Aside0.mk (Kd.R_below (zR HO_12) hb); have BK302 := Aside0.mk (hbox); have GW302 := Aside0.mk ((by rw [hg]; exact (below_size ZZ295621) : w.heap.size ≤ gb302)); have GE302 := Aside0.mk ((by rw [hg]; exact (below_size ZZ295621) : w.heap.size ≤ gb302)); replace HB := Aside0.mk (below_step ZZ295621 hb); have NB290_302 := Aside0.mk ((by rw [hg]; exact Nat.ne_of_lt (blk_lt (zB BK290)) : gb290 ≠ gb302)); have NB302_290 := Aside0.mk ((by rw [hg]; exact Nat.ne_of_gt (blk_lt (zB BK290)) : gb302 ≠ gb290)); replace BK290 := Aside0.mk (blk_below (zB BK290) hb); clear hb hbox hg; have hnb22 := NB302_290.out; have hnc22 := NB290_302.out; have hcz23_0 : w21.cell? ⟨gb302, 0, none⟩ = some (.int .i64 0) := (blk_cell BK302.out 0).trans rfl; have hcz23_1 : w21.cell? ⟨gb302, 1, none⟩ = some (.string (⟨#[]⟩ : ByteArray)) := (blk_cell BK302.out 1).trans rfl; have hcz23_2 : w21.cell? ⟨gb302, 2, none⟩ = some (.slice none 0 0) := (blk_cell BK302.out 2).trans rfl; have hfz23_0 := blk_frozen BK302.out 0; have hfz23_1 := blk_frozen BK302.out 1; have hfz23_2 := blk_frozen BK302.out 2))
     go_loopg [11, 12, 13, 38] k1 (fun kq v11 v12 v13 v38 w' => ∃ (x11_2 : List Int) (x12_2 : List Int) (x13_2 : Int) (x38_2 : Int), v13 = .int .i64 x13_2 ∧ v38 = .int .i64 x38_2 ∧ Aside0 (impl_AccountStatement.l1 kq a1 a2 a3 x11_2 x12_2 x13_2 x30_1 l0_1 (l0_1.length : Int) x30_1 ((rd_T63 l0_1 x30_1).f2) (((rd_T63 l0_1 x30_1).f2).length : Int) x38_2 ((rd_T63 l0_1 x30_1).f0) ((rd_T63 l0_1 x30_1).f1) ((rd_T63 l0_1 x30_1).f2) = some (r1, r2, r3)) ∧ Aside0 (kq ≤ k1) ∧ Aside0 (Kd.R (Kd.int .i64) 3 w' w.heap.size (fun k_ => some k_ ≠ (v12 : Value).ownBlock) v11 x11_2) ∧ Aside0 (Kd.R (Kd.int .i64) 3 w' w.heap.size (fun k_ => some k_ ≠ (v11 : Value).ownBlock) v12 x12_2) ∧ Aside0 (w'.heap[gb290]? = some (.cells #[(.slice A0_0 l0_0.length c0_0), (.slice (some ad301) l0_1.length c0_1)] 31 (0, 0))) ∧ Aside0 (w'.heap[gb302]? = some (.cells #[.int .i64 ((rd_T63 l0_1 x30_1).f0), .string ((rd_T63 l0_1 x30_1).f1), (.slice A301_2 ((rd_T63 l0_1 x30_1).f2).length c301_2)] 63 (0, 0))) ∧ Aside0 (Below w.heap.size w w'))
     case atStart => exact ⟨(x11_1), (x12_1), (x13_1), (0), ZZ0ab324, ZZ0ab324, H', ⟨Nat.le_refl _⟩, ⟨(by (with_reducible repeat (first | apply Kd.R_alloc | apply Kd.R_drewN | apply Kd.R_drew)); exact Kd.R_mono (Kd.R_far (p := ⟨gb302, 2, none⟩) (Kd.R_far (p := ⟨gb302, 1, none⟩) (Kd.R_far (p := ⟨gb302, 0, none⟩) (Kd.R_types HO_11.out BK302.out (by decide)) (fun _ hk => hk.2) (.int .i64 ((rd_T63 l0_1 x30_1).f0))) (fun _ hk => hk.2) (.string ((rd_T63 l0_1 x30_1).f1))) (fun _ hk => hk.2) (.slice A301_2 ((rd_T63 l0_1 x30_1).f2).length c301_2)) (fun _ hk => hk.1))⟩, ⟨(by (with_reducible repeat (first | apply Kd.R_alloc | apply Kd.R_drewN | apply Kd.R_drew)); exact Kd.R_mono (Kd.R_far (p := ⟨gb302, 2, none⟩) (Kd.R_far (p := ⟨gb302, 1, none⟩) (Kd.R_far (p := ⟨gb302, 0, none⟩) (Kd.R_types HO_12.out BK302.out (by decide)) (fun _ hk => hk.2) (.int .i64 ((rd_T63 l0_1 x30_1).f0))) (fun _ hk => hk.2) (.string ((rd_T63 l0_1 x30_1).f1))) (fun _ hk => hk.2) (.slice A301_2 ((rd_T63 l0_1 x30_1).f2).length c301_2)) (fun _ hk => hk.1))⟩, ⟨(by (with_reducible repeat (first | refine blk_drewN ?_ _ | refine blk_drew ?_ | refine blk_alloc ?_ _)); refine blk_far ?_ NB290_302.out _; (with_reducible repeat (first | refine blk_drewN ?_ _ | refine blk_drew ?_ | refine blk_alloc ?_ _)); refine blk_far ?_ NB290_302.out _; (with_reducible repeat (first | refine blk_drewN ?_ _ | refine blk_drew ?_ | refine blk_alloc ?_ _)); refine blk_far ?_ NB290_302.out _; (with_reducible repeat (first | refine blk_drewN ?_ _ | refine blk_drew ?_ | refine blk_alloc ?_ _)); exact BK290.out)⟩, ⟨(by (with_reducible repeat (first | refine blk_drewN ?_ _ | refine blk_drew ?_ | refine blk_alloc ?_ _)); refine blk_put (cs := #[.int .i64 ((rd_T63 l0_1 x30_1).f0), .string ((rd_T63 l0_1 x30_1).f1), .slice none 0 0]) ?_ 2 _ rfl; (with_reducible repeat (first | refine blk_drewN ?_ _ | refine blk_drew ?_ | refine blk_alloc ?_ _)); refine blk_put (cs := #[.int .i64 ((rd_T63 l0_1 x30_1).f0), .string (⟨#[]⟩ : ByteArray), .slice none 0 0]) ?_ 1 _ rfl; (with_reducible repeat (first | refine blk_drewN ?_ _ | refine blk_drew ?_ | refine blk_alloc ?_ _)); refine blk_put (cs := #[.int .i64 0, .string (⟨#[]⟩ : ByteArray), .slice none 0 0]) ?_ 0 _ rfl; (with_reducible repeat (first | refine blk_drewN ?_ _ | refine blk_drew ?_ | refine blk_alloc ?_ _)); exact BK302.out)⟩, ⟨ZZ295621⟩⟩
     case round =>
      clear H'
      try clear c18b0
      try clear c19b0
      try clear c20b0
      try clear hcz23_0
      try clear hcz23_1
      try clear hcz23_2
      try clear hfz23_0
      try clear hfz23_1
      try clear hfz23_2
      try clear hx301_0
      try clear hx301_1
      try clear hx301_2
      try clear p301
      try clear q301
      obtain ⟨x11_2, x12_2, x13_2, x38_2, rfl, rfl, HA, HK2, HO_11, HO_12, BK290, BK302, HB⟩ := hrel
      cases gk with
      | zero => exact absurd HA.out (by simp [impl_AccountStatement.l1])
      | succ k2 =>
       have H := HA.out
       clear HA
       simp only [impl_AccountStatement.l1] at H
       by_cases c24 : x38_2 < (((rd_T63 l0_1 x30_1).f2).length : Int)
       ·rw [if_pos c24] at H
        have c24b0 := decide_eq_true c24
        clear c24
        obtain ⟨c25, H⟩ := ifY H
        have c25b0 := decide_eq_true c25
        clear c25
        obtain ⟨c26, H⟩ := ifY H
        have c26b0 := decide_eq_true c26
        clear c26
        by_cases c27 : ((rd_T70 ((rd_T63 l0_1 x30_1).f2) x38_2).f0) = a1
        ·rw [if_pos c27] at H
         have c27b0 := beq_iff_eq.mpr c27
         have c27b1 := bne_eq_false_iff_eq.mpr c27
         clear c27
         obtain ⟨t305, A28, H⟩ := bdY H
         by_cases c29 : t305 = true
         ·subst c29
          have H1 : (if x11_2.length < 17592186044416 then (if x12_2.length < 17592186044416 then (impl_AccountStatement.l1 k2 a1 a2 a3 (x11_2 ++ [x30_1]) (x12_2 ++ [wrap64 (x13_2 + ((rd_T70 ((rd_T63 l0_1 x30_1).f2) x38_2).f1))]) (wrap64 (x13_2 + ((rd_T70 ((rd_T63 l0_1 x30_1).f2) x38_2).f1))) x30_1 l0_1 (l0_1.length : Int) x30_1 ((rd_T63 l0_1 x30_1).f2) (((rd_T63 l0_1 x30_1).f2).length : Int) (wrap64 (x38_2 + 1)) ((rd_T63 l0_1 x30_1).f0) ((rd_T63 l0_1 x30_1).f1) ((rd_T63 l0_1 x30_1).f2)) else (none)) else (none)) = some (r1, r2, r3) := by rw [if_pos rfl] at H; exact H
          clear H
          have H := H1
          clear H1
          obtain ⟨c30, H⟩ := ifY H
          have LMc30 := Aside0.mk c30
          clear c30
          obtain ⟨y306, hy306⟩ : ∃ y_ : List Int, y_ = (x11_2 ++ [x30_1]) := ⟨_, rfl⟩
          replace H : (if x12_2.length < 17592186044416 then (impl_AccountStatement.l1 k2 a1 a2 a3 y306 (x12_2 ++ [wrap64 (x13_2 + ((rd_T70 ((rd_T63 l0_1 x30_1).f2) x38_2).f1))]) (wrap64 (x13_2 + ((rd_T70 ((rd_T63 l0_1 x30_1).f2) x38_2).f1))) x30_1 l0_1 (l0_1.length : Int) x30_1 ((rd_T63 l0_1 x30_1).f2) (((rd_T63 l0_1 x30_1).f2).length : Int) (wrap64 (x38_2 + 1)) ((rd_T63 l0_1 x30_1).f0) ((rd_T63 l0_1 x30_1).f1) ((rd_T63 l0_1 x30_1).f2)) else (none)) = some (r1, r2, r3) := by first | (rw [hy306]; with_reducible exact H) | (have H2_ := (Option.bind_some _ _).symm.trans H; rw [hy306]; with_reducible exact H2_) | (have H2_ := (Option.bind_some _ _).symm.trans H; with_reducible exact H2_) | with_reducible exact H | (rw [hy306]; exact H) | exact H
          have Ny306 := Aside0.mk hy306
          clear hy306
          obtain ⟨c31, H⟩ := ifY H
          have LMc31 := Aside0.mk c31
          clear c31
          obtain ⟨y309, hy309⟩ : ∃ y_ : List Int, y_ = (x12_2 ++ [wrap64 (x13_2 + ((rd_T70 ((rd_T63 l0_1 x30_1).f2) x38_2).f1))]) := ⟨_, rfl⟩
          replace H : (impl_AccountStatement.l1 k2 a1 a2 a3 y306 y309 (wrap64 (x13_2 + ((rd_T70 ((rd_T63 l0_1 x30_1).f2) x38_2).f1))) x30_1 l0_1 (l0_1.length : Int) x30_1 ((rd_T63 l0_1 x30_1).f2) (((rd_T63 l0_1 x30_1).f2).length : Int) (wrap64 (x38_2 + 1)) ((rd_T63 l0_1 x30_1).f0) ((rd_T63 l0_1 x30_1).f1) ((rd_T63 l0_1 x30_1).f2)) = some (r1, r2, r3) := by first | (rw [hy309]; with_reducible exact H) | (have H2_ := (Option.bind_some _ _).symm.trans H; rw [hy309]; with_reducible exact H2_) | (have H2_ := (Option.bind_some _ _).symm.trans H; with_reducible exact H2_) | with_reducible exact H | (rw [hy309]; exact H) | exact H
          have Ny309 := Aside0.mk hy309
          clear hy309
          have H' := Aside0.mk H
          clear H
          have p303 : 0 ≤ (x38_2 : Int) := of_decide_eq_true ZZ853400
          have q303 : x38_2 < (((rd_T63 l0_1 x30_1).f2).length : Int) := of_decide_eq_true ZZ853400
          obtain ⟨ad303, e303, hx303_0, hx303_1⟩ := at_T70 HR301_2.out x38_2 p303 q303
          cases e303
          replace hx303_0 := (HB.out.cell (World.block_lt_of_cell? w _ hx303_0)).trans hx303_0
          replace hx303_1 := (HB.out.cell (World.block_lt_of_cell? w _ hx303_1)).trans hx303_1
          replace p303 := eq_true p303
          replace q303 := eq_true q303
          go_wp2_with (first | ((with_reducible refine gate_dst (N := 17) rfl ?_); refine box_event ?hg (N := 17) ?hd (cs := #[.int .i64 0, .int .i64 0]) (t := 70) ?hr ?_; (case hd => rfl); (case hg => rfl); (case hr => first | (go_simp; done) | (go_simp; rfl)); intro gb304 hg w32 hbox hb; replace HO_11 := Aside0.mk (Kd.R_below (zR HO_11) hb); replace HO_12 := Aside0.mk (Kd.R_below (zR HO_12) hb); have BK304 := Aside0.mk (hbox); have GW304 := Aside0.mk ((by rw [hg]; exact (below_size ZZ295621) : w.heap.size ≤ gb304)); have GE304 := Aside0.mk ((by rw [hg]; exact (below_size ZZ295621) : w.heap.size ≤ gb304)); replace HB := Aside0.mk (below_step ZZ295621 hb); have NB290_304 := Aside0.mk ((by rw [hg]; exact Nat.ne_of_lt (blk_lt (zB BK290)) : gb290 ≠ gb304)); have NB304_290 := Aside0.mk ((by rw [hg]; exact Nat.ne_of_gt (blk_lt (zB BK290)) : gb304 ≠ gb290)); replace BK290 := Aside0.mk (blk_below (zB BK290) hb); have NB302_304 := Aside0.mk ((by rw [hg]; exact Nat.ne_of_lt (blk_lt (zB BK302)) : gb302 ≠ gb304)); have NB304_302 := Aside0.mk ((by rw [hg]; exact Nat.ne_of_gt (blk_lt (zB BK302)) : gb304 ≠ gb302)); replace BK302 := Aside0.mk (blk_below (zB BK302) hb); clear hb hbox hg; have hnb33 := NB304_290.out; have hnc33 := NB290_304.out; have hnb34 := NB304_302.out; have hnc34 := NB302_304.out; have hcz35_0 : w32.cell? ⟨gb304, 0, none⟩ = some (.int .i64 0) := (blk_cell BK304.out 0).trans rfl; have hcz35_1 : w32.cell? ⟨gb304, 1, none⟩ = some (.int .i64 0) := (blk_cell BK304.out 1).trans rfl; have hfz35_0 := blk_frozen BK304.out 0; have hfz35_1 := blk_frozen BK304.out 1; have hnb36 := NB302_290.out; have hnc36 := NB290_302.out; have hcz37_0 : w32.cell? ⟨gb302, 0, none⟩ = some (.int .i64 ((rd_T63 l0_1 x30_1).f0)) := (blk_cell BK302.out 0).trans rfl; have hcz37_1 : w32.cell? ⟨gb302, 1, none⟩ = some (.string ((rd_T63 l0_1 x30_1).f1)) := (blk_cell BK302.out 1).trans rfl; have hcz37_2 : w32.cell? ⟨gb302, 2, none⟩ = some (.slice (some ad303) ((rd_T63 l0_1 x30_1).f2).length c301_2) := (blk_cell BK302.out 2).trans rfl; have hfz37_0 := blk_frozen BK302.out 0; have hfz37_1 := blk_frozen BK302.out 1; have hfz37_2 := blk_frozen BK302.out 2) | ((with_reducible refine gate_callee (f := 56) rfl ?_); refine goesL_ (some 54) rfl rfl Tryd.func56 (by kernel_rfl) rfl #[.int .i64 ((rd_T63 l0_1 x30_1).f0), .int .i64 a2, .int .i64 a3] rfl ZZ19826e ?_; (with_reducible refine (impl_within.calls ((rd_T63 l0_1 x30_1).f0) a2 a3 true _ A28.out).mono ?_); rintro e w' ⟨rfl, ⟨nd, rfl⟩⟩; refine ⟨_, rfl, ?_⟩) | ((with_reducible refine gate_builtin (b := .append) (xs := #[.tmp 55, .tmp 57]) rfl ?_); at_builtin; refine Kd.R_append (Kd.int .i64) (w0 := w) w.heap.size rfl (.tmp 55) (.tmp 57) 44 3 (.int .i64 0) 8 rfl Tryd.underlying44 info3 rfl (by decide) (by omega) u11 x11_2 x30_1 [.int .i64 x30_1] (fun k_ => some k_ ≠ (u12 : Value).ownBlock) (fun _ => False) rfl (by first | (go_simp; done) | (go_simp; rfl)) ?aP (fun _ hk => hk.elim) ?aF ?aO ?aB ?aS ?aL ?_; (case aP => exact rfl); (case aB => exact ZZ295621); (case aF => exact (fun k_ hk => Kd.fresh' (Kd.R_lt (by (with_reducible repeat (first | apply Kd.R_alloc | apply Kd.R_drewN | apply Kd.R_drew)); exact (Kd.R_mono (Kd.R_far (p := ⟨gb304, 1, none⟩) (Kd.R_far (p := ⟨gb304, 0, none⟩) (Kd.R_types HO_12.out BK304.out (by decide)) (fun _ hk => hk.2) (.int .i64 ((rd_T70 ((rd_T63 l0_1 x30_1).f2) x38_2).f0))) (fun _ hk => hk.2) (.int .i64 ((rd_T70 ((rd_T63 l0_1 x30_1).f2) x38_2).f1))) (fun _ h_ => h_.1)))) k_ hk)); (case aO => exact ZZ8c3819); (case aS => exact (below_size ZZ295621)); (case aL => have := LMc30.out; omega); intro v307 w38 ho hb hg hat; rw [← Ny306.out] at ho; replace HO_12 := Aside0.mk (Kd.R_after (ok := (fun _ => True)) (by (with_reducible repeat (first | apply Kd.R_alloc | apply Kd.R_drewN | apply Kd.R_drew)); exact Kd.R_mono (Kd.R_far (p := ⟨gb304, 1, none⟩) (Kd.R_far (p := ⟨gb304, 0, none⟩) (Kd.R_types HO_12.out BK304.out (by decide)) (fun _ hk => hk.2) (.int .i64 ((rd_T70 ((rd_T63 l0_1 x30_1).f2) x38_2).f0))) (fun _ hk => hk.2) (.int .i64 ((rd_T70 ((rd_T63 l0_1 x30_1).f2) x38_2).f1))) (fun _ hk => ⟨trivial, hk.1⟩)) hg hat); replace BK290 := Aside0.mk (blk_grown (g := gb290) (o := .cells #[.slice A0_0 l0_0.length c0_0, .slice (some ad301) l0_1.length c0_1] 31 (0, 0)) ZZae429a hg (Kd.R_ne HO_11.out BK290.out (by decide))); replace BK302 := Aside0.mk (blk_grown (g := gb302) (o := .cells #[.int .i64 ((rd_T63 l0_1 x30_1).f0), .string ((rd_T63 l0_1 x30_1).f1), .slice (some ad303) ((rd_T63 l0_1 x30_1).f2).length c301_2] 63 (0, 0)) ZZ7a3077 hg (Kd.R_ne HO_11.out BK302.out (by decide))); replace BK304 := Aside0.mk (blk_grown (g := gb304) (o := .cells #[.int .i64 ((rd_T70 ((rd_T63 l0_1 x30_1).f2) x38_2).f0), .int .i64 ((rd_T70 ((rd_T63 l0_1 x30_1).f2) x38_2).f1)] 70 (0, 0)) (by (with_reducible repeat (first | refine blk_drewN ?_ _ | refine blk_drew ?_ | refine blk_alloc ?_ _)); refine blk_put (cs := #[.int .i64 ((rd_T70 ((rd_T63 l0_1 x30_1).f2) x38_2).f0), .int .i64 0]) ?_ 1 _ rfl; (with_reducible repeat (first | refine blk_drewN ?_ _ | refine blk_drew ?_ | refine blk_alloc ?_ _)); refine blk_put (cs := #[.int .i64 0, .int .i64 0]) ?_ 0 _ rfl; (with_reducible repeat (first | refine blk_drewN ?_ _ | refine blk_drew ?_ | refine blk_alloc ?_ _)); exact BK304.out) hg (Kd.R_ne HO_11.out BK304.out (by decide))); replace HB := Aside0.mk (hb); have HO308 := Aside0.mk (ho); clear HO_11; clear ho hb hg hat) | ((with_reducible refine gate_builtin (b := .append) (xs := #[.tmp 59, .tmp 61]) rfl ?_); at_builtin; refine Kd.R_append (Kd.int .i64) (w0 := w) w.heap.size rfl (.tmp 59) (.tmp 61) 44 3 (.int .i64 0) 8 rfl Tryd.underlying44 info3 rfl (by decide) (by omega) u12 x12_2 (wrap64 (x13_2 + ((rd_T70 ((rd_T63 l0_1 x30_1).f2) x38_2).f1))) [.int .i64 (wrap64 (x13_2 + ((rd_T70 ((rd_T63 l0_1 x30_1).f2) x38_2).f1)))] (fun k_ => some k_ ≠ (v307 : Value).ownBlock) (fun _ => False) rfl rfl ?aP (fun _ hk => hk.elim) ?aF ?aO ?aB ?aS ?aL ?_; (case aP => exact rfl); (case aB => exact ZZ295621); (case aF => exact (fun k_ hk => Kd.fresh' (Kd.R_lt (zR HO308)) k_ hk)); (case aO => exact (by (with_reducible repeat (first | apply Kd.R_alloc | apply Kd.R_drewN | apply Kd.R_drew)); exact Kd.R_mono HO_12.out (fun _ hk => hk.2))); (case aS => exact (below_size ZZ295621)); (case aL => have := LMc31.out; omega); intro v310 w39 ho hb hg hat; rw [← Ny309.out] at ho; replace BK290 := Aside0.mk (blk_grown (zB BK290) hg (Kd.R_ne HO_12.out BK290.out (by decide))); replace BK302 := Aside0.mk (blk_grown (zB BK302) hg (Kd.R_ne HO_12.out BK302.out (by decide))); replace BK304 := Aside0.mk (blk_grown (zB BK304) hg (Kd.R_ne HO_12.out BK304.out (by decide))); replace HO308 := Aside0.mk (Kd.R_after (ok := (fun _ => True)) (by (with_reducible repeat (first | apply Kd.R_alloc | apply Kd.R_drewN | apply Kd.R_drew)); exact Kd.R_mono HO308.out (fun _ hk => ⟨trivial, hk⟩)) hg hat); replace HB := Aside0.mk (hb); have HO311 := Aside0.mk (ho); clear HO_12; clear ho hb hg hat))
          go_roundg k2
          case measure => have := HK1.out; have := HK2.out; omega
          case rel => exact ⟨(y306), (y309), (wrap64 (x13_2 + ((rd_T70 ((rd_T63 l0_1 x30_1).f2) x38_2).f1))), (wrap64 (x38_2 + 1)), ZZ0ab324, ZZ0ab324, H', ⟨(by have := HK1.out; have := HK2.out; omega)⟩, ⟨(by (with_reducible repeat (first | apply Kd.R_alloc | apply Kd.R_drewN | apply Kd.R_drew)); exact Kd.R_mono HO308.out (fun _ hk => hk.2))⟩, ⟨(zR HO311)⟩, ⟨(zB BK290)⟩, ⟨(zB BK302)⟩, ⟨ZZ295621⟩⟩
         replace c29 := Bool.eq_false_iff.mpr c29
         subst c29
         have H1 : (impl_AccountStatement.l1 k2 a1 a2 a3 x11_2 x12_2 (wrap64 (x13_2 + ((rd_T70 ((rd_T63 l0_1 x30_1).f2) x38_2).f1))) x30_1 l0_1 (l0_1.length : Int) x30_1 ((rd_T63 l0_1 x30_1).f2) (((rd_T63 l0_1 x30_1).f2).length : Int) (wrap64 (x38_2 + 1)) ((rd_T63 l0_1 x30_1).f0) ((rd_T63 l0_1 x30_1).f1) ((rd_T63 l0_1 x30_1).f2)) = some (r1, r2, r3) := by rw [if_neg (show ¬ (false = true) by decide)] at H; exact H
         clear H
         have H := H1
         clear H1
         have H' := Aside0.mk H
         clear H
         have p303 : 0 ≤ (x38_2 : Int) := of_decide_eq_true ZZ853400
         have q303 : x38_2 < (((rd_T63 l0_1 x30_1).f2).length : Int) := of_decide_eq_true ZZ853400
         obtain ⟨ad303, e303, hx303_0, hx303_1⟩ := at_T70 HR301_2.out x38_2 p303 q303
         cases e303
         replace hx303_0 := (HB.out.cell (World.block_lt_of_cell? w _ hx303_0)).trans hx303_0
         replace hx303_1 := (HB.out.cell (World.block_lt_of_cell? w _ hx303_1)).trans hx303_1
         replace p303 := eq_true p303
         replace q303 := eq_true q303
         go_wp2_with (first | ((with_reducible refine gate_dst (N := 17) rfl ?_); refine box_event ?hg (N := 17) ?hd (cs := #[.int .i64 0, .int .i64 0]) (t := 70) ?hr ?_; (case hd => rfl); (case hg => rfl); (case hr => first | (go_simp; done) | (go_simp; rfl)); intro gb304 hg w40 hbox hb; replace HO_11 := Aside0.mk (Kd.R_below (zR HO_11) hb); replace HO_12 := Aside0.mk (Kd.R_below (zR HO_12) hb); have BK304 := Aside0.mk (hbox); have GW304 := Aside0.mk ((by rw [hg]; exact (below_size ZZ295621) : w.heap.size ≤ gb304)); have GE304 := Aside0.mk ((by rw [hg]; exact (below_size ZZ295621) : w.heap.size ≤ gb304)); replace HB := Aside0.mk (below_step ZZ295621 hb); have NB290_304 := Aside0.mk ((by rw [hg]; exact Nat.ne_of_lt (blk_lt (zB BK290)) : gb290 ≠ gb304)); have NB304_290 := Aside0.mk ((by rw [hg]; exact Nat.ne_of_gt (blk_lt (zB BK290)) : gb304 ≠ gb290)); replace BK290 := Aside0.mk (blk_below (zB BK290) hb); have NB302_304 := Aside0.mk ((by rw [hg]; exact Nat.ne_of_lt (blk_lt (zB BK302)) : gb302 ≠ gb304)); have NB304_302 := Aside0.mk ((by rw [hg]; exact Nat.ne_of_gt (blk_lt (zB BK302)) : gb304 ≠ gb302)); replace BK302 := Aside0.mk (blk_below (zB BK302) hb); clear hb hbox hg; have hnb41 := NB304_290.out; have hnc41 := NB290_304.out; have hnb42 := NB304_302.out; have hnc42 := NB302_304.out; have hcz43_0 : w40.cell? ⟨gb304, 0, none⟩ = some (.int .i64 0) := (blk_cell BK304.out 0).trans rfl; have hcz43_1 : w40.cell? ⟨gb304, 1, none⟩ = some (.int .i64 0) := (blk_cell BK304.out 1).trans rfl; have hfz43_0 := blk_frozen BK304.out 0; have hfz43_1 := blk_frozen BK304.out 1; have hnb44 := NB302_290.out; have hnc44 := NB290_302.out; have hcz45_0 : w40.cell? ⟨gb302, 0, none⟩ = some (.int .i64 ((rd_T63 l0_1 x30_1).f0)) := (blk_cell BK302.out 0).trans rfl; have hcz45_1 : w40.cell? ⟨gb302, 1, none⟩ = some (.string ((rd_T63 l0_1 x30_1).f1)) := (blk_cell BK302.out 1).trans rfl; have hcz45_2 : w40.cell? ⟨gb302, 2, none⟩ = some (.slice (some ad303) ((rd_T63 l0_1 x30_1).f2).length c301_2) := (blk_cell BK302.out 2).trans rfl; have hfz45_0 := blk_frozen BK302.out 0; have hfz45_1 := blk_frozen BK302.out 1; have hfz45_2 := blk_frozen BK302.out 2) | ((with_reducible refine gate_callee (f := 56) rfl ?_); refine goesL_ (some 54) rfl rfl Tryd.func56 (by kernel_rfl) rfl #[.int .i64 ((rd_T63 l0_1 x30_1).f0), .int .i64 a2, .int .i64 a3] rfl ZZ19826e ?_; (with_reducible refine (impl_within.calls ((rd_T63 l0_1 x30_1).f0) a2 a3 false _ A28.out).mono ?_); rintro e w' ⟨rfl, ⟨nd, rfl⟩⟩; refine ⟨_, rfl, ?_⟩))
         go_roundg k2
         case measure => have := HK1.out; have := HK2.out; omega
         case rel => exact ⟨(x11_2), (x12_2), (wrap64 (x13_2 + ((rd_T70 ((rd_T63 l0_1 x30_1).f2) x38_2).f1))), (wrap64 (x38_2 + 1)), ZZ0ab324, ZZ0ab324, H', ⟨(by have := HK1.out; have := HK2.out; omega)⟩, ⟨ZZ8c3819⟩, ⟨(by (with_reducible repeat (first | apply Kd.R_alloc | apply Kd.R_drewN | apply Kd.R_drew)); exact Kd.R_mono (Kd.R_far (p := ⟨gb304, 1, none⟩) (Kd.R_far (p := ⟨gb304, 0, none⟩) (Kd.R_types HO_12.out BK304.out (by decide)) (fun _ hk => hk.2) (.int .i64 ((rd_T70 ((rd_T63 l0_1 x30_1).f2) x38_2).f0))) (fun _ hk => hk.2) (.int .i64 ((rd_T70 ((rd_T63 l0_1 x30_1).f2) x38_2).f1))) (fun _ hk => hk.1))⟩, ⟨ZZae429a⟩, ⟨ZZ7a3077⟩, ⟨ZZ295621⟩⟩
        rw [if_neg c27] at H
        have c27b0 := beq_eq_false_iff_ne.mpr c27
        have c27b1 := bne_iff_ne.mpr c27
        have H' := Aside0.mk H
        clear H
        have p303 : 0 ≤ (x38_2 : Int) := of_decide_eq_true ZZ853400
        have q303 : x38_2 < (((rd_T63 l0_1 x30_1).f2).length : Int) := of_decide_eq_true ZZ853400
        obtain ⟨ad303, e303, hx303_0, hx303_1⟩ := at_T70 HR301_2.out x38_2 p303 q303
        cases e303
        replace hx303_0 := (HB.out.cell (World.block_lt_of_cell? w _ hx303_0)).trans hx303_0
        replace hx303_1 := (HB.out.cell (World.block_lt_of_cell? w _ hx303_1)).trans hx303_1
        replace p303 := eq_true p303
        replace q303 := eq_true q303
        go_wp2_with (first | ((with_reducible refine gate_dst (N := 17) rfl ?_); refine box_event ?hg (N := 17) ?hd (cs := #[.int .i64 0, .int .i64 0]) (t := 70) ?hr ?_; (case hd => rfl); (case hg => rfl); (case hr => first | (go_simp; done) | (go_simp; rfl)); intro gb304 hg w46 hbox hb; replace HO_11 := Aside0.mk (Kd.R_below (zR HO_11) hb); replace HO_12 := Aside0.mk (Kd.R_below (zR HO_12) hb); have BK304 := Aside0.mk (hbox); have GW304 := Aside0.mk ((by rw [hg]; exact (below_size ZZ295621) : w.heap.size ≤ gb304)); have GE304 := Aside0.mk ((by rw [hg]; exact (below_size ZZ295621) : w.heap.size ≤ gb304)); replace HB := Aside0.mk (below_step ZZ295621 hb); have NB290_304 := Aside0.mk ((by rw [hg]; exact Nat.ne_of_lt (blk_lt (zB BK290)) : gb290 ≠ gb304)); have NB304_290 := Aside0.mk ((by rw [hg]; exact Nat.ne_of_gt (blk_lt (zB BK290)) : gb304 ≠ gb290)); replace BK290 := Aside0.mk (blk_below (zB BK290) hb); have NB302_304 := Aside0.mk ((by rw [hg]; exact Nat.ne_of_lt (blk_lt (zB BK302)) : gb302 ≠ gb304)); have NB304_302 := Aside0.mk ((by rw [hg]; exact Nat.ne_of_gt (blk_lt (zB BK302)) : gb304 ≠ gb302)); replace BK302 := Aside0.mk (blk_below (zB BK302) hb); clear hb hbox hg; have hnb47 := NB304_290.out; have hnc47 := NB290_304.out; have hnb48 := NB304_302.out; have hnc48 := NB302_304.out; have hcz49_0 : w46.cell? ⟨gb304, 0, none⟩ = some (.int .i64 0) := (blk_cell BK304.out 0).trans rfl; have hcz49_1 : w46.cell? ⟨gb304, 1, none⟩ = some (.int .i64 0) := (blk_cell BK304.out 1).trans rfl; have hfz49_0 := blk_frozen BK304.out 0; have hfz49_1 := blk_frozen BK304.out 1))
        go_roundg k2
        case measure => have := HK1.out; have := HK2.out; omega
        case rel => exact ⟨(x11_2), (x12_2), (x13_2), (wrap64 (x38_2 + 1)), ZZ0ab324, ZZ0ab324, H', ⟨(by have := HK1.out; have := HK2.out; omega)⟩, ⟨ZZ8c3819⟩, ⟨(by (with_reducible repeat (first | apply Kd.R_alloc | apply Kd.R_drewN | apply Kd.R_drew)); exact Kd.R_mono (Kd.R_far (p := ⟨gb304, 1, none⟩) (Kd.R_far (p := ⟨gb304, 0, none⟩) (Kd.R_types HO_12.out BK304.out (by decide)) (fun _ hk => hk.2) (.int .i64 ((rd_T70 ((rd_T63 l0_1 x30_1).f2) x38_2).f0))) (fun _ hk => hk.2) (.int .i64 ((rd_T70 ((rd_T63 l0_1 x30_1).f2) x38_2).f1))) (fun _ hk => hk.1))⟩, ⟨ZZae429a⟩, ⟨ZZ7a3077⟩, ⟨ZZ295621⟩⟩
       rw [if_neg c24] at H
       have c24b0 := decide_eq_false c24
       clear c24
       have H' := Aside0.mk H
       clear H
       go_wp2
       go_roundg k2
       case measure => have := HK1.out; have := HK2.out; omega
       case rel => exact ⟨(x11_2), (x12_2), (x13_2), (wrap64 (x30_1 + 1)), ZZ0ab324, ZZ0ab324, H', ⟨(by have := HK1.out; have := HK2.out; omega)⟩, ⟨(zR HO_11)⟩, ⟨(zR HO_12)⟩, ⟨(zB BK290)⟩, ⟨ZZ295621⟩⟩
    rw [if_neg c18] at H
    have c18b0 := decide_eq_false c18
    clear c18
    simp only [Option.some.injEq, Prod.mk.injEq] at H
    obtain ⟨rfl, rfl, rfl⟩ := H
    go_wp2
    go_ret3
    exact ⟨_, _, ZZab01d2, (zR HO_11), (zR HO_12), ZZ295621⟩
 replace c6 := Bool.eq_false_iff.mpr c6
 subst c6
 have H1 : (some (([] : List Int), ([] : List Int), false)) = some (r1, r2, r3) := by rw [if_neg (show ¬ (false = true) by decide)] at H; exact H
 clear H
 have H := H1
 clear H1
 simp only [Option.some.injEq, Prod.mk.injEq] at H
 obtain ⟨rfl, rfl, rfl⟩ := H
 go_enter Tryd.func29, Tryd.ntmps29
 go_wp2_with (first | ((with_reducible refine gate_dst (N := 4) rfl ?_); refine box_event ?hg (N := 4) ?hd (cs := #[.slice A0_0 l0_0.length c0_0, .slice A0_1 l0_1.length c0_1]) (t := 31) ?hr ?_; (case hd => rfl); (case hg => rfl); (case hr => first | (go_simp; done) | (go_simp; rfl)); intro gb290 hg w50 hbox hb; have BK290 := Aside0.mk (hbox); have GW290 := Aside0.mk ((by rw [hg]; exact (below_size ZZ605003) : w.heap.size ≤ gb290)); have GE290 := Aside0.mk ((by rw [hg]; exact (below_size ZZ605003) : w.heap.size ≤ gb290)); replace HB := Aside0.mk (below_step ZZ605003 hb); clear hb hbox hg; have hcz51_0 : w50.cell? ⟨gb290, 0, none⟩ = some (.slice A0_0 l0_0.length c0_0) := (blk_cell BK290.out 0).trans rfl; have hcz51_1 : w50.cell? ⟨gb290, 1, none⟩ = some (.slice A0_1 l0_1.length c0_1) := (blk_cell BK290.out 1).trans rfl; have hfz51_0 := blk_frozen BK290.out 0; have hfz51_1 := blk_frozen BK290.out 1) | ((with_reducible refine gate_dst (N := 22) rfl ?_); refine Kd.R_lit (Kd.int .i64) _ 3 ?hg (N := 22) ?hd (xs := ([a2, a3] : List Int)) (inner := [.int .i64 a2, .int .i64 a3]) (ok := fun _ => True) (okp := fun _ => True) ?hr ?hp (fun _ hk => hk) trivial (Below.refl _ _) (Nat.le_refl _) (by simp) ?_; (case hd => rfl); (case hg => rfl); (case hr => first | (go_simp; done) | (go_simp; rfl)); (case hp => exact (Reps.one (show Kd.M (Kd.int .i64) _ _ _ a2 [.int .i64 a2] from rfl) (Reps.one (show Kd.M (Kd.int .i64) _ _ _ a3 [.int .i64 a3] from rfl) (Reps.none _ _)))); intro v292 w52 ho53 hb hg_ hnew_; clear hg_ hnew_; (first | rw [← Ny291.out] at ho53 | (simp only [Int.reduceToNat] at ho53; rw [← Ny291.out] at ho53)); have HO293 := Aside0.mk (Kd.R_lower ho53 (below_size ZZ295621)); replace BK290 := Aside0.mk (blk_below (zB BK290) hb); replace HB := Aside0.mk (below_step ZZ295621 hb); clear hb ho53; obtain ⟨Ao54, co54, eo54⟩ := Kd.R_slice HO293.out; subst eo54) | ((with_reducible refine gate_callee (f := 68) rfl ?_); refine goesL_ (some 23) rfl rfl Tryd.func68 (by kernel_rfl) rfl #[.agg #[.slice A0_0 l0_0.length c0_0, .slice A0_1 l0_1.length c0_1], .int .i64 a1, .slice Ao54 y291.length co54] rfl ZZ19826e ?_; (with_reducible refine (impl_isAccount.calls k _ _ l0_0 _ _ l0_1 a1 _ _ y291 false _ ?side1 ?side2 ?side3 ?side4 ?side5 ?side6 A5.out).mono ?_); (case side1 => exact ZZ5b25f1); (case side2 => exact HC0_0.out); (case side3 => exact ZZ8ff6b3); (case side4 => exact HC0_1.out); (case side5 => repeat (first | exact (Kd.R_reads' HO293.out).2.2 | (with_reducible refine Kd.C_alloc ?_ _) | (with_reducible refine Kd.C_drewN ?_ _) | (with_reducible refine Kd.C_drew ?_))); (case side6 => exact (Kd.R_reads' HO293.out).2.1); rintro e w55 ⟨rfl, hb⟩; refine ⟨_, rfl, ?_⟩; replace HO293 := Aside0.mk (Kd.R_below (zR HO293) hb); replace BK290 := Aside0.mk (blk_below (zB BK290) hb); replace HB := Aside0.mk (below_step ZZ295621 hb); (try clear hb); (try clear hb2); (try clear hk); (try clear hi)))
 go_ret3
 exact ⟨_, _, ZZab01d2, (by first | exact Kd.R_nil _ _ _ _ _ | exact Kd.N_nil _ _ _ _ _ | exact Kd.V_nil _ _ _ _ _ | exact Kd.Q_nil _ _ _ _ _ | exact Kd.S_nil _ _ _ _ _), (by first | exact Kd.R_nil _ _ _ _ _ | exact Kd.N_nil _ _ _ _ _ | exact Kd.V_nil _ _ _ _ _ | exact Kd.Q_nil _ _ _ _ _ | exact Kd.S_nil _ _ _ _ _), ZZ295621⟩
/-! ### laws_eqIntS: function 30 -/
def laws_eqIntS.l0 : Nat → List Int → List Int → Int → Option (Bool)
 | 0, _, _, _ => none
 | k + 1, x0, x1, x5 => if x5 < (x0.length : Int) then (if 0 ≤ x5 then (if x5 < (x1.length : Int) then (if (rd x0 x5) = (rd x1 x5) then (laws_eqIntS.l0 k x0 x1 (wrap64 (x5 + 1))) else (some false)) else (none)) else (none)) else (some true)
def laws_eqIntS.f (k : Nat) (l0 : List Int) (l1 : List Int) : Option (Bool) := if (l0.length : Int) = (l1.length : Int) then (laws_eqIntS.l0 k l0 l1 0) else (some false)
theorem laws_eqIntS.mono_l : ∀ k, (∀ y0 y1 y2, LeO (laws_eqIntS.l0 k y0 y1 y2) (laws_eqIntS.l0 (k + 1) y0 y1 y2))
 | 0 => fun _ _ _ r h => by simp [laws_eqIntS.l0] at h
 | k + 1 => by
  have ih0 := laws_eqIntS.mono_l k
  ·intro y0 y1 y2
   unfold laws_eqIntS.l0
   repeat' first
   | (with_reducible exact ih0 _ _ _)
   | (with_reducible exact LeO.refl _)
   | (with_reducible exact LeO.none _)
   | (with_reducible refine LeO.ite ?_ ?_)
   | (with_reducible refine LeO.bind ?_ (fun _ => ?_))
   | exact ih0 _ _ _
   | exact LeO.none _
   | refine LeO.ite ?_ ?_
   | refine LeO.bind ?_ (fun _ => ?_)
theorem laws_eqIntS.mono : ∀ a0 a1 k, LeO (laws_eqIntS.f k a0 a1) (laws_eqIntS.f (k + 1) a0 a1) := by
 intro a0 a1 k
 have ih0 := laws_eqIntS.mono_l k
 unfold laws_eqIntS.f
 repeat' first
  | (with_reducible exact ih0 _ _ _)
  | (with_reducible exact LeO.refl _)
  | (with_reducible exact LeO.none _)
  | (with_reducible refine LeO.ite ?_ ?_)
  | (with_reducible refine LeO.bind ?_ (fun _ => ?_))
  | exact ih0 _ _ _
  | exact LeO.none _
  | refine LeO.ite ?_ ?_
  | refine LeO.bind ?_ (fun _ => ?_)
set_option maxHeartbeats 8000000 in
set_option maxRecDepth 100000 in
theorem laws_eqIntS.calls (k : Nat) (A0 : Option Addr) (c0 : Nat) (l0 : List Int) (A1 : Option Addr) (c1 : Nat) (l1 : List Int) (r : Bool) (w : World) (hr0 : Kd.C (Kd.int .i64) w A0 l0.length l0) (hc0 : l0.length ≤ c0) (hr1 : Kd.C (Kd.int .i64) w A1 l1.length l1) (hc1 : l1.length ≤ c1) (h : laws_eqIntS.f k l0 l1 = some r) :
 Calls Tryd.prog 30 #[.slice A0 l0.length c0, .slice A1 l1.length c1] w fun e w' => e = .returned (.bool r) ∧ Drawn0 w w' := by
 have HR0 := Aside0.mk hr0
 have HC0 := Aside0.mk hc0
 clear hr0 hc0
 have HR1 := Aside0.mk hr1
 have HC1 := Aside0.mk hc1
 clear hr1 hc1
 have H := h
 clear h
 unfold laws_eqIntS.f at H
 by_cases c3 : (l0.length : Int) = (l1.length : Int)
 ·rw [if_pos c3] at H
  have c3b0 := beq_iff_eq.mpr c3
  have c3b1 := bne_eq_false_iff_eq.mpr c3
  have c3b2 : (l0.length == l1.length) = true := by first | simpa using c3 | (simp at c3 ⊢; omega)
  clear c3
  have H' := Aside0.mk H
  clear H
  go_enter Tryd.func30, Tryd.ntmps30
  go_wp2
  repeat (go_quiet (fail); try go_wp2)
  go_loopg [5] k (fun kq v5 w' => ∃ (x5_1 : Int), v5 = .int .i64 x5_1 ∧ Aside0 (laws_eqIntS.l0 kq l0 l1 x5_1 = some r) ∧ Aside0 (kq ≤ k) ∧ Drawn0 w w')
  case atStart => exact ⟨(0), ZZ0ab324, H', ⟨Nat.le_refl _⟩, ZZ965307⟩
  case round =>
   clear H'
   try clear c1
   try clear c3b0
   try clear c3b1
   try clear c3b2
   obtain ⟨x5_1, rfl, HA, HK1, ⟨m1, rfl⟩⟩ := hrel
   cases gk with
   | zero => exact absurd HA.out (by simp [laws_eqIntS.l0])
   | succ k1 =>
    have H := HA.out
    clear HA
    simp only [laws_eqIntS.l0] at H
    by_cases c4 : x5_1 < (l0.length : Int)
    ·rw [if_pos c4] at H
     have c4b0 := decide_eq_true c4
     clear c4
     obtain ⟨c5, H⟩ := ifY H
     have c5b0 := decide_eq_true c5
     clear c5
     obtain ⟨c6, H⟩ := ifY H
     have c6b0 := decide_eq_true c6
     clear c6
     by_cases c7 : (rd l0 x5_1) = (rd l1 x5_1)
     ·rw [if_pos c7] at H
      have c7b0 := beq_iff_eq.mpr c7
      have c7b1 := bne_eq_false_iff_eq.mpr c7
      clear c7
      have H' := Aside0.mk H
      clear H
      have p312 : 0 ≤ (x5_1 : Int) := of_decide_eq_true ZZ853400
      have q312 : x5_1 < (l0.length : Int) := of_decide_eq_true ZZ853400
      obtain ⟨ad312, e312, hx312_0⟩ := Kd.at_int HR0.out x5_1 p312 q312
      cases e312
      replace p312 := eq_true p312
      replace q312 := eq_true q312
      have p313 : 0 ≤ (x5_1 : Int) := of_decide_eq_true ZZ853400
      have q313 : x5_1 < (l1.length : Int) := of_decide_eq_true ZZ853400
      obtain ⟨ad313, e313, hx313_0⟩ := Kd.at_int HR1.out x5_1 p313 q313
      cases e313
      replace p313 := eq_true p313
      replace q313 := eq_true q313
      go_wp2
      repeat (go_quiet (fail); try go_wp2)
      go_roundg k1
      case measure => have := HK1.out; omega
      case rel => exact ⟨(wrap64 (x5_1 + 1)), ZZ0ab324, H', ⟨(by have := HK1.out; omega)⟩, ZZ965307⟩
     rw [if_neg c7] at H
     have c7b0 := beq_eq_false_iff_ne.mpr c7
     have c7b1 := bne_iff_ne.mpr c7
     obtain rfl := Option.some.inj H
     have p312 : 0 ≤ (x5_1 : Int) := of_decide_eq_true ZZ853400
     have q312 : x5_1 < (l0.length : Int) := of_decide_eq_true ZZ853400
     obtain ⟨ad312, e312, hx312_0⟩ := Kd.at_int HR0.out x5_1 p312 q312
     cases e312
     replace p312 := eq_true p312
     replace q312 := eq_true q312
     have p313 : 0 ≤ (x5_1 : Int) := of_decide_eq_true ZZ853400
     have q313 : x5_1 < (l1.length : Int) := of_decide_eq_true ZZ853400
     obtain ⟨ad313, e313, hx313_0⟩ := Kd.at_int HR1.out x5_1 p313 q313
     cases e313
     replace p313 := eq_true p313
     replace q313 := eq_true q313
     go_wp2
     repeat (go_quiet (fail); try go_wp2)
     go_ret
     exact ⟨ZZ0ab324, ZZ965307⟩
    rw [if_neg c4] at H
    have c4b0 := decide_eq_false c4
    clear c4
    obtain rfl := Option.some.inj H
    go_wp2
    repeat (go_quiet (fail); try go_wp2)
    go_ret
    exact ⟨ZZ0ab324, ZZ965307⟩
 rw [if_neg c3] at H
 have c3b0 := beq_eq_false_iff_ne.mpr c3
 have c3b1 := bne_iff_ne.mpr c3
 have c3b2 : (l0.length == l1.length) = false := by first | simpa using c3 | (simp at c3 ⊢; omega)
 obtain rfl := Option.some.inj H
 go_enter Tryd.func30, Tryd.ntmps30
 go_wp2
 repeat (go_quiet (fail); try go_wp2)
 go_ret
 exact ⟨ZZ0ab324, ZZ965307⟩
/-! ### laws_markText: function 112 -/
def laws_markText.l0 : Nat → Int → ByteArray → Option (ByteArray)
 | 0, _, _ => none
 | k + 1, x0, x3 => if x0 > 0 then ((some (([(wrap64 (48 + (Int.tmod x0 10))) % 256] : List Int) : List Int)).bind fun y314 => (if (strOfNums y314).size + x3.size ≤ 9223372036854775807 then (laws_markText.l0 k (wrap64 (Int.tdiv x0 10)) ((strOfNums y314) ++ x3)) else (none))) else (if 1 + x3.size ≤ 9223372036854775807 then (some ((⟨#[109]⟩ : ByteArray) ++ x3)) else (none))
def laws_markText.f (k : Nat) (a0 : Int) : Option (ByteArray) := if a0 ≤ 0 then (some (⟨#[109, 48]⟩ : ByteArray)) else (laws_markText.l0 k a0 (⟨#[]⟩ : ByteArray))
theorem laws_markText.mono_l : ∀ k, (∀ y0 y1, LeO (laws_markText.l0 k y0 y1) (laws_markText.l0 (k + 1) y0 y1))
 | 0 => fun _ _ r h => by simp [laws_markText.l0] at h
 | k + 1 => by
  have ih0 := laws_markText.mono_l k
  ·intro y0 y1
   unfold laws_markText.l0
   repeat' first
   | (with_reducible exact ih0 _ _)
   | (with_reducible exact LeO.refl _)
   | (with_reducible exact LeO.none _)
   | (with_reducible refine LeO.ite ?_ ?_)
   | (with_reducible refine LeO.bind ?_ (fun _ => ?_))
   | exact ih0 _ _
   | exact LeO.none _
   | refine LeO.ite ?_ ?_
   | refine LeO.bind ?_ (fun _ => ?_)
theorem laws_markText.mono : ∀ a0 k, LeO (laws_markText.f k a0) (laws_markText.f (k + 1) a0) := by
 intro a0 k
 have ih0 := laws_markText.mono_l k
 unfold laws_markText.f
 repeat' first
  | (with_reducible exact ih0 _ _)
  | (with_reducible exact LeO.refl _)
  | (with_reducible exact LeO.none _)
  | (with_reducible refine LeO.ite ?_ ?_)
  | (with_reducible refine LeO.bind ?_ (fun _ => ?_))
  | exact ih0 _ _
  | exact LeO.none _
  | refine LeO.ite ?_ ?_
  | refine LeO.bind ?_ (fun _ => ?_)
set_option maxHeartbeats 8000000 in
set_option maxRecDepth 100000 in
theorem laws_markText.calls (k : Nat) (a0 : Int) (r : ByteArray) (w : World) (h : laws_markText.f k a0 = some r) :
 Calls Tryd.prog 112 #[.int .i64 a0] w fun e w' => e = .returned (.string r) ∧ Below w.heap.size w w' := by
 have HB := Aside0.mk (Below.refl w.heap.size w)
 have H := h
 clear h
 unfold laws_markText.f at H
 by_cases c2 : a0 ≤ 0
 ·rw [if_pos c2] at H
  have c2b0 := decide_eq_true c2
  clear c2
  obtain rfl := Option.some.inj H
  go_enter Tryd.func112, Tryd.ntmps112
  go_wp2
  go_ret
  exact ⟨ZZab01d2, ZZ605003⟩
 rw [if_neg c2] at H
 have c2b0 := decide_eq_false c2
 clear c2
 have H' := Aside0.mk H
 clear H
 go_enter Tryd.func112, Tryd.ntmps112
 go_wp2
 go_loopg [0, 3] k (fun kq v0 v3 w' => ∃ (x0_1 : Int) (x3_1 : ByteArray), v0 = .int .i64 x0_1 ∧ v3 = .string x3_1 ∧ Aside0 (laws_markText.l0 kq x0_1 x3_1 = some r) ∧ Aside0 (kq ≤ k) ∧ Aside0 (Below w.heap.size w w'))
 case atStart => exact ⟨(a0), ((⟨#[]⟩ : ByteArray)), ZZ0ab324, ZZ0ab324, H', ⟨Nat.le_refl _⟩, ⟨ZZ605003⟩⟩
 case round =>
  clear H'
  try clear c2b0
  obtain ⟨x0_1, x3_1, rfl, rfl, HA, HK1, HB⟩ := hrel
  cases gk with
  | zero => exact absurd HA.out (by simp [laws_markText.l0])
  | succ k1 =>
   have H := HA.out
   clear HA
   simp only [laws_markText.l0] at H
   by_cases c3 : x0_1 > 0
   ·rw [if_pos c3] at H
    have c3b0 : decide (0 < x0_1) = true := decide_eq_true c3
    clear c3
    obtain ⟨y314, hy314⟩ : ∃ y_ : List Int, y_ = (([(wrap64 (48 + (Int.tmod x0_1 10))) % 256] : List Int)) := ⟨_, rfl⟩
    replace H : (if (strOfNums y314).size + x3_1.size ≤ 9223372036854775807 then (laws_markText.l0 k1 (wrap64 (Int.tdiv x0_1 10)) ((strOfNums y314) ++ x3_1)) else (none)) = some r := by first | (rw [hy314]; with_reducible exact H) | (have H2_ := (Option.bind_some _ _).symm.trans H; rw [hy314]; with_reducible exact H2_) | (have H2_ := (Option.bind_some _ _).symm.trans H; with_reducible exact H2_) | with_reducible exact H | (rw [hy314]; exact H) | exact H
    have Ny314 := Aside0.mk hy314
    clear hy314
    obtain ⟨c4, H⟩ := ifY H
    have c4b0 := eq_true c4
    have c4b1 := decide_eq_true c4
    try have c4b2 : (9223372036854775807 < (strOfNums y314).size + x3_1.size) = False := eq_false (Nat.not_lt.2 c4)
    have H' := Aside0.mk H
    clear H
    go_wp2_with (first | ((with_reducible refine gate_dst (N := 12) rfl ?_); refine Kd.R_lit (Kd.int .u8) _ 5 ?hg (N := 12) ?hd (xs := ([(wrap64 (48 + (Int.tmod x0_1 10))) % 256] : List Int)) (inner := [.int .u8 ((wrap64 (48 + (Int.tmod x0_1 10))) % 256)]) (ok := fun _ => True) (okp := fun _ => True) ?hr ?hp (fun _ hk => hk) trivial (Below.refl _ _) (Nat.le_refl _) (by simp) ?_; (case hd => rfl); (case hg => rfl); (case hr => first | (go_simp; done) | (go_simp; rfl)); (case hp => exact (Reps.one (show Kd.M (Kd.int .u8) _ _ _ ((wrap64 (48 + (Int.tmod x0_1 10))) % 256) [.int .u8 ((wrap64 (48 + (Int.tmod x0_1 10))) % 256)] from rfl) (Reps.none _ _))); intro v315 w5 ho6 hb hg_ hnew_; clear hg_ hnew_; (first | rw [← Ny314.out] at ho6 | (simp only [Int.reduceToNat] at ho6; rw [← Ny314.out] at ho6)); have HO316 := Aside0.mk (Kd.R_lower ho6 (below_size ZZ605003)); replace HB := Aside0.mk (below_step ZZ605003 hb); clear hb ho6; have hcv7 := own_string (P := Tryd.prog) Tryd.underlying38 Tryd.underlying5 Tryd.underlying9 (Kd.own_of_R HO316.out)))
    go_roundg k1
    case measure => have := HK1.out; omega
    case rel => exact ⟨(wrap64 (Int.tdiv x0_1 10)), ((strOfNums y314) ++ x3_1), ZZ0ab324, ZZ0ab324, H', ⟨(by have := HK1.out; omega)⟩, ⟨ZZ605003⟩⟩
   rw [if_neg c3] at H
   have c3b0 : decide (0 < x0_1) = false := decide_eq_false c3
   clear c3
   obtain ⟨c8, H⟩ := ifY H
   have c8b0 := eq_true c8
   have c8b1 := decide_eq_true c8
   try have c8b2 : (9223372036854775807 < 1 + x3_1.size) = False := eq_false (Nat.not_lt.2 c8)
   obtain rfl := Option.some.inj H
   go_wp2
   go_ret
   exact ⟨ZZab01d2, ZZ605003⟩
end Go.Proofs.YtccdjchaaeligaaDoor.XFnExactAccountStatement

-- Printed by wip/tools/xprint.py, a program of this session, over the kit's print; Lean checks it.
import Derived.Test.YtccdjchaaeligaaDoorXFnExactTrialBalance7
import Derived.Test.YtccdjchaaeligaaDoorXFnExactTrialBalance0
import Derived.Test.YtccdjchaaeligaaDoorXFnExactTrialBalance1
import Derived.Test.YtccdjchaaeligaaDoorXFnExactTrialBalance2
import Derived.Test.YtccdjchaaeligaaDoorXFnExactTrialBalance4
import Derived.Test.YtccdjchaaeligaaDoorXFnExactTrialBalance8
import Derived.Test.YtccdjchaaeligaaDoorXFnExactTrialBalance9
import Derived.Test.YtccdjchaaeligaaDoorXFnExactTrialBalance13
namespace Go.Proofs.YtccdjchaaeligaaDoor.XFnExactTrialBalance
open Go.Proofs.YtccdjchaaeligaaDoor.Short Go.RowKit Go.Proofs.YtccdjchaaeligaaDoorW.PrintWords Go.Proofs.YtccdjchaaeligaaDoorW.PrintLast Go.Proofs.YtccdjchaaeligaaDoorW.PrintMore
attribute [local go_sem] max2_int min2_int max_two min_two max_three min_three max_four min_four   -- for this text's walks alone
set_option linter.unusedVariables false
set_option linter.unusedSimpArgs false
/-! ### laws_FnExactTrialBalance: function 8 -/
mutual
def laws_FnExactTrialBalance.j0 : Nat → Int → List Int → Int → Bool → List Int → Int → Bool → Bool → List (S109) → List (S58) → List (S48) → List (S63) → Option (Bool)
 | 0, _, _, _, _, _, _, _, _, _, _, _, _ => none
 | k + 1, x1, x6, x7, x8, x10, x11, x12, x54, x321000, x321001, x340000, x340001 => if x54 = true then (some false) else ((laws_toLedger.f k x321000 x321001).bind fun bt346 => ((laws_eqLedger.f k x340000 x340001 bt346.1 bt346.2).bind fun t352 => (if t352 = true then ((laws_markLedger.f k x340000 x340001 1).bind fun bt353 => (if bt353.1 < 0 then (laws_FnExactTrialBalance.j1 k x1 x6 x7 x8 x10 true x321000 x321001) else ((laws_eqIntS.f k x10 x6).bind fun t356 => (if t356 = true then (if x11 = x7 then (laws_FnExactTrialBalance.j1 k x1 x6 x7 x8 x10 (x12 != x8) x321000 x321001) else (laws_FnExactTrialBalance.j1 k x1 x6 x7 x8 x10 true x321000 x321001)) else (laws_FnExactTrialBalance.j1 k x1 x6 x7 x8 x10 true x321000 x321001))))) else (some false))))
def laws_FnExactTrialBalance.j1 : Nat → Int → List Int → Int → Bool → List Int → Bool → List (S109) → List (S58) → Option (Bool)
 | 0, _, _, _, _, _, _, _, _ => none
 | k + 1, x1, x6, x7, x8, x10, x80, x321000, x321001 => if x80 = true then (some false) else ((laws_markIntS.f k x10 1).bind fun bt357 => ((laws_heldIntS.f k bt357.2 1).bind fun t359 => (if t359 < 0 then (some false) else (if t359 = bt357.1 then ((laws_toLedger.f k x321000 x321001).bind fun bt360 => ((impl_TrialBalance.f k bt360.1 bt360.2 x1).bind fun bt366 => ((laws_eqIntS.f k bt366.1 x6).bind fun t371 => (if t371 = true then (if bt366.2.1 = x7 then (laws_FnExactTrialBalance.j2 k bt357.2 bt357.1 (bt366.2.2 != x8)) else (laws_FnExactTrialBalance.j2 k bt357.2 bt357.1 true)) else (laws_FnExactTrialBalance.j2 k bt357.2 bt357.1 true))))) else (some false)))))
def laws_FnExactTrialBalance.j2 : Nat → List Int → Int → Bool → Option (Bool)
 | 0, _, _, _ => none
 | k + 1, x10, x14, x113 => if x113 = true then (some false) else ((laws_heldIntS.f k x10 1).bind fun t372 => (if t372 < 0 then (some false) else (if t372 = x14 then (some true) else (some false))))
end
def laws_FnExactTrialBalance.f (k : Nat) (l0_0 : List (S109)) (l0_1 : List (S58)) (a1 : Int) : Option (Bool) := (laws_szLedger.f k l0_0 l0_1 1048576).bind fun t321 => (if t321 < 0 then (some true) else ((laws_toLedger.f k l0_0 l0_1).bind fun bt322 => ((spec_TrialBalance.f k bt322.1 bt322.2 a1).bind fun bt328 => ((laws_toLedger.f k l0_0 l0_1).bind fun bt333 => ((impl_TrialBalance.f k bt333.1 bt333.2 a1).bind fun bt340 => ((laws_eqIntS.f k bt340.1 bt328.1).bind fun t345 => (if t345 = true then (if bt340.2.1 = bt328.2.1 then (laws_FnExactTrialBalance.j0 k a1 bt328.1 bt328.2.1 bt328.2.2 bt340.1 bt340.2.1 bt340.2.2 (bt340.2.2 != bt328.2.2) l0_0 l0_1 bt333.1 bt333.2) else (laws_FnExactTrialBalance.j0 k a1 bt328.1 bt328.2.1 bt328.2.2 bt340.1 bt340.2.1 bt340.2.2 true l0_0 l0_1 bt333.1 bt333.2)) else (laws_FnExactTrialBalance.j0 k a1 bt328.1 bt328.2.1 bt328.2.2 bt340.1 bt340.2.1 bt340.2.2 true l0_0 l0_1 bt333.1 bt333.2))))))))
theorem laws_FnExactTrialBalance.mono_l : ∀ k, (∀ y0 y1 y2 y3 y4 y5 y6 y7 y8 y9 y10 y11, LeO (laws_FnExactTrialBalance.j0 k y0 y1 y2 y3 y4 y5 y6 y7 y8 y9 y10 y11) (laws_FnExactTrialBalance.j0 (k + 1) y0 y1 y2 y3 y4 y5 y6 y7 y8 y9 y10 y11)) ∧ (∀ y0 y1 y2 y3 y4 y5 y6 y7, LeO (laws_FnExactTrialBalance.j1 k y0 y1 y2 y3 y4 y5 y6 y7) (laws_FnExactTrialBalance.j1 (k + 1) y0 y1 y2 y3 y4 y5 y6 y7)) ∧ (∀ y0 y1 y2, LeO (laws_FnExactTrialBalance.j2 k y0 y1 y2) (laws_FnExactTrialBalance.j2 (k + 1) y0 y1 y2))
 | 0 => ⟨fun _ _ _ _ _ _ _ _ _ _ _ _ r h => by simp [laws_FnExactTrialBalance.j0] at h, fun _ _ _ _ _ _ _ _ r h => by simp [laws_FnExactTrialBalance.j1] at h, fun _ _ _ r h => by simp [laws_FnExactTrialBalance.j2] at h⟩
 | k + 1 => by
  obtain ⟨ih0, ih1, ih2⟩ := laws_FnExactTrialBalance.mono_l k
  refine ⟨?_, ?_, ?_⟩
  all_goals intros
  all_goals (first | unfold laws_FnExactTrialBalance.j0 | unfold laws_FnExactTrialBalance.j1 | unfold laws_FnExactTrialBalance.j2)
  all_goals
   repeat' first
   | (with_reducible exact ih0 _ _ _ _ _ _ _ _ _ _ _ _)
   | (with_reducible exact ih1 _ _ _ _ _ _ _ _)
   | (with_reducible exact ih2 _ _ _)
   | (with_reducible exact impl_TrialBalance.mono _ _ _ _)
   | (with_reducible exact laws_eqIntS.mono _ _ _)
   | (with_reducible exact laws_eqLedger.mono _ _ _ _ _)
   | (with_reducible exact laws_heldIntS.mono _ _ _)
   | (with_reducible exact laws_markIntS.mono _ _ _)
   | (with_reducible exact laws_markLedger.mono _ _ _ _)
   | (with_reducible exact laws_szLedger.mono _ _ _ _)
   | (with_reducible exact laws_toLedger.mono _ _ _)
   | (with_reducible exact spec_TrialBalance.mono _ _ _ _)
   | (with_reducible exact LeO.refl _)
   | (with_reducible exact LeO.none _)
   | (with_reducible refine LeO.ite ?_ ?_)
   | (with_reducible refine LeO.bind ?_ (fun _ => ?_))
   | exact ih0 _ _ _ _ _ _ _ _ _ _ _ _
   | exact ih1 _ _ _ _ _ _ _ _
   | exact ih2 _ _ _
   | exact impl_TrialBalance.mono _ _ _ _
   | exact laws_eqIntS.mono _ _ _
   | exact laws_eqLedger.mono _ _ _ _ _
   | exact laws_heldIntS.mono _ _ _
   | exact laws_markIntS.mono _ _ _
   | exact laws_markLedger.mono _ _ _ _
   | exact laws_szLedger.mono _ _ _ _
   | exact laws_toLedger.mono _ _ _
   | exact spec_TrialBalance.mono _ _ _ _
   | exact LeO.none _
   | refine LeO.ite ?_ ?_
   | refine LeO.bind ?_ (fun _ => ?_)
theorem laws_FnExactTrialBalance.mono : ∀ a0 a1 a2 k, LeO (laws_FnExactTrialBalance.f k a0 a1 a2) (laws_FnExactTrialBalance.f (k + 1) a0 a1 a2) := by
 intro a0 a1 a2 k
 obtain ⟨ih0, ih1, ih2⟩ := laws_FnExactTrialBalance.mono_l k
 unfold laws_FnExactTrialBalance.f
 repeat' first
  | (with_reducible exact ih0 _ _ _ _ _ _ _ _ _ _ _ _)
  | (with_reducible exact ih1 _ _ _ _ _ _ _ _)
  | (with_reducible exact ih2 _ _ _)
  | (with_reducible exact impl_TrialBalance.mono _ _ _ _)
  | (with_reducible exact laws_eqIntS.mono _ _ _)
  | (with_reducible exact laws_eqLedger.mono _ _ _ _ _)
  | (with_reducible exact laws_heldIntS.mono _ _ _)
  | (with_reducible exact laws_markIntS.mono _ _ _)
  | (with_reducible exact laws_markLedger.mono _ _ _ _)
  | (with_reducible exact laws_szLedger.mono _ _ _ _)
  | (with_reducible exact laws_toLedger.mono _ _ _)
  | (with_reducible exact spec_TrialBalance.mono _ _ _ _)
  | (with_reducible exact LeO.refl _)
  | (with_reducible exact LeO.none _)
  | (with_reducible refine LeO.ite ?_ ?_)
  | (with_reducible refine LeO.bind ?_ (fun _ => ?_))
  | exact ih0 _ _ _ _ _ _ _ _ _ _ _ _
  | exact ih1 _ _ _ _ _ _ _ _
  | exact ih2 _ _ _
  | exact impl_TrialBalance.mono _ _ _ _
  | exact laws_eqIntS.mono _ _ _
  | exact laws_eqLedger.mono _ _ _ _ _
  | exact laws_heldIntS.mono _ _ _
  | exact laws_markIntS.mono _ _ _
  | exact laws_markLedger.mono _ _ _ _
  | exact laws_szLedger.mono _ _ _ _
  | exact laws_toLedger.mono _ _ _
  | exact spec_TrialBalance.mono _ _ _ _
  | exact LeO.none _
  | refine LeO.ite ?_ ?_
  | refine LeO.bind ?_ (fun _ => ?_)
set_option maxHeartbeats 8000000 in
set_option maxRecDepth 100000 in
theorem laws_FnExactTrialBalance.calls (k : Nat) (A0_0 : Option Addr) (c0_0 : Nat) (l0_0 : List (S109)) (A0_1 : Option Addr) (c0_1 : Nat) (l0_1 : List (S58)) (a1 : Int) (r : Bool) (w : World) (hr0_0 : Kd.C k109 w A0_0 l0_0.length l0_0) (hc0_0 : l0_0.length ≤ c0_0) (hr0_1 : Kd.C k58 w A0_1 l0_1.length l0_1) (hc0_1 : l0_1.length ≤ c0_1) (h : laws_FnExactTrialBalance.f k l0_0 l0_1 a1 = some r) :
 Calls Tryd.prog 8 #[.agg #[.slice A0_0 l0_0.length c0_0, .slice A0_1 l0_1.length c0_1], .int .i64 a1] w fun e w' => e = .returned (.bool r) ∧ Below w.heap.size w w' := by
 have hu25 := Tryd.underlying25
 have hu31 := Tryd.underlying31
 have HR0_0 := Aside0.mk hr0_0
 have HC0_0 := Aside0.mk hc0_0
 clear hr0_0 hc0_0
 have HR0_1 := Aside0.mk hr0_1
 have HC0_1 := Aside0.mk hc0_1
 clear hr0_1 hc0_1
 have HB := Aside0.mk (Below.refl w.heap.size w)
 have H := h
 clear h
 unfold laws_FnExactTrialBalance.f at H
 obtain ⟨t321, A3, H⟩ := bdY H
 by_cases c4 : t321 < 0
 ·rw [if_pos c4] at H
  have c4b0 := decide_eq_true c4
  clear c4
  obtain rfl := Option.some.inj H
  go_enter Tryd.func8, Tryd.ntmps8
  go_wp2_with (first | ((with_reducible refine gate_dst (N := 2) rfl ?_); refine box_event ?hg (N := 2) ?hd (cs := #[.slice A0_0 l0_0.length c0_0, .slice A0_1 l0_1.length c0_1]) (t := 25) ?hr ?_; (case hd => rfl); (case hg => rfl); (case hr => first | (go_simp; done) | (go_simp; rfl)); intro gb320 hg w5 hbox hb; have BK320 := Aside0.mk (hbox); have GW320 := Aside0.mk ((by rw [hg]; exact (below_size ZZ605003) : w.heap.size ≤ gb320)); have GE320 := Aside0.mk ((by rw [hg]; exact (below_size ZZ605003) : w.heap.size ≤ gb320)); replace HB := Aside0.mk (below_step ZZ605003 hb); clear hb hbox hg; have hcz6_0 : w5.cell? ⟨gb320, 0, none⟩ = some (.slice A0_0 l0_0.length c0_0) := (blk_cell BK320.out 0).trans rfl; have hcz6_1 : w5.cell? ⟨gb320, 1, none⟩ = some (.slice A0_1 l0_1.length c0_1) := (blk_cell BK320.out 1).trans rfl; have hfz6_0 := blk_frozen BK320.out 0; have hfz6_1 := blk_frozen BK320.out 1) | ((with_reducible refine gate_callee (f := 14) rfl ?_); refine goesL_ (some 21) rfl rfl Tryd.func14 (by kernel_rfl) rfl #[.agg #[.slice A0_0 l0_0.length c0_0, .slice A0_1 l0_1.length c0_1], .int .i64 1048576] rfl ZZ19826e ?_; (with_reducible refine (laws_szLedger.calls k _ _ l0_0 _ _ l0_1 1048576 t321 _ ?side1 ?side2 ?side3 ?side4 A3.out).mono ?_); (case side1 => exact ZZ5b25f1); (case side2 => exact HC0_0.out); (case side3 => exact ZZ8ff6b3); (case side4 => exact HC0_1.out); rintro e w7 ⟨rfl, hb⟩; refine ⟨_, rfl, ?_⟩; replace BK320 := Aside0.mk (blk_below (zB BK320) hb); replace HB := Aside0.mk (below_step ZZ295621 hb); (try clear hb); (try clear hb2); (try clear hk); (try clear hi)))
  go_ret
  exact ⟨ZZab01d2, ZZ295621⟩
 rw [if_neg c4] at H
 have c4b0 := decide_eq_false c4
 clear c4
 obtain ⟨⟨t322, t325⟩, A8, H⟩ := bdY H
 try dsimp only at H
 obtain ⟨⟨t328, t331, t332⟩, A9, H⟩ := bdY H
 try dsimp only at H
 obtain ⟨⟨t333, t336⟩, A10, H⟩ := bdY H
 try dsimp only at H
 obtain ⟨⟨t340, t343, t344⟩, A11, H⟩ := bdY H
 try dsimp only at H
 have HC12 := Aside0.mk H
 clear H
 go_enter Tryd.func8, Tryd.ntmps8
 go_upto_region 8 with (first | ((with_reducible refine gate_dst (N := 2) rfl ?_); refine box_event ?hg (N := 2) ?hd (cs := #[.slice A0_0 l0_0.length c0_0, .slice A0_1 l0_1.length c0_1]) (t := 25) ?hr ?_; (case hd => rfl); (case hg => rfl); (case hr => first | (go_simp; done) | (go_simp; rfl)); intro gb320 hg w13 hbox hb; have BK320 := Aside0.mk (hbox); have GW320 := Aside0.mk ((by rw [hg]; exact (below_size ZZ605003) : w.heap.size ≤ gb320)); have GE320 := Aside0.mk ((by rw [hg]; exact (below_size ZZ605003) : w.heap.size ≤ gb320)); replace HB := Aside0.mk (below_step ZZ605003 hb); clear hb hbox hg; have hcz14_0 : w13.cell? ⟨gb320, 0, none⟩ = some (.slice A0_0 l0_0.length c0_0) := (blk_cell BK320.out 0).trans rfl; have hcz14_1 : w13.cell? ⟨gb320, 1, none⟩ = some (.slice A0_1 l0_1.length c0_1) := (blk_cell BK320.out 1).trans rfl; have hfz14_0 := blk_frozen BK320.out 0; have hfz14_1 := blk_frozen BK320.out 1) | ((with_reducible refine gate_callee (f := 14) rfl ?_); refine goesL_ (some 21) rfl rfl Tryd.func14 (by kernel_rfl) rfl #[.agg #[.slice A0_0 l0_0.length c0_0, .slice A0_1 l0_1.length c0_1], .int .i64 1048576] rfl ZZ19826e ?_; (with_reducible refine (laws_szLedger.calls k _ _ l0_0 _ _ l0_1 1048576 t321 _ ?side1 ?side2 ?side3 ?side4 A3.out).mono ?_); (case side1 => exact ZZ5b25f1); (case side2 => exact HC0_0.out); (case side3 => exact ZZ8ff6b3); (case side4 => exact HC0_1.out); rintro e w15 ⟨rfl, hb⟩; refine ⟨_, rfl, ?_⟩; replace BK320 := Aside0.mk (blk_below (zB BK320) hb); replace HB := Aside0.mk (below_step ZZ295621 hb); (try clear hb); (try clear hb2); (try clear hk); (try clear hi); have hcz16_0 : w15.cell? ⟨gb320, 0, none⟩ = some (.slice A0_0 l0_0.length c0_0) := (blk_cell BK320.out 0).trans rfl; have hcz16_1 : w15.cell? ⟨gb320, 1, none⟩ = some (.slice A0_1 l0_1.length c0_1) := (blk_cell BK320.out 1).trans rfl; have hfz16_0 := blk_frozen BK320.out 0; have hfz16_1 := blk_frozen BK320.out 1) | ((with_reducible refine gate_callee (f := 16) rfl ?_); refine goesL_ (some 26) rfl rfl Tryd.func16 (by kernel_rfl) rfl #[.agg #[.slice A0_0 l0_0.length c0_0, .slice A0_1 l0_1.length c0_1]] rfl ZZ19826e ?_; (with_reducible refine (laws_toLedger.calls k _ _ l0_0 _ _ l0_1 t322 t325 _ ?side1 ?side2 ?side3 ?side4 A8.out).mono ?_); (case side1 => exact ZZ5b25f1); (case side2 => exact HC0_0.out); (case side3 => exact ZZ8ff6b3); (case side4 => exact HC0_1.out); rintro e w17 ⟨v323, v326, rfl, ho0, ho1, hb⟩; refine ⟨_, rfl, ?_⟩; have HO324 := Aside0.mk (Kd.R_lower ho0 (below_size ZZ295621)); have HO327 := Aside0.mk (Kd.S_lower ho1 (below_size ZZ295621)); replace BK320 := Aside0.mk (blk_below (zB BK320) hb); replace HB := Aside0.mk (below_step ZZ295621 hb); (try clear hb); (try clear hb2); (try clear hk); (try clear hi); (try clear ho0); (try clear ho1); obtain ⟨Ao18, co18, eo18⟩ := Kd.R_slice HO324.out; subst eo18; obtain ⟨Ao19, co19, eo19⟩ := Kd.S_slice HO327.out; subst eo19) | ((with_reducible refine gate_callee (f := 34) rfl ?_); refine goesL_ (some 28) rfl rfl Tryd.func34 (by kernel_rfl) rfl #[.agg #[.slice Ao18 t322.length co18, .slice Ao19 t325.length co19], .int .i64 a1] rfl ZZ19826e ?_; (with_reducible refine (spec_TrialBalance.calls k _ _ t322 _ _ t325 a1 t328 t331 t332 _ ?side1 ?side2 ?side3 ?side4 A9.out).mono ?_); (case side1 => repeat (first | exact (Kd.R_reads' HO324.out).2.2 | (with_reducible refine Kd.C_alloc ?_ _) | (with_reducible refine Kd.C_drewN ?_ _) | (with_reducible refine Kd.C_drew ?_))); (case side2 => exact (Kd.R_reads' HO324.out).2.1); (case side3 => repeat (first | exact (Kd.S_reads' HO327.out).2.2 | (with_reducible refine Kd.C_alloc ?_ _) | (with_reducible refine Kd.C_drewN ?_ _) | (with_reducible refine Kd.C_drew ?_))); (case side4 => exact (Kd.S_reads' HO327.out).2.1); rintro e w20 ⟨v329, rfl, ho0, hb⟩; refine ⟨_, rfl, ?_⟩; replace HO324 := Aside0.mk (Kd.R_below (zR HO324) hb); replace HO327 := Aside0.mk (Kd.S_below (zS HO327) hb); have HO330 := Aside0.mk (Kd.R_lower ho0 (below_size ZZ295621)); replace BK320 := Aside0.mk (blk_below (zB BK320) hb); replace HB := Aside0.mk (below_step ZZ295621 hb); (try clear hb); (try clear hb2); (try clear hk); (try clear hi); (try clear ho0); have hcz21_0 : w20.cell? ⟨gb320, 0, none⟩ = some (.slice A0_0 l0_0.length c0_0) := (blk_cell BK320.out 0).trans rfl; have hcz21_1 : w20.cell? ⟨gb320, 1, none⟩ = some (.slice A0_1 l0_1.length c0_1) := (blk_cell BK320.out 1).trans rfl; have hfz21_0 := blk_frozen BK320.out 0; have hfz21_1 := blk_frozen BK320.out 1) | ((with_reducible refine gate_callee (f := 16) rfl ?_); refine goesL_ (some 33) rfl rfl Tryd.func16 (by kernel_rfl) rfl #[.agg #[.slice A0_0 l0_0.length c0_0, .slice A0_1 l0_1.length c0_1]] rfl ZZ19826e ?_; (with_reducible refine (laws_toLedger.calls k _ _ l0_0 _ _ l0_1 t333 t336 _ ?side1 ?side2 ?side3 ?side4 A10.out).mono ?_); (case side1 => exact ZZ5b25f1); (case side2 => exact HC0_0.out); (case side3 => exact ZZ8ff6b3); (case side4 => exact HC0_1.out); rintro e w22 ⟨v334, v337, rfl, ho0, ho1, hb⟩; refine ⟨_, rfl, ?_⟩; replace HO330 := Aside0.mk (Kd.R_below (zR HO330) hb); have HO335 := Aside0.mk (Kd.R_lower (Kd.R_new' ho0 (Kd.R_lt (zR HO324))) (below_size ZZ295621)); replace HO324 := Aside0.mk (Kd.R_elder' (zR HO324) (Kd.R_base ho0) hb); have HO338 := Aside0.mk (Kd.S_lower (Kd.S_new' ho1 (Kd.S_lt (zS HO327))) (below_size ZZ295621)); replace HO327 := Aside0.mk (Kd.S_elder' (zS HO327) (Kd.S_base ho1) hb); replace BK320 := Aside0.mk (blk_below (zB BK320) hb); replace HB := Aside0.mk (below_step ZZ295621 hb); (try clear hb); (try clear hb2); (try clear hk); (try clear hi); (try clear ho0); (try clear ho1)) | ((with_reducible refine gate_dst (N := 9) rfl ?_); refine box_event ?hg (N := 9) ?hd (cs := #[.slice none 0 0, .slice none 0 0]) (t := 31) ?hr ?_; (case hd => rfl); (case hg => rfl); (case hr => first | (go_simp; done) | (go_simp; rfl)); intro gb339 hg w23 hbox hb; replace HO324 := Aside0.mk (Kd.R_below (zR HO324) hb); replace HO327 := Aside0.mk (Kd.S_below (zS HO327) hb); replace HO330 := Aside0.mk (Kd.R_below (zR HO330) hb); replace HO335 := Aside0.mk (Kd.R_below (zR HO335) hb); replace HO338 := Aside0.mk (Kd.S_below (zS HO338) hb); have BK339 := Aside0.mk (hbox); have GW339 := Aside0.mk ((by rw [hg]; exact (below_size ZZ295621) : w.heap.size ≤ gb339)); have GE339 := Aside0.mk ((by rw [hg]; exact (below_size ZZ295621) : w.heap.size ≤ gb339)); replace HB := Aside0.mk (below_step ZZ295621 hb); have NB320_339 := Aside0.mk ((by rw [hg]; exact Nat.ne_of_lt (blk_lt (zB BK320)) : gb320 ≠ gb339)); have NB339_320 := Aside0.mk ((by rw [hg]; exact Nat.ne_of_gt (blk_lt (zB BK320)) : gb339 ≠ gb320)); replace BK320 := Aside0.mk (blk_below (zB BK320) hb); clear hb hbox hg; obtain ⟨Ao24, co24, eo24⟩ := Kd.R_slice HO335.out; subst eo24; have hnb25 := NB339_320.out; have hnc25 := NB320_339.out; have hcz26_0 : w23.cell? ⟨gb339, 0, none⟩ = some (.slice none 0 0) := (blk_cell BK339.out 0).trans rfl; have hcz26_1 : w23.cell? ⟨gb339, 1, none⟩ = some (.slice none 0 0) := (blk_cell BK339.out 1).trans rfl; have hfz26_0 := blk_frozen BK339.out 0; have hfz26_1 := blk_frozen BK339.out 1; obtain ⟨Ao27, co27, eo27⟩ := Kd.S_slice HO338.out; subst eo27) | ((with_reducible refine gate_callee (f := 27) rfl ?_); refine goesL_ (some 37) rfl rfl Tryd.func27 (by kernel_rfl) rfl #[.agg #[.slice Ao24 t333.length co24, .slice Ao27 t336.length co27], .int .i64 a1] rfl ZZ19826e ?_; (with_reducible refine (impl_TrialBalance.calls k _ _ t333 _ _ t336 a1 t340 t343 t344 _ ?side1 ?side2 ?side3 ?side4 A11.out).mono ?_); (case side1 => refine (Kd.R_reads' (e := 48) (base := w.heap.size) (ok := fun k_ => (True ∧ some k_ ≠ (.slice Ao18 t322.length co18 : Value).ownBlock)) (n := t333.length) (c := co24) ?_).2.2; exact (by (with_reducible repeat (first | apply Kd.R_alloc | apply Kd.R_drewN | apply Kd.R_drew)); exact (Kd.R_mono (Kd.R_far (p := ⟨gb339, 1, none⟩) (Kd.R_far (p := ⟨gb339, 0, none⟩) (Kd.R_types HO335.out BK339.out (by decide)) (fun _ hk => hk.2) (.slice Ao24 t333.length co24)) (fun _ hk => hk.2) (.slice Ao27 t336.length co27)) (fun _ h_ => h_.1)))); (case side2 => exact (Kd.R_reads' HO335.out).2.1); (case side3 => refine (Kd.S_reads' (e := 63) (base := w.heap.size) (ok := fun k_ => (True ∧ some k_ ≠ (.slice Ao19 t325.length co19 : Value).ownBlock)) (n := t336.length) (c := co27) ?_).2.2; exact (by (with_reducible repeat (first | apply Kd.S_alloc | apply Kd.S_drewN | apply Kd.S_drew)); exact (Kd.S_mono (Kd.S_far (p := ⟨gb339, 1, none⟩) (Kd.S_far (p := ⟨gb339, 0, none⟩) (Kd.S_types HO338.out BK339.out (by decide)) (fun _ hk => hk.2) (.slice Ao24 t333.length co24)) (fun _ hk => hk.2) (.slice Ao27 t336.length co27)) (fun _ h_ => h_.1)))); (case side4 => exact (Kd.S_reads' HO338.out).2.1); rintro e w28 ⟨v341, rfl, ho0, hb⟩; refine ⟨_, rfl, ?_⟩; replace HO324 := Aside0.mk (Kd.R_below (by (with_reducible repeat (first | apply Kd.R_alloc | apply Kd.R_drewN | apply Kd.R_drew)); exact (Kd.R_mono (Kd.R_far (p := ⟨gb339, 1, none⟩) (Kd.R_far (p := ⟨gb339, 0, none⟩) (Kd.R_types HO324.out BK339.out (by decide)) (fun _ hk => hk.2) (.slice Ao24 t333.length co24)) (fun _ hk => hk.2) (.slice Ao27 t336.length co27)) (fun _ h_ => h_.1))) hb); replace HO327 := Aside0.mk (Kd.S_below (by (with_reducible repeat (first | apply Kd.S_alloc | apply Kd.S_drewN | apply Kd.S_drew)); exact (Kd.S_mono (Kd.S_far (p := ⟨gb339, 1, none⟩) (Kd.S_far (p := ⟨gb339, 0, none⟩) (Kd.S_types HO327.out BK339.out (by decide)) (fun _ hk => hk.2) (.slice Ao24 t333.length co24)) (fun _ hk => hk.2) (.slice Ao27 t336.length co27)) (fun _ h_ => h_.1))) hb); replace HO335 := Aside0.mk (Kd.R_below (by (with_reducible repeat (first | apply Kd.R_alloc | apply Kd.R_drewN | apply Kd.R_drew)); exact (Kd.R_mono (Kd.R_far (p := ⟨gb339, 1, none⟩) (Kd.R_far (p := ⟨gb339, 0, none⟩) (Kd.R_types HO335.out BK339.out (by decide)) (fun _ hk => hk.2) (.slice Ao24 t333.length co24)) (fun _ hk => hk.2) (.slice Ao27 t336.length co27)) (fun _ h_ => h_.1))) hb); replace HO338 := Aside0.mk (Kd.S_below (by (with_reducible repeat (first | apply Kd.S_alloc | apply Kd.S_drewN | apply Kd.S_drew)); exact (Kd.S_mono (Kd.S_far (p := ⟨gb339, 1, none⟩) (Kd.S_far (p := ⟨gb339, 0, none⟩) (Kd.S_types HO338.out BK339.out (by decide)) (fun _ hk => hk.2) (.slice Ao24 t333.length co24)) (fun _ hk => hk.2) (.slice Ao27 t336.length co27)) (fun _ h_ => h_.1))) hb); have HO342 := Aside0.mk (Kd.R_lower (Kd.R_new' ho0 (Kd.R_lt (by (with_reducible repeat (first | apply Kd.R_alloc | apply Kd.R_drewN | apply Kd.R_drew)); exact (Kd.R_mono (Kd.R_far (p := ⟨gb339, 1, none⟩) (Kd.R_far (p := ⟨gb339, 0, none⟩) (Kd.R_types HO330.out BK339.out (by decide)) (fun _ hk => hk.2) (.slice Ao24 t333.length co24)) (fun _ hk => hk.2) (.slice Ao27 t336.length co27)) (fun _ h_ => h_.1))))) (below_size ZZ295621)); replace HO330 := Aside0.mk (Kd.R_elder' (by (with_reducible repeat (first | apply Kd.R_alloc | apply Kd.R_drewN | apply Kd.R_drew)); exact (Kd.R_mono (Kd.R_far (p := ⟨gb339, 1, none⟩) (Kd.R_far (p := ⟨gb339, 0, none⟩) (Kd.R_types HO330.out BK339.out (by decide)) (fun _ hk => hk.2) (.slice Ao24 t333.length co24)) (fun _ hk => hk.2) (.slice Ao27 t336.length co27)) (fun _ h_ => h_.1))) (Kd.R_base ho0) hb); replace BK320 := Aside0.mk (blk_below (g := gb320) (o := .cells #[.slice A0_0 l0_0.length c0_0, .slice A0_1 l0_1.length c0_1] 25 (0, 0)) (by (with_reducible repeat (first | refine blk_drewN ?_ _ | refine blk_drew ?_ | refine blk_alloc ?_ _)); refine blk_far ?_ NB320_339.out _; (with_reducible repeat (first | refine blk_drewN ?_ _ | refine blk_drew ?_ | refine blk_alloc ?_ _)); refine blk_far ?_ NB320_339.out _; (with_reducible repeat (first | refine blk_drewN ?_ _ | refine blk_drew ?_ | refine blk_alloc ?_ _)); exact BK320.out) hb); replace BK339 := Aside0.mk (blk_below (g := gb339) (o := .cells #[.slice Ao24 t333.length co24, .slice Ao27 t336.length co27] 31 (0, 0)) (by (with_reducible repeat (first | refine blk_drewN ?_ _ | refine blk_drew ?_ | refine blk_alloc ?_ _)); refine blk_put (cs := #[.slice Ao24 t333.length co24, .slice none 0 0]) ?_ 1 _ rfl; (with_reducible repeat (first | refine blk_drewN ?_ _ | refine blk_drew ?_ | refine blk_alloc ?_ _)); refine blk_put (cs := #[.slice none 0 0, .slice none 0 0]) ?_ 0 _ rfl; (with_reducible repeat (first | refine blk_drewN ?_ _ | refine blk_drew ?_ | refine blk_alloc ?_ _)); exact BK339.out) hb); replace HB := Aside0.mk (below_step ZZ295621 hb); (try clear hb); (try clear hb2); (try clear hk); (try clear hi); (try clear ho0)))
 (try simp only [Act.put, List.setIfInBounds_toArray, List.set_cons_zero, List.set_cons_succ])
 go_cut [54] (fun v54 wc => ∃ (kq : Nat) (x54_11 : Bool), v54 = .bool x54_11 ∧ Aside0 (laws_FnExactTrialBalance.j0 kq a1 t328 t331 t332 t340 t343 t344 x54_11 l0_0 l0_1 t333 t336 = some r) ∧ Aside0 (kq ≤ k) ∧ Aside0 (Kd.R (Kd.int .i64) 3 wc w.heap.size (fun k_ => some k_ ≠ (v341 : Value).ownBlock) v329 t328) ∧ Aside0 (Kd.R (Kd.int .i64) 3 wc w.heap.size (fun k_ => some k_ ≠ (v329 : Value).ownBlock) v341 t340) ∧ Aside0 (Kd.R k48 48 wc w.heap.size (fun _ => True) (.slice Ao24 t333.length co24) t333) ∧ Aside0 (Kd.S k63 63 wc w.heap.size (fun _ => True) (.slice Ao27 t336.length co27) t336) ∧ Aside0 (wc.heap[gb320]? = some (.cells #[(.slice A0_0 l0_0.length c0_0), (.slice A0_1 l0_1.length c0_1)] 25 (0, 0))) ∧ Aside0 (wc.heap[gb339]? = some (.cells #[(.slice Ao24 t333.length co24), (.slice Ao27 t336.length co27)] 31 (0, 0))) ∧ Aside0 (Below w.heap.size w wc))
 case first =>
  have H := HC12.out
  clear HC12
  obtain ⟨t345, A29, H⟩ := bdY H
  by_cases c30 : t345 = true
  ·subst c30
   have H1 : (if t343 = t331 then (laws_FnExactTrialBalance.j0 k a1 t328 t331 t332 t340 t343 t344 (t344 != t332) l0_0 l0_1 t333 t336) else (laws_FnExactTrialBalance.j0 k a1 t328 t331 t332 t340 t343 t344 true l0_0 l0_1 t333 t336)) = some r := by rw [if_pos rfl] at H; exact H
   clear H
   have H := H1
   clear H1
   by_cases c31 : t343 = t331
   ·rw [if_pos c31] at H
    have c31b0 := beq_iff_eq.mpr c31
    have c31b1 := bne_eq_false_iff_eq.mpr c31
    clear c31
    (first | rw [c31b0] | (simp only [i64_w, i32_w]; rw [c31b0]) | skip)
    have H' := Aside0.mk H
    clear H
    obtain ⟨Ao32, co32, eo32⟩ := Kd.R_slice HO342.out
    subst eo32
    obtain ⟨Ao33, co33, eo33⟩ := Kd.R_slice HO330.out
    subst eo33
    go_wp2_with (first | ((with_reducible refine gate_callee (f := 30) rfl ?_); refine goesL_ (some 43) rfl rfl Tryd.func30 (by kernel_rfl) rfl #[.slice Ao32 t340.length co32, .slice Ao33 t328.length co33] rfl ZZ19826e ?_; (with_reducible refine (laws_eqIntS.calls k _ _ t340 _ _ t328 true _ ?side1 ?side2 ?side3 ?side4 A29.out).mono ?_); (case side1 => repeat (first | exact (Kd.R_reads' HO342.out).2.2 | (with_reducible refine Kd.C_alloc ?_ _) | (with_reducible refine Kd.C_drewN ?_ _) | (with_reducible refine Kd.C_drew ?_))); (case side2 => exact (Kd.R_reads' HO342.out).2.1); (case side3 => repeat (first | exact (Kd.R_reads' HO330.out).2.2 | (with_reducible refine Kd.C_alloc ?_ _) | (with_reducible refine Kd.C_drewN ?_ _) | (with_reducible refine Kd.C_drew ?_))); (case side4 => exact (Kd.R_reads' HO330.out).2.1); rintro e w' ⟨rfl, ⟨nd, rfl⟩⟩; refine ⟨_, rfl, ?_⟩))
    go_meet
    case rel => exact ⟨_, ((t344 != t332)), ZZ0ab324, H', ⟨ZZ81c739⟩, ⟨(by (with_reducible repeat (first | apply Kd.R_alloc | apply Kd.R_drewN | apply Kd.R_drew)); exact Kd.R_mono HO330.out (fun _ hk => hk.2))⟩, ⟨(by (with_reducible repeat (first | apply Kd.R_alloc | apply Kd.R_drewN | apply Kd.R_drew)); exact Kd.R_mono HO342.out (fun _ hk => hk.2))⟩, ⟨(by (with_reducible repeat (first | apply Kd.R_alloc | apply Kd.R_drewN | apply Kd.R_drew)); exact Kd.R_mono HO335.out (fun _ hk => trivial))⟩, ⟨(by (with_reducible repeat (first | apply Kd.S_alloc | apply Kd.S_drewN | apply Kd.S_drew)); exact Kd.S_mono HO338.out (fun _ hk => trivial))⟩, ⟨(zB BK320)⟩, ⟨(zB BK339)⟩, ⟨ZZ295621⟩⟩
   rw [if_neg c31] at H
   have c31b0 := beq_eq_false_iff_ne.mpr c31
   have c31b1 := bne_iff_ne.mpr c31
   (first | rw [c31b0] | (simp only [i64_w, i32_w]; rw [c31b0]) | skip)
   have H' := Aside0.mk H
   clear H
   obtain ⟨Ao34, co34, eo34⟩ := Kd.R_slice HO342.out
   subst eo34
   obtain ⟨Ao35, co35, eo35⟩ := Kd.R_slice HO330.out
   subst eo35
   go_wp2_with (first | ((with_reducible refine gate_callee (f := 30) rfl ?_); refine goesL_ (some 43) rfl rfl Tryd.func30 (by kernel_rfl) rfl #[.slice Ao34 t340.length co34, .slice Ao35 t328.length co35] rfl ZZ19826e ?_; (with_reducible refine (laws_eqIntS.calls k _ _ t340 _ _ t328 true _ ?side1 ?side2 ?side3 ?side4 A29.out).mono ?_); (case side1 => repeat (first | exact (Kd.R_reads' HO342.out).2.2 | (with_reducible refine Kd.C_alloc ?_ _) | (with_reducible refine Kd.C_drewN ?_ _) | (with_reducible refine Kd.C_drew ?_))); (case side2 => exact (Kd.R_reads' HO342.out).2.1); (case side3 => repeat (first | exact (Kd.R_reads' HO330.out).2.2 | (with_reducible refine Kd.C_alloc ?_ _) | (with_reducible refine Kd.C_drewN ?_ _) | (with_reducible refine Kd.C_drew ?_))); (case side4 => exact (Kd.R_reads' HO330.out).2.1); rintro e w' ⟨rfl, ⟨nd, rfl⟩⟩; refine ⟨_, rfl, ?_⟩))
   go_meet
   case rel => exact ⟨_, (true), ZZ0ab324, H', ⟨ZZ81c739⟩, ⟨(by (with_reducible repeat (first | apply Kd.R_alloc | apply Kd.R_drewN | apply Kd.R_drew)); exact Kd.R_mono HO330.out (fun _ hk => hk.2))⟩, ⟨(by (with_reducible repeat (first | apply Kd.R_alloc | apply Kd.R_drewN | apply Kd.R_drew)); exact Kd.R_mono HO342.out (fun _ hk => hk.2))⟩, ⟨(by (with_reducible repeat (first | apply Kd.R_alloc | apply Kd.R_drewN | apply Kd.R_drew)); exact Kd.R_mono HO335.out (fun _ hk => trivial))⟩, ⟨(by (with_reducible repeat (first | apply Kd.S_alloc | apply Kd.S_drewN | apply Kd.S_drew)); exact Kd.S_mono HO338.out (fun _ hk => trivial))⟩, ⟨(zB BK320)⟩, ⟨(zB BK339)⟩, ⟨ZZ295621⟩⟩
  replace c30 := Bool.eq_false_iff.mpr c30
  subst c30
  have H1 : (laws_FnExactTrialBalance.j0 k a1 t328 t331 t332 t340 t343 t344 true l0_0 l0_1 t333 t336) = some r := by rw [if_neg (show ¬ (false = true) by decide)] at H; exact H
  clear H
  have H := H1
  clear H1
  have H' := Aside0.mk H
  clear H
  obtain ⟨Ao36, co36, eo36⟩ := Kd.R_slice HO342.out
  subst eo36
  obtain ⟨Ao37, co37, eo37⟩ := Kd.R_slice HO330.out
  subst eo37
  go_wp2_with (first | ((with_reducible refine gate_callee (f := 30) rfl ?_); refine goesL_ (some 43) rfl rfl Tryd.func30 (by kernel_rfl) rfl #[.slice Ao36 t340.length co36, .slice Ao37 t328.length co37] rfl ZZ19826e ?_; (with_reducible refine (laws_eqIntS.calls k _ _ t340 _ _ t328 false _ ?side1 ?side2 ?side3 ?side4 A29.out).mono ?_); (case side1 => repeat (first | exact (Kd.R_reads' HO342.out).2.2 | (with_reducible refine Kd.C_alloc ?_ _) | (with_reducible refine Kd.C_drewN ?_ _) | (with_reducible refine Kd.C_drew ?_))); (case side2 => exact (Kd.R_reads' HO342.out).2.1); (case side3 => repeat (first | exact (Kd.R_reads' HO330.out).2.2 | (with_reducible refine Kd.C_alloc ?_ _) | (with_reducible refine Kd.C_drewN ?_ _) | (with_reducible refine Kd.C_drew ?_))); (case side4 => exact (Kd.R_reads' HO330.out).2.1); rintro e w' ⟨rfl, ⟨nd, rfl⟩⟩; refine ⟨_, rfl, ?_⟩))
  go_meet
  case rel => exact ⟨_, (true), ZZ0ab324, H', ⟨ZZ81c739⟩, ⟨(by (with_reducible repeat (first | apply Kd.R_alloc | apply Kd.R_drewN | apply Kd.R_drew)); exact Kd.R_mono HO330.out (fun _ hk => hk.2))⟩, ⟨(by (with_reducible repeat (first | apply Kd.R_alloc | apply Kd.R_drewN | apply Kd.R_drew)); exact Kd.R_mono HO342.out (fun _ hk => hk.2))⟩, ⟨(by (with_reducible repeat (first | apply Kd.R_alloc | apply Kd.R_drewN | apply Kd.R_drew)); exact Kd.R_mono HO335.out (fun _ hk => trivial))⟩, ⟨(by (with_reducible repeat (first | apply Kd.S_alloc | apply Kd.S_drewN | apply Kd.S_drew)); exact Kd.S_mono HO338.out (fun _ hk => trivial))⟩, ⟨(zB BK320)⟩, ⟨(zB BK339)⟩, ⟨ZZ295621⟩⟩
 case rest =>
  clear HC12
  try clear c4b0
  try clear c30
  try clear c31
  try clear c31b0
  try clear c31b1
  try clear hcz14_0
  try clear hcz14_1
  try clear hcz16_0
  try clear hcz16_1
  try clear hcz21_0
  try clear hcz21_1
  try clear hcz26_0
  try clear hcz26_1
  try clear hcz6_0
  try clear hcz6_1
  try clear hfz14_0
  try clear hfz14_1
  try clear hfz16_0
  try clear hfz16_1
  try clear hfz21_0
  try clear hfz21_1
  try clear hfz26_0
  try clear hfz26_1
  try clear hfz6_0
  try clear hfz6_1
  obtain ⟨kq, x54_11, rfl, HA, HJ11, HO_6, HO_10, HO_340000, HO_340001, BK320, BK339, HB⟩ := hcut
  cases kq with
  | zero => exact absurd HA.out (by simp [laws_FnExactTrialBalance.j0])
  | succ kj11 =>
   have H := HA.out
   clear HA
   simp only [laws_FnExactTrialBalance.j0] at H
   by_cases c38 : x54_11 = true
   ·subst c38
    have H1 : (some false) = some r := by rw [if_pos rfl] at H; exact H
    clear H
    have H := H1
    clear H1
    obtain rfl := Option.some.inj H
    go_wp2
    go_ret
    exact ⟨ZZab01d2, ZZ295621⟩
   replace c38 := Bool.eq_false_iff.mpr c38
   subst c38
   have H1 : ((laws_toLedger.f kj11 l0_0 l0_1).bind fun bt346 => ((laws_eqLedger.f kj11 t333 t336 bt346.1 bt346.2).bind fun t352 => (if t352 = true then ((laws_markLedger.f kj11 t333 t336 1).bind fun bt353 => (if bt353.1 < 0 then (laws_FnExactTrialBalance.j1 kj11 a1 t328 t331 t332 t340 true l0_0 l0_1) else ((laws_eqIntS.f kj11 t340 t328).bind fun t356 => (if t356 = true then (if t343 = t331 then (laws_FnExactTrialBalance.j1 kj11 a1 t328 t331 t332 t340 (t344 != t332) l0_0 l0_1) else (laws_FnExactTrialBalance.j1 kj11 a1 t328 t331 t332 t340 true l0_0 l0_1)) else (laws_FnExactTrialBalance.j1 kj11 a1 t328 t331 t332 t340 true l0_0 l0_1))))) else (some false)))) = some r := by rw [if_neg (show ¬ (false = true) by decide)] at H; exact H
   clear H
   have H := H1
   clear H1
   obtain ⟨⟨t346, t349⟩, A39, H⟩ := bdY H
   try dsimp only at H
   obtain ⟨t352, A40, H⟩ := bdY H
   by_cases c41 : t352 = true
   ·subst c41
    have H1 : ((laws_markLedger.f kj11 t333 t336 1).bind fun bt353 => (if bt353.1 < 0 then (laws_FnExactTrialBalance.j1 kj11 a1 t328 t331 t332 t340 true l0_0 l0_1) else ((laws_eqIntS.f kj11 t340 t328).bind fun t356 => (if t356 = true then (if t343 = t331 then (laws_FnExactTrialBalance.j1 kj11 a1 t328 t331 t332 t340 (t344 != t332) l0_0 l0_1) else (laws_FnExactTrialBalance.j1 kj11 a1 t328 t331 t332 t340 true l0_0 l0_1)) else (laws_FnExactTrialBalance.j1 kj11 a1 t328 t331 t332 t340 true l0_0 l0_1))))) = some r := by rw [if_pos rfl] at H; exact H
    clear H
    have H := H1
    clear H1
    obtain ⟨⟨t353, t354, t355⟩, A42, H⟩ := bdY H
    try dsimp only at H
    have HC43 := Aside0.mk H
    clear H
    try go_wp2
    replace HO_6 := Aside0.mk (Kd.R_drew HO_6.out)
    replace HO_10 := Aside0.mk (Kd.R_drew HO_10.out)
    replace HO_340000 := Aside0.mk (Kd.R_drew HO_340000.out)
    replace HO_340001 := Aside0.mk (Kd.S_drew HO_340001.out)
    replace BK320 := Aside0.mk (blk_drew BK320.out)
    replace BK339 := Aside0.mk (blk_drew BK339.out)
    replace HB := Aside0.mk (below_drew1 HB.out)
    refine start_ (n := 5) (S := fun w' => w'.cell? ⟨gb339, 0, none⟩ = some (.slice Ao24 t333.length co24) ∧ w'.cell? ⟨gb339, 1, none⟩ = some (.slice Ao27 t336.length co27) ∧ w'.cell? ⟨gb320, 0, none⟩ = some (.slice A0_0 l0_0.length c0_0) ∧ w'.cell? ⟨gb320, 1, none⟩ = some (.slice A0_1 l0_1.length c0_1)) (ds := []) #[false, false, false, false, false] (by kernel_rfl) rfl rfl ⟨(blk_cell BK339.out 0).trans rfl, (blk_cell BK339.out 1).trans rfl, (blk_cell BK320.out 0).trans rfl, (blk_cell BK320.out 1).trans rfl⟩ (fun hHeld => ?_)
    generalize wc.drew = w44 at HO_6 HO_10 HO_340000 HO_340001 BK320 BK339 HB hHeld ⊢
    refine take_ (i := 0) (N := some 55) (v := ?_) (a' := ?_) #[true, false, false, false, false] rfl rfl (by kernel_rfl) (fun _ _ _ h => h) (Or.inl ⟨(by rfl), ?_⟩) hHeld ?_ ?_
    rotate_left
    ·rintro w' ⟨s0, s1, s2, s3⟩
     go_simp
     with_reducible rfl
    rotate_left
    ·simp only [Act.put, List.setIfInBounds_toArray, List.set_cons_zero, List.set_cons_succ, i64_w, i32_w]
     rfl
    refine take_ (i := 1) (N := some 56) (v := ?_) (a' := ?_) #[true, true, false, false, false] rfl rfl (by kernel_rfl) (fun _ _ _ h => h) (Or.inl ⟨(by rfl), ?_⟩) hHeld ?_ ?_
    rotate_left
    ·rintro w' ⟨s0, s1, s2, s3⟩
     go_simp
     with_reducible rfl
    rotate_left
    ·simp only [Act.put, List.setIfInBounds_toArray, List.set_cons_zero, List.set_cons_succ, i64_w, i32_w]
     rfl
    refine one_ (i := 2) (N := some 57) #[true, true, true, false, false] rfl rfl (by kernel_rfl) (by decide) (fun K hK => ?_)
    refine goes_ Tryd.func16 (by kernel_rfl) rfl #[.agg #[.slice A0_0 l0_0.length c0_0, .slice A0_1 l0_1.length c0_1]] (by rfl) rfl rfl ZZ19826e ?_
    with_reducible refine (laws_toLedger.calls kj11 _ _ l0_0 _ _ l0_1 t346 t349 _ ?side1 ?side2 ?side3 ?side4 A39.out).mono ?_
    (case side1 => exact ZZ5b25f1)
    (case side2 => exact HC0_0.out)
    (case side3 => exact ZZ8ff6b3)
    (case side4 => exact HC0_1.out)
    rintro e w45 ⟨v347, v350, rfl, ho0, ho1, hb⟩
    refine ⟨_, rfl, ?_⟩
    replace HO_6 := Aside0.mk (Kd.R_below (zR HO_6) hb)
    replace HO_10 := Aside0.mk (Kd.R_below (zR HO_10) hb)
    have HO348 := Aside0.mk (Kd.R_lower (Kd.R_new' ho0 (Kd.R_lt (zR HO_340000))) (below_size ZZ295621))
    replace HO_340000 := Aside0.mk (Kd.R_elder' (zR HO_340000) (Kd.R_base ho0) hb)
    have HO351 := Aside0.mk (Kd.S_lower (Kd.S_new' ho1 (Kd.S_lt (zS HO_340001))) (below_size ZZ295621))
    replace HO_340001 := Aside0.mk (Kd.S_elder' (zS HO_340001) (Kd.S_base ho1) hb)
    replace BK320 := Aside0.mk (blk_below (zB BK320) hb)
    replace BK339 := Aside0.mk (blk_below (zB BK339) hb)
    replace HB := Aside0.mk (below_step ZZ295621 hb)
    (try clear hb)
    (try clear hb2)
    (try clear hk)
    (try clear hi)
    (try clear ho0)
    (try clear ho1)
    obtain ⟨Ao46, co46, eo46⟩ := Kd.R_slice HO348.out
    (first | subst eo46 | (injection eo46 with f1_ f2_ f3_; have f4_ := f1_.symm; have f5_ := f3_.symm; clear f1_ f2_ f3_; subst f4_; subst f5_))
    obtain ⟨Ao47, co47, eo47⟩ := Kd.S_slice HO351.out
    (first | subst eo47 | (injection eo47 with f1_ f2_ f3_; have f4_ := f1_.symm; have f5_ := f3_.symm; clear f1_ f2_ f3_; subst f4_; subst f5_))
    refine hK.out _ _ ⟨(blk_cell BK339.out 0).trans rfl, (blk_cell BK339.out 1).trans rfl, (blk_cell BK320.out 0).trans rfl, (blk_cell BK320.out 1).trans rfl⟩ (fun hHeld => ?_)
    clear hK K
    refine norm_ (a' := ?_) ?_ ?_
    rotate_left
    ·show Act.put _ (some 57) _ = _
     simp only [Act.put, List.setIfInBounds_toArray, List.set_cons_zero, List.set_cons_succ, i64_w, i32_w]
     rfl
    refine one_ (i := 3) (N := some 58) #[true, true, true, true, false] rfl rfl (by kernel_rfl) (by decide) (fun K hK => ?_)
    refine goes_ Tryd.func18 (by kernel_rfl) rfl #[.agg #[.slice Ao24 t333.length co24, .slice Ao27 t336.length co27], .agg #[.slice Ao46 t346.length co46, .slice Ao47 t349.length co47]] (by rfl) rfl rfl ZZ19826e ?_
    with_reducible refine (laws_eqLedger.calls kj11 _ _ t333 _ _ t336 _ _ t346 _ _ t349 true _ ?side1 ?side2 ?side3 ?side4 ?side5 ?side6 ?side7 ?side8 A40.out).mono ?_
    (case side1 => repeat (first | exact (Kd.R_reads' HO_340000.out).2.2 | (with_reducible refine Kd.C_alloc ?_ _) | (with_reducible refine Kd.C_drewN ?_ _) | (with_reducible refine Kd.C_drew ?_)))
    (case side2 => exact (Kd.R_reads' HO_340000.out).2.1)
    (case side3 => repeat (first | exact (Kd.S_reads' HO_340001.out).2.2 | (with_reducible refine Kd.C_alloc ?_ _) | (with_reducible refine Kd.C_drewN ?_ _) | (with_reducible refine Kd.C_drew ?_)))
    (case side4 => exact (Kd.S_reads' HO_340001.out).2.1)
    (case side5 => repeat (first | exact (Kd.R_reads' HO348.out).2.2 | (with_reducible refine Kd.C_alloc ?_ _) | (with_reducible refine Kd.C_drewN ?_ _) | (with_reducible refine Kd.C_drew ?_)))
    (case side6 => exact (Kd.R_reads' HO348.out).2.1)
    (case side7 => repeat (first | exact (Kd.S_reads' HO351.out).2.2 | (with_reducible refine Kd.C_alloc ?_ _) | (with_reducible refine Kd.C_drewN ?_ _) | (with_reducible refine Kd.C_drew ?_)))
    (case side8 => exact (Kd.S_reads' HO351.out).2.1)
    rintro e w48 ⟨rfl, hb⟩
    refine ⟨_, rfl, ?_⟩
    replace HO_6 := Aside0.mk (Kd.R_below (zR HO_6) hb)
    replace HO_10 := Aside0.mk (Kd.R_below (zR HO_10) hb)
    replace HO_340000 := Aside0.mk (Kd.R_below (zR HO_340000) hb)
    replace HO_340001 := Aside0.mk (Kd.S_below (zS HO_340001) hb)
    replace HO348 := Aside0.mk (Kd.R_below (zR HO348) hb)
    replace HO351 := Aside0.mk (Kd.S_below (zS HO351) hb)
    replace BK320 := Aside0.mk (blk_below (zB BK320) hb)
    replace BK339 := Aside0.mk (blk_below (zB BK339) hb)
    replace HB := Aside0.mk (below_step ZZ295621 hb)
    (try clear hb)
    (try clear hb2)
    (try clear hk)
    (try clear hi)
    refine hK.out _ _ ⟨(blk_cell BK339.out 0).trans rfl, (blk_cell BK339.out 1).trans rfl, (blk_cell BK320.out 0).trans rfl, (blk_cell BK320.out 1).trans rfl⟩ (fun hHeld => ?_)
    clear hK K
    refine norm_ (a' := ?_) ?_ ?_
    rotate_left
    ·show Act.put _ (some 58) _ = _
     simp only [Act.put, List.setIfInBounds_toArray, List.set_cons_zero, List.set_cons_succ, i64_w, i32_w]
     rfl
    refine pure_ (i := 4) (N := some 59) (v := ?_) (a' := ?_) #[true, true, true, true, true] rfl rfl (by kernel_rfl) (fun _ _ _ h => h) (Or.inl ⟨(by rfl), ?_⟩) ?_ ?_
    rotate_left
    ·intro w'
     go_simp
     with_reducible rfl
    rotate_left
    ·simp only [Act.put, List.setIfInBounds_toArray, List.set_cons_zero, List.set_cons_succ, i64_w, i32_w]
     rfl
    refine done_ (by kernel_rfl) ?_
    have hnb49 := NB339_320.out
    have hnc49 := NB320_339.out
    have hcz50_0 : w48.cell? ⟨gb339, 0, none⟩ = some (.slice Ao24 t333.length co24) := (blk_cell BK339.out 0).trans rfl
    have hcz50_1 : w48.cell? ⟨gb339, 1, none⟩ = some (.slice Ao27 t336.length co27) := (blk_cell BK339.out 1).trans rfl
    have hfz50_0 := blk_frozen BK339.out 0
    have hfz50_1 := blk_frozen BK339.out 1
    go_upto_region 14 with (first | ((with_reducible refine gate_callee (f := 31) rfl ?_); refine goesL_ (some 62) rfl rfl Tryd.func31 (by kernel_rfl) rfl #[.agg #[.slice Ao24 t333.length co24, .slice Ao27 t336.length co27], .int .i64 1] rfl ZZ19826e ?_; (with_reducible refine (laws_markLedger.calls kj11 (fun k_ => some k_ = (.slice Ao24 t333.length co24 : Value).ownBlock) (.slice Ao24 t333.length co24) t333 ?P0_1 (.slice Ao27 t336.length co27) t336 1 t353 t354 t355 w _ ?side1 ?side2 ?side3 A42.out).mono ?_); (case side1 => repeat (first | (with_reducible first | exact HB.out | apply below_alloc | apply pw_below_drewN | apply below_drew1 | refine below_set ?_ (Aside0.out (by assumption))) | exact HB.out)); (case side2 => exact Kd.R_tight rfl HO_340000.out); (case side3 => exact Kd.S_bound HO_340001.out); rintro e w51 ⟨rfl, hy0, hy1, hb, hkp⟩; refine ⟨_, rfl, ?_⟩; replace HO_6 := Aside0.mk (Kd.R_mono (ok' := fun k_ => some k_ ≠ (v341 : Value).ownBlock) (Kd.R_keptB ((Kd.R_bound (Kd.R_apart' HO_6.out (Kd.R_typed HO_340000.out) (by decide)))) hkp (fun k_ hk_ hs_ => Or.elim hs_ (fun e_ => (hk_.1.2) e_) (fun e_ => (fun e_ => Kd.typed_ne (hk_.2).2.2 e_.2.2.2 (by decide)) e_))) (fun k_ hk_ => hk_.1.1.1)); replace HO_10 := Aside0.mk (Kd.R_mono (ok' := fun k_ => some k_ ≠ (v329 : Value).ownBlock) (Kd.R_keptB ((Kd.R_bound (Kd.R_apart' HO_10.out (Kd.R_typed HO_340000.out) (by decide)))) hkp (fun k_ hk_ hs_ => Or.elim hs_ (fun e_ => (hk_.1.2) e_) (fun e_ => (fun e_ => Kd.typed_ne (hk_.2).2.2 e_.2.2.2 (by decide)) e_))) (fun k_ hk_ => hk_.1.1.1)); replace HO_340001 := Aside0.mk (Kd.S_mono (ok' := fun k_ => (True ∧ some k_ ≠ (.slice Ao47 t349.length co47 : Value).ownBlock)) (Kd.S_bound hy1) (fun k_ hk_ => Or.elim hk_.1 (fun hs_ => Or.elim hs_ (fun e_ => (fun h_ => (Kd.typed_own hk_.2.2.2 (Kd.R_typed hy0 k_ h_.symm) (by decide)).elim) e_) (fun e_ => (fun h_ => h_.1) e_)) (fun hn_ => ⟨trivial, fun e_ => Nat.not_le.2 (Kd.S_lt HO351.out k_ e_.symm) hn_⟩))); replace BK320 := Aside0.mk (blk_kept (zB BK320) hkp (fun hs_ => Or.elim hs_ (fun e_ => (fun e_ => (Kd.R_ne HO_340000.out BK320.out (by decide)) e_) e_) (fun e_ => (fun e_ => Kd.typed_box e_.2.2.2 (zB BK320) (by decide)) e_))); replace BK339 := Aside0.mk (blk_kept (zB BK339) hkp (fun hs_ => Or.elim hs_ (fun e_ => (fun e_ => (Kd.R_ne HO_340000.out BK339.out (by decide)) e_) e_) (fun e_ => (fun e_ => Kd.typed_box e_.2.2.2 (zB BK339) (by decide)) e_))); replace HO_340000 := Aside0.mk (Kd.R_reok rfl hy0 (fun k_ e_ => HO_340000.out.1 k_ e_)); replace HO348 := Aside0.mk (Kd.R_mono (ok' := fun k_ => some k_ ≠ (.slice Ao24 t333.length co24 : Value).ownBlock) (Kd.R_keptB ((Kd.R_bound HO348.out)) hkp (fun k_ hk_ hs_ => Or.elim hs_ (fun e_ => (hk_.1.2) e_) (fun e_ => (fun e_ => Kd.typed_ne (hk_.2).2.2 e_.2.2.2 (by decide)) e_))) (fun k_ hk_ => hk_.1.1.2)); replace HB := Aside0.mk (hb); clear HO351; (try clear hb); (try clear hkp); (try clear hy0); (try clear hy1)))
    (try simp only [Act.put, List.setIfInBounds_toArray, List.set_cons_zero, List.set_cons_succ])
    go_cut [80] (fun v80 wc => ∃ (kq : Nat) (x80_42 : Bool), v80 = .bool x80_42 ∧ Aside0 (laws_FnExactTrialBalance.j1 kq a1 t328 t331 t332 t340 x80_42 l0_0 l0_1 = some r) ∧ Aside0 (kq ≤ kj11) ∧ Aside0 (Kd.R (Kd.int .i64) 3 wc w.heap.size (fun k_ => some k_ ≠ (v341 : Value).ownBlock) v329 t328) ∧ Aside0 (Kd.R (Kd.int .i64) 3 wc w.heap.size (fun k_ => some k_ ≠ (v329 : Value).ownBlock) v341 t340) ∧ Aside0 (Kd.R k48 48 wc w.heap.size (fun _ => True) (.slice Ao24 t333.length co24) t354) ∧ Aside0 (Kd.S k63 63 wc w.heap.size (fun _ => True) (.slice Ao27 t336.length co27) t355) ∧ Aside0 (wc.heap[gb320]? = some (.cells #[(.slice A0_0 l0_0.length c0_0), (.slice A0_1 l0_1.length c0_1)] 25 (0, 0))) ∧ Aside0 (wc.heap[gb339]? = some (.cells #[(.slice Ao24 t333.length co24), (.slice Ao27 t336.length co27)] 31 (0, 0))) ∧ Aside0 (Below w.heap.size w wc))
    case first =>
     have H := HC43.out
     clear HC43
     by_cases c52 : t353 < 0
     ·rw [if_pos c52] at H
      have c52b0 := decide_eq_true c52
      clear c52
      (first | rw [c52b0] | (simp only [i64_w, i32_w]; rw [c52b0]) | skip)
      have H' := Aside0.mk H
      clear H
      go_wp2
      go_meet
      case rel => exact ⟨_, (true), ZZ0ab324, H', ⟨(by have := HJ11.out; first | omega | exact Nat.le_refl _)⟩, ⟨(zR HO_6)⟩, ⟨(zR HO_10)⟩, ⟨(by (with_reducible repeat (first | apply Kd.R_alloc | apply Kd.R_drewN | apply Kd.R_drew)); exact Kd.R_mono HO_340000.out (fun _ hk => trivial))⟩, ⟨(by (with_reducible repeat (first | apply Kd.S_alloc | apply Kd.S_drewN | apply Kd.S_drew)); exact Kd.S_mono HO_340001.out (fun _ hk => trivial))⟩, ⟨(zB BK320)⟩, ⟨(zB BK339)⟩, ⟨ZZ295621⟩⟩
     rw [if_neg c52] at H
     have c52b0 := decide_eq_false c52
     clear c52
     (first | rw [c52b0] | (simp only [i64_w, i32_w]; rw [c52b0]) | skip)
     obtain ⟨t356, A53, H⟩ := bdY H
     by_cases c54 : t356 = true
     ·subst c54
      have H1 : (if t343 = t331 then (laws_FnExactTrialBalance.j1 kj11 a1 t328 t331 t332 t340 (t344 != t332) l0_0 l0_1) else (laws_FnExactTrialBalance.j1 kj11 a1 t328 t331 t332 t340 true l0_0 l0_1)) = some r := by rw [if_pos rfl] at H; exact H
      clear H
      have H := H1
      clear H1
      by_cases c55 : t343 = t331
      ·rw [if_pos c55] at H
       have c55b0 := beq_iff_eq.mpr c55
       have c55b1 := bne_eq_false_iff_eq.mpr c55
       clear c55
       have H' := Aside0.mk H
       clear H
       obtain ⟨Ao56, co56, eo56⟩ := Kd.R_slice HO_10.out
       subst eo56
       obtain ⟨Ao57, co57, eo57⟩ := Kd.R_slice HO_6.out
       subst eo57
       go_wp2_with (first | (go_at_call 30; (with_reducible refine (laws_eqIntS.calls kj11 _ _ t340 _ _ t328 true _ ?side1 ?side2 ?side3 ?side4 A53.out).mono ?_); (case side1 => repeat (first | exact (Kd.R_reads' HO_10.out).2.2 | (with_reducible refine Kd.C_alloc ?_ _) | (with_reducible refine Kd.C_drewN ?_ _) | (with_reducible refine Kd.C_drew ?_))); (case side2 => exact (Kd.R_reads' HO_10.out).2.1); (case side3 => repeat (first | exact (Kd.R_reads' HO_6.out).2.2 | (with_reducible refine Kd.C_alloc ?_ _) | (with_reducible refine Kd.C_drewN ?_ _) | (with_reducible refine Kd.C_drew ?_))); (case side4 => exact (Kd.R_reads' HO_6.out).2.1); rintro e w' ⟨rfl, ⟨nd, rfl⟩⟩))
       go_meet
       case rel => exact ⟨_, ((t344 != t332)), ZZ0ab324, H', ⟨(by have := HJ11.out; first | omega | exact Nat.le_refl _)⟩, ⟨(zR HO_6)⟩, ⟨(zR HO_10)⟩, ⟨(by (with_reducible repeat (first | apply Kd.R_alloc | apply Kd.R_drewN | apply Kd.R_drew)); exact Kd.R_mono HO_340000.out (fun _ hk => trivial))⟩, ⟨(by (with_reducible repeat (first | apply Kd.S_alloc | apply Kd.S_drewN | apply Kd.S_drew)); exact Kd.S_mono HO_340001.out (fun _ hk => trivial))⟩, ⟨(zB BK320)⟩, ⟨(zB BK339)⟩, ⟨ZZ295621⟩⟩
      rw [if_neg c55] at H
      have c55b0 := beq_eq_false_iff_ne.mpr c55
      have c55b1 := bne_iff_ne.mpr c55
      have H' := Aside0.mk H
      clear H
      obtain ⟨Ao58, co58, eo58⟩ := Kd.R_slice HO_10.out
      subst eo58
      obtain ⟨Ao59, co59, eo59⟩ := Kd.R_slice HO_6.out
      subst eo59
      go_wp2_with (first | (go_at_call 30; (with_reducible refine (laws_eqIntS.calls kj11 _ _ t340 _ _ t328 true _ ?side1 ?side2 ?side3 ?side4 A53.out).mono ?_); (case side1 => repeat (first | exact (Kd.R_reads' HO_10.out).2.2 | (with_reducible refine Kd.C_alloc ?_ _) | (with_reducible refine Kd.C_drewN ?_ _) | (with_reducible refine Kd.C_drew ?_))); (case side2 => exact (Kd.R_reads' HO_10.out).2.1); (case side3 => repeat (first | exact (Kd.R_reads' HO_6.out).2.2 | (with_reducible refine Kd.C_alloc ?_ _) | (with_reducible refine Kd.C_drewN ?_ _) | (with_reducible refine Kd.C_drew ?_))); (case side4 => exact (Kd.R_reads' HO_6.out).2.1); rintro e w' ⟨rfl, ⟨nd, rfl⟩⟩))
      go_meet
      case rel => exact ⟨_, (true), ZZ0ab324, H', ⟨(by have := HJ11.out; first | omega | exact Nat.le_refl _)⟩, ⟨(zR HO_6)⟩, ⟨(zR HO_10)⟩, ⟨(by (with_reducible repeat (first | apply Kd.R_alloc | apply Kd.R_drewN | apply Kd.R_drew)); exact Kd.R_mono HO_340000.out (fun _ hk => trivial))⟩, ⟨(by (with_reducible repeat (first | apply Kd.S_alloc | apply Kd.S_drewN | apply Kd.S_drew)); exact Kd.S_mono HO_340001.out (fun _ hk => trivial))⟩, ⟨(zB BK320)⟩, ⟨(zB BK339)⟩, ⟨ZZ295621⟩⟩
     replace c54 := Bool.eq_false_iff.mpr c54
     subst c54
     have H1 : (laws_FnExactTrialBalance.j1 kj11 a1 t328 t331 t332 t340 true l0_0 l0_1) = some r := by rw [if_neg (show ¬ (false = true) by decide)] at H; exact H
     clear H
     have H := H1
     clear H1
     have H' := Aside0.mk H
     clear H
     obtain ⟨Ao60, co60, eo60⟩ := Kd.R_slice HO_10.out
     subst eo60
     obtain ⟨Ao61, co61, eo61⟩ := Kd.R_slice HO_6.out
     subst eo61
     go_wp2_with (first | (go_at_call 30; (with_reducible refine (laws_eqIntS.calls kj11 _ _ t340 _ _ t328 false _ ?side1 ?side2 ?side3 ?side4 A53.out).mono ?_); (case side1 => repeat (first | exact (Kd.R_reads' HO_10.out).2.2 | (with_reducible refine Kd.C_alloc ?_ _) | (with_reducible refine Kd.C_drewN ?_ _) | (with_reducible refine Kd.C_drew ?_))); (case side2 => exact (Kd.R_reads' HO_10.out).2.1); (case side3 => repeat (first | exact (Kd.R_reads' HO_6.out).2.2 | (with_reducible refine Kd.C_alloc ?_ _) | (with_reducible refine Kd.C_drewN ?_ _) | (with_reducible refine Kd.C_drew ?_))); (case side4 => exact (Kd.R_reads' HO_6.out).2.1); rintro e w' ⟨rfl, ⟨nd, rfl⟩⟩))
     go_meet
     case rel => exact ⟨_, (true), ZZ0ab324, H', ⟨(by have := HJ11.out; first | omega | exact Nat.le_refl _)⟩, ⟨(zR HO_6)⟩, ⟨(zR HO_10)⟩, ⟨(by (with_reducible repeat (first | apply Kd.R_alloc | apply Kd.R_drewN | apply Kd.R_drew)); exact Kd.R_mono HO_340000.out (fun _ hk => trivial))⟩, ⟨(by (with_reducible repeat (first | apply Kd.S_alloc | apply Kd.S_drewN | apply Kd.S_drew)); exact Kd.S_mono HO_340001.out (fun _ hk => trivial))⟩, ⟨(zB BK320)⟩, ⟨(zB BK339)⟩, ⟨ZZ295621⟩⟩
    case rest =>
     clear HC43
     try clear c38
     try clear c41
     try clear c52
     try clear c52b0
     try clear c54
     try clear c55
     try clear c55b0
     try clear c55b1
     try clear hcz50_0
     try clear hcz50_1
     try clear hfz50_0
     try clear hfz50_1
     obtain ⟨kq, x80_42, rfl, HA, HJ42, HO_6, HO_10, HO_340000, HO_340001, BK320, BK339, HB⟩ := hcut
     have hl340000_42 := (Kd.R_reads' HO_340000.out).1
     rw [hl340000_42] at HO_340000
     (try simp only [hl340000_42])
     (try simp only [hl340000_42] at BK320)
     (try simp only [hl340000_42] at BK339)
     (try simp only [hl340000_42] at HO_6)
     (try simp only [hl340000_42] at HO_10)
     (try simp only [hl340000_42] at HO_340001)
     have hl340001_42 := (Kd.S_reads' HO_340001.out).1
     rw [hl340001_42] at HO_340001
     (try simp only [hl340001_42])
     (try simp only [hl340001_42] at BK320)
     (try simp only [hl340001_42] at BK339)
     (try simp only [hl340001_42] at HO_6)
     (try simp only [hl340001_42] at HO_10)
     (try simp only [hl340001_42] at HO_340000)
     cases kq with
     | zero => exact absurd HA.out (by simp [laws_FnExactTrialBalance.j1])
     | succ kj42 =>
      have H := HA.out
      clear HA
      simp only [laws_FnExactTrialBalance.j1] at H
      by_cases c62 : x80_42 = true
      ·subst c62
       have H1 : (some false) = some r := by rw [if_pos rfl] at H; exact H
       clear H
       have H := H1
       clear H1
       obtain rfl := Option.some.inj H
       go_wp2
       go_ret
       exact ⟨ZZab01d2, ZZ295621⟩
      replace c62 := Bool.eq_false_iff.mpr c62
      subst c62
      have H1 : ((laws_markIntS.f kj42 t340 1).bind fun bt357 => ((laws_heldIntS.f kj42 bt357.2 1).bind fun t359 => (if t359 < 0 then (some false) else (if t359 = bt357.1 then ((laws_toLedger.f kj42 l0_0 l0_1).bind fun bt360 => ((impl_TrialBalance.f kj42 bt360.1 bt360.2 a1).bind fun bt366 => ((laws_eqIntS.f kj42 bt366.1 t328).bind fun t371 => (if t371 = true then (if bt366.2.1 = t331 then (laws_FnExactTrialBalance.j2 kj42 bt357.2 bt357.1 (bt366.2.2 != t332)) else (laws_FnExactTrialBalance.j2 kj42 bt357.2 bt357.1 true)) else (laws_FnExactTrialBalance.j2 kj42 bt357.2 bt357.1 true))))) else (some false))))) = some r := by rw [if_neg (show ¬ (false = true) by decide)] at H; exact H
      clear H
      have H := H1
      clear H1
      obtain ⟨⟨t357, t358⟩, A63, H⟩ := bdY H
      try dsimp only at H
      obtain ⟨t359, A64, H⟩ := bdY H
      by_cases c65 : t359 < 0
      ·rw [if_pos c65] at H
       have c65b0 := decide_eq_true c65
       clear c65
       obtain rfl := Option.some.inj H
       obtain ⟨Ao66, co66, eo66⟩ := Kd.R_slice HO_10.out
       subst eo66
       go_wp2_with (first | ((with_reducible refine gate_callee (f := 32) rfl ?_); refine goesL_ (some 83) rfl rfl Tryd.func32 (by kernel_rfl) rfl #[.slice Ao66 t340.length co66, .int .i64 1] rfl ZZ19826e ?_; (with_reducible refine (laws_markIntS.calls kj42 (fun k_ => some k_ = (.slice Ao66 t340.length co66 : Value).ownBlock) (.slice Ao66 t340.length co66) t340 1 t357 t358 w _ ?side1 ?side2 A63.out).mono ?_); (case side1 => repeat (first | (with_reducible first | exact HB.out | apply below_alloc | apply pw_below_drewN | apply below_drew1 | refine below_set ?_ (Aside0.out (by assumption))) | exact HB.out)); (case side2 => exact Kd.R_tight rfl HO_10.out); rintro e w67 ⟨rfl, hy0, hb, hkp⟩; refine ⟨_, rfl, ?_⟩; replace HO_6 := Aside0.mk (Kd.R_mono (ok' := fun k_ => some k_ ≠ (.slice Ao66 t340.length co66 : Value).ownBlock) (Kd.R_keptB (HO_6.out) hkp (fun k_ hk_ hs_ => (hk_) hs_)) (fun k_ hk_ => hk_.1)); replace HO_340000 := Aside0.mk (Kd.R_mono (ok' := fun k_ => True) (Kd.R_keptB ((Kd.R_apart' HO_340000.out (Kd.R_typed HO_10.out) (by decide))) hkp (fun k_ hk_ hs_ => (hk_.2) hs_)) (fun k_ hk_ => trivial)); replace HO_340001 := Aside0.mk (Kd.S_mono (ok' := fun k_ => True) (Kd.S_keptB ((Kd.S_apart' HO_340001.out (Kd.R_typed HO_10.out) (by decide))) hkp (fun k_ hk_ hs_ => (hk_.2) hs_)) (fun k_ hk_ => trivial)); replace BK320 := Aside0.mk (blk_kept (zB BK320) hkp (fun hs_ => (fun e_ => (Kd.R_ne HO_10.out BK320.out (by decide)) e_) hs_)); replace BK339 := Aside0.mk (blk_kept (zB BK339) hkp (fun hs_ => (fun e_ => (Kd.R_ne HO_10.out BK339.out (by decide)) e_) hs_)); replace HO_10 := Aside0.mk (Kd.R_reok rfl hy0 (fun k_ e_ => HO_10.out.1 k_ e_)); replace HB := Aside0.mk (hb); (try clear hb); (try clear hkp); (try clear hy0)) | ((with_reducible refine gate_callee (f := 33) rfl ?_); refine goesL_ (some 86) rfl rfl Tryd.func33 (by kernel_rfl) rfl #[.slice Ao66 t358.length co66, .int .i64 1] rfl (by (try simp only [List.map_toArray, List.map_cons, List.map_nil]); first | done | (rw [show t358.length = t340.length from (Kd.R_reads' HO_10.out).1.symm] <;> rfl) | rfl | (simp only [List.length_drop, List.length_take]; rfl)) ?_; (with_reducible refine (laws_heldIntS.calls kj42 _ _ t358 1 t359 _ ?side1 ?side2 A64.out).mono ?_); (case side1 => repeat (first | exact (Kd.R_reads' HO_10.out).2.2 | (with_reducible refine Kd.C_alloc ?_ _) | (with_reducible refine Kd.C_drewN ?_ _) | (with_reducible refine Kd.C_drew ?_))); (case side2 => rw [show t358.length = t340.length from (Kd.R_reads' HO_10.out).1.symm]; exact (Kd.R_reads' HO_10.out).2.1); rintro e w' ⟨rfl, ⟨nd, rfl⟩⟩; refine ⟨_, rfl, ?_⟩))
       go_ret
       exact ⟨ZZab01d2, ZZ295621⟩
      rw [if_neg c65] at H
      have c65b0 := decide_eq_false c65
      clear c65
      by_cases c68 : t359 = t357
      ·rw [if_pos c68] at H
       have c68b0 := beq_iff_eq.mpr c68
       have c68b1 := bne_eq_false_iff_eq.mpr c68
       clear c68
       obtain ⟨⟨t360, t363⟩, A69, H⟩ := bdY H
       try dsimp only at H
       obtain ⟨⟨t366, t369, t370⟩, A70, H⟩ := bdY H
       try dsimp only at H
       have HC71 := Aside0.mk H
       clear H
       obtain ⟨Ao72, co72, eo72⟩ := Kd.R_slice HO_10.out
       subst eo72
       go_upto_region 25 with (first | ((with_reducible refine gate_callee (f := 32) rfl ?_); refine goesL_ (some 83) rfl rfl Tryd.func32 (by kernel_rfl) rfl #[.slice Ao72 t340.length co72, .int .i64 1] rfl ZZ19826e ?_; (with_reducible refine (laws_markIntS.calls kj42 (fun k_ => some k_ = (.slice Ao72 t340.length co72 : Value).ownBlock) (.slice Ao72 t340.length co72) t340 1 t357 t358 w _ ?side1 ?side2 A63.out).mono ?_); (case side1 => repeat (first | (with_reducible first | exact HB.out | apply below_alloc | apply pw_below_drewN | apply below_drew1 | refine below_set ?_ (Aside0.out (by assumption))) | exact HB.out)); (case side2 => exact Kd.R_tight rfl HO_10.out); rintro e w73 ⟨rfl, hy0, hb, hkp⟩; refine ⟨_, rfl, ?_⟩; replace HO_6 := Aside0.mk (Kd.R_mono (ok' := fun k_ => some k_ ≠ (.slice Ao72 t340.length co72 : Value).ownBlock) (Kd.R_keptB (HO_6.out) hkp (fun k_ hk_ hs_ => (hk_) hs_)) (fun k_ hk_ => hk_.1)); replace HO_340000 := Aside0.mk (Kd.R_mono (ok' := fun k_ => True) (Kd.R_keptB ((Kd.R_apart' HO_340000.out (Kd.R_typed HO_10.out) (by decide))) hkp (fun k_ hk_ hs_ => (hk_.2) hs_)) (fun k_ hk_ => trivial)); replace HO_340001 := Aside0.mk (Kd.S_mono (ok' := fun k_ => True) (Kd.S_keptB ((Kd.S_apart' HO_340001.out (Kd.R_typed HO_10.out) (by decide))) hkp (fun k_ hk_ hs_ => (hk_.2) hs_)) (fun k_ hk_ => trivial)); replace BK320 := Aside0.mk (blk_kept (zB BK320) hkp (fun hs_ => (fun e_ => (Kd.R_ne HO_10.out BK320.out (by decide)) e_) hs_)); replace BK339 := Aside0.mk (blk_kept (zB BK339) hkp (fun hs_ => (fun e_ => (Kd.R_ne HO_10.out BK339.out (by decide)) e_) hs_)); replace HO_10 := Aside0.mk (Kd.R_reok rfl hy0 (fun k_ e_ => HO_10.out.1 k_ e_)); replace HB := Aside0.mk (hb); (try clear hb); (try clear hkp); (try clear hy0)) | ((with_reducible refine gate_callee (f := 33) rfl ?_); refine goesL_ (some 86) rfl rfl Tryd.func33 (by kernel_rfl) rfl #[.slice Ao72 t358.length co72, .int .i64 1] rfl (by (try simp only [List.map_toArray, List.map_cons, List.map_nil]); first | done | (rw [show t358.length = t340.length from (Kd.R_reads' HO_10.out).1.symm] <;> rfl) | rfl | (simp only [List.length_drop, List.length_take]; rfl)) ?_; (with_reducible refine (laws_heldIntS.calls kj42 _ _ t358 1 t359 _ ?side1 ?side2 A64.out).mono ?_); (case side1 => repeat (first | exact (Kd.R_reads' HO_10.out).2.2 | (with_reducible refine Kd.C_alloc ?_ _) | (with_reducible refine Kd.C_drewN ?_ _) | (with_reducible refine Kd.C_drew ?_))); (case side2 => rw [show t358.length = t340.length from (Kd.R_reads' HO_10.out).1.symm]; exact (Kd.R_reads' HO_10.out).2.1); rintro e w' ⟨rfl, ⟨nd, rfl⟩⟩; refine ⟨_, rfl, ?_⟩; have hnb74 := NB320_339.out; have hnc74 := NB339_320.out; have hcz75_0 : w73.cell? ⟨gb320, 0, none⟩ = some (.slice A0_0 l0_0.length c0_0) := (blk_cell BK320.out 0).trans rfl; have hcz75_1 : w73.cell? ⟨gb320, 1, none⟩ = some (.slice A0_1 l0_1.length c0_1) := (blk_cell BK320.out 1).trans rfl; have hfz75_0 := blk_frozen BK320.out 0; have hfz75_1 := blk_frozen BK320.out 1) | ((with_reducible refine gate_callee (f := 16) rfl ?_); refine goesL_ (some 94) rfl rfl Tryd.func16 (by kernel_rfl) rfl #[.agg #[.slice A0_0 l0_0.length c0_0, .slice A0_1 l0_1.length c0_1]] rfl ZZ19826e ?_; (with_reducible refine (laws_toLedger.calls kj42 _ _ l0_0 _ _ l0_1 t360 t363 _ ?side1 ?side2 ?side3 ?side4 A69.out).mono ?_); (case side1 => repeat (first | exact (Kd.C_below HR0_0.out ZZ295621) | (with_reducible refine Kd.C_alloc ?_ _) | (with_reducible refine Kd.C_drewN ?_ _) | (with_reducible refine Kd.C_drew ?_))); (case side2 => exact HC0_0.out); (case side3 => repeat (first | exact (Kd.C_below HR0_1.out ZZ295621) | (with_reducible refine Kd.C_alloc ?_ _) | (with_reducible refine Kd.C_drewN ?_ _) | (with_reducible refine Kd.C_drew ?_))); (case side4 => exact HC0_1.out); rintro e w76 ⟨v361, v364, rfl, ho0, ho1, hb⟩; refine ⟨_, rfl, ?_⟩; replace HO_6 := Aside0.mk (Kd.R_below (zR HO_6) hb); replace HO_10 := Aside0.mk (Kd.R_below (zR HO_10) hb); have HO362 := Aside0.mk (Kd.R_lower (Kd.R_new' ho0 (Kd.R_lt (zR HO_340000))) (below_size ZZ295621)); replace HO_340000 := Aside0.mk (Kd.R_elder' (zR HO_340000) (Kd.R_base ho0) hb); have HO365 := Aside0.mk (Kd.S_lower (Kd.S_new' ho1 (Kd.S_lt (zS HO_340001))) (below_size ZZ295621)); replace HO_340001 := Aside0.mk (Kd.S_elder' (zS HO_340001) (Kd.S_base ho1) hb); replace BK320 := Aside0.mk (blk_below (zB BK320) hb); replace BK339 := Aside0.mk (blk_below (zB BK339) hb); replace HB := Aside0.mk (below_step ZZ295621 hb); (try clear hb); (try clear hb2); (try clear hk); (try clear hi); (try clear ho0); (try clear ho1); obtain ⟨Ao77, co77, eo77⟩ := Kd.R_slice HO362.out; subst eo77; obtain ⟨Ao78, co78, eo78⟩ := Kd.S_slice HO365.out; subst eo78) | ((with_reducible refine gate_callee (f := 27) rfl ?_); refine goesL_ (some 96) rfl rfl Tryd.func27 (by kernel_rfl) rfl #[.agg #[.slice Ao77 t360.length co77, .slice Ao78 t363.length co78], .int .i64 a1] rfl ZZ19826e ?_; (with_reducible refine (impl_TrialBalance.calls kj42 _ _ t360 _ _ t363 a1 t366 t369 t370 _ ?side1 ?side2 ?side3 ?side4 A70.out).mono ?_); (case side1 => repeat (first | exact (Kd.R_reads' HO362.out).2.2 | (with_reducible refine Kd.C_alloc ?_ _) | (with_reducible refine Kd.C_drewN ?_ _) | (with_reducible refine Kd.C_drew ?_))); (case side2 => exact (Kd.R_reads' HO362.out).2.1); (case side3 => repeat (first | exact (Kd.S_reads' HO365.out).2.2 | (with_reducible refine Kd.C_alloc ?_ _) | (with_reducible refine Kd.C_drewN ?_ _) | (with_reducible refine Kd.C_drew ?_))); (case side4 => exact (Kd.S_reads' HO365.out).2.1); rintro e w79 ⟨v367, rfl, ho0, hb⟩; refine ⟨_, rfl, ?_⟩; replace HO_340000 := Aside0.mk (Kd.R_below (zR HO_340000) hb); replace HO_340001 := Aside0.mk (Kd.S_below (zS HO_340001) hb); replace HO362 := Aside0.mk (Kd.R_below (zR HO362) hb); replace HO365 := Aside0.mk (Kd.S_below (zS HO365) hb); have HO368 := Aside0.mk (Kd.R_lower (Kd.R_new' (Kd.R_new' ho0 (Kd.R_lt (zR HO_6))) (Kd.R_lt (zR HO_10))) (below_size ZZ295621)); replace HO_6 := Aside0.mk (Kd.R_elder' (zR HO_6) (Kd.R_base ho0) hb); replace HO_10 := Aside0.mk (Kd.R_elder' (zR HO_10) (Kd.R_base ho0) hb); replace BK320 := Aside0.mk (blk_below (zB BK320) hb); replace BK339 := Aside0.mk (blk_below (zB BK339) hb); replace HB := Aside0.mk (below_step ZZ295621 hb); (try clear hb); (try clear hb2); (try clear hk); (try clear hi); (try clear ho0)))
       (try simp only [Act.put, List.setIfInBounds_toArray, List.set_cons_zero, List.set_cons_succ])
       go_cut [113] (fun v113 wc => ∃ (kq : Nat) (x113_70 : Bool), v113 = .bool x113_70 ∧ Aside0 (laws_FnExactTrialBalance.j2 kq t358 t357 x113_70 = some r) ∧ Aside0 (kq ≤ kj42) ∧ Aside0 (Kd.R (Kd.int .i64) 3 wc w.heap.size (fun _ => True) (.slice Ao72 t340.length co72) t358) ∧ Aside0 (Kd.R k48 48 wc w.heap.size (fun _ => True) (.slice Ao24 t354.length co24) t354) ∧ Aside0 (Kd.S k63 63 wc w.heap.size (fun _ => True) (.slice Ao27 t355.length co27) t355) ∧ Aside0 (wc.heap[gb320]? = some (.cells #[(.slice A0_0 l0_0.length c0_0), (.slice A0_1 l0_1.length c0_1)] 25 (0, 0))) ∧ Aside0 (wc.heap[gb339]? = some (.cells #[(.slice Ao24 t354.length co24), (.slice Ao27 t355.length co27)] 31 (0, 0))) ∧ Aside0 (Below w.heap.size w wc))
       case first =>
        have H := HC71.out
        clear HC71
        obtain ⟨t371, A80, H⟩ := bdY H
        by_cases c81 : t371 = true
        ·subst c81
         have H1 : (if t369 = t331 then (laws_FnExactTrialBalance.j2 kj42 t358 t357 (t370 != t332)) else (laws_FnExactTrialBalance.j2 kj42 t358 t357 true)) = some r := by rw [if_pos rfl] at H; exact H
         clear H
         have H := H1
         clear H1
         by_cases c82 : t369 = t331
         ·rw [if_pos c82] at H
          have c82b0 := beq_iff_eq.mpr c82
          have c82b1 := bne_eq_false_iff_eq.mpr c82
          clear c82
          (first | rw [c82b0] | (simp only [i64_w, i32_w]; rw [c82b0]) | skip)
          have H' := Aside0.mk H
          clear H
          obtain ⟨Ao83, co83, eo83⟩ := Kd.R_slice HO368.out
          subst eo83
          obtain ⟨Ao84, co84, eo84⟩ := Kd.R_slice HO_6.out
          subst eo84
          go_wp2_with (first | ((with_reducible refine gate_callee (f := 30) rfl ?_); refine goesL_ (some 102) rfl rfl Tryd.func30 (by kernel_rfl) rfl #[.slice Ao83 t366.length co83, .slice Ao84 t328.length co84] rfl ZZ19826e ?_; (with_reducible refine (laws_eqIntS.calls kj42 _ _ t366 _ _ t328 true _ ?side1 ?side2 ?side3 ?side4 A80.out).mono ?_); (case side1 => repeat (first | exact (Kd.R_reads' HO368.out).2.2 | (with_reducible refine Kd.C_alloc ?_ _) | (with_reducible refine Kd.C_drewN ?_ _) | (with_reducible refine Kd.C_drew ?_))); (case side2 => exact (Kd.R_reads' HO368.out).2.1); (case side3 => repeat (first | exact (Kd.R_reads' HO_6.out).2.2 | (with_reducible refine Kd.C_alloc ?_ _) | (with_reducible refine Kd.C_drewN ?_ _) | (with_reducible refine Kd.C_drew ?_))); (case side4 => exact (Kd.R_reads' HO_6.out).2.1); rintro e w' ⟨rfl, ⟨nd, rfl⟩⟩; refine ⟨_, rfl, ?_⟩))
          go_meet
          case rel => exact ⟨_, ((t370 != t332)), ZZ0ab324, H', ⟨(by have := HJ11.out; have := HJ42.out; first | omega | exact Nat.le_refl _)⟩, ⟨(by (try simp only [hl340000_42]); (try simp only [hl340001_42]); (with_reducible repeat (first | apply Kd.R_alloc | apply Kd.R_drewN | apply Kd.R_drew)); exact Kd.R_mono HO_10.out (fun _ hk => trivial))⟩, ⟨(by (try simp only [hl340000_42]); (try simp only [hl340001_42]); (with_reducible repeat (first | apply Kd.R_alloc | apply Kd.R_drewN | apply Kd.R_drew)); exact Kd.R_mono HO_340000.out (fun _ hk => trivial))⟩, ⟨(by (try simp only [hl340000_42]); (try simp only [hl340001_42]); (with_reducible repeat (first | apply Kd.S_alloc | apply Kd.S_drewN | apply Kd.S_drew)); exact Kd.S_mono HO_340001.out (fun _ hk => trivial))⟩, ⟨(by (try simp only [hl340000_42]); (try simp only [hl340001_42]); (with_reducible repeat (first | refine blk_drewN ?_ _ | refine blk_drew ?_ | refine blk_alloc ?_ _)); exact BK320.out)⟩, ⟨(by (try simp only [hl340000_42]); (try simp only [hl340001_42]); (with_reducible repeat (first | refine blk_drewN ?_ _ | refine blk_drew ?_ | refine blk_alloc ?_ _)); exact BK339.out)⟩, ⟨ZZ295621⟩⟩
         rw [if_neg c82] at H
         have c82b0 := beq_eq_false_iff_ne.mpr c82
         have c82b1 := bne_iff_ne.mpr c82
         (first | rw [c82b0] | (simp only [i64_w, i32_w]; rw [c82b0]) | skip)
         have H' := Aside0.mk H
         clear H
         obtain ⟨Ao85, co85, eo85⟩ := Kd.R_slice HO368.out
         subst eo85
         obtain ⟨Ao86, co86, eo86⟩ := Kd.R_slice HO_6.out
         subst eo86
         go_wp2_with (first | ((with_reducible refine gate_callee (f := 30) rfl ?_); refine goesL_ (some 102) rfl rfl Tryd.func30 (by kernel_rfl) rfl #[.slice Ao85 t366.length co85, .slice Ao86 t328.length co86] rfl ZZ19826e ?_; (with_reducible refine (laws_eqIntS.calls kj42 _ _ t366 _ _ t328 true _ ?side1 ?side2 ?side3 ?side4 A80.out).mono ?_); (case side1 => repeat (first | exact (Kd.R_reads' HO368.out).2.2 | (with_reducible refine Kd.C_alloc ?_ _) | (with_reducible refine Kd.C_drewN ?_ _) | (with_reducible refine Kd.C_drew ?_))); (case side2 => exact (Kd.R_reads' HO368.out).2.1); (case side3 => repeat (first | exact (Kd.R_reads' HO_6.out).2.2 | (with_reducible refine Kd.C_alloc ?_ _) | (with_reducible refine Kd.C_drewN ?_ _) | (with_reducible refine Kd.C_drew ?_))); (case side4 => exact (Kd.R_reads' HO_6.out).2.1); rintro e w' ⟨rfl, ⟨nd, rfl⟩⟩; refine ⟨_, rfl, ?_⟩))
         go_meet
         case rel => exact ⟨_, (true), ZZ0ab324, H', ⟨(by have := HJ11.out; have := HJ42.out; first | omega | exact Nat.le_refl _)⟩, ⟨(by (try simp only [hl340000_42]); (try simp only [hl340001_42]); (with_reducible repeat (first | apply Kd.R_alloc | apply Kd.R_drewN | apply Kd.R_drew)); exact Kd.R_mono HO_10.out (fun _ hk => trivial))⟩, ⟨(by (try simp only [hl340000_42]); (try simp only [hl340001_42]); (with_reducible repeat (first | apply Kd.R_alloc | apply Kd.R_drewN | apply Kd.R_drew)); exact Kd.R_mono HO_340000.out (fun _ hk => trivial))⟩, ⟨(by (try simp only [hl340000_42]); (try simp only [hl340001_42]); (with_reducible repeat (first | apply Kd.S_alloc | apply Kd.S_drewN | apply Kd.S_drew)); exact Kd.S_mono HO_340001.out (fun _ hk => trivial))⟩, ⟨(by (try simp only [hl340000_42]); (try simp only [hl340001_42]); (with_reducible repeat (first | refine blk_drewN ?_ _ | refine blk_drew ?_ | refine blk_alloc ?_ _)); exact BK320.out)⟩, ⟨(by (try simp only [hl340000_42]); (try simp only [hl340001_42]); (with_reducible repeat (first | refine blk_drewN ?_ _ | refine blk_drew ?_ | refine blk_alloc ?_ _)); exact BK339.out)⟩, ⟨ZZ295621⟩⟩
        replace c81 := Bool.eq_false_iff.mpr c81
        subst c81
        have H1 : (laws_FnExactTrialBalance.j2 kj42 t358 t357 true) = some r := by rw [if_neg (show ¬ (false = true) by decide)] at H; exact H
        clear H
        have H := H1
        clear H1
        have H' := Aside0.mk H
        clear H
        obtain ⟨Ao87, co87, eo87⟩ := Kd.R_slice HO368.out
        subst eo87
        obtain ⟨Ao88, co88, eo88⟩ := Kd.R_slice HO_6.out
        subst eo88
        go_wp2_with (first | ((with_reducible refine gate_callee (f := 30) rfl ?_); refine goesL_ (some 102) rfl rfl Tryd.func30 (by kernel_rfl) rfl #[.slice Ao87 t366.length co87, .slice Ao88 t328.length co88] rfl ZZ19826e ?_; (with_reducible refine (laws_eqIntS.calls kj42 _ _ t366 _ _ t328 false _ ?side1 ?side2 ?side3 ?side4 A80.out).mono ?_); (case side1 => repeat (first | exact (Kd.R_reads' HO368.out).2.2 | (with_reducible refine Kd.C_alloc ?_ _) | (with_reducible refine Kd.C_drewN ?_ _) | (with_reducible refine Kd.C_drew ?_))); (case side2 => exact (Kd.R_reads' HO368.out).2.1); (case side3 => repeat (first | exact (Kd.R_reads' HO_6.out).2.2 | (with_reducible refine Kd.C_alloc ?_ _) | (with_reducible refine Kd.C_drewN ?_ _) | (with_reducible refine Kd.C_drew ?_))); (case side4 => exact (Kd.R_reads' HO_6.out).2.1); rintro e w' ⟨rfl, ⟨nd, rfl⟩⟩; refine ⟨_, rfl, ?_⟩))
        go_meet
        case rel => exact ⟨_, (true), ZZ0ab324, H', ⟨(by have := HJ11.out; have := HJ42.out; first | omega | exact Nat.le_refl _)⟩, ⟨(by (try simp only [hl340000_42]); (try simp only [hl340001_42]); (with_reducible repeat (first | apply Kd.R_alloc | apply Kd.R_drewN | apply Kd.R_drew)); exact Kd.R_mono HO_10.out (fun _ hk => trivial))⟩, ⟨(by (try simp only [hl340000_42]); (try simp only [hl340001_42]); (with_reducible repeat (first | apply Kd.R_alloc | apply Kd.R_drewN | apply Kd.R_drew)); exact Kd.R_mono HO_340000.out (fun _ hk => trivial))⟩, ⟨(by (try simp only [hl340000_42]); (try simp only [hl340001_42]); (with_reducible repeat (first | apply Kd.S_alloc | apply Kd.S_drewN | apply Kd.S_drew)); exact Kd.S_mono HO_340001.out (fun _ hk => trivial))⟩, ⟨(by (try simp only [hl340000_42]); (try simp only [hl340001_42]); (with_reducible repeat (first | refine blk_drewN ?_ _ | refine blk_drew ?_ | refine blk_alloc ?_ _)); exact BK320.out)⟩, ⟨(by (try simp only [hl340000_42]); (try simp only [hl340001_42]); (with_reducible repeat (first | refine blk_drewN ?_ _ | refine blk_drew ?_ | refine blk_alloc ?_ _)); exact BK339.out)⟩, ⟨ZZ295621⟩⟩
       case rest =>
        clear HC71
        try clear c62
        try clear c65b0
        try clear c68b0
        try clear c68b1
        try clear c81
        try clear c82
        try clear c82b0
        try clear c82b1
        try clear hcz75_0
        try clear hcz75_1
        try clear hfz75_0
        try clear hfz75_1
        obtain ⟨kq, x113_70, rfl, HA, HJ70, HO_10, HO_340000, HO_340001, BK320, BK339, HB⟩ := hcut
        have hl10_70 := (Kd.R_reads' HO_10.out).1
        rw [hl10_70] at HO_10
        (try simp only [hl10_70])
        (try simp only [hl10_70] at BK320)
        (try simp only [hl10_70] at BK339)
        (try simp only [hl10_70] at HO_340000)
        (try simp only [hl10_70] at HO_340001)
        cases kq with
        | zero => exact absurd HA.out (by simp [laws_FnExactTrialBalance.j2])
        | succ kj70 =>
         have H := HA.out
         clear HA
         simp only [laws_FnExactTrialBalance.j2] at H
         by_cases c89 : x113_70 = true
         ·subst c89
          have H1 : (some false) = some r := by rw [if_pos rfl] at H; exact H
          clear H
          have H := H1
          clear H1
          obtain rfl := Option.some.inj H
          go_wp2
          go_ret
          exact ⟨ZZab01d2, ZZ295621⟩
         replace c89 := Bool.eq_false_iff.mpr c89
         subst c89
         have H1 : ((laws_heldIntS.f kj70 t358 1).bind fun t372 => (if t372 < 0 then (some false) else (if t372 = t357 then (some true) else (some false)))) = some r := by rw [if_neg (show ¬ (false = true) by decide)] at H; exact H
         clear H
         have H := H1
         clear H1
         obtain ⟨t372, A90, H⟩ := bdY H
         by_cases c91 : t372 < 0
         ·rw [if_pos c91] at H
          have c91b0 := decide_eq_true c91
          clear c91
          obtain rfl := Option.some.inj H
          go_wp2_with (first | ((with_reducible refine gate_callee (f := 33) rfl ?_); refine goesL_ (some 116) rfl rfl Tryd.func33 (by kernel_rfl) rfl #[.slice Ao72 t358.length co72, .int .i64 1] rfl ZZ19826e ?_; (with_reducible refine (laws_heldIntS.calls kj70 _ _ t358 1 t372 _ ?side1 ?side2 A90.out).mono ?_); (case side1 => repeat (first | exact (Kd.R_reads' HO_10.out).2.2 | (with_reducible refine Kd.C_alloc ?_ _) | (with_reducible refine Kd.C_drewN ?_ _) | (with_reducible refine Kd.C_drew ?_))); (case side2 => exact (Kd.R_reads' HO_10.out).2.1); rintro e w' ⟨rfl, ⟨nd, rfl⟩⟩; refine ⟨_, rfl, ?_⟩))
          go_ret
          exact ⟨ZZab01d2, ZZ295621⟩
         rw [if_neg c91] at H
         have c91b0 := decide_eq_false c91
         clear c91
         by_cases c92 : t372 = t357
         ·rw [if_pos c92] at H
          have c92b0 := beq_iff_eq.mpr c92
          have c92b1 := bne_eq_false_iff_eq.mpr c92
          clear c92
          obtain rfl := Option.some.inj H
          go_wp2_with (first | ((with_reducible refine gate_callee (f := 33) rfl ?_); refine goesL_ (some 116) rfl rfl Tryd.func33 (by kernel_rfl) rfl #[.slice Ao72 t358.length co72, .int .i64 1] rfl ZZ19826e ?_; (with_reducible refine (laws_heldIntS.calls kj70 _ _ t358 1 t372 _ ?side1 ?side2 A90.out).mono ?_); (case side1 => repeat (first | exact (Kd.R_reads' HO_10.out).2.2 | (with_reducible refine Kd.C_alloc ?_ _) | (with_reducible refine Kd.C_drewN ?_ _) | (with_reducible refine Kd.C_drew ?_))); (case side2 => exact (Kd.R_reads' HO_10.out).2.1); rintro e w' ⟨rfl, ⟨nd, rfl⟩⟩; refine ⟨_, rfl, ?_⟩))
          go_ret
          exact ⟨ZZab01d2, ZZ295621⟩
         rw [if_neg c92] at H
         have c92b0 := beq_eq_false_iff_ne.mpr c92
         have c92b1 := bne_iff_ne.mpr c92
         obtain rfl := Option.some.inj H
         go_wp2_with (first | ((with_reducible refine gate_callee (f := 33) rfl ?_); refine goesL_ (some 116) rfl rfl Tryd.func33 (by kernel_rfl) rfl #[.slice Ao72 t358.length co72, .int .i64 1] rfl ZZ19826e ?_; (with_reducible refine (laws_heldIntS.calls kj70 _ _ t358 1 t372 _ ?side1 ?side2 A90.out).mono ?_); (case side1 => repeat (first | exact (Kd.R_reads' HO_10.out).2.2 | (with_reducible refine Kd.C_alloc ?_ _) | (with_reducible refine Kd.C_drewN ?_ _) | (with_reducible refine Kd.C_drew ?_))); (case side2 => exact (Kd.R_reads' HO_10.out).2.1); rintro e w' ⟨rfl, ⟨nd, rfl⟩⟩; refine ⟨_, rfl, ?_⟩))
         go_ret
         exact ⟨ZZab01d2, ZZ295621⟩
      rw [if_neg c68] at H
      have c68b0 := beq_eq_false_iff_ne.mpr c68
      have c68b1 := bne_iff_ne.mpr c68
      obtain rfl := Option.some.inj H
      obtain ⟨Ao93, co93, eo93⟩ := Kd.R_slice HO_10.out
      subst eo93
      go_wp2_with (first | ((with_reducible refine gate_callee (f := 32) rfl ?_); refine goesL_ (some 83) rfl rfl Tryd.func32 (by kernel_rfl) rfl #[.slice Ao93 t340.length co93, .int .i64 1] rfl ZZ19826e ?_; (with_reducible refine (laws_markIntS.calls kj42 (fun k_ => some k_ = (.slice Ao93 t340.length co93 : Value).ownBlock) (.slice Ao93 t340.length co93) t340 1 t357 t358 w _ ?side1 ?side2 A63.out).mono ?_); (case side1 => repeat (first | (with_reducible first | exact HB.out | apply below_alloc | apply pw_below_drewN | apply below_drew1 | refine below_set ?_ (Aside0.out (by assumption))) | exact HB.out)); (case side2 => exact Kd.R_tight rfl HO_10.out); rintro e w94 ⟨rfl, hy0, hb, hkp⟩; refine ⟨_, rfl, ?_⟩; replace HO_6 := Aside0.mk (Kd.R_mono (ok' := fun k_ => some k_ ≠ (.slice Ao93 t340.length co93 : Value).ownBlock) (Kd.R_keptB (HO_6.out) hkp (fun k_ hk_ hs_ => (hk_) hs_)) (fun k_ hk_ => hk_.1)); replace HO_340000 := Aside0.mk (Kd.R_mono (ok' := fun k_ => True) (Kd.R_keptB ((Kd.R_apart' HO_340000.out (Kd.R_typed HO_10.out) (by decide))) hkp (fun k_ hk_ hs_ => (hk_.2) hs_)) (fun k_ hk_ => trivial)); replace HO_340001 := Aside0.mk (Kd.S_mono (ok' := fun k_ => True) (Kd.S_keptB ((Kd.S_apart' HO_340001.out (Kd.R_typed HO_10.out) (by decide))) hkp (fun k_ hk_ hs_ => (hk_.2) hs_)) (fun k_ hk_ => trivial)); replace BK320 := Aside0.mk (blk_kept (zB BK320) hkp (fun hs_ => (fun e_ => (Kd.R_ne HO_10.out BK320.out (by decide)) e_) hs_)); replace BK339 := Aside0.mk (blk_kept (zB BK339) hkp (fun hs_ => (fun e_ => (Kd.R_ne HO_10.out BK339.out (by decide)) e_) hs_)); replace HO_10 := Aside0.mk (Kd.R_reok rfl hy0 (fun k_ e_ => HO_10.out.1 k_ e_)); replace HB := Aside0.mk (hb); (try clear hb); (try clear hkp); (try clear hy0)) | ((with_reducible refine gate_callee (f := 33) rfl ?_); refine goesL_ (some 86) rfl rfl Tryd.func33 (by kernel_rfl) rfl #[.slice Ao93 t358.length co93, .int .i64 1] rfl (by (try simp only [List.map_toArray, List.map_cons, List.map_nil]); first | done | (rw [show t358.length = t340.length from (Kd.R_reads' HO_10.out).1.symm] <;> rfl) | rfl | (simp only [List.length_drop, List.length_take]; rfl)) ?_; (with_reducible refine (laws_heldIntS.calls kj42 _ _ t358 1 t359 _ ?side1 ?side2 A64.out).mono ?_); (case side1 => repeat (first | exact (Kd.R_reads' HO_10.out).2.2 | (with_reducible refine Kd.C_alloc ?_ _) | (with_reducible refine Kd.C_drewN ?_ _) | (with_reducible refine Kd.C_drew ?_))); (case side2 => rw [show t358.length = t340.length from (Kd.R_reads' HO_10.out).1.symm]; exact (Kd.R_reads' HO_10.out).2.1); rintro e w' ⟨rfl, ⟨nd, rfl⟩⟩; refine ⟨_, rfl, ?_⟩))
      go_ret
      exact ⟨ZZab01d2, ZZ295621⟩
   replace c41 := Bool.eq_false_iff.mpr c41
   subst c41
   have H1 : (some false) = some r := by rw [if_neg (show ¬ (false = true) by decide)] at H; exact H
   clear H
   have H := H1
   clear H1
   obtain rfl := Option.some.inj H
   try go_wp2
   replace HO_6 := Aside0.mk (Kd.R_drew HO_6.out)
   replace HO_10 := Aside0.mk (Kd.R_drew HO_10.out)
   replace HO_340000 := Aside0.mk (Kd.R_drew HO_340000.out)
   replace HO_340001 := Aside0.mk (Kd.S_drew HO_340001.out)
   replace BK320 := Aside0.mk (blk_drew BK320.out)
   replace BK339 := Aside0.mk (blk_drew BK339.out)
   replace HB := Aside0.mk (below_drew1 HB.out)
   refine start_ (n := 5) (S := fun w' => w'.cell? ⟨gb339, 0, none⟩ = some (.slice Ao24 t333.length co24) ∧ w'.cell? ⟨gb339, 1, none⟩ = some (.slice Ao27 t336.length co27) ∧ w'.cell? ⟨gb320, 0, none⟩ = some (.slice A0_0 l0_0.length c0_0) ∧ w'.cell? ⟨gb320, 1, none⟩ = some (.slice A0_1 l0_1.length c0_1)) (ds := []) #[false, false, false, false, false] (by kernel_rfl) rfl rfl ⟨(blk_cell BK339.out 0).trans rfl, (blk_cell BK339.out 1).trans rfl, (blk_cell BK320.out 0).trans rfl, (blk_cell BK320.out 1).trans rfl⟩ (fun hHeld => ?_)
   generalize wc.drew = w95 at HO_6 HO_10 HO_340000 HO_340001 BK320 BK339 HB hHeld ⊢
   refine take_ (i := 0) (N := some 55) (v := ?_) (a' := ?_) #[true, false, false, false, false] rfl rfl (by kernel_rfl) (fun _ _ _ h => h) (Or.inl ⟨(by rfl), ?_⟩) hHeld ?_ ?_
   rotate_left
   ·rintro w' ⟨s0, s1, s2, s3⟩
    go_simp
    with_reducible rfl
   rotate_left
   ·simp only [Act.put, List.setIfInBounds_toArray, List.set_cons_zero, List.set_cons_succ, i64_w, i32_w]
    rfl
   refine take_ (i := 1) (N := some 56) (v := ?_) (a' := ?_) #[true, true, false, false, false] rfl rfl (by kernel_rfl) (fun _ _ _ h => h) (Or.inl ⟨(by rfl), ?_⟩) hHeld ?_ ?_
   rotate_left
   ·rintro w' ⟨s0, s1, s2, s3⟩
    go_simp
    with_reducible rfl
   rotate_left
   ·simp only [Act.put, List.setIfInBounds_toArray, List.set_cons_zero, List.set_cons_succ, i64_w, i32_w]
    rfl
   refine one_ (i := 2) (N := some 57) #[true, true, true, false, false] rfl rfl (by kernel_rfl) (by decide) (fun K hK => ?_)
   refine goes_ Tryd.func16 (by kernel_rfl) rfl #[.agg #[.slice A0_0 l0_0.length c0_0, .slice A0_1 l0_1.length c0_1]] (by rfl) rfl rfl ZZ19826e ?_
   with_reducible refine (laws_toLedger.calls kj11 _ _ l0_0 _ _ l0_1 t346 t349 _ ?side1 ?side2 ?side3 ?side4 A39.out).mono ?_
   (case side1 => exact ZZ5b25f1)
   (case side2 => exact HC0_0.out)
   (case side3 => exact ZZ8ff6b3)
   (case side4 => exact HC0_1.out)
   rintro e w96 ⟨v347, v350, rfl, ho0, ho1, hb⟩
   refine ⟨_, rfl, ?_⟩
   replace HO_6 := Aside0.mk (Kd.R_below (zR HO_6) hb)
   replace HO_10 := Aside0.mk (Kd.R_below (zR HO_10) hb)
   have HO348 := Aside0.mk (Kd.R_lower (Kd.R_new' ho0 (Kd.R_lt (zR HO_340000))) (below_size ZZ295621))
   replace HO_340000 := Aside0.mk (Kd.R_elder' (zR HO_340000) (Kd.R_base ho0) hb)
   have HO351 := Aside0.mk (Kd.S_lower (Kd.S_new' ho1 (Kd.S_lt (zS HO_340001))) (below_size ZZ295621))
   replace HO_340001 := Aside0.mk (Kd.S_elder' (zS HO_340001) (Kd.S_base ho1) hb)
   replace BK320 := Aside0.mk (blk_below (zB BK320) hb)
   replace BK339 := Aside0.mk (blk_below (zB BK339) hb)
   replace HB := Aside0.mk (below_step ZZ295621 hb)
   (try clear hb)
   (try clear hb2)
   (try clear hk)
   (try clear hi)
   (try clear ho0)
   (try clear ho1)
   obtain ⟨Ao97, co97, eo97⟩ := Kd.R_slice HO348.out
   (first | subst eo97 | (injection eo97 with f1_ f2_ f3_; have f4_ := f1_.symm; have f5_ := f3_.symm; clear f1_ f2_ f3_; subst f4_; subst f5_))
   obtain ⟨Ao98, co98, eo98⟩ := Kd.S_slice HO351.out
   (first | subst eo98 | (injection eo98 with f1_ f2_ f3_; have f4_ := f1_.symm; have f5_ := f3_.symm; clear f1_ f2_ f3_; subst f4_; subst f5_))
   refine hK.out _ _ ⟨(blk_cell BK339.out 0).trans rfl, (blk_cell BK339.out 1).trans rfl, (blk_cell BK320.out 0).trans rfl, (blk_cell BK320.out 1).trans rfl⟩ (fun hHeld => ?_)
   clear hK K
   refine norm_ (a' := ?_) ?_ ?_
   rotate_left
   ·show Act.put _ (some 57) _ = _
    simp only [Act.put, List.setIfInBounds_toArray, List.set_cons_zero, List.set_cons_succ, i64_w, i32_w]
    rfl
   refine one_ (i := 3) (N := some 58) #[true, true, true, true, false] rfl rfl (by kernel_rfl) (by decide) (fun K hK => ?_)
   refine goes_ Tryd.func18 (by kernel_rfl) rfl #[.agg #[.slice Ao24 t333.length co24, .slice Ao27 t336.length co27], .agg #[.slice Ao97 t346.length co97, .slice Ao98 t349.length co98]] (by rfl) rfl rfl ZZ19826e ?_
   with_reducible refine (laws_eqLedger.calls kj11 _ _ t333 _ _ t336 _ _ t346 _ _ t349 false _ ?side1 ?side2 ?side3 ?side4 ?side5 ?side6 ?side7 ?side8 A40.out).mono ?_
   (case side1 => repeat (first | exact (Kd.R_reads' HO_340000.out).2.2 | (with_reducible refine Kd.C_alloc ?_ _) | (with_reducible refine Kd.C_drewN ?_ _) | (with_reducible refine Kd.C_drew ?_)))
   (case side2 => exact (Kd.R_reads' HO_340000.out).2.1)
   (case side3 => repeat (first | exact (Kd.S_reads' HO_340001.out).2.2 | (with_reducible refine Kd.C_alloc ?_ _) | (with_reducible refine Kd.C_drewN ?_ _) | (with_reducible refine Kd.C_drew ?_)))
   (case side4 => exact (Kd.S_reads' HO_340001.out).2.1)
   (case side5 => repeat (first | exact (Kd.R_reads' HO348.out).2.2 | (with_reducible refine Kd.C_alloc ?_ _) | (with_reducible refine Kd.C_drewN ?_ _) | (with_reducible refine Kd.C_drew ?_)))
   (case side6 => exact (Kd.R_reads' HO348.out).2.1)
   (case side7 => repeat (first | exact (Kd.S_reads' HO351.out).2.2 | (with_reducible refine Kd.C_alloc ?_ _) | (with_reducible refine Kd.C_drewN ?_ _) | (with_reducible refine Kd.C_drew ?_)))
   (case side8 => exact (Kd.S_reads' HO351.out).2.1)
   rintro e w99 ⟨rfl, hb⟩
   refine ⟨_, rfl, ?_⟩
   replace HO_6 := Aside0.mk (Kd.R_below (zR HO_6) hb)
   replace HO_10 := Aside0.mk (Kd.R_below (zR HO_10) hb)
   replace HO_340000 := Aside0.mk (Kd.R_below (zR HO_340000) hb)
   replace HO_340001 := Aside0.mk (Kd.S_below (zS HO_340001) hb)
   replace HO348 := Aside0.mk (Kd.R_below (zR HO348) hb)
   replace HO351 := Aside0.mk (Kd.S_below (zS HO351) hb)
   replace BK320 := Aside0.mk (blk_below (zB BK320) hb)
   replace BK339 := Aside0.mk (blk_below (zB BK339) hb)
   replace HB := Aside0.mk (below_step ZZ295621 hb)
   (try clear hb)
   (try clear hb2)
   (try clear hk)
   (try clear hi)
   refine hK.out _ _ ⟨(blk_cell BK339.out 0).trans rfl, (blk_cell BK339.out 1).trans rfl, (blk_cell BK320.out 0).trans rfl, (blk_cell BK320.out 1).trans rfl⟩ (fun hHeld => ?_)
   clear hK K
   refine norm_ (a' := ?_) ?_ ?_
   rotate_left
   ·show Act.put _ (some 58) _ = _
    simp only [Act.put, List.setIfInBounds_toArray, List.set_cons_zero, List.set_cons_succ, i64_w, i32_w]
    rfl
   refine pure_ (i := 4) (N := some 59) (v := ?_) (a' := ?_) #[true, true, true, true, true] rfl rfl (by kernel_rfl) (fun _ _ _ h => h) (Or.inl ⟨(by rfl), ?_⟩) ?_ ?_
   rotate_left
   ·intro w'
    go_simp
    with_reducible rfl
   rotate_left
   ·simp only [Act.put, List.setIfInBounds_toArray, List.set_cons_zero, List.set_cons_succ, i64_w, i32_w]
    rfl
   refine done_ (by kernel_rfl) ?_
   try go_wp2
   go_ret
   exact ⟨ZZab01d2, ZZ295621⟩
end Go.Proofs.YtccdjchaaeligaaDoor.XFnExactTrialBalance

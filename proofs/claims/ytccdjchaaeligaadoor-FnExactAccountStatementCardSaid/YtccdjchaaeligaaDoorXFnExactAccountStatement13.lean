-- Printed by wip/tools/xprint.py, a program of this session, over the kit's print; Lean checks it.
import Derived.Test.YtccdjchaaeligaaDoorXFnExactAccountStatement5
import Derived.Test.YtccdjchaaeligaaDoorXFnExactAccountStatement0
import Derived.Test.YtccdjchaaeligaaDoorXFnExactAccountStatement1
import Derived.Test.YtccdjchaaeligaaDoorXFnExactAccountStatement2
import Derived.Test.YtccdjchaaeligaaDoorXFnExactAccountStatement4
import Derived.Test.YtccdjchaaeligaaDoorXFnExactAccountStatement7
import Derived.Test.YtccdjchaaeligaaDoorXFnExactAccountStatement11
import Derived.Test.YtccdjchaaeligaaDoorXFnExactAccountStatement12
namespace Go.Proofs.YtccdjchaaeligaaDoor.XFnExactAccountStatement
open Go.Proofs.YtccdjchaaeligaaDoor.Short Go.RowKit Go.Proofs.YtccdjchaaeligaaDoorW.PrintWords Go.Proofs.YtccdjchaaeligaaDoorW.PrintLast Go.Proofs.YtccdjchaaeligaaDoorW.PrintMore
attribute [local go_sem] max2_int min2_int max_two min_two max_three min_three max_four min_four   -- for this text's walks alone
set_option linter.unusedVariables false
set_option linter.unusedSimpArgs false
theorem ZZb36450 {p : Prop} (h : p := by (try simp only [List.map_toArray, List.map_cons, List.map_nil]); first | done | (rw [show t378.length = t356.length from (Kd.R_reads' HO_14.out).1.symm] <;> rfl) | rfl | (simp only [List.length_drop, List.length_take]; rfl)) : p := h
/-! ### laws_FnExactAccountStatement: function 7 -/
mutual
def laws_FnExactAccountStatement.j0 : Nat → Int → Int → Int → List Int → List Int → Bool → List Int → List Int → Bool → Bool → List (S109) → List (S58) → List (S48) → List (S63) → Option (Bool)
 | 0, _, _, _, _, _, _, _, _, _, _, _, _, _, _ => none
 | k + 1, x1, x2, x3, x10, x11, x12, x14, x15, x16, x63, x335000, x335001, x356000, x356001 => if x63 = true then (some false) else ((laws_toLedger.f k x335000 x335001).bind fun bt365 => ((laws_eqLedger.f k x356000 x356001 bt365.1 bt365.2).bind fun t371 => (if t371 = true then ((laws_markLedger.f k x356000 x356001 1).bind fun bt372 => (if bt372.1 < 0 then (laws_FnExactAccountStatement.j1 k x1 x2 x3 x10 x11 x12 x14 x15 true x335000 x335001) else ((laws_eqIntS.f k x14 x10).bind fun t375 => (if t375 = true then ((laws_eqIntS.f k x15 x11).bind fun t376 => (if t376 = true then (laws_FnExactAccountStatement.j1 k x1 x2 x3 x10 x11 x12 x14 x15 (x16 != x12) x335000 x335001) else (laws_FnExactAccountStatement.j1 k x1 x2 x3 x10 x11 x12 x14 x15 true x335000 x335001))) else (laws_FnExactAccountStatement.j1 k x1 x2 x3 x10 x11 x12 x14 x15 true x335000 x335001))))) else (some false))))
def laws_FnExactAccountStatement.j1 : Nat → Int → Int → Int → List Int → List Int → Bool → List Int → List Int → Bool → List (S109) → List (S58) → Option (Bool)
 | 0, _, _, _, _, _, _, _, _, _, _, _ => none
 | k + 1, x1, x2, x3, x10, x11, x12, x14, x15, x90, x335000, x335001 => if x90 = true then (some false) else ((laws_markIntS.f k x14 1).bind fun bt377 => ((laws_markIntS.f k x15 bt377.1).bind fun bt379 => ((laws_heldIntS.f k bt377.2 1).bind fun t381 => (if t381 < 0 then (some false) else ((laws_heldIntS.f k bt379.2 t381).bind fun t382 => (if t382 < 0 then (some false) else (if t382 = bt379.1 then ((laws_toLedger.f k x335000 x335001).bind fun bt383 => ((impl_AccountStatement.f k bt383.1 bt383.2 x1 x2 x3).bind fun bt389 => ((laws_eqIntS.f k bt389.1 x10).bind fun t396 => (if t396 = true then ((laws_eqIntS.f k bt389.2.1 x11).bind fun t397 => (if t397 = true then (laws_FnExactAccountStatement.j2 k bt377.2 bt379.2 bt379.1 (bt389.2.2 != x12)) else (laws_FnExactAccountStatement.j2 k bt377.2 bt379.2 bt379.1 true))) else (laws_FnExactAccountStatement.j2 k bt377.2 bt379.2 bt379.1 true))))) else (some false))))))))
def laws_FnExactAccountStatement.j2 : Nat → List Int → List Int → Int → Bool → Option (Bool)
 | 0, _, _, _, _ => none
 | k + 1, x14, x15, x18, x134 => if x134 = true then (some false) else ((laws_heldIntS.f k x14 1).bind fun t398 => (if t398 < 0 then (some false) else ((laws_heldIntS.f k x15 t398).bind fun t399 => (if t399 < 0 then (some false) else (if t399 = x18 then (some true) else (some false))))))
end
def laws_FnExactAccountStatement.f (k : Nat) (l0_0 : List (S109)) (l0_1 : List (S58)) (a1 : Int) (a2 : Int) (a3 : Int) : Option (Bool) := (laws_szLedger.f k l0_0 l0_1 1048576).bind fun t335 => (if t335 < 0 then (some true) else ((laws_toLedger.f k l0_0 l0_1).bind fun bt336 => ((spec_AccountStatement.f k bt336.1 bt336.2 a1 a2 a3).bind fun bt342 => ((laws_toLedger.f k l0_0 l0_1).bind fun bt349 => ((impl_AccountStatement.f k bt349.1 bt349.2 a1 a2 a3).bind fun bt356 => ((laws_eqIntS.f k bt356.1 bt342.1).bind fun t363 => (if t363 = true then ((laws_eqIntS.f k bt356.2.1 bt342.2.1).bind fun t364 => (if t364 = true then (laws_FnExactAccountStatement.j0 k a1 a2 a3 bt342.1 bt342.2.1 bt342.2.2 bt356.1 bt356.2.1 bt356.2.2 (bt356.2.2 != bt342.2.2) l0_0 l0_1 bt349.1 bt349.2) else (laws_FnExactAccountStatement.j0 k a1 a2 a3 bt342.1 bt342.2.1 bt342.2.2 bt356.1 bt356.2.1 bt356.2.2 true l0_0 l0_1 bt349.1 bt349.2))) else (laws_FnExactAccountStatement.j0 k a1 a2 a3 bt342.1 bt342.2.1 bt342.2.2 bt356.1 bt356.2.1 bt356.2.2 true l0_0 l0_1 bt349.1 bt349.2))))))))
theorem laws_FnExactAccountStatement.mono_l : ∀ k, (∀ y0 y1 y2 y3 y4 y5 y6 y7 y8 y9 y10 y11 y12 y13, LeO (laws_FnExactAccountStatement.j0 k y0 y1 y2 y3 y4 y5 y6 y7 y8 y9 y10 y11 y12 y13) (laws_FnExactAccountStatement.j0 (k + 1) y0 y1 y2 y3 y4 y5 y6 y7 y8 y9 y10 y11 y12 y13)) ∧ (∀ y0 y1 y2 y3 y4 y5 y6 y7 y8 y9 y10, LeO (laws_FnExactAccountStatement.j1 k y0 y1 y2 y3 y4 y5 y6 y7 y8 y9 y10) (laws_FnExactAccountStatement.j1 (k + 1) y0 y1 y2 y3 y4 y5 y6 y7 y8 y9 y10)) ∧ (∀ y0 y1 y2 y3, LeO (laws_FnExactAccountStatement.j2 k y0 y1 y2 y3) (laws_FnExactAccountStatement.j2 (k + 1) y0 y1 y2 y3))
 | 0 => ⟨fun _ _ _ _ _ _ _ _ _ _ _ _ _ _ r h => by simp [laws_FnExactAccountStatement.j0] at h, fun _ _ _ _ _ _ _ _ _ _ _ r h => by simp [laws_FnExactAccountStatement.j1] at h, fun _ _ _ _ r h => by simp [laws_FnExactAccountStatement.j2] at h⟩
 | k + 1 => by
  obtain ⟨ih0, ih1, ih2⟩ := laws_FnExactAccountStatement.mono_l k
  refine ⟨?_, ?_, ?_⟩
  all_goals intros
  all_goals (first | unfold laws_FnExactAccountStatement.j0 | unfold laws_FnExactAccountStatement.j1 | unfold laws_FnExactAccountStatement.j2)
  all_goals
   repeat' first
   | (with_reducible exact ih0 _ _ _ _ _ _ _ _ _ _ _ _ _ _)
   | (with_reducible exact ih1 _ _ _ _ _ _ _ _ _ _ _)
   | (with_reducible exact ih2 _ _ _ _)
   | (with_reducible exact impl_AccountStatement.mono _ _ _ _ _ _)
   | (with_reducible exact laws_eqIntS.mono _ _ _)
   | (with_reducible exact laws_eqLedger.mono _ _ _ _ _)
   | (with_reducible exact laws_heldIntS.mono _ _ _)
   | (with_reducible exact laws_markIntS.mono _ _ _)
   | (with_reducible exact laws_markLedger.mono _ _ _ _)
   | (with_reducible exact laws_szLedger.mono _ _ _ _)
   | (with_reducible exact laws_toLedger.mono _ _ _)
   | (with_reducible exact spec_AccountStatement.mono _ _ _ _ _ _)
   | (with_reducible exact LeO.refl _)
   | (with_reducible exact LeO.none _)
   | (with_reducible refine LeO.ite ?_ ?_)
   | (with_reducible refine LeO.bind ?_ (fun _ => ?_))
   | exact ih0 _ _ _ _ _ _ _ _ _ _ _ _ _ _
   | exact ih1 _ _ _ _ _ _ _ _ _ _ _
   | exact ih2 _ _ _ _
   | exact impl_AccountStatement.mono _ _ _ _ _ _
   | exact laws_eqIntS.mono _ _ _
   | exact laws_eqLedger.mono _ _ _ _ _
   | exact laws_heldIntS.mono _ _ _
   | exact laws_markIntS.mono _ _ _
   | exact laws_markLedger.mono _ _ _ _
   | exact laws_szLedger.mono _ _ _ _
   | exact laws_toLedger.mono _ _ _
   | exact spec_AccountStatement.mono _ _ _ _ _ _
   | exact LeO.none _
   | refine LeO.ite ?_ ?_
   | refine LeO.bind ?_ (fun _ => ?_)
theorem laws_FnExactAccountStatement.mono : ∀ a0 a1 a2 a3 a4 k, LeO (laws_FnExactAccountStatement.f k a0 a1 a2 a3 a4) (laws_FnExactAccountStatement.f (k + 1) a0 a1 a2 a3 a4) := by
 intro a0 a1 a2 a3 a4 k
 obtain ⟨ih0, ih1, ih2⟩ := laws_FnExactAccountStatement.mono_l k
 unfold laws_FnExactAccountStatement.f
 repeat' first
  | (with_reducible exact ih0 _ _ _ _ _ _ _ _ _ _ _ _ _ _)
  | (with_reducible exact ih1 _ _ _ _ _ _ _ _ _ _ _)
  | (with_reducible exact ih2 _ _ _ _)
  | (with_reducible exact impl_AccountStatement.mono _ _ _ _ _ _)
  | (with_reducible exact laws_eqIntS.mono _ _ _)
  | (with_reducible exact laws_eqLedger.mono _ _ _ _ _)
  | (with_reducible exact laws_heldIntS.mono _ _ _)
  | (with_reducible exact laws_markIntS.mono _ _ _)
  | (with_reducible exact laws_markLedger.mono _ _ _ _)
  | (with_reducible exact laws_szLedger.mono _ _ _ _)
  | (with_reducible exact laws_toLedger.mono _ _ _)
  | (with_reducible exact spec_AccountStatement.mono _ _ _ _ _ _)
  | (with_reducible exact LeO.refl _)
  | (with_reducible exact LeO.none _)
  | (with_reducible refine LeO.ite ?_ ?_)
  | (with_reducible refine LeO.bind ?_ (fun _ => ?_))
  | exact ih0 _ _ _ _ _ _ _ _ _ _ _ _ _ _
  | exact ih1 _ _ _ _ _ _ _ _ _ _ _
  | exact ih2 _ _ _ _
  | exact impl_AccountStatement.mono _ _ _ _ _ _
  | exact laws_eqIntS.mono _ _ _
  | exact laws_eqLedger.mono _ _ _ _ _
  | exact laws_heldIntS.mono _ _ _
  | exact laws_markIntS.mono _ _ _
  | exact laws_markLedger.mono _ _ _ _
  | exact laws_szLedger.mono _ _ _ _
  | exact laws_toLedger.mono _ _ _
  | exact spec_AccountStatement.mono _ _ _ _ _ _
  | exact LeO.none _
  | refine LeO.ite ?_ ?_
  | refine LeO.bind ?_ (fun _ => ?_)
set_option maxHeartbeats 8000000 in
set_option maxRecDepth 100000 in
theorem laws_FnExactAccountStatement.calls (k : Nat) (A0_0 : Option Addr) (c0_0 : Nat) (l0_0 : List (S109)) (A0_1 : Option Addr) (c0_1 : Nat) (l0_1 : List (S58)) (a1 : Int) (a2 : Int) (a3 : Int) (r : Bool) (w : World) (hr0_0 : Kd.C k109 w A0_0 l0_0.length l0_0) (hc0_0 : l0_0.length ≤ c0_0) (hr0_1 : Kd.C k58 w A0_1 l0_1.length l0_1) (hc0_1 : l0_1.length ≤ c0_1) (h : laws_FnExactAccountStatement.f k l0_0 l0_1 a1 a2 a3 = some r) :
 Calls Tryd.prog 7 #[.agg #[.slice A0_0 l0_0.length c0_0, .slice A0_1 l0_1.length c0_1], .int .i64 a1, .int .i64 a2, .int .i64 a3] w fun e w' => e = .returned (.bool r) ∧ Below w.heap.size w w' := by
 have hu25 := Tryd.underlying25
 have hu31 := Tryd.underlying31
 have HR0_0 := Aside0.mk hr0_0
 have HC0_0 := Aside0.mk hc0_0
 clear hr0_0 hc0_0
 have HR0_1 := Aside0.mk hr0_1
 have HC0_1 := Aside0.mk hc0_1
 clear hr0_1 hc0_1
 have HB := Aside0.mk (Below.refl w.heap.size w)
 have H := h
 clear h
 unfold laws_FnExactAccountStatement.f at H
 obtain ⟨t335, A5, H⟩ := bdY H
 by_cases c6 : t335 < 0
 ·rw [if_pos c6] at H
  have c6b0 := decide_eq_true c6
  clear c6
  obtain rfl := Option.some.inj H
  go_enter Tryd.func7, Tryd.ntmps7
  go_wp2_with (first | ((with_reducible refine gate_dst (N := 4) rfl ?_); refine box_event ?hg (N := 4) ?hd (cs := #[.slice A0_0 l0_0.length c0_0, .slice A0_1 l0_1.length c0_1]) (t := 25) ?hr ?_; (case hd => rfl); (case hg => rfl); (case hr => first | (go_simp; done) | (go_simp; rfl)); intro gb334 hg w7 hbox hb; have BK334 := Aside0.mk (hbox); have GW334 := Aside0.mk ((by rw [hg]; exact (below_size ZZ605003) : w.heap.size ≤ gb334)); have GE334 := Aside0.mk ((by rw [hg]; exact (below_size ZZ605003) : w.heap.size ≤ gb334)); replace HB := Aside0.mk (below_step ZZ605003 hb); clear hb hbox hg; have hcz8_0 : w7.cell? ⟨gb334, 0, none⟩ = some (.slice A0_0 l0_0.length c0_0) := (blk_cell BK334.out 0).trans rfl; have hcz8_1 : w7.cell? ⟨gb334, 1, none⟩ = some (.slice A0_1 l0_1.length c0_1) := (blk_cell BK334.out 1).trans rfl; have hfz8_0 := blk_frozen BK334.out 0; have hfz8_1 := blk_frozen BK334.out 1) | ((with_reducible refine gate_callee (f := 14) rfl ?_); refine goesL_ (some 25) rfl rfl Tryd.func14 (by kernel_rfl) rfl #[.agg #[.slice A0_0 l0_0.length c0_0, .slice A0_1 l0_1.length c0_1], .int .i64 1048576] rfl ZZ19826e ?_; (with_reducible refine (laws_szLedger.calls k _ _ l0_0 _ _ l0_1 1048576 t335 _ ?side1 ?side2 ?side3 ?side4 A5.out).mono ?_); (case side1 => exact ZZ5b25f1); (case side2 => exact HC0_0.out); (case side3 => exact ZZ8ff6b3); (case side4 => exact HC0_1.out); rintro e w9 ⟨rfl, hb⟩; refine ⟨_, rfl, ?_⟩; replace BK334 := Aside0.mk (blk_below (zB BK334) hb); replace HB := Aside0.mk (below_step ZZ295621 hb); (try clear hb); (try clear hb2); (try clear hk); (try clear hi)))
  go_ret
  exact ⟨ZZab01d2, ZZ295621⟩
 rw [if_neg c6] at H
 have c6b0 := decide_eq_false c6
 clear c6
 obtain ⟨⟨t336, t339⟩, A10, H⟩ := bdY H
 try dsimp only at H
 obtain ⟨⟨t342, t345, t348⟩, A11, H⟩ := bdY H
 try dsimp only at H
 obtain ⟨⟨t349, t352⟩, A12, H⟩ := bdY H
 try dsimp only at H
 obtain ⟨⟨t356, t359, t362⟩, A13, H⟩ := bdY H
 try dsimp only at H
 have HC14 := Aside0.mk H
 clear H
 go_enter Tryd.func7, Tryd.ntmps7
 go_upto_region 8 with (first | ((with_reducible refine gate_dst (N := 4) rfl ?_); refine box_event ?hg (N := 4) ?hd (cs := #[.slice A0_0 l0_0.length c0_0, .slice A0_1 l0_1.length c0_1]) (t := 25) ?hr ?_; (case hd => rfl); (case hg => rfl); (case hr => first | (go_simp; done) | (go_simp; rfl)); intro gb334 hg w15 hbox hb; have BK334 := Aside0.mk (hbox); have GW334 := Aside0.mk ((by rw [hg]; exact (below_size ZZ605003) : w.heap.size ≤ gb334)); have GE334 := Aside0.mk ((by rw [hg]; exact (below_size ZZ605003) : w.heap.size ≤ gb334)); replace HB := Aside0.mk (below_step ZZ605003 hb); clear hb hbox hg; have hcz16_0 : w15.cell? ⟨gb334, 0, none⟩ = some (.slice A0_0 l0_0.length c0_0) := (blk_cell BK334.out 0).trans rfl; have hcz16_1 : w15.cell? ⟨gb334, 1, none⟩ = some (.slice A0_1 l0_1.length c0_1) := (blk_cell BK334.out 1).trans rfl; have hfz16_0 := blk_frozen BK334.out 0; have hfz16_1 := blk_frozen BK334.out 1) | ((with_reducible refine gate_callee (f := 14) rfl ?_); refine goesL_ (some 25) rfl rfl Tryd.func14 (by kernel_rfl) rfl #[.agg #[.slice A0_0 l0_0.length c0_0, .slice A0_1 l0_1.length c0_1], .int .i64 1048576] rfl ZZ19826e ?_; (with_reducible refine (laws_szLedger.calls k _ _ l0_0 _ _ l0_1 1048576 t335 _ ?side1 ?side2 ?side3 ?side4 A5.out).mono ?_); (case side1 => exact ZZ5b25f1); (case side2 => exact HC0_0.out); (case side3 => exact ZZ8ff6b3); (case side4 => exact HC0_1.out); rintro e w17 ⟨rfl, hb⟩; refine ⟨_, rfl, ?_⟩; replace BK334 := Aside0.mk (blk_below (zB BK334) hb); replace HB := Aside0.mk (below_step ZZ295621 hb); (try clear hb); (try clear hb2); (try clear hk); (try clear hi); have hcz18_0 : w17.cell? ⟨gb334, 0, none⟩ = some (.slice A0_0 l0_0.length c0_0) := (blk_cell BK334.out 0).trans rfl; have hcz18_1 : w17.cell? ⟨gb334, 1, none⟩ = some (.slice A0_1 l0_1.length c0_1) := (blk_cell BK334.out 1).trans rfl; have hfz18_0 := blk_frozen BK334.out 0; have hfz18_1 := blk_frozen BK334.out 1) | ((with_reducible refine gate_callee (f := 16) rfl ?_); refine goesL_ (some 30) rfl rfl Tryd.func16 (by kernel_rfl) rfl #[.agg #[.slice A0_0 l0_0.length c0_0, .slice A0_1 l0_1.length c0_1]] rfl ZZ19826e ?_; (with_reducible refine (laws_toLedger.calls k _ _ l0_0 _ _ l0_1 t336 t339 _ ?side1 ?side2 ?side3 ?side4 A10.out).mono ?_); (case side1 => exact ZZ5b25f1); (case side2 => exact HC0_0.out); (case side3 => exact ZZ8ff6b3); (case side4 => exact HC0_1.out); rintro e w19 ⟨v337, v340, rfl, ho0, ho1, hb⟩; refine ⟨_, rfl, ?_⟩; have HO338 := Aside0.mk (Kd.R_lower ho0 (below_size ZZ295621)); have HO341 := Aside0.mk (Kd.S_lower ho1 (below_size ZZ295621)); replace BK334 := Aside0.mk (blk_below (zB BK334) hb); replace HB := Aside0.mk (below_step ZZ295621 hb); (try clear hb); (try clear hb2); (try clear hk); (try clear hi); (try clear ho0); (try clear ho1); obtain ⟨Ao20, co20, eo20⟩ := Kd.R_slice HO338.out; subst eo20; obtain ⟨Ao21, co21, eo21⟩ := Kd.S_slice HO341.out; subst eo21) | ((with_reducible refine gate_callee (f := 28) rfl ?_); refine goesL_ (some 34) rfl rfl Tryd.func28 (by kernel_rfl) rfl #[.agg #[.slice Ao20 t336.length co20, .slice Ao21 t339.length co21], .int .i64 a1, .int .i64 a2, .int .i64 a3] rfl ZZ19826e ?_; (with_reducible refine (spec_AccountStatement.calls k _ _ t336 _ _ t339 a1 a2 a3 t342 t345 t348 _ ?side1 ?side2 ?side3 ?side4 A11.out).mono ?_); (case side1 => repeat (first | exact (Kd.R_reads' HO338.out).2.2 | (with_reducible refine Kd.C_alloc ?_ _) | (with_reducible refine Kd.C_drewN ?_ _) | (with_reducible refine Kd.C_drew ?_))); (case side2 => exact (Kd.R_reads' HO338.out).2.1); (case side3 => repeat (first | exact (Kd.S_reads' HO341.out).2.2 | (with_reducible refine Kd.C_alloc ?_ _) | (with_reducible refine Kd.C_drewN ?_ _) | (with_reducible refine Kd.C_drew ?_))); (case side4 => exact (Kd.S_reads' HO341.out).2.1); rintro e w22 ⟨v343, v346, rfl, ho0, ho1, hb⟩; refine ⟨_, rfl, ?_⟩; replace HO338 := Aside0.mk (Kd.R_below (zR HO338) hb); replace HO341 := Aside0.mk (Kd.S_below (zS HO341) hb); have HO344 := Aside0.mk (Kd.R_lower ho0 (below_size ZZ295621)); have HO347 := Aside0.mk (Kd.R_lower ho1 (below_size ZZ295621)); replace BK334 := Aside0.mk (blk_below (zB BK334) hb); replace HB := Aside0.mk (below_step ZZ295621 hb); (try clear hb); (try clear hb2); (try clear hk); (try clear hi); (try clear ho0); (try clear ho1); have hcz23_0 : w22.cell? ⟨gb334, 0, none⟩ = some (.slice A0_0 l0_0.length c0_0) := (blk_cell BK334.out 0).trans rfl; have hcz23_1 : w22.cell? ⟨gb334, 1, none⟩ = some (.slice A0_1 l0_1.length c0_1) := (blk_cell BK334.out 1).trans rfl; have hfz23_0 := blk_frozen BK334.out 0; have hfz23_1 := blk_frozen BK334.out 1) | ((with_reducible refine gate_callee (f := 16) rfl ?_); refine goesL_ (some 39) rfl rfl Tryd.func16 (by kernel_rfl) rfl #[.agg #[.slice A0_0 l0_0.length c0_0, .slice A0_1 l0_1.length c0_1]] rfl ZZ19826e ?_; (with_reducible refine (laws_toLedger.calls k _ _ l0_0 _ _ l0_1 t349 t352 _ ?side1 ?side2 ?side3 ?side4 A12.out).mono ?_); (case side1 => exact ZZ5b25f1); (case side2 => exact HC0_0.out); (case side3 => exact ZZ8ff6b3); (case side4 => exact HC0_1.out); rintro e w24 ⟨v350, v353, rfl, ho0, ho1, hb⟩; refine ⟨_, rfl, ?_⟩; replace HO344 := Aside0.mk (Kd.R_below (zR HO344) hb); replace HO347 := Aside0.mk (Kd.R_below (zR HO347) hb); have HO351 := Aside0.mk (Kd.R_lower (Kd.R_new' ho0 (Kd.R_lt (zR HO338))) (below_size ZZ295621)); replace HO338 := Aside0.mk (Kd.R_elder' (zR HO338) (Kd.R_base ho0) hb); have HO354 := Aside0.mk (Kd.S_lower (Kd.S_new' ho1 (Kd.S_lt (zS HO341))) (below_size ZZ295621)); replace HO341 := Aside0.mk (Kd.S_elder' (zS HO341) (Kd.S_base ho1) hb); replace BK334 := Aside0.mk (blk_below (zB BK334) hb); replace HB := Aside0.mk (below_step ZZ295621 hb); (try clear hb); (try clear hb2); (try clear hk); (try clear hi); (try clear ho0); (try clear ho1)) | ((with_reducible refine gate_dst (N := 13) rfl ?_); refine box_event ?hg (N := 13) ?hd (cs := #[.slice none 0 0, .slice none 0 0]) (t := 31) ?hr ?_; (case hd => rfl); (case hg => rfl); (case hr => first | (go_simp; done) | (go_simp; rfl)); intro gb355 hg w25 hbox hb; replace HO338 := Aside0.mk (Kd.R_below (zR HO338) hb); replace HO341 := Aside0.mk (Kd.S_below (zS HO341) hb); replace HO344 := Aside0.mk (Kd.R_below (zR HO344) hb); replace HO347 := Aside0.mk (Kd.R_below (zR HO347) hb); replace HO351 := Aside0.mk (Kd.R_below (zR HO351) hb); replace HO354 := Aside0.mk (Kd.S_below (zS HO354) hb); have BK355 := Aside0.mk (hbox); have GW355 := Aside0.mk ((by rw [hg]; exact (below_size ZZ295621) : w.heap.size ≤ gb355)); have GE355 := Aside0.mk ((by rw [hg]; exact (below_size ZZ295621) : w.heap.size ≤ gb355)); replace HB := Aside0.mk (below_step ZZ295621 hb); have NB334_355 := Aside0.mk ((by rw [hg]; exact Nat.ne_of_lt (blk_lt (zB BK334)) : gb334 ≠ gb355)); have NB355_334 := Aside0.mk ((by rw [hg]; exact Nat.ne_of_gt (blk_lt (zB BK334)) : gb355 ≠ gb334)); replace BK334 := Aside0.mk (blk_below (zB BK334) hb); clear hb hbox hg; obtain ⟨Ao26, co26, eo26⟩ := Kd.R_slice HO351.out; subst eo26; have hnb27 := NB355_334.out; have hnc27 := NB334_355.out; have hcz28_0 : w25.cell? ⟨gb355, 0, none⟩ = some (.slice none 0 0) := (blk_cell BK355.out 0).trans rfl; have hcz28_1 : w25.cell? ⟨gb355, 1, none⟩ = some (.slice none 0 0) := (blk_cell BK355.out 1).trans rfl; have hfz28_0 := blk_frozen BK355.out 0; have hfz28_1 := blk_frozen BK355.out 1; obtain ⟨Ao29, co29, eo29⟩ := Kd.S_slice HO354.out; subst eo29) | ((with_reducible refine gate_callee (f := 29) rfl ?_); refine goesL_ (some 45) rfl rfl Tryd.func29 (by kernel_rfl) rfl #[.agg #[.slice Ao26 t349.length co26, .slice Ao29 t352.length co29], .int .i64 a1, .int .i64 a2, .int .i64 a3] rfl ZZ19826e ?_; (with_reducible refine (impl_AccountStatement.calls k _ _ t349 _ _ t352 a1 a2 a3 t356 t359 t362 _ ?side1 ?side2 ?side3 ?side4 A13.out).mono ?_); (case side1 => refine (Kd.R_reads' (e := 48) (base := w.heap.size) (ok := fun k_ => (True ∧ some k_ ≠ (.slice Ao20 t336.length co20 : Value).ownBlock)) (n := t349.length) (c := co26) ?_).2.2; exact (by (with_reducible repeat (first | apply Kd.R_alloc | apply Kd.R_drewN | apply Kd.R_drew)); exact (Kd.R_mono (Kd.R_far (p := ⟨gb355, 1, none⟩) (Kd.R_far (p := ⟨gb355, 0, none⟩) (Kd.R_types HO351.out BK355.out (by decide)) (fun _ hk => hk.2) (.slice Ao26 t349.length co26)) (fun _ hk => hk.2) (.slice Ao29 t352.length co29)) (fun _ h_ => h_.1)))); (case side2 => exact (Kd.R_reads' HO351.out).2.1); (case side3 => refine (Kd.S_reads' (e := 63) (base := w.heap.size) (ok := fun k_ => (True ∧ some k_ ≠ (.slice Ao21 t339.length co21 : Value).ownBlock)) (n := t352.length) (c := co29) ?_).2.2; exact (by (with_reducible repeat (first | apply Kd.S_alloc | apply Kd.S_drewN | apply Kd.S_drew)); exact (Kd.S_mono (Kd.S_far (p := ⟨gb355, 1, none⟩) (Kd.S_far (p := ⟨gb355, 0, none⟩) (Kd.S_types HO354.out BK355.out (by decide)) (fun _ hk => hk.2) (.slice Ao26 t349.length co26)) (fun _ hk => hk.2) (.slice Ao29 t352.length co29)) (fun _ h_ => h_.1)))); (case side4 => exact (Kd.S_reads' HO354.out).2.1); rintro e w30 ⟨v357, v360, rfl, ho0, ho1, hb⟩; refine ⟨_, rfl, ?_⟩; replace HO338 := Aside0.mk (Kd.R_below (by (with_reducible repeat (first | apply Kd.R_alloc | apply Kd.R_drewN | apply Kd.R_drew)); exact (Kd.R_mono (Kd.R_far (p := ⟨gb355, 1, none⟩) (Kd.R_far (p := ⟨gb355, 0, none⟩) (Kd.R_types HO338.out BK355.out (by decide)) (fun _ hk => hk.2) (.slice Ao26 t349.length co26)) (fun _ hk => hk.2) (.slice Ao29 t352.length co29)) (fun _ h_ => h_.1))) hb); replace HO341 := Aside0.mk (Kd.S_below (by (with_reducible repeat (first | apply Kd.S_alloc | apply Kd.S_drewN | apply Kd.S_drew)); exact (Kd.S_mono (Kd.S_far (p := ⟨gb355, 1, none⟩) (Kd.S_far (p := ⟨gb355, 0, none⟩) (Kd.S_types HO341.out BK355.out (by decide)) (fun _ hk => hk.2) (.slice Ao26 t349.length co26)) (fun _ hk => hk.2) (.slice Ao29 t352.length co29)) (fun _ h_ => h_.1))) hb); replace HO351 := Aside0.mk (Kd.R_below (by (with_reducible repeat (first | apply Kd.R_alloc | apply Kd.R_drewN | apply Kd.R_drew)); exact (Kd.R_mono (Kd.R_far (p := ⟨gb355, 1, none⟩) (Kd.R_far (p := ⟨gb355, 0, none⟩) (Kd.R_types HO351.out BK355.out (by decide)) (fun _ hk => hk.2) (.slice Ao26 t349.length co26)) (fun _ hk => hk.2) (.slice Ao29 t352.length co29)) (fun _ h_ => h_.1))) hb); replace HO354 := Aside0.mk (Kd.S_below (by (with_reducible repeat (first | apply Kd.S_alloc | apply Kd.S_drewN | apply Kd.S_drew)); exact (Kd.S_mono (Kd.S_far (p := ⟨gb355, 1, none⟩) (Kd.S_far (p := ⟨gb355, 0, none⟩) (Kd.S_types HO354.out BK355.out (by decide)) (fun _ hk => hk.2) (.slice Ao26 t349.length co26)) (fun _ hk => hk.2) (.slice Ao29 t352.length co29)) (fun _ h_ => h_.1))) hb); have HO358 := Aside0.mk (Kd.R_lower (Kd.R_new' (Kd.R_new' ho0 (Kd.R_lt (by (with_reducible repeat (first | apply Kd.R_alloc | apply Kd.R_drewN | apply Kd.R_drew)); exact (Kd.R_mono (Kd.R_far (p := ⟨gb355, 1, none⟩) (Kd.R_far (p := ⟨gb355, 0, none⟩) (Kd.R_types HO344.out BK355.out (by decide)) (fun _ hk => hk.2) (.slice Ao26 t349.length co26)) (fun _ hk => hk.2) (.slice Ao29 t352.length co29)) (fun _ h_ => h_.1))))) (Kd.R_lt (by (with_reducible repeat (first | apply Kd.R_alloc | apply Kd.R_drewN | apply Kd.R_drew)); exact (Kd.R_mono (Kd.R_far (p := ⟨gb355, 1, none⟩) (Kd.R_far (p := ⟨gb355, 0, none⟩) (Kd.R_types HO347.out BK355.out (by decide)) (fun _ hk => hk.2) (.slice Ao26 t349.length co26)) (fun _ hk => hk.2) (.slice Ao29 t352.length co29)) (fun _ h_ => h_.1))))) (below_size ZZ295621)); have HO361 := Aside0.mk (Kd.R_lower (Kd.R_new' (Kd.R_new' ho1 (Kd.R_lt (by (with_reducible repeat (first | apply Kd.R_alloc | apply Kd.R_drewN | apply Kd.R_drew)); exact (Kd.R_mono (Kd.R_far (p := ⟨gb355, 1, none⟩) (Kd.R_far (p := ⟨gb355, 0, none⟩) (Kd.R_types HO344.out BK355.out (by decide)) (fun _ hk => hk.2) (.slice Ao26 t349.length co26)) (fun _ hk => hk.2) (.slice Ao29 t352.length co29)) (fun _ h_ => h_.1))))) (Kd.R_lt (by (with_reducible repeat (first | apply Kd.R_alloc | apply Kd.R_drewN | apply Kd.R_drew)); exact (Kd.R_mono (Kd.R_far (p := ⟨gb355, 1, none⟩) (Kd.R_far (p := ⟨gb355, 0, none⟩) (Kd.R_types HO347.out BK355.out (by decide)) (fun _ hk => hk.2) (.slice Ao26 t349.length co26)) (fun _ hk => hk.2) (.slice Ao29 t352.length co29)) (fun _ h_ => h_.1))))) (below_size ZZ295621)); replace HO344 := Aside0.mk (Kd.R_mono (Kd.R_told (Kd.R_told (Kd.R_old (by (with_reducible repeat (first | apply Kd.R_alloc | apply Kd.R_drewN | apply Kd.R_drew)); exact (Kd.R_mono (Kd.R_far (p := ⟨gb355, 1, none⟩) (Kd.R_far (p := ⟨gb355, 0, none⟩) (Kd.R_types HO344.out BK355.out (by decide)) (fun _ hk => hk.2) (.slice Ao26 t349.length co26)) (fun _ hk => hk.2) (.slice Ao29 t352.length co29)) (fun _ h_ => h_.1))) hb) (Kd.R_base ho0)) (Kd.R_base ho1)) (fun _ h_ => h_.1)); replace HO347 := Aside0.mk (Kd.R_mono (Kd.R_told (Kd.R_told (Kd.R_old (by (with_reducible repeat (first | apply Kd.R_alloc | apply Kd.R_drewN | apply Kd.R_drew)); exact (Kd.R_mono (Kd.R_far (p := ⟨gb355, 1, none⟩) (Kd.R_far (p := ⟨gb355, 0, none⟩) (Kd.R_types HO347.out BK355.out (by decide)) (fun _ hk => hk.2) (.slice Ao26 t349.length co26)) (fun _ hk => hk.2) (.slice Ao29 t352.length co29)) (fun _ h_ => h_.1))) hb) (Kd.R_base ho0)) (Kd.R_base ho1)) (fun _ h_ => h_.1)); replace BK334 := Aside0.mk (blk_below (g := gb334) (o := .cells #[.slice A0_0 l0_0.length c0_0, .slice A0_1 l0_1.length c0_1] 25 (0, 0)) (by (with_reducible repeat (first | refine blk_drewN ?_ _ | refine blk_drew ?_ | refine blk_alloc ?_ _)); refine blk_far ?_ NB334_355.out _; (with_reducible repeat (first | refine blk_drewN ?_ _ | refine blk_drew ?_ | refine blk_alloc ?_ _)); refine blk_far ?_ NB334_355.out _; (with_reducible repeat (first | refine blk_drewN ?_ _ | refine blk_drew ?_ | refine blk_alloc ?_ _)); exact BK334.out) hb); replace BK355 := Aside0.mk (blk_below (g := gb355) (o := .cells #[.slice Ao26 t349.length co26, .slice Ao29 t352.length co29] 31 (0, 0)) (by (with_reducible repeat (first | refine blk_drewN ?_ _ | refine blk_drew ?_ | refine blk_alloc ?_ _)); refine blk_put (cs := #[.slice Ao26 t349.length co26, .slice none 0 0]) ?_ 1 _ rfl; (with_reducible repeat (first | refine blk_drewN ?_ _ | refine blk_drew ?_ | refine blk_alloc ?_ _)); refine blk_put (cs := #[.slice none 0 0, .slice none 0 0]) ?_ 0 _ rfl; (with_reducible repeat (first | refine blk_drewN ?_ _ | refine blk_drew ?_ | refine blk_alloc ?_ _)); exact BK355.out) hb); replace HB := Aside0.mk (below_step ZZ295621 hb); (try clear hb); (try clear hb2); (try clear hk); (try clear hi); (try clear ho0); (try clear ho1)))
 (try simp only [Act.put, List.setIfInBounds_toArray, List.set_cons_zero, List.set_cons_succ])
 go_cut [63] (fun v63 wc => ∃ (kq : Nat) (x63_13 : Bool), v63 = .bool x63_13 ∧ Aside0 (laws_FnExactAccountStatement.j0 kq a1 a2 a3 t342 t345 t348 t356 t359 t362 x63_13 l0_0 l0_1 t349 t352 = some r) ∧ Aside0 (kq ≤ k) ∧ Aside0 (Kd.R (Kd.int .i64) 3 wc w.heap.size (fun k_ => some k_ ≠ (v346 : Value).ownBlock ∧ some k_ ≠ (v357 : Value).ownBlock ∧ some k_ ≠ (v360 : Value).ownBlock) v343 t342) ∧ Aside0 (Kd.R (Kd.int .i64) 3 wc w.heap.size (fun k_ => some k_ ≠ (v343 : Value).ownBlock ∧ some k_ ≠ (v357 : Value).ownBlock ∧ some k_ ≠ (v360 : Value).ownBlock) v346 t345) ∧ Aside0 (Kd.R (Kd.int .i64) 3 wc w.heap.size (fun k_ => some k_ ≠ (v343 : Value).ownBlock ∧ some k_ ≠ (v346 : Value).ownBlock ∧ some k_ ≠ (v360 : Value).ownBlock) v357 t356) ∧ Aside0 (Kd.R (Kd.int .i64) 3 wc w.heap.size (fun k_ => some k_ ≠ (v343 : Value).ownBlock ∧ some k_ ≠ (v346 : Value).ownBlock ∧ some k_ ≠ (v357 : Value).ownBlock) v360 t359) ∧ Aside0 (Kd.R k48 48 wc w.heap.size (fun _ => True) (.slice Ao26 t349.length co26) t349) ∧ Aside0 (Kd.S k63 63 wc w.heap.size (fun _ => True) (.slice Ao29 t352.length co29) t352) ∧ Aside0 (wc.heap[gb334]? = some (.cells #[(.slice A0_0 l0_0.length c0_0), (.slice A0_1 l0_1.length c0_1)] 25 (0, 0))) ∧ Aside0 (wc.heap[gb355]? = some (.cells #[(.slice Ao26 t349.length co26), (.slice Ao29 t352.length co29)] 31 (0, 0))) ∧ Aside0 (Below w.heap.size w wc))
 case first =>
  have H := HC14.out
  clear HC14
  obtain ⟨t363, A31, H⟩ := bdY H
  by_cases c32 : t363 = true
  ·subst c32
   have H1 : ((laws_eqIntS.f k t359 t345).bind fun t364 => (if t364 = true then (laws_FnExactAccountStatement.j0 k a1 a2 a3 t342 t345 t348 t356 t359 t362 (t362 != t348) l0_0 l0_1 t349 t352) else (laws_FnExactAccountStatement.j0 k a1 a2 a3 t342 t345 t348 t356 t359 t362 true l0_0 l0_1 t349 t352))) = some r := by rw [if_pos rfl] at H; exact H
   clear H
   have H := H1
   clear H1
   obtain ⟨t364, A33, H⟩ := bdY H
   by_cases c34 : t364 = true
   ·subst c34
    have H1 : (laws_FnExactAccountStatement.j0 k a1 a2 a3 t342 t345 t348 t356 t359 t362 (t362 != t348) l0_0 l0_1 t349 t352) = some r := by rw [if_pos rfl] at H; exact H
    clear H
    have H := H1
    clear H1
    have H' := Aside0.mk H
    clear H
    obtain ⟨Ao35, co35, eo35⟩ := Kd.R_slice HO358.out
    subst eo35
    obtain ⟨Ao36, co36, eo36⟩ := Kd.R_slice HO344.out
    subst eo36
    go_wp2_with (first | ((with_reducible refine gate_callee (f := 30) rfl ?_); refine goesL_ (some 51) rfl rfl Tryd.func30 (by kernel_rfl) rfl #[.slice Ao35 t356.length co35, .slice Ao36 t342.length co36] rfl ZZ19826e ?_; (with_reducible refine (laws_eqIntS.calls k _ _ t356 _ _ t342 true _ ?side1 ?side2 ?side3 ?side4 A31.out).mono ?_); (case side1 => repeat (first | exact (Kd.R_reads' HO358.out).2.2 | (with_reducible refine Kd.C_alloc ?_ _) | (with_reducible refine Kd.C_drewN ?_ _) | (with_reducible refine Kd.C_drew ?_))); (case side2 => exact (Kd.R_reads' HO358.out).2.1); (case side3 => repeat (first | exact (Kd.R_reads' HO344.out).2.2 | (with_reducible refine Kd.C_alloc ?_ _) | (with_reducible refine Kd.C_drewN ?_ _) | (with_reducible refine Kd.C_drew ?_))); (case side4 => exact (Kd.R_reads' HO344.out).2.1); rintro e w' ⟨rfl, ⟨nd, rfl⟩⟩; refine ⟨_, rfl, ?_⟩; obtain ⟨Ao37, co37, eo37⟩ := Kd.R_slice HO361.out; subst eo37; obtain ⟨Ao38, co38, eo38⟩ := Kd.R_slice HO347.out; subst eo38) | (go_at_call 30; (with_reducible refine (laws_eqIntS.calls k _ _ t359 _ _ t345 true _ ?side1 ?side2 ?side3 ?side4 A33.out).mono ?_); (case side1 => repeat (first | exact (Kd.R_reads' HO361.out).2.2 | (with_reducible refine Kd.C_alloc ?_ _) | (with_reducible refine Kd.C_drewN ?_ _) | (with_reducible refine Kd.C_drew ?_))); (case side2 => exact (Kd.R_reads' HO361.out).2.1); (case side3 => repeat (first | exact (Kd.R_reads' HO347.out).2.2 | (with_reducible refine Kd.C_alloc ?_ _) | (with_reducible refine Kd.C_drewN ?_ _) | (with_reducible refine Kd.C_drew ?_))); (case side4 => exact (Kd.R_reads' HO347.out).2.1); rintro e w' ⟨rfl, ⟨nd, rfl⟩⟩))
    go_meet
    case rel => exact ⟨_, ((t362 != t348)), ZZ0ab324, H', ⟨ZZ81c739⟩, ⟨(by (with_reducible repeat (first | apply Kd.R_alloc | apply Kd.R_drewN | apply Kd.R_drew)); exact Kd.R_mono HO344.out (fun _ hk => ⟨hk.1.1, ⟨hk.1.2, hk.2⟩⟩))⟩, ⟨(by (with_reducible repeat (first | apply Kd.R_alloc | apply Kd.R_drewN | apply Kd.R_drew)); exact Kd.R_mono HO347.out (fun _ hk => ⟨hk.1.1, ⟨hk.1.2, hk.2⟩⟩))⟩, ⟨(by (with_reducible repeat (first | apply Kd.R_alloc | apply Kd.R_drewN | apply Kd.R_drew)); exact Kd.R_mono HO358.out (fun _ hk => ⟨hk.1.2, ⟨hk.2, hk.1.1⟩⟩))⟩, ⟨(by (with_reducible repeat (first | apply Kd.R_alloc | apply Kd.R_drewN | apply Kd.R_drew)); exact Kd.R_mono HO361.out (fun _ hk => ⟨hk.1.2, ⟨hk.2, hk.1.1⟩⟩))⟩, ⟨(by (with_reducible repeat (first | apply Kd.R_alloc | apply Kd.R_drewN | apply Kd.R_drew)); exact Kd.R_mono HO351.out (fun _ hk => trivial))⟩, ⟨(by (with_reducible repeat (first | apply Kd.S_alloc | apply Kd.S_drewN | apply Kd.S_drew)); exact Kd.S_mono HO354.out (fun _ hk => trivial))⟩, ⟨(zB BK334)⟩, ⟨(zB BK355)⟩, ⟨ZZ295621⟩⟩
   replace c34 := Bool.eq_false_iff.mpr c34
   subst c34
   have H1 : (laws_FnExactAccountStatement.j0 k a1 a2 a3 t342 t345 t348 t356 t359 t362 true l0_0 l0_1 t349 t352) = some r := by rw [if_neg (show ¬ (false = true) by decide)] at H; exact H
   clear H
   have H := H1
   clear H1
   have H' := Aside0.mk H
   clear H
   obtain ⟨Ao39, co39, eo39⟩ := Kd.R_slice HO358.out
   subst eo39
   obtain ⟨Ao40, co40, eo40⟩ := Kd.R_slice HO344.out
   subst eo40
   go_wp2_with (first | ((with_reducible refine gate_callee (f := 30) rfl ?_); refine goesL_ (some 51) rfl rfl Tryd.func30 (by kernel_rfl) rfl #[.slice Ao39 t356.length co39, .slice Ao40 t342.length co40] rfl ZZ19826e ?_; (with_reducible refine (laws_eqIntS.calls k _ _ t356 _ _ t342 true _ ?side1 ?side2 ?side3 ?side4 A31.out).mono ?_); (case side1 => repeat (first | exact (Kd.R_reads' HO358.out).2.2 | (with_reducible refine Kd.C_alloc ?_ _) | (with_reducible refine Kd.C_drewN ?_ _) | (with_reducible refine Kd.C_drew ?_))); (case side2 => exact (Kd.R_reads' HO358.out).2.1); (case side3 => repeat (first | exact (Kd.R_reads' HO344.out).2.2 | (with_reducible refine Kd.C_alloc ?_ _) | (with_reducible refine Kd.C_drewN ?_ _) | (with_reducible refine Kd.C_drew ?_))); (case side4 => exact (Kd.R_reads' HO344.out).2.1); rintro e w' ⟨rfl, ⟨nd, rfl⟩⟩; refine ⟨_, rfl, ?_⟩; obtain ⟨Ao41, co41, eo41⟩ := Kd.R_slice HO361.out; subst eo41; obtain ⟨Ao42, co42, eo42⟩ := Kd.R_slice HO347.out; subst eo42) | (go_at_call 30; (with_reducible refine (laws_eqIntS.calls k _ _ t359 _ _ t345 false _ ?side1 ?side2 ?side3 ?side4 A33.out).mono ?_); (case side1 => repeat (first | exact (Kd.R_reads' HO361.out).2.2 | (with_reducible refine Kd.C_alloc ?_ _) | (with_reducible refine Kd.C_drewN ?_ _) | (with_reducible refine Kd.C_drew ?_))); (case side2 => exact (Kd.R_reads' HO361.out).2.1); (case side3 => repeat (first | exact (Kd.R_reads' HO347.out).2.2 | (with_reducible refine Kd.C_alloc ?_ _) | (with_reducible refine Kd.C_drewN ?_ _) | (with_reducible refine Kd.C_drew ?_))); (case side4 => exact (Kd.R_reads' HO347.out).2.1); rintro e w' ⟨rfl, ⟨nd, rfl⟩⟩))
   go_meet
   case rel => exact ⟨_, (true), ZZ0ab324, H', ⟨ZZ81c739⟩, ⟨(by (with_reducible repeat (first | apply Kd.R_alloc | apply Kd.R_drewN | apply Kd.R_drew)); exact Kd.R_mono HO344.out (fun _ hk => ⟨hk.1.1, ⟨hk.1.2, hk.2⟩⟩))⟩, ⟨(by (with_reducible repeat (first | apply Kd.R_alloc | apply Kd.R_drewN | apply Kd.R_drew)); exact Kd.R_mono HO347.out (fun _ hk => ⟨hk.1.1, ⟨hk.1.2, hk.2⟩⟩))⟩, ⟨(by (with_reducible repeat (first | apply Kd.R_alloc | apply Kd.R_drewN | apply Kd.R_drew)); exact Kd.R_mono HO358.out (fun _ hk => ⟨hk.1.2, ⟨hk.2, hk.1.1⟩⟩))⟩, ⟨(by (with_reducible repeat (first | apply Kd.R_alloc | apply Kd.R_drewN | apply Kd.R_drew)); exact Kd.R_mono HO361.out (fun _ hk => ⟨hk.1.2, ⟨hk.2, hk.1.1⟩⟩))⟩, ⟨(by (with_reducible repeat (first | apply Kd.R_alloc | apply Kd.R_drewN | apply Kd.R_drew)); exact Kd.R_mono HO351.out (fun _ hk => trivial))⟩, ⟨(by (with_reducible repeat (first | apply Kd.S_alloc | apply Kd.S_drewN | apply Kd.S_drew)); exact Kd.S_mono HO354.out (fun _ hk => trivial))⟩, ⟨(zB BK334)⟩, ⟨(zB BK355)⟩, ⟨ZZ295621⟩⟩
  replace c32 := Bool.eq_false_iff.mpr c32
  subst c32
  have H1 : (laws_FnExactAccountStatement.j0 k a1 a2 a3 t342 t345 t348 t356 t359 t362 true l0_0 l0_1 t349 t352) = some r := by rw [if_neg (show ¬ (false = true) by decide)] at H; exact H
  clear H
  have H := H1
  clear H1
  have H' := Aside0.mk H
  clear H
  obtain ⟨Ao43, co43, eo43⟩ := Kd.R_slice HO358.out
  subst eo43
  obtain ⟨Ao44, co44, eo44⟩ := Kd.R_slice HO344.out
  subst eo44
  go_wp2_with (first | ((with_reducible refine gate_callee (f := 30) rfl ?_); refine goesL_ (some 51) rfl rfl Tryd.func30 (by kernel_rfl) rfl #[.slice Ao43 t356.length co43, .slice Ao44 t342.length co44] rfl ZZ19826e ?_; (with_reducible refine (laws_eqIntS.calls k _ _ t356 _ _ t342 false _ ?side1 ?side2 ?side3 ?side4 A31.out).mono ?_); (case side1 => repeat (first | exact (Kd.R_reads' HO358.out).2.2 | (with_reducible refine Kd.C_alloc ?_ _) | (with_reducible refine Kd.C_drewN ?_ _) | (with_reducible refine Kd.C_drew ?_))); (case side2 => exact (Kd.R_reads' HO358.out).2.1); (case side3 => repeat (first | exact (Kd.R_reads' HO344.out).2.2 | (with_reducible refine Kd.C_alloc ?_ _) | (with_reducible refine Kd.C_drewN ?_ _) | (with_reducible refine Kd.C_drew ?_))); (case side4 => exact (Kd.R_reads' HO344.out).2.1); rintro e w' ⟨rfl, ⟨nd, rfl⟩⟩; refine ⟨_, rfl, ?_⟩))
  go_meet
  case rel => exact ⟨_, (true), ZZ0ab324, H', ⟨ZZ81c739⟩, ⟨(by (with_reducible repeat (first | apply Kd.R_alloc | apply Kd.R_drewN | apply Kd.R_drew)); exact Kd.R_mono HO344.out (fun _ hk => ⟨hk.1.1, ⟨hk.1.2, hk.2⟩⟩))⟩, ⟨(by (with_reducible repeat (first | apply Kd.R_alloc | apply Kd.R_drewN | apply Kd.R_drew)); exact Kd.R_mono HO347.out (fun _ hk => ⟨hk.1.1, ⟨hk.1.2, hk.2⟩⟩))⟩, ⟨(by (with_reducible repeat (first | apply Kd.R_alloc | apply Kd.R_drewN | apply Kd.R_drew)); exact Kd.R_mono HO358.out (fun _ hk => ⟨hk.1.2, ⟨hk.2, hk.1.1⟩⟩))⟩, ⟨(by (with_reducible repeat (first | apply Kd.R_alloc | apply Kd.R_drewN | apply Kd.R_drew)); exact Kd.R_mono HO361.out (fun _ hk => ⟨hk.1.2, ⟨hk.2, hk.1.1⟩⟩))⟩, ⟨(by (with_reducible repeat (first | apply Kd.R_alloc | apply Kd.R_drewN | apply Kd.R_drew)); exact Kd.R_mono HO351.out (fun _ hk => trivial))⟩, ⟨(by (with_reducible repeat (first | apply Kd.S_alloc | apply Kd.S_drewN | apply Kd.S_drew)); exact Kd.S_mono HO354.out (fun _ hk => trivial))⟩, ⟨(zB BK334)⟩, ⟨(zB BK355)⟩, ⟨ZZ295621⟩⟩
 case rest =>
  clear HC14
  try clear c6b0
  try clear c32
  try clear c34
  try clear hcz16_0
  try clear hcz16_1
  try clear hcz18_0
  try clear hcz18_1
  try clear hcz23_0
  try clear hcz23_1
  try clear hcz28_0
  try clear hcz28_1
  try clear hcz8_0
  try clear hcz8_1
  try clear hfz16_0
  try clear hfz16_1
  try clear hfz18_0
  try clear hfz18_1
  try clear hfz23_0
  try clear hfz23_1
  try clear hfz28_0
  try clear hfz28_1
  try clear hfz8_0
  try clear hfz8_1
  obtain ⟨kq, x63_13, rfl, HA, HJ13, HO_10, HO_11, HO_14, HO_15, HO_356000, HO_356001, BK334, BK355, HB⟩ := hcut
  cases kq with
  | zero => exact absurd HA.out (by simp [laws_FnExactAccountStatement.j0])
  | succ kj13 =>
   have H := HA.out
   clear HA
   simp only [laws_FnExactAccountStatement.j0] at H
   by_cases c45 : x63_13 = true
   ·subst c45
    have H1 : (some false) = some r := by rw [if_pos rfl] at H; exact H
    clear H
    have H := H1
    clear H1
    obtain rfl := Option.some.inj H
    go_wp2
    go_ret
    exact ⟨ZZab01d2, ZZ295621⟩
   replace c45 := Bool.eq_false_iff.mpr c45
   subst c45
   have H1 : ((laws_toLedger.f kj13 l0_0 l0_1).bind fun bt365 => ((laws_eqLedger.f kj13 t349 t352 bt365.1 bt365.2).bind fun t371 => (if t371 = true then ((laws_markLedger.f kj13 t349 t352 1).bind fun bt372 => (if bt372.1 < 0 then (laws_FnExactAccountStatement.j1 kj13 a1 a2 a3 t342 t345 t348 t356 t359 true l0_0 l0_1) else ((laws_eqIntS.f kj13 t356 t342).bind fun t375 => (if t375 = true then ((laws_eqIntS.f kj13 t359 t345).bind fun t376 => (if t376 = true then (laws_FnExactAccountStatement.j1 kj13 a1 a2 a3 t342 t345 t348 t356 t359 (t362 != t348) l0_0 l0_1) else (laws_FnExactAccountStatement.j1 kj13 a1 a2 a3 t342 t345 t348 t356 t359 true l0_0 l0_1))) else (laws_FnExactAccountStatement.j1 kj13 a1 a2 a3 t342 t345 t348 t356 t359 true l0_0 l0_1))))) else (some false)))) = some r := by rw [if_neg (show ¬ (false = true) by decide)] at H; exact H
   clear H
   have H := H1
   clear H1
   obtain ⟨⟨t365, t368⟩, A46, H⟩ := bdY H
   try dsimp only at H
   obtain ⟨t371, A47, H⟩ := bdY H
   by_cases c48 : t371 = true
   ·subst c48
    have H1 : ((laws_markLedger.f kj13 t349 t352 1).bind fun bt372 => (if bt372.1 < 0 then (laws_FnExactAccountStatement.j1 kj13 a1 a2 a3 t342 t345 t348 t356 t359 true l0_0 l0_1) else ((laws_eqIntS.f kj13 t356 t342).bind fun t375 => (if t375 = true then ((laws_eqIntS.f kj13 t359 t345).bind fun t376 => (if t376 = true then (laws_FnExactAccountStatement.j1 kj13 a1 a2 a3 t342 t345 t348 t356 t359 (t362 != t348) l0_0 l0_1) else (laws_FnExactAccountStatement.j1 kj13 a1 a2 a3 t342 t345 t348 t356 t359 true l0_0 l0_1))) else (laws_FnExactAccountStatement.j1 kj13 a1 a2 a3 t342 t345 t348 t356 t359 true l0_0 l0_1))))) = some r := by rw [if_pos rfl] at H; exact H
    clear H
    have H := H1
    clear H1
    obtain ⟨⟨t372, t373, t374⟩, A49, H⟩ := bdY H
    try dsimp only at H
    have HC50 := Aside0.mk H
    clear H
    try go_wp2
    replace HO_10 := Aside0.mk (Kd.R_drew HO_10.out)
    replace HO_11 := Aside0.mk (Kd.R_drew HO_11.out)
    replace HO_14 := Aside0.mk (Kd.R_drew HO_14.out)
    replace HO_15 := Aside0.mk (Kd.R_drew HO_15.out)
    replace HO_356000 := Aside0.mk (Kd.R_drew HO_356000.out)
    replace HO_356001 := Aside0.mk (Kd.S_drew HO_356001.out)
    replace BK334 := Aside0.mk (blk_drew BK334.out)
    replace BK355 := Aside0.mk (blk_drew BK355.out)
    replace HB := Aside0.mk (below_drew1 HB.out)
    refine start_ (n := 5) (S := fun w' => w'.cell? ⟨gb355, 0, none⟩ = some (.slice Ao26 t349.length co26) ∧ w'.cell? ⟨gb355, 1, none⟩ = some (.slice Ao29 t352.length co29) ∧ w'.cell? ⟨gb334, 0, none⟩ = some (.slice A0_0 l0_0.length c0_0) ∧ w'.cell? ⟨gb334, 1, none⟩ = some (.slice A0_1 l0_1.length c0_1)) (ds := []) #[false, false, false, false, false] (by kernel_rfl) rfl rfl ⟨(blk_cell BK355.out 0).trans rfl, (blk_cell BK355.out 1).trans rfl, (blk_cell BK334.out 0).trans rfl, (blk_cell BK334.out 1).trans rfl⟩ (fun hHeld => ?_)
    generalize wc.drew = w51 at HO_10 HO_11 HO_14 HO_15 HO_356000 HO_356001 BK334 BK355 HB hHeld ⊢
    refine take_ (i := 0) (N := some 64) (v := ?_) (a' := ?_) #[true, false, false, false, false] rfl rfl (by kernel_rfl) (fun _ _ _ h => h) (Or.inl ⟨(by rfl), ?_⟩) hHeld ?_ ?_
    rotate_left
    ·rintro w' ⟨s0, s1, s2, s3⟩
     go_simp
     with_reducible rfl
    rotate_left
    ·simp only [Act.put, List.setIfInBounds_toArray, List.set_cons_zero, List.set_cons_succ, i64_w, i32_w]
     rfl
    refine take_ (i := 1) (N := some 65) (v := ?_) (a' := ?_) #[true, true, false, false, false] rfl rfl (by kernel_rfl) (fun _ _ _ h => h) (Or.inl ⟨(by rfl), ?_⟩) hHeld ?_ ?_
    rotate_left
    ·rintro w' ⟨s0, s1, s2, s3⟩
     go_simp
     with_reducible rfl
    rotate_left
    ·simp only [Act.put, List.setIfInBounds_toArray, List.set_cons_zero, List.set_cons_succ, i64_w, i32_w]
     rfl
    refine one_ (i := 2) (N := some 66) #[true, true, true, false, false] rfl rfl (by kernel_rfl) (by decide) (fun K hK => ?_)
    refine goes_ Tryd.func16 (by kernel_rfl) rfl #[.agg #[.slice A0_0 l0_0.length c0_0, .slice A0_1 l0_1.length c0_1]] (by rfl) rfl rfl ZZ19826e ?_
    with_reducible refine (laws_toLedger.calls kj13 _ _ l0_0 _ _ l0_1 t365 t368 _ ?side1 ?side2 ?side3 ?side4 A46.out).mono ?_
    (case side1 => exact ZZ5b25f1)
    (case side2 => exact HC0_0.out)
    (case side3 => exact ZZ8ff6b3)
    (case side4 => exact HC0_1.out)
    rintro e w52 ⟨v366, v369, rfl, ho0, ho1, hb⟩
    refine ⟨_, rfl, ?_⟩
    replace HO_10 := Aside0.mk (Kd.R_below (zR HO_10) hb)
    replace HO_11 := Aside0.mk (Kd.R_below (zR HO_11) hb)
    replace HO_14 := Aside0.mk (Kd.R_below (zR HO_14) hb)
    replace HO_15 := Aside0.mk (Kd.R_below (zR HO_15) hb)
    have HO367 := Aside0.mk (Kd.R_lower (Kd.R_new' ho0 (Kd.R_lt (zR HO_356000))) (below_size ZZ295621))
    replace HO_356000 := Aside0.mk (Kd.R_elder' (zR HO_356000) (Kd.R_base ho0) hb)
    have HO370 := Aside0.mk (Kd.S_lower (Kd.S_new' ho1 (Kd.S_lt (zS HO_356001))) (below_size ZZ295621))
    replace HO_356001 := Aside0.mk (Kd.S_elder' (zS HO_356001) (Kd.S_base ho1) hb)
    replace BK334 := Aside0.mk (blk_below (zB BK334) hb)
    replace BK355 := Aside0.mk (blk_below (zB BK355) hb)
    replace HB := Aside0.mk (below_step ZZ295621 hb)
    (try clear hb)
    (try clear hb2)
    (try clear hk)
    (try clear hi)
    (try clear ho0)
    (try clear ho1)
    obtain ⟨Ao53, co53, eo53⟩ := Kd.R_slice HO367.out
    (first | subst eo53 | (injection eo53 with f1_ f2_ f3_; have f4_ := f1_.symm; have f5_ := f3_.symm; clear f1_ f2_ f3_; subst f4_; subst f5_))
    obtain ⟨Ao54, co54, eo54⟩ := Kd.S_slice HO370.out
    (first | subst eo54 | (injection eo54 with f1_ f2_ f3_; have f4_ := f1_.symm; have f5_ := f3_.symm; clear f1_ f2_ f3_; subst f4_; subst f5_))
    refine hK.out _ _ ⟨(blk_cell BK355.out 0).trans rfl, (blk_cell BK355.out 1).trans rfl, (blk_cell BK334.out 0).trans rfl, (blk_cell BK334.out 1).trans rfl⟩ (fun hHeld => ?_)
    clear hK K
    refine norm_ (a' := ?_) ?_ ?_
    rotate_left
    ·show Act.put _ (some 66) _ = _
     simp only [Act.put, List.setIfInBounds_toArray, List.set_cons_zero, List.set_cons_succ, i64_w, i32_w]
     rfl
    refine one_ (i := 3) (N := some 67) #[true, true, true, true, false] rfl rfl (by kernel_rfl) (by decide) (fun K hK => ?_)
    refine goes_ Tryd.func18 (by kernel_rfl) rfl #[.agg #[.slice Ao26 t349.length co26, .slice Ao29 t352.length co29], .agg #[.slice Ao53 t365.length co53, .slice Ao54 t368.length co54]] (by rfl) rfl rfl ZZ19826e ?_
    with_reducible refine (laws_eqLedger.calls kj13 _ _ t349 _ _ t352 _ _ t365 _ _ t368 true _ ?side1 ?side2 ?side3 ?side4 ?side5 ?side6 ?side7 ?side8 A47.out).mono ?_
    (case side1 => repeat (first | exact (Kd.R_reads' HO_356000.out).2.2 | (with_reducible refine Kd.C_alloc ?_ _) | (with_reducible refine Kd.C_drewN ?_ _) | (with_reducible refine Kd.C_drew ?_)))
    (case side2 => exact (Kd.R_reads' HO_356000.out).2.1)
    (case side3 => repeat (first | exact (Kd.S_reads' HO_356001.out).2.2 | (with_reducible refine Kd.C_alloc ?_ _) | (with_reducible refine Kd.C_drewN ?_ _) | (with_reducible refine Kd.C_drew ?_)))
    (case side4 => exact (Kd.S_reads' HO_356001.out).2.1)
    (case side5 => repeat (first | exact (Kd.R_reads' HO367.out).2.2 | (with_reducible refine Kd.C_alloc ?_ _) | (with_reducible refine Kd.C_drewN ?_ _) | (with_reducible refine Kd.C_drew ?_)))
    (case side6 => exact (Kd.R_reads' HO367.out).2.1)
    (case side7 => repeat (first | exact (Kd.S_reads' HO370.out).2.2 | (with_reducible refine Kd.C_alloc ?_ _) | (with_reducible refine Kd.C_drewN ?_ _) | (with_reducible refine Kd.C_drew ?_)))
    (case side8 => exact (Kd.S_reads' HO370.out).2.1)
    rintro e w55 ⟨rfl, hb⟩
    refine ⟨_, rfl, ?_⟩
    replace HO_10 := Aside0.mk (Kd.R_below (zR HO_10) hb)
    replace HO_11 := Aside0.mk (Kd.R_below (zR HO_11) hb)
    replace HO_14 := Aside0.mk (Kd.R_below (zR HO_14) hb)
    replace HO_15 := Aside0.mk (Kd.R_below (zR HO_15) hb)
    replace HO_356000 := Aside0.mk (Kd.R_below (zR HO_356000) hb)
    replace HO_356001 := Aside0.mk (Kd.S_below (zS HO_356001) hb)
    replace HO367 := Aside0.mk (Kd.R_below (zR HO367) hb)
    replace HO370 := Aside0.mk (Kd.S_below (zS HO370) hb)
    replace BK334 := Aside0.mk (blk_below (zB BK334) hb)
    replace BK355 := Aside0.mk (blk_below (zB BK355) hb)
    replace HB := Aside0.mk (below_step ZZ295621 hb)
    (try clear hb)
    (try clear hb2)
    (try clear hk)
    (try clear hi)
    refine hK.out _ _ ⟨(blk_cell BK355.out 0).trans rfl, (blk_cell BK355.out 1).trans rfl, (blk_cell BK334.out 0).trans rfl, (blk_cell BK334.out 1).trans rfl⟩ (fun hHeld => ?_)
    clear hK K
    refine norm_ (a' := ?_) ?_ ?_
    rotate_left
    ·show Act.put _ (some 67) _ = _
     simp only [Act.put, List.setIfInBounds_toArray, List.set_cons_zero, List.set_cons_succ, i64_w, i32_w]
     rfl
    refine pure_ (i := 4) (N := some 68) (v := ?_) (a' := ?_) #[true, true, true, true, true] rfl rfl (by kernel_rfl) (fun _ _ _ h => h) (Or.inl ⟨(by rfl), ?_⟩) ?_ ?_
    rotate_left
    ·intro w'
     go_simp
     with_reducible rfl
    rotate_left
    ·simp only [Act.put, List.setIfInBounds_toArray, List.set_cons_zero, List.set_cons_succ, i64_w, i32_w]
     rfl
    refine done_ (by kernel_rfl) ?_
    have hnb56 := NB355_334.out
    have hnc56 := NB334_355.out
    have hcz57_0 : w55.cell? ⟨gb355, 0, none⟩ = some (.slice Ao26 t349.length co26) := (blk_cell BK355.out 0).trans rfl
    have hcz57_1 : w55.cell? ⟨gb355, 1, none⟩ = some (.slice Ao29 t352.length co29) := (blk_cell BK355.out 1).trans rfl
    have hfz57_0 := blk_frozen BK355.out 0
    have hfz57_1 := blk_frozen BK355.out 1
    go_upto_region 14 with (first | ((with_reducible refine gate_callee (f := 31) rfl ?_); refine goesL_ (some 71) rfl rfl Tryd.func31 (by kernel_rfl) rfl #[.agg #[.slice Ao26 t349.length co26, .slice Ao29 t352.length co29], .int .i64 1] rfl ZZ19826e ?_; (with_reducible refine (laws_markLedger.calls kj13 (fun k_ => some k_ = (.slice Ao26 t349.length co26 : Value).ownBlock) (.slice Ao26 t349.length co26) t349 ?P0_1 (.slice Ao29 t352.length co29) t352 1 t372 t373 t374 w _ ?side1 ?side2 ?side3 A49.out).mono ?_); (case side1 => repeat (first | (with_reducible first | exact HB.out | apply below_alloc | apply pw_below_drewN | apply below_drew1 | refine below_set ?_ (Aside0.out (by assumption))) | exact HB.out)); (case side2 => exact Kd.R_tight rfl HO_356000.out); (case side3 => exact Kd.S_bound HO_356001.out); rintro e w58 ⟨rfl, hy0, hy1, hb, hkp⟩; refine ⟨_, rfl, ?_⟩; replace HO_10 := Aside0.mk (Kd.R_mono (ok' := fun k_ => some k_ ≠ (v346 : Value).ownBlock ∧ some k_ ≠ (v357 : Value).ownBlock ∧ some k_ ≠ (v360 : Value).ownBlock) (Kd.R_keptB ((Kd.R_bound (Kd.R_apart' HO_10.out (Kd.R_typed HO_356000.out) (by decide)))) hkp (fun k_ hk_ hs_ => Or.elim hs_ (fun e_ => (hk_.1.2) e_) (fun e_ => (fun e_ => Kd.typed_ne (hk_.2).2.2 e_.2.2.2 (by decide)) e_))) (fun k_ hk_ => ⟨hk_.1.1.1.1, hk_.1.1.1.2.1, hk_.1.1.1.2.2⟩)); replace HO_11 := Aside0.mk (Kd.R_mono (ok' := fun k_ => some k_ ≠ (v343 : Value).ownBlock ∧ some k_ ≠ (v357 : Value).ownBlock ∧ some k_ ≠ (v360 : Value).ownBlock) (Kd.R_keptB ((Kd.R_bound (Kd.R_apart' HO_11.out (Kd.R_typed HO_356000.out) (by decide)))) hkp (fun k_ hk_ hs_ => Or.elim hs_ (fun e_ => (hk_.1.2) e_) (fun e_ => (fun e_ => Kd.typed_ne (hk_.2).2.2 e_.2.2.2 (by decide)) e_))) (fun k_ hk_ => ⟨hk_.1.1.1.1, hk_.1.1.1.2.1, hk_.1.1.1.2.2⟩)); replace HO_14 := Aside0.mk (Kd.R_mono (ok' := fun k_ => some k_ ≠ (v343 : Value).ownBlock ∧ some k_ ≠ (v346 : Value).ownBlock ∧ some k_ ≠ (v360 : Value).ownBlock) (Kd.R_keptB ((Kd.R_bound (Kd.R_apart' HO_14.out (Kd.R_typed HO_356000.out) (by decide)))) hkp (fun k_ hk_ hs_ => Or.elim hs_ (fun e_ => (hk_.1.2) e_) (fun e_ => (fun e_ => Kd.typed_ne (hk_.2).2.2 e_.2.2.2 (by decide)) e_))) (fun k_ hk_ => ⟨hk_.1.1.1.1, hk_.1.1.1.2.1, hk_.1.1.1.2.2⟩)); replace HO_15 := Aside0.mk (Kd.R_mono (ok' := fun k_ => some k_ ≠ (v343 : Value).ownBlock ∧ some k_ ≠ (v346 : Value).ownBlock ∧ some k_ ≠ (v357 : Value).ownBlock) (Kd.R_keptB ((Kd.R_bound (Kd.R_apart' HO_15.out (Kd.R_typed HO_356000.out) (by decide)))) hkp (fun k_ hk_ hs_ => Or.elim hs_ (fun e_ => (hk_.1.2) e_) (fun e_ => (fun e_ => Kd.typed_ne (hk_.2).2.2 e_.2.2.2 (by decide)) e_))) (fun k_ hk_ => ⟨hk_.1.1.1.1, hk_.1.1.1.2.1, hk_.1.1.1.2.2⟩)); replace HO_356001 := Aside0.mk (Kd.S_mono (ok' := fun k_ => (True ∧ some k_ ≠ (.slice Ao54 t368.length co54 : Value).ownBlock)) (Kd.S_bound hy1) (fun k_ hk_ => Or.elim hk_.1 (fun hs_ => Or.elim hs_ (fun e_ => (fun h_ => (Kd.typed_own hk_.2.2.2 (Kd.R_typed hy0 k_ h_.symm) (by decide)).elim) e_) (fun e_ => (fun h_ => h_.1) e_)) (fun hn_ => ⟨trivial, fun e_ => Nat.not_le.2 (Kd.S_lt HO370.out k_ e_.symm) hn_⟩))); replace BK334 := Aside0.mk (blk_kept (zB BK334) hkp (fun hs_ => Or.elim hs_ (fun e_ => (fun e_ => (Kd.R_ne HO_356000.out BK334.out (by decide)) e_) e_) (fun e_ => (fun e_ => Kd.typed_box e_.2.2.2 (zB BK334) (by decide)) e_))); replace BK355 := Aside0.mk (blk_kept (zB BK355) hkp (fun hs_ => Or.elim hs_ (fun e_ => (fun e_ => (Kd.R_ne HO_356000.out BK355.out (by decide)) e_) e_) (fun e_ => (fun e_ => Kd.typed_box e_.2.2.2 (zB BK355) (by decide)) e_))); replace HO_356000 := Aside0.mk (Kd.R_reok rfl hy0 (fun k_ e_ => HO_356000.out.1 k_ e_)); replace HO367 := Aside0.mk (Kd.R_mono (ok' := fun k_ => some k_ ≠ (.slice Ao26 t349.length co26 : Value).ownBlock) (Kd.R_keptB ((Kd.R_bound HO367.out)) hkp (fun k_ hk_ hs_ => Or.elim hs_ (fun e_ => (hk_.1.2) e_) (fun e_ => (fun e_ => Kd.typed_ne (hk_.2).2.2 e_.2.2.2 (by decide)) e_))) (fun k_ hk_ => hk_.1.1.2)); replace HB := Aside0.mk (hb); clear HO370; (try clear hb); (try clear hkp); (try clear hy0); (try clear hy1)))
    (try simp only [Act.put, List.setIfInBounds_toArray, List.set_cons_zero, List.set_cons_succ])
    go_cut [90] (fun v90 wc => ∃ (kq : Nat) (x90_49 : Bool), v90 = .bool x90_49 ∧ Aside0 (laws_FnExactAccountStatement.j1 kq a1 a2 a3 t342 t345 t348 t356 t359 x90_49 l0_0 l0_1 = some r) ∧ Aside0 (kq ≤ kj13) ∧ Aside0 (Kd.R (Kd.int .i64) 3 wc w.heap.size (fun k_ => some k_ ≠ (v346 : Value).ownBlock ∧ some k_ ≠ (v357 : Value).ownBlock ∧ some k_ ≠ (v360 : Value).ownBlock) v343 t342) ∧ Aside0 (Kd.R (Kd.int .i64) 3 wc w.heap.size (fun k_ => some k_ ≠ (v343 : Value).ownBlock ∧ some k_ ≠ (v357 : Value).ownBlock ∧ some k_ ≠ (v360 : Value).ownBlock) v346 t345) ∧ Aside0 (Kd.R (Kd.int .i64) 3 wc w.heap.size (fun k_ => some k_ ≠ (v343 : Value).ownBlock ∧ some k_ ≠ (v346 : Value).ownBlock ∧ some k_ ≠ (v360 : Value).ownBlock) v357 t356) ∧ Aside0 (Kd.R (Kd.int .i64) 3 wc w.heap.size (fun k_ => some k_ ≠ (v343 : Value).ownBlock ∧ some k_ ≠ (v346 : Value).ownBlock ∧ some k_ ≠ (v357 : Value).ownBlock) v360 t359) ∧ Aside0 (Kd.R k48 48 wc w.heap.size (fun _ => True) (.slice Ao26 t349.length co26) t373) ∧ Aside0 (Kd.S k63 63 wc w.heap.size (fun _ => True) (.slice Ao29 t352.length co29) t374) ∧ Aside0 (wc.heap[gb334]? = some (.cells #[(.slice A0_0 l0_0.length c0_0), (.slice A0_1 l0_1.length c0_1)] 25 (0, 0))) ∧ Aside0 (wc.heap[gb355]? = some (.cells #[(.slice Ao26 t349.length co26), (.slice Ao29 t352.length co29)] 31 (0, 0))) ∧ Aside0 (Below w.heap.size w wc))
    case first =>
     have H := HC50.out
     clear HC50
     by_cases c59 : t372 < 0
     ·rw [if_pos c59] at H
      have c59b0 := decide_eq_true c59
      clear c59
      (first | rw [c59b0] | (simp only [i64_w, i32_w]; rw [c59b0]) | skip)
      have H' := Aside0.mk H
      clear H
      go_wp2
      go_meet
      case rel => exact ⟨_, (true), ZZ0ab324, H', ⟨(by have := HJ13.out; first | omega | exact Nat.le_refl _)⟩, ⟨(zR HO_10)⟩, ⟨(zR HO_11)⟩, ⟨(zR HO_14)⟩, ⟨(zR HO_15)⟩, ⟨(by (with_reducible repeat (first | apply Kd.R_alloc | apply Kd.R_drewN | apply Kd.R_drew)); exact Kd.R_mono HO_356000.out (fun _ hk => trivial))⟩, ⟨(by (with_reducible repeat (first | apply Kd.S_alloc | apply Kd.S_drewN | apply Kd.S_drew)); exact Kd.S_mono HO_356001.out (fun _ hk => trivial))⟩, ⟨(zB BK334)⟩, ⟨(zB BK355)⟩, ⟨ZZ295621⟩⟩
     rw [if_neg c59] at H
     have c59b0 := decide_eq_false c59
     clear c59
     (first | rw [c59b0] | (simp only [i64_w, i32_w]; rw [c59b0]) | skip)
     obtain ⟨t375, A60, H⟩ := bdY H
     by_cases c61 : t375 = true
     ·subst c61
      have H1 : ((laws_eqIntS.f kj13 t359 t345).bind fun t376 => (if t376 = true then (laws_FnExactAccountStatement.j1 kj13 a1 a2 a3 t342 t345 t348 t356 t359 (t362 != t348) l0_0 l0_1) else (laws_FnExactAccountStatement.j1 kj13 a1 a2 a3 t342 t345 t348 t356 t359 true l0_0 l0_1))) = some r := by rw [if_pos rfl] at H; exact H
      clear H
      have H := H1
      clear H1
      obtain ⟨t376, A62, H⟩ := bdY H
      by_cases c63 : t376 = true
      ·subst c63
       have H1 : (laws_FnExactAccountStatement.j1 kj13 a1 a2 a3 t342 t345 t348 t356 t359 (t362 != t348) l0_0 l0_1) = some r := by rw [if_pos rfl] at H; exact H
       clear H
       have H := H1
       clear H1
       have H' := Aside0.mk H
       clear H
       obtain ⟨Ao64, co64, eo64⟩ := Kd.R_slice HO_14.out
       subst eo64
       obtain ⟨Ao65, co65, eo65⟩ := Kd.R_slice HO_10.out
       subst eo65
       go_wp2_with (first | (go_at_call 30; (with_reducible refine (laws_eqIntS.calls kj13 _ _ t356 _ _ t342 true _ ?side1 ?side2 ?side3 ?side4 A60.out).mono ?_); (case side1 => repeat (first | exact (Kd.R_reads' HO_14.out).2.2 | (with_reducible refine Kd.C_alloc ?_ _) | (with_reducible refine Kd.C_drewN ?_ _) | (with_reducible refine Kd.C_drew ?_))); (case side2 => exact (Kd.R_reads' HO_14.out).2.1); (case side3 => repeat (first | exact (Kd.R_reads' HO_10.out).2.2 | (with_reducible refine Kd.C_alloc ?_ _) | (with_reducible refine Kd.C_drewN ?_ _) | (with_reducible refine Kd.C_drew ?_))); (case side4 => exact (Kd.R_reads' HO_10.out).2.1); rintro e w' ⟨rfl, ⟨nd, rfl⟩⟩; obtain ⟨Ao66, co66, eo66⟩ := Kd.R_slice HO_15.out; subst eo66; obtain ⟨Ao67, co67, eo67⟩ := Kd.R_slice HO_11.out; subst eo67) | (go_at_call 30; (with_reducible refine (laws_eqIntS.calls kj13 _ _ t359 _ _ t345 true _ ?side1 ?side2 ?side3 ?side4 A62.out).mono ?_); (case side1 => repeat (first | exact (Kd.R_reads' HO_15.out).2.2 | (with_reducible refine Kd.C_alloc ?_ _) | (with_reducible refine Kd.C_drewN ?_ _) | (with_reducible refine Kd.C_drew ?_))); (case side2 => exact (Kd.R_reads' HO_15.out).2.1); (case side3 => repeat (first | exact (Kd.R_reads' HO_11.out).2.2 | (with_reducible refine Kd.C_alloc ?_ _) | (with_reducible refine Kd.C_drewN ?_ _) | (with_reducible refine Kd.C_drew ?_))); (case side4 => exact (Kd.R_reads' HO_11.out).2.1); rintro e w' ⟨rfl, ⟨nd, rfl⟩⟩))
       go_meet
       case rel => exact ⟨_, ((t362 != t348)), ZZ0ab324, H', ⟨(by have := HJ13.out; first | omega | exact Nat.le_refl _)⟩, ⟨(zR HO_10)⟩, ⟨(zR HO_11)⟩, ⟨(zR HO_14)⟩, ⟨(zR HO_15)⟩, ⟨(by (with_reducible repeat (first | apply Kd.R_alloc | apply Kd.R_drewN | apply Kd.R_drew)); exact Kd.R_mono HO_356000.out (fun _ hk => trivial))⟩, ⟨(by (with_reducible repeat (first | apply Kd.S_alloc | apply Kd.S_drewN | apply Kd.S_drew)); exact Kd.S_mono HO_356001.out (fun _ hk => trivial))⟩, ⟨(zB BK334)⟩, ⟨(zB BK355)⟩, ⟨ZZ295621⟩⟩
      replace c63 := Bool.eq_false_iff.mpr c63
      subst c63
      have H1 : (laws_FnExactAccountStatement.j1 kj13 a1 a2 a3 t342 t345 t348 t356 t359 true l0_0 l0_1) = some r := by rw [if_neg (show ¬ (false = true) by decide)] at H; exact H
      clear H
      have H := H1
      clear H1
      have H' := Aside0.mk H
      clear H
      obtain ⟨Ao68, co68, eo68⟩ := Kd.R_slice HO_14.out
      subst eo68
      obtain ⟨Ao69, co69, eo69⟩ := Kd.R_slice HO_10.out
      subst eo69
      go_wp2_with (first | (go_at_call 30; (with_reducible refine (laws_eqIntS.calls kj13 _ _ t356 _ _ t342 true _ ?side1 ?side2 ?side3 ?side4 A60.out).mono ?_); (case side1 => repeat (first | exact (Kd.R_reads' HO_14.out).2.2 | (with_reducible refine Kd.C_alloc ?_ _) | (with_reducible refine Kd.C_drewN ?_ _) | (with_reducible refine Kd.C_drew ?_))); (case side2 => exact (Kd.R_reads' HO_14.out).2.1); (case side3 => repeat (first | exact (Kd.R_reads' HO_10.out).2.2 | (with_reducible refine Kd.C_alloc ?_ _) | (with_reducible refine Kd.C_drewN ?_ _) | (with_reducible refine Kd.C_drew ?_))); (case side4 => exact (Kd.R_reads' HO_10.out).2.1); rintro e w' ⟨rfl, ⟨nd, rfl⟩⟩; obtain ⟨Ao70, co70, eo70⟩ := Kd.R_slice HO_15.out; subst eo70; obtain ⟨Ao71, co71, eo71⟩ := Kd.R_slice HO_11.out; subst eo71) | (go_at_call 30; (with_reducible refine (laws_eqIntS.calls kj13 _ _ t359 _ _ t345 false _ ?side1 ?side2 ?side3 ?side4 A62.out).mono ?_); (case side1 => repeat (first | exact (Kd.R_reads' HO_15.out).2.2 | (with_reducible refine Kd.C_alloc ?_ _) | (with_reducible refine Kd.C_drewN ?_ _) | (with_reducible refine Kd.C_drew ?_))); (case side2 => exact (Kd.R_reads' HO_15.out).2.1); (case side3 => repeat (first | exact (Kd.R_reads' HO_11.out).2.2 | (with_reducible refine Kd.C_alloc ?_ _) | (with_reducible refine Kd.C_drewN ?_ _) | (with_reducible refine Kd.C_drew ?_))); (case side4 => exact (Kd.R_reads' HO_11.out).2.1); rintro e w' ⟨rfl, ⟨nd, rfl⟩⟩))
      go_meet
      case rel => exact ⟨_, (true), ZZ0ab324, H', ⟨(by have := HJ13.out; first | omega | exact Nat.le_refl _)⟩, ⟨(zR HO_10)⟩, ⟨(zR HO_11)⟩, ⟨(zR HO_14)⟩, ⟨(zR HO_15)⟩, ⟨(by (with_reducible repeat (first | apply Kd.R_alloc | apply Kd.R_drewN | apply Kd.R_drew)); exact Kd.R_mono HO_356000.out (fun _ hk => trivial))⟩, ⟨(by (with_reducible repeat (first | apply Kd.S_alloc | apply Kd.S_drewN | apply Kd.S_drew)); exact Kd.S_mono HO_356001.out (fun _ hk => trivial))⟩, ⟨(zB BK334)⟩, ⟨(zB BK355)⟩, ⟨ZZ295621⟩⟩
     replace c61 := Bool.eq_false_iff.mpr c61
     subst c61
     have H1 : (laws_FnExactAccountStatement.j1 kj13 a1 a2 a3 t342 t345 t348 t356 t359 true l0_0 l0_1) = some r := by rw [if_neg (show ¬ (false = true) by decide)] at H; exact H
     clear H
     have H := H1
     clear H1
     have H' := Aside0.mk H
     clear H
     obtain ⟨Ao72, co72, eo72⟩ := Kd.R_slice HO_14.out
     subst eo72
     obtain ⟨Ao73, co73, eo73⟩ := Kd.R_slice HO_10.out
     subst eo73
     go_wp2_with (first | (go_at_call 30; (with_reducible refine (laws_eqIntS.calls kj13 _ _ t356 _ _ t342 false _ ?side1 ?side2 ?side3 ?side4 A60.out).mono ?_); (case side1 => repeat (first | exact (Kd.R_reads' HO_14.out).2.2 | (with_reducible refine Kd.C_alloc ?_ _) | (with_reducible refine Kd.C_drewN ?_ _) | (with_reducible refine Kd.C_drew ?_))); (case side2 => exact (Kd.R_reads' HO_14.out).2.1); (case side3 => repeat (first | exact (Kd.R_reads' HO_10.out).2.2 | (with_reducible refine Kd.C_alloc ?_ _) | (with_reducible refine Kd.C_drewN ?_ _) | (with_reducible refine Kd.C_drew ?_))); (case side4 => exact (Kd.R_reads' HO_10.out).2.1); rintro e w' ⟨rfl, ⟨nd, rfl⟩⟩))
     go_meet
     case rel => exact ⟨_, (true), ZZ0ab324, H', ⟨(by have := HJ13.out; first | omega | exact Nat.le_refl _)⟩, ⟨(zR HO_10)⟩, ⟨(zR HO_11)⟩, ⟨(zR HO_14)⟩, ⟨(zR HO_15)⟩, ⟨(by (with_reducible repeat (first | apply Kd.R_alloc | apply Kd.R_drewN | apply Kd.R_drew)); exact Kd.R_mono HO_356000.out (fun _ hk => trivial))⟩, ⟨(by (with_reducible repeat (first | apply Kd.S_alloc | apply Kd.S_drewN | apply Kd.S_drew)); exact Kd.S_mono HO_356001.out (fun _ hk => trivial))⟩, ⟨(zB BK334)⟩, ⟨(zB BK355)⟩, ⟨ZZ295621⟩⟩
    case rest =>
     clear HC50
     try clear c45
     try clear c48
     try clear c59
     try clear c59b0
     try clear c61
     try clear c63
     try clear hcz57_0
     try clear hcz57_1
     try clear hfz57_0
     try clear hfz57_1
     obtain ⟨kq, x90_49, rfl, HA, HJ49, HO_10, HO_11, HO_14, HO_15, HO_356000, HO_356001, BK334, BK355, HB⟩ := hcut
     have hl356000_49 := (Kd.R_reads' HO_356000.out).1
     rw [hl356000_49] at HO_356000
     (try simp only [hl356000_49])
     (try simp only [hl356000_49] at BK334)
     (try simp only [hl356000_49] at BK355)
     (try simp only [hl356000_49] at HO_10)
     (try simp only [hl356000_49] at HO_11)
     (try simp only [hl356000_49] at HO_14)
     (try simp only [hl356000_49] at HO_15)
     (try simp only [hl356000_49] at HO_356001)
     have hl356001_49 := (Kd.S_reads' HO_356001.out).1
     rw [hl356001_49] at HO_356001
     (try simp only [hl356001_49])
     (try simp only [hl356001_49] at BK334)
     (try simp only [hl356001_49] at BK355)
     (try simp only [hl356001_49] at HO_10)
     (try simp only [hl356001_49] at HO_11)
     (try simp only [hl356001_49] at HO_14)
     (try simp only [hl356001_49] at HO_15)
     (try simp only [hl356001_49] at HO_356000)
     cases kq with
     | zero => exact absurd HA.out (by simp [laws_FnExactAccountStatement.j1])
     | succ kj49 =>
      have H := HA.out
      clear HA
      simp only [laws_FnExactAccountStatement.j1] at H
      by_cases c74 : x90_49 = true
      ·subst c74
       have H1 : (some false) = some r := by rw [if_pos rfl] at H; exact H
       clear H
       have H := H1
       clear H1
       obtain rfl := Option.some.inj H
       go_wp2
       go_ret
       exact ⟨ZZab01d2, ZZ295621⟩
      replace c74 := Bool.eq_false_iff.mpr c74
      subst c74
      have H1 : ((laws_markIntS.f kj49 t356 1).bind fun bt377 => ((laws_markIntS.f kj49 t359 bt377.1).bind fun bt379 => ((laws_heldIntS.f kj49 bt377.2 1).bind fun t381 => (if t381 < 0 then (some false) else ((laws_heldIntS.f kj49 bt379.2 t381).bind fun t382 => (if t382 < 0 then (some false) else (if t382 = bt379.1 then ((laws_toLedger.f kj49 l0_0 l0_1).bind fun bt383 => ((impl_AccountStatement.f kj49 bt383.1 bt383.2 a1 a2 a3).bind fun bt389 => ((laws_eqIntS.f kj49 bt389.1 t342).bind fun t396 => (if t396 = true then ((laws_eqIntS.f kj49 bt389.2.1 t345).bind fun t397 => (if t397 = true then (laws_FnExactAccountStatement.j2 kj49 bt377.2 bt379.2 bt379.1 (bt389.2.2 != t348)) else (laws_FnExactAccountStatement.j2 kj49 bt377.2 bt379.2 bt379.1 true))) else (laws_FnExactAccountStatement.j2 kj49 bt377.2 bt379.2 bt379.1 true))))) else (some false)))))))) = some r := by rw [if_neg (show ¬ (false = true) by decide)] at H; exact H
      clear H
      have H := H1
      clear H1
      obtain ⟨⟨t377, t378⟩, A75, H⟩ := bdY H
      try dsimp only at H
      obtain ⟨⟨t379, t380⟩, A76, H⟩ := bdY H
      try dsimp only at H
      obtain ⟨t381, A77, H⟩ := bdY H
      by_cases c78 : t381 < 0
      ·rw [if_pos c78] at H
       have c78b0 := decide_eq_true c78
       clear c78
       obtain rfl := Option.some.inj H
       obtain ⟨Ao79, co79, eo79⟩ := Kd.R_slice HO_14.out
       subst eo79
       go_wp2_with (first | ((with_reducible refine gate_callee (f := 32) rfl ?_); refine goesL_ (some 93) rfl rfl Tryd.func32 (by kernel_rfl) rfl #[.slice Ao79 t356.length co79, .int .i64 1] rfl ZZ19826e ?_; (with_reducible refine (laws_markIntS.calls kj49 (fun k_ => some k_ = (.slice Ao79 t356.length co79 : Value).ownBlock) (.slice Ao79 t356.length co79) t356 1 t377 t378 w _ ?side1 ?side2 A75.out).mono ?_); (case side1 => repeat (first | (with_reducible first | exact HB.out | apply below_alloc | apply pw_below_drewN | apply below_drew1 | refine below_set ?_ (Aside0.out (by assumption))) | exact HB.out)); (case side2 => exact Kd.R_tight rfl HO_14.out); rintro e w80 ⟨rfl, hy0, hb, hkp⟩; refine ⟨_, rfl, ?_⟩; replace HO_10 := Aside0.mk (Kd.R_mono (ok' := fun k_ => some k_ ≠ (v346 : Value).ownBlock ∧ some k_ ≠ (.slice Ao79 t356.length co79 : Value).ownBlock ∧ some k_ ≠ (v360 : Value).ownBlock) (Kd.R_keptB (HO_10.out) hkp (fun k_ hk_ hs_ => (hk_.2.1) hs_)) (fun k_ hk_ => ⟨hk_.1.1, hk_.1.2.1, hk_.1.2.2⟩)); replace HO_11 := Aside0.mk (Kd.R_mono (ok' := fun k_ => some k_ ≠ (v343 : Value).ownBlock ∧ some k_ ≠ (.slice Ao79 t356.length co79 : Value).ownBlock ∧ some k_ ≠ (v360 : Value).ownBlock) (Kd.R_keptB (HO_11.out) hkp (fun k_ hk_ hs_ => (hk_.2.1) hs_)) (fun k_ hk_ => ⟨hk_.1.1, hk_.1.2.1, hk_.1.2.2⟩)); replace HO_15 := Aside0.mk (Kd.R_mono (ok' := fun k_ => some k_ ≠ (v343 : Value).ownBlock ∧ some k_ ≠ (v346 : Value).ownBlock ∧ some k_ ≠ (.slice Ao79 t356.length co79 : Value).ownBlock) (Kd.R_keptB (HO_15.out) hkp (fun k_ hk_ hs_ => (hk_.2.2) hs_)) (fun k_ hk_ => ⟨hk_.1.1, hk_.1.2.1, hk_.1.2.2⟩)); replace HO_356000 := Aside0.mk (Kd.R_mono (ok' := fun k_ => True) (Kd.R_keptB ((Kd.R_apart' HO_356000.out (Kd.R_typed HO_14.out) (by decide))) hkp (fun k_ hk_ hs_ => (hk_.2) hs_)) (fun k_ hk_ => trivial)); replace HO_356001 := Aside0.mk (Kd.S_mono (ok' := fun k_ => True) (Kd.S_keptB ((Kd.S_apart' HO_356001.out (Kd.R_typed HO_14.out) (by decide))) hkp (fun k_ hk_ hs_ => (hk_.2) hs_)) (fun k_ hk_ => trivial)); replace BK334 := Aside0.mk (blk_kept (zB BK334) hkp (fun hs_ => (fun e_ => (Kd.R_ne HO_14.out BK334.out (by decide)) e_) hs_)); replace BK355 := Aside0.mk (blk_kept (zB BK355) hkp (fun hs_ => (fun e_ => (Kd.R_ne HO_14.out BK355.out (by decide)) e_) hs_)); replace HO_14 := Aside0.mk (Kd.R_reok rfl hy0 (fun k_ e_ => HO_14.out.1 k_ e_)); replace HB := Aside0.mk (hb); (try clear hb); (try clear hkp); (try clear hy0); obtain ⟨Ao81, co81, eo81⟩ := Kd.R_slice HO_15.out; subst eo81) | ((with_reducible refine gate_callee (f := 32) rfl ?_); refine goesL_ (some 96) rfl rfl Tryd.func32 (by kernel_rfl) rfl #[.slice Ao81 t359.length co81, .int .i64 t377] rfl ZZ19826e ?_; (with_reducible refine (laws_markIntS.calls kj49 (fun k_ => some k_ = (.slice Ao81 t359.length co81 : Value).ownBlock) (.slice Ao81 t359.length co81) t359 t377 t379 t380 w _ ?side1 ?side2 A76.out).mono ?_); (case side1 => repeat (first | (with_reducible first | exact HB.out | apply below_alloc | apply pw_below_drewN | apply below_drew1 | refine below_set ?_ (Aside0.out (by assumption))) | exact HB.out)); (case side2 => exact Kd.R_tight rfl HO_15.out); rintro e w82 ⟨rfl, hy0, hb, hkp⟩; refine ⟨_, rfl, ?_⟩; replace HO_10 := Aside0.mk (Kd.R_mono (ok' := fun k_ => some k_ ≠ (v346 : Value).ownBlock ∧ some k_ ≠ (.slice Ao79 t356.length co79 : Value).ownBlock ∧ some k_ ≠ (.slice Ao81 t359.length co81 : Value).ownBlock) (Kd.R_keptB (HO_10.out) hkp (fun k_ hk_ hs_ => (hk_.2.2) hs_)) (fun k_ hk_ => ⟨hk_.1.1, hk_.1.2.1, hk_.1.2.2⟩)); replace HO_11 := Aside0.mk (Kd.R_mono (ok' := fun k_ => some k_ ≠ (v343 : Value).ownBlock ∧ some k_ ≠ (.slice Ao79 t356.length co79 : Value).ownBlock ∧ some k_ ≠ (.slice Ao81 t359.length co81 : Value).ownBlock) (Kd.R_keptB (HO_11.out) hkp (fun k_ hk_ hs_ => (hk_.2.2) hs_)) (fun k_ hk_ => ⟨hk_.1.1, hk_.1.2.1, hk_.1.2.2⟩)); replace HO_14 := Aside0.mk (Kd.R_mono (ok' := fun k_ => some k_ ≠ (v343 : Value).ownBlock ∧ some k_ ≠ (v346 : Value).ownBlock ∧ some k_ ≠ (.slice Ao81 t359.length co81 : Value).ownBlock) (Kd.R_keptB (HO_14.out) hkp (fun k_ hk_ hs_ => (hk_.2.2) hs_)) (fun k_ hk_ => ⟨hk_.1.1, hk_.1.2.1, hk_.1.2.2⟩)); replace HO_356000 := Aside0.mk (Kd.R_mono (ok' := fun k_ => True) (Kd.R_keptB ((Kd.R_apart' HO_356000.out (Kd.R_typed HO_15.out) (by decide))) hkp (fun k_ hk_ hs_ => (hk_.2) hs_)) (fun k_ hk_ => trivial)); replace HO_356001 := Aside0.mk (Kd.S_mono (ok' := fun k_ => True) (Kd.S_keptB ((Kd.S_apart' HO_356001.out (Kd.R_typed HO_15.out) (by decide))) hkp (fun k_ hk_ hs_ => (hk_.2) hs_)) (fun k_ hk_ => trivial)); replace BK334 := Aside0.mk (blk_kept (zB BK334) hkp (fun hs_ => (fun e_ => (Kd.R_ne HO_15.out BK334.out (by decide)) e_) hs_)); replace BK355 := Aside0.mk (blk_kept (zB BK355) hkp (fun hs_ => (fun e_ => (Kd.R_ne HO_15.out BK355.out (by decide)) e_) hs_)); replace HO_15 := Aside0.mk (Kd.R_reok rfl hy0 (fun k_ e_ => HO_15.out.1 k_ e_)); replace HB := Aside0.mk (hb); (try clear hb); (try clear hkp); (try clear hy0)) | ((with_reducible refine gate_callee (f := 33) rfl ?_); refine goesL_ (some 99) rfl rfl Tryd.func33 (by kernel_rfl) rfl #[.slice Ao79 t378.length co79, .int .i64 1] rfl ZZb36450 ?_; (with_reducible refine (laws_heldIntS.calls kj49 _ _ t378 1 t381 _ ?side1 ?side2 A77.out).mono ?_); (case side1 => repeat (first | exact (Kd.R_reads' HO_14.out).2.2 | (with_reducible refine Kd.C_alloc ?_ _) | (with_reducible refine Kd.C_drewN ?_ _) | (with_reducible refine Kd.C_drew ?_))); (case side2 => rw [show t378.length = t356.length from (Kd.R_reads' HO_14.out).1.symm]; exact (Kd.R_reads' HO_14.out).2.1); rintro e w' ⟨rfl, ⟨nd, rfl⟩⟩; refine ⟨_, rfl, ?_⟩))
       go_ret
       exact ⟨ZZab01d2, ZZ295621⟩
      rw [if_neg c78] at H
      have c78b0 := decide_eq_false c78
      clear c78
      obtain ⟨t382, A83, H⟩ := bdY H
      by_cases c84 : t382 < 0
      ·rw [if_pos c84] at H
       have c84b0 := decide_eq_true c84
       clear c84
       obtain rfl := Option.some.inj H
       obtain ⟨Ao85, co85, eo85⟩ := Kd.R_slice HO_14.out
       subst eo85
       go_wp2_with (first | ((with_reducible refine gate_callee (f := 32) rfl ?_); refine goesL_ (some 93) rfl rfl Tryd.func32 (by kernel_rfl) rfl #[.slice Ao85 t356.length co85, .int .i64 1] rfl ZZ19826e ?_; (with_reducible refine (laws_markIntS.calls kj49 (fun k_ => some k_ = (.slice Ao85 t356.length co85 : Value).ownBlock) (.slice Ao85 t356.length co85) t356 1 t377 t378 w _ ?side1 ?side2 A75.out).mono ?_); (case side1 => repeat (first | (with_reducible first | exact HB.out | apply below_alloc | apply pw_below_drewN | apply below_drew1 | refine below_set ?_ (Aside0.out (by assumption))) | exact HB.out)); (case side2 => exact Kd.R_tight rfl HO_14.out); rintro e w86 ⟨rfl, hy0, hb, hkp⟩; refine ⟨_, rfl, ?_⟩; replace HO_10 := Aside0.mk (Kd.R_mono (ok' := fun k_ => some k_ ≠ (v346 : Value).ownBlock ∧ some k_ ≠ (.slice Ao85 t356.length co85 : Value).ownBlock ∧ some k_ ≠ (v360 : Value).ownBlock) (Kd.R_keptB (HO_10.out) hkp (fun k_ hk_ hs_ => (hk_.2.1) hs_)) (fun k_ hk_ => ⟨hk_.1.1, hk_.1.2.1, hk_.1.2.2⟩)); replace HO_11 := Aside0.mk (Kd.R_mono (ok' := fun k_ => some k_ ≠ (v343 : Value).ownBlock ∧ some k_ ≠ (.slice Ao85 t356.length co85 : Value).ownBlock ∧ some k_ ≠ (v360 : Value).ownBlock) (Kd.R_keptB (HO_11.out) hkp (fun k_ hk_ hs_ => (hk_.2.1) hs_)) (fun k_ hk_ => ⟨hk_.1.1, hk_.1.2.1, hk_.1.2.2⟩)); replace HO_15 := Aside0.mk (Kd.R_mono (ok' := fun k_ => some k_ ≠ (v343 : Value).ownBlock ∧ some k_ ≠ (v346 : Value).ownBlock ∧ some k_ ≠ (.slice Ao85 t356.length co85 : Value).ownBlock) (Kd.R_keptB (HO_15.out) hkp (fun k_ hk_ hs_ => (hk_.2.2) hs_)) (fun k_ hk_ => ⟨hk_.1.1, hk_.1.2.1, hk_.1.2.2⟩)); replace HO_356000 := Aside0.mk (Kd.R_mono (ok' := fun k_ => True) (Kd.R_keptB ((Kd.R_apart' HO_356000.out (Kd.R_typed HO_14.out) (by decide))) hkp (fun k_ hk_ hs_ => (hk_.2) hs_)) (fun k_ hk_ => trivial)); replace HO_356001 := Aside0.mk (Kd.S_mono (ok' := fun k_ => True) (Kd.S_keptB ((Kd.S_apart' HO_356001.out (Kd.R_typed HO_14.out) (by decide))) hkp (fun k_ hk_ hs_ => (hk_.2) hs_)) (fun k_ hk_ => trivial)); replace BK334 := Aside0.mk (blk_kept (zB BK334) hkp (fun hs_ => (fun e_ => (Kd.R_ne HO_14.out BK334.out (by decide)) e_) hs_)); replace BK355 := Aside0.mk (blk_kept (zB BK355) hkp (fun hs_ => (fun e_ => (Kd.R_ne HO_14.out BK355.out (by decide)) e_) hs_)); replace HO_14 := Aside0.mk (Kd.R_reok rfl hy0 (fun k_ e_ => HO_14.out.1 k_ e_)); replace HB := Aside0.mk (hb); (try clear hb); (try clear hkp); (try clear hy0); obtain ⟨Ao87, co87, eo87⟩ := Kd.R_slice HO_15.out; subst eo87) | ((with_reducible refine gate_callee (f := 32) rfl ?_); refine goesL_ (some 96) rfl rfl Tryd.func32 (by kernel_rfl) rfl #[.slice Ao87 t359.length co87, .int .i64 t377] rfl ZZ19826e ?_; (with_reducible refine (laws_markIntS.calls kj49 (fun k_ => some k_ = (.slice Ao87 t359.length co87 : Value).ownBlock) (.slice Ao87 t359.length co87) t359 t377 t379 t380 w _ ?side1 ?side2 A76.out).mono ?_); (case side1 => repeat (first | (with_reducible first | exact HB.out | apply below_alloc | apply pw_below_drewN | apply below_drew1 | refine below_set ?_ (Aside0.out (by assumption))) | exact HB.out)); (case side2 => exact Kd.R_tight rfl HO_15.out); rintro e w88 ⟨rfl, hy0, hb, hkp⟩; refine ⟨_, rfl, ?_⟩; replace HO_10 := Aside0.mk (Kd.R_mono (ok' := fun k_ => some k_ ≠ (v346 : Value).ownBlock ∧ some k_ ≠ (.slice Ao85 t356.length co85 : Value).ownBlock ∧ some k_ ≠ (.slice Ao87 t359.length co87 : Value).ownBlock) (Kd.R_keptB (HO_10.out) hkp (fun k_ hk_ hs_ => (hk_.2.2) hs_)) (fun k_ hk_ => ⟨hk_.1.1, hk_.1.2.1, hk_.1.2.2⟩)); replace HO_11 := Aside0.mk (Kd.R_mono (ok' := fun k_ => some k_ ≠ (v343 : Value).ownBlock ∧ some k_ ≠ (.slice Ao85 t356.length co85 : Value).ownBlock ∧ some k_ ≠ (.slice Ao87 t359.length co87 : Value).ownBlock) (Kd.R_keptB (HO_11.out) hkp (fun k_ hk_ hs_ => (hk_.2.2) hs_)) (fun k_ hk_ => ⟨hk_.1.1, hk_.1.2.1, hk_.1.2.2⟩)); replace HO_14 := Aside0.mk (Kd.R_mono (ok' := fun k_ => some k_ ≠ (v343 : Value).ownBlock ∧ some k_ ≠ (v346 : Value).ownBlock ∧ some k_ ≠ (.slice Ao87 t359.length co87 : Value).ownBlock) (Kd.R_keptB (HO_14.out) hkp (fun k_ hk_ hs_ => (hk_.2.2) hs_)) (fun k_ hk_ => ⟨hk_.1.1, hk_.1.2.1, hk_.1.2.2⟩)); replace HO_356000 := Aside0.mk (Kd.R_mono (ok' := fun k_ => True) (Kd.R_keptB ((Kd.R_apart' HO_356000.out (Kd.R_typed HO_15.out) (by decide))) hkp (fun k_ hk_ hs_ => (hk_.2) hs_)) (fun k_ hk_ => trivial)); replace HO_356001 := Aside0.mk (Kd.S_mono (ok' := fun k_ => True) (Kd.S_keptB ((Kd.S_apart' HO_356001.out (Kd.R_typed HO_15.out) (by decide))) hkp (fun k_ hk_ hs_ => (hk_.2) hs_)) (fun k_ hk_ => trivial)); replace BK334 := Aside0.mk (blk_kept (zB BK334) hkp (fun hs_ => (fun e_ => (Kd.R_ne HO_15.out BK334.out (by decide)) e_) hs_)); replace BK355 := Aside0.mk (blk_kept (zB BK355) hkp (fun hs_ => (fun e_ => (Kd.R_ne HO_15.out BK355.out (by decide)) e_) hs_)); replace HO_15 := Aside0.mk (Kd.R_reok rfl hy0 (fun k_ e_ => HO_15.out.1 k_ e_)); replace HB := Aside0.mk (hb); (try clear hb); (try clear hkp); (try clear hy0)) | ((with_reducible refine gate_callee (f := 33) rfl ?_); refine goesL_ (some 99) rfl rfl Tryd.func33 (by kernel_rfl) rfl #[.slice Ao85 t378.length co85, .int .i64 1] rfl ZZb36450 ?_; (with_reducible refine (laws_heldIntS.calls kj49 _ _ t378 1 t381 _ ?side1 ?side2 A77.out).mono ?_); (case side1 => repeat (first | exact (Kd.R_reads' HO_14.out).2.2 | (with_reducible refine Kd.C_alloc ?_ _) | (with_reducible refine Kd.C_drewN ?_ _) | (with_reducible refine Kd.C_drew ?_))); (case side2 => rw [show t378.length = t356.length from (Kd.R_reads' HO_14.out).1.symm]; exact (Kd.R_reads' HO_14.out).2.1); rintro e w' ⟨rfl, ⟨nd, rfl⟩⟩; refine ⟨_, rfl, ?_⟩) | ((with_reducible refine gate_callee (f := 33) rfl ?_); refine goesL_ (some 104) rfl rfl Tryd.func33 (by kernel_rfl) rfl #[.slice Ao87 t380.length co87, .int .i64 t381] rfl (by (try simp only [List.map_toArray, List.map_cons, List.map_nil]); first | done | (rw [show t380.length = t359.length from (Kd.R_reads' HO_15.out).1.symm] <;> rfl) | rfl | (simp only [List.length_drop, List.length_take]; rfl)) ?_; (with_reducible refine (laws_heldIntS.calls kj49 _ _ t380 t381 t382 _ ?side1 ?side2 A83.out).mono ?_); (case side1 => repeat (first | exact (Kd.R_reads' HO_15.out).2.2 | (with_reducible refine Kd.C_alloc ?_ _) | (with_reducible refine Kd.C_drewN ?_ _) | (with_reducible refine Kd.C_drew ?_))); (case side2 => rw [show t380.length = t359.length from (Kd.R_reads' HO_15.out).1.symm]; exact (Kd.R_reads' HO_15.out).2.1); rintro e w' ⟨rfl, ⟨nd, rfl⟩⟩; refine ⟨_, rfl, ?_⟩))
       go_ret
       exact ⟨ZZab01d2, ZZ295621⟩
      rw [if_neg c84] at H
      have c84b0 := decide_eq_false c84
      clear c84
      by_cases c89 : t382 = t379
      ·rw [if_pos c89] at H
       have c89b0 := beq_iff_eq.mpr c89
       have c89b1 := bne_eq_false_iff_eq.mpr c89
       clear c89
       obtain ⟨⟨t383, t386⟩, A90, H⟩ := bdY H
       try dsimp only at H
       obtain ⟨⟨t389, t392, t395⟩, A91, H⟩ := bdY H
       try dsimp only at H
       have HC92 := Aside0.mk H
       clear H
       obtain ⟨Ao93, co93, eo93⟩ := Kd.R_slice HO_14.out
       subst eo93
       go_upto_region 29 with (first | ((with_reducible refine gate_callee (f := 32) rfl ?_); refine goesL_ (some 93) rfl rfl Tryd.func32 (by kernel_rfl) rfl #[.slice Ao93 t356.length co93, .int .i64 1] rfl ZZ19826e ?_; (with_reducible refine (laws_markIntS.calls kj49 (fun k_ => some k_ = (.slice Ao93 t356.length co93 : Value).ownBlock) (.slice Ao93 t356.length co93) t356 1 t377 t378 w _ ?side1 ?side2 A75.out).mono ?_); (case side1 => repeat (first | (with_reducible first | exact HB.out | apply below_alloc | apply pw_below_drewN | apply below_drew1 | refine below_set ?_ (Aside0.out (by assumption))) | exact HB.out)); (case side2 => exact Kd.R_tight rfl HO_14.out); rintro e w94 ⟨rfl, hy0, hb, hkp⟩; refine ⟨_, rfl, ?_⟩; replace HO_10 := Aside0.mk (Kd.R_mono (ok' := fun k_ => some k_ ≠ (v346 : Value).ownBlock ∧ some k_ ≠ (.slice Ao93 t356.length co93 : Value).ownBlock ∧ some k_ ≠ (v360 : Value).ownBlock) (Kd.R_keptB (HO_10.out) hkp (fun k_ hk_ hs_ => (hk_.2.1) hs_)) (fun k_ hk_ => ⟨hk_.1.1, hk_.1.2.1, hk_.1.2.2⟩)); replace HO_11 := Aside0.mk (Kd.R_mono (ok' := fun k_ => some k_ ≠ (v343 : Value).ownBlock ∧ some k_ ≠ (.slice Ao93 t356.length co93 : Value).ownBlock ∧ some k_ ≠ (v360 : Value).ownBlock) (Kd.R_keptB (HO_11.out) hkp (fun k_ hk_ hs_ => (hk_.2.1) hs_)) (fun k_ hk_ => ⟨hk_.1.1, hk_.1.2.1, hk_.1.2.2⟩)); replace HO_15 := Aside0.mk (Kd.R_mono (ok' := fun k_ => some k_ ≠ (v343 : Value).ownBlock ∧ some k_ ≠ (v346 : Value).ownBlock ∧ some k_ ≠ (.slice Ao93 t356.length co93 : Value).ownBlock) (Kd.R_keptB (HO_15.out) hkp (fun k_ hk_ hs_ => (hk_.2.2) hs_)) (fun k_ hk_ => ⟨hk_.1.1, hk_.1.2.1, hk_.1.2.2⟩)); replace HO_356000 := Aside0.mk (Kd.R_mono (ok' := fun k_ => True) (Kd.R_keptB ((Kd.R_apart' HO_356000.out (Kd.R_typed HO_14.out) (by decide))) hkp (fun k_ hk_ hs_ => (hk_.2) hs_)) (fun k_ hk_ => trivial)); replace HO_356001 := Aside0.mk (Kd.S_mono (ok' := fun k_ => True) (Kd.S_keptB ((Kd.S_apart' HO_356001.out (Kd.R_typed HO_14.out) (by decide))) hkp (fun k_ hk_ hs_ => (hk_.2) hs_)) (fun k_ hk_ => trivial)); replace BK334 := Aside0.mk (blk_kept (zB BK334) hkp (fun hs_ => (fun e_ => (Kd.R_ne HO_14.out BK334.out (by decide)) e_) hs_)); replace BK355 := Aside0.mk (blk_kept (zB BK355) hkp (fun hs_ => (fun e_ => (Kd.R_ne HO_14.out BK355.out (by decide)) e_) hs_)); replace HO_14 := Aside0.mk (Kd.R_reok rfl hy0 (fun k_ e_ => HO_14.out.1 k_ e_)); replace HB := Aside0.mk (hb); (try clear hb); (try clear hkp); (try clear hy0); obtain ⟨Ao95, co95, eo95⟩ := Kd.R_slice HO_15.out; subst eo95) | ((with_reducible refine gate_callee (f := 32) rfl ?_); refine goesL_ (some 96) rfl rfl Tryd.func32 (by kernel_rfl) rfl #[.slice Ao95 t359.length co95, .int .i64 t377] rfl ZZ19826e ?_; (with_reducible refine (laws_markIntS.calls kj49 (fun k_ => some k_ = (.slice Ao95 t359.length co95 : Value).ownBlock) (.slice Ao95 t359.length co95) t359 t377 t379 t380 w _ ?side1 ?side2 A76.out).mono ?_); (case side1 => repeat (first | (with_reducible first | exact HB.out | apply below_alloc | apply pw_below_drewN | apply below_drew1 | refine below_set ?_ (Aside0.out (by assumption))) | exact HB.out)); (case side2 => exact Kd.R_tight rfl HO_15.out); rintro e w96 ⟨rfl, hy0, hb, hkp⟩; refine ⟨_, rfl, ?_⟩; replace HO_10 := Aside0.mk (Kd.R_mono (ok' := fun k_ => some k_ ≠ (v346 : Value).ownBlock ∧ some k_ ≠ (.slice Ao93 t356.length co93 : Value).ownBlock ∧ some k_ ≠ (.slice Ao95 t359.length co95 : Value).ownBlock) (Kd.R_keptB (HO_10.out) hkp (fun k_ hk_ hs_ => (hk_.2.2) hs_)) (fun k_ hk_ => ⟨hk_.1.1, hk_.1.2.1, hk_.1.2.2⟩)); replace HO_11 := Aside0.mk (Kd.R_mono (ok' := fun k_ => some k_ ≠ (v343 : Value).ownBlock ∧ some k_ ≠ (.slice Ao93 t356.length co93 : Value).ownBlock ∧ some k_ ≠ (.slice Ao95 t359.length co95 : Value).ownBlock) (Kd.R_keptB (HO_11.out) hkp (fun k_ hk_ hs_ => (hk_.2.2) hs_)) (fun k_ hk_ => ⟨hk_.1.1, hk_.1.2.1, hk_.1.2.2⟩)); replace HO_14 := Aside0.mk (Kd.R_mono (ok' := fun k_ => some k_ ≠ (v343 : Value).ownBlock ∧ some k_ ≠ (v346 : Value).ownBlock ∧ some k_ ≠ (.slice Ao95 t359.length co95 : Value).ownBlock) (Kd.R_keptB (HO_14.out) hkp (fun k_ hk_ hs_ => (hk_.2.2) hs_)) (fun k_ hk_ => ⟨hk_.1.1, hk_.1.2.1, hk_.1.2.2⟩)); replace HO_356000 := Aside0.mk (Kd.R_mono (ok' := fun k_ => True) (Kd.R_keptB ((Kd.R_apart' HO_356000.out (Kd.R_typed HO_15.out) (by decide))) hkp (fun k_ hk_ hs_ => (hk_.2) hs_)) (fun k_ hk_ => trivial)); replace HO_356001 := Aside0.mk (Kd.S_mono (ok' := fun k_ => True) (Kd.S_keptB ((Kd.S_apart' HO_356001.out (Kd.R_typed HO_15.out) (by decide))) hkp (fun k_ hk_ hs_ => (hk_.2) hs_)) (fun k_ hk_ => trivial)); replace BK334 := Aside0.mk (blk_kept (zB BK334) hkp (fun hs_ => (fun e_ => (Kd.R_ne HO_15.out BK334.out (by decide)) e_) hs_)); replace BK355 := Aside0.mk (blk_kept (zB BK355) hkp (fun hs_ => (fun e_ => (Kd.R_ne HO_15.out BK355.out (by decide)) e_) hs_)); replace HO_15 := Aside0.mk (Kd.R_reok rfl hy0 (fun k_ e_ => HO_15.out.1 k_ e_)); replace HB := Aside0.mk (hb); (try clear hb); (try clear hkp); (try clear hy0)) | ((with_reducible refine gate_callee (f := 33) rfl ?_); refine goesL_ (some 99) rfl rfl Tryd.func33 (by kernel_rfl) rfl #[.slice Ao93 t378.length co93, .int .i64 1] rfl ZZb36450 ?_; (with_reducible refine (laws_heldIntS.calls kj49 _ _ t378 1 t381 _ ?side1 ?side2 A77.out).mono ?_); (case side1 => repeat (first | exact (Kd.R_reads' HO_14.out).2.2 | (with_reducible refine Kd.C_alloc ?_ _) | (with_reducible refine Kd.C_drewN ?_ _) | (with_reducible refine Kd.C_drew ?_))); (case side2 => rw [show t378.length = t356.length from (Kd.R_reads' HO_14.out).1.symm]; exact (Kd.R_reads' HO_14.out).2.1); rintro e w' ⟨rfl, ⟨nd, rfl⟩⟩; refine ⟨_, rfl, ?_⟩) | ((with_reducible refine gate_callee (f := 33) rfl ?_); refine goesL_ (some 104) rfl rfl Tryd.func33 (by kernel_rfl) rfl #[.slice Ao95 t380.length co95, .int .i64 t381] rfl (by (try simp only [List.map_toArray, List.map_cons, List.map_nil]); first | done | (rw [show t380.length = t359.length from (Kd.R_reads' HO_15.out).1.symm] <;> rfl) | rfl | (simp only [List.length_drop, List.length_take]; rfl)) ?_; (with_reducible refine (laws_heldIntS.calls kj49 _ _ t380 t381 t382 _ ?side1 ?side2 A83.out).mono ?_); (case side1 => repeat (first | exact (Kd.R_reads' HO_15.out).2.2 | (with_reducible refine Kd.C_alloc ?_ _) | (with_reducible refine Kd.C_drewN ?_ _) | (with_reducible refine Kd.C_drew ?_))); (case side2 => rw [show t380.length = t359.length from (Kd.R_reads' HO_15.out).1.symm]; exact (Kd.R_reads' HO_15.out).2.1); rintro e w' ⟨rfl, ⟨nd, rfl⟩⟩; refine ⟨_, rfl, ?_⟩; have hnb97 := NB334_355.out; have hnc97 := NB355_334.out; have hcz98_0 : w96.cell? ⟨gb334, 0, none⟩ = some (.slice A0_0 l0_0.length c0_0) := (blk_cell BK334.out 0).trans rfl; have hcz98_1 : w96.cell? ⟨gb334, 1, none⟩ = some (.slice A0_1 l0_1.length c0_1) := (blk_cell BK334.out 1).trans rfl; have hfz98_0 := blk_frozen BK334.out 0; have hfz98_1 := blk_frozen BK334.out 1) | ((with_reducible refine gate_callee (f := 16) rfl ?_); refine goesL_ (some 112) rfl rfl Tryd.func16 (by kernel_rfl) rfl #[.agg #[.slice A0_0 l0_0.length c0_0, .slice A0_1 l0_1.length c0_1]] rfl ZZ19826e ?_; (with_reducible refine (laws_toLedger.calls kj49 _ _ l0_0 _ _ l0_1 t383 t386 _ ?side1 ?side2 ?side3 ?side4 A90.out).mono ?_); (case side1 => repeat (first | exact (Kd.C_below HR0_0.out ZZ295621) | (with_reducible refine Kd.C_alloc ?_ _) | (with_reducible refine Kd.C_drewN ?_ _) | (with_reducible refine Kd.C_drew ?_))); (case side2 => exact HC0_0.out); (case side3 => repeat (first | exact (Kd.C_below HR0_1.out ZZ295621) | (with_reducible refine Kd.C_alloc ?_ _) | (with_reducible refine Kd.C_drewN ?_ _) | (with_reducible refine Kd.C_drew ?_))); (case side4 => exact HC0_1.out); rintro e w99 ⟨v384, v387, rfl, ho0, ho1, hb⟩; refine ⟨_, rfl, ?_⟩; replace HO_10 := Aside0.mk (Kd.R_below (zR HO_10) hb); replace HO_11 := Aside0.mk (Kd.R_below (zR HO_11) hb); replace HO_14 := Aside0.mk (Kd.R_below (zR HO_14) hb); replace HO_15 := Aside0.mk (Kd.R_below (zR HO_15) hb); have HO385 := Aside0.mk (Kd.R_lower (Kd.R_new' ho0 (Kd.R_lt (zR HO_356000))) (below_size ZZ295621)); replace HO_356000 := Aside0.mk (Kd.R_elder' (zR HO_356000) (Kd.R_base ho0) hb); have HO388 := Aside0.mk (Kd.S_lower (Kd.S_new' ho1 (Kd.S_lt (zS HO_356001))) (below_size ZZ295621)); replace HO_356001 := Aside0.mk (Kd.S_elder' (zS HO_356001) (Kd.S_base ho1) hb); replace BK334 := Aside0.mk (blk_below (zB BK334) hb); replace BK355 := Aside0.mk (blk_below (zB BK355) hb); replace HB := Aside0.mk (below_step ZZ295621 hb); (try clear hb); (try clear hb2); (try clear hk); (try clear hi); (try clear ho0); (try clear ho1); obtain ⟨Ao100, co100, eo100⟩ := Kd.R_slice HO385.out; subst eo100; obtain ⟨Ao101, co101, eo101⟩ := Kd.S_slice HO388.out; subst eo101) | ((with_reducible refine gate_callee (f := 29) rfl ?_); refine goesL_ (some 116) rfl rfl Tryd.func29 (by kernel_rfl) rfl #[.agg #[.slice Ao100 t383.length co100, .slice Ao101 t386.length co101], .int .i64 a1, .int .i64 a2, .int .i64 a3] rfl ZZ19826e ?_; (with_reducible refine (impl_AccountStatement.calls kj49 _ _ t383 _ _ t386 a1 a2 a3 t389 t392 t395 _ ?side1 ?side2 ?side3 ?side4 A91.out).mono ?_); (case side1 => repeat (first | exact (Kd.R_reads' HO385.out).2.2 | (with_reducible refine Kd.C_alloc ?_ _) | (with_reducible refine Kd.C_drewN ?_ _) | (with_reducible refine Kd.C_drew ?_))); (case side2 => exact (Kd.R_reads' HO385.out).2.1); (case side3 => repeat (first | exact (Kd.S_reads' HO388.out).2.2 | (with_reducible refine Kd.C_alloc ?_ _) | (with_reducible refine Kd.C_drewN ?_ _) | (with_reducible refine Kd.C_drew ?_))); (case side4 => exact (Kd.S_reads' HO388.out).2.1); rintro e w102 ⟨v390, v393, rfl, ho0, ho1, hb⟩; refine ⟨_, rfl, ?_⟩; replace HO_356000 := Aside0.mk (Kd.R_below (zR HO_356000) hb); replace HO_356001 := Aside0.mk (Kd.S_below (zS HO_356001) hb); replace HO385 := Aside0.mk (Kd.R_below (zR HO385) hb); replace HO388 := Aside0.mk (Kd.S_below (zS HO388) hb); have HO391 := Aside0.mk (Kd.R_lower (Kd.R_new' (Kd.R_new' (Kd.R_new' (Kd.R_new' ho0 (Kd.R_lt (zR HO_10))) (Kd.R_lt (zR HO_11))) (Kd.R_lt (zR HO_14))) (Kd.R_lt (zR HO_15))) (below_size ZZ295621)); have HO394 := Aside0.mk (Kd.R_lower (Kd.R_new' (Kd.R_new' (Kd.R_new' (Kd.R_new' ho1 (Kd.R_lt (zR HO_10))) (Kd.R_lt (zR HO_11))) (Kd.R_lt (zR HO_14))) (Kd.R_lt (zR HO_15))) (below_size ZZ295621)); replace HO_10 := Aside0.mk (Kd.R_mono (Kd.R_told (Kd.R_told (Kd.R_old (zR HO_10) hb) (Kd.R_base ho0)) (Kd.R_base ho1)) (fun _ h_ => h_.1)); replace HO_11 := Aside0.mk (Kd.R_mono (Kd.R_told (Kd.R_told (Kd.R_old (zR HO_11) hb) (Kd.R_base ho0)) (Kd.R_base ho1)) (fun _ h_ => h_.1)); replace HO_14 := Aside0.mk (Kd.R_mono (Kd.R_told (Kd.R_told (Kd.R_old (zR HO_14) hb) (Kd.R_base ho0)) (Kd.R_base ho1)) (fun _ h_ => h_.1)); replace HO_15 := Aside0.mk (Kd.R_mono (Kd.R_told (Kd.R_told (Kd.R_old (zR HO_15) hb) (Kd.R_base ho0)) (Kd.R_base ho1)) (fun _ h_ => h_.1)); replace BK334 := Aside0.mk (blk_below (zB BK334) hb); replace BK355 := Aside0.mk (blk_below (zB BK355) hb); replace HB := Aside0.mk (below_step ZZ295621 hb); (try clear hb); (try clear hb2); (try clear hk); (try clear hi); (try clear ho0); (try clear ho1)))
       (try simp only [Act.put, List.setIfInBounds_toArray, List.set_cons_zero, List.set_cons_succ])
       go_cut [134] (fun v134 wc => ∃ (kq : Nat) (x134_91 : Bool), v134 = .bool x134_91 ∧ Aside0 (laws_FnExactAccountStatement.j2 kq t378 t380 t379 x134_91 = some r) ∧ Aside0 (kq ≤ kj49) ∧ Aside0 (Kd.R (Kd.int .i64) 3 wc w.heap.size (fun k_ => some k_ ≠ ((.slice Ao95 t359.length co95) : Value).ownBlock) (.slice Ao93 t356.length co93) t378) ∧ Aside0 (Kd.R (Kd.int .i64) 3 wc w.heap.size (fun k_ => some k_ ≠ ((.slice Ao93 t356.length co93) : Value).ownBlock) (.slice Ao95 t359.length co95) t380) ∧ Aside0 (Kd.R k48 48 wc w.heap.size (fun _ => True) (.slice Ao26 t373.length co26) t373) ∧ Aside0 (Kd.S k63 63 wc w.heap.size (fun _ => True) (.slice Ao29 t374.length co29) t374) ∧ Aside0 (wc.heap[gb334]? = some (.cells #[(.slice A0_0 l0_0.length c0_0), (.slice A0_1 l0_1.length c0_1)] 25 (0, 0))) ∧ Aside0 (wc.heap[gb355]? = some (.cells #[(.slice Ao26 t373.length co26), (.slice Ao29 t374.length co29)] 31 (0, 0))) ∧ Aside0 (Below w.heap.size w wc))
       case first =>
        have H := HC92.out
        clear HC92
        obtain ⟨t396, A103, H⟩ := bdY H
        by_cases c104 : t396 = true
        ·subst c104
         have H1 : ((laws_eqIntS.f kj49 t392 t345).bind fun t397 => (if t397 = true then (laws_FnExactAccountStatement.j2 kj49 t378 t380 t379 (t395 != t348)) else (laws_FnExactAccountStatement.j2 kj49 t378 t380 t379 true))) = some r := by rw [if_pos rfl] at H; exact H
         clear H
         have H := H1
         clear H1
         obtain ⟨t397, A105, H⟩ := bdY H
         by_cases c106 : t397 = true
         ·subst c106
          have H1 : (laws_FnExactAccountStatement.j2 kj49 t378 t380 t379 (t395 != t348)) = some r := by rw [if_pos rfl] at H; exact H
          clear H
          have H := H1
          clear H1
          have H' := Aside0.mk H
          clear H
          obtain ⟨Ao107, co107, eo107⟩ := Kd.R_slice HO391.out
          subst eo107
          obtain ⟨Ao108, co108, eo108⟩ := Kd.R_slice HO_10.out
          subst eo108
          go_wp2_with (first | ((with_reducible refine gate_callee (f := 30) rfl ?_); refine goesL_ (some 122) rfl rfl Tryd.func30 (by kernel_rfl) rfl #[.slice Ao107 t389.length co107, .slice Ao108 t342.length co108] rfl ZZ19826e ?_; (with_reducible refine (laws_eqIntS.calls kj49 _ _ t389 _ _ t342 true _ ?side1 ?side2 ?side3 ?side4 A103.out).mono ?_); (case side1 => repeat (first | exact (Kd.R_reads' HO391.out).2.2 | (with_reducible refine Kd.C_alloc ?_ _) | (with_reducible refine Kd.C_drewN ?_ _) | (with_reducible refine Kd.C_drew ?_))); (case side2 => exact (Kd.R_reads' HO391.out).2.1); (case side3 => repeat (first | exact (Kd.R_reads' HO_10.out).2.2 | (with_reducible refine Kd.C_alloc ?_ _) | (with_reducible refine Kd.C_drewN ?_ _) | (with_reducible refine Kd.C_drew ?_))); (case side4 => exact (Kd.R_reads' HO_10.out).2.1); rintro e w' ⟨rfl, ⟨nd, rfl⟩⟩; refine ⟨_, rfl, ?_⟩; obtain ⟨Ao109, co109, eo109⟩ := Kd.R_slice HO394.out; subst eo109; obtain ⟨Ao110, co110, eo110⟩ := Kd.R_slice HO_11.out; subst eo110) | (go_at_call 30; (with_reducible refine (laws_eqIntS.calls kj49 _ _ t392 _ _ t345 true _ ?side1 ?side2 ?side3 ?side4 A105.out).mono ?_); (case side1 => repeat (first | exact (Kd.R_reads' HO394.out).2.2 | (with_reducible refine Kd.C_alloc ?_ _) | (with_reducible refine Kd.C_drewN ?_ _) | (with_reducible refine Kd.C_drew ?_))); (case side2 => exact (Kd.R_reads' HO394.out).2.1); (case side3 => repeat (first | exact (Kd.R_reads' HO_11.out).2.2 | (with_reducible refine Kd.C_alloc ?_ _) | (with_reducible refine Kd.C_drewN ?_ _) | (with_reducible refine Kd.C_drew ?_))); (case side4 => exact (Kd.R_reads' HO_11.out).2.1); rintro e w' ⟨rfl, ⟨nd, rfl⟩⟩))
          go_meet
          case rel => exact ⟨_, ((t395 != t348)), ZZ0ab324, H', ⟨(by have := HJ13.out; have := HJ49.out; first | omega | exact Nat.le_refl _)⟩, ⟨(by (try simp only [hl356000_49]); (try simp only [hl356001_49]); (with_reducible repeat (first | apply Kd.R_alloc | apply Kd.R_drewN | apply Kd.R_drew)); exact Kd.R_mono HO_14.out (fun _ hk => hk.1.1.2.2))⟩, ⟨(by (try simp only [hl356000_49]); (try simp only [hl356001_49]); (with_reducible repeat (first | apply Kd.R_alloc | apply Kd.R_drewN | apply Kd.R_drew)); exact Kd.R_mono HO_15.out (fun _ hk => hk.1.1.2.2))⟩, ⟨(by (try simp only [hl356000_49]); (try simp only [hl356001_49]); (with_reducible repeat (first | apply Kd.R_alloc | apply Kd.R_drewN | apply Kd.R_drew)); exact Kd.R_mono HO_356000.out (fun _ hk => trivial))⟩, ⟨(by (try simp only [hl356000_49]); (try simp only [hl356001_49]); (with_reducible repeat (first | apply Kd.S_alloc | apply Kd.S_drewN | apply Kd.S_drew)); exact Kd.S_mono HO_356001.out (fun _ hk => trivial))⟩, ⟨(by (try simp only [hl356000_49]); (try simp only [hl356001_49]); (with_reducible repeat (first | refine blk_drewN ?_ _ | refine blk_drew ?_ | refine blk_alloc ?_ _)); exact BK334.out)⟩, ⟨(by (try simp only [hl356000_49]); (try simp only [hl356001_49]); (with_reducible repeat (first | refine blk_drewN ?_ _ | refine blk_drew ?_ | refine blk_alloc ?_ _)); exact BK355.out)⟩, ⟨ZZ295621⟩⟩
         replace c106 := Bool.eq_false_iff.mpr c106
         subst c106
         have H1 : (laws_FnExactAccountStatement.j2 kj49 t378 t380 t379 true) = some r := by rw [if_neg (show ¬ (false = true) by decide)] at H; exact H
         clear H
         have H := H1
         clear H1
         have H' := Aside0.mk H
         clear H
         obtain ⟨Ao111, co111, eo111⟩ := Kd.R_slice HO391.out
         subst eo111
         obtain ⟨Ao112, co112, eo112⟩ := Kd.R_slice HO_10.out
         subst eo112
         go_wp2_with (first | ((with_reducible refine gate_callee (f := 30) rfl ?_); refine goesL_ (some 122) rfl rfl Tryd.func30 (by kernel_rfl) rfl #[.slice Ao111 t389.length co111, .slice Ao112 t342.length co112] rfl ZZ19826e ?_; (with_reducible refine (laws_eqIntS.calls kj49 _ _ t389 _ _ t342 true _ ?side1 ?side2 ?side3 ?side4 A103.out).mono ?_); (case side1 => repeat (first | exact (Kd.R_reads' HO391.out).2.2 | (with_reducible refine Kd.C_alloc ?_ _) | (with_reducible refine Kd.C_drewN ?_ _) | (with_reducible refine Kd.C_drew ?_))); (case side2 => exact (Kd.R_reads' HO391.out).2.1); (case side3 => repeat (first | exact (Kd.R_reads' HO_10.out).2.2 | (with_reducible refine Kd.C_alloc ?_ _) | (with_reducible refine Kd.C_drewN ?_ _) | (with_reducible refine Kd.C_drew ?_))); (case side4 => exact (Kd.R_reads' HO_10.out).2.1); rintro e w' ⟨rfl, ⟨nd, rfl⟩⟩; refine ⟨_, rfl, ?_⟩; obtain ⟨Ao113, co113, eo113⟩ := Kd.R_slice HO394.out; subst eo113; obtain ⟨Ao114, co114, eo114⟩ := Kd.R_slice HO_11.out; subst eo114) | (go_at_call 30; (with_reducible refine (laws_eqIntS.calls kj49 _ _ t392 _ _ t345 false _ ?side1 ?side2 ?side3 ?side4 A105.out).mono ?_); (case side1 => repeat (first | exact (Kd.R_reads' HO394.out).2.2 | (with_reducible refine Kd.C_alloc ?_ _) | (with_reducible refine Kd.C_drewN ?_ _) | (with_reducible refine Kd.C_drew ?_))); (case side2 => exact (Kd.R_reads' HO394.out).2.1); (case side3 => repeat (first | exact (Kd.R_reads' HO_11.out).2.2 | (with_reducible refine Kd.C_alloc ?_ _) | (with_reducible refine Kd.C_drewN ?_ _) | (with_reducible refine Kd.C_drew ?_))); (case side4 => exact (Kd.R_reads' HO_11.out).2.1); rintro e w' ⟨rfl, ⟨nd, rfl⟩⟩))
         go_meet
         case rel => exact ⟨_, (true), ZZ0ab324, H', ⟨(by have := HJ13.out; have := HJ49.out; first | omega | exact Nat.le_refl _)⟩, ⟨(by (try simp only [hl356000_49]); (try simp only [hl356001_49]); (with_reducible repeat (first | apply Kd.R_alloc | apply Kd.R_drewN | apply Kd.R_drew)); exact Kd.R_mono HO_14.out (fun _ hk => hk.1.1.2.2))⟩, ⟨(by (try simp only [hl356000_49]); (try simp only [hl356001_49]); (with_reducible repeat (first | apply Kd.R_alloc | apply Kd.R_drewN | apply Kd.R_drew)); exact Kd.R_mono HO_15.out (fun _ hk => hk.1.1.2.2))⟩, ⟨(by (try simp only [hl356000_49]); (try simp only [hl356001_49]); (with_reducible repeat (first | apply Kd.R_alloc | apply Kd.R_drewN | apply Kd.R_drew)); exact Kd.R_mono HO_356000.out (fun _ hk => trivial))⟩, ⟨(by (try simp only [hl356000_49]); (try simp only [hl356001_49]); (with_reducible repeat (first | apply Kd.S_alloc | apply Kd.S_drewN | apply Kd.S_drew)); exact Kd.S_mono HO_356001.out (fun _ hk => trivial))⟩, ⟨(by (try simp only [hl356000_49]); (try simp only [hl356001_49]); (with_reducible repeat (first | refine blk_drewN ?_ _ | refine blk_drew ?_ | refine blk_alloc ?_ _)); exact BK334.out)⟩, ⟨(by (try simp only [hl356000_49]); (try simp only [hl356001_49]); (with_reducible repeat (first | refine blk_drewN ?_ _ | refine blk_drew ?_ | refine blk_alloc ?_ _)); exact BK355.out)⟩, ⟨ZZ295621⟩⟩
        replace c104 := Bool.eq_false_iff.mpr c104
        subst c104
        have H1 : (laws_FnExactAccountStatement.j2 kj49 t378 t380 t379 true) = some r := by rw [if_neg (show ¬ (false = true) by decide)] at H; exact H
        clear H
        have H := H1
        clear H1
        have H' := Aside0.mk H
        clear H
        obtain ⟨Ao115, co115, eo115⟩ := Kd.R_slice HO391.out
        subst eo115
        obtain ⟨Ao116, co116, eo116⟩ := Kd.R_slice HO_10.out
        subst eo116
        go_wp2_with (first | ((with_reducible refine gate_callee (f := 30) rfl ?_); refine goesL_ (some 122) rfl rfl Tryd.func30 (by kernel_rfl) rfl #[.slice Ao115 t389.length co115, .slice Ao116 t342.length co116] rfl ZZ19826e ?_; (with_reducible refine (laws_eqIntS.calls kj49 _ _ t389 _ _ t342 false _ ?side1 ?side2 ?side3 ?side4 A103.out).mono ?_); (case side1 => repeat (first | exact (Kd.R_reads' HO391.out).2.2 | (with_reducible refine Kd.C_alloc ?_ _) | (with_reducible refine Kd.C_drewN ?_ _) | (with_reducible refine Kd.C_drew ?_))); (case side2 => exact (Kd.R_reads' HO391.out).2.1); (case side3 => repeat (first | exact (Kd.R_reads' HO_10.out).2.2 | (with_reducible refine Kd.C_alloc ?_ _) | (with_reducible refine Kd.C_drewN ?_ _) | (with_reducible refine Kd.C_drew ?_))); (case side4 => exact (Kd.R_reads' HO_10.out).2.1); rintro e w' ⟨rfl, ⟨nd, rfl⟩⟩; refine ⟨_, rfl, ?_⟩))
        go_meet
        case rel => exact ⟨_, (true), ZZ0ab324, H', ⟨(by have := HJ13.out; have := HJ49.out; first | omega | exact Nat.le_refl _)⟩, ⟨(by (try simp only [hl356000_49]); (try simp only [hl356001_49]); (with_reducible repeat (first | apply Kd.R_alloc | apply Kd.R_drewN | apply Kd.R_drew)); exact Kd.R_mono HO_14.out (fun _ hk => hk.1.1.2.2))⟩, ⟨(by (try simp only [hl356000_49]); (try simp only [hl356001_49]); (with_reducible repeat (first | apply Kd.R_alloc | apply Kd.R_drewN | apply Kd.R_drew)); exact Kd.R_mono HO_15.out (fun _ hk => hk.1.1.2.2))⟩, ⟨(by (try simp only [hl356000_49]); (try simp only [hl356001_49]); (with_reducible repeat (first | apply Kd.R_alloc | apply Kd.R_drewN | apply Kd.R_drew)); exact Kd.R_mono HO_356000.out (fun _ hk => trivial))⟩, ⟨(by (try simp only [hl356000_49]); (try simp only [hl356001_49]); (with_reducible repeat (first | apply Kd.S_alloc | apply Kd.S_drewN | apply Kd.S_drew)); exact Kd.S_mono HO_356001.out (fun _ hk => trivial))⟩, ⟨(by (try simp only [hl356000_49]); (try simp only [hl356001_49]); (with_reducible repeat (first | refine blk_drewN ?_ _ | refine blk_drew ?_ | refine blk_alloc ?_ _)); exact BK334.out)⟩, ⟨(by (try simp only [hl356000_49]); (try simp only [hl356001_49]); (with_reducible repeat (first | refine blk_drewN ?_ _ | refine blk_drew ?_ | refine blk_alloc ?_ _)); exact BK355.out)⟩, ⟨ZZ295621⟩⟩
       case rest =>
        clear HC92
        try clear c74
        try clear c78b0
        try clear c84b0
        try clear c89b0
        try clear c89b1
        try clear c104
        try clear c106
        try clear hcz98_0
        try clear hcz98_1
        try clear hfz98_0
        try clear hfz98_1
        obtain ⟨kq, x134_91, rfl, HA, HJ91, HO_14, HO_15, HO_356000, HO_356001, BK334, BK355, HB⟩ := hcut
        have hl14_91 := (Kd.R_reads' HO_14.out).1
        rw [hl14_91] at HO_14
        (try simp only [hl14_91])
        (try simp only [hl14_91] at BK334)
        (try simp only [hl14_91] at BK355)
        (try simp only [hl14_91] at HO_15)
        (try simp only [hl14_91] at HO_356000)
        (try simp only [hl14_91] at HO_356001)
        have hl15_91 := (Kd.R_reads' HO_15.out).1
        rw [hl15_91] at HO_15
        (try simp only [hl15_91])
        (try simp only [hl15_91] at BK334)
        (try simp only [hl15_91] at BK355)
        (try simp only [hl15_91] at HO_14)
        (try simp only [hl15_91] at HO_356000)
        (try simp only [hl15_91] at HO_356001)
        cases kq with
        | zero => exact absurd HA.out (by simp [laws_FnExactAccountStatement.j2])
        | succ kj91 =>
         have H := HA.out
         clear HA
         simp only [laws_FnExactAccountStatement.j2] at H
         by_cases c117 : x134_91 = true
         ·subst c117
          have H1 : (some false) = some r := by rw [if_pos rfl] at H; exact H
          clear H
          have H := H1
          clear H1
          obtain rfl := Option.some.inj H
          go_wp2
          go_ret
          exact ⟨ZZab01d2, ZZ295621⟩
         replace c117 := Bool.eq_false_iff.mpr c117
         subst c117
         have H1 : ((laws_heldIntS.f kj91 t378 1).bind fun t398 => (if t398 < 0 then (some false) else ((laws_heldIntS.f kj91 t380 t398).bind fun t399 => (if t399 < 0 then (some false) else (if t399 = t379 then (some true) else (some false)))))) = some r := by rw [if_neg (show ¬ (false = true) by decide)] at H; exact H
         clear H
         have H := H1
         clear H1
         obtain ⟨t398, A118, H⟩ := bdY H
         by_cases c119 : t398 < 0
         ·rw [if_pos c119] at H
          have c119b0 := decide_eq_true c119
          clear c119
          obtain rfl := Option.some.inj H
          go_wp2_with (first | ((with_reducible refine gate_callee (f := 33) rfl ?_); refine goesL_ (some 137) rfl rfl Tryd.func33 (by kernel_rfl) rfl #[.slice Ao93 t378.length co93, .int .i64 1] rfl ZZ19826e ?_; (with_reducible refine (laws_heldIntS.calls kj91 _ _ t378 1 t398 _ ?side1 ?side2 A118.out).mono ?_); (case side1 => repeat (first | exact (Kd.R_reads' HO_14.out).2.2 | (with_reducible refine Kd.C_alloc ?_ _) | (with_reducible refine Kd.C_drewN ?_ _) | (with_reducible refine Kd.C_drew ?_))); (case side2 => exact (Kd.R_reads' HO_14.out).2.1); rintro e w' ⟨rfl, ⟨nd, rfl⟩⟩; refine ⟨_, rfl, ?_⟩))
          go_ret
          exact ⟨ZZab01d2, ZZ295621⟩
         rw [if_neg c119] at H
         have c119b0 := decide_eq_false c119
         clear c119
         obtain ⟨t399, A120, H⟩ := bdY H
         by_cases c121 : t399 < 0
         ·rw [if_pos c121] at H
          have c121b0 := decide_eq_true c121
          clear c121
          obtain rfl := Option.some.inj H
          go_wp2_with (first | ((with_reducible refine gate_callee (f := 33) rfl ?_); refine goesL_ (some 137) rfl rfl Tryd.func33 (by kernel_rfl) rfl #[.slice Ao93 t378.length co93, .int .i64 1] rfl ZZ19826e ?_; (with_reducible refine (laws_heldIntS.calls kj91 _ _ t378 1 t398 _ ?side1 ?side2 A118.out).mono ?_); (case side1 => repeat (first | exact (Kd.R_reads' HO_14.out).2.2 | (with_reducible refine Kd.C_alloc ?_ _) | (with_reducible refine Kd.C_drewN ?_ _) | (with_reducible refine Kd.C_drew ?_))); (case side2 => exact (Kd.R_reads' HO_14.out).2.1); rintro e w' ⟨rfl, ⟨nd, rfl⟩⟩; refine ⟨_, rfl, ?_⟩) | ((with_reducible refine gate_callee (f := 33) rfl ?_); refine goesL_ (some 142) rfl rfl Tryd.func33 (by kernel_rfl) rfl #[.slice Ao95 t380.length co95, .int .i64 t398] rfl ZZ19826e ?_; (with_reducible refine (laws_heldIntS.calls kj91 _ _ t380 t398 t399 _ ?side1 ?side2 A120.out).mono ?_); (case side1 => repeat (first | exact (Kd.R_reads' HO_15.out).2.2 | (with_reducible refine Kd.C_alloc ?_ _) | (with_reducible refine Kd.C_drewN ?_ _) | (with_reducible refine Kd.C_drew ?_))); (case side2 => exact (Kd.R_reads' HO_15.out).2.1); rintro e w' ⟨rfl, ⟨nd, rfl⟩⟩; refine ⟨_, rfl, ?_⟩))
          go_ret
          exact ⟨ZZab01d2, ZZ295621⟩
         rw [if_neg c121] at H
         have c121b0 := decide_eq_false c121
         clear c121
         by_cases c122 : t399 = t379
         ·rw [if_pos c122] at H
          have c122b0 := beq_iff_eq.mpr c122
          have c122b1 := bne_eq_false_iff_eq.mpr c122
          clear c122
          obtain rfl := Option.some.inj H
          go_wp2_with (first | ((with_reducible refine gate_callee (f := 33) rfl ?_); refine goesL_ (some 137) rfl rfl Tryd.func33 (by kernel_rfl) rfl #[.slice Ao93 t378.length co93, .int .i64 1] rfl ZZ19826e ?_; (with_reducible refine (laws_heldIntS.calls kj91 _ _ t378 1 t398 _ ?side1 ?side2 A118.out).mono ?_); (case side1 => repeat (first | exact (Kd.R_reads' HO_14.out).2.2 | (with_reducible refine Kd.C_alloc ?_ _) | (with_reducible refine Kd.C_drewN ?_ _) | (with_reducible refine Kd.C_drew ?_))); (case side2 => exact (Kd.R_reads' HO_14.out).2.1); rintro e w' ⟨rfl, ⟨nd, rfl⟩⟩; refine ⟨_, rfl, ?_⟩) | ((with_reducible refine gate_callee (f := 33) rfl ?_); refine goesL_ (some 142) rfl rfl Tryd.func33 (by kernel_rfl) rfl #[.slice Ao95 t380.length co95, .int .i64 t398] rfl ZZ19826e ?_; (with_reducible refine (laws_heldIntS.calls kj91 _ _ t380 t398 t399 _ ?side1 ?side2 A120.out).mono ?_); (case side1 => repeat (first | exact (Kd.R_reads' HO_15.out).2.2 | (with_reducible refine Kd.C_alloc ?_ _) | (with_reducible refine Kd.C_drewN ?_ _) | (with_reducible refine Kd.C_drew ?_))); (case side2 => exact (Kd.R_reads' HO_15.out).2.1); rintro e w' ⟨rfl, ⟨nd, rfl⟩⟩; refine ⟨_, rfl, ?_⟩))
          go_ret
          exact ⟨ZZab01d2, ZZ295621⟩
         rw [if_neg c122] at H
         have c122b0 := beq_eq_false_iff_ne.mpr c122
         have c122b1 := bne_iff_ne.mpr c122
         obtain rfl := Option.some.inj H
         go_wp2_with (first | ((with_reducible refine gate_callee (f := 33) rfl ?_); refine goesL_ (some 137) rfl rfl Tryd.func33 (by kernel_rfl) rfl #[.slice Ao93 t378.length co93, .int .i64 1] rfl ZZ19826e ?_; (with_reducible refine (laws_heldIntS.calls kj91 _ _ t378 1 t398 _ ?side1 ?side2 A118.out).mono ?_); (case side1 => repeat (first | exact (Kd.R_reads' HO_14.out).2.2 | (with_reducible refine Kd.C_alloc ?_ _) | (with_reducible refine Kd.C_drewN ?_ _) | (with_reducible refine Kd.C_drew ?_))); (case side2 => exact (Kd.R_reads' HO_14.out).2.1); rintro e w' ⟨rfl, ⟨nd, rfl⟩⟩; refine ⟨_, rfl, ?_⟩) | ((with_reducible refine gate_callee (f := 33) rfl ?_); refine goesL_ (some 142) rfl rfl Tryd.func33 (by kernel_rfl) rfl #[.slice Ao95 t380.length co95, .int .i64 t398] rfl ZZ19826e ?_; (with_reducible refine (laws_heldIntS.calls kj91 _ _ t380 t398 t399 _ ?side1 ?side2 A120.out).mono ?_); (case side1 => repeat (first | exact (Kd.R_reads' HO_15.out).2.2 | (with_reducible refine Kd.C_alloc ?_ _) | (with_reducible refine Kd.C_drewN ?_ _) | (with_reducible refine Kd.C_drew ?_))); (case side2 => exact (Kd.R_reads' HO_15.out).2.1); rintro e w' ⟨rfl, ⟨nd, rfl⟩⟩; refine ⟨_, rfl, ?_⟩))
         go_ret
         exact ⟨ZZab01d2, ZZ295621⟩
      rw [if_neg c89] at H
      have c89b0 := beq_eq_false_iff_ne.mpr c89
      have c89b1 := bne_iff_ne.mpr c89
      obtain rfl := Option.some.inj H
      obtain ⟨Ao123, co123, eo123⟩ := Kd.R_slice HO_14.out
      subst eo123
      go_wp2_with (first | ((with_reducible refine gate_callee (f := 32) rfl ?_); refine goesL_ (some 93) rfl rfl Tryd.func32 (by kernel_rfl) rfl #[.slice Ao123 t356.length co123, .int .i64 1] rfl ZZ19826e ?_; (with_reducible refine (laws_markIntS.calls kj49 (fun k_ => some k_ = (.slice Ao123 t356.length co123 : Value).ownBlock) (.slice Ao123 t356.length co123) t356 1 t377 t378 w _ ?side1 ?side2 A75.out).mono ?_); (case side1 => repeat (first | (with_reducible first | exact HB.out | apply below_alloc | apply pw_below_drewN | apply below_drew1 | refine below_set ?_ (Aside0.out (by assumption))) | exact HB.out)); (case side2 => exact Kd.R_tight rfl HO_14.out); rintro e w124 ⟨rfl, hy0, hb, hkp⟩; refine ⟨_, rfl, ?_⟩; replace HO_10 := Aside0.mk (Kd.R_mono (ok' := fun k_ => some k_ ≠ (v346 : Value).ownBlock ∧ some k_ ≠ (.slice Ao123 t356.length co123 : Value).ownBlock ∧ some k_ ≠ (v360 : Value).ownBlock) (Kd.R_keptB (HO_10.out) hkp (fun k_ hk_ hs_ => (hk_.2.1) hs_)) (fun k_ hk_ => ⟨hk_.1.1, hk_.1.2.1, hk_.1.2.2⟩)); replace HO_11 := Aside0.mk (Kd.R_mono (ok' := fun k_ => some k_ ≠ (v343 : Value).ownBlock ∧ some k_ ≠ (.slice Ao123 t356.length co123 : Value).ownBlock ∧ some k_ ≠ (v360 : Value).ownBlock) (Kd.R_keptB (HO_11.out) hkp (fun k_ hk_ hs_ => (hk_.2.1) hs_)) (fun k_ hk_ => ⟨hk_.1.1, hk_.1.2.1, hk_.1.2.2⟩)); replace HO_15 := Aside0.mk (Kd.R_mono (ok' := fun k_ => some k_ ≠ (v343 : Value).ownBlock ∧ some k_ ≠ (v346 : Value).ownBlock ∧ some k_ ≠ (.slice Ao123 t356.length co123 : Value).ownBlock) (Kd.R_keptB (HO_15.out) hkp (fun k_ hk_ hs_ => (hk_.2.2) hs_)) (fun k_ hk_ => ⟨hk_.1.1, hk_.1.2.1, hk_.1.2.2⟩)); replace HO_356000 := Aside0.mk (Kd.R_mono (ok' := fun k_ => True) (Kd.R_keptB ((Kd.R_apart' HO_356000.out (Kd.R_typed HO_14.out) (by decide))) hkp (fun k_ hk_ hs_ => (hk_.2) hs_)) (fun k_ hk_ => trivial)); replace HO_356001 := Aside0.mk (Kd.S_mono (ok' := fun k_ => True) (Kd.S_keptB ((Kd.S_apart' HO_356001.out (Kd.R_typed HO_14.out) (by decide))) hkp (fun k_ hk_ hs_ => (hk_.2) hs_)) (fun k_ hk_ => trivial)); replace BK334 := Aside0.mk (blk_kept (zB BK334) hkp (fun hs_ => (fun e_ => (Kd.R_ne HO_14.out BK334.out (by decide)) e_) hs_)); replace BK355 := Aside0.mk (blk_kept (zB BK355) hkp (fun hs_ => (fun e_ => (Kd.R_ne HO_14.out BK355.out (by decide)) e_) hs_)); replace HO_14 := Aside0.mk (Kd.R_reok rfl hy0 (fun k_ e_ => HO_14.out.1 k_ e_)); replace HB := Aside0.mk (hb); (try clear hb); (try clear hkp); (try clear hy0); obtain ⟨Ao125, co125, eo125⟩ := Kd.R_slice HO_15.out; subst eo125) | ((with_reducible refine gate_callee (f := 32) rfl ?_); refine goesL_ (some 96) rfl rfl Tryd.func32 (by kernel_rfl) rfl #[.slice Ao125 t359.length co125, .int .i64 t377] rfl ZZ19826e ?_; (with_reducible refine (laws_markIntS.calls kj49 (fun k_ => some k_ = (.slice Ao125 t359.length co125 : Value).ownBlock) (.slice Ao125 t359.length co125) t359 t377 t379 t380 w _ ?side1 ?side2 A76.out).mono ?_); (case side1 => repeat (first | (with_reducible first | exact HB.out | apply below_alloc | apply pw_below_drewN | apply below_drew1 | refine below_set ?_ (Aside0.out (by assumption))) | exact HB.out)); (case side2 => exact Kd.R_tight rfl HO_15.out); rintro e w126 ⟨rfl, hy0, hb, hkp⟩; refine ⟨_, rfl, ?_⟩; replace HO_10 := Aside0.mk (Kd.R_mono (ok' := fun k_ => some k_ ≠ (v346 : Value).ownBlock ∧ some k_ ≠ (.slice Ao123 t356.length co123 : Value).ownBlock ∧ some k_ ≠ (.slice Ao125 t359.length co125 : Value).ownBlock) (Kd.R_keptB (HO_10.out) hkp (fun k_ hk_ hs_ => (hk_.2.2) hs_)) (fun k_ hk_ => ⟨hk_.1.1, hk_.1.2.1, hk_.1.2.2⟩)); replace HO_11 := Aside0.mk (Kd.R_mono (ok' := fun k_ => some k_ ≠ (v343 : Value).ownBlock ∧ some k_ ≠ (.slice Ao123 t356.length co123 : Value).ownBlock ∧ some k_ ≠ (.slice Ao125 t359.length co125 : Value).ownBlock) (Kd.R_keptB (HO_11.out) hkp (fun k_ hk_ hs_ => (hk_.2.2) hs_)) (fun k_ hk_ => ⟨hk_.1.1, hk_.1.2.1, hk_.1.2.2⟩)); replace HO_14 := Aside0.mk (Kd.R_mono (ok' := fun k_ => some k_ ≠ (v343 : Value).ownBlock ∧ some k_ ≠ (v346 : Value).ownBlock ∧ some k_ ≠ (.slice Ao125 t359.length co125 : Value).ownBlock) (Kd.R_keptB (HO_14.out) hkp (fun k_ hk_ hs_ => (hk_.2.2) hs_)) (fun k_ hk_ => ⟨hk_.1.1, hk_.1.2.1, hk_.1.2.2⟩)); replace HO_356000 := Aside0.mk (Kd.R_mono (ok' := fun k_ => True) (Kd.R_keptB ((Kd.R_apart' HO_356000.out (Kd.R_typed HO_15.out) (by decide))) hkp (fun k_ hk_ hs_ => (hk_.2) hs_)) (fun k_ hk_ => trivial)); replace HO_356001 := Aside0.mk (Kd.S_mono (ok' := fun k_ => True) (Kd.S_keptB ((Kd.S_apart' HO_356001.out (Kd.R_typed HO_15.out) (by decide))) hkp (fun k_ hk_ hs_ => (hk_.2) hs_)) (fun k_ hk_ => trivial)); replace BK334 := Aside0.mk (blk_kept (zB BK334) hkp (fun hs_ => (fun e_ => (Kd.R_ne HO_15.out BK334.out (by decide)) e_) hs_)); replace BK355 := Aside0.mk (blk_kept (zB BK355) hkp (fun hs_ => (fun e_ => (Kd.R_ne HO_15.out BK355.out (by decide)) e_) hs_)); replace HO_15 := Aside0.mk (Kd.R_reok rfl hy0 (fun k_ e_ => HO_15.out.1 k_ e_)); replace HB := Aside0.mk (hb); (try clear hb); (try clear hkp); (try clear hy0)) | ((with_reducible refine gate_callee (f := 33) rfl ?_); refine goesL_ (some 99) rfl rfl Tryd.func33 (by kernel_rfl) rfl #[.slice Ao123 t378.length co123, .int .i64 1] rfl ZZb36450 ?_; (with_reducible refine (laws_heldIntS.calls kj49 _ _ t378 1 t381 _ ?side1 ?side2 A77.out).mono ?_); (case side1 => repeat (first | exact (Kd.R_reads' HO_14.out).2.2 | (with_reducible refine Kd.C_alloc ?_ _) | (with_reducible refine Kd.C_drewN ?_ _) | (with_reducible refine Kd.C_drew ?_))); (case side2 => rw [show t378.length = t356.length from (Kd.R_reads' HO_14.out).1.symm]; exact (Kd.R_reads' HO_14.out).2.1); rintro e w' ⟨rfl, ⟨nd, rfl⟩⟩; refine ⟨_, rfl, ?_⟩) | ((with_reducible refine gate_callee (f := 33) rfl ?_); refine goesL_ (some 104) rfl rfl Tryd.func33 (by kernel_rfl) rfl #[.slice Ao125 t380.length co125, .int .i64 t381] rfl (by (try simp only [List.map_toArray, List.map_cons, List.map_nil]); first | done | (rw [show t380.length = t359.length from (Kd.R_reads' HO_15.out).1.symm] <;> rfl) | rfl | (simp only [List.length_drop, List.length_take]; rfl)) ?_; (with_reducible refine (laws_heldIntS.calls kj49 _ _ t380 t381 t382 _ ?side1 ?side2 A83.out).mono ?_); (case side1 => repeat (first | exact (Kd.R_reads' HO_15.out).2.2 | (with_reducible refine Kd.C_alloc ?_ _) | (with_reducible refine Kd.C_drewN ?_ _) | (with_reducible refine Kd.C_drew ?_))); (case side2 => rw [show t380.length = t359.length from (Kd.R_reads' HO_15.out).1.symm]; exact (Kd.R_reads' HO_15.out).2.1); rintro e w' ⟨rfl, ⟨nd, rfl⟩⟩; refine ⟨_, rfl, ?_⟩))
      go_ret
      exact ⟨ZZab01d2, ZZ295621⟩
   replace c48 := Bool.eq_false_iff.mpr c48
   subst c48
   have H1 : (some false) = some r := by rw [if_neg (show ¬ (false = true) by decide)] at H; exact H
   clear H
   have H := H1
   clear H1
   obtain rfl := Option.some.inj H
   try go_wp2
   replace HO_10 := Aside0.mk (Kd.R_drew HO_10.out)
   replace HO_11 := Aside0.mk (Kd.R_drew HO_11.out)
   replace HO_14 := Aside0.mk (Kd.R_drew HO_14.out)
   replace HO_15 := Aside0.mk (Kd.R_drew HO_15.out)
   replace HO_356000 := Aside0.mk (Kd.R_drew HO_356000.out)
   replace HO_356001 := Aside0.mk (Kd.S_drew HO_356001.out)
   replace BK334 := Aside0.mk (blk_drew BK334.out)
   replace BK355 := Aside0.mk (blk_drew BK355.out)
   replace HB := Aside0.mk (below_drew1 HB.out)
   refine start_ (n := 5) (S := fun w' => w'.cell? ⟨gb355, 0, none⟩ = some (.slice Ao26 t349.length co26) ∧ w'.cell? ⟨gb355, 1, none⟩ = some (.slice Ao29 t352.length co29) ∧ w'.cell? ⟨gb334, 0, none⟩ = some (.slice A0_0 l0_0.length c0_0) ∧ w'.cell? ⟨gb334, 1, none⟩ = some (.slice A0_1 l0_1.length c0_1)) (ds := []) #[false, false, false, false, false] (by kernel_rfl) rfl rfl ⟨(blk_cell BK355.out 0).trans rfl, (blk_cell BK355.out 1).trans rfl, (blk_cell BK334.out 0).trans rfl, (blk_cell BK334.out 1).trans rfl⟩ (fun hHeld => ?_)
   generalize wc.drew = w127 at HO_10 HO_11 HO_14 HO_15 HO_356000 HO_356001 BK334 BK355 HB hHeld ⊢
   refine take_ (i := 0) (N := some 64) (v := ?_) (a' := ?_) #[true, false, false, false, false] rfl rfl (by kernel_rfl) (fun _ _ _ h => h) (Or.inl ⟨(by rfl), ?_⟩) hHeld ?_ ?_
   rotate_left
   ·rintro w' ⟨s0, s1, s2, s3⟩
    go_simp
    with_reducible rfl
   rotate_left
   ·simp only [Act.put, List.setIfInBounds_toArray, List.set_cons_zero, List.set_cons_succ, i64_w, i32_w]
    rfl
   refine take_ (i := 1) (N := some 65) (v := ?_) (a' := ?_) #[true, true, false, false, false] rfl rfl (by kernel_rfl) (fun _ _ _ h => h) (Or.inl ⟨(by rfl), ?_⟩) hHeld ?_ ?_
   rotate_left
   ·rintro w' ⟨s0, s1, s2, s3⟩
    go_simp
    with_reducible rfl
   rotate_left
   ·simp only [Act.put, List.setIfInBounds_toArray, List.set_cons_zero, List.set_cons_succ, i64_w, i32_w]
    rfl
   refine one_ (i := 2) (N := some 66) #[true, true, true, false, false] rfl rfl (by kernel_rfl) (by decide) (fun K hK => ?_)
   refine goes_ Tryd.func16 (by kernel_rfl) rfl #[.agg #[.slice A0_0 l0_0.length c0_0, .slice A0_1 l0_1.length c0_1]] (by rfl) rfl rfl ZZ19826e ?_
   with_reducible refine (laws_toLedger.calls kj13 _ _ l0_0 _ _ l0_1 t365 t368 _ ?side1 ?side2 ?side3 ?side4 A46.out).mono ?_
   (case side1 => exact ZZ5b25f1)
   (case side2 => exact HC0_0.out)
   (case side3 => exact ZZ8ff6b3)
   (case side4 => exact HC0_1.out)
   rintro e w128 ⟨v366, v369, rfl, ho0, ho1, hb⟩
   refine ⟨_, rfl, ?_⟩
   replace HO_10 := Aside0.mk (Kd.R_below (zR HO_10) hb)
   replace HO_11 := Aside0.mk (Kd.R_below (zR HO_11) hb)
   replace HO_14 := Aside0.mk (Kd.R_below (zR HO_14) hb)
   replace HO_15 := Aside0.mk (Kd.R_below (zR HO_15) hb)
   have HO367 := Aside0.mk (Kd.R_lower (Kd.R_new' ho0 (Kd.R_lt (zR HO_356000))) (below_size ZZ295621))
   replace HO_356000 := Aside0.mk (Kd.R_elder' (zR HO_356000) (Kd.R_base ho0) hb)
   have HO370 := Aside0.mk (Kd.S_lower (Kd.S_new' ho1 (Kd.S_lt (zS HO_356001))) (below_size ZZ295621))
   replace HO_356001 := Aside0.mk (Kd.S_elder' (zS HO_356001) (Kd.S_base ho1) hb)
   replace BK334 := Aside0.mk (blk_below (zB BK334) hb)
   replace BK355 := Aside0.mk (blk_below (zB BK355) hb)
   replace HB := Aside0.mk (below_step ZZ295621 hb)
   (try clear hb)
   (try clear hb2)
   (try clear hk)
   (try clear hi)
   (try clear ho0)
   (try clear ho1)
   obtain ⟨Ao129, co129, eo129⟩ := Kd.R_slice HO367.out
   (first | subst eo129 | (injection eo129 with f1_ f2_ f3_; have f4_ := f1_.symm; have f5_ := f3_.symm; clear f1_ f2_ f3_; subst f4_; subst f5_))
   obtain ⟨Ao130, co130, eo130⟩ := Kd.S_slice HO370.out
   (first | subst eo130 | (injection eo130 with f1_ f2_ f3_; have f4_ := f1_.symm; have f5_ := f3_.symm; clear f1_ f2_ f3_; subst f4_; subst f5_))
   refine hK.out _ _ ⟨(blk_cell BK355.out 0).trans rfl, (blk_cell BK355.out 1).trans rfl, (blk_cell BK334.out 0).trans rfl, (blk_cell BK334.out 1).trans rfl⟩ (fun hHeld => ?_)
   clear hK K
   refine norm_ (a' := ?_) ?_ ?_
   rotate_left
   ·show Act.put _ (some 66) _ = _
    simp only [Act.put, List.setIfInBounds_toArray, List.set_cons_zero, List.set_cons_succ, i64_w, i32_w]
    rfl
   refine one_ (i := 3) (N := some 67) #[true, true, true, true, false] rfl rfl (by kernel_rfl) (by decide) (fun K hK => ?_)
   refine goes_ Tryd.func18 (by kernel_rfl) rfl #[.agg #[.slice Ao26 t349.length co26, .slice Ao29 t352.length co29], .agg #[.slice Ao129 t365.length co129, .slice Ao130 t368.length co130]] (by rfl) rfl rfl ZZ19826e ?_
   with_reducible refine (laws_eqLedger.calls kj13 _ _ t349 _ _ t352 _ _ t365 _ _ t368 false _ ?side1 ?side2 ?side3 ?side4 ?side5 ?side6 ?side7 ?side8 A47.out).mono ?_
   (case side1 => repeat (first | exact (Kd.R_reads' HO_356000.out).2.2 | (with_reducible refine Kd.C_alloc ?_ _) | (with_reducible refine Kd.C_drewN ?_ _) | (with_reducible refine Kd.C_drew ?_)))
   (case side2 => exact (Kd.R_reads' HO_356000.out).2.1)
   (case side3 => repeat (first | exact (Kd.S_reads' HO_356001.out).2.2 | (with_reducible refine Kd.C_alloc ?_ _) | (with_reducible refine Kd.C_drewN ?_ _) | (with_reducible refine Kd.C_drew ?_)))
   (case side4 => exact (Kd.S_reads' HO_356001.out).2.1)
   (case side5 => repeat (first | exact (Kd.R_reads' HO367.out).2.2 | (with_reducible refine Kd.C_alloc ?_ _) | (with_reducible refine Kd.C_drewN ?_ _) | (with_reducible refine Kd.C_drew ?_)))
   (case side6 => exact (Kd.R_reads' HO367.out).2.1)
   (case side7 => repeat (first | exact (Kd.S_reads' HO370.out).2.2 | (with_reducible refine Kd.C_alloc ?_ _) | (with_reducible refine Kd.C_drewN ?_ _) | (with_reducible refine Kd.C_drew ?_)))
   (case side8 => exact (Kd.S_reads' HO370.out).2.1)
   rintro e w131 ⟨rfl, hb⟩
   refine ⟨_, rfl, ?_⟩
   replace HO_10 := Aside0.mk (Kd.R_below (zR HO_10) hb)
   replace HO_11 := Aside0.mk (Kd.R_below (zR HO_11) hb)
   replace HO_14 := Aside0.mk (Kd.R_below (zR HO_14) hb)
   replace HO_15 := Aside0.mk (Kd.R_below (zR HO_15) hb)
   replace HO_356000 := Aside0.mk (Kd.R_below (zR HO_356000) hb)
   replace HO_356001 := Aside0.mk (Kd.S_below (zS HO_356001) hb)
   replace HO367 := Aside0.mk (Kd.R_below (zR HO367) hb)
   replace HO370 := Aside0.mk (Kd.S_below (zS HO370) hb)
   replace BK334 := Aside0.mk (blk_below (zB BK334) hb)
   replace BK355 := Aside0.mk (blk_below (zB BK355) hb)
   replace HB := Aside0.mk (below_step ZZ295621 hb)
   (try clear hb)
   (try clear hb2)
   (try clear hk)
   (try clear hi)
   refine hK.out _ _ ⟨(blk_cell BK355.out 0).trans rfl, (blk_cell BK355.out 1).trans rfl, (blk_cell BK334.out 0).trans rfl, (blk_cell BK334.out 1).trans rfl⟩ (fun hHeld => ?_)
   clear hK K
   refine norm_ (a' := ?_) ?_ ?_
   rotate_left
   ·show Act.put _ (some 67) _ = _
    simp only [Act.put, List.setIfInBounds_toArray, List.set_cons_zero, List.set_cons_succ, i64_w, i32_w]
    rfl
   refine pure_ (i := 4) (N := some 68) (v := ?_) (a' := ?_) #[true, true, true, true, true] rfl rfl (by kernel_rfl) (fun _ _ _ h => h) (Or.inl ⟨(by rfl), ?_⟩) ?_ ?_
   rotate_left
   ·intro w'
    go_simp
    with_reducible rfl
   rotate_left
   ·simp only [Act.put, List.setIfInBounds_toArray, List.set_cons_zero, List.set_cons_succ, i64_w, i32_w]
    rfl
   refine done_ (by kernel_rfl) ?_
   try go_wp2
   go_ret
   exact ⟨ZZab01d2, ZZ295621⟩
end Go.Proofs.YtccdjchaaeligaaDoor.XFnExactAccountStatement

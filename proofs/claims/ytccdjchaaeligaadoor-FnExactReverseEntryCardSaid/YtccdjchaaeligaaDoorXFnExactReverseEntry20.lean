import Derived.Test.YtccdjchaaeligaaDoorXFnExactReverseEntry11
import Derived.Test.YtccdjchaaeligaaDoorXFnExactReverseEntry0
import Derived.Test.YtccdjchaaeligaaDoorXFnExactReverseEntry1
import Derived.Test.YtccdjchaaeligaaDoorXFnExactReverseEntry2
import Derived.Test.YtccdjchaaeligaaDoorXFnExactReverseEntry4
import Derived.Test.YtccdjchaaeligaaDoorXFnExactReverseEntry6
import Derived.Test.YtccdjchaaeligaaDoorXFnExactReverseEntry13
import Derived.Test.YtccdjchaaeligaaDoorXFnExactReverseEntry19
namespace Go.Proofs.YtccdjchaaeligaaDoor.XFnExactReverseEntry
open Go.Proofs.YtccdjchaaeligaaDoor.Short Go.RowKit Go.Proofs.YtccdjchaaeligaaDoorW.PrintWords Go.Proofs.YtccdjchaaeligaaDoorW.PrintLast Go.Proofs.YtccdjchaaeligaaDoorW.PrintMore
attribute [local go_sem] max2_int min2_int max_two min_two max_three min_three max_four min_four
set_option linter.unusedVariables false
set_option linter.unusedSimpArgs false
theorem ZZb8d155 {p : Prop} (h : p := by refine bR ?_; exact (Kd.R_mono (Kd.R_far (p := ⟨gb456, 1, none⟩) (Kd.R_far (p := ⟨gb456, 0, none⟩) (Kd.R_types HO452.out BK456.out (by decide)) (fun _ hk => hk.2) (.slice Ao33 t450.length co33)) (fun _ hk => hk.2) (.slice Ao37 t453.length co37)) (fun _ h_ => h_.1))) : p := h
theorem ZZ497161 {p : Prop} (h : p := by refine bS ?_; exact (Kd.S_mono (Kd.S_far (p := ⟨gb456, 1, none⟩) (Kd.S_far (p := ⟨gb456, 0, none⟩) (Kd.S_types HO455.out BK456.out (by decide)) (fun _ hk => hk.2) (.slice Ao33 t450.length co33)) (fun _ hk => hk.2) (.slice Ao37 t453.length co37)) (fun _ h_ => h_.1))) : p := h
theorem ZZd9d620 {p : Prop} (h : p := by refine bR ?_; exact (Kd.R_mono (Kd.R_far (p := ⟨gb464, 1, none⟩) (Kd.R_far (p := ⟨gb464, 0, none⟩) (Kd.R_types HO459.out BK464.out (by decide)) (fun _ hk => hk.2) (.slice Ao41 t457.length co41)) (fun _ hk => hk.2) (.slice Ao46 t460.length co46)) (fun _ h_ => h_.1))) : p := h
theorem ZZ3b07a5 {p : Prop} (h : p := by refine bS ?_; exact (Kd.S_mono (Kd.S_far (p := ⟨gb464, 1, none⟩) (Kd.S_far (p := ⟨gb464, 0, none⟩) (Kd.S_types HO462.out BK464.out (by decide)) (fun _ hk => hk.2) (.slice Ao41 t457.length co41)) (fun _ hk => hk.2) (.slice Ao46 t460.length co46)) (fun _ h_ => h_.1))) : p := h
theorem ZZ8b7642 {p : Prop} (h : p := by refine bR ?_; exact (Kd.R_mono (Kd.R_far (p := ⟨gb464, 1, none⟩) (Kd.R_far (p := ⟨gb464, 0, none⟩) (Kd.R_types HO444.out BK464.out (by decide)) (fun _ hk => hk.2) (.slice Ao41 t457.length co41)) (fun _ hk => hk.2) (.slice Ao46 t460.length co46)) (fun _ h_ => h_.1))) : p := h
theorem ZZf68d4a {p : Prop} (h : p := by refine bS ?_; exact (Kd.S_mono (Kd.S_far (p := ⟨gb464, 1, none⟩) (Kd.S_far (p := ⟨gb464, 0, none⟩) (Kd.S_types HO447.out BK464.out (by decide)) (fun _ hk => hk.2) (.slice Ao41 t457.length co41)) (fun _ hk => hk.2) (.slice Ao46 t460.length co46)) (fun _ h_ => h_.1))) : p := h
theorem ZZe8a3ad {p : Prop} (h : p := by refine bS ?_; exact Kd.S_mono HO_450001.out (fun _ hk => ⟨hk.1, ⟨hk.2.1, ⟨hk.2.2.2.1, ⟨hk.2.2.2.2.1, ⟨hk.2.2.2.2.2.1, hk.2.2.2.2.2.2⟩⟩⟩⟩⟩)) : p := h
theorem ZZa35187 {p : Prop} (h : p := by refine bS ?_; exact Kd.S_mono HO_465001.out (fun _ hk => ⟨hk.1, ⟨hk.2.1, ⟨hk.2.2.2.1, hk.2.2.2.2⟩⟩⟩)) : p := h
theorem ZZ355c03 {p : Prop} (h : p := by (try simp only [List.map_toArray, List.map_cons, List.map_nil]); first | done | (rw [show t478.length = t457.length from (Kd.R_reads' HO_465000.out).1.symm, show t479.length = t460.length from (Kd.S_reads' HO_465001.out).1.symm] <;> rfl) | rfl | (simp only [List.length_drop, List.length_take]; rfl)) : p := h
theorem ZZd8e1b6 {p : Prop} (h : p := by refine bR ?_; exact (Kd.R_mono (Kd.R_far (p := ⟨gb494, 1, none⟩) (Kd.R_far (p := ⟨gb494, 0, none⟩) (Kd.R_types HO489.out BK494.out (by decide)) (fun _ hk => hk.2) (.slice Ao135 t487.length co135)) (fun _ hk => hk.2) (.slice Ao141 t490.length co141)) (fun _ h_ => h_.1))) : p := h
theorem ZZ06d4f3 {p : Prop} (h : p := by refine bS ?_; exact (Kd.S_mono (Kd.S_far (p := ⟨gb494, 1, none⟩) (Kd.S_far (p := ⟨gb494, 0, none⟩) (Kd.S_types HO492.out BK494.out (by decide)) (fun _ hk => hk.2) (.slice Ao135 t487.length co135)) (fun _ hk => hk.2) (.slice Ao141 t490.length co141)) (fun _ h_ => h_.1))) : p := h
theorem ZZ219caa {p : Prop} (h : p := by refine bR ?_; exact (Kd.R_mono (Kd.R_far (p := ⟨gb494, 1, none⟩) (Kd.R_far (p := ⟨gb494, 0, none⟩) (Kd.R_types HO_450000.out BK494.out (by decide)) (fun _ hk => hk.2) (.slice Ao135 t487.length co135)) (fun _ hk => hk.2) (.slice Ao141 t490.length co141)) (fun _ h_ => h_.1))) : p := h
theorem ZZ73311a {p : Prop} (h : p := by refine bS ?_; exact (Kd.S_mono (Kd.S_far (p := ⟨gb494, 1, none⟩) (Kd.S_far (p := ⟨gb494, 0, none⟩) (Kd.S_types HO_450001.out BK494.out (by decide)) (fun _ hk => hk.2) (.slice Ao135 t487.length co135)) (fun _ hk => hk.2) (.slice Ao141 t490.length co141)) (fun _ h_ => h_.1))) : p := h
mutual
def laws_FnExactReverseEntry.j0 : Nat → Int → Int → Bool → Bool → Bool → List (S109) → List (S58) → List (S48) → List (S63) → List (S48) → List (S63) → List (S48) → List (S63) → Option (Bool)
 | 0, _, _, _, _, _, _, _, _, _, _, _, _, _ => none
 | k + 1, x1, x2, x9, x12, x48, x435000, x435001, x450000, x450001, x457000, x457001, x465000, x465001 => if x48 = true then (some false) else ((laws_toLedger.f k x435000 x435001).bind fun bt466 => ((laws_eqLedger.f k x457000 x457001 bt466.1 bt466.2).bind fun t472 => (if t472 = true then ((laws_markLedger.f k x457000 x457001 1).bind fun bt473 => (if bt473.1 < 0 then (laws_FnExactReverseEntry.j1 k x1 x2 x9 true x435000 x435001 x450000 x450001 x465000 x465001) else ((laws_eqLedger.f k x465000 x465001 x450000 x450001).bind fun t476 => (if t476 = true then (laws_FnExactReverseEntry.j1 k x1 x2 x9 (x12 != x9) x435000 x435001 x450000 x450001 x465000 x465001) else (laws_FnExactReverseEntry.j1 k x1 x2 x9 true x435000 x435001 x450000 x450001 x465000 x465001))))) else (some false))))
def laws_FnExactReverseEntry.j1 : Nat → Int → Int → Bool → Bool → List (S109) → List (S58) → List (S48) → List (S63) → List (S48) → List (S63) → Option (Bool)
 | 0, _, _, _, _, _, _, _, _, _, _ => none
 | k + 1, x1, x2, x9, x69, x435000, x435001, x450000, x450001, x465000, x465001 => if x69 = true then (some false) else ((laws_markLedger.f k x465000 x465001 1).bind fun bt477 => ((laws_heldLedger.f k bt477.2.1 bt477.2.2 1).bind fun t480 => (if t480 < 0 then (some false) else (if t480 = bt477.1 then ((laws_toLedger.f k x435000 x435001).bind fun bt481 => ((impl_ReverseEntry.f k bt481.1 bt481.2 x1 x2).bind fun bt487 => ((laws_eqLedger.f k bt487.1 bt487.2.1 x450000 x450001).bind fun t495 => (if t495 = true then (laws_FnExactReverseEntry.j2 k bt477.1 (bt487.2.2 != x9) bt477.2.1 bt477.2.2) else (laws_FnExactReverseEntry.j2 k bt477.1 true bt477.2.1 bt477.2.2))))) else (some false)))))
def laws_FnExactReverseEntry.j2 : Nat → Int → Bool → List (S48) → List (S63) → Option (Bool)
 | 0, _, _, _, _ => none
 | k + 1, x14, x97, x465000, x465001 => if x97 = true then (some false) else ((laws_heldLedger.f k x465000 x465001 1).bind fun t496 => (if t496 < 0 then (some false) else (if t496 = x14 then (some true) else (some false))))
end
def laws_FnExactReverseEntry.f (k : Nat) (l0_0 : List (S109)) (l0_1 : List (S58)) (a1 : Int) (a2 : Int) : Option (Bool) := (laws_szLedger.f k l0_0 l0_1 1048576).bind fun t435 => (if t435 < 0 then (some true) else ((laws_toLedger.f k l0_0 l0_1).bind fun bt436 => ((spec_ReverseEntry.f k bt436.1 bt436.2 a1 a2).bind fun bt442 => ((laws_toLedger.f k l0_0 l0_1).bind fun bt450 => ((impl_ReverseEntry.f k bt450.1 bt450.2 a1 a2).bind fun bt457 => ((laws_eqLedger.f k bt457.1 bt457.2.1 bt442.1 bt442.2.1).bind fun t465 => (if t465 = true then (laws_FnExactReverseEntry.j0 k a1 a2 bt442.2.2 bt457.2.2 (bt457.2.2 != bt442.2.2) l0_0 l0_1 bt442.1 bt442.2.1 bt450.1 bt450.2 bt457.1 bt457.2.1) else (laws_FnExactReverseEntry.j0 k a1 a2 bt442.2.2 bt457.2.2 true l0_0 l0_1 bt442.1 bt442.2.1 bt450.1 bt450.2 bt457.1 bt457.2.1))))))))
theorem laws_FnExactReverseEntry.mono_l : ∀ k, (∀ y0 y1 y2 y3 y4 y5 y6 y7 y8 y9 y10 y11 y12, LeO (laws_FnExactReverseEntry.j0 k y0 y1 y2 y3 y4 y5 y6 y7 y8 y9 y10 y11 y12) (laws_FnExactReverseEntry.j0 (k + 1) y0 y1 y2 y3 y4 y5 y6 y7 y8 y9 y10 y11 y12)) ∧ (∀ y0 y1 y2 y3 y4 y5 y6 y7 y8 y9, LeO (laws_FnExactReverseEntry.j1 k y0 y1 y2 y3 y4 y5 y6 y7 y8 y9) (laws_FnExactReverseEntry.j1 (k + 1) y0 y1 y2 y3 y4 y5 y6 y7 y8 y9)) ∧ (∀ y0 y1 y2 y3, LeO (laws_FnExactReverseEntry.j2 k y0 y1 y2 y3) (laws_FnExactReverseEntry.j2 (k + 1) y0 y1 y2 y3))
 | 0 => ⟨fun _ _ _ _ _ _ _ _ _ _ _ _ _ r h => by simp [laws_FnExactReverseEntry.j0] at h, fun _ _ _ _ _ _ _ _ _ _ r h => by simp [laws_FnExactReverseEntry.j1] at h, fun _ _ _ _ r h => by simp [laws_FnExactReverseEntry.j2] at h⟩
 | k + 1 => by
  obtain ⟨ih0, ih1, ih2⟩ := laws_FnExactReverseEntry.mono_l k
  refine ⟨?_, ?_, ?_⟩
  all_goals intros
  all_goals (first | unfold laws_FnExactReverseEntry.j0 | unfold laws_FnExactReverseEntry.j1 | unfold laws_FnExactReverseEntry.j2)
  all_goals
   repeat' with_reducible first | apply ih0 | apply ih1 | apply ih2 | apply impl_ReverseEntry.mono | apply laws_eqLedger.mono | apply laws_heldLedger.mono | apply laws_markLedger.mono | apply laws_szLedger.mono | apply laws_toLedger.mono | apply spec_ReverseEntry.mono | exact LeO.refl _ | exact LeO.none _ | refine LeO.ite ?_ ?_ | refine LeO.bind ?_ (fun _ => ?_)
theorem laws_FnExactReverseEntry.mono : ∀ a0 a1 a2 a3 k, LeO (laws_FnExactReverseEntry.f k a0 a1 a2 a3) (laws_FnExactReverseEntry.f (k + 1) a0 a1 a2 a3) := by
 intro a0 a1 a2 a3 k
 obtain ⟨ih0, ih1, ih2⟩ := laws_FnExactReverseEntry.mono_l k
 unfold laws_FnExactReverseEntry.f
 repeat' with_reducible first | apply ih0 | apply ih1 | apply ih2 | apply impl_ReverseEntry.mono | apply laws_eqLedger.mono | apply laws_heldLedger.mono | apply laws_markLedger.mono | apply laws_szLedger.mono | apply laws_toLedger.mono | apply spec_ReverseEntry.mono | exact LeO.refl _ | exact LeO.none _ | refine LeO.ite ?_ ?_ | refine LeO.bind ?_ (fun _ => ?_)
set_option maxHeartbeats 8000000 in
set_option maxRecDepth 100000 in
theorem laws_FnExactReverseEntry.calls (k : Nat) (A0_0 : Option Addr) (c0_0 : Nat) (l0_0 : List (S109)) (A0_1 : Option Addr) (c0_1 : Nat) (l0_1 : List (S58)) (a1 : Int) (a2 : Int) (r : Bool) (w : World) (hr0_0 : Kd.C k109 w A0_0 l0_0.length l0_0) (hc0_0 : l0_0.length ≤ c0_0) (hr0_1 : Kd.C k58 w A0_1 l0_1.length l0_1) (hc0_1 : l0_1.length ≤ c0_1) (hV : TInv w) (h : laws_FnExactReverseEntry.f k l0_0 l0_1 a1 a2 = some r) :
 Calls Tryd.prog 13 #[.agg #[.slice A0_0 l0_0.length c0_0, .slice A0_1 l0_1.length c0_1], .int .i64 a1, .int .i64 a2] w fun e w' => e = .returned (.bool r) ∧ Below w.heap.size w w' := by
 have hu25 := Tryd.underlying25
 have hu31 := Tryd.underlying31
 have HV := Aside0.mk hV
 clear hV
 have HR0_0 := Aside0.mk hr0_0
 have HC0_0 := Aside0.mk hc0_0
 clear hr0_0 hc0_0
 have HR0_1 := Aside0.mk hr0_1
 have HC0_1 := Aside0.mk hc0_1
 clear hr0_1 hc0_1
 have HB := Aside0.mk (Below.refl w.heap.size w)
 have H := h
 clear h
 unfold laws_FnExactReverseEntry.f at H
 obtain ⟨t435, A4, H⟩ := bdY H
 by_cases c5 : t435 < 0
 ·rw [if_pos c5] at H
  have c5b0 := decide_eq_true c5
  clear c5
  obtain rfl := Option.some.inj H
  go_enter Tryd.func13, Tryd.ntmps13
  go_wp2_with (first | ((with_reducible refine gate_dst (N := 3) rfl ?_); refine bx 3 (cs := #[.slice A0_0 l0_0.length c0_0, .slice A0_1 l0_1.length c0_1]) (t := 25) ?_; intro gb434 hg w6 hbox hb; have BK434 := Aside0.mk (hbox); have GW434 := gw hg; have GE434 := gw hg; replace HB := hB hb; clear hb hbox hg; obtain ⟨hcz7_0, hcz7_1, hfz7_0, hfz7_1⟩ := z2 BK434) | (refine gc 20 Tryd.func14 #[.agg #[.slice A0_0 l0_0.length c0_0, .slice A0_1 l0_1.length c0_1], .int .i64 1048576] ?_; (with_reducible refine (laws_szLedger.calls k _ _ l0_0 _ _ l0_1 1048576 t435 _ ?side1 ?side2 ?side3 ?side4 A4.out).mono ?_); (case side1 => exact (rC (Kd.C_below HR0_0.out HB.out))); (case side2 => exact HC0_0.out); (case side3 => exact (rC (Kd.C_below HR0_1.out HB.out))); (case side4 => exact HC0_1.out); rintro e w8 ⟨rfl, hb⟩; refine ⟨_, rfl, ?_⟩; replace BK434 := kb BK434 hb; replace HB := hB hb; (try clear hb); (try clear hb2); (try clear hk); (try clear hi)))
  go_ret
  exact ⟨ZZab01d2, ZZ295621⟩
 rw [if_neg c5] at H
 have c5b0 := decide_eq_false c5
 clear c5
 obtain ⟨⟨t436, t439⟩, A9, H⟩ := bdY H
 try dsimp only at H
 obtain ⟨⟨t442, t445, t448⟩, A10, H⟩ := bdY H
 try dsimp only at H
 obtain ⟨⟨t450, t453⟩, A11, H⟩ := bdY H
 try dsimp only at H
 obtain ⟨⟨t457, t460, t463⟩, A12, H⟩ := bdY H
 try dsimp only at H
 have HC13 := Aside0.mk H
 clear H
 go_enter Tryd.func13, Tryd.ntmps13
 go_upto_region 8 with (first | ((with_reducible refine gate_dst (N := 3) rfl ?_); refine bx 3 (cs := #[.slice A0_0 l0_0.length c0_0, .slice A0_1 l0_1.length c0_1]) (t := 25) ?_; intro gb434 hg w14 hbox hb; have BK434 := Aside0.mk (hbox); have GW434 := gw hg; have GE434 := gw hg; replace HB := hB hb; clear hb hbox hg; obtain ⟨hcz15_0, hcz15_1, hfz15_0, hfz15_1⟩ := z2 BK434) | (refine gc 20 Tryd.func14 #[.agg #[.slice A0_0 l0_0.length c0_0, .slice A0_1 l0_1.length c0_1], .int .i64 1048576] ?_; (with_reducible refine (laws_szLedger.calls k _ _ l0_0 _ _ l0_1 1048576 t435 _ ?side1 ?side2 ?side3 ?side4 A4.out).mono ?_); (case side1 => exact (rC (Kd.C_below HR0_0.out HB.out))); (case side2 => exact HC0_0.out); (case side3 => exact (rC (Kd.C_below HR0_1.out HB.out))); (case side4 => exact HC0_1.out); rintro e w16 ⟨rfl, hb⟩; refine ⟨_, rfl, ?_⟩; replace BK434 := kb BK434 hb; replace HB := hB hb; (try clear hb); (try clear hb2); (try clear hk); (try clear hi); obtain ⟨hcz17_0, hcz17_1, hfz17_0, hfz17_1⟩ := z2 BK434) | (refine gc 25 Tryd.func16 #[.agg #[.slice A0_0 l0_0.length c0_0, .slice A0_1 l0_1.length c0_1]] ?_; (with_reducible refine (laws_toLedger.calls k _ _ l0_0 _ _ l0_1 t436 t439 _ ?side1 ?side2 ?side3 ?side4 A9.out).mono ?_); (case side1 => exact (rC (Kd.C_below HR0_0.out HB.out))); (case side2 => exact HC0_0.out); (case side3 => exact (rC (Kd.C_below HR0_1.out HB.out))); (case side4 => exact HC0_1.out); rintro e w18 ⟨v437, v440, rfl, ho0, ho1, hb⟩; refine ⟨_, rfl, ?_⟩; obtain ⟨ga19, hga19⟩ := Kd.age hb; have HO438 := Aside0.mk (Kd.R_lower ho0 (below_size ZZ295621)); have HO441 := Aside0.mk (Kd.S_lower (Kd.S_agen ho1 hga19) (below_size ZZ295621)); replace BK434 := kb BK434 hb; replace HB := hB hb; (try clear hb); (try clear hb2); (try clear hk); (try clear hi); (try clear ho0); (try clear ho1); obtain ⟨Ao20, co20, eo20⟩ := Kd.R_slice HO438.out; subst eo20; obtain ⟨Ao21, co21, eo21⟩ := Kd.S_slice HO441.out; subst eo21) | (refine gc 28 Tryd.func44 #[.agg #[.slice Ao20 t436.length co20, .slice Ao21 t439.length co21], .int .i64 a1, .int .i64 a2] ?_; (with_reducible refine (spec_ReverseEntry.calls k _ _ t436 _ _ t439 a1 a2 t442 t445 t448 _ ?side1 ?side2 ?side3 ?side4 A10.out).mono ?_); (case side1 => exact rC (Kd.R_reads' HO438.out).2.2); (case side2 => exact (Kd.R_reads' HO438.out).2.1); (case side3 => exact rC (Kd.S_reads' HO441.out).2.2); (case side4 => exact (Kd.S_reads' HO441.out).2.1); rintro e w22 ⟨v443, v446, rfl, ho0, ho1, hb⟩; refine ⟨_, rfl, ?_⟩; obtain ⟨ga23, hga23⟩ := Kd.age hb; have HO444 := Aside0.mk (Kd.R_lower (Kd.R_new' ho0 (Kd.R_lt (zR HO438))) (below_size ZZ295621)); replace HO438 := Aside0.mk (Kd.R_elder' (zR HO438) (Kd.R_base ho0) hb); have HO447 := Aside0.mk (Kd.S_lower (Kd.S_agen (Kd.S_new' ho1 (Kd.S_lt (zS HO441))) hga23) (below_size ZZ295621)); replace HO441 := Aside0.mk (Kd.S_elder' (Kd.S_ageo (zS HO441) hga23) (Kd.S_base ho1) hb); replace BK434 := kb BK434 hb; replace HB := hB hb; (try clear hb); (try clear hb2); (try clear hk); (try clear hi); (try clear ho0); (try clear ho1)) | ((with_reducible refine gate_dst (N := 8) rfl ?_); refine bx 8 (cs := #[.slice none 0 0, .slice none 0 0]) (t := 31) ?_; intro gb449 hg w24 hbox hb; replace HO438 := Aside0.mk (Kd.R_below (zR HO438) hb); replace HO441 := Aside0.mk (Kd.S_below (zS HO441) hb); replace HO444 := Aside0.mk (Kd.R_below (zR HO444) hb); replace HO447 := Aside0.mk (Kd.S_below (zS HO447) hb); have BK449 := Aside0.mk (hbox); have GW449 := gw hg; have GE449 := gw hg; replace HB := hB hb; have NB434_449 := nl hg BK434; have NB449_434 := ng hg BK434; replace BK434 := kb BK434 hb; clear hb hbox hg; obtain ⟨Ao25, co25, eo25⟩ := Kd.R_slice HO444.out; subst eo25; have hnb26 := NB449_434.out; have hnc26 := NB434_449.out; obtain ⟨hcz27_0, hcz27_1, hfz27_0, hfz27_1⟩ := z2 BK449; obtain ⟨Ao28, co28, eo28⟩ := Kd.S_slice HO447.out; subst eo28; obtain ⟨hcz29_0, hcz29_1, hfz29_0, hfz29_1⟩ := z2 BK434) | (refine gc 32 Tryd.func16 #[.agg #[.slice A0_0 l0_0.length c0_0, .slice A0_1 l0_1.length c0_1]] ?_; (with_reducible refine (laws_toLedger.calls k _ _ l0_0 _ _ l0_1 t450 t453 _ ?side1 ?side2 ?side3 ?side4 A11.out).mono ?_); (case side1 => exact Kd.C_below HR0_0.out ZZ295621); (case side2 => exact HC0_0.out); (case side3 => exact Kd.C_below HR0_1.out ZZ295621); (case side4 => exact HC0_1.out); rintro e w30 ⟨v451, v454, rfl, ho0, ho1, hb⟩; refine ⟨_, rfl, ?_⟩; obtain ⟨ga31, hga31⟩ := Kd.age hb; have HO452 := Aside0.mk (Kd.R_lower (Kd.R_new' (Kd.R_new' ho0 (Kd.R_lt (by refine bR ?_; exact (Kd.R_mono (Kd.R_far (p := ⟨gb449, 1, none⟩) (Kd.R_far (p := ⟨gb449, 0, none⟩) (Kd.R_types HO438.out BK449.out (by decide)) (fun _ hk => hk.2) (.slice Ao25 t442.length co25)) (fun _ hk => hk.2) (.slice Ao28 t445.length co28)) (fun _ h_ => h_.1))))) (Kd.R_lt (by refine bR ?_; exact (Kd.R_mono (Kd.R_far (p := ⟨gb449, 1, none⟩) (Kd.R_far (p := ⟨gb449, 0, none⟩) (Kd.R_types HO444.out BK449.out (by decide)) (fun _ hk => hk.2) (.slice Ao25 t442.length co25)) (fun _ hk => hk.2) (.slice Ao28 t445.length co28)) (fun _ h_ => h_.1))))) (below_size ZZ295621)); replace HO438 := Aside0.mk (Kd.R_elder' (by refine bR ?_; exact (Kd.R_mono (Kd.R_far (p := ⟨gb449, 1, none⟩) (Kd.R_far (p := ⟨gb449, 0, none⟩) (Kd.R_types HO438.out BK449.out (by decide)) (fun _ hk => hk.2) (.slice Ao25 t442.length co25)) (fun _ hk => hk.2) (.slice Ao28 t445.length co28)) (fun _ h_ => h_.1))) (Kd.R_base ho0) hb); replace HO444 := Aside0.mk (Kd.R_elder' (by refine bR ?_; exact (Kd.R_mono (Kd.R_far (p := ⟨gb449, 1, none⟩) (Kd.R_far (p := ⟨gb449, 0, none⟩) (Kd.R_types HO444.out BK449.out (by decide)) (fun _ hk => hk.2) (.slice Ao25 t442.length co25)) (fun _ hk => hk.2) (.slice Ao28 t445.length co28)) (fun _ h_ => h_.1))) (Kd.R_base ho0) hb); have HO455 := Aside0.mk (Kd.S_lower (Kd.S_agen (Kd.S_new' (Kd.S_new' ho1 (Kd.S_lt (by refine bS ?_; exact (Kd.S_mono (Kd.S_far (p := ⟨gb449, 1, none⟩) (Kd.S_far (p := ⟨gb449, 0, none⟩) (Kd.S_types HO441.out BK449.out (by decide)) (fun _ hk => hk.2) (.slice Ao25 t442.length co25)) (fun _ hk => hk.2) (.slice Ao28 t445.length co28)) (fun _ h_ => h_.1))))) (Kd.S_lt (by refine bS ?_; exact (Kd.S_mono (Kd.S_far (p := ⟨gb449, 1, none⟩) (Kd.S_far (p := ⟨gb449, 0, none⟩) (Kd.S_types HO447.out BK449.out (by decide)) (fun _ hk => hk.2) (.slice Ao25 t442.length co25)) (fun _ hk => hk.2) (.slice Ao28 t445.length co28)) (fun _ h_ => h_.1))))) hga31) (below_size ZZ295621)); replace HO441 := Aside0.mk (Kd.S_elder' (Kd.S_ageo (by refine bS ?_; exact (Kd.S_mono (Kd.S_far (p := ⟨gb449, 1, none⟩) (Kd.S_far (p := ⟨gb449, 0, none⟩) (Kd.S_types HO441.out BK449.out (by decide)) (fun _ hk => hk.2) (.slice Ao25 t442.length co25)) (fun _ hk => hk.2) (.slice Ao28 t445.length co28)) (fun _ h_ => h_.1))) hga31) (Kd.S_base ho1) hb); replace HO447 := Aside0.mk (Kd.S_elder' (Kd.S_ageo (by refine bS ?_; exact (Kd.S_mono (Kd.S_far (p := ⟨gb449, 1, none⟩) (Kd.S_far (p := ⟨gb449, 0, none⟩) (Kd.S_types HO447.out BK449.out (by decide)) (fun _ hk => hk.2) (.slice Ao25 t442.length co25)) (fun _ hk => hk.2) (.slice Ao28 t445.length co28)) (fun _ h_ => h_.1))) hga31) (Kd.S_base ho1) hb); replace BK434 := Aside0.mk (blk_below (g := gb434) (o := .cells #[.slice A0_0 l0_0.length c0_0, .slice A0_1 l0_1.length c0_1] 25 (0, 0)) (by refine bd ?_; refine blk_far ?_ NB434_449.out _; refine bd ?_; refine blk_far ?_ NB434_449.out _; refine bd ?_; exact BK434.out) hb); replace BK449 := Aside0.mk (blk_below (g := gb449) (o := .cells #[.slice Ao25 t442.length co25, .slice Ao28 t445.length co28] 31 (0, 0)) (by refine bd ?_; refine blk_put (cs := #[.slice Ao25 t442.length co25, .slice none 0 0]) ?_ 1 _ rfl; refine bd ?_; refine blk_put (cs := #[.slice none 0 0, .slice none 0 0]) ?_ 0 _ rfl; refine bd ?_; exact BK449.out) hb); replace HB := hB hb; (try clear hb); (try clear hb2); (try clear hk); (try clear hi); (try clear ho0); (try clear ho1)) | ((with_reducible refine gate_dst (N := 10) rfl ?_); refine bx 10 (cs := #[.slice none 0 0, .slice none 0 0]) (t := 31) ?_; intro gb456 hg w32 hbox hb; replace HO438 := Aside0.mk (Kd.R_below (zR HO438) hb); replace HO441 := Aside0.mk (Kd.S_below (zS HO441) hb); replace HO444 := Aside0.mk (Kd.R_below (zR HO444) hb); replace HO447 := Aside0.mk (Kd.S_below (zS HO447) hb); replace HO452 := Aside0.mk (Kd.R_below (zR HO452) hb); replace HO455 := Aside0.mk (Kd.S_below (zS HO455) hb); have BK456 := Aside0.mk (hbox); have GW456 := gw hg; have GE456 := gw hg; replace HB := hB hb; have NB434_456 := nl hg BK434; have NB456_434 := ng hg BK434; replace BK434 := kb BK434 hb; have NB449_456 := nl hg BK449; have NB456_449 := ng hg BK449; replace BK449 := kb BK449 hb; clear hb hbox hg; obtain ⟨Ao33, co33, eo33⟩ := Kd.R_slice HO452.out; subst eo33; have hnb34 := NB456_434.out; have hnc34 := NB434_456.out; have hnb35 := NB456_449.out; have hnc35 := NB449_456.out; obtain ⟨hcz36_0, hcz36_1, hfz36_0, hfz36_1⟩ := z2 BK456; obtain ⟨Ao37, co37, eo37⟩ := Kd.S_slice HO455.out; subst eo37) | (refine gc 37 Tryd.func43 #[.agg #[.slice Ao33 t450.length co33, .slice Ao37 t453.length co37], .int .i64 a1, .int .i64 a2] ?_; (with_reducible refine (impl_ReverseEntry.calls k _ _ t450 _ _ t453 a1 a2 t457 t460 t463 _ ?side1 ?side2 ?side3 ?side4 ?side5 A12.out).mono ?_); (case side1 => exact (Kd.R_reads' (e := 48) (base := w.heap.size) (n := t450.length) (c := co33) ZZb8d155).2.2); (case side2 => exact (Kd.R_reads' HO452.out).2.1); (case side3 => exact (Kd.S_reads' (e := 63) (base := w.heap.size) (n := t453.length) (c := co37) ZZ497161).2.2); (case side4 => exact (Kd.S_reads' HO455.out).2.1); (case side5 => first | (with_reducible exact HV.out) | exact TInv.below HV.out ZZ295621); rintro e w38 ⟨v458, v461, rfl, ho0, ho1, hb⟩; refine ⟨_, rfl, ?_⟩; obtain ⟨ga39, hga39⟩ := Kd.age hb; have HO459 := Aside0.mk (Kd.R_lower (Kd.R_new' (Kd.R_new' (Kd.R_new' ho0 (Kd.R_lt (by refine bR ?_; exact (Kd.R_mono (Kd.R_far (p := ⟨gb456, 1, none⟩) (Kd.R_far (p := ⟨gb456, 0, none⟩) (Kd.R_types HO438.out BK456.out (by decide)) (fun _ hk => hk.2) (.slice Ao33 t450.length co33)) (fun _ hk => hk.2) (.slice Ao37 t453.length co37)) (fun _ h_ => h_.1))))) (Kd.R_lt (by refine bR ?_; exact (Kd.R_mono (Kd.R_far (p := ⟨gb456, 1, none⟩) (Kd.R_far (p := ⟨gb456, 0, none⟩) (Kd.R_types HO444.out BK456.out (by decide)) (fun _ hk => hk.2) (.slice Ao33 t450.length co33)) (fun _ hk => hk.2) (.slice Ao37 t453.length co37)) (fun _ h_ => h_.1))))) (Kd.R_lt ZZb8d155)) (below_size ZZ295621)); replace HO438 := Aside0.mk (Kd.R_elder' (by refine bR ?_; exact (Kd.R_mono (Kd.R_far (p := ⟨gb456, 1, none⟩) (Kd.R_far (p := ⟨gb456, 0, none⟩) (Kd.R_types HO438.out BK456.out (by decide)) (fun _ hk => hk.2) (.slice Ao33 t450.length co33)) (fun _ hk => hk.2) (.slice Ao37 t453.length co37)) (fun _ h_ => h_.1))) (Kd.R_base ho0) hb); replace HO444 := Aside0.mk (Kd.R_elder' (by refine bR ?_; exact (Kd.R_mono (Kd.R_far (p := ⟨gb456, 1, none⟩) (Kd.R_far (p := ⟨gb456, 0, none⟩) (Kd.R_types HO444.out BK456.out (by decide)) (fun _ hk => hk.2) (.slice Ao33 t450.length co33)) (fun _ hk => hk.2) (.slice Ao37 t453.length co37)) (fun _ h_ => h_.1))) (Kd.R_base ho0) hb); replace HO452 := Aside0.mk (Kd.R_elder' ZZb8d155 (Kd.R_base ho0) hb); have HO462 := Aside0.mk (Kd.S_lower (Kd.S_agen (Kd.S_new' (Kd.S_new' (Kd.S_new' ho1 (Kd.S_lt (by refine bS ?_; exact (Kd.S_mono (Kd.S_far (p := ⟨gb456, 1, none⟩) (Kd.S_far (p := ⟨gb456, 0, none⟩) (Kd.S_types HO441.out BK456.out (by decide)) (fun _ hk => hk.2) (.slice Ao33 t450.length co33)) (fun _ hk => hk.2) (.slice Ao37 t453.length co37)) (fun _ h_ => h_.1))))) (Kd.S_lt (by refine bS ?_; exact (Kd.S_mono (Kd.S_far (p := ⟨gb456, 1, none⟩) (Kd.S_far (p := ⟨gb456, 0, none⟩) (Kd.S_types HO447.out BK456.out (by decide)) (fun _ hk => hk.2) (.slice Ao33 t450.length co33)) (fun _ hk => hk.2) (.slice Ao37 t453.length co37)) (fun _ h_ => h_.1))))) (Kd.S_lt ZZ497161)) hga39) (below_size ZZ295621)); replace HO441 := Aside0.mk (Kd.S_elder' (Kd.S_ageo (by refine bS ?_; exact (Kd.S_mono (Kd.S_far (p := ⟨gb456, 1, none⟩) (Kd.S_far (p := ⟨gb456, 0, none⟩) (Kd.S_types HO441.out BK456.out (by decide)) (fun _ hk => hk.2) (.slice Ao33 t450.length co33)) (fun _ hk => hk.2) (.slice Ao37 t453.length co37)) (fun _ h_ => h_.1))) hga39) (Kd.S_base ho1) hb); replace HO447 := Aside0.mk (Kd.S_elder' (Kd.S_ageo (by refine bS ?_; exact (Kd.S_mono (Kd.S_far (p := ⟨gb456, 1, none⟩) (Kd.S_far (p := ⟨gb456, 0, none⟩) (Kd.S_types HO447.out BK456.out (by decide)) (fun _ hk => hk.2) (.slice Ao33 t450.length co33)) (fun _ hk => hk.2) (.slice Ao37 t453.length co37)) (fun _ h_ => h_.1))) hga39) (Kd.S_base ho1) hb); replace HO455 := Aside0.mk (Kd.S_elder' (Kd.S_ageo ZZ497161 hga39) (Kd.S_base ho1) hb); replace BK434 := Aside0.mk (blk_below (g := gb434) (o := .cells #[.slice A0_0 l0_0.length c0_0, .slice A0_1 l0_1.length c0_1] 25 (0, 0)) (by refine bd ?_; refine blk_far ?_ NB434_456.out _; refine bd ?_; refine blk_far ?_ NB434_456.out _; refine bd ?_; exact BK434.out) hb); replace BK449 := Aside0.mk (blk_below (g := gb449) (o := .cells #[.slice Ao25 t442.length co25, .slice Ao28 t445.length co28] 31 (0, 0)) (by refine bd ?_; refine blk_far ?_ NB449_456.out _; refine bd ?_; refine blk_far ?_ NB449_456.out _; refine bd ?_; exact BK449.out) hb); replace BK456 := Aside0.mk (blk_below (g := gb456) (o := .cells #[.slice Ao33 t450.length co33, .slice Ao37 t453.length co37] 31 (0, 0)) (by refine bd ?_; refine blk_put (cs := #[.slice Ao33 t450.length co33, .slice none 0 0]) ?_ 1 _ rfl; refine bd ?_; refine blk_put (cs := #[.slice none 0 0, .slice none 0 0]) ?_ 0 _ rfl; refine bd ?_; exact BK456.out) hb); replace HB := hB hb; (try clear hb); (try clear hb2); (try clear hk); (try clear hi); (try clear ho0); (try clear ho1)) | ((with_reducible refine gate_dst (N := 11) rfl ?_); refine bx 11 (cs := #[.slice none 0 0, .slice none 0 0]) (t := 31) ?_; intro gb464 hg w40 hbox hb; replace HO438 := Aside0.mk (Kd.R_below (zR HO438) hb); replace HO441 := Aside0.mk (Kd.S_below (zS HO441) hb); replace HO444 := Aside0.mk (Kd.R_below (zR HO444) hb); replace HO447 := Aside0.mk (Kd.S_below (zS HO447) hb); replace HO452 := Aside0.mk (Kd.R_below (zR HO452) hb); replace HO455 := Aside0.mk (Kd.S_below (zS HO455) hb); replace HO459 := Aside0.mk (Kd.R_below (zR HO459) hb); replace HO462 := Aside0.mk (Kd.S_below (zS HO462) hb); have BK464 := Aside0.mk (hbox); have GW464 := gw hg; have GE464 := gw hg; replace HB := hB hb; have NB434_464 := nl hg BK434; have NB464_434 := ng hg BK434; replace BK434 := kb BK434 hb; have NB449_464 := nl hg BK449; have NB464_449 := ng hg BK449; replace BK449 := kb BK449 hb; have NB456_464 := nl hg BK456; have NB464_456 := ng hg BK456; replace BK456 := kb BK456 hb; clear hb hbox hg; obtain ⟨Ao41, co41, eo41⟩ := Kd.R_slice HO459.out; subst eo41; have hnb42 := NB464_434.out; have hnc42 := NB434_464.out; have hnb43 := NB464_449.out; have hnc43 := NB449_464.out; have hnb44 := NB464_456.out; have hnc44 := NB456_464.out; obtain ⟨hcz45_0, hcz45_1, hfz45_0, hfz45_1⟩ := z2 BK464; obtain ⟨Ao46, co46, eo46⟩ := Kd.S_slice HO462.out; subst eo46))
 (try simp only [Act.put, List.setIfInBounds_toArray, List.set_cons_zero, List.set_cons_succ])
 go_cut [48] (fun v48 wc => ∃ (kq : Nat) (x48_12 : Bool), v48 = .bool x48_12 ∧ Aside0 (laws_FnExactReverseEntry.j0 kq a1 a2 t448 t463 x48_12 l0_0 l0_1 t442 t445 t450 t453 t457 t460 = some r) ∧ Aside0 (kq ≤ k) ∧ Aside0 (Kd.R k48 48 wc w.heap.size (fun k_ => some k_ ≠ ((.slice Ao33 t450.length co33) : Value).ownBlock ∧ some k_ ≠ ((.slice Ao41 t457.length co41) : Value).ownBlock) (.slice Ao25 t442.length co25) t442) ∧ Aside0 (Kd.S k63 63 wc w.heap.size (fun k_ => some k_ ≠ ((.slice Ao37 t453.length co37) : Value).ownBlock ∧ some k_ ≠ ((.slice Ao46 t460.length co46) : Value).ownBlock ∧ ga23 ≤ k_ ∧ k_ < ga31 ∧ k_ < ga39) (.slice Ao28 t445.length co28) t445) ∧ Aside0 (Kd.R k48 48 wc w.heap.size (fun k_ => some k_ ≠ ((.slice Ao25 t442.length co25) : Value).ownBlock ∧ some k_ ≠ ((.slice Ao41 t457.length co41) : Value).ownBlock) (.slice Ao33 t450.length co33) t450) ∧ Aside0 (Kd.S k63 63 wc w.heap.size (fun k_ => some k_ ≠ ((.slice Ao28 t445.length co28) : Value).ownBlock ∧ some k_ ≠ ((.slice Ao46 t460.length co46) : Value).ownBlock ∧ ga31 ≤ k_ ∧ k_ < ga39) (.slice Ao37 t453.length co37) t453) ∧ Aside0 (Kd.R k48 48 wc w.heap.size (fun k_ => some k_ ≠ ((.slice Ao25 t442.length co25) : Value).ownBlock ∧ some k_ ≠ ((.slice Ao33 t450.length co33) : Value).ownBlock) (.slice Ao41 t457.length co41) t457) ∧ Aside0 (Kd.S k63 63 wc w.heap.size (fun k_ => some k_ ≠ ((.slice Ao28 t445.length co28) : Value).ownBlock ∧ some k_ ≠ ((.slice Ao37 t453.length co37) : Value).ownBlock ∧ ga39 ≤ k_) (.slice Ao46 t460.length co46) t460) ∧ Aside0 (wc.heap[gb434]? = some (.cells #[(.slice A0_0 l0_0.length c0_0), (.slice A0_1 l0_1.length c0_1)] 25 (0, 0))) ∧ Aside0 (wc.heap[gb449]? = some (.cells #[(.slice Ao25 t442.length co25), (.slice Ao28 t445.length co28)] 31 (0, 0))) ∧ Aside0 (wc.heap[gb456]? = some (.cells #[(.slice Ao33 t450.length co33), (.slice Ao37 t453.length co37)] 31 (0, 0))) ∧ Aside0 (wc.heap[gb464]? = some (.cells #[(.slice Ao41 t457.length co41), (.slice Ao46 t460.length co46)] 31 (0, 0))) ∧ Aside0 (Below w.heap.size w wc))
 case first =>
  have H := HC13.out
  clear HC13
  obtain ⟨t465, A47, H⟩ := bdY H
  have hnb49 := NB464_434.out
  have hnc49 := NB434_464.out
  have hnb50 := NB464_449.out
  have hnc50 := NB449_464.out
  have hnb51 := NB464_456.out
  have hnc51 := NB456_464.out
  obtain ⟨hcz52_0, hcz52_1, hfz52_0, hfz52_1⟩ := z2 BK464
  have hnb53 := NB449_434.out
  have hnc53 := NB434_449.out
  have hnb54 := NB449_456.out
  have hnc54 := NB456_449.out
  obtain ⟨hcz55_0, hcz55_1, hfz55_0, hfz55_1⟩ := z2 BK449
  by_cases c48 : t465 = true
  ·subst c48
   replace H := ifT H
   replace H := Aside0.mk H
   go_wp2_with (first | (refine gc 42 Tryd.func18 #[.agg #[.slice Ao41 t457.length co41, .slice Ao46 t460.length co46], .agg #[.slice Ao25 t442.length co25, .slice Ao28 t445.length co28]] ?_; (with_reducible refine (laws_eqLedger.calls k _ _ t457 _ _ t460 _ _ t442 _ _ t445 true _ ?side1 ?side2 ?side3 ?side4 ?side5 ?side6 ?side7 ?side8 A47.out).mono ?_); (case side1 => exact (Kd.R_reads' (e := 48) (base := w.heap.size) (n := t457.length) (c := co41) ZZd9d620).2.2); (case side2 => exact (Kd.R_reads' HO459.out).2.1); (case side3 => exact (Kd.S_reads' (e := 63) (base := w.heap.size) (n := t460.length) (c := co46) ZZ3b07a5).2.2); (case side4 => exact (Kd.S_reads' HO462.out).2.1); (case side5 => exact (Kd.R_reads' (e := 48) (base := w.heap.size) (n := t442.length) (c := co25) ZZ8b7642).2.2); (case side6 => exact (Kd.R_reads' HO444.out).2.1); (case side7 => exact (Kd.S_reads' (e := 63) (base := w.heap.size) (n := t445.length) (c := co28) ZZf68d4a).2.2); (case side8 => exact (Kd.S_reads' HO447.out).2.1); rintro e w56 ⟨rfl, hb⟩; refine ⟨_, rfl, ?_⟩; replace HO438 := Aside0.mk (Kd.R_below (by refine bR ?_; exact (Kd.R_mono (Kd.R_far (p := ⟨gb464, 1, none⟩) (Kd.R_far (p := ⟨gb464, 0, none⟩) (Kd.R_types HO438.out BK464.out (by decide)) (fun _ hk => hk.2) (.slice Ao41 t457.length co41)) (fun _ hk => hk.2) (.slice Ao46 t460.length co46)) (fun _ h_ => h_.1))) hb); replace HO441 := Aside0.mk (Kd.S_below (by refine bS ?_; exact (Kd.S_mono (Kd.S_far (p := ⟨gb464, 1, none⟩) (Kd.S_far (p := ⟨gb464, 0, none⟩) (Kd.S_types HO441.out BK464.out (by decide)) (fun _ hk => hk.2) (.slice Ao41 t457.length co41)) (fun _ hk => hk.2) (.slice Ao46 t460.length co46)) (fun _ h_ => h_.1))) hb); replace HO444 := Aside0.mk (Kd.R_below ZZ8b7642 hb); replace HO447 := Aside0.mk (Kd.S_below ZZf68d4a hb); replace HO452 := Aside0.mk (Kd.R_below (by refine bR ?_; exact (Kd.R_mono (Kd.R_far (p := ⟨gb464, 1, none⟩) (Kd.R_far (p := ⟨gb464, 0, none⟩) (Kd.R_types HO452.out BK464.out (by decide)) (fun _ hk => hk.2) (.slice Ao41 t457.length co41)) (fun _ hk => hk.2) (.slice Ao46 t460.length co46)) (fun _ h_ => h_.1))) hb); replace HO455 := Aside0.mk (Kd.S_below (by refine bS ?_; exact (Kd.S_mono (Kd.S_far (p := ⟨gb464, 1, none⟩) (Kd.S_far (p := ⟨gb464, 0, none⟩) (Kd.S_types HO455.out BK464.out (by decide)) (fun _ hk => hk.2) (.slice Ao41 t457.length co41)) (fun _ hk => hk.2) (.slice Ao46 t460.length co46)) (fun _ h_ => h_.1))) hb); replace HO459 := Aside0.mk (Kd.R_below ZZd9d620 hb); replace HO462 := Aside0.mk (Kd.S_below ZZ3b07a5 hb); replace BK434 := Aside0.mk (blk_below (g := gb434) (o := .cells #[.slice A0_0 l0_0.length c0_0, .slice A0_1 l0_1.length c0_1] 25 (0, 0)) (by refine bd ?_; refine blk_far ?_ NB434_464.out _; refine bd ?_; refine blk_far ?_ NB434_464.out _; refine bd ?_; exact BK434.out) hb); replace BK449 := Aside0.mk (blk_below (g := gb449) (o := .cells #[.slice Ao25 t442.length co25, .slice Ao28 t445.length co28] 31 (0, 0)) (by refine bd ?_; refine blk_far ?_ NB449_464.out _; refine bd ?_; refine blk_far ?_ NB449_464.out _; refine bd ?_; exact BK449.out) hb); replace BK456 := Aside0.mk (blk_below (g := gb456) (o := .cells #[.slice Ao33 t450.length co33, .slice Ao37 t453.length co37] 31 (0, 0)) (by refine bd ?_; refine blk_far ?_ NB456_464.out _; refine bd ?_; refine blk_far ?_ NB456_464.out _; refine bd ?_; exact BK456.out) hb); replace BK464 := Aside0.mk (blk_below (g := gb464) (o := .cells #[.slice Ao41 t457.length co41, .slice Ao46 t460.length co46] 31 (0, 0)) (by refine bd ?_; refine blk_put (cs := #[.slice Ao41 t457.length co41, .slice none 0 0]) ?_ 1 _ rfl; refine bd ?_; refine blk_put (cs := #[.slice none 0 0, .slice none 0 0]) ?_ 0 _ rfl; refine bd ?_; exact BK464.out) hb); replace HB := hB hb; (try clear hb); (try clear hb2); (try clear hk); (try clear hi)))
   go_meet
   case rel => exact ⟨_, ((t463 != t448)), ZZ0ab324, H, kle, ⟨(by refine bR ?_; exact Kd.R_mono HO444.out (fun _ hk => ⟨hk.1.2, hk.2⟩))⟩, ⟨(by refine bS ?_; exact Kd.S_mono HO447.out (fun _ hk => ⟨hk.1.1.2, ⟨hk.2, ⟨hk.1.1.1.1.2, ⟨hk.1.1.1.2, hk.1.2⟩⟩⟩⟩))⟩, ⟨(by refine bR ?_; exact Kd.R_mono HO452.out (fun _ hk => ⟨hk.1.2, hk.2⟩))⟩, ⟨(by refine bS ?_; exact Kd.S_mono HO455.out (fun _ hk => ⟨hk.1.1.1.2, ⟨hk.2, ⟨hk.1.1.2, hk.1.2⟩⟩⟩))⟩, ⟨(by refine bR ?_; exact Kd.R_mono HO459.out (fun _ hk => ⟨hk.1.2, hk.2⟩))⟩, ⟨(by refine bS ?_; exact Kd.S_mono HO462.out (fun _ hk => ⟨hk.1.1.2, ⟨hk.1.2, hk.2⟩⟩))⟩, ⟨(zB BK434)⟩, ⟨(zB BK449)⟩, ⟨(zB BK456)⟩, ⟨(zB BK464)⟩, ⟨ZZ295621⟩⟩
  replace c48 := Bool.eq_false_iff.mpr c48
  subst c48
  replace H := ifF H
  replace H := Aside0.mk H
  go_wp2_with (first | (refine gc 42 Tryd.func18 #[.agg #[.slice Ao41 t457.length co41, .slice Ao46 t460.length co46], .agg #[.slice Ao25 t442.length co25, .slice Ao28 t445.length co28]] ?_; (with_reducible refine (laws_eqLedger.calls k _ _ t457 _ _ t460 _ _ t442 _ _ t445 false _ ?side1 ?side2 ?side3 ?side4 ?side5 ?side6 ?side7 ?side8 A47.out).mono ?_); (case side1 => exact (Kd.R_reads' (e := 48) (base := w.heap.size) (n := t457.length) (c := co41) ZZd9d620).2.2); (case side2 => exact (Kd.R_reads' HO459.out).2.1); (case side3 => exact (Kd.S_reads' (e := 63) (base := w.heap.size) (n := t460.length) (c := co46) ZZ3b07a5).2.2); (case side4 => exact (Kd.S_reads' HO462.out).2.1); (case side5 => exact (Kd.R_reads' (e := 48) (base := w.heap.size) (n := t442.length) (c := co25) ZZ8b7642).2.2); (case side6 => exact (Kd.R_reads' HO444.out).2.1); (case side7 => exact (Kd.S_reads' (e := 63) (base := w.heap.size) (n := t445.length) (c := co28) ZZf68d4a).2.2); (case side8 => exact (Kd.S_reads' HO447.out).2.1); rintro e w64 ⟨rfl, hb⟩; refine ⟨_, rfl, ?_⟩; replace HO438 := Aside0.mk (Kd.R_below (by refine bR ?_; exact (Kd.R_mono (Kd.R_far (p := ⟨gb464, 1, none⟩) (Kd.R_far (p := ⟨gb464, 0, none⟩) (Kd.R_types HO438.out BK464.out (by decide)) (fun _ hk => hk.2) (.slice Ao41 t457.length co41)) (fun _ hk => hk.2) (.slice Ao46 t460.length co46)) (fun _ h_ => h_.1))) hb); replace HO441 := Aside0.mk (Kd.S_below (by refine bS ?_; exact (Kd.S_mono (Kd.S_far (p := ⟨gb464, 1, none⟩) (Kd.S_far (p := ⟨gb464, 0, none⟩) (Kd.S_types HO441.out BK464.out (by decide)) (fun _ hk => hk.2) (.slice Ao41 t457.length co41)) (fun _ hk => hk.2) (.slice Ao46 t460.length co46)) (fun _ h_ => h_.1))) hb); replace HO444 := Aside0.mk (Kd.R_below ZZ8b7642 hb); replace HO447 := Aside0.mk (Kd.S_below ZZf68d4a hb); replace HO452 := Aside0.mk (Kd.R_below (by refine bR ?_; exact (Kd.R_mono (Kd.R_far (p := ⟨gb464, 1, none⟩) (Kd.R_far (p := ⟨gb464, 0, none⟩) (Kd.R_types HO452.out BK464.out (by decide)) (fun _ hk => hk.2) (.slice Ao41 t457.length co41)) (fun _ hk => hk.2) (.slice Ao46 t460.length co46)) (fun _ h_ => h_.1))) hb); replace HO455 := Aside0.mk (Kd.S_below (by refine bS ?_; exact (Kd.S_mono (Kd.S_far (p := ⟨gb464, 1, none⟩) (Kd.S_far (p := ⟨gb464, 0, none⟩) (Kd.S_types HO455.out BK464.out (by decide)) (fun _ hk => hk.2) (.slice Ao41 t457.length co41)) (fun _ hk => hk.2) (.slice Ao46 t460.length co46)) (fun _ h_ => h_.1))) hb); replace HO459 := Aside0.mk (Kd.R_below ZZd9d620 hb); replace HO462 := Aside0.mk (Kd.S_below ZZ3b07a5 hb); replace BK434 := Aside0.mk (blk_below (g := gb434) (o := .cells #[.slice A0_0 l0_0.length c0_0, .slice A0_1 l0_1.length c0_1] 25 (0, 0)) (by refine bd ?_; refine blk_far ?_ NB434_464.out _; refine bd ?_; refine blk_far ?_ NB434_464.out _; refine bd ?_; exact BK434.out) hb); replace BK449 := Aside0.mk (blk_below (g := gb449) (o := .cells #[.slice Ao25 t442.length co25, .slice Ao28 t445.length co28] 31 (0, 0)) (by refine bd ?_; refine blk_far ?_ NB449_464.out _; refine bd ?_; refine blk_far ?_ NB449_464.out _; refine bd ?_; exact BK449.out) hb); replace BK456 := Aside0.mk (blk_below (g := gb456) (o := .cells #[.slice Ao33 t450.length co33, .slice Ao37 t453.length co37] 31 (0, 0)) (by refine bd ?_; refine blk_far ?_ NB456_464.out _; refine bd ?_; refine blk_far ?_ NB456_464.out _; refine bd ?_; exact BK456.out) hb); replace BK464 := Aside0.mk (blk_below (g := gb464) (o := .cells #[.slice Ao41 t457.length co41, .slice Ao46 t460.length co46] 31 (0, 0)) (by refine bd ?_; refine blk_put (cs := #[.slice Ao41 t457.length co41, .slice none 0 0]) ?_ 1 _ rfl; refine bd ?_; refine blk_put (cs := #[.slice none 0 0, .slice none 0 0]) ?_ 0 _ rfl; refine bd ?_; exact BK464.out) hb); replace HB := hB hb; (try clear hb); (try clear hb2); (try clear hk); (try clear hi)))
  go_meet
  case rel => exact ⟨_, (true), ZZ0ab324, H, kle, ⟨(by refine bR ?_; exact Kd.R_mono HO444.out (fun _ hk => ⟨hk.1.2, hk.2⟩))⟩, ⟨(by refine bS ?_; exact Kd.S_mono HO447.out (fun _ hk => ⟨hk.1.1.2, ⟨hk.2, ⟨hk.1.1.1.1.2, ⟨hk.1.1.1.2, hk.1.2⟩⟩⟩⟩))⟩, ⟨(by refine bR ?_; exact Kd.R_mono HO452.out (fun _ hk => ⟨hk.1.2, hk.2⟩))⟩, ⟨(by refine bS ?_; exact Kd.S_mono HO455.out (fun _ hk => ⟨hk.1.1.1.2, ⟨hk.2, ⟨hk.1.1.2, hk.1.2⟩⟩⟩))⟩, ⟨(by refine bR ?_; exact Kd.R_mono HO459.out (fun _ hk => ⟨hk.1.2, hk.2⟩))⟩, ⟨(by refine bS ?_; exact Kd.S_mono HO462.out (fun _ hk => ⟨hk.1.1.2, ⟨hk.1.2, hk.2⟩⟩))⟩, ⟨(zB BK434)⟩, ⟨(zB BK449)⟩, ⟨(zB BK456)⟩, ⟨(zB BK464)⟩, ⟨ZZ295621⟩⟩
 case rest =>
  clear HC13
  try clear c5b0
  try clear c48
  try clear hcz15_0
  try clear hcz15_1
  try clear hcz17_0
  try clear hcz17_1
  try clear hcz27_0
  try clear hcz27_1
  try clear hcz29_0
  try clear hcz29_1
  try clear hcz36_0
  try clear hcz36_1
  try clear hcz45_0
  try clear hcz45_1
  try clear hcz52_0
  try clear hcz52_1
  try clear hcz55_0
  try clear hcz55_1
  try clear hcz60_0
  try clear hcz60_1
  try clear hcz63_0
  try clear hcz63_1
  try clear hcz7_0
  try clear hcz7_1
  try clear hfz15_0
  try clear hfz15_1
  try clear hfz17_0
  try clear hfz17_1
  try clear hfz27_0
  try clear hfz27_1
  try clear hfz29_0
  try clear hfz29_1
  try clear hfz36_0
  try clear hfz36_1
  try clear hfz45_0
  try clear hfz45_1
  try clear hfz52_0
  try clear hfz52_1
  try clear hfz55_0
  try clear hfz55_1
  try clear hfz60_0
  try clear hfz60_1
  try clear hfz63_0
  try clear hfz63_1
  try clear hfz7_0
  try clear hfz7_1
  obtain ⟨kq, x48_12, rfl, HA, HJ12, HO_450000, HO_450001, HO_457000, HO_457001, HO_465000, HO_465001, BK434, BK449, BK456, BK464, HB⟩ := hcut
  cases kq with
  | zero => exact absurd HA.out (by simp [laws_FnExactReverseEntry.j0])
  | succ kj12 =>
   have H := HA.out
   clear HA
   simp only [laws_FnExactReverseEntry.j0] at H
   by_cases c65 : x48_12 = true
   ·subst c65
    replace H := ifT H
    obtain rfl := Option.some.inj H
    go_wp2
    go_ret
    exact ⟨ZZab01d2, ZZ295621⟩
   replace c65 := Bool.eq_false_iff.mpr c65
   subst c65
   replace H := ifF H
   obtain ⟨⟨t466, t469⟩, A66, H⟩ := bdY H
   try dsimp only at H
   obtain ⟨t472, A67, H⟩ := bdY H
   by_cases c68 : t472 = true
   ·subst c68
    replace H := ifT H
    obtain ⟨⟨t473, t474, t475⟩, A69, H⟩ := bdY H
    try dsimp only at H
    have HC70 := Aside0.mk H
    clear H
    try go_wp2
    replace HO_450000 := Aside0.mk (Kd.R_drew HO_450000.out)
    replace HO_450001 := Aside0.mk (Kd.S_drew HO_450001.out)
    replace HO_457000 := Aside0.mk (Kd.R_drew HO_457000.out)
    replace HO_457001 := Aside0.mk (Kd.S_drew HO_457001.out)
    replace HO_465000 := Aside0.mk (Kd.R_drew HO_465000.out)
    replace HO_465001 := Aside0.mk (Kd.S_drew HO_465001.out)
    replace BK434 := Aside0.mk (blk_drew BK434.out)
    replace BK449 := Aside0.mk (blk_drew BK449.out)
    replace BK456 := Aside0.mk (blk_drew BK456.out)
    replace BK464 := Aside0.mk (blk_drew BK464.out)
    replace HB := Aside0.mk (below_drew1 HB.out)
    refine start_ (n := 5) (S := fun w' => w'.cell? ⟨gb456, 0, none⟩ = some (.slice Ao33 t450.length co33) ∧ w'.cell? ⟨gb456, 1, none⟩ = some (.slice Ao37 t453.length co37) ∧ w'.cell? ⟨gb434, 0, none⟩ = some (.slice A0_0 l0_0.length c0_0) ∧ w'.cell? ⟨gb434, 1, none⟩ = some (.slice A0_1 l0_1.length c0_1)) (ds := []) #[false, false, false, false, false] (by kernel_rfl) rfl rfl ⟨(blk_cell BK456.out 0).trans rfl, (blk_cell BK456.out 1).trans rfl, (blk_cell BK434.out 0).trans rfl, (blk_cell BK434.out 1).trans rfl⟩ (fun hHeld => ?_)
    generalize wc.drew = w71 at HO_450000 HO_450001 HO_457000 HO_457001 HO_465000 HO_465001 BK434 BK449 BK456 BK464 HB hHeld ⊢
    refine take_ (i := 0) (N := some 49) (v := ?_) (a' := ?_) #[true, false, false, false, false] rfl rfl (by kernel_rfl) (fun _ _ _ h => h) (Or.inl ⟨(by rfl), ?_⟩) hHeld ?_ ?_
    rotate_left
    ·rintro w' ⟨s0, s1, s2, s3⟩
     go_simp
     with_reducible rfl
    rotate_left
    ·simp only [Act.put, List.setIfInBounds_toArray, List.set_cons_zero, List.set_cons_succ, i64_w, i32_w]
     rfl
    refine take_ (i := 1) (N := some 50) (v := ?_) (a' := ?_) #[true, true, false, false, false] rfl rfl (by kernel_rfl) (fun _ _ _ h => h) (Or.inl ⟨(by rfl), ?_⟩) hHeld ?_ ?_
    rotate_left
    ·rintro w' ⟨s0, s1, s2, s3⟩
     go_simp
     with_reducible rfl
    rotate_left
    ·simp only [Act.put, List.setIfInBounds_toArray, List.set_cons_zero, List.set_cons_succ, i64_w, i32_w]
     rfl
    refine one_ (i := 2) (N := some 51) #[true, true, true, false, false] rfl rfl (by kernel_rfl) (by decide) (fun K hK => ?_)
    refine goes_ Tryd.func16 (by kernel_rfl) rfl #[.agg #[.slice A0_0 l0_0.length c0_0, .slice A0_1 l0_1.length c0_1]] (by rfl) rfl rfl ZZ19826e ?_
    with_reducible refine (laws_toLedger.calls kj12 _ _ l0_0 _ _ l0_1 t466 t469 _ ?side1 ?side2 ?side3 ?side4 A66.out).mono ?_
    (case side1 => exact (rC (Kd.C_below HR0_0.out HB.out)))
    (case side2 => exact HC0_0.out)
    (case side3 => exact (rC (Kd.C_below HR0_1.out HB.out)))
    (case side4 => exact HC0_1.out)
    rintro e w72 ⟨v467, v470, rfl, ho0, ho1, hb⟩
    refine ⟨_, rfl, ?_⟩
    have HO468 := Aside0.mk (Kd.R_lower (Kd.R_new' (Kd.R_new' (Kd.R_new' ho0 (Kd.R_lt (zR HO_450000))) (Kd.R_lt (zR HO_457000))) (Kd.R_lt (zR HO_465000))) (below_size ZZ295621))
    replace HO_450000 := Aside0.mk (Kd.R_elder' (zR HO_450000) (Kd.R_base ho0) hb)
    replace HO_457000 := Aside0.mk (Kd.R_elder' (zR HO_457000) (Kd.R_base ho0) hb)
    replace HO_465000 := Aside0.mk (Kd.R_elder' (zR HO_465000) (Kd.R_base ho0) hb)
    have HO471 := Aside0.mk (Kd.S_lower (Kd.S_new' (Kd.S_new' (Kd.S_new' ho1 (Kd.S_lt (zS HO_450001))) (Kd.S_lt (zS HO_457001))) (Kd.S_lt (zS HO_465001))) (below_size ZZ295621))
    replace HO_450001 := Aside0.mk (Kd.S_elder' (zS HO_450001) (Kd.S_base ho1) hb)
    replace HO_457001 := Aside0.mk (Kd.S_elder' (zS HO_457001) (Kd.S_base ho1) hb)
    replace HO_465001 := Aside0.mk (Kd.S_elder' (zS HO_465001) (Kd.S_base ho1) hb)
    replace BK434 := kb BK434 hb
    replace BK449 := kb BK449 hb
    replace BK456 := kb BK456 hb
    replace BK464 := kb BK464 hb
    replace HB := hB hb
    (try clear hb)
    (try clear hb2)
    (try clear hk)
    (try clear hi)
    (try clear ho0)
    (try clear ho1)
    obtain ⟨Ao73, co73, eo73⟩ := Kd.R_slice HO468.out
    (first | subst eo73 | (injection eo73 with f1_ f2_ f3_; have f4_ := f1_.symm; have f5_ := f3_.symm; clear f1_ f2_ f3_; subst f4_; subst f5_))
    obtain ⟨Ao74, co74, eo74⟩ := Kd.S_slice HO471.out
    (first | subst eo74 | (injection eo74 with f1_ f2_ f3_; have f4_ := f1_.symm; have f5_ := f3_.symm; clear f1_ f2_ f3_; subst f4_; subst f5_))
    refine hK.out _ _ zK (fun hHeld => ?_)
    clear hK K
    refine nd (some 51) ?_
    refine one_ (i := 3) (N := some 52) #[true, true, true, true, false] rfl rfl (by kernel_rfl) (by decide) (fun K hK => ?_)
    refine goes_ Tryd.func18 (by kernel_rfl) rfl #[.agg #[.slice Ao33 t450.length co33, .slice Ao37 t453.length co37], .agg #[.slice Ao73 t466.length co73, .slice Ao74 t469.length co74]] (by rfl) rfl rfl ZZ19826e ?_
    with_reducible refine (laws_eqLedger.calls kj12 _ _ t450 _ _ t453 _ _ t466 _ _ t469 true _ ?side1 ?side2 ?side3 ?side4 ?side5 ?side6 ?side7 ?side8 A67.out).mono ?_
    (case side1 => exact rC (Kd.R_reads' HO_457000.out).2.2)
    (case side2 => exact (Kd.R_reads' HO_457000.out).2.1)
    (case side3 => exact rC (Kd.S_reads' HO_457001.out).2.2)
    (case side4 => exact (Kd.S_reads' HO_457001.out).2.1)
    (case side5 => exact rC (Kd.R_reads' HO468.out).2.2)
    (case side6 => exact (Kd.R_reads' HO468.out).2.1)
    (case side7 => exact rC (Kd.S_reads' HO471.out).2.2)
    (case side8 => exact (Kd.S_reads' HO471.out).2.1)
    rintro e w75 ⟨rfl, hb⟩
    refine ⟨_, rfl, ?_⟩
    replace HO_450000 := Aside0.mk (Kd.R_below (zR HO_450000) hb)
    replace HO_450001 := Aside0.mk (Kd.S_below (zS HO_450001) hb)
    replace HO_457000 := Aside0.mk (Kd.R_below (zR HO_457000) hb)
    replace HO_457001 := Aside0.mk (Kd.S_below (zS HO_457001) hb)
    replace HO_465000 := Aside0.mk (Kd.R_below (zR HO_465000) hb)
    replace HO_465001 := Aside0.mk (Kd.S_below (zS HO_465001) hb)
    replace HO468 := Aside0.mk (Kd.R_below (zR HO468) hb)
    replace HO471 := Aside0.mk (Kd.S_below (zS HO471) hb)
    replace BK434 := kb BK434 hb
    replace BK449 := kb BK449 hb
    replace BK456 := kb BK456 hb
    replace BK464 := kb BK464 hb
    replace HB := hB hb
    (try clear hb)
    (try clear hb2)
    (try clear hk)
    (try clear hi)
    refine hK.out _ _ zK (fun hHeld => ?_)
    clear hK K
    refine nd (some 52) ?_
    refine pure_ (i := 4) (N := some 53) (v := ?_) (a' := ?_) #[true, true, true, true, true] rfl rfl (by kernel_rfl) (fun _ _ _ h => h) (Or.inl ⟨(by rfl), ?_⟩) ?_ ?_
    rotate_left
    ·intro w'
     go_simp
     with_reducible rfl
    rotate_left
    ·simp only [Act.put, List.setIfInBounds_toArray, List.set_cons_zero, List.set_cons_succ, i64_w, i32_w]
     rfl
    refine done_ (by kernel_rfl) ?_
    have hnb76 := NB456_434.out
    have hnc76 := NB434_456.out
    have hnb77 := NB456_449.out
    have hnc77 := NB449_456.out
    have hnb78 := NB456_464.out
    have hnc78 := NB464_456.out
    obtain ⟨hcz79_0, hcz79_1, hfz79_0, hfz79_1⟩ := z2 BK456
    go_upto_region 14 with (first | (refine gc 56 Tryd.func31 #[.agg #[.slice Ao33 t450.length co33, .slice Ao37 t453.length co37], .int .i64 1] ?_; (with_reducible refine (laws_markLedger.calls kj12 (fun k_ => some k_ = (.slice Ao33 t450.length co33 : Value).ownBlock) (.slice Ao33 t450.length co33) t450 ?P0_1_2 (.slice Ao37 t453.length co37) t453 1 t473 t474 t475 w _ ?side1 ?side2 ?side3 A69.out).mono ?_); (case side1 => exact bw); (case side2 => exact Kd.R_tight rfl HO_457000.out); (case side3 => exact Kd.S_bound HO_457001.out); rintro e w80 ⟨rfl, hy0, hy1, hb, hkp⟩; refine ⟨_, rfl, ?_⟩; obtain ⟨ga81, hga81⟩ := Kd.agek hkp; replace HO_450000 := Aside0.mk (Kd.R_mono (ok' := fun k_ => some k_ ≠ (.slice Ao33 t450.length co33 : Value).ownBlock ∧ some k_ ≠ (.slice Ao41 t457.length co41 : Value).ownBlock ∧ some k_ ≠ (.slice Ao73 t466.length co73 : Value).ownBlock) (Kd.R_keptB ((Kd.R_bound HO_450000.out)) hkp (fun k_ hk_ hs_ => Or.elim hs_ (fun e_ => (hk_.1.1.1) e_) (fun e_ => (fun e_ => Kd.typed_ne (hk_.2).2.2 e_.2.2.2 (by decide)) e_))) (fun k_ hk_ => ⟨hk_.1.1.1.1, hk_.1.1.1.2, hk_.1.1.2⟩)); replace HO_457001 := Aside0.mk (Kd.S_mono (ok' := fun k_ => (some k_ ≠ (.slice Ao28 t445.length co28 : Value).ownBlock ∧ (some k_ ≠ (.slice Ao46 t460.length co46 : Value).ownBlock ∧ (some k_ ≠ (.slice Ao74 t469.length co74 : Value).ownBlock ∧ (k_ < ga39 ∨ ga81 ≤ k_))))) (Kd.S_bound hy1) (fun k_ hk_ => Or.elim hk_.1 (fun hs_ => Or.elim hs_ (fun e_ => (fun h_ => (Kd.typed_own hk_.2.2.2 (Kd.R_typed hy0 k_ h_.symm) (by decide)).elim) e_) (fun e_ => (fun h_ => ⟨h_.1.1.1, ⟨h_.1.1.2.1, ⟨h_.1.2, (.inl h_.1.1.2.2.2)⟩⟩⟩) e_)) (fun hn_ => ⟨fun e_ => Nat.not_le.2 (Kd.S_lt HO_450001.out k_ e_.symm) hn_, ⟨fun e_ => Nat.not_le.2 (Kd.S_lt HO_465001.out k_ e_.symm) hn_, ⟨fun e_ => Nat.not_le.2 (Kd.S_lt HO471.out k_ e_.symm) hn_, (.inr (by rw [hga81]; exact hn_))⟩⟩⟩))); replace HO_450001 := Aside0.mk (Kd.S_mono (ok' := fun k_ => some k_ ≠ (.slice Ao37 t453.length co37 : Value).ownBlock ∧ some k_ ≠ (.slice Ao46 t460.length co46 : Value).ownBlock ∧ some k_ ≠ (.slice Ao74 t469.length co74 : Value).ownBlock ∧ ga23 ≤ k_ ∧ k_ < ga31 ∧ k_ < ga39 ∧ k_ < ga81) (Kd.S_keptB ((Kd.S_bound (Kd.S_apart' HO_450001.out (Kd.R_typed HO_457000.out) (by decide)))) hkp (fun k_ hk_ hs_ => Or.elim hs_ (fun e_ => (hk_.1.2) e_) (fun e_ => (fun e_ => Nat.not_le.2 (hk_.1.1.1.2.2.2.1) (e_.1.1.2.2.1)) e_))) (fun k_ hk_ => ⟨hk_.1.1.1.1.1, hk_.1.1.1.1.2.1, hk_.1.1.1.2, hk_.1.1.1.1.2.2.1, hk_.1.1.1.1.2.2.2.1, hk_.1.1.1.1.2.2.2.2, (by rw [hga81]; exact hk_.2.2)⟩)); replace HO_465000 := Aside0.mk (Kd.R_mono (ok' := fun k_ => some k_ ≠ (.slice Ao25 t442.length co25 : Value).ownBlock ∧ some k_ ≠ (.slice Ao33 t450.length co33 : Value).ownBlock ∧ some k_ ≠ (.slice Ao73 t466.length co73 : Value).ownBlock) (Kd.R_keptB ((Kd.R_bound HO_465000.out)) hkp (fun k_ hk_ hs_ => Or.elim hs_ (fun e_ => (hk_.1.1.2) e_) (fun e_ => (fun e_ => Kd.typed_ne (hk_.2).2.2 e_.2.2.2 (by decide)) e_))) (fun k_ hk_ => ⟨hk_.1.1.1.1, hk_.1.1.1.2, hk_.1.1.2⟩)); replace HO_465001 := Aside0.mk (Kd.S_mono (ok' := fun k_ => some k_ ≠ (.slice Ao28 t445.length co28 : Value).ownBlock ∧ some k_ ≠ (.slice Ao37 t453.length co37 : Value).ownBlock ∧ some k_ ≠ (.slice Ao74 t469.length co74 : Value).ownBlock ∧ ga39 ≤ k_ ∧ k_ < ga81) (Kd.S_keptB ((Kd.S_bound (Kd.S_apart' HO_465001.out (Kd.R_typed HO_457000.out) (by decide)))) hkp (fun k_ hk_ hs_ => Or.elim hs_ (fun e_ => (hk_.1.2) e_) (fun e_ => (fun e_ => Nat.not_le.2 (e_.1.1.2.2.2) (hk_.1.1.1.2.2)) e_))) (fun k_ hk_ => ⟨hk_.1.1.1.1.1, hk_.1.1.1.1.2.1, hk_.1.1.1.2, hk_.1.1.1.1.2.2, (by rw [hga81]; exact hk_.2.2)⟩)); replace BK434 := Aside0.mk (blk_kept (zB BK434) hkp (fun hs_ => Or.elim hs_ (fun e_ => (fun e_ => (Kd.R_ne HO_457000.out BK434.out (by decide)) e_) e_) (fun e_ => (fun e_ => Kd.typed_box e_.2.2.2 (zB BK434) (by decide)) e_))); replace BK449 := Aside0.mk (blk_kept (zB BK449) hkp (fun hs_ => Or.elim hs_ (fun e_ => (fun e_ => (Kd.R_ne HO_457000.out BK449.out (by decide)) e_) e_) (fun e_ => (fun e_ => Kd.typed_box e_.2.2.2 (zB BK449) (by decide)) e_))); replace BK456 := Aside0.mk (blk_kept (zB BK456) hkp (fun hs_ => Or.elim hs_ (fun e_ => (fun e_ => (Kd.R_ne HO_457000.out BK456.out (by decide)) e_) e_) (fun e_ => (fun e_ => Kd.typed_box e_.2.2.2 (zB BK456) (by decide)) e_))); replace BK464 := Aside0.mk (blk_kept (zB BK464) hkp (fun hs_ => Or.elim hs_ (fun e_ => (fun e_ => (Kd.R_ne HO_457000.out BK464.out (by decide)) e_) e_) (fun e_ => (fun e_ => Kd.typed_box e_.2.2.2 (zB BK464) (by decide)) e_))); replace HO_457000 := Aside0.mk (Kd.R_reok rfl hy0 (fun k_ e_ => HO_457000.out.1 k_ e_)); replace HO468 := Aside0.mk (Kd.R_mono (ok' := fun k_ => some k_ ≠ (.slice Ao25 t442.length co25 : Value).ownBlock ∧ some k_ ≠ (.slice Ao33 t450.length co33 : Value).ownBlock ∧ some k_ ≠ (.slice Ao41 t457.length co41 : Value).ownBlock) (Kd.R_keptB ((Kd.R_bound HO468.out)) hkp (fun k_ hk_ hs_ => Or.elim hs_ (fun e_ => (hk_.1.1.2) e_) (fun e_ => (fun e_ => Kd.typed_ne (hk_.2).2.2 e_.2.2.2 (by decide)) e_))) (fun k_ hk_ => ⟨hk_.1.1.1.1.2, hk_.1.1.1.2, hk_.1.1.2⟩)); replace HB := Aside0.mk (hb); clear HO471; (try clear hb); (try clear hkp); (try clear hy0); (try clear hy1)))
    (try simp only [Act.put, List.setIfInBounds_toArray, List.set_cons_zero, List.set_cons_succ])
    go_cut [69] (fun v69 wc => ∃ (kq : Nat) (x69_69 : Bool), v69 = .bool x69_69 ∧ Aside0 (laws_FnExactReverseEntry.j1 kq a1 a2 t448 x69_69 l0_0 l0_1 t442 t445 t457 t460 = some r) ∧ Aside0 (kq ≤ kj12) ∧ Aside0 (Kd.R k48 48 wc w.heap.size (fun k_ => some k_ ≠ ((.slice Ao33 t450.length co33) : Value).ownBlock ∧ some k_ ≠ ((.slice Ao41 t457.length co41) : Value).ownBlock) (.slice Ao25 t442.length co25) t442) ∧ Aside0 (Kd.S k63 63 wc w.heap.size (fun k_ => some k_ ≠ ((.slice Ao37 t453.length co37) : Value).ownBlock ∧ some k_ ≠ ((.slice Ao46 t460.length co46) : Value).ownBlock ∧ ga23 ≤ k_ ∧ k_ < ga31 ∧ k_ < ga39 ∧ k_ < ga81) (.slice Ao28 t445.length co28) t445) ∧ Aside0 (Kd.R k48 48 wc w.heap.size (fun k_ => some k_ ≠ ((.slice Ao25 t442.length co25) : Value).ownBlock ∧ some k_ ≠ ((.slice Ao41 t457.length co41) : Value).ownBlock) (.slice Ao33 t450.length co33) t474) ∧ Aside0 (Kd.S k63 63 wc w.heap.size (fun k_ => some k_ ≠ ((.slice Ao28 t445.length co28) : Value).ownBlock ∧ some k_ ≠ ((.slice Ao46 t460.length co46) : Value).ownBlock ∧ (k_ < ga39 ∨ ga81 ≤ k_)) (.slice Ao37 t453.length co37) t475) ∧ Aside0 (Kd.R k48 48 wc w.heap.size (fun k_ => some k_ ≠ ((.slice Ao25 t442.length co25) : Value).ownBlock ∧ some k_ ≠ ((.slice Ao33 t450.length co33) : Value).ownBlock) (.slice Ao41 t457.length co41) t457) ∧ Aside0 (Kd.S k63 63 wc w.heap.size (fun k_ => some k_ ≠ ((.slice Ao28 t445.length co28) : Value).ownBlock ∧ some k_ ≠ ((.slice Ao37 t453.length co37) : Value).ownBlock ∧ ga39 ≤ k_ ∧ k_ < ga81) (.slice Ao46 t460.length co46) t460) ∧ Aside0 (wc.heap[gb434]? = some (.cells #[(.slice A0_0 l0_0.length c0_0), (.slice A0_1 l0_1.length c0_1)] 25 (0, 0))) ∧ Aside0 (wc.heap[gb449]? = some (.cells #[(.slice Ao25 t442.length co25), (.slice Ao28 t445.length co28)] 31 (0, 0))) ∧ Aside0 (wc.heap[gb456]? = some (.cells #[(.slice Ao33 t450.length co33), (.slice Ao37 t453.length co37)] 31 (0, 0))) ∧ Aside0 (wc.heap[gb464]? = some (.cells #[(.slice Ao41 t457.length co41), (.slice Ao46 t460.length co46)] 31 (0, 0))) ∧ Aside0 (Below w.heap.size w wc))
    case first =>
     have H := HC70.out
     clear HC70
     by_cases c82 : t473 < 0
     ·rw [if_pos c82] at H
      have c82b0 := decide_eq_true c82
      clear c82
      (first | rw [c82b0] | (simp only [i64_w, i32_w]; rw [c82b0]) | skip)
      replace H := Aside0.mk H
      go_wp2
      go_meet
      case rel => exact ⟨_, (true), ZZ0ab324, H, kle, ⟨(by refine bR ?_; exact Kd.R_mono HO_450000.out (fun _ hk => ⟨hk.1, hk.2.1⟩))⟩, ⟨ZZe8a3ad⟩, ⟨(by refine bR ?_; exact Kd.R_mono HO_457000.out (fun _ hk => ⟨hk.1.1, hk.1.2⟩))⟩, ⟨(by refine bS ?_; exact Kd.S_mono HO_457001.out (fun _ hk => ⟨hk.1, ⟨hk.2.1, hk.2.2.2⟩⟩))⟩, ⟨(by refine bR ?_; exact Kd.R_mono HO_465000.out (fun _ hk => ⟨hk.1, hk.2.1⟩))⟩, ⟨ZZa35187⟩, ⟨(zB BK434)⟩, ⟨(zB BK449)⟩, ⟨(zB BK456)⟩, ⟨(zB BK464)⟩, ⟨ZZ295621⟩⟩
     rw [if_neg c82] at H
     have c82b0 := decide_eq_false c82
     clear c82
     (first | rw [c82b0] | (simp only [i64_w, i32_w]; rw [c82b0]) | skip)
     obtain ⟨t476, A83, H⟩ := bdY H
     have hnb85 := NB464_434.out
     have hnc85 := NB434_464.out
     have hnb86 := NB464_449.out
     have hnc86 := NB449_464.out
     have hnb87 := NB464_456.out
     have hnc87 := NB456_464.out
     obtain ⟨hcz88_0, hcz88_1, hfz88_0, hfz88_1⟩ := z2 BK464
     have hnb89 := NB449_434.out
     have hnc89 := NB434_449.out
     have hnb90 := NB449_456.out
     have hnc90 := NB456_449.out
     obtain ⟨hcz91_0, hcz91_1, hfz91_0, hfz91_1⟩ := z2 BK449
     by_cases c84 : t476 = true
     ·subst c84
      replace H := ifT H
      replace H := Aside0.mk H
      go_wp2_with (first | (go_at_call 18; (with_reducible refine (laws_eqLedger.calls kj12 _ _ t457 _ _ t460 _ _ t442 _ _ t445 true _ ?side1 ?side2 ?side3 ?side4 ?side5 ?side6 ?side7 ?side8 A83.out).mono ?_); (case side1 => exact rC (Kd.R_reads' HO_465000.out).2.2); (case side2 => exact (Kd.R_reads' HO_465000.out).2.1); (case side3 => exact rC (Kd.S_reads' HO_465001.out).2.2); (case side4 => exact (Kd.S_reads' HO_465001.out).2.1); (case side5 => exact rC (Kd.R_reads' HO_450000.out).2.2); (case side6 => exact (Kd.R_reads' HO_450000.out).2.1); (case side7 => exact rC (Kd.S_reads' HO_450001.out).2.2); (case side8 => exact (Kd.S_reads' HO_450001.out).2.1); rintro e w92 ⟨rfl, hb⟩; replace HO_450000 := Aside0.mk (Kd.R_below (zR HO_450000) hb); replace HO_450001 := Aside0.mk (Kd.S_below (zS HO_450001) hb); replace HO_457000 := Aside0.mk (Kd.R_below (zR HO_457000) hb); replace HO_457001 := Aside0.mk (Kd.S_below (zS HO_457001) hb); replace HO_465000 := Aside0.mk (Kd.R_below (zR HO_465000) hb); replace HO_465001 := Aside0.mk (Kd.S_below (zS HO_465001) hb); replace HO468 := Aside0.mk (Kd.R_below (zR HO468) hb); replace BK434 := kb BK434 hb; replace BK449 := kb BK449 hb; replace BK456 := kb BK456 hb; replace BK464 := kb BK464 hb; replace HB := hB hb; (try clear hb); (try clear hb2); (try clear hk); (try clear hi)))
      go_meet
      case rel => exact ⟨_, ((t463 != t448)), ZZ0ab324, H, kle, ⟨(by refine bR ?_; exact Kd.R_mono HO_450000.out (fun _ hk => ⟨hk.1, hk.2.1⟩))⟩, ⟨ZZe8a3ad⟩, ⟨(by refine bR ?_; exact Kd.R_mono HO_457000.out (fun _ hk => ⟨hk.1.1, hk.1.2⟩))⟩, ⟨(by refine bS ?_; exact Kd.S_mono HO_457001.out (fun _ hk => ⟨hk.1, ⟨hk.2.1, hk.2.2.2⟩⟩))⟩, ⟨(by refine bR ?_; exact Kd.R_mono HO_465000.out (fun _ hk => ⟨hk.1, hk.2.1⟩))⟩, ⟨ZZa35187⟩, ⟨(zB BK434)⟩, ⟨(zB BK449)⟩, ⟨(zB BK456)⟩, ⟨(zB BK464)⟩, ⟨ZZ295621⟩⟩
     replace c84 := Bool.eq_false_iff.mpr c84
     subst c84
     replace H := ifF H
     replace H := Aside0.mk H
     go_wp2_with (first | (go_at_call 18; (with_reducible refine (laws_eqLedger.calls kj12 _ _ t457 _ _ t460 _ _ t442 _ _ t445 false _ ?side1 ?side2 ?side3 ?side4 ?side5 ?side6 ?side7 ?side8 A83.out).mono ?_); (case side1 => exact rC (Kd.R_reads' HO_465000.out).2.2); (case side2 => exact (Kd.R_reads' HO_465000.out).2.1); (case side3 => exact rC (Kd.S_reads' HO_465001.out).2.2); (case side4 => exact (Kd.S_reads' HO_465001.out).2.1); (case side5 => exact rC (Kd.R_reads' HO_450000.out).2.2); (case side6 => exact (Kd.R_reads' HO_450000.out).2.1); (case side7 => exact rC (Kd.S_reads' HO_450001.out).2.2); (case side8 => exact (Kd.S_reads' HO_450001.out).2.1); rintro e w100 ⟨rfl, hb⟩; replace HO_450000 := Aside0.mk (Kd.R_below (zR HO_450000) hb); replace HO_450001 := Aside0.mk (Kd.S_below (zS HO_450001) hb); replace HO_457000 := Aside0.mk (Kd.R_below (zR HO_457000) hb); replace HO_457001 := Aside0.mk (Kd.S_below (zS HO_457001) hb); replace HO_465000 := Aside0.mk (Kd.R_below (zR HO_465000) hb); replace HO_465001 := Aside0.mk (Kd.S_below (zS HO_465001) hb); replace HO468 := Aside0.mk (Kd.R_below (zR HO468) hb); replace BK434 := kb BK434 hb; replace BK449 := kb BK449 hb; replace BK456 := kb BK456 hb; replace BK464 := kb BK464 hb; replace HB := hB hb; (try clear hb); (try clear hb2); (try clear hk); (try clear hi)))
     go_meet
     case rel => exact ⟨_, (true), ZZ0ab324, H, kle, ⟨(by refine bR ?_; exact Kd.R_mono HO_450000.out (fun _ hk => ⟨hk.1, hk.2.1⟩))⟩, ⟨ZZe8a3ad⟩, ⟨(by refine bR ?_; exact Kd.R_mono HO_457000.out (fun _ hk => ⟨hk.1.1, hk.1.2⟩))⟩, ⟨(by refine bS ?_; exact Kd.S_mono HO_457001.out (fun _ hk => ⟨hk.1, ⟨hk.2.1, hk.2.2.2⟩⟩))⟩, ⟨(by refine bR ?_; exact Kd.R_mono HO_465000.out (fun _ hk => ⟨hk.1, hk.2.1⟩))⟩, ⟨ZZa35187⟩, ⟨(zB BK434)⟩, ⟨(zB BK449)⟩, ⟨(zB BK456)⟩, ⟨(zB BK464)⟩, ⟨ZZ295621⟩⟩
    case rest =>
     clear HC70
     try clear c65
     try clear c68
     try clear c82
     try clear c82b0
     try clear c84
     try clear hcz79_0
     try clear hcz79_1
     try clear hcz88_0
     try clear hcz88_1
     try clear hcz91_0
     try clear hcz91_1
     try clear hcz96_0
     try clear hcz96_1
     try clear hcz99_0
     try clear hcz99_1
     try clear hfz79_0
     try clear hfz79_1
     try clear hfz88_0
     try clear hfz88_1
     try clear hfz91_0
     try clear hfz91_1
     try clear hfz96_0
     try clear hfz96_1
     try clear hfz99_0
     try clear hfz99_1
     obtain ⟨kq, x69_69, rfl, HA, HJ69, HO_450000, HO_450001, HO_457000, HO_457001, HO_465000, HO_465001, BK434, BK449, BK456, BK464, HB⟩ := hcut
     have hl457000_69 := (Kd.R_reads' HO_457000.out).1
     rw [hl457000_69] at HO_457000
     (try simp only [hl457000_69] at BK434 BK449 BK456 BK464 HO_450000 HO_450001 HO_457001 HO_465000 HO_465001 ⊢)
     have hl457001_69 := (Kd.S_reads' HO_457001.out).1
     rw [hl457001_69] at HO_457001
     (try simp only [hl457001_69] at BK434 BK449 BK456 BK464 HO_450000 HO_450001 HO_457000 HO_465000 HO_465001 ⊢)
     cases kq with
     | zero => exact absurd HA.out (by simp [laws_FnExactReverseEntry.j1])
     | succ kj69 =>
      have H := HA.out
      clear HA
      simp only [laws_FnExactReverseEntry.j1] at H
      by_cases c101 : x69_69 = true
      ·subst c101
       replace H := ifT H
       obtain rfl := Option.some.inj H
       go_wp2
       go_ret
       exact ⟨ZZab01d2, ZZ295621⟩
      replace c101 := Bool.eq_false_iff.mpr c101
      subst c101
      replace H := ifF H
      obtain ⟨⟨t477, t478, t479⟩, A102, H⟩ := bdY H
      try dsimp only at H
      obtain ⟨t480, A103, H⟩ := bdY H
      by_cases c104 : t480 < 0
      ·rw [if_pos c104] at H
       have c104b0 := decide_eq_true c104
       clear c104
       obtain rfl := Option.some.inj H
       have hnb105 := NB464_434.out
       have hnc105 := NB434_464.out
       have hnb106 := NB464_449.out
       have hnc106 := NB449_464.out
       have hnb107 := NB464_456.out
       have hnc107 := NB456_464.out
       obtain ⟨hcz108_0, hcz108_1, hfz108_0, hfz108_1⟩ := z2 BK464
       go_wp2_with (first | (refine gc 72 Tryd.func31 #[.agg #[.slice Ao41 t457.length co41, .slice Ao46 t460.length co46], .int .i64 1] ?_; (with_reducible refine (laws_markLedger.calls kj69 (fun k_ => some k_ = (.slice Ao41 t457.length co41 : Value).ownBlock) (.slice Ao41 t457.length co41) t457 ?P0_1_3 (.slice Ao46 t460.length co46) t460 1 t477 t478 t479 w _ ?side1 ?side2 ?side3 A102.out).mono ?_); (case side1 => exact bw); (case side2 => exact Kd.R_tight rfl HO_465000.out); (case side3 => exact Kd.S_bound HO_465001.out); rintro e w109 ⟨rfl, hy0, hy1, hb, hkp⟩; refine ⟨_, rfl, ?_⟩; obtain ⟨ga110, hga110⟩ := Kd.agek hkp; replace HO_450000 := Aside0.mk (Kd.R_mono (ok' := fun k_ => some k_ ≠ (.slice Ao33 t474.length co33 : Value).ownBlock ∧ some k_ ≠ (.slice Ao41 t457.length co41 : Value).ownBlock) (Kd.R_keptB ((Kd.R_bound HO_450000.out)) hkp (fun k_ hk_ hs_ => Or.elim hs_ (fun e_ => (hk_.1.2) e_) (fun e_ => (fun e_ => Kd.typed_ne (hk_.2).2.2 e_.2.2.2 (by decide)) e_))) (fun k_ hk_ => ⟨hk_.1.1.1, hk_.1.1.2⟩)); replace HO_457000 := Aside0.mk (Kd.R_mono (ok' := fun k_ => some k_ ≠ (.slice Ao25 t442.length co25 : Value).ownBlock ∧ some k_ ≠ (.slice Ao41 t457.length co41 : Value).ownBlock) (Kd.R_keptB ((Kd.R_bound HO_457000.out)) hkp (fun k_ hk_ hs_ => Or.elim hs_ (fun e_ => (hk_.1.2) e_) (fun e_ => (fun e_ => Kd.typed_ne (hk_.2).2.2 e_.2.2.2 (by decide)) e_))) (fun k_ hk_ => ⟨hk_.1.1.1, hk_.1.1.2⟩)); replace HO_465001 := Aside0.mk (Kd.S_mono (ok' := fun k_ => (some k_ ≠ (.slice Ao28 t445.length co28 : Value).ownBlock ∧ (some k_ ≠ (.slice Ao37 t475.length co37 : Value).ownBlock ∧ (k_ < ga81 ∨ ga110 ≤ k_)))) (Kd.S_bound hy1) (fun k_ hk_ => Or.elim hk_.1 (fun hs_ => Or.elim hs_ (fun e_ => (fun h_ => (Kd.typed_own hk_.2.2.2 (Kd.R_typed hy0 k_ h_.symm) (by decide)).elim) e_) (fun e_ => (fun h_ => ⟨h_.1.1, ⟨h_.1.2.1, (.inl h_.1.2.2.2)⟩⟩) e_)) (fun hn_ => ⟨fun e_ => Nat.not_le.2 (Kd.S_lt HO_450001.out k_ e_.symm) hn_, ⟨fun e_ => Nat.not_le.2 (Kd.S_lt HO_457001.out k_ e_.symm) hn_, (.inr (by rw [hga110]; exact hn_))⟩⟩))); replace HO_450001 := Aside0.mk (Kd.S_mono (ok' := fun k_ => some k_ ≠ (.slice Ao37 t475.length co37 : Value).ownBlock ∧ some k_ ≠ (.slice Ao46 t460.length co46 : Value).ownBlock ∧ ga23 ≤ k_ ∧ k_ < ga31 ∧ k_ < ga39 ∧ k_ < ga81 ∧ k_ < ga110) (Kd.S_keptB ((Kd.S_bound (Kd.S_apart' HO_450001.out (Kd.R_typed HO_465000.out) (by decide)))) hkp (fun k_ hk_ hs_ => Or.elim hs_ (fun e_ => (hk_.1.2) e_) (fun e_ => (fun e_ => Nat.not_le.2 (hk_.1.1.2.2.2.2.1) (e_.1.2.2.1)) e_))) (fun k_ hk_ => ⟨hk_.1.1.1.1, hk_.1.1.1.2.1, hk_.1.1.1.2.2.1, hk_.1.1.1.2.2.2.1, hk_.1.1.1.2.2.2.2.1, hk_.1.1.1.2.2.2.2.2, (by rw [hga110]; exact hk_.2.2)⟩)); replace HO_457001 := Aside0.mk (Kd.S_mono (ok' := fun k_ => some k_ ≠ (.slice Ao28 t445.length co28 : Value).ownBlock ∧ some k_ ≠ (.slice Ao46 t460.length co46 : Value).ownBlock ∧ (k_ < ga39 ∨ ga81 ≤ k_) ∧ k_ < ga110) (Kd.S_keptB ((Kd.S_bound (Kd.S_apart' HO_457001.out (Kd.R_typed HO_465000.out) (by decide)))) hkp (fun k_ hk_ hs_ => Or.elim hs_ (fun e_ => (hk_.1.2) e_) (fun e_ => (fun e_ => Or.elim (hk_.1.1.2.2) (fun h1_ => Nat.not_le.2 h1_ (e_.1.2.2.1)) (fun h1_ => Nat.not_le.2 (e_.1.2.2.2) h1_)) e_))) (fun k_ hk_ => ⟨hk_.1.1.1.1, hk_.1.1.1.2.1, hk_.1.1.1.2.2, (by rw [hga110]; exact hk_.2.2)⟩)); replace BK434 := Aside0.mk (blk_kept (zB BK434) hkp (fun hs_ => Or.elim hs_ (fun e_ => (fun e_ => (Kd.R_ne HO_465000.out BK434.out (by decide)) e_) e_) (fun e_ => (fun e_ => Kd.typed_box e_.2.2.2 (zB BK434) (by decide)) e_))); replace BK449 := Aside0.mk (blk_kept (zB BK449) hkp (fun hs_ => Or.elim hs_ (fun e_ => (fun e_ => (Kd.R_ne HO_465000.out BK449.out (by decide)) e_) e_) (fun e_ => (fun e_ => Kd.typed_box e_.2.2.2 (zB BK449) (by decide)) e_))); replace BK456 := Aside0.mk (blk_kept (zB BK456) hkp (fun hs_ => Or.elim hs_ (fun e_ => (fun e_ => (Kd.R_ne HO_465000.out BK456.out (by decide)) e_) e_) (fun e_ => (fun e_ => Kd.typed_box e_.2.2.2 (zB BK456) (by decide)) e_))); replace BK464 := Aside0.mk (blk_kept (zB BK464) hkp (fun hs_ => Or.elim hs_ (fun e_ => (fun e_ => (Kd.R_ne HO_465000.out BK464.out (by decide)) e_) e_) (fun e_ => (fun e_ => Kd.typed_box e_.2.2.2 (zB BK464) (by decide)) e_))); replace HO_465000 := Aside0.mk (Kd.R_reok rfl hy0 (fun k_ e_ => HO_465000.out.1 k_ e_)); replace HB := Aside0.mk (hb); (try clear hb); (try clear hkp); (try clear hy0); (try clear hy1); obtain ⟨hcz111_0, hcz111_1, hfz111_0, hfz111_1⟩ := z2 BK464) | ((with_reducible refine gate_callee (f := 41) rfl ?_); refine goesL_ (some 75) rfl rfl Tryd.func41 (by kernel_rfl) rfl #[.agg #[.slice Ao41 t478.length co41, .slice Ao46 t479.length co46], .int .i64 1] rfl ZZ355c03 ?_; (with_reducible refine (laws_heldLedger.calls kj69 _ _ t478 _ _ t479 1 t480 _ ?side1 ?side2 ?side3 ?side4 A103.out).mono ?_); (case side1 => exact rC (Kd.R_reads' HO_465000.out).2.2); (case side2 => rw [show t478.length = t457.length from (Kd.R_reads' HO_465000.out).1.symm]; exact (Kd.R_reads' HO_465000.out).2.1); (case side3 => exact rC (Kd.S_reads' HO_465001.out).2.2); (case side4 => rw [show t479.length = t460.length from (Kd.S_reads' HO_465001.out).1.symm]; exact (Kd.S_reads' HO_465001.out).2.1); rintro e w112 ⟨rfl, hb⟩; refine ⟨_, rfl, ?_⟩; replace HO_450000 := Aside0.mk (Kd.R_below (zR HO_450000) hb); replace HO_450001 := Aside0.mk (Kd.S_below (zS HO_450001) hb); replace HO_457000 := Aside0.mk (Kd.R_below (zR HO_457000) hb); replace HO_457001 := Aside0.mk (Kd.S_below (zS HO_457001) hb); replace HO_465000 := Aside0.mk (Kd.R_below (zR HO_465000) hb); replace HO_465001 := Aside0.mk (Kd.S_below (zS HO_465001) hb); replace BK434 := kb BK434 hb; replace BK449 := kb BK449 hb; replace BK456 := kb BK456 hb; replace BK464 := kb BK464 hb; replace HB := hB hb; (try clear hb); (try clear hb2); (try clear hk); (try clear hi)))
       go_ret
       exact ⟨ZZab01d2, ZZ295621⟩
      rw [if_neg c104] at H
      have c104b0 := decide_eq_false c104
      clear c104
      by_cases c113 : t480 = t477
      ·rw [if_pos c113] at H
       have c113b0 := beq_iff_eq.mpr c113
       have c113b1 := bne_eq_false_iff_eq.mpr c113
       clear c113
       obtain ⟨⟨t481, t484⟩, A114, H⟩ := bdY H
       try dsimp only at H
       obtain ⟨⟨t487, t490, t493⟩, A115, H⟩ := bdY H
       try dsimp only at H
       have HC116 := Aside0.mk H
       clear H
       have hnb117 := NB464_434.out
       have hnc117 := NB434_464.out
       have hnb118 := NB464_449.out
       have hnc118 := NB449_464.out
       have hnb119 := NB464_456.out
       have hnc119 := NB456_464.out
       obtain ⟨hcz120_0, hcz120_1, hfz120_0, hfz120_1⟩ := z2 BK464
       go_upto_region 25 with (first | (refine gc 72 Tryd.func31 #[.agg #[.slice Ao41 t457.length co41, .slice Ao46 t460.length co46], .int .i64 1] ?_; (with_reducible refine (laws_markLedger.calls kj69 (fun k_ => some k_ = (.slice Ao41 t457.length co41 : Value).ownBlock) (.slice Ao41 t457.length co41) t457 ?P0_1_4 (.slice Ao46 t460.length co46) t460 1 t477 t478 t479 w _ ?side1 ?side2 ?side3 A102.out).mono ?_); (case side1 => exact bw); (case side2 => exact Kd.R_tight rfl HO_465000.out); (case side3 => exact Kd.S_bound HO_465001.out); rintro e w121 ⟨rfl, hy0, hy1, hb, hkp⟩; refine ⟨_, rfl, ?_⟩; obtain ⟨ga122, hga122⟩ := Kd.agek hkp; replace HO_450000 := Aside0.mk (Kd.R_mono (ok' := fun k_ => some k_ ≠ (.slice Ao33 t474.length co33 : Value).ownBlock ∧ some k_ ≠ (.slice Ao41 t457.length co41 : Value).ownBlock) (Kd.R_keptB ((Kd.R_bound HO_450000.out)) hkp (fun k_ hk_ hs_ => Or.elim hs_ (fun e_ => (hk_.1.2) e_) (fun e_ => (fun e_ => Kd.typed_ne (hk_.2).2.2 e_.2.2.2 (by decide)) e_))) (fun k_ hk_ => ⟨hk_.1.1.1, hk_.1.1.2⟩)); replace HO_457000 := Aside0.mk (Kd.R_mono (ok' := fun k_ => some k_ ≠ (.slice Ao25 t442.length co25 : Value).ownBlock ∧ some k_ ≠ (.slice Ao41 t457.length co41 : Value).ownBlock) (Kd.R_keptB ((Kd.R_bound HO_457000.out)) hkp (fun k_ hk_ hs_ => Or.elim hs_ (fun e_ => (hk_.1.2) e_) (fun e_ => (fun e_ => Kd.typed_ne (hk_.2).2.2 e_.2.2.2 (by decide)) e_))) (fun k_ hk_ => ⟨hk_.1.1.1, hk_.1.1.2⟩)); replace HO_465001 := Aside0.mk (Kd.S_mono (ok' := fun k_ => (some k_ ≠ (.slice Ao28 t445.length co28 : Value).ownBlock ∧ (some k_ ≠ (.slice Ao37 t475.length co37 : Value).ownBlock ∧ (k_ < ga81 ∨ ga122 ≤ k_)))) (Kd.S_bound hy1) (fun k_ hk_ => Or.elim hk_.1 (fun hs_ => Or.elim hs_ (fun e_ => (fun h_ => (Kd.typed_own hk_.2.2.2 (Kd.R_typed hy0 k_ h_.symm) (by decide)).elim) e_) (fun e_ => (fun h_ => ⟨h_.1.1, ⟨h_.1.2.1, (.inl h_.1.2.2.2)⟩⟩) e_)) (fun hn_ => ⟨fun e_ => Nat.not_le.2 (Kd.S_lt HO_450001.out k_ e_.symm) hn_, ⟨fun e_ => Nat.not_le.2 (Kd.S_lt HO_457001.out k_ e_.symm) hn_, (.inr (by rw [hga122]; exact hn_))⟩⟩))); replace HO_450001 := Aside0.mk (Kd.S_mono (ok' := fun k_ => some k_ ≠ (.slice Ao37 t475.length co37 : Value).ownBlock ∧ some k_ ≠ (.slice Ao46 t460.length co46 : Value).ownBlock ∧ ga23 ≤ k_ ∧ k_ < ga31 ∧ k_ < ga39 ∧ k_ < ga81 ∧ k_ < ga122) (Kd.S_keptB ((Kd.S_bound (Kd.S_apart' HO_450001.out (Kd.R_typed HO_465000.out) (by decide)))) hkp (fun k_ hk_ hs_ => Or.elim hs_ (fun e_ => (hk_.1.2) e_) (fun e_ => (fun e_ => Nat.not_le.2 (hk_.1.1.2.2.2.2.1) (e_.1.2.2.1)) e_))) (fun k_ hk_ => ⟨hk_.1.1.1.1, hk_.1.1.1.2.1, hk_.1.1.1.2.2.1, hk_.1.1.1.2.2.2.1, hk_.1.1.1.2.2.2.2.1, hk_.1.1.1.2.2.2.2.2, (by rw [hga122]; exact hk_.2.2)⟩)); replace HO_457001 := Aside0.mk (Kd.S_mono (ok' := fun k_ => some k_ ≠ (.slice Ao28 t445.length co28 : Value).ownBlock ∧ some k_ ≠ (.slice Ao46 t460.length co46 : Value).ownBlock ∧ (k_ < ga39 ∨ ga81 ≤ k_) ∧ k_ < ga122) (Kd.S_keptB ((Kd.S_bound (Kd.S_apart' HO_457001.out (Kd.R_typed HO_465000.out) (by decide)))) hkp (fun k_ hk_ hs_ => Or.elim hs_ (fun e_ => (hk_.1.2) e_) (fun e_ => (fun e_ => Or.elim (hk_.1.1.2.2) (fun h1_ => Nat.not_le.2 h1_ (e_.1.2.2.1)) (fun h1_ => Nat.not_le.2 (e_.1.2.2.2) h1_)) e_))) (fun k_ hk_ => ⟨hk_.1.1.1.1, hk_.1.1.1.2.1, hk_.1.1.1.2.2, (by rw [hga122]; exact hk_.2.2)⟩)); replace BK434 := Aside0.mk (blk_kept (zB BK434) hkp (fun hs_ => Or.elim hs_ (fun e_ => (fun e_ => (Kd.R_ne HO_465000.out BK434.out (by decide)) e_) e_) (fun e_ => (fun e_ => Kd.typed_box e_.2.2.2 (zB BK434) (by decide)) e_))); replace BK449 := Aside0.mk (blk_kept (zB BK449) hkp (fun hs_ => Or.elim hs_ (fun e_ => (fun e_ => (Kd.R_ne HO_465000.out BK449.out (by decide)) e_) e_) (fun e_ => (fun e_ => Kd.typed_box e_.2.2.2 (zB BK449) (by decide)) e_))); replace BK456 := Aside0.mk (blk_kept (zB BK456) hkp (fun hs_ => Or.elim hs_ (fun e_ => (fun e_ => (Kd.R_ne HO_465000.out BK456.out (by decide)) e_) e_) (fun e_ => (fun e_ => Kd.typed_box e_.2.2.2 (zB BK456) (by decide)) e_))); replace BK464 := Aside0.mk (blk_kept (zB BK464) hkp (fun hs_ => Or.elim hs_ (fun e_ => (fun e_ => (Kd.R_ne HO_465000.out BK464.out (by decide)) e_) e_) (fun e_ => (fun e_ => Kd.typed_box e_.2.2.2 (zB BK464) (by decide)) e_))); replace HO_465000 := Aside0.mk (Kd.R_reok rfl hy0 (fun k_ e_ => HO_465000.out.1 k_ e_)); replace HB := Aside0.mk (hb); (try clear hb); (try clear hkp); (try clear hy0); (try clear hy1); obtain ⟨hcz123_0, hcz123_1, hfz123_0, hfz123_1⟩ := z2 BK464) | ((with_reducible refine gate_callee (f := 41) rfl ?_); refine goesL_ (some 75) rfl rfl Tryd.func41 (by kernel_rfl) rfl #[.agg #[.slice Ao41 t478.length co41, .slice Ao46 t479.length co46], .int .i64 1] rfl ZZ355c03 ?_; (with_reducible refine (laws_heldLedger.calls kj69 _ _ t478 _ _ t479 1 t480 _ ?side1 ?side2 ?side3 ?side4 A103.out).mono ?_); (case side1 => exact rC (Kd.R_reads' HO_465000.out).2.2); (case side2 => rw [show t478.length = t457.length from (Kd.R_reads' HO_465000.out).1.symm]; exact (Kd.R_reads' HO_465000.out).2.1); (case side3 => exact rC (Kd.S_reads' HO_465001.out).2.2); (case side4 => rw [show t479.length = t460.length from (Kd.S_reads' HO_465001.out).1.symm]; exact (Kd.S_reads' HO_465001.out).2.1); rintro e w124 ⟨rfl, hb⟩; refine ⟨_, rfl, ?_⟩; replace HO_450000 := Aside0.mk (Kd.R_below (zR HO_450000) hb); replace HO_450001 := Aside0.mk (Kd.S_below (zS HO_450001) hb); replace HO_457000 := Aside0.mk (Kd.R_below (zR HO_457000) hb); replace HO_457001 := Aside0.mk (Kd.S_below (zS HO_457001) hb); replace HO_465000 := Aside0.mk (Kd.R_below (zR HO_465000) hb); replace HO_465001 := Aside0.mk (Kd.S_below (zS HO_465001) hb); replace BK434 := kb BK434 hb; replace BK449 := kb BK449 hb; replace BK456 := kb BK456 hb; replace BK464 := kb BK464 hb; replace HB := hB hb; (try clear hb); (try clear hb2); (try clear hk); (try clear hi); have hnb125 := NB434_449.out; have hnc125 := NB449_434.out; have hnb126 := NB434_456.out; have hnc126 := NB456_434.out; obtain ⟨hcz127_0, hcz127_1, hfz127_0, hfz127_1⟩ := z2 BK434) | (refine gc 83 Tryd.func16 #[.agg #[.slice A0_0 l0_0.length c0_0, .slice A0_1 l0_1.length c0_1]] ?_; (with_reducible refine (laws_toLedger.calls kj69 _ _ l0_0 _ _ l0_1 t481 t484 _ ?side1 ?side2 ?side3 ?side4 A114.out).mono ?_); (case side1 => exact (rC (Kd.C_below HR0_0.out HB.out))); (case side2 => exact HC0_0.out); (case side3 => exact (rC (Kd.C_below HR0_1.out HB.out))); (case side4 => exact HC0_1.out); rintro e w128 ⟨v482, v485, rfl, ho0, ho1, hb⟩; refine ⟨_, rfl, ?_⟩; obtain ⟨ga129, hga129⟩ := Kd.age hb; have HO483 := Aside0.mk (Kd.R_lower (Kd.R_new' (Kd.R_new' (Kd.R_new' ho0 (Kd.R_lt (zR HO_450000))) (Kd.R_lt (zR HO_457000))) (Kd.R_lt (zR HO_465000))) (below_size ZZ295621)); replace HO_450000 := Aside0.mk (Kd.R_elder' (zR HO_450000) (Kd.R_base ho0) hb); replace HO_457000 := Aside0.mk (Kd.R_elder' (zR HO_457000) (Kd.R_base ho0) hb); replace HO_465000 := Aside0.mk (Kd.R_elder' (zR HO_465000) (Kd.R_base ho0) hb); have HO486 := Aside0.mk (Kd.S_lower (Kd.S_agen (Kd.S_new' (Kd.S_new' (Kd.S_new' ho1 (Kd.S_lt (zS HO_450001))) (Kd.S_lt (zS HO_457001))) (Kd.S_lt (zS HO_465001))) hga129) (below_size ZZ295621)); replace HO_450001 := Aside0.mk (Kd.S_elder' (Kd.S_ageo (zS HO_450001) hga129) (Kd.S_base ho1) hb); replace HO_457001 := Aside0.mk (Kd.S_elder' (Kd.S_ageo (zS HO_457001) hga129) (Kd.S_base ho1) hb); replace HO_465001 := Aside0.mk (Kd.S_elder' (Kd.S_ageo (zS HO_465001) hga129) (Kd.S_base ho1) hb); replace BK434 := kb BK434 hb; replace BK449 := kb BK449 hb; replace BK456 := kb BK456 hb; replace BK464 := kb BK464 hb; replace HB := hB hb; (try clear hb); (try clear hb2); (try clear hk); (try clear hi); (try clear ho0); (try clear ho1); obtain ⟨Ao130, co130, eo130⟩ := Kd.R_slice HO483.out; subst eo130; obtain ⟨Ao131, co131, eo131⟩ := Kd.S_slice HO486.out; subst eo131) | (refine gc 86 Tryd.func43 #[.agg #[.slice Ao130 t481.length co130, .slice Ao131 t484.length co131], .int .i64 a1, .int .i64 a2] ?_; (with_reducible refine (impl_ReverseEntry.calls kj69 _ _ t481 _ _ t484 a1 a2 t487 t490 t493 _ ?side1 ?side2 ?side3 ?side4 ?side5 A115.out).mono ?_); (case side1 => exact rC (Kd.R_reads' HO483.out).2.2); (case side2 => exact (Kd.R_reads' HO483.out).2.1); (case side3 => exact rC (Kd.S_reads' HO486.out).2.2); (case side4 => exact (Kd.S_reads' HO486.out).2.1); (case side5 => first | (with_reducible exact HV.out) | exact TInv.below HV.out ZZ295621); rintro e w132 ⟨v488, v491, rfl, ho0, ho1, hb⟩; refine ⟨_, rfl, ?_⟩; obtain ⟨ga133, hga133⟩ := Kd.age hb; have HO489 := Aside0.mk (Kd.R_lower (Kd.R_new' (Kd.R_new' (Kd.R_new' (Kd.R_new' ho0 (Kd.R_lt (zR HO_450000))) (Kd.R_lt (zR HO_457000))) (Kd.R_lt (zR HO_465000))) (Kd.R_lt (zR HO483))) (below_size ZZ295621)); replace HO_450000 := Aside0.mk (Kd.R_elder' (zR HO_450000) (Kd.R_base ho0) hb); replace HO_457000 := Aside0.mk (Kd.R_elder' (zR HO_457000) (Kd.R_base ho0) hb); replace HO_465000 := Aside0.mk (Kd.R_elder' (zR HO_465000) (Kd.R_base ho0) hb); replace HO483 := Aside0.mk (Kd.R_elder' (zR HO483) (Kd.R_base ho0) hb); have HO492 := Aside0.mk (Kd.S_lower (Kd.S_agen (Kd.S_new' (Kd.S_new' (Kd.S_new' (Kd.S_new' ho1 (Kd.S_lt (zS HO_450001))) (Kd.S_lt (zS HO_457001))) (Kd.S_lt (zS HO_465001))) (Kd.S_lt (zS HO486))) hga133) (below_size ZZ295621)); replace HO_450001 := Aside0.mk (Kd.S_elder' (Kd.S_ageo (zS HO_450001) hga133) (Kd.S_base ho1) hb); replace HO_457001 := Aside0.mk (Kd.S_elder' (Kd.S_ageo (zS HO_457001) hga133) (Kd.S_base ho1) hb); replace HO_465001 := Aside0.mk (Kd.S_elder' (Kd.S_ageo (zS HO_465001) hga133) (Kd.S_base ho1) hb); replace HO486 := Aside0.mk (Kd.S_elder' (Kd.S_ageo (zS HO486) hga133) (Kd.S_base ho1) hb); replace BK434 := kb BK434 hb; replace BK449 := kb BK449 hb; replace BK456 := kb BK456 hb; replace BK464 := kb BK464 hb; replace HB := hB hb; (try clear hb); (try clear hb2); (try clear hk); (try clear hi); (try clear ho0); (try clear ho1)) | ((with_reducible refine gate_dst (N := 16) rfl ?_); refine bx 16 (cs := #[.slice none 0 0, .slice none 0 0]) (t := 31) ?_; intro gb494 hg w134 hbox hb; replace HO_450000 := Aside0.mk (Kd.R_below (zR HO_450000) hb); replace HO_450001 := Aside0.mk (Kd.S_below (zS HO_450001) hb); replace HO_457000 := Aside0.mk (Kd.R_below (zR HO_457000) hb); replace HO_457001 := Aside0.mk (Kd.S_below (zS HO_457001) hb); replace HO_465000 := Aside0.mk (Kd.R_below (zR HO_465000) hb); replace HO_465001 := Aside0.mk (Kd.S_below (zS HO_465001) hb); replace HO483 := Aside0.mk (Kd.R_below (zR HO483) hb); replace HO486 := Aside0.mk (Kd.S_below (zS HO486) hb); replace HO489 := Aside0.mk (Kd.R_below (zR HO489) hb); replace HO492 := Aside0.mk (Kd.S_below (zS HO492) hb); have BK494 := Aside0.mk (hbox); have GW494 := gw hg; have GE494 := gw hg; replace HB := hB hb; have NB434_494 := nl hg BK434; have NB494_434 := ng hg BK434; replace BK434 := kb BK434 hb; have NB449_494 := nl hg BK449; have NB494_449 := ng hg BK449; replace BK449 := kb BK449 hb; have NB456_494 := nl hg BK456; have NB494_456 := ng hg BK456; replace BK456 := kb BK456 hb; have NB464_494 := nl hg BK464; have NB494_464 := ng hg BK464; replace BK464 := kb BK464 hb; clear hb hbox hg; obtain ⟨Ao135, co135, eo135⟩ := Kd.R_slice HO489.out; subst eo135; have hnb136 := NB494_434.out; have hnc136 := NB434_494.out; have hnb137 := NB494_449.out; have hnc137 := NB449_494.out; have hnb138 := NB494_456.out; have hnc138 := NB456_494.out; have hnb139 := NB494_464.out; have hnc139 := NB464_494.out; obtain ⟨hcz140_0, hcz140_1, hfz140_0, hfz140_1⟩ := z2 BK494; obtain ⟨Ao141, co141, eo141⟩ := Kd.S_slice HO492.out; subst eo141))
       (try simp only [Act.put, List.setIfInBounds_toArray, List.set_cons_zero, List.set_cons_succ])
       go_cut [97] (fun v97 wc => ∃ (kq : Nat) (x97_115 : Bool), v97 = .bool x97_115 ∧ Aside0 (laws_FnExactReverseEntry.j2 kq t477 x97_115 t478 t479 = some r) ∧ Aside0 (kq ≤ kj69) ∧ Aside0 (Kd.R k48 48 wc w.heap.size (fun k_ => some k_ ≠ ((.slice Ao33 t474.length co33) : Value).ownBlock ∧ some k_ ≠ ((.slice Ao41 t457.length co41) : Value).ownBlock ∧ some k_ ≠ ((.slice Ao135 t487.length co135) : Value).ownBlock) (.slice Ao25 t442.length co25) t442) ∧ Aside0 (Kd.S k63 63 wc w.heap.size (fun k_ => some k_ ≠ ((.slice Ao37 t475.length co37) : Value).ownBlock ∧ some k_ ≠ ((.slice Ao46 t460.length co46) : Value).ownBlock ∧ some k_ ≠ ((.slice Ao141 t490.length co141) : Value).ownBlock ∧ ga23 ≤ k_ ∧ k_ < ga31 ∧ k_ < ga39 ∧ k_ < ga81 ∧ k_ < ga122 ∧ k_ < ga129 ∧ k_ < ga133) (.slice Ao28 t445.length co28) t445) ∧ Aside0 (Kd.R k48 48 wc w.heap.size (fun k_ => some k_ ≠ ((.slice Ao25 t442.length co25) : Value).ownBlock ∧ some k_ ≠ ((.slice Ao41 t457.length co41) : Value).ownBlock ∧ some k_ ≠ ((.slice Ao135 t487.length co135) : Value).ownBlock) (.slice Ao33 t474.length co33) t474) ∧ Aside0 (Kd.S k63 63 wc w.heap.size (fun k_ => some k_ ≠ ((.slice Ao28 t445.length co28) : Value).ownBlock ∧ some k_ ≠ ((.slice Ao46 t460.length co46) : Value).ownBlock ∧ some k_ ≠ ((.slice Ao141 t490.length co141) : Value).ownBlock ∧ (k_ < ga39 ∨ ga81 ≤ k_) ∧ k_ < ga122 ∧ k_ < ga129 ∧ k_ < ga133) (.slice Ao37 t475.length co37) t475) ∧ Aside0 (Kd.R k48 48 wc w.heap.size (fun k_ => some k_ ≠ ((.slice Ao25 t442.length co25) : Value).ownBlock ∧ some k_ ≠ ((.slice Ao33 t474.length co33) : Value).ownBlock ∧ some k_ ≠ ((.slice Ao135 t487.length co135) : Value).ownBlock) (.slice Ao41 t457.length co41) t478) ∧ Aside0 (Kd.S k63 63 wc w.heap.size (fun k_ => some k_ ≠ ((.slice Ao28 t445.length co28) : Value).ownBlock ∧ some k_ ≠ ((.slice Ao37 t475.length co37) : Value).ownBlock ∧ some k_ ≠ ((.slice Ao141 t490.length co141) : Value).ownBlock ∧ (k_ < ga81 ∨ ga122 ≤ k_) ∧ k_ < ga129 ∧ k_ < ga133) (.slice Ao46 t460.length co46) t479) ∧ Aside0 (Kd.R k48 48 wc w.heap.size (fun k_ => some k_ ≠ ((.slice Ao25 t442.length co25) : Value).ownBlock ∧ some k_ ≠ ((.slice Ao33 t474.length co33) : Value).ownBlock ∧ some k_ ≠ ((.slice Ao41 t457.length co41) : Value).ownBlock) (.slice Ao135 t487.length co135) t487) ∧ Aside0 (Kd.S k63 63 wc w.heap.size (fun k_ => some k_ ≠ ((.slice Ao28 t445.length co28) : Value).ownBlock ∧ some k_ ≠ ((.slice Ao37 t475.length co37) : Value).ownBlock ∧ some k_ ≠ ((.slice Ao46 t460.length co46) : Value).ownBlock ∧ ga133 ≤ k_) (.slice Ao141 t490.length co141) t490) ∧ Aside0 (wc.heap[gb434]? = some (.cells #[(.slice A0_0 l0_0.length c0_0), (.slice A0_1 l0_1.length c0_1)] 25 (0, 0))) ∧ Aside0 (wc.heap[gb449]? = some (.cells #[(.slice Ao25 t442.length co25), (.slice Ao28 t445.length co28)] 31 (0, 0))) ∧ Aside0 (wc.heap[gb456]? = some (.cells #[(.slice Ao33 t474.length co33), (.slice Ao37 t475.length co37)] 31 (0, 0))) ∧ Aside0 (wc.heap[gb464]? = some (.cells #[(.slice Ao41 t457.length co41), (.slice Ao46 t460.length co46)] 31 (0, 0))) ∧ Aside0 (wc.heap[gb494]? = some (.cells #[(.slice Ao135 t487.length co135), (.slice Ao141 t490.length co141)] 31 (0, 0))) ∧ Aside0 (Below w.heap.size w wc))
       case first =>
        have H := HC116.out
        clear HC116
        obtain ⟨t495, A142, H⟩ := bdY H
        have hnb144 := NB494_434.out
        have hnc144 := NB434_494.out
        have hnb145 := NB494_449.out
        have hnc145 := NB449_494.out
        have hnb146 := NB494_456.out
        have hnc146 := NB456_494.out
        have hnb147 := NB494_464.out
        have hnc147 := NB464_494.out
        obtain ⟨hcz148_0, hcz148_1, hfz148_0, hfz148_1⟩ := z2 BK494
        have hnb149 := NB449_434.out
        have hnc149 := NB434_449.out
        have hnb150 := NB449_456.out
        have hnc150 := NB456_449.out
        have hnb151 := NB449_464.out
        have hnc151 := NB464_449.out
        obtain ⟨hcz152_0, hcz152_1, hfz152_0, hfz152_1⟩ := z2 BK449
        by_cases c143 : t495 = true
        ·subst c143
         replace H := ifT H
         replace H := Aside0.mk H
         go_wp2_with (first | (refine gc 91 Tryd.func18 #[.agg #[.slice Ao135 t487.length co135, .slice Ao141 t490.length co141], .agg #[.slice Ao25 t442.length co25, .slice Ao28 t445.length co28]] ?_; (with_reducible refine (laws_eqLedger.calls kj69 _ _ t487 _ _ t490 _ _ t442 _ _ t445 true _ ?side1 ?side2 ?side3 ?side4 ?side5 ?side6 ?side7 ?side8 A142.out).mono ?_); (case side1 => exact (Kd.R_reads' (e := 48) (base := w.heap.size) (n := t487.length) (c := co135) ZZd8e1b6).2.2); (case side2 => exact (Kd.R_reads' HO489.out).2.1); (case side3 => exact (Kd.S_reads' (e := 63) (base := w.heap.size) (n := t490.length) (c := co141) ZZ06d4f3).2.2); (case side4 => exact (Kd.S_reads' HO492.out).2.1); (case side5 => exact (Kd.R_reads' (e := 48) (base := w.heap.size) (n := t442.length) (c := co25) ZZ219caa).2.2); (case side6 => exact (Kd.R_reads' HO_450000.out).2.1); (case side7 => exact (Kd.S_reads' (e := 63) (base := w.heap.size) (n := t445.length) (c := co28) ZZ73311a).2.2); (case side8 => exact (Kd.S_reads' HO_450001.out).2.1); rintro e w153 ⟨rfl, hb⟩; refine ⟨_, rfl, ?_⟩; replace HO_450000 := Aside0.mk (Kd.R_below ZZ219caa hb); replace HO_450001 := Aside0.mk (Kd.S_below ZZ73311a hb); replace HO_457000 := Aside0.mk (Kd.R_below (by refine bR ?_; exact (Kd.R_mono (Kd.R_far (p := ⟨gb494, 1, none⟩) (Kd.R_far (p := ⟨gb494, 0, none⟩) (Kd.R_types HO_457000.out BK494.out (by decide)) (fun _ hk => hk.2) (.slice Ao135 t487.length co135)) (fun _ hk => hk.2) (.slice Ao141 t490.length co141)) (fun _ h_ => h_.1))) hb); replace HO_457001 := Aside0.mk (Kd.S_below (by refine bS ?_; exact (Kd.S_mono (Kd.S_far (p := ⟨gb494, 1, none⟩) (Kd.S_far (p := ⟨gb494, 0, none⟩) (Kd.S_types HO_457001.out BK494.out (by decide)) (fun _ hk => hk.2) (.slice Ao135 t487.length co135)) (fun _ hk => hk.2) (.slice Ao141 t490.length co141)) (fun _ h_ => h_.1))) hb); replace HO_465000 := Aside0.mk (Kd.R_below (by refine bR ?_; exact (Kd.R_mono (Kd.R_far (p := ⟨gb494, 1, none⟩) (Kd.R_far (p := ⟨gb494, 0, none⟩) (Kd.R_types HO_465000.out BK494.out (by decide)) (fun _ hk => hk.2) (.slice Ao135 t487.length co135)) (fun _ hk => hk.2) (.slice Ao141 t490.length co141)) (fun _ h_ => h_.1))) hb); replace HO_465001 := Aside0.mk (Kd.S_below (by refine bS ?_; exact (Kd.S_mono (Kd.S_far (p := ⟨gb494, 1, none⟩) (Kd.S_far (p := ⟨gb494, 0, none⟩) (Kd.S_types HO_465001.out BK494.out (by decide)) (fun _ hk => hk.2) (.slice Ao135 t487.length co135)) (fun _ hk => hk.2) (.slice Ao141 t490.length co141)) (fun _ h_ => h_.1))) hb); replace HO483 := Aside0.mk (Kd.R_below (by refine bR ?_; exact (Kd.R_mono (Kd.R_far (p := ⟨gb494, 1, none⟩) (Kd.R_far (p := ⟨gb494, 0, none⟩) (Kd.R_types HO483.out BK494.out (by decide)) (fun _ hk => hk.2) (.slice Ao135 t487.length co135)) (fun _ hk => hk.2) (.slice Ao141 t490.length co141)) (fun _ h_ => h_.1))) hb); replace HO486 := Aside0.mk (Kd.S_below (by refine bS ?_; exact (Kd.S_mono (Kd.S_far (p := ⟨gb494, 1, none⟩) (Kd.S_far (p := ⟨gb494, 0, none⟩) (Kd.S_types HO486.out BK494.out (by decide)) (fun _ hk => hk.2) (.slice Ao135 t487.length co135)) (fun _ hk => hk.2) (.slice Ao141 t490.length co141)) (fun _ h_ => h_.1))) hb); replace HO489 := Aside0.mk (Kd.R_below ZZd8e1b6 hb); replace HO492 := Aside0.mk (Kd.S_below ZZ06d4f3 hb); replace BK434 := Aside0.mk (blk_below (g := gb434) (o := .cells #[.slice A0_0 l0_0.length c0_0, .slice A0_1 l0_1.length c0_1] 25 (0, 0)) (by refine bd ?_; refine blk_far ?_ NB434_494.out _; refine bd ?_; refine blk_far ?_ NB434_494.out _; refine bd ?_; exact BK434.out) hb); replace BK449 := Aside0.mk (blk_below (g := gb449) (o := .cells #[.slice Ao25 t442.length co25, .slice Ao28 t445.length co28] 31 (0, 0)) (by refine bd ?_; refine blk_far ?_ NB449_494.out _; refine bd ?_; refine blk_far ?_ NB449_494.out _; refine bd ?_; exact BK449.out) hb); replace BK456 := Aside0.mk (blk_below (g := gb456) (o := .cells #[.slice Ao33 t474.length co33, .slice Ao37 t475.length co37] 31 (0, 0)) (by refine bd ?_; refine blk_far ?_ NB456_494.out _; refine bd ?_; refine blk_far ?_ NB456_494.out _; refine bd ?_; exact BK456.out) hb); replace BK464 := Aside0.mk (blk_below (g := gb464) (o := .cells #[.slice Ao41 t457.length co41, .slice Ao46 t460.length co46] 31 (0, 0)) (by refine bd ?_; refine blk_far ?_ NB464_494.out _; refine bd ?_; refine blk_far ?_ NB464_494.out _; refine bd ?_; exact BK464.out) hb); replace BK494 := Aside0.mk (blk_below (g := gb494) (o := .cells #[.slice Ao135 t487.length co135, .slice Ao141 t490.length co141] 31 (0, 0)) (by refine bd ?_; refine blk_put (cs := #[.slice Ao135 t487.length co135, .slice none 0 0]) ?_ 1 _ rfl; refine bd ?_; refine blk_put (cs := #[.slice none 0 0, .slice none 0 0]) ?_ 0 _ rfl; refine bd ?_; exact BK494.out) hb); replace HB := hB hb; (try clear hb); (try clear hb2); (try clear hk); (try clear hi)))
         go_meet
         case rel => exact ⟨_, ((t493 != t448)), ZZ0ab324, H, kle, ⟨(by (try simp only [hl457000_69]); (try simp only [hl457001_69]); refine bR ?_; exact Kd.R_mono HO_450000.out (fun _ hk => ⟨hk.1.1.1, ⟨hk.1.1.2, hk.2⟩⟩))⟩, ⟨(by (try simp only [hl457000_69]); (try simp only [hl457001_69]); refine bS ?_; exact Kd.S_mono HO_450001.out (fun _ hk => ⟨hk.1.1.1.1.1, ⟨hk.1.1.1.1.2.1, ⟨hk.2, ⟨hk.1.1.1.1.2.2.1, ⟨hk.1.1.1.1.2.2.2.1, ⟨hk.1.1.1.1.2.2.2.2.1, ⟨hk.1.1.1.1.2.2.2.2.2.1, ⟨hk.1.1.1.1.2.2.2.2.2.2, ⟨hk.1.1.1.2, hk.1.2⟩⟩⟩⟩⟩⟩⟩⟩⟩))⟩, ⟨(by (try simp only [hl457000_69]); (try simp only [hl457001_69]); refine bR ?_; exact Kd.R_mono HO_457000.out (fun _ hk => ⟨hk.1.1.1, ⟨hk.1.1.2, hk.2⟩⟩))⟩, ⟨(by (try simp only [hl457000_69]); (try simp only [hl457001_69]); refine bS ?_; exact Kd.S_mono HO_457001.out (fun _ hk => ⟨hk.1.1.1.1.1, ⟨hk.1.1.1.1.2.1, ⟨hk.2, ⟨hk.1.1.1.1.2.2.1, ⟨hk.1.1.1.1.2.2.2, ⟨hk.1.1.1.2, hk.1.2⟩⟩⟩⟩⟩⟩))⟩, ⟨(by (try simp only [hl457000_69]); (try simp only [hl457001_69]); refine bR ?_; exact Kd.R_mono HO_465000.out (fun _ hk => ⟨hk.1.1.1, ⟨hk.1.1.2, hk.2⟩⟩))⟩, ⟨(by (try simp only [hl457000_69]); (try simp only [hl457001_69]); refine bS ?_; exact Kd.S_mono HO_465001.out (fun _ hk => ⟨hk.1.1.1.1.1, ⟨hk.1.1.1.1.2.1, ⟨hk.2, ⟨hk.1.1.1.1.2.2, ⟨hk.1.1.1.2, hk.1.2⟩⟩⟩⟩⟩))⟩, ⟨(by (try simp only [hl457000_69]); (try simp only [hl457001_69]); refine bR ?_; exact Kd.R_mono HO489.out (fun _ hk => ⟨hk.1.1.1.2, ⟨hk.1.1.2, hk.1.2⟩⟩))⟩, ⟨(by (try simp only [hl457000_69]); (try simp only [hl457001_69]); refine bS ?_; exact Kd.S_mono HO492.out (fun _ hk => ⟨hk.1.1.1.1.2, ⟨hk.1.1.1.2, ⟨hk.1.1.2, hk.2⟩⟩⟩))⟩, ⟨(by (try simp only [hl457000_69]); (try simp only [hl457001_69]); refine bd ?_; exact BK434.out)⟩, ⟨(by (try simp only [hl457000_69]); (try simp only [hl457001_69]); refine bd ?_; exact BK449.out)⟩, ⟨(by (try simp only [hl457000_69]); (try simp only [hl457001_69]); refine bd ?_; exact BK456.out)⟩, ⟨(by (try simp only [hl457000_69]); (try simp only [hl457001_69]); refine bd ?_; exact BK464.out)⟩, ⟨(by (try simp only [hl457000_69]); (try simp only [hl457001_69]); refine bd ?_; exact BK494.out)⟩, ⟨ZZ295621⟩⟩
        replace c143 := Bool.eq_false_iff.mpr c143
        subst c143
        replace H := ifF H
        replace H := Aside0.mk H
        go_wp2_with (first | (refine gc 91 Tryd.func18 #[.agg #[.slice Ao135 t487.length co135, .slice Ao141 t490.length co141], .agg #[.slice Ao25 t442.length co25, .slice Ao28 t445.length co28]] ?_; (with_reducible refine (laws_eqLedger.calls kj69 _ _ t487 _ _ t490 _ _ t442 _ _ t445 false _ ?side1 ?side2 ?side3 ?side4 ?side5 ?side6 ?side7 ?side8 A142.out).mono ?_); (case side1 => exact (Kd.R_reads' (e := 48) (base := w.heap.size) (n := t487.length) (c := co135) ZZd8e1b6).2.2); (case side2 => exact (Kd.R_reads' HO489.out).2.1); (case side3 => exact (Kd.S_reads' (e := 63) (base := w.heap.size) (n := t490.length) (c := co141) ZZ06d4f3).2.2); (case side4 => exact (Kd.S_reads' HO492.out).2.1); (case side5 => exact (Kd.R_reads' (e := 48) (base := w.heap.size) (n := t442.length) (c := co25) ZZ219caa).2.2); (case side6 => exact (Kd.R_reads' HO_450000.out).2.1); (case side7 => exact (Kd.S_reads' (e := 63) (base := w.heap.size) (n := t445.length) (c := co28) ZZ73311a).2.2); (case side8 => exact (Kd.S_reads' HO_450001.out).2.1); rintro e w163 ⟨rfl, hb⟩; refine ⟨_, rfl, ?_⟩; replace HO_450000 := Aside0.mk (Kd.R_below ZZ219caa hb); replace HO_450001 := Aside0.mk (Kd.S_below ZZ73311a hb); replace HO_457000 := Aside0.mk (Kd.R_below (by refine bR ?_; exact (Kd.R_mono (Kd.R_far (p := ⟨gb494, 1, none⟩) (Kd.R_far (p := ⟨gb494, 0, none⟩) (Kd.R_types HO_457000.out BK494.out (by decide)) (fun _ hk => hk.2) (.slice Ao135 t487.length co135)) (fun _ hk => hk.2) (.slice Ao141 t490.length co141)) (fun _ h_ => h_.1))) hb); replace HO_457001 := Aside0.mk (Kd.S_below (by refine bS ?_; exact (Kd.S_mono (Kd.S_far (p := ⟨gb494, 1, none⟩) (Kd.S_far (p := ⟨gb494, 0, none⟩) (Kd.S_types HO_457001.out BK494.out (by decide)) (fun _ hk => hk.2) (.slice Ao135 t487.length co135)) (fun _ hk => hk.2) (.slice Ao141 t490.length co141)) (fun _ h_ => h_.1))) hb); replace HO_465000 := Aside0.mk (Kd.R_below (by refine bR ?_; exact (Kd.R_mono (Kd.R_far (p := ⟨gb494, 1, none⟩) (Kd.R_far (p := ⟨gb494, 0, none⟩) (Kd.R_types HO_465000.out BK494.out (by decide)) (fun _ hk => hk.2) (.slice Ao135 t487.length co135)) (fun _ hk => hk.2) (.slice Ao141 t490.length co141)) (fun _ h_ => h_.1))) hb); replace HO_465001 := Aside0.mk (Kd.S_below (by refine bS ?_; exact (Kd.S_mono (Kd.S_far (p := ⟨gb494, 1, none⟩) (Kd.S_far (p := ⟨gb494, 0, none⟩) (Kd.S_types HO_465001.out BK494.out (by decide)) (fun _ hk => hk.2) (.slice Ao135 t487.length co135)) (fun _ hk => hk.2) (.slice Ao141 t490.length co141)) (fun _ h_ => h_.1))) hb); replace HO483 := Aside0.mk (Kd.R_below (by refine bR ?_; exact (Kd.R_mono (Kd.R_far (p := ⟨gb494, 1, none⟩) (Kd.R_far (p := ⟨gb494, 0, none⟩) (Kd.R_types HO483.out BK494.out (by decide)) (fun _ hk => hk.2) (.slice Ao135 t487.length co135)) (fun _ hk => hk.2) (.slice Ao141 t490.length co141)) (fun _ h_ => h_.1))) hb); replace HO486 := Aside0.mk (Kd.S_below (by refine bS ?_; exact (Kd.S_mono (Kd.S_far (p := ⟨gb494, 1, none⟩) (Kd.S_far (p := ⟨gb494, 0, none⟩) (Kd.S_types HO486.out BK494.out (by decide)) (fun _ hk => hk.2) (.slice Ao135 t487.length co135)) (fun _ hk => hk.2) (.slice Ao141 t490.length co141)) (fun _ h_ => h_.1))) hb); replace HO489 := Aside0.mk (Kd.R_below ZZd8e1b6 hb); replace HO492 := Aside0.mk (Kd.S_below ZZ06d4f3 hb); replace BK434 := Aside0.mk (blk_below (g := gb434) (o := .cells #[.slice A0_0 l0_0.length c0_0, .slice A0_1 l0_1.length c0_1] 25 (0, 0)) (by refine bd ?_; refine blk_far ?_ NB434_494.out _; refine bd ?_; refine blk_far ?_ NB434_494.out _; refine bd ?_; exact BK434.out) hb); replace BK449 := Aside0.mk (blk_below (g := gb449) (o := .cells #[.slice Ao25 t442.length co25, .slice Ao28 t445.length co28] 31 (0, 0)) (by refine bd ?_; refine blk_far ?_ NB449_494.out _; refine bd ?_; refine blk_far ?_ NB449_494.out _; refine bd ?_; exact BK449.out) hb); replace BK456 := Aside0.mk (blk_below (g := gb456) (o := .cells #[.slice Ao33 t474.length co33, .slice Ao37 t475.length co37] 31 (0, 0)) (by refine bd ?_; refine blk_far ?_ NB456_494.out _; refine bd ?_; refine blk_far ?_ NB456_494.out _; refine bd ?_; exact BK456.out) hb); replace BK464 := Aside0.mk (blk_below (g := gb464) (o := .cells #[.slice Ao41 t457.length co41, .slice Ao46 t460.length co46] 31 (0, 0)) (by refine bd ?_; refine blk_far ?_ NB464_494.out _; refine bd ?_; refine blk_far ?_ NB464_494.out _; refine bd ?_; exact BK464.out) hb); replace BK494 := Aside0.mk (blk_below (g := gb494) (o := .cells #[.slice Ao135 t487.length co135, .slice Ao141 t490.length co141] 31 (0, 0)) (by refine bd ?_; refine blk_put (cs := #[.slice Ao135 t487.length co135, .slice none 0 0]) ?_ 1 _ rfl; refine bd ?_; refine blk_put (cs := #[.slice none 0 0, .slice none 0 0]) ?_ 0 _ rfl; refine bd ?_; exact BK494.out) hb); replace HB := hB hb; (try clear hb); (try clear hb2); (try clear hk); (try clear hi)))
        go_meet
        case rel => exact ⟨_, (true), ZZ0ab324, H, kle, ⟨(by (try simp only [hl457000_69]); (try simp only [hl457001_69]); refine bR ?_; exact Kd.R_mono HO_450000.out (fun _ hk => ⟨hk.1.1.1, ⟨hk.1.1.2, hk.2⟩⟩))⟩, ⟨(by (try simp only [hl457000_69]); (try simp only [hl457001_69]); refine bS ?_; exact Kd.S_mono HO_450001.out (fun _ hk => ⟨hk.1.1.1.1.1, ⟨hk.1.1.1.1.2.1, ⟨hk.2, ⟨hk.1.1.1.1.2.2.1, ⟨hk.1.1.1.1.2.2.2.1, ⟨hk.1.1.1.1.2.2.2.2.1, ⟨hk.1.1.1.1.2.2.2.2.2.1, ⟨hk.1.1.1.1.2.2.2.2.2.2, ⟨hk.1.1.1.2, hk.1.2⟩⟩⟩⟩⟩⟩⟩⟩⟩))⟩, ⟨(by (try simp only [hl457000_69]); (try simp only [hl457001_69]); refine bR ?_; exact Kd.R_mono HO_457000.out (fun _ hk => ⟨hk.1.1.1, ⟨hk.1.1.2, hk.2⟩⟩))⟩, ⟨(by (try simp only [hl457000_69]); (try simp only [hl457001_69]); refine bS ?_; exact Kd.S_mono HO_457001.out (fun _ hk => ⟨hk.1.1.1.1.1, ⟨hk.1.1.1.1.2.1, ⟨hk.2, ⟨hk.1.1.1.1.2.2.1, ⟨hk.1.1.1.1.2.2.2, ⟨hk.1.1.1.2, hk.1.2⟩⟩⟩⟩⟩⟩))⟩, ⟨(by (try simp only [hl457000_69]); (try simp only [hl457001_69]); refine bR ?_; exact Kd.R_mono HO_465000.out (fun _ hk => ⟨hk.1.1.1, ⟨hk.1.1.2, hk.2⟩⟩))⟩, ⟨(by (try simp only [hl457000_69]); (try simp only [hl457001_69]); refine bS ?_; exact Kd.S_mono HO_465001.out (fun _ hk => ⟨hk.1.1.1.1.1, ⟨hk.1.1.1.1.2.1, ⟨hk.2, ⟨hk.1.1.1.1.2.2, ⟨hk.1.1.1.2, hk.1.2⟩⟩⟩⟩⟩))⟩, ⟨(by (try simp only [hl457000_69]); (try simp only [hl457001_69]); refine bR ?_; exact Kd.R_mono HO489.out (fun _ hk => ⟨hk.1.1.1.2, ⟨hk.1.1.2, hk.1.2⟩⟩))⟩, ⟨(by (try simp only [hl457000_69]); (try simp only [hl457001_69]); refine bS ?_; exact Kd.S_mono HO492.out (fun _ hk => ⟨hk.1.1.1.1.2, ⟨hk.1.1.1.2, ⟨hk.1.1.2, hk.2⟩⟩⟩))⟩, ⟨(by (try simp only [hl457000_69]); (try simp only [hl457001_69]); refine bd ?_; exact BK434.out)⟩, ⟨(by (try simp only [hl457000_69]); (try simp only [hl457001_69]); refine bd ?_; exact BK449.out)⟩, ⟨(by (try simp only [hl457000_69]); (try simp only [hl457001_69]); refine bd ?_; exact BK456.out)⟩, ⟨(by (try simp only [hl457000_69]); (try simp only [hl457001_69]); refine bd ?_; exact BK464.out)⟩, ⟨(by (try simp only [hl457000_69]); (try simp only [hl457001_69]); refine bd ?_; exact BK494.out)⟩, ⟨ZZ295621⟩⟩
       case rest =>
        clear HC116
        try clear c101
        try clear c104b0
        try clear c113b0
        try clear c113b1
        try clear c143
        try clear hcz108_0
        try clear hcz108_1
        try clear hcz111_0
        try clear hcz111_1
        try clear hcz120_0
        try clear hcz120_1
        try clear hcz123_0
        try clear hcz123_1
        try clear hcz127_0
        try clear hcz127_1
        try clear hcz140_0
        try clear hcz140_1
        try clear hcz148_0
        try clear hcz148_1
        try clear hcz152_0
        try clear hcz152_1
        try clear hcz158_0
        try clear hcz158_1
        try clear hcz162_0
        try clear hcz162_1
        try clear hfz108_0
        try clear hfz108_1
        try clear hfz111_0
        try clear hfz111_1
        try clear hfz120_0
        try clear hfz120_1
        try clear hfz123_0
        try clear hfz123_1
        try clear hfz127_0
        try clear hfz127_1
        try clear hfz140_0
        try clear hfz140_1
        try clear hfz148_0
        try clear hfz148_1
        try clear hfz152_0
        try clear hfz152_1
        try clear hfz158_0
        try clear hfz158_1
        try clear hfz162_0
        try clear hfz162_1
        obtain ⟨kq, x97_115, rfl, HA, HJ115, HO_450000, HO_450001, HO_457000, HO_457001, HO_465000, HO_465001, HO_495000, HO_495001, BK434, BK449, BK456, BK464, BK494, HB⟩ := hcut
        have hl465000_115 := (Kd.R_reads' HO_465000.out).1
        rw [hl465000_115] at HO_465000
        (try simp only [hl465000_115] at BK434 BK449 BK456 BK464 BK494 HO_450000 HO_450001 HO_457000 HO_457001 HO_465001 HO_495000 HO_495001 ⊢)
        have hl465001_115 := (Kd.S_reads' HO_465001.out).1
        rw [hl465001_115] at HO_465001
        (try simp only [hl465001_115] at BK434 BK449 BK456 BK464 BK494 HO_450000 HO_450001 HO_457000 HO_457001 HO_465000 HO_495000 HO_495001 ⊢)
        cases kq with
        | zero => exact absurd HA.out (by simp [laws_FnExactReverseEntry.j2])
        | succ kj115 =>
         have H := HA.out
         clear HA
         simp only [laws_FnExactReverseEntry.j2] at H
         by_cases c164 : x97_115 = true
         ·subst c164
          replace H := ifT H
          obtain rfl := Option.some.inj H
          go_wp2
          go_ret
          exact ⟨ZZab01d2, ZZ295621⟩
         replace c164 := Bool.eq_false_iff.mpr c164
         subst c164
         replace H := ifF H
         obtain ⟨t496, A165, H⟩ := bdY H
         by_cases c166 : t496 < 0
         ·rw [if_pos c166] at H
          have c166b0 := decide_eq_true c166
          clear c166
          obtain rfl := Option.some.inj H
          have hnb167 := NB464_434.out
          have hnc167 := NB434_464.out
          have hnb168 := NB464_449.out
          have hnc168 := NB449_464.out
          have hnb169 := NB464_456.out
          have hnc169 := NB456_464.out
          have hnb170 := NB464_494.out
          have hnc170 := NB494_464.out
          obtain ⟨hcz171_0, hcz171_1, hfz171_0, hfz171_1⟩ := z2 BK464
          go_wp2_with (first | (refine gc 100 Tryd.func41 #[.agg #[.slice Ao41 t478.length co41, .slice Ao46 t479.length co46], .int .i64 1] ?_; (with_reducible refine (laws_heldLedger.calls kj115 _ _ t478 _ _ t479 1 t496 _ ?side1 ?side2 ?side3 ?side4 A165.out).mono ?_); (case side1 => exact rC (Kd.R_reads' HO_465000.out).2.2); (case side2 => exact (Kd.R_reads' HO_465000.out).2.1); (case side3 => exact rC (Kd.S_reads' HO_465001.out).2.2); (case side4 => exact (Kd.S_reads' HO_465001.out).2.1); rintro e w172 ⟨rfl, hb⟩; refine ⟨_, rfl, ?_⟩; replace HO_450000 := Aside0.mk (Kd.R_below (zR HO_450000) hb); replace HO_450001 := Aside0.mk (Kd.S_below (zS HO_450001) hb); replace HO_457000 := Aside0.mk (Kd.R_below (zR HO_457000) hb); replace HO_457001 := Aside0.mk (Kd.S_below (zS HO_457001) hb); replace HO_465000 := Aside0.mk (Kd.R_below (zR HO_465000) hb); replace HO_465001 := Aside0.mk (Kd.S_below (zS HO_465001) hb); replace HO_495000 := Aside0.mk (Kd.R_below (zR HO_495000) hb); replace HO_495001 := Aside0.mk (Kd.S_below (zS HO_495001) hb); replace BK434 := kb BK434 hb; replace BK449 := kb BK449 hb; replace BK456 := kb BK456 hb; replace BK464 := kb BK464 hb; replace BK494 := kb BK494 hb; replace HB := hB hb; (try clear hb); (try clear hb2); (try clear hk); (try clear hi)))
          go_ret
          exact ⟨ZZab01d2, ZZ295621⟩
         rw [if_neg c166] at H
         have c166b0 := decide_eq_false c166
         clear c166
         by_cases c173 : t496 = t477
         ·rw [if_pos c173] at H
          have c173b0 := beq_iff_eq.mpr c173
          have c173b1 := bne_eq_false_iff_eq.mpr c173
          clear c173
          obtain rfl := Option.some.inj H
          have hnb174 := NB464_434.out
          have hnc174 := NB434_464.out
          have hnb175 := NB464_449.out
          have hnc175 := NB449_464.out
          have hnb176 := NB464_456.out
          have hnc176 := NB456_464.out
          have hnb177 := NB464_494.out
          have hnc177 := NB494_464.out
          obtain ⟨hcz178_0, hcz178_1, hfz178_0, hfz178_1⟩ := z2 BK464
          go_wp2_with (first | (refine gc 100 Tryd.func41 #[.agg #[.slice Ao41 t478.length co41, .slice Ao46 t479.length co46], .int .i64 1] ?_; (with_reducible refine (laws_heldLedger.calls kj115 _ _ t478 _ _ t479 1 t496 _ ?side1 ?side2 ?side3 ?side4 A165.out).mono ?_); (case side1 => exact rC (Kd.R_reads' HO_465000.out).2.2); (case side2 => exact (Kd.R_reads' HO_465000.out).2.1); (case side3 => exact rC (Kd.S_reads' HO_465001.out).2.2); (case side4 => exact (Kd.S_reads' HO_465001.out).2.1); rintro e w179 ⟨rfl, hb⟩; refine ⟨_, rfl, ?_⟩; replace HO_450000 := Aside0.mk (Kd.R_below (zR HO_450000) hb); replace HO_450001 := Aside0.mk (Kd.S_below (zS HO_450001) hb); replace HO_457000 := Aside0.mk (Kd.R_below (zR HO_457000) hb); replace HO_457001 := Aside0.mk (Kd.S_below (zS HO_457001) hb); replace HO_465000 := Aside0.mk (Kd.R_below (zR HO_465000) hb); replace HO_465001 := Aside0.mk (Kd.S_below (zS HO_465001) hb); replace HO_495000 := Aside0.mk (Kd.R_below (zR HO_495000) hb); replace HO_495001 := Aside0.mk (Kd.S_below (zS HO_495001) hb); replace BK434 := kb BK434 hb; replace BK449 := kb BK449 hb; replace BK456 := kb BK456 hb; replace BK464 := kb BK464 hb; replace BK494 := kb BK494 hb; replace HB := hB hb; (try clear hb); (try clear hb2); (try clear hk); (try clear hi)))
          go_ret
          exact ⟨ZZab01d2, ZZ295621⟩
         rw [if_neg c173] at H
         have c173b0 := beq_eq_false_iff_ne.mpr c173
         have c173b1 := bne_iff_ne.mpr c173
         obtain rfl := Option.some.inj H
         have hnb180 := NB464_434.out
         have hnc180 := NB434_464.out
         have hnb181 := NB464_449.out
         have hnc181 := NB449_464.out
         have hnb182 := NB464_456.out
         have hnc182 := NB456_464.out
         have hnb183 := NB464_494.out
         have hnc183 := NB494_464.out
         obtain ⟨hcz184_0, hcz184_1, hfz184_0, hfz184_1⟩ := z2 BK464
         go_wp2_with (first | (refine gc 100 Tryd.func41 #[.agg #[.slice Ao41 t478.length co41, .slice Ao46 t479.length co46], .int .i64 1] ?_; (with_reducible refine (laws_heldLedger.calls kj115 _ _ t478 _ _ t479 1 t496 _ ?side1 ?side2 ?side3 ?side4 A165.out).mono ?_); (case side1 => exact rC (Kd.R_reads' HO_465000.out).2.2); (case side2 => exact (Kd.R_reads' HO_465000.out).2.1); (case side3 => exact rC (Kd.S_reads' HO_465001.out).2.2); (case side4 => exact (Kd.S_reads' HO_465001.out).2.1); rintro e w185 ⟨rfl, hb⟩; refine ⟨_, rfl, ?_⟩; replace HO_450000 := Aside0.mk (Kd.R_below (zR HO_450000) hb); replace HO_450001 := Aside0.mk (Kd.S_below (zS HO_450001) hb); replace HO_457000 := Aside0.mk (Kd.R_below (zR HO_457000) hb); replace HO_457001 := Aside0.mk (Kd.S_below (zS HO_457001) hb); replace HO_465000 := Aside0.mk (Kd.R_below (zR HO_465000) hb); replace HO_465001 := Aside0.mk (Kd.S_below (zS HO_465001) hb); replace HO_495000 := Aside0.mk (Kd.R_below (zR HO_495000) hb); replace HO_495001 := Aside0.mk (Kd.S_below (zS HO_495001) hb); replace BK434 := kb BK434 hb; replace BK449 := kb BK449 hb; replace BK456 := kb BK456 hb; replace BK464 := kb BK464 hb; replace BK494 := kb BK494 hb; replace HB := hB hb; (try clear hb); (try clear hb2); (try clear hk); (try clear hi)))
         go_ret
         exact ⟨ZZab01d2, ZZ295621⟩
      rw [if_neg c113] at H
      have c113b0 := beq_eq_false_iff_ne.mpr c113
      have c113b1 := bne_iff_ne.mpr c113
      obtain rfl := Option.some.inj H
      have hnb186 := NB464_434.out
      have hnc186 := NB434_464.out
      have hnb187 := NB464_449.out
      have hnc187 := NB449_464.out
      have hnb188 := NB464_456.out
      have hnc188 := NB456_464.out
      obtain ⟨hcz189_0, hcz189_1, hfz189_0, hfz189_1⟩ := z2 BK464
      go_wp2_with (first | (refine gc 72 Tryd.func31 #[.agg #[.slice Ao41 t457.length co41, .slice Ao46 t460.length co46], .int .i64 1] ?_; (with_reducible refine (laws_markLedger.calls kj69 (fun k_ => some k_ = (.slice Ao41 t457.length co41 : Value).ownBlock) (.slice Ao41 t457.length co41) t457 ?P0_1_5 (.slice Ao46 t460.length co46) t460 1 t477 t478 t479 w _ ?side1 ?side2 ?side3 A102.out).mono ?_); (case side1 => exact bw); (case side2 => exact Kd.R_tight rfl HO_465000.out); (case side3 => exact Kd.S_bound HO_465001.out); rintro e w190 ⟨rfl, hy0, hy1, hb, hkp⟩; refine ⟨_, rfl, ?_⟩; obtain ⟨ga191, hga191⟩ := Kd.agek hkp; replace HO_450000 := Aside0.mk (Kd.R_mono (ok' := fun k_ => some k_ ≠ (.slice Ao33 t474.length co33 : Value).ownBlock ∧ some k_ ≠ (.slice Ao41 t457.length co41 : Value).ownBlock) (Kd.R_keptB ((Kd.R_bound HO_450000.out)) hkp (fun k_ hk_ hs_ => Or.elim hs_ (fun e_ => (hk_.1.2) e_) (fun e_ => (fun e_ => Kd.typed_ne (hk_.2).2.2 e_.2.2.2 (by decide)) e_))) (fun k_ hk_ => ⟨hk_.1.1.1, hk_.1.1.2⟩)); replace HO_457000 := Aside0.mk (Kd.R_mono (ok' := fun k_ => some k_ ≠ (.slice Ao25 t442.length co25 : Value).ownBlock ∧ some k_ ≠ (.slice Ao41 t457.length co41 : Value).ownBlock) (Kd.R_keptB ((Kd.R_bound HO_457000.out)) hkp (fun k_ hk_ hs_ => Or.elim hs_ (fun e_ => (hk_.1.2) e_) (fun e_ => (fun e_ => Kd.typed_ne (hk_.2).2.2 e_.2.2.2 (by decide)) e_))) (fun k_ hk_ => ⟨hk_.1.1.1, hk_.1.1.2⟩)); replace HO_465001 := Aside0.mk (Kd.S_mono (ok' := fun k_ => (some k_ ≠ (.slice Ao28 t445.length co28 : Value).ownBlock ∧ (some k_ ≠ (.slice Ao37 t475.length co37 : Value).ownBlock ∧ (k_ < ga81 ∨ ga191 ≤ k_)))) (Kd.S_bound hy1) (fun k_ hk_ => Or.elim hk_.1 (fun hs_ => Or.elim hs_ (fun e_ => (fun h_ => (Kd.typed_own hk_.2.2.2 (Kd.R_typed hy0 k_ h_.symm) (by decide)).elim) e_) (fun e_ => (fun h_ => ⟨h_.1.1, ⟨h_.1.2.1, (.inl h_.1.2.2.2)⟩⟩) e_)) (fun hn_ => ⟨fun e_ => Nat.not_le.2 (Kd.S_lt HO_450001.out k_ e_.symm) hn_, ⟨fun e_ => Nat.not_le.2 (Kd.S_lt HO_457001.out k_ e_.symm) hn_, (.inr (by rw [hga191]; exact hn_))⟩⟩))); replace HO_450001 := Aside0.mk (Kd.S_mono (ok' := fun k_ => some k_ ≠ (.slice Ao37 t475.length co37 : Value).ownBlock ∧ some k_ ≠ (.slice Ao46 t460.length co46 : Value).ownBlock ∧ ga23 ≤ k_ ∧ k_ < ga31 ∧ k_ < ga39 ∧ k_ < ga81 ∧ k_ < ga191) (Kd.S_keptB ((Kd.S_bound (Kd.S_apart' HO_450001.out (Kd.R_typed HO_465000.out) (by decide)))) hkp (fun k_ hk_ hs_ => Or.elim hs_ (fun e_ => (hk_.1.2) e_) (fun e_ => (fun e_ => Nat.not_le.2 (hk_.1.1.2.2.2.2.1) (e_.1.2.2.1)) e_))) (fun k_ hk_ => ⟨hk_.1.1.1.1, hk_.1.1.1.2.1, hk_.1.1.1.2.2.1, hk_.1.1.1.2.2.2.1, hk_.1.1.1.2.2.2.2.1, hk_.1.1.1.2.2.2.2.2, (by rw [hga191]; exact hk_.2.2)⟩)); replace HO_457001 := Aside0.mk (Kd.S_mono (ok' := fun k_ => some k_ ≠ (.slice Ao28 t445.length co28 : Value).ownBlock ∧ some k_ ≠ (.slice Ao46 t460.length co46 : Value).ownBlock ∧ (k_ < ga39 ∨ ga81 ≤ k_) ∧ k_ < ga191) (Kd.S_keptB ((Kd.S_bound (Kd.S_apart' HO_457001.out (Kd.R_typed HO_465000.out) (by decide)))) hkp (fun k_ hk_ hs_ => Or.elim hs_ (fun e_ => (hk_.1.2) e_) (fun e_ => (fun e_ => Or.elim (hk_.1.1.2.2) (fun h1_ => Nat.not_le.2 h1_ (e_.1.2.2.1)) (fun h1_ => Nat.not_le.2 (e_.1.2.2.2) h1_)) e_))) (fun k_ hk_ => ⟨hk_.1.1.1.1, hk_.1.1.1.2.1, hk_.1.1.1.2.2, (by rw [hga191]; exact hk_.2.2)⟩)); replace BK434 := Aside0.mk (blk_kept (zB BK434) hkp (fun hs_ => Or.elim hs_ (fun e_ => (fun e_ => (Kd.R_ne HO_465000.out BK434.out (by decide)) e_) e_) (fun e_ => (fun e_ => Kd.typed_box e_.2.2.2 (zB BK434) (by decide)) e_))); replace BK449 := Aside0.mk (blk_kept (zB BK449) hkp (fun hs_ => Or.elim hs_ (fun e_ => (fun e_ => (Kd.R_ne HO_465000.out BK449.out (by decide)) e_) e_) (fun e_ => (fun e_ => Kd.typed_box e_.2.2.2 (zB BK449) (by decide)) e_))); replace BK456 := Aside0.mk (blk_kept (zB BK456) hkp (fun hs_ => Or.elim hs_ (fun e_ => (fun e_ => (Kd.R_ne HO_465000.out BK456.out (by decide)) e_) e_) (fun e_ => (fun e_ => Kd.typed_box e_.2.2.2 (zB BK456) (by decide)) e_))); replace BK464 := Aside0.mk (blk_kept (zB BK464) hkp (fun hs_ => Or.elim hs_ (fun e_ => (fun e_ => (Kd.R_ne HO_465000.out BK464.out (by decide)) e_) e_) (fun e_ => (fun e_ => Kd.typed_box e_.2.2.2 (zB BK464) (by decide)) e_))); replace HO_465000 := Aside0.mk (Kd.R_reok rfl hy0 (fun k_ e_ => HO_465000.out.1 k_ e_)); replace HB := Aside0.mk (hb); (try clear hb); (try clear hkp); (try clear hy0); (try clear hy1); obtain ⟨hcz192_0, hcz192_1, hfz192_0, hfz192_1⟩ := z2 BK464) | ((with_reducible refine gate_callee (f := 41) rfl ?_); refine goesL_ (some 75) rfl rfl Tryd.func41 (by kernel_rfl) rfl #[.agg #[.slice Ao41 t478.length co41, .slice Ao46 t479.length co46], .int .i64 1] rfl ZZ355c03 ?_; (with_reducible refine (laws_heldLedger.calls kj69 _ _ t478 _ _ t479 1 t480 _ ?side1 ?side2 ?side3 ?side4 A103.out).mono ?_); (case side1 => exact rC (Kd.R_reads' HO_465000.out).2.2); (case side2 => rw [show t478.length = t457.length from (Kd.R_reads' HO_465000.out).1.symm]; exact (Kd.R_reads' HO_465000.out).2.1); (case side3 => exact rC (Kd.S_reads' HO_465001.out).2.2); (case side4 => rw [show t479.length = t460.length from (Kd.S_reads' HO_465001.out).1.symm]; exact (Kd.S_reads' HO_465001.out).2.1); rintro e w193 ⟨rfl, hb⟩; refine ⟨_, rfl, ?_⟩; replace HO_450000 := Aside0.mk (Kd.R_below (zR HO_450000) hb); replace HO_450001 := Aside0.mk (Kd.S_below (zS HO_450001) hb); replace HO_457000 := Aside0.mk (Kd.R_below (zR HO_457000) hb); replace HO_457001 := Aside0.mk (Kd.S_below (zS HO_457001) hb); replace HO_465000 := Aside0.mk (Kd.R_below (zR HO_465000) hb); replace HO_465001 := Aside0.mk (Kd.S_below (zS HO_465001) hb); replace BK434 := kb BK434 hb; replace BK449 := kb BK449 hb; replace BK456 := kb BK456 hb; replace BK464 := kb BK464 hb; replace HB := hB hb; (try clear hb); (try clear hb2); (try clear hk); (try clear hi)))
      go_ret
      exact ⟨ZZab01d2, ZZ295621⟩
   replace c68 := Bool.eq_false_iff.mpr c68
   subst c68
   replace H := ifF H
   obtain rfl := Option.some.inj H
   try go_wp2
   replace HO_450000 := Aside0.mk (Kd.R_drew HO_450000.out)
   replace HO_450001 := Aside0.mk (Kd.S_drew HO_450001.out)
   replace HO_457000 := Aside0.mk (Kd.R_drew HO_457000.out)
   replace HO_457001 := Aside0.mk (Kd.S_drew HO_457001.out)
   replace HO_465000 := Aside0.mk (Kd.R_drew HO_465000.out)
   replace HO_465001 := Aside0.mk (Kd.S_drew HO_465001.out)
   replace BK434 := Aside0.mk (blk_drew BK434.out)
   replace BK449 := Aside0.mk (blk_drew BK449.out)
   replace BK456 := Aside0.mk (blk_drew BK456.out)
   replace BK464 := Aside0.mk (blk_drew BK464.out)
   replace HB := Aside0.mk (below_drew1 HB.out)
   refine start_ (n := 5) (S := fun w' => w'.cell? ⟨gb456, 0, none⟩ = some (.slice Ao33 t450.length co33) ∧ w'.cell? ⟨gb456, 1, none⟩ = some (.slice Ao37 t453.length co37) ∧ w'.cell? ⟨gb434, 0, none⟩ = some (.slice A0_0 l0_0.length c0_0) ∧ w'.cell? ⟨gb434, 1, none⟩ = some (.slice A0_1 l0_1.length c0_1)) (ds := []) #[false, false, false, false, false] (by kernel_rfl) rfl rfl ⟨(blk_cell BK456.out 0).trans rfl, (blk_cell BK456.out 1).trans rfl, (blk_cell BK434.out 0).trans rfl, (blk_cell BK434.out 1).trans rfl⟩ (fun hHeld => ?_)
   generalize wc.drew = w194 at HO_450000 HO_450001 HO_457000 HO_457001 HO_465000 HO_465001 BK434 BK449 BK456 BK464 HB hHeld ⊢
   refine take_ (i := 0) (N := some 49) (v := ?_) (a' := ?_) #[true, false, false, false, false] rfl rfl (by kernel_rfl) (fun _ _ _ h => h) (Or.inl ⟨(by rfl), ?_⟩) hHeld ?_ ?_
   rotate_left
   ·rintro w' ⟨s0, s1, s2, s3⟩
    go_simp
    with_reducible rfl
   rotate_left
   ·simp only [Act.put, List.setIfInBounds_toArray, List.set_cons_zero, List.set_cons_succ, i64_w, i32_w]
    rfl
   refine take_ (i := 1) (N := some 50) (v := ?_) (a' := ?_) #[true, true, false, false, false] rfl rfl (by kernel_rfl) (fun _ _ _ h => h) (Or.inl ⟨(by rfl), ?_⟩) hHeld ?_ ?_
   rotate_left
   ·rintro w' ⟨s0, s1, s2, s3⟩
    go_simp
    with_reducible rfl
   rotate_left
   ·simp only [Act.put, List.setIfInBounds_toArray, List.set_cons_zero, List.set_cons_succ, i64_w, i32_w]
    rfl
   refine one_ (i := 2) (N := some 51) #[true, true, true, false, false] rfl rfl (by kernel_rfl) (by decide) (fun K hK => ?_)
   refine goes_ Tryd.func16 (by kernel_rfl) rfl #[.agg #[.slice A0_0 l0_0.length c0_0, .slice A0_1 l0_1.length c0_1]] (by rfl) rfl rfl ZZ19826e ?_
   with_reducible refine (laws_toLedger.calls kj12 _ _ l0_0 _ _ l0_1 t466 t469 _ ?side1 ?side2 ?side3 ?side4 A66.out).mono ?_
   (case side1 => exact (rC (Kd.C_below HR0_0.out HB.out)))
   (case side2 => exact HC0_0.out)
   (case side3 => exact (rC (Kd.C_below HR0_1.out HB.out)))
   (case side4 => exact HC0_1.out)
   rintro e w195 ⟨v467, v470, rfl, ho0, ho1, hb⟩
   refine ⟨_, rfl, ?_⟩
   have HO468 := Aside0.mk (Kd.R_lower (Kd.R_new' (Kd.R_new' (Kd.R_new' ho0 (Kd.R_lt (zR HO_450000))) (Kd.R_lt (zR HO_457000))) (Kd.R_lt (zR HO_465000))) (below_size ZZ295621))
   replace HO_450000 := Aside0.mk (Kd.R_elder' (zR HO_450000) (Kd.R_base ho0) hb)
   replace HO_457000 := Aside0.mk (Kd.R_elder' (zR HO_457000) (Kd.R_base ho0) hb)
   replace HO_465000 := Aside0.mk (Kd.R_elder' (zR HO_465000) (Kd.R_base ho0) hb)
   have HO471 := Aside0.mk (Kd.S_lower (Kd.S_new' (Kd.S_new' (Kd.S_new' ho1 (Kd.S_lt (zS HO_450001))) (Kd.S_lt (zS HO_457001))) (Kd.S_lt (zS HO_465001))) (below_size ZZ295621))
   replace HO_450001 := Aside0.mk (Kd.S_elder' (zS HO_450001) (Kd.S_base ho1) hb)
   replace HO_457001 := Aside0.mk (Kd.S_elder' (zS HO_457001) (Kd.S_base ho1) hb)
   replace HO_465001 := Aside0.mk (Kd.S_elder' (zS HO_465001) (Kd.S_base ho1) hb)
   replace BK434 := kb BK434 hb
   replace BK449 := kb BK449 hb
   replace BK456 := kb BK456 hb
   replace BK464 := kb BK464 hb
   replace HB := hB hb
   (try clear hb)
   (try clear hb2)
   (try clear hk)
   (try clear hi)
   (try clear ho0)
   (try clear ho1)
   obtain ⟨Ao196, co196, eo196⟩ := Kd.R_slice HO468.out
   (first | subst eo196 | (injection eo196 with f1_ f2_ f3_; have f4_ := f1_.symm; have f5_ := f3_.symm; clear f1_ f2_ f3_; subst f4_; subst f5_))
   obtain ⟨Ao197, co197, eo197⟩ := Kd.S_slice HO471.out
   (first | subst eo197 | (injection eo197 with f1_ f2_ f3_; have f4_ := f1_.symm; have f5_ := f3_.symm; clear f1_ f2_ f3_; subst f4_; subst f5_))
   refine hK.out _ _ zK (fun hHeld => ?_)
   clear hK K
   refine nd (some 51) ?_
   refine one_ (i := 3) (N := some 52) #[true, true, true, true, false] rfl rfl (by kernel_rfl) (by decide) (fun K hK => ?_)
   refine goes_ Tryd.func18 (by kernel_rfl) rfl #[.agg #[.slice Ao33 t450.length co33, .slice Ao37 t453.length co37], .agg #[.slice Ao196 t466.length co196, .slice Ao197 t469.length co197]] (by rfl) rfl rfl ZZ19826e ?_
   with_reducible refine (laws_eqLedger.calls kj12 _ _ t450 _ _ t453 _ _ t466 _ _ t469 false _ ?side1 ?side2 ?side3 ?side4 ?side5 ?side6 ?side7 ?side8 A67.out).mono ?_
   (case side1 => exact rC (Kd.R_reads' HO_457000.out).2.2)
   (case side2 => exact (Kd.R_reads' HO_457000.out).2.1)
   (case side3 => exact rC (Kd.S_reads' HO_457001.out).2.2)
   (case side4 => exact (Kd.S_reads' HO_457001.out).2.1)
   (case side5 => exact rC (Kd.R_reads' HO468.out).2.2)
   (case side6 => exact (Kd.R_reads' HO468.out).2.1)
   (case side7 => exact rC (Kd.S_reads' HO471.out).2.2)
   (case side8 => exact (Kd.S_reads' HO471.out).2.1)
   rintro e w198 ⟨rfl, hb⟩
   refine ⟨_, rfl, ?_⟩
   replace HO_450000 := Aside0.mk (Kd.R_below (zR HO_450000) hb)
   replace HO_450001 := Aside0.mk (Kd.S_below (zS HO_450001) hb)
   replace HO_457000 := Aside0.mk (Kd.R_below (zR HO_457000) hb)
   replace HO_457001 := Aside0.mk (Kd.S_below (zS HO_457001) hb)
   replace HO_465000 := Aside0.mk (Kd.R_below (zR HO_465000) hb)
   replace HO_465001 := Aside0.mk (Kd.S_below (zS HO_465001) hb)
   replace HO468 := Aside0.mk (Kd.R_below (zR HO468) hb)
   replace HO471 := Aside0.mk (Kd.S_below (zS HO471) hb)
   replace BK434 := kb BK434 hb
   replace BK449 := kb BK449 hb
   replace BK456 := kb BK456 hb
   replace BK464 := kb BK464 hb
   replace HB := hB hb
   (try clear hb)
   (try clear hb2)
   (try clear hk)
   (try clear hi)
   refine hK.out _ _ zK (fun hHeld => ?_)
   clear hK K
   refine nd (some 52) ?_
   refine pure_ (i := 4) (N := some 53) (v := ?_) (a' := ?_) #[true, true, true, true, true] rfl rfl (by kernel_rfl) (fun _ _ _ h => h) (Or.inl ⟨(by rfl), ?_⟩) ?_ ?_
   rotate_left
   ·intro w'
    go_simp
    with_reducible rfl
   rotate_left
   ·simp only [Act.put, List.setIfInBounds_toArray, List.set_cons_zero, List.set_cons_succ, i64_w, i32_w]
    rfl
   refine done_ (by kernel_rfl) ?_
   try go_wp2
   go_ret
   exact ⟨ZZab01d2, ZZ295621⟩
end Go.Proofs.YtccdjchaaeligaaDoor.XFnExactReverseEntry

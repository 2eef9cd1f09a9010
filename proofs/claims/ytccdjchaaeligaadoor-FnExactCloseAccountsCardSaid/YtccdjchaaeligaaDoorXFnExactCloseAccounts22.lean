import Derived.Test.YtccdjchaaeligaaDoorXFnExactCloseAccounts9
import Derived.Test.YtccdjchaaeligaaDoorXFnExactCloseAccounts0
import Derived.Test.YtccdjchaaeligaaDoorXFnExactCloseAccounts1
import Derived.Test.YtccdjchaaeligaaDoorXFnExactCloseAccounts2
import Derived.Test.YtccdjchaaeligaaDoorXFnExactCloseAccounts4
import Derived.Test.YtccdjchaaeligaaDoorXFnExactCloseAccounts11
import Derived.Test.YtccdjchaaeligaaDoorXFnExactCloseAccounts18
import Derived.Test.YtccdjchaaeligaaDoorXFnExactCloseAccounts19
namespace Go.Proofs.YtccdjchaaeligaaDoor.XFnExactCloseAccounts
open Go.Proofs.YtccdjchaaeligaaDoor.Short Go.RowKit Go.Proofs.YtccdjchaaeligaaDoorW.PrintWords Go.Proofs.YtccdjchaaeligaaDoorW.PrintLast Go.Proofs.YtccdjchaaeligaaDoorW.PrintMore
attribute [local go_sem] max2_int min2_int max_two min_two max_three min_three max_four min_four
set_option linter.unusedVariables false
set_option linter.unusedSimpArgs false
theorem ZZ25036a {p : Prop} (h : p := by refine bR ?_; exact (Kd.R_mono (Kd.R_far (p := ⟨gb515, 1, none⟩) (Kd.R_far (p := ⟨gb515, 0, none⟩) (Kd.R_types HO511.out BK515.out (by decide)) (fun _ hk => hk.2) (.slice Ao33 t509.length co33)) (fun _ hk => hk.2) (.slice Ao37 t512.length co37)) (fun _ h_ => h_.1))) : p := h
theorem ZZ56d3da {p : Prop} (h : p := by refine bS ?_; exact (Kd.S_mono (Kd.S_far (p := ⟨gb515, 1, none⟩) (Kd.S_far (p := ⟨gb515, 0, none⟩) (Kd.S_types HO514.out BK515.out (by decide)) (fun _ hk => hk.2) (.slice Ao33 t509.length co33)) (fun _ hk => hk.2) (.slice Ao37 t512.length co37)) (fun _ h_ => h_.1))) : p := h
theorem ZZ519ce2 {p : Prop} (h : p := by refine bR ?_; exact (Kd.R_mono (Kd.R_far (p := ⟨gb523, 1, none⟩) (Kd.R_far (p := ⟨gb523, 0, none⟩) (Kd.R_types HO518.out BK523.out (by decide)) (fun _ hk => hk.2) (.slice Ao41 t516.length co41)) (fun _ hk => hk.2) (.slice Ao46 t519.length co46)) (fun _ h_ => h_.1))) : p := h
theorem ZZe751ea {p : Prop} (h : p := by refine bS ?_; exact (Kd.S_mono (Kd.S_far (p := ⟨gb523, 1, none⟩) (Kd.S_far (p := ⟨gb523, 0, none⟩) (Kd.S_types HO521.out BK523.out (by decide)) (fun _ hk => hk.2) (.slice Ao41 t516.length co41)) (fun _ hk => hk.2) (.slice Ao46 t519.length co46)) (fun _ h_ => h_.1))) : p := h
theorem ZZ09dbd7 {p : Prop} (h : p := by refine bR ?_; exact (Kd.R_mono (Kd.R_far (p := ⟨gb523, 1, none⟩) (Kd.R_far (p := ⟨gb523, 0, none⟩) (Kd.R_types HO503.out BK523.out (by decide)) (fun _ hk => hk.2) (.slice Ao41 t516.length co41)) (fun _ hk => hk.2) (.slice Ao46 t519.length co46)) (fun _ h_ => h_.1))) : p := h
theorem ZZ70983a {p : Prop} (h : p := by refine bS ?_; exact (Kd.S_mono (Kd.S_far (p := ⟨gb523, 1, none⟩) (Kd.S_far (p := ⟨gb523, 0, none⟩) (Kd.S_types HO506.out BK523.out (by decide)) (fun _ hk => hk.2) (.slice Ao41 t516.length co41)) (fun _ hk => hk.2) (.slice Ao46 t519.length co46)) (fun _ h_ => h_.1))) : p := h
theorem ZZaadd46 {p : Prop} (h : p := by refine bS ?_; exact Kd.S_mono HO_509001.out (fun _ hk => ⟨hk.1, ⟨hk.2.1, ⟨hk.2.2.2.1, ⟨hk.2.2.2.2.1, ⟨hk.2.2.2.2.2.1, zA hk.2.2.2.2.2.2⟩⟩⟩⟩⟩)) : p := h
theorem ZZd1a048 {p : Prop} (h : p := by refine bS ?_; exact Kd.S_mono HO_524001.out (fun _ hk => ⟨hk.1, ⟨hk.2.1, ⟨hk.2.2.2.1, zA hk.2.2.2.2⟩⟩⟩)) : p := h
theorem ZZccab1b {p : Prop} (h : p := by (try simp only [List.map_toArray, List.map_cons, List.map_nil]); first | done | (rw [show t537.length = t516.length from (Kd.R_reads' HO_524000.out).1.symm, show t538.length = t519.length from (Kd.S_reads' HO_524001.out).1.symm] <;> rfl) | rfl | (simp only [List.length_drop, List.length_take]; rfl)) : p := h
theorem ZZf8ed07 {p : Prop} (h : p := by refine bR ?_; exact (Kd.R_mono (Kd.R_far (p := ⟨gb553, 1, none⟩) (Kd.R_far (p := ⟨gb553, 0, none⟩) (Kd.R_types HO548.out BK553.out (by decide)) (fun _ hk => hk.2) (.slice Ao135 t546.length co135)) (fun _ hk => hk.2) (.slice Ao141 t549.length co141)) (fun _ h_ => h_.1))) : p := h
theorem ZZaa2fda {p : Prop} (h : p := by refine bS ?_; exact (Kd.S_mono (Kd.S_far (p := ⟨gb553, 1, none⟩) (Kd.S_far (p := ⟨gb553, 0, none⟩) (Kd.S_types HO551.out BK553.out (by decide)) (fun _ hk => hk.2) (.slice Ao135 t546.length co135)) (fun _ hk => hk.2) (.slice Ao141 t549.length co141)) (fun _ h_ => h_.1))) : p := h
theorem ZZ2a7054 {p : Prop} (h : p := by refine bR ?_; exact (Kd.R_mono (Kd.R_far (p := ⟨gb553, 1, none⟩) (Kd.R_far (p := ⟨gb553, 0, none⟩) (Kd.R_types HO_509000.out BK553.out (by decide)) (fun _ hk => hk.2) (.slice Ao135 t546.length co135)) (fun _ hk => hk.2) (.slice Ao141 t549.length co141)) (fun _ h_ => h_.1))) : p := h
theorem ZZf1168d {p : Prop} (h : p := by refine bS ?_; exact (Kd.S_mono (Kd.S_far (p := ⟨gb553, 1, none⟩) (Kd.S_far (p := ⟨gb553, 0, none⟩) (Kd.S_types HO_509001.out BK553.out (by decide)) (fun _ hk => hk.2) (.slice Ao135 t546.length co135)) (fun _ hk => hk.2) (.slice Ao141 t549.length co141)) (fun _ h_ => h_.1))) : p := h
theorem zA {p q : Prop} (h : q) (f : q → p := by first | exact fun h_ => h_ | exact fun h_ => h_.1) : p := f h
mutual
def laws_FnExactCloseAccounts.j0 : Nat → Int → Int → Bool → Bool → Bool → List (S109) → List (S58) → List (S48) → List (S63) → List (S48) → List (S63) → List (S48) → List (S63) → Option (Bool)
 | 0, _, _, _, _, _, _, _, _, _, _, _, _, _ => none
 | k + 1, x1, x2, x9, x12, x48, x494000, x494001, x509000, x509001, x516000, x516001, x524000, x524001 => if x48 = true then (some false) else ((laws_toLedger.f k x494000 x494001).bind fun bt525 => ((laws_eqLedger.f k x516000 x516001 bt525.1 bt525.2).bind fun t531 => (if t531 = true then ((laws_markLedger.f k x516000 x516001 1).bind fun bt532 => (if bt532.1 < 0 then (laws_FnExactCloseAccounts.j1 k x1 x2 x9 true x494000 x494001 x509000 x509001 x524000 x524001) else ((laws_eqLedger.f k x524000 x524001 x509000 x509001).bind fun t535 => (if t535 = true then (laws_FnExactCloseAccounts.j1 k x1 x2 x9 (x12 != x9) x494000 x494001 x509000 x509001 x524000 x524001) else (laws_FnExactCloseAccounts.j1 k x1 x2 x9 true x494000 x494001 x509000 x509001 x524000 x524001))))) else (some false))))
def laws_FnExactCloseAccounts.j1 : Nat → Int → Int → Bool → Bool → List (S109) → List (S58) → List (S48) → List (S63) → List (S48) → List (S63) → Option (Bool)
 | 0, _, _, _, _, _, _, _, _, _, _ => none
 | k + 1, x1, x2, x9, x69, x494000, x494001, x509000, x509001, x524000, x524001 => if x69 = true then (some false) else ((laws_markLedger.f k x524000 x524001 1).bind fun bt536 => ((laws_heldLedger.f k bt536.2.1 bt536.2.2 1).bind fun t539 => (if t539 < 0 then (some false) else (if t539 = bt536.1 then ((laws_toLedger.f k x494000 x494001).bind fun bt540 => ((impl_CloseAccounts.f k bt540.1 bt540.2 x1 x2).bind fun bt546 => ((laws_eqLedger.f k bt546.1 bt546.2.1 x509000 x509001).bind fun t554 => (if t554 = true then (laws_FnExactCloseAccounts.j2 k bt536.1 (bt546.2.2 != x9) bt536.2.1 bt536.2.2) else (laws_FnExactCloseAccounts.j2 k bt536.1 true bt536.2.1 bt536.2.2))))) else (some false)))))
def laws_FnExactCloseAccounts.j2 : Nat → Int → Bool → List (S48) → List (S63) → Option (Bool)
 | 0, _, _, _, _ => none
 | k + 1, x14, x97, x524000, x524001 => if x97 = true then (some false) else ((laws_heldLedger.f k x524000 x524001 1).bind fun t555 => (if t555 < 0 then (some false) else (if t555 = x14 then (some true) else (some false))))
end
def laws_FnExactCloseAccounts.f (k : Nat) (l0_0 : List (S109)) (l0_1 : List (S58)) (a1 : Int) (a2 : Int) : Option (Bool) := (laws_szLedger.f k l0_0 l0_1 1048576).bind fun t494 => (if t494 < 0 then (some true) else ((laws_toLedger.f k l0_0 l0_1).bind fun bt495 => ((spec_CloseAccounts.f k bt495.1 bt495.2 a1 a2).bind fun bt501 => ((laws_toLedger.f k l0_0 l0_1).bind fun bt509 => ((impl_CloseAccounts.f k bt509.1 bt509.2 a1 a2).bind fun bt516 => ((laws_eqLedger.f k bt516.1 bt516.2.1 bt501.1 bt501.2.1).bind fun t524 => (if t524 = true then (laws_FnExactCloseAccounts.j0 k a1 a2 bt501.2.2 bt516.2.2 (bt516.2.2 != bt501.2.2) l0_0 l0_1 bt501.1 bt501.2.1 bt509.1 bt509.2 bt516.1 bt516.2.1) else (laws_FnExactCloseAccounts.j0 k a1 a2 bt501.2.2 bt516.2.2 true l0_0 l0_1 bt501.1 bt501.2.1 bt509.1 bt509.2 bt516.1 bt516.2.1))))))))
theorem laws_FnExactCloseAccounts.mono_l : ∀ k, (∀ y0 y1 y2 y3 y4 y5 y6 y7 y8 y9 y10 y11 y12, LeO (laws_FnExactCloseAccounts.j0 k y0 y1 y2 y3 y4 y5 y6 y7 y8 y9 y10 y11 y12) (laws_FnExactCloseAccounts.j0 (k + 1) y0 y1 y2 y3 y4 y5 y6 y7 y8 y9 y10 y11 y12)) ∧ (∀ y0 y1 y2 y3 y4 y5 y6 y7 y8 y9, LeO (laws_FnExactCloseAccounts.j1 k y0 y1 y2 y3 y4 y5 y6 y7 y8 y9) (laws_FnExactCloseAccounts.j1 (k + 1) y0 y1 y2 y3 y4 y5 y6 y7 y8 y9)) ∧ (∀ y0 y1 y2 y3, LeO (laws_FnExactCloseAccounts.j2 k y0 y1 y2 y3) (laws_FnExactCloseAccounts.j2 (k + 1) y0 y1 y2 y3))
 | 0 => ⟨fun _ _ _ _ _ _ _ _ _ _ _ _ _ r h => by simp [laws_FnExactCloseAccounts.j0] at h, fun _ _ _ _ _ _ _ _ _ _ r h => by simp [laws_FnExactCloseAccounts.j1] at h, fun _ _ _ _ r h => by simp [laws_FnExactCloseAccounts.j2] at h⟩
 | k + 1 => by
  obtain ⟨ih0, ih1, ih2⟩ := laws_FnExactCloseAccounts.mono_l k
  refine ⟨?_, ?_, ?_⟩
  all_goals intros
  all_goals (first | unfold laws_FnExactCloseAccounts.j0 | unfold laws_FnExactCloseAccounts.j1 | unfold laws_FnExactCloseAccounts.j2)
  all_goals
   repeat' with_reducible first | apply ih0 | apply ih1 | apply ih2 | apply impl_CloseAccounts.mono | apply laws_eqLedger.mono | apply laws_heldLedger.mono | apply laws_markLedger.mono | apply laws_szLedger.mono | apply laws_toLedger.mono | apply spec_CloseAccounts.mono | exact LeO.refl _ | exact LeO.none _ | refine LeO.ite ?_ ?_ | refine LeO.bind ?_ (fun _ => ?_)
theorem laws_FnExactCloseAccounts.mono : ∀ a0 a1 a2 a3 k, LeO (laws_FnExactCloseAccounts.f k a0 a1 a2 a3) (laws_FnExactCloseAccounts.f (k + 1) a0 a1 a2 a3) := by
 intro a0 a1 a2 a3 k
 obtain ⟨ih0, ih1, ih2⟩ := laws_FnExactCloseAccounts.mono_l k
 unfold laws_FnExactCloseAccounts.f
 repeat' with_reducible first | apply ih0 | apply ih1 | apply ih2 | apply impl_CloseAccounts.mono | apply laws_eqLedger.mono | apply laws_heldLedger.mono | apply laws_markLedger.mono | apply laws_szLedger.mono | apply laws_toLedger.mono | apply spec_CloseAccounts.mono | exact LeO.refl _ | exact LeO.none _ | refine LeO.ite ?_ ?_ | refine LeO.bind ?_ (fun _ => ?_)
set_option maxHeartbeats 8000000 in
set_option maxRecDepth 100000 in
theorem laws_FnExactCloseAccounts.calls (k : Nat) (A0_0 : Option Addr) (c0_0 : Nat) (l0_0 : List (S109)) (A0_1 : Option Addr) (c0_1 : Nat) (l0_1 : List (S58)) (a1 : Int) (a2 : Int) (r : Bool) (w : World) (hr0_0 : Kd.C k109 w A0_0 l0_0.length l0_0) (hc0_0 : l0_0.length ≤ c0_0) (hr0_1 : Kd.C k58 w A0_1 l0_1.length l0_1) (hc0_1 : l0_1.length ≤ c0_1) (h : laws_FnExactCloseAccounts.f k l0_0 l0_1 a1 a2 = some r) :
 Calls Tryd.prog 10 #[.agg #[.slice A0_0 l0_0.length c0_0, .slice A0_1 l0_1.length c0_1], .int .i64 a1, .int .i64 a2] w fun e w' => e = .returned (.bool r) ∧ Below w.heap.size w w' := by
 have hu25 := Tryd.underlying25
 have hu31 := Tryd.underlying31
 have HR0_0 := Aside0.mk hr0_0
 have HC0_0 := Aside0.mk hc0_0
 clear hr0_0 hc0_0
 have HR0_1 := Aside0.mk hr0_1
 have HC0_1 := Aside0.mk hc0_1
 clear hr0_1 hc0_1
 have HB := Aside0.mk (Below.refl w.heap.size w)
 have H := h
 clear h
 unfold laws_FnExactCloseAccounts.f at H
 obtain ⟨t494, A4, H⟩ := bdY H
 by_cases c5 : t494 < 0
 ·rw [if_pos c5] at H
  have c5b0 := decide_eq_true c5
  clear c5
  obtain rfl := Option.some.inj H
  go_enter Tryd.func10, Tryd.ntmps10
  go_wp2_with (first | ((with_reducible refine gate_dst (N := 3) rfl ?_); refine bx 3 (cs := #[.slice A0_0 l0_0.length c0_0, .slice A0_1 l0_1.length c0_1]) (t := 25) ?_; intro gb493 hg w6 hbox hb; have BK493 := Aside0.mk (hbox); have GW493 := gw hg; have GE493 := gw hg; replace HB := hB hb; clear hb hbox hg; obtain ⟨hcz7_0, hcz7_1, hfz7_0, hfz7_1⟩ := z2 BK493) | (refine gc 20 Tryd.func14 #[.agg #[.slice A0_0 l0_0.length c0_0, .slice A0_1 l0_1.length c0_1], .int .i64 1048576] ?_; (with_reducible refine (laws_szLedger.calls k _ _ l0_0 _ _ l0_1 1048576 t494 _ ?side1 ?side2 ?side3 ?side4 A4.out).mono ?_); (case side1 => exact (rC (Kd.C_below HR0_0.out HB.out))); (case side2 => exact HC0_0.out); (case side3 => exact (rC (Kd.C_below HR0_1.out HB.out))); (case side4 => exact HC0_1.out); rintro e w8 ⟨rfl, hb⟩; refine ⟨_, rfl, ?_⟩; replace BK493 := kb BK493 hb; replace HB := hB hb; (try clear hb); (try clear hb2); (try clear hk); (try clear hi)))
  go_ret
  exact ⟨ZZab01d2, ZZ295621⟩
 rw [if_neg c5] at H
 have c5b0 := decide_eq_false c5
 clear c5
 obtain ⟨⟨t495, t498⟩, A9, H⟩ := bdY H
 try dsimp only at H
 obtain ⟨⟨t501, t504, t507⟩, A10, H⟩ := bdY H
 try dsimp only at H
 obtain ⟨⟨t509, t512⟩, A11, H⟩ := bdY H
 try dsimp only at H
 obtain ⟨⟨t516, t519, t522⟩, A12, H⟩ := bdY H
 try dsimp only at H
 have HC13 := Aside0.mk H
 clear H
 go_enter Tryd.func10, Tryd.ntmps10
 go_upto_region 8 with (first | ((with_reducible refine gate_dst (N := 3) rfl ?_); refine bx 3 (cs := #[.slice A0_0 l0_0.length c0_0, .slice A0_1 l0_1.length c0_1]) (t := 25) ?_; intro gb493 hg w14 hbox hb; have BK493 := Aside0.mk (hbox); have GW493 := gw hg; have GE493 := gw hg; replace HB := hB hb; clear hb hbox hg; obtain ⟨hcz15_0, hcz15_1, hfz15_0, hfz15_1⟩ := z2 BK493) | (refine gc 20 Tryd.func14 #[.agg #[.slice A0_0 l0_0.length c0_0, .slice A0_1 l0_1.length c0_1], .int .i64 1048576] ?_; (with_reducible refine (laws_szLedger.calls k _ _ l0_0 _ _ l0_1 1048576 t494 _ ?side1 ?side2 ?side3 ?side4 A4.out).mono ?_); (case side1 => exact (rC (Kd.C_below HR0_0.out HB.out))); (case side2 => exact HC0_0.out); (case side3 => exact (rC (Kd.C_below HR0_1.out HB.out))); (case side4 => exact HC0_1.out); rintro e w16 ⟨rfl, hb⟩; refine ⟨_, rfl, ?_⟩; replace BK493 := kb BK493 hb; replace HB := hB hb; (try clear hb); (try clear hb2); (try clear hk); (try clear hi); obtain ⟨hcz17_0, hcz17_1, hfz17_0, hfz17_1⟩ := z2 BK493) | (refine gc 25 Tryd.func16 #[.agg #[.slice A0_0 l0_0.length c0_0, .slice A0_1 l0_1.length c0_1]] ?_; (with_reducible refine (laws_toLedger.calls k _ _ l0_0 _ _ l0_1 t495 t498 _ ?side1 ?side2 ?side3 ?side4 A9.out).mono ?_); (case side1 => exact (rC (Kd.C_below HR0_0.out HB.out))); (case side2 => exact HC0_0.out); (case side3 => exact (rC (Kd.C_below HR0_1.out HB.out))); (case side4 => exact HC0_1.out); rintro e w18 ⟨v496, v499, rfl, ho0, ho1, hb⟩; refine ⟨_, rfl, ?_⟩; obtain ⟨ga19, hga19⟩ := Kd.age hb; have HO497 := Aside0.mk (Kd.R_lower ho0 (below_size ZZ295621)); have HO500 := Aside0.mk (Kd.S_lower (Kd.S_agen ho1 hga19) (below_size ZZ295621)); replace BK493 := kb BK493 hb; replace HB := hB hb; (try clear hb); (try clear hb2); (try clear hk); (try clear hi); (try clear ho0); (try clear ho1); obtain ⟨Ao20, co20, eo20⟩ := Kd.R_slice HO497.out; subst eo20; obtain ⟨Ao21, co21, eo21⟩ := Kd.S_slice HO500.out; subst eo21) | (refine gc 28 Tryd.func26 #[.agg #[.slice Ao20 t495.length co20, .slice Ao21 t498.length co21], .int .i64 a1, .int .i64 a2] ?_; (with_reducible refine (spec_CloseAccounts.calls k _ _ t495 _ _ t498 a1 a2 t501 t504 t507 _ ?side1 ?side2 ?side3 ?side4 A10.out).mono ?_); (case side1 => exact rC (Kd.R_reads' HO497.out).2.2); (case side2 => exact (Kd.R_reads' HO497.out).2.1); (case side3 => exact rC (Kd.S_reads' HO500.out).2.2); (case side4 => exact (Kd.S_reads' HO500.out).2.1); rintro e w22 ⟨v502, v505, rfl, ho0, ho1, hb⟩; refine ⟨_, rfl, ?_⟩; obtain ⟨ga23, hga23⟩ := Kd.age hb; have HO503 := Aside0.mk (Kd.R_lower (Kd.R_new' ho0 (Kd.R_lt (zR HO497))) (below_size ZZ295621)); replace HO497 := Aside0.mk (Kd.R_elder' (zR HO497) (Kd.R_base ho0) hb); have HO506 := Aside0.mk (Kd.S_lower (Kd.S_agen (Kd.S_new' ho1 (Kd.S_lt (zS HO500))) hga23) (below_size ZZ295621)); replace HO500 := Aside0.mk (Kd.S_elder' (Kd.S_ageo (zS HO500) hga23) (Kd.S_base ho1) hb); replace BK493 := kb BK493 hb; replace HB := hB hb; (try clear hb); (try clear hb2); (try clear hk); (try clear hi); (try clear ho0); (try clear ho1)) | ((with_reducible refine gate_dst (N := 8) rfl ?_); refine bx 8 (cs := #[.slice none 0 0, .slice none 0 0]) (t := 31) ?_; intro gb508 hg w24 hbox hb; replace HO497 := Aside0.mk (Kd.R_below (zR HO497) hb); replace HO500 := Aside0.mk (Kd.S_below (zS HO500) hb); replace HO503 := Aside0.mk (Kd.R_below (zR HO503) hb); replace HO506 := Aside0.mk (Kd.S_below (zS HO506) hb); have BK508 := Aside0.mk (hbox); have GW508 := gw hg; have GE508 := gw hg; replace HB := hB hb; have NB493_508 := nl hg BK493; have NB508_493 := ng hg BK493; replace BK493 := kb BK493 hb; clear hb hbox hg; obtain ⟨Ao25, co25, eo25⟩ := Kd.R_slice HO503.out; subst eo25; have hnb26 := NB508_493.out; have hnc26 := NB493_508.out; obtain ⟨hcz27_0, hcz27_1, hfz27_0, hfz27_1⟩ := z2 BK508; obtain ⟨Ao28, co28, eo28⟩ := Kd.S_slice HO506.out; subst eo28; obtain ⟨hcz29_0, hcz29_1, hfz29_0, hfz29_1⟩ := z2 BK493) | (refine gc 32 Tryd.func16 #[.agg #[.slice A0_0 l0_0.length c0_0, .slice A0_1 l0_1.length c0_1]] ?_; (with_reducible refine (laws_toLedger.calls k _ _ l0_0 _ _ l0_1 t509 t512 _ ?side1 ?side2 ?side3 ?side4 A11.out).mono ?_); (case side1 => exact Kd.C_below HR0_0.out ZZ295621); (case side2 => exact HC0_0.out); (case side3 => exact Kd.C_below HR0_1.out ZZ295621); (case side4 => exact HC0_1.out); rintro e w30 ⟨v510, v513, rfl, ho0, ho1, hb⟩; refine ⟨_, rfl, ?_⟩; obtain ⟨ga31, hga31⟩ := Kd.age hb; have HO511 := Aside0.mk (Kd.R_lower (Kd.R_new' (Kd.R_new' ho0 (Kd.R_lt (by refine bR ?_; exact (Kd.R_mono (Kd.R_far (p := ⟨gb508, 1, none⟩) (Kd.R_far (p := ⟨gb508, 0, none⟩) (Kd.R_types HO497.out BK508.out (by decide)) (fun _ hk => hk.2) (.slice Ao25 t501.length co25)) (fun _ hk => hk.2) (.slice Ao28 t504.length co28)) (fun _ h_ => h_.1))))) (Kd.R_lt (by refine bR ?_; exact (Kd.R_mono (Kd.R_far (p := ⟨gb508, 1, none⟩) (Kd.R_far (p := ⟨gb508, 0, none⟩) (Kd.R_types HO503.out BK508.out (by decide)) (fun _ hk => hk.2) (.slice Ao25 t501.length co25)) (fun _ hk => hk.2) (.slice Ao28 t504.length co28)) (fun _ h_ => h_.1))))) (below_size ZZ295621)); replace HO497 := Aside0.mk (Kd.R_elder' (by refine bR ?_; exact (Kd.R_mono (Kd.R_far (p := ⟨gb508, 1, none⟩) (Kd.R_far (p := ⟨gb508, 0, none⟩) (Kd.R_types HO497.out BK508.out (by decide)) (fun _ hk => hk.2) (.slice Ao25 t501.length co25)) (fun _ hk => hk.2) (.slice Ao28 t504.length co28)) (fun _ h_ => h_.1))) (Kd.R_base ho0) hb); replace HO503 := Aside0.mk (Kd.R_elder' (by refine bR ?_; exact (Kd.R_mono (Kd.R_far (p := ⟨gb508, 1, none⟩) (Kd.R_far (p := ⟨gb508, 0, none⟩) (Kd.R_types HO503.out BK508.out (by decide)) (fun _ hk => hk.2) (.slice Ao25 t501.length co25)) (fun _ hk => hk.2) (.slice Ao28 t504.length co28)) (fun _ h_ => h_.1))) (Kd.R_base ho0) hb); have HO514 := Aside0.mk (Kd.S_lower (Kd.S_agen (Kd.S_new' (Kd.S_new' ho1 (Kd.S_lt (by refine bS ?_; exact (Kd.S_mono (Kd.S_far (p := ⟨gb508, 1, none⟩) (Kd.S_far (p := ⟨gb508, 0, none⟩) (Kd.S_types HO500.out BK508.out (by decide)) (fun _ hk => hk.2) (.slice Ao25 t501.length co25)) (fun _ hk => hk.2) (.slice Ao28 t504.length co28)) (fun _ h_ => h_.1))))) (Kd.S_lt (by refine bS ?_; exact (Kd.S_mono (Kd.S_far (p := ⟨gb508, 1, none⟩) (Kd.S_far (p := ⟨gb508, 0, none⟩) (Kd.S_types HO506.out BK508.out (by decide)) (fun _ hk => hk.2) (.slice Ao25 t501.length co25)) (fun _ hk => hk.2) (.slice Ao28 t504.length co28)) (fun _ h_ => h_.1))))) hga31) (below_size ZZ295621)); replace HO500 := Aside0.mk (Kd.S_elder' (Kd.S_ageo (by refine bS ?_; exact (Kd.S_mono (Kd.S_far (p := ⟨gb508, 1, none⟩) (Kd.S_far (p := ⟨gb508, 0, none⟩) (Kd.S_types HO500.out BK508.out (by decide)) (fun _ hk => hk.2) (.slice Ao25 t501.length co25)) (fun _ hk => hk.2) (.slice Ao28 t504.length co28)) (fun _ h_ => h_.1))) hga31) (Kd.S_base ho1) hb); replace HO506 := Aside0.mk (Kd.S_elder' (Kd.S_ageo (by refine bS ?_; exact (Kd.S_mono (Kd.S_far (p := ⟨gb508, 1, none⟩) (Kd.S_far (p := ⟨gb508, 0, none⟩) (Kd.S_types HO506.out BK508.out (by decide)) (fun _ hk => hk.2) (.slice Ao25 t501.length co25)) (fun _ hk => hk.2) (.slice Ao28 t504.length co28)) (fun _ h_ => h_.1))) hga31) (Kd.S_base ho1) hb); replace BK493 := Aside0.mk (blk_below (g := gb493) (o := .cells #[.slice A0_0 l0_0.length c0_0, .slice A0_1 l0_1.length c0_1] 25 (0, 0)) (by refine bd ?_; refine blk_far ?_ NB493_508.out _; refine bd ?_; refine blk_far ?_ NB493_508.out _; refine bd ?_; exact BK493.out) hb); replace BK508 := Aside0.mk (blk_below (g := gb508) (o := .cells #[.slice Ao25 t501.length co25, .slice Ao28 t504.length co28] 31 (0, 0)) (by refine bd ?_; refine blk_put (cs := #[.slice Ao25 t501.length co25, .slice none 0 0]) ?_ 1 _ rfl; refine bd ?_; refine blk_put (cs := #[.slice none 0 0, .slice none 0 0]) ?_ 0 _ rfl; refine bd ?_; exact BK508.out) hb); replace HB := hB hb; (try clear hb); (try clear hb2); (try clear hk); (try clear hi); (try clear ho0); (try clear ho1)) | ((with_reducible refine gate_dst (N := 10) rfl ?_); refine bx 10 (cs := #[.slice none 0 0, .slice none 0 0]) (t := 31) ?_; intro gb515 hg w32 hbox hb; replace HO497 := Aside0.mk (Kd.R_below (zR HO497) hb); replace HO500 := Aside0.mk (Kd.S_below (zS HO500) hb); replace HO503 := Aside0.mk (Kd.R_below (zR HO503) hb); replace HO506 := Aside0.mk (Kd.S_below (zS HO506) hb); replace HO511 := Aside0.mk (Kd.R_below (zR HO511) hb); replace HO514 := Aside0.mk (Kd.S_below (zS HO514) hb); have BK515 := Aside0.mk (hbox); have GW515 := gw hg; have GE515 := gw hg; replace HB := hB hb; have NB493_515 := nl hg BK493; have NB515_493 := ng hg BK493; replace BK493 := kb BK493 hb; have NB508_515 := nl hg BK508; have NB515_508 := ng hg BK508; replace BK508 := kb BK508 hb; clear hb hbox hg; obtain ⟨Ao33, co33, eo33⟩ := Kd.R_slice HO511.out; subst eo33; have hnb34 := NB515_493.out; have hnc34 := NB493_515.out; have hnb35 := NB515_508.out; have hnc35 := NB508_515.out; obtain ⟨hcz36_0, hcz36_1, hfz36_0, hfz36_1⟩ := z2 BK515; obtain ⟨Ao37, co37, eo37⟩ := Kd.S_slice HO514.out; subst eo37) | (refine gc 37 Tryd.func25 #[.agg #[.slice Ao33 t509.length co33, .slice Ao37 t512.length co37], .int .i64 a1, .int .i64 a2] ?_; (with_reducible refine (impl_CloseAccounts.calls k _ _ t509 _ _ t512 a1 a2 t516 t519 t522 _ ?side1 ?side2 ?side3 ?side4 A12.out).mono ?_); (case side1 => exact (Kd.R_reads' (e := 48) (base := w.heap.size) (n := t509.length) (c := co33) ZZ25036a).2.2); (case side2 => exact (Kd.R_reads' HO511.out).2.1); (case side3 => exact (Kd.S_reads' (e := 63) (base := w.heap.size) (n := t512.length) (c := co37) ZZ56d3da).2.2); (case side4 => exact (Kd.S_reads' HO514.out).2.1); rintro e w38 ⟨v517, v520, rfl, ho0, ho1, hb⟩; refine ⟨_, rfl, ?_⟩; obtain ⟨ga39, hga39⟩ := Kd.age hb; have HO518 := Aside0.mk (Kd.R_lower (Kd.R_new' (Kd.R_new' (Kd.R_new' ho0 (Kd.R_lt (by refine bR ?_; exact (Kd.R_mono (Kd.R_far (p := ⟨gb515, 1, none⟩) (Kd.R_far (p := ⟨gb515, 0, none⟩) (Kd.R_types HO497.out BK515.out (by decide)) (fun _ hk => hk.2) (.slice Ao33 t509.length co33)) (fun _ hk => hk.2) (.slice Ao37 t512.length co37)) (fun _ h_ => h_.1))))) (Kd.R_lt (by refine bR ?_; exact (Kd.R_mono (Kd.R_far (p := ⟨gb515, 1, none⟩) (Kd.R_far (p := ⟨gb515, 0, none⟩) (Kd.R_types HO503.out BK515.out (by decide)) (fun _ hk => hk.2) (.slice Ao33 t509.length co33)) (fun _ hk => hk.2) (.slice Ao37 t512.length co37)) (fun _ h_ => h_.1))))) (Kd.R_lt ZZ25036a)) (below_size ZZ295621)); replace HO497 := Aside0.mk (Kd.R_elder' (by refine bR ?_; exact (Kd.R_mono (Kd.R_far (p := ⟨gb515, 1, none⟩) (Kd.R_far (p := ⟨gb515, 0, none⟩) (Kd.R_types HO497.out BK515.out (by decide)) (fun _ hk => hk.2) (.slice Ao33 t509.length co33)) (fun _ hk => hk.2) (.slice Ao37 t512.length co37)) (fun _ h_ => h_.1))) (Kd.R_base ho0) hb); replace HO503 := Aside0.mk (Kd.R_elder' (by refine bR ?_; exact (Kd.R_mono (Kd.R_far (p := ⟨gb515, 1, none⟩) (Kd.R_far (p := ⟨gb515, 0, none⟩) (Kd.R_types HO503.out BK515.out (by decide)) (fun _ hk => hk.2) (.slice Ao33 t509.length co33)) (fun _ hk => hk.2) (.slice Ao37 t512.length co37)) (fun _ h_ => h_.1))) (Kd.R_base ho0) hb); replace HO511 := Aside0.mk (Kd.R_elder' ZZ25036a (Kd.R_base ho0) hb); have HO521 := Aside0.mk (Kd.S_lower (Kd.S_agen (Kd.S_new' (Kd.S_new' (Kd.S_new' ho1 (Kd.S_lt (by refine bS ?_; exact (Kd.S_mono (Kd.S_far (p := ⟨gb515, 1, none⟩) (Kd.S_far (p := ⟨gb515, 0, none⟩) (Kd.S_types HO500.out BK515.out (by decide)) (fun _ hk => hk.2) (.slice Ao33 t509.length co33)) (fun _ hk => hk.2) (.slice Ao37 t512.length co37)) (fun _ h_ => h_.1))))) (Kd.S_lt (by refine bS ?_; exact (Kd.S_mono (Kd.S_far (p := ⟨gb515, 1, none⟩) (Kd.S_far (p := ⟨gb515, 0, none⟩) (Kd.S_types HO506.out BK515.out (by decide)) (fun _ hk => hk.2) (.slice Ao33 t509.length co33)) (fun _ hk => hk.2) (.slice Ao37 t512.length co37)) (fun _ h_ => h_.1))))) (Kd.S_lt ZZ56d3da)) hga39) (below_size ZZ295621)); replace HO500 := Aside0.mk (Kd.S_elder' (Kd.S_ageo (by refine bS ?_; exact (Kd.S_mono (Kd.S_far (p := ⟨gb515, 1, none⟩) (Kd.S_far (p := ⟨gb515, 0, none⟩) (Kd.S_types HO500.out BK515.out (by decide)) (fun _ hk => hk.2) (.slice Ao33 t509.length co33)) (fun _ hk => hk.2) (.slice Ao37 t512.length co37)) (fun _ h_ => h_.1))) hga39) (Kd.S_base ho1) hb); replace HO506 := Aside0.mk (Kd.S_elder' (Kd.S_ageo (by refine bS ?_; exact (Kd.S_mono (Kd.S_far (p := ⟨gb515, 1, none⟩) (Kd.S_far (p := ⟨gb515, 0, none⟩) (Kd.S_types HO506.out BK515.out (by decide)) (fun _ hk => hk.2) (.slice Ao33 t509.length co33)) (fun _ hk => hk.2) (.slice Ao37 t512.length co37)) (fun _ h_ => h_.1))) hga39) (Kd.S_base ho1) hb); replace HO514 := Aside0.mk (Kd.S_elder' (Kd.S_ageo ZZ56d3da hga39) (Kd.S_base ho1) hb); replace BK493 := Aside0.mk (blk_below (g := gb493) (o := .cells #[.slice A0_0 l0_0.length c0_0, .slice A0_1 l0_1.length c0_1] 25 (0, 0)) (by refine bd ?_; refine blk_far ?_ NB493_515.out _; refine bd ?_; refine blk_far ?_ NB493_515.out _; refine bd ?_; exact BK493.out) hb); replace BK508 := Aside0.mk (blk_below (g := gb508) (o := .cells #[.slice Ao25 t501.length co25, .slice Ao28 t504.length co28] 31 (0, 0)) (by refine bd ?_; refine blk_far ?_ NB508_515.out _; refine bd ?_; refine blk_far ?_ NB508_515.out _; refine bd ?_; exact BK508.out) hb); replace BK515 := Aside0.mk (blk_below (g := gb515) (o := .cells #[.slice Ao33 t509.length co33, .slice Ao37 t512.length co37] 31 (0, 0)) (by refine bd ?_; refine blk_put (cs := #[.slice Ao33 t509.length co33, .slice none 0 0]) ?_ 1 _ rfl; refine bd ?_; refine blk_put (cs := #[.slice none 0 0, .slice none 0 0]) ?_ 0 _ rfl; refine bd ?_; exact BK515.out) hb); replace HB := hB hb; (try clear hb); (try clear hb2); (try clear hk); (try clear hi); (try clear ho0); (try clear ho1)) | ((with_reducible refine gate_dst (N := 11) rfl ?_); refine bx 11 (cs := #[.slice none 0 0, .slice none 0 0]) (t := 31) ?_; intro gb523 hg w40 hbox hb; replace HO497 := Aside0.mk (Kd.R_below (zR HO497) hb); replace HO500 := Aside0.mk (Kd.S_below (zS HO500) hb); replace HO503 := Aside0.mk (Kd.R_below (zR HO503) hb); replace HO506 := Aside0.mk (Kd.S_below (zS HO506) hb); replace HO511 := Aside0.mk (Kd.R_below (zR HO511) hb); replace HO514 := Aside0.mk (Kd.S_below (zS HO514) hb); replace HO518 := Aside0.mk (Kd.R_below (zR HO518) hb); replace HO521 := Aside0.mk (Kd.S_below (zS HO521) hb); have BK523 := Aside0.mk (hbox); have GW523 := gw hg; have GE523 := gw hg; replace HB := hB hb; have NB493_523 := nl hg BK493; have NB523_493 := ng hg BK493; replace BK493 := kb BK493 hb; have NB508_523 := nl hg BK508; have NB523_508 := ng hg BK508; replace BK508 := kb BK508 hb; have NB515_523 := nl hg BK515; have NB523_515 := ng hg BK515; replace BK515 := kb BK515 hb; clear hb hbox hg; obtain ⟨Ao41, co41, eo41⟩ := Kd.R_slice HO518.out; subst eo41; have hnb42 := NB523_493.out; have hnc42 := NB493_523.out; have hnb43 := NB523_508.out; have hnc43 := NB508_523.out; have hnb44 := NB523_515.out; have hnc44 := NB515_523.out; obtain ⟨hcz45_0, hcz45_1, hfz45_0, hfz45_1⟩ := z2 BK523; obtain ⟨Ao46, co46, eo46⟩ := Kd.S_slice HO521.out; subst eo46))
 (try simp only [Act.put, List.setIfInBounds_toArray, List.set_cons_zero, List.set_cons_succ])
 go_cut [48] (fun v48 wc => ∃ (kq : Nat) (x48_12 : Bool), v48 = .bool x48_12 ∧ Aside0 (laws_FnExactCloseAccounts.j0 kq a1 a2 t507 t522 x48_12 l0_0 l0_1 t501 t504 t509 t512 t516 t519 = some r) ∧ Aside0 (kq ≤ k) ∧ Aside0 (Kd.R k48 48 wc w.heap.size (fun k_ => some k_ ≠ ((.slice Ao33 t509.length co33) : Value).ownBlock ∧ some k_ ≠ ((.slice Ao41 t516.length co41) : Value).ownBlock) (.slice Ao25 t501.length co25) t501) ∧ Aside0 (Kd.S k63 63 wc w.heap.size (fun k_ => some k_ ≠ ((.slice Ao37 t512.length co37) : Value).ownBlock ∧ some k_ ≠ ((.slice Ao46 t519.length co46) : Value).ownBlock ∧ ga23 ≤ k_ ∧ k_ < ga31 ∧ k_ < ga39) (.slice Ao28 t504.length co28) t504) ∧ Aside0 (Kd.R k48 48 wc w.heap.size (fun k_ => some k_ ≠ ((.slice Ao25 t501.length co25) : Value).ownBlock ∧ some k_ ≠ ((.slice Ao41 t516.length co41) : Value).ownBlock) (.slice Ao33 t509.length co33) t509) ∧ Aside0 (Kd.S k63 63 wc w.heap.size (fun k_ => some k_ ≠ ((.slice Ao28 t504.length co28) : Value).ownBlock ∧ some k_ ≠ ((.slice Ao46 t519.length co46) : Value).ownBlock ∧ ga31 ≤ k_ ∧ k_ < ga39) (.slice Ao37 t512.length co37) t512) ∧ Aside0 (Kd.R k48 48 wc w.heap.size (fun k_ => some k_ ≠ ((.slice Ao25 t501.length co25) : Value).ownBlock ∧ some k_ ≠ ((.slice Ao33 t509.length co33) : Value).ownBlock) (.slice Ao41 t516.length co41) t516) ∧ Aside0 (Kd.S k63 63 wc w.heap.size (fun k_ => some k_ ≠ ((.slice Ao28 t504.length co28) : Value).ownBlock ∧ some k_ ≠ ((.slice Ao37 t512.length co37) : Value).ownBlock ∧ ga39 ≤ k_) (.slice Ao46 t519.length co46) t519) ∧ Aside0 (wc.heap[gb493]? = some (.cells #[(.slice A0_0 l0_0.length c0_0), (.slice A0_1 l0_1.length c0_1)] 25 (0, 0))) ∧ Aside0 (wc.heap[gb508]? = some (.cells #[(.slice Ao25 t501.length co25), (.slice Ao28 t504.length co28)] 31 (0, 0))) ∧ Aside0 (wc.heap[gb515]? = some (.cells #[(.slice Ao33 t509.length co33), (.slice Ao37 t512.length co37)] 31 (0, 0))) ∧ Aside0 (wc.heap[gb523]? = some (.cells #[(.slice Ao41 t516.length co41), (.slice Ao46 t519.length co46)] 31 (0, 0))) ∧ Aside0 (Below w.heap.size w wc))
 case first =>
  have H := HC13.out
  clear HC13
  obtain ⟨t524, A47, H⟩ := bdY H
  have hnb49 := NB523_493.out
  have hnc49 := NB493_523.out
  have hnb50 := NB523_508.out
  have hnc50 := NB508_523.out
  have hnb51 := NB523_515.out
  have hnc51 := NB515_523.out
  obtain ⟨hcz52_0, hcz52_1, hfz52_0, hfz52_1⟩ := z2 BK523
  have hnb53 := NB508_493.out
  have hnc53 := NB493_508.out
  have hnb54 := NB508_515.out
  have hnc54 := NB515_508.out
  obtain ⟨hcz55_0, hcz55_1, hfz55_0, hfz55_1⟩ := z2 BK508
  by_cases c48 : t524 = true
  ·subst c48
   replace H := ifT H
   replace H := Aside0.mk H
   go_wp2_with (first | (refine gc 42 Tryd.func18 #[.agg #[.slice Ao41 t516.length co41, .slice Ao46 t519.length co46], .agg #[.slice Ao25 t501.length co25, .slice Ao28 t504.length co28]] ?_; (with_reducible refine (laws_eqLedger.calls k _ _ t516 _ _ t519 _ _ t501 _ _ t504 true _ ?side1 ?side2 ?side3 ?side4 ?side5 ?side6 ?side7 ?side8 A47.out).mono ?_); (case side1 => exact (Kd.R_reads' (e := 48) (base := w.heap.size) (n := t516.length) (c := co41) ZZ519ce2).2.2); (case side2 => exact (Kd.R_reads' HO518.out).2.1); (case side3 => exact (Kd.S_reads' (e := 63) (base := w.heap.size) (n := t519.length) (c := co46) ZZe751ea).2.2); (case side4 => exact (Kd.S_reads' HO521.out).2.1); (case side5 => exact (Kd.R_reads' (e := 48) (base := w.heap.size) (n := t501.length) (c := co25) ZZ09dbd7).2.2); (case side6 => exact (Kd.R_reads' HO503.out).2.1); (case side7 => exact (Kd.S_reads' (e := 63) (base := w.heap.size) (n := t504.length) (c := co28) ZZ70983a).2.2); (case side8 => exact (Kd.S_reads' HO506.out).2.1); rintro e w56 ⟨rfl, hb⟩; refine ⟨_, rfl, ?_⟩; replace HO497 := Aside0.mk (Kd.R_below (by refine bR ?_; exact (Kd.R_mono (Kd.R_far (p := ⟨gb523, 1, none⟩) (Kd.R_far (p := ⟨gb523, 0, none⟩) (Kd.R_types HO497.out BK523.out (by decide)) (fun _ hk => hk.2) (.slice Ao41 t516.length co41)) (fun _ hk => hk.2) (.slice Ao46 t519.length co46)) (fun _ h_ => h_.1))) hb); replace HO500 := Aside0.mk (Kd.S_below (by refine bS ?_; exact (Kd.S_mono (Kd.S_far (p := ⟨gb523, 1, none⟩) (Kd.S_far (p := ⟨gb523, 0, none⟩) (Kd.S_types HO500.out BK523.out (by decide)) (fun _ hk => hk.2) (.slice Ao41 t516.length co41)) (fun _ hk => hk.2) (.slice Ao46 t519.length co46)) (fun _ h_ => h_.1))) hb); replace HO503 := Aside0.mk (Kd.R_below ZZ09dbd7 hb); replace HO506 := Aside0.mk (Kd.S_below ZZ70983a hb); replace HO511 := Aside0.mk (Kd.R_below (by refine bR ?_; exact (Kd.R_mono (Kd.R_far (p := ⟨gb523, 1, none⟩) (Kd.R_far (p := ⟨gb523, 0, none⟩) (Kd.R_types HO511.out BK523.out (by decide)) (fun _ hk => hk.2) (.slice Ao41 t516.length co41)) (fun _ hk => hk.2) (.slice Ao46 t519.length co46)) (fun _ h_ => h_.1))) hb); replace HO514 := Aside0.mk (Kd.S_below (by refine bS ?_; exact (Kd.S_mono (Kd.S_far (p := ⟨gb523, 1, none⟩) (Kd.S_far (p := ⟨gb523, 0, none⟩) (Kd.S_types HO514.out BK523.out (by decide)) (fun _ hk => hk.2) (.slice Ao41 t516.length co41)) (fun _ hk => hk.2) (.slice Ao46 t519.length co46)) (fun _ h_ => h_.1))) hb); replace HO518 := Aside0.mk (Kd.R_below ZZ519ce2 hb); replace HO521 := Aside0.mk (Kd.S_below ZZe751ea hb); replace BK493 := Aside0.mk (blk_below (g := gb493) (o := .cells #[.slice A0_0 l0_0.length c0_0, .slice A0_1 l0_1.length c0_1] 25 (0, 0)) (by refine bd ?_; refine blk_far ?_ NB493_523.out _; refine bd ?_; refine blk_far ?_ NB493_523.out _; refine bd ?_; exact BK493.out) hb); replace BK508 := Aside0.mk (blk_below (g := gb508) (o := .cells #[.slice Ao25 t501.length co25, .slice Ao28 t504.length co28] 31 (0, 0)) (by refine bd ?_; refine blk_far ?_ NB508_523.out _; refine bd ?_; refine blk_far ?_ NB508_523.out _; refine bd ?_; exact BK508.out) hb); replace BK515 := Aside0.mk (blk_below (g := gb515) (o := .cells #[.slice Ao33 t509.length co33, .slice Ao37 t512.length co37] 31 (0, 0)) (by refine bd ?_; refine blk_far ?_ NB515_523.out _; refine bd ?_; refine blk_far ?_ NB515_523.out _; refine bd ?_; exact BK515.out) hb); replace BK523 := Aside0.mk (blk_below (g := gb523) (o := .cells #[.slice Ao41 t516.length co41, .slice Ao46 t519.length co46] 31 (0, 0)) (by refine bd ?_; refine blk_put (cs := #[.slice Ao41 t516.length co41, .slice none 0 0]) ?_ 1 _ rfl; refine bd ?_; refine blk_put (cs := #[.slice none 0 0, .slice none 0 0]) ?_ 0 _ rfl; refine bd ?_; exact BK523.out) hb); replace HB := hB hb; (try clear hb); (try clear hb2); (try clear hk); (try clear hi)))
   go_meet
   case rel => exact ⟨_, ((t522 != t507)), ZZ0ab324, H, kle, ⟨(by refine bR ?_; exact Kd.R_mono HO503.out (fun _ hk => ⟨hk.1.2, zA hk.2⟩))⟩, ⟨(by refine bS ?_; exact Kd.S_mono HO506.out (fun _ hk => ⟨hk.1.1.2, ⟨hk.2, ⟨hk.1.1.1.1.2, ⟨hk.1.1.1.2, hk.1.2⟩⟩⟩⟩))⟩, ⟨(by refine bR ?_; exact Kd.R_mono HO511.out (fun _ hk => ⟨hk.1.2, zA hk.2⟩))⟩, ⟨(by refine bS ?_; exact Kd.S_mono HO514.out (fun _ hk => ⟨hk.1.1.1.2, ⟨hk.2, ⟨hk.1.1.2, hk.1.2⟩⟩⟩))⟩, ⟨(by refine bR ?_; exact Kd.R_mono HO518.out (fun _ hk => ⟨hk.1.2, zA hk.2⟩))⟩, ⟨(by refine bS ?_; exact Kd.S_mono HO521.out (fun _ hk => ⟨hk.1.1.2, ⟨hk.1.2, zA hk.2⟩⟩))⟩, ⟨(zB BK493)⟩, ⟨(zB BK508)⟩, ⟨(zB BK515)⟩, ⟨(zB BK523)⟩, ⟨ZZ295621⟩⟩
  replace c48 := Bool.eq_false_iff.mpr c48
  subst c48
  replace H := ifF H
  replace H := Aside0.mk H
  go_wp2_with (first | (refine gc 42 Tryd.func18 #[.agg #[.slice Ao41 t516.length co41, .slice Ao46 t519.length co46], .agg #[.slice Ao25 t501.length co25, .slice Ao28 t504.length co28]] ?_; (with_reducible refine (laws_eqLedger.calls k _ _ t516 _ _ t519 _ _ t501 _ _ t504 false _ ?side1 ?side2 ?side3 ?side4 ?side5 ?side6 ?side7 ?side8 A47.out).mono ?_); (case side1 => exact (Kd.R_reads' (e := 48) (base := w.heap.size) (n := t516.length) (c := co41) ZZ519ce2).2.2); (case side2 => exact (Kd.R_reads' HO518.out).2.1); (case side3 => exact (Kd.S_reads' (e := 63) (base := w.heap.size) (n := t519.length) (c := co46) ZZe751ea).2.2); (case side4 => exact (Kd.S_reads' HO521.out).2.1); (case side5 => exact (Kd.R_reads' (e := 48) (base := w.heap.size) (n := t501.length) (c := co25) ZZ09dbd7).2.2); (case side6 => exact (Kd.R_reads' HO503.out).2.1); (case side7 => exact (Kd.S_reads' (e := 63) (base := w.heap.size) (n := t504.length) (c := co28) ZZ70983a).2.2); (case side8 => exact (Kd.S_reads' HO506.out).2.1); rintro e w64 ⟨rfl, hb⟩; refine ⟨_, rfl, ?_⟩; replace HO497 := Aside0.mk (Kd.R_below (by refine bR ?_; exact (Kd.R_mono (Kd.R_far (p := ⟨gb523, 1, none⟩) (Kd.R_far (p := ⟨gb523, 0, none⟩) (Kd.R_types HO497.out BK523.out (by decide)) (fun _ hk => hk.2) (.slice Ao41 t516.length co41)) (fun _ hk => hk.2) (.slice Ao46 t519.length co46)) (fun _ h_ => h_.1))) hb); replace HO500 := Aside0.mk (Kd.S_below (by refine bS ?_; exact (Kd.S_mono (Kd.S_far (p := ⟨gb523, 1, none⟩) (Kd.S_far (p := ⟨gb523, 0, none⟩) (Kd.S_types HO500.out BK523.out (by decide)) (fun _ hk => hk.2) (.slice Ao41 t516.length co41)) (fun _ hk => hk.2) (.slice Ao46 t519.length co46)) (fun _ h_ => h_.1))) hb); replace HO503 := Aside0.mk (Kd.R_below ZZ09dbd7 hb); replace HO506 := Aside0.mk (Kd.S_below ZZ70983a hb); replace HO511 := Aside0.mk (Kd.R_below (by refine bR ?_; exact (Kd.R_mono (Kd.R_far (p := ⟨gb523, 1, none⟩) (Kd.R_far (p := ⟨gb523, 0, none⟩) (Kd.R_types HO511.out BK523.out (by decide)) (fun _ hk => hk.2) (.slice Ao41 t516.length co41)) (fun _ hk => hk.2) (.slice Ao46 t519.length co46)) (fun _ h_ => h_.1))) hb); replace HO514 := Aside0.mk (Kd.S_below (by refine bS ?_; exact (Kd.S_mono (Kd.S_far (p := ⟨gb523, 1, none⟩) (Kd.S_far (p := ⟨gb523, 0, none⟩) (Kd.S_types HO514.out BK523.out (by decide)) (fun _ hk => hk.2) (.slice Ao41 t516.length co41)) (fun _ hk => hk.2) (.slice Ao46 t519.length co46)) (fun _ h_ => h_.1))) hb); replace HO518 := Aside0.mk (Kd.R_below ZZ519ce2 hb); replace HO521 := Aside0.mk (Kd.S_below ZZe751ea hb); replace BK493 := Aside0.mk (blk_below (g := gb493) (o := .cells #[.slice A0_0 l0_0.length c0_0, .slice A0_1 l0_1.length c0_1] 25 (0, 0)) (by refine bd ?_; refine blk_far ?_ NB493_523.out _; refine bd ?_; refine blk_far ?_ NB493_523.out _; refine bd ?_; exact BK493.out) hb); replace BK508 := Aside0.mk (blk_below (g := gb508) (o := .cells #[.slice Ao25 t501.length co25, .slice Ao28 t504.length co28] 31 (0, 0)) (by refine bd ?_; refine blk_far ?_ NB508_523.out _; refine bd ?_; refine blk_far ?_ NB508_523.out _; refine bd ?_; exact BK508.out) hb); replace BK515 := Aside0.mk (blk_below (g := gb515) (o := .cells #[.slice Ao33 t509.length co33, .slice Ao37 t512.length co37] 31 (0, 0)) (by refine bd ?_; refine blk_far ?_ NB515_523.out _; refine bd ?_; refine blk_far ?_ NB515_523.out _; refine bd ?_; exact BK515.out) hb); replace BK523 := Aside0.mk (blk_below (g := gb523) (o := .cells #[.slice Ao41 t516.length co41, .slice Ao46 t519.length co46] 31 (0, 0)) (by refine bd ?_; refine blk_put (cs := #[.slice Ao41 t516.length co41, .slice none 0 0]) ?_ 1 _ rfl; refine bd ?_; refine blk_put (cs := #[.slice none 0 0, .slice none 0 0]) ?_ 0 _ rfl; refine bd ?_; exact BK523.out) hb); replace HB := hB hb; (try clear hb); (try clear hb2); (try clear hk); (try clear hi)))
  go_meet
  case rel => exact ⟨_, (true), ZZ0ab324, H, kle, ⟨(by refine bR ?_; exact Kd.R_mono HO503.out (fun _ hk => ⟨hk.1.2, zA hk.2⟩))⟩, ⟨(by refine bS ?_; exact Kd.S_mono HO506.out (fun _ hk => ⟨hk.1.1.2, ⟨hk.2, ⟨hk.1.1.1.1.2, ⟨hk.1.1.1.2, hk.1.2⟩⟩⟩⟩))⟩, ⟨(by refine bR ?_; exact Kd.R_mono HO511.out (fun _ hk => ⟨hk.1.2, zA hk.2⟩))⟩, ⟨(by refine bS ?_; exact Kd.S_mono HO514.out (fun _ hk => ⟨hk.1.1.1.2, ⟨hk.2, ⟨hk.1.1.2, hk.1.2⟩⟩⟩))⟩, ⟨(by refine bR ?_; exact Kd.R_mono HO518.out (fun _ hk => ⟨hk.1.2, zA hk.2⟩))⟩, ⟨(by refine bS ?_; exact Kd.S_mono HO521.out (fun _ hk => ⟨hk.1.1.2, ⟨hk.1.2, zA hk.2⟩⟩))⟩, ⟨(zB BK493)⟩, ⟨(zB BK508)⟩, ⟨(zB BK515)⟩, ⟨(zB BK523)⟩, ⟨ZZ295621⟩⟩
 case rest =>
  clear HC13
  try clear c5b0
  try clear c48
  try clear hcz15_0
  try clear hcz15_1
  try clear hcz17_0
  try clear hcz17_1
  try clear hcz27_0
  try clear hcz27_1
  try clear hcz29_0
  try clear hcz29_1
  try clear hcz36_0
  try clear hcz36_1
  try clear hcz45_0
  try clear hcz45_1
  try clear hcz52_0
  try clear hcz52_1
  try clear hcz55_0
  try clear hcz55_1
  try clear hcz60_0
  try clear hcz60_1
  try clear hcz63_0
  try clear hcz63_1
  try clear hcz7_0
  try clear hcz7_1
  try clear hfz15_0
  try clear hfz15_1
  try clear hfz17_0
  try clear hfz17_1
  try clear hfz27_0
  try clear hfz27_1
  try clear hfz29_0
  try clear hfz29_1
  try clear hfz36_0
  try clear hfz36_1
  try clear hfz45_0
  try clear hfz45_1
  try clear hfz52_0
  try clear hfz52_1
  try clear hfz55_0
  try clear hfz55_1
  try clear hfz60_0
  try clear hfz60_1
  try clear hfz63_0
  try clear hfz63_1
  try clear hfz7_0
  try clear hfz7_1
  obtain ⟨kq, x48_12, rfl, HA, HJ12, HO_509000, HO_509001, HO_516000, HO_516001, HO_524000, HO_524001, BK493, BK508, BK515, BK523, HB⟩ := hcut
  cases kq with
  | zero => exact absurd HA.out (by simp [laws_FnExactCloseAccounts.j0])
  | succ kj12 =>
   have H := HA.out
   clear HA
   simp only [laws_FnExactCloseAccounts.j0] at H
   by_cases c65 : x48_12 = true
   ·subst c65
    replace H := ifT H
    obtain rfl := Option.some.inj H
    go_wp2
    go_ret
    exact ⟨ZZab01d2, ZZ295621⟩
   replace c65 := Bool.eq_false_iff.mpr c65
   subst c65
   replace H := ifF H
   obtain ⟨⟨t525, t528⟩, A66, H⟩ := bdY H
   try dsimp only at H
   obtain ⟨t531, A67, H⟩ := bdY H
   by_cases c68 : t531 = true
   ·subst c68
    replace H := ifT H
    obtain ⟨⟨t532, t533, t534⟩, A69, H⟩ := bdY H
    try dsimp only at H
    have HC70 := Aside0.mk H
    clear H
    try go_wp2
    replace HO_509000 := Aside0.mk (Kd.R_drew HO_509000.out)
    replace HO_509001 := Aside0.mk (Kd.S_drew HO_509001.out)
    replace HO_516000 := Aside0.mk (Kd.R_drew HO_516000.out)
    replace HO_516001 := Aside0.mk (Kd.S_drew HO_516001.out)
    replace HO_524000 := Aside0.mk (Kd.R_drew HO_524000.out)
    replace HO_524001 := Aside0.mk (Kd.S_drew HO_524001.out)
    replace BK493 := Aside0.mk (blk_drew BK493.out)
    replace BK508 := Aside0.mk (blk_drew BK508.out)
    replace BK515 := Aside0.mk (blk_drew BK515.out)
    replace BK523 := Aside0.mk (blk_drew BK523.out)
    replace HB := Aside0.mk (below_drew1 HB.out)
    refine start_ (n := 5) (S := fun w' => w'.cell? ⟨gb515, 0, none⟩ = some (.slice Ao33 t509.length co33) ∧ w'.cell? ⟨gb515, 1, none⟩ = some (.slice Ao37 t512.length co37) ∧ w'.cell? ⟨gb493, 0, none⟩ = some (.slice A0_0 l0_0.length c0_0) ∧ w'.cell? ⟨gb493, 1, none⟩ = some (.slice A0_1 l0_1.length c0_1)) (ds := []) #[false, false, false, false, false] (by kernel_rfl) rfl rfl ⟨(blk_cell BK515.out 0).trans rfl, (blk_cell BK515.out 1).trans rfl, (blk_cell BK493.out 0).trans rfl, (blk_cell BK493.out 1).trans rfl⟩ (fun hHeld => ?_)
    generalize wc.drew = w71 at HO_509000 HO_509001 HO_516000 HO_516001 HO_524000 HO_524001 BK493 BK508 BK515 BK523 HB hHeld ⊢
    refine take_ (i := 0) (N := some 49) (v := ?_) (a' := ?_) #[true, false, false, false, false] rfl rfl (by kernel_rfl) (fun _ _ _ h => h) (Or.inl ⟨(by rfl), ?_⟩) hHeld ?_ ?_
    rotate_left
    ·rintro w' ⟨s0, s1, s2, s3⟩
     go_simp
     with_reducible rfl
    rotate_left
    ·simp only [Act.put, List.setIfInBounds_toArray, List.set_cons_zero, List.set_cons_succ, i64_w, i32_w]
     rfl
    refine take_ (i := 1) (N := some 50) (v := ?_) (a' := ?_) #[true, true, false, false, false] rfl rfl (by kernel_rfl) (fun _ _ _ h => h) (Or.inl ⟨(by rfl), ?_⟩) hHeld ?_ ?_
    rotate_left
    ·rintro w' ⟨s0, s1, s2, s3⟩
     go_simp
     with_reducible rfl
    rotate_left
    ·simp only [Act.put, List.setIfInBounds_toArray, List.set_cons_zero, List.set_cons_succ, i64_w, i32_w]
     rfl
    refine one_ (i := 2) (N := some 51) #[true, true, true, false, false] rfl rfl (by kernel_rfl) (by decide) (fun K hK => ?_)
    refine goes_ Tryd.func16 (by kernel_rfl) rfl #[.agg #[.slice A0_0 l0_0.length c0_0, .slice A0_1 l0_1.length c0_1]] (by rfl) rfl rfl ZZ19826e ?_
    with_reducible refine (laws_toLedger.calls kj12 _ _ l0_0 _ _ l0_1 t525 t528 _ ?side1 ?side2 ?side3 ?side4 A66.out).mono ?_
    (case side1 => exact (rC (Kd.C_below HR0_0.out HB.out)))
    (case side2 => exact HC0_0.out)
    (case side3 => exact (rC (Kd.C_below HR0_1.out HB.out)))
    (case side4 => exact HC0_1.out)
    rintro e w72 ⟨v526, v529, rfl, ho0, ho1, hb⟩
    refine ⟨_, rfl, ?_⟩
    have HO527 := Aside0.mk (Kd.R_lower (Kd.R_new' (Kd.R_new' (Kd.R_new' ho0 (Kd.R_lt (zR HO_509000))) (Kd.R_lt (zR HO_516000))) (Kd.R_lt (zR HO_524000))) (below_size ZZ295621))
    replace HO_509000 := Aside0.mk (Kd.R_elder' (zR HO_509000) (Kd.R_base ho0) hb)
    replace HO_516000 := Aside0.mk (Kd.R_elder' (zR HO_516000) (Kd.R_base ho0) hb)
    replace HO_524000 := Aside0.mk (Kd.R_elder' (zR HO_524000) (Kd.R_base ho0) hb)
    have HO530 := Aside0.mk (Kd.S_lower (Kd.S_new' (Kd.S_new' (Kd.S_new' ho1 (Kd.S_lt (zS HO_509001))) (Kd.S_lt (zS HO_516001))) (Kd.S_lt (zS HO_524001))) (below_size ZZ295621))
    replace HO_509001 := Aside0.mk (Kd.S_elder' (zS HO_509001) (Kd.S_base ho1) hb)
    replace HO_516001 := Aside0.mk (Kd.S_elder' (zS HO_516001) (Kd.S_base ho1) hb)
    replace HO_524001 := Aside0.mk (Kd.S_elder' (zS HO_524001) (Kd.S_base ho1) hb)
    replace BK493 := kb BK493 hb
    replace BK508 := kb BK508 hb
    replace BK515 := kb BK515 hb
    replace BK523 := kb BK523 hb
    replace HB := hB hb
    (try clear hb)
    (try clear hb2)
    (try clear hk)
    (try clear hi)
    (try clear ho0)
    (try clear ho1)
    obtain ⟨Ao73, co73, eo73⟩ := Kd.R_slice HO527.out
    (first | subst eo73 | (injection eo73 with f1_ f2_ f3_; have f4_ := f1_.symm; have f5_ := f3_.symm; clear f1_ f2_ f3_; subst f4_; subst f5_))
    obtain ⟨Ao74, co74, eo74⟩ := Kd.S_slice HO530.out
    (first | subst eo74 | (injection eo74 with f1_ f2_ f3_; have f4_ := f1_.symm; have f5_ := f3_.symm; clear f1_ f2_ f3_; subst f4_; subst f5_))
    refine hK.out _ _ zK (fun hHeld => ?_)
    clear hK K
    refine nd (some 51) ?_
    refine one_ (i := 3) (N := some 52) #[true, true, true, true, false] rfl rfl (by kernel_rfl) (by decide) (fun K hK => ?_)
    refine goes_ Tryd.func18 (by kernel_rfl) rfl #[.agg #[.slice Ao33 t509.length co33, .slice Ao37 t512.length co37], .agg #[.slice Ao73 t525.length co73, .slice Ao74 t528.length co74]] (by rfl) rfl rfl ZZ19826e ?_
    with_reducible refine (laws_eqLedger.calls kj12 _ _ t509 _ _ t512 _ _ t525 _ _ t528 true _ ?side1 ?side2 ?side3 ?side4 ?side5 ?side6 ?side7 ?side8 A67.out).mono ?_
    (case side1 => exact rC (Kd.R_reads' HO_516000.out).2.2)
    (case side2 => exact (Kd.R_reads' HO_516000.out).2.1)
    (case side3 => exact rC (Kd.S_reads' HO_516001.out).2.2)
    (case side4 => exact (Kd.S_reads' HO_516001.out).2.1)
    (case side5 => exact rC (Kd.R_reads' HO527.out).2.2)
    (case side6 => exact (Kd.R_reads' HO527.out).2.1)
    (case side7 => exact rC (Kd.S_reads' HO530.out).2.2)
    (case side8 => exact (Kd.S_reads' HO530.out).2.1)
    rintro e w75 ⟨rfl, hb⟩
    refine ⟨_, rfl, ?_⟩
    replace HO_509000 := Aside0.mk (Kd.R_below (zR HO_509000) hb)
    replace HO_509001 := Aside0.mk (Kd.S_below (zS HO_509001) hb)
    replace HO_516000 := Aside0.mk (Kd.R_below (zR HO_516000) hb)
    replace HO_516001 := Aside0.mk (Kd.S_below (zS HO_516001) hb)
    replace HO_524000 := Aside0.mk (Kd.R_below (zR HO_524000) hb)
    replace HO_524001 := Aside0.mk (Kd.S_below (zS HO_524001) hb)
    replace HO527 := Aside0.mk (Kd.R_below (zR HO527) hb)
    replace HO530 := Aside0.mk (Kd.S_below (zS HO530) hb)
    replace BK493 := kb BK493 hb
    replace BK508 := kb BK508 hb
    replace BK515 := kb BK515 hb
    replace BK523 := kb BK523 hb
    replace HB := hB hb
    (try clear hb)
    (try clear hb2)
    (try clear hk)
    (try clear hi)
    refine hK.out _ _ zK (fun hHeld => ?_)
    clear hK K
    refine nd (some 52) ?_
    refine pure_ (i := 4) (N := some 53) (v := ?_) (a' := ?_) #[true, true, true, true, true] rfl rfl (by kernel_rfl) (fun _ _ _ h => h) (Or.inl ⟨(by rfl), ?_⟩) ?_ ?_
    rotate_left
    ·intro w'
     go_simp
     with_reducible rfl
    rotate_left
    ·simp only [Act.put, List.setIfInBounds_toArray, List.set_cons_zero, List.set_cons_succ, i64_w, i32_w]
     rfl
    refine done_ (by kernel_rfl) ?_
    have hnb76 := NB515_493.out
    have hnc76 := NB493_515.out
    have hnb77 := NB515_508.out
    have hnc77 := NB508_515.out
    have hnb78 := NB515_523.out
    have hnc78 := NB523_515.out
    obtain ⟨hcz79_0, hcz79_1, hfz79_0, hfz79_1⟩ := z2 BK515
    go_upto_region 14 with (first | (refine gc 56 Tryd.func31 #[.agg #[.slice Ao33 t509.length co33, .slice Ao37 t512.length co37], .int .i64 1] ?_; (with_reducible refine (laws_markLedger.calls kj12 (fun k_ => some k_ = (.slice Ao33 t509.length co33 : Value).ownBlock) (.slice Ao33 t509.length co33) t509 ?P0_1_2 (.slice Ao37 t512.length co37) t512 1 t532 t533 t534 w _ ?side1 ?side2 ?side3 A69.out).mono ?_); (case side1 => exact bw); (case side2 => exact Kd.R_tight rfl HO_516000.out); (case side3 => exact Kd.S_bound HO_516001.out); rintro e w80 ⟨rfl, hy0, hy1, hb, hkp⟩; refine ⟨_, rfl, ?_⟩; obtain ⟨ga81, hga81⟩ := Kd.agek hkp; replace HO_509000 := Aside0.mk (Kd.R_mono (ok' := fun k_ => some k_ ≠ (.slice Ao33 t509.length co33 : Value).ownBlock ∧ some k_ ≠ (.slice Ao41 t516.length co41 : Value).ownBlock ∧ some k_ ≠ (.slice Ao73 t525.length co73 : Value).ownBlock) (Kd.R_keptB ((Kd.R_bound HO_509000.out)) hkp (fun k_ hk_ hs_ => Or.elim hs_ (fun e_ => (hk_.1.1.1) e_) (fun e_ => (fun e_ => Kd.typed_ne (hk_.2).2.2 e_.2.2.2 (by decide)) e_))) (fun k_ hk_ => ⟨hk_.1.1.1.1, hk_.1.1.1.2, hk_.1.1.2⟩)); replace HO_516001 := Aside0.mk (Kd.S_mono (ok' := fun k_ => (some k_ ≠ (.slice Ao28 t504.length co28 : Value).ownBlock ∧ (some k_ ≠ (.slice Ao46 t519.length co46 : Value).ownBlock ∧ (some k_ ≠ (.slice Ao74 t528.length co74 : Value).ownBlock ∧ (k_ < ga39 ∨ ga81 ≤ k_))))) (Kd.S_bound hy1) (fun k_ hk_ => Or.elim hk_.1 (fun hs_ => Or.elim hs_ (fun e_ => (fun h_ => (Kd.typed_own hk_.2.2.2 (Kd.R_typed hy0 k_ h_.symm) (by decide)).elim) e_) (fun e_ => (fun h_ => ⟨h_.1.1.1, ⟨h_.1.1.2.1, ⟨h_.1.2, (.inl h_.1.1.2.2.2)⟩⟩⟩) e_)) (fun hn_ => ⟨fun e_ => Nat.not_le.2 (Kd.S_lt HO_509001.out k_ e_.symm) hn_, ⟨fun e_ => Nat.not_le.2 (Kd.S_lt HO_524001.out k_ e_.symm) hn_, ⟨fun e_ => Nat.not_le.2 (Kd.S_lt HO530.out k_ e_.symm) hn_, (.inr (by rw [hga81]; exact hn_))⟩⟩⟩))); replace HO_509001 := Aside0.mk (Kd.S_mono (ok' := fun k_ => some k_ ≠ (.slice Ao37 t512.length co37 : Value).ownBlock ∧ some k_ ≠ (.slice Ao46 t519.length co46 : Value).ownBlock ∧ some k_ ≠ (.slice Ao74 t528.length co74 : Value).ownBlock ∧ ga23 ≤ k_ ∧ k_ < ga31 ∧ k_ < ga39 ∧ k_ < ga81) (Kd.S_keptB ((Kd.S_bound (Kd.S_apart' HO_509001.out (Kd.R_typed HO_516000.out) (by decide)))) hkp (fun k_ hk_ hs_ => Or.elim hs_ (fun e_ => (hk_.1.2) e_) (fun e_ => (fun e_ => Nat.not_le.2 (hk_.1.1.1.2.2.2.1) (e_.1.1.2.2.1)) e_))) (fun k_ hk_ => ⟨hk_.1.1.1.1.1, hk_.1.1.1.1.2.1, hk_.1.1.1.2, hk_.1.1.1.1.2.2.1, hk_.1.1.1.1.2.2.2.1, hk_.1.1.1.1.2.2.2.2, (by rw [hga81]; exact hk_.2.2)⟩)); replace HO_524000 := Aside0.mk (Kd.R_mono (ok' := fun k_ => some k_ ≠ (.slice Ao25 t501.length co25 : Value).ownBlock ∧ some k_ ≠ (.slice Ao33 t509.length co33 : Value).ownBlock ∧ some k_ ≠ (.slice Ao73 t525.length co73 : Value).ownBlock) (Kd.R_keptB ((Kd.R_bound HO_524000.out)) hkp (fun k_ hk_ hs_ => Or.elim hs_ (fun e_ => (hk_.1.1.2) e_) (fun e_ => (fun e_ => Kd.typed_ne (hk_.2).2.2 e_.2.2.2 (by decide)) e_))) (fun k_ hk_ => ⟨hk_.1.1.1.1, hk_.1.1.1.2, hk_.1.1.2⟩)); replace HO_524001 := Aside0.mk (Kd.S_mono (ok' := fun k_ => some k_ ≠ (.slice Ao28 t504.length co28 : Value).ownBlock ∧ some k_ ≠ (.slice Ao37 t512.length co37 : Value).ownBlock ∧ some k_ ≠ (.slice Ao74 t528.length co74 : Value).ownBlock ∧ ga39 ≤ k_ ∧ k_ < ga81) (Kd.S_keptB ((Kd.S_bound (Kd.S_apart' HO_524001.out (Kd.R_typed HO_516000.out) (by decide)))) hkp (fun k_ hk_ hs_ => Or.elim hs_ (fun e_ => (hk_.1.2) e_) (fun e_ => (fun e_ => Nat.not_le.2 (e_.1.1.2.2.2) (hk_.1.1.1.2.2)) e_))) (fun k_ hk_ => ⟨hk_.1.1.1.1.1, hk_.1.1.1.1.2.1, hk_.1.1.1.2, hk_.1.1.1.1.2.2, (by rw [hga81]; exact hk_.2.2)⟩)); replace BK493 := Aside0.mk (blk_kept (zB BK493) hkp (fun hs_ => Or.elim hs_ (fun e_ => (fun e_ => (Kd.R_ne HO_516000.out BK493.out (by decide)) e_) e_) (fun e_ => (fun e_ => Kd.typed_box e_.2.2.2 (zB BK493) (by decide)) e_))); replace BK508 := Aside0.mk (blk_kept (zB BK508) hkp (fun hs_ => Or.elim hs_ (fun e_ => (fun e_ => (Kd.R_ne HO_516000.out BK508.out (by decide)) e_) e_) (fun e_ => (fun e_ => Kd.typed_box e_.2.2.2 (zB BK508) (by decide)) e_))); replace BK515 := Aside0.mk (blk_kept (zB BK515) hkp (fun hs_ => Or.elim hs_ (fun e_ => (fun e_ => (Kd.R_ne HO_516000.out BK515.out (by decide)) e_) e_) (fun e_ => (fun e_ => Kd.typed_box e_.2.2.2 (zB BK515) (by decide)) e_))); replace BK523 := Aside0.mk (blk_kept (zB BK523) hkp (fun hs_ => Or.elim hs_ (fun e_ => (fun e_ => (Kd.R_ne HO_516000.out BK523.out (by decide)) e_) e_) (fun e_ => (fun e_ => Kd.typed_box e_.2.2.2 (zB BK523) (by decide)) e_))); replace HO_516000 := Aside0.mk (Kd.R_reok rfl hy0 (fun k_ e_ => HO_516000.out.1 k_ e_)); replace HO527 := Aside0.mk (Kd.R_mono (ok' := fun k_ => some k_ ≠ (.slice Ao25 t501.length co25 : Value).ownBlock ∧ some k_ ≠ (.slice Ao33 t509.length co33 : Value).ownBlock ∧ some k_ ≠ (.slice Ao41 t516.length co41 : Value).ownBlock) (Kd.R_keptB ((Kd.R_bound HO527.out)) hkp (fun k_ hk_ hs_ => Or.elim hs_ (fun e_ => (hk_.1.1.2) e_) (fun e_ => (fun e_ => Kd.typed_ne (hk_.2).2.2 e_.2.2.2 (by decide)) e_))) (fun k_ hk_ => ⟨hk_.1.1.1.1.2, hk_.1.1.1.2, hk_.1.1.2⟩)); replace HB := Aside0.mk (hb); clear HO530; (try clear hb); (try clear hkp); (try clear hy0); (try clear hy1)))
    (try simp only [Act.put, List.setIfInBounds_toArray, List.set_cons_zero, List.set_cons_succ])
    go_cut [69] (fun v69 wc => ∃ (kq : Nat) (x69_69 : Bool), v69 = .bool x69_69 ∧ Aside0 (laws_FnExactCloseAccounts.j1 kq a1 a2 t507 x69_69 l0_0 l0_1 t501 t504 t516 t519 = some r) ∧ Aside0 (kq ≤ kj12) ∧ Aside0 (Kd.R k48 48 wc w.heap.size (fun k_ => some k_ ≠ ((.slice Ao33 t509.length co33) : Value).ownBlock ∧ some k_ ≠ ((.slice Ao41 t516.length co41) : Value).ownBlock) (.slice Ao25 t501.length co25) t501) ∧ Aside0 (Kd.S k63 63 wc w.heap.size (fun k_ => some k_ ≠ ((.slice Ao37 t512.length co37) : Value).ownBlock ∧ some k_ ≠ ((.slice Ao46 t519.length co46) : Value).ownBlock ∧ ga23 ≤ k_ ∧ k_ < ga31 ∧ k_ < ga39 ∧ k_ < ga81) (.slice Ao28 t504.length co28) t504) ∧ Aside0 (Kd.R k48 48 wc w.heap.size (fun k_ => some k_ ≠ ((.slice Ao25 t501.length co25) : Value).ownBlock ∧ some k_ ≠ ((.slice Ao41 t516.length co41) : Value).ownBlock) (.slice Ao33 t509.length co33) t533) ∧ Aside0 (Kd.S k63 63 wc w.heap.size (fun k_ => some k_ ≠ ((.slice Ao28 t504.length co28) : Value).ownBlock ∧ some k_ ≠ ((.slice Ao46 t519.length co46) : Value).ownBlock ∧ (k_ < ga39 ∨ ga81 ≤ k_)) (.slice Ao37 t512.length co37) t534) ∧ Aside0 (Kd.R k48 48 wc w.heap.size (fun k_ => some k_ ≠ ((.slice Ao25 t501.length co25) : Value).ownBlock ∧ some k_ ≠ ((.slice Ao33 t509.length co33) : Value).ownBlock) (.slice Ao41 t516.length co41) t516) ∧ Aside0 (Kd.S k63 63 wc w.heap.size (fun k_ => some k_ ≠ ((.slice Ao28 t504.length co28) : Value).ownBlock ∧ some k_ ≠ ((.slice Ao37 t512.length co37) : Value).ownBlock ∧ ga39 ≤ k_ ∧ k_ < ga81) (.slice Ao46 t519.length co46) t519) ∧ Aside0 (wc.heap[gb493]? = some (.cells #[(.slice A0_0 l0_0.length c0_0), (.slice A0_1 l0_1.length c0_1)] 25 (0, 0))) ∧ Aside0 (wc.heap[gb508]? = some (.cells #[(.slice Ao25 t501.length co25), (.slice Ao28 t504.length co28)] 31 (0, 0))) ∧ Aside0 (wc.heap[gb515]? = some (.cells #[(.slice Ao33 t509.length co33), (.slice Ao37 t512.length co37)] 31 (0, 0))) ∧ Aside0 (wc.heap[gb523]? = some (.cells #[(.slice Ao41 t516.length co41), (.slice Ao46 t519.length co46)] 31 (0, 0))) ∧ Aside0 (Below w.heap.size w wc))
    case first =>
     have H := HC70.out
     clear HC70
     by_cases c82 : t532 < 0
     ·rw [if_pos c82] at H
      have c82b0 := decide_eq_true c82
      clear c82
      (first | rw [c82b0] | (simp only [i64_w, i32_w]; rw [c82b0]) | skip)
      replace H := Aside0.mk H
      go_wp2
      go_meet
      case rel => exact ⟨_, (true), ZZ0ab324, H, kle, ⟨(by refine bR ?_; exact Kd.R_mono HO_509000.out (fun _ hk => ⟨hk.1, hk.2.1⟩))⟩, ⟨ZZaadd46⟩, ⟨(by refine bR ?_; exact Kd.R_mono HO_516000.out (fun _ hk => ⟨hk.1.1, hk.1.2⟩))⟩, ⟨(by refine bS ?_; exact Kd.S_mono HO_516001.out (fun _ hk => ⟨hk.1, ⟨hk.2.1, zA hk.2.2.2⟩⟩))⟩, ⟨(by refine bR ?_; exact Kd.R_mono HO_524000.out (fun _ hk => ⟨hk.1, hk.2.1⟩))⟩, ⟨ZZd1a048⟩, ⟨(zB BK493)⟩, ⟨(zB BK508)⟩, ⟨(zB BK515)⟩, ⟨(zB BK523)⟩, ⟨ZZ295621⟩⟩
     rw [if_neg c82] at H
     have c82b0 := decide_eq_false c82
     clear c82
     (first | rw [c82b0] | (simp only [i64_w, i32_w]; rw [c82b0]) | skip)
     obtain ⟨t535, A83, H⟩ := bdY H
     have hnb85 := NB523_493.out
     have hnc85 := NB493_523.out
     have hnb86 := NB523_508.out
     have hnc86 := NB508_523.out
     have hnb87 := NB523_515.out
     have hnc87 := NB515_523.out
     obtain ⟨hcz88_0, hcz88_1, hfz88_0, hfz88_1⟩ := z2 BK523
     have hnb89 := NB508_493.out
     have hnc89 := NB493_508.out
     have hnb90 := NB508_515.out
     have hnc90 := NB515_508.out
     obtain ⟨hcz91_0, hcz91_1, hfz91_0, hfz91_1⟩ := z2 BK508
     by_cases c84 : t535 = true
     ·subst c84
      replace H := ifT H
      replace H := Aside0.mk H
      go_wp2_with (first | (go_at_call 18; (with_reducible refine (laws_eqLedger.calls kj12 _ _ t516 _ _ t519 _ _ t501 _ _ t504 true _ ?side1 ?side2 ?side3 ?side4 ?side5 ?side6 ?side7 ?side8 A83.out).mono ?_); (case side1 => exact rC (Kd.R_reads' HO_524000.out).2.2); (case side2 => exact (Kd.R_reads' HO_524000.out).2.1); (case side3 => exact rC (Kd.S_reads' HO_524001.out).2.2); (case side4 => exact (Kd.S_reads' HO_524001.out).2.1); (case side5 => exact rC (Kd.R_reads' HO_509000.out).2.2); (case side6 => exact (Kd.R_reads' HO_509000.out).2.1); (case side7 => exact rC (Kd.S_reads' HO_509001.out).2.2); (case side8 => exact (Kd.S_reads' HO_509001.out).2.1); rintro e w92 ⟨rfl, hb⟩; replace HO_509000 := Aside0.mk (Kd.R_below (zR HO_509000) hb); replace HO_509001 := Aside0.mk (Kd.S_below (zS HO_509001) hb); replace HO_516000 := Aside0.mk (Kd.R_below (zR HO_516000) hb); replace HO_516001 := Aside0.mk (Kd.S_below (zS HO_516001) hb); replace HO_524000 := Aside0.mk (Kd.R_below (zR HO_524000) hb); replace HO_524001 := Aside0.mk (Kd.S_below (zS HO_524001) hb); replace HO527 := Aside0.mk (Kd.R_below (zR HO527) hb); replace BK493 := kb BK493 hb; replace BK508 := kb BK508 hb; replace BK515 := kb BK515 hb; replace BK523 := kb BK523 hb; replace HB := hB hb; (try clear hb); (try clear hb2); (try clear hk); (try clear hi)))
      go_meet
      case rel => exact ⟨_, ((t522 != t507)), ZZ0ab324, H, kle, ⟨(by refine bR ?_; exact Kd.R_mono HO_509000.out (fun _ hk => ⟨hk.1, hk.2.1⟩))⟩, ⟨ZZaadd46⟩, ⟨(by refine bR ?_; exact Kd.R_mono HO_516000.out (fun _ hk => ⟨hk.1.1, hk.1.2⟩))⟩, ⟨(by refine bS ?_; exact Kd.S_mono HO_516001.out (fun _ hk => ⟨hk.1, ⟨hk.2.1, zA hk.2.2.2⟩⟩))⟩, ⟨(by refine bR ?_; exact Kd.R_mono HO_524000.out (fun _ hk => ⟨hk.1, hk.2.1⟩))⟩, ⟨ZZd1a048⟩, ⟨(zB BK493)⟩, ⟨(zB BK508)⟩, ⟨(zB BK515)⟩, ⟨(zB BK523)⟩, ⟨ZZ295621⟩⟩
     replace c84 := Bool.eq_false_iff.mpr c84
     subst c84
     replace H := ifF H
     replace H := Aside0.mk H
     go_wp2_with (first | (go_at_call 18; (with_reducible refine (laws_eqLedger.calls kj12 _ _ t516 _ _ t519 _ _ t501 _ _ t504 false _ ?side1 ?side2 ?side3 ?side4 ?side5 ?side6 ?side7 ?side8 A83.out).mono ?_); (case side1 => exact rC (Kd.R_reads' HO_524000.out).2.2); (case side2 => exact (Kd.R_reads' HO_524000.out).2.1); (case side3 => exact rC (Kd.S_reads' HO_524001.out).2.2); (case side4 => exact (Kd.S_reads' HO_524001.out).2.1); (case side5 => exact rC (Kd.R_reads' HO_509000.out).2.2); (case side6 => exact (Kd.R_reads' HO_509000.out).2.1); (case side7 => exact rC (Kd.S_reads' HO_509001.out).2.2); (case side8 => exact (Kd.S_reads' HO_509001.out).2.1); rintro e w100 ⟨rfl, hb⟩; replace HO_509000 := Aside0.mk (Kd.R_below (zR HO_509000) hb); replace HO_509001 := Aside0.mk (Kd.S_below (zS HO_509001) hb); replace HO_516000 := Aside0.mk (Kd.R_below (zR HO_516000) hb); replace HO_516001 := Aside0.mk (Kd.S_below (zS HO_516001) hb); replace HO_524000 := Aside0.mk (Kd.R_below (zR HO_524000) hb); replace HO_524001 := Aside0.mk (Kd.S_below (zS HO_524001) hb); replace HO527 := Aside0.mk (Kd.R_below (zR HO527) hb); replace BK493 := kb BK493 hb; replace BK508 := kb BK508 hb; replace BK515 := kb BK515 hb; replace BK523 := kb BK523 hb; replace HB := hB hb; (try clear hb); (try clear hb2); (try clear hk); (try clear hi)))
     go_meet
     case rel => exact ⟨_, (true), ZZ0ab324, H, kle, ⟨(by refine bR ?_; exact Kd.R_mono HO_509000.out (fun _ hk => ⟨hk.1, hk.2.1⟩))⟩, ⟨ZZaadd46⟩, ⟨(by refine bR ?_; exact Kd.R_mono HO_516000.out (fun _ hk => ⟨hk.1.1, hk.1.2⟩))⟩, ⟨(by refine bS ?_; exact Kd.S_mono HO_516001.out (fun _ hk => ⟨hk.1, ⟨hk.2.1, zA hk.2.2.2⟩⟩))⟩, ⟨(by refine bR ?_; exact Kd.R_mono HO_524000.out (fun _ hk => ⟨hk.1, hk.2.1⟩))⟩, ⟨ZZd1a048⟩, ⟨(zB BK493)⟩, ⟨(zB BK508)⟩, ⟨(zB BK515)⟩, ⟨(zB BK523)⟩, ⟨ZZ295621⟩⟩
    case rest =>
     clear HC70
     try clear c65
     try clear c68
     try clear c82
     try clear c82b0
     try clear c84
     try clear hcz79_0
     try clear hcz79_1
     try clear hcz88_0
     try clear hcz88_1
     try clear hcz91_0
     try clear hcz91_1
     try clear hcz96_0
     try clear hcz96_1
     try clear hcz99_0
     try clear hcz99_1
     try clear hfz79_0
     try clear hfz79_1
     try clear hfz88_0
     try clear hfz88_1
     try clear hfz91_0
     try clear hfz91_1
     try clear hfz96_0
     try clear hfz96_1
     try clear hfz99_0
     try clear hfz99_1
     obtain ⟨kq, x69_69, rfl, HA, HJ69, HO_509000, HO_509001, HO_516000, HO_516001, HO_524000, HO_524001, BK493, BK508, BK515, BK523, HB⟩ := hcut
     have hl516000_69 := (Kd.R_reads' HO_516000.out).1
     rw [hl516000_69] at HO_516000
     (try simp only [hl516000_69] at BK493 BK508 BK515 BK523 HO_509000 HO_509001 HO_516001 HO_524000 HO_524001 ⊢)
     have hl516001_69 := (Kd.S_reads' HO_516001.out).1
     rw [hl516001_69] at HO_516001
     (try simp only [hl516001_69] at BK493 BK508 BK515 BK523 HO_509000 HO_509001 HO_516000 HO_524000 HO_524001 ⊢)
     cases kq with
     | zero => exact absurd HA.out (by simp [laws_FnExactCloseAccounts.j1])
     | succ kj69 =>
      have H := HA.out
      clear HA
      simp only [laws_FnExactCloseAccounts.j1] at H
      by_cases c101 : x69_69 = true
      ·subst c101
       replace H := ifT H
       obtain rfl := Option.some.inj H
       go_wp2
       go_ret
       exact ⟨ZZab01d2, ZZ295621⟩
      replace c101 := Bool.eq_false_iff.mpr c101
      subst c101
      replace H := ifF H
      obtain ⟨⟨t536, t537, t538⟩, A102, H⟩ := bdY H
      try dsimp only at H
      obtain ⟨t539, A103, H⟩ := bdY H
      by_cases c104 : t539 < 0
      ·rw [if_pos c104] at H
       have c104b0 := decide_eq_true c104
       clear c104
       obtain rfl := Option.some.inj H
       have hnb105 := NB523_493.out
       have hnc105 := NB493_523.out
       have hnb106 := NB523_508.out
       have hnc106 := NB508_523.out
       have hnb107 := NB523_515.out
       have hnc107 := NB515_523.out
       obtain ⟨hcz108_0, hcz108_1, hfz108_0, hfz108_1⟩ := z2 BK523
       go_wp2_with (first | (refine gc 72 Tryd.func31 #[.agg #[.slice Ao41 t516.length co41, .slice Ao46 t519.length co46], .int .i64 1] ?_; (with_reducible refine (laws_markLedger.calls kj69 (fun k_ => some k_ = (.slice Ao41 t516.length co41 : Value).ownBlock) (.slice Ao41 t516.length co41) t516 ?P0_1_3 (.slice Ao46 t519.length co46) t519 1 t536 t537 t538 w _ ?side1 ?side2 ?side3 A102.out).mono ?_); (case side1 => exact bw); (case side2 => exact Kd.R_tight rfl HO_524000.out); (case side3 => exact Kd.S_bound HO_524001.out); rintro e w109 ⟨rfl, hy0, hy1, hb, hkp⟩; refine ⟨_, rfl, ?_⟩; obtain ⟨ga110, hga110⟩ := Kd.agek hkp; replace HO_509000 := Aside0.mk (Kd.R_mono (ok' := fun k_ => some k_ ≠ (.slice Ao33 t533.length co33 : Value).ownBlock ∧ some k_ ≠ (.slice Ao41 t516.length co41 : Value).ownBlock) (Kd.R_keptB ((Kd.R_bound HO_509000.out)) hkp (fun k_ hk_ hs_ => Or.elim hs_ (fun e_ => (hk_.1.2) e_) (fun e_ => (fun e_ => Kd.typed_ne (hk_.2).2.2 e_.2.2.2 (by decide)) e_))) (fun k_ hk_ => ⟨hk_.1.1.1, hk_.1.1.2⟩)); replace HO_516000 := Aside0.mk (Kd.R_mono (ok' := fun k_ => some k_ ≠ (.slice Ao25 t501.length co25 : Value).ownBlock ∧ some k_ ≠ (.slice Ao41 t516.length co41 : Value).ownBlock) (Kd.R_keptB ((Kd.R_bound HO_516000.out)) hkp (fun k_ hk_ hs_ => Or.elim hs_ (fun e_ => (hk_.1.2) e_) (fun e_ => (fun e_ => Kd.typed_ne (hk_.2).2.2 e_.2.2.2 (by decide)) e_))) (fun k_ hk_ => ⟨hk_.1.1.1, hk_.1.1.2⟩)); replace HO_524001 := Aside0.mk (Kd.S_mono (ok' := fun k_ => (some k_ ≠ (.slice Ao28 t504.length co28 : Value).ownBlock ∧ (some k_ ≠ (.slice Ao37 t534.length co37 : Value).ownBlock ∧ (k_ < ga81 ∨ ga110 ≤ k_)))) (Kd.S_bound hy1) (fun k_ hk_ => Or.elim hk_.1 (fun hs_ => Or.elim hs_ (fun e_ => (fun h_ => (Kd.typed_own hk_.2.2.2 (Kd.R_typed hy0 k_ h_.symm) (by decide)).elim) e_) (fun e_ => (fun h_ => ⟨h_.1.1, ⟨h_.1.2.1, (.inl h_.1.2.2.2)⟩⟩) e_)) (fun hn_ => ⟨fun e_ => Nat.not_le.2 (Kd.S_lt HO_509001.out k_ e_.symm) hn_, ⟨fun e_ => Nat.not_le.2 (Kd.S_lt HO_516001.out k_ e_.symm) hn_, (.inr (by rw [hga110]; exact hn_))⟩⟩))); replace HO_509001 := Aside0.mk (Kd.S_mono (ok' := fun k_ => some k_ ≠ (.slice Ao37 t534.length co37 : Value).ownBlock ∧ some k_ ≠ (.slice Ao46 t519.length co46 : Value).ownBlock ∧ ga23 ≤ k_ ∧ k_ < ga31 ∧ k_ < ga39 ∧ k_ < ga81 ∧ k_ < ga110) (Kd.S_keptB ((Kd.S_bound (Kd.S_apart' HO_509001.out (Kd.R_typed HO_524000.out) (by decide)))) hkp (fun k_ hk_ hs_ => Or.elim hs_ (fun e_ => (hk_.1.2) e_) (fun e_ => (fun e_ => Nat.not_le.2 (hk_.1.1.2.2.2.2.1) (e_.1.2.2.1)) e_))) (fun k_ hk_ => ⟨hk_.1.1.1.1, hk_.1.1.1.2.1, hk_.1.1.1.2.2.1, hk_.1.1.1.2.2.2.1, hk_.1.1.1.2.2.2.2.1, hk_.1.1.1.2.2.2.2.2, (by rw [hga110]; exact hk_.2.2)⟩)); replace HO_516001 := Aside0.mk (Kd.S_mono (ok' := fun k_ => some k_ ≠ (.slice Ao28 t504.length co28 : Value).ownBlock ∧ some k_ ≠ (.slice Ao46 t519.length co46 : Value).ownBlock ∧ (k_ < ga39 ∨ ga81 ≤ k_) ∧ k_ < ga110) (Kd.S_keptB ((Kd.S_bound (Kd.S_apart' HO_516001.out (Kd.R_typed HO_524000.out) (by decide)))) hkp (fun k_ hk_ hs_ => Or.elim hs_ (fun e_ => (hk_.1.2) e_) (fun e_ => (fun e_ => Or.elim (hk_.1.1.2.2) (fun h1_ => Nat.not_le.2 h1_ (e_.1.2.2.1)) (fun h1_ => Nat.not_le.2 (e_.1.2.2.2) h1_)) e_))) (fun k_ hk_ => ⟨hk_.1.1.1.1, hk_.1.1.1.2.1, hk_.1.1.1.2.2, (by rw [hga110]; exact hk_.2.2)⟩)); replace BK493 := Aside0.mk (blk_kept (zB BK493) hkp (fun hs_ => Or.elim hs_ (fun e_ => (fun e_ => (Kd.R_ne HO_524000.out BK493.out (by decide)) e_) e_) (fun e_ => (fun e_ => Kd.typed_box e_.2.2.2 (zB BK493) (by decide)) e_))); replace BK508 := Aside0.mk (blk_kept (zB BK508) hkp (fun hs_ => Or.elim hs_ (fun e_ => (fun e_ => (Kd.R_ne HO_524000.out BK508.out (by decide)) e_) e_) (fun e_ => (fun e_ => Kd.typed_box e_.2.2.2 (zB BK508) (by decide)) e_))); replace BK515 := Aside0.mk (blk_kept (zB BK515) hkp (fun hs_ => Or.elim hs_ (fun e_ => (fun e_ => (Kd.R_ne HO_524000.out BK515.out (by decide)) e_) e_) (fun e_ => (fun e_ => Kd.typed_box e_.2.2.2 (zB BK515) (by decide)) e_))); replace BK523 := Aside0.mk (blk_kept (zB BK523) hkp (fun hs_ => Or.elim hs_ (fun e_ => (fun e_ => (Kd.R_ne HO_524000.out BK523.out (by decide)) e_) e_) (fun e_ => (fun e_ => Kd.typed_box e_.2.2.2 (zB BK523) (by decide)) e_))); replace HO_524000 := Aside0.mk (Kd.R_reok rfl hy0 (fun k_ e_ => HO_524000.out.1 k_ e_)); replace HB := Aside0.mk (hb); (try clear hb); (try clear hkp); (try clear hy0); (try clear hy1); obtain ⟨hcz111_0, hcz111_1, hfz111_0, hfz111_1⟩ := z2 BK523) | ((with_reducible refine gate_callee (f := 41) rfl ?_); refine goesL_ (some 75) rfl rfl Tryd.func41 (by kernel_rfl) rfl #[.agg #[.slice Ao41 t537.length co41, .slice Ao46 t538.length co46], .int .i64 1] rfl ZZccab1b ?_; (with_reducible refine (laws_heldLedger.calls kj69 _ _ t537 _ _ t538 1 t539 _ ?side1 ?side2 ?side3 ?side4 A103.out).mono ?_); (case side1 => exact rC (Kd.R_reads' HO_524000.out).2.2); (case side2 => rw [show t537.length = t516.length from (Kd.R_reads' HO_524000.out).1.symm]; exact (Kd.R_reads' HO_524000.out).2.1); (case side3 => exact rC (Kd.S_reads' HO_524001.out).2.2); (case side4 => rw [show t538.length = t519.length from (Kd.S_reads' HO_524001.out).1.symm]; exact (Kd.S_reads' HO_524001.out).2.1); rintro e w112 ⟨rfl, hb⟩; refine ⟨_, rfl, ?_⟩; replace HO_509000 := Aside0.mk (Kd.R_below (zR HO_509000) hb); replace HO_509001 := Aside0.mk (Kd.S_below (zS HO_509001) hb); replace HO_516000 := Aside0.mk (Kd.R_below (zR HO_516000) hb); replace HO_516001 := Aside0.mk (Kd.S_below (zS HO_516001) hb); replace HO_524000 := Aside0.mk (Kd.R_below (zR HO_524000) hb); replace HO_524001 := Aside0.mk (Kd.S_below (zS HO_524001) hb); replace BK493 := kb BK493 hb; replace BK508 := kb BK508 hb; replace BK515 := kb BK515 hb; replace BK523 := kb BK523 hb; replace HB := hB hb; (try clear hb); (try clear hb2); (try clear hk); (try clear hi)))
       go_ret
       exact ⟨ZZab01d2, ZZ295621⟩
      rw [if_neg c104] at H
      have c104b0 := decide_eq_false c104
      clear c104
      by_cases c113 : t539 = t536
      ·rw [if_pos c113] at H
       have c113b0 := beq_iff_eq.mpr c113
       have c113b1 := bne_eq_false_iff_eq.mpr c113
       clear c113
       obtain ⟨⟨t540, t543⟩, A114, H⟩ := bdY H
       try dsimp only at H
       obtain ⟨⟨t546, t549, t552⟩, A115, H⟩ := bdY H
       try dsimp only at H
       have HC116 := Aside0.mk H
       clear H
       have hnb117 := NB523_493.out
       have hnc117 := NB493_523.out
       have hnb118 := NB523_508.out
       have hnc118 := NB508_523.out
       have hnb119 := NB523_515.out
       have hnc119 := NB515_523.out
       obtain ⟨hcz120_0, hcz120_1, hfz120_0, hfz120_1⟩ := z2 BK523
       go_upto_region 25 with (first | (refine gc 72 Tryd.func31 #[.agg #[.slice Ao41 t516.length co41, .slice Ao46 t519.length co46], .int .i64 1] ?_; (with_reducible refine (laws_markLedger.calls kj69 (fun k_ => some k_ = (.slice Ao41 t516.length co41 : Value).ownBlock) (.slice Ao41 t516.length co41) t516 ?P0_1_4 (.slice Ao46 t519.length co46) t519 1 t536 t537 t538 w _ ?side1 ?side2 ?side3 A102.out).mono ?_); (case side1 => exact bw); (case side2 => exact Kd.R_tight rfl HO_524000.out); (case side3 => exact Kd.S_bound HO_524001.out); rintro e w121 ⟨rfl, hy0, hy1, hb, hkp⟩; refine ⟨_, rfl, ?_⟩; obtain ⟨ga122, hga122⟩ := Kd.agek hkp; replace HO_509000 := Aside0.mk (Kd.R_mono (ok' := fun k_ => some k_ ≠ (.slice Ao33 t533.length co33 : Value).ownBlock ∧ some k_ ≠ (.slice Ao41 t516.length co41 : Value).ownBlock) (Kd.R_keptB ((Kd.R_bound HO_509000.out)) hkp (fun k_ hk_ hs_ => Or.elim hs_ (fun e_ => (hk_.1.2) e_) (fun e_ => (fun e_ => Kd.typed_ne (hk_.2).2.2 e_.2.2.2 (by decide)) e_))) (fun k_ hk_ => ⟨hk_.1.1.1, hk_.1.1.2⟩)); replace HO_516000 := Aside0.mk (Kd.R_mono (ok' := fun k_ => some k_ ≠ (.slice Ao25 t501.length co25 : Value).ownBlock ∧ some k_ ≠ (.slice Ao41 t516.length co41 : Value).ownBlock) (Kd.R_keptB ((Kd.R_bound HO_516000.out)) hkp (fun k_ hk_ hs_ => Or.elim hs_ (fun e_ => (hk_.1.2) e_) (fun e_ => (fun e_ => Kd.typed_ne (hk_.2).2.2 e_.2.2.2 (by decide)) e_))) (fun k_ hk_ => ⟨hk_.1.1.1, hk_.1.1.2⟩)); replace HO_524001 := Aside0.mk (Kd.S_mono (ok' := fun k_ => (some k_ ≠ (.slice Ao28 t504.length co28 : Value).ownBlock ∧ (some k_ ≠ (.slice Ao37 t534.length co37 : Value).ownBlock ∧ (k_ < ga81 ∨ ga122 ≤ k_)))) (Kd.S_bound hy1) (fun k_ hk_ => Or.elim hk_.1 (fun hs_ => Or.elim hs_ (fun e_ => (fun h_ => (Kd.typed_own hk_.2.2.2 (Kd.R_typed hy0 k_ h_.symm) (by decide)).elim) e_) (fun e_ => (fun h_ => ⟨h_.1.1, ⟨h_.1.2.1, (.inl h_.1.2.2.2)⟩⟩) e_)) (fun hn_ => ⟨fun e_ => Nat.not_le.2 (Kd.S_lt HO_509001.out k_ e_.symm) hn_, ⟨fun e_ => Nat.not_le.2 (Kd.S_lt HO_516001.out k_ e_.symm) hn_, (.inr (by rw [hga122]; exact hn_))⟩⟩))); replace HO_509001 := Aside0.mk (Kd.S_mono (ok' := fun k_ => some k_ ≠ (.slice Ao37 t534.length co37 : Value).ownBlock ∧ some k_ ≠ (.slice Ao46 t519.length co46 : Value).ownBlock ∧ ga23 ≤ k_ ∧ k_ < ga31 ∧ k_ < ga39 ∧ k_ < ga81 ∧ k_ < ga122) (Kd.S_keptB ((Kd.S_bound (Kd.S_apart' HO_509001.out (Kd.R_typed HO_524000.out) (by decide)))) hkp (fun k_ hk_ hs_ => Or.elim hs_ (fun e_ => (hk_.1.2) e_) (fun e_ => (fun e_ => Nat.not_le.2 (hk_.1.1.2.2.2.2.1) (e_.1.2.2.1)) e_))) (fun k_ hk_ => ⟨hk_.1.1.1.1, hk_.1.1.1.2.1, hk_.1.1.1.2.2.1, hk_.1.1.1.2.2.2.1, hk_.1.1.1.2.2.2.2.1, hk_.1.1.1.2.2.2.2.2, (by rw [hga122]; exact hk_.2.2)⟩)); replace HO_516001 := Aside0.mk (Kd.S_mono (ok' := fun k_ => some k_ ≠ (.slice Ao28 t504.length co28 : Value).ownBlock ∧ some k_ ≠ (.slice Ao46 t519.length co46 : Value).ownBlock ∧ (k_ < ga39 ∨ ga81 ≤ k_) ∧ k_ < ga122) (Kd.S_keptB ((Kd.S_bound (Kd.S_apart' HO_516001.out (Kd.R_typed HO_524000.out) (by decide)))) hkp (fun k_ hk_ hs_ => Or.elim hs_ (fun e_ => (hk_.1.2) e_) (fun e_ => (fun e_ => Or.elim (hk_.1.1.2.2) (fun h1_ => Nat.not_le.2 h1_ (e_.1.2.2.1)) (fun h1_ => Nat.not_le.2 (e_.1.2.2.2) h1_)) e_))) (fun k_ hk_ => ⟨hk_.1.1.1.1, hk_.1.1.1.2.1, hk_.1.1.1.2.2, (by rw [hga122]; exact hk_.2.2)⟩)); replace BK493 := Aside0.mk (blk_kept (zB BK493) hkp (fun hs_ => Or.elim hs_ (fun e_ => (fun e_ => (Kd.R_ne HO_524000.out BK493.out (by decide)) e_) e_) (fun e_ => (fun e_ => Kd.typed_box e_.2.2.2 (zB BK493) (by decide)) e_))); replace BK508 := Aside0.mk (blk_kept (zB BK508) hkp (fun hs_ => Or.elim hs_ (fun e_ => (fun e_ => (Kd.R_ne HO_524000.out BK508.out (by decide)) e_) e_) (fun e_ => (fun e_ => Kd.typed_box e_.2.2.2 (zB BK508) (by decide)) e_))); replace BK515 := Aside0.mk (blk_kept (zB BK515) hkp (fun hs_ => Or.elim hs_ (fun e_ => (fun e_ => (Kd.R_ne HO_524000.out BK515.out (by decide)) e_) e_) (fun e_ => (fun e_ => Kd.typed_box e_.2.2.2 (zB BK515) (by decide)) e_))); replace BK523 := Aside0.mk (blk_kept (zB BK523) hkp (fun hs_ => Or.elim hs_ (fun e_ => (fun e_ => (Kd.R_ne HO_524000.out BK523.out (by decide)) e_) e_) (fun e_ => (fun e_ => Kd.typed_box e_.2.2.2 (zB BK523) (by decide)) e_))); replace HO_524000 := Aside0.mk (Kd.R_reok rfl hy0 (fun k_ e_ => HO_524000.out.1 k_ e_)); replace HB := Aside0.mk (hb); (try clear hb); (try clear hkp); (try clear hy0); (try clear hy1); obtain ⟨hcz123_0, hcz123_1, hfz123_0, hfz123_1⟩ := z2 BK523) | ((with_reducible refine gate_callee (f := 41) rfl ?_); refine goesL_ (some 75) rfl rfl Tryd.func41 (by kernel_rfl) rfl #[.agg #[.slice Ao41 t537.length co41, .slice Ao46 t538.length co46], .int .i64 1] rfl ZZccab1b ?_; (with_reducible refine (laws_heldLedger.calls kj69 _ _ t537 _ _ t538 1 t539 _ ?side1 ?side2 ?side3 ?side4 A103.out).mono ?_); (case side1 => exact rC (Kd.R_reads' HO_524000.out).2.2); (case side2 => rw [show t537.length = t516.length from (Kd.R_reads' HO_524000.out).1.symm]; exact (Kd.R_reads' HO_524000.out).2.1); (case side3 => exact rC (Kd.S_reads' HO_524001.out).2.2); (case side4 => rw [show t538.length = t519.length from (Kd.S_reads' HO_524001.out).1.symm]; exact (Kd.S_reads' HO_524001.out).2.1); rintro e w124 ⟨rfl, hb⟩; refine ⟨_, rfl, ?_⟩; replace HO_509000 := Aside0.mk (Kd.R_below (zR HO_509000) hb); replace HO_509001 := Aside0.mk (Kd.S_below (zS HO_509001) hb); replace HO_516000 := Aside0.mk (Kd.R_below (zR HO_516000) hb); replace HO_516001 := Aside0.mk (Kd.S_below (zS HO_516001) hb); replace HO_524000 := Aside0.mk (Kd.R_below (zR HO_524000) hb); replace HO_524001 := Aside0.mk (Kd.S_below (zS HO_524001) hb); replace BK493 := kb BK493 hb; replace BK508 := kb BK508 hb; replace BK515 := kb BK515 hb; replace BK523 := kb BK523 hb; replace HB := hB hb; (try clear hb); (try clear hb2); (try clear hk); (try clear hi); have hnb125 := NB493_508.out; have hnc125 := NB508_493.out; have hnb126 := NB493_515.out; have hnc126 := NB515_493.out; obtain ⟨hcz127_0, hcz127_1, hfz127_0, hfz127_1⟩ := z2 BK493) | (refine gc 83 Tryd.func16 #[.agg #[.slice A0_0 l0_0.length c0_0, .slice A0_1 l0_1.length c0_1]] ?_; (with_reducible refine (laws_toLedger.calls kj69 _ _ l0_0 _ _ l0_1 t540 t543 _ ?side1 ?side2 ?side3 ?side4 A114.out).mono ?_); (case side1 => exact (rC (Kd.C_below HR0_0.out HB.out))); (case side2 => exact HC0_0.out); (case side3 => exact (rC (Kd.C_below HR0_1.out HB.out))); (case side4 => exact HC0_1.out); rintro e w128 ⟨v541, v544, rfl, ho0, ho1, hb⟩; refine ⟨_, rfl, ?_⟩; obtain ⟨ga129, hga129⟩ := Kd.age hb; have HO542 := Aside0.mk (Kd.R_lower (Kd.R_new' (Kd.R_new' (Kd.R_new' ho0 (Kd.R_lt (zR HO_509000))) (Kd.R_lt (zR HO_516000))) (Kd.R_lt (zR HO_524000))) (below_size ZZ295621)); replace HO_509000 := Aside0.mk (Kd.R_elder' (zR HO_509000) (Kd.R_base ho0) hb); replace HO_516000 := Aside0.mk (Kd.R_elder' (zR HO_516000) (Kd.R_base ho0) hb); replace HO_524000 := Aside0.mk (Kd.R_elder' (zR HO_524000) (Kd.R_base ho0) hb); have HO545 := Aside0.mk (Kd.S_lower (Kd.S_agen (Kd.S_new' (Kd.S_new' (Kd.S_new' ho1 (Kd.S_lt (zS HO_509001))) (Kd.S_lt (zS HO_516001))) (Kd.S_lt (zS HO_524001))) hga129) (below_size ZZ295621)); replace HO_509001 := Aside0.mk (Kd.S_elder' (Kd.S_ageo (zS HO_509001) hga129) (Kd.S_base ho1) hb); replace HO_516001 := Aside0.mk (Kd.S_elder' (Kd.S_ageo (zS HO_516001) hga129) (Kd.S_base ho1) hb); replace HO_524001 := Aside0.mk (Kd.S_elder' (Kd.S_ageo (zS HO_524001) hga129) (Kd.S_base ho1) hb); replace BK493 := kb BK493 hb; replace BK508 := kb BK508 hb; replace BK515 := kb BK515 hb; replace BK523 := kb BK523 hb; replace HB := hB hb; (try clear hb); (try clear hb2); (try clear hk); (try clear hi); (try clear ho0); (try clear ho1); obtain ⟨Ao130, co130, eo130⟩ := Kd.R_slice HO542.out; subst eo130; obtain ⟨Ao131, co131, eo131⟩ := Kd.S_slice HO545.out; subst eo131) | (refine gc 86 Tryd.func25 #[.agg #[.slice Ao130 t540.length co130, .slice Ao131 t543.length co131], .int .i64 a1, .int .i64 a2] ?_; (with_reducible refine (impl_CloseAccounts.calls kj69 _ _ t540 _ _ t543 a1 a2 t546 t549 t552 _ ?side1 ?side2 ?side3 ?side4 A115.out).mono ?_); (case side1 => exact rC (Kd.R_reads' HO542.out).2.2); (case side2 => exact (Kd.R_reads' HO542.out).2.1); (case side3 => exact rC (Kd.S_reads' HO545.out).2.2); (case side4 => exact (Kd.S_reads' HO545.out).2.1); rintro e w132 ⟨v547, v550, rfl, ho0, ho1, hb⟩; refine ⟨_, rfl, ?_⟩; obtain ⟨ga133, hga133⟩ := Kd.age hb; have HO548 := Aside0.mk (Kd.R_lower (Kd.R_new' (Kd.R_new' (Kd.R_new' (Kd.R_new' ho0 (Kd.R_lt (zR HO_509000))) (Kd.R_lt (zR HO_516000))) (Kd.R_lt (zR HO_524000))) (Kd.R_lt (zR HO542))) (below_size ZZ295621)); replace HO_509000 := Aside0.mk (Kd.R_elder' (zR HO_509000) (Kd.R_base ho0) hb); replace HO_516000 := Aside0.mk (Kd.R_elder' (zR HO_516000) (Kd.R_base ho0) hb); replace HO_524000 := Aside0.mk (Kd.R_elder' (zR HO_524000) (Kd.R_base ho0) hb); replace HO542 := Aside0.mk (Kd.R_elder' (zR HO542) (Kd.R_base ho0) hb); have HO551 := Aside0.mk (Kd.S_lower (Kd.S_agen (Kd.S_new' (Kd.S_new' (Kd.S_new' (Kd.S_new' ho1 (Kd.S_lt (zS HO_509001))) (Kd.S_lt (zS HO_516001))) (Kd.S_lt (zS HO_524001))) (Kd.S_lt (zS HO545))) hga133) (below_size ZZ295621)); replace HO_509001 := Aside0.mk (Kd.S_elder' (Kd.S_ageo (zS HO_509001) hga133) (Kd.S_base ho1) hb); replace HO_516001 := Aside0.mk (Kd.S_elder' (Kd.S_ageo (zS HO_516001) hga133) (Kd.S_base ho1) hb); replace HO_524001 := Aside0.mk (Kd.S_elder' (Kd.S_ageo (zS HO_524001) hga133) (Kd.S_base ho1) hb); replace HO545 := Aside0.mk (Kd.S_elder' (Kd.S_ageo (zS HO545) hga133) (Kd.S_base ho1) hb); replace BK493 := kb BK493 hb; replace BK508 := kb BK508 hb; replace BK515 := kb BK515 hb; replace BK523 := kb BK523 hb; replace HB := hB hb; (try clear hb); (try clear hb2); (try clear hk); (try clear hi); (try clear ho0); (try clear ho1)) | ((with_reducible refine gate_dst (N := 16) rfl ?_); refine bx 16 (cs := #[.slice none 0 0, .slice none 0 0]) (t := 31) ?_; intro gb553 hg w134 hbox hb; replace HO_509000 := Aside0.mk (Kd.R_below (zR HO_509000) hb); replace HO_509001 := Aside0.mk (Kd.S_below (zS HO_509001) hb); replace HO_516000 := Aside0.mk (Kd.R_below (zR HO_516000) hb); replace HO_516001 := Aside0.mk (Kd.S_below (zS HO_516001) hb); replace HO_524000 := Aside0.mk (Kd.R_below (zR HO_524000) hb); replace HO_524001 := Aside0.mk (Kd.S_below (zS HO_524001) hb); replace HO542 := Aside0.mk (Kd.R_below (zR HO542) hb); replace HO545 := Aside0.mk (Kd.S_below (zS HO545) hb); replace HO548 := Aside0.mk (Kd.R_below (zR HO548) hb); replace HO551 := Aside0.mk (Kd.S_below (zS HO551) hb); have BK553 := Aside0.mk (hbox); have GW553 := gw hg; have GE553 := gw hg; replace HB := hB hb; have NB493_553 := nl hg BK493; have NB553_493 := ng hg BK493; replace BK493 := kb BK493 hb; have NB508_553 := nl hg BK508; have NB553_508 := ng hg BK508; replace BK508 := kb BK508 hb; have NB515_553 := nl hg BK515; have NB553_515 := ng hg BK515; replace BK515 := kb BK515 hb; have NB523_553 := nl hg BK523; have NB553_523 := ng hg BK523; replace BK523 := kb BK523 hb; clear hb hbox hg; obtain ⟨Ao135, co135, eo135⟩ := Kd.R_slice HO548.out; subst eo135; have hnb136 := NB553_493.out; have hnc136 := NB493_553.out; have hnb137 := NB553_508.out; have hnc137 := NB508_553.out; have hnb138 := NB553_515.out; have hnc138 := NB515_553.out; have hnb139 := NB553_523.out; have hnc139 := NB523_553.out; obtain ⟨hcz140_0, hcz140_1, hfz140_0, hfz140_1⟩ := z2 BK553; obtain ⟨Ao141, co141, eo141⟩ := Kd.S_slice HO551.out; subst eo141))
       (try simp only [Act.put, List.setIfInBounds_toArray, List.set_cons_zero, List.set_cons_succ])
       go_cut [97] (fun v97 wc => ∃ (kq : Nat) (x97_115 : Bool), v97 = .bool x97_115 ∧ Aside0 (laws_FnExactCloseAccounts.j2 kq t536 x97_115 t537 t538 = some r) ∧ Aside0 (kq ≤ kj69) ∧ Aside0 (Kd.R k48 48 wc w.heap.size (fun k_ => some k_ ≠ ((.slice Ao33 t533.length co33) : Value).ownBlock ∧ some k_ ≠ ((.slice Ao41 t516.length co41) : Value).ownBlock ∧ some k_ ≠ ((.slice Ao135 t546.length co135) : Value).ownBlock) (.slice Ao25 t501.length co25) t501) ∧ Aside0 (Kd.S k63 63 wc w.heap.size (fun k_ => some k_ ≠ ((.slice Ao37 t534.length co37) : Value).ownBlock ∧ some k_ ≠ ((.slice Ao46 t519.length co46) : Value).ownBlock ∧ some k_ ≠ ((.slice Ao141 t549.length co141) : Value).ownBlock ∧ ga23 ≤ k_ ∧ k_ < ga31 ∧ k_ < ga39 ∧ k_ < ga81 ∧ k_ < ga122 ∧ k_ < ga129 ∧ k_ < ga133) (.slice Ao28 t504.length co28) t504) ∧ Aside0 (Kd.R k48 48 wc w.heap.size (fun k_ => some k_ ≠ ((.slice Ao25 t501.length co25) : Value).ownBlock ∧ some k_ ≠ ((.slice Ao41 t516.length co41) : Value).ownBlock ∧ some k_ ≠ ((.slice Ao135 t546.length co135) : Value).ownBlock) (.slice Ao33 t533.length co33) t533) ∧ Aside0 (Kd.S k63 63 wc w.heap.size (fun k_ => some k_ ≠ ((.slice Ao28 t504.length co28) : Value).ownBlock ∧ some k_ ≠ ((.slice Ao46 t519.length co46) : Value).ownBlock ∧ some k_ ≠ ((.slice Ao141 t549.length co141) : Value).ownBlock ∧ (k_ < ga39 ∨ ga81 ≤ k_) ∧ k_ < ga122 ∧ k_ < ga129 ∧ k_ < ga133) (.slice Ao37 t534.length co37) t534) ∧ Aside0 (Kd.R k48 48 wc w.heap.size (fun k_ => some k_ ≠ ((.slice Ao25 t501.length co25) : Value).ownBlock ∧ some k_ ≠ ((.slice Ao33 t533.length co33) : Value).ownBlock ∧ some k_ ≠ ((.slice Ao135 t546.length co135) : Value).ownBlock) (.slice Ao41 t516.length co41) t537) ∧ Aside0 (Kd.S k63 63 wc w.heap.size (fun k_ => some k_ ≠ ((.slice Ao28 t504.length co28) : Value).ownBlock ∧ some k_ ≠ ((.slice Ao37 t534.length co37) : Value).ownBlock ∧ some k_ ≠ ((.slice Ao141 t549.length co141) : Value).ownBlock ∧ (k_ < ga81 ∨ ga122 ≤ k_) ∧ k_ < ga129 ∧ k_ < ga133) (.slice Ao46 t519.length co46) t538) ∧ Aside0 (Kd.R k48 48 wc w.heap.size (fun k_ => some k_ ≠ ((.slice Ao25 t501.length co25) : Value).ownBlock ∧ some k_ ≠ ((.slice Ao33 t533.length co33) : Value).ownBlock ∧ some k_ ≠ ((.slice Ao41 t516.length co41) : Value).ownBlock) (.slice Ao135 t546.length co135) t546) ∧ Aside0 (Kd.S k63 63 wc w.heap.size (fun k_ => some k_ ≠ ((.slice Ao28 t504.length co28) : Value).ownBlock ∧ some k_ ≠ ((.slice Ao37 t534.length co37) : Value).ownBlock ∧ some k_ ≠ ((.slice Ao46 t519.length co46) : Value).ownBlock ∧ ga133 ≤ k_) (.slice Ao141 t549.length co141) t549) ∧ Aside0 (wc.heap[gb493]? = some (.cells #[(.slice A0_0 l0_0.length c0_0), (.slice A0_1 l0_1.length c0_1)] 25 (0, 0))) ∧ Aside0 (wc.heap[gb508]? = some (.cells #[(.slice Ao25 t501.length co25), (.slice Ao28 t504.length co28)] 31 (0, 0))) ∧ Aside0 (wc.heap[gb515]? = some (.cells #[(.slice Ao33 t533.length co33), (.slice Ao37 t534.length co37)] 31 (0, 0))) ∧ Aside0 (wc.heap[gb523]? = some (.cells #[(.slice Ao41 t516.length co41), (.slice Ao46 t519.length co46)] 31 (0, 0))) ∧ Aside0 (wc.heap[gb553]? = some (.cells #[(.slice Ao135 t546.length co135), (.slice Ao141 t549.length co141)] 31 (0, 0))) ∧ Aside0 (Below w.heap.size w wc))
       case first =>
        have H := HC116.out
        clear HC116
        obtain ⟨t554, A142, H⟩ := bdY H
        have hnb144 := NB553_493.out
        have hnc144 := NB493_553.out
        have hnb145 := NB553_508.out
        have hnc145 := NB508_553.out
        have hnb146 := NB553_515.out
        have hnc146 := NB515_553.out
        have hnb147 := NB553_523.out
        have hnc147 := NB523_553.out
        obtain ⟨hcz148_0, hcz148_1, hfz148_0, hfz148_1⟩ := z2 BK553
        have hnb149 := NB508_493.out
        have hnc149 := NB493_508.out
        have hnb150 := NB508_515.out
        have hnc150 := NB515_508.out
        have hnb151 := NB508_523.out
        have hnc151 := NB523_508.out
        obtain ⟨hcz152_0, hcz152_1, hfz152_0, hfz152_1⟩ := z2 BK508
        by_cases c143 : t554 = true
        ·subst c143
         replace H := ifT H
         replace H := Aside0.mk H
         go_wp2_with (first | (refine gc 91 Tryd.func18 #[.agg #[.slice Ao135 t546.length co135, .slice Ao141 t549.length co141], .agg #[.slice Ao25 t501.length co25, .slice Ao28 t504.length co28]] ?_; (with_reducible refine (laws_eqLedger.calls kj69 _ _ t546 _ _ t549 _ _ t501 _ _ t504 true _ ?side1 ?side2 ?side3 ?side4 ?side5 ?side6 ?side7 ?side8 A142.out).mono ?_); (case side1 => exact (Kd.R_reads' (e := 48) (base := w.heap.size) (n := t546.length) (c := co135) ZZf8ed07).2.2); (case side2 => exact (Kd.R_reads' HO548.out).2.1); (case side3 => exact (Kd.S_reads' (e := 63) (base := w.heap.size) (n := t549.length) (c := co141) ZZaa2fda).2.2); (case side4 => exact (Kd.S_reads' HO551.out).2.1); (case side5 => exact (Kd.R_reads' (e := 48) (base := w.heap.size) (n := t501.length) (c := co25) ZZ2a7054).2.2); (case side6 => exact (Kd.R_reads' HO_509000.out).2.1); (case side7 => exact (Kd.S_reads' (e := 63) (base := w.heap.size) (n := t504.length) (c := co28) ZZf1168d).2.2); (case side8 => exact (Kd.S_reads' HO_509001.out).2.1); rintro e w153 ⟨rfl, hb⟩; refine ⟨_, rfl, ?_⟩; replace HO_509000 := Aside0.mk (Kd.R_below ZZ2a7054 hb); replace HO_509001 := Aside0.mk (Kd.S_below ZZf1168d hb); replace HO_516000 := Aside0.mk (Kd.R_below (by refine bR ?_; exact (Kd.R_mono (Kd.R_far (p := ⟨gb553, 1, none⟩) (Kd.R_far (p := ⟨gb553, 0, none⟩) (Kd.R_types HO_516000.out BK553.out (by decide)) (fun _ hk => hk.2) (.slice Ao135 t546.length co135)) (fun _ hk => hk.2) (.slice Ao141 t549.length co141)) (fun _ h_ => h_.1))) hb); replace HO_516001 := Aside0.mk (Kd.S_below (by refine bS ?_; exact (Kd.S_mono (Kd.S_far (p := ⟨gb553, 1, none⟩) (Kd.S_far (p := ⟨gb553, 0, none⟩) (Kd.S_types HO_516001.out BK553.out (by decide)) (fun _ hk => hk.2) (.slice Ao135 t546.length co135)) (fun _ hk => hk.2) (.slice Ao141 t549.length co141)) (fun _ h_ => h_.1))) hb); replace HO_524000 := Aside0.mk (Kd.R_below (by refine bR ?_; exact (Kd.R_mono (Kd.R_far (p := ⟨gb553, 1, none⟩) (Kd.R_far (p := ⟨gb553, 0, none⟩) (Kd.R_types HO_524000.out BK553.out (by decide)) (fun _ hk => hk.2) (.slice Ao135 t546.length co135)) (fun _ hk => hk.2) (.slice Ao141 t549.length co141)) (fun _ h_ => h_.1))) hb); replace HO_524001 := Aside0.mk (Kd.S_below (by refine bS ?_; exact (Kd.S_mono (Kd.S_far (p := ⟨gb553, 1, none⟩) (Kd.S_far (p := ⟨gb553, 0, none⟩) (Kd.S_types HO_524001.out BK553.out (by decide)) (fun _ hk => hk.2) (.slice Ao135 t546.length co135)) (fun _ hk => hk.2) (.slice Ao141 t549.length co141)) (fun _ h_ => h_.1))) hb); replace HO542 := Aside0.mk (Kd.R_below (by refine bR ?_; exact (Kd.R_mono (Kd.R_far (p := ⟨gb553, 1, none⟩) (Kd.R_far (p := ⟨gb553, 0, none⟩) (Kd.R_types HO542.out BK553.out (by decide)) (fun _ hk => hk.2) (.slice Ao135 t546.length co135)) (fun _ hk => hk.2) (.slice Ao141 t549.length co141)) (fun _ h_ => h_.1))) hb); replace HO545 := Aside0.mk (Kd.S_below (by refine bS ?_; exact (Kd.S_mono (Kd.S_far (p := ⟨gb553, 1, none⟩) (Kd.S_far (p := ⟨gb553, 0, none⟩) (Kd.S_types HO545.out BK553.out (by decide)) (fun _ hk => hk.2) (.slice Ao135 t546.length co135)) (fun _ hk => hk.2) (.slice Ao141 t549.length co141)) (fun _ h_ => h_.1))) hb); replace HO548 := Aside0.mk (Kd.R_below ZZf8ed07 hb); replace HO551 := Aside0.mk (Kd.S_below ZZaa2fda hb); replace BK493 := Aside0.mk (blk_below (g := gb493) (o := .cells #[.slice A0_0 l0_0.length c0_0, .slice A0_1 l0_1.length c0_1] 25 (0, 0)) (by refine bd ?_; refine blk_far ?_ NB493_553.out _; refine bd ?_; refine blk_far ?_ NB493_553.out _; refine bd ?_; exact BK493.out) hb); replace BK508 := Aside0.mk (blk_below (g := gb508) (o := .cells #[.slice Ao25 t501.length co25, .slice Ao28 t504.length co28] 31 (0, 0)) (by refine bd ?_; refine blk_far ?_ NB508_553.out _; refine bd ?_; refine blk_far ?_ NB508_553.out _; refine bd ?_; exact BK508.out) hb); replace BK515 := Aside0.mk (blk_below (g := gb515) (o := .cells #[.slice Ao33 t533.length co33, .slice Ao37 t534.length co37] 31 (0, 0)) (by refine bd ?_; refine blk_far ?_ NB515_553.out _; refine bd ?_; refine blk_far ?_ NB515_553.out _; refine bd ?_; exact BK515.out) hb); replace BK523 := Aside0.mk (blk_below (g := gb523) (o := .cells #[.slice Ao41 t516.length co41, .slice Ao46 t519.length co46] 31 (0, 0)) (by refine bd ?_; refine blk_far ?_ NB523_553.out _; refine bd ?_; refine blk_far ?_ NB523_553.out _; refine bd ?_; exact BK523.out) hb); replace BK553 := Aside0.mk (blk_below (g := gb553) (o := .cells #[.slice Ao135 t546.length co135, .slice Ao141 t549.length co141] 31 (0, 0)) (by refine bd ?_; refine blk_put (cs := #[.slice Ao135 t546.length co135, .slice none 0 0]) ?_ 1 _ rfl; refine bd ?_; refine blk_put (cs := #[.slice none 0 0, .slice none 0 0]) ?_ 0 _ rfl; refine bd ?_; exact BK553.out) hb); replace HB := hB hb; (try clear hb); (try clear hb2); (try clear hk); (try clear hi)))
         go_meet
         case rel => exact ⟨_, ((t552 != t507)), ZZ0ab324, H, kle, ⟨(by (try simp only [hl516000_69]); (try simp only [hl516001_69]); refine bR ?_; exact Kd.R_mono HO_509000.out (fun _ hk => ⟨hk.1.1.1, ⟨hk.1.1.2, zA hk.2⟩⟩))⟩, ⟨(by (try simp only [hl516000_69]); (try simp only [hl516001_69]); refine bS ?_; exact Kd.S_mono HO_509001.out (fun _ hk => ⟨hk.1.1.1.1.1, ⟨hk.1.1.1.1.2.1, ⟨hk.2, ⟨hk.1.1.1.1.2.2.1, ⟨hk.1.1.1.1.2.2.2.1, ⟨hk.1.1.1.1.2.2.2.2.1, ⟨hk.1.1.1.1.2.2.2.2.2.1, ⟨hk.1.1.1.1.2.2.2.2.2.2, ⟨hk.1.1.1.2, hk.1.2⟩⟩⟩⟩⟩⟩⟩⟩⟩))⟩, ⟨(by (try simp only [hl516000_69]); (try simp only [hl516001_69]); refine bR ?_; exact Kd.R_mono HO_516000.out (fun _ hk => ⟨hk.1.1.1, ⟨hk.1.1.2, zA hk.2⟩⟩))⟩, ⟨(by (try simp only [hl516000_69]); (try simp only [hl516001_69]); refine bS ?_; exact Kd.S_mono HO_516001.out (fun _ hk => ⟨hk.1.1.1.1.1, ⟨hk.1.1.1.1.2.1, ⟨hk.2, ⟨hk.1.1.1.1.2.2.1, ⟨hk.1.1.1.1.2.2.2, ⟨hk.1.1.1.2, hk.1.2⟩⟩⟩⟩⟩⟩))⟩, ⟨(by (try simp only [hl516000_69]); (try simp only [hl516001_69]); refine bR ?_; exact Kd.R_mono HO_524000.out (fun _ hk => ⟨hk.1.1.1, ⟨hk.1.1.2, zA hk.2⟩⟩))⟩, ⟨(by (try simp only [hl516000_69]); (try simp only [hl516001_69]); refine bS ?_; exact Kd.S_mono HO_524001.out (fun _ hk => ⟨hk.1.1.1.1.1, ⟨hk.1.1.1.1.2.1, ⟨hk.2, ⟨hk.1.1.1.1.2.2, ⟨hk.1.1.1.2, hk.1.2⟩⟩⟩⟩⟩))⟩, ⟨(by (try simp only [hl516000_69]); (try simp only [hl516001_69]); refine bR ?_; exact Kd.R_mono HO548.out (fun _ hk => ⟨hk.1.1.1.2, ⟨hk.1.1.2, hk.1.2⟩⟩))⟩, ⟨(by (try simp only [hl516000_69]); (try simp only [hl516001_69]); refine bS ?_; exact Kd.S_mono HO551.out (fun _ hk => ⟨hk.1.1.1.1.2, ⟨hk.1.1.1.2, ⟨hk.1.1.2, zA hk.2⟩⟩⟩))⟩, ⟨(by (try simp only [hl516000_69]); (try simp only [hl516001_69]); refine bd ?_; exact BK493.out)⟩, ⟨(by (try simp only [hl516000_69]); (try simp only [hl516001_69]); refine bd ?_; exact BK508.out)⟩, ⟨(by (try simp only [hl516000_69]); (try simp only [hl516001_69]); refine bd ?_; exact BK515.out)⟩, ⟨(by (try simp only [hl516000_69]); (try simp only [hl516001_69]); refine bd ?_; exact BK523.out)⟩, ⟨(by (try simp only [hl516000_69]); (try simp only [hl516001_69]); refine bd ?_; exact BK553.out)⟩, ⟨ZZ295621⟩⟩
        replace c143 := Bool.eq_false_iff.mpr c143
        subst c143
        replace H := ifF H
        replace H := Aside0.mk H
        go_wp2_with (first | (refine gc 91 Tryd.func18 #[.agg #[.slice Ao135 t546.length co135, .slice Ao141 t549.length co141], .agg #[.slice Ao25 t501.length co25, .slice Ao28 t504.length co28]] ?_; (with_reducible refine (laws_eqLedger.calls kj69 _ _ t546 _ _ t549 _ _ t501 _ _ t504 false _ ?side1 ?side2 ?side3 ?side4 ?side5 ?side6 ?side7 ?side8 A142.out).mono ?_); (case side1 => exact (Kd.R_reads' (e := 48) (base := w.heap.size) (n := t546.length) (c := co135) ZZf8ed07).2.2); (case side2 => exact (Kd.R_reads' HO548.out).2.1); (case side3 => exact (Kd.S_reads' (e := 63) (base := w.heap.size) (n := t549.length) (c := co141) ZZaa2fda).2.2); (case side4 => exact (Kd.S_reads' HO551.out).2.1); (case side5 => exact (Kd.R_reads' (e := 48) (base := w.heap.size) (n := t501.length) (c := co25) ZZ2a7054).2.2); (case side6 => exact (Kd.R_reads' HO_509000.out).2.1); (case side7 => exact (Kd.S_reads' (e := 63) (base := w.heap.size) (n := t504.length) (c := co28) ZZf1168d).2.2); (case side8 => exact (Kd.S_reads' HO_509001.out).2.1); rintro e w163 ⟨rfl, hb⟩; refine ⟨_, rfl, ?_⟩; replace HO_509000 := Aside0.mk (Kd.R_below ZZ2a7054 hb); replace HO_509001 := Aside0.mk (Kd.S_below ZZf1168d hb); replace HO_516000 := Aside0.mk (Kd.R_below (by refine bR ?_; exact (Kd.R_mono (Kd.R_far (p := ⟨gb553, 1, none⟩) (Kd.R_far (p := ⟨gb553, 0, none⟩) (Kd.R_types HO_516000.out BK553.out (by decide)) (fun _ hk => hk.2) (.slice Ao135 t546.length co135)) (fun _ hk => hk.2) (.slice Ao141 t549.length co141)) (fun _ h_ => h_.1))) hb); replace HO_516001 := Aside0.mk (Kd.S_below (by refine bS ?_; exact (Kd.S_mono (Kd.S_far (p := ⟨gb553, 1, none⟩) (Kd.S_far (p := ⟨gb553, 0, none⟩) (Kd.S_types HO_516001.out BK553.out (by decide)) (fun _ hk => hk.2) (.slice Ao135 t546.length co135)) (fun _ hk => hk.2) (.slice Ao141 t549.length co141)) (fun _ h_ => h_.1))) hb); replace HO_524000 := Aside0.mk (Kd.R_below (by refine bR ?_; exact (Kd.R_mono (Kd.R_far (p := ⟨gb553, 1, none⟩) (Kd.R_far (p := ⟨gb553, 0, none⟩) (Kd.R_types HO_524000.out BK553.out (by decide)) (fun _ hk => hk.2) (.slice Ao135 t546.length co135)) (fun _ hk => hk.2) (.slice Ao141 t549.length co141)) (fun _ h_ => h_.1))) hb); replace HO_524001 := Aside0.mk (Kd.S_below (by refine bS ?_; exact (Kd.S_mono (Kd.S_far (p := ⟨gb553, 1, none⟩) (Kd.S_far (p := ⟨gb553, 0, none⟩) (Kd.S_types HO_524001.out BK553.out (by decide)) (fun _ hk => hk.2) (.slice Ao135 t546.length co135)) (fun _ hk => hk.2) (.slice Ao141 t549.length co141)) (fun _ h_ => h_.1))) hb); replace HO542 := Aside0.mk (Kd.R_below (by refine bR ?_; exact (Kd.R_mono (Kd.R_far (p := ⟨gb553, 1, none⟩) (Kd.R_far (p := ⟨gb553, 0, none⟩) (Kd.R_types HO542.out BK553.out (by decide)) (fun _ hk => hk.2) (.slice Ao135 t546.length co135)) (fun _ hk => hk.2) (.slice Ao141 t549.length co141)) (fun _ h_ => h_.1))) hb); replace HO545 := Aside0.mk (Kd.S_below (by refine bS ?_; exact (Kd.S_mono (Kd.S_far (p := ⟨gb553, 1, none⟩) (Kd.S_far (p := ⟨gb553, 0, none⟩) (Kd.S_types HO545.out BK553.out (by decide)) (fun _ hk => hk.2) (.slice Ao135 t546.length co135)) (fun _ hk => hk.2) (.slice Ao141 t549.length co141)) (fun _ h_ => h_.1))) hb); replace HO548 := Aside0.mk (Kd.R_below ZZf8ed07 hb); replace HO551 := Aside0.mk (Kd.S_below ZZaa2fda hb); replace BK493 := Aside0.mk (blk_below (g := gb493) (o := .cells #[.slice A0_0 l0_0.length c0_0, .slice A0_1 l0_1.length c0_1] 25 (0, 0)) (by refine bd ?_; refine blk_far ?_ NB493_553.out _; refine bd ?_; refine blk_far ?_ NB493_553.out _; refine bd ?_; exact BK493.out) hb); replace BK508 := Aside0.mk (blk_below (g := gb508) (o := .cells #[.slice Ao25 t501.length co25, .slice Ao28 t504.length co28] 31 (0, 0)) (by refine bd ?_; refine blk_far ?_ NB508_553.out _; refine bd ?_; refine blk_far ?_ NB508_553.out _; refine bd ?_; exact BK508.out) hb); replace BK515 := Aside0.mk (blk_below (g := gb515) (o := .cells #[.slice Ao33 t533.length co33, .slice Ao37 t534.length co37] 31 (0, 0)) (by refine bd ?_; refine blk_far ?_ NB515_553.out _; refine bd ?_; refine blk_far ?_ NB515_553.out _; refine bd ?_; exact BK515.out) hb); replace BK523 := Aside0.mk (blk_below (g := gb523) (o := .cells #[.slice Ao41 t516.length co41, .slice Ao46 t519.length co46] 31 (0, 0)) (by refine bd ?_; refine blk_far ?_ NB523_553.out _; refine bd ?_; refine blk_far ?_ NB523_553.out _; refine bd ?_; exact BK523.out) hb); replace BK553 := Aside0.mk (blk_below (g := gb553) (o := .cells #[.slice Ao135 t546.length co135, .slice Ao141 t549.length co141] 31 (0, 0)) (by refine bd ?_; refine blk_put (cs := #[.slice Ao135 t546.length co135, .slice none 0 0]) ?_ 1 _ rfl; refine bd ?_; refine blk_put (cs := #[.slice none 0 0, .slice none 0 0]) ?_ 0 _ rfl; refine bd ?_; exact BK553.out) hb); replace HB := hB hb; (try clear hb); (try clear hb2); (try clear hk); (try clear hi)))
        go_meet
        case rel => exact ⟨_, (true), ZZ0ab324, H, kle, ⟨(by (try simp only [hl516000_69]); (try simp only [hl516001_69]); refine bR ?_; exact Kd.R_mono HO_509000.out (fun _ hk => ⟨hk.1.1.1, ⟨hk.1.1.2, zA hk.2⟩⟩))⟩, ⟨(by (try simp only [hl516000_69]); (try simp only [hl516001_69]); refine bS ?_; exact Kd.S_mono HO_509001.out (fun _ hk => ⟨hk.1.1.1.1.1, ⟨hk.1.1.1.1.2.1, ⟨hk.2, ⟨hk.1.1.1.1.2.2.1, ⟨hk.1.1.1.1.2.2.2.1, ⟨hk.1.1.1.1.2.2.2.2.1, ⟨hk.1.1.1.1.2.2.2.2.2.1, ⟨hk.1.1.1.1.2.2.2.2.2.2, ⟨hk.1.1.1.2, hk.1.2⟩⟩⟩⟩⟩⟩⟩⟩⟩))⟩, ⟨(by (try simp only [hl516000_69]); (try simp only [hl516001_69]); refine bR ?_; exact Kd.R_mono HO_516000.out (fun _ hk => ⟨hk.1.1.1, ⟨hk.1.1.2, zA hk.2⟩⟩))⟩, ⟨(by (try simp only [hl516000_69]); (try simp only [hl516001_69]); refine bS ?_; exact Kd.S_mono HO_516001.out (fun _ hk => ⟨hk.1.1.1.1.1, ⟨hk.1.1.1.1.2.1, ⟨hk.2, ⟨hk.1.1.1.1.2.2.1, ⟨hk.1.1.1.1.2.2.2, ⟨hk.1.1.1.2, hk.1.2⟩⟩⟩⟩⟩⟩))⟩, ⟨(by (try simp only [hl516000_69]); (try simp only [hl516001_69]); refine bR ?_; exact Kd.R_mono HO_524000.out (fun _ hk => ⟨hk.1.1.1, ⟨hk.1.1.2, zA hk.2⟩⟩))⟩, ⟨(by (try simp only [hl516000_69]); (try simp only [hl516001_69]); refine bS ?_; exact Kd.S_mono HO_524001.out (fun _ hk => ⟨hk.1.1.1.1.1, ⟨hk.1.1.1.1.2.1, ⟨hk.2, ⟨hk.1.1.1.1.2.2, ⟨hk.1.1.1.2, hk.1.2⟩⟩⟩⟩⟩))⟩, ⟨(by (try simp only [hl516000_69]); (try simp only [hl516001_69]); refine bR ?_; exact Kd.R_mono HO548.out (fun _ hk => ⟨hk.1.1.1.2, ⟨hk.1.1.2, hk.1.2⟩⟩))⟩, ⟨(by (try simp only [hl516000_69]); (try simp only [hl516001_69]); refine bS ?_; exact Kd.S_mono HO551.out (fun _ hk => ⟨hk.1.1.1.1.2, ⟨hk.1.1.1.2, ⟨hk.1.1.2, zA hk.2⟩⟩⟩))⟩, ⟨(by (try simp only [hl516000_69]); (try simp only [hl516001_69]); refine bd ?_; exact BK493.out)⟩, ⟨(by (try simp only [hl516000_69]); (try simp only [hl516001_69]); refine bd ?_; exact BK508.out)⟩, ⟨(by (try simp only [hl516000_69]); (try simp only [hl516001_69]); refine bd ?_; exact BK515.out)⟩, ⟨(by (try simp only [hl516000_69]); (try simp only [hl516001_69]); refine bd ?_; exact BK523.out)⟩, ⟨(by (try simp only [hl516000_69]); (try simp only [hl516001_69]); refine bd ?_; exact BK553.out)⟩, ⟨ZZ295621⟩⟩
       case rest =>
        clear HC116
        try clear c101
        try clear c104b0
        try clear c113b0
        try clear c113b1
        try clear c143
        try clear hcz108_0
        try clear hcz108_1
        try clear hcz111_0
        try clear hcz111_1
        try clear hcz120_0
        try clear hcz120_1
        try clear hcz123_0
        try clear hcz123_1
        try clear hcz127_0
        try clear hcz127_1
        try clear hcz140_0
        try clear hcz140_1
        try clear hcz148_0
        try clear hcz148_1
        try clear hcz152_0
        try clear hcz152_1
        try clear hcz158_0
        try clear hcz158_1
        try clear hcz162_0
        try clear hcz162_1
        try clear hfz108_0
        try clear hfz108_1
        try clear hfz111_0
        try clear hfz111_1
        try clear hfz120_0
        try clear hfz120_1
        try clear hfz123_0
        try clear hfz123_1
        try clear hfz127_0
        try clear hfz127_1
        try clear hfz140_0
        try clear hfz140_1
        try clear hfz148_0
        try clear hfz148_1
        try clear hfz152_0
        try clear hfz152_1
        try clear hfz158_0
        try clear hfz158_1
        try clear hfz162_0
        try clear hfz162_1
        obtain ⟨kq, x97_115, rfl, HA, HJ115, HO_509000, HO_509001, HO_516000, HO_516001, HO_524000, HO_524001, HO_554000, HO_554001, BK493, BK508, BK515, BK523, BK553, HB⟩ := hcut
        have hl524000_115 := (Kd.R_reads' HO_524000.out).1
        rw [hl524000_115] at HO_524000
        (try simp only [hl524000_115] at BK493 BK508 BK515 BK523 BK553 HO_509000 HO_509001 HO_516000 HO_516001 HO_524001 HO_554000 HO_554001 ⊢)
        have hl524001_115 := (Kd.S_reads' HO_524001.out).1
        rw [hl524001_115] at HO_524001
        (try simp only [hl524001_115] at BK493 BK508 BK515 BK523 BK553 HO_509000 HO_509001 HO_516000 HO_516001 HO_524000 HO_554000 HO_554001 ⊢)
        cases kq with
        | zero => exact absurd HA.out (by simp [laws_FnExactCloseAccounts.j2])
        | succ kj115 =>
         have H := HA.out
         clear HA
         simp only [laws_FnExactCloseAccounts.j2] at H
         by_cases c164 : x97_115 = true
         ·subst c164
          replace H := ifT H
          obtain rfl := Option.some.inj H
          go_wp2
          go_ret
          exact ⟨ZZab01d2, ZZ295621⟩
         replace c164 := Bool.eq_false_iff.mpr c164
         subst c164
         replace H := ifF H
         obtain ⟨t555, A165, H⟩ := bdY H
         by_cases c166 : t555 < 0
         ·rw [if_pos c166] at H
          have c166b0 := decide_eq_true c166
          clear c166
          obtain rfl := Option.some.inj H
          have hnb167 := NB523_493.out
          have hnc167 := NB493_523.out
          have hnb168 := NB523_508.out
          have hnc168 := NB508_523.out
          have hnb169 := NB523_515.out
          have hnc169 := NB515_523.out
          have hnb170 := NB523_553.out
          have hnc170 := NB553_523.out
          obtain ⟨hcz171_0, hcz171_1, hfz171_0, hfz171_1⟩ := z2 BK523
          go_wp2_with (first | (refine gc 100 Tryd.func41 #[.agg #[.slice Ao41 t537.length co41, .slice Ao46 t538.length co46], .int .i64 1] ?_; (with_reducible refine (laws_heldLedger.calls kj115 _ _ t537 _ _ t538 1 t555 _ ?side1 ?side2 ?side3 ?side4 A165.out).mono ?_); (case side1 => exact rC (Kd.R_reads' HO_524000.out).2.2); (case side2 => exact (Kd.R_reads' HO_524000.out).2.1); (case side3 => exact rC (Kd.S_reads' HO_524001.out).2.2); (case side4 => exact (Kd.S_reads' HO_524001.out).2.1); rintro e w172 ⟨rfl, hb⟩; refine ⟨_, rfl, ?_⟩; replace HO_509000 := Aside0.mk (Kd.R_below (zR HO_509000) hb); replace HO_509001 := Aside0.mk (Kd.S_below (zS HO_509001) hb); replace HO_516000 := Aside0.mk (Kd.R_below (zR HO_516000) hb); replace HO_516001 := Aside0.mk (Kd.S_below (zS HO_516001) hb); replace HO_524000 := Aside0.mk (Kd.R_below (zR HO_524000) hb); replace HO_524001 := Aside0.mk (Kd.S_below (zS HO_524001) hb); replace HO_554000 := Aside0.mk (Kd.R_below (zR HO_554000) hb); replace HO_554001 := Aside0.mk (Kd.S_below (zS HO_554001) hb); replace BK493 := kb BK493 hb; replace BK508 := kb BK508 hb; replace BK515 := kb BK515 hb; replace BK523 := kb BK523 hb; replace BK553 := kb BK553 hb; replace HB := hB hb; (try clear hb); (try clear hb2); (try clear hk); (try clear hi)))
          go_ret
          exact ⟨ZZab01d2, ZZ295621⟩
         rw [if_neg c166] at H
         have c166b0 := decide_eq_false c166
         clear c166
         by_cases c173 : t555 = t536
         ·rw [if_pos c173] at H
          have c173b0 := beq_iff_eq.mpr c173
          have c173b1 := bne_eq_false_iff_eq.mpr c173
          clear c173
          obtain rfl := Option.some.inj H
          have hnb174 := NB523_493.out
          have hnc174 := NB493_523.out
          have hnb175 := NB523_508.out
          have hnc175 := NB508_523.out
          have hnb176 := NB523_515.out
          have hnc176 := NB515_523.out
          have hnb177 := NB523_553.out
          have hnc177 := NB553_523.out
          obtain ⟨hcz178_0, hcz178_1, hfz178_0, hfz178_1⟩ := z2 BK523
          go_wp2_with (first | (refine gc 100 Tryd.func41 #[.agg #[.slice Ao41 t537.length co41, .slice Ao46 t538.length co46], .int .i64 1] ?_; (with_reducible refine (laws_heldLedger.calls kj115 _ _ t537 _ _ t538 1 t555 _ ?side1 ?side2 ?side3 ?side4 A165.out).mono ?_); (case side1 => exact rC (Kd.R_reads' HO_524000.out).2.2); (case side2 => exact (Kd.R_reads' HO_524000.out).2.1); (case side3 => exact rC (Kd.S_reads' HO_524001.out).2.2); (case side4 => exact (Kd.S_reads' HO_524001.out).2.1); rintro e w179 ⟨rfl, hb⟩; refine ⟨_, rfl, ?_⟩; replace HO_509000 := Aside0.mk (Kd.R_below (zR HO_509000) hb); replace HO_509001 := Aside0.mk (Kd.S_below (zS HO_509001) hb); replace HO_516000 := Aside0.mk (Kd.R_below (zR HO_516000) hb); replace HO_516001 := Aside0.mk (Kd.S_below (zS HO_516001) hb); replace HO_524000 := Aside0.mk (Kd.R_below (zR HO_524000) hb); replace HO_524001 := Aside0.mk (Kd.S_below (zS HO_524001) hb); replace HO_554000 := Aside0.mk (Kd.R_below (zR HO_554000) hb); replace HO_554001 := Aside0.mk (Kd.S_below (zS HO_554001) hb); replace BK493 := kb BK493 hb; replace BK508 := kb BK508 hb; replace BK515 := kb BK515 hb; replace BK523 := kb BK523 hb; replace BK553 := kb BK553 hb; replace HB := hB hb; (try clear hb); (try clear hb2); (try clear hk); (try clear hi)))
          go_ret
          exact ⟨ZZab01d2, ZZ295621⟩
         rw [if_neg c173] at H
         have c173b0 := beq_eq_false_iff_ne.mpr c173
         have c173b1 := bne_iff_ne.mpr c173
         obtain rfl := Option.some.inj H
         have hnb180 := NB523_493.out
         have hnc180 := NB493_523.out
         have hnb181 := NB523_508.out
         have hnc181 := NB508_523.out
         have hnb182 := NB523_515.out
         have hnc182 := NB515_523.out
         have hnb183 := NB523_553.out
         have hnc183 := NB553_523.out
         obtain ⟨hcz184_0, hcz184_1, hfz184_0, hfz184_1⟩ := z2 BK523
         go_wp2_with (first | (refine gc 100 Tryd.func41 #[.agg #[.slice Ao41 t537.length co41, .slice Ao46 t538.length co46], .int .i64 1] ?_; (with_reducible refine (laws_heldLedger.calls kj115 _ _ t537 _ _ t538 1 t555 _ ?side1 ?side2 ?side3 ?side4 A165.out).mono ?_); (case side1 => exact rC (Kd.R_reads' HO_524000.out).2.2); (case side2 => exact (Kd.R_reads' HO_524000.out).2.1); (case side3 => exact rC (Kd.S_reads' HO_524001.out).2.2); (case side4 => exact (Kd.S_reads' HO_524001.out).2.1); rintro e w185 ⟨rfl, hb⟩; refine ⟨_, rfl, ?_⟩; replace HO_509000 := Aside0.mk (Kd.R_below (zR HO_509000) hb); replace HO_509001 := Aside0.mk (Kd.S_below (zS HO_509001) hb); replace HO_516000 := Aside0.mk (Kd.R_below (zR HO_516000) hb); replace HO_516001 := Aside0.mk (Kd.S_below (zS HO_516001) hb); replace HO_524000 := Aside0.mk (Kd.R_below (zR HO_524000) hb); replace HO_524001 := Aside0.mk (Kd.S_below (zS HO_524001) hb); replace HO_554000 := Aside0.mk (Kd.R_below (zR HO_554000) hb); replace HO_554001 := Aside0.mk (Kd.S_below (zS HO_554001) hb); replace BK493 := kb BK493 hb; replace BK508 := kb BK508 hb; replace BK515 := kb BK515 hb; replace BK523 := kb BK523 hb; replace BK553 := kb BK553 hb; replace HB := hB hb; (try clear hb); (try clear hb2); (try clear hk); (try clear hi)))
         go_ret
         exact ⟨ZZab01d2, ZZ295621⟩
      rw [if_neg c113] at H
      have c113b0 := beq_eq_false_iff_ne.mpr c113
      have c113b1 := bne_iff_ne.mpr c113
      obtain rfl := Option.some.inj H
      have hnb186 := NB523_493.out
      have hnc186 := NB493_523.out
      have hnb187 := NB523_508.out
      have hnc187 := NB508_523.out
      have hnb188 := NB523_515.out
      have hnc188 := NB515_523.out
      obtain ⟨hcz189_0, hcz189_1, hfz189_0, hfz189_1⟩ := z2 BK523
      go_wp2_with (first | (refine gc 72 Tryd.func31 #[.agg #[.slice Ao41 t516.length co41, .slice Ao46 t519.length co46], .int .i64 1] ?_; (with_reducible refine (laws_markLedger.calls kj69 (fun k_ => some k_ = (.slice Ao41 t516.length co41 : Value).ownBlock) (.slice Ao41 t516.length co41) t516 ?P0_1_5 (.slice Ao46 t519.length co46) t519 1 t536 t537 t538 w _ ?side1 ?side2 ?side3 A102.out).mono ?_); (case side1 => exact bw); (case side2 => exact Kd.R_tight rfl HO_524000.out); (case side3 => exact Kd.S_bound HO_524001.out); rintro e w190 ⟨rfl, hy0, hy1, hb, hkp⟩; refine ⟨_, rfl, ?_⟩; obtain ⟨ga191, hga191⟩ := Kd.agek hkp; replace HO_509000 := Aside0.mk (Kd.R_mono (ok' := fun k_ => some k_ ≠ (.slice Ao33 t533.length co33 : Value).ownBlock ∧ some k_ ≠ (.slice Ao41 t516.length co41 : Value).ownBlock) (Kd.R_keptB ((Kd.R_bound HO_509000.out)) hkp (fun k_ hk_ hs_ => Or.elim hs_ (fun e_ => (hk_.1.2) e_) (fun e_ => (fun e_ => Kd.typed_ne (hk_.2).2.2 e_.2.2.2 (by decide)) e_))) (fun k_ hk_ => ⟨hk_.1.1.1, hk_.1.1.2⟩)); replace HO_516000 := Aside0.mk (Kd.R_mono (ok' := fun k_ => some k_ ≠ (.slice Ao25 t501.length co25 : Value).ownBlock ∧ some k_ ≠ (.slice Ao41 t516.length co41 : Value).ownBlock) (Kd.R_keptB ((Kd.R_bound HO_516000.out)) hkp (fun k_ hk_ hs_ => Or.elim hs_ (fun e_ => (hk_.1.2) e_) (fun e_ => (fun e_ => Kd.typed_ne (hk_.2).2.2 e_.2.2.2 (by decide)) e_))) (fun k_ hk_ => ⟨hk_.1.1.1, hk_.1.1.2⟩)); replace HO_524001 := Aside0.mk (Kd.S_mono (ok' := fun k_ => (some k_ ≠ (.slice Ao28 t504.length co28 : Value).ownBlock ∧ (some k_ ≠ (.slice Ao37 t534.length co37 : Value).ownBlock ∧ (k_ < ga81 ∨ ga191 ≤ k_)))) (Kd.S_bound hy1) (fun k_ hk_ => Or.elim hk_.1 (fun hs_ => Or.elim hs_ (fun e_ => (fun h_ => (Kd.typed_own hk_.2.2.2 (Kd.R_typed hy0 k_ h_.symm) (by decide)).elim) e_) (fun e_ => (fun h_ => ⟨h_.1.1, ⟨h_.1.2.1, (.inl h_.1.2.2.2)⟩⟩) e_)) (fun hn_ => ⟨fun e_ => Nat.not_le.2 (Kd.S_lt HO_509001.out k_ e_.symm) hn_, ⟨fun e_ => Nat.not_le.2 (Kd.S_lt HO_516001.out k_ e_.symm) hn_, (.inr (by rw [hga191]; exact hn_))⟩⟩))); replace HO_509001 := Aside0.mk (Kd.S_mono (ok' := fun k_ => some k_ ≠ (.slice Ao37 t534.length co37 : Value).ownBlock ∧ some k_ ≠ (.slice Ao46 t519.length co46 : Value).ownBlock ∧ ga23 ≤ k_ ∧ k_ < ga31 ∧ k_ < ga39 ∧ k_ < ga81 ∧ k_ < ga191) (Kd.S_keptB ((Kd.S_bound (Kd.S_apart' HO_509001.out (Kd.R_typed HO_524000.out) (by decide)))) hkp (fun k_ hk_ hs_ => Or.elim hs_ (fun e_ => (hk_.1.2) e_) (fun e_ => (fun e_ => Nat.not_le.2 (hk_.1.1.2.2.2.2.1) (e_.1.2.2.1)) e_))) (fun k_ hk_ => ⟨hk_.1.1.1.1, hk_.1.1.1.2.1, hk_.1.1.1.2.2.1, hk_.1.1.1.2.2.2.1, hk_.1.1.1.2.2.2.2.1, hk_.1.1.1.2.2.2.2.2, (by rw [hga191]; exact hk_.2.2)⟩)); replace HO_516001 := Aside0.mk (Kd.S_mono (ok' := fun k_ => some k_ ≠ (.slice Ao28 t504.length co28 : Value).ownBlock ∧ some k_ ≠ (.slice Ao46 t519.length co46 : Value).ownBlock ∧ (k_ < ga39 ∨ ga81 ≤ k_) ∧ k_ < ga191) (Kd.S_keptB ((Kd.S_bound (Kd.S_apart' HO_516001.out (Kd.R_typed HO_524000.out) (by decide)))) hkp (fun k_ hk_ hs_ => Or.elim hs_ (fun e_ => (hk_.1.2) e_) (fun e_ => (fun e_ => Or.elim (hk_.1.1.2.2) (fun h1_ => Nat.not_le.2 h1_ (e_.1.2.2.1)) (fun h1_ => Nat.not_le.2 (e_.1.2.2.2) h1_)) e_))) (fun k_ hk_ => ⟨hk_.1.1.1.1, hk_.1.1.1.2.1, hk_.1.1.1.2.2, (by rw [hga191]; exact hk_.2.2)⟩)); replace BK493 := Aside0.mk (blk_kept (zB BK493) hkp (fun hs_ => Or.elim hs_ (fun e_ => (fun e_ => (Kd.R_ne HO_524000.out BK493.out (by decide)) e_) e_) (fun e_ => (fun e_ => Kd.typed_box e_.2.2.2 (zB BK493) (by decide)) e_))); replace BK508 := Aside0.mk (blk_kept (zB BK508) hkp (fun hs_ => Or.elim hs_ (fun e_ => (fun e_ => (Kd.R_ne HO_524000.out BK508.out (by decide)) e_) e_) (fun e_ => (fun e_ => Kd.typed_box e_.2.2.2 (zB BK508) (by decide)) e_))); replace BK515 := Aside0.mk (blk_kept (zB BK515) hkp (fun hs_ => Or.elim hs_ (fun e_ => (fun e_ => (Kd.R_ne HO_524000.out BK515.out (by decide)) e_) e_) (fun e_ => (fun e_ => Kd.typed_box e_.2.2.2 (zB BK515) (by decide)) e_))); replace BK523 := Aside0.mk (blk_kept (zB BK523) hkp (fun hs_ => Or.elim hs_ (fun e_ => (fun e_ => (Kd.R_ne HO_524000.out BK523.out (by decide)) e_) e_) (fun e_ => (fun e_ => Kd.typed_box e_.2.2.2 (zB BK523) (by decide)) e_))); replace HO_524000 := Aside0.mk (Kd.R_reok rfl hy0 (fun k_ e_ => HO_524000.out.1 k_ e_)); replace HB := Aside0.mk (hb); (try clear hb); (try clear hkp); (try clear hy0); (try clear hy1); obtain ⟨hcz192_0, hcz192_1, hfz192_0, hfz192_1⟩ := z2 BK523) | ((with_reducible refine gate_callee (f := 41) rfl ?_); refine goesL_ (some 75) rfl rfl Tryd.func41 (by kernel_rfl) rfl #[.agg #[.slice Ao41 t537.length co41, .slice Ao46 t538.length co46], .int .i64 1] rfl ZZccab1b ?_; (with_reducible refine (laws_heldLedger.calls kj69 _ _ t537 _ _ t538 1 t539 _ ?side1 ?side2 ?side3 ?side4 A103.out).mono ?_); (case side1 => exact rC (Kd.R_reads' HO_524000.out).2.2); (case side2 => rw [show t537.length = t516.length from (Kd.R_reads' HO_524000.out).1.symm]; exact (Kd.R_reads' HO_524000.out).2.1); (case side3 => exact rC (Kd.S_reads' HO_524001.out).2.2); (case side4 => rw [show t538.length = t519.length from (Kd.S_reads' HO_524001.out).1.symm]; exact (Kd.S_reads' HO_524001.out).2.1); rintro e w193 ⟨rfl, hb⟩; refine ⟨_, rfl, ?_⟩; replace HO_509000 := Aside0.mk (Kd.R_below (zR HO_509000) hb); replace HO_509001 := Aside0.mk (Kd.S_below (zS HO_509001) hb); replace HO_516000 := Aside0.mk (Kd.R_below (zR HO_516000) hb); replace HO_516001 := Aside0.mk (Kd.S_below (zS HO_516001) hb); replace HO_524000 := Aside0.mk (Kd.R_below (zR HO_524000) hb); replace HO_524001 := Aside0.mk (Kd.S_below (zS HO_524001) hb); replace BK493 := kb BK493 hb; replace BK508 := kb BK508 hb; replace BK515 := kb BK515 hb; replace BK523 := kb BK523 hb; replace HB := hB hb; (try clear hb); (try clear hb2); (try clear hk); (try clear hi)))
      go_ret
      exact ⟨ZZab01d2, ZZ295621⟩
   replace c68 := Bool.eq_false_iff.mpr c68
   subst c68
   replace H := ifF H
   obtain rfl := Option.some.inj H
   try go_wp2
   replace HO_509000 := Aside0.mk (Kd.R_drew HO_509000.out)
   replace HO_509001 := Aside0.mk (Kd.S_drew HO_509001.out)
   replace HO_516000 := Aside0.mk (Kd.R_drew HO_516000.out)
   replace HO_516001 := Aside0.mk (Kd.S_drew HO_516001.out)
   replace HO_524000 := Aside0.mk (Kd.R_drew HO_524000.out)
   replace HO_524001 := Aside0.mk (Kd.S_drew HO_524001.out)
   replace BK493 := Aside0.mk (blk_drew BK493.out)
   replace BK508 := Aside0.mk (blk_drew BK508.out)
   replace BK515 := Aside0.mk (blk_drew BK515.out)
   replace BK523 := Aside0.mk (blk_drew BK523.out)
   replace HB := Aside0.mk (below_drew1 HB.out)
   refine start_ (n := 5) (S := fun w' => w'.cell? ⟨gb515, 0, none⟩ = some (.slice Ao33 t509.length co33) ∧ w'.cell? ⟨gb515, 1, none⟩ = some (.slice Ao37 t512.length co37) ∧ w'.cell? ⟨gb493, 0, none⟩ = some (.slice A0_0 l0_0.length c0_0) ∧ w'.cell? ⟨gb493, 1, none⟩ = some (.slice A0_1 l0_1.length c0_1)) (ds := []) #[false, false, false, false, false] (by kernel_rfl) rfl rfl ⟨(blk_cell BK515.out 0).trans rfl, (blk_cell BK515.out 1).trans rfl, (blk_cell BK493.out 0).trans rfl, (blk_cell BK493.out 1).trans rfl⟩ (fun hHeld => ?_)
   generalize wc.drew = w194 at HO_509000 HO_509001 HO_516000 HO_516001 HO_524000 HO_524001 BK493 BK508 BK515 BK523 HB hHeld ⊢
   refine take_ (i := 0) (N := some 49) (v := ?_) (a' := ?_) #[true, false, false, false, false] rfl rfl (by kernel_rfl) (fun _ _ _ h => h) (Or.inl ⟨(by rfl), ?_⟩) hHeld ?_ ?_
   rotate_left
   ·rintro w' ⟨s0, s1, s2, s3⟩
    go_simp
    with_reducible rfl
   rotate_left
   ·simp only [Act.put, List.setIfInBounds_toArray, List.set_cons_zero, List.set_cons_succ, i64_w, i32_w]
    rfl
   refine take_ (i := 1) (N := some 50) (v := ?_) (a' := ?_) #[true, true, false, false, false] rfl rfl (by kernel_rfl) (fun _ _ _ h => h) (Or.inl ⟨(by rfl), ?_⟩) hHeld ?_ ?_
   rotate_left
   ·rintro w' ⟨s0, s1, s2, s3⟩
    go_simp
    with_reducible rfl
   rotate_left
   ·simp only [Act.put, List.setIfInBounds_toArray, List.set_cons_zero, List.set_cons_succ, i64_w, i32_w]
    rfl
   refine one_ (i := 2) (N := some 51) #[true, true, true, false, false] rfl rfl (by kernel_rfl) (by decide) (fun K hK => ?_)
   refine goes_ Tryd.func16 (by kernel_rfl) rfl #[.agg #[.slice A0_0 l0_0.length c0_0, .slice A0_1 l0_1.length c0_1]] (by rfl) rfl rfl ZZ19826e ?_
   with_reducible refine (laws_toLedger.calls kj12 _ _ l0_0 _ _ l0_1 t525 t528 _ ?side1 ?side2 ?side3 ?side4 A66.out).mono ?_
   (case side1 => exact (rC (Kd.C_below HR0_0.out HB.out)))
   (case side2 => exact HC0_0.out)
   (case side3 => exact (rC (Kd.C_below HR0_1.out HB.out)))
   (case side4 => exact HC0_1.out)
   rintro e w195 ⟨v526, v529, rfl, ho0, ho1, hb⟩
   refine ⟨_, rfl, ?_⟩
   have HO527 := Aside0.mk (Kd.R_lower (Kd.R_new' (Kd.R_new' (Kd.R_new' ho0 (Kd.R_lt (zR HO_509000))) (Kd.R_lt (zR HO_516000))) (Kd.R_lt (zR HO_524000))) (below_size ZZ295621))
   replace HO_509000 := Aside0.mk (Kd.R_elder' (zR HO_509000) (Kd.R_base ho0) hb)
   replace HO_516000 := Aside0.mk (Kd.R_elder' (zR HO_516000) (Kd.R_base ho0) hb)
   replace HO_524000 := Aside0.mk (Kd.R_elder' (zR HO_524000) (Kd.R_base ho0) hb)
   have HO530 := Aside0.mk (Kd.S_lower (Kd.S_new' (Kd.S_new' (Kd.S_new' ho1 (Kd.S_lt (zS HO_509001))) (Kd.S_lt (zS HO_516001))) (Kd.S_lt (zS HO_524001))) (below_size ZZ295621))
   replace HO_509001 := Aside0.mk (Kd.S_elder' (zS HO_509001) (Kd.S_base ho1) hb)
   replace HO_516001 := Aside0.mk (Kd.S_elder' (zS HO_516001) (Kd.S_base ho1) hb)
   replace HO_524001 := Aside0.mk (Kd.S_elder' (zS HO_524001) (Kd.S_base ho1) hb)
   replace BK493 := kb BK493 hb
   replace BK508 := kb BK508 hb
   replace BK515 := kb BK515 hb
   replace BK523 := kb BK523 hb
   replace HB := hB hb
   (try clear hb)
   (try clear hb2)
   (try clear hk)
   (try clear hi)
   (try clear ho0)
   (try clear ho1)
   obtain ⟨Ao196, co196, eo196⟩ := Kd.R_slice HO527.out
   (first | subst eo196 | (injection eo196 with f1_ f2_ f3_; have f4_ := f1_.symm; have f5_ := f3_.symm; clear f1_ f2_ f3_; subst f4_; subst f5_))
   obtain ⟨Ao197, co197, eo197⟩ := Kd.S_slice HO530.out
   (first | subst eo197 | (injection eo197 with f1_ f2_ f3_; have f4_ := f1_.symm; have f5_ := f3_.symm; clear f1_ f2_ f3_; subst f4_; subst f5_))
   refine hK.out _ _ zK (fun hHeld => ?_)
   clear hK K
   refine nd (some 51) ?_
   refine one_ (i := 3) (N := some 52) #[true, true, true, true, false] rfl rfl (by kernel_rfl) (by decide) (fun K hK => ?_)
   refine goes_ Tryd.func18 (by kernel_rfl) rfl #[.agg #[.slice Ao33 t509.length co33, .slice Ao37 t512.length co37], .agg #[.slice Ao196 t525.length co196, .slice Ao197 t528.length co197]] (by rfl) rfl rfl ZZ19826e ?_
   with_reducible refine (laws_eqLedger.calls kj12 _ _ t509 _ _ t512 _ _ t525 _ _ t528 false _ ?side1 ?side2 ?side3 ?side4 ?side5 ?side6 ?side7 ?side8 A67.out).mono ?_
   (case side1 => exact rC (Kd.R_reads' HO_516000.out).2.2)
   (case side2 => exact (Kd.R_reads' HO_516000.out).2.1)
   (case side3 => exact rC (Kd.S_reads' HO_516001.out).2.2)
   (case side4 => exact (Kd.S_reads' HO_516001.out).2.1)
   (case side5 => exact rC (Kd.R_reads' HO527.out).2.2)
   (case side6 => exact (Kd.R_reads' HO527.out).2.1)
   (case side7 => exact rC (Kd.S_reads' HO530.out).2.2)
   (case side8 => exact (Kd.S_reads' HO530.out).2.1)
   rintro e w198 ⟨rfl, hb⟩
   refine ⟨_, rfl, ?_⟩
   replace HO_509000 := Aside0.mk (Kd.R_below (zR HO_509000) hb)
   replace HO_509001 := Aside0.mk (Kd.S_below (zS HO_509001) hb)
   replace HO_516000 := Aside0.mk (Kd.R_below (zR HO_516000) hb)
   replace HO_516001 := Aside0.mk (Kd.S_below (zS HO_516001) hb)
   replace HO_524000 := Aside0.mk (Kd.R_below (zR HO_524000) hb)
   replace HO_524001 := Aside0.mk (Kd.S_below (zS HO_524001) hb)
   replace HO527 := Aside0.mk (Kd.R_below (zR HO527) hb)
   replace HO530 := Aside0.mk (Kd.S_below (zS HO530) hb)
   replace BK493 := kb BK493 hb
   replace BK508 := kb BK508 hb
   replace BK515 := kb BK515 hb
   replace BK523 := kb BK523 hb
   replace HB := hB hb
   (try clear hb)
   (try clear hb2)
   (try clear hk)
   (try clear hi)
   refine hK.out _ _ zK (fun hHeld => ?_)
   clear hK K
   refine nd (some 52) ?_
   refine pure_ (i := 4) (N := some 53) (v := ?_) (a' := ?_) #[true, true, true, true, true] rfl rfl (by kernel_rfl) (fun _ _ _ h => h) (Or.inl ⟨(by rfl), ?_⟩) ?_ ?_
   rotate_left
   ·intro w'
    go_simp
    with_reducible rfl
   rotate_left
   ·simp only [Act.put, List.setIfInBounds_toArray, List.set_cons_zero, List.set_cons_succ, i64_w, i32_w]
    rfl
   refine done_ (by kernel_rfl) ?_
   try go_wp2
   go_ret
   exact ⟨ZZab01d2, ZZ295621⟩
end Go.Proofs.YtccdjchaaeligaaDoor.XFnExactCloseAccounts

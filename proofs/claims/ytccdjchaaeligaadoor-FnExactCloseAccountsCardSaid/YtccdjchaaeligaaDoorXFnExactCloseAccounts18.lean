import Derived.Test.YtccdjchaaeligaaDoorXFnExactCloseAccounts9
import Derived.Test.YtccdjchaaeligaaDoorXFnExactCloseAccounts8
import Derived.Test.YtccdjchaaeligaaDoorXFnExactCloseAccounts1
import Derived.Test.YtccdjchaaeligaaDoorXFnExactCloseAccounts0
import Derived.Test.YtccdjchaaeligaaDoorXFnExactCloseAccounts12
import Derived.Test.YtccdjchaaeligaaDoorXFnExactCloseAccounts14
import Derived.Test.YtccdjchaaeligaaDoorXFnExactCloseAccounts15
import Derived.Test.YtccdjchaaeligaaDoorXFnExactCloseAccounts16
import Derived.Test.YtccdjchaaeligaaDoorXFnExactCloseAccounts17
namespace Go.Proofs.YtccdjchaaeligaaDoor.XFnExactCloseAccounts
open Go.Proofs.YtccdjchaaeligaaDoor.Short Go.RowKit Go.Proofs.YtccdjchaaeligaaDoorW.PrintWords Go.Proofs.YtccdjchaaeligaaDoorW.PrintLast Go.Proofs.YtccdjchaaeligaaDoorW.PrintMore
attribute [local go_sem] max2_int min2_int max_two min_two max_three min_three max_four min_four
set_option linter.unusedVariables false
set_option linter.unusedSimpArgs false
mutual
def spec_CloseAccounts.j0 : Nat → Int → Int → Bool → List (S48) → List (S63) → Option ((List (S48)) × (List (S63)) × Bool)
 | 0, _, _, _, _, _ => none
 | k + 1, x1, x2, x41, x429000, x429001 => if x41 = true then (some (([] : List (S48)), ([] : List (S63)), false)) else (if (x429001.length : Int) > 0 then (if 0 ≤ (wrap64 ((x429001.length : Int) - 1)) then (if (wrap64 ((x429001.length : Int) - 1)) < (x429001.length : Int) then (spec_CloseAccounts.j1 k x1 x2 (decide (((rd_T63 x429001 (wrap64 ((x429001.length : Int) - 1))).f0) > x2)) x429000 x429001) else (none)) else (none)) else (spec_CloseAccounts.j1 k x1 x2 false x429000 x429001))
def spec_CloseAccounts.j1 : Nat → Int → Int → Bool → List (S48) → List (S63) → Option ((List (S48)) × (List (S63)) × Bool)
 | 0, _, _, _, _, _ => none
 | k + 1, x1, x2, x58, x429000, x429001 => if x58 = true then (some (([] : List (S48)), ([] : List (S63)), false)) else ((spec_l26Balances.f k x429000 x429001 x2).bind fun t435 => (spec_CloseAccounts.l0 k x1 x2 t435 0 false 0 x429000 x429001))
def spec_CloseAccounts.l0 : Nat → Int → Int → List Int → Int → Bool → Int → List (S48) → List (S63) → Option ((List (S48)) × (List (S63)) × Bool)
 | 0, _, _, _, _, _, _, _, _ => none
 | k + 1, x1, x2, x9, x10, x11, x12, x429000, x429001 => if x12 < (x9.length : Int) then (if 0 ≤ x12 then (if x12 < (x429000.length : Int) then ((spec_l26Temporary.f ((rd_T48 x429000 x12).f0) ((rd_T48 x429000 x12).f1)).bind fun t439 => (if t439 = true then (if x11 = true then (spec_CloseAccounts.l0 k x1 x2 x9 (wrap64 (x10 + (rd x9 x12))) true (wrap64 (x12 + 1)) x429000 x429001) else (spec_CloseAccounts.l0 k x1 x2 x9 (wrap64 (x10 + (rd x9 x12))) ((rd x9 x12) != 0) (wrap64 (x12 + 1)) x429000 x429001)) else (spec_CloseAccounts.l0 k x1 x2 x9 x10 x11 (wrap64 (x12 + 1)) x429000 x429001))) else (none)) else (none)) else (if x11 = true then (spec_CloseAccounts.l1 k x1 x9 x10 0 x429000 x429001 x2 (⟨#[99, 108, 111, 115, 105, 110, 103]⟩ : ByteArray) ([] : List (S70))) else ((spec_l26Own.f k x429000 x429001).bind fun bt442 => (some (bt442.1, bt442.2, true))))
def spec_CloseAccounts.l1 : Nat → Int → List Int → Int → Int → List (S48) → List (S63) → Int → ByteArray → List (S70) → Option ((List (S48)) × (List (S63)) × Bool)
 | 0, _, _, _, _, _, _, _, _, _ => none
 | k + 1, x1, x9, x10, x14, x429000, x429001, x449000, x449001, x449002 => if x14 < (x9.length : Int) then (if 0 ≤ x14 then (if x14 < (x429000.length : Int) then ((spec_l26Temporary.f ((rd_T48 x429000 x14).f0) ((rd_T48 x429000 x14).f1)).bind fun t457 => (if t457 = true then (spec_CloseAccounts.j4 k x1 x9 x10 x14 (wrap64 (-(rd x9 x14))) x429000 x429001 x449000 x449001 x449002) else (spec_CloseAccounts.j4 k x1 x9 x10 x14 0 x429000 x429001 x449000 x449001 x449002))) else (none)) else (none)) else ((spec_l26Post.f k x429000 x429001 x449000 x449001 x449002).bind fun bt449 => (some (bt449.1, bt449.2.1, bt449.2.2)))
def spec_CloseAccounts.j4 : Nat → Int → List Int → Int → Int → Int → List (S48) → List (S63) → Int → ByteArray → List (S70) → Option ((List (S48)) × (List (S63)) × Bool)
 | 0, _, _, _, _, _, _, _, _, _, _ => none
 | k + 1, x1, x9, x10, x14, x15, x429000, x429001, x449000, x449001, x449002 => if x14 = x1 then (spec_CloseAccounts.j5 k x1 x9 x10 x14 x10 x429000 x429001 x449000 x449001 x449002) else (spec_CloseAccounts.j5 k x1 x9 x10 x14 x15 x429000 x429001 x449000 x449001 x449002)
def spec_CloseAccounts.j5 : Nat → Int → List Int → Int → Int → Int → List (S48) → List (S63) → Int → ByteArray → List (S70) → Option ((List (S48)) × (List (S63)) × Bool)
 | 0, _, _, _, _, _, _, _, _, _, _ => none
 | k + 1, x1, x9, x10, x14, x15, x429000, x429001, x449000, x449001, x449002 => if x15 = 0 then (spec_CloseAccounts.l1 k x1 x9 x10 (wrap64 (x14 + 1)) x429000 x429001 x449000 x449001 x449002) else (if x449002.length < 8796093022208 then (spec_CloseAccounts.l1 k x1 x9 x10 (wrap64 (x14 + 1)) x429000 x429001 x449000 x449001 (x449002 ++ [(⟨x14, x15⟩ : S70)])) else (none))
end
def spec_CloseAccounts.f (k : Nat) (l0_0 : List (S48)) (l0_1 : List (S63)) (a1 : Int) (a2 : Int) : Option ((List (S48)) × (List (S63)) × Bool) := (spec_l26Good.f k l0_0 l0_1).bind fun t430 => (if t430 = true then ((spec_l1In.f a1 0 (wrap64 ((l0_0.length : Int) - 1))).bind fun t431 => (if t431 = true then (if 0 ≤ a1 then (if a1 < (l0_0.length : Int) then (if ((rd_T48 l0_0 a1).f1) = 3 then ((spec_l3Good.f a2).bind fun t433 => (spec_CloseAccounts.j0 k a1 a2 (!t433) l0_0 l0_1)) else (spec_CloseAccounts.j0 k a1 a2 true l0_0 l0_1)) else (none)) else (none)) else (spec_CloseAccounts.j0 k a1 a2 true l0_0 l0_1))) else (spec_CloseAccounts.j0 k a1 a2 true l0_0 l0_1))
theorem spec_CloseAccounts.mono_l : ∀ k, (∀ y0 y1 y2 y3 y4, LeO (spec_CloseAccounts.j0 k y0 y1 y2 y3 y4) (spec_CloseAccounts.j0 (k + 1) y0 y1 y2 y3 y4)) ∧ (∀ y0 y1 y2 y3 y4, LeO (spec_CloseAccounts.j1 k y0 y1 y2 y3 y4) (spec_CloseAccounts.j1 (k + 1) y0 y1 y2 y3 y4)) ∧ (∀ y0 y1 y2 y3 y4 y5 y6 y7, LeO (spec_CloseAccounts.l0 k y0 y1 y2 y3 y4 y5 y6 y7) (spec_CloseAccounts.l0 (k + 1) y0 y1 y2 y3 y4 y5 y6 y7)) ∧ (∀ y0 y1 y2 y3 y4 y5 y6 y7 y8, LeO (spec_CloseAccounts.l1 k y0 y1 y2 y3 y4 y5 y6 y7 y8) (spec_CloseAccounts.l1 (k + 1) y0 y1 y2 y3 y4 y5 y6 y7 y8)) ∧ (∀ y0 y1 y2 y3 y4 y5 y6 y7 y8 y9, LeO (spec_CloseAccounts.j4 k y0 y1 y2 y3 y4 y5 y6 y7 y8 y9) (spec_CloseAccounts.j4 (k + 1) y0 y1 y2 y3 y4 y5 y6 y7 y8 y9)) ∧ (∀ y0 y1 y2 y3 y4 y5 y6 y7 y8 y9, LeO (spec_CloseAccounts.j5 k y0 y1 y2 y3 y4 y5 y6 y7 y8 y9) (spec_CloseAccounts.j5 (k + 1) y0 y1 y2 y3 y4 y5 y6 y7 y8 y9))
 | 0 => ⟨fun _ _ _ _ _ r h => by simp [spec_CloseAccounts.j0] at h, fun _ _ _ _ _ r h => by simp [spec_CloseAccounts.j1] at h, fun _ _ _ _ _ _ _ _ r h => by simp [spec_CloseAccounts.l0] at h, fun _ _ _ _ _ _ _ _ _ r h => by simp [spec_CloseAccounts.l1] at h, fun _ _ _ _ _ _ _ _ _ _ r h => by simp [spec_CloseAccounts.j4] at h, fun _ _ _ _ _ _ _ _ _ _ r h => by simp [spec_CloseAccounts.j5] at h⟩
 | k + 1 => by
  obtain ⟨ih0, ih1, ih2, ih3, ih4, ih5⟩ := spec_CloseAccounts.mono_l k
  refine ⟨?_, ?_, ?_, ?_, ?_, ?_⟩
  all_goals intros
  all_goals (first | unfold spec_CloseAccounts.j0 | unfold spec_CloseAccounts.j1 | unfold spec_CloseAccounts.l0 | unfold spec_CloseAccounts.l1 | unfold spec_CloseAccounts.j4 | unfold spec_CloseAccounts.j5)
  all_goals
   repeat' with_reducible first | apply ih0 | apply ih1 | apply ih2 | apply ih3 | apply ih4 | apply ih5 | apply spec_l26Balances.mono | apply spec_l26Good.mono | apply spec_l26Own.mono | apply spec_l26Post.mono | exact LeO.refl _ | exact LeO.none _ | refine LeO.ite ?_ ?_ | refine LeO.bind ?_ (fun _ => ?_)
theorem spec_CloseAccounts.mono : ∀ a0 a1 a2 a3 k, LeO (spec_CloseAccounts.f k a0 a1 a2 a3) (spec_CloseAccounts.f (k + 1) a0 a1 a2 a3) := by
 intro a0 a1 a2 a3 k
 obtain ⟨ih0, ih1, ih2, ih3, ih4, ih5⟩ := spec_CloseAccounts.mono_l k
 unfold spec_CloseAccounts.f
 repeat' with_reducible first | apply ih0 | apply ih1 | apply ih2 | apply ih3 | apply ih4 | apply ih5 | apply spec_l26Balances.mono | apply spec_l26Good.mono | apply spec_l26Own.mono | apply spec_l26Post.mono | exact LeO.refl _ | exact LeO.none _ | refine LeO.ite ?_ ?_ | refine LeO.bind ?_ (fun _ => ?_)
set_option maxHeartbeats 8000000 in
set_option maxRecDepth 100000 in
theorem spec_CloseAccounts.calls (k : Nat) (A0_0 : Option Addr) (c0_0 : Nat) (l0_0 : List (S48)) (A0_1 : Option Addr) (c0_1 : Nat) (l0_1 : List (S63)) (a1 : Int) (a2 : Int) (r1 : List (S48)) (r2 : List (S63)) (r3 : Bool) (w : World) (hr0_0 : Kd.C k48 w A0_0 l0_0.length l0_0) (hc0_0 : l0_0.length ≤ c0_0) (hr0_1 : Kd.C k63 w A0_1 l0_1.length l0_1) (hc0_1 : l0_1.length ≤ c0_1) (h : spec_CloseAccounts.f k l0_0 l0_1 a1 a2 = some (r1, r2, r3)) :
 Calls Tryd.prog 26 #[.agg #[.slice A0_0 l0_0.length c0_0, .slice A0_1 l0_1.length c0_1], .int .i64 a1, .int .i64 a2] w fun e w' => ∃ v0_ v1_ : Value, e = .returned (.tuple #[.agg #[v0_, v1_], .bool r3]) ∧ Kd.R k48 48 w' w.heap.size (fun _ => True) v0_ r1 ∧ Kd.S k63 63 w' w.heap.size (fun _ => True) v1_ r2 ∧ Below w.heap.size w w' := by
 have hu31 := Tryd.underlying31
 have hu48 := Tryd.underlying48
 have hu63 := Tryd.underlying63
 have hu70 := Tryd.underlying70
 have HR0_0 := Aside0.mk hr0_0
 have HC0_0 := Aside0.mk hc0_0
 clear hr0_0 hc0_0
 have HR0_1 := Aside0.mk hr0_1
 have HC0_1 := Aside0.mk hc0_1
 clear hr0_1 hc0_1
 have HB := Aside0.mk (Below.refl w.heap.size w)
 have H := h
 clear h
 unfold spec_CloseAccounts.f at H
 have HC4 := Aside0.mk H
 clear H
 go_enter Tryd.func26, Tryd.ntmps26
 go_upto_region 1 with (first | ((with_reducible refine gate_dst (N := 3) rfl ?_); (try (refine gate_guard (by rfl) ?_; dsimp only)); refine bx 3 (cs := #[.slice A0_0 l0_0.length c0_0, .slice A0_1 l0_1.length c0_1]) (t := 31) ?_; intro gb428 hg w5 hbox hb; have BK428 := Aside0.mk (hbox); have GW428 := gw hg; have GE428 := gw hg; replace HB := hB hb; clear hb hbox hg) | ((with_reducible refine gate_dst (N := 6) rfl ?_); (try (refine gate_guard (by rfl) ?_; dsimp only)); refine bx 6 (cs := #[.slice none 0 0, .slice none 0 0]) (t := 31) ?_; intro gb429 hg w6 hbox hb; have BK429 := Aside0.mk (hbox); have GW429 := gw hg; have GE429 := gw hg; replace HB := hB hb; have NB428_429 := nl hg BK428; have NB429_428 := ng hg BK428; replace BK428 := kb BK428 hb; clear hb hbox hg))
 (try simp only [Act.put, List.setIfInBounds_toArray, List.set_cons_zero, List.set_cons_succ])
 go_cut [41] (fun v41 wc => ∃ (kq : Nat) (x41_3 : Bool), v41 = .bool x41_3 ∧ Aside0 (spec_CloseAccounts.j0 kq a1 a2 x41_3 l0_0 l0_1 = some (r1, r2, r3)) ∧ Aside0 (kq ≤ k) ∧ Aside0 (wc.heap[gb428]? = some (.cells #[(.slice A0_0 l0_0.length c0_0), (.slice A0_1 l0_1.length c0_1)] 31 (0, 0))) ∧ Aside0 (wc.heap[gb429]? = some (.cells #[(.slice none 0 0), (.slice none 0 0)] 31 (0, 0))) ∧ Aside0 (Below w.heap.size w wc))
 case first =>
  have H := HC4.out
  clear HC4
  obtain ⟨t430, A7, H⟩ := bdY H
  by_cases c8 : t430 = true
  ·subst c8
   replace H := ifT H
   obtain ⟨t431, A9, H⟩ := bdY H
   by_cases c10 : t431 = true
   ·subst c10
    replace H := ifT H
    obtain ⟨c11b0, H⟩ := ifYd H
    (first | rw [c11b0] | (simp only [i64_w, i32_w]; rw [c11b0]) | skip)
    obtain ⟨c12b0, H⟩ := ifYd H
    by_cases c13 : ((rd_T48 l0_0 a1).f1) = 3
    ·rw [if_pos c13] at H
     have c13b0 := beq_iff_eq.mpr c13
     have c13b1 := bne_eq_false_iff_eq.mpr c13
     clear c13
     obtain ⟨t433, A14, H⟩ := bdY H
     replace H := Aside0.mk H
     have hnb15 := NB428_429.out
     have hnc15 := NB429_428.out
     obtain ⟨hcz16_0, hcz16_1, hfz16_0, hfz16_1⟩ := z2 BK428
     go_wp2_with (first | (refine gc 17 Tryd.func52 #[.agg #[.slice A0_0 l0_0.length c0_0, .slice A0_1 l0_1.length c0_1]] ?_; (with_reducible refine (spec_l26Good.calls k _ _ l0_0 _ _ l0_1 true _ ?side1 ?side2 ?side3 ?side4 A7.out).mono ?_); (case side1 => exact (rC (Kd.C_below HR0_0.out HB.out))); (case side2 => exact HC0_0.out); (case side3 => exact (rC (Kd.C_below HR0_1.out HB.out))); (case side4 => exact HC0_1.out); rintro e w17 ⟨rfl, hb⟩; refine ⟨_, rfl, ?_⟩; replace BK428 := kb BK428 hb; replace BK429 := kb BK429 hb; replace HB := hB hb; (try clear hb); (try clear hb2); (try clear hk); (try clear hi); obtain ⟨hcz18_0, hcz18_1, hfz18_0, hfz18_1⟩ := z2 BK428) | (go_at_call 65; (with_reducible refine (spec_l1In.calls a1 0 (wrap64 ((l0_0.length : Int) - 1)) true _ A9.out).mono ?_); rintro e w' ⟨rfl, ⟨nd, rfl⟩⟩; have p432 : 0 ≤ (a1 : Int) := of_decide_eq_true ZZ853400; have q432 : a1 < (l0_0.length : Int) := of_decide_eq_true ZZ853400; obtain ⟨ad432, e432, hx432_0, hx432_1⟩ := at_T48 HR0_0.out a1 p432 q432; cases e432; replace hx432_0 := (HB.out.cell (World.block_lt_of_cell? w _ hx432_0)).trans hx432_0; replace hx432_1 := (HB.out.cell (World.block_lt_of_cell? w _ hx432_1)).trans hx432_1; replace p432 := eq_true p432; replace q432 := eq_true q432) | (go_at_call 66; (with_reducible refine (spec_l3Good.calls a2 t433 _ A14.out).mono ?_); rintro e w' ⟨rfl, ⟨nd, rfl⟩⟩))
     go_meet
     case rel => exact ⟨_, (!t433), ZZ0ab324, H, kle, ⟨(zB BK428)⟩, ⟨(zB BK429)⟩, ⟨ZZ295621⟩⟩
    rw [if_neg c13] at H
    have c13b0 := beq_eq_false_iff_ne.mpr c13
    have c13b1 := bne_iff_ne.mpr c13
    replace H := Aside0.mk H
    have hnb19 := NB428_429.out
    have hnc19 := NB429_428.out
    obtain ⟨hcz20_0, hcz20_1, hfz20_0, hfz20_1⟩ := z2 BK428
    go_wp2_with (first | (refine gc 17 Tryd.func52 #[.agg #[.slice A0_0 l0_0.length c0_0, .slice A0_1 l0_1.length c0_1]] ?_; (with_reducible refine (spec_l26Good.calls k _ _ l0_0 _ _ l0_1 true _ ?side1 ?side2 ?side3 ?side4 A7.out).mono ?_); (case side1 => exact (rC (Kd.C_below HR0_0.out HB.out))); (case side2 => exact HC0_0.out); (case side3 => exact (rC (Kd.C_below HR0_1.out HB.out))); (case side4 => exact HC0_1.out); rintro e w21 ⟨rfl, hb⟩; refine ⟨_, rfl, ?_⟩; replace BK428 := kb BK428 hb; replace BK429 := kb BK429 hb; replace HB := hB hb; (try clear hb); (try clear hb2); (try clear hk); (try clear hi); obtain ⟨hcz22_0, hcz22_1, hfz22_0, hfz22_1⟩ := z2 BK428) | (go_at_call 65; (with_reducible refine (spec_l1In.calls a1 0 (wrap64 ((l0_0.length : Int) - 1)) true _ A9.out).mono ?_); rintro e w' ⟨rfl, ⟨nd, rfl⟩⟩; have p432 : 0 ≤ (a1 : Int) := of_decide_eq_true ZZ853400; have q432 : a1 < (l0_0.length : Int) := of_decide_eq_true ZZ853400; obtain ⟨ad432, e432, hx432_0, hx432_1⟩ := at_T48 HR0_0.out a1 p432 q432; cases e432; replace hx432_0 := (HB.out.cell (World.block_lt_of_cell? w _ hx432_0)).trans hx432_0; replace hx432_1 := (HB.out.cell (World.block_lt_of_cell? w _ hx432_1)).trans hx432_1; replace p432 := eq_true p432; replace q432 := eq_true q432))
    go_meet
    case rel => exact ⟨_, (true), ZZ0ab324, H, kle, ⟨(zB BK428)⟩, ⟨(zB BK429)⟩, ⟨ZZ295621⟩⟩
   replace c10 := Bool.eq_false_iff.mpr c10
   subst c10
   replace H := ifF H
   replace H := Aside0.mk H
   have hnb23 := NB428_429.out
   have hnc23 := NB429_428.out
   obtain ⟨hcz24_0, hcz24_1, hfz24_0, hfz24_1⟩ := z2 BK428
   go_wp2_with (first | (refine gc 17 Tryd.func52 #[.agg #[.slice A0_0 l0_0.length c0_0, .slice A0_1 l0_1.length c0_1]] ?_; (with_reducible refine (spec_l26Good.calls k _ _ l0_0 _ _ l0_1 true _ ?side1 ?side2 ?side3 ?side4 A7.out).mono ?_); (case side1 => exact (rC (Kd.C_below HR0_0.out HB.out))); (case side2 => exact HC0_0.out); (case side3 => exact (rC (Kd.C_below HR0_1.out HB.out))); (case side4 => exact HC0_1.out); rintro e w25 ⟨rfl, hb⟩; refine ⟨_, rfl, ?_⟩; replace BK428 := kb BK428 hb; replace BK429 := kb BK429 hb; replace HB := hB hb; (try clear hb); (try clear hb2); (try clear hk); (try clear hi); obtain ⟨hcz26_0, hcz26_1, hfz26_0, hfz26_1⟩ := z2 BK428) | (go_at_call 65; (with_reducible refine (spec_l1In.calls a1 0 (wrap64 ((l0_0.length : Int) - 1)) false _ A9.out).mono ?_); rintro e w' ⟨rfl, ⟨nd, rfl⟩⟩))
   go_meet
   case rel => exact ⟨_, (true), ZZ0ab324, H, kle, ⟨(zB BK428)⟩, ⟨(zB BK429)⟩, ⟨ZZ295621⟩⟩
  replace c8 := Bool.eq_false_iff.mpr c8
  subst c8
  replace H := ifF H
  replace H := Aside0.mk H
  have hnb27 := NB428_429.out
  have hnc27 := NB429_428.out
  obtain ⟨hcz28_0, hcz28_1, hfz28_0, hfz28_1⟩ := z2 BK428
  go_wp2_with (first | (refine gc 17 Tryd.func52 #[.agg #[.slice A0_0 l0_0.length c0_0, .slice A0_1 l0_1.length c0_1]] ?_; (with_reducible refine (spec_l26Good.calls k _ _ l0_0 _ _ l0_1 false _ ?side1 ?side2 ?side3 ?side4 A7.out).mono ?_); (case side1 => exact (rC (Kd.C_below HR0_0.out HB.out))); (case side2 => exact HC0_0.out); (case side3 => exact (rC (Kd.C_below HR0_1.out HB.out))); (case side4 => exact HC0_1.out); rintro e w29 ⟨rfl, hb⟩; refine ⟨_, rfl, ?_⟩; replace BK428 := kb BK428 hb; replace BK429 := kb BK429 hb; replace HB := hB hb; (try clear hb); (try clear hb2); (try clear hk); (try clear hi)))
  go_meet
  case rel => exact ⟨_, (true), ZZ0ab324, H, kle, ⟨(zB BK428)⟩, ⟨(zB BK429)⟩, ⟨ZZ295621⟩⟩
 case rest =>
  clear HC4
  try clear c8
  try clear c10
  try clear c11b0
  try clear c12b0
  try clear c13
  try clear c13b0
  try clear c13b1
  try clear hcz16_0
  try clear hcz16_1
  try clear hcz18_0
  try clear hcz18_1
  try clear hcz20_0
  try clear hcz20_1
  try clear hcz22_0
  try clear hcz22_1
  try clear hcz24_0
  try clear hcz24_1
  try clear hcz26_0
  try clear hcz26_1
  try clear hcz28_0
  try clear hcz28_1
  try clear hfz16_0
  try clear hfz16_1
  try clear hfz18_0
  try clear hfz18_1
  try clear hfz20_0
  try clear hfz20_1
  try clear hfz22_0
  try clear hfz22_1
  try clear hfz24_0
  try clear hfz24_1
  try clear hfz26_0
  try clear hfz26_1
  try clear hfz28_0
  try clear hfz28_1
  try clear hx432_0
  try clear hx432_1
  try clear p432
  try clear q432
  obtain ⟨kq, x41_3, rfl, HA, HJ3, BK428, BK429, HB⟩ := hcut
  cases kq with
  | zero => exact absurd HA.out (by simp [spec_CloseAccounts.j0])
  | succ kj3 =>
   have H := HA.out
   clear HA
   simp only [spec_CloseAccounts.j0] at H
   by_cases c30 : x41_3 = true
   ·subst c30
    replace H := ifT H
    simp only [Option.some.injEq, Prod.mk.injEq] at H
    obtain ⟨rfl, rfl, rfl⟩ := H
    have hnb31 := NB429_428.out
    have hnc31 := NB428_429.out
    obtain ⟨hcz32_0, hcz32_1, hfz32_0, hfz32_1⟩ := z2 BK429
    go_wp2
    refine bodyPost_ret (results_ct rfl _ _ gb429 31 #[.slice none 0 0, .slice none 0 0] (0, 0) _ rfl (by refine bd ?_; refine blk_put (cs := #[.slice none 0 0, .slice none 0 0]) ?_ 1 _ rfl; refine bd ?_; refine blk_put (cs := #[.slice none 0 0, .slice none 0 0]) ?_ 0 _ rfl; refine bd ?_; exact BK429.out) Tryd.underlying31 rfl (by kernel_rfl)) rfl ?_
    exact ⟨_, _, ZZab01d2, ZZf4214b, ZZc4c4be, ZZ295621⟩
   replace c30 := Bool.eq_false_iff.mpr c30
   subst c30
   replace H := ifF H
   have HC33 := Aside0.mk H
   clear H
   have hnb34 := NB428_429.out
   have hnc34 := NB429_428.out
   obtain ⟨hcz35_0, hcz35_1, hfz35_0, hfz35_1⟩ := z2 BK428
   go_upto_region 4 with (fail)
   go_cut [58] (fun v58 wc => ∃ (kq : Nat) (x58_32 : Bool), v58 = .bool x58_32 ∧ Aside0 (spec_CloseAccounts.j1 kq a1 a2 x58_32 l0_0 l0_1 = some (r1, r2, r3)) ∧ Aside0 (kq ≤ kj3) ∧ Aside0 (wc.heap[gb428]? = some (.cells #[(.slice A0_0 l0_0.length c0_0), (.slice A0_1 l0_1.length c0_1)] 31 (0, 0))) ∧ Aside0 (wc.heap[gb429]? = some (.cells #[(.slice none 0 0), (.slice none 0 0)] 31 (0, 0))) ∧ Aside0 (Below w.heap.size w wc))
   case first =>
    have H := HC33.out
    clear HC33
    by_cases c36 : (l0_1.length : Int) > 0
    ·rw [if_pos c36] at H
     have c36b0 : decide (0 < (l0_1.length : Int)) = true := decide_eq_true c36
     have c36b1 : decide (0 < l0_1.length) = true := decide_eq_true (by omega)
     clear c36
     (first | rw [c36b0] | (simp only [i64_w, i32_w]; rw [c36b0]) | skip)
     obtain ⟨ji37, hji37⟩ : ∃ j_ : Int, (wrap64 ((l0_1.length : Int) - 1)) = j_ := ⟨_, rfl⟩
     (first | rw [hji37] at H | simp only [hji37] at H)
     have hji37w : (IntKind.i64.wrap ((l0_1.length : Int) - 1)) = ji37 := (i64_w _).trans hji37
     obtain ⟨c38b0, H⟩ := ifYd H
     obtain ⟨c39b0, H⟩ := ifYd H
     replace H := Aside0.mk H
     have hnb40 := NB428_429.out
     have hnc40 := NB429_428.out
     obtain ⟨hcz41_0, hcz41_1, hfz41_0, hfz41_1⟩ := z2 BK428
     have p434 : 0 ≤ ((ji37) : Int) := of_decide_eq_true ZZ853400
     have q434 : (ji37) < (l0_1.length : Int) := of_decide_eq_true ZZ853400
     obtain ⟨ad434, A434_2, c434_2, e434, hx434_0, hx434_1, hx434_2, hl434_2, hi434_2⟩ := at_T63 HR0_1.out (ji37) p434 q434
     cases e434
     replace hx434_0 := (HB.out.cell (World.block_lt_of_cell? w _ hx434_0)).trans hx434_0
     replace hx434_1 := (HB.out.cell (World.block_lt_of_cell? w _ hx434_1)).trans hx434_1
     replace hx434_2 := (HB.out.cell (World.block_lt_of_cell? w _ hx434_2)).trans hx434_2
     have HR434_2 := Aside0.mk hi434_2
     have HC434_2 := Aside0.mk hl434_2
     clear hi434_2 hl434_2
     replace p434 := eq_true p434
     replace q434 := eq_true q434
     go_wp2
     go_meet
     case rel => exact ⟨_, (decide (((rd_T63 l0_1 (ji37)).f0) > a2)), (by first | rfl | (simp; done) | (simp only [← hji37] <;> (first | rfl | simp)) | (simp [*]; done)), H, kle, ⟨(zB BK428)⟩, ⟨(zB BK429)⟩, ⟨ZZ295621⟩⟩
    rw [if_neg c36] at H
    have c36b0 : decide (0 < (l0_1.length : Int)) = false := decide_eq_false c36
    have c36b1 : decide (0 < l0_1.length) = false := decide_eq_false (by omega)
    clear c36
    (first | rw [c36b0] | (simp only [i64_w, i32_w]; rw [c36b0]) | skip)
    replace H := Aside0.mk H
    go_wp2
    go_meet
    case rel => exact ⟨_, (false), ZZ0ab324, H, kle, ⟨(zB BK428)⟩, ⟨(zB BK429)⟩, ⟨ZZ295621⟩⟩
   case rest =>
    clear HC33
    try clear c30
    try clear c36
    try clear c36b0
    try clear c36b1
    try clear c38b0
    try clear c39b0
    try clear hcz32_0
    try clear hcz32_1
    try clear hcz35_0
    try clear hcz35_1
    try clear hcz41_0
    try clear hcz41_1
    try clear hfz32_0
    try clear hfz32_1
    try clear hfz35_0
    try clear hfz35_1
    try clear hfz41_0
    try clear hfz41_1
    try clear hx434_0
    try clear hx434_1
    try clear hx434_2
    try clear p434
    try clear q434
    obtain ⟨kq, x58_32, rfl, HA, HJ32, BK428, BK429, HB⟩ := hcut
    cases kq with
    | zero => exact absurd HA.out (by simp [spec_CloseAccounts.j1])
    | succ kj32 =>
     have H := HA.out
     clear HA
     simp only [spec_CloseAccounts.j1] at H
     by_cases c42 : x58_32 = true
     ·subst c42
      replace H := ifT H
      simp only [Option.some.injEq, Prod.mk.injEq] at H
      obtain ⟨rfl, rfl, rfl⟩ := H
      have hnb43 := NB429_428.out
      have hnc43 := NB428_429.out
      obtain ⟨hcz44_0, hcz44_1, hfz44_0, hfz44_1⟩ := z2 BK429
      go_wp2
      refine bodyPost_ret (results_ct rfl _ _ gb429 31 #[.slice none 0 0, .slice none 0 0] (0, 0) _ rfl (by refine bd ?_; refine blk_put (cs := #[.slice none 0 0, .slice none 0 0]) ?_ 1 _ rfl; refine bd ?_; refine blk_put (cs := #[.slice none 0 0, .slice none 0 0]) ?_ 0 _ rfl; refine bd ?_; exact BK429.out) Tryd.underlying31 rfl (by kernel_rfl)) rfl ?_
      exact ⟨_, _, ZZab01d2, ZZf4214b, ZZc4c4be, ZZ295621⟩
     replace c42 := Bool.eq_false_iff.mpr c42
     subst c42
     replace H := ifF H
     obtain ⟨t435, A45, H⟩ := bdY H
     replace H := Aside0.mk H
     have hnb46 := NB428_429.out
     have hnc46 := NB429_428.out
     obtain ⟨hcz47_0, hcz47_1, hfz47_0, hfz47_1⟩ := z2 BK428
     go_wp2_with (first | (refine gc 62 Tryd.func67 #[.agg #[.slice A0_0 l0_0.length c0_0, .slice A0_1 l0_1.length c0_1], .int .i64 a2] ?_; (with_reducible refine (spec_l26Balances.calls kj32 _ _ l0_0 _ _ l0_1 a2 t435 _ ?side1 ?side2 ?side3 ?side4 A45.out).mono ?_); (case side1 => exact (rC (Kd.C_below HR0_0.out HB.out))); (case side2 => exact HC0_0.out); (case side3 => exact (rC (Kd.C_below HR0_1.out HB.out))); (case side4 => exact HC0_1.out); rintro e w48 ⟨v436, rfl, ho0, hb⟩; refine ⟨_, rfl, ?_⟩; have HO437 := Aside0.mk (Kd.R_lower ho0 (below_size ZZ295621)); replace BK428 := kb BK428 hb; replace BK429 := kb BK429 hb; replace HB := hB hb; (try clear hb); (try clear hb2); (try clear hk); (try clear hi); (try clear ho0)))
     go_loopg [10, 11, 12] kj32 (fun kq v10 v11 v12 w' => ∃ (x10_3 : Int) (x11_3 : Bool) (x12_3 : Int), v10 = .int .i64 x10_3 ∧ v11 = .bool x11_3 ∧ v12 = .int .i64 x12_3 ∧ Aside0 (spec_CloseAccounts.l0 kq a1 a2 t435 x10_3 x11_3 x12_3 l0_0 l0_1 = some (r1, r2, r3)) ∧ Aside0 (kq ≤ kj32) ∧ Aside0 (Kd.R (Kd.int .i64) 3 w' w.heap.size (fun _ => True) v436 t435) ∧ Aside0 (w'.heap[gb428]? = some (.cells #[(.slice A0_0 l0_0.length c0_0), (.slice A0_1 l0_1.length c0_1)] 31 (0, 0))) ∧ Aside0 (w'.heap[gb429]? = some (.cells #[(.slice none 0 0), (.slice none 0 0)] 31 (0, 0))) ∧ Aside0 (Below w.heap.size w w'))
     case atStart => exact ⟨(0), (false), (0), ZZ0ab324, ZZ0ab324, ZZ0ab324, H, ⟨Nat.le_refl _⟩, ⟨(zR HO437)⟩, ⟨(zB BK428)⟩, ⟨(zB BK429)⟩, ⟨ZZ295621⟩⟩
     case round =>
      clear H
      try clear c42
      try clear hcz44_0
      try clear hcz44_1
      try clear hcz47_0
      try clear hcz47_1
      try clear hfz44_0
      try clear hfz44_1
      try clear hfz47_0
      try clear hfz47_1
      obtain ⟨x10_3, x11_3, x12_3, rfl, rfl, rfl, HA, HK3, HO_9, BK428, BK429, HB⟩ := hrel
      cases gk with
      | zero => exact absurd HA.out (by simp [spec_CloseAccounts.l0])
      | succ k3 =>
       have H := HA.out
       clear HA
       simp only [spec_CloseAccounts.l0] at H
       by_cases c49 : x12_3 < (t435.length : Int)
       ·rw [if_pos c49] at H
        have c49b0 := decide_eq_true c49
        clear c49
        obtain ⟨c50b0, H⟩ := ifYd H
        obtain ⟨c51b0, H⟩ := ifYd H
        obtain ⟨t439, A52, H⟩ := bdY H
        by_cases c53 : t439 = true
        ·subst c53
         replace H := ifT H
         by_cases c54 : x11_3 = true
         ·subst c54
          replace H := ifT H
          replace H := Aside0.mk H
          obtain ⟨Ao55, co55, eo55⟩ := Kd.R_slice HO_9.out
          subst eo55
          have hnb56 := NB428_429.out
          have hnc56 := NB429_428.out
          obtain ⟨hcz57_0, hcz57_1, hfz57_0, hfz57_1⟩ := z2 BK428
          have p438 : 0 ≤ (x12_3 : Int) := of_decide_eq_true ZZ853400
          have q438 : x12_3 < (l0_0.length : Int) := of_decide_eq_true ZZ853400
          obtain ⟨ad438, e438, hx438_0, hx438_1⟩ := at_T48 HR0_0.out x12_3 p438 q438
          cases e438
          replace hx438_0 := (HB.out.cell (World.block_lt_of_cell? w _ hx438_0)).trans hx438_0
          replace hx438_1 := (HB.out.cell (World.block_lt_of_cell? w _ hx438_1)).trans hx438_1
          replace p438 := eq_true p438
          replace q438 := eq_true q438
          go_wp2_with (first | (refine gc 74 Tryd.func70 #[.agg #[.string ((rd_T48 l0_0 x12_3).f0), .int .i64 ((rd_T48 l0_0 x12_3).f1)]] ?_; (with_reducible refine (spec_l26Temporary.calls ((rd_T48 l0_0 x12_3).f0) ((rd_T48 l0_0 x12_3).f1) true _ A52.out).mono ?_); rintro e w58 ⟨rfl, hb⟩; refine ⟨_, rfl, ?_⟩; replace HO_9 := Aside0.mk (Kd.R_below (zR HO_9) hb); replace BK428 := kb BK428 hb; replace BK429 := kb BK429 hb; replace HB := hB hb; (try clear hb); (try clear hb2); (try clear hk); (try clear hi); have p440 : 0 ≤ (x12_3 : Int) := of_decide_eq_true ZZ853400; have q440 : x12_3 < (t435.length : Int) := of_decide_eq_true ZZ853400; obtain ⟨ad440, e440, hx440_0⟩ := Kd.at_int (Kd.R_reads' HO_9.out).2.2 x12_3 p440 q440; cases e440; replace p440 := eq_true p440; replace q440 := eq_true q440))
          go_roundg k3
          case measure => have := HJ3.out; have := HJ32.out; have := HK3.out; omega
          case rel => exact ⟨(wrap64 (x10_3 + (rd t435 x12_3))), (true), (wrap64 (x12_3 + 1)), ZZ0ab324, ZZ0ab324, ZZ0ab324, ‹_›, kle, ⟨(zR HO_9)⟩, ⟨(zB BK428)⟩, ⟨(zB BK429)⟩, ⟨ZZ295621⟩⟩
         replace c54 := Bool.eq_false_iff.mpr c54
         subst c54
         replace H := ifF H
         replace H := Aside0.mk H
         obtain ⟨Ao59, co59, eo59⟩ := Kd.R_slice HO_9.out
         subst eo59
         have hnb60 := NB428_429.out
         have hnc60 := NB429_428.out
         obtain ⟨hcz61_0, hcz61_1, hfz61_0, hfz61_1⟩ := z2 BK428
         have p438 : 0 ≤ (x12_3 : Int) := of_decide_eq_true ZZ853400
         have q438 : x12_3 < (l0_0.length : Int) := of_decide_eq_true ZZ853400
         obtain ⟨ad438, e438, hx438_0, hx438_1⟩ := at_T48 HR0_0.out x12_3 p438 q438
         cases e438
         replace hx438_0 := (HB.out.cell (World.block_lt_of_cell? w _ hx438_0)).trans hx438_0
         replace hx438_1 := (HB.out.cell (World.block_lt_of_cell? w _ hx438_1)).trans hx438_1
         replace p438 := eq_true p438
         replace q438 := eq_true q438
         go_wp2_with (first | (refine gc 74 Tryd.func70 #[.agg #[.string ((rd_T48 l0_0 x12_3).f0), .int .i64 ((rd_T48 l0_0 x12_3).f1)]] ?_; (with_reducible refine (spec_l26Temporary.calls ((rd_T48 l0_0 x12_3).f0) ((rd_T48 l0_0 x12_3).f1) true _ A52.out).mono ?_); rintro e w62 ⟨rfl, hb⟩; refine ⟨_, rfl, ?_⟩; replace HO_9 := Aside0.mk (Kd.R_below (zR HO_9) hb); replace BK428 := kb BK428 hb; replace BK429 := kb BK429 hb; replace HB := hB hb; (try clear hb); (try clear hb2); (try clear hk); (try clear hi); have p440 : 0 ≤ (x12_3 : Int) := of_decide_eq_true ZZ853400; have q440 : x12_3 < (t435.length : Int) := of_decide_eq_true ZZ853400; obtain ⟨ad440, e440, hx440_0⟩ := Kd.at_int (Kd.R_reads' HO_9.out).2.2 x12_3 p440 q440; cases e440; replace p440 := eq_true p440; replace q440 := eq_true q440; have p441 : 0 ≤ (x12_3 : Int) := of_decide_eq_true ZZ853400; have q441 : x12_3 < (t435.length : Int) := of_decide_eq_true ZZ853400; obtain ⟨ad441, e441, hx441_0⟩ := Kd.at_int (Kd.R_reads' HO_9.out).2.2 x12_3 p441 q441; obtain rfl : ad440 = ad441 := (by injection e441); replace p441 := eq_true p441; replace q441 := eq_true q441))
         go_roundg k3
         case measure => have := HJ3.out; have := HJ32.out; have := HK3.out; omega
         case rel => exact ⟨(wrap64 (x10_3 + (rd t435 x12_3))), (((rd t435 x12_3) != 0)), (wrap64 (x12_3 + 1)), ZZ0ab324, ZZ0ab324, ZZ0ab324, ‹_›, kle, ⟨(zR HO_9)⟩, ⟨(zB BK428)⟩, ⟨(zB BK429)⟩, ⟨ZZ295621⟩⟩
        replace c53 := Bool.eq_false_iff.mpr c53
        subst c53
        replace H := ifF H
        replace H := Aside0.mk H
        obtain ⟨Ao63, co63, eo63⟩ := Kd.R_slice HO_9.out
        subst eo63
        have hnb64 := NB428_429.out
        have hnc64 := NB429_428.out
        obtain ⟨hcz65_0, hcz65_1, hfz65_0, hfz65_1⟩ := z2 BK428
        have p438 : 0 ≤ (x12_3 : Int) := of_decide_eq_true ZZ853400
        have q438 : x12_3 < (l0_0.length : Int) := of_decide_eq_true ZZ853400
        obtain ⟨ad438, e438, hx438_0, hx438_1⟩ := at_T48 HR0_0.out x12_3 p438 q438
        cases e438
        replace hx438_0 := (HB.out.cell (World.block_lt_of_cell? w _ hx438_0)).trans hx438_0
        replace hx438_1 := (HB.out.cell (World.block_lt_of_cell? w _ hx438_1)).trans hx438_1
        replace p438 := eq_true p438
        replace q438 := eq_true q438
        go_wp2_with (first | (refine gc 74 Tryd.func70 #[.agg #[.string ((rd_T48 l0_0 x12_3).f0), .int .i64 ((rd_T48 l0_0 x12_3).f1)]] ?_; (with_reducible refine (spec_l26Temporary.calls ((rd_T48 l0_0 x12_3).f0) ((rd_T48 l0_0 x12_3).f1) false _ A52.out).mono ?_); rintro e w66 ⟨rfl, hb⟩; refine ⟨_, rfl, ?_⟩; replace HO_9 := Aside0.mk (Kd.R_below (zR HO_9) hb); replace BK428 := kb BK428 hb; replace BK429 := kb BK429 hb; replace HB := hB hb; (try clear hb); (try clear hb2); (try clear hk); (try clear hi)))
        go_roundg k3
        case measure => have := HJ3.out; have := HJ32.out; have := HK3.out; omega
        case rel => exact ⟨(x10_3), (x11_3), (wrap64 (x12_3 + 1)), ZZ0ab324, ZZ0ab324, ZZ0ab324, H, kle, ⟨(zR HO_9)⟩, ⟨(zB BK428)⟩, ⟨(zB BK429)⟩, ⟨ZZ295621⟩⟩
       rw [if_neg c49] at H
       have c49b0 := decide_eq_false c49
       clear c49
       by_cases c67 : x11_3 = true
       ·subst c67
        replace H := ifT H
        replace H := Aside0.mk H
        obtain ⟨Ao68, co68, eo68⟩ := Kd.R_slice HO_9.out
        subst eo68
        go_wp2_with (first | ((with_reducible refine gate_dst (N := 13) rfl ?_); (try (refine gate_guard (by rfl) ?_; dsimp only)); refine bx 13 (cs := #[.int .i64 0, .string (⟨#[]⟩ : ByteArray), .slice none 0 0]) (t := 63) ?_; intro gb448 hg w69 hbox hb; replace HO_9 := Aside0.mk (Kd.R_below (zR HO_9) hb); have BK448 := Aside0.mk (hbox); have GW448 := gw hg; have GE448 := gw hg; replace HB := hB hb; have NB428_448 := nl hg BK428; have NB448_428 := ng hg BK428; replace BK428 := kb BK428 hb; have NB429_448 := nl hg BK429; have NB448_429 := ng hg BK429; replace BK429 := kb BK429 hb; clear hb hbox hg; have hnb70 := NB448_428.out; have hnc70 := NB428_448.out; have hnb71 := NB448_429.out; have hnc71 := NB429_448.out; obtain ⟨hcz72_0, hcz72_1, hcz72_2, hfz72_0, hfz72_1, hfz72_2⟩ := z3 BK448))
        go_loopg [14] k3 (fun kq v14 w' => ∃ (x14_4 : Int) (x449002_4 : List (S70)) (u449002 : Value), v14 = .int .i64 x14_4 ∧ Aside0 (spec_CloseAccounts.l1 kq a1 t435 x10_3 x14_4 l0_0 l0_1 a2 (⟨#[99, 108, 111, 115, 105, 110, 103]⟩ : ByteArray) x449002_4 = some (r1, r2, r3)) ∧ Aside0 (kq ≤ k3) ∧ Aside0 (Kd.R (Kd.int .i64) 3 w' w.heap.size (fun _ => True) (.slice Ao68 t435.length co68) t435) ∧ Aside0 (Kd.R k70 70 w' w.heap.size (fun _ => True) u449002 x449002_4) ∧ Aside0 (w'.heap[gb428]? = some (.cells #[(.slice A0_0 l0_0.length c0_0), (.slice A0_1 l0_1.length c0_1)] 31 (0, 0))) ∧ Aside0 (w'.heap[gb429]? = some (.cells #[(.slice none 0 0), (.slice none 0 0)] 31 (0, 0))) ∧ Aside0 (w'.heap[gb448]? = some (.cells #[.int .i64 a2, .string (⟨#[99, 108, 111, 115, 105, 110, 103]⟩ : ByteArray), u449002] 63 (0, 0))) ∧ Aside0 (Below w.heap.size w w'))
        case atStart => exact ⟨(0), (([] : List (S70))), (.slice none 0 0), ZZ0ab324, H, ⟨Nat.le_refl _⟩, ⟨(by refine bR ?_; exact Kd.R_mono (Kd.R_far (p := ⟨gb448, 2, none⟩) (Kd.R_far (p := ⟨gb448, 1, none⟩) (Kd.R_far (p := ⟨gb448, 0, none⟩) (Kd.R_types HO_9.out BK448.out (by decide)) (fun _ hk => hk.2) (.int .i64 a2)) (fun _ hk => hk.2) (.string (⟨#[99, 108, 111, 115, 105, 110, 103]⟩ : ByteArray))) (fun _ hk => hk.2) (.slice none 0 0)) (fun _ hk => trivial))⟩, ⟨ZZf4214b⟩, ⟨(by refine bd ?_; refine blk_far ?_ NB428_448.out _; refine bd ?_; refine blk_far ?_ NB428_448.out _; refine bd ?_; refine blk_far ?_ NB428_448.out _; refine bd ?_; exact BK428.out)⟩, ⟨(by refine bd ?_; refine blk_far ?_ NB429_448.out _; refine bd ?_; refine blk_far ?_ NB429_448.out _; refine bd ?_; refine blk_far ?_ NB429_448.out _; refine bd ?_; exact BK429.out)⟩, ⟨(by refine bd ?_; refine blk_put (cs := #[.int .i64 a2, .string (⟨#[99, 108, 111, 115, 105, 110, 103]⟩ : ByteArray), .slice none 0 0]) ?_ 2 _ rfl; refine bd ?_; refine blk_put (cs := #[.int .i64 a2, .string (⟨#[]⟩ : ByteArray), .slice none 0 0]) ?_ 1 _ rfl; refine bd ?_; refine blk_put (cs := #[.int .i64 0, .string (⟨#[]⟩ : ByteArray), .slice none 0 0]) ?_ 0 _ rfl; refine bd ?_; exact BK448.out)⟩, ⟨ZZ295621⟩⟩
        case round =>
         clear H
         try clear c49b0
         try clear c50b0
         try clear c51b0
         try clear c53
         try clear c54
         try clear c67
         try clear hcz57_0
         try clear hcz57_1
         try clear hcz61_0
         try clear hcz61_1
         try clear hcz65_0
         try clear hcz65_1
         try clear hcz72_0
         try clear hcz72_1
         try clear hcz72_2
         try clear hfz57_0
         try clear hfz57_1
         try clear hfz61_0
         try clear hfz61_1
         try clear hfz65_0
         try clear hfz65_1
         try clear hfz72_0
         try clear hfz72_1
         try clear hfz72_2
         try clear hx438_0
         try clear hx438_1
         try clear hx440_0
         try clear hx441_0
         try clear p438
         try clear p440
         try clear p441
         try clear q438
         try clear q440
         try clear q441
         obtain ⟨x14_4, x449002_4, u449002, rfl, HA, HK4, HO_9, HO_449002, BK428, BK429, BK448, HB⟩ := hrel
         cases gk with
         | zero => exact absurd HA.out (by simp [spec_CloseAccounts.l1])
         | succ k4 =>
          have H := HA.out
          clear HA
          simp only [spec_CloseAccounts.l1] at H
          by_cases c73 : x14_4 < (t435.length : Int)
          ·rw [if_pos c73] at H
           have c73b0 := decide_eq_true c73
           clear c73
           obtain ⟨c74b0, H⟩ := ifYd H
           obtain ⟨c75b0, H⟩ := ifYd H
           obtain ⟨t457, A76, H⟩ := bdY H
           have HC77 := Aside0.mk H
           clear H
           have hnb78 := NB428_429.out
           have hnc78 := NB429_428.out
           have hnb79 := NB428_448.out
           have hnc79 := NB448_428.out
           obtain ⟨hcz80_0, hcz80_1, hfz80_0, hfz80_1⟩ := z2 BK428
           have p456 : 0 ≤ (x14_4 : Int) := of_decide_eq_true ZZ853400
           have q456 : x14_4 < (l0_0.length : Int) := of_decide_eq_true ZZ853400
           obtain ⟨ad456, e456, hx456_0, hx456_1⟩ := at_T48 HR0_0.out x14_4 p456 q456
           cases e456
           replace hx456_0 := (HB.out.cell (World.block_lt_of_cell? w _ hx456_0)).trans hx456_0
           replace hx456_1 := (HB.out.cell (World.block_lt_of_cell? w _ hx456_1)).trans hx456_1
           replace p456 := eq_true p456
           replace q456 := eq_true q456
           go_upto_if 106 with (first | (refine gc 106 Tryd.func70 #[.agg #[.string ((rd_T48 l0_0 x14_4).f0), .int .i64 ((rd_T48 l0_0 x14_4).f1)]] ?_; (with_reducible refine (spec_l26Temporary.calls ((rd_T48 l0_0 x14_4).f0) ((rd_T48 l0_0 x14_4).f1) t457 _ A76.out).mono ?_); rintro e w81 ⟨rfl, hb⟩; refine ⟨_, rfl, ?_⟩; replace HO_9 := Aside0.mk (Kd.R_below (zR HO_9) hb); replace HO_449002 := Aside0.mk (Kd.R_below (zR HO_449002) hb); replace BK428 := kb BK428 hb; replace BK429 := kb BK429 hb; replace BK448 := kb BK448 hb; replace HB := hB hb; (try clear hb); (try clear hb2); (try clear hk); (try clear hi)))
           (try simp only [Act.put, List.setIfInBounds_toArray, List.set_cons_zero, List.set_cons_succ])
           go_cut [15] (fun v15 wc => ∃ (kq : Nat) (x15_76 : Int), v15 = .int .i64 x15_76 ∧ Aside0 (spec_CloseAccounts.j4 kq a1 t435 x10_3 x14_4 x15_76 l0_0 l0_1 a2 (⟨#[99, 108, 111, 115, 105, 110, 103]⟩ : ByteArray) x449002_4 = some (r1, r2, r3)) ∧ Aside0 (kq ≤ k4) ∧ Aside0 (Kd.R (Kd.int .i64) 3 wc w.heap.size (fun _ => True) (.slice Ao68 t435.length co68) t435) ∧ Aside0 (Kd.R k70 70 wc w.heap.size (fun _ => True) u449002 x449002_4) ∧ Aside0 (wc.heap[gb428]? = some (.cells #[(.slice (some ad456) l0_0.length c0_0), (.slice A0_1 l0_1.length c0_1)] 31 (0, 0))) ∧ Aside0 (wc.heap[gb429]? = some (.cells #[(.slice none 0 0), (.slice none 0 0)] 31 (0, 0))) ∧ Aside0 (wc.heap[gb448]? = some (.cells #[.int .i64 a2, .string (⟨#[99, 108, 111, 115, 105, 110, 103]⟩ : ByteArray), u449002] 63 (0, 0))) ∧ Aside0 (Below w.heap.size w wc))
           case first =>
            have H := HC77.out
            clear HC77
            by_cases c82 : t457 = true
            ·subst c82
             replace H := ifT H
             replace H := Aside0.mk H
             have p458 : 0 ≤ (x14_4 : Int) := of_decide_eq_true ZZ853400
             have q458 : x14_4 < (t435.length : Int) := of_decide_eq_true ZZ853400
             obtain ⟨ad458, e458, hx458_0⟩ := Kd.at_int (Kd.R_reads' HO_9.out).2.2 x14_4 p458 q458
             cases e458
             replace p458 := eq_true p458
             replace q458 := eq_true q458
             go_wp2
             go_meet
             case rel => exact ⟨_, (wrap64 (-(rd t435 x14_4))), ZZ0ab324, H, kle, ⟨(zR HO_9)⟩, ⟨(zR HO_449002)⟩, ⟨(zB BK428)⟩, ⟨(zB BK429)⟩, ⟨(zB BK448)⟩, ⟨ZZ295621⟩⟩
            replace c82 := Bool.eq_false_iff.mpr c82
            subst c82
            replace H := ifF H
            replace H := Aside0.mk H
            go_wp2
            go_meet
            case rel => exact ⟨_, (0), ZZ0ab324, H, kle, ⟨(zR HO_9)⟩, ⟨(zR HO_449002)⟩, ⟨(zB BK428)⟩, ⟨(zB BK429)⟩, ⟨(zB BK448)⟩, ⟨ZZ295621⟩⟩
           case rest =>
            clear HC77
            try clear c73b0
            try clear c74b0
            try clear c75b0
            try clear c82
            try clear hcz80_0
            try clear hcz80_1
            try clear hfz80_0
            try clear hfz80_1
            try clear hx456_0
            try clear hx456_1
            try clear hx458_0
            try clear p456
            try clear p458
            try clear q456
            try clear q458
            obtain ⟨kq, x15_76, rfl, HA, HJ76, HO_9, HO_449002, BK428, BK429, BK448, HB⟩ := hcut
            cases kq with
            | zero => exact absurd HA.out (by simp [spec_CloseAccounts.j4])
            | succ kj76 =>
             have H := HA.out
             clear HA
             simp only [spec_CloseAccounts.j4] at H
             have HC83 := Aside0.mk H
             clear H
             go_upto_if 114 with (fail)
             go_cut [15] (fun v15 wc => ∃ (kq : Nat) (x15_82 : Int), v15 = .int .i64 x15_82 ∧ Aside0 (spec_CloseAccounts.j5 kq a1 t435 x10_3 x14_4 x15_82 l0_0 l0_1 a2 (⟨#[99, 108, 111, 115, 105, 110, 103]⟩ : ByteArray) x449002_4 = some (r1, r2, r3)) ∧ Aside0 (kq ≤ kj76) ∧ Aside0 (Kd.R (Kd.int .i64) 3 wc w.heap.size (fun _ => True) (.slice Ao68 t435.length co68) t435) ∧ Aside0 (Kd.R k70 70 wc w.heap.size (fun _ => True) u449002 x449002_4) ∧ Aside0 (wc.heap[gb428]? = some (.cells #[(.slice (some ad456) l0_0.length c0_0), (.slice A0_1 l0_1.length c0_1)] 31 (0, 0))) ∧ Aside0 (wc.heap[gb429]? = some (.cells #[(.slice none 0 0), (.slice none 0 0)] 31 (0, 0))) ∧ Aside0 (wc.heap[gb448]? = some (.cells #[.int .i64 a2, .string (⟨#[99, 108, 111, 115, 105, 110, 103]⟩ : ByteArray), u449002] 63 (0, 0))) ∧ Aside0 (Below w.heap.size w wc))
             case first =>
              have H := HC83.out
              clear HC83
              by_cases c84 : x14_4 = a1
              ·rw [if_pos c84] at H
               have c84b0 := beq_iff_eq.mpr c84
               have c84b1 := bne_eq_false_iff_eq.mpr c84
               clear c84
               (first | rw [c84b0] | (simp only [i64_w, i32_w]; rw [c84b0]) | skip)
               replace H := Aside0.mk H
               go_wp2
               go_meet
               case rel => exact ⟨_, (x10_3), ZZ0ab324, H, kle, ⟨(zR HO_9)⟩, ⟨(zR HO_449002)⟩, ⟨(zB BK428)⟩, ⟨(zB BK429)⟩, ⟨(zB BK448)⟩, ⟨ZZ295621⟩⟩
              rw [if_neg c84] at H
              have c84b0 := beq_eq_false_iff_ne.mpr c84
              have c84b1 := bne_iff_ne.mpr c84
              (first | rw [c84b0] | (simp only [i64_w, i32_w]; rw [c84b0]) | skip)
              replace H := Aside0.mk H
              go_wp2
              go_meet
              case rel => exact ⟨_, (x15_76), ZZ0ab324, H, kle, ⟨(zR HO_9)⟩, ⟨(zR HO_449002)⟩, ⟨(zB BK428)⟩, ⟨(zB BK429)⟩, ⟨(zB BK448)⟩, ⟨ZZ295621⟩⟩
             case rest =>
              clear HC83
              try clear c84
              try clear c84b0
              try clear c84b1
              obtain ⟨kq, x15_82, rfl, HA, HJ82, HO_9, HO_449002, BK428, BK429, BK448, HB⟩ := hcut
              cases kq with
              | zero => exact absurd HA.out (by simp [spec_CloseAccounts.j5])
              | succ kj82 =>
               have H := HA.out
               clear HA
               simp only [spec_CloseAccounts.j5] at H
               by_cases c85 : x15_82 = 0
               ·rw [if_pos c85] at H
                have c85b0 := beq_iff_eq.mpr c85
                have c85b1 := bne_eq_false_iff_eq.mpr c85
                clear c85
                replace H := Aside0.mk H
                go_wp2
                go_roundg kj82
                case measure => have := HJ3.out; have := HJ32.out; have := HK3.out; have := HK4.out; have := HJ76.out; have := HJ82.out; omega
                case rel => exact ⟨(wrap64 (x14_4 + 1)), (x449002_4), (u449002), ZZ0ab324, ‹_›, kle, ⟨(zR HO_9)⟩, ⟨(zR HO_449002)⟩, ⟨(zB BK428)⟩, ⟨(zB BK429)⟩, ⟨(zB BK448)⟩, ⟨ZZ295621⟩⟩
               rw [if_neg c85] at H
               have c85b0 := beq_eq_false_iff_ne.mpr c85
               have c85b1 := bne_iff_ne.mpr c85
               obtain ⟨c86, H⟩ := ifY H
               have LMc86 := Aside0.mk c86
               clear c86
               try rw [Option.bind_some] at H
               generalize hy459 : (x449002_4 ++ [(⟨x14_4, x15_82⟩ : S70)] : List (S70)) = y459 at H
               have Ny459 := Aside0.mk hy459.symm
               clear hy459
               replace H := Aside0.mk H
               have hnb87 := NB448_428.out
               have hnc87 := NB428_448.out
               have hnb88 := NB448_429.out
               have hnc88 := NB429_448.out
               obtain ⟨hcz89_0, hcz89_1, hcz89_2, hfz89_0, hfz89_1, hfz89_2⟩ := z3 BK448
               go_wp2_with (first | ((with_reducible refine gate_builtin (b := .append) (xs := #[.tmp 119, .tmp 123]) rfl ?_); (try (refine gate_guard (by rfl) ?_; dsimp only)); at_builtin; refine Kd.R_append k70 (w0 := w) w.heap.size rfl (.tmp 119) (.tmp 123) 61 70 (.agg #[(.int .i64 0), (.int .i64 0)]) 16 rfl Tryd.underlying61 info70 rfl (by decide) (by omega) u449002 x449002_4 (⟨x14_4, x15_82⟩ : S70) [.int .i64 x14_4, .int .i64 x15_82] (fun _ => True) (fun _ => False) rfl rfl ?aP (fun _ hk => hk.elim) ?aF ?aO ?aB ?aS ?aL ?_; (case aP => exact k70_mkM _ _ _ (⟨x14_4, x15_82⟩ : S70)); (case aB => exact ZZ295621); (case aF => exact (fun _ _ => trivial)); (case aO => exact (zR HO_449002)); (case aS => exact (below_size ZZ295621)); (case aL => have := LMc86.out; omega); intro v460 w90 ho hb hg hat; rw [← Ny459.out] at ho; replace HO_9 := Aside0.mk (Kd.R_over' (zR HO_9) (Kd.R_typed (zR HO_449002)) (by decide) hg); replace BK428 := Aside0.mk (blk_grown (zB BK428) hg (Kd.R_ne HO_449002.out BK428.out (by decide))); replace BK429 := Aside0.mk (blk_grown (zB BK429) hg (Kd.R_ne HO_449002.out BK429.out (by decide))); replace BK448 := Aside0.mk (blk_grown (zB BK448) hg (Kd.R_ne HO_449002.out BK448.out (by decide))); replace HB := Aside0.mk (hb); have HO461 := Aside0.mk (ho); clear HO_449002; clear ho hb hg hat; obtain ⟨Ao91, co91, eo91⟩ := Kd.R_slice HO461.out; subst eo91; obtain ⟨hcz92_0, hcz92_1, hcz92_2, hfz92_0, hfz92_1, hfz92_2⟩ := z3 BK448))
               go_roundg kj82
               case measure => have := HJ3.out; have := HJ32.out; have := HK3.out; have := HK4.out; have := HJ76.out; have := HJ82.out; omega
               case rel => exact ⟨(wrap64 (x14_4 + 1)), (y459), (.slice Ao91 y459.length co91), ZZ0ab324, ‹_›, kle, ⟨(by refine bR ?_; exact Kd.R_mono (Kd.R_far (p := ⟨gb448, 2, none⟩) (Kd.R_types HO_9.out BK448.out (by decide)) (fun _ hk => hk.2) (.slice Ao91 y459.length co91)) (fun _ hk => trivial))⟩, ⟨(by refine bR ?_; exact Kd.R_mono (Kd.R_far (p := ⟨gb448, 2, none⟩) (Kd.R_types HO461.out BK448.out (by decide)) (fun _ hk => hk.2) (.slice Ao91 y459.length co91)) (fun _ hk => trivial))⟩, ⟨(by refine bd ?_; refine blk_far ?_ NB428_448.out _; refine bd ?_; exact BK428.out)⟩, ⟨(by refine bd ?_; refine blk_far ?_ NB429_448.out _; refine bd ?_; exact BK429.out)⟩, ⟨(by refine bd ?_; refine blk_put (cs := #[.int .i64 a2, .string (⟨#[99, 108, 111, 115, 105, 110, 103]⟩ : ByteArray), u449002]) ?_ 2 _ rfl; refine bd ?_; exact BK448.out)⟩, ⟨ZZ295621⟩⟩
          rw [if_neg c73] at H
          have c73b0 := decide_eq_false c73
          clear c73
          obtain ⟨⟨t449, t452, t455⟩, A93, H⟩ := bdY H
          try dsimp only at H
          simp only [Option.some.injEq, Prod.mk.injEq] at H
          obtain ⟨rfl, rfl, rfl⟩ := H
          have hnb94 := NB428_429.out
          have hnc94 := NB429_428.out
          have hnb95 := NB428_448.out
          have hnc95 := NB448_428.out
          obtain ⟨hcz96_0, hcz96_1, hfz96_0, hfz96_1⟩ := z2 BK428
          have hnb97 := NB448_429.out
          have hnc97 := NB429_448.out
          obtain ⟨hcz98_0, hcz98_1, hcz98_2, hfz98_0, hfz98_1, hfz98_2⟩ := z3 BK448
          obtain ⟨Ao99, co99, eo99⟩ := Kd.R_slice HO_449002.out
          subst eo99
          go_wp2_with (first | (refine gc 128 Tryd.func78 #[.agg #[.slice A0_0 l0_0.length c0_0, .slice A0_1 l0_1.length c0_1], .agg #[.int .i64 a2, .string (⟨#[99, 108, 111, 115, 105, 110, 103]⟩ : ByteArray), .slice Ao99 x449002_4.length co99]] ?_; (with_reducible refine (spec_l26Post.calls k4 _ _ l0_0 _ _ l0_1 a2 (⟨#[99, 108, 111, 115, 105, 110, 103]⟩ : ByteArray) _ _ x449002_4 t449 t452 t455 _ ?side1 ?side2 ?side3 ?side4 ?side5 ?side6 A93.out).mono ?_); (case side1 => exact (rC (Kd.C_below HR0_0.out HB.out))); (case side2 => exact HC0_0.out); (case side3 => exact (rC (Kd.C_below HR0_1.out HB.out))); (case side4 => exact HC0_1.out); (case side5 => exact rC (Kd.R_reads' HO_449002.out).2.2); (case side6 => exact (Kd.R_reads' HO_449002.out).2.1); rintro e w100 ⟨v450, v453, rfl, ho0, ho1, hb⟩; refine ⟨_, rfl, ?_⟩; replace HO_9 := Aside0.mk (Kd.R_below (zR HO_9) hb); have HO451 := Aside0.mk (Kd.R_lower ho0 (below_size ZZ295621)); have HO454 := Aside0.mk (Kd.S_lower (Kd.S_newB (Kd.S_new' ho1 (Kd.R_lt (zR HO_449002))) (zB BK448)) (below_size ZZ295621)); replace HO_449002 := Aside0.mk (Kd.R_below (zR HO_449002) hb); replace BK428 := kb BK428 hb; replace BK429 := kb BK429 hb; replace BK448 := kb BK448 hb; replace HB := hB hb; (try clear hb); (try clear hb2); (try clear hk); (try clear hi); (try clear ho0); (try clear ho1); obtain ⟨Ao101, co101, eo101⟩ := Kd.R_slice HO451.out; subst eo101; obtain ⟨hcz102_0, hcz102_1, hfz102_0, hfz102_1⟩ := z2 BK429; obtain ⟨Ao103, co103, eo103⟩ := Kd.S_slice HO454.out; subst eo103))
          refine bodyPost_ret (results_ct rfl _ _ gb429 31 #[.slice Ao101 t449.length co101, .slice Ao103 t452.length co103] (0, 0) _ rfl (by refine bd ?_; refine blk_put (cs := #[.slice Ao101 t449.length co101, .slice none 0 0]) ?_ 1 _ rfl; refine bd ?_; refine blk_put (cs := #[.slice none 0 0, .slice none 0 0]) ?_ 0 _ rfl; refine bd ?_; exact BK429.out) Tryd.underlying31 rfl (by kernel_rfl)) rfl ?_
          exact ⟨_, _, ZZab01d2, (by refine bR ?_; exact Kd.R_mono (Kd.R_far (p := ⟨gb429, 1, none⟩) (Kd.R_far (p := ⟨gb429, 0, none⟩) (Kd.R_types HO451.out BK429.out (by decide)) (fun _ hk => hk.2) (.slice Ao101 t449.length co101)) (fun _ hk => hk.2) (.slice Ao103 t452.length co103)) (fun _ hk => trivial)), (by refine bS ?_; exact Kd.S_mono (Kd.S_far (p := ⟨gb429, 1, none⟩) (Kd.S_far (p := ⟨gb429, 0, none⟩) (Kd.S_types HO454.out BK429.out (by decide)) (fun _ hk => hk.2) (.slice Ao101 t449.length co101)) (fun _ hk => hk.2) (.slice Ao103 t452.length co103)) (fun _ hk => trivial)), ZZ295621⟩
       replace c67 := Bool.eq_false_iff.mpr c67
       subst c67
       replace H := ifF H
       obtain ⟨⟨t442, t445⟩, A104, H⟩ := bdY H
       try dsimp only at H
       simp only [Option.some.injEq, Prod.mk.injEq] at H
       obtain ⟨rfl, rfl, rfl⟩ := H
       obtain ⟨Ao105, co105, eo105⟩ := Kd.R_slice HO_9.out
       subst eo105
       have hnb106 := NB428_429.out
       have hnc106 := NB429_428.out
       obtain ⟨hcz107_0, hcz107_1, hfz107_0, hfz107_1⟩ := z2 BK428
       go_wp2_with (first | (refine gc 92 Tryd.func77 #[.agg #[.slice A0_0 l0_0.length c0_0, .slice A0_1 l0_1.length c0_1]] ?_; (with_reducible refine (spec_l26Own.calls k3 _ _ l0_0 _ _ l0_1 t442 t445 _ ?side1 ?side2 ?side3 ?side4 A104.out).mono ?_); (case side1 => exact (rC (Kd.C_below HR0_0.out HB.out))); (case side2 => exact HC0_0.out); (case side3 => exact (rC (Kd.C_below HR0_1.out HB.out))); (case side4 => exact HC0_1.out); rintro e w108 ⟨v443, v446, rfl, ho0, ho1, hb⟩; refine ⟨_, rfl, ?_⟩; replace HO_9 := Aside0.mk (Kd.R_below (zR HO_9) hb); have HO444 := Aside0.mk (Kd.R_lower ho0 (below_size ZZ295621)); have HO447 := Aside0.mk (Kd.S_lower ho1 (below_size ZZ295621)); replace BK428 := kb BK428 hb; replace BK429 := kb BK429 hb; replace HB := hB hb; (try clear hb); (try clear hb2); (try clear hk); (try clear hi); (try clear ho0); (try clear ho1); obtain ⟨Ao109, co109, eo109⟩ := Kd.R_slice HO444.out; subst eo109; obtain ⟨hcz110_0, hcz110_1, hfz110_0, hfz110_1⟩ := z2 BK429; obtain ⟨Ao111, co111, eo111⟩ := Kd.S_slice HO447.out; subst eo111))
       refine bodyPost_ret (results_ct rfl _ _ gb429 31 #[.slice Ao109 t442.length co109, .slice Ao111 t445.length co111] (0, 0) _ rfl (by refine bd ?_; refine blk_put (cs := #[.slice Ao109 t442.length co109, .slice none 0 0]) ?_ 1 _ rfl; refine bd ?_; refine blk_put (cs := #[.slice none 0 0, .slice none 0 0]) ?_ 0 _ rfl; refine bd ?_; exact BK429.out) Tryd.underlying31 rfl (by kernel_rfl)) rfl ?_
       exact ⟨_, _, ZZab01d2, (by refine bR ?_; exact Kd.R_mono (Kd.R_far (p := ⟨gb429, 1, none⟩) (Kd.R_far (p := ⟨gb429, 0, none⟩) (Kd.R_types HO444.out BK429.out (by decide)) (fun _ hk => hk.2) (.slice Ao109 t442.length co109)) (fun _ hk => hk.2) (.slice Ao111 t445.length co111)) (fun _ hk => trivial)), (by refine bS ?_; exact Kd.S_mono (Kd.S_far (p := ⟨gb429, 1, none⟩) (Kd.S_far (p := ⟨gb429, 0, none⟩) (Kd.S_types HO447.out BK429.out (by decide)) (fun _ hk => hk.2) (.slice Ao109 t442.length co109)) (fun _ hk => hk.2) (.slice Ao111 t445.length co111)) (fun _ hk => trivial)), ZZ295621⟩
end Go.Proofs.YtccdjchaaeligaaDoor.XFnExactCloseAccounts

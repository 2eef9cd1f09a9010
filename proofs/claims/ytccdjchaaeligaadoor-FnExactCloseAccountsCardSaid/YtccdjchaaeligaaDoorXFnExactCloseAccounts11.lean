import Derived.Test.YtccdjchaaeligaaDoorXFnExactCloseAccounts1
import Derived.Test.YtccdjchaaeligaaDoorXFnExactCloseAccounts0
import Derived.Test.YtccdjchaaeligaaDoorXFnExactCloseAccounts8
import Derived.Test.YtccdjchaaeligaaDoorXFnExactCloseAccounts9
import Derived.Test.YtccdjchaaeligaaDoorXFnExactCloseAccounts10
namespace Go.Proofs.YtccdjchaaeligaaDoor.XFnExactCloseAccounts
open Go.Proofs.YtccdjchaaeligaaDoor.Short Go.RowKit Go.Proofs.YtccdjchaaeligaaDoorW.PrintWords Go.Proofs.YtccdjchaaeligaaDoorW.PrintLast Go.Proofs.YtccdjchaaeligaaDoorW.PrintMore
attribute [local go_sem] max2_int min2_int max_two min_two max_three min_three max_four min_four
set_option linter.unusedVariables false
set_option linter.unusedSimpArgs false
mutual
def impl_CloseAccounts.j0 : Nat → Int → Int → Bool → List (S48) → List (S63) → Option ((List (S48)) × (List (S63)) × Bool)
 | 0, _, _, _, _, _ => none
 | k + 1, x1, x2, x30, x299000, x299001 => if x30 = true then (some (([] : List (S48)), ([] : List (S63)), false)) else (if (x299001.length : Int) > 0 then (if 0 ≤ (wrap64 ((x299001.length : Int) - 1)) then (if (wrap64 ((x299001.length : Int) - 1)) < (x299001.length : Int) then (impl_CloseAccounts.j1 k x1 x2 (decide (((rd_T63 x299001 (wrap64 ((x299001.length : Int) - 1))).f0) > x2)) x299000 x299001) else (none)) else (none)) else (impl_CloseAccounts.j1 k x1 x2 false x299000 x299001))
def impl_CloseAccounts.j1 : Nat → Int → Int → Bool → List (S48) → List (S63) → Option ((List (S48)) × (List (S63)) × Bool)
 | 0, _, _, _, _, _ => none
 | k + 1, x1, x2, x47, x299000, x299001 => if x47 = true then (some (([] : List (S48)), ([] : List (S63)), false)) else ((impl_balancesAt.f k x299000 x299001 x2).bind fun t306 => (impl_CloseAccounts.l0 k x1 x2 t306 0 x299000 (x299000.length : Int) 0 x299000 x299001))
def impl_CloseAccounts.l0 : Nat → Int → Int → List Int → Int → List (S48) → Int → Int → List (S48) → List (S63) → Option ((List (S48)) × (List (S63)) × Bool)
 | 0, _, _, _, _, _, _, _, _, _ => none
 | k + 1, x1, x2, x9, x10, x53, x54, x55, x299000, x299001 => if x55 < x54 then (if 0 ≤ x55 then (if x55 < (x53.length : Int) then ((impl_isResult.f ((rd_T48 x53 x55).f0) ((rd_T48 x53 x55).f1)).bind fun t311 => (if t311 = true then (if x55 < (x9.length : Int) then (impl_CloseAccounts.l0 k x1 x2 x9 (wrap64 (x10 + (rd x9 x55))) x53 x54 (wrap64 (x55 + 1)) x299000 x299001) else (none)) else (if x55 < (x9.length : Int) then ((some (x9.set (x55 : Int).toNat 0 : List Int)).bind fun y313 => (impl_CloseAccounts.l0 k x1 x2 y313 (wrap64 (x10 + (rd y313 x55))) x53 x54 (wrap64 (x55 + 1)) x299000 x299001)) else (none)))) else (none)) else (none)) else (if 0 ≤ x1 then (if x1 < (x9.length : Int) then (impl_CloseAccounts.l1 k (x9.set (x1 : Int).toNat (wrap64 (-x10))) (x9.length : Int) 0 x299000 x299001 x2 (⟨#[99, 108, 111, 115, 105, 110, 103]⟩ : ByteArray) ([] : List (S70))) else (none)) else (none))
def impl_CloseAccounts.l1 : Nat → List Int → Int → Int → List (S48) → List (S63) → Int → ByteArray → List (S70) → Option ((List (S48)) × (List (S63)) × Bool)
 | 0, _, _, _, _, _, _, _, _ => none
 | k + 1, x80, x81, x82, x299000, x299001, x317000, x317001, x317002 => if x82 < x81 then (if 0 ≤ x82 then (if x82 < (x80.length : Int) then (if (rd x80 x82) = 0 then (impl_CloseAccounts.l1 k x80 x81 (wrap64 (x82 + 1)) x299000 x299001 x317000 x317001 x317002) else (if x317002.length < 8796093022208 then (impl_CloseAccounts.l1 k x80 x81 (wrap64 (x82 + 1)) x299000 x299001 x317000 x317001 (x317002 ++ [(⟨x82, wrap64 (-(rd x80 x82))⟩ : S70)])) else (none))) else (none)) else (none)) else (if (x317002.length : Int) = 0 then ((impl_ownLedger.f k x299000 x299001).bind fun bt321 => (some (bt321.1, bt321.2, true))) else ((impl_PostEntry.f k x299000 x299001 x317000 x317001 x317002).bind fun bt327 => (some (bt327.1, bt327.2.1, bt327.2.2))))
end
def impl_CloseAccounts.f (k : Nat) (l0_0 : List (S48)) (l0_1 : List (S63)) (a1 : Int) (a2 : Int) : Option ((List (S48)) × (List (S63)) × Bool) := (impl_isAccount.f k l0_0 l0_1 a1 (([a2] : List Int))).bind fun t303 => (if t303 = true then (if 0 ≤ a1 then (if a1 < (l0_0.length : Int) then (impl_CloseAccounts.j0 k a1 a2 (((rd_T48 l0_0 a1).f1) != 3) l0_0 l0_1) else (none)) else (none)) else (impl_CloseAccounts.j0 k a1 a2 true l0_0 l0_1))
theorem impl_CloseAccounts.mono_l : ∀ k, (∀ y0 y1 y2 y3 y4, LeO (impl_CloseAccounts.j0 k y0 y1 y2 y3 y4) (impl_CloseAccounts.j0 (k + 1) y0 y1 y2 y3 y4)) ∧ (∀ y0 y1 y2 y3 y4, LeO (impl_CloseAccounts.j1 k y0 y1 y2 y3 y4) (impl_CloseAccounts.j1 (k + 1) y0 y1 y2 y3 y4)) ∧ (∀ y0 y1 y2 y3 y4 y5 y6 y7 y8, LeO (impl_CloseAccounts.l0 k y0 y1 y2 y3 y4 y5 y6 y7 y8) (impl_CloseAccounts.l0 (k + 1) y0 y1 y2 y3 y4 y5 y6 y7 y8)) ∧ (∀ y0 y1 y2 y3 y4 y5 y6 y7, LeO (impl_CloseAccounts.l1 k y0 y1 y2 y3 y4 y5 y6 y7) (impl_CloseAccounts.l1 (k + 1) y0 y1 y2 y3 y4 y5 y6 y7))
 | 0 => ⟨fun _ _ _ _ _ r h => by simp [impl_CloseAccounts.j0] at h, fun _ _ _ _ _ r h => by simp [impl_CloseAccounts.j1] at h, fun _ _ _ _ _ _ _ _ _ r h => by simp [impl_CloseAccounts.l0] at h, fun _ _ _ _ _ _ _ _ r h => by simp [impl_CloseAccounts.l1] at h⟩
 | k + 1 => by
  obtain ⟨ih0, ih1, ih2, ih3⟩ := impl_CloseAccounts.mono_l k
  refine ⟨?_, ?_, ?_, ?_⟩
  all_goals intros
  all_goals (first | unfold impl_CloseAccounts.j0 | unfold impl_CloseAccounts.j1 | unfold impl_CloseAccounts.l0 | unfold impl_CloseAccounts.l1)
  all_goals
   repeat' with_reducible first | apply ih0 | apply ih1 | apply ih2 | apply ih3 | apply impl_PostEntry.mono | apply impl_balancesAt.mono | apply impl_isAccount.mono | apply impl_ownLedger.mono | exact LeO.refl _ | exact LeO.none _ | refine LeO.ite ?_ ?_ | refine LeO.bind ?_ (fun _ => ?_)
theorem impl_CloseAccounts.mono : ∀ a0 a1 a2 a3 k, LeO (impl_CloseAccounts.f k a0 a1 a2 a3) (impl_CloseAccounts.f (k + 1) a0 a1 a2 a3) := by
 intro a0 a1 a2 a3 k
 obtain ⟨ih0, ih1, ih2, ih3⟩ := impl_CloseAccounts.mono_l k
 unfold impl_CloseAccounts.f
 repeat' with_reducible first | apply ih0 | apply ih1 | apply ih2 | apply ih3 | apply impl_PostEntry.mono | apply impl_balancesAt.mono | apply impl_isAccount.mono | apply impl_ownLedger.mono | exact LeO.refl _ | exact LeO.none _ | refine LeO.ite ?_ ?_ | refine LeO.bind ?_ (fun _ => ?_)
set_option maxHeartbeats 8000000 in
set_option maxRecDepth 100000 in
theorem impl_CloseAccounts.calls (k : Nat) (A0_0 : Option Addr) (c0_0 : Nat) (l0_0 : List (S48)) (A0_1 : Option Addr) (c0_1 : Nat) (l0_1 : List (S63)) (a1 : Int) (a2 : Int) (r1 : List (S48)) (r2 : List (S63)) (r3 : Bool) (w : World) (hr0_0 : Kd.C k48 w A0_0 l0_0.length l0_0) (hc0_0 : l0_0.length ≤ c0_0) (hr0_1 : Kd.C k63 w A0_1 l0_1.length l0_1) (hc0_1 : l0_1.length ≤ c0_1) (h : impl_CloseAccounts.f k l0_0 l0_1 a1 a2 = some (r1, r2, r3)) :
 Calls Tryd.prog 25 #[.agg #[.slice A0_0 l0_0.length c0_0, .slice A0_1 l0_1.length c0_1], .int .i64 a1, .int .i64 a2] w fun e w' => ∃ v0_ v1_ : Value, e = .returned (.tuple #[.agg #[v0_, v1_], .bool r3]) ∧ Kd.R k48 48 w' w.heap.size (fun _ => True) v0_ r1 ∧ Kd.S k63 63 w' w.heap.size (fun _ => True) v1_ r2 ∧ Below w.heap.size w w' := by
 have hu31 := Tryd.underlying31
 have hu48 := Tryd.underlying48
 have hu63 := Tryd.underlying63
 have hu70 := Tryd.underlying70
 have HR0_0 := Aside0.mk hr0_0
 have HC0_0 := Aside0.mk hc0_0
 clear hr0_0 hc0_0
 have HR0_1 := Aside0.mk hr0_1
 have HC0_1 := Aside0.mk hc0_1
 clear hr0_1 hc0_1
 have HB := Aside0.mk (Below.refl w.heap.size w)
 have H := h
 clear h
 unfold impl_CloseAccounts.f at H
 have HC4 := Aside0.mk H
 clear H
 go_enter Tryd.func25, Tryd.ntmps25
 go_upto_region 1 with (first | ((with_reducible refine gate_dst (N := 3) rfl ?_); refine bx 3 (cs := #[.slice A0_0 l0_0.length c0_0, .slice A0_1 l0_1.length c0_1]) (t := 31) ?_; intro gb298 hg w5 hbox hb; have BK298 := Aside0.mk (hbox); have GW298 := gw hg; have GE298 := gw hg; replace HB := hB hb; clear hb hbox hg) | ((with_reducible refine gate_dst (N := 6) rfl ?_); refine bx 6 (cs := #[.slice none 0 0, .slice none 0 0]) (t := 31) ?_; intro gb299 hg w6 hbox hb; have BK299 := Aside0.mk (hbox); have GW299 := gw hg; have GE299 := gw hg; replace HB := hB hb; have NB298_299 := nl hg BK298; have NB299_298 := ng hg BK298; replace BK298 := kb BK298 hb; clear hb hbox hg))
 (try simp only [Act.put, List.setIfInBounds_toArray, List.set_cons_zero, List.set_cons_succ])
 go_cut [30] (fun v30 wc => ∃ (kq : Nat) (x30_3 : Bool), v30 = .bool x30_3 ∧ Aside0 (impl_CloseAccounts.j0 kq a1 a2 x30_3 l0_0 l0_1 = some (r1, r2, r3)) ∧ Aside0 (kq ≤ k) ∧ Aside0 (wc.heap[gb298]? = some (.cells #[(.slice A0_0 l0_0.length c0_0), (.slice A0_1 l0_1.length c0_1)] 31 (0, 0))) ∧ Aside0 (wc.heap[gb299]? = some (.cells #[(.slice none 0 0), (.slice none 0 0)] 31 (0, 0))) ∧ Aside0 (Below w.heap.size w wc))
 case first =>
  have H := HC4.out
  clear HC4
  try rw [Option.bind_some] at H
  generalize hy300 : (([a2] : List Int) : List Int) = y300 at H
  have Ny300 := Aside0.mk hy300.symm
  clear hy300
  obtain ⟨t303, A7, H⟩ := bdY H
  by_cases c8 : t303 = true
  ·subst c8
   replace H := ifT H
   obtain ⟨c9b0, H⟩ := ifYd H
   (first | rw [c9b0] | (simp only [i64_w, i32_w]; rw [c9b0]) | skip)
   obtain ⟨c10b0, H⟩ := ifYd H
   replace H := Aside0.mk H
   have hnb11 := NB298_299.out
   have hnc11 := NB299_298.out
   obtain ⟨hcz12_0, hcz12_1, hfz12_0, hfz12_1⟩ := z2 BK298
   go_wp2_with (first | ((with_reducible refine gate_dst (N := 19) rfl ?_); refine Kd.R_lit (Kd.int .i64) _ 3 ?hg (N := 19) ?hd (xs := ([a2] : List Int)) (inner := [.int .i64 a2]) (ok := fun _ => True) (okp := fun _ => True) ?hr ?hp (fun _ hk => hk) trivial (Below.refl _ _) (Nat.le_refl _) (by simp) ?_; (case hd => rfl); (case hg => rfl); (case hr => first | (go_simp; done) | (go_simp; rfl)); (case hp => exact (Reps.one (show Kd.M (Kd.int .i64) _ _ _ a2 [.int .i64 a2] from rfl) (Reps.none _ _))); intro v301 w13 ho14 hb hg_ hnew_; clear hg_ hnew_; (first | rw [← Ny300.out] at ho14 | (simp only [Int.reduceToNat] at ho14; rw [← Ny300.out] at ho14)); have HO302 := Aside0.mk (Kd.R_lower ho14 (below_size ZZ295621)); replace BK298 := kb BK298 hb; replace BK299 := kb BK299 hb; replace HB := hB hb; clear hb ho14; obtain ⟨Ao15, co15, eo15⟩ := Kd.R_slice HO302.out; subst eo15) | (refine gc 20 Tryd.func68 #[.agg #[.slice A0_0 l0_0.length c0_0, .slice A0_1 l0_1.length c0_1], .int .i64 a1, .slice Ao15 y300.length co15] ?_; (with_reducible refine (impl_isAccount.calls k _ _ l0_0 _ _ l0_1 a1 _ _ y300 true _ ?side1 ?side2 ?side3 ?side4 ?side5 ?side6 A7.out).mono ?_); (case side1 => exact (rC (Kd.C_below HR0_0.out HB.out))); (case side2 => exact HC0_0.out); (case side3 => exact (rC (Kd.C_below HR0_1.out HB.out))); (case side4 => exact HC0_1.out); (case side5 => exact rC (Kd.R_reads' HO302.out).2.2); (case side6 => exact (Kd.R_reads' HO302.out).2.1); rintro e w16 ⟨rfl, hb⟩; refine ⟨_, rfl, ?_⟩; replace HO302 := Aside0.mk (Kd.R_below (zR HO302) hb); replace BK298 := kb BK298 hb; replace BK299 := kb BK299 hb; replace HB := hB hb; (try clear hb); (try clear hb2); (try clear hk); (try clear hi); obtain ⟨hcz17_0, hcz17_1, hfz17_0, hfz17_1⟩ := z2 BK298; have p304 : 0 ≤ (a1 : Int) := of_decide_eq_true ZZ853400; have q304 : a1 < (l0_0.length : Int) := of_decide_eq_true ZZ853400; obtain ⟨ad304, e304, hx304_0, hx304_1⟩ := at_T48 HR0_0.out a1 p304 q304; cases e304; replace hx304_0 := (HB.out.cell (World.block_lt_of_cell? w _ hx304_0)).trans hx304_0; replace hx304_1 := (HB.out.cell (World.block_lt_of_cell? w _ hx304_1)).trans hx304_1; replace p304 := eq_true p304; replace q304 := eq_true q304))
   go_meet
   case rel => exact ⟨_, ((((rd_T48 l0_0 a1).f1) != 3)), ZZ0ab324, H, kle, ⟨(zB BK298)⟩, ⟨(zB BK299)⟩, ⟨ZZ295621⟩⟩
  replace c8 := Bool.eq_false_iff.mpr c8
  subst c8
  replace H := ifF H
  replace H := Aside0.mk H
  have hnb18 := NB298_299.out
  have hnc18 := NB299_298.out
  obtain ⟨hcz19_0, hcz19_1, hfz19_0, hfz19_1⟩ := z2 BK298
  go_wp2_with (first | ((with_reducible refine gate_dst (N := 19) rfl ?_); refine Kd.R_lit (Kd.int .i64) _ 3 ?hg (N := 19) ?hd (xs := ([a2] : List Int)) (inner := [.int .i64 a2]) (ok := fun _ => True) (okp := fun _ => True) ?hr ?hp (fun _ hk => hk) trivial (Below.refl _ _) (Nat.le_refl _) (by simp) ?_; (case hd => rfl); (case hg => rfl); (case hr => first | (go_simp; done) | (go_simp; rfl)); (case hp => exact (Reps.one (show Kd.M (Kd.int .i64) _ _ _ a2 [.int .i64 a2] from rfl) (Reps.none _ _))); intro v301 w20 ho21 hb hg_ hnew_; clear hg_ hnew_; (first | rw [← Ny300.out] at ho21 | (simp only [Int.reduceToNat] at ho21; rw [← Ny300.out] at ho21)); have HO302 := Aside0.mk (Kd.R_lower ho21 (below_size ZZ295621)); replace BK298 := kb BK298 hb; replace BK299 := kb BK299 hb; replace HB := hB hb; clear hb ho21; obtain ⟨Ao22, co22, eo22⟩ := Kd.R_slice HO302.out; subst eo22) | (refine gc 20 Tryd.func68 #[.agg #[.slice A0_0 l0_0.length c0_0, .slice A0_1 l0_1.length c0_1], .int .i64 a1, .slice Ao22 y300.length co22] ?_; (with_reducible refine (impl_isAccount.calls k _ _ l0_0 _ _ l0_1 a1 _ _ y300 false _ ?side1 ?side2 ?side3 ?side4 ?side5 ?side6 A7.out).mono ?_); (case side1 => exact (rC (Kd.C_below HR0_0.out HB.out))); (case side2 => exact HC0_0.out); (case side3 => exact (rC (Kd.C_below HR0_1.out HB.out))); (case side4 => exact HC0_1.out); (case side5 => exact rC (Kd.R_reads' HO302.out).2.2); (case side6 => exact (Kd.R_reads' HO302.out).2.1); rintro e w23 ⟨rfl, hb⟩; refine ⟨_, rfl, ?_⟩; replace HO302 := Aside0.mk (Kd.R_below (zR HO302) hb); replace BK298 := kb BK298 hb; replace BK299 := kb BK299 hb; replace HB := hB hb; (try clear hb); (try clear hb2); (try clear hk); (try clear hi)))
  go_meet
  case rel => exact ⟨_, (true), ZZ0ab324, H, kle, ⟨(zB BK298)⟩, ⟨(zB BK299)⟩, ⟨ZZ295621⟩⟩
 case rest =>
  clear HC4
  try clear c8
  try clear c9b0
  try clear c10b0
  try clear hcz12_0
  try clear hcz12_1
  try clear hcz17_0
  try clear hcz17_1
  try clear hcz19_0
  try clear hcz19_1
  try clear hfz12_0
  try clear hfz12_1
  try clear hfz17_0
  try clear hfz17_1
  try clear hfz19_0
  try clear hfz19_1
  try clear hx304_0
  try clear hx304_1
  try clear p304
  try clear q304
  obtain ⟨kq, x30_3, rfl, HA, HJ3, BK298, BK299, HB⟩ := hcut
  cases kq with
  | zero => exact absurd HA.out (by simp [impl_CloseAccounts.j0])
  | succ kj3 =>
   have H := HA.out
   clear HA
   simp only [impl_CloseAccounts.j0] at H
   by_cases c24 : x30_3 = true
   ·subst c24
    replace H := ifT H
    simp only [Option.some.injEq, Prod.mk.injEq] at H
    obtain ⟨rfl, rfl, rfl⟩ := H
    have hnb25 := NB299_298.out
    have hnc25 := NB298_299.out
    obtain ⟨hcz26_0, hcz26_1, hfz26_0, hfz26_1⟩ := z2 BK299
    go_wp2
    refine bodyPost_ret (results_ct rfl _ _ gb299 31 #[.slice none 0 0, .slice none 0 0] (0, 0) _ rfl (by refine bd ?_; refine blk_put (cs := #[.slice none 0 0, .slice none 0 0]) ?_ 1 _ rfl; refine bd ?_; refine blk_put (cs := #[.slice none 0 0, .slice none 0 0]) ?_ 0 _ rfl; refine bd ?_; exact BK299.out) Tryd.underlying31 rfl (by kernel_rfl)) rfl ?_
    exact ⟨_, _, ZZab01d2, ZZf4214b, ZZc4c4be, ZZ295621⟩
   replace c24 := Bool.eq_false_iff.mpr c24
   subst c24
   replace H := ifF H
   have HC27 := Aside0.mk H
   clear H
   have hnb28 := NB298_299.out
   have hnc28 := NB299_298.out
   obtain ⟨hcz29_0, hcz29_1, hfz29_0, hfz29_1⟩ := z2 BK298
   go_upto_region 4 with (fail)
   go_cut [47] (fun v47 wc => ∃ (kq : Nat) (x47_26 : Bool), v47 = .bool x47_26 ∧ Aside0 (impl_CloseAccounts.j1 kq a1 a2 x47_26 l0_0 l0_1 = some (r1, r2, r3)) ∧ Aside0 (kq ≤ kj3) ∧ Aside0 (wc.heap[gb298]? = some (.cells #[(.slice A0_0 l0_0.length c0_0), (.slice A0_1 l0_1.length c0_1)] 31 (0, 0))) ∧ Aside0 (wc.heap[gb299]? = some (.cells #[(.slice none 0 0), (.slice none 0 0)] 31 (0, 0))) ∧ Aside0 (Below w.heap.size w wc))
   case first =>
    have H := HC27.out
    clear HC27
    by_cases c30 : (l0_1.length : Int) > 0
    ·rw [if_pos c30] at H
     have c30b0 : decide (0 < (l0_1.length : Int)) = true := decide_eq_true c30
     have c30b1 : decide (0 < l0_1.length) = true := decide_eq_true (by omega)
     clear c30
     (first | rw [c30b0] | (simp only [i64_w, i32_w]; rw [c30b0]) | skip)
     obtain ⟨ji31, hji31⟩ : ∃ j_ : Int, (wrap64 ((l0_1.length : Int) - 1)) = j_ := ⟨_, rfl⟩
     (first | rw [hji31] at H | simp only [hji31] at H)
     have hji31w : (IntKind.i64.wrap ((l0_1.length : Int) - 1)) = ji31 := (i64_w _).trans hji31
     obtain ⟨c32b0, H⟩ := ifYd H
     obtain ⟨c33b0, H⟩ := ifYd H
     replace H := Aside0.mk H
     have hnb34 := NB298_299.out
     have hnc34 := NB299_298.out
     obtain ⟨hcz35_0, hcz35_1, hfz35_0, hfz35_1⟩ := z2 BK298
     have p305 : 0 ≤ ((ji31) : Int) := of_decide_eq_true ZZ853400
     have q305 : (ji31) < (l0_1.length : Int) := of_decide_eq_true ZZ853400
     obtain ⟨ad305, A305_2, c305_2, e305, hx305_0, hx305_1, hx305_2, hl305_2, hi305_2⟩ := at_T63 HR0_1.out (ji31) p305 q305
     cases e305
     replace hx305_0 := (HB.out.cell (World.block_lt_of_cell? w _ hx305_0)).trans hx305_0
     replace hx305_1 := (HB.out.cell (World.block_lt_of_cell? w _ hx305_1)).trans hx305_1
     replace hx305_2 := (HB.out.cell (World.block_lt_of_cell? w _ hx305_2)).trans hx305_2
     have HR305_2 := Aside0.mk hi305_2
     have HC305_2 := Aside0.mk hl305_2
     clear hi305_2 hl305_2
     replace p305 := eq_true p305
     replace q305 := eq_true q305
     go_wp2
     go_meet
     case rel => exact ⟨_, (decide (((rd_T63 l0_1 (ji31)).f0) > a2)), (by first | rfl | (simp; done) | (simp only [← hji31] <;> (first | rfl | simp)) | (simp [*]; done)), H, kle, ⟨(zB BK298)⟩, ⟨(zB BK299)⟩, ⟨ZZ295621⟩⟩
    rw [if_neg c30] at H
    have c30b0 : decide (0 < (l0_1.length : Int)) = false := decide_eq_false c30
    have c30b1 : decide (0 < l0_1.length) = false := decide_eq_false (by omega)
    clear c30
    (first | rw [c30b0] | (simp only [i64_w, i32_w]; rw [c30b0]) | skip)
    replace H := Aside0.mk H
    go_wp2
    go_meet
    case rel => exact ⟨_, (false), ZZ0ab324, H, kle, ⟨(zB BK298)⟩, ⟨(zB BK299)⟩, ⟨ZZ295621⟩⟩
   case rest =>
    clear HC27
    try clear c24
    try clear c30
    try clear c30b0
    try clear c30b1
    try clear c32b0
    try clear c33b0
    try clear hcz26_0
    try clear hcz26_1
    try clear hcz29_0
    try clear hcz29_1
    try clear hcz35_0
    try clear hcz35_1
    try clear hfz26_0
    try clear hfz26_1
    try clear hfz29_0
    try clear hfz29_1
    try clear hfz35_0
    try clear hfz35_1
    try clear hx305_0
    try clear hx305_1
    try clear hx305_2
    try clear p305
    try clear q305
    obtain ⟨kq, x47_26, rfl, HA, HJ26, BK298, BK299, HB⟩ := hcut
    cases kq with
    | zero => exact absurd HA.out (by simp [impl_CloseAccounts.j1])
    | succ kj26 =>
     have H := HA.out
     clear HA
     simp only [impl_CloseAccounts.j1] at H
     by_cases c36 : x47_26 = true
     ·subst c36
      replace H := ifT H
      simp only [Option.some.injEq, Prod.mk.injEq] at H
      obtain ⟨rfl, rfl, rfl⟩ := H
      have hnb37 := NB299_298.out
      have hnc37 := NB298_299.out
      obtain ⟨hcz38_0, hcz38_1, hfz38_0, hfz38_1⟩ := z2 BK299
      go_wp2
      refine bodyPost_ret (results_ct rfl _ _ gb299 31 #[.slice none 0 0, .slice none 0 0] (0, 0) _ rfl (by refine bd ?_; refine blk_put (cs := #[.slice none 0 0, .slice none 0 0]) ?_ 1 _ rfl; refine bd ?_; refine blk_put (cs := #[.slice none 0 0, .slice none 0 0]) ?_ 0 _ rfl; refine bd ?_; exact BK299.out) Tryd.underlying31 rfl (by kernel_rfl)) rfl ?_
      exact ⟨_, _, ZZab01d2, ZZf4214b, ZZc4c4be, ZZ295621⟩
     replace c36 := Bool.eq_false_iff.mpr c36
     subst c36
     replace H := ifF H
     obtain ⟨t306, A39, H⟩ := bdY H
     replace H := Aside0.mk H
     have hnb40 := NB298_299.out
     have hnc40 := NB299_298.out
     obtain ⟨hcz41_0, hcz41_1, hfz41_0, hfz41_1⟩ := z2 BK298
     go_wp2_with (first | (refine gc 51 Tryd.func69 #[.agg #[.slice A0_0 l0_0.length c0_0, .slice A0_1 l0_1.length c0_1], .int .i64 a2] ?_; (with_reducible refine (impl_balancesAt.calls kj26 _ _ l0_0 _ _ l0_1 a2 t306 _ ?side1 ?side2 ?side3 ?side4 A39.out).mono ?_); (case side1 => exact (rC (Kd.C_below HR0_0.out HB.out))); (case side2 => exact HC0_0.out); (case side3 => exact (rC (Kd.C_below HR0_1.out HB.out))); (case side4 => exact HC0_1.out); rintro e w42 ⟨v307, rfl, ho0, hb⟩; refine ⟨_, rfl, ?_⟩; have HO308 := Aside0.mk (Kd.R_lower ho0 (below_size ZZ295621)); replace BK298 := kb BK298 hb; replace BK299 := kb BK299 hb; replace HB := hB hb; (try clear hb); (try clear hb2); (try clear hk); (try clear hi); (try clear ho0); obtain ⟨hcz43_0, hcz43_1, hfz43_0, hfz43_1⟩ := z2 BK298))
     go_loopg [10, 55] kj26 (fun kq v10 v55 w' => ∃ (x9_3 : List Int) (x10_3 : Int) (x55_3 : Int), v10 = .int .i64 x10_3 ∧ v55 = .int .i64 x55_3 ∧ Aside0 (impl_CloseAccounts.l0 kq a1 a2 x9_3 x10_3 l0_0 (l0_0.length : Int) x55_3 l0_0 l0_1 = some (r1, r2, r3)) ∧ Aside0 (kq ≤ kj26) ∧ Aside0 (Kd.R (Kd.int .i64) 3 w' w.heap.size (fun _ => True) v307 x9_3) ∧ Aside0 (w'.heap[gb298]? = some (.cells #[(.slice A0_0 l0_0.length c0_0), (.slice A0_1 l0_1.length c0_1)] 31 (0, 0))) ∧ Aside0 (w'.heap[gb299]? = some (.cells #[(.slice none 0 0), (.slice none 0 0)] 31 (0, 0))) ∧ Aside0 (Below w.heap.size w w'))
     case atStart => exact ⟨(t306), (0), (0), ZZ0ab324, ZZ0ab324, H, ⟨Nat.le_refl _⟩, ⟨(zR HO308)⟩, ⟨(zB BK298)⟩, ⟨(zB BK299)⟩, ⟨ZZ295621⟩⟩
     case round =>
      clear H
      try clear c36
      try clear hcz38_0
      try clear hcz38_1
      try clear hcz41_0
      try clear hcz41_1
      try clear hcz43_0
      try clear hcz43_1
      try clear hfz38_0
      try clear hfz38_1
      try clear hfz41_0
      try clear hfz41_1
      try clear hfz43_0
      try clear hfz43_1
      obtain ⟨x9_3, x10_3, x55_3, rfl, rfl, HA, HK3, HO_9, BK298, BK299, HB⟩ := hrel
      cases gk with
      | zero => exact absurd HA.out (by simp [impl_CloseAccounts.l0])
      | succ k3 =>
       have H := HA.out
       clear HA
       simp only [impl_CloseAccounts.l0] at H
       by_cases c44 : x55_3 < (l0_0.length : Int)
       ·rw [if_pos c44] at H
        have c44b0 := decide_eq_true c44
        clear c44
        obtain ⟨c45b0, H⟩ := ifYd H
        obtain ⟨c46b0, H⟩ := ifYd H
        obtain ⟨t311, A47, H⟩ := bdY H
        have p309 : 0 ≤ (x55_3 : Int) := of_decide_eq_true ZZ853400
        have q309 : x55_3 < (l0_0.length : Int) := of_decide_eq_true ZZ853400
        obtain ⟨ad309, e309, hx309_0, hx309_1⟩ := at_T48 HR0_0.out x55_3 p309 q309
        cases e309
        replace hx309_0 := (HB.out.cell (World.block_lt_of_cell? w _ hx309_0)).trans hx309_0
        replace hx309_1 := (HB.out.cell (World.block_lt_of_cell? w _ hx309_1)).trans hx309_1
        replace p309 := eq_true p309
        replace q309 := eq_true q309
        by_cases c48 : t311 = true
        ·subst c48
         replace H := ifT H
         obtain ⟨c49b0, H⟩ := ifYd H
         replace H := Aside0.mk H
         go_wp2_with (first | ((with_reducible refine gate_dst (N := 12) rfl ?_); refine bx 12 (cs := #[.string (⟨#[]⟩ : ByteArray), .int .i64 0]) (t := 48) ?_; intro gb310 hg w50 hbox hb; replace HO_9 := Aside0.mk (Kd.R_below (zR HO_9) hb); have BK310 := Aside0.mk (hbox); have GW310 := gw hg; have GE310 := gw hg; replace HB := hB hb; have NB298_310 := nl hg BK298; have NB310_298 := ng hg BK298; replace BK298 := kb BK298 hb; have NB299_310 := nl hg BK299; have NB310_299 := ng hg BK299; replace BK299 := kb BK299 hb; clear hb hbox hg; have hnb51 := NB310_298.out; have hnc51 := NB298_310.out; have hnb52 := NB310_299.out; have hnc52 := NB299_310.out; obtain ⟨hcz53_0, hcz53_1, hfz53_0, hfz53_1⟩ := z2 BK310) | (refine gc 61 Tryd.func72 #[.agg #[.string ((rd_T48 l0_0 x55_3).f0), .int .i64 ((rd_T48 l0_0 x55_3).f1)]] ?_; (with_reducible refine (impl_isResult.calls ((rd_T48 l0_0 x55_3).f0) ((rd_T48 l0_0 x55_3).f1) true _ A47.out).mono ?_); rintro e w54 ⟨rfl, hb⟩; refine ⟨_, rfl, ?_⟩; replace HO_9 := Aside0.mk (Kd.R_below (by refine bR ?_; exact (Kd.R_mono (Kd.R_far (p := ⟨gb310, 1, none⟩) (Kd.R_far (p := ⟨gb310, 0, none⟩) (Kd.R_types HO_9.out BK310.out (by decide)) (fun _ hk => hk.2) (.string ((rd_T48 l0_0 x55_3).f0))) (fun _ hk => hk.2) (.int .i64 ((rd_T48 l0_0 x55_3).f1))) (fun _ h_ => h_.1))) hb); replace BK298 := Aside0.mk (blk_below (g := gb298) (o := .cells #[.slice (some ad309) l0_0.length c0_0, .slice A0_1 l0_1.length c0_1] 31 (0, 0)) (by refine bd ?_; refine blk_far ?_ NB298_310.out _; refine bd ?_; refine blk_far ?_ NB298_310.out _; refine bd ?_; exact BK298.out) hb); replace BK299 := Aside0.mk (blk_below (g := gb299) (o := .cells #[.slice none 0 0, .slice none 0 0] 31 (0, 0)) (by refine bd ?_; refine blk_far ?_ NB299_310.out _; refine bd ?_; refine blk_far ?_ NB299_310.out _; refine bd ?_; exact BK299.out) hb); replace BK310 := Aside0.mk (blk_below (g := gb310) (o := .cells #[.string ((rd_T48 l0_0 x55_3).f0), .int .i64 ((rd_T48 l0_0 x55_3).f1)] 48 (0, 0)) (by refine bd ?_; refine blk_put (cs := #[.string ((rd_T48 l0_0 x55_3).f0), .int .i64 0]) ?_ 1 _ rfl; refine bd ?_; refine blk_put (cs := #[.string (⟨#[]⟩ : ByteArray), .int .i64 0]) ?_ 0 _ rfl; refine bd ?_; exact BK310.out) hb); replace HB := hB hb; (try clear hb); (try clear hb2); (try clear hk); (try clear hi); obtain ⟨Ao55, co55, eo55⟩ := Kd.R_slice HO_9.out; subst eo55; have p312 : 0 ≤ (x55_3 : Int) := of_decide_eq_true ZZ853400; have q312 : x55_3 < (x9_3.length : Int) := of_decide_eq_true ZZ853400; obtain ⟨ad312, e312, hx312_0⟩ := Kd.at_int (Kd.R_reads' HO_9.out).2.2 x55_3 p312 q312; cases e312; replace p312 := eq_true p312; replace q312 := eq_true q312))
         go_roundg k3
         case measure => have := HJ3.out; have := HJ26.out; have := HK3.out; omega
         case rel => exact ⟨(x9_3), (wrap64 (x10_3 + (rd x9_3 x55_3))), (wrap64 (x55_3 + 1)), ZZ0ab324, ZZ0ab324, ‹_›, kle, ⟨(zR HO_9)⟩, ⟨(zB BK298)⟩, ⟨(zB BK299)⟩, ⟨ZZ295621⟩⟩
        replace c48 := Bool.eq_false_iff.mpr c48
        subst c48
        replace H := ifF H
        obtain ⟨c56b0, H⟩ := ifYd H
        try rw [Option.bind_some] at H
        generalize hy313 : (x9_3.set (x55_3 : Int).toNat 0 : List Int) = y313 at H
        have Ny313 := Aside0.mk hy313.symm
        clear hy313
        replace H := Aside0.mk H
        go_wp2_with (first | ((with_reducible refine gate_dst (N := 12) rfl ?_); refine bx 12 (cs := #[.string (⟨#[]⟩ : ByteArray), .int .i64 0]) (t := 48) ?_; intro gb310 hg w58 hbox hb; replace HO_9 := Aside0.mk (Kd.R_below (zR HO_9) hb); have BK310 := Aside0.mk (hbox); have GW310 := gw hg; have GE310 := gw hg; replace HB := hB hb; have NB298_310 := nl hg BK298; have NB310_298 := ng hg BK298; replace BK298 := kb BK298 hb; have NB299_310 := nl hg BK299; have NB310_299 := ng hg BK299; replace BK299 := kb BK299 hb; clear hb hbox hg; have hnb59 := NB310_298.out; have hnc59 := NB298_310.out; have hnb60 := NB310_299.out; have hnc60 := NB299_310.out; obtain ⟨hcz61_0, hcz61_1, hfz61_0, hfz61_1⟩ := z2 BK310) | (refine gc 61 Tryd.func72 #[.agg #[.string ((rd_T48 l0_0 x55_3).f0), .int .i64 ((rd_T48 l0_0 x55_3).f1)]] ?_; (with_reducible refine (impl_isResult.calls ((rd_T48 l0_0 x55_3).f0) ((rd_T48 l0_0 x55_3).f1) false _ A47.out).mono ?_); rintro e w62 ⟨rfl, hb⟩; refine ⟨_, rfl, ?_⟩; replace HO_9 := Aside0.mk (Kd.R_below (by refine bR ?_; exact (Kd.R_mono (Kd.R_far (p := ⟨gb310, 1, none⟩) (Kd.R_far (p := ⟨gb310, 0, none⟩) (Kd.R_types HO_9.out BK310.out (by decide)) (fun _ hk => hk.2) (.string ((rd_T48 l0_0 x55_3).f0))) (fun _ hk => hk.2) (.int .i64 ((rd_T48 l0_0 x55_3).f1))) (fun _ h_ => h_.1))) hb); replace BK298 := Aside0.mk (blk_below (g := gb298) (o := .cells #[.slice (some ad309) l0_0.length c0_0, .slice A0_1 l0_1.length c0_1] 31 (0, 0)) (by refine bd ?_; refine blk_far ?_ NB298_310.out _; refine bd ?_; refine blk_far ?_ NB298_310.out _; refine bd ?_; exact BK298.out) hb); replace BK299 := Aside0.mk (blk_below (g := gb299) (o := .cells #[.slice none 0 0, .slice none 0 0] 31 (0, 0)) (by refine bd ?_; refine blk_far ?_ NB299_310.out _; refine bd ?_; refine blk_far ?_ NB299_310.out _; refine bd ?_; exact BK299.out) hb); replace BK310 := Aside0.mk (blk_below (g := gb310) (o := .cells #[.string ((rd_T48 l0_0 x55_3).f0), .int .i64 ((rd_T48 l0_0 x55_3).f1)] 48 (0, 0)) (by refine bd ?_; refine blk_put (cs := #[.string ((rd_T48 l0_0 x55_3).f0), .int .i64 0]) ?_ 1 _ rfl; refine bd ?_; refine blk_put (cs := #[.string (⟨#[]⟩ : ByteArray), .int .i64 0]) ?_ 0 _ rfl; refine bd ?_; exact BK310.out) hb); replace HB := hB hb; (try clear hb); (try clear hb2); (try clear hk); (try clear hi); have p57 : 0 ≤ (x55_3 : Int) := of_decide_eq_true ZZ853400; have q57 : (x55_3 : Int) < ((x9_3.length : Int) : Int) := of_decide_eq_true ZZ853400; obtain ⟨go57, co57, eo57, gb57, gl57, cl57, HG57⟩ := Kd.R_form HO_9.out (by omega); (first | cases eo57 | (injection eo57 with ea_ en_ ec_; (first | subst ea_ | (injection ea_ with ea_; subst ea_)); subst ec_; clear en_)); have GB57 := Aside0.mk gb57; have GG57 := Aside0.mk HG57; clear gb57 gl57 HG57; obtain ⟨hx57_0, hf57_0⟩ := Kd.R_celln 0 HO_9.out (x55_3 : Int) p57 q57; replace p57 := eq_true p57; replace q57 := eq_true q57; obtain ⟨hy63_, hz63_⟩ := Kd.R_celln 0 HO_9.out (x55_3 : Int) (of_decide_eq_true ZZ853400) (of_decide_eq_true ZZ853400); have HP63 := Kd.R_putg HO_9.out (x55_3 : Int) 0) | ((with_reducible refine gate_store (t := 3) (p := 65) rfl ?_); refine store_event (t := 3) (p := 65) (v := ?vo_w64) (w1 := (w62.setCell ⟨go57, (x55_3 : Int).toNat, none⟩ (.int .i64 0))) ?hg ?ho ?hn ?hr ?_; (case ho => rfl); (case hg => rfl); (case hn => rfl); (case hr => first | (go_simp; done) | (go_simp; rfl)); intro w64 hw; have hg : w62.grownBy w64 (some go57) := (by rw [hw]; exact HP63.2); have hp_ : Kd.R (Kd.int .i64) 3 w64 w.heap.size (fun _ => True) (.slice (some ⟨go57, 0, none⟩) x9_3.length co57) y313 := (by rw [hw, Ny313.out]; exact HP63.1); clear HP63; replace BK298 := Aside0.mk (blk_grown (zB BK298) hg (Kd.R_ne HO_9.out BK298.out (by decide))); replace BK299 := Aside0.mk (blk_grown (zB BK299) hg (Kd.R_ne HO_9.out BK299.out (by decide))); replace BK310 := Aside0.mk (blk_grown (zB BK310) hg (Kd.R_ne HO_9.out BK310.out (by decide))); replace HO_9 := Aside0.mk (hp_); replace HB := Aside0.mk ((by rw [hw]; exact below_set (HB.out) GB57.out : Below w.heap.size w w64)); clear hg hw hp_; have p314 : 0 ≤ (x55_3 : Int) := of_decide_eq_true ZZ853400; have q314 : x55_3 < (y313.length : Int) := (by have h_ : (x55_3 : Int) < ((x9_3.length : Int) : Int) := of_decide_eq_true ZZ853400; first | (have e_ := (Kd.R_reads' HO_9.out).1; omega) | simpa only [Ny313.out, List.length_set] using h_); have ql314 : ((x55_3 : Int) < ((x9_3.length : Int) : Int)) = True := eq_true (of_decide_eq_true ZZ853400); obtain ⟨ad314, e314, hx314_0⟩ := Kd.at_int (Kd.R_reads' HO_9.out).2.2 x55_3 p314 q314; obtain rfl : (⟨go57, 0, none⟩ : Addr) = ad314 := (by injection e314); (first | simp only [add_plain] at hx314_0 | simp only [add_at] at hx314_0 | simp only [Addr.add, Nat.zero_add] at hx314_0 | skip); replace p314 := eq_true p314; replace q314 := eq_true q314))
        go_roundg k3
        case measure => have := HJ3.out; have := HJ26.out; have := HK3.out; omega
        case rel => exact ⟨(y313), (wrap64 (x10_3 + (rd y313 x55_3))), (wrap64 (x55_3 + 1)), ZZ0ab324, ZZ0ab324, ‹_›, kle, ⟨(zR HO_9)⟩, ⟨(zB BK298)⟩, ⟨(zB BK299)⟩, ⟨ZZ295621⟩⟩
       rw [if_neg c44] at H
       have c44b0 := decide_eq_false c44
       clear c44
       obtain ⟨c65b0, H⟩ := ifYd H
       obtain ⟨c66b0, H⟩ := ifYd H
       try rw [Option.bind_some] at H
       generalize hy315 : (x9_3.set (a1 : Int).toNat (wrap64 (-x10_3)) : List Int) = y315 at H
       have Ny315 := Aside0.mk hy315.symm
       clear hy315
       replace H := Aside0.mk H
       have p67 : 0 ≤ (a1 : Int) := of_decide_eq_true ZZ853400
       have q67 : (a1 : Int) < ((x9_3.length : Int) : Int) := of_decide_eq_true ZZ853400
       obtain ⟨go67, co67, eo67, gb67, gl67, cl67, HG67⟩ := Kd.R_form HO_9.out (by omega)
       (first | cases eo67 | (injection eo67 with ea_ en_ ec_; (first | subst ea_ | (injection ea_ with ea_; subst ea_)); subst ec_; clear en_))
       have GB67 := Aside0.mk gb67
       have GG67 := Aside0.mk HG67
       clear gb67 gl67 HG67
       obtain ⟨hx67_0, hf67_0⟩ := Kd.R_celln 0 HO_9.out (a1 : Int) p67 q67
       replace p67 := eq_true p67
       replace q67 := eq_true q67
       have HP68 := Kd.R_putg HO_9.out (a1 : Int) (wrap64 (-x10_3))
       go_wp2_with (first | ((with_reducible refine gate_store (t := 3) (p := 77) rfl ?_); refine store_event (t := 3) (p := 77) (v := ?vo_w69) (w1 := (wr.setCell ⟨go67, (a1 : Int).toNat, none⟩ (.int .i64 (wrap64 (-x10_3))))) ?hg ?ho ?hn ?hr ?_; (case ho => rfl); (case hg => rfl); (case hn => rfl); (case hr => first | (go_simp; done) | (go_simp; rfl)); intro w69 hw; have hg : wr.grownBy w69 (some go67) := (by rw [hw]; exact HP68.2); have hp_ : Kd.R (Kd.int .i64) 3 w69 w.heap.size (fun _ => True) (.slice (some ⟨go67, 0, none⟩) x9_3.length co67) y315 := (by rw [hw, Ny315.out]; exact HP68.1); clear HP68; replace BK298 := Aside0.mk (blk_grown (zB BK298) hg (Kd.R_ne HO_9.out BK298.out (by decide))); replace BK299 := Aside0.mk (blk_grown (zB BK299) hg (Kd.R_ne HO_9.out BK299.out (by decide))); replace HO_9 := Aside0.mk (hp_); replace HB := Aside0.mk ((by rw [hw]; exact below_set (HB.out) GB67.out : Below w.heap.size w w69)); clear hg hw hp_) | ((with_reducible refine gate_dst (N := 13) rfl ?_); refine bx 13 (cs := #[.int .i64 0, .string (⟨#[]⟩ : ByteArray), .slice none 0 0]) (t := 63) ?_; intro gb316 hg w70 hbox hb; replace HO_9 := Aside0.mk (Kd.R_below (zR HO_9) hb); have BK316 := Aside0.mk (hbox); have GW316 := gw hg; have GE316 := gw hg; replace HB := hB hb; have NB298_316 := nl hg BK298; have NB316_298 := ng hg BK298; replace BK298 := kb BK298 hb; have NB299_316 := nl hg BK299; have NB316_299 := ng hg BK299; replace BK299 := kb BK299 hb; clear hb hbox hg; have hnb71 := NB316_298.out; have hnc71 := NB298_316.out; have hnb72 := NB316_299.out; have hnc72 := NB299_316.out; obtain ⟨hcz73_0, hcz73_1, hcz73_2, hfz73_0, hfz73_1, hfz73_2⟩ := z3 BK316))
       go_loopg [82] k3 (fun kq v82 w' => ∃ (x82_4 : Int) (x317002_4 : List (S70)) (u317002 : Value), v82 = .int .i64 x82_4 ∧ Aside0 (impl_CloseAccounts.l1 kq y315 (x9_3.length : Int) x82_4 l0_0 l0_1 a2 (⟨#[99, 108, 111, 115, 105, 110, 103]⟩ : ByteArray) x317002_4 = some (r1, r2, r3)) ∧ Aside0 (kq ≤ k3) ∧ Aside0 (Kd.R (Kd.int .i64) 3 w' w.heap.size (fun _ => True) (.slice (some ⟨go67, 0, none⟩) x9_3.length co67) y315) ∧ Aside0 (Kd.R k70 70 w' w.heap.size (fun _ => True) u317002 x317002_4) ∧ Aside0 (w'.heap[gb298]? = some (.cells #[(.slice A0_0 l0_0.length c0_0), (.slice A0_1 l0_1.length c0_1)] 31 (0, 0))) ∧ Aside0 (w'.heap[gb299]? = some (.cells #[(.slice none 0 0), (.slice none 0 0)] 31 (0, 0))) ∧ Aside0 (w'.heap[gb316]? = some (.cells #[.int .i64 a2, .string (⟨#[99, 108, 111, 115, 105, 110, 103]⟩ : ByteArray), u317002] 63 (0, 0))) ∧ Aside0 (Below w.heap.size w w'))
       case atStart => exact ⟨(0), (([] : List (S70))), (.slice none 0 0), ZZ0ab324, H, ⟨Nat.le_refl _⟩, ⟨(by refine bR ?_; exact Kd.R_mono (Kd.R_far (p := ⟨gb316, 2, none⟩) (Kd.R_far (p := ⟨gb316, 1, none⟩) (Kd.R_far (p := ⟨gb316, 0, none⟩) (Kd.R_types HO_9.out BK316.out (by decide)) (fun _ hk => hk.2) (.int .i64 a2)) (fun _ hk => hk.2) (.string (⟨#[99, 108, 111, 115, 105, 110, 103]⟩ : ByteArray))) (fun _ hk => hk.2) (.slice none 0 0)) (fun _ hk => trivial))⟩, ⟨ZZf4214b⟩, ⟨(by refine bd ?_; refine blk_far ?_ NB298_316.out _; refine bd ?_; refine blk_far ?_ NB298_316.out _; refine bd ?_; refine blk_far ?_ NB298_316.out _; refine bd ?_; exact BK298.out)⟩, ⟨(by refine bd ?_; refine blk_far ?_ NB299_316.out _; refine bd ?_; refine blk_far ?_ NB299_316.out _; refine bd ?_; refine blk_far ?_ NB299_316.out _; refine bd ?_; exact BK299.out)⟩, ⟨(by refine bd ?_; refine blk_put (cs := #[.int .i64 a2, .string (⟨#[99, 108, 111, 115, 105, 110, 103]⟩ : ByteArray), .slice none 0 0]) ?_ 2 _ rfl; refine bd ?_; refine blk_put (cs := #[.int .i64 a2, .string (⟨#[]⟩ : ByteArray), .slice none 0 0]) ?_ 1 _ rfl; refine bd ?_; refine blk_put (cs := #[.int .i64 0, .string (⟨#[]⟩ : ByteArray), .slice none 0 0]) ?_ 0 _ rfl; refine bd ?_; exact BK316.out)⟩, ⟨ZZ295621⟩⟩
       case round =>
        clear H
        try clear c44b0
        try clear c45b0
        try clear c46b0
        try clear c48
        try clear c49b0
        try clear c56b0
        try clear p57
        try clear q57
        try clear c65b0
        try clear c66b0
        try clear p67
        try clear q67
        try clear hcz53_0
        try clear hcz53_1
        try clear hcz61_0
        try clear hcz61_1
        try clear hcz73_0
        try clear hcz73_1
        try clear hcz73_2
        try clear hfz53_0
        try clear hfz53_1
        try clear hfz61_0
        try clear hfz61_1
        try clear hfz73_0
        try clear hfz73_1
        try clear hfz73_2
        try clear hx309_0
        try clear hx309_1
        try clear hx312_0
        try clear hx314_0
        try clear hx57_0
        try clear hx67_0
        try clear p309
        try clear p312
        try clear p314
        try clear q309
        try clear q312
        try clear q314
        obtain ⟨x82_4, x317002_4, u317002, rfl, HA, HK4, HO_80, HO_317002, BK298, BK299, BK316, HB⟩ := hrel
        have hl80_4 := (Kd.R_reads' HO_80.out).1
        rw [hl80_4] at HO_80
        (try simp only [hl80_4] at BK298 BK299 BK316 HO_317002 ⊢)
        cases gk with
        | zero => exact absurd HA.out (by simp [impl_CloseAccounts.l1])
        | succ k4 =>
         have H := HA.out
         clear HA
         simp only [impl_CloseAccounts.l1] at H
         by_cases c74 : x82_4 < (x9_3.length : Int)
         ·rw [if_pos c74] at H
          have c74b0 := decide_eq_true c74
          clear c74
          obtain ⟨c75b0, H⟩ := ifYd H
          obtain ⟨c76b0, H⟩ := ifYd H
          by_cases c77 : (rd y315 x82_4) = 0
          ·rw [if_pos c77] at H
           have c77b0 := beq_iff_eq.mpr c77
           have c77b1 := bne_eq_false_iff_eq.mpr c77
           clear c77
           replace H := Aside0.mk H
           have p317 : 0 ≤ (x82_4 : Int) := of_decide_eq_true ZZ853400
           have q317 : x82_4 < (y315.length : Int) := of_decide_eq_true ZZ853400
           obtain ⟨ad317, e317, hx317_0⟩ := Kd.at_int (Kd.R_reads' HO_80.out).2.2 x82_4 p317 q317
           obtain rfl : (⟨go67, 0, none⟩ : Addr) = ad317 := (by injection e317)
           (first | simp only [add_plain] at hx317_0 | simp only [add_at] at hx317_0 | simp only [Addr.add, Nat.zero_add] at hx317_0 | skip)
           replace p317 := eq_true p317
           replace q317 := eq_true q317
           go_wp2
           (try simp only [← hl80_4])
           go_roundg k4
           case measure => have := HJ3.out; have := HJ26.out; have := HK3.out; have := HK4.out; omega
           case rel => exact ⟨(wrap64 (x82_4 + 1)), (x317002_4), (u317002), ZZ0ab324, ‹_›, kle, ⟨(by (try simp only [hl80_4]); refine bR ?_; exact HO_80.out)⟩, ⟨(by (try simp only [hl80_4]); refine bR ?_; exact HO_317002.out)⟩, ⟨(by (try simp only [hl80_4]); refine bd ?_; exact BK298.out)⟩, ⟨(by (try simp only [hl80_4]); refine bd ?_; exact BK299.out)⟩, ⟨(by (try simp only [hl80_4]); refine bd ?_; exact BK316.out)⟩, ⟨ZZ295621⟩⟩
          rw [if_neg c77] at H
          have c77b0 := beq_eq_false_iff_ne.mpr c77
          have c77b1 := bne_iff_ne.mpr c77
          obtain ⟨c78, H⟩ := ifY H
          have LMc78 := Aside0.mk c78
          clear c78
          try rw [Option.bind_some] at H
          generalize hy318 : (x317002_4 ++ [(⟨x82_4, wrap64 (-(rd y315 x82_4))⟩ : S70)] : List (S70)) = y318 at H
          have Ny318 := Aside0.mk hy318.symm
          clear hy318
          replace H := Aside0.mk H
          have p317 : 0 ≤ (x82_4 : Int) := of_decide_eq_true ZZ853400
          have q317 : x82_4 < (y315.length : Int) := of_decide_eq_true ZZ853400
          obtain ⟨ad317, e317, hx317_0⟩ := Kd.at_int (Kd.R_reads' HO_80.out).2.2 x82_4 p317 q317
          obtain rfl : (⟨go67, 0, none⟩ : Addr) = ad317 := (by injection e317)
          (first | simp only [add_plain] at hx317_0 | simp only [add_at] at hx317_0 | simp only [Addr.add, Nat.zero_add] at hx317_0 | skip)
          replace p317 := eq_true p317
          replace q317 := eq_true q317
          have hnb79 := NB316_298.out
          have hnc79 := NB298_316.out
          have hnb80 := NB316_299.out
          have hnc80 := NB299_316.out
          obtain ⟨hcz81_0, hcz81_1, hcz81_2, hfz81_0, hfz81_1, hfz81_2⟩ := z3 BK316
          go_wp2_with (first | ((with_reducible refine gate_builtin (b := .append) (xs := #[.tmp 90, .tmp 95]) rfl ?_); at_builtin; refine Kd.R_append k70 (w0 := w) w.heap.size rfl (.tmp 90) (.tmp 95) 61 70 (.agg #[(.int .i64 0), (.int .i64 0)]) 16 rfl Tryd.underlying61 info70 rfl (by decide) (by omega) u317002 x317002_4 (⟨x82_4, wrap64 (-(rd y315 x82_4))⟩ : S70) [.int .i64 x82_4, .int .i64 (wrap64 (-(rd y315 x82_4)))] (fun _ => True) (fun _ => False) rfl rfl ?aP (fun _ hk => hk.elim) ?aF ?aO ?aB ?aS ?aL ?_; (case aP => exact k70_mkM _ _ _ (⟨x82_4, wrap64 (-(rd y315 x82_4))⟩ : S70)); (case aB => exact ZZ295621); (case aF => exact (fun _ _ => trivial)); (case aO => exact (zR HO_317002)); (case aS => exact (below_size ZZ295621)); (case aL => have := LMc78.out; omega); intro v319 w82 ho hb hg hat; rw [← Ny318.out] at ho; replace HO_80 := Aside0.mk (Kd.R_over' (zR HO_80) (Kd.R_typed (zR HO_317002)) (by decide) hg); replace BK298 := Aside0.mk (blk_grown (zB BK298) hg (Kd.R_ne HO_317002.out BK298.out (by decide))); replace BK299 := Aside0.mk (blk_grown (zB BK299) hg (Kd.R_ne HO_317002.out BK299.out (by decide))); replace BK316 := Aside0.mk (blk_grown (zB BK316) hg (Kd.R_ne HO_317002.out BK316.out (by decide))); replace HB := Aside0.mk (hb); have HO320 := Aside0.mk (ho); clear HO_317002; clear ho hb hg hat; obtain ⟨Ao83, co83, eo83⟩ := Kd.R_slice HO320.out; subst eo83; obtain ⟨hcz84_0, hcz84_1, hcz84_2, hfz84_0, hfz84_1, hfz84_2⟩ := z3 BK316))
          (try simp only [← hl80_4])
          go_roundg k4
          case measure => have := HJ3.out; have := HJ26.out; have := HK3.out; have := HK4.out; omega
          case rel => exact ⟨(wrap64 (x82_4 + 1)), (y318), (.slice Ao83 y318.length co83), ZZ0ab324, ‹_›, kle, ⟨(by (try simp only [hl80_4]); refine bR ?_; exact Kd.R_mono (Kd.R_far (p := ⟨gb316, 2, none⟩) (Kd.R_types HO_80.out BK316.out (by decide)) (fun _ hk => hk.2) (.slice Ao83 y318.length co83)) (fun _ hk => trivial))⟩, ⟨(by (try simp only [hl80_4]); refine bR ?_; exact Kd.R_mono (Kd.R_far (p := ⟨gb316, 2, none⟩) (Kd.R_types HO320.out BK316.out (by decide)) (fun _ hk => hk.2) (.slice Ao83 y318.length co83)) (fun _ hk => trivial))⟩, ⟨(by (try simp only [hl80_4]); refine bd ?_; refine blk_far ?_ NB298_316.out _; refine bd ?_; exact BK298.out)⟩, ⟨(by (try simp only [hl80_4]); refine bd ?_; refine blk_far ?_ NB299_316.out _; refine bd ?_; exact BK299.out)⟩, ⟨(by (try simp only [hl80_4]); refine bd ?_; refine blk_put (cs := #[.int .i64 a2, .string (⟨#[99, 108, 111, 115, 105, 110, 103]⟩ : ByteArray), u317002]) ?_ 2 _ rfl; refine bd ?_; exact BK316.out)⟩, ⟨ZZ295621⟩⟩
         rw [if_neg c74] at H
         have c74b0 := decide_eq_false c74
         (try simp only [hl80_4] at c74b0)
         clear c74
         by_cases c85 : (x317002_4.length : Int) = 0
         ·rw [if_pos c85] at H
          have c85b0 := beq_iff_eq.mpr c85
          have c85b1 := bne_eq_false_iff_eq.mpr c85
          clear c85
          obtain ⟨⟨t321, t324⟩, A86, H⟩ := bdY H
          try dsimp only at H
          simp only [Option.some.injEq, Prod.mk.injEq] at H
          obtain ⟨rfl, rfl, rfl⟩ := H
          have hnb87 := NB316_298.out
          have hnc87 := NB298_316.out
          have hnb88 := NB316_299.out
          have hnc88 := NB299_316.out
          obtain ⟨hcz89_0, hcz89_1, hcz89_2, hfz89_0, hfz89_1, hfz89_2⟩ := z3 BK316
          obtain ⟨Ao90, co90, eo90⟩ := Kd.R_slice HO_317002.out
          subst eo90
          have hnb91 := NB298_299.out
          have hnc91 := NB299_298.out
          obtain ⟨hcz92_0, hcz92_1, hfz92_0, hfz92_1⟩ := z2 BK298
          go_wp2_with (first | (refine gc 104 Tryd.func76 #[.agg #[.slice A0_0 l0_0.length c0_0, .slice A0_1 l0_1.length c0_1]] ?_; (with_reducible refine (impl_ownLedger.calls k4 _ _ l0_0 _ _ l0_1 t321 t324 _ ?side1 ?side2 ?side3 ?side4 A86.out).mono ?_); (case side1 => exact (rC (Kd.C_below HR0_0.out HB.out))); (case side2 => exact HC0_0.out); (case side3 => exact (rC (Kd.C_below HR0_1.out HB.out))); (case side4 => exact HC0_1.out); rintro e w93 ⟨v322, v325, rfl, ho0, ho1, hb⟩; refine ⟨_, rfl, ?_⟩; replace HO_80 := Aside0.mk (Kd.R_below (zR HO_80) hb); have HO323 := Aside0.mk (Kd.R_lower ho0 (below_size ZZ295621)); have HO326 := Aside0.mk (Kd.S_lower (Kd.S_newB (Kd.S_new' ho1 (Kd.R_lt (zR HO_317002))) (zB BK316)) (below_size ZZ295621)); replace HO_317002 := Aside0.mk (Kd.R_below (zR HO_317002) hb); replace BK298 := kb BK298 hb; replace BK299 := kb BK299 hb; replace BK316 := kb BK316 hb; replace HB := hB hb; (try clear hb); (try clear hb2); (try clear hk); (try clear hi); (try clear ho0); (try clear ho1); obtain ⟨Ao94, co94, eo94⟩ := Kd.R_slice HO323.out; subst eo94; obtain ⟨hcz95_0, hcz95_1, hfz95_0, hfz95_1⟩ := z2 BK299; obtain ⟨Ao96, co96, eo96⟩ := Kd.S_slice HO326.out; subst eo96))
          refine bodyPost_ret (results_ct rfl _ _ gb299 31 #[.slice Ao94 t321.length co94, .slice Ao96 t324.length co96] (0, 0) _ rfl (by refine bd ?_; refine blk_put (cs := #[.slice Ao94 t321.length co94, .slice none 0 0]) ?_ 1 _ rfl; refine bd ?_; refine blk_put (cs := #[.slice none 0 0, .slice none 0 0]) ?_ 0 _ rfl; refine bd ?_; exact BK299.out) Tryd.underlying31 rfl (by kernel_rfl)) rfl ?_
          exact ⟨_, _, ZZab01d2, (by refine bR ?_; exact Kd.R_mono (Kd.R_far (p := ⟨gb299, 1, none⟩) (Kd.R_far (p := ⟨gb299, 0, none⟩) (Kd.R_types HO323.out BK299.out (by decide)) (fun _ hk => hk.2) (.slice Ao94 t321.length co94)) (fun _ hk => hk.2) (.slice Ao96 t324.length co96)) (fun _ hk => trivial)), (by refine bS ?_; exact Kd.S_mono (Kd.S_far (p := ⟨gb299, 1, none⟩) (Kd.S_far (p := ⟨gb299, 0, none⟩) (Kd.S_types HO326.out BK299.out (by decide)) (fun _ hk => hk.2) (.slice Ao94 t321.length co94)) (fun _ hk => hk.2) (.slice Ao96 t324.length co96)) (fun _ hk => trivial)), ZZ295621⟩
         rw [if_neg c85] at H
         have c85b0 := beq_eq_false_iff_ne.mpr c85
         have c85b1 := bne_iff_ne.mpr c85
         have c85b2 : ¬ (x317002_4 = []) := fun h_ => c85 (by rw [h_]; rfl)
         obtain ⟨⟨t327, t330, t333⟩, A97, H⟩ := bdY H
         try dsimp only at H
         simp only [Option.some.injEq, Prod.mk.injEq] at H
         obtain ⟨rfl, rfl, rfl⟩ := H
         have hnb98 := NB316_298.out
         have hnc98 := NB298_316.out
         have hnb99 := NB316_299.out
         have hnc99 := NB299_316.out
         obtain ⟨hcz100_0, hcz100_1, hcz100_2, hfz100_0, hfz100_1, hfz100_2⟩ := z3 BK316
         obtain ⟨Ao101, co101, eo101⟩ := Kd.R_slice HO_317002.out
         subst eo101
         have hnb102 := NB298_299.out
         have hnc102 := NB299_298.out
         obtain ⟨hcz103_0, hcz103_1, hfz103_0, hfz103_1⟩ := z2 BK298
         go_wp2_with (first | (refine gc 107 Tryd.func38 #[.agg #[.slice A0_0 l0_0.length c0_0, .slice A0_1 l0_1.length c0_1], .agg #[.int .i64 a2, .string (⟨#[99, 108, 111, 115, 105, 110, 103]⟩ : ByteArray), .slice Ao101 x317002_4.length co101]] ?_; (with_reducible refine (impl_PostEntry.calls k4 _ _ l0_0 (fun k_ => k_ < w.heap.size) _ _ l0_1 a2 (⟨#[99, 108, 111, 115, 105, 110, 103]⟩ : ByteArray) (fun k_ => some k_ = (.slice Ao101 x317002_4.length co101 : Value).ownBlock) _ _ x317002_4 t327 t330 t333 _ ?side1 ?side2 ?side3 ?side4 A97.out).mono ?_); (case side1 => exact (rC (Kd.C_below HR0_0.out HB.out))); (case side2 => exact HC0_0.out); (case side3 => exact Kd.V_mk HC0_1.out (Kd.F_below (Kd.C_F k63_heap HR0_1.out) ZZ295621)); (case side4 => exact Kd.R_V (Kd.R_tight rfl (Kd.R_types (Kd.R_types (Kd.R_types (Kd.R_apart' (HO_317002.out) (Kd.R_typed HO_80.out) (by decide)) BK298.out (by decide)) BK299.out (by decide)) BK316.out (by decide)))); rintro e w104 ⟨v328, v331, rfl, ho0, ho1, hb⟩; refine ⟨_, rfl, ?_⟩; replace HO_80 := Aside0.mk (Kd.R_below (zR HO_80) hb); have HO329 := Aside0.mk (Kd.R_lower (Kd.R_mono (ok' := fun k_ => True) ho0 (fun _ hk_ => trivial)) (below_size ZZ295621)); have HO332 := Aside0.mk (Kd.S_lower (Kd.S_newB (Kd.S_new' (Kd.S_mono (ok' := fun k_ => True) ho1 (fun _ hk_ => trivial)) (Kd.R_lt (zR HO_317002))) (zB BK316)) (below_size ZZ295621)); replace HO_317002 := Aside0.mk (Kd.R_below (zR HO_317002) hb); replace BK298 := kb BK298 hb; replace BK299 := kb BK299 hb; replace BK316 := kb BK316 hb; replace HB := hB hb; (try clear hb); (try clear hb2); (try clear hk); (try clear hi); (try clear ho0); (try clear ho1); obtain ⟨Ao105, co105, eo105⟩ := Kd.R_slice HO329.out; subst eo105; obtain ⟨hcz106_0, hcz106_1, hfz106_0, hfz106_1⟩ := z2 BK299; obtain ⟨Ao107, co107, eo107⟩ := Kd.S_slice HO332.out; subst eo107))
         refine bodyPost_ret (results_ct rfl _ _ gb299 31 #[.slice Ao105 t327.length co105, .slice Ao107 t330.length co107] (0, 0) _ rfl (by refine bd ?_; refine blk_put (cs := #[.slice Ao105 t327.length co105, .slice none 0 0]) ?_ 1 _ rfl; refine bd ?_; refine blk_put (cs := #[.slice none 0 0, .slice none 0 0]) ?_ 0 _ rfl; refine bd ?_; exact BK299.out) Tryd.underlying31 rfl (by kernel_rfl)) rfl ?_
         exact ⟨_, _, ZZab01d2, (by refine bR ?_; exact Kd.R_mono (Kd.R_far (p := ⟨gb299, 1, none⟩) (Kd.R_far (p := ⟨gb299, 0, none⟩) (Kd.R_types HO329.out BK299.out (by decide)) (fun _ hk => hk.2) (.slice Ao105 t327.length co105)) (fun _ hk => hk.2) (.slice Ao107 t330.length co107)) (fun _ hk => trivial)), (by refine bS ?_; exact Kd.S_mono (Kd.S_far (p := ⟨gb299, 1, none⟩) (Kd.S_far (p := ⟨gb299, 0, none⟩) (Kd.S_types HO332.out BK299.out (by decide)) (fun _ hk => hk.2) (.slice Ao105 t327.length co105)) (fun _ hk => hk.2) (.slice Ao107 t330.length co107)) (fun _ hk => trivial)), ZZ295621⟩
end Go.Proofs.YtccdjchaaeligaaDoor.XFnExactCloseAccounts

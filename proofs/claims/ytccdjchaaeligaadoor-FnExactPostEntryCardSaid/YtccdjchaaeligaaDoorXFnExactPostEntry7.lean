import Derived.Test.YtccdjchaaeligaaDoorXFnExactPostEntry1
import Derived.Test.YtccdjchaaeligaaDoorXFnExactPostEntry0
import Derived.Test.YtccdjchaaeligaaDoorXFnExactPostEntry4
import Derived.Test.YtccdjchaaeligaaDoorXFnExactPostEntry5
import Derived.Test.YtccdjchaaeligaaDoorXFnExactPostEntry6
namespace Go.Proofs.YtccdjchaaeligaaDoor.XFnExactPostEntry
open Go.Proofs.YtccdjchaaeligaaDoor.Short Go.RowKit Go.Proofs.YtccdjchaaeligaaDoorW.PrintWords Go.Proofs.YtccdjchaaeligaaDoorW.PrintLast Go.Proofs.YtccdjchaaeligaaDoorW.PrintMore
attribute [local go_sem] max2_int min2_int max_two min_two max_three min_three max_four min_four
set_option linter.unusedVariables false
set_option linter.unusedSimpArgs false
theorem ZZ008211 {p : Prop} (h : p := by subst hw_; refine bR ?_; exact Kd.R_mono (Kd.R_far (p := ⟨gb218, 2, none⟩) (Kd.R_far (p := ⟨gb218, 1, none⟩) (Kd.R_far (p := ⟨gb218, 0, none⟩) (Kd.R_types HO_3.out BK218.out (by decide)) (fun _ hk => hk.2) (.int .i64 ((rd_T63 l0_1 x4_2).f0))) (fun _ hk => hk.2) (.string ((rd_T63 l0_1 x4_2).f1))) (fun _ hk => hk.2) (.slice A217_2 ((rd_T63 l0_1 x4_2).f2).length c217_2)) (fun _ hk => trivial)) : p := h
theorem ZZa18f69 {p : Prop} (h : p := by subst hw_; refine bd ?_; refine blk_far ?_ NB212_218.out _; refine bd ?_; refine blk_far ?_ NB212_218.out _; refine bd ?_; refine blk_far ?_ NB212_218.out _; refine bd ?_; exact BK212.out) : p := h
theorem ZZ2c91fe {p : Prop} (h : p := by subst hw_; refine bd ?_; refine blk_put (cs := #[.int .i64 ((rd_T63 l0_1 x4_2).f0), .string ((rd_T63 l0_1 x4_2).f1), .slice none 0 0]) ?_ 2 _ rfl; refine bd ?_; refine blk_put (cs := #[.int .i64 ((rd_T63 l0_1 x4_2).f0), .string (⟨#[]⟩ : ByteArray), .slice none 0 0]) ?_ 1 _ rfl; refine bd ?_; refine blk_put (cs := #[.int .i64 0, .string (⟨#[]⟩ : ByteArray), .slice none 0 0]) ?_ 0 _ rfl; refine bd ?_; exact BK218.out) : p := h
mutual
def spec_l26Good.j0 : Nat → Bool → List (S48) → List (S63) → Option (Bool)
 | 0, _, _, _ => none
 | k + 1, x17, x213000, x213001 => if x17 = true then (some false) else (if 0 ≤ (x213000.length : Int) then (if ((x213000.length : Int) : Int).toNat ≤ 35184372088832 then (spec_l26Good.l0 k (List.replicate ((x213000.length : Int) : Int).toNat 0) 0 x213000 x213001) else (none)) else (none))
def spec_l26Good.l0 : Nat → List Int → Int → List (S48) → List (S63) → Option (Bool)
 | 0, _, _, _, _ => none
 | k + 1, x3, x4, x213000, x213001 => if x4 < (x213001.length : Int) then (if 0 ≤ x4 then ((spec_l26Entry.f k ((rd_T63 x213001 x4).f0) ((rd_T63 x213001 x4).f1) ((rd_T63 x213001 x4).f2) (x213000.length : Int)).bind fun t219 => (if t219 = true then (if x4 > 0 then (if 0 ≤ (wrap64 (x4 - 1)) then (if (wrap64 (x4 - 1)) < (x213001.length : Int) then (spec_l26Good.j2 k x3 x4 (decide (((rd_T63 x213001 (wrap64 (x4 - 1))).f0) > ((rd_T63 x213001 x4).f0))) x213000 x213001 ((rd_T63 x213001 x4).f0) ((rd_T63 x213001 x4).f1) ((rd_T63 x213001 x4).f2)) else (none)) else (none)) else (spec_l26Good.j2 k x3 x4 false x213000 x213001 ((rd_T63 x213001 x4).f0) ((rd_T63 x213001 x4).f1) ((rd_T63 x213001 x4).f2))) else (spec_l26Good.j2 k x3 x4 true x213000 x213001 ((rd_T63 x213001 x4).f0) ((rd_T63 x213001 x4).f1) ((rd_T63 x213001 x4).f2)))) else (none)) else (some true)
def spec_l26Good.j2 : Nat → List Int → Int → Bool → List (S48) → List (S63) → Int → ByteArray → List (S70) → Option (Bool)
 | 0, _, _, _, _, _, _, _, _ => none
 | k + 1, x3, x4, x55, x213000, x213001, x219000, x219001, x219002 => if x55 = true then (some false) else (spec_l26Good.l1 k x3 x4 0 x213000 x213001 x219000 x219001 x219002)
def spec_l26Good.l1 : Nat → List Int → Int → Int → List (S48) → List (S63) → Int → ByteArray → List (S70) → Option (Bool)
 | 0, _, _, _, _, _, _, _, _ => none
 | k + 1, x3, x4, x6, x213000, x213001, x219000, x219001, x219002 => if x6 < (x219002.length : Int) then (if 0 ≤ x6 then (if 0 ≤ ((rd_T70 x219002 x6).f0) then (if ((rd_T70 x219002 x6).f0) < (x3.length : Int) then ((spec_l2Amount.f (wrap64 ((rd x3 ((rd_T70 x219002 x6).f0)) + ((rd_T70 x219002 x6).f1)))).bind fun t226 => (if t226 = true then (spec_l26Good.l1 k (x3.set (((rd_T70 x219002 x6).f0) : Int).toNat (wrap64 ((rd x3 ((rd_T70 x219002 x6).f0)) + ((rd_T70 x219002 x6).f1)))) x4 (wrap64 (x6 + 1)) x213000 x213001 x219000 x219001 x219002) else (some false))) else (none)) else (none)) else (none)) else (spec_l26Good.l0 k x3 (wrap64 (x4 + 1)) x213000 x213001)
end
def spec_l26Good.f (k : Nat) (l0_0 : List (S48)) (l0_1 : List (S63)) : Option (Bool) := (spec_l26Accounts.f k l0_0).bind fun t213 => (if t213 = true then (spec_l26Good.j0 k (decide ((l0_1.length : Int) > 40)) l0_0 l0_1) else (spec_l26Good.j0 k true l0_0 l0_1))
theorem spec_l26Good.mono_l : ∀ k, (∀ y0 y1 y2, LeO (spec_l26Good.j0 k y0 y1 y2) (spec_l26Good.j0 (k + 1) y0 y1 y2)) ∧ (∀ y0 y1 y2 y3, LeO (spec_l26Good.l0 k y0 y1 y2 y3) (spec_l26Good.l0 (k + 1) y0 y1 y2 y3)) ∧ (∀ y0 y1 y2 y3 y4 y5 y6 y7, LeO (spec_l26Good.j2 k y0 y1 y2 y3 y4 y5 y6 y7) (spec_l26Good.j2 (k + 1) y0 y1 y2 y3 y4 y5 y6 y7)) ∧ (∀ y0 y1 y2 y3 y4 y5 y6 y7, LeO (spec_l26Good.l1 k y0 y1 y2 y3 y4 y5 y6 y7) (spec_l26Good.l1 (k + 1) y0 y1 y2 y3 y4 y5 y6 y7))
 | 0 => ⟨fun _ _ _ r h => by simp [spec_l26Good.j0] at h, fun _ _ _ _ r h => by simp [spec_l26Good.l0] at h, fun _ _ _ _ _ _ _ _ r h => by simp [spec_l26Good.j2] at h, fun _ _ _ _ _ _ _ _ r h => by simp [spec_l26Good.l1] at h⟩
 | k + 1 => by
  obtain ⟨ih0, ih1, ih2, ih3⟩ := spec_l26Good.mono_l k
  refine ⟨?_, ?_, ?_, ?_⟩
  all_goals intros
  all_goals (first | unfold spec_l26Good.j0 | unfold spec_l26Good.l0 | unfold spec_l26Good.j2 | unfold spec_l26Good.l1)
  all_goals
   repeat' with_reducible first | apply ih0 | apply ih1 | apply ih2 | apply ih3 | apply spec_l26Accounts.mono | apply spec_l26Entry.mono | exact LeO.refl _ | exact LeO.none _ | refine LeO.ite ?_ ?_ | refine LeO.bind ?_ (fun _ => ?_)
theorem spec_l26Good.mono : ∀ a0 a1 k, LeO (spec_l26Good.f k a0 a1) (spec_l26Good.f (k + 1) a0 a1) := by
 intro a0 a1 k
 obtain ⟨ih0, ih1, ih2, ih3⟩ := spec_l26Good.mono_l k
 unfold spec_l26Good.f
 repeat' with_reducible first | apply ih0 | apply ih1 | apply ih2 | apply ih3 | apply spec_l26Accounts.mono | apply spec_l26Entry.mono | exact LeO.refl _ | exact LeO.none _ | refine LeO.ite ?_ ?_ | refine LeO.bind ?_ (fun _ => ?_)
def spec_l26Good.T8 : Bool × List (List Nat × List Nat) := (true, [([], []), ([], []), ([1], [1]), ([2], [2]), ([0, 3], [0, 3]), ([4], [4]), ([5, 4], [5]), ([6], [6]), ([7, 6], [6, 7]), ([8, 6, 6], [6, 8]), ([9], [9]), ([10, 9], [9, 10]), ([9], [9]), ([12, 9], [9, 12]), ([11, 13, 9], [9, 11, 13]), ([14, 9], [9, 14]), ([15, 9], [9, 15]), ([9], [9]), ([17, 9], [9, 17]), ([16, 18, 9], [9, 16, 18]), ([9, 19, 6], [6, 9, 19]), ([6, 20], [6, 20])])
def spec_l26Good.B8 : List Nat := [0, 0, 2, 6, 15, 31, 63, 127, 255, 511, 1023, 2047, 1023, 5119, 16383, 32767, 65535, 1023, 132095, 524287, 1048575, 2097151]
theorem spec_l26Good.tab8 : rtab .any (opsOf Tryd.f52 8) = spec_l26Good.T8 := by kernel_rfl
theorem spec_l26Good.bits8 : waitsOk spec_l26Good.T8.2 spec_l26Good.B8 = true := by kernel_rfl
def spec_l26Good.T14 : Bool × List (List Nat × List Nat) := (true, [([], []), ([], []), ([], []), ([], []), ([2, 3], [2, 3]), ([4], [4]), ([], []), ([6], [6]), ([], []), ([7, 8], [7, 8]), ([9], [9]), ([10], [10]), ([5, 11], [5, 11]), ([0, 1, 0, 1, 2, 3, 4, 5, 6, 7, 8, 9, 10, 11, 12], [0, 1]), ([13, 12, 0, 1, 2, 3, 4, 5, 6, 7, 8, 9, 10, 11, 12], [12, 13])])
def spec_l26Good.B14 : List Nat := [0, 0, 0, 0, 12, 28, 0, 64, 0, 448, 960, 1984, 4092, 8191, 16383]
theorem spec_l26Good.tab14 : rtab .any (opsOf Tryd.f52 14) = spec_l26Good.T14 := by kernel_rfl
theorem spec_l26Good.bits14 : waitsOk spec_l26Good.T14.2 spec_l26Good.B14 = true := by kernel_rfl
set_option maxHeartbeats 8000000 in
set_option maxRecDepth 100000 in
theorem spec_l26Good.calls (k : Nat) (A0_0 : Option Addr) (c0_0 : Nat) (l0_0 : List (S48)) (A0_1 : Option Addr) (c0_1 : Nat) (l0_1 : List (S63)) (r : Bool) (w : World) (hr0_0 : Kd.C k48 w A0_0 l0_0.length l0_0) (hc0_0 : l0_0.length ≤ c0_0) (hr0_1 : Kd.C k63 w A0_1 l0_1.length l0_1) (hc0_1 : l0_1.length ≤ c0_1) (h : spec_l26Good.f k l0_0 l0_1 = some r) :
 Calls Tryd.prog 52 #[.agg #[.slice A0_0 l0_0.length c0_0, .slice A0_1 l0_1.length c0_1]] w fun e w' => e = .returned (.bool r) ∧ Below w.heap.size w w' := by
 have hu31 := Tryd.underlying31
 have hu63 := Tryd.underlying63
 have HR0_0 := Aside0.mk hr0_0
 have HC0_0 := Aside0.mk hc0_0
 clear hr0_0 hc0_0
 have HR0_1 := Aside0.mk hr0_1
 have HC0_1 := Aside0.mk hc0_1
 clear hr0_1 hc0_1
 have HB := Aside0.mk (Below.refl w.heap.size w)
 have H := h
 clear h
 unfold spec_l26Good.f at H
 have HC2 := Aside0.mk H
 clear H
 go_enter Tryd.func52, Tryd.ntmps52
 go_upto_region 1 with (first | ((with_reducible refine gate_dst (N := 1) rfl ?_); (try (refine gate_guard (by rfl) ?_; dsimp only)); refine bx 1 (cs := #[.slice A0_0 l0_0.length c0_0, .slice A0_1 l0_1.length c0_1]) (t := 31) ?_; intro gb212 hg w3 hbox hb; have BK212 := Aside0.mk (hbox); have GW212 := gw hg; have GE212 := gw hg; replace HB := hB hb; clear hb hbox hg))
 (try simp only [Act.put, List.setIfInBounds_toArray, List.set_cons_zero, List.set_cons_succ])
 go_cut [17] (fun v17 wc => ∃ (kq : Nat) (x17_1 : Bool), v17 = .bool x17_1 ∧ Aside0 (spec_l26Good.j0 kq x17_1 l0_0 l0_1 = some r) ∧ Aside0 (kq ≤ k) ∧ Aside0 (wc.heap[gb212]? = some (.cells #[(.slice A0_0 l0_0.length c0_0), (.slice A0_1 l0_1.length c0_1)] 31 (0, 0))) ∧ Aside0 (Below w.heap.size w wc))
 case first =>
  have H := HC2.out
  clear HC2
  obtain ⟨t213, A4, H⟩ := bdY H
  by_cases c5 : t213 = true
  ·subst c5
   replace H := ifT H
   replace H := Aside0.mk H
   obtain ⟨hcz6_0, hcz6_1, hfz6_0, hfz6_1⟩ := z2 BK212
   go_wp2_with (first | (refine gc 10 Tryd.func101 #[.slice A0_0 l0_0.length c0_0] ?_; (with_reducible refine (spec_l26Accounts.calls k _ _ l0_0 true _ ?side1 ?side2 A4.out).mono ?_); (case side1 => exact (rC (Kd.C_below HR0_0.out HB.out))); (case side2 => exact HC0_0.out); rintro e w' ⟨rfl, ⟨nd, rfl⟩⟩; refine ⟨_, rfl, ?_⟩))
   go_meet
   case rel => exact ⟨_, (decide ((l0_1.length : Int) > 40)), ZZ0ab324, H, kle, ⟨(zB BK212)⟩, ⟨ZZ295621⟩⟩
  replace c5 := Bool.eq_false_iff.mpr c5
  subst c5
  replace H := ifF H
  replace H := Aside0.mk H
  obtain ⟨hcz7_0, hcz7_1, hfz7_0, hfz7_1⟩ := z2 BK212
  go_wp2_with (first | (refine gc 10 Tryd.func101 #[.slice A0_0 l0_0.length c0_0] ?_; (with_reducible refine (spec_l26Accounts.calls k _ _ l0_0 false _ ?side1 ?side2 A4.out).mono ?_); (case side1 => exact (rC (Kd.C_below HR0_0.out HB.out))); (case side2 => exact HC0_0.out); rintro e w' ⟨rfl, ⟨nd, rfl⟩⟩; refine ⟨_, rfl, ?_⟩))
  go_meet
  case rel => exact ⟨_, (true), ZZ0ab324, H, kle, ⟨(zB BK212)⟩, ⟨ZZ295621⟩⟩
 case rest =>
  clear HC2
  try clear c5
  try clear hcz6_0
  try clear hcz6_1
  try clear hcz7_0
  try clear hcz7_1
  try clear hfz6_0
  try clear hfz6_1
  try clear hfz7_0
  try clear hfz7_1
  obtain ⟨kq, x17_1, rfl, HA, HJ1, BK212, HB⟩ := hcut
  cases kq with
  | zero => exact absurd HA.out (by simp [spec_l26Good.j0])
  | succ kj1 =>
   have H := HA.out
   clear HA
   simp only [spec_l26Good.j0] at H
   by_cases c8 : x17_1 = true
   ·subst c8
    replace H := ifT H
    obtain rfl := Option.some.inj H
    go_wp2
    go_ret
    exact ⟨ZZab01d2, ZZ295621⟩
   replace c8 := Bool.eq_false_iff.mpr c8
   subst c8
   replace H := ifF H
   obtain ⟨c9b0, c9b1, H⟩ := ifYe H
   obtain ⟨c10b0, c10b1, H⟩ := ifYe H
   try rw [Option.bind_some] at H
   generalize hy214 : (List.replicate ((l0_0.length : Int) : Int).toNat 0 : List Int) = y214 at H
   have Ny214 := Aside0.mk hy214.symm
   clear hy214
   replace H := Aside0.mk H
   obtain ⟨hcz11_0, hcz11_1, hfz11_0, hfz11_1⟩ := z2 BK212
   go_wp2_with (first | ((with_reducible refine gate_dst (N := 21) rfl ?_); (try (refine gate_guard (by rfl) ?_; dsimp only)); refine Kd.R_make (Kd.int .i64) _ 3 rfl (N := 21) rfl 44 _ _ rfl (l0_0.length : Int) rfl rfl Tryd.underlying44 (.int .i64 0) 8 info3 rfl (by decide) (by omega) 0 (ok := fun _ => True) (okp := fun _ => True) rfl (fun _ hk => hk) trivial (of_decide_eq_true ZZ853400) (Nat.le_trans (Nat.mul_le_mul_right _ (of_decide_eq_true ZZ853400 : (l0_0.length : Int).toNat ≤ 35184372088832)) (by omega)) (Below.refl _ _) (Nat.le_refl _) ?_; intro v215 w12 ho13 hb hg_ hnew_; clear hg_ hnew_; (first | rw [← Ny214.out] at ho13 | (simp only [Int.reduceToNat] at ho13; rw [← Ny214.out] at ho13)); have HO216 := Aside0.mk (Kd.R_lower ho13 (below_size ZZ295621)); replace BK212 := kb BK212 hb; replace HB := hB hb; clear hb ho13))
   go_loopg [4] kj1 (fun kq v4 w' => ∃ (x3_2 : List Int) (x4_2 : Int), v4 = .int .i64 x4_2 ∧ Aside0 (spec_l26Good.l0 kq x3_2 x4_2 l0_0 l0_1 = some r) ∧ Aside0 (kq ≤ kj1) ∧ Aside0 (Kd.R (Kd.int .i64) 3 w' w.heap.size (fun _ => True) v215 x3_2) ∧ Aside0 (w'.heap[gb212]? = some (.cells #[(.slice A0_0 l0_0.length c0_0), (.slice A0_1 l0_1.length c0_1)] 31 (0, 0))) ∧ Aside0 (Below w.heap.size w w'))
   case atStart => exact ⟨(y214), (0), ZZ0ab324, H, ⟨Nat.le_refl _⟩, ⟨(zR HO216)⟩, ⟨(zB BK212)⟩, ⟨ZZ295621⟩⟩
   case round =>
    clear H
    try clear c8
    try clear c9b0
    try clear c9b1
    try clear c10b0
    try clear c10b1
    try clear hcz11_0
    try clear hcz11_1
    try clear hfz11_0
    try clear hfz11_1
    obtain ⟨x3_2, x4_2, rfl, HA, HK2, HO_3, BK212, HB⟩ := hrel
    cases gk with
    | zero => exact absurd HA.out (by simp [spec_l26Good.l0])
    | succ k2 =>
     have H := HA.out
     clear HA
     simp only [spec_l26Good.l0] at H
     by_cases c14 : x4_2 < (l0_1.length : Int)
     ·rw [if_pos c14] at H
      have c14b0 := decide_eq_true c14
      clear c14
      obtain ⟨c15b0, H⟩ := ifYd H
      have HC16 := Aside0.mk H
      clear H
      obtain ⟨hcz17_0, hcz17_1, hfz17_0, hfz17_1⟩ := z2 BK212
      have p217 : 0 ≤ (x4_2 : Int) := of_decide_eq_true ZZ853400
      have q217 : x4_2 < (l0_1.length : Int) := of_decide_eq_true ZZ853400
      obtain ⟨ad217, A217_2, c217_2, e217, hx217_0, hx217_1, hx217_2, hl217_2, hi217_2⟩ := at_T63 HR0_1.out x4_2 p217 q217
      cases e217
      replace hx217_0 := (HB.out.cell (World.block_lt_of_cell? w _ hx217_0)).trans hx217_0
      replace hx217_1 := (HB.out.cell (World.block_lt_of_cell? w _ hx217_1)).trans hx217_1
      replace hx217_2 := (HB.out.cell (World.block_lt_of_cell? w _ hx217_2)).trans hx217_2
      have HR217_2 := Aside0.mk hi217_2
      have HC217_2 := Aside0.mk hl217_2
      clear hi217_2 hl217_2
      replace p217 := eq_true p217
      replace q217 := eq_true q217
      go_upto_region 8 with (first | ((with_reducible refine gate_dst (N := 5) rfl ?_); (try (refine gate_guard (by rfl) ?_; dsimp only)); refine bx 5 (cs := #[.int .i64 0, .string (⟨#[]⟩ : ByteArray), .slice none 0 0]) (t := 63) ?_; intro gb218 hg w18 hbox hb; replace HO_3 := Aside0.mk (Kd.R_below (zR HO_3) hb); have BK218 := Aside0.mk (hbox); have GW218 := gw hg; have GE218 := gw hg; replace HB := hB hb; have NB212_218 := nl hg BK212; have NB218_212 := ng hg BK212; replace BK212 := kb BK212 hb; clear hb hbox hg; have hnb19 := NB218_212.out; have hnc19 := NB212_218.out; obtain ⟨hcz20_0, hcz20_1, hcz20_2, hfz20_0, hfz20_1, hfz20_2⟩ := z3 BK218))
      (try simp only [Act.put, List.setIfInBounds_toArray, List.set_cons_zero, List.set_cons_succ])
      go_cut [55] (fun v55 wc => ∃ (kq : Nat) (x55_15 : Bool), v55 = .bool x55_15 ∧ Aside0 (spec_l26Good.j2 kq x3_2 x4_2 x55_15 l0_0 l0_1 ((rd_T63 l0_1 x4_2).f0) ((rd_T63 l0_1 x4_2).f1) ((rd_T63 l0_1 x4_2).f2) = some r) ∧ Aside0 (kq ≤ k2) ∧ Aside0 (Kd.R (Kd.int .i64) 3 wc w.heap.size (fun _ => True) v215 x3_2) ∧ Aside0 (wc.heap[gb212]? = some (.cells #[(.slice A0_0 l0_0.length c0_0), (.slice (some ad217) l0_1.length c0_1)] 31 (0, 0))) ∧ Aside0 (wc.heap[gb218]? = some (.cells #[.int .i64 ((rd_T63 l0_1 x4_2).f0), .string ((rd_T63 l0_1 x4_2).f1), (.slice A217_2 ((rd_T63 l0_1 x4_2).f2).length c217_2)] 63 (0, 0))) ∧ Aside0 (Below w.heap.size w wc))
      case first =>
       have H := HC16.out
       clear HC16
       obtain ⟨t219, A21, H⟩ := bdY H
       by_cases c22 : t219 = true
       ·subst c22
        replace H := ifT H
        by_cases c23 : x4_2 > 0
        ·rw [if_pos c23] at H
         have c23b0 : decide (0 < x4_2) = true := decide_eq_true c23
         clear c23
         (first | rw [c23b0] | (simp only [i64_w, i32_w]; rw [c23b0]) | skip)
         obtain ⟨ji24, hji24⟩ : ∃ j_ : Int, (wrap64 (x4_2 - 1)) = j_ := ⟨_, rfl⟩
         (first | rw [hji24] at H | simp only [hji24] at H)
         (try rw [hji24] at A21)
         have hji24w : (IntKind.i64.wrap (x4_2 - 1)) = ji24 := (i64_w _).trans hji24
         obtain ⟨c25b0, H⟩ := ifYd H
         obtain ⟨c26b0, H⟩ := ifYd H
         replace H := Aside0.mk H
         try go_wp2
         generalize hw_ : (((w18.setCell ⟨gb218, 0, none⟩ (.int .i64 ((rd_T63 l0_1 x4_2).f0))).setCell ⟨gb218, 1, none⟩ (.string ((rd_T63 l0_1 x4_2).f1))).setCell ⟨gb218, 2, none⟩ (.slice A217_2 ((rd_T63 l0_1 x4_2).f2).length c217_2)) = w27
         replace HO_3 : Aside0 (Kd.R (Kd.int .i64) 3 w27 w.heap.size (fun _ => True) v215 x3_2) := ⟨ZZ008211⟩
         replace BK212 : Aside0 (w27.heap[gb212]? = some (.cells #[.slice A0_0 l0_0.length c0_0, .slice (some ad217) l0_1.length c0_1] 31 (0, 0))) := ⟨ZZa18f69⟩
         replace BK218 : Aside0 (w27.heap[gb218]? = some (.cells #[.int .i64 ((rd_T63 l0_1 x4_2).f0), .string ((rd_T63 l0_1 x4_2).f1), .slice A217_2 ((rd_T63 l0_1 x4_2).f2).length c217_2] 63 (0, 0))) := ⟨ZZ2c91fe⟩
         replace HB : Aside0 (Below w.heap.size w w27) := ⟨ZZ0d0602⟩
         clear hw_
         replace HO_3 := Aside0.mk (Kd.R_drew HO_3.out)
         replace BK212 := Aside0.mk (blk_drew BK212.out)
         replace BK218 := Aside0.mk (blk_drew BK218.out)
         replace HB := Aside0.mk (below_drew1 HB.out)
         have p220 : 0 ≤ ((ji24) : Int) := of_decide_eq_true ZZ853400
         have q220 : (ji24) < (l0_1.length : Int) := of_decide_eq_true ZZ853400
         obtain ⟨ad220, A220_2, c220_2, e220, hx220_0, hx220_1, hx220_2, hl220_2, hi220_2⟩ := at_T63 HR0_1.out (ji24) p220 q220
         have hw220_2 := hx220_2
         have hw220_1 := hx220_1
         have hw220_0 := hx220_0
         obtain rfl : ad217 = ad220 := (by injection e220)
         replace hx220_0 := (HB.out.cell (World.block_lt_of_cell? w _ hx220_0)).trans hx220_0
         replace hx220_1 := (HB.out.cell (World.block_lt_of_cell? w _ hx220_1)).trans hx220_1
         replace hx220_2 := (HB.out.cell (World.block_lt_of_cell? w _ hx220_2)).trans hx220_2
         have HR220_2 := Aside0.mk hi220_2
         have HC220_2 := Aside0.mk hl220_2
         clear hi220_2 hl220_2
         replace p220 := eq_true p220
         replace q220 := eq_true q220
         refine st 22 (S := fun w' => w'.cell? ⟨gb218, 0, none⟩ = some (.int .i64 ((rd_T63 l0_1 x4_2).f0)) ∧ w'.cell? ⟨gb218, 1, none⟩ = some (.string ((rd_T63 l0_1 x4_2).f1)) ∧ w'.cell? ⟨gb218, 2, none⟩ = some (.slice A217_2 ((rd_T63 l0_1 x4_2).f2).length c217_2) ∧ w'.cell? ⟨gb212, 0, none⟩ = some (.slice A0_0 l0_0.length c0_0) ∧ w'.cell? ⟨gb212, 1, none⟩ = some (.slice (some ad217) l0_1.length c0_1) ∧ w'.cell? (ad217.add (((ji24)).toNat * 3)) = some (.int .i64 ((rd_T63 l0_1 (ji24)).f0)) ∧ w'.cell? ⟨(ad217.add (((ji24)).toNat * 3)).block, (ad217.add (((ji24)).toNat * 3)).off + 1, none⟩ = some (.string ((rd_T63 l0_1 (ji24)).f1)) ∧ w'.cell? ⟨(ad217.add (((ji24)).toNat * 3)).block, (ad217.add (((ji24)).toNat * 3)).off + 2, none⟩ = some (.slice A220_2 ((rd_T63 l0_1 (ji24)).f2).length c220_2)) spec_l26Good.tab8 spec_l26Good.bits8 zK (fun hHeld HT_ HW_ => ?_)
         generalize w27.drew = w28 at HO_3 BK212 BK218 HB HR220_2 hx220_0 hx220_1 hx220_2 hHeld ⊢
         refine pu 1 35 ?_
         refine tk 0 34 ?_
         refine tk 2 36 ?_
         refine pu 3 37 ?_
         refine on1 4 38 Tryd.func102 #[.agg #[.int .i64 ((rd_T63 l0_1 x4_2).f0), .string ((rd_T63 l0_1 x4_2).f1), .slice A217_2 ((rd_T63 l0_1 x4_2).f2).length c217_2], .int .i64 (l0_0.length : Int)] (spec_l26Entry.calls k2 ((rd_T63 l0_1 x4_2).f0) ((rd_T63 l0_1 x4_2).f1) _ _ ((rd_T63 l0_1 x4_2).f2) (l0_0.length : Int) true _ ?side1 ?side2 A21.out) ?_
         (case side1 => exact (rC (Kd.C_below HR217_2.out HB.out)))
         (case side2 => exact HC217_2.out)
         rintro w29 hb
         replace HO_3 := Aside0.mk (Kd.R_below (zR HO_3) hb)
         replace BK212 := kb BK212 hb
         replace BK218 := kb BK218 hb
         replace HB := hB hb
         (try clear hb)
         (try clear hb2)
         (try clear hk)
         (try clear hi)
         refine ⟨zK, fun hHeld => ?_⟩
         refine pu 5 39 ?_
         refine pu 6 40 ?_
         refine pu 7 41 ?_
         refine pu 8 42 ?_
         refine pu 9 43 ?_
         refine pu 10 44 ?_
         refine pu 12 46 ?_
         refine pu 13 47 ?_
         refine pu 17 51 ?_
         refine tk 11 45 ?_
         refine pu 14 48 ?_
         refine pu 15 49 ?_
         refine tk 16 50 ?_
         refine tk 18 52 ?_
         refine pu 19 53 ?_
         refine pu 20 54 ?_
         refine pu 21 55 ?_
         refine done_ (done_of HT_.out (by kernel_rfl)) ?_
         try go_wp2
         go_meet
         case rel => exact ⟨_, (decide (((rd_T63 l0_1 (ji24)).f0) > ((rd_T63 l0_1 x4_2).f0))), (by first | rfl | (simp; done) | (simp only [← hji24] <;> (first | rfl | simp)) | (simp [*]; done)), H, kle, ⟨(zR HO_3)⟩, ⟨(zB BK212)⟩, ⟨(zB BK218)⟩, ⟨ZZ295621⟩⟩
        rw [if_neg c23] at H
        have c23b0 : decide (0 < x4_2) = false := decide_eq_false c23
        clear c23
        (first | rw [c23b0] | (simp only [i64_w, i32_w]; rw [c23b0]) | skip)
        replace H := Aside0.mk H
        try go_wp2
        generalize hw_ : (((w18.setCell ⟨gb218, 0, none⟩ (.int .i64 ((rd_T63 l0_1 x4_2).f0))).setCell ⟨gb218, 1, none⟩ (.string ((rd_T63 l0_1 x4_2).f1))).setCell ⟨gb218, 2, none⟩ (.slice A217_2 ((rd_T63 l0_1 x4_2).f2).length c217_2)) = w30
        replace HO_3 : Aside0 (Kd.R (Kd.int .i64) 3 w30 w.heap.size (fun _ => True) v215 x3_2) := ⟨ZZ008211⟩
        replace BK212 : Aside0 (w30.heap[gb212]? = some (.cells #[.slice A0_0 l0_0.length c0_0, .slice (some ad217) l0_1.length c0_1] 31 (0, 0))) := ⟨ZZa18f69⟩
        replace BK218 : Aside0 (w30.heap[gb218]? = some (.cells #[.int .i64 ((rd_T63 l0_1 x4_2).f0), .string ((rd_T63 l0_1 x4_2).f1), .slice A217_2 ((rd_T63 l0_1 x4_2).f2).length c217_2] 63 (0, 0))) := ⟨ZZ2c91fe⟩
        replace HB : Aside0 (Below w.heap.size w w30) := ⟨ZZ0d0602⟩
        clear hw_
        replace HO_3 := Aside0.mk (Kd.R_drew HO_3.out)
        replace BK212 := Aside0.mk (blk_drew BK212.out)
        replace BK218 := Aside0.mk (blk_drew BK218.out)
        replace HB := Aside0.mk (below_drew1 HB.out)
        refine st 22 (S := fun w' => w'.cell? ⟨gb218, 0, none⟩ = some (.int .i64 ((rd_T63 l0_1 x4_2).f0)) ∧ w'.cell? ⟨gb218, 1, none⟩ = some (.string ((rd_T63 l0_1 x4_2).f1)) ∧ w'.cell? ⟨gb218, 2, none⟩ = some (.slice A217_2 ((rd_T63 l0_1 x4_2).f2).length c217_2) ∧ w'.cell? ⟨gb212, 0, none⟩ = some (.slice A0_0 l0_0.length c0_0) ∧ w'.cell? ⟨gb212, 1, none⟩ = some (.slice (some ad217) l0_1.length c0_1)) spec_l26Good.tab8 spec_l26Good.bits8 zK (fun hHeld HT_ HW_ => ?_)
        generalize w30.drew = w31 at HO_3 BK212 BK218 HB hHeld ⊢
        refine pu 1 35 ?_
        refine tk 0 34 ?_
        refine tk 2 36 ?_
        refine pu 3 37 ?_
        refine on1 4 38 Tryd.func102 #[.agg #[.int .i64 ((rd_T63 l0_1 x4_2).f0), .string ((rd_T63 l0_1 x4_2).f1), .slice A217_2 ((rd_T63 l0_1 x4_2).f2).length c217_2], .int .i64 (l0_0.length : Int)] (spec_l26Entry.calls k2 ((rd_T63 l0_1 x4_2).f0) ((rd_T63 l0_1 x4_2).f1) _ _ ((rd_T63 l0_1 x4_2).f2) (l0_0.length : Int) true _ ?side1 ?side2 A21.out) ?_
        (case side1 => exact (rC (Kd.C_below HR217_2.out HB.out)))
        (case side2 => exact HC217_2.out)
        rintro w32 hb
        replace HO_3 := Aside0.mk (Kd.R_below (zR HO_3) hb)
        replace BK212 := kb BK212 hb
        replace BK218 := kb BK218 hb
        replace HB := hB hb
        (try clear hb)
        (try clear hb2)
        (try clear hk)
        (try clear hi)
        refine ⟨zK, fun hHeld => ?_⟩
        refine pu 5 39 ?_
        refine pu 6 40 ?_
        refine pu 7 41 ?_
        refine pu 8 42 ?_
        refine pu 9 43 ?_
        refine pn 10 44 ?_
        refine pn 11 45 ?_
        refine pn 12 46 ?_
        refine pn 13 47 ?_
        refine pn 14 48 ?_
        refine pn 15 49 ?_
        refine pn 16 50 ?_
        refine pn 17 51 ?_
        refine pn 18 52 ?_
        refine pn 19 53 ?_
        refine pu 20 54 ?_
        refine pu 21 55 ?_
        refine done_ (done_of HT_.out (by kernel_rfl)) ?_
        try go_wp2
        go_meet
        case rel => exact ⟨_, (false), ZZ0ab324, H, kle, ⟨(zR HO_3)⟩, ⟨(zB BK212)⟩, ⟨(zB BK218)⟩, ⟨ZZ295621⟩⟩
       replace c22 := Bool.eq_false_iff.mpr c22
       subst c22
       replace H := ifF H
       replace H := Aside0.mk H
       try go_wp2
       generalize hw_ : (((w18.setCell ⟨gb218, 0, none⟩ (.int .i64 ((rd_T63 l0_1 x4_2).f0))).setCell ⟨gb218, 1, none⟩ (.string ((rd_T63 l0_1 x4_2).f1))).setCell ⟨gb218, 2, none⟩ (.slice A217_2 ((rd_T63 l0_1 x4_2).f2).length c217_2)) = w33
       replace HO_3 : Aside0 (Kd.R (Kd.int .i64) 3 w33 w.heap.size (fun _ => True) v215 x3_2) := ⟨ZZ008211⟩
       replace BK212 : Aside0 (w33.heap[gb212]? = some (.cells #[.slice A0_0 l0_0.length c0_0, .slice (some ad217) l0_1.length c0_1] 31 (0, 0))) := ⟨ZZa18f69⟩
       replace BK218 : Aside0 (w33.heap[gb218]? = some (.cells #[.int .i64 ((rd_T63 l0_1 x4_2).f0), .string ((rd_T63 l0_1 x4_2).f1), .slice A217_2 ((rd_T63 l0_1 x4_2).f2).length c217_2] 63 (0, 0))) := ⟨ZZ2c91fe⟩
       replace HB : Aside0 (Below w.heap.size w w33) := ⟨ZZ0d0602⟩
       clear hw_
       replace HO_3 := Aside0.mk (Kd.R_drew HO_3.out)
       replace BK212 := Aside0.mk (blk_drew BK212.out)
       replace BK218 := Aside0.mk (blk_drew BK218.out)
       replace HB := Aside0.mk (below_drew1 HB.out)
       refine st 22 (S := fun w' => w'.cell? ⟨gb218, 0, none⟩ = some (.int .i64 ((rd_T63 l0_1 x4_2).f0)) ∧ w'.cell? ⟨gb218, 1, none⟩ = some (.string ((rd_T63 l0_1 x4_2).f1)) ∧ w'.cell? ⟨gb218, 2, none⟩ = some (.slice A217_2 ((rd_T63 l0_1 x4_2).f2).length c217_2) ∧ w'.cell? ⟨gb212, 0, none⟩ = some (.slice A0_0 l0_0.length c0_0) ∧ w'.cell? ⟨gb212, 1, none⟩ = some (.slice (some ad217) l0_1.length c0_1)) spec_l26Good.tab8 spec_l26Good.bits8 zK (fun hHeld HT_ HW_ => ?_)
       generalize w33.drew = w34 at HO_3 BK212 BK218 HB hHeld ⊢
       refine pu 1 35 ?_
       refine tk 0 34 ?_
       refine tk 2 36 ?_
       refine pu 3 37 ?_
       refine on1 4 38 Tryd.func102 #[.agg #[.int .i64 ((rd_T63 l0_1 x4_2).f0), .string ((rd_T63 l0_1 x4_2).f1), .slice A217_2 ((rd_T63 l0_1 x4_2).f2).length c217_2], .int .i64 (l0_0.length : Int)] (spec_l26Entry.calls k2 ((rd_T63 l0_1 x4_2).f0) ((rd_T63 l0_1 x4_2).f1) _ _ ((rd_T63 l0_1 x4_2).f2) (l0_0.length : Int) false _ ?side1 ?side2 A21.out) ?_
       (case side1 => exact (rC (Kd.C_below HR217_2.out HB.out)))
       (case side2 => exact HC217_2.out)
       rintro w35 hb
       replace HO_3 := Aside0.mk (Kd.R_below (zR HO_3) hb)
       replace BK212 := kb BK212 hb
       replace BK218 := kb BK218 hb
       replace HB := hB hb
       (try clear hb)
       (try clear hb2)
       (try clear hk)
       (try clear hi)
       refine ⟨zK, fun hHeld => ?_⟩
       refine pu 5 39 ?_
       refine pu 6 40 ?_
       refine pn 7 41 ?_
       refine pn 8 42 ?_
       refine pn 9 43 ?_
       refine pn 10 44 ?_
       refine pn 11 45 ?_
       refine pn 12 46 ?_
       refine pn 13 47 ?_
       refine pn 14 48 ?_
       refine pn 15 49 ?_
       refine pn 16 50 ?_
       refine pn 17 51 ?_
       refine pn 18 52 ?_
       refine pn 19 53 ?_
       refine pn 20 54 ?_
       refine pu 21 55 ?_
       refine done_ (done_of HT_.out (by kernel_rfl)) ?_
       try go_wp2
       go_meet
       case rel => exact ⟨_, (true), ZZ0ab324, H, kle, ⟨(zR HO_3)⟩, ⟨(zB BK212)⟩, ⟨(zB BK218)⟩, ⟨ZZ295621⟩⟩
      case rest =>
       clear HC16
       try clear c22
       try clear c23
       try clear c23b0
       try clear hx220_0
       try clear hx220_1
       try clear hx220_2
       try clear p220
       try clear q220
       obtain ⟨kq, x55_15, rfl, HA, HJ15, HO_3, BK212, BK218, HB⟩ := hcut
       cases kq with
       | zero => exact absurd HA.out (by simp [spec_l26Good.j2])
       | succ kj15 =>
        have H := HA.out
        clear HA
        simp only [spec_l26Good.j2] at H
        by_cases c36 : x55_15 = true
        ·subst c36
         replace H := ifT H
         obtain rfl := Option.some.inj H
         go_wp2
         go_ret
         exact ⟨ZZab01d2, ZZ295621⟩
        replace c36 := Bool.eq_false_iff.mpr c36
        subst c36
        replace H := ifF H
        replace H := Aside0.mk H
        go_wp2
        go_loopg [6] kj15 (fun kq v6 w' => ∃ (x3_4 : List Int) (x6_4 : Int), v6 = .int .i64 x6_4 ∧ Aside0 (spec_l26Good.l1 kq x3_4 x4_2 x6_4 l0_0 l0_1 ((rd_T63 l0_1 x4_2).f0) ((rd_T63 l0_1 x4_2).f1) ((rd_T63 l0_1 x4_2).f2) = some r) ∧ Aside0 (kq ≤ kj15) ∧ Aside0 (Kd.R (Kd.int .i64) 3 w' w.heap.size (fun _ => True) v215 x3_4) ∧ Aside0 (w'.heap[gb212]? = some (.cells #[(.slice A0_0 l0_0.length c0_0), (.slice (some ad217) l0_1.length c0_1)] 31 (0, 0))) ∧ Aside0 (w'.heap[gb218]? = some (.cells #[.int .i64 ((rd_T63 l0_1 x4_2).f0), .string ((rd_T63 l0_1 x4_2).f1), (.slice A217_2 ((rd_T63 l0_1 x4_2).f2).length c217_2)] 63 (0, 0))) ∧ Aside0 (Below w.heap.size w w'))
        case atStart => exact ⟨(x3_2), (0), ZZ0ab324, H, ⟨Nat.le_refl _⟩, ⟨(zR HO_3)⟩, ⟨(zB BK212)⟩, ⟨(zB BK218)⟩, ⟨ZZ295621⟩⟩
        case round =>
         clear H
         try clear c36
         obtain ⟨x3_4, x6_4, rfl, HA, HK4, HO_3, BK212, BK218, HB⟩ := hrel
         cases gk with
         | zero => exact absurd HA.out (by simp [spec_l26Good.l1])
         | succ k4 =>
          have H := HA.out
          clear HA
          simp only [spec_l26Good.l1] at H
          by_cases c37 : x6_4 < (((rd_T63 l0_1 x4_2).f2).length : Int)
          ·rw [if_pos c37] at H
           have c37b0 := decide_eq_true c37
           clear c37
           obtain ⟨c38b0, H⟩ := ifYd H
           obtain ⟨c39b0, H⟩ := ifYd H
           obtain ⟨c40b0, H⟩ := ifYd H
           try rw [Option.bind_some] at H
           generalize hy224 : (x3_4.set (((rd_T70 ((rd_T63 l0_1 x4_2).f2) x6_4).f0) : Int).toNat (wrap64 ((rd x3_4 ((rd_T70 ((rd_T63 l0_1 x4_2).f2) x6_4).f0)) + ((rd_T70 ((rd_T63 l0_1 x4_2).f2) x6_4).f1))) : List Int) = y224 at H
           have Ny224 := Aside0.mk hy224.symm
           clear hy224
           obtain ⟨t226, A43, H⟩ := bdY H
           have hnb45 := NB218_212.out
           have hnc45 := NB212_218.out
           obtain ⟨hcz46_0, hcz46_1, hcz46_2, hfz46_0, hfz46_1, hfz46_2⟩ := z3 BK218
           have p221 : 0 ≤ (x6_4 : Int) := of_decide_eq_true ZZ853400
           have q221 : x6_4 < (((rd_T63 l0_1 x4_2).f2).length : Int) := of_decide_eq_true ZZ853400
           obtain ⟨ad221, e221, hx221_0, hx221_1⟩ := at_T70 HR217_2.out x6_4 p221 q221
           cases e221
           replace hx221_0 := (HB.out.cell (World.block_lt_of_cell? w _ hx221_0)).trans hx221_0
           replace hx221_1 := (HB.out.cell (World.block_lt_of_cell? w _ hx221_1)).trans hx221_1
           replace p221 := eq_true p221
           replace q221 := eq_true q221
           try go_wp2
           replace HO_3 := Aside0.mk (Kd.R_drew HO_3.out)
           replace BK212 := Aside0.mk (blk_drew BK212.out)
           replace BK218 := Aside0.mk (blk_drew BK218.out)
           replace HB := Aside0.mk (below_drew1 HB.out)
           obtain ⟨Ao48, co48, eo48⟩ := Kd.R_slice HO_3.out
           (first | subst eo48 | (injection eo48 with f1_ f2_ f3_; have f4_ := f1_.symm; have f5_ := f3_.symm; clear f1_ f2_ f3_; subst f4_; subst f5_))
           have p222 : 0 ≤ (((rd_T70 ((rd_T63 l0_1 x4_2).f2) x6_4).f0) : Int) := of_decide_eq_true ZZ853400
           have q222 : ((rd_T70 ((rd_T63 l0_1 x4_2).f2) x6_4).f0) < (x3_4.length : Int) := of_decide_eq_true ZZ853400
           obtain ⟨ad222, e222, hx222_0⟩ := Kd.at_int (Kd.R_reads' HO_3.out).2.2 ((rd_T70 ((rd_T63 l0_1 x4_2).f2) x6_4).f0) p222 q222
           cases e222
           replace p222 := eq_true p222
           replace q222 := eq_true q222
           have p223 : 0 ≤ (x6_4 : Int) := of_decide_eq_true ZZ853400
           have q223 : x6_4 < (((rd_T63 l0_1 x4_2).f2).length : Int) := of_decide_eq_true ZZ853400
           obtain ⟨ad223, e223, hx223_0, hx223_1⟩ := at_T70 HR217_2.out x6_4 p223 q223
           have hw223_1 := hx223_1
           have hw223_0 := hx223_0
           obtain rfl : ad221 = ad223 := (by injection e223)
           replace hx223_0 := (HB.out.cell (World.block_lt_of_cell? w _ hx223_0)).trans hx223_0
           replace hx223_1 := (HB.out.cell (World.block_lt_of_cell? w _ hx223_1)).trans hx223_1
           replace p223 := eq_true p223
           replace q223 := eq_true q223
           have p41 : 0 ≤ (((rd_T70 ((rd_T63 l0_1 x4_2).f2) x6_4).f0) : Int) := of_decide_eq_true ZZ853400
           have q41 : (((rd_T70 ((rd_T63 l0_1 x4_2).f2) x6_4).f0) : Int) < ((x3_4.length : Int) : Int) := of_decide_eq_true ZZ853400
           obtain ⟨go41, co41, eo41, gb41, gl41, cl41, HG41⟩ := Kd.R_form HO_3.out (by omega)
           (first | cases eo41 | (injection eo41 with ea_ en_ ec_; (first | subst ea_ | (injection ea_ with ea_; subst ea_)); subst ec_; clear en_))
           have GB41 := Aside0.mk gb41
           have GG41 := Aside0.mk HG41
           clear gb41 gl41 HG41
           (first | simp only [add_plain] at hx222_0 | skip)
           obtain ⟨hx41_0, hf41_0⟩ := Kd.R_celln 0 HO_3.out (((rd_T70 ((rd_T63 l0_1 x4_2).f2) x6_4).f0) : Int) p41 q41
           replace p41 := eq_true p41
           replace q41 := eq_true q41
           have HP49 := Kd.R_putn HO_3.out (((rd_T70 ((rd_T63 l0_1 x4_2).f2) x6_4).f0) : Int) (wrap64 ((rd x3_4 ((rd_T70 ((rd_T63 l0_1 x4_2).f2) x6_4).f0)) + ((rd_T70 ((rd_T63 l0_1 x4_2).f2) x6_4).f1)))
           rw [← Ny224.out] at HP49
           have HQ49 := Aside0.mk HP49
           clear HP49
           refine start_ (n := 15) (S := fun w' => w'.cell? ⟨gb218, 0, none⟩ = some (.int .i64 ((rd_T63 l0_1 x4_2).f0)) ∧ w'.cell? ⟨gb218, 1, none⟩ = some (.string ((rd_T63 l0_1 x4_2).f1)) ∧ w'.cell? ⟨gb218, 2, none⟩ = some (.slice (some ad221) ((rd_T63 l0_1 x4_2).f2).length c217_2) ∧ w'.cell? ⟨go41, (((rd_T70 ((rd_T63 l0_1 x4_2).f2) x6_4).f0)).toNat, none⟩ = some (.int .i64 (rd x3_4 ((rd_T70 ((rd_T63 l0_1 x4_2).f2) x6_4).f0))) ∧ w'.cell? (ad221.add ((x6_4).toNat * 2)) = some (.int .i64 ((rd_T70 ((rd_T63 l0_1 x4_2).f2) x6_4).f0)) ∧ w'.cell? ⟨(ad221.add ((x6_4).toNat * 2)).block, (ad221.add ((x6_4).toNat * 2)).off + 1, none⟩ = some (.int .i64 ((rd_T70 ((rd_T63 l0_1 x4_2).f2) x6_4).f1))) (ds := [14]) #[false, false, false, false, false, false, false, false, false, false, false, false, false, false, false] (by kernel_rfl) rfl rfl ⟨(blk_cell BK218.out 0).trans rfl, (blk_cell BK218.out 1).trans rfl, (blk_cell BK218.out 2).trans rfl, hx222_0, ((HB.out.cell (World.block_lt_of_cell? w _ hw223_0)).trans hw223_0), ((HB.out.cell (World.block_lt_of_cell? w _ hw223_1)).trans hw223_1)⟩ (fun hHeld => ?_); refine with_tabW spec_l26Good.tab14 spec_l26Good.bits14 (fun HT_ HW_ => ?_)
           generalize wr.drew = w47 at HO_3 BK212 BK218 HB GG41 HQ49 hf41_0 hx222_0 hx223_0 hx223_1 hx41_0 hHeld ⊢
           refine pu 0 69 ?_
           refine pu 1 70 ?_
           refine pu 2 71 ?_
           refine pu 3 72 ?_
           refine pu 4 73 ?_
           refine pu 6 75 ?_
           refine pu 8 77 ?_
           refine tk 5 74 ?_
           refine tk 7 76 ?_
           refine pu 9 78 ?_
           refine pu 10 79 ?_
           refine tk 11 80 ?_
           refine pu 12 81 ?_
           refine pu 13 82 ?_
           refine last_ (i := 14) (N := none) #[true, true, true, true, true, true, true, true, true, true, true, true, true, true, true] rfl rfl (one_of HT_.out (by kernel_rfl)) (by decide) (fun K hK => ?_)
           refine skip_ (w1 := ?_) (by rfl) rfl ?_ ?_
           rotate_left
           ·go_simp
            rfl
           refine hK.out _ _ ?_
           clear hK K
           refine done_ (done_of HT_.out (by kernel_rfl)) ?_
           have p42 : 0 ≤ (((rd_T70 ((rd_T63 l0_1 x4_2).f2) x6_4).f0) : Int) := of_decide_eq_true ZZ853400
           have q42 : (((rd_T70 ((rd_T63 l0_1 x4_2).f2) x6_4).f0) : Int) < ((x3_4.length : Int) : Int) := of_decide_eq_true ZZ853400
           replace p42 := eq_true p42
           replace q42 := eq_true q42
           by_cases c44 : t226 = true
           ·subst c44
            replace H := ifT H
            replace H := Aside0.mk H
            try go_wp2_with (first | (refine gc 87 Tryd.func71 #[.int .i64 (wrap64 ((rd x3_4 ((rd_T70 ((rd_T63 l0_1 x4_2).f2) x6_4).f0)) + ((rd_T70 ((rd_T63 l0_1 x4_2).f2) x6_4).f1)))] ?_; (with_reducible refine (spec_l2Amount.calls (wrap64 ((rd x3_4 ((rd_T70 ((rd_T63 l0_1 x4_2).f2) x6_4).f0)) + ((rd_T70 ((rd_T63 l0_1 x4_2).f2) x6_4).f1))) true _ A43.out).mono ?_); rintro e w' ⟨rfl, ⟨nd, rfl⟩⟩; refine ⟨_, rfl, ?_⟩))
            go_roundg k4
            case measure => have := HJ1.out; have := HK2.out; have := HJ15.out; have := HK4.out; omega
            case rel => exact ⟨(y224), (wrap64 (x6_4 + 1)), ZZ0ab324, H, kle, ⟨(by refine bR ?_; exact HQ49.out)⟩, ⟨(by refine bd ?_; refine blk_far ?_ (by have h_ := Kd.R_ne HO_3.out BK212.out (by decide); intro e_; exact h_ (by rw [e_]; rfl)) _; refine bd ?_; exact BK212.out)⟩, ⟨(by refine bd ?_; refine blk_far ?_ (by have h_ := Kd.R_ne HO_3.out BK218.out (by decide); intro e_; exact h_ (by rw [e_]; rfl)) _; refine bd ?_; exact BK218.out)⟩, ⟨(by repeat (first | (with_reducible first | exact HB.out | apply below_alloc | apply pw_below_drewN | apply below_drew1 | refine below_set ?_ GB41.out | refine below_set ?_ GE212.out | refine below_set ?_ GE218.out) | exact HB.out))⟩⟩
           replace c44 := Bool.eq_false_iff.mpr c44
           subst c44
           replace H := ifF H
           obtain rfl := Option.some.inj H
           try go_wp2_with (first | (refine gc 87 Tryd.func71 #[.int .i64 (wrap64 ((rd x3_4 ((rd_T70 ((rd_T63 l0_1 x4_2).f2) x6_4).f0)) + ((rd_T70 ((rd_T63 l0_1 x4_2).f2) x6_4).f1)))] ?_; (with_reducible refine (spec_l2Amount.calls (wrap64 ((rd x3_4 ((rd_T70 ((rd_T63 l0_1 x4_2).f2) x6_4).f0)) + ((rd_T70 ((rd_T63 l0_1 x4_2).f2) x6_4).f1))) false _ A43.out).mono ?_); rintro e w' ⟨rfl, ⟨nd, rfl⟩⟩; refine ⟨_, rfl, ?_⟩))
           go_ret
           exact ⟨ZZab01d2, (by repeat (first | (with_reducible first | exact HB.out | apply below_alloc | apply pw_below_drewN | apply below_drew1 | refine below_set ?_ GB41.out | refine below_set ?_ GE212.out | refine below_set ?_ GE218.out) | exact HB.out))⟩
          rw [if_neg c37] at H
          have c37b0 := decide_eq_false c37
          clear c37
          replace H := Aside0.mk H
          have hnb55 := NB218_212.out
          have hnc55 := NB212_218.out
          obtain ⟨hcz56_0, hcz56_1, hcz56_2, hfz56_0, hfz56_1, hfz56_2⟩ := z3 BK218
          go_wp2
          go_roundg k4
          case measure => have := HJ1.out; have := HK2.out; have := HJ15.out; have := HK4.out; omega
          case rel => exact ⟨(x3_4), (wrap64 (x4_2 + 1)), ZZ0ab324, H, kle, ⟨(zR HO_3)⟩, ⟨(zB BK212)⟩, ⟨ZZ295621⟩⟩
     rw [if_neg c14] at H
     have c14b0 := decide_eq_false c14
     clear c14
     obtain rfl := Option.some.inj H
     obtain ⟨hcz57_0, hcz57_1, hfz57_0, hfz57_1⟩ := z2 BK212
     go_wp2
     go_ret
     exact ⟨ZZab01d2, ZZ295621⟩
end Go.Proofs.YtccdjchaaeligaaDoor.XFnExactPostEntry

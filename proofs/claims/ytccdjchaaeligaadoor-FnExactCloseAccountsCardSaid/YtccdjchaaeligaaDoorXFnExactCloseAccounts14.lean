import Derived.Test.YtccdjchaaeligaaDoorXFnExactCloseAccounts5
import Derived.Test.YtccdjchaaeligaaDoorXFnExactCloseAccounts1
import Derived.Test.YtccdjchaaeligaaDoorXFnExactCloseAccounts0
import Derived.Test.YtccdjchaaeligaaDoorXFnExactCloseAccounts12
import Derived.Test.YtccdjchaaeligaaDoorXFnExactCloseAccounts13
namespace Go.Proofs.YtccdjchaaeligaaDoor.XFnExactCloseAccounts
open Go.Proofs.YtccdjchaaeligaaDoor.Short Go.RowKit Go.Proofs.YtccdjchaaeligaaDoorW.PrintWords Go.Proofs.YtccdjchaaeligaaDoorW.PrintLast Go.Proofs.YtccdjchaaeligaaDoorW.PrintMore
attribute [local go_sem] max2_int min2_int max_two min_two max_three min_three max_four min_four
set_option linter.unusedVariables false
set_option linter.unusedSimpArgs false
theorem ZZ9fed3c {p : Prop} (h : p := by subst hw_; refine bR ?_; exact Kd.R_mono (Kd.R_far (p := ⟨gb358, 2, none⟩) (Kd.R_far (p := ⟨gb358, 1, none⟩) (Kd.R_far (p := ⟨gb358, 0, none⟩) (Kd.R_types HO_3.out BK358.out (by decide)) (fun _ hk => hk.2) (.int .i64 ((rd_T63 l0_1 x4_2).f0))) (fun _ hk => hk.2) (.string ((rd_T63 l0_1 x4_2).f1))) (fun _ hk => hk.2) (.slice A357_2 ((rd_T63 l0_1 x4_2).f2).length c357_2)) (fun _ hk => trivial)) : p := h
theorem ZZd84199 {p : Prop} (h : p := by subst hw_; refine bd ?_; refine blk_far ?_ NB352_358.out _; refine bd ?_; refine blk_far ?_ NB352_358.out _; refine bd ?_; refine blk_far ?_ NB352_358.out _; refine bd ?_; exact BK352.out) : p := h
theorem ZZa7833e {p : Prop} (h : p := by subst hw_; refine bd ?_; refine blk_put (cs := #[.int .i64 ((rd_T63 l0_1 x4_2).f0), .string ((rd_T63 l0_1 x4_2).f1), .slice none 0 0]) ?_ 2 _ rfl; refine bd ?_; refine blk_put (cs := #[.int .i64 ((rd_T63 l0_1 x4_2).f0), .string (⟨#[]⟩ : ByteArray), .slice none 0 0]) ?_ 1 _ rfl; refine bd ?_; refine blk_put (cs := #[.int .i64 0, .string (⟨#[]⟩ : ByteArray), .slice none 0 0]) ?_ 0 _ rfl; refine bd ?_; exact BK358.out) : p := h
mutual
def spec_l26Good.j0 : Nat → Bool → List (S48) → List (S63) → Option (Bool)
 | 0, _, _, _ => none
 | k + 1, x17, x353000, x353001 => if x17 = true then (some false) else (if 0 ≤ (x353000.length : Int) then (if ((x353000.length : Int) : Int).toNat ≤ 35184372088832 then (spec_l26Good.l0 k (List.replicate ((x353000.length : Int) : Int).toNat 0) 0 x353000 x353001) else (none)) else (none))
def spec_l26Good.l0 : Nat → List Int → Int → List (S48) → List (S63) → Option (Bool)
 | 0, _, _, _, _ => none
 | k + 1, x3, x4, x353000, x353001 => if x4 < (x353001.length : Int) then (if 0 ≤ x4 then ((spec_l26Entry.f k ((rd_T63 x353001 x4).f0) ((rd_T63 x353001 x4).f1) ((rd_T63 x353001 x4).f2) (x353000.length : Int)).bind fun t359 => (if t359 = true then (if x4 > 0 then (if 0 ≤ (wrap64 (x4 - 1)) then (if (wrap64 (x4 - 1)) < (x353001.length : Int) then (spec_l26Good.j2 k x3 x4 (decide (((rd_T63 x353001 (wrap64 (x4 - 1))).f0) > ((rd_T63 x353001 x4).f0))) x353000 x353001 ((rd_T63 x353001 x4).f0) ((rd_T63 x353001 x4).f1) ((rd_T63 x353001 x4).f2)) else (none)) else (none)) else (spec_l26Good.j2 k x3 x4 false x353000 x353001 ((rd_T63 x353001 x4).f0) ((rd_T63 x353001 x4).f1) ((rd_T63 x353001 x4).f2))) else (spec_l26Good.j2 k x3 x4 true x353000 x353001 ((rd_T63 x353001 x4).f0) ((rd_T63 x353001 x4).f1) ((rd_T63 x353001 x4).f2)))) else (none)) else (some true)
def spec_l26Good.j2 : Nat → List Int → Int → Bool → List (S48) → List (S63) → Int → ByteArray → List (S70) → Option (Bool)
 | 0, _, _, _, _, _, _, _, _ => none
 | k + 1, x3, x4, x55, x353000, x353001, x359000, x359001, x359002 => if x55 = true then (some false) else (spec_l26Good.l1 k x3 x4 0 x353000 x353001 x359000 x359001 x359002)
def spec_l26Good.l1 : Nat → List Int → Int → Int → List (S48) → List (S63) → Int → ByteArray → List (S70) → Option (Bool)
 | 0, _, _, _, _, _, _, _, _ => none
 | k + 1, x3, x4, x6, x353000, x353001, x359000, x359001, x359002 => if x6 < (x359002.length : Int) then (if 0 ≤ x6 then (if 0 ≤ ((rd_T70 x359002 x6).f0) then (if ((rd_T70 x359002 x6).f0) < (x3.length : Int) then ((spec_l2Amount.f (wrap64 ((rd x3 ((rd_T70 x359002 x6).f0)) + ((rd_T70 x359002 x6).f1)))).bind fun t366 => (if t366 = true then (spec_l26Good.l1 k (x3.set (((rd_T70 x359002 x6).f0) : Int).toNat (wrap64 ((rd x3 ((rd_T70 x359002 x6).f0)) + ((rd_T70 x359002 x6).f1)))) x4 (wrap64 (x6 + 1)) x353000 x353001 x359000 x359001 x359002) else (some false))) else (none)) else (none)) else (none)) else (spec_l26Good.l0 k x3 (wrap64 (x4 + 1)) x353000 x353001)
end
def spec_l26Good.f (k : Nat) (l0_0 : List (S48)) (l0_1 : List (S63)) : Option (Bool) := (spec_l26Accounts.f k l0_0).bind fun t353 => (if t353 = true then (spec_l26Good.j0 k (decide ((l0_1.length : Int) > 40)) l0_0 l0_1) else (spec_l26Good.j0 k true l0_0 l0_1))
theorem spec_l26Good.mono_l : ∀ k, (∀ y0 y1 y2, LeO (spec_l26Good.j0 k y0 y1 y2) (spec_l26Good.j0 (k + 1) y0 y1 y2)) ∧ (∀ y0 y1 y2 y3, LeO (spec_l26Good.l0 k y0 y1 y2 y3) (spec_l26Good.l0 (k + 1) y0 y1 y2 y3)) ∧ (∀ y0 y1 y2 y3 y4 y5 y6 y7, LeO (spec_l26Good.j2 k y0 y1 y2 y3 y4 y5 y6 y7) (spec_l26Good.j2 (k + 1) y0 y1 y2 y3 y4 y5 y6 y7)) ∧ (∀ y0 y1 y2 y3 y4 y5 y6 y7, LeO (spec_l26Good.l1 k y0 y1 y2 y3 y4 y5 y6 y7) (spec_l26Good.l1 (k + 1) y0 y1 y2 y3 y4 y5 y6 y7))
 | 0 => ⟨fun _ _ _ r h => by simp [spec_l26Good.j0] at h, fun _ _ _ _ r h => by simp [spec_l26Good.l0] at h, fun _ _ _ _ _ _ _ _ r h => by simp [spec_l26Good.j2] at h, fun _ _ _ _ _ _ _ _ r h => by simp [spec_l26Good.l1] at h⟩
 | k + 1 => by
  obtain ⟨ih0, ih1, ih2, ih3⟩ := spec_l26Good.mono_l k
  refine ⟨?_, ?_, ?_, ?_⟩
  all_goals intros
  all_goals (first | unfold spec_l26Good.j0 | unfold spec_l26Good.l0 | unfold spec_l26Good.j2 | unfold spec_l26Good.l1)
  all_goals
   repeat' with_reducible first | apply ih0 | apply ih1 | apply ih2 | apply ih3 | apply spec_l26Accounts.mono | apply spec_l26Entry.mono | exact LeO.refl _ | exact LeO.none _ | refine LeO.ite ?_ ?_ | refine LeO.bind ?_ (fun _ => ?_)
theorem spec_l26Good.mono : ∀ a0 a1 k, LeO (spec_l26Good.f k a0 a1) (spec_l26Good.f (k + 1) a0 a1) := by
 intro a0 a1 k
 obtain ⟨ih0, ih1, ih2, ih3⟩ := spec_l26Good.mono_l k
 unfold spec_l26Good.f
 repeat' with_reducible first | apply ih0 | apply ih1 | apply ih2 | apply ih3 | apply spec_l26Accounts.mono | apply spec_l26Entry.mono | exact LeO.refl _ | exact LeO.none _ | refine LeO.ite ?_ ?_ | refine LeO.bind ?_ (fun _ => ?_)
def spec_l26Good.T8 : Bool × List (List Nat × List Nat) := (true, [([], []), ([], []), ([1], [1]), ([2], [2]), ([0, 3], [0, 3]), ([4], [4]), ([5, 4], [5]), ([6], [6]), ([7, 6], [6, 7]), ([8, 6, 6], [6, 8]), ([9], [9]), ([10, 9], [9, 10]), ([9], [9]), ([12, 9], [9, 12]), ([11, 13, 9], [9, 11, 13]), ([14, 9], [9, 14]), ([15, 9], [9, 15]), ([9], [9]), ([17, 9], [9, 17]), ([16, 18, 9], [9, 16, 18]), ([9, 19, 6], [6, 9, 19]), ([6, 20], [6, 20])])
def spec_l26Good.B8 : List Nat := [0, 0, 2, 6, 15, 31, 63, 127, 255, 511, 1023, 2047, 1023, 5119, 16383, 32767, 65535, 1023, 132095, 524287, 1048575, 2097151]
theorem spec_l26Good.tab8 : rtab .any (opsOf Tryd.f52 8) = spec_l26Good.T8 := by kernel_rfl
theorem spec_l26Good.bits8 : waitsOk spec_l26Good.T8.2 spec_l26Good.B8 = true := by kernel_rfl
def spec_l26Good.T14 : Bool × List (List Nat × List Nat) := (true, [([], []), ([], []), ([], []), ([], []), ([2, 3], [2, 3]), ([4], [4]), ([], []), ([6], [6]), ([], []), ([7, 8], [7, 8]), ([9], [9]), ([10], [10]), ([5, 11], [5, 11]), ([0, 1, 0, 1, 2, 3, 4, 5, 6, 7, 8, 9, 10, 11, 12], [0, 1]), ([13, 12, 0, 1, 2, 3, 4, 5, 6, 7, 8, 9, 10, 11, 12], [12, 13])])
def spec_l26Good.B14 : List Nat := [0, 0, 0, 0, 12, 28, 0, 64, 0, 448, 960, 1984, 4092, 8191, 16383]
theorem spec_l26Good.tab14 : rtab .any (opsOf Tryd.f52 14) = spec_l26Good.T14 := by kernel_rfl
theorem spec_l26Good.bits14 : waitsOk spec_l26Good.T14.2 spec_l26Good.B14 = true := by kernel_rfl
set_option maxHeartbeats 8000000 in
set_option maxRecDepth 100000 in
theorem spec_l26Good.calls (k : Nat) (A0_0 : Option Addr) (c0_0 : Nat) (l0_0 : List (S48)) (A0_1 : Option Addr) (c0_1 : Nat) (l0_1 : List (S63)) (r : Bool) (w : World) (hr0_0 : Kd.C k48 w A0_0 l0_0.length l0_0) (hc0_0 : l0_0.length ≤ c0_0) (hr0_1 : Kd.C k63 w A0_1 l0_1.length l0_1) (hc0_1 : l0_1.length ≤ c0_1) (h : spec_l26Good.f k l0_0 l0_1 = some r) :
 Calls Tryd.prog 52 #[.agg #[.slice A0_0 l0_0.length c0_0, .slice A0_1 l0_1.length c0_1]] w fun e w' => e = .returned (.bool r) ∧ Below w.heap.size w w' := by
 have hu31 := Tryd.underlying31
 have hu63 := Tryd.underlying63
 have HR0_0 := Aside0.mk hr0_0
 have HC0_0 := Aside0.mk hc0_0
 clear hr0_0 hc0_0
 have HR0_1 := Aside0.mk hr0_1
 have HC0_1 := Aside0.mk hc0_1
 clear hr0_1 hc0_1
 have HB := Aside0.mk (Below.refl w.heap.size w)
 have H := h
 clear h
 unfold spec_l26Good.f at H
 have HC2 := Aside0.mk H
 clear H
 go_enter Tryd.func52, Tryd.ntmps52
 go_upto_region 1 with (first | ((with_reducible refine gate_dst (N := 1) rfl ?_); (try (refine gate_guard (by rfl) ?_; dsimp only)); refine bx 1 (cs := #[.slice A0_0 l0_0.length c0_0, .slice A0_1 l0_1.length c0_1]) (t := 31) ?_; intro gb352 hg w3 hbox hb; have BK352 := Aside0.mk (hbox); have GW352 := gw hg; have GE352 := gw hg; replace HB := hB hb; clear hb hbox hg))
 (try simp only [Act.put, List.setIfInBounds_toArray, List.set_cons_zero, List.set_cons_succ])
 go_cut [17] (fun v17 wc => ∃ (kq : Nat) (x17_1 : Bool), v17 = .bool x17_1 ∧ Aside0 (spec_l26Good.j0 kq x17_1 l0_0 l0_1 = some r) ∧ Aside0 (kq ≤ k) ∧ Aside0 (wc.heap[gb352]? = some (.cells #[(.slice A0_0 l0_0.length c0_0), (.slice A0_1 l0_1.length c0_1)] 31 (0, 0))) ∧ Aside0 (Below w.heap.size w wc))
 case first =>
  have H := HC2.out
  clear HC2
  obtain ⟨t353, A4, H⟩ := bdY H
  by_cases c5 : t353 = true
  ·subst c5
   replace H := ifT H
   replace H := Aside0.mk H
   obtain ⟨hcz6_0, hcz6_1, hfz6_0, hfz6_1⟩ := z2 BK352
   go_wp2_with (first | (refine gc 10 Tryd.func101 #[.slice A0_0 l0_0.length c0_0] ?_; (with_reducible refine (spec_l26Accounts.calls k _ _ l0_0 true _ ?side1 ?side2 A4.out).mono ?_); (case side1 => exact (rC (Kd.C_below HR0_0.out HB.out))); (case side2 => exact HC0_0.out); rintro e w' ⟨rfl, ⟨nd, rfl⟩⟩; refine ⟨_, rfl, ?_⟩))
   go_meet
   case rel => exact ⟨_, (decide ((l0_1.length : Int) > 40)), ZZ0ab324, H, kle, ⟨(zB BK352)⟩, ⟨ZZ295621⟩⟩
  replace c5 := Bool.eq_false_iff.mpr c5
  subst c5
  replace H := ifF H
  replace H := Aside0.mk H
  obtain ⟨hcz7_0, hcz7_1, hfz7_0, hfz7_1⟩ := z2 BK352
  go_wp2_with (first | (refine gc 10 Tryd.func101 #[.slice A0_0 l0_0.length c0_0] ?_; (with_reducible refine (spec_l26Accounts.calls k _ _ l0_0 false _ ?side1 ?side2 A4.out).mono ?_); (case side1 => exact (rC (Kd.C_below HR0_0.out HB.out))); (case side2 => exact HC0_0.out); rintro e w' ⟨rfl, ⟨nd, rfl⟩⟩; refine ⟨_, rfl, ?_⟩))
  go_meet
  case rel => exact ⟨_, (true), ZZ0ab324, H, kle, ⟨(zB BK352)⟩, ⟨ZZ295621⟩⟩
 case rest =>
  clear HC2
  try clear c5
  try clear hcz6_0
  try clear hcz6_1
  try clear hcz7_0
  try clear hcz7_1
  try clear hfz6_0
  try clear hfz6_1
  try clear hfz7_0
  try clear hfz7_1
  obtain ⟨kq, x17_1, rfl, HA, HJ1, BK352, HB⟩ := hcut
  cases kq with
  | zero => exact absurd HA.out (by simp [spec_l26Good.j0])
  | succ kj1 =>
   have H := HA.out
   clear HA
   simp only [spec_l26Good.j0] at H
   by_cases c8 : x17_1 = true
   ·subst c8
    replace H := ifT H
    obtain rfl := Option.some.inj H
    go_wp2
    go_ret
    exact ⟨ZZab01d2, ZZ295621⟩
   replace c8 := Bool.eq_false_iff.mpr c8
   subst c8
   replace H := ifF H
   obtain ⟨c9b0, c9b1, H⟩ := ifYe H
   obtain ⟨c10b0, c10b1, H⟩ := ifYe H
   try rw [Option.bind_some] at H
   generalize hy354 : (List.replicate ((l0_0.length : Int) : Int).toNat 0 : List Int) = y354 at H
   have Ny354 := Aside0.mk hy354.symm
   clear hy354
   replace H := Aside0.mk H
   obtain ⟨hcz11_0, hcz11_1, hfz11_0, hfz11_1⟩ := z2 BK352
   go_wp2_with (first | ((with_reducible refine gate_dst (N := 21) rfl ?_); (try (refine gate_guard (by rfl) ?_; dsimp only)); refine Kd.R_make (Kd.int .i64) _ 3 rfl (N := 21) rfl 44 _ _ rfl (l0_0.length : Int) rfl rfl Tryd.underlying44 (.int .i64 0) 8 info3 rfl (by decide) (by omega) 0 (ok := fun _ => True) (okp := fun _ => True) rfl (fun _ hk => hk) trivial (of_decide_eq_true ZZ853400) (Nat.le_trans (Nat.mul_le_mul_right _ (of_decide_eq_true ZZ853400 : (l0_0.length : Int).toNat ≤ 35184372088832)) (by omega)) (Below.refl _ _) (Nat.le_refl _) ?_; intro v355 w12 ho13 hb hg_ hnew_; clear hg_ hnew_; (first | rw [← Ny354.out] at ho13 | (simp only [Int.reduceToNat] at ho13; rw [← Ny354.out] at ho13)); have HO356 := Aside0.mk (Kd.R_lower ho13 (below_size ZZ295621)); replace BK352 := kb BK352 hb; replace HB := hB hb; clear hb ho13))
   go_loopg [4] kj1 (fun kq v4 w' => ∃ (x3_2 : List Int) (x4_2 : Int), v4 = .int .i64 x4_2 ∧ Aside0 (spec_l26Good.l0 kq x3_2 x4_2 l0_0 l0_1 = some r) ∧ Aside0 (kq ≤ kj1) ∧ Aside0 (Kd.R (Kd.int .i64) 3 w' w.heap.size (fun _ => True) v355 x3_2) ∧ Aside0 (w'.heap[gb352]? = some (.cells #[(.slice A0_0 l0_0.length c0_0), (.slice A0_1 l0_1.length c0_1)] 31 (0, 0))) ∧ Aside0 (Below w.heap.size w w'))
   case atStart => exact ⟨(y354), (0), ZZ0ab324, H, ⟨Nat.le_refl _⟩, ⟨(zR HO356)⟩, ⟨(zB BK352)⟩, ⟨ZZ295621⟩⟩
   case round =>
    clear H
    try clear c8
    try clear c9b0
    try clear c9b1
    try clear c10b0
    try clear c10b1
    try clear hcz11_0
    try clear hcz11_1
    try clear hfz11_0
    try clear hfz11_1
    obtain ⟨x3_2, x4_2, rfl, HA, HK2, HO_3, BK352, HB⟩ := hrel
    cases gk with
    | zero => exact absurd HA.out (by simp [spec_l26Good.l0])
    | succ k2 =>
     have H := HA.out
     clear HA
     simp only [spec_l26Good.l0] at H
     by_cases c14 : x4_2 < (l0_1.length : Int)
     ·rw [if_pos c14] at H
      have c14b0 := decide_eq_true c14
      clear c14
      obtain ⟨c15b0, H⟩ := ifYd H
      have HC16 := Aside0.mk H
      clear H
      obtain ⟨hcz17_0, hcz17_1, hfz17_0, hfz17_1⟩ := z2 BK352
      have p357 : 0 ≤ (x4_2 : Int) := of_decide_eq_true ZZ853400
      have q357 : x4_2 < (l0_1.length : Int) := of_decide_eq_true ZZ853400
      obtain ⟨ad357, A357_2, c357_2, e357, hx357_0, hx357_1, hx357_2, hl357_2, hi357_2⟩ := at_T63 HR0_1.out x4_2 p357 q357
      cases e357
      replace hx357_0 := (HB.out.cell (World.block_lt_of_cell? w _ hx357_0)).trans hx357_0
      replace hx357_1 := (HB.out.cell (World.block_lt_of_cell? w _ hx357_1)).trans hx357_1
      replace hx357_2 := (HB.out.cell (World.block_lt_of_cell? w _ hx357_2)).trans hx357_2
      have HR357_2 := Aside0.mk hi357_2
      have HC357_2 := Aside0.mk hl357_2
      clear hi357_2 hl357_2
      replace p357 := eq_true p357
      replace q357 := eq_true q357
      go_upto_region 8 with (first | ((with_reducible refine gate_dst (N := 5) rfl ?_); (try (refine gate_guard (by rfl) ?_; dsimp only)); refine bx 5 (cs := #[.int .i64 0, .string (⟨#[]⟩ : ByteArray), .slice none 0 0]) (t := 63) ?_; intro gb358 hg w18 hbox hb; replace HO_3 := Aside0.mk (Kd.R_below (zR HO_3) hb); have BK358 := Aside0.mk (hbox); have GW358 := gw hg; have GE358 := gw hg; replace HB := hB hb; have NB352_358 := nl hg BK352; have NB358_352 := ng hg BK352; replace BK352 := kb BK352 hb; clear hb hbox hg; have hnb19 := NB358_352.out; have hnc19 := NB352_358.out; obtain ⟨hcz20_0, hcz20_1, hcz20_2, hfz20_0, hfz20_1, hfz20_2⟩ := z3 BK358))
      (try simp only [Act.put, List.setIfInBounds_toArray, List.set_cons_zero, List.set_cons_succ])
      go_cut [55] (fun v55 wc => ∃ (kq : Nat) (x55_15 : Bool), v55 = .bool x55_15 ∧ Aside0 (spec_l26Good.j2 kq x3_2 x4_2 x55_15 l0_0 l0_1 ((rd_T63 l0_1 x4_2).f0) ((rd_T63 l0_1 x4_2).f1) ((rd_T63 l0_1 x4_2).f2) = some r) ∧ Aside0 (kq ≤ k2) ∧ Aside0 (Kd.R (Kd.int .i64) 3 wc w.heap.size (fun _ => True) v355 x3_2) ∧ Aside0 (wc.heap[gb352]? = some (.cells #[(.slice A0_0 l0_0.length c0_0), (.slice (some ad357) l0_1.length c0_1)] 31 (0, 0))) ∧ Aside0 (wc.heap[gb358]? = some (.cells #[.int .i64 ((rd_T63 l0_1 x4_2).f0), .string ((rd_T63 l0_1 x4_2).f1), (.slice A357_2 ((rd_T63 l0_1 x4_2).f2).length c357_2)] 63 (0, 0))) ∧ Aside0 (Below w.heap.size w wc))
      case first =>
       have H := HC16.out
       clear HC16
       obtain ⟨t359, A21, H⟩ := bdY H
       by_cases c22 : t359 = true
       ·subst c22
        replace H := ifT H
        by_cases c23 : x4_2 > 0
        ·rw [if_pos c23] at H
         have c23b0 : decide (0 < x4_2) = true := decide_eq_true c23
         clear c23
         (first | rw [c23b0] | (simp only [i64_w, i32_w]; rw [c23b0]) | skip)
         obtain ⟨ji24, hji24⟩ : ∃ j_ : Int, (wrap64 (x4_2 - 1)) = j_ := ⟨_, rfl⟩
         (first | rw [hji24] at H | simp only [hji24] at H)
         (try rw [hji24] at A21)
         have hji24w : (IntKind.i64.wrap (x4_2 - 1)) = ji24 := (i64_w _).trans hji24
         obtain ⟨c25b0, H⟩ := ifYd H
         obtain ⟨c26b0, H⟩ := ifYd H
         replace H := Aside0.mk H
         try go_wp2
         generalize hw_ : (((w18.setCell ⟨gb358, 0, none⟩ (.int .i64 ((rd_T63 l0_1 x4_2).f0))).setCell ⟨gb358, 1, none⟩ (.string ((rd_T63 l0_1 x4_2).f1))).setCell ⟨gb358, 2, none⟩ (.slice A357_2 ((rd_T63 l0_1 x4_2).f2).length c357_2)) = w27
         replace HO_3 : Aside0 (Kd.R (Kd.int .i64) 3 w27 w.heap.size (fun _ => True) v355 x3_2) := ⟨ZZ9fed3c⟩
         replace BK352 : Aside0 (w27.heap[gb352]? = some (.cells #[.slice A0_0 l0_0.length c0_0, .slice (some ad357) l0_1.length c0_1] 31 (0, 0))) := ⟨ZZd84199⟩
         replace BK358 : Aside0 (w27.heap[gb358]? = some (.cells #[.int .i64 ((rd_T63 l0_1 x4_2).f0), .string ((rd_T63 l0_1 x4_2).f1), .slice A357_2 ((rd_T63 l0_1 x4_2).f2).length c357_2] 63 (0, 0))) := ⟨ZZa7833e⟩
         replace HB : Aside0 (Below w.heap.size w w27) := ⟨ZZ0d0602⟩
         clear hw_
         replace HO_3 := Aside0.mk (Kd.R_drew HO_3.out)
         replace BK352 := Aside0.mk (blk_drew BK352.out)
         replace BK358 := Aside0.mk (blk_drew BK358.out)
         replace HB := Aside0.mk (below_drew1 HB.out)
         have p360 : 0 ≤ ((ji24) : Int) := of_decide_eq_true ZZ853400
         have q360 : (ji24) < (l0_1.length : Int) := of_decide_eq_true ZZ853400
         obtain ⟨ad360, A360_2, c360_2, e360, hx360_0, hx360_1, hx360_2, hl360_2, hi360_2⟩ := at_T63 HR0_1.out (ji24) p360 q360
         have hw360_2 := hx360_2
         have hw360_1 := hx360_1
         have hw360_0 := hx360_0
         obtain rfl : ad357 = ad360 := (by injection e360)
         replace hx360_0 := (HB.out.cell (World.block_lt_of_cell? w _ hx360_0)).trans hx360_0
         replace hx360_1 := (HB.out.cell (World.block_lt_of_cell? w _ hx360_1)).trans hx360_1
         replace hx360_2 := (HB.out.cell (World.block_lt_of_cell? w _ hx360_2)).trans hx360_2
         have HR360_2 := Aside0.mk hi360_2
         have HC360_2 := Aside0.mk hl360_2
         clear hi360_2 hl360_2
         replace p360 := eq_true p360
         replace q360 := eq_true q360
         refine st 22 (S := fun w' => w'.cell? ⟨gb358, 0, none⟩ = some (.int .i64 ((rd_T63 l0_1 x4_2).f0)) ∧ w'.cell? ⟨gb358, 1, none⟩ = some (.string ((rd_T63 l0_1 x4_2).f1)) ∧ w'.cell? ⟨gb358, 2, none⟩ = some (.slice A357_2 ((rd_T63 l0_1 x4_2).f2).length c357_2) ∧ w'.cell? ⟨gb352, 0, none⟩ = some (.slice A0_0 l0_0.length c0_0) ∧ w'.cell? ⟨gb352, 1, none⟩ = some (.slice (some ad357) l0_1.length c0_1) ∧ w'.cell? (ad357.add (((ji24)).toNat * 3)) = some (.int .i64 ((rd_T63 l0_1 (ji24)).f0)) ∧ w'.cell? ⟨(ad357.add (((ji24)).toNat * 3)).block, (ad357.add (((ji24)).toNat * 3)).off + 1, none⟩ = some (.string ((rd_T63 l0_1 (ji24)).f1)) ∧ w'.cell? ⟨(ad357.add (((ji24)).toNat * 3)).block, (ad357.add (((ji24)).toNat * 3)).off + 2, none⟩ = some (.slice A360_2 ((rd_T63 l0_1 (ji24)).f2).length c360_2)) spec_l26Good.tab8 spec_l26Good.bits8 zK (fun hHeld HT_ HW_ => ?_)
         generalize w27.drew = w28 at HO_3 BK352 BK358 HB HR360_2 hx360_0 hx360_1 hx360_2 hHeld ⊢
         refine pu 1 35 ?_
         refine tk 0 34 ?_
         refine tk 2 36 ?_
         refine pu 3 37 ?_
         refine on1 4 38 Tryd.func102 #[.agg #[.int .i64 ((rd_T63 l0_1 x4_2).f0), .string ((rd_T63 l0_1 x4_2).f1), .slice A357_2 ((rd_T63 l0_1 x4_2).f2).length c357_2], .int .i64 (l0_0.length : Int)] (spec_l26Entry.calls k2 ((rd_T63 l0_1 x4_2).f0) ((rd_T63 l0_1 x4_2).f1) _ _ ((rd_T63 l0_1 x4_2).f2) (l0_0.length : Int) true _ ?side1 ?side2 A21.out) ?_
         (case side1 => exact (rC (Kd.C_below HR357_2.out HB.out)))
         (case side2 => exact HC357_2.out)
         rintro w29 hb
         replace HO_3 := Aside0.mk (Kd.R_below (zR HO_3) hb)
         replace BK352 := kb BK352 hb
         replace BK358 := kb BK358 hb
         replace HB := hB hb
         (try clear hb)
         (try clear hb2)
         (try clear hk)
         (try clear hi)
         refine ⟨zK, fun hHeld => ?_⟩
         refine pu 5 39 ?_
         refine pu 6 40 ?_
         refine pu 7 41 ?_
         refine pu 8 42 ?_
         refine pu 9 43 ?_
         refine pu 10 44 ?_
         refine pu 12 46 ?_
         refine pu 13 47 ?_
         refine pu 17 51 ?_
         refine tk 11 45 ?_
         refine pu 14 48 ?_
         refine pu 15 49 ?_
         refine tk 16 50 ?_
         refine tk 18 52 ?_
         refine pu 19 53 ?_
         refine pu 20 54 ?_
         refine pu 21 55 ?_
         refine done_ (done_of HT_.out (by kernel_rfl)) ?_
         try go_wp2
         go_meet
         case rel => exact ⟨_, (decide (((rd_T63 l0_1 (ji24)).f0) > ((rd_T63 l0_1 x4_2).f0))), (by first | rfl | (simp; done) | (simp only [← hji24] <;> (first | rfl | simp)) | (simp [*]; done)), H, kle, ⟨(zR HO_3)⟩, ⟨(zB BK352)⟩, ⟨(zB BK358)⟩, ⟨ZZ295621⟩⟩
        rw [if_neg c23] at H
        have c23b0 : decide (0 < x4_2) = false := decide_eq_false c23
        clear c23
        (first | rw [c23b0] | (simp only [i64_w, i32_w]; rw [c23b0]) | skip)
        replace H := Aside0.mk H
        try go_wp2
        generalize hw_ : (((w18.setCell ⟨gb358, 0, none⟩ (.int .i64 ((rd_T63 l0_1 x4_2).f0))).setCell ⟨gb358, 1, none⟩ (.string ((rd_T63 l0_1 x4_2).f1))).setCell ⟨gb358, 2, none⟩ (.slice A357_2 ((rd_T63 l0_1 x4_2).f2).length c357_2)) = w30
        replace HO_3 : Aside0 (Kd.R (Kd.int .i64) 3 w30 w.heap.size (fun _ => True) v355 x3_2) := ⟨ZZ9fed3c⟩
        replace BK352 : Aside0 (w30.heap[gb352]? = some (.cells #[.slice A0_0 l0_0.length c0_0, .slice (some ad357) l0_1.length c0_1] 31 (0, 0))) := ⟨ZZd84199⟩
        replace BK358 : Aside0 (w30.heap[gb358]? = some (.cells #[.int .i64 ((rd_T63 l0_1 x4_2).f0), .string ((rd_T63 l0_1 x4_2).f1), .slice A357_2 ((rd_T63 l0_1 x4_2).f2).length c357_2] 63 (0, 0))) := ⟨ZZa7833e⟩
        replace HB : Aside0 (Below w.heap.size w w30) := ⟨ZZ0d0602⟩
        clear hw_
        replace HO_3 := Aside0.mk (Kd.R_drew HO_3.out)
        replace BK352 := Aside0.mk (blk_drew BK352.out)
        replace BK358 := Aside0.mk (blk_drew BK358.out)
        replace HB := Aside0.mk (below_drew1 HB.out)
        refine st 22 (S := fun w' => w'.cell? ⟨gb358, 0, none⟩ = some (.int .i64 ((rd_T63 l0_1 x4_2).f0)) ∧ w'.cell? ⟨gb358, 1, none⟩ = some (.string ((rd_T63 l0_1 x4_2).f1)) ∧ w'.cell? ⟨gb358, 2, none⟩ = some (.slice A357_2 ((rd_T63 l0_1 x4_2).f2).length c357_2) ∧ w'.cell? ⟨gb352, 0, none⟩ = some (.slice A0_0 l0_0.length c0_0) ∧ w'.cell? ⟨gb352, 1, none⟩ = some (.slice (some ad357) l0_1.length c0_1)) spec_l26Good.tab8 spec_l26Good.bits8 zK (fun hHeld HT_ HW_ => ?_)
        generalize w30.drew = w31 at HO_3 BK352 BK358 HB hHeld ⊢
        refine pu 1 35 ?_
        refine tk 0 34 ?_
        refine tk 2 36 ?_
        refine pu 3 37 ?_
        refine on1 4 38 Tryd.func102 #[.agg #[.int .i64 ((rd_T63 l0_1 x4_2).f0), .string ((rd_T63 l0_1 x4_2).f1), .slice A357_2 ((rd_T63 l0_1 x4_2).f2).length c357_2], .int .i64 (l0_0.length : Int)] (spec_l26Entry.calls k2 ((rd_T63 l0_1 x4_2).f0) ((rd_T63 l0_1 x4_2).f1) _ _ ((rd_T63 l0_1 x4_2).f2) (l0_0.length : Int) true _ ?side1 ?side2 A21.out) ?_
        (case side1 => exact (rC (Kd.C_below HR357_2.out HB.out)))
        (case side2 => exact HC357_2.out)
        rintro w32 hb
        replace HO_3 := Aside0.mk (Kd.R_below (zR HO_3) hb)
        replace BK352 := kb BK352 hb
        replace BK358 := kb BK358 hb
        replace HB := hB hb
        (try clear hb)
        (try clear hb2)
        (try clear hk)
        (try clear hi)
        refine ⟨zK, fun hHeld => ?_⟩
        refine pu 5 39 ?_
        refine pu 6 40 ?_
        refine pu 7 41 ?_
        refine pu 8 42 ?_
        refine pu 9 43 ?_
        refine pn 10 44 ?_
        refine pn 11 45 ?_
        refine pn 12 46 ?_
        refine pn 13 47 ?_
        refine pn 14 48 ?_
        refine pn 15 49 ?_
        refine pn 16 50 ?_
        refine pn 17 51 ?_
        refine pn 18 52 ?_
        refine pn 19 53 ?_
        refine pu 20 54 ?_
        refine pu 21 55 ?_
        refine done_ (done_of HT_.out (by kernel_rfl)) ?_
        try go_wp2
        go_meet
        case rel => exact ⟨_, (false), ZZ0ab324, H, kle, ⟨(zR HO_3)⟩, ⟨(zB BK352)⟩, ⟨(zB BK358)⟩, ⟨ZZ295621⟩⟩
       replace c22 := Bool.eq_false_iff.mpr c22
       subst c22
       replace H := ifF H
       replace H := Aside0.mk H
       try go_wp2
       generalize hw_ : (((w18.setCell ⟨gb358, 0, none⟩ (.int .i64 ((rd_T63 l0_1 x4_2).f0))).setCell ⟨gb358, 1, none⟩ (.string ((rd_T63 l0_1 x4_2).f1))).setCell ⟨gb358, 2, none⟩ (.slice A357_2 ((rd_T63 l0_1 x4_2).f2).length c357_2)) = w33
       replace HO_3 : Aside0 (Kd.R (Kd.int .i64) 3 w33 w.heap.size (fun _ => True) v355 x3_2) := ⟨ZZ9fed3c⟩
       replace BK352 : Aside0 (w33.heap[gb352]? = some (.cells #[.slice A0_0 l0_0.length c0_0, .slice (some ad357) l0_1.length c0_1] 31 (0, 0))) := ⟨ZZd84199⟩
       replace BK358 : Aside0 (w33.heap[gb358]? = some (.cells #[.int .i64 ((rd_T63 l0_1 x4_2).f0), .string ((rd_T63 l0_1 x4_2).f1), .slice A357_2 ((rd_T63 l0_1 x4_2).f2).length c357_2] 63 (0, 0))) := ⟨ZZa7833e⟩
       replace HB : Aside0 (Below w.heap.size w w33) := ⟨ZZ0d0602⟩
       clear hw_
       replace HO_3 := Aside0.mk (Kd.R_drew HO_3.out)
       replace BK352 := Aside0.mk (blk_drew BK352.out)
       replace BK358 := Aside0.mk (blk_drew BK358.out)
       replace HB := Aside0.mk (below_drew1 HB.out)
       refine st 22 (S := fun w' => w'.cell? ⟨gb358, 0, none⟩ = some (.int .i64 ((rd_T63 l0_1 x4_2).f0)) ∧ w'.cell? ⟨gb358, 1, none⟩ = some (.string ((rd_T63 l0_1 x4_2).f1)) ∧ w'.cell? ⟨gb358, 2, none⟩ = some (.slice A357_2 ((rd_T63 l0_1 x4_2).f2).length c357_2) ∧ w'.cell? ⟨gb352, 0, none⟩ = some (.slice A0_0 l0_0.length c0_0) ∧ w'.cell? ⟨gb352, 1, none⟩ = some (.slice (some ad357) l0_1.length c0_1)) spec_l26Good.tab8 spec_l26Good.bits8 zK (fun hHeld HT_ HW_ => ?_)
       generalize w33.drew = w34 at HO_3 BK352 BK358 HB hHeld ⊢
       refine pu 1 35 ?_
       refine tk 0 34 ?_
       refine tk 2 36 ?_
       refine pu 3 37 ?_
       refine on1 4 38 Tryd.func102 #[.agg #[.int .i64 ((rd_T63 l0_1 x4_2).f0), .string ((rd_T63 l0_1 x4_2).f1), .slice A357_2 ((rd_T63 l0_1 x4_2).f2).length c357_2], .int .i64 (l0_0.length : Int)] (spec_l26Entry.calls k2 ((rd_T63 l0_1 x4_2).f0) ((rd_T63 l0_1 x4_2).f1) _ _ ((rd_T63 l0_1 x4_2).f2) (l0_0.length : Int) false _ ?side1 ?side2 A21.out) ?_
       (case side1 => exact (rC (Kd.C_below HR357_2.out HB.out)))
       (case side2 => exact HC357_2.out)
       rintro w35 hb
       replace HO_3 := Aside0.mk (Kd.R_below (zR HO_3) hb)
       replace BK352 := kb BK352 hb
       replace BK358 := kb BK358 hb
       replace HB := hB hb
       (try clear hb)
       (try clear hb2)
       (try clear hk)
       (try clear hi)
       refine ⟨zK, fun hHeld => ?_⟩
       refine pu 5 39 ?_
       refine pu 6 40 ?_
       refine pn 7 41 ?_
       refine pn 8 42 ?_
       refine pn 9 43 ?_
       refine pn 10 44 ?_
       refine pn 11 45 ?_
       refine pn 12 46 ?_
       refine pn 13 47 ?_
       refine pn 14 48 ?_
       refine pn 15 49 ?_
       refine pn 16 50 ?_
       refine pn 17 51 ?_
       refine pn 18 52 ?_
       refine pn 19 53 ?_
       refine pn 20 54 ?_
       refine pu 21 55 ?_
       refine done_ (done_of HT_.out (by kernel_rfl)) ?_
       try go_wp2
       go_meet
       case rel => exact ⟨_, (true), ZZ0ab324, H, kle, ⟨(zR HO_3)⟩, ⟨(zB BK352)⟩, ⟨(zB BK358)⟩, ⟨ZZ295621⟩⟩
      case rest =>
       clear HC16
       try clear c22
       try clear c23
       try clear c23b0
       try clear hx360_0
       try clear hx360_1
       try clear hx360_2
       try clear p360
       try clear q360
       obtain ⟨kq, x55_15, rfl, HA, HJ15, HO_3, BK352, BK358, HB⟩ := hcut
       cases kq with
       | zero => exact absurd HA.out (by simp [spec_l26Good.j2])
       | succ kj15 =>
        have H := HA.out
        clear HA
        simp only [spec_l26Good.j2] at H
        by_cases c36 : x55_15 = true
        ·subst c36
         replace H := ifT H
         obtain rfl := Option.some.inj H
         go_wp2
         go_ret
         exact ⟨ZZab01d2, ZZ295621⟩
        replace c36 := Bool.eq_false_iff.mpr c36
        subst c36
        replace H := ifF H
        replace H := Aside0.mk H
        go_wp2
        go_loopg [6] kj15 (fun kq v6 w' => ∃ (x3_4 : List Int) (x6_4 : Int), v6 = .int .i64 x6_4 ∧ Aside0 (spec_l26Good.l1 kq x3_4 x4_2 x6_4 l0_0 l0_1 ((rd_T63 l0_1 x4_2).f0) ((rd_T63 l0_1 x4_2).f1) ((rd_T63 l0_1 x4_2).f2) = some r) ∧ Aside0 (kq ≤ kj15) ∧ Aside0 (Kd.R (Kd.int .i64) 3 w' w.heap.size (fun _ => True) v355 x3_4) ∧ Aside0 (w'.heap[gb352]? = some (.cells #[(.slice A0_0 l0_0.length c0_0), (.slice (some ad357) l0_1.length c0_1)] 31 (0, 0))) ∧ Aside0 (w'.heap[gb358]? = some (.cells #[.int .i64 ((rd_T63 l0_1 x4_2).f0), .string ((rd_T63 l0_1 x4_2).f1), (.slice A357_2 ((rd_T63 l0_1 x4_2).f2).length c357_2)] 63 (0, 0))) ∧ Aside0 (Below w.heap.size w w'))
        case atStart => exact ⟨(x3_2), (0), ZZ0ab324, H, ⟨Nat.le_refl _⟩, ⟨(zR HO_3)⟩, ⟨(zB BK352)⟩, ⟨(zB BK358)⟩, ⟨ZZ295621⟩⟩
        case round =>
         clear H
         try clear c36
         obtain ⟨x3_4, x6_4, rfl, HA, HK4, HO_3, BK352, BK358, HB⟩ := hrel
         cases gk with
         | zero => exact absurd HA.out (by simp [spec_l26Good.l1])
         | succ k4 =>
          have H := HA.out
          clear HA
          simp only [spec_l26Good.l1] at H
          by_cases c37 : x6_4 < (((rd_T63 l0_1 x4_2).f2).length : Int)
          ·rw [if_pos c37] at H
           have c37b0 := decide_eq_true c37
           clear c37
           obtain ⟨c38b0, H⟩ := ifYd H
           obtain ⟨c39b0, H⟩ := ifYd H
           obtain ⟨c40b0, H⟩ := ifYd H
           try rw [Option.bind_some] at H
           generalize hy364 : (x3_4.set (((rd_T70 ((rd_T63 l0_1 x4_2).f2) x6_4).f0) : Int).toNat (wrap64 ((rd x3_4 ((rd_T70 ((rd_T63 l0_1 x4_2).f2) x6_4).f0)) + ((rd_T70 ((rd_T63 l0_1 x4_2).f2) x6_4).f1))) : List Int) = y364 at H
           have Ny364 := Aside0.mk hy364.symm
           clear hy364
           obtain ⟨t366, A43, H⟩ := bdY H
           have hnb45 := NB358_352.out
           have hnc45 := NB352_358.out
           obtain ⟨hcz46_0, hcz46_1, hcz46_2, hfz46_0, hfz46_1, hfz46_2⟩ := z3 BK358
           have p361 : 0 ≤ (x6_4 : Int) := of_decide_eq_true ZZ853400
           have q361 : x6_4 < (((rd_T63 l0_1 x4_2).f2).length : Int) := of_decide_eq_true ZZ853400
           obtain ⟨ad361, e361, hx361_0, hx361_1⟩ := at_T70 HR357_2.out x6_4 p361 q361
           cases e361
           replace hx361_0 := (HB.out.cell (World.block_lt_of_cell? w _ hx361_0)).trans hx361_0
           replace hx361_1 := (HB.out.cell (World.block_lt_of_cell? w _ hx361_1)).trans hx361_1
           replace p361 := eq_true p361
           replace q361 := eq_true q361
           try go_wp2
           replace HO_3 := Aside0.mk (Kd.R_drew HO_3.out)
           replace BK352 := Aside0.mk (blk_drew BK352.out)
           replace BK358 := Aside0.mk (blk_drew BK358.out)
           replace HB := Aside0.mk (below_drew1 HB.out)
           obtain ⟨Ao48, co48, eo48⟩ := Kd.R_slice HO_3.out
           (first | subst eo48 | (injection eo48 with f1_ f2_ f3_; have f4_ := f1_.symm; have f5_ := f3_.symm; clear f1_ f2_ f3_; subst f4_; subst f5_))
           have p362 : 0 ≤ (((rd_T70 ((rd_T63 l0_1 x4_2).f2) x6_4).f0) : Int) := of_decide_eq_true ZZ853400
           have q362 : ((rd_T70 ((rd_T63 l0_1 x4_2).f2) x6_4).f0) < (x3_4.length : Int) := of_decide_eq_true ZZ853400
           obtain ⟨ad362, e362, hx362_0⟩ := Kd.at_int (Kd.R_reads' HO_3.out).2.2 ((rd_T70 ((rd_T63 l0_1 x4_2).f2) x6_4).f0) p362 q362
           cases e362
           replace p362 := eq_true p362
           replace q362 := eq_true q362
           have p363 : 0 ≤ (x6_4 : Int) := of_decide_eq_true ZZ853400
           have q363 : x6_4 < (((rd_T63 l0_1 x4_2).f2).length : Int) := of_decide_eq_true ZZ853400
           obtain ⟨ad363, e363, hx363_0, hx363_1⟩ := at_T70 HR357_2.out x6_4 p363 q363
           have hw363_1 := hx363_1
           have hw363_0 := hx363_0
           obtain rfl : ad361 = ad363 := (by injection e363)
           replace hx363_0 := (HB.out.cell (World.block_lt_of_cell? w _ hx363_0)).trans hx363_0
           replace hx363_1 := (HB.out.cell (World.block_lt_of_cell? w _ hx363_1)).trans hx363_1
           replace p363 := eq_true p363
           replace q363 := eq_true q363
           have p41 : 0 ≤ (((rd_T70 ((rd_T63 l0_1 x4_2).f2) x6_4).f0) : Int) := of_decide_eq_true ZZ853400
           have q41 : (((rd_T70 ((rd_T63 l0_1 x4_2).f2) x6_4).f0) : Int) < ((x3_4.length : Int) : Int) := of_decide_eq_true ZZ853400
           obtain ⟨go41, co41, eo41, gb41, gl41, cl41, HG41⟩ := Kd.R_form HO_3.out (by omega)
           (first | cases eo41 | (injection eo41 with ea_ en_ ec_; (first | subst ea_ | (injection ea_ with ea_; subst ea_)); subst ec_; clear en_))
           have GB41 := Aside0.mk gb41
           have GG41 := Aside0.mk HG41
           clear gb41 gl41 HG41
           (first | simp only [add_plain] at hx362_0 | skip)
           obtain ⟨hx41_0, hf41_0⟩ := Kd.R_celln 0 HO_3.out (((rd_T70 ((rd_T63 l0_1 x4_2).f2) x6_4).f0) : Int) p41 q41
           replace p41 := eq_true p41
           replace q41 := eq_true q41
           have HP49 := Kd.R_putn HO_3.out (((rd_T70 ((rd_T63 l0_1 x4_2).f2) x6_4).f0) : Int) (wrap64 ((rd x3_4 ((rd_T70 ((rd_T63 l0_1 x4_2).f2) x6_4).f0)) + ((rd_T70 ((rd_T63 l0_1 x4_2).f2) x6_4).f1)))
           rw [← Ny364.out] at HP49
           have HQ49 := Aside0.mk HP49
           clear HP49
           refine start_ (n := 15) (S := fun w' => w'.cell? ⟨gb358, 0, none⟩ = some (.int .i64 ((rd_T63 l0_1 x4_2).f0)) ∧ w'.cell? ⟨gb358, 1, none⟩ = some (.string ((rd_T63 l0_1 x4_2).f1)) ∧ w'.cell? ⟨gb358, 2, none⟩ = some (.slice (some ad361) ((rd_T63 l0_1 x4_2).f2).length c357_2) ∧ w'.cell? ⟨go41, (((rd_T70 ((rd_T63 l0_1 x4_2).f2) x6_4).f0)).toNat, none⟩ = some (.int .i64 (rd x3_4 ((rd_T70 ((rd_T63 l0_1 x4_2).f2) x6_4).f0))) ∧ w'.cell? (ad361.add ((x6_4).toNat * 2)) = some (.int .i64 ((rd_T70 ((rd_T63 l0_1 x4_2).f2) x6_4).f0)) ∧ w'.cell? ⟨(ad361.add ((x6_4).toNat * 2)).block, (ad361.add ((x6_4).toNat * 2)).off + 1, none⟩ = some (.int .i64 ((rd_T70 ((rd_T63 l0_1 x4_2).f2) x6_4).f1))) (ds := [14]) #[false, false, false, false, false, false, false, false, false, false, false, false, false, false, false] (by kernel_rfl) rfl rfl ⟨(blk_cell BK358.out 0).trans rfl, (blk_cell BK358.out 1).trans rfl, (blk_cell BK358.out 2).trans rfl, hx362_0, ((HB.out.cell (World.block_lt_of_cell? w _ hw363_0)).trans hw363_0), ((HB.out.cell (World.block_lt_of_cell? w _ hw363_1)).trans hw363_1)⟩ (fun hHeld => ?_); refine with_tabW spec_l26Good.tab14 spec_l26Good.bits14 (fun HT_ HW_ => ?_)
           generalize wr.drew = w47 at HO_3 BK352 BK358 HB GG41 HQ49 hf41_0 hx362_0 hx363_0 hx363_1 hx41_0 hHeld ⊢
           refine pu 0 69 ?_
           refine pu 1 70 ?_
           refine pu 2 71 ?_
           refine pu 3 72 ?_
           refine pu 4 73 ?_
           refine pu 6 75 ?_
           refine pu 8 77 ?_
           refine tk 5 74 ?_
           refine tk 7 76 ?_
           refine pu 9 78 ?_
           refine pu 10 79 ?_
           refine tk 11 80 ?_
           refine pu 12 81 ?_
           refine pu 13 82 ?_
           refine last_ (i := 14) (N := none) #[true, true, true, true, true, true, true, true, true, true, true, true, true, true, true] rfl rfl (one_of HT_.out (by kernel_rfl)) (by decide) (fun K hK => ?_)
           refine skip_ (w1 := ?_) (by rfl) rfl ?_ ?_
           rotate_left
           ·go_simp
            rfl
           refine hK.out _ _ ?_
           clear hK K
           refine done_ (done_of HT_.out (by kernel_rfl)) ?_
           have p42 : 0 ≤ (((rd_T70 ((rd_T63 l0_1 x4_2).f2) x6_4).f0) : Int) := of_decide_eq_true ZZ853400
           have q42 : (((rd_T70 ((rd_T63 l0_1 x4_2).f2) x6_4).f0) : Int) < ((x3_4.length : Int) : Int) := of_decide_eq_true ZZ853400
           replace p42 := eq_true p42
           replace q42 := eq_true q42
           by_cases c44 : t366 = true
           ·subst c44
            replace H := ifT H
            replace H := Aside0.mk H
            try go_wp2_with (first | (refine gc 87 Tryd.func71 #[.int .i64 (wrap64 ((rd x3_4 ((rd_T70 ((rd_T63 l0_1 x4_2).f2) x6_4).f0)) + ((rd_T70 ((rd_T63 l0_1 x4_2).f2) x6_4).f1)))] ?_; (with_reducible refine (spec_l2Amount.calls (wrap64 ((rd x3_4 ((rd_T70 ((rd_T63 l0_1 x4_2).f2) x6_4).f0)) + ((rd_T70 ((rd_T63 l0_1 x4_2).f2) x6_4).f1))) true _ A43.out).mono ?_); rintro e w' ⟨rfl, ⟨nd, rfl⟩⟩; refine ⟨_, rfl, ?_⟩))
            go_roundg k4
            case measure => have := HJ1.out; have := HK2.out; have := HJ15.out; have := HK4.out; omega
            case rel => exact ⟨(y364), (wrap64 (x6_4 + 1)), ZZ0ab324, H, kle, ⟨(by refine bR ?_; exact HQ49.out)⟩, ⟨(by refine bd ?_; refine blk_far ?_ (by have h_ := Kd.R_ne HO_3.out BK352.out (by decide); intro e_; exact h_ (by rw [e_]; rfl)) _; refine bd ?_; exact BK352.out)⟩, ⟨(by refine bd ?_; refine blk_far ?_ (by have h_ := Kd.R_ne HO_3.out BK358.out (by decide); intro e_; exact h_ (by rw [e_]; rfl)) _; refine bd ?_; exact BK358.out)⟩, ⟨(by repeat (first | (with_reducible first | exact HB.out | apply below_alloc | apply pw_below_drewN | apply below_drew1 | refine below_set ?_ GB41.out | refine below_set ?_ GE352.out | refine below_set ?_ GE358.out) | exact HB.out))⟩⟩
           replace c44 := Bool.eq_false_iff.mpr c44
           subst c44
           replace H := ifF H
           obtain rfl := Option.some.inj H
           try go_wp2_with (first | (refine gc 87 Tryd.func71 #[.int .i64 (wrap64 ((rd x3_4 ((rd_T70 ((rd_T63 l0_1 x4_2).f2) x6_4).f0)) + ((rd_T70 ((rd_T63 l0_1 x4_2).f2) x6_4).f1)))] ?_; (with_reducible refine (spec_l2Amount.calls (wrap64 ((rd x3_4 ((rd_T70 ((rd_T63 l0_1 x4_2).f2) x6_4).f0)) + ((rd_T70 ((rd_T63 l0_1 x4_2).f2) x6_4).f1))) false _ A43.out).mono ?_); rintro e w' ⟨rfl, ⟨nd, rfl⟩⟩; refine ⟨_, rfl, ?_⟩))
           go_ret
           exact ⟨ZZab01d2, (by repeat (first | (with_reducible first | exact HB.out | apply below_alloc | apply pw_below_drewN | apply below_drew1 | refine below_set ?_ GB41.out | refine below_set ?_ GE352.out | refine below_set ?_ GE358.out) | exact HB.out))⟩
          rw [if_neg c37] at H
          have c37b0 := decide_eq_false c37
          clear c37
          replace H := Aside0.mk H
          have hnb55 := NB358_352.out
          have hnc55 := NB352_358.out
          obtain ⟨hcz56_0, hcz56_1, hcz56_2, hfz56_0, hfz56_1, hfz56_2⟩ := z3 BK358
          go_wp2
          go_roundg k4
          case measure => have := HJ1.out; have := HK2.out; have := HJ15.out; have := HK4.out; omega
          case rel => exact ⟨(x3_4), (wrap64 (x4_2 + 1)), ZZ0ab324, H, kle, ⟨(zR HO_3)⟩, ⟨(zB BK352)⟩, ⟨ZZ295621⟩⟩
     rw [if_neg c14] at H
     have c14b0 := decide_eq_false c14
     clear c14
     obtain rfl := Option.some.inj H
     obtain ⟨hcz57_0, hcz57_1, hfz57_0, hfz57_1⟩ := z2 BK352
     go_wp2
     go_ret
     exact ⟨ZZab01d2, ZZ295621⟩
end Go.Proofs.YtccdjchaaeligaaDoor.XFnExactCloseAccounts

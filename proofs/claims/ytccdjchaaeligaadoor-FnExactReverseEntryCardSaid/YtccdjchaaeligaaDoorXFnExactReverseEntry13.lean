import Derived.Test.YtccdjchaaeligaaDoorXFnExactReverseEntry1
import Derived.Test.YtccdjchaaeligaaDoorXFnExactReverseEntry0
import Derived.Test.YtccdjchaaeligaaDoorXFnExactReverseEntry6
import Derived.Test.YtccdjchaaeligaaDoorXFnExactReverseEntry9
import Derived.Test.YtccdjchaaeligaaDoorXFnExactReverseEntry10
import Derived.Test.YtccdjchaaeligaaDoorXFnExactReverseEntry11
import Derived.Test.YtccdjchaaeligaaDoorXFnExactReverseEntry12
namespace Go.Proofs.YtccdjchaaeligaaDoor.XFnExactReverseEntry
open Go.Proofs.YtccdjchaaeligaaDoor.Short Go.RowKit Go.Proofs.YtccdjchaaeligaaDoorW.PrintWords Go.Proofs.YtccdjchaaeligaaDoorW.PrintLast Go.Proofs.YtccdjchaaeligaaDoorW.PrintMore
attribute [local go_sem] max2_int min2_int max_two min_two max_three min_three max_four min_four
set_option linter.unusedVariables false
set_option linter.unusedSimpArgs false
theorem ZZ539e1d {p : Prop} (h : p := by simp only [putAll, Act.put, List.setIfInBounds_toArray, List.set_cons_zero, List.set_cons_succ]) : p := h
mutual
def impl_ReverseEntry.j0 : Nat → Int → Int → Bool → List (S48) → List (S63) → Option ((List (S48)) × (List (S63)) × Bool)
 | 0, _, _, _, _, _ => none
 | k + 1, x1, x2, x21, x312000, x312001 => if x21 = true then (some (([] : List (S48)), ([] : List (S63)), false)) else ((impl_decimal.f x1).bind fun t315 => (if 12 + t315.size ≤ 9223372036854775807 then (if 0 ≤ x1 then (if x1 < (x312001.length : Int) then ((impl_Posting.f ((rd_T63 x312001 x1).f2)).bind fun t317 => (impl_ReverseEntry.l0 k (t317.length : Int) 0 x312000 x312001 x2 ((⟨#[114, 101, 118, 101, 114, 115, 97, 108, 32, 111, 102, 32]⟩ : ByteArray) ++ t315) t317)) else (none)) else (none)) else (none)))
def impl_ReverseEntry.l0 : Nat → Int → Int → List (S48) → List (S63) → Int → ByteArray → List (S70) → Option ((List (S48)) × (List (S63)) × Bool)
 | 0, _, _, _, _, _, _, _ => none
 | k + 1, x37, x38, x312000, x312001, x321000, x321001, x321002 => if x38 < x37 then (if 0 ≤ x38 then (if x38 < (x321002.length : Int) then (impl_ReverseEntry.l0 k x37 (wrap64 (x38 + 1)) x312000 x312001 x321000 x321001 (x321002.set (x38 : Int).toNat (⟨(rd_T70 x321002 x38).f0, wrap64 (-((rd_T70 x321002 x38).f1))⟩ : S70))) else (none)) else (none)) else ((impl_PostEntry.f k x312000 x312001 x321000 x321001 x321002).bind fun bt323 => (some (bt323.1, bt323.2.1, bt323.2.2)))
end
def impl_ReverseEntry.f (k : Nat) (l0_0 : List (S48)) (l0_1 : List (S63)) (a1 : Int) (a2 : Int) : Option ((List (S48)) × (List (S63)) × Bool) := (impl_IsValidLedger.f k l0_0 l0_1).bind fun t313 => (if t313 = true then ((impl_within.f a1 0 (wrap64 ((l0_1.length : Int) - 1))).bind fun t314 => (impl_ReverseEntry.j0 k a1 a2 (!t314) l0_0 l0_1)) else (impl_ReverseEntry.j0 k a1 a2 true l0_0 l0_1))
theorem impl_ReverseEntry.mono_l : ∀ k, (∀ y0 y1 y2 y3 y4, LeO (impl_ReverseEntry.j0 k y0 y1 y2 y3 y4) (impl_ReverseEntry.j0 (k + 1) y0 y1 y2 y3 y4)) ∧ (∀ y0 y1 y2 y3 y4 y5 y6, LeO (impl_ReverseEntry.l0 k y0 y1 y2 y3 y4 y5 y6) (impl_ReverseEntry.l0 (k + 1) y0 y1 y2 y3 y4 y5 y6))
 | 0 => ⟨fun _ _ _ _ _ r h => by simp [impl_ReverseEntry.j0] at h, fun _ _ _ _ _ _ _ r h => by simp [impl_ReverseEntry.l0] at h⟩
 | k + 1 => by
  obtain ⟨ih0, ih1⟩ := impl_ReverseEntry.mono_l k
  refine ⟨?_, ?_⟩
  all_goals intros
  all_goals (first | unfold impl_ReverseEntry.j0 | unfold impl_ReverseEntry.l0)
  all_goals
   repeat' with_reducible first | apply ih0 | apply ih1 | apply impl_IsValidLedger.mono | apply impl_PostEntry.mono | exact LeO.refl _ | exact LeO.none _ | refine LeO.ite ?_ ?_ | refine LeO.bind ?_ (fun _ => ?_)
theorem impl_ReverseEntry.mono : ∀ a0 a1 a2 a3 k, LeO (impl_ReverseEntry.f k a0 a1 a2 a3) (impl_ReverseEntry.f (k + 1) a0 a1 a2 a3) := by
 intro a0 a1 a2 a3 k
 obtain ⟨ih0, ih1⟩ := impl_ReverseEntry.mono_l k
 unfold impl_ReverseEntry.f
 repeat' with_reducible first | apply ih0 | apply ih1 | apply impl_IsValidLedger.mono | apply impl_PostEntry.mono | exact LeO.refl _ | exact LeO.none _ | refine LeO.ite ?_ ?_ | refine LeO.bind ?_ (fun _ => ?_)
def impl_ReverseEntry.T3 : Bool × List (List Nat × List Nat) := (true, [([], []), ([], []), ([1], [1]), ([2], [2]), ([], []), ([4], [4]), ([], []), ([5, 6], [5, 6]), ([7], [7]), ([8], [8]), ([9, 2], [9]), ([0, 3, 10], [0, 3, 10]), ([], []), ([12, 11, 10, 0, 1, 2, 3, 4, 5, 6, 7, 8, 9, 10, 11, 12], [11, 12])])
def impl_ReverseEntry.B3 : List Nat := [0, 0, 2, 6, 0, 16, 0, 112, 240, 496, 1014, 2047, 0, 8191]
theorem impl_ReverseEntry.tab3 : rtab .any (opsOf Tryd.f43 3) = impl_ReverseEntry.T3 := by kernel_rfl
theorem impl_ReverseEntry.bits3 : waitsOk impl_ReverseEntry.T3.2 impl_ReverseEntry.B3 = true := by kernel_rfl
def impl_ReverseEntry.T7 : Bool × List (List Nat × List Nat) := (true, [([], []), ([0], [0]), ([], []), ([], []), ([3], [3]), ([], []), ([4, 5], [4, 5]), ([6], [6]), ([7], [7]), ([8], [8]), ([1, 2, 0, 1, 2, 3, 4, 5, 6, 7, 8, 9], [1, 2]), ([10, 0, 1, 2, 3, 4, 5, 6, 7, 8, 9], [10]), ([11, 9, 0, 1, 2, 3, 4, 5, 6, 7, 8, 9], [9, 11])])
def impl_ReverseEntry.B7 : List Nat := [0, 1, 0, 0, 8, 0, 56, 120, 248, 504, 1023, 2047, 4095]
theorem impl_ReverseEntry.tab7 : rtab .any (opsOf Tryd.f43 7) = impl_ReverseEntry.T7 := by kernel_rfl
theorem impl_ReverseEntry.bits7 : waitsOk impl_ReverseEntry.T7.2 impl_ReverseEntry.B7 = true := by kernel_rfl
set_option maxHeartbeats 8000000 in
set_option maxRecDepth 100000 in
theorem impl_ReverseEntry.calls (k : Nat) (A0_0 : Option Addr) (c0_0 : Nat) (l0_0 : List (S48)) (A0_1 : Option Addr) (c0_1 : Nat) (l0_1 : List (S63)) (a1 : Int) (a2 : Int) (r1 : List (S48)) (r2 : List (S63)) (r3 : Bool) (w : World) (hr0_0 : Kd.C k48 w A0_0 l0_0.length l0_0) (hc0_0 : l0_0.length ≤ c0_0) (hr0_1 : Kd.C k63 w A0_1 l0_1.length l0_1) (hc0_1 : l0_1.length ≤ c0_1) (hV : TInv w) (h : impl_ReverseEntry.f k l0_0 l0_1 a1 a2 = some (r1, r2, r3)) :
 Calls Tryd.prog 43 #[.agg #[.slice A0_0 l0_0.length c0_0, .slice A0_1 l0_1.length c0_1], .int .i64 a1, .int .i64 a2] w fun e w' => ∃ v0_ v1_ : Value, e = .returned (.tuple #[.agg #[v0_, v1_], .bool r3]) ∧ Kd.R k48 48 w' w.heap.size (fun _ => True) v0_ r1 ∧ Kd.S k63 63 w' w.heap.size (fun _ => True) v1_ r2 ∧ Below w.heap.size w w' := by
 have hu31 := Tryd.underlying31
 have hu63 := Tryd.underlying63
 have HV := Aside0.mk hV
 clear hV
 have HR0_0 := Aside0.mk hr0_0
 have HC0_0 := Aside0.mk hc0_0
 clear hr0_0 hc0_0
 have HR0_1 := Aside0.mk hr0_1
 have HC0_1 := Aside0.mk hc0_1
 clear hr0_1 hc0_1
 have HB := Aside0.mk (Below.refl w.heap.size w)
 have H := h
 clear h
 unfold impl_ReverseEntry.f at H
 have HC4 := Aside0.mk H
 clear H
 go_enter Tryd.func43, Tryd.ntmps43
 go_upto_region 1 with (first | ((with_reducible refine gate_dst (N := 3) rfl ?_); (try (refine gate_guard (by rfl) ?_; dsimp only)); refine bx 3 (cs := #[.slice A0_0 l0_0.length c0_0, .slice A0_1 l0_1.length c0_1]) (t := 31) ?_; intro gb311 hg w5 hbox hb; have BK311 := Aside0.mk (hbox); have GW311 := gw hg; have GE311 := gw hg; replace HB := hB hb; clear hb hbox hg) | ((with_reducible refine gate_dst (N := 6) rfl ?_); (try (refine gate_guard (by rfl) ?_; dsimp only)); refine bx 6 (cs := #[.slice none 0 0, .slice none 0 0]) (t := 31) ?_; intro gb312 hg w6 hbox hb; have BK312 := Aside0.mk (hbox); have GW312 := gw hg; have GE312 := gw hg; replace HB := hB hb; have NB311_312 := nl hg BK311; have NB312_311 := ng hg BK311; replace BK311 := kb BK311 hb; clear hb hbox hg))
 (try simp only [Act.put, List.setIfInBounds_toArray, List.set_cons_zero, List.set_cons_succ])
 go_cut [21] (fun v21 wc => ∃ (kq : Nat) (x21_3 : Bool), v21 = .bool x21_3 ∧ Aside0 (impl_ReverseEntry.j0 kq a1 a2 x21_3 l0_0 l0_1 = some (r1, r2, r3)) ∧ Aside0 (kq ≤ k) ∧ Aside0 (wc.heap[gb311]? = some (.cells #[(.slice A0_0 l0_0.length c0_0), (.slice A0_1 l0_1.length c0_1)] 31 (0, 0))) ∧ Aside0 (wc.heap[gb312]? = some (.cells #[(.slice none 0 0), (.slice none 0 0)] 31 (0, 0))) ∧ Aside0 (Below w.heap.size w wc))
 case first =>
  have H := HC4.out
  clear HC4
  obtain ⟨t313, A7, H⟩ := bdY H
  by_cases c8 : t313 = true
  ·subst c8
   replace H := ifT H
   obtain ⟨t314, A9, H⟩ := bdY H
   replace H := Aside0.mk H
   have hnb10 := NB311_312.out
   have hnc10 := NB312_311.out
   obtain ⟨hcz11_0, hcz11_1, hfz11_0, hfz11_1⟩ := z2 BK311
   go_wp2_with (first | (refine gc 11 Tryd.func17 #[.agg #[.slice A0_0 l0_0.length c0_0, .slice A0_1 l0_1.length c0_1]] ?_; (with_reducible refine (impl_IsValidLedger.calls k _ _ l0_0 _ _ l0_1 true _ ?side1 ?side2 ?side3 ?side4 A7.out).mono ?_); (case side1 => exact (rC (Kd.C_below HR0_0.out HB.out))); (case side2 => exact HC0_0.out); (case side3 => exact (rC (Kd.C_below HR0_1.out HB.out))); (case side4 => exact HC0_1.out); rintro e w12 ⟨rfl, hb⟩; refine ⟨_, rfl, ?_⟩; replace BK311 := kb BK311 hb; replace BK312 := kb BK312 hb; replace HB := hB hb; (try clear hb); (try clear hb2); (try clear hk); (try clear hi); obtain ⟨hcz13_0, hcz13_1, hfz13_0, hfz13_1⟩ := z2 BK311) | (go_at_call 56; (with_reducible refine (impl_within.calls a1 0 (wrap64 ((l0_1.length : Int) - 1)) t314 _ A9.out).mono ?_); rintro e w' ⟨rfl, ⟨nd, rfl⟩⟩))
   go_meet
   case rel => exact ⟨_, (!t314), ZZ0ab324, H, kle, ⟨(zB BK311)⟩, ⟨(zB BK312)⟩, ⟨ZZ295621⟩⟩
  replace c8 := Bool.eq_false_iff.mpr c8
  subst c8
  replace H := ifF H
  replace H := Aside0.mk H
  have hnb14 := NB311_312.out
  have hnc14 := NB312_311.out
  obtain ⟨hcz15_0, hcz15_1, hfz15_0, hfz15_1⟩ := z2 BK311
  go_wp2_with (first | (refine gc 11 Tryd.func17 #[.agg #[.slice A0_0 l0_0.length c0_0, .slice A0_1 l0_1.length c0_1]] ?_; (with_reducible refine (impl_IsValidLedger.calls k _ _ l0_0 _ _ l0_1 false _ ?side1 ?side2 ?side3 ?side4 A7.out).mono ?_); (case side1 => exact (rC (Kd.C_below HR0_0.out HB.out))); (case side2 => exact HC0_0.out); (case side3 => exact (rC (Kd.C_below HR0_1.out HB.out))); (case side4 => exact HC0_1.out); rintro e w16 ⟨rfl, hb⟩; refine ⟨_, rfl, ?_⟩; replace BK311 := kb BK311 hb; replace BK312 := kb BK312 hb; replace HB := hB hb; (try clear hb); (try clear hb2); (try clear hk); (try clear hi)))
  go_meet
  case rel => exact ⟨_, (true), ZZ0ab324, H, kle, ⟨(zB BK311)⟩, ⟨(zB BK312)⟩, ⟨ZZ295621⟩⟩
 case rest =>
  clear HC4
  try clear c8
  try clear hcz11_0
  try clear hcz11_1
  try clear hcz13_0
  try clear hcz13_1
  try clear hcz15_0
  try clear hcz15_1
  try clear hfz11_0
  try clear hfz11_1
  try clear hfz13_0
  try clear hfz13_1
  try clear hfz15_0
  try clear hfz15_1
  obtain ⟨kq, x21_3, rfl, HA, HJ3, BK311, BK312, HB⟩ := hcut
  cases kq with
  | zero => exact absurd HA.out (by simp [impl_ReverseEntry.j0])
  | succ kj3 =>
   have H := HA.out
   clear HA
   simp only [impl_ReverseEntry.j0] at H
   by_cases c17 : x21_3 = true
   ·subst c17
    replace H := ifT H
    simp only [Option.some.injEq, Prod.mk.injEq] at H
    obtain ⟨rfl, rfl, rfl⟩ := H
    have hnb18 := NB312_311.out
    have hnc18 := NB311_312.out
    obtain ⟨hcz19_0, hcz19_1, hfz19_0, hfz19_1⟩ := z2 BK312
    go_wp2
    refine bodyPost_ret (results_ct rfl _ _ gb312 31 #[.slice none 0 0, .slice none 0 0] (0, 0) _ rfl (by refine bd ?_; refine blk_put (cs := #[.slice none 0 0, .slice none 0 0]) ?_ 1 _ rfl; refine bd ?_; refine blk_put (cs := #[.slice none 0 0, .slice none 0 0]) ?_ 0 _ rfl; refine bd ?_; exact BK312.out) Tryd.underlying31 rfl (by kernel_rfl)) rfl ?_
    exact ⟨_, _, ZZab01d2, ZZf4214b, ZZc4c4be, ZZ295621⟩
   replace c17 := Bool.eq_false_iff.mpr c17
   subst c17
   replace H := ifF H
   obtain ⟨t315, A20, H⟩ := bdY H
   obtain ⟨c21, H⟩ := ifY H
   have c21b0 := eq_true c21
   have c21b1 := decide_eq_true c21
   try have c21b2 : (9223372036854775807 < 12 + t315.size) = False := eq_false (Nat.not_lt.2 c21)
   obtain ⟨c22b0, H⟩ := ifYd H
   obtain ⟨c23b0, H⟩ := ifYd H
   obtain ⟨t317, A24, H⟩ := bdY H
   replace H := Aside0.mk H
   try go_wp2
   replace BK311 := Aside0.mk (blk_drew BK311.out)
   replace BK312 := Aside0.mk (blk_drew BK312.out)
   replace HB := Aside0.mk (below_drew1 HB.out)
   have p316 : 0 ≤ (a1 : Int) := of_decide_eq_true ZZ853400
   have q316 : a1 < (l0_1.length : Int) := of_decide_eq_true ZZ853400
   obtain ⟨ad316, A316_2, c316_2, e316, hx316_0, hx316_1, hx316_2, hl316_2, hi316_2⟩ := at_T63 HR0_1.out a1 p316 q316
   have hw316_2 := hx316_2
   have hw316_1 := hx316_1
   have hw316_0 := hx316_0
   cases e316
   replace hx316_0 := (HB.out.cell (World.block_lt_of_cell? w _ hx316_0)).trans hx316_0
   replace hx316_1 := (HB.out.cell (World.block_lt_of_cell? w _ hx316_1)).trans hx316_1
   replace hx316_2 := (HB.out.cell (World.block_lt_of_cell? w _ hx316_2)).trans hx316_2
   have HR316_2 := Aside0.mk hi316_2
   have HC316_2 := Aside0.mk hl316_2
   clear hi316_2 hl316_2
   replace p316 := eq_true p316
   replace q316 := eq_true q316
   refine st 14 (S := fun w' => w'.cell? ⟨gb311, 0, none⟩ = some (.slice A0_0 l0_0.length c0_0) ∧ w'.cell? ⟨gb311, 1, none⟩ = some (.slice (some ad316) l0_1.length c0_1) ∧ w'.cell? (ad316.add ((a1).toNat * 3)) = some (.int .i64 ((rd_T63 l0_1 a1).f0)) ∧ w'.cell? ⟨(ad316.add ((a1).toNat * 3)).block, (ad316.add ((a1).toNat * 3)).off + 1, none⟩ = some (.string ((rd_T63 l0_1 a1).f1)) ∧ w'.cell? ⟨(ad316.add ((a1).toNat * 3)).block, (ad316.add ((a1).toNat * 3)).off + 2, none⟩ = some (.slice A316_2 ((rd_T63 l0_1 a1).f2).length c316_2)) impl_ReverseEntry.tab3 impl_ReverseEntry.bits3 zK (fun hHeld HT_ HW_ => ?_)
   generalize wc.drew = w25 at BK311 BK312 HB HR316_2 hx316_0 hx316_1 hx316_2 hHeld ⊢
   refine pu 0 23 ?_
   refine pu 1 24 ?_
   refine pu 4 27 ?_
   refine pu 6 29 ?_
   refine tk 5 28 ?_
   refine pu 7 30 ?_
   refine pu 8 31 ?_
   refine tk 9 32 ?_
   refine join_ (σ := Value × Nat) 1 #[true, true, true, true, true, true, true, true, true, true, true, true, true, false] (fun s_ => [(25, .string t315), (33, s_.1), (8, .pointer (some ⟨s_.2, 0, none⟩)), (26, .string ((⟨#[114, 101, 118, 101, 114, 115, 97, 108, 32, 111, 102, 32]⟩ : ByteArray) ++ t315)), (34, .agg #[.int .i64 a2, .string ((⟨#[114, 101, 118, 101, 114, 115, 97, 108, 32, 111, 102, 32]⟩ : ByteArray) ++ t315), s_.1])]) (fun s_ w' => (w'.cell? ⟨gb311, 0, none⟩ = some (.slice A0_0 l0_0.length c0_0) ∧ w'.cell? ⟨gb311, 1, none⟩ = some (.slice (some ad316) l0_1.length c0_1) ∧ w'.cell? (ad316.add ((a1).toNat * 3)) = some (.int .i64 ((rd_T63 l0_1 a1).f0)) ∧ w'.cell? ⟨(ad316.add ((a1).toNat * 3)).block, (ad316.add ((a1).toNat * 3)).off + 1, none⟩ = some (.string ((rd_T63 l0_1 a1).f1)) ∧ w'.cell? ⟨(ad316.add ((a1).toNat * 3)).block, (ad316.add ((a1).toNat * 3)).off + 2, none⟩ = some (.slice A316_2 ((rd_T63 l0_1 a1).f2).length c316_2)) ∧ (Kd.R k70 70 w' w.heap.size (fun _ => True) s_.1 t317) ∧ (w'.heap[gb311]? = some (.cells #[.slice A0_0 l0_0.length c0_0, .slice (some ad316) l0_1.length c0_1] 31 (0, 0))) ∧ (w'.heap[gb312]? = some (.cells #[.slice none 0 0, .slice none 0 0] 31 (0, 0))) ∧ (w'.heap[s_.2]? = some (.cells #[.int .i64 0, .string (⟨#[]⟩ : ByteArray), .slice none 0 0] 63 (0, 0))) ∧ (w.heap.size ≤ s_.2) ∧ (w.heap.size ≤ s_.2) ∧ (gb311 ≠ s_.2) ∧ (s_.2 ≠ gb311) ∧ (gb312 ≠ s_.2) ∧ (s_.2 ≠ gb312) ∧ (Below w.heap.size w w')) ?_ ?_
   rotate_left
   ·intro hCont
    refine two_ (i := 2) (j := 12) (Ni := some 25) (Nj := some 8) #[true, true, true, false, true, true, true, true, true, true, false, false, false, false] #[true, true, false, false, true, true, true, true, true, true, false, false, true, false] rfl rfl rfl rfl (two_of HT_.out (by kernel_rfl)) (by decide) (by decide) (fun K hK => ?_) (fun K hK => ?_)
    ·skip
     refine goes_ Tryd.func91 (by kernel_rfl) rfl #[.int .i64 a1] (by rfl) rfl rfl ZZ19826e ?_
     with_reducible refine (impl_decimal.calls a1 t315 _ ?side1 A20.out).mono ?_
     (case side1 => first | (with_reducible exact HV.out) | exact TInv.below HV.out ZZ295621)
     rintro e w26 ⟨rfl, hb⟩
     refine ⟨_, rfl, ?_⟩
     replace BK311 := kb BK311 hb
     replace BK312 := kb BK312 hb
     replace HB := hB hb
     (try clear hb)
     (try clear hb2)
     (try clear hk)
     (try clear hi)
     refine hK.out _ _ zK (fun hHeld => ?_)
     clear hK K
     refine nd (some 25) ?_
     refine pu 3 26 ?_
     refine two_ (i := 10) (j := 12) (Ni := some 33) (Nj := some 8) #[true, true, true, true, true, true, true, true, true, true, true, false, false, false] #[true, true, true, true, true, true, true, true, true, true, false, false, true, false] rfl rfl rfl rfl (two_of HT_.out (by kernel_rfl)) (by decide) (by decide) (fun K hK => ?_) (fun K hK => ?_)
     ·skip
      refine goes_ Tryd.func92 (by kernel_rfl) rfl #[.slice A316_2 ((rd_T63 l0_1 a1).f2).length c316_2] (by rfl) rfl rfl ZZ19826e ?_
      with_reducible refine (impl_Posting.calls _ _ ((rd_T63 l0_1 a1).f2) t317 _ ?side1 ?side2 A24.out).mono ?_
      (case side1 => exact (rC (Kd.C_below HR316_2.out HB.out)))
      (case side2 => exact HC316_2.out)
      rintro e w27 ⟨v318, rfl, ho0, hb⟩
      refine ⟨_, rfl, ?_⟩
      have HO319 := Aside0.mk (Kd.R_lower ho0 (below_size ZZ295621))
      replace BK311 := kb BK311 hb
      replace BK312 := kb BK312 hb
      replace HB := hB hb
      (try clear hb)
      (try clear hb2)
      (try clear hk)
      (try clear hi)
      (try clear ho0)
      obtain ⟨Ao28, co28, eo28⟩ := Kd.R_slice HO319.out
      (first | subst eo28 | (injection eo28 with f1_ f2_ f3_; have f4_ := f1_.symm; have f5_ := f3_.symm; clear f1_ f2_ f3_; subst f4_; subst f5_))
      refine hK.out _ _ zK (fun hHeld => ?_)
      clear hK K
      refine nd (some 33) ?_
      refine pu 11 34 ?_
      refine on 12 (some 8) (fun K hK => ?_)
      refine box_step ?hg (N := 8) ?hd (cs := #[.int .i64 0, .string (⟨#[]⟩ : ByteArray), .slice none 0 0]) (t := 63) ?hr ?_; (case hd => rfl); (case hg => rfl); (case hr => first | (go_simp; done) | (go_simp; rfl))
      intro gb320 hg w29 hbox hb
      replace HO319 := Aside0.mk (Kd.R_below (zR HO319) hb)
      have BK320 := Aside0.mk (hbox)
      have GW320 := gw hg
      have GE320 := gw hg
      replace HB := hB hb
      have NB311_320 := nl hg BK311
      have NB320_311 := ng hg BK311
      replace BK311 := kb BK311 hb
      have NB312_320 := nl hg BK312
      have NB320_312 := ng hg BK312
      replace BK312 := kb BK312 hb
      clear hb hbox hg
      refine hK.out _ _ zK (fun hHeld => ?_)
      clear hK K
      refine nd (some 8) ?_
      exact norm_ ZZ539e1d (hCont (.slice Ao28 t317.length co28, gb320) _ ⟨hHeld, (zR HO319), (zB BK311), (zB BK312), (zB BK320), GW320.out, GE320.out, NB311_320.out, NB320_311.out, NB312_320.out, NB320_312.out, ZZ295621⟩)
     skip
     refine box_step ?hg (N := 8) ?hd (cs := #[.int .i64 0, .string (⟨#[]⟩ : ByteArray), .slice none 0 0]) (t := 63) ?hr ?_; (case hd => rfl); (case hg => rfl); (case hr => first | (go_simp; done) | (go_simp; rfl))
     intro gb320 hg w27 hbox hb
     have BK320 := Aside0.mk (hbox)
     have GW320 := gw hg
     have GE320 := gw hg
     replace HB := hB hb
     have NB311_320 := nl hg BK311
     have NB320_311 := ng hg BK311
     replace BK311 := kb BK311 hb
     have NB312_320 := nl hg BK312
     have NB320_312 := ng hg BK312
     replace BK312 := kb BK312 hb
     clear hb hbox hg
     refine hK.out _ _ zK (fun hHeld => ?_)
     clear hK K
     refine nd (some 8) ?_
     refine on 10 (some 33) (fun K hK => ?_)
     refine goes_ Tryd.func92 (by kernel_rfl) rfl #[.slice A316_2 ((rd_T63 l0_1 a1).f2).length c316_2] (by rfl) rfl rfl ZZ19826e ?_
     with_reducible refine (impl_Posting.calls _ _ ((rd_T63 l0_1 a1).f2) t317 _ ?side1 ?side2 A24.out).mono ?_
     (case side1 => exact (rC (Kd.C_below HR316_2.out HB.out)))
     (case side2 => exact HC316_2.out)
     rintro e w28 ⟨v318, rfl, ho0, hb⟩
     refine ⟨_, rfl, ?_⟩
     have HO319 := Aside0.mk (Kd.R_lower ho0 (below_size ZZ295621))
     replace BK311 := kb BK311 hb
     replace BK312 := kb BK312 hb
     replace BK320 := kb BK320 hb
     replace HB := hB hb
     (try clear hb)
     (try clear hb2)
     (try clear hk)
     (try clear hi)
     (try clear ho0)
     obtain ⟨Ao29, co29, eo29⟩ := Kd.R_slice HO319.out
     (first | subst eo29 | (injection eo29 with f1_ f2_ f3_; have f4_ := f1_.symm; have f5_ := f3_.symm; clear f1_ f2_ f3_; subst f4_; subst f5_))
     refine hK.out _ _ zK (fun hHeld => ?_)
     clear hK K
     refine nd (some 33) ?_
     refine pu 11 34 ?_
     exact norm_ ZZ539e1d (hCont (.slice Ao29 t317.length co29, gb320) _ ⟨hHeld, (zR HO319), (zB BK311), (zB BK312), (zB BK320), GW320.out, GE320.out, NB311_320.out, NB320_311.out, NB312_320.out, NB320_312.out, ZZ295621⟩)
    skip
    refine box_step ?hg (N := 8) ?hd (cs := #[.int .i64 0, .string (⟨#[]⟩ : ByteArray), .slice none 0 0]) (t := 63) ?hr ?_; (case hd => rfl); (case hg => rfl); (case hr => first | (go_simp; done) | (go_simp; rfl))
    intro gb320 hg w26 hbox hb
    have BK320 := Aside0.mk (hbox)
    have GW320 := gw hg
    have GE320 := gw hg
    replace HB := hB hb
    have NB311_320 := nl hg BK311
    have NB320_311 := ng hg BK311
    replace BK311 := kb BK311 hb
    have NB312_320 := nl hg BK312
    have NB320_312 := ng hg BK312
    replace BK312 := kb BK312 hb
    clear hb hbox hg
    refine hK.out _ _ zK (fun hHeld => ?_)
    clear hK K
    refine nd (some 8) ?_
    refine on1 2 25 Tryd.func91 #[.int .i64 a1] (impl_decimal.calls a1 t315 _ ?side1 A20.out) ?_
    (case side1 => first | (with_reducible exact HV.out) | exact TInv.below HV.out ZZ295621)
    rintro w27 hb
    replace BK311 := kb BK311 hb
    replace BK312 := kb BK312 hb
    replace BK320 := kb BK320 hb
    replace HB := hB hb
    (try clear hb)
    (try clear hb2)
    (try clear hk)
    (try clear hi)
    refine ⟨zK, fun hHeld => ?_⟩
    refine pu 3 26 ?_
    refine on 10 (some 33) (fun K hK => ?_)
    refine goes_ Tryd.func92 (by kernel_rfl) rfl #[.slice A316_2 ((rd_T63 l0_1 a1).f2).length c316_2] (by rfl) rfl rfl ZZ19826e ?_
    with_reducible refine (impl_Posting.calls _ _ ((rd_T63 l0_1 a1).f2) t317 _ ?side1 ?side2 A24.out).mono ?_
    (case side1 => exact (rC (Kd.C_below HR316_2.out HB.out)))
    (case side2 => exact HC316_2.out)
    rintro e w28 ⟨v318, rfl, ho0, hb⟩
    refine ⟨_, rfl, ?_⟩
    have HO319 := Aside0.mk (Kd.R_lower ho0 (below_size ZZ295621))
    replace BK311 := kb BK311 hb
    replace BK312 := kb BK312 hb
    replace BK320 := kb BK320 hb
    replace HB := hB hb
    (try clear hb)
    (try clear hb2)
    (try clear hk)
    (try clear hi)
    (try clear ho0)
    obtain ⟨Ao29, co29, eo29⟩ := Kd.R_slice HO319.out
    (first | subst eo29 | (injection eo29 with f1_ f2_ f3_; have f4_ := f1_.symm; have f5_ := f3_.symm; clear f1_ f2_ f3_; subst f4_; subst f5_))
    refine hK.out _ _ zK (fun hHeld => ?_)
    clear hK K
    refine nd (some 33) ?_
    refine pu 11 34 ?_
    exact norm_ ZZ539e1d (hCont (.slice Ao29 t317.length co29, gb320) _ ⟨hHeld, (zR HO319), (zB BK311), (zB BK312), (zB BK320), GW320.out, GE320.out, NB311_320.out, NB320_311.out, NB312_320.out, NB320_312.out, ZZ295621⟩)
   rintro ⟨v318, gb320⟩ w30 ⟨hS_, h0_, h1_, h2_, h3_, h4_, h5_, h6_, h7_, h8_, h9_, h10_⟩
   have n0_ : Aside0 (Kd.R k70 70 w30 w.heap.size (fun _ => True) v318 t317) := ⟨h0_⟩
   have n1_ : Aside0 (w30.heap[gb311]? = some (.cells #[.slice A0_0 l0_0.length c0_0, .slice (some ad316) l0_1.length c0_1] 31 (0, 0))) := ⟨h1_⟩
   have n2_ : Aside0 (w30.heap[gb312]? = some (.cells #[.slice none 0 0, .slice none 0 0] 31 (0, 0))) := ⟨h2_⟩
   have n3_ : Aside0 (w30.heap[gb320]? = some (.cells #[.int .i64 0, .string (⟨#[]⟩ : ByteArray), .slice none 0 0] 63 (0, 0))) := ⟨h3_⟩
   have n4_ : Aside0 (w.heap.size ≤ gb320) := ⟨h4_⟩
   have n5_ : Aside0 (w.heap.size ≤ gb320) := ⟨h5_⟩
   have n6_ : Aside0 (gb311 ≠ gb320) := ⟨h6_⟩
   have n7_ : Aside0 (gb320 ≠ gb311) := ⟨h7_⟩
   have n8_ : Aside0 (gb312 ≠ gb320) := ⟨h8_⟩
   have n9_ : Aside0 (gb320 ≠ gb312) := ⟨h9_⟩
   have n10_ : Aside0 (Below w.heap.size w w30) := ⟨h10_⟩
   clear BK311
   clear BK312
   clear HB
   clear h0_ h1_ h2_ h3_ h4_ h5_ h6_ h7_ h8_ h9_ h10_
   have HO319 := n0_
   have BK311 := n1_
   have BK312 := n2_
   have BK320 := n3_
   have GW320 := n4_
   have GE320 := n5_
   have NB311_320 := n6_
   have NB320_311 := n7_
   have NB312_320 := n8_
   have NB320_312 := n9_
   have HB := n10_
   clear n0_ n1_ n2_ n3_ n4_ n5_ n6_ n7_ n8_ n9_ n10_
   have hHeld : w30.cell? ⟨gb311, 0, none⟩ = some (.slice A0_0 l0_0.length c0_0) ∧ w30.cell? ⟨gb311, 1, none⟩ = some (.slice (some ad316) l0_1.length c0_1) ∧ w30.cell? (ad316.add ((a1).toNat * 3)) = some (.int .i64 ((rd_T63 l0_1 a1).f0)) ∧ w30.cell? ⟨(ad316.add ((a1).toNat * 3)).block, (ad316.add ((a1).toNat * 3)).off + 1, none⟩ = some (.string ((rd_T63 l0_1 a1).f1)) ∧ w30.cell? ⟨(ad316.add ((a1).toNat * 3)).block, (ad316.add ((a1).toNat * 3)).off + 2, none⟩ = some (.slice A316_2 ((rd_T63 l0_1 a1).f2).length c316_2) := hS_
   obtain ⟨Ao31, co31, eo31⟩ := Kd.R_slice HO319.out
   (first | subst eo31 | (injection eo31 with f1_ f2_ f3_; have f4_ := f1_.symm; have f5_ := f3_.symm; clear f1_ f2_ f3_; subst f4_; subst f5_))
   refine norm_ (a' := ?_) ?_ ?_
   rotate_left
   ·simp only [putAll, Act.put, List.setIfInBounds_toArray, List.set_cons_zero, List.set_cons_succ]
    rfl
   refine on 13 none (fun K hK => ?_)
   have hs32 := cz BK320 0
   have hfs32 := blk_frozen BK320.out 0
   have hns32_0 := NB311_320.out
   have hns32_1 := NB312_320.out
   have hms32_0 := NB320_311.out
   have hms32_1 := NB320_312.out
   have hs33 := cz BK320 1
   have hfs33 := blk_frozen BK320.out 1
   have hns33_0 := NB311_320.out
   have hns33_1 := NB312_320.out
   have hms33_0 := NB320_311.out
   have hms33_1 := NB320_312.out
   have hs34 := cz BK320 2
   have hfs34 := blk_frozen BK320.out 2
   have hns34_0 := NB311_320.out
   have hns34_1 := NB312_320.out
   have hms34_0 := NB320_311.out
   have hms34_1 := NB320_312.out
   refine skip_ (w1 := ?_) (by rfl) rfl ?_ ?_
   rotate_left
   ·go_simp
    rfl
   refine hK.out _ _ ⟨((cell_far (p := ⟨gb320, _, none⟩) NB311_320.out _).trans (((cell_far (p := ⟨gb320, _, none⟩) NB311_320.out _).trans (((cell_far (p := ⟨gb320, _, none⟩) NB311_320.out _).trans (hHeld.1)))))), ((cell_far (p := ⟨gb320, _, none⟩) NB311_320.out _).trans (((cell_far (p := ⟨gb320, _, none⟩) NB311_320.out _).trans (((cell_far (p := ⟨gb320, _, none⟩) NB311_320.out _).trans (hHeld.2.1)))))), ((cell_far (p := ⟨gb320, _, none⟩) (by first | exact Nat.ne_of_lt (Nat.lt_of_lt_of_le (by have := World.block_lt_of_cell? _ _ hw316_0; first | rwa [add_block] at this | exact this) GW320.out) | (rw [add_block]; exact Nat.ne_of_lt (Nat.lt_of_lt_of_le (by have := World.block_lt_of_cell? _ _ hw316_0; first | rwa [add_block] at this | exact this) GW320.out)) | (show (Addr.add _ _).block ≠ _; rw [add_block]; exact Nat.ne_of_lt (Nat.lt_of_lt_of_le (by have := World.block_lt_of_cell? _ _ hw316_0; first | rwa [add_block] at this | exact this) GW320.out)) | (dsimp only; exact Nat.ne_of_lt (Nat.lt_of_lt_of_le (by have := World.block_lt_of_cell? _ _ hw316_0; first | rwa [add_block] at this | exact this) GW320.out))) _).trans (((cell_far (p := ⟨gb320, _, none⟩) (by first | exact Nat.ne_of_lt (Nat.lt_of_lt_of_le (by have := World.block_lt_of_cell? _ _ hw316_0; first | rwa [add_block] at this | exact this) GW320.out) | (rw [add_block]; exact Nat.ne_of_lt (Nat.lt_of_lt_of_le (by have := World.block_lt_of_cell? _ _ hw316_0; first | rwa [add_block] at this | exact this) GW320.out)) | (show (Addr.add _ _).block ≠ _; rw [add_block]; exact Nat.ne_of_lt (Nat.lt_of_lt_of_le (by have := World.block_lt_of_cell? _ _ hw316_0; first | rwa [add_block] at this | exact this) GW320.out)) | (dsimp only; exact Nat.ne_of_lt (Nat.lt_of_lt_of_le (by have := World.block_lt_of_cell? _ _ hw316_0; first | rwa [add_block] at this | exact this) GW320.out))) _).trans (((cell_far (p := ⟨gb320, _, none⟩) (by first | exact Nat.ne_of_lt (Nat.lt_of_lt_of_le (by have := World.block_lt_of_cell? _ _ hw316_0; first | rwa [add_block] at this | exact this) GW320.out) | (rw [add_block]; exact Nat.ne_of_lt (Nat.lt_of_lt_of_le (by have := World.block_lt_of_cell? _ _ hw316_0; first | rwa [add_block] at this | exact this) GW320.out)) | (show (Addr.add _ _).block ≠ _; rw [add_block]; exact Nat.ne_of_lt (Nat.lt_of_lt_of_le (by have := World.block_lt_of_cell? _ _ hw316_0; first | rwa [add_block] at this | exact this) GW320.out)) | (dsimp only; exact Nat.ne_of_lt (Nat.lt_of_lt_of_le (by have := World.block_lt_of_cell? _ _ hw316_0; first | rwa [add_block] at this | exact this) GW320.out))) _).trans (hHeld.2.2.1)))))), ((cell_far (p := ⟨gb320, _, none⟩) (by first | exact Nat.ne_of_lt (Nat.lt_of_lt_of_le (by have := World.block_lt_of_cell? _ _ hw316_1; first | rwa [add_block] at this | exact this) GW320.out) | (rw [add_block]; exact Nat.ne_of_lt (Nat.lt_of_lt_of_le (by have := World.block_lt_of_cell? _ _ hw316_1; first | rwa [add_block] at this | exact this) GW320.out)) | (show (Addr.add _ _).block ≠ _; rw [add_block]; exact Nat.ne_of_lt (Nat.lt_of_lt_of_le (by have := World.block_lt_of_cell? _ _ hw316_1; first | rwa [add_block] at this | exact this) GW320.out)) | (dsimp only; exact Nat.ne_of_lt (Nat.lt_of_lt_of_le (by have := World.block_lt_of_cell? _ _ hw316_1; first | rwa [add_block] at this | exact this) GW320.out))) _).trans (((cell_far (p := ⟨gb320, _, none⟩) (by first | exact Nat.ne_of_lt (Nat.lt_of_lt_of_le (by have := World.block_lt_of_cell? _ _ hw316_1; first | rwa [add_block] at this | exact this) GW320.out) | (rw [add_block]; exact Nat.ne_of_lt (Nat.lt_of_lt_of_le (by have := World.block_lt_of_cell? _ _ hw316_1; first | rwa [add_block] at this | exact this) GW320.out)) | (show (Addr.add _ _).block ≠ _; rw [add_block]; exact Nat.ne_of_lt (Nat.lt_of_lt_of_le (by have := World.block_lt_of_cell? _ _ hw316_1; first | rwa [add_block] at this | exact this) GW320.out)) | (dsimp only; exact Nat.ne_of_lt (Nat.lt_of_lt_of_le (by have := World.block_lt_of_cell? _ _ hw316_1; first | rwa [add_block] at this | exact this) GW320.out))) _).trans (((cell_far (p := ⟨gb320, _, none⟩) (by first | exact Nat.ne_of_lt (Nat.lt_of_lt_of_le (by have := World.block_lt_of_cell? _ _ hw316_1; first | rwa [add_block] at this | exact this) GW320.out) | (rw [add_block]; exact Nat.ne_of_lt (Nat.lt_of_lt_of_le (by have := World.block_lt_of_cell? _ _ hw316_1; first | rwa [add_block] at this | exact this) GW320.out)) | (show (Addr.add _ _).block ≠ _; rw [add_block]; exact Nat.ne_of_lt (Nat.lt_of_lt_of_le (by have := World.block_lt_of_cell? _ _ hw316_1; first | rwa [add_block] at this | exact this) GW320.out)) | (dsimp only; exact Nat.ne_of_lt (Nat.lt_of_lt_of_le (by have := World.block_lt_of_cell? _ _ hw316_1; first | rwa [add_block] at this | exact this) GW320.out))) _).trans (hHeld.2.2.2.1)))))), ((cell_far (p := ⟨gb320, _, none⟩) (by first | exact Nat.ne_of_lt (Nat.lt_of_lt_of_le (by have := World.block_lt_of_cell? _ _ hw316_2; first | rwa [add_block] at this | exact this) GW320.out) | (rw [add_block]; exact Nat.ne_of_lt (Nat.lt_of_lt_of_le (by have := World.block_lt_of_cell? _ _ hw316_2; first | rwa [add_block] at this | exact this) GW320.out)) | (show (Addr.add _ _).block ≠ _; rw [add_block]; exact Nat.ne_of_lt (Nat.lt_of_lt_of_le (by have := World.block_lt_of_cell? _ _ hw316_2; first | rwa [add_block] at this | exact this) GW320.out)) | (dsimp only; exact Nat.ne_of_lt (Nat.lt_of_lt_of_le (by have := World.block_lt_of_cell? _ _ hw316_2; first | rwa [add_block] at this | exact this) GW320.out))) _).trans (((cell_far (p := ⟨gb320, _, none⟩) (by first | exact Nat.ne_of_lt (Nat.lt_of_lt_of_le (by have := World.block_lt_of_cell? _ _ hw316_2; first | rwa [add_block] at this | exact this) GW320.out) | (rw [add_block]; exact Nat.ne_of_lt (Nat.lt_of_lt_of_le (by have := World.block_lt_of_cell? _ _ hw316_2; first | rwa [add_block] at this | exact this) GW320.out)) | (show (Addr.add _ _).block ≠ _; rw [add_block]; exact Nat.ne_of_lt (Nat.lt_of_lt_of_le (by have := World.block_lt_of_cell? _ _ hw316_2; first | rwa [add_block] at this | exact this) GW320.out)) | (dsimp only; exact Nat.ne_of_lt (Nat.lt_of_lt_of_le (by have := World.block_lt_of_cell? _ _ hw316_2; first | rwa [add_block] at this | exact this) GW320.out))) _).trans (((cell_far (p := ⟨gb320, _, none⟩) (by first | exact Nat.ne_of_lt (Nat.lt_of_lt_of_le (by have := World.block_lt_of_cell? _ _ hw316_2; first | rwa [add_block] at this | exact this) GW320.out) | (rw [add_block]; exact Nat.ne_of_lt (Nat.lt_of_lt_of_le (by have := World.block_lt_of_cell? _ _ hw316_2; first | rwa [add_block] at this | exact this) GW320.out)) | (show (Addr.add _ _).block ≠ _; rw [add_block]; exact Nat.ne_of_lt (Nat.lt_of_lt_of_le (by have := World.block_lt_of_cell? _ _ hw316_2; first | rwa [add_block] at this | exact this) GW320.out)) | (dsimp only; exact Nat.ne_of_lt (Nat.lt_of_lt_of_le (by have := World.block_lt_of_cell? _ _ hw316_2; first | rwa [add_block] at this | exact this) GW320.out))) _).trans (hHeld.2.2.2.2))))))⟩ (fun hHeld => ?_)
   clear hK K
   refine done_ (done_of HT_.out (by kernel_rfl)) ?_
   have hnb35 := NB320_311.out
   have hnc35 := NB311_320.out
   have hnb36 := NB320_312.out
   have hnc36 := NB312_320.out
   obtain ⟨hcz37_0, hcz37_1, hcz37_2, hfz37_0, hfz37_1, hfz37_2⟩ := z3 BK320
   try go_wp2
   go_loopg [38] kj3 (fun kq v38 w' => ∃ (x38_2 : Int) (x321002_2 : List (S70)) (u321002 : Value), v38 = .int .i64 x38_2 ∧ Aside0 (impl_ReverseEntry.l0 kq (t317.length : Int) x38_2 l0_0 l0_1 a2 ((⟨#[114, 101, 118, 101, 114, 115, 97, 108, 32, 111, 102, 32]⟩ : ByteArray) ++ t315) x321002_2 = some (r1, r2, r3)) ∧ Aside0 (kq ≤ kj3) ∧ Aside0 (Kd.R k70 70 w' w.heap.size (fun _ => True) u321002 x321002_2) ∧ Aside0 (w'.heap[gb311]? = some (.cells #[(.slice A0_0 l0_0.length c0_0), (.slice (some ad316) l0_1.length c0_1)] 31 (0, 0))) ∧ Aside0 (w'.heap[gb312]? = some (.cells #[(.slice none 0 0), (.slice none 0 0)] 31 (0, 0))) ∧ Aside0 (w'.heap[gb320]? = some (.cells #[.int .i64 a2, .string ((⟨#[114, 101, 118, 101, 114, 115, 97, 108, 32, 111, 102, 32]⟩ : ByteArray) ++ t315), u321002] 63 (0, 0))) ∧ Aside0 (Below w.heap.size w w'))
   case atStart => exact ⟨(0), (t317), (.slice Ao31 t317.length co31), ZZ0ab324, H, ⟨Nat.le_refl _⟩, ⟨(by refine bR ?_; exact Kd.R_mono (Kd.R_far (p := ⟨gb320, 2, none⟩) (Kd.R_far (p := ⟨gb320, 1, none⟩) (Kd.R_far (p := ⟨gb320, 0, none⟩) (Kd.R_types HO319.out BK320.out (by decide)) (fun _ hk => hk.2) (.int .i64 a2)) (fun _ hk => hk.2) (.string ((⟨#[114, 101, 118, 101, 114, 115, 97, 108, 32, 111, 102, 32]⟩ : ByteArray) ++ t315))) (fun _ hk => hk.2) (.slice Ao31 t317.length co31)) (fun _ hk => trivial))⟩, ⟨(by refine bd ?_; refine blk_far ?_ NB311_320.out _; refine bd ?_; refine blk_far ?_ NB311_320.out _; refine bd ?_; refine blk_far ?_ NB311_320.out _; refine bd ?_; exact BK311.out)⟩, ⟨(by refine bd ?_; refine blk_far ?_ NB312_320.out _; refine bd ?_; refine blk_far ?_ NB312_320.out _; refine bd ?_; refine blk_far ?_ NB312_320.out _; refine bd ?_; exact BK312.out)⟩, ⟨(by refine bd ?_; refine blk_put (cs := #[.int .i64 a2, .string ((⟨#[114, 101, 118, 101, 114, 115, 97, 108, 32, 111, 102, 32]⟩ : ByteArray) ++ t315), .slice none 0 0]) ?_ 2 _ rfl; refine bd ?_; refine blk_put (cs := #[.int .i64 a2, .string (⟨#[]⟩ : ByteArray), .slice none 0 0]) ?_ 1 _ rfl; refine bd ?_; refine blk_put (cs := #[.int .i64 0, .string (⟨#[]⟩ : ByteArray), .slice none 0 0]) ?_ 0 _ rfl; refine bd ?_; exact BK320.out)⟩, ⟨ZZ295621⟩⟩
   case round =>
    clear H
    try clear c17
    try clear c21
    try clear c21b0
    try clear c21b1
    try clear c21b2
    try clear c22b0
    try clear c23b0
    try clear hcz19_0
    try clear hcz19_1
    try clear hcz37_0
    try clear hcz37_1
    try clear hcz37_2
    try clear hfz19_0
    try clear hfz19_1
    try clear hfz37_0
    try clear hfz37_1
    try clear hfz37_2
    try clear hx316_0
    try clear hx316_1
    try clear hx316_2
    try clear p316
    try clear q316
    obtain ⟨x38_2, x321002_2, u321002, rfl, HA, HK2, HO_321002, BK311, BK312, BK320, HB⟩ := hrel
    cases gk with
    | zero => exact absurd HA.out (by simp [impl_ReverseEntry.l0])
    | succ k2 =>
     have H := HA.out
     clear HA
     simp only [impl_ReverseEntry.l0] at H
     by_cases c38 : x38_2 < (t317.length : Int)
     ·rw [if_pos c38] at H
      have c38b0 := decide_eq_true c38
      clear c38
      obtain ⟨c39b0, H⟩ := ifYd H
      obtain ⟨c40b0, H⟩ := ifYd H
      try rw [Option.bind_some] at H
      generalize hy322 : (x321002_2.set (x38_2 : Int).toNat (⟨(rd_T70 x321002_2 x38_2).f0, wrap64 (-((rd_T70 x321002_2 x38_2).f1))⟩ : S70) : List (S70)) = y322 at H
      have Ny322 := Aside0.mk hy322.symm
      clear hy322
      replace H := Aside0.mk H
      try go_wp2
      replace HO_321002 := Aside0.mk (Kd.R_drew HO_321002.out)
      replace BK311 := Aside0.mk (blk_drew BK311.out)
      replace BK312 := Aside0.mk (blk_drew BK312.out)
      replace BK320 := Aside0.mk (blk_drew BK320.out)
      replace HB := Aside0.mk (below_drew1 HB.out)
      obtain ⟨Ao43, co43, eo43⟩ := Kd.R_slice HO_321002.out
      (first | subst eo43 | (injection eo43 with f1_ f2_ f3_; have f4_ := f1_.symm; have f5_ := f3_.symm; clear f1_ f2_ f3_; subst f4_; subst f5_))
      have p321 : 0 ≤ (x38_2 : Int) := of_decide_eq_true ZZ853400
      have q321 : x38_2 < (x321002_2.length : Int) := of_decide_eq_true ZZ853400
      obtain ⟨ad321, e321, hx321_0, hx321_1⟩ := at_T70 (Kd.R_reads' HO_321002.out).2.2 x38_2 p321 q321
      cases e321
      replace p321 := eq_true p321
      replace q321 := eq_true q321
      have p41 : 0 ≤ (x38_2 : Int) := of_decide_eq_true ZZ853400
      have q41 : (x38_2 : Int) < ((x321002_2.length : Int) : Int) := of_decide_eq_true ZZ853400
      obtain ⟨go41, co41, eo41, gb41, gl41, cl41, HG41⟩ := Kd.R_form HO_321002.out (by omega)
      (first | cases eo41 | (injection eo41 with ea_ en_ ec_; (first | subst ea_ | (injection ea_ with ea_; subst ea_)); subst ec_; clear en_))
      have GB41 := Aside0.mk gb41
      have GG41 := Aside0.mk HG41
      clear gb41 gl41 HG41
      (first | simp only [add_plain] at hx321_0 | skip)
      (first | simp only [add_plain] at hx321_1 | skip)
      obtain ⟨ce41, hcl41, hM41, hcc41, hfr41⟩ := Kd.R_elem HO_321002.out z70 (x38_2 : Int) p41 q41
      obtain rfl := k70_openM hM41
      have hx41_0 : World.cell? _ ⟨go41, (x38_2 : Int).toNat * 2, none⟩ = some (.int .i64 ((rd_T70 x321002_2 x38_2).f0)) := hcc41 0 _ rfl
      have hx41_1 : World.cell? _ ⟨go41, (x38_2 : Int).toNat * 2 + 1, none⟩ = some (.int .i64 ((rd_T70 x321002_2 x38_2).f1)) := hcc41 1 _ rfl
      have hf41_0 : World.frozen? _ ⟨go41, (x38_2 : Int).toNat * 2, none⟩ = false := hfr41 0
      have hf41_1 : World.frozen? _ ⟨go41, (x38_2 : Int).toNat * 2 + 1, none⟩ = false := hfr41 1
      clear hcl41 hcc41 hfr41 hM41
      replace p41 := eq_true p41
      replace q41 := eq_true q41
      obtain ⟨ce44, hcl44, hM44, hcc44, hfr44⟩ := Kd.R_elem HO_321002.out z70 (x38_2 : Int) (of_decide_eq_true ZZ853400) (by have h_ : (x38_2 : Int) < ((x321002_2.length : Int) : Int) := of_decide_eq_true ZZ853400; first | exact h_ | (have e_ := (Kd.R_reads' HO_321002.out).1; omega) | simpa using h_)
      obtain rfl := k70_openM hM44
      have HP44 := (Kd.R_seg HO_321002.out (x38_2 : Int) (of_decide_eq_true ZZ853400) (by have h_ : (x38_2 : Int) < ((x321002_2.length : Int) : Int) := of_decide_eq_true ZZ853400; first | exact h_ | (have e_ := (Kd.R_reads' HO_321002.out).1; omega) | simpa using h_) (seg := [.int .i64 (wrap64 (-((rd_T70 x321002_2 x38_2).f1)))]) (j := 1) hcl44 hcc44 (show 2 ≤ 2 from by decide) (x' := (⟨(rd_T70 x321002_2 x38_2).f0, wrap64 (-((rd_T70 x321002_2 x38_2).f1))⟩ : S70)) (k70_mkM _ _ _ (⟨(rd_T70 x321002_2 x38_2).f0, wrap64 (-((rd_T70 x321002_2 x38_2).f1))⟩ : S70) ) (fun _ hk => hk)).1
      rw [← Ny322.out] at HP44
      have HQ44 := Aside0.mk HP44
      clear hcl44 hcc44 hfr44 hM44 HP44
      refine start_ (n := 13) (S := fun w' => w'.cell? ⟨gb320, 0, none⟩ = some (.int .i64 a2) ∧ w'.cell? ⟨gb320, 1, none⟩ = some (.string ((⟨#[114, 101, 118, 101, 114, 115, 97, 108, 32, 111, 102, 32]⟩ : ByteArray) ++ t315)) ∧ w'.cell? ⟨gb320, 2, none⟩ = some (.slice (some ⟨go41, 0, none⟩) x321002_2.length co43) ∧ w'.cell? ⟨go41, ((x38_2).toNat * 2), none⟩ = some (.int .i64 ((rd_T70 x321002_2 x38_2).f0)) ∧ w'.cell? ⟨go41, ((x38_2).toNat * 2) + 1, none⟩ = some (.int .i64 ((rd_T70 x321002_2 x38_2).f1))) (ds := [12]) #[false, false, false, false, false, false, false, false, false, false, false, false, false] (by kernel_rfl) rfl rfl ⟨(blk_cell BK320.out 0).trans rfl, (blk_cell BK320.out 1).trans rfl, (blk_cell BK320.out 2).trans rfl, hx321_0, hx321_1⟩ (fun hHeld => ?_); refine with_tabW impl_ReverseEntry.tab7 impl_ReverseEntry.bits7 (fun HT_ HW_ => ?_)
      generalize wr.drew = w42 at HO_321002 BK311 BK312 BK320 HB GG41 HQ44 hf41_0 hf41_1 hx321_0 hx321_1 hx41_0 hx41_1 hHeld ⊢
      refine pu 0 41 ?_
      refine pu 2 43 ?_
      refine pu 3 44 ?_
      refine pu 5 46 ?_
      refine tk 1 42 ?_
      refine tk 4 45 ?_
      refine pu 6 47 ?_
      refine pu 7 48 ?_
      refine tk 8 49 ?_
      refine pu 9 50 ?_
      refine pu 10 51 ?_
      refine pu 11 52 ?_
      refine last_ (i := 12) (N := none) #[true, true, true, true, true, true, true, true, true, true, true, true, true] rfl rfl (one_of HT_.out (by kernel_rfl)) (by decide) (fun K hK => ?_)
      refine skip_ (w1 := ?_) (by rfl) rfl ?_ ?_
      rotate_left
      ·go_simp
       rfl
      refine hK.out _ _ ?_
      clear hK K
      refine done_ (done_of HT_.out (by kernel_rfl)) ?_
      try go_wp2
      go_roundg k2
      case measure => have := HJ3.out; have := HK2.out; omega
      case rel => exact ⟨(wrap64 (x38_2 + 1)), (y322), (.slice (some ⟨go41, 0, none⟩) x321002_2.length co43), ZZ0ab324, H, kle, ⟨(by refine bR ?_; exact HQ44.out)⟩, ⟨(by refine bd ?_; refine blk_far ?_ (by have h_ := Kd.R_ne HO_321002.out BK311.out (by decide); intro e_; exact h_ (by rw [e_]; rfl)) _; refine bd ?_; exact BK311.out)⟩, ⟨(by refine bd ?_; refine blk_far ?_ (by have h_ := Kd.R_ne HO_321002.out BK312.out (by decide); intro e_; exact h_ (by rw [e_]; rfl)) _; refine bd ?_; exact BK312.out)⟩, ⟨(by refine bd ?_; refine blk_far ?_ (by have h_ := Kd.R_ne HO_321002.out BK320.out (by decide); intro e_; exact h_ (by rw [e_]; rfl)) _; refine bd ?_; exact BK320.out)⟩, ⟨(by repeat (first | (with_reducible first | exact HB.out | apply below_alloc | apply pw_below_drewN | apply below_drew1 | refine below_set ?_ GB41.out | refine below_set ?_ GE311.out | refine below_set ?_ GE312.out | refine below_set ?_ GE320.out) | exact HB.out))⟩⟩
     rw [if_neg c38] at H
     have c38b0 := decide_eq_false c38
     clear c38
     obtain ⟨⟨t323, t326, t329⟩, A45, H⟩ := bdY H
     try dsimp only at H
     simp only [Option.some.injEq, Prod.mk.injEq] at H
     obtain ⟨rfl, rfl, rfl⟩ := H
     have hnb46 := NB311_312.out
     have hnc46 := NB312_311.out
     have hnb47 := NB311_320.out
     have hnc47 := NB320_311.out
     obtain ⟨hcz48_0, hcz48_1, hfz48_0, hfz48_1⟩ := z2 BK311
     have hnb49 := NB320_312.out
     have hnc49 := NB312_320.out
     obtain ⟨hcz50_0, hcz50_1, hcz50_2, hfz50_0, hfz50_1, hfz50_2⟩ := z3 BK320
     obtain ⟨Ao51, co51, eo51⟩ := Kd.R_slice HO_321002.out
     subst eo51
     go_wp2_with (first | (refine gc 56 Tryd.func38 #[.agg #[.slice A0_0 l0_0.length c0_0, .slice (some ad316) l0_1.length c0_1], .agg #[.int .i64 a2, .string ((⟨#[114, 101, 118, 101, 114, 115, 97, 108, 32, 111, 102, 32]⟩ : ByteArray) ++ t315), .slice Ao51 x321002_2.length co51]] ?_; (with_reducible refine (impl_PostEntry.calls k2 _ _ l0_0 (fun k_ => k_ < w.heap.size) _ _ l0_1 a2 ((⟨#[114, 101, 118, 101, 114, 115, 97, 108, 32, 111, 102, 32]⟩ : ByteArray) ++ t315) (fun k_ => some k_ = (.slice Ao51 x321002_2.length co51 : Value).ownBlock) _ _ x321002_2 t323 t326 t329 _ ?side1 ?side2 ?side3 ?side4 A45.out).mono ?_); (case side1 => exact (rC (Kd.C_below HR0_0.out HB.out))); (case side2 => exact HC0_0.out); (case side3 => exact Kd.V_mk HC0_1.out (Kd.F_below (Kd.C_F k63_heap HR0_1.out) ZZ295621)); (case side4 => exact Kd.R_V (Kd.R_tight rfl (Kd.R_types (Kd.R_types (Kd.R_types (HO_321002.out) BK311.out (by decide)) BK312.out (by decide)) BK320.out (by decide)))); rintro e w52 ⟨v324, v327, rfl, ho0, ho1, hb⟩; refine ⟨_, rfl, ?_⟩; have HO325 := Aside0.mk (Kd.R_lower (Kd.R_mono (ok' := fun k_ => True) ho0 (fun _ hk_ => trivial)) (below_size ZZ295621)); have HO328 := Aside0.mk (Kd.S_lower (Kd.S_newB (Kd.S_new' (Kd.S_mono (ok' := fun k_ => True) ho1 (fun _ hk_ => trivial)) (Kd.R_lt (zR HO_321002))) (zB BK320)) (below_size ZZ295621)); replace HO_321002 := Aside0.mk (Kd.R_below (zR HO_321002) hb); replace BK311 := kb BK311 hb; replace BK312 := kb BK312 hb; replace BK320 := kb BK320 hb; replace HB := hB hb; (try clear hb); (try clear hb2); (try clear hk); (try clear hi); (try clear ho0); (try clear ho1); obtain ⟨Ao53, co53, eo53⟩ := Kd.R_slice HO325.out; subst eo53; obtain ⟨hcz54_0, hcz54_1, hfz54_0, hfz54_1⟩ := z2 BK312; obtain ⟨Ao55, co55, eo55⟩ := Kd.S_slice HO328.out; subst eo55))
     refine bodyPost_ret (results_ct rfl _ _ gb312 31 #[.slice Ao53 t323.length co53, .slice Ao55 t326.length co55] (0, 0) _ rfl (by refine bd ?_; refine blk_put (cs := #[.slice Ao53 t323.length co53, .slice none 0 0]) ?_ 1 _ rfl; refine bd ?_; refine blk_put (cs := #[.slice none 0 0, .slice none 0 0]) ?_ 0 _ rfl; refine bd ?_; exact BK312.out) Tryd.underlying31 rfl (by kernel_rfl)) rfl ?_
     exact ⟨_, _, ZZab01d2, (by refine bR ?_; exact Kd.R_mono (Kd.R_far (p := ⟨gb312, 1, none⟩) (Kd.R_far (p := ⟨gb312, 0, none⟩) (Kd.R_types HO325.out BK312.out (by decide)) (fun _ hk => hk.2) (.slice Ao53 t323.length co53)) (fun _ hk => hk.2) (.slice Ao55 t326.length co55)) (fun _ hk => trivial)), (by refine bS ?_; exact Kd.S_mono (Kd.S_far (p := ⟨gb312, 1, none⟩) (Kd.S_far (p := ⟨gb312, 0, none⟩) (Kd.S_types HO328.out BK312.out (by decide)) (fun _ hk => hk.2) (.slice Ao53 t323.length co53)) (fun _ hk => hk.2) (.slice Ao55 t326.length co55)) (fun _ hk => trivial)), ZZ295621⟩
end Go.Proofs.YtccdjchaaeligaaDoor.XFnExactReverseEntry

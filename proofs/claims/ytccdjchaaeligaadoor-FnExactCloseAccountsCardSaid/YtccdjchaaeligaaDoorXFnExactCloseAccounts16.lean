import Derived.Test.YtccdjchaaeligaaDoorXFnExactCloseAccounts9
import Derived.Test.YtccdjchaaeligaaDoorXFnExactCloseAccounts1
import Derived.Test.YtccdjchaaeligaaDoorXFnExactCloseAccounts0
import Derived.Test.YtccdjchaaeligaaDoorXFnExactCloseAccounts15
namespace Go.Proofs.YtccdjchaaeligaaDoor.XFnExactCloseAccounts
open Go.Proofs.YtccdjchaaeligaaDoor.Short Go.RowKit Go.Proofs.YtccdjchaaeligaaDoorW.PrintWords Go.Proofs.YtccdjchaaeligaaDoorW.PrintLast Go.Proofs.YtccdjchaaeligaaDoorW.PrintMore
attribute [local go_sem] max2_int min2_int max_two min_two max_three min_three max_four min_four
set_option linter.unusedVariables false
set_option linter.unusedSimpArgs false
def spec_l26Own.l0 : Nat → Int → List (S48) → List (S63) → List (S48) → List (S63) → Option ((List (S48)) × (List (S63)))
 | 0, _, _, _, _, _ => none
 | k + 1, x4, x388000, x388001, x399000, x399001 => if x4 < (x388001.length : Int) then (if 0 ≤ x4 then ((spec_l26OwnEntry.f ((rd_T63 x388001 x4).f0) ((rd_T63 x388001 x4).f1) ((rd_T63 x388001 x4).f2)).bind fun bt400 => (if x399001.length < 2932031007402 then (spec_l26Own.l0 k (wrap64 (x4 + 1)) x388000 x388001 x399000 (x399001 ++ [(⟨bt400.1, bt400.2.1, bt400.2.2⟩ : S63)])) else (none))) else (none)) else (some (x399000, x399001))
def spec_l26Own.f (k : Nat) (l0_0 : List (S48)) (l0_1 : List (S63)) : Option ((List (S48)) × (List (S63))) := (some (([] : List (S48)) : List (S48))).bind fun y389 => (if y389.length + l0_0.length < 5864062014805 then (spec_l26Own.l0 k 0 l0_0 l0_1 (y389 ++ l0_0) (([] : List (S63)))) else (none))
theorem spec_l26Own.mono_l : ∀ k, (∀ y0 y1 y2 y3 y4, LeO (spec_l26Own.l0 k y0 y1 y2 y3 y4) (spec_l26Own.l0 (k + 1) y0 y1 y2 y3 y4))
 | 0 => fun _ _ _ _ _ r h => by simp [spec_l26Own.l0] at h
 | k + 1 => by
  have ih0 := spec_l26Own.mono_l k
  ·intro y0 y1 y2 y3 y4
   unfold spec_l26Own.l0
   repeat' with_reducible first | apply ih0 | exact LeO.refl _ | exact LeO.none _ | refine LeO.ite ?_ ?_ | refine LeO.bind ?_ (fun _ => ?_)
theorem spec_l26Own.mono : ∀ a0 a1 k, LeO (spec_l26Own.f k a0 a1) (spec_l26Own.f (k + 1) a0 a1) := by
 intro a0 a1 k
 have ih0 := spec_l26Own.mono_l k
 unfold spec_l26Own.f
 repeat' with_reducible first | apply ih0 | exact LeO.refl _ | exact LeO.none _ | refine LeO.ite ?_ ?_ | refine LeO.bind ?_ (fun _ => ?_)
def spec_l26Own.T5 : Bool × List (List Nat × List Nat) := (true, [([], []), ([0], [0]), ([], []), ([2], [2]), ([], []), ([3, 4], [3, 4]), ([5], [5]), ([6], [6]), ([7], [7]), ([1, 8, 7], [1, 8]), ([0, 1, 2, 3, 4, 5, 6, 7, 8, 9], []), ([10, 9, 9, 0, 1, 2, 3, 4, 5, 6, 7, 8, 9], [9, 10])])
def spec_l26Own.B5 : List Nat := [0, 1, 0, 4, 0, 28, 60, 124, 252, 511, 1023, 2047]
theorem spec_l26Own.tab5 : rtab .any (opsOf Tryd.f77 5) = spec_l26Own.T5 := by kernel_rfl
theorem spec_l26Own.bits5 : waitsOk spec_l26Own.T5.2 spec_l26Own.B5 = true := by kernel_rfl
set_option maxHeartbeats 8000000 in
set_option maxRecDepth 100000 in
theorem spec_l26Own.calls (k : Nat) (A0_0 : Option Addr) (c0_0 : Nat) (l0_0 : List (S48)) (A0_1 : Option Addr) (c0_1 : Nat) (l0_1 : List (S63)) (r1 : List (S48)) (r2 : List (S63)) (w : World) (hr0_0 : Kd.C k48 w A0_0 l0_0.length l0_0) (hc0_0 : l0_0.length ≤ c0_0) (hr0_1 : Kd.C k63 w A0_1 l0_1.length l0_1) (hc0_1 : l0_1.length ≤ c0_1) (h : spec_l26Own.f k l0_0 l0_1 = some (r1, r2)) :
 Calls Tryd.prog 77 #[.agg #[.slice A0_0 l0_0.length c0_0, .slice A0_1 l0_1.length c0_1]] w fun e w' => ∃ v0_ v1_ : Value, e = .returned (.agg #[v0_, v1_]) ∧ Kd.R k48 48 w' w.heap.size (fun _ => True) v0_ r1 ∧ Kd.S k63 63 w' w.heap.size (fun _ => True) v1_ r2 ∧ Below w.heap.size w w' := by
 have hu31 := Tryd.underlying31
 have hu63 := Tryd.underlying63
 have HR0_0 := Aside0.mk hr0_0
 have HC0_0 := Aside0.mk hc0_0
 clear hr0_0 hc0_0
 have HR0_1 := Aside0.mk hr0_1
 have HC0_1 := Aside0.mk hc0_1
 clear hr0_1 hc0_1
 have HB := Aside0.mk (Below.refl w.heap.size w)
 have H := h
 clear h
 unfold spec_l26Own.f at H
 try rw [Option.bind_some] at H
 generalize hy389 : (([] : List (S48)) : List (S48)) = y389 at H
 have Ny389 := Aside0.mk hy389.symm
 clear hy389
 obtain ⟨c2, H⟩ := ifY H
 have LMc2 := Aside0.mk c2
 clear c2
 try rw [Option.bind_some] at H
 generalize hy392 : (y389 ++ l0_0 : List (S48)) = y392 at H
 have Ny392 := Aside0.mk hy392.symm
 clear hy392
 try rw [Option.bind_some] at H
 generalize hy395 : (([] : List (S63)) : List (S63)) = y395 at H
 have Ny395 := Aside0.mk hy395.symm
 clear hy395
 replace H := Aside0.mk H
 go_enter Tryd.func77, Tryd.ntmps77
 go_wp2_with (first | ((with_reducible refine gate_dst (N := 1) rfl ?_); refine bx 1 (cs := #[.slice A0_0 l0_0.length c0_0, .slice A0_1 l0_1.length c0_1]) (t := 31) ?_; intro gb387 hg w3 hbox hb; have BK387 := Aside0.mk (hbox); have GW387 := gw hg; have GE387 := gw hg; replace HB := hB hb; clear hb hbox hg) | ((with_reducible refine gate_dst (N := 2) rfl ?_); refine bx 2 (cs := #[.slice none 0 0, .slice none 0 0]) (t := 31) ?_; intro gb388 hg w4 hbox hb; have BK388 := Aside0.mk (hbox); have GW388 := gw hg; have GE388 := gw hg; replace HB := hB hb; have NB387_388 := nl hg BK387; have NB388_387 := ng hg BK387; replace BK387 := kb BK387 hb; clear hb hbox hg) | ((with_reducible refine gate_dst (N := 5) rfl ?_); refine Kd.R_lit k48 _ 48 ?hg (N := 5) ?hd (xs := ([] : List (S48))) (inner := []) (ok := fun _ => True) (okp := fun _ => True) ?hr ?hp (fun _ hk => hk) trivial (Below.refl _ _) (Nat.le_refl _) (by simp) ?_; (case hd => rfl); (case hg => rfl); (case hr => first | (go_simp; done) | (go_simp; rfl)); (case hp => exact (Reps.none _ _)); intro v390 w5 ho6 hb hg_ hnew_; clear hg_ hnew_; (first | rw [← Ny389.out] at ho6 | (simp only [Int.reduceToNat] at ho6; rw [← Ny389.out] at ho6)); have HO391 := Aside0.mk (Kd.R_lower ho6 (below_size ZZ295621)); replace BK387 := kb BK387 hb; replace BK388 := kb BK388 hb; replace HB := hB hb; clear hb ho6; have hnb7 := NB387_388.out; have hnc7 := NB388_387.out; obtain ⟨hcz8_0, hcz8_1, hfz8_0, hfz8_1⟩ := z2 BK387) | ((with_reducible refine gate_builtin (b := .append) (xs := #[.tmp 5, .tmp 7]) rfl ?_); at_builtin; refine Kd.R_append_rows k48 (w0 := w) w.heap.size rfl (.tmp 5) (.tmp 7) 28 48 (.agg #[(.string ⟨#[]⟩), (.int .i64 0)]) 24 rfl Tryd.underlying28 info48 rfl (by decide) (by omega) v390 y389 l0_0 _ _ _ (fun _ => True) (fun _ => False) rfl rfl ?aO ?aR (fun _ _ h => h) (fun _ h => h.elim) ?aF ?aB ?aS ?aL ?_; (case aR => repeat (first | exact (Kd.C_below HR0_0.out HB.out) | (with_reducible refine Kd.C_alloc ?_ _) | (with_reducible refine Kd.C_drewN ?_ _) | (with_reducible refine Kd.C_drew ?_))); (case aB => exact ZZ295621); (case aF => exact (fun _ _ => trivial)); (case aO => exact (zR HO391)); (case aS => exact (below_size ZZ295621)); (case aL => have := LMc2.out; omega); intro v393 w9 ho hb hg hat; rw [← Ny392.out] at ho; replace BK387 := Aside0.mk (blk_grown (zB BK387) hg (Kd.R_ne HO391.out BK387.out (by decide))); replace BK388 := Aside0.mk (blk_grown (zB BK388) hg (Kd.R_ne HO391.out BK388.out (by decide))); replace HB := Aside0.mk (hb); have HO394 := Aside0.mk (ho); clear HO391; clear ho hb hg hat) | ((with_reducible refine gate_dst (N := 9) rfl ?_); refine Kd.S_lit k63 _ 63 ?hg (N := 9) ?hd (xs := ([] : List (S63))) (inner := []) (ok := fun _ => True) (okp := fun _ => True) ?hr ?hp (fun _ hk => hk) trivial (Below.refl _ _) (Nat.le_refl _) (by simp) ?_; (case hd => rfl); (case hg => rfl); (case hr => first | (go_simp; done) | (go_simp; rfl)); (case hp => exact (Reps.none _ _)); intro v396 w10 ho11 hb hg_ hnew_; clear hg_ hnew_; (first | rw [← Ny395.out] at ho11 | (simp only [Int.reduceToNat] at ho11; rw [← Ny395.out] at ho11)); replace HO394 := Aside0.mk (Kd.R_below (zR HO394) hb); have HO397 := Aside0.mk (Kd.S_lower ho11 (below_size ZZ295621)); replace BK387 := kb BK387 hb; replace BK388 := kb BK388 hb; replace HB := hB hb; clear hb ho11; obtain ⟨Ao12, co12, eo12⟩ := Kd.S_slice HO397.out; subst eo12; obtain ⟨Ao13, co13, eo13⟩ := Kd.R_slice HO394.out; subst eo13) | ((with_reducible refine gate_dst (N := 3) rfl ?_); refine bx 3 (cs := #[.slice none 0 0, .slice none 0 0]) (t := 31) ?_; intro gb398 hg w14 hbox hb; replace HO394 := Aside0.mk (Kd.R_below (zR HO394) hb); replace HO397 := Aside0.mk (Kd.S_below (zS HO397) hb); have BK398 := Aside0.mk (hbox); have GW398 := gw hg; have GE398 := gw hg; replace HB := hB hb; have NB387_398 := nl hg BK387; have NB398_387 := ng hg BK387; replace BK387 := kb BK387 hb; have NB388_398 := nl hg BK388; have NB398_388 := ng hg BK388; replace BK388 := kb BK388 hb; clear hb hbox hg; have hnb15 := NB398_387.out; have hnc15 := NB387_398.out; have hnb16 := NB398_388.out; have hnc16 := NB388_398.out; obtain ⟨hcz17_0, hcz17_1, hfz17_0, hfz17_1⟩ := z2 BK398))
 go_loopg [4] k (fun kq v4 w' => ∃ (x4_1 : Int) (x399001_1 : List (S63)) (u399001 : Value), v4 = .int .i64 x4_1 ∧ Aside0 (spec_l26Own.l0 kq x4_1 l0_0 l0_1 y392 x399001_1 = some (r1, r2)) ∧ Aside0 (kq ≤ k) ∧ Aside0 (Kd.R k48 48 w' w.heap.size (fun _ => True) (.slice Ao13 y392.length co13) y392) ∧ Aside0 (Kd.S k63 63 w' w.heap.size (fun _ => True) u399001 x399001_1) ∧ Aside0 (w'.heap[gb387]? = some (.cells #[(.slice A0_0 l0_0.length c0_0), (.slice A0_1 l0_1.length c0_1)] 31 (0, 0))) ∧ Aside0 (w'.heap[gb388]? = some (.cells #[(.slice none 0 0), (.slice none 0 0)] 31 (0, 0))) ∧ Aside0 (w'.heap[gb398]? = some (.cells #[(.slice Ao13 y392.length co13), u399001] 31 (0, 0))) ∧ Aside0 (Below w.heap.size w w'))
 case atStart => exact ⟨(0), (y395), (.slice Ao12 y395.length co12), ZZ0ab324, H, ⟨Nat.le_refl _⟩, ⟨(by refine bR ?_; exact Kd.R_mono (Kd.R_far (p := ⟨gb398, 1, none⟩) (Kd.R_far (p := ⟨gb398, 0, none⟩) (Kd.R_types HO394.out BK398.out (by decide)) (fun _ hk => hk.2) (.slice Ao13 y392.length co13)) (fun _ hk => hk.2) (.slice Ao12 y395.length co12)) (fun _ hk => trivial))⟩, ⟨(by refine bS ?_; exact Kd.S_mono (Kd.S_far (p := ⟨gb398, 1, none⟩) (Kd.S_far (p := ⟨gb398, 0, none⟩) (Kd.S_types HO397.out BK398.out (by decide)) (fun _ hk => hk.2) (.slice Ao13 y392.length co13)) (fun _ hk => hk.2) (.slice Ao12 y395.length co12)) (fun _ hk => trivial))⟩, ⟨(by refine bd ?_; refine blk_far ?_ NB387_398.out _; refine bd ?_; refine blk_far ?_ NB387_398.out _; refine bd ?_; exact BK387.out)⟩, ⟨(by refine bd ?_; refine blk_far ?_ NB388_398.out _; refine bd ?_; refine blk_far ?_ NB388_398.out _; refine bd ?_; exact BK388.out)⟩, ⟨(by refine bd ?_; refine blk_put (cs := #[.slice Ao13 y392.length co13, .slice none 0 0]) ?_ 1 _ rfl; refine bd ?_; refine blk_put (cs := #[.slice none 0 0, .slice none 0 0]) ?_ 0 _ rfl; refine bd ?_; exact BK398.out)⟩, ⟨ZZ295621⟩⟩
 case round =>
  clear H
  try clear hcz17_0
  try clear hcz17_1
  try clear hcz8_0
  try clear hcz8_1
  try clear hfz17_0
  try clear hfz17_1
  try clear hfz8_0
  try clear hfz8_1
  obtain ⟨x4_1, x399001_1, u399001, rfl, HA, HK1, HO_399000, HO_399001, BK387, BK388, BK398, HB⟩ := hrel
  cases gk with
  | zero => exact absurd HA.out (by simp [spec_l26Own.l0])
  | succ k1 =>
   have H := HA.out
   clear HA
   simp only [spec_l26Own.l0] at H
   by_cases c18 : x4_1 < (l0_1.length : Int)
   ·rw [if_pos c18] at H
    have c18b0 := decide_eq_true c18
    clear c18
    obtain ⟨c19b0, H⟩ := ifYd H
    obtain ⟨⟨t400, t401, t402⟩, A20, H⟩ := bdY H
    try dsimp only at H
    obtain ⟨c21, H⟩ := ifY H
    have LMc21 := Aside0.mk c21
    clear c21
    try rw [Option.bind_some] at H
    generalize hy405 : (x399001_1 ++ [(⟨t400, t401, t402⟩ : S63)] : List (S63)) = y405 at H
    have Ny405 := Aside0.mk hy405.symm
    clear hy405
    replace H := Aside0.mk H
    have hnb22 := NB387_388.out
    have hnc22 := NB388_387.out
    have hnb23 := NB387_398.out
    have hnc23 := NB398_387.out
    obtain ⟨hcz24_0, hcz24_1, hfz24_0, hfz24_1⟩ := z2 BK387
    try go_wp2
    replace HO_399000 := Aside0.mk (Kd.R_drew HO_399000.out)
    replace HO_399001 := Aside0.mk (Kd.S_drew HO_399001.out)
    replace BK387 := Aside0.mk (blk_drew BK387.out)
    replace BK388 := Aside0.mk (blk_drew BK388.out)
    replace BK398 := Aside0.mk (blk_drew BK398.out)
    replace HB := Aside0.mk (below_drew1 HB.out)
    have p399 : 0 ≤ (x4_1 : Int) := of_decide_eq_true ZZ853400
    have q399 : x4_1 < (l0_1.length : Int) := of_decide_eq_true ZZ853400
    obtain ⟨ad399, A399_2, c399_2, e399, hx399_0, hx399_1, hx399_2, hl399_2, hi399_2⟩ := at_T63 HR0_1.out x4_1 p399 q399
    have hw399_2 := hx399_2
    have hw399_1 := hx399_1
    have hw399_0 := hx399_0
    cases e399
    replace hx399_0 := (HB.out.cell (World.block_lt_of_cell? w _ hx399_0)).trans hx399_0
    replace hx399_1 := (HB.out.cell (World.block_lt_of_cell? w _ hx399_1)).trans hx399_1
    replace hx399_2 := (HB.out.cell (World.block_lt_of_cell? w _ hx399_2)).trans hx399_2
    have HR399_2 := Aside0.mk hi399_2
    have HC399_2 := Aside0.mk hl399_2
    clear hi399_2 hl399_2
    replace p399 := eq_true p399
    replace q399 := eq_true q399
    refine start_ (n := 12) (S := fun w' => w'.cell? ⟨gb398, 0, none⟩ = some (.slice Ao13 y392.length co13) ∧ w'.cell? ⟨gb398, 1, none⟩ = some (u399001) ∧ w'.cell? ⟨gb387, 0, none⟩ = some (.slice A0_0 l0_0.length c0_0) ∧ w'.cell? ⟨gb387, 1, none⟩ = some (.slice (some ad399) l0_1.length c0_1) ∧ w'.cell? (ad399.add ((x4_1).toNat * 3)) = some (.int .i64 ((rd_T63 l0_1 x4_1).f0)) ∧ w'.cell? ⟨(ad399.add ((x4_1).toNat * 3)).block, (ad399.add ((x4_1).toNat * 3)).off + 1, none⟩ = some (.string ((rd_T63 l0_1 x4_1).f1)) ∧ w'.cell? ⟨(ad399.add ((x4_1).toNat * 3)).block, (ad399.add ((x4_1).toNat * 3)).off + 2, none⟩ = some (.slice A399_2 ((rd_T63 l0_1 x4_1).f2).length c399_2)) (ds := [11]) #[false, false, false, false, false, false, false, false, false, false, false, false] (by kernel_rfl) rfl rfl ⟨(blk_cell BK398.out 0).trans rfl, (blk_cell BK398.out 1).trans rfl, (blk_cell BK387.out 0).trans rfl, (blk_cell BK387.out 1).trans rfl, ((HB.out.cell (World.block_lt_of_cell? w _ hw399_0)).trans hw399_0), ((HB.out.cell (World.block_lt_of_cell? w _ hw399_1)).trans hw399_1), ((HB.out.cell (World.block_lt_of_cell? w _ hw399_2)).trans hw399_2)⟩ (fun hHeld => ?_); refine with_tabW spec_l26Own.tab5 spec_l26Own.bits5 (fun HT_ HW_ => ?_)
    generalize wr.drew = w25 at HO_399000 HO_399001 BK387 BK388 BK398 HB HR399_2 hx399_0 hx399_1 hx399_2 hHeld ⊢
    refine pu 0 18 ?_
    refine pu 2 20 ?_
    refine pu 4 22 ?_
    refine tk 1 19 ?_
    refine tk 3 21 ?_
    refine pu 5 23 ?_
    refine tk 6 24 ?_
    refine on 7 (some 25) (fun K hK => ?_)
    refine goes_ Tryd.func111 (by kernel_rfl) rfl #[.agg #[.int .i64 ((rd_T63 l0_1 x4_1).f0), .string ((rd_T63 l0_1 x4_1).f1), .slice A399_2 ((rd_T63 l0_1 x4_1).f2).length c399_2]] (by rfl) rfl rfl ZZ19826e ?_
    with_reducible refine (spec_l26OwnEntry.calls ((rd_T63 l0_1 x4_1).f0) ((rd_T63 l0_1 x4_1).f1) _ _ ((rd_T63 l0_1 x4_1).f2) t400 t401 t402 _ ?side1 ?side2 A20.out).mono ?_
    (case side1 => exact (rC (Kd.C_below HR399_2.out HB.out)))
    (case side2 => exact HC399_2.out)
    rintro e w26 ⟨v403, rfl, ho0, hb⟩
    refine ⟨_, rfl, ?_⟩
    replace HO_399000 := Aside0.mk (Kd.R_below (zR HO_399000) hb)
    replace HO_399001 := Aside0.mk (Kd.S_elder' (zS HO_399001) (Kd.R_base ho0) hb)
    have HO404 := Aside0.mk (Kd.R_lower ho0 (below_size ZZ295621))
    replace BK387 := kb BK387 hb
    replace BK388 := kb BK388 hb
    replace BK398 := kb BK398 hb
    replace HB := hB hb
    (try clear hb)
    (try clear hb2)
    (try clear hk)
    (try clear hi)
    (try clear ho0)
    obtain ⟨Ao28, co28, eo28⟩ := Kd.R_slice HO404.out
    (first | subst eo28 | (injection eo28 with f1_ f2_ f3_; have f4_ := f1_.symm; have f5_ := f3_.symm; clear f1_ f2_ f3_; subst f4_; subst f5_))
    refine hK.out _ _ zK (fun hHeld => ?_)
    clear hK K
    refine nd (some 25) ?_
    refine on 8 (some 26) (fun K hK => ?_)
    refine value_ (w1 := ?_) (v := ?_) (by rfl) rfl ?_ ?_
    rotate_left 2
    ·go_simp
     constructor
     ·rfl
     rfl
    refine hK.out _ _ ⟨(blk_cell (blk_alloc BK398.out _) 0).trans rfl, (blk_cell (blk_alloc BK398.out _) 1).trans rfl, (blk_cell (blk_alloc BK387.out _) 0).trans rfl, (blk_cell (blk_alloc BK387.out _) 1).trans rfl, (World.cell?_alloc_lt _ _ _ (World.block_lt_of_cell? _ _ (((HB.out.cell (World.block_lt_of_cell? w _ hw399_0)).trans hw399_0)))).trans (((HB.out.cell (World.block_lt_of_cell? w _ hw399_0)).trans hw399_0)), (World.cell?_alloc_lt _ _ _ (World.block_lt_of_cell? _ _ (((HB.out.cell (World.block_lt_of_cell? w _ hw399_1)).trans hw399_1)))).trans (((HB.out.cell (World.block_lt_of_cell? w _ hw399_1)).trans hw399_1)), (World.cell?_alloc_lt _ _ _ (World.block_lt_of_cell? _ _ (((HB.out.cell (World.block_lt_of_cell? w _ hw399_2)).trans hw399_2)))).trans (((HB.out.cell (World.block_lt_of_cell? w _ hw399_2)).trans hw399_2))⟩ (fun hHeld => ?_)
    clear hK K
    refine nd (some 26) ?_
    refine on 9 (some 27) (fun K hK => ?_)
    refine Kd.S_append_step k63 (w0 := w) w.heap.size (by rfl) (.tmp 19) (.tmp 26) 29 63 (.agg #[(.int .i64 0), (.string ⟨#[]⟩), (.slice none 0 0)]) 48 rfl Tryd.underlying29 info63 rfl (by decide) (by omega) u399001 x399001_1 (⟨t400, t401, t402⟩ : S63) [.int .i64 t400, .string t401, .slice Ao28 t402.length co28] (fun _ => True) (fun k_ => some k_ = (.slice Ao28 t402.length co28 : Value).ownBlock) rfl rfl ?aP (fun k_ hk_ => ((Kd.R_mono (ok' := fun k_ => ((fun _ => True)) k_ ∧ some k_ ≠ (u399001 : Value).ownBlock) (Kd.R_apart' (HO404.out) (Kd.S_typed HO_399001.out) (by decide)) (fun k_ hk => ⟨trivial, hk.2⟩))).1 k_ hk_.symm) ?aF ?aO ?aB ?aS ?aL ?_
    (case aP => exact k63_mkM _ _ _ (⟨t400, t401, t402⟩ : S63) (Kd.R_mono (Kd.R_tight rfl (Kd.R_mono (ok' := fun k_ => ((fun _ => True)) k_ ∧ some k_ ≠ (u399001 : Value).ownBlock) (Kd.R_apart' (HO404.out) (Kd.S_typed HO_399001.out) (by decide)) (fun k_ hk => ⟨trivial, hk.2⟩))) (fun _ h_ => h_)))
    (case aB => exact ZZ295621)
    (case aF => exact (fun _ _ => trivial))
    (case aO => exact (by refine bS ?_; exact Kd.S_mono HO_399001.out (fun k_ hk => ⟨trivial, fun e_ => hk.2 e_⟩)))
    (case aS => exact (below_size ZZ295621))
    (case aL => have := LMc21.out; omega)
    intro v406 w27 ho hb hg hat
    rw [← Ny405.out] at ho
    replace HO_399000 := Aside0.mk (Kd.R_over' (zR HO_399000) (Kd.S_typed (zS HO_399001)) (by decide) hg)
    replace BK387 := Aside0.mk (blk_grown (zB BK387) hg (Kd.S_ne HO_399001.out BK387.out (by decide)))
    replace BK388 := Aside0.mk (blk_grown (zB BK388) hg (Kd.S_ne HO_399001.out BK388.out (by decide)))
    replace BK398 := Aside0.mk (blk_grown (zB BK398) hg (Kd.S_ne HO_399001.out BK398.out (by decide)))
    replace HB := Aside0.mk (hb)
    have HO407 := Aside0.mk (ho)
    clear HO_399001
    clear HO404
    clear ho hb hg hat
    obtain ⟨Ao29, co29, eo29⟩ := Kd.S_slice HO407.out
    (first | subst eo29 | (injection eo29 with f1_ f2_ f3_; have f4_ := f1_.symm; have f5_ := f3_.symm; clear f1_ f2_ f3_; subst f4_; subst f5_))
    refine hK.out _ _ zK (fun hHeld => ?_)
    clear hK K
    refine nd (some 27) ?_
    refine pu 10 28 ?_
    refine last_ (i := 11) (N := none) #[true, true, true, true, true, true, true, true, true, true, true, true] rfl rfl (one_of HT_.out (by kernel_rfl)) (by decide) (fun K hK => ?_)
    have hs30 := cz BK398 1
    have hfs30 := blk_frozen BK398.out 1
    have hns30_0 := NB387_398.out
    have hns30_1 := NB388_398.out
    have hms30_0 := NB398_387.out
    have hms30_1 := NB398_388.out
    refine skip_ (w1 := ?_) (by rfl) rfl ?_ ?_
    rotate_left
    ·go_simp
     rfl
    refine hK.out _ _ ?_
    clear hK K
    refine done_ (done_of HT_.out (by kernel_rfl)) ?_
    try go_wp2
    go_roundg k1
    case measure => have := HK1.out; omega
    case rel => exact ⟨(wrap64 (x4_1 + 1)), (y405), (.slice Ao29 y405.length co29), ZZ0ab324, H, kle, ⟨(by refine bR ?_; exact Kd.R_mono (Kd.R_far (p := ⟨gb398, 1, none⟩) (Kd.R_types HO_399000.out BK398.out (by decide)) (fun _ hk => hk.2) (.slice Ao29 y405.length co29)) (fun _ hk => trivial))⟩, ⟨(by refine bS ?_; exact Kd.S_mono (Kd.S_far (p := ⟨gb398, 1, none⟩) (Kd.S_types HO407.out BK398.out (by decide)) (fun _ hk => hk.2) (.slice Ao29 y405.length co29)) (fun _ hk => trivial))⟩, ⟨(by refine bd ?_; refine blk_far ?_ NB387_398.out _; refine bd ?_; exact BK387.out)⟩, ⟨(by refine bd ?_; refine blk_far ?_ NB388_398.out _; refine bd ?_; exact BK388.out)⟩, ⟨(by refine bd ?_; refine blk_put (cs := #[.slice Ao13 y392.length co13, u399001]) ?_ 1 _ rfl; refine bd ?_; exact BK398.out)⟩, ⟨ZZ295621⟩⟩
   rw [if_neg c18] at H
   have c18b0 := decide_eq_false c18
   clear c18
   simp only [Option.some.injEq, Prod.mk.injEq] at H
   obtain ⟨rfl, rfl⟩ := H
   have hnb31 := NB387_388.out
   have hnc31 := NB388_387.out
   have hnb32 := NB387_398.out
   have hnc32 := NB398_387.out
   obtain ⟨hcz33_0, hcz33_1, hfz33_0, hfz33_1⟩ := z2 BK387
   have hnb34 := NB398_388.out
   have hnc34 := NB388_398.out
   obtain ⟨hcz35_0, hcz35_1, hfz35_0, hfz35_1⟩ := z2 BK398
   obtain ⟨hcz36_0, hcz36_1, hfz36_0, hfz36_1⟩ := z2 BK388
   obtain ⟨Ao37, co37, eo37⟩ := Kd.S_slice HO_399001.out
   subst eo37
   go_wp2
   refine bodyPost_ret (results_cell_row rfl _ _ gb388 31 #[.slice Ao13 y392.length co13, .slice Ao37 x399001_1.length co37] (0, 0) _ rfl (by refine bd ?_; refine blk_put (cs := #[.slice Ao13 y392.length co13, .slice none 0 0]) ?_ 1 _ rfl; refine bd ?_; refine blk_put (cs := #[.slice none 0 0, .slice none 0 0]) ?_ 0 _ rfl; refine bd ?_; exact BK388.out) Tryd.underlying31 rfl (by kernel_rfl)) rfl ?_
   exact ⟨_, _, ZZab01d2, (by refine bR ?_; exact Kd.R_mono (Kd.R_far (p := ⟨gb388, 1, none⟩) (Kd.R_far (p := ⟨gb388, 0, none⟩) (Kd.R_types HO_399000.out BK388.out (by decide)) (fun _ hk => hk.2) (.slice Ao13 y392.length co13)) (fun _ hk => hk.2) (.slice Ao37 x399001_1.length co37)) (fun _ hk => trivial)), (by refine bS ?_; exact Kd.S_mono (Kd.S_far (p := ⟨gb388, 1, none⟩) (Kd.S_far (p := ⟨gb388, 0, none⟩) (Kd.S_types HO_399001.out BK388.out (by decide)) (fun _ hk => hk.2) (.slice Ao13 y392.length co13)) (fun _ hk => hk.2) (.slice Ao37 x399001_1.length co37)) (fun _ hk => trivial)), ZZ295621⟩
end Go.Proofs.YtccdjchaaeligaaDoor.XFnExactCloseAccounts

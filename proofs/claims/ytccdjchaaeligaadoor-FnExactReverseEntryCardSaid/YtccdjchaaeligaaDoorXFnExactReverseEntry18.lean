import Derived.Test.YtccdjchaaeligaaDoorXFnExactReverseEntry7
import Derived.Test.YtccdjchaaeligaaDoorXFnExactReverseEntry11
import Derived.Test.YtccdjchaaeligaaDoorXFnExactReverseEntry10
import Derived.Test.YtccdjchaaeligaaDoorXFnExactReverseEntry1
import Derived.Test.YtccdjchaaeligaaDoorXFnExactReverseEntry0
import Derived.Test.YtccdjchaaeligaaDoorXFnExactReverseEntry16
import Derived.Test.YtccdjchaaeligaaDoorXFnExactReverseEntry17
namespace Go.Proofs.YtccdjchaaeligaaDoor.XFnExactReverseEntry
open Go.Proofs.YtccdjchaaeligaaDoor.Short Go.RowKit Go.Proofs.YtccdjchaaeligaaDoorW.PrintWords Go.Proofs.YtccdjchaaeligaaDoorW.PrintLast Go.Proofs.YtccdjchaaeligaaDoorW.PrintMore
attribute [local go_sem] max2_int min2_int max_two min_two max_three min_three max_four min_four
set_option linter.unusedVariables false
set_option linter.unusedSimpArgs false
theorem ZZ7da483 {p : Prop} (h : p := by subst hw_; refine bd ?_; refine blk_far ?_ NB392_401.out _; refine bd ?_; refine blk_far ?_ NB392_401.out _; refine bd ?_; exact BK392.out) : p := h
theorem ZZ3d0242 {p : Prop} (h : p := by subst hw_; refine bd ?_; refine blk_far ?_ NB393_401.out _; refine bd ?_; refine blk_far ?_ NB393_401.out _; refine bd ?_; exact BK393.out) : p := h
theorem ZZ0a77c4 {p : Prop} (h : p := by subst hw_; refine bd ?_; refine blk_far ?_ NB394_401.out _; refine bd ?_; refine blk_far ?_ NB394_401.out _; refine bd ?_; exact BK394.out) : p := h
def spec_l26Post.f (k : Nat) (l0_0 : List (S48)) (l0_1 : List (S63)) (a1_0 : Int) (a1_1 : ByteArray) (l1_2 : List (S70)) : Option ((List (S48)) × (List (S63)) × Bool) := (spec_l26Own.f k l0_0 l0_1).bind fun bt395 => ((spec_l26OwnEntry.f a1_0 a1_1 l1_2).bind fun bt402 => (if bt395.2.length < 2932031007402 then ((some (bt395.2 ++ [(⟨bt402.1, bt402.2.1, bt402.2.2⟩ : S63)] : List (S63))).bind fun y407 => ((spec_l26Good.f k l0_0 l0_1).bind fun t410 => (if t410 = true then ((spec_l26Good.f k bt395.1 y407).bind fun t411 => (if t411 = true then (some (bt395.1, y407, true)) else (some (([] : List (S48)), ([] : List (S63)), false)))) else (some (([] : List (S48)), ([] : List (S63)), false))))) else (none)))
theorem spec_l26Post.mono : ∀ a0 a1 a2 a3 a4 k, LeO (spec_l26Post.f k a0 a1 a2 a3 a4) (spec_l26Post.f (k + 1) a0 a1 a2 a3 a4) := by
 intro a0 a1 a2 a3 a4 k
 unfold spec_l26Post.f
 repeat' with_reducible first | apply spec_l26Good.mono | apply spec_l26Own.mono | exact LeO.refl _ | exact LeO.none _ | refine LeO.ite ?_ ?_ | refine LeO.bind ?_ (fun _ => ?_)
def spec_l26Post.T2 : Bool × List (List Nat × List Nat) := (true, [([], []), ([0], [0]), ([], []), ([2], [2]), ([3], [3]), ([1, 4, 3], [1, 4]), ([0, 1, 2, 3, 4, 5], []), ([6, 5, 5, 0, 1, 2, 3, 4, 5], [5, 6])])
def spec_l26Post.B2 : List Nat := [0, 1, 0, 4, 12, 31, 63, 127]
theorem spec_l26Post.tab2 : rtab .any (opsOf Tryd.f78 2) = spec_l26Post.T2 := by kernel_rfl
theorem spec_l26Post.bits2 : waitsOk spec_l26Post.T2.2 spec_l26Post.B2 = true := by kernel_rfl
set_option maxHeartbeats 8000000 in
set_option maxRecDepth 100000 in
theorem spec_l26Post.calls (k : Nat) (A0_0 : Option Addr) (c0_0 : Nat) (l0_0 : List (S48)) (A0_1 : Option Addr) (c0_1 : Nat) (l0_1 : List (S63)) (a1_0 : Int) (a1_1 : ByteArray) (A1_2 : Option Addr) (c1_2 : Nat) (l1_2 : List (S70)) (r1 : List (S48)) (r2 : List (S63)) (r3 : Bool) (w : World) (hr0_0 : Kd.C k48 w A0_0 l0_0.length l0_0) (hc0_0 : l0_0.length ≤ c0_0) (hr0_1 : Kd.C k63 w A0_1 l0_1.length l0_1) (hc0_1 : l0_1.length ≤ c0_1) (hr1_2 : Kd.C k70 w A1_2 l1_2.length l1_2) (hc1_2 : l1_2.length ≤ c1_2) (h : spec_l26Post.f k l0_0 l0_1 a1_0 a1_1 l1_2 = some (r1, r2, r3)) :
 Calls Tryd.prog 78 #[.agg #[.slice A0_0 l0_0.length c0_0, .slice A0_1 l0_1.length c0_1], .agg #[.int .i64 a1_0, .string a1_1, .slice A1_2 l1_2.length c1_2]] w fun e w' => ∃ v0_ v1_ : Value, e = .returned (.tuple #[.agg #[v0_, v1_], .bool r3]) ∧ Kd.R k48 48 w' w.heap.size (fun _ => True) v0_ r1 ∧ Kd.S k63 63 w' w.heap.size (fun _ => True) v1_ r2 ∧ Below w.heap.size w w' := by
 have hu31 := Tryd.underlying31
 have hu63 := Tryd.underlying63
 have HR0_0 := Aside0.mk hr0_0
 have HC0_0 := Aside0.mk hc0_0
 clear hr0_0 hc0_0
 have HR0_1 := Aside0.mk hr0_1
 have HC0_1 := Aside0.mk hc0_1
 clear hr0_1 hc0_1
 have HR1_2 := Aside0.mk hr1_2
 have HC1_2 := Aside0.mk hc1_2
 clear hr1_2 hc1_2
 have HB := Aside0.mk (Below.refl w.heap.size w)
 have H := h
 clear h
 unfold spec_l26Post.f at H
 obtain ⟨⟨t395, t398⟩, A3, H⟩ := bdY H
 try dsimp only at H
 obtain ⟨⟨t402, t403, t404⟩, A4, H⟩ := bdY H
 try dsimp only at H
 obtain ⟨c5, H⟩ := ifY H
 have LMc5 := Aside0.mk c5
 clear c5
 try rw [Option.bind_some] at H
 generalize hy407 : (t398 ++ [(⟨t402, t403, t404⟩ : S63)] : List (S63)) = y407 at H
 have Ny407 := Aside0.mk hy407.symm
 clear hy407
 obtain ⟨t410, A6, H⟩ := bdY H
 go_enter Tryd.func78, Tryd.ntmps78
 try go_wp2_with (first | ((with_reducible refine gate_dst (N := 2) rfl ?_); refine bx 2 (cs := #[.slice A0_0 l0_0.length c0_0, .slice A0_1 l0_1.length c0_1]) (t := 31) ?_; intro gb392 hg w10 hbox hb; have BK392 := Aside0.mk (hbox); have GW392 := gw hg; have GE392 := gw hg; replace HB := hB hb; clear hb hbox hg) | ((with_reducible refine gate_dst (N := 3) rfl ?_); refine bx 3 (cs := #[.int .i64 a1_0, .string a1_1, .slice A1_2 l1_2.length c1_2]) (t := 63) ?_; intro gb393 hg w11 hbox hb; have BK393 := Aside0.mk (hbox); have GW393 := gw hg; have GE393 := gw hg; replace HB := hB hb; have NB392_393 := nl hg BK392; have NB393_392 := ng hg BK392; replace BK392 := kb BK392 hb; clear hb hbox hg) | ((with_reducible refine gate_dst (N := 4) rfl ?_); refine bx 4 (cs := #[.slice none 0 0, .slice none 0 0]) (t := 31) ?_; intro gb394 hg w12 hbox hb; have BK394 := Aside0.mk (hbox); have GW394 := gw hg; have GE394 := gw hg; replace HB := hB hb; have NB392_394 := nl hg BK392; have NB394_392 := ng hg BK392; replace BK392 := kb BK392 hb; have NB393_394 := nl hg BK393; have NB394_393 := ng hg BK393; replace BK393 := kb BK393 hb; clear hb hbox hg; have hnb13 := NB392_393.out; have hnc13 := NB393_392.out; have hnb14 := NB392_394.out; have hnc14 := NB394_392.out; obtain ⟨hcz15_0, hcz15_1, hfz15_0, hfz15_1⟩ := z2 BK392) | (refine gc 8 Tryd.func77 #[.agg #[.slice A0_0 l0_0.length c0_0, .slice A0_1 l0_1.length c0_1]] ?_; (with_reducible refine (spec_l26Own.calls k _ _ l0_0 _ _ l0_1 t395 t398 _ ?side1 ?side2 ?side3 ?side4 A3.out).mono ?_); (case side1 => exact (rC (Kd.C_below HR0_0.out HB.out))); (case side2 => exact HC0_0.out); (case side3 => exact (rC (Kd.C_below HR0_1.out HB.out))); (case side4 => exact HC0_1.out); rintro e w16 ⟨v396, v399, rfl, ho0, ho1, hb⟩; refine ⟨_, rfl, ?_⟩; have HO397 := Aside0.mk (Kd.R_lower ho0 (below_size ZZ295621)); have HO400 := Aside0.mk (Kd.S_lower (Kd.S_newB ho1 (zB BK393)) (below_size ZZ295621)); replace BK392 := kb BK392 hb; replace BK393 := kb BK393 hb; replace BK394 := kb BK394 hb; replace HB := hB hb; (try clear hb); (try clear hb2); (try clear hk); (try clear hi); (try clear ho0); (try clear ho1)) | ((with_reducible refine gate_dst (N := 6) rfl ?_); refine bx 6 (cs := #[.slice none 0 0, .slice none 0 0]) (t := 31) ?_; intro gb401 hg w17 hbox hb; replace HO397 := Aside0.mk (Kd.R_below (zR HO397) hb); replace HO400 := Aside0.mk (Kd.S_below (zS HO400) hb); have BK401 := Aside0.mk (hbox); have GW401 := gw hg; have GE401 := gw hg; replace HB := hB hb; have NB392_401 := nl hg BK392; have NB401_392 := ng hg BK392; replace BK392 := kb BK392 hb; have NB393_401 := nl hg BK393; have NB401_393 := ng hg BK393; replace BK393 := kb BK393 hb; have NB394_401 := nl hg BK394; have NB401_394 := ng hg BK394; replace BK394 := kb BK394 hb; clear hb hbox hg; obtain ⟨Ao18, co18, eo18⟩ := Kd.R_slice HO397.out; subst eo18; have hnb19 := NB401_392.out; have hnc19 := NB392_401.out; have hnb20 := NB401_393.out; have hnc20 := NB393_401.out; have hnb21 := NB401_394.out; have hnc21 := NB394_401.out; obtain ⟨hcz22_0, hcz22_1, hfz22_0, hfz22_1⟩ := z2 BK401; obtain ⟨Ao23, co23, eo23⟩ := Kd.S_slice HO400.out; subst eo23))
 generalize hw_ : ((w17.setCell ⟨gb401, 0, none⟩ (.slice Ao18 t395.length co18)).setCell ⟨gb401, 1, none⟩ (.slice Ao23 t398.length co23)) = w24
 replace HO397 : Aside0 (Kd.R k48 48 w24 w.heap.size (fun _ => True) (.slice Ao18 t395.length co18) t395) := ⟨(by subst hw_; refine bR ?_; exact Kd.R_mono (Kd.R_far (p := ⟨gb401, 1, none⟩) (Kd.R_far (p := ⟨gb401, 0, none⟩) (Kd.R_types HO397.out BK401.out (by decide)) (fun _ hk => hk.2) (.slice Ao18 t395.length co18)) (fun _ hk => hk.2) (.slice Ao23 t398.length co23)) (fun _ hk => trivial))⟩
 replace HO400 : Aside0 (Kd.S k63 63 w24 w.heap.size (fun k_ => k_ ≠ gb393) (.slice Ao23 t398.length co23) t398) := ⟨(by subst hw_; refine bS ?_; exact Kd.S_mono (Kd.S_far (p := ⟨gb401, 1, none⟩) (Kd.S_far (p := ⟨gb401, 0, none⟩) (Kd.S_types HO400.out BK401.out (by decide)) (fun _ hk => hk.2) (.slice Ao18 t395.length co18)) (fun _ hk => hk.2) (.slice Ao23 t398.length co23)) (fun _ hk => hk.1.2))⟩
 replace BK392 : Aside0 (w24.heap[gb392]? = some (.cells #[.slice A0_0 l0_0.length c0_0, .slice A0_1 l0_1.length c0_1] 31 (0, 0))) := ⟨ZZ7da483⟩
 replace BK393 : Aside0 (w24.heap[gb393]? = some (.cells #[.int .i64 a1_0, .string a1_1, .slice A1_2 l1_2.length c1_2] 63 (0, 0))) := ⟨ZZ3d0242⟩
 replace BK394 : Aside0 (w24.heap[gb394]? = some (.cells #[.slice none 0 0, .slice none 0 0] 31 (0, 0))) := ⟨ZZ0a77c4⟩
 replace BK401 : Aside0 (w24.heap[gb401]? = some (.cells #[.slice Ao18 t395.length co18, .slice Ao23 t398.length co23] 31 (0, 0))) := ⟨(by subst hw_; refine bd ?_; refine blk_put (cs := #[.slice Ao18 t395.length co18, .slice none 0 0]) ?_ 1 _ rfl; refine bd ?_; refine blk_put (cs := #[.slice none 0 0, .slice none 0 0]) ?_ 0 _ rfl; refine bd ?_; exact BK401.out)⟩
 replace HB : Aside0 (Below w.heap.size w w24) := ⟨ZZ0d0602⟩
 clear hw_
 replace HO397 := Aside0.mk (Kd.R_drew HO397.out)
 replace HO400 := Aside0.mk (Kd.S_drew HO400.out)
 replace BK392 := Aside0.mk (blk_drew BK392.out)
 replace BK393 := Aside0.mk (blk_drew BK393.out)
 replace BK394 := Aside0.mk (blk_drew BK394.out)
 replace BK401 := Aside0.mk (blk_drew BK401.out)
 replace HB := Aside0.mk (below_drew1 HB.out)
 refine start_ (n := 8) (S := fun w' => w'.cell? ⟨gb401, 0, none⟩ = some (.slice Ao18 t395.length co18) ∧ w'.cell? ⟨gb401, 1, none⟩ = some (.slice Ao23 t398.length co23) ∧ w'.cell? ⟨gb393, 0, none⟩ = some (.int .i64 a1_0) ∧ w'.cell? ⟨gb393, 1, none⟩ = some (.string a1_1) ∧ w'.cell? ⟨gb393, 2, none⟩ = some (.slice A1_2 l1_2.length c1_2)) (ds := [7]) #[false, false, false, false, false, false, false, false] (by kernel_rfl) rfl rfl ⟨(blk_cell BK401.out 0).trans rfl, (blk_cell BK401.out 1).trans rfl, (blk_cell BK393.out 0).trans rfl, (blk_cell BK393.out 1).trans rfl, (blk_cell BK393.out 2).trans rfl⟩ (fun hHeld => ?_); refine with_tabW spec_l26Post.tab2 spec_l26Post.bits2 (fun HT_ HW_ => ?_)
 generalize w24.drew = w25 at HO397 HO400 BK392 BK393 BK394 BK401 HB hHeld ⊢
 refine pu 0 9 ?_
 refine tk 1 10 ?_
 refine tk 2 11 ?_
 refine on 3 (some 12) (fun K hK => ?_)
 refine goes_ Tryd.func111 (by kernel_rfl) rfl #[.agg #[.int .i64 a1_0, .string a1_1, .slice A1_2 l1_2.length c1_2]] (by rfl) rfl rfl ZZ19826e ?_
 with_reducible refine (spec_l26OwnEntry.calls a1_0 a1_1 _ _ l1_2 t402 t403 t404 _ ?side1 ?side2 A4.out).mono ?_
 (case side1 => exact (rC (Kd.C_below HR1_2.out HB.out)))
 (case side2 => exact HC1_2.out)
 rintro e w26 ⟨v405, rfl, ho0, hb⟩
 refine ⟨_, rfl, ?_⟩
 replace HO397 := Aside0.mk (Kd.R_below (zR HO397) hb)
 replace HO400 := Aside0.mk (Kd.S_elder' (zS HO400) (Kd.R_base ho0) hb)
 have HO406 := Aside0.mk (Kd.R_lower ho0 (below_size ZZ295621))
 replace BK392 := kb BK392 hb
 replace BK393 := kb BK393 hb
 replace BK394 := kb BK394 hb
 replace BK401 := kb BK401 hb
 replace HB := hB hb
 (try clear hb)
 (try clear hb2)
 (try clear hk)
 (try clear hi)
 (try clear ho0)
 obtain ⟨Ao28, co28, eo28⟩ := Kd.R_slice HO406.out
 (first | subst eo28 | (injection eo28 with f1_ f2_ f3_; have f4_ := f1_.symm; have f5_ := f3_.symm; clear f1_ f2_ f3_; subst f4_; subst f5_))
 refine hK.out _ _ zK (fun hHeld => ?_)
 clear hK K
 refine nd (some 12) ?_
 refine on 4 (some 13) (fun K hK => ?_)
 refine value_ (w1 := ?_) (v := ?_) (by rfl) rfl ?_ ?_
 rotate_left 2
 ·go_simp
  constructor
  ·rfl
  rfl
 refine hK.out _ _ ⟨(blk_cell (blk_alloc BK401.out _) 0).trans rfl, (blk_cell (blk_alloc BK401.out _) 1).trans rfl, (blk_cell (blk_alloc BK393.out _) 0).trans rfl, (blk_cell (blk_alloc BK393.out _) 1).trans rfl, (blk_cell (blk_alloc BK393.out _) 2).trans rfl⟩ (fun hHeld => ?_)
 clear hK K
 refine nd (some 13) ?_
 refine on 5 (some 14) (fun K hK => ?_)
 refine Kd.S_append_step k63 (w0 := w) w.heap.size (by rfl) (.tmp 10) (.tmp 13) 29 63 (.agg #[(.int .i64 0), (.string ⟨#[]⟩), (.slice none 0 0)]) 48 rfl Tryd.underlying29 info63 rfl (by decide) (by omega) (.slice Ao23 t398.length co23) t398 (⟨t402, t403, t404⟩ : S63) [.int .i64 t402, .string t403, .slice Ao28 t404.length co28] (fun k_ => k_ ≠ gb393) (fun k_ => some k_ = (.slice Ao28 t404.length co28 : Value).ownBlock) rfl rfl ?aP (fun k_ hk_ => ((Kd.R_mono (ok' := fun k_ => ((fun k_ => k_ ≠ gb393)) k_ ∧ some k_ ≠ (.slice Ao23 t398.length co23 : Value).ownBlock) (Kd.R_types (Kd.R_apart' (HO406.out) (Kd.S_typed HO400.out) (by decide)) BK393.out (by decide)) (fun k_ hk => ⟨hk.2, hk.1.2⟩))).1 k_ hk_.symm) ?aF ?aO ?aB ?aS ?aL ?_
 (case aP => exact k63_mkM _ _ _ (⟨t402, t403, t404⟩ : S63) (Kd.R_mono (Kd.R_tight rfl (Kd.R_mono (ok' := fun k_ => ((fun k_ => k_ ≠ gb393)) k_ ∧ some k_ ≠ (.slice Ao23 t398.length co23 : Value).ownBlock) (Kd.R_types (Kd.R_apart' (HO406.out) (Kd.S_typed HO400.out) (by decide)) BK393.out (by decide)) (fun k_ hk => ⟨hk.2, hk.1.2⟩))) (fun _ h_ => h_)))
 (case aB => exact ZZ295621)
 (case aF => exact (fun k_ hk => Kd.freshB (zB BK393) k_ hk))
 (case aO => exact (by refine bS ?_; exact Kd.S_mono HO400.out (fun k_ hk => ⟨hk.1, fun e_ => hk.2 e_⟩)))
 (case aS => exact (below_size ZZ295621))
 (case aL => have := LMc5.out; omega)
 intro v408 w27 ho hb hg hat
 rw [← Ny407.out] at ho
 replace BK392 := Aside0.mk (blk_grown (zB BK392) hg (Kd.S_ne HO400.out BK392.out (by decide)))
 replace BK393 := Aside0.mk (blk_grown (zB BK393) hg (Kd.S_away HO400.out (fun _ hk => hk.1)))
 replace BK394 := Aside0.mk (blk_grown (zB BK394) hg (Kd.S_ne HO400.out BK394.out (by decide)))
 replace HO397 := Aside0.mk (Kd.R_over' (zR HO397) (Kd.S_typed (zS HO400)) (by decide) hg)
 replace BK401 := Aside0.mk (blk_grown (zB BK401) hg (Kd.S_ne HO400.out BK401.out (by decide)))
 replace HB := Aside0.mk (hb)
 have HO409 := Aside0.mk (ho)
 clear HO400
 clear HO406
 clear ho hb hg hat
 obtain ⟨Ao29, co29, eo29⟩ := Kd.S_slice HO409.out
 (first | subst eo29 | (injection eo29 with f1_ f2_ f3_; have f4_ := f1_.symm; have f5_ := f3_.symm; clear f1_ f2_ f3_; subst f4_; subst f5_))
 refine hK.out _ _ zK (fun hHeld => ?_)
 clear hK K
 refine nd (some 14) ?_
 refine pu 6 15 ?_
 refine last_ (i := 7) (N := none) #[true, true, true, true, true, true, true, true] rfl rfl (one_of HT_.out (by kernel_rfl)) (by decide) (fun K hK => ?_)
 have hs30 := cz BK401 1
 have hfs30 := blk_frozen BK401.out 1
 have hns30_0 := NB392_401.out
 have hns30_1 := NB393_401.out
 have hns30_2 := NB394_401.out
 have hms30_0 := NB401_392.out
 have hms30_1 := NB401_393.out
 have hms30_2 := NB401_394.out
 refine skip_ (w1 := ?_) (by rfl) rfl ?_ ?_
 rotate_left
 ·go_simp
  rfl
 refine hK.out _ _ ?_
 clear hK K
 refine done_ (done_of HT_.out (by kernel_rfl)) ?_
 obtain ⟨hcz31_0, hcz31_1, hfz31_0, hfz31_1⟩ := z2 BK392
 by_cases c7 : t410 = true
 ·subst c7
  replace H := ifT H
  obtain ⟨t411, A8, H⟩ := bdY H
  by_cases c9 : t411 = true
  ·subst c9
   replace H := ifT H
   simp only [Option.some.injEq, Prod.mk.injEq] at H
   obtain ⟨rfl, rfl, rfl⟩ := H
   try go_wp2_with (first | (refine gc 17 Tryd.func52 #[.agg #[.slice A0_0 l0_0.length c0_0, .slice A0_1 l0_1.length c0_1]] ?_; (with_reducible refine (spec_l26Good.calls k _ _ l0_0 _ _ l0_1 true _ ?side1 ?side2 ?side3 ?side4 A6.out).mono ?_); (case side1 => exact Kd.C_below HR0_0.out ZZ295621); (case side2 => exact HC0_0.out); (case side3 => exact Kd.C_below HR0_1.out ZZ295621); (case side4 => exact HC0_1.out); rintro e w32 ⟨rfl, hb⟩; refine ⟨_, rfl, ?_⟩; replace HO397 := Aside0.mk (Kd.R_below (by refine bR ?_; exact (Kd.R_mono (Kd.R_far (p := ⟨gb401, 1, none⟩) (Kd.R_types HO397.out BK401.out (by decide)) (fun _ hk => hk.2) (.slice Ao29 y407.length co29)) (fun _ h_ => h_.1))) hb); replace HO409 := Aside0.mk (Kd.S_below (by refine bS ?_; exact (Kd.S_mono (Kd.S_far (p := ⟨gb401, 1, none⟩) (Kd.S_types HO409.out BK401.out (by decide)) (fun _ hk => hk.2) (.slice Ao29 y407.length co29)) (fun _ h_ => h_.1))) hb); replace BK392 := Aside0.mk (blk_below (g := gb392) (o := .cells #[.slice A0_0 l0_0.length c0_0, .slice A0_1 l0_1.length c0_1] 31 (0, 0)) (by refine bd ?_; refine blk_far ?_ NB392_401.out _; refine bd ?_; exact BK392.out) hb); replace BK393 := Aside0.mk (blk_below (g := gb393) (o := .cells #[.int .i64 a1_0, .string a1_1, .slice A1_2 l1_2.length c1_2] 63 (0, 0)) (by refine bd ?_; refine blk_far ?_ NB393_401.out _; refine bd ?_; exact BK393.out) hb); replace BK394 := Aside0.mk (blk_below (g := gb394) (o := .cells #[.slice none 0 0, .slice none 0 0] 31 (0, 0)) (by refine bd ?_; refine blk_far ?_ NB394_401.out _; refine bd ?_; exact BK394.out) hb); replace BK401 := Aside0.mk (blk_below (g := gb401) (o := .cells #[.slice Ao18 t395.length co18, .slice Ao29 y407.length co29] 31 (0, 0)) (by refine bd ?_; refine blk_put (cs := #[.slice Ao18 t395.length co18, .slice Ao23 t398.length co23]) ?_ 1 _ rfl; refine bd ?_; exact BK401.out) hb); replace HB := hB hb; (try clear hb); (try clear hb2); (try clear hk); (try clear hi); obtain ⟨hcz33_0, hcz33_1, hfz33_0, hfz33_1⟩ := z2 BK401) | (go_at_call 52; (with_reducible refine (spec_l26Good.calls k _ _ t395 _ _ y407 true _ ?side1 ?side2 ?side3 ?side4 A8.out).mono ?_); (case side1 => exact rC (Kd.R_reads' HO397.out).2.2); (case side2 => exact (Kd.R_reads' HO397.out).2.1); (case side3 => exact rC (Kd.S_reads' HO409.out).2.2); (case side4 => exact (Kd.S_reads' HO409.out).2.1); rintro e w34 ⟨rfl, hb⟩; replace HO397 := Aside0.mk (Kd.R_below (zR HO397) hb); replace HO409 := Aside0.mk (Kd.S_below (zS HO409) hb); replace BK392 := kb BK392 hb; replace BK393 := kb BK393 hb; replace BK394 := kb BK394 hb; replace BK401 := kb BK401 hb; replace HB := hB hb; (try clear hb); (try clear hb2); (try clear hk); (try clear hi); obtain ⟨hcz35_0, hcz35_1, hfz35_0, hfz35_1⟩ := z2 BK401; have hnb36 := NB394_393.out; have hnc36 := NB393_394.out; obtain ⟨hcz37_0, hcz37_1, hfz37_0, hfz37_1⟩ := z2 BK394))
   refine bodyPost_ret (results_ct rfl _ _ gb394 31 #[.slice Ao18 t395.length co18, .slice Ao29 y407.length co29] (0, 0) _ rfl (by refine bd ?_; refine blk_put (cs := #[.slice Ao18 t395.length co18, .slice none 0 0]) ?_ 1 _ rfl; refine bd ?_; refine blk_put (cs := #[.slice none 0 0, .slice none 0 0]) ?_ 0 _ rfl; refine bd ?_; exact BK394.out) Tryd.underlying31 rfl (by kernel_rfl)) rfl ?_
   exact ⟨_, _, ZZab01d2, (by refine bR ?_; exact Kd.R_mono (Kd.R_far (p := ⟨gb394, 1, none⟩) (Kd.R_far (p := ⟨gb394, 0, none⟩) (Kd.R_types HO397.out BK394.out (by decide)) (fun _ hk => hk.2) (.slice Ao18 t395.length co18)) (fun _ hk => hk.2) (.slice Ao29 y407.length co29)) (fun _ hk => trivial)), (by refine bS ?_; exact Kd.S_mono (Kd.S_far (p := ⟨gb394, 1, none⟩) (Kd.S_far (p := ⟨gb394, 0, none⟩) (Kd.S_types HO409.out BK394.out (by decide)) (fun _ hk => hk.2) (.slice Ao18 t395.length co18)) (fun _ hk => hk.2) (.slice Ao29 y407.length co29)) (fun _ hk => trivial)), ZZ295621⟩
  replace c9 := Bool.eq_false_iff.mpr c9
  subst c9
  replace H := ifF H
  simp only [Option.some.injEq, Prod.mk.injEq] at H
  obtain ⟨rfl, rfl, rfl⟩ := H
  try go_wp2_with (first | (refine gc 17 Tryd.func52 #[.agg #[.slice A0_0 l0_0.length c0_0, .slice A0_1 l0_1.length c0_1]] ?_; (with_reducible refine (spec_l26Good.calls k _ _ l0_0 _ _ l0_1 true _ ?side1 ?side2 ?side3 ?side4 A6.out).mono ?_); (case side1 => exact Kd.C_below HR0_0.out ZZ295621); (case side2 => exact HC0_0.out); (case side3 => exact Kd.C_below HR0_1.out ZZ295621); (case side4 => exact HC0_1.out); rintro e w60 ⟨rfl, hb⟩; refine ⟨_, rfl, ?_⟩; replace HO397 := Aside0.mk (Kd.R_below (by refine bR ?_; exact (Kd.R_mono (Kd.R_far (p := ⟨gb401, 1, none⟩) (Kd.R_types HO397.out BK401.out (by decide)) (fun _ hk => hk.2) (.slice Ao29 y407.length co29)) (fun _ h_ => h_.1))) hb); replace HO409 := Aside0.mk (Kd.S_below (by refine bS ?_; exact (Kd.S_mono (Kd.S_far (p := ⟨gb401, 1, none⟩) (Kd.S_types HO409.out BK401.out (by decide)) (fun _ hk => hk.2) (.slice Ao29 y407.length co29)) (fun _ h_ => h_.1))) hb); replace BK392 := Aside0.mk (blk_below (g := gb392) (o := .cells #[.slice A0_0 l0_0.length c0_0, .slice A0_1 l0_1.length c0_1] 31 (0, 0)) (by refine bd ?_; refine blk_far ?_ NB392_401.out _; refine bd ?_; exact BK392.out) hb); replace BK393 := Aside0.mk (blk_below (g := gb393) (o := .cells #[.int .i64 a1_0, .string a1_1, .slice A1_2 l1_2.length c1_2] 63 (0, 0)) (by refine bd ?_; refine blk_far ?_ NB393_401.out _; refine bd ?_; exact BK393.out) hb); replace BK394 := Aside0.mk (blk_below (g := gb394) (o := .cells #[.slice none 0 0, .slice none 0 0] 31 (0, 0)) (by refine bd ?_; refine blk_far ?_ NB394_401.out _; refine bd ?_; exact BK394.out) hb); replace BK401 := Aside0.mk (blk_below (g := gb401) (o := .cells #[.slice Ao18 t395.length co18, .slice Ao29 y407.length co29] 31 (0, 0)) (by refine bd ?_; refine blk_put (cs := #[.slice Ao18 t395.length co18, .slice Ao23 t398.length co23]) ?_ 1 _ rfl; refine bd ?_; exact BK401.out) hb); replace HB := hB hb; (try clear hb); (try clear hb2); (try clear hk); (try clear hi); obtain ⟨hcz61_0, hcz61_1, hfz61_0, hfz61_1⟩ := z2 BK401) | (go_at_call 52; (with_reducible refine (spec_l26Good.calls k _ _ t395 _ _ y407 false _ ?side1 ?side2 ?side3 ?side4 A8.out).mono ?_); (case side1 => exact rC (Kd.R_reads' HO397.out).2.2); (case side2 => exact (Kd.R_reads' HO397.out).2.1); (case side3 => exact rC (Kd.S_reads' HO409.out).2.2); (case side4 => exact (Kd.S_reads' HO409.out).2.1); rintro e w62 ⟨rfl, hb⟩; replace HO397 := Aside0.mk (Kd.R_below (zR HO397) hb); replace HO409 := Aside0.mk (Kd.S_below (zS HO409) hb); replace BK392 := kb BK392 hb; replace BK393 := kb BK393 hb; replace BK394 := kb BK394 hb; replace BK401 := kb BK401 hb; replace HB := hB hb; (try clear hb); (try clear hb2); (try clear hk); (try clear hi); have hnb63 := NB394_393.out; have hnc63 := NB393_394.out; obtain ⟨hcz64_0, hcz64_1, hfz64_0, hfz64_1⟩ := z2 BK394))
  refine bodyPost_ret (results_ct rfl _ _ gb394 31 #[.slice none 0 0, .slice none 0 0] (0, 0) _ rfl (by refine bd ?_; refine blk_put (cs := #[.slice none 0 0, .slice none 0 0]) ?_ 1 _ rfl; refine bd ?_; refine blk_put (cs := #[.slice none 0 0, .slice none 0 0]) ?_ 0 _ rfl; refine bd ?_; exact BK394.out) Tryd.underlying31 rfl (by kernel_rfl)) rfl ?_
  exact ⟨_, _, ZZab01d2, ZZf4214b, ZZc4c4be, ZZ295621⟩
 replace c7 := Bool.eq_false_iff.mpr c7
 subst c7
 replace H := ifF H
 simp only [Option.some.injEq, Prod.mk.injEq] at H
 obtain ⟨rfl, rfl, rfl⟩ := H
 try go_wp2_with (first | (refine gc 17 Tryd.func52 #[.agg #[.slice A0_0 l0_0.length c0_0, .slice A0_1 l0_1.length c0_1]] ?_; (with_reducible refine (spec_l26Good.calls k _ _ l0_0 _ _ l0_1 false _ ?side1 ?side2 ?side3 ?side4 A6.out).mono ?_); (case side1 => exact Kd.C_below HR0_0.out ZZ295621); (case side2 => exact HC0_0.out); (case side3 => exact Kd.C_below HR0_1.out ZZ295621); (case side4 => exact HC0_1.out); rintro e w87 ⟨rfl, hb⟩; refine ⟨_, rfl, ?_⟩; replace HO397 := Aside0.mk (Kd.R_below (by refine bR ?_; exact (Kd.R_mono (Kd.R_far (p := ⟨gb401, 1, none⟩) (Kd.R_types HO397.out BK401.out (by decide)) (fun _ hk => hk.2) (.slice Ao29 y407.length co29)) (fun _ h_ => h_.1))) hb); replace HO409 := Aside0.mk (Kd.S_below (by refine bS ?_; exact (Kd.S_mono (Kd.S_far (p := ⟨gb401, 1, none⟩) (Kd.S_types HO409.out BK401.out (by decide)) (fun _ hk => hk.2) (.slice Ao29 y407.length co29)) (fun _ h_ => h_.1))) hb); replace BK392 := Aside0.mk (blk_below (g := gb392) (o := .cells #[.slice A0_0 l0_0.length c0_0, .slice A0_1 l0_1.length c0_1] 31 (0, 0)) (by refine bd ?_; refine blk_far ?_ NB392_401.out _; refine bd ?_; exact BK392.out) hb); replace BK393 := Aside0.mk (blk_below (g := gb393) (o := .cells #[.int .i64 a1_0, .string a1_1, .slice A1_2 l1_2.length c1_2] 63 (0, 0)) (by refine bd ?_; refine blk_far ?_ NB393_401.out _; refine bd ?_; exact BK393.out) hb); replace BK394 := Aside0.mk (blk_below (g := gb394) (o := .cells #[.slice none 0 0, .slice none 0 0] 31 (0, 0)) (by refine bd ?_; refine blk_far ?_ NB394_401.out _; refine bd ?_; exact BK394.out) hb); replace BK401 := Aside0.mk (blk_below (g := gb401) (o := .cells #[.slice Ao18 t395.length co18, .slice Ao29 y407.length co29] 31 (0, 0)) (by refine bd ?_; refine blk_put (cs := #[.slice Ao18 t395.length co18, .slice Ao23 t398.length co23]) ?_ 1 _ rfl; refine bd ?_; exact BK401.out) hb); replace HB := hB hb; (try clear hb); (try clear hb2); (try clear hk); (try clear hi); have hnb88 := NB394_393.out; have hnc88 := NB393_394.out; obtain ⟨hcz89_0, hcz89_1, hfz89_0, hfz89_1⟩ := z2 BK394))
 refine bodyPost_ret (results_ct rfl _ _ gb394 31 #[.slice none 0 0, .slice none 0 0] (0, 0) _ rfl (by refine bd ?_; refine blk_put (cs := #[.slice none 0 0, .slice none 0 0]) ?_ 1 _ rfl; refine bd ?_; refine blk_put (cs := #[.slice none 0 0, .slice none 0 0]) ?_ 0 _ rfl; refine bd ?_; exact BK394.out) Tryd.underlying31 rfl (by kernel_rfl)) rfl ?_
 exact ⟨_, _, ZZab01d2, ZZf4214b, ZZc4c4be, ZZ295621⟩
end Go.Proofs.YtccdjchaaeligaaDoor.XFnExactReverseEntry

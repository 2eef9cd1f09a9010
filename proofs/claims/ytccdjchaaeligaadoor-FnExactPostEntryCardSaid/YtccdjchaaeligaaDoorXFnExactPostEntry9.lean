import Derived.Test.YtccdjchaaeligaaDoorXFnExactPostEntry6
import Derived.Test.YtccdjchaaeligaaDoorXFnExactPostEntry1
import Derived.Test.YtccdjchaaeligaaDoorXFnExactPostEntry0
import Derived.Test.YtccdjchaaeligaaDoorXFnExactPostEntry7
import Derived.Test.YtccdjchaaeligaaDoorXFnExactPostEntry8
namespace Go.Proofs.YtccdjchaaeligaaDoor.XFnExactPostEntry
open Go.Proofs.YtccdjchaaeligaaDoor.Short Go.RowKit Go.Proofs.YtccdjchaaeligaaDoorW.PrintWords Go.Proofs.YtccdjchaaeligaaDoorW.PrintLast Go.Proofs.YtccdjchaaeligaaDoorW.PrintMore
attribute [local go_sem] max2_int min2_int max_two min_two max_three min_three max_four min_four
set_option linter.unusedVariables false
set_option linter.unusedSimpArgs false
theorem ZZ599992 {p : Prop} (h : p := by subst hw_; refine bd ?_; refine blk_far ?_ NB256_265.out _; refine bd ?_; refine blk_far ?_ NB256_265.out _; refine bd ?_; exact BK256.out) : p := h
theorem ZZ925219 {p : Prop} (h : p := by subst hw_; refine bd ?_; refine blk_far ?_ NB257_265.out _; refine bd ?_; refine blk_far ?_ NB257_265.out _; refine bd ?_; exact BK257.out) : p := h
theorem ZZ56924a {p : Prop} (h : p := by subst hw_; refine bd ?_; refine blk_far ?_ NB258_265.out _; refine bd ?_; refine blk_far ?_ NB258_265.out _; refine bd ?_; exact BK258.out) : p := h
theorem ZZf4214b {p : Prop} (h : p := by first | exact Kd.R_nil _ _ _ _ _ | exact Kd.N_nil _ _ _ _ _ | exact Kd.V_nil _ _ _ _ _ | exact Kd.Q_nil _ _ _ _ _ | exact Kd.S_nil _ _ _ _ _) : p := h
theorem ZZc4c4be {p : Prop} (h : p := by first | exact Kd.S_nil _ _ _ _ _ | exact Kd.N_nil _ _ _ _ _ | exact Kd.V_nil _ _ _ _ _ | exact Kd.Q_nil _ _ _ _ _ | exact Kd.R_nil _ _ _ _ _) : p := h
def spec_l26Post.f (k : Nat) (l0_0 : List (S48)) (l0_1 : List (S63)) (a1_0 : Int) (a1_1 : ByteArray) (l1_2 : List (S70)) : Option ((List (S48)) × (List (S63)) × Bool) := (spec_l26Own.f k l0_0 l0_1).bind fun bt259 => ((spec_l26OwnEntry.f a1_0 a1_1 l1_2).bind fun bt266 => (if bt259.2.length < 2932031007402 then ((some (bt259.2 ++ [(⟨bt266.1, bt266.2.1, bt266.2.2⟩ : S63)] : List (S63))).bind fun y271 => ((spec_l26Good.f k l0_0 l0_1).bind fun t274 => (if t274 = true then ((spec_l26Good.f k bt259.1 y271).bind fun t275 => (if t275 = true then (some (bt259.1, y271, true)) else (some (([] : List (S48)), ([] : List (S63)), false)))) else (some (([] : List (S48)), ([] : List (S63)), false))))) else (none)))
theorem spec_l26Post.mono : ∀ a0 a1 a2 a3 a4 k, LeO (spec_l26Post.f k a0 a1 a2 a3 a4) (spec_l26Post.f (k + 1) a0 a1 a2 a3 a4) := by
 intro a0 a1 a2 a3 a4 k
 unfold spec_l26Post.f
 repeat' with_reducible first | apply spec_l26Good.mono | apply spec_l26Own.mono | exact LeO.refl _ | exact LeO.none _ | refine LeO.ite ?_ ?_ | refine LeO.bind ?_ (fun _ => ?_)
def spec_l26Post.T2 : Bool × List (List Nat × List Nat) := (true, [([], []), ([0], [0]), ([], []), ([2], [2]), ([3], [3]), ([1, 4, 3], [1, 4]), ([0, 1, 2, 3, 4, 5], []), ([6, 5, 5, 0, 1, 2, 3, 4, 5], [5, 6])])
def spec_l26Post.B2 : List Nat := [0, 1, 0, 4, 12, 31, 63, 127]
theorem spec_l26Post.tab2 : rtab .any (opsOf Tryd.f78 2) = spec_l26Post.T2 := by kernel_rfl
theorem spec_l26Post.bits2 : waitsOk spec_l26Post.T2.2 spec_l26Post.B2 = true := by kernel_rfl
set_option maxHeartbeats 8000000 in
set_option maxRecDepth 100000 in
theorem spec_l26Post.calls (k : Nat) (A0_0 : Option Addr) (c0_0 : Nat) (l0_0 : List (S48)) (A0_1 : Option Addr) (c0_1 : Nat) (l0_1 : List (S63)) (a1_0 : Int) (a1_1 : ByteArray) (A1_2 : Option Addr) (c1_2 : Nat) (l1_2 : List (S70)) (r1 : List (S48)) (r2 : List (S63)) (r3 : Bool) (w : World) (hr0_0 : Kd.C k48 w A0_0 l0_0.length l0_0) (hc0_0 : l0_0.length ≤ c0_0) (hr0_1 : Kd.C k63 w A0_1 l0_1.length l0_1) (hc0_1 : l0_1.length ≤ c0_1) (hr1_2 : Kd.C k70 w A1_2 l1_2.length l1_2) (hc1_2 : l1_2.length ≤ c1_2) (h : spec_l26Post.f k l0_0 l0_1 a1_0 a1_1 l1_2 = some (r1, r2, r3)) :
 Calls Tryd.prog 78 #[.agg #[.slice A0_0 l0_0.length c0_0, .slice A0_1 l0_1.length c0_1], .agg #[.int .i64 a1_0, .string a1_1, .slice A1_2 l1_2.length c1_2]] w fun e w' => ∃ v0_ v1_ : Value, e = .returned (.tuple #[.agg #[v0_, v1_], .bool r3]) ∧ Kd.R k48 48 w' w.heap.size (fun _ => True) v0_ r1 ∧ Kd.S k63 63 w' w.heap.size (fun _ => True) v1_ r2 ∧ Below w.heap.size w w' := by
 have hu31 := Tryd.underlying31
 have hu63 := Tryd.underlying63
 have HR0_0 := Aside0.mk hr0_0
 have HC0_0 := Aside0.mk hc0_0
 clear hr0_0 hc0_0
 have HR0_1 := Aside0.mk hr0_1
 have HC0_1 := Aside0.mk hc0_1
 clear hr0_1 hc0_1
 have HR1_2 := Aside0.mk hr1_2
 have HC1_2 := Aside0.mk hc1_2
 clear hr1_2 hc1_2
 have HB := Aside0.mk (Below.refl w.heap.size w)
 have H := h
 clear h
 unfold spec_l26Post.f at H
 obtain ⟨⟨t259, t262⟩, A3, H⟩ := bdY H
 try dsimp only at H
 obtain ⟨⟨t266, t267, t268⟩, A4, H⟩ := bdY H
 try dsimp only at H
 obtain ⟨c5, H⟩ := ifY H
 have LMc5 := Aside0.mk c5
 clear c5
 try rw [Option.bind_some] at H
 generalize hy271 : (t262 ++ [(⟨t266, t267, t268⟩ : S63)] : List (S63)) = y271 at H
 have Ny271 := Aside0.mk hy271.symm
 clear hy271
 obtain ⟨t274, A6, H⟩ := bdY H
 go_enter Tryd.func78, Tryd.ntmps78
 try go_wp2_with (first | ((with_reducible refine gate_dst (N := 2) rfl ?_); refine bx 2 (cs := #[.slice A0_0 l0_0.length c0_0, .slice A0_1 l0_1.length c0_1]) (t := 31) ?_; intro gb256 hg w10 hbox hb; have BK256 := Aside0.mk (hbox); have GW256 := gw hg; have GE256 := gw hg; replace HB := hB hb; clear hb hbox hg) | ((with_reducible refine gate_dst (N := 3) rfl ?_); refine bx 3 (cs := #[.int .i64 a1_0, .string a1_1, .slice A1_2 l1_2.length c1_2]) (t := 63) ?_; intro gb257 hg w11 hbox hb; have BK257 := Aside0.mk (hbox); have GW257 := gw hg; have GE257 := gw hg; replace HB := hB hb; have NB256_257 := nl hg BK256; have NB257_256 := ng hg BK256; replace BK256 := kb BK256 hb; clear hb hbox hg) | ((with_reducible refine gate_dst (N := 4) rfl ?_); refine bx 4 (cs := #[.slice none 0 0, .slice none 0 0]) (t := 31) ?_; intro gb258 hg w12 hbox hb; have BK258 := Aside0.mk (hbox); have GW258 := gw hg; have GE258 := gw hg; replace HB := hB hb; have NB256_258 := nl hg BK256; have NB258_256 := ng hg BK256; replace BK256 := kb BK256 hb; have NB257_258 := nl hg BK257; have NB258_257 := ng hg BK257; replace BK257 := kb BK257 hb; clear hb hbox hg; have hnb13 := NB256_257.out; have hnc13 := NB257_256.out; have hnb14 := NB256_258.out; have hnc14 := NB258_256.out; obtain ⟨hcz15_0, hcz15_1, hfz15_0, hfz15_1⟩ := z2 BK256) | (refine gc 8 Tryd.func77 #[.agg #[.slice A0_0 l0_0.length c0_0, .slice A0_1 l0_1.length c0_1]] ?_; (with_reducible refine (spec_l26Own.calls k _ _ l0_0 _ _ l0_1 t259 t262 _ ?side1 ?side2 ?side3 ?side4 A3.out).mono ?_); (case side1 => exact (rC (Kd.C_below HR0_0.out HB.out))); (case side2 => exact HC0_0.out); (case side3 => exact (rC (Kd.C_below HR0_1.out HB.out))); (case side4 => exact HC0_1.out); rintro e w16 ⟨v260, v263, rfl, ho0, ho1, hb⟩; refine ⟨_, rfl, ?_⟩; have HO261 := Aside0.mk (Kd.R_lower ho0 (below_size ZZ295621)); have HO264 := Aside0.mk (Kd.S_lower (Kd.S_newB ho1 (zB BK257)) (below_size ZZ295621)); replace BK256 := kb BK256 hb; replace BK257 := kb BK257 hb; replace BK258 := kb BK258 hb; replace HB := hB hb; (try clear hb); (try clear hb2); (try clear hk); (try clear hi); (try clear ho0); (try clear ho1)) | ((with_reducible refine gate_dst (N := 6) rfl ?_); refine bx 6 (cs := #[.slice none 0 0, .slice none 0 0]) (t := 31) ?_; intro gb265 hg w17 hbox hb; replace HO261 := Aside0.mk (Kd.R_below (zR HO261) hb); replace HO264 := Aside0.mk (Kd.S_below (zS HO264) hb); have BK265 := Aside0.mk (hbox); have GW265 := gw hg; have GE265 := gw hg; replace HB := hB hb; have NB256_265 := nl hg BK256; have NB265_256 := ng hg BK256; replace BK256 := kb BK256 hb; have NB257_265 := nl hg BK257; have NB265_257 := ng hg BK257; replace BK257 := kb BK257 hb; have NB258_265 := nl hg BK258; have NB265_258 := ng hg BK258; replace BK258 := kb BK258 hb; clear hb hbox hg; obtain ⟨Ao18, co18, eo18⟩ := Kd.R_slice HO261.out; subst eo18; have hnb19 := NB265_256.out; have hnc19 := NB256_265.out; have hnb20 := NB265_257.out; have hnc20 := NB257_265.out; have hnb21 := NB265_258.out; have hnc21 := NB258_265.out; obtain ⟨hcz22_0, hcz22_1, hfz22_0, hfz22_1⟩ := z2 BK265; obtain ⟨Ao23, co23, eo23⟩ := Kd.S_slice HO264.out; subst eo23))
 generalize hw_ : ((w17.setCell ⟨gb265, 0, none⟩ (.slice Ao18 t259.length co18)).setCell ⟨gb265, 1, none⟩ (.slice Ao23 t262.length co23)) = w24
 replace HO261 : Aside0 (Kd.R k48 48 w24 w.heap.size (fun _ => True) (.slice Ao18 t259.length co18) t259) := ⟨(by subst hw_; refine bR ?_; exact Kd.R_mono (Kd.R_far (p := ⟨gb265, 1, none⟩) (Kd.R_far (p := ⟨gb265, 0, none⟩) (Kd.R_types HO261.out BK265.out (by decide)) (fun _ hk => hk.2) (.slice Ao18 t259.length co18)) (fun _ hk => hk.2) (.slice Ao23 t262.length co23)) (fun _ hk => trivial))⟩
 replace HO264 : Aside0 (Kd.S k63 63 w24 w.heap.size (fun k_ => k_ ≠ gb257) (.slice Ao23 t262.length co23) t262) := ⟨(by subst hw_; refine bS ?_; exact Kd.S_mono (Kd.S_far (p := ⟨gb265, 1, none⟩) (Kd.S_far (p := ⟨gb265, 0, none⟩) (Kd.S_types HO264.out BK265.out (by decide)) (fun _ hk => hk.2) (.slice Ao18 t259.length co18)) (fun _ hk => hk.2) (.slice Ao23 t262.length co23)) (fun _ hk => hk.1.2))⟩
 replace BK256 : Aside0 (w24.heap[gb256]? = some (.cells #[.slice A0_0 l0_0.length c0_0, .slice A0_1 l0_1.length c0_1] 31 (0, 0))) := ⟨ZZ599992⟩
 replace BK257 : Aside0 (w24.heap[gb257]? = some (.cells #[.int .i64 a1_0, .string a1_1, .slice A1_2 l1_2.length c1_2] 63 (0, 0))) := ⟨ZZ925219⟩
 replace BK258 : Aside0 (w24.heap[gb258]? = some (.cells #[.slice none 0 0, .slice none 0 0] 31 (0, 0))) := ⟨ZZ56924a⟩
 replace BK265 : Aside0 (w24.heap[gb265]? = some (.cells #[.slice Ao18 t259.length co18, .slice Ao23 t262.length co23] 31 (0, 0))) := ⟨(by subst hw_; refine bd ?_; refine blk_put (cs := #[.slice Ao18 t259.length co18, .slice none 0 0]) ?_ 1 _ rfl; refine bd ?_; refine blk_put (cs := #[.slice none 0 0, .slice none 0 0]) ?_ 0 _ rfl; refine bd ?_; exact BK265.out)⟩
 replace HB : Aside0 (Below w.heap.size w w24) := ⟨ZZ0d0602⟩
 clear hw_
 replace HO261 := Aside0.mk (Kd.R_drew HO261.out)
 replace HO264 := Aside0.mk (Kd.S_drew HO264.out)
 replace BK256 := Aside0.mk (blk_drew BK256.out)
 replace BK257 := Aside0.mk (blk_drew BK257.out)
 replace BK258 := Aside0.mk (blk_drew BK258.out)
 replace BK265 := Aside0.mk (blk_drew BK265.out)
 replace HB := Aside0.mk (below_drew1 HB.out)
 refine start_ (n := 8) (S := fun w' => w'.cell? ⟨gb265, 0, none⟩ = some (.slice Ao18 t259.length co18) ∧ w'.cell? ⟨gb265, 1, none⟩ = some (.slice Ao23 t262.length co23) ∧ w'.cell? ⟨gb257, 0, none⟩ = some (.int .i64 a1_0) ∧ w'.cell? ⟨gb257, 1, none⟩ = some (.string a1_1) ∧ w'.cell? ⟨gb257, 2, none⟩ = some (.slice A1_2 l1_2.length c1_2)) (ds := [7]) #[false, false, false, false, false, false, false, false] (by kernel_rfl) rfl rfl ⟨(blk_cell BK265.out 0).trans rfl, (blk_cell BK265.out 1).trans rfl, (blk_cell BK257.out 0).trans rfl, (blk_cell BK257.out 1).trans rfl, (blk_cell BK257.out 2).trans rfl⟩ (fun hHeld => ?_); refine with_tabW spec_l26Post.tab2 spec_l26Post.bits2 (fun HT_ HW_ => ?_)
 generalize w24.drew = w25 at HO261 HO264 BK256 BK257 BK258 BK265 HB hHeld ⊢
 refine pu 0 9 ?_
 refine tk 1 10 ?_
 refine tk 2 11 ?_
 refine on 3 (some 12) (fun K hK => ?_)
 refine goes_ Tryd.func111 (by kernel_rfl) rfl #[.agg #[.int .i64 a1_0, .string a1_1, .slice A1_2 l1_2.length c1_2]] (by rfl) rfl rfl ZZ19826e ?_
 with_reducible refine (spec_l26OwnEntry.calls a1_0 a1_1 _ _ l1_2 t266 t267 t268 _ ?side1 ?side2 A4.out).mono ?_
 (case side1 => exact (rC (Kd.C_below HR1_2.out HB.out)))
 (case side2 => exact HC1_2.out)
 rintro e w26 ⟨v269, rfl, ho0, hb⟩
 refine ⟨_, rfl, ?_⟩
 replace HO261 := Aside0.mk (Kd.R_below (zR HO261) hb)
 replace HO264 := Aside0.mk (Kd.S_elder' (zS HO264) (Kd.R_base ho0) hb)
 have HO270 := Aside0.mk (Kd.R_lower ho0 (below_size ZZ295621))
 replace BK256 := kb BK256 hb
 replace BK257 := kb BK257 hb
 replace BK258 := kb BK258 hb
 replace BK265 := kb BK265 hb
 replace HB := hB hb
 (try clear hb)
 (try clear hb2)
 (try clear hk)
 (try clear hi)
 (try clear ho0)
 obtain ⟨Ao28, co28, eo28⟩ := Kd.R_slice HO270.out
 (first | subst eo28 | (injection eo28 with f1_ f2_ f3_; have f4_ := f1_.symm; have f5_ := f3_.symm; clear f1_ f2_ f3_; subst f4_; subst f5_))
 refine hK.out _ _ zK (fun hHeld => ?_)
 clear hK K
 refine nd (some 12) ?_
 refine on 4 (some 13) (fun K hK => ?_)
 refine value_ (w1 := ?_) (v := ?_) (by rfl) rfl ?_ ?_
 rotate_left 2
 ·go_simp
  constructor
  ·rfl
  rfl
 refine hK.out _ _ ⟨(blk_cell (blk_alloc BK265.out _) 0).trans rfl, (blk_cell (blk_alloc BK265.out _) 1).trans rfl, (blk_cell (blk_alloc BK257.out _) 0).trans rfl, (blk_cell (blk_alloc BK257.out _) 1).trans rfl, (blk_cell (blk_alloc BK257.out _) 2).trans rfl⟩ (fun hHeld => ?_)
 clear hK K
 refine nd (some 13) ?_
 refine on 5 (some 14) (fun K hK => ?_)
 refine Kd.S_append_step k63 (w0 := w) w.heap.size (by rfl) (.tmp 10) (.tmp 13) 29 63 (.agg #[(.int .i64 0), (.string ⟨#[]⟩), (.slice none 0 0)]) 48 rfl Tryd.underlying29 info63 rfl (by decide) (by omega) (.slice Ao23 t262.length co23) t262 (⟨t266, t267, t268⟩ : S63) [.int .i64 t266, .string t267, .slice Ao28 t268.length co28] (fun k_ => k_ ≠ gb257) (fun k_ => some k_ = (.slice Ao28 t268.length co28 : Value).ownBlock) rfl rfl ?aP (fun k_ hk_ => ((Kd.R_mono (ok' := fun k_ => ((fun k_ => k_ ≠ gb257)) k_ ∧ some k_ ≠ (.slice Ao23 t262.length co23 : Value).ownBlock) (Kd.R_types (Kd.R_apart' (HO270.out) (Kd.S_typed HO264.out) (by decide)) BK257.out (by decide)) (fun k_ hk => ⟨hk.2, hk.1.2⟩))).1 k_ hk_.symm) ?aF ?aO ?aB ?aS ?aL ?_
 (case aP => exact k63_mkM _ _ _ (⟨t266, t267, t268⟩ : S63) (Kd.R_mono (Kd.R_tight rfl (Kd.R_mono (ok' := fun k_ => ((fun k_ => k_ ≠ gb257)) k_ ∧ some k_ ≠ (.slice Ao23 t262.length co23 : Value).ownBlock) (Kd.R_types (Kd.R_apart' (HO270.out) (Kd.S_typed HO264.out) (by decide)) BK257.out (by decide)) (fun k_ hk => ⟨hk.2, hk.1.2⟩))) (fun _ h_ => h_)))
 (case aB => exact ZZ295621)
 (case aF => exact (fun k_ hk => Kd.freshB (zB BK257) k_ hk))
 (case aO => exact (by refine bS ?_; exact Kd.S_mono HO264.out (fun k_ hk => ⟨hk.1, fun e_ => hk.2 e_⟩)))
 (case aS => exact (below_size ZZ295621))
 (case aL => have := LMc5.out; omega)
 intro v272 w27 ho hb hg hat
 rw [← Ny271.out] at ho
 replace BK256 := Aside0.mk (blk_grown (zB BK256) hg (Kd.S_ne HO264.out BK256.out (by decide)))
 replace BK257 := Aside0.mk (blk_grown (zB BK257) hg (Kd.S_away HO264.out (fun _ hk => hk.1)))
 replace BK258 := Aside0.mk (blk_grown (zB BK258) hg (Kd.S_ne HO264.out BK258.out (by decide)))
 replace HO261 := Aside0.mk (Kd.R_over' (zR HO261) (Kd.S_typed (zS HO264)) (by decide) hg)
 replace BK265 := Aside0.mk (blk_grown (zB BK265) hg (Kd.S_ne HO264.out BK265.out (by decide)))
 replace HB := Aside0.mk (hb)
 have HO273 := Aside0.mk (ho)
 clear HO264
 clear HO270
 clear ho hb hg hat
 obtain ⟨Ao29, co29, eo29⟩ := Kd.S_slice HO273.out
 (first | subst eo29 | (injection eo29 with f1_ f2_ f3_; have f4_ := f1_.symm; have f5_ := f3_.symm; clear f1_ f2_ f3_; subst f4_; subst f5_))
 refine hK.out _ _ zK (fun hHeld => ?_)
 clear hK K
 refine nd (some 14) ?_
 refine pu 6 15 ?_
 refine last_ (i := 7) (N := none) #[true, true, true, true, true, true, true, true] rfl rfl (one_of HT_.out (by kernel_rfl)) (by decide) (fun K hK => ?_)
 have hs30 := cz BK265 1
 have hfs30 := blk_frozen BK265.out 1
 have hns30_0 := NB256_265.out
 have hns30_1 := NB257_265.out
 have hns30_2 := NB258_265.out
 have hms30_0 := NB265_256.out
 have hms30_1 := NB265_257.out
 have hms30_2 := NB265_258.out
 refine skip_ (w1 := ?_) (by rfl) rfl ?_ ?_
 rotate_left
 ·go_simp
  rfl
 refine hK.out _ _ ?_
 clear hK K
 refine done_ (done_of HT_.out (by kernel_rfl)) ?_
 obtain ⟨hcz31_0, hcz31_1, hfz31_0, hfz31_1⟩ := z2 BK256
 by_cases c7 : t274 = true
 ·subst c7
  replace H := ifT H
  obtain ⟨t275, A8, H⟩ := bdY H
  by_cases c9 : t275 = true
  ·subst c9
   replace H := ifT H
   simp only [Option.some.injEq, Prod.mk.injEq] at H
   obtain ⟨rfl, rfl, rfl⟩ := H
   try go_wp2_with (first | (refine gc 17 Tryd.func52 #[.agg #[.slice A0_0 l0_0.length c0_0, .slice A0_1 l0_1.length c0_1]] ?_; (with_reducible refine (spec_l26Good.calls k _ _ l0_0 _ _ l0_1 true _ ?side1 ?side2 ?side3 ?side4 A6.out).mono ?_); (case side1 => exact Kd.C_below HR0_0.out ZZ295621); (case side2 => exact HC0_0.out); (case side3 => exact Kd.C_below HR0_1.out ZZ295621); (case side4 => exact HC0_1.out); rintro e w32 ⟨rfl, hb⟩; refine ⟨_, rfl, ?_⟩; replace HO261 := Aside0.mk (Kd.R_below (by refine bR ?_; exact (Kd.R_mono (Kd.R_far (p := ⟨gb265, 1, none⟩) (Kd.R_types HO261.out BK265.out (by decide)) (fun _ hk => hk.2) (.slice Ao29 y271.length co29)) (fun _ h_ => h_.1))) hb); replace HO273 := Aside0.mk (Kd.S_below (by refine bS ?_; exact (Kd.S_mono (Kd.S_far (p := ⟨gb265, 1, none⟩) (Kd.S_types HO273.out BK265.out (by decide)) (fun _ hk => hk.2) (.slice Ao29 y271.length co29)) (fun _ h_ => h_.1))) hb); replace BK256 := Aside0.mk (blk_below (g := gb256) (o := .cells #[.slice A0_0 l0_0.length c0_0, .slice A0_1 l0_1.length c0_1] 31 (0, 0)) (by refine bd ?_; refine blk_far ?_ NB256_265.out _; refine bd ?_; exact BK256.out) hb); replace BK257 := Aside0.mk (blk_below (g := gb257) (o := .cells #[.int .i64 a1_0, .string a1_1, .slice A1_2 l1_2.length c1_2] 63 (0, 0)) (by refine bd ?_; refine blk_far ?_ NB257_265.out _; refine bd ?_; exact BK257.out) hb); replace BK258 := Aside0.mk (blk_below (g := gb258) (o := .cells #[.slice none 0 0, .slice none 0 0] 31 (0, 0)) (by refine bd ?_; refine blk_far ?_ NB258_265.out _; refine bd ?_; exact BK258.out) hb); replace BK265 := Aside0.mk (blk_below (g := gb265) (o := .cells #[.slice Ao18 t259.length co18, .slice Ao29 y271.length co29] 31 (0, 0)) (by refine bd ?_; refine blk_put (cs := #[.slice Ao18 t259.length co18, .slice Ao23 t262.length co23]) ?_ 1 _ rfl; refine bd ?_; exact BK265.out) hb); replace HB := hB hb; (try clear hb); (try clear hb2); (try clear hk); (try clear hi); obtain ⟨hcz33_0, hcz33_1, hfz33_0, hfz33_1⟩ := z2 BK265) | (go_at_call 52; (with_reducible refine (spec_l26Good.calls k _ _ t259 _ _ y271 true _ ?side1 ?side2 ?side3 ?side4 A8.out).mono ?_); (case side1 => exact rC (Kd.R_reads' HO261.out).2.2); (case side2 => exact (Kd.R_reads' HO261.out).2.1); (case side3 => exact rC (Kd.S_reads' HO273.out).2.2); (case side4 => exact (Kd.S_reads' HO273.out).2.1); rintro e w34 ⟨rfl, hb⟩; replace HO261 := Aside0.mk (Kd.R_below (zR HO261) hb); replace HO273 := Aside0.mk (Kd.S_below (zS HO273) hb); replace BK256 := kb BK256 hb; replace BK257 := kb BK257 hb; replace BK258 := kb BK258 hb; replace BK265 := kb BK265 hb; replace HB := hB hb; (try clear hb); (try clear hb2); (try clear hk); (try clear hi); obtain ⟨hcz35_0, hcz35_1, hfz35_0, hfz35_1⟩ := z2 BK265; have hnb36 := NB258_257.out; have hnc36 := NB257_258.out; obtain ⟨hcz37_0, hcz37_1, hfz37_0, hfz37_1⟩ := z2 BK258))
   refine bodyPost_ret (results_ct rfl _ _ gb258 31 #[.slice Ao18 t259.length co18, .slice Ao29 y271.length co29] (0, 0) _ rfl (by refine bd ?_; refine blk_put (cs := #[.slice Ao18 t259.length co18, .slice none 0 0]) ?_ 1 _ rfl; refine bd ?_; refine blk_put (cs := #[.slice none 0 0, .slice none 0 0]) ?_ 0 _ rfl; refine bd ?_; exact BK258.out) Tryd.underlying31 rfl (by kernel_rfl)) rfl ?_
   exact ⟨_, _, ZZab01d2, (by refine bR ?_; exact Kd.R_mono (Kd.R_far (p := ⟨gb258, 1, none⟩) (Kd.R_far (p := ⟨gb258, 0, none⟩) (Kd.R_types HO261.out BK258.out (by decide)) (fun _ hk => hk.2) (.slice Ao18 t259.length co18)) (fun _ hk => hk.2) (.slice Ao29 y271.length co29)) (fun _ hk => trivial)), (by refine bS ?_; exact Kd.S_mono (Kd.S_far (p := ⟨gb258, 1, none⟩) (Kd.S_far (p := ⟨gb258, 0, none⟩) (Kd.S_types HO273.out BK258.out (by decide)) (fun _ hk => hk.2) (.slice Ao18 t259.length co18)) (fun _ hk => hk.2) (.slice Ao29 y271.length co29)) (fun _ hk => trivial)), ZZ295621⟩
  replace c9 := Bool.eq_false_iff.mpr c9
  subst c9
  replace H := ifF H
  simp only [Option.some.injEq, Prod.mk.injEq] at H
  obtain ⟨rfl, rfl, rfl⟩ := H
  try go_wp2_with (first | (refine gc 17 Tryd.func52 #[.agg #[.slice A0_0 l0_0.length c0_0, .slice A0_1 l0_1.length c0_1]] ?_; (with_reducible refine (spec_l26Good.calls k _ _ l0_0 _ _ l0_1 true _ ?side1 ?side2 ?side3 ?side4 A6.out).mono ?_); (case side1 => exact Kd.C_below HR0_0.out ZZ295621); (case side2 => exact HC0_0.out); (case side3 => exact Kd.C_below HR0_1.out ZZ295621); (case side4 => exact HC0_1.out); rintro e w60 ⟨rfl, hb⟩; refine ⟨_, rfl, ?_⟩; replace HO261 := Aside0.mk (Kd.R_below (by refine bR ?_; exact (Kd.R_mono (Kd.R_far (p := ⟨gb265, 1, none⟩) (Kd.R_types HO261.out BK265.out (by decide)) (fun _ hk => hk.2) (.slice Ao29 y271.length co29)) (fun _ h_ => h_.1))) hb); replace HO273 := Aside0.mk (Kd.S_below (by refine bS ?_; exact (Kd.S_mono (Kd.S_far (p := ⟨gb265, 1, none⟩) (Kd.S_types HO273.out BK265.out (by decide)) (fun _ hk => hk.2) (.slice Ao29 y271.length co29)) (fun _ h_ => h_.1))) hb); replace BK256 := Aside0.mk (blk_below (g := gb256) (o := .cells #[.slice A0_0 l0_0.length c0_0, .slice A0_1 l0_1.length c0_1] 31 (0, 0)) (by refine bd ?_; refine blk_far ?_ NB256_265.out _; refine bd ?_; exact BK256.out) hb); replace BK257 := Aside0.mk (blk_below (g := gb257) (o := .cells #[.int .i64 a1_0, .string a1_1, .slice A1_2 l1_2.length c1_2] 63 (0, 0)) (by refine bd ?_; refine blk_far ?_ NB257_265.out _; refine bd ?_; exact BK257.out) hb); replace BK258 := Aside0.mk (blk_below (g := gb258) (o := .cells #[.slice none 0 0, .slice none 0 0] 31 (0, 0)) (by refine bd ?_; refine blk_far ?_ NB258_265.out _; refine bd ?_; exact BK258.out) hb); replace BK265 := Aside0.mk (blk_below (g := gb265) (o := .cells #[.slice Ao18 t259.length co18, .slice Ao29 y271.length co29] 31 (0, 0)) (by refine bd ?_; refine blk_put (cs := #[.slice Ao18 t259.length co18, .slice Ao23 t262.length co23]) ?_ 1 _ rfl; refine bd ?_; exact BK265.out) hb); replace HB := hB hb; (try clear hb); (try clear hb2); (try clear hk); (try clear hi); obtain ⟨hcz61_0, hcz61_1, hfz61_0, hfz61_1⟩ := z2 BK265) | (go_at_call 52; (with_reducible refine (spec_l26Good.calls k _ _ t259 _ _ y271 false _ ?side1 ?side2 ?side3 ?side4 A8.out).mono ?_); (case side1 => exact rC (Kd.R_reads' HO261.out).2.2); (case side2 => exact (Kd.R_reads' HO261.out).2.1); (case side3 => exact rC (Kd.S_reads' HO273.out).2.2); (case side4 => exact (Kd.S_reads' HO273.out).2.1); rintro e w62 ⟨rfl, hb⟩; replace HO261 := Aside0.mk (Kd.R_below (zR HO261) hb); replace HO273 := Aside0.mk (Kd.S_below (zS HO273) hb); replace BK256 := kb BK256 hb; replace BK257 := kb BK257 hb; replace BK258 := kb BK258 hb; replace BK265 := kb BK265 hb; replace HB := hB hb; (try clear hb); (try clear hb2); (try clear hk); (try clear hi); have hnb63 := NB258_257.out; have hnc63 := NB257_258.out; obtain ⟨hcz64_0, hcz64_1, hfz64_0, hfz64_1⟩ := z2 BK258))
  refine bodyPost_ret (results_ct rfl _ _ gb258 31 #[.slice none 0 0, .slice none 0 0] (0, 0) _ rfl (by refine bd ?_; refine blk_put (cs := #[.slice none 0 0, .slice none 0 0]) ?_ 1 _ rfl; refine bd ?_; refine blk_put (cs := #[.slice none 0 0, .slice none 0 0]) ?_ 0 _ rfl; refine bd ?_; exact BK258.out) Tryd.underlying31 rfl (by kernel_rfl)) rfl ?_
  exact ⟨_, _, ZZab01d2, ZZf4214b, ZZc4c4be, ZZ295621⟩
 replace c7 := Bool.eq_false_iff.mpr c7
 subst c7
 replace H := ifF H
 simp only [Option.some.injEq, Prod.mk.injEq] at H
 obtain ⟨rfl, rfl, rfl⟩ := H
 try go_wp2_with (first | (refine gc 17 Tryd.func52 #[.agg #[.slice A0_0 l0_0.length c0_0, .slice A0_1 l0_1.length c0_1]] ?_; (with_reducible refine (spec_l26Good.calls k _ _ l0_0 _ _ l0_1 false _ ?side1 ?side2 ?side3 ?side4 A6.out).mono ?_); (case side1 => exact Kd.C_below HR0_0.out ZZ295621); (case side2 => exact HC0_0.out); (case side3 => exact Kd.C_below HR0_1.out ZZ295621); (case side4 => exact HC0_1.out); rintro e w87 ⟨rfl, hb⟩; refine ⟨_, rfl, ?_⟩; replace HO261 := Aside0.mk (Kd.R_below (by refine bR ?_; exact (Kd.R_mono (Kd.R_far (p := ⟨gb265, 1, none⟩) (Kd.R_types HO261.out BK265.out (by decide)) (fun _ hk => hk.2) (.slice Ao29 y271.length co29)) (fun _ h_ => h_.1))) hb); replace HO273 := Aside0.mk (Kd.S_below (by refine bS ?_; exact (Kd.S_mono (Kd.S_far (p := ⟨gb265, 1, none⟩) (Kd.S_types HO273.out BK265.out (by decide)) (fun _ hk => hk.2) (.slice Ao29 y271.length co29)) (fun _ h_ => h_.1))) hb); replace BK256 := Aside0.mk (blk_below (g := gb256) (o := .cells #[.slice A0_0 l0_0.length c0_0, .slice A0_1 l0_1.length c0_1] 31 (0, 0)) (by refine bd ?_; refine blk_far ?_ NB256_265.out _; refine bd ?_; exact BK256.out) hb); replace BK257 := Aside0.mk (blk_below (g := gb257) (o := .cells #[.int .i64 a1_0, .string a1_1, .slice A1_2 l1_2.length c1_2] 63 (0, 0)) (by refine bd ?_; refine blk_far ?_ NB257_265.out _; refine bd ?_; exact BK257.out) hb); replace BK258 := Aside0.mk (blk_below (g := gb258) (o := .cells #[.slice none 0 0, .slice none 0 0] 31 (0, 0)) (by refine bd ?_; refine blk_far ?_ NB258_265.out _; refine bd ?_; exact BK258.out) hb); replace BK265 := Aside0.mk (blk_below (g := gb265) (o := .cells #[.slice Ao18 t259.length co18, .slice Ao29 y271.length co29] 31 (0, 0)) (by refine bd ?_; refine blk_put (cs := #[.slice Ao18 t259.length co18, .slice Ao23 t262.length co23]) ?_ 1 _ rfl; refine bd ?_; exact BK265.out) hb); replace HB := hB hb; (try clear hb); (try clear hb2); (try clear hk); (try clear hi); have hnb88 := NB258_257.out; have hnc88 := NB257_258.out; obtain ⟨hcz89_0, hcz89_1, hfz89_0, hfz89_1⟩ := z2 BK258))
 refine bodyPost_ret (results_ct rfl _ _ gb258 31 #[.slice none 0 0, .slice none 0 0] (0, 0) _ rfl (by refine bd ?_; refine blk_put (cs := #[.slice none 0 0, .slice none 0 0]) ?_ 1 _ rfl; refine bd ?_; refine blk_put (cs := #[.slice none 0 0, .slice none 0 0]) ?_ 0 _ rfl; refine bd ?_; exact BK258.out) Tryd.underlying31 rfl (by kernel_rfl)) rfl ?_
 exact ⟨_, _, ZZab01d2, ZZf4214b, ZZc4c4be, ZZ295621⟩/-! ### spec_PostEntry: function 36 -/
def spec_PostEntry.f (k : Nat) (l0_0 : List (S48)) (l0_1 : List (S63)) (a1_0 : Int) (a1_1 : ByteArray) (l1_2 : List (S70)) : Option ((List (S48)) × (List (S63)) × Bool) := (spec_l26Post.f k l0_0 l0_1 a1_0 a1_1 l1_2).bind fun bt279 => (some (bt279.1, bt279.2.1, bt279.2.2))
theorem spec_PostEntry.mono : ∀ a0 a1 a2 a3 a4 k, LeO (spec_PostEntry.f k a0 a1 a2 a3 a4) (spec_PostEntry.f (k + 1) a0 a1 a2 a3 a4) := by
 intro a0 a1 a2 a3 a4 k
 unfold spec_PostEntry.f
 repeat' with_reducible first | apply spec_l26Post.mono | exact LeO.refl _ | exact LeO.none _ | refine LeO.ite ?_ ?_ | refine LeO.bind ?_ (fun _ => ?_)
set_option maxHeartbeats 8000000 in
set_option maxRecDepth 100000 in
theorem spec_PostEntry.calls (k : Nat) (A0_0 : Option Addr) (c0_0 : Nat) (l0_0 : List (S48)) (A0_1 : Option Addr) (c0_1 : Nat) (l0_1 : List (S63)) (a1_0 : Int) (a1_1 : ByteArray) (A1_2 : Option Addr) (c1_2 : Nat) (l1_2 : List (S70)) (r1 : List (S48)) (r2 : List (S63)) (r3 : Bool) (w : World) (hr0_0 : Kd.C k48 w A0_0 l0_0.length l0_0) (hc0_0 : l0_0.length ≤ c0_0) (hr0_1 : Kd.C k63 w A0_1 l0_1.length l0_1) (hc0_1 : l0_1.length ≤ c0_1) (hr1_2 : Kd.C k70 w A1_2 l1_2.length l1_2) (hc1_2 : l1_2.length ≤ c1_2) (h : spec_PostEntry.f k l0_0 l0_1 a1_0 a1_1 l1_2 = some (r1, r2, r3)) :
 Calls Tryd.prog 36 #[.agg #[.slice A0_0 l0_0.length c0_0, .slice A0_1 l0_1.length c0_1], .agg #[.int .i64 a1_0, .string a1_1, .slice A1_2 l1_2.length c1_2]] w fun e w' => ∃ v0_ v1_ : Value, e = .returned (.tuple #[.agg #[v0_, v1_], .bool r3]) ∧ Kd.R k48 48 w' w.heap.size (fun _ => True) v0_ r1 ∧ Kd.S k63 63 w' w.heap.size (fun _ => True) v1_ r2 ∧ Below w.heap.size w w' := by
 have hu31 := Tryd.underlying31
 have hu63 := Tryd.underlying63
 have HR0_0 := Aside0.mk hr0_0
 have HC0_0 := Aside0.mk hc0_0
 clear hr0_0 hc0_0
 have HR0_1 := Aside0.mk hr0_1
 have HC0_1 := Aside0.mk hc0_1
 clear hr0_1 hc0_1
 have HR1_2 := Aside0.mk hr1_2
 have HC1_2 := Aside0.mk hc1_2
 clear hr1_2 hc1_2
 have HB := Aside0.mk (Below.refl w.heap.size w)
 have H := h
 clear h
 unfold spec_PostEntry.f at H
 obtain ⟨⟨t279, t282, t285⟩, A3, H⟩ := bdY H
 try dsimp only at H
 simp only [Option.some.injEq, Prod.mk.injEq] at H
 obtain ⟨rfl, rfl, rfl⟩ := H
 go_enter Tryd.func36, Tryd.ntmps36
 go_wp2_with (first | ((with_reducible refine gate_dst (N := 2) rfl ?_); refine bx 2 (cs := #[.slice A0_0 l0_0.length c0_0, .slice A0_1 l0_1.length c0_1]) (t := 31) ?_; intro gb276 hg w4 hbox hb; have BK276 := Aside0.mk (hbox); have GW276 := gw hg; have GE276 := gw hg; replace HB := hB hb; clear hb hbox hg) | ((with_reducible refine gate_dst (N := 3) rfl ?_); refine bx 3 (cs := #[.int .i64 a1_0, .string a1_1, .slice A1_2 l1_2.length c1_2]) (t := 63) ?_; intro gb277 hg w5 hbox hb; have BK277 := Aside0.mk (hbox); have GW277 := gw hg; have GE277 := gw hg; replace HB := hB hb; have NB276_277 := nl hg BK276; have NB277_276 := ng hg BK276; replace BK276 := kb BK276 hb; clear hb hbox hg) | ((with_reducible refine gate_dst (N := 4) rfl ?_); refine bx 4 (cs := #[.slice none 0 0, .slice none 0 0]) (t := 31) ?_; intro gb278 hg w6 hbox hb; have BK278 := Aside0.mk (hbox); have GW278 := gw hg; have GE278 := gw hg; replace HB := hB hb; have NB276_278 := nl hg BK276; have NB278_276 := ng hg BK276; replace BK276 := kb BK276 hb; have NB277_278 := nl hg BK277; have NB278_277 := ng hg BK277; replace BK277 := kb BK277 hb; clear hb hbox hg; have hnb7 := NB276_277.out; have hnc7 := NB277_276.out; have hnb8 := NB276_278.out; have hnc8 := NB278_276.out; obtain ⟨hcz9_0, hcz9_1, hfz9_0, hfz9_1⟩ := z2 BK276; have hnb10 := NB277_278.out; have hnc10 := NB278_277.out; obtain ⟨hcz11_0, hcz11_1, hcz11_2, hfz11_0, hfz11_1, hfz11_2⟩ := z3 BK277) | (refine gc 8 Tryd.func78 #[.agg #[.slice A0_0 l0_0.length c0_0, .slice A0_1 l0_1.length c0_1], .agg #[.int .i64 a1_0, .string a1_1, .slice A1_2 l1_2.length c1_2]] ?_; (with_reducible refine (spec_l26Post.calls k _ _ l0_0 _ _ l0_1 a1_0 a1_1 _ _ l1_2 t279 t282 t285 _ ?side1 ?side2 ?side3 ?side4 ?side5 ?side6 A3.out).mono ?_); (case side1 => exact (rC (Kd.C_below HR0_0.out HB.out))); (case side2 => exact HC0_0.out); (case side3 => exact (rC (Kd.C_below HR0_1.out HB.out))); (case side4 => exact HC0_1.out); (case side5 => exact (rC (Kd.C_below HR1_2.out HB.out))); (case side6 => exact HC1_2.out); rintro e w12 ⟨v280, v283, rfl, ho0, ho1, hb⟩; refine ⟨_, rfl, ?_⟩; have HO281 := Aside0.mk (Kd.R_lower ho0 (below_size ZZ295621)); have HO284 := Aside0.mk (Kd.S_lower (Kd.S_newB ho1 (zB BK277)) (below_size ZZ295621)); replace BK276 := kb BK276 hb; replace BK277 := kb BK277 hb; replace BK278 := kb BK278 hb; replace HB := hB hb; (try clear hb); (try clear hb2); (try clear hk); (try clear hi); (try clear ho0); (try clear ho1); obtain ⟨Ao13, co13, eo13⟩ := Kd.R_slice HO281.out; subst eo13; obtain ⟨hcz14_0, hcz14_1, hfz14_0, hfz14_1⟩ := z2 BK278; obtain ⟨Ao15, co15, eo15⟩ := Kd.S_slice HO284.out; subst eo15))
 refine bodyPost_ret (results_ct rfl _ _ gb278 31 #[.slice Ao13 t279.length co13, .slice Ao15 t282.length co15] (0, 0) _ rfl (by refine bd ?_; refine blk_put (cs := #[.slice Ao13 t279.length co13, .slice none 0 0]) ?_ 1 _ rfl; refine bd ?_; refine blk_put (cs := #[.slice none 0 0, .slice none 0 0]) ?_ 0 _ rfl; refine bd ?_; exact BK278.out) Tryd.underlying31 rfl (by kernel_rfl)) rfl ?_
 exact ⟨_, _, ZZab01d2, (by refine bR ?_; exact Kd.R_mono (Kd.R_far (p := ⟨gb278, 1, none⟩) (Kd.R_far (p := ⟨gb278, 0, none⟩) (Kd.R_types HO281.out BK278.out (by decide)) (fun _ hk => hk.2) (.slice Ao13 t279.length co13)) (fun _ hk => hk.2) (.slice Ao15 t282.length co15)) (fun _ hk => trivial)), (by refine bS ?_; exact Kd.S_mono (Kd.S_far (p := ⟨gb278, 1, none⟩) (Kd.S_far (p := ⟨gb278, 0, none⟩) (Kd.S_types HO284.out BK278.out (by decide)) (fun _ hk => hk.2) (.slice Ao13 t279.length co13)) (fun _ hk => hk.2) (.slice Ao15 t282.length co15)) (fun _ hk => trivial)), ZZ295621⟩
def impl_within.f (a0 : Int) (a1 : Int) (a2 : Int) : Option (Bool) := if a0 ≥ a1 then (some (decide (a0 ≤ a2))) else (some false)
set_option maxHeartbeats 8000000 in
set_option maxRecDepth 100000 in
theorem impl_within.calls (a0 : Int) (a1 : Int) (a2 : Int) (r : Bool) (w : World) (h : impl_within.f a0 a1 a2 = some r) :
 Calls Tryd.prog 56 #[.int .i64 a0, .int .i64 a1, .int .i64 a2] w fun e w' => e = .returned (.bool r) ∧ Drawn0 w w' := by
 have H := h
 clear h
 unfold impl_within.f at H
 by_cases c4 : a0 ≥ a1
 ·rw [if_pos c4] at H
  have c4b0 : decide (a1 ≤ a0) = true := decide_eq_true c4
  clear c4
  obtain rfl := Option.some.inj H
  go_enter Tryd.func56, Tryd.ntmps56
  go_wp2
  go_ret
  exact ⟨ZZ0ab324, ZZ965307⟩
 rw [if_neg c4] at H
 have c4b0 : decide (a1 ≤ a0) = false := decide_eq_false c4
 clear c4
 obtain rfl := Option.some.inj H
 go_enter Tryd.func56, Tryd.ntmps56
 go_wp2
 go_ret
 exact ⟨ZZ0ab324, ZZ965307⟩
def impl_isAccountName.f (a0 : ByteArray) : Option (Bool) := (impl_within.f (a0.size : Int) 1 8).bind fun t286 => (if t286 = true then ((strings_Trim.f a0 (⟨#[97, 98, 99, 100, 101, 102, 103, 104, 105, 106, 107, 108, 109, 110, 111, 112, 113, 114, 115, 116, 117, 118, 119, 120, 121, 122]⟩ : ByteArray)).bind fun t287 => (some (t287.toList == ([] : List UInt8)))) else (some false))
set_option maxHeartbeats 8000000 in
set_option maxRecDepth 100000 in
theorem impl_isAccountName.calls (a0 : ByteArray) (r : Bool) (w : World) (h : impl_isAccountName.f a0 = some r) :
 Calls Tryd.prog 55 #[.string a0] w fun e w' => e = .returned (.bool r) ∧ Below w.heap.size w w' := by
 have HB := Aside0.mk (Below.refl w.heap.size w)
 have H := h
 clear h
 unfold impl_isAccountName.f at H
 obtain ⟨t286, A2, H⟩ := bdY H
 by_cases c3 : t286 = true
 ·subst c3
  replace H := ifT H
  obtain ⟨t287, A4, H⟩ := bdY H
  obtain rfl := Option.some.inj H
  go_enter Tryd.func55, Tryd.ntmps55
  go_wp2_with (first | (refine gc 5 Tryd.func56 #[.int .i64 (a0.size : Int), .int .i64 1, .int .i64 8] ?_; (with_reducible refine (impl_within.calls (a0.size : Int) 1 8 true _ A2.out).mono ?_); rintro e w' ⟨rfl, ⟨nd, rfl⟩⟩; refine ⟨_, rfl, ?_⟩) | (go_at_call 104; (with_reducible refine (strings_Trim.calls a0 (⟨#[97, 98, 99, 100, 101, 102, 103, 104, 105, 106, 107, 108, 109, 110, 111, 112, 113, 114, 115, 116, 117, 118, 119, 120, 121, 122]⟩ : ByteArray) t287 _ A4.out).mono ?_); rintro e w5 ⟨rfl, hb⟩; replace HB := hB hb; (try clear hb); (try clear hb2); (try clear hk); (try clear hi)))
  go_ret
  exact ⟨ZZab01d2, ZZ605003⟩
 replace c3 := Bool.eq_false_iff.mpr c3
 subst c3
 replace H := ifF H
 obtain rfl := Option.some.inj H
 go_enter Tryd.func55, Tryd.ntmps55
 go_wp2_with (first | (refine gc 5 Tryd.func56 #[.int .i64 (a0.size : Int), .int .i64 1, .int .i64 8] ?_; (with_reducible refine (impl_within.calls (a0.size : Int) 1 8 false _ A2.out).mono ?_); rintro e w' ⟨rfl, ⟨nd, rfl⟩⟩; refine ⟨_, rfl, ?_⟩))
 go_ret
 exact ⟨ZZab01d2, ZZ605003⟩
-- NOT PRINTED: function 105 (impl_Account_105)
-- NOT PRINTED: function 57 (impl_Account_57)
-- NOT PRINTED: function 58 (impl_IsValidLedger_1)
def impl_isDay.f (a0 : Int) : Option (Bool) := (impl_within.f a0 0 36524).bind fun t289 => (some t289)
set_option maxHeartbeats 8000000 in
set_option maxRecDepth 100000 in
theorem impl_isDay.calls (a0 : Int) (r : Bool) (w : World) (h : impl_isDay.f a0 = some r) :
 Calls Tryd.prog 59 #[.int .i64 a0] w fun e w' => e = .returned (.bool r) ∧ Drawn0 w w' := by
 have H := h
 clear h
 unfold impl_isDay.f at H
 obtain ⟨t289, A2, H⟩ := bdY H
 obtain rfl := Option.some.inj H
 go_enter Tryd.func59, Tryd.ntmps59
 go_wp2_with (first | (refine gc 4 Tryd.func56 #[.int .i64 a0, .int .i64 0, .int .i64 36524] ?_; (with_reducible refine (impl_within.calls a0 0 36524 t289 _ A2.out).mono ?_); rintro e w' ⟨rfl, ⟨nd, rfl⟩⟩; refine ⟨_, rfl, ?_⟩))
 go_ret
 exact ⟨ZZ0ab324, ZZ965307⟩
end Go.Proofs.YtccdjchaaeligaaDoor.XFnExactPostEntry

import Derived.Test.YtccdjchaaeligaaDoorXFnExactCloseAccounts9
import Derived.Test.YtccdjchaaeligaaDoorXFnExactCloseAccounts8
import Derived.Test.YtccdjchaaeligaaDoorXFnExactCloseAccounts5
import Derived.Test.YtccdjchaaeligaaDoorXFnExactCloseAccounts1
import Derived.Test.YtccdjchaaeligaaDoorXFnExactCloseAccounts0
import Derived.Test.YtccdjchaaeligaaDoorXFnExactCloseAccounts14
import Derived.Test.YtccdjchaaeligaaDoorXFnExactCloseAccounts15
import Derived.Test.YtccdjchaaeligaaDoorXFnExactCloseAccounts16
namespace Go.Proofs.YtccdjchaaeligaaDoor.XFnExactCloseAccounts
open Go.Proofs.YtccdjchaaeligaaDoor.Short Go.RowKit Go.Proofs.YtccdjchaaeligaaDoorW.PrintWords Go.Proofs.YtccdjchaaeligaaDoorW.PrintLast Go.Proofs.YtccdjchaaeligaaDoorW.PrintMore
attribute [local go_sem] max2_int min2_int max_two min_two max_three min_three max_four min_four
set_option linter.unusedVariables false
set_option linter.unusedSimpArgs false
theorem ZZ0762a2 {p : Prop} (h : p := by subst hw_; refine bd ?_; refine blk_far ?_ NB408_417.out _; refine bd ?_; refine blk_far ?_ NB408_417.out _; refine bd ?_; exact BK408.out) : p := h
theorem ZZ16c9cb {p : Prop} (h : p := by subst hw_; refine bd ?_; refine blk_far ?_ NB409_417.out _; refine bd ?_; refine blk_far ?_ NB409_417.out _; refine bd ?_; exact BK409.out) : p := h
theorem ZZ40ec43 {p : Prop} (h : p := by subst hw_; refine bd ?_; refine blk_far ?_ NB410_417.out _; refine bd ?_; refine blk_far ?_ NB410_417.out _; refine bd ?_; exact BK410.out) : p := h
def spec_l26Post.f (k : Nat) (l0_0 : List (S48)) (l0_1 : List (S63)) (a1_0 : Int) (a1_1 : ByteArray) (l1_2 : List (S70)) : Option ((List (S48)) × (List (S63)) × Bool) := (spec_l26Own.f k l0_0 l0_1).bind fun bt411 => ((spec_l26OwnEntry.f a1_0 a1_1 l1_2).bind fun bt418 => (if bt411.2.length < 2932031007402 then ((some (bt411.2 ++ [(⟨bt418.1, bt418.2.1, bt418.2.2⟩ : S63)] : List (S63))).bind fun y423 => ((spec_l26Good.f k l0_0 l0_1).bind fun t426 => (if t426 = true then ((spec_l26Good.f k bt411.1 y423).bind fun t427 => (if t427 = true then (some (bt411.1, y423, true)) else (some (([] : List (S48)), ([] : List (S63)), false)))) else (some (([] : List (S48)), ([] : List (S63)), false))))) else (none)))
theorem spec_l26Post.mono : ∀ a0 a1 a2 a3 a4 k, LeO (spec_l26Post.f k a0 a1 a2 a3 a4) (spec_l26Post.f (k + 1) a0 a1 a2 a3 a4) := by
 intro a0 a1 a2 a3 a4 k
 unfold spec_l26Post.f
 repeat' with_reducible first | apply spec_l26Good.mono | apply spec_l26Own.mono | exact LeO.refl _ | exact LeO.none _ | refine LeO.ite ?_ ?_ | refine LeO.bind ?_ (fun _ => ?_)
def spec_l26Post.T2 : Bool × List (List Nat × List Nat) := (true, [([], []), ([0], [0]), ([], []), ([2], [2]), ([3], [3]), ([1, 4, 3], [1, 4]), ([0, 1, 2, 3, 4, 5], []), ([6, 5, 5, 0, 1, 2, 3, 4, 5], [5, 6])])
def spec_l26Post.B2 : List Nat := [0, 1, 0, 4, 12, 31, 63, 127]
theorem spec_l26Post.tab2 : rtab .any (opsOf Tryd.f78 2) = spec_l26Post.T2 := by kernel_rfl
theorem spec_l26Post.bits2 : waitsOk spec_l26Post.T2.2 spec_l26Post.B2 = true := by kernel_rfl
set_option maxHeartbeats 8000000 in
set_option maxRecDepth 100000 in
theorem spec_l26Post.calls (k : Nat) (A0_0 : Option Addr) (c0_0 : Nat) (l0_0 : List (S48)) (A0_1 : Option Addr) (c0_1 : Nat) (l0_1 : List (S63)) (a1_0 : Int) (a1_1 : ByteArray) (A1_2 : Option Addr) (c1_2 : Nat) (l1_2 : List (S70)) (r1 : List (S48)) (r2 : List (S63)) (r3 : Bool) (w : World) (hr0_0 : Kd.C k48 w A0_0 l0_0.length l0_0) (hc0_0 : l0_0.length ≤ c0_0) (hr0_1 : Kd.C k63 w A0_1 l0_1.length l0_1) (hc0_1 : l0_1.length ≤ c0_1) (hr1_2 : Kd.C k70 w A1_2 l1_2.length l1_2) (hc1_2 : l1_2.length ≤ c1_2) (h : spec_l26Post.f k l0_0 l0_1 a1_0 a1_1 l1_2 = some (r1, r2, r3)) :
 Calls Tryd.prog 78 #[.agg #[.slice A0_0 l0_0.length c0_0, .slice A0_1 l0_1.length c0_1], .agg #[.int .i64 a1_0, .string a1_1, .slice A1_2 l1_2.length c1_2]] w fun e w' => ∃ v0_ v1_ : Value, e = .returned (.tuple #[.agg #[v0_, v1_], .bool r3]) ∧ Kd.R k48 48 w' w.heap.size (fun _ => True) v0_ r1 ∧ Kd.S k63 63 w' w.heap.size (fun _ => True) v1_ r2 ∧ Below w.heap.size w w' := by
 have hu31 := Tryd.underlying31
 have hu63 := Tryd.underlying63
 have HR0_0 := Aside0.mk hr0_0
 have HC0_0 := Aside0.mk hc0_0
 clear hr0_0 hc0_0
 have HR0_1 := Aside0.mk hr0_1
 have HC0_1 := Aside0.mk hc0_1
 clear hr0_1 hc0_1
 have HR1_2 := Aside0.mk hr1_2
 have HC1_2 := Aside0.mk hc1_2
 clear hr1_2 hc1_2
 have HB := Aside0.mk (Below.refl w.heap.size w)
 have H := h
 clear h
 unfold spec_l26Post.f at H
 obtain ⟨⟨t411, t414⟩, A3, H⟩ := bdY H
 try dsimp only at H
 obtain ⟨⟨t418, t419, t420⟩, A4, H⟩ := bdY H
 try dsimp only at H
 obtain ⟨c5, H⟩ := ifY H
 have LMc5 := Aside0.mk c5
 clear c5
 try rw [Option.bind_some] at H
 generalize hy423 : (t414 ++ [(⟨t418, t419, t420⟩ : S63)] : List (S63)) = y423 at H
 have Ny423 := Aside0.mk hy423.symm
 clear hy423
 obtain ⟨t426, A6, H⟩ := bdY H
 go_enter Tryd.func78, Tryd.ntmps78
 try go_wp2_with (first | ((with_reducible refine gate_dst (N := 2) rfl ?_); refine bx 2 (cs := #[.slice A0_0 l0_0.length c0_0, .slice A0_1 l0_1.length c0_1]) (t := 31) ?_; intro gb408 hg w10 hbox hb; have BK408 := Aside0.mk (hbox); have GW408 := gw hg; have GE408 := gw hg; replace HB := hB hb; clear hb hbox hg) | ((with_reducible refine gate_dst (N := 3) rfl ?_); refine bx 3 (cs := #[.int .i64 a1_0, .string a1_1, .slice A1_2 l1_2.length c1_2]) (t := 63) ?_; intro gb409 hg w11 hbox hb; have BK409 := Aside0.mk (hbox); have GW409 := gw hg; have GE409 := gw hg; replace HB := hB hb; have NB408_409 := nl hg BK408; have NB409_408 := ng hg BK408; replace BK408 := kb BK408 hb; clear hb hbox hg) | ((with_reducible refine gate_dst (N := 4) rfl ?_); refine bx 4 (cs := #[.slice none 0 0, .slice none 0 0]) (t := 31) ?_; intro gb410 hg w12 hbox hb; have BK410 := Aside0.mk (hbox); have GW410 := gw hg; have GE410 := gw hg; replace HB := hB hb; have NB408_410 := nl hg BK408; have NB410_408 := ng hg BK408; replace BK408 := kb BK408 hb; have NB409_410 := nl hg BK409; have NB410_409 := ng hg BK409; replace BK409 := kb BK409 hb; clear hb hbox hg; have hnb13 := NB408_409.out; have hnc13 := NB409_408.out; have hnb14 := NB408_410.out; have hnc14 := NB410_408.out; obtain ⟨hcz15_0, hcz15_1, hfz15_0, hfz15_1⟩ := z2 BK408) | (refine gc 8 Tryd.func77 #[.agg #[.slice A0_0 l0_0.length c0_0, .slice A0_1 l0_1.length c0_1]] ?_; (with_reducible refine (spec_l26Own.calls k _ _ l0_0 _ _ l0_1 t411 t414 _ ?side1 ?side2 ?side3 ?side4 A3.out).mono ?_); (case side1 => exact (rC (Kd.C_below HR0_0.out HB.out))); (case side2 => exact HC0_0.out); (case side3 => exact (rC (Kd.C_below HR0_1.out HB.out))); (case side4 => exact HC0_1.out); rintro e w16 ⟨v412, v415, rfl, ho0, ho1, hb⟩; refine ⟨_, rfl, ?_⟩; have HO413 := Aside0.mk (Kd.R_lower ho0 (below_size ZZ295621)); have HO416 := Aside0.mk (Kd.S_lower (Kd.S_newB ho1 (zB BK409)) (below_size ZZ295621)); replace BK408 := kb BK408 hb; replace BK409 := kb BK409 hb; replace BK410 := kb BK410 hb; replace HB := hB hb; (try clear hb); (try clear hb2); (try clear hk); (try clear hi); (try clear ho0); (try clear ho1)) | ((with_reducible refine gate_dst (N := 6) rfl ?_); refine bx 6 (cs := #[.slice none 0 0, .slice none 0 0]) (t := 31) ?_; intro gb417 hg w17 hbox hb; replace HO413 := Aside0.mk (Kd.R_below (zR HO413) hb); replace HO416 := Aside0.mk (Kd.S_below (zS HO416) hb); have BK417 := Aside0.mk (hbox); have GW417 := gw hg; have GE417 := gw hg; replace HB := hB hb; have NB408_417 := nl hg BK408; have NB417_408 := ng hg BK408; replace BK408 := kb BK408 hb; have NB409_417 := nl hg BK409; have NB417_409 := ng hg BK409; replace BK409 := kb BK409 hb; have NB410_417 := nl hg BK410; have NB417_410 := ng hg BK410; replace BK410 := kb BK410 hb; clear hb hbox hg; obtain ⟨Ao18, co18, eo18⟩ := Kd.R_slice HO413.out; subst eo18; have hnb19 := NB417_408.out; have hnc19 := NB408_417.out; have hnb20 := NB417_409.out; have hnc20 := NB409_417.out; have hnb21 := NB417_410.out; have hnc21 := NB410_417.out; obtain ⟨hcz22_0, hcz22_1, hfz22_0, hfz22_1⟩ := z2 BK417; obtain ⟨Ao23, co23, eo23⟩ := Kd.S_slice HO416.out; subst eo23))
 generalize hw_ : ((w17.setCell ⟨gb417, 0, none⟩ (.slice Ao18 t411.length co18)).setCell ⟨gb417, 1, none⟩ (.slice Ao23 t414.length co23)) = w24
 replace HO413 : Aside0 (Kd.R k48 48 w24 w.heap.size (fun _ => True) (.slice Ao18 t411.length co18) t411) := ⟨(by subst hw_; refine bR ?_; exact Kd.R_mono (Kd.R_far (p := ⟨gb417, 1, none⟩) (Kd.R_far (p := ⟨gb417, 0, none⟩) (Kd.R_types HO413.out BK417.out (by decide)) (fun _ hk => hk.2) (.slice Ao18 t411.length co18)) (fun _ hk => hk.2) (.slice Ao23 t414.length co23)) (fun _ hk => trivial))⟩
 replace HO416 : Aside0 (Kd.S k63 63 w24 w.heap.size (fun k_ => k_ ≠ gb409) (.slice Ao23 t414.length co23) t414) := ⟨(by subst hw_; refine bS ?_; exact Kd.S_mono (Kd.S_far (p := ⟨gb417, 1, none⟩) (Kd.S_far (p := ⟨gb417, 0, none⟩) (Kd.S_types HO416.out BK417.out (by decide)) (fun _ hk => hk.2) (.slice Ao18 t411.length co18)) (fun _ hk => hk.2) (.slice Ao23 t414.length co23)) (fun _ hk => hk.1.2))⟩
 replace BK408 : Aside0 (w24.heap[gb408]? = some (.cells #[.slice A0_0 l0_0.length c0_0, .slice A0_1 l0_1.length c0_1] 31 (0, 0))) := ⟨ZZ0762a2⟩
 replace BK409 : Aside0 (w24.heap[gb409]? = some (.cells #[.int .i64 a1_0, .string a1_1, .slice A1_2 l1_2.length c1_2] 63 (0, 0))) := ⟨ZZ16c9cb⟩
 replace BK410 : Aside0 (w24.heap[gb410]? = some (.cells #[.slice none 0 0, .slice none 0 0] 31 (0, 0))) := ⟨ZZ40ec43⟩
 replace BK417 : Aside0 (w24.heap[gb417]? = some (.cells #[.slice Ao18 t411.length co18, .slice Ao23 t414.length co23] 31 (0, 0))) := ⟨(by subst hw_; refine bd ?_; refine blk_put (cs := #[.slice Ao18 t411.length co18, .slice none 0 0]) ?_ 1 _ rfl; refine bd ?_; refine blk_put (cs := #[.slice none 0 0, .slice none 0 0]) ?_ 0 _ rfl; refine bd ?_; exact BK417.out)⟩
 replace HB : Aside0 (Below w.heap.size w w24) := ⟨ZZ0d0602⟩
 clear hw_
 replace HO413 := Aside0.mk (Kd.R_drew HO413.out)
 replace HO416 := Aside0.mk (Kd.S_drew HO416.out)
 replace BK408 := Aside0.mk (blk_drew BK408.out)
 replace BK409 := Aside0.mk (blk_drew BK409.out)
 replace BK410 := Aside0.mk (blk_drew BK410.out)
 replace BK417 := Aside0.mk (blk_drew BK417.out)
 replace HB := Aside0.mk (below_drew1 HB.out)
 refine start_ (n := 8) (S := fun w' => w'.cell? ⟨gb417, 0, none⟩ = some (.slice Ao18 t411.length co18) ∧ w'.cell? ⟨gb417, 1, none⟩ = some (.slice Ao23 t414.length co23) ∧ w'.cell? ⟨gb409, 0, none⟩ = some (.int .i64 a1_0) ∧ w'.cell? ⟨gb409, 1, none⟩ = some (.string a1_1) ∧ w'.cell? ⟨gb409, 2, none⟩ = some (.slice A1_2 l1_2.length c1_2)) (ds := [7]) #[false, false, false, false, false, false, false, false] (by kernel_rfl) rfl rfl ⟨(blk_cell BK417.out 0).trans rfl, (blk_cell BK417.out 1).trans rfl, (blk_cell BK409.out 0).trans rfl, (blk_cell BK409.out 1).trans rfl, (blk_cell BK409.out 2).trans rfl⟩ (fun hHeld => ?_); refine with_tabW spec_l26Post.tab2 spec_l26Post.bits2 (fun HT_ HW_ => ?_)
 generalize w24.drew = w25 at HO413 HO416 BK408 BK409 BK410 BK417 HB hHeld ⊢
 refine pu 0 9 ?_
 refine tk 1 10 ?_
 refine tk 2 11 ?_
 refine on 3 (some 12) (fun K hK => ?_)
 refine goes_ Tryd.func111 (by kernel_rfl) rfl #[.agg #[.int .i64 a1_0, .string a1_1, .slice A1_2 l1_2.length c1_2]] (by rfl) rfl rfl ZZ19826e ?_
 with_reducible refine (spec_l26OwnEntry.calls a1_0 a1_1 _ _ l1_2 t418 t419 t420 _ ?side1 ?side2 A4.out).mono ?_
 (case side1 => exact (rC (Kd.C_below HR1_2.out HB.out)))
 (case side2 => exact HC1_2.out)
 rintro e w26 ⟨v421, rfl, ho0, hb⟩
 refine ⟨_, rfl, ?_⟩
 replace HO413 := Aside0.mk (Kd.R_below (zR HO413) hb)
 replace HO416 := Aside0.mk (Kd.S_elder' (zS HO416) (Kd.R_base ho0) hb)
 have HO422 := Aside0.mk (Kd.R_lower ho0 (below_size ZZ295621))
 replace BK408 := kb BK408 hb
 replace BK409 := kb BK409 hb
 replace BK410 := kb BK410 hb
 replace BK417 := kb BK417 hb
 replace HB := hB hb
 (try clear hb)
 (try clear hb2)
 (try clear hk)
 (try clear hi)
 (try clear ho0)
 obtain ⟨Ao28, co28, eo28⟩ := Kd.R_slice HO422.out
 (first | subst eo28 | (injection eo28 with f1_ f2_ f3_; have f4_ := f1_.symm; have f5_ := f3_.symm; clear f1_ f2_ f3_; subst f4_; subst f5_))
 refine hK.out _ _ zK (fun hHeld => ?_)
 clear hK K
 refine nd (some 12) ?_
 refine on 4 (some 13) (fun K hK => ?_)
 refine value_ (w1 := ?_) (v := ?_) (by rfl) rfl ?_ ?_
 rotate_left 2
 ·go_simp
  constructor
  ·rfl
  rfl
 refine hK.out _ _ ⟨(blk_cell (blk_alloc BK417.out _) 0).trans rfl, (blk_cell (blk_alloc BK417.out _) 1).trans rfl, (blk_cell (blk_alloc BK409.out _) 0).trans rfl, (blk_cell (blk_alloc BK409.out _) 1).trans rfl, (blk_cell (blk_alloc BK409.out _) 2).trans rfl⟩ (fun hHeld => ?_)
 clear hK K
 refine nd (some 13) ?_
 refine on 5 (some 14) (fun K hK => ?_)
 refine Kd.S_append_step k63 (w0 := w) w.heap.size (by rfl) (.tmp 10) (.tmp 13) 29 63 (.agg #[(.int .i64 0), (.string ⟨#[]⟩), (.slice none 0 0)]) 48 rfl Tryd.underlying29 info63 rfl (by decide) (by omega) (.slice Ao23 t414.length co23) t414 (⟨t418, t419, t420⟩ : S63) [.int .i64 t418, .string t419, .slice Ao28 t420.length co28] (fun k_ => k_ ≠ gb409) (fun k_ => some k_ = (.slice Ao28 t420.length co28 : Value).ownBlock) rfl rfl ?aP (fun k_ hk_ => ((Kd.R_mono (ok' := fun k_ => ((fun k_ => k_ ≠ gb409)) k_ ∧ some k_ ≠ (.slice Ao23 t414.length co23 : Value).ownBlock) (Kd.R_types (Kd.R_apart' (HO422.out) (Kd.S_typed HO416.out) (by decide)) BK409.out (by decide)) (fun k_ hk => ⟨hk.2, hk.1.2⟩))).1 k_ hk_.symm) ?aF ?aO ?aB ?aS ?aL ?_
 (case aP => exact k63_mkM _ _ _ (⟨t418, t419, t420⟩ : S63) (Kd.R_mono (Kd.R_tight rfl (Kd.R_mono (ok' := fun k_ => ((fun k_ => k_ ≠ gb409)) k_ ∧ some k_ ≠ (.slice Ao23 t414.length co23 : Value).ownBlock) (Kd.R_types (Kd.R_apart' (HO422.out) (Kd.S_typed HO416.out) (by decide)) BK409.out (by decide)) (fun k_ hk => ⟨hk.2, hk.1.2⟩))) (fun _ h_ => h_)))
 (case aB => exact ZZ295621)
 (case aF => exact (fun k_ hk => Kd.freshB (zB BK409) k_ hk))
 (case aO => exact (by refine bS ?_; exact Kd.S_mono HO416.out (fun k_ hk => ⟨hk.1, fun e_ => hk.2 e_⟩)))
 (case aS => exact (below_size ZZ295621))
 (case aL => have := LMc5.out; omega)
 intro v424 w27 ho hb hg hat
 rw [← Ny423.out] at ho
 replace BK408 := Aside0.mk (blk_grown (zB BK408) hg (Kd.S_ne HO416.out BK408.out (by decide)))
 replace BK409 := Aside0.mk (blk_grown (zB BK409) hg (Kd.S_away HO416.out (fun _ hk => hk.1)))
 replace BK410 := Aside0.mk (blk_grown (zB BK410) hg (Kd.S_ne HO416.out BK410.out (by decide)))
 replace HO413 := Aside0.mk (Kd.R_over' (zR HO413) (Kd.S_typed (zS HO416)) (by decide) hg)
 replace BK417 := Aside0.mk (blk_grown (zB BK417) hg (Kd.S_ne HO416.out BK417.out (by decide)))
 replace HB := Aside0.mk (hb)
 have HO425 := Aside0.mk (ho)
 clear HO416
 clear HO422
 clear ho hb hg hat
 obtain ⟨Ao29, co29, eo29⟩ := Kd.S_slice HO425.out
 (first | subst eo29 | (injection eo29 with f1_ f2_ f3_; have f4_ := f1_.symm; have f5_ := f3_.symm; clear f1_ f2_ f3_; subst f4_; subst f5_))
 refine hK.out _ _ zK (fun hHeld => ?_)
 clear hK K
 refine nd (some 14) ?_
 refine pu 6 15 ?_
 refine last_ (i := 7) (N := none) #[true, true, true, true, true, true, true, true] rfl rfl (one_of HT_.out (by kernel_rfl)) (by decide) (fun K hK => ?_)
 have hs30 := cz BK417 1
 have hfs30 := blk_frozen BK417.out 1
 have hns30_0 := NB408_417.out
 have hns30_1 := NB409_417.out
 have hns30_2 := NB410_417.out
 have hms30_0 := NB417_408.out
 have hms30_1 := NB417_409.out
 have hms30_2 := NB417_410.out
 refine skip_ (w1 := ?_) (by rfl) rfl ?_ ?_
 rotate_left
 ·go_simp
  rfl
 refine hK.out _ _ ?_
 clear hK K
 refine done_ (done_of HT_.out (by kernel_rfl)) ?_
 obtain ⟨hcz31_0, hcz31_1, hfz31_0, hfz31_1⟩ := z2 BK408
 by_cases c7 : t426 = true
 ·subst c7
  replace H := ifT H
  obtain ⟨t427, A8, H⟩ := bdY H
  by_cases c9 : t427 = true
  ·subst c9
   replace H := ifT H
   simp only [Option.some.injEq, Prod.mk.injEq] at H
   obtain ⟨rfl, rfl, rfl⟩ := H
   try go_wp2_with (first | (refine gc 17 Tryd.func52 #[.agg #[.slice A0_0 l0_0.length c0_0, .slice A0_1 l0_1.length c0_1]] ?_; (with_reducible refine (spec_l26Good.calls k _ _ l0_0 _ _ l0_1 true _ ?side1 ?side2 ?side3 ?side4 A6.out).mono ?_); (case side1 => exact Kd.C_below HR0_0.out ZZ295621); (case side2 => exact HC0_0.out); (case side3 => exact Kd.C_below HR0_1.out ZZ295621); (case side4 => exact HC0_1.out); rintro e w32 ⟨rfl, hb⟩; refine ⟨_, rfl, ?_⟩; replace HO413 := Aside0.mk (Kd.R_below (by refine bR ?_; exact (Kd.R_mono (Kd.R_far (p := ⟨gb417, 1, none⟩) (Kd.R_types HO413.out BK417.out (by decide)) (fun _ hk => hk.2) (.slice Ao29 y423.length co29)) (fun _ h_ => h_.1))) hb); replace HO425 := Aside0.mk (Kd.S_below (by refine bS ?_; exact (Kd.S_mono (Kd.S_far (p := ⟨gb417, 1, none⟩) (Kd.S_types HO425.out BK417.out (by decide)) (fun _ hk => hk.2) (.slice Ao29 y423.length co29)) (fun _ h_ => h_.1))) hb); replace BK408 := Aside0.mk (blk_below (g := gb408) (o := .cells #[.slice A0_0 l0_0.length c0_0, .slice A0_1 l0_1.length c0_1] 31 (0, 0)) (by refine bd ?_; refine blk_far ?_ NB408_417.out _; refine bd ?_; exact BK408.out) hb); replace BK409 := Aside0.mk (blk_below (g := gb409) (o := .cells #[.int .i64 a1_0, .string a1_1, .slice A1_2 l1_2.length c1_2] 63 (0, 0)) (by refine bd ?_; refine blk_far ?_ NB409_417.out _; refine bd ?_; exact BK409.out) hb); replace BK410 := Aside0.mk (blk_below (g := gb410) (o := .cells #[.slice none 0 0, .slice none 0 0] 31 (0, 0)) (by refine bd ?_; refine blk_far ?_ NB410_417.out _; refine bd ?_; exact BK410.out) hb); replace BK417 := Aside0.mk (blk_below (g := gb417) (o := .cells #[.slice Ao18 t411.length co18, .slice Ao29 y423.length co29] 31 (0, 0)) (by refine bd ?_; refine blk_put (cs := #[.slice Ao18 t411.length co18, .slice Ao23 t414.length co23]) ?_ 1 _ rfl; refine bd ?_; exact BK417.out) hb); replace HB := hB hb; (try clear hb); (try clear hb2); (try clear hk); (try clear hi); obtain ⟨hcz33_0, hcz33_1, hfz33_0, hfz33_1⟩ := z2 BK417) | (go_at_call 52; (with_reducible refine (spec_l26Good.calls k _ _ t411 _ _ y423 true _ ?side1 ?side2 ?side3 ?side4 A8.out).mono ?_); (case side1 => exact rC (Kd.R_reads' HO413.out).2.2); (case side2 => exact (Kd.R_reads' HO413.out).2.1); (case side3 => exact rC (Kd.S_reads' HO425.out).2.2); (case side4 => exact (Kd.S_reads' HO425.out).2.1); rintro e w34 ⟨rfl, hb⟩; replace HO413 := Aside0.mk (Kd.R_below (zR HO413) hb); replace HO425 := Aside0.mk (Kd.S_below (zS HO425) hb); replace BK408 := kb BK408 hb; replace BK409 := kb BK409 hb; replace BK410 := kb BK410 hb; replace BK417 := kb BK417 hb; replace HB := hB hb; (try clear hb); (try clear hb2); (try clear hk); (try clear hi); obtain ⟨hcz35_0, hcz35_1, hfz35_0, hfz35_1⟩ := z2 BK417; have hnb36 := NB410_409.out; have hnc36 := NB409_410.out; obtain ⟨hcz37_0, hcz37_1, hfz37_0, hfz37_1⟩ := z2 BK410))
   refine bodyPost_ret (results_ct rfl _ _ gb410 31 #[.slice Ao18 t411.length co18, .slice Ao29 y423.length co29] (0, 0) _ rfl (by refine bd ?_; refine blk_put (cs := #[.slice Ao18 t411.length co18, .slice none 0 0]) ?_ 1 _ rfl; refine bd ?_; refine blk_put (cs := #[.slice none 0 0, .slice none 0 0]) ?_ 0 _ rfl; refine bd ?_; exact BK410.out) Tryd.underlying31 rfl (by kernel_rfl)) rfl ?_
   exact ⟨_, _, ZZab01d2, (by refine bR ?_; exact Kd.R_mono (Kd.R_far (p := ⟨gb410, 1, none⟩) (Kd.R_far (p := ⟨gb410, 0, none⟩) (Kd.R_types HO413.out BK410.out (by decide)) (fun _ hk => hk.2) (.slice Ao18 t411.length co18)) (fun _ hk => hk.2) (.slice Ao29 y423.length co29)) (fun _ hk => trivial)), (by refine bS ?_; exact Kd.S_mono (Kd.S_far (p := ⟨gb410, 1, none⟩) (Kd.S_far (p := ⟨gb410, 0, none⟩) (Kd.S_types HO425.out BK410.out (by decide)) (fun _ hk => hk.2) (.slice Ao18 t411.length co18)) (fun _ hk => hk.2) (.slice Ao29 y423.length co29)) (fun _ hk => trivial)), ZZ295621⟩
  replace c9 := Bool.eq_false_iff.mpr c9
  subst c9
  replace H := ifF H
  simp only [Option.some.injEq, Prod.mk.injEq] at H
  obtain ⟨rfl, rfl, rfl⟩ := H
  try go_wp2_with (first | (refine gc 17 Tryd.func52 #[.agg #[.slice A0_0 l0_0.length c0_0, .slice A0_1 l0_1.length c0_1]] ?_; (with_reducible refine (spec_l26Good.calls k _ _ l0_0 _ _ l0_1 true _ ?side1 ?side2 ?side3 ?side4 A6.out).mono ?_); (case side1 => exact Kd.C_below HR0_0.out ZZ295621); (case side2 => exact HC0_0.out); (case side3 => exact Kd.C_below HR0_1.out ZZ295621); (case side4 => exact HC0_1.out); rintro e w60 ⟨rfl, hb⟩; refine ⟨_, rfl, ?_⟩; replace HO413 := Aside0.mk (Kd.R_below (by refine bR ?_; exact (Kd.R_mono (Kd.R_far (p := ⟨gb417, 1, none⟩) (Kd.R_types HO413.out BK417.out (by decide)) (fun _ hk => hk.2) (.slice Ao29 y423.length co29)) (fun _ h_ => h_.1))) hb); replace HO425 := Aside0.mk (Kd.S_below (by refine bS ?_; exact (Kd.S_mono (Kd.S_far (p := ⟨gb417, 1, none⟩) (Kd.S_types HO425.out BK417.out (by decide)) (fun _ hk => hk.2) (.slice Ao29 y423.length co29)) (fun _ h_ => h_.1))) hb); replace BK408 := Aside0.mk (blk_below (g := gb408) (o := .cells #[.slice A0_0 l0_0.length c0_0, .slice A0_1 l0_1.length c0_1] 31 (0, 0)) (by refine bd ?_; refine blk_far ?_ NB408_417.out _; refine bd ?_; exact BK408.out) hb); replace BK409 := Aside0.mk (blk_below (g := gb409) (o := .cells #[.int .i64 a1_0, .string a1_1, .slice A1_2 l1_2.length c1_2] 63 (0, 0)) (by refine bd ?_; refine blk_far ?_ NB409_417.out _; refine bd ?_; exact BK409.out) hb); replace BK410 := Aside0.mk (blk_below (g := gb410) (o := .cells #[.slice none 0 0, .slice none 0 0] 31 (0, 0)) (by refine bd ?_; refine blk_far ?_ NB410_417.out _; refine bd ?_; exact BK410.out) hb); replace BK417 := Aside0.mk (blk_below (g := gb417) (o := .cells #[.slice Ao18 t411.length co18, .slice Ao29 y423.length co29] 31 (0, 0)) (by refine bd ?_; refine blk_put (cs := #[.slice Ao18 t411.length co18, .slice Ao23 t414.length co23]) ?_ 1 _ rfl; refine bd ?_; exact BK417.out) hb); replace HB := hB hb; (try clear hb); (try clear hb2); (try clear hk); (try clear hi); obtain ⟨hcz61_0, hcz61_1, hfz61_0, hfz61_1⟩ := z2 BK417) | (go_at_call 52; (with_reducible refine (spec_l26Good.calls k _ _ t411 _ _ y423 false _ ?side1 ?side2 ?side3 ?side4 A8.out).mono ?_); (case side1 => exact rC (Kd.R_reads' HO413.out).2.2); (case side2 => exact (Kd.R_reads' HO413.out).2.1); (case side3 => exact rC (Kd.S_reads' HO425.out).2.2); (case side4 => exact (Kd.S_reads' HO425.out).2.1); rintro e w62 ⟨rfl, hb⟩; replace HO413 := Aside0.mk (Kd.R_below (zR HO413) hb); replace HO425 := Aside0.mk (Kd.S_below (zS HO425) hb); replace BK408 := kb BK408 hb; replace BK409 := kb BK409 hb; replace BK410 := kb BK410 hb; replace BK417 := kb BK417 hb; replace HB := hB hb; (try clear hb); (try clear hb2); (try clear hk); (try clear hi); have hnb63 := NB410_409.out; have hnc63 := NB409_410.out; obtain ⟨hcz64_0, hcz64_1, hfz64_0, hfz64_1⟩ := z2 BK410))
  refine bodyPost_ret (results_ct rfl _ _ gb410 31 #[.slice none 0 0, .slice none 0 0] (0, 0) _ rfl (by refine bd ?_; refine blk_put (cs := #[.slice none 0 0, .slice none 0 0]) ?_ 1 _ rfl; refine bd ?_; refine blk_put (cs := #[.slice none 0 0, .slice none 0 0]) ?_ 0 _ rfl; refine bd ?_; exact BK410.out) Tryd.underlying31 rfl (by kernel_rfl)) rfl ?_
  exact ⟨_, _, ZZab01d2, ZZf4214b, ZZc4c4be, ZZ295621⟩
 replace c7 := Bool.eq_false_iff.mpr c7
 subst c7
 replace H := ifF H
 simp only [Option.some.injEq, Prod.mk.injEq] at H
 obtain ⟨rfl, rfl, rfl⟩ := H
 try go_wp2_with (first | (refine gc 17 Tryd.func52 #[.agg #[.slice A0_0 l0_0.length c0_0, .slice A0_1 l0_1.length c0_1]] ?_; (with_reducible refine (spec_l26Good.calls k _ _ l0_0 _ _ l0_1 false _ ?side1 ?side2 ?side3 ?side4 A6.out).mono ?_); (case side1 => exact Kd.C_below HR0_0.out ZZ295621); (case side2 => exact HC0_0.out); (case side3 => exact Kd.C_below HR0_1.out ZZ295621); (case side4 => exact HC0_1.out); rintro e w87 ⟨rfl, hb⟩; refine ⟨_, rfl, ?_⟩; replace HO413 := Aside0.mk (Kd.R_below (by refine bR ?_; exact (Kd.R_mono (Kd.R_far (p := ⟨gb417, 1, none⟩) (Kd.R_types HO413.out BK417.out (by decide)) (fun _ hk => hk.2) (.slice Ao29 y423.length co29)) (fun _ h_ => h_.1))) hb); replace HO425 := Aside0.mk (Kd.S_below (by refine bS ?_; exact (Kd.S_mono (Kd.S_far (p := ⟨gb417, 1, none⟩) (Kd.S_types HO425.out BK417.out (by decide)) (fun _ hk => hk.2) (.slice Ao29 y423.length co29)) (fun _ h_ => h_.1))) hb); replace BK408 := Aside0.mk (blk_below (g := gb408) (o := .cells #[.slice A0_0 l0_0.length c0_0, .slice A0_1 l0_1.length c0_1] 31 (0, 0)) (by refine bd ?_; refine blk_far ?_ NB408_417.out _; refine bd ?_; exact BK408.out) hb); replace BK409 := Aside0.mk (blk_below (g := gb409) (o := .cells #[.int .i64 a1_0, .string a1_1, .slice A1_2 l1_2.length c1_2] 63 (0, 0)) (by refine bd ?_; refine blk_far ?_ NB409_417.out _; refine bd ?_; exact BK409.out) hb); replace BK410 := Aside0.mk (blk_below (g := gb410) (o := .cells #[.slice none 0 0, .slice none 0 0] 31 (0, 0)) (by refine bd ?_; refine blk_far ?_ NB410_417.out _; refine bd ?_; exact BK410.out) hb); replace BK417 := Aside0.mk (blk_below (g := gb417) (o := .cells #[.slice Ao18 t411.length co18, .slice Ao29 y423.length co29] 31 (0, 0)) (by refine bd ?_; refine blk_put (cs := #[.slice Ao18 t411.length co18, .slice Ao23 t414.length co23]) ?_ 1 _ rfl; refine bd ?_; exact BK417.out) hb); replace HB := hB hb; (try clear hb); (try clear hb2); (try clear hk); (try clear hi); have hnb88 := NB410_409.out; have hnc88 := NB409_410.out; obtain ⟨hcz89_0, hcz89_1, hfz89_0, hfz89_1⟩ := z2 BK410))
 refine bodyPost_ret (results_ct rfl _ _ gb410 31 #[.slice none 0 0, .slice none 0 0] (0, 0) _ rfl (by refine bd ?_; refine blk_put (cs := #[.slice none 0 0, .slice none 0 0]) ?_ 1 _ rfl; refine bd ?_; refine blk_put (cs := #[.slice none 0 0, .slice none 0 0]) ?_ 0 _ rfl; refine bd ?_; exact BK410.out) Tryd.underlying31 rfl (by kernel_rfl)) rfl ?_
 exact ⟨_, _, ZZab01d2, ZZf4214b, ZZc4c4be, ZZ295621⟩
end Go.Proofs.YtccdjchaaeligaaDoor.XFnExactCloseAccounts

import Derived.Test.YtccdjchaaeligaaDoorXFnExactPostEntry1
import Derived.Test.YtccdjchaaeligaaDoorXFnExactPostEntry0
namespace Go.Proofs.YtccdjchaaeligaaDoor.XFnExactPostEntry
open Go.Proofs.YtccdjchaaeligaaDoor.Short Go.RowKit Go.Proofs.YtccdjchaaeligaaDoorW.PrintWords Go.Proofs.YtccdjchaaeligaaDoorW.PrintLast Go.Proofs.YtccdjchaaeligaaDoorW.PrintMore
attribute [local go_sem] max2_int min2_int max_two min_two max_three min_three max_four min_four
set_option linter.unusedVariables false
set_option linter.unusedSimpArgs false
theorem ZZ19826e {p : Prop} (h : p := by (try simp only [List.map_toArray, List.map_cons, List.map_nil]); first | done | rfl | (simp only [List.length_drop, List.length_take]; rfl)) : p := h
def spec_l26OwnEntry.f (a0_0 : Int) (a0_1 : ByteArray) (l0_2 : List (S70)) : Option (Int × ByteArray × (List (S70))) := (some (([] : List (S70)) : List (S70))).bind fun y229 => (if y229.length + l0_2.length < 8796093022208 then (some (a0_0, a0_1, (y229 ++ l0_2))) else (none))
def spec_l26OwnEntry.T1 : Bool × List (List Nat × List Nat) := (true, [([], []), ([0], [0]), ([], []), ([2], [2]), ([], []), ([], []), ([5], [5]), ([4, 6], [4, 6]), ([1, 3, 7], [1, 3, 7]), ([8, 7, 0, 1, 2, 3, 4, 5, 6, 7, 8], [8])])
def spec_l26OwnEntry.B1 : List Nat := [0, 1, 0, 4, 0, 0, 32, 112, 255, 511]
theorem spec_l26OwnEntry.tab1 : rtab .any (opsOf Tryd.f111 1) = spec_l26OwnEntry.T1 := by kernel_rfl
theorem spec_l26OwnEntry.bits1 : waitsOk spec_l26OwnEntry.T1.2 spec_l26OwnEntry.B1 = true := by kernel_rfl
set_option maxHeartbeats 8000000 in
set_option maxRecDepth 100000 in
theorem spec_l26OwnEntry.calls (a0_0 : Int) (a0_1 : ByteArray) (A0_2 : Option Addr) (c0_2 : Nat) (l0_2 : List (S70)) (r1 : Int) (r2 : ByteArray) (r3 : List (S70)) (w : World) (hr0_2 : Kd.C k70 w A0_2 l0_2.length l0_2) (hc0_2 : l0_2.length ≤ c0_2) (h : spec_l26OwnEntry.f a0_0 a0_1 l0_2 = some (r1, r2, r3)) :
 Calls Tryd.prog 111 #[.agg #[.int .i64 a0_0, .string a0_1, .slice A0_2 l0_2.length c0_2]] w fun e w' => ∃ v2_ : Value, e = .returned (.agg #[.int .i64 r1, .string r2, v2_]) ∧ Kd.R k70 70 w' w.heap.size (fun _ => True) v2_ r3 ∧ Below w.heap.size w w' := by
 have hu63 := Tryd.underlying63
 have HR0_2 := Aside0.mk hr0_2
 have HC0_2 := Aside0.mk hc0_2
 clear hr0_2 hc0_2
 have HB := Aside0.mk (Below.refl w.heap.size w)
 have H := h
 clear h
 unfold spec_l26OwnEntry.f at H
 try rw [Option.bind_some] at H
 generalize hy229 : (([] : List (S70)) : List (S70)) = y229 at H
 have Ny229 := Aside0.mk hy229.symm
 clear hy229
 obtain ⟨c2, H⟩ := ifY H
 have LMc2 := Aside0.mk c2
 clear c2
 try rw [Option.bind_some] at H
 generalize hy232 : (y229 ++ l0_2 : List (S70)) = y232 at H
 have Ny232 := Aside0.mk hy232.symm
 clear hy232
 simp only [Option.some.injEq, Prod.mk.injEq] at H
 obtain ⟨rfl, rfl, rfl⟩ := H
 go_enter Tryd.func111, Tryd.ntmps111
 try go_wp2_with (first | ((with_reducible refine gate_dst (N := 1) rfl ?_); refine bx 1 (cs := #[.int .i64 a0_0, .string a0_1, .slice A0_2 l0_2.length c0_2]) (t := 63) ?_; intro gb227 hg w3 hbox hb; have BK227 := Aside0.mk (hbox); have GW227 := gw hg; have GE227 := gw hg; replace HB := hB hb; clear hb hbox hg) | ((with_reducible refine gate_dst (N := 2) rfl ?_); refine bx 2 (cs := #[.int .i64 0, .string (⟨#[]⟩ : ByteArray), .slice none 0 0]) (t := 63) ?_; intro gb228 hg w4 hbox hb; have BK228 := Aside0.mk (hbox); have GW228 := gw hg; have GE228 := gw hg; replace HB := hB hb; have NB227_228 := nl hg BK227; have NB228_227 := ng hg BK227; replace BK227 := kb BK227 hb; clear hb hbox hg))
 replace BK227 := Aside0.mk (blk_drew BK227.out)
 replace BK228 := Aside0.mk (blk_drew BK228.out)
 replace HB := Aside0.mk (below_drew1 HB.out)
 refine st 10 (S := fun w' => w'.cell? ⟨gb227, 0, none⟩ = some (.int .i64 a0_0) ∧ w'.cell? ⟨gb227, 1, none⟩ = some (.string a0_1) ∧ w'.cell? ⟨gb227, 2, none⟩ = some (.slice A0_2 l0_2.length c0_2)) spec_l26OwnEntry.tab1 spec_l26OwnEntry.bits1 zK (fun hHeld HT_ HW_ => ?_)
 generalize w4.drew = w5 at BK227 BK228 HB hHeld ⊢
 refine pu 0 3 ?_
 refine pu 2 5 ?_
 refine pu 5 8 ?_
 refine tk 1 4 ?_
 refine tk 3 6 ?_
 refine tk 6 9 ?_
 refine on 4 (some 7) (fun K hK => ?_)
 refine Kd.R_lit_step k70 _ 70 ?hg (N := 7) ?hd (xs := ([] : List (S70))) (inner := []) (ok := fun _ => True) (okp := fun _ => True) ?hr ?hp (fun _ hk => hk) trivial (Below.refl _ _) (Nat.le_refl _) (by simp) ?_; (case hd => rfl); (case hg => rfl); (case hr => first | (go_simp; done) | (go_simp; rfl)); (case hp => exact (Reps.none _ _))
 intro v230 w6 ho7 hb hg_ hnew_
 clear hg_ hnew_
 (first | rw [← Ny229.out] at ho7 | (simp only [Int.reduceToNat] at ho7; rw [← Ny229.out] at ho7))
 have HO231 := Aside0.mk (Kd.R_lower ho7 (below_size ZZ295621))
 replace BK227 := kb BK227 hb
 replace BK228 := kb BK228 hb
 replace HB := hB hb
 clear hb ho7
 refine hK.out _ _ zK (fun hHeld => ?_)
 clear hK K
 refine nd (some 7) ?_
 refine on 7 (some 10) (fun K hK => ?_)
 refine Kd.R_append_rows_step k70 (w0 := w) w.heap.size (by rfl) (.tmp 7) (.tmp 9) 61 70 (.agg #[(.int .i64 0), (.int .i64 0)]) 16 rfl Tryd.underlying61 info70 rfl (by decide) (by omega) v230 y229 l0_2 _ _ _ (fun _ => True) (fun _ => False) rfl rfl ?aO ?aR (fun _ _ h => h) (fun _ h => h.elim) ?aF ?aB ?aS ?aL ?_
 (case aR => repeat (first | exact (Kd.C_below HR0_2.out HB.out) | (with_reducible refine Kd.C_alloc ?_ _) | (with_reducible refine Kd.C_drewN ?_ _) | (with_reducible refine Kd.C_drew ?_)))
 (case aB => exact ZZ295621)
 (case aF => exact (fun _ _ => trivial))
 (case aO => exact (zR HO231))
 (case aS => exact (below_size ZZ295621))
 (case aL => have := LMc2.out; omega)
 intro v233 w8 ho hb hg hat
 rw [← Ny232.out] at ho
 replace BK227 := Aside0.mk (blk_grown (zB BK227) hg (Kd.R_ne HO231.out BK227.out (by decide)))
 replace BK228 := Aside0.mk (blk_grown (zB BK228) hg (Kd.R_ne HO231.out BK228.out (by decide)))
 replace HB := Aside0.mk (hb)
 have HO234 := Aside0.mk (ho)
 clear HO231
 clear ho hb hg hat
 obtain ⟨Ao9, co9, eo9⟩ := Kd.R_slice HO234.out
 (first | subst eo9 | (injection eo9 with f1_ f2_ f3_; have f4_ := f1_.symm; have f5_ := f3_.symm; clear f1_ f2_ f3_; subst f4_; subst f5_))
 refine hK.out _ _ zK (fun hHeld => ?_)
 clear hK K
 refine nd (some 10) ?_
 refine pu 8 11 ?_
 refine on 9 none (fun K hK => ?_)
 have hs10 := cz BK228 0
 have hfs10 := blk_frozen BK228.out 0
 have hns10_0 := NB227_228.out
 have hms10_0 := NB228_227.out
 have hs11 := cz BK228 1
 have hfs11 := blk_frozen BK228.out 1
 have hns11_0 := NB227_228.out
 have hms11_0 := NB228_227.out
 have hs12 := cz BK228 2
 have hfs12 := blk_frozen BK228.out 2
 have hns12_0 := NB227_228.out
 have hms12_0 := NB228_227.out
 refine skip_ (w1 := ?_) (by rfl) rfl ?_ ?_
 rotate_left
 ·go_simp
  rfl
 refine hK.out _ _ ⟨((cell_far (p := ⟨gb228, _, none⟩) NB227_228.out _).trans (((cell_far (p := ⟨gb228, _, none⟩) NB227_228.out _).trans (((cell_far (p := ⟨gb228, _, none⟩) NB227_228.out _).trans (hHeld.1)))))), ((cell_far (p := ⟨gb228, _, none⟩) NB227_228.out _).trans (((cell_far (p := ⟨gb228, _, none⟩) NB227_228.out _).trans (((cell_far (p := ⟨gb228, _, none⟩) NB227_228.out _).trans (hHeld.2.1)))))), ((cell_far (p := ⟨gb228, _, none⟩) NB227_228.out _).trans (((cell_far (p := ⟨gb228, _, none⟩) NB227_228.out _).trans (((cell_far (p := ⟨gb228, _, none⟩) NB227_228.out _).trans (hHeld.2.2))))))⟩ (fun hHeld => ?_)
 clear hK K
 refine done_ (done_of HT_.out (by kernel_rfl)) ?_
 try go_wp2
 refine bodyPost_ret (results_cell_row rfl _ _ gb228 63 #[.int .i64 a0_0, .string a0_1, .slice Ao9 y232.length co9] (0, 0) _ rfl (by refine bd ?_; refine blk_put (cs := #[.int .i64 a0_0, .string a0_1, .slice none 0 0]) ?_ 2 _ rfl; refine bd ?_; refine blk_put (cs := #[.int .i64 a0_0, .string (⟨#[]⟩ : ByteArray), .slice none 0 0]) ?_ 1 _ rfl; refine bd ?_; refine blk_put (cs := #[.int .i64 0, .string (⟨#[]⟩ : ByteArray), .slice none 0 0]) ?_ 0 _ rfl; refine bd ?_; exact BK228.out) Tryd.underlying63 rfl (by kernel_rfl)) rfl ?_
 exact ⟨_, ZZab01d2, (by refine bR ?_; exact Kd.R_mono (Kd.R_far (p := ⟨gb228, 2, none⟩) (Kd.R_far (p := ⟨gb228, 1, none⟩) (Kd.R_far (p := ⟨gb228, 0, none⟩) (Kd.R_types HO234.out BK228.out (by decide)) (fun _ hk => hk.2) (.int .i64 a0_0)) (fun _ hk => hk.2) (.string a0_1)) (fun _ hk => hk.2) (.slice Ao9 y232.length co9)) (fun _ hk => trivial)), ZZ295621⟩/-! ### spec_l26Own: function 77 -/
def spec_l26Own.l0 : Nat → Int → List (S48) → List (S63) → List (S48) → List (S63) → Option ((List (S48)) × (List (S63)))
 | 0, _, _, _, _, _ => none
 | k + 1, x4, x236000, x236001, x247000, x247001 => if x4 < (x236001.length : Int) then (if 0 ≤ x4 then ((spec_l26OwnEntry.f ((rd_T63 x236001 x4).f0) ((rd_T63 x236001 x4).f1) ((rd_T63 x236001 x4).f2)).bind fun bt248 => (if x247001.length < 2932031007402 then (spec_l26Own.l0 k (wrap64 (x4 + 1)) x236000 x236001 x247000 (x247001 ++ [(⟨bt248.1, bt248.2.1, bt248.2.2⟩ : S63)])) else (none))) else (none)) else (some (x247000, x247001))
def spec_l26Own.f (k : Nat) (l0_0 : List (S48)) (l0_1 : List (S63)) : Option ((List (S48)) × (List (S63))) := (some (([] : List (S48)) : List (S48))).bind fun y237 => (if y237.length + l0_0.length < 5864062014805 then (spec_l26Own.l0 k 0 l0_0 l0_1 (y237 ++ l0_0) (([] : List (S63)))) else (none))
theorem spec_l26Own.mono_l : ∀ k, (∀ y0 y1 y2 y3 y4, LeO (spec_l26Own.l0 k y0 y1 y2 y3 y4) (spec_l26Own.l0 (k + 1) y0 y1 y2 y3 y4))
 | 0 => fun _ _ _ _ _ r h => by simp [spec_l26Own.l0] at h
 | k + 1 => by
  have ih0 := spec_l26Own.mono_l k
  ·intro y0 y1 y2 y3 y4
   unfold spec_l26Own.l0
   repeat' with_reducible first | apply ih0 | exact LeO.refl _ | exact LeO.none _ | refine LeO.ite ?_ ?_ | refine LeO.bind ?_ (fun _ => ?_)
theorem spec_l26Own.mono : ∀ a0 a1 k, LeO (spec_l26Own.f k a0 a1) (spec_l26Own.f (k + 1) a0 a1) := by
 intro a0 a1 k
 have ih0 := spec_l26Own.mono_l k
 unfold spec_l26Own.f
 repeat' with_reducible first | apply ih0 | exact LeO.refl _ | exact LeO.none _ | refine LeO.ite ?_ ?_ | refine LeO.bind ?_ (fun _ => ?_)
def spec_l26Own.T5 : Bool × List (List Nat × List Nat) := (true, [([], []), ([0], [0]), ([], []), ([2], [2]), ([], []), ([3, 4], [3, 4]), ([5], [5]), ([6], [6]), ([7], [7]), ([1, 8, 7], [1, 8]), ([0, 1, 2, 3, 4, 5, 6, 7, 8, 9], []), ([10, 9, 9, 0, 1, 2, 3, 4, 5, 6, 7, 8, 9], [9, 10])])
def spec_l26Own.B5 : List Nat := [0, 1, 0, 4, 0, 28, 60, 124, 252, 511, 1023, 2047]
theorem spec_l26Own.tab5 : rtab .any (opsOf Tryd.f77 5) = spec_l26Own.T5 := by kernel_rfl
theorem spec_l26Own.bits5 : waitsOk spec_l26Own.T5.2 spec_l26Own.B5 = true := by kernel_rfl
set_option maxHeartbeats 8000000 in
set_option maxRecDepth 100000 in
theorem spec_l26Own.calls (k : Nat) (A0_0 : Option Addr) (c0_0 : Nat) (l0_0 : List (S48)) (A0_1 : Option Addr) (c0_1 : Nat) (l0_1 : List (S63)) (r1 : List (S48)) (r2 : List (S63)) (w : World) (hr0_0 : Kd.C k48 w A0_0 l0_0.length l0_0) (hc0_0 : l0_0.length ≤ c0_0) (hr0_1 : Kd.C k63 w A0_1 l0_1.length l0_1) (hc0_1 : l0_1.length ≤ c0_1) (h : spec_l26Own.f k l0_0 l0_1 = some (r1, r2)) :
 Calls Tryd.prog 77 #[.agg #[.slice A0_0 l0_0.length c0_0, .slice A0_1 l0_1.length c0_1]] w fun e w' => ∃ v0_ v1_ : Value, e = .returned (.agg #[v0_, v1_]) ∧ Kd.R k48 48 w' w.heap.size (fun _ => True) v0_ r1 ∧ Kd.S k63 63 w' w.heap.size (fun _ => True) v1_ r2 ∧ Below w.heap.size w w' := by
 have hu31 := Tryd.underlying31
 have hu63 := Tryd.underlying63
 have HR0_0 := Aside0.mk hr0_0
 have HC0_0 := Aside0.mk hc0_0
 clear hr0_0 hc0_0
 have HR0_1 := Aside0.mk hr0_1
 have HC0_1 := Aside0.mk hc0_1
 clear hr0_1 hc0_1
 have HB := Aside0.mk (Below.refl w.heap.size w)
 have H := h
 clear h
 unfold spec_l26Own.f at H
 try rw [Option.bind_some] at H
 generalize hy237 : (([] : List (S48)) : List (S48)) = y237 at H
 have Ny237 := Aside0.mk hy237.symm
 clear hy237
 obtain ⟨c2, H⟩ := ifY H
 have LMc2 := Aside0.mk c2
 clear c2
 try rw [Option.bind_some] at H
 generalize hy240 : (y237 ++ l0_0 : List (S48)) = y240 at H
 have Ny240 := Aside0.mk hy240.symm
 clear hy240
 try rw [Option.bind_some] at H
 generalize hy243 : (([] : List (S63)) : List (S63)) = y243 at H
 have Ny243 := Aside0.mk hy243.symm
 clear hy243
 replace H := Aside0.mk H
 go_enter Tryd.func77, Tryd.ntmps77
 go_wp2_with (first | ((with_reducible refine gate_dst (N := 1) rfl ?_); refine bx 1 (cs := #[.slice A0_0 l0_0.length c0_0, .slice A0_1 l0_1.length c0_1]) (t := 31) ?_; intro gb235 hg w3 hbox hb; have BK235 := Aside0.mk (hbox); have GW235 := gw hg; have GE235 := gw hg; replace HB := hB hb; clear hb hbox hg) | ((with_reducible refine gate_dst (N := 2) rfl ?_); refine bx 2 (cs := #[.slice none 0 0, .slice none 0 0]) (t := 31) ?_; intro gb236 hg w4 hbox hb; have BK236 := Aside0.mk (hbox); have GW236 := gw hg; have GE236 := gw hg; replace HB := hB hb; have NB235_236 := nl hg BK235; have NB236_235 := ng hg BK235; replace BK235 := kb BK235 hb; clear hb hbox hg) | ((with_reducible refine gate_dst (N := 5) rfl ?_); refine Kd.R_lit k48 _ 48 ?hg (N := 5) ?hd (xs := ([] : List (S48))) (inner := []) (ok := fun _ => True) (okp := fun _ => True) ?hr ?hp (fun _ hk => hk) trivial (Below.refl _ _) (Nat.le_refl _) (by simp) ?_; (case hd => rfl); (case hg => rfl); (case hr => first | (go_simp; done) | (go_simp; rfl)); (case hp => exact (Reps.none _ _)); intro v238 w5 ho6 hb hg_ hnew_; clear hg_ hnew_; (first | rw [← Ny237.out] at ho6 | (simp only [Int.reduceToNat] at ho6; rw [← Ny237.out] at ho6)); have HO239 := Aside0.mk (Kd.R_lower ho6 (below_size ZZ295621)); replace BK235 := kb BK235 hb; replace BK236 := kb BK236 hb; replace HB := hB hb; clear hb ho6; have hnb7 := NB235_236.out; have hnc7 := NB236_235.out; obtain ⟨hcz8_0, hcz8_1, hfz8_0, hfz8_1⟩ := z2 BK235) | ((with_reducible refine gate_builtin (b := .append) (xs := #[.tmp 5, .tmp 7]) rfl ?_); at_builtin; refine Kd.R_append_rows k48 (w0 := w) w.heap.size rfl (.tmp 5) (.tmp 7) 28 48 (.agg #[(.string ⟨#[]⟩), (.int .i64 0)]) 24 rfl Tryd.underlying28 info48 rfl (by decide) (by omega) v238 y237 l0_0 _ _ _ (fun _ => True) (fun _ => False) rfl rfl ?aO ?aR (fun _ _ h => h) (fun _ h => h.elim) ?aF ?aB ?aS ?aL ?_; (case aR => repeat (first | exact (Kd.C_below HR0_0.out HB.out) | (with_reducible refine Kd.C_alloc ?_ _) | (with_reducible refine Kd.C_drewN ?_ _) | (with_reducible refine Kd.C_drew ?_))); (case aB => exact ZZ295621); (case aF => exact (fun _ _ => trivial)); (case aO => exact (zR HO239)); (case aS => exact (below_size ZZ295621)); (case aL => have := LMc2.out; omega); intro v241 w9 ho hb hg hat; rw [← Ny240.out] at ho; replace BK235 := Aside0.mk (blk_grown (zB BK235) hg (Kd.R_ne HO239.out BK235.out (by decide))); replace BK236 := Aside0.mk (blk_grown (zB BK236) hg (Kd.R_ne HO239.out BK236.out (by decide))); replace HB := Aside0.mk (hb); have HO242 := Aside0.mk (ho); clear HO239; clear ho hb hg hat) | ((with_reducible refine gate_dst (N := 9) rfl ?_); refine Kd.S_lit k63 _ 63 ?hg (N := 9) ?hd (xs := ([] : List (S63))) (inner := []) (ok := fun _ => True) (okp := fun _ => True) ?hr ?hp (fun _ hk => hk) trivial (Below.refl _ _) (Nat.le_refl _) (by simp) ?_; (case hd => rfl); (case hg => rfl); (case hr => first | (go_simp; done) | (go_simp; rfl)); (case hp => exact (Reps.none _ _)); intro v244 w10 ho11 hb hg_ hnew_; clear hg_ hnew_; (first | rw [← Ny243.out] at ho11 | (simp only [Int.reduceToNat] at ho11; rw [← Ny243.out] at ho11)); replace HO242 := Aside0.mk (Kd.R_below (zR HO242) hb); have HO245 := Aside0.mk (Kd.S_lower ho11 (below_size ZZ295621)); replace BK235 := kb BK235 hb; replace BK236 := kb BK236 hb; replace HB := hB hb; clear hb ho11; obtain ⟨Ao12, co12, eo12⟩ := Kd.S_slice HO245.out; subst eo12; obtain ⟨Ao13, co13, eo13⟩ := Kd.R_slice HO242.out; subst eo13) | ((with_reducible refine gate_dst (N := 3) rfl ?_); refine bx 3 (cs := #[.slice none 0 0, .slice none 0 0]) (t := 31) ?_; intro gb246 hg w14 hbox hb; replace HO242 := Aside0.mk (Kd.R_below (zR HO242) hb); replace HO245 := Aside0.mk (Kd.S_below (zS HO245) hb); have BK246 := Aside0.mk (hbox); have GW246 := gw hg; have GE246 := gw hg; replace HB := hB hb; have NB235_246 := nl hg BK235; have NB246_235 := ng hg BK235; replace BK235 := kb BK235 hb; have NB236_246 := nl hg BK236; have NB246_236 := ng hg BK236; replace BK236 := kb BK236 hb; clear hb hbox hg; have hnb15 := NB246_235.out; have hnc15 := NB235_246.out; have hnb16 := NB246_236.out; have hnc16 := NB236_246.out; obtain ⟨hcz17_0, hcz17_1, hfz17_0, hfz17_1⟩ := z2 BK246))
 go_loopg [4] k (fun kq v4 w' => ∃ (x4_1 : Int) (x247001_1 : List (S63)) (u247001 : Value), v4 = .int .i64 x4_1 ∧ Aside0 (spec_l26Own.l0 kq x4_1 l0_0 l0_1 y240 x247001_1 = some (r1, r2)) ∧ Aside0 (kq ≤ k) ∧ Aside0 (Kd.R k48 48 w' w.heap.size (fun _ => True) (.slice Ao13 y240.length co13) y240) ∧ Aside0 (Kd.S k63 63 w' w.heap.size (fun _ => True) u247001 x247001_1) ∧ Aside0 (w'.heap[gb235]? = some (.cells #[(.slice A0_0 l0_0.length c0_0), (.slice A0_1 l0_1.length c0_1)] 31 (0, 0))) ∧ Aside0 (w'.heap[gb236]? = some (.cells #[(.slice none 0 0), (.slice none 0 0)] 31 (0, 0))) ∧ Aside0 (w'.heap[gb246]? = some (.cells #[(.slice Ao13 y240.length co13), u247001] 31 (0, 0))) ∧ Aside0 (Below w.heap.size w w'))
 case atStart => exact ⟨(0), (y243), (.slice Ao12 y243.length co12), ZZ0ab324, H, ⟨Nat.le_refl _⟩, ⟨(by refine bR ?_; exact Kd.R_mono (Kd.R_far (p := ⟨gb246, 1, none⟩) (Kd.R_far (p := ⟨gb246, 0, none⟩) (Kd.R_types HO242.out BK246.out (by decide)) (fun _ hk => hk.2) (.slice Ao13 y240.length co13)) (fun _ hk => hk.2) (.slice Ao12 y243.length co12)) (fun _ hk => trivial))⟩, ⟨(by refine bS ?_; exact Kd.S_mono (Kd.S_far (p := ⟨gb246, 1, none⟩) (Kd.S_far (p := ⟨gb246, 0, none⟩) (Kd.S_types HO245.out BK246.out (by decide)) (fun _ hk => hk.2) (.slice Ao13 y240.length co13)) (fun _ hk => hk.2) (.slice Ao12 y243.length co12)) (fun _ hk => trivial))⟩, ⟨(by refine bd ?_; refine blk_far ?_ NB235_246.out _; refine bd ?_; refine blk_far ?_ NB235_246.out _; refine bd ?_; exact BK235.out)⟩, ⟨(by refine bd ?_; refine blk_far ?_ NB236_246.out _; refine bd ?_; refine blk_far ?_ NB236_246.out _; refine bd ?_; exact BK236.out)⟩, ⟨(by refine bd ?_; refine blk_put (cs := #[.slice Ao13 y240.length co13, .slice none 0 0]) ?_ 1 _ rfl; refine bd ?_; refine blk_put (cs := #[.slice none 0 0, .slice none 0 0]) ?_ 0 _ rfl; refine bd ?_; exact BK246.out)⟩, ⟨ZZ295621⟩⟩
 case round =>
  clear H
  try clear hcz17_0
  try clear hcz17_1
  try clear hcz8_0
  try clear hcz8_1
  try clear hfz17_0
  try clear hfz17_1
  try clear hfz8_0
  try clear hfz8_1
  obtain ⟨x4_1, x247001_1, u247001, rfl, HA, HK1, HO_247000, HO_247001, BK235, BK236, BK246, HB⟩ := hrel
  cases gk with
  | zero => exact absurd HA.out (by simp [spec_l26Own.l0])
  | succ k1 =>
   have H := HA.out
   clear HA
   simp only [spec_l26Own.l0] at H
   by_cases c18 : x4_1 < (l0_1.length : Int)
   ·rw [if_pos c18] at H
    have c18b0 := decide_eq_true c18
    clear c18
    obtain ⟨c19b0, H⟩ := ifYd H
    obtain ⟨⟨t248, t249, t250⟩, A20, H⟩ := bdY H
    try dsimp only at H
    obtain ⟨c21, H⟩ := ifY H
    have LMc21 := Aside0.mk c21
    clear c21
    try rw [Option.bind_some] at H
    generalize hy253 : (x247001_1 ++ [(⟨t248, t249, t250⟩ : S63)] : List (S63)) = y253 at H
    have Ny253 := Aside0.mk hy253.symm
    clear hy253
    replace H := Aside0.mk H
    have hnb22 := NB235_236.out
    have hnc22 := NB236_235.out
    have hnb23 := NB235_246.out
    have hnc23 := NB246_235.out
    obtain ⟨hcz24_0, hcz24_1, hfz24_0, hfz24_1⟩ := z2 BK235
    try go_wp2
    replace HO_247000 := Aside0.mk (Kd.R_drew HO_247000.out)
    replace HO_247001 := Aside0.mk (Kd.S_drew HO_247001.out)
    replace BK235 := Aside0.mk (blk_drew BK235.out)
    replace BK236 := Aside0.mk (blk_drew BK236.out)
    replace BK246 := Aside0.mk (blk_drew BK246.out)
    replace HB := Aside0.mk (below_drew1 HB.out)
    have p247 : 0 ≤ (x4_1 : Int) := of_decide_eq_true ZZ853400
    have q247 : x4_1 < (l0_1.length : Int) := of_decide_eq_true ZZ853400
    obtain ⟨ad247, A247_2, c247_2, e247, hx247_0, hx247_1, hx247_2, hl247_2, hi247_2⟩ := at_T63 HR0_1.out x4_1 p247 q247
    have hw247_2 := hx247_2
    have hw247_1 := hx247_1
    have hw247_0 := hx247_0
    cases e247
    replace hx247_0 := (HB.out.cell (World.block_lt_of_cell? w _ hx247_0)).trans hx247_0
    replace hx247_1 := (HB.out.cell (World.block_lt_of_cell? w _ hx247_1)).trans hx247_1
    replace hx247_2 := (HB.out.cell (World.block_lt_of_cell? w _ hx247_2)).trans hx247_2
    have HR247_2 := Aside0.mk hi247_2
    have HC247_2 := Aside0.mk hl247_2
    clear hi247_2 hl247_2
    replace p247 := eq_true p247
    replace q247 := eq_true q247
    refine start_ (n := 12) (S := fun w' => w'.cell? ⟨gb246, 0, none⟩ = some (.slice Ao13 y240.length co13) ∧ w'.cell? ⟨gb246, 1, none⟩ = some (u247001) ∧ w'.cell? ⟨gb235, 0, none⟩ = some (.slice A0_0 l0_0.length c0_0) ∧ w'.cell? ⟨gb235, 1, none⟩ = some (.slice (some ad247) l0_1.length c0_1) ∧ w'.cell? (ad247.add ((x4_1).toNat * 3)) = some (.int .i64 ((rd_T63 l0_1 x4_1).f0)) ∧ w'.cell? ⟨(ad247.add ((x4_1).toNat * 3)).block, (ad247.add ((x4_1).toNat * 3)).off + 1, none⟩ = some (.string ((rd_T63 l0_1 x4_1).f1)) ∧ w'.cell? ⟨(ad247.add ((x4_1).toNat * 3)).block, (ad247.add ((x4_1).toNat * 3)).off + 2, none⟩ = some (.slice A247_2 ((rd_T63 l0_1 x4_1).f2).length c247_2)) (ds := [11]) #[false, false, false, false, false, false, false, false, false, false, false, false] (by kernel_rfl) rfl rfl ⟨(blk_cell BK246.out 0).trans rfl, (blk_cell BK246.out 1).trans rfl, (blk_cell BK235.out 0).trans rfl, (blk_cell BK235.out 1).trans rfl, ((HB.out.cell (World.block_lt_of_cell? w _ hw247_0)).trans hw247_0), ((HB.out.cell (World.block_lt_of_cell? w _ hw247_1)).trans hw247_1), ((HB.out.cell (World.block_lt_of_cell? w _ hw247_2)).trans hw247_2)⟩ (fun hHeld => ?_); refine with_tabW spec_l26Own.tab5 spec_l26Own.bits5 (fun HT_ HW_ => ?_)
    generalize wr.drew = w25 at HO_247000 HO_247001 BK235 BK236 BK246 HB HR247_2 hx247_0 hx247_1 hx247_2 hHeld ⊢
    refine pu 0 18 ?_
    refine pu 2 20 ?_
    refine pu 4 22 ?_
    refine tk 1 19 ?_
    refine tk 3 21 ?_
    refine pu 5 23 ?_
    refine tk 6 24 ?_
    refine on 7 (some 25) (fun K hK => ?_)
    refine goes_ Tryd.func111 (by kernel_rfl) rfl #[.agg #[.int .i64 ((rd_T63 l0_1 x4_1).f0), .string ((rd_T63 l0_1 x4_1).f1), .slice A247_2 ((rd_T63 l0_1 x4_1).f2).length c247_2]] (by rfl) rfl rfl ZZ19826e ?_
    with_reducible refine (spec_l26OwnEntry.calls ((rd_T63 l0_1 x4_1).f0) ((rd_T63 l0_1 x4_1).f1) _ _ ((rd_T63 l0_1 x4_1).f2) t248 t249 t250 _ ?side1 ?side2 A20.out).mono ?_
    (case side1 => exact (rC (Kd.C_below HR247_2.out HB.out)))
    (case side2 => exact HC247_2.out)
    rintro e w26 ⟨v251, rfl, ho0, hb⟩
    refine ⟨_, rfl, ?_⟩
    replace HO_247000 := Aside0.mk (Kd.R_below (zR HO_247000) hb)
    replace HO_247001 := Aside0.mk (Kd.S_elder' (zS HO_247001) (Kd.R_base ho0) hb)
    have HO252 := Aside0.mk (Kd.R_lower ho0 (below_size ZZ295621))
    replace BK235 := kb BK235 hb
    replace BK236 := kb BK236 hb
    replace BK246 := kb BK246 hb
    replace HB := hB hb
    (try clear hb)
    (try clear hb2)
    (try clear hk)
    (try clear hi)
    (try clear ho0)
    obtain ⟨Ao28, co28, eo28⟩ := Kd.R_slice HO252.out
    (first | subst eo28 | (injection eo28 with f1_ f2_ f3_; have f4_ := f1_.symm; have f5_ := f3_.symm; clear f1_ f2_ f3_; subst f4_; subst f5_))
    refine hK.out _ _ zK (fun hHeld => ?_)
    clear hK K
    refine nd (some 25) ?_
    refine on 8 (some 26) (fun K hK => ?_)
    refine value_ (w1 := ?_) (v := ?_) (by rfl) rfl ?_ ?_
    rotate_left 2
    ·go_simp
     constructor
     ·rfl
     rfl
    refine hK.out _ _ ⟨(blk_cell (blk_alloc BK246.out _) 0).trans rfl, (blk_cell (blk_alloc BK246.out _) 1).trans rfl, (blk_cell (blk_alloc BK235.out _) 0).trans rfl, (blk_cell (blk_alloc BK235.out _) 1).trans rfl, (World.cell?_alloc_lt _ _ _ (World.block_lt_of_cell? _ _ (((HB.out.cell (World.block_lt_of_cell? w _ hw247_0)).trans hw247_0)))).trans (((HB.out.cell (World.block_lt_of_cell? w _ hw247_0)).trans hw247_0)), (World.cell?_alloc_lt _ _ _ (World.block_lt_of_cell? _ _ (((HB.out.cell (World.block_lt_of_cell? w _ hw247_1)).trans hw247_1)))).trans (((HB.out.cell (World.block_lt_of_cell? w _ hw247_1)).trans hw247_1)), (World.cell?_alloc_lt _ _ _ (World.block_lt_of_cell? _ _ (((HB.out.cell (World.block_lt_of_cell? w _ hw247_2)).trans hw247_2)))).trans (((HB.out.cell (World.block_lt_of_cell? w _ hw247_2)).trans hw247_2))⟩ (fun hHeld => ?_)
    clear hK K
    refine nd (some 26) ?_
    refine on 9 (some 27) (fun K hK => ?_)
    refine Kd.S_append_step k63 (w0 := w) w.heap.size (by rfl) (.tmp 19) (.tmp 26) 29 63 (.agg #[(.int .i64 0), (.string ⟨#[]⟩), (.slice none 0 0)]) 48 rfl Tryd.underlying29 info63 rfl (by decide) (by omega) u247001 x247001_1 (⟨t248, t249, t250⟩ : S63) [.int .i64 t248, .string t249, .slice Ao28 t250.length co28] (fun _ => True) (fun k_ => some k_ = (.slice Ao28 t250.length co28 : Value).ownBlock) rfl rfl ?aP (fun k_ hk_ => ((Kd.R_mono (ok' := fun k_ => ((fun _ => True)) k_ ∧ some k_ ≠ (u247001 : Value).ownBlock) (Kd.R_apart' (HO252.out) (Kd.S_typed HO_247001.out) (by decide)) (fun k_ hk => ⟨trivial, hk.2⟩))).1 k_ hk_.symm) ?aF ?aO ?aB ?aS ?aL ?_
    (case aP => exact k63_mkM _ _ _ (⟨t248, t249, t250⟩ : S63) (Kd.R_mono (Kd.R_tight rfl (Kd.R_mono (ok' := fun k_ => ((fun _ => True)) k_ ∧ some k_ ≠ (u247001 : Value).ownBlock) (Kd.R_apart' (HO252.out) (Kd.S_typed HO_247001.out) (by decide)) (fun k_ hk => ⟨trivial, hk.2⟩))) (fun _ h_ => h_)))
    (case aB => exact ZZ295621)
    (case aF => exact (fun _ _ => trivial))
    (case aO => exact (by refine bS ?_; exact Kd.S_mono HO_247001.out (fun k_ hk => ⟨trivial, fun e_ => hk.2 e_⟩)))
    (case aS => exact (below_size ZZ295621))
    (case aL => have := LMc21.out; omega)
    intro v254 w27 ho hb hg hat
    rw [← Ny253.out] at ho
    replace HO_247000 := Aside0.mk (Kd.R_over' (zR HO_247000) (Kd.S_typed (zS HO_247001)) (by decide) hg)
    replace BK235 := Aside0.mk (blk_grown (zB BK235) hg (Kd.S_ne HO_247001.out BK235.out (by decide)))
    replace BK236 := Aside0.mk (blk_grown (zB BK236) hg (Kd.S_ne HO_247001.out BK236.out (by decide)))
    replace BK246 := Aside0.mk (blk_grown (zB BK246) hg (Kd.S_ne HO_247001.out BK246.out (by decide)))
    replace HB := Aside0.mk (hb)
    have HO255 := Aside0.mk (ho)
    clear HO_247001
    clear HO252
    clear ho hb hg hat
    obtain ⟨Ao29, co29, eo29⟩ := Kd.S_slice HO255.out
    (first | subst eo29 | (injection eo29 with f1_ f2_ f3_; have f4_ := f1_.symm; have f5_ := f3_.symm; clear f1_ f2_ f3_; subst f4_; subst f5_))
    refine hK.out _ _ zK (fun hHeld => ?_)
    clear hK K
    refine nd (some 27) ?_
    refine pu 10 28 ?_
    refine last_ (i := 11) (N := none) #[true, true, true, true, true, true, true, true, true, true, true, true] rfl rfl (one_of HT_.out (by kernel_rfl)) (by decide) (fun K hK => ?_)
    have hs30 := cz BK246 1
    have hfs30 := blk_frozen BK246.out 1
    have hns30_0 := NB235_246.out
    have hns30_1 := NB236_246.out
    have hms30_0 := NB246_235.out
    have hms30_1 := NB246_236.out
    refine skip_ (w1 := ?_) (by rfl) rfl ?_ ?_
    rotate_left
    ·go_simp
     rfl
    refine hK.out _ _ ?_
    clear hK K
    refine done_ (done_of HT_.out (by kernel_rfl)) ?_
    try go_wp2
    go_roundg k1
    case measure => have := HK1.out; omega
    case rel => exact ⟨(wrap64 (x4_1 + 1)), (y253), (.slice Ao29 y253.length co29), ZZ0ab324, H, kle, ⟨(by refine bR ?_; exact Kd.R_mono (Kd.R_far (p := ⟨gb246, 1, none⟩) (Kd.R_types HO_247000.out BK246.out (by decide)) (fun _ hk => hk.2) (.slice Ao29 y253.length co29)) (fun _ hk => trivial))⟩, ⟨(by refine bS ?_; exact Kd.S_mono (Kd.S_far (p := ⟨gb246, 1, none⟩) (Kd.S_types HO255.out BK246.out (by decide)) (fun _ hk => hk.2) (.slice Ao29 y253.length co29)) (fun _ hk => trivial))⟩, ⟨(by refine bd ?_; refine blk_far ?_ NB235_246.out _; refine bd ?_; exact BK235.out)⟩, ⟨(by refine bd ?_; refine blk_far ?_ NB236_246.out _; refine bd ?_; exact BK236.out)⟩, ⟨(by refine bd ?_; refine blk_put (cs := #[.slice Ao13 y240.length co13, u247001]) ?_ 1 _ rfl; refine bd ?_; exact BK246.out)⟩, ⟨ZZ295621⟩⟩
   rw [if_neg c18] at H
   have c18b0 := decide_eq_false c18
   clear c18
   simp only [Option.some.injEq, Prod.mk.injEq] at H
   obtain ⟨rfl, rfl⟩ := H
   have hnb31 := NB235_236.out
   have hnc31 := NB236_235.out
   have hnb32 := NB235_246.out
   have hnc32 := NB246_235.out
   obtain ⟨hcz33_0, hcz33_1, hfz33_0, hfz33_1⟩ := z2 BK235
   have hnb34 := NB246_236.out
   have hnc34 := NB236_246.out
   obtain ⟨hcz35_0, hcz35_1, hfz35_0, hfz35_1⟩ := z2 BK246
   obtain ⟨hcz36_0, hcz36_1, hfz36_0, hfz36_1⟩ := z2 BK236
   obtain ⟨Ao37, co37, eo37⟩ := Kd.S_slice HO_247001.out
   subst eo37
   go_wp2
   refine bodyPost_ret (results_cell_row rfl _ _ gb236 31 #[.slice Ao13 y240.length co13, .slice Ao37 x247001_1.length co37] (0, 0) _ rfl (by refine bd ?_; refine blk_put (cs := #[.slice Ao13 y240.length co13, .slice none 0 0]) ?_ 1 _ rfl; refine bd ?_; refine blk_put (cs := #[.slice none 0 0, .slice none 0 0]) ?_ 0 _ rfl; refine bd ?_; exact BK236.out) Tryd.underlying31 rfl (by kernel_rfl)) rfl ?_
   exact ⟨_, _, ZZab01d2, (by refine bR ?_; exact Kd.R_mono (Kd.R_far (p := ⟨gb236, 1, none⟩) (Kd.R_far (p := ⟨gb236, 0, none⟩) (Kd.R_types HO_247000.out BK236.out (by decide)) (fun _ hk => hk.2) (.slice Ao13 y240.length co13)) (fun _ hk => hk.2) (.slice Ao37 x247001_1.length co37)) (fun _ hk => trivial)), (by refine bS ?_; exact Kd.S_mono (Kd.S_far (p := ⟨gb236, 1, none⟩) (Kd.S_far (p := ⟨gb236, 0, none⟩) (Kd.S_types HO_247001.out BK236.out (by decide)) (fun _ hk => hk.2) (.slice Ao13 y240.length co13)) (fun _ hk => hk.2) (.slice Ao37 x247001_1.length co37)) (fun _ hk => trivial)), ZZ295621⟩
end Go.Proofs.YtccdjchaaeligaaDoor.XFnExactPostEntry

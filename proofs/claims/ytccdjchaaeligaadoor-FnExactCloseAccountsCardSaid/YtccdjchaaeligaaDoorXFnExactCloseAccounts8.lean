import Derived.Test.YtccdjchaaeligaaDoorXFnExactCloseAccounts1
import Derived.Test.YtccdjchaaeligaaDoorXFnExactCloseAccounts0
namespace Go.Proofs.YtccdjchaaeligaaDoor.XFnExactCloseAccounts
open Go.Proofs.YtccdjchaaeligaaDoor.Short Go.RowKit Go.Proofs.YtccdjchaaeligaaDoorW.PrintWords Go.Proofs.YtccdjchaaeligaaDoorW.PrintLast Go.Proofs.YtccdjchaaeligaaDoorW.PrintMore
attribute [local go_sem] max2_int min2_int max_two min_two max_three min_three max_four min_four
set_option linter.unusedVariables false
set_option linter.unusedSimpArgs false
theorem ZZc4c4be {p : Prop} (h : p := by first | exact Kd.S_nil _ _ _ _ _ | exact Kd.N_nil _ _ _ _ _ | exact Kd.V_nil _ _ _ _ _ | exact Kd.Q_nil _ _ _ _ _ | exact Kd.R_nil _ _ _ _ _) : p := h
def impl_Posting.f (l0 : List (S70)) : Option ((List (S70))) := (some (([] : List (S70)) : List (S70))).bind fun y226 => (if y226.length + l0.length < 8796093022208 then (some (y226 ++ l0)) else (none))
set_option maxHeartbeats 8000000 in
set_option maxRecDepth 100000 in
theorem impl_Posting.calls (A0 : Option Addr) (c0 : Nat) (l0 : List (S70)) (r : List (S70)) (w : World) (hr0 : Kd.C k70 w A0 l0.length l0) (hc0 : l0.length ≤ c0) (h : impl_Posting.f l0 = some r) :
 Calls Tryd.prog 92 #[.slice A0 l0.length c0] w fun e w' => ∃ v0_ : Value, e = .returned (v0_) ∧ Kd.R k70 70 w' w.heap.size (fun _ => True) v0_ r ∧ Below w.heap.size w w' := by
 have HR0 := Aside0.mk hr0
 have HC0 := Aside0.mk hc0
 clear hr0 hc0
 have HB := Aside0.mk (Below.refl w.heap.size w)
 have H := h
 clear h
 unfold impl_Posting.f at H
 try rw [Option.bind_some] at H
 generalize hy226 : (([] : List (S70)) : List (S70)) = y226 at H
 have Ny226 := Aside0.mk hy226.symm
 clear hy226
 obtain ⟨c2, H⟩ := ifY H
 have LMc2 := Aside0.mk c2
 clear c2
 try rw [Option.bind_some] at H
 generalize hy229 : (y226 ++ l0 : List (S70)) = y229 at H
 have Ny229 := Aside0.mk hy229.symm
 clear hy229
 obtain rfl := Option.some.inj H
 rcases A0 with _ | a0_
 ·have hl0 : l0 = [] := List.eq_nil_of_length_eq_zero (Nat.eq_zero_of_not_pos (fun hp_ => by obtain ⟨_, e_, _⟩ := (HR0.out).2.2 hp_; cases e_))
  have HY_ := Aside0.mk (show y229 = [] by rw [Ny229.out, Ny226.out, hl0]; rfl)
  clear hl0
  have hq_ := fun (W : World) => Go.Lib.run_eql_slice_nil_nil (P := Tryd.prog) W l0.length c0 Tryd.underlying61
  go_enter Tryd.func92, Tryd.ntmps92
  go_wp2
  go_ret
  exact ⟨_, rfl, (by rw [HY_.out]; exact Kd.R_nil _ _ _ _ _), ZZ605003⟩
 have hq_ := fun (W : World) => Go.Lib.run_eql_slice_some_nil (P := Tryd.prog) W a0_ l0.length c0 Tryd.underlying61
 go_enter Tryd.func92, Tryd.ntmps92
 go_wp2_with (first | ((with_reducible refine gate_dst (N := 5) rfl ?_); refine Kd.R_lit k70 _ 70 ?hg (N := 5) ?hd (xs := ([] : List (S70))) (inner := []) (ok := fun _ => True) (okp := fun _ => True) ?hr ?hp (fun _ hk => hk) trivial (Below.refl _ _) (Nat.le_refl _) (by simp) ?_; (case hd => rfl); (case hg => rfl); (case hr => first | (go_simp; done) | (go_simp; rfl)); (case hp => exact (Reps.none _ _)); intro v227 w3 ho4 hb hg_ hnew_; clear hg_ hnew_; (first | rw [← Ny226.out] at ho4 | (simp only [Int.reduceToNat] at ho4; rw [← Ny226.out] at ho4)); have HO228 := Aside0.mk (Kd.R_lower ho4 (below_size ZZ605003)); replace HB := hB hb; clear hb ho4) | ((with_reducible refine gate_builtin (b := .append) (xs := #[.tmp 5, .tmp 6]) rfl ?_); at_builtin; refine Kd.R_append_rows k70 (w0 := w) w.heap.size rfl (.tmp 5) (.tmp 6) 61 70 (.agg #[(.int .i64 0), (.int .i64 0)]) 16 rfl Tryd.underlying61 info70 rfl (by decide) (by omega) v227 y226 l0 _ _ _ (fun _ => True) (fun _ => False) rfl rfl ?aO ?aR (fun _ _ h => h) (fun _ h => h.elim) ?aF ?aB ?aS ?aL ?_; (case aR => repeat (first | exact (Kd.C_below HR0.out HB.out) | (with_reducible refine Kd.C_alloc ?_ _) | (with_reducible refine Kd.C_drewN ?_ _) | (with_reducible refine Kd.C_drew ?_))); (case aB => exact ZZ605003); (case aF => exact (fun _ _ => trivial)); (case aO => exact (zR HO228)); (case aS => exact (below_size ZZ605003)); (case aL => have := LMc2.out; omega); intro v230 w5 ho hb hg hat; rw [← Ny229.out] at ho; replace HB := Aside0.mk (hb); have HO231 := Aside0.mk (ho); clear HO228; clear ho hb hg hat))
 go_ret
 exact ⟨_, ZZab01d2, (zR HO231), ZZ605003⟩/-! ### impl_Account_110: function 110 -/
def impl_Account_110.f (l0 : List (S48)) : Option ((List (S48))) := (some (([] : List (S48)) : List (S48))).bind fun y232 => (if y232.length + l0.length < 5864062014805 then (some (y232 ++ l0)) else (none))
set_option maxHeartbeats 8000000 in
set_option maxRecDepth 100000 in
theorem impl_Account_110.calls (A0 : Option Addr) (c0 : Nat) (l0 : List (S48)) (r : List (S48)) (w : World) (hr0 : Kd.C k48 w A0 l0.length l0) (hc0 : l0.length ≤ c0) (h : impl_Account_110.f l0 = some r) :
 Calls Tryd.prog 110 #[.slice A0 l0.length c0] w fun e w' => ∃ v0_ : Value, e = .returned (v0_) ∧ Kd.R k48 48 w' w.heap.size (fun _ => True) v0_ r ∧ Below w.heap.size w w' := by
 have HR0 := Aside0.mk hr0
 have HC0 := Aside0.mk hc0
 clear hr0 hc0
 have HB := Aside0.mk (Below.refl w.heap.size w)
 have H := h
 clear h
 unfold impl_Account_110.f at H
 try rw [Option.bind_some] at H
 generalize hy232 : (([] : List (S48)) : List (S48)) = y232 at H
 have Ny232 := Aside0.mk hy232.symm
 clear hy232
 obtain ⟨c2, H⟩ := ifY H
 have LMc2 := Aside0.mk c2
 clear c2
 try rw [Option.bind_some] at H
 generalize hy235 : (y232 ++ l0 : List (S48)) = y235 at H
 have Ny235 := Aside0.mk hy235.symm
 clear hy235
 obtain rfl := Option.some.inj H
 rcases A0 with _ | a0_
 ·have hl0 : l0 = [] := List.eq_nil_of_length_eq_zero (Nat.eq_zero_of_not_pos (fun hp_ => by obtain ⟨_, e_, _⟩ := (HR0.out).2.2 hp_; cases e_))
  have HY_ := Aside0.mk (show y235 = [] by rw [Ny235.out, Ny232.out, hl0]; rfl)
  clear hl0
  have hq_ := fun (W : World) => Go.Lib.run_eql_slice_nil_nil (P := Tryd.prog) W l0.length c0 Tryd.underlying28
  go_enter Tryd.func110, Tryd.ntmps110
  go_wp2
  go_ret
  exact ⟨_, rfl, (by rw [HY_.out]; exact Kd.R_nil _ _ _ _ _), ZZ605003⟩
 have hq_ := fun (W : World) => Go.Lib.run_eql_slice_some_nil (P := Tryd.prog) W a0_ l0.length c0 Tryd.underlying28
 go_enter Tryd.func110, Tryd.ntmps110
 go_wp2_with (first | ((with_reducible refine gate_dst (N := 5) rfl ?_); refine Kd.R_lit k48 _ 48 ?hg (N := 5) ?hd (xs := ([] : List (S48))) (inner := []) (ok := fun _ => True) (okp := fun _ => True) ?hr ?hp (fun _ hk => hk) trivial (Below.refl _ _) (Nat.le_refl _) (by simp) ?_; (case hd => rfl); (case hg => rfl); (case hr => first | (go_simp; done) | (go_simp; rfl)); (case hp => exact (Reps.none _ _)); intro v233 w3 ho4 hb hg_ hnew_; clear hg_ hnew_; (first | rw [← Ny232.out] at ho4 | (simp only [Int.reduceToNat] at ho4; rw [← Ny232.out] at ho4)); have HO234 := Aside0.mk (Kd.R_lower ho4 (below_size ZZ605003)); replace HB := hB hb; clear hb ho4) | ((with_reducible refine gate_builtin (b := .append) (xs := #[.tmp 5, .tmp 6]) rfl ?_); at_builtin; refine Kd.R_append_rows k48 (w0 := w) w.heap.size rfl (.tmp 5) (.tmp 6) 28 48 (.agg #[(.string ⟨#[]⟩), (.int .i64 0)]) 24 rfl Tryd.underlying28 info48 rfl (by decide) (by omega) v233 y232 l0 _ _ _ (fun _ => True) (fun _ => False) rfl rfl ?aO ?aR (fun _ _ h => h) (fun _ h => h.elim) ?aF ?aB ?aS ?aL ?_; (case aR => repeat (first | exact (Kd.C_below HR0.out HB.out) | (with_reducible refine Kd.C_alloc ?_ _) | (with_reducible refine Kd.C_drewN ?_ _) | (with_reducible refine Kd.C_drew ?_))); (case aB => exact ZZ605003); (case aF => exact (fun _ _ => trivial)); (case aO => exact (zR HO234)); (case aS => exact (below_size ZZ605003)); (case aL => have := LMc2.out; omega); intro v236 w5 ho hb hg hat; rw [← Ny235.out] at ho; replace HB := Aside0.mk (hb); have HO237 := Aside0.mk (ho); clear HO234; clear ho hb hg hat))
 go_ret
 exact ⟨_, ZZab01d2, (zR HO237), ZZ605003⟩/-! ### impl_ownLedger: function 76 -/
def impl_ownLedger.l0 : Nat → List (S63) → Int → Int → List (S48) → List (S63) → Option ((List (S48)) × (List (S63)))
 | 0, _, _, _, _, _ => none
 | k + 1, x11, x12, x13, x244000, x244001 => if x13 < x12 then (if 0 ≤ x13 then (if x13 < (x11.length : Int) then ((impl_Posting.f ((rd_T63 x11 x13).f2)).bind fun t246 => (if x244001.length < 2932031007402 then (impl_ownLedger.l0 k x11 x12 (wrap64 (x13 + 1)) x244000 (x244001 ++ [(⟨(rd_T63 x11 x13).f0, (rd_T63 x11 x13).f1, t246⟩ : S63)])) else (none))) else (none)) else (none)) else (some (x244000, x244001))
def impl_ownLedger.f (k : Nat) (l0_0 : List (S48)) (l0_1 : List (S63)) : Option ((List (S48)) × (List (S63))) := (impl_Account_110.f l0_0).bind fun t240 => (impl_ownLedger.l0 k l0_1 (l0_1.length : Int) 0 t240 ([] : List (S63)))
theorem impl_ownLedger.mono_l : ∀ k, (∀ y0 y1 y2 y3 y4, LeO (impl_ownLedger.l0 k y0 y1 y2 y3 y4) (impl_ownLedger.l0 (k + 1) y0 y1 y2 y3 y4))
 | 0 => fun _ _ _ _ _ r h => by simp [impl_ownLedger.l0] at h
 | k + 1 => by
  have ih0 := impl_ownLedger.mono_l k
  ·intro y0 y1 y2 y3 y4
   unfold impl_ownLedger.l0
   repeat' with_reducible first | apply ih0 | exact LeO.refl _ | exact LeO.none _ | refine LeO.ite ?_ ?_ | refine LeO.bind ?_ (fun _ => ?_)
theorem impl_ownLedger.mono : ∀ a0 a1 k, LeO (impl_ownLedger.f k a0 a1) (impl_ownLedger.f (k + 1) a0 a1) := by
 intro a0 a1 k
 have ih0 := impl_ownLedger.mono_l k
 unfold impl_ownLedger.f
 repeat' with_reducible first | apply ih0 | exact LeO.refl _ | exact LeO.none _ | refine LeO.ite ?_ ?_ | refine LeO.bind ?_ (fun _ => ?_)
set_option maxHeartbeats 8000000 in
set_option maxRecDepth 100000 in
theorem impl_ownLedger.calls (k : Nat) (A0_0 : Option Addr) (c0_0 : Nat) (l0_0 : List (S48)) (A0_1 : Option Addr) (c0_1 : Nat) (l0_1 : List (S63)) (r1 : List (S48)) (r2 : List (S63)) (w : World) (hr0_0 : Kd.C k48 w A0_0 l0_0.length l0_0) (hc0_0 : l0_0.length ≤ c0_0) (hr0_1 : Kd.C k63 w A0_1 l0_1.length l0_1) (hc0_1 : l0_1.length ≤ c0_1) (h : impl_ownLedger.f k l0_0 l0_1 = some (r1, r2)) :
 Calls Tryd.prog 76 #[.agg #[.slice A0_0 l0_0.length c0_0, .slice A0_1 l0_1.length c0_1]] w fun e w' => ∃ v0_ v1_ : Value, e = .returned (.agg #[v0_, v1_]) ∧ Kd.R k48 48 w' w.heap.size (fun _ => True) v0_ r1 ∧ Kd.S k63 63 w' w.heap.size (fun _ => True) v1_ r2 ∧ Below w.heap.size w w' := by
 have hu31 := Tryd.underlying31
 have hu63 := Tryd.underlying63
 have HR0_0 := Aside0.mk hr0_0
 have HC0_0 := Aside0.mk hc0_0
 clear hr0_0 hc0_0
 have HR0_1 := Aside0.mk hr0_1
 have HC0_1 := Aside0.mk hc0_1
 clear hr0_1 hc0_1
 have HB := Aside0.mk (Below.refl w.heap.size w)
 have H := h
 clear h
 unfold impl_ownLedger.f at H
 obtain ⟨t240, A2, H⟩ := bdY H
 replace H := Aside0.mk H
 go_enter Tryd.func76, Tryd.ntmps76
 go_wp2_with (first | ((with_reducible refine gate_dst (N := 1) rfl ?_); refine bx 1 (cs := #[.slice A0_0 l0_0.length c0_0, .slice A0_1 l0_1.length c0_1]) (t := 31) ?_; intro gb238 hg w3 hbox hb; have BK238 := Aside0.mk (hbox); have GW238 := gw hg; have GE238 := gw hg; replace HB := hB hb; clear hb hbox hg) | ((with_reducible refine gate_dst (N := 2) rfl ?_); refine bx 2 (cs := #[.slice none 0 0, .slice none 0 0]) (t := 31) ?_; intro gb239 hg w4 hbox hb; have BK239 := Aside0.mk (hbox); have GW239 := gw hg; have GE239 := gw hg; replace HB := hB hb; have NB238_239 := nl hg BK238; have NB239_238 := ng hg BK238; replace BK238 := kb BK238 hb; clear hb hbox hg; have hnb5 := NB238_239.out; have hnc5 := NB239_238.out; obtain ⟨hcz6_0, hcz6_1, hfz6_0, hfz6_1⟩ := z2 BK238) | (refine gc 8 Tryd.func110 #[.slice A0_0 l0_0.length c0_0] ?_; (with_reducible refine (impl_Account_110.calls _ _ l0_0 t240 _ ?side1 ?side2 A2.out).mono ?_); (case side1 => exact (rC (Kd.C_below HR0_0.out HB.out))); (case side2 => exact HC0_0.out); rintro e w7 ⟨v241, rfl, ho0, hb⟩; refine ⟨_, rfl, ?_⟩; have HO242 := Aside0.mk (Kd.R_lower ho0 (below_size ZZ295621)); replace BK238 := kb BK238 hb; replace BK239 := kb BK239 hb; replace HB := hB hb; (try clear hb); (try clear hb2); (try clear hk); (try clear hi); (try clear ho0); obtain ⟨Ao8, co8, eo8⟩ := Kd.R_slice HO242.out; subst eo8) | ((with_reducible refine gate_dst (N := 3) rfl ?_); refine bx 3 (cs := #[.slice none 0 0, .slice none 0 0]) (t := 31) ?_; intro gb243 hg w9 hbox hb; replace HO242 := Aside0.mk (Kd.R_below (zR HO242) hb); have BK243 := Aside0.mk (hbox); have GW243 := gw hg; have GE243 := gw hg; replace HB := hB hb; have NB238_243 := nl hg BK238; have NB243_238 := ng hg BK238; replace BK238 := kb BK238 hb; have NB239_243 := nl hg BK239; have NB243_239 := ng hg BK239; replace BK239 := kb BK239 hb; clear hb hbox hg; have hnb10 := NB243_238.out; have hnc10 := NB238_243.out; have hnb11 := NB243_239.out; have hnc11 := NB239_243.out; obtain ⟨hcz12_0, hcz12_1, hfz12_0, hfz12_1⟩ := z2 BK243; obtain ⟨hcz13_0, hcz13_1, hfz13_0, hfz13_1⟩ := z2 BK238))
 go_loopg [13] k (fun kq v13 w' => ∃ (x13_1 : Int) (x244001_1 : List (S63)) (u244001 : Value), v13 = .int .i64 x13_1 ∧ Aside0 (impl_ownLedger.l0 kq l0_1 (l0_1.length : Int) x13_1 t240 x244001_1 = some (r1, r2)) ∧ Aside0 (kq ≤ k) ∧ Aside0 (Kd.R k48 48 w' w.heap.size (fun _ => True) (.slice Ao8 t240.length co8) t240) ∧ Aside0 (Kd.S k63 63 w' w.heap.size (fun _ => True) u244001 x244001_1) ∧ Aside0 (w'.heap[gb238]? = some (.cells #[(.slice A0_0 l0_0.length c0_0), (.slice A0_1 l0_1.length c0_1)] 31 (0, 0))) ∧ Aside0 (w'.heap[gb239]? = some (.cells #[(.slice none 0 0), (.slice none 0 0)] 31 (0, 0))) ∧ Aside0 (w'.heap[gb243]? = some (.cells #[(.slice Ao8 t240.length co8), u244001] 31 (0, 0))) ∧ Aside0 (Below w.heap.size w w'))
 case atStart => exact ⟨(0), (([] : List (S63))), (.slice none 0 0), ZZ0ab324, H, ⟨Nat.le_refl _⟩, ⟨(by refine bR ?_; exact Kd.R_mono (Kd.R_far (p := ⟨gb243, 1, none⟩) (Kd.R_far (p := ⟨gb243, 0, none⟩) (Kd.R_types HO242.out BK243.out (by decide)) (fun _ hk => hk.2) (.slice Ao8 t240.length co8)) (fun _ hk => hk.2) (.slice none 0 0)) (fun _ hk => trivial))⟩, ⟨ZZc4c4be⟩, ⟨(by refine bd ?_; refine blk_far ?_ NB238_243.out _; refine bd ?_; refine blk_far ?_ NB238_243.out _; refine bd ?_; exact BK238.out)⟩, ⟨(by refine bd ?_; refine blk_far ?_ NB239_243.out _; refine bd ?_; refine blk_far ?_ NB239_243.out _; refine bd ?_; exact BK239.out)⟩, ⟨(by refine bd ?_; refine blk_put (cs := #[.slice Ao8 t240.length co8, .slice none 0 0]) ?_ 1 _ rfl; refine bd ?_; refine blk_put (cs := #[.slice none 0 0, .slice none 0 0]) ?_ 0 _ rfl; refine bd ?_; exact BK243.out)⟩, ⟨ZZ295621⟩⟩
 case round =>
  clear H
  try clear hcz12_0
  try clear hcz12_1
  try clear hcz13_0
  try clear hcz13_1
  try clear hcz6_0
  try clear hcz6_1
  try clear hfz12_0
  try clear hfz12_1
  try clear hfz13_0
  try clear hfz13_1
  try clear hfz6_0
  try clear hfz6_1
  obtain ⟨x13_1, x244001_1, u244001, rfl, HA, HK1, HO_244000, HO_244001, BK238, BK239, BK243, HB⟩ := hrel
  cases gk with
  | zero => exact absurd HA.out (by simp [impl_ownLedger.l0])
  | succ k1 =>
   have H := HA.out
   clear HA
   simp only [impl_ownLedger.l0] at H
   by_cases c14 : x13_1 < (l0_1.length : Int)
   ·rw [if_pos c14] at H
    have c14b0 := decide_eq_true c14
    clear c14
    obtain ⟨c15b0, H⟩ := ifYd H
    obtain ⟨c16b0, H⟩ := ifYd H
    obtain ⟨t246, A17, H⟩ := bdY H
    obtain ⟨c18, H⟩ := ifY H
    have LMc18 := Aside0.mk c18
    clear c18
    try rw [Option.bind_some] at H
    generalize hy249 : (x244001_1 ++ [(⟨(rd_T63 l0_1 x13_1).f0, (rd_T63 l0_1 x13_1).f1, t246⟩ : S63)] : List (S63)) = y249 at H
    have Ny249 := Aside0.mk hy249.symm
    clear hy249
    replace H := Aside0.mk H
    have p244 : 0 ≤ (x13_1 : Int) := of_decide_eq_true ZZ853400
    have q244 : x13_1 < (l0_1.length : Int) := of_decide_eq_true ZZ853400
    obtain ⟨ad244, A244_2, c244_2, e244, hx244_0, hx244_1, hx244_2, hl244_2, hi244_2⟩ := at_T63 HR0_1.out x13_1 p244 q244
    cases e244
    replace hx244_0 := (HB.out.cell (World.block_lt_of_cell? w _ hx244_0)).trans hx244_0
    replace hx244_1 := (HB.out.cell (World.block_lt_of_cell? w _ hx244_1)).trans hx244_1
    replace hx244_2 := (HB.out.cell (World.block_lt_of_cell? w _ hx244_2)).trans hx244_2
    have HR244_2 := Aside0.mk hi244_2
    have HC244_2 := Aside0.mk hl244_2
    clear hi244_2 hl244_2
    replace p244 := eq_true p244
    replace q244 := eq_true q244
    go_wp2_with (first | ((with_reducible refine gate_dst (N := 5) rfl ?_); refine bx 5 (cs := #[.int .i64 0, .string (⟨#[]⟩ : ByteArray), .slice none 0 0]) (t := 63) ?_; intro gb245 hg w19 hbox hb; replace HO_244000 := Aside0.mk (Kd.R_below (zR HO_244000) hb); replace HO_244001 := Aside0.mk (Kd.S_below (Kd.S_elderB (zS HO_244001) gb245 (Nat.le_of_eq hg.symm)) hb); have BK245 := Aside0.mk (hbox); have GW245 := gw hg; have GE245 := gw hg; replace HB := hB hb; have NB238_245 := nl hg BK238; have NB245_238 := ng hg BK238; replace BK238 := kb BK238 hb; have NB239_245 := nl hg BK239; have NB245_239 := ng hg BK239; replace BK239 := kb BK239 hb; have NB243_245 := nl hg BK243; have NB245_243 := ng hg BK243; replace BK243 := kb BK243 hb; clear hb hbox hg; have hnb20 := NB245_238.out; have hnc20 := NB238_245.out; have hnb21 := NB245_239.out; have hnc21 := NB239_245.out; have hnb22 := NB245_243.out; have hnc22 := NB243_245.out; obtain ⟨hcz23_0, hcz23_1, hcz23_2, hfz23_0, hfz23_1, hfz23_2⟩ := z3 BK245) | (refine gc 19 Tryd.func92 #[.slice A244_2 ((rd_T63 l0_1 x13_1).f2).length c244_2] ?_; (with_reducible refine (impl_Posting.calls _ _ ((rd_T63 l0_1 x13_1).f2) t246 _ ?side1 ?side2 A17.out).mono ?_); (case side1 => exact Kd.C_below HR244_2.out ZZ295621); (case side2 => exact HC244_2.out); rintro e w24 ⟨v247, rfl, ho0, hb⟩; refine ⟨_, rfl, ?_⟩; replace HO_244000 := Aside0.mk (Kd.R_below (by refine bR ?_; exact (Kd.R_mono (Kd.R_far (p := ⟨gb245, 2, none⟩) (Kd.R_far (p := ⟨gb245, 1, none⟩) (Kd.R_far (p := ⟨gb245, 0, none⟩) (Kd.R_types HO_244000.out BK245.out (by decide)) (fun _ hk => hk.2) (.int .i64 ((rd_T63 l0_1 x13_1).f0))) (fun _ hk => hk.2) (.string ((rd_T63 l0_1 x13_1).f1))) (fun _ hk => hk.2) (.slice A244_2 ((rd_T63 l0_1 x13_1).f2).length c244_2)) (fun _ h_ => h_.1))) hb); replace HO_244001 := Aside0.mk (Kd.S_elder' (by refine bS ?_; exact (Kd.S_mono (Kd.S_far (p := ⟨gb245, 2, none⟩) (Kd.S_far (p := ⟨gb245, 1, none⟩) (Kd.S_far (p := ⟨gb245, 0, none⟩) (Kd.S_mono HO_244001.out (fun k_ hk => (⟨hk, hk.2⟩ : _ ∧ k_ ≠ gb245))) (fun _ hk => hk.2) (.int .i64 ((rd_T63 l0_1 x13_1).f0))) (fun _ hk => hk.2) (.string ((rd_T63 l0_1 x13_1).f1))) (fun _ hk => hk.2) (.slice A244_2 ((rd_T63 l0_1 x13_1).f2).length c244_2)) (fun _ h_ => h_.1))) (Kd.R_base ho0) hb); have HO248 := Aside0.mk (Kd.R_lower ho0 (below_size ZZ295621)); replace BK238 := Aside0.mk (blk_below (g := gb238) (o := .cells #[.slice A0_0 l0_0.length c0_0, .slice (some ad244) l0_1.length c0_1] 31 (0, 0)) (by refine bd ?_; refine blk_far ?_ NB238_245.out _; refine bd ?_; refine blk_far ?_ NB238_245.out _; refine bd ?_; refine blk_far ?_ NB238_245.out _; refine bd ?_; exact BK238.out) hb); replace BK239 := Aside0.mk (blk_below (g := gb239) (o := .cells #[.slice none 0 0, .slice none 0 0] 31 (0, 0)) (by refine bd ?_; refine blk_far ?_ NB239_245.out _; refine bd ?_; refine blk_far ?_ NB239_245.out _; refine bd ?_; refine blk_far ?_ NB239_245.out _; refine bd ?_; exact BK239.out) hb); replace BK243 := Aside0.mk (blk_below (g := gb243) (o := .cells #[.slice Ao8 t240.length co8, u244001] 31 (0, 0)) (by refine bd ?_; refine blk_far ?_ NB243_245.out _; refine bd ?_; refine blk_far ?_ NB243_245.out _; refine bd ?_; refine blk_far ?_ NB243_245.out _; refine bd ?_; exact BK243.out) hb); replace BK245 := Aside0.mk (blk_below (g := gb245) (o := .cells #[.int .i64 ((rd_T63 l0_1 x13_1).f0), .string ((rd_T63 l0_1 x13_1).f1), .slice A244_2 ((rd_T63 l0_1 x13_1).f2).length c244_2] 63 (0, 0)) (by refine bd ?_; refine blk_put (cs := #[.int .i64 ((rd_T63 l0_1 x13_1).f0), .string ((rd_T63 l0_1 x13_1).f1), .slice none 0 0]) ?_ 2 _ rfl; refine bd ?_; refine blk_put (cs := #[.int .i64 ((rd_T63 l0_1 x13_1).f0), .string (⟨#[]⟩ : ByteArray), .slice none 0 0]) ?_ 1 _ rfl; refine bd ?_; refine blk_put (cs := #[.int .i64 0, .string (⟨#[]⟩ : ByteArray), .slice none 0 0]) ?_ 0 _ rfl; refine bd ?_; exact BK245.out) hb); replace HB := hB hb; (try clear hb); (try clear hb2); (try clear hk); (try clear hi); (try clear ho0); obtain ⟨Ao25, co25, eo25⟩ := Kd.R_slice HO248.out; subst eo25; obtain ⟨hcz26_0, hcz26_1, hcz26_2, hfz26_0, hfz26_1, hfz26_2⟩ := z3 BK245) | ((with_reducible refine gate_store (t := 61) (p := 20) rfl ?_); refine store_event (t := 61) (p := 20) (v := ?vo_w27) (w1 := (w24.setCell ⟨gb245, 2, none⟩ (.slice Ao25 t246.length co25))) ?hg ?ho ?hn ?hr ?_; (case ho => rfl); (case hg => rfl); (case hn => rfl); (case hr => first | (go_simp; done) | (go_simp; rfl)); intro w27 hw; replace HO_244000 : Aside0 (Kd.R k48 48 w27 w.heap.size (fun _ => True) (.slice Ao8 t240.length co8) t240) := ⟨(by rw [hw]; exact (by refine bR ?_; exact Kd.R_mono (Kd.R_far (p := ⟨gb245, 2, none⟩) (Kd.R_types HO_244000.out BK245.out (by decide)) (fun _ hk => hk.2) (.slice Ao25 t246.length co25)) (fun _ hk => trivial)))⟩; replace HO_244001 : Aside0 (Kd.S k63 63 w27 w.heap.size (fun k_ => some k_ ≠ (.slice Ao25 t246.length co25 : Value).ownBlock ∧ k_ ≠ gb245) u244001 x244001_1) := ⟨(by rw [hw]; exact (by refine bS ?_; exact Kd.S_mono (Kd.S_far (p := ⟨gb245, 2, none⟩) (Kd.S_mono HO_244001.out (fun k_ hk => (⟨hk, hk.1.2⟩ : _ ∧ k_ ≠ gb245))) (fun _ hk => hk.2) (.slice Ao25 t246.length co25)) (fun _ hk => ⟨hk.1.2, hk.1.1.2⟩)))⟩; replace HO248 : Aside0 (Kd.R k70 70 w27 w.heap.size (fun _ => True) (.slice Ao25 t246.length co25) t246) := ⟨(by rw [hw]; exact (by refine bR ?_; exact Kd.R_mono (Kd.R_far (p := ⟨gb245, 2, none⟩) (Kd.R_types HO248.out BK245.out (by decide)) (fun _ hk => hk.2) (.slice Ao25 t246.length co25)) (fun _ hk => trivial)))⟩; replace BK238 : Aside0 (w27.heap[gb238]? = some (.cells #[.slice A0_0 l0_0.length c0_0, .slice (some ad244) l0_1.length c0_1] 31 (0, 0))) := ⟨(by rw [hw]; exact (by refine bd ?_; refine blk_far ?_ NB238_245.out _; refine bd ?_; exact BK238.out))⟩; replace BK239 : Aside0 (w27.heap[gb239]? = some (.cells #[.slice none 0 0, .slice none 0 0] 31 (0, 0))) := ⟨(by rw [hw]; exact (by refine bd ?_; refine blk_far ?_ NB239_245.out _; refine bd ?_; exact BK239.out))⟩; replace BK243 : Aside0 (w27.heap[gb243]? = some (.cells #[.slice Ao8 t240.length co8, u244001] 31 (0, 0))) := ⟨(by rw [hw]; exact (by refine bd ?_; refine blk_far ?_ NB243_245.out _; refine bd ?_; exact BK243.out))⟩; replace BK245 : Aside0 (w27.heap[gb245]? = some (.cells #[.int .i64 ((rd_T63 l0_1 x13_1).f0), .string ((rd_T63 l0_1 x13_1).f1), .slice Ao25 t246.length co25] 63 (0, 0))) := ⟨(by rw [hw]; exact (by refine bd ?_; refine blk_put (cs := #[.int .i64 ((rd_T63 l0_1 x13_1).f0), .string ((rd_T63 l0_1 x13_1).f1), .slice A244_2 ((rd_T63 l0_1 x13_1).f2).length c244_2]) ?_ 2 _ rfl; refine bd ?_; exact BK245.out))⟩; replace HB : Aside0 (Below w.heap.size w w27) := ⟨(by rw [hw]; exact ZZ295621)⟩; clear hw; have hnb28 := NB243_238.out; have hnc28 := NB238_243.out; have hnb29 := NB243_239.out; have hnc29 := NB239_243.out; obtain ⟨hcz30_0, hcz30_1, hfz30_0, hfz30_1⟩ := z2 BK243; obtain ⟨hcz31_0, hcz31_1, hcz31_2, hfz31_0, hfz31_1, hfz31_2⟩ := z3 BK245) | ((with_reducible refine gate_builtin (b := .append) (xs := #[.tmp 22, .tmp 24]) rfl ?_); at_builtin; refine Kd.S_append k63 (w0 := w) w.heap.size rfl (.tmp 22) (.tmp 24) 29 63 (.agg #[(.int .i64 0), (.string ⟨#[]⟩), (.slice none 0 0)]) 48 rfl Tryd.underlying29 info63 rfl (by decide) (by omega) u244001 x244001_1 (⟨(rd_T63 l0_1 x13_1).f0, (rd_T63 l0_1 x13_1).f1, t246⟩ : S63) [.int .i64 ((rd_T63 l0_1 x13_1).f0), .string ((rd_T63 l0_1 x13_1).f1), .slice Ao25 t246.length co25] (fun k_ => k_ ≠ gb245) (fun k_ => some k_ = (.slice Ao25 t246.length co25 : Value).ownBlock) rfl rfl ?aP (fun k_ hk_ => ((Kd.R_mono (ok' := fun k_ => ((fun k_ => k_ ≠ gb245)) k_ ∧ some k_ ≠ (u244001 : Value).ownBlock) (Kd.R_types (Kd.R_apart' (HO248.out) (Kd.S_typed HO_244001.out) (by decide)) BK245.out (by decide)) (fun k_ hk => ⟨hk.2, hk.1.2⟩))).1 k_ hk_.symm) ?aF ?aO ?aB ?aS ?aL ?_; (case aP => exact k63_mkM _ _ _ (⟨(rd_T63 l0_1 x13_1).f0, (rd_T63 l0_1 x13_1).f1, t246⟩ : S63) (Kd.R_mono (Kd.R_tight rfl (Kd.R_mono (ok' := fun k_ => ((fun k_ => k_ ≠ gb245)) k_ ∧ some k_ ≠ (u244001 : Value).ownBlock) (Kd.R_types (Kd.R_apart' (HO248.out) (Kd.S_typed HO_244001.out) (by decide)) BK245.out (by decide)) (fun k_ hk => ⟨hk.2, hk.1.2⟩))) (fun _ h_ => h_))); (case aB => exact ZZ295621); (case aF => exact (fun k_ hk => Kd.freshB (zB BK245) k_ hk)); (case aO => exact (by refine bS ?_; exact Kd.S_mono HO_244001.out (fun k_ hk => ⟨hk.2, fun e_ => hk.1 e_⟩))); (case aS => exact (below_size ZZ295621)); (case aL => have := LMc18.out; omega); intro v250 w32 ho hb hg hat; rw [← Ny249.out] at ho; replace HO_244000 := Aside0.mk (Kd.R_over' (zR HO_244000) (Kd.S_typed (zS HO_244001)) (by decide) hg); replace BK238 := Aside0.mk (blk_grown (zB BK238) hg (Kd.S_ne HO_244001.out BK238.out (by decide))); replace BK239 := Aside0.mk (blk_grown (zB BK239) hg (Kd.S_ne HO_244001.out BK239.out (by decide))); replace BK243 := Aside0.mk (blk_grown (zB BK243) hg (Kd.S_ne HO_244001.out BK243.out (by decide))); replace BK245 := Aside0.mk (blk_grown (zB BK245) hg (Kd.S_away HO_244001.out (fun _ hk => hk.2))); replace HB := Aside0.mk (hb); have HO251 := Aside0.mk (ho); clear HO_244001; clear HO248; clear ho hb hg hat; obtain ⟨Ao33, co33, eo33⟩ := Kd.S_slice HO251.out; subst eo33; obtain ⟨hcz34_0, hcz34_1, hfz34_0, hfz34_1⟩ := z2 BK243))
    go_roundg k1
    case measure => have := HK1.out; omega
    case rel => exact ⟨(wrap64 (x13_1 + 1)), (y249), (.slice Ao33 y249.length co33), ZZ0ab324, H, kle, ⟨(by refine bR ?_; exact Kd.R_mono (Kd.R_far (p := ⟨gb243, 1, none⟩) (Kd.R_types HO_244000.out BK243.out (by decide)) (fun _ hk => hk.2) (.slice Ao33 y249.length co33)) (fun _ hk => trivial))⟩, ⟨(by refine bS ?_; exact Kd.S_mono (Kd.S_far (p := ⟨gb243, 1, none⟩) (Kd.S_types HO251.out BK243.out (by decide)) (fun _ hk => hk.2) (.slice Ao33 y249.length co33)) (fun _ hk => trivial))⟩, ⟨(by refine bd ?_; refine blk_far ?_ NB238_243.out _; refine bd ?_; exact BK238.out)⟩, ⟨(by refine bd ?_; refine blk_far ?_ NB239_243.out _; refine bd ?_; exact BK239.out)⟩, ⟨(by refine bd ?_; refine blk_put (cs := #[.slice Ao8 t240.length co8, u244001]) ?_ 1 _ rfl; refine bd ?_; exact BK243.out)⟩, ⟨ZZ295621⟩⟩
   rw [if_neg c14] at H
   have c14b0 := decide_eq_false c14
   clear c14
   simp only [Option.some.injEq, Prod.mk.injEq] at H
   obtain ⟨rfl, rfl⟩ := H
   have hnb35 := NB243_238.out
   have hnc35 := NB238_243.out
   have hnb36 := NB243_239.out
   have hnc36 := NB239_243.out
   obtain ⟨hcz37_0, hcz37_1, hfz37_0, hfz37_1⟩ := z2 BK243
   have hnb38 := NB239_238.out
   have hnc38 := NB238_239.out
   obtain ⟨hcz39_0, hcz39_1, hfz39_0, hfz39_1⟩ := z2 BK239
   obtain ⟨Ao40, co40, eo40⟩ := Kd.S_slice HO_244001.out
   subst eo40
   go_wp2
   refine bodyPost_ret (results_cell_row rfl _ _ gb239 31 #[.slice Ao8 t240.length co8, .slice Ao40 x244001_1.length co40] (0, 0) _ rfl (by refine bd ?_; refine blk_put (cs := #[.slice Ao8 t240.length co8, .slice none 0 0]) ?_ 1 _ rfl; refine bd ?_; refine blk_put (cs := #[.slice none 0 0, .slice none 0 0]) ?_ 0 _ rfl; refine bd ?_; exact BK239.out) Tryd.underlying31 rfl (by kernel_rfl)) rfl ?_
   exact ⟨_, _, ZZab01d2, (by refine bR ?_; exact Kd.R_mono (Kd.R_far (p := ⟨gb239, 1, none⟩) (Kd.R_far (p := ⟨gb239, 0, none⟩) (Kd.R_types HO_244000.out BK239.out (by decide)) (fun _ hk => hk.2) (.slice Ao8 t240.length co8)) (fun _ hk => hk.2) (.slice Ao40 x244001_1.length co40)) (fun _ hk => trivial)), (by refine bS ?_; exact Kd.S_mono (Kd.S_far (p := ⟨gb239, 1, none⟩) (Kd.S_far (p := ⟨gb239, 0, none⟩) (Kd.S_types HO_244001.out BK239.out (by decide)) (fun _ hk => hk.2) (.slice Ao8 t240.length co8)) (fun _ hk => hk.2) (.slice Ao40 x244001_1.length co40)) (fun _ hk => trivial)), ZZ295621⟩
def impl_BookEntry.f (l0 : List (S63)) : Option ((List (S63))) := (some (([] : List (S63)) : List (S63))).bind fun y252 => (if y252.length + l0.length < 2932031007402 then (some (y252 ++ l0)) else (none))
set_option maxHeartbeats 8000000 in
set_option maxRecDepth 100000 in
theorem impl_BookEntry.calls (P0_ : Nat → Prop) (A0 : Option Addr) (c0 : Nat) (l0 : List (S63)) (r : List (S63)) (w : World) (hs0 : Kd.V k63 63 w w.heap.size (fun k_ => P0_ k_) (.slice A0 l0.length c0) l0) (h : impl_BookEntry.f l0 = some r) :
 Calls Tryd.prog 84 #[.slice A0 l0.length c0] w fun e w' => ∃ v0_ : Value, e = .returned (v0_) ∧ Kd.N k63 63 w' w.heap.size (fun k_ => (P0_ k_ ∨ w.heap.size ≤ k_)) v0_ r ∧ Below w.heap.size w w' := by
 have HO0 := Aside0.mk (show Kd.V k63 63 w w.heap.size (fun k_ => (P0_ k_ ∨ w.heap.size ≤ k_)) (.slice A0 l0.length c0) l0 from Kd.V_mono hs0 (fun k_ hk => .inl hk))
 have HB := Aside0.mk (Below.refl w.heap.size w)
 have H := h
 clear h
 unfold impl_BookEntry.f at H
 try rw [Option.bind_some] at H
 generalize hy252 : (([] : List (S63)) : List (S63)) = y252 at H
 have Ny252 := Aside0.mk hy252.symm
 clear hy252
 obtain ⟨c2, H⟩ := ifY H
 have LMc2 := Aside0.mk c2
 clear c2
 try rw [Option.bind_some] at H
 generalize hy255 : (y252 ++ l0 : List (S63)) = y255 at H
 have Ny255 := Aside0.mk hy255.symm
 clear hy255
 obtain rfl := Option.some.inj H
 rcases A0 with _ | a0_
 ·have hl0 : l0 = [] := List.eq_nil_of_length_eq_zero (Nat.eq_zero_of_not_pos (fun hp_ => by obtain ⟨_, e_, _⟩ := ((Kd.V_reads' HO0.out).2.2).2.2 hp_; cases e_))
  have HY_ := Aside0.mk (show y255 = [] by rw [Ny255.out, Ny252.out, hl0]; rfl)
  clear hl0
  have hq_ := fun (W : World) => Go.Lib.run_eql_slice_nil_nil (P := Tryd.prog) W l0.length c0 Tryd.underlying29
  go_enter Tryd.func84, Tryd.ntmps84
  go_wp2
  go_ret
  exact ⟨_, rfl, (by rw [HY_.out]; exact Kd.N_nil _ _ _ _ _), ZZ605003⟩
 have hq_ := fun (W : World) => Go.Lib.run_eql_slice_some_nil (P := Tryd.prog) W a0_ l0.length c0 Tryd.underlying29
 go_enter Tryd.func84, Tryd.ntmps84
 go_wp2_with (first | ((with_reducible refine gate_dst (N := 5) rfl ?_); refine Kd.N_lit k63 _ 63 ?hg (N' := 5) ?hd (xs := ([] : List (S63))) (inner := []) (ok := (fun k_ => (P0_ k_ ∨ w.heap.size ≤ k_))) (okp := (fun k_ => (P0_ k_ ∨ w.heap.size ≤ k_))) ?hr ?hp (fun _ hk => hk) ((show ∀ k_, w.heap.size ≤ k_ → (fun k_ => (P0_ k_ ∨ w.heap.size ≤ k_)) k_ from fun k_ hk => (.inr (Nat.le_trans (below_size ZZ605003) hk))) _ (Nat.le_refl _)) (Below.refl _ _) (Nat.le_refl _) (by simp) ?_; (case hd => rfl); (case hg => rfl); (case hr => first | (go_simp; done) | (go_simp; rfl)); (case hp => exact (Reps.none _ _)); intro v253 w3 ho4 hb hg_ hnew_; clear hg_ hnew_; (first | rw [← Ny252.out] at ho4 | (simp only [Int.reduceToNat] at ho4; rw [← Ny252.out] at ho4)); replace HO0 := Aside0.mk (Kd.V_elder' (by refine bV ?_; exact HO0.out) (Kd.N_base ho4) hb); have HO254 := Aside0.mk (Kd.N_lower ho4 (below_size ZZ605003)); replace HB := hB hb; clear hb ho4) | ((with_reducible refine gate_builtin (b := .append) (xs := #[.tmp 5, .tmp 6]) rfl ?_); at_builtin; refine Kd.N_append_rows k63 (w0 := w) w.heap.size rfl (.tmp 5) (.tmp 6) 29 63 (.agg #[(.int .i64 0), (.string ⟨#[]⟩), (.slice none 0 0)]) 48 rfl Tryd.underlying29 info63 rfl (by decide) (by omega) v253 y252 l0 _ _ _ (fun k_ => (P0_ k_ ∨ w.heap.size ≤ k_)) (fun k_ => ((fun k_ => (P0_ k_ ∨ w.heap.size ≤ k_))) k_ ∧ some k_ ≠ (v253 : Value).ownBlock) rfl rfl ?aO ?aR (fun _ hk => hk) ?aF ?aB ?aS ?aL ?_; (case aR => exact (by skip; exact Kd.V_F (Kd.V_mono (ok' := (fun k_ => ((fun k_ => (P0_ k_ ∨ w.heap.size ≤ k_))) k_ ∧ some k_ ≠ (v253 : Value).ownBlock)) (HO0.out) (fun k_ hk => ⟨hk.1, hk.2⟩)))); (case aB => exact ZZ605003); (case aF => exact (fun k_ hk => (.inr (Nat.le_trans (below_size ZZ605003) hk)))); (case aO => exact (by refine bN ?_; exact HO254.out)); (case aS => exact (below_size ZZ605003)); (case aL => have := LMc2.out; omega); intro v256 w5 ho hb hg hat; rw [← Ny255.out] at ho; replace HO0 := Aside0.mk (Kd.V_afterv (ok := (fun k_ => (P0_ k_ ∨ w.heap.size ≤ k_))) (by refine bV ?_; exact HO0.out) hg hat); replace HB := Aside0.mk (hb); have HO257 := Aside0.mk (ho); clear HO254; clear ho hb hg hat))
 go_ret
 exact ⟨_, ZZab01d2, (by refine bN ?_; exact HO257.out), ZZ605003⟩
end Go.Proofs.YtccdjchaaeligaaDoor.XFnExactCloseAccounts

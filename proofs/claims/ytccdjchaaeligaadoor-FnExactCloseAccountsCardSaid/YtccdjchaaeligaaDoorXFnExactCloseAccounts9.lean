import Derived.Test.YtccdjchaaeligaaDoorXFnExactCloseAccounts1
import Derived.Test.YtccdjchaaeligaaDoorXFnExactCloseAccounts0
import Derived.Test.YtccdjchaaeligaaDoorXFnExactCloseAccounts7
import Derived.Test.YtccdjchaaeligaaDoorXFnExactCloseAccounts8
namespace Go.Proofs.YtccdjchaaeligaaDoor.XFnExactCloseAccounts
open Go.Proofs.YtccdjchaaeligaaDoor.Short Go.RowKit Go.Proofs.YtccdjchaaeligaaDoorW.PrintWords Go.Proofs.YtccdjchaaeligaaDoorW.PrintLast Go.Proofs.YtccdjchaaeligaaDoorW.PrintMore
attribute [local go_sem] max2_int min2_int max_two min_two max_three min_three max_four min_four
set_option linter.unusedVariables false
set_option linter.unusedSimpArgs false
theorem ZZ1186ef {p : Prop} (h : p := by refine bV ?_; exact HO0_1.out) : p := h
theorem ZZ6ff8a7 {p : Prop} (h : p := by refine bV ?_; exact HO1_2.out) : p := h
theorem ZZ19826e {p : Prop} (h : p := by (try simp only [List.map_toArray, List.map_cons, List.map_nil]); first | done | rfl | (simp only [List.length_drop, List.length_take]; rfl)) : p := h
theorem ZZ014134 {p : Prop} (h : p := by first | (simp only [putAll, Act.put, List.setIfInBounds_toArray, List.set_cons_zero, List.set_cons_succ]; done) | (simp only [putAll, Act.put, List.setIfInBounds_toArray, List.set_cons_zero, List.set_cons_succ]; rfl)) : p := h
theorem ZZ4a4b0f {p : Prop} (h : p := by refine bV ?_; exact Kd.V_mono HO0_1.out (fun _ hk => ⟨hk.1.1.1.1, ⟨hk.2, ⟨hk.1.1.1.2, ⟨hk.1.1.2, hk.1.2⟩⟩⟩⟩)) : p := h
theorem ZZ0f2d0b {p : Prop} (h : p := by refine bV ?_; exact Kd.V_mono HO1_2.out (fun _ hk => ⟨hk.1.1.1.1, ⟨hk.2, ⟨hk.1.1.1.2, ⟨hk.1.1.2, hk.1.2⟩⟩⟩⟩)) : p := h
theorem ZZe7caad {p : Prop} (h : p := by refine bN ?_; exact HO264.out) : p := h
theorem ZZf86480 {p : Prop} (h : p := by refine bN ?_; exact HO267.out) : p := h
theorem ZZd5e4bd {p : Prop} (h : p := by refine bV ?_; exact Kd.V_mono HO0_1.out (fun _ hk => ⟨hk.1.1, ⟨hk.2, ⟨hk.1.2.1, ⟨hk.1.2.2.1, ⟨hk.1.2.2.2.1, hk.1.2.2.2.2⟩⟩⟩⟩⟩)) : p := h
theorem ZZf2d862 {p : Prop} (h : p := by refine bV ?_; exact Kd.V_mono HO1_2.out (fun _ hk => ⟨hk.1.1, ⟨hk.2, ⟨hk.1.2.1, ⟨hk.1.2.2.1, ⟨hk.1.2.2.2.1, hk.1.2.2.2.2⟩⟩⟩⟩⟩)) : p := h
theorem ZZ6f02c8 {p : Prop} (h : p := by refine bN ?_; exact Kd.N_mono HO267.out (fun _ hk => ⟨hk.1.1, ⟨hk.2, ⟨hk.1.2.1, ⟨hk.1.2.2.1, hk.1.2.2.2⟩⟩⟩⟩)) : p := h
theorem ZZ74a3b1 {p : Prop} (h : p := by refine bV ?_; exact Kd.V_mono HO0_1.out (fun _ hk => ⟨hk.1.1, ⟨hk.1.2.1, ⟨hk.1.2.2.1, ⟨hk.1.2.2.2.1, ⟨hk.1.2.2.2.2, hk.2⟩⟩⟩⟩⟩)) : p := h
theorem ZZ432988 {p : Prop} (h : p := by refine bV ?_; exact Kd.V_mono HO1_2.out (fun _ hk => ⟨hk.1.1, ⟨hk.1.2.1, ⟨hk.1.2.2.1, ⟨hk.1.2.2.2.1, ⟨hk.1.2.2.2.2, hk.2⟩⟩⟩⟩⟩)) : p := h
theorem ZZ6ebf87 {p : Prop} (h : p := by refine bV ?_; exact Kd.V_mono HO0_1.out (fun _ hk => ⟨hk.1.1, ⟨hk.1.2.1, ⟨hk.2, ⟨hk.1.2.2.1, ⟨hk.1.2.2.2.1, hk.1.2.2.2.2⟩⟩⟩⟩⟩)) : p := h
theorem ZZ14e881 {p : Prop} (h : p := by refine bV ?_; exact Kd.V_mono HO1_2.out (fun _ hk => ⟨hk.1.1, ⟨hk.1.2.1, ⟨hk.2, ⟨hk.1.2.2.1, ⟨hk.1.2.2.2.1, hk.1.2.2.2.2⟩⟩⟩⟩⟩)) : p := h
theorem ZZb4ffe9 {p : Prop} (h : p := by refine bN ?_; exact Kd.N_mono HO267.out (fun _ hk => ⟨hk.1.1, ⟨hk.2, ⟨hk.1.2.1, ⟨hk.1.2.2.1, ⟨hk.1.2.2.2.1, hk.1.2.2.2.2⟩⟩⟩⟩⟩)) : p := h
theorem ZZff724a {p : Prop} (h : p := by refine bV ?_; exact Kd.V_mono HO0_1.out (fun _ hk => ⟨hk.1.1, ⟨hk.1.2.1, ⟨hk.2, ⟨hk.1.2.2.1, ⟨hk.1.2.2.2.1, ⟨hk.1.2.2.2.2.1, hk.1.2.2.2.2.2⟩⟩⟩⟩⟩⟩)) : p := h
theorem ZZbd8012 {p : Prop} (h : p := by refine bV ?_; exact Kd.V_mono HO1_2.out (fun _ hk => ⟨hk.1.1, ⟨hk.1.2.1, ⟨hk.2, ⟨hk.1.2.2.1, ⟨hk.1.2.2.2.1, ⟨hk.1.2.2.2.2.1, hk.1.2.2.2.2.2⟩⟩⟩⟩⟩⟩)) : p := h
theorem ZZf947e1 {p : Prop} (h : p := by refine bN ?_; exact HO270.out) : p := h
theorem ZZ22d34a {p : Prop} (h : p := by refine bV ?_; exact Kd.V_mono HO0_1.out (fun _ hk => ⟨hk.1.1, ⟨hk.1.2.1, ⟨hk.1.2.2.1, ⟨hk.1.2.2.2.1, ⟨hk.1.2.2.2.2.1, ⟨hk.1.2.2.2.2.2, hk.2⟩⟩⟩⟩⟩⟩)) : p := h
theorem ZZb93140 {p : Prop} (h : p := by refine bV ?_; exact Kd.V_mono HO1_2.out (fun _ hk => ⟨hk.1.1, ⟨hk.1.2.1, ⟨hk.1.2.2.1, ⟨hk.1.2.2.2.1, ⟨hk.1.2.2.2.2.1, ⟨hk.1.2.2.2.2.2, hk.2⟩⟩⟩⟩⟩⟩)) : p := h
theorem ZZc4c9ba {p : Prop} (h : p := by refine bN ?_; exact Kd.N_mono HO267.out (fun _ hk => ⟨hk.1.1, ⟨hk.1.2.1, ⟨hk.1.2.2.1, ⟨hk.1.2.2.2.1, ⟨hk.1.2.2.2.2, hk.2⟩⟩⟩⟩⟩)) : p := h
theorem ZZ15a908 {p : Prop} (h : p := by refine bR ?_; exact Kd.R_mono HO273.out (fun _ hk => hk.1)) : p := h
theorem ZZ324fb2 {p : Prop} (h : p := by refine bS ?_; exact Kd.S_mono HO276.out (fun _ hk => ⟨hk.1.1.1.1, ⟨hk.1.1.2, ⟨hk.1.2, hk.2⟩⟩⟩)) : p := h
theorem ZZf4214b {p : Prop} (h : p := by first | exact Kd.R_nil _ _ _ _ _ | exact Kd.N_nil _ _ _ _ _ | exact Kd.V_nil _ _ _ _ _ | exact Kd.Q_nil _ _ _ _ _ | exact Kd.S_nil _ _ _ _ _) : p := h
def impl_PostEntry.f (k : Nat) (l0_0 : List (S48)) (l0_1 : List (S63)) (a1_0 : Int) (a1_1 : ByteArray) (l1_2 : List (S70)) : Option ((List (S48)) × (List (S63)) × Bool) := (impl_IsValidLedger.f k l0_0 l0_1).bind fun t261 => (if t261 = true then ((impl_BookEntry.f l0_1).bind fun t262 => ((some (([(⟨a1_0, a1_1, l1_2⟩ : S63)] : List (S63)) : List (S63))).bind fun y265 => (if t262.length + y265.length < 2932031007402 then ((impl_ownLedger.f k l0_0 (t262 ++ y265)).bind fun bt271 => ((impl_IsValidLedger.f k bt271.1 bt271.2).bind fun t278 => (if t278 = true then (some (bt271.1, bt271.2, true)) else (some (([] : List (S48)), ([] : List (S63)), false))))) else (none)))) else (some (([] : List (S48)), ([] : List (S63)), false)))
theorem impl_PostEntry.mono : ∀ a0 a1 a2 a3 a4 k, LeO (impl_PostEntry.f k a0 a1 a2 a3 a4) (impl_PostEntry.f (k + 1) a0 a1 a2 a3 a4) := by
 intro a0 a1 a2 a3 a4 k
 unfold impl_PostEntry.f
 repeat' with_reducible first | apply impl_IsValidLedger.mono | apply impl_ownLedger.mono | exact LeO.refl _ | exact LeO.none _ | refine LeO.ite ?_ ?_ | refine LeO.bind ?_ (fun _ => ?_)
def impl_PostEntry.T3 : Bool × List (List Nat × List Nat) := (true, [([], []), ([0], [0]), ([], []), ([2], [2]), ([3], [3]), ([], []), ([5], [5]), ([4, 6, 4], [4, 6]), ([1, 7], [1, 7]), ([8, 7], [8]), ([], []), ([10, 9, 9, 0, 1, 2, 3, 4, 5, 6, 7, 8, 9, 10], [9, 10])])
def impl_PostEntry.B3 : List Nat := [0, 1, 0, 4, 12, 0, 32, 124, 255, 511, 0, 2047]
theorem impl_PostEntry.tab3 : rtab .any (opsOf Tryd.f38 3) = impl_PostEntry.T3 := by kernel_rfl
theorem impl_PostEntry.bits3 : waitsOk impl_PostEntry.T3.2 impl_PostEntry.B3 = true := by kernel_rfl
set_option maxHeartbeats 8000000 in
set_option maxRecDepth 100000 in
theorem impl_PostEntry.calls (k : Nat) (A0_0 : Option Addr) (c0_0 : Nat) (l0_0 : List (S48)) (P0_1_ : Nat → Prop) (A0_1 : Option Addr) (c0_1 : Nat) (l0_1 : List (S63)) (a1_0 : Int) (a1_1 : ByteArray) (P1_2_ : Nat → Prop) (A1_2 : Option Addr) (c1_2 : Nat) (l1_2 : List (S70)) (r1 : List (S48)) (r2 : List (S63)) (r3 : Bool) (w : World) (hr0_0 : Kd.C k48 w A0_0 l0_0.length l0_0) (hc0_0 : l0_0.length ≤ c0_0) (hs0_1 : Kd.V k63 63 w w.heap.size (fun k_ => P0_1_ k_) (.slice A0_1 l0_1.length c0_1) l0_1) (hs1_2 : Kd.V k70 70 w w.heap.size (fun k_ => P1_2_ k_) (.slice A1_2 l1_2.length c1_2) l1_2) (h : impl_PostEntry.f k l0_0 l0_1 a1_0 a1_1 l1_2 = some (r1, r2, r3)) :
 Calls Tryd.prog 38 #[.agg #[.slice A0_0 l0_0.length c0_0, .slice A0_1 l0_1.length c0_1], .agg #[.int .i64 a1_0, .string a1_1, .slice A1_2 l1_2.length c1_2]] w fun e w' => ∃ v0_ v1_ : Value, e = .returned (.tuple #[.agg #[v0_, v1_], .bool r3]) ∧ Kd.R k48 48 w' w.heap.size (fun k_ => (w.heap.size ≤ k_)) v0_ r1 ∧ Kd.S k63 63 w' w.heap.size (fun k_ => (w.heap.size ≤ k_)) v1_ r2 ∧ Below w.heap.size w w' := by
 have hu31 := Tryd.underlying31
 have hu63 := Tryd.underlying63
 have HR0_0 := Aside0.mk hr0_0
 have HC0_0 := Aside0.mk hc0_0
 clear hr0_0 hc0_0
 have HO0_1 := Aside0.mk (show Kd.V k63 63 w w.heap.size (fun k_ => ((P0_1_ k_ ∨ P1_2_ k_) ∨ w.heap.size ≤ k_)) (.slice A0_1 l0_1.length c0_1) l0_1 from Kd.V_mono hs0_1 (fun k_ hk => .inl (.inl hk)))
 have HO1_2 := Aside0.mk (show Kd.V k70 70 w w.heap.size (fun k_ => ((P0_1_ k_ ∨ P1_2_ k_) ∨ w.heap.size ≤ k_)) (.slice A1_2 l1_2.length c1_2) l1_2 from Kd.V_mono hs1_2 (fun k_ hk => .inl (.inr hk)))
 have HB := Aside0.mk (Below.refl w.heap.size w)
 have H := h
 clear h
 unfold impl_PostEntry.f at H
 obtain ⟨t261, A3, H⟩ := bdY H
 by_cases c4 : t261 = true
 ·subst c4
  replace H := ifT H
  obtain ⟨t262, A5, H⟩ := bdY H
  try rw [Option.bind_some] at H
  generalize hy265 : (([(⟨a1_0, a1_1, l1_2⟩ : S63)] : List (S63)) : List (S63)) = y265 at H
  have Ny265 := Aside0.mk hy265.symm
  clear hy265
  obtain ⟨c6, H⟩ := ifY H
  have LMc6 := Aside0.mk c6
  clear c6
  try rw [Option.bind_some] at H
  generalize hy268 : (t262 ++ y265 : List (S63)) = y268 at H
  have Ny268 := Aside0.mk hy268.symm
  clear hy268
  obtain ⟨⟨t271, t274⟩, A7, H⟩ := bdY H
  try dsimp only at H
  obtain ⟨t278, A8, H⟩ := bdY H
  go_enter Tryd.func38, Tryd.ntmps38
  try go_wp2_with (first | ((with_reducible refine gate_dst (N := 2) rfl ?_); refine bx 2 (cs := #[.slice A0_0 l0_0.length c0_0, .slice A0_1 l0_1.length c0_1]) (t := 31) ?_; intro gb258 hg w10 hbox hb; replace HO0_1 := Aside0.mk (Kd.V_below (Kd.V_elderB ZZ1186ef gb258 (Nat.le_of_eq hg.symm)) hb); replace HO1_2 := Aside0.mk (Kd.V_below (Kd.V_elderB ZZ6ff8a7 gb258 (Nat.le_of_eq hg.symm)) hb); have BK258 := Aside0.mk (hbox); have GW258 := gw hg; have GE258 := gw hg; replace HB := hB hb; clear hb hbox hg) | ((with_reducible refine gate_dst (N := 3) rfl ?_); refine bx 3 (cs := #[.int .i64 a1_0, .string a1_1, .slice A1_2 l1_2.length c1_2]) (t := 63) ?_; intro gb259 hg w11 hbox hb; replace HO0_1 := Aside0.mk (Kd.V_below (Kd.V_elderB ZZ1186ef gb259 (Nat.le_of_eq hg.symm)) hb); replace HO1_2 := Aside0.mk (Kd.V_below (Kd.V_elderB ZZ6ff8a7 gb259 (Nat.le_of_eq hg.symm)) hb); have BK259 := Aside0.mk (hbox); have GW259 := gw hg; have GE259 := gw hg; replace HB := hB hb; have NB258_259 := nl hg BK258; have NB259_258 := ng hg BK258; replace BK258 := kb BK258 hb; clear hb hbox hg) | ((with_reducible refine gate_dst (N := 4) rfl ?_); refine bx 4 (cs := #[.slice none 0 0, .slice none 0 0]) (t := 31) ?_; intro gb260 hg w12 hbox hb; replace HO0_1 := Aside0.mk (Kd.V_below (Kd.V_elderB ZZ1186ef gb260 (Nat.le_of_eq hg.symm)) hb); replace HO1_2 := Aside0.mk (Kd.V_below (Kd.V_elderB ZZ6ff8a7 gb260 (Nat.le_of_eq hg.symm)) hb); have BK260 := Aside0.mk (hbox); have GW260 := gw hg; have GE260 := gw hg; replace HB := hB hb; have NB258_260 := nl hg BK258; have NB260_258 := ng hg BK258; replace BK258 := kb BK258 hb; have NB259_260 := nl hg BK259; have NB260_259 := ng hg BK259; replace BK259 := kb BK259 hb; clear hb hbox hg; have hnb13 := NB258_259.out; have hnc13 := NB259_258.out; have hnb14 := NB258_260.out; have hnc14 := NB260_258.out; obtain ⟨hcz15_0, hcz15_1, hfz15_0, hfz15_1⟩ := z2 BK258) | (refine gc 8 Tryd.func17 #[.agg #[.slice A0_0 l0_0.length c0_0, .slice A0_1 l0_1.length c0_1]] ?_; (with_reducible refine (impl_IsValidLedger.calls k _ _ l0_0 _ _ l0_1 true _ ?side1 ?side2 ?side3 ?side4 A3.out).mono ?_); (case side1 => exact (rC (Kd.C_below HR0_0.out HB.out))); (case side2 => exact HC0_0.out); (case side3 => exact rC (Kd.V_reads' HO0_1.out).2.2); (case side4 => exact (Kd.V_reads' HO0_1.out).2.1); rintro e w16 ⟨rfl, hb⟩; refine ⟨_, rfl, ?_⟩; replace HO0_1 := Aside0.mk (Kd.V_below ZZ1186ef hb); replace HO1_2 := Aside0.mk (Kd.V_below ZZ6ff8a7 hb); replace BK258 := kb BK258 hb; replace BK259 := kb BK259 hb; replace BK260 := kb BK260 hb; replace HB := hB hb; (try clear hb); (try clear hb2); (try clear hk); (try clear hi)))
  replace HO0_1 := Aside0.mk (Kd.V_drew HO0_1.out)
  replace HO1_2 := Aside0.mk (Kd.V_drew HO1_2.out)
  replace BK258 := Aside0.mk (blk_drew BK258.out)
  replace BK259 := Aside0.mk (blk_drew BK259.out)
  replace BK260 := Aside0.mk (blk_drew BK260.out)
  replace HB := Aside0.mk (below_drew1 HB.out)
  refine st 12 (S := fun w' => w'.cell? ⟨gb258, 0, none⟩ = some (.slice A0_0 l0_0.length c0_0) ∧ w'.cell? ⟨gb258, 1, none⟩ = some (.slice A0_1 l0_1.length c0_1) ∧ w'.cell? ⟨gb259, 0, none⟩ = some (.int .i64 a1_0) ∧ w'.cell? ⟨gb259, 1, none⟩ = some (.string a1_1) ∧ w'.cell? ⟨gb259, 2, none⟩ = some (.slice A1_2 l1_2.length c1_2)) impl_PostEntry.tab3 impl_PostEntry.bits3 zK (fun hHeld HT_ HW_ => ?_)
  generalize w16.drew = w17 at HO0_1 HO1_2 BK258 BK259 BK260 HB hHeld ⊢
  refine pu 0 11 ?_
  refine pu 2 13 ?_
  refine tk 1 12 ?_
  refine tk 3 14 ?_
  refine tk 5 16 ?_
  refine join_ (σ := Value × Value × Value × Value × Value × Nat) 1 #[true, true, true, true, true, true, true, true, true, true, true, false] (fun s_ => [(15, s_.1), (17, s_.2.1), (18, s_.2.2.1), (20, .agg #[s_.2.2.2.1, s_.2.2.2.2.1]), (6, .pointer (some ⟨s_.2.2.2.2.2, 0, none⟩)), (19, .agg #[.slice A0_0 l0_0.length c0_0, s_.2.2.1])]) (fun s_ w' => (w'.cell? ⟨gb258, 0, none⟩ = some (.slice A0_0 l0_0.length c0_0) ∧ w'.cell? ⟨gb258, 1, none⟩ = some (.slice A0_1 l0_1.length c0_1) ∧ w'.cell? ⟨gb259, 0, none⟩ = some (.int .i64 a1_0) ∧ w'.cell? ⟨gb259, 1, none⟩ = some (.string a1_1) ∧ w'.cell? ⟨gb259, 2, none⟩ = some (.slice A1_2 l1_2.length c1_2)) ∧ (Kd.V k63 63 w' w.heap.size (fun k_ => ((P0_1_ k_ ∨ P1_2_ k_) ∨ w.heap.size ≤ k_) ∧ some k_ ≠ (s_.2.1 : Value).ownBlock ∧ some k_ ≠ (s_.2.2.1 : Value).ownBlock ∧ some k_ ≠ (s_.2.2.2.1 : Value).ownBlock ∧ some k_ ≠ (s_.2.2.2.2.1 : Value).ownBlock ∧ k_ ≠ gb258 ∧ k_ ≠ gb259 ∧ k_ ≠ gb260 ∧ k_ ≠ s_.2.2.2.2.2) (.slice A0_1 l0_1.length c0_1) l0_1) ∧ (Kd.V k70 70 w' w.heap.size (fun k_ => ((P0_1_ k_ ∨ P1_2_ k_) ∨ w.heap.size ≤ k_) ∧ some k_ ≠ (s_.2.1 : Value).ownBlock ∧ some k_ ≠ (s_.2.2.1 : Value).ownBlock ∧ some k_ ≠ (s_.2.2.2.1 : Value).ownBlock ∧ some k_ ≠ (s_.2.2.2.2.1 : Value).ownBlock ∧ k_ ≠ gb258 ∧ k_ ≠ gb259 ∧ k_ ≠ gb260 ∧ k_ ≠ s_.2.2.2.2.2) (.slice A1_2 l1_2.length c1_2) l1_2) ∧ (Kd.N k63 63 w' w.heap.size (fun k_ => ((P0_1_ k_ ∨ P1_2_ k_) ∨ w.heap.size ≤ k_) ∧ some k_ ≠ (s_.2.2.1 : Value).ownBlock ∧ some k_ ≠ (s_.2.2.2.1 : Value).ownBlock ∧ some k_ ≠ (s_.2.2.2.2.1 : Value).ownBlock ∧ k_ ≠ gb258 ∧ k_ ≠ gb259 ∧ k_ ≠ gb260 ∧ k_ ≠ s_.2.2.2.2.2) s_.2.1 y265) ∧ (Kd.N k63 63 w' w.heap.size (fun k_ => ((P0_1_ k_ ∨ P1_2_ k_) ∨ w.heap.size ≤ k_) ∧ some k_ ≠ (s_.2.2.2.1 : Value).ownBlock ∧ some k_ ≠ (s_.2.2.2.2.1 : Value).ownBlock ∧ k_ ≠ gb258 ∧ k_ ≠ gb259 ∧ k_ ≠ gb260 ∧ k_ ≠ s_.2.2.2.2.2) s_.2.2.1 y268) ∧ (Kd.R k48 48 w' w.heap.size (fun k_ => (w.heap.size ≤ k_)) s_.2.2.2.1 t271) ∧ (Kd.S k63 63 w' w.heap.size (fun k_ => (w.heap.size ≤ k_) ∧ some k_ ≠ (s_.2.1 : Value).ownBlock ∧ some k_ ≠ (s_.2.2.1 : Value).ownBlock ∧ k_ ≠ gb259) s_.2.2.2.2.1 t274) ∧ (w'.heap[gb258]? = some (.cells #[.slice A0_0 l0_0.length c0_0, .slice A0_1 l0_1.length c0_1] 31 (0, 0))) ∧ (w'.heap[gb259]? = some (.cells #[.int .i64 a1_0, .string a1_1, .slice A1_2 l1_2.length c1_2] 63 (0, 0))) ∧ (w'.heap[gb260]? = some (.cells #[.slice none 0 0, .slice none 0 0] 31 (0, 0))) ∧ (w'.heap[s_.2.2.2.2.2]? = some (.cells #[.slice none 0 0, .slice none 0 0] 31 (0, 0))) ∧ (w.heap.size ≤ s_.2.2.2.2.2) ∧ (w.heap.size ≤ s_.2.2.2.2.2) ∧ (gb258 ≠ s_.2.2.2.2.2) ∧ (s_.2.2.2.2.2 ≠ gb258) ∧ (gb259 ≠ s_.2.2.2.2.2) ∧ (s_.2.2.2.2.2 ≠ gb259) ∧ (gb260 ≠ s_.2.2.2.2.2) ∧ (s_.2.2.2.2.2 ≠ gb260) ∧ (Below w.heap.size w w')) ?_ ?_
  rotate_left
  ·intro hJ4_6_7_9_10
   refine join_ (σ := Value × Value × Value × Value × Value) 2 #[true, true, true, true, true, true, true, true, true, true, false, false] (fun s_ => [(15, s_.1), (17, s_.2.1), (18, s_.2.2.1), (20, .agg #[s_.2.2.2.1, s_.2.2.2.2]), (19, .agg #[.slice A0_0 l0_0.length c0_0, s_.2.2.1])]) (fun s_ w' => (w'.cell? ⟨gb258, 0, none⟩ = some (.slice A0_0 l0_0.length c0_0) ∧ w'.cell? ⟨gb258, 1, none⟩ = some (.slice A0_1 l0_1.length c0_1) ∧ w'.cell? ⟨gb259, 0, none⟩ = some (.int .i64 a1_0) ∧ w'.cell? ⟨gb259, 1, none⟩ = some (.string a1_1) ∧ w'.cell? ⟨gb259, 2, none⟩ = some (.slice A1_2 l1_2.length c1_2)) ∧ (Kd.V k63 63 w' w.heap.size (fun k_ => ((P0_1_ k_ ∨ P1_2_ k_) ∨ w.heap.size ≤ k_) ∧ some k_ ≠ (s_.2.1 : Value).ownBlock ∧ some k_ ≠ (s_.2.2.1 : Value).ownBlock ∧ some k_ ≠ (s_.2.2.2.1 : Value).ownBlock ∧ some k_ ≠ (s_.2.2.2.2 : Value).ownBlock ∧ k_ ≠ gb258 ∧ k_ ≠ gb259 ∧ k_ ≠ gb260) (.slice A0_1 l0_1.length c0_1) l0_1) ∧ (Kd.V k70 70 w' w.heap.size (fun k_ => ((P0_1_ k_ ∨ P1_2_ k_) ∨ w.heap.size ≤ k_) ∧ some k_ ≠ (s_.2.1 : Value).ownBlock ∧ some k_ ≠ (s_.2.2.1 : Value).ownBlock ∧ some k_ ≠ (s_.2.2.2.1 : Value).ownBlock ∧ some k_ ≠ (s_.2.2.2.2 : Value).ownBlock ∧ k_ ≠ gb258 ∧ k_ ≠ gb259 ∧ k_ ≠ gb260) (.slice A1_2 l1_2.length c1_2) l1_2) ∧ (Kd.N k63 63 w' w.heap.size (fun k_ => ((P0_1_ k_ ∨ P1_2_ k_) ∨ w.heap.size ≤ k_) ∧ some k_ ≠ (s_.2.2.1 : Value).ownBlock ∧ some k_ ≠ (s_.2.2.2.1 : Value).ownBlock ∧ some k_ ≠ (s_.2.2.2.2 : Value).ownBlock ∧ k_ ≠ gb258 ∧ k_ ≠ gb259 ∧ k_ ≠ gb260) s_.2.1 y265) ∧ (Kd.N k63 63 w' w.heap.size (fun k_ => ((P0_1_ k_ ∨ P1_2_ k_) ∨ w.heap.size ≤ k_) ∧ some k_ ≠ (s_.2.2.2.1 : Value).ownBlock ∧ some k_ ≠ (s_.2.2.2.2 : Value).ownBlock ∧ k_ ≠ gb258 ∧ k_ ≠ gb259 ∧ k_ ≠ gb260) s_.2.2.1 y268) ∧ (Kd.R k48 48 w' w.heap.size (fun k_ => (w.heap.size ≤ k_)) s_.2.2.2.1 t271) ∧ (Kd.S k63 63 w' w.heap.size (fun k_ => (w.heap.size ≤ k_) ∧ some k_ ≠ (s_.2.1 : Value).ownBlock ∧ some k_ ≠ (s_.2.2.1 : Value).ownBlock ∧ k_ ≠ gb259) s_.2.2.2.2 t274) ∧ (w'.heap[gb258]? = some (.cells #[.slice A0_0 l0_0.length c0_0, .slice A0_1 l0_1.length c0_1] 31 (0, 0))) ∧ (w'.heap[gb259]? = some (.cells #[.int .i64 a1_0, .string a1_1, .slice A1_2 l1_2.length c1_2] 63 (0, 0))) ∧ (w'.heap[gb260]? = some (.cells #[.slice none 0 0, .slice none 0 0] 31 (0, 0))) ∧ (Below w.heap.size w w')) ?_ ?_
   rotate_left
   ·intro hJ4_6_7_9
    refine join_ (σ := Value × Value × Value × Nat) 2 #[true, true, true, true, true, true, true, true, true, false, true, false] (fun s_ => [(15, s_.1), (17, s_.2.1), (18, s_.2.2.1), (6, .pointer (some ⟨s_.2.2.2, 0, none⟩)), (19, .agg #[.slice A0_0 l0_0.length c0_0, s_.2.2.1])]) (fun s_ w' => (w'.cell? ⟨gb258, 0, none⟩ = some (.slice A0_0 l0_0.length c0_0) ∧ w'.cell? ⟨gb258, 1, none⟩ = some (.slice A0_1 l0_1.length c0_1) ∧ w'.cell? ⟨gb259, 0, none⟩ = some (.int .i64 a1_0) ∧ w'.cell? ⟨gb259, 1, none⟩ = some (.string a1_1) ∧ w'.cell? ⟨gb259, 2, none⟩ = some (.slice A1_2 l1_2.length c1_2)) ∧ (Kd.V k63 63 w' w.heap.size (fun k_ => ((P0_1_ k_ ∨ P1_2_ k_) ∨ w.heap.size ≤ k_) ∧ some k_ ≠ (s_.2.1 : Value).ownBlock ∧ some k_ ≠ (s_.2.2.1 : Value).ownBlock ∧ k_ ≠ gb258 ∧ k_ ≠ gb259 ∧ k_ ≠ gb260 ∧ k_ ≠ s_.2.2.2) (.slice A0_1 l0_1.length c0_1) l0_1) ∧ (Kd.V k70 70 w' w.heap.size (fun k_ => ((P0_1_ k_ ∨ P1_2_ k_) ∨ w.heap.size ≤ k_) ∧ some k_ ≠ (s_.2.1 : Value).ownBlock ∧ some k_ ≠ (s_.2.2.1 : Value).ownBlock ∧ k_ ≠ gb258 ∧ k_ ≠ gb259 ∧ k_ ≠ gb260 ∧ k_ ≠ s_.2.2.2) (.slice A1_2 l1_2.length c1_2) l1_2) ∧ (Kd.N k63 63 w' w.heap.size (fun k_ => ((P0_1_ k_ ∨ P1_2_ k_) ∨ w.heap.size ≤ k_) ∧ some k_ ≠ (s_.2.2.1 : Value).ownBlock ∧ k_ ≠ gb258 ∧ k_ ≠ gb259 ∧ k_ ≠ gb260 ∧ k_ ≠ s_.2.2.2) s_.2.1 y265) ∧ (Kd.N k63 63 w' w.heap.size (fun k_ => ((P0_1_ k_ ∨ P1_2_ k_) ∨ w.heap.size ≤ k_) ∧ k_ ≠ gb258 ∧ k_ ≠ gb259 ∧ k_ ≠ gb260 ∧ k_ ≠ s_.2.2.2) s_.2.2.1 y268) ∧ (w'.heap[gb258]? = some (.cells #[.slice A0_0 l0_0.length c0_0, .slice A0_1 l0_1.length c0_1] 31 (0, 0))) ∧ (w'.heap[gb259]? = some (.cells #[.int .i64 a1_0, .string a1_1, .slice A1_2 l1_2.length c1_2] 63 (0, 0))) ∧ (w'.heap[gb260]? = some (.cells #[.slice none 0 0, .slice none 0 0] 31 (0, 0))) ∧ (w'.heap[s_.2.2.2]? = some (.cells #[.slice none 0 0, .slice none 0 0] 31 (0, 0))) ∧ (w.heap.size ≤ s_.2.2.2) ∧ (w.heap.size ≤ s_.2.2.2) ∧ (gb258 ≠ s_.2.2.2) ∧ (s_.2.2.2 ≠ gb258) ∧ (gb259 ≠ s_.2.2.2) ∧ (s_.2.2.2 ≠ gb259) ∧ (gb260 ≠ s_.2.2.2) ∧ (s_.2.2.2 ≠ gb260) ∧ (Below w.heap.size w w')) ?_ ?_
    rotate_left
    ·intro hJ4_6_7_10
     refine join_ (σ := Value × Value × Value) 3 #[true, true, true, true, true, true, true, true, true, false, false, false] (fun s_ => [(15, s_.1), (17, s_.2.1), (18, s_.2.2), (19, .agg #[.slice A0_0 l0_0.length c0_0, s_.2.2])]) (fun s_ w' => (w'.cell? ⟨gb258, 0, none⟩ = some (.slice A0_0 l0_0.length c0_0) ∧ w'.cell? ⟨gb258, 1, none⟩ = some (.slice A0_1 l0_1.length c0_1) ∧ w'.cell? ⟨gb259, 0, none⟩ = some (.int .i64 a1_0) ∧ w'.cell? ⟨gb259, 1, none⟩ = some (.string a1_1) ∧ w'.cell? ⟨gb259, 2, none⟩ = some (.slice A1_2 l1_2.length c1_2)) ∧ (Kd.V k63 63 w' w.heap.size (fun k_ => ((P0_1_ k_ ∨ P1_2_ k_) ∨ w.heap.size ≤ k_) ∧ some k_ ≠ (s_.2.1 : Value).ownBlock ∧ some k_ ≠ (s_.2.2 : Value).ownBlock ∧ k_ ≠ gb258 ∧ k_ ≠ gb259 ∧ k_ ≠ gb260) (.slice A0_1 l0_1.length c0_1) l0_1) ∧ (Kd.V k70 70 w' w.heap.size (fun k_ => ((P0_1_ k_ ∨ P1_2_ k_) ∨ w.heap.size ≤ k_) ∧ some k_ ≠ (s_.2.1 : Value).ownBlock ∧ some k_ ≠ (s_.2.2 : Value).ownBlock ∧ k_ ≠ gb258 ∧ k_ ≠ gb259 ∧ k_ ≠ gb260) (.slice A1_2 l1_2.length c1_2) l1_2) ∧ (Kd.N k63 63 w' w.heap.size (fun k_ => ((P0_1_ k_ ∨ P1_2_ k_) ∨ w.heap.size ≤ k_) ∧ some k_ ≠ (s_.2.2 : Value).ownBlock ∧ k_ ≠ gb258 ∧ k_ ≠ gb259 ∧ k_ ≠ gb260) s_.2.1 y265) ∧ (Kd.N k63 63 w' w.heap.size (fun k_ => ((P0_1_ k_ ∨ P1_2_ k_) ∨ w.heap.size ≤ k_) ∧ k_ ≠ gb258 ∧ k_ ≠ gb259 ∧ k_ ≠ gb260) s_.2.2 y268) ∧ (w'.heap[gb258]? = some (.cells #[.slice A0_0 l0_0.length c0_0, .slice A0_1 l0_1.length c0_1] 31 (0, 0))) ∧ (w'.heap[gb259]? = some (.cells #[.int .i64 a1_0, .string a1_1, .slice A1_2 l1_2.length c1_2] 63 (0, 0))) ∧ (w'.heap[gb260]? = some (.cells #[.slice none 0 0, .slice none 0 0] 31 (0, 0))) ∧ (Below w.heap.size w w')) ?_ ?_
     rotate_left
     ·intro hJ4_6_7
      refine join_ (σ := Value × Value × Nat) 4 #[true, true, true, true, true, true, true, false, false, false, true, false] (fun s_ => [(15, s_.1), (17, s_.2.1), (6, .pointer (some ⟨s_.2.2, 0, none⟩))]) (fun s_ w' => (w'.cell? ⟨gb258, 0, none⟩ = some (.slice A0_0 l0_0.length c0_0) ∧ w'.cell? ⟨gb258, 1, none⟩ = some (.slice A0_1 l0_1.length c0_1) ∧ w'.cell? ⟨gb259, 0, none⟩ = some (.int .i64 a1_0) ∧ w'.cell? ⟨gb259, 1, none⟩ = some (.string a1_1) ∧ w'.cell? ⟨gb259, 2, none⟩ = some (.slice A1_2 l1_2.length c1_2)) ∧ (Kd.V k63 63 w' w.heap.size (fun k_ => ((P0_1_ k_ ∨ P1_2_ k_) ∨ w.heap.size ≤ k_) ∧ some k_ ≠ (s_.1 : Value).ownBlock ∧ some k_ ≠ (s_.2.1 : Value).ownBlock ∧ k_ ≠ gb258 ∧ k_ ≠ gb259 ∧ k_ ≠ gb260 ∧ k_ ≠ s_.2.2) (.slice A0_1 l0_1.length c0_1) l0_1) ∧ (Kd.V k70 70 w' w.heap.size (fun k_ => ((P0_1_ k_ ∨ P1_2_ k_) ∨ w.heap.size ≤ k_) ∧ some k_ ≠ (s_.1 : Value).ownBlock ∧ some k_ ≠ (s_.2.1 : Value).ownBlock ∧ k_ ≠ gb258 ∧ k_ ≠ gb259 ∧ k_ ≠ gb260 ∧ k_ ≠ s_.2.2) (.slice A1_2 l1_2.length c1_2) l1_2) ∧ (Kd.N k63 63 w' w.heap.size (fun k_ => ((P0_1_ k_ ∨ P1_2_ k_) ∨ w.heap.size ≤ k_) ∧ some k_ ≠ (s_.2.1 : Value).ownBlock ∧ k_ ≠ gb258 ∧ k_ ≠ gb259 ∧ k_ ≠ gb260 ∧ k_ ≠ s_.2.2) s_.1 t262) ∧ (Kd.N k63 63 w' w.heap.size (fun k_ => ((P0_1_ k_ ∨ P1_2_ k_) ∨ w.heap.size ≤ k_) ∧ some k_ ≠ (s_.1 : Value).ownBlock ∧ k_ ≠ gb258 ∧ k_ ≠ gb259 ∧ k_ ≠ gb260 ∧ k_ ≠ s_.2.2) s_.2.1 y265) ∧ (w'.heap[gb258]? = some (.cells #[.slice A0_0 l0_0.length c0_0, .slice A0_1 l0_1.length c0_1] 31 (0, 0))) ∧ (w'.heap[gb259]? = some (.cells #[.int .i64 a1_0, .string a1_1, .slice A1_2 l1_2.length c1_2] 63 (0, 0))) ∧ (w'.heap[gb260]? = some (.cells #[.slice none 0 0, .slice none 0 0] 31 (0, 0))) ∧ (w'.heap[s_.2.2]? = some (.cells #[.slice none 0 0, .slice none 0 0] 31 (0, 0))) ∧ (w.heap.size ≤ s_.2.2) ∧ (w.heap.size ≤ s_.2.2) ∧ (gb258 ≠ s_.2.2) ∧ (s_.2.2 ≠ gb258) ∧ (gb259 ≠ s_.2.2) ∧ (s_.2.2 ≠ gb259) ∧ (gb260 ≠ s_.2.2) ∧ (s_.2.2 ≠ gb260) ∧ (Below w.heap.size w w')) ?_ ?_
      rotate_left
      ·intro hJ4_6_10
       refine join_ (σ := Value × Value) 5 #[true, true, true, true, true, true, true, false, false, false, false, false] (fun s_ => [(15, s_.1), (17, s_.2)]) (fun s_ w' => (w'.cell? ⟨gb258, 0, none⟩ = some (.slice A0_0 l0_0.length c0_0) ∧ w'.cell? ⟨gb258, 1, none⟩ = some (.slice A0_1 l0_1.length c0_1) ∧ w'.cell? ⟨gb259, 0, none⟩ = some (.int .i64 a1_0) ∧ w'.cell? ⟨gb259, 1, none⟩ = some (.string a1_1) ∧ w'.cell? ⟨gb259, 2, none⟩ = some (.slice A1_2 l1_2.length c1_2)) ∧ (Kd.V k63 63 w' w.heap.size (fun k_ => ((P0_1_ k_ ∨ P1_2_ k_) ∨ w.heap.size ≤ k_) ∧ some k_ ≠ (s_.1 : Value).ownBlock ∧ some k_ ≠ (s_.2 : Value).ownBlock ∧ k_ ≠ gb258 ∧ k_ ≠ gb259 ∧ k_ ≠ gb260) (.slice A0_1 l0_1.length c0_1) l0_1) ∧ (Kd.V k70 70 w' w.heap.size (fun k_ => ((P0_1_ k_ ∨ P1_2_ k_) ∨ w.heap.size ≤ k_) ∧ some k_ ≠ (s_.1 : Value).ownBlock ∧ some k_ ≠ (s_.2 : Value).ownBlock ∧ k_ ≠ gb258 ∧ k_ ≠ gb259 ∧ k_ ≠ gb260) (.slice A1_2 l1_2.length c1_2) l1_2) ∧ (Kd.N k63 63 w' w.heap.size (fun k_ => ((P0_1_ k_ ∨ P1_2_ k_) ∨ w.heap.size ≤ k_) ∧ some k_ ≠ (s_.2 : Value).ownBlock ∧ k_ ≠ gb258 ∧ k_ ≠ gb259 ∧ k_ ≠ gb260) s_.1 t262) ∧ (Kd.N k63 63 w' w.heap.size (fun k_ => ((P0_1_ k_ ∨ P1_2_ k_) ∨ w.heap.size ≤ k_) ∧ some k_ ≠ (s_.1 : Value).ownBlock ∧ k_ ≠ gb258 ∧ k_ ≠ gb259 ∧ k_ ≠ gb260) s_.2 y265) ∧ (w'.heap[gb258]? = some (.cells #[.slice A0_0 l0_0.length c0_0, .slice A0_1 l0_1.length c0_1] 31 (0, 0))) ∧ (w'.heap[gb259]? = some (.cells #[.int .i64 a1_0, .string a1_1, .slice A1_2 l1_2.length c1_2] 63 (0, 0))) ∧ (w'.heap[gb260]? = some (.cells #[.slice none 0 0, .slice none 0 0] 31 (0, 0))) ∧ (Below w.heap.size w w')) ?_ ?_
       rotate_left
       ·intro hJ4_6
        refine join_ (σ := Value × Nat) 5 #[true, true, true, true, true, true, false, false, false, false, true, false] (fun s_ => [(15, s_.1), (6, .pointer (some ⟨s_.2, 0, none⟩))]) (fun s_ w' => (w'.cell? ⟨gb258, 0, none⟩ = some (.slice A0_0 l0_0.length c0_0) ∧ w'.cell? ⟨gb258, 1, none⟩ = some (.slice A0_1 l0_1.length c0_1) ∧ w'.cell? ⟨gb259, 0, none⟩ = some (.int .i64 a1_0) ∧ w'.cell? ⟨gb259, 1, none⟩ = some (.string a1_1) ∧ w'.cell? ⟨gb259, 2, none⟩ = some (.slice A1_2 l1_2.length c1_2)) ∧ (Kd.V k63 63 w' w.heap.size (fun k_ => ((P0_1_ k_ ∨ P1_2_ k_) ∨ w.heap.size ≤ k_) ∧ some k_ ≠ (s_.1 : Value).ownBlock ∧ k_ ≠ gb258 ∧ k_ ≠ gb259 ∧ k_ ≠ gb260 ∧ k_ ≠ s_.2) (.slice A0_1 l0_1.length c0_1) l0_1) ∧ (Kd.V k70 70 w' w.heap.size (fun k_ => ((P0_1_ k_ ∨ P1_2_ k_) ∨ w.heap.size ≤ k_) ∧ some k_ ≠ (s_.1 : Value).ownBlock ∧ k_ ≠ gb258 ∧ k_ ≠ gb259 ∧ k_ ≠ gb260 ∧ k_ ≠ s_.2) (.slice A1_2 l1_2.length c1_2) l1_2) ∧ (Kd.N k63 63 w' w.heap.size (fun k_ => ((P0_1_ k_ ∨ P1_2_ k_) ∨ w.heap.size ≤ k_) ∧ k_ ≠ gb258 ∧ k_ ≠ gb259 ∧ k_ ≠ gb260 ∧ k_ ≠ s_.2) s_.1 t262) ∧ (w'.heap[gb258]? = some (.cells #[.slice A0_0 l0_0.length c0_0, .slice A0_1 l0_1.length c0_1] 31 (0, 0))) ∧ (w'.heap[gb259]? = some (.cells #[.int .i64 a1_0, .string a1_1, .slice A1_2 l1_2.length c1_2] 63 (0, 0))) ∧ (w'.heap[gb260]? = some (.cells #[.slice none 0 0, .slice none 0 0] 31 (0, 0))) ∧ (w'.heap[s_.2]? = some (.cells #[.slice none 0 0, .slice none 0 0] 31 (0, 0))) ∧ (w.heap.size ≤ s_.2) ∧ (w.heap.size ≤ s_.2) ∧ (gb258 ≠ s_.2) ∧ (s_.2 ≠ gb258) ∧ (gb259 ≠ s_.2) ∧ (s_.2 ≠ gb259) ∧ (gb260 ≠ s_.2) ∧ (s_.2 ≠ gb260) ∧ (Below w.heap.size w w')) ?_ ?_
        rotate_left
        ·intro hJ4_10
         refine join_ (σ := Value × Nat) 5 #[true, true, true, true, false, true, true, false, false, false, true, false] (fun s_ => [(17, s_.1), (6, .pointer (some ⟨s_.2, 0, none⟩))]) (fun s_ w' => (w'.cell? ⟨gb258, 0, none⟩ = some (.slice A0_0 l0_0.length c0_0) ∧ w'.cell? ⟨gb258, 1, none⟩ = some (.slice A0_1 l0_1.length c0_1) ∧ w'.cell? ⟨gb259, 0, none⟩ = some (.int .i64 a1_0) ∧ w'.cell? ⟨gb259, 1, none⟩ = some (.string a1_1) ∧ w'.cell? ⟨gb259, 2, none⟩ = some (.slice A1_2 l1_2.length c1_2)) ∧ (Kd.V k63 63 w' w.heap.size (fun k_ => ((P0_1_ k_ ∨ P1_2_ k_) ∨ w.heap.size ≤ k_) ∧ some k_ ≠ (s_.1 : Value).ownBlock ∧ k_ ≠ gb258 ∧ k_ ≠ gb259 ∧ k_ ≠ gb260 ∧ k_ ≠ s_.2) (.slice A0_1 l0_1.length c0_1) l0_1) ∧ (Kd.V k70 70 w' w.heap.size (fun k_ => ((P0_1_ k_ ∨ P1_2_ k_) ∨ w.heap.size ≤ k_) ∧ some k_ ≠ (s_.1 : Value).ownBlock ∧ k_ ≠ gb258 ∧ k_ ≠ gb259 ∧ k_ ≠ gb260 ∧ k_ ≠ s_.2) (.slice A1_2 l1_2.length c1_2) l1_2) ∧ (Kd.N k63 63 w' w.heap.size (fun k_ => ((P0_1_ k_ ∨ P1_2_ k_) ∨ w.heap.size ≤ k_) ∧ k_ ≠ gb258 ∧ k_ ≠ gb259 ∧ k_ ≠ gb260 ∧ k_ ≠ s_.2) s_.1 y265) ∧ (w'.heap[gb258]? = some (.cells #[.slice A0_0 l0_0.length c0_0, .slice A0_1 l0_1.length c0_1] 31 (0, 0))) ∧ (w'.heap[gb259]? = some (.cells #[.int .i64 a1_0, .string a1_1, .slice A1_2 l1_2.length c1_2] 63 (0, 0))) ∧ (w'.heap[gb260]? = some (.cells #[.slice none 0 0, .slice none 0 0] 31 (0, 0))) ∧ (w'.heap[s_.2]? = some (.cells #[.slice none 0 0, .slice none 0 0] 31 (0, 0))) ∧ (w.heap.size ≤ s_.2) ∧ (w.heap.size ≤ s_.2) ∧ (gb258 ≠ s_.2) ∧ (s_.2 ≠ gb258) ∧ (gb259 ≠ s_.2) ∧ (s_.2 ≠ gb259) ∧ (gb260 ≠ s_.2) ∧ (s_.2 ≠ gb260) ∧ (Below w.heap.size w w')) ?_ ?_
         rotate_left
         ·intro hJ6_10
          refine join_ (σ := Value) 6 #[true, true, true, true, true, true, false, false, false, false, false, false] (fun s_ => [(15, s_)]) (fun s_ w' => (w'.cell? ⟨gb258, 0, none⟩ = some (.slice A0_0 l0_0.length c0_0) ∧ w'.cell? ⟨gb258, 1, none⟩ = some (.slice A0_1 l0_1.length c0_1) ∧ w'.cell? ⟨gb259, 0, none⟩ = some (.int .i64 a1_0) ∧ w'.cell? ⟨gb259, 1, none⟩ = some (.string a1_1) ∧ w'.cell? ⟨gb259, 2, none⟩ = some (.slice A1_2 l1_2.length c1_2)) ∧ (Kd.V k63 63 w' w.heap.size (fun k_ => ((P0_1_ k_ ∨ P1_2_ k_) ∨ w.heap.size ≤ k_) ∧ some k_ ≠ (s_ : Value).ownBlock ∧ k_ ≠ gb258 ∧ k_ ≠ gb259 ∧ k_ ≠ gb260) (.slice A0_1 l0_1.length c0_1) l0_1) ∧ (Kd.V k70 70 w' w.heap.size (fun k_ => ((P0_1_ k_ ∨ P1_2_ k_) ∨ w.heap.size ≤ k_) ∧ some k_ ≠ (s_ : Value).ownBlock ∧ k_ ≠ gb258 ∧ k_ ≠ gb259 ∧ k_ ≠ gb260) (.slice A1_2 l1_2.length c1_2) l1_2) ∧ (Kd.N k63 63 w' w.heap.size (fun k_ => ((P0_1_ k_ ∨ P1_2_ k_) ∨ w.heap.size ≤ k_) ∧ k_ ≠ gb258 ∧ k_ ≠ gb259 ∧ k_ ≠ gb260) s_ t262) ∧ (w'.heap[gb258]? = some (.cells #[.slice A0_0 l0_0.length c0_0, .slice A0_1 l0_1.length c0_1] 31 (0, 0))) ∧ (w'.heap[gb259]? = some (.cells #[.int .i64 a1_0, .string a1_1, .slice A1_2 l1_2.length c1_2] 63 (0, 0))) ∧ (w'.heap[gb260]? = some (.cells #[.slice none 0 0, .slice none 0 0] 31 (0, 0))) ∧ (Below w.heap.size w w')) ?_ ?_
          rotate_left
          ·intro hJ4
           refine join_ (σ := Value) 6 #[true, true, true, true, false, true, true, false, false, false, false, false] (fun s_ => [(17, s_)]) (fun s_ w' => (w'.cell? ⟨gb258, 0, none⟩ = some (.slice A0_0 l0_0.length c0_0) ∧ w'.cell? ⟨gb258, 1, none⟩ = some (.slice A0_1 l0_1.length c0_1) ∧ w'.cell? ⟨gb259, 0, none⟩ = some (.int .i64 a1_0) ∧ w'.cell? ⟨gb259, 1, none⟩ = some (.string a1_1) ∧ w'.cell? ⟨gb259, 2, none⟩ = some (.slice A1_2 l1_2.length c1_2)) ∧ (Kd.V k63 63 w' w.heap.size (fun k_ => ((P0_1_ k_ ∨ P1_2_ k_) ∨ w.heap.size ≤ k_) ∧ some k_ ≠ (s_ : Value).ownBlock ∧ k_ ≠ gb258 ∧ k_ ≠ gb259 ∧ k_ ≠ gb260) (.slice A0_1 l0_1.length c0_1) l0_1) ∧ (Kd.V k70 70 w' w.heap.size (fun k_ => ((P0_1_ k_ ∨ P1_2_ k_) ∨ w.heap.size ≤ k_) ∧ some k_ ≠ (s_ : Value).ownBlock ∧ k_ ≠ gb258 ∧ k_ ≠ gb259 ∧ k_ ≠ gb260) (.slice A1_2 l1_2.length c1_2) l1_2) ∧ (Kd.N k63 63 w' w.heap.size (fun k_ => ((P0_1_ k_ ∨ P1_2_ k_) ∨ w.heap.size ≤ k_) ∧ k_ ≠ gb258 ∧ k_ ≠ gb259 ∧ k_ ≠ gb260) s_ y265) ∧ (w'.heap[gb258]? = some (.cells #[.slice A0_0 l0_0.length c0_0, .slice A0_1 l0_1.length c0_1] 31 (0, 0))) ∧ (w'.heap[gb259]? = some (.cells #[.int .i64 a1_0, .string a1_1, .slice A1_2 l1_2.length c1_2] 63 (0, 0))) ∧ (w'.heap[gb260]? = some (.cells #[.slice none 0 0, .slice none 0 0] 31 (0, 0))) ∧ (Below w.heap.size w w')) ?_ ?_
           rotate_left
           ·intro hJ6
            refine join_ (σ := Nat) 6 #[true, true, true, true, false, true, false, false, false, false, true, false] (fun s_ => [(6, .pointer (some ⟨s_, 0, none⟩))]) (fun s_ w' => (w'.cell? ⟨gb258, 0, none⟩ = some (.slice A0_0 l0_0.length c0_0) ∧ w'.cell? ⟨gb258, 1, none⟩ = some (.slice A0_1 l0_1.length c0_1) ∧ w'.cell? ⟨gb259, 0, none⟩ = some (.int .i64 a1_0) ∧ w'.cell? ⟨gb259, 1, none⟩ = some (.string a1_1) ∧ w'.cell? ⟨gb259, 2, none⟩ = some (.slice A1_2 l1_2.length c1_2)) ∧ (Kd.V k63 63 w' w.heap.size (fun k_ => ((P0_1_ k_ ∨ P1_2_ k_) ∨ w.heap.size ≤ k_) ∧ k_ ≠ gb258 ∧ k_ ≠ gb259 ∧ k_ ≠ gb260 ∧ k_ ≠ s_) (.slice A0_1 l0_1.length c0_1) l0_1) ∧ (Kd.V k70 70 w' w.heap.size (fun k_ => ((P0_1_ k_ ∨ P1_2_ k_) ∨ w.heap.size ≤ k_) ∧ k_ ≠ gb258 ∧ k_ ≠ gb259 ∧ k_ ≠ gb260 ∧ k_ ≠ s_) (.slice A1_2 l1_2.length c1_2) l1_2) ∧ (w'.heap[gb258]? = some (.cells #[.slice A0_0 l0_0.length c0_0, .slice A0_1 l0_1.length c0_1] 31 (0, 0))) ∧ (w'.heap[gb259]? = some (.cells #[.int .i64 a1_0, .string a1_1, .slice A1_2 l1_2.length c1_2] 63 (0, 0))) ∧ (w'.heap[gb260]? = some (.cells #[.slice none 0 0, .slice none 0 0] 31 (0, 0))) ∧ (w'.heap[s_]? = some (.cells #[.slice none 0 0, .slice none 0 0] 31 (0, 0))) ∧ (w.heap.size ≤ s_) ∧ (w.heap.size ≤ s_) ∧ (gb258 ≠ s_) ∧ (s_ ≠ gb258) ∧ (gb259 ≠ s_) ∧ (s_ ≠ gb259) ∧ (gb260 ≠ s_) ∧ (s_ ≠ gb260) ∧ (Below w.heap.size w w')) ?_ ?_
            rotate_left
            ·intro hJ10
             refine three_ (i := 4) (j := 6) (k := 10) (Ni := some 15) (Nj := some 17) (Nk := some 6) #[true, true, true, true, true, true, false, false, false, false, false, false] #[true, true, true, true, false, true, true, false, false, false, false, false] #[true, true, true, true, false, true, false, false, false, false, true, false] rfl rfl rfl rfl rfl rfl (three_of HT_.out (by kernel_rfl)) (by decide) (by decide) (by decide) (fun K hK => ?_) (fun K hK => ?_) (fun K hK => ?_)
             ·skip
              refine goes_ Tryd.func84 (by kernel_rfl) rfl #[.slice A0_1 l0_1.length c0_1] (by rfl) rfl rfl ZZ19826e ?_
              with_reducible refine (impl_BookEntry.calls (fun k_ => (((((P0_1_ k_ ∨ P1_2_ k_) ∨ w.heap.size ≤ k_) ∧ k_ ≠ gb258) ∧ k_ ≠ gb259) ∧ k_ ≠ gb260)) _ _ l0_1 t262 _ ?side1 A5.out).mono ?_
              (case side1 => exact HO0_1.out)
              rintro e w18 ⟨v263, rfl, ho0, hb⟩
              refine ⟨_, rfl, ?_⟩
              replace HO0_1 := Aside0.mk (Kd.V_elder' ZZ1186ef (Kd.N_base ho0) hb)
              replace HO1_2 := Aside0.mk (Kd.V_elder' ZZ6ff8a7 (Kd.N_base ho0) hb)
              have HO264 := Aside0.mk (Kd.N_lower (Kd.N_mono (ok' := fun k_ => ((P0_1_ k_ ∨ P1_2_ k_) ∨ w.heap.size ≤ k_) ∧ k_ ≠ gb258 ∧ k_ ≠ gb259 ∧ k_ ≠ gb260) ho0 (fun k_ hk_ => ⟨Or.elim hk_ (fun hs_ => hs_.1.1.1) (fun hn_ => (.inr (Nat.le_trans (below_size ZZ295621) hn_))), Or.elim hk_ (fun hs_ => hs_.1.1.2) (fun hn_ => (Kd.freshB (zB BK258) k_ hn_)), Or.elim hk_ (fun hs_ => hs_.1.2) (fun hn_ => (Kd.freshB (zB BK259) k_ hn_)), Or.elim hk_ (fun hs_ => hs_.2) (fun hn_ => (Kd.freshB (zB BK260) k_ hn_))⟩)) (below_size ZZ295621))
              replace BK258 := kb BK258 hb
              replace BK259 := kb BK259 hb
              replace BK260 := kb BK260 hb
              replace HB := hB hb
              (try clear hb)
              (try clear hb2)
              (try clear hk)
              (try clear hi)
              (try clear ho0)
              refine hK.out _ _ zK (fun hHeld => ?_)
              clear hK K
              refine nd (some 15) ?_
              exact norm_ ZZ014134 (hJ4 (v263) _ ⟨hHeld, ZZ4a4b0f, ZZ0f2d0b, ZZe7caad, (zB BK258), (zB BK259), (zB BK260), ZZ295621⟩)
             ·skip
              refine Kd.N_lit_step k63 _ 63 ?hg (N' := 17) ?hd (xs := ([(⟨a1_0, a1_1, l1_2⟩ : S63)] : List (S63))) (inner := [.int .i64 a1_0, .string a1_1, .slice A1_2 l1_2.length c1_2]) (ok := (fun k_ => ((P0_1_ k_ ∨ P1_2_ k_) ∨ w.heap.size ≤ k_) ∧ k_ ≠ gb258 ∧ k_ ≠ gb259 ∧ k_ ≠ gb260)) (okp := (fun k_ => ((P0_1_ k_ ∨ P1_2_ k_) ∨ w.heap.size ≤ k_) ∧ k_ ≠ gb258 ∧ k_ ≠ gb259 ∧ k_ ≠ gb260)) ?hr ?hp (fun _ hk => hk) ((show ∀ k_, w17.heap.size ≤ k_ → (fun k_ => ((P0_1_ k_ ∨ P1_2_ k_) ∨ w.heap.size ≤ k_) ∧ k_ ≠ gb258 ∧ k_ ≠ gb259 ∧ k_ ≠ gb260) k_ from fun k_ hk => ⟨(.inr (Nat.le_trans (below_size ZZ295621) hk)), Kd.freshB (zB BK258) k_ hk, Kd.freshB (zB BK259) k_ hk, Kd.freshB (zB BK260) k_ hk⟩) _ (Nat.le_refl _)) (Below.refl _ _) (Nat.le_refl _) (by simp) ?_; (case hd => rfl); (case hg => rfl); (case hr => first | (go_simp; done) | (go_simp; rfl)); (case hp => exact (Reps.c3 (show Kd.FK k63 _ _ (⟨a1_0, a1_1, l1_2⟩ : S63) [.int .i64 a1_0, .string a1_1, .slice A1_2 l1_2.length c1_2] from (k63_mkF _ _ (⟨a1_0, a1_1, l1_2⟩ : S63) (Kd.V_reads' (Kd.V_mono (ok' := (fun k_ => ((P0_1_ k_ ∨ P1_2_ k_) ∨ w.heap.size ≤ k_) ∧ k_ ≠ gb258 ∧ k_ ≠ gb259 ∧ k_ ≠ gb260)) (HO1_2.out) (fun k_ hk => ⟨hk.1.1.1, ⟨hk.1.1.2, ⟨hk.1.2, hk.2⟩⟩⟩))).2.1 (Kd.V_F (Kd.V_mono (ok' := (fun k_ => ((P0_1_ k_ ∨ P1_2_ k_) ∨ w.heap.size ≤ k_) ∧ k_ ≠ gb258 ∧ k_ ≠ gb259 ∧ k_ ≠ gb260)) (HO1_2.out) (fun k_ hk => ⟨hk.1.1.1, ⟨hk.1.1.2, ⟨hk.1.2, hk.2⟩⟩⟩))))) (Reps.none _ _)))
              intro v266 w18 ho19 hb hg_ hnew_
              clear hg_ hnew_
              (first | rw [← Ny265.out] at ho19 | (simp only [Int.reduceToNat] at ho19; rw [← Ny265.out] at ho19))
              replace HO0_1 := Aside0.mk (Kd.V_elder' ZZ1186ef (Kd.N_base ho19) hb)
              replace HO1_2 := Aside0.mk (Kd.V_elder' ZZ6ff8a7 (Kd.N_base ho19) hb)
              have HO267 := Aside0.mk (Kd.N_lower ho19 (below_size ZZ295621))
              replace BK258 := kb BK258 hb
              replace BK259 := kb BK259 hb
              replace BK260 := kb BK260 hb
              replace HB := hB hb
              clear hb ho19
              refine hK.out _ _ zK (fun hHeld => ?_)
              clear hK K
              refine nd (some 17) ?_
              exact norm_ ZZ014134 (hJ6 (v266) _ ⟨hHeld, ZZ4a4b0f, ZZ0f2d0b, ZZf86480, (zB BK258), (zB BK259), (zB BK260), ZZ295621⟩)
             skip
             refine box_step ?hg (N := 6) ?hd (cs := #[.slice none 0 0, .slice none 0 0]) (t := 31) ?hr ?_; (case hd => rfl); (case hg => rfl); (case hr => first | (go_simp; done) | (go_simp; rfl))
             intro gb277 hg w18 hbox hb
             replace HO0_1 := Aside0.mk (Kd.V_below (Kd.V_elderB ZZ1186ef gb277 (Nat.le_of_eq hg.symm)) hb)
             replace HO1_2 := Aside0.mk (Kd.V_below (Kd.V_elderB ZZ6ff8a7 gb277 (Nat.le_of_eq hg.symm)) hb)
             have BK277 := Aside0.mk (hbox)
             have GW277 := gw hg
             have GE277 := gw hg
             replace HB := hB hb
             have NB258_277 := nl hg BK258
             have NB277_258 := ng hg BK258
             replace BK258 := kb BK258 hb
             have NB259_277 := nl hg BK259
             have NB277_259 := ng hg BK259
             replace BK259 := kb BK259 hb
             have NB260_277 := nl hg BK260
             have NB277_260 := ng hg BK260
             replace BK260 := kb BK260 hb
             clear hb hbox hg
             refine hK.out _ _ zK (fun hHeld => ?_)
             clear hK K
             refine nd (some 6) ?_
             exact norm_ ZZ014134 (hJ10 (gb277) _ ⟨hHeld, (by refine bV ?_; exact Kd.V_mono HO0_1.out (fun _ hk => ⟨hk.1.1.1.1, ⟨hk.1.1.1.2, ⟨hk.1.1.2, ⟨hk.1.2, hk.2⟩⟩⟩⟩)), (by refine bV ?_; exact Kd.V_mono HO1_2.out (fun _ hk => ⟨hk.1.1.1.1, ⟨hk.1.1.1.2, ⟨hk.1.1.2, ⟨hk.1.2, hk.2⟩⟩⟩⟩)), (zB BK258), (zB BK259), (zB BK260), (zB BK277), GW277.out, GE277.out, NB258_277.out, NB277_258.out, NB259_277.out, NB277_259.out, NB260_277.out, NB277_260.out, ZZ295621⟩)
            skip
            rintro gb277 w19 ⟨hS_, h0_, h1_, h2_, h3_, h4_, h5_, h6_, h7_, h8_, h9_, h10_, h11_, h12_, h13_, h14_⟩
            have n0_ : Aside0 (Kd.V k63 63 w19 w.heap.size (fun k_ => ((P0_1_ k_ ∨ P1_2_ k_) ∨ w.heap.size ≤ k_) ∧ k_ ≠ gb258 ∧ k_ ≠ gb259 ∧ k_ ≠ gb260 ∧ k_ ≠ gb277) (.slice A0_1 l0_1.length c0_1) l0_1) := ⟨h0_⟩
            have n1_ : Aside0 (Kd.V k70 70 w19 w.heap.size (fun k_ => ((P0_1_ k_ ∨ P1_2_ k_) ∨ w.heap.size ≤ k_) ∧ k_ ≠ gb258 ∧ k_ ≠ gb259 ∧ k_ ≠ gb260 ∧ k_ ≠ gb277) (.slice A1_2 l1_2.length c1_2) l1_2) := ⟨h1_⟩
            have n2_ : Aside0 (w19.heap[gb258]? = some (.cells #[.slice A0_0 l0_0.length c0_0, .slice A0_1 l0_1.length c0_1] 31 (0, 0))) := ⟨h2_⟩
            have n3_ : Aside0 (w19.heap[gb259]? = some (.cells #[.int .i64 a1_0, .string a1_1, .slice A1_2 l1_2.length c1_2] 63 (0, 0))) := ⟨h3_⟩
            have n4_ : Aside0 (w19.heap[gb260]? = some (.cells #[.slice none 0 0, .slice none 0 0] 31 (0, 0))) := ⟨h4_⟩
            have n5_ : Aside0 (w19.heap[gb277]? = some (.cells #[.slice none 0 0, .slice none 0 0] 31 (0, 0))) := ⟨h5_⟩
            have n6_ : Aside0 (w.heap.size ≤ gb277) := ⟨h6_⟩
            have n7_ : Aside0 (w.heap.size ≤ gb277) := ⟨h7_⟩
            have n8_ : Aside0 (gb258 ≠ gb277) := ⟨h8_⟩
            have n9_ : Aside0 (gb277 ≠ gb258) := ⟨h9_⟩
            have n10_ : Aside0 (gb259 ≠ gb277) := ⟨h10_⟩
            have n11_ : Aside0 (gb277 ≠ gb259) := ⟨h11_⟩
            have n12_ : Aside0 (gb260 ≠ gb277) := ⟨h12_⟩
            have n13_ : Aside0 (gb277 ≠ gb260) := ⟨h13_⟩
            have n14_ : Aside0 (Below w.heap.size w w19) := ⟨h14_⟩
            clear HO0_1
            clear HO1_2
            clear BK258
            clear BK259
            clear BK260
            clear HB
            clear h0_ h1_ h2_ h3_ h4_ h5_ h6_ h7_ h8_ h9_ h10_ h11_ h12_ h13_ h14_
            have HO0_1 := n0_
            have HO1_2 := n1_
            have BK258 := n2_
            have BK259 := n3_
            have BK260 := n4_
            have BK277 := n5_
            have GW277 := n6_
            have GE277 := n7_
            have NB258_277 := n8_
            have NB277_258 := n9_
            have NB259_277 := n10_
            have NB277_259 := n11_
            have NB260_277 := n12_
            have NB277_260 := n13_
            have HB := n14_
            clear n0_ n1_ n2_ n3_ n4_ n5_ n6_ n7_ n8_ n9_ n10_ n11_ n12_ n13_ n14_
            have hHeld : w19.cell? ⟨gb258, 0, none⟩ = some (.slice A0_0 l0_0.length c0_0) ∧ w19.cell? ⟨gb258, 1, none⟩ = some (.slice A0_1 l0_1.length c0_1) ∧ w19.cell? ⟨gb259, 0, none⟩ = some (.int .i64 a1_0) ∧ w19.cell? ⟨gb259, 1, none⟩ = some (.string a1_1) ∧ w19.cell? ⟨gb259, 2, none⟩ = some (.slice A1_2 l1_2.length c1_2) := hS_
            refine norm_ (a' := ?_) ?_ ?_
            rotate_left
            ·simp only [putAll, Act.put, List.setIfInBounds_toArray, List.set_cons_zero, List.set_cons_succ]
             rfl
            refine two_ (i := 4) (j := 6) (Ni := some 15) (Nj := some 17) #[true, true, true, true, true, true, false, false, false, false, true, false] #[true, true, true, true, false, true, true, false, false, false, true, false] rfl rfl rfl rfl (two_of HT_.out (by kernel_rfl)) (by decide) (by decide) (fun K hK => ?_) (fun K hK => ?_)
            ·skip
             refine goes_ Tryd.func84 (by kernel_rfl) rfl #[.slice A0_1 l0_1.length c0_1] (by rfl) rfl rfl ZZ19826e ?_
             with_reducible refine (impl_BookEntry.calls (fun k_ => (((P0_1_ k_ ∨ P1_2_ k_) ∨ w.heap.size ≤ k_) ∧ (k_ ≠ gb258 ∧ (k_ ≠ gb259 ∧ (k_ ≠ gb260 ∧ k_ ≠ gb277))))) _ _ l0_1 t262 _ ?side1 A5.out).mono ?_
             (case side1 => exact HO0_1.out)
             rintro e w20 ⟨v263, rfl, ho0, hb⟩
             refine ⟨_, rfl, ?_⟩
             replace HO0_1 := Aside0.mk (Kd.V_elder' ZZ1186ef (Kd.N_base ho0) hb)
             replace HO1_2 := Aside0.mk (Kd.V_elder' ZZ6ff8a7 (Kd.N_base ho0) hb)
             have HO264 := Aside0.mk (Kd.N_lower (Kd.N_mono (ok' := fun k_ => ((P0_1_ k_ ∨ P1_2_ k_) ∨ w.heap.size ≤ k_) ∧ k_ ≠ gb258 ∧ k_ ≠ gb259 ∧ k_ ≠ gb260 ∧ k_ ≠ gb277) ho0 (fun k_ hk_ => ⟨Or.elim hk_ (fun hs_ => hs_.1) (fun hn_ => (.inr (Nat.le_trans (below_size ZZ295621) hn_))), Or.elim hk_ (fun hs_ => hs_.2.1) (fun hn_ => (Kd.freshB (zB BK258) k_ hn_)), Or.elim hk_ (fun hs_ => hs_.2.2.1) (fun hn_ => (Kd.freshB (zB BK259) k_ hn_)), Or.elim hk_ (fun hs_ => hs_.2.2.2.1) (fun hn_ => (Kd.freshB (zB BK260) k_ hn_)), Or.elim hk_ (fun hs_ => hs_.2.2.2.2) (fun hn_ => (Kd.freshB (zB BK277) k_ hn_))⟩)) (below_size ZZ295621))
             replace BK258 := kb BK258 hb
             replace BK259 := kb BK259 hb
             replace BK260 := kb BK260 hb
             replace BK277 := kb BK277 hb
             replace HB := hB hb
             (try clear hb)
             (try clear hb2)
             (try clear hk)
             (try clear hi)
             (try clear ho0)
             refine hK.out _ _ zK (fun hHeld => ?_)
             clear hK K
             refine nd (some 15) ?_
             exact norm_ ZZ014134 (hJ4_10 (v263, gb277) _ ⟨hHeld, ZZd5e4bd, ZZf2d862, ZZe7caad, (zB BK258), (zB BK259), (zB BK260), (zB BK277), GW277.out, GE277.out, NB258_277.out, NB277_258.out, NB259_277.out, NB277_259.out, NB260_277.out, NB277_260.out, ZZ295621⟩)
            skip
            refine Kd.N_lit_step k63 _ 63 ?hg (N' := 17) ?hd (xs := ([(⟨a1_0, a1_1, l1_2⟩ : S63)] : List (S63))) (inner := [.int .i64 a1_0, .string a1_1, .slice A1_2 l1_2.length c1_2]) (ok := (fun k_ => ((P0_1_ k_ ∨ P1_2_ k_) ∨ w.heap.size ≤ k_) ∧ k_ ≠ gb258 ∧ k_ ≠ gb259 ∧ k_ ≠ gb260 ∧ k_ ≠ gb277)) (okp := (fun k_ => ((P0_1_ k_ ∨ P1_2_ k_) ∨ w.heap.size ≤ k_) ∧ k_ ≠ gb258 ∧ k_ ≠ gb259 ∧ k_ ≠ gb260 ∧ k_ ≠ gb277)) ?hr ?hp (fun _ hk => hk) ((show ∀ k_, w19.heap.size ≤ k_ → (fun k_ => ((P0_1_ k_ ∨ P1_2_ k_) ∨ w.heap.size ≤ k_) ∧ k_ ≠ gb258 ∧ k_ ≠ gb259 ∧ k_ ≠ gb260 ∧ k_ ≠ gb277) k_ from fun k_ hk => ⟨(.inr (Nat.le_trans (below_size ZZ295621) hk)), Kd.freshB (zB BK258) k_ hk, Kd.freshB (zB BK259) k_ hk, Kd.freshB (zB BK260) k_ hk, Kd.freshB (zB BK277) k_ hk⟩) _ (Nat.le_refl _)) (Below.refl _ _) (Nat.le_refl _) (by simp) ?_; (case hd => rfl); (case hg => rfl); (case hr => first | (go_simp; done) | (go_simp; rfl)); (case hp => exact (Reps.c3 (show Kd.FK k63 _ _ (⟨a1_0, a1_1, l1_2⟩ : S63) [.int .i64 a1_0, .string a1_1, .slice A1_2 l1_2.length c1_2] from (k63_mkF _ _ (⟨a1_0, a1_1, l1_2⟩ : S63) (Kd.V_reads' (Kd.V_mono (ok' := (fun k_ => ((P0_1_ k_ ∨ P1_2_ k_) ∨ w.heap.size ≤ k_) ∧ k_ ≠ gb258 ∧ k_ ≠ gb259 ∧ k_ ≠ gb260 ∧ k_ ≠ gb277)) (HO1_2.out) (fun k_ hk => ⟨hk.1, ⟨hk.2.1, ⟨hk.2.2.1, ⟨hk.2.2.2.1, hk.2.2.2.2⟩⟩⟩⟩))).2.1 (Kd.V_F (Kd.V_mono (ok' := (fun k_ => ((P0_1_ k_ ∨ P1_2_ k_) ∨ w.heap.size ≤ k_) ∧ k_ ≠ gb258 ∧ k_ ≠ gb259 ∧ k_ ≠ gb260 ∧ k_ ≠ gb277)) (HO1_2.out) (fun k_ hk => ⟨hk.1, ⟨hk.2.1, ⟨hk.2.2.1, ⟨hk.2.2.2.1, hk.2.2.2.2⟩⟩⟩⟩))))) (Reps.none _ _)))
            intro v266 w20 ho21 hb hg_ hnew_
            clear hg_ hnew_
            (first | rw [← Ny265.out] at ho21 | (simp only [Int.reduceToNat] at ho21; rw [← Ny265.out] at ho21))
            replace HO0_1 := Aside0.mk (Kd.V_elder' ZZ1186ef (Kd.N_base ho21) hb)
            replace HO1_2 := Aside0.mk (Kd.V_elder' ZZ6ff8a7 (Kd.N_base ho21) hb)
            have HO267 := Aside0.mk (Kd.N_lower ho21 (below_size ZZ295621))
            replace BK258 := kb BK258 hb
            replace BK259 := kb BK259 hb
            replace BK260 := kb BK260 hb
            replace BK277 := kb BK277 hb
            replace HB := hB hb
            clear hb ho21
            refine hK.out _ _ zK (fun hHeld => ?_)
            clear hK K
            refine nd (some 17) ?_
            exact norm_ ZZ014134 (hJ6_10 (v266, gb277) _ ⟨hHeld, ZZd5e4bd, ZZf2d862, ZZf86480, (zB BK258), (zB BK259), (zB BK260), (zB BK277), GW277.out, GE277.out, NB258_277.out, NB277_258.out, NB259_277.out, NB277_259.out, NB260_277.out, NB277_260.out, ZZ295621⟩)
           skip
           rintro v266 w20 ⟨hS_, h0_, h1_, h2_, h3_, h4_, h5_, h6_⟩
           have n0_ : Aside0 (Kd.V k63 63 w20 w.heap.size (fun k_ => ((P0_1_ k_ ∨ P1_2_ k_) ∨ w.heap.size ≤ k_) ∧ some k_ ≠ (v266 : Value).ownBlock ∧ k_ ≠ gb258 ∧ k_ ≠ gb259 ∧ k_ ≠ gb260) (.slice A0_1 l0_1.length c0_1) l0_1) := ⟨h0_⟩
           have n1_ : Aside0 (Kd.V k70 70 w20 w.heap.size (fun k_ => ((P0_1_ k_ ∨ P1_2_ k_) ∨ w.heap.size ≤ k_) ∧ some k_ ≠ (v266 : Value).ownBlock ∧ k_ ≠ gb258 ∧ k_ ≠ gb259 ∧ k_ ≠ gb260) (.slice A1_2 l1_2.length c1_2) l1_2) := ⟨h1_⟩
           have n2_ : Aside0 (Kd.N k63 63 w20 w.heap.size (fun k_ => ((P0_1_ k_ ∨ P1_2_ k_) ∨ w.heap.size ≤ k_) ∧ k_ ≠ gb258 ∧ k_ ≠ gb259 ∧ k_ ≠ gb260) v266 y265) := ⟨h2_⟩
           have n3_ : Aside0 (w20.heap[gb258]? = some (.cells #[.slice A0_0 l0_0.length c0_0, .slice A0_1 l0_1.length c0_1] 31 (0, 0))) := ⟨h3_⟩
           have n4_ : Aside0 (w20.heap[gb259]? = some (.cells #[.int .i64 a1_0, .string a1_1, .slice A1_2 l1_2.length c1_2] 63 (0, 0))) := ⟨h4_⟩
           have n5_ : Aside0 (w20.heap[gb260]? = some (.cells #[.slice none 0 0, .slice none 0 0] 31 (0, 0))) := ⟨h5_⟩
           have n6_ : Aside0 (Below w.heap.size w w20) := ⟨h6_⟩
           clear HO0_1
           clear HO1_2
           clear BK258
           clear BK259
           clear BK260
           clear HB
           clear h0_ h1_ h2_ h3_ h4_ h5_ h6_
           have HO0_1 := n0_
           have HO1_2 := n1_
           have HO267 := n2_
           have BK258 := n3_
           have BK259 := n4_
           have BK260 := n5_
           have HB := n6_
           clear n0_ n1_ n2_ n3_ n4_ n5_ n6_
           have hHeld : w20.cell? ⟨gb258, 0, none⟩ = some (.slice A0_0 l0_0.length c0_0) ∧ w20.cell? ⟨gb258, 1, none⟩ = some (.slice A0_1 l0_1.length c0_1) ∧ w20.cell? ⟨gb259, 0, none⟩ = some (.int .i64 a1_0) ∧ w20.cell? ⟨gb259, 1, none⟩ = some (.string a1_1) ∧ w20.cell? ⟨gb259, 2, none⟩ = some (.slice A1_2 l1_2.length c1_2) := hS_
           refine norm_ (a' := ?_) ?_ ?_
           rotate_left
           ·simp only [putAll, Act.put, List.setIfInBounds_toArray, List.set_cons_zero, List.set_cons_succ]
            rfl
           refine two_ (i := 4) (j := 10) (Ni := some 15) (Nj := some 6) #[true, true, true, true, true, true, true, false, false, false, false, false] #[true, true, true, true, false, true, true, false, false, false, true, false] rfl rfl rfl rfl (two_of HT_.out (by kernel_rfl)) (by decide) (by decide) (fun K hK => ?_) (fun K hK => ?_)
           ·skip
            refine goes_ Tryd.func84 (by kernel_rfl) rfl #[.slice A0_1 l0_1.length c0_1] (by rfl) rfl rfl ZZ19826e ?_
            with_reducible refine (impl_BookEntry.calls (fun k_ => (((P0_1_ k_ ∨ P1_2_ k_) ∨ w.heap.size ≤ k_) ∧ (some k_ ≠ (v266 : Value).ownBlock ∧ (k_ ≠ gb258 ∧ (k_ ≠ gb259 ∧ k_ ≠ gb260))))) _ _ l0_1 t262 _ ?side1 A5.out).mono ?_
            (case side1 => exact HO0_1.out)
            rintro e w21 ⟨v263, rfl, ho0, hb⟩
            refine ⟨_, rfl, ?_⟩
            replace HO0_1 := Aside0.mk (Kd.V_elder' ZZ1186ef (Kd.N_base ho0) hb)
            replace HO1_2 := Aside0.mk (Kd.V_elder' ZZ6ff8a7 (Kd.N_base ho0) hb)
            have HO264 := Aside0.mk (Kd.N_lower (Kd.N_mono (ok' := fun k_ => ((P0_1_ k_ ∨ P1_2_ k_) ∨ w.heap.size ≤ k_) ∧ some k_ ≠ (v266 : Value).ownBlock ∧ k_ ≠ gb258 ∧ k_ ≠ gb259 ∧ k_ ≠ gb260) ho0 (fun k_ hk_ => ⟨Or.elim hk_ (fun hs_ => hs_.1) (fun hn_ => (.inr (Nat.le_trans (below_size ZZ295621) hn_))), Or.elim hk_ (fun hs_ => hs_.2.1) (fun hn_ => (Kd.fresh' (Kd.N_lt ZZf86480) k_ hn_)), Or.elim hk_ (fun hs_ => hs_.2.2.1) (fun hn_ => (Kd.freshB (zB BK258) k_ hn_)), Or.elim hk_ (fun hs_ => hs_.2.2.2.1) (fun hn_ => (Kd.freshB (zB BK259) k_ hn_)), Or.elim hk_ (fun hs_ => hs_.2.2.2.2) (fun hn_ => (Kd.freshB (zB BK260) k_ hn_))⟩)) (below_size ZZ295621))
            replace HO267 := Aside0.mk (Kd.N_elder' ZZf86480 (Kd.N_base ho0) hb)
            replace BK258 := kb BK258 hb
            replace BK259 := kb BK259 hb
            replace BK260 := kb BK260 hb
            replace HB := hB hb
            (try clear hb)
            (try clear hb2)
            (try clear hk)
            (try clear hi)
            (try clear ho0)
            refine hK.out _ _ zK (fun hHeld => ?_)
            clear hK K
            refine nd (some 15) ?_
            exact norm_ ZZ014134 (hJ4_6 (v263, v266) _ ⟨hHeld, ZZd5e4bd, ZZf2d862, ZZe7caad, ZZ6f02c8, (zB BK258), (zB BK259), (zB BK260), ZZ295621⟩)
           skip
           refine box_step ?hg (N := 6) ?hd (cs := #[.slice none 0 0, .slice none 0 0]) (t := 31) ?hr ?_; (case hd => rfl); (case hg => rfl); (case hr => first | (go_simp; done) | (go_simp; rfl))
           intro gb277 hg w21 hbox hb
           replace HO0_1 := Aside0.mk (Kd.V_below (Kd.V_elderB ZZ1186ef gb277 (Nat.le_of_eq hg.symm)) hb)
           replace HO1_2 := Aside0.mk (Kd.V_below (Kd.V_elderB ZZ6ff8a7 gb277 (Nat.le_of_eq hg.symm)) hb)
           replace HO267 := Aside0.mk (Kd.N_below (Kd.N_elderB ZZf86480 gb277 (Nat.le_of_eq hg.symm)) hb)
           have BK277 := Aside0.mk (hbox)
           have GW277 := gw hg
           have GE277 := gw hg
           replace HB := hB hb
           have NB258_277 := nl hg BK258
           have NB277_258 := ng hg BK258
           replace BK258 := kb BK258 hb
           have NB259_277 := nl hg BK259
           have NB277_259 := ng hg BK259
           replace BK259 := kb BK259 hb
           have NB260_277 := nl hg BK260
           have NB277_260 := ng hg BK260
           replace BK260 := kb BK260 hb
           clear hb hbox hg
           refine hK.out _ _ zK (fun hHeld => ?_)
           clear hK K
           refine nd (some 6) ?_
           exact norm_ ZZ014134 (hJ6_10 (v266, gb277) _ ⟨hHeld, ZZ74a3b1, ZZ432988, (by refine bN ?_; exact Kd.N_mono HO267.out (fun _ hk => ⟨hk.1.1, ⟨hk.1.2.1, ⟨hk.1.2.2.1, ⟨hk.1.2.2.2, hk.2⟩⟩⟩⟩)), (zB BK258), (zB BK259), (zB BK260), (zB BK277), GW277.out, GE277.out, NB258_277.out, NB277_258.out, NB259_277.out, NB277_259.out, NB260_277.out, NB277_260.out, ZZ295621⟩)
          skip
          rintro v263 w19 ⟨hS_, h0_, h1_, h2_, h3_, h4_, h5_, h6_⟩
          have n0_ : Aside0 (Kd.V k63 63 w19 w.heap.size (fun k_ => ((P0_1_ k_ ∨ P1_2_ k_) ∨ w.heap.size ≤ k_) ∧ some k_ ≠ (v263 : Value).ownBlock ∧ k_ ≠ gb258 ∧ k_ ≠ gb259 ∧ k_ ≠ gb260) (.slice A0_1 l0_1.length c0_1) l0_1) := ⟨h0_⟩
          have n1_ : Aside0 (Kd.V k70 70 w19 w.heap.size (fun k_ => ((P0_1_ k_ ∨ P1_2_ k_) ∨ w.heap.size ≤ k_) ∧ some k_ ≠ (v263 : Value).ownBlock ∧ k_ ≠ gb258 ∧ k_ ≠ gb259 ∧ k_ ≠ gb260) (.slice A1_2 l1_2.length c1_2) l1_2) := ⟨h1_⟩
          have n2_ : Aside0 (Kd.N k63 63 w19 w.heap.size (fun k_ => ((P0_1_ k_ ∨ P1_2_ k_) ∨ w.heap.size ≤ k_) ∧ k_ ≠ gb258 ∧ k_ ≠ gb259 ∧ k_ ≠ gb260) v263 t262) := ⟨h2_⟩
          have n3_ : Aside0 (w19.heap[gb258]? = some (.cells #[.slice A0_0 l0_0.length c0_0, .slice A0_1 l0_1.length c0_1] 31 (0, 0))) := ⟨h3_⟩
          have n4_ : Aside0 (w19.heap[gb259]? = some (.cells #[.int .i64 a1_0, .string a1_1, .slice A1_2 l1_2.length c1_2] 63 (0, 0))) := ⟨h4_⟩
          have n5_ : Aside0 (w19.heap[gb260]? = some (.cells #[.slice none 0 0, .slice none 0 0] 31 (0, 0))) := ⟨h5_⟩
          have n6_ : Aside0 (Below w.heap.size w w19) := ⟨h6_⟩
          clear HO0_1
          clear HO1_2
          clear BK258
          clear BK259
          clear BK260
          clear HB
          clear h0_ h1_ h2_ h3_ h4_ h5_ h6_
          have HO0_1 := n0_
          have HO1_2 := n1_
          have HO264 := n2_
          have BK258 := n3_
          have BK259 := n4_
          have BK260 := n5_
          have HB := n6_
          clear n0_ n1_ n2_ n3_ n4_ n5_ n6_
          have hHeld : w19.cell? ⟨gb258, 0, none⟩ = some (.slice A0_0 l0_0.length c0_0) ∧ w19.cell? ⟨gb258, 1, none⟩ = some (.slice A0_1 l0_1.length c0_1) ∧ w19.cell? ⟨gb259, 0, none⟩ = some (.int .i64 a1_0) ∧ w19.cell? ⟨gb259, 1, none⟩ = some (.string a1_1) ∧ w19.cell? ⟨gb259, 2, none⟩ = some (.slice A1_2 l1_2.length c1_2) := hS_
          refine norm_ (a' := ?_) ?_ ?_
          rotate_left
          ·simp only [putAll, Act.put, List.setIfInBounds_toArray, List.set_cons_zero, List.set_cons_succ]
           rfl
          refine two_ (i := 6) (j := 10) (Ni := some 17) (Nj := some 6) #[true, true, true, true, true, true, true, false, false, false, false, false] #[true, true, true, true, true, true, false, false, false, false, true, false] rfl rfl rfl rfl (two_of HT_.out (by kernel_rfl)) (by decide) (by decide) (fun K hK => ?_) (fun K hK => ?_)
          ·skip
           refine Kd.N_lit_step k63 _ 63 ?hg (N' := 17) ?hd (xs := ([(⟨a1_0, a1_1, l1_2⟩ : S63)] : List (S63))) (inner := [.int .i64 a1_0, .string a1_1, .slice A1_2 l1_2.length c1_2]) (ok := (fun k_ => ((P0_1_ k_ ∨ P1_2_ k_) ∨ w.heap.size ≤ k_) ∧ some k_ ≠ (v263 : Value).ownBlock ∧ k_ ≠ gb258 ∧ k_ ≠ gb259 ∧ k_ ≠ gb260)) (okp := (fun k_ => ((P0_1_ k_ ∨ P1_2_ k_) ∨ w.heap.size ≤ k_) ∧ some k_ ≠ (v263 : Value).ownBlock ∧ k_ ≠ gb258 ∧ k_ ≠ gb259 ∧ k_ ≠ gb260)) ?hr ?hp (fun _ hk => hk) ((show ∀ k_, w19.heap.size ≤ k_ → (fun k_ => ((P0_1_ k_ ∨ P1_2_ k_) ∨ w.heap.size ≤ k_) ∧ some k_ ≠ (v263 : Value).ownBlock ∧ k_ ≠ gb258 ∧ k_ ≠ gb259 ∧ k_ ≠ gb260) k_ from fun k_ hk => ⟨(.inr (Nat.le_trans (below_size ZZ295621) hk)), Kd.fresh' (Kd.N_lt ZZe7caad) k_ hk, Kd.freshB (zB BK258) k_ hk, Kd.freshB (zB BK259) k_ hk, Kd.freshB (zB BK260) k_ hk⟩) _ (Nat.le_refl _)) (Below.refl _ _) (Nat.le_refl _) (by simp) ?_; (case hd => rfl); (case hg => rfl); (case hr => first | (go_simp; done) | (go_simp; rfl)); (case hp => exact (Reps.c3 (show Kd.FK k63 _ _ (⟨a1_0, a1_1, l1_2⟩ : S63) [.int .i64 a1_0, .string a1_1, .slice A1_2 l1_2.length c1_2] from (k63_mkF _ _ (⟨a1_0, a1_1, l1_2⟩ : S63) (Kd.V_reads' (Kd.V_mono (ok' := (fun k_ => ((P0_1_ k_ ∨ P1_2_ k_) ∨ w.heap.size ≤ k_) ∧ some k_ ≠ (v263 : Value).ownBlock ∧ k_ ≠ gb258 ∧ k_ ≠ gb259 ∧ k_ ≠ gb260)) (HO1_2.out) (fun k_ hk => ⟨hk.1, ⟨hk.2.1, ⟨hk.2.2.1, ⟨hk.2.2.2.1, hk.2.2.2.2⟩⟩⟩⟩))).2.1 (Kd.V_F (Kd.V_mono (ok' := (fun k_ => ((P0_1_ k_ ∨ P1_2_ k_) ∨ w.heap.size ≤ k_) ∧ some k_ ≠ (v263 : Value).ownBlock ∧ k_ ≠ gb258 ∧ k_ ≠ gb259 ∧ k_ ≠ gb260)) (HO1_2.out) (fun k_ hk => ⟨hk.1, ⟨hk.2.1, ⟨hk.2.2.1, ⟨hk.2.2.2.1, hk.2.2.2.2⟩⟩⟩⟩))))) (Reps.none _ _)))
           intro v266 w20 ho21 hb hg_ hnew_
           clear hg_ hnew_
           (first | rw [← Ny265.out] at ho21 | (simp only [Int.reduceToNat] at ho21; rw [← Ny265.out] at ho21))
           replace HO0_1 := Aside0.mk (Kd.V_elder' ZZ1186ef (Kd.N_base ho21) hb)
           replace HO1_2 := Aside0.mk (Kd.V_elder' ZZ6ff8a7 (Kd.N_base ho21) hb)
           replace HO264 := Aside0.mk (Kd.N_elder' ZZe7caad (Kd.N_base ho21) hb)
           have HO267 := Aside0.mk (Kd.N_lower ho21 (below_size ZZ295621))
           replace BK258 := kb BK258 hb
           replace BK259 := kb BK259 hb
           replace BK260 := kb BK260 hb
           replace HB := hB hb
           clear hb ho21
           refine hK.out _ _ zK (fun hHeld => ?_)
           clear hK K
           refine nd (some 17) ?_
           exact norm_ ZZ014134 (hJ4_6 (v263, v266) _ ⟨hHeld, ZZ6ebf87, ZZ14e881, (by refine bN ?_; exact Kd.N_mono HO264.out (fun _ hk => ⟨hk.1.1, ⟨hk.2, ⟨hk.1.2.1, ⟨hk.1.2.2.1, hk.1.2.2.2⟩⟩⟩⟩)), ZZf86480, (zB BK258), (zB BK259), (zB BK260), ZZ295621⟩)
          skip
          refine box_step ?hg (N := 6) ?hd (cs := #[.slice none 0 0, .slice none 0 0]) (t := 31) ?hr ?_; (case hd => rfl); (case hg => rfl); (case hr => first | (go_simp; done) | (go_simp; rfl))
          intro gb277 hg w20 hbox hb
          replace HO0_1 := Aside0.mk (Kd.V_below (Kd.V_elderB ZZ1186ef gb277 (Nat.le_of_eq hg.symm)) hb)
          replace HO1_2 := Aside0.mk (Kd.V_below (Kd.V_elderB ZZ6ff8a7 gb277 (Nat.le_of_eq hg.symm)) hb)
          replace HO264 := Aside0.mk (Kd.N_below (Kd.N_elderB ZZe7caad gb277 (Nat.le_of_eq hg.symm)) hb)
          have BK277 := Aside0.mk (hbox)
          have GW277 := gw hg
          have GE277 := gw hg
          replace HB := hB hb
          have NB258_277 := nl hg BK258
          have NB277_258 := ng hg BK258
          replace BK258 := kb BK258 hb
          have NB259_277 := nl hg BK259
          have NB277_259 := ng hg BK259
          replace BK259 := kb BK259 hb
          have NB260_277 := nl hg BK260
          have NB277_260 := ng hg BK260
          replace BK260 := kb BK260 hb
          clear hb hbox hg
          refine hK.out _ _ zK (fun hHeld => ?_)
          clear hK K
          refine nd (some 6) ?_
          exact norm_ ZZ014134 (hJ4_10 (v263, gb277) _ ⟨hHeld, ZZ74a3b1, ZZ432988, (by refine bN ?_; exact Kd.N_mono HO264.out (fun _ hk => ⟨hk.1.1, ⟨hk.1.2.1, ⟨hk.1.2.2.1, ⟨hk.1.2.2.2, hk.2⟩⟩⟩⟩)), (zB BK258), (zB BK259), (zB BK260), (zB BK277), GW277.out, GE277.out, NB258_277.out, NB277_258.out, NB259_277.out, NB277_259.out, NB260_277.out, NB277_260.out, ZZ295621⟩)
         skip
         rintro ⟨v266, gb277⟩ w21 ⟨hS_, h0_, h1_, h2_, h3_, h4_, h5_, h6_, h7_, h8_, h9_, h10_, h11_, h12_, h13_, h14_, h15_⟩
         have n0_ : Aside0 (Kd.V k63 63 w21 w.heap.size (fun k_ => ((P0_1_ k_ ∨ P1_2_ k_) ∨ w.heap.size ≤ k_) ∧ some k_ ≠ (v266 : Value).ownBlock ∧ k_ ≠ gb258 ∧ k_ ≠ gb259 ∧ k_ ≠ gb260 ∧ k_ ≠ gb277) (.slice A0_1 l0_1.length c0_1) l0_1) := ⟨h0_⟩
         have n1_ : Aside0 (Kd.V k70 70 w21 w.heap.size (fun k_ => ((P0_1_ k_ ∨ P1_2_ k_) ∨ w.heap.size ≤ k_) ∧ some k_ ≠ (v266 : Value).ownBlock ∧ k_ ≠ gb258 ∧ k_ ≠ gb259 ∧ k_ ≠ gb260 ∧ k_ ≠ gb277) (.slice A1_2 l1_2.length c1_2) l1_2) := ⟨h1_⟩
         have n2_ : Aside0 (Kd.N k63 63 w21 w.heap.size (fun k_ => ((P0_1_ k_ ∨ P1_2_ k_) ∨ w.heap.size ≤ k_) ∧ k_ ≠ gb258 ∧ k_ ≠ gb259 ∧ k_ ≠ gb260 ∧ k_ ≠ gb277) v266 y265) := ⟨h2_⟩
         have n3_ : Aside0 (w21.heap[gb258]? = some (.cells #[.slice A0_0 l0_0.length c0_0, .slice A0_1 l0_1.length c0_1] 31 (0, 0))) := ⟨h3_⟩
         have n4_ : Aside0 (w21.heap[gb259]? = some (.cells #[.int .i64 a1_0, .string a1_1, .slice A1_2 l1_2.length c1_2] 63 (0, 0))) := ⟨h4_⟩
         have n5_ : Aside0 (w21.heap[gb260]? = some (.cells #[.slice none 0 0, .slice none 0 0] 31 (0, 0))) := ⟨h5_⟩
         have n6_ : Aside0 (w21.heap[gb277]? = some (.cells #[.slice none 0 0, .slice none 0 0] 31 (0, 0))) := ⟨h6_⟩
         have n7_ : Aside0 (w.heap.size ≤ gb277) := ⟨h7_⟩
         have n8_ : Aside0 (w.heap.size ≤ gb277) := ⟨h8_⟩
         have n9_ : Aside0 (gb258 ≠ gb277) := ⟨h9_⟩
         have n10_ : Aside0 (gb277 ≠ gb258) := ⟨h10_⟩
         have n11_ : Aside0 (gb259 ≠ gb277) := ⟨h11_⟩
         have n12_ : Aside0 (gb277 ≠ gb259) := ⟨h12_⟩
         have n13_ : Aside0 (gb260 ≠ gb277) := ⟨h13_⟩
         have n14_ : Aside0 (gb277 ≠ gb260) := ⟨h14_⟩
         have n15_ : Aside0 (Below w.heap.size w w21) := ⟨h15_⟩
         clear HO0_1
         clear HO1_2
         clear BK258
         clear BK259
         clear BK260
         clear HB
         clear h0_ h1_ h2_ h3_ h4_ h5_ h6_ h7_ h8_ h9_ h10_ h11_ h12_ h13_ h14_ h15_
         have HO0_1 := n0_
         have HO1_2 := n1_
         have HO267 := n2_
         have BK258 := n3_
         have BK259 := n4_
         have BK260 := n5_
         have BK277 := n6_
         have GW277 := n7_
         have GE277 := n8_
         have NB258_277 := n9_
         have NB277_258 := n10_
         have NB259_277 := n11_
         have NB277_259 := n12_
         have NB260_277 := n13_
         have NB277_260 := n14_
         have HB := n15_
         clear n0_ n1_ n2_ n3_ n4_ n5_ n6_ n7_ n8_ n9_ n10_ n11_ n12_ n13_ n14_ n15_
         have hHeld : w21.cell? ⟨gb258, 0, none⟩ = some (.slice A0_0 l0_0.length c0_0) ∧ w21.cell? ⟨gb258, 1, none⟩ = some (.slice A0_1 l0_1.length c0_1) ∧ w21.cell? ⟨gb259, 0, none⟩ = some (.int .i64 a1_0) ∧ w21.cell? ⟨gb259, 1, none⟩ = some (.string a1_1) ∧ w21.cell? ⟨gb259, 2, none⟩ = some (.slice A1_2 l1_2.length c1_2) := hS_
         refine norm_ (a' := ?_) ?_ ?_
         rotate_left
         ·simp only [putAll, Act.put, List.setIfInBounds_toArray, List.set_cons_zero, List.set_cons_succ]
          rfl
         refine on 4 (some 15) (fun K hK => ?_)
         refine goes_ Tryd.func84 (by kernel_rfl) rfl #[.slice A0_1 l0_1.length c0_1] (by rfl) rfl rfl ZZ19826e ?_
         with_reducible refine (impl_BookEntry.calls (fun k_ => (((P0_1_ k_ ∨ P1_2_ k_) ∨ w.heap.size ≤ k_) ∧ (some k_ ≠ (v266 : Value).ownBlock ∧ (k_ ≠ gb258 ∧ (k_ ≠ gb259 ∧ (k_ ≠ gb260 ∧ k_ ≠ gb277)))))) _ _ l0_1 t262 _ ?side1 A5.out).mono ?_
         (case side1 => exact HO0_1.out)
         rintro e w22 ⟨v263, rfl, ho0, hb⟩
         refine ⟨_, rfl, ?_⟩
         replace HO0_1 := Aside0.mk (Kd.V_elder' ZZ1186ef (Kd.N_base ho0) hb)
         replace HO1_2 := Aside0.mk (Kd.V_elder' ZZ6ff8a7 (Kd.N_base ho0) hb)
         have HO264 := Aside0.mk (Kd.N_lower (Kd.N_mono (ok' := fun k_ => ((P0_1_ k_ ∨ P1_2_ k_) ∨ w.heap.size ≤ k_) ∧ some k_ ≠ (v266 : Value).ownBlock ∧ k_ ≠ gb258 ∧ k_ ≠ gb259 ∧ k_ ≠ gb260 ∧ k_ ≠ gb277) ho0 (fun k_ hk_ => ⟨Or.elim hk_ (fun hs_ => hs_.1) (fun hn_ => (.inr (Nat.le_trans (below_size ZZ295621) hn_))), Or.elim hk_ (fun hs_ => hs_.2.1) (fun hn_ => (Kd.fresh' (Kd.N_lt ZZf86480) k_ hn_)), Or.elim hk_ (fun hs_ => hs_.2.2.1) (fun hn_ => (Kd.freshB (zB BK258) k_ hn_)), Or.elim hk_ (fun hs_ => hs_.2.2.2.1) (fun hn_ => (Kd.freshB (zB BK259) k_ hn_)), Or.elim hk_ (fun hs_ => hs_.2.2.2.2.1) (fun hn_ => (Kd.freshB (zB BK260) k_ hn_)), Or.elim hk_ (fun hs_ => hs_.2.2.2.2.2) (fun hn_ => (Kd.freshB (zB BK277) k_ hn_))⟩)) (below_size ZZ295621))
         replace HO267 := Aside0.mk (Kd.N_elder' ZZf86480 (Kd.N_base ho0) hb)
         replace BK258 := kb BK258 hb
         replace BK259 := kb BK259 hb
         replace BK260 := kb BK260 hb
         replace BK277 := kb BK277 hb
         replace HB := hB hb
         (try clear hb)
         (try clear hb2)
         (try clear hk)
         (try clear hi)
         (try clear ho0)
         refine hK.out _ _ zK (fun hHeld => ?_)
         clear hK K
         refine nd (some 15) ?_
         exact norm_ ZZ014134 (hJ4_6_10 (v263, v266, gb277) _ ⟨hHeld, (by refine bV ?_; exact Kd.V_mono HO0_1.out (fun _ hk => ⟨hk.1.1, ⟨hk.2, ⟨hk.1.2.1, ⟨hk.1.2.2.1, ⟨hk.1.2.2.2.1, ⟨hk.1.2.2.2.2.1, hk.1.2.2.2.2.2⟩⟩⟩⟩⟩⟩)), (by refine bV ?_; exact Kd.V_mono HO1_2.out (fun _ hk => ⟨hk.1.1, ⟨hk.2, ⟨hk.1.2.1, ⟨hk.1.2.2.1, ⟨hk.1.2.2.2.1, ⟨hk.1.2.2.2.2.1, hk.1.2.2.2.2.2⟩⟩⟩⟩⟩⟩)), ZZe7caad, ZZb4ffe9, (zB BK258), (zB BK259), (zB BK260), (zB BK277), GW277.out, GE277.out, NB258_277.out, NB277_258.out, NB259_277.out, NB277_259.out, NB260_277.out, NB277_260.out, ZZ295621⟩)
        skip
        rintro ⟨v263, gb277⟩ w20 ⟨hS_, h0_, h1_, h2_, h3_, h4_, h5_, h6_, h7_, h8_, h9_, h10_, h11_, h12_, h13_, h14_, h15_⟩
        have n0_ : Aside0 (Kd.V k63 63 w20 w.heap.size (fun k_ => ((P0_1_ k_ ∨ P1_2_ k_) ∨ w.heap.size ≤ k_) ∧ some k_ ≠ (v263 : Value).ownBlock ∧ k_ ≠ gb258 ∧ k_ ≠ gb259 ∧ k_ ≠ gb260 ∧ k_ ≠ gb277) (.slice A0_1 l0_1.length c0_1) l0_1) := ⟨h0_⟩
        have n1_ : Aside0 (Kd.V k70 70 w20 w.heap.size (fun k_ => ((P0_1_ k_ ∨ P1_2_ k_) ∨ w.heap.size ≤ k_) ∧ some k_ ≠ (v263 : Value).ownBlock ∧ k_ ≠ gb258 ∧ k_ ≠ gb259 ∧ k_ ≠ gb260 ∧ k_ ≠ gb277) (.slice A1_2 l1_2.length c1_2) l1_2) := ⟨h1_⟩
        have n2_ : Aside0 (Kd.N k63 63 w20 w.heap.size (fun k_ => ((P0_1_ k_ ∨ P1_2_ k_) ∨ w.heap.size ≤ k_) ∧ k_ ≠ gb258 ∧ k_ ≠ gb259 ∧ k_ ≠ gb260 ∧ k_ ≠ gb277) v263 t262) := ⟨h2_⟩
        have n3_ : Aside0 (w20.heap[gb258]? = some (.cells #[.slice A0_0 l0_0.length c0_0, .slice A0_1 l0_1.length c0_1] 31 (0, 0))) := ⟨h3_⟩
        have n4_ : Aside0 (w20.heap[gb259]? = some (.cells #[.int .i64 a1_0, .string a1_1, .slice A1_2 l1_2.length c1_2] 63 (0, 0))) := ⟨h4_⟩
        have n5_ : Aside0 (w20.heap[gb260]? = some (.cells #[.slice none 0 0, .slice none 0 0] 31 (0, 0))) := ⟨h5_⟩
        have n6_ : Aside0 (w20.heap[gb277]? = some (.cells #[.slice none 0 0, .slice none 0 0] 31 (0, 0))) := ⟨h6_⟩
        have n7_ : Aside0 (w.heap.size ≤ gb277) := ⟨h7_⟩
        have n8_ : Aside0 (w.heap.size ≤ gb277) := ⟨h8_⟩
        have n9_ : Aside0 (gb258 ≠ gb277) := ⟨h9_⟩
        have n10_ : Aside0 (gb277 ≠ gb258) := ⟨h10_⟩
        have n11_ : Aside0 (gb259 ≠ gb277) := ⟨h11_⟩
        have n12_ : Aside0 (gb277 ≠ gb259) := ⟨h12_⟩
        have n13_ : Aside0 (gb260 ≠ gb277) := ⟨h13_⟩
        have n14_ : Aside0 (gb277 ≠ gb260) := ⟨h14_⟩
        have n15_ : Aside0 (Below w.heap.size w w20) := ⟨h15_⟩
        clear HO0_1
        clear HO1_2
        clear BK258
        clear BK259
        clear BK260
        clear HB
        clear h0_ h1_ h2_ h3_ h4_ h5_ h6_ h7_ h8_ h9_ h10_ h11_ h12_ h13_ h14_ h15_
        have HO0_1 := n0_
        have HO1_2 := n1_
        have HO264 := n2_
        have BK258 := n3_
        have BK259 := n4_
        have BK260 := n5_
        have BK277 := n6_
        have GW277 := n7_
        have GE277 := n8_
        have NB258_277 := n9_
        have NB277_258 := n10_
        have NB259_277 := n11_
        have NB277_259 := n12_
        have NB260_277 := n13_
        have NB277_260 := n14_
        have HB := n15_
        clear n0_ n1_ n2_ n3_ n4_ n5_ n6_ n7_ n8_ n9_ n10_ n11_ n12_ n13_ n14_ n15_
        have hHeld : w20.cell? ⟨gb258, 0, none⟩ = some (.slice A0_0 l0_0.length c0_0) ∧ w20.cell? ⟨gb258, 1, none⟩ = some (.slice A0_1 l0_1.length c0_1) ∧ w20.cell? ⟨gb259, 0, none⟩ = some (.int .i64 a1_0) ∧ w20.cell? ⟨gb259, 1, none⟩ = some (.string a1_1) ∧ w20.cell? ⟨gb259, 2, none⟩ = some (.slice A1_2 l1_2.length c1_2) := hS_
        refine norm_ (a' := ?_) ?_ ?_
        rotate_left
        ·simp only [putAll, Act.put, List.setIfInBounds_toArray, List.set_cons_zero, List.set_cons_succ]
         rfl
        refine on 6 (some 17) (fun K hK => ?_)
        refine Kd.N_lit_step k63 _ 63 ?hg (N' := 17) ?hd (xs := ([(⟨a1_0, a1_1, l1_2⟩ : S63)] : List (S63))) (inner := [.int .i64 a1_0, .string a1_1, .slice A1_2 l1_2.length c1_2]) (ok := (fun k_ => ((P0_1_ k_ ∨ P1_2_ k_) ∨ w.heap.size ≤ k_) ∧ some k_ ≠ (v263 : Value).ownBlock ∧ k_ ≠ gb258 ∧ k_ ≠ gb259 ∧ k_ ≠ gb260 ∧ k_ ≠ gb277)) (okp := (fun k_ => ((P0_1_ k_ ∨ P1_2_ k_) ∨ w.heap.size ≤ k_) ∧ some k_ ≠ (v263 : Value).ownBlock ∧ k_ ≠ gb258 ∧ k_ ≠ gb259 ∧ k_ ≠ gb260 ∧ k_ ≠ gb277)) ?hr ?hp (fun _ hk => hk) ((show ∀ k_, w20.heap.size ≤ k_ → (fun k_ => ((P0_1_ k_ ∨ P1_2_ k_) ∨ w.heap.size ≤ k_) ∧ some k_ ≠ (v263 : Value).ownBlock ∧ k_ ≠ gb258 ∧ k_ ≠ gb259 ∧ k_ ≠ gb260 ∧ k_ ≠ gb277) k_ from fun k_ hk => ⟨(.inr (Nat.le_trans (below_size ZZ295621) hk)), Kd.fresh' (Kd.N_lt ZZe7caad) k_ hk, Kd.freshB (zB BK258) k_ hk, Kd.freshB (zB BK259) k_ hk, Kd.freshB (zB BK260) k_ hk, Kd.freshB (zB BK277) k_ hk⟩) _ (Nat.le_refl _)) (Below.refl _ _) (Nat.le_refl _) (by simp) ?_; (case hd => rfl); (case hg => rfl); (case hr => first | (go_simp; done) | (go_simp; rfl)); (case hp => exact (Reps.c3 (show Kd.FK k63 _ _ (⟨a1_0, a1_1, l1_2⟩ : S63) [.int .i64 a1_0, .string a1_1, .slice A1_2 l1_2.length c1_2] from (k63_mkF _ _ (⟨a1_0, a1_1, l1_2⟩ : S63) (Kd.V_reads' (Kd.V_mono (ok' := (fun k_ => ((P0_1_ k_ ∨ P1_2_ k_) ∨ w.heap.size ≤ k_) ∧ some k_ ≠ (v263 : Value).ownBlock ∧ k_ ≠ gb258 ∧ k_ ≠ gb259 ∧ k_ ≠ gb260 ∧ k_ ≠ gb277)) (HO1_2.out) (fun k_ hk => ⟨hk.1, ⟨hk.2.1, ⟨hk.2.2.1, ⟨hk.2.2.2.1, ⟨hk.2.2.2.2.1, hk.2.2.2.2.2⟩⟩⟩⟩⟩))).2.1 (Kd.V_F (Kd.V_mono (ok' := (fun k_ => ((P0_1_ k_ ∨ P1_2_ k_) ∨ w.heap.size ≤ k_) ∧ some k_ ≠ (v263 : Value).ownBlock ∧ k_ ≠ gb258 ∧ k_ ≠ gb259 ∧ k_ ≠ gb260 ∧ k_ ≠ gb277)) (HO1_2.out) (fun k_ hk => ⟨hk.1, ⟨hk.2.1, ⟨hk.2.2.1, ⟨hk.2.2.2.1, ⟨hk.2.2.2.2.1, hk.2.2.2.2.2⟩⟩⟩⟩⟩))))) (Reps.none _ _)))
        intro v266 w21 ho22 hb hg_ hnew_
        clear hg_ hnew_
        (first | rw [← Ny265.out] at ho22 | (simp only [Int.reduceToNat] at ho22; rw [← Ny265.out] at ho22))
        replace HO0_1 := Aside0.mk (Kd.V_elder' ZZ1186ef (Kd.N_base ho22) hb)
        replace HO1_2 := Aside0.mk (Kd.V_elder' ZZ6ff8a7 (Kd.N_base ho22) hb)
        replace HO264 := Aside0.mk (Kd.N_elder' ZZe7caad (Kd.N_base ho22) hb)
        have HO267 := Aside0.mk (Kd.N_lower ho22 (below_size ZZ295621))
        replace BK258 := kb BK258 hb
        replace BK259 := kb BK259 hb
        replace BK260 := kb BK260 hb
        replace BK277 := kb BK277 hb
        replace HB := hB hb
        clear hb ho22
        refine hK.out _ _ zK (fun hHeld => ?_)
        clear hK K
        refine nd (some 17) ?_
        exact norm_ ZZ014134 (hJ4_6_10 (v263, v266, gb277) _ ⟨hHeld, ZZff724a, ZZbd8012, (by refine bN ?_; exact Kd.N_mono HO264.out (fun _ hk => ⟨hk.1.1, ⟨hk.2, ⟨hk.1.2.1, ⟨hk.1.2.2.1, ⟨hk.1.2.2.2.1, hk.1.2.2.2.2⟩⟩⟩⟩⟩)), ZZf86480, (zB BK258), (zB BK259), (zB BK260), (zB BK277), GW277.out, GE277.out, NB258_277.out, NB277_258.out, NB259_277.out, NB277_259.out, NB260_277.out, NB277_260.out, ZZ295621⟩)
       skip
       rintro ⟨v263, v266⟩ w21 ⟨hS_, h0_, h1_, h2_, h3_, h4_, h5_, h6_, h7_⟩
       have n0_ : Aside0 (Kd.V k63 63 w21 w.heap.size (fun k_ => ((P0_1_ k_ ∨ P1_2_ k_) ∨ w.heap.size ≤ k_) ∧ some k_ ≠ (v263 : Value).ownBlock ∧ some k_ ≠ (v266 : Value).ownBlock ∧ k_ ≠ gb258 ∧ k_ ≠ gb259 ∧ k_ ≠ gb260) (.slice A0_1 l0_1.length c0_1) l0_1) := ⟨h0_⟩
       have n1_ : Aside0 (Kd.V k70 70 w21 w.heap.size (fun k_ => ((P0_1_ k_ ∨ P1_2_ k_) ∨ w.heap.size ≤ k_) ∧ some k_ ≠ (v263 : Value).ownBlock ∧ some k_ ≠ (v266 : Value).ownBlock ∧ k_ ≠ gb258 ∧ k_ ≠ gb259 ∧ k_ ≠ gb260) (.slice A1_2 l1_2.length c1_2) l1_2) := ⟨h1_⟩
       have n2_ : Aside0 (Kd.N k63 63 w21 w.heap.size (fun k_ => ((P0_1_ k_ ∨ P1_2_ k_) ∨ w.heap.size ≤ k_) ∧ some k_ ≠ (v266 : Value).ownBlock ∧ k_ ≠ gb258 ∧ k_ ≠ gb259 ∧ k_ ≠ gb260) v263 t262) := ⟨h2_⟩
       have n3_ : Aside0 (Kd.N k63 63 w21 w.heap.size (fun k_ => ((P0_1_ k_ ∨ P1_2_ k_) ∨ w.heap.size ≤ k_) ∧ some k_ ≠ (v263 : Value).ownBlock ∧ k_ ≠ gb258 ∧ k_ ≠ gb259 ∧ k_ ≠ gb260) v266 y265) := ⟨h3_⟩
       have n4_ : Aside0 (w21.heap[gb258]? = some (.cells #[.slice A0_0 l0_0.length c0_0, .slice A0_1 l0_1.length c0_1] 31 (0, 0))) := ⟨h4_⟩
       have n5_ : Aside0 (w21.heap[gb259]? = some (.cells #[.int .i64 a1_0, .string a1_1, .slice A1_2 l1_2.length c1_2] 63 (0, 0))) := ⟨h5_⟩
       have n6_ : Aside0 (w21.heap[gb260]? = some (.cells #[.slice none 0 0, .slice none 0 0] 31 (0, 0))) := ⟨h6_⟩
       have n7_ : Aside0 (Below w.heap.size w w21) := ⟨h7_⟩
       clear HO0_1
       clear HO1_2
       clear BK258
       clear BK259
       clear BK260
       clear HB
       clear h0_ h1_ h2_ h3_ h4_ h5_ h6_ h7_
       have HO0_1 := n0_
       have HO1_2 := n1_
       have HO264 := n2_
       have HO267 := n3_
       have BK258 := n4_
       have BK259 := n5_
       have BK260 := n6_
       have HB := n7_
       clear n0_ n1_ n2_ n3_ n4_ n5_ n6_ n7_
       have hHeld : w21.cell? ⟨gb258, 0, none⟩ = some (.slice A0_0 l0_0.length c0_0) ∧ w21.cell? ⟨gb258, 1, none⟩ = some (.slice A0_1 l0_1.length c0_1) ∧ w21.cell? ⟨gb259, 0, none⟩ = some (.int .i64 a1_0) ∧ w21.cell? ⟨gb259, 1, none⟩ = some (.string a1_1) ∧ w21.cell? ⟨gb259, 2, none⟩ = some (.slice A1_2 l1_2.length c1_2) := hS_
       obtain ⟨Ao23, co23, eo23⟩ := Kd.N_slice HO267.out
       (first | subst eo23 | (injection eo23 with f1_ f2_ f3_; have f4_ := f1_.symm; have f5_ := f3_.symm; clear f1_ f2_ f3_; subst f4_; subst f5_))
       refine norm_ (a' := ?_) ?_ ?_
       rotate_left
       ·simp only [putAll, Act.put, List.setIfInBounds_toArray, List.set_cons_zero, List.set_cons_succ]
        rfl
       refine two_ (i := 7) (j := 10) (Ni := some 18) (Nj := some 6) #[true, true, true, true, true, true, true, true, false, false, false, false] #[true, true, true, true, true, true, true, false, false, false, true, false] rfl rfl rfl rfl (two_of HT_.out (by kernel_rfl)) (by decide) (by decide) (fun K hK => ?_) (fun K hK => ?_)
       ·skip
        refine Kd.N_append_rows_step k63 (w0 := w) w.heap.size (by rfl) (.tmp 15) (.tmp 17) 29 63 (.agg #[(.int .i64 0), (.string ⟨#[]⟩), (.slice none 0 0)]) 48 rfl Tryd.underlying29 info63 rfl (by decide) (by omega) v263 t262 y265 _ _ _ (fun k_ => ((P0_1_ k_ ∨ P1_2_ k_) ∨ w.heap.size ≤ k_) ∧ k_ ≠ gb258 ∧ k_ ≠ gb259 ∧ k_ ≠ gb260) (fun k_ => ((fun k_ => ((P0_1_ k_ ∨ P1_2_ k_) ∨ w.heap.size ≤ k_) ∧ k_ ≠ gb258 ∧ k_ ≠ gb259 ∧ k_ ≠ gb260)) k_ ∧ some k_ ≠ (v263 : Value).ownBlock) rfl rfl ?aO ?aR (fun _ hk => hk) ?aF ?aB ?aS ?aL ?_
        (case aR => exact (by skip; exact Kd.N_F (Kd.N_mono (ok' := (fun k_ => ((fun k_ => ((P0_1_ k_ ∨ P1_2_ k_) ∨ w.heap.size ≤ k_) ∧ k_ ≠ gb258 ∧ k_ ≠ gb259 ∧ k_ ≠ gb260)) k_ ∧ some k_ ≠ (v263 : Value).ownBlock)) (HO267.out) (fun k_ hk => ⟨⟨hk.1, ⟨hk.2.2.1, ⟨hk.2.2.2.1, hk.2.2.2.2⟩⟩⟩, hk.2.1⟩))))
        (case aB => exact ZZ295621)
        (case aF => exact (fun k_ hk => ⟨(.inr (Nat.le_trans (below_size ZZ295621) hk)), Kd.freshB (zB BK258) k_ hk, Kd.freshB (zB BK259) k_ hk, Kd.freshB (zB BK260) k_ hk⟩))
        (case aO => exact (by refine bN ?_; exact Kd.N_mono HO264.out (fun _ hk => ⟨hk.1, ⟨hk.2.2.1, ⟨hk.2.2.2.1, hk.2.2.2.2⟩⟩⟩)))
        (case aS => exact (below_size ZZ295621))
        (case aL => have := LMc6.out; omega)
        intro v269 w22 ho hb hg hat
        rw [← Ny268.out] at ho
        replace HO0_1 := Aside0.mk (Kd.V_afterv (ok := (fun k_ => ((P0_1_ k_ ∨ P1_2_ k_) ∨ w.heap.size ≤ k_) ∧ some k_ ≠ (.slice Ao23 y265.length co23 : Value).ownBlock ∧ k_ ≠ gb258 ∧ k_ ≠ gb259 ∧ k_ ≠ gb260)) (by refine bV ?_; exact Kd.V_mono HO0_1.out (fun _ hk => ⟨⟨hk.1, ⟨hk.2.2.1, ⟨hk.2.2.2.1, ⟨hk.2.2.2.2.1, hk.2.2.2.2.2⟩⟩⟩⟩, hk.2.1⟩)) hg hat)
        replace HO1_2 := Aside0.mk (Kd.V_afterv (ok := (fun k_ => ((P0_1_ k_ ∨ P1_2_ k_) ∨ w.heap.size ≤ k_) ∧ some k_ ≠ (.slice Ao23 y265.length co23 : Value).ownBlock ∧ k_ ≠ gb258 ∧ k_ ≠ gb259 ∧ k_ ≠ gb260)) (by refine bV ?_; exact Kd.V_mono HO1_2.out (fun _ hk => ⟨⟨hk.1, ⟨hk.2.2.1, ⟨hk.2.2.2.1, ⟨hk.2.2.2.2.1, hk.2.2.2.2.2⟩⟩⟩⟩, hk.2.1⟩)) hg hat)
        replace BK258 := Aside0.mk (blk_grown (zB BK258) hg (Kd.N_ne HO264.out BK258.out (by decide)))
        replace BK259 := Aside0.mk (blk_grown (zB BK259) hg (Kd.N_away HO264.out (fun _ hk => hk.2.2.2.1)))
        replace BK260 := Aside0.mk (blk_grown (zB BK260) hg (Kd.N_ne HO264.out BK260.out (by decide)))
        replace HO267 := Aside0.mk (Kd.N_afterv (ok := (fun k_ => ((P0_1_ k_ ∨ P1_2_ k_) ∨ w.heap.size ≤ k_) ∧ k_ ≠ gb258 ∧ k_ ≠ gb259 ∧ k_ ≠ gb260)) (by refine bN ?_; exact Kd.N_mono HO267.out (fun _ hk => ⟨⟨hk.1, ⟨hk.2.2.1, ⟨hk.2.2.2.1, hk.2.2.2.2⟩⟩⟩, hk.2.1⟩)) hg hat)
        replace HB := Aside0.mk (hb)
        have HO270 := Aside0.mk (ho)
        clear HO264
        clear ho hb hg hat
        obtain ⟨Ao24, co24, eo24⟩ := Kd.N_slice HO270.out
        (first | subst eo24 | (injection eo24 with f1_ f2_ f3_; have f4_ := f1_.symm; have f5_ := f3_.symm; clear f1_ f2_ f3_; subst f4_; subst f5_))
        refine hK.out _ _ zK (fun hHeld => ?_)
        clear hK K
        refine nd (some 18) ?_
        refine pu 8 19 ?_
        exact norm_ ZZ014134 (hJ4_6_7 (v263, .slice Ao23 y265.length co23, .slice Ao24 y268.length co24) _ ⟨hHeld, ZZ6ebf87, ZZ14e881, ZZ6f02c8, ZZf947e1, (zB BK258), (zB BK259), (zB BK260), ZZ295621⟩)
       skip
       refine box_step ?hg (N := 6) ?hd (cs := #[.slice none 0 0, .slice none 0 0]) (t := 31) ?hr ?_; (case hd => rfl); (case hg => rfl); (case hr => first | (go_simp; done) | (go_simp; rfl))
       intro gb277 hg w22 hbox hb
       replace HO0_1 := Aside0.mk (Kd.V_below (Kd.V_elderB ZZ1186ef gb277 (Nat.le_of_eq hg.symm)) hb)
       replace HO1_2 := Aside0.mk (Kd.V_below (Kd.V_elderB ZZ6ff8a7 gb277 (Nat.le_of_eq hg.symm)) hb)
       replace HO264 := Aside0.mk (Kd.N_below (Kd.N_elderB ZZe7caad gb277 (Nat.le_of_eq hg.symm)) hb)
       replace HO267 := Aside0.mk (Kd.N_below (Kd.N_elderB ZZf86480 gb277 (Nat.le_of_eq hg.symm)) hb)
       have BK277 := Aside0.mk (hbox)
       have GW277 := gw hg
       have GE277 := gw hg
       replace HB := hB hb
       have NB258_277 := nl hg BK258
       have NB277_258 := ng hg BK258
       replace BK258 := kb BK258 hb
       have NB259_277 := nl hg BK259
       have NB277_259 := ng hg BK259
       replace BK259 := kb BK259 hb
       have NB260_277 := nl hg BK260
       have NB277_260 := ng hg BK260
       replace BK260 := kb BK260 hb
       clear hb hbox hg
       refine hK.out _ _ zK (fun hHeld => ?_)
       clear hK K
       refine nd (some 6) ?_
       exact norm_ ZZ014134 (hJ4_6_10 (v263, (.slice Ao23 y265.length co23), gb277) _ ⟨hHeld, ZZ22d34a, ZZb93140, (by refine bN ?_; exact Kd.N_mono HO264.out (fun _ hk => ⟨hk.1.1, ⟨hk.1.2.1, ⟨hk.1.2.2.1, ⟨hk.1.2.2.2.1, ⟨hk.1.2.2.2.2, hk.2⟩⟩⟩⟩⟩)), ZZc4c9ba, (zB BK258), (zB BK259), (zB BK260), (zB BK277), GW277.out, GE277.out, NB258_277.out, NB277_258.out, NB259_277.out, NB277_259.out, NB260_277.out, NB277_260.out, ZZ295621⟩)
      skip
      rintro ⟨v263, v266, gb277⟩ w22 ⟨hS_, h0_, h1_, h2_, h3_, h4_, h5_, h6_, h7_, h8_, h9_, h10_, h11_, h12_, h13_, h14_, h15_, h16_⟩
      have n0_ : Aside0 (Kd.V k63 63 w22 w.heap.size (fun k_ => ((P0_1_ k_ ∨ P1_2_ k_) ∨ w.heap.size ≤ k_) ∧ some k_ ≠ (v263 : Value).ownBlock ∧ some k_ ≠ (v266 : Value).ownBlock ∧ k_ ≠ gb258 ∧ k_ ≠ gb259 ∧ k_ ≠ gb260 ∧ k_ ≠ gb277) (.slice A0_1 l0_1.length c0_1) l0_1) := ⟨h0_⟩
      have n1_ : Aside0 (Kd.V k70 70 w22 w.heap.size (fun k_ => ((P0_1_ k_ ∨ P1_2_ k_) ∨ w.heap.size ≤ k_) ∧ some k_ ≠ (v263 : Value).ownBlock ∧ some k_ ≠ (v266 : Value).ownBlock ∧ k_ ≠ gb258 ∧ k_ ≠ gb259 ∧ k_ ≠ gb260 ∧ k_ ≠ gb277) (.slice A1_2 l1_2.length c1_2) l1_2) := ⟨h1_⟩
      have n2_ : Aside0 (Kd.N k63 63 w22 w.heap.size (fun k_ => ((P0_1_ k_ ∨ P1_2_ k_) ∨ w.heap.size ≤ k_) ∧ some k_ ≠ (v266 : Value).ownBlock ∧ k_ ≠ gb258 ∧ k_ ≠ gb259 ∧ k_ ≠ gb260 ∧ k_ ≠ gb277) v263 t262) := ⟨h2_⟩
      have n3_ : Aside0 (Kd.N k63 63 w22 w.heap.size (fun k_ => ((P0_1_ k_ ∨ P1_2_ k_) ∨ w.heap.size ≤ k_) ∧ some k_ ≠ (v263 : Value).ownBlock ∧ k_ ≠ gb258 ∧ k_ ≠ gb259 ∧ k_ ≠ gb260 ∧ k_ ≠ gb277) v266 y265) := ⟨h3_⟩
      have n4_ : Aside0 (w22.heap[gb258]? = some (.cells #[.slice A0_0 l0_0.length c0_0, .slice A0_1 l0_1.length c0_1] 31 (0, 0))) := ⟨h4_⟩
      have n5_ : Aside0 (w22.heap[gb259]? = some (.cells #[.int .i64 a1_0, .string a1_1, .slice A1_2 l1_2.length c1_2] 63 (0, 0))) := ⟨h5_⟩
      have n6_ : Aside0 (w22.heap[gb260]? = some (.cells #[.slice none 0 0, .slice none 0 0] 31 (0, 0))) := ⟨h6_⟩
      have n7_ : Aside0 (w22.heap[gb277]? = some (.cells #[.slice none 0 0, .slice none 0 0] 31 (0, 0))) := ⟨h7_⟩
      have n8_ : Aside0 (w.heap.size ≤ gb277) := ⟨h8_⟩
      have n9_ : Aside0 (w.heap.size ≤ gb277) := ⟨h9_⟩
      have n10_ : Aside0 (gb258 ≠ gb277) := ⟨h10_⟩
      have n11_ : Aside0 (gb277 ≠ gb258) := ⟨h11_⟩
      have n12_ : Aside0 (gb259 ≠ gb277) := ⟨h12_⟩
      have n13_ : Aside0 (gb277 ≠ gb259) := ⟨h13_⟩
      have n14_ : Aside0 (gb260 ≠ gb277) := ⟨h14_⟩
      have n15_ : Aside0 (gb277 ≠ gb260) := ⟨h15_⟩
      have n16_ : Aside0 (Below w.heap.size w w22) := ⟨h16_⟩
      clear HO0_1
      clear HO1_2
      clear BK258
      clear BK259
      clear BK260
      clear HB
      clear h0_ h1_ h2_ h3_ h4_ h5_ h6_ h7_ h8_ h9_ h10_ h11_ h12_ h13_ h14_ h15_ h16_
      have HO0_1 := n0_
      have HO1_2 := n1_
      have HO264 := n2_
      have HO267 := n3_
      have BK258 := n4_
      have BK259 := n5_
      have BK260 := n6_
      have BK277 := n7_
      have GW277 := n8_
      have GE277 := n9_
      have NB258_277 := n10_
      have NB277_258 := n11_
      have NB259_277 := n12_
      have NB277_259 := n13_
      have NB260_277 := n14_
      have NB277_260 := n15_
      have HB := n16_
      clear n0_ n1_ n2_ n3_ n4_ n5_ n6_ n7_ n8_ n9_ n10_ n11_ n12_ n13_ n14_ n15_ n16_
      have hHeld : w22.cell? ⟨gb258, 0, none⟩ = some (.slice A0_0 l0_0.length c0_0) ∧ w22.cell? ⟨gb258, 1, none⟩ = some (.slice A0_1 l0_1.length c0_1) ∧ w22.cell? ⟨gb259, 0, none⟩ = some (.int .i64 a1_0) ∧ w22.cell? ⟨gb259, 1, none⟩ = some (.string a1_1) ∧ w22.cell? ⟨gb259, 2, none⟩ = some (.slice A1_2 l1_2.length c1_2) := hS_
      obtain ⟨Ao24, co24, eo24⟩ := Kd.N_slice HO267.out
      (first | subst eo24 | (injection eo24 with f1_ f2_ f3_; have f4_ := f1_.symm; have f5_ := f3_.symm; clear f1_ f2_ f3_; subst f4_; subst f5_))
      refine norm_ (a' := ?_) ?_ ?_
      rotate_left
      ·simp only [putAll, Act.put, List.setIfInBounds_toArray, List.set_cons_zero, List.set_cons_succ]
       rfl
      refine on 7 (some 18) (fun K hK => ?_)
      refine Kd.N_append_rows_step k63 (w0 := w) w.heap.size (by rfl) (.tmp 15) (.tmp 17) 29 63 (.agg #[(.int .i64 0), (.string ⟨#[]⟩), (.slice none 0 0)]) 48 rfl Tryd.underlying29 info63 rfl (by decide) (by omega) v263 t262 y265 _ _ _ (fun k_ => ((P0_1_ k_ ∨ P1_2_ k_) ∨ w.heap.size ≤ k_) ∧ k_ ≠ gb258 ∧ k_ ≠ gb259 ∧ k_ ≠ gb260 ∧ k_ ≠ gb277) (fun k_ => ((fun k_ => ((P0_1_ k_ ∨ P1_2_ k_) ∨ w.heap.size ≤ k_) ∧ k_ ≠ gb258 ∧ k_ ≠ gb259 ∧ k_ ≠ gb260 ∧ k_ ≠ gb277)) k_ ∧ some k_ ≠ (v263 : Value).ownBlock) rfl rfl ?aO ?aR (fun _ hk => hk) ?aF ?aB ?aS ?aL ?_
      (case aR => exact (by skip; exact Kd.N_F (Kd.N_mono (ok' := (fun k_ => ((fun k_ => ((P0_1_ k_ ∨ P1_2_ k_) ∨ w.heap.size ≤ k_) ∧ k_ ≠ gb258 ∧ k_ ≠ gb259 ∧ k_ ≠ gb260 ∧ k_ ≠ gb277)) k_ ∧ some k_ ≠ (v263 : Value).ownBlock)) (HO267.out) (fun k_ hk => ⟨⟨hk.1, ⟨hk.2.2.1, ⟨hk.2.2.2.1, ⟨hk.2.2.2.2.1, hk.2.2.2.2.2⟩⟩⟩⟩, hk.2.1⟩))))
      (case aB => exact ZZ295621)
      (case aF => exact (fun k_ hk => ⟨(.inr (Nat.le_trans (below_size ZZ295621) hk)), Kd.freshB (zB BK258) k_ hk, Kd.freshB (zB BK259) k_ hk, Kd.freshB (zB BK260) k_ hk, Kd.freshB (zB BK277) k_ hk⟩))
      (case aO => exact (by refine bN ?_; exact Kd.N_mono HO264.out (fun _ hk => ⟨hk.1, ⟨hk.2.2.1, ⟨hk.2.2.2.1, ⟨hk.2.2.2.2.1, hk.2.2.2.2.2⟩⟩⟩⟩)))
      (case aS => exact (below_size ZZ295621))
      (case aL => have := LMc6.out; omega)
      intro v269 w23 ho hb hg hat
      rw [← Ny268.out] at ho
      replace HO0_1 := Aside0.mk (Kd.V_afterv (ok := (fun k_ => ((P0_1_ k_ ∨ P1_2_ k_) ∨ w.heap.size ≤ k_) ∧ some k_ ≠ (.slice Ao24 y265.length co24 : Value).ownBlock ∧ k_ ≠ gb258 ∧ k_ ≠ gb259 ∧ k_ ≠ gb260 ∧ k_ ≠ gb277)) (by refine bV ?_; exact Kd.V_mono HO0_1.out (fun _ hk => ⟨⟨hk.1, ⟨hk.2.2.1, ⟨hk.2.2.2.1, ⟨hk.2.2.2.2.1, ⟨hk.2.2.2.2.2.1, hk.2.2.2.2.2.2⟩⟩⟩⟩⟩, hk.2.1⟩)) hg hat)
      replace HO1_2 := Aside0.mk (Kd.V_afterv (ok := (fun k_ => ((P0_1_ k_ ∨ P1_2_ k_) ∨ w.heap.size ≤ k_) ∧ some k_ ≠ (.slice Ao24 y265.length co24 : Value).ownBlock ∧ k_ ≠ gb258 ∧ k_ ≠ gb259 ∧ k_ ≠ gb260 ∧ k_ ≠ gb277)) (by refine bV ?_; exact Kd.V_mono HO1_2.out (fun _ hk => ⟨⟨hk.1, ⟨hk.2.2.1, ⟨hk.2.2.2.1, ⟨hk.2.2.2.2.1, ⟨hk.2.2.2.2.2.1, hk.2.2.2.2.2.2⟩⟩⟩⟩⟩, hk.2.1⟩)) hg hat)
      replace BK258 := Aside0.mk (blk_grown (zB BK258) hg (Kd.N_ne HO264.out BK258.out (by decide)))
      replace BK259 := Aside0.mk (blk_grown (zB BK259) hg (Kd.N_away HO264.out (fun _ hk => hk.2.2.2.1)))
      replace BK260 := Aside0.mk (blk_grown (zB BK260) hg (Kd.N_ne HO264.out BK260.out (by decide)))
      replace HO267 := Aside0.mk (Kd.N_afterv (ok := (fun k_ => ((P0_1_ k_ ∨ P1_2_ k_) ∨ w.heap.size ≤ k_) ∧ k_ ≠ gb258 ∧ k_ ≠ gb259 ∧ k_ ≠ gb260 ∧ k_ ≠ gb277)) (by refine bN ?_; exact Kd.N_mono HO267.out (fun _ hk => ⟨⟨hk.1, ⟨hk.2.2.1, ⟨hk.2.2.2.1, ⟨hk.2.2.2.2.1, hk.2.2.2.2.2⟩⟩⟩⟩, hk.2.1⟩)) hg hat)
      replace BK277 := Aside0.mk (blk_grown (zB BK277) hg (Kd.N_ne HO264.out BK277.out (by decide)))
      replace HB := Aside0.mk (hb)
      have HO270 := Aside0.mk (ho)
      clear HO264
      clear ho hb hg hat
      obtain ⟨Ao25, co25, eo25⟩ := Kd.N_slice HO270.out
      (first | subst eo25 | (injection eo25 with f1_ f2_ f3_; have f4_ := f1_.symm; have f5_ := f3_.symm; clear f1_ f2_ f3_; subst f4_; subst f5_))
      refine hK.out _ _ zK (fun hHeld => ?_)
      clear hK K
      refine nd (some 18) ?_
      refine pu 8 19 ?_
      exact norm_ ZZ014134 (hJ4_6_7_10 (v263, .slice Ao24 y265.length co24, .slice Ao25 y268.length co25, gb277) _ ⟨hHeld, ZZff724a, ZZbd8012, ZZb4ffe9, ZZf947e1, (zB BK258), (zB BK259), (zB BK260), (zB BK277), GW277.out, GE277.out, NB258_277.out, NB277_258.out, NB259_277.out, NB277_259.out, NB260_277.out, NB277_260.out, ZZ295621⟩)
     skip
     rintro ⟨v263, v266, v269⟩ w24 ⟨hS_, h0_, h1_, h2_, h3_, h4_, h5_, h6_, h7_⟩
     have n0_ : Aside0 (Kd.V k63 63 w24 w.heap.size (fun k_ => ((P0_1_ k_ ∨ P1_2_ k_) ∨ w.heap.size ≤ k_) ∧ some k_ ≠ (v266 : Value).ownBlock ∧ some k_ ≠ (v269 : Value).ownBlock ∧ k_ ≠ gb258 ∧ k_ ≠ gb259 ∧ k_ ≠ gb260) (.slice A0_1 l0_1.length c0_1) l0_1) := ⟨h0_⟩
     have n1_ : Aside0 (Kd.V k70 70 w24 w.heap.size (fun k_ => ((P0_1_ k_ ∨ P1_2_ k_) ∨ w.heap.size ≤ k_) ∧ some k_ ≠ (v266 : Value).ownBlock ∧ some k_ ≠ (v269 : Value).ownBlock ∧ k_ ≠ gb258 ∧ k_ ≠ gb259 ∧ k_ ≠ gb260) (.slice A1_2 l1_2.length c1_2) l1_2) := ⟨h1_⟩
     have n2_ : Aside0 (Kd.N k63 63 w24 w.heap.size (fun k_ => ((P0_1_ k_ ∨ P1_2_ k_) ∨ w.heap.size ≤ k_) ∧ some k_ ≠ (v269 : Value).ownBlock ∧ k_ ≠ gb258 ∧ k_ ≠ gb259 ∧ k_ ≠ gb260) v266 y265) := ⟨h2_⟩
     have n3_ : Aside0 (Kd.N k63 63 w24 w.heap.size (fun k_ => ((P0_1_ k_ ∨ P1_2_ k_) ∨ w.heap.size ≤ k_) ∧ k_ ≠ gb258 ∧ k_ ≠ gb259 ∧ k_ ≠ gb260) v269 y268) := ⟨h3_⟩
     have n4_ : Aside0 (w24.heap[gb258]? = some (.cells #[.slice A0_0 l0_0.length c0_0, .slice A0_1 l0_1.length c0_1] 31 (0, 0))) := ⟨h4_⟩
     have n5_ : Aside0 (w24.heap[gb259]? = some (.cells #[.int .i64 a1_0, .string a1_1, .slice A1_2 l1_2.length c1_2] 63 (0, 0))) := ⟨h5_⟩
     have n6_ : Aside0 (w24.heap[gb260]? = some (.cells #[.slice none 0 0, .slice none 0 0] 31 (0, 0))) := ⟨h6_⟩
     have n7_ : Aside0 (Below w.heap.size w w24) := ⟨h7_⟩
     clear HO0_1
     clear HO1_2
     clear BK258
     clear BK259
     clear BK260
     clear HB
     clear h0_ h1_ h2_ h3_ h4_ h5_ h6_ h7_
     have HO0_1 := n0_
     have HO1_2 := n1_
     have HO267 := n2_
     have HO270 := n3_
     have BK258 := n4_
     have BK259 := n5_
     have BK260 := n6_
     have HB := n7_
     clear n0_ n1_ n2_ n3_ n4_ n5_ n6_ n7_
     have hHeld : w24.cell? ⟨gb258, 0, none⟩ = some (.slice A0_0 l0_0.length c0_0) ∧ w24.cell? ⟨gb258, 1, none⟩ = some (.slice A0_1 l0_1.length c0_1) ∧ w24.cell? ⟨gb259, 0, none⟩ = some (.int .i64 a1_0) ∧ w24.cell? ⟨gb259, 1, none⟩ = some (.string a1_1) ∧ w24.cell? ⟨gb259, 2, none⟩ = some (.slice A1_2 l1_2.length c1_2) := hS_
     obtain ⟨Ao25, co25, eo25⟩ := Kd.N_slice HO270.out
     (first | subst eo25 | (injection eo25 with f1_ f2_ f3_; have f4_ := f1_.symm; have f5_ := f3_.symm; clear f1_ f2_ f3_; subst f4_; subst f5_))
     refine norm_ (a' := ?_) ?_ ?_
     rotate_left
     ·simp only [putAll, Act.put, List.setIfInBounds_toArray, List.set_cons_zero, List.set_cons_succ]
      rfl
     refine two_ (i := 9) (j := 10) (Ni := some 20) (Nj := some 6) #[true, true, true, true, true, true, true, true, true, true, false, false] #[true, true, true, true, true, true, true, true, true, false, true, false] rfl rfl rfl rfl (two_of HT_.out (by kernel_rfl)) (by decide) (by decide) (fun K hK => ?_) (fun K hK => ?_)
     ·skip
      refine goes_ Tryd.func76 (by kernel_rfl) rfl #[.agg #[.slice A0_0 l0_0.length c0_0, .slice Ao25 y268.length co25]] (by rfl) rfl rfl ZZ19826e ?_
      with_reducible refine (impl_ownLedger.calls k _ _ l0_0 _ _ y268 t271 t274 _ ?side1 ?side2 ?side3 ?side4 A7.out).mono ?_
      (case side1 => exact (rC (Kd.C_below HR0_0.out HB.out)))
      (case side2 => exact HC0_0.out)
      (case side3 => exact rC (Kd.N_reads' HO270.out).2.2)
      (case side4 => exact (Kd.N_reads' HO270.out).2.1)
      rintro e w26 ⟨v272, v275, rfl, ho0, ho1, hb⟩
      refine ⟨_, rfl, ?_⟩
      replace HO0_1 := Aside0.mk (Kd.V_mono (Kd.V_told (Kd.V_told (Kd.V_old ZZ1186ef hb) (Kd.R_base ho0)) (Kd.S_base ho1)) (fun _ h_ => h_.1))
      replace HO1_2 := Aside0.mk (Kd.V_mono (Kd.V_told (Kd.V_told (Kd.V_old ZZ6ff8a7 hb) (Kd.R_base ho0)) (Kd.S_base ho1)) (fun _ h_ => h_.1))
      have HO273 := Aside0.mk (Kd.R_lower (Kd.R_newM (M := fun k_ => (w.heap.size ≤ k_)) ho0 (below_size ZZ295621) (fun k_ h_ => h_)) (below_size ZZ295621))
      have HO276 := Aside0.mk (Kd.S_lower (Kd.S_newB (Kd.S_new' (Kd.S_new' (Kd.S_newM (M := fun k_ => (w.heap.size ≤ k_)) ho1 (below_size ZZ295621) (fun k_ h_ => h_)) (Kd.N_lt ZZf86480)) (Kd.N_lt ZZf947e1)) (zB BK259)) (below_size ZZ295621))
      replace HO267 := Aside0.mk (Kd.N_mono (Kd.N_told (Kd.N_told (Kd.N_old ZZf86480 hb) (Kd.R_base ho0)) (Kd.S_base ho1)) (fun _ h_ => h_.1))
      replace HO270 := Aside0.mk (Kd.N_mono (Kd.N_told (Kd.N_told (Kd.N_old ZZf947e1 hb) (Kd.R_base ho0)) (Kd.S_base ho1)) (fun _ h_ => h_.1))
      replace BK258 := kb BK258 hb
      replace BK259 := kb BK259 hb
      replace BK260 := kb BK260 hb
      replace HB := hB hb
      (try clear hb)
      (try clear hb2)
      (try clear hk)
      (try clear hi)
      (try clear ho0)
      (try clear ho1)
      refine hK.out _ _ zK (fun hHeld => ?_)
      clear hK K
      refine nd (some 20) ?_
      exact norm_ ZZ014134 (hJ4_6_7_9 (v263, v266, .slice Ao25 y268.length co25, v272, v275) _ ⟨hHeld, (by refine bV ?_; exact Kd.V_mono HO0_1.out (fun _ hk => ⟨hk.1.1.1, ⟨hk.1.1.2.1, ⟨hk.1.1.2.2.1, ⟨hk.1.2, ⟨hk.2, ⟨hk.1.1.2.2.2.1, ⟨hk.1.1.2.2.2.2.1, hk.1.1.2.2.2.2.2⟩⟩⟩⟩⟩⟩⟩)), (by refine bV ?_; exact Kd.V_mono HO1_2.out (fun _ hk => ⟨hk.1.1.1, ⟨hk.1.1.2.1, ⟨hk.1.1.2.2.1, ⟨hk.1.2, ⟨hk.2, ⟨hk.1.1.2.2.2.1, ⟨hk.1.1.2.2.2.2.1, hk.1.1.2.2.2.2.2⟩⟩⟩⟩⟩⟩⟩)), (by refine bN ?_; exact Kd.N_mono HO267.out (fun _ hk => ⟨hk.1.1.1, ⟨hk.1.1.2.1, ⟨hk.1.2, ⟨hk.2, ⟨hk.1.1.2.2.1, ⟨hk.1.1.2.2.2.1, hk.1.1.2.2.2.2⟩⟩⟩⟩⟩⟩)), (by refine bN ?_; exact Kd.N_mono HO270.out (fun _ hk => ⟨hk.1.1.1, ⟨hk.1.2, ⟨hk.2, ⟨hk.1.1.2.1, ⟨hk.1.1.2.2.1, hk.1.1.2.2.2⟩⟩⟩⟩⟩)), ZZ15a908, ZZ324fb2, (zB BK258), (zB BK259), (zB BK260), ZZ295621⟩)
     skip
     refine box_step ?hg (N := 6) ?hd (cs := #[.slice none 0 0, .slice none 0 0]) (t := 31) ?hr ?_; (case hd => rfl); (case hg => rfl); (case hr => first | (go_simp; done) | (go_simp; rfl))
     intro gb277 hg w26 hbox hb
     replace HO0_1 := Aside0.mk (Kd.V_below (Kd.V_elderB ZZ1186ef gb277 (Nat.le_of_eq hg.symm)) hb)
     replace HO1_2 := Aside0.mk (Kd.V_below (Kd.V_elderB ZZ6ff8a7 gb277 (Nat.le_of_eq hg.symm)) hb)
     replace HO267 := Aside0.mk (Kd.N_below (Kd.N_elderB ZZf86480 gb277 (Nat.le_of_eq hg.symm)) hb)
     replace HO270 := Aside0.mk (Kd.N_below (Kd.N_elderB ZZf947e1 gb277 (Nat.le_of_eq hg.symm)) hb)
     have BK277 := Aside0.mk (hbox)
     have GW277 := gw hg
     have GE277 := gw hg
     replace HB := hB hb
     have NB258_277 := nl hg BK258
     have NB277_258 := ng hg BK258
     replace BK258 := kb BK258 hb
     have NB259_277 := nl hg BK259
     have NB277_259 := ng hg BK259
     replace BK259 := kb BK259 hb
     have NB260_277 := nl hg BK260
     have NB277_260 := ng hg BK260
     replace BK260 := kb BK260 hb
     clear hb hbox hg
     refine hK.out _ _ zK (fun hHeld => ?_)
     clear hK K
     refine nd (some 6) ?_
     exact norm_ ZZ014134 (hJ4_6_7_10 (v263, v266, .slice Ao25 y268.length co25, gb277) _ ⟨hHeld, ZZ22d34a, ZZb93140, ZZc4c9ba, (by refine bN ?_; exact Kd.N_mono HO270.out (fun _ hk => ⟨hk.1.1, ⟨hk.1.2.1, ⟨hk.1.2.2.1, ⟨hk.1.2.2.2, hk.2⟩⟩⟩⟩)), (zB BK258), (zB BK259), (zB BK260), (zB BK277), GW277.out, GE277.out, NB258_277.out, NB277_258.out, NB259_277.out, NB277_259.out, NB260_277.out, NB277_260.out, ZZ295621⟩)
    skip
    rintro ⟨v263, v266, v269, gb277⟩ w25 ⟨hS_, h0_, h1_, h2_, h3_, h4_, h5_, h6_, h7_, h8_, h9_, h10_, h11_, h12_, h13_, h14_, h15_, h16_⟩
    have n0_ : Aside0 (Kd.V k63 63 w25 w.heap.size (fun k_ => ((P0_1_ k_ ∨ P1_2_ k_) ∨ w.heap.size ≤ k_) ∧ some k_ ≠ (v266 : Value).ownBlock ∧ some k_ ≠ (v269 : Value).ownBlock ∧ k_ ≠ gb258 ∧ k_ ≠ gb259 ∧ k_ ≠ gb260 ∧ k_ ≠ gb277) (.slice A0_1 l0_1.length c0_1) l0_1) := ⟨h0_⟩
    have n1_ : Aside0 (Kd.V k70 70 w25 w.heap.size (fun k_ => ((P0_1_ k_ ∨ P1_2_ k_) ∨ w.heap.size ≤ k_) ∧ some k_ ≠ (v266 : Value).ownBlock ∧ some k_ ≠ (v269 : Value).ownBlock ∧ k_ ≠ gb258 ∧ k_ ≠ gb259 ∧ k_ ≠ gb260 ∧ k_ ≠ gb277) (.slice A1_2 l1_2.length c1_2) l1_2) := ⟨h1_⟩
    have n2_ : Aside0 (Kd.N k63 63 w25 w.heap.size (fun k_ => ((P0_1_ k_ ∨ P1_2_ k_) ∨ w.heap.size ≤ k_) ∧ some k_ ≠ (v269 : Value).ownBlock ∧ k_ ≠ gb258 ∧ k_ ≠ gb259 ∧ k_ ≠ gb260 ∧ k_ ≠ gb277) v266 y265) := ⟨h2_⟩
    have n3_ : Aside0 (Kd.N k63 63 w25 w.heap.size (fun k_ => ((P0_1_ k_ ∨ P1_2_ k_) ∨ w.heap.size ≤ k_) ∧ k_ ≠ gb258 ∧ k_ ≠ gb259 ∧ k_ ≠ gb260 ∧ k_ ≠ gb277) v269 y268) := ⟨h3_⟩
    have n4_ : Aside0 (w25.heap[gb258]? = some (.cells #[.slice A0_0 l0_0.length c0_0, .slice A0_1 l0_1.length c0_1] 31 (0, 0))) := ⟨h4_⟩
    have n5_ : Aside0 (w25.heap[gb259]? = some (.cells #[.int .i64 a1_0, .string a1_1, .slice A1_2 l1_2.length c1_2] 63 (0, 0))) := ⟨h5_⟩
    have n6_ : Aside0 (w25.heap[gb260]? = some (.cells #[.slice none 0 0, .slice none 0 0] 31 (0, 0))) := ⟨h6_⟩
    have n7_ : Aside0 (w25.heap[gb277]? = some (.cells #[.slice none 0 0, .slice none 0 0] 31 (0, 0))) := ⟨h7_⟩
    have n8_ : Aside0 (w.heap.size ≤ gb277) := ⟨h8_⟩
    have n9_ : Aside0 (w.heap.size ≤ gb277) := ⟨h9_⟩
    have n10_ : Aside0 (gb258 ≠ gb277) := ⟨h10_⟩
    have n11_ : Aside0 (gb277 ≠ gb258) := ⟨h11_⟩
    have n12_ : Aside0 (gb259 ≠ gb277) := ⟨h12_⟩
    have n13_ : Aside0 (gb277 ≠ gb259) := ⟨h13_⟩
    have n14_ : Aside0 (gb260 ≠ gb277) := ⟨h14_⟩
    have n15_ : Aside0 (gb277 ≠ gb260) := ⟨h15_⟩
    have n16_ : Aside0 (Below w.heap.size w w25) := ⟨h16_⟩
    clear HO0_1
    clear HO1_2
    clear BK258
    clear BK259
    clear BK260
    clear HB
    clear h0_ h1_ h2_ h3_ h4_ h5_ h6_ h7_ h8_ h9_ h10_ h11_ h12_ h13_ h14_ h15_ h16_
    have HO0_1 := n0_
    have HO1_2 := n1_
    have HO267 := n2_
    have HO270 := n3_
    have BK258 := n4_
    have BK259 := n5_
    have BK260 := n6_
    have BK277 := n7_
    have GW277 := n8_
    have GE277 := n9_
    have NB258_277 := n10_
    have NB277_258 := n11_
    have NB259_277 := n12_
    have NB277_259 := n13_
    have NB260_277 := n14_
    have NB277_260 := n15_
    have HB := n16_
    clear n0_ n1_ n2_ n3_ n4_ n5_ n6_ n7_ n8_ n9_ n10_ n11_ n12_ n13_ n14_ n15_ n16_
    have hHeld : w25.cell? ⟨gb258, 0, none⟩ = some (.slice A0_0 l0_0.length c0_0) ∧ w25.cell? ⟨gb258, 1, none⟩ = some (.slice A0_1 l0_1.length c0_1) ∧ w25.cell? ⟨gb259, 0, none⟩ = some (.int .i64 a1_0) ∧ w25.cell? ⟨gb259, 1, none⟩ = some (.string a1_1) ∧ w25.cell? ⟨gb259, 2, none⟩ = some (.slice A1_2 l1_2.length c1_2) := hS_
    obtain ⟨Ao26, co26, eo26⟩ := Kd.N_slice HO270.out
    (first | subst eo26 | (injection eo26 with f1_ f2_ f3_; have f4_ := f1_.symm; have f5_ := f3_.symm; clear f1_ f2_ f3_; subst f4_; subst f5_))
    refine norm_ (a' := ?_) ?_ ?_
    rotate_left
    ·simp only [putAll, Act.put, List.setIfInBounds_toArray, List.set_cons_zero, List.set_cons_succ]
     rfl
    refine on 9 (some 20) (fun K hK => ?_)
    refine goes_ Tryd.func76 (by kernel_rfl) rfl #[.agg #[.slice A0_0 l0_0.length c0_0, .slice Ao26 y268.length co26]] (by rfl) rfl rfl ZZ19826e ?_
    with_reducible refine (impl_ownLedger.calls k _ _ l0_0 _ _ y268 t271 t274 _ ?side1 ?side2 ?side3 ?side4 A7.out).mono ?_
    (case side1 => exact (rC (Kd.C_below HR0_0.out HB.out)))
    (case side2 => exact HC0_0.out)
    (case side3 => exact rC (Kd.N_reads' HO270.out).2.2)
    (case side4 => exact (Kd.N_reads' HO270.out).2.1)
    rintro e w27 ⟨v272, v275, rfl, ho0, ho1, hb⟩
    refine ⟨_, rfl, ?_⟩
    replace HO0_1 := Aside0.mk (Kd.V_mono (Kd.V_told (Kd.V_told (Kd.V_old ZZ1186ef hb) (Kd.R_base ho0)) (Kd.S_base ho1)) (fun _ h_ => h_.1))
    replace HO1_2 := Aside0.mk (Kd.V_mono (Kd.V_told (Kd.V_told (Kd.V_old ZZ6ff8a7 hb) (Kd.R_base ho0)) (Kd.S_base ho1)) (fun _ h_ => h_.1))
    have HO273 := Aside0.mk (Kd.R_lower (Kd.R_newM (M := fun k_ => (w.heap.size ≤ k_)) ho0 (below_size ZZ295621) (fun k_ h_ => h_)) (below_size ZZ295621))
    have HO276 := Aside0.mk (Kd.S_lower (Kd.S_newB (Kd.S_new' (Kd.S_new' (Kd.S_newM (M := fun k_ => (w.heap.size ≤ k_)) ho1 (below_size ZZ295621) (fun k_ h_ => h_)) (Kd.N_lt ZZf86480)) (Kd.N_lt ZZf947e1)) (zB BK259)) (below_size ZZ295621))
    replace HO267 := Aside0.mk (Kd.N_mono (Kd.N_told (Kd.N_told (Kd.N_old ZZf86480 hb) (Kd.R_base ho0)) (Kd.S_base ho1)) (fun _ h_ => h_.1))
    replace HO270 := Aside0.mk (Kd.N_mono (Kd.N_told (Kd.N_told (Kd.N_old ZZf947e1 hb) (Kd.R_base ho0)) (Kd.S_base ho1)) (fun _ h_ => h_.1))
    replace BK258 := kb BK258 hb
    replace BK259 := kb BK259 hb
    replace BK260 := kb BK260 hb
    replace BK277 := kb BK277 hb
    replace HB := hB hb
    (try clear hb)
    (try clear hb2)
    (try clear hk)
    (try clear hi)
    (try clear ho0)
    (try clear ho1)
    refine hK.out _ _ zK (fun hHeld => ?_)
    clear hK K
    refine nd (some 20) ?_
    exact norm_ ZZ014134 (hJ4_6_7_9_10 (v263, v266, .slice Ao26 y268.length co26, v272, v275, gb277) _ ⟨hHeld, (by refine bV ?_; exact Kd.V_mono HO0_1.out (fun _ hk => ⟨hk.1.1.1, ⟨hk.1.1.2.1, ⟨hk.1.1.2.2.1, ⟨hk.1.2, ⟨hk.2, ⟨hk.1.1.2.2.2.1, ⟨hk.1.1.2.2.2.2.1, ⟨hk.1.1.2.2.2.2.2.1, hk.1.1.2.2.2.2.2.2⟩⟩⟩⟩⟩⟩⟩⟩)), (by refine bV ?_; exact Kd.V_mono HO1_2.out (fun _ hk => ⟨hk.1.1.1, ⟨hk.1.1.2.1, ⟨hk.1.1.2.2.1, ⟨hk.1.2, ⟨hk.2, ⟨hk.1.1.2.2.2.1, ⟨hk.1.1.2.2.2.2.1, ⟨hk.1.1.2.2.2.2.2.1, hk.1.1.2.2.2.2.2.2⟩⟩⟩⟩⟩⟩⟩⟩)), (by refine bN ?_; exact Kd.N_mono HO267.out (fun _ hk => ⟨hk.1.1.1, ⟨hk.1.1.2.1, ⟨hk.1.2, ⟨hk.2, ⟨hk.1.1.2.2.1, ⟨hk.1.1.2.2.2.1, ⟨hk.1.1.2.2.2.2.1, hk.1.1.2.2.2.2.2⟩⟩⟩⟩⟩⟩⟩)), (by refine bN ?_; exact Kd.N_mono HO270.out (fun _ hk => ⟨hk.1.1.1, ⟨hk.1.2, ⟨hk.2, ⟨hk.1.1.2.1, ⟨hk.1.1.2.2.1, ⟨hk.1.1.2.2.2.1, hk.1.1.2.2.2.2⟩⟩⟩⟩⟩⟩)), ZZ15a908, ZZ324fb2, (zB BK258), (zB BK259), (zB BK260), (zB BK277), GW277.out, GE277.out, NB258_277.out, NB277_258.out, NB259_277.out, NB277_259.out, NB260_277.out, NB277_260.out, ZZ295621⟩)
   skip
   rintro ⟨v263, v266, v269, v272, v275⟩ w25 ⟨hS_, h0_, h1_, h2_, h3_, h4_, h5_, h6_, h7_, h8_, h9_⟩
   have n0_ : Aside0 (Kd.V k63 63 w25 w.heap.size (fun k_ => ((P0_1_ k_ ∨ P1_2_ k_) ∨ w.heap.size ≤ k_) ∧ some k_ ≠ (v266 : Value).ownBlock ∧ some k_ ≠ (v269 : Value).ownBlock ∧ some k_ ≠ (v272 : Value).ownBlock ∧ some k_ ≠ (v275 : Value).ownBlock ∧ k_ ≠ gb258 ∧ k_ ≠ gb259 ∧ k_ ≠ gb260) (.slice A0_1 l0_1.length c0_1) l0_1) := ⟨h0_⟩
   have n1_ : Aside0 (Kd.V k70 70 w25 w.heap.size (fun k_ => ((P0_1_ k_ ∨ P1_2_ k_) ∨ w.heap.size ≤ k_) ∧ some k_ ≠ (v266 : Value).ownBlock ∧ some k_ ≠ (v269 : Value).ownBlock ∧ some k_ ≠ (v272 : Value).ownBlock ∧ some k_ ≠ (v275 : Value).ownBlock ∧ k_ ≠ gb258 ∧ k_ ≠ gb259 ∧ k_ ≠ gb260) (.slice A1_2 l1_2.length c1_2) l1_2) := ⟨h1_⟩
   have n2_ : Aside0 (Kd.N k63 63 w25 w.heap.size (fun k_ => ((P0_1_ k_ ∨ P1_2_ k_) ∨ w.heap.size ≤ k_) ∧ some k_ ≠ (v269 : Value).ownBlock ∧ some k_ ≠ (v272 : Value).ownBlock ∧ some k_ ≠ (v275 : Value).ownBlock ∧ k_ ≠ gb258 ∧ k_ ≠ gb259 ∧ k_ ≠ gb260) v266 y265) := ⟨h2_⟩
   have n3_ : Aside0 (Kd.N k63 63 w25 w.heap.size (fun k_ => ((P0_1_ k_ ∨ P1_2_ k_) ∨ w.heap.size ≤ k_) ∧ some k_ ≠ (v272 : Value).ownBlock ∧ some k_ ≠ (v275 : Value).ownBlock ∧ k_ ≠ gb258 ∧ k_ ≠ gb259 ∧ k_ ≠ gb260) v269 y268) := ⟨h3_⟩
   have n4_ : Aside0 (Kd.R k48 48 w25 w.heap.size (fun k_ => (w.heap.size ≤ k_)) v272 t271) := ⟨h4_⟩
   have n5_ : Aside0 (Kd.S k63 63 w25 w.heap.size (fun k_ => (w.heap.size ≤ k_) ∧ some k_ ≠ (v266 : Value).ownBlock ∧ some k_ ≠ (v269 : Value).ownBlock ∧ k_ ≠ gb259) v275 t274) := ⟨h5_⟩
   have n6_ : Aside0 (w25.heap[gb258]? = some (.cells #[.slice A0_0 l0_0.length c0_0, .slice A0_1 l0_1.length c0_1] 31 (0, 0))) := ⟨h6_⟩
   have n7_ : Aside0 (w25.heap[gb259]? = some (.cells #[.int .i64 a1_0, .string a1_1, .slice A1_2 l1_2.length c1_2] 63 (0, 0))) := ⟨h7_⟩
   have n8_ : Aside0 (w25.heap[gb260]? = some (.cells #[.slice none 0 0, .slice none 0 0] 31 (0, 0))) := ⟨h8_⟩
   have n9_ : Aside0 (Below w.heap.size w w25) := ⟨h9_⟩
   clear HO0_1
   clear HO1_2
   clear BK258
   clear BK259
   clear BK260
   clear HB
   clear h0_ h1_ h2_ h3_ h4_ h5_ h6_ h7_ h8_ h9_
   have HO0_1 := n0_
   have HO1_2 := n1_
   have HO267 := n2_
   have HO270 := n3_
   have HO273 := n4_
   have HO276 := n5_
   have BK258 := n6_
   have BK259 := n7_
   have BK260 := n8_
   have HB := n9_
   clear n0_ n1_ n2_ n3_ n4_ n5_ n6_ n7_ n8_ n9_
   have hHeld : w25.cell? ⟨gb258, 0, none⟩ = some (.slice A0_0 l0_0.length c0_0) ∧ w25.cell? ⟨gb258, 1, none⟩ = some (.slice A0_1 l0_1.length c0_1) ∧ w25.cell? ⟨gb259, 0, none⟩ = some (.int .i64 a1_0) ∧ w25.cell? ⟨gb259, 1, none⟩ = some (.string a1_1) ∧ w25.cell? ⟨gb259, 2, none⟩ = some (.slice A1_2 l1_2.length c1_2) := hS_
   obtain ⟨Ao26, co26, eo26⟩ := Kd.N_slice HO270.out
   (first | subst eo26 | (injection eo26 with f1_ f2_ f3_; have f4_ := f1_.symm; have f5_ := f3_.symm; clear f1_ f2_ f3_; subst f4_; subst f5_))
   refine norm_ (a' := ?_) ?_ ?_
   rotate_left
   ·simp only [putAll, Act.put, List.setIfInBounds_toArray, List.set_cons_zero, List.set_cons_succ]
    rfl
   refine on 10 (some 6) (fun K hK => ?_)
   refine box_step ?hg (N := 6) ?hd (cs := #[.slice none 0 0, .slice none 0 0]) (t := 31) ?hr ?_; (case hd => rfl); (case hg => rfl); (case hr => first | (go_simp; done) | (go_simp; rfl))
   intro gb277 hg w27 hbox hb
   replace HO0_1 := Aside0.mk (Kd.V_below (Kd.V_elderB ZZ1186ef gb277 (Nat.le_of_eq hg.symm)) hb)
   replace HO1_2 := Aside0.mk (Kd.V_below (Kd.V_elderB ZZ6ff8a7 gb277 (Nat.le_of_eq hg.symm)) hb)
   replace HO267 := Aside0.mk (Kd.N_below (Kd.N_elderB ZZf86480 gb277 (Nat.le_of_eq hg.symm)) hb)
   replace HO270 := Aside0.mk (Kd.N_below (Kd.N_elderB ZZf947e1 gb277 (Nat.le_of_eq hg.symm)) hb)
   replace HO273 := Aside0.mk (Kd.R_below (zR HO273) hb)
   replace HO276 := Aside0.mk (Kd.S_below (zS HO276) hb)
   have BK277 := Aside0.mk (hbox)
   have GW277 := gw hg
   have GE277 := gw hg
   replace HB := hB hb
   have NB258_277 := nl hg BK258
   have NB277_258 := ng hg BK258
   replace BK258 := kb BK258 hb
   have NB259_277 := nl hg BK259
   have NB277_259 := ng hg BK259
   replace BK259 := kb BK259 hb
   have NB260_277 := nl hg BK260
   have NB277_260 := ng hg BK260
   replace BK260 := kb BK260 hb
   clear hb hbox hg
   refine hK.out _ _ zK (fun hHeld => ?_)
   clear hK K
   refine nd (some 6) ?_
   exact norm_ ZZ014134 (hJ4_6_7_9_10 (v263, v266, .slice Ao26 y268.length co26, v272, v275, gb277) _ ⟨hHeld, (by refine bV ?_; exact Kd.V_mono HO0_1.out (fun _ hk => ⟨hk.1.1, ⟨hk.1.2.1, ⟨hk.1.2.2.1, ⟨hk.1.2.2.2.1, ⟨hk.1.2.2.2.2.1, ⟨hk.1.2.2.2.2.2.1, ⟨hk.1.2.2.2.2.2.2.1, ⟨hk.1.2.2.2.2.2.2.2, hk.2⟩⟩⟩⟩⟩⟩⟩⟩)), (by refine bV ?_; exact Kd.V_mono HO1_2.out (fun _ hk => ⟨hk.1.1, ⟨hk.1.2.1, ⟨hk.1.2.2.1, ⟨hk.1.2.2.2.1, ⟨hk.1.2.2.2.2.1, ⟨hk.1.2.2.2.2.2.1, ⟨hk.1.2.2.2.2.2.2.1, ⟨hk.1.2.2.2.2.2.2.2, hk.2⟩⟩⟩⟩⟩⟩⟩⟩)), (by refine bN ?_; exact Kd.N_mono HO267.out (fun _ hk => ⟨hk.1.1, ⟨hk.1.2.1, ⟨hk.1.2.2.1, ⟨hk.1.2.2.2.1, ⟨hk.1.2.2.2.2.1, ⟨hk.1.2.2.2.2.2.1, ⟨hk.1.2.2.2.2.2.2, hk.2⟩⟩⟩⟩⟩⟩⟩)), (by refine bN ?_; exact Kd.N_mono HO270.out (fun _ hk => ⟨hk.1.1, ⟨hk.1.2.1, ⟨hk.1.2.2.1, ⟨hk.1.2.2.2.1, ⟨hk.1.2.2.2.2.1, ⟨hk.1.2.2.2.2.2, hk.2⟩⟩⟩⟩⟩⟩)), (zR HO273), (zS HO276), (zB BK258), (zB BK259), (zB BK260), (zB BK277), GW277.out, GE277.out, NB258_277.out, NB277_258.out, NB259_277.out, NB277_259.out, NB260_277.out, NB277_260.out, ZZ295621⟩)
  rintro ⟨v263, v266, v269, v272, v275, gb277⟩ w26 ⟨hS_, h0_, h1_, h2_, h3_, h4_, h5_, h6_, h7_, h8_, h9_, h10_, h11_, h12_, h13_, h14_, h15_, h16_, h17_, h18_⟩
  have n0_ : Aside0 (Kd.V k63 63 w26 w.heap.size (fun k_ => ((P0_1_ k_ ∨ P1_2_ k_) ∨ w.heap.size ≤ k_) ∧ some k_ ≠ (v266 : Value).ownBlock ∧ some k_ ≠ (v269 : Value).ownBlock ∧ some k_ ≠ (v272 : Value).ownBlock ∧ some k_ ≠ (v275 : Value).ownBlock ∧ k_ ≠ gb258 ∧ k_ ≠ gb259 ∧ k_ ≠ gb260 ∧ k_ ≠ gb277) (.slice A0_1 l0_1.length c0_1) l0_1) := ⟨h0_⟩
  have n1_ : Aside0 (Kd.V k70 70 w26 w.heap.size (fun k_ => ((P0_1_ k_ ∨ P1_2_ k_) ∨ w.heap.size ≤ k_) ∧ some k_ ≠ (v266 : Value).ownBlock ∧ some k_ ≠ (v269 : Value).ownBlock ∧ some k_ ≠ (v272 : Value).ownBlock ∧ some k_ ≠ (v275 : Value).ownBlock ∧ k_ ≠ gb258 ∧ k_ ≠ gb259 ∧ k_ ≠ gb260 ∧ k_ ≠ gb277) (.slice A1_2 l1_2.length c1_2) l1_2) := ⟨h1_⟩
  have n2_ : Aside0 (Kd.N k63 63 w26 w.heap.size (fun k_ => ((P0_1_ k_ ∨ P1_2_ k_) ∨ w.heap.size ≤ k_) ∧ some k_ ≠ (v269 : Value).ownBlock ∧ some k_ ≠ (v272 : Value).ownBlock ∧ some k_ ≠ (v275 : Value).ownBlock ∧ k_ ≠ gb258 ∧ k_ ≠ gb259 ∧ k_ ≠ gb260 ∧ k_ ≠ gb277) v266 y265) := ⟨h2_⟩
  have n3_ : Aside0 (Kd.N k63 63 w26 w.heap.size (fun k_ => ((P0_1_ k_ ∨ P1_2_ k_) ∨ w.heap.size ≤ k_) ∧ some k_ ≠ (v272 : Value).ownBlock ∧ some k_ ≠ (v275 : Value).ownBlock ∧ k_ ≠ gb258 ∧ k_ ≠ gb259 ∧ k_ ≠ gb260 ∧ k_ ≠ gb277) v269 y268) := ⟨h3_⟩
  have n4_ : Aside0 (Kd.R k48 48 w26 w.heap.size (fun k_ => (w.heap.size ≤ k_)) v272 t271) := ⟨h4_⟩
  have n5_ : Aside0 (Kd.S k63 63 w26 w.heap.size (fun k_ => (w.heap.size ≤ k_) ∧ some k_ ≠ (v266 : Value).ownBlock ∧ some k_ ≠ (v269 : Value).ownBlock ∧ k_ ≠ gb259) v275 t274) := ⟨h5_⟩
  have n6_ : Aside0 (w26.heap[gb258]? = some (.cells #[.slice A0_0 l0_0.length c0_0, .slice A0_1 l0_1.length c0_1] 31 (0, 0))) := ⟨h6_⟩
  have n7_ : Aside0 (w26.heap[gb259]? = some (.cells #[.int .i64 a1_0, .string a1_1, .slice A1_2 l1_2.length c1_2] 63 (0, 0))) := ⟨h7_⟩
  have n8_ : Aside0 (w26.heap[gb260]? = some (.cells #[.slice none 0 0, .slice none 0 0] 31 (0, 0))) := ⟨h8_⟩
  have n9_ : Aside0 (w26.heap[gb277]? = some (.cells #[.slice none 0 0, .slice none 0 0] 31 (0, 0))) := ⟨h9_⟩
  have n10_ : Aside0 (w.heap.size ≤ gb277) := ⟨h10_⟩
  have n11_ : Aside0 (w.heap.size ≤ gb277) := ⟨h11_⟩
  have n12_ : Aside0 (gb258 ≠ gb277) := ⟨h12_⟩
  have n13_ : Aside0 (gb277 ≠ gb258) := ⟨h13_⟩
  have n14_ : Aside0 (gb259 ≠ gb277) := ⟨h14_⟩
  have n15_ : Aside0 (gb277 ≠ gb259) := ⟨h15_⟩
  have n16_ : Aside0 (gb260 ≠ gb277) := ⟨h16_⟩
  have n17_ : Aside0 (gb277 ≠ gb260) := ⟨h17_⟩
  have n18_ : Aside0 (Below w.heap.size w w26) := ⟨h18_⟩
  clear HO0_1
  clear HO1_2
  clear BK258
  clear BK259
  clear BK260
  clear HB
  clear h0_ h1_ h2_ h3_ h4_ h5_ h6_ h7_ h8_ h9_ h10_ h11_ h12_ h13_ h14_ h15_ h16_ h17_ h18_
  have HO0_1 := n0_
  have HO1_2 := n1_
  have HO267 := n2_
  have HO270 := n3_
  have HO273 := n4_
  have HO276 := n5_
  have BK258 := n6_
  have BK259 := n7_
  have BK260 := n8_
  have BK277 := n9_
  have GW277 := n10_
  have GE277 := n11_
  have NB258_277 := n12_
  have NB277_258 := n13_
  have NB259_277 := n14_
  have NB277_259 := n15_
  have NB260_277 := n16_
  have NB277_260 := n17_
  have HB := n18_
  clear n0_ n1_ n2_ n3_ n4_ n5_ n6_ n7_ n8_ n9_ n10_ n11_ n12_ n13_ n14_ n15_ n16_ n17_ n18_
  have hHeld : w26.cell? ⟨gb258, 0, none⟩ = some (.slice A0_0 l0_0.length c0_0) ∧ w26.cell? ⟨gb258, 1, none⟩ = some (.slice A0_1 l0_1.length c0_1) ∧ w26.cell? ⟨gb259, 0, none⟩ = some (.int .i64 a1_0) ∧ w26.cell? ⟨gb259, 1, none⟩ = some (.string a1_1) ∧ w26.cell? ⟨gb259, 2, none⟩ = some (.slice A1_2 l1_2.length c1_2) := hS_
  obtain ⟨Ao27, co27, eo27⟩ := Kd.N_slice HO270.out
  (first | subst eo27 | (injection eo27 with f1_ f2_ f3_; have f4_ := f1_.symm; have f5_ := f3_.symm; clear f1_ f2_ f3_; subst f4_; subst f5_))
  obtain ⟨Ao28, co28, eo28⟩ := Kd.R_slice HO273.out
  (first | subst eo28 | (injection eo28 with f1_ f2_ f3_; have f4_ := f1_.symm; have f5_ := f3_.symm; clear f1_ f2_ f3_; subst f4_; subst f5_))
  obtain ⟨Ao30, co30, eo30⟩ := Kd.S_slice HO276.out
  (first | subst eo30 | (injection eo30 with f1_ f2_ f3_; have f4_ := f1_.symm; have f5_ := f3_.symm; clear f1_ f2_ f3_; subst f4_; subst f5_))
  refine norm_ (a' := ?_) ?_ ?_
  rotate_left
  ·simp only [putAll, Act.put, List.setIfInBounds_toArray, List.set_cons_zero, List.set_cons_succ]
   rfl
  refine on 11 none (fun K hK => ?_)
  have hs29 := cz BK277 0
  have hfs29 := blk_frozen BK277.out 0
  have hns29_0 := NB258_277.out
  have hns29_1 := NB259_277.out
  have hns29_2 := NB260_277.out
  have hms29_0 := NB277_258.out
  have hms29_1 := NB277_259.out
  have hms29_2 := NB277_260.out
  have hs31 := cz BK277 1
  have hfs31 := blk_frozen BK277.out 1
  have hns31_0 := NB258_277.out
  have hns31_1 := NB259_277.out
  have hns31_2 := NB260_277.out
  have hms31_0 := NB277_258.out
  have hms31_1 := NB277_259.out
  have hms31_2 := NB277_260.out
  refine skip_ (w1 := ?_) (by rfl) rfl ?_ ?_
  rotate_left
  ·go_simp
   rfl
  refine hK.out _ _ ⟨((cell_far (p := ⟨gb277, _, none⟩) NB258_277.out _).trans (((cell_far (p := ⟨gb277, _, none⟩) NB258_277.out _).trans (hHeld.1)))), ((cell_far (p := ⟨gb277, _, none⟩) NB258_277.out _).trans (((cell_far (p := ⟨gb277, _, none⟩) NB258_277.out _).trans (hHeld.2.1)))), ((cell_far (p := ⟨gb277, _, none⟩) NB259_277.out _).trans (((cell_far (p := ⟨gb277, _, none⟩) NB259_277.out _).trans (hHeld.2.2.1)))), ((cell_far (p := ⟨gb277, _, none⟩) NB259_277.out _).trans (((cell_far (p := ⟨gb277, _, none⟩) NB259_277.out _).trans (hHeld.2.2.2.1)))), ((cell_far (p := ⟨gb277, _, none⟩) NB259_277.out _).trans (((cell_far (p := ⟨gb277, _, none⟩) NB259_277.out _).trans (hHeld.2.2.2.2))))⟩ (fun hHeld => ?_)
  clear hK K
  refine done_ (done_of HT_.out (by kernel_rfl)) ?_
  have hnb32 := NB277_258.out
  have hnc32 := NB258_277.out
  have hnb33 := NB277_259.out
  have hnc33 := NB259_277.out
  have hnb34 := NB277_260.out
  have hnc34 := NB260_277.out
  obtain ⟨hcz35_0, hcz35_1, hfz35_0, hfz35_1⟩ := z2 BK277
  by_cases c9 : t278 = true
  ·subst c9
   replace H := ifT H
   simp only [Option.some.injEq, Prod.mk.injEq] at H
   obtain ⟨rfl, rfl, rfl⟩ := H
   try go_wp2_with (first | (refine gc 22 Tryd.func17 #[.agg #[.slice Ao28 t271.length co28, .slice Ao30 t274.length co30]] ?_; (with_reducible refine (impl_IsValidLedger.calls k _ _ t271 _ _ t274 true _ ?side1 ?side2 ?side3 ?side4 A8.out).mono ?_); (case side1 => exact (Kd.R_reads' (e := 48) (base := w.heap.size) (n := t271.length) (c := co28) (by refine bR ?_; exact (Kd.R_mono (Kd.R_far (p := ⟨gb277, 1, none⟩) (Kd.R_far (p := ⟨gb277, 0, none⟩) (Kd.R_types HO273.out BK277.out (by decide)) (fun _ hk => hk.2) (.slice Ao28 t271.length co28)) (fun _ hk => hk.2) (.slice Ao30 t274.length co30)) (fun _ h_ => h_.1)))).2.2); (case side2 => exact (Kd.R_reads' HO273.out).2.1); (case side3 => exact (Kd.S_reads' (e := 63) (base := w.heap.size) (n := t274.length) (c := co30) (by refine bS ?_; exact (Kd.S_mono (Kd.S_far (p := ⟨gb277, 1, none⟩) (Kd.S_far (p := ⟨gb277, 0, none⟩) (Kd.S_types HO276.out BK277.out (by decide)) (fun _ hk => hk.2) (.slice Ao28 t271.length co28)) (fun _ hk => hk.2) (.slice Ao30 t274.length co30)) (fun _ h_ => h_.1)))).2.2); (case side4 => exact (Kd.S_reads' HO276.out).2.1); rintro e w36 ⟨rfl, hb⟩; refine ⟨_, rfl, ?_⟩; replace HO0_1 := Aside0.mk (Kd.V_below (by refine bV ?_; exact (Kd.V_mono (Kd.V_far (p := ⟨gb277, 1, none⟩) (Kd.V_far (p := ⟨gb277, 0, none⟩) (Kd.V_mono HO0_1.out (fun k_ hk => (⟨hk, hk.2.2.2.2.2.2.2.2⟩ : _ ∧ k_ ≠ gb277))) (fun _ hk => hk.2) (.slice Ao28 t271.length co28)) (fun _ hk => hk.2) (.slice Ao30 t274.length co30)) (fun _ h_ => h_.1))) hb); replace HO1_2 := Aside0.mk (Kd.V_below (by refine bV ?_; exact (Kd.V_mono (Kd.V_far (p := ⟨gb277, 1, none⟩) (Kd.V_far (p := ⟨gb277, 0, none⟩) (Kd.V_mono HO1_2.out (fun k_ hk => (⟨hk, hk.2.2.2.2.2.2.2.2⟩ : _ ∧ k_ ≠ gb277))) (fun _ hk => hk.2) (.slice Ao28 t271.length co28)) (fun _ hk => hk.2) (.slice Ao30 t274.length co30)) (fun _ h_ => h_.1))) hb); replace HO267 := Aside0.mk (Kd.N_below (by refine bN ?_; exact (Kd.N_mono (Kd.N_far (p := ⟨gb277, 1, none⟩) (Kd.N_far (p := ⟨gb277, 0, none⟩) (Kd.N_mono HO267.out (fun k_ hk => (⟨hk, hk.2.2.2.2.2.2.2⟩ : _ ∧ k_ ≠ gb277))) (fun _ hk => hk.2) (.slice Ao28 t271.length co28)) (fun _ hk => hk.2) (.slice Ao30 t274.length co30)) (fun _ h_ => h_.1))) hb); replace HO270 := Aside0.mk (Kd.N_below (by refine bN ?_; exact (Kd.N_mono (Kd.N_far (p := ⟨gb277, 1, none⟩) (Kd.N_far (p := ⟨gb277, 0, none⟩) (Kd.N_mono HO270.out (fun k_ hk => (⟨hk, hk.2.2.2.2.2.2⟩ : _ ∧ k_ ≠ gb277))) (fun _ hk => hk.2) (.slice Ao28 t271.length co28)) (fun _ hk => hk.2) (.slice Ao30 t274.length co30)) (fun _ h_ => h_.1))) hb); replace HO273 := Aside0.mk (Kd.R_below (by refine bR ?_; exact (Kd.R_mono (Kd.R_far (p := ⟨gb277, 1, none⟩) (Kd.R_far (p := ⟨gb277, 0, none⟩) (Kd.R_types HO273.out BK277.out (by decide)) (fun _ hk => hk.2) (.slice Ao28 t271.length co28)) (fun _ hk => hk.2) (.slice Ao30 t274.length co30)) (fun _ h_ => h_.1))) hb); replace HO276 := Aside0.mk (Kd.S_below (by refine bS ?_; exact (Kd.S_mono (Kd.S_far (p := ⟨gb277, 1, none⟩) (Kd.S_far (p := ⟨gb277, 0, none⟩) (Kd.S_types HO276.out BK277.out (by decide)) (fun _ hk => hk.2) (.slice Ao28 t271.length co28)) (fun _ hk => hk.2) (.slice Ao30 t274.length co30)) (fun _ h_ => h_.1))) hb); replace BK258 := Aside0.mk (blk_below (g := gb258) (o := .cells #[.slice A0_0 l0_0.length c0_0, .slice A0_1 l0_1.length c0_1] 31 (0, 0)) (by refine bd ?_; refine blk_far ?_ NB258_277.out _; refine bd ?_; refine blk_far ?_ NB258_277.out _; refine bd ?_; exact BK258.out) hb); replace BK259 := Aside0.mk (blk_below (g := gb259) (o := .cells #[.int .i64 a1_0, .string a1_1, .slice A1_2 l1_2.length c1_2] 63 (0, 0)) (by refine bd ?_; refine blk_far ?_ NB259_277.out _; refine bd ?_; refine blk_far ?_ NB259_277.out _; refine bd ?_; exact BK259.out) hb); replace BK260 := Aside0.mk (blk_below (g := gb260) (o := .cells #[.slice none 0 0, .slice none 0 0] 31 (0, 0)) (by refine bd ?_; refine blk_far ?_ NB260_277.out _; refine bd ?_; refine blk_far ?_ NB260_277.out _; refine bd ?_; exact BK260.out) hb); replace BK277 := Aside0.mk (blk_below (g := gb277) (o := .cells #[.slice Ao28 t271.length co28, .slice Ao30 t274.length co30] 31 (0, 0)) (by refine bd ?_; refine blk_put (cs := #[.slice Ao28 t271.length co28, .slice none 0 0]) ?_ 1 _ rfl; refine bd ?_; refine blk_put (cs := #[.slice none 0 0, .slice none 0 0]) ?_ 0 _ rfl; refine bd ?_; exact BK277.out) hb); replace HB := hB hb; (try clear hb); (try clear hb2); (try clear hk); (try clear hi); obtain ⟨hcz37_0, hcz37_1, hfz37_0, hfz37_1⟩ := z2 BK277; have hnb38 := NB260_259.out; have hnc38 := NB259_260.out; obtain ⟨hcz39_0, hcz39_1, hfz39_0, hfz39_1⟩ := z2 BK260))
   refine bodyPost_ret (results_ct rfl _ _ gb260 31 #[.slice Ao28 t271.length co28, .slice Ao30 t274.length co30] (0, 0) _ rfl (by refine bd ?_; refine blk_put (cs := #[.slice Ao28 t271.length co28, .slice none 0 0]) ?_ 1 _ rfl; refine bd ?_; refine blk_put (cs := #[.slice none 0 0, .slice none 0 0]) ?_ 0 _ rfl; refine bd ?_; exact BK260.out) Tryd.underlying31 rfl (by kernel_rfl)) rfl ?_
   exact ⟨_, _, ZZab01d2, (by refine bR ?_; exact Kd.R_mono (Kd.R_far (p := ⟨gb260, 1, none⟩) (Kd.R_far (p := ⟨gb260, 0, none⟩) (Kd.R_types HO273.out BK260.out (by decide)) (fun _ hk => hk.2) (.slice Ao28 t271.length co28)) (fun _ hk => hk.2) (.slice Ao30 t274.length co30)) (fun _ hk => hk.1)), (by refine bS ?_; exact Kd.S_mono (Kd.S_far (p := ⟨gb260, 1, none⟩) (Kd.S_far (p := ⟨gb260, 0, none⟩) (Kd.S_types HO276.out BK260.out (by decide)) (fun _ hk => hk.2) (.slice Ao28 t271.length co28)) (fun _ hk => hk.2) (.slice Ao30 t274.length co30)) (fun _ hk => hk.1.1)), ZZ295621⟩
  replace c9 := Bool.eq_false_iff.mpr c9
  subst c9
  replace H := ifF H
  simp only [Option.some.injEq, Prod.mk.injEq] at H
  obtain ⟨rfl, rfl, rfl⟩ := H
  try go_wp2_with (first | (refine gc 22 Tryd.func17 #[.agg #[.slice Ao28 t271.length co28, .slice Ao30 t274.length co30]] ?_; (with_reducible refine (impl_IsValidLedger.calls k _ _ t271 _ _ t274 false _ ?side1 ?side2 ?side3 ?side4 A8.out).mono ?_); (case side1 => exact (Kd.R_reads' (e := 48) (base := w.heap.size) (n := t271.length) (c := co28) (by refine bR ?_; exact (Kd.R_mono (Kd.R_far (p := ⟨gb277, 1, none⟩) (Kd.R_far (p := ⟨gb277, 0, none⟩) (Kd.R_types HO273.out BK277.out (by decide)) (fun _ hk => hk.2) (.slice Ao28 t271.length co28)) (fun _ hk => hk.2) (.slice Ao30 t274.length co30)) (fun _ h_ => h_.1)))).2.2); (case side2 => exact (Kd.R_reads' HO273.out).2.1); (case side3 => exact (Kd.S_reads' (e := 63) (base := w.heap.size) (n := t274.length) (c := co30) (by refine bS ?_; exact (Kd.S_mono (Kd.S_far (p := ⟨gb277, 1, none⟩) (Kd.S_far (p := ⟨gb277, 0, none⟩) (Kd.S_types HO276.out BK277.out (by decide)) (fun _ hk => hk.2) (.slice Ao28 t271.length co28)) (fun _ hk => hk.2) (.slice Ao30 t274.length co30)) (fun _ h_ => h_.1)))).2.2); (case side4 => exact (Kd.S_reads' HO276.out).2.1); rintro e w66 ⟨rfl, hb⟩; refine ⟨_, rfl, ?_⟩; replace HO0_1 := Aside0.mk (Kd.V_below (by refine bV ?_; exact (Kd.V_mono (Kd.V_far (p := ⟨gb277, 1, none⟩) (Kd.V_far (p := ⟨gb277, 0, none⟩) (Kd.V_mono HO0_1.out (fun k_ hk => (⟨hk, hk.2.2.2.2.2.2.2.2⟩ : _ ∧ k_ ≠ gb277))) (fun _ hk => hk.2) (.slice Ao28 t271.length co28)) (fun _ hk => hk.2) (.slice Ao30 t274.length co30)) (fun _ h_ => h_.1))) hb); replace HO1_2 := Aside0.mk (Kd.V_below (by refine bV ?_; exact (Kd.V_mono (Kd.V_far (p := ⟨gb277, 1, none⟩) (Kd.V_far (p := ⟨gb277, 0, none⟩) (Kd.V_mono HO1_2.out (fun k_ hk => (⟨hk, hk.2.2.2.2.2.2.2.2⟩ : _ ∧ k_ ≠ gb277))) (fun _ hk => hk.2) (.slice Ao28 t271.length co28)) (fun _ hk => hk.2) (.slice Ao30 t274.length co30)) (fun _ h_ => h_.1))) hb); replace HO267 := Aside0.mk (Kd.N_below (by refine bN ?_; exact (Kd.N_mono (Kd.N_far (p := ⟨gb277, 1, none⟩) (Kd.N_far (p := ⟨gb277, 0, none⟩) (Kd.N_mono HO267.out (fun k_ hk => (⟨hk, hk.2.2.2.2.2.2.2⟩ : _ ∧ k_ ≠ gb277))) (fun _ hk => hk.2) (.slice Ao28 t271.length co28)) (fun _ hk => hk.2) (.slice Ao30 t274.length co30)) (fun _ h_ => h_.1))) hb); replace HO270 := Aside0.mk (Kd.N_below (by refine bN ?_; exact (Kd.N_mono (Kd.N_far (p := ⟨gb277, 1, none⟩) (Kd.N_far (p := ⟨gb277, 0, none⟩) (Kd.N_mono HO270.out (fun k_ hk => (⟨hk, hk.2.2.2.2.2.2⟩ : _ ∧ k_ ≠ gb277))) (fun _ hk => hk.2) (.slice Ao28 t271.length co28)) (fun _ hk => hk.2) (.slice Ao30 t274.length co30)) (fun _ h_ => h_.1))) hb); replace HO273 := Aside0.mk (Kd.R_below (by refine bR ?_; exact (Kd.R_mono (Kd.R_far (p := ⟨gb277, 1, none⟩) (Kd.R_far (p := ⟨gb277, 0, none⟩) (Kd.R_types HO273.out BK277.out (by decide)) (fun _ hk => hk.2) (.slice Ao28 t271.length co28)) (fun _ hk => hk.2) (.slice Ao30 t274.length co30)) (fun _ h_ => h_.1))) hb); replace HO276 := Aside0.mk (Kd.S_below (by refine bS ?_; exact (Kd.S_mono (Kd.S_far (p := ⟨gb277, 1, none⟩) (Kd.S_far (p := ⟨gb277, 0, none⟩) (Kd.S_types HO276.out BK277.out (by decide)) (fun _ hk => hk.2) (.slice Ao28 t271.length co28)) (fun _ hk => hk.2) (.slice Ao30 t274.length co30)) (fun _ h_ => h_.1))) hb); replace BK258 := Aside0.mk (blk_below (g := gb258) (o := .cells #[.slice A0_0 l0_0.length c0_0, .slice A0_1 l0_1.length c0_1] 31 (0, 0)) (by refine bd ?_; refine blk_far ?_ NB258_277.out _; refine bd ?_; refine blk_far ?_ NB258_277.out _; refine bd ?_; exact BK258.out) hb); replace BK259 := Aside0.mk (blk_below (g := gb259) (o := .cells #[.int .i64 a1_0, .string a1_1, .slice A1_2 l1_2.length c1_2] 63 (0, 0)) (by refine bd ?_; refine blk_far ?_ NB259_277.out _; refine bd ?_; refine blk_far ?_ NB259_277.out _; refine bd ?_; exact BK259.out) hb); replace BK260 := Aside0.mk (blk_below (g := gb260) (o := .cells #[.slice none 0 0, .slice none 0 0] 31 (0, 0)) (by refine bd ?_; refine blk_far ?_ NB260_277.out _; refine bd ?_; refine blk_far ?_ NB260_277.out _; refine bd ?_; exact BK260.out) hb); replace BK277 := Aside0.mk (blk_below (g := gb277) (o := .cells #[.slice Ao28 t271.length co28, .slice Ao30 t274.length co30] 31 (0, 0)) (by refine bd ?_; refine blk_put (cs := #[.slice Ao28 t271.length co28, .slice none 0 0]) ?_ 1 _ rfl; refine bd ?_; refine blk_put (cs := #[.slice none 0 0, .slice none 0 0]) ?_ 0 _ rfl; refine bd ?_; exact BK277.out) hb); replace HB := hB hb; (try clear hb); (try clear hb2); (try clear hk); (try clear hi); have hnb67 := NB260_259.out; have hnc67 := NB259_260.out; obtain ⟨hcz68_0, hcz68_1, hfz68_0, hfz68_1⟩ := z2 BK260))
  refine bodyPost_ret (results_ct rfl _ _ gb260 31 #[.slice none 0 0, .slice none 0 0] (0, 0) _ rfl (by refine bd ?_; refine blk_put (cs := #[.slice none 0 0, .slice none 0 0]) ?_ 1 _ rfl; refine bd ?_; refine blk_put (cs := #[.slice none 0 0, .slice none 0 0]) ?_ 0 _ rfl; refine bd ?_; exact BK260.out) Tryd.underlying31 rfl (by kernel_rfl)) rfl ?_
  exact ⟨_, _, ZZab01d2, ZZf4214b, ZZc4c4be, ZZ295621⟩
 replace c4 := Bool.eq_false_iff.mpr c4
 subst c4
 replace H := ifF H
 simp only [Option.some.injEq, Prod.mk.injEq] at H
 obtain ⟨rfl, rfl, rfl⟩ := H
 go_enter Tryd.func38, Tryd.ntmps38
 go_wp2_with (first | ((with_reducible refine gate_dst (N := 2) rfl ?_); refine bx 2 (cs := #[.slice A0_0 l0_0.length c0_0, .slice A0_1 l0_1.length c0_1]) (t := 31) ?_; intro gb258 hg w69 hbox hb; replace HO0_1 := Aside0.mk (Kd.V_below (Kd.V_elderB ZZ1186ef gb258 (Nat.le_of_eq hg.symm)) hb); replace HO1_2 := Aside0.mk (Kd.V_below (Kd.V_elderB ZZ6ff8a7 gb258 (Nat.le_of_eq hg.symm)) hb); have BK258 := Aside0.mk (hbox); have GW258 := gw hg; have GE258 := gw hg; replace HB := hB hb; clear hb hbox hg) | ((with_reducible refine gate_dst (N := 3) rfl ?_); refine bx 3 (cs := #[.int .i64 a1_0, .string a1_1, .slice A1_2 l1_2.length c1_2]) (t := 63) ?_; intro gb259 hg w70 hbox hb; replace HO0_1 := Aside0.mk (Kd.V_below (Kd.V_elderB ZZ1186ef gb259 (Nat.le_of_eq hg.symm)) hb); replace HO1_2 := Aside0.mk (Kd.V_below (Kd.V_elderB ZZ6ff8a7 gb259 (Nat.le_of_eq hg.symm)) hb); have BK259 := Aside0.mk (hbox); have GW259 := gw hg; have GE259 := gw hg; replace HB := hB hb; have NB258_259 := nl hg BK258; have NB259_258 := ng hg BK258; replace BK258 := kb BK258 hb; clear hb hbox hg) | ((with_reducible refine gate_dst (N := 4) rfl ?_); refine bx 4 (cs := #[.slice none 0 0, .slice none 0 0]) (t := 31) ?_; intro gb260 hg w71 hbox hb; replace HO0_1 := Aside0.mk (Kd.V_below (Kd.V_elderB ZZ1186ef gb260 (Nat.le_of_eq hg.symm)) hb); replace HO1_2 := Aside0.mk (Kd.V_below (Kd.V_elderB ZZ6ff8a7 gb260 (Nat.le_of_eq hg.symm)) hb); have BK260 := Aside0.mk (hbox); have GW260 := gw hg; have GE260 := gw hg; replace HB := hB hb; have NB258_260 := nl hg BK258; have NB260_258 := ng hg BK258; replace BK258 := kb BK258 hb; have NB259_260 := nl hg BK259; have NB260_259 := ng hg BK259; replace BK259 := kb BK259 hb; clear hb hbox hg; have hnb72 := NB258_259.out; have hnc72 := NB259_258.out; have hnb73 := NB258_260.out; have hnc73 := NB260_258.out; obtain ⟨hcz74_0, hcz74_1, hfz74_0, hfz74_1⟩ := z2 BK258) | (refine gc 8 Tryd.func17 #[.agg #[.slice A0_0 l0_0.length c0_0, .slice A0_1 l0_1.length c0_1]] ?_; (with_reducible refine (impl_IsValidLedger.calls k _ _ l0_0 _ _ l0_1 false _ ?side1 ?side2 ?side3 ?side4 A3.out).mono ?_); (case side1 => exact (rC (Kd.C_below HR0_0.out HB.out))); (case side2 => exact HC0_0.out); (case side3 => exact rC (Kd.V_reads' HO0_1.out).2.2); (case side4 => exact (Kd.V_reads' HO0_1.out).2.1); rintro e w75 ⟨rfl, hb⟩; refine ⟨_, rfl, ?_⟩; replace HO0_1 := Aside0.mk (Kd.V_below ZZ1186ef hb); replace HO1_2 := Aside0.mk (Kd.V_below ZZ6ff8a7 hb); replace BK258 := kb BK258 hb; replace BK259 := kb BK259 hb; replace BK260 := kb BK260 hb; replace HB := hB hb; (try clear hb); (try clear hb2); (try clear hk); (try clear hi); have hnb76 := NB260_259.out; have hnc76 := NB259_260.out; obtain ⟨hcz77_0, hcz77_1, hfz77_0, hfz77_1⟩ := z2 BK260))
 refine bodyPost_ret (results_ct rfl _ _ gb260 31 #[.slice none 0 0, .slice none 0 0] (0, 0) _ rfl (by refine bd ?_; refine blk_put (cs := #[.slice none 0 0, .slice none 0 0]) ?_ 1 _ rfl; refine bd ?_; refine blk_put (cs := #[.slice none 0 0, .slice none 0 0]) ?_ 0 _ rfl; refine bd ?_; exact BK260.out) Tryd.underlying31 rfl (by kernel_rfl)) rfl ?_
 exact ⟨_, _, ZZab01d2, ZZf4214b, ZZc4c4be, ZZ295621⟩
end Go.Proofs.YtccdjchaaeligaaDoor.XFnExactCloseAccounts

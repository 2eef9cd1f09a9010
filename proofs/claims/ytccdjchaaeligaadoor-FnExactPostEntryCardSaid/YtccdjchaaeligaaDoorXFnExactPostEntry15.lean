import Derived.Test.YtccdjchaaeligaaDoorXFnExactPostEntry9
import Derived.Test.YtccdjchaaeligaaDoorXFnExactPostEntry8
import Derived.Test.YtccdjchaaeligaaDoorXFnExactPostEntry1
import Derived.Test.YtccdjchaaeligaaDoorXFnExactPostEntry0
import Derived.Test.YtccdjchaaeligaaDoorXFnExactPostEntry13
import Derived.Test.YtccdjchaaeligaaDoorXFnExactPostEntry14
namespace Go.Proofs.YtccdjchaaeligaaDoor.XFnExactPostEntry
open Go.Proofs.YtccdjchaaeligaaDoor.Short Go.RowKit Go.Proofs.YtccdjchaaeligaaDoorW.PrintWords Go.Proofs.YtccdjchaaeligaaDoorW.PrintLast Go.Proofs.YtccdjchaaeligaaDoorW.PrintMore
attribute [local go_sem] max2_int min2_int max_two min_two max_three min_three max_four min_four
set_option linter.unusedVariables false
set_option linter.unusedSimpArgs false
theorem ZZ1186ef {p : Prop} (h : p := by refine bV ?_; exact HO0_1.out) : p := h
theorem ZZ6ff8a7 {p : Prop} (h : p := by refine bV ?_; exact HO1_2.out) : p := h
theorem ZZ014134 {p : Prop} (h : p := by first | (simp only [putAll, Act.put, List.setIfInBounds_toArray, List.set_cons_zero, List.set_cons_succ]; done) | (simp only [putAll, Act.put, List.setIfInBounds_toArray, List.set_cons_zero, List.set_cons_succ]; rfl)) : p := h
theorem ZZ4a4b0f {p : Prop} (h : p := by refine bV ?_; exact Kd.V_mono HO0_1.out (fun _ hk => ⟨hk.1.1.1.1, ⟨hk.2, ⟨hk.1.1.1.2, ⟨hk.1.1.2, hk.1.2⟩⟩⟩⟩)) : p := h
theorem ZZ0f2d0b {p : Prop} (h : p := by refine bV ?_; exact Kd.V_mono HO1_2.out (fun _ hk => ⟨hk.1.1.1.1, ⟨hk.2, ⟨hk.1.1.1.2, ⟨hk.1.1.2, hk.1.2⟩⟩⟩⟩)) : p := h
theorem ZZaabc9d {p : Prop} (h : p := by refine bN ?_; exact HO374.out) : p := h
theorem ZZcaddb5 {p : Prop} (h : p := by refine bN ?_; exact HO377.out) : p := h
theorem ZZd5e4bd {p : Prop} (h : p := by refine bV ?_; exact Kd.V_mono HO0_1.out (fun _ hk => ⟨hk.1.1, ⟨hk.2, ⟨hk.1.2.1, ⟨hk.1.2.2.1, ⟨hk.1.2.2.2.1, hk.1.2.2.2.2⟩⟩⟩⟩⟩)) : p := h
theorem ZZf2d862 {p : Prop} (h : p := by refine bV ?_; exact Kd.V_mono HO1_2.out (fun _ hk => ⟨hk.1.1, ⟨hk.2, ⟨hk.1.2.1, ⟨hk.1.2.2.1, ⟨hk.1.2.2.2.1, hk.1.2.2.2.2⟩⟩⟩⟩⟩)) : p := h
theorem ZZ3129b6 {p : Prop} (h : p := by refine bN ?_; exact Kd.N_mono HO377.out (fun _ hk => ⟨hk.1.1, ⟨hk.2, ⟨hk.1.2.1, ⟨hk.1.2.2.1, hk.1.2.2.2⟩⟩⟩⟩)) : p := h
theorem ZZ74a3b1 {p : Prop} (h : p := by refine bV ?_; exact Kd.V_mono HO0_1.out (fun _ hk => ⟨hk.1.1, ⟨hk.1.2.1, ⟨hk.1.2.2.1, ⟨hk.1.2.2.2.1, ⟨hk.1.2.2.2.2, hk.2⟩⟩⟩⟩⟩)) : p := h
theorem ZZ432988 {p : Prop} (h : p := by refine bV ?_; exact Kd.V_mono HO1_2.out (fun _ hk => ⟨hk.1.1, ⟨hk.1.2.1, ⟨hk.1.2.2.1, ⟨hk.1.2.2.2.1, ⟨hk.1.2.2.2.2, hk.2⟩⟩⟩⟩⟩)) : p := h
theorem ZZ6ebf87 {p : Prop} (h : p := by refine bV ?_; exact Kd.V_mono HO0_1.out (fun _ hk => ⟨hk.1.1, ⟨hk.1.2.1, ⟨hk.2, ⟨hk.1.2.2.1, ⟨hk.1.2.2.2.1, hk.1.2.2.2.2⟩⟩⟩⟩⟩)) : p := h
theorem ZZ14e881 {p : Prop} (h : p := by refine bV ?_; exact Kd.V_mono HO1_2.out (fun _ hk => ⟨hk.1.1, ⟨hk.1.2.1, ⟨hk.2, ⟨hk.1.2.2.1, ⟨hk.1.2.2.2.1, hk.1.2.2.2.2⟩⟩⟩⟩⟩)) : p := h
theorem ZZf88850 {p : Prop} (h : p := by refine bN ?_; exact Kd.N_mono HO377.out (fun _ hk => ⟨hk.1.1, ⟨hk.2, ⟨hk.1.2.1, ⟨hk.1.2.2.1, ⟨hk.1.2.2.2.1, hk.1.2.2.2.2⟩⟩⟩⟩⟩)) : p := h
theorem ZZff724a {p : Prop} (h : p := by refine bV ?_; exact Kd.V_mono HO0_1.out (fun _ hk => ⟨hk.1.1, ⟨hk.1.2.1, ⟨hk.2, ⟨hk.1.2.2.1, ⟨hk.1.2.2.2.1, ⟨hk.1.2.2.2.2.1, hk.1.2.2.2.2.2⟩⟩⟩⟩⟩⟩)) : p := h
theorem ZZbd8012 {p : Prop} (h : p := by refine bV ?_; exact Kd.V_mono HO1_2.out (fun _ hk => ⟨hk.1.1, ⟨hk.1.2.1, ⟨hk.2, ⟨hk.1.2.2.1, ⟨hk.1.2.2.2.1, ⟨hk.1.2.2.2.2.1, hk.1.2.2.2.2.2⟩⟩⟩⟩⟩⟩)) : p := h
theorem ZZ3083f5 {p : Prop} (h : p := by refine bN ?_; exact HO380.out) : p := h
theorem ZZ22d34a {p : Prop} (h : p := by refine bV ?_; exact Kd.V_mono HO0_1.out (fun _ hk => ⟨hk.1.1, ⟨hk.1.2.1, ⟨hk.1.2.2.1, ⟨hk.1.2.2.2.1, ⟨hk.1.2.2.2.2.1, ⟨hk.1.2.2.2.2.2, hk.2⟩⟩⟩⟩⟩⟩)) : p := h
theorem ZZb93140 {p : Prop} (h : p := by refine bV ?_; exact Kd.V_mono HO1_2.out (fun _ hk => ⟨hk.1.1, ⟨hk.1.2.1, ⟨hk.1.2.2.1, ⟨hk.1.2.2.2.1, ⟨hk.1.2.2.2.2.1, ⟨hk.1.2.2.2.2.2, hk.2⟩⟩⟩⟩⟩⟩)) : p := h
theorem ZZ047514 {p : Prop} (h : p := by refine bN ?_; exact Kd.N_mono HO377.out (fun _ hk => ⟨hk.1.1, ⟨hk.1.2.1, ⟨hk.1.2.2.1, ⟨hk.1.2.2.2.1, ⟨hk.1.2.2.2.2, hk.2⟩⟩⟩⟩⟩)) : p := h
theorem ZZ13ea4a {p : Prop} (h : p := by refine bR ?_; exact Kd.R_mono HO383.out (fun _ hk => hk.1)) : p := h
theorem ZZf8b581 {p : Prop} (h : p := by refine bS ?_; exact Kd.S_mono HO386.out (fun _ hk => ⟨hk.1.1.1.1, ⟨hk.1.1.2, ⟨hk.1.2, hk.2⟩⟩⟩)) : p := h
def impl_PostEntry.f (k : Nat) (l0_0 : List (S48)) (l0_1 : List (S63)) (a1_0 : Int) (a1_1 : ByteArray) (l1_2 : List (S70)) : Option ((List (S48)) × (List (S63)) × Bool) := (impl_IsValidLedger.f k l0_0 l0_1).bind fun t371 => (if t371 = true then ((impl_BookEntry.f l0_1).bind fun t372 => ((some (([(⟨a1_0, a1_1, l1_2⟩ : S63)] : List (S63)) : List (S63))).bind fun y375 => (if t372.length + y375.length < 2932031007402 then ((impl_ownLedger.f k l0_0 (t372 ++ y375)).bind fun bt381 => ((impl_IsValidLedger.f k bt381.1 bt381.2).bind fun t388 => (if t388 = true then (some (bt381.1, bt381.2, true)) else (some (([] : List (S48)), ([] : List (S63)), false))))) else (none)))) else (some (([] : List (S48)), ([] : List (S63)), false)))
theorem impl_PostEntry.mono : ∀ a0 a1 a2 a3 a4 k, LeO (impl_PostEntry.f k a0 a1 a2 a3 a4) (impl_PostEntry.f (k + 1) a0 a1 a2 a3 a4) := by
 intro a0 a1 a2 a3 a4 k
 unfold impl_PostEntry.f
 repeat' with_reducible first | apply impl_IsValidLedger.mono | apply impl_ownLedger.mono | exact LeO.refl _ | exact LeO.none _ | refine LeO.ite ?_ ?_ | refine LeO.bind ?_ (fun _ => ?_)
def impl_PostEntry.T3 : Bool × List (List Nat × List Nat) := (true, [([], []), ([0], [0]), ([], []), ([2], [2]), ([3], [3]), ([], []), ([5], [5]), ([4, 6, 4], [4, 6]), ([1, 7], [1, 7]), ([8, 7], [8]), ([], []), ([10, 9, 9, 0, 1, 2, 3, 4, 5, 6, 7, 8, 9, 10], [9, 10])])
def impl_PostEntry.B3 : List Nat := [0, 1, 0, 4, 12, 0, 32, 124, 255, 511, 0, 2047]
theorem impl_PostEntry.tab3 : rtab .any (opsOf Tryd.f38 3) = impl_PostEntry.T3 := by kernel_rfl
theorem impl_PostEntry.bits3 : waitsOk impl_PostEntry.T3.2 impl_PostEntry.B3 = true := by kernel_rfl
set_option maxHeartbeats 8000000 in
set_option maxRecDepth 100000 in
theorem impl_PostEntry.calls (k : Nat) (A0_0 : Option Addr) (c0_0 : Nat) (l0_0 : List (S48)) (P0_1_ : Nat → Prop) (A0_1 : Option Addr) (c0_1 : Nat) (l0_1 : List (S63)) (a1_0 : Int) (a1_1 : ByteArray) (P1_2_ : Nat → Prop) (A1_2 : Option Addr) (c1_2 : Nat) (l1_2 : List (S70)) (r1 : List (S48)) (r2 : List (S63)) (r3 : Bool) (w : World) (hr0_0 : Kd.C k48 w A0_0 l0_0.length l0_0) (hc0_0 : l0_0.length ≤ c0_0) (hs0_1 : Kd.V k63 63 w w.heap.size (fun k_ => P0_1_ k_) (.slice A0_1 l0_1.length c0_1) l0_1) (hs1_2 : Kd.V k70 70 w w.heap.size (fun k_ => P1_2_ k_) (.slice A1_2 l1_2.length c1_2) l1_2) (h : impl_PostEntry.f k l0_0 l0_1 a1_0 a1_1 l1_2 = some (r1, r2, r3)) :
 Calls Tryd.prog 38 #[.agg #[.slice A0_0 l0_0.length c0_0, .slice A0_1 l0_1.length c0_1], .agg #[.int .i64 a1_0, .string a1_1, .slice A1_2 l1_2.length c1_2]] w fun e w' => ∃ v0_ v1_ : Value, e = .returned (.tuple #[.agg #[v0_, v1_], .bool r3]) ∧ Kd.R k48 48 w' w.heap.size (fun k_ => (w.heap.size ≤ k_)) v0_ r1 ∧ Kd.S k63 63 w' w.heap.size (fun k_ => (w.heap.size ≤ k_)) v1_ r2 ∧ Below w.heap.size w w' := by
 have hu31 := Tryd.underlying31
 have hu63 := Tryd.underlying63
 have HR0_0 := Aside0.mk hr0_0
 have HC0_0 := Aside0.mk hc0_0
 clear hr0_0 hc0_0
 have HO0_1 := Aside0.mk (show Kd.V k63 63 w w.heap.size (fun k_ => ((P0_1_ k_ ∨ P1_2_ k_) ∨ w.heap.size ≤ k_)) (.slice A0_1 l0_1.length c0_1) l0_1 from Kd.V_mono hs0_1 (fun k_ hk => .inl (.inl hk)))
 have HO1_2 := Aside0.mk (show Kd.V k70 70 w w.heap.size (fun k_ => ((P0_1_ k_ ∨ P1_2_ k_) ∨ w.heap.size ≤ k_)) (.slice A1_2 l1_2.length c1_2) l1_2 from Kd.V_mono hs1_2 (fun k_ hk => .inl (.inr hk)))
 have HB := Aside0.mk (Below.refl w.heap.size w)
 have H := h
 clear h
 unfold impl_PostEntry.f at H
 obtain ⟨t371, A3, H⟩ := bdY H
 by_cases c4 : t371 = true
 ·subst c4
  replace H := ifT H
  obtain ⟨t372, A5, H⟩ := bdY H
  try rw [Option.bind_some] at H
  generalize hy375 : (([(⟨a1_0, a1_1, l1_2⟩ : S63)] : List (S63)) : List (S63)) = y375 at H
  have Ny375 := Aside0.mk hy375.symm
  clear hy375
  obtain ⟨c6, H⟩ := ifY H
  have LMc6 := Aside0.mk c6
  clear c6
  try rw [Option.bind_some] at H
  generalize hy378 : (t372 ++ y375 : List (S63)) = y378 at H
  have Ny378 := Aside0.mk hy378.symm
  clear hy378
  obtain ⟨⟨t381, t384⟩, A7, H⟩ := bdY H
  try dsimp only at H
  obtain ⟨t388, A8, H⟩ := bdY H
  go_enter Tryd.func38, Tryd.ntmps38
  try go_wp2_with (first | ((with_reducible refine gate_dst (N := 2) rfl ?_); refine bx 2 (cs := #[.slice A0_0 l0_0.length c0_0, .slice A0_1 l0_1.length c0_1]) (t := 31) ?_; intro gb368 hg w10 hbox hb; replace HO0_1 := Aside0.mk (Kd.V_below (Kd.V_elderB ZZ1186ef gb368 (Nat.le_of_eq hg.symm)) hb); replace HO1_2 := Aside0.mk (Kd.V_below (Kd.V_elderB ZZ6ff8a7 gb368 (Nat.le_of_eq hg.symm)) hb); have BK368 := Aside0.mk (hbox); have GW368 := gw hg; have GE368 := gw hg; replace HB := hB hb; clear hb hbox hg) | ((with_reducible refine gate_dst (N := 3) rfl ?_); refine bx 3 (cs := #[.int .i64 a1_0, .string a1_1, .slice A1_2 l1_2.length c1_2]) (t := 63) ?_; intro gb369 hg w11 hbox hb; replace HO0_1 := Aside0.mk (Kd.V_below (Kd.V_elderB ZZ1186ef gb369 (Nat.le_of_eq hg.symm)) hb); replace HO1_2 := Aside0.mk (Kd.V_below (Kd.V_elderB ZZ6ff8a7 gb369 (Nat.le_of_eq hg.symm)) hb); have BK369 := Aside0.mk (hbox); have GW369 := gw hg; have GE369 := gw hg; replace HB := hB hb; have NB368_369 := nl hg BK368; have NB369_368 := ng hg BK368; replace BK368 := kb BK368 hb; clear hb hbox hg) | ((with_reducible refine gate_dst (N := 4) rfl ?_); refine bx 4 (cs := #[.slice none 0 0, .slice none 0 0]) (t := 31) ?_; intro gb370 hg w12 hbox hb; replace HO0_1 := Aside0.mk (Kd.V_below (Kd.V_elderB ZZ1186ef gb370 (Nat.le_of_eq hg.symm)) hb); replace HO1_2 := Aside0.mk (Kd.V_below (Kd.V_elderB ZZ6ff8a7 gb370 (Nat.le_of_eq hg.symm)) hb); have BK370 := Aside0.mk (hbox); have GW370 := gw hg; have GE370 := gw hg; replace HB := hB hb; have NB368_370 := nl hg BK368; have NB370_368 := ng hg BK368; replace BK368 := kb BK368 hb; have NB369_370 := nl hg BK369; have NB370_369 := ng hg BK369; replace BK369 := kb BK369 hb; clear hb hbox hg; have hnb13 := NB368_369.out; have hnc13 := NB369_368.out; have hnb14 := NB368_370.out; have hnc14 := NB370_368.out; obtain ⟨hcz15_0, hcz15_1, hfz15_0, hfz15_1⟩ := z2 BK368) | (refine gc 8 Tryd.func17 #[.agg #[.slice A0_0 l0_0.length c0_0, .slice A0_1 l0_1.length c0_1]] ?_; (with_reducible refine (impl_IsValidLedger.calls k _ _ l0_0 _ _ l0_1 true _ ?side1 ?side2 ?side3 ?side4 A3.out).mono ?_); (case side1 => exact (rC (Kd.C_below HR0_0.out HB.out))); (case side2 => exact HC0_0.out); (case side3 => exact rC (Kd.V_reads' HO0_1.out).2.2); (case side4 => exact (Kd.V_reads' HO0_1.out).2.1); rintro e w16 ⟨rfl, hb⟩; refine ⟨_, rfl, ?_⟩; replace HO0_1 := Aside0.mk (Kd.V_below ZZ1186ef hb); replace HO1_2 := Aside0.mk (Kd.V_below ZZ6ff8a7 hb); replace BK368 := kb BK368 hb; replace BK369 := kb BK369 hb; replace BK370 := kb BK370 hb; replace HB := hB hb; (try clear hb); (try clear hb2); (try clear hk); (try clear hi)))
  replace HO0_1 := Aside0.mk (Kd.V_drew HO0_1.out)
  replace HO1_2 := Aside0.mk (Kd.V_drew HO1_2.out)
  replace BK368 := Aside0.mk (blk_drew BK368.out)
  replace BK369 := Aside0.mk (blk_drew BK369.out)
  replace BK370 := Aside0.mk (blk_drew BK370.out)
  replace HB := Aside0.mk (below_drew1 HB.out)
  refine st 12 (S := fun w' => w'.cell? ⟨gb368, 0, none⟩ = some (.slice A0_0 l0_0.length c0_0) ∧ w'.cell? ⟨gb368, 1, none⟩ = some (.slice A0_1 l0_1.length c0_1) ∧ w'.cell? ⟨gb369, 0, none⟩ = some (.int .i64 a1_0) ∧ w'.cell? ⟨gb369, 1, none⟩ = some (.string a1_1) ∧ w'.cell? ⟨gb369, 2, none⟩ = some (.slice A1_2 l1_2.length c1_2)) impl_PostEntry.tab3 impl_PostEntry.bits3 zK (fun hHeld HT_ HW_ => ?_)
  generalize w16.drew = w17 at HO0_1 HO1_2 BK368 BK369 BK370 HB hHeld ⊢
  refine pu 0 11 ?_
  refine pu 2 13 ?_
  refine tk 1 12 ?_
  refine tk 3 14 ?_
  refine tk 5 16 ?_
  refine join_ (σ := Value × Value × Value × Value × Value × Nat) 1 #[true, true, true, true, true, true, true, true, true, true, true, false] (fun s_ => [(15, s_.1), (17, s_.2.1), (18, s_.2.2.1), (20, .agg #[s_.2.2.2.1, s_.2.2.2.2.1]), (6, .pointer (some ⟨s_.2.2.2.2.2, 0, none⟩)), (19, .agg #[.slice A0_0 l0_0.length c0_0, s_.2.2.1])]) (fun s_ w' => (w'.cell? ⟨gb368, 0, none⟩ = some (.slice A0_0 l0_0.length c0_0) ∧ w'.cell? ⟨gb368, 1, none⟩ = some (.slice A0_1 l0_1.length c0_1) ∧ w'.cell? ⟨gb369, 0, none⟩ = some (.int .i64 a1_0) ∧ w'.cell? ⟨gb369, 1, none⟩ = some (.string a1_1) ∧ w'.cell? ⟨gb369, 2, none⟩ = some (.slice A1_2 l1_2.length c1_2)) ∧ (Kd.V k63 63 w' w.heap.size (fun k_ => ((P0_1_ k_ ∨ P1_2_ k_) ∨ w.heap.size ≤ k_) ∧ some k_ ≠ (s_.2.1 : Value).ownBlock ∧ some k_ ≠ (s_.2.2.1 : Value).ownBlock ∧ some k_ ≠ (s_.2.2.2.1 : Value).ownBlock ∧ some k_ ≠ (s_.2.2.2.2.1 : Value).ownBlock ∧ k_ ≠ gb368 ∧ k_ ≠ gb369 ∧ k_ ≠ gb370 ∧ k_ ≠ s_.2.2.2.2.2) (.slice A0_1 l0_1.length c0_1) l0_1) ∧ (Kd.V k70 70 w' w.heap.size (fun k_ => ((P0_1_ k_ ∨ P1_2_ k_) ∨ w.heap.size ≤ k_) ∧ some k_ ≠ (s_.2.1 : Value).ownBlock ∧ some k_ ≠ (s_.2.2.1 : Value).ownBlock ∧ some k_ ≠ (s_.2.2.2.1 : Value).ownBlock ∧ some k_ ≠ (s_.2.2.2.2.1 : Value).ownBlock ∧ k_ ≠ gb368 ∧ k_ ≠ gb369 ∧ k_ ≠ gb370 ∧ k_ ≠ s_.2.2.2.2.2) (.slice A1_2 l1_2.length c1_2) l1_2) ∧ (Kd.N k63 63 w' w.heap.size (fun k_ => ((P0_1_ k_ ∨ P1_2_ k_) ∨ w.heap.size ≤ k_) ∧ some k_ ≠ (s_.2.2.1 : Value).ownBlock ∧ some k_ ≠ (s_.2.2.2.1 : Value).ownBlock ∧ some k_ ≠ (s_.2.2.2.2.1 : Value).ownBlock ∧ k_ ≠ gb368 ∧ k_ ≠ gb369 ∧ k_ ≠ gb370 ∧ k_ ≠ s_.2.2.2.2.2) s_.2.1 y375) ∧ (Kd.N k63 63 w' w.heap.size (fun k_ => ((P0_1_ k_ ∨ P1_2_ k_) ∨ w.heap.size ≤ k_) ∧ some k_ ≠ (s_.2.2.2.1 : Value).ownBlock ∧ some k_ ≠ (s_.2.2.2.2.1 : Value).ownBlock ∧ k_ ≠ gb368 ∧ k_ ≠ gb369 ∧ k_ ≠ gb370 ∧ k_ ≠ s_.2.2.2.2.2) s_.2.2.1 y378) ∧ (Kd.R k48 48 w' w.heap.size (fun k_ => (w.heap.size ≤ k_)) s_.2.2.2.1 t381) ∧ (Kd.S k63 63 w' w.heap.size (fun k_ => (w.heap.size ≤ k_) ∧ some k_ ≠ (s_.2.1 : Value).ownBlock ∧ some k_ ≠ (s_.2.2.1 : Value).ownBlock ∧ k_ ≠ gb369) s_.2.2.2.2.1 t384) ∧ (w'.heap[gb368]? = some (.cells #[.slice A0_0 l0_0.length c0_0, .slice A0_1 l0_1.length c0_1] 31 (0, 0))) ∧ (w'.heap[gb369]? = some (.cells #[.int .i64 a1_0, .string a1_1, .slice A1_2 l1_2.length c1_2] 63 (0, 0))) ∧ (w'.heap[gb370]? = some (.cells #[.slice none 0 0, .slice none 0 0] 31 (0, 0))) ∧ (w'.heap[s_.2.2.2.2.2]? = some (.cells #[.slice none 0 0, .slice none 0 0] 31 (0, 0))) ∧ (w.heap.size ≤ s_.2.2.2.2.2) ∧ (w.heap.size ≤ s_.2.2.2.2.2) ∧ (gb368 ≠ s_.2.2.2.2.2) ∧ (s_.2.2.2.2.2 ≠ gb368) ∧ (gb369 ≠ s_.2.2.2.2.2) ∧ (s_.2.2.2.2.2 ≠ gb369) ∧ (gb370 ≠ s_.2.2.2.2.2) ∧ (s_.2.2.2.2.2 ≠ gb370) ∧ (Below w.heap.size w w')) ?_ ?_
  rotate_left
  ·intro hJ4_6_7_9_10
   refine join_ (σ := Value × Value × Value × Value × Value) 2 #[true, true, true, true, true, true, true, true, true, true, false, false] (fun s_ => [(15, s_.1), (17, s_.2.1), (18, s_.2.2.1), (20, .agg #[s_.2.2.2.1, s_.2.2.2.2]), (19, .agg #[.slice A0_0 l0_0.length c0_0, s_.2.2.1])]) (fun s_ w' => (w'.cell? ⟨gb368, 0, none⟩ = some (.slice A0_0 l0_0.length c0_0) ∧ w'.cell? ⟨gb368, 1, none⟩ = some (.slice A0_1 l0_1.length c0_1) ∧ w'.cell? ⟨gb369, 0, none⟩ = some (.int .i64 a1_0) ∧ w'.cell? ⟨gb369, 1, none⟩ = some (.string a1_1) ∧ w'.cell? ⟨gb369, 2, none⟩ = some (.slice A1_2 l1_2.length c1_2)) ∧ (Kd.V k63 63 w' w.heap.size (fun k_ => ((P0_1_ k_ ∨ P1_2_ k_) ∨ w.heap.size ≤ k_) ∧ some k_ ≠ (s_.2.1 : Value).ownBlock ∧ some k_ ≠ (s_.2.2.1 : Value).ownBlock ∧ some k_ ≠ (s_.2.2.2.1 : Value).ownBlock ∧ some k_ ≠ (s_.2.2.2.2 : Value).ownBlock ∧ k_ ≠ gb368 ∧ k_ ≠ gb369 ∧ k_ ≠ gb370) (.slice A0_1 l0_1.length c0_1) l0_1) ∧ (Kd.V k70 70 w' w.heap.size (fun k_ => ((P0_1_ k_ ∨ P1_2_ k_) ∨ w.heap.size ≤ k_) ∧ some k_ ≠ (s_.2.1 : Value).ownBlock ∧ some k_ ≠ (s_.2.2.1 : Value).ownBlock ∧ some k_ ≠ (s_.2.2.2.1 : Value).ownBlock ∧ some k_ ≠ (s_.2.2.2.2 : Value).ownBlock ∧ k_ ≠ gb368 ∧ k_ ≠ gb369 ∧ k_ ≠ gb370) (.slice A1_2 l1_2.length c1_2) l1_2) ∧ (Kd.N k63 63 w' w.heap.size (fun k_ => ((P0_1_ k_ ∨ P1_2_ k_) ∨ w.heap.size ≤ k_) ∧ some k_ ≠ (s_.2.2.1 : Value).ownBlock ∧ some k_ ≠ (s_.2.2.2.1 : Value).ownBlock ∧ some k_ ≠ (s_.2.2.2.2 : Value).ownBlock ∧ k_ ≠ gb368 ∧ k_ ≠ gb369 ∧ k_ ≠ gb370) s_.2.1 y375) ∧ (Kd.N k63 63 w' w.heap.size (fun k_ => ((P0_1_ k_ ∨ P1_2_ k_) ∨ w.heap.size ≤ k_) ∧ some k_ ≠ (s_.2.2.2.1 : Value).ownBlock ∧ some k_ ≠ (s_.2.2.2.2 : Value).ownBlock ∧ k_ ≠ gb368 ∧ k_ ≠ gb369 ∧ k_ ≠ gb370) s_.2.2.1 y378) ∧ (Kd.R k48 48 w' w.heap.size (fun k_ => (w.heap.size ≤ k_)) s_.2.2.2.1 t381) ∧ (Kd.S k63 63 w' w.heap.size (fun k_ => (w.heap.size ≤ k_) ∧ some k_ ≠ (s_.2.1 : Value).ownBlock ∧ some k_ ≠ (s_.2.2.1 : Value).ownBlock ∧ k_ ≠ gb369) s_.2.2.2.2 t384) ∧ (w'.heap[gb368]? = some (.cells #[.slice A0_0 l0_0.length c0_0, .slice A0_1 l0_1.length c0_1] 31 (0, 0))) ∧ (w'.heap[gb369]? = some (.cells #[.int .i64 a1_0, .string a1_1, .slice A1_2 l1_2.length c1_2] 63 (0, 0))) ∧ (w'.heap[gb370]? = some (.cells #[.slice none 0 0, .slice none 0 0] 31 (0, 0))) ∧ (Below w.heap.size w w')) ?_ ?_
   rotate_left
   ·intro hJ4_6_7_9
    refine join_ (σ := Value × Value × Value × Nat) 2 #[true, true, true, true, true, true, true, true, true, false, true, false] (fun s_ => [(15, s_.1), (17, s_.2.1), (18, s_.2.2.1), (6, .pointer (some ⟨s_.2.2.2, 0, none⟩)), (19, .agg #[.slice A0_0 l0_0.length c0_0, s_.2.2.1])]) (fun s_ w' => (w'.cell? ⟨gb368, 0, none⟩ = some (.slice A0_0 l0_0.length c0_0) ∧ w'.cell? ⟨gb368, 1, none⟩ = some (.slice A0_1 l0_1.length c0_1) ∧ w'.cell? ⟨gb369, 0, none⟩ = some (.int .i64 a1_0) ∧ w'.cell? ⟨gb369, 1, none⟩ = some (.string a1_1) ∧ w'.cell? ⟨gb369, 2, none⟩ = some (.slice A1_2 l1_2.length c1_2)) ∧ (Kd.V k63 63 w' w.heap.size (fun k_ => ((P0_1_ k_ ∨ P1_2_ k_) ∨ w.heap.size ≤ k_) ∧ some k_ ≠ (s_.2.1 : Value).ownBlock ∧ some k_ ≠ (s_.2.2.1 : Value).ownBlock ∧ k_ ≠ gb368 ∧ k_ ≠ gb369 ∧ k_ ≠ gb370 ∧ k_ ≠ s_.2.2.2) (.slice A0_1 l0_1.length c0_1) l0_1) ∧ (Kd.V k70 70 w' w.heap.size (fun k_ => ((P0_1_ k_ ∨ P1_2_ k_) ∨ w.heap.size ≤ k_) ∧ some k_ ≠ (s_.2.1 : Value).ownBlock ∧ some k_ ≠ (s_.2.2.1 : Value).ownBlock ∧ k_ ≠ gb368 ∧ k_ ≠ gb369 ∧ k_ ≠ gb370 ∧ k_ ≠ s_.2.2.2) (.slice A1_2 l1_2.length c1_2) l1_2) ∧ (Kd.N k63 63 w' w.heap.size (fun k_ => ((P0_1_ k_ ∨ P1_2_ k_) ∨ w.heap.size ≤ k_) ∧ some k_ ≠ (s_.2.2.1 : Value).ownBlock ∧ k_ ≠ gb368 ∧ k_ ≠ gb369 ∧ k_ ≠ gb370 ∧ k_ ≠ s_.2.2.2) s_.2.1 y375) ∧ (Kd.N k63 63 w' w.heap.size (fun k_ => ((P0_1_ k_ ∨ P1_2_ k_) ∨ w.heap.size ≤ k_) ∧ k_ ≠ gb368 ∧ k_ ≠ gb369 ∧ k_ ≠ gb370 ∧ k_ ≠ s_.2.2.2) s_.2.2.1 y378) ∧ (w'.heap[gb368]? = some (.cells #[.slice A0_0 l0_0.length c0_0, .slice A0_1 l0_1.length c0_1] 31 (0, 0))) ∧ (w'.heap[gb369]? = some (.cells #[.int .i64 a1_0, .string a1_1, .slice A1_2 l1_2.length c1_2] 63 (0, 0))) ∧ (w'.heap[gb370]? = some (.cells #[.slice none 0 0, .slice none 0 0] 31 (0, 0))) ∧ (w'.heap[s_.2.2.2]? = some (.cells #[.slice none 0 0, .slice none 0 0] 31 (0, 0))) ∧ (w.heap.size ≤ s_.2.2.2) ∧ (w.heap.size ≤ s_.2.2.2) ∧ (gb368 ≠ s_.2.2.2) ∧ (s_.2.2.2 ≠ gb368) ∧ (gb369 ≠ s_.2.2.2) ∧ (s_.2.2.2 ≠ gb369) ∧ (gb370 ≠ s_.2.2.2) ∧ (s_.2.2.2 ≠ gb370) ∧ (Below w.heap.size w w')) ?_ ?_
    rotate_left
    ·intro hJ4_6_7_10
     refine join_ (σ := Value × Value × Value) 3 #[true, true, true, true, true, true, true, true, true, false, false, false] (fun s_ => [(15, s_.1), (17, s_.2.1), (18, s_.2.2), (19, .agg #[.slice A0_0 l0_0.length c0_0, s_.2.2])]) (fun s_ w' => (w'.cell? ⟨gb368, 0, none⟩ = some (.slice A0_0 l0_0.length c0_0) ∧ w'.cell? ⟨gb368, 1, none⟩ = some (.slice A0_1 l0_1.length c0_1) ∧ w'.cell? ⟨gb369, 0, none⟩ = some (.int .i64 a1_0) ∧ w'.cell? ⟨gb369, 1, none⟩ = some (.string a1_1) ∧ w'.cell? ⟨gb369, 2, none⟩ = some (.slice A1_2 l1_2.length c1_2)) ∧ (Kd.V k63 63 w' w.heap.size (fun k_ => ((P0_1_ k_ ∨ P1_2_ k_) ∨ w.heap.size ≤ k_) ∧ some k_ ≠ (s_.2.1 : Value).ownBlock ∧ some k_ ≠ (s_.2.2 : Value).ownBlock ∧ k_ ≠ gb368 ∧ k_ ≠ gb369 ∧ k_ ≠ gb370) (.slice A0_1 l0_1.length c0_1) l0_1) ∧ (Kd.V k70 70 w' w.heap.size (fun k_ => ((P0_1_ k_ ∨ P1_2_ k_) ∨ w.heap.size ≤ k_) ∧ some k_ ≠ (s_.2.1 : Value).ownBlock ∧ some k_ ≠ (s_.2.2 : Value).ownBlock ∧ k_ ≠ gb368 ∧ k_ ≠ gb369 ∧ k_ ≠ gb370) (.slice A1_2 l1_2.length c1_2) l1_2) ∧ (Kd.N k63 63 w' w.heap.size (fun k_ => ((P0_1_ k_ ∨ P1_2_ k_) ∨ w.heap.size ≤ k_) ∧ some k_ ≠ (s_.2.2 : Value).ownBlock ∧ k_ ≠ gb368 ∧ k_ ≠ gb369 ∧ k_ ≠ gb370) s_.2.1 y375) ∧ (Kd.N k63 63 w' w.heap.size (fun k_ => ((P0_1_ k_ ∨ P1_2_ k_) ∨ w.heap.size ≤ k_) ∧ k_ ≠ gb368 ∧ k_ ≠ gb369 ∧ k_ ≠ gb370) s_.2.2 y378) ∧ (w'.heap[gb368]? = some (.cells #[.slice A0_0 l0_0.length c0_0, .slice A0_1 l0_1.length c0_1] 31 (0, 0))) ∧ (w'.heap[gb369]? = some (.cells #[.int .i64 a1_0, .string a1_1, .slice A1_2 l1_2.length c1_2] 63 (0, 0))) ∧ (w'.heap[gb370]? = some (.cells #[.slice none 0 0, .slice none 0 0] 31 (0, 0))) ∧ (Below w.heap.size w w')) ?_ ?_
     rotate_left
     ·intro hJ4_6_7
      refine join_ (σ := Value × Value × Nat) 4 #[true, true, true, true, true, true, true, false, false, false, true, false] (fun s_ => [(15, s_.1), (17, s_.2.1), (6, .pointer (some ⟨s_.2.2, 0, none⟩))]) (fun s_ w' => (w'.cell? ⟨gb368, 0, none⟩ = some (.slice A0_0 l0_0.length c0_0) ∧ w'.cell? ⟨gb368, 1, none⟩ = some (.slice A0_1 l0_1.length c0_1) ∧ w'.cell? ⟨gb369, 0, none⟩ = some (.int .i64 a1_0) ∧ w'.cell? ⟨gb369, 1, none⟩ = some (.string a1_1) ∧ w'.cell? ⟨gb369, 2, none⟩ = some (.slice A1_2 l1_2.length c1_2)) ∧ (Kd.V k63 63 w' w.heap.size (fun k_ => ((P0_1_ k_ ∨ P1_2_ k_) ∨ w.heap.size ≤ k_) ∧ some k_ ≠ (s_.1 : Value).ownBlock ∧ some k_ ≠ (s_.2.1 : Value).ownBlock ∧ k_ ≠ gb368 ∧ k_ ≠ gb369 ∧ k_ ≠ gb370 ∧ k_ ≠ s_.2.2) (.slice A0_1 l0_1.length c0_1) l0_1) ∧ (Kd.V k70 70 w' w.heap.size (fun k_ => ((P0_1_ k_ ∨ P1_2_ k_) ∨ w.heap.size ≤ k_) ∧ some k_ ≠ (s_.1 : Value).ownBlock ∧ some k_ ≠ (s_.2.1 : Value).ownBlock ∧ k_ ≠ gb368 ∧ k_ ≠ gb369 ∧ k_ ≠ gb370 ∧ k_ ≠ s_.2.2) (.slice A1_2 l1_2.length c1_2) l1_2) ∧ (Kd.N k63 63 w' w.heap.size (fun k_ => ((P0_1_ k_ ∨ P1_2_ k_) ∨ w.heap.size ≤ k_) ∧ some k_ ≠ (s_.2.1 : Value).ownBlock ∧ k_ ≠ gb368 ∧ k_ ≠ gb369 ∧ k_ ≠ gb370 ∧ k_ ≠ s_.2.2) s_.1 t372) ∧ (Kd.N k63 63 w' w.heap.size (fun k_ => ((P0_1_ k_ ∨ P1_2_ k_) ∨ w.heap.size ≤ k_) ∧ some k_ ≠ (s_.1 : Value).ownBlock ∧ k_ ≠ gb368 ∧ k_ ≠ gb369 ∧ k_ ≠ gb370 ∧ k_ ≠ s_.2.2) s_.2.1 y375) ∧ (w'.heap[gb368]? = some (.cells #[.slice A0_0 l0_0.length c0_0, .slice A0_1 l0_1.length c0_1] 31 (0, 0))) ∧ (w'.heap[gb369]? = some (.cells #[.int .i64 a1_0, .string a1_1, .slice A1_2 l1_2.length c1_2] 63 (0, 0))) ∧ (w'.heap[gb370]? = some (.cells #[.slice none 0 0, .slice none 0 0] 31 (0, 0))) ∧ (w'.heap[s_.2.2]? = some (.cells #[.slice none 0 0, .slice none 0 0] 31 (0, 0))) ∧ (w.heap.size ≤ s_.2.2) ∧ (w.heap.size ≤ s_.2.2) ∧ (gb368 ≠ s_.2.2) ∧ (s_.2.2 ≠ gb368) ∧ (gb369 ≠ s_.2.2) ∧ (s_.2.2 ≠ gb369) ∧ (gb370 ≠ s_.2.2) ∧ (s_.2.2 ≠ gb370) ∧ (Below w.heap.size w w')) ?_ ?_
      rotate_left
      ·intro hJ4_6_10
       refine join_ (σ := Value × Value) 5 #[true, true, true, true, true, true, true, false, false, false, false, false] (fun s_ => [(15, s_.1), (17, s_.2)]) (fun s_ w' => (w'.cell? ⟨gb368, 0, none⟩ = some (.slice A0_0 l0_0.length c0_0) ∧ w'.cell? ⟨gb368, 1, none⟩ = some (.slice A0_1 l0_1.length c0_1) ∧ w'.cell? ⟨gb369, 0, none⟩ = some (.int .i64 a1_0) ∧ w'.cell? ⟨gb369, 1, none⟩ = some (.string a1_1) ∧ w'.cell? ⟨gb369, 2, none⟩ = some (.slice A1_2 l1_2.length c1_2)) ∧ (Kd.V k63 63 w' w.heap.size (fun k_ => ((P0_1_ k_ ∨ P1_2_ k_) ∨ w.heap.size ≤ k_) ∧ some k_ ≠ (s_.1 : Value).ownBlock ∧ some k_ ≠ (s_.2 : Value).ownBlock ∧ k_ ≠ gb368 ∧ k_ ≠ gb369 ∧ k_ ≠ gb370) (.slice A0_1 l0_1.length c0_1) l0_1) ∧ (Kd.V k70 70 w' w.heap.size (fun k_ => ((P0_1_ k_ ∨ P1_2_ k_) ∨ w.heap.size ≤ k_) ∧ some k_ ≠ (s_.1 : Value).ownBlock ∧ some k_ ≠ (s_.2 : Value).ownBlock ∧ k_ ≠ gb368 ∧ k_ ≠ gb369 ∧ k_ ≠ gb370) (.slice A1_2 l1_2.length c1_2) l1_2) ∧ (Kd.N k63 63 w' w.heap.size (fun k_ => ((P0_1_ k_ ∨ P1_2_ k_) ∨ w.heap.size ≤ k_) ∧ some k_ ≠ (s_.2 : Value).ownBlock ∧ k_ ≠ gb368 ∧ k_ ≠ gb369 ∧ k_ ≠ gb370) s_.1 t372) ∧ (Kd.N k63 63 w' w.heap.size (fun k_ => ((P0_1_ k_ ∨ P1_2_ k_) ∨ w.heap.size ≤ k_) ∧ some k_ ≠ (s_.1 : Value).ownBlock ∧ k_ ≠ gb368 ∧ k_ ≠ gb369 ∧ k_ ≠ gb370) s_.2 y375) ∧ (w'.heap[gb368]? = some (.cells #[.slice A0_0 l0_0.length c0_0, .slice A0_1 l0_1.length c0_1] 31 (0, 0))) ∧ (w'.heap[gb369]? = some (.cells #[.int .i64 a1_0, .string a1_1, .slice A1_2 l1_2.length c1_2] 63 (0, 0))) ∧ (w'.heap[gb370]? = some (.cells #[.slice none 0 0, .slice none 0 0] 31 (0, 0))) ∧ (Below w.heap.size w w')) ?_ ?_
       rotate_left
       ·intro hJ4_6
        refine join_ (σ := Value × Nat) 5 #[true, true, true, true, true, true, false, false, false, false, true, false] (fun s_ => [(15, s_.1), (6, .pointer (some ⟨s_.2, 0, none⟩))]) (fun s_ w' => (w'.cell? ⟨gb368, 0, none⟩ = some (.slice A0_0 l0_0.length c0_0) ∧ w'.cell? ⟨gb368, 1, none⟩ = some (.slice A0_1 l0_1.length c0_1) ∧ w'.cell? ⟨gb369, 0, none⟩ = some (.int .i64 a1_0) ∧ w'.cell? ⟨gb369, 1, none⟩ = some (.string a1_1) ∧ w'.cell? ⟨gb369, 2, none⟩ = some (.slice A1_2 l1_2.length c1_2)) ∧ (Kd.V k63 63 w' w.heap.size (fun k_ => ((P0_1_ k_ ∨ P1_2_ k_) ∨ w.heap.size ≤ k_) ∧ some k_ ≠ (s_.1 : Value).ownBlock ∧ k_ ≠ gb368 ∧ k_ ≠ gb369 ∧ k_ ≠ gb370 ∧ k_ ≠ s_.2) (.slice A0_1 l0_1.length c0_1) l0_1) ∧ (Kd.V k70 70 w' w.heap.size (fun k_ => ((P0_1_ k_ ∨ P1_2_ k_) ∨ w.heap.size ≤ k_) ∧ some k_ ≠ (s_.1 : Value).ownBlock ∧ k_ ≠ gb368 ∧ k_ ≠ gb369 ∧ k_ ≠ gb370 ∧ k_ ≠ s_.2) (.slice A1_2 l1_2.length c1_2) l1_2) ∧ (Kd.N k63 63 w' w.heap.size (fun k_ => ((P0_1_ k_ ∨ P1_2_ k_) ∨ w.heap.size ≤ k_) ∧ k_ ≠ gb368 ∧ k_ ≠ gb369 ∧ k_ ≠ gb370 ∧ k_ ≠ s_.2) s_.1 t372) ∧ (w'.heap[gb368]? = some (.cells #[.slice A0_0 l0_0.length c0_0, .slice A0_1 l0_1.length c0_1] 31 (0, 0))) ∧ (w'.heap[gb369]? = some (.cells #[.int .i64 a1_0, .string a1_1, .slice A1_2 l1_2.length c1_2] 63 (0, 0))) ∧ (w'.heap[gb370]? = some (.cells #[.slice none 0 0, .slice none 0 0] 31 (0, 0))) ∧ (w'.heap[s_.2]? = some (.cells #[.slice none 0 0, .slice none 0 0] 31 (0, 0))) ∧ (w.heap.size ≤ s_.2) ∧ (w.heap.size ≤ s_.2) ∧ (gb368 ≠ s_.2) ∧ (s_.2 ≠ gb368) ∧ (gb369 ≠ s_.2) ∧ (s_.2 ≠ gb369) ∧ (gb370 ≠ s_.2) ∧ (s_.2 ≠ gb370) ∧ (Below w.heap.size w w')) ?_ ?_
        rotate_left
        ·intro hJ4_10
         refine join_ (σ := Value × Nat) 5 #[true, true, true, true, false, true, true, false, false, false, true, false] (fun s_ => [(17, s_.1), (6, .pointer (some ⟨s_.2, 0, none⟩))]) (fun s_ w' => (w'.cell? ⟨gb368, 0, none⟩ = some (.slice A0_0 l0_0.length c0_0) ∧ w'.cell? ⟨gb368, 1, none⟩ = some (.slice A0_1 l0_1.length c0_1) ∧ w'.cell? ⟨gb369, 0, none⟩ = some (.int .i64 a1_0) ∧ w'.cell? ⟨gb369, 1, none⟩ = some (.string a1_1) ∧ w'.cell? ⟨gb369, 2, none⟩ = some (.slice A1_2 l1_2.length c1_2)) ∧ (Kd.V k63 63 w' w.heap.size (fun k_ => ((P0_1_ k_ ∨ P1_2_ k_) ∨ w.heap.size ≤ k_) ∧ some k_ ≠ (s_.1 : Value).ownBlock ∧ k_ ≠ gb368 ∧ k_ ≠ gb369 ∧ k_ ≠ gb370 ∧ k_ ≠ s_.2) (.slice A0_1 l0_1.length c0_1) l0_1) ∧ (Kd.V k70 70 w' w.heap.size (fun k_ => ((P0_1_ k_ ∨ P1_2_ k_) ∨ w.heap.size ≤ k_) ∧ some k_ ≠ (s_.1 : Value).ownBlock ∧ k_ ≠ gb368 ∧ k_ ≠ gb369 ∧ k_ ≠ gb370 ∧ k_ ≠ s_.2) (.slice A1_2 l1_2.length c1_2) l1_2) ∧ (Kd.N k63 63 w' w.heap.size (fun k_ => ((P0_1_ k_ ∨ P1_2_ k_) ∨ w.heap.size ≤ k_) ∧ k_ ≠ gb368 ∧ k_ ≠ gb369 ∧ k_ ≠ gb370 ∧ k_ ≠ s_.2) s_.1 y375) ∧ (w'.heap[gb368]? = some (.cells #[.slice A0_0 l0_0.length c0_0, .slice A0_1 l0_1.length c0_1] 31 (0, 0))) ∧ (w'.heap[gb369]? = some (.cells #[.int .i64 a1_0, .string a1_1, .slice A1_2 l1_2.length c1_2] 63 (0, 0))) ∧ (w'.heap[gb370]? = some (.cells #[.slice none 0 0, .slice none 0 0] 31 (0, 0))) ∧ (w'.heap[s_.2]? = some (.cells #[.slice none 0 0, .slice none 0 0] 31 (0, 0))) ∧ (w.heap.size ≤ s_.2) ∧ (w.heap.size ≤ s_.2) ∧ (gb368 ≠ s_.2) ∧ (s_.2 ≠ gb368) ∧ (gb369 ≠ s_.2) ∧ (s_.2 ≠ gb369) ∧ (gb370 ≠ s_.2) ∧ (s_.2 ≠ gb370) ∧ (Below w.heap.size w w')) ?_ ?_
         rotate_left
         ·intro hJ6_10
          refine join_ (σ := Value) 6 #[true, true, true, true, true, true, false, false, false, false, false, false] (fun s_ => [(15, s_)]) (fun s_ w' => (w'.cell? ⟨gb368, 0, none⟩ = some (.slice A0_0 l0_0.length c0_0) ∧ w'.cell? ⟨gb368, 1, none⟩ = some (.slice A0_1 l0_1.length c0_1) ∧ w'.cell? ⟨gb369, 0, none⟩ = some (.int .i64 a1_0) ∧ w'.cell? ⟨gb369, 1, none⟩ = some (.string a1_1) ∧ w'.cell? ⟨gb369, 2, none⟩ = some (.slice A1_2 l1_2.length c1_2)) ∧ (Kd.V k63 63 w' w.heap.size (fun k_ => ((P0_1_ k_ ∨ P1_2_ k_) ∨ w.heap.size ≤ k_) ∧ some k_ ≠ (s_ : Value).ownBlock ∧ k_ ≠ gb368 ∧ k_ ≠ gb369 ∧ k_ ≠ gb370) (.slice A0_1 l0_1.length c0_1) l0_1) ∧ (Kd.V k70 70 w' w.heap.size (fun k_ => ((P0_1_ k_ ∨ P1_2_ k_) ∨ w.heap.size ≤ k_) ∧ some k_ ≠ (s_ : Value).ownBlock ∧ k_ ≠ gb368 ∧ k_ ≠ gb369 ∧ k_ ≠ gb370) (.slice A1_2 l1_2.length c1_2) l1_2) ∧ (Kd.N k63 63 w' w.heap.size (fun k_ => ((P0_1_ k_ ∨ P1_2_ k_) ∨ w.heap.size ≤ k_) ∧ k_ ≠ gb368 ∧ k_ ≠ gb369 ∧ k_ ≠ gb370) s_ t372) ∧ (w'.heap[gb368]? = some (.cells #[.slice A0_0 l0_0.length c0_0, .slice A0_1 l0_1.length c0_1] 31 (0, 0))) ∧ (w'.heap[gb369]? = some (.cells #[.int .i64 a1_0, .string a1_1, .slice A1_2 l1_2.length c1_2] 63 (0, 0))) ∧ (w'.heap[gb370]? = some (.cells #[.slice none 0 0, .slice none 0 0] 31 (0, 0))) ∧ (Below w.heap.size w w')) ?_ ?_
          rotate_left
          ·intro hJ4
           refine join_ (σ := Value) 6 #[true, true, true, true, false, true, true, false, false, false, false, false] (fun s_ => [(17, s_)]) (fun s_ w' => (w'.cell? ⟨gb368, 0, none⟩ = some (.slice A0_0 l0_0.length c0_0) ∧ w'.cell? ⟨gb368, 1, none⟩ = some (.slice A0_1 l0_1.length c0_1) ∧ w'.cell? ⟨gb369, 0, none⟩ = some (.int .i64 a1_0) ∧ w'.cell? ⟨gb369, 1, none⟩ = some (.string a1_1) ∧ w'.cell? ⟨gb369, 2, none⟩ = some (.slice A1_2 l1_2.length c1_2)) ∧ (Kd.V k63 63 w' w.heap.size (fun k_ => ((P0_1_ k_ ∨ P1_2_ k_) ∨ w.heap.size ≤ k_) ∧ some k_ ≠ (s_ : Value).ownBlock ∧ k_ ≠ gb368 ∧ k_ ≠ gb369 ∧ k_ ≠ gb370) (.slice A0_1 l0_1.length c0_1) l0_1) ∧ (Kd.V k70 70 w' w.heap.size (fun k_ => ((P0_1_ k_ ∨ P1_2_ k_) ∨ w.heap.size ≤ k_) ∧ some k_ ≠ (s_ : Value).ownBlock ∧ k_ ≠ gb368 ∧ k_ ≠ gb369 ∧ k_ ≠ gb370) (.slice A1_2 l1_2.length c1_2) l1_2) ∧ (Kd.N k63 63 w' w.heap.size (fun k_ => ((P0_1_ k_ ∨ P1_2_ k_) ∨ w.heap.size ≤ k_) ∧ k_ ≠ gb368 ∧ k_ ≠ gb369 ∧ k_ ≠ gb370) s_ y375) ∧ (w'.heap[gb368]? = some (.cells #[.slice A0_0 l0_0.length c0_0, .slice A0_1 l0_1.length c0_1] 31 (0, 0))) ∧ (w'.heap[gb369]? = some (.cells #[.int .i64 a1_0, .string a1_1, .slice A1_2 l1_2.length c1_2] 63 (0, 0))) ∧ (w'.heap[gb370]? = some (.cells #[.slice none 0 0, .slice none 0 0] 31 (0, 0))) ∧ (Below w.heap.size w w')) ?_ ?_
           rotate_left
           ·intro hJ6
            refine join_ (σ := Nat) 6 #[true, true, true, true, false, true, false, false, false, false, true, false] (fun s_ => [(6, .pointer (some ⟨s_, 0, none⟩))]) (fun s_ w' => (w'.cell? ⟨gb368, 0, none⟩ = some (.slice A0_0 l0_0.length c0_0) ∧ w'.cell? ⟨gb368, 1, none⟩ = some (.slice A0_1 l0_1.length c0_1) ∧ w'.cell? ⟨gb369, 0, none⟩ = some (.int .i64 a1_0) ∧ w'.cell? ⟨gb369, 1, none⟩ = some (.string a1_1) ∧ w'.cell? ⟨gb369, 2, none⟩ = some (.slice A1_2 l1_2.length c1_2)) ∧ (Kd.V k63 63 w' w.heap.size (fun k_ => ((P0_1_ k_ ∨ P1_2_ k_) ∨ w.heap.size ≤ k_) ∧ k_ ≠ gb368 ∧ k_ ≠ gb369 ∧ k_ ≠ gb370 ∧ k_ ≠ s_) (.slice A0_1 l0_1.length c0_1) l0_1) ∧ (Kd.V k70 70 w' w.heap.size (fun k_ => ((P0_1_ k_ ∨ P1_2_ k_) ∨ w.heap.size ≤ k_) ∧ k_ ≠ gb368 ∧ k_ ≠ gb369 ∧ k_ ≠ gb370 ∧ k_ ≠ s_) (.slice A1_2 l1_2.length c1_2) l1_2) ∧ (w'.heap[gb368]? = some (.cells #[.slice A0_0 l0_0.length c0_0, .slice A0_1 l0_1.length c0_1] 31 (0, 0))) ∧ (w'.heap[gb369]? = some (.cells #[.int .i64 a1_0, .string a1_1, .slice A1_2 l1_2.length c1_2] 63 (0, 0))) ∧ (w'.heap[gb370]? = some (.cells #[.slice none 0 0, .slice none 0 0] 31 (0, 0))) ∧ (w'.heap[s_]? = some (.cells #[.slice none 0 0, .slice none 0 0] 31 (0, 0))) ∧ (w.heap.size ≤ s_) ∧ (w.heap.size ≤ s_) ∧ (gb368 ≠ s_) ∧ (s_ ≠ gb368) ∧ (gb369 ≠ s_) ∧ (s_ ≠ gb369) ∧ (gb370 ≠ s_) ∧ (s_ ≠ gb370) ∧ (Below w.heap.size w w')) ?_ ?_
            rotate_left
            ·intro hJ10
             refine three_ (i := 4) (j := 6) (k := 10) (Ni := some 15) (Nj := some 17) (Nk := some 6) #[true, true, true, true, true, true, false, false, false, false, false, false] #[true, true, true, true, false, true, true, false, false, false, false, false] #[true, true, true, true, false, true, false, false, false, false, true, false] rfl rfl rfl rfl rfl rfl (three_of HT_.out (by kernel_rfl)) (by decide) (by decide) (by decide) (fun K hK => ?_) (fun K hK => ?_) (fun K hK => ?_)
             ·skip
              refine goes_ Tryd.func84 (by kernel_rfl) rfl #[.slice A0_1 l0_1.length c0_1] (by rfl) rfl rfl ZZ19826e ?_
              with_reducible refine (impl_BookEntry.calls (fun k_ => (((((P0_1_ k_ ∨ P1_2_ k_) ∨ w.heap.size ≤ k_) ∧ k_ ≠ gb368) ∧ k_ ≠ gb369) ∧ k_ ≠ gb370)) _ _ l0_1 t372 _ ?side1 A5.out).mono ?_
              (case side1 => exact HO0_1.out)
              rintro e w18 ⟨v373, rfl, ho0, hb⟩
              refine ⟨_, rfl, ?_⟩
              replace HO0_1 := Aside0.mk (Kd.V_elder' ZZ1186ef (Kd.N_base ho0) hb)
              replace HO1_2 := Aside0.mk (Kd.V_elder' ZZ6ff8a7 (Kd.N_base ho0) hb)
              have HO374 := Aside0.mk (Kd.N_lower (Kd.N_mono (ok' := fun k_ => ((P0_1_ k_ ∨ P1_2_ k_) ∨ w.heap.size ≤ k_) ∧ k_ ≠ gb368 ∧ k_ ≠ gb369 ∧ k_ ≠ gb370) ho0 (fun k_ hk_ => ⟨Or.elim hk_ (fun hs_ => hs_.1.1.1) (fun hn_ => (.inr (Nat.le_trans (below_size ZZ295621) hn_))), Or.elim hk_ (fun hs_ => hs_.1.1.2) (fun hn_ => (Kd.freshB (zB BK368) k_ hn_)), Or.elim hk_ (fun hs_ => hs_.1.2) (fun hn_ => (Kd.freshB (zB BK369) k_ hn_)), Or.elim hk_ (fun hs_ => hs_.2) (fun hn_ => (Kd.freshB (zB BK370) k_ hn_))⟩)) (below_size ZZ295621))
              replace BK368 := kb BK368 hb
              replace BK369 := kb BK369 hb
              replace BK370 := kb BK370 hb
              replace HB := hB hb
              (try clear hb)
              (try clear hb2)
              (try clear hk)
              (try clear hi)
              (try clear ho0)
              refine hK.out _ _ zK (fun hHeld => ?_)
              clear hK K
              refine nd (some 15) ?_
              exact norm_ ZZ014134 (hJ4 (v373) _ ⟨hHeld, ZZ4a4b0f, ZZ0f2d0b, ZZaabc9d, (zB BK368), (zB BK369), (zB BK370), ZZ295621⟩)
             ·skip
              refine Kd.N_lit_step k63 _ 63 ?hg (N' := 17) ?hd (xs := ([(⟨a1_0, a1_1, l1_2⟩ : S63)] : List (S63))) (inner := [.int .i64 a1_0, .string a1_1, .slice A1_2 l1_2.length c1_2]) (ok := (fun k_ => ((P0_1_ k_ ∨ P1_2_ k_) ∨ w.heap.size ≤ k_) ∧ k_ ≠ gb368 ∧ k_ ≠ gb369 ∧ k_ ≠ gb370)) (okp := (fun k_ => ((P0_1_ k_ ∨ P1_2_ k_) ∨ w.heap.size ≤ k_) ∧ k_ ≠ gb368 ∧ k_ ≠ gb369 ∧ k_ ≠ gb370)) ?hr ?hp (fun _ hk => hk) ((show ∀ k_, w17.heap.size ≤ k_ → (fun k_ => ((P0_1_ k_ ∨ P1_2_ k_) ∨ w.heap.size ≤ k_) ∧ k_ ≠ gb368 ∧ k_ ≠ gb369 ∧ k_ ≠ gb370) k_ from fun k_ hk => ⟨(.inr (Nat.le_trans (below_size ZZ295621) hk)), Kd.freshB (zB BK368) k_ hk, Kd.freshB (zB BK369) k_ hk, Kd.freshB (zB BK370) k_ hk⟩) _ (Nat.le_refl _)) (Below.refl _ _) (Nat.le_refl _) (by simp) ?_; (case hd => rfl); (case hg => rfl); (case hr => first | (go_simp; done) | (go_simp; rfl)); (case hp => exact (Reps.c3 (show Kd.FK k63 _ _ (⟨a1_0, a1_1, l1_2⟩ : S63) [.int .i64 a1_0, .string a1_1, .slice A1_2 l1_2.length c1_2] from (k63_mkF _ _ (⟨a1_0, a1_1, l1_2⟩ : S63) (Kd.V_reads' (Kd.V_mono (ok' := (fun k_ => ((P0_1_ k_ ∨ P1_2_ k_) ∨ w.heap.size ≤ k_) ∧ k_ ≠ gb368 ∧ k_ ≠ gb369 ∧ k_ ≠ gb370)) (HO1_2.out) (fun k_ hk => ⟨hk.1.1.1, ⟨hk.1.1.2, ⟨hk.1.2, hk.2⟩⟩⟩))).2.1 (Kd.V_F (Kd.V_mono (ok' := (fun k_ => ((P0_1_ k_ ∨ P1_2_ k_) ∨ w.heap.size ≤ k_) ∧ k_ ≠ gb368 ∧ k_ ≠ gb369 ∧ k_ ≠ gb370)) (HO1_2.out) (fun k_ hk => ⟨hk.1.1.1, ⟨hk.1.1.2, ⟨hk.1.2, hk.2⟩⟩⟩))))) (Reps.none _ _)))
              intro v376 w18 ho19 hb hg_ hnew_
              clear hg_ hnew_
              (first | rw [← Ny375.out] at ho19 | (simp only [Int.reduceToNat] at ho19; rw [← Ny375.out] at ho19))
              replace HO0_1 := Aside0.mk (Kd.V_elder' ZZ1186ef (Kd.N_base ho19) hb)
              replace HO1_2 := Aside0.mk (Kd.V_elder' ZZ6ff8a7 (Kd.N_base ho19) hb)
              have HO377 := Aside0.mk (Kd.N_lower ho19 (below_size ZZ295621))
              replace BK368 := kb BK368 hb
              replace BK369 := kb BK369 hb
              replace BK370 := kb BK370 hb
              replace HB := hB hb
              clear hb ho19
              refine hK.out _ _ zK (fun hHeld => ?_)
              clear hK K
              refine nd (some 17) ?_
              exact norm_ ZZ014134 (hJ6 (v376) _ ⟨hHeld, ZZ4a4b0f, ZZ0f2d0b, ZZcaddb5, (zB BK368), (zB BK369), (zB BK370), ZZ295621⟩)
             skip
             refine box_step ?hg (N := 6) ?hd (cs := #[.slice none 0 0, .slice none 0 0]) (t := 31) ?hr ?_; (case hd => rfl); (case hg => rfl); (case hr => first | (go_simp; done) | (go_simp; rfl))
             intro gb387 hg w18 hbox hb
             replace HO0_1 := Aside0.mk (Kd.V_below (Kd.V_elderB ZZ1186ef gb387 (Nat.le_of_eq hg.symm)) hb)
             replace HO1_2 := Aside0.mk (Kd.V_below (Kd.V_elderB ZZ6ff8a7 gb387 (Nat.le_of_eq hg.symm)) hb)
             have BK387 := Aside0.mk (hbox)
             have GW387 := gw hg
             have GE387 := gw hg
             replace HB := hB hb
             have NB368_387 := nl hg BK368
             have NB387_368 := ng hg BK368
             replace BK368 := kb BK368 hb
             have NB369_387 := nl hg BK369
             have NB387_369 := ng hg BK369
             replace BK369 := kb BK369 hb
             have NB370_387 := nl hg BK370
             have NB387_370 := ng hg BK370
             replace BK370 := kb BK370 hb
             clear hb hbox hg
             refine hK.out _ _ zK (fun hHeld => ?_)
             clear hK K
             refine nd (some 6) ?_
             exact norm_ ZZ014134 (hJ10 (gb387) _ ⟨hHeld, (by refine bV ?_; exact Kd.V_mono HO0_1.out (fun _ hk => ⟨hk.1.1.1.1, ⟨hk.1.1.1.2, ⟨hk.1.1.2, ⟨hk.1.2, hk.2⟩⟩⟩⟩)), (by refine bV ?_; exact Kd.V_mono HO1_2.out (fun _ hk => ⟨hk.1.1.1.1, ⟨hk.1.1.1.2, ⟨hk.1.1.2, ⟨hk.1.2, hk.2⟩⟩⟩⟩)), (zB BK368), (zB BK369), (zB BK370), (zB BK387), GW387.out, GE387.out, NB368_387.out, NB387_368.out, NB369_387.out, NB387_369.out, NB370_387.out, NB387_370.out, ZZ295621⟩)
            skip
            rintro gb387 w19 ⟨hS_, h0_, h1_, h2_, h3_, h4_, h5_, h6_, h7_, h8_, h9_, h10_, h11_, h12_, h13_, h14_⟩
            have n0_ : Aside0 (Kd.V k63 63 w19 w.heap.size (fun k_ => ((P0_1_ k_ ∨ P1_2_ k_) ∨ w.heap.size ≤ k_) ∧ k_ ≠ gb368 ∧ k_ ≠ gb369 ∧ k_ ≠ gb370 ∧ k_ ≠ gb387) (.slice A0_1 l0_1.length c0_1) l0_1) := ⟨h0_⟩
            have n1_ : Aside0 (Kd.V k70 70 w19 w.heap.size (fun k_ => ((P0_1_ k_ ∨ P1_2_ k_) ∨ w.heap.size ≤ k_) ∧ k_ ≠ gb368 ∧ k_ ≠ gb369 ∧ k_ ≠ gb370 ∧ k_ ≠ gb387) (.slice A1_2 l1_2.length c1_2) l1_2) := ⟨h1_⟩
            have n2_ : Aside0 (w19.heap[gb368]? = some (.cells #[.slice A0_0 l0_0.length c0_0, .slice A0_1 l0_1.length c0_1] 31 (0, 0))) := ⟨h2_⟩
            have n3_ : Aside0 (w19.heap[gb369]? = some (.cells #[.int .i64 a1_0, .string a1_1, .slice A1_2 l1_2.length c1_2] 63 (0, 0))) := ⟨h3_⟩
            have n4_ : Aside0 (w19.heap[gb370]? = some (.cells #[.slice none 0 0, .slice none 0 0] 31 (0, 0))) := ⟨h4_⟩
            have n5_ : Aside0 (w19.heap[gb387]? = some (.cells #[.slice none 0 0, .slice none 0 0] 31 (0, 0))) := ⟨h5_⟩
            have n6_ : Aside0 (w.heap.size ≤ gb387) := ⟨h6_⟩
            have n7_ : Aside0 (w.heap.size ≤ gb387) := ⟨h7_⟩
            have n8_ : Aside0 (gb368 ≠ gb387) := ⟨h8_⟩
            have n9_ : Aside0 (gb387 ≠ gb368) := ⟨h9_⟩
            have n10_ : Aside0 (gb369 ≠ gb387) := ⟨h10_⟩
            have n11_ : Aside0 (gb387 ≠ gb369) := ⟨h11_⟩
            have n12_ : Aside0 (gb370 ≠ gb387) := ⟨h12_⟩
            have n13_ : Aside0 (gb387 ≠ gb370) := ⟨h13_⟩
            have n14_ : Aside0 (Below w.heap.size w w19) := ⟨h14_⟩
            clear HO0_1
            clear HO1_2
            clear BK368
            clear BK369
            clear BK370
            clear HB
            clear h0_ h1_ h2_ h3_ h4_ h5_ h6_ h7_ h8_ h9_ h10_ h11_ h12_ h13_ h14_
            have HO0_1 := n0_
            have HO1_2 := n1_
            have BK368 := n2_
            have BK369 := n3_
            have BK370 := n4_
            have BK387 := n5_
            have GW387 := n6_
            have GE387 := n7_
            have NB368_387 := n8_
            have NB387_368 := n9_
            have NB369_387 := n10_
            have NB387_369 := n11_
            have NB370_387 := n12_
            have NB387_370 := n13_
            have HB := n14_
            clear n0_ n1_ n2_ n3_ n4_ n5_ n6_ n7_ n8_ n9_ n10_ n11_ n12_ n13_ n14_
            have hHeld : w19.cell? ⟨gb368, 0, none⟩ = some (.slice A0_0 l0_0.length c0_0) ∧ w19.cell? ⟨gb368, 1, none⟩ = some (.slice A0_1 l0_1.length c0_1) ∧ w19.cell? ⟨gb369, 0, none⟩ = some (.int .i64 a1_0) ∧ w19.cell? ⟨gb369, 1, none⟩ = some (.string a1_1) ∧ w19.cell? ⟨gb369, 2, none⟩ = some (.slice A1_2 l1_2.length c1_2) := hS_
            refine norm_ (a' := ?_) ?_ ?_
            rotate_left
            ·simp only [putAll, Act.put, List.setIfInBounds_toArray, List.set_cons_zero, List.set_cons_succ]
             rfl
            refine two_ (i := 4) (j := 6) (Ni := some 15) (Nj := some 17) #[true, true, true, true, true, true, false, false, false, false, true, false] #[true, true, true, true, false, true, true, false, false, false, true, false] rfl rfl rfl rfl (two_of HT_.out (by kernel_rfl)) (by decide) (by decide) (fun K hK => ?_) (fun K hK => ?_)
            ·skip
             refine goes_ Tryd.func84 (by kernel_rfl) rfl #[.slice A0_1 l0_1.length c0_1] (by rfl) rfl rfl ZZ19826e ?_
             with_reducible refine (impl_BookEntry.calls (fun k_ => (((P0_1_ k_ ∨ P1_2_ k_) ∨ w.heap.size ≤ k_) ∧ (k_ ≠ gb368 ∧ (k_ ≠ gb369 ∧ (k_ ≠ gb370 ∧ k_ ≠ gb387))))) _ _ l0_1 t372 _ ?side1 A5.out).mono ?_
             (case side1 => exact HO0_1.out)
             rintro e w20 ⟨v373, rfl, ho0, hb⟩
             refine ⟨_, rfl, ?_⟩
             replace HO0_1 := Aside0.mk (Kd.V_elder' ZZ1186ef (Kd.N_base ho0) hb)
             replace HO1_2 := Aside0.mk (Kd.V_elder' ZZ6ff8a7 (Kd.N_base ho0) hb)
             have HO374 := Aside0.mk (Kd.N_lower (Kd.N_mono (ok' := fun k_ => ((P0_1_ k_ ∨ P1_2_ k_) ∨ w.heap.size ≤ k_) ∧ k_ ≠ gb368 ∧ k_ ≠ gb369 ∧ k_ ≠ gb370 ∧ k_ ≠ gb387) ho0 (fun k_ hk_ => ⟨Or.elim hk_ (fun hs_ => hs_.1) (fun hn_ => (.inr (Nat.le_trans (below_size ZZ295621) hn_))), Or.elim hk_ (fun hs_ => hs_.2.1) (fun hn_ => (Kd.freshB (zB BK368) k_ hn_)), Or.elim hk_ (fun hs_ => hs_.2.2.1) (fun hn_ => (Kd.freshB (zB BK369) k_ hn_)), Or.elim hk_ (fun hs_ => hs_.2.2.2.1) (fun hn_ => (Kd.freshB (zB BK370) k_ hn_)), Or.elim hk_ (fun hs_ => hs_.2.2.2.2) (fun hn_ => (Kd.freshB (zB BK387) k_ hn_))⟩)) (below_size ZZ295621))
             replace BK368 := kb BK368 hb
             replace BK369 := kb BK369 hb
             replace BK370 := kb BK370 hb
             replace BK387 := kb BK387 hb
             replace HB := hB hb
             (try clear hb)
             (try clear hb2)
             (try clear hk)
             (try clear hi)
             (try clear ho0)
             refine hK.out _ _ zK (fun hHeld => ?_)
             clear hK K
             refine nd (some 15) ?_
             exact norm_ ZZ014134 (hJ4_10 (v373, gb387) _ ⟨hHeld, ZZd5e4bd, ZZf2d862, ZZaabc9d, (zB BK368), (zB BK369), (zB BK370), (zB BK387), GW387.out, GE387.out, NB368_387.out, NB387_368.out, NB369_387.out, NB387_369.out, NB370_387.out, NB387_370.out, ZZ295621⟩)
            skip
            refine Kd.N_lit_step k63 _ 63 ?hg (N' := 17) ?hd (xs := ([(⟨a1_0, a1_1, l1_2⟩ : S63)] : List (S63))) (inner := [.int .i64 a1_0, .string a1_1, .slice A1_2 l1_2.length c1_2]) (ok := (fun k_ => ((P0_1_ k_ ∨ P1_2_ k_) ∨ w.heap.size ≤ k_) ∧ k_ ≠ gb368 ∧ k_ ≠ gb369 ∧ k_ ≠ gb370 ∧ k_ ≠ gb387)) (okp := (fun k_ => ((P0_1_ k_ ∨ P1_2_ k_) ∨ w.heap.size ≤ k_) ∧ k_ ≠ gb368 ∧ k_ ≠ gb369 ∧ k_ ≠ gb370 ∧ k_ ≠ gb387)) ?hr ?hp (fun _ hk => hk) ((show ∀ k_, w19.heap.size ≤ k_ → (fun k_ => ((P0_1_ k_ ∨ P1_2_ k_) ∨ w.heap.size ≤ k_) ∧ k_ ≠ gb368 ∧ k_ ≠ gb369 ∧ k_ ≠ gb370 ∧ k_ ≠ gb387) k_ from fun k_ hk => ⟨(.inr (Nat.le_trans (below_size ZZ295621) hk)), Kd.freshB (zB BK368) k_ hk, Kd.freshB (zB BK369) k_ hk, Kd.freshB (zB BK370) k_ hk, Kd.freshB (zB BK387) k_ hk⟩) _ (Nat.le_refl _)) (Below.refl _ _) (Nat.le_refl _) (by simp) ?_; (case hd => rfl); (case hg => rfl); (case hr => first | (go_simp; done) | (go_simp; rfl)); (case hp => exact (Reps.c3 (show Kd.FK k63 _ _ (⟨a1_0, a1_1, l1_2⟩ : S63) [.int .i64 a1_0, .string a1_1, .slice A1_2 l1_2.length c1_2] from (k63_mkF _ _ (⟨a1_0, a1_1, l1_2⟩ : S63) (Kd.V_reads' (Kd.V_mono (ok' := (fun k_ => ((P0_1_ k_ ∨ P1_2_ k_) ∨ w.heap.size ≤ k_) ∧ k_ ≠ gb368 ∧ k_ ≠ gb369 ∧ k_ ≠ gb370 ∧ k_ ≠ gb387)) (HO1_2.out) (fun k_ hk => ⟨hk.1, ⟨hk.2.1, ⟨hk.2.2.1, ⟨hk.2.2.2.1, hk.2.2.2.2⟩⟩⟩⟩))).2.1 (Kd.V_F (Kd.V_mono (ok' := (fun k_ => ((P0_1_ k_ ∨ P1_2_ k_) ∨ w.heap.size ≤ k_) ∧ k_ ≠ gb368 ∧ k_ ≠ gb369 ∧ k_ ≠ gb370 ∧ k_ ≠ gb387)) (HO1_2.out) (fun k_ hk => ⟨hk.1, ⟨hk.2.1, ⟨hk.2.2.1, ⟨hk.2.2.2.1, hk.2.2.2.2⟩⟩⟩⟩))))) (Reps.none _ _)))
            intro v376 w20 ho21 hb hg_ hnew_
            clear hg_ hnew_
            (first | rw [← Ny375.out] at ho21 | (simp only [Int.reduceToNat] at ho21; rw [← Ny375.out] at ho21))
            replace HO0_1 := Aside0.mk (Kd.V_elder' ZZ1186ef (Kd.N_base ho21) hb)
            replace HO1_2 := Aside0.mk (Kd.V_elder' ZZ6ff8a7 (Kd.N_base ho21) hb)
            have HO377 := Aside0.mk (Kd.N_lower ho21 (below_size ZZ295621))
            replace BK368 := kb BK368 hb
            replace BK369 := kb BK369 hb
            replace BK370 := kb BK370 hb
            replace BK387 := kb BK387 hb
            replace HB := hB hb
            clear hb ho21
            refine hK.out _ _ zK (fun hHeld => ?_)
            clear hK K
            refine nd (some 17) ?_
            exact norm_ ZZ014134 (hJ6_10 (v376, gb387) _ ⟨hHeld, ZZd5e4bd, ZZf2d862, ZZcaddb5, (zB BK368), (zB BK369), (zB BK370), (zB BK387), GW387.out, GE387.out, NB368_387.out, NB387_368.out, NB369_387.out, NB387_369.out, NB370_387.out, NB387_370.out, ZZ295621⟩)
           skip
           rintro v376 w20 ⟨hS_, h0_, h1_, h2_, h3_, h4_, h5_, h6_⟩
           have n0_ : Aside0 (Kd.V k63 63 w20 w.heap.size (fun k_ => ((P0_1_ k_ ∨ P1_2_ k_) ∨ w.heap.size ≤ k_) ∧ some k_ ≠ (v376 : Value).ownBlock ∧ k_ ≠ gb368 ∧ k_ ≠ gb369 ∧ k_ ≠ gb370) (.slice A0_1 l0_1.length c0_1) l0_1) := ⟨h0_⟩
           have n1_ : Aside0 (Kd.V k70 70 w20 w.heap.size (fun k_ => ((P0_1_ k_ ∨ P1_2_ k_) ∨ w.heap.size ≤ k_) ∧ some k_ ≠ (v376 : Value).ownBlock ∧ k_ ≠ gb368 ∧ k_ ≠ gb369 ∧ k_ ≠ gb370) (.slice A1_2 l1_2.length c1_2) l1_2) := ⟨h1_⟩
           have n2_ : Aside0 (Kd.N k63 63 w20 w.heap.size (fun k_ => ((P0_1_ k_ ∨ P1_2_ k_) ∨ w.heap.size ≤ k_) ∧ k_ ≠ gb368 ∧ k_ ≠ gb369 ∧ k_ ≠ gb370) v376 y375) := ⟨h2_⟩
           have n3_ : Aside0 (w20.heap[gb368]? = some (.cells #[.slice A0_0 l0_0.length c0_0, .slice A0_1 l0_1.length c0_1] 31 (0, 0))) := ⟨h3_⟩
           have n4_ : Aside0 (w20.heap[gb369]? = some (.cells #[.int .i64 a1_0, .string a1_1, .slice A1_2 l1_2.length c1_2] 63 (0, 0))) := ⟨h4_⟩
           have n5_ : Aside0 (w20.heap[gb370]? = some (.cells #[.slice none 0 0, .slice none 0 0] 31 (0, 0))) := ⟨h5_⟩
           have n6_ : Aside0 (Below w.heap.size w w20) := ⟨h6_⟩
           clear HO0_1
           clear HO1_2
           clear BK368
           clear BK369
           clear BK370
           clear HB
           clear h0_ h1_ h2_ h3_ h4_ h5_ h6_
           have HO0_1 := n0_
           have HO1_2 := n1_
           have HO377 := n2_
           have BK368 := n3_
           have BK369 := n4_
           have BK370 := n5_
           have HB := n6_
           clear n0_ n1_ n2_ n3_ n4_ n5_ n6_
           have hHeld : w20.cell? ⟨gb368, 0, none⟩ = some (.slice A0_0 l0_0.length c0_0) ∧ w20.cell? ⟨gb368, 1, none⟩ = some (.slice A0_1 l0_1.length c0_1) ∧ w20.cell? ⟨gb369, 0, none⟩ = some (.int .i64 a1_0) ∧ w20.cell? ⟨gb369, 1, none⟩ = some (.string a1_1) ∧ w20.cell? ⟨gb369, 2, none⟩ = some (.slice A1_2 l1_2.length c1_2) := hS_
           refine norm_ (a' := ?_) ?_ ?_
           rotate_left
           ·simp only [putAll, Act.put, List.setIfInBounds_toArray, List.set_cons_zero, List.set_cons_succ]
            rfl
           refine two_ (i := 4) (j := 10) (Ni := some 15) (Nj := some 6) #[true, true, true, true, true, true, true, false, false, false, false, false] #[true, true, true, true, false, true, true, false, false, false, true, false] rfl rfl rfl rfl (two_of HT_.out (by kernel_rfl)) (by decide) (by decide) (fun K hK => ?_) (fun K hK => ?_)
           ·skip
            refine goes_ Tryd.func84 (by kernel_rfl) rfl #[.slice A0_1 l0_1.length c0_1] (by rfl) rfl rfl ZZ19826e ?_
            with_reducible refine (impl_BookEntry.calls (fun k_ => (((P0_1_ k_ ∨ P1_2_ k_) ∨ w.heap.size ≤ k_) ∧ (some k_ ≠ (v376 : Value).ownBlock ∧ (k_ ≠ gb368 ∧ (k_ ≠ gb369 ∧ k_ ≠ gb370))))) _ _ l0_1 t372 _ ?side1 A5.out).mono ?_
            (case side1 => exact HO0_1.out)
            rintro e w21 ⟨v373, rfl, ho0, hb⟩
            refine ⟨_, rfl, ?_⟩
            replace HO0_1 := Aside0.mk (Kd.V_elder' ZZ1186ef (Kd.N_base ho0) hb)
            replace HO1_2 := Aside0.mk (Kd.V_elder' ZZ6ff8a7 (Kd.N_base ho0) hb)
            have HO374 := Aside0.mk (Kd.N_lower (Kd.N_mono (ok' := fun k_ => ((P0_1_ k_ ∨ P1_2_ k_) ∨ w.heap.size ≤ k_) ∧ some k_ ≠ (v376 : Value).ownBlock ∧ k_ ≠ gb368 ∧ k_ ≠ gb369 ∧ k_ ≠ gb370) ho0 (fun k_ hk_ => ⟨Or.elim hk_ (fun hs_ => hs_.1) (fun hn_ => (.inr (Nat.le_trans (below_size ZZ295621) hn_))), Or.elim hk_ (fun hs_ => hs_.2.1) (fun hn_ => (Kd.fresh' (Kd.N_lt ZZcaddb5) k_ hn_)), Or.elim hk_ (fun hs_ => hs_.2.2.1) (fun hn_ => (Kd.freshB (zB BK368) k_ hn_)), Or.elim hk_ (fun hs_ => hs_.2.2.2.1) (fun hn_ => (Kd.freshB (zB BK369) k_ hn_)), Or.elim hk_ (fun hs_ => hs_.2.2.2.2) (fun hn_ => (Kd.freshB (zB BK370) k_ hn_))⟩)) (below_size ZZ295621))
            replace HO377 := Aside0.mk (Kd.N_elder' ZZcaddb5 (Kd.N_base ho0) hb)
            replace BK368 := kb BK368 hb
            replace BK369 := kb BK369 hb
            replace BK370 := kb BK370 hb
            replace HB := hB hb
            (try clear hb)
            (try clear hb2)
            (try clear hk)
            (try clear hi)
            (try clear ho0)
            refine hK.out _ _ zK (fun hHeld => ?_)
            clear hK K
            refine nd (some 15) ?_
            exact norm_ ZZ014134 (hJ4_6 (v373, v376) _ ⟨hHeld, ZZd5e4bd, ZZf2d862, ZZaabc9d, ZZ3129b6, (zB BK368), (zB BK369), (zB BK370), ZZ295621⟩)
           skip
           refine box_step ?hg (N := 6) ?hd (cs := #[.slice none 0 0, .slice none 0 0]) (t := 31) ?hr ?_; (case hd => rfl); (case hg => rfl); (case hr => first | (go_simp; done) | (go_simp; rfl))
           intro gb387 hg w21 hbox hb
           replace HO0_1 := Aside0.mk (Kd.V_below (Kd.V_elderB ZZ1186ef gb387 (Nat.le_of_eq hg.symm)) hb)
           replace HO1_2 := Aside0.mk (Kd.V_below (Kd.V_elderB ZZ6ff8a7 gb387 (Nat.le_of_eq hg.symm)) hb)
           replace HO377 := Aside0.mk (Kd.N_below (Kd.N_elderB ZZcaddb5 gb387 (Nat.le_of_eq hg.symm)) hb)
           have BK387 := Aside0.mk (hbox)
           have GW387 := gw hg
           have GE387 := gw hg
           replace HB := hB hb
           have NB368_387 := nl hg BK368
           have NB387_368 := ng hg BK368
           replace BK368 := kb BK368 hb
           have NB369_387 := nl hg BK369
           have NB387_369 := ng hg BK369
           replace BK369 := kb BK369 hb
           have NB370_387 := nl hg BK370
           have NB387_370 := ng hg BK370
           replace BK370 := kb BK370 hb
           clear hb hbox hg
           refine hK.out _ _ zK (fun hHeld => ?_)
           clear hK K
           refine nd (some 6) ?_
           exact norm_ ZZ014134 (hJ6_10 (v376, gb387) _ ⟨hHeld, ZZ74a3b1, ZZ432988, (by refine bN ?_; exact Kd.N_mono HO377.out (fun _ hk => ⟨hk.1.1, ⟨hk.1.2.1, ⟨hk.1.2.2.1, ⟨hk.1.2.2.2, hk.2⟩⟩⟩⟩)), (zB BK368), (zB BK369), (zB BK370), (zB BK387), GW387.out, GE387.out, NB368_387.out, NB387_368.out, NB369_387.out, NB387_369.out, NB370_387.out, NB387_370.out, ZZ295621⟩)
          skip
          rintro v373 w19 ⟨hS_, h0_, h1_, h2_, h3_, h4_, h5_, h6_⟩
          have n0_ : Aside0 (Kd.V k63 63 w19 w.heap.size (fun k_ => ((P0_1_ k_ ∨ P1_2_ k_) ∨ w.heap.size ≤ k_) ∧ some k_ ≠ (v373 : Value).ownBlock ∧ k_ ≠ gb368 ∧ k_ ≠ gb369 ∧ k_ ≠ gb370) (.slice A0_1 l0_1.length c0_1) l0_1) := ⟨h0_⟩
          have n1_ : Aside0 (Kd.V k70 70 w19 w.heap.size (fun k_ => ((P0_1_ k_ ∨ P1_2_ k_) ∨ w.heap.size ≤ k_) ∧ some k_ ≠ (v373 : Value).ownBlock ∧ k_ ≠ gb368 ∧ k_ ≠ gb369 ∧ k_ ≠ gb370) (.slice A1_2 l1_2.length c1_2) l1_2) := ⟨h1_⟩
          have n2_ : Aside0 (Kd.N k63 63 w19 w.heap.size (fun k_ => ((P0_1_ k_ ∨ P1_2_ k_) ∨ w.heap.size ≤ k_) ∧ k_ ≠ gb368 ∧ k_ ≠ gb369 ∧ k_ ≠ gb370) v373 t372) := ⟨h2_⟩
          have n3_ : Aside0 (w19.heap[gb368]? = some (.cells #[.slice A0_0 l0_0.length c0_0, .slice A0_1 l0_1.length c0_1] 31 (0, 0))) := ⟨h3_⟩
          have n4_ : Aside0 (w19.heap[gb369]? = some (.cells #[.int .i64 a1_0, .string a1_1, .slice A1_2 l1_2.length c1_2] 63 (0, 0))) := ⟨h4_⟩
          have n5_ : Aside0 (w19.heap[gb370]? = some (.cells #[.slice none 0 0, .slice none 0 0] 31 (0, 0))) := ⟨h5_⟩
          have n6_ : Aside0 (Below w.heap.size w w19) := ⟨h6_⟩
          clear HO0_1
          clear HO1_2
          clear BK368
          clear BK369
          clear BK370
          clear HB
          clear h0_ h1_ h2_ h3_ h4_ h5_ h6_
          have HO0_1 := n0_
          have HO1_2 := n1_
          have HO374 := n2_
          have BK368 := n3_
          have BK369 := n4_
          have BK370 := n5_
          have HB := n6_
          clear n0_ n1_ n2_ n3_ n4_ n5_ n6_
          have hHeld : w19.cell? ⟨gb368, 0, none⟩ = some (.slice A0_0 l0_0.length c0_0) ∧ w19.cell? ⟨gb368, 1, none⟩ = some (.slice A0_1 l0_1.length c0_1) ∧ w19.cell? ⟨gb369, 0, none⟩ = some (.int .i64 a1_0) ∧ w19.cell? ⟨gb369, 1, none⟩ = some (.string a1_1) ∧ w19.cell? ⟨gb369, 2, none⟩ = some (.slice A1_2 l1_2.length c1_2) := hS_
          refine norm_ (a' := ?_) ?_ ?_
          rotate_left
          ·simp only [putAll, Act.put, List.setIfInBounds_toArray, List.set_cons_zero, List.set_cons_succ]
           rfl
          refine two_ (i := 6) (j := 10) (Ni := some 17) (Nj := some 6) #[true, true, true, true, true, true, true, false, false, false, false, false] #[true, true, true, true, true, true, false, false, false, false, true, false] rfl rfl rfl rfl (two_of HT_.out (by kernel_rfl)) (by decide) (by decide) (fun K hK => ?_) (fun K hK => ?_)
          ·skip
           refine Kd.N_lit_step k63 _ 63 ?hg (N' := 17) ?hd (xs := ([(⟨a1_0, a1_1, l1_2⟩ : S63)] : List (S63))) (inner := [.int .i64 a1_0, .string a1_1, .slice A1_2 l1_2.length c1_2]) (ok := (fun k_ => ((P0_1_ k_ ∨ P1_2_ k_) ∨ w.heap.size ≤ k_) ∧ some k_ ≠ (v373 : Value).ownBlock ∧ k_ ≠ gb368 ∧ k_ ≠ gb369 ∧ k_ ≠ gb370)) (okp := (fun k_ => ((P0_1_ k_ ∨ P1_2_ k_) ∨ w.heap.size ≤ k_) ∧ some k_ ≠ (v373 : Value).ownBlock ∧ k_ ≠ gb368 ∧ k_ ≠ gb369 ∧ k_ ≠ gb370)) ?hr ?hp (fun _ hk => hk) ((show ∀ k_, w19.heap.size ≤ k_ → (fun k_ => ((P0_1_ k_ ∨ P1_2_ k_) ∨ w.heap.size ≤ k_) ∧ some k_ ≠ (v373 : Value).ownBlock ∧ k_ ≠ gb368 ∧ k_ ≠ gb369 ∧ k_ ≠ gb370) k_ from fun k_ hk => ⟨(.inr (Nat.le_trans (below_size ZZ295621) hk)), Kd.fresh' (Kd.N_lt ZZaabc9d) k_ hk, Kd.freshB (zB BK368) k_ hk, Kd.freshB (zB BK369) k_ hk, Kd.freshB (zB BK370) k_ hk⟩) _ (Nat.le_refl _)) (Below.refl _ _) (Nat.le_refl _) (by simp) ?_; (case hd => rfl); (case hg => rfl); (case hr => first | (go_simp; done) | (go_simp; rfl)); (case hp => exact (Reps.c3 (show Kd.FK k63 _ _ (⟨a1_0, a1_1, l1_2⟩ : S63) [.int .i64 a1_0, .string a1_1, .slice A1_2 l1_2.length c1_2] from (k63_mkF _ _ (⟨a1_0, a1_1, l1_2⟩ : S63) (Kd.V_reads' (Kd.V_mono (ok' := (fun k_ => ((P0_1_ k_ ∨ P1_2_ k_) ∨ w.heap.size ≤ k_) ∧ some k_ ≠ (v373 : Value).ownBlock ∧ k_ ≠ gb368 ∧ k_ ≠ gb369 ∧ k_ ≠ gb370)) (HO1_2.out) (fun k_ hk => ⟨hk.1, ⟨hk.2.1, ⟨hk.2.2.1, ⟨hk.2.2.2.1, hk.2.2.2.2⟩⟩⟩⟩))).2.1 (Kd.V_F (Kd.V_mono (ok' := (fun k_ => ((P0_1_ k_ ∨ P1_2_ k_) ∨ w.heap.size ≤ k_) ∧ some k_ ≠ (v373 : Value).ownBlock ∧ k_ ≠ gb368 ∧ k_ ≠ gb369 ∧ k_ ≠ gb370)) (HO1_2.out) (fun k_ hk => ⟨hk.1, ⟨hk.2.1, ⟨hk.2.2.1, ⟨hk.2.2.2.1, hk.2.2.2.2⟩⟩⟩⟩))))) (Reps.none _ _)))
           intro v376 w20 ho21 hb hg_ hnew_
           clear hg_ hnew_
           (first | rw [← Ny375.out] at ho21 | (simp only [Int.reduceToNat] at ho21; rw [← Ny375.out] at ho21))
           replace HO0_1 := Aside0.mk (Kd.V_elder' ZZ1186ef (Kd.N_base ho21) hb)
           replace HO1_2 := Aside0.mk (Kd.V_elder' ZZ6ff8a7 (Kd.N_base ho21) hb)
           replace HO374 := Aside0.mk (Kd.N_elder' ZZaabc9d (Kd.N_base ho21) hb)
           have HO377 := Aside0.mk (Kd.N_lower ho21 (below_size ZZ295621))
           replace BK368 := kb BK368 hb
           replace BK369 := kb BK369 hb
           replace BK370 := kb BK370 hb
           replace HB := hB hb
           clear hb ho21
           refine hK.out _ _ zK (fun hHeld => ?_)
           clear hK K
           refine nd (some 17) ?_
           exact norm_ ZZ014134 (hJ4_6 (v373, v376) _ ⟨hHeld, ZZ6ebf87, ZZ14e881, (by refine bN ?_; exact Kd.N_mono HO374.out (fun _ hk => ⟨hk.1.1, ⟨hk.2, ⟨hk.1.2.1, ⟨hk.1.2.2.1, hk.1.2.2.2⟩⟩⟩⟩)), ZZcaddb5, (zB BK368), (zB BK369), (zB BK370), ZZ295621⟩)
          skip
          refine box_step ?hg (N := 6) ?hd (cs := #[.slice none 0 0, .slice none 0 0]) (t := 31) ?hr ?_; (case hd => rfl); (case hg => rfl); (case hr => first | (go_simp; done) | (go_simp; rfl))
          intro gb387 hg w20 hbox hb
          replace HO0_1 := Aside0.mk (Kd.V_below (Kd.V_elderB ZZ1186ef gb387 (Nat.le_of_eq hg.symm)) hb)
          replace HO1_2 := Aside0.mk (Kd.V_below (Kd.V_elderB ZZ6ff8a7 gb387 (Nat.le_of_eq hg.symm)) hb)
          replace HO374 := Aside0.mk (Kd.N_below (Kd.N_elderB ZZaabc9d gb387 (Nat.le_of_eq hg.symm)) hb)
          have BK387 := Aside0.mk (hbox)
          have GW387 := gw hg
          have GE387 := gw hg
          replace HB := hB hb
          have NB368_387 := nl hg BK368
          have NB387_368 := ng hg BK368
          replace BK368 := kb BK368 hb
          have NB369_387 := nl hg BK369
          have NB387_369 := ng hg BK369
          replace BK369 := kb BK369 hb
          have NB370_387 := nl hg BK370
          have NB387_370 := ng hg BK370
          replace BK370 := kb BK370 hb
          clear hb hbox hg
          refine hK.out _ _ zK (fun hHeld => ?_)
          clear hK K
          refine nd (some 6) ?_
          exact norm_ ZZ014134 (hJ4_10 (v373, gb387) _ ⟨hHeld, ZZ74a3b1, ZZ432988, (by refine bN ?_; exact Kd.N_mono HO374.out (fun _ hk => ⟨hk.1.1, ⟨hk.1.2.1, ⟨hk.1.2.2.1, ⟨hk.1.2.2.2, hk.2⟩⟩⟩⟩)), (zB BK368), (zB BK369), (zB BK370), (zB BK387), GW387.out, GE387.out, NB368_387.out, NB387_368.out, NB369_387.out, NB387_369.out, NB370_387.out, NB387_370.out, ZZ295621⟩)
         skip
         rintro ⟨v376, gb387⟩ w21 ⟨hS_, h0_, h1_, h2_, h3_, h4_, h5_, h6_, h7_, h8_, h9_, h10_, h11_, h12_, h13_, h14_, h15_⟩
         have n0_ : Aside0 (Kd.V k63 63 w21 w.heap.size (fun k_ => ((P0_1_ k_ ∨ P1_2_ k_) ∨ w.heap.size ≤ k_) ∧ some k_ ≠ (v376 : Value).ownBlock ∧ k_ ≠ gb368 ∧ k_ ≠ gb369 ∧ k_ ≠ gb370 ∧ k_ ≠ gb387) (.slice A0_1 l0_1.length c0_1) l0_1) := ⟨h0_⟩
         have n1_ : Aside0 (Kd.V k70 70 w21 w.heap.size (fun k_ => ((P0_1_ k_ ∨ P1_2_ k_) ∨ w.heap.size ≤ k_) ∧ some k_ ≠ (v376 : Value).ownBlock ∧ k_ ≠ gb368 ∧ k_ ≠ gb369 ∧ k_ ≠ gb370 ∧ k_ ≠ gb387) (.slice A1_2 l1_2.length c1_2) l1_2) := ⟨h1_⟩
         have n2_ : Aside0 (Kd.N k63 63 w21 w.heap.size (fun k_ => ((P0_1_ k_ ∨ P1_2_ k_) ∨ w.heap.size ≤ k_) ∧ k_ ≠ gb368 ∧ k_ ≠ gb369 ∧ k_ ≠ gb370 ∧ k_ ≠ gb387) v376 y375) := ⟨h2_⟩
         have n3_ : Aside0 (w21.heap[gb368]? = some (.cells #[.slice A0_0 l0_0.length c0_0, .slice A0_1 l0_1.length c0_1] 31 (0, 0))) := ⟨h3_⟩
         have n4_ : Aside0 (w21.heap[gb369]? = some (.cells #[.int .i64 a1_0, .string a1_1, .slice A1_2 l1_2.length c1_2] 63 (0, 0))) := ⟨h4_⟩
         have n5_ : Aside0 (w21.heap[gb370]? = some (.cells #[.slice none 0 0, .slice none 0 0] 31 (0, 0))) := ⟨h5_⟩
         have n6_ : Aside0 (w21.heap[gb387]? = some (.cells #[.slice none 0 0, .slice none 0 0] 31 (0, 0))) := ⟨h6_⟩
         have n7_ : Aside0 (w.heap.size ≤ gb387) := ⟨h7_⟩
         have n8_ : Aside0 (w.heap.size ≤ gb387) := ⟨h8_⟩
         have n9_ : Aside0 (gb368 ≠ gb387) := ⟨h9_⟩
         have n10_ : Aside0 (gb387 ≠ gb368) := ⟨h10_⟩
         have n11_ : Aside0 (gb369 ≠ gb387) := ⟨h11_⟩
         have n12_ : Aside0 (gb387 ≠ gb369) := ⟨h12_⟩
         have n13_ : Aside0 (gb370 ≠ gb387) := ⟨h13_⟩
         have n14_ : Aside0 (gb387 ≠ gb370) := ⟨h14_⟩
         have n15_ : Aside0 (Below w.heap.size w w21) := ⟨h15_⟩
         clear HO0_1
         clear HO1_2
         clear BK368
         clear BK369
         clear BK370
         clear HB
         clear h0_ h1_ h2_ h3_ h4_ h5_ h6_ h7_ h8_ h9_ h10_ h11_ h12_ h13_ h14_ h15_
         have HO0_1 := n0_
         have HO1_2 := n1_
         have HO377 := n2_
         have BK368 := n3_
         have BK369 := n4_
         have BK370 := n5_
         have BK387 := n6_
         have GW387 := n7_
         have GE387 := n8_
         have NB368_387 := n9_
         have NB387_368 := n10_
         have NB369_387 := n11_
         have NB387_369 := n12_
         have NB370_387 := n13_
         have NB387_370 := n14_
         have HB := n15_
         clear n0_ n1_ n2_ n3_ n4_ n5_ n6_ n7_ n8_ n9_ n10_ n11_ n12_ n13_ n14_ n15_
         have hHeld : w21.cell? ⟨gb368, 0, none⟩ = some (.slice A0_0 l0_0.length c0_0) ∧ w21.cell? ⟨gb368, 1, none⟩ = some (.slice A0_1 l0_1.length c0_1) ∧ w21.cell? ⟨gb369, 0, none⟩ = some (.int .i64 a1_0) ∧ w21.cell? ⟨gb369, 1, none⟩ = some (.string a1_1) ∧ w21.cell? ⟨gb369, 2, none⟩ = some (.slice A1_2 l1_2.length c1_2) := hS_
         refine norm_ (a' := ?_) ?_ ?_
         rotate_left
         ·simp only [putAll, Act.put, List.setIfInBounds_toArray, List.set_cons_zero, List.set_cons_succ]
          rfl
         refine on 4 (some 15) (fun K hK => ?_)
         refine goes_ Tryd.func84 (by kernel_rfl) rfl #[.slice A0_1 l0_1.length c0_1] (by rfl) rfl rfl ZZ19826e ?_
         with_reducible refine (impl_BookEntry.calls (fun k_ => (((P0_1_ k_ ∨ P1_2_ k_) ∨ w.heap.size ≤ k_) ∧ (some k_ ≠ (v376 : Value).ownBlock ∧ (k_ ≠ gb368 ∧ (k_ ≠ gb369 ∧ (k_ ≠ gb370 ∧ k_ ≠ gb387)))))) _ _ l0_1 t372 _ ?side1 A5.out).mono ?_
         (case side1 => exact HO0_1.out)
         rintro e w22 ⟨v373, rfl, ho0, hb⟩
         refine ⟨_, rfl, ?_⟩
         replace HO0_1 := Aside0.mk (Kd.V_elder' ZZ1186ef (Kd.N_base ho0) hb)
         replace HO1_2 := Aside0.mk (Kd.V_elder' ZZ6ff8a7 (Kd.N_base ho0) hb)
         have HO374 := Aside0.mk (Kd.N_lower (Kd.N_mono (ok' := fun k_ => ((P0_1_ k_ ∨ P1_2_ k_) ∨ w.heap.size ≤ k_) ∧ some k_ ≠ (v376 : Value).ownBlock ∧ k_ ≠ gb368 ∧ k_ ≠ gb369 ∧ k_ ≠ gb370 ∧ k_ ≠ gb387) ho0 (fun k_ hk_ => ⟨Or.elim hk_ (fun hs_ => hs_.1) (fun hn_ => (.inr (Nat.le_trans (below_size ZZ295621) hn_))), Or.elim hk_ (fun hs_ => hs_.2.1) (fun hn_ => (Kd.fresh' (Kd.N_lt ZZcaddb5) k_ hn_)), Or.elim hk_ (fun hs_ => hs_.2.2.1) (fun hn_ => (Kd.freshB (zB BK368) k_ hn_)), Or.elim hk_ (fun hs_ => hs_.2.2.2.1) (fun hn_ => (Kd.freshB (zB BK369) k_ hn_)), Or.elim hk_ (fun hs_ => hs_.2.2.2.2.1) (fun hn_ => (Kd.freshB (zB BK370) k_ hn_)), Or.elim hk_ (fun hs_ => hs_.2.2.2.2.2) (fun hn_ => (Kd.freshB (zB BK387) k_ hn_))⟩)) (below_size ZZ295621))
         replace HO377 := Aside0.mk (Kd.N_elder' ZZcaddb5 (Kd.N_base ho0) hb)
         replace BK368 := kb BK368 hb
         replace BK369 := kb BK369 hb
         replace BK370 := kb BK370 hb
         replace BK387 := kb BK387 hb
         replace HB := hB hb
         (try clear hb)
         (try clear hb2)
         (try clear hk)
         (try clear hi)
         (try clear ho0)
         refine hK.out _ _ zK (fun hHeld => ?_)
         clear hK K
         refine nd (some 15) ?_
         exact norm_ ZZ014134 (hJ4_6_10 (v373, v376, gb387) _ ⟨hHeld, (by refine bV ?_; exact Kd.V_mono HO0_1.out (fun _ hk => ⟨hk.1.1, ⟨hk.2, ⟨hk.1.2.1, ⟨hk.1.2.2.1, ⟨hk.1.2.2.2.1, ⟨hk.1.2.2.2.2.1, hk.1.2.2.2.2.2⟩⟩⟩⟩⟩⟩)), (by refine bV ?_; exact Kd.V_mono HO1_2.out (fun _ hk => ⟨hk.1.1, ⟨hk.2, ⟨hk.1.2.1, ⟨hk.1.2.2.1, ⟨hk.1.2.2.2.1, ⟨hk.1.2.2.2.2.1, hk.1.2.2.2.2.2⟩⟩⟩⟩⟩⟩)), ZZaabc9d, ZZf88850, (zB BK368), (zB BK369), (zB BK370), (zB BK387), GW387.out, GE387.out, NB368_387.out, NB387_368.out, NB369_387.out, NB387_369.out, NB370_387.out, NB387_370.out, ZZ295621⟩)
        skip
        rintro ⟨v373, gb387⟩ w20 ⟨hS_, h0_, h1_, h2_, h3_, h4_, h5_, h6_, h7_, h8_, h9_, h10_, h11_, h12_, h13_, h14_, h15_⟩
        have n0_ : Aside0 (Kd.V k63 63 w20 w.heap.size (fun k_ => ((P0_1_ k_ ∨ P1_2_ k_) ∨ w.heap.size ≤ k_) ∧ some k_ ≠ (v373 : Value).ownBlock ∧ k_ ≠ gb368 ∧ k_ ≠ gb369 ∧ k_ ≠ gb370 ∧ k_ ≠ gb387) (.slice A0_1 l0_1.length c0_1) l0_1) := ⟨h0_⟩
        have n1_ : Aside0 (Kd.V k70 70 w20 w.heap.size (fun k_ => ((P0_1_ k_ ∨ P1_2_ k_) ∨ w.heap.size ≤ k_) ∧ some k_ ≠ (v373 : Value).ownBlock ∧ k_ ≠ gb368 ∧ k_ ≠ gb369 ∧ k_ ≠ gb370 ∧ k_ ≠ gb387) (.slice A1_2 l1_2.length c1_2) l1_2) := ⟨h1_⟩
        have n2_ : Aside0 (Kd.N k63 63 w20 w.heap.size (fun k_ => ((P0_1_ k_ ∨ P1_2_ k_) ∨ w.heap.size ≤ k_) ∧ k_ ≠ gb368 ∧ k_ ≠ gb369 ∧ k_ ≠ gb370 ∧ k_ ≠ gb387) v373 t372) := ⟨h2_⟩
        have n3_ : Aside0 (w20.heap[gb368]? = some (.cells #[.slice A0_0 l0_0.length c0_0, .slice A0_1 l0_1.length c0_1] 31 (0, 0))) := ⟨h3_⟩
        have n4_ : Aside0 (w20.heap[gb369]? = some (.cells #[.int .i64 a1_0, .string a1_1, .slice A1_2 l1_2.length c1_2] 63 (0, 0))) := ⟨h4_⟩
        have n5_ : Aside0 (w20.heap[gb370]? = some (.cells #[.slice none 0 0, .slice none 0 0] 31 (0, 0))) := ⟨h5_⟩
        have n6_ : Aside0 (w20.heap[gb387]? = some (.cells #[.slice none 0 0, .slice none 0 0] 31 (0, 0))) := ⟨h6_⟩
        have n7_ : Aside0 (w.heap.size ≤ gb387) := ⟨h7_⟩
        have n8_ : Aside0 (w.heap.size ≤ gb387) := ⟨h8_⟩
        have n9_ : Aside0 (gb368 ≠ gb387) := ⟨h9_⟩
        have n10_ : Aside0 (gb387 ≠ gb368) := ⟨h10_⟩
        have n11_ : Aside0 (gb369 ≠ gb387) := ⟨h11_⟩
        have n12_ : Aside0 (gb387 ≠ gb369) := ⟨h12_⟩
        have n13_ : Aside0 (gb370 ≠ gb387) := ⟨h13_⟩
        have n14_ : Aside0 (gb387 ≠ gb370) := ⟨h14_⟩
        have n15_ : Aside0 (Below w.heap.size w w20) := ⟨h15_⟩
        clear HO0_1
        clear HO1_2
        clear BK368
        clear BK369
        clear BK370
        clear HB
        clear h0_ h1_ h2_ h3_ h4_ h5_ h6_ h7_ h8_ h9_ h10_ h11_ h12_ h13_ h14_ h15_
        have HO0_1 := n0_
        have HO1_2 := n1_
        have HO374 := n2_
        have BK368 := n3_
        have BK369 := n4_
        have BK370 := n5_
        have BK387 := n6_
        have GW387 := n7_
        have GE387 := n8_
        have NB368_387 := n9_
        have NB387_368 := n10_
        have NB369_387 := n11_
        have NB387_369 := n12_
        have NB370_387 := n13_
        have NB387_370 := n14_
        have HB := n15_
        clear n0_ n1_ n2_ n3_ n4_ n5_ n6_ n7_ n8_ n9_ n10_ n11_ n12_ n13_ n14_ n15_
        have hHeld : w20.cell? ⟨gb368, 0, none⟩ = some (.slice A0_0 l0_0.length c0_0) ∧ w20.cell? ⟨gb368, 1, none⟩ = some (.slice A0_1 l0_1.length c0_1) ∧ w20.cell? ⟨gb369, 0, none⟩ = some (.int .i64 a1_0) ∧ w20.cell? ⟨gb369, 1, none⟩ = some (.string a1_1) ∧ w20.cell? ⟨gb369, 2, none⟩ = some (.slice A1_2 l1_2.length c1_2) := hS_
        refine norm_ (a' := ?_) ?_ ?_
        rotate_left
        ·simp only [putAll, Act.put, List.setIfInBounds_toArray, List.set_cons_zero, List.set_cons_succ]
         rfl
        refine on 6 (some 17) (fun K hK => ?_)
        refine Kd.N_lit_step k63 _ 63 ?hg (N' := 17) ?hd (xs := ([(⟨a1_0, a1_1, l1_2⟩ : S63)] : List (S63))) (inner := [.int .i64 a1_0, .string a1_1, .slice A1_2 l1_2.length c1_2]) (ok := (fun k_ => ((P0_1_ k_ ∨ P1_2_ k_) ∨ w.heap.size ≤ k_) ∧ some k_ ≠ (v373 : Value).ownBlock ∧ k_ ≠ gb368 ∧ k_ ≠ gb369 ∧ k_ ≠ gb370 ∧ k_ ≠ gb387)) (okp := (fun k_ => ((P0_1_ k_ ∨ P1_2_ k_) ∨ w.heap.size ≤ k_) ∧ some k_ ≠ (v373 : Value).ownBlock ∧ k_ ≠ gb368 ∧ k_ ≠ gb369 ∧ k_ ≠ gb370 ∧ k_ ≠ gb387)) ?hr ?hp (fun _ hk => hk) ((show ∀ k_, w20.heap.size ≤ k_ → (fun k_ => ((P0_1_ k_ ∨ P1_2_ k_) ∨ w.heap.size ≤ k_) ∧ some k_ ≠ (v373 : Value).ownBlock ∧ k_ ≠ gb368 ∧ k_ ≠ gb369 ∧ k_ ≠ gb370 ∧ k_ ≠ gb387) k_ from fun k_ hk => ⟨(.inr (Nat.le_trans (below_size ZZ295621) hk)), Kd.fresh' (Kd.N_lt ZZaabc9d) k_ hk, Kd.freshB (zB BK368) k_ hk, Kd.freshB (zB BK369) k_ hk, Kd.freshB (zB BK370) k_ hk, Kd.freshB (zB BK387) k_ hk⟩) _ (Nat.le_refl _)) (Below.refl _ _) (Nat.le_refl _) (by simp) ?_; (case hd => rfl); (case hg => rfl); (case hr => first | (go_simp; done) | (go_simp; rfl)); (case hp => exact (Reps.c3 (show Kd.FK k63 _ _ (⟨a1_0, a1_1, l1_2⟩ : S63) [.int .i64 a1_0, .string a1_1, .slice A1_2 l1_2.length c1_2] from (k63_mkF _ _ (⟨a1_0, a1_1, l1_2⟩ : S63) (Kd.V_reads' (Kd.V_mono (ok' := (fun k_ => ((P0_1_ k_ ∨ P1_2_ k_) ∨ w.heap.size ≤ k_) ∧ some k_ ≠ (v373 : Value).ownBlock ∧ k_ ≠ gb368 ∧ k_ ≠ gb369 ∧ k_ ≠ gb370 ∧ k_ ≠ gb387)) (HO1_2.out) (fun k_ hk => ⟨hk.1, ⟨hk.2.1, ⟨hk.2.2.1, ⟨hk.2.2.2.1, ⟨hk.2.2.2.2.1, hk.2.2.2.2.2⟩⟩⟩⟩⟩))).2.1 (Kd.V_F (Kd.V_mono (ok' := (fun k_ => ((P0_1_ k_ ∨ P1_2_ k_) ∨ w.heap.size ≤ k_) ∧ some k_ ≠ (v373 : Value).ownBlock ∧ k_ ≠ gb368 ∧ k_ ≠ gb369 ∧ k_ ≠ gb370 ∧ k_ ≠ gb387)) (HO1_2.out) (fun k_ hk => ⟨hk.1, ⟨hk.2.1, ⟨hk.2.2.1, ⟨hk.2.2.2.1, ⟨hk.2.2.2.2.1, hk.2.2.2.2.2⟩⟩⟩⟩⟩))))) (Reps.none _ _)))
        intro v376 w21 ho22 hb hg_ hnew_
        clear hg_ hnew_
        (first | rw [← Ny375.out] at ho22 | (simp only [Int.reduceToNat] at ho22; rw [← Ny375.out] at ho22))
        replace HO0_1 := Aside0.mk (Kd.V_elder' ZZ1186ef (Kd.N_base ho22) hb)
        replace HO1_2 := Aside0.mk (Kd.V_elder' ZZ6ff8a7 (Kd.N_base ho22) hb)
        replace HO374 := Aside0.mk (Kd.N_elder' ZZaabc9d (Kd.N_base ho22) hb)
        have HO377 := Aside0.mk (Kd.N_lower ho22 (below_size ZZ295621))
        replace BK368 := kb BK368 hb
        replace BK369 := kb BK369 hb
        replace BK370 := kb BK370 hb
        replace BK387 := kb BK387 hb
        replace HB := hB hb
        clear hb ho22
        refine hK.out _ _ zK (fun hHeld => ?_)
        clear hK K
        refine nd (some 17) ?_
        exact norm_ ZZ014134 (hJ4_6_10 (v373, v376, gb387) _ ⟨hHeld, ZZff724a, ZZbd8012, (by refine bN ?_; exact Kd.N_mono HO374.out (fun _ hk => ⟨hk.1.1, ⟨hk.2, ⟨hk.1.2.1, ⟨hk.1.2.2.1, ⟨hk.1.2.2.2.1, hk.1.2.2.2.2⟩⟩⟩⟩⟩)), ZZcaddb5, (zB BK368), (zB BK369), (zB BK370), (zB BK387), GW387.out, GE387.out, NB368_387.out, NB387_368.out, NB369_387.out, NB387_369.out, NB370_387.out, NB387_370.out, ZZ295621⟩)
       skip
       rintro ⟨v373, v376⟩ w21 ⟨hS_, h0_, h1_, h2_, h3_, h4_, h5_, h6_, h7_⟩
       have n0_ : Aside0 (Kd.V k63 63 w21 w.heap.size (fun k_ => ((P0_1_ k_ ∨ P1_2_ k_) ∨ w.heap.size ≤ k_) ∧ some k_ ≠ (v373 : Value).ownBlock ∧ some k_ ≠ (v376 : Value).ownBlock ∧ k_ ≠ gb368 ∧ k_ ≠ gb369 ∧ k_ ≠ gb370) (.slice A0_1 l0_1.length c0_1) l0_1) := ⟨h0_⟩
       have n1_ : Aside0 (Kd.V k70 70 w21 w.heap.size (fun k_ => ((P0_1_ k_ ∨ P1_2_ k_) ∨ w.heap.size ≤ k_) ∧ some k_ ≠ (v373 : Value).ownBlock ∧ some k_ ≠ (v376 : Value).ownBlock ∧ k_ ≠ gb368 ∧ k_ ≠ gb369 ∧ k_ ≠ gb370) (.slice A1_2 l1_2.length c1_2) l1_2) := ⟨h1_⟩
       have n2_ : Aside0 (Kd.N k63 63 w21 w.heap.size (fun k_ => ((P0_1_ k_ ∨ P1_2_ k_) ∨ w.heap.size ≤ k_) ∧ some k_ ≠ (v376 : Value).ownBlock ∧ k_ ≠ gb368 ∧ k_ ≠ gb369 ∧ k_ ≠ gb370) v373 t372) := ⟨h2_⟩
       have n3_ : Aside0 (Kd.N k63 63 w21 w.heap.size (fun k_ => ((P0_1_ k_ ∨ P1_2_ k_) ∨ w.heap.size ≤ k_) ∧ some k_ ≠ (v373 : Value).ownBlock ∧ k_ ≠ gb368 ∧ k_ ≠ gb369 ∧ k_ ≠ gb370) v376 y375) := ⟨h3_⟩
       have n4_ : Aside0 (w21.heap[gb368]? = some (.cells #[.slice A0_0 l0_0.length c0_0, .slice A0_1 l0_1.length c0_1] 31 (0, 0))) := ⟨h4_⟩
       have n5_ : Aside0 (w21.heap[gb369]? = some (.cells #[.int .i64 a1_0, .string a1_1, .slice A1_2 l1_2.length c1_2] 63 (0, 0))) := ⟨h5_⟩
       have n6_ : Aside0 (w21.heap[gb370]? = some (.cells #[.slice none 0 0, .slice none 0 0] 31 (0, 0))) := ⟨h6_⟩
       have n7_ : Aside0 (Below w.heap.size w w21) := ⟨h7_⟩
       clear HO0_1
       clear HO1_2
       clear BK368
       clear BK369
       clear BK370
       clear HB
       clear h0_ h1_ h2_ h3_ h4_ h5_ h6_ h7_
       have HO0_1 := n0_
       have HO1_2 := n1_
       have HO374 := n2_
       have HO377 := n3_
       have BK368 := n4_
       have BK369 := n5_
       have BK370 := n6_
       have HB := n7_
       clear n0_ n1_ n2_ n3_ n4_ n5_ n6_ n7_
       have hHeld : w21.cell? ⟨gb368, 0, none⟩ = some (.slice A0_0 l0_0.length c0_0) ∧ w21.cell? ⟨gb368, 1, none⟩ = some (.slice A0_1 l0_1.length c0_1) ∧ w21.cell? ⟨gb369, 0, none⟩ = some (.int .i64 a1_0) ∧ w21.cell? ⟨gb369, 1, none⟩ = some (.string a1_1) ∧ w21.cell? ⟨gb369, 2, none⟩ = some (.slice A1_2 l1_2.length c1_2) := hS_
       obtain ⟨Ao23, co23, eo23⟩ := Kd.N_slice HO377.out
       (first | subst eo23 | (injection eo23 with f1_ f2_ f3_; have f4_ := f1_.symm; have f5_ := f3_.symm; clear f1_ f2_ f3_; subst f4_; subst f5_))
       refine norm_ (a' := ?_) ?_ ?_
       rotate_left
       ·simp only [putAll, Act.put, List.setIfInBounds_toArray, List.set_cons_zero, List.set_cons_succ]
        rfl
       refine two_ (i := 7) (j := 10) (Ni := some 18) (Nj := some 6) #[true, true, true, true, true, true, true, true, false, false, false, false] #[true, true, true, true, true, true, true, false, false, false, true, false] rfl rfl rfl rfl (two_of HT_.out (by kernel_rfl)) (by decide) (by decide) (fun K hK => ?_) (fun K hK => ?_)
       ·skip
        refine Kd.N_append_rows_step k63 (w0 := w) w.heap.size (by rfl) (.tmp 15) (.tmp 17) 29 63 (.agg #[(.int .i64 0), (.string ⟨#[]⟩), (.slice none 0 0)]) 48 rfl Tryd.underlying29 info63 rfl (by decide) (by omega) v373 t372 y375 _ _ _ (fun k_ => ((P0_1_ k_ ∨ P1_2_ k_) ∨ w.heap.size ≤ k_) ∧ k_ ≠ gb368 ∧ k_ ≠ gb369 ∧ k_ ≠ gb370) (fun k_ => ((fun k_ => ((P0_1_ k_ ∨ P1_2_ k_) ∨ w.heap.size ≤ k_) ∧ k_ ≠ gb368 ∧ k_ ≠ gb369 ∧ k_ ≠ gb370)) k_ ∧ some k_ ≠ (v373 : Value).ownBlock) rfl rfl ?aO ?aR (fun _ hk => hk) ?aF ?aB ?aS ?aL ?_
        (case aR => exact (by skip; exact Kd.N_F (Kd.N_mono (ok' := (fun k_ => ((fun k_ => ((P0_1_ k_ ∨ P1_2_ k_) ∨ w.heap.size ≤ k_) ∧ k_ ≠ gb368 ∧ k_ ≠ gb369 ∧ k_ ≠ gb370)) k_ ∧ some k_ ≠ (v373 : Value).ownBlock)) (HO377.out) (fun k_ hk => ⟨⟨hk.1, ⟨hk.2.2.1, ⟨hk.2.2.2.1, hk.2.2.2.2⟩⟩⟩, hk.2.1⟩))))
        (case aB => exact ZZ295621)
        (case aF => exact (fun k_ hk => ⟨(.inr (Nat.le_trans (below_size ZZ295621) hk)), Kd.freshB (zB BK368) k_ hk, Kd.freshB (zB BK369) k_ hk, Kd.freshB (zB BK370) k_ hk⟩))
        (case aO => exact (by refine bN ?_; exact Kd.N_mono HO374.out (fun _ hk => ⟨hk.1, ⟨hk.2.2.1, ⟨hk.2.2.2.1, hk.2.2.2.2⟩⟩⟩)))
        (case aS => exact (below_size ZZ295621))
        (case aL => have := LMc6.out; omega)
        intro v379 w22 ho hb hg hat
        rw [← Ny378.out] at ho
        replace HO0_1 := Aside0.mk (Kd.V_afterv (ok := (fun k_ => ((P0_1_ k_ ∨ P1_2_ k_) ∨ w.heap.size ≤ k_) ∧ some k_ ≠ (.slice Ao23 y375.length co23 : Value).ownBlock ∧ k_ ≠ gb368 ∧ k_ ≠ gb369 ∧ k_ ≠ gb370)) (by refine bV ?_; exact Kd.V_mono HO0_1.out (fun _ hk => ⟨⟨hk.1, ⟨hk.2.2.1, ⟨hk.2.2.2.1, ⟨hk.2.2.2.2.1, hk.2.2.2.2.2⟩⟩⟩⟩, hk.2.1⟩)) hg hat)
        replace HO1_2 := Aside0.mk (Kd.V_afterv (ok := (fun k_ => ((P0_1_ k_ ∨ P1_2_ k_) ∨ w.heap.size ≤ k_) ∧ some k_ ≠ (.slice Ao23 y375.length co23 : Value).ownBlock ∧ k_ ≠ gb368 ∧ k_ ≠ gb369 ∧ k_ ≠ gb370)) (by refine bV ?_; exact Kd.V_mono HO1_2.out (fun _ hk => ⟨⟨hk.1, ⟨hk.2.2.1, ⟨hk.2.2.2.1, ⟨hk.2.2.2.2.1, hk.2.2.2.2.2⟩⟩⟩⟩, hk.2.1⟩)) hg hat)
        replace BK368 := Aside0.mk (blk_grown (zB BK368) hg (Kd.N_ne HO374.out BK368.out (by decide)))
        replace BK369 := Aside0.mk (blk_grown (zB BK369) hg (Kd.N_away HO374.out (fun _ hk => hk.2.2.2.1)))
        replace BK370 := Aside0.mk (blk_grown (zB BK370) hg (Kd.N_ne HO374.out BK370.out (by decide)))
        replace HO377 := Aside0.mk (Kd.N_afterv (ok := (fun k_ => ((P0_1_ k_ ∨ P1_2_ k_) ∨ w.heap.size ≤ k_) ∧ k_ ≠ gb368 ∧ k_ ≠ gb369 ∧ k_ ≠ gb370)) (by refine bN ?_; exact Kd.N_mono HO377.out (fun _ hk => ⟨⟨hk.1, ⟨hk.2.2.1, ⟨hk.2.2.2.1, hk.2.2.2.2⟩⟩⟩, hk.2.1⟩)) hg hat)
        replace HB := Aside0.mk (hb)
        have HO380 := Aside0.mk (ho)
        clear HO374
        clear ho hb hg hat
        obtain ⟨Ao24, co24, eo24⟩ := Kd.N_slice HO380.out
        (first | subst eo24 | (injection eo24 with f1_ f2_ f3_; have f4_ := f1_.symm; have f5_ := f3_.symm; clear f1_ f2_ f3_; subst f4_; subst f5_))
        refine hK.out _ _ zK (fun hHeld => ?_)
        clear hK K
        refine nd (some 18) ?_
        refine pu 8 19 ?_
        exact norm_ ZZ014134 (hJ4_6_7 (v373, .slice Ao23 y375.length co23, .slice Ao24 y378.length co24) _ ⟨hHeld, ZZ6ebf87, ZZ14e881, ZZ3129b6, ZZ3083f5, (zB BK368), (zB BK369), (zB BK370), ZZ295621⟩)
       skip
       refine box_step ?hg (N := 6) ?hd (cs := #[.slice none 0 0, .slice none 0 0]) (t := 31) ?hr ?_; (case hd => rfl); (case hg => rfl); (case hr => first | (go_simp; done) | (go_simp; rfl))
       intro gb387 hg w22 hbox hb
       replace HO0_1 := Aside0.mk (Kd.V_below (Kd.V_elderB ZZ1186ef gb387 (Nat.le_of_eq hg.symm)) hb)
       replace HO1_2 := Aside0.mk (Kd.V_below (Kd.V_elderB ZZ6ff8a7 gb387 (Nat.le_of_eq hg.symm)) hb)
       replace HO374 := Aside0.mk (Kd.N_below (Kd.N_elderB ZZaabc9d gb387 (Nat.le_of_eq hg.symm)) hb)
       replace HO377 := Aside0.mk (Kd.N_below (Kd.N_elderB ZZcaddb5 gb387 (Nat.le_of_eq hg.symm)) hb)
       have BK387 := Aside0.mk (hbox)
       have GW387 := gw hg
       have GE387 := gw hg
       replace HB := hB hb
       have NB368_387 := nl hg BK368
       have NB387_368 := ng hg BK368
       replace BK368 := kb BK368 hb
       have NB369_387 := nl hg BK369
       have NB387_369 := ng hg BK369
       replace BK369 := kb BK369 hb
       have NB370_387 := nl hg BK370
       have NB387_370 := ng hg BK370
       replace BK370 := kb BK370 hb
       clear hb hbox hg
       refine hK.out _ _ zK (fun hHeld => ?_)
       clear hK K
       refine nd (some 6) ?_
       exact norm_ ZZ014134 (hJ4_6_10 (v373, (.slice Ao23 y375.length co23), gb387) _ ⟨hHeld, ZZ22d34a, ZZb93140, (by refine bN ?_; exact Kd.N_mono HO374.out (fun _ hk => ⟨hk.1.1, ⟨hk.1.2.1, ⟨hk.1.2.2.1, ⟨hk.1.2.2.2.1, ⟨hk.1.2.2.2.2, hk.2⟩⟩⟩⟩⟩)), ZZ047514, (zB BK368), (zB BK369), (zB BK370), (zB BK387), GW387.out, GE387.out, NB368_387.out, NB387_368.out, NB369_387.out, NB387_369.out, NB370_387.out, NB387_370.out, ZZ295621⟩)
      skip
      rintro ⟨v373, v376, gb387⟩ w22 ⟨hS_, h0_, h1_, h2_, h3_, h4_, h5_, h6_, h7_, h8_, h9_, h10_, h11_, h12_, h13_, h14_, h15_, h16_⟩
      have n0_ : Aside0 (Kd.V k63 63 w22 w.heap.size (fun k_ => ((P0_1_ k_ ∨ P1_2_ k_) ∨ w.heap.size ≤ k_) ∧ some k_ ≠ (v373 : Value).ownBlock ∧ some k_ ≠ (v376 : Value).ownBlock ∧ k_ ≠ gb368 ∧ k_ ≠ gb369 ∧ k_ ≠ gb370 ∧ k_ ≠ gb387) (.slice A0_1 l0_1.length c0_1) l0_1) := ⟨h0_⟩
      have n1_ : Aside0 (Kd.V k70 70 w22 w.heap.size (fun k_ => ((P0_1_ k_ ∨ P1_2_ k_) ∨ w.heap.size ≤ k_) ∧ some k_ ≠ (v373 : Value).ownBlock ∧ some k_ ≠ (v376 : Value).ownBlock ∧ k_ ≠ gb368 ∧ k_ ≠ gb369 ∧ k_ ≠ gb370 ∧ k_ ≠ gb387) (.slice A1_2 l1_2.length c1_2) l1_2) := ⟨h1_⟩
      have n2_ : Aside0 (Kd.N k63 63 w22 w.heap.size (fun k_ => ((P0_1_ k_ ∨ P1_2_ k_) ∨ w.heap.size ≤ k_) ∧ some k_ ≠ (v376 : Value).ownBlock ∧ k_ ≠ gb368 ∧ k_ ≠ gb369 ∧ k_ ≠ gb370 ∧ k_ ≠ gb387) v373 t372) := ⟨h2_⟩
      have n3_ : Aside0 (Kd.N k63 63 w22 w.heap.size (fun k_ => ((P0_1_ k_ ∨ P1_2_ k_) ∨ w.heap.size ≤ k_) ∧ some k_ ≠ (v373 : Value).ownBlock ∧ k_ ≠ gb368 ∧ k_ ≠ gb369 ∧ k_ ≠ gb370 ∧ k_ ≠ gb387) v376 y375) := ⟨h3_⟩
      have n4_ : Aside0 (w22.heap[gb368]? = some (.cells #[.slice A0_0 l0_0.length c0_0, .slice A0_1 l0_1.length c0_1] 31 (0, 0))) := ⟨h4_⟩
      have n5_ : Aside0 (w22.heap[gb369]? = some (.cells #[.int .i64 a1_0, .string a1_1, .slice A1_2 l1_2.length c1_2] 63 (0, 0))) := ⟨h5_⟩
      have n6_ : Aside0 (w22.heap[gb370]? = some (.cells #[.slice none 0 0, .slice none 0 0] 31 (0, 0))) := ⟨h6_⟩
      have n7_ : Aside0 (w22.heap[gb387]? = some (.cells #[.slice none 0 0, .slice none 0 0] 31 (0, 0))) := ⟨h7_⟩
      have n8_ : Aside0 (w.heap.size ≤ gb387) := ⟨h8_⟩
      have n9_ : Aside0 (w.heap.size ≤ gb387) := ⟨h9_⟩
      have n10_ : Aside0 (gb368 ≠ gb387) := ⟨h10_⟩
      have n11_ : Aside0 (gb387 ≠ gb368) := ⟨h11_⟩
      have n12_ : Aside0 (gb369 ≠ gb387) := ⟨h12_⟩
      have n13_ : Aside0 (gb387 ≠ gb369) := ⟨h13_⟩
      have n14_ : Aside0 (gb370 ≠ gb387) := ⟨h14_⟩
      have n15_ : Aside0 (gb387 ≠ gb370) := ⟨h15_⟩
      have n16_ : Aside0 (Below w.heap.size w w22) := ⟨h16_⟩
      clear HO0_1
      clear HO1_2
      clear BK368
      clear BK369
      clear BK370
      clear HB
      clear h0_ h1_ h2_ h3_ h4_ h5_ h6_ h7_ h8_ h9_ h10_ h11_ h12_ h13_ h14_ h15_ h16_
      have HO0_1 := n0_
      have HO1_2 := n1_
      have HO374 := n2_
      have HO377 := n3_
      have BK368 := n4_
      have BK369 := n5_
      have BK370 := n6_
      have BK387 := n7_
      have GW387 := n8_
      have GE387 := n9_
      have NB368_387 := n10_
      have NB387_368 := n11_
      have NB369_387 := n12_
      have NB387_369 := n13_
      have NB370_387 := n14_
      have NB387_370 := n15_
      have HB := n16_
      clear n0_ n1_ n2_ n3_ n4_ n5_ n6_ n7_ n8_ n9_ n10_ n11_ n12_ n13_ n14_ n15_ n16_
      have hHeld : w22.cell? ⟨gb368, 0, none⟩ = some (.slice A0_0 l0_0.length c0_0) ∧ w22.cell? ⟨gb368, 1, none⟩ = some (.slice A0_1 l0_1.length c0_1) ∧ w22.cell? ⟨gb369, 0, none⟩ = some (.int .i64 a1_0) ∧ w22.cell? ⟨gb369, 1, none⟩ = some (.string a1_1) ∧ w22.cell? ⟨gb369, 2, none⟩ = some (.slice A1_2 l1_2.length c1_2) := hS_
      obtain ⟨Ao24, co24, eo24⟩ := Kd.N_slice HO377.out
      (first | subst eo24 | (injection eo24 with f1_ f2_ f3_; have f4_ := f1_.symm; have f5_ := f3_.symm; clear f1_ f2_ f3_; subst f4_; subst f5_))
      refine norm_ (a' := ?_) ?_ ?_
      rotate_left
      ·simp only [putAll, Act.put, List.setIfInBounds_toArray, List.set_cons_zero, List.set_cons_succ]
       rfl
      refine on 7 (some 18) (fun K hK => ?_)
      refine Kd.N_append_rows_step k63 (w0 := w) w.heap.size (by rfl) (.tmp 15) (.tmp 17) 29 63 (.agg #[(.int .i64 0), (.string ⟨#[]⟩), (.slice none 0 0)]) 48 rfl Tryd.underlying29 info63 rfl (by decide) (by omega) v373 t372 y375 _ _ _ (fun k_ => ((P0_1_ k_ ∨ P1_2_ k_) ∨ w.heap.size ≤ k_) ∧ k_ ≠ gb368 ∧ k_ ≠ gb369 ∧ k_ ≠ gb370 ∧ k_ ≠ gb387) (fun k_ => ((fun k_ => ((P0_1_ k_ ∨ P1_2_ k_) ∨ w.heap.size ≤ k_) ∧ k_ ≠ gb368 ∧ k_ ≠ gb369 ∧ k_ ≠ gb370 ∧ k_ ≠ gb387)) k_ ∧ some k_ ≠ (v373 : Value).ownBlock) rfl rfl ?aO ?aR (fun _ hk => hk) ?aF ?aB ?aS ?aL ?_
      (case aR => exact (by skip; exact Kd.N_F (Kd.N_mono (ok' := (fun k_ => ((fun k_ => ((P0_1_ k_ ∨ P1_2_ k_) ∨ w.heap.size ≤ k_) ∧ k_ ≠ gb368 ∧ k_ ≠ gb369 ∧ k_ ≠ gb370 ∧ k_ ≠ gb387)) k_ ∧ some k_ ≠ (v373 : Value).ownBlock)) (HO377.out) (fun k_ hk => ⟨⟨hk.1, ⟨hk.2.2.1, ⟨hk.2.2.2.1, ⟨hk.2.2.2.2.1, hk.2.2.2.2.2⟩⟩⟩⟩, hk.2.1⟩))))
      (case aB => exact ZZ295621)
      (case aF => exact (fun k_ hk => ⟨(.inr (Nat.le_trans (below_size ZZ295621) hk)), Kd.freshB (zB BK368) k_ hk, Kd.freshB (zB BK369) k_ hk, Kd.freshB (zB BK370) k_ hk, Kd.freshB (zB BK387) k_ hk⟩))
      (case aO => exact (by refine bN ?_; exact Kd.N_mono HO374.out (fun _ hk => ⟨hk.1, ⟨hk.2.2.1, ⟨hk.2.2.2.1, ⟨hk.2.2.2.2.1, hk.2.2.2.2.2⟩⟩⟩⟩)))
      (case aS => exact (below_size ZZ295621))
      (case aL => have := LMc6.out; omega)
      intro v379 w23 ho hb hg hat
      rw [← Ny378.out] at ho
      replace HO0_1 := Aside0.mk (Kd.V_afterv (ok := (fun k_ => ((P0_1_ k_ ∨ P1_2_ k_) ∨ w.heap.size ≤ k_) ∧ some k_ ≠ (.slice Ao24 y375.length co24 : Value).ownBlock ∧ k_ ≠ gb368 ∧ k_ ≠ gb369 ∧ k_ ≠ gb370 ∧ k_ ≠ gb387)) (by refine bV ?_; exact Kd.V_mono HO0_1.out (fun _ hk => ⟨⟨hk.1, ⟨hk.2.2.1, ⟨hk.2.2.2.1, ⟨hk.2.2.2.2.1, ⟨hk.2.2.2.2.2.1, hk.2.2.2.2.2.2⟩⟩⟩⟩⟩, hk.2.1⟩)) hg hat)
      replace HO1_2 := Aside0.mk (Kd.V_afterv (ok := (fun k_ => ((P0_1_ k_ ∨ P1_2_ k_) ∨ w.heap.size ≤ k_) ∧ some k_ ≠ (.slice Ao24 y375.length co24 : Value).ownBlock ∧ k_ ≠ gb368 ∧ k_ ≠ gb369 ∧ k_ ≠ gb370 ∧ k_ ≠ gb387)) (by refine bV ?_; exact Kd.V_mono HO1_2.out (fun _ hk => ⟨⟨hk.1, ⟨hk.2.2.1, ⟨hk.2.2.2.1, ⟨hk.2.2.2.2.1, ⟨hk.2.2.2.2.2.1, hk.2.2.2.2.2.2⟩⟩⟩⟩⟩, hk.2.1⟩)) hg hat)
      replace BK368 := Aside0.mk (blk_grown (zB BK368) hg (Kd.N_ne HO374.out BK368.out (by decide)))
      replace BK369 := Aside0.mk (blk_grown (zB BK369) hg (Kd.N_away HO374.out (fun _ hk => hk.2.2.2.1)))
      replace BK370 := Aside0.mk (blk_grown (zB BK370) hg (Kd.N_ne HO374.out BK370.out (by decide)))
      replace HO377 := Aside0.mk (Kd.N_afterv (ok := (fun k_ => ((P0_1_ k_ ∨ P1_2_ k_) ∨ w.heap.size ≤ k_) ∧ k_ ≠ gb368 ∧ k_ ≠ gb369 ∧ k_ ≠ gb370 ∧ k_ ≠ gb387)) (by refine bN ?_; exact Kd.N_mono HO377.out (fun _ hk => ⟨⟨hk.1, ⟨hk.2.2.1, ⟨hk.2.2.2.1, ⟨hk.2.2.2.2.1, hk.2.2.2.2.2⟩⟩⟩⟩, hk.2.1⟩)) hg hat)
      replace BK387 := Aside0.mk (blk_grown (zB BK387) hg (Kd.N_ne HO374.out BK387.out (by decide)))
      replace HB := Aside0.mk (hb)
      have HO380 := Aside0.mk (ho)
      clear HO374
      clear ho hb hg hat
      obtain ⟨Ao25, co25, eo25⟩ := Kd.N_slice HO380.out
      (first | subst eo25 | (injection eo25 with f1_ f2_ f3_; have f4_ := f1_.symm; have f5_ := f3_.symm; clear f1_ f2_ f3_; subst f4_; subst f5_))
      refine hK.out _ _ zK (fun hHeld => ?_)
      clear hK K
      refine nd (some 18) ?_
      refine pu 8 19 ?_
      exact norm_ ZZ014134 (hJ4_6_7_10 (v373, .slice Ao24 y375.length co24, .slice Ao25 y378.length co25, gb387) _ ⟨hHeld, ZZff724a, ZZbd8012, ZZf88850, ZZ3083f5, (zB BK368), (zB BK369), (zB BK370), (zB BK387), GW387.out, GE387.out, NB368_387.out, NB387_368.out, NB369_387.out, NB387_369.out, NB370_387.out, NB387_370.out, ZZ295621⟩)
     skip
     rintro ⟨v373, v376, v379⟩ w24 ⟨hS_, h0_, h1_, h2_, h3_, h4_, h5_, h6_, h7_⟩
     have n0_ : Aside0 (Kd.V k63 63 w24 w.heap.size (fun k_ => ((P0_1_ k_ ∨ P1_2_ k_) ∨ w.heap.size ≤ k_) ∧ some k_ ≠ (v376 : Value).ownBlock ∧ some k_ ≠ (v379 : Value).ownBlock ∧ k_ ≠ gb368 ∧ k_ ≠ gb369 ∧ k_ ≠ gb370) (.slice A0_1 l0_1.length c0_1) l0_1) := ⟨h0_⟩
     have n1_ : Aside0 (Kd.V k70 70 w24 w.heap.size (fun k_ => ((P0_1_ k_ ∨ P1_2_ k_) ∨ w.heap.size ≤ k_) ∧ some k_ ≠ (v376 : Value).ownBlock ∧ some k_ ≠ (v379 : Value).ownBlock ∧ k_ ≠ gb368 ∧ k_ ≠ gb369 ∧ k_ ≠ gb370) (.slice A1_2 l1_2.length c1_2) l1_2) := ⟨h1_⟩
     have n2_ : Aside0 (Kd.N k63 63 w24 w.heap.size (fun k_ => ((P0_1_ k_ ∨ P1_2_ k_) ∨ w.heap.size ≤ k_) ∧ some k_ ≠ (v379 : Value).ownBlock ∧ k_ ≠ gb368 ∧ k_ ≠ gb369 ∧ k_ ≠ gb370) v376 y375) := ⟨h2_⟩
     have n3_ : Aside0 (Kd.N k63 63 w24 w.heap.size (fun k_ => ((P0_1_ k_ ∨ P1_2_ k_) ∨ w.heap.size ≤ k_) ∧ k_ ≠ gb368 ∧ k_ ≠ gb369 ∧ k_ ≠ gb370) v379 y378) := ⟨h3_⟩
     have n4_ : Aside0 (w24.heap[gb368]? = some (.cells #[.slice A0_0 l0_0.length c0_0, .slice A0_1 l0_1.length c0_1] 31 (0, 0))) := ⟨h4_⟩
     have n5_ : Aside0 (w24.heap[gb369]? = some (.cells #[.int .i64 a1_0, .string a1_1, .slice A1_2 l1_2.length c1_2] 63 (0, 0))) := ⟨h5_⟩
     have n6_ : Aside0 (w24.heap[gb370]? = some (.cells #[.slice none 0 0, .slice none 0 0] 31 (0, 0))) := ⟨h6_⟩
     have n7_ : Aside0 (Below w.heap.size w w24) := ⟨h7_⟩
     clear HO0_1
     clear HO1_2
     clear BK368
     clear BK369
     clear BK370
     clear HB
     clear h0_ h1_ h2_ h3_ h4_ h5_ h6_ h7_
     have HO0_1 := n0_
     have HO1_2 := n1_
     have HO377 := n2_
     have HO380 := n3_
     have BK368 := n4_
     have BK369 := n5_
     have BK370 := n6_
     have HB := n7_
     clear n0_ n1_ n2_ n3_ n4_ n5_ n6_ n7_
     have hHeld : w24.cell? ⟨gb368, 0, none⟩ = some (.slice A0_0 l0_0.length c0_0) ∧ w24.cell? ⟨gb368, 1, none⟩ = some (.slice A0_1 l0_1.length c0_1) ∧ w24.cell? ⟨gb369, 0, none⟩ = some (.int .i64 a1_0) ∧ w24.cell? ⟨gb369, 1, none⟩ = some (.string a1_1) ∧ w24.cell? ⟨gb369, 2, none⟩ = some (.slice A1_2 l1_2.length c1_2) := hS_
     obtain ⟨Ao25, co25, eo25⟩ := Kd.N_slice HO380.out
     (first | subst eo25 | (injection eo25 with f1_ f2_ f3_; have f4_ := f1_.symm; have f5_ := f3_.symm; clear f1_ f2_ f3_; subst f4_; subst f5_))
     refine norm_ (a' := ?_) ?_ ?_
     rotate_left
     ·simp only [putAll, Act.put, List.setIfInBounds_toArray, List.set_cons_zero, List.set_cons_succ]
      rfl
     refine two_ (i := 9) (j := 10) (Ni := some 20) (Nj := some 6) #[true, true, true, true, true, true, true, true, true, true, false, false] #[true, true, true, true, true, true, true, true, true, false, true, false] rfl rfl rfl rfl (two_of HT_.out (by kernel_rfl)) (by decide) (by decide) (fun K hK => ?_) (fun K hK => ?_)
     ·skip
      refine goes_ Tryd.func76 (by kernel_rfl) rfl #[.agg #[.slice A0_0 l0_0.length c0_0, .slice Ao25 y378.length co25]] (by rfl) rfl rfl ZZ19826e ?_
      with_reducible refine (impl_ownLedger.calls k _ _ l0_0 _ _ y378 t381 t384 _ ?side1 ?side2 ?side3 ?side4 A7.out).mono ?_
      (case side1 => exact (rC (Kd.C_below HR0_0.out HB.out)))
      (case side2 => exact HC0_0.out)
      (case side3 => exact rC (Kd.N_reads' HO380.out).2.2)
      (case side4 => exact (Kd.N_reads' HO380.out).2.1)
      rintro e w26 ⟨v382, v385, rfl, ho0, ho1, hb⟩
      refine ⟨_, rfl, ?_⟩
      replace HO0_1 := Aside0.mk (Kd.V_mono (Kd.V_told (Kd.V_told (Kd.V_old ZZ1186ef hb) (Kd.R_base ho0)) (Kd.S_base ho1)) (fun _ h_ => h_.1))
      replace HO1_2 := Aside0.mk (Kd.V_mono (Kd.V_told (Kd.V_told (Kd.V_old ZZ6ff8a7 hb) (Kd.R_base ho0)) (Kd.S_base ho1)) (fun _ h_ => h_.1))
      have HO383 := Aside0.mk (Kd.R_lower (Kd.R_newM (M := fun k_ => (w.heap.size ≤ k_)) ho0 (below_size ZZ295621) (fun k_ h_ => h_)) (below_size ZZ295621))
      have HO386 := Aside0.mk (Kd.S_lower (Kd.S_newB (Kd.S_new' (Kd.S_new' (Kd.S_newM (M := fun k_ => (w.heap.size ≤ k_)) ho1 (below_size ZZ295621) (fun k_ h_ => h_)) (Kd.N_lt ZZcaddb5)) (Kd.N_lt ZZ3083f5)) (zB BK369)) (below_size ZZ295621))
      replace HO377 := Aside0.mk (Kd.N_mono (Kd.N_told (Kd.N_told (Kd.N_old ZZcaddb5 hb) (Kd.R_base ho0)) (Kd.S_base ho1)) (fun _ h_ => h_.1))
      replace HO380 := Aside0.mk (Kd.N_mono (Kd.N_told (Kd.N_told (Kd.N_old ZZ3083f5 hb) (Kd.R_base ho0)) (Kd.S_base ho1)) (fun _ h_ => h_.1))
      replace BK368 := kb BK368 hb
      replace BK369 := kb BK369 hb
      replace BK370 := kb BK370 hb
      replace HB := hB hb
      (try clear hb)
      (try clear hb2)
      (try clear hk)
      (try clear hi)
      (try clear ho0)
      (try clear ho1)
      refine hK.out _ _ zK (fun hHeld => ?_)
      clear hK K
      refine nd (some 20) ?_
      exact norm_ ZZ014134 (hJ4_6_7_9 (v373, v376, .slice Ao25 y378.length co25, v382, v385) _ ⟨hHeld, (by refine bV ?_; exact Kd.V_mono HO0_1.out (fun _ hk => ⟨hk.1.1.1, ⟨hk.1.1.2.1, ⟨hk.1.1.2.2.1, ⟨hk.1.2, ⟨hk.2, ⟨hk.1.1.2.2.2.1, ⟨hk.1.1.2.2.2.2.1, hk.1.1.2.2.2.2.2⟩⟩⟩⟩⟩⟩⟩)), (by refine bV ?_; exact Kd.V_mono HO1_2.out (fun _ hk => ⟨hk.1.1.1, ⟨hk.1.1.2.1, ⟨hk.1.1.2.2.1, ⟨hk.1.2, ⟨hk.2, ⟨hk.1.1.2.2.2.1, ⟨hk.1.1.2.2.2.2.1, hk.1.1.2.2.2.2.2⟩⟩⟩⟩⟩⟩⟩)), (by refine bN ?_; exact Kd.N_mono HO377.out (fun _ hk => ⟨hk.1.1.1, ⟨hk.1.1.2.1, ⟨hk.1.2, ⟨hk.2, ⟨hk.1.1.2.2.1, ⟨hk.1.1.2.2.2.1, hk.1.1.2.2.2.2⟩⟩⟩⟩⟩⟩)), (by refine bN ?_; exact Kd.N_mono HO380.out (fun _ hk => ⟨hk.1.1.1, ⟨hk.1.2, ⟨hk.2, ⟨hk.1.1.2.1, ⟨hk.1.1.2.2.1, hk.1.1.2.2.2⟩⟩⟩⟩⟩)), ZZ13ea4a, ZZf8b581, (zB BK368), (zB BK369), (zB BK370), ZZ295621⟩)
     skip
     refine box_step ?hg (N := 6) ?hd (cs := #[.slice none 0 0, .slice none 0 0]) (t := 31) ?hr ?_; (case hd => rfl); (case hg => rfl); (case hr => first | (go_simp; done) | (go_simp; rfl))
     intro gb387 hg w26 hbox hb
     replace HO0_1 := Aside0.mk (Kd.V_below (Kd.V_elderB ZZ1186ef gb387 (Nat.le_of_eq hg.symm)) hb)
     replace HO1_2 := Aside0.mk (Kd.V_below (Kd.V_elderB ZZ6ff8a7 gb387 (Nat.le_of_eq hg.symm)) hb)
     replace HO377 := Aside0.mk (Kd.N_below (Kd.N_elderB ZZcaddb5 gb387 (Nat.le_of_eq hg.symm)) hb)
     replace HO380 := Aside0.mk (Kd.N_below (Kd.N_elderB ZZ3083f5 gb387 (Nat.le_of_eq hg.symm)) hb)
     have BK387 := Aside0.mk (hbox)
     have GW387 := gw hg
     have GE387 := gw hg
     replace HB := hB hb
     have NB368_387 := nl hg BK368
     have NB387_368 := ng hg BK368
     replace BK368 := kb BK368 hb
     have NB369_387 := nl hg BK369
     have NB387_369 := ng hg BK369
     replace BK369 := kb BK369 hb
     have NB370_387 := nl hg BK370
     have NB387_370 := ng hg BK370
     replace BK370 := kb BK370 hb
     clear hb hbox hg
     refine hK.out _ _ zK (fun hHeld => ?_)
     clear hK K
     refine nd (some 6) ?_
     exact norm_ ZZ014134 (hJ4_6_7_10 (v373, v376, .slice Ao25 y378.length co25, gb387) _ ⟨hHeld, ZZ22d34a, ZZb93140, ZZ047514, (by refine bN ?_; exact Kd.N_mono HO380.out (fun _ hk => ⟨hk.1.1, ⟨hk.1.2.1, ⟨hk.1.2.2.1, ⟨hk.1.2.2.2, hk.2⟩⟩⟩⟩)), (zB BK368), (zB BK369), (zB BK370), (zB BK387), GW387.out, GE387.out, NB368_387.out, NB387_368.out, NB369_387.out, NB387_369.out, NB370_387.out, NB387_370.out, ZZ295621⟩)
    skip
    rintro ⟨v373, v376, v379, gb387⟩ w25 ⟨hS_, h0_, h1_, h2_, h3_, h4_, h5_, h6_, h7_, h8_, h9_, h10_, h11_, h12_, h13_, h14_, h15_, h16_⟩
    have n0_ : Aside0 (Kd.V k63 63 w25 w.heap.size (fun k_ => ((P0_1_ k_ ∨ P1_2_ k_) ∨ w.heap.size ≤ k_) ∧ some k_ ≠ (v376 : Value).ownBlock ∧ some k_ ≠ (v379 : Value).ownBlock ∧ k_ ≠ gb368 ∧ k_ ≠ gb369 ∧ k_ ≠ gb370 ∧ k_ ≠ gb387) (.slice A0_1 l0_1.length c0_1) l0_1) := ⟨h0_⟩
    have n1_ : Aside0 (Kd.V k70 70 w25 w.heap.size (fun k_ => ((P0_1_ k_ ∨ P1_2_ k_) ∨ w.heap.size ≤ k_) ∧ some k_ ≠ (v376 : Value).ownBlock ∧ some k_ ≠ (v379 : Value).ownBlock ∧ k_ ≠ gb368 ∧ k_ ≠ gb369 ∧ k_ ≠ gb370 ∧ k_ ≠ gb387) (.slice A1_2 l1_2.length c1_2) l1_2) := ⟨h1_⟩
    have n2_ : Aside0 (Kd.N k63 63 w25 w.heap.size (fun k_ => ((P0_1_ k_ ∨ P1_2_ k_) ∨ w.heap.size ≤ k_) ∧ some k_ ≠ (v379 : Value).ownBlock ∧ k_ ≠ gb368 ∧ k_ ≠ gb369 ∧ k_ ≠ gb370 ∧ k_ ≠ gb387) v376 y375) := ⟨h2_⟩
    have n3_ : Aside0 (Kd.N k63 63 w25 w.heap.size (fun k_ => ((P0_1_ k_ ∨ P1_2_ k_) ∨ w.heap.size ≤ k_) ∧ k_ ≠ gb368 ∧ k_ ≠ gb369 ∧ k_ ≠ gb370 ∧ k_ ≠ gb387) v379 y378) := ⟨h3_⟩
    have n4_ : Aside0 (w25.heap[gb368]? = some (.cells #[.slice A0_0 l0_0.length c0_0, .slice A0_1 l0_1.length c0_1] 31 (0, 0))) := ⟨h4_⟩
    have n5_ : Aside0 (w25.heap[gb369]? = some (.cells #[.int .i64 a1_0, .string a1_1, .slice A1_2 l1_2.length c1_2] 63 (0, 0))) := ⟨h5_⟩
    have n6_ : Aside0 (w25.heap[gb370]? = some (.cells #[.slice none 0 0, .slice none 0 0] 31 (0, 0))) := ⟨h6_⟩
    have n7_ : Aside0 (w25.heap[gb387]? = some (.cells #[.slice none 0 0, .slice none 0 0] 31 (0, 0))) := ⟨h7_⟩
    have n8_ : Aside0 (w.heap.size ≤ gb387) := ⟨h8_⟩
    have n9_ : Aside0 (w.heap.size ≤ gb387) := ⟨h9_⟩
    have n10_ : Aside0 (gb368 ≠ gb387) := ⟨h10_⟩
    have n11_ : Aside0 (gb387 ≠ gb368) := ⟨h11_⟩
    have n12_ : Aside0 (gb369 ≠ gb387) := ⟨h12_⟩
    have n13_ : Aside0 (gb387 ≠ gb369) := ⟨h13_⟩
    have n14_ : Aside0 (gb370 ≠ gb387) := ⟨h14_⟩
    have n15_ : Aside0 (gb387 ≠ gb370) := ⟨h15_⟩
    have n16_ : Aside0 (Below w.heap.size w w25) := ⟨h16_⟩
    clear HO0_1
    clear HO1_2
    clear BK368
    clear BK369
    clear BK370
    clear HB
    clear h0_ h1_ h2_ h3_ h4_ h5_ h6_ h7_ h8_ h9_ h10_ h11_ h12_ h13_ h14_ h15_ h16_
    have HO0_1 := n0_
    have HO1_2 := n1_
    have HO377 := n2_
    have HO380 := n3_
    have BK368 := n4_
    have BK369 := n5_
    have BK370 := n6_
    have BK387 := n7_
    have GW387 := n8_
    have GE387 := n9_
    have NB368_387 := n10_
    have NB387_368 := n11_
    have NB369_387 := n12_
    have NB387_369 := n13_
    have NB370_387 := n14_
    have NB387_370 := n15_
    have HB := n16_
    clear n0_ n1_ n2_ n3_ n4_ n5_ n6_ n7_ n8_ n9_ n10_ n11_ n12_ n13_ n14_ n15_ n16_
    have hHeld : w25.cell? ⟨gb368, 0, none⟩ = some (.slice A0_0 l0_0.length c0_0) ∧ w25.cell? ⟨gb368, 1, none⟩ = some (.slice A0_1 l0_1.length c0_1) ∧ w25.cell? ⟨gb369, 0, none⟩ = some (.int .i64 a1_0) ∧ w25.cell? ⟨gb369, 1, none⟩ = some (.string a1_1) ∧ w25.cell? ⟨gb369, 2, none⟩ = some (.slice A1_2 l1_2.length c1_2) := hS_
    obtain ⟨Ao26, co26, eo26⟩ := Kd.N_slice HO380.out
    (first | subst eo26 | (injection eo26 with f1_ f2_ f3_; have f4_ := f1_.symm; have f5_ := f3_.symm; clear f1_ f2_ f3_; subst f4_; subst f5_))
    refine norm_ (a' := ?_) ?_ ?_
    rotate_left
    ·simp only [putAll, Act.put, List.setIfInBounds_toArray, List.set_cons_zero, List.set_cons_succ]
     rfl
    refine on 9 (some 20) (fun K hK => ?_)
    refine goes_ Tryd.func76 (by kernel_rfl) rfl #[.agg #[.slice A0_0 l0_0.length c0_0, .slice Ao26 y378.length co26]] (by rfl) rfl rfl ZZ19826e ?_
    with_reducible refine (impl_ownLedger.calls k _ _ l0_0 _ _ y378 t381 t384 _ ?side1 ?side2 ?side3 ?side4 A7.out).mono ?_
    (case side1 => exact (rC (Kd.C_below HR0_0.out HB.out)))
    (case side2 => exact HC0_0.out)
    (case side3 => exact rC (Kd.N_reads' HO380.out).2.2)
    (case side4 => exact (Kd.N_reads' HO380.out).2.1)
    rintro e w27 ⟨v382, v385, rfl, ho0, ho1, hb⟩
    refine ⟨_, rfl, ?_⟩
    replace HO0_1 := Aside0.mk (Kd.V_mono (Kd.V_told (Kd.V_told (Kd.V_old ZZ1186ef hb) (Kd.R_base ho0)) (Kd.S_base ho1)) (fun _ h_ => h_.1))
    replace HO1_2 := Aside0.mk (Kd.V_mono (Kd.V_told (Kd.V_told (Kd.V_old ZZ6ff8a7 hb) (Kd.R_base ho0)) (Kd.S_base ho1)) (fun _ h_ => h_.1))
    have HO383 := Aside0.mk (Kd.R_lower (Kd.R_newM (M := fun k_ => (w.heap.size ≤ k_)) ho0 (below_size ZZ295621) (fun k_ h_ => h_)) (below_size ZZ295621))
    have HO386 := Aside0.mk (Kd.S_lower (Kd.S_newB (Kd.S_new' (Kd.S_new' (Kd.S_newM (M := fun k_ => (w.heap.size ≤ k_)) ho1 (below_size ZZ295621) (fun k_ h_ => h_)) (Kd.N_lt ZZcaddb5)) (Kd.N_lt ZZ3083f5)) (zB BK369)) (below_size ZZ295621))
    replace HO377 := Aside0.mk (Kd.N_mono (Kd.N_told (Kd.N_told (Kd.N_old ZZcaddb5 hb) (Kd.R_base ho0)) (Kd.S_base ho1)) (fun _ h_ => h_.1))
    replace HO380 := Aside0.mk (Kd.N_mono (Kd.N_told (Kd.N_told (Kd.N_old ZZ3083f5 hb) (Kd.R_base ho0)) (Kd.S_base ho1)) (fun _ h_ => h_.1))
    replace BK368 := kb BK368 hb
    replace BK369 := kb BK369 hb
    replace BK370 := kb BK370 hb
    replace BK387 := kb BK387 hb
    replace HB := hB hb
    (try clear hb)
    (try clear hb2)
    (try clear hk)
    (try clear hi)
    (try clear ho0)
    (try clear ho1)
    refine hK.out _ _ zK (fun hHeld => ?_)
    clear hK K
    refine nd (some 20) ?_
    exact norm_ ZZ014134 (hJ4_6_7_9_10 (v373, v376, .slice Ao26 y378.length co26, v382, v385, gb387) _ ⟨hHeld, (by refine bV ?_; exact Kd.V_mono HO0_1.out (fun _ hk => ⟨hk.1.1.1, ⟨hk.1.1.2.1, ⟨hk.1.1.2.2.1, ⟨hk.1.2, ⟨hk.2, ⟨hk.1.1.2.2.2.1, ⟨hk.1.1.2.2.2.2.1, ⟨hk.1.1.2.2.2.2.2.1, hk.1.1.2.2.2.2.2.2⟩⟩⟩⟩⟩⟩⟩⟩)), (by refine bV ?_; exact Kd.V_mono HO1_2.out (fun _ hk => ⟨hk.1.1.1, ⟨hk.1.1.2.1, ⟨hk.1.1.2.2.1, ⟨hk.1.2, ⟨hk.2, ⟨hk.1.1.2.2.2.1, ⟨hk.1.1.2.2.2.2.1, ⟨hk.1.1.2.2.2.2.2.1, hk.1.1.2.2.2.2.2.2⟩⟩⟩⟩⟩⟩⟩⟩)), (by refine bN ?_; exact Kd.N_mono HO377.out (fun _ hk => ⟨hk.1.1.1, ⟨hk.1.1.2.1, ⟨hk.1.2, ⟨hk.2, ⟨hk.1.1.2.2.1, ⟨hk.1.1.2.2.2.1, ⟨hk.1.1.2.2.2.2.1, hk.1.1.2.2.2.2.2⟩⟩⟩⟩⟩⟩⟩)), (by refine bN ?_; exact Kd.N_mono HO380.out (fun _ hk => ⟨hk.1.1.1, ⟨hk.1.2, ⟨hk.2, ⟨hk.1.1.2.1, ⟨hk.1.1.2.2.1, ⟨hk.1.1.2.2.2.1, hk.1.1.2.2.2.2⟩⟩⟩⟩⟩⟩)), ZZ13ea4a, ZZf8b581, (zB BK368), (zB BK369), (zB BK370), (zB BK387), GW387.out, GE387.out, NB368_387.out, NB387_368.out, NB369_387.out, NB387_369.out, NB370_387.out, NB387_370.out, ZZ295621⟩)
   skip
   rintro ⟨v373, v376, v379, v382, v385⟩ w25 ⟨hS_, h0_, h1_, h2_, h3_, h4_, h5_, h6_, h7_, h8_, h9_⟩
   have n0_ : Aside0 (Kd.V k63 63 w25 w.heap.size (fun k_ => ((P0_1_ k_ ∨ P1_2_ k_) ∨ w.heap.size ≤ k_) ∧ some k_ ≠ (v376 : Value).ownBlock ∧ some k_ ≠ (v379 : Value).ownBlock ∧ some k_ ≠ (v382 : Value).ownBlock ∧ some k_ ≠ (v385 : Value).ownBlock ∧ k_ ≠ gb368 ∧ k_ ≠ gb369 ∧ k_ ≠ gb370) (.slice A0_1 l0_1.length c0_1) l0_1) := ⟨h0_⟩
   have n1_ : Aside0 (Kd.V k70 70 w25 w.heap.size (fun k_ => ((P0_1_ k_ ∨ P1_2_ k_) ∨ w.heap.size ≤ k_) ∧ some k_ ≠ (v376 : Value).ownBlock ∧ some k_ ≠ (v379 : Value).ownBlock ∧ some k_ ≠ (v382 : Value).ownBlock ∧ some k_ ≠ (v385 : Value).ownBlock ∧ k_ ≠ gb368 ∧ k_ ≠ gb369 ∧ k_ ≠ gb370) (.slice A1_2 l1_2.length c1_2) l1_2) := ⟨h1_⟩
   have n2_ : Aside0 (Kd.N k63 63 w25 w.heap.size (fun k_ => ((P0_1_ k_ ∨ P1_2_ k_) ∨ w.heap.size ≤ k_) ∧ some k_ ≠ (v379 : Value).ownBlock ∧ some k_ ≠ (v382 : Value).ownBlock ∧ some k_ ≠ (v385 : Value).ownBlock ∧ k_ ≠ gb368 ∧ k_ ≠ gb369 ∧ k_ ≠ gb370) v376 y375) := ⟨h2_⟩
   have n3_ : Aside0 (Kd.N k63 63 w25 w.heap.size (fun k_ => ((P0_1_ k_ ∨ P1_2_ k_) ∨ w.heap.size ≤ k_) ∧ some k_ ≠ (v382 : Value).ownBlock ∧ some k_ ≠ (v385 : Value).ownBlock ∧ k_ ≠ gb368 ∧ k_ ≠ gb369 ∧ k_ ≠ gb370) v379 y378) := ⟨h3_⟩
   have n4_ : Aside0 (Kd.R k48 48 w25 w.heap.size (fun k_ => (w.heap.size ≤ k_)) v382 t381) := ⟨h4_⟩
   have n5_ : Aside0 (Kd.S k63 63 w25 w.heap.size (fun k_ => (w.heap.size ≤ k_) ∧ some k_ ≠ (v376 : Value).ownBlock ∧ some k_ ≠ (v379 : Value).ownBlock ∧ k_ ≠ gb369) v385 t384) := ⟨h5_⟩
   have n6_ : Aside0 (w25.heap[gb368]? = some (.cells #[.slice A0_0 l0_0.length c0_0, .slice A0_1 l0_1.length c0_1] 31 (0, 0))) := ⟨h6_⟩
   have n7_ : Aside0 (w25.heap[gb369]? = some (.cells #[.int .i64 a1_0, .string a1_1, .slice A1_2 l1_2.length c1_2] 63 (0, 0))) := ⟨h7_⟩
   have n8_ : Aside0 (w25.heap[gb370]? = some (.cells #[.slice none 0 0, .slice none 0 0] 31 (0, 0))) := ⟨h8_⟩
   have n9_ : Aside0 (Below w.heap.size w w25) := ⟨h9_⟩
   clear HO0_1
   clear HO1_2
   clear BK368
   clear BK369
   clear BK370
   clear HB
   clear h0_ h1_ h2_ h3_ h4_ h5_ h6_ h7_ h8_ h9_
   have HO0_1 := n0_
   have HO1_2 := n1_
   have HO377 := n2_
   have HO380 := n3_
   have HO383 := n4_
   have HO386 := n5_
   have BK368 := n6_
   have BK369 := n7_
   have BK370 := n8_
   have HB := n9_
   clear n0_ n1_ n2_ n3_ n4_ n5_ n6_ n7_ n8_ n9_
   have hHeld : w25.cell? ⟨gb368, 0, none⟩ = some (.slice A0_0 l0_0.length c0_0) ∧ w25.cell? ⟨gb368, 1, none⟩ = some (.slice A0_1 l0_1.length c0_1) ∧ w25.cell? ⟨gb369, 0, none⟩ = some (.int .i64 a1_0) ∧ w25.cell? ⟨gb369, 1, none⟩ = some (.string a1_1) ∧ w25.cell? ⟨gb369, 2, none⟩ = some (.slice A1_2 l1_2.length c1_2) := hS_
   obtain ⟨Ao26, co26, eo26⟩ := Kd.N_slice HO380.out
   (first | subst eo26 | (injection eo26 with f1_ f2_ f3_; have f4_ := f1_.symm; have f5_ := f3_.symm; clear f1_ f2_ f3_; subst f4_; subst f5_))
   refine norm_ (a' := ?_) ?_ ?_
   rotate_left
   ·simp only [putAll, Act.put, List.setIfInBounds_toArray, List.set_cons_zero, List.set_cons_succ]
    rfl
   refine on 10 (some 6) (fun K hK => ?_)
   refine box_step ?hg (N := 6) ?hd (cs := #[.slice none 0 0, .slice none 0 0]) (t := 31) ?hr ?_; (case hd => rfl); (case hg => rfl); (case hr => first | (go_simp; done) | (go_simp; rfl))
   intro gb387 hg w27 hbox hb
   replace HO0_1 := Aside0.mk (Kd.V_below (Kd.V_elderB ZZ1186ef gb387 (Nat.le_of_eq hg.symm)) hb)
   replace HO1_2 := Aside0.mk (Kd.V_below (Kd.V_elderB ZZ6ff8a7 gb387 (Nat.le_of_eq hg.symm)) hb)
   replace HO377 := Aside0.mk (Kd.N_below (Kd.N_elderB ZZcaddb5 gb387 (Nat.le_of_eq hg.symm)) hb)
   replace HO380 := Aside0.mk (Kd.N_below (Kd.N_elderB ZZ3083f5 gb387 (Nat.le_of_eq hg.symm)) hb)
   replace HO383 := Aside0.mk (Kd.R_below (zR HO383) hb)
   replace HO386 := Aside0.mk (Kd.S_below (zS HO386) hb)
   have BK387 := Aside0.mk (hbox)
   have GW387 := gw hg
   have GE387 := gw hg
   replace HB := hB hb
   have NB368_387 := nl hg BK368
   have NB387_368 := ng hg BK368
   replace BK368 := kb BK368 hb
   have NB369_387 := nl hg BK369
   have NB387_369 := ng hg BK369
   replace BK369 := kb BK369 hb
   have NB370_387 := nl hg BK370
   have NB387_370 := ng hg BK370
   replace BK370 := kb BK370 hb
   clear hb hbox hg
   refine hK.out _ _ zK (fun hHeld => ?_)
   clear hK K
   refine nd (some 6) ?_
   exact norm_ ZZ014134 (hJ4_6_7_9_10 (v373, v376, .slice Ao26 y378.length co26, v382, v385, gb387) _ ⟨hHeld, (by refine bV ?_; exact Kd.V_mono HO0_1.out (fun _ hk => ⟨hk.1.1, ⟨hk.1.2.1, ⟨hk.1.2.2.1, ⟨hk.1.2.2.2.1, ⟨hk.1.2.2.2.2.1, ⟨hk.1.2.2.2.2.2.1, ⟨hk.1.2.2.2.2.2.2.1, ⟨hk.1.2.2.2.2.2.2.2, hk.2⟩⟩⟩⟩⟩⟩⟩⟩)), (by refine bV ?_; exact Kd.V_mono HO1_2.out (fun _ hk => ⟨hk.1.1, ⟨hk.1.2.1, ⟨hk.1.2.2.1, ⟨hk.1.2.2.2.1, ⟨hk.1.2.2.2.2.1, ⟨hk.1.2.2.2.2.2.1, ⟨hk.1.2.2.2.2.2.2.1, ⟨hk.1.2.2.2.2.2.2.2, hk.2⟩⟩⟩⟩⟩⟩⟩⟩)), (by refine bN ?_; exact Kd.N_mono HO377.out (fun _ hk => ⟨hk.1.1, ⟨hk.1.2.1, ⟨hk.1.2.2.1, ⟨hk.1.2.2.2.1, ⟨hk.1.2.2.2.2.1, ⟨hk.1.2.2.2.2.2.1, ⟨hk.1.2.2.2.2.2.2, hk.2⟩⟩⟩⟩⟩⟩⟩)), (by refine bN ?_; exact Kd.N_mono HO380.out (fun _ hk => ⟨hk.1.1, ⟨hk.1.2.1, ⟨hk.1.2.2.1, ⟨hk.1.2.2.2.1, ⟨hk.1.2.2.2.2.1, ⟨hk.1.2.2.2.2.2, hk.2⟩⟩⟩⟩⟩⟩)), (zR HO383), (zS HO386), (zB BK368), (zB BK369), (zB BK370), (zB BK387), GW387.out, GE387.out, NB368_387.out, NB387_368.out, NB369_387.out, NB387_369.out, NB370_387.out, NB387_370.out, ZZ295621⟩)
  rintro ⟨v373, v376, v379, v382, v385, gb387⟩ w26 ⟨hS_, h0_, h1_, h2_, h3_, h4_, h5_, h6_, h7_, h8_, h9_, h10_, h11_, h12_, h13_, h14_, h15_, h16_, h17_, h18_⟩
  have n0_ : Aside0 (Kd.V k63 63 w26 w.heap.size (fun k_ => ((P0_1_ k_ ∨ P1_2_ k_) ∨ w.heap.size ≤ k_) ∧ some k_ ≠ (v376 : Value).ownBlock ∧ some k_ ≠ (v379 : Value).ownBlock ∧ some k_ ≠ (v382 : Value).ownBlock ∧ some k_ ≠ (v385 : Value).ownBlock ∧ k_ ≠ gb368 ∧ k_ ≠ gb369 ∧ k_ ≠ gb370 ∧ k_ ≠ gb387) (.slice A0_1 l0_1.length c0_1) l0_1) := ⟨h0_⟩
  have n1_ : Aside0 (Kd.V k70 70 w26 w.heap.size (fun k_ => ((P0_1_ k_ ∨ P1_2_ k_) ∨ w.heap.size ≤ k_) ∧ some k_ ≠ (v376 : Value).ownBlock ∧ some k_ ≠ (v379 : Value).ownBlock ∧ some k_ ≠ (v382 : Value).ownBlock ∧ some k_ ≠ (v385 : Value).ownBlock ∧ k_ ≠ gb368 ∧ k_ ≠ gb369 ∧ k_ ≠ gb370 ∧ k_ ≠ gb387) (.slice A1_2 l1_2.length c1_2) l1_2) := ⟨h1_⟩
  have n2_ : Aside0 (Kd.N k63 63 w26 w.heap.size (fun k_ => ((P0_1_ k_ ∨ P1_2_ k_) ∨ w.heap.size ≤ k_) ∧ some k_ ≠ (v379 : Value).ownBlock ∧ some k_ ≠ (v382 : Value).ownBlock ∧ some k_ ≠ (v385 : Value).ownBlock ∧ k_ ≠ gb368 ∧ k_ ≠ gb369 ∧ k_ ≠ gb370 ∧ k_ ≠ gb387) v376 y375) := ⟨h2_⟩
  have n3_ : Aside0 (Kd.N k63 63 w26 w.heap.size (fun k_ => ((P0_1_ k_ ∨ P1_2_ k_) ∨ w.heap.size ≤ k_) ∧ some k_ ≠ (v382 : Value).ownBlock ∧ some k_ ≠ (v385 : Value).ownBlock ∧ k_ ≠ gb368 ∧ k_ ≠ gb369 ∧ k_ ≠ gb370 ∧ k_ ≠ gb387) v379 y378) := ⟨h3_⟩
  have n4_ : Aside0 (Kd.R k48 48 w26 w.heap.size (fun k_ => (w.heap.size ≤ k_)) v382 t381) := ⟨h4_⟩
  have n5_ : Aside0 (Kd.S k63 63 w26 w.heap.size (fun k_ => (w.heap.size ≤ k_) ∧ some k_ ≠ (v376 : Value).ownBlock ∧ some k_ ≠ (v379 : Value).ownBlock ∧ k_ ≠ gb369) v385 t384) := ⟨h5_⟩
  have n6_ : Aside0 (w26.heap[gb368]? = some (.cells #[.slice A0_0 l0_0.length c0_0, .slice A0_1 l0_1.length c0_1] 31 (0, 0))) := ⟨h6_⟩
  have n7_ : Aside0 (w26.heap[gb369]? = some (.cells #[.int .i64 a1_0, .string a1_1, .slice A1_2 l1_2.length c1_2] 63 (0, 0))) := ⟨h7_⟩
  have n8_ : Aside0 (w26.heap[gb370]? = some (.cells #[.slice none 0 0, .slice none 0 0] 31 (0, 0))) := ⟨h8_⟩
  have n9_ : Aside0 (w26.heap[gb387]? = some (.cells #[.slice none 0 0, .slice none 0 0] 31 (0, 0))) := ⟨h9_⟩
  have n10_ : Aside0 (w.heap.size ≤ gb387) := ⟨h10_⟩
  have n11_ : Aside0 (w.heap.size ≤ gb387) := ⟨h11_⟩
  have n12_ : Aside0 (gb368 ≠ gb387) := ⟨h12_⟩
  have n13_ : Aside0 (gb387 ≠ gb368) := ⟨h13_⟩
  have n14_ : Aside0 (gb369 ≠ gb387) := ⟨h14_⟩
  have n15_ : Aside0 (gb387 ≠ gb369) := ⟨h15_⟩
  have n16_ : Aside0 (gb370 ≠ gb387) := ⟨h16_⟩
  have n17_ : Aside0 (gb387 ≠ gb370) := ⟨h17_⟩
  have n18_ : Aside0 (Below w.heap.size w w26) := ⟨h18_⟩
  clear HO0_1
  clear HO1_2
  clear BK368
  clear BK369
  clear BK370
  clear HB
  clear h0_ h1_ h2_ h3_ h4_ h5_ h6_ h7_ h8_ h9_ h10_ h11_ h12_ h13_ h14_ h15_ h16_ h17_ h18_
  have HO0_1 := n0_
  have HO1_2 := n1_
  have HO377 := n2_
  have HO380 := n3_
  have HO383 := n4_
  have HO386 := n5_
  have BK368 := n6_
  have BK369 := n7_
  have BK370 := n8_
  have BK387 := n9_
  have GW387 := n10_
  have GE387 := n11_
  have NB368_387 := n12_
  have NB387_368 := n13_
  have NB369_387 := n14_
  have NB387_369 := n15_
  have NB370_387 := n16_
  have NB387_370 := n17_
  have HB := n18_
  clear n0_ n1_ n2_ n3_ n4_ n5_ n6_ n7_ n8_ n9_ n10_ n11_ n12_ n13_ n14_ n15_ n16_ n17_ n18_
  have hHeld : w26.cell? ⟨gb368, 0, none⟩ = some (.slice A0_0 l0_0.length c0_0) ∧ w26.cell? ⟨gb368, 1, none⟩ = some (.slice A0_1 l0_1.length c0_1) ∧ w26.cell? ⟨gb369, 0, none⟩ = some (.int .i64 a1_0) ∧ w26.cell? ⟨gb369, 1, none⟩ = some (.string a1_1) ∧ w26.cell? ⟨gb369, 2, none⟩ = some (.slice A1_2 l1_2.length c1_2) := hS_
  obtain ⟨Ao27, co27, eo27⟩ := Kd.N_slice HO380.out
  (first | subst eo27 | (injection eo27 with f1_ f2_ f3_; have f4_ := f1_.symm; have f5_ := f3_.symm; clear f1_ f2_ f3_; subst f4_; subst f5_))
  obtain ⟨Ao28, co28, eo28⟩ := Kd.R_slice HO383.out
  (first | subst eo28 | (injection eo28 with f1_ f2_ f3_; have f4_ := f1_.symm; have f5_ := f3_.symm; clear f1_ f2_ f3_; subst f4_; subst f5_))
  obtain ⟨Ao30, co30, eo30⟩ := Kd.S_slice HO386.out
  (first | subst eo30 | (injection eo30 with f1_ f2_ f3_; have f4_ := f1_.symm; have f5_ := f3_.symm; clear f1_ f2_ f3_; subst f4_; subst f5_))
  refine norm_ (a' := ?_) ?_ ?_
  rotate_left
  ·simp only [putAll, Act.put, List.setIfInBounds_toArray, List.set_cons_zero, List.set_cons_succ]
   rfl
  refine on 11 none (fun K hK => ?_)
  have hs29 := cz BK387 0
  have hfs29 := blk_frozen BK387.out 0
  have hns29_0 := NB368_387.out
  have hns29_1 := NB369_387.out
  have hns29_2 := NB370_387.out
  have hms29_0 := NB387_368.out
  have hms29_1 := NB387_369.out
  have hms29_2 := NB387_370.out
  have hs31 := cz BK387 1
  have hfs31 := blk_frozen BK387.out 1
  have hns31_0 := NB368_387.out
  have hns31_1 := NB369_387.out
  have hns31_2 := NB370_387.out
  have hms31_0 := NB387_368.out
  have hms31_1 := NB387_369.out
  have hms31_2 := NB387_370.out
  refine skip_ (w1 := ?_) (by rfl) rfl ?_ ?_
  rotate_left
  ·go_simp
   rfl
  refine hK.out _ _ ⟨((cell_far (p := ⟨gb387, _, none⟩) NB368_387.out _).trans (((cell_far (p := ⟨gb387, _, none⟩) NB368_387.out _).trans (hHeld.1)))), ((cell_far (p := ⟨gb387, _, none⟩) NB368_387.out _).trans (((cell_far (p := ⟨gb387, _, none⟩) NB368_387.out _).trans (hHeld.2.1)))), ((cell_far (p := ⟨gb387, _, none⟩) NB369_387.out _).trans (((cell_far (p := ⟨gb387, _, none⟩) NB369_387.out _).trans (hHeld.2.2.1)))), ((cell_far (p := ⟨gb387, _, none⟩) NB369_387.out _).trans (((cell_far (p := ⟨gb387, _, none⟩) NB369_387.out _).trans (hHeld.2.2.2.1)))), ((cell_far (p := ⟨gb387, _, none⟩) NB369_387.out _).trans (((cell_far (p := ⟨gb387, _, none⟩) NB369_387.out _).trans (hHeld.2.2.2.2))))⟩ (fun hHeld => ?_)
  clear hK K
  refine done_ (done_of HT_.out (by kernel_rfl)) ?_
  have hnb32 := NB387_368.out
  have hnc32 := NB368_387.out
  have hnb33 := NB387_369.out
  have hnc33 := NB369_387.out
  have hnb34 := NB387_370.out
  have hnc34 := NB370_387.out
  obtain ⟨hcz35_0, hcz35_1, hfz35_0, hfz35_1⟩ := z2 BK387
  by_cases c9 : t388 = true
  ·subst c9
   replace H := ifT H
   simp only [Option.some.injEq, Prod.mk.injEq] at H
   obtain ⟨rfl, rfl, rfl⟩ := H
   try go_wp2_with (first | (refine gc 22 Tryd.func17 #[.agg #[.slice Ao28 t381.length co28, .slice Ao30 t384.length co30]] ?_; (with_reducible refine (impl_IsValidLedger.calls k _ _ t381 _ _ t384 true _ ?side1 ?side2 ?side3 ?side4 A8.out).mono ?_); (case side1 => exact (Kd.R_reads' (e := 48) (base := w.heap.size) (n := t381.length) (c := co28) (by refine bR ?_; exact (Kd.R_mono (Kd.R_far (p := ⟨gb387, 1, none⟩) (Kd.R_far (p := ⟨gb387, 0, none⟩) (Kd.R_types HO383.out BK387.out (by decide)) (fun _ hk => hk.2) (.slice Ao28 t381.length co28)) (fun _ hk => hk.2) (.slice Ao30 t384.length co30)) (fun _ h_ => h_.1)))).2.2); (case side2 => exact (Kd.R_reads' HO383.out).2.1); (case side3 => exact (Kd.S_reads' (e := 63) (base := w.heap.size) (n := t384.length) (c := co30) (by refine bS ?_; exact (Kd.S_mono (Kd.S_far (p := ⟨gb387, 1, none⟩) (Kd.S_far (p := ⟨gb387, 0, none⟩) (Kd.S_types HO386.out BK387.out (by decide)) (fun _ hk => hk.2) (.slice Ao28 t381.length co28)) (fun _ hk => hk.2) (.slice Ao30 t384.length co30)) (fun _ h_ => h_.1)))).2.2); (case side4 => exact (Kd.S_reads' HO386.out).2.1); rintro e w36 ⟨rfl, hb⟩; refine ⟨_, rfl, ?_⟩; replace HO0_1 := Aside0.mk (Kd.V_below (by refine bV ?_; exact (Kd.V_mono (Kd.V_far (p := ⟨gb387, 1, none⟩) (Kd.V_far (p := ⟨gb387, 0, none⟩) (Kd.V_mono HO0_1.out (fun k_ hk => (⟨hk, hk.2.2.2.2.2.2.2.2⟩ : _ ∧ k_ ≠ gb387))) (fun _ hk => hk.2) (.slice Ao28 t381.length co28)) (fun _ hk => hk.2) (.slice Ao30 t384.length co30)) (fun _ h_ => h_.1))) hb); replace HO1_2 := Aside0.mk (Kd.V_below (by refine bV ?_; exact (Kd.V_mono (Kd.V_far (p := ⟨gb387, 1, none⟩) (Kd.V_far (p := ⟨gb387, 0, none⟩) (Kd.V_mono HO1_2.out (fun k_ hk => (⟨hk, hk.2.2.2.2.2.2.2.2⟩ : _ ∧ k_ ≠ gb387))) (fun _ hk => hk.2) (.slice Ao28 t381.length co28)) (fun _ hk => hk.2) (.slice Ao30 t384.length co30)) (fun _ h_ => h_.1))) hb); replace HO377 := Aside0.mk (Kd.N_below (by refine bN ?_; exact (Kd.N_mono (Kd.N_far (p := ⟨gb387, 1, none⟩) (Kd.N_far (p := ⟨gb387, 0, none⟩) (Kd.N_mono HO377.out (fun k_ hk => (⟨hk, hk.2.2.2.2.2.2.2⟩ : _ ∧ k_ ≠ gb387))) (fun _ hk => hk.2) (.slice Ao28 t381.length co28)) (fun _ hk => hk.2) (.slice Ao30 t384.length co30)) (fun _ h_ => h_.1))) hb); replace HO380 := Aside0.mk (Kd.N_below (by refine bN ?_; exact (Kd.N_mono (Kd.N_far (p := ⟨gb387, 1, none⟩) (Kd.N_far (p := ⟨gb387, 0, none⟩) (Kd.N_mono HO380.out (fun k_ hk => (⟨hk, hk.2.2.2.2.2.2⟩ : _ ∧ k_ ≠ gb387))) (fun _ hk => hk.2) (.slice Ao28 t381.length co28)) (fun _ hk => hk.2) (.slice Ao30 t384.length co30)) (fun _ h_ => h_.1))) hb); replace HO383 := Aside0.mk (Kd.R_below (by refine bR ?_; exact (Kd.R_mono (Kd.R_far (p := ⟨gb387, 1, none⟩) (Kd.R_far (p := ⟨gb387, 0, none⟩) (Kd.R_types HO383.out BK387.out (by decide)) (fun _ hk => hk.2) (.slice Ao28 t381.length co28)) (fun _ hk => hk.2) (.slice Ao30 t384.length co30)) (fun _ h_ => h_.1))) hb); replace HO386 := Aside0.mk (Kd.S_below (by refine bS ?_; exact (Kd.S_mono (Kd.S_far (p := ⟨gb387, 1, none⟩) (Kd.S_far (p := ⟨gb387, 0, none⟩) (Kd.S_types HO386.out BK387.out (by decide)) (fun _ hk => hk.2) (.slice Ao28 t381.length co28)) (fun _ hk => hk.2) (.slice Ao30 t384.length co30)) (fun _ h_ => h_.1))) hb); replace BK368 := Aside0.mk (blk_below (g := gb368) (o := .cells #[.slice A0_0 l0_0.length c0_0, .slice A0_1 l0_1.length c0_1] 31 (0, 0)) (by refine bd ?_; refine blk_far ?_ NB368_387.out _; refine bd ?_; refine blk_far ?_ NB368_387.out _; refine bd ?_; exact BK368.out) hb); replace BK369 := Aside0.mk (blk_below (g := gb369) (o := .cells #[.int .i64 a1_0, .string a1_1, .slice A1_2 l1_2.length c1_2] 63 (0, 0)) (by refine bd ?_; refine blk_far ?_ NB369_387.out _; refine bd ?_; refine blk_far ?_ NB369_387.out _; refine bd ?_; exact BK369.out) hb); replace BK370 := Aside0.mk (blk_below (g := gb370) (o := .cells #[.slice none 0 0, .slice none 0 0] 31 (0, 0)) (by refine bd ?_; refine blk_far ?_ NB370_387.out _; refine bd ?_; refine blk_far ?_ NB370_387.out _; refine bd ?_; exact BK370.out) hb); replace BK387 := Aside0.mk (blk_below (g := gb387) (o := .cells #[.slice Ao28 t381.length co28, .slice Ao30 t384.length co30] 31 (0, 0)) (by refine bd ?_; refine blk_put (cs := #[.slice Ao28 t381.length co28, .slice none 0 0]) ?_ 1 _ rfl; refine bd ?_; refine blk_put (cs := #[.slice none 0 0, .slice none 0 0]) ?_ 0 _ rfl; refine bd ?_; exact BK387.out) hb); replace HB := hB hb; (try clear hb); (try clear hb2); (try clear hk); (try clear hi); obtain ⟨hcz37_0, hcz37_1, hfz37_0, hfz37_1⟩ := z2 BK387; have hnb38 := NB370_369.out; have hnc38 := NB369_370.out; obtain ⟨hcz39_0, hcz39_1, hfz39_0, hfz39_1⟩ := z2 BK370))
   refine bodyPost_ret (results_ct rfl _ _ gb370 31 #[.slice Ao28 t381.length co28, .slice Ao30 t384.length co30] (0, 0) _ rfl (by refine bd ?_; refine blk_put (cs := #[.slice Ao28 t381.length co28, .slice none 0 0]) ?_ 1 _ rfl; refine bd ?_; refine blk_put (cs := #[.slice none 0 0, .slice none 0 0]) ?_ 0 _ rfl; refine bd ?_; exact BK370.out) Tryd.underlying31 rfl (by kernel_rfl)) rfl ?_
   exact ⟨_, _, ZZab01d2, (by refine bR ?_; exact Kd.R_mono (Kd.R_far (p := ⟨gb370, 1, none⟩) (Kd.R_far (p := ⟨gb370, 0, none⟩) (Kd.R_types HO383.out BK370.out (by decide)) (fun _ hk => hk.2) (.slice Ao28 t381.length co28)) (fun _ hk => hk.2) (.slice Ao30 t384.length co30)) (fun _ hk => hk.1)), (by refine bS ?_; exact Kd.S_mono (Kd.S_far (p := ⟨gb370, 1, none⟩) (Kd.S_far (p := ⟨gb370, 0, none⟩) (Kd.S_types HO386.out BK370.out (by decide)) (fun _ hk => hk.2) (.slice Ao28 t381.length co28)) (fun _ hk => hk.2) (.slice Ao30 t384.length co30)) (fun _ hk => hk.1.1)), ZZ295621⟩
  replace c9 := Bool.eq_false_iff.mpr c9
  subst c9
  replace H := ifF H
  simp only [Option.some.injEq, Prod.mk.injEq] at H
  obtain ⟨rfl, rfl, rfl⟩ := H
  try go_wp2_with (first | (refine gc 22 Tryd.func17 #[.agg #[.slice Ao28 t381.length co28, .slice Ao30 t384.length co30]] ?_; (with_reducible refine (impl_IsValidLedger.calls k _ _ t381 _ _ t384 false _ ?side1 ?side2 ?side3 ?side4 A8.out).mono ?_); (case side1 => exact (Kd.R_reads' (e := 48) (base := w.heap.size) (n := t381.length) (c := co28) (by refine bR ?_; exact (Kd.R_mono (Kd.R_far (p := ⟨gb387, 1, none⟩) (Kd.R_far (p := ⟨gb387, 0, none⟩) (Kd.R_types HO383.out BK387.out (by decide)) (fun _ hk => hk.2) (.slice Ao28 t381.length co28)) (fun _ hk => hk.2) (.slice Ao30 t384.length co30)) (fun _ h_ => h_.1)))).2.2); (case side2 => exact (Kd.R_reads' HO383.out).2.1); (case side3 => exact (Kd.S_reads' (e := 63) (base := w.heap.size) (n := t384.length) (c := co30) (by refine bS ?_; exact (Kd.S_mono (Kd.S_far (p := ⟨gb387, 1, none⟩) (Kd.S_far (p := ⟨gb387, 0, none⟩) (Kd.S_types HO386.out BK387.out (by decide)) (fun _ hk => hk.2) (.slice Ao28 t381.length co28)) (fun _ hk => hk.2) (.slice Ao30 t384.length co30)) (fun _ h_ => h_.1)))).2.2); (case side4 => exact (Kd.S_reads' HO386.out).2.1); rintro e w66 ⟨rfl, hb⟩; refine ⟨_, rfl, ?_⟩; replace HO0_1 := Aside0.mk (Kd.V_below (by refine bV ?_; exact (Kd.V_mono (Kd.V_far (p := ⟨gb387, 1, none⟩) (Kd.V_far (p := ⟨gb387, 0, none⟩) (Kd.V_mono HO0_1.out (fun k_ hk => (⟨hk, hk.2.2.2.2.2.2.2.2⟩ : _ ∧ k_ ≠ gb387))) (fun _ hk => hk.2) (.slice Ao28 t381.length co28)) (fun _ hk => hk.2) (.slice Ao30 t384.length co30)) (fun _ h_ => h_.1))) hb); replace HO1_2 := Aside0.mk (Kd.V_below (by refine bV ?_; exact (Kd.V_mono (Kd.V_far (p := ⟨gb387, 1, none⟩) (Kd.V_far (p := ⟨gb387, 0, none⟩) (Kd.V_mono HO1_2.out (fun k_ hk => (⟨hk, hk.2.2.2.2.2.2.2.2⟩ : _ ∧ k_ ≠ gb387))) (fun _ hk => hk.2) (.slice Ao28 t381.length co28)) (fun _ hk => hk.2) (.slice Ao30 t384.length co30)) (fun _ h_ => h_.1))) hb); replace HO377 := Aside0.mk (Kd.N_below (by refine bN ?_; exact (Kd.N_mono (Kd.N_far (p := ⟨gb387, 1, none⟩) (Kd.N_far (p := ⟨gb387, 0, none⟩) (Kd.N_mono HO377.out (fun k_ hk => (⟨hk, hk.2.2.2.2.2.2.2⟩ : _ ∧ k_ ≠ gb387))) (fun _ hk => hk.2) (.slice Ao28 t381.length co28)) (fun _ hk => hk.2) (.slice Ao30 t384.length co30)) (fun _ h_ => h_.1))) hb); replace HO380 := Aside0.mk (Kd.N_below (by refine bN ?_; exact (Kd.N_mono (Kd.N_far (p := ⟨gb387, 1, none⟩) (Kd.N_far (p := ⟨gb387, 0, none⟩) (Kd.N_mono HO380.out (fun k_ hk => (⟨hk, hk.2.2.2.2.2.2⟩ : _ ∧ k_ ≠ gb387))) (fun _ hk => hk.2) (.slice Ao28 t381.length co28)) (fun _ hk => hk.2) (.slice Ao30 t384.length co30)) (fun _ h_ => h_.1))) hb); replace HO383 := Aside0.mk (Kd.R_below (by refine bR ?_; exact (Kd.R_mono (Kd.R_far (p := ⟨gb387, 1, none⟩) (Kd.R_far (p := ⟨gb387, 0, none⟩) (Kd.R_types HO383.out BK387.out (by decide)) (fun _ hk => hk.2) (.slice Ao28 t381.length co28)) (fun _ hk => hk.2) (.slice Ao30 t384.length co30)) (fun _ h_ => h_.1))) hb); replace HO386 := Aside0.mk (Kd.S_below (by refine bS ?_; exact (Kd.S_mono (Kd.S_far (p := ⟨gb387, 1, none⟩) (Kd.S_far (p := ⟨gb387, 0, none⟩) (Kd.S_types HO386.out BK387.out (by decide)) (fun _ hk => hk.2) (.slice Ao28 t381.length co28)) (fun _ hk => hk.2) (.slice Ao30 t384.length co30)) (fun _ h_ => h_.1))) hb); replace BK368 := Aside0.mk (blk_below (g := gb368) (o := .cells #[.slice A0_0 l0_0.length c0_0, .slice A0_1 l0_1.length c0_1] 31 (0, 0)) (by refine bd ?_; refine blk_far ?_ NB368_387.out _; refine bd ?_; refine blk_far ?_ NB368_387.out _; refine bd ?_; exact BK368.out) hb); replace BK369 := Aside0.mk (blk_below (g := gb369) (o := .cells #[.int .i64 a1_0, .string a1_1, .slice A1_2 l1_2.length c1_2] 63 (0, 0)) (by refine bd ?_; refine blk_far ?_ NB369_387.out _; refine bd ?_; refine blk_far ?_ NB369_387.out _; refine bd ?_; exact BK369.out) hb); replace BK370 := Aside0.mk (blk_below (g := gb370) (o := .cells #[.slice none 0 0, .slice none 0 0] 31 (0, 0)) (by refine bd ?_; refine blk_far ?_ NB370_387.out _; refine bd ?_; refine blk_far ?_ NB370_387.out _; refine bd ?_; exact BK370.out) hb); replace BK387 := Aside0.mk (blk_below (g := gb387) (o := .cells #[.slice Ao28 t381.length co28, .slice Ao30 t384.length co30] 31 (0, 0)) (by refine bd ?_; refine blk_put (cs := #[.slice Ao28 t381.length co28, .slice none 0 0]) ?_ 1 _ rfl; refine bd ?_; refine blk_put (cs := #[.slice none 0 0, .slice none 0 0]) ?_ 0 _ rfl; refine bd ?_; exact BK387.out) hb); replace HB := hB hb; (try clear hb); (try clear hb2); (try clear hk); (try clear hi); have hnb67 := NB370_369.out; have hnc67 := NB369_370.out; obtain ⟨hcz68_0, hcz68_1, hfz68_0, hfz68_1⟩ := z2 BK370))
  refine bodyPost_ret (results_ct rfl _ _ gb370 31 #[.slice none 0 0, .slice none 0 0] (0, 0) _ rfl (by refine bd ?_; refine blk_put (cs := #[.slice none 0 0, .slice none 0 0]) ?_ 1 _ rfl; refine bd ?_; refine blk_put (cs := #[.slice none 0 0, .slice none 0 0]) ?_ 0 _ rfl; refine bd ?_; exact BK370.out) Tryd.underlying31 rfl (by kernel_rfl)) rfl ?_
  exact ⟨_, _, ZZab01d2, ZZf4214b, ZZc4c4be, ZZ295621⟩
 replace c4 := Bool.eq_false_iff.mpr c4
 subst c4
 replace H := ifF H
 simp only [Option.some.injEq, Prod.mk.injEq] at H
 obtain ⟨rfl, rfl, rfl⟩ := H
 go_enter Tryd.func38, Tryd.ntmps38
 go_wp2_with (first | ((with_reducible refine gate_dst (N := 2) rfl ?_); refine bx 2 (cs := #[.slice A0_0 l0_0.length c0_0, .slice A0_1 l0_1.length c0_1]) (t := 31) ?_; intro gb368 hg w69 hbox hb; replace HO0_1 := Aside0.mk (Kd.V_below (Kd.V_elderB ZZ1186ef gb368 (Nat.le_of_eq hg.symm)) hb); replace HO1_2 := Aside0.mk (Kd.V_below (Kd.V_elderB ZZ6ff8a7 gb368 (Nat.le_of_eq hg.symm)) hb); have BK368 := Aside0.mk (hbox); have GW368 := gw hg; have GE368 := gw hg; replace HB := hB hb; clear hb hbox hg) | ((with_reducible refine gate_dst (N := 3) rfl ?_); refine bx 3 (cs := #[.int .i64 a1_0, .string a1_1, .slice A1_2 l1_2.length c1_2]) (t := 63) ?_; intro gb369 hg w70 hbox hb; replace HO0_1 := Aside0.mk (Kd.V_below (Kd.V_elderB ZZ1186ef gb369 (Nat.le_of_eq hg.symm)) hb); replace HO1_2 := Aside0.mk (Kd.V_below (Kd.V_elderB ZZ6ff8a7 gb369 (Nat.le_of_eq hg.symm)) hb); have BK369 := Aside0.mk (hbox); have GW369 := gw hg; have GE369 := gw hg; replace HB := hB hb; have NB368_369 := nl hg BK368; have NB369_368 := ng hg BK368; replace BK368 := kb BK368 hb; clear hb hbox hg) | ((with_reducible refine gate_dst (N := 4) rfl ?_); refine bx 4 (cs := #[.slice none 0 0, .slice none 0 0]) (t := 31) ?_; intro gb370 hg w71 hbox hb; replace HO0_1 := Aside0.mk (Kd.V_below (Kd.V_elderB ZZ1186ef gb370 (Nat.le_of_eq hg.symm)) hb); replace HO1_2 := Aside0.mk (Kd.V_below (Kd.V_elderB ZZ6ff8a7 gb370 (Nat.le_of_eq hg.symm)) hb); have BK370 := Aside0.mk (hbox); have GW370 := gw hg; have GE370 := gw hg; replace HB := hB hb; have NB368_370 := nl hg BK368; have NB370_368 := ng hg BK368; replace BK368 := kb BK368 hb; have NB369_370 := nl hg BK369; have NB370_369 := ng hg BK369; replace BK369 := kb BK369 hb; clear hb hbox hg; have hnb72 := NB368_369.out; have hnc72 := NB369_368.out; have hnb73 := NB368_370.out; have hnc73 := NB370_368.out; obtain ⟨hcz74_0, hcz74_1, hfz74_0, hfz74_1⟩ := z2 BK368) | (refine gc 8 Tryd.func17 #[.agg #[.slice A0_0 l0_0.length c0_0, .slice A0_1 l0_1.length c0_1]] ?_; (with_reducible refine (impl_IsValidLedger.calls k _ _ l0_0 _ _ l0_1 false _ ?side1 ?side2 ?side3 ?side4 A3.out).mono ?_); (case side1 => exact (rC (Kd.C_below HR0_0.out HB.out))); (case side2 => exact HC0_0.out); (case side3 => exact rC (Kd.V_reads' HO0_1.out).2.2); (case side4 => exact (Kd.V_reads' HO0_1.out).2.1); rintro e w75 ⟨rfl, hb⟩; refine ⟨_, rfl, ?_⟩; replace HO0_1 := Aside0.mk (Kd.V_below ZZ1186ef hb); replace HO1_2 := Aside0.mk (Kd.V_below ZZ6ff8a7 hb); replace BK368 := kb BK368 hb; replace BK369 := kb BK369 hb; replace BK370 := kb BK370 hb; replace HB := hB hb; (try clear hb); (try clear hb2); (try clear hk); (try clear hi); have hnb76 := NB370_369.out; have hnc76 := NB369_370.out; obtain ⟨hcz77_0, hcz77_1, hfz77_0, hfz77_1⟩ := z2 BK370))
 refine bodyPost_ret (results_ct rfl _ _ gb370 31 #[.slice none 0 0, .slice none 0 0] (0, 0) _ rfl (by refine bd ?_; refine blk_put (cs := #[.slice none 0 0, .slice none 0 0]) ?_ 1 _ rfl; refine bd ?_; refine blk_put (cs := #[.slice none 0 0, .slice none 0 0]) ?_ 0 _ rfl; refine bd ?_; exact BK370.out) Tryd.underlying31 rfl (by kernel_rfl)) rfl ?_
 exact ⟨_, _, ZZab01d2, ZZf4214b, ZZc4c4be, ZZ295621⟩
end Go.Proofs.YtccdjchaaeligaaDoor.XFnExactPostEntry

import Derived.Test.YtccdjchaaeligaaDoorXFnExactCloseAccounts1
import Derived.Test.YtccdjchaaeligaaDoorXFnExactCloseAccounts0
import Derived.Test.YtccdjchaaeligaaDoorXFnExactCloseAccounts4
namespace Go.Proofs.YtccdjchaaeligaaDoor.XFnExactCloseAccounts
open Go.Proofs.YtccdjchaaeligaaDoor.Short Go.RowKit Go.Proofs.YtccdjchaaeligaaDoorW.PrintWords Go.Proofs.YtccdjchaaeligaaDoorW.PrintLast Go.Proofs.YtccdjchaaeligaaDoorW.PrintMore
attribute [local go_sem] max2_int min2_int max_two min_two max_three min_three max_four min_four
set_option linter.unusedVariables false
set_option linter.unusedSimpArgs false
theorem ZZ06373b {p : Prop} (h : p := by subst hw_; refine bd ?_; refine blk_far ?_ NB181_184.out _; refine bd ?_; refine blk_far ?_ NB181_184.out _; refine bd ?_; exact BK181.out) : p := h
theorem ZZ5d8f38 {p : Prop} (h : p := by subst hw_; refine bd ?_; refine blk_put (cs := #[.int .i64 ((rd_T70 l0_2 x11_1).f0), .int .i64 0]) ?_ 1 _ rfl; refine bd ?_; refine blk_put (cs := #[.int .i64 0, .int .i64 0]) ?_ 0 _ rfl; refine bd ?_; exact BK184.out) : p := h
theorem ZZ0d0602 {p : Prop} (h : p := by subst hw_; repeat (first | (with_reducible first | exact HB.out | apply below_alloc | apply pw_below_drewN | apply below_drew1 | refine below_set ?_ (Aside0.out (by assumption))) | exact HB.out)) : p := h
mutual
def impl_isPosted.l0 : Nat → Int → Int → List (S70) → Int → Int → Int → ByteArray → List (S70) → Option (Bool)
 | 0, _, _, _, _, _, _, _, _ => none
 | k + 1, x1, x5, x9, x10, x11, x182000, x182001, x182002 => if x11 < x10 then (if 0 ≤ x11 then (if x11 < (x9.length : Int) then ((impl_within.f ((rd_T70 x9 x11).f0) 0 (wrap64 (x1 - 1))).bind fun t185 => (if t185 = true then (if x11 > 0 then (if 0 ≤ (wrap64 (x11 - 1)) then (if (wrap64 (x11 - 1)) < (x182002.length : Int) then (if ((rd_T70 x9 x11).f0) ≤ ((rd_T70 x182002 (wrap64 (x11 - 1))).f0) then (impl_isPosted.j1 k x1 x5 x9 x10 x11 true x182000 x182001 x182002 ((rd_T70 x9 x11).f0) ((rd_T70 x9 x11).f1)) else (if ((rd_T70 x9 x11).f1) = 0 then (impl_isPosted.j1 k x1 x5 x9 x10 x11 true x182000 x182001 x182002 ((rd_T70 x9 x11).f0) ((rd_T70 x9 x11).f1)) else ((impl_isAmount.f ((rd_T70 x9 x11).f1)).bind fun t187 => (impl_isPosted.j1 k x1 x5 x9 x10 x11 (!t187) x182000 x182001 x182002 ((rd_T70 x9 x11).f0) ((rd_T70 x9 x11).f1))))) else (none)) else (none)) else (if ((rd_T70 x9 x11).f1) = 0 then (impl_isPosted.j1 k x1 x5 x9 x10 x11 true x182000 x182001 x182002 ((rd_T70 x9 x11).f0) ((rd_T70 x9 x11).f1)) else ((impl_isAmount.f ((rd_T70 x9 x11).f1)).bind fun t188 => (impl_isPosted.j1 k x1 x5 x9 x10 x11 (!t188) x182000 x182001 x182002 ((rd_T70 x9 x11).f0) ((rd_T70 x9 x11).f1))))) else (impl_isPosted.j1 k x1 x5 x9 x10 x11 true x182000 x182001 x182002 ((rd_T70 x9 x11).f0) ((rd_T70 x9 x11).f1)))) else (none)) else (none)) else ((impl_within.f (x182002.length : Int) 2 8).bind fun t182 => (if t182 = true then (some (x5 == 0)) else (some false)))
def impl_isPosted.j1 : Nat → Int → Int → List (S70) → Int → Int → Bool → Int → ByteArray → List (S70) → Int → Int → Option (Bool)
 | 0, _, _, _, _, _, _, _, _, _, _, _ => none
 | k + 1, x1, x5, x9, x10, x11, x48, x182000, x182001, x182002, x185000, x185001 => if x48 = true then (some false) else (impl_isPosted.l0 k x1 (wrap64 (x5 + x185001)) x9 x10 (wrap64 (x11 + 1)) x182000 x182001 x182002)
end
def impl_isPosted.f (k : Nat) (a0_0 : Int) (a0_1 : ByteArray) (l0_2 : List (S70)) (a1 : Int) : Option (Bool) := impl_isPosted.l0 k a1 0 l0_2 (l0_2.length : Int) 0 a0_0 a0_1 l0_2
theorem impl_isPosted.mono_l : ∀ k, (∀ y0 y1 y2 y3 y4 y5 y6 y7, LeO (impl_isPosted.l0 k y0 y1 y2 y3 y4 y5 y6 y7) (impl_isPosted.l0 (k + 1) y0 y1 y2 y3 y4 y5 y6 y7)) ∧ (∀ y0 y1 y2 y3 y4 y5 y6 y7 y8 y9 y10, LeO (impl_isPosted.j1 k y0 y1 y2 y3 y4 y5 y6 y7 y8 y9 y10) (impl_isPosted.j1 (k + 1) y0 y1 y2 y3 y4 y5 y6 y7 y8 y9 y10))
 | 0 => ⟨fun _ _ _ _ _ _ _ _ r h => by simp [impl_isPosted.l0] at h, fun _ _ _ _ _ _ _ _ _ _ _ r h => by simp [impl_isPosted.j1] at h⟩
 | k + 1 => by
  obtain ⟨ih0, ih1⟩ := impl_isPosted.mono_l k
  refine ⟨?_, ?_⟩
  all_goals intros
  all_goals (first | unfold impl_isPosted.l0 | unfold impl_isPosted.j1)
  all_goals
   repeat' with_reducible first | apply ih0 | apply ih1 | exact LeO.refl _ | exact LeO.none _ | refine LeO.ite ?_ ?_ | refine LeO.bind ?_ (fun _ => ?_)
theorem impl_isPosted.mono : ∀ a0 a1 a2 a3 k, LeO (impl_isPosted.f k a0 a1 a2 a3) (impl_isPosted.f (k + 1) a0 a1 a2 a3) := by
 intro a0 a1 a2 a3 k
 obtain ⟨ih0, ih1⟩ := impl_isPosted.mono_l k
 unfold impl_isPosted.f
 repeat' with_reducible first | apply ih0 | apply ih1 | exact LeO.refl _ | exact LeO.none _ | refine LeO.ite ?_ ?_ | refine LeO.bind ?_ (fun _ => ?_)
def impl_isPosted.T5 : Bool × List (List Nat × List Nat) := (true, [([], []), ([0], [0]), ([], []), ([2], [2]), ([1, 3], [1, 3]), ([4], [4]), ([5, 4], [5]), ([6], [6]), ([7, 6], [6, 7]), ([8, 6, 6], [6, 8]), ([9], [9]), ([10, 9], [9, 10]), ([9], [9]), ([12, 9], [9, 12]), ([9], [9]), ([14, 9], [9, 14]), ([13, 15, 9], [9, 13, 15]), ([16, 9], [9, 16]), ([17, 9], [9, 17]), ([11, 18, 9], [9, 11, 18]), ([9, 19, 6], [6, 9, 19]), ([6, 20], [6, 20]), ([21, 9], [21]), ([22], [22]), ([23, 22], [22, 23]), ([24, 22], [22, 24]), ([22, 25], [22, 25]), ([26, 22], [26]), ([27], [27]), ([28, 27], [27, 28]), ([29, 27, 27], [27, 29]), ([30, 27], [27, 30]), ([27, 31], [27, 31])])
def impl_isPosted.B5 : List Nat := [0, 1, 0, 4, 15, 31, 63, 127, 255, 511, 1023, 2047, 1023, 5119, 1023, 17407, 62463, 127999, 259071, 524287, 1048575, 2097151, 4194303, 8388607, 16777215, 33554431, 67108863, 134217727, 268435455, 536870911, 1073741823, 2147483647, 4294967295]
theorem impl_isPosted.tab5 : rtab .any (opsOf Tryd.f61 5) = impl_isPosted.T5 := by kernel_rfl
theorem impl_isPosted.bits5 : waitsOk impl_isPosted.T5.2 impl_isPosted.B5 = true := by kernel_rfl
set_option maxHeartbeats 8000000 in
set_option maxRecDepth 100000 in
theorem impl_isPosted.calls (k : Nat) (a0_0 : Int) (a0_1 : ByteArray) (A0_2 : Option Addr) (c0_2 : Nat) (l0_2 : List (S70)) (a1 : Int) (r : Bool) (w : World) (hr0_2 : Kd.C k70 w A0_2 l0_2.length l0_2) (hc0_2 : l0_2.length ≤ c0_2) (h : impl_isPosted.f k a0_0 a0_1 l0_2 a1 = some r) :
 Calls Tryd.prog 61 #[.agg #[.int .i64 a0_0, .string a0_1, .slice A0_2 l0_2.length c0_2], .int .i64 a1] w fun e w' => e = .returned (.bool r) ∧ Below w.heap.size w w' := by
 have hu63 := Tryd.underlying63
 have hu70 := Tryd.underlying70
 have HR0_2 := Aside0.mk hr0_2
 have HC0_2 := Aside0.mk hc0_2
 clear hr0_2 hc0_2
 have HB := Aside0.mk (Below.refl w.heap.size w)
 have H := h
 clear h
 unfold impl_isPosted.f at H
 replace H := Aside0.mk H
 go_enter Tryd.func61, Tryd.ntmps61
 go_wp2_with (first | ((with_reducible refine gate_dst (N := 2) rfl ?_); refine bx 2 (cs := #[.int .i64 a0_0, .string a0_1, .slice A0_2 l0_2.length c0_2]) (t := 63) ?_; intro gb181 hg w3 hbox hb; have BK181 := Aside0.mk (hbox); have GW181 := gw hg; have GE181 := gw hg; replace HB := hB hb; clear hb hbox hg; obtain ⟨hcz4_0, hcz4_1, hcz4_2, hfz4_0, hfz4_1, hfz4_2⟩ := z3 BK181))
 go_loopg [5, 11] k (fun kq v5 v11 w' => ∃ (x5_1 : Int) (x11_1 : Int), v5 = .int .i64 x5_1 ∧ v11 = .int .i64 x11_1 ∧ Aside0 (impl_isPosted.l0 kq a1 x5_1 l0_2 (l0_2.length : Int) x11_1 a0_0 a0_1 l0_2 = some r) ∧ Aside0 (kq ≤ k) ∧ Aside0 (w'.heap[gb181]? = some (.cells #[.int .i64 a0_0, .string a0_1, (.slice A0_2 l0_2.length c0_2)] 63 (0, 0))) ∧ Aside0 (Below w.heap.size w w'))
 case atStart => exact ⟨(0), (0), ZZ0ab324, ZZ0ab324, H, ⟨Nat.le_refl _⟩, ⟨(zB BK181)⟩, ⟨ZZ295621⟩⟩
 case round =>
  clear H
  try clear hcz4_0
  try clear hcz4_1
  try clear hcz4_2
  try clear hfz4_0
  try clear hfz4_1
  try clear hfz4_2
  obtain ⟨x5_1, x11_1, rfl, rfl, HA, HK1, BK181, HB⟩ := hrel
  cases gk with
  | zero => exact absurd HA.out (by simp [impl_isPosted.l0])
  | succ k1 =>
   have H := HA.out
   clear HA
   simp only [impl_isPosted.l0] at H
   by_cases c5 : x11_1 < (l0_2.length : Int)
   ·rw [if_pos c5] at H
    have c5b0 := decide_eq_true c5
    clear c5
    obtain ⟨c6b0, H⟩ := ifYd H
    obtain ⟨c7b0, H⟩ := ifYd H
    have HC8 := Aside0.mk H
    clear H
    have p183 : 0 ≤ (x11_1 : Int) := of_decide_eq_true ZZ853400
    have q183 : x11_1 < (l0_2.length : Int) := of_decide_eq_true ZZ853400
    obtain ⟨ad183, e183, hx183_0, hx183_1⟩ := at_T70 HR0_2.out x11_1 p183 q183
    cases e183
    replace hx183_0 := (HB.out.cell (World.block_lt_of_cell? w _ hx183_0)).trans hx183_0
    replace hx183_1 := (HB.out.cell (World.block_lt_of_cell? w _ hx183_1)).trans hx183_1
    replace p183 := eq_true p183
    replace q183 := eq_true q183
    go_upto_region 5 with (first | ((with_reducible refine gate_dst (N := 7) rfl ?_); refine bx 7 (cs := #[.int .i64 0, .int .i64 0]) (t := 70) ?_; intro gb184 hg w9 hbox hb; have BK184 := Aside0.mk (hbox); have GW184 := gw hg; have GE184 := gw hg; replace HB := hB hb; have NB181_184 := nl hg BK181; have NB184_181 := ng hg BK181; replace BK181 := kb BK181 hb; clear hb hbox hg; have hnb10 := NB184_181.out; have hnc10 := NB181_184.out; obtain ⟨hcz11_0, hcz11_1, hfz11_0, hfz11_1⟩ := z2 BK184))
    (try simp only [Act.put, List.setIfInBounds_toArray, List.set_cons_zero, List.set_cons_succ])
    go_cut [48] (fun v48 wc => ∃ (kq : Nat) (x48_7 : Bool), v48 = .bool x48_7 ∧ Aside0 (impl_isPosted.j1 kq a1 x5_1 l0_2 (l0_2.length : Int) x11_1 x48_7 a0_0 a0_1 l0_2 ((rd_T70 l0_2 x11_1).f0) ((rd_T70 l0_2 x11_1).f1) = some r) ∧ Aside0 (kq ≤ k1) ∧ Aside0 (wc.heap[gb181]? = some (.cells #[.int .i64 a0_0, .string a0_1, (.slice (some ad183) l0_2.length c0_2)] 63 (0, 0))) ∧ Aside0 (wc.heap[gb184]? = some (.cells #[.int .i64 ((rd_T70 l0_2 x11_1).f0), .int .i64 ((rd_T70 l0_2 x11_1).f1)] 70 (0, 0))) ∧ Aside0 (Below w.heap.size w wc))
    case first =>
     have H := HC8.out
     clear HC8
     obtain ⟨t185, A12, H⟩ := bdY H
     by_cases c13 : t185 = true
     ·subst c13
      replace H := ifT H
      by_cases c14 : x11_1 > 0
      ·rw [if_pos c14] at H
       have c14b0 : decide (0 < x11_1) = true := decide_eq_true c14
       clear c14
       (first | rw [c14b0] | (simp only [i64_w, i32_w]; rw [c14b0]) | skip)
       obtain ⟨ji15, hji15⟩ : ∃ j_ : Int, (wrap64 (x11_1 - 1)) = j_ := ⟨_, rfl⟩
       (first | rw [hji15] at H | simp only [hji15] at H)
       (try rw [hji15] at A12)
       have hji15w : (IntKind.i64.wrap (x11_1 - 1)) = ji15 := (i64_w _).trans hji15
       obtain ⟨c16b0, H⟩ := ifYd H
       obtain ⟨c17b0, H⟩ := ifYd H
       by_cases c18 : ((rd_T70 l0_2 x11_1).f0) ≤ ((rd_T70 l0_2 (ji15)).f0)
       ·rw [if_pos c18] at H
        have c18b0 := decide_eq_true c18
        clear c18
        replace H := Aside0.mk H
        try go_wp2
        generalize hw_ : ((w9.setCell ⟨gb184, 0, none⟩ (.int .i64 ((rd_T70 l0_2 x11_1).f0))).setCell ⟨gb184, 1, none⟩ (.int .i64 ((rd_T70 l0_2 x11_1).f1))) = w19
        replace BK181 : Aside0 (w19.heap[gb181]? = some (.cells #[.int .i64 a0_0, .string a0_1, .slice (some ad183) l0_2.length c0_2] 63 (0, 0))) := ⟨ZZ06373b⟩
        replace BK184 : Aside0 (w19.heap[gb184]? = some (.cells #[.int .i64 ((rd_T70 l0_2 x11_1).f0), .int .i64 ((rd_T70 l0_2 x11_1).f1)] 70 (0, 0))) := ⟨ZZ5d8f38⟩
        replace HB : Aside0 (Below w.heap.size w w19) := ⟨ZZ0d0602⟩
        clear hw_
        replace BK181 := Aside0.mk (blk_drew BK181.out)
        replace BK184 := Aside0.mk (blk_drew BK184.out)
        replace HB := Aside0.mk (below_drew1 HB.out)
        have p186 : 0 ≤ ((ji15) : Int) := of_decide_eq_true ZZ853400
        have q186 : (ji15) < (l0_2.length : Int) := of_decide_eq_true ZZ853400
        obtain ⟨ad186, e186, hx186_0, hx186_1⟩ := at_T70 HR0_2.out (ji15) p186 q186
        have hw186_1 := hx186_1
        have hw186_0 := hx186_0
        obtain rfl : ad183 = ad186 := (by injection e186)
        replace hx186_0 := (HB.out.cell (World.block_lt_of_cell? w _ hx186_0)).trans hx186_0
        replace hx186_1 := (HB.out.cell (World.block_lt_of_cell? w _ hx186_1)).trans hx186_1
        replace p186 := eq_true p186
        replace q186 := eq_true q186
        refine st 33 (S := fun w' => w'.cell? ⟨gb184, 0, none⟩ = some (.int .i64 ((rd_T70 l0_2 x11_1).f0)) ∧ w'.cell? ⟨gb184, 1, none⟩ = some (.int .i64 ((rd_T70 l0_2 x11_1).f1)) ∧ w'.cell? ⟨gb181, 0, none⟩ = some (.int .i64 a0_0) ∧ w'.cell? ⟨gb181, 1, none⟩ = some (.string a0_1) ∧ w'.cell? ⟨gb181, 2, none⟩ = some (.slice (some ad183) l0_2.length c0_2) ∧ w'.cell? (ad183.add (((ji15)).toNat * 2)) = some (.int .i64 ((rd_T70 l0_2 (ji15)).f0)) ∧ w'.cell? ⟨(ad183.add (((ji15)).toNat * 2)).block, (ad183.add (((ji15)).toNat * 2)).off + 1, none⟩ = some (.int .i64 ((rd_T70 l0_2 (ji15)).f1))) impl_isPosted.tab5 impl_isPosted.bits5 zK (fun hHeld HT_ HW_ => ?_)
        generalize w19.drew = w20 at BK181 BK184 HB hx186_0 hx186_1 hHeld ⊢
        refine pu 0 16 ?_
        refine pu 2 18 ?_
        refine pu 3 19 ?_
        refine tk 1 17 ?_
        refine on1 4 20 Tryd.func56 #[.int .i64 ((rd_T70 l0_2 x11_1).f0), .int .i64 0, .int .i64 (wrap64 (a1 - 1))] (impl_within.calls ((rd_T70 l0_2 x11_1).f0) 0 (wrap64 (a1 - 1)) true _ A12.out) ?_
        rintro w' ⟨nd, rfl⟩
        refine ⟨hHeld, fun hHeld => ?_⟩
        refine pu 5 21 ?_
        refine pu 6 22 ?_
        refine pu 7 23 ?_
        refine pu 8 24 ?_
        refine pu 9 25 ?_
        refine pu 10 26 ?_
        refine pu 12 28 ?_
        refine pu 14 30 ?_
        refine pu 15 31 ?_
        refine tk 11 27 ?_
        refine tk 13 29 ?_
        refine pu 16 32 ?_
        refine pu 17 33 ?_
        refine tk 18 34 ?_
        refine pu 19 35 ?_
        refine pu 20 36 ?_
        refine pu 21 37 ?_
        refine pu 22 38 ?_
        refine pn 23 39 ?_
        refine pn 24 40 ?_
        refine pn 25 41 ?_
        refine pu 26 42 ?_
        refine pu 27 43 ?_
        refine pn 28 44 ?_
        refine pn 29 45 ?_
        refine pn 30 46 ?_
        refine pn 31 47 ?_
        refine pu 32 48 ?_
        refine done_ (done_of HT_.out (by kernel_rfl)) ?_
        try go_wp2
        go_meet
        case rel => exact ⟨_, (true), ZZ0ab324, H, kle, ⟨(zB BK181)⟩, ⟨(zB BK184)⟩, ⟨ZZ295621⟩⟩
       rw [if_neg c18] at H
       have c18b0 := decide_eq_false c18
       clear c18
       by_cases c21 : ((rd_T70 l0_2 x11_1).f1) = 0
       ·rw [if_pos c21] at H
        have c21b0 := beq_iff_eq.mpr c21
        have c21b1 := bne_eq_false_iff_eq.mpr c21
        clear c21
        replace H := Aside0.mk H
        try go_wp2
        generalize hw_ : ((w9.setCell ⟨gb184, 0, none⟩ (.int .i64 ((rd_T70 l0_2 x11_1).f0))).setCell ⟨gb184, 1, none⟩ (.int .i64 ((rd_T70 l0_2 x11_1).f1))) = w22
        replace BK181 : Aside0 (w22.heap[gb181]? = some (.cells #[.int .i64 a0_0, .string a0_1, .slice (some ad183) l0_2.length c0_2] 63 (0, 0))) := ⟨ZZ06373b⟩
        replace BK184 : Aside0 (w22.heap[gb184]? = some (.cells #[.int .i64 ((rd_T70 l0_2 x11_1).f0), .int .i64 ((rd_T70 l0_2 x11_1).f1)] 70 (0, 0))) := ⟨ZZ5d8f38⟩
        replace HB : Aside0 (Below w.heap.size w w22) := ⟨ZZ0d0602⟩
        clear hw_
        replace BK181 := Aside0.mk (blk_drew BK181.out)
        replace BK184 := Aside0.mk (blk_drew BK184.out)
        replace HB := Aside0.mk (below_drew1 HB.out)
        have p186 : 0 ≤ ((ji15) : Int) := of_decide_eq_true ZZ853400
        have q186 : (ji15) < (l0_2.length : Int) := of_decide_eq_true ZZ853400
        obtain ⟨ad186, e186, hx186_0, hx186_1⟩ := at_T70 HR0_2.out (ji15) p186 q186
        have hw186_1 := hx186_1
        have hw186_0 := hx186_0
        obtain rfl : ad183 = ad186 := (by injection e186)
        replace hx186_0 := (HB.out.cell (World.block_lt_of_cell? w _ hx186_0)).trans hx186_0
        replace hx186_1 := (HB.out.cell (World.block_lt_of_cell? w _ hx186_1)).trans hx186_1
        replace p186 := eq_true p186
        replace q186 := eq_true q186
        refine st 33 (S := fun w' => w'.cell? ⟨gb184, 0, none⟩ = some (.int .i64 ((rd_T70 l0_2 x11_1).f0)) ∧ w'.cell? ⟨gb184, 1, none⟩ = some (.int .i64 ((rd_T70 l0_2 x11_1).f1)) ∧ w'.cell? ⟨gb181, 0, none⟩ = some (.int .i64 a0_0) ∧ w'.cell? ⟨gb181, 1, none⟩ = some (.string a0_1) ∧ w'.cell? ⟨gb181, 2, none⟩ = some (.slice (some ad183) l0_2.length c0_2) ∧ w'.cell? (ad183.add (((ji15)).toNat * 2)) = some (.int .i64 ((rd_T70 l0_2 (ji15)).f0)) ∧ w'.cell? ⟨(ad183.add (((ji15)).toNat * 2)).block, (ad183.add (((ji15)).toNat * 2)).off + 1, none⟩ = some (.int .i64 ((rd_T70 l0_2 (ji15)).f1))) impl_isPosted.tab5 impl_isPosted.bits5 zK (fun hHeld HT_ HW_ => ?_)
        generalize w22.drew = w23 at BK181 BK184 HB hx186_0 hx186_1 hHeld ⊢
        refine pu 0 16 ?_
        refine pu 2 18 ?_
        refine pu 3 19 ?_
        refine tk 1 17 ?_
        refine on1 4 20 Tryd.func56 #[.int .i64 ((rd_T70 l0_2 x11_1).f0), .int .i64 0, .int .i64 (wrap64 (a1 - 1))] (impl_within.calls ((rd_T70 l0_2 x11_1).f0) 0 (wrap64 (a1 - 1)) true _ A12.out) ?_
        rintro w' ⟨nd, rfl⟩
        refine ⟨hHeld, fun hHeld => ?_⟩
        refine pu 5 21 ?_
        refine pu 6 22 ?_
        refine pu 7 23 ?_
        refine pu 8 24 ?_
        refine pu 9 25 ?_
        refine pu 10 26 ?_
        refine pu 12 28 ?_
        refine pu 14 30 ?_
        refine pu 15 31 ?_
        refine tk 11 27 ?_
        refine tk 13 29 ?_
        refine pu 16 32 ?_
        refine pu 17 33 ?_
        refine tk 18 34 ?_
        refine pu 19 35 ?_
        refine pu 20 36 ?_
        refine pu 21 37 ?_
        refine pu 22 38 ?_
        refine pu 23 39 ?_
        refine tk 24 40 ?_
        refine pu 25 41 ?_
        refine pu 26 42 ?_
        refine pu 27 43 ?_
        refine pn 28 44 ?_
        refine pn 29 45 ?_
        refine pn 30 46 ?_
        refine pn 31 47 ?_
        refine pu 32 48 ?_
        refine done_ (done_of HT_.out (by kernel_rfl)) ?_
        try go_wp2
        go_meet
        case rel => exact ⟨_, (true), ZZ0ab324, H, kle, ⟨(zB BK181)⟩, ⟨(zB BK184)⟩, ⟨ZZ295621⟩⟩
       rw [if_neg c21] at H
       have c21b0 := beq_eq_false_iff_ne.mpr c21
       have c21b1 := bne_iff_ne.mpr c21
       obtain ⟨t187, A24, H⟩ := bdY H
       replace H := Aside0.mk H
       try go_wp2
       generalize hw_ : ((w9.setCell ⟨gb184, 0, none⟩ (.int .i64 ((rd_T70 l0_2 x11_1).f0))).setCell ⟨gb184, 1, none⟩ (.int .i64 ((rd_T70 l0_2 x11_1).f1))) = w25
       replace BK181 : Aside0 (w25.heap[gb181]? = some (.cells #[.int .i64 a0_0, .string a0_1, .slice (some ad183) l0_2.length c0_2] 63 (0, 0))) := ⟨ZZ06373b⟩
       replace BK184 : Aside0 (w25.heap[gb184]? = some (.cells #[.int .i64 ((rd_T70 l0_2 x11_1).f0), .int .i64 ((rd_T70 l0_2 x11_1).f1)] 70 (0, 0))) := ⟨ZZ5d8f38⟩
       replace HB : Aside0 (Below w.heap.size w w25) := ⟨ZZ0d0602⟩
       clear hw_
       replace BK181 := Aside0.mk (blk_drew BK181.out)
       replace BK184 := Aside0.mk (blk_drew BK184.out)
       replace HB := Aside0.mk (below_drew1 HB.out)
       have p186 : 0 ≤ ((ji15) : Int) := of_decide_eq_true ZZ853400
       have q186 : (ji15) < (l0_2.length : Int) := of_decide_eq_true ZZ853400
       obtain ⟨ad186, e186, hx186_0, hx186_1⟩ := at_T70 HR0_2.out (ji15) p186 q186
       have hw186_1 := hx186_1
       have hw186_0 := hx186_0
       obtain rfl : ad183 = ad186 := (by injection e186)
       replace hx186_0 := (HB.out.cell (World.block_lt_of_cell? w _ hx186_0)).trans hx186_0
       replace hx186_1 := (HB.out.cell (World.block_lt_of_cell? w _ hx186_1)).trans hx186_1
       replace p186 := eq_true p186
       replace q186 := eq_true q186
       refine st 33 (S := fun w' => w'.cell? ⟨gb184, 0, none⟩ = some (.int .i64 ((rd_T70 l0_2 x11_1).f0)) ∧ w'.cell? ⟨gb184, 1, none⟩ = some (.int .i64 ((rd_T70 l0_2 x11_1).f1)) ∧ w'.cell? ⟨gb181, 0, none⟩ = some (.int .i64 a0_0) ∧ w'.cell? ⟨gb181, 1, none⟩ = some (.string a0_1) ∧ w'.cell? ⟨gb181, 2, none⟩ = some (.slice (some ad183) l0_2.length c0_2) ∧ w'.cell? (ad183.add (((ji15)).toNat * 2)) = some (.int .i64 ((rd_T70 l0_2 (ji15)).f0)) ∧ w'.cell? ⟨(ad183.add (((ji15)).toNat * 2)).block, (ad183.add (((ji15)).toNat * 2)).off + 1, none⟩ = some (.int .i64 ((rd_T70 l0_2 (ji15)).f1))) impl_isPosted.tab5 impl_isPosted.bits5 zK (fun hHeld HT_ HW_ => ?_)
       generalize w25.drew = w26 at BK181 BK184 HB hx186_0 hx186_1 hHeld ⊢
       refine pu 0 16 ?_
       refine pu 2 18 ?_
       refine pu 3 19 ?_
       refine tk 1 17 ?_
       refine on1 4 20 Tryd.func56 #[.int .i64 ((rd_T70 l0_2 x11_1).f0), .int .i64 0, .int .i64 (wrap64 (a1 - 1))] (impl_within.calls ((rd_T70 l0_2 x11_1).f0) 0 (wrap64 (a1 - 1)) true _ A12.out) ?_
       rintro w' ⟨nd, rfl⟩
       refine ⟨hHeld, fun hHeld => ?_⟩
       refine pu 5 21 ?_
       refine pu 6 22 ?_
       refine pu 7 23 ?_
       refine pu 8 24 ?_
       refine pu 9 25 ?_
       refine pu 10 26 ?_
       refine pu 12 28 ?_
       refine pu 14 30 ?_
       refine pu 15 31 ?_
       refine tk 11 27 ?_
       refine tk 13 29 ?_
       refine pu 16 32 ?_
       refine pu 17 33 ?_
       refine tk 18 34 ?_
       refine pu 19 35 ?_
       refine pu 20 36 ?_
       refine pu 21 37 ?_
       refine pu 22 38 ?_
       refine pu 23 39 ?_
       refine tk 24 40 ?_
       refine pu 25 41 ?_
       refine pu 26 42 ?_
       refine pu 27 43 ?_
       refine pu 28 44 ?_
       refine tk 29 45 ?_
       refine on1 30 46 Tryd.func62 #[.int .i64 ((rd_T70 l0_2 x11_1).f1)] (impl_isAmount.calls ((rd_T70 l0_2 x11_1).f1) t187 _ A24.out) ?_
       rintro w' ⟨nd, rfl⟩
       refine ⟨hHeld, fun hHeld => ?_⟩
       refine pu 31 47 ?_
       refine pu 32 48 ?_
       refine done_ (done_of HT_.out (by kernel_rfl)) ?_
       try go_wp2
       go_meet
       case rel => exact ⟨_, (!t187), ZZ0ab324, H, kle, ⟨(zB BK181)⟩, ⟨(zB BK184)⟩, ⟨ZZ295621⟩⟩
      rw [if_neg c14] at H
      have c14b0 : decide (0 < x11_1) = false := decide_eq_false c14
      clear c14
      (first | rw [c14b0] | (simp only [i64_w, i32_w]; rw [c14b0]) | skip)
      by_cases c27 : ((rd_T70 l0_2 x11_1).f1) = 0
      ·rw [if_pos c27] at H
       have c27b0 := beq_iff_eq.mpr c27
       have c27b1 := bne_eq_false_iff_eq.mpr c27
       clear c27
       replace H := Aside0.mk H
       try go_wp2
       generalize hw_ : ((w9.setCell ⟨gb184, 0, none⟩ (.int .i64 ((rd_T70 l0_2 x11_1).f0))).setCell ⟨gb184, 1, none⟩ (.int .i64 ((rd_T70 l0_2 x11_1).f1))) = w28
       replace BK181 : Aside0 (w28.heap[gb181]? = some (.cells #[.int .i64 a0_0, .string a0_1, .slice (some ad183) l0_2.length c0_2] 63 (0, 0))) := ⟨ZZ06373b⟩
       replace BK184 : Aside0 (w28.heap[gb184]? = some (.cells #[.int .i64 ((rd_T70 l0_2 x11_1).f0), .int .i64 ((rd_T70 l0_2 x11_1).f1)] 70 (0, 0))) := ⟨ZZ5d8f38⟩
       replace HB : Aside0 (Below w.heap.size w w28) := ⟨ZZ0d0602⟩
       clear hw_
       replace BK181 := Aside0.mk (blk_drew BK181.out)
       replace BK184 := Aside0.mk (blk_drew BK184.out)
       replace HB := Aside0.mk (below_drew1 HB.out)
       refine st 33 (S := fun w' => w'.cell? ⟨gb184, 0, none⟩ = some (.int .i64 ((rd_T70 l0_2 x11_1).f0)) ∧ w'.cell? ⟨gb184, 1, none⟩ = some (.int .i64 ((rd_T70 l0_2 x11_1).f1))) impl_isPosted.tab5 impl_isPosted.bits5 zK (fun hHeld HT_ HW_ => ?_)
       generalize w28.drew = w29 at BK181 BK184 HB hHeld ⊢
       refine pu 0 16 ?_
       refine pu 2 18 ?_
       refine pu 3 19 ?_
       refine tk 1 17 ?_
       refine on1 4 20 Tryd.func56 #[.int .i64 ((rd_T70 l0_2 x11_1).f0), .int .i64 0, .int .i64 (wrap64 (a1 - 1))] (impl_within.calls ((rd_T70 l0_2 x11_1).f0) 0 (wrap64 (a1 - 1)) true _ A12.out) ?_
       rintro w' ⟨nd, rfl⟩
       refine ⟨hHeld, fun hHeld => ?_⟩
       refine pu 5 21 ?_
       refine pu 6 22 ?_
       refine pu 7 23 ?_
       refine pu 8 24 ?_
       refine pu 9 25 ?_
       refine pn 10 26 ?_
       refine pn 11 27 ?_
       refine pn 12 28 ?_
       refine pn 13 29 ?_
       refine pn 14 30 ?_
       refine pn 15 31 ?_
       refine pn 16 32 ?_
       refine pn 17 33 ?_
       refine pn 18 34 ?_
       refine pn 19 35 ?_
       refine pu 20 36 ?_
       refine pu 21 37 ?_
       refine pu 22 38 ?_
       refine pu 23 39 ?_
       refine tk 24 40 ?_
       refine pu 25 41 ?_
       refine pu 26 42 ?_
       refine pu 27 43 ?_
       refine pn 28 44 ?_
       refine pn 29 45 ?_
       refine pn 30 46 ?_
       refine pn 31 47 ?_
       refine pu 32 48 ?_
       refine done_ (done_of HT_.out (by kernel_rfl)) ?_
       try go_wp2
       go_meet
       case rel => exact ⟨_, (true), ZZ0ab324, H, kle, ⟨(zB BK181)⟩, ⟨(zB BK184)⟩, ⟨ZZ295621⟩⟩
      rw [if_neg c27] at H
      have c27b0 := beq_eq_false_iff_ne.mpr c27
      have c27b1 := bne_iff_ne.mpr c27
      obtain ⟨t188, A30, H⟩ := bdY H
      replace H := Aside0.mk H
      try go_wp2
      generalize hw_ : ((w9.setCell ⟨gb184, 0, none⟩ (.int .i64 ((rd_T70 l0_2 x11_1).f0))).setCell ⟨gb184, 1, none⟩ (.int .i64 ((rd_T70 l0_2 x11_1).f1))) = w31
      replace BK181 : Aside0 (w31.heap[gb181]? = some (.cells #[.int .i64 a0_0, .string a0_1, .slice (some ad183) l0_2.length c0_2] 63 (0, 0))) := ⟨ZZ06373b⟩
      replace BK184 : Aside0 (w31.heap[gb184]? = some (.cells #[.int .i64 ((rd_T70 l0_2 x11_1).f0), .int .i64 ((rd_T70 l0_2 x11_1).f1)] 70 (0, 0))) := ⟨ZZ5d8f38⟩
      replace HB : Aside0 (Below w.heap.size w w31) := ⟨ZZ0d0602⟩
      clear hw_
      replace BK181 := Aside0.mk (blk_drew BK181.out)
      replace BK184 := Aside0.mk (blk_drew BK184.out)
      replace HB := Aside0.mk (below_drew1 HB.out)
      refine st 33 (S := fun w' => w'.cell? ⟨gb184, 0, none⟩ = some (.int .i64 ((rd_T70 l0_2 x11_1).f0)) ∧ w'.cell? ⟨gb184, 1, none⟩ = some (.int .i64 ((rd_T70 l0_2 x11_1).f1))) impl_isPosted.tab5 impl_isPosted.bits5 zK (fun hHeld HT_ HW_ => ?_)
      generalize w31.drew = w32 at BK181 BK184 HB hHeld ⊢
      refine pu 0 16 ?_
      refine pu 2 18 ?_
      refine pu 3 19 ?_
      refine tk 1 17 ?_
      refine on1 4 20 Tryd.func56 #[.int .i64 ((rd_T70 l0_2 x11_1).f0), .int .i64 0, .int .i64 (wrap64 (a1 - 1))] (impl_within.calls ((rd_T70 l0_2 x11_1).f0) 0 (wrap64 (a1 - 1)) true _ A12.out) ?_
      rintro w' ⟨nd, rfl⟩
      refine ⟨hHeld, fun hHeld => ?_⟩
      refine pu 5 21 ?_
      refine pu 6 22 ?_
      refine pu 7 23 ?_
      refine pu 8 24 ?_
      refine pu 9 25 ?_
      refine pn 10 26 ?_
      refine pn 11 27 ?_
      refine pn 12 28 ?_
      refine pn 13 29 ?_
      refine pn 14 30 ?_
      refine pn 15 31 ?_
      refine pn 16 32 ?_
      refine pn 17 33 ?_
      refine pn 18 34 ?_
      refine pn 19 35 ?_
      refine pu 20 36 ?_
      refine pu 21 37 ?_
      refine pu 22 38 ?_
      refine pu 23 39 ?_
      refine tk 24 40 ?_
      refine pu 25 41 ?_
      refine pu 26 42 ?_
      refine pu 27 43 ?_
      refine pu 28 44 ?_
      refine tk 29 45 ?_
      refine on1 30 46 Tryd.func62 #[.int .i64 ((rd_T70 l0_2 x11_1).f1)] (impl_isAmount.calls ((rd_T70 l0_2 x11_1).f1) t188 _ A30.out) ?_
      rintro w' ⟨nd, rfl⟩
      refine ⟨hHeld, fun hHeld => ?_⟩
      refine pu 31 47 ?_
      refine pu 32 48 ?_
      refine done_ (done_of HT_.out (by kernel_rfl)) ?_
      try go_wp2
      go_meet
      case rel => exact ⟨_, (!t188), ZZ0ab324, H, kle, ⟨(zB BK181)⟩, ⟨(zB BK184)⟩, ⟨ZZ295621⟩⟩
     replace c13 := Bool.eq_false_iff.mpr c13
     subst c13
     replace H := ifF H
     replace H := Aside0.mk H
     try go_wp2
     generalize hw_ : ((w9.setCell ⟨gb184, 0, none⟩ (.int .i64 ((rd_T70 l0_2 x11_1).f0))).setCell ⟨gb184, 1, none⟩ (.int .i64 ((rd_T70 l0_2 x11_1).f1))) = w33
     replace BK181 : Aside0 (w33.heap[gb181]? = some (.cells #[.int .i64 a0_0, .string a0_1, .slice (some ad183) l0_2.length c0_2] 63 (0, 0))) := ⟨ZZ06373b⟩
     replace BK184 : Aside0 (w33.heap[gb184]? = some (.cells #[.int .i64 ((rd_T70 l0_2 x11_1).f0), .int .i64 ((rd_T70 l0_2 x11_1).f1)] 70 (0, 0))) := ⟨ZZ5d8f38⟩
     replace HB : Aside0 (Below w.heap.size w w33) := ⟨ZZ0d0602⟩
     clear hw_
     replace BK181 := Aside0.mk (blk_drew BK181.out)
     replace BK184 := Aside0.mk (blk_drew BK184.out)
     replace HB := Aside0.mk (below_drew1 HB.out)
     refine st 33 (S := fun w' => w'.cell? ⟨gb184, 0, none⟩ = some (.int .i64 ((rd_T70 l0_2 x11_1).f0)) ∧ w'.cell? ⟨gb184, 1, none⟩ = some (.int .i64 ((rd_T70 l0_2 x11_1).f1))) impl_isPosted.tab5 impl_isPosted.bits5 zK (fun hHeld HT_ HW_ => ?_)
     generalize w33.drew = w34 at BK181 BK184 HB hHeld ⊢
     refine pu 0 16 ?_
     refine pu 2 18 ?_
     refine pu 3 19 ?_
     refine tk 1 17 ?_
     refine on1 4 20 Tryd.func56 #[.int .i64 ((rd_T70 l0_2 x11_1).f0), .int .i64 0, .int .i64 (wrap64 (a1 - 1))] (impl_within.calls ((rd_T70 l0_2 x11_1).f0) 0 (wrap64 (a1 - 1)) false _ A12.out) ?_
     rintro w' ⟨nd, rfl⟩
     refine ⟨hHeld, fun hHeld => ?_⟩
     refine pu 5 21 ?_
     refine pu 6 22 ?_
     refine pn 7 23 ?_
     refine pn 8 24 ?_
     refine pn 9 25 ?_
     refine pn 10 26 ?_
     refine pn 11 27 ?_
     refine pn 12 28 ?_
     refine pn 13 29 ?_
     refine pn 14 30 ?_
     refine pn 15 31 ?_
     refine pn 16 32 ?_
     refine pn 17 33 ?_
     refine pn 18 34 ?_
     refine pn 19 35 ?_
     refine pn 20 36 ?_
     refine pu 21 37 ?_
     refine pu 22 38 ?_
     refine pn 23 39 ?_
     refine pn 24 40 ?_
     refine pn 25 41 ?_
     refine pu 26 42 ?_
     refine pu 27 43 ?_
     refine pn 28 44 ?_
     refine pn 29 45 ?_
     refine pn 30 46 ?_
     refine pn 31 47 ?_
     refine pu 32 48 ?_
     refine done_ (done_of HT_.out (by kernel_rfl)) ?_
     try go_wp2
     go_meet
     case rel => exact ⟨_, (true), ZZ0ab324, H, kle, ⟨(zB BK181)⟩, ⟨(zB BK184)⟩, ⟨ZZ295621⟩⟩
    case rest =>
     clear HC8
     try clear c13
     try clear c27
     try clear c27b0
     try clear c27b1
     obtain ⟨kq, x48_7, rfl, HA, HJ7, BK181, BK184, HB⟩ := hcut
     cases kq with
     | zero => exact absurd HA.out (by simp [impl_isPosted.j1])
     | succ kj7 =>
      have H := HA.out
      clear HA
      simp only [impl_isPosted.j1] at H
      by_cases c35 : x48_7 = true
      ·subst c35
       replace H := ifT H
       obtain rfl := Option.some.inj H
       go_wp2
       go_ret
       exact ⟨ZZab01d2, ZZ295621⟩
      replace c35 := Bool.eq_false_iff.mpr c35
      subst c35
      replace H := ifF H
      replace H := Aside0.mk H
      have hnb36 := NB184_181.out
      have hnc36 := NB181_184.out
      obtain ⟨hcz37_0, hcz37_1, hfz37_0, hfz37_1⟩ := z2 BK184
      go_wp2
      go_roundg kj7
      case measure => have := HK1.out; have := HJ7.out; omega
      case rel => exact ⟨(wrap64 (x5_1 + ((rd_T70 l0_2 x11_1).f1))), (wrap64 (x11_1 + 1)), ZZ0ab324, ZZ0ab324, H, kle, ⟨(zB BK181)⟩, ⟨ZZ295621⟩⟩
   rw [if_neg c5] at H
   have c5b0 := decide_eq_false c5
   clear c5
   obtain ⟨t182, A38, H⟩ := bdY H
   by_cases c39 : t182 = true
   ·subst c39
    replace H := ifT H
    obtain rfl := Option.some.inj H
    obtain ⟨hcz40_0, hcz40_1, hcz40_2, hfz40_0, hfz40_1, hfz40_2⟩ := z3 BK181
    go_wp2_with (first | (refine gc 57 Tryd.func56 #[.int .i64 (l0_2.length : Int), .int .i64 2, .int .i64 8] ?_; (with_reducible refine (impl_within.calls (l0_2.length : Int) 2 8 true _ A38.out).mono ?_); rintro e w' ⟨rfl, ⟨nd, rfl⟩⟩; refine ⟨_, rfl, ?_⟩))
    go_ret
    exact ⟨ZZab01d2, ZZ295621⟩
   replace c39 := Bool.eq_false_iff.mpr c39
   subst c39
   replace H := ifF H
   obtain rfl := Option.some.inj H
   obtain ⟨hcz41_0, hcz41_1, hcz41_2, hfz41_0, hfz41_1, hfz41_2⟩ := z3 BK181
   go_wp2_with (first | (refine gc 57 Tryd.func56 #[.int .i64 (l0_2.length : Int), .int .i64 2, .int .i64 8] ?_; (with_reducible refine (impl_within.calls (l0_2.length : Int) 2 8 false _ A38.out).mono ?_); rintro e w' ⟨rfl, ⟨nd, rfl⟩⟩; refine ⟨_, rfl, ?_⟩))
   go_ret
   exact ⟨ZZab01d2, ZZ295621⟩
end Go.Proofs.YtccdjchaaeligaaDoor.XFnExactCloseAccounts

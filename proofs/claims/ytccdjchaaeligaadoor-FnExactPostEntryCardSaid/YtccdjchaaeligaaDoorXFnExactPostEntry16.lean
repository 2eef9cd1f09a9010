import Derived.Test.YtccdjchaaeligaaDoorXFnExactPostEntry1
import Derived.Test.YtccdjchaaeligaaDoorXFnExactPostEntry0
import Derived.Test.YtccdjchaaeligaaDoorXFnExactPostEntry4
namespace Go.Proofs.YtccdjchaaeligaaDoor.XFnExactPostEntry
open Go.Proofs.YtccdjchaaeligaaDoor.Short Go.RowKit Go.Proofs.YtccdjchaaeligaaDoorW.PrintWords Go.Proofs.YtccdjchaaeligaaDoorW.PrintLast Go.Proofs.YtccdjchaaeligaaDoorW.PrintMore
attribute [local go_sem] max2_int min2_int max_two min_two max_three min_three max_four min_four
set_option linter.unusedVariables false
set_option linter.unusedSimpArgs false
def laws_markBookEntry.f (k : Nat) (a0_0 : Int) (a0_1 : ByteArray) (l0_2 : List (S70)) (a1 : Int) : Option (Int × (List (S70))) := (laws_markPostingS.f k l0_2 a1).bind fun bt390 => (some (bt390.1, bt390.2))
theorem laws_markBookEntry.mono : ∀ a0 a1 a2 a3 k, LeO (laws_markBookEntry.f k a0 a1 a2 a3) (laws_markBookEntry.f (k + 1) a0 a1 a2 a3) := by
 intro a0 a1 a2 a3 k
 unfold laws_markBookEntry.f
 repeat' with_reducible first | apply laws_markPostingS.mono | exact LeO.refl _ | exact LeO.none _ | refine LeO.ite ?_ ?_ | refine LeO.bind ?_ (fun _ => ?_)
set_option maxHeartbeats 8000000 in
set_option maxRecDepth 100000 in
theorem laws_markBookEntry.calls (k : Nat) (a0_0 : Int) (a0_1 : ByteArray) (P0_2_ : Nat → Prop) (u9000_ : Value) (l0_2 : List (S70)) (a1 : Int) (r1 : Int) (r2 : List (S70)) (w0 w : World) (hB : Below w0.heap.size w0 w) (ho0_2 : Kd.R k70 70 w w0.heap.size P0_2_ u9000_ l0_2) (h : laws_markBookEntry.f k a0_0 a0_1 l0_2 a1 = some (r1, r2)) :
 Calls Tryd.prog 40 #[.agg #[.int .i64 a0_0, .string a0_1, u9000_], .int .i64 a1] w fun e w' => e = .returned (.int .i64 r1) ∧ Kd.R k70 70 w' w0.heap.size (fun k_ => (P0_2_ k_ ∨ w.heap.size ≤ k_)) u9000_ r2 ∧ Below w0.heap.size w0 w' ∧ Kept w w' (fun k_ => P0_2_ k_) := by
 have hu63 := Tryd.underlying63
 have HO0_2 := Aside0.mk (show Kd.R k70 70 w w0.heap.size (fun k_ => (P0_2_ k_ ∨ w.heap.size ≤ k_)) u9000_ l0_2 from Kd.R_mono ho0_2 (fun k_ hk => (.inl hk)))
 have HK := Aside0.mk (Kept.refl w (fun k_ => P0_2_ k_))
 have HW0 := Aside0.mk hB.size
 have HB := Aside0.mk hB
 clear hB
 have H := h
 clear h
 unfold laws_markBookEntry.f at H
 obtain ⟨⟨t390, t391⟩, A3, H⟩ := bdY H
 try dsimp only at H
 simp only [Option.some.injEq, Prod.mk.injEq] at H
 obtain ⟨rfl, rfl⟩ := H
 obtain ⟨Ao4, co4, eo4⟩ := Kd.R_slice HO0_2.out
 subst eo4
 go_enter Tryd.func40, Tryd.ntmps40
 go_wp2_with (first | ((with_reducible refine gate_dst (N := 2) rfl ?_); refine bx 2 (cs := #[.int .i64 a0_0, .string a0_1, .slice Ao4 l0_2.length co4]) (t := 63) ?_; intro gb389 hg w5 hbox hb; replace HO0_2 := Aside0.mk (Kd.R_below (zR HO0_2) hb); have BK389 := Aside0.mk (hbox); have GW389 := Aside0.mk ((by rw [hg]; exact (by first | exact HK.out.1 | exact (show Kept w _ (fun k_ => P0_2_ k_) from by repeat (first | (with_reducible first | exact HK.out | apply Kept.alloc | apply Kept.drewN | apply Kept.drew) | exact HK.out)).1) : w.heap.size ≤ gb389)); replace HK := Aside0.mk (Kept.below (S := (fun k_ => P0_2_ k_)) ZZf0cf3f hb); have GE389 := Aside0.mk ((by rw [hg]; exact (below_size ZZ605003) : w0.heap.size ≤ gb389)); replace HB := hB hb; clear hb hbox hg; obtain ⟨hcz6_0, hcz6_1, hcz6_2, hfz6_0, hfz6_1, hfz6_2⟩ := z3 BK389) | (refine gc 8 Tryd.func86 #[.slice Ao4 l0_2.length co4, .int .i64 a1] ?_; (with_reducible refine (laws_markPostingS.calls k (fun k_ => some k_ = (.slice Ao4 l0_2.length co4 : Value).ownBlock) (.slice Ao4 l0_2.length co4) l0_2 a1 t390 t391 w0 _ ?side1 ?side2 A3.out).mono ?_); (case side1 => exact bw); (case side2 => exact Kd.R_tight rfl HO0_2.out); rintro e w7 ⟨rfl, hy0, hb, hkp⟩; refine ⟨_, rfl, ?_⟩; replace BK389 := Aside0.mk (blk_kept (zB BK389) hkp (fun hs_ => (fun e_ => (Kd.R_ne HO0_2.out BK389.out (by decide)) e_) hs_)); replace HK := Aside0.mk (Kept.then_ (S := (fun k_ => P0_2_ k_)) (by repeat (first | (with_reducible first | exact HK.out | apply Kept.alloc | apply Kept.drewN | apply Kept.drew | refine Kept.setCell ?_ (.inr GW389.out) _) | exact HK.out)) hkp (fun k_ hs_ => (fun e_ => (HO0_2.out.1 k_ e_.symm)) hs_)); replace HO0_2 := Aside0.mk (Kd.R_reok rfl hy0 (fun k_ e_ => HO0_2.out.1 k_ e_)); replace HB := Aside0.mk (hb); (try clear hb); (try clear hkp); (try clear hy0)))
 go_ret
 exact ⟨ZZab01d2, (zR HO0_2), ZZ295621, (by repeat (first | (with_reducible first | exact HK.out | apply Kept.alloc | apply Kept.drewN | apply Kept.drew | refine Kept.setCell ?_ (.inr GW389.out) _) | exact HK.out))⟩
def laws_heldAccountS.l0 : Nat → List (S48) → Int → Int → Option (Int)
 | 0, _, _, _ => none
 | k + 1, x0, x1, x5 => if x5 < (x0.length : Int) then (if 0 ≤ x5 then ((laws_markText.f k x1).bind fun t393 => (if ((rd_T48 x0 x5).f0).toList = t393.toList then (if ((rd_T48 x0 x5).f1) = (wrap64 (x1 + 1)) then (laws_heldAccountS.l0 k x0 (wrap64 ((wrap64 (x1 + 1)) + 1)) (wrap64 (x5 + 1))) else (some (-1))) else (some (-1)))) else (none)) else (some x1)
def laws_heldAccountS.f (k : Nat) (l0 : List (S48)) (a1 : Int) : Option (Int) := laws_heldAccountS.l0 k l0 a1 0
theorem laws_heldAccountS.mono_l : ∀ k, (∀ y0 y1 y2, LeO (laws_heldAccountS.l0 k y0 y1 y2) (laws_heldAccountS.l0 (k + 1) y0 y1 y2))
 | 0 => fun _ _ _ r h => by simp [laws_heldAccountS.l0] at h
 | k + 1 => by
  have ih0 := laws_heldAccountS.mono_l k
  ·intro y0 y1 y2
   unfold laws_heldAccountS.l0
   repeat' with_reducible first | apply ih0 | apply laws_markText.mono | exact LeO.refl _ | exact LeO.none _ | refine LeO.ite ?_ ?_ | refine LeO.bind ?_ (fun _ => ?_)
theorem laws_heldAccountS.mono : ∀ a0 a1 k, LeO (laws_heldAccountS.f k a0 a1) (laws_heldAccountS.f (k + 1) a0 a1) := by
 intro a0 a1 k
 have ih0 := laws_heldAccountS.mono_l k
 unfold laws_heldAccountS.f
 repeat' with_reducible first | apply ih0 | apply laws_markText.mono | exact LeO.refl _ | exact LeO.none _ | refine LeO.ite ?_ ?_ | refine LeO.bind ?_ (fun _ => ?_)
def laws_heldAccountS.T4 : Bool × List (List Nat × List Nat) := (true, [([], []), ([], []), ([0, 1], [0, 1]), ([2], [2]), ([3], [3]), ([], []), ([5], [5]), ([4, 6], [4, 6])])
def laws_heldAccountS.B4 : List Nat := [0, 0, 3, 7, 15, 0, 32, 127]
theorem laws_heldAccountS.tab4 : rtab .any (opsOf Tryd.f87 4) = laws_heldAccountS.T4 := by kernel_rfl
theorem laws_heldAccountS.bits4 : waitsOk laws_heldAccountS.T4.2 laws_heldAccountS.B4 = true := by kernel_rfl
set_option maxHeartbeats 8000000 in
set_option maxRecDepth 100000 in
theorem laws_heldAccountS.calls (k : Nat) (A0 : Option Addr) (c0 : Nat) (l0 : List (S48)) (a1 : Int) (r : Int) (w : World) (hr0 : Kd.C k48 w A0 l0.length l0) (hc0 : l0.length ≤ c0) (h : laws_heldAccountS.f k l0 a1 = some r) :
 Calls Tryd.prog 87 #[.slice A0 l0.length c0, .int .i64 a1] w fun e w' => e = .returned (.int .i64 r) ∧ Below w.heap.size w w' := by
 have HR0 := Aside0.mk hr0
 have HC0 := Aside0.mk hc0
 clear hr0 hc0
 have HB := Aside0.mk (Below.refl w.heap.size w)
 have H := h
 clear h
 unfold laws_heldAccountS.f at H
 replace H := Aside0.mk H
 go_enter Tryd.func87, Tryd.ntmps87
 go_wp2
 go_loopg [1, 5] k (fun kq v1 v5 w' => ∃ (x1_1 : Int) (x5_1 : Int), v1 = .int .i64 x1_1 ∧ v5 = .int .i64 x5_1 ∧ Aside0 (laws_heldAccountS.l0 kq l0 x1_1 x5_1 = some r) ∧ Aside0 (kq ≤ k) ∧ Aside0 (Below w.heap.size w w'))
 case atStart => exact ⟨(a1), (0), ZZ0ab324, ZZ0ab324, H, ⟨Nat.le_refl _⟩, ⟨ZZ605003⟩⟩
 case round =>
  clear H
  obtain ⟨x1_1, x5_1, rfl, rfl, HA, HK1, HB⟩ := hrel
  cases gk with
  | zero => exact absurd HA.out (by simp [laws_heldAccountS.l0])
  | succ k1 =>
   have H := HA.out
   clear HA
   simp only [laws_heldAccountS.l0] at H
   by_cases c3 : x5_1 < (l0.length : Int)
   ·rw [if_pos c3] at H
    have c3b0 := decide_eq_true c3
    clear c3
    obtain ⟨c4b0, H⟩ := ifYd H
    obtain ⟨t393, A5, H⟩ := bdY H
    by_cases c6 : ((rd_T48 l0 x5_1).f0).toList = t393.toList
    ·rw [if_pos c6] at H
     have c6b0 := beq_iff_eq.mpr c6
     have c6b1 := bne_eq_false_iff_eq.mpr c6
     clear c6
     by_cases c7 : ((rd_T48 l0 x5_1).f1) = (wrap64 (x1_1 + 1))
     ·rw [if_pos c7] at H
      have c7b0 := beq_iff_eq.mpr c7
      have c7b1 := bne_eq_false_iff_eq.mpr c7
      clear c7
      replace H := Aside0.mk H
      try go_wp2
      replace HB := Aside0.mk (below_drew1 HB.out)
      have p392 : 0 ≤ (x5_1 : Int) := of_decide_eq_true ZZ853400
      have q392 : x5_1 < (l0.length : Int) := of_decide_eq_true ZZ853400
      obtain ⟨ad392, e392, hx392_0, hx392_1⟩ := at_T48 HR0.out x5_1 p392 q392
      have hw392_1 := hx392_1
      have hw392_0 := hx392_0
      cases e392
      replace hx392_0 := (HB.out.cell (World.block_lt_of_cell? w _ hx392_0)).trans hx392_0
      replace hx392_1 := (HB.out.cell (World.block_lt_of_cell? w _ hx392_1)).trans hx392_1
      replace p392 := eq_true p392
      replace q392 := eq_true q392
      refine st 8 (S := fun w' => w'.cell? (ad392.add ((x5_1).toNat * 2)) = some (.string ((rd_T48 l0 x5_1).f0)) ∧ w'.cell? ⟨(ad392.add ((x5_1).toNat * 2)).block, (ad392.add ((x5_1).toNat * 2)).off + 1, none⟩ = some (.int .i64 ((rd_T48 l0 x5_1).f1))) laws_heldAccountS.tab4 laws_heldAccountS.bits4 zK (fun hHeld HT_ HW_ => ?_)
      generalize wr.drew = w8 at HB hx392_0 hx392_1 hHeld ⊢
      refine pu 0 12 ?_
      refine pu 1 13 ?_
      refine pu 2 14 ?_
      refine pu 3 15 ?_
      refine pu 5 17 ?_
      refine tk 4 16 ?_
      refine on1 6 18 Tryd.func112 #[.int .i64 x1_1] (laws_markText.calls k1 x1_1 t393 _ A5.out) ?_
      rintro w9 hb
      replace HB := hB hb
      (try clear hb)
      (try clear hb2)
      (try clear hk)
      (try clear hi)
      refine ⟨zK, fun hHeld => ?_⟩
      refine pu 7 19 ?_
      refine done_ (done_of HT_.out (by kernel_rfl)) ?_
      have p394 : 0 ≤ (x5_1 : Int) := of_decide_eq_true ZZ853400
      have q394 : x5_1 < (l0.length : Int) := of_decide_eq_true ZZ853400
      obtain ⟨ad394, e394, hx394_0, hx394_1⟩ := at_T48 HR0.out x5_1 p394 q394
      obtain rfl : ad392 = ad394 := (by injection e394)
      replace hx394_0 := (HB.out.cell (World.block_lt_of_cell? w _ hx394_0)).trans hx394_0
      replace hx394_1 := (HB.out.cell (World.block_lt_of_cell? w _ hx394_1)).trans hx394_1
      replace p394 := eq_true p394
      replace q394 := eq_true q394
      try go_wp2
      go_roundg k1
      case measure => have := HK1.out; omega
      case rel => exact ⟨(wrap64 ((wrap64 (x1_1 + 1)) + 1)), (wrap64 (x5_1 + 1)), ZZ0ab324, ZZ0ab324, H, kle, ⟨ZZ605003⟩⟩
     rw [if_neg c7] at H
     have c7b0 := beq_eq_false_iff_ne.mpr c7
     have c7b1 := bne_iff_ne.mpr c7
     obtain rfl := Option.some.inj H
     try go_wp2
     replace HB := Aside0.mk (below_drew1 HB.out)
     have p392 : 0 ≤ (x5_1 : Int) := of_decide_eq_true ZZ853400
     have q392 : x5_1 < (l0.length : Int) := of_decide_eq_true ZZ853400
     obtain ⟨ad392, e392, hx392_0, hx392_1⟩ := at_T48 HR0.out x5_1 p392 q392
     have hw392_1 := hx392_1
     have hw392_0 := hx392_0
     cases e392
     replace hx392_0 := (HB.out.cell (World.block_lt_of_cell? w _ hx392_0)).trans hx392_0
     replace hx392_1 := (HB.out.cell (World.block_lt_of_cell? w _ hx392_1)).trans hx392_1
     replace p392 := eq_true p392
     replace q392 := eq_true q392
     refine st 8 (S := fun w' => w'.cell? (ad392.add ((x5_1).toNat * 2)) = some (.string ((rd_T48 l0 x5_1).f0)) ∧ w'.cell? ⟨(ad392.add ((x5_1).toNat * 2)).block, (ad392.add ((x5_1).toNat * 2)).off + 1, none⟩ = some (.int .i64 ((rd_T48 l0 x5_1).f1))) laws_heldAccountS.tab4 laws_heldAccountS.bits4 zK (fun hHeld HT_ HW_ => ?_)
     generalize wr.drew = w10 at HB hx392_0 hx392_1 hHeld ⊢
     refine pu 0 12 ?_
     refine pu 1 13 ?_
     refine pu 2 14 ?_
     refine pu 3 15 ?_
     refine pu 5 17 ?_
     refine tk 4 16 ?_
     refine on1 6 18 Tryd.func112 #[.int .i64 x1_1] (laws_markText.calls k1 x1_1 t393 _ A5.out) ?_
     rintro w11 hb
     replace HB := hB hb
     (try clear hb)
     (try clear hb2)
     (try clear hk)
     (try clear hi)
     refine ⟨zK, fun hHeld => ?_⟩
     refine pu 7 19 ?_
     refine done_ (done_of HT_.out (by kernel_rfl)) ?_
     have p394 : 0 ≤ (x5_1 : Int) := of_decide_eq_true ZZ853400
     have q394 : x5_1 < (l0.length : Int) := of_decide_eq_true ZZ853400
     obtain ⟨ad394, e394, hx394_0, hx394_1⟩ := at_T48 HR0.out x5_1 p394 q394
     obtain rfl : ad392 = ad394 := (by injection e394)
     replace hx394_0 := (HB.out.cell (World.block_lt_of_cell? w _ hx394_0)).trans hx394_0
     replace hx394_1 := (HB.out.cell (World.block_lt_of_cell? w _ hx394_1)).trans hx394_1
     replace p394 := eq_true p394
     replace q394 := eq_true q394
     try go_wp2
     go_ret
     exact ⟨ZZab01d2, ZZ605003⟩
    rw [if_neg c6] at H
    have c6b0 := beq_eq_false_iff_ne.mpr c6
    have c6b1 := bne_iff_ne.mpr c6
    obtain rfl := Option.some.inj H
    try go_wp2
    replace HB := Aside0.mk (below_drew1 HB.out)
    have p392 : 0 ≤ (x5_1 : Int) := of_decide_eq_true ZZ853400
    have q392 : x5_1 < (l0.length : Int) := of_decide_eq_true ZZ853400
    obtain ⟨ad392, e392, hx392_0, hx392_1⟩ := at_T48 HR0.out x5_1 p392 q392
    have hw392_1 := hx392_1
    have hw392_0 := hx392_0
    cases e392
    replace hx392_0 := (HB.out.cell (World.block_lt_of_cell? w _ hx392_0)).trans hx392_0
    replace hx392_1 := (HB.out.cell (World.block_lt_of_cell? w _ hx392_1)).trans hx392_1
    replace p392 := eq_true p392
    replace q392 := eq_true q392
    refine st 8 (S := fun w' => w'.cell? (ad392.add ((x5_1).toNat * 2)) = some (.string ((rd_T48 l0 x5_1).f0)) ∧ w'.cell? ⟨(ad392.add ((x5_1).toNat * 2)).block, (ad392.add ((x5_1).toNat * 2)).off + 1, none⟩ = some (.int .i64 ((rd_T48 l0 x5_1).f1))) laws_heldAccountS.tab4 laws_heldAccountS.bits4 zK (fun hHeld HT_ HW_ => ?_)
    generalize wr.drew = w12 at HB hx392_0 hx392_1 hHeld ⊢
    refine pu 0 12 ?_
    refine pu 1 13 ?_
    refine pu 2 14 ?_
    refine pu 3 15 ?_
    refine pu 5 17 ?_
    refine tk 4 16 ?_
    refine on1 6 18 Tryd.func112 #[.int .i64 x1_1] (laws_markText.calls k1 x1_1 t393 _ A5.out) ?_
    rintro w13 hb
    replace HB := hB hb
    (try clear hb)
    (try clear hb2)
    (try clear hk)
    (try clear hi)
    refine ⟨zK, fun hHeld => ?_⟩
    refine pu 7 19 ?_
    refine done_ (done_of HT_.out (by kernel_rfl)) ?_
    try go_wp2
    go_ret
    exact ⟨ZZab01d2, ZZ605003⟩
   rw [if_neg c3] at H
   have c3b0 := decide_eq_false c3
   clear c3
   obtain rfl := Option.some.inj H
   go_wp2
   go_ret
   exact ⟨ZZab01d2, ZZ605003⟩
def laws_heldPostingS.l0 : Nat → List (S70) → Int → Int → Option (Int)
 | 0, _, _, _ => none
 | k + 1, x0, x1, x5 => if x5 < (x0.length : Int) then (if 0 ≤ x5 then (if ((rd_T70 x0 x5).f0) = x1 then (if ((rd_T70 x0 x5).f1) = (wrap64 (x1 + 1)) then (laws_heldPostingS.l0 k x0 (wrap64 ((wrap64 (x1 + 1)) + 1)) (wrap64 (x5 + 1))) else (some (-1))) else (some (-1))) else (none)) else (some x1)
def laws_heldPostingS.f (k : Nat) (l0 : List (S70)) (a1 : Int) : Option (Int) := laws_heldPostingS.l0 k l0 a1 0
theorem laws_heldPostingS.mono_l : ∀ k, (∀ y0 y1 y2, LeO (laws_heldPostingS.l0 k y0 y1 y2) (laws_heldPostingS.l0 (k + 1) y0 y1 y2))
 | 0 => fun _ _ _ r h => by simp [laws_heldPostingS.l0] at h
 | k + 1 => by
  have ih0 := laws_heldPostingS.mono_l k
  ·intro y0 y1 y2
   unfold laws_heldPostingS.l0
   repeat' with_reducible first | apply ih0 | exact LeO.refl _ | exact LeO.none _ | refine LeO.ite ?_ ?_ | refine LeO.bind ?_ (fun _ => ?_)
theorem laws_heldPostingS.mono : ∀ a0 a1 k, LeO (laws_heldPostingS.f k a0 a1) (laws_heldPostingS.f (k + 1) a0 a1) := by
 intro a0 a1 k
 have ih0 := laws_heldPostingS.mono_l k
 unfold laws_heldPostingS.f
 repeat' with_reducible first | apply ih0 | exact LeO.refl _ | exact LeO.none _ | refine LeO.ite ?_ ?_ | refine LeO.bind ?_ (fun _ => ?_)
set_option maxHeartbeats 8000000 in
set_option maxRecDepth 100000 in
theorem laws_heldPostingS.calls (k : Nat) (A0 : Option Addr) (c0 : Nat) (l0 : List (S70)) (a1 : Int) (r : Int) (w : World) (hr0 : Kd.C k70 w A0 l0.length l0) (hc0 : l0.length ≤ c0) (h : laws_heldPostingS.f k l0 a1 = some r) :
 Calls Tryd.prog 115 #[.slice A0 l0.length c0, .int .i64 a1] w fun e w' => e = .returned (.int .i64 r) ∧ Drawn0 w w' := by
 have HR0 := Aside0.mk hr0
 have HC0 := Aside0.mk hc0
 clear hr0 hc0
 have H := h
 clear h
 unfold laws_heldPostingS.f at H
 replace H := Aside0.mk H
 go_enter Tryd.func115, Tryd.ntmps115
 go_wp2
 go_loopg [1, 5] k (fun kq v1 v5 w' => ∃ (x1_1 : Int) (x5_1 : Int), v1 = .int .i64 x1_1 ∧ v5 = .int .i64 x5_1 ∧ Aside0 (laws_heldPostingS.l0 kq l0 x1_1 x5_1 = some r) ∧ Aside0 (kq ≤ k) ∧ Drawn0 w w')
 case atStart => exact ⟨(a1), (0), ZZ0ab324, ZZ0ab324, H, ⟨Nat.le_refl _⟩, ZZ965307⟩
 case round =>
  clear H
  obtain ⟨x1_1, x5_1, rfl, rfl, HA, HK1, ⟨m1, rfl⟩⟩ := hrel
  cases gk with
  | zero => exact absurd HA.out (by simp [laws_heldPostingS.l0])
  | succ k1 =>
   have H := HA.out
   clear HA
   simp only [laws_heldPostingS.l0] at H
   by_cases c3 : x5_1 < (l0.length : Int)
   ·rw [if_pos c3] at H
    have c3b0 := decide_eq_true c3
    clear c3
    obtain ⟨c4b0, H⟩ := ifYd H
    by_cases c5 : ((rd_T70 l0 x5_1).f0) = x1_1
    ·rw [if_pos c5] at H
     have c5b0 := beq_iff_eq.mpr c5
     have c5b1 := bne_eq_false_iff_eq.mpr c5
     clear c5
     by_cases c6 : ((rd_T70 l0 x5_1).f1) = (wrap64 (x1_1 + 1))
     ·rw [if_pos c6] at H
      have c6b0 := beq_iff_eq.mpr c6
      have c6b1 := bne_eq_false_iff_eq.mpr c6
      clear c6
      replace H := Aside0.mk H
      have p395 : 0 ≤ (x5_1 : Int) := of_decide_eq_true ZZ853400
      have q395 : x5_1 < (l0.length : Int) := of_decide_eq_true ZZ853400
      obtain ⟨ad395, e395, hx395_0, hx395_1⟩ := at_T70 HR0.out x5_1 p395 q395
      cases e395
      replace p395 := eq_true p395
      replace q395 := eq_true q395
      have p396 : 0 ≤ (x5_1 : Int) := of_decide_eq_true ZZ853400
      have q396 : x5_1 < (l0.length : Int) := of_decide_eq_true ZZ853400
      obtain ⟨ad396, e396, hx396_0, hx396_1⟩ := at_T70 HR0.out x5_1 p396 q396
      obtain rfl : ad395 = ad396 := (by injection e396)
      replace p396 := eq_true p396
      replace q396 := eq_true q396
      go_wp2
      go_roundg k1
      case measure => have := HK1.out; omega
      case rel => exact ⟨(wrap64 ((wrap64 (x1_1 + 1)) + 1)), (wrap64 (x5_1 + 1)), ZZ0ab324, ZZ0ab324, H, kle, ZZ965307⟩
     rw [if_neg c6] at H
     have c6b0 := beq_eq_false_iff_ne.mpr c6
     have c6b1 := bne_iff_ne.mpr c6
     obtain rfl := Option.some.inj H
     have p395 : 0 ≤ (x5_1 : Int) := of_decide_eq_true ZZ853400
     have q395 : x5_1 < (l0.length : Int) := of_decide_eq_true ZZ853400
     obtain ⟨ad395, e395, hx395_0, hx395_1⟩ := at_T70 HR0.out x5_1 p395 q395
     cases e395
     replace p395 := eq_true p395
     replace q395 := eq_true q395
     have p396 : 0 ≤ (x5_1 : Int) := of_decide_eq_true ZZ853400
     have q396 : x5_1 < (l0.length : Int) := of_decide_eq_true ZZ853400
     obtain ⟨ad396, e396, hx396_0, hx396_1⟩ := at_T70 HR0.out x5_1 p396 q396
     obtain rfl : ad395 = ad396 := (by injection e396)
     replace p396 := eq_true p396
     replace q396 := eq_true q396
     go_wp2
     go_ret
     exact ⟨ZZ0ab324, ZZ965307⟩
    rw [if_neg c5] at H
    have c5b0 := beq_eq_false_iff_ne.mpr c5
    have c5b1 := bne_iff_ne.mpr c5
    obtain rfl := Option.some.inj H
    have p395 : 0 ≤ (x5_1 : Int) := of_decide_eq_true ZZ853400
    have q395 : x5_1 < (l0.length : Int) := of_decide_eq_true ZZ853400
    obtain ⟨ad395, e395, hx395_0, hx395_1⟩ := at_T70 HR0.out x5_1 p395 q395
    cases e395
    replace p395 := eq_true p395
    replace q395 := eq_true q395
    go_wp2
    go_ret
    exact ⟨ZZ0ab324, ZZ965307⟩
   rw [if_neg c3] at H
   have c3b0 := decide_eq_false c3
   clear c3
   obtain rfl := Option.some.inj H
   go_wp2
   go_ret
   exact ⟨ZZ0ab324, ZZ965307⟩
end Go.Proofs.YtccdjchaaeligaaDoor.XFnExactPostEntry

-- Printed by wip/tools/xprint.py, a program of this session, over the kit's print; Lean checks it.
import Derived.Test.YtmhmeifdnleoaaaDoorXFnLogLines0
import Derived.Test.YtmhmeifdnleoaaaDoorXFnLogLines2
import Derived.Test.YtmhmeifdnleoaaaDoorXFnLogLines3
import Derived.Test.YtmhmeifdnleoaaaDoorXFnLogLines4
namespace Go.Proofs.YtmhmeifdnleoaaaDoor.XFnLogLines
open Go.Proofs.YtmhmeifdnleoaaaDoor.Short Go.RowKit Go.Proofs.YtmhmeifdnleoaaaDoorW.PrintWords Go.Proofs.YtmhmeifdnleoaaaDoorW.PrintLast Go.Proofs.YtmhmeifdnleoaaaDoorW.PrintMore
attribute [local go_sem] max2_int min2_int max_two min_two max_three min_three max_four min_four   -- for this text's walks alone
set_option linter.unusedVariables false
set_option linter.unusedSimpArgs false
theorem ZZ06bdf4 {p : Prop} (h : p := by (with_reducible repeat (first | refine blk_drewN ?_ _ | refine blk_drew ?_ | refine blk_alloc ?_ _)); exact BK145.out) : p := h
theorem ZZ5b2eb9 {p : Prop} (h : p := by repeat (first | (with_reducible first | exact HB.out | apply below_alloc | apply pw_below_drewN | apply below_drew1 | refine below_set ?_ GE145.out) | exact HB.out)) : p := h
theorem ZZ7b8061 {p : Prop} (h : p := by (with_reducible repeat (first | apply Kd.R_alloc | apply Kd.R_drewN | apply Kd.R_drew)); exact HO_4.out) : p := h
theorem ZZde1585 {p : Prop} (h : p := by (with_reducible repeat (first | apply Kd.R_alloc | apply Kd.R_drewN | apply Kd.R_drew)); exact HO163.out) : p := h
/-! ### spec_l27Read: function 69 -/
def spec_l27Read.j0 : Nat → ByteArray → Int → ByteArray → ByteArray → Bool → Option (ByteArray × ByteArray × Bool)
 | 0, _, _, _, _, _ => none
 | k + 1, x0, x1, x6, x7, x30 => if x30 = true then (some ((⟨#[]⟩ : ByteArray), (⟨#[]⟩ : ByteArray), false)) else (if 0 ≤ (x6.size : Int) then (if (x6.size : Int) ≤ (x7.size : Int) then ((spec_l1Split.f k (x7.extract ((x6.size : Int) : Int).toNat x7.size) 64).bind fun t151 => (if 0 < (t151.length : Int) then (if ((rdOf ByteArray.empty t151 0).size : Int) = ((x7.extract ((x6.size : Int) : Int).toNat x7.size).size : Int) then (some ((⟨#[]⟩ : ByteArray), (⟨#[]⟩ : ByteArray), false)) else (if 0 ≤ (wrap64 (((rdOf ByteArray.empty t151 0).size : Int) + 1)) then (if (wrap64 (((rdOf ByteArray.empty t151 0).size : Int) + 1)) ≤ ((x7.extract ((x6.size : Int) : Int).toNat x7.size).size : Int) then ((spec_l27Good.f k (rdOf ByteArray.empty t151 0) ((x7.extract ((x6.size : Int) : Int).toNat x7.size).extract ((wrap64 (((rdOf ByteArray.empty t151 0).size : Int) + 1)) : Int).toNat (x7.extract ((x6.size : Int) : Int).toNat x7.size).size)).bind fun t156 => (if t156 = true then ((spec_l27Line.f k x1 (rdOf ByteArray.empty t151 0) ((x7.extract ((x6.size : Int) : Int).toNat x7.size).extract ((wrap64 (((rdOf ByteArray.empty t151 0).size : Int) + 1)) : Int).toNat (x7.extract ((x6.size : Int) : Int).toNat x7.size).size)).bind fun t157 => (if x0.size + 1 ≤ 9223372036854775807 then (some (rdOf ByteArray.empty t151 0, (x7.extract ((x6.size : Int) : Int).toNat x7.size).extract ((wrap64 (((rdOf ByteArray.empty t151 0).size : Int) + 1)) : Int).toNat (x7.extract ((x6.size : Int) : Int).toNat x7.size).size, (t157.toList == (x0 ++ (⟨#[10]⟩ : ByteArray)).toList))) else (none))) else (some (rdOf ByteArray.empty t151 0, (x7.extract ((x6.size : Int) : Int).toNat x7.size).extract ((wrap64 (((rdOf ByteArray.empty t151 0).size : Int) + 1)) : Int).toNat (x7.extract ((x6.size : Int) : Int).toNat x7.size).size, false)))) else (none)) else (none))) else (none))) else (none)) else (none))
def spec_l27Read.f (k : Nat) (a0 : ByteArray) (a1 : Int) : Option (ByteArray × ByteArray × Bool) := (spec_l1Num.f k a1).bind fun t146 => (if t146.size + 1 ≤ 9223372036854775807 then ((spec_l1Split.f k a0 35).bind fun t147 => (if 0 < (t147.length : Int) then (if ((rdOf ByteArray.empty t147 0).size : Int) < ((t146.size : Int) + 1) then (spec_l27Read.j0 k a0 a1 (t146 ++ (⟨#[32]⟩ : ByteArray)) (rdOf ByteArray.empty t147 0) true) else (if 0 ≤ ((t146.size : Int) + 1) then (if ((t146.size : Int) + 1) ≤ ((rdOf ByteArray.empty t147 0).size : Int) then (spec_l27Read.j0 k a0 a1 (t146 ++ (⟨#[32]⟩ : ByteArray)) (rdOf ByteArray.empty t147 0) (((rdOf ByteArray.empty t147 0).extract 0 (((t146.size : Int) + 1) : Int).toNat).toList != (t146 ++ (⟨#[32]⟩ : ByteArray)).toList)) else (none)) else (none))) else (none))) else (none))
theorem spec_l27Read.mono_l : ∀ k, (∀ y0 y1 y2 y3 y4, LeO (spec_l27Read.j0 k y0 y1 y2 y3 y4) (spec_l27Read.j0 (k + 1) y0 y1 y2 y3 y4))
 | 0 => fun _ _ _ _ _ r h => by simp [spec_l27Read.j0] at h
 | k + 1 => by
  have ih0 := spec_l27Read.mono_l k
  ·intro y0 y1 y2 y3 y4
   unfold spec_l27Read.j0
   repeat' first
   | (with_reducible exact ih0 _ _ _ _ _)
   | (with_reducible exact spec_l1Num.mono _ _)
   | (with_reducible exact spec_l1Split.mono _ _ _)
   | (with_reducible exact spec_l27Good.mono _ _ _)
   | (with_reducible exact spec_l27Line.mono _ _ _ _)
   | (with_reducible exact LeO.refl _)
   | (with_reducible exact LeO.none _)
   | (with_reducible refine LeO.ite ?_ ?_)
   | (with_reducible refine LeO.bind ?_ (fun _ => ?_))
   | exact ih0 _ _ _ _ _
   | exact spec_l1Num.mono _ _
   | exact spec_l1Split.mono _ _ _
   | exact spec_l27Good.mono _ _ _
   | exact spec_l27Line.mono _ _ _ _
   | exact LeO.none _
   | refine LeO.ite ?_ ?_
   | refine LeO.bind ?_ (fun _ => ?_)
theorem spec_l27Read.mono : ∀ a0 a1 k, LeO (spec_l27Read.f k a0 a1) (spec_l27Read.f (k + 1) a0 a1) := by
 intro a0 a1 k
 have ih0 := spec_l27Read.mono_l k
 unfold spec_l27Read.f
 repeat' first
  | (with_reducible exact ih0 _ _ _ _ _)
  | (with_reducible exact spec_l1Num.mono _ _)
  | (with_reducible exact spec_l1Split.mono _ _ _)
  | (with_reducible exact spec_l27Good.mono _ _ _)
  | (with_reducible exact spec_l27Line.mono _ _ _ _)
  | (with_reducible exact LeO.refl _)
  | (with_reducible exact LeO.none _)
  | (with_reducible refine LeO.ite ?_ ?_)
  | (with_reducible refine LeO.bind ?_ (fun _ => ?_))
  | exact ih0 _ _ _ _ _
  | exact spec_l1Num.mono _ _
  | exact spec_l1Split.mono _ _ _
  | exact spec_l27Good.mono _ _ _
  | exact spec_l27Line.mono _ _ _ _
  | exact LeO.none _
  | refine LeO.ite ?_ ?_
  | refine LeO.bind ?_ (fun _ => ?_)
def spec_l27Read.T10 : Bool × List (List Nat × List Nat) := (true, [([], []), ([], []), ([1], [1]), ([2, 2], [2]), ([3], [3]), ([3], [3]), ([4, 5, 3, 3], [3, 4, 5]), ([3], [3]), ([7, 3], [3, 7]), ([6, 8, 3], [3, 6, 8]), ([3, 9], [3, 9]), ([0, 6, 0], [0]), ([10, 11, 0, 1, 2, 3, 4, 5, 6, 7, 8, 9, 10, 11], [10])])
def spec_l27Read.B10 : List Nat := [0, 0, 2, 6, 14, 14, 62, 14, 142, 510, 1022, 127, 4095]
theorem spec_l27Read.tab10 : rtab .any (opsOf Tryd.f69 10) = spec_l27Read.T10 := by kernel_rfl
theorem spec_l27Read.bits10 : waitsOk spec_l27Read.T10.2 spec_l27Read.B10 = true := by kernel_rfl
set_option maxHeartbeats 8000000 in
set_option maxRecDepth 100000 in
theorem spec_l27Read.calls (k : Nat) (a0 : ByteArray) (a1 : Int) (r1 : ByteArray) (r2 : ByteArray) (r3 : Bool) (w : World) (h : spec_l27Read.f k a0 a1 = some (r1, r2, r3)) :
 Calls Tryd.prog 69 #[.string a0, .int .i64 a1] w fun e w' => e = .returned (.tuple #[.agg #[.string r1, .string r2], .bool r3]) ∧ Below w.heap.size w w' := by
 have hu27 := Tryd.underlying27
 have HB := Aside0.mk (Below.refl w.heap.size w)
 have H : ((spec_l1Num.f k a1).bind fun t146 => (if t146.size + 1 ≤ 9223372036854775807 then ((spec_l1Split.f k a0 35).bind fun t147 => (if 0 < (t147.length : Int) then (if ((rdOf ByteArray.empty t147 0).size : Int) < ((t146.size : Int) + 1) then (spec_l27Read.j0 k a0 a1 (t146 ++ (⟨#[32]⟩ : ByteArray)) (rdOf ByteArray.empty t147 0) true) else (if 0 ≤ ((t146.size : Int) + 1) then (if ((t146.size : Int) + 1) ≤ ((rdOf ByteArray.empty t147 0).size : Int) then (spec_l27Read.j0 k a0 a1 (t146 ++ (⟨#[32]⟩ : ByteArray)) (rdOf ByteArray.empty t147 0) (((rdOf ByteArray.empty t147 0).extract 0 (((t146.size : Int) + 1) : Int).toNat).toList != (t146 ++ (⟨#[32]⟩ : ByteArray)).toList)) else (none)) else (none))) else (none))) else (none))) = some (r1, r2, r3) := h
 clear h
 replace H := Option.bind_eq_some_iff.mp H
 obtain ⟨t146, A30, H⟩ := H
 replace H : (if t146.size + 1 ≤ 9223372036854775807 then ((spec_l1Split.f k a0 35).bind fun t147 => (if 0 < (t147.length : Int) then (if ((rdOf ByteArray.empty t147 0).size : Int) < ((t146.size : Int) + 1) then (spec_l27Read.j0 k a0 a1 (t146 ++ (⟨#[32]⟩ : ByteArray)) (rdOf ByteArray.empty t147 0) true) else (if 0 ≤ ((t146.size : Int) + 1) then (if ((t146.size : Int) + 1) ≤ ((rdOf ByteArray.empty t147 0).size : Int) then (spec_l27Read.j0 k a0 a1 (t146 ++ (⟨#[32]⟩ : ByteArray)) (rdOf ByteArray.empty t147 0) (((rdOf ByteArray.empty t147 0).extract 0 (((t146.size : Int) + 1) : Int).toNat).toList != (t146 ++ (⟨#[32]⟩ : ByteArray)).toList)) else (none)) else (none))) else (none))) else (none)) = some (r1, r2, r3) := H
 have A3 := Aside0.mk A30
 clear A30
 by_cases c4 : t146.size + 1 ≤ 9223372036854775807
 ·rw [if_pos c4] at H
  have c4b0 := eq_true c4
  have c4b1 : decide (t146.size + 1 ≤ 9223372036854775807) = true := decide_eq_true c4
  try have c4b2 : (9223372036854775807 < t146.size + 1) = False := eq_false (Nat.not_lt.2 c4)
  replace H := Option.bind_eq_some_iff.mp H
  obtain ⟨t147, A50, H⟩ := H
  replace H : (if 0 < (t147.length : Int) then (if ((rdOf ByteArray.empty t147 0).size : Int) < ((t146.size : Int) + 1) then (spec_l27Read.j0 k a0 a1 (t146 ++ (⟨#[32]⟩ : ByteArray)) (rdOf ByteArray.empty t147 0) true) else (if 0 ≤ ((t146.size : Int) + 1) then (if ((t146.size : Int) + 1) ≤ ((rdOf ByteArray.empty t147 0).size : Int) then (spec_l27Read.j0 k a0 a1 (t146 ++ (⟨#[32]⟩ : ByteArray)) (rdOf ByteArray.empty t147 0) (((rdOf ByteArray.empty t147 0).extract 0 (((t146.size : Int) + 1) : Int).toNat).toList != (t146 ++ (⟨#[32]⟩ : ByteArray)).toList)) else (none)) else (none))) else (none)) = some (r1, r2, r3) := H
  have A5 := Aside0.mk A50
  clear A50
  by_cases c6 : 0 < (t147.length : Int)
  ·rw [if_pos c6] at H
   have c6b0 : decide (0 < (t147.length : Int)) = true := decide_eq_true c6
   have c6b1 : decide (0 < t147.length) = true := decide_eq_true (by omega)
   clear c6
   have HC7 := Aside0.mk H
   clear H
   go_enter Tryd.func69, Tryd.ntmps69
   go_upto_region 3 with (first | ((with_reducible refine gate_dst (N := 4) rfl ?_); (try (refine gate_guard (by rfl) ?_; dsimp only)); refine box_event ?hg (N := 4) ?hd (cs := #[.string (⟨#[]⟩ : ByteArray), .string (⟨#[]⟩ : ByteArray)]) (t := 27) ?hr ?_; (case hd => rfl); (case hg => rfl); (case hr => first | (go_simp; done) | (go_simp; rfl)); intro gb145 hg w8 hbox hb; have n0_ := Aside0.mk (below_step ZZ605003 hb); have n1_ := Aside0.mk (hbox); have n2_ := Aside0.mk ((by rw [hg]; exact (below_size ZZ605003) : w.heap.size ≤ gb145)); have n3_ := Aside0.mk ((by rw [hg]; exact (below_size ZZ605003) : w.heap.size ≤ gb145)); clear HB; have HB := n0_; have BK145 := n1_; have GW145 := n2_; have GE145 := n3_; clear n0_ n1_ n2_ n3_; clear hb hbox hg) | ((with_reducible refine gate_callee (f := 65) rfl ?_); refine goesL_ (some 12) rfl rfl Tryd.func65 (by kernel_rfl) rfl #[.int .i64 a1] rfl ZZ19826e ?_; (with_reducible refine (spec_l1Num.calls k a1 t146 _ A3.out).mono ?_); rintro e w9 ⟨rfl, hb⟩; refine ⟨_, rfl, ?_⟩; have n0_ := Aside0.mk (blk_below (g := gb145) (o := .cells #[.string (⟨#[]⟩ : ByteArray), .string (⟨#[]⟩ : ByteArray)] 27 (0, 0)) ZZ06bdf4 hb); have n1_ := Aside0.mk (below_step ZZ5b2eb9 hb); clear BK145; clear HB; have BK145 := n0_; have HB := n1_; clear n0_ n1_; (try clear hb); (try clear hb2); (try clear hk); (try clear hi)) | ((with_reducible refine gate_callee (f := 68) rfl ?_); refine goesL_ (some 15) rfl rfl Tryd.func68 (by kernel_rfl) rfl #[.string a0, .int .u8 35] rfl ZZ19826e ?_; (with_reducible refine (spec_l1Split.calls k a0 35 t147 _ A5.out).mono ?_); rintro e w10 ⟨v148, rfl, ho0, hb⟩; refine ⟨_, rfl, ?_⟩; have n0_ := Aside0.mk (Kd.R_lower ho0 (below_size ZZ5b2eb9)); have n1_ := Aside0.mk (blk_below (g := gb145) (o := .cells #[.string (⟨#[]⟩ : ByteArray), .string (⟨#[]⟩ : ByteArray)] 27 (0, 0)) ZZ06bdf4 hb); have n2_ := Aside0.mk (below_step ZZ5b2eb9 hb); clear BK145; clear HB; have HO149 := n0_; have BK145 := n1_; have HB := n2_; clear n0_ n1_ n2_; (try clear hb); (try clear hb2); (try clear hk); (try clear hi); (try clear ho0); obtain ⟨Ao11, co11, eo11⟩ := Kd.R_slice HO149.out; subst eo11; have p150 : 0 ≤ (0 : Int) := (by omega); have q150 : 0 < (t147.length : Int) := of_decide_eq_true ZZ853400; obtain ⟨ad150, e150, hx150_0⟩ := Kd.at_string (Kd.R_reads' HO149.out).2.2 0 p150 q150; cases e150; have qi150 : (0 < t147.length) = True := eq_true (by omega); (try rw [show ((0 : Int)).toNat = 0 from rfl] at hx150_0); (try rw [Addr.add_zero'] at hx150_0); replace p150 := eq_true p150; replace q150 := eq_true q150))
   (try simp only [Act.put, List.setIfInBounds_toArray, List.set_cons_zero, List.set_cons_succ])
   go_cut [6, 30] (fun v6 v30 wc => ∃ (kq : Nat) (x6_6 : ByteArray) (x30_6 : Bool), v6 = .string x6_6 ∧ v30 = .bool x30_6 ∧ Aside0 (spec_l27Read.j0 kq a0 a1 x6_6 (rdOf ByteArray.empty t147 0) x30_6 = some (r1, r2, r3)) ∧ Aside0 (kq ≤ k) ∧ Aside0 (wc.heap[gb145]? = some (.cells #[.string (⟨#[]⟩ : ByteArray), .string (⟨#[]⟩ : ByteArray)] 27 (0, 0))) ∧ Aside0 (Below w.heap.size w wc))
   case first =>
    have H := HC7.out
    clear HC7
    by_cases c12 : ((rdOf ByteArray.empty t147 0).size : Int) < ((t146.size : Int) + 1)
    ·rw [if_pos c12] at H
     have c12b0 : decide (((rdOf ByteArray.empty t147 0).size : Int) < ((t146.size : Int) + 1)) = true := decide_eq_true c12
     clear c12
     (first | rw [c12b0] | (simp only [i64_w, i32_w]; rw [c12b0]) | skip)
     have H' := Aside0.mk H
     clear H
     go_wp2
     go_meet
     case rel => exact ⟨_, (t146 ++ (⟨#[32]⟩ : ByteArray)), (true), ZZ0ab324, ZZ0ab324, H', ⟨by first | omega | exact Nat.le_refl _⟩, ⟨by (with_reducible repeat (first | refine blk_drewN ?_ _ | refine blk_drew ?_ | refine blk_alloc ?_ _)); exact BK145.out⟩, ⟨by repeat (first | (with_reducible first | exact HB.out | apply below_alloc | apply pw_below_drewN | apply below_drew1 | refine below_set ?_ GE145.out) | exact HB.out)⟩⟩
    ·rw [if_neg c12] at H
     have c12b0 : decide (((rdOf ByteArray.empty t147 0).size : Int) < ((t146.size : Int) + 1)) = false := decide_eq_false c12
     clear c12
     (first | rw [c12b0] | (simp only [i64_w, i32_w]; rw [c12b0]) | skip)
     obtain ⟨ji13, hji13⟩ : ∃ j_ : Int, ((t146.size : Int) + 1) = j_ := ⟨_, rfl⟩
     replace H : (if 0 ≤ (ji13) then (if (ji13) ≤ ((rdOf ByteArray.empty t147 0).size : Int) then (spec_l27Read.j0 k a0 a1 (t146 ++ (⟨#[32]⟩ : ByteArray)) (rdOf ByteArray.empty t147 0) (((rdOf ByteArray.empty t147 0).extract 0 ((ji13) : Int).toNat).toList != (t146 ++ (⟨#[32]⟩ : ByteArray)).toList)) else (none)) else (none)) = some (r1, r2, r3) := by first | (rw [hji13] at H; exact H) | (simp only [hji13] at H ⊢; exact H)
     (try rw [hji13] at c12b0)
     by_cases c14 : 0 ≤ (ji13)
     ·rw [if_pos c14] at H
      have c14b0 := eq_true c14
      have c14b1 : decide (0 ≤ (ji13)) = true := decide_eq_true c14
      clear c14
      by_cases c15 : (ji13) ≤ ((rdOf ByteArray.empty t147 0).size : Int)
      ·rw [if_pos c15] at H
       have c15b0 := eq_true c15
       have c15b1 : decide ((ji13) ≤ ((rdOf ByteArray.empty t147 0).size : Int)) = true := decide_eq_true c15
       clear c15
       have H' := Aside0.mk H
       clear H
       go_wp2
       go_meet
       case rel => exact ⟨_, (t146 ++ (⟨#[32]⟩ : ByteArray)), ((((rdOf ByteArray.empty t147 0).extract 0 ((ji13) : Int).toNat).toList != (t146 ++ (⟨#[32]⟩ : ByteArray)).toList)), ZZ0ab324, (by first | rfl | (simp; done) | (simp only [← hji13] <;> (first | rfl | simp)) | (simp [*]; done)), H', ⟨by first | omega | exact Nat.le_refl _⟩, ⟨by (with_reducible repeat (first | refine blk_drewN ?_ _ | refine blk_drew ?_ | refine blk_alloc ?_ _)); exact BK145.out⟩, ⟨by repeat (first | (with_reducible first | exact HB.out | apply below_alloc | apply pw_below_drewN | apply below_drew1 | refine below_set ?_ GE145.out) | exact HB.out)⟩⟩
      ·rw [if_neg c15] at H
       exact absurd H (by simp)
     ·rw [if_neg c14] at H
      exact absurd H (by simp)
   case rest =>
    clear HC7
    try clear c1
    try clear p1
    try clear q1
    try clear hx1
    try clear qi1
    try clear p2
    try clear c4
    try clear c4b0
    try clear c4b1
    try clear c4b2
    try clear c6
    try clear c6b0
    try clear c6b1
    try clear c12
    try clear c12b0
    try clear c14
    try clear c14b0
    try clear c14b1
    try clear c15
    try clear c15b0
    try clear c15b1
    try clear p15
    try clear q15
    try clear hx15
    try clear qi15
    try clear hx150_0
    try clear p150
    try clear q150
    obtain ⟨kq, x6_6, x30_6, rfl, rfl, HA, HJ6, BK145, HB⟩ := hcut
    cases kq with
    | zero => exact absurd HA.out (by simp [spec_l27Read.j0])
    | succ kj6 =>
     have H := HA.out
     clear HA
     simp only [spec_l27Read.j0] at H
     by_cases c16 : x30_6 = true
     ·subst c16
      have H1 : (some ((⟨#[]⟩ : ByteArray), (⟨#[]⟩ : ByteArray), false)) = some (r1, r2, r3) := by rw [if_pos rfl] at H; exact H
      clear H
      have H := H1
      clear H1
      simp only [Option.some.injEq, Prod.mk.injEq] at H
      obtain ⟨rfl, rfl, rfl⟩ := H
      have hcz17_0 : wc.cell? ⟨gb145, 0, none⟩ = some (.string (⟨#[]⟩ : ByteArray)) := (blk_cell BK145.out 0).trans rfl
      have hcz17_1 : wc.cell? ⟨gb145, 1, none⟩ = some (.string (⟨#[]⟩ : ByteArray)) := (blk_cell BK145.out 1).trans rfl
      have hfz17_0 := blk_frozen BK145.out 0
      have hfz17_1 := blk_frozen BK145.out 1
      go_wp2
      refine bodyPost_ret (results_ct rfl _ _ gb145 27 #[.string (⟨#[]⟩ : ByteArray), .string (⟨#[]⟩ : ByteArray)] (0, 0) _ rfl (by (with_reducible repeat (first | refine blk_drewN ?_ _ | refine blk_drew ?_ | refine blk_alloc ?_ _)); refine blk_put (cs := #[.string (⟨#[]⟩ : ByteArray), .string (⟨#[]⟩ : ByteArray)]) ?_ 1 _ rfl; (with_reducible repeat (first | refine blk_drewN ?_ _ | refine blk_drew ?_ | refine blk_alloc ?_ _)); refine blk_put (cs := #[.string (⟨#[]⟩ : ByteArray), .string (⟨#[]⟩ : ByteArray)]) ?_ 0 _ rfl; (with_reducible repeat (first | refine blk_drewN ?_ _ | refine blk_drew ?_ | refine blk_alloc ?_ _)); exact BK145.out) Tryd.underlying27 rfl (by kernel_rfl)) rfl ?_
      exact ⟨by first | rfl | (simp [errW_none, errW_some] <;> rfl) | (simp [*, errW_none, errW_some] <;> rfl), by repeat (first | (with_reducible first | exact HB.out | apply below_alloc | apply pw_below_drewN | apply below_drew1 | refine below_set ?_ GE145.out) | exact HB.out)⟩
     ·replace c16 := Bool.eq_false_iff.mpr c16
      subst c16
      have H1 : (if 0 ≤ (x6_6.size : Int) then (if (x6_6.size : Int) ≤ ((rdOf ByteArray.empty t147 0).size : Int) then ((spec_l1Split.f kj6 ((rdOf ByteArray.empty t147 0).extract ((x6_6.size : Int) : Int).toNat (rdOf ByteArray.empty t147 0).size) 64).bind fun t151 => (if 0 < (t151.length : Int) then (if ((rdOf ByteArray.empty t151 0).size : Int) = (((rdOf ByteArray.empty t147 0).extract ((x6_6.size : Int) : Int).toNat (rdOf ByteArray.empty t147 0).size).size : Int) then (some ((⟨#[]⟩ : ByteArray), (⟨#[]⟩ : ByteArray), false)) else (if 0 ≤ (wrap64 (((rdOf ByteArray.empty t151 0).size : Int) + 1)) then (if (wrap64 (((rdOf ByteArray.empty t151 0).size : Int) + 1)) ≤ (((rdOf ByteArray.empty t147 0).extract ((x6_6.size : Int) : Int).toNat (rdOf ByteArray.empty t147 0).size).size : Int) then ((spec_l27Good.f kj6 (rdOf ByteArray.empty t151 0) (((rdOf ByteArray.empty t147 0).extract ((x6_6.size : Int) : Int).toNat (rdOf ByteArray.empty t147 0).size).extract ((wrap64 (((rdOf ByteArray.empty t151 0).size : Int) + 1)) : Int).toNat ((rdOf ByteArray.empty t147 0).extract ((x6_6.size : Int) : Int).toNat (rdOf ByteArray.empty t147 0).size).size)).bind fun t156 => (if t156 = true then ((spec_l27Line.f kj6 a1 (rdOf ByteArray.empty t151 0) (((rdOf ByteArray.empty t147 0).extract ((x6_6.size : Int) : Int).toNat (rdOf ByteArray.empty t147 0).size).extract ((wrap64 (((rdOf ByteArray.empty t151 0).size : Int) + 1)) : Int).toNat ((rdOf ByteArray.empty t147 0).extract ((x6_6.size : Int) : Int).toNat (rdOf ByteArray.empty t147 0).size).size)).bind fun t157 => (if a0.size + 1 ≤ 9223372036854775807 then (some (rdOf ByteArray.empty t151 0, ((rdOf ByteArray.empty t147 0).extract ((x6_6.size : Int) : Int).toNat (rdOf ByteArray.empty t147 0).size).extract ((wrap64 (((rdOf ByteArray.empty t151 0).size : Int) + 1)) : Int).toNat ((rdOf ByteArray.empty t147 0).extract ((x6_6.size : Int) : Int).toNat (rdOf ByteArray.empty t147 0).size).size, (t157.toList == (a0 ++ (⟨#[10]⟩ : ByteArray)).toList))) else (none))) else (some (rdOf ByteArray.empty t151 0, ((rdOf ByteArray.empty t147 0).extract ((x6_6.size : Int) : Int).toNat (rdOf ByteArray.empty t147 0).size).extract ((wrap64 (((rdOf ByteArray.empty t151 0).size : Int) + 1)) : Int).toNat ((rdOf ByteArray.empty t147 0).extract ((x6_6.size : Int) : Int).toNat (rdOf ByteArray.empty t147 0).size).size, false)))) else (none)) else (none))) else (none))) else (none)) else (none)) = some (r1, r2, r3) := by rw [if_neg (show ¬ (false = true) by decide)] at H; exact H
      clear H
      have H := H1
      clear H1
      by_cases c18 : 0 ≤ (x6_6.size : Int)
      ·rw [if_pos c18] at H
       have c18b0 := eq_true c18
       have c18b1 : decide (0 ≤ (x6_6.size : Int)) = true := decide_eq_true c18
       clear c18
       by_cases c19 : (x6_6.size : Int) ≤ ((rdOf ByteArray.empty t147 0).size : Int)
       ·rw [if_pos c19] at H
        have c19b0 := eq_true c19
        have c19b1 : decide ((x6_6.size : Int) ≤ ((rdOf ByteArray.empty t147 0).size : Int)) = true := decide_eq_true c19
        clear c19
        obtain ⟨yc1, hyc1⟩ : ∃ y_ : ByteArray, ((rdOf ByteArray.empty t147 0).extract ((x6_6.size : Int) : Int).toNat (rdOf ByteArray.empty t147 0).size) = y_ := ⟨_, rfl⟩
        rw [hyc1] at H
        have hyc1w : (rdOf ByteArray.empty t147 0).extract x6_6.size (rdOf ByteArray.empty t147 0).size = yc1 := hyc1
        replace H := Option.bind_eq_some_iff.mp H
        obtain ⟨t151, A200, H⟩ := H
        replace H : (if 0 < (t151.length : Int) then (if ((rdOf ByteArray.empty t151 0).size : Int) = (yc1.size : Int) then (some ((⟨#[]⟩ : ByteArray), (⟨#[]⟩ : ByteArray), false)) else (if 0 ≤ (wrap64 (((rdOf ByteArray.empty t151 0).size : Int) + 1)) then (if (wrap64 (((rdOf ByteArray.empty t151 0).size : Int) + 1)) ≤ (yc1.size : Int) then ((spec_l27Good.f kj6 (rdOf ByteArray.empty t151 0) (yc1.extract ((wrap64 (((rdOf ByteArray.empty t151 0).size : Int) + 1)) : Int).toNat yc1.size)).bind fun t156 => (if t156 = true then ((spec_l27Line.f kj6 a1 (rdOf ByteArray.empty t151 0) (yc1.extract ((wrap64 (((rdOf ByteArray.empty t151 0).size : Int) + 1)) : Int).toNat yc1.size)).bind fun t157 => (if a0.size + 1 ≤ 9223372036854775807 then (some (rdOf ByteArray.empty t151 0, yc1.extract ((wrap64 (((rdOf ByteArray.empty t151 0).size : Int) + 1)) : Int).toNat yc1.size, (t157.toList == (a0 ++ (⟨#[10]⟩ : ByteArray)).toList))) else (none))) else (some (rdOf ByteArray.empty t151 0, yc1.extract ((wrap64 (((rdOf ByteArray.empty t151 0).size : Int) + 1)) : Int).toNat yc1.size, false)))) else (none)) else (none))) else (none)) = some (r1, r2, r3) := H
        have A20 := Aside0.mk A200
        clear A200
        by_cases c21 : 0 < (t151.length : Int)
        ·rw [if_pos c21] at H
         have c21b0 : decide (0 < (t151.length : Int)) = true := decide_eq_true c21
         have c21b1 : decide (0 < t151.length) = true := decide_eq_true (by omega)
         clear c21
         by_cases c22 : ((rdOf ByteArray.empty t151 0).size : Int) = (yc1.size : Int)
         ·rw [if_pos c22] at H
          have c22b0 : (((rdOf ByteArray.empty t151 0).size : Int) == (yc1.size : Int)) = true := beq_iff_eq.mpr c22
          have c22b1 : (((rdOf ByteArray.empty t151 0).size : Int) != (yc1.size : Int)) = false := bne_eq_false_iff_eq.mpr c22
          have c22b2 : ((rdOf ByteArray.empty t151 0).size == yc1.size) = true := by first | simpa using c22 | (simp at c22 ⊢; omega)
          clear c22
          simp only [Option.some.injEq, Prod.mk.injEq] at H
          obtain ⟨rfl, rfl, rfl⟩ := H
          go_wp2_with (first | ((with_reducible refine gate_callee (f := 68) rfl ?_); refine goesL_ (some 37) rfl rfl Tryd.func68 (by kernel_rfl) rfl #[.string yc1, .int .u8 64] rfl ZZ19826e ?_; (with_reducible refine (spec_l1Split.calls kj6 yc1 64 t151 _ A20.out).mono ?_); rintro e w23 ⟨v152, rfl, ho0, hb⟩; refine ⟨_, rfl, ?_⟩; have n0_ := Aside0.mk (Kd.R_lower ho0 (below_size ZZ5b2eb9)); have n1_ := Aside0.mk (blk_below (g := gb145) (o := .cells #[.string (⟨#[]⟩ : ByteArray), .string (⟨#[]⟩ : ByteArray)] 27 (0, 0)) ZZ06bdf4 hb); have n2_ := Aside0.mk (below_step ZZ5b2eb9 hb); clear BK145; clear HB; have HO153 := n0_; have BK145 := n1_; have HB := n2_; clear n0_ n1_ n2_; (try clear hb); (try clear hb2); (try clear hk); (try clear hi); (try clear ho0); obtain ⟨Ao24, co24, eo24⟩ := Kd.R_slice HO153.out; subst eo24; have p154 : 0 ≤ (0 : Int) := (by omega); have q154 : 0 < (t151.length : Int) := of_decide_eq_true ZZ853400; obtain ⟨ad154, e154, hx154_0⟩ := Kd.at_string (Kd.R_reads' HO153.out).2.2 0 p154 q154; cases e154; have qi154 : (0 < t151.length) = True := eq_true (by omega); (try rw [show ((0 : Int)).toNat = 0 from rfl] at hx154_0); (try rw [Addr.add_zero'] at hx154_0); replace p154 := eq_true p154; replace q154 := eq_true q154; have hcz25_0 : w23.cell? ⟨gb145, 0, none⟩ = some (.string (⟨#[]⟩ : ByteArray)) := (blk_cell BK145.out 0).trans rfl; have hcz25_1 : w23.cell? ⟨gb145, 1, none⟩ = some (.string (⟨#[]⟩ : ByteArray)) := (blk_cell BK145.out 1).trans rfl; have hfz25_0 := blk_frozen BK145.out 0; have hfz25_1 := blk_frozen BK145.out 1))
          refine bodyPost_ret (results_ct rfl _ _ gb145 27 #[.string (⟨#[]⟩ : ByteArray), .string (⟨#[]⟩ : ByteArray)] (0, 0) _ rfl (by (with_reducible repeat (first | refine blk_drewN ?_ _ | refine blk_drew ?_ | refine blk_alloc ?_ _)); refine blk_put (cs := #[.string (⟨#[]⟩ : ByteArray), .string (⟨#[]⟩ : ByteArray)]) ?_ 1 _ rfl; (with_reducible repeat (first | refine blk_drewN ?_ _ | refine blk_drew ?_ | refine blk_alloc ?_ _)); refine blk_put (cs := #[.string (⟨#[]⟩ : ByteArray), .string (⟨#[]⟩ : ByteArray)]) ?_ 0 _ rfl; (with_reducible repeat (first | refine blk_drewN ?_ _ | refine blk_drew ?_ | refine blk_alloc ?_ _)); exact BK145.out) Tryd.underlying27 rfl (by kernel_rfl)) rfl ?_
          exact ⟨by first | rfl | (simp [errW_none, errW_some] <;> rfl) | (simp [*, errW_none, errW_some] <;> rfl), by repeat (first | (with_reducible first | exact HB.out | apply below_alloc | apply pw_below_drewN | apply below_drew1 | refine below_set ?_ GE145.out) | exact HB.out)⟩
         ·rw [if_neg c22] at H
          have c22b0 : (((rdOf ByteArray.empty t151 0).size : Int) == (yc1.size : Int)) = false := beq_eq_false_iff_ne.mpr c22
          have c22b1 : (((rdOf ByteArray.empty t151 0).size : Int) != (yc1.size : Int)) = true := bne_iff_ne.mpr c22
          have c22b2 : ((rdOf ByteArray.empty t151 0).size == yc1.size) = false := by first | simpa using c22 | (simp at c22 ⊢; omega)
          obtain ⟨ji26, hji26⟩ : ∃ j_ : Int, (wrap64 (((rdOf ByteArray.empty t151 0).size : Int) + 1)) = j_ := ⟨_, rfl⟩
          replace H : (if 0 ≤ (ji26) then (if (ji26) ≤ (yc1.size : Int) then ((spec_l27Good.f kj6 (rdOf ByteArray.empty t151 0) (yc1.extract ((ji26) : Int).toNat yc1.size)).bind fun t156 => (if t156 = true then ((spec_l27Line.f kj6 a1 (rdOf ByteArray.empty t151 0) (yc1.extract ((ji26) : Int).toNat yc1.size)).bind fun t157 => (if a0.size + 1 ≤ 9223372036854775807 then (some (rdOf ByteArray.empty t151 0, yc1.extract ((ji26) : Int).toNat yc1.size, (t157.toList == (a0 ++ (⟨#[10]⟩ : ByteArray)).toList))) else (none))) else (some (rdOf ByteArray.empty t151 0, yc1.extract ((ji26) : Int).toNat yc1.size, false)))) else (none)) else (none)) = some (r1, r2, r3) := by first | (rw [hji26] at H; exact H) | (simp only [hji26] at H ⊢; exact H)
          (try rw [hji26] at A20)
          have hji26w : (IntKind.i64.wrap (((rdOf ByteArray.empty t151 0).size : Int) + 1)) = ji26 := (i64_w _).trans hji26
          by_cases c27 : 0 ≤ (ji26)
          ·rw [if_pos c27] at H
           have c27b0 := eq_true c27
           have c27b1 : decide (0 ≤ (ji26)) = true := decide_eq_true c27
           clear c27
           by_cases c28 : (ji26) ≤ (yc1.size : Int)
           ·rw [if_pos c28] at H
            have c28b0 := eq_true c28
            have c28b1 : decide ((ji26) ≤ (yc1.size : Int)) = true := decide_eq_true c28
            clear c28
            replace H := Option.bind_eq_some_iff.mp H
            obtain ⟨t156, A290, H⟩ := H
            replace H : (if t156 = true then ((spec_l27Line.f kj6 a1 (rdOf ByteArray.empty t151 0) (yc1.extract ((ji26) : Int).toNat yc1.size)).bind fun t157 => (if a0.size + 1 ≤ 9223372036854775807 then (some (rdOf ByteArray.empty t151 0, yc1.extract ((ji26) : Int).toNat yc1.size, (t157.toList == (a0 ++ (⟨#[10]⟩ : ByteArray)).toList))) else (none))) else (some (rdOf ByteArray.empty t151 0, yc1.extract ((ji26) : Int).toNat yc1.size, false))) = some (r1, r2, r3) := H
            have A29 := Aside0.mk A290
            clear A290
            by_cases c30 : t156 = true
            ·subst c30
             have H1 : ((spec_l27Line.f kj6 a1 (rdOf ByteArray.empty t151 0) (yc1.extract ((ji26) : Int).toNat yc1.size)).bind fun t157 => (if a0.size + 1 ≤ 9223372036854775807 then (some (rdOf ByteArray.empty t151 0, yc1.extract ((ji26) : Int).toNat yc1.size, (t157.toList == (a0 ++ (⟨#[10]⟩ : ByteArray)).toList))) else (none))) = some (r1, r2, r3) := by rw [if_pos rfl] at H; exact H
             clear H
             have H := H1
             clear H1
             replace H := Option.bind_eq_some_iff.mp H
             obtain ⟨t157, A310, H⟩ := H
             replace H : (if a0.size + 1 ≤ 9223372036854775807 then (some (rdOf ByteArray.empty t151 0, yc1.extract ((ji26) : Int).toNat yc1.size, (t157.toList == (a0 ++ (⟨#[10]⟩ : ByteArray)).toList))) else (none)) = some (r1, r2, r3) := H
             have A31 := Aside0.mk A310
             clear A310
             by_cases c32 : a0.size + 1 ≤ 9223372036854775807
             ·rw [if_pos c32] at H
              have c32b0 := eq_true c32
              have c32b1 : decide (a0.size + 1 ≤ 9223372036854775807) = true := decide_eq_true c32
              try have c32b2 : (9223372036854775807 < a0.size + 1) = False := eq_false (Nat.not_lt.2 c32)
              simp only [Option.some.injEq, Prod.mk.injEq] at H
              obtain ⟨rfl, rfl, rfl⟩ := H
              try go_wp2_with (first | ((with_reducible refine gate_callee (f := 68) rfl ?_); refine goesL_ (some 37) rfl rfl Tryd.func68 (by kernel_rfl) rfl #[.string yc1, .int .u8 64] rfl ZZ19826e ?_; (with_reducible refine (spec_l1Split.calls kj6 yc1 64 t151 _ A20.out).mono ?_); rintro e w33 ⟨v152, rfl, ho0, hb⟩; refine ⟨_, rfl, ?_⟩; have n0_ := Aside0.mk (Kd.R_lower ho0 (below_size ZZ5b2eb9)); have n1_ := Aside0.mk (blk_below (g := gb145) (o := .cells #[.string (⟨#[]⟩ : ByteArray), .string (⟨#[]⟩ : ByteArray)] 27 (0, 0)) ZZ06bdf4 hb); have n2_ := Aside0.mk (below_step ZZ5b2eb9 hb); clear BK145; clear HB; have HO153 := n0_; have BK145 := n1_; have HB := n2_; clear n0_ n1_ n2_; (try clear hb); (try clear hb2); (try clear hk); (try clear hi); (try clear ho0); obtain ⟨Ao34, co34, eo34⟩ := Kd.R_slice HO153.out; subst eo34; have p154 : 0 ≤ (0 : Int) := (by omega); have q154 : 0 < (t151.length : Int) := of_decide_eq_true ZZ853400; obtain ⟨ad154, e154, hx154_0⟩ := Kd.at_string (Kd.R_reads' HO153.out).2.2 0 p154 q154; cases e154; have qi154 : (0 < t151.length) = True := eq_true (by omega); (try rw [show ((0 : Int)).toNat = 0 from rfl] at hx154_0); (try rw [Addr.add_zero'] at hx154_0); replace p154 := eq_true p154; replace q154 := eq_true q154) | ((with_reducible refine gate_dst (N := 10) rfl ?_); (try (refine gate_guard (by rfl) ?_; dsimp only)); refine box_event ?hg (N := 10) ?hd (cs := #[.string (⟨#[]⟩ : ByteArray), .string (⟨#[]⟩ : ByteArray)]) (t := 27) ?hr ?_; (case hd => rfl); (case hg => rfl); (case hr => first | (go_simp; done) | (go_simp; rfl)); intro gb155 hg w35 hbox hb; have n0_ := Aside0.mk (Kd.R_below (by (with_reducible repeat (first | apply Kd.R_alloc | apply Kd.R_drewN | apply Kd.R_drew)); exact HO153.out) hb); have n1_ := Aside0.mk (blk_below (g := gb145) (o := .cells #[.string (⟨#[]⟩ : ByteArray), .string (⟨#[]⟩ : ByteArray)] 27 (0, 0)) ZZ06bdf4 hb); have n2_ := Aside0.mk (below_step ZZ5b2eb9 hb); have n3_ := Aside0.mk (hbox); have n4_ := Aside0.mk ((by rw [hg]; exact (below_size ZZ5b2eb9) : w.heap.size ≤ gb155)); have n5_ := Aside0.mk ((by rw [hg]; exact (below_size ZZ5b2eb9) : w.heap.size ≤ gb155)); have n6_ := Aside0.mk ((by rw [hg]; exact Nat.ne_of_lt (blk_lt (g := gb145) (o := .cells #[.string (⟨#[]⟩ : ByteArray), .string (⟨#[]⟩ : ByteArray)] 27 (0, 0)) ZZ06bdf4) : gb145 ≠ gb155)); have n7_ := Aside0.mk ((by rw [hg]; exact Nat.ne_of_gt (blk_lt (g := gb145) (o := .cells #[.string (⟨#[]⟩ : ByteArray), .string (⟨#[]⟩ : ByteArray)] 27 (0, 0)) ZZ06bdf4) : gb155 ≠ gb145)); clear HO153; clear BK145; clear HB; have HO153 := n0_; have BK145 := n1_; have HB := n2_; have BK155 := n3_; have GW155 := n4_; have GE155 := n5_; have NB145_155 := n6_; have NB155_145 := n7_; clear n0_ n1_ n2_ n3_ n4_ n5_ n6_ n7_; clear hb hbox hg; have hnb36 := NB155_145.out; have hnc36 := NB145_155.out; have hcz37_0 : w35.cell? ⟨gb155, 0, none⟩ = some (.string (⟨#[]⟩ : ByteArray)) := (blk_cell BK155.out 0).trans rfl; have hcz37_1 : w35.cell? ⟨gb155, 1, none⟩ = some (.string (⟨#[]⟩ : ByteArray)) := (blk_cell BK155.out 1).trans rfl; have hfz37_0 := blk_frozen BK155.out 0; have hfz37_1 := blk_frozen BK155.out 1))
              have n0_ : Aside0 (Kd.R Kd.string 9 ((w35.setCell ⟨gb155, 0, none⟩ (.string (rdOf ByteArray.empty t151 0))).setCell ⟨gb155, 1, none⟩ (.string (yc1.extract ((ji26) : Int).toNat yc1.size))) w.heap.size (fun _ => True) (.slice (some ad154) t151.length co34) t151) := ⟨by (with_reducible repeat (first | apply Kd.R_alloc | apply Kd.R_drewN | apply Kd.R_drew)); exact Kd.R_mono (Kd.R_far (p := ⟨gb155, 1, none⟩) (Kd.R_far (p := ⟨gb155, 0, none⟩) (Kd.R_types HO153.out BK155.out (by decide)) (fun _ hk => hk.2) (.string (rdOf ByteArray.empty t151 0))) (fun _ hk => hk.2) (.string (yc1.extract ((ji26) : Int).toNat yc1.size))) (fun _ hk => trivial)⟩
              have n1_ : Aside0 (((w35.setCell ⟨gb155, 0, none⟩ (.string (rdOf ByteArray.empty t151 0))).setCell ⟨gb155, 1, none⟩ (.string (yc1.extract ((ji26) : Int).toNat yc1.size))).heap[gb145]? = some (.cells #[.string (⟨#[]⟩ : ByteArray), .string (⟨#[]⟩ : ByteArray)] 27 (0, 0))) := ⟨by (with_reducible repeat (first | refine blk_drewN ?_ _ | refine blk_drew ?_ | refine blk_alloc ?_ _)); refine blk_far ?_ NB145_155.out _; (with_reducible repeat (first | refine blk_drewN ?_ _ | refine blk_drew ?_ | refine blk_alloc ?_ _)); refine blk_far ?_ NB145_155.out _; (with_reducible repeat (first | refine blk_drewN ?_ _ | refine blk_drew ?_ | refine blk_alloc ?_ _)); exact BK145.out⟩
              have n2_ : Aside0 (((w35.setCell ⟨gb155, 0, none⟩ (.string (rdOf ByteArray.empty t151 0))).setCell ⟨gb155, 1, none⟩ (.string (yc1.extract ((ji26) : Int).toNat yc1.size))).heap[gb155]? = some (.cells #[.string (rdOf ByteArray.empty t151 0), .string (yc1.extract ((ji26) : Int).toNat yc1.size)] 27 (0, 0))) := ⟨by (with_reducible repeat (first | refine blk_drewN ?_ _ | refine blk_drew ?_ | refine blk_alloc ?_ _)); refine blk_put (cs := #[.string (rdOf ByteArray.empty t151 0), .string (⟨#[]⟩ : ByteArray)]) ?_ 1 _ rfl; (with_reducible repeat (first | refine blk_drewN ?_ _ | refine blk_drew ?_ | refine blk_alloc ?_ _)); refine blk_put (cs := #[.string (⟨#[]⟩ : ByteArray), .string (⟨#[]⟩ : ByteArray)]) ?_ 0 _ rfl; (with_reducible repeat (first | refine blk_drewN ?_ _ | refine blk_drew ?_ | refine blk_alloc ?_ _)); exact BK155.out⟩
              have n3_ : Aside0 (Below w.heap.size w ((w35.setCell ⟨gb155, 0, none⟩ (.string (rdOf ByteArray.empty t151 0))).setCell ⟨gb155, 1, none⟩ (.string (yc1.extract ((ji26) : Int).toNat yc1.size)))) := ⟨by repeat (first | (with_reducible first | exact HB.out | apply below_alloc | apply pw_below_drewN | apply below_drew1 | refine below_set ?_ GE145.out | refine below_set ?_ GE155.out) | exact HB.out)⟩
              (try clear HO153)
              (try clear BK145)
              (try clear BK155)
              (try clear HB)
              generalize ((w35.setCell ⟨gb155, 0, none⟩ (.string (rdOf ByteArray.empty t151 0))).setCell ⟨gb155, 1, none⟩ (.string (yc1.extract ((ji26) : Int).toNat yc1.size))) = w38 at n0_ n1_ n2_ n3_ ⊢
              have HO153 := n0_
              have BK145 := n1_
              have BK155 := n2_
              have HB := n3_
              clear n0_ n1_ n2_ n3_
              have n0_ := Aside0.mk (Kd.R_drew HO153.out)
              have n1_ := Aside0.mk (blk_drew BK145.out)
              have n2_ := Aside0.mk (blk_drew BK155.out)
              have n3_ := Aside0.mk (below_drew1 HB.out)
              clear HO153
              clear BK145
              clear BK155
              clear HB
              have HO153 := n0_
              have BK145 := n1_
              have BK155 := n2_
              have HB := n3_
              clear n0_ n1_ n2_ n3_
              refine start_ (n := 13) (S := fun w' => w'.cell? ⟨gb155, 0, none⟩ = some (.string (rdOf ByteArray.empty t151 0)) ∧ w'.cell? ⟨gb155, 1, none⟩ = some (.string (yc1.extract ((ji26) : Int).toNat yc1.size))) (ds := []) #[false, false, false, false, false, false, false, false, false, false, false, false, false] (by kernel_rfl) rfl rfl ⟨(blk_cell BK155.out 0).trans rfl, (blk_cell BK155.out 1).trans rfl⟩ (fun hHeld => ?_); refine with_tabW spec_l27Read.tab10 spec_l27Read.bits10 (fun HT_ HW_ => ?_)
              generalize w38.drew = w39 at HO153 BK145 BK155 HB hHeld ⊢
              refine tk 0 53 ?_
              refine tk 1 54 ?_
              refine one_ (i := 2) (N := some 55) #[true, true, true, false, false, false, false, false, false, false, false, false, false] rfl rfl (one_of HT_.out (by kernel_rfl)) (by decide) (fun K hK => ?_)
              refine goes_ Tryd.func43 (by kernel_rfl) rfl #[.agg #[.string (rdOf ByteArray.empty t151 0), .string (yc1.extract ((ji26) : Int).toNat yc1.size)]] (by rfl) rfl rfl (by (try simp only [List.map_toArray, List.map_cons, List.map_nil]); first | done | (simp only [hji26]; rfl) | rfl | (simp only [List.length_drop, List.length_take]; rfl)) ?_
              with_reducible refine (spec_l27Good.calls kj6 (rdOf ByteArray.empty t151 0) (yc1.extract ((ji26) : Int).toNat yc1.size) true _ A29.out).mono ?_
              rintro e w40 ⟨rfl, hb⟩
              refine ⟨_, rfl, ?_⟩
              have n0_ := Aside0.mk (Kd.R_below (by (with_reducible repeat (first | apply Kd.R_alloc | apply Kd.R_drewN | apply Kd.R_drew)); exact HO153.out) hb)
              have n1_ := Aside0.mk (blk_below (g := gb145) (o := .cells #[.string (⟨#[]⟩ : ByteArray), .string (⟨#[]⟩ : ByteArray)] 27 (0, 0)) ZZ06bdf4 hb)
              have n2_ := Aside0.mk (blk_below (g := gb155) (o := .cells #[.string (rdOf ByteArray.empty t151 0), .string (yc1.extract ((ji26) : Int).toNat yc1.size)] 27 (0, 0)) (by (with_reducible repeat (first | refine blk_drewN ?_ _ | refine blk_drew ?_ | refine blk_alloc ?_ _)); exact BK155.out) hb)
              have n3_ := Aside0.mk (below_step (by repeat (first | (with_reducible first | exact HB.out | apply below_alloc | apply pw_below_drewN | apply below_drew1 | refine below_set ?_ GE145.out | refine below_set ?_ GE155.out) | exact HB.out)) hb)
              clear HO153
              clear BK145
              clear BK155
              clear HB
              have HO153 := n0_
              have BK145 := n1_
              have BK155 := n2_
              have HB := n3_
              clear n0_ n1_ n2_ n3_
              (try clear hb)
              (try clear hb2)
              (try clear hk)
              (try clear hi)
              refine hK.out _ _ ⟨(blk_cell BK155.out 0).trans rfl, (blk_cell BK155.out 1).trans rfl⟩ (fun hHeld => ?_)
              clear hK K
              refine norm_ (a' := ?_) ?_ ?_
              rotate_left
              ·show Act.put _ (some 55) _ = _
               simp only [Act.put, List.setIfInBounds_toArray, List.set_cons_zero, List.set_cons_succ, i64_w, i32_w]
               rfl
              refine pu 3 56 ?_
              refine pu 4 57 ?_
              refine pu 7 60 ?_
              refine pu 8 61 ?_
              refine tk 5 58 ?_
              refine one_ (i := 6) (N := some 59) #[true, true, true, true, true, true, true, true, true, false, false, false, false] rfl rfl (one_of HT_.out (by kernel_rfl)) (by decide) (fun K hK => ?_)
              refine goes_ Tryd.func44 (by kernel_rfl) rfl #[.int .i64 a1, .agg #[.string (rdOf ByteArray.empty t151 0), .string (yc1.extract ((ji26) : Int).toNat yc1.size)]] (by rfl) rfl rfl (by (try simp only [List.map_toArray, List.map_cons, List.map_nil]); first | done | (simp only [hji26]; rfl) | rfl | (simp only [List.length_drop, List.length_take]; rfl)) ?_
              with_reducible refine (spec_l27Line.calls kj6 a1 (rdOf ByteArray.empty t151 0) (yc1.extract ((ji26) : Int).toNat yc1.size) t157 _ A31.out).mono ?_
              rintro e w41 ⟨rfl, hb⟩
              refine ⟨_, rfl, ?_⟩
              have n0_ := Aside0.mk (Kd.R_below (by (with_reducible repeat (first | apply Kd.R_alloc | apply Kd.R_drewN | apply Kd.R_drew)); exact HO153.out) hb)
              have n1_ := Aside0.mk (blk_below (g := gb145) (o := .cells #[.string (⟨#[]⟩ : ByteArray), .string (⟨#[]⟩ : ByteArray)] 27 (0, 0)) ZZ06bdf4 hb)
              have n2_ := Aside0.mk (blk_below (g := gb155) (o := .cells #[.string (rdOf ByteArray.empty t151 0), .string (yc1.extract ((ji26) : Int).toNat yc1.size)] 27 (0, 0)) (by (with_reducible repeat (first | refine blk_drewN ?_ _ | refine blk_drew ?_ | refine blk_alloc ?_ _)); exact BK155.out) hb)
              have n3_ := Aside0.mk (below_step (by repeat (first | (with_reducible first | exact HB.out | apply below_alloc | apply pw_below_drewN | apply below_drew1 | refine below_set ?_ GE145.out | refine below_set ?_ GE155.out) | exact HB.out)) hb)
              clear HO153
              clear BK145
              clear BK155
              clear HB
              have HO153 := n0_
              have BK145 := n1_
              have BK155 := n2_
              have HB := n3_
              clear n0_ n1_ n2_ n3_
              (try clear hb)
              (try clear hb2)
              (try clear hk)
              (try clear hi)
              refine hK.out _ _ ⟨(blk_cell BK155.out 0).trans rfl, (blk_cell BK155.out 1).trans rfl⟩ (fun hHeld => ?_)
              clear hK K
              refine norm_ (a' := ?_) ?_ ?_
              rotate_left
              ·show Act.put _ (some 59) _ = _
               simp only [Act.put, List.setIfInBounds_toArray, List.set_cons_zero, List.set_cons_succ, i64_w, i32_w]
               rfl
              refine pu 9 62 ?_
              refine pu 10 63 ?_
              refine one_ (i := 11) (N := none) #[true, true, true, true, true, true, true, true, true, true, true, true, false] rfl rfl (one_of HT_.out (by kernel_rfl)) (by decide) (fun K hK => ?_)
              have hs42 : w41.cell? ⟨gb145, 0, none⟩ = some (.string (⟨#[]⟩ : ByteArray)) := (blk_cell BK145.out 0).trans rfl
              have hfs42 := blk_frozen BK145.out 0
              have hns42_1 := NB155_145.out
              have hms42_1 := NB145_155.out
              have hs43 : w41.cell? ⟨gb145, 1, none⟩ = some (.string (⟨#[]⟩ : ByteArray)) := (blk_cell BK145.out 1).trans rfl
              have hfs43 := blk_frozen BK145.out 1
              have hns43_1 := NB155_145.out
              have hms43_1 := NB145_155.out
              refine skip_ (w1 := ?_) (by rfl) rfl ?_ ?_
              rotate_left
              ·go_simp
               rfl
              refine hK.out _ _ ⟨((cell_far (p := ⟨gb145, _, none⟩) NB155_145.out _).trans (((cell_far (p := ⟨gb145, _, none⟩) NB155_145.out _).trans (hHeld.1)))), ((cell_far (p := ⟨gb145, _, none⟩) NB155_145.out _).trans (((cell_far (p := ⟨gb145, _, none⟩) NB155_145.out _).trans (hHeld.2))))⟩ (fun hHeld => ?_)
              clear hK K
              refine pu 12 5 ?_
              refine done_ (done_of HT_.out (by kernel_rfl)) ?_
              try go_wp2
              refine bodyPost_ret (results_ct rfl _ _ gb145 27 #[.string (rdOf ByteArray.empty t151 0), .string (yc1.extract ((ji26) : Int).toNat yc1.size)] (0, 0) _ rfl (by (with_reducible repeat (first | refine blk_drewN ?_ _ | refine blk_drew ?_ | refine blk_alloc ?_ _)); refine blk_put (cs := #[.string (rdOf ByteArray.empty t151 0), .string (⟨#[]⟩ : ByteArray)]) ?_ 1 _ rfl; (with_reducible repeat (first | refine blk_drewN ?_ _ | refine blk_drew ?_ | refine blk_alloc ?_ _)); refine blk_put (cs := #[.string (⟨#[]⟩ : ByteArray), .string (⟨#[]⟩ : ByteArray)]) ?_ 0 _ rfl; (with_reducible repeat (first | refine blk_drewN ?_ _ | refine blk_drew ?_ | refine blk_alloc ?_ _)); exact BK145.out) Tryd.underlying27 rfl (by kernel_rfl)) rfl ?_
              exact ⟨by first | rfl | (simp [errW_none, errW_some] <;> rfl) | (simp only [← hji26]; first | rfl | (simp [errW_none, errW_some] <;> rfl)) | (simp [*, errW_none, errW_some] <;> rfl), by repeat (first | (with_reducible first | exact HB.out | apply below_alloc | apply pw_below_drewN | apply below_drew1 | refine below_set ?_ GE145.out | refine below_set ?_ GE155.out) | exact HB.out)⟩
             ·rw [if_neg c32] at H
              exact absurd H (by simp)
            ·replace c30 := Bool.eq_false_iff.mpr c30
             subst c30
             have H1 : (some (rdOf ByteArray.empty t151 0, yc1.extract ((ji26) : Int).toNat yc1.size, false)) = some (r1, r2, r3) := by rw [if_neg (show ¬ (false = true) by decide)] at H; exact H
             clear H
             have H := H1
             clear H1
             simp only [Option.some.injEq, Prod.mk.injEq] at H
             obtain ⟨rfl, rfl, rfl⟩ := H
             try go_wp2_with (first | ((with_reducible refine gate_callee (f := 68) rfl ?_); refine goesL_ (some 37) rfl rfl Tryd.func68 (by kernel_rfl) rfl #[.string yc1, .int .u8 64] rfl ZZ19826e ?_; (with_reducible refine (spec_l1Split.calls kj6 yc1 64 t151 _ A20.out).mono ?_); rintro e w44 ⟨v152, rfl, ho0, hb⟩; refine ⟨_, rfl, ?_⟩; have n0_ := Aside0.mk (Kd.R_lower ho0 (below_size ZZ5b2eb9)); have n1_ := Aside0.mk (blk_below (g := gb145) (o := .cells #[.string (⟨#[]⟩ : ByteArray), .string (⟨#[]⟩ : ByteArray)] 27 (0, 0)) ZZ06bdf4 hb); have n2_ := Aside0.mk (below_step ZZ5b2eb9 hb); clear BK145; clear HB; have HO153 := n0_; have BK145 := n1_; have HB := n2_; clear n0_ n1_ n2_; (try clear hb); (try clear hb2); (try clear hk); (try clear hi); (try clear ho0); obtain ⟨Ao45, co45, eo45⟩ := Kd.R_slice HO153.out; subst eo45; have p154 : 0 ≤ (0 : Int) := (by omega); have q154 : 0 < (t151.length : Int) := of_decide_eq_true ZZ853400; obtain ⟨ad154, e154, hx154_0⟩ := Kd.at_string (Kd.R_reads' HO153.out).2.2 0 p154 q154; cases e154; have qi154 : (0 < t151.length) = True := eq_true (by omega); (try rw [show ((0 : Int)).toNat = 0 from rfl] at hx154_0); (try rw [Addr.add_zero'] at hx154_0); replace p154 := eq_true p154; replace q154 := eq_true q154) | ((with_reducible refine gate_dst (N := 10) rfl ?_); (try (refine gate_guard (by rfl) ?_; dsimp only)); refine box_event ?hg (N := 10) ?hd (cs := #[.string (⟨#[]⟩ : ByteArray), .string (⟨#[]⟩ : ByteArray)]) (t := 27) ?hr ?_; (case hd => rfl); (case hg => rfl); (case hr => first | (go_simp; done) | (go_simp; rfl)); intro gb155 hg w46 hbox hb; have n0_ := Aside0.mk (Kd.R_below (by (with_reducible repeat (first | apply Kd.R_alloc | apply Kd.R_drewN | apply Kd.R_drew)); exact HO153.out) hb); have n1_ := Aside0.mk (blk_below (g := gb145) (o := .cells #[.string (⟨#[]⟩ : ByteArray), .string (⟨#[]⟩ : ByteArray)] 27 (0, 0)) ZZ06bdf4 hb); have n2_ := Aside0.mk (below_step ZZ5b2eb9 hb); have n3_ := Aside0.mk (hbox); have n4_ := Aside0.mk ((by rw [hg]; exact (below_size ZZ5b2eb9) : w.heap.size ≤ gb155)); have n5_ := Aside0.mk ((by rw [hg]; exact (below_size ZZ5b2eb9) : w.heap.size ≤ gb155)); have n6_ := Aside0.mk ((by rw [hg]; exact Nat.ne_of_lt (blk_lt (g := gb145) (o := .cells #[.string (⟨#[]⟩ : ByteArray), .string (⟨#[]⟩ : ByteArray)] 27 (0, 0)) ZZ06bdf4) : gb145 ≠ gb155)); have n7_ := Aside0.mk ((by rw [hg]; exact Nat.ne_of_gt (blk_lt (g := gb145) (o := .cells #[.string (⟨#[]⟩ : ByteArray), .string (⟨#[]⟩ : ByteArray)] 27 (0, 0)) ZZ06bdf4) : gb155 ≠ gb145)); clear HO153; clear BK145; clear HB; have HO153 := n0_; have BK145 := n1_; have HB := n2_; have BK155 := n3_; have GW155 := n4_; have GE155 := n5_; have NB145_155 := n6_; have NB155_145 := n7_; clear n0_ n1_ n2_ n3_ n4_ n5_ n6_ n7_; clear hb hbox hg; have hnb47 := NB155_145.out; have hnc47 := NB145_155.out; have hcz48_0 : w46.cell? ⟨gb155, 0, none⟩ = some (.string (⟨#[]⟩ : ByteArray)) := (blk_cell BK155.out 0).trans rfl; have hcz48_1 : w46.cell? ⟨gb155, 1, none⟩ = some (.string (⟨#[]⟩ : ByteArray)) := (blk_cell BK155.out 1).trans rfl; have hfz48_0 := blk_frozen BK155.out 0; have hfz48_1 := blk_frozen BK155.out 1))
             have n0_ : Aside0 (Kd.R Kd.string 9 ((w46.setCell ⟨gb155, 0, none⟩ (.string (rdOf ByteArray.empty t151 0))).setCell ⟨gb155, 1, none⟩ (.string (yc1.extract ((ji26) : Int).toNat yc1.size))) w.heap.size (fun _ => True) (.slice (some ad154) t151.length co45) t151) := ⟨by (with_reducible repeat (first | apply Kd.R_alloc | apply Kd.R_drewN | apply Kd.R_drew)); exact Kd.R_mono (Kd.R_far (p := ⟨gb155, 1, none⟩) (Kd.R_far (p := ⟨gb155, 0, none⟩) (Kd.R_types HO153.out BK155.out (by decide)) (fun _ hk => hk.2) (.string (rdOf ByteArray.empty t151 0))) (fun _ hk => hk.2) (.string (yc1.extract ((ji26) : Int).toNat yc1.size))) (fun _ hk => trivial)⟩
             have n1_ : Aside0 (((w46.setCell ⟨gb155, 0, none⟩ (.string (rdOf ByteArray.empty t151 0))).setCell ⟨gb155, 1, none⟩ (.string (yc1.extract ((ji26) : Int).toNat yc1.size))).heap[gb145]? = some (.cells #[.string (⟨#[]⟩ : ByteArray), .string (⟨#[]⟩ : ByteArray)] 27 (0, 0))) := ⟨by (with_reducible repeat (first | refine blk_drewN ?_ _ | refine blk_drew ?_ | refine blk_alloc ?_ _)); refine blk_far ?_ NB145_155.out _; (with_reducible repeat (first | refine blk_drewN ?_ _ | refine blk_drew ?_ | refine blk_alloc ?_ _)); refine blk_far ?_ NB145_155.out _; (with_reducible repeat (first | refine blk_drewN ?_ _ | refine blk_drew ?_ | refine blk_alloc ?_ _)); exact BK145.out⟩
             have n2_ : Aside0 (((w46.setCell ⟨gb155, 0, none⟩ (.string (rdOf ByteArray.empty t151 0))).setCell ⟨gb155, 1, none⟩ (.string (yc1.extract ((ji26) : Int).toNat yc1.size))).heap[gb155]? = some (.cells #[.string (rdOf ByteArray.empty t151 0), .string (yc1.extract ((ji26) : Int).toNat yc1.size)] 27 (0, 0))) := ⟨by (with_reducible repeat (first | refine blk_drewN ?_ _ | refine blk_drew ?_ | refine blk_alloc ?_ _)); refine blk_put (cs := #[.string (rdOf ByteArray.empty t151 0), .string (⟨#[]⟩ : ByteArray)]) ?_ 1 _ rfl; (with_reducible repeat (first | refine blk_drewN ?_ _ | refine blk_drew ?_ | refine blk_alloc ?_ _)); refine blk_put (cs := #[.string (⟨#[]⟩ : ByteArray), .string (⟨#[]⟩ : ByteArray)]) ?_ 0 _ rfl; (with_reducible repeat (first | refine blk_drewN ?_ _ | refine blk_drew ?_ | refine blk_alloc ?_ _)); exact BK155.out⟩
             have n3_ : Aside0 (Below w.heap.size w ((w46.setCell ⟨gb155, 0, none⟩ (.string (rdOf ByteArray.empty t151 0))).setCell ⟨gb155, 1, none⟩ (.string (yc1.extract ((ji26) : Int).toNat yc1.size)))) := ⟨by repeat (first | (with_reducible first | exact HB.out | apply below_alloc | apply pw_below_drewN | apply below_drew1 | refine below_set ?_ GE145.out | refine below_set ?_ GE155.out) | exact HB.out)⟩
             (try clear HO153)
             (try clear BK145)
             (try clear BK155)
             (try clear HB)
             generalize ((w46.setCell ⟨gb155, 0, none⟩ (.string (rdOf ByteArray.empty t151 0))).setCell ⟨gb155, 1, none⟩ (.string (yc1.extract ((ji26) : Int).toNat yc1.size))) = w49 at n0_ n1_ n2_ n3_ ⊢
             have HO153 := n0_
             have BK145 := n1_
             have BK155 := n2_
             have HB := n3_
             clear n0_ n1_ n2_ n3_
             have n0_ := Aside0.mk (Kd.R_drew HO153.out)
             have n1_ := Aside0.mk (blk_drew BK145.out)
             have n2_ := Aside0.mk (blk_drew BK155.out)
             have n3_ := Aside0.mk (below_drew1 HB.out)
             clear HO153
             clear BK145
             clear BK155
             clear HB
             have HO153 := n0_
             have BK145 := n1_
             have BK155 := n2_
             have HB := n3_
             clear n0_ n1_ n2_ n3_
             refine start_ (n := 13) (S := fun w' => w'.cell? ⟨gb155, 0, none⟩ = some (.string (rdOf ByteArray.empty t151 0)) ∧ w'.cell? ⟨gb155, 1, none⟩ = some (.string (yc1.extract ((ji26) : Int).toNat yc1.size))) (ds := []) #[false, false, false, false, false, false, false, false, false, false, false, false, false] (by kernel_rfl) rfl rfl ⟨(blk_cell BK155.out 0).trans rfl, (blk_cell BK155.out 1).trans rfl⟩ (fun hHeld => ?_); refine with_tabW spec_l27Read.tab10 spec_l27Read.bits10 (fun HT_ HW_ => ?_)
             generalize w49.drew = w50 at HO153 BK145 BK155 HB hHeld ⊢
             refine tk 0 53 ?_
             refine tk 1 54 ?_
             refine one_ (i := 2) (N := some 55) #[true, true, true, false, false, false, false, false, false, false, false, false, false] rfl rfl (one_of HT_.out (by kernel_rfl)) (by decide) (fun K hK => ?_)
             refine goes_ Tryd.func43 (by kernel_rfl) rfl #[.agg #[.string (rdOf ByteArray.empty t151 0), .string (yc1.extract ((ji26) : Int).toNat yc1.size)]] (by rfl) rfl rfl (by (try simp only [List.map_toArray, List.map_cons, List.map_nil]); first | done | (simp only [hji26]; rfl) | rfl | (simp only [List.length_drop, List.length_take]; rfl)) ?_
             with_reducible refine (spec_l27Good.calls kj6 (rdOf ByteArray.empty t151 0) (yc1.extract ((ji26) : Int).toNat yc1.size) false _ A29.out).mono ?_
             rintro e w51 ⟨rfl, hb⟩
             refine ⟨_, rfl, ?_⟩
             have n0_ := Aside0.mk (Kd.R_below (by (with_reducible repeat (first | apply Kd.R_alloc | apply Kd.R_drewN | apply Kd.R_drew)); exact HO153.out) hb)
             have n1_ := Aside0.mk (blk_below (g := gb145) (o := .cells #[.string (⟨#[]⟩ : ByteArray), .string (⟨#[]⟩ : ByteArray)] 27 (0, 0)) ZZ06bdf4 hb)
             have n2_ := Aside0.mk (blk_below (g := gb155) (o := .cells #[.string (rdOf ByteArray.empty t151 0), .string (yc1.extract ((ji26) : Int).toNat yc1.size)] 27 (0, 0)) (by (with_reducible repeat (first | refine blk_drewN ?_ _ | refine blk_drew ?_ | refine blk_alloc ?_ _)); exact BK155.out) hb)
             have n3_ := Aside0.mk (below_step (by repeat (first | (with_reducible first | exact HB.out | apply below_alloc | apply pw_below_drewN | apply below_drew1 | refine below_set ?_ GE145.out | refine below_set ?_ GE155.out) | exact HB.out)) hb)
             clear HO153
             clear BK145
             clear BK155
             clear HB
             have HO153 := n0_
             have BK145 := n1_
             have BK155 := n2_
             have HB := n3_
             clear n0_ n1_ n2_ n3_
             (try clear hb)
             (try clear hb2)
             (try clear hk)
             (try clear hi)
             refine hK.out _ _ ⟨(blk_cell BK155.out 0).trans rfl, (blk_cell BK155.out 1).trans rfl⟩ (fun hHeld => ?_)
             clear hK K
             refine norm_ (a' := ?_) ?_ ?_
             rotate_left
             ·show Act.put _ (some 55) _ = _
              simp only [Act.put, List.setIfInBounds_toArray, List.set_cons_zero, List.set_cons_succ, i64_w, i32_w]
              rfl
             refine pu 3 56 ?_
             refine pn 4 57 ?_
             refine pn 5 58 ?_
             refine pn 6 59 ?_
             refine pn 7 60 ?_
             refine pn 8 61 ?_
             refine pn 9 62 ?_
             refine pu 10 63 ?_
             refine one_ (i := 11) (N := none) #[true, true, true, true, true, true, true, true, true, true, true, true, false] rfl rfl (one_of HT_.out (by kernel_rfl)) (by decide) (fun K hK => ?_)
             have hs52 : w51.cell? ⟨gb145, 0, none⟩ = some (.string (⟨#[]⟩ : ByteArray)) := (blk_cell BK145.out 0).trans rfl
             have hfs52 := blk_frozen BK145.out 0
             have hns52_1 := NB155_145.out
             have hms52_1 := NB145_155.out
             have hs53 : w51.cell? ⟨gb145, 1, none⟩ = some (.string (⟨#[]⟩ : ByteArray)) := (blk_cell BK145.out 1).trans rfl
             have hfs53 := blk_frozen BK145.out 1
             have hns53_1 := NB155_145.out
             have hms53_1 := NB145_155.out
             refine skip_ (w1 := ?_) (by rfl) rfl ?_ ?_
             rotate_left
             ·go_simp
              rfl
             refine hK.out _ _ ⟨((cell_far (p := ⟨gb145, _, none⟩) NB155_145.out _).trans (((cell_far (p := ⟨gb145, _, none⟩) NB155_145.out _).trans (hHeld.1)))), ((cell_far (p := ⟨gb145, _, none⟩) NB155_145.out _).trans (((cell_far (p := ⟨gb145, _, none⟩) NB155_145.out _).trans (hHeld.2))))⟩ (fun hHeld => ?_)
             clear hK K
             refine pu 12 5 ?_
             refine done_ (done_of HT_.out (by kernel_rfl)) ?_
             try go_wp2
             refine bodyPost_ret (results_ct rfl _ _ gb145 27 #[.string (rdOf ByteArray.empty t151 0), .string (yc1.extract ((ji26) : Int).toNat yc1.size)] (0, 0) _ rfl (by (with_reducible repeat (first | refine blk_drewN ?_ _ | refine blk_drew ?_ | refine blk_alloc ?_ _)); refine blk_put (cs := #[.string (rdOf ByteArray.empty t151 0), .string (⟨#[]⟩ : ByteArray)]) ?_ 1 _ rfl; (with_reducible repeat (first | refine blk_drewN ?_ _ | refine blk_drew ?_ | refine blk_alloc ?_ _)); refine blk_put (cs := #[.string (⟨#[]⟩ : ByteArray), .string (⟨#[]⟩ : ByteArray)]) ?_ 0 _ rfl; (with_reducible repeat (first | refine blk_drewN ?_ _ | refine blk_drew ?_ | refine blk_alloc ?_ _)); exact BK145.out) Tryd.underlying27 rfl (by kernel_rfl)) rfl ?_
             exact ⟨by first | rfl | (simp [errW_none, errW_some] <;> rfl) | (simp only [← hji26]; first | rfl | (simp [errW_none, errW_some] <;> rfl)) | (simp [*, errW_none, errW_some] <;> rfl), by repeat (first | (with_reducible first | exact HB.out | apply below_alloc | apply pw_below_drewN | apply below_drew1 | refine below_set ?_ GE145.out | refine below_set ?_ GE155.out) | exact HB.out)⟩
           ·rw [if_neg c28] at H
            exact absurd H (by simp)
          ·rw [if_neg c27] at H
           exact absurd H (by simp)
        ·rw [if_neg c21] at H
         exact absurd H (by simp)
       ·rw [if_neg c19] at H
        exact absurd H (by simp)
      ·rw [if_neg c18] at H
       exact absurd H (by simp)
  ·rw [if_neg c6] at H
   exact absurd H (by simp)
 ·rw [if_neg c4] at H
  exact absurd H (by simp)
/-! ### spec_l27Open: function 47 -/
mutual
def spec_l27Open.l0 : Nat → ByteArray → List (S27) → Int → Option ((List (S27)) × Int)
 | 0, _, _, _ => none
 | k + 1, x0, x4, x5 => if x5 < (x0.size : Int) then (spec_l27Open.j1 k x0 x4 x5 (decide ((x4.length : Int) < 60))) else (spec_l27Open.j1 k x0 x4 x5 false)
def spec_l27Open.j1 : Nat → ByteArray → List (S27) → Int → Bool → Option ((List (S27)) × Int)
 | 0, _, _, _, _ => none
 | k + 1, x0, x4, x5, x18 => if x18 = true then (if 0 ≤ x5 then (if x5 ≤ (x0.size : Int) then ((spec_l1Split.f k (x0.extract (x5 : Int).toNat x0.size) 10).bind fun t161 => (if 0 < (t161.length : Int) then ((spec_l27Read.f k (rdOf ByteArray.empty t161 0) (x4.length : Int)).bind fun bt165 => (if (t161.length : Int) < 2 then (some (x4, x5)) else (if bt165.2.2 = true then (if x4.length < 4398046511104 then (spec_l27Open.l0 k x0 (x4 ++ [(⟨bt165.1, bt165.2.1⟩ : S27)]) (wrap64 ((wrap64 (x5 + ((rdOf ByteArray.empty t161 0).size : Int))) + 1))) else (none)) else (some (x4, x5))))) else (none))) else (none)) else (none)) else (some (x4, x5))
end
def spec_l27Open.f (k : Nat) (a0 : ByteArray) : Option ((List (S27)) × Int) := spec_l27Open.l0 k a0 (([] : List (S27))) 0
theorem spec_l27Open.mono_l : ∀ k, (∀ y0 y1 y2, LeO (spec_l27Open.l0 k y0 y1 y2) (spec_l27Open.l0 (k + 1) y0 y1 y2)) ∧ (∀ y0 y1 y2 y3, LeO (spec_l27Open.j1 k y0 y1 y2 y3) (spec_l27Open.j1 (k + 1) y0 y1 y2 y3))
 | 0 => ⟨fun _ _ _ r h => by simp [spec_l27Open.l0] at h, fun _ _ _ _ r h => by simp [spec_l27Open.j1] at h⟩
 | k + 1 => by
  obtain ⟨ih0, ih1⟩ := spec_l27Open.mono_l k
  refine ⟨?_, ?_⟩
  ·intro y0 y1 y2
   unfold spec_l27Open.l0
   repeat' first
   | (with_reducible exact ih0 _ _ _)
   | (with_reducible exact ih1 _ _ _ _)
   | (with_reducible exact spec_l1Split.mono _ _ _)
   | (with_reducible exact spec_l27Read.mono _ _ _)
   | (with_reducible exact LeO.refl _)
   | (with_reducible exact LeO.none _)
   | (with_reducible refine LeO.ite ?_ ?_)
   | (with_reducible refine LeO.bind ?_ (fun _ => ?_))
   | exact ih0 _ _ _
   | exact ih1 _ _ _ _
   | exact spec_l1Split.mono _ _ _
   | exact spec_l27Read.mono _ _ _
   | exact LeO.none _
   | refine LeO.ite ?_ ?_
   | refine LeO.bind ?_ (fun _ => ?_)
  ·intro y0 y1 y2 y3
   unfold spec_l27Open.j1
   repeat' first
   | (with_reducible exact ih0 _ _ _)
   | (with_reducible exact ih1 _ _ _ _)
   | (with_reducible exact spec_l1Split.mono _ _ _)
   | (with_reducible exact spec_l27Read.mono _ _ _)
   | (with_reducible exact LeO.refl _)
   | (with_reducible exact LeO.none _)
   | (with_reducible refine LeO.ite ?_ ?_)
   | (with_reducible refine LeO.bind ?_ (fun _ => ?_))
   | exact ih0 _ _ _
   | exact ih1 _ _ _ _
   | exact spec_l1Split.mono _ _ _
   | exact spec_l27Read.mono _ _ _
   | exact LeO.none _
   | refine LeO.ite ?_ ?_
   | refine LeO.bind ?_ (fun _ => ?_)
theorem spec_l27Open.mono : ∀ a0 k, LeO (spec_l27Open.f k a0) (spec_l27Open.f (k + 1) a0) := by
 intro a0 k
 obtain ⟨ih0, ih1⟩ := spec_l27Open.mono_l k
 unfold spec_l27Open.f
 repeat' first
  | (with_reducible exact ih0 _ _ _)
  | (with_reducible exact ih1 _ _ _ _)
  | (with_reducible exact spec_l1Split.mono _ _ _)
  | (with_reducible exact spec_l27Read.mono _ _ _)
  | (with_reducible exact LeO.refl _)
  | (with_reducible exact LeO.none _)
  | (with_reducible refine LeO.ite ?_ ?_)
  | (with_reducible refine LeO.bind ?_ (fun _ => ?_))
  | exact ih0 _ _ _
  | exact ih1 _ _ _ _
  | exact spec_l1Split.mono _ _ _
  | exact spec_l27Read.mono _ _ _
  | exact LeO.none _
  | refine LeO.ite ?_ ?_
  | refine LeO.bind ?_ (fun _ => ?_)
set_option maxHeartbeats 8000000 in
set_option maxRecDepth 100000 in
theorem spec_l27Open.calls (k : Nat) (a0 : ByteArray) (r1 : List (S27)) (r2 : Int) (w : World) (h : spec_l27Open.f k a0 = some (r1, r2)) :
 Calls Tryd.prog 47 #[.string a0] w fun e w' => ∃ v0_ : Value, e = .returned (.tuple #[v0_, .int .i64 r2]) ∧ Kd.R k27 27 w' w.heap.size (fun _ => True) v0_ r1 ∧ Below w.heap.size w w' := by
 have hu27 := Tryd.underlying27
 have HB := Aside0.mk (Below.refl w.heap.size w)
 have H : (spec_l27Open.l0 k a0 (([] : List (S27))) 0) = some (r1, r2) := h
 clear h
 obtain ⟨y158, hy158⟩ : ∃ y_ : List (S27), y_ = (([] : List (S27))) := ⟨_, rfl⟩
 replace H : (spec_l27Open.l0 k a0 y158 0) = some (r1, r2) := by first | (rw [hy158]; with_reducible exact H) | (have H2_ := (Option.bind_some _ _).symm.trans H; rw [hy158]; with_reducible exact H2_) | (have H2_ := (Option.bind_some _ _).symm.trans H; with_reducible exact H2_) | with_reducible exact H | (rw [hy158]; exact H) | exact H
 have Ny158 := Aside0.mk hy158
 clear hy158
 have H' := Aside0.mk H
 clear H
 go_enter Tryd.func47, Tryd.ntmps47
 go_wp2_with (first | ((with_reducible refine gate_dst (N := 9) rfl ?_); (try (refine gate_guard (by rfl) ?_; dsimp only)); refine Kd.R_lit k27 _ 27 ?hg (N := 9) ?hd (xs := ([] : List (S27))) (inner := []) (ok := fun _ => True) (okp := fun _ => True) ?hr ?hp (fun _ hk => hk) trivial (Below.refl _ _) (Nat.le_refl _) (by simp) ?_; (case hd => rfl); (case hg => rfl); (case hr => first | (go_simp; done) | (go_simp; rfl)); (case hp => exact (Reps.none _ _)); intro v159 w2 ho3 hb hg_ hnew_; clear hg_ hnew_; (first | rw [← Ny158.out] at ho3 | (simp only [Int.reduceToNat] at ho3; rw [← Ny158.out] at ho3)); have n0_ := Aside0.mk (Kd.R_lower ho3 (below_size ZZ605003)); have n1_ := Aside0.mk (below_step ZZ605003 hb); clear HB; have HO160 := n0_; have HB := n1_; clear n0_ n1_; clear hb ho3))
 go_loopg [4, 5] k (fun kq v4 v5 w' => ∃ (x4_1 : List (S27)) (x5_1 : Int), v5 = .int .i64 x5_1 ∧ Aside0 (spec_l27Open.l0 kq a0 x4_1 x5_1 = some (r1, r2)) ∧ Aside0 (kq ≤ k) ∧ Aside0 (Kd.R k27 27 w' w.heap.size (fun _ => True) v4 x4_1) ∧ Aside0 (Below w.heap.size w w'))
 case atStart => exact ⟨(y158), (0), ZZ0ab324, H', ⟨Nat.le_refl _⟩, ⟨by (with_reducible repeat (first | apply Kd.R_alloc | apply Kd.R_drewN | apply Kd.R_drew)); exact HO160.out⟩, ⟨by repeat (first | (with_reducible first | exact HB.out | apply below_alloc | apply pw_below_drewN | apply below_drew1) | exact HB.out)⟩⟩
 case round =>
  clear H'
  try clear p2
  obtain ⟨x4_1, x5_1, rfl, HA, HK1, HO_4, HB⟩ := hrel
  cases gk with
  | zero => exact absurd HA.out (by simp [spec_l27Open.l0])
  | succ k1 =>
   have H := HA.out
   clear HA
   simp only [spec_l27Open.l0] at H
   have HC4 := Aside0.mk H
   clear H
   go_upto_region 3 with (fail)
   go_cut [18] (fun v18 wc => ∃ (kq : Nat) (x18_3 : Bool), v18 = .bool x18_3 ∧ Aside0 (spec_l27Open.j1 kq a0 x4_1 x5_1 x18_3 = some (r1, r2)) ∧ Aside0 (kq ≤ k1) ∧ Aside0 (Kd.R k27 27 wc w.heap.size (fun _ => True) u4 x4_1) ∧ Aside0 (Below w.heap.size w wc))
   case first =>
    have H := HC4.out
    clear HC4
    by_cases c5 : x5_1 < (a0.size : Int)
    ·rw [if_pos c5] at H
     have c5b0 : decide (x5_1 < (a0.size : Int)) = true := decide_eq_true c5
     clear c5
     (first | rw [c5b0] | (simp only [i64_w, i32_w]; rw [c5b0]) | skip)
     have H' := Aside0.mk H
     clear H
     obtain ⟨Ao6, co6, eo6⟩ := Kd.R_slice HO_4.out
     subst eo6
     go_wp2
     go_meet
     case rel => exact ⟨_, (decide ((x4_1.length : Int) < 60)), ZZ0ab324, H', ⟨by have := HK1.out; first | omega | exact Nat.le_refl _⟩, ⟨by (with_reducible repeat (first | apply Kd.R_alloc | apply Kd.R_drewN | apply Kd.R_drew)); exact HO_4.out⟩, ⟨by repeat (first | (with_reducible first | exact HB.out | apply below_alloc | apply pw_below_drewN | apply below_drew1) | exact HB.out)⟩⟩
    ·rw [if_neg c5] at H
     have c5b0 : decide (x5_1 < (a0.size : Int)) = false := decide_eq_false c5
     clear c5
     (first | rw [c5b0] | (simp only [i64_w, i32_w]; rw [c5b0]) | skip)
     have H' := Aside0.mk H
     clear H
     go_wp2
     go_meet
     case rel => exact ⟨_, (false), ZZ0ab324, H', ⟨by have := HK1.out; first | omega | exact Nat.le_refl _⟩, ⟨by (with_reducible repeat (first | apply Kd.R_alloc | apply Kd.R_drewN | apply Kd.R_drew)); exact HO_4.out⟩, ⟨by repeat (first | (with_reducible first | exact HB.out | apply below_alloc | apply pw_below_drewN | apply below_drew1) | exact HB.out)⟩⟩
   case rest =>
    clear HC4
    try clear p2
    try clear c4
    try clear c5
    try clear c5b0
    try clear p2
    obtain ⟨kq, x18_3, rfl, HA, HJ3, HO_4, HB⟩ := hcut
    cases kq with
    | zero => exact absurd HA.out (by simp [spec_l27Open.j1])
    | succ kj3 =>
     have H := HA.out
     clear HA
     simp only [spec_l27Open.j1] at H
     by_cases c7 : x18_3 = true
     ·subst c7
      have H1 : (if 0 ≤ x5_1 then (if x5_1 ≤ (a0.size : Int) then ((spec_l1Split.f kj3 (a0.extract (x5_1 : Int).toNat a0.size) 10).bind fun t161 => (if 0 < (t161.length : Int) then ((spec_l27Read.f kj3 (rdOf ByteArray.empty t161 0) (x4_1.length : Int)).bind fun bt165 => (if (t161.length : Int) < 2 then (some (x4_1, x5_1)) else (if bt165.2.2 = true then (if x4_1.length < 4398046511104 then (spec_l27Open.l0 kj3 a0 (x4_1 ++ [(⟨bt165.1, bt165.2.1⟩ : S27)]) (wrap64 ((wrap64 (x5_1 + ((rdOf ByteArray.empty t161 0).size : Int))) + 1))) else (none)) else (some (x4_1, x5_1))))) else (none))) else (none)) else (none)) = some (r1, r2) := by rw [if_pos rfl] at H; exact H
      clear H
      have H := H1
      clear H1
      by_cases c8 : 0 ≤ x5_1
      ·rw [if_pos c8] at H
       have c8b0 := eq_true c8
       have c8b1 : decide (0 ≤ x5_1) = true := decide_eq_true c8
       clear c8
       by_cases c9 : x5_1 ≤ (a0.size : Int)
       ·rw [if_pos c9] at H
        have c9b0 := eq_true c9
        have c9b1 : decide (x5_1 ≤ (a0.size : Int)) = true := decide_eq_true c9
        clear c9
        replace H := Option.bind_eq_some_iff.mp H
        obtain ⟨t161, A100, H⟩ := H
        replace H : (if 0 < (t161.length : Int) then ((spec_l27Read.f kj3 (rdOf ByteArray.empty t161 0) (x4_1.length : Int)).bind fun bt165 => (if (t161.length : Int) < 2 then (some (x4_1, x5_1)) else (if bt165.2.2 = true then (if x4_1.length < 4398046511104 then (spec_l27Open.l0 kj3 a0 (x4_1 ++ [(⟨bt165.1, bt165.2.1⟩ : S27)]) (wrap64 ((wrap64 (x5_1 + ((rdOf ByteArray.empty t161 0).size : Int))) + 1))) else (none)) else (some (x4_1, x5_1))))) else (none)) = some (r1, r2) := H
        have A10 := Aside0.mk A100
        clear A100
        by_cases c11 : 0 < (t161.length : Int)
        ·rw [if_pos c11] at H
         have c11b0 : decide (0 < (t161.length : Int)) = true := decide_eq_true c11
         have c11b1 : decide (0 < t161.length) = true := decide_eq_true (by omega)
         clear c11
         replace H := Option.bind_eq_some_iff.mp H
         obtain ⟨⟨t165, t166, t167⟩, A120, H⟩ := H
         replace H : (if (t161.length : Int) < 2 then (some (x4_1, x5_1)) else (if t167 = true then (if x4_1.length < 4398046511104 then (spec_l27Open.l0 kj3 a0 (x4_1 ++ [(⟨t165, t166⟩ : S27)]) (wrap64 ((wrap64 (x5_1 + ((rdOf ByteArray.empty t161 0).size : Int))) + 1))) else (none)) else (some (x4_1, x5_1)))) = some (r1, r2) := H
         have A12 := Aside0.mk A120
         clear A120
         by_cases c13 : (t161.length : Int) < 2
         ·rw [if_pos c13] at H
          have c13b0 : decide ((t161.length : Int) < 2) = true := decide_eq_true c13
          have c13b1 : decide (t161.length < 2) = true := decide_eq_true (by omega)
          clear c13
          simp only [Option.some.injEq, Prod.mk.injEq] at H
          obtain ⟨rfl, rfl⟩ := H
          go_wp2_with (first | ((with_reducible refine gate_callee (f := 68) rfl ?_); refine goesL_ (some 22) rfl rfl Tryd.func68 (by kernel_rfl) rfl #[.string (a0.extract (x5_1 : Int).toNat a0.size), .int .u8 10] rfl ZZ19826e ?_; (with_reducible refine (spec_l1Split.calls kj3 (a0.extract (x5_1 : Int).toNat a0.size) 10 t161 _ A10.out).mono ?_); rintro e w14 ⟨v162, rfl, ho0, hb⟩; refine ⟨_, rfl, ?_⟩; have n0_ := Aside0.mk (Kd.R_below ZZ7b8061 hb); have n1_ := Aside0.mk (Kd.R_lower ho0 (below_size ZZ605003)); have n2_ := Aside0.mk (below_step ZZ605003 hb); clear HO_4; clear HB; have HO_4 := n0_; have HO163 := n1_; have HB := n2_; clear n0_ n1_ n2_; (try clear hb); (try clear hb2); (try clear hk); (try clear hi); (try clear ho0); obtain ⟨Ao15, co15, eo15⟩ := Kd.R_slice HO163.out; subst eo15; have p164 : 0 ≤ (0 : Int) := (by omega); have q164 : 0 < (t161.length : Int) := of_decide_eq_true ZZ853400; obtain ⟨ad164, e164, hx164_0⟩ := Kd.at_string (Kd.R_reads' HO163.out).2.2 0 p164 q164; cases e164; have qi164 : (0 < t161.length) = True := eq_true (by omega); (try rw [show ((0 : Int)).toNat = 0 from rfl] at hx164_0); (try rw [Addr.add_zero'] at hx164_0); replace p164 := eq_true p164; replace q164 := eq_true q164; obtain ⟨Ao16, co16, eo16⟩ := Kd.R_slice HO_4.out; subst eo16) | ((with_reducible refine gate_callee (f := 69) rfl ?_); refine goesL_ (some 29) rfl rfl Tryd.func69 (by kernel_rfl) rfl #[.string (rdOf ByteArray.empty t161 0), .int .i64 (x4_1.length : Int)] rfl ZZ19826e ?_; (with_reducible refine (spec_l27Read.calls kj3 (rdOf ByteArray.empty t161 0) (x4_1.length : Int) t165 t166 t167 _ A12.out).mono ?_); rintro e w17 ⟨rfl, hb⟩; refine ⟨_, rfl, ?_⟩; have n0_ := Aside0.mk (Kd.R_below ZZ7b8061 hb); have n1_ := Aside0.mk (Kd.R_below ZZde1585 hb); have n2_ := Aside0.mk (below_step ZZ605003 hb); clear HO_4; clear HO163; clear HB; have HO_4 := n0_; have HO163 := n1_; have HB := n2_; clear n0_ n1_ n2_; (try clear hb); (try clear hb2); (try clear hk); (try clear hi)) | ((with_reducible refine gate_dst (N := 7) rfl ?_); (try (refine gate_guard (by rfl) ?_; dsimp only)); refine box_event ?hg (N := 7) ?hd (cs := #[.string (⟨#[]⟩ : ByteArray), .string (⟨#[]⟩ : ByteArray)]) (t := 27) ?hr ?_; (case hd => rfl); (case hg => rfl); (case hr => first | (go_simp; done) | (go_simp; rfl)); intro gb168 hg w18 hbox hb; have n0_ := Aside0.mk (Kd.R_below (Kd.R_elderB ZZ7b8061 gb168 (Nat.le_of_eq hg.symm)) hb); have n1_ := Aside0.mk (Kd.R_below ZZde1585 hb); have n2_ := Aside0.mk (below_step ZZ605003 hb); have n3_ := Aside0.mk (hbox); have n4_ := Aside0.mk ((by rw [hg]; exact (below_size ZZ605003) : w.heap.size ≤ gb168)); have n5_ := Aside0.mk ((by rw [hg]; exact (below_size ZZ605003) : w.heap.size ≤ gb168)); clear HO_4; clear HO163; clear HB; have HO_4 := n0_; have HO163 := n1_; have HB := n2_; have BK168 := n3_; have GW168 := n4_; have GE168 := n5_; clear n0_ n1_ n2_ n3_ n4_ n5_; clear hb hbox hg; have hcz19_0 : w18.cell? ⟨gb168, 0, none⟩ = some (.string (⟨#[]⟩ : ByteArray)) := (blk_cell BK168.out 0).trans rfl; have hcz19_1 : w18.cell? ⟨gb168, 1, none⟩ = some (.string (⟨#[]⟩ : ByteArray)) := (blk_cell BK168.out 1).trans rfl; have hfz19_0 := blk_frozen BK168.out 0; have hfz19_1 := blk_frozen BK168.out 1))
          go_ret2
          exact ⟨_, by first | rfl | (simp [errW_none, errW_some] <;> rfl) | (simp [*, errW_none, errW_some] <;> rfl), by (with_reducible repeat (first | apply Kd.R_alloc | apply Kd.R_drewN | apply Kd.R_drew)); exact Kd.R_mono (Kd.R_far (p := ⟨gb168, 1, none⟩) (Kd.R_far (p := ⟨gb168, 0, none⟩) (Kd.R_mono HO_4.out (fun k_ hk => (⟨hk, hk.2⟩ : _ ∧ k_ ≠ gb168))) (fun _ hk => hk.2) (.string t165)) (fun _ hk => hk.2) (.string t166)) (fun _ hk => trivial), by repeat (first | (with_reducible first | exact HB.out | apply below_alloc | apply pw_below_drewN | apply below_drew1 | refine below_set ?_ GE168.out) | exact HB.out)⟩
         ·rw [if_neg c13] at H
          have c13b0 : decide ((t161.length : Int) < 2) = false := decide_eq_false c13
          have c13b1 : decide (t161.length < 2) = false := decide_eq_false (by omega)
          clear c13
          by_cases c20 : t167 = true
          ·subst c20
           have H1 : (if x4_1.length < 4398046511104 then (spec_l27Open.l0 kj3 a0 (x4_1 ++ [(⟨t165, t166⟩ : S27)]) (wrap64 ((wrap64 (x5_1 + ((rdOf ByteArray.empty t161 0).size : Int))) + 1))) else (none)) = some (r1, r2) := by rw [if_pos rfl] at H; exact H
           clear H
           have H := H1
           clear H1
           by_cases c21 : x4_1.length < 4398046511104
           ·rw [if_pos c21] at H
            have LMc21 := Aside0.mk c21
            clear c21
            obtain ⟨y169, hy169⟩ : ∃ y_ : List (S27), y_ = (x4_1 ++ [(⟨t165, t166⟩ : S27)]) := ⟨_, rfl⟩
            replace H : (spec_l27Open.l0 kj3 a0 y169 (wrap64 ((wrap64 (x5_1 + ((rdOf ByteArray.empty t161 0).size : Int))) + 1))) = some (r1, r2) := by first | (rw [hy169]; with_reducible exact H) | (have H2_ := (Option.bind_some _ _).symm.trans H; rw [hy169]; with_reducible exact H2_) | (have H2_ := (Option.bind_some _ _).symm.trans H; with_reducible exact H2_) | with_reducible exact H | (rw [hy169]; exact H) | exact H
            have Ny169 := Aside0.mk hy169
            clear hy169
            have H' := Aside0.mk H
            clear H
            go_wp2_with (first | ((with_reducible refine gate_callee (f := 68) rfl ?_); refine goesL_ (some 22) rfl rfl Tryd.func68 (by kernel_rfl) rfl #[.string (a0.extract (x5_1 : Int).toNat a0.size), .int .u8 10] rfl ZZ19826e ?_; (with_reducible refine (spec_l1Split.calls kj3 (a0.extract (x5_1 : Int).toNat a0.size) 10 t161 _ A10.out).mono ?_); rintro e w22 ⟨v162, rfl, ho0, hb⟩; refine ⟨_, rfl, ?_⟩; have n0_ := Aside0.mk (Kd.R_below ZZ7b8061 hb); have n1_ := Aside0.mk (Kd.R_lower ho0 (below_size ZZ605003)); have n2_ := Aside0.mk (below_step ZZ605003 hb); clear HO_4; clear HB; have HO_4 := n0_; have HO163 := n1_; have HB := n2_; clear n0_ n1_ n2_; (try clear hb); (try clear hb2); (try clear hk); (try clear hi); (try clear ho0); obtain ⟨Ao23, co23, eo23⟩ := Kd.R_slice HO163.out; subst eo23; have p164 : 0 ≤ (0 : Int) := (by omega); have q164 : 0 < (t161.length : Int) := of_decide_eq_true ZZ853400; obtain ⟨ad164, e164, hx164_0⟩ := Kd.at_string (Kd.R_reads' HO163.out).2.2 0 p164 q164; cases e164; have qi164 : (0 < t161.length) = True := eq_true (by omega); (try rw [show ((0 : Int)).toNat = 0 from rfl] at hx164_0); (try rw [Addr.add_zero'] at hx164_0); replace p164 := eq_true p164; replace q164 := eq_true q164; obtain ⟨Ao24, co24, eo24⟩ := Kd.R_slice HO_4.out; subst eo24) | ((with_reducible refine gate_callee (f := 69) rfl ?_); refine goesL_ (some 29) rfl rfl Tryd.func69 (by kernel_rfl) rfl #[.string (rdOf ByteArray.empty t161 0), .int .i64 (x4_1.length : Int)] rfl ZZ19826e ?_; (with_reducible refine (spec_l27Read.calls kj3 (rdOf ByteArray.empty t161 0) (x4_1.length : Int) t165 t166 true _ A12.out).mono ?_); rintro e w25 ⟨rfl, hb⟩; refine ⟨_, rfl, ?_⟩; have n0_ := Aside0.mk (Kd.R_below ZZ7b8061 hb); have n1_ := Aside0.mk (Kd.R_below ZZde1585 hb); have n2_ := Aside0.mk (below_step ZZ605003 hb); clear HO_4; clear HO163; clear HB; have HO_4 := n0_; have HO163 := n1_; have HB := n2_; clear n0_ n1_ n2_; (try clear hb); (try clear hb2); (try clear hk); (try clear hi)) | ((with_reducible refine gate_dst (N := 7) rfl ?_); (try (refine gate_guard (by rfl) ?_; dsimp only)); refine box_event ?hg (N := 7) ?hd (cs := #[.string (⟨#[]⟩ : ByteArray), .string (⟨#[]⟩ : ByteArray)]) (t := 27) ?hr ?_; (case hd => rfl); (case hg => rfl); (case hr => first | (go_simp; done) | (go_simp; rfl)); intro gb168 hg w26 hbox hb; have n0_ := Aside0.mk (Kd.R_below (Kd.R_elderB ZZ7b8061 gb168 (Nat.le_of_eq hg.symm)) hb); have n1_ := Aside0.mk (Kd.R_below ZZde1585 hb); have n2_ := Aside0.mk (below_step ZZ605003 hb); have n3_ := Aside0.mk (hbox); have n4_ := Aside0.mk ((by rw [hg]; exact (below_size ZZ605003) : w.heap.size ≤ gb168)); have n5_ := Aside0.mk ((by rw [hg]; exact (below_size ZZ605003) : w.heap.size ≤ gb168)); clear HO_4; clear HO163; clear HB; have HO_4 := n0_; have HO163 := n1_; have HB := n2_; have BK168 := n3_; have GW168 := n4_; have GE168 := n5_; clear n0_ n1_ n2_ n3_ n4_ n5_; clear hb hbox hg; have hcz27_0 : w26.cell? ⟨gb168, 0, none⟩ = some (.string (⟨#[]⟩ : ByteArray)) := (blk_cell BK168.out 0).trans rfl; have hcz27_1 : w26.cell? ⟨gb168, 1, none⟩ = some (.string (⟨#[]⟩ : ByteArray)) := (blk_cell BK168.out 1).trans rfl; have hfz27_0 := blk_frozen BK168.out 0; have hfz27_1 := blk_frozen BK168.out 1) | ((with_reducible refine gate_builtin (b := .append) (xs := #[.tmp 39, .tmp 41]) rfl ?_); (try (refine gate_guard (by rfl) ?_; dsimp only)); at_builtin; refine Kd.R_append k27 (w0 := w) w.heap.size rfl (.tmp 39) (.tmp 41) 48 27 (.agg #[(.string ⟨#[]⟩), (.string ⟨#[]⟩)]) 32 rfl Tryd.underlying48 info27 rfl (by decide) (by omega) (.slice Ao24 x4_1.length co24) x4_1 (⟨t165, t166⟩ : S27) [.string t165, .string t166] (fun k_ => k_ ≠ gb168) (fun _ => False) rfl (by first | (go_simp; done) | (go_simp; rfl)) ?aP (fun _ hk => hk.elim) ?aF ?aO ?aB ?aS ?aL ?_; (case aP => exact k27_mkM _ _ _ (⟨t165, t166⟩ : S27)); (case aB => exact (by repeat (first | (with_reducible first | exact HB.out | apply below_alloc | apply pw_below_drewN | apply below_drew1 | refine below_set ?_ GE168.out) | exact HB.out))); (case aF => exact (fun k_ hk => Kd.freshB (g := gb168) (o := .cells #[.string t165, .string t166] 27 (0, 0)) (by (with_reducible repeat (first | refine blk_drewN ?_ _ | refine blk_drew ?_ | refine blk_alloc ?_ _)); refine blk_put (cs := #[.string t165, .string (⟨#[]⟩ : ByteArray)]) ?_ 1 _ rfl; (with_reducible repeat (first | refine blk_drewN ?_ _ | refine blk_drew ?_ | refine blk_alloc ?_ _)); refine blk_put (cs := #[.string (⟨#[]⟩ : ByteArray), .string (⟨#[]⟩ : ByteArray)]) ?_ 0 _ rfl; (with_reducible repeat (first | refine blk_drewN ?_ _ | refine blk_drew ?_ | refine blk_alloc ?_ _)); exact BK168.out) k_ hk)); (case aO => exact (by (with_reducible repeat (first | apply Kd.R_alloc | apply Kd.R_drewN | apply Kd.R_drew)); exact Kd.R_mono (Kd.R_far (p := ⟨gb168, 1, none⟩) (Kd.R_far (p := ⟨gb168, 0, none⟩) (Kd.R_mono HO_4.out (fun k_ hk => (⟨hk, hk.2⟩ : _ ∧ k_ ≠ gb168))) (fun _ hk => hk.2) (.string t165)) (fun _ hk => hk.2) (.string t166)) (fun _ hk => hk.1.2))); (case aS => exact (below_size (by repeat (first | (with_reducible first | exact HB.out | apply below_alloc | apply pw_below_drewN | apply below_drew1 | refine below_set ?_ GE168.out) | exact HB.out)))); (case aL => have := LMc21.out; omega); intro v170 w28 ho hb hg hat; rw [← Ny169.out] at ho; have n0_ := Aside0.mk (Kd.R_over' (by (with_reducible repeat (first | apply Kd.R_alloc | apply Kd.R_drewN | apply Kd.R_drew)); exact (Kd.R_mono (Kd.R_far (p := ⟨gb168, 1, none⟩) (Kd.R_far (p := ⟨gb168, 0, none⟩) (Kd.R_types HO163.out BK168.out (by decide)) (fun _ hk => hk.2) (.string t165)) (fun _ hk => hk.2) (.string t166)) (fun _ h_ => h_.1))) (Kd.R_typed (by (with_reducible repeat (first | apply Kd.R_alloc | apply Kd.R_drewN | apply Kd.R_drew)); exact (Kd.R_mono (Kd.R_far (p := ⟨gb168, 1, none⟩) (Kd.R_far (p := ⟨gb168, 0, none⟩) (Kd.R_mono HO_4.out (fun k_ hk => (⟨hk, hk.2⟩ : _ ∧ k_ ≠ gb168))) (fun _ hk => hk.2) (.string t165)) (fun _ hk => hk.2) (.string t166)) (fun _ h_ => h_.1)))) (by decide) hg); have n1_ := Aside0.mk (blk_grown (g := gb168) (o := .cells #[.string t165, .string t166] 27 (0, 0)) (by (with_reducible repeat (first | refine blk_drewN ?_ _ | refine blk_drew ?_ | refine blk_alloc ?_ _)); refine blk_put (cs := #[.string t165, .string (⟨#[]⟩ : ByteArray)]) ?_ 1 _ rfl; (with_reducible repeat (first | refine blk_drewN ?_ _ | refine blk_drew ?_ | refine blk_alloc ?_ _)); refine blk_put (cs := #[.string (⟨#[]⟩ : ByteArray), .string (⟨#[]⟩ : ByteArray)]) ?_ 0 _ rfl; (with_reducible repeat (first | refine blk_drewN ?_ _ | refine blk_drew ?_ | refine blk_alloc ?_ _)); exact BK168.out) hg (Kd.R_away HO_4.out (fun _ hk => hk.2))); have n2_ := Aside0.mk (hb); have n3_ := Aside0.mk (ho); clear HO163; clear BK168; clear HB; clear HO_4; have HO163 := n0_; have BK168 := n1_; have HB := n2_; have HO171 := n3_; clear n0_ n1_ n2_ n3_; clear ho hb hg hat; have p172 : 0 ≤ (0 : Int) := (by omega); have q172 : 0 < (t161.length : Int) := of_decide_eq_true ZZ853400; obtain ⟨ad172, e172, hx172_0⟩ := Kd.at_string (Kd.R_reads' HO163.out).2.2 0 p172 q172; obtain rfl : ad164 = ad172 := (by injection e172); have qi172 : (0 < t161.length) = True := eq_true (by omega); (try rw [show ((0 : Int)).toNat = 0 from rfl] at hx172_0); (try rw [Addr.add_zero'] at hx172_0); replace p172 := eq_true p172; replace q172 := eq_true q172))
            go_roundg kj3
            case measure => have := HK1.out; have := HJ3.out; omega
            case rel => exact ⟨(y169), (wrap64 ((wrap64 (x5_1 + ((rdOf ByteArray.empty t161 0).size : Int))) + 1)), ZZ0ab324, H', ⟨by have := HK1.out; have := HJ3.out; omega⟩, ⟨by (with_reducible repeat (first | apply Kd.R_alloc | apply Kd.R_drewN | apply Kd.R_drew)); exact Kd.R_mono HO171.out (fun _ hk => trivial)⟩, ⟨by repeat (first | (with_reducible first | exact HB.out | apply below_alloc | apply pw_below_drewN | apply below_drew1 | refine below_set ?_ GE168.out) | exact HB.out)⟩⟩
           ·rw [if_neg c21] at H
            exact absurd H (by simp)
          ·replace c20 := Bool.eq_false_iff.mpr c20
           subst c20
           have H1 : (some (x4_1, x5_1)) = some (r1, r2) := by rw [if_neg (show ¬ (false = true) by decide)] at H; exact H
           clear H
           have H := H1
           clear H1
           simp only [Option.some.injEq, Prod.mk.injEq] at H
           obtain ⟨rfl, rfl⟩ := H
           go_wp2_with (first | ((with_reducible refine gate_callee (f := 68) rfl ?_); refine goesL_ (some 22) rfl rfl Tryd.func68 (by kernel_rfl) rfl #[.string (a0.extract (x5_1 : Int).toNat a0.size), .int .u8 10] rfl ZZ19826e ?_; (with_reducible refine (spec_l1Split.calls kj3 (a0.extract (x5_1 : Int).toNat a0.size) 10 t161 _ A10.out).mono ?_); rintro e w29 ⟨v162, rfl, ho0, hb⟩; refine ⟨_, rfl, ?_⟩; have n0_ := Aside0.mk (Kd.R_below ZZ7b8061 hb); have n1_ := Aside0.mk (Kd.R_lower ho0 (below_size ZZ605003)); have n2_ := Aside0.mk (below_step ZZ605003 hb); clear HO_4; clear HB; have HO_4 := n0_; have HO163 := n1_; have HB := n2_; clear n0_ n1_ n2_; (try clear hb); (try clear hb2); (try clear hk); (try clear hi); (try clear ho0); obtain ⟨Ao30, co30, eo30⟩ := Kd.R_slice HO163.out; subst eo30; have p164 : 0 ≤ (0 : Int) := (by omega); have q164 : 0 < (t161.length : Int) := of_decide_eq_true ZZ853400; obtain ⟨ad164, e164, hx164_0⟩ := Kd.at_string (Kd.R_reads' HO163.out).2.2 0 p164 q164; cases e164; have qi164 : (0 < t161.length) = True := eq_true (by omega); (try rw [show ((0 : Int)).toNat = 0 from rfl] at hx164_0); (try rw [Addr.add_zero'] at hx164_0); replace p164 := eq_true p164; replace q164 := eq_true q164; obtain ⟨Ao31, co31, eo31⟩ := Kd.R_slice HO_4.out; subst eo31) | ((with_reducible refine gate_callee (f := 69) rfl ?_); refine goesL_ (some 29) rfl rfl Tryd.func69 (by kernel_rfl) rfl #[.string (rdOf ByteArray.empty t161 0), .int .i64 (x4_1.length : Int)] rfl ZZ19826e ?_; (with_reducible refine (spec_l27Read.calls kj3 (rdOf ByteArray.empty t161 0) (x4_1.length : Int) t165 t166 false _ A12.out).mono ?_); rintro e w32 ⟨rfl, hb⟩; refine ⟨_, rfl, ?_⟩; have n0_ := Aside0.mk (Kd.R_below ZZ7b8061 hb); have n1_ := Aside0.mk (Kd.R_below ZZde1585 hb); have n2_ := Aside0.mk (below_step ZZ605003 hb); clear HO_4; clear HO163; clear HB; have HO_4 := n0_; have HO163 := n1_; have HB := n2_; clear n0_ n1_ n2_; (try clear hb); (try clear hb2); (try clear hk); (try clear hi)) | ((with_reducible refine gate_dst (N := 7) rfl ?_); (try (refine gate_guard (by rfl) ?_; dsimp only)); refine box_event ?hg (N := 7) ?hd (cs := #[.string (⟨#[]⟩ : ByteArray), .string (⟨#[]⟩ : ByteArray)]) (t := 27) ?hr ?_; (case hd => rfl); (case hg => rfl); (case hr => first | (go_simp; done) | (go_simp; rfl)); intro gb168 hg w33 hbox hb; have n0_ := Aside0.mk (Kd.R_below (Kd.R_elderB ZZ7b8061 gb168 (Nat.le_of_eq hg.symm)) hb); have n1_ := Aside0.mk (Kd.R_below ZZde1585 hb); have n2_ := Aside0.mk (below_step ZZ605003 hb); have n3_ := Aside0.mk (hbox); have n4_ := Aside0.mk ((by rw [hg]; exact (below_size ZZ605003) : w.heap.size ≤ gb168)); have n5_ := Aside0.mk ((by rw [hg]; exact (below_size ZZ605003) : w.heap.size ≤ gb168)); clear HO_4; clear HO163; clear HB; have HO_4 := n0_; have HO163 := n1_; have HB := n2_; have BK168 := n3_; have GW168 := n4_; have GE168 := n5_; clear n0_ n1_ n2_ n3_ n4_ n5_; clear hb hbox hg; have hcz34_0 : w33.cell? ⟨gb168, 0, none⟩ = some (.string (⟨#[]⟩ : ByteArray)) := (blk_cell BK168.out 0).trans rfl; have hcz34_1 : w33.cell? ⟨gb168, 1, none⟩ = some (.string (⟨#[]⟩ : ByteArray)) := (blk_cell BK168.out 1).trans rfl; have hfz34_0 := blk_frozen BK168.out 0; have hfz34_1 := blk_frozen BK168.out 1))
           go_ret2
           exact ⟨_, by first | rfl | (simp [errW_none, errW_some] <;> rfl) | (simp [*, errW_none, errW_some] <;> rfl), by (with_reducible repeat (first | apply Kd.R_alloc | apply Kd.R_drewN | apply Kd.R_drew)); exact Kd.R_mono (Kd.R_far (p := ⟨gb168, 1, none⟩) (Kd.R_far (p := ⟨gb168, 0, none⟩) (Kd.R_mono HO_4.out (fun k_ hk => (⟨hk, hk.2⟩ : _ ∧ k_ ≠ gb168))) (fun _ hk => hk.2) (.string t165)) (fun _ hk => hk.2) (.string t166)) (fun _ hk => trivial), by repeat (first | (with_reducible first | exact HB.out | apply below_alloc | apply pw_below_drewN | apply below_drew1 | refine below_set ?_ GE168.out) | exact HB.out)⟩
        ·rw [if_neg c11] at H
         exact absurd H (by simp)
       ·rw [if_neg c9] at H
        exact absurd H (by simp)
      ·rw [if_neg c8] at H
       exact absurd H (by simp)
     ·replace c7 := Bool.eq_false_iff.mpr c7
      subst c7
      have H1 : (some (x4_1, x5_1)) = some (r1, r2) := by rw [if_neg (show ¬ (false = true) by decide)] at H; exact H
      clear H
      have H := H1
      clear H1
      simp only [Option.some.injEq, Prod.mk.injEq] at H
      obtain ⟨rfl, rfl⟩ := H
      go_wp2
      go_ret2
      exact ⟨_, by first | rfl | (simp [errW_none, errW_some] <;> rfl) | (simp [*, errW_none, errW_some] <;> rfl), by (with_reducible repeat (first | apply Kd.R_alloc | apply Kd.R_drewN | apply Kd.R_drew)); exact HO_4.out, by repeat (first | (with_reducible first | exact HB.out | apply below_alloc | apply pw_below_drewN | apply below_drew1) | exact HB.out)⟩
end Go.Proofs.YtmhmeifdnleoaaaDoor.XFnLogLines

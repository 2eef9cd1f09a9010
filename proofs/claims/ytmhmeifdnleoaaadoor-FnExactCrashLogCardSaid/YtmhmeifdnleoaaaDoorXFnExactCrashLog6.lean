-- Printed by wip/tools/xprint.py, a program of this session, over the kit's print; Lean checks it.
import Derived.Test.YtmhmeifdnleoaaaDoorXFnExactCrashLog0
import Derived.Test.YtmhmeifdnleoaaaDoorXFnExactCrashLog1
import Derived.Test.YtmhmeifdnleoaaaDoorXFnExactCrashLog3
import Derived.Test.YtmhmeifdnleoaaaDoorXFnExactCrashLog5
namespace Go.Proofs.YtmhmeifdnleoaaaDoor.XFnExactCrashLog
open Go.Proofs.YtmhmeifdnleoaaaDoor.Short Go.RowKit Go.Proofs.YtmhmeifdnleoaaaDoorW.PrintWords Go.Proofs.YtmhmeifdnleoaaaDoorW.PrintLast Go.Proofs.YtmhmeifdnleoaaaDoorW.PrintMore
attribute [local go_sem] max2_int min2_int max_two min_two max_three min_three max_four min_four   -- for this text's walks alone
set_option linter.unusedVariables false
set_option linter.unusedSimpArgs false
theorem ZZ345c88 {p : Prop} (h : p := by repeat (first | (with_reducible first | exact HB.out | apply below_alloc | apply pw_below_drewN | apply below_drew1 | refine below_set ?_ GE232.out) | exact HB.out)) : p := h
theorem ZZ00bc3e {p : Prop} (h : p := by (with_reducible repeat (first | refine blk_drewN ?_ _ | refine blk_drew ?_ | refine blk_alloc ?_ _)); exact BK237.out) : p := h
theorem ZZed9e78 {p : Prop} (h : p := by repeat (first | (with_reducible first | exact HB.out | apply below_alloc | apply pw_below_drewN | apply below_drew1 | refine below_set ?_ GE237.out) | exact HB.out)) : p := h
/-! ### impl_CrashLog: function 25 -/
def impl_CrashLog.j0 : Nat → Int → Bool → Bool → ByteArray → ByteArray → Int → Option (ByteArray × Bool)
 | 0, _, _, _, _, _, _ => none
 | k + 1, x1, x2, x19, x233000, x233001, x233002 => if x19 = true then (some ((⟨#[]⟩ : ByteArray), false)) else (if 0 ≤ x1 then (if x1 ≤ (x233001.size : Int) then (if x233000.size + (x1 : Int).toNat ≤ 9223372036854775807 then ((bytesIn.f (x233000 ++ (x233001.extract 0 (x1 : Int).toNat))).bind fun t235 => (if x2 = true then (if x1 > 0 then ((flipB.f t235 (wrap64 ((t235.size : Int) - 1))).bind fun t236 => (some (t236, true))) else (some (t235, true))) else (some (t235, true)))) else (none)) else (none)) else (none))
def impl_CrashLog.f (k : Nat) (a0_0 : ByteArray) (a0_1 : ByteArray) (a0_2 : Int) (a1 : Int) (a2 : Bool) : Option (ByteArray × Bool) := (impl_IsValidLog.f k a0_0 a0_1 a0_2).bind fun t233 => (if t233 = true then ((impl_within.f a1 0 (a0_1.size : Int)).bind fun t234 => (impl_CrashLog.j0 k a1 a2 (!t234) a0_0 a0_1 a0_2)) else (impl_CrashLog.j0 k a1 a2 true a0_0 a0_1 a0_2))
theorem impl_CrashLog.mono_l : ∀ k, (∀ y0 y1 y2 y3 y4 y5, LeO (impl_CrashLog.j0 k y0 y1 y2 y3 y4 y5) (impl_CrashLog.j0 (k + 1) y0 y1 y2 y3 y4 y5))
 | 0 => fun _ _ _ _ _ _ r h => by simp [impl_CrashLog.j0] at h
 | k + 1 => by
  have ih0 := impl_CrashLog.mono_l k
  ·intro y0 y1 y2 y3 y4 y5
   unfold impl_CrashLog.j0
   repeat' first
   | (with_reducible exact ih0 _ _ _ _ _ _)
   | (with_reducible exact impl_IsValidLog.mono _ _ _ _)
   | (with_reducible exact LeO.refl _)
   | (with_reducible exact LeO.none _)
   | (with_reducible refine LeO.ite ?_ ?_)
   | (with_reducible refine LeO.bind ?_ (fun _ => ?_))
   | exact ih0 _ _ _ _ _ _
   | exact impl_IsValidLog.mono _ _ _ _
   | exact LeO.none _
   | refine LeO.ite ?_ ?_
   | refine LeO.bind ?_ (fun _ => ?_)
theorem impl_CrashLog.mono : ∀ a0 a1 a2 a3 a4 k, LeO (impl_CrashLog.f k a0 a1 a2 a3 a4) (impl_CrashLog.f (k + 1) a0 a1 a2 a3 a4) := by
 intro a0 a1 a2 a3 a4 k
 have ih0 := impl_CrashLog.mono_l k
 unfold impl_CrashLog.f
 repeat' first
  | (with_reducible exact ih0 _ _ _ _ _ _)
  | (with_reducible exact impl_IsValidLog.mono _ _ _ _)
  | (with_reducible exact LeO.refl _)
  | (with_reducible exact LeO.none _)
  | (with_reducible refine LeO.ite ?_ ?_)
  | (with_reducible refine LeO.bind ?_ (fun _ => ?_))
  | exact ih0 _ _ _ _ _ _
  | exact impl_IsValidLog.mono _ _ _ _
  | exact LeO.none _
  | refine LeO.ite ?_ ?_
  | refine LeO.bind ?_ (fun _ => ?_)
def impl_CrashLog.T3 : Bool × List (List Nat × List Nat) := (true, [([], []), ([0], [0]), ([], []), ([2], [2]), ([], []), ([3, 4], [3, 4]), ([1, 5], [1, 5]), ([6], [6]), ([7, 0, 1, 2, 3, 4, 5, 6, 7], [7])])
def impl_CrashLog.B3 : List Nat := [0, 1, 0, 4, 0, 28, 63, 127, 255]
theorem impl_CrashLog.tab3 : rtab .any (opsOf Tryd.f25 3) = impl_CrashLog.T3 := by kernel_rfl
theorem impl_CrashLog.bits3 : waitsOk impl_CrashLog.T3.2 impl_CrashLog.B3 = true := by kernel_rfl
set_option maxHeartbeats 8000000 in
set_option maxRecDepth 100000 in
theorem impl_CrashLog.calls (k : Nat) (a0_0 : ByteArray) (a0_1 : ByteArray) (a0_2 : Int) (a1 : Int) (a2 : Bool) (r1 : ByteArray) (r2 : Bool) (w : World) (hV : TInv w) (h : impl_CrashLog.f k a0_0 a0_1 a0_2 a1 a2 = some (r1, r2)) :
 Calls Tryd.prog 25 #[.agg #[.string a0_0, .string a0_1, .int .i64 a0_2], .int .i64 a1, .bool a2] w fun e w' => e = .returned (.tuple #[.string r1, .bool r2]) ∧ Below w.heap.size w w' := by
 have hu31 := Tryd.underlying31
 have HV := Aside0.mk hV
 clear hV
 have HB := Aside0.mk (Below.refl w.heap.size w)
 have H : ((impl_IsValidLog.f k a0_0 a0_1 a0_2).bind fun t233 => (if t233 = true then ((impl_within.f a1 0 (a0_1.size : Int)).bind fun t234 => (impl_CrashLog.j0 k a1 a2 (!t234) a0_0 a0_1 a0_2)) else (impl_CrashLog.j0 k a1 a2 true a0_0 a0_1 a0_2))) = some (r1, r2) := h
 clear h
 have HC4 := Aside0.mk H
 clear H
 go_enter Tryd.func25, Tryd.ntmps25
 go_upto_region 1 with (first | ((with_reducible refine gate_dst (N := 3) rfl ?_); (try (refine gate_guard (by rfl) ?_; dsimp only)); refine box_event ?hg (N := 3) ?hd (cs := #[.string a0_0, .string a0_1, .int .i64 a0_2]) (t := 31) ?hr ?_; (case hd => rfl); (case hg => rfl); (case hr => first | (go_simp; done) | (go_simp; rfl)); intro gb232 hg w5 hbox hb; have n0_ := Aside0.mk (below_step ZZ605003 hb); have n1_ := Aside0.mk (hbox); have n2_ := Aside0.mk ((by rw [hg]; exact (below_size ZZ605003) : w.heap.size ≤ gb232)); have n3_ := Aside0.mk ((by rw [hg]; exact (below_size ZZ605003) : w.heap.size ≤ gb232)); clear HB; have HB := n0_; have BK232 := n1_; have GW232 := n2_; have GE232 := n3_; clear n0_ n1_ n2_ n3_; clear hb hbox hg))
 (try simp only [Act.put, List.setIfInBounds_toArray, List.set_cons_zero, List.set_cons_succ])
 go_cut [19] (fun v19 wc => ∃ (kq : Nat) (x19_3 : Bool), v19 = .bool x19_3 ∧ Aside0 (impl_CrashLog.j0 kq a1 a2 x19_3 a0_0 a0_1 a0_2 = some (r1, r2)) ∧ Aside0 (kq ≤ k) ∧ Aside0 (wc.heap[gb232]? = some (.cells #[.string a0_0, .string a0_1, .int .i64 a0_2] 31 (0, 0))) ∧ Aside0 (Below w.heap.size w wc))
 case first =>
  have H := HC4.out
  clear HC4
  replace H := Option.bind_eq_some_iff.mp H
  obtain ⟨t233, A60, H⟩ := H
  replace H : (if t233 = true then ((impl_within.f a1 0 (a0_1.size : Int)).bind fun t234 => (impl_CrashLog.j0 k a1 a2 (!t234) a0_0 a0_1 a0_2)) else (impl_CrashLog.j0 k a1 a2 true a0_0 a0_1 a0_2)) = some (r1, r2) := H
  have A6 := Aside0.mk A60
  clear A60
  by_cases c7 : t233 = true
  ·subst c7
   have H1 : ((impl_within.f a1 0 (a0_1.size : Int)).bind fun t234 => (impl_CrashLog.j0 k a1 a2 (!t234) a0_0 a0_1 a0_2)) = some (r1, r2) := by rw [if_pos rfl] at H; exact H
   clear H
   have H := H1
   clear H1
   replace H := Option.bind_eq_some_iff.mp H
   obtain ⟨t234, A80, H⟩ := H
   replace H : (impl_CrashLog.j0 k a1 a2 (!t234) a0_0 a0_1 a0_2) = some (r1, r2) := H
   have A8 := Aside0.mk A80
   clear A80
   have H' := Aside0.mk H
   clear H
   have hcz9_0 : w5.cell? ⟨gb232, 0, none⟩ = some (.string a0_0) := (blk_cell BK232.out 0).trans rfl
   have hcz9_1 : w5.cell? ⟨gb232, 1, none⟩ = some (.string a0_1) := (blk_cell BK232.out 1).trans rfl
   have hcz9_2 : w5.cell? ⟨gb232, 2, none⟩ = some (.int .i64 a0_2) := (blk_cell BK232.out 2).trans rfl
   have hfz9_0 := blk_frozen BK232.out 0
   have hfz9_1 := blk_frozen BK232.out 1
   have hfz9_2 := blk_frozen BK232.out 2
   go_wp2_with (first | ((with_reducible refine gate_callee (f := 23) rfl ?_); refine goesL_ (some 10) rfl rfl Tryd.func23 (by kernel_rfl) rfl #[.agg #[.string a0_0, .string a0_1, .int .i64 a0_2]] rfl ZZ19826e ?_; (with_reducible refine (impl_IsValidLog.calls k a0_0 a0_1 a0_2 true _ ?side1 A6.out).mono ?_); (case side1 => first | exact HV.out | exact TInv.below HV.out ZZ345c88); rintro e w10 ⟨rfl, hb⟩; refine ⟨_, rfl, ?_⟩; have n0_ := Aside0.mk (blk_below (g := gb232) (o := .cells #[.string a0_0, .string a0_1, .int .i64 a0_2] 31 (0, 0)) (by (with_reducible repeat (first | refine blk_drewN ?_ _ | refine blk_drew ?_ | refine blk_alloc ?_ _)); exact BK232.out) hb); have n1_ := Aside0.mk (below_step ZZ345c88 hb); clear BK232; clear HB; have BK232 := n0_; have HB := n1_; clear n0_ n1_; (try clear hb); (try clear hb2); (try clear hk); (try clear hi); have hcz11_0 : w10.cell? ⟨gb232, 0, none⟩ = some (.string a0_0) := (blk_cell BK232.out 0).trans rfl; have hcz11_1 : w10.cell? ⟨gb232, 1, none⟩ = some (.string a0_1) := (blk_cell BK232.out 1).trans rfl; have hcz11_2 : w10.cell? ⟨gb232, 2, none⟩ = some (.int .i64 a0_2) := (blk_cell BK232.out 2).trans rfl; have hfz11_0 := blk_frozen BK232.out 0; have hfz11_1 := blk_frozen BK232.out 1; have hfz11_2 := blk_frozen BK232.out 2) | (go_at_call 45; (with_reducible refine (impl_within.calls a1 0 (a0_1.size : Int) t234 _ A8.out).mono ?_); rintro e w' ⟨rfl, ⟨nd, rfl⟩⟩))
   go_meet
   case rel => exact ⟨_, (!t234), ZZ0ab324, H', ⟨by first | omega | exact Nat.le_refl _⟩, ⟨by (with_reducible repeat (first | refine blk_drewN ?_ _ | refine blk_drew ?_ | refine blk_alloc ?_ _)); exact BK232.out⟩, ⟨by repeat (first | (with_reducible first | exact HB.out | apply below_alloc | apply pw_below_drewN | apply below_drew1 | refine below_set ?_ GE232.out) | exact HB.out)⟩⟩
  ·replace c7 := Bool.eq_false_iff.mpr c7
   subst c7
   have H1 : (impl_CrashLog.j0 k a1 a2 true a0_0 a0_1 a0_2) = some (r1, r2) := by rw [if_neg (show ¬ (false = true) by decide)] at H; exact H
   clear H
   have H := H1
   clear H1
   have H' := Aside0.mk H
   clear H
   have hcz12_0 : w5.cell? ⟨gb232, 0, none⟩ = some (.string a0_0) := (blk_cell BK232.out 0).trans rfl
   have hcz12_1 : w5.cell? ⟨gb232, 1, none⟩ = some (.string a0_1) := (blk_cell BK232.out 1).trans rfl
   have hcz12_2 : w5.cell? ⟨gb232, 2, none⟩ = some (.int .i64 a0_2) := (blk_cell BK232.out 2).trans rfl
   have hfz12_0 := blk_frozen BK232.out 0
   have hfz12_1 := blk_frozen BK232.out 1
   have hfz12_2 := blk_frozen BK232.out 2
   go_wp2_with (first | ((with_reducible refine gate_callee (f := 23) rfl ?_); refine goesL_ (some 10) rfl rfl Tryd.func23 (by kernel_rfl) rfl #[.agg #[.string a0_0, .string a0_1, .int .i64 a0_2]] rfl ZZ19826e ?_; (with_reducible refine (impl_IsValidLog.calls k a0_0 a0_1 a0_2 false _ ?side1 A6.out).mono ?_); (case side1 => first | exact HV.out | exact TInv.below HV.out ZZ345c88); rintro e w13 ⟨rfl, hb⟩; refine ⟨_, rfl, ?_⟩; have n0_ := Aside0.mk (blk_below (g := gb232) (o := .cells #[.string a0_0, .string a0_1, .int .i64 a0_2] 31 (0, 0)) (by (with_reducible repeat (first | refine blk_drewN ?_ _ | refine blk_drew ?_ | refine blk_alloc ?_ _)); exact BK232.out) hb); have n1_ := Aside0.mk (below_step ZZ345c88 hb); clear BK232; clear HB; have BK232 := n0_; have HB := n1_; clear n0_ n1_; (try clear hb); (try clear hb2); (try clear hk); (try clear hi)))
   go_meet
   case rel => exact ⟨_, (true), ZZ0ab324, H', ⟨by first | omega | exact Nat.le_refl _⟩, ⟨by (with_reducible repeat (first | refine blk_drewN ?_ _ | refine blk_drew ?_ | refine blk_alloc ?_ _)); exact BK232.out⟩, ⟨by repeat (first | (with_reducible first | exact HB.out | apply below_alloc | apply pw_below_drewN | apply below_drew1 | refine below_set ?_ GE232.out) | exact HB.out)⟩⟩
 case rest =>
  clear HC4
  try clear c2
  try clear p2
  try clear c7
  try clear hcz11_0
  try clear hcz11_1
  try clear hcz11_2
  try clear hcz12_0
  try clear hcz12_1
  try clear hcz12_2
  try clear hcz9_0
  try clear hcz9_1
  try clear hcz9_2
  try clear hfz11_0
  try clear hfz11_1
  try clear hfz11_2
  try clear hfz12_0
  try clear hfz12_1
  try clear hfz12_2
  try clear hfz9_0
  try clear hfz9_1
  try clear hfz9_2
  obtain ⟨kq, x19_3, rfl, HA, HJ3, BK232, HB⟩ := hcut
  cases kq with
  | zero => exact absurd HA.out (by simp [impl_CrashLog.j0])
  | succ kj3 =>
   have H := HA.out
   clear HA
   simp only [impl_CrashLog.j0] at H
   by_cases c14 : x19_3 = true
   ·subst c14
    have H1 : (some ((⟨#[]⟩ : ByteArray), false)) = some (r1, r2) := by rw [if_pos rfl] at H; exact H
    clear H
    have H := H1
    clear H1
    simp only [Option.some.injEq, Prod.mk.injEq] at H
    obtain ⟨rfl, rfl⟩ := H
    go_wp2
    go_ret2
    exact ⟨by first | rfl | (simp [errW_none, errW_some] <;> rfl) | (simp [*, errW_none, errW_some] <;> rfl), by repeat (first | (with_reducible first | exact HB.out | apply below_alloc | apply pw_below_drewN | apply below_drew1 | refine below_set ?_ HS_.out | refine below_set ?_ GE232.out) | exact HB.out)⟩
   ·replace c14 := Bool.eq_false_iff.mpr c14
    subst c14
    have H1 : (if 0 ≤ a1 then (if a1 ≤ (a0_1.size : Int) then (if a0_0.size + (a1 : Int).toNat ≤ 9223372036854775807 then ((bytesIn.f (a0_0 ++ (a0_1.extract 0 (a1 : Int).toNat))).bind fun t235 => (if a2 = true then (if a1 > 0 then ((flipB.f t235 (wrap64 ((t235.size : Int) - 1))).bind fun t236 => (some (t236, true))) else (some (t235, true))) else (some (t235, true)))) else (none)) else (none)) else (none)) = some (r1, r2) := by rw [if_neg (show ¬ (false = true) by decide)] at H; exact H
    clear H
    have H := H1
    clear H1
    by_cases c15 : 0 ≤ a1
    ·rw [if_pos c15] at H
     have c15b0 := eq_true c15
     have c15b1 : decide (0 ≤ a1) = true := decide_eq_true c15
     clear c15
     by_cases c16 : a1 ≤ (a0_1.size : Int)
     ·rw [if_pos c16] at H
      have c16b0 := eq_true c16
      have c16b1 : decide (a1 ≤ (a0_1.size : Int)) = true := decide_eq_true c16
      clear c16
      by_cases c17 : a0_0.size + (a1 : Int).toNat ≤ 9223372036854775807
      ·rw [if_pos c17] at H
       have c17b0 := eq_true c17
       have c17b1 : decide (a0_0.size + (a1 : Int).toNat ≤ 9223372036854775807) = true := decide_eq_true c17
       try have c17b2 : (9223372036854775807 < a0_0.size + (a1 : Int).toNat) = False := eq_false (Nat.not_lt.2 c17)
       replace H := Option.bind_eq_some_iff.mp H
       obtain ⟨t235, A180, H⟩ := H
       replace H : (if a2 = true then (if a1 > 0 then ((flipB.f t235 (wrap64 ((t235.size : Int) - 1))).bind fun t236 => (some (t236, true))) else (some (t235, true))) else (some (t235, true))) = some (r1, r2) := H
       have A18 := Aside0.mk A180
       clear A180
       by_cases c19 : a2 = true
       ·subst c19
        have H1 : (if a1 > 0 then ((flipB.f t235 (wrap64 ((t235.size : Int) - 1))).bind fun t236 => (some (t236, true))) else (some (t235, true))) = some (r1, r2) := by rw [if_pos rfl] at H; exact H
        clear H
        have H := H1
        clear H1
        by_cases c20 : a1 > 0
        ·rw [if_pos c20] at H
         have c20b0 : decide (0 < a1) = true := decide_eq_true c20
         clear c20
         replace H := Option.bind_eq_some_iff.mp H
         obtain ⟨t236, A210, H⟩ := H
         replace H : (some (t236, true)) = some (r1, r2) := H
         have A21 := Aside0.mk A210
         clear A210
         simp only [Option.some.injEq, Prod.mk.injEq] at H
         obtain ⟨rfl, rfl⟩ := H
         try go_wp2
         have n0_ := Aside0.mk (blk_drew BK232.out)
         have n1_ := Aside0.mk (below_drew1 HB.out)
         clear BK232
         clear HB
         have BK232 := n0_
         have HB := n1_
         clear n0_ n1_
         refine start_ (n := 9) (S := fun w' => w'.cell? ⟨gb232, 0, none⟩ = some (.string a0_0) ∧ w'.cell? ⟨gb232, 1, none⟩ = some (.string a0_1) ∧ w'.cell? ⟨gb232, 2, none⟩ = some (.int .i64 a0_2)) (ds := []) #[false, false, false, false, false, false, false, false, false] (by kernel_rfl) rfl rfl ⟨(blk_cell BK232.out 0).trans rfl, (blk_cell BK232.out 1).trans rfl, (blk_cell BK232.out 2).trans rfl⟩ (fun hHeld => ?_); refine with_tabW impl_CrashLog.tab3 impl_CrashLog.bits3 (fun HT_ HW_ => ?_)
         generalize wc.drew = w22 at BK232 HB hHeld ⊢
         refine pu 0 20 ?_
         refine pu 2 22 ?_
         refine pu 4 24 ?_
         refine tk 1 21 ?_
         refine tk 3 23 ?_
         refine pu 5 25 ?_
         refine pu 6 26 ?_
         refine one_ (i := 7) (N := some 27) #[true, true, true, true, true, true, true, true, false] rfl rfl (one_of HT_.out (by kernel_rfl)) (by decide) (fun K hK => ?_)
         have e_ : (a0_0 ++ (a0_1.extract 0 (a1 : Int).toNat)) = t235 := Option.some.inj A18.out
         have kb_ := fun (W : World) => bytes_in (P := Tryd.prog) (src := 9) (dst := 53) (e := 5) Tryd.underlying9 Tryd.underlying53 Tryd.underlying5 t235 W
         have HS_ := Aside0.mk (below_size HB.out)
         have hb := bytes_below (Below.refl w22.heap.size w22) (Nat.le_refl _) 5 t235
         refine event_step (v := .slice (some ⟨w22.heap.size, 0, none⟩) t235.size (grownCap w22 t235.size 0 5)) (w1 := Lib.bytesWorld w22 5 t235) rfl ?hr_ ?_
         case hr_ => first | (go_simp; done) | (go_simp; rfl) | (simp only [e_]; go_simp; done) | (simp only [e_]; go_simp; rfl)
         clear kb_ e_
         have ko_ := fun (W : World) (cap : Nat) => bytes_out (P := Tryd.prog) (src := 53) (dst := 9) (e := 5) Tryd.underlying9 Tryd.underlying53 Tryd.underlying5 t235 W cap
         have n0_ := Aside0.mk (blk_below (g := gb232) (o := .cells #[.string a0_0, .string a0_1, .int .i64 a0_2] 31 (0, 0)) (by (with_reducible repeat (first | refine blk_drewN ?_ _ | refine blk_drew ?_ | refine blk_alloc ?_ _)); exact BK232.out) hb)
         have n1_ := Aside0.mk (below_step ZZ345c88 hb)
         clear BK232
         clear HB
         have BK232 := n0_
         have HB := n1_
         clear n0_ n1_
         (try clear hb)
         (try clear hb2)
         (try clear hk)
         (try clear hi)
         refine hK.out _ _ ⟨(blk_cell BK232.out 0).trans rfl, (blk_cell BK232.out 1).trans rfl, (blk_cell BK232.out 2).trans rfl⟩ (fun hHeld => ?_)
         clear hK K
         refine norm_ (a' := ?_) ?_ ?_
         rotate_left
         ·show Act.put _ (some 27) _ = _
          simp only [Act.put, List.setIfInBounds_toArray, List.set_cons_zero, List.set_cons_succ, i64_w, i32_w]
          rfl
         refine pu 8 8 ?_
         refine done_ (done_of HT_.out (by kernel_rfl)) ?_
         have hf_ := A21.out
         have hx_ : 0 ≤ (wrap64 ((t235.size : Int) - 1)) ∧ (wrap64 ((t235.size : Int) - 1)) < (t235.size : Int) := by unfold flipB.f at hf_; split at hf_ <;> first | assumption | cases hf_
         obtain ⟨j_, hj_⟩ : ∃ j_ : Nat, (wrap64 ((t235.size : Int) - 1)) = (j_ : Int) := ⟨((wrap64 ((t235.size : Int) - 1))).toNat, (Int.toNat_of_nonneg hx_.1).symm⟩
         rw [hj_] at hf_ hx_
         have hjl_ : j_ < t235.size := by have := hx_.2; omega
         clear hx_
         have kj1_ := eq_true hjl_
         have kj2_ : decide ((j_ : Int) < (t235.size : Int)) = true := decide_eq_true (by omega)
         have kj3_ : decide (j_ < t235.size) = true := decide_eq_true hjl_
         have kc_ := fun (W : World) => bytes_cell (e := 5) W t235 j_ hjl_
         have kf_ := fun (W : World) => bytes_free (e := 5) W t235 j_ hjl_
         have ks_ := fun (W : World) (cap : Nat) => bytes_out_set (P := Tryd.prog) (src := 53) (dst := 9) (e := 5) Tryd.underlying9 Tryd.underlying53 Tryd.underlying5 t235 t236 W cap j_ hjl_ _ rfl hf_
         have ks2_ := fun (W : World) (cap : Nat) => bytes_out_set (P := Tryd.prog) (src := 53) (dst := 9) (e := 5) Tryd.underlying9 Tryd.underlying53 Tryd.underlying5 t235 t236 W cap j_ hjl_ ((255 - bt t235 (j_ : Int)) % 256) (by have := bt_range t235 (j_ : Int); omega) hf_
         clear hf_
         try go_wp2
         go_ret2
         exact ⟨by first | rfl | (simp [errW_none, errW_some] <;> rfl) | (simp [*, errW_none, errW_some] <;> rfl), by repeat (first | (with_reducible first | exact HB.out | apply below_alloc | apply pw_below_drewN | apply below_drew1 | refine below_set ?_ HS_.out | refine below_set ?_ GE232.out) | exact HB.out)⟩
        ·rw [if_neg c20] at H
         have c20b0 : decide (0 < a1) = false := decide_eq_false c20
         clear c20
         simp only [Option.some.injEq, Prod.mk.injEq] at H
         obtain ⟨rfl, rfl⟩ := H
         try go_wp2
         have n0_ := Aside0.mk (blk_drew BK232.out)
         have n1_ := Aside0.mk (below_drew1 HB.out)
         clear BK232
         clear HB
         have BK232 := n0_
         have HB := n1_
         clear n0_ n1_
         refine start_ (n := 9) (S := fun w' => w'.cell? ⟨gb232, 0, none⟩ = some (.string a0_0) ∧ w'.cell? ⟨gb232, 1, none⟩ = some (.string a0_1) ∧ w'.cell? ⟨gb232, 2, none⟩ = some (.int .i64 a0_2)) (ds := []) #[false, false, false, false, false, false, false, false, false] (by kernel_rfl) rfl rfl ⟨(blk_cell BK232.out 0).trans rfl, (blk_cell BK232.out 1).trans rfl, (blk_cell BK232.out 2).trans rfl⟩ (fun hHeld => ?_); refine with_tabW impl_CrashLog.tab3 impl_CrashLog.bits3 (fun HT_ HW_ => ?_)
         generalize wc.drew = w24 at BK232 HB hHeld ⊢
         refine pu 0 20 ?_
         refine pu 2 22 ?_
         refine pu 4 24 ?_
         refine tk 1 21 ?_
         refine tk 3 23 ?_
         refine pu 5 25 ?_
         refine pu 6 26 ?_
         refine one_ (i := 7) (N := some 27) #[true, true, true, true, true, true, true, true, false] rfl rfl (one_of HT_.out (by kernel_rfl)) (by decide) (fun K hK => ?_)
         have e_ : (a0_0 ++ (a0_1.extract 0 (a1 : Int).toNat)) = t235 := Option.some.inj A18.out
         have kb_ := fun (W : World) => bytes_in (P := Tryd.prog) (src := 9) (dst := 53) (e := 5) Tryd.underlying9 Tryd.underlying53 Tryd.underlying5 t235 W
         have HS_ := Aside0.mk (below_size HB.out)
         have hb := bytes_below (Below.refl w24.heap.size w24) (Nat.le_refl _) 5 t235
         refine event_step (v := .slice (some ⟨w24.heap.size, 0, none⟩) t235.size (grownCap w24 t235.size 0 5)) (w1 := Lib.bytesWorld w24 5 t235) rfl ?hr_ ?_
         case hr_ => first | (go_simp; done) | (go_simp; rfl) | (simp only [e_]; go_simp; done) | (simp only [e_]; go_simp; rfl)
         clear kb_ e_
         have ko_ := fun (W : World) (cap : Nat) => bytes_out (P := Tryd.prog) (src := 53) (dst := 9) (e := 5) Tryd.underlying9 Tryd.underlying53 Tryd.underlying5 t235 W cap
         have n0_ := Aside0.mk (blk_below (g := gb232) (o := .cells #[.string a0_0, .string a0_1, .int .i64 a0_2] 31 (0, 0)) (by (with_reducible repeat (first | refine blk_drewN ?_ _ | refine blk_drew ?_ | refine blk_alloc ?_ _)); exact BK232.out) hb)
         have n1_ := Aside0.mk (below_step ZZ345c88 hb)
         clear BK232
         clear HB
         have BK232 := n0_
         have HB := n1_
         clear n0_ n1_
         (try clear hb)
         (try clear hb2)
         (try clear hk)
         (try clear hi)
         refine hK.out _ _ ⟨(blk_cell BK232.out 0).trans rfl, (blk_cell BK232.out 1).trans rfl, (blk_cell BK232.out 2).trans rfl⟩ (fun hHeld => ?_)
         clear hK K
         refine norm_ (a' := ?_) ?_ ?_
         rotate_left
         ·show Act.put _ (some 27) _ = _
          simp only [Act.put, List.setIfInBounds_toArray, List.set_cons_zero, List.set_cons_succ, i64_w, i32_w]
          rfl
         refine pu 8 8 ?_
         refine done_ (done_of HT_.out (by kernel_rfl)) ?_
         try go_wp2
         go_ret2
         exact ⟨by first | rfl | (simp [errW_none, errW_some] <;> rfl) | (simp [*, errW_none, errW_some] <;> rfl), by repeat (first | (with_reducible first | exact HB.out | apply below_alloc | apply pw_below_drewN | apply below_drew1 | refine below_set ?_ HS_.out | refine below_set ?_ GE232.out) | exact HB.out)⟩
       ·replace c19 := Bool.eq_false_iff.mpr c19
        subst c19
        have H1 : (some (t235, true)) = some (r1, r2) := by rw [if_neg (show ¬ (false = true) by decide)] at H; exact H
        clear H
        have H := H1
        clear H1
        simp only [Option.some.injEq, Prod.mk.injEq] at H
        obtain ⟨rfl, rfl⟩ := H
        try go_wp2
        have n0_ := Aside0.mk (blk_drew BK232.out)
        have n1_ := Aside0.mk (below_drew1 HB.out)
        clear BK232
        clear HB
        have BK232 := n0_
        have HB := n1_
        clear n0_ n1_
        refine start_ (n := 9) (S := fun w' => w'.cell? ⟨gb232, 0, none⟩ = some (.string a0_0) ∧ w'.cell? ⟨gb232, 1, none⟩ = some (.string a0_1) ∧ w'.cell? ⟨gb232, 2, none⟩ = some (.int .i64 a0_2)) (ds := []) #[false, false, false, false, false, false, false, false, false] (by kernel_rfl) rfl rfl ⟨(blk_cell BK232.out 0).trans rfl, (blk_cell BK232.out 1).trans rfl, (blk_cell BK232.out 2).trans rfl⟩ (fun hHeld => ?_); refine with_tabW impl_CrashLog.tab3 impl_CrashLog.bits3 (fun HT_ HW_ => ?_)
        generalize wc.drew = w26 at BK232 HB hHeld ⊢
        refine pu 0 20 ?_
        refine pu 2 22 ?_
        refine pu 4 24 ?_
        refine tk 1 21 ?_
        refine tk 3 23 ?_
        refine pu 5 25 ?_
        refine pu 6 26 ?_
        refine one_ (i := 7) (N := some 27) #[true, true, true, true, true, true, true, true, false] rfl rfl (one_of HT_.out (by kernel_rfl)) (by decide) (fun K hK => ?_)
        have e_ : (a0_0 ++ (a0_1.extract 0 (a1 : Int).toNat)) = t235 := Option.some.inj A18.out
        have kb_ := fun (W : World) => bytes_in (P := Tryd.prog) (src := 9) (dst := 53) (e := 5) Tryd.underlying9 Tryd.underlying53 Tryd.underlying5 t235 W
        have HS_ := Aside0.mk (below_size HB.out)
        have hb := bytes_below (Below.refl w26.heap.size w26) (Nat.le_refl _) 5 t235
        refine event_step (v := .slice (some ⟨w26.heap.size, 0, none⟩) t235.size (grownCap w26 t235.size 0 5)) (w1 := Lib.bytesWorld w26 5 t235) rfl ?hr_ ?_
        case hr_ => first | (go_simp; done) | (go_simp; rfl) | (simp only [e_]; go_simp; done) | (simp only [e_]; go_simp; rfl)
        clear kb_ e_
        have ko_ := fun (W : World) (cap : Nat) => bytes_out (P := Tryd.prog) (src := 53) (dst := 9) (e := 5) Tryd.underlying9 Tryd.underlying53 Tryd.underlying5 t235 W cap
        have n0_ := Aside0.mk (blk_below (g := gb232) (o := .cells #[.string a0_0, .string a0_1, .int .i64 a0_2] 31 (0, 0)) (by (with_reducible repeat (first | refine blk_drewN ?_ _ | refine blk_drew ?_ | refine blk_alloc ?_ _)); exact BK232.out) hb)
        have n1_ := Aside0.mk (below_step ZZ345c88 hb)
        clear BK232
        clear HB
        have BK232 := n0_
        have HB := n1_
        clear n0_ n1_
        (try clear hb)
        (try clear hb2)
        (try clear hk)
        (try clear hi)
        refine hK.out _ _ ⟨(blk_cell BK232.out 0).trans rfl, (blk_cell BK232.out 1).trans rfl, (blk_cell BK232.out 2).trans rfl⟩ (fun hHeld => ?_)
        clear hK K
        refine norm_ (a' := ?_) ?_ ?_
        rotate_left
        ·show Act.put _ (some 27) _ = _
         simp only [Act.put, List.setIfInBounds_toArray, List.set_cons_zero, List.set_cons_succ, i64_w, i32_w]
         rfl
        refine pu 8 8 ?_
        refine done_ (done_of HT_.out (by kernel_rfl)) ?_
        try go_wp2
        go_ret2
        exact ⟨by first | rfl | (simp [errW_none, errW_some] <;> rfl) | (simp [*, errW_none, errW_some] <;> rfl), by repeat (first | (with_reducible first | exact HB.out | apply below_alloc | apply pw_below_drewN | apply below_drew1 | refine below_set ?_ HS_.out | refine below_set ?_ GE232.out) | exact HB.out)⟩
      ·rw [if_neg c17] at H
       exact absurd H (by simp)
     ·rw [if_neg c16] at H
      exact absurd H (by simp)
    ·rw [if_neg c15] at H
     exact absurd H (by simp)
/-! ### laws_FnExactCrashLog: function 6 -/
def laws_FnExactCrashLog.f (k : Nat) (a0_0 : ByteArray) (a0_1 : ByteArray) (a0_2 : Int) (a1 : Int) (a2 : Bool) : Option (Bool) := (laws_szLog.f a0_0 a0_1 a0_2 1048576).bind fun t238 => (if t238 < 0 then (some true) else ((laws_toLog.f a0_0 a0_1 a0_2).bind fun bt239 => ((spec_CrashLog.f k bt239.1 bt239.2.1 bt239.2.2 a1 a2).bind fun bt242 => ((laws_toLog.f a0_0 a0_1 a0_2).bind fun bt244 => ((impl_CrashLog.f k bt244.1 bt244.2.1 bt244.2.2 a1 a2).bind fun bt247 => (if bt247.1.toList = bt242.1.toList then (if (bt247.2 != bt242.2) = true then (some false) else (some true)) else (some false)))))))
theorem laws_FnExactCrashLog.mono : ∀ a0 a1 a2 a3 a4 k, LeO (laws_FnExactCrashLog.f k a0 a1 a2 a3 a4) (laws_FnExactCrashLog.f (k + 1) a0 a1 a2 a3 a4) := by
 intro a0 a1 a2 a3 a4 k
 unfold laws_FnExactCrashLog.f
 repeat' first
  | (with_reducible exact impl_CrashLog.mono _ _ _ _ _ _)
  | (with_reducible exact spec_CrashLog.mono _ _ _ _ _ _)
  | (with_reducible exact LeO.refl _)
  | (with_reducible exact LeO.none _)
  | (with_reducible refine LeO.ite ?_ ?_)
  | (with_reducible refine LeO.bind ?_ (fun _ => ?_))
  | exact impl_CrashLog.mono _ _ _ _ _ _
  | exact spec_CrashLog.mono _ _ _ _ _ _
  | exact LeO.none _
  | refine LeO.ite ?_ ?_
  | refine LeO.bind ?_ (fun _ => ?_)
set_option maxHeartbeats 8000000 in
set_option maxRecDepth 100000 in
theorem laws_FnExactCrashLog.calls (k : Nat) (a0_0 : ByteArray) (a0_1 : ByteArray) (a0_2 : Int) (a1 : Int) (a2 : Bool) (r : Bool) (w : World) (hV : TInv w) (h : laws_FnExactCrashLog.f k a0_0 a0_1 a0_2 a1 a2 = some r) :
 Calls Tryd.prog 6 #[.agg #[.string a0_0, .string a0_1, .int .i64 a0_2], .int .i64 a1, .bool a2] w fun e w' => e = .returned (.bool r) ∧ Below w.heap.size w w' := by
 have hu36 := Tryd.underlying36
 have HV := Aside0.mk hV
 clear hV
 have HB := Aside0.mk (Below.refl w.heap.size w)
 have H : ((laws_szLog.f a0_0 a0_1 a0_2 1048576).bind fun t238 => (if t238 < 0 then (some true) else ((laws_toLog.f a0_0 a0_1 a0_2).bind fun bt239 => ((spec_CrashLog.f k bt239.1 bt239.2.1 bt239.2.2 a1 a2).bind fun bt242 => ((laws_toLog.f a0_0 a0_1 a0_2).bind fun bt244 => ((impl_CrashLog.f k bt244.1 bt244.2.1 bt244.2.2 a1 a2).bind fun bt247 => (if bt247.1.toList = bt242.1.toList then (if (bt247.2 != bt242.2) = true then (some false) else (some true)) else (some false)))))))) = some r := h
 clear h
 replace H := Option.bind_eq_some_iff.mp H
 obtain ⟨t238, A40, H⟩ := H
 replace H : (if t238 < 0 then (some true) else ((laws_toLog.f a0_0 a0_1 a0_2).bind fun bt239 => ((spec_CrashLog.f k bt239.1 bt239.2.1 bt239.2.2 a1 a2).bind fun bt242 => ((laws_toLog.f a0_0 a0_1 a0_2).bind fun bt244 => ((impl_CrashLog.f k bt244.1 bt244.2.1 bt244.2.2 a1 a2).bind fun bt247 => (if bt247.1.toList = bt242.1.toList then (if (bt247.2 != bt242.2) = true then (some false) else (some true)) else (some false))))))) = some r := H
 have A4 := Aside0.mk A40
 clear A40
 by_cases c5 : t238 < 0
 ·rw [if_pos c5] at H
  have c5b0 : decide (t238 < 0) = true := decide_eq_true c5
  clear c5
  obtain rfl := Option.some.inj H
  go_enter Tryd.func6, Tryd.ntmps6
  go_wp2_with (first | ((with_reducible refine gate_dst (N := 3) rfl ?_); refine box_event ?hg (N := 3) ?hd (cs := #[.string a0_0, .string a0_1, .int .i64 a0_2]) (t := 36) ?hr ?_; (case hd => rfl); (case hg => rfl); (case hr => first | (go_simp; done) | (go_simp; rfl)); intro gb237 hg w6 hbox hb; have n0_ := Aside0.mk (below_step ZZ605003 hb); have n1_ := Aside0.mk (hbox); have n2_ := Aside0.mk ((by rw [hg]; exact (below_size ZZ605003) : w.heap.size ≤ gb237)); have n3_ := Aside0.mk ((by rw [hg]; exact (below_size ZZ605003) : w.heap.size ≤ gb237)); clear HB; have HB := n0_; have BK237 := n1_; have GW237 := n2_; have GE237 := n3_; clear n0_ n1_ n2_ n3_; clear hb hbox hg; have hcz7_0 : w6.cell? ⟨gb237, 0, none⟩ = some (.string a0_0) := (blk_cell BK237.out 0).trans rfl; have hcz7_1 : w6.cell? ⟨gb237, 1, none⟩ = some (.string a0_1) := (blk_cell BK237.out 1).trans rfl; have hcz7_2 : w6.cell? ⟨gb237, 2, none⟩ = some (.int .i64 a0_2) := (blk_cell BK237.out 2).trans rfl; have hfz7_0 := blk_frozen BK237.out 0; have hfz7_1 := blk_frozen BK237.out 1; have hfz7_2 := blk_frozen BK237.out 2) | ((with_reducible refine gate_callee (f := 20) rfl ?_); refine goesL_ (some 14) rfl rfl Tryd.func20 (by kernel_rfl) rfl #[.agg #[.string a0_0, .string a0_1, .int .i64 a0_2], .int .i64 1048576] rfl ZZ19826e ?_; (with_reducible refine (laws_szLog.calls a0_0 a0_1 a0_2 1048576 t238 _ A4.out).mono ?_); rintro e w8 ⟨rfl, hb⟩; refine ⟨_, rfl, ?_⟩; have n0_ := Aside0.mk (blk_below (g := gb237) (o := .cells #[.string a0_0, .string a0_1, .int .i64 a0_2] 36 (0, 0)) ZZ00bc3e hb); have n1_ := Aside0.mk (below_step ZZed9e78 hb); clear BK237; clear HB; have BK237 := n0_; have HB := n1_; clear n0_ n1_; (try clear hb); (try clear hb2); (try clear hk); (try clear hi)))
  go_ret
  exact ⟨by first | rfl | (simp [errW_none, errW_some] <;> rfl) | (simp [*, errW_none, errW_some] <;> rfl), by repeat (first | (with_reducible first | exact HB.out | apply below_alloc | apply pw_below_drewN | apply below_drew1 | refine below_set ?_ GE237.out) | exact HB.out)⟩
 ·rw [if_neg c5] at H
  have c5b0 : decide (t238 < 0) = false := decide_eq_false c5
  clear c5
  replace H := Option.bind_eq_some_iff.mp H
  obtain ⟨⟨t239, t240, t241⟩, A90, H⟩ := H
  replace H : ((spec_CrashLog.f k t239 t240 t241 a1 a2).bind fun bt242 => ((laws_toLog.f a0_0 a0_1 a0_2).bind fun bt244 => ((impl_CrashLog.f k bt244.1 bt244.2.1 bt244.2.2 a1 a2).bind fun bt247 => (if bt247.1.toList = bt242.1.toList then (if (bt247.2 != bt242.2) = true then (some false) else (some true)) else (some false))))) = some r := H
  have A9 := Aside0.mk A90
  clear A90
  replace H := Option.bind_eq_some_iff.mp H
  obtain ⟨⟨t242, t243⟩, A100, H⟩ := H
  replace H : ((laws_toLog.f a0_0 a0_1 a0_2).bind fun bt244 => ((impl_CrashLog.f k bt244.1 bt244.2.1 bt244.2.2 a1 a2).bind fun bt247 => (if bt247.1.toList = t242.toList then (if (bt247.2 != t243) = true then (some false) else (some true)) else (some false)))) = some r := H
  have A10 := Aside0.mk A100
  clear A100
  replace H := Option.bind_eq_some_iff.mp H
  obtain ⟨⟨t244, t245, t246⟩, A110, H⟩ := H
  replace H : ((impl_CrashLog.f k t244 t245 t246 a1 a2).bind fun bt247 => (if bt247.1.toList = t242.toList then (if (bt247.2 != t243) = true then (some false) else (some true)) else (some false))) = some r := H
  have A11 := Aside0.mk A110
  clear A110
  replace H := Option.bind_eq_some_iff.mp H
  obtain ⟨⟨t247, t248⟩, A120, H⟩ := H
  replace H : (if t247.toList = t242.toList then (if (t248 != t243) = true then (some false) else (some true)) else (some false)) = some r := H
  have A12 := Aside0.mk A120
  clear A120
  by_cases c13 : t247.toList = t242.toList
  ·rw [if_pos c13] at H
   have c13b0 : (t247.toList == t242.toList) = true := beq_iff_eq.mpr c13
   have c13b1 : (t247.toList != t242.toList) = false := bne_eq_false_iff_eq.mpr c13
   clear c13
   by_cases c14 : (t248 != t243) = true
   ·rw [if_pos c14] at H
    have c14b0 : (t248 != t243) = true := c14
    (try (have c14b1 : decide (t248 = t243) = false := by simpa using c14))
    (try (have c14b2 : (t248 == t243) = false := by simpa using c14))
    (try (have c14b3 : ¬ (t248 = t243) := by simpa using c14))
    clear c14
    obtain rfl := Option.some.inj H
    go_enter Tryd.func6, Tryd.ntmps6
    go_wp2_with (first | ((with_reducible refine gate_dst (N := 3) rfl ?_); refine box_event ?hg (N := 3) ?hd (cs := #[.string a0_0, .string a0_1, .int .i64 a0_2]) (t := 36) ?hr ?_; (case hd => rfl); (case hg => rfl); (case hr => first | (go_simp; done) | (go_simp; rfl)); intro gb237 hg w15 hbox hb; have n0_ := Aside0.mk (below_step ZZ605003 hb); have n1_ := Aside0.mk (hbox); have n2_ := Aside0.mk ((by rw [hg]; exact (below_size ZZ605003) : w.heap.size ≤ gb237)); have n3_ := Aside0.mk ((by rw [hg]; exact (below_size ZZ605003) : w.heap.size ≤ gb237)); clear HB; have HB := n0_; have BK237 := n1_; have GW237 := n2_; have GE237 := n3_; clear n0_ n1_ n2_ n3_; clear hb hbox hg; have hcz16_0 : w15.cell? ⟨gb237, 0, none⟩ = some (.string a0_0) := (blk_cell BK237.out 0).trans rfl; have hcz16_1 : w15.cell? ⟨gb237, 1, none⟩ = some (.string a0_1) := (blk_cell BK237.out 1).trans rfl; have hcz16_2 : w15.cell? ⟨gb237, 2, none⟩ = some (.int .i64 a0_2) := (blk_cell BK237.out 2).trans rfl; have hfz16_0 := blk_frozen BK237.out 0; have hfz16_1 := blk_frozen BK237.out 1; have hfz16_2 := blk_frozen BK237.out 2) | ((with_reducible refine gate_callee (f := 20) rfl ?_); refine goesL_ (some 14) rfl rfl Tryd.func20 (by kernel_rfl) rfl #[.agg #[.string a0_0, .string a0_1, .int .i64 a0_2], .int .i64 1048576] rfl ZZ19826e ?_; (with_reducible refine (laws_szLog.calls a0_0 a0_1 a0_2 1048576 t238 _ A4.out).mono ?_); rintro e w17 ⟨rfl, hb⟩; refine ⟨_, rfl, ?_⟩; have n0_ := Aside0.mk (blk_below (g := gb237) (o := .cells #[.string a0_0, .string a0_1, .int .i64 a0_2] 36 (0, 0)) ZZ00bc3e hb); have n1_ := Aside0.mk (below_step ZZed9e78 hb); clear BK237; clear HB; have BK237 := n0_; have HB := n1_; clear n0_ n1_; (try clear hb); (try clear hb2); (try clear hk); (try clear hi); have hcz18_0 : w17.cell? ⟨gb237, 0, none⟩ = some (.string a0_0) := (blk_cell BK237.out 0).trans rfl; have hcz18_1 : w17.cell? ⟨gb237, 1, none⟩ = some (.string a0_1) := (blk_cell BK237.out 1).trans rfl; have hcz18_2 : w17.cell? ⟨gb237, 2, none⟩ = some (.int .i64 a0_2) := (blk_cell BK237.out 2).trans rfl; have hfz18_0 := blk_frozen BK237.out 0; have hfz18_1 := blk_frozen BK237.out 1; have hfz18_2 := blk_frozen BK237.out 2) | ((with_reducible refine gate_callee (f := 22) rfl ?_); refine goesL_ (some 19) rfl rfl Tryd.func22 (by kernel_rfl) rfl #[.agg #[.string a0_0, .string a0_1, .int .i64 a0_2]] rfl ZZ19826e ?_; (with_reducible refine (laws_toLog.calls a0_0 a0_1 a0_2 t239 t240 t241 _ A9.out).mono ?_); rintro e w19 ⟨rfl, hb⟩; refine ⟨_, rfl, ?_⟩; have n0_ := Aside0.mk (blk_below (g := gb237) (o := .cells #[.string a0_0, .string a0_1, .int .i64 a0_2] 36 (0, 0)) ZZ00bc3e hb); have n1_ := Aside0.mk (below_step ZZed9e78 hb); clear BK237; clear HB; have BK237 := n0_; have HB := n1_; clear n0_ n1_; (try clear hb); (try clear hb2); (try clear hk); (try clear hi)) | ((with_reducible refine gate_callee (f := 24) rfl ?_); refine goesL_ (some 22) rfl rfl Tryd.func24 (by kernel_rfl) rfl #[.agg #[.string t239, .string t240, .int .i64 t241], .int .i64 a1, .bool a2] rfl ZZ19826e ?_; (with_reducible refine (spec_CrashLog.calls k t239 t240 t241 a1 a2 t242 t243 _ A10.out).mono ?_); rintro e w20 ⟨rfl, hb⟩; refine ⟨_, rfl, ?_⟩; have n0_ := Aside0.mk (blk_below (g := gb237) (o := .cells #[.string a0_0, .string a0_1, .int .i64 a0_2] 36 (0, 0)) ZZ00bc3e hb); have n1_ := Aside0.mk (below_step ZZed9e78 hb); clear BK237; clear HB; have BK237 := n0_; have HB := n1_; clear n0_ n1_; (try clear hb); (try clear hb2); (try clear hk); (try clear hi); have hcz21_0 : w20.cell? ⟨gb237, 0, none⟩ = some (.string a0_0) := (blk_cell BK237.out 0).trans rfl; have hcz21_1 : w20.cell? ⟨gb237, 1, none⟩ = some (.string a0_1) := (blk_cell BK237.out 1).trans rfl; have hcz21_2 : w20.cell? ⟨gb237, 2, none⟩ = some (.int .i64 a0_2) := (blk_cell BK237.out 2).trans rfl; have hfz21_0 := blk_frozen BK237.out 0; have hfz21_1 := blk_frozen BK237.out 1; have hfz21_2 := blk_frozen BK237.out 2) | ((with_reducible refine gate_callee (f := 22) rfl ?_); refine goesL_ (some 27) rfl rfl Tryd.func22 (by kernel_rfl) rfl #[.agg #[.string a0_0, .string a0_1, .int .i64 a0_2]] rfl ZZ19826e ?_; (with_reducible refine (laws_toLog.calls a0_0 a0_1 a0_2 t244 t245 t246 _ A11.out).mono ?_); rintro e w22 ⟨rfl, hb⟩; refine ⟨_, rfl, ?_⟩; have n0_ := Aside0.mk (blk_below (g := gb237) (o := .cells #[.string a0_0, .string a0_1, .int .i64 a0_2] 36 (0, 0)) ZZ00bc3e hb); have n1_ := Aside0.mk (below_step ZZed9e78 hb); clear BK237; clear HB; have BK237 := n0_; have HB := n1_; clear n0_ n1_; (try clear hb); (try clear hb2); (try clear hk); (try clear hi)) | ((with_reducible refine gate_callee (f := 25) rfl ?_); refine goesL_ (some 30) rfl rfl Tryd.func25 (by kernel_rfl) rfl #[.agg #[.string t244, .string t245, .int .i64 t246], .int .i64 a1, .bool a2] rfl ZZ19826e ?_; (with_reducible refine (impl_CrashLog.calls k t244 t245 t246 a1 a2 t247 t248 _ ?side1 A12.out).mono ?_); (case side1 => first | exact HV.out | exact TInv.below HV.out ZZed9e78); rintro e w23 ⟨rfl, hb⟩; refine ⟨_, rfl, ?_⟩; have n0_ := Aside0.mk (blk_below (g := gb237) (o := .cells #[.string a0_0, .string a0_1, .int .i64 a0_2] 36 (0, 0)) ZZ00bc3e hb); have n1_ := Aside0.mk (below_step ZZed9e78 hb); clear BK237; clear HB; have BK237 := n0_; have HB := n1_; clear n0_ n1_; (try clear hb); (try clear hb2); (try clear hk); (try clear hi)))
    go_ret
    exact ⟨by first | rfl | (simp [errW_none, errW_some] <;> rfl) | (simp [*, errW_none, errW_some] <;> rfl), by repeat (first | (with_reducible first | exact HB.out | apply below_alloc | apply pw_below_drewN | apply below_drew1 | refine below_set ?_ GE237.out) | exact HB.out)⟩
   ·rw [if_neg c14] at H
    have c14b0 : (t248 != t243) = false := by simpa using c14
    (try (have c14b1 : decide (t248 = t243) = true := by simpa using c14))
    (try (have c14b2 : (t248 == t243) = true := by simpa using c14))
    clear c14
    obtain rfl := Option.some.inj H
    go_enter Tryd.func6, Tryd.ntmps6
    go_wp2_with (first | ((with_reducible refine gate_dst (N := 3) rfl ?_); refine box_event ?hg (N := 3) ?hd (cs := #[.string a0_0, .string a0_1, .int .i64 a0_2]) (t := 36) ?hr ?_; (case hd => rfl); (case hg => rfl); (case hr => first | (go_simp; done) | (go_simp; rfl)); intro gb237 hg w24 hbox hb; have n0_ := Aside0.mk (below_step ZZ605003 hb); have n1_ := Aside0.mk (hbox); have n2_ := Aside0.mk ((by rw [hg]; exact (below_size ZZ605003) : w.heap.size ≤ gb237)); have n3_ := Aside0.mk ((by rw [hg]; exact (below_size ZZ605003) : w.heap.size ≤ gb237)); clear HB; have HB := n0_; have BK237 := n1_; have GW237 := n2_; have GE237 := n3_; clear n0_ n1_ n2_ n3_; clear hb hbox hg; have hcz25_0 : w24.cell? ⟨gb237, 0, none⟩ = some (.string a0_0) := (blk_cell BK237.out 0).trans rfl; have hcz25_1 : w24.cell? ⟨gb237, 1, none⟩ = some (.string a0_1) := (blk_cell BK237.out 1).trans rfl; have hcz25_2 : w24.cell? ⟨gb237, 2, none⟩ = some (.int .i64 a0_2) := (blk_cell BK237.out 2).trans rfl; have hfz25_0 := blk_frozen BK237.out 0; have hfz25_1 := blk_frozen BK237.out 1; have hfz25_2 := blk_frozen BK237.out 2) | ((with_reducible refine gate_callee (f := 20) rfl ?_); refine goesL_ (some 14) rfl rfl Tryd.func20 (by kernel_rfl) rfl #[.agg #[.string a0_0, .string a0_1, .int .i64 a0_2], .int .i64 1048576] rfl ZZ19826e ?_; (with_reducible refine (laws_szLog.calls a0_0 a0_1 a0_2 1048576 t238 _ A4.out).mono ?_); rintro e w26 ⟨rfl, hb⟩; refine ⟨_, rfl, ?_⟩; have n0_ := Aside0.mk (blk_below (g := gb237) (o := .cells #[.string a0_0, .string a0_1, .int .i64 a0_2] 36 (0, 0)) ZZ00bc3e hb); have n1_ := Aside0.mk (below_step ZZed9e78 hb); clear BK237; clear HB; have BK237 := n0_; have HB := n1_; clear n0_ n1_; (try clear hb); (try clear hb2); (try clear hk); (try clear hi); have hcz27_0 : w26.cell? ⟨gb237, 0, none⟩ = some (.string a0_0) := (blk_cell BK237.out 0).trans rfl; have hcz27_1 : w26.cell? ⟨gb237, 1, none⟩ = some (.string a0_1) := (blk_cell BK237.out 1).trans rfl; have hcz27_2 : w26.cell? ⟨gb237, 2, none⟩ = some (.int .i64 a0_2) := (blk_cell BK237.out 2).trans rfl; have hfz27_0 := blk_frozen BK237.out 0; have hfz27_1 := blk_frozen BK237.out 1; have hfz27_2 := blk_frozen BK237.out 2) | ((with_reducible refine gate_callee (f := 22) rfl ?_); refine goesL_ (some 19) rfl rfl Tryd.func22 (by kernel_rfl) rfl #[.agg #[.string a0_0, .string a0_1, .int .i64 a0_2]] rfl ZZ19826e ?_; (with_reducible refine (laws_toLog.calls a0_0 a0_1 a0_2 t239 t240 t241 _ A9.out).mono ?_); rintro e w28 ⟨rfl, hb⟩; refine ⟨_, rfl, ?_⟩; have n0_ := Aside0.mk (blk_below (g := gb237) (o := .cells #[.string a0_0, .string a0_1, .int .i64 a0_2] 36 (0, 0)) ZZ00bc3e hb); have n1_ := Aside0.mk (below_step ZZed9e78 hb); clear BK237; clear HB; have BK237 := n0_; have HB := n1_; clear n0_ n1_; (try clear hb); (try clear hb2); (try clear hk); (try clear hi)) | ((with_reducible refine gate_callee (f := 24) rfl ?_); refine goesL_ (some 22) rfl rfl Tryd.func24 (by kernel_rfl) rfl #[.agg #[.string t239, .string t240, .int .i64 t241], .int .i64 a1, .bool a2] rfl ZZ19826e ?_; (with_reducible refine (spec_CrashLog.calls k t239 t240 t241 a1 a2 t242 t243 _ A10.out).mono ?_); rintro e w29 ⟨rfl, hb⟩; refine ⟨_, rfl, ?_⟩; have n0_ := Aside0.mk (blk_below (g := gb237) (o := .cells #[.string a0_0, .string a0_1, .int .i64 a0_2] 36 (0, 0)) ZZ00bc3e hb); have n1_ := Aside0.mk (below_step ZZed9e78 hb); clear BK237; clear HB; have BK237 := n0_; have HB := n1_; clear n0_ n1_; (try clear hb); (try clear hb2); (try clear hk); (try clear hi); have hcz30_0 : w29.cell? ⟨gb237, 0, none⟩ = some (.string a0_0) := (blk_cell BK237.out 0).trans rfl; have hcz30_1 : w29.cell? ⟨gb237, 1, none⟩ = some (.string a0_1) := (blk_cell BK237.out 1).trans rfl; have hcz30_2 : w29.cell? ⟨gb237, 2, none⟩ = some (.int .i64 a0_2) := (blk_cell BK237.out 2).trans rfl; have hfz30_0 := blk_frozen BK237.out 0; have hfz30_1 := blk_frozen BK237.out 1; have hfz30_2 := blk_frozen BK237.out 2) | ((with_reducible refine gate_callee (f := 22) rfl ?_); refine goesL_ (some 27) rfl rfl Tryd.func22 (by kernel_rfl) rfl #[.agg #[.string a0_0, .string a0_1, .int .i64 a0_2]] rfl ZZ19826e ?_; (with_reducible refine (laws_toLog.calls a0_0 a0_1 a0_2 t244 t245 t246 _ A11.out).mono ?_); rintro e w31 ⟨rfl, hb⟩; refine ⟨_, rfl, ?_⟩; have n0_ := Aside0.mk (blk_below (g := gb237) (o := .cells #[.string a0_0, .string a0_1, .int .i64 a0_2] 36 (0, 0)) ZZ00bc3e hb); have n1_ := Aside0.mk (below_step ZZed9e78 hb); clear BK237; clear HB; have BK237 := n0_; have HB := n1_; clear n0_ n1_; (try clear hb); (try clear hb2); (try clear hk); (try clear hi)) | ((with_reducible refine gate_callee (f := 25) rfl ?_); refine goesL_ (some 30) rfl rfl Tryd.func25 (by kernel_rfl) rfl #[.agg #[.string t244, .string t245, .int .i64 t246], .int .i64 a1, .bool a2] rfl ZZ19826e ?_; (with_reducible refine (impl_CrashLog.calls k t244 t245 t246 a1 a2 t247 t248 _ ?side1 A12.out).mono ?_); (case side1 => first | exact HV.out | exact TInv.below HV.out ZZed9e78); rintro e w32 ⟨rfl, hb⟩; refine ⟨_, rfl, ?_⟩; have n0_ := Aside0.mk (blk_below (g := gb237) (o := .cells #[.string a0_0, .string a0_1, .int .i64 a0_2] 36 (0, 0)) ZZ00bc3e hb); have n1_ := Aside0.mk (below_step ZZed9e78 hb); clear BK237; clear HB; have BK237 := n0_; have HB := n1_; clear n0_ n1_; (try clear hb); (try clear hb2); (try clear hk); (try clear hi)))
    go_ret
    exact ⟨by first | rfl | (simp [errW_none, errW_some] <;> rfl) | (simp [*, errW_none, errW_some] <;> rfl), by repeat (first | (with_reducible first | exact HB.out | apply below_alloc | apply pw_below_drewN | apply below_drew1 | refine below_set ?_ GE237.out) | exact HB.out)⟩
  ·rw [if_neg c13] at H
   have c13b0 : (t247.toList == t242.toList) = false := beq_eq_false_iff_ne.mpr c13
   have c13b1 : (t247.toList != t242.toList) = true := bne_iff_ne.mpr c13
   obtain rfl := Option.some.inj H
   go_enter Tryd.func6, Tryd.ntmps6
   go_wp2_with (first | ((with_reducible refine gate_dst (N := 3) rfl ?_); refine box_event ?hg (N := 3) ?hd (cs := #[.string a0_0, .string a0_1, .int .i64 a0_2]) (t := 36) ?hr ?_; (case hd => rfl); (case hg => rfl); (case hr => first | (go_simp; done) | (go_simp; rfl)); intro gb237 hg w33 hbox hb; have n0_ := Aside0.mk (below_step ZZ605003 hb); have n1_ := Aside0.mk (hbox); have n2_ := Aside0.mk ((by rw [hg]; exact (below_size ZZ605003) : w.heap.size ≤ gb237)); have n3_ := Aside0.mk ((by rw [hg]; exact (below_size ZZ605003) : w.heap.size ≤ gb237)); clear HB; have HB := n0_; have BK237 := n1_; have GW237 := n2_; have GE237 := n3_; clear n0_ n1_ n2_ n3_; clear hb hbox hg; have hcz34_0 : w33.cell? ⟨gb237, 0, none⟩ = some (.string a0_0) := (blk_cell BK237.out 0).trans rfl; have hcz34_1 : w33.cell? ⟨gb237, 1, none⟩ = some (.string a0_1) := (blk_cell BK237.out 1).trans rfl; have hcz34_2 : w33.cell? ⟨gb237, 2, none⟩ = some (.int .i64 a0_2) := (blk_cell BK237.out 2).trans rfl; have hfz34_0 := blk_frozen BK237.out 0; have hfz34_1 := blk_frozen BK237.out 1; have hfz34_2 := blk_frozen BK237.out 2) | ((with_reducible refine gate_callee (f := 20) rfl ?_); refine goesL_ (some 14) rfl rfl Tryd.func20 (by kernel_rfl) rfl #[.agg #[.string a0_0, .string a0_1, .int .i64 a0_2], .int .i64 1048576] rfl ZZ19826e ?_; (with_reducible refine (laws_szLog.calls a0_0 a0_1 a0_2 1048576 t238 _ A4.out).mono ?_); rintro e w35 ⟨rfl, hb⟩; refine ⟨_, rfl, ?_⟩; have n0_ := Aside0.mk (blk_below (g := gb237) (o := .cells #[.string a0_0, .string a0_1, .int .i64 a0_2] 36 (0, 0)) ZZ00bc3e hb); have n1_ := Aside0.mk (below_step ZZed9e78 hb); clear BK237; clear HB; have BK237 := n0_; have HB := n1_; clear n0_ n1_; (try clear hb); (try clear hb2); (try clear hk); (try clear hi); have hcz36_0 : w35.cell? ⟨gb237, 0, none⟩ = some (.string a0_0) := (blk_cell BK237.out 0).trans rfl; have hcz36_1 : w35.cell? ⟨gb237, 1, none⟩ = some (.string a0_1) := (blk_cell BK237.out 1).trans rfl; have hcz36_2 : w35.cell? ⟨gb237, 2, none⟩ = some (.int .i64 a0_2) := (blk_cell BK237.out 2).trans rfl; have hfz36_0 := blk_frozen BK237.out 0; have hfz36_1 := blk_frozen BK237.out 1; have hfz36_2 := blk_frozen BK237.out 2) | ((with_reducible refine gate_callee (f := 22) rfl ?_); refine goesL_ (some 19) rfl rfl Tryd.func22 (by kernel_rfl) rfl #[.agg #[.string a0_0, .string a0_1, .int .i64 a0_2]] rfl ZZ19826e ?_; (with_reducible refine (laws_toLog.calls a0_0 a0_1 a0_2 t239 t240 t241 _ A9.out).mono ?_); rintro e w37 ⟨rfl, hb⟩; refine ⟨_, rfl, ?_⟩; have n0_ := Aside0.mk (blk_below (g := gb237) (o := .cells #[.string a0_0, .string a0_1, .int .i64 a0_2] 36 (0, 0)) ZZ00bc3e hb); have n1_ := Aside0.mk (below_step ZZed9e78 hb); clear BK237; clear HB; have BK237 := n0_; have HB := n1_; clear n0_ n1_; (try clear hb); (try clear hb2); (try clear hk); (try clear hi)) | ((with_reducible refine gate_callee (f := 24) rfl ?_); refine goesL_ (some 22) rfl rfl Tryd.func24 (by kernel_rfl) rfl #[.agg #[.string t239, .string t240, .int .i64 t241], .int .i64 a1, .bool a2] rfl ZZ19826e ?_; (with_reducible refine (spec_CrashLog.calls k t239 t240 t241 a1 a2 t242 t243 _ A10.out).mono ?_); rintro e w38 ⟨rfl, hb⟩; refine ⟨_, rfl, ?_⟩; have n0_ := Aside0.mk (blk_below (g := gb237) (o := .cells #[.string a0_0, .string a0_1, .int .i64 a0_2] 36 (0, 0)) ZZ00bc3e hb); have n1_ := Aside0.mk (below_step ZZed9e78 hb); clear BK237; clear HB; have BK237 := n0_; have HB := n1_; clear n0_ n1_; (try clear hb); (try clear hb2); (try clear hk); (try clear hi); have hcz39_0 : w38.cell? ⟨gb237, 0, none⟩ = some (.string a0_0) := (blk_cell BK237.out 0).trans rfl; have hcz39_1 : w38.cell? ⟨gb237, 1, none⟩ = some (.string a0_1) := (blk_cell BK237.out 1).trans rfl; have hcz39_2 : w38.cell? ⟨gb237, 2, none⟩ = some (.int .i64 a0_2) := (blk_cell BK237.out 2).trans rfl; have hfz39_0 := blk_frozen BK237.out 0; have hfz39_1 := blk_frozen BK237.out 1; have hfz39_2 := blk_frozen BK237.out 2) | ((with_reducible refine gate_callee (f := 22) rfl ?_); refine goesL_ (some 27) rfl rfl Tryd.func22 (by kernel_rfl) rfl #[.agg #[.string a0_0, .string a0_1, .int .i64 a0_2]] rfl ZZ19826e ?_; (with_reducible refine (laws_toLog.calls a0_0 a0_1 a0_2 t244 t245 t246 _ A11.out).mono ?_); rintro e w40 ⟨rfl, hb⟩; refine ⟨_, rfl, ?_⟩; have n0_ := Aside0.mk (blk_below (g := gb237) (o := .cells #[.string a0_0, .string a0_1, .int .i64 a0_2] 36 (0, 0)) ZZ00bc3e hb); have n1_ := Aside0.mk (below_step ZZed9e78 hb); clear BK237; clear HB; have BK237 := n0_; have HB := n1_; clear n0_ n1_; (try clear hb); (try clear hb2); (try clear hk); (try clear hi)) | ((with_reducible refine gate_callee (f := 25) rfl ?_); refine goesL_ (some 30) rfl rfl Tryd.func25 (by kernel_rfl) rfl #[.agg #[.string t244, .string t245, .int .i64 t246], .int .i64 a1, .bool a2] rfl ZZ19826e ?_; (with_reducible refine (impl_CrashLog.calls k t244 t245 t246 a1 a2 t247 t248 _ ?side1 A12.out).mono ?_); (case side1 => first | exact HV.out | exact TInv.below HV.out ZZed9e78); rintro e w41 ⟨rfl, hb⟩; refine ⟨_, rfl, ?_⟩; have n0_ := Aside0.mk (blk_below (g := gb237) (o := .cells #[.string a0_0, .string a0_1, .int .i64 a0_2] 36 (0, 0)) ZZ00bc3e hb); have n1_ := Aside0.mk (below_step ZZed9e78 hb); clear BK237; clear HB; have BK237 := n0_; have HB := n1_; clear n0_ n1_; (try clear hb); (try clear hb2); (try clear hk); (try clear hi)))
   go_ret
   exact ⟨by first | rfl | (simp [errW_none, errW_some] <;> rfl) | (simp [*, errW_none, errW_some] <;> rfl), by repeat (first | (with_reducible first | exact HB.out | apply below_alloc | apply pw_below_drewN | apply below_drew1 | refine below_set ?_ GE237.out) | exact HB.out)⟩
end Go.Proofs.YtmhmeifdnleoaaaDoor.XFnExactCrashLog

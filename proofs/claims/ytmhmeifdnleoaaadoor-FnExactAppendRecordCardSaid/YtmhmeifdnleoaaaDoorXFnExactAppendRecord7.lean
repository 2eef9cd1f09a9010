-- Printed by wip/tools/xprint.py, a program of this session, over the kit's print; Lean checks it.
import Derived.Test.YtmhmeifdnleoaaaDoorXFnExactAppendRecord0
import Derived.Test.YtmhmeifdnleoaaaDoorXFnExactAppendRecord1
import Derived.Test.YtmhmeifdnleoaaaDoorXFnExactAppendRecord4
import Derived.Test.YtmhmeifdnleoaaaDoorXFnExactAppendRecord6
namespace Go.Proofs.YtmhmeifdnleoaaaDoor.XFnExactAppendRecord
open Go.Proofs.YtmhmeifdnleoaaaDoor.Short Go.RowKit Go.Proofs.YtmhmeifdnleoaaaDoorW.PrintWords Go.Proofs.YtmhmeifdnleoaaaDoorW.PrintLast Go.Proofs.YtmhmeifdnleoaaaDoorW.PrintMore
attribute [local go_sem] max2_int min2_int max_two min_two max_three min_three max_four min_four   -- for this text's walks alone
set_option linter.unusedVariables false
set_option linter.unusedSimpArgs false
theorem ZZ7d2168 {p : Prop} (h : p := by (with_reducible repeat (first | refine blk_drewN ?_ _ | refine blk_drew ?_ | refine blk_alloc ?_ _)); exact BK246.out) : p := h
theorem ZZd59925 {p : Prop} (h : p := by repeat (first | (with_reducible first | exact HB.out | apply below_alloc | apply pw_below_drewN | apply below_drew1 | refine below_set ?_ GE246.out) | exact HB.out)) : p := h
theorem ZZ713e70 {p : Prop} (h : p := by (with_reducible repeat (first | refine blk_drewN ?_ _ | refine blk_drew ?_ | refine blk_alloc ?_ _)); exact BK247.out) : p := h
theorem ZZ97a20a {p : Prop} (h : p := by repeat (first | (with_reducible first | exact HB.out | apply below_alloc | apply pw_below_drewN | apply below_drew1 | refine below_set ?_ GE246.out | refine below_set ?_ GE247.out) | exact HB.out)) : p := h
theorem ZZ539e1d {p : Prop} (h : p := by simp only [putAll, Act.put, List.setIfInBounds_toArray, List.set_cons_zero, List.set_cons_succ]) : p := h
theorem ZZf9c532 {p : Prop} (h : p := by (with_reducible repeat (first | refine blk_drewN ?_ _ | refine blk_drew ?_ | refine blk_alloc ?_ _)); exact BK259.out) : p := h
theorem ZZ1ddea0 {p : Prop} (h : p := by repeat (first | (with_reducible first | exact HB.out | apply below_alloc | apply pw_below_drewN | apply below_drew1 | refine below_set ?_ GE246.out | refine below_set ?_ GE247.out | refine below_set ?_ GE259.out) | exact HB.out)) : p := h
theorem ZZd45ccb {p : Prop} (h : p := by (with_reducible repeat (first | refine blk_drewN ?_ _ | refine blk_drew ?_ | refine blk_alloc ?_ _)); exact BK269.out) : p := h
theorem ZZbd9ab3 {p : Prop} (h : p := by repeat (first | (with_reducible first | exact HB.out | apply below_alloc | apply pw_below_drewN | apply below_drew1 | refine below_set ?_ GE246.out | refine below_set ?_ GE247.out | refine below_set ?_ GE259.out | refine below_set ?_ GE269.out) | exact HB.out)) : p := h
theorem ZZ953734 {p : Prop} (h : p := by (with_reducible repeat (first | refine blk_drewN ?_ _ | refine blk_drew ?_ | refine blk_alloc ?_ _)); refine blk_far ?_ NB246_269.out _; (with_reducible repeat (first | refine blk_drewN ?_ _ | refine blk_drew ?_ | refine blk_alloc ?_ _)); refine blk_far ?_ NB246_269.out _; (with_reducible repeat (first | refine blk_drewN ?_ _ | refine blk_drew ?_ | refine blk_alloc ?_ _)); refine blk_far ?_ NB246_269.out _; (with_reducible repeat (first | refine blk_drewN ?_ _ | refine blk_drew ?_ | refine blk_alloc ?_ _)); exact BK246.out) : p := h
theorem ZZ77fcbf {p : Prop} (h : p := by (with_reducible repeat (first | refine blk_drewN ?_ _ | refine blk_drew ?_ | refine blk_alloc ?_ _)); refine blk_far ?_ NB247_269.out _; (with_reducible repeat (first | refine blk_drewN ?_ _ | refine blk_drew ?_ | refine blk_alloc ?_ _)); refine blk_far ?_ NB247_269.out _; (with_reducible repeat (first | refine blk_drewN ?_ _ | refine blk_drew ?_ | refine blk_alloc ?_ _)); refine blk_far ?_ NB247_269.out _; (with_reducible repeat (first | refine blk_drewN ?_ _ | refine blk_drew ?_ | refine blk_alloc ?_ _)); exact BK247.out) : p := h
theorem ZZ1ee8f0 {p : Prop} (h : p := by (with_reducible repeat (first | refine blk_drewN ?_ _ | refine blk_drew ?_ | refine blk_alloc ?_ _)); refine blk_far ?_ NB259_269.out _; (with_reducible repeat (first | refine blk_drewN ?_ _ | refine blk_drew ?_ | refine blk_alloc ?_ _)); refine blk_far ?_ NB259_269.out _; (with_reducible repeat (first | refine blk_drewN ?_ _ | refine blk_drew ?_ | refine blk_alloc ?_ _)); refine blk_far ?_ NB259_269.out _; (with_reducible repeat (first | refine blk_drewN ?_ _ | refine blk_drew ?_ | refine blk_alloc ?_ _)); exact BK259.out) : p := h
theorem ZZ2da24b {p : Prop} (h : p := by (with_reducible repeat (first | refine blk_drewN ?_ _ | refine blk_drew ?_ | refine blk_alloc ?_ _)); refine blk_put (cs := #[.string t265, .string t266, .int .i64 0]) ?_ 2 _ rfl; (with_reducible repeat (first | refine blk_drewN ?_ _ | refine blk_drew ?_ | refine blk_alloc ?_ _)); refine blk_put (cs := #[.string t265, .string (⟨#[]⟩ : ByteArray), .int .i64 0]) ?_ 1 _ rfl; (with_reducible repeat (first | refine blk_drewN ?_ _ | refine blk_drew ?_ | refine blk_alloc ?_ _)); refine blk_put (cs := #[.string (⟨#[]⟩ : ByteArray), .string (⟨#[]⟩ : ByteArray), .int .i64 0]) ?_ 0 _ rfl; (with_reducible repeat (first | refine blk_drewN ?_ _ | refine blk_drew ?_ | refine blk_alloc ?_ _)); exact BK269.out) : p := h
/-! ### laws_FnExactAppendRecord: function 8 -/
def laws_FnExactAppendRecord.f (k : Nat) (a0_0 : ByteArray) (a0_1 : ByteArray) (a0_2 : Int) (a1_0 : ByteArray) (a1_1 : ByteArray) : Option (Bool) := (laws_szLog.f a0_0 a0_1 a0_2 1048576).bind fun t248 => (if t248 < 0 then (some true) else ((laws_szLogRecord.f a1_0 a1_1 t248).bind fun t249 => (if t249 < 0 then (some true) else ((laws_toLog.f a0_0 a0_1 a0_2).bind fun bt250 => ((laws_toLogRecord.f a1_0 a1_1).bind fun bt253 => ((spec_AppendRecord.f k bt250.1 bt250.2.1 bt250.2.2 bt253.1 bt253.2).bind fun bt255 => ((laws_toLog.f a0_0 a0_1 a0_2).bind fun bt260 => ((laws_toLogRecord.f a1_0 a1_1).bind fun bt263 => ((impl_AppendRecord.f k bt260.1 bt260.2.1 bt260.2.2 bt263.1 bt263.2).bind fun bt265 => ((laws_eqLog.f bt265.1 bt265.2.1 bt265.2.2.1 bt255.1 bt255.2.1 bt255.2.2.1).bind fun t270 => (if t270 = true then (if bt265.2.2.2 = bt255.2.2.2 then (some true) else (some false)) else (some false))))))))))))
theorem laws_FnExactAppendRecord.mono : ∀ a0 a1 a2 a3 a4 k, LeO (laws_FnExactAppendRecord.f k a0 a1 a2 a3 a4) (laws_FnExactAppendRecord.f (k + 1) a0 a1 a2 a3 a4) := by
 intro a0 a1 a2 a3 a4 k
 unfold laws_FnExactAppendRecord.f
 repeat' first
  | (with_reducible exact impl_AppendRecord.mono _ _ _ _ _ _)
  | (with_reducible exact spec_AppendRecord.mono _ _ _ _ _ _)
  | (with_reducible exact LeO.refl _)
  | (with_reducible exact LeO.none _)
  | (with_reducible refine LeO.ite ?_ ?_)
  | (with_reducible refine LeO.bind ?_ (fun _ => ?_))
  | exact impl_AppendRecord.mono _ _ _ _ _ _
  | exact spec_AppendRecord.mono _ _ _ _ _ _
  | exact LeO.none _
  | refine LeO.ite ?_ ?_
  | refine LeO.bind ?_ (fun _ => ?_)
def laws_FnExactAppendRecord.T8 : Bool × List (List Nat × List Nat) := (true, [([], []), ([0], [0]), ([], []), ([2, 1], [2]), ([1, 3, 3], [1, 3]), ([4], [4]), ([5], [5]), ([5], [5]), ([], []), ([8, 6, 4, 0, 1, 2, 3, 4, 5, 6, 8], [6, 8]), ([7, 9, 0, 1, 2, 3, 4, 5, 6, 7, 8, 9], [7])])
def laws_FnExactAppendRecord.B8 : List Nat := [0, 1, 0, 7, 15, 31, 63, 63, 0, 383, 1023]
theorem laws_FnExactAppendRecord.tab8 : rtab .any (opsOf Tryd.f8 8) = laws_FnExactAppendRecord.T8 := by kernel_rfl
theorem laws_FnExactAppendRecord.bits8 : waitsOk laws_FnExactAppendRecord.T8.2 laws_FnExactAppendRecord.B8 = true := by kernel_rfl
def laws_FnExactAppendRecord.T9 : Bool × List (List Nat × List Nat) := (true, [([], []), ([0], [0]), ([], []), ([2, 1], [2]), ([1, 3, 3], [1, 3]), ([4], [4]), ([5], [5]), ([5], [5]), ([], []), ([8, 6, 4, 0, 1, 2, 3, 4, 5, 6, 8], [6, 8]), ([7, 9, 0, 1, 2, 3, 4, 5, 6, 7, 8, 9], [7])])
def laws_FnExactAppendRecord.B9 : List Nat := [0, 1, 0, 7, 15, 31, 63, 63, 0, 383, 1023]
theorem laws_FnExactAppendRecord.tab9 : rtab .any (opsOf Tryd.f8 9) = laws_FnExactAppendRecord.T9 := by kernel_rfl
theorem laws_FnExactAppendRecord.bits9 : waitsOk laws_FnExactAppendRecord.T9.2 laws_FnExactAppendRecord.B9 = true := by kernel_rfl
set_option maxHeartbeats 8000000 in
set_option maxRecDepth 100000 in
theorem laws_FnExactAppendRecord.calls (k : Nat) (a0_0 : ByteArray) (a0_1 : ByteArray) (a0_2 : Int) (a1_0 : ByteArray) (a1_1 : ByteArray) (r : Bool) (w : World) (hV : TInv w) (h : laws_FnExactAppendRecord.f k a0_0 a0_1 a0_2 a1_0 a1_1 = some r) :
 Calls Tryd.prog 8 #[.agg #[.string a0_0, .string a0_1, .int .i64 a0_2], .agg #[.string a1_0, .string a1_1]] w fun e w' => e = .returned (.bool r) ∧ Below w.heap.size w w' := by
 have hu36 := Tryd.underlying36
 have hu23 := Tryd.underlying23
 have hu31 := Tryd.underlying31
 have HV := Aside0.mk hV
 clear hV
 have HB := Aside0.mk (Below.refl w.heap.size w)
 have H : ((laws_szLog.f a0_0 a0_1 a0_2 1048576).bind fun t248 => (if t248 < 0 then (some true) else ((laws_szLogRecord.f a1_0 a1_1 t248).bind fun t249 => (if t249 < 0 then (some true) else ((laws_toLog.f a0_0 a0_1 a0_2).bind fun bt250 => ((laws_toLogRecord.f a1_0 a1_1).bind fun bt253 => ((spec_AppendRecord.f k bt250.1 bt250.2.1 bt250.2.2 bt253.1 bt253.2).bind fun bt255 => ((laws_toLog.f a0_0 a0_1 a0_2).bind fun bt260 => ((laws_toLogRecord.f a1_0 a1_1).bind fun bt263 => ((impl_AppendRecord.f k bt260.1 bt260.2.1 bt260.2.2 bt263.1 bt263.2).bind fun bt265 => ((laws_eqLog.f bt265.1 bt265.2.1 bt265.2.2.1 bt255.1 bt255.2.1 bt255.2.2.1).bind fun t270 => (if t270 = true then (if bt265.2.2.2 = bt255.2.2.2 then (some true) else (some false)) else (some false))))))))))))) = some r := h
 clear h
 replace H := Option.bind_eq_some_iff.mp H
 obtain ⟨t248, A30, H⟩ := H
 replace H : (if t248 < 0 then (some true) else ((laws_szLogRecord.f a1_0 a1_1 t248).bind fun t249 => (if t249 < 0 then (some true) else ((laws_toLog.f a0_0 a0_1 a0_2).bind fun bt250 => ((laws_toLogRecord.f a1_0 a1_1).bind fun bt253 => ((spec_AppendRecord.f k bt250.1 bt250.2.1 bt250.2.2 bt253.1 bt253.2).bind fun bt255 => ((laws_toLog.f a0_0 a0_1 a0_2).bind fun bt260 => ((laws_toLogRecord.f a1_0 a1_1).bind fun bt263 => ((impl_AppendRecord.f k bt260.1 bt260.2.1 bt260.2.2 bt263.1 bt263.2).bind fun bt265 => ((laws_eqLog.f bt265.1 bt265.2.1 bt265.2.2.1 bt255.1 bt255.2.1 bt255.2.2.1).bind fun t270 => (if t270 = true then (if bt265.2.2.2 = bt255.2.2.2 then (some true) else (some false)) else (some false)))))))))))) = some r := H
 have A3 := Aside0.mk A30
 clear A30
 by_cases c4 : t248 < 0
 ·rw [if_pos c4] at H
  have c4b0 : decide (t248 < 0) = true := decide_eq_true c4
  clear c4
  obtain rfl := Option.some.inj H
  go_enter Tryd.func8, Tryd.ntmps8
  go_wp2_with (first | ((with_reducible refine gate_dst (N := 2) rfl ?_); refine box_event ?hg (N := 2) ?hd (cs := #[.string a0_0, .string a0_1, .int .i64 a0_2]) (t := 36) ?hr ?_; (case hd => rfl); (case hg => rfl); (case hr => first | (go_simp; done) | (go_simp; rfl)); intro gb246 hg w5 hbox hb; have n0_ := Aside0.mk (below_step ZZ605003 hb); have n1_ := Aside0.mk (hbox); have n2_ := Aside0.mk ((by rw [hg]; exact (below_size ZZ605003) : w.heap.size ≤ gb246)); have n3_ := Aside0.mk ((by rw [hg]; exact (below_size ZZ605003) : w.heap.size ≤ gb246)); clear HB; have HB := n0_; have BK246 := n1_; have GW246 := n2_; have GE246 := n3_; clear n0_ n1_ n2_ n3_; clear hb hbox hg) | ((with_reducible refine gate_dst (N := 3) rfl ?_); refine box_event ?hg (N := 3) ?hd (cs := #[.string a1_0, .string a1_1]) (t := 23) ?hr ?_; (case hd => rfl); (case hg => rfl); (case hr => first | (go_simp; done) | (go_simp; rfl)); intro gb247 hg w6 hbox hb; have n0_ := Aside0.mk (blk_below (g := gb246) (o := .cells #[.string a0_0, .string a0_1, .int .i64 a0_2] 36 (0, 0)) ZZ7d2168 hb); have n1_ := Aside0.mk (below_step ZZd59925 hb); have n2_ := Aside0.mk (hbox); have n3_ := Aside0.mk ((by rw [hg]; exact (below_size ZZd59925) : w.heap.size ≤ gb247)); have n4_ := Aside0.mk ((by rw [hg]; exact (below_size ZZd59925) : w.heap.size ≤ gb247)); have n5_ := Aside0.mk ((by rw [hg]; exact Nat.ne_of_lt (blk_lt (g := gb246) (o := .cells #[.string a0_0, .string a0_1, .int .i64 a0_2] 36 (0, 0)) ZZ7d2168) : gb246 ≠ gb247)); have n6_ := Aside0.mk ((by rw [hg]; exact Nat.ne_of_gt (blk_lt (g := gb246) (o := .cells #[.string a0_0, .string a0_1, .int .i64 a0_2] 36 (0, 0)) ZZ7d2168) : gb247 ≠ gb246)); clear BK246; clear HB; have BK246 := n0_; have HB := n1_; have BK247 := n2_; have GW247 := n3_; have GE247 := n4_; have NB246_247 := n5_; have NB247_246 := n6_; clear n0_ n1_ n2_ n3_ n4_ n5_ n6_; clear hb hbox hg; have hnb7 := NB246_247.out; have hnc7 := NB247_246.out; have hcz8_0 : w6.cell? ⟨gb246, 0, none⟩ = some (.string a0_0) := (blk_cell BK246.out 0).trans rfl; have hcz8_1 : w6.cell? ⟨gb246, 1, none⟩ = some (.string a0_1) := (blk_cell BK246.out 1).trans rfl; have hcz8_2 : w6.cell? ⟨gb246, 2, none⟩ = some (.int .i64 a0_2) := (blk_cell BK246.out 2).trans rfl; have hfz8_0 := blk_frozen BK246.out 0; have hfz8_1 := blk_frozen BK246.out 1; have hfz8_2 := blk_frozen BK246.out 2) | ((with_reducible refine gate_callee (f := 20) rfl ?_); refine goesL_ (some 12) rfl rfl Tryd.func20 (by kernel_rfl) rfl #[.agg #[.string a0_0, .string a0_1, .int .i64 a0_2], .int .i64 1048576] rfl ZZ19826e ?_; (with_reducible refine (laws_szLog.calls a0_0 a0_1 a0_2 1048576 t248 _ A3.out).mono ?_); rintro e w9 ⟨rfl, hb⟩; refine ⟨_, rfl, ?_⟩; have n0_ := Aside0.mk (blk_below (g := gb246) (o := .cells #[.string a0_0, .string a0_1, .int .i64 a0_2] 36 (0, 0)) ZZ7d2168 hb); have n1_ := Aside0.mk (blk_below (g := gb247) (o := .cells #[.string a1_0, .string a1_1] 23 (0, 0)) ZZ713e70 hb); have n2_ := Aside0.mk (below_step ZZ97a20a hb); clear BK246; clear BK247; clear HB; have BK246 := n0_; have BK247 := n1_; have HB := n2_; clear n0_ n1_ n2_; (try clear hb); (try clear hb2); (try clear hk); (try clear hi)))
  go_ret
  exact ⟨by first | rfl | (simp [errW_none, errW_some] <;> rfl) | (simp [*, errW_none, errW_some] <;> rfl), by repeat (first | (with_reducible first | exact HB.out | apply below_alloc | apply pw_below_drewN | apply below_drew1 | refine below_set ?_ GE246.out | refine below_set ?_ GE247.out) | exact HB.out)⟩
 ·rw [if_neg c4] at H
  have c4b0 : decide (t248 < 0) = false := decide_eq_false c4
  clear c4
  replace H := Option.bind_eq_some_iff.mp H
  obtain ⟨t249, A100, H⟩ := H
  replace H : (if t249 < 0 then (some true) else ((laws_toLog.f a0_0 a0_1 a0_2).bind fun bt250 => ((laws_toLogRecord.f a1_0 a1_1).bind fun bt253 => ((spec_AppendRecord.f k bt250.1 bt250.2.1 bt250.2.2 bt253.1 bt253.2).bind fun bt255 => ((laws_toLog.f a0_0 a0_1 a0_2).bind fun bt260 => ((laws_toLogRecord.f a1_0 a1_1).bind fun bt263 => ((impl_AppendRecord.f k bt260.1 bt260.2.1 bt260.2.2 bt263.1 bt263.2).bind fun bt265 => ((laws_eqLog.f bt265.1 bt265.2.1 bt265.2.2.1 bt255.1 bt255.2.1 bt255.2.2.1).bind fun t270 => (if t270 = true then (if bt265.2.2.2 = bt255.2.2.2 then (some true) else (some false)) else (some false)))))))))) = some r := H
  have A10 := Aside0.mk A100
  clear A100
  by_cases c11 : t249 < 0
  ·rw [if_pos c11] at H
   have c11b0 : decide (t249 < 0) = true := decide_eq_true c11
   clear c11
   obtain rfl := Option.some.inj H
   go_enter Tryd.func8, Tryd.ntmps8
   go_wp2_with (first | ((with_reducible refine gate_dst (N := 2) rfl ?_); refine box_event ?hg (N := 2) ?hd (cs := #[.string a0_0, .string a0_1, .int .i64 a0_2]) (t := 36) ?hr ?_; (case hd => rfl); (case hg => rfl); (case hr => first | (go_simp; done) | (go_simp; rfl)); intro gb246 hg w12 hbox hb; have n0_ := Aside0.mk (below_step ZZ605003 hb); have n1_ := Aside0.mk (hbox); have n2_ := Aside0.mk ((by rw [hg]; exact (below_size ZZ605003) : w.heap.size ≤ gb246)); have n3_ := Aside0.mk ((by rw [hg]; exact (below_size ZZ605003) : w.heap.size ≤ gb246)); clear HB; have HB := n0_; have BK246 := n1_; have GW246 := n2_; have GE246 := n3_; clear n0_ n1_ n2_ n3_; clear hb hbox hg) | ((with_reducible refine gate_dst (N := 3) rfl ?_); refine box_event ?hg (N := 3) ?hd (cs := #[.string a1_0, .string a1_1]) (t := 23) ?hr ?_; (case hd => rfl); (case hg => rfl); (case hr => first | (go_simp; done) | (go_simp; rfl)); intro gb247 hg w13 hbox hb; have n0_ := Aside0.mk (blk_below (g := gb246) (o := .cells #[.string a0_0, .string a0_1, .int .i64 a0_2] 36 (0, 0)) ZZ7d2168 hb); have n1_ := Aside0.mk (below_step ZZd59925 hb); have n2_ := Aside0.mk (hbox); have n3_ := Aside0.mk ((by rw [hg]; exact (below_size ZZd59925) : w.heap.size ≤ gb247)); have n4_ := Aside0.mk ((by rw [hg]; exact (below_size ZZd59925) : w.heap.size ≤ gb247)); have n5_ := Aside0.mk ((by rw [hg]; exact Nat.ne_of_lt (blk_lt (g := gb246) (o := .cells #[.string a0_0, .string a0_1, .int .i64 a0_2] 36 (0, 0)) ZZ7d2168) : gb246 ≠ gb247)); have n6_ := Aside0.mk ((by rw [hg]; exact Nat.ne_of_gt (blk_lt (g := gb246) (o := .cells #[.string a0_0, .string a0_1, .int .i64 a0_2] 36 (0, 0)) ZZ7d2168) : gb247 ≠ gb246)); clear BK246; clear HB; have BK246 := n0_; have HB := n1_; have BK247 := n2_; have GW247 := n3_; have GE247 := n4_; have NB246_247 := n5_; have NB247_246 := n6_; clear n0_ n1_ n2_ n3_ n4_ n5_ n6_; clear hb hbox hg; have hnb14 := NB246_247.out; have hnc14 := NB247_246.out; have hcz15_0 : w13.cell? ⟨gb246, 0, none⟩ = some (.string a0_0) := (blk_cell BK246.out 0).trans rfl; have hcz15_1 : w13.cell? ⟨gb246, 1, none⟩ = some (.string a0_1) := (blk_cell BK246.out 1).trans rfl; have hcz15_2 : w13.cell? ⟨gb246, 2, none⟩ = some (.int .i64 a0_2) := (blk_cell BK246.out 2).trans rfl; have hfz15_0 := blk_frozen BK246.out 0; have hfz15_1 := blk_frozen BK246.out 1; have hfz15_2 := blk_frozen BK246.out 2) | ((with_reducible refine gate_callee (f := 20) rfl ?_); refine goesL_ (some 12) rfl rfl Tryd.func20 (by kernel_rfl) rfl #[.agg #[.string a0_0, .string a0_1, .int .i64 a0_2], .int .i64 1048576] rfl ZZ19826e ?_; (with_reducible refine (laws_szLog.calls a0_0 a0_1 a0_2 1048576 t248 _ A3.out).mono ?_); rintro e w16 ⟨rfl, hb⟩; refine ⟨_, rfl, ?_⟩; have n0_ := Aside0.mk (blk_below (g := gb246) (o := .cells #[.string a0_0, .string a0_1, .int .i64 a0_2] 36 (0, 0)) ZZ7d2168 hb); have n1_ := Aside0.mk (blk_below (g := gb247) (o := .cells #[.string a1_0, .string a1_1] 23 (0, 0)) ZZ713e70 hb); have n2_ := Aside0.mk (below_step ZZ97a20a hb); clear BK246; clear BK247; clear HB; have BK246 := n0_; have BK247 := n1_; have HB := n2_; clear n0_ n1_ n2_; (try clear hb); (try clear hb2); (try clear hk); (try clear hi); have hcz17_0 : w16.cell? ⟨gb247, 0, none⟩ = some (.string a1_0) := (blk_cell BK247.out 0).trans rfl; have hcz17_1 : w16.cell? ⟨gb247, 1, none⟩ = some (.string a1_1) := (blk_cell BK247.out 1).trans rfl; have hfz17_0 := blk_frozen BK247.out 0; have hfz17_1 := blk_frozen BK247.out 1) | ((with_reducible refine gate_callee (f := 13) rfl ?_); refine goesL_ (some 17) rfl rfl Tryd.func13 (by kernel_rfl) rfl #[.agg #[.string a1_0, .string a1_1], .int .i64 t248] rfl ZZ19826e ?_; (with_reducible refine (laws_szLogRecord.calls a1_0 a1_1 t248 t249 _ A10.out).mono ?_); rintro e w18 ⟨rfl, hb⟩; refine ⟨_, rfl, ?_⟩; have n0_ := Aside0.mk (blk_below (g := gb246) (o := .cells #[.string a0_0, .string a0_1, .int .i64 a0_2] 36 (0, 0)) ZZ7d2168 hb); have n1_ := Aside0.mk (blk_below (g := gb247) (o := .cells #[.string a1_0, .string a1_1] 23 (0, 0)) ZZ713e70 hb); have n2_ := Aside0.mk (below_step ZZ97a20a hb); clear BK246; clear BK247; clear HB; have BK246 := n0_; have BK247 := n1_; have HB := n2_; clear n0_ n1_ n2_; (try clear hb); (try clear hb2); (try clear hk); (try clear hi)))
   go_ret
   exact ⟨by first | rfl | (simp [errW_none, errW_some] <;> rfl) | (simp [*, errW_none, errW_some] <;> rfl), by repeat (first | (with_reducible first | exact HB.out | apply below_alloc | apply pw_below_drewN | apply below_drew1 | refine below_set ?_ GE246.out | refine below_set ?_ GE247.out) | exact HB.out)⟩
  ·rw [if_neg c11] at H
   have c11b0 : decide (t249 < 0) = false := decide_eq_false c11
   clear c11
   replace H := Option.bind_eq_some_iff.mp H
   obtain ⟨⟨t250, t251, t252⟩, A190, H⟩ := H
   replace H : ((laws_toLogRecord.f a1_0 a1_1).bind fun bt253 => ((spec_AppendRecord.f k t250 t251 t252 bt253.1 bt253.2).bind fun bt255 => ((laws_toLog.f a0_0 a0_1 a0_2).bind fun bt260 => ((laws_toLogRecord.f a1_0 a1_1).bind fun bt263 => ((impl_AppendRecord.f k bt260.1 bt260.2.1 bt260.2.2 bt263.1 bt263.2).bind fun bt265 => ((laws_eqLog.f bt265.1 bt265.2.1 bt265.2.2.1 bt255.1 bt255.2.1 bt255.2.2.1).bind fun t270 => (if t270 = true then (if bt265.2.2.2 = bt255.2.2.2 then (some true) else (some false)) else (some false)))))))) = some r := H
   have A19 := Aside0.mk A190
   clear A190
   replace H := Option.bind_eq_some_iff.mp H
   obtain ⟨⟨t253, t254⟩, A200, H⟩ := H
   replace H : ((spec_AppendRecord.f k t250 t251 t252 t253 t254).bind fun bt255 => ((laws_toLog.f a0_0 a0_1 a0_2).bind fun bt260 => ((laws_toLogRecord.f a1_0 a1_1).bind fun bt263 => ((impl_AppendRecord.f k bt260.1 bt260.2.1 bt260.2.2 bt263.1 bt263.2).bind fun bt265 => ((laws_eqLog.f bt265.1 bt265.2.1 bt265.2.2.1 bt255.1 bt255.2.1 bt255.2.2.1).bind fun t270 => (if t270 = true then (if bt265.2.2.2 = bt255.2.2.2 then (some true) else (some false)) else (some false))))))) = some r := H
   have A20 := Aside0.mk A200
   clear A200
   replace H := Option.bind_eq_some_iff.mp H
   obtain ⟨⟨t255, t256, t257, t258⟩, A210, H⟩ := H
   replace H : ((laws_toLog.f a0_0 a0_1 a0_2).bind fun bt260 => ((laws_toLogRecord.f a1_0 a1_1).bind fun bt263 => ((impl_AppendRecord.f k bt260.1 bt260.2.1 bt260.2.2 bt263.1 bt263.2).bind fun bt265 => ((laws_eqLog.f bt265.1 bt265.2.1 bt265.2.2.1 t255 t256 t257).bind fun t270 => (if t270 = true then (if bt265.2.2.2 = t258 then (some true) else (some false)) else (some false)))))) = some r := H
   have A21 := Aside0.mk A210
   clear A210
   replace H := Option.bind_eq_some_iff.mp H
   obtain ⟨⟨t260, t261, t262⟩, A220, H⟩ := H
   replace H : ((laws_toLogRecord.f a1_0 a1_1).bind fun bt263 => ((impl_AppendRecord.f k t260 t261 t262 bt263.1 bt263.2).bind fun bt265 => ((laws_eqLog.f bt265.1 bt265.2.1 bt265.2.2.1 t255 t256 t257).bind fun t270 => (if t270 = true then (if bt265.2.2.2 = t258 then (some true) else (some false)) else (some false))))) = some r := H
   have A22 := Aside0.mk A220
   clear A220
   replace H := Option.bind_eq_some_iff.mp H
   obtain ⟨⟨t263, t264⟩, A230, H⟩ := H
   replace H : ((impl_AppendRecord.f k t260 t261 t262 t263 t264).bind fun bt265 => ((laws_eqLog.f bt265.1 bt265.2.1 bt265.2.2.1 t255 t256 t257).bind fun t270 => (if t270 = true then (if bt265.2.2.2 = t258 then (some true) else (some false)) else (some false)))) = some r := H
   have A23 := Aside0.mk A230
   clear A230
   replace H := Option.bind_eq_some_iff.mp H
   obtain ⟨⟨t265, t266, t267, t268⟩, A240, H⟩ := H
   replace H : ((laws_eqLog.f t265 t266 t267 t255 t256 t257).bind fun t270 => (if t270 = true then (if t268 = t258 then (some true) else (some false)) else (some false))) = some r := H
   have A24 := Aside0.mk A240
   clear A240
   replace H := Option.bind_eq_some_iff.mp H
   obtain ⟨t270, A250, H⟩ := H
   replace H : (if t270 = true then (if t268 = t258 then (some true) else (some false)) else (some false)) = some r := H
   have A25 := Aside0.mk A250
   clear A250
   by_cases c26 : t270 = true
   ·subst c26
    have H1 : (if t268 = t258 then (some true) else (some false)) = some r := by rw [if_pos rfl] at H; exact H
    clear H
    have H := H1
    clear H1
    by_cases c27 : t268 = t258
    ·rw [if_pos c27] at H
     have c27b0 : (t268 == t258) = true := beq_iff_eq.mpr c27
     have c27b1 : (t268 != t258) = false := bne_eq_false_iff_eq.mpr c27
     clear c27
     obtain rfl := Option.some.inj H
     go_enter Tryd.func8, Tryd.ntmps8
     try go_wp2_with (first | ((with_reducible refine gate_dst (N := 2) rfl ?_); refine box_event ?hg (N := 2) ?hd (cs := #[.string a0_0, .string a0_1, .int .i64 a0_2]) (t := 36) ?hr ?_; (case hd => rfl); (case hg => rfl); (case hr => first | (go_simp; done) | (go_simp; rfl)); intro gb246 hg w28 hbox hb; have n0_ := Aside0.mk (below_step ZZ605003 hb); have n1_ := Aside0.mk (hbox); have n2_ := Aside0.mk ((by rw [hg]; exact (below_size ZZ605003) : w.heap.size ≤ gb246)); have n3_ := Aside0.mk ((by rw [hg]; exact (below_size ZZ605003) : w.heap.size ≤ gb246)); clear HB; have HB := n0_; have BK246 := n1_; have GW246 := n2_; have GE246 := n3_; clear n0_ n1_ n2_ n3_; clear hb hbox hg) | ((with_reducible refine gate_dst (N := 3) rfl ?_); refine box_event ?hg (N := 3) ?hd (cs := #[.string a1_0, .string a1_1]) (t := 23) ?hr ?_; (case hd => rfl); (case hg => rfl); (case hr => first | (go_simp; done) | (go_simp; rfl)); intro gb247 hg w29 hbox hb; have n0_ := Aside0.mk (blk_below (g := gb246) (o := .cells #[.string a0_0, .string a0_1, .int .i64 a0_2] 36 (0, 0)) ZZ7d2168 hb); have n1_ := Aside0.mk (below_step ZZd59925 hb); have n2_ := Aside0.mk (hbox); have n3_ := Aside0.mk ((by rw [hg]; exact (below_size ZZd59925) : w.heap.size ≤ gb247)); have n4_ := Aside0.mk ((by rw [hg]; exact (below_size ZZd59925) : w.heap.size ≤ gb247)); have n5_ := Aside0.mk ((by rw [hg]; exact Nat.ne_of_lt (blk_lt (g := gb246) (o := .cells #[.string a0_0, .string a0_1, .int .i64 a0_2] 36 (0, 0)) ZZ7d2168) : gb246 ≠ gb247)); have n6_ := Aside0.mk ((by rw [hg]; exact Nat.ne_of_gt (blk_lt (g := gb246) (o := .cells #[.string a0_0, .string a0_1, .int .i64 a0_2] 36 (0, 0)) ZZ7d2168) : gb247 ≠ gb246)); clear BK246; clear HB; have BK246 := n0_; have HB := n1_; have BK247 := n2_; have GW247 := n3_; have GE247 := n4_; have NB246_247 := n5_; have NB247_246 := n6_; clear n0_ n1_ n2_ n3_ n4_ n5_ n6_; clear hb hbox hg; have hnb30 := NB246_247.out; have hnc30 := NB247_246.out; have hcz31_0 : w29.cell? ⟨gb246, 0, none⟩ = some (.string a0_0) := (blk_cell BK246.out 0).trans rfl; have hcz31_1 : w29.cell? ⟨gb246, 1, none⟩ = some (.string a0_1) := (blk_cell BK246.out 1).trans rfl; have hcz31_2 : w29.cell? ⟨gb246, 2, none⟩ = some (.int .i64 a0_2) := (blk_cell BK246.out 2).trans rfl; have hfz31_0 := blk_frozen BK246.out 0; have hfz31_1 := blk_frozen BK246.out 1; have hfz31_2 := blk_frozen BK246.out 2) | ((with_reducible refine gate_callee (f := 20) rfl ?_); refine goesL_ (some 12) rfl rfl Tryd.func20 (by kernel_rfl) rfl #[.agg #[.string a0_0, .string a0_1, .int .i64 a0_2], .int .i64 1048576] rfl ZZ19826e ?_; (with_reducible refine (laws_szLog.calls a0_0 a0_1 a0_2 1048576 t248 _ A3.out).mono ?_); rintro e w32 ⟨rfl, hb⟩; refine ⟨_, rfl, ?_⟩; have n0_ := Aside0.mk (blk_below (g := gb246) (o := .cells #[.string a0_0, .string a0_1, .int .i64 a0_2] 36 (0, 0)) ZZ7d2168 hb); have n1_ := Aside0.mk (blk_below (g := gb247) (o := .cells #[.string a1_0, .string a1_1] 23 (0, 0)) ZZ713e70 hb); have n2_ := Aside0.mk (below_step ZZ97a20a hb); clear BK246; clear BK247; clear HB; have BK246 := n0_; have BK247 := n1_; have HB := n2_; clear n0_ n1_ n2_; (try clear hb); (try clear hb2); (try clear hk); (try clear hi); have hcz33_0 : w32.cell? ⟨gb247, 0, none⟩ = some (.string a1_0) := (blk_cell BK247.out 0).trans rfl; have hcz33_1 : w32.cell? ⟨gb247, 1, none⟩ = some (.string a1_1) := (blk_cell BK247.out 1).trans rfl; have hfz33_0 := blk_frozen BK247.out 0; have hfz33_1 := blk_frozen BK247.out 1) | ((with_reducible refine gate_callee (f := 13) rfl ?_); refine goesL_ (some 17) rfl rfl Tryd.func13 (by kernel_rfl) rfl #[.agg #[.string a1_0, .string a1_1], .int .i64 t248] rfl ZZ19826e ?_; (with_reducible refine (laws_szLogRecord.calls a1_0 a1_1 t248 t249 _ A10.out).mono ?_); rintro e w34 ⟨rfl, hb⟩; refine ⟨_, rfl, ?_⟩; have n0_ := Aside0.mk (blk_below (g := gb246) (o := .cells #[.string a0_0, .string a0_1, .int .i64 a0_2] 36 (0, 0)) ZZ7d2168 hb); have n1_ := Aside0.mk (blk_below (g := gb247) (o := .cells #[.string a1_0, .string a1_1] 23 (0, 0)) ZZ713e70 hb); have n2_ := Aside0.mk (below_step ZZ97a20a hb); clear BK246; clear BK247; clear HB; have BK246 := n0_; have BK247 := n1_; have HB := n2_; clear n0_ n1_ n2_; (try clear hb); (try clear hb2); (try clear hk); (try clear hi)))
     have n0_ := Aside0.mk (blk_drew BK246.out)
     have n1_ := Aside0.mk (blk_drew BK247.out)
     have n2_ := Aside0.mk (below_drew1 HB.out)
     clear BK246
     clear BK247
     clear HB
     have BK246 := n0_
     have BK247 := n1_
     have HB := n2_
     clear n0_ n1_ n2_
     refine start_ (n := 11) (S := fun w' => w'.cell? ⟨gb246, 0, none⟩ = some (.string a0_0) ∧ w'.cell? ⟨gb246, 1, none⟩ = some (.string a0_1) ∧ w'.cell? ⟨gb246, 2, none⟩ = some (.int .i64 a0_2) ∧ w'.cell? ⟨gb247, 0, none⟩ = some (.string a1_0) ∧ w'.cell? ⟨gb247, 1, none⟩ = some (.string a1_1)) (ds := []) #[false, false, false, false, false, false, false, false, false, false, false] (by kernel_rfl) rfl rfl ⟨(blk_cell BK246.out 0).trans rfl, (blk_cell BK246.out 1).trans rfl, (blk_cell BK246.out 2).trans rfl, (blk_cell BK247.out 0).trans rfl, (blk_cell BK247.out 1).trans rfl⟩ (fun hHeld => ?_); refine with_tabW laws_FnExactAppendRecord.tab8 laws_FnExactAppendRecord.bits8 (fun HT_ HW_ => ?_)
     generalize w34.drew = w35 at BK246 BK247 HB hHeld ⊢
     refine tk 0 21 ?_
     refine tk 2 23 ?_
     refine join_ (σ := Nat) 2 #[true, true, true, true, true, true, true, true, true, false, false] (fun s_ => [(22, .agg #[.string t250, .string t251, .int .i64 t252]), (24, .agg #[.string t253, .string t254]), (25, .tuple #[.agg #[.string t255, .string t256, .int .i64 t257], .int .i64 t258]), (6, .pointer (some ⟨s_, 0, none⟩)), (20, .tuple #[.agg #[.string t255, .string t256, .int .i64 t257], .int .i64 t258]), (26, .agg #[.string t255, .string t256, .int .i64 t257]), (27, .int .i64 t258)]) (fun s_ w' => (w'.cell? ⟨gb246, 0, none⟩ = some (.string a0_0) ∧ w'.cell? ⟨gb246, 1, none⟩ = some (.string a0_1) ∧ w'.cell? ⟨gb246, 2, none⟩ = some (.int .i64 a0_2) ∧ w'.cell? ⟨gb247, 0, none⟩ = some (.string a1_0) ∧ w'.cell? ⟨gb247, 1, none⟩ = some (.string a1_1)) ∧ (w'.heap[gb246]? = some (.cells #[.string a0_0, .string a0_1, .int .i64 a0_2] 36 (0, 0))) ∧ (w'.heap[gb247]? = some (.cells #[.string a1_0, .string a1_1] 23 (0, 0))) ∧ (w'.heap[s_]? = some (.cells #[.string (⟨#[]⟩ : ByteArray), .string (⟨#[]⟩ : ByteArray), .int .i64 0] 31 (0, 0))) ∧ (w.heap.size ≤ s_) ∧ (w.heap.size ≤ s_) ∧ (gb246 ≠ s_) ∧ (s_ ≠ gb246) ∧ (gb247 ≠ s_) ∧ (s_ ≠ gb247) ∧ (Below w.heap.size w w')) ?_ ?_
     rotate_left
     ·intro hCont
      refine two_ (i := 1) (j := 8) (Ni := some 22) (Nj := some 6) #[true, true, true, false, false, false, false, false, false, false, false] #[true, false, true, false, false, false, false, false, true, false, false] rfl rfl rfl rfl (two_of HT_.out (by kernel_rfl)) (by decide) (by decide) (fun K hK => ?_) (fun K hK => ?_)
      ·skip
       refine goes_ Tryd.func22 (by kernel_rfl) rfl #[.agg #[.string a0_0, .string a0_1, .int .i64 a0_2]] (by rfl) rfl rfl ZZ19826e ?_
       with_reducible refine (laws_toLog.calls a0_0 a0_1 a0_2 t250 t251 t252 _ A19.out).mono ?_
       rintro e w36 ⟨rfl, hb⟩
       refine ⟨_, rfl, ?_⟩
       have n0_ := Aside0.mk (blk_below (g := gb246) (o := .cells #[.string a0_0, .string a0_1, .int .i64 a0_2] 36 (0, 0)) ZZ7d2168 hb)
       have n1_ := Aside0.mk (blk_below (g := gb247) (o := .cells #[.string a1_0, .string a1_1] 23 (0, 0)) ZZ713e70 hb)
       have n2_ := Aside0.mk (below_step ZZ97a20a hb)
       clear BK246
       clear BK247
       clear HB
       have BK246 := n0_
       have BK247 := n1_
       have HB := n2_
       clear n0_ n1_ n2_
       (try clear hb)
       (try clear hb2)
       (try clear hk)
       (try clear hi)
       refine hK.out _ _ ⟨(blk_cell BK246.out 0).trans rfl, (blk_cell BK246.out 1).trans rfl, (blk_cell BK246.out 2).trans rfl, (blk_cell BK247.out 0).trans rfl, (blk_cell BK247.out 1).trans rfl⟩ (fun hHeld => ?_)
       clear hK K
       refine norm_ (a' := ?_) ?_ ?_
       rotate_left
       ·show Act.put _ (some 22) _ = _
        simp only [Act.put, List.setIfInBounds_toArray, List.set_cons_zero, List.set_cons_succ, i64_w, i32_w]
        rfl
       refine two_ (i := 3) (j := 8) (Ni := some 24) (Nj := some 6) #[true, true, true, true, false, false, false, false, false, false, false] #[true, true, true, false, false, false, false, false, true, false, false] rfl rfl rfl rfl (two_of HT_.out (by kernel_rfl)) (by decide) (by decide) (fun K hK => ?_) (fun K hK => ?_)
       ·skip
        refine goes_ Tryd.func15 (by kernel_rfl) rfl #[.agg #[.string a1_0, .string a1_1]] (by rfl) rfl rfl ZZ19826e ?_
        with_reducible refine (laws_toLogRecord.calls a1_0 a1_1 t253 t254 _ A20.out).mono ?_
        rintro e w37 ⟨rfl, hb⟩
        refine ⟨_, rfl, ?_⟩
        have n0_ := Aside0.mk (blk_below (g := gb246) (o := .cells #[.string a0_0, .string a0_1, .int .i64 a0_2] 36 (0, 0)) ZZ7d2168 hb)
        have n1_ := Aside0.mk (blk_below (g := gb247) (o := .cells #[.string a1_0, .string a1_1] 23 (0, 0)) ZZ713e70 hb)
        have n2_ := Aside0.mk (below_step ZZ97a20a hb)
        clear BK246
        clear BK247
        clear HB
        have BK246 := n0_
        have BK247 := n1_
        have HB := n2_
        clear n0_ n1_ n2_
        (try clear hb)
        (try clear hb2)
        (try clear hk)
        (try clear hi)
        refine hK.out _ _ ⟨(blk_cell BK246.out 0).trans rfl, (blk_cell BK246.out 1).trans rfl, (blk_cell BK246.out 2).trans rfl, (blk_cell BK247.out 0).trans rfl, (blk_cell BK247.out 1).trans rfl⟩ (fun hHeld => ?_)
        clear hK K
        refine norm_ (a' := ?_) ?_ ?_
        rotate_left
        ·show Act.put _ (some 24) _ = _
         simp only [Act.put, List.setIfInBounds_toArray, List.set_cons_zero, List.set_cons_succ, i64_w, i32_w]
         rfl
        refine two_ (i := 4) (j := 8) (Ni := some 25) (Nj := some 6) #[true, true, true, true, true, false, false, false, false, false, false] #[true, true, true, true, false, false, false, false, true, false, false] rfl rfl rfl rfl (two_of HT_.out (by kernel_rfl)) (by decide) (by decide) (fun K hK => ?_) (fun K hK => ?_)
        ·skip
         refine goes_ Tryd.func28 (by kernel_rfl) rfl #[.agg #[.string t250, .string t251, .int .i64 t252], .agg #[.string t253, .string t254]] (by rfl) rfl rfl ZZ19826e ?_
         with_reducible refine (spec_AppendRecord.calls k t250 t251 t252 t253 t254 t255 t256 t257 t258 _ A21.out).mono ?_
         rintro e w38 ⟨rfl, hb⟩
         refine ⟨_, rfl, ?_⟩
         have n0_ := Aside0.mk (blk_below (g := gb246) (o := .cells #[.string a0_0, .string a0_1, .int .i64 a0_2] 36 (0, 0)) ZZ7d2168 hb)
         have n1_ := Aside0.mk (blk_below (g := gb247) (o := .cells #[.string a1_0, .string a1_1] 23 (0, 0)) ZZ713e70 hb)
         have n2_ := Aside0.mk (below_step ZZ97a20a hb)
         clear BK246
         clear BK247
         clear HB
         have BK246 := n0_
         have BK247 := n1_
         have HB := n2_
         clear n0_ n1_ n2_
         (try clear hb)
         (try clear hb2)
         (try clear hk)
         (try clear hi)
         refine hK.out _ _ ⟨(blk_cell BK246.out 0).trans rfl, (blk_cell BK246.out 1).trans rfl, (blk_cell BK246.out 2).trans rfl, (blk_cell BK247.out 0).trans rfl, (blk_cell BK247.out 1).trans rfl⟩ (fun hHeld => ?_)
         clear hK K
         refine norm_ (a' := ?_) ?_ ?_
         rotate_left
         ·show Act.put _ (some 25) _ = _
          simp only [Act.put, List.setIfInBounds_toArray, List.set_cons_zero, List.set_cons_succ, i64_w, i32_w]
          rfl
         refine pu 5 20 ?_
         refine pu 6 26 ?_
         refine pu 7 27 ?_
         refine one_ (i := 8) (N := some 6) #[true, true, true, true, true, true, true, true, true, false, false] rfl rfl (one_of HT_.out (by kernel_rfl)) (by decide) (fun K hK => ?_)
         refine box_step ?hg (N := 6) ?hd (cs := #[.string (⟨#[]⟩ : ByteArray), .string (⟨#[]⟩ : ByteArray), .int .i64 0]) (t := 31) ?hr ?_; (case hd => rfl); (case hg => rfl); (case hr => first | (go_simp; done) | (go_simp; rfl))
         intro gb259 hg w39 hbox hb
         have n0_ := Aside0.mk (blk_below (g := gb246) (o := .cells #[.string a0_0, .string a0_1, .int .i64 a0_2] 36 (0, 0)) ZZ7d2168 hb)
         have n1_ := Aside0.mk (blk_below (g := gb247) (o := .cells #[.string a1_0, .string a1_1] 23 (0, 0)) ZZ713e70 hb)
         have n2_ := Aside0.mk (below_step ZZ97a20a hb)
         have n3_ := Aside0.mk (hbox)
         have n4_ := Aside0.mk ((by rw [hg]; exact (below_size ZZ97a20a) : w.heap.size ≤ gb259))
         have n5_ := Aside0.mk ((by rw [hg]; exact (below_size ZZ97a20a) : w.heap.size ≤ gb259))
         have n6_ := Aside0.mk ((by rw [hg]; exact Nat.ne_of_lt (blk_lt (g := gb246) (o := .cells #[.string a0_0, .string a0_1, .int .i64 a0_2] 36 (0, 0)) ZZ7d2168) : gb246 ≠ gb259))
         have n7_ := Aside0.mk ((by rw [hg]; exact Nat.ne_of_gt (blk_lt (g := gb246) (o := .cells #[.string a0_0, .string a0_1, .int .i64 a0_2] 36 (0, 0)) ZZ7d2168) : gb259 ≠ gb246))
         have n8_ := Aside0.mk ((by rw [hg]; exact Nat.ne_of_lt (blk_lt (g := gb247) (o := .cells #[.string a1_0, .string a1_1] 23 (0, 0)) ZZ713e70) : gb247 ≠ gb259))
         have n9_ := Aside0.mk ((by rw [hg]; exact Nat.ne_of_gt (blk_lt (g := gb247) (o := .cells #[.string a1_0, .string a1_1] 23 (0, 0)) ZZ713e70) : gb259 ≠ gb247))
         clear BK246
         clear BK247
         clear HB
         have BK246 := n0_
         have BK247 := n1_
         have HB := n2_
         have BK259 := n3_
         have GW259 := n4_
         have GE259 := n5_
         have NB246_259 := n6_
         have NB259_246 := n7_
         have NB247_259 := n8_
         have NB259_247 := n9_
         clear n0_ n1_ n2_ n3_ n4_ n5_ n6_ n7_ n8_ n9_
         clear hb hbox hg
         refine hK.out _ _ ⟨(blk_cell BK246.out 0).trans rfl, (blk_cell BK246.out 1).trans rfl, (blk_cell BK246.out 2).trans rfl, (blk_cell BK247.out 0).trans rfl, (blk_cell BK247.out 1).trans rfl⟩ (fun hHeld => ?_)
         clear hK K
         refine norm_ (a' := ?_) ?_ ?_
         rotate_left
         ·show Act.put _ (some 6) _ = _
          simp only [Act.put, List.setIfInBounds_toArray, List.set_cons_zero, List.set_cons_succ, i64_w, i32_w]
          rfl
         exact norm_ ZZ539e1d (hCont (gb259) _ ⟨hHeld, ZZ7d2168, ZZ713e70, ZZf9c532, GW259.out, GE259.out, NB246_259.out, NB259_246.out, NB247_259.out, NB259_247.out, ZZ1ddea0⟩)
        ·skip
         refine box_step ?hg (N := 6) ?hd (cs := #[.string (⟨#[]⟩ : ByteArray), .string (⟨#[]⟩ : ByteArray), .int .i64 0]) (t := 31) ?hr ?_; (case hd => rfl); (case hg => rfl); (case hr => first | (go_simp; done) | (go_simp; rfl))
         intro gb259 hg w38 hbox hb
         have n0_ := Aside0.mk (blk_below (g := gb246) (o := .cells #[.string a0_0, .string a0_1, .int .i64 a0_2] 36 (0, 0)) ZZ7d2168 hb)
         have n1_ := Aside0.mk (blk_below (g := gb247) (o := .cells #[.string a1_0, .string a1_1] 23 (0, 0)) ZZ713e70 hb)
         have n2_ := Aside0.mk (below_step ZZ97a20a hb)
         have n3_ := Aside0.mk (hbox)
         have n4_ := Aside0.mk ((by rw [hg]; exact (below_size ZZ97a20a) : w.heap.size ≤ gb259))
         have n5_ := Aside0.mk ((by rw [hg]; exact (below_size ZZ97a20a) : w.heap.size ≤ gb259))
         have n6_ := Aside0.mk ((by rw [hg]; exact Nat.ne_of_lt (blk_lt (g := gb246) (o := .cells #[.string a0_0, .string a0_1, .int .i64 a0_2] 36 (0, 0)) ZZ7d2168) : gb246 ≠ gb259))
         have n7_ := Aside0.mk ((by rw [hg]; exact Nat.ne_of_gt (blk_lt (g := gb246) (o := .cells #[.string a0_0, .string a0_1, .int .i64 a0_2] 36 (0, 0)) ZZ7d2168) : gb259 ≠ gb246))
         have n8_ := Aside0.mk ((by rw [hg]; exact Nat.ne_of_lt (blk_lt (g := gb247) (o := .cells #[.string a1_0, .string a1_1] 23 (0, 0)) ZZ713e70) : gb247 ≠ gb259))
         have n9_ := Aside0.mk ((by rw [hg]; exact Nat.ne_of_gt (blk_lt (g := gb247) (o := .cells #[.string a1_0, .string a1_1] 23 (0, 0)) ZZ713e70) : gb259 ≠ gb247))
         clear BK246
         clear BK247
         clear HB
         have BK246 := n0_
         have BK247 := n1_
         have HB := n2_
         have BK259 := n3_
         have GW259 := n4_
         have GE259 := n5_
         have NB246_259 := n6_
         have NB259_246 := n7_
         have NB247_259 := n8_
         have NB259_247 := n9_
         clear n0_ n1_ n2_ n3_ n4_ n5_ n6_ n7_ n8_ n9_
         clear hb hbox hg
         refine hK.out _ _ ⟨(blk_cell BK246.out 0).trans rfl, (blk_cell BK246.out 1).trans rfl, (blk_cell BK246.out 2).trans rfl, (blk_cell BK247.out 0).trans rfl, (blk_cell BK247.out 1).trans rfl⟩ (fun hHeld => ?_)
         clear hK K
         refine norm_ (a' := ?_) ?_ ?_
         rotate_left
         ·show Act.put _ (some 6) _ = _
          simp only [Act.put, List.setIfInBounds_toArray, List.set_cons_zero, List.set_cons_succ, i64_w, i32_w]
          rfl
         refine one_ (i := 4) (N := some 25) #[true, true, true, true, true, false, false, false, true, false, false] rfl rfl (one_of HT_.out (by kernel_rfl)) (by decide) (fun K hK => ?_)
         refine goes_ Tryd.func28 (by kernel_rfl) rfl #[.agg #[.string t250, .string t251, .int .i64 t252], .agg #[.string t253, .string t254]] (by rfl) rfl rfl ZZ19826e ?_
         with_reducible refine (spec_AppendRecord.calls k t250 t251 t252 t253 t254 t255 t256 t257 t258 _ A21.out).mono ?_
         rintro e w39 ⟨rfl, hb⟩
         refine ⟨_, rfl, ?_⟩
         have n0_ := Aside0.mk (blk_below (g := gb246) (o := .cells #[.string a0_0, .string a0_1, .int .i64 a0_2] 36 (0, 0)) ZZ7d2168 hb)
         have n1_ := Aside0.mk (blk_below (g := gb247) (o := .cells #[.string a1_0, .string a1_1] 23 (0, 0)) ZZ713e70 hb)
         have n2_ := Aside0.mk (blk_below (g := gb259) (o := .cells #[.string (⟨#[]⟩ : ByteArray), .string (⟨#[]⟩ : ByteArray), .int .i64 0] 31 (0, 0)) ZZf9c532 hb)
         have n3_ := Aside0.mk (below_step ZZ1ddea0 hb)
         clear BK246
         clear BK247
         clear BK259
         clear HB
         have BK246 := n0_
         have BK247 := n1_
         have BK259 := n2_
         have HB := n3_
         clear n0_ n1_ n2_ n3_
         (try clear hb)
         (try clear hb2)
         (try clear hk)
         (try clear hi)
         refine hK.out _ _ ⟨(blk_cell BK246.out 0).trans rfl, (blk_cell BK246.out 1).trans rfl, (blk_cell BK246.out 2).trans rfl, (blk_cell BK247.out 0).trans rfl, (blk_cell BK247.out 1).trans rfl⟩ (fun hHeld => ?_)
         clear hK K
         refine norm_ (a' := ?_) ?_ ?_
         rotate_left
         ·show Act.put _ (some 25) _ = _
          simp only [Act.put, List.setIfInBounds_toArray, List.set_cons_zero, List.set_cons_succ, i64_w, i32_w]
          rfl
         refine pu 5 20 ?_
         refine pu 6 26 ?_
         refine pu 7 27 ?_
         exact norm_ ZZ539e1d (hCont (gb259) _ ⟨hHeld, ZZ7d2168, ZZ713e70, ZZf9c532, GW259.out, GE259.out, NB246_259.out, NB259_246.out, NB247_259.out, NB259_247.out, ZZ1ddea0⟩)
       ·skip
        refine box_step ?hg (N := 6) ?hd (cs := #[.string (⟨#[]⟩ : ByteArray), .string (⟨#[]⟩ : ByteArray), .int .i64 0]) (t := 31) ?hr ?_; (case hd => rfl); (case hg => rfl); (case hr => first | (go_simp; done) | (go_simp; rfl))
        intro gb259 hg w37 hbox hb
        have n0_ := Aside0.mk (blk_below (g := gb246) (o := .cells #[.string a0_0, .string a0_1, .int .i64 a0_2] 36 (0, 0)) ZZ7d2168 hb)
        have n1_ := Aside0.mk (blk_below (g := gb247) (o := .cells #[.string a1_0, .string a1_1] 23 (0, 0)) ZZ713e70 hb)
        have n2_ := Aside0.mk (below_step ZZ97a20a hb)
        have n3_ := Aside0.mk (hbox)
        have n4_ := Aside0.mk ((by rw [hg]; exact (below_size ZZ97a20a) : w.heap.size ≤ gb259))
        have n5_ := Aside0.mk ((by rw [hg]; exact (below_size ZZ97a20a) : w.heap.size ≤ gb259))
        have n6_ := Aside0.mk ((by rw [hg]; exact Nat.ne_of_lt (blk_lt (g := gb246) (o := .cells #[.string a0_0, .string a0_1, .int .i64 a0_2] 36 (0, 0)) ZZ7d2168) : gb246 ≠ gb259))
        have n7_ := Aside0.mk ((by rw [hg]; exact Nat.ne_of_gt (blk_lt (g := gb246) (o := .cells #[.string a0_0, .string a0_1, .int .i64 a0_2] 36 (0, 0)) ZZ7d2168) : gb259 ≠ gb246))
        have n8_ := Aside0.mk ((by rw [hg]; exact Nat.ne_of_lt (blk_lt (g := gb247) (o := .cells #[.string a1_0, .string a1_1] 23 (0, 0)) ZZ713e70) : gb247 ≠ gb259))
        have n9_ := Aside0.mk ((by rw [hg]; exact Nat.ne_of_gt (blk_lt (g := gb247) (o := .cells #[.string a1_0, .string a1_1] 23 (0, 0)) ZZ713e70) : gb259 ≠ gb247))
        clear BK246
        clear BK247
        clear HB
        have BK246 := n0_
        have BK247 := n1_
        have HB := n2_
        have BK259 := n3_
        have GW259 := n4_
        have GE259 := n5_
        have NB246_259 := n6_
        have NB259_246 := n7_
        have NB247_259 := n8_
        have NB259_247 := n9_
        clear n0_ n1_ n2_ n3_ n4_ n5_ n6_ n7_ n8_ n9_
        clear hb hbox hg
        refine hK.out _ _ ⟨(blk_cell BK246.out 0).trans rfl, (blk_cell BK246.out 1).trans rfl, (blk_cell BK246.out 2).trans rfl, (blk_cell BK247.out 0).trans rfl, (blk_cell BK247.out 1).trans rfl⟩ (fun hHeld => ?_)
        clear hK K
        refine norm_ (a' := ?_) ?_ ?_
        rotate_left
        ·show Act.put _ (some 6) _ = _
         simp only [Act.put, List.setIfInBounds_toArray, List.set_cons_zero, List.set_cons_succ, i64_w, i32_w]
         rfl
        refine one_ (i := 3) (N := some 24) #[true, true, true, true, false, false, false, false, true, false, false] rfl rfl (one_of HT_.out (by kernel_rfl)) (by decide) (fun K hK => ?_)
        refine goes_ Tryd.func15 (by kernel_rfl) rfl #[.agg #[.string a1_0, .string a1_1]] (by rfl) rfl rfl ZZ19826e ?_
        with_reducible refine (laws_toLogRecord.calls a1_0 a1_1 t253 t254 _ A20.out).mono ?_
        rintro e w38 ⟨rfl, hb⟩
        refine ⟨_, rfl, ?_⟩
        have n0_ := Aside0.mk (blk_below (g := gb246) (o := .cells #[.string a0_0, .string a0_1, .int .i64 a0_2] 36 (0, 0)) ZZ7d2168 hb)
        have n1_ := Aside0.mk (blk_below (g := gb247) (o := .cells #[.string a1_0, .string a1_1] 23 (0, 0)) ZZ713e70 hb)
        have n2_ := Aside0.mk (blk_below (g := gb259) (o := .cells #[.string (⟨#[]⟩ : ByteArray), .string (⟨#[]⟩ : ByteArray), .int .i64 0] 31 (0, 0)) ZZf9c532 hb)
        have n3_ := Aside0.mk (below_step ZZ1ddea0 hb)
        clear BK246
        clear BK247
        clear BK259
        clear HB
        have BK246 := n0_
        have BK247 := n1_
        have BK259 := n2_
        have HB := n3_
        clear n0_ n1_ n2_ n3_
        (try clear hb)
        (try clear hb2)
        (try clear hk)
        (try clear hi)
        refine hK.out _ _ ⟨(blk_cell BK246.out 0).trans rfl, (blk_cell BK246.out 1).trans rfl, (blk_cell BK246.out 2).trans rfl, (blk_cell BK247.out 0).trans rfl, (blk_cell BK247.out 1).trans rfl⟩ (fun hHeld => ?_)
        clear hK K
        refine norm_ (a' := ?_) ?_ ?_
        rotate_left
        ·show Act.put _ (some 24) _ = _
         simp only [Act.put, List.setIfInBounds_toArray, List.set_cons_zero, List.set_cons_succ, i64_w, i32_w]
         rfl
        refine one_ (i := 4) (N := some 25) #[true, true, true, true, true, false, false, false, true, false, false] rfl rfl (one_of HT_.out (by kernel_rfl)) (by decide) (fun K hK => ?_)
        refine goes_ Tryd.func28 (by kernel_rfl) rfl #[.agg #[.string t250, .string t251, .int .i64 t252], .agg #[.string t253, .string t254]] (by rfl) rfl rfl ZZ19826e ?_
        with_reducible refine (spec_AppendRecord.calls k t250 t251 t252 t253 t254 t255 t256 t257 t258 _ A21.out).mono ?_
        rintro e w39 ⟨rfl, hb⟩
        refine ⟨_, rfl, ?_⟩
        have n0_ := Aside0.mk (blk_below (g := gb246) (o := .cells #[.string a0_0, .string a0_1, .int .i64 a0_2] 36 (0, 0)) ZZ7d2168 hb)
        have n1_ := Aside0.mk (blk_below (g := gb247) (o := .cells #[.string a1_0, .string a1_1] 23 (0, 0)) ZZ713e70 hb)
        have n2_ := Aside0.mk (blk_below (g := gb259) (o := .cells #[.string (⟨#[]⟩ : ByteArray), .string (⟨#[]⟩ : ByteArray), .int .i64 0] 31 (0, 0)) ZZf9c532 hb)
        have n3_ := Aside0.mk (below_step ZZ1ddea0 hb)
        clear BK246
        clear BK247
        clear BK259
        clear HB
        have BK246 := n0_
        have BK247 := n1_
        have BK259 := n2_
        have HB := n3_
        clear n0_ n1_ n2_ n3_
        (try clear hb)
        (try clear hb2)
        (try clear hk)
        (try clear hi)
        refine hK.out _ _ ⟨(blk_cell BK246.out 0).trans rfl, (blk_cell BK246.out 1).trans rfl, (blk_cell BK246.out 2).trans rfl, (blk_cell BK247.out 0).trans rfl, (blk_cell BK247.out 1).trans rfl⟩ (fun hHeld => ?_)
        clear hK K
        refine norm_ (a' := ?_) ?_ ?_
        rotate_left
        ·show Act.put _ (some 25) _ = _
         simp only [Act.put, List.setIfInBounds_toArray, List.set_cons_zero, List.set_cons_succ, i64_w, i32_w]
         rfl
        refine pu 5 20 ?_
        refine pu 6 26 ?_
        refine pu 7 27 ?_
        exact norm_ ZZ539e1d (hCont (gb259) _ ⟨hHeld, ZZ7d2168, ZZ713e70, ZZf9c532, GW259.out, GE259.out, NB246_259.out, NB259_246.out, NB247_259.out, NB259_247.out, ZZ1ddea0⟩)
      ·skip
       refine box_step ?hg (N := 6) ?hd (cs := #[.string (⟨#[]⟩ : ByteArray), .string (⟨#[]⟩ : ByteArray), .int .i64 0]) (t := 31) ?hr ?_; (case hd => rfl); (case hg => rfl); (case hr => first | (go_simp; done) | (go_simp; rfl))
       intro gb259 hg w36 hbox hb
       have n0_ := Aside0.mk (blk_below (g := gb246) (o := .cells #[.string a0_0, .string a0_1, .int .i64 a0_2] 36 (0, 0)) ZZ7d2168 hb)
       have n1_ := Aside0.mk (blk_below (g := gb247) (o := .cells #[.string a1_0, .string a1_1] 23 (0, 0)) ZZ713e70 hb)
       have n2_ := Aside0.mk (below_step ZZ97a20a hb)
       have n3_ := Aside0.mk (hbox)
       have n4_ := Aside0.mk ((by rw [hg]; exact (below_size ZZ97a20a) : w.heap.size ≤ gb259))
       have n5_ := Aside0.mk ((by rw [hg]; exact (below_size ZZ97a20a) : w.heap.size ≤ gb259))
       have n6_ := Aside0.mk ((by rw [hg]; exact Nat.ne_of_lt (blk_lt (g := gb246) (o := .cells #[.string a0_0, .string a0_1, .int .i64 a0_2] 36 (0, 0)) ZZ7d2168) : gb246 ≠ gb259))
       have n7_ := Aside0.mk ((by rw [hg]; exact Nat.ne_of_gt (blk_lt (g := gb246) (o := .cells #[.string a0_0, .string a0_1, .int .i64 a0_2] 36 (0, 0)) ZZ7d2168) : gb259 ≠ gb246))
       have n8_ := Aside0.mk ((by rw [hg]; exact Nat.ne_of_lt (blk_lt (g := gb247) (o := .cells #[.string a1_0, .string a1_1] 23 (0, 0)) ZZ713e70) : gb247 ≠ gb259))
       have n9_ := Aside0.mk ((by rw [hg]; exact Nat.ne_of_gt (blk_lt (g := gb247) (o := .cells #[.string a1_0, .string a1_1] 23 (0, 0)) ZZ713e70) : gb259 ≠ gb247))
       clear BK246
       clear BK247
       clear HB
       have BK246 := n0_
       have BK247 := n1_
       have HB := n2_
       have BK259 := n3_
       have GW259 := n4_
       have GE259 := n5_
       have NB246_259 := n6_
       have NB259_246 := n7_
       have NB247_259 := n8_
       have NB259_247 := n9_
       clear n0_ n1_ n2_ n3_ n4_ n5_ n6_ n7_ n8_ n9_
       clear hb hbox hg
       refine hK.out _ _ ⟨(blk_cell BK246.out 0).trans rfl, (blk_cell BK246.out 1).trans rfl, (blk_cell BK246.out 2).trans rfl, (blk_cell BK247.out 0).trans rfl, (blk_cell BK247.out 1).trans rfl⟩ (fun hHeld => ?_)
       clear hK K
       refine norm_ (a' := ?_) ?_ ?_
       rotate_left
       ·show Act.put _ (some 6) _ = _
        simp only [Act.put, List.setIfInBounds_toArray, List.set_cons_zero, List.set_cons_succ, i64_w, i32_w]
        rfl
       refine one_ (i := 1) (N := some 22) #[true, true, true, false, false, false, false, false, true, false, false] rfl rfl (one_of HT_.out (by kernel_rfl)) (by decide) (fun K hK => ?_)
       refine goes_ Tryd.func22 (by kernel_rfl) rfl #[.agg #[.string a0_0, .string a0_1, .int .i64 a0_2]] (by rfl) rfl rfl ZZ19826e ?_
       with_reducible refine (laws_toLog.calls a0_0 a0_1 a0_2 t250 t251 t252 _ A19.out).mono ?_
       rintro e w37 ⟨rfl, hb⟩
       refine ⟨_, rfl, ?_⟩
       have n0_ := Aside0.mk (blk_below (g := gb246) (o := .cells #[.string a0_0, .string a0_1, .int .i64 a0_2] 36 (0, 0)) ZZ7d2168 hb)
       have n1_ := Aside0.mk (blk_below (g := gb247) (o := .cells #[.string a1_0, .string a1_1] 23 (0, 0)) ZZ713e70 hb)
       have n2_ := Aside0.mk (blk_below (g := gb259) (o := .cells #[.string (⟨#[]⟩ : ByteArray), .string (⟨#[]⟩ : ByteArray), .int .i64 0] 31 (0, 0)) ZZf9c532 hb)
       have n3_ := Aside0.mk (below_step ZZ1ddea0 hb)
       clear BK246
       clear BK247
       clear BK259
       clear HB
       have BK246 := n0_
       have BK247 := n1_
       have BK259 := n2_
       have HB := n3_
       clear n0_ n1_ n2_ n3_
       (try clear hb)
       (try clear hb2)
       (try clear hk)
       (try clear hi)
       refine hK.out _ _ ⟨(blk_cell BK246.out 0).trans rfl, (blk_cell BK246.out 1).trans rfl, (blk_cell BK246.out 2).trans rfl, (blk_cell BK247.out 0).trans rfl, (blk_cell BK247.out 1).trans rfl⟩ (fun hHeld => ?_)
       clear hK K
       refine norm_ (a' := ?_) ?_ ?_
       rotate_left
       ·show Act.put _ (some 22) _ = _
        simp only [Act.put, List.setIfInBounds_toArray, List.set_cons_zero, List.set_cons_succ, i64_w, i32_w]
        rfl
       refine one_ (i := 3) (N := some 24) #[true, true, true, true, false, false, false, false, true, false, false] rfl rfl (one_of HT_.out (by kernel_rfl)) (by decide) (fun K hK => ?_)
       refine goes_ Tryd.func15 (by kernel_rfl) rfl #[.agg #[.string a1_0, .string a1_1]] (by rfl) rfl rfl ZZ19826e ?_
       with_reducible refine (laws_toLogRecord.calls a1_0 a1_1 t253 t254 _ A20.out).mono ?_
       rintro e w38 ⟨rfl, hb⟩
       refine ⟨_, rfl, ?_⟩
       have n0_ := Aside0.mk (blk_below (g := gb246) (o := .cells #[.string a0_0, .string a0_1, .int .i64 a0_2] 36 (0, 0)) ZZ7d2168 hb)
       have n1_ := Aside0.mk (blk_below (g := gb247) (o := .cells #[.string a1_0, .string a1_1] 23 (0, 0)) ZZ713e70 hb)
       have n2_ := Aside0.mk (blk_below (g := gb259) (o := .cells #[.string (⟨#[]⟩ : ByteArray), .string (⟨#[]⟩ : ByteArray), .int .i64 0] 31 (0, 0)) ZZf9c532 hb)
       have n3_ := Aside0.mk (below_step ZZ1ddea0 hb)
       clear BK246
       clear BK247
       clear BK259
       clear HB
       have BK246 := n0_
       have BK247 := n1_
       have BK259 := n2_
       have HB := n3_
       clear n0_ n1_ n2_ n3_
       (try clear hb)
       (try clear hb2)
       (try clear hk)
       (try clear hi)
       refine hK.out _ _ ⟨(blk_cell BK246.out 0).trans rfl, (blk_cell BK246.out 1).trans rfl, (blk_cell BK246.out 2).trans rfl, (blk_cell BK247.out 0).trans rfl, (blk_cell BK247.out 1).trans rfl⟩ (fun hHeld => ?_)
       clear hK K
       refine norm_ (a' := ?_) ?_ ?_
       rotate_left
       ·show Act.put _ (some 24) _ = _
        simp only [Act.put, List.setIfInBounds_toArray, List.set_cons_zero, List.set_cons_succ, i64_w, i32_w]
        rfl
       refine one_ (i := 4) (N := some 25) #[true, true, true, true, true, false, false, false, true, false, false] rfl rfl (one_of HT_.out (by kernel_rfl)) (by decide) (fun K hK => ?_)
       refine goes_ Tryd.func28 (by kernel_rfl) rfl #[.agg #[.string t250, .string t251, .int .i64 t252], .agg #[.string t253, .string t254]] (by rfl) rfl rfl ZZ19826e ?_
       with_reducible refine (spec_AppendRecord.calls k t250 t251 t252 t253 t254 t255 t256 t257 t258 _ A21.out).mono ?_
       rintro e w39 ⟨rfl, hb⟩
       refine ⟨_, rfl, ?_⟩
       have n0_ := Aside0.mk (blk_below (g := gb246) (o := .cells #[.string a0_0, .string a0_1, .int .i64 a0_2] 36 (0, 0)) ZZ7d2168 hb)
       have n1_ := Aside0.mk (blk_below (g := gb247) (o := .cells #[.string a1_0, .string a1_1] 23 (0, 0)) ZZ713e70 hb)
       have n2_ := Aside0.mk (blk_below (g := gb259) (o := .cells #[.string (⟨#[]⟩ : ByteArray), .string (⟨#[]⟩ : ByteArray), .int .i64 0] 31 (0, 0)) ZZf9c532 hb)
       have n3_ := Aside0.mk (below_step ZZ1ddea0 hb)
       clear BK246
       clear BK247
       clear BK259
       clear HB
       have BK246 := n0_
       have BK247 := n1_
       have BK259 := n2_
       have HB := n3_
       clear n0_ n1_ n2_ n3_
       (try clear hb)
       (try clear hb2)
       (try clear hk)
       (try clear hi)
       refine hK.out _ _ ⟨(blk_cell BK246.out 0).trans rfl, (blk_cell BK246.out 1).trans rfl, (blk_cell BK246.out 2).trans rfl, (blk_cell BK247.out 0).trans rfl, (blk_cell BK247.out 1).trans rfl⟩ (fun hHeld => ?_)
       clear hK K
       refine norm_ (a' := ?_) ?_ ?_
       rotate_left
       ·show Act.put _ (some 25) _ = _
        simp only [Act.put, List.setIfInBounds_toArray, List.set_cons_zero, List.set_cons_succ, i64_w, i32_w]
        rfl
       refine pu 5 20 ?_
       refine pu 6 26 ?_
       refine pu 7 27 ?_
       exact norm_ ZZ539e1d (hCont (gb259) _ ⟨hHeld, ZZ7d2168, ZZ713e70, ZZf9c532, GW259.out, GE259.out, NB246_259.out, NB259_246.out, NB247_259.out, NB259_247.out, ZZ1ddea0⟩)
     rintro gb259 w40 ⟨hS_, h0_, h1_, h2_, h3_, h4_, h5_, h6_, h7_, h8_, h9_⟩
     have n0_ : Aside0 (w40.heap[gb246]? = some (.cells #[.string a0_0, .string a0_1, .int .i64 a0_2] 36 (0, 0))) := ⟨h0_⟩
     have n1_ : Aside0 (w40.heap[gb247]? = some (.cells #[.string a1_0, .string a1_1] 23 (0, 0))) := ⟨h1_⟩
     have n2_ : Aside0 (w40.heap[gb259]? = some (.cells #[.string (⟨#[]⟩ : ByteArray), .string (⟨#[]⟩ : ByteArray), .int .i64 0] 31 (0, 0))) := ⟨h2_⟩
     have n3_ : Aside0 (w.heap.size ≤ gb259) := ⟨h3_⟩
     have n4_ : Aside0 (w.heap.size ≤ gb259) := ⟨h4_⟩
     have n5_ : Aside0 (gb246 ≠ gb259) := ⟨h5_⟩
     have n6_ : Aside0 (gb259 ≠ gb246) := ⟨h6_⟩
     have n7_ : Aside0 (gb247 ≠ gb259) := ⟨h7_⟩
     have n8_ : Aside0 (gb259 ≠ gb247) := ⟨h8_⟩
     have n9_ : Aside0 (Below w.heap.size w w40) := ⟨h9_⟩
     clear BK246
     clear BK247
     clear HB
     clear h0_ h1_ h2_ h3_ h4_ h5_ h6_ h7_ h8_ h9_
     have BK246 := n0_
     have BK247 := n1_
     have BK259 := n2_
     have GW259 := n3_
     have GE259 := n4_
     have NB246_259 := n5_
     have NB259_246 := n6_
     have NB247_259 := n7_
     have NB259_247 := n8_
     have HB := n9_
     clear n0_ n1_ n2_ n3_ n4_ n5_ n6_ n7_ n8_ n9_
     have hHeld : w40.cell? ⟨gb246, 0, none⟩ = some (.string a0_0) ∧ w40.cell? ⟨gb246, 1, none⟩ = some (.string a0_1) ∧ w40.cell? ⟨gb246, 2, none⟩ = some (.int .i64 a0_2) ∧ w40.cell? ⟨gb247, 0, none⟩ = some (.string a1_0) ∧ w40.cell? ⟨gb247, 1, none⟩ = some (.string a1_1) := hS_
     refine norm_ (a' := ?_) ?_ ?_
     rotate_left
     ·simp only [putAll, Act.put, List.setIfInBounds_toArray, List.set_cons_zero, List.set_cons_succ]
      rfl
     refine one_ (i := 9) (N := none) #[true, true, true, true, true, true, true, true, true, true, false] rfl rfl (one_of HT_.out (by kernel_rfl)) (by decide) (fun K hK => ?_)
     have hs41 : w40.cell? ⟨gb259, 0, none⟩ = some (.string (⟨#[]⟩ : ByteArray)) := (blk_cell BK259.out 0).trans rfl
     have hfs41 := blk_frozen BK259.out 0
     have hns41_0 := NB246_259.out
     have hns41_1 := NB247_259.out
     have hms41_0 := NB259_246.out
     have hms41_1 := NB259_247.out
     have hs42 : w40.cell? ⟨gb259, 1, none⟩ = some (.string (⟨#[]⟩ : ByteArray)) := (blk_cell BK259.out 1).trans rfl
     have hfs42 := blk_frozen BK259.out 1
     have hns42_0 := NB246_259.out
     have hns42_1 := NB247_259.out
     have hms42_0 := NB259_246.out
     have hms42_1 := NB259_247.out
     have hs43 : w40.cell? ⟨gb259, 2, none⟩ = some (.int .i64 0) := (blk_cell BK259.out 2).trans rfl
     have hfs43 := blk_frozen BK259.out 2
     have hns43_0 := NB246_259.out
     have hns43_1 := NB247_259.out
     have hms43_0 := NB259_246.out
     have hms43_1 := NB259_247.out
     refine skip_ (w1 := ?_) (by rfl) rfl ?_ ?_
     rotate_left
     ·go_simp
      rfl
     refine hK.out _ _ ⟨((cell_far (p := ⟨gb259, _, none⟩) NB246_259.out _).trans (((cell_far (p := ⟨gb259, _, none⟩) NB246_259.out _).trans (((cell_far (p := ⟨gb259, _, none⟩) NB246_259.out _).trans (hHeld.1)))))), ((cell_far (p := ⟨gb259, _, none⟩) NB246_259.out _).trans (((cell_far (p := ⟨gb259, _, none⟩) NB246_259.out _).trans (((cell_far (p := ⟨gb259, _, none⟩) NB246_259.out _).trans (hHeld.2.1)))))), ((cell_far (p := ⟨gb259, _, none⟩) NB246_259.out _).trans (((cell_far (p := ⟨gb259, _, none⟩) NB246_259.out _).trans (((cell_far (p := ⟨gb259, _, none⟩) NB246_259.out _).trans (hHeld.2.2.1)))))), ((cell_far (p := ⟨gb259, _, none⟩) NB247_259.out _).trans (((cell_far (p := ⟨gb259, _, none⟩) NB247_259.out _).trans (((cell_far (p := ⟨gb259, _, none⟩) NB247_259.out _).trans (hHeld.2.2.2.1)))))), ((cell_far (p := ⟨gb259, _, none⟩) NB247_259.out _).trans (((cell_far (p := ⟨gb259, _, none⟩) NB247_259.out _).trans (((cell_far (p := ⟨gb259, _, none⟩) NB247_259.out _).trans (hHeld.2.2.2.2))))))⟩ (fun hHeld => ?_)
     clear hK K
     refine pu 10 7 ?_
     refine done_ (done_of HT_.out (by kernel_rfl)) ?_
     try go_wp2
     have n0_ : Aside0 ((((w40.setCell ⟨gb259, 0, none⟩ (.string t255)).setCell ⟨gb259, 1, none⟩ (.string t256)).setCell ⟨gb259, 2, none⟩ (.int .i64 t257)).heap[gb246]? = some (.cells #[.string a0_0, .string a0_1, .int .i64 a0_2] 36 (0, 0))) := ⟨by (with_reducible repeat (first | refine blk_drewN ?_ _ | refine blk_drew ?_ | refine blk_alloc ?_ _)); refine blk_far ?_ NB246_259.out _; (with_reducible repeat (first | refine blk_drewN ?_ _ | refine blk_drew ?_ | refine blk_alloc ?_ _)); refine blk_far ?_ NB246_259.out _; (with_reducible repeat (first | refine blk_drewN ?_ _ | refine blk_drew ?_ | refine blk_alloc ?_ _)); refine blk_far ?_ NB246_259.out _; (with_reducible repeat (first | refine blk_drewN ?_ _ | refine blk_drew ?_ | refine blk_alloc ?_ _)); exact BK246.out⟩
     have n1_ : Aside0 ((((w40.setCell ⟨gb259, 0, none⟩ (.string t255)).setCell ⟨gb259, 1, none⟩ (.string t256)).setCell ⟨gb259, 2, none⟩ (.int .i64 t257)).heap[gb247]? = some (.cells #[.string a1_0, .string a1_1] 23 (0, 0))) := ⟨by (with_reducible repeat (first | refine blk_drewN ?_ _ | refine blk_drew ?_ | refine blk_alloc ?_ _)); refine blk_far ?_ NB247_259.out _; (with_reducible repeat (first | refine blk_drewN ?_ _ | refine blk_drew ?_ | refine blk_alloc ?_ _)); refine blk_far ?_ NB247_259.out _; (with_reducible repeat (first | refine blk_drewN ?_ _ | refine blk_drew ?_ | refine blk_alloc ?_ _)); refine blk_far ?_ NB247_259.out _; (with_reducible repeat (first | refine blk_drewN ?_ _ | refine blk_drew ?_ | refine blk_alloc ?_ _)); exact BK247.out⟩
     have n2_ : Aside0 ((((w40.setCell ⟨gb259, 0, none⟩ (.string t255)).setCell ⟨gb259, 1, none⟩ (.string t256)).setCell ⟨gb259, 2, none⟩ (.int .i64 t257)).heap[gb259]? = some (.cells #[.string t255, .string t256, .int .i64 t257] 31 (0, 0))) := ⟨by (with_reducible repeat (first | refine blk_drewN ?_ _ | refine blk_drew ?_ | refine blk_alloc ?_ _)); refine blk_put (cs := #[.string t255, .string t256, .int .i64 0]) ?_ 2 _ rfl; (with_reducible repeat (first | refine blk_drewN ?_ _ | refine blk_drew ?_ | refine blk_alloc ?_ _)); refine blk_put (cs := #[.string t255, .string (⟨#[]⟩ : ByteArray), .int .i64 0]) ?_ 1 _ rfl; (with_reducible repeat (first | refine blk_drewN ?_ _ | refine blk_drew ?_ | refine blk_alloc ?_ _)); refine blk_put (cs := #[.string (⟨#[]⟩ : ByteArray), .string (⟨#[]⟩ : ByteArray), .int .i64 0]) ?_ 0 _ rfl; (with_reducible repeat (first | refine blk_drewN ?_ _ | refine blk_drew ?_ | refine blk_alloc ?_ _)); exact BK259.out⟩
     have n3_ : Aside0 (Below w.heap.size w (((w40.setCell ⟨gb259, 0, none⟩ (.string t255)).setCell ⟨gb259, 1, none⟩ (.string t256)).setCell ⟨gb259, 2, none⟩ (.int .i64 t257))) := ⟨by repeat (first | (with_reducible first | exact HB.out | apply below_alloc | apply pw_below_drewN | apply below_drew1 | refine below_set ?_ GE246.out | refine below_set ?_ GE247.out | refine below_set ?_ GE259.out) | exact HB.out)⟩
     (try clear BK246)
     (try clear BK247)
     (try clear BK259)
     (try clear HB)
     generalize (((w40.setCell ⟨gb259, 0, none⟩ (.string t255)).setCell ⟨gb259, 1, none⟩ (.string t256)).setCell ⟨gb259, 2, none⟩ (.int .i64 t257)) = w44 at n0_ n1_ n2_ n3_ ⊢
     have BK246 := n0_
     have BK247 := n1_
     have BK259 := n2_
     have HB := n3_
     clear n0_ n1_ n2_ n3_
     have n0_ := Aside0.mk (blk_drew BK246.out)
     have n1_ := Aside0.mk (blk_drew BK247.out)
     have n2_ := Aside0.mk (blk_drew BK259.out)
     have n3_ := Aside0.mk (below_drew1 HB.out)
     clear BK246
     clear BK247
     clear BK259
     clear HB
     have BK246 := n0_
     have BK247 := n1_
     have BK259 := n2_
     have HB := n3_
     clear n0_ n1_ n2_ n3_
     refine start_ (n := 11) (S := fun w' => w'.cell? ⟨gb246, 0, none⟩ = some (.string a0_0) ∧ w'.cell? ⟨gb246, 1, none⟩ = some (.string a0_1) ∧ w'.cell? ⟨gb246, 2, none⟩ = some (.int .i64 a0_2) ∧ w'.cell? ⟨gb247, 0, none⟩ = some (.string a1_0) ∧ w'.cell? ⟨gb247, 1, none⟩ = some (.string a1_1)) (ds := []) #[false, false, false, false, false, false, false, false, false, false, false] (by kernel_rfl) rfl rfl ⟨(blk_cell BK246.out 0).trans rfl, (blk_cell BK246.out 1).trans rfl, (blk_cell BK246.out 2).trans rfl, (blk_cell BK247.out 0).trans rfl, (blk_cell BK247.out 1).trans rfl⟩ (fun hHeld => ?_); refine with_tabW laws_FnExactAppendRecord.tab9 laws_FnExactAppendRecord.bits9 (fun HT_ HW_ => ?_)
     generalize w44.drew = w45 at BK246 BK247 BK259 HB hHeld ⊢
     refine tk 0 29 ?_
     refine tk 2 31 ?_
     refine join_ (σ := Nat) 2 #[true, true, true, true, true, true, true, true, true, false, false] (fun s_ => [(30, .agg #[.string t260, .string t261, .int .i64 t262]), (32, .agg #[.string t263, .string t264]), (33, .tuple #[.agg #[.string t265, .string t266, .int .i64 t267], .int .i64 t268]), (8, .pointer (some ⟨s_, 0, none⟩)), (28, .tuple #[.agg #[.string t265, .string t266, .int .i64 t267], .int .i64 t268]), (34, .agg #[.string t265, .string t266, .int .i64 t267]), (35, .int .i64 t268)]) (fun s_ w' => (w'.cell? ⟨gb246, 0, none⟩ = some (.string a0_0) ∧ w'.cell? ⟨gb246, 1, none⟩ = some (.string a0_1) ∧ w'.cell? ⟨gb246, 2, none⟩ = some (.int .i64 a0_2) ∧ w'.cell? ⟨gb247, 0, none⟩ = some (.string a1_0) ∧ w'.cell? ⟨gb247, 1, none⟩ = some (.string a1_1)) ∧ (w'.heap[gb246]? = some (.cells #[.string a0_0, .string a0_1, .int .i64 a0_2] 36 (0, 0))) ∧ (w'.heap[gb247]? = some (.cells #[.string a1_0, .string a1_1] 23 (0, 0))) ∧ (w'.heap[gb259]? = some (.cells #[.string t255, .string t256, .int .i64 t257] 31 (0, 0))) ∧ (w'.heap[s_]? = some (.cells #[.string (⟨#[]⟩ : ByteArray), .string (⟨#[]⟩ : ByteArray), .int .i64 0] 31 (0, 0))) ∧ (w.heap.size ≤ s_) ∧ (w.heap.size ≤ s_) ∧ (gb246 ≠ s_) ∧ (s_ ≠ gb246) ∧ (gb247 ≠ s_) ∧ (s_ ≠ gb247) ∧ (gb259 ≠ s_) ∧ (s_ ≠ gb259) ∧ (Below w.heap.size w w')) ?_ ?_
     rotate_left
     ·intro hCont
      refine two_ (i := 1) (j := 8) (Ni := some 30) (Nj := some 8) #[true, true, true, false, false, false, false, false, false, false, false] #[true, false, true, false, false, false, false, false, true, false, false] rfl rfl rfl rfl (two_of HT_.out (by kernel_rfl)) (by decide) (by decide) (fun K hK => ?_) (fun K hK => ?_)
      ·skip
       refine goes_ Tryd.func22 (by kernel_rfl) rfl #[.agg #[.string a0_0, .string a0_1, .int .i64 a0_2]] (by rfl) rfl rfl ZZ19826e ?_
       with_reducible refine (laws_toLog.calls a0_0 a0_1 a0_2 t260 t261 t262 _ A22.out).mono ?_
       rintro e w46 ⟨rfl, hb⟩
       refine ⟨_, rfl, ?_⟩
       have n0_ := Aside0.mk (blk_below (g := gb246) (o := .cells #[.string a0_0, .string a0_1, .int .i64 a0_2] 36 (0, 0)) ZZ7d2168 hb)
       have n1_ := Aside0.mk (blk_below (g := gb247) (o := .cells #[.string a1_0, .string a1_1] 23 (0, 0)) ZZ713e70 hb)
       have n2_ := Aside0.mk (blk_below (g := gb259) (o := .cells #[.string t255, .string t256, .int .i64 t257] 31 (0, 0)) ZZf9c532 hb)
       have n3_ := Aside0.mk (below_step ZZ1ddea0 hb)
       clear BK246
       clear BK247
       clear BK259
       clear HB
       have BK246 := n0_
       have BK247 := n1_
       have BK259 := n2_
       have HB := n3_
       clear n0_ n1_ n2_ n3_
       (try clear hb)
       (try clear hb2)
       (try clear hk)
       (try clear hi)
       refine hK.out _ _ ⟨(blk_cell BK246.out 0).trans rfl, (blk_cell BK246.out 1).trans rfl, (blk_cell BK246.out 2).trans rfl, (blk_cell BK247.out 0).trans rfl, (blk_cell BK247.out 1).trans rfl⟩ (fun hHeld => ?_)
       clear hK K
       refine norm_ (a' := ?_) ?_ ?_
       rotate_left
       ·show Act.put _ (some 30) _ = _
        simp only [Act.put, List.setIfInBounds_toArray, List.set_cons_zero, List.set_cons_succ, i64_w, i32_w]
        rfl
       refine two_ (i := 3) (j := 8) (Ni := some 32) (Nj := some 8) #[true, true, true, true, false, false, false, false, false, false, false] #[true, true, true, false, false, false, false, false, true, false, false] rfl rfl rfl rfl (two_of HT_.out (by kernel_rfl)) (by decide) (by decide) (fun K hK => ?_) (fun K hK => ?_)
       ·skip
        refine goes_ Tryd.func15 (by kernel_rfl) rfl #[.agg #[.string a1_0, .string a1_1]] (by rfl) rfl rfl ZZ19826e ?_
        with_reducible refine (laws_toLogRecord.calls a1_0 a1_1 t263 t264 _ A23.out).mono ?_
        rintro e w47 ⟨rfl, hb⟩
        refine ⟨_, rfl, ?_⟩
        have n0_ := Aside0.mk (blk_below (g := gb246) (o := .cells #[.string a0_0, .string a0_1, .int .i64 a0_2] 36 (0, 0)) ZZ7d2168 hb)
        have n1_ := Aside0.mk (blk_below (g := gb247) (o := .cells #[.string a1_0, .string a1_1] 23 (0, 0)) ZZ713e70 hb)
        have n2_ := Aside0.mk (blk_below (g := gb259) (o := .cells #[.string t255, .string t256, .int .i64 t257] 31 (0, 0)) ZZf9c532 hb)
        have n3_ := Aside0.mk (below_step ZZ1ddea0 hb)
        clear BK246
        clear BK247
        clear BK259
        clear HB
        have BK246 := n0_
        have BK247 := n1_
        have BK259 := n2_
        have HB := n3_
        clear n0_ n1_ n2_ n3_
        (try clear hb)
        (try clear hb2)
        (try clear hk)
        (try clear hi)
        refine hK.out _ _ ⟨(blk_cell BK246.out 0).trans rfl, (blk_cell BK246.out 1).trans rfl, (blk_cell BK246.out 2).trans rfl, (blk_cell BK247.out 0).trans rfl, (blk_cell BK247.out 1).trans rfl⟩ (fun hHeld => ?_)
        clear hK K
        refine norm_ (a' := ?_) ?_ ?_
        rotate_left
        ·show Act.put _ (some 32) _ = _
         simp only [Act.put, List.setIfInBounds_toArray, List.set_cons_zero, List.set_cons_succ, i64_w, i32_w]
         rfl
        refine two_ (i := 4) (j := 8) (Ni := some 33) (Nj := some 8) #[true, true, true, true, true, false, false, false, false, false, false] #[true, true, true, true, false, false, false, false, true, false, false] rfl rfl rfl rfl (two_of HT_.out (by kernel_rfl)) (by decide) (by decide) (fun K hK => ?_) (fun K hK => ?_)
        ·skip
         refine goes_ Tryd.func29 (by kernel_rfl) rfl #[.agg #[.string t260, .string t261, .int .i64 t262], .agg #[.string t263, .string t264]] (by rfl) rfl rfl ZZ19826e ?_
         with_reducible refine (impl_AppendRecord.calls k t260 t261 t262 t263 t264 t265 t266 t267 t268 _ ?side1 A24.out).mono ?_
         (case side1 => first | exact HV.out | exact TInv.below HV.out ZZ1ddea0)
         rintro e w48 ⟨rfl, hb⟩
         refine ⟨_, rfl, ?_⟩
         have n0_ := Aside0.mk (blk_below (g := gb246) (o := .cells #[.string a0_0, .string a0_1, .int .i64 a0_2] 36 (0, 0)) ZZ7d2168 hb)
         have n1_ := Aside0.mk (blk_below (g := gb247) (o := .cells #[.string a1_0, .string a1_1] 23 (0, 0)) ZZ713e70 hb)
         have n2_ := Aside0.mk (blk_below (g := gb259) (o := .cells #[.string t255, .string t256, .int .i64 t257] 31 (0, 0)) ZZf9c532 hb)
         have n3_ := Aside0.mk (below_step ZZ1ddea0 hb)
         clear BK246
         clear BK247
         clear BK259
         clear HB
         have BK246 := n0_
         have BK247 := n1_
         have BK259 := n2_
         have HB := n3_
         clear n0_ n1_ n2_ n3_
         (try clear hb)
         (try clear hb2)
         (try clear hk)
         (try clear hi)
         refine hK.out _ _ ⟨(blk_cell BK246.out 0).trans rfl, (blk_cell BK246.out 1).trans rfl, (blk_cell BK246.out 2).trans rfl, (blk_cell BK247.out 0).trans rfl, (blk_cell BK247.out 1).trans rfl⟩ (fun hHeld => ?_)
         clear hK K
         refine norm_ (a' := ?_) ?_ ?_
         rotate_left
         ·show Act.put _ (some 33) _ = _
          simp only [Act.put, List.setIfInBounds_toArray, List.set_cons_zero, List.set_cons_succ, i64_w, i32_w]
          rfl
         refine pu 5 28 ?_
         refine pu 6 34 ?_
         refine pu 7 35 ?_
         refine one_ (i := 8) (N := some 8) #[true, true, true, true, true, true, true, true, true, false, false] rfl rfl (one_of HT_.out (by kernel_rfl)) (by decide) (fun K hK => ?_)
         refine box_step ?hg (N := 8) ?hd (cs := #[.string (⟨#[]⟩ : ByteArray), .string (⟨#[]⟩ : ByteArray), .int .i64 0]) (t := 31) ?hr ?_; (case hd => rfl); (case hg => rfl); (case hr => first | (go_simp; done) | (go_simp; rfl))
         intro gb269 hg w49 hbox hb
         have n0_ := Aside0.mk (blk_below (g := gb246) (o := .cells #[.string a0_0, .string a0_1, .int .i64 a0_2] 36 (0, 0)) ZZ7d2168 hb)
         have n1_ := Aside0.mk (blk_below (g := gb247) (o := .cells #[.string a1_0, .string a1_1] 23 (0, 0)) ZZ713e70 hb)
         have n2_ := Aside0.mk (blk_below (g := gb259) (o := .cells #[.string t255, .string t256, .int .i64 t257] 31 (0, 0)) ZZf9c532 hb)
         have n3_ := Aside0.mk (below_step ZZ1ddea0 hb)
         have n4_ := Aside0.mk (hbox)
         have n5_ := Aside0.mk ((by rw [hg]; exact (below_size ZZ1ddea0) : w.heap.size ≤ gb269))
         have n6_ := Aside0.mk ((by rw [hg]; exact (below_size ZZ1ddea0) : w.heap.size ≤ gb269))
         have n7_ := Aside0.mk ((by rw [hg]; exact Nat.ne_of_lt (blk_lt (g := gb246) (o := .cells #[.string a0_0, .string a0_1, .int .i64 a0_2] 36 (0, 0)) ZZ7d2168) : gb246 ≠ gb269))
         have n8_ := Aside0.mk ((by rw [hg]; exact Nat.ne_of_gt (blk_lt (g := gb246) (o := .cells #[.string a0_0, .string a0_1, .int .i64 a0_2] 36 (0, 0)) ZZ7d2168) : gb269 ≠ gb246))
         have n9_ := Aside0.mk ((by rw [hg]; exact Nat.ne_of_lt (blk_lt (g := gb247) (o := .cells #[.string a1_0, .string a1_1] 23 (0, 0)) ZZ713e70) : gb247 ≠ gb269))
         have n10_ := Aside0.mk ((by rw [hg]; exact Nat.ne_of_gt (blk_lt (g := gb247) (o := .cells #[.string a1_0, .string a1_1] 23 (0, 0)) ZZ713e70) : gb269 ≠ gb247))
         have n11_ := Aside0.mk ((by rw [hg]; exact Nat.ne_of_lt (blk_lt (g := gb259) (o := .cells #[.string t255, .string t256, .int .i64 t257] 31 (0, 0)) ZZf9c532) : gb259 ≠ gb269))
         have n12_ := Aside0.mk ((by rw [hg]; exact Nat.ne_of_gt (blk_lt (g := gb259) (o := .cells #[.string t255, .string t256, .int .i64 t257] 31 (0, 0)) ZZf9c532) : gb269 ≠ gb259))
         clear BK246
         clear BK247
         clear BK259
         clear HB
         have BK246 := n0_
         have BK247 := n1_
         have BK259 := n2_
         have HB := n3_
         have BK269 := n4_
         have GW269 := n5_
         have GE269 := n6_
         have NB246_269 := n7_
         have NB269_246 := n8_
         have NB247_269 := n9_
         have NB269_247 := n10_
         have NB259_269 := n11_
         have NB269_259 := n12_
         clear n0_ n1_ n2_ n3_ n4_ n5_ n6_ n7_ n8_ n9_ n10_ n11_ n12_
         clear hb hbox hg
         refine hK.out _ _ ⟨(blk_cell BK246.out 0).trans rfl, (blk_cell BK246.out 1).trans rfl, (blk_cell BK246.out 2).trans rfl, (blk_cell BK247.out 0).trans rfl, (blk_cell BK247.out 1).trans rfl⟩ (fun hHeld => ?_)
         clear hK K
         refine norm_ (a' := ?_) ?_ ?_
         rotate_left
         ·show Act.put _ (some 8) _ = _
          simp only [Act.put, List.setIfInBounds_toArray, List.set_cons_zero, List.set_cons_succ, i64_w, i32_w]
          rfl
         exact norm_ ZZ539e1d (hCont (gb269) _ ⟨hHeld, ZZ7d2168, ZZ713e70, ZZf9c532, ZZd45ccb, GW269.out, GE269.out, NB246_269.out, NB269_246.out, NB247_269.out, NB269_247.out, NB259_269.out, NB269_259.out, ZZbd9ab3⟩)
        ·skip
         refine box_step ?hg (N := 8) ?hd (cs := #[.string (⟨#[]⟩ : ByteArray), .string (⟨#[]⟩ : ByteArray), .int .i64 0]) (t := 31) ?hr ?_; (case hd => rfl); (case hg => rfl); (case hr => first | (go_simp; done) | (go_simp; rfl))
         intro gb269 hg w48 hbox hb
         have n0_ := Aside0.mk (blk_below (g := gb246) (o := .cells #[.string a0_0, .string a0_1, .int .i64 a0_2] 36 (0, 0)) ZZ7d2168 hb)
         have n1_ := Aside0.mk (blk_below (g := gb247) (o := .cells #[.string a1_0, .string a1_1] 23 (0, 0)) ZZ713e70 hb)
         have n2_ := Aside0.mk (blk_below (g := gb259) (o := .cells #[.string t255, .string t256, .int .i64 t257] 31 (0, 0)) ZZf9c532 hb)
         have n3_ := Aside0.mk (below_step ZZ1ddea0 hb)
         have n4_ := Aside0.mk (hbox)
         have n5_ := Aside0.mk ((by rw [hg]; exact (below_size ZZ1ddea0) : w.heap.size ≤ gb269))
         have n6_ := Aside0.mk ((by rw [hg]; exact (below_size ZZ1ddea0) : w.heap.size ≤ gb269))
         have n7_ := Aside0.mk ((by rw [hg]; exact Nat.ne_of_lt (blk_lt (g := gb246) (o := .cells #[.string a0_0, .string a0_1, .int .i64 a0_2] 36 (0, 0)) ZZ7d2168) : gb246 ≠ gb269))
         have n8_ := Aside0.mk ((by rw [hg]; exact Nat.ne_of_gt (blk_lt (g := gb246) (o := .cells #[.string a0_0, .string a0_1, .int .i64 a0_2] 36 (0, 0)) ZZ7d2168) : gb269 ≠ gb246))
         have n9_ := Aside0.mk ((by rw [hg]; exact Nat.ne_of_lt (blk_lt (g := gb247) (o := .cells #[.string a1_0, .string a1_1] 23 (0, 0)) ZZ713e70) : gb247 ≠ gb269))
         have n10_ := Aside0.mk ((by rw [hg]; exact Nat.ne_of_gt (blk_lt (g := gb247) (o := .cells #[.string a1_0, .string a1_1] 23 (0, 0)) ZZ713e70) : gb269 ≠ gb247))
         have n11_ := Aside0.mk ((by rw [hg]; exact Nat.ne_of_lt (blk_lt (g := gb259) (o := .cells #[.string t255, .string t256, .int .i64 t257] 31 (0, 0)) ZZf9c532) : gb259 ≠ gb269))
         have n12_ := Aside0.mk ((by rw [hg]; exact Nat.ne_of_gt (blk_lt (g := gb259) (o := .cells #[.string t255, .string t256, .int .i64 t257] 31 (0, 0)) ZZf9c532) : gb269 ≠ gb259))
         clear BK246
         clear BK247
         clear BK259
         clear HB
         have BK246 := n0_
         have BK247 := n1_
         have BK259 := n2_
         have HB := n3_
         have BK269 := n4_
         have GW269 := n5_
         have GE269 := n6_
         have NB246_269 := n7_
         have NB269_246 := n8_
         have NB247_269 := n9_
         have NB269_247 := n10_
         have NB259_269 := n11_
         have NB269_259 := n12_
         clear n0_ n1_ n2_ n3_ n4_ n5_ n6_ n7_ n8_ n9_ n10_ n11_ n12_
         clear hb hbox hg
         refine hK.out _ _ ⟨(blk_cell BK246.out 0).trans rfl, (blk_cell BK246.out 1).trans rfl, (blk_cell BK246.out 2).trans rfl, (blk_cell BK247.out 0).trans rfl, (blk_cell BK247.out 1).trans rfl⟩ (fun hHeld => ?_)
         clear hK K
         refine norm_ (a' := ?_) ?_ ?_
         rotate_left
         ·show Act.put _ (some 8) _ = _
          simp only [Act.put, List.setIfInBounds_toArray, List.set_cons_zero, List.set_cons_succ, i64_w, i32_w]
          rfl
         refine one_ (i := 4) (N := some 33) #[true, true, true, true, true, false, false, false, true, false, false] rfl rfl (one_of HT_.out (by kernel_rfl)) (by decide) (fun K hK => ?_)
         refine goes_ Tryd.func29 (by kernel_rfl) rfl #[.agg #[.string t260, .string t261, .int .i64 t262], .agg #[.string t263, .string t264]] (by rfl) rfl rfl ZZ19826e ?_
         with_reducible refine (impl_AppendRecord.calls k t260 t261 t262 t263 t264 t265 t266 t267 t268 _ ?side1 A24.out).mono ?_
         (case side1 => first | exact HV.out | exact TInv.below HV.out ZZbd9ab3)
         rintro e w49 ⟨rfl, hb⟩
         refine ⟨_, rfl, ?_⟩
         have n0_ := Aside0.mk (blk_below (g := gb246) (o := .cells #[.string a0_0, .string a0_1, .int .i64 a0_2] 36 (0, 0)) ZZ7d2168 hb)
         have n1_ := Aside0.mk (blk_below (g := gb247) (o := .cells #[.string a1_0, .string a1_1] 23 (0, 0)) ZZ713e70 hb)
         have n2_ := Aside0.mk (blk_below (g := gb259) (o := .cells #[.string t255, .string t256, .int .i64 t257] 31 (0, 0)) ZZf9c532 hb)
         have n3_ := Aside0.mk (blk_below (g := gb269) (o := .cells #[.string (⟨#[]⟩ : ByteArray), .string (⟨#[]⟩ : ByteArray), .int .i64 0] 31 (0, 0)) ZZd45ccb hb)
         have n4_ := Aside0.mk (below_step ZZbd9ab3 hb)
         clear BK246
         clear BK247
         clear BK259
         clear BK269
         clear HB
         have BK246 := n0_
         have BK247 := n1_
         have BK259 := n2_
         have BK269 := n3_
         have HB := n4_
         clear n0_ n1_ n2_ n3_ n4_
         (try clear hb)
         (try clear hb2)
         (try clear hk)
         (try clear hi)
         refine hK.out _ _ ⟨(blk_cell BK246.out 0).trans rfl, (blk_cell BK246.out 1).trans rfl, (blk_cell BK246.out 2).trans rfl, (blk_cell BK247.out 0).trans rfl, (blk_cell BK247.out 1).trans rfl⟩ (fun hHeld => ?_)
         clear hK K
         refine norm_ (a' := ?_) ?_ ?_
         rotate_left
         ·show Act.put _ (some 33) _ = _
          simp only [Act.put, List.setIfInBounds_toArray, List.set_cons_zero, List.set_cons_succ, i64_w, i32_w]
          rfl
         refine pu 5 28 ?_
         refine pu 6 34 ?_
         refine pu 7 35 ?_
         exact norm_ ZZ539e1d (hCont (gb269) _ ⟨hHeld, ZZ7d2168, ZZ713e70, ZZf9c532, ZZd45ccb, GW269.out, GE269.out, NB246_269.out, NB269_246.out, NB247_269.out, NB269_247.out, NB259_269.out, NB269_259.out, ZZbd9ab3⟩)
       ·skip
        refine box_step ?hg (N := 8) ?hd (cs := #[.string (⟨#[]⟩ : ByteArray), .string (⟨#[]⟩ : ByteArray), .int .i64 0]) (t := 31) ?hr ?_; (case hd => rfl); (case hg => rfl); (case hr => first | (go_simp; done) | (go_simp; rfl))
        intro gb269 hg w47 hbox hb
        have n0_ := Aside0.mk (blk_below (g := gb246) (o := .cells #[.string a0_0, .string a0_1, .int .i64 a0_2] 36 (0, 0)) ZZ7d2168 hb)
        have n1_ := Aside0.mk (blk_below (g := gb247) (o := .cells #[.string a1_0, .string a1_1] 23 (0, 0)) ZZ713e70 hb)
        have n2_ := Aside0.mk (blk_below (g := gb259) (o := .cells #[.string t255, .string t256, .int .i64 t257] 31 (0, 0)) ZZf9c532 hb)
        have n3_ := Aside0.mk (below_step ZZ1ddea0 hb)
        have n4_ := Aside0.mk (hbox)
        have n5_ := Aside0.mk ((by rw [hg]; exact (below_size ZZ1ddea0) : w.heap.size ≤ gb269))
        have n6_ := Aside0.mk ((by rw [hg]; exact (below_size ZZ1ddea0) : w.heap.size ≤ gb269))
        have n7_ := Aside0.mk ((by rw [hg]; exact Nat.ne_of_lt (blk_lt (g := gb246) (o := .cells #[.string a0_0, .string a0_1, .int .i64 a0_2] 36 (0, 0)) ZZ7d2168) : gb246 ≠ gb269))
        have n8_ := Aside0.mk ((by rw [hg]; exact Nat.ne_of_gt (blk_lt (g := gb246) (o := .cells #[.string a0_0, .string a0_1, .int .i64 a0_2] 36 (0, 0)) ZZ7d2168) : gb269 ≠ gb246))
        have n9_ := Aside0.mk ((by rw [hg]; exact Nat.ne_of_lt (blk_lt (g := gb247) (o := .cells #[.string a1_0, .string a1_1] 23 (0, 0)) ZZ713e70) : gb247 ≠ gb269))
        have n10_ := Aside0.mk ((by rw [hg]; exact Nat.ne_of_gt (blk_lt (g := gb247) (o := .cells #[.string a1_0, .string a1_1] 23 (0, 0)) ZZ713e70) : gb269 ≠ gb247))
        have n11_ := Aside0.mk ((by rw [hg]; exact Nat.ne_of_lt (blk_lt (g := gb259) (o := .cells #[.string t255, .string t256, .int .i64 t257] 31 (0, 0)) ZZf9c532) : gb259 ≠ gb269))
        have n12_ := Aside0.mk ((by rw [hg]; exact Nat.ne_of_gt (blk_lt (g := gb259) (o := .cells #[.string t255, .string t256, .int .i64 t257] 31 (0, 0)) ZZf9c532) : gb269 ≠ gb259))
        clear BK246
        clear BK247
        clear BK259
        clear HB
        have BK246 := n0_
        have BK247 := n1_
        have BK259 := n2_
        have HB := n3_
        have BK269 := n4_
        have GW269 := n5_
        have GE269 := n6_
        have NB246_269 := n7_
        have NB269_246 := n8_
        have NB247_269 := n9_
        have NB269_247 := n10_
        have NB259_269 := n11_
        have NB269_259 := n12_
        clear n0_ n1_ n2_ n3_ n4_ n5_ n6_ n7_ n8_ n9_ n10_ n11_ n12_
        clear hb hbox hg
        refine hK.out _ _ ⟨(blk_cell BK246.out 0).trans rfl, (blk_cell BK246.out 1).trans rfl, (blk_cell BK246.out 2).trans rfl, (blk_cell BK247.out 0).trans rfl, (blk_cell BK247.out 1).trans rfl⟩ (fun hHeld => ?_)
        clear hK K
        refine norm_ (a' := ?_) ?_ ?_
        rotate_left
        ·show Act.put _ (some 8) _ = _
         simp only [Act.put, List.setIfInBounds_toArray, List.set_cons_zero, List.set_cons_succ, i64_w, i32_w]
         rfl
        refine one_ (i := 3) (N := some 32) #[true, true, true, true, false, false, false, false, true, false, false] rfl rfl (one_of HT_.out (by kernel_rfl)) (by decide) (fun K hK => ?_)
        refine goes_ Tryd.func15 (by kernel_rfl) rfl #[.agg #[.string a1_0, .string a1_1]] (by rfl) rfl rfl ZZ19826e ?_
        with_reducible refine (laws_toLogRecord.calls a1_0 a1_1 t263 t264 _ A23.out).mono ?_
        rintro e w48 ⟨rfl, hb⟩
        refine ⟨_, rfl, ?_⟩
        have n0_ := Aside0.mk (blk_below (g := gb246) (o := .cells #[.string a0_0, .string a0_1, .int .i64 a0_2] 36 (0, 0)) ZZ7d2168 hb)
        have n1_ := Aside0.mk (blk_below (g := gb247) (o := .cells #[.string a1_0, .string a1_1] 23 (0, 0)) ZZ713e70 hb)
        have n2_ := Aside0.mk (blk_below (g := gb259) (o := .cells #[.string t255, .string t256, .int .i64 t257] 31 (0, 0)) ZZf9c532 hb)
        have n3_ := Aside0.mk (blk_below (g := gb269) (o := .cells #[.string (⟨#[]⟩ : ByteArray), .string (⟨#[]⟩ : ByteArray), .int .i64 0] 31 (0, 0)) ZZd45ccb hb)
        have n4_ := Aside0.mk (below_step ZZbd9ab3 hb)
        clear BK246
        clear BK247
        clear BK259
        clear BK269
        clear HB
        have BK246 := n0_
        have BK247 := n1_
        have BK259 := n2_
        have BK269 := n3_
        have HB := n4_
        clear n0_ n1_ n2_ n3_ n4_
        (try clear hb)
        (try clear hb2)
        (try clear hk)
        (try clear hi)
        refine hK.out _ _ ⟨(blk_cell BK246.out 0).trans rfl, (blk_cell BK246.out 1).trans rfl, (blk_cell BK246.out 2).trans rfl, (blk_cell BK247.out 0).trans rfl, (blk_cell BK247.out 1).trans rfl⟩ (fun hHeld => ?_)
        clear hK K
        refine norm_ (a' := ?_) ?_ ?_
        rotate_left
        ·show Act.put _ (some 32) _ = _
         simp only [Act.put, List.setIfInBounds_toArray, List.set_cons_zero, List.set_cons_succ, i64_w, i32_w]
         rfl
        refine one_ (i := 4) (N := some 33) #[true, true, true, true, true, false, false, false, true, false, false] rfl rfl (one_of HT_.out (by kernel_rfl)) (by decide) (fun K hK => ?_)
        refine goes_ Tryd.func29 (by kernel_rfl) rfl #[.agg #[.string t260, .string t261, .int .i64 t262], .agg #[.string t263, .string t264]] (by rfl) rfl rfl ZZ19826e ?_
        with_reducible refine (impl_AppendRecord.calls k t260 t261 t262 t263 t264 t265 t266 t267 t268 _ ?side1 A24.out).mono ?_
        (case side1 => first | exact HV.out | exact TInv.below HV.out ZZbd9ab3)
        rintro e w49 ⟨rfl, hb⟩
        refine ⟨_, rfl, ?_⟩
        have n0_ := Aside0.mk (blk_below (g := gb246) (o := .cells #[.string a0_0, .string a0_1, .int .i64 a0_2] 36 (0, 0)) ZZ7d2168 hb)
        have n1_ := Aside0.mk (blk_below (g := gb247) (o := .cells #[.string a1_0, .string a1_1] 23 (0, 0)) ZZ713e70 hb)
        have n2_ := Aside0.mk (blk_below (g := gb259) (o := .cells #[.string t255, .string t256, .int .i64 t257] 31 (0, 0)) ZZf9c532 hb)
        have n3_ := Aside0.mk (blk_below (g := gb269) (o := .cells #[.string (⟨#[]⟩ : ByteArray), .string (⟨#[]⟩ : ByteArray), .int .i64 0] 31 (0, 0)) ZZd45ccb hb)
        have n4_ := Aside0.mk (below_step ZZbd9ab3 hb)
        clear BK246
        clear BK247
        clear BK259
        clear BK269
        clear HB
        have BK246 := n0_
        have BK247 := n1_
        have BK259 := n2_
        have BK269 := n3_
        have HB := n4_
        clear n0_ n1_ n2_ n3_ n4_
        (try clear hb)
        (try clear hb2)
        (try clear hk)
        (try clear hi)
        refine hK.out _ _ ⟨(blk_cell BK246.out 0).trans rfl, (blk_cell BK246.out 1).trans rfl, (blk_cell BK246.out 2).trans rfl, (blk_cell BK247.out 0).trans rfl, (blk_cell BK247.out 1).trans rfl⟩ (fun hHeld => ?_)
        clear hK K
        refine norm_ (a' := ?_) ?_ ?_
        rotate_left
        ·show Act.put _ (some 33) _ = _
         simp only [Act.put, List.setIfInBounds_toArray, List.set_cons_zero, List.set_cons_succ, i64_w, i32_w]
         rfl
        refine pu 5 28 ?_
        refine pu 6 34 ?_
        refine pu 7 35 ?_
        exact norm_ ZZ539e1d (hCont (gb269) _ ⟨hHeld, ZZ7d2168, ZZ713e70, ZZf9c532, ZZd45ccb, GW269.out, GE269.out, NB246_269.out, NB269_246.out, NB247_269.out, NB269_247.out, NB259_269.out, NB269_259.out, ZZbd9ab3⟩)
      ·skip
       refine box_step ?hg (N := 8) ?hd (cs := #[.string (⟨#[]⟩ : ByteArray), .string (⟨#[]⟩ : ByteArray), .int .i64 0]) (t := 31) ?hr ?_; (case hd => rfl); (case hg => rfl); (case hr => first | (go_simp; done) | (go_simp; rfl))
       intro gb269 hg w46 hbox hb
       have n0_ := Aside0.mk (blk_below (g := gb246) (o := .cells #[.string a0_0, .string a0_1, .int .i64 a0_2] 36 (0, 0)) ZZ7d2168 hb)
       have n1_ := Aside0.mk (blk_below (g := gb247) (o := .cells #[.string a1_0, .string a1_1] 23 (0, 0)) ZZ713e70 hb)
       have n2_ := Aside0.mk (blk_below (g := gb259) (o := .cells #[.string t255, .string t256, .int .i64 t257] 31 (0, 0)) ZZf9c532 hb)
       have n3_ := Aside0.mk (below_step ZZ1ddea0 hb)
       have n4_ := Aside0.mk (hbox)
       have n5_ := Aside0.mk ((by rw [hg]; exact (below_size ZZ1ddea0) : w.heap.size ≤ gb269))
       have n6_ := Aside0.mk ((by rw [hg]; exact (below_size ZZ1ddea0) : w.heap.size ≤ gb269))
       have n7_ := Aside0.mk ((by rw [hg]; exact Nat.ne_of_lt (blk_lt (g := gb246) (o := .cells #[.string a0_0, .string a0_1, .int .i64 a0_2] 36 (0, 0)) ZZ7d2168) : gb246 ≠ gb269))
       have n8_ := Aside0.mk ((by rw [hg]; exact Nat.ne_of_gt (blk_lt (g := gb246) (o := .cells #[.string a0_0, .string a0_1, .int .i64 a0_2] 36 (0, 0)) ZZ7d2168) : gb269 ≠ gb246))
       have n9_ := Aside0.mk ((by rw [hg]; exact Nat.ne_of_lt (blk_lt (g := gb247) (o := .cells #[.string a1_0, .string a1_1] 23 (0, 0)) ZZ713e70) : gb247 ≠ gb269))
       have n10_ := Aside0.mk ((by rw [hg]; exact Nat.ne_of_gt (blk_lt (g := gb247) (o := .cells #[.string a1_0, .string a1_1] 23 (0, 0)) ZZ713e70) : gb269 ≠ gb247))
       have n11_ := Aside0.mk ((by rw [hg]; exact Nat.ne_of_lt (blk_lt (g := gb259) (o := .cells #[.string t255, .string t256, .int .i64 t257] 31 (0, 0)) ZZf9c532) : gb259 ≠ gb269))
       have n12_ := Aside0.mk ((by rw [hg]; exact Nat.ne_of_gt (blk_lt (g := gb259) (o := .cells #[.string t255, .string t256, .int .i64 t257] 31 (0, 0)) ZZf9c532) : gb269 ≠ gb259))
       clear BK246
       clear BK247
       clear BK259
       clear HB
       have BK246 := n0_
       have BK247 := n1_
       have BK259 := n2_
       have HB := n3_
       have BK269 := n4_
       have GW269 := n5_
       have GE269 := n6_
       have NB246_269 := n7_
       have NB269_246 := n8_
       have NB247_269 := n9_
       have NB269_247 := n10_
       have NB259_269 := n11_
       have NB269_259 := n12_
       clear n0_ n1_ n2_ n3_ n4_ n5_ n6_ n7_ n8_ n9_ n10_ n11_ n12_
       clear hb hbox hg
       refine hK.out _ _ ⟨(blk_cell BK246.out 0).trans rfl, (blk_cell BK246.out 1).trans rfl, (blk_cell BK246.out 2).trans rfl, (blk_cell BK247.out 0).trans rfl, (blk_cell BK247.out 1).trans rfl⟩ (fun hHeld => ?_)
       clear hK K
       refine norm_ (a' := ?_) ?_ ?_
       rotate_left
       ·show Act.put _ (some 8) _ = _
        simp only [Act.put, List.setIfInBounds_toArray, List.set_cons_zero, List.set_cons_succ, i64_w, i32_w]
        rfl
       refine one_ (i := 1) (N := some 30) #[true, true, true, false, false, false, false, false, true, false, false] rfl rfl (one_of HT_.out (by kernel_rfl)) (by decide) (fun K hK => ?_)
       refine goes_ Tryd.func22 (by kernel_rfl) rfl #[.agg #[.string a0_0, .string a0_1, .int .i64 a0_2]] (by rfl) rfl rfl ZZ19826e ?_
       with_reducible refine (laws_toLog.calls a0_0 a0_1 a0_2 t260 t261 t262 _ A22.out).mono ?_
       rintro e w47 ⟨rfl, hb⟩
       refine ⟨_, rfl, ?_⟩
       have n0_ := Aside0.mk (blk_below (g := gb246) (o := .cells #[.string a0_0, .string a0_1, .int .i64 a0_2] 36 (0, 0)) ZZ7d2168 hb)
       have n1_ := Aside0.mk (blk_below (g := gb247) (o := .cells #[.string a1_0, .string a1_1] 23 (0, 0)) ZZ713e70 hb)
       have n2_ := Aside0.mk (blk_below (g := gb259) (o := .cells #[.string t255, .string t256, .int .i64 t257] 31 (0, 0)) ZZf9c532 hb)
       have n3_ := Aside0.mk (blk_below (g := gb269) (o := .cells #[.string (⟨#[]⟩ : ByteArray), .string (⟨#[]⟩ : ByteArray), .int .i64 0] 31 (0, 0)) ZZd45ccb hb)
       have n4_ := Aside0.mk (below_step ZZbd9ab3 hb)
       clear BK246
       clear BK247
       clear BK259
       clear BK269
       clear HB
       have BK246 := n0_
       have BK247 := n1_
       have BK259 := n2_
       have BK269 := n3_
       have HB := n4_
       clear n0_ n1_ n2_ n3_ n4_
       (try clear hb)
       (try clear hb2)
       (try clear hk)
       (try clear hi)
       refine hK.out _ _ ⟨(blk_cell BK246.out 0).trans rfl, (blk_cell BK246.out 1).trans rfl, (blk_cell BK246.out 2).trans rfl, (blk_cell BK247.out 0).trans rfl, (blk_cell BK247.out 1).trans rfl⟩ (fun hHeld => ?_)
       clear hK K
       refine norm_ (a' := ?_) ?_ ?_
       rotate_left
       ·show Act.put _ (some 30) _ = _
        simp only [Act.put, List.setIfInBounds_toArray, List.set_cons_zero, List.set_cons_succ, i64_w, i32_w]
        rfl
       refine one_ (i := 3) (N := some 32) #[true, true, true, true, false, false, false, false, true, false, false] rfl rfl (one_of HT_.out (by kernel_rfl)) (by decide) (fun K hK => ?_)
       refine goes_ Tryd.func15 (by kernel_rfl) rfl #[.agg #[.string a1_0, .string a1_1]] (by rfl) rfl rfl ZZ19826e ?_
       with_reducible refine (laws_toLogRecord.calls a1_0 a1_1 t263 t264 _ A23.out).mono ?_
       rintro e w48 ⟨rfl, hb⟩
       refine ⟨_, rfl, ?_⟩
       have n0_ := Aside0.mk (blk_below (g := gb246) (o := .cells #[.string a0_0, .string a0_1, .int .i64 a0_2] 36 (0, 0)) ZZ7d2168 hb)
       have n1_ := Aside0.mk (blk_below (g := gb247) (o := .cells #[.string a1_0, .string a1_1] 23 (0, 0)) ZZ713e70 hb)
       have n2_ := Aside0.mk (blk_below (g := gb259) (o := .cells #[.string t255, .string t256, .int .i64 t257] 31 (0, 0)) ZZf9c532 hb)
       have n3_ := Aside0.mk (blk_below (g := gb269) (o := .cells #[.string (⟨#[]⟩ : ByteArray), .string (⟨#[]⟩ : ByteArray), .int .i64 0] 31 (0, 0)) ZZd45ccb hb)
       have n4_ := Aside0.mk (below_step ZZbd9ab3 hb)
       clear BK246
       clear BK247
       clear BK259
       clear BK269
       clear HB
       have BK246 := n0_
       have BK247 := n1_
       have BK259 := n2_
       have BK269 := n3_
       have HB := n4_
       clear n0_ n1_ n2_ n3_ n4_
       (try clear hb)
       (try clear hb2)
       (try clear hk)
       (try clear hi)
       refine hK.out _ _ ⟨(blk_cell BK246.out 0).trans rfl, (blk_cell BK246.out 1).trans rfl, (blk_cell BK246.out 2).trans rfl, (blk_cell BK247.out 0).trans rfl, (blk_cell BK247.out 1).trans rfl⟩ (fun hHeld => ?_)
       clear hK K
       refine norm_ (a' := ?_) ?_ ?_
       rotate_left
       ·show Act.put _ (some 32) _ = _
        simp only [Act.put, List.setIfInBounds_toArray, List.set_cons_zero, List.set_cons_succ, i64_w, i32_w]
        rfl
       refine one_ (i := 4) (N := some 33) #[true, true, true, true, true, false, false, false, true, false, false] rfl rfl (one_of HT_.out (by kernel_rfl)) (by decide) (fun K hK => ?_)
       refine goes_ Tryd.func29 (by kernel_rfl) rfl #[.agg #[.string t260, .string t261, .int .i64 t262], .agg #[.string t263, .string t264]] (by rfl) rfl rfl ZZ19826e ?_
       with_reducible refine (impl_AppendRecord.calls k t260 t261 t262 t263 t264 t265 t266 t267 t268 _ ?side1 A24.out).mono ?_
       (case side1 => first | exact HV.out | exact TInv.below HV.out ZZbd9ab3)
       rintro e w49 ⟨rfl, hb⟩
       refine ⟨_, rfl, ?_⟩
       have n0_ := Aside0.mk (blk_below (g := gb246) (o := .cells #[.string a0_0, .string a0_1, .int .i64 a0_2] 36 (0, 0)) ZZ7d2168 hb)
       have n1_ := Aside0.mk (blk_below (g := gb247) (o := .cells #[.string a1_0, .string a1_1] 23 (0, 0)) ZZ713e70 hb)
       have n2_ := Aside0.mk (blk_below (g := gb259) (o := .cells #[.string t255, .string t256, .int .i64 t257] 31 (0, 0)) ZZf9c532 hb)
       have n3_ := Aside0.mk (blk_below (g := gb269) (o := .cells #[.string (⟨#[]⟩ : ByteArray), .string (⟨#[]⟩ : ByteArray), .int .i64 0] 31 (0, 0)) ZZd45ccb hb)
       have n4_ := Aside0.mk (below_step ZZbd9ab3 hb)
       clear BK246
       clear BK247
       clear BK259
       clear BK269
       clear HB
       have BK246 := n0_
       have BK247 := n1_
       have BK259 := n2_
       have BK269 := n3_
       have HB := n4_
       clear n0_ n1_ n2_ n3_ n4_
       (try clear hb)
       (try clear hb2)
       (try clear hk)
       (try clear hi)
       refine hK.out _ _ ⟨(blk_cell BK246.out 0).trans rfl, (blk_cell BK246.out 1).trans rfl, (blk_cell BK246.out 2).trans rfl, (blk_cell BK247.out 0).trans rfl, (blk_cell BK247.out 1).trans rfl⟩ (fun hHeld => ?_)
       clear hK K
       refine norm_ (a' := ?_) ?_ ?_
       rotate_left
       ·show Act.put _ (some 33) _ = _
        simp only [Act.put, List.setIfInBounds_toArray, List.set_cons_zero, List.set_cons_succ, i64_w, i32_w]
        rfl
       refine pu 5 28 ?_
       refine pu 6 34 ?_
       refine pu 7 35 ?_
       exact norm_ ZZ539e1d (hCont (gb269) _ ⟨hHeld, ZZ7d2168, ZZ713e70, ZZf9c532, ZZd45ccb, GW269.out, GE269.out, NB246_269.out, NB269_246.out, NB247_269.out, NB269_247.out, NB259_269.out, NB269_259.out, ZZbd9ab3⟩)
     rintro gb269 w50 ⟨hS_, h0_, h1_, h2_, h3_, h4_, h5_, h6_, h7_, h8_, h9_, h10_, h11_, h12_⟩
     have n0_ : Aside0 (w50.heap[gb246]? = some (.cells #[.string a0_0, .string a0_1, .int .i64 a0_2] 36 (0, 0))) := ⟨h0_⟩
     have n1_ : Aside0 (w50.heap[gb247]? = some (.cells #[.string a1_0, .string a1_1] 23 (0, 0))) := ⟨h1_⟩
     have n2_ : Aside0 (w50.heap[gb259]? = some (.cells #[.string t255, .string t256, .int .i64 t257] 31 (0, 0))) := ⟨h2_⟩
     have n3_ : Aside0 (w50.heap[gb269]? = some (.cells #[.string (⟨#[]⟩ : ByteArray), .string (⟨#[]⟩ : ByteArray), .int .i64 0] 31 (0, 0))) := ⟨h3_⟩
     have n4_ : Aside0 (w.heap.size ≤ gb269) := ⟨h4_⟩
     have n5_ : Aside0 (w.heap.size ≤ gb269) := ⟨h5_⟩
     have n6_ : Aside0 (gb246 ≠ gb269) := ⟨h6_⟩
     have n7_ : Aside0 (gb269 ≠ gb246) := ⟨h7_⟩
     have n8_ : Aside0 (gb247 ≠ gb269) := ⟨h8_⟩
     have n9_ : Aside0 (gb269 ≠ gb247) := ⟨h9_⟩
     have n10_ : Aside0 (gb259 ≠ gb269) := ⟨h10_⟩
     have n11_ : Aside0 (gb269 ≠ gb259) := ⟨h11_⟩
     have n12_ : Aside0 (Below w.heap.size w w50) := ⟨h12_⟩
     clear BK246
     clear BK247
     clear BK259
     clear HB
     clear h0_ h1_ h2_ h3_ h4_ h5_ h6_ h7_ h8_ h9_ h10_ h11_ h12_
     have BK246 := n0_
     have BK247 := n1_
     have BK259 := n2_
     have BK269 := n3_
     have GW269 := n4_
     have GE269 := n5_
     have NB246_269 := n6_
     have NB269_246 := n7_
     have NB247_269 := n8_
     have NB269_247 := n9_
     have NB259_269 := n10_
     have NB269_259 := n11_
     have HB := n12_
     clear n0_ n1_ n2_ n3_ n4_ n5_ n6_ n7_ n8_ n9_ n10_ n11_ n12_
     have hHeld : w50.cell? ⟨gb246, 0, none⟩ = some (.string a0_0) ∧ w50.cell? ⟨gb246, 1, none⟩ = some (.string a0_1) ∧ w50.cell? ⟨gb246, 2, none⟩ = some (.int .i64 a0_2) ∧ w50.cell? ⟨gb247, 0, none⟩ = some (.string a1_0) ∧ w50.cell? ⟨gb247, 1, none⟩ = some (.string a1_1) := hS_
     refine norm_ (a' := ?_) ?_ ?_
     rotate_left
     ·simp only [putAll, Act.put, List.setIfInBounds_toArray, List.set_cons_zero, List.set_cons_succ]
      rfl
     refine one_ (i := 9) (N := none) #[true, true, true, true, true, true, true, true, true, true, false] rfl rfl (one_of HT_.out (by kernel_rfl)) (by decide) (fun K hK => ?_)
     have hs51 : w50.cell? ⟨gb269, 0, none⟩ = some (.string (⟨#[]⟩ : ByteArray)) := (blk_cell BK269.out 0).trans rfl
     have hfs51 := blk_frozen BK269.out 0
     have hns51_0 := NB246_269.out
     have hns51_1 := NB247_269.out
     have hns51_2 := NB259_269.out
     have hms51_0 := NB269_246.out
     have hms51_1 := NB269_247.out
     have hms51_2 := NB269_259.out
     have hs52 : w50.cell? ⟨gb269, 1, none⟩ = some (.string (⟨#[]⟩ : ByteArray)) := (blk_cell BK269.out 1).trans rfl
     have hfs52 := blk_frozen BK269.out 1
     have hns52_0 := NB246_269.out
     have hns52_1 := NB247_269.out
     have hns52_2 := NB259_269.out
     have hms52_0 := NB269_246.out
     have hms52_1 := NB269_247.out
     have hms52_2 := NB269_259.out
     have hs53 : w50.cell? ⟨gb269, 2, none⟩ = some (.int .i64 0) := (blk_cell BK269.out 2).trans rfl
     have hfs53 := blk_frozen BK269.out 2
     have hns53_0 := NB246_269.out
     have hns53_1 := NB247_269.out
     have hns53_2 := NB259_269.out
     have hms53_0 := NB269_246.out
     have hms53_1 := NB269_247.out
     have hms53_2 := NB269_259.out
     refine skip_ (w1 := ?_) (by rfl) rfl ?_ ?_
     rotate_left
     ·go_simp
      rfl
     refine hK.out _ _ ⟨((cell_far (p := ⟨gb269, _, none⟩) NB246_269.out _).trans (((cell_far (p := ⟨gb269, _, none⟩) NB246_269.out _).trans (((cell_far (p := ⟨gb269, _, none⟩) NB246_269.out _).trans (hHeld.1)))))), ((cell_far (p := ⟨gb269, _, none⟩) NB246_269.out _).trans (((cell_far (p := ⟨gb269, _, none⟩) NB246_269.out _).trans (((cell_far (p := ⟨gb269, _, none⟩) NB246_269.out _).trans (hHeld.2.1)))))), ((cell_far (p := ⟨gb269, _, none⟩) NB246_269.out _).trans (((cell_far (p := ⟨gb269, _, none⟩) NB246_269.out _).trans (((cell_far (p := ⟨gb269, _, none⟩) NB246_269.out _).trans (hHeld.2.2.1)))))), ((cell_far (p := ⟨gb269, _, none⟩) NB247_269.out _).trans (((cell_far (p := ⟨gb269, _, none⟩) NB247_269.out _).trans (((cell_far (p := ⟨gb269, _, none⟩) NB247_269.out _).trans (hHeld.2.2.2.1)))))), ((cell_far (p := ⟨gb269, _, none⟩) NB247_269.out _).trans (((cell_far (p := ⟨gb269, _, none⟩) NB247_269.out _).trans (((cell_far (p := ⟨gb269, _, none⟩) NB247_269.out _).trans (hHeld.2.2.2.2))))))⟩ (fun hHeld => ?_)
     clear hK K
     refine pu 10 9 ?_
     refine done_ (done_of HT_.out (by kernel_rfl)) ?_
     have hnb54 := NB269_246.out
     have hnc54 := NB246_269.out
     have hnb55 := NB269_247.out
     have hnc55 := NB247_269.out
     have hnb56 := NB269_259.out
     have hnc56 := NB259_269.out
     have hcz57_0 : w50.cell? ⟨gb269, 0, none⟩ = some (.string (⟨#[]⟩ : ByteArray)) := (blk_cell BK269.out 0).trans rfl
     have hcz57_1 : w50.cell? ⟨gb269, 1, none⟩ = some (.string (⟨#[]⟩ : ByteArray)) := (blk_cell BK269.out 1).trans rfl
     have hcz57_2 : w50.cell? ⟨gb269, 2, none⟩ = some (.int .i64 0) := (blk_cell BK269.out 2).trans rfl
     have hfz57_0 := blk_frozen BK269.out 0
     have hfz57_1 := blk_frozen BK269.out 1
     have hfz57_2 := blk_frozen BK269.out 2
     have hnb58 := NB259_246.out
     have hnc58 := NB246_259.out
     have hnb59 := NB259_247.out
     have hnc59 := NB247_259.out
     have hcz60_0 : w50.cell? ⟨gb259, 0, none⟩ = some (.string t255) := (blk_cell BK259.out 0).trans rfl
     have hcz60_1 : w50.cell? ⟨gb259, 1, none⟩ = some (.string t256) := (blk_cell BK259.out 1).trans rfl
     have hcz60_2 : w50.cell? ⟨gb259, 2, none⟩ = some (.int .i64 t257) := (blk_cell BK259.out 2).trans rfl
     have hfz60_0 := blk_frozen BK259.out 0
     have hfz60_1 := blk_frozen BK259.out 1
     have hfz60_2 := blk_frozen BK259.out 2
     try go_wp2_with (first | ((with_reducible refine gate_callee (f := 19) rfl ?_); refine goesL_ (some 38) rfl rfl Tryd.func19 (by kernel_rfl) rfl #[.agg #[.string t265, .string t266, .int .i64 t267], .agg #[.string t255, .string t256, .int .i64 t257]] rfl ZZ19826e ?_; (with_reducible refine (laws_eqLog.calls t265 t266 t267 t255 t256 t257 true _ A25.out).mono ?_); rintro e w61 ⟨rfl, hb⟩; refine ⟨_, rfl, ?_⟩; have n0_ := Aside0.mk (blk_below (g := gb246) (o := .cells #[.string a0_0, .string a0_1, .int .i64 a0_2] 36 (0, 0)) ZZ953734 hb); have n1_ := Aside0.mk (blk_below (g := gb247) (o := .cells #[.string a1_0, .string a1_1] 23 (0, 0)) ZZ77fcbf hb); have n2_ := Aside0.mk (blk_below (g := gb259) (o := .cells #[.string t255, .string t256, .int .i64 t257] 31 (0, 0)) ZZ1ee8f0 hb); have n3_ := Aside0.mk (blk_below (g := gb269) (o := .cells #[.string t265, .string t266, .int .i64 t267] 31 (0, 0)) ZZ2da24b hb); have n4_ := Aside0.mk (below_step ZZbd9ab3 hb); clear BK246; clear BK247; clear BK259; clear BK269; clear HB; have BK246 := n0_; have BK247 := n1_; have BK259 := n2_; have BK269 := n3_; have HB := n4_; clear n0_ n1_ n2_ n3_ n4_; (try clear hb); (try clear hb2); (try clear hk); (try clear hi)))
     go_ret
     exact ⟨by first | rfl | (simp [errW_none, errW_some] <;> rfl) | (simp [*, errW_none, errW_some] <;> rfl), by repeat (first | (with_reducible first | exact HB.out | apply below_alloc | apply pw_below_drewN | apply below_drew1 | refine below_set ?_ GE246.out | refine below_set ?_ GE247.out | refine below_set ?_ GE259.out | refine below_set ?_ GE269.out) | exact HB.out)⟩
    ·rw [if_neg c27] at H
     have c27b0 : (t268 == t258) = false := beq_eq_false_iff_ne.mpr c27
     have c27b1 : (t268 != t258) = true := bne_iff_ne.mpr c27
     obtain rfl := Option.some.inj H
     go_enter Tryd.func8, Tryd.ntmps8
     try go_wp2_with (first | ((with_reducible refine gate_dst (N := 2) rfl ?_); refine box_event ?hg (N := 2) ?hd (cs := #[.string a0_0, .string a0_1, .int .i64 a0_2]) (t := 36) ?hr ?_; (case hd => rfl); (case hg => rfl); (case hr => first | (go_simp; done) | (go_simp; rfl)); intro gb246 hg w62 hbox hb; have n0_ := Aside0.mk (below_step ZZ605003 hb); have n1_ := Aside0.mk (hbox); have n2_ := Aside0.mk ((by rw [hg]; exact (below_size ZZ605003) : w.heap.size ≤ gb246)); have n3_ := Aside0.mk ((by rw [hg]; exact (below_size ZZ605003) : w.heap.size ≤ gb246)); clear HB; have HB := n0_; have BK246 := n1_; have GW246 := n2_; have GE246 := n3_; clear n0_ n1_ n2_ n3_; clear hb hbox hg) | ((with_reducible refine gate_dst (N := 3) rfl ?_); refine box_event ?hg (N := 3) ?hd (cs := #[.string a1_0, .string a1_1]) (t := 23) ?hr ?_; (case hd => rfl); (case hg => rfl); (case hr => first | (go_simp; done) | (go_simp; rfl)); intro gb247 hg w63 hbox hb; have n0_ := Aside0.mk (blk_below (g := gb246) (o := .cells #[.string a0_0, .string a0_1, .int .i64 a0_2] 36 (0, 0)) ZZ7d2168 hb); have n1_ := Aside0.mk (below_step ZZd59925 hb); have n2_ := Aside0.mk (hbox); have n3_ := Aside0.mk ((by rw [hg]; exact (below_size ZZd59925) : w.heap.size ≤ gb247)); have n4_ := Aside0.mk ((by rw [hg]; exact (below_size ZZd59925) : w.heap.size ≤ gb247)); have n5_ := Aside0.mk ((by rw [hg]; exact Nat.ne_of_lt (blk_lt (g := gb246) (o := .cells #[.string a0_0, .string a0_1, .int .i64 a0_2] 36 (0, 0)) ZZ7d2168) : gb246 ≠ gb247)); have n6_ := Aside0.mk ((by rw [hg]; exact Nat.ne_of_gt (blk_lt (g := gb246) (o := .cells #[.string a0_0, .string a0_1, .int .i64 a0_2] 36 (0, 0)) ZZ7d2168) : gb247 ≠ gb246)); clear BK246; clear HB; have BK246 := n0_; have HB := n1_; have BK247 := n2_; have GW247 := n3_; have GE247 := n4_; have NB246_247 := n5_; have NB247_246 := n6_; clear n0_ n1_ n2_ n3_ n4_ n5_ n6_; clear hb hbox hg; have hnb64 := NB246_247.out; have hnc64 := NB247_246.out; have hcz65_0 : w63.cell? ⟨gb246, 0, none⟩ = some (.string a0_0) := (blk_cell BK246.out 0).trans rfl; have hcz65_1 : w63.cell? ⟨gb246, 1, none⟩ = some (.string a0_1) := (blk_cell BK246.out 1).trans rfl; have hcz65_2 : w63.cell? ⟨gb246, 2, none⟩ = some (.int .i64 a0_2) := (blk_cell BK246.out 2).trans rfl; have hfz65_0 := blk_frozen BK246.out 0; have hfz65_1 := blk_frozen BK246.out 1; have hfz65_2 := blk_frozen BK246.out 2) | ((with_reducible refine gate_callee (f := 20) rfl ?_); refine goesL_ (some 12) rfl rfl Tryd.func20 (by kernel_rfl) rfl #[.agg #[.string a0_0, .string a0_1, .int .i64 a0_2], .int .i64 1048576] rfl ZZ19826e ?_; (with_reducible refine (laws_szLog.calls a0_0 a0_1 a0_2 1048576 t248 _ A3.out).mono ?_); rintro e w66 ⟨rfl, hb⟩; refine ⟨_, rfl, ?_⟩; have n0_ := Aside0.mk (blk_below (g := gb246) (o := .cells #[.string a0_0, .string a0_1, .int .i64 a0_2] 36 (0, 0)) ZZ7d2168 hb); have n1_ := Aside0.mk (blk_below (g := gb247) (o := .cells #[.string a1_0, .string a1_1] 23 (0, 0)) ZZ713e70 hb); have n2_ := Aside0.mk (below_step ZZ97a20a hb); clear BK246; clear BK247; clear HB; have BK246 := n0_; have BK247 := n1_; have HB := n2_; clear n0_ n1_ n2_; (try clear hb); (try clear hb2); (try clear hk); (try clear hi); have hcz67_0 : w66.cell? ⟨gb247, 0, none⟩ = some (.string a1_0) := (blk_cell BK247.out 0).trans rfl; have hcz67_1 : w66.cell? ⟨gb247, 1, none⟩ = some (.string a1_1) := (blk_cell BK247.out 1).trans rfl; have hfz67_0 := blk_frozen BK247.out 0; have hfz67_1 := blk_frozen BK247.out 1) | ((with_reducible refine gate_callee (f := 13) rfl ?_); refine goesL_ (some 17) rfl rfl Tryd.func13 (by kernel_rfl) rfl #[.agg #[.string a1_0, .string a1_1], .int .i64 t248] rfl ZZ19826e ?_; (with_reducible refine (laws_szLogRecord.calls a1_0 a1_1 t248 t249 _ A10.out).mono ?_); rintro e w68 ⟨rfl, hb⟩; refine ⟨_, rfl, ?_⟩; have n0_ := Aside0.mk (blk_below (g := gb246) (o := .cells #[.string a0_0, .string a0_1, .int .i64 a0_2] 36 (0, 0)) ZZ7d2168 hb); have n1_ := Aside0.mk (blk_below (g := gb247) (o := .cells #[.string a1_0, .string a1_1] 23 (0, 0)) ZZ713e70 hb); have n2_ := Aside0.mk (below_step ZZ97a20a hb); clear BK246; clear BK247; clear HB; have BK246 := n0_; have BK247 := n1_; have HB := n2_; clear n0_ n1_ n2_; (try clear hb); (try clear hb2); (try clear hk); (try clear hi)))
     have n0_ := Aside0.mk (blk_drew BK246.out)
     have n1_ := Aside0.mk (blk_drew BK247.out)
     have n2_ := Aside0.mk (below_drew1 HB.out)
     clear BK246
     clear BK247
     clear HB
     have BK246 := n0_
     have BK247 := n1_
     have HB := n2_
     clear n0_ n1_ n2_
     refine start_ (n := 11) (S := fun w' => w'.cell? ⟨gb246, 0, none⟩ = some (.string a0_0) ∧ w'.cell? ⟨gb246, 1, none⟩ = some (.string a0_1) ∧ w'.cell? ⟨gb246, 2, none⟩ = some (.int .i64 a0_2) ∧ w'.cell? ⟨gb247, 0, none⟩ = some (.string a1_0) ∧ w'.cell? ⟨gb247, 1, none⟩ = some (.string a1_1)) (ds := []) #[false, false, false, false, false, false, false, false, false, false, false] (by kernel_rfl) rfl rfl ⟨(blk_cell BK246.out 0).trans rfl, (blk_cell BK246.out 1).trans rfl, (blk_cell BK246.out 2).trans rfl, (blk_cell BK247.out 0).trans rfl, (blk_cell BK247.out 1).trans rfl⟩ (fun hHeld => ?_); refine with_tabW laws_FnExactAppendRecord.tab8 laws_FnExactAppendRecord.bits8 (fun HT_ HW_ => ?_)
     generalize w68.drew = w69 at BK246 BK247 HB hHeld ⊢
     refine tk 0 21 ?_
     refine tk 2 23 ?_
     refine join_ (σ := Nat) 2 #[true, true, true, true, true, true, true, true, true, false, false] (fun s_ => [(22, .agg #[.string t250, .string t251, .int .i64 t252]), (24, .agg #[.string t253, .string t254]), (25, .tuple #[.agg #[.string t255, .string t256, .int .i64 t257], .int .i64 t258]), (6, .pointer (some ⟨s_, 0, none⟩)), (20, .tuple #[.agg #[.string t255, .string t256, .int .i64 t257], .int .i64 t258]), (26, .agg #[.string t255, .string t256, .int .i64 t257]), (27, .int .i64 t258)]) (fun s_ w' => (w'.cell? ⟨gb246, 0, none⟩ = some (.string a0_0) ∧ w'.cell? ⟨gb246, 1, none⟩ = some (.string a0_1) ∧ w'.cell? ⟨gb246, 2, none⟩ = some (.int .i64 a0_2) ∧ w'.cell? ⟨gb247, 0, none⟩ = some (.string a1_0) ∧ w'.cell? ⟨gb247, 1, none⟩ = some (.string a1_1)) ∧ (w'.heap[gb246]? = some (.cells #[.string a0_0, .string a0_1, .int .i64 a0_2] 36 (0, 0))) ∧ (w'.heap[gb247]? = some (.cells #[.string a1_0, .string a1_1] 23 (0, 0))) ∧ (w'.heap[s_]? = some (.cells #[.string (⟨#[]⟩ : ByteArray), .string (⟨#[]⟩ : ByteArray), .int .i64 0] 31 (0, 0))) ∧ (w.heap.size ≤ s_) ∧ (w.heap.size ≤ s_) ∧ (gb246 ≠ s_) ∧ (s_ ≠ gb246) ∧ (gb247 ≠ s_) ∧ (s_ ≠ gb247) ∧ (Below w.heap.size w w')) ?_ ?_
     rotate_left
     ·intro hCont
      refine two_ (i := 1) (j := 8) (Ni := some 22) (Nj := some 6) #[true, true, true, false, false, false, false, false, false, false, false] #[true, false, true, false, false, false, false, false, true, false, false] rfl rfl rfl rfl (two_of HT_.out (by kernel_rfl)) (by decide) (by decide) (fun K hK => ?_) (fun K hK => ?_)
      ·skip
       refine goes_ Tryd.func22 (by kernel_rfl) rfl #[.agg #[.string a0_0, .string a0_1, .int .i64 a0_2]] (by rfl) rfl rfl ZZ19826e ?_
       with_reducible refine (laws_toLog.calls a0_0 a0_1 a0_2 t250 t251 t252 _ A19.out).mono ?_
       rintro e w70 ⟨rfl, hb⟩
       refine ⟨_, rfl, ?_⟩
       have n0_ := Aside0.mk (blk_below (g := gb246) (o := .cells #[.string a0_0, .string a0_1, .int .i64 a0_2] 36 (0, 0)) ZZ7d2168 hb)
       have n1_ := Aside0.mk (blk_below (g := gb247) (o := .cells #[.string a1_0, .string a1_1] 23 (0, 0)) ZZ713e70 hb)
       have n2_ := Aside0.mk (below_step ZZ97a20a hb)
       clear BK246
       clear BK247
       clear HB
       have BK246 := n0_
       have BK247 := n1_
       have HB := n2_
       clear n0_ n1_ n2_
       (try clear hb)
       (try clear hb2)
       (try clear hk)
       (try clear hi)
       refine hK.out _ _ ⟨(blk_cell BK246.out 0).trans rfl, (blk_cell BK246.out 1).trans rfl, (blk_cell BK246.out 2).trans rfl, (blk_cell BK247.out 0).trans rfl, (blk_cell BK247.out 1).trans rfl⟩ (fun hHeld => ?_)
       clear hK K
       refine norm_ (a' := ?_) ?_ ?_
       rotate_left
       ·show Act.put _ (some 22) _ = _
        simp only [Act.put, List.setIfInBounds_toArray, List.set_cons_zero, List.set_cons_succ, i64_w, i32_w]
        rfl
       refine two_ (i := 3) (j := 8) (Ni := some 24) (Nj := some 6) #[true, true, true, true, false, false, false, false, false, false, false] #[true, true, true, false, false, false, false, false, true, false, false] rfl rfl rfl rfl (two_of HT_.out (by kernel_rfl)) (by decide) (by decide) (fun K hK => ?_) (fun K hK => ?_)
       ·skip
        refine goes_ Tryd.func15 (by kernel_rfl) rfl #[.agg #[.string a1_0, .string a1_1]] (by rfl) rfl rfl ZZ19826e ?_
        with_reducible refine (laws_toLogRecord.calls a1_0 a1_1 t253 t254 _ A20.out).mono ?_
        rintro e w71 ⟨rfl, hb⟩
        refine ⟨_, rfl, ?_⟩
        have n0_ := Aside0.mk (blk_below (g := gb246) (o := .cells #[.string a0_0, .string a0_1, .int .i64 a0_2] 36 (0, 0)) ZZ7d2168 hb)
        have n1_ := Aside0.mk (blk_below (g := gb247) (o := .cells #[.string a1_0, .string a1_1] 23 (0, 0)) ZZ713e70 hb)
        have n2_ := Aside0.mk (below_step ZZ97a20a hb)
        clear BK246
        clear BK247
        clear HB
        have BK246 := n0_
        have BK247 := n1_
        have HB := n2_
        clear n0_ n1_ n2_
        (try clear hb)
        (try clear hb2)
        (try clear hk)
        (try clear hi)
        refine hK.out _ _ ⟨(blk_cell BK246.out 0).trans rfl, (blk_cell BK246.out 1).trans rfl, (blk_cell BK246.out 2).trans rfl, (blk_cell BK247.out 0).trans rfl, (blk_cell BK247.out 1).trans rfl⟩ (fun hHeld => ?_)
        clear hK K
        refine norm_ (a' := ?_) ?_ ?_
        rotate_left
        ·show Act.put _ (some 24) _ = _
         simp only [Act.put, List.setIfInBounds_toArray, List.set_cons_zero, List.set_cons_succ, i64_w, i32_w]
         rfl
        refine two_ (i := 4) (j := 8) (Ni := some 25) (Nj := some 6) #[true, true, true, true, true, false, false, false, false, false, false] #[true, true, true, true, false, false, false, false, true, false, false] rfl rfl rfl rfl (two_of HT_.out (by kernel_rfl)) (by decide) (by decide) (fun K hK => ?_) (fun K hK => ?_)
        ·skip
         refine goes_ Tryd.func28 (by kernel_rfl) rfl #[.agg #[.string t250, .string t251, .int .i64 t252], .agg #[.string t253, .string t254]] (by rfl) rfl rfl ZZ19826e ?_
         with_reducible refine (spec_AppendRecord.calls k t250 t251 t252 t253 t254 t255 t256 t257 t258 _ A21.out).mono ?_
         rintro e w72 ⟨rfl, hb⟩
         refine ⟨_, rfl, ?_⟩
         have n0_ := Aside0.mk (blk_below (g := gb246) (o := .cells #[.string a0_0, .string a0_1, .int .i64 a0_2] 36 (0, 0)) ZZ7d2168 hb)
         have n1_ := Aside0.mk (blk_below (g := gb247) (o := .cells #[.string a1_0, .string a1_1] 23 (0, 0)) ZZ713e70 hb)
         have n2_ := Aside0.mk (below_step ZZ97a20a hb)
         clear BK246
         clear BK247
         clear HB
         have BK246 := n0_
         have BK247 := n1_
         have HB := n2_
         clear n0_ n1_ n2_
         (try clear hb)
         (try clear hb2)
         (try clear hk)
         (try clear hi)
         refine hK.out _ _ ⟨(blk_cell BK246.out 0).trans rfl, (blk_cell BK246.out 1).trans rfl, (blk_cell BK246.out 2).trans rfl, (blk_cell BK247.out 0).trans rfl, (blk_cell BK247.out 1).trans rfl⟩ (fun hHeld => ?_)
         clear hK K
         refine norm_ (a' := ?_) ?_ ?_
         rotate_left
         ·show Act.put _ (some 25) _ = _
          simp only [Act.put, List.setIfInBounds_toArray, List.set_cons_zero, List.set_cons_succ, i64_w, i32_w]
          rfl
         refine pu 5 20 ?_
         refine pu 6 26 ?_
         refine pu 7 27 ?_
         refine one_ (i := 8) (N := some 6) #[true, true, true, true, true, true, true, true, true, false, false] rfl rfl (one_of HT_.out (by kernel_rfl)) (by decide) (fun K hK => ?_)
         refine box_step ?hg (N := 6) ?hd (cs := #[.string (⟨#[]⟩ : ByteArray), .string (⟨#[]⟩ : ByteArray), .int .i64 0]) (t := 31) ?hr ?_; (case hd => rfl); (case hg => rfl); (case hr => first | (go_simp; done) | (go_simp; rfl))
         intro gb259 hg w73 hbox hb
         have n0_ := Aside0.mk (blk_below (g := gb246) (o := .cells #[.string a0_0, .string a0_1, .int .i64 a0_2] 36 (0, 0)) ZZ7d2168 hb)
         have n1_ := Aside0.mk (blk_below (g := gb247) (o := .cells #[.string a1_0, .string a1_1] 23 (0, 0)) ZZ713e70 hb)
         have n2_ := Aside0.mk (below_step ZZ97a20a hb)
         have n3_ := Aside0.mk (hbox)
         have n4_ := Aside0.mk ((by rw [hg]; exact (below_size ZZ97a20a) : w.heap.size ≤ gb259))
         have n5_ := Aside0.mk ((by rw [hg]; exact (below_size ZZ97a20a) : w.heap.size ≤ gb259))
         have n6_ := Aside0.mk ((by rw [hg]; exact Nat.ne_of_lt (blk_lt (g := gb246) (o := .cells #[.string a0_0, .string a0_1, .int .i64 a0_2] 36 (0, 0)) ZZ7d2168) : gb246 ≠ gb259))
         have n7_ := Aside0.mk ((by rw [hg]; exact Nat.ne_of_gt (blk_lt (g := gb246) (o := .cells #[.string a0_0, .string a0_1, .int .i64 a0_2] 36 (0, 0)) ZZ7d2168) : gb259 ≠ gb246))
         have n8_ := Aside0.mk ((by rw [hg]; exact Nat.ne_of_lt (blk_lt (g := gb247) (o := .cells #[.string a1_0, .string a1_1] 23 (0, 0)) ZZ713e70) : gb247 ≠ gb259))
         have n9_ := Aside0.mk ((by rw [hg]; exact Nat.ne_of_gt (blk_lt (g := gb247) (o := .cells #[.string a1_0, .string a1_1] 23 (0, 0)) ZZ713e70) : gb259 ≠ gb247))
         clear BK246
         clear BK247
         clear HB
         have BK246 := n0_
         have BK247 := n1_
         have HB := n2_
         have BK259 := n3_
         have GW259 := n4_
         have GE259 := n5_
         have NB246_259 := n6_
         have NB259_246 := n7_
         have NB247_259 := n8_
         have NB259_247 := n9_
         clear n0_ n1_ n2_ n3_ n4_ n5_ n6_ n7_ n8_ n9_
         clear hb hbox hg
         refine hK.out _ _ ⟨(blk_cell BK246.out 0).trans rfl, (blk_cell BK246.out 1).trans rfl, (blk_cell BK246.out 2).trans rfl, (blk_cell BK247.out 0).trans rfl, (blk_cell BK247.out 1).trans rfl⟩ (fun hHeld => ?_)
         clear hK K
         refine norm_ (a' := ?_) ?_ ?_
         rotate_left
         ·show Act.put _ (some 6) _ = _
          simp only [Act.put, List.setIfInBounds_toArray, List.set_cons_zero, List.set_cons_succ, i64_w, i32_w]
          rfl
         exact norm_ ZZ539e1d (hCont (gb259) _ ⟨hHeld, ZZ7d2168, ZZ713e70, ZZf9c532, GW259.out, GE259.out, NB246_259.out, NB259_246.out, NB247_259.out, NB259_247.out, ZZ1ddea0⟩)
        ·skip
         refine box_step ?hg (N := 6) ?hd (cs := #[.string (⟨#[]⟩ : ByteArray), .string (⟨#[]⟩ : ByteArray), .int .i64 0]) (t := 31) ?hr ?_; (case hd => rfl); (case hg => rfl); (case hr => first | (go_simp; done) | (go_simp; rfl))
         intro gb259 hg w72 hbox hb
         have n0_ := Aside0.mk (blk_below (g := gb246) (o := .cells #[.string a0_0, .string a0_1, .int .i64 a0_2] 36 (0, 0)) ZZ7d2168 hb)
         have n1_ := Aside0.mk (blk_below (g := gb247) (o := .cells #[.string a1_0, .string a1_1] 23 (0, 0)) ZZ713e70 hb)
         have n2_ := Aside0.mk (below_step ZZ97a20a hb)
         have n3_ := Aside0.mk (hbox)
         have n4_ := Aside0.mk ((by rw [hg]; exact (below_size ZZ97a20a) : w.heap.size ≤ gb259))
         have n5_ := Aside0.mk ((by rw [hg]; exact (below_size ZZ97a20a) : w.heap.size ≤ gb259))
         have n6_ := Aside0.mk ((by rw [hg]; exact Nat.ne_of_lt (blk_lt (g := gb246) (o := .cells #[.string a0_0, .string a0_1, .int .i64 a0_2] 36 (0, 0)) ZZ7d2168) : gb246 ≠ gb259))
         have n7_ := Aside0.mk ((by rw [hg]; exact Nat.ne_of_gt (blk_lt (g := gb246) (o := .cells #[.string a0_0, .string a0_1, .int .i64 a0_2] 36 (0, 0)) ZZ7d2168) : gb259 ≠ gb246))
         have n8_ := Aside0.mk ((by rw [hg]; exact Nat.ne_of_lt (blk_lt (g := gb247) (o := .cells #[.string a1_0, .string a1_1] 23 (0, 0)) ZZ713e70) : gb247 ≠ gb259))
         have n9_ := Aside0.mk ((by rw [hg]; exact Nat.ne_of_gt (blk_lt (g := gb247) (o := .cells #[.string a1_0, .string a1_1] 23 (0, 0)) ZZ713e70) : gb259 ≠ gb247))
         clear BK246
         clear BK247
         clear HB
         have BK246 := n0_
         have BK247 := n1_
         have HB := n2_
         have BK259 := n3_
         have GW259 := n4_
         have GE259 := n5_
         have NB246_259 := n6_
         have NB259_246 := n7_
         have NB247_259 := n8_
         have NB259_247 := n9_
         clear n0_ n1_ n2_ n3_ n4_ n5_ n6_ n7_ n8_ n9_
         clear hb hbox hg
         refine hK.out _ _ ⟨(blk_cell BK246.out 0).trans rfl, (blk_cell BK246.out 1).trans rfl, (blk_cell BK246.out 2).trans rfl, (blk_cell BK247.out 0).trans rfl, (blk_cell BK247.out 1).trans rfl⟩ (fun hHeld => ?_)
         clear hK K
         refine norm_ (a' := ?_) ?_ ?_
         rotate_left
         ·show Act.put _ (some 6) _ = _
          simp only [Act.put, List.setIfInBounds_toArray, List.set_cons_zero, List.set_cons_succ, i64_w, i32_w]
          rfl
         refine one_ (i := 4) (N := some 25) #[true, true, true, true, true, false, false, false, true, false, false] rfl rfl (one_of HT_.out (by kernel_rfl)) (by decide) (fun K hK => ?_)
         refine goes_ Tryd.func28 (by kernel_rfl) rfl #[.agg #[.string t250, .string t251, .int .i64 t252], .agg #[.string t253, .string t254]] (by rfl) rfl rfl ZZ19826e ?_
         with_reducible refine (spec_AppendRecord.calls k t250 t251 t252 t253 t254 t255 t256 t257 t258 _ A21.out).mono ?_
         rintro e w73 ⟨rfl, hb⟩
         refine ⟨_, rfl, ?_⟩
         have n0_ := Aside0.mk (blk_below (g := gb246) (o := .cells #[.string a0_0, .string a0_1, .int .i64 a0_2] 36 (0, 0)) ZZ7d2168 hb)
         have n1_ := Aside0.mk (blk_below (g := gb247) (o := .cells #[.string a1_0, .string a1_1] 23 (0, 0)) ZZ713e70 hb)
         have n2_ := Aside0.mk (blk_below (g := gb259) (o := .cells #[.string (⟨#[]⟩ : ByteArray), .string (⟨#[]⟩ : ByteArray), .int .i64 0] 31 (0, 0)) ZZf9c532 hb)
         have n3_ := Aside0.mk (below_step ZZ1ddea0 hb)
         clear BK246
         clear BK247
         clear BK259
         clear HB
         have BK246 := n0_
         have BK247 := n1_
         have BK259 := n2_
         have HB := n3_
         clear n0_ n1_ n2_ n3_
         (try clear hb)
         (try clear hb2)
         (try clear hk)
         (try clear hi)
         refine hK.out _ _ ⟨(blk_cell BK246.out 0).trans rfl, (blk_cell BK246.out 1).trans rfl, (blk_cell BK246.out 2).trans rfl, (blk_cell BK247.out 0).trans rfl, (blk_cell BK247.out 1).trans rfl⟩ (fun hHeld => ?_)
         clear hK K
         refine norm_ (a' := ?_) ?_ ?_
         rotate_left
         ·show Act.put _ (some 25) _ = _
          simp only [Act.put, List.setIfInBounds_toArray, List.set_cons_zero, List.set_cons_succ, i64_w, i32_w]
          rfl
         refine pu 5 20 ?_
         refine pu 6 26 ?_
         refine pu 7 27 ?_
         exact norm_ ZZ539e1d (hCont (gb259) _ ⟨hHeld, ZZ7d2168, ZZ713e70, ZZf9c532, GW259.out, GE259.out, NB246_259.out, NB259_246.out, NB247_259.out, NB259_247.out, ZZ1ddea0⟩)
       ·skip
        refine box_step ?hg (N := 6) ?hd (cs := #[.string (⟨#[]⟩ : ByteArray), .string (⟨#[]⟩ : ByteArray), .int .i64 0]) (t := 31) ?hr ?_; (case hd => rfl); (case hg => rfl); (case hr => first | (go_simp; done) | (go_simp; rfl))
        intro gb259 hg w71 hbox hb
        have n0_ := Aside0.mk (blk_below (g := gb246) (o := .cells #[.string a0_0, .string a0_1, .int .i64 a0_2] 36 (0, 0)) ZZ7d2168 hb)
        have n1_ := Aside0.mk (blk_below (g := gb247) (o := .cells #[.string a1_0, .string a1_1] 23 (0, 0)) ZZ713e70 hb)
        have n2_ := Aside0.mk (below_step ZZ97a20a hb)
        have n3_ := Aside0.mk (hbox)
        have n4_ := Aside0.mk ((by rw [hg]; exact (below_size ZZ97a20a) : w.heap.size ≤ gb259))
        have n5_ := Aside0.mk ((by rw [hg]; exact (below_size ZZ97a20a) : w.heap.size ≤ gb259))
        have n6_ := Aside0.mk ((by rw [hg]; exact Nat.ne_of_lt (blk_lt (g := gb246) (o := .cells #[.string a0_0, .string a0_1, .int .i64 a0_2] 36 (0, 0)) ZZ7d2168) : gb246 ≠ gb259))
        have n7_ := Aside0.mk ((by rw [hg]; exact Nat.ne_of_gt (blk_lt (g := gb246) (o := .cells #[.string a0_0, .string a0_1, .int .i64 a0_2] 36 (0, 0)) ZZ7d2168) : gb259 ≠ gb246))
        have n8_ := Aside0.mk ((by rw [hg]; exact Nat.ne_of_lt (blk_lt (g := gb247) (o := .cells #[.string a1_0, .string a1_1] 23 (0, 0)) ZZ713e70) : gb247 ≠ gb259))
        have n9_ := Aside0.mk ((by rw [hg]; exact Nat.ne_of_gt (blk_lt (g := gb247) (o := .cells #[.string a1_0, .string a1_1] 23 (0, 0)) ZZ713e70) : gb259 ≠ gb247))
        clear BK246
        clear BK247
        clear HB
        have BK246 := n0_
        have BK247 := n1_
        have HB := n2_
        have BK259 := n3_
        have GW259 := n4_
        have GE259 := n5_
        have NB246_259 := n6_
        have NB259_246 := n7_
        have NB247_259 := n8_
        have NB259_247 := n9_
        clear n0_ n1_ n2_ n3_ n4_ n5_ n6_ n7_ n8_ n9_
        clear hb hbox hg
        refine hK.out _ _ ⟨(blk_cell BK246.out 0).trans rfl, (blk_cell BK246.out 1).trans rfl, (blk_cell BK246.out 2).trans rfl, (blk_cell BK247.out 0).trans rfl, (blk_cell BK247.out 1).trans rfl⟩ (fun hHeld => ?_)
        clear hK K
        refine norm_ (a' := ?_) ?_ ?_
        rotate_left
        ·show Act.put _ (some 6) _ = _
         simp only [Act.put, List.setIfInBounds_toArray, List.set_cons_zero, List.set_cons_succ, i64_w, i32_w]
         rfl
        refine one_ (i := 3) (N := some 24) #[true, true, true, true, false, false, false, false, true, false, false] rfl rfl (one_of HT_.out (by kernel_rfl)) (by decide) (fun K hK => ?_)
        refine goes_ Tryd.func15 (by kernel_rfl) rfl #[.agg #[.string a1_0, .string a1_1]] (by rfl) rfl rfl ZZ19826e ?_
        with_reducible refine (laws_toLogRecord.calls a1_0 a1_1 t253 t254 _ A20.out).mono ?_
        rintro e w72 ⟨rfl, hb⟩
        refine ⟨_, rfl, ?_⟩
        have n0_ := Aside0.mk (blk_below (g := gb246) (o := .cells #[.string a0_0, .string a0_1, .int .i64 a0_2] 36 (0, 0)) ZZ7d2168 hb)
        have n1_ := Aside0.mk (blk_below (g := gb247) (o := .cells #[.string a1_0, .string a1_1] 23 (0, 0)) ZZ713e70 hb)
        have n2_ := Aside0.mk (blk_below (g := gb259) (o := .cells #[.string (⟨#[]⟩ : ByteArray), .string (⟨#[]⟩ : ByteArray), .int .i64 0] 31 (0, 0)) ZZf9c532 hb)
        have n3_ := Aside0.mk (below_step ZZ1ddea0 hb)
        clear BK246
        clear BK247
        clear BK259
        clear HB
        have BK246 := n0_
        have BK247 := n1_
        have BK259 := n2_
        have HB := n3_
        clear n0_ n1_ n2_ n3_
        (try clear hb)
        (try clear hb2)
        (try clear hk)
        (try clear hi)
        refine hK.out _ _ ⟨(blk_cell BK246.out 0).trans rfl, (blk_cell BK246.out 1).trans rfl, (blk_cell BK246.out 2).trans rfl, (blk_cell BK247.out 0).trans rfl, (blk_cell BK247.out 1).trans rfl⟩ (fun hHeld => ?_)
        clear hK K
        refine norm_ (a' := ?_) ?_ ?_
        rotate_left
        ·show Act.put _ (some 24) _ = _
         simp only [Act.put, List.setIfInBounds_toArray, List.set_cons_zero, List.set_cons_succ, i64_w, i32_w]
         rfl
        refine one_ (i := 4) (N := some 25) #[true, true, true, true, true, false, false, false, true, false, false] rfl rfl (one_of HT_.out (by kernel_rfl)) (by decide) (fun K hK => ?_)
        refine goes_ Tryd.func28 (by kernel_rfl) rfl #[.agg #[.string t250, .string t251, .int .i64 t252], .agg #[.string t253, .string t254]] (by rfl) rfl rfl ZZ19826e ?_
        with_reducible refine (spec_AppendRecord.calls k t250 t251 t252 t253 t254 t255 t256 t257 t258 _ A21.out).mono ?_
        rintro e w73 ⟨rfl, hb⟩
        refine ⟨_, rfl, ?_⟩
        have n0_ := Aside0.mk (blk_below (g := gb246) (o := .cells #[.string a0_0, .string a0_1, .int .i64 a0_2] 36 (0, 0)) ZZ7d2168 hb)
        have n1_ := Aside0.mk (blk_below (g := gb247) (o := .cells #[.string a1_0, .string a1_1] 23 (0, 0)) ZZ713e70 hb)
        have n2_ := Aside0.mk (blk_below (g := gb259) (o := .cells #[.string (⟨#[]⟩ : ByteArray), .string (⟨#[]⟩ : ByteArray), .int .i64 0] 31 (0, 0)) ZZf9c532 hb)
        have n3_ := Aside0.mk (below_step ZZ1ddea0 hb)
        clear BK246
        clear BK247
        clear BK259
        clear HB
        have BK246 := n0_
        have BK247 := n1_
        have BK259 := n2_
        have HB := n3_
        clear n0_ n1_ n2_ n3_
        (try clear hb)
        (try clear hb2)
        (try clear hk)
        (try clear hi)
        refine hK.out _ _ ⟨(blk_cell BK246.out 0).trans rfl, (blk_cell BK246.out 1).trans rfl, (blk_cell BK246.out 2).trans rfl, (blk_cell BK247.out 0).trans rfl, (blk_cell BK247.out 1).trans rfl⟩ (fun hHeld => ?_)
        clear hK K
        refine norm_ (a' := ?_) ?_ ?_
        rotate_left
        ·show Act.put _ (some 25) _ = _
         simp only [Act.put, List.setIfInBounds_toArray, List.set_cons_zero, List.set_cons_succ, i64_w, i32_w]
         rfl
        refine pu 5 20 ?_
        refine pu 6 26 ?_
        refine pu 7 27 ?_
        exact norm_ ZZ539e1d (hCont (gb259) _ ⟨hHeld, ZZ7d2168, ZZ713e70, ZZf9c532, GW259.out, GE259.out, NB246_259.out, NB259_246.out, NB247_259.out, NB259_247.out, ZZ1ddea0⟩)
      ·skip
       refine box_step ?hg (N := 6) ?hd (cs := #[.string (⟨#[]⟩ : ByteArray), .string (⟨#[]⟩ : ByteArray), .int .i64 0]) (t := 31) ?hr ?_; (case hd => rfl); (case hg => rfl); (case hr => first | (go_simp; done) | (go_simp; rfl))
       intro gb259 hg w70 hbox hb
       have n0_ := Aside0.mk (blk_below (g := gb246) (o := .cells #[.string a0_0, .string a0_1, .int .i64 a0_2] 36 (0, 0)) ZZ7d2168 hb)
       have n1_ := Aside0.mk (blk_below (g := gb247) (o := .cells #[.string a1_0, .string a1_1] 23 (0, 0)) ZZ713e70 hb)
       have n2_ := Aside0.mk (below_step ZZ97a20a hb)
       have n3_ := Aside0.mk (hbox)
       have n4_ := Aside0.mk ((by rw [hg]; exact (below_size ZZ97a20a) : w.heap.size ≤ gb259))
       have n5_ := Aside0.mk ((by rw [hg]; exact (below_size ZZ97a20a) : w.heap.size ≤ gb259))
       have n6_ := Aside0.mk ((by rw [hg]; exact Nat.ne_of_lt (blk_lt (g := gb246) (o := .cells #[.string a0_0, .string a0_1, .int .i64 a0_2] 36 (0, 0)) ZZ7d2168) : gb246 ≠ gb259))
       have n7_ := Aside0.mk ((by rw [hg]; exact Nat.ne_of_gt (blk_lt (g := gb246) (o := .cells #[.string a0_0, .string a0_1, .int .i64 a0_2] 36 (0, 0)) ZZ7d2168) : gb259 ≠ gb246))
       have n8_ := Aside0.mk ((by rw [hg]; exact Nat.ne_of_lt (blk_lt (g := gb247) (o := .cells #[.string a1_0, .string a1_1] 23 (0, 0)) ZZ713e70) : gb247 ≠ gb259))
       have n9_ := Aside0.mk ((by rw [hg]; exact Nat.ne_of_gt (blk_lt (g := gb247) (o := .cells #[.string a1_0, .string a1_1] 23 (0, 0)) ZZ713e70) : gb259 ≠ gb247))
       clear BK246
       clear BK247
       clear HB
       have BK246 := n0_
       have BK247 := n1_
       have HB := n2_
       have BK259 := n3_
       have GW259 := n4_
       have GE259 := n5_
       have NB246_259 := n6_
       have NB259_246 := n7_
       have NB247_259 := n8_
       have NB259_247 := n9_
       clear n0_ n1_ n2_ n3_ n4_ n5_ n6_ n7_ n8_ n9_
       clear hb hbox hg
       refine hK.out _ _ ⟨(blk_cell BK246.out 0).trans rfl, (blk_cell BK246.out 1).trans rfl, (blk_cell BK246.out 2).trans rfl, (blk_cell BK247.out 0).trans rfl, (blk_cell BK247.out 1).trans rfl⟩ (fun hHeld => ?_)
       clear hK K
       refine norm_ (a' := ?_) ?_ ?_
       rotate_left
       ·show Act.put _ (some 6) _ = _
        simp only [Act.put, List.setIfInBounds_toArray, List.set_cons_zero, List.set_cons_succ, i64_w, i32_w]
        rfl
       refine one_ (i := 1) (N := some 22) #[true, true, true, false, false, false, false, false, true, false, false] rfl rfl (one_of HT_.out (by kernel_rfl)) (by decide) (fun K hK => ?_)
       refine goes_ Tryd.func22 (by kernel_rfl) rfl #[.agg #[.string a0_0, .string a0_1, .int .i64 a0_2]] (by rfl) rfl rfl ZZ19826e ?_
       with_reducible refine (laws_toLog.calls a0_0 a0_1 a0_2 t250 t251 t252 _ A19.out).mono ?_
       rintro e w71 ⟨rfl, hb⟩
       refine ⟨_, rfl, ?_⟩
       have n0_ := Aside0.mk (blk_below (g := gb246) (o := .cells #[.string a0_0, .string a0_1, .int .i64 a0_2] 36 (0, 0)) ZZ7d2168 hb)
       have n1_ := Aside0.mk (blk_below (g := gb247) (o := .cells #[.string a1_0, .string a1_1] 23 (0, 0)) ZZ713e70 hb)
       have n2_ := Aside0.mk (blk_below (g := gb259) (o := .cells #[.string (⟨#[]⟩ : ByteArray), .string (⟨#[]⟩ : ByteArray), .int .i64 0] 31 (0, 0)) ZZf9c532 hb)
       have n3_ := Aside0.mk (below_step ZZ1ddea0 hb)
       clear BK246
       clear BK247
       clear BK259
       clear HB
       have BK246 := n0_
       have BK247 := n1_
       have BK259 := n2_
       have HB := n3_
       clear n0_ n1_ n2_ n3_
       (try clear hb)
       (try clear hb2)
       (try clear hk)
       (try clear hi)
       refine hK.out _ _ ⟨(blk_cell BK246.out 0).trans rfl, (blk_cell BK246.out 1).trans rfl, (blk_cell BK246.out 2).trans rfl, (blk_cell BK247.out 0).trans rfl, (blk_cell BK247.out 1).trans rfl⟩ (fun hHeld => ?_)
       clear hK K
       refine norm_ (a' := ?_) ?_ ?_
       rotate_left
       ·show Act.put _ (some 22) _ = _
        simp only [Act.put, List.setIfInBounds_toArray, List.set_cons_zero, List.set_cons_succ, i64_w, i32_w]
        rfl
       refine one_ (i := 3) (N := some 24) #[true, true, true, true, false, false, false, false, true, false, false] rfl rfl (one_of HT_.out (by kernel_rfl)) (by decide) (fun K hK => ?_)
       refine goes_ Tryd.func15 (by kernel_rfl) rfl #[.agg #[.string a1_0, .string a1_1]] (by rfl) rfl rfl ZZ19826e ?_
       with_reducible refine (laws_toLogRecord.calls a1_0 a1_1 t253 t254 _ A20.out).mono ?_
       rintro e w72 ⟨rfl, hb⟩
       refine ⟨_, rfl, ?_⟩
       have n0_ := Aside0.mk (blk_below (g := gb246) (o := .cells #[.string a0_0, .string a0_1, .int .i64 a0_2] 36 (0, 0)) ZZ7d2168 hb)
       have n1_ := Aside0.mk (blk_below (g := gb247) (o := .cells #[.string a1_0, .string a1_1] 23 (0, 0)) ZZ713e70 hb)
       have n2_ := Aside0.mk (blk_below (g := gb259) (o := .cells #[.string (⟨#[]⟩ : ByteArray), .string (⟨#[]⟩ : ByteArray), .int .i64 0] 31 (0, 0)) ZZf9c532 hb)
       have n3_ := Aside0.mk (below_step ZZ1ddea0 hb)
       clear BK246
       clear BK247
       clear BK259
       clear HB
       have BK246 := n0_
       have BK247 := n1_
       have BK259 := n2_
       have HB := n3_
       clear n0_ n1_ n2_ n3_
       (try clear hb)
       (try clear hb2)
       (try clear hk)
       (try clear hi)
       refine hK.out _ _ ⟨(blk_cell BK246.out 0).trans rfl, (blk_cell BK246.out 1).trans rfl, (blk_cell BK246.out 2).trans rfl, (blk_cell BK247.out 0).trans rfl, (blk_cell BK247.out 1).trans rfl⟩ (fun hHeld => ?_)
       clear hK K
       refine norm_ (a' := ?_) ?_ ?_
       rotate_left
       ·show Act.put _ (some 24) _ = _
        simp only [Act.put, List.setIfInBounds_toArray, List.set_cons_zero, List.set_cons_succ, i64_w, i32_w]
        rfl
       refine one_ (i := 4) (N := some 25) #[true, true, true, true, true, false, false, false, true, false, false] rfl rfl (one_of HT_.out (by kernel_rfl)) (by decide) (fun K hK => ?_)
       refine goes_ Tryd.func28 (by kernel_rfl) rfl #[.agg #[.string t250, .string t251, .int .i64 t252], .agg #[.string t253, .string t254]] (by rfl) rfl rfl ZZ19826e ?_
       with_reducible refine (spec_AppendRecord.calls k t250 t251 t252 t253 t254 t255 t256 t257 t258 _ A21.out).mono ?_
       rintro e w73 ⟨rfl, hb⟩
       refine ⟨_, rfl, ?_⟩
       have n0_ := Aside0.mk (blk_below (g := gb246) (o := .cells #[.string a0_0, .string a0_1, .int .i64 a0_2] 36 (0, 0)) ZZ7d2168 hb)
       have n1_ := Aside0.mk (blk_below (g := gb247) (o := .cells #[.string a1_0, .string a1_1] 23 (0, 0)) ZZ713e70 hb)
       have n2_ := Aside0.mk (blk_below (g := gb259) (o := .cells #[.string (⟨#[]⟩ : ByteArray), .string (⟨#[]⟩ : ByteArray), .int .i64 0] 31 (0, 0)) ZZf9c532 hb)
       have n3_ := Aside0.mk (below_step ZZ1ddea0 hb)
       clear BK246
       clear BK247
       clear BK259
       clear HB
       have BK246 := n0_
       have BK247 := n1_
       have BK259 := n2_
       have HB := n3_
       clear n0_ n1_ n2_ n3_
       (try clear hb)
       (try clear hb2)
       (try clear hk)
       (try clear hi)
       refine hK.out _ _ ⟨(blk_cell BK246.out 0).trans rfl, (blk_cell BK246.out 1).trans rfl, (blk_cell BK246.out 2).trans rfl, (blk_cell BK247.out 0).trans rfl, (blk_cell BK247.out 1).trans rfl⟩ (fun hHeld => ?_)
       clear hK K
       refine norm_ (a' := ?_) ?_ ?_
       rotate_left
       ·show Act.put _ (some 25) _ = _
        simp only [Act.put, List.setIfInBounds_toArray, List.set_cons_zero, List.set_cons_succ, i64_w, i32_w]
        rfl
       refine pu 5 20 ?_
       refine pu 6 26 ?_
       refine pu 7 27 ?_
       exact norm_ ZZ539e1d (hCont (gb259) _ ⟨hHeld, ZZ7d2168, ZZ713e70, ZZf9c532, GW259.out, GE259.out, NB246_259.out, NB259_246.out, NB247_259.out, NB259_247.out, ZZ1ddea0⟩)
     rintro gb259 w74 ⟨hS_, h0_, h1_, h2_, h3_, h4_, h5_, h6_, h7_, h8_, h9_⟩
     have n0_ : Aside0 (w74.heap[gb246]? = some (.cells #[.string a0_0, .string a0_1, .int .i64 a0_2] 36 (0, 0))) := ⟨h0_⟩
     have n1_ : Aside0 (w74.heap[gb247]? = some (.cells #[.string a1_0, .string a1_1] 23 (0, 0))) := ⟨h1_⟩
     have n2_ : Aside0 (w74.heap[gb259]? = some (.cells #[.string (⟨#[]⟩ : ByteArray), .string (⟨#[]⟩ : ByteArray), .int .i64 0] 31 (0, 0))) := ⟨h2_⟩
     have n3_ : Aside0 (w.heap.size ≤ gb259) := ⟨h3_⟩
     have n4_ : Aside0 (w.heap.size ≤ gb259) := ⟨h4_⟩
     have n5_ : Aside0 (gb246 ≠ gb259) := ⟨h5_⟩
     have n6_ : Aside0 (gb259 ≠ gb246) := ⟨h6_⟩
     have n7_ : Aside0 (gb247 ≠ gb259) := ⟨h7_⟩
     have n8_ : Aside0 (gb259 ≠ gb247) := ⟨h8_⟩
     have n9_ : Aside0 (Below w.heap.size w w74) := ⟨h9_⟩
     clear BK246
     clear BK247
     clear HB
     clear h0_ h1_ h2_ h3_ h4_ h5_ h6_ h7_ h8_ h9_
     have BK246 := n0_
     have BK247 := n1_
     have BK259 := n2_
     have GW259 := n3_
     have GE259 := n4_
     have NB246_259 := n5_
     have NB259_246 := n6_
     have NB247_259 := n7_
     have NB259_247 := n8_
     have HB := n9_
     clear n0_ n1_ n2_ n3_ n4_ n5_ n6_ n7_ n8_ n9_
     have hHeld : w74.cell? ⟨gb246, 0, none⟩ = some (.string a0_0) ∧ w74.cell? ⟨gb246, 1, none⟩ = some (.string a0_1) ∧ w74.cell? ⟨gb246, 2, none⟩ = some (.int .i64 a0_2) ∧ w74.cell? ⟨gb247, 0, none⟩ = some (.string a1_0) ∧ w74.cell? ⟨gb247, 1, none⟩ = some (.string a1_1) := hS_
     refine norm_ (a' := ?_) ?_ ?_
     rotate_left
     ·simp only [putAll, Act.put, List.setIfInBounds_toArray, List.set_cons_zero, List.set_cons_succ]
      rfl
     refine one_ (i := 9) (N := none) #[true, true, true, true, true, true, true, true, true, true, false] rfl rfl (one_of HT_.out (by kernel_rfl)) (by decide) (fun K hK => ?_)
     have hs75 : w74.cell? ⟨gb259, 0, none⟩ = some (.string (⟨#[]⟩ : ByteArray)) := (blk_cell BK259.out 0).trans rfl
     have hfs75 := blk_frozen BK259.out 0
     have hns75_0 := NB246_259.out
     have hns75_1 := NB247_259.out
     have hms75_0 := NB259_246.out
     have hms75_1 := NB259_247.out
     have hs76 : w74.cell? ⟨gb259, 1, none⟩ = some (.string (⟨#[]⟩ : ByteArray)) := (blk_cell BK259.out 1).trans rfl
     have hfs76 := blk_frozen BK259.out 1
     have hns76_0 := NB246_259.out
     have hns76_1 := NB247_259.out
     have hms76_0 := NB259_246.out
     have hms76_1 := NB259_247.out
     have hs77 : w74.cell? ⟨gb259, 2, none⟩ = some (.int .i64 0) := (blk_cell BK259.out 2).trans rfl
     have hfs77 := blk_frozen BK259.out 2
     have hns77_0 := NB246_259.out
     have hns77_1 := NB247_259.out
     have hms77_0 := NB259_246.out
     have hms77_1 := NB259_247.out
     refine skip_ (w1 := ?_) (by rfl) rfl ?_ ?_
     rotate_left
     ·go_simp
      rfl
     refine hK.out _ _ ⟨((cell_far (p := ⟨gb259, _, none⟩) NB246_259.out _).trans (((cell_far (p := ⟨gb259, _, none⟩) NB246_259.out _).trans (((cell_far (p := ⟨gb259, _, none⟩) NB246_259.out _).trans (hHeld.1)))))), ((cell_far (p := ⟨gb259, _, none⟩) NB246_259.out _).trans (((cell_far (p := ⟨gb259, _, none⟩) NB246_259.out _).trans (((cell_far (p := ⟨gb259, _, none⟩) NB246_259.out _).trans (hHeld.2.1)))))), ((cell_far (p := ⟨gb259, _, none⟩) NB246_259.out _).trans (((cell_far (p := ⟨gb259, _, none⟩) NB246_259.out _).trans (((cell_far (p := ⟨gb259, _, none⟩) NB246_259.out _).trans (hHeld.2.2.1)))))), ((cell_far (p := ⟨gb259, _, none⟩) NB247_259.out _).trans (((cell_far (p := ⟨gb259, _, none⟩) NB247_259.out _).trans (((cell_far (p := ⟨gb259, _, none⟩) NB247_259.out _).trans (hHeld.2.2.2.1)))))), ((cell_far (p := ⟨gb259, _, none⟩) NB247_259.out _).trans (((cell_far (p := ⟨gb259, _, none⟩) NB247_259.out _).trans (((cell_far (p := ⟨gb259, _, none⟩) NB247_259.out _).trans (hHeld.2.2.2.2))))))⟩ (fun hHeld => ?_)
     clear hK K
     refine pu 10 7 ?_
     refine done_ (done_of HT_.out (by kernel_rfl)) ?_
     try go_wp2
     have n0_ : Aside0 ((((w74.setCell ⟨gb259, 0, none⟩ (.string t255)).setCell ⟨gb259, 1, none⟩ (.string t256)).setCell ⟨gb259, 2, none⟩ (.int .i64 t257)).heap[gb246]? = some (.cells #[.string a0_0, .string a0_1, .int .i64 a0_2] 36 (0, 0))) := ⟨by (with_reducible repeat (first | refine blk_drewN ?_ _ | refine blk_drew ?_ | refine blk_alloc ?_ _)); refine blk_far ?_ NB246_259.out _; (with_reducible repeat (first | refine blk_drewN ?_ _ | refine blk_drew ?_ | refine blk_alloc ?_ _)); refine blk_far ?_ NB246_259.out _; (with_reducible repeat (first | refine blk_drewN ?_ _ | refine blk_drew ?_ | refine blk_alloc ?_ _)); refine blk_far ?_ NB246_259.out _; (with_reducible repeat (first | refine blk_drewN ?_ _ | refine blk_drew ?_ | refine blk_alloc ?_ _)); exact BK246.out⟩
     have n1_ : Aside0 ((((w74.setCell ⟨gb259, 0, none⟩ (.string t255)).setCell ⟨gb259, 1, none⟩ (.string t256)).setCell ⟨gb259, 2, none⟩ (.int .i64 t257)).heap[gb247]? = some (.cells #[.string a1_0, .string a1_1] 23 (0, 0))) := ⟨by (with_reducible repeat (first | refine blk_drewN ?_ _ | refine blk_drew ?_ | refine blk_alloc ?_ _)); refine blk_far ?_ NB247_259.out _; (with_reducible repeat (first | refine blk_drewN ?_ _ | refine blk_drew ?_ | refine blk_alloc ?_ _)); refine blk_far ?_ NB247_259.out _; (with_reducible repeat (first | refine blk_drewN ?_ _ | refine blk_drew ?_ | refine blk_alloc ?_ _)); refine blk_far ?_ NB247_259.out _; (with_reducible repeat (first | refine blk_drewN ?_ _ | refine blk_drew ?_ | refine blk_alloc ?_ _)); exact BK247.out⟩
     have n2_ : Aside0 ((((w74.setCell ⟨gb259, 0, none⟩ (.string t255)).setCell ⟨gb259, 1, none⟩ (.string t256)).setCell ⟨gb259, 2, none⟩ (.int .i64 t257)).heap[gb259]? = some (.cells #[.string t255, .string t256, .int .i64 t257] 31 (0, 0))) := ⟨by (with_reducible repeat (first | refine blk_drewN ?_ _ | refine blk_drew ?_ | refine blk_alloc ?_ _)); refine blk_put (cs := #[.string t255, .string t256, .int .i64 0]) ?_ 2 _ rfl; (with_reducible repeat (first | refine blk_drewN ?_ _ | refine blk_drew ?_ | refine blk_alloc ?_ _)); refine blk_put (cs := #[.string t255, .string (⟨#[]⟩ : ByteArray), .int .i64 0]) ?_ 1 _ rfl; (with_reducible repeat (first | refine blk_drewN ?_ _ | refine blk_drew ?_ | refine blk_alloc ?_ _)); refine blk_put (cs := #[.string (⟨#[]⟩ : ByteArray), .string (⟨#[]⟩ : ByteArray), .int .i64 0]) ?_ 0 _ rfl; (with_reducible repeat (first | refine blk_drewN ?_ _ | refine blk_drew ?_ | refine blk_alloc ?_ _)); exact BK259.out⟩
     have n3_ : Aside0 (Below w.heap.size w (((w74.setCell ⟨gb259, 0, none⟩ (.string t255)).setCell ⟨gb259, 1, none⟩ (.string t256)).setCell ⟨gb259, 2, none⟩ (.int .i64 t257))) := ⟨by repeat (first | (with_reducible first | exact HB.out | apply below_alloc | apply pw_below_drewN | apply below_drew1 | refine below_set ?_ GE246.out | refine below_set ?_ GE247.out | refine below_set ?_ GE259.out) | exact HB.out)⟩
     (try clear BK246)
     (try clear BK247)
     (try clear BK259)
     (try clear HB)
     generalize (((w74.setCell ⟨gb259, 0, none⟩ (.string t255)).setCell ⟨gb259, 1, none⟩ (.string t256)).setCell ⟨gb259, 2, none⟩ (.int .i64 t257)) = w78 at n0_ n1_ n2_ n3_ ⊢
     have BK246 := n0_
     have BK247 := n1_
     have BK259 := n2_
     have HB := n3_
     clear n0_ n1_ n2_ n3_
     have n0_ := Aside0.mk (blk_drew BK246.out)
     have n1_ := Aside0.mk (blk_drew BK247.out)
     have n2_ := Aside0.mk (blk_drew BK259.out)
     have n3_ := Aside0.mk (below_drew1 HB.out)
     clear BK246
     clear BK247
     clear BK259
     clear HB
     have BK246 := n0_
     have BK247 := n1_
     have BK259 := n2_
     have HB := n3_
     clear n0_ n1_ n2_ n3_
     refine start_ (n := 11) (S := fun w' => w'.cell? ⟨gb246, 0, none⟩ = some (.string a0_0) ∧ w'.cell? ⟨gb246, 1, none⟩ = some (.string a0_1) ∧ w'.cell? ⟨gb246, 2, none⟩ = some (.int .i64 a0_2) ∧ w'.cell? ⟨gb247, 0, none⟩ = some (.string a1_0) ∧ w'.cell? ⟨gb247, 1, none⟩ = some (.string a1_1)) (ds := []) #[false, false, false, false, false, false, false, false, false, false, false] (by kernel_rfl) rfl rfl ⟨(blk_cell BK246.out 0).trans rfl, (blk_cell BK246.out 1).trans rfl, (blk_cell BK246.out 2).trans rfl, (blk_cell BK247.out 0).trans rfl, (blk_cell BK247.out 1).trans rfl⟩ (fun hHeld => ?_); refine with_tabW laws_FnExactAppendRecord.tab9 laws_FnExactAppendRecord.bits9 (fun HT_ HW_ => ?_)
     generalize w78.drew = w79 at BK246 BK247 BK259 HB hHeld ⊢
     refine tk 0 29 ?_
     refine tk 2 31 ?_
     refine join_ (σ := Nat) 2 #[true, true, true, true, true, true, true, true, true, false, false] (fun s_ => [(30, .agg #[.string t260, .string t261, .int .i64 t262]), (32, .agg #[.string t263, .string t264]), (33, .tuple #[.agg #[.string t265, .string t266, .int .i64 t267], .int .i64 t268]), (8, .pointer (some ⟨s_, 0, none⟩)), (28, .tuple #[.agg #[.string t265, .string t266, .int .i64 t267], .int .i64 t268]), (34, .agg #[.string t265, .string t266, .int .i64 t267]), (35, .int .i64 t268)]) (fun s_ w' => (w'.cell? ⟨gb246, 0, none⟩ = some (.string a0_0) ∧ w'.cell? ⟨gb246, 1, none⟩ = some (.string a0_1) ∧ w'.cell? ⟨gb246, 2, none⟩ = some (.int .i64 a0_2) ∧ w'.cell? ⟨gb247, 0, none⟩ = some (.string a1_0) ∧ w'.cell? ⟨gb247, 1, none⟩ = some (.string a1_1)) ∧ (w'.heap[gb246]? = some (.cells #[.string a0_0, .string a0_1, .int .i64 a0_2] 36 (0, 0))) ∧ (w'.heap[gb247]? = some (.cells #[.string a1_0, .string a1_1] 23 (0, 0))) ∧ (w'.heap[gb259]? = some (.cells #[.string t255, .string t256, .int .i64 t257] 31 (0, 0))) ∧ (w'.heap[s_]? = some (.cells #[.string (⟨#[]⟩ : ByteArray), .string (⟨#[]⟩ : ByteArray), .int .i64 0] 31 (0, 0))) ∧ (w.heap.size ≤ s_) ∧ (w.heap.size ≤ s_) ∧ (gb246 ≠ s_) ∧ (s_ ≠ gb246) ∧ (gb247 ≠ s_) ∧ (s_ ≠ gb247) ∧ (gb259 ≠ s_) ∧ (s_ ≠ gb259) ∧ (Below w.heap.size w w')) ?_ ?_
     rotate_left
     ·intro hCont
      refine two_ (i := 1) (j := 8) (Ni := some 30) (Nj := some 8) #[true, true, true, false, false, false, false, false, false, false, false] #[true, false, true, false, false, false, false, false, true, false, false] rfl rfl rfl rfl (two_of HT_.out (by kernel_rfl)) (by decide) (by decide) (fun K hK => ?_) (fun K hK => ?_)
      ·skip
       refine goes_ Tryd.func22 (by kernel_rfl) rfl #[.agg #[.string a0_0, .string a0_1, .int .i64 a0_2]] (by rfl) rfl rfl ZZ19826e ?_
       with_reducible refine (laws_toLog.calls a0_0 a0_1 a0_2 t260 t261 t262 _ A22.out).mono ?_
       rintro e w80 ⟨rfl, hb⟩
       refine ⟨_, rfl, ?_⟩
       have n0_ := Aside0.mk (blk_below (g := gb246) (o := .cells #[.string a0_0, .string a0_1, .int .i64 a0_2] 36 (0, 0)) ZZ7d2168 hb)
       have n1_ := Aside0.mk (blk_below (g := gb247) (o := .cells #[.string a1_0, .string a1_1] 23 (0, 0)) ZZ713e70 hb)
       have n2_ := Aside0.mk (blk_below (g := gb259) (o := .cells #[.string t255, .string t256, .int .i64 t257] 31 (0, 0)) ZZf9c532 hb)
       have n3_ := Aside0.mk (below_step ZZ1ddea0 hb)
       clear BK246
       clear BK247
       clear BK259
       clear HB
       have BK246 := n0_
       have BK247 := n1_
       have BK259 := n2_
       have HB := n3_
       clear n0_ n1_ n2_ n3_
       (try clear hb)
       (try clear hb2)
       (try clear hk)
       (try clear hi)
       refine hK.out _ _ ⟨(blk_cell BK246.out 0).trans rfl, (blk_cell BK246.out 1).trans rfl, (blk_cell BK246.out 2).trans rfl, (blk_cell BK247.out 0).trans rfl, (blk_cell BK247.out 1).trans rfl⟩ (fun hHeld => ?_)
       clear hK K
       refine norm_ (a' := ?_) ?_ ?_
       rotate_left
       ·show Act.put _ (some 30) _ = _
        simp only [Act.put, List.setIfInBounds_toArray, List.set_cons_zero, List.set_cons_succ, i64_w, i32_w]
        rfl
       refine two_ (i := 3) (j := 8) (Ni := some 32) (Nj := some 8) #[true, true, true, true, false, false, false, false, false, false, false] #[true, true, true, false, false, false, false, false, true, false, false] rfl rfl rfl rfl (two_of HT_.out (by kernel_rfl)) (by decide) (by decide) (fun K hK => ?_) (fun K hK => ?_)
       ·skip
        refine goes_ Tryd.func15 (by kernel_rfl) rfl #[.agg #[.string a1_0, .string a1_1]] (by rfl) rfl rfl ZZ19826e ?_
        with_reducible refine (laws_toLogRecord.calls a1_0 a1_1 t263 t264 _ A23.out).mono ?_
        rintro e w81 ⟨rfl, hb⟩
        refine ⟨_, rfl, ?_⟩
        have n0_ := Aside0.mk (blk_below (g := gb246) (o := .cells #[.string a0_0, .string a0_1, .int .i64 a0_2] 36 (0, 0)) ZZ7d2168 hb)
        have n1_ := Aside0.mk (blk_below (g := gb247) (o := .cells #[.string a1_0, .string a1_1] 23 (0, 0)) ZZ713e70 hb)
        have n2_ := Aside0.mk (blk_below (g := gb259) (o := .cells #[.string t255, .string t256, .int .i64 t257] 31 (0, 0)) ZZf9c532 hb)
        have n3_ := Aside0.mk (below_step ZZ1ddea0 hb)
        clear BK246
        clear BK247
        clear BK259
        clear HB
        have BK246 := n0_
        have BK247 := n1_
        have BK259 := n2_
        have HB := n3_
        clear n0_ n1_ n2_ n3_
        (try clear hb)
        (try clear hb2)
        (try clear hk)
        (try clear hi)
        refine hK.out _ _ ⟨(blk_cell BK246.out 0).trans rfl, (blk_cell BK246.out 1).trans rfl, (blk_cell BK246.out 2).trans rfl, (blk_cell BK247.out 0).trans rfl, (blk_cell BK247.out 1).trans rfl⟩ (fun hHeld => ?_)
        clear hK K
        refine norm_ (a' := ?_) ?_ ?_
        rotate_left
        ·show Act.put _ (some 32) _ = _
         simp only [Act.put, List.setIfInBounds_toArray, List.set_cons_zero, List.set_cons_succ, i64_w, i32_w]
         rfl
        refine two_ (i := 4) (j := 8) (Ni := some 33) (Nj := some 8) #[true, true, true, true, true, false, false, false, false, false, false] #[true, true, true, true, false, false, false, false, true, false, false] rfl rfl rfl rfl (two_of HT_.out (by kernel_rfl)) (by decide) (by decide) (fun K hK => ?_) (fun K hK => ?_)
        ·skip
         refine goes_ Tryd.func29 (by kernel_rfl) rfl #[.agg #[.string t260, .string t261, .int .i64 t262], .agg #[.string t263, .string t264]] (by rfl) rfl rfl ZZ19826e ?_
         with_reducible refine (impl_AppendRecord.calls k t260 t261 t262 t263 t264 t265 t266 t267 t268 _ ?side1 A24.out).mono ?_
         (case side1 => first | exact HV.out | exact TInv.below HV.out ZZ1ddea0)
         rintro e w82 ⟨rfl, hb⟩
         refine ⟨_, rfl, ?_⟩
         have n0_ := Aside0.mk (blk_below (g := gb246) (o := .cells #[.string a0_0, .string a0_1, .int .i64 a0_2] 36 (0, 0)) ZZ7d2168 hb)
         have n1_ := Aside0.mk (blk_below (g := gb247) (o := .cells #[.string a1_0, .string a1_1] 23 (0, 0)) ZZ713e70 hb)
         have n2_ := Aside0.mk (blk_below (g := gb259) (o := .cells #[.string t255, .string t256, .int .i64 t257] 31 (0, 0)) ZZf9c532 hb)
         have n3_ := Aside0.mk (below_step ZZ1ddea0 hb)
         clear BK246
         clear BK247
         clear BK259
         clear HB
         have BK246 := n0_
         have BK247 := n1_
         have BK259 := n2_
         have HB := n3_
         clear n0_ n1_ n2_ n3_
         (try clear hb)
         (try clear hb2)
         (try clear hk)
         (try clear hi)
         refine hK.out _ _ ⟨(blk_cell BK246.out 0).trans rfl, (blk_cell BK246.out 1).trans rfl, (blk_cell BK246.out 2).trans rfl, (blk_cell BK247.out 0).trans rfl, (blk_cell BK247.out 1).trans rfl⟩ (fun hHeld => ?_)
         clear hK K
         refine norm_ (a' := ?_) ?_ ?_
         rotate_left
         ·show Act.put _ (some 33) _ = _
          simp only [Act.put, List.setIfInBounds_toArray, List.set_cons_zero, List.set_cons_succ, i64_w, i32_w]
          rfl
         refine pu 5 28 ?_
         refine pu 6 34 ?_
         refine pu 7 35 ?_
         refine one_ (i := 8) (N := some 8) #[true, true, true, true, true, true, true, true, true, false, false] rfl rfl (one_of HT_.out (by kernel_rfl)) (by decide) (fun K hK => ?_)
         refine box_step ?hg (N := 8) ?hd (cs := #[.string (⟨#[]⟩ : ByteArray), .string (⟨#[]⟩ : ByteArray), .int .i64 0]) (t := 31) ?hr ?_; (case hd => rfl); (case hg => rfl); (case hr => first | (go_simp; done) | (go_simp; rfl))
         intro gb269 hg w83 hbox hb
         have n0_ := Aside0.mk (blk_below (g := gb246) (o := .cells #[.string a0_0, .string a0_1, .int .i64 a0_2] 36 (0, 0)) ZZ7d2168 hb)
         have n1_ := Aside0.mk (blk_below (g := gb247) (o := .cells #[.string a1_0, .string a1_1] 23 (0, 0)) ZZ713e70 hb)
         have n2_ := Aside0.mk (blk_below (g := gb259) (o := .cells #[.string t255, .string t256, .int .i64 t257] 31 (0, 0)) ZZf9c532 hb)
         have n3_ := Aside0.mk (below_step ZZ1ddea0 hb)
         have n4_ := Aside0.mk (hbox)
         have n5_ := Aside0.mk ((by rw [hg]; exact (below_size ZZ1ddea0) : w.heap.size ≤ gb269))
         have n6_ := Aside0.mk ((by rw [hg]; exact (below_size ZZ1ddea0) : w.heap.size ≤ gb269))
         have n7_ := Aside0.mk ((by rw [hg]; exact Nat.ne_of_lt (blk_lt (g := gb246) (o := .cells #[.string a0_0, .string a0_1, .int .i64 a0_2] 36 (0, 0)) ZZ7d2168) : gb246 ≠ gb269))
         have n8_ := Aside0.mk ((by rw [hg]; exact Nat.ne_of_gt (blk_lt (g := gb246) (o := .cells #[.string a0_0, .string a0_1, .int .i64 a0_2] 36 (0, 0)) ZZ7d2168) : gb269 ≠ gb246))
         have n9_ := Aside0.mk ((by rw [hg]; exact Nat.ne_of_lt (blk_lt (g := gb247) (o := .cells #[.string a1_0, .string a1_1] 23 (0, 0)) ZZ713e70) : gb247 ≠ gb269))
         have n10_ := Aside0.mk ((by rw [hg]; exact Nat.ne_of_gt (blk_lt (g := gb247) (o := .cells #[.string a1_0, .string a1_1] 23 (0, 0)) ZZ713e70) : gb269 ≠ gb247))
         have n11_ := Aside0.mk ((by rw [hg]; exact Nat.ne_of_lt (blk_lt (g := gb259) (o := .cells #[.string t255, .string t256, .int .i64 t257] 31 (0, 0)) ZZf9c532) : gb259 ≠ gb269))
         have n12_ := Aside0.mk ((by rw [hg]; exact Nat.ne_of_gt (blk_lt (g := gb259) (o := .cells #[.string t255, .string t256, .int .i64 t257] 31 (0, 0)) ZZf9c532) : gb269 ≠ gb259))
         clear BK246
         clear BK247
         clear BK259
         clear HB
         have BK246 := n0_
         have BK247 := n1_
         have BK259 := n2_
         have HB := n3_
         have BK269 := n4_
         have GW269 := n5_
         have GE269 := n6_
         have NB246_269 := n7_
         have NB269_246 := n8_
         have NB247_269 := n9_
         have NB269_247 := n10_
         have NB259_269 := n11_
         have NB269_259 := n12_
         clear n0_ n1_ n2_ n3_ n4_ n5_ n6_ n7_ n8_ n9_ n10_ n11_ n12_
         clear hb hbox hg
         refine hK.out _ _ ⟨(blk_cell BK246.out 0).trans rfl, (blk_cell BK246.out 1).trans rfl, (blk_cell BK246.out 2).trans rfl, (blk_cell BK247.out 0).trans rfl, (blk_cell BK247.out 1).trans rfl⟩ (fun hHeld => ?_)
         clear hK K
         refine norm_ (a' := ?_) ?_ ?_
         rotate_left
         ·show Act.put _ (some 8) _ = _
          simp only [Act.put, List.setIfInBounds_toArray, List.set_cons_zero, List.set_cons_succ, i64_w, i32_w]
          rfl
         exact norm_ ZZ539e1d (hCont (gb269) _ ⟨hHeld, ZZ7d2168, ZZ713e70, ZZf9c532, ZZd45ccb, GW269.out, GE269.out, NB246_269.out, NB269_246.out, NB247_269.out, NB269_247.out, NB259_269.out, NB269_259.out, ZZbd9ab3⟩)
        ·skip
         refine box_step ?hg (N := 8) ?hd (cs := #[.string (⟨#[]⟩ : ByteArray), .string (⟨#[]⟩ : ByteArray), .int .i64 0]) (t := 31) ?hr ?_; (case hd => rfl); (case hg => rfl); (case hr => first | (go_simp; done) | (go_simp; rfl))
         intro gb269 hg w82 hbox hb
         have n0_ := Aside0.mk (blk_below (g := gb246) (o := .cells #[.string a0_0, .string a0_1, .int .i64 a0_2] 36 (0, 0)) ZZ7d2168 hb)
         have n1_ := Aside0.mk (blk_below (g := gb247) (o := .cells #[.string a1_0, .string a1_1] 23 (0, 0)) ZZ713e70 hb)
         have n2_ := Aside0.mk (blk_below (g := gb259) (o := .cells #[.string t255, .string t256, .int .i64 t257] 31 (0, 0)) ZZf9c532 hb)
         have n3_ := Aside0.mk (below_step ZZ1ddea0 hb)
         have n4_ := Aside0.mk (hbox)
         have n5_ := Aside0.mk ((by rw [hg]; exact (below_size ZZ1ddea0) : w.heap.size ≤ gb269))
         have n6_ := Aside0.mk ((by rw [hg]; exact (below_size ZZ1ddea0) : w.heap.size ≤ gb269))
         have n7_ := Aside0.mk ((by rw [hg]; exact Nat.ne_of_lt (blk_lt (g := gb246) (o := .cells #[.string a0_0, .string a0_1, .int .i64 a0_2] 36 (0, 0)) ZZ7d2168) : gb246 ≠ gb269))
         have n8_ := Aside0.mk ((by rw [hg]; exact Nat.ne_of_gt (blk_lt (g := gb246) (o := .cells #[.string a0_0, .string a0_1, .int .i64 a0_2] 36 (0, 0)) ZZ7d2168) : gb269 ≠ gb246))
         have n9_ := Aside0.mk ((by rw [hg]; exact Nat.ne_of_lt (blk_lt (g := gb247) (o := .cells #[.string a1_0, .string a1_1] 23 (0, 0)) ZZ713e70) : gb247 ≠ gb269))
         have n10_ := Aside0.mk ((by rw [hg]; exact Nat.ne_of_gt (blk_lt (g := gb247) (o := .cells #[.string a1_0, .string a1_1] 23 (0, 0)) ZZ713e70) : gb269 ≠ gb247))
         have n11_ := Aside0.mk ((by rw [hg]; exact Nat.ne_of_lt (blk_lt (g := gb259) (o := .cells #[.string t255, .string t256, .int .i64 t257] 31 (0, 0)) ZZf9c532) : gb259 ≠ gb269))
         have n12_ := Aside0.mk ((by rw [hg]; exact Nat.ne_of_gt (blk_lt (g := gb259) (o := .cells #[.string t255, .string t256, .int .i64 t257] 31 (0, 0)) ZZf9c532) : gb269 ≠ gb259))
         clear BK246
         clear BK247
         clear BK259
         clear HB
         have BK246 := n0_
         have BK247 := n1_
         have BK259 := n2_
         have HB := n3_
         have BK269 := n4_
         have GW269 := n5_
         have GE269 := n6_
         have NB246_269 := n7_
         have NB269_246 := n8_
         have NB247_269 := n9_
         have NB269_247 := n10_
         have NB259_269 := n11_
         have NB269_259 := n12_
         clear n0_ n1_ n2_ n3_ n4_ n5_ n6_ n7_ n8_ n9_ n10_ n11_ n12_
         clear hb hbox hg
         refine hK.out _ _ ⟨(blk_cell BK246.out 0).trans rfl, (blk_cell BK246.out 1).trans rfl, (blk_cell BK246.out 2).trans rfl, (blk_cell BK247.out 0).trans rfl, (blk_cell BK247.out 1).trans rfl⟩ (fun hHeld => ?_)
         clear hK K
         refine norm_ (a' := ?_) ?_ ?_
         rotate_left
         ·show Act.put _ (some 8) _ = _
          simp only [Act.put, List.setIfInBounds_toArray, List.set_cons_zero, List.set_cons_succ, i64_w, i32_w]
          rfl
         refine one_ (i := 4) (N := some 33) #[true, true, true, true, true, false, false, false, true, false, false] rfl rfl (one_of HT_.out (by kernel_rfl)) (by decide) (fun K hK => ?_)
         refine goes_ Tryd.func29 (by kernel_rfl) rfl #[.agg #[.string t260, .string t261, .int .i64 t262], .agg #[.string t263, .string t264]] (by rfl) rfl rfl ZZ19826e ?_
         with_reducible refine (impl_AppendRecord.calls k t260 t261 t262 t263 t264 t265 t266 t267 t268 _ ?side1 A24.out).mono ?_
         (case side1 => first | exact HV.out | exact TInv.below HV.out ZZbd9ab3)
         rintro e w83 ⟨rfl, hb⟩
         refine ⟨_, rfl, ?_⟩
         have n0_ := Aside0.mk (blk_below (g := gb246) (o := .cells #[.string a0_0, .string a0_1, .int .i64 a0_2] 36 (0, 0)) ZZ7d2168 hb)
         have n1_ := Aside0.mk (blk_below (g := gb247) (o := .cells #[.string a1_0, .string a1_1] 23 (0, 0)) ZZ713e70 hb)
         have n2_ := Aside0.mk (blk_below (g := gb259) (o := .cells #[.string t255, .string t256, .int .i64 t257] 31 (0, 0)) ZZf9c532 hb)
         have n3_ := Aside0.mk (blk_below (g := gb269) (o := .cells #[.string (⟨#[]⟩ : ByteArray), .string (⟨#[]⟩ : ByteArray), .int .i64 0] 31 (0, 0)) ZZd45ccb hb)
         have n4_ := Aside0.mk (below_step ZZbd9ab3 hb)
         clear BK246
         clear BK247
         clear BK259
         clear BK269
         clear HB
         have BK246 := n0_
         have BK247 := n1_
         have BK259 := n2_
         have BK269 := n3_
         have HB := n4_
         clear n0_ n1_ n2_ n3_ n4_
         (try clear hb)
         (try clear hb2)
         (try clear hk)
         (try clear hi)
         refine hK.out _ _ ⟨(blk_cell BK246.out 0).trans rfl, (blk_cell BK246.out 1).trans rfl, (blk_cell BK246.out 2).trans rfl, (blk_cell BK247.out 0).trans rfl, (blk_cell BK247.out 1).trans rfl⟩ (fun hHeld => ?_)
         clear hK K
         refine norm_ (a' := ?_) ?_ ?_
         rotate_left
         ·show Act.put _ (some 33) _ = _
          simp only [Act.put, List.setIfInBounds_toArray, List.set_cons_zero, List.set_cons_succ, i64_w, i32_w]
          rfl
         refine pu 5 28 ?_
         refine pu 6 34 ?_
         refine pu 7 35 ?_
         exact norm_ ZZ539e1d (hCont (gb269) _ ⟨hHeld, ZZ7d2168, ZZ713e70, ZZf9c532, ZZd45ccb, GW269.out, GE269.out, NB246_269.out, NB269_246.out, NB247_269.out, NB269_247.out, NB259_269.out, NB269_259.out, ZZbd9ab3⟩)
       ·skip
        refine box_step ?hg (N := 8) ?hd (cs := #[.string (⟨#[]⟩ : ByteArray), .string (⟨#[]⟩ : ByteArray), .int .i64 0]) (t := 31) ?hr ?_; (case hd => rfl); (case hg => rfl); (case hr => first | (go_simp; done) | (go_simp; rfl))
        intro gb269 hg w81 hbox hb
        have n0_ := Aside0.mk (blk_below (g := gb246) (o := .cells #[.string a0_0, .string a0_1, .int .i64 a0_2] 36 (0, 0)) ZZ7d2168 hb)
        have n1_ := Aside0.mk (blk_below (g := gb247) (o := .cells #[.string a1_0, .string a1_1] 23 (0, 0)) ZZ713e70 hb)
        have n2_ := Aside0.mk (blk_below (g := gb259) (o := .cells #[.string t255, .string t256, .int .i64 t257] 31 (0, 0)) ZZf9c532 hb)
        have n3_ := Aside0.mk (below_step ZZ1ddea0 hb)
        have n4_ := Aside0.mk (hbox)
        have n5_ := Aside0.mk ((by rw [hg]; exact (below_size ZZ1ddea0) : w.heap.size ≤ gb269))
        have n6_ := Aside0.mk ((by rw [hg]; exact (below_size ZZ1ddea0) : w.heap.size ≤ gb269))
        have n7_ := Aside0.mk ((by rw [hg]; exact Nat.ne_of_lt (blk_lt (g := gb246) (o := .cells #[.string a0_0, .string a0_1, .int .i64 a0_2] 36 (0, 0)) ZZ7d2168) : gb246 ≠ gb269))
        have n8_ := Aside0.mk ((by rw [hg]; exact Nat.ne_of_gt (blk_lt (g := gb246) (o := .cells #[.string a0_0, .string a0_1, .int .i64 a0_2] 36 (0, 0)) ZZ7d2168) : gb269 ≠ gb246))
        have n9_ := Aside0.mk ((by rw [hg]; exact Nat.ne_of_lt (blk_lt (g := gb247) (o := .cells #[.string a1_0, .string a1_1] 23 (0, 0)) ZZ713e70) : gb247 ≠ gb269))
        have n10_ := Aside0.mk ((by rw [hg]; exact Nat.ne_of_gt (blk_lt (g := gb247) (o := .cells #[.string a1_0, .string a1_1] 23 (0, 0)) ZZ713e70) : gb269 ≠ gb247))
        have n11_ := Aside0.mk ((by rw [hg]; exact Nat.ne_of_lt (blk_lt (g := gb259) (o := .cells #[.string t255, .string t256, .int .i64 t257] 31 (0, 0)) ZZf9c532) : gb259 ≠ gb269))
        have n12_ := Aside0.mk ((by rw [hg]; exact Nat.ne_of_gt (blk_lt (g := gb259) (o := .cells #[.string t255, .string t256, .int .i64 t257] 31 (0, 0)) ZZf9c532) : gb269 ≠ gb259))
        clear BK246
        clear BK247
        clear BK259
        clear HB
        have BK246 := n0_
        have BK247 := n1_
        have BK259 := n2_
        have HB := n3_
        have BK269 := n4_
        have GW269 := n5_
        have GE269 := n6_
        have NB246_269 := n7_
        have NB269_246 := n8_
        have NB247_269 := n9_
        have NB269_247 := n10_
        have NB259_269 := n11_
        have NB269_259 := n12_
        clear n0_ n1_ n2_ n3_ n4_ n5_ n6_ n7_ n8_ n9_ n10_ n11_ n12_
        clear hb hbox hg
        refine hK.out _ _ ⟨(blk_cell BK246.out 0).trans rfl, (blk_cell BK246.out 1).trans rfl, (blk_cell BK246.out 2).trans rfl, (blk_cell BK247.out 0).trans rfl, (blk_cell BK247.out 1).trans rfl⟩ (fun hHeld => ?_)
        clear hK K
        refine norm_ (a' := ?_) ?_ ?_
        rotate_left
        ·show Act.put _ (some 8) _ = _
         simp only [Act.put, List.setIfInBounds_toArray, List.set_cons_zero, List.set_cons_succ, i64_w, i32_w]
         rfl
        refine one_ (i := 3) (N := some 32) #[true, true, true, true, false, false, false, false, true, false, false] rfl rfl (one_of HT_.out (by kernel_rfl)) (by decide) (fun K hK => ?_)
        refine goes_ Tryd.func15 (by kernel_rfl) rfl #[.agg #[.string a1_0, .string a1_1]] (by rfl) rfl rfl ZZ19826e ?_
        with_reducible refine (laws_toLogRecord.calls a1_0 a1_1 t263 t264 _ A23.out).mono ?_
        rintro e w82 ⟨rfl, hb⟩
        refine ⟨_, rfl, ?_⟩
        have n0_ := Aside0.mk (blk_below (g := gb246) (o := .cells #[.string a0_0, .string a0_1, .int .i64 a0_2] 36 (0, 0)) ZZ7d2168 hb)
        have n1_ := Aside0.mk (blk_below (g := gb247) (o := .cells #[.string a1_0, .string a1_1] 23 (0, 0)) ZZ713e70 hb)
        have n2_ := Aside0.mk (blk_below (g := gb259) (o := .cells #[.string t255, .string t256, .int .i64 t257] 31 (0, 0)) ZZf9c532 hb)
        have n3_ := Aside0.mk (blk_below (g := gb269) (o := .cells #[.string (⟨#[]⟩ : ByteArray), .string (⟨#[]⟩ : ByteArray), .int .i64 0] 31 (0, 0)) ZZd45ccb hb)
        have n4_ := Aside0.mk (below_step ZZbd9ab3 hb)
        clear BK246
        clear BK247
        clear BK259
        clear BK269
        clear HB
        have BK246 := n0_
        have BK247 := n1_
        have BK259 := n2_
        have BK269 := n3_
        have HB := n4_
        clear n0_ n1_ n2_ n3_ n4_
        (try clear hb)
        (try clear hb2)
        (try clear hk)
        (try clear hi)
        refine hK.out _ _ ⟨(blk_cell BK246.out 0).trans rfl, (blk_cell BK246.out 1).trans rfl, (blk_cell BK246.out 2).trans rfl, (blk_cell BK247.out 0).trans rfl, (blk_cell BK247.out 1).trans rfl⟩ (fun hHeld => ?_)
        clear hK K
        refine norm_ (a' := ?_) ?_ ?_
        rotate_left
        ·show Act.put _ (some 32) _ = _
         simp only [Act.put, List.setIfInBounds_toArray, List.set_cons_zero, List.set_cons_succ, i64_w, i32_w]
         rfl
        refine one_ (i := 4) (N := some 33) #[true, true, true, true, true, false, false, false, true, false, false] rfl rfl (one_of HT_.out (by kernel_rfl)) (by decide) (fun K hK => ?_)
        refine goes_ Tryd.func29 (by kernel_rfl) rfl #[.agg #[.string t260, .string t261, .int .i64 t262], .agg #[.string t263, .string t264]] (by rfl) rfl rfl ZZ19826e ?_
        with_reducible refine (impl_AppendRecord.calls k t260 t261 t262 t263 t264 t265 t266 t267 t268 _ ?side1 A24.out).mono ?_
        (case side1 => first | exact HV.out | exact TInv.below HV.out ZZbd9ab3)
        rintro e w83 ⟨rfl, hb⟩
        refine ⟨_, rfl, ?_⟩
        have n0_ := Aside0.mk (blk_below (g := gb246) (o := .cells #[.string a0_0, .string a0_1, .int .i64 a0_2] 36 (0, 0)) ZZ7d2168 hb)
        have n1_ := Aside0.mk (blk_below (g := gb247) (o := .cells #[.string a1_0, .string a1_1] 23 (0, 0)) ZZ713e70 hb)
        have n2_ := Aside0.mk (blk_below (g := gb259) (o := .cells #[.string t255, .string t256, .int .i64 t257] 31 (0, 0)) ZZf9c532 hb)
        have n3_ := Aside0.mk (blk_below (g := gb269) (o := .cells #[.string (⟨#[]⟩ : ByteArray), .string (⟨#[]⟩ : ByteArray), .int .i64 0] 31 (0, 0)) ZZd45ccb hb)
        have n4_ := Aside0.mk (below_step ZZbd9ab3 hb)
        clear BK246
        clear BK247
        clear BK259
        clear BK269
        clear HB
        have BK246 := n0_
        have BK247 := n1_
        have BK259 := n2_
        have BK269 := n3_
        have HB := n4_
        clear n0_ n1_ n2_ n3_ n4_
        (try clear hb)
        (try clear hb2)
        (try clear hk)
        (try clear hi)
        refine hK.out _ _ ⟨(blk_cell BK246.out 0).trans rfl, (blk_cell BK246.out 1).trans rfl, (blk_cell BK246.out 2).trans rfl, (blk_cell BK247.out 0).trans rfl, (blk_cell BK247.out 1).trans rfl⟩ (fun hHeld => ?_)
        clear hK K
        refine norm_ (a' := ?_) ?_ ?_
        rotate_left
        ·show Act.put _ (some 33) _ = _
         simp only [Act.put, List.setIfInBounds_toArray, List.set_cons_zero, List.set_cons_succ, i64_w, i32_w]
         rfl
        refine pu 5 28 ?_
        refine pu 6 34 ?_
        refine pu 7 35 ?_
        exact norm_ ZZ539e1d (hCont (gb269) _ ⟨hHeld, ZZ7d2168, ZZ713e70, ZZf9c532, ZZd45ccb, GW269.out, GE269.out, NB246_269.out, NB269_246.out, NB247_269.out, NB269_247.out, NB259_269.out, NB269_259.out, ZZbd9ab3⟩)
      ·skip
       refine box_step ?hg (N := 8) ?hd (cs := #[.string (⟨#[]⟩ : ByteArray), .string (⟨#[]⟩ : ByteArray), .int .i64 0]) (t := 31) ?hr ?_; (case hd => rfl); (case hg => rfl); (case hr => first | (go_simp; done) | (go_simp; rfl))
       intro gb269 hg w80 hbox hb
       have n0_ := Aside0.mk (blk_below (g := gb246) (o := .cells #[.string a0_0, .string a0_1, .int .i64 a0_2] 36 (0, 0)) ZZ7d2168 hb)
       have n1_ := Aside0.mk (blk_below (g := gb247) (o := .cells #[.string a1_0, .string a1_1] 23 (0, 0)) ZZ713e70 hb)
       have n2_ := Aside0.mk (blk_below (g := gb259) (o := .cells #[.string t255, .string t256, .int .i64 t257] 31 (0, 0)) ZZf9c532 hb)
       have n3_ := Aside0.mk (below_step ZZ1ddea0 hb)
       have n4_ := Aside0.mk (hbox)
       have n5_ := Aside0.mk ((by rw [hg]; exact (below_size ZZ1ddea0) : w.heap.size ≤ gb269))
       have n6_ := Aside0.mk ((by rw [hg]; exact (below_size ZZ1ddea0) : w.heap.size ≤ gb269))
       have n7_ := Aside0.mk ((by rw [hg]; exact Nat.ne_of_lt (blk_lt (g := gb246) (o := .cells #[.string a0_0, .string a0_1, .int .i64 a0_2] 36 (0, 0)) ZZ7d2168) : gb246 ≠ gb269))
       have n8_ := Aside0.mk ((by rw [hg]; exact Nat.ne_of_gt (blk_lt (g := gb246) (o := .cells #[.string a0_0, .string a0_1, .int .i64 a0_2] 36 (0, 0)) ZZ7d2168) : gb269 ≠ gb246))
       have n9_ := Aside0.mk ((by rw [hg]; exact Nat.ne_of_lt (blk_lt (g := gb247) (o := .cells #[.string a1_0, .string a1_1] 23 (0, 0)) ZZ713e70) : gb247 ≠ gb269))
       have n10_ := Aside0.mk ((by rw [hg]; exact Nat.ne_of_gt (blk_lt (g := gb247) (o := .cells #[.string a1_0, .string a1_1] 23 (0, 0)) ZZ713e70) : gb269 ≠ gb247))
       have n11_ := Aside0.mk ((by rw [hg]; exact Nat.ne_of_lt (blk_lt (g := gb259) (o := .cells #[.string t255, .string t256, .int .i64 t257] 31 (0, 0)) ZZf9c532) : gb259 ≠ gb269))
       have n12_ := Aside0.mk ((by rw [hg]; exact Nat.ne_of_gt (blk_lt (g := gb259) (o := .cells #[.string t255, .string t256, .int .i64 t257] 31 (0, 0)) ZZf9c532) : gb269 ≠ gb259))
       clear BK246
       clear BK247
       clear BK259
       clear HB
       have BK246 := n0_
       have BK247 := n1_
       have BK259 := n2_
       have HB := n3_
       have BK269 := n4_
       have GW269 := n5_
       have GE269 := n6_
       have NB246_269 := n7_
       have NB269_246 := n8_
       have NB247_269 := n9_
       have NB269_247 := n10_
       have NB259_269 := n11_
       have NB269_259 := n12_
       clear n0_ n1_ n2_ n3_ n4_ n5_ n6_ n7_ n8_ n9_ n10_ n11_ n12_
       clear hb hbox hg
       refine hK.out _ _ ⟨(blk_cell BK246.out 0).trans rfl, (blk_cell BK246.out 1).trans rfl, (blk_cell BK246.out 2).trans rfl, (blk_cell BK247.out 0).trans rfl, (blk_cell BK247.out 1).trans rfl⟩ (fun hHeld => ?_)
       clear hK K
       refine norm_ (a' := ?_) ?_ ?_
       rotate_left
       ·show Act.put _ (some 8) _ = _
        simp only [Act.put, List.setIfInBounds_toArray, List.set_cons_zero, List.set_cons_succ, i64_w, i32_w]
        rfl
       refine one_ (i := 1) (N := some 30) #[true, true, true, false, false, false, false, false, true, false, false] rfl rfl (one_of HT_.out (by kernel_rfl)) (by decide) (fun K hK => ?_)
       refine goes_ Tryd.func22 (by kernel_rfl) rfl #[.agg #[.string a0_0, .string a0_1, .int .i64 a0_2]] (by rfl) rfl rfl ZZ19826e ?_
       with_reducible refine (laws_toLog.calls a0_0 a0_1 a0_2 t260 t261 t262 _ A22.out).mono ?_
       rintro e w81 ⟨rfl, hb⟩
       refine ⟨_, rfl, ?_⟩
       have n0_ := Aside0.mk (blk_below (g := gb246) (o := .cells #[.string a0_0, .string a0_1, .int .i64 a0_2] 36 (0, 0)) ZZ7d2168 hb)
       have n1_ := Aside0.mk (blk_below (g := gb247) (o := .cells #[.string a1_0, .string a1_1] 23 (0, 0)) ZZ713e70 hb)
       have n2_ := Aside0.mk (blk_below (g := gb259) (o := .cells #[.string t255, .string t256, .int .i64 t257] 31 (0, 0)) ZZf9c532 hb)
       have n3_ := Aside0.mk (blk_below (g := gb269) (o := .cells #[.string (⟨#[]⟩ : ByteArray), .string (⟨#[]⟩ : ByteArray), .int .i64 0] 31 (0, 0)) ZZd45ccb hb)
       have n4_ := Aside0.mk (below_step ZZbd9ab3 hb)
       clear BK246
       clear BK247
       clear BK259
       clear BK269
       clear HB
       have BK246 := n0_
       have BK247 := n1_
       have BK259 := n2_
       have BK269 := n3_
       have HB := n4_
       clear n0_ n1_ n2_ n3_ n4_
       (try clear hb)
       (try clear hb2)
       (try clear hk)
       (try clear hi)
       refine hK.out _ _ ⟨(blk_cell BK246.out 0).trans rfl, (blk_cell BK246.out 1).trans rfl, (blk_cell BK246.out 2).trans rfl, (blk_cell BK247.out 0).trans rfl, (blk_cell BK247.out 1).trans rfl⟩ (fun hHeld => ?_)
       clear hK K
       refine norm_ (a' := ?_) ?_ ?_
       rotate_left
       ·show Act.put _ (some 30) _ = _
        simp only [Act.put, List.setIfInBounds_toArray, List.set_cons_zero, List.set_cons_succ, i64_w, i32_w]
        rfl
       refine one_ (i := 3) (N := some 32) #[true, true, true, true, false, false, false, false, true, false, false] rfl rfl (one_of HT_.out (by kernel_rfl)) (by decide) (fun K hK => ?_)
       refine goes_ Tryd.func15 (by kernel_rfl) rfl #[.agg #[.string a1_0, .string a1_1]] (by rfl) rfl rfl ZZ19826e ?_
       with_reducible refine (laws_toLogRecord.calls a1_0 a1_1 t263 t264 _ A23.out).mono ?_
       rintro e w82 ⟨rfl, hb⟩
       refine ⟨_, rfl, ?_⟩
       have n0_ := Aside0.mk (blk_below (g := gb246) (o := .cells #[.string a0_0, .string a0_1, .int .i64 a0_2] 36 (0, 0)) ZZ7d2168 hb)
       have n1_ := Aside0.mk (blk_below (g := gb247) (o := .cells #[.string a1_0, .string a1_1] 23 (0, 0)) ZZ713e70 hb)
       have n2_ := Aside0.mk (blk_below (g := gb259) (o := .cells #[.string t255, .string t256, .int .i64 t257] 31 (0, 0)) ZZf9c532 hb)
       have n3_ := Aside0.mk (blk_below (g := gb269) (o := .cells #[.string (⟨#[]⟩ : ByteArray), .string (⟨#[]⟩ : ByteArray), .int .i64 0] 31 (0, 0)) ZZd45ccb hb)
       have n4_ := Aside0.mk (below_step ZZbd9ab3 hb)
       clear BK246
       clear BK247
       clear BK259
       clear BK269
       clear HB
       have BK246 := n0_
       have BK247 := n1_
       have BK259 := n2_
       have BK269 := n3_
       have HB := n4_
       clear n0_ n1_ n2_ n3_ n4_
       (try clear hb)
       (try clear hb2)
       (try clear hk)
       (try clear hi)
       refine hK.out _ _ ⟨(blk_cell BK246.out 0).trans rfl, (blk_cell BK246.out 1).trans rfl, (blk_cell BK246.out 2).trans rfl, (blk_cell BK247.out 0).trans rfl, (blk_cell BK247.out 1).trans rfl⟩ (fun hHeld => ?_)
       clear hK K
       refine norm_ (a' := ?_) ?_ ?_
       rotate_left
       ·show Act.put _ (some 32) _ = _
        simp only [Act.put, List.setIfInBounds_toArray, List.set_cons_zero, List.set_cons_succ, i64_w, i32_w]
        rfl
       refine one_ (i := 4) (N := some 33) #[true, true, true, true, true, false, false, false, true, false, false] rfl rfl (one_of HT_.out (by kernel_rfl)) (by decide) (fun K hK => ?_)
       refine goes_ Tryd.func29 (by kernel_rfl) rfl #[.agg #[.string t260, .string t261, .int .i64 t262], .agg #[.string t263, .string t264]] (by rfl) rfl rfl ZZ19826e ?_
       with_reducible refine (impl_AppendRecord.calls k t260 t261 t262 t263 t264 t265 t266 t267 t268 _ ?side1 A24.out).mono ?_
       (case side1 => first | exact HV.out | exact TInv.below HV.out ZZbd9ab3)
       rintro e w83 ⟨rfl, hb⟩
       refine ⟨_, rfl, ?_⟩
       have n0_ := Aside0.mk (blk_below (g := gb246) (o := .cells #[.string a0_0, .string a0_1, .int .i64 a0_2] 36 (0, 0)) ZZ7d2168 hb)
       have n1_ := Aside0.mk (blk_below (g := gb247) (o := .cells #[.string a1_0, .string a1_1] 23 (0, 0)) ZZ713e70 hb)
       have n2_ := Aside0.mk (blk_below (g := gb259) (o := .cells #[.string t255, .string t256, .int .i64 t257] 31 (0, 0)) ZZf9c532 hb)
       have n3_ := Aside0.mk (blk_below (g := gb269) (o := .cells #[.string (⟨#[]⟩ : ByteArray), .string (⟨#[]⟩ : ByteArray), .int .i64 0] 31 (0, 0)) ZZd45ccb hb)
       have n4_ := Aside0.mk (below_step ZZbd9ab3 hb)
       clear BK246
       clear BK247
       clear BK259
       clear BK269
       clear HB
       have BK246 := n0_
       have BK247 := n1_
       have BK259 := n2_
       have BK269 := n3_
       have HB := n4_
       clear n0_ n1_ n2_ n3_ n4_
       (try clear hb)
       (try clear hb2)
       (try clear hk)
       (try clear hi)
       refine hK.out _ _ ⟨(blk_cell BK246.out 0).trans rfl, (blk_cell BK246.out 1).trans rfl, (blk_cell BK246.out 2).trans rfl, (blk_cell BK247.out 0).trans rfl, (blk_cell BK247.out 1).trans rfl⟩ (fun hHeld => ?_)
       clear hK K
       refine norm_ (a' := ?_) ?_ ?_
       rotate_left
       ·show Act.put _ (some 33) _ = _
        simp only [Act.put, List.setIfInBounds_toArray, List.set_cons_zero, List.set_cons_succ, i64_w, i32_w]
        rfl
       refine pu 5 28 ?_
       refine pu 6 34 ?_
       refine pu 7 35 ?_
       exact norm_ ZZ539e1d (hCont (gb269) _ ⟨hHeld, ZZ7d2168, ZZ713e70, ZZf9c532, ZZd45ccb, GW269.out, GE269.out, NB246_269.out, NB269_246.out, NB247_269.out, NB269_247.out, NB259_269.out, NB269_259.out, ZZbd9ab3⟩)
     rintro gb269 w84 ⟨hS_, h0_, h1_, h2_, h3_, h4_, h5_, h6_, h7_, h8_, h9_, h10_, h11_, h12_⟩
     have n0_ : Aside0 (w84.heap[gb246]? = some (.cells #[.string a0_0, .string a0_1, .int .i64 a0_2] 36 (0, 0))) := ⟨h0_⟩
     have n1_ : Aside0 (w84.heap[gb247]? = some (.cells #[.string a1_0, .string a1_1] 23 (0, 0))) := ⟨h1_⟩
     have n2_ : Aside0 (w84.heap[gb259]? = some (.cells #[.string t255, .string t256, .int .i64 t257] 31 (0, 0))) := ⟨h2_⟩
     have n3_ : Aside0 (w84.heap[gb269]? = some (.cells #[.string (⟨#[]⟩ : ByteArray), .string (⟨#[]⟩ : ByteArray), .int .i64 0] 31 (0, 0))) := ⟨h3_⟩
     have n4_ : Aside0 (w.heap.size ≤ gb269) := ⟨h4_⟩
     have n5_ : Aside0 (w.heap.size ≤ gb269) := ⟨h5_⟩
     have n6_ : Aside0 (gb246 ≠ gb269) := ⟨h6_⟩
     have n7_ : Aside0 (gb269 ≠ gb246) := ⟨h7_⟩
     have n8_ : Aside0 (gb247 ≠ gb269) := ⟨h8_⟩
     have n9_ : Aside0 (gb269 ≠ gb247) := ⟨h9_⟩
     have n10_ : Aside0 (gb259 ≠ gb269) := ⟨h10_⟩
     have n11_ : Aside0 (gb269 ≠ gb259) := ⟨h11_⟩
     have n12_ : Aside0 (Below w.heap.size w w84) := ⟨h12_⟩
     clear BK246
     clear BK247
     clear BK259
     clear HB
     clear h0_ h1_ h2_ h3_ h4_ h5_ h6_ h7_ h8_ h9_ h10_ h11_ h12_
     have BK246 := n0_
     have BK247 := n1_
     have BK259 := n2_
     have BK269 := n3_
     have GW269 := n4_
     have GE269 := n5_
     have NB246_269 := n6_
     have NB269_246 := n7_
     have NB247_269 := n8_
     have NB269_247 := n9_
     have NB259_269 := n10_
     have NB269_259 := n11_
     have HB := n12_
     clear n0_ n1_ n2_ n3_ n4_ n5_ n6_ n7_ n8_ n9_ n10_ n11_ n12_
     have hHeld : w84.cell? ⟨gb246, 0, none⟩ = some (.string a0_0) ∧ w84.cell? ⟨gb246, 1, none⟩ = some (.string a0_1) ∧ w84.cell? ⟨gb246, 2, none⟩ = some (.int .i64 a0_2) ∧ w84.cell? ⟨gb247, 0, none⟩ = some (.string a1_0) ∧ w84.cell? ⟨gb247, 1, none⟩ = some (.string a1_1) := hS_
     refine norm_ (a' := ?_) ?_ ?_
     rotate_left
     ·simp only [putAll, Act.put, List.setIfInBounds_toArray, List.set_cons_zero, List.set_cons_succ]
      rfl
     refine one_ (i := 9) (N := none) #[true, true, true, true, true, true, true, true, true, true, false] rfl rfl (one_of HT_.out (by kernel_rfl)) (by decide) (fun K hK => ?_)
     have hs85 : w84.cell? ⟨gb269, 0, none⟩ = some (.string (⟨#[]⟩ : ByteArray)) := (blk_cell BK269.out 0).trans rfl
     have hfs85 := blk_frozen BK269.out 0
     have hns85_0 := NB246_269.out
     have hns85_1 := NB247_269.out
     have hns85_2 := NB259_269.out
     have hms85_0 := NB269_246.out
     have hms85_1 := NB269_247.out
     have hms85_2 := NB269_259.out
     have hs86 : w84.cell? ⟨gb269, 1, none⟩ = some (.string (⟨#[]⟩ : ByteArray)) := (blk_cell BK269.out 1).trans rfl
     have hfs86 := blk_frozen BK269.out 1
     have hns86_0 := NB246_269.out
     have hns86_1 := NB247_269.out
     have hns86_2 := NB259_269.out
     have hms86_0 := NB269_246.out
     have hms86_1 := NB269_247.out
     have hms86_2 := NB269_259.out
     have hs87 : w84.cell? ⟨gb269, 2, none⟩ = some (.int .i64 0) := (blk_cell BK269.out 2).trans rfl
     have hfs87 := blk_frozen BK269.out 2
     have hns87_0 := NB246_269.out
     have hns87_1 := NB247_269.out
     have hns87_2 := NB259_269.out
     have hms87_0 := NB269_246.out
     have hms87_1 := NB269_247.out
     have hms87_2 := NB269_259.out
     refine skip_ (w1 := ?_) (by rfl) rfl ?_ ?_
     rotate_left
     ·go_simp
      rfl
     refine hK.out _ _ ⟨((cell_far (p := ⟨gb269, _, none⟩) NB246_269.out _).trans (((cell_far (p := ⟨gb269, _, none⟩) NB246_269.out _).trans (((cell_far (p := ⟨gb269, _, none⟩) NB246_269.out _).trans (hHeld.1)))))), ((cell_far (p := ⟨gb269, _, none⟩) NB246_269.out _).trans (((cell_far (p := ⟨gb269, _, none⟩) NB246_269.out _).trans (((cell_far (p := ⟨gb269, _, none⟩) NB246_269.out _).trans (hHeld.2.1)))))), ((cell_far (p := ⟨gb269, _, none⟩) NB246_269.out _).trans (((cell_far (p := ⟨gb269, _, none⟩) NB246_269.out _).trans (((cell_far (p := ⟨gb269, _, none⟩) NB246_269.out _).trans (hHeld.2.2.1)))))), ((cell_far (p := ⟨gb269, _, none⟩) NB247_269.out _).trans (((cell_far (p := ⟨gb269, _, none⟩) NB247_269.out _).trans (((cell_far (p := ⟨gb269, _, none⟩) NB247_269.out _).trans (hHeld.2.2.2.1)))))), ((cell_far (p := ⟨gb269, _, none⟩) NB247_269.out _).trans (((cell_far (p := ⟨gb269, _, none⟩) NB247_269.out _).trans (((cell_far (p := ⟨gb269, _, none⟩) NB247_269.out _).trans (hHeld.2.2.2.2))))))⟩ (fun hHeld => ?_)
     clear hK K
     refine pu 10 9 ?_
     refine done_ (done_of HT_.out (by kernel_rfl)) ?_
     have hnb88 := NB269_246.out
     have hnc88 := NB246_269.out
     have hnb89 := NB269_247.out
     have hnc89 := NB247_269.out
     have hnb90 := NB269_259.out
     have hnc90 := NB259_269.out
     have hcz91_0 : w84.cell? ⟨gb269, 0, none⟩ = some (.string (⟨#[]⟩ : ByteArray)) := (blk_cell BK269.out 0).trans rfl
     have hcz91_1 : w84.cell? ⟨gb269, 1, none⟩ = some (.string (⟨#[]⟩ : ByteArray)) := (blk_cell BK269.out 1).trans rfl
     have hcz91_2 : w84.cell? ⟨gb269, 2, none⟩ = some (.int .i64 0) := (blk_cell BK269.out 2).trans rfl
     have hfz91_0 := blk_frozen BK269.out 0
     have hfz91_1 := blk_frozen BK269.out 1
     have hfz91_2 := blk_frozen BK269.out 2
     have hnb92 := NB259_246.out
     have hnc92 := NB246_259.out
     have hnb93 := NB259_247.out
     have hnc93 := NB247_259.out
     have hcz94_0 : w84.cell? ⟨gb259, 0, none⟩ = some (.string t255) := (blk_cell BK259.out 0).trans rfl
     have hcz94_1 : w84.cell? ⟨gb259, 1, none⟩ = some (.string t256) := (blk_cell BK259.out 1).trans rfl
     have hcz94_2 : w84.cell? ⟨gb259, 2, none⟩ = some (.int .i64 t257) := (blk_cell BK259.out 2).trans rfl
     have hfz94_0 := blk_frozen BK259.out 0
     have hfz94_1 := blk_frozen BK259.out 1
     have hfz94_2 := blk_frozen BK259.out 2
     try go_wp2_with (first | ((with_reducible refine gate_callee (f := 19) rfl ?_); refine goesL_ (some 38) rfl rfl Tryd.func19 (by kernel_rfl) rfl #[.agg #[.string t265, .string t266, .int .i64 t267], .agg #[.string t255, .string t256, .int .i64 t257]] rfl ZZ19826e ?_; (with_reducible refine (laws_eqLog.calls t265 t266 t267 t255 t256 t257 true _ A25.out).mono ?_); rintro e w95 ⟨rfl, hb⟩; refine ⟨_, rfl, ?_⟩; have n0_ := Aside0.mk (blk_below (g := gb246) (o := .cells #[.string a0_0, .string a0_1, .int .i64 a0_2] 36 (0, 0)) ZZ953734 hb); have n1_ := Aside0.mk (blk_below (g := gb247) (o := .cells #[.string a1_0, .string a1_1] 23 (0, 0)) ZZ77fcbf hb); have n2_ := Aside0.mk (blk_below (g := gb259) (o := .cells #[.string t255, .string t256, .int .i64 t257] 31 (0, 0)) ZZ1ee8f0 hb); have n3_ := Aside0.mk (blk_below (g := gb269) (o := .cells #[.string t265, .string t266, .int .i64 t267] 31 (0, 0)) ZZ2da24b hb); have n4_ := Aside0.mk (below_step ZZbd9ab3 hb); clear BK246; clear BK247; clear BK259; clear BK269; clear HB; have BK246 := n0_; have BK247 := n1_; have BK259 := n2_; have BK269 := n3_; have HB := n4_; clear n0_ n1_ n2_ n3_ n4_; (try clear hb); (try clear hb2); (try clear hk); (try clear hi)))
     go_ret
     exact ⟨by first | rfl | (simp [errW_none, errW_some] <;> rfl) | (simp [*, errW_none, errW_some] <;> rfl), by repeat (first | (with_reducible first | exact HB.out | apply below_alloc | apply pw_below_drewN | apply below_drew1 | refine below_set ?_ GE246.out | refine below_set ?_ GE247.out | refine below_set ?_ GE259.out | refine below_set ?_ GE269.out) | exact HB.out)⟩
   ·replace c26 := Bool.eq_false_iff.mpr c26
    subst c26
    have H1 : (some false) = some r := by rw [if_neg (show ¬ (false = true) by decide)] at H; exact H
    clear H
    have H := H1
    clear H1
    obtain rfl := Option.some.inj H
    go_enter Tryd.func8, Tryd.ntmps8
    try go_wp2_with (first | ((with_reducible refine gate_dst (N := 2) rfl ?_); refine box_event ?hg (N := 2) ?hd (cs := #[.string a0_0, .string a0_1, .int .i64 a0_2]) (t := 36) ?hr ?_; (case hd => rfl); (case hg => rfl); (case hr => first | (go_simp; done) | (go_simp; rfl)); intro gb246 hg w96 hbox hb; have n0_ := Aside0.mk (below_step ZZ605003 hb); have n1_ := Aside0.mk (hbox); have n2_ := Aside0.mk ((by rw [hg]; exact (below_size ZZ605003) : w.heap.size ≤ gb246)); have n3_ := Aside0.mk ((by rw [hg]; exact (below_size ZZ605003) : w.heap.size ≤ gb246)); clear HB; have HB := n0_; have BK246 := n1_; have GW246 := n2_; have GE246 := n3_; clear n0_ n1_ n2_ n3_; clear hb hbox hg) | ((with_reducible refine gate_dst (N := 3) rfl ?_); refine box_event ?hg (N := 3) ?hd (cs := #[.string a1_0, .string a1_1]) (t := 23) ?hr ?_; (case hd => rfl); (case hg => rfl); (case hr => first | (go_simp; done) | (go_simp; rfl)); intro gb247 hg w97 hbox hb; have n0_ := Aside0.mk (blk_below (g := gb246) (o := .cells #[.string a0_0, .string a0_1, .int .i64 a0_2] 36 (0, 0)) ZZ7d2168 hb); have n1_ := Aside0.mk (below_step ZZd59925 hb); have n2_ := Aside0.mk (hbox); have n3_ := Aside0.mk ((by rw [hg]; exact (below_size ZZd59925) : w.heap.size ≤ gb247)); have n4_ := Aside0.mk ((by rw [hg]; exact (below_size ZZd59925) : w.heap.size ≤ gb247)); have n5_ := Aside0.mk ((by rw [hg]; exact Nat.ne_of_lt (blk_lt (g := gb246) (o := .cells #[.string a0_0, .string a0_1, .int .i64 a0_2] 36 (0, 0)) ZZ7d2168) : gb246 ≠ gb247)); have n6_ := Aside0.mk ((by rw [hg]; exact Nat.ne_of_gt (blk_lt (g := gb246) (o := .cells #[.string a0_0, .string a0_1, .int .i64 a0_2] 36 (0, 0)) ZZ7d2168) : gb247 ≠ gb246)); clear BK246; clear HB; have BK246 := n0_; have HB := n1_; have BK247 := n2_; have GW247 := n3_; have GE247 := n4_; have NB246_247 := n5_; have NB247_246 := n6_; clear n0_ n1_ n2_ n3_ n4_ n5_ n6_; clear hb hbox hg; have hnb98 := NB246_247.out; have hnc98 := NB247_246.out; have hcz99_0 : w97.cell? ⟨gb246, 0, none⟩ = some (.string a0_0) := (blk_cell BK246.out 0).trans rfl; have hcz99_1 : w97.cell? ⟨gb246, 1, none⟩ = some (.string a0_1) := (blk_cell BK246.out 1).trans rfl; have hcz99_2 : w97.cell? ⟨gb246, 2, none⟩ = some (.int .i64 a0_2) := (blk_cell BK246.out 2).trans rfl; have hfz99_0 := blk_frozen BK246.out 0; have hfz99_1 := blk_frozen BK246.out 1; have hfz99_2 := blk_frozen BK246.out 2) | ((with_reducible refine gate_callee (f := 20) rfl ?_); refine goesL_ (some 12) rfl rfl Tryd.func20 (by kernel_rfl) rfl #[.agg #[.string a0_0, .string a0_1, .int .i64 a0_2], .int .i64 1048576] rfl ZZ19826e ?_; (with_reducible refine (laws_szLog.calls a0_0 a0_1 a0_2 1048576 t248 _ A3.out).mono ?_); rintro e w100 ⟨rfl, hb⟩; refine ⟨_, rfl, ?_⟩; have n0_ := Aside0.mk (blk_below (g := gb246) (o := .cells #[.string a0_0, .string a0_1, .int .i64 a0_2] 36 (0, 0)) ZZ7d2168 hb); have n1_ := Aside0.mk (blk_below (g := gb247) (o := .cells #[.string a1_0, .string a1_1] 23 (0, 0)) ZZ713e70 hb); have n2_ := Aside0.mk (below_step ZZ97a20a hb); clear BK246; clear BK247; clear HB; have BK246 := n0_; have BK247 := n1_; have HB := n2_; clear n0_ n1_ n2_; (try clear hb); (try clear hb2); (try clear hk); (try clear hi); have hcz101_0 : w100.cell? ⟨gb247, 0, none⟩ = some (.string a1_0) := (blk_cell BK247.out 0).trans rfl; have hcz101_1 : w100.cell? ⟨gb247, 1, none⟩ = some (.string a1_1) := (blk_cell BK247.out 1).trans rfl; have hfz101_0 := blk_frozen BK247.out 0; have hfz101_1 := blk_frozen BK247.out 1) | ((with_reducible refine gate_callee (f := 13) rfl ?_); refine goesL_ (some 17) rfl rfl Tryd.func13 (by kernel_rfl) rfl #[.agg #[.string a1_0, .string a1_1], .int .i64 t248] rfl ZZ19826e ?_; (with_reducible refine (laws_szLogRecord.calls a1_0 a1_1 t248 t249 _ A10.out).mono ?_); rintro e w102 ⟨rfl, hb⟩; refine ⟨_, rfl, ?_⟩; have n0_ := Aside0.mk (blk_below (g := gb246) (o := .cells #[.string a0_0, .string a0_1, .int .i64 a0_2] 36 (0, 0)) ZZ7d2168 hb); have n1_ := Aside0.mk (blk_below (g := gb247) (o := .cells #[.string a1_0, .string a1_1] 23 (0, 0)) ZZ713e70 hb); have n2_ := Aside0.mk (below_step ZZ97a20a hb); clear BK246; clear BK247; clear HB; have BK246 := n0_; have BK247 := n1_; have HB := n2_; clear n0_ n1_ n2_; (try clear hb); (try clear hb2); (try clear hk); (try clear hi)))
    have n0_ := Aside0.mk (blk_drew BK246.out)
    have n1_ := Aside0.mk (blk_drew BK247.out)
    have n2_ := Aside0.mk (below_drew1 HB.out)
    clear BK246
    clear BK247
    clear HB
    have BK246 := n0_
    have BK247 := n1_
    have HB := n2_
    clear n0_ n1_ n2_
    refine start_ (n := 11) (S := fun w' => w'.cell? ⟨gb246, 0, none⟩ = some (.string a0_0) ∧ w'.cell? ⟨gb246, 1, none⟩ = some (.string a0_1) ∧ w'.cell? ⟨gb246, 2, none⟩ = some (.int .i64 a0_2) ∧ w'.cell? ⟨gb247, 0, none⟩ = some (.string a1_0) ∧ w'.cell? ⟨gb247, 1, none⟩ = some (.string a1_1)) (ds := []) #[false, false, false, false, false, false, false, false, false, false, false] (by kernel_rfl) rfl rfl ⟨(blk_cell BK246.out 0).trans rfl, (blk_cell BK246.out 1).trans rfl, (blk_cell BK246.out 2).trans rfl, (blk_cell BK247.out 0).trans rfl, (blk_cell BK247.out 1).trans rfl⟩ (fun hHeld => ?_); refine with_tabW laws_FnExactAppendRecord.tab8 laws_FnExactAppendRecord.bits8 (fun HT_ HW_ => ?_)
    generalize w102.drew = w103 at BK246 BK247 HB hHeld ⊢
    refine tk 0 21 ?_
    refine tk 2 23 ?_
    refine join_ (σ := Nat) 2 #[true, true, true, true, true, true, true, true, true, false, false] (fun s_ => [(22, .agg #[.string t250, .string t251, .int .i64 t252]), (24, .agg #[.string t253, .string t254]), (25, .tuple #[.agg #[.string t255, .string t256, .int .i64 t257], .int .i64 t258]), (6, .pointer (some ⟨s_, 0, none⟩)), (20, .tuple #[.agg #[.string t255, .string t256, .int .i64 t257], .int .i64 t258]), (26, .agg #[.string t255, .string t256, .int .i64 t257]), (27, .int .i64 t258)]) (fun s_ w' => (w'.cell? ⟨gb246, 0, none⟩ = some (.string a0_0) ∧ w'.cell? ⟨gb246, 1, none⟩ = some (.string a0_1) ∧ w'.cell? ⟨gb246, 2, none⟩ = some (.int .i64 a0_2) ∧ w'.cell? ⟨gb247, 0, none⟩ = some (.string a1_0) ∧ w'.cell? ⟨gb247, 1, none⟩ = some (.string a1_1)) ∧ (w'.heap[gb246]? = some (.cells #[.string a0_0, .string a0_1, .int .i64 a0_2] 36 (0, 0))) ∧ (w'.heap[gb247]? = some (.cells #[.string a1_0, .string a1_1] 23 (0, 0))) ∧ (w'.heap[s_]? = some (.cells #[.string (⟨#[]⟩ : ByteArray), .string (⟨#[]⟩ : ByteArray), .int .i64 0] 31 (0, 0))) ∧ (w.heap.size ≤ s_) ∧ (w.heap.size ≤ s_) ∧ (gb246 ≠ s_) ∧ (s_ ≠ gb246) ∧ (gb247 ≠ s_) ∧ (s_ ≠ gb247) ∧ (Below w.heap.size w w')) ?_ ?_
    rotate_left
    ·intro hCont
     refine two_ (i := 1) (j := 8) (Ni := some 22) (Nj := some 6) #[true, true, true, false, false, false, false, false, false, false, false] #[true, false, true, false, false, false, false, false, true, false, false] rfl rfl rfl rfl (two_of HT_.out (by kernel_rfl)) (by decide) (by decide) (fun K hK => ?_) (fun K hK => ?_)
     ·skip
      refine goes_ Tryd.func22 (by kernel_rfl) rfl #[.agg #[.string a0_0, .string a0_1, .int .i64 a0_2]] (by rfl) rfl rfl ZZ19826e ?_
      with_reducible refine (laws_toLog.calls a0_0 a0_1 a0_2 t250 t251 t252 _ A19.out).mono ?_
      rintro e w104 ⟨rfl, hb⟩
      refine ⟨_, rfl, ?_⟩
      have n0_ := Aside0.mk (blk_below (g := gb246) (o := .cells #[.string a0_0, .string a0_1, .int .i64 a0_2] 36 (0, 0)) ZZ7d2168 hb)
      have n1_ := Aside0.mk (blk_below (g := gb247) (o := .cells #[.string a1_0, .string a1_1] 23 (0, 0)) ZZ713e70 hb)
      have n2_ := Aside0.mk (below_step ZZ97a20a hb)
      clear BK246
      clear BK247
      clear HB
      have BK246 := n0_
      have BK247 := n1_
      have HB := n2_
      clear n0_ n1_ n2_
      (try clear hb)
      (try clear hb2)
      (try clear hk)
      (try clear hi)
      refine hK.out _ _ ⟨(blk_cell BK246.out 0).trans rfl, (blk_cell BK246.out 1).trans rfl, (blk_cell BK246.out 2).trans rfl, (blk_cell BK247.out 0).trans rfl, (blk_cell BK247.out 1).trans rfl⟩ (fun hHeld => ?_)
      clear hK K
      refine norm_ (a' := ?_) ?_ ?_
      rotate_left
      ·show Act.put _ (some 22) _ = _
       simp only [Act.put, List.setIfInBounds_toArray, List.set_cons_zero, List.set_cons_succ, i64_w, i32_w]
       rfl
      refine two_ (i := 3) (j := 8) (Ni := some 24) (Nj := some 6) #[true, true, true, true, false, false, false, false, false, false, false] #[true, true, true, false, false, false, false, false, true, false, false] rfl rfl rfl rfl (two_of HT_.out (by kernel_rfl)) (by decide) (by decide) (fun K hK => ?_) (fun K hK => ?_)
      ·skip
       refine goes_ Tryd.func15 (by kernel_rfl) rfl #[.agg #[.string a1_0, .string a1_1]] (by rfl) rfl rfl ZZ19826e ?_
       with_reducible refine (laws_toLogRecord.calls a1_0 a1_1 t253 t254 _ A20.out).mono ?_
       rintro e w105 ⟨rfl, hb⟩
       refine ⟨_, rfl, ?_⟩
       have n0_ := Aside0.mk (blk_below (g := gb246) (o := .cells #[.string a0_0, .string a0_1, .int .i64 a0_2] 36 (0, 0)) ZZ7d2168 hb)
       have n1_ := Aside0.mk (blk_below (g := gb247) (o := .cells #[.string a1_0, .string a1_1] 23 (0, 0)) ZZ713e70 hb)
       have n2_ := Aside0.mk (below_step ZZ97a20a hb)
       clear BK246
       clear BK247
       clear HB
       have BK246 := n0_
       have BK247 := n1_
       have HB := n2_
       clear n0_ n1_ n2_
       (try clear hb)
       (try clear hb2)
       (try clear hk)
       (try clear hi)
       refine hK.out _ _ ⟨(blk_cell BK246.out 0).trans rfl, (blk_cell BK246.out 1).trans rfl, (blk_cell BK246.out 2).trans rfl, (blk_cell BK247.out 0).trans rfl, (blk_cell BK247.out 1).trans rfl⟩ (fun hHeld => ?_)
       clear hK K
       refine norm_ (a' := ?_) ?_ ?_
       rotate_left
       ·show Act.put _ (some 24) _ = _
        simp only [Act.put, List.setIfInBounds_toArray, List.set_cons_zero, List.set_cons_succ, i64_w, i32_w]
        rfl
       refine two_ (i := 4) (j := 8) (Ni := some 25) (Nj := some 6) #[true, true, true, true, true, false, false, false, false, false, false] #[true, true, true, true, false, false, false, false, true, false, false] rfl rfl rfl rfl (two_of HT_.out (by kernel_rfl)) (by decide) (by decide) (fun K hK => ?_) (fun K hK => ?_)
       ·skip
        refine goes_ Tryd.func28 (by kernel_rfl) rfl #[.agg #[.string t250, .string t251, .int .i64 t252], .agg #[.string t253, .string t254]] (by rfl) rfl rfl ZZ19826e ?_
        with_reducible refine (spec_AppendRecord.calls k t250 t251 t252 t253 t254 t255 t256 t257 t258 _ A21.out).mono ?_
        rintro e w106 ⟨rfl, hb⟩
        refine ⟨_, rfl, ?_⟩
        have n0_ := Aside0.mk (blk_below (g := gb246) (o := .cells #[.string a0_0, .string a0_1, .int .i64 a0_2] 36 (0, 0)) ZZ7d2168 hb)
        have n1_ := Aside0.mk (blk_below (g := gb247) (o := .cells #[.string a1_0, .string a1_1] 23 (0, 0)) ZZ713e70 hb)
        have n2_ := Aside0.mk (below_step ZZ97a20a hb)
        clear BK246
        clear BK247
        clear HB
        have BK246 := n0_
        have BK247 := n1_
        have HB := n2_
        clear n0_ n1_ n2_
        (try clear hb)
        (try clear hb2)
        (try clear hk)
        (try clear hi)
        refine hK.out _ _ ⟨(blk_cell BK246.out 0).trans rfl, (blk_cell BK246.out 1).trans rfl, (blk_cell BK246.out 2).trans rfl, (blk_cell BK247.out 0).trans rfl, (blk_cell BK247.out 1).trans rfl⟩ (fun hHeld => ?_)
        clear hK K
        refine norm_ (a' := ?_) ?_ ?_
        rotate_left
        ·show Act.put _ (some 25) _ = _
         simp only [Act.put, List.setIfInBounds_toArray, List.set_cons_zero, List.set_cons_succ, i64_w, i32_w]
         rfl
        refine pu 5 20 ?_
        refine pu 6 26 ?_
        refine pu 7 27 ?_
        refine one_ (i := 8) (N := some 6) #[true, true, true, true, true, true, true, true, true, false, false] rfl rfl (one_of HT_.out (by kernel_rfl)) (by decide) (fun K hK => ?_)
        refine box_step ?hg (N := 6) ?hd (cs := #[.string (⟨#[]⟩ : ByteArray), .string (⟨#[]⟩ : ByteArray), .int .i64 0]) (t := 31) ?hr ?_; (case hd => rfl); (case hg => rfl); (case hr => first | (go_simp; done) | (go_simp; rfl))
        intro gb259 hg w107 hbox hb
        have n0_ := Aside0.mk (blk_below (g := gb246) (o := .cells #[.string a0_0, .string a0_1, .int .i64 a0_2] 36 (0, 0)) ZZ7d2168 hb)
        have n1_ := Aside0.mk (blk_below (g := gb247) (o := .cells #[.string a1_0, .string a1_1] 23 (0, 0)) ZZ713e70 hb)
        have n2_ := Aside0.mk (below_step ZZ97a20a hb)
        have n3_ := Aside0.mk (hbox)
        have n4_ := Aside0.mk ((by rw [hg]; exact (below_size ZZ97a20a) : w.heap.size ≤ gb259))
        have n5_ := Aside0.mk ((by rw [hg]; exact (below_size ZZ97a20a) : w.heap.size ≤ gb259))
        have n6_ := Aside0.mk ((by rw [hg]; exact Nat.ne_of_lt (blk_lt (g := gb246) (o := .cells #[.string a0_0, .string a0_1, .int .i64 a0_2] 36 (0, 0)) ZZ7d2168) : gb246 ≠ gb259))
        have n7_ := Aside0.mk ((by rw [hg]; exact Nat.ne_of_gt (blk_lt (g := gb246) (o := .cells #[.string a0_0, .string a0_1, .int .i64 a0_2] 36 (0, 0)) ZZ7d2168) : gb259 ≠ gb246))
        have n8_ := Aside0.mk ((by rw [hg]; exact Nat.ne_of_lt (blk_lt (g := gb247) (o := .cells #[.string a1_0, .string a1_1] 23 (0, 0)) ZZ713e70) : gb247 ≠ gb259))
        have n9_ := Aside0.mk ((by rw [hg]; exact Nat.ne_of_gt (blk_lt (g := gb247) (o := .cells #[.string a1_0, .string a1_1] 23 (0, 0)) ZZ713e70) : gb259 ≠ gb247))
        clear BK246
        clear BK247
        clear HB
        have BK246 := n0_
        have BK247 := n1_
        have HB := n2_
        have BK259 := n3_
        have GW259 := n4_
        have GE259 := n5_
        have NB246_259 := n6_
        have NB259_246 := n7_
        have NB247_259 := n8_
        have NB259_247 := n9_
        clear n0_ n1_ n2_ n3_ n4_ n5_ n6_ n7_ n8_ n9_
        clear hb hbox hg
        refine hK.out _ _ ⟨(blk_cell BK246.out 0).trans rfl, (blk_cell BK246.out 1).trans rfl, (blk_cell BK246.out 2).trans rfl, (blk_cell BK247.out 0).trans rfl, (blk_cell BK247.out 1).trans rfl⟩ (fun hHeld => ?_)
        clear hK K
        refine norm_ (a' := ?_) ?_ ?_
        rotate_left
        ·show Act.put _ (some 6) _ = _
         simp only [Act.put, List.setIfInBounds_toArray, List.set_cons_zero, List.set_cons_succ, i64_w, i32_w]
         rfl
        exact norm_ ZZ539e1d (hCont (gb259) _ ⟨hHeld, ZZ7d2168, ZZ713e70, ZZf9c532, GW259.out, GE259.out, NB246_259.out, NB259_246.out, NB247_259.out, NB259_247.out, ZZ1ddea0⟩)
       ·skip
        refine box_step ?hg (N := 6) ?hd (cs := #[.string (⟨#[]⟩ : ByteArray), .string (⟨#[]⟩ : ByteArray), .int .i64 0]) (t := 31) ?hr ?_; (case hd => rfl); (case hg => rfl); (case hr => first | (go_simp; done) | (go_simp; rfl))
        intro gb259 hg w106 hbox hb
        have n0_ := Aside0.mk (blk_below (g := gb246) (o := .cells #[.string a0_0, .string a0_1, .int .i64 a0_2] 36 (0, 0)) ZZ7d2168 hb)
        have n1_ := Aside0.mk (blk_below (g := gb247) (o := .cells #[.string a1_0, .string a1_1] 23 (0, 0)) ZZ713e70 hb)
        have n2_ := Aside0.mk (below_step ZZ97a20a hb)
        have n3_ := Aside0.mk (hbox)
        have n4_ := Aside0.mk ((by rw [hg]; exact (below_size ZZ97a20a) : w.heap.size ≤ gb259))
        have n5_ := Aside0.mk ((by rw [hg]; exact (below_size ZZ97a20a) : w.heap.size ≤ gb259))
        have n6_ := Aside0.mk ((by rw [hg]; exact Nat.ne_of_lt (blk_lt (g := gb246) (o := .cells #[.string a0_0, .string a0_1, .int .i64 a0_2] 36 (0, 0)) ZZ7d2168) : gb246 ≠ gb259))
        have n7_ := Aside0.mk ((by rw [hg]; exact Nat.ne_of_gt (blk_lt (g := gb246) (o := .cells #[.string a0_0, .string a0_1, .int .i64 a0_2] 36 (0, 0)) ZZ7d2168) : gb259 ≠ gb246))
        have n8_ := Aside0.mk ((by rw [hg]; exact Nat.ne_of_lt (blk_lt (g := gb247) (o := .cells #[.string a1_0, .string a1_1] 23 (0, 0)) ZZ713e70) : gb247 ≠ gb259))
        have n9_ := Aside0.mk ((by rw [hg]; exact Nat.ne_of_gt (blk_lt (g := gb247) (o := .cells #[.string a1_0, .string a1_1] 23 (0, 0)) ZZ713e70) : gb259 ≠ gb247))
        clear BK246
        clear BK247
        clear HB
        have BK246 := n0_
        have BK247 := n1_
        have HB := n2_
        have BK259 := n3_
        have GW259 := n4_
        have GE259 := n5_
        have NB246_259 := n6_
        have NB259_246 := n7_
        have NB247_259 := n8_
        have NB259_247 := n9_
        clear n0_ n1_ n2_ n3_ n4_ n5_ n6_ n7_ n8_ n9_
        clear hb hbox hg
        refine hK.out _ _ ⟨(blk_cell BK246.out 0).trans rfl, (blk_cell BK246.out 1).trans rfl, (blk_cell BK246.out 2).trans rfl, (blk_cell BK247.out 0).trans rfl, (blk_cell BK247.out 1).trans rfl⟩ (fun hHeld => ?_)
        clear hK K
        refine norm_ (a' := ?_) ?_ ?_
        rotate_left
        ·show Act.put _ (some 6) _ = _
         simp only [Act.put, List.setIfInBounds_toArray, List.set_cons_zero, List.set_cons_succ, i64_w, i32_w]
         rfl
        refine one_ (i := 4) (N := some 25) #[true, true, true, true, true, false, false, false, true, false, false] rfl rfl (one_of HT_.out (by kernel_rfl)) (by decide) (fun K hK => ?_)
        refine goes_ Tryd.func28 (by kernel_rfl) rfl #[.agg #[.string t250, .string t251, .int .i64 t252], .agg #[.string t253, .string t254]] (by rfl) rfl rfl ZZ19826e ?_
        with_reducible refine (spec_AppendRecord.calls k t250 t251 t252 t253 t254 t255 t256 t257 t258 _ A21.out).mono ?_
        rintro e w107 ⟨rfl, hb⟩
        refine ⟨_, rfl, ?_⟩
        have n0_ := Aside0.mk (blk_below (g := gb246) (o := .cells #[.string a0_0, .string a0_1, .int .i64 a0_2] 36 (0, 0)) ZZ7d2168 hb)
        have n1_ := Aside0.mk (blk_below (g := gb247) (o := .cells #[.string a1_0, .string a1_1] 23 (0, 0)) ZZ713e70 hb)
        have n2_ := Aside0.mk (blk_below (g := gb259) (o := .cells #[.string (⟨#[]⟩ : ByteArray), .string (⟨#[]⟩ : ByteArray), .int .i64 0] 31 (0, 0)) ZZf9c532 hb)
        have n3_ := Aside0.mk (below_step ZZ1ddea0 hb)
        clear BK246
        clear BK247
        clear BK259
        clear HB
        have BK246 := n0_
        have BK247 := n1_
        have BK259 := n2_
        have HB := n3_
        clear n0_ n1_ n2_ n3_
        (try clear hb)
        (try clear hb2)
        (try clear hk)
        (try clear hi)
        refine hK.out _ _ ⟨(blk_cell BK246.out 0).trans rfl, (blk_cell BK246.out 1).trans rfl, (blk_cell BK246.out 2).trans rfl, (blk_cell BK247.out 0).trans rfl, (blk_cell BK247.out 1).trans rfl⟩ (fun hHeld => ?_)
        clear hK K
        refine norm_ (a' := ?_) ?_ ?_
        rotate_left
        ·show Act.put _ (some 25) _ = _
         simp only [Act.put, List.setIfInBounds_toArray, List.set_cons_zero, List.set_cons_succ, i64_w, i32_w]
         rfl
        refine pu 5 20 ?_
        refine pu 6 26 ?_
        refine pu 7 27 ?_
        exact norm_ ZZ539e1d (hCont (gb259) _ ⟨hHeld, ZZ7d2168, ZZ713e70, ZZf9c532, GW259.out, GE259.out, NB246_259.out, NB259_246.out, NB247_259.out, NB259_247.out, ZZ1ddea0⟩)
      ·skip
       refine box_step ?hg (N := 6) ?hd (cs := #[.string (⟨#[]⟩ : ByteArray), .string (⟨#[]⟩ : ByteArray), .int .i64 0]) (t := 31) ?hr ?_; (case hd => rfl); (case hg => rfl); (case hr => first | (go_simp; done) | (go_simp; rfl))
       intro gb259 hg w105 hbox hb
       have n0_ := Aside0.mk (blk_below (g := gb246) (o := .cells #[.string a0_0, .string a0_1, .int .i64 a0_2] 36 (0, 0)) ZZ7d2168 hb)
       have n1_ := Aside0.mk (blk_below (g := gb247) (o := .cells #[.string a1_0, .string a1_1] 23 (0, 0)) ZZ713e70 hb)
       have n2_ := Aside0.mk (below_step ZZ97a20a hb)
       have n3_ := Aside0.mk (hbox)
       have n4_ := Aside0.mk ((by rw [hg]; exact (below_size ZZ97a20a) : w.heap.size ≤ gb259))
       have n5_ := Aside0.mk ((by rw [hg]; exact (below_size ZZ97a20a) : w.heap.size ≤ gb259))
       have n6_ := Aside0.mk ((by rw [hg]; exact Nat.ne_of_lt (blk_lt (g := gb246) (o := .cells #[.string a0_0, .string a0_1, .int .i64 a0_2] 36 (0, 0)) ZZ7d2168) : gb246 ≠ gb259))
       have n7_ := Aside0.mk ((by rw [hg]; exact Nat.ne_of_gt (blk_lt (g := gb246) (o := .cells #[.string a0_0, .string a0_1, .int .i64 a0_2] 36 (0, 0)) ZZ7d2168) : gb259 ≠ gb246))
       have n8_ := Aside0.mk ((by rw [hg]; exact Nat.ne_of_lt (blk_lt (g := gb247) (o := .cells #[.string a1_0, .string a1_1] 23 (0, 0)) ZZ713e70) : gb247 ≠ gb259))
       have n9_ := Aside0.mk ((by rw [hg]; exact Nat.ne_of_gt (blk_lt (g := gb247) (o := .cells #[.string a1_0, .string a1_1] 23 (0, 0)) ZZ713e70) : gb259 ≠ gb247))
       clear BK246
       clear BK247
       clear HB
       have BK246 := n0_
       have BK247 := n1_
       have HB := n2_
       have BK259 := n3_
       have GW259 := n4_
       have GE259 := n5_
       have NB246_259 := n6_
       have NB259_246 := n7_
       have NB247_259 := n8_
       have NB259_247 := n9_
       clear n0_ n1_ n2_ n3_ n4_ n5_ n6_ n7_ n8_ n9_
       clear hb hbox hg
       refine hK.out _ _ ⟨(blk_cell BK246.out 0).trans rfl, (blk_cell BK246.out 1).trans rfl, (blk_cell BK246.out 2).trans rfl, (blk_cell BK247.out 0).trans rfl, (blk_cell BK247.out 1).trans rfl⟩ (fun hHeld => ?_)
       clear hK K
       refine norm_ (a' := ?_) ?_ ?_
       rotate_left
       ·show Act.put _ (some 6) _ = _
        simp only [Act.put, List.setIfInBounds_toArray, List.set_cons_zero, List.set_cons_succ, i64_w, i32_w]
        rfl
       refine one_ (i := 3) (N := some 24) #[true, true, true, true, false, false, false, false, true, false, false] rfl rfl (one_of HT_.out (by kernel_rfl)) (by decide) (fun K hK => ?_)
       refine goes_ Tryd.func15 (by kernel_rfl) rfl #[.agg #[.string a1_0, .string a1_1]] (by rfl) rfl rfl ZZ19826e ?_
       with_reducible refine (laws_toLogRecord.calls a1_0 a1_1 t253 t254 _ A20.out).mono ?_
       rintro e w106 ⟨rfl, hb⟩
       refine ⟨_, rfl, ?_⟩
       have n0_ := Aside0.mk (blk_below (g := gb246) (o := .cells #[.string a0_0, .string a0_1, .int .i64 a0_2] 36 (0, 0)) ZZ7d2168 hb)
       have n1_ := Aside0.mk (blk_below (g := gb247) (o := .cells #[.string a1_0, .string a1_1] 23 (0, 0)) ZZ713e70 hb)
       have n2_ := Aside0.mk (blk_below (g := gb259) (o := .cells #[.string (⟨#[]⟩ : ByteArray), .string (⟨#[]⟩ : ByteArray), .int .i64 0] 31 (0, 0)) ZZf9c532 hb)
       have n3_ := Aside0.mk (below_step ZZ1ddea0 hb)
       clear BK246
       clear BK247
       clear BK259
       clear HB
       have BK246 := n0_
       have BK247 := n1_
       have BK259 := n2_
       have HB := n3_
       clear n0_ n1_ n2_ n3_
       (try clear hb)
       (try clear hb2)
       (try clear hk)
       (try clear hi)
       refine hK.out _ _ ⟨(blk_cell BK246.out 0).trans rfl, (blk_cell BK246.out 1).trans rfl, (blk_cell BK246.out 2).trans rfl, (blk_cell BK247.out 0).trans rfl, (blk_cell BK247.out 1).trans rfl⟩ (fun hHeld => ?_)
       clear hK K
       refine norm_ (a' := ?_) ?_ ?_
       rotate_left
       ·show Act.put _ (some 24) _ = _
        simp only [Act.put, List.setIfInBounds_toArray, List.set_cons_zero, List.set_cons_succ, i64_w, i32_w]
        rfl
       refine one_ (i := 4) (N := some 25) #[true, true, true, true, true, false, false, false, true, false, false] rfl rfl (one_of HT_.out (by kernel_rfl)) (by decide) (fun K hK => ?_)
       refine goes_ Tryd.func28 (by kernel_rfl) rfl #[.agg #[.string t250, .string t251, .int .i64 t252], .agg #[.string t253, .string t254]] (by rfl) rfl rfl ZZ19826e ?_
       with_reducible refine (spec_AppendRecord.calls k t250 t251 t252 t253 t254 t255 t256 t257 t258 _ A21.out).mono ?_
       rintro e w107 ⟨rfl, hb⟩
       refine ⟨_, rfl, ?_⟩
       have n0_ := Aside0.mk (blk_below (g := gb246) (o := .cells #[.string a0_0, .string a0_1, .int .i64 a0_2] 36 (0, 0)) ZZ7d2168 hb)
       have n1_ := Aside0.mk (blk_below (g := gb247) (o := .cells #[.string a1_0, .string a1_1] 23 (0, 0)) ZZ713e70 hb)
       have n2_ := Aside0.mk (blk_below (g := gb259) (o := .cells #[.string (⟨#[]⟩ : ByteArray), .string (⟨#[]⟩ : ByteArray), .int .i64 0] 31 (0, 0)) ZZf9c532 hb)
       have n3_ := Aside0.mk (below_step ZZ1ddea0 hb)
       clear BK246
       clear BK247
       clear BK259
       clear HB
       have BK246 := n0_
       have BK247 := n1_
       have BK259 := n2_
       have HB := n3_
       clear n0_ n1_ n2_ n3_
       (try clear hb)
       (try clear hb2)
       (try clear hk)
       (try clear hi)
       refine hK.out _ _ ⟨(blk_cell BK246.out 0).trans rfl, (blk_cell BK246.out 1).trans rfl, (blk_cell BK246.out 2).trans rfl, (blk_cell BK247.out 0).trans rfl, (blk_cell BK247.out 1).trans rfl⟩ (fun hHeld => ?_)
       clear hK K
       refine norm_ (a' := ?_) ?_ ?_
       rotate_left
       ·show Act.put _ (some 25) _ = _
        simp only [Act.put, List.setIfInBounds_toArray, List.set_cons_zero, List.set_cons_succ, i64_w, i32_w]
        rfl
       refine pu 5 20 ?_
       refine pu 6 26 ?_
       refine pu 7 27 ?_
       exact norm_ ZZ539e1d (hCont (gb259) _ ⟨hHeld, ZZ7d2168, ZZ713e70, ZZf9c532, GW259.out, GE259.out, NB246_259.out, NB259_246.out, NB247_259.out, NB259_247.out, ZZ1ddea0⟩)
     ·skip
      refine box_step ?hg (N := 6) ?hd (cs := #[.string (⟨#[]⟩ : ByteArray), .string (⟨#[]⟩ : ByteArray), .int .i64 0]) (t := 31) ?hr ?_; (case hd => rfl); (case hg => rfl); (case hr => first | (go_simp; done) | (go_simp; rfl))
      intro gb259 hg w104 hbox hb
      have n0_ := Aside0.mk (blk_below (g := gb246) (o := .cells #[.string a0_0, .string a0_1, .int .i64 a0_2] 36 (0, 0)) ZZ7d2168 hb)
      have n1_ := Aside0.mk (blk_below (g := gb247) (o := .cells #[.string a1_0, .string a1_1] 23 (0, 0)) ZZ713e70 hb)
      have n2_ := Aside0.mk (below_step ZZ97a20a hb)
      have n3_ := Aside0.mk (hbox)
      have n4_ := Aside0.mk ((by rw [hg]; exact (below_size ZZ97a20a) : w.heap.size ≤ gb259))
      have n5_ := Aside0.mk ((by rw [hg]; exact (below_size ZZ97a20a) : w.heap.size ≤ gb259))
      have n6_ := Aside0.mk ((by rw [hg]; exact Nat.ne_of_lt (blk_lt (g := gb246) (o := .cells #[.string a0_0, .string a0_1, .int .i64 a0_2] 36 (0, 0)) ZZ7d2168) : gb246 ≠ gb259))
      have n7_ := Aside0.mk ((by rw [hg]; exact Nat.ne_of_gt (blk_lt (g := gb246) (o := .cells #[.string a0_0, .string a0_1, .int .i64 a0_2] 36 (0, 0)) ZZ7d2168) : gb259 ≠ gb246))
      have n8_ := Aside0.mk ((by rw [hg]; exact Nat.ne_of_lt (blk_lt (g := gb247) (o := .cells #[.string a1_0, .string a1_1] 23 (0, 0)) ZZ713e70) : gb247 ≠ gb259))
      have n9_ := Aside0.mk ((by rw [hg]; exact Nat.ne_of_gt (blk_lt (g := gb247) (o := .cells #[.string a1_0, .string a1_1] 23 (0, 0)) ZZ713e70) : gb259 ≠ gb247))
      clear BK246
      clear BK247
      clear HB
      have BK246 := n0_
      have BK247 := n1_
      have HB := n2_
      have BK259 := n3_
      have GW259 := n4_
      have GE259 := n5_
      have NB246_259 := n6_
      have NB259_246 := n7_
      have NB247_259 := n8_
      have NB259_247 := n9_
      clear n0_ n1_ n2_ n3_ n4_ n5_ n6_ n7_ n8_ n9_
      clear hb hbox hg
      refine hK.out _ _ ⟨(blk_cell BK246.out 0).trans rfl, (blk_cell BK246.out 1).trans rfl, (blk_cell BK246.out 2).trans rfl, (blk_cell BK247.out 0).trans rfl, (blk_cell BK247.out 1).trans rfl⟩ (fun hHeld => ?_)
      clear hK K
      refine norm_ (a' := ?_) ?_ ?_
      rotate_left
      ·show Act.put _ (some 6) _ = _
       simp only [Act.put, List.setIfInBounds_toArray, List.set_cons_zero, List.set_cons_succ, i64_w, i32_w]
       rfl
      refine one_ (i := 1) (N := some 22) #[true, true, true, false, false, false, false, false, true, false, false] rfl rfl (one_of HT_.out (by kernel_rfl)) (by decide) (fun K hK => ?_)
      refine goes_ Tryd.func22 (by kernel_rfl) rfl #[.agg #[.string a0_0, .string a0_1, .int .i64 a0_2]] (by rfl) rfl rfl ZZ19826e ?_
      with_reducible refine (laws_toLog.calls a0_0 a0_1 a0_2 t250 t251 t252 _ A19.out).mono ?_
      rintro e w105 ⟨rfl, hb⟩
      refine ⟨_, rfl, ?_⟩
      have n0_ := Aside0.mk (blk_below (g := gb246) (o := .cells #[.string a0_0, .string a0_1, .int .i64 a0_2] 36 (0, 0)) ZZ7d2168 hb)
      have n1_ := Aside0.mk (blk_below (g := gb247) (o := .cells #[.string a1_0, .string a1_1] 23 (0, 0)) ZZ713e70 hb)
      have n2_ := Aside0.mk (blk_below (g := gb259) (o := .cells #[.string (⟨#[]⟩ : ByteArray), .string (⟨#[]⟩ : ByteArray), .int .i64 0] 31 (0, 0)) ZZf9c532 hb)
      have n3_ := Aside0.mk (below_step ZZ1ddea0 hb)
      clear BK246
      clear BK247
      clear BK259
      clear HB
      have BK246 := n0_
      have BK247 := n1_
      have BK259 := n2_
      have HB := n3_
      clear n0_ n1_ n2_ n3_
      (try clear hb)
      (try clear hb2)
      (try clear hk)
      (try clear hi)
      refine hK.out _ _ ⟨(blk_cell BK246.out 0).trans rfl, (blk_cell BK246.out 1).trans rfl, (blk_cell BK246.out 2).trans rfl, (blk_cell BK247.out 0).trans rfl, (blk_cell BK247.out 1).trans rfl⟩ (fun hHeld => ?_)
      clear hK K
      refine norm_ (a' := ?_) ?_ ?_
      rotate_left
      ·show Act.put _ (some 22) _ = _
       simp only [Act.put, List.setIfInBounds_toArray, List.set_cons_zero, List.set_cons_succ, i64_w, i32_w]
       rfl
      refine one_ (i := 3) (N := some 24) #[true, true, true, true, false, false, false, false, true, false, false] rfl rfl (one_of HT_.out (by kernel_rfl)) (by decide) (fun K hK => ?_)
      refine goes_ Tryd.func15 (by kernel_rfl) rfl #[.agg #[.string a1_0, .string a1_1]] (by rfl) rfl rfl ZZ19826e ?_
      with_reducible refine (laws_toLogRecord.calls a1_0 a1_1 t253 t254 _ A20.out).mono ?_
      rintro e w106 ⟨rfl, hb⟩
      refine ⟨_, rfl, ?_⟩
      have n0_ := Aside0.mk (blk_below (g := gb246) (o := .cells #[.string a0_0, .string a0_1, .int .i64 a0_2] 36 (0, 0)) ZZ7d2168 hb)
      have n1_ := Aside0.mk (blk_below (g := gb247) (o := .cells #[.string a1_0, .string a1_1] 23 (0, 0)) ZZ713e70 hb)
      have n2_ := Aside0.mk (blk_below (g := gb259) (o := .cells #[.string (⟨#[]⟩ : ByteArray), .string (⟨#[]⟩ : ByteArray), .int .i64 0] 31 (0, 0)) ZZf9c532 hb)
      have n3_ := Aside0.mk (below_step ZZ1ddea0 hb)
      clear BK246
      clear BK247
      clear BK259
      clear HB
      have BK246 := n0_
      have BK247 := n1_
      have BK259 := n2_
      have HB := n3_
      clear n0_ n1_ n2_ n3_
      (try clear hb)
      (try clear hb2)
      (try clear hk)
      (try clear hi)
      refine hK.out _ _ ⟨(blk_cell BK246.out 0).trans rfl, (blk_cell BK246.out 1).trans rfl, (blk_cell BK246.out 2).trans rfl, (blk_cell BK247.out 0).trans rfl, (blk_cell BK247.out 1).trans rfl⟩ (fun hHeld => ?_)
      clear hK K
      refine norm_ (a' := ?_) ?_ ?_
      rotate_left
      ·show Act.put _ (some 24) _ = _
       simp only [Act.put, List.setIfInBounds_toArray, List.set_cons_zero, List.set_cons_succ, i64_w, i32_w]
       rfl
      refine one_ (i := 4) (N := some 25) #[true, true, true, true, true, false, false, false, true, false, false] rfl rfl (one_of HT_.out (by kernel_rfl)) (by decide) (fun K hK => ?_)
      refine goes_ Tryd.func28 (by kernel_rfl) rfl #[.agg #[.string t250, .string t251, .int .i64 t252], .agg #[.string t253, .string t254]] (by rfl) rfl rfl ZZ19826e ?_
      with_reducible refine (spec_AppendRecord.calls k t250 t251 t252 t253 t254 t255 t256 t257 t258 _ A21.out).mono ?_
      rintro e w107 ⟨rfl, hb⟩
      refine ⟨_, rfl, ?_⟩
      have n0_ := Aside0.mk (blk_below (g := gb246) (o := .cells #[.string a0_0, .string a0_1, .int .i64 a0_2] 36 (0, 0)) ZZ7d2168 hb)
      have n1_ := Aside0.mk (blk_below (g := gb247) (o := .cells #[.string a1_0, .string a1_1] 23 (0, 0)) ZZ713e70 hb)
      have n2_ := Aside0.mk (blk_below (g := gb259) (o := .cells #[.string (⟨#[]⟩ : ByteArray), .string (⟨#[]⟩ : ByteArray), .int .i64 0] 31 (0, 0)) ZZf9c532 hb)
      have n3_ := Aside0.mk (below_step ZZ1ddea0 hb)
      clear BK246
      clear BK247
      clear BK259
      clear HB
      have BK246 := n0_
      have BK247 := n1_
      have BK259 := n2_
      have HB := n3_
      clear n0_ n1_ n2_ n3_
      (try clear hb)
      (try clear hb2)
      (try clear hk)
      (try clear hi)
      refine hK.out _ _ ⟨(blk_cell BK246.out 0).trans rfl, (blk_cell BK246.out 1).trans rfl, (blk_cell BK246.out 2).trans rfl, (blk_cell BK247.out 0).trans rfl, (blk_cell BK247.out 1).trans rfl⟩ (fun hHeld => ?_)
      clear hK K
      refine norm_ (a' := ?_) ?_ ?_
      rotate_left
      ·show Act.put _ (some 25) _ = _
       simp only [Act.put, List.setIfInBounds_toArray, List.set_cons_zero, List.set_cons_succ, i64_w, i32_w]
       rfl
      refine pu 5 20 ?_
      refine pu 6 26 ?_
      refine pu 7 27 ?_
      exact norm_ ZZ539e1d (hCont (gb259) _ ⟨hHeld, ZZ7d2168, ZZ713e70, ZZf9c532, GW259.out, GE259.out, NB246_259.out, NB259_246.out, NB247_259.out, NB259_247.out, ZZ1ddea0⟩)
    rintro gb259 w108 ⟨hS_, h0_, h1_, h2_, h3_, h4_, h5_, h6_, h7_, h8_, h9_⟩
    have n0_ : Aside0 (w108.heap[gb246]? = some (.cells #[.string a0_0, .string a0_1, .int .i64 a0_2] 36 (0, 0))) := ⟨h0_⟩
    have n1_ : Aside0 (w108.heap[gb247]? = some (.cells #[.string a1_0, .string a1_1] 23 (0, 0))) := ⟨h1_⟩
    have n2_ : Aside0 (w108.heap[gb259]? = some (.cells #[.string (⟨#[]⟩ : ByteArray), .string (⟨#[]⟩ : ByteArray), .int .i64 0] 31 (0, 0))) := ⟨h2_⟩
    have n3_ : Aside0 (w.heap.size ≤ gb259) := ⟨h3_⟩
    have n4_ : Aside0 (w.heap.size ≤ gb259) := ⟨h4_⟩
    have n5_ : Aside0 (gb246 ≠ gb259) := ⟨h5_⟩
    have n6_ : Aside0 (gb259 ≠ gb246) := ⟨h6_⟩
    have n7_ : Aside0 (gb247 ≠ gb259) := ⟨h7_⟩
    have n8_ : Aside0 (gb259 ≠ gb247) := ⟨h8_⟩
    have n9_ : Aside0 (Below w.heap.size w w108) := ⟨h9_⟩
    clear BK246
    clear BK247
    clear HB
    clear h0_ h1_ h2_ h3_ h4_ h5_ h6_ h7_ h8_ h9_
    have BK246 := n0_
    have BK247 := n1_
    have BK259 := n2_
    have GW259 := n3_
    have GE259 := n4_
    have NB246_259 := n5_
    have NB259_246 := n6_
    have NB247_259 := n7_
    have NB259_247 := n8_
    have HB := n9_
    clear n0_ n1_ n2_ n3_ n4_ n5_ n6_ n7_ n8_ n9_
    have hHeld : w108.cell? ⟨gb246, 0, none⟩ = some (.string a0_0) ∧ w108.cell? ⟨gb246, 1, none⟩ = some (.string a0_1) ∧ w108.cell? ⟨gb246, 2, none⟩ = some (.int .i64 a0_2) ∧ w108.cell? ⟨gb247, 0, none⟩ = some (.string a1_0) ∧ w108.cell? ⟨gb247, 1, none⟩ = some (.string a1_1) := hS_
    refine norm_ (a' := ?_) ?_ ?_
    rotate_left
    ·simp only [putAll, Act.put, List.setIfInBounds_toArray, List.set_cons_zero, List.set_cons_succ]
     rfl
    refine one_ (i := 9) (N := none) #[true, true, true, true, true, true, true, true, true, true, false] rfl rfl (one_of HT_.out (by kernel_rfl)) (by decide) (fun K hK => ?_)
    have hs109 : w108.cell? ⟨gb259, 0, none⟩ = some (.string (⟨#[]⟩ : ByteArray)) := (blk_cell BK259.out 0).trans rfl
    have hfs109 := blk_frozen BK259.out 0
    have hns109_0 := NB246_259.out
    have hns109_1 := NB247_259.out
    have hms109_0 := NB259_246.out
    have hms109_1 := NB259_247.out
    have hs110 : w108.cell? ⟨gb259, 1, none⟩ = some (.string (⟨#[]⟩ : ByteArray)) := (blk_cell BK259.out 1).trans rfl
    have hfs110 := blk_frozen BK259.out 1
    have hns110_0 := NB246_259.out
    have hns110_1 := NB247_259.out
    have hms110_0 := NB259_246.out
    have hms110_1 := NB259_247.out
    have hs111 : w108.cell? ⟨gb259, 2, none⟩ = some (.int .i64 0) := (blk_cell BK259.out 2).trans rfl
    have hfs111 := blk_frozen BK259.out 2
    have hns111_0 := NB246_259.out
    have hns111_1 := NB247_259.out
    have hms111_0 := NB259_246.out
    have hms111_1 := NB259_247.out
    refine skip_ (w1 := ?_) (by rfl) rfl ?_ ?_
    rotate_left
    ·go_simp
     rfl
    refine hK.out _ _ ⟨((cell_far (p := ⟨gb259, _, none⟩) NB246_259.out _).trans (((cell_far (p := ⟨gb259, _, none⟩) NB246_259.out _).trans (((cell_far (p := ⟨gb259, _, none⟩) NB246_259.out _).trans (hHeld.1)))))), ((cell_far (p := ⟨gb259, _, none⟩) NB246_259.out _).trans (((cell_far (p := ⟨gb259, _, none⟩) NB246_259.out _).trans (((cell_far (p := ⟨gb259, _, none⟩) NB246_259.out _).trans (hHeld.2.1)))))), ((cell_far (p := ⟨gb259, _, none⟩) NB246_259.out _).trans (((cell_far (p := ⟨gb259, _, none⟩) NB246_259.out _).trans (((cell_far (p := ⟨gb259, _, none⟩) NB246_259.out _).trans (hHeld.2.2.1)))))), ((cell_far (p := ⟨gb259, _, none⟩) NB247_259.out _).trans (((cell_far (p := ⟨gb259, _, none⟩) NB247_259.out _).trans (((cell_far (p := ⟨gb259, _, none⟩) NB247_259.out _).trans (hHeld.2.2.2.1)))))), ((cell_far (p := ⟨gb259, _, none⟩) NB247_259.out _).trans (((cell_far (p := ⟨gb259, _, none⟩) NB247_259.out _).trans (((cell_far (p := ⟨gb259, _, none⟩) NB247_259.out _).trans (hHeld.2.2.2.2))))))⟩ (fun hHeld => ?_)
    clear hK K
    refine pu 10 7 ?_
    refine done_ (done_of HT_.out (by kernel_rfl)) ?_
    try go_wp2
    have n0_ : Aside0 ((((w108.setCell ⟨gb259, 0, none⟩ (.string t255)).setCell ⟨gb259, 1, none⟩ (.string t256)).setCell ⟨gb259, 2, none⟩ (.int .i64 t257)).heap[gb246]? = some (.cells #[.string a0_0, .string a0_1, .int .i64 a0_2] 36 (0, 0))) := ⟨by (with_reducible repeat (first | refine blk_drewN ?_ _ | refine blk_drew ?_ | refine blk_alloc ?_ _)); refine blk_far ?_ NB246_259.out _; (with_reducible repeat (first | refine blk_drewN ?_ _ | refine blk_drew ?_ | refine blk_alloc ?_ _)); refine blk_far ?_ NB246_259.out _; (with_reducible repeat (first | refine blk_drewN ?_ _ | refine blk_drew ?_ | refine blk_alloc ?_ _)); refine blk_far ?_ NB246_259.out _; (with_reducible repeat (first | refine blk_drewN ?_ _ | refine blk_drew ?_ | refine blk_alloc ?_ _)); exact BK246.out⟩
    have n1_ : Aside0 ((((w108.setCell ⟨gb259, 0, none⟩ (.string t255)).setCell ⟨gb259, 1, none⟩ (.string t256)).setCell ⟨gb259, 2, none⟩ (.int .i64 t257)).heap[gb247]? = some (.cells #[.string a1_0, .string a1_1] 23 (0, 0))) := ⟨by (with_reducible repeat (first | refine blk_drewN ?_ _ | refine blk_drew ?_ | refine blk_alloc ?_ _)); refine blk_far ?_ NB247_259.out _; (with_reducible repeat (first | refine blk_drewN ?_ _ | refine blk_drew ?_ | refine blk_alloc ?_ _)); refine blk_far ?_ NB247_259.out _; (with_reducible repeat (first | refine blk_drewN ?_ _ | refine blk_drew ?_ | refine blk_alloc ?_ _)); refine blk_far ?_ NB247_259.out _; (with_reducible repeat (first | refine blk_drewN ?_ _ | refine blk_drew ?_ | refine blk_alloc ?_ _)); exact BK247.out⟩
    have n2_ : Aside0 ((((w108.setCell ⟨gb259, 0, none⟩ (.string t255)).setCell ⟨gb259, 1, none⟩ (.string t256)).setCell ⟨gb259, 2, none⟩ (.int .i64 t257)).heap[gb259]? = some (.cells #[.string t255, .string t256, .int .i64 t257] 31 (0, 0))) := ⟨by (with_reducible repeat (first | refine blk_drewN ?_ _ | refine blk_drew ?_ | refine blk_alloc ?_ _)); refine blk_put (cs := #[.string t255, .string t256, .int .i64 0]) ?_ 2 _ rfl; (with_reducible repeat (first | refine blk_drewN ?_ _ | refine blk_drew ?_ | refine blk_alloc ?_ _)); refine blk_put (cs := #[.string t255, .string (⟨#[]⟩ : ByteArray), .int .i64 0]) ?_ 1 _ rfl; (with_reducible repeat (first | refine blk_drewN ?_ _ | refine blk_drew ?_ | refine blk_alloc ?_ _)); refine blk_put (cs := #[.string (⟨#[]⟩ : ByteArray), .string (⟨#[]⟩ : ByteArray), .int .i64 0]) ?_ 0 _ rfl; (with_reducible repeat (first | refine blk_drewN ?_ _ | refine blk_drew ?_ | refine blk_alloc ?_ _)); exact BK259.out⟩
    have n3_ : Aside0 (Below w.heap.size w (((w108.setCell ⟨gb259, 0, none⟩ (.string t255)).setCell ⟨gb259, 1, none⟩ (.string t256)).setCell ⟨gb259, 2, none⟩ (.int .i64 t257))) := ⟨by repeat (first | (with_reducible first | exact HB.out | apply below_alloc | apply pw_below_drewN | apply below_drew1 | refine below_set ?_ GE246.out | refine below_set ?_ GE247.out | refine below_set ?_ GE259.out) | exact HB.out)⟩
    (try clear BK246)
    (try clear BK247)
    (try clear BK259)
    (try clear HB)
    generalize (((w108.setCell ⟨gb259, 0, none⟩ (.string t255)).setCell ⟨gb259, 1, none⟩ (.string t256)).setCell ⟨gb259, 2, none⟩ (.int .i64 t257)) = w112 at n0_ n1_ n2_ n3_ ⊢
    have BK246 := n0_
    have BK247 := n1_
    have BK259 := n2_
    have HB := n3_
    clear n0_ n1_ n2_ n3_
    have n0_ := Aside0.mk (blk_drew BK246.out)
    have n1_ := Aside0.mk (blk_drew BK247.out)
    have n2_ := Aside0.mk (blk_drew BK259.out)
    have n3_ := Aside0.mk (below_drew1 HB.out)
    clear BK246
    clear BK247
    clear BK259
    clear HB
    have BK246 := n0_
    have BK247 := n1_
    have BK259 := n2_
    have HB := n3_
    clear n0_ n1_ n2_ n3_
    refine start_ (n := 11) (S := fun w' => w'.cell? ⟨gb246, 0, none⟩ = some (.string a0_0) ∧ w'.cell? ⟨gb246, 1, none⟩ = some (.string a0_1) ∧ w'.cell? ⟨gb246, 2, none⟩ = some (.int .i64 a0_2) ∧ w'.cell? ⟨gb247, 0, none⟩ = some (.string a1_0) ∧ w'.cell? ⟨gb247, 1, none⟩ = some (.string a1_1)) (ds := []) #[false, false, false, false, false, false, false, false, false, false, false] (by kernel_rfl) rfl rfl ⟨(blk_cell BK246.out 0).trans rfl, (blk_cell BK246.out 1).trans rfl, (blk_cell BK246.out 2).trans rfl, (blk_cell BK247.out 0).trans rfl, (blk_cell BK247.out 1).trans rfl⟩ (fun hHeld => ?_); refine with_tabW laws_FnExactAppendRecord.tab9 laws_FnExactAppendRecord.bits9 (fun HT_ HW_ => ?_)
    generalize w112.drew = w113 at BK246 BK247 BK259 HB hHeld ⊢
    refine tk 0 29 ?_
    refine tk 2 31 ?_
    refine join_ (σ := Nat) 2 #[true, true, true, true, true, true, true, true, true, false, false] (fun s_ => [(30, .agg #[.string t260, .string t261, .int .i64 t262]), (32, .agg #[.string t263, .string t264]), (33, .tuple #[.agg #[.string t265, .string t266, .int .i64 t267], .int .i64 t268]), (8, .pointer (some ⟨s_, 0, none⟩)), (28, .tuple #[.agg #[.string t265, .string t266, .int .i64 t267], .int .i64 t268]), (34, .agg #[.string t265, .string t266, .int .i64 t267]), (35, .int .i64 t268)]) (fun s_ w' => (w'.cell? ⟨gb246, 0, none⟩ = some (.string a0_0) ∧ w'.cell? ⟨gb246, 1, none⟩ = some (.string a0_1) ∧ w'.cell? ⟨gb246, 2, none⟩ = some (.int .i64 a0_2) ∧ w'.cell? ⟨gb247, 0, none⟩ = some (.string a1_0) ∧ w'.cell? ⟨gb247, 1, none⟩ = some (.string a1_1)) ∧ (w'.heap[gb246]? = some (.cells #[.string a0_0, .string a0_1, .int .i64 a0_2] 36 (0, 0))) ∧ (w'.heap[gb247]? = some (.cells #[.string a1_0, .string a1_1] 23 (0, 0))) ∧ (w'.heap[gb259]? = some (.cells #[.string t255, .string t256, .int .i64 t257] 31 (0, 0))) ∧ (w'.heap[s_]? = some (.cells #[.string (⟨#[]⟩ : ByteArray), .string (⟨#[]⟩ : ByteArray), .int .i64 0] 31 (0, 0))) ∧ (w.heap.size ≤ s_) ∧ (w.heap.size ≤ s_) ∧ (gb246 ≠ s_) ∧ (s_ ≠ gb246) ∧ (gb247 ≠ s_) ∧ (s_ ≠ gb247) ∧ (gb259 ≠ s_) ∧ (s_ ≠ gb259) ∧ (Below w.heap.size w w')) ?_ ?_
    rotate_left
    ·intro hCont
     refine two_ (i := 1) (j := 8) (Ni := some 30) (Nj := some 8) #[true, true, true, false, false, false, false, false, false, false, false] #[true, false, true, false, false, false, false, false, true, false, false] rfl rfl rfl rfl (two_of HT_.out (by kernel_rfl)) (by decide) (by decide) (fun K hK => ?_) (fun K hK => ?_)
     ·skip
      refine goes_ Tryd.func22 (by kernel_rfl) rfl #[.agg #[.string a0_0, .string a0_1, .int .i64 a0_2]] (by rfl) rfl rfl ZZ19826e ?_
      with_reducible refine (laws_toLog.calls a0_0 a0_1 a0_2 t260 t261 t262 _ A22.out).mono ?_
      rintro e w114 ⟨rfl, hb⟩
      refine ⟨_, rfl, ?_⟩
      have n0_ := Aside0.mk (blk_below (g := gb246) (o := .cells #[.string a0_0, .string a0_1, .int .i64 a0_2] 36 (0, 0)) ZZ7d2168 hb)
      have n1_ := Aside0.mk (blk_below (g := gb247) (o := .cells #[.string a1_0, .string a1_1] 23 (0, 0)) ZZ713e70 hb)
      have n2_ := Aside0.mk (blk_below (g := gb259) (o := .cells #[.string t255, .string t256, .int .i64 t257] 31 (0, 0)) ZZf9c532 hb)
      have n3_ := Aside0.mk (below_step ZZ1ddea0 hb)
      clear BK246
      clear BK247
      clear BK259
      clear HB
      have BK246 := n0_
      have BK247 := n1_
      have BK259 := n2_
      have HB := n3_
      clear n0_ n1_ n2_ n3_
      (try clear hb)
      (try clear hb2)
      (try clear hk)
      (try clear hi)
      refine hK.out _ _ ⟨(blk_cell BK246.out 0).trans rfl, (blk_cell BK246.out 1).trans rfl, (blk_cell BK246.out 2).trans rfl, (blk_cell BK247.out 0).trans rfl, (blk_cell BK247.out 1).trans rfl⟩ (fun hHeld => ?_)
      clear hK K
      refine norm_ (a' := ?_) ?_ ?_
      rotate_left
      ·show Act.put _ (some 30) _ = _
       simp only [Act.put, List.setIfInBounds_toArray, List.set_cons_zero, List.set_cons_succ, i64_w, i32_w]
       rfl
      refine two_ (i := 3) (j := 8) (Ni := some 32) (Nj := some 8) #[true, true, true, true, false, false, false, false, false, false, false] #[true, true, true, false, false, false, false, false, true, false, false] rfl rfl rfl rfl (two_of HT_.out (by kernel_rfl)) (by decide) (by decide) (fun K hK => ?_) (fun K hK => ?_)
      ·skip
       refine goes_ Tryd.func15 (by kernel_rfl) rfl #[.agg #[.string a1_0, .string a1_1]] (by rfl) rfl rfl ZZ19826e ?_
       with_reducible refine (laws_toLogRecord.calls a1_0 a1_1 t263 t264 _ A23.out).mono ?_
       rintro e w115 ⟨rfl, hb⟩
       refine ⟨_, rfl, ?_⟩
       have n0_ := Aside0.mk (blk_below (g := gb246) (o := .cells #[.string a0_0, .string a0_1, .int .i64 a0_2] 36 (0, 0)) ZZ7d2168 hb)
       have n1_ := Aside0.mk (blk_below (g := gb247) (o := .cells #[.string a1_0, .string a1_1] 23 (0, 0)) ZZ713e70 hb)
       have n2_ := Aside0.mk (blk_below (g := gb259) (o := .cells #[.string t255, .string t256, .int .i64 t257] 31 (0, 0)) ZZf9c532 hb)
       have n3_ := Aside0.mk (below_step ZZ1ddea0 hb)
       clear BK246
       clear BK247
       clear BK259
       clear HB
       have BK246 := n0_
       have BK247 := n1_
       have BK259 := n2_
       have HB := n3_
       clear n0_ n1_ n2_ n3_
       (try clear hb)
       (try clear hb2)
       (try clear hk)
       (try clear hi)
       refine hK.out _ _ ⟨(blk_cell BK246.out 0).trans rfl, (blk_cell BK246.out 1).trans rfl, (blk_cell BK246.out 2).trans rfl, (blk_cell BK247.out 0).trans rfl, (blk_cell BK247.out 1).trans rfl⟩ (fun hHeld => ?_)
       clear hK K
       refine norm_ (a' := ?_) ?_ ?_
       rotate_left
       ·show Act.put _ (some 32) _ = _
        simp only [Act.put, List.setIfInBounds_toArray, List.set_cons_zero, List.set_cons_succ, i64_w, i32_w]
        rfl
       refine two_ (i := 4) (j := 8) (Ni := some 33) (Nj := some 8) #[true, true, true, true, true, false, false, false, false, false, false] #[true, true, true, true, false, false, false, false, true, false, false] rfl rfl rfl rfl (two_of HT_.out (by kernel_rfl)) (by decide) (by decide) (fun K hK => ?_) (fun K hK => ?_)
       ·skip
        refine goes_ Tryd.func29 (by kernel_rfl) rfl #[.agg #[.string t260, .string t261, .int .i64 t262], .agg #[.string t263, .string t264]] (by rfl) rfl rfl ZZ19826e ?_
        with_reducible refine (impl_AppendRecord.calls k t260 t261 t262 t263 t264 t265 t266 t267 t268 _ ?side1 A24.out).mono ?_
        (case side1 => first | exact HV.out | exact TInv.below HV.out ZZ1ddea0)
        rintro e w116 ⟨rfl, hb⟩
        refine ⟨_, rfl, ?_⟩
        have n0_ := Aside0.mk (blk_below (g := gb246) (o := .cells #[.string a0_0, .string a0_1, .int .i64 a0_2] 36 (0, 0)) ZZ7d2168 hb)
        have n1_ := Aside0.mk (blk_below (g := gb247) (o := .cells #[.string a1_0, .string a1_1] 23 (0, 0)) ZZ713e70 hb)
        have n2_ := Aside0.mk (blk_below (g := gb259) (o := .cells #[.string t255, .string t256, .int .i64 t257] 31 (0, 0)) ZZf9c532 hb)
        have n3_ := Aside0.mk (below_step ZZ1ddea0 hb)
        clear BK246
        clear BK247
        clear BK259
        clear HB
        have BK246 := n0_
        have BK247 := n1_
        have BK259 := n2_
        have HB := n3_
        clear n0_ n1_ n2_ n3_
        (try clear hb)
        (try clear hb2)
        (try clear hk)
        (try clear hi)
        refine hK.out _ _ ⟨(blk_cell BK246.out 0).trans rfl, (blk_cell BK246.out 1).trans rfl, (blk_cell BK246.out 2).trans rfl, (blk_cell BK247.out 0).trans rfl, (blk_cell BK247.out 1).trans rfl⟩ (fun hHeld => ?_)
        clear hK K
        refine norm_ (a' := ?_) ?_ ?_
        rotate_left
        ·show Act.put _ (some 33) _ = _
         simp only [Act.put, List.setIfInBounds_toArray, List.set_cons_zero, List.set_cons_succ, i64_w, i32_w]
         rfl
        refine pu 5 28 ?_
        refine pu 6 34 ?_
        refine pu 7 35 ?_
        refine one_ (i := 8) (N := some 8) #[true, true, true, true, true, true, true, true, true, false, false] rfl rfl (one_of HT_.out (by kernel_rfl)) (by decide) (fun K hK => ?_)
        refine box_step ?hg (N := 8) ?hd (cs := #[.string (⟨#[]⟩ : ByteArray), .string (⟨#[]⟩ : ByteArray), .int .i64 0]) (t := 31) ?hr ?_; (case hd => rfl); (case hg => rfl); (case hr => first | (go_simp; done) | (go_simp; rfl))
        intro gb269 hg w117 hbox hb
        have n0_ := Aside0.mk (blk_below (g := gb246) (o := .cells #[.string a0_0, .string a0_1, .int .i64 a0_2] 36 (0, 0)) ZZ7d2168 hb)
        have n1_ := Aside0.mk (blk_below (g := gb247) (o := .cells #[.string a1_0, .string a1_1] 23 (0, 0)) ZZ713e70 hb)
        have n2_ := Aside0.mk (blk_below (g := gb259) (o := .cells #[.string t255, .string t256, .int .i64 t257] 31 (0, 0)) ZZf9c532 hb)
        have n3_ := Aside0.mk (below_step ZZ1ddea0 hb)
        have n4_ := Aside0.mk (hbox)
        have n5_ := Aside0.mk ((by rw [hg]; exact (below_size ZZ1ddea0) : w.heap.size ≤ gb269))
        have n6_ := Aside0.mk ((by rw [hg]; exact (below_size ZZ1ddea0) : w.heap.size ≤ gb269))
        have n7_ := Aside0.mk ((by rw [hg]; exact Nat.ne_of_lt (blk_lt (g := gb246) (o := .cells #[.string a0_0, .string a0_1, .int .i64 a0_2] 36 (0, 0)) ZZ7d2168) : gb246 ≠ gb269))
        have n8_ := Aside0.mk ((by rw [hg]; exact Nat.ne_of_gt (blk_lt (g := gb246) (o := .cells #[.string a0_0, .string a0_1, .int .i64 a0_2] 36 (0, 0)) ZZ7d2168) : gb269 ≠ gb246))
        have n9_ := Aside0.mk ((by rw [hg]; exact Nat.ne_of_lt (blk_lt (g := gb247) (o := .cells #[.string a1_0, .string a1_1] 23 (0, 0)) ZZ713e70) : gb247 ≠ gb269))
        have n10_ := Aside0.mk ((by rw [hg]; exact Nat.ne_of_gt (blk_lt (g := gb247) (o := .cells #[.string a1_0, .string a1_1] 23 (0, 0)) ZZ713e70) : gb269 ≠ gb247))
        have n11_ := Aside0.mk ((by rw [hg]; exact Nat.ne_of_lt (blk_lt (g := gb259) (o := .cells #[.string t255, .string t256, .int .i64 t257] 31 (0, 0)) ZZf9c532) : gb259 ≠ gb269))
        have n12_ := Aside0.mk ((by rw [hg]; exact Nat.ne_of_gt (blk_lt (g := gb259) (o := .cells #[.string t255, .string t256, .int .i64 t257] 31 (0, 0)) ZZf9c532) : gb269 ≠ gb259))
        clear BK246
        clear BK247
        clear BK259
        clear HB
        have BK246 := n0_
        have BK247 := n1_
        have BK259 := n2_
        have HB := n3_
        have BK269 := n4_
        have GW269 := n5_
        have GE269 := n6_
        have NB246_269 := n7_
        have NB269_246 := n8_
        have NB247_269 := n9_
        have NB269_247 := n10_
        have NB259_269 := n11_
        have NB269_259 := n12_
        clear n0_ n1_ n2_ n3_ n4_ n5_ n6_ n7_ n8_ n9_ n10_ n11_ n12_
        clear hb hbox hg
        refine hK.out _ _ ⟨(blk_cell BK246.out 0).trans rfl, (blk_cell BK246.out 1).trans rfl, (blk_cell BK246.out 2).trans rfl, (blk_cell BK247.out 0).trans rfl, (blk_cell BK247.out 1).trans rfl⟩ (fun hHeld => ?_)
        clear hK K
        refine norm_ (a' := ?_) ?_ ?_
        rotate_left
        ·show Act.put _ (some 8) _ = _
         simp only [Act.put, List.setIfInBounds_toArray, List.set_cons_zero, List.set_cons_succ, i64_w, i32_w]
         rfl
        exact norm_ ZZ539e1d (hCont (gb269) _ ⟨hHeld, ZZ7d2168, ZZ713e70, ZZf9c532, ZZd45ccb, GW269.out, GE269.out, NB246_269.out, NB269_246.out, NB247_269.out, NB269_247.out, NB259_269.out, NB269_259.out, ZZbd9ab3⟩)
       ·skip
        refine box_step ?hg (N := 8) ?hd (cs := #[.string (⟨#[]⟩ : ByteArray), .string (⟨#[]⟩ : ByteArray), .int .i64 0]) (t := 31) ?hr ?_; (case hd => rfl); (case hg => rfl); (case hr => first | (go_simp; done) | (go_simp; rfl))
        intro gb269 hg w116 hbox hb
        have n0_ := Aside0.mk (blk_below (g := gb246) (o := .cells #[.string a0_0, .string a0_1, .int .i64 a0_2] 36 (0, 0)) ZZ7d2168 hb)
        have n1_ := Aside0.mk (blk_below (g := gb247) (o := .cells #[.string a1_0, .string a1_1] 23 (0, 0)) ZZ713e70 hb)
        have n2_ := Aside0.mk (blk_below (g := gb259) (o := .cells #[.string t255, .string t256, .int .i64 t257] 31 (0, 0)) ZZf9c532 hb)
        have n3_ := Aside0.mk (below_step ZZ1ddea0 hb)
        have n4_ := Aside0.mk (hbox)
        have n5_ := Aside0.mk ((by rw [hg]; exact (below_size ZZ1ddea0) : w.heap.size ≤ gb269))
        have n6_ := Aside0.mk ((by rw [hg]; exact (below_size ZZ1ddea0) : w.heap.size ≤ gb269))
        have n7_ := Aside0.mk ((by rw [hg]; exact Nat.ne_of_lt (blk_lt (g := gb246) (o := .cells #[.string a0_0, .string a0_1, .int .i64 a0_2] 36 (0, 0)) ZZ7d2168) : gb246 ≠ gb269))
        have n8_ := Aside0.mk ((by rw [hg]; exact Nat.ne_of_gt (blk_lt (g := gb246) (o := .cells #[.string a0_0, .string a0_1, .int .i64 a0_2] 36 (0, 0)) ZZ7d2168) : gb269 ≠ gb246))
        have n9_ := Aside0.mk ((by rw [hg]; exact Nat.ne_of_lt (blk_lt (g := gb247) (o := .cells #[.string a1_0, .string a1_1] 23 (0, 0)) ZZ713e70) : gb247 ≠ gb269))
        have n10_ := Aside0.mk ((by rw [hg]; exact Nat.ne_of_gt (blk_lt (g := gb247) (o := .cells #[.string a1_0, .string a1_1] 23 (0, 0)) ZZ713e70) : gb269 ≠ gb247))
        have n11_ := Aside0.mk ((by rw [hg]; exact Nat.ne_of_lt (blk_lt (g := gb259) (o := .cells #[.string t255, .string t256, .int .i64 t257] 31 (0, 0)) ZZf9c532) : gb259 ≠ gb269))
        have n12_ := Aside0.mk ((by rw [hg]; exact Nat.ne_of_gt (blk_lt (g := gb259) (o := .cells #[.string t255, .string t256, .int .i64 t257] 31 (0, 0)) ZZf9c532) : gb269 ≠ gb259))
        clear BK246
        clear BK247
        clear BK259
        clear HB
        have BK246 := n0_
        have BK247 := n1_
        have BK259 := n2_
        have HB := n3_
        have BK269 := n4_
        have GW269 := n5_
        have GE269 := n6_
        have NB246_269 := n7_
        have NB269_246 := n8_
        have NB247_269 := n9_
        have NB269_247 := n10_
        have NB259_269 := n11_
        have NB269_259 := n12_
        clear n0_ n1_ n2_ n3_ n4_ n5_ n6_ n7_ n8_ n9_ n10_ n11_ n12_
        clear hb hbox hg
        refine hK.out _ _ ⟨(blk_cell BK246.out 0).trans rfl, (blk_cell BK246.out 1).trans rfl, (blk_cell BK246.out 2).trans rfl, (blk_cell BK247.out 0).trans rfl, (blk_cell BK247.out 1).trans rfl⟩ (fun hHeld => ?_)
        clear hK K
        refine norm_ (a' := ?_) ?_ ?_
        rotate_left
        ·show Act.put _ (some 8) _ = _
         simp only [Act.put, List.setIfInBounds_toArray, List.set_cons_zero, List.set_cons_succ, i64_w, i32_w]
         rfl
        refine one_ (i := 4) (N := some 33) #[true, true, true, true, true, false, false, false, true, false, false] rfl rfl (one_of HT_.out (by kernel_rfl)) (by decide) (fun K hK => ?_)
        refine goes_ Tryd.func29 (by kernel_rfl) rfl #[.agg #[.string t260, .string t261, .int .i64 t262], .agg #[.string t263, .string t264]] (by rfl) rfl rfl ZZ19826e ?_
        with_reducible refine (impl_AppendRecord.calls k t260 t261 t262 t263 t264 t265 t266 t267 t268 _ ?side1 A24.out).mono ?_
        (case side1 => first | exact HV.out | exact TInv.below HV.out ZZbd9ab3)
        rintro e w117 ⟨rfl, hb⟩
        refine ⟨_, rfl, ?_⟩
        have n0_ := Aside0.mk (blk_below (g := gb246) (o := .cells #[.string a0_0, .string a0_1, .int .i64 a0_2] 36 (0, 0)) ZZ7d2168 hb)
        have n1_ := Aside0.mk (blk_below (g := gb247) (o := .cells #[.string a1_0, .string a1_1] 23 (0, 0)) ZZ713e70 hb)
        have n2_ := Aside0.mk (blk_below (g := gb259) (o := .cells #[.string t255, .string t256, .int .i64 t257] 31 (0, 0)) ZZf9c532 hb)
        have n3_ := Aside0.mk (blk_below (g := gb269) (o := .cells #[.string (⟨#[]⟩ : ByteArray), .string (⟨#[]⟩ : ByteArray), .int .i64 0] 31 (0, 0)) ZZd45ccb hb)
        have n4_ := Aside0.mk (below_step ZZbd9ab3 hb)
        clear BK246
        clear BK247
        clear BK259
        clear BK269
        clear HB
        have BK246 := n0_
        have BK247 := n1_
        have BK259 := n2_
        have BK269 := n3_
        have HB := n4_
        clear n0_ n1_ n2_ n3_ n4_
        (try clear hb)
        (try clear hb2)
        (try clear hk)
        (try clear hi)
        refine hK.out _ _ ⟨(blk_cell BK246.out 0).trans rfl, (blk_cell BK246.out 1).trans rfl, (blk_cell BK246.out 2).trans rfl, (blk_cell BK247.out 0).trans rfl, (blk_cell BK247.out 1).trans rfl⟩ (fun hHeld => ?_)
        clear hK K
        refine norm_ (a' := ?_) ?_ ?_
        rotate_left
        ·show Act.put _ (some 33) _ = _
         simp only [Act.put, List.setIfInBounds_toArray, List.set_cons_zero, List.set_cons_succ, i64_w, i32_w]
         rfl
        refine pu 5 28 ?_
        refine pu 6 34 ?_
        refine pu 7 35 ?_
        exact norm_ ZZ539e1d (hCont (gb269) _ ⟨hHeld, ZZ7d2168, ZZ713e70, ZZf9c532, ZZd45ccb, GW269.out, GE269.out, NB246_269.out, NB269_246.out, NB247_269.out, NB269_247.out, NB259_269.out, NB269_259.out, ZZbd9ab3⟩)
      ·skip
       refine box_step ?hg (N := 8) ?hd (cs := #[.string (⟨#[]⟩ : ByteArray), .string (⟨#[]⟩ : ByteArray), .int .i64 0]) (t := 31) ?hr ?_; (case hd => rfl); (case hg => rfl); (case hr => first | (go_simp; done) | (go_simp; rfl))
       intro gb269 hg w115 hbox hb
       have n0_ := Aside0.mk (blk_below (g := gb246) (o := .cells #[.string a0_0, .string a0_1, .int .i64 a0_2] 36 (0, 0)) ZZ7d2168 hb)
       have n1_ := Aside0.mk (blk_below (g := gb247) (o := .cells #[.string a1_0, .string a1_1] 23 (0, 0)) ZZ713e70 hb)
       have n2_ := Aside0.mk (blk_below (g := gb259) (o := .cells #[.string t255, .string t256, .int .i64 t257] 31 (0, 0)) ZZf9c532 hb)
       have n3_ := Aside0.mk (below_step ZZ1ddea0 hb)
       have n4_ := Aside0.mk (hbox)
       have n5_ := Aside0.mk ((by rw [hg]; exact (below_size ZZ1ddea0) : w.heap.size ≤ gb269))
       have n6_ := Aside0.mk ((by rw [hg]; exact (below_size ZZ1ddea0) : w.heap.size ≤ gb269))
       have n7_ := Aside0.mk ((by rw [hg]; exact Nat.ne_of_lt (blk_lt (g := gb246) (o := .cells #[.string a0_0, .string a0_1, .int .i64 a0_2] 36 (0, 0)) ZZ7d2168) : gb246 ≠ gb269))
       have n8_ := Aside0.mk ((by rw [hg]; exact Nat.ne_of_gt (blk_lt (g := gb246) (o := .cells #[.string a0_0, .string a0_1, .int .i64 a0_2] 36 (0, 0)) ZZ7d2168) : gb269 ≠ gb246))
       have n9_ := Aside0.mk ((by rw [hg]; exact Nat.ne_of_lt (blk_lt (g := gb247) (o := .cells #[.string a1_0, .string a1_1] 23 (0, 0)) ZZ713e70) : gb247 ≠ gb269))
       have n10_ := Aside0.mk ((by rw [hg]; exact Nat.ne_of_gt (blk_lt (g := gb247) (o := .cells #[.string a1_0, .string a1_1] 23 (0, 0)) ZZ713e70) : gb269 ≠ gb247))
       have n11_ := Aside0.mk ((by rw [hg]; exact Nat.ne_of_lt (blk_lt (g := gb259) (o := .cells #[.string t255, .string t256, .int .i64 t257] 31 (0, 0)) ZZf9c532) : gb259 ≠ gb269))
       have n12_ := Aside0.mk ((by rw [hg]; exact Nat.ne_of_gt (blk_lt (g := gb259) (o := .cells #[.string t255, .string t256, .int .i64 t257] 31 (0, 0)) ZZf9c532) : gb269 ≠ gb259))
       clear BK246
       clear BK247
       clear BK259
       clear HB
       have BK246 := n0_
       have BK247 := n1_
       have BK259 := n2_
       have HB := n3_
       have BK269 := n4_
       have GW269 := n5_
       have GE269 := n6_
       have NB246_269 := n7_
       have NB269_246 := n8_
       have NB247_269 := n9_
       have NB269_247 := n10_
       have NB259_269 := n11_
       have NB269_259 := n12_
       clear n0_ n1_ n2_ n3_ n4_ n5_ n6_ n7_ n8_ n9_ n10_ n11_ n12_
       clear hb hbox hg
       refine hK.out _ _ ⟨(blk_cell BK246.out 0).trans rfl, (blk_cell BK246.out 1).trans rfl, (blk_cell BK246.out 2).trans rfl, (blk_cell BK247.out 0).trans rfl, (blk_cell BK247.out 1).trans rfl⟩ (fun hHeld => ?_)
       clear hK K
       refine norm_ (a' := ?_) ?_ ?_
       rotate_left
       ·show Act.put _ (some 8) _ = _
        simp only [Act.put, List.setIfInBounds_toArray, List.set_cons_zero, List.set_cons_succ, i64_w, i32_w]
        rfl
       refine one_ (i := 3) (N := some 32) #[true, true, true, true, false, false, false, false, true, false, false] rfl rfl (one_of HT_.out (by kernel_rfl)) (by decide) (fun K hK => ?_)
       refine goes_ Tryd.func15 (by kernel_rfl) rfl #[.agg #[.string a1_0, .string a1_1]] (by rfl) rfl rfl ZZ19826e ?_
       with_reducible refine (laws_toLogRecord.calls a1_0 a1_1 t263 t264 _ A23.out).mono ?_
       rintro e w116 ⟨rfl, hb⟩
       refine ⟨_, rfl, ?_⟩
       have n0_ := Aside0.mk (blk_below (g := gb246) (o := .cells #[.string a0_0, .string a0_1, .int .i64 a0_2] 36 (0, 0)) ZZ7d2168 hb)
       have n1_ := Aside0.mk (blk_below (g := gb247) (o := .cells #[.string a1_0, .string a1_1] 23 (0, 0)) ZZ713e70 hb)
       have n2_ := Aside0.mk (blk_below (g := gb259) (o := .cells #[.string t255, .string t256, .int .i64 t257] 31 (0, 0)) ZZf9c532 hb)
       have n3_ := Aside0.mk (blk_below (g := gb269) (o := .cells #[.string (⟨#[]⟩ : ByteArray), .string (⟨#[]⟩ : ByteArray), .int .i64 0] 31 (0, 0)) ZZd45ccb hb)
       have n4_ := Aside0.mk (below_step ZZbd9ab3 hb)
       clear BK246
       clear BK247
       clear BK259
       clear BK269
       clear HB
       have BK246 := n0_
       have BK247 := n1_
       have BK259 := n2_
       have BK269 := n3_
       have HB := n4_
       clear n0_ n1_ n2_ n3_ n4_
       (try clear hb)
       (try clear hb2)
       (try clear hk)
       (try clear hi)
       refine hK.out _ _ ⟨(blk_cell BK246.out 0).trans rfl, (blk_cell BK246.out 1).trans rfl, (blk_cell BK246.out 2).trans rfl, (blk_cell BK247.out 0).trans rfl, (blk_cell BK247.out 1).trans rfl⟩ (fun hHeld => ?_)
       clear hK K
       refine norm_ (a' := ?_) ?_ ?_
       rotate_left
       ·show Act.put _ (some 32) _ = _
        simp only [Act.put, List.setIfInBounds_toArray, List.set_cons_zero, List.set_cons_succ, i64_w, i32_w]
        rfl
       refine one_ (i := 4) (N := some 33) #[true, true, true, true, true, false, false, false, true, false, false] rfl rfl (one_of HT_.out (by kernel_rfl)) (by decide) (fun K hK => ?_)
       refine goes_ Tryd.func29 (by kernel_rfl) rfl #[.agg #[.string t260, .string t261, .int .i64 t262], .agg #[.string t263, .string t264]] (by rfl) rfl rfl ZZ19826e ?_
       with_reducible refine (impl_AppendRecord.calls k t260 t261 t262 t263 t264 t265 t266 t267 t268 _ ?side1 A24.out).mono ?_
       (case side1 => first | exact HV.out | exact TInv.below HV.out ZZbd9ab3)
       rintro e w117 ⟨rfl, hb⟩
       refine ⟨_, rfl, ?_⟩
       have n0_ := Aside0.mk (blk_below (g := gb246) (o := .cells #[.string a0_0, .string a0_1, .int .i64 a0_2] 36 (0, 0)) ZZ7d2168 hb)
       have n1_ := Aside0.mk (blk_below (g := gb247) (o := .cells #[.string a1_0, .string a1_1] 23 (0, 0)) ZZ713e70 hb)
       have n2_ := Aside0.mk (blk_below (g := gb259) (o := .cells #[.string t255, .string t256, .int .i64 t257] 31 (0, 0)) ZZf9c532 hb)
       have n3_ := Aside0.mk (blk_below (g := gb269) (o := .cells #[.string (⟨#[]⟩ : ByteArray), .string (⟨#[]⟩ : ByteArray), .int .i64 0] 31 (0, 0)) ZZd45ccb hb)
       have n4_ := Aside0.mk (below_step ZZbd9ab3 hb)
       clear BK246
       clear BK247
       clear BK259
       clear BK269
       clear HB
       have BK246 := n0_
       have BK247 := n1_
       have BK259 := n2_
       have BK269 := n3_
       have HB := n4_
       clear n0_ n1_ n2_ n3_ n4_
       (try clear hb)
       (try clear hb2)
       (try clear hk)
       (try clear hi)
       refine hK.out _ _ ⟨(blk_cell BK246.out 0).trans rfl, (blk_cell BK246.out 1).trans rfl, (blk_cell BK246.out 2).trans rfl, (blk_cell BK247.out 0).trans rfl, (blk_cell BK247.out 1).trans rfl⟩ (fun hHeld => ?_)
       clear hK K
       refine norm_ (a' := ?_) ?_ ?_
       rotate_left
       ·show Act.put _ (some 33) _ = _
        simp only [Act.put, List.setIfInBounds_toArray, List.set_cons_zero, List.set_cons_succ, i64_w, i32_w]
        rfl
       refine pu 5 28 ?_
       refine pu 6 34 ?_
       refine pu 7 35 ?_
       exact norm_ ZZ539e1d (hCont (gb269) _ ⟨hHeld, ZZ7d2168, ZZ713e70, ZZf9c532, ZZd45ccb, GW269.out, GE269.out, NB246_269.out, NB269_246.out, NB247_269.out, NB269_247.out, NB259_269.out, NB269_259.out, ZZbd9ab3⟩)
     ·skip
      refine box_step ?hg (N := 8) ?hd (cs := #[.string (⟨#[]⟩ : ByteArray), .string (⟨#[]⟩ : ByteArray), .int .i64 0]) (t := 31) ?hr ?_; (case hd => rfl); (case hg => rfl); (case hr => first | (go_simp; done) | (go_simp; rfl))
      intro gb269 hg w114 hbox hb
      have n0_ := Aside0.mk (blk_below (g := gb246) (o := .cells #[.string a0_0, .string a0_1, .int .i64 a0_2] 36 (0, 0)) ZZ7d2168 hb)
      have n1_ := Aside0.mk (blk_below (g := gb247) (o := .cells #[.string a1_0, .string a1_1] 23 (0, 0)) ZZ713e70 hb)
      have n2_ := Aside0.mk (blk_below (g := gb259) (o := .cells #[.string t255, .string t256, .int .i64 t257] 31 (0, 0)) ZZf9c532 hb)
      have n3_ := Aside0.mk (below_step ZZ1ddea0 hb)
      have n4_ := Aside0.mk (hbox)
      have n5_ := Aside0.mk ((by rw [hg]; exact (below_size ZZ1ddea0) : w.heap.size ≤ gb269))
      have n6_ := Aside0.mk ((by rw [hg]; exact (below_size ZZ1ddea0) : w.heap.size ≤ gb269))
      have n7_ := Aside0.mk ((by rw [hg]; exact Nat.ne_of_lt (blk_lt (g := gb246) (o := .cells #[.string a0_0, .string a0_1, .int .i64 a0_2] 36 (0, 0)) ZZ7d2168) : gb246 ≠ gb269))
      have n8_ := Aside0.mk ((by rw [hg]; exact Nat.ne_of_gt (blk_lt (g := gb246) (o := .cells #[.string a0_0, .string a0_1, .int .i64 a0_2] 36 (0, 0)) ZZ7d2168) : gb269 ≠ gb246))
      have n9_ := Aside0.mk ((by rw [hg]; exact Nat.ne_of_lt (blk_lt (g := gb247) (o := .cells #[.string a1_0, .string a1_1] 23 (0, 0)) ZZ713e70) : gb247 ≠ gb269))
      have n10_ := Aside0.mk ((by rw [hg]; exact Nat.ne_of_gt (blk_lt (g := gb247) (o := .cells #[.string a1_0, .string a1_1] 23 (0, 0)) ZZ713e70) : gb269 ≠ gb247))
      have n11_ := Aside0.mk ((by rw [hg]; exact Nat.ne_of_lt (blk_lt (g := gb259) (o := .cells #[.string t255, .string t256, .int .i64 t257] 31 (0, 0)) ZZf9c532) : gb259 ≠ gb269))
      have n12_ := Aside0.mk ((by rw [hg]; exact Nat.ne_of_gt (blk_lt (g := gb259) (o := .cells #[.string t255, .string t256, .int .i64 t257] 31 (0, 0)) ZZf9c532) : gb269 ≠ gb259))
      clear BK246
      clear BK247
      clear BK259
      clear HB
      have BK246 := n0_
      have BK247 := n1_
      have BK259 := n2_
      have HB := n3_
      have BK269 := n4_
      have GW269 := n5_
      have GE269 := n6_
      have NB246_269 := n7_
      have NB269_246 := n8_
      have NB247_269 := n9_
      have NB269_247 := n10_
      have NB259_269 := n11_
      have NB269_259 := n12_
      clear n0_ n1_ n2_ n3_ n4_ n5_ n6_ n7_ n8_ n9_ n10_ n11_ n12_
      clear hb hbox hg
      refine hK.out _ _ ⟨(blk_cell BK246.out 0).trans rfl, (blk_cell BK246.out 1).trans rfl, (blk_cell BK246.out 2).trans rfl, (blk_cell BK247.out 0).trans rfl, (blk_cell BK247.out 1).trans rfl⟩ (fun hHeld => ?_)
      clear hK K
      refine norm_ (a' := ?_) ?_ ?_
      rotate_left
      ·show Act.put _ (some 8) _ = _
       simp only [Act.put, List.setIfInBounds_toArray, List.set_cons_zero, List.set_cons_succ, i64_w, i32_w]
       rfl
      refine one_ (i := 1) (N := some 30) #[true, true, true, false, false, false, false, false, true, false, false] rfl rfl (one_of HT_.out (by kernel_rfl)) (by decide) (fun K hK => ?_)
      refine goes_ Tryd.func22 (by kernel_rfl) rfl #[.agg #[.string a0_0, .string a0_1, .int .i64 a0_2]] (by rfl) rfl rfl ZZ19826e ?_
      with_reducible refine (laws_toLog.calls a0_0 a0_1 a0_2 t260 t261 t262 _ A22.out).mono ?_
      rintro e w115 ⟨rfl, hb⟩
      refine ⟨_, rfl, ?_⟩
      have n0_ := Aside0.mk (blk_below (g := gb246) (o := .cells #[.string a0_0, .string a0_1, .int .i64 a0_2] 36 (0, 0)) ZZ7d2168 hb)
      have n1_ := Aside0.mk (blk_below (g := gb247) (o := .cells #[.string a1_0, .string a1_1] 23 (0, 0)) ZZ713e70 hb)
      have n2_ := Aside0.mk (blk_below (g := gb259) (o := .cells #[.string t255, .string t256, .int .i64 t257] 31 (0, 0)) ZZf9c532 hb)
      have n3_ := Aside0.mk (blk_below (g := gb269) (o := .cells #[.string (⟨#[]⟩ : ByteArray), .string (⟨#[]⟩ : ByteArray), .int .i64 0] 31 (0, 0)) ZZd45ccb hb)
      have n4_ := Aside0.mk (below_step ZZbd9ab3 hb)
      clear BK246
      clear BK247
      clear BK259
      clear BK269
      clear HB
      have BK246 := n0_
      have BK247 := n1_
      have BK259 := n2_
      have BK269 := n3_
      have HB := n4_
      clear n0_ n1_ n2_ n3_ n4_
      (try clear hb)
      (try clear hb2)
      (try clear hk)
      (try clear hi)
      refine hK.out _ _ ⟨(blk_cell BK246.out 0).trans rfl, (blk_cell BK246.out 1).trans rfl, (blk_cell BK246.out 2).trans rfl, (blk_cell BK247.out 0).trans rfl, (blk_cell BK247.out 1).trans rfl⟩ (fun hHeld => ?_)
      clear hK K
      refine norm_ (a' := ?_) ?_ ?_
      rotate_left
      ·show Act.put _ (some 30) _ = _
       simp only [Act.put, List.setIfInBounds_toArray, List.set_cons_zero, List.set_cons_succ, i64_w, i32_w]
       rfl
      refine one_ (i := 3) (N := some 32) #[true, true, true, true, false, false, false, false, true, false, false] rfl rfl (one_of HT_.out (by kernel_rfl)) (by decide) (fun K hK => ?_)
      refine goes_ Tryd.func15 (by kernel_rfl) rfl #[.agg #[.string a1_0, .string a1_1]] (by rfl) rfl rfl ZZ19826e ?_
      with_reducible refine (laws_toLogRecord.calls a1_0 a1_1 t263 t264 _ A23.out).mono ?_
      rintro e w116 ⟨rfl, hb⟩
      refine ⟨_, rfl, ?_⟩
      have n0_ := Aside0.mk (blk_below (g := gb246) (o := .cells #[.string a0_0, .string a0_1, .int .i64 a0_2] 36 (0, 0)) ZZ7d2168 hb)
      have n1_ := Aside0.mk (blk_below (g := gb247) (o := .cells #[.string a1_0, .string a1_1] 23 (0, 0)) ZZ713e70 hb)
      have n2_ := Aside0.mk (blk_below (g := gb259) (o := .cells #[.string t255, .string t256, .int .i64 t257] 31 (0, 0)) ZZf9c532 hb)
      have n3_ := Aside0.mk (blk_below (g := gb269) (o := .cells #[.string (⟨#[]⟩ : ByteArray), .string (⟨#[]⟩ : ByteArray), .int .i64 0] 31 (0, 0)) ZZd45ccb hb)
      have n4_ := Aside0.mk (below_step ZZbd9ab3 hb)
      clear BK246
      clear BK247
      clear BK259
      clear BK269
      clear HB
      have BK246 := n0_
      have BK247 := n1_
      have BK259 := n2_
      have BK269 := n3_
      have HB := n4_
      clear n0_ n1_ n2_ n3_ n4_
      (try clear hb)
      (try clear hb2)
      (try clear hk)
      (try clear hi)
      refine hK.out _ _ ⟨(blk_cell BK246.out 0).trans rfl, (blk_cell BK246.out 1).trans rfl, (blk_cell BK246.out 2).trans rfl, (blk_cell BK247.out 0).trans rfl, (blk_cell BK247.out 1).trans rfl⟩ (fun hHeld => ?_)
      clear hK K
      refine norm_ (a' := ?_) ?_ ?_
      rotate_left
      ·show Act.put _ (some 32) _ = _
       simp only [Act.put, List.setIfInBounds_toArray, List.set_cons_zero, List.set_cons_succ, i64_w, i32_w]
       rfl
      refine one_ (i := 4) (N := some 33) #[true, true, true, true, true, false, false, false, true, false, false] rfl rfl (one_of HT_.out (by kernel_rfl)) (by decide) (fun K hK => ?_)
      refine goes_ Tryd.func29 (by kernel_rfl) rfl #[.agg #[.string t260, .string t261, .int .i64 t262], .agg #[.string t263, .string t264]] (by rfl) rfl rfl ZZ19826e ?_
      with_reducible refine (impl_AppendRecord.calls k t260 t261 t262 t263 t264 t265 t266 t267 t268 _ ?side1 A24.out).mono ?_
      (case side1 => first | exact HV.out | exact TInv.below HV.out ZZbd9ab3)
      rintro e w117 ⟨rfl, hb⟩
      refine ⟨_, rfl, ?_⟩
      have n0_ := Aside0.mk (blk_below (g := gb246) (o := .cells #[.string a0_0, .string a0_1, .int .i64 a0_2] 36 (0, 0)) ZZ7d2168 hb)
      have n1_ := Aside0.mk (blk_below (g := gb247) (o := .cells #[.string a1_0, .string a1_1] 23 (0, 0)) ZZ713e70 hb)
      have n2_ := Aside0.mk (blk_below (g := gb259) (o := .cells #[.string t255, .string t256, .int .i64 t257] 31 (0, 0)) ZZf9c532 hb)
      have n3_ := Aside0.mk (blk_below (g := gb269) (o := .cells #[.string (⟨#[]⟩ : ByteArray), .string (⟨#[]⟩ : ByteArray), .int .i64 0] 31 (0, 0)) ZZd45ccb hb)
      have n4_ := Aside0.mk (below_step ZZbd9ab3 hb)
      clear BK246
      clear BK247
      clear BK259
      clear BK269
      clear HB
      have BK246 := n0_
      have BK247 := n1_
      have BK259 := n2_
      have BK269 := n3_
      have HB := n4_
      clear n0_ n1_ n2_ n3_ n4_
      (try clear hb)
      (try clear hb2)
      (try clear hk)
      (try clear hi)
      refine hK.out _ _ ⟨(blk_cell BK246.out 0).trans rfl, (blk_cell BK246.out 1).trans rfl, (blk_cell BK246.out 2).trans rfl, (blk_cell BK247.out 0).trans rfl, (blk_cell BK247.out 1).trans rfl⟩ (fun hHeld => ?_)
      clear hK K
      refine norm_ (a' := ?_) ?_ ?_
      rotate_left
      ·show Act.put _ (some 33) _ = _
       simp only [Act.put, List.setIfInBounds_toArray, List.set_cons_zero, List.set_cons_succ, i64_w, i32_w]
       rfl
      refine pu 5 28 ?_
      refine pu 6 34 ?_
      refine pu 7 35 ?_
      exact norm_ ZZ539e1d (hCont (gb269) _ ⟨hHeld, ZZ7d2168, ZZ713e70, ZZf9c532, ZZd45ccb, GW269.out, GE269.out, NB246_269.out, NB269_246.out, NB247_269.out, NB269_247.out, NB259_269.out, NB269_259.out, ZZbd9ab3⟩)
    rintro gb269 w118 ⟨hS_, h0_, h1_, h2_, h3_, h4_, h5_, h6_, h7_, h8_, h9_, h10_, h11_, h12_⟩
    have n0_ : Aside0 (w118.heap[gb246]? = some (.cells #[.string a0_0, .string a0_1, .int .i64 a0_2] 36 (0, 0))) := ⟨h0_⟩
    have n1_ : Aside0 (w118.heap[gb247]? = some (.cells #[.string a1_0, .string a1_1] 23 (0, 0))) := ⟨h1_⟩
    have n2_ : Aside0 (w118.heap[gb259]? = some (.cells #[.string t255, .string t256, .int .i64 t257] 31 (0, 0))) := ⟨h2_⟩
    have n3_ : Aside0 (w118.heap[gb269]? = some (.cells #[.string (⟨#[]⟩ : ByteArray), .string (⟨#[]⟩ : ByteArray), .int .i64 0] 31 (0, 0))) := ⟨h3_⟩
    have n4_ : Aside0 (w.heap.size ≤ gb269) := ⟨h4_⟩
    have n5_ : Aside0 (w.heap.size ≤ gb269) := ⟨h5_⟩
    have n6_ : Aside0 (gb246 ≠ gb269) := ⟨h6_⟩
    have n7_ : Aside0 (gb269 ≠ gb246) := ⟨h7_⟩
    have n8_ : Aside0 (gb247 ≠ gb269) := ⟨h8_⟩
    have n9_ : Aside0 (gb269 ≠ gb247) := ⟨h9_⟩
    have n10_ : Aside0 (gb259 ≠ gb269) := ⟨h10_⟩
    have n11_ : Aside0 (gb269 ≠ gb259) := ⟨h11_⟩
    have n12_ : Aside0 (Below w.heap.size w w118) := ⟨h12_⟩
    clear BK246
    clear BK247
    clear BK259
    clear HB
    clear h0_ h1_ h2_ h3_ h4_ h5_ h6_ h7_ h8_ h9_ h10_ h11_ h12_
    have BK246 := n0_
    have BK247 := n1_
    have BK259 := n2_
    have BK269 := n3_
    have GW269 := n4_
    have GE269 := n5_
    have NB246_269 := n6_
    have NB269_246 := n7_
    have NB247_269 := n8_
    have NB269_247 := n9_
    have NB259_269 := n10_
    have NB269_259 := n11_
    have HB := n12_
    clear n0_ n1_ n2_ n3_ n4_ n5_ n6_ n7_ n8_ n9_ n10_ n11_ n12_
    have hHeld : w118.cell? ⟨gb246, 0, none⟩ = some (.string a0_0) ∧ w118.cell? ⟨gb246, 1, none⟩ = some (.string a0_1) ∧ w118.cell? ⟨gb246, 2, none⟩ = some (.int .i64 a0_2) ∧ w118.cell? ⟨gb247, 0, none⟩ = some (.string a1_0) ∧ w118.cell? ⟨gb247, 1, none⟩ = some (.string a1_1) := hS_
    refine norm_ (a' := ?_) ?_ ?_
    rotate_left
    ·simp only [putAll, Act.put, List.setIfInBounds_toArray, List.set_cons_zero, List.set_cons_succ]
     rfl
    refine one_ (i := 9) (N := none) #[true, true, true, true, true, true, true, true, true, true, false] rfl rfl (one_of HT_.out (by kernel_rfl)) (by decide) (fun K hK => ?_)
    have hs119 : w118.cell? ⟨gb269, 0, none⟩ = some (.string (⟨#[]⟩ : ByteArray)) := (blk_cell BK269.out 0).trans rfl
    have hfs119 := blk_frozen BK269.out 0
    have hns119_0 := NB246_269.out
    have hns119_1 := NB247_269.out
    have hns119_2 := NB259_269.out
    have hms119_0 := NB269_246.out
    have hms119_1 := NB269_247.out
    have hms119_2 := NB269_259.out
    have hs120 : w118.cell? ⟨gb269, 1, none⟩ = some (.string (⟨#[]⟩ : ByteArray)) := (blk_cell BK269.out 1).trans rfl
    have hfs120 := blk_frozen BK269.out 1
    have hns120_0 := NB246_269.out
    have hns120_1 := NB247_269.out
    have hns120_2 := NB259_269.out
    have hms120_0 := NB269_246.out
    have hms120_1 := NB269_247.out
    have hms120_2 := NB269_259.out
    have hs121 : w118.cell? ⟨gb269, 2, none⟩ = some (.int .i64 0) := (blk_cell BK269.out 2).trans rfl
    have hfs121 := blk_frozen BK269.out 2
    have hns121_0 := NB246_269.out
    have hns121_1 := NB247_269.out
    have hns121_2 := NB259_269.out
    have hms121_0 := NB269_246.out
    have hms121_1 := NB269_247.out
    have hms121_2 := NB269_259.out
    refine skip_ (w1 := ?_) (by rfl) rfl ?_ ?_
    rotate_left
    ·go_simp
     rfl
    refine hK.out _ _ ⟨((cell_far (p := ⟨gb269, _, none⟩) NB246_269.out _).trans (((cell_far (p := ⟨gb269, _, none⟩) NB246_269.out _).trans (((cell_far (p := ⟨gb269, _, none⟩) NB246_269.out _).trans (hHeld.1)))))), ((cell_far (p := ⟨gb269, _, none⟩) NB246_269.out _).trans (((cell_far (p := ⟨gb269, _, none⟩) NB246_269.out _).trans (((cell_far (p := ⟨gb269, _, none⟩) NB246_269.out _).trans (hHeld.2.1)))))), ((cell_far (p := ⟨gb269, _, none⟩) NB246_269.out _).trans (((cell_far (p := ⟨gb269, _, none⟩) NB246_269.out _).trans (((cell_far (p := ⟨gb269, _, none⟩) NB246_269.out _).trans (hHeld.2.2.1)))))), ((cell_far (p := ⟨gb269, _, none⟩) NB247_269.out _).trans (((cell_far (p := ⟨gb269, _, none⟩) NB247_269.out _).trans (((cell_far (p := ⟨gb269, _, none⟩) NB247_269.out _).trans (hHeld.2.2.2.1)))))), ((cell_far (p := ⟨gb269, _, none⟩) NB247_269.out _).trans (((cell_far (p := ⟨gb269, _, none⟩) NB247_269.out _).trans (((cell_far (p := ⟨gb269, _, none⟩) NB247_269.out _).trans (hHeld.2.2.2.2))))))⟩ (fun hHeld => ?_)
    clear hK K
    refine pu 10 9 ?_
    refine done_ (done_of HT_.out (by kernel_rfl)) ?_
    have hnb122 := NB269_246.out
    have hnc122 := NB246_269.out
    have hnb123 := NB269_247.out
    have hnc123 := NB247_269.out
    have hnb124 := NB269_259.out
    have hnc124 := NB259_269.out
    have hcz125_0 : w118.cell? ⟨gb269, 0, none⟩ = some (.string (⟨#[]⟩ : ByteArray)) := (blk_cell BK269.out 0).trans rfl
    have hcz125_1 : w118.cell? ⟨gb269, 1, none⟩ = some (.string (⟨#[]⟩ : ByteArray)) := (blk_cell BK269.out 1).trans rfl
    have hcz125_2 : w118.cell? ⟨gb269, 2, none⟩ = some (.int .i64 0) := (blk_cell BK269.out 2).trans rfl
    have hfz125_0 := blk_frozen BK269.out 0
    have hfz125_1 := blk_frozen BK269.out 1
    have hfz125_2 := blk_frozen BK269.out 2
    have hnb126 := NB259_246.out
    have hnc126 := NB246_259.out
    have hnb127 := NB259_247.out
    have hnc127 := NB247_259.out
    have hcz128_0 : w118.cell? ⟨gb259, 0, none⟩ = some (.string t255) := (blk_cell BK259.out 0).trans rfl
    have hcz128_1 : w118.cell? ⟨gb259, 1, none⟩ = some (.string t256) := (blk_cell BK259.out 1).trans rfl
    have hcz128_2 : w118.cell? ⟨gb259, 2, none⟩ = some (.int .i64 t257) := (blk_cell BK259.out 2).trans rfl
    have hfz128_0 := blk_frozen BK259.out 0
    have hfz128_1 := blk_frozen BK259.out 1
    have hfz128_2 := blk_frozen BK259.out 2
    try go_wp2_with (first | ((with_reducible refine gate_callee (f := 19) rfl ?_); refine goesL_ (some 38) rfl rfl Tryd.func19 (by kernel_rfl) rfl #[.agg #[.string t265, .string t266, .int .i64 t267], .agg #[.string t255, .string t256, .int .i64 t257]] rfl ZZ19826e ?_; (with_reducible refine (laws_eqLog.calls t265 t266 t267 t255 t256 t257 false _ A25.out).mono ?_); rintro e w129 ⟨rfl, hb⟩; refine ⟨_, rfl, ?_⟩; have n0_ := Aside0.mk (blk_below (g := gb246) (o := .cells #[.string a0_0, .string a0_1, .int .i64 a0_2] 36 (0, 0)) ZZ953734 hb); have n1_ := Aside0.mk (blk_below (g := gb247) (o := .cells #[.string a1_0, .string a1_1] 23 (0, 0)) ZZ77fcbf hb); have n2_ := Aside0.mk (blk_below (g := gb259) (o := .cells #[.string t255, .string t256, .int .i64 t257] 31 (0, 0)) ZZ1ee8f0 hb); have n3_ := Aside0.mk (blk_below (g := gb269) (o := .cells #[.string t265, .string t266, .int .i64 t267] 31 (0, 0)) ZZ2da24b hb); have n4_ := Aside0.mk (below_step ZZbd9ab3 hb); clear BK246; clear BK247; clear BK259; clear BK269; clear HB; have BK246 := n0_; have BK247 := n1_; have BK259 := n2_; have BK269 := n3_; have HB := n4_; clear n0_ n1_ n2_ n3_ n4_; (try clear hb); (try clear hb2); (try clear hk); (try clear hi)))
    go_ret
    exact ⟨by first | rfl | (simp [errW_none, errW_some] <;> rfl) | (simp [*, errW_none, errW_some] <;> rfl), by repeat (first | (with_reducible first | exact HB.out | apply below_alloc | apply pw_below_drewN | apply below_drew1 | refine below_set ?_ GE246.out | refine below_set ?_ GE247.out | refine below_set ?_ GE259.out | refine below_set ?_ GE269.out) | exact HB.out)⟩
end Go.Proofs.YtmhmeifdnleoaaaDoor.XFnExactAppendRecord

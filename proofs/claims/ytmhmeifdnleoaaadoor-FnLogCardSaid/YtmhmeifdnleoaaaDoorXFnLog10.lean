-- Printed by wip/tools/xprint.py, a program of this session, over the kit's print; Lean checks it.
import Derived.Test.YtmhmeifdnleoaaaDoorXFnLog3
import Derived.Test.YtmhmeifdnleoaaaDoorXFnLog0
import Derived.Test.YtmhmeifdnleoaaaDoorXFnLog5
import Derived.Test.YtmhmeifdnleoaaaDoorXFnLog7
import Derived.Test.YtmhmeifdnleoaaaDoorXFnLog8
import Derived.Test.YtmhmeifdnleoaaaDoorXFnLog9
namespace Go.Proofs.YtmhmeifdnleoaaaDoor.XFnLog
open Go.Proofs.YtmhmeifdnleoaaaDoor.Short Go.RowKit Go.Proofs.YtmhmeifdnleoaaaDoorW.PrintWords Go.Proofs.YtmhmeifdnleoaaaDoorW.PrintLast Go.Proofs.YtmhmeifdnleoaaaDoorW.PrintMore
attribute [local go_sem] max2_int min2_int max_two min_two max_three min_three max_four min_four   -- for this text's walks alone
set_option linter.unusedVariables false
set_option linter.unusedSimpArgs false
theorem ZZc68623 {p : Prop} (h : p := by repeat (first | (with_reducible first | exact HB.out | apply below_alloc | apply pw_below_drewN | apply below_drew1 | refine below_set ?_ (IsS74.ge HI345.out) | refine below_set ?_ GE343.out | refine below_set ?_ GE344.out) | exact HB.out)) : p := h
theorem ZZ8fb104 {p : Prop} (h : p := by (with_reducible repeat (first | refine blk_drewN ?_ _ | refine blk_drew ?_ | refine blk_alloc ?_ _)); refine blk_far ?_ NB343_351.out _; (with_reducible repeat (first | refine blk_drewN ?_ _ | refine blk_drew ?_ | refine blk_alloc ?_ _)); refine blk_far ?_ NB343_351.out _; (with_reducible repeat (first | refine blk_drewN ?_ _ | refine blk_drew ?_ | refine blk_alloc ?_ _)); refine blk_far ?_ NB343_351.out _; (with_reducible repeat (first | refine blk_drewN ?_ _ | refine blk_drew ?_ | refine blk_alloc ?_ _)); exact BK343.out) : p := h
theorem ZZ6c4ea6 {p : Prop} (h : p := by (with_reducible repeat (first | refine blk_drewN ?_ _ | refine blk_drew ?_ | refine blk_alloc ?_ _)); refine blk_far ?_ NB344_351.out _; (with_reducible repeat (first | refine blk_drewN ?_ _ | refine blk_drew ?_ | refine blk_alloc ?_ _)); refine blk_far ?_ NB344_351.out _; (with_reducible repeat (first | refine blk_drewN ?_ _ | refine blk_drew ?_ | refine blk_alloc ?_ _)); refine blk_far ?_ NB344_351.out _; (with_reducible repeat (first | refine blk_drewN ?_ _ | refine blk_drew ?_ | refine blk_alloc ?_ _)); exact BK344.out) : p := h
theorem ZZ031ad4 {p : Prop} (h : p := by repeat (first | (with_reducible first | exact HB.out | apply below_alloc | apply pw_below_drewN | apply below_drew1 | refine below_set ?_ (IsS74.ge HI345.out) | refine below_set ?_ GE343.out | refine below_set ?_ GE344.out | refine below_set ?_ GE351.out) | exact HB.out)) : p := h
/-! ### spec_DrawAppendRecord: function 36 -/
def spec_DrawAppendRecord.l0 : Nat → Int → List Int → Int → Int → ByteArray → ByteArray → Int → Option (ByteArray × ByteArray × Int × ByteArray × ByteArray)
 | 0, _, _, _, _, _, _, _ => none
 | k + 1, x6, x346000, x346001, x346002, x352000, x352001, x352002 => if x6 > 0 then ((spec_AppendRecord.f k x352000 x352001 x352002 (⟨#[120]⟩ : ByteArray) (⟨#[]⟩ : ByteArray)).bind fun bt358 => (spec_DrawAppendRecord.l0 k (wrap64 (x6 - 1)) x346000 x346001 x346002 bt358.1 bt358.2.1 bt358.2.2.1)) else ((spec_l1Cur_logRecord.f x346000 x346001 x346002).bind fun bt362 => (some (x352000, x352001, x352002, bt362.1, bt362.2.1)))
def spec_DrawAppendRecord.f (k : Nat) (l0 : List Int) : Option (ByteArray × ByteArray × Int × ByteArray × ByteArray) := (spec_l1Cur_anyLog.f k l0 0 0).bind fun bt346 => ((spec_l1Cur_one.f l0 bt346.2.2.2.1 bt346.2.2.2.2 40).bind fun bt352 => (if bt352.1 = true then ((spec_l1Cur_pick.f l0 bt352.2.1 bt352.2.2 2).bind fun bt355 => (spec_DrawAppendRecord.l0 k (wrap64 (59 + bt355.1)) l0 bt355.2.1 bt355.2.2 (⟨#[]⟩ : ByteArray) (⟨#[]⟩ : ByteArray) 0)) else ((spec_l1Cur_logRecord.f l0 bt352.2.1 bt352.2.2).bind fun bt366 => (some (bt346.1, bt346.2.1, bt346.2.2.1, bt366.1, bt366.2.1)))))
theorem spec_DrawAppendRecord.mono_l : ∀ k, (∀ y0 y1 y2 y3 y4 y5 y6, LeO (spec_DrawAppendRecord.l0 k y0 y1 y2 y3 y4 y5 y6) (spec_DrawAppendRecord.l0 (k + 1) y0 y1 y2 y3 y4 y5 y6))
 | 0 => fun _ _ _ _ _ _ _ r h => by simp [spec_DrawAppendRecord.l0] at h
 | k + 1 => by
  have ih0 := spec_DrawAppendRecord.mono_l k
  ·intro y0 y1 y2 y3 y4 y5 y6
   unfold spec_DrawAppendRecord.l0
   repeat' first
   | (with_reducible exact ih0 _ _ _ _ _ _ _)
   | (with_reducible exact spec_AppendRecord.mono _ _ _ _ _ _)
   | (with_reducible exact spec_l1Cur_anyLog.mono _ _ _ _)
   | (with_reducible exact LeO.refl _)
   | (with_reducible exact LeO.none _)
   | (with_reducible refine LeO.ite ?_ ?_)
   | (with_reducible refine LeO.bind ?_ (fun _ => ?_))
   | exact ih0 _ _ _ _ _ _ _
   | exact spec_AppendRecord.mono _ _ _ _ _ _
   | exact spec_l1Cur_anyLog.mono _ _ _ _
   | exact LeO.none _
   | refine LeO.ite ?_ ?_
   | refine LeO.bind ?_ (fun _ => ?_)
theorem spec_DrawAppendRecord.mono : ∀ a0 k, LeO (spec_DrawAppendRecord.f k a0) (spec_DrawAppendRecord.f (k + 1) a0) := by
 intro a0 k
 have ih0 := spec_DrawAppendRecord.mono_l k
 unfold spec_DrawAppendRecord.f
 repeat' first
  | (with_reducible exact ih0 _ _ _ _ _ _ _)
  | (with_reducible exact spec_AppendRecord.mono _ _ _ _ _ _)
  | (with_reducible exact spec_l1Cur_anyLog.mono _ _ _ _)
  | (with_reducible exact LeO.refl _)
  | (with_reducible exact LeO.none _)
  | (with_reducible refine LeO.ite ?_ ?_)
  | (with_reducible refine LeO.bind ?_ (fun _ => ?_))
  | exact ih0 _ _ _ _ _ _ _
  | exact spec_AppendRecord.mono _ _ _ _ _ _
  | exact spec_l1Cur_anyLog.mono _ _ _ _
  | exact LeO.none _
  | refine LeO.ite ?_ ?_
  | refine LeO.bind ?_ (fun _ => ?_)
set_option maxHeartbeats 8000000 in
set_option maxRecDepth 100000 in
theorem spec_DrawAppendRecord.calls (k : Nat) (A0 : Option Addr) (c0 : Nat) (l0 : List Int) (r1 : ByteArray) (r2 : ByteArray) (r3 : Int) (r4 : ByteArray) (r5 : ByteArray) (w : World) (hr0 : Kd.C (Kd.int .u8) w A0 l0.length l0) (hc0 : l0.length ≤ c0) (h : spec_DrawAppendRecord.f k l0 = some (r1, r2, r3, r4, r5)) :
 Calls Tryd.prog 36 #[.slice A0 l0.length c0] w fun e w' => e = .returned (.tuple #[.agg #[.string r1, .string r2, .int .i64 r3], .agg #[.string r4, .string r5]]) ∧ Below w.heap.size w w' := by
 have hu31 := Tryd.underlying31
 have hu27 := Tryd.underlying27
 have hu74 := Tryd.underlying74
 have HR0 := Aside0.mk hr0
 have HC0 := Aside0.mk hc0
 clear hr0 hc0
 have HB := Aside0.mk (Below.refl w.heap.size w)
 have H := h
 clear h
 unfold spec_DrawAppendRecord.f at H
 obtain ⟨⟨t346, t347, t348, t349, t350⟩, A2, H⟩ := bdY H
 try dsimp only at H
 obtain ⟨⟨t352, t353, t354⟩, A3, H⟩ := bdY H
 try dsimp only at H
 by_cases c4 : t352 = true
 ·subst c4
  have H1 : ((spec_l1Cur_pick.f l0 t353 t354 2).bind fun bt355 => (spec_DrawAppendRecord.l0 k (wrap64 (59 + bt355.1)) l0 bt355.2.1 bt355.2.2 (⟨#[]⟩ : ByteArray) (⟨#[]⟩ : ByteArray) 0)) = some (r1, r2, r3, r4, r5) := by rw [if_pos rfl] at H; exact H
  clear H
  have H := H1
  clear H1
  obtain ⟨⟨t355, t356, t357⟩, A5, H⟩ := bdY H
  try dsimp only at H
  have H' := Aside0.mk H
  clear H
  go_enter Tryd.func36, Tryd.ntmps36
  go_wp2_with (first | ((with_reducible refine gate_dst (N := 2) rfl ?_); refine box_event ?hg (N := 2) ?hd (cs := #[.string (⟨#[]⟩ : ByteArray), .string (⟨#[]⟩ : ByteArray), .int .i64 0]) (t := 31) ?hr ?_; (case hd => rfl); (case hg => rfl); (case hr => first | (go_simp; done) | (go_simp; rfl)); intro gb343 hg w6 hbox hb; have BK343 := Aside0.mk (hbox); have GW343 := Aside0.mk ((by rw [hg]; exact (below_size ZZ605003) : w.heap.size ≤ gb343)); have GE343 := Aside0.mk ((by rw [hg]; exact (below_size ZZ605003) : w.heap.size ≤ gb343)); replace HB := Aside0.mk (below_step ZZ605003 hb); clear hb hbox hg) | ((with_reducible refine gate_dst (N := 3) rfl ?_); refine box_event ?hg (N := 3) ?hd (cs := #[.string (⟨#[]⟩ : ByteArray), .string (⟨#[]⟩ : ByteArray)]) (t := 27) ?hr ?_; (case hd => rfl); (case hg => rfl); (case hr => first | (go_simp; done) | (go_simp; rfl)); intro gb344 hg w7 hbox hb; have BK344 := Aside0.mk (hbox); have GW344 := Aside0.mk ((by rw [hg]; exact (below_size ZZ295621) : w.heap.size ≤ gb344)); have GE344 := Aside0.mk ((by rw [hg]; exact (below_size ZZ295621) : w.heap.size ≤ gb344)); replace HB := Aside0.mk (below_step ZZ295621 hb); have NB343_344 := Aside0.mk ((by rw [hg]; exact Nat.ne_of_lt (blk_lt (zB BK343)) : gb343 ≠ gb344)); have NB344_343 := Aside0.mk ((by rw [hg]; exact Nat.ne_of_gt (blk_lt (zB BK343)) : gb344 ≠ gb343)); replace BK343 := Aside0.mk (blk_below (zB BK343) hb); clear hb hbox hg) | ((with_reducible refine gate_dst (N := 9) rfl ?_); refine box_event ?hg (N := 9) ?hd (cs := #[.slice A0 l0.length c0, .int .i64 0, .int .u64 0]) (t := 74) ?hr ?_; (case hd => rfl); (case hg => rfl); (case hr => first | (go_simp; done) | (go_simp; rfl)); intro gb345 hg w8 hbox hb; have BK345 := Aside0.mk (hbox); have GW345 := Aside0.mk ((by rw [hg]; exact (below_size ZZ295621) : w.heap.size ≤ gb345)); have GE345 := Aside0.mk ((by rw [hg]; exact (below_size ZZ295621) : w.heap.size ≤ gb345)); replace HB := Aside0.mk (below_step ZZ295621 hb); have NB343_345 := Aside0.mk ((by rw [hg]; exact Nat.ne_of_lt (blk_lt (zB BK343)) : gb343 ≠ gb345)); have NB345_343 := Aside0.mk ((by rw [hg]; exact Nat.ne_of_gt (blk_lt (zB BK343)) : gb345 ≠ gb343)); replace BK343 := Aside0.mk (blk_below (zB BK343) hb); have NB344_345 := Aside0.mk ((by rw [hg]; exact Nat.ne_of_lt (blk_lt (zB BK344)) : gb344 ≠ gb345)); have NB345_344 := Aside0.mk ((by rw [hg]; exact Nat.ne_of_gt (blk_lt (zB BK344)) : gb345 ≠ gb344)); replace BK344 := Aside0.mk (blk_below (zB BK344) hb); clear hb hbox hg; have HI345 := Aside0.mk (show IsS74 w _ gb345 l0 0 0 from ⟨_, _, BK345.out, GE345.out, HR0.out⟩); clear BK345) | ((with_reducible refine gate_callee (f := 53) rfl ?_); refine goesL_ (some 11) rfl rfl Tryd.func53 (by kernel_rfl) rfl #[.pointer (some ⟨gb345, 0, none⟩)] rfl ZZ19826e ?_; (with_reducible refine (spec_l1Cur_anyLog.calls k gb345 l0 0 0 t346 t347 t348 t349 t350 w _ ?side1 ?side2 A2.out).mono ?_); (case side1 => repeat (first | (with_reducible first | exact HI345.out | apply IsS74.alloc | apply IsS74.drewN | apply IsS74.drew | apply IsS74.set_1 | apply IsS74.set_2 | refine IsS74.far ?_ NB345_343.out _ | refine IsS74.far ?_ NB345_344.out _) | exact HI345.out)); (case side2 => repeat (first | (with_reducible first | exact HB.out | apply below_alloc | apply pw_below_drewN | apply below_drew1 | refine below_set ?_ (IsS74.ge HI345.out) | refine below_set ?_ GE343.out | refine below_set ?_ GE344.out) | exact HB.out)); rintro e w9 ⟨rfl, hi, hb, hk⟩; refine ⟨_, rfl, ?_⟩; replace BK343 := Aside0.mk (KeepBut.blk hk (g' := gb343) (o := .cells #[.string (⟨#[]⟩ : ByteArray), .string (⟨#[]⟩ : ByteArray), .int .i64 0] 31 (0, 0)) (zB BK343) NB343_345.out (by simp)); replace BK344 := Aside0.mk (KeepBut.blk hk (g' := gb344) (o := .cells #[.string (⟨#[]⟩ : ByteArray), .string (⟨#[]⟩ : ByteArray)] 27 (0, 0)) (zB BK344) NB344_345.out (by simp)); replace HB := Aside0.mk (hb); replace HI345 := Aside0.mk (hi); (try clear hb); (try clear hb2); (try clear hk); (try clear hi)) | ((with_reducible refine gate_dst (N := 5) rfl ?_); refine box_event ?hg (N := 5) ?hd (cs := #[.string (⟨#[]⟩ : ByteArray), .string (⟨#[]⟩ : ByteArray), .int .i64 0]) (t := 31) ?hr ?_; (case hd => rfl); (case hg => rfl); (case hr => first | (go_simp; done) | (go_simp; rfl)); intro gb351 hg w10 hbox hb; have BK351 := Aside0.mk (hbox); have GW351 := Aside0.mk ((by rw [hg]; exact (below_size ZZc68623) : w.heap.size ≤ gb351)); have GE351 := Aside0.mk ((by rw [hg]; exact (below_size ZZc68623) : w.heap.size ≤ gb351)); replace HB := Aside0.mk (below_step ZZc68623 hb); have NB343_351 := Aside0.mk ((by rw [hg]; exact Nat.ne_of_lt (blk_lt (zB BK343)) : gb343 ≠ gb351)); have NB351_343 := Aside0.mk ((by rw [hg]; exact Nat.ne_of_gt (blk_lt (zB BK343)) : gb351 ≠ gb343)); replace BK343 := Aside0.mk (blk_below (zB BK343) hb); have NB344_351 := Aside0.mk ((by rw [hg]; exact Nat.ne_of_lt (blk_lt (zB BK344)) : gb344 ≠ gb351)); have NB351_344 := Aside0.mk ((by rw [hg]; exact Nat.ne_of_gt (blk_lt (zB BK344)) : gb351 ≠ gb344)); replace BK344 := Aside0.mk (blk_below (zB BK344) hb); have NB345_351 := Aside0.mk ((by rw [hg]; exact Nat.ne_of_lt (IsS74.lt (show IsS74 w _ gb345 l0 t349 t350 from by repeat (first | (with_reducible first | exact HI345.out | apply IsS74.alloc | apply IsS74.drewN | apply IsS74.drew | apply IsS74.set_1 | apply IsS74.set_2 | refine IsS74.far ?_ NB345_343.out _ | refine IsS74.far ?_ NB345_344.out _) | exact HI345.out))) : gb345 ≠ gb351)); have NB351_345 := Aside0.mk ((by rw [hg]; exact Nat.ne_of_gt (IsS74.lt (show IsS74 w _ gb345 l0 t349 t350 from by repeat (first | (with_reducible first | exact HI345.out | apply IsS74.alloc | apply IsS74.drewN | apply IsS74.drew | apply IsS74.set_1 | apply IsS74.set_2 | refine IsS74.far ?_ NB345_343.out _ | refine IsS74.far ?_ NB345_344.out _) | exact HI345.out))) : gb351 ≠ gb345)); replace HI345 := Aside0.mk (IsS74.below (by repeat (first | (with_reducible first | exact HI345.out | apply IsS74.alloc | apply IsS74.drewN | apply IsS74.drew | apply IsS74.set_1 | apply IsS74.set_2 | refine IsS74.far ?_ NB345_343.out _ | refine IsS74.far ?_ NB345_344.out _) | exact HI345.out)) hb); clear hb hbox hg; have hnb11 := NB351_343.out; have hnc11 := NB343_351.out; have hnb12 := NB351_344.out; have hnc12 := NB344_351.out; have hnb13 := NB351_345.out; have hnc13 := NB345_351.out; have hcz14_0 : w10.cell? ⟨gb351, 0, none⟩ = some (.string (⟨#[]⟩ : ByteArray)) := (blk_cell BK351.out 0).trans rfl; have hcz14_1 : w10.cell? ⟨gb351, 1, none⟩ = some (.string (⟨#[]⟩ : ByteArray)) := (blk_cell BK351.out 1).trans rfl; have hcz14_2 : w10.cell? ⟨gb351, 2, none⟩ = some (.int .i64 0) := (blk_cell BK351.out 2).trans rfl; have hfz14_0 := blk_frozen BK351.out 0; have hfz14_1 := blk_frozen BK351.out 1; have hfz14_2 := blk_frozen BK351.out 2) | ((with_reducible refine gate_callee (f := 54) rfl ?_); refine goesL_ (some 13) rfl rfl Tryd.func54 (by kernel_rfl) rfl #[.pointer (some ⟨gb345, 0, none⟩), .int .i64 40] rfl ZZ19826e ?_; (with_reducible refine (spec_l1Cur_one.calls gb345 l0 t349 t350 40 true t353 t354 w _ ?side1 ?side2 A3.out).mono ?_); (case side1 => repeat (first | (with_reducible first | exact HI345.out | apply IsS74.alloc | apply IsS74.drewN | apply IsS74.drew | apply IsS74.set_1 | apply IsS74.set_2 | refine IsS74.far ?_ NB345_343.out _ | refine IsS74.far ?_ NB345_344.out _ | refine IsS74.far ?_ NB345_351.out _) | exact HI345.out)); (case side2 => repeat (first | (with_reducible first | exact HB.out | apply below_alloc | apply pw_below_drewN | apply below_drew1 | refine below_set ?_ (IsS74.ge HI345.out) | refine below_set ?_ GE343.out | refine below_set ?_ GE344.out | refine below_set ?_ GE351.out) | exact HB.out)); rintro e w15 ⟨rfl, hi, hb, hk⟩; refine ⟨_, rfl, ?_⟩; replace BK343 := Aside0.mk (KeepBut.blk hk (g' := gb343) (o := .cells #[.string (⟨#[]⟩ : ByteArray), .string (⟨#[]⟩ : ByteArray), .int .i64 0] 31 (0, 0)) ZZ8fb104 NB343_345.out (by simp)); replace BK344 := Aside0.mk (KeepBut.blk hk (g' := gb344) (o := .cells #[.string (⟨#[]⟩ : ByteArray), .string (⟨#[]⟩ : ByteArray)] 27 (0, 0)) ZZ6c4ea6 NB344_345.out (by simp)); replace BK351 := Aside0.mk (KeepBut.blk hk (g' := gb351) (o := .cells #[.string t346, .string t347, .int .i64 t348] 31 (0, 0)) (by (with_reducible repeat (first | refine blk_drewN ?_ _ | refine blk_drew ?_ | refine blk_alloc ?_ _)); refine blk_put (cs := #[.string t346, .string t347, .int .i64 0]) ?_ 2 _ rfl; (with_reducible repeat (first | refine blk_drewN ?_ _ | refine blk_drew ?_ | refine blk_alloc ?_ _)); refine blk_put (cs := #[.string t346, .string (⟨#[]⟩ : ByteArray), .int .i64 0]) ?_ 1 _ rfl; (with_reducible repeat (first | refine blk_drewN ?_ _ | refine blk_drew ?_ | refine blk_alloc ?_ _)); refine blk_put (cs := #[.string (⟨#[]⟩ : ByteArray), .string (⟨#[]⟩ : ByteArray), .int .i64 0]) ?_ 0 _ rfl; (with_reducible repeat (first | refine blk_drewN ?_ _ | refine blk_drew ?_ | refine blk_alloc ?_ _)); exact BK351.out) NB351_345.out (by simp)); replace HB := Aside0.mk (hb); replace HI345 := Aside0.mk (hi); (try clear hb); (try clear hb2); (try clear hk); (try clear hi); have hcz16_0 : w15.cell? ⟨gb351, 0, none⟩ = some (.string t346) := (blk_cell BK351.out 0).trans rfl; have hcz16_1 : w15.cell? ⟨gb351, 1, none⟩ = some (.string t347) := (blk_cell BK351.out 1).trans rfl; have hcz16_2 : w15.cell? ⟨gb351, 2, none⟩ = some (.int .i64 t348) := (blk_cell BK351.out 2).trans rfl; have hfz16_0 := blk_frozen BK351.out 0; have hfz16_1 := blk_frozen BK351.out 1; have hfz16_2 := blk_frozen BK351.out 2) | ((with_reducible refine gate_callee (f := 55) rfl ?_); refine goesL_ (some 16) rfl rfl Tryd.func55 (by kernel_rfl) rfl #[.pointer (some ⟨gb345, 0, none⟩), .int .i64 2] rfl ZZ19826e ?_; (with_reducible refine (spec_l1Cur_pick.calls gb345 l0 t353 t354 2 t355 t356 t357 w _ ?side1 ?side2 A5.out).mono ?_); (case side1 => repeat (first | (with_reducible first | exact HI345.out | apply IsS74.alloc | apply IsS74.drewN | apply IsS74.drew | apply IsS74.set_1 | apply IsS74.set_2 | refine IsS74.far ?_ NB345_343.out _ | refine IsS74.far ?_ NB345_344.out _ | refine IsS74.far ?_ NB345_351.out _) | exact HI345.out)); (case side2 => repeat (first | (with_reducible first | exact HB.out | apply below_alloc | apply pw_below_drewN | apply below_drew1 | refine below_set ?_ (IsS74.ge HI345.out) | refine below_set ?_ GE343.out | refine below_set ?_ GE344.out | refine below_set ?_ GE351.out) | exact HB.out)); rintro e w17 ⟨rfl, hi, hb, hk⟩; refine ⟨_, rfl, ?_⟩; replace BK343 := Aside0.mk (KeepBut.blk hk (g' := gb343) (o := .cells #[.string (⟨#[]⟩ : ByteArray), .string (⟨#[]⟩ : ByteArray), .int .i64 0] 31 (0, 0)) ZZ8fb104 NB343_345.out (by simp)); replace BK344 := Aside0.mk (KeepBut.blk hk (g' := gb344) (o := .cells #[.string (⟨#[]⟩ : ByteArray), .string (⟨#[]⟩ : ByteArray)] 27 (0, 0)) ZZ6c4ea6 NB344_345.out (by simp)); replace BK351 := Aside0.mk (KeepBut.blk hk (g' := gb351) (o := .cells #[.string (⟨#[]⟩ : ByteArray), .string (⟨#[]⟩ : ByteArray), .int .i64 0] 31 (0, 0)) (by (with_reducible repeat (first | refine blk_drewN ?_ _ | refine blk_drew ?_ | refine blk_alloc ?_ _)); refine blk_put (cs := #[.string (⟨#[]⟩ : ByteArray), .string (⟨#[]⟩ : ByteArray), .int .i64 t348]) ?_ 2 _ rfl; (with_reducible repeat (first | refine blk_drewN ?_ _ | refine blk_drew ?_ | refine blk_alloc ?_ _)); refine blk_put (cs := #[.string (⟨#[]⟩ : ByteArray), .string t347, .int .i64 t348]) ?_ 1 _ rfl; (with_reducible repeat (first | refine blk_drewN ?_ _ | refine blk_drew ?_ | refine blk_alloc ?_ _)); refine blk_put (cs := #[.string t346, .string t347, .int .i64 t348]) ?_ 0 _ rfl; (with_reducible repeat (first | refine blk_drewN ?_ _ | refine blk_drew ?_ | refine blk_alloc ?_ _)); exact BK351.out) NB351_345.out (by simp)); replace HB := Aside0.mk (hb); replace HI345 := Aside0.mk (hi); (try clear hb); (try clear hb2); (try clear hk); (try clear hi)))
  go_loopg [6] k (fun kq v6 w' => ∃ (x6_1 : Int) (x352000_1 : ByteArray) (x352001_1 : ByteArray) (x352002_1 : Int), v6 = .int .i64 x6_1 ∧ Aside0 (spec_DrawAppendRecord.l0 kq x6_1 l0 t356 t357 x352000_1 x352001_1 x352002_1 = some (r1, r2, r3, r4, r5)) ∧ Aside0 (kq ≤ k) ∧ Aside0 (w'.heap[gb343]? = some (.cells #[.string (⟨#[]⟩ : ByteArray), .string (⟨#[]⟩ : ByteArray), .int .i64 0] 31 (0, 0))) ∧ Aside0 (w'.heap[gb344]? = some (.cells #[.string (⟨#[]⟩ : ByteArray), .string (⟨#[]⟩ : ByteArray)] 27 (0, 0))) ∧ Aside0 (w'.heap[gb351]? = some (.cells #[.string x352000_1, .string x352001_1, .int .i64 x352002_1] 31 (0, 0))) ∧ Aside0 (IsS74 w w' gb345 l0 t356 t357) ∧ Aside0 (Below w.heap.size w w'))
  case atStart => exact ⟨(wrap64 (59 + t355)), ((⟨#[]⟩ : ByteArray)), ((⟨#[]⟩ : ByteArray)), (0), ZZ0ab324, H', ⟨Nat.le_refl _⟩, ⟨(zB BK343)⟩, ⟨(zB BK344)⟩, ⟨(zB BK351)⟩, ⟨(by repeat (first | (with_reducible first | exact HI345.out | apply IsS74.alloc | apply IsS74.drewN | apply IsS74.drew | apply IsS74.set_1 | apply IsS74.set_2 | refine IsS74.far ?_ NB345_343.out _ | refine IsS74.far ?_ NB345_344.out _ | refine IsS74.far ?_ NB345_351.out _) | exact HI345.out))⟩, ⟨ZZ031ad4⟩⟩
  case round =>
   clear H'
   try clear c4
   try clear hcz14_0
   try clear hcz14_1
   try clear hcz14_2
   try clear hcz16_0
   try clear hcz16_1
   try clear hcz16_2
   try clear hfz14_0
   try clear hfz14_1
   try clear hfz14_2
   try clear hfz16_0
   try clear hfz16_1
   try clear hfz16_2
   obtain ⟨x6_1, x352000_1, x352001_1, x352002_1, rfl, HA, HK1, BK343, BK344, BK351, HI345, HB⟩ := hrel
   cases gk with
   | zero => exact absurd HA.out (by simp [spec_DrawAppendRecord.l0])
   | succ k1 =>
    have H := HA.out
    clear HA
    simp only [spec_DrawAppendRecord.l0] at H
    by_cases c18 : x6_1 > 0
    ·rw [if_pos c18] at H
     have c18b0 : decide (0 < x6_1) = true := decide_eq_true c18
     clear c18
     obtain ⟨⟨t358, t359, t360, t361⟩, A19, H⟩ := bdY H
     try dsimp only at H
     have H' := Aside0.mk H
     clear H
     have hnb20 := NB351_343.out
     have hnc20 := NB343_351.out
     have hnb21 := NB351_344.out
     have hnc21 := NB344_351.out
     have hnb22 := NB351_345.out
     have hnc22 := NB345_351.out
     have hcz23_0 : wr.cell? ⟨gb351, 0, none⟩ = some (.string x352000_1) := (blk_cell BK351.out 0).trans rfl
     have hcz23_1 : wr.cell? ⟨gb351, 1, none⟩ = some (.string x352001_1) := (blk_cell BK351.out 1).trans rfl
     have hcz23_2 : wr.cell? ⟨gb351, 2, none⟩ = some (.int .i64 x352002_1) := (blk_cell BK351.out 2).trans rfl
     have hfz23_0 := blk_frozen BK351.out 0
     have hfz23_1 := blk_frozen BK351.out 1
     have hfz23_2 := blk_frozen BK351.out 2
     go_wp2_with (first | ((with_reducible refine gate_callee (f := 28) rfl ?_); refine goesL_ (some 25) rfl rfl Tryd.func28 (by kernel_rfl) rfl #[.agg #[.string x352000_1, .string x352001_1, .int .i64 x352002_1], .agg #[.string (⟨#[120]⟩ : ByteArray), .string (⟨#[]⟩ : ByteArray)]] rfl ZZ19826e ?_; (with_reducible refine (spec_AppendRecord.calls k1 x352000_1 x352001_1 x352002_1 (⟨#[120]⟩ : ByteArray) (⟨#[]⟩ : ByteArray) t358 t359 t360 t361 _ A19.out).mono ?_); rintro e w24 ⟨rfl, hb⟩; refine ⟨_, rfl, ?_⟩; replace BK343 := Aside0.mk (blk_below (zB BK343) hb); replace BK344 := Aside0.mk (blk_below (zB BK344) hb); replace BK351 := Aside0.mk (blk_below (zB BK351) hb); replace HB := Aside0.mk (below_step ZZ031ad4 hb); replace HI345 := Aside0.mk (IsS74.below (by repeat (first | (with_reducible first | exact HI345.out | apply IsS74.alloc | apply IsS74.drewN | apply IsS74.drew | apply IsS74.set_1 | apply IsS74.set_2 | refine IsS74.far ?_ NB345_343.out _ | refine IsS74.far ?_ NB345_344.out _ | refine IsS74.far ?_ NB345_351.out _) | exact HI345.out)) hb); (try clear hb); (try clear hb2); (try clear hk); (try clear hi); have hcz25_0 : w24.cell? ⟨gb351, 0, none⟩ = some (.string x352000_1) := (blk_cell BK351.out 0).trans rfl; have hcz25_1 : w24.cell? ⟨gb351, 1, none⟩ = some (.string x352001_1) := (blk_cell BK351.out 1).trans rfl; have hcz25_2 : w24.cell? ⟨gb351, 2, none⟩ = some (.int .i64 x352002_1) := (blk_cell BK351.out 2).trans rfl; have hfz25_0 := blk_frozen BK351.out 0; have hfz25_1 := blk_frozen BK351.out 1; have hfz25_2 := blk_frozen BK351.out 2))
     go_roundg k1
     case measure => have := HK1.out; omega
     case rel => exact ⟨(wrap64 (x6_1 - 1)), (t358), (t359), (t360), ZZ0ab324, H', ⟨(by have := HK1.out; omega)⟩, ⟨ZZ8fb104⟩, ⟨ZZ6c4ea6⟩, ⟨(by (with_reducible repeat (first | refine blk_drewN ?_ _ | refine blk_drew ?_ | refine blk_alloc ?_ _)); refine blk_put (cs := #[.string t358, .string t359, .int .i64 x352002_1]) ?_ 2 _ rfl; (with_reducible repeat (first | refine blk_drewN ?_ _ | refine blk_drew ?_ | refine blk_alloc ?_ _)); refine blk_put (cs := #[.string t358, .string x352001_1, .int .i64 x352002_1]) ?_ 1 _ rfl; (with_reducible repeat (first | refine blk_drewN ?_ _ | refine blk_drew ?_ | refine blk_alloc ?_ _)); refine blk_put (cs := #[.string x352000_1, .string x352001_1, .int .i64 x352002_1]) ?_ 0 _ rfl; (with_reducible repeat (first | refine blk_drewN ?_ _ | refine blk_drew ?_ | refine blk_alloc ?_ _)); exact BK351.out)⟩, ⟨(by repeat (first | (with_reducible first | exact HI345.out | apply IsS74.alloc | apply IsS74.drewN | apply IsS74.drew | apply IsS74.set_1 | apply IsS74.set_2 | refine IsS74.far ?_ NB345_343.out _ | refine IsS74.far ?_ NB345_344.out _ | refine IsS74.far ?_ NB345_351.out _) | exact HI345.out))⟩, ⟨ZZ031ad4⟩⟩
    rw [if_neg c18] at H
    have c18b0 : decide (0 < x6_1) = false := decide_eq_false c18
    clear c18
    obtain ⟨⟨t362, t363, t364, t365⟩, A26, H⟩ := bdY H
    try dsimp only at H
    simp only [Option.some.injEq, Prod.mk.injEq] at H
    obtain ⟨rfl, rfl, rfl, rfl, rfl⟩ := H
    try go_wp2
    replace BK343 := Aside0.mk (blk_drew BK343.out)
    replace BK344 := Aside0.mk (blk_drew BK344.out)
    replace BK351 := Aside0.mk (blk_drew BK351.out)
    replace HI345 := Aside0.mk (IsS74.drew HI345.out)
    replace HB := Aside0.mk (below_drew1 HB.out)
    refine start_ (n := 5) (S := fun w' => w'.cell? ⟨gb351, 0, none⟩ = some (.string x352000_1) ∧ w'.cell? ⟨gb351, 1, none⟩ = some (.string x352001_1) ∧ w'.cell? ⟨gb351, 2, none⟩ = some (.int .i64 x352002_1)) (ds := []) #[false, false, false, false, false] (by kernel_rfl) rfl rfl ⟨(blk_cell BK351.out 0).trans rfl, (blk_cell BK351.out 1).trans rfl, (blk_cell BK351.out 2).trans rfl⟩ (fun hHeld => ?_)
    generalize wr.drew = w27 at BK343 BK344 BK351 HI345 HB hHeld ⊢
    refine pure_ (i := 1) (N := some 29) (v := ?_) (a' := ?_) #[false, true, false, false, false] rfl rfl (by kernel_rfl) (fun _ _ _ h => h) (Or.inl ⟨(by rfl), ?_⟩) ?_ ?_
    rotate_left
    ·intro w'
     go_simp
     with_reducible rfl
    rotate_left
    ·simp only [Act.put, List.setIfInBounds_toArray, List.set_cons_zero, List.set_cons_succ, i64_w, i32_w]
     rfl
    refine take_ (i := 0) (N := some 28) (v := ?_) (a' := ?_) #[true, true, false, false, false] rfl rfl (by kernel_rfl) (fun _ _ _ h => h) (Or.inl ⟨(by rfl), ?_⟩) hHeld ?_ ?_
    rotate_left
    ·rintro w' ⟨s0, s1, s2⟩
     go_simp
     with_reducible rfl
    rotate_left
    ·simp only [Act.put, List.setIfInBounds_toArray, List.set_cons_zero, List.set_cons_succ, i64_w, i32_w]
     rfl
    refine one_ (i := 2) (N := some 30) #[true, true, true, false, false] rfl rfl (by kernel_rfl) (by decide) (fun K hK => ?_)
    refine goes_ Tryd.func56 (by kernel_rfl) rfl #[.pointer (some ⟨gb345, 0, none⟩)] (by rfl) rfl rfl ZZ19826e ?_
    with_reducible refine (spec_l1Cur_logRecord.calls gb345 l0 t356 t357 t362 t363 t364 t365 w _ ?side1 ?side2 A26.out).mono ?_
    (case side1 => repeat (first | (with_reducible first | exact HI345.out | apply IsS74.alloc | apply IsS74.drewN | apply IsS74.drew | apply IsS74.set_1 | apply IsS74.set_2 | refine IsS74.far ?_ NB345_343.out _ | refine IsS74.far ?_ NB345_344.out _ | refine IsS74.far ?_ NB345_351.out _) | exact HI345.out))
    (case side2 => repeat (first | (with_reducible first | exact HB.out | apply below_alloc | apply pw_below_drewN | apply below_drew1 | refine below_set ?_ (IsS74.ge HI345.out) | refine below_set ?_ GE343.out | refine below_set ?_ GE344.out | refine below_set ?_ GE351.out) | exact HB.out))
    rintro e w28 ⟨rfl, hi, hb, hk⟩
    refine ⟨_, rfl, ?_⟩
    replace BK343 := Aside0.mk (KeepBut.blk hk (g' := gb343) (o := .cells #[.string (⟨#[]⟩ : ByteArray), .string (⟨#[]⟩ : ByteArray), .int .i64 0] 31 (0, 0)) (zB BK343) NB343_345.out (by simp))
    replace BK344 := Aside0.mk (KeepBut.blk hk (g' := gb344) (o := .cells #[.string (⟨#[]⟩ : ByteArray), .string (⟨#[]⟩ : ByteArray)] 27 (0, 0)) (zB BK344) NB344_345.out (by simp))
    replace BK351 := Aside0.mk (KeepBut.blk hk (g' := gb351) (o := .cells #[.string x352000_1, .string x352001_1, .int .i64 x352002_1] 31 (0, 0)) (zB BK351) NB351_345.out (by simp))
    replace HB := Aside0.mk (hb)
    replace HI345 := Aside0.mk (hi)
    (try clear hb)
    (try clear hb2)
    (try clear hk)
    (try clear hi)
    refine hK.out _ _ ⟨(blk_cell BK351.out 0).trans rfl, (blk_cell BK351.out 1).trans rfl, (blk_cell BK351.out 2).trans rfl⟩ (fun hHeld => ?_)
    clear hK K
    refine norm_ (a' := ?_) ?_ ?_
    rotate_left
    ·show Act.put _ (some 30) _ = _
     simp only [Act.put, List.setIfInBounds_toArray, List.set_cons_zero, List.set_cons_succ, i64_w, i32_w]
     rfl
    refine one_ (i := 3) (N := none) #[true, true, true, true, false] rfl rfl (by kernel_rfl) (by decide) (fun K hK => ?_)
    have hs29 : w28.cell? ⟨gb343, 0, none⟩ = some (.string (⟨#[]⟩ : ByteArray)) := (blk_cell BK343.out 0).trans rfl
    have hfs29 := blk_frozen BK343.out 0
    have hns29_1 := NB344_343.out
    have hns29_2 := NB351_343.out
    have hms29_1 := NB343_344.out
    have hms29_2 := NB343_351.out
    have hs30 : w28.cell? ⟨gb343, 1, none⟩ = some (.string (⟨#[]⟩ : ByteArray)) := (blk_cell BK343.out 1).trans rfl
    have hfs30 := blk_frozen BK343.out 1
    have hns30_1 := NB344_343.out
    have hns30_2 := NB351_343.out
    have hms30_1 := NB343_344.out
    have hms30_2 := NB343_351.out
    have hs31 : w28.cell? ⟨gb343, 2, none⟩ = some (.int .i64 0) := (blk_cell BK343.out 2).trans rfl
    have hfs31 := blk_frozen BK343.out 2
    have hns31_1 := NB344_343.out
    have hns31_2 := NB351_343.out
    have hms31_1 := NB343_344.out
    have hms31_2 := NB343_351.out
    refine skip_ (w1 := ?_) (by rfl) rfl ?_ ?_
    rotate_left
    ·go_simp
     rfl
    refine hK.out _ _ ⟨((cell_far (p := ⟨gb343, _, none⟩) NB351_343.out _).trans (((cell_far (p := ⟨gb343, _, none⟩) NB351_343.out _).trans (((cell_far (p := ⟨gb343, _, none⟩) NB351_343.out _).trans (hHeld.1)))))), ((cell_far (p := ⟨gb343, _, none⟩) NB351_343.out _).trans (((cell_far (p := ⟨gb343, _, none⟩) NB351_343.out _).trans (((cell_far (p := ⟨gb343, _, none⟩) NB351_343.out _).trans (hHeld.2.1)))))), ((cell_far (p := ⟨gb343, _, none⟩) NB351_343.out _).trans (((cell_far (p := ⟨gb343, _, none⟩) NB351_343.out _).trans (((cell_far (p := ⟨gb343, _, none⟩) NB351_343.out _).trans (hHeld.2.2))))))⟩ (fun hHeld => ?_)
    clear hK K
    refine one_ (i := 4) (N := none) #[true, true, true, true, true] rfl rfl (by kernel_rfl) (by decide) (fun K hK => ?_)
    have hs32 : w28.cell? ⟨gb344, 0, none⟩ = some (.string (⟨#[]⟩ : ByteArray)) := (blk_cell BK344.out 0).trans rfl
    have hfs32 := blk_frozen BK344.out 0
    have hns32_0 := NB343_344.out
    have hns32_2 := NB351_344.out
    have hms32_0 := NB344_343.out
    have hms32_2 := NB344_351.out
    have hs33 : w28.cell? ⟨gb344, 1, none⟩ = some (.string (⟨#[]⟩ : ByteArray)) := (blk_cell BK344.out 1).trans rfl
    have hfs33 := blk_frozen BK344.out 1
    have hns33_0 := NB343_344.out
    have hns33_2 := NB351_344.out
    have hms33_0 := NB344_343.out
    have hms33_2 := NB344_351.out
    refine skip_ (w1 := ?_) (by rfl) rfl ?_ ?_
    rotate_left
    ·go_simp
     rfl
    refine hK.out _ _ ⟨((cell_far (p := ⟨gb344, _, none⟩) NB351_344.out _).trans (((cell_far (p := ⟨gb344, _, none⟩) NB351_344.out _).trans (hHeld.1)))), ((cell_far (p := ⟨gb344, _, none⟩) NB351_344.out _).trans (((cell_far (p := ⟨gb344, _, none⟩) NB351_344.out _).trans (hHeld.2.1)))), ((cell_far (p := ⟨gb344, _, none⟩) NB351_344.out _).trans (((cell_far (p := ⟨gb344, _, none⟩) NB351_344.out _).trans (hHeld.2.2))))⟩ (fun hHeld => ?_)
    clear hK K
    refine done_ (by kernel_rfl) ?_
    try go_wp2
    refine bodyPost_ret (results_cc rfl _ _ gb343 gb344 31 27 #[.string x352000_1, .string x352001_1, .int .i64 x352002_1] #[.string t362, .string t363] (0, 0) (0, 0) _ _ rfl (by (with_reducible repeat (first | refine blk_drewN ?_ _ | refine blk_drew ?_ | refine blk_alloc ?_ _)); refine blk_far ?_ NB343_344.out _; (with_reducible repeat (first | refine blk_drewN ?_ _ | refine blk_drew ?_ | refine blk_alloc ?_ _)); refine blk_far ?_ NB343_344.out _; (with_reducible repeat (first | refine blk_drewN ?_ _ | refine blk_drew ?_ | refine blk_alloc ?_ _)); refine blk_put (cs := #[.string x352000_1, .string x352001_1, .int .i64 0]) ?_ 2 _ rfl; (with_reducible repeat (first | refine blk_drewN ?_ _ | refine blk_drew ?_ | refine blk_alloc ?_ _)); refine blk_put (cs := #[.string x352000_1, .string (⟨#[]⟩ : ByteArray), .int .i64 0]) ?_ 1 _ rfl; (with_reducible repeat (first | refine blk_drewN ?_ _ | refine blk_drew ?_ | refine blk_alloc ?_ _)); refine blk_put (cs := #[.string (⟨#[]⟩ : ByteArray), .string (⟨#[]⟩ : ByteArray), .int .i64 0]) ?_ 0 _ rfl; (with_reducible repeat (first | refine blk_drewN ?_ _ | refine blk_drew ?_ | refine blk_alloc ?_ _)); exact BK343.out) Tryd.underlying31 rfl (by kernel_rfl) rfl (by (with_reducible repeat (first | refine blk_drewN ?_ _ | refine blk_drew ?_ | refine blk_alloc ?_ _)); refine blk_put (cs := #[.string t362, .string (⟨#[]⟩ : ByteArray)]) ?_ 1 _ rfl; (with_reducible repeat (first | refine blk_drewN ?_ _ | refine blk_drew ?_ | refine blk_alloc ?_ _)); refine blk_put (cs := #[.string (⟨#[]⟩ : ByteArray), .string (⟨#[]⟩ : ByteArray)]) ?_ 0 _ rfl; (with_reducible repeat (first | refine blk_drewN ?_ _ | refine blk_drew ?_ | refine blk_alloc ?_ _)); refine blk_far ?_ NB344_343.out _; (with_reducible repeat (first | refine blk_drewN ?_ _ | refine blk_drew ?_ | refine blk_alloc ?_ _)); refine blk_far ?_ NB344_343.out _; (with_reducible repeat (first | refine blk_drewN ?_ _ | refine blk_drew ?_ | refine blk_alloc ?_ _)); refine blk_far ?_ NB344_343.out _; (with_reducible repeat (first | refine blk_drewN ?_ _ | refine blk_drew ?_ | refine blk_alloc ?_ _)); exact BK344.out) Tryd.underlying27 rfl (by kernel_rfl)) rfl ?_
    exact ⟨ZZab01d2, ZZ031ad4⟩
 replace c4 := Bool.eq_false_iff.mpr c4
 subst c4
 have H1 : ((spec_l1Cur_logRecord.f l0 t353 t354).bind fun bt366 => (some (t346, t347, t348, bt366.1, bt366.2.1))) = some (r1, r2, r3, r4, r5) := by rw [if_neg (show ¬ (false = true) by decide)] at H; exact H
 clear H
 have H := H1
 clear H1
 obtain ⟨⟨t366, t367, t368, t369⟩, A34, H⟩ := bdY H
 try dsimp only at H
 simp only [Option.some.injEq, Prod.mk.injEq] at H
 obtain ⟨rfl, rfl, rfl, rfl, rfl⟩ := H
 go_enter Tryd.func36, Tryd.ntmps36
 try go_wp2_with (first | ((with_reducible refine gate_dst (N := 2) rfl ?_); refine box_event ?hg (N := 2) ?hd (cs := #[.string (⟨#[]⟩ : ByteArray), .string (⟨#[]⟩ : ByteArray), .int .i64 0]) (t := 31) ?hr ?_; (case hd => rfl); (case hg => rfl); (case hr => first | (go_simp; done) | (go_simp; rfl)); intro gb343 hg w35 hbox hb; have BK343 := Aside0.mk (hbox); have GW343 := Aside0.mk ((by rw [hg]; exact (below_size ZZ605003) : w.heap.size ≤ gb343)); have GE343 := Aside0.mk ((by rw [hg]; exact (below_size ZZ605003) : w.heap.size ≤ gb343)); replace HB := Aside0.mk (below_step ZZ605003 hb); clear hb hbox hg) | ((with_reducible refine gate_dst (N := 3) rfl ?_); refine box_event ?hg (N := 3) ?hd (cs := #[.string (⟨#[]⟩ : ByteArray), .string (⟨#[]⟩ : ByteArray)]) (t := 27) ?hr ?_; (case hd => rfl); (case hg => rfl); (case hr => first | (go_simp; done) | (go_simp; rfl)); intro gb344 hg w36 hbox hb; have BK344 := Aside0.mk (hbox); have GW344 := Aside0.mk ((by rw [hg]; exact (below_size ZZ295621) : w.heap.size ≤ gb344)); have GE344 := Aside0.mk ((by rw [hg]; exact (below_size ZZ295621) : w.heap.size ≤ gb344)); replace HB := Aside0.mk (below_step ZZ295621 hb); have NB343_344 := Aside0.mk ((by rw [hg]; exact Nat.ne_of_lt (blk_lt (zB BK343)) : gb343 ≠ gb344)); have NB344_343 := Aside0.mk ((by rw [hg]; exact Nat.ne_of_gt (blk_lt (zB BK343)) : gb344 ≠ gb343)); replace BK343 := Aside0.mk (blk_below (zB BK343) hb); clear hb hbox hg) | ((with_reducible refine gate_dst (N := 9) rfl ?_); refine box_event ?hg (N := 9) ?hd (cs := #[.slice A0 l0.length c0, .int .i64 0, .int .u64 0]) (t := 74) ?hr ?_; (case hd => rfl); (case hg => rfl); (case hr => first | (go_simp; done) | (go_simp; rfl)); intro gb345 hg w37 hbox hb; have BK345 := Aside0.mk (hbox); have GW345 := Aside0.mk ((by rw [hg]; exact (below_size ZZ295621) : w.heap.size ≤ gb345)); have GE345 := Aside0.mk ((by rw [hg]; exact (below_size ZZ295621) : w.heap.size ≤ gb345)); replace HB := Aside0.mk (below_step ZZ295621 hb); have NB343_345 := Aside0.mk ((by rw [hg]; exact Nat.ne_of_lt (blk_lt (zB BK343)) : gb343 ≠ gb345)); have NB345_343 := Aside0.mk ((by rw [hg]; exact Nat.ne_of_gt (blk_lt (zB BK343)) : gb345 ≠ gb343)); replace BK343 := Aside0.mk (blk_below (zB BK343) hb); have NB344_345 := Aside0.mk ((by rw [hg]; exact Nat.ne_of_lt (blk_lt (zB BK344)) : gb344 ≠ gb345)); have NB345_344 := Aside0.mk ((by rw [hg]; exact Nat.ne_of_gt (blk_lt (zB BK344)) : gb345 ≠ gb344)); replace BK344 := Aside0.mk (blk_below (zB BK344) hb); clear hb hbox hg; have HI345 := Aside0.mk (show IsS74 w _ gb345 l0 0 0 from ⟨_, _, BK345.out, GE345.out, HR0.out⟩); clear BK345) | ((with_reducible refine gate_callee (f := 53) rfl ?_); refine goesL_ (some 11) rfl rfl Tryd.func53 (by kernel_rfl) rfl #[.pointer (some ⟨gb345, 0, none⟩)] rfl ZZ19826e ?_; (with_reducible refine (spec_l1Cur_anyLog.calls k gb345 l0 0 0 t346 t347 t348 t349 t350 w _ ?side1 ?side2 A2.out).mono ?_); (case side1 => repeat (first | (with_reducible first | exact HI345.out | apply IsS74.alloc | apply IsS74.drewN | apply IsS74.drew | apply IsS74.set_1 | apply IsS74.set_2 | refine IsS74.far ?_ NB345_343.out _ | refine IsS74.far ?_ NB345_344.out _) | exact HI345.out)); (case side2 => repeat (first | (with_reducible first | exact HB.out | apply below_alloc | apply pw_below_drewN | apply below_drew1 | refine below_set ?_ (IsS74.ge HI345.out) | refine below_set ?_ GE343.out | refine below_set ?_ GE344.out) | exact HB.out)); rintro e w38 ⟨rfl, hi, hb, hk⟩; refine ⟨_, rfl, ?_⟩; replace BK343 := Aside0.mk (KeepBut.blk hk (g' := gb343) (o := .cells #[.string (⟨#[]⟩ : ByteArray), .string (⟨#[]⟩ : ByteArray), .int .i64 0] 31 (0, 0)) (zB BK343) NB343_345.out (by simp)); replace BK344 := Aside0.mk (KeepBut.blk hk (g' := gb344) (o := .cells #[.string (⟨#[]⟩ : ByteArray), .string (⟨#[]⟩ : ByteArray)] 27 (0, 0)) (zB BK344) NB344_345.out (by simp)); replace HB := Aside0.mk (hb); replace HI345 := Aside0.mk (hi); (try clear hb); (try clear hb2); (try clear hk); (try clear hi)) | ((with_reducible refine gate_dst (N := 5) rfl ?_); refine box_event ?hg (N := 5) ?hd (cs := #[.string (⟨#[]⟩ : ByteArray), .string (⟨#[]⟩ : ByteArray), .int .i64 0]) (t := 31) ?hr ?_; (case hd => rfl); (case hg => rfl); (case hr => first | (go_simp; done) | (go_simp; rfl)); intro gb351 hg w39 hbox hb; have BK351 := Aside0.mk (hbox); have GW351 := Aside0.mk ((by rw [hg]; exact (below_size ZZc68623) : w.heap.size ≤ gb351)); have GE351 := Aside0.mk ((by rw [hg]; exact (below_size ZZc68623) : w.heap.size ≤ gb351)); replace HB := Aside0.mk (below_step ZZc68623 hb); have NB343_351 := Aside0.mk ((by rw [hg]; exact Nat.ne_of_lt (blk_lt (zB BK343)) : gb343 ≠ gb351)); have NB351_343 := Aside0.mk ((by rw [hg]; exact Nat.ne_of_gt (blk_lt (zB BK343)) : gb351 ≠ gb343)); replace BK343 := Aside0.mk (blk_below (zB BK343) hb); have NB344_351 := Aside0.mk ((by rw [hg]; exact Nat.ne_of_lt (blk_lt (zB BK344)) : gb344 ≠ gb351)); have NB351_344 := Aside0.mk ((by rw [hg]; exact Nat.ne_of_gt (blk_lt (zB BK344)) : gb351 ≠ gb344)); replace BK344 := Aside0.mk (blk_below (zB BK344) hb); have NB345_351 := Aside0.mk ((by rw [hg]; exact Nat.ne_of_lt (IsS74.lt (show IsS74 w _ gb345 l0 t349 t350 from by repeat (first | (with_reducible first | exact HI345.out | apply IsS74.alloc | apply IsS74.drewN | apply IsS74.drew | apply IsS74.set_1 | apply IsS74.set_2 | refine IsS74.far ?_ NB345_343.out _ | refine IsS74.far ?_ NB345_344.out _) | exact HI345.out))) : gb345 ≠ gb351)); have NB351_345 := Aside0.mk ((by rw [hg]; exact Nat.ne_of_gt (IsS74.lt (show IsS74 w _ gb345 l0 t349 t350 from by repeat (first | (with_reducible first | exact HI345.out | apply IsS74.alloc | apply IsS74.drewN | apply IsS74.drew | apply IsS74.set_1 | apply IsS74.set_2 | refine IsS74.far ?_ NB345_343.out _ | refine IsS74.far ?_ NB345_344.out _) | exact HI345.out))) : gb351 ≠ gb345)); replace HI345 := Aside0.mk (IsS74.below (by repeat (first | (with_reducible first | exact HI345.out | apply IsS74.alloc | apply IsS74.drewN | apply IsS74.drew | apply IsS74.set_1 | apply IsS74.set_2 | refine IsS74.far ?_ NB345_343.out _ | refine IsS74.far ?_ NB345_344.out _) | exact HI345.out)) hb); clear hb hbox hg; have hnb40 := NB351_343.out; have hnc40 := NB343_351.out; have hnb41 := NB351_344.out; have hnc41 := NB344_351.out; have hnb42 := NB351_345.out; have hnc42 := NB345_351.out; have hcz43_0 : w39.cell? ⟨gb351, 0, none⟩ = some (.string (⟨#[]⟩ : ByteArray)) := (blk_cell BK351.out 0).trans rfl; have hcz43_1 : w39.cell? ⟨gb351, 1, none⟩ = some (.string (⟨#[]⟩ : ByteArray)) := (blk_cell BK351.out 1).trans rfl; have hcz43_2 : w39.cell? ⟨gb351, 2, none⟩ = some (.int .i64 0) := (blk_cell BK351.out 2).trans rfl; have hfz43_0 := blk_frozen BK351.out 0; have hfz43_1 := blk_frozen BK351.out 1; have hfz43_2 := blk_frozen BK351.out 2) | ((with_reducible refine gate_callee (f := 54) rfl ?_); refine goesL_ (some 13) rfl rfl Tryd.func54 (by kernel_rfl) rfl #[.pointer (some ⟨gb345, 0, none⟩), .int .i64 40] rfl ZZ19826e ?_; (with_reducible refine (spec_l1Cur_one.calls gb345 l0 t349 t350 40 false t353 t354 w _ ?side1 ?side2 A3.out).mono ?_); (case side1 => repeat (first | (with_reducible first | exact HI345.out | apply IsS74.alloc | apply IsS74.drewN | apply IsS74.drew | apply IsS74.set_1 | apply IsS74.set_2 | refine IsS74.far ?_ NB345_343.out _ | refine IsS74.far ?_ NB345_344.out _ | refine IsS74.far ?_ NB345_351.out _) | exact HI345.out)); (case side2 => repeat (first | (with_reducible first | exact HB.out | apply below_alloc | apply pw_below_drewN | apply below_drew1 | refine below_set ?_ (IsS74.ge HI345.out) | refine below_set ?_ GE343.out | refine below_set ?_ GE344.out | refine below_set ?_ GE351.out) | exact HB.out)); rintro e w44 ⟨rfl, hi, hb, hk⟩; refine ⟨_, rfl, ?_⟩; replace BK343 := Aside0.mk (KeepBut.blk hk (g' := gb343) (o := .cells #[.string (⟨#[]⟩ : ByteArray), .string (⟨#[]⟩ : ByteArray), .int .i64 0] 31 (0, 0)) ZZ8fb104 NB343_345.out (by simp)); replace BK344 := Aside0.mk (KeepBut.blk hk (g' := gb344) (o := .cells #[.string (⟨#[]⟩ : ByteArray), .string (⟨#[]⟩ : ByteArray)] 27 (0, 0)) ZZ6c4ea6 NB344_345.out (by simp)); replace BK351 := Aside0.mk (KeepBut.blk hk (g' := gb351) (o := .cells #[.string t346, .string t347, .int .i64 t348] 31 (0, 0)) (by (with_reducible repeat (first | refine blk_drewN ?_ _ | refine blk_drew ?_ | refine blk_alloc ?_ _)); refine blk_put (cs := #[.string t346, .string t347, .int .i64 0]) ?_ 2 _ rfl; (with_reducible repeat (first | refine blk_drewN ?_ _ | refine blk_drew ?_ | refine blk_alloc ?_ _)); refine blk_put (cs := #[.string t346, .string (⟨#[]⟩ : ByteArray), .int .i64 0]) ?_ 1 _ rfl; (with_reducible repeat (first | refine blk_drewN ?_ _ | refine blk_drew ?_ | refine blk_alloc ?_ _)); refine blk_put (cs := #[.string (⟨#[]⟩ : ByteArray), .string (⟨#[]⟩ : ByteArray), .int .i64 0]) ?_ 0 _ rfl; (with_reducible repeat (first | refine blk_drewN ?_ _ | refine blk_drew ?_ | refine blk_alloc ?_ _)); exact BK351.out) NB351_345.out (by simp)); replace HB := Aside0.mk (hb); replace HI345 := Aside0.mk (hi); (try clear hb); (try clear hb2); (try clear hk); (try clear hi)))
 replace BK343 := Aside0.mk (blk_drew BK343.out)
 replace BK344 := Aside0.mk (blk_drew BK344.out)
 replace BK351 := Aside0.mk (blk_drew BK351.out)
 replace HI345 := Aside0.mk (IsS74.drew HI345.out)
 replace HB := Aside0.mk (below_drew1 HB.out)
 refine start_ (n := 5) (S := fun w' => w'.cell? ⟨gb351, 0, none⟩ = some (.string t346) ∧ w'.cell? ⟨gb351, 1, none⟩ = some (.string t347) ∧ w'.cell? ⟨gb351, 2, none⟩ = some (.int .i64 t348)) (ds := []) #[false, false, false, false, false] (by kernel_rfl) rfl rfl ⟨(blk_cell BK351.out 0).trans rfl, (blk_cell BK351.out 1).trans rfl, (blk_cell BK351.out 2).trans rfl⟩ (fun hHeld => ?_)
 generalize w44.drew = w45 at BK343 BK344 BK351 HI345 HB hHeld ⊢
 refine pure_ (i := 1) (N := some 29) (v := ?_) (a' := ?_) #[false, true, false, false, false] rfl rfl (by kernel_rfl) (fun _ _ _ h => h) (Or.inl ⟨(by rfl), ?_⟩) ?_ ?_
 rotate_left
 ·intro w'
  go_simp
  with_reducible rfl
 rotate_left
 ·simp only [Act.put, List.setIfInBounds_toArray, List.set_cons_zero, List.set_cons_succ, i64_w, i32_w]
  rfl
 refine take_ (i := 0) (N := some 28) (v := ?_) (a' := ?_) #[true, true, false, false, false] rfl rfl (by kernel_rfl) (fun _ _ _ h => h) (Or.inl ⟨(by rfl), ?_⟩) hHeld ?_ ?_
 rotate_left
 ·rintro w' ⟨s0, s1, s2⟩
  go_simp
  with_reducible rfl
 rotate_left
 ·simp only [Act.put, List.setIfInBounds_toArray, List.set_cons_zero, List.set_cons_succ, i64_w, i32_w]
  rfl
 refine one_ (i := 2) (N := some 30) #[true, true, true, false, false] rfl rfl (by kernel_rfl) (by decide) (fun K hK => ?_)
 refine goes_ Tryd.func56 (by kernel_rfl) rfl #[.pointer (some ⟨gb345, 0, none⟩)] (by rfl) rfl rfl ZZ19826e ?_
 with_reducible refine (spec_l1Cur_logRecord.calls gb345 l0 t353 t354 t366 t367 t368 t369 w _ ?side1 ?side2 A34.out).mono ?_
 (case side1 => repeat (first | (with_reducible first | exact HI345.out | apply IsS74.alloc | apply IsS74.drewN | apply IsS74.drew | apply IsS74.set_1 | apply IsS74.set_2 | refine IsS74.far ?_ NB345_343.out _ | refine IsS74.far ?_ NB345_344.out _ | refine IsS74.far ?_ NB345_351.out _) | exact HI345.out))
 (case side2 => repeat (first | (with_reducible first | exact HB.out | apply below_alloc | apply pw_below_drewN | apply below_drew1 | refine below_set ?_ (IsS74.ge HI345.out) | refine below_set ?_ GE343.out | refine below_set ?_ GE344.out | refine below_set ?_ GE351.out) | exact HB.out))
 rintro e w46 ⟨rfl, hi, hb, hk⟩
 refine ⟨_, rfl, ?_⟩
 replace BK343 := Aside0.mk (KeepBut.blk hk (g' := gb343) (o := .cells #[.string (⟨#[]⟩ : ByteArray), .string (⟨#[]⟩ : ByteArray), .int .i64 0] 31 (0, 0)) (zB BK343) NB343_345.out (by simp))
 replace BK344 := Aside0.mk (KeepBut.blk hk (g' := gb344) (o := .cells #[.string (⟨#[]⟩ : ByteArray), .string (⟨#[]⟩ : ByteArray)] 27 (0, 0)) (zB BK344) NB344_345.out (by simp))
 replace BK351 := Aside0.mk (KeepBut.blk hk (g' := gb351) (o := .cells #[.string t346, .string t347, .int .i64 t348] 31 (0, 0)) (zB BK351) NB351_345.out (by simp))
 replace HB := Aside0.mk (hb)
 replace HI345 := Aside0.mk (hi)
 (try clear hb)
 (try clear hb2)
 (try clear hk)
 (try clear hi)
 refine hK.out _ _ ⟨(blk_cell BK351.out 0).trans rfl, (blk_cell BK351.out 1).trans rfl, (blk_cell BK351.out 2).trans rfl⟩ (fun hHeld => ?_)
 clear hK K
 refine norm_ (a' := ?_) ?_ ?_
 rotate_left
 ·show Act.put _ (some 30) _ = _
  simp only [Act.put, List.setIfInBounds_toArray, List.set_cons_zero, List.set_cons_succ, i64_w, i32_w]
  rfl
 refine one_ (i := 3) (N := none) #[true, true, true, true, false] rfl rfl (by kernel_rfl) (by decide) (fun K hK => ?_)
 have hs47 : w46.cell? ⟨gb343, 0, none⟩ = some (.string (⟨#[]⟩ : ByteArray)) := (blk_cell BK343.out 0).trans rfl
 have hfs47 := blk_frozen BK343.out 0
 have hns47_1 := NB344_343.out
 have hns47_2 := NB351_343.out
 have hms47_1 := NB343_344.out
 have hms47_2 := NB343_351.out
 have hs48 : w46.cell? ⟨gb343, 1, none⟩ = some (.string (⟨#[]⟩ : ByteArray)) := (blk_cell BK343.out 1).trans rfl
 have hfs48 := blk_frozen BK343.out 1
 have hns48_1 := NB344_343.out
 have hns48_2 := NB351_343.out
 have hms48_1 := NB343_344.out
 have hms48_2 := NB343_351.out
 have hs49 : w46.cell? ⟨gb343, 2, none⟩ = some (.int .i64 0) := (blk_cell BK343.out 2).trans rfl
 have hfs49 := blk_frozen BK343.out 2
 have hns49_1 := NB344_343.out
 have hns49_2 := NB351_343.out
 have hms49_1 := NB343_344.out
 have hms49_2 := NB343_351.out
 refine skip_ (w1 := ?_) (by rfl) rfl ?_ ?_
 rotate_left
 ·go_simp
  rfl
 refine hK.out _ _ ⟨((cell_far (p := ⟨gb343, _, none⟩) NB351_343.out _).trans (((cell_far (p := ⟨gb343, _, none⟩) NB351_343.out _).trans (((cell_far (p := ⟨gb343, _, none⟩) NB351_343.out _).trans (hHeld.1)))))), ((cell_far (p := ⟨gb343, _, none⟩) NB351_343.out _).trans (((cell_far (p := ⟨gb343, _, none⟩) NB351_343.out _).trans (((cell_far (p := ⟨gb343, _, none⟩) NB351_343.out _).trans (hHeld.2.1)))))), ((cell_far (p := ⟨gb343, _, none⟩) NB351_343.out _).trans (((cell_far (p := ⟨gb343, _, none⟩) NB351_343.out _).trans (((cell_far (p := ⟨gb343, _, none⟩) NB351_343.out _).trans (hHeld.2.2))))))⟩ (fun hHeld => ?_)
 clear hK K
 refine one_ (i := 4) (N := none) #[true, true, true, true, true] rfl rfl (by kernel_rfl) (by decide) (fun K hK => ?_)
 have hs50 : w46.cell? ⟨gb344, 0, none⟩ = some (.string (⟨#[]⟩ : ByteArray)) := (blk_cell BK344.out 0).trans rfl
 have hfs50 := blk_frozen BK344.out 0
 have hns50_0 := NB343_344.out
 have hns50_2 := NB351_344.out
 have hms50_0 := NB344_343.out
 have hms50_2 := NB344_351.out
 have hs51 : w46.cell? ⟨gb344, 1, none⟩ = some (.string (⟨#[]⟩ : ByteArray)) := (blk_cell BK344.out 1).trans rfl
 have hfs51 := blk_frozen BK344.out 1
 have hns51_0 := NB343_344.out
 have hns51_2 := NB351_344.out
 have hms51_0 := NB344_343.out
 have hms51_2 := NB344_351.out
 refine skip_ (w1 := ?_) (by rfl) rfl ?_ ?_
 rotate_left
 ·go_simp
  rfl
 refine hK.out _ _ ⟨((cell_far (p := ⟨gb344, _, none⟩) NB351_344.out _).trans (((cell_far (p := ⟨gb344, _, none⟩) NB351_344.out _).trans (hHeld.1)))), ((cell_far (p := ⟨gb344, _, none⟩) NB351_344.out _).trans (((cell_far (p := ⟨gb344, _, none⟩) NB351_344.out _).trans (hHeld.2.1)))), ((cell_far (p := ⟨gb344, _, none⟩) NB351_344.out _).trans (((cell_far (p := ⟨gb344, _, none⟩) NB351_344.out _).trans (hHeld.2.2))))⟩ (fun hHeld => ?_)
 clear hK K
 refine done_ (by kernel_rfl) ?_
 try go_wp2
 refine bodyPost_ret (results_cc rfl _ _ gb343 gb344 31 27 #[.string t346, .string t347, .int .i64 t348] #[.string t366, .string t367] (0, 0) (0, 0) _ _ rfl (by (with_reducible repeat (first | refine blk_drewN ?_ _ | refine blk_drew ?_ | refine blk_alloc ?_ _)); refine blk_far ?_ NB343_344.out _; (with_reducible repeat (first | refine blk_drewN ?_ _ | refine blk_drew ?_ | refine blk_alloc ?_ _)); refine blk_far ?_ NB343_344.out _; (with_reducible repeat (first | refine blk_drewN ?_ _ | refine blk_drew ?_ | refine blk_alloc ?_ _)); refine blk_put (cs := #[.string t346, .string t347, .int .i64 0]) ?_ 2 _ rfl; (with_reducible repeat (first | refine blk_drewN ?_ _ | refine blk_drew ?_ | refine blk_alloc ?_ _)); refine blk_put (cs := #[.string t346, .string (⟨#[]⟩ : ByteArray), .int .i64 0]) ?_ 1 _ rfl; (with_reducible repeat (first | refine blk_drewN ?_ _ | refine blk_drew ?_ | refine blk_alloc ?_ _)); refine blk_put (cs := #[.string (⟨#[]⟩ : ByteArray), .string (⟨#[]⟩ : ByteArray), .int .i64 0]) ?_ 0 _ rfl; (with_reducible repeat (first | refine blk_drewN ?_ _ | refine blk_drew ?_ | refine blk_alloc ?_ _)); exact BK343.out) Tryd.underlying31 rfl (by kernel_rfl) rfl (by (with_reducible repeat (first | refine blk_drewN ?_ _ | refine blk_drew ?_ | refine blk_alloc ?_ _)); refine blk_put (cs := #[.string t366, .string (⟨#[]⟩ : ByteArray)]) ?_ 1 _ rfl; (with_reducible repeat (first | refine blk_drewN ?_ _ | refine blk_drew ?_ | refine blk_alloc ?_ _)); refine blk_put (cs := #[.string (⟨#[]⟩ : ByteArray), .string (⟨#[]⟩ : ByteArray)]) ?_ 0 _ rfl; (with_reducible repeat (first | refine blk_drewN ?_ _ | refine blk_drew ?_ | refine blk_alloc ?_ _)); refine blk_far ?_ NB344_343.out _; (with_reducible repeat (first | refine blk_drewN ?_ _ | refine blk_drew ?_ | refine blk_alloc ?_ _)); refine blk_far ?_ NB344_343.out _; (with_reducible repeat (first | refine blk_drewN ?_ _ | refine blk_drew ?_ | refine blk_alloc ?_ _)); refine blk_far ?_ NB344_343.out _; (with_reducible repeat (first | refine blk_drewN ?_ _ | refine blk_drew ?_ | refine blk_alloc ?_ _)); exact BK344.out) Tryd.underlying27 rfl (by kernel_rfl)) rfl ?_
 exact ⟨ZZab01d2, ZZ031ad4⟩
/-! ### spec_IsValidRecord: function 38 -/
def spec_IsValidRecord.f (k : Nat) (a0_0 : ByteArray) (a0_1 : ByteArray) : Option (Bool) := (spec_l27Good.f k a0_0 a0_1).bind fun t371 => (some t371)
theorem spec_IsValidRecord.mono : ∀ a0 a1 k, LeO (spec_IsValidRecord.f k a0 a1) (spec_IsValidRecord.f (k + 1) a0 a1) := by
 intro a0 a1 k
 unfold spec_IsValidRecord.f
 repeat' first
  | (with_reducible exact spec_l27Good.mono _ _ _)
  | (with_reducible exact LeO.refl _)
  | (with_reducible exact LeO.none _)
  | (with_reducible refine LeO.ite ?_ ?_)
  | (with_reducible refine LeO.bind ?_ (fun _ => ?_))
  | exact spec_l27Good.mono _ _ _
  | exact LeO.none _
  | refine LeO.ite ?_ ?_
  | refine LeO.bind ?_ (fun _ => ?_)
set_option maxHeartbeats 8000000 in
set_option maxRecDepth 100000 in
theorem spec_IsValidRecord.calls (k : Nat) (a0_0 : ByteArray) (a0_1 : ByteArray) (r : Bool) (w : World) (h : spec_IsValidRecord.f k a0_0 a0_1 = some r) :
 Calls Tryd.prog 38 #[.agg #[.string a0_0, .string a0_1]] w fun e w' => e = .returned (.bool r) ∧ Below w.heap.size w w' := by
 have hu27 := Tryd.underlying27
 have HB := Aside0.mk (Below.refl w.heap.size w)
 have H := h
 clear h
 unfold spec_IsValidRecord.f at H
 obtain ⟨t371, A2, H⟩ := bdY H
 obtain rfl := Option.some.inj H
 go_enter Tryd.func38, Tryd.ntmps38
 go_wp2_with (first | ((with_reducible refine gate_dst (N := 1) rfl ?_); refine box_event ?hg (N := 1) ?hd (cs := #[.string a0_0, .string a0_1]) (t := 27) ?hr ?_; (case hd => rfl); (case hg => rfl); (case hr => first | (go_simp; done) | (go_simp; rfl)); intro gb370 hg w3 hbox hb; have BK370 := Aside0.mk (hbox); have GW370 := Aside0.mk ((by rw [hg]; exact (below_size ZZ605003) : w.heap.size ≤ gb370)); have GE370 := Aside0.mk ((by rw [hg]; exact (below_size ZZ605003) : w.heap.size ≤ gb370)); replace HB := Aside0.mk (below_step ZZ605003 hb); clear hb hbox hg; have hcz4_0 : w3.cell? ⟨gb370, 0, none⟩ = some (.string a0_0) := (blk_cell BK370.out 0).trans rfl; have hcz4_1 : w3.cell? ⟨gb370, 1, none⟩ = some (.string a0_1) := (blk_cell BK370.out 1).trans rfl; have hfz4_0 := blk_frozen BK370.out 0; have hfz4_1 := blk_frozen BK370.out 1) | ((with_reducible refine gate_callee (f := 43) rfl ?_); refine goesL_ (some 4) rfl rfl Tryd.func43 (by kernel_rfl) rfl #[.agg #[.string a0_0, .string a0_1]] rfl ZZ19826e ?_; (with_reducible refine (spec_l27Good.calls k a0_0 a0_1 t371 _ A2.out).mono ?_); rintro e w5 ⟨rfl, hb⟩; refine ⟨_, rfl, ?_⟩; replace BK370 := Aside0.mk (blk_below (zB BK370) hb); replace HB := Aside0.mk (below_step ZZ295621 hb); (try clear hb); (try clear hb2); (try clear hk); (try clear hi)))
 go_ret
 exact ⟨ZZab01d2, ZZ295621⟩
end Go.Proofs.YtmhmeifdnleoaaaDoor.XFnLog

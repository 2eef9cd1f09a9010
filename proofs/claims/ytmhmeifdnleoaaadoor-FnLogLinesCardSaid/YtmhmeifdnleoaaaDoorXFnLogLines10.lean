-- Printed by wip/tools/xprint.py, a program of this session, over the kit's print; Lean checks it.
import Derived.Test.YtmhmeifdnleoaaaDoorXFnLogLines2
import Derived.Test.YtmhmeifdnleoaaaDoorXFnLogLines0
import Derived.Test.YtmhmeifdnleoaaaDoorXFnLogLines1
import Derived.Test.YtmhmeifdnleoaaaDoorXFnLogLines3
import Derived.Test.YtmhmeifdnleoaaaDoorXFnLogLines4
import Derived.Test.YtmhmeifdnleoaaaDoorXFnLogLines6
import Derived.Test.YtmhmeifdnleoaaaDoorXFnLogLines7
import Derived.Test.YtmhmeifdnleoaaaDoorXFnLogLines9
namespace Go.Proofs.YtmhmeifdnleoaaaDoor.XFnLogLines
open Go.Proofs.YtmhmeifdnleoaaaDoor.Short Go.RowKit Go.Proofs.YtmhmeifdnleoaaaDoorW.PrintWords Go.Proofs.YtmhmeifdnleoaaaDoorW.PrintLast Go.Proofs.YtmhmeifdnleoaaaDoorW.PrintMore
attribute [local go_sem] max2_int min2_int max_two min_two max_three min_three max_four min_four   -- for this text's walks alone
set_option linter.unusedVariables false
set_option linter.unusedSimpArgs false
theorem ZZ2d32c7 {p : Prop} (h : p := by repeat (first | (with_reducible first | exact HB.out | apply below_alloc | apply pw_below_drewN | apply below_drew1 | refine below_set ?_ GE383.out) | exact HB.out)) : p := h
theorem ZZ09b804 {p : Prop} (h : p := by (with_reducible repeat (first | refine blk_drewN ?_ _ | refine blk_drew ?_ | refine blk_alloc ?_ _)); exact BK383.out) : p := h
theorem ZZ8dc191 {p : Prop} (h : p := by repeat (first | (with_reducible first | exact HB.out | apply below_alloc | apply pw_below_drewN | apply below_drew1 | refine below_set ?_ GE383.out | refine below_set ?_ GE394.out) | exact HB.out)) : p := h
theorem ZZ6aba7e {p : Prop} (h : p := by (with_reducible repeat (first | refine blk_drewN ?_ _ | refine blk_drew ?_ | refine blk_alloc ?_ _)); exact BK394.out) : p := h
theorem ZZ9c98f7 {p : Prop} (h : p := by repeat (first | (with_reducible first | exact HB.out | apply below_alloc | apply pw_below_drewN | apply below_drew1 | refine below_set ?_ GE383.out | refine below_set ?_ GE394.out | refine below_set ?_ GE400.out) | exact HB.out)) : p := h
theorem ZZ8e4877 {p : Prop} (h : p := by (with_reducible repeat (first | refine blk_drewN ?_ _ | refine blk_drew ?_ | refine blk_alloc ?_ _)); exact BK400.out) : p := h
theorem ZZ936f62 {p : Prop} (h : p := by repeat (first | (with_reducible first | exact HB.out | apply below_alloc | apply pw_below_drewN | apply below_drew1 | refine below_set ?_ GE383.out | refine below_set ?_ GE394.out | refine below_set ?_ GE400.out | refine below_set ?_ GE406.out) | exact HB.out)) : p := h
theorem ZZ4f25c3 {p : Prop} (h : p := by (with_reducible repeat (first | refine blk_drewN ?_ _ | refine blk_drew ?_ | refine blk_alloc ?_ _)); exact BK406.out) : p := h
theorem ZZ5aae01 {p : Prop} (h : p := by repeat (first | (with_reducible first | exact HB.out | apply below_alloc | apply pw_below_drewN | apply below_drew1 | refine below_set ?_ GE383.out | refine below_set ?_ GE394.out | refine below_set ?_ GE400.out | refine below_set ?_ GE406.out | refine below_set ?_ GE411.out) | exact HB.out)) : p := h
theorem ZZ41d5cc {p : Prop} (h : p := by (with_reducible repeat (first | refine blk_drewN ?_ _ | refine blk_drew ?_ | refine blk_alloc ?_ _)); refine blk_far ?_ NB383_411.out _; (with_reducible repeat (first | refine blk_drewN ?_ _ | refine blk_drew ?_ | refine blk_alloc ?_ _)); refine blk_far ?_ NB383_411.out _; (with_reducible repeat (first | refine blk_drewN ?_ _ | refine blk_drew ?_ | refine blk_alloc ?_ _)); refine blk_far ?_ NB383_411.out _; (with_reducible repeat (first | refine blk_drewN ?_ _ | refine blk_drew ?_ | refine blk_alloc ?_ _)); exact BK383.out) : p := h
theorem ZZdca884 {p : Prop} (h : p := by (with_reducible repeat (first | refine blk_drewN ?_ _ | refine blk_drew ?_ | refine blk_alloc ?_ _)); refine blk_far ?_ NB394_411.out _; (with_reducible repeat (first | refine blk_drewN ?_ _ | refine blk_drew ?_ | refine blk_alloc ?_ _)); refine blk_far ?_ NB394_411.out _; (with_reducible repeat (first | refine blk_drewN ?_ _ | refine blk_drew ?_ | refine blk_alloc ?_ _)); refine blk_far ?_ NB394_411.out _; (with_reducible repeat (first | refine blk_drewN ?_ _ | refine blk_drew ?_ | refine blk_alloc ?_ _)); exact BK394.out) : p := h
theorem ZZ1077b4 {p : Prop} (h : p := by (with_reducible repeat (first | refine blk_drewN ?_ _ | refine blk_drew ?_ | refine blk_alloc ?_ _)); refine blk_far ?_ NB400_411.out _; (with_reducible repeat (first | refine blk_drewN ?_ _ | refine blk_drew ?_ | refine blk_alloc ?_ _)); refine blk_far ?_ NB400_411.out _; (with_reducible repeat (first | refine blk_drewN ?_ _ | refine blk_drew ?_ | refine blk_alloc ?_ _)); refine blk_far ?_ NB400_411.out _; (with_reducible repeat (first | refine blk_drewN ?_ _ | refine blk_drew ?_ | refine blk_alloc ?_ _)); exact BK400.out) : p := h
theorem ZZ3df1f1 {p : Prop} (h : p := by (with_reducible repeat (first | refine blk_drewN ?_ _ | refine blk_drew ?_ | refine blk_alloc ?_ _)); refine blk_far ?_ NB406_411.out _; (with_reducible repeat (first | refine blk_drewN ?_ _ | refine blk_drew ?_ | refine blk_alloc ?_ _)); refine blk_far ?_ NB406_411.out _; (with_reducible repeat (first | refine blk_drewN ?_ _ | refine blk_drew ?_ | refine blk_alloc ?_ _)); refine blk_far ?_ NB406_411.out _; (with_reducible repeat (first | refine blk_drewN ?_ _ | refine blk_drew ?_ | refine blk_alloc ?_ _)); exact BK406.out) : p := h
theorem ZZb42226 {p : Prop} (h : p := by (with_reducible repeat (first | refine blk_drewN ?_ _ | refine blk_drew ?_ | refine blk_alloc ?_ _)); refine blk_put (cs := #[.string t407, .string t408, .int .i64 0]) ?_ 2 _ rfl; (with_reducible repeat (first | refine blk_drewN ?_ _ | refine blk_drew ?_ | refine blk_alloc ?_ _)); refine blk_put (cs := #[.string t407, .string (⟨#[]⟩ : ByteArray), .int .i64 0]) ?_ 1 _ rfl; (with_reducible repeat (first | refine blk_drewN ?_ _ | refine blk_drew ?_ | refine blk_alloc ?_ _)); refine blk_put (cs := #[.string (⟨#[]⟩ : ByteArray), .string (⟨#[]⟩ : ByteArray), .int .i64 0]) ?_ 0 _ rfl; (with_reducible repeat (first | refine blk_drewN ?_ _ | refine blk_drew ?_ | refine blk_alloc ?_ _)); exact BK411.out) : p := h
attribute [local go_sem high] eqA31
/-! ### laws_FnLogLines: function 11 -/
mutual
def laws_FnLogLines.j0 : Nat → Int → ByteArray → Bool → Bool → Bool → ByteArray → ByteArray → Int → Option (Bool)
 | 0, _, _, _, _, _, _, _, _ => none
 | k + 1, x3, x5, x6, x12, x76, x395000, x395001, x395002 => if x76 = true then (some false) else ((impl_RecoverLog.f k x5).bind fun bt401 => (if x6 = true then (if ((decide (bt401.2.2.2.1 > 0)) != (x3 == 0)) = true then (laws_FnLogLines.j1 k x5 x6 x12 true x395000 x395001 x395002) else (if x3 = 0 then (laws_FnLogLines.j1 k x5 x6 x12 (bt401.2.2.1 != 1) x395000 x395001 x395002) else (laws_FnLogLines.j1 k x5 x6 x12 false x395000 x395001 x395002))) else (laws_FnLogLines.j1 k x5 x6 x12 false x395000 x395001 x395002)))
def laws_FnLogLines.j1 : Nat → ByteArray → Bool → Bool → Bool → ByteArray → ByteArray → Int → Option (Bool)
 | 0, _, _, _, _, _, _, _ => none
 | k + 1, x5, x6, x12, x102, x395000, x395001, x395002 => if x102 = true then (some false) else ((impl_SyncLog.f k x395000 x395001 x395002).bind fun bt407 => (if x12 = true then (if bt407.2.2.2 = true then (if (bt407.1.toList == x395000.toList && (bt407.2.1.toList == x395001.toList && (bt407.2.2.1 == x395002))) = true then ((impl_IsValidLog.f k x395000 x395001 x395002).bind fun t412 => (if t412 = true then (if x6 = true then (some true) else (some (x5.toList == ([] : List UInt8)))) else (some false))) else (some false)) else (some false)) else (some true)))
end
def laws_FnLogLines.f (k : Nat) (l0 : List Int) : Option (Bool) := (laws_vBig.f l0).bind fun t379 => (if t379 = true then (some true) else ((spec_DrawEncodeRecord.f l0).bind fun bt380 => ((impl_EncodeRecord.f k bt380.1 bt380.2.1 bt380.2.2).bind fun bt384 => ((spec_EncodeRecord.f k bt380.1 bt380.2.1 bt380.2.2).bind fun bt386 => ((spec_DrawRecoverLog.f k l0).bind fun t388 => ((impl_RecoverLog.f k t388).bind fun bt389 => ((spec_RecoverLog.f k t388).bind fun bt395 => (if bt384.1.toList = bt386.1.toList then (if (bt384.2 != bt386.2) = true then (laws_FnLogLines.j0 k bt380.1 bt384.1 bt384.2 bt389.2.2.2.2 true bt389.1 bt389.2.1 bt389.2.2.1) else (if (!(bt389.1.toList == bt395.1.toList) || (!(bt389.2.1.toList == bt395.2.1.toList) || (!(bt389.2.2.1 == bt395.2.2.1)))) = true then (laws_FnLogLines.j0 k bt380.1 bt384.1 bt384.2 bt389.2.2.2.2 true bt389.1 bt389.2.1 bt389.2.2.1) else (if bt389.2.2.2.1 = bt395.2.2.2.1 then (laws_FnLogLines.j0 k bt380.1 bt384.1 bt384.2 bt389.2.2.2.2 (bt389.2.2.2.2 != bt395.2.2.2.2) bt389.1 bt389.2.1 bt389.2.2.1) else (laws_FnLogLines.j0 k bt380.1 bt384.1 bt384.2 bt389.2.2.2.2 true bt389.1 bt389.2.1 bt389.2.2.1)))) else (laws_FnLogLines.j0 k bt380.1 bt384.1 bt384.2 bt389.2.2.2.2 true bt389.1 bt389.2.1 bt389.2.2.1)))))))))
theorem laws_FnLogLines.mono_l : ∀ k, (∀ y0 y1 y2 y3 y4 y5 y6 y7, LeO (laws_FnLogLines.j0 k y0 y1 y2 y3 y4 y5 y6 y7) (laws_FnLogLines.j0 (k + 1) y0 y1 y2 y3 y4 y5 y6 y7)) ∧ (∀ y0 y1 y2 y3 y4 y5 y6, LeO (laws_FnLogLines.j1 k y0 y1 y2 y3 y4 y5 y6) (laws_FnLogLines.j1 (k + 1) y0 y1 y2 y3 y4 y5 y6))
 | 0 => ⟨fun _ _ _ _ _ _ _ _ r h => by simp [laws_FnLogLines.j0] at h, fun _ _ _ _ _ _ _ r h => by simp [laws_FnLogLines.j1] at h⟩
 | k + 1 => by
  obtain ⟨ih0, ih1⟩ := laws_FnLogLines.mono_l k
  refine ⟨?_, ?_⟩
  ·intro y0 y1 y2 y3 y4 y5 y6 y7
   unfold laws_FnLogLines.j0
   repeat' first
   | (with_reducible exact ih0 _ _ _ _ _ _ _ _)
   | (with_reducible exact ih1 _ _ _ _ _ _ _)
   | (with_reducible exact impl_EncodeRecord.mono _ _ _ _)
   | (with_reducible exact impl_IsValidLog.mono _ _ _ _)
   | (with_reducible exact impl_RecoverLog.mono _ _)
   | (with_reducible exact impl_SyncLog.mono _ _ _ _)
   | (with_reducible exact spec_DrawRecoverLog.mono _ _)
   | (with_reducible exact spec_EncodeRecord.mono _ _ _ _)
   | (with_reducible exact spec_RecoverLog.mono _ _)
   | (with_reducible exact LeO.refl _)
   | (with_reducible exact LeO.none _)
   | (with_reducible refine LeO.ite ?_ ?_)
   | (with_reducible refine LeO.bind ?_ (fun _ => ?_))
   | exact ih0 _ _ _ _ _ _ _ _
   | exact ih1 _ _ _ _ _ _ _
   | exact impl_EncodeRecord.mono _ _ _ _
   | exact impl_IsValidLog.mono _ _ _ _
   | exact impl_RecoverLog.mono _ _
   | exact impl_SyncLog.mono _ _ _ _
   | exact spec_DrawRecoverLog.mono _ _
   | exact spec_EncodeRecord.mono _ _ _ _
   | exact spec_RecoverLog.mono _ _
   | exact LeO.none _
   | refine LeO.ite ?_ ?_
   | refine LeO.bind ?_ (fun _ => ?_)
  ·intro y0 y1 y2 y3 y4 y5 y6
   unfold laws_FnLogLines.j1
   repeat' first
   | (with_reducible exact ih0 _ _ _ _ _ _ _ _)
   | (with_reducible exact ih1 _ _ _ _ _ _ _)
   | (with_reducible exact impl_EncodeRecord.mono _ _ _ _)
   | (with_reducible exact impl_IsValidLog.mono _ _ _ _)
   | (with_reducible exact impl_RecoverLog.mono _ _)
   | (with_reducible exact impl_SyncLog.mono _ _ _ _)
   | (with_reducible exact spec_DrawRecoverLog.mono _ _)
   | (with_reducible exact spec_EncodeRecord.mono _ _ _ _)
   | (with_reducible exact spec_RecoverLog.mono _ _)
   | (with_reducible exact LeO.refl _)
   | (with_reducible exact LeO.none _)
   | (with_reducible refine LeO.ite ?_ ?_)
   | (with_reducible refine LeO.bind ?_ (fun _ => ?_))
   | exact ih0 _ _ _ _ _ _ _ _
   | exact ih1 _ _ _ _ _ _ _
   | exact impl_EncodeRecord.mono _ _ _ _
   | exact impl_IsValidLog.mono _ _ _ _
   | exact impl_RecoverLog.mono _ _
   | exact impl_SyncLog.mono _ _ _ _
   | exact spec_DrawRecoverLog.mono _ _
   | exact spec_EncodeRecord.mono _ _ _ _
   | exact spec_RecoverLog.mono _ _
   | exact LeO.none _
   | refine LeO.ite ?_ ?_
   | refine LeO.bind ?_ (fun _ => ?_)
theorem laws_FnLogLines.mono : ∀ a0 k, LeO (laws_FnLogLines.f k a0) (laws_FnLogLines.f (k + 1) a0) := by
 intro a0 k
 obtain ⟨ih0, ih1⟩ := laws_FnLogLines.mono_l k
 unfold laws_FnLogLines.f
 repeat' first
  | (with_reducible exact ih0 _ _ _ _ _ _ _ _)
  | (with_reducible exact ih1 _ _ _ _ _ _ _)
  | (with_reducible exact impl_EncodeRecord.mono _ _ _ _)
  | (with_reducible exact impl_IsValidLog.mono _ _ _ _)
  | (with_reducible exact impl_RecoverLog.mono _ _)
  | (with_reducible exact impl_SyncLog.mono _ _ _ _)
  | (with_reducible exact spec_DrawRecoverLog.mono _ _)
  | (with_reducible exact spec_EncodeRecord.mono _ _ _ _)
  | (with_reducible exact spec_RecoverLog.mono _ _)
  | (with_reducible exact LeO.refl _)
  | (with_reducible exact LeO.none _)
  | (with_reducible refine LeO.ite ?_ ?_)
  | (with_reducible refine LeO.bind ?_ (fun _ => ?_))
  | exact ih0 _ _ _ _ _ _ _ _
  | exact ih1 _ _ _ _ _ _ _
  | exact impl_EncodeRecord.mono _ _ _ _
  | exact impl_IsValidLog.mono _ _ _ _
  | exact impl_RecoverLog.mono _ _
  | exact impl_SyncLog.mono _ _ _ _
  | exact spec_DrawRecoverLog.mono _ _
  | exact spec_EncodeRecord.mono _ _ _ _
  | exact spec_RecoverLog.mono _ _
  | exact LeO.none _
  | refine LeO.ite ?_ ?_
  | refine LeO.bind ?_ (fun _ => ?_)
set_option maxHeartbeats 8000000 in
set_option maxRecDepth 100000 in
theorem laws_FnLogLines.calls (k : Nat) (A0 : Option Addr) (c0 : Nat) (l0 : List Int) (r : Bool) (w : World) (hr0 : Kd.C (Kd.int .u8) w A0 l0.length l0) (hc0 : l0.length ≤ c0) (hV : TInv w) (h : laws_FnLogLines.f k l0 = some r) :
 Calls Tryd.prog 11 #[.slice A0 l0.length c0] w fun e w' => e = .returned (.bool r) ∧ Below w.heap.size w w' := by
 have hu27 := Tryd.underlying27
 have hu31 := Tryd.underlying31
 have HV := Aside0.mk hV
 clear hV
 have HR0 := Aside0.mk hr0
 have HC0 := Aside0.mk hc0
 clear hr0 hc0
 have HB := Aside0.mk (Below.refl w.heap.size w)
 have H : ((laws_vBig.f l0).bind fun t379 => (if t379 = true then (some true) else ((spec_DrawEncodeRecord.f l0).bind fun bt380 => ((impl_EncodeRecord.f k bt380.1 bt380.2.1 bt380.2.2).bind fun bt384 => ((spec_EncodeRecord.f k bt380.1 bt380.2.1 bt380.2.2).bind fun bt386 => ((spec_DrawRecoverLog.f k l0).bind fun t388 => ((impl_RecoverLog.f k t388).bind fun bt389 => ((spec_RecoverLog.f k t388).bind fun bt395 => (if bt384.1.toList = bt386.1.toList then (if (bt384.2 != bt386.2) = true then (laws_FnLogLines.j0 k bt380.1 bt384.1 bt384.2 bt389.2.2.2.2 true bt389.1 bt389.2.1 bt389.2.2.1) else (if (!(bt389.1.toList == bt395.1.toList) || (!(bt389.2.1.toList == bt395.2.1.toList) || (!(bt389.2.2.1 == bt395.2.2.1)))) = true then (laws_FnLogLines.j0 k bt380.1 bt384.1 bt384.2 bt389.2.2.2.2 true bt389.1 bt389.2.1 bt389.2.2.1) else (if bt389.2.2.2.1 = bt395.2.2.2.1 then (laws_FnLogLines.j0 k bt380.1 bt384.1 bt384.2 bt389.2.2.2.2 (bt389.2.2.2.2 != bt395.2.2.2.2) bt389.1 bt389.2.1 bt389.2.2.1) else (laws_FnLogLines.j0 k bt380.1 bt384.1 bt384.2 bt389.2.2.2.2 true bt389.1 bt389.2.1 bt389.2.2.1)))) else (laws_FnLogLines.j0 k bt380.1 bt384.1 bt384.2 bt389.2.2.2.2 true bt389.1 bt389.2.1 bt389.2.2.1)))))))))) = some r := h
 clear h
 replace H := Option.bind_eq_some_iff.mp H
 obtain ⟨t379, A20, H⟩ := H
 replace H : (if t379 = true then (some true) else ((spec_DrawEncodeRecord.f l0).bind fun bt380 => ((impl_EncodeRecord.f k bt380.1 bt380.2.1 bt380.2.2).bind fun bt384 => ((spec_EncodeRecord.f k bt380.1 bt380.2.1 bt380.2.2).bind fun bt386 => ((spec_DrawRecoverLog.f k l0).bind fun t388 => ((impl_RecoverLog.f k t388).bind fun bt389 => ((spec_RecoverLog.f k t388).bind fun bt395 => (if bt384.1.toList = bt386.1.toList then (if (bt384.2 != bt386.2) = true then (laws_FnLogLines.j0 k bt380.1 bt384.1 bt384.2 bt389.2.2.2.2 true bt389.1 bt389.2.1 bt389.2.2.1) else (if (!(bt389.1.toList == bt395.1.toList) || (!(bt389.2.1.toList == bt395.2.1.toList) || (!(bt389.2.2.1 == bt395.2.2.1)))) = true then (laws_FnLogLines.j0 k bt380.1 bt384.1 bt384.2 bt389.2.2.2.2 true bt389.1 bt389.2.1 bt389.2.2.1) else (if bt389.2.2.2.1 = bt395.2.2.2.1 then (laws_FnLogLines.j0 k bt380.1 bt384.1 bt384.2 bt389.2.2.2.2 (bt389.2.2.2.2 != bt395.2.2.2.2) bt389.1 bt389.2.1 bt389.2.2.1) else (laws_FnLogLines.j0 k bt380.1 bt384.1 bt384.2 bt389.2.2.2.2 true bt389.1 bt389.2.1 bt389.2.2.1)))) else (laws_FnLogLines.j0 k bt380.1 bt384.1 bt384.2 bt389.2.2.2.2 true bt389.1 bt389.2.1 bt389.2.2.1))))))))) = some r := H
 have A2 := Aside0.mk A20
 clear A20
 by_cases c3 : t379 = true
 ·subst c3
  have H1 : (some true) = some r := by rw [if_pos rfl] at H; exact H
  clear H
  have H := H1
  clear H1
  obtain rfl := Option.some.inj H
  go_enter Tryd.func11, Tryd.ntmps11
  go_wp2_with (first | ((with_reducible refine gate_callee (f := 35) rfl ?_); refine goesL_ (some 22) rfl rfl Tryd.func35 (by kernel_rfl) rfl #[.slice A0 l0.length c0] rfl ZZ19826e ?_; (with_reducible refine (laws_vBig.calls _ _ l0 true _ ?side1 ?side2 A2.out).mono ?_); (case side1 => repeat (first | exact HR0.out | (with_reducible refine Kd.C_alloc ?_ _) | (with_reducible refine Kd.C_drewN ?_ _) | (with_reducible refine Kd.C_drew ?_))); (case side2 => exact HC0.out); rintro e w' ⟨rfl, ⟨nd, rfl⟩⟩; refine ⟨_, rfl, ?_⟩))
  go_ret
  exact ⟨by first | rfl | (simp [errW_none, errW_some] <;> rfl) | (simp [*, errW_none, errW_some] <;> rfl), by repeat (first | (with_reducible first | exact HB.out | apply below_alloc | apply pw_below_drewN | apply below_drew1) | exact HB.out)⟩
 ·replace c3 := Bool.eq_false_iff.mpr c3
  subst c3
  have H1 : ((spec_DrawEncodeRecord.f l0).bind fun bt380 => ((impl_EncodeRecord.f k bt380.1 bt380.2.1 bt380.2.2).bind fun bt384 => ((spec_EncodeRecord.f k bt380.1 bt380.2.1 bt380.2.2).bind fun bt386 => ((spec_DrawRecoverLog.f k l0).bind fun t388 => ((impl_RecoverLog.f k t388).bind fun bt389 => ((spec_RecoverLog.f k t388).bind fun bt395 => (if bt384.1.toList = bt386.1.toList then (if (bt384.2 != bt386.2) = true then (laws_FnLogLines.j0 k bt380.1 bt384.1 bt384.2 bt389.2.2.2.2 true bt389.1 bt389.2.1 bt389.2.2.1) else (if (!(bt389.1.toList == bt395.1.toList) || (!(bt389.2.1.toList == bt395.2.1.toList) || (!(bt389.2.2.1 == bt395.2.2.1)))) = true then (laws_FnLogLines.j0 k bt380.1 bt384.1 bt384.2 bt389.2.2.2.2 true bt389.1 bt389.2.1 bt389.2.2.1) else (if bt389.2.2.2.1 = bt395.2.2.2.1 then (laws_FnLogLines.j0 k bt380.1 bt384.1 bt384.2 bt389.2.2.2.2 (bt389.2.2.2.2 != bt395.2.2.2.2) bt389.1 bt389.2.1 bt389.2.2.1) else (laws_FnLogLines.j0 k bt380.1 bt384.1 bt384.2 bt389.2.2.2.2 true bt389.1 bt389.2.1 bt389.2.2.1)))) else (laws_FnLogLines.j0 k bt380.1 bt384.1 bt384.2 bt389.2.2.2.2 true bt389.1 bt389.2.1 bt389.2.2.1)))))))) = some r := by rw [if_neg (show ¬ (false = true) by decide)] at H; exact H
  clear H
  have H := H1
  clear H1
  replace H := Option.bind_eq_some_iff.mp H
  obtain ⟨⟨t380, t381, t382⟩, A40, H⟩ := H
  replace H : ((impl_EncodeRecord.f k t380 t381 t382).bind fun bt384 => ((spec_EncodeRecord.f k t380 t381 t382).bind fun bt386 => ((spec_DrawRecoverLog.f k l0).bind fun t388 => ((impl_RecoverLog.f k t388).bind fun bt389 => ((spec_RecoverLog.f k t388).bind fun bt395 => (if bt384.1.toList = bt386.1.toList then (if (bt384.2 != bt386.2) = true then (laws_FnLogLines.j0 k t380 bt384.1 bt384.2 bt389.2.2.2.2 true bt389.1 bt389.2.1 bt389.2.2.1) else (if (!(bt389.1.toList == bt395.1.toList) || (!(bt389.2.1.toList == bt395.2.1.toList) || (!(bt389.2.2.1 == bt395.2.2.1)))) = true then (laws_FnLogLines.j0 k t380 bt384.1 bt384.2 bt389.2.2.2.2 true bt389.1 bt389.2.1 bt389.2.2.1) else (if bt389.2.2.2.1 = bt395.2.2.2.1 then (laws_FnLogLines.j0 k t380 bt384.1 bt384.2 bt389.2.2.2.2 (bt389.2.2.2.2 != bt395.2.2.2.2) bt389.1 bt389.2.1 bt389.2.2.1) else (laws_FnLogLines.j0 k t380 bt384.1 bt384.2 bt389.2.2.2.2 true bt389.1 bt389.2.1 bt389.2.2.1)))) else (laws_FnLogLines.j0 k t380 bt384.1 bt384.2 bt389.2.2.2.2 true bt389.1 bt389.2.1 bt389.2.2.1))))))) = some r := H
  have A4 := Aside0.mk A40
  clear A40
  replace H := Option.bind_eq_some_iff.mp H
  obtain ⟨⟨t384, t385⟩, A50, H⟩ := H
  replace H : ((spec_EncodeRecord.f k t380 t381 t382).bind fun bt386 => ((spec_DrawRecoverLog.f k l0).bind fun t388 => ((impl_RecoverLog.f k t388).bind fun bt389 => ((spec_RecoverLog.f k t388).bind fun bt395 => (if t384.toList = bt386.1.toList then (if (t385 != bt386.2) = true then (laws_FnLogLines.j0 k t380 t384 t385 bt389.2.2.2.2 true bt389.1 bt389.2.1 bt389.2.2.1) else (if (!(bt389.1.toList == bt395.1.toList) || (!(bt389.2.1.toList == bt395.2.1.toList) || (!(bt389.2.2.1 == bt395.2.2.1)))) = true then (laws_FnLogLines.j0 k t380 t384 t385 bt389.2.2.2.2 true bt389.1 bt389.2.1 bt389.2.2.1) else (if bt389.2.2.2.1 = bt395.2.2.2.1 then (laws_FnLogLines.j0 k t380 t384 t385 bt389.2.2.2.2 (bt389.2.2.2.2 != bt395.2.2.2.2) bt389.1 bt389.2.1 bt389.2.2.1) else (laws_FnLogLines.j0 k t380 t384 t385 bt389.2.2.2.2 true bt389.1 bt389.2.1 bt389.2.2.1)))) else (laws_FnLogLines.j0 k t380 t384 t385 bt389.2.2.2.2 true bt389.1 bt389.2.1 bt389.2.2.1)))))) = some r := H
  have A5 := Aside0.mk A50
  clear A50
  replace H := Option.bind_eq_some_iff.mp H
  obtain ⟨⟨t386, t387⟩, A60, H⟩ := H
  replace H : ((spec_DrawRecoverLog.f k l0).bind fun t388 => ((impl_RecoverLog.f k t388).bind fun bt389 => ((spec_RecoverLog.f k t388).bind fun bt395 => (if t384.toList = t386.toList then (if (t385 != t387) = true then (laws_FnLogLines.j0 k t380 t384 t385 bt389.2.2.2.2 true bt389.1 bt389.2.1 bt389.2.2.1) else (if (!(bt389.1.toList == bt395.1.toList) || (!(bt389.2.1.toList == bt395.2.1.toList) || (!(bt389.2.2.1 == bt395.2.2.1)))) = true then (laws_FnLogLines.j0 k t380 t384 t385 bt389.2.2.2.2 true bt389.1 bt389.2.1 bt389.2.2.1) else (if bt389.2.2.2.1 = bt395.2.2.2.1 then (laws_FnLogLines.j0 k t380 t384 t385 bt389.2.2.2.2 (bt389.2.2.2.2 != bt395.2.2.2.2) bt389.1 bt389.2.1 bt389.2.2.1) else (laws_FnLogLines.j0 k t380 t384 t385 bt389.2.2.2.2 true bt389.1 bt389.2.1 bt389.2.2.1)))) else (laws_FnLogLines.j0 k t380 t384 t385 bt389.2.2.2.2 true bt389.1 bt389.2.1 bt389.2.2.1))))) = some r := H
  have A6 := Aside0.mk A60
  clear A60
  replace H := Option.bind_eq_some_iff.mp H
  obtain ⟨t388, A70, H⟩ := H
  replace H : ((impl_RecoverLog.f k t388).bind fun bt389 => ((spec_RecoverLog.f k t388).bind fun bt395 => (if t384.toList = t386.toList then (if (t385 != t387) = true then (laws_FnLogLines.j0 k t380 t384 t385 bt389.2.2.2.2 true bt389.1 bt389.2.1 bt389.2.2.1) else (if (!(bt389.1.toList == bt395.1.toList) || (!(bt389.2.1.toList == bt395.2.1.toList) || (!(bt389.2.2.1 == bt395.2.2.1)))) = true then (laws_FnLogLines.j0 k t380 t384 t385 bt389.2.2.2.2 true bt389.1 bt389.2.1 bt389.2.2.1) else (if bt389.2.2.2.1 = bt395.2.2.2.1 then (laws_FnLogLines.j0 k t380 t384 t385 bt389.2.2.2.2 (bt389.2.2.2.2 != bt395.2.2.2.2) bt389.1 bt389.2.1 bt389.2.2.1) else (laws_FnLogLines.j0 k t380 t384 t385 bt389.2.2.2.2 true bt389.1 bt389.2.1 bt389.2.2.1)))) else (laws_FnLogLines.j0 k t380 t384 t385 bt389.2.2.2.2 true bt389.1 bt389.2.1 bt389.2.2.1)))) = some r := H
  have A7 := Aside0.mk A70
  clear A70
  replace H := Option.bind_eq_some_iff.mp H
  obtain ⟨⟨t389, t390, t391, t392, t393⟩, A80, H⟩ := H
  replace H : ((spec_RecoverLog.f k t388).bind fun bt395 => (if t384.toList = t386.toList then (if (t385 != t387) = true then (laws_FnLogLines.j0 k t380 t384 t385 t393 true t389 t390 t391) else (if (!(t389.toList == bt395.1.toList) || (!(t390.toList == bt395.2.1.toList) || (!(t391 == bt395.2.2.1)))) = true then (laws_FnLogLines.j0 k t380 t384 t385 t393 true t389 t390 t391) else (if t392 = bt395.2.2.2.1 then (laws_FnLogLines.j0 k t380 t384 t385 t393 (t393 != bt395.2.2.2.2) t389 t390 t391) else (laws_FnLogLines.j0 k t380 t384 t385 t393 true t389 t390 t391)))) else (laws_FnLogLines.j0 k t380 t384 t385 t393 true t389 t390 t391))) = some r := H
  have A8 := Aside0.mk A80
  clear A80
  replace H := Option.bind_eq_some_iff.mp H
  obtain ⟨⟨t395, t396, t397, t398, t399⟩, A90, H⟩ := H
  replace H : (if t384.toList = t386.toList then (if (t385 != t387) = true then (laws_FnLogLines.j0 k t380 t384 t385 t393 true t389 t390 t391) else (if (!(t389.toList == t395.toList) || (!(t390.toList == t396.toList) || (!(t391 == t397)))) = true then (laws_FnLogLines.j0 k t380 t384 t385 t393 true t389 t390 t391) else (if t392 = t398 then (laws_FnLogLines.j0 k t380 t384 t385 t393 (t393 != t399) t389 t390 t391) else (laws_FnLogLines.j0 k t380 t384 t385 t393 true t389 t390 t391)))) else (laws_FnLogLines.j0 k t380 t384 t385 t393 true t389 t390 t391)) = some r := H
  have A9 := Aside0.mk A90
  clear A90
  have HC10 := Aside0.mk H
  clear H
  go_enter Tryd.func11, Tryd.ntmps11
  go_upto_region 9 with (first | ((with_reducible refine gate_callee (f := 35) rfl ?_); refine goesL_ (some 22) rfl rfl Tryd.func35 (by kernel_rfl) rfl #[.slice A0 l0.length c0] rfl ZZ19826e ?_; (with_reducible refine (laws_vBig.calls _ _ l0 false _ ?side1 ?side2 A2.out).mono ?_); (case side1 => repeat (first | exact HR0.out | (with_reducible refine Kd.C_alloc ?_ _) | (with_reducible refine Kd.C_drewN ?_ _) | (with_reducible refine Kd.C_drew ?_))); (case side2 => exact HC0.out); rintro e w' ⟨rfl, ⟨nd, rfl⟩⟩; refine ⟨_, rfl, ?_⟩) | ((with_reducible refine gate_callee (f := 39) rfl ?_); refine goesL_ (some 25) rfl rfl Tryd.func39 (by kernel_rfl) rfl #[.slice A0 l0.length c0] rfl ZZ19826e ?_; (with_reducible refine (spec_DrawEncodeRecord.calls _ _ l0 t380 t381 t382 _ ?side1 ?side2 A4.out).mono ?_); (case side1 => repeat (first | exact HR0.out | (with_reducible refine Kd.C_alloc ?_ _) | (with_reducible refine Kd.C_drewN ?_ _) | (with_reducible refine Kd.C_drew ?_))); (case side2 => exact HC0.out); rintro e w11 ⟨rfl, hb⟩; refine ⟨_, rfl, ?_⟩; have n0_ := Aside0.mk (below_step ZZ605003 hb); clear HB; have HB := n0_; clear n0_; (try clear hb); (try clear hb2); (try clear hk); (try clear hi)) | ((with_reducible refine gate_dst (N := 4) rfl ?_); refine box_event ?hg (N := 4) ?hd (cs := #[.string (⟨#[]⟩ : ByteArray), .string (⟨#[]⟩ : ByteArray)]) (t := 27) ?hr ?_; (case hd => rfl); (case hg => rfl); (case hr => first | (go_simp; done) | (go_simp; rfl)); intro gb383 hg w12 hbox hb; have n0_ := Aside0.mk (below_step ZZ605003 hb); have n1_ := Aside0.mk (hbox); have n2_ := Aside0.mk ((by rw [hg]; exact (below_size ZZ605003) : w.heap.size ≤ gb383)); have n3_ := Aside0.mk ((by rw [hg]; exact (below_size ZZ605003) : w.heap.size ≤ gb383)); clear HB; have HB := n0_; have BK383 := n1_; have GW383 := n2_; have GE383 := n3_; clear n0_ n1_ n2_ n3_; clear hb hbox hg; have hcz13_0 : w12.cell? ⟨gb383, 0, none⟩ = some (.string (⟨#[]⟩ : ByteArray)) := (blk_cell BK383.out 0).trans rfl; have hcz13_1 : w12.cell? ⟨gb383, 1, none⟩ = some (.string (⟨#[]⟩ : ByteArray)) := (blk_cell BK383.out 1).trans rfl; have hfz13_0 := blk_frozen BK383.out 0; have hfz13_1 := blk_frozen BK383.out 1) | ((with_reducible refine gate_callee (f := 16) rfl ?_); refine goesL_ (some 31) rfl rfl Tryd.func16 (by kernel_rfl) rfl #[.int .i64 t380, .agg #[.string t381, .string t382]] rfl ZZ19826e ?_; (with_reducible refine (impl_EncodeRecord.calls k t380 t381 t382 t384 t385 _ ?side1 A5.out).mono ?_); (case side1 => first | exact HV.out | exact TInv.below HV.out ZZ2d32c7); rintro e w14 ⟨rfl, hb⟩; refine ⟨_, rfl, ?_⟩; have n0_ := Aside0.mk (blk_below (g := gb383) (o := .cells #[.string t381, .string t382] 27 (0, 0)) (by (with_reducible repeat (first | refine blk_drewN ?_ _ | refine blk_drew ?_ | refine blk_alloc ?_ _)); refine blk_put (cs := #[.string t381, .string (⟨#[]⟩ : ByteArray)]) ?_ 1 _ rfl; (with_reducible repeat (first | refine blk_drewN ?_ _ | refine blk_drew ?_ | refine blk_alloc ?_ _)); refine blk_put (cs := #[.string (⟨#[]⟩ : ByteArray), .string (⟨#[]⟩ : ByteArray)]) ?_ 0 _ rfl; (with_reducible repeat (first | refine blk_drewN ?_ _ | refine blk_drew ?_ | refine blk_alloc ?_ _)); exact BK383.out) hb); have n1_ := Aside0.mk (below_step ZZ2d32c7 hb); clear BK383; clear HB; have BK383 := n0_; have HB := n1_; clear n0_ n1_; (try clear hb); (try clear hb2); (try clear hk); (try clear hi); have hcz15_0 : w14.cell? ⟨gb383, 0, none⟩ = some (.string t381) := (blk_cell BK383.out 0).trans rfl; have hcz15_1 : w14.cell? ⟨gb383, 1, none⟩ = some (.string t382) := (blk_cell BK383.out 1).trans rfl; have hfz15_0 := blk_frozen BK383.out 0; have hfz15_1 := blk_frozen BK383.out 1) | ((with_reducible refine gate_callee (f := 14) rfl ?_); refine goesL_ (some 37) rfl rfl Tryd.func14 (by kernel_rfl) rfl #[.int .i64 t380, .agg #[.string t381, .string t382]] rfl ZZ19826e ?_; (with_reducible refine (spec_EncodeRecord.calls k t380 t381 t382 t386 t387 _ A6.out).mono ?_); rintro e w16 ⟨rfl, hb⟩; refine ⟨_, rfl, ?_⟩; have n0_ := Aside0.mk (blk_below (g := gb383) (o := .cells #[.string t381, .string t382] 27 (0, 0)) ZZ09b804 hb); have n1_ := Aside0.mk (below_step ZZ2d32c7 hb); clear BK383; clear HB; have BK383 := n0_; have HB := n1_; clear n0_ n1_; (try clear hb); (try clear hb2); (try clear hk); (try clear hi)) | ((with_reducible refine gate_callee (f := 40) rfl ?_); refine goesL_ (some 41) rfl rfl Tryd.func40 (by kernel_rfl) rfl #[.slice A0 l0.length c0] rfl ZZ19826e ?_; (with_reducible refine (spec_DrawRecoverLog.calls k _ _ l0 t388 _ ?side1 ?side2 A7.out).mono ?_); (case side1 => repeat (first | exact (Kd.C_below HR0.out HB.out) | (with_reducible refine Kd.C_alloc ?_ _) | (with_reducible refine Kd.C_drewN ?_ _) | (with_reducible refine Kd.C_drew ?_))); (case side2 => exact HC0.out); rintro e w17 ⟨rfl, hb⟩; refine ⟨_, rfl, ?_⟩; have n0_ := Aside0.mk (blk_below (g := gb383) (o := .cells #[.string t381, .string t382] 27 (0, 0)) ZZ09b804 hb); have n1_ := Aside0.mk (below_step ZZ2d32c7 hb); clear BK383; clear HB; have BK383 := n0_; have HB := n1_; clear n0_ n1_; (try clear hb); (try clear hb2); (try clear hk); (try clear hi)) | ((with_reducible refine gate_callee (f := 18) rfl ?_); refine goesL_ (some 44) rfl rfl Tryd.func18 (by kernel_rfl) rfl #[.string t388] rfl ZZ19826e ?_; (with_reducible refine (impl_RecoverLog.calls k t388 t389 t390 t391 t392 t393 _ ?side1 A8.out).mono ?_); (case side1 => first | exact HV.out | exact TInv.below HV.out ZZ2d32c7); rintro e w18 ⟨rfl, hb⟩; refine ⟨_, rfl, ?_⟩; have n0_ := Aside0.mk (blk_below (g := gb383) (o := .cells #[.string t381, .string t382] 27 (0, 0)) ZZ09b804 hb); have n1_ := Aside0.mk (below_step ZZ2d32c7 hb); clear BK383; clear HB; have BK383 := n0_; have HB := n1_; clear n0_ n1_; (try clear hb); (try clear hb2); (try clear hk); (try clear hi)) | ((with_reducible refine gate_dst (N := 10) rfl ?_); refine box_event ?hg (N := 10) ?hd (cs := #[.string (⟨#[]⟩ : ByteArray), .string (⟨#[]⟩ : ByteArray), .int .i64 0]) (t := 31) ?hr ?_; (case hd => rfl); (case hg => rfl); (case hr => first | (go_simp; done) | (go_simp; rfl)); intro gb394 hg w19 hbox hb; have n0_ := Aside0.mk (blk_below (g := gb383) (o := .cells #[.string t381, .string t382] 27 (0, 0)) ZZ09b804 hb); have n1_ := Aside0.mk (below_step ZZ2d32c7 hb); have n2_ := Aside0.mk (hbox); have n3_ := Aside0.mk ((by rw [hg]; exact (below_size ZZ2d32c7) : w.heap.size ≤ gb394)); have n4_ := Aside0.mk ((by rw [hg]; exact (below_size ZZ2d32c7) : w.heap.size ≤ gb394)); have n5_ := Aside0.mk ((by rw [hg]; exact Nat.ne_of_lt (blk_lt (g := gb383) (o := .cells #[.string t381, .string t382] 27 (0, 0)) ZZ09b804) : gb383 ≠ gb394)); have n6_ := Aside0.mk ((by rw [hg]; exact Nat.ne_of_gt (blk_lt (g := gb383) (o := .cells #[.string t381, .string t382] 27 (0, 0)) ZZ09b804) : gb394 ≠ gb383)); clear BK383; clear HB; have BK383 := n0_; have HB := n1_; have BK394 := n2_; have GW394 := n3_; have GE394 := n4_; have NB383_394 := n5_; have NB394_383 := n6_; clear n0_ n1_ n2_ n3_ n4_ n5_ n6_; clear hb hbox hg; have hnb20 := NB394_383.out; have hnc20 := NB383_394.out; have hcz21_0 : w19.cell? ⟨gb394, 0, none⟩ = some (.string (⟨#[]⟩ : ByteArray)) := (blk_cell BK394.out 0).trans rfl; have hcz21_1 : w19.cell? ⟨gb394, 1, none⟩ = some (.string (⟨#[]⟩ : ByteArray)) := (blk_cell BK394.out 1).trans rfl; have hcz21_2 : w19.cell? ⟨gb394, 2, none⟩ = some (.int .i64 0) := (blk_cell BK394.out 2).trans rfl; have hfz21_0 := blk_frozen BK394.out 0; have hfz21_1 := blk_frozen BK394.out 1; have hfz21_2 := blk_frozen BK394.out 2) | ((with_reducible refine gate_callee (f := 17) rfl ?_); refine goesL_ (some 50) rfl rfl Tryd.func17 (by kernel_rfl) rfl #[.string t388] rfl ZZ19826e ?_; (with_reducible refine (spec_RecoverLog.calls k t388 t395 t396 t397 t398 t399 _ A9.out).mono ?_); rintro e w22 ⟨rfl, hb⟩; refine ⟨_, rfl, ?_⟩; have n0_ := Aside0.mk (blk_below (g := gb383) (o := .cells #[.string t381, .string t382] 27 (0, 0)) (by (with_reducible repeat (first | refine blk_drewN ?_ _ | refine blk_drew ?_ | refine blk_alloc ?_ _)); refine blk_far ?_ NB383_394.out _; (with_reducible repeat (first | refine blk_drewN ?_ _ | refine blk_drew ?_ | refine blk_alloc ?_ _)); refine blk_far ?_ NB383_394.out _; (with_reducible repeat (first | refine blk_drewN ?_ _ | refine blk_drew ?_ | refine blk_alloc ?_ _)); refine blk_far ?_ NB383_394.out _; (with_reducible repeat (first | refine blk_drewN ?_ _ | refine blk_drew ?_ | refine blk_alloc ?_ _)); exact BK383.out) hb); have n1_ := Aside0.mk (blk_below (g := gb394) (o := .cells #[.string t389, .string t390, .int .i64 t391] 31 (0, 0)) (by (with_reducible repeat (first | refine blk_drewN ?_ _ | refine blk_drew ?_ | refine blk_alloc ?_ _)); refine blk_put (cs := #[.string t389, .string t390, .int .i64 0]) ?_ 2 _ rfl; (with_reducible repeat (first | refine blk_drewN ?_ _ | refine blk_drew ?_ | refine blk_alloc ?_ _)); refine blk_put (cs := #[.string t389, .string (⟨#[]⟩ : ByteArray), .int .i64 0]) ?_ 1 _ rfl; (with_reducible repeat (first | refine blk_drewN ?_ _ | refine blk_drew ?_ | refine blk_alloc ?_ _)); refine blk_put (cs := #[.string (⟨#[]⟩ : ByteArray), .string (⟨#[]⟩ : ByteArray), .int .i64 0]) ?_ 0 _ rfl; (with_reducible repeat (first | refine blk_drewN ?_ _ | refine blk_drew ?_ | refine blk_alloc ?_ _)); exact BK394.out) hb); have n2_ := Aside0.mk (below_step ZZ8dc191 hb); clear BK383; clear BK394; clear HB; have BK383 := n0_; have BK394 := n1_; have HB := n2_; clear n0_ n1_ n2_; (try clear hb); (try clear hb2); (try clear hk); (try clear hi)) | ((with_reducible refine gate_dst (N := 13) rfl ?_); refine box_event ?hg (N := 13) ?hd (cs := #[.string (⟨#[]⟩ : ByteArray), .string (⟨#[]⟩ : ByteArray), .int .i64 0]) (t := 31) ?hr ?_; (case hd => rfl); (case hg => rfl); (case hr => first | (go_simp; done) | (go_simp; rfl)); intro gb400 hg w23 hbox hb; have n0_ := Aside0.mk (blk_below (g := gb383) (o := .cells #[.string t381, .string t382] 27 (0, 0)) ZZ09b804 hb); have n1_ := Aside0.mk (blk_below (g := gb394) (o := .cells #[.string t389, .string t390, .int .i64 t391] 31 (0, 0)) ZZ6aba7e hb); have n2_ := Aside0.mk (below_step ZZ8dc191 hb); have n3_ := Aside0.mk (hbox); have n4_ := Aside0.mk ((by rw [hg]; exact (below_size ZZ8dc191) : w.heap.size ≤ gb400)); have n5_ := Aside0.mk ((by rw [hg]; exact (below_size ZZ8dc191) : w.heap.size ≤ gb400)); have n6_ := Aside0.mk ((by rw [hg]; exact Nat.ne_of_lt (blk_lt (g := gb383) (o := .cells #[.string t381, .string t382] 27 (0, 0)) ZZ09b804) : gb383 ≠ gb400)); have n7_ := Aside0.mk ((by rw [hg]; exact Nat.ne_of_gt (blk_lt (g := gb383) (o := .cells #[.string t381, .string t382] 27 (0, 0)) ZZ09b804) : gb400 ≠ gb383)); have n8_ := Aside0.mk ((by rw [hg]; exact Nat.ne_of_lt (blk_lt (g := gb394) (o := .cells #[.string t389, .string t390, .int .i64 t391] 31 (0, 0)) ZZ6aba7e) : gb394 ≠ gb400)); have n9_ := Aside0.mk ((by rw [hg]; exact Nat.ne_of_gt (blk_lt (g := gb394) (o := .cells #[.string t389, .string t390, .int .i64 t391] 31 (0, 0)) ZZ6aba7e) : gb400 ≠ gb394)); clear BK383; clear BK394; clear HB; have BK383 := n0_; have BK394 := n1_; have HB := n2_; have BK400 := n3_; have GW400 := n4_; have GE400 := n5_; have NB383_400 := n6_; have NB400_383 := n7_; have NB394_400 := n8_; have NB400_394 := n9_; clear n0_ n1_ n2_ n3_ n4_ n5_ n6_ n7_ n8_ n9_; clear hb hbox hg; have hnb24 := NB400_383.out; have hnc24 := NB383_400.out; have hnb25 := NB400_394.out; have hnc25 := NB394_400.out; have hcz26_0 : w23.cell? ⟨gb400, 0, none⟩ = some (.string (⟨#[]⟩ : ByteArray)) := (blk_cell BK400.out 0).trans rfl; have hcz26_1 : w23.cell? ⟨gb400, 1, none⟩ = some (.string (⟨#[]⟩ : ByteArray)) := (blk_cell BK400.out 1).trans rfl; have hcz26_2 : w23.cell? ⟨gb400, 2, none⟩ = some (.int .i64 0) := (blk_cell BK400.out 2).trans rfl; have hfz26_0 := blk_frozen BK400.out 0; have hfz26_1 := blk_frozen BK400.out 1; have hfz26_2 := blk_frozen BK400.out 2))
  (try simp only [Act.put, List.setIfInBounds_toArray, List.set_cons_zero, List.set_cons_succ])
  go_cut [76] (fun v76 wc => ∃ (kq : Nat) (x76_9 : Bool), v76 = .bool x76_9 ∧ Aside0 (laws_FnLogLines.j0 kq t380 t384 t385 t393 x76_9 t389 t390 t391 = some r) ∧ Aside0 (kq ≤ k) ∧ Aside0 (wc.heap[gb383]? = some (.cells #[.string t381, .string t382] 27 (0, 0))) ∧ Aside0 (wc.heap[gb394]? = some (.cells #[.string t389, .string t390, .int .i64 t391] 31 (0, 0))) ∧ Aside0 (wc.heap[gb400]? = some (.cells #[.string t395, .string t396, .int .i64 t397] 31 (0, 0))) ∧ Aside0 (Below w.heap.size w wc))
  case first =>
   have H := HC10.out
   clear HC10
   by_cases c27 : t384.toList = t386.toList
   ·rw [if_pos c27] at H
    have c27b0 : (t384.toList == t386.toList) = true := beq_iff_eq.mpr c27
    have c27b1 : (t384.toList != t386.toList) = false := bne_eq_false_iff_eq.mpr c27
    clear c27
    (first | rw [c27b0] | (simp only [i64_w, i32_w]; rw [c27b0]) | skip)
    by_cases c28 : (t385 != t387) = true
    ·rw [if_pos c28] at H
     have c28b0 : (t385 != t387) = true := c28
     (try (have c28b1 : decide (t385 = t387) = false := by simpa using c28))
     (try (have c28b2 : (t385 == t387) = false := by simpa using c28))
     (try (have c28b3 : ¬ (t385 = t387) := by simpa using c28))
     clear c28
     have H' := Aside0.mk H
     clear H
     go_wp2
     go_meet
     case rel => exact ⟨_, (true), ZZ0ab324, H', ⟨by first | omega | exact Nat.le_refl _⟩, ⟨by (with_reducible repeat (first | refine blk_drewN ?_ _ | refine blk_drew ?_ | refine blk_alloc ?_ _)); refine blk_far ?_ NB383_400.out _; (with_reducible repeat (first | refine blk_drewN ?_ _ | refine blk_drew ?_ | refine blk_alloc ?_ _)); refine blk_far ?_ NB383_400.out _; (with_reducible repeat (first | refine blk_drewN ?_ _ | refine blk_drew ?_ | refine blk_alloc ?_ _)); refine blk_far ?_ NB383_400.out _; (with_reducible repeat (first | refine blk_drewN ?_ _ | refine blk_drew ?_ | refine blk_alloc ?_ _)); exact BK383.out⟩, ⟨by (with_reducible repeat (first | refine blk_drewN ?_ _ | refine blk_drew ?_ | refine blk_alloc ?_ _)); refine blk_far ?_ NB394_400.out _; (with_reducible repeat (first | refine blk_drewN ?_ _ | refine blk_drew ?_ | refine blk_alloc ?_ _)); refine blk_far ?_ NB394_400.out _; (with_reducible repeat (first | refine blk_drewN ?_ _ | refine blk_drew ?_ | refine blk_alloc ?_ _)); refine blk_far ?_ NB394_400.out _; (with_reducible repeat (first | refine blk_drewN ?_ _ | refine blk_drew ?_ | refine blk_alloc ?_ _)); exact BK394.out⟩, ⟨by (with_reducible repeat (first | refine blk_drewN ?_ _ | refine blk_drew ?_ | refine blk_alloc ?_ _)); refine blk_put (cs := #[.string t395, .string t396, .int .i64 0]) ?_ 2 _ rfl; (with_reducible repeat (first | refine blk_drewN ?_ _ | refine blk_drew ?_ | refine blk_alloc ?_ _)); refine blk_put (cs := #[.string t395, .string (⟨#[]⟩ : ByteArray), .int .i64 0]) ?_ 1 _ rfl; (with_reducible repeat (first | refine blk_drewN ?_ _ | refine blk_drew ?_ | refine blk_alloc ?_ _)); refine blk_put (cs := #[.string (⟨#[]⟩ : ByteArray), .string (⟨#[]⟩ : ByteArray), .int .i64 0]) ?_ 0 _ rfl; (with_reducible repeat (first | refine blk_drewN ?_ _ | refine blk_drew ?_ | refine blk_alloc ?_ _)); exact BK400.out⟩, ⟨by repeat (first | (with_reducible first | exact HB.out | apply below_alloc | apply pw_below_drewN | apply below_drew1 | refine below_set ?_ GE383.out | refine below_set ?_ GE394.out | refine below_set ?_ GE400.out) | exact HB.out)⟩⟩
    ·rw [if_neg c28] at H
     have c28b0 : (t385 != t387) = false := by simpa using c28
     (try (have c28b1 : decide (t385 = t387) = true := by simpa using c28))
     (try (have c28b2 : (t385 == t387) = true := by simpa using c28))
     clear c28
     by_cases c29 : (!(t389.toList == t395.toList) || (!(t390.toList == t396.toList) || (!(t391 == t397)))) = true
     ·rw [if_pos c29] at H
      have c29b0 : (!(t389.toList == t395.toList) || (!(t390.toList == t396.toList) || (!(t391 == t397)))) = true := c29
      clear c29
      have H' := Aside0.mk H
      clear H
      have hnb30 := NB394_383.out
      have hnc30 := NB383_394.out
      have hnb31 := NB394_400.out
      have hnc31 := NB400_394.out
      have hcz32_0 : w23.cell? ⟨gb394, 0, none⟩ = some (.string t389) := (blk_cell BK394.out 0).trans rfl
      have hcz32_1 : w23.cell? ⟨gb394, 1, none⟩ = some (.string t390) := (blk_cell BK394.out 1).trans rfl
      have hcz32_2 : w23.cell? ⟨gb394, 2, none⟩ = some (.int .i64 t391) := (blk_cell BK394.out 2).trans rfl
      have hfz32_0 := blk_frozen BK394.out 0
      have hfz32_1 := blk_frozen BK394.out 1
      have hfz32_2 := blk_frozen BK394.out 2
      have hnb33 := NB400_383.out
      have hnc33 := NB383_400.out
      have hcz34_0 : w23.cell? ⟨gb400, 0, none⟩ = some (.string (⟨#[]⟩ : ByteArray)) := (blk_cell BK400.out 0).trans rfl
      have hcz34_1 : w23.cell? ⟨gb400, 1, none⟩ = some (.string (⟨#[]⟩ : ByteArray)) := (blk_cell BK400.out 1).trans rfl
      have hcz34_2 : w23.cell? ⟨gb400, 2, none⟩ = some (.int .i64 0) := (blk_cell BK400.out 2).trans rfl
      have hfz34_0 := blk_frozen BK400.out 0
      have hfz34_1 := blk_frozen BK400.out 1
      have hfz34_2 := blk_frozen BK400.out 2
      go_wp2
      go_meet
      case rel => exact ⟨_, (true), ZZ0ab324, H', ⟨by first | omega | exact Nat.le_refl _⟩, ⟨by (with_reducible repeat (first | refine blk_drewN ?_ _ | refine blk_drew ?_ | refine blk_alloc ?_ _)); refine blk_far ?_ NB383_400.out _; (with_reducible repeat (first | refine blk_drewN ?_ _ | refine blk_drew ?_ | refine blk_alloc ?_ _)); refine blk_far ?_ NB383_400.out _; (with_reducible repeat (first | refine blk_drewN ?_ _ | refine blk_drew ?_ | refine blk_alloc ?_ _)); refine blk_far ?_ NB383_400.out _; (with_reducible repeat (first | refine blk_drewN ?_ _ | refine blk_drew ?_ | refine blk_alloc ?_ _)); exact BK383.out⟩, ⟨by (with_reducible repeat (first | refine blk_drewN ?_ _ | refine blk_drew ?_ | refine blk_alloc ?_ _)); refine blk_far ?_ NB394_400.out _; (with_reducible repeat (first | refine blk_drewN ?_ _ | refine blk_drew ?_ | refine blk_alloc ?_ _)); refine blk_far ?_ NB394_400.out _; (with_reducible repeat (first | refine blk_drewN ?_ _ | refine blk_drew ?_ | refine blk_alloc ?_ _)); refine blk_far ?_ NB394_400.out _; (with_reducible repeat (first | refine blk_drewN ?_ _ | refine blk_drew ?_ | refine blk_alloc ?_ _)); exact BK394.out⟩, ⟨by (with_reducible repeat (first | refine blk_drewN ?_ _ | refine blk_drew ?_ | refine blk_alloc ?_ _)); refine blk_put (cs := #[.string t395, .string t396, .int .i64 0]) ?_ 2 _ rfl; (with_reducible repeat (first | refine blk_drewN ?_ _ | refine blk_drew ?_ | refine blk_alloc ?_ _)); refine blk_put (cs := #[.string t395, .string (⟨#[]⟩ : ByteArray), .int .i64 0]) ?_ 1 _ rfl; (with_reducible repeat (first | refine blk_drewN ?_ _ | refine blk_drew ?_ | refine blk_alloc ?_ _)); refine blk_put (cs := #[.string (⟨#[]⟩ : ByteArray), .string (⟨#[]⟩ : ByteArray), .int .i64 0]) ?_ 0 _ rfl; (with_reducible repeat (first | refine blk_drewN ?_ _ | refine blk_drew ?_ | refine blk_alloc ?_ _)); exact BK400.out⟩, ⟨by repeat (first | (with_reducible first | exact HB.out | apply below_alloc | apply pw_below_drewN | apply below_drew1 | refine below_set ?_ GE383.out | refine below_set ?_ GE394.out | refine below_set ?_ GE400.out) | exact HB.out)⟩⟩
     ·rw [if_neg c29] at H
      have c29b0 : (!(t389.toList == t395.toList) || (!(t390.toList == t396.toList) || (!(t391 == t397)))) = false := by simpa using c29
      clear c29
      by_cases c35 : t392 = t398
      ·rw [if_pos c35] at H
       have c35b0 : (t392 == t398) = true := beq_iff_eq.mpr c35
       have c35b1 : (t392 != t398) = false := bne_eq_false_iff_eq.mpr c35
       clear c35
       have H' := Aside0.mk H
       clear H
       have hnb36 := NB394_383.out
       have hnc36 := NB383_394.out
       have hnb37 := NB394_400.out
       have hnc37 := NB400_394.out
       have hcz38_0 : w23.cell? ⟨gb394, 0, none⟩ = some (.string t389) := (blk_cell BK394.out 0).trans rfl
       have hcz38_1 : w23.cell? ⟨gb394, 1, none⟩ = some (.string t390) := (blk_cell BK394.out 1).trans rfl
       have hcz38_2 : w23.cell? ⟨gb394, 2, none⟩ = some (.int .i64 t391) := (blk_cell BK394.out 2).trans rfl
       have hfz38_0 := blk_frozen BK394.out 0
       have hfz38_1 := blk_frozen BK394.out 1
       have hfz38_2 := blk_frozen BK394.out 2
       have hnb39 := NB400_383.out
       have hnc39 := NB383_400.out
       have hcz40_0 : w23.cell? ⟨gb400, 0, none⟩ = some (.string (⟨#[]⟩ : ByteArray)) := (blk_cell BK400.out 0).trans rfl
       have hcz40_1 : w23.cell? ⟨gb400, 1, none⟩ = some (.string (⟨#[]⟩ : ByteArray)) := (blk_cell BK400.out 1).trans rfl
       have hcz40_2 : w23.cell? ⟨gb400, 2, none⟩ = some (.int .i64 0) := (blk_cell BK400.out 2).trans rfl
       have hfz40_0 := blk_frozen BK400.out 0
       have hfz40_1 := blk_frozen BK400.out 1
       have hfz40_2 := blk_frozen BK400.out 2
       go_wp2
       go_meet
       case rel => exact ⟨_, ((t393 != t399)), ZZ0ab324, H', ⟨by first | omega | exact Nat.le_refl _⟩, ⟨by (with_reducible repeat (first | refine blk_drewN ?_ _ | refine blk_drew ?_ | refine blk_alloc ?_ _)); refine blk_far ?_ NB383_400.out _; (with_reducible repeat (first | refine blk_drewN ?_ _ | refine blk_drew ?_ | refine blk_alloc ?_ _)); refine blk_far ?_ NB383_400.out _; (with_reducible repeat (first | refine blk_drewN ?_ _ | refine blk_drew ?_ | refine blk_alloc ?_ _)); refine blk_far ?_ NB383_400.out _; (with_reducible repeat (first | refine blk_drewN ?_ _ | refine blk_drew ?_ | refine blk_alloc ?_ _)); exact BK383.out⟩, ⟨by (with_reducible repeat (first | refine blk_drewN ?_ _ | refine blk_drew ?_ | refine blk_alloc ?_ _)); refine blk_far ?_ NB394_400.out _; (with_reducible repeat (first | refine blk_drewN ?_ _ | refine blk_drew ?_ | refine blk_alloc ?_ _)); refine blk_far ?_ NB394_400.out _; (with_reducible repeat (first | refine blk_drewN ?_ _ | refine blk_drew ?_ | refine blk_alloc ?_ _)); refine blk_far ?_ NB394_400.out _; (with_reducible repeat (first | refine blk_drewN ?_ _ | refine blk_drew ?_ | refine blk_alloc ?_ _)); exact BK394.out⟩, ⟨by (with_reducible repeat (first | refine blk_drewN ?_ _ | refine blk_drew ?_ | refine blk_alloc ?_ _)); refine blk_put (cs := #[.string t395, .string t396, .int .i64 0]) ?_ 2 _ rfl; (with_reducible repeat (first | refine blk_drewN ?_ _ | refine blk_drew ?_ | refine blk_alloc ?_ _)); refine blk_put (cs := #[.string t395, .string (⟨#[]⟩ : ByteArray), .int .i64 0]) ?_ 1 _ rfl; (with_reducible repeat (first | refine blk_drewN ?_ _ | refine blk_drew ?_ | refine blk_alloc ?_ _)); refine blk_put (cs := #[.string (⟨#[]⟩ : ByteArray), .string (⟨#[]⟩ : ByteArray), .int .i64 0]) ?_ 0 _ rfl; (with_reducible repeat (first | refine blk_drewN ?_ _ | refine blk_drew ?_ | refine blk_alloc ?_ _)); exact BK400.out⟩, ⟨by repeat (first | (with_reducible first | exact HB.out | apply below_alloc | apply pw_below_drewN | apply below_drew1 | refine below_set ?_ GE383.out | refine below_set ?_ GE394.out | refine below_set ?_ GE400.out) | exact HB.out)⟩⟩
      ·rw [if_neg c35] at H
       have c35b0 : (t392 == t398) = false := beq_eq_false_iff_ne.mpr c35
       have c35b1 : (t392 != t398) = true := bne_iff_ne.mpr c35
       have H' := Aside0.mk H
       clear H
       have hnb41 := NB394_383.out
       have hnc41 := NB383_394.out
       have hnb42 := NB394_400.out
       have hnc42 := NB400_394.out
       have hcz43_0 : w23.cell? ⟨gb394, 0, none⟩ = some (.string t389) := (blk_cell BK394.out 0).trans rfl
       have hcz43_1 : w23.cell? ⟨gb394, 1, none⟩ = some (.string t390) := (blk_cell BK394.out 1).trans rfl
       have hcz43_2 : w23.cell? ⟨gb394, 2, none⟩ = some (.int .i64 t391) := (blk_cell BK394.out 2).trans rfl
       have hfz43_0 := blk_frozen BK394.out 0
       have hfz43_1 := blk_frozen BK394.out 1
       have hfz43_2 := blk_frozen BK394.out 2
       have hnb44 := NB400_383.out
       have hnc44 := NB383_400.out
       have hcz45_0 : w23.cell? ⟨gb400, 0, none⟩ = some (.string (⟨#[]⟩ : ByteArray)) := (blk_cell BK400.out 0).trans rfl
       have hcz45_1 : w23.cell? ⟨gb400, 1, none⟩ = some (.string (⟨#[]⟩ : ByteArray)) := (blk_cell BK400.out 1).trans rfl
       have hcz45_2 : w23.cell? ⟨gb400, 2, none⟩ = some (.int .i64 0) := (blk_cell BK400.out 2).trans rfl
       have hfz45_0 := blk_frozen BK400.out 0
       have hfz45_1 := blk_frozen BK400.out 1
       have hfz45_2 := blk_frozen BK400.out 2
       go_wp2
       go_meet
       case rel => exact ⟨_, (true), ZZ0ab324, H', ⟨by first | omega | exact Nat.le_refl _⟩, ⟨by (with_reducible repeat (first | refine blk_drewN ?_ _ | refine blk_drew ?_ | refine blk_alloc ?_ _)); refine blk_far ?_ NB383_400.out _; (with_reducible repeat (first | refine blk_drewN ?_ _ | refine blk_drew ?_ | refine blk_alloc ?_ _)); refine blk_far ?_ NB383_400.out _; (with_reducible repeat (first | refine blk_drewN ?_ _ | refine blk_drew ?_ | refine blk_alloc ?_ _)); refine blk_far ?_ NB383_400.out _; (with_reducible repeat (first | refine blk_drewN ?_ _ | refine blk_drew ?_ | refine blk_alloc ?_ _)); exact BK383.out⟩, ⟨by (with_reducible repeat (first | refine blk_drewN ?_ _ | refine blk_drew ?_ | refine blk_alloc ?_ _)); refine blk_far ?_ NB394_400.out _; (with_reducible repeat (first | refine blk_drewN ?_ _ | refine blk_drew ?_ | refine blk_alloc ?_ _)); refine blk_far ?_ NB394_400.out _; (with_reducible repeat (first | refine blk_drewN ?_ _ | refine blk_drew ?_ | refine blk_alloc ?_ _)); refine blk_far ?_ NB394_400.out _; (with_reducible repeat (first | refine blk_drewN ?_ _ | refine blk_drew ?_ | refine blk_alloc ?_ _)); exact BK394.out⟩, ⟨by (with_reducible repeat (first | refine blk_drewN ?_ _ | refine blk_drew ?_ | refine blk_alloc ?_ _)); refine blk_put (cs := #[.string t395, .string t396, .int .i64 0]) ?_ 2 _ rfl; (with_reducible repeat (first | refine blk_drewN ?_ _ | refine blk_drew ?_ | refine blk_alloc ?_ _)); refine blk_put (cs := #[.string t395, .string (⟨#[]⟩ : ByteArray), .int .i64 0]) ?_ 1 _ rfl; (with_reducible repeat (first | refine blk_drewN ?_ _ | refine blk_drew ?_ | refine blk_alloc ?_ _)); refine blk_put (cs := #[.string (⟨#[]⟩ : ByteArray), .string (⟨#[]⟩ : ByteArray), .int .i64 0]) ?_ 0 _ rfl; (with_reducible repeat (first | refine blk_drewN ?_ _ | refine blk_drew ?_ | refine blk_alloc ?_ _)); exact BK400.out⟩, ⟨by repeat (first | (with_reducible first | exact HB.out | apply below_alloc | apply pw_below_drewN | apply below_drew1 | refine below_set ?_ GE383.out | refine below_set ?_ GE394.out | refine below_set ?_ GE400.out) | exact HB.out)⟩⟩
   ·rw [if_neg c27] at H
    have c27b0 : (t384.toList == t386.toList) = false := beq_eq_false_iff_ne.mpr c27
    have c27b1 : (t384.toList != t386.toList) = true := bne_iff_ne.mpr c27
    (first | rw [c27b0] | (simp only [i64_w, i32_w]; rw [c27b0]) | skip)
    have H' := Aside0.mk H
    clear H
    go_wp2
    go_meet
    case rel => exact ⟨_, (true), ZZ0ab324, H', ⟨by first | omega | exact Nat.le_refl _⟩, ⟨by (with_reducible repeat (first | refine blk_drewN ?_ _ | refine blk_drew ?_ | refine blk_alloc ?_ _)); refine blk_far ?_ NB383_400.out _; (with_reducible repeat (first | refine blk_drewN ?_ _ | refine blk_drew ?_ | refine blk_alloc ?_ _)); refine blk_far ?_ NB383_400.out _; (with_reducible repeat (first | refine blk_drewN ?_ _ | refine blk_drew ?_ | refine blk_alloc ?_ _)); refine blk_far ?_ NB383_400.out _; (with_reducible repeat (first | refine blk_drewN ?_ _ | refine blk_drew ?_ | refine blk_alloc ?_ _)); exact BK383.out⟩, ⟨by (with_reducible repeat (first | refine blk_drewN ?_ _ | refine blk_drew ?_ | refine blk_alloc ?_ _)); refine blk_far ?_ NB394_400.out _; (with_reducible repeat (first | refine blk_drewN ?_ _ | refine blk_drew ?_ | refine blk_alloc ?_ _)); refine blk_far ?_ NB394_400.out _; (with_reducible repeat (first | refine blk_drewN ?_ _ | refine blk_drew ?_ | refine blk_alloc ?_ _)); refine blk_far ?_ NB394_400.out _; (with_reducible repeat (first | refine blk_drewN ?_ _ | refine blk_drew ?_ | refine blk_alloc ?_ _)); exact BK394.out⟩, ⟨by (with_reducible repeat (first | refine blk_drewN ?_ _ | refine blk_drew ?_ | refine blk_alloc ?_ _)); refine blk_put (cs := #[.string t395, .string t396, .int .i64 0]) ?_ 2 _ rfl; (with_reducible repeat (first | refine blk_drewN ?_ _ | refine blk_drew ?_ | refine blk_alloc ?_ _)); refine blk_put (cs := #[.string t395, .string (⟨#[]⟩ : ByteArray), .int .i64 0]) ?_ 1 _ rfl; (with_reducible repeat (first | refine blk_drewN ?_ _ | refine blk_drew ?_ | refine blk_alloc ?_ _)); refine blk_put (cs := #[.string (⟨#[]⟩ : ByteArray), .string (⟨#[]⟩ : ByteArray), .int .i64 0]) ?_ 0 _ rfl; (with_reducible repeat (first | refine blk_drewN ?_ _ | refine blk_drew ?_ | refine blk_alloc ?_ _)); exact BK400.out⟩, ⟨by repeat (first | (with_reducible first | exact HB.out | apply below_alloc | apply pw_below_drewN | apply below_drew1 | refine below_set ?_ GE383.out | refine below_set ?_ GE394.out | refine below_set ?_ GE400.out) | exact HB.out)⟩⟩
  case rest =>
   clear HC10
   try clear c1
   try clear c2
   try clear p2
   try clear c3
   try clear c4
   try clear c11
   try clear c14
   try clear c16
   try clear c17
   try clear c18
   try clear c20
   try clear c24
   try clear c25
   try clear c27
   try clear c27b0
   try clear c27b1
   try clear c28
   try clear c28b0
   try clear c28b1
   try clear c28b2
   try clear c29
   try clear c29b0
   try clear c30
   try clear c31
   try clear c33
   try clear c35
   try clear c35b0
   try clear c35b1
   try clear c36
   try clear c37
   try clear c39
   try clear c40
   try clear c41
   try clear c42
   try clear c44
   try clear hcz13_0
   try clear hcz13_1
   try clear hcz15_0
   try clear hcz15_1
   try clear hcz21_0
   try clear hcz21_1
   try clear hcz21_2
   try clear hcz26_0
   try clear hcz26_1
   try clear hcz26_2
   try clear hcz32_0
   try clear hcz32_1
   try clear hcz32_2
   try clear hcz34_0
   try clear hcz34_1
   try clear hcz34_2
   try clear hcz38_0
   try clear hcz38_1
   try clear hcz38_2
   try clear hcz40_0
   try clear hcz40_1
   try clear hcz40_2
   try clear hcz43_0
   try clear hcz43_1
   try clear hcz43_2
   try clear hcz45_0
   try clear hcz45_1
   try clear hcz45_2
   try clear hfz13_0
   try clear hfz13_1
   try clear hfz15_0
   try clear hfz15_1
   try clear hfz21_0
   try clear hfz21_1
   try clear hfz21_2
   try clear hfz26_0
   try clear hfz26_1
   try clear hfz26_2
   try clear hfz32_0
   try clear hfz32_1
   try clear hfz32_2
   try clear hfz34_0
   try clear hfz34_1
   try clear hfz34_2
   try clear hfz38_0
   try clear hfz38_1
   try clear hfz38_2
   try clear hfz40_0
   try clear hfz40_1
   try clear hfz40_2
   try clear hfz43_0
   try clear hfz43_1
   try clear hfz43_2
   try clear hfz45_0
   try clear hfz45_1
   try clear hfz45_2
   obtain ⟨kq, x76_9, rfl, HA, HJ9, BK383, BK394, BK400, HB⟩ := hcut
   cases kq with
   | zero => exact absurd HA.out (by simp [laws_FnLogLines.j0])
   | succ kj9 =>
    have H := HA.out
    clear HA
    simp only [laws_FnLogLines.j0] at H
    by_cases c46 : x76_9 = true
    ·subst c46
     have H1 : (some false) = some r := by rw [if_pos rfl] at H; exact H
     clear H
     have H := H1
     clear H1
     obtain rfl := Option.some.inj H
     go_wp2
     go_ret
     exact ⟨by first | rfl | (simp [errW_none, errW_some] <;> rfl) | (simp [*, errW_none, errW_some] <;> rfl), by repeat (first | (with_reducible first | exact HB.out | apply below_alloc | apply pw_below_drewN | apply below_drew1 | refine below_set ?_ GE383.out | refine below_set ?_ GE394.out | refine below_set ?_ GE400.out) | exact HB.out)⟩
    ·replace c46 := Bool.eq_false_iff.mpr c46
     subst c46
     have H1 : ((impl_RecoverLog.f kj9 t384).bind fun bt401 => (if t385 = true then (if ((decide (bt401.2.2.2.1 > 0)) != (t380 == 0)) = true then (laws_FnLogLines.j1 kj9 t384 t385 t393 true t389 t390 t391) else (if t380 = 0 then (laws_FnLogLines.j1 kj9 t384 t385 t393 (bt401.2.2.1 != 1) t389 t390 t391) else (laws_FnLogLines.j1 kj9 t384 t385 t393 false t389 t390 t391))) else (laws_FnLogLines.j1 kj9 t384 t385 t393 false t389 t390 t391))) = some r := by rw [if_neg (show ¬ (false = true) by decide)] at H; exact H
     clear H
     have H := H1
     clear H1
     replace H := Option.bind_eq_some_iff.mp H
     obtain ⟨⟨t401, t402, t403, t404, t405⟩, A470, H⟩ := H
     replace H : (if t385 = true then (if ((decide (t404 > 0)) != (t380 == 0)) = true then (laws_FnLogLines.j1 kj9 t384 t385 t393 true t389 t390 t391) else (if t380 = 0 then (laws_FnLogLines.j1 kj9 t384 t385 t393 (t403 != 1) t389 t390 t391) else (laws_FnLogLines.j1 kj9 t384 t385 t393 false t389 t390 t391))) else (laws_FnLogLines.j1 kj9 t384 t385 t393 false t389 t390 t391)) = some r := H
     have A47 := Aside0.mk A470
     clear A470
     have HC48 := Aside0.mk H
     clear H
     go_upto_region 12 with (first | ((with_reducible refine gate_callee (f := 18) rfl ?_); refine goesL_ (some 79) rfl rfl Tryd.func18 (by kernel_rfl) rfl #[.string t384] rfl ZZ19826e ?_; (with_reducible refine (impl_RecoverLog.calls kj9 t384 t401 t402 t403 t404 t405 _ ?side1 A47.out).mono ?_); (case side1 => first | exact HV.out | exact TInv.below HV.out ZZ9c98f7); rintro e w49 ⟨rfl, hb⟩; refine ⟨_, rfl, ?_⟩; have n0_ := Aside0.mk (blk_below (g := gb383) (o := .cells #[.string t381, .string t382] 27 (0, 0)) ZZ09b804 hb); have n1_ := Aside0.mk (blk_below (g := gb394) (o := .cells #[.string t389, .string t390, .int .i64 t391] 31 (0, 0)) ZZ6aba7e hb); have n2_ := Aside0.mk (blk_below (g := gb400) (o := .cells #[.string t395, .string t396, .int .i64 t397] 31 (0, 0)) ZZ8e4877 hb); have n3_ := Aside0.mk (below_step ZZ9c98f7 hb); clear BK383; clear BK394; clear BK400; clear HB; have BK383 := n0_; have BK394 := n1_; have BK400 := n2_; have HB := n3_; clear n0_ n1_ n2_ n3_; (try clear hb); (try clear hb2); (try clear hk); (try clear hi)) | ((with_reducible refine gate_dst (N := 16) rfl ?_); refine box_event ?hg (N := 16) ?hd (cs := #[.string (⟨#[]⟩ : ByteArray), .string (⟨#[]⟩ : ByteArray), .int .i64 0]) (t := 31) ?hr ?_; (case hd => rfl); (case hg => rfl); (case hr => first | (go_simp; done) | (go_simp; rfl)); intro gb406 hg w50 hbox hb; have n0_ := Aside0.mk (blk_below (g := gb383) (o := .cells #[.string t381, .string t382] 27 (0, 0)) ZZ09b804 hb); have n1_ := Aside0.mk (blk_below (g := gb394) (o := .cells #[.string t389, .string t390, .int .i64 t391] 31 (0, 0)) ZZ6aba7e hb); have n2_ := Aside0.mk (blk_below (g := gb400) (o := .cells #[.string t395, .string t396, .int .i64 t397] 31 (0, 0)) ZZ8e4877 hb); have n3_ := Aside0.mk (below_step ZZ9c98f7 hb); have n4_ := Aside0.mk (hbox); have n5_ := Aside0.mk ((by rw [hg]; exact (below_size ZZ9c98f7) : w.heap.size ≤ gb406)); have n6_ := Aside0.mk ((by rw [hg]; exact (below_size ZZ9c98f7) : w.heap.size ≤ gb406)); have n7_ := Aside0.mk ((by rw [hg]; exact Nat.ne_of_lt (blk_lt (g := gb383) (o := .cells #[.string t381, .string t382] 27 (0, 0)) ZZ09b804) : gb383 ≠ gb406)); have n8_ := Aside0.mk ((by rw [hg]; exact Nat.ne_of_gt (blk_lt (g := gb383) (o := .cells #[.string t381, .string t382] 27 (0, 0)) ZZ09b804) : gb406 ≠ gb383)); have n9_ := Aside0.mk ((by rw [hg]; exact Nat.ne_of_lt (blk_lt (g := gb394) (o := .cells #[.string t389, .string t390, .int .i64 t391] 31 (0, 0)) ZZ6aba7e) : gb394 ≠ gb406)); have n10_ := Aside0.mk ((by rw [hg]; exact Nat.ne_of_gt (blk_lt (g := gb394) (o := .cells #[.string t389, .string t390, .int .i64 t391] 31 (0, 0)) ZZ6aba7e) : gb406 ≠ gb394)); have n11_ := Aside0.mk ((by rw [hg]; exact Nat.ne_of_lt (blk_lt (g := gb400) (o := .cells #[.string t395, .string t396, .int .i64 t397] 31 (0, 0)) ZZ8e4877) : gb400 ≠ gb406)); have n12_ := Aside0.mk ((by rw [hg]; exact Nat.ne_of_gt (blk_lt (g := gb400) (o := .cells #[.string t395, .string t396, .int .i64 t397] 31 (0, 0)) ZZ8e4877) : gb406 ≠ gb400)); clear BK383; clear BK394; clear BK400; clear HB; have BK383 := n0_; have BK394 := n1_; have BK400 := n2_; have HB := n3_; have BK406 := n4_; have GW406 := n5_; have GE406 := n6_; have NB383_406 := n7_; have NB406_383 := n8_; have NB394_406 := n9_; have NB406_394 := n10_; have NB400_406 := n11_; have NB406_400 := n12_; clear n0_ n1_ n2_ n3_ n4_ n5_ n6_ n7_ n8_ n9_ n10_ n11_ n12_; clear hb hbox hg; have hnb51 := NB406_383.out; have hnc51 := NB383_406.out; have hnb52 := NB406_394.out; have hnc52 := NB394_406.out; have hnb53 := NB406_400.out; have hnc53 := NB400_406.out; have hcz54_0 : w50.cell? ⟨gb406, 0, none⟩ = some (.string (⟨#[]⟩ : ByteArray)) := (blk_cell BK406.out 0).trans rfl; have hcz54_1 : w50.cell? ⟨gb406, 1, none⟩ = some (.string (⟨#[]⟩ : ByteArray)) := (blk_cell BK406.out 1).trans rfl; have hcz54_2 : w50.cell? ⟨gb406, 2, none⟩ = some (.int .i64 0) := (blk_cell BK406.out 2).trans rfl; have hfz54_0 := blk_frozen BK406.out 0; have hfz54_1 := blk_frozen BK406.out 1; have hfz54_2 := blk_frozen BK406.out 2))
     (try simp only [Act.put, List.setIfInBounds_toArray, List.set_cons_zero, List.set_cons_succ])
     go_cut [102] (fun v102 wc => ∃ (kq : Nat) (x102_47 : Bool), v102 = .bool x102_47 ∧ Aside0 (laws_FnLogLines.j1 kq t384 t385 t393 x102_47 t389 t390 t391 = some r) ∧ Aside0 (kq ≤ kj9) ∧ Aside0 (wc.heap[gb383]? = some (.cells #[.string t381, .string t382] 27 (0, 0))) ∧ Aside0 (wc.heap[gb394]? = some (.cells #[.string t389, .string t390, .int .i64 t391] 31 (0, 0))) ∧ Aside0 (wc.heap[gb400]? = some (.cells #[.string t395, .string t396, .int .i64 t397] 31 (0, 0))) ∧ Aside0 (wc.heap[gb406]? = some (.cells #[.string t401, .string t402, .int .i64 t403] 31 (0, 0))) ∧ Aside0 (Below w.heap.size w wc))
     case first =>
      have H := HC48.out
      clear HC48
      by_cases c55 : t385 = true
      ·subst c55
       have H1 : (if ((decide (t404 > 0)) != (t380 == 0)) = true then (laws_FnLogLines.j1 kj9 t384 true t393 true t389 t390 t391) else (if t380 = 0 then (laws_FnLogLines.j1 kj9 t384 true t393 (t403 != 1) t389 t390 t391) else (laws_FnLogLines.j1 kj9 t384 true t393 false t389 t390 t391))) = some r := by rw [if_pos rfl] at H; exact H
       clear H
       have H := H1
       clear H1
       by_cases c56 : ((decide (t404 > 0)) != (t380 == 0)) = true
       ·rw [if_pos c56] at H
        have c56b0 : ((decide (t404 > 0)) != (t380 == 0)) = true := c56
        have c56b0g : ((decide (0 < t404)) != (t380 == 0)) = true := c56b0
        (try (have c56b1 : decide ((decide (t404 > 0)) = (t380 == 0)) = false := by simpa using c56))
        (try (have c56b2 : ((decide (t404 > 0)) == (t380 == 0)) = false := by simpa using c56))
        (try (have c56b3 : ¬ ((decide (t404 > 0)) = (t380 == 0)) := by simpa using c56))
        clear c56
        (first | rw [c56b0] | (simp only [i64_w, i32_w]; rw [c56b0]) | skip)
        have H' := Aside0.mk H
        clear H
        go_wp2
        go_meet
        case rel => exact ⟨_, (true), ZZ0ab324, H', ⟨by have := HJ9.out; first | omega | exact Nat.le_refl _⟩, ⟨by (with_reducible repeat (first | refine blk_drewN ?_ _ | refine blk_drew ?_ | refine blk_alloc ?_ _)); refine blk_far ?_ NB383_406.out _; (with_reducible repeat (first | refine blk_drewN ?_ _ | refine blk_drew ?_ | refine blk_alloc ?_ _)); refine blk_far ?_ NB383_406.out _; (with_reducible repeat (first | refine blk_drewN ?_ _ | refine blk_drew ?_ | refine blk_alloc ?_ _)); refine blk_far ?_ NB383_406.out _; (with_reducible repeat (first | refine blk_drewN ?_ _ | refine blk_drew ?_ | refine blk_alloc ?_ _)); exact BK383.out⟩, ⟨by (with_reducible repeat (first | refine blk_drewN ?_ _ | refine blk_drew ?_ | refine blk_alloc ?_ _)); refine blk_far ?_ NB394_406.out _; (with_reducible repeat (first | refine blk_drewN ?_ _ | refine blk_drew ?_ | refine blk_alloc ?_ _)); refine blk_far ?_ NB394_406.out _; (with_reducible repeat (first | refine blk_drewN ?_ _ | refine blk_drew ?_ | refine blk_alloc ?_ _)); refine blk_far ?_ NB394_406.out _; (with_reducible repeat (first | refine blk_drewN ?_ _ | refine blk_drew ?_ | refine blk_alloc ?_ _)); exact BK394.out⟩, ⟨by (with_reducible repeat (first | refine blk_drewN ?_ _ | refine blk_drew ?_ | refine blk_alloc ?_ _)); refine blk_far ?_ NB400_406.out _; (with_reducible repeat (first | refine blk_drewN ?_ _ | refine blk_drew ?_ | refine blk_alloc ?_ _)); refine blk_far ?_ NB400_406.out _; (with_reducible repeat (first | refine blk_drewN ?_ _ | refine blk_drew ?_ | refine blk_alloc ?_ _)); refine blk_far ?_ NB400_406.out _; (with_reducible repeat (first | refine blk_drewN ?_ _ | refine blk_drew ?_ | refine blk_alloc ?_ _)); exact BK400.out⟩, ⟨by (with_reducible repeat (first | refine blk_drewN ?_ _ | refine blk_drew ?_ | refine blk_alloc ?_ _)); refine blk_put (cs := #[.string t401, .string t402, .int .i64 0]) ?_ 2 _ rfl; (with_reducible repeat (first | refine blk_drewN ?_ _ | refine blk_drew ?_ | refine blk_alloc ?_ _)); refine blk_put (cs := #[.string t401, .string (⟨#[]⟩ : ByteArray), .int .i64 0]) ?_ 1 _ rfl; (with_reducible repeat (first | refine blk_drewN ?_ _ | refine blk_drew ?_ | refine blk_alloc ?_ _)); refine blk_put (cs := #[.string (⟨#[]⟩ : ByteArray), .string (⟨#[]⟩ : ByteArray), .int .i64 0]) ?_ 0 _ rfl; (with_reducible repeat (first | refine blk_drewN ?_ _ | refine blk_drew ?_ | refine blk_alloc ?_ _)); exact BK406.out⟩, ⟨by repeat (first | (with_reducible first | exact HB.out | apply below_alloc | apply pw_below_drewN | apply below_drew1 | refine below_set ?_ GE383.out | refine below_set ?_ GE394.out | refine below_set ?_ GE400.out | refine below_set ?_ GE406.out) | exact HB.out)⟩⟩
       ·rw [if_neg c56] at H
        have c56b0 : ((decide (t404 > 0)) != (t380 == 0)) = false := by simpa using c56
        have c56b0g : ((decide (0 < t404)) != (t380 == 0)) = false := c56b0
        (try (have c56b1 : decide ((decide (t404 > 0)) = (t380 == 0)) = true := by simpa using c56))
        (try (have c56b2 : ((decide (t404 > 0)) == (t380 == 0)) = true := by simpa using c56))
        clear c56
        (first | rw [c56b0] | (simp only [i64_w, i32_w]; rw [c56b0]) | skip)
        by_cases c57 : t380 = 0
        ·rw [if_pos c57] at H
         have c57b0 : (t380 == 0) = true := beq_iff_eq.mpr c57
         (try have c57b0x : decide (0 < t404) = true := by simpa [c57b0] using c56b0g)
         have c57b1 : (t380 != 0) = false := bne_eq_false_iff_eq.mpr c57
         clear c57
         have H' := Aside0.mk H
         clear H
         have hnb58 := NB406_383.out
         have hnc58 := NB383_406.out
         have hnb59 := NB406_394.out
         have hnc59 := NB394_406.out
         have hnb60 := NB406_400.out
         have hnc60 := NB400_406.out
         have hcz61_0 : w50.cell? ⟨gb406, 0, none⟩ = some (.string (⟨#[]⟩ : ByteArray)) := (blk_cell BK406.out 0).trans rfl
         have hcz61_1 : w50.cell? ⟨gb406, 1, none⟩ = some (.string (⟨#[]⟩ : ByteArray)) := (blk_cell BK406.out 1).trans rfl
         have hcz61_2 : w50.cell? ⟨gb406, 2, none⟩ = some (.int .i64 0) := (blk_cell BK406.out 2).trans rfl
         have hfz61_0 := blk_frozen BK406.out 0
         have hfz61_1 := blk_frozen BK406.out 1
         have hfz61_2 := blk_frozen BK406.out 2
         go_wp2
         go_meet
         case rel => exact ⟨_, ((t403 != 1)), ZZ0ab324, H', ⟨by have := HJ9.out; first | omega | exact Nat.le_refl _⟩, ⟨by (with_reducible repeat (first | refine blk_drewN ?_ _ | refine blk_drew ?_ | refine blk_alloc ?_ _)); refine blk_far ?_ NB383_406.out _; (with_reducible repeat (first | refine blk_drewN ?_ _ | refine blk_drew ?_ | refine blk_alloc ?_ _)); refine blk_far ?_ NB383_406.out _; (with_reducible repeat (first | refine blk_drewN ?_ _ | refine blk_drew ?_ | refine blk_alloc ?_ _)); refine blk_far ?_ NB383_406.out _; (with_reducible repeat (first | refine blk_drewN ?_ _ | refine blk_drew ?_ | refine blk_alloc ?_ _)); exact BK383.out⟩, ⟨by (with_reducible repeat (first | refine blk_drewN ?_ _ | refine blk_drew ?_ | refine blk_alloc ?_ _)); refine blk_far ?_ NB394_406.out _; (with_reducible repeat (first | refine blk_drewN ?_ _ | refine blk_drew ?_ | refine blk_alloc ?_ _)); refine blk_far ?_ NB394_406.out _; (with_reducible repeat (first | refine blk_drewN ?_ _ | refine blk_drew ?_ | refine blk_alloc ?_ _)); refine blk_far ?_ NB394_406.out _; (with_reducible repeat (first | refine blk_drewN ?_ _ | refine blk_drew ?_ | refine blk_alloc ?_ _)); exact BK394.out⟩, ⟨by (with_reducible repeat (first | refine blk_drewN ?_ _ | refine blk_drew ?_ | refine blk_alloc ?_ _)); refine blk_far ?_ NB400_406.out _; (with_reducible repeat (first | refine blk_drewN ?_ _ | refine blk_drew ?_ | refine blk_alloc ?_ _)); refine blk_far ?_ NB400_406.out _; (with_reducible repeat (first | refine blk_drewN ?_ _ | refine blk_drew ?_ | refine blk_alloc ?_ _)); refine blk_far ?_ NB400_406.out _; (with_reducible repeat (first | refine blk_drewN ?_ _ | refine blk_drew ?_ | refine blk_alloc ?_ _)); exact BK400.out⟩, ⟨by (with_reducible repeat (first | refine blk_drewN ?_ _ | refine blk_drew ?_ | refine blk_alloc ?_ _)); refine blk_put (cs := #[.string t401, .string t402, .int .i64 0]) ?_ 2 _ rfl; (with_reducible repeat (first | refine blk_drewN ?_ _ | refine blk_drew ?_ | refine blk_alloc ?_ _)); refine blk_put (cs := #[.string t401, .string (⟨#[]⟩ : ByteArray), .int .i64 0]) ?_ 1 _ rfl; (with_reducible repeat (first | refine blk_drewN ?_ _ | refine blk_drew ?_ | refine blk_alloc ?_ _)); refine blk_put (cs := #[.string (⟨#[]⟩ : ByteArray), .string (⟨#[]⟩ : ByteArray), .int .i64 0]) ?_ 0 _ rfl; (with_reducible repeat (first | refine blk_drewN ?_ _ | refine blk_drew ?_ | refine blk_alloc ?_ _)); exact BK406.out⟩, ⟨by repeat (first | (with_reducible first | exact HB.out | apply below_alloc | apply pw_below_drewN | apply below_drew1 | refine below_set ?_ GE383.out | refine below_set ?_ GE394.out | refine below_set ?_ GE400.out | refine below_set ?_ GE406.out) | exact HB.out)⟩⟩
        ·rw [if_neg c57] at H
         have c57b0 : (t380 == 0) = false := beq_eq_false_iff_ne.mpr c57
         (try have c57b0x : decide (0 < t404) = false := by simpa [c57b0] using c56b0g)
         have c57b1 : (t380 != 0) = true := bne_iff_ne.mpr c57
         have H' := Aside0.mk H
         clear H
         go_wp2
         go_meet
         case rel => exact ⟨_, (false), ZZ0ab324, H', ⟨by have := HJ9.out; first | omega | exact Nat.le_refl _⟩, ⟨by (with_reducible repeat (first | refine blk_drewN ?_ _ | refine blk_drew ?_ | refine blk_alloc ?_ _)); refine blk_far ?_ NB383_406.out _; (with_reducible repeat (first | refine blk_drewN ?_ _ | refine blk_drew ?_ | refine blk_alloc ?_ _)); refine blk_far ?_ NB383_406.out _; (with_reducible repeat (first | refine blk_drewN ?_ _ | refine blk_drew ?_ | refine blk_alloc ?_ _)); refine blk_far ?_ NB383_406.out _; (with_reducible repeat (first | refine blk_drewN ?_ _ | refine blk_drew ?_ | refine blk_alloc ?_ _)); exact BK383.out⟩, ⟨by (with_reducible repeat (first | refine blk_drewN ?_ _ | refine blk_drew ?_ | refine blk_alloc ?_ _)); refine blk_far ?_ NB394_406.out _; (with_reducible repeat (first | refine blk_drewN ?_ _ | refine blk_drew ?_ | refine blk_alloc ?_ _)); refine blk_far ?_ NB394_406.out _; (with_reducible repeat (first | refine blk_drewN ?_ _ | refine blk_drew ?_ | refine blk_alloc ?_ _)); refine blk_far ?_ NB394_406.out _; (with_reducible repeat (first | refine blk_drewN ?_ _ | refine blk_drew ?_ | refine blk_alloc ?_ _)); exact BK394.out⟩, ⟨by (with_reducible repeat (first | refine blk_drewN ?_ _ | refine blk_drew ?_ | refine blk_alloc ?_ _)); refine blk_far ?_ NB400_406.out _; (with_reducible repeat (first | refine blk_drewN ?_ _ | refine blk_drew ?_ | refine blk_alloc ?_ _)); refine blk_far ?_ NB400_406.out _; (with_reducible repeat (first | refine blk_drewN ?_ _ | refine blk_drew ?_ | refine blk_alloc ?_ _)); refine blk_far ?_ NB400_406.out _; (with_reducible repeat (first | refine blk_drewN ?_ _ | refine blk_drew ?_ | refine blk_alloc ?_ _)); exact BK400.out⟩, ⟨by (with_reducible repeat (first | refine blk_drewN ?_ _ | refine blk_drew ?_ | refine blk_alloc ?_ _)); refine blk_put (cs := #[.string t401, .string t402, .int .i64 0]) ?_ 2 _ rfl; (with_reducible repeat (first | refine blk_drewN ?_ _ | refine blk_drew ?_ | refine blk_alloc ?_ _)); refine blk_put (cs := #[.string t401, .string (⟨#[]⟩ : ByteArray), .int .i64 0]) ?_ 1 _ rfl; (with_reducible repeat (first | refine blk_drewN ?_ _ | refine blk_drew ?_ | refine blk_alloc ?_ _)); refine blk_put (cs := #[.string (⟨#[]⟩ : ByteArray), .string (⟨#[]⟩ : ByteArray), .int .i64 0]) ?_ 0 _ rfl; (with_reducible repeat (first | refine blk_drewN ?_ _ | refine blk_drew ?_ | refine blk_alloc ?_ _)); exact BK406.out⟩, ⟨by repeat (first | (with_reducible first | exact HB.out | apply below_alloc | apply pw_below_drewN | apply below_drew1 | refine below_set ?_ GE383.out | refine below_set ?_ GE394.out | refine below_set ?_ GE400.out | refine below_set ?_ GE406.out) | exact HB.out)⟩⟩
      ·replace c55 := Bool.eq_false_iff.mpr c55
       subst c55
       have H1 : (laws_FnLogLines.j1 kj9 t384 false t393 false t389 t390 t391) = some r := by rw [if_neg (show ¬ (false = true) by decide)] at H; exact H
       clear H
       have H := H1
       clear H1
       have H' := Aside0.mk H
       clear H
       go_wp2
       go_meet
       case rel => exact ⟨_, (false), ZZ0ab324, H', ⟨by have := HJ9.out; first | omega | exact Nat.le_refl _⟩, ⟨by (with_reducible repeat (first | refine blk_drewN ?_ _ | refine blk_drew ?_ | refine blk_alloc ?_ _)); refine blk_far ?_ NB383_406.out _; (with_reducible repeat (first | refine blk_drewN ?_ _ | refine blk_drew ?_ | refine blk_alloc ?_ _)); refine blk_far ?_ NB383_406.out _; (with_reducible repeat (first | refine blk_drewN ?_ _ | refine blk_drew ?_ | refine blk_alloc ?_ _)); refine blk_far ?_ NB383_406.out _; (with_reducible repeat (first | refine blk_drewN ?_ _ | refine blk_drew ?_ | refine blk_alloc ?_ _)); exact BK383.out⟩, ⟨by (with_reducible repeat (first | refine blk_drewN ?_ _ | refine blk_drew ?_ | refine blk_alloc ?_ _)); refine blk_far ?_ NB394_406.out _; (with_reducible repeat (first | refine blk_drewN ?_ _ | refine blk_drew ?_ | refine blk_alloc ?_ _)); refine blk_far ?_ NB394_406.out _; (with_reducible repeat (first | refine blk_drewN ?_ _ | refine blk_drew ?_ | refine blk_alloc ?_ _)); refine blk_far ?_ NB394_406.out _; (with_reducible repeat (first | refine blk_drewN ?_ _ | refine blk_drew ?_ | refine blk_alloc ?_ _)); exact BK394.out⟩, ⟨by (with_reducible repeat (first | refine blk_drewN ?_ _ | refine blk_drew ?_ | refine blk_alloc ?_ _)); refine blk_far ?_ NB400_406.out _; (with_reducible repeat (first | refine blk_drewN ?_ _ | refine blk_drew ?_ | refine blk_alloc ?_ _)); refine blk_far ?_ NB400_406.out _; (with_reducible repeat (first | refine blk_drewN ?_ _ | refine blk_drew ?_ | refine blk_alloc ?_ _)); refine blk_far ?_ NB400_406.out _; (with_reducible repeat (first | refine blk_drewN ?_ _ | refine blk_drew ?_ | refine blk_alloc ?_ _)); exact BK400.out⟩, ⟨by (with_reducible repeat (first | refine blk_drewN ?_ _ | refine blk_drew ?_ | refine blk_alloc ?_ _)); refine blk_put (cs := #[.string t401, .string t402, .int .i64 0]) ?_ 2 _ rfl; (with_reducible repeat (first | refine blk_drewN ?_ _ | refine blk_drew ?_ | refine blk_alloc ?_ _)); refine blk_put (cs := #[.string t401, .string (⟨#[]⟩ : ByteArray), .int .i64 0]) ?_ 1 _ rfl; (with_reducible repeat (first | refine blk_drewN ?_ _ | refine blk_drew ?_ | refine blk_alloc ?_ _)); refine blk_put (cs := #[.string (⟨#[]⟩ : ByteArray), .string (⟨#[]⟩ : ByteArray), .int .i64 0]) ?_ 0 _ rfl; (with_reducible repeat (first | refine blk_drewN ?_ _ | refine blk_drew ?_ | refine blk_alloc ?_ _)); exact BK406.out⟩, ⟨by repeat (first | (with_reducible first | exact HB.out | apply below_alloc | apply pw_below_drewN | apply below_drew1 | refine below_set ?_ GE383.out | refine below_set ?_ GE394.out | refine below_set ?_ GE400.out | refine below_set ?_ GE406.out) | exact HB.out)⟩⟩
     case rest =>
      clear HC48
      try clear c1
      try clear c2
      try clear p2
      try clear c3
      try clear c4
      try clear c5
      try clear c6
      try clear c11
      try clear c14
      try clear c16
      try clear c17
      try clear c18
      try clear c20
      try clear c24
      try clear c25
      try clear c27
      try clear c27b0
      try clear c27b1
      try clear c28
      try clear c28b0
      try clear c28b1
      try clear c28b2
      try clear c29
      try clear c29b0
      try clear c30
      try clear c31
      try clear c33
      try clear c35
      try clear c35b0
      try clear c35b1
      try clear c36
      try clear c37
      try clear c39
      try clear c40
      try clear c41
      try clear c42
      try clear c44
      try clear c46
      try clear c51
      try clear c52
      try clear c53
      try clear c55
      try clear c56
      try clear c56b0
      try clear c56b1
      try clear c56b2
      try clear c57
      try clear c57b0
      try clear c57b1
      try clear c58
      try clear c59
      try clear c60
      try clear hcz13_0
      try clear hcz13_1
      try clear hcz15_0
      try clear hcz15_1
      try clear hcz21_0
      try clear hcz21_1
      try clear hcz21_2
      try clear hcz26_0
      try clear hcz26_1
      try clear hcz26_2
      try clear hcz32_0
      try clear hcz32_1
      try clear hcz32_2
      try clear hcz34_0
      try clear hcz34_1
      try clear hcz34_2
      try clear hcz38_0
      try clear hcz38_1
      try clear hcz38_2
      try clear hcz40_0
      try clear hcz40_1
      try clear hcz40_2
      try clear hcz43_0
      try clear hcz43_1
      try clear hcz43_2
      try clear hcz45_0
      try clear hcz45_1
      try clear hcz45_2
      try clear hcz54_0
      try clear hcz54_1
      try clear hcz54_2
      try clear hcz61_0
      try clear hcz61_1
      try clear hcz61_2
      try clear hfz13_0
      try clear hfz13_1
      try clear hfz15_0
      try clear hfz15_1
      try clear hfz21_0
      try clear hfz21_1
      try clear hfz21_2
      try clear hfz26_0
      try clear hfz26_1
      try clear hfz26_2
      try clear hfz32_0
      try clear hfz32_1
      try clear hfz32_2
      try clear hfz34_0
      try clear hfz34_1
      try clear hfz34_2
      try clear hfz38_0
      try clear hfz38_1
      try clear hfz38_2
      try clear hfz40_0
      try clear hfz40_1
      try clear hfz40_2
      try clear hfz43_0
      try clear hfz43_1
      try clear hfz43_2
      try clear hfz45_0
      try clear hfz45_1
      try clear hfz45_2
      try clear hfz54_0
      try clear hfz54_1
      try clear hfz54_2
      try clear hfz61_0
      try clear hfz61_1
      try clear hfz61_2
      try clear p2
      obtain ⟨kq, x102_47, rfl, HA, HJ47, BK383, BK394, BK400, BK406, HB⟩ := hcut
      cases kq with
      | zero => exact absurd HA.out (by simp [laws_FnLogLines.j1])
      | succ kj47 =>
       have H := HA.out
       clear HA
       simp only [laws_FnLogLines.j1] at H
       by_cases c62 : x102_47 = true
       ·subst c62
        have H1 : (some false) = some r := by rw [if_pos rfl] at H; exact H
        clear H
        have H := H1
        clear H1
        obtain rfl := Option.some.inj H
        go_wp2
        go_ret
        exact ⟨by first | rfl | (simp [errW_none, errW_some] <;> rfl) | (simp [*, errW_none, errW_some] <;> rfl), by repeat (first | (with_reducible first | exact HB.out | apply below_alloc | apply pw_below_drewN | apply below_drew1 | refine below_set ?_ GE383.out | refine below_set ?_ GE394.out | refine below_set ?_ GE400.out | refine below_set ?_ GE406.out) | exact HB.out)⟩
       ·replace c62 := Bool.eq_false_iff.mpr c62
        subst c62
        have H1 : ((impl_SyncLog.f kj47 t389 t390 t391).bind fun bt407 => (if t393 = true then (if bt407.2.2.2 = true then (if (bt407.1.toList == t389.toList && (bt407.2.1.toList == t390.toList && (bt407.2.2.1 == t391))) = true then ((impl_IsValidLog.f kj47 t389 t390 t391).bind fun t412 => (if t412 = true then (if t385 = true then (some true) else (some (t384.toList == ([] : List UInt8)))) else (some false))) else (some false)) else (some false)) else (some true))) = some r := by rw [if_neg (show ¬ (false = true) by decide)] at H; exact H
        clear H
        have H := H1
        clear H1
        replace H := Option.bind_eq_some_iff.mp H
        obtain ⟨⟨t407, t408, t409, t410⟩, A630, H⟩ := H
        replace H : (if t393 = true then (if t410 = true then (if (t407.toList == t389.toList && (t408.toList == t390.toList && (t409 == t391))) = true then ((impl_IsValidLog.f kj47 t389 t390 t391).bind fun t412 => (if t412 = true then (if t385 = true then (some true) else (some (t384.toList == ([] : List UInt8)))) else (some false))) else (some false)) else (some false)) else (some true)) = some r := H
        have A63 := Aside0.mk A630
        clear A630
        by_cases c64 : t393 = true
        ·subst c64
         have H1 : (if t410 = true then (if (t407.toList == t389.toList && (t408.toList == t390.toList && (t409 == t391))) = true then ((impl_IsValidLog.f kj47 t389 t390 t391).bind fun t412 => (if t412 = true then (if t385 = true then (some true) else (some (t384.toList == ([] : List UInt8)))) else (some false))) else (some false)) else (some false)) = some r := by rw [if_pos rfl] at H; exact H
         clear H
         have H := H1
         clear H1
         by_cases c65 : t410 = true
         ·subst c65
          have H1 : (if (t407.toList == t389.toList && (t408.toList == t390.toList && (t409 == t391))) = true then ((impl_IsValidLog.f kj47 t389 t390 t391).bind fun t412 => (if t412 = true then (if t385 = true then (some true) else (some (t384.toList == ([] : List UInt8)))) else (some false))) else (some false)) = some r := by rw [if_pos rfl] at H; exact H
          clear H
          have H := H1
          clear H1
          by_cases c66 : (t407.toList == t389.toList && (t408.toList == t390.toList && (t409 == t391))) = true
          ·rw [if_pos c66] at H
           have c66b0 : (t407.toList == t389.toList && (t408.toList == t390.toList && (t409 == t391))) = true := c66
           (try (have c66b1 : decide (t407.toList = t389.toList && (t408.toList == t390.toList && (t409 == t391))) = true := by simpa using c66))
           (try (have c66b2 : (t407.toList == t389.toList && (t408.toList == t390.toList && (t409 == t391))) = true := by simpa using c66))
           clear c66
           replace H := Option.bind_eq_some_iff.mp H
           obtain ⟨t412, A670, H⟩ := H
           replace H : (if t412 = true then (if t385 = true then (some true) else (some (t384.toList == ([] : List UInt8)))) else (some false)) = some r := H
           have A67 := Aside0.mk A670
           clear A670
           by_cases c68 : t412 = true
           ·subst c68
            have H1 : (if t385 = true then (some true) else (some (t384.toList == ([] : List UInt8)))) = some r := by rw [if_pos rfl] at H; exact H
            clear H
            have H := H1
            clear H1
            by_cases c69 : t385 = true
            ·subst c69
             have H1 : (some true) = some r := by rw [if_pos rfl] at H; exact H
             clear H
             have H := H1
             clear H1
             obtain rfl := Option.some.inj H
             have hnb70 := NB394_383.out
             have hnc70 := NB383_394.out
             have hnb71 := NB394_400.out
             have hnc71 := NB400_394.out
             have hnb72 := NB394_406.out
             have hnc72 := NB406_394.out
             have hcz73_0 : wc.cell? ⟨gb394, 0, none⟩ = some (.string t389) := (blk_cell BK394.out 0).trans rfl
             have hcz73_1 : wc.cell? ⟨gb394, 1, none⟩ = some (.string t390) := (blk_cell BK394.out 1).trans rfl
             have hcz73_2 : wc.cell? ⟨gb394, 2, none⟩ = some (.int .i64 t391) := (blk_cell BK394.out 2).trans rfl
             have hfz73_0 := blk_frozen BK394.out 0
             have hfz73_1 := blk_frozen BK394.out 1
             have hfz73_2 := blk_frozen BK394.out 2
             go_wp2_with (first | ((with_reducible refine gate_callee (f := 27) rfl ?_); refine goesL_ (some 105) rfl rfl Tryd.func27 (by kernel_rfl) rfl #[.agg #[.string t389, .string t390, .int .i64 t391]] rfl ZZ19826e ?_; (with_reducible refine (impl_SyncLog.calls kj47 t389 t390 t391 t407 t408 t409 true _ ?side1 A63.out).mono ?_); (case side1 => first | exact HV.out | exact TInv.below HV.out ZZ936f62); rintro e w74 ⟨rfl, hb⟩; refine ⟨_, rfl, ?_⟩; have n0_ := Aside0.mk (blk_below (g := gb383) (o := .cells #[.string t381, .string t382] 27 (0, 0)) ZZ09b804 hb); have n1_ := Aside0.mk (blk_below (g := gb394) (o := .cells #[.string t389, .string t390, .int .i64 t391] 31 (0, 0)) ZZ6aba7e hb); have n2_ := Aside0.mk (blk_below (g := gb400) (o := .cells #[.string t395, .string t396, .int .i64 t397] 31 (0, 0)) ZZ8e4877 hb); have n3_ := Aside0.mk (blk_below (g := gb406) (o := .cells #[.string t401, .string t402, .int .i64 t403] 31 (0, 0)) ZZ4f25c3 hb); have n4_ := Aside0.mk (below_step ZZ936f62 hb); clear BK383; clear BK394; clear BK400; clear BK406; clear HB; have BK383 := n0_; have BK394 := n1_; have BK400 := n2_; have BK406 := n3_; have HB := n4_; clear n0_ n1_ n2_ n3_ n4_; (try clear hb); (try clear hb2); (try clear hk); (try clear hi)) | ((with_reducible refine gate_dst (N := 19) rfl ?_); refine box_event ?hg (N := 19) ?hd (cs := #[.string (⟨#[]⟩ : ByteArray), .string (⟨#[]⟩ : ByteArray), .int .i64 0]) (t := 31) ?hr ?_; (case hd => rfl); (case hg => rfl); (case hr => first | (go_simp; done) | (go_simp; rfl)); intro gb411 hg w75 hbox hb; have n0_ := Aside0.mk (blk_below (g := gb383) (o := .cells #[.string t381, .string t382] 27 (0, 0)) ZZ09b804 hb); have n1_ := Aside0.mk (blk_below (g := gb394) (o := .cells #[.string t389, .string t390, .int .i64 t391] 31 (0, 0)) ZZ6aba7e hb); have n2_ := Aside0.mk (blk_below (g := gb400) (o := .cells #[.string t395, .string t396, .int .i64 t397] 31 (0, 0)) ZZ8e4877 hb); have n3_ := Aside0.mk (blk_below (g := gb406) (o := .cells #[.string t401, .string t402, .int .i64 t403] 31 (0, 0)) ZZ4f25c3 hb); have n4_ := Aside0.mk (below_step ZZ936f62 hb); have n5_ := Aside0.mk (hbox); have n6_ := Aside0.mk ((by rw [hg]; exact (below_size ZZ936f62) : w.heap.size ≤ gb411)); have n7_ := Aside0.mk ((by rw [hg]; exact (below_size ZZ936f62) : w.heap.size ≤ gb411)); have n8_ := Aside0.mk ((by rw [hg]; exact Nat.ne_of_lt (blk_lt (g := gb383) (o := .cells #[.string t381, .string t382] 27 (0, 0)) ZZ09b804) : gb383 ≠ gb411)); have n9_ := Aside0.mk ((by rw [hg]; exact Nat.ne_of_gt (blk_lt (g := gb383) (o := .cells #[.string t381, .string t382] 27 (0, 0)) ZZ09b804) : gb411 ≠ gb383)); have n10_ := Aside0.mk ((by rw [hg]; exact Nat.ne_of_lt (blk_lt (g := gb394) (o := .cells #[.string t389, .string t390, .int .i64 t391] 31 (0, 0)) ZZ6aba7e) : gb394 ≠ gb411)); have n11_ := Aside0.mk ((by rw [hg]; exact Nat.ne_of_gt (blk_lt (g := gb394) (o := .cells #[.string t389, .string t390, .int .i64 t391] 31 (0, 0)) ZZ6aba7e) : gb411 ≠ gb394)); have n12_ := Aside0.mk ((by rw [hg]; exact Nat.ne_of_lt (blk_lt (g := gb400) (o := .cells #[.string t395, .string t396, .int .i64 t397] 31 (0, 0)) ZZ8e4877) : gb400 ≠ gb411)); have n13_ := Aside0.mk ((by rw [hg]; exact Nat.ne_of_gt (blk_lt (g := gb400) (o := .cells #[.string t395, .string t396, .int .i64 t397] 31 (0, 0)) ZZ8e4877) : gb411 ≠ gb400)); have n14_ := Aside0.mk ((by rw [hg]; exact Nat.ne_of_lt (blk_lt (g := gb406) (o := .cells #[.string t401, .string t402, .int .i64 t403] 31 (0, 0)) ZZ4f25c3) : gb406 ≠ gb411)); have n15_ := Aside0.mk ((by rw [hg]; exact Nat.ne_of_gt (blk_lt (g := gb406) (o := .cells #[.string t401, .string t402, .int .i64 t403] 31 (0, 0)) ZZ4f25c3) : gb411 ≠ gb406)); clear BK383; clear BK394; clear BK400; clear BK406; clear HB; have BK383 := n0_; have BK394 := n1_; have BK400 := n2_; have BK406 := n3_; have HB := n4_; have BK411 := n5_; have GW411 := n6_; have GE411 := n7_; have NB383_411 := n8_; have NB411_383 := n9_; have NB394_411 := n10_; have NB411_394 := n11_; have NB400_411 := n12_; have NB411_400 := n13_; have NB406_411 := n14_; have NB411_406 := n15_; clear n0_ n1_ n2_ n3_ n4_ n5_ n6_ n7_ n8_ n9_ n10_ n11_ n12_ n13_ n14_ n15_; clear hb hbox hg; have hnb76 := NB411_383.out; have hnc76 := NB383_411.out; have hnb77 := NB411_394.out; have hnc77 := NB394_411.out; have hnb78 := NB411_400.out; have hnc78 := NB400_411.out; have hnb79 := NB411_406.out; have hnc79 := NB406_411.out; have hcz80_0 : w75.cell? ⟨gb411, 0, none⟩ = some (.string (⟨#[]⟩ : ByteArray)) := (blk_cell BK411.out 0).trans rfl; have hcz80_1 : w75.cell? ⟨gb411, 1, none⟩ = some (.string (⟨#[]⟩ : ByteArray)) := (blk_cell BK411.out 1).trans rfl; have hcz80_2 : w75.cell? ⟨gb411, 2, none⟩ = some (.int .i64 0) := (blk_cell BK411.out 2).trans rfl; have hfz80_0 := blk_frozen BK411.out 0; have hfz80_1 := blk_frozen BK411.out 1; have hfz80_2 := blk_frozen BK411.out 2; have hcz81_0 : w75.cell? ⟨gb394, 0, none⟩ = some (.string t389) := (blk_cell BK394.out 0).trans rfl; have hcz81_1 : w75.cell? ⟨gb394, 1, none⟩ = some (.string t390) := (blk_cell BK394.out 1).trans rfl; have hcz81_2 : w75.cell? ⟨gb394, 2, none⟩ = some (.int .i64 t391) := (blk_cell BK394.out 2).trans rfl; have hfz81_0 := blk_frozen BK394.out 0; have hfz81_1 := blk_frozen BK394.out 1; have hfz81_2 := blk_frozen BK394.out 2) | (go_at_call 23; (with_reducible refine (impl_IsValidLog.calls kj47 t389 t390 t391 true _ ?side1 A67.out).mono ?_); (case side1 => first | exact HV.out | exact TInv.below HV.out ZZ5aae01); rintro e w82 ⟨rfl, hb⟩; have n0_ := Aside0.mk (blk_below (g := gb383) (o := .cells #[.string t381, .string t382] 27 (0, 0)) ZZ41d5cc hb); have n1_ := Aside0.mk (blk_below (g := gb394) (o := .cells #[.string t389, .string t390, .int .i64 t391] 31 (0, 0)) ZZdca884 hb); have n2_ := Aside0.mk (blk_below (g := gb400) (o := .cells #[.string t395, .string t396, .int .i64 t397] 31 (0, 0)) ZZ1077b4 hb); have n3_ := Aside0.mk (blk_below (g := gb406) (o := .cells #[.string t401, .string t402, .int .i64 t403] 31 (0, 0)) ZZ3df1f1 hb); have n4_ := Aside0.mk (blk_below (g := gb411) (o := .cells #[.string t407, .string t408, .int .i64 t409] 31 (0, 0)) ZZb42226 hb); have n5_ := Aside0.mk (below_step ZZ5aae01 hb); clear BK383; clear BK394; clear BK400; clear BK406; clear BK411; clear HB; have BK383 := n0_; have BK394 := n1_; have BK400 := n2_; have BK406 := n3_; have BK411 := n4_; have HB := n5_; clear n0_ n1_ n2_ n3_ n4_ n5_; (try clear hb); (try clear hb2); (try clear hk); (try clear hi)))
             go_ret
             exact ⟨by first | rfl | (simp [errW_none, errW_some] <;> rfl) | (simp [*, errW_none, errW_some] <;> rfl), by repeat (first | (with_reducible first | exact HB.out | apply below_alloc | apply pw_below_drewN | apply below_drew1 | refine below_set ?_ GE383.out | refine below_set ?_ GE394.out | refine below_set ?_ GE400.out | refine below_set ?_ GE406.out | refine below_set ?_ GE411.out) | exact HB.out)⟩
            ·replace c69 := Bool.eq_false_iff.mpr c69
             subst c69
             have H1 : (some (t384.toList == ([] : List UInt8))) = some r := by rw [if_neg (show ¬ (false = true) by decide)] at H; exact H
             clear H
             have H := H1
             clear H1
             obtain rfl := Option.some.inj H
             have hnb83 := NB394_383.out
             have hnc83 := NB383_394.out
             have hnb84 := NB394_400.out
             have hnc84 := NB400_394.out
             have hnb85 := NB394_406.out
             have hnc85 := NB406_394.out
             have hcz86_0 : wc.cell? ⟨gb394, 0, none⟩ = some (.string t389) := (blk_cell BK394.out 0).trans rfl
             have hcz86_1 : wc.cell? ⟨gb394, 1, none⟩ = some (.string t390) := (blk_cell BK394.out 1).trans rfl
             have hcz86_2 : wc.cell? ⟨gb394, 2, none⟩ = some (.int .i64 t391) := (blk_cell BK394.out 2).trans rfl
             have hfz86_0 := blk_frozen BK394.out 0
             have hfz86_1 := blk_frozen BK394.out 1
             have hfz86_2 := blk_frozen BK394.out 2
             go_wp2_with (first | ((with_reducible refine gate_callee (f := 27) rfl ?_); refine goesL_ (some 105) rfl rfl Tryd.func27 (by kernel_rfl) rfl #[.agg #[.string t389, .string t390, .int .i64 t391]] rfl ZZ19826e ?_; (with_reducible refine (impl_SyncLog.calls kj47 t389 t390 t391 t407 t408 t409 true _ ?side1 A63.out).mono ?_); (case side1 => first | exact HV.out | exact TInv.below HV.out ZZ936f62); rintro e w87 ⟨rfl, hb⟩; refine ⟨_, rfl, ?_⟩; have n0_ := Aside0.mk (blk_below (g := gb383) (o := .cells #[.string t381, .string t382] 27 (0, 0)) ZZ09b804 hb); have n1_ := Aside0.mk (blk_below (g := gb394) (o := .cells #[.string t389, .string t390, .int .i64 t391] 31 (0, 0)) ZZ6aba7e hb); have n2_ := Aside0.mk (blk_below (g := gb400) (o := .cells #[.string t395, .string t396, .int .i64 t397] 31 (0, 0)) ZZ8e4877 hb); have n3_ := Aside0.mk (blk_below (g := gb406) (o := .cells #[.string t401, .string t402, .int .i64 t403] 31 (0, 0)) ZZ4f25c3 hb); have n4_ := Aside0.mk (below_step ZZ936f62 hb); clear BK383; clear BK394; clear BK400; clear BK406; clear HB; have BK383 := n0_; have BK394 := n1_; have BK400 := n2_; have BK406 := n3_; have HB := n4_; clear n0_ n1_ n2_ n3_ n4_; (try clear hb); (try clear hb2); (try clear hk); (try clear hi)) | ((with_reducible refine gate_dst (N := 19) rfl ?_); refine box_event ?hg (N := 19) ?hd (cs := #[.string (⟨#[]⟩ : ByteArray), .string (⟨#[]⟩ : ByteArray), .int .i64 0]) (t := 31) ?hr ?_; (case hd => rfl); (case hg => rfl); (case hr => first | (go_simp; done) | (go_simp; rfl)); intro gb411 hg w88 hbox hb; have n0_ := Aside0.mk (blk_below (g := gb383) (o := .cells #[.string t381, .string t382] 27 (0, 0)) ZZ09b804 hb); have n1_ := Aside0.mk (blk_below (g := gb394) (o := .cells #[.string t389, .string t390, .int .i64 t391] 31 (0, 0)) ZZ6aba7e hb); have n2_ := Aside0.mk (blk_below (g := gb400) (o := .cells #[.string t395, .string t396, .int .i64 t397] 31 (0, 0)) ZZ8e4877 hb); have n3_ := Aside0.mk (blk_below (g := gb406) (o := .cells #[.string t401, .string t402, .int .i64 t403] 31 (0, 0)) ZZ4f25c3 hb); have n4_ := Aside0.mk (below_step ZZ936f62 hb); have n5_ := Aside0.mk (hbox); have n6_ := Aside0.mk ((by rw [hg]; exact (below_size ZZ936f62) : w.heap.size ≤ gb411)); have n7_ := Aside0.mk ((by rw [hg]; exact (below_size ZZ936f62) : w.heap.size ≤ gb411)); have n8_ := Aside0.mk ((by rw [hg]; exact Nat.ne_of_lt (blk_lt (g := gb383) (o := .cells #[.string t381, .string t382] 27 (0, 0)) ZZ09b804) : gb383 ≠ gb411)); have n9_ := Aside0.mk ((by rw [hg]; exact Nat.ne_of_gt (blk_lt (g := gb383) (o := .cells #[.string t381, .string t382] 27 (0, 0)) ZZ09b804) : gb411 ≠ gb383)); have n10_ := Aside0.mk ((by rw [hg]; exact Nat.ne_of_lt (blk_lt (g := gb394) (o := .cells #[.string t389, .string t390, .int .i64 t391] 31 (0, 0)) ZZ6aba7e) : gb394 ≠ gb411)); have n11_ := Aside0.mk ((by rw [hg]; exact Nat.ne_of_gt (blk_lt (g := gb394) (o := .cells #[.string t389, .string t390, .int .i64 t391] 31 (0, 0)) ZZ6aba7e) : gb411 ≠ gb394)); have n12_ := Aside0.mk ((by rw [hg]; exact Nat.ne_of_lt (blk_lt (g := gb400) (o := .cells #[.string t395, .string t396, .int .i64 t397] 31 (0, 0)) ZZ8e4877) : gb400 ≠ gb411)); have n13_ := Aside0.mk ((by rw [hg]; exact Nat.ne_of_gt (blk_lt (g := gb400) (o := .cells #[.string t395, .string t396, .int .i64 t397] 31 (0, 0)) ZZ8e4877) : gb411 ≠ gb400)); have n14_ := Aside0.mk ((by rw [hg]; exact Nat.ne_of_lt (blk_lt (g := gb406) (o := .cells #[.string t401, .string t402, .int .i64 t403] 31 (0, 0)) ZZ4f25c3) : gb406 ≠ gb411)); have n15_ := Aside0.mk ((by rw [hg]; exact Nat.ne_of_gt (blk_lt (g := gb406) (o := .cells #[.string t401, .string t402, .int .i64 t403] 31 (0, 0)) ZZ4f25c3) : gb411 ≠ gb406)); clear BK383; clear BK394; clear BK400; clear BK406; clear HB; have BK383 := n0_; have BK394 := n1_; have BK400 := n2_; have BK406 := n3_; have HB := n4_; have BK411 := n5_; have GW411 := n6_; have GE411 := n7_; have NB383_411 := n8_; have NB411_383 := n9_; have NB394_411 := n10_; have NB411_394 := n11_; have NB400_411 := n12_; have NB411_400 := n13_; have NB406_411 := n14_; have NB411_406 := n15_; clear n0_ n1_ n2_ n3_ n4_ n5_ n6_ n7_ n8_ n9_ n10_ n11_ n12_ n13_ n14_ n15_; clear hb hbox hg; have hnb89 := NB411_383.out; have hnc89 := NB383_411.out; have hnb90 := NB411_394.out; have hnc90 := NB394_411.out; have hnb91 := NB411_400.out; have hnc91 := NB400_411.out; have hnb92 := NB411_406.out; have hnc92 := NB406_411.out; have hcz93_0 : w88.cell? ⟨gb411, 0, none⟩ = some (.string (⟨#[]⟩ : ByteArray)) := (blk_cell BK411.out 0).trans rfl; have hcz93_1 : w88.cell? ⟨gb411, 1, none⟩ = some (.string (⟨#[]⟩ : ByteArray)) := (blk_cell BK411.out 1).trans rfl; have hcz93_2 : w88.cell? ⟨gb411, 2, none⟩ = some (.int .i64 0) := (blk_cell BK411.out 2).trans rfl; have hfz93_0 := blk_frozen BK411.out 0; have hfz93_1 := blk_frozen BK411.out 1; have hfz93_2 := blk_frozen BK411.out 2; have hcz94_0 : w88.cell? ⟨gb394, 0, none⟩ = some (.string t389) := (blk_cell BK394.out 0).trans rfl; have hcz94_1 : w88.cell? ⟨gb394, 1, none⟩ = some (.string t390) := (blk_cell BK394.out 1).trans rfl; have hcz94_2 : w88.cell? ⟨gb394, 2, none⟩ = some (.int .i64 t391) := (blk_cell BK394.out 2).trans rfl; have hfz94_0 := blk_frozen BK394.out 0; have hfz94_1 := blk_frozen BK394.out 1; have hfz94_2 := blk_frozen BK394.out 2) | (go_at_call 23; (with_reducible refine (impl_IsValidLog.calls kj47 t389 t390 t391 true _ ?side1 A67.out).mono ?_); (case side1 => first | exact HV.out | exact TInv.below HV.out ZZ5aae01); rintro e w95 ⟨rfl, hb⟩; have n0_ := Aside0.mk (blk_below (g := gb383) (o := .cells #[.string t381, .string t382] 27 (0, 0)) ZZ41d5cc hb); have n1_ := Aside0.mk (blk_below (g := gb394) (o := .cells #[.string t389, .string t390, .int .i64 t391] 31 (0, 0)) ZZdca884 hb); have n2_ := Aside0.mk (blk_below (g := gb400) (o := .cells #[.string t395, .string t396, .int .i64 t397] 31 (0, 0)) ZZ1077b4 hb); have n3_ := Aside0.mk (blk_below (g := gb406) (o := .cells #[.string t401, .string t402, .int .i64 t403] 31 (0, 0)) ZZ3df1f1 hb); have n4_ := Aside0.mk (blk_below (g := gb411) (o := .cells #[.string t407, .string t408, .int .i64 t409] 31 (0, 0)) ZZb42226 hb); have n5_ := Aside0.mk (below_step ZZ5aae01 hb); clear BK383; clear BK394; clear BK400; clear BK406; clear BK411; clear HB; have BK383 := n0_; have BK394 := n1_; have BK400 := n2_; have BK406 := n3_; have BK411 := n4_; have HB := n5_; clear n0_ n1_ n2_ n3_ n4_ n5_; (try clear hb); (try clear hb2); (try clear hk); (try clear hi)))
             go_ret
             exact ⟨by first | rfl | (simp [errW_none, errW_some] <;> rfl) | (simp [*, errW_none, errW_some] <;> rfl), by repeat (first | (with_reducible first | exact HB.out | apply below_alloc | apply pw_below_drewN | apply below_drew1 | refine below_set ?_ GE383.out | refine below_set ?_ GE394.out | refine below_set ?_ GE400.out | refine below_set ?_ GE406.out | refine below_set ?_ GE411.out) | exact HB.out)⟩
           ·replace c68 := Bool.eq_false_iff.mpr c68
            subst c68
            have H1 : (some false) = some r := by rw [if_neg (show ¬ (false = true) by decide)] at H; exact H
            clear H
            have H := H1
            clear H1
            obtain rfl := Option.some.inj H
            have hnb96 := NB394_383.out
            have hnc96 := NB383_394.out
            have hnb97 := NB394_400.out
            have hnc97 := NB400_394.out
            have hnb98 := NB394_406.out
            have hnc98 := NB406_394.out
            have hcz99_0 : wc.cell? ⟨gb394, 0, none⟩ = some (.string t389) := (blk_cell BK394.out 0).trans rfl
            have hcz99_1 : wc.cell? ⟨gb394, 1, none⟩ = some (.string t390) := (blk_cell BK394.out 1).trans rfl
            have hcz99_2 : wc.cell? ⟨gb394, 2, none⟩ = some (.int .i64 t391) := (blk_cell BK394.out 2).trans rfl
            have hfz99_0 := blk_frozen BK394.out 0
            have hfz99_1 := blk_frozen BK394.out 1
            have hfz99_2 := blk_frozen BK394.out 2
            go_wp2_with (first | ((with_reducible refine gate_callee (f := 27) rfl ?_); refine goesL_ (some 105) rfl rfl Tryd.func27 (by kernel_rfl) rfl #[.agg #[.string t389, .string t390, .int .i64 t391]] rfl ZZ19826e ?_; (with_reducible refine (impl_SyncLog.calls kj47 t389 t390 t391 t407 t408 t409 true _ ?side1 A63.out).mono ?_); (case side1 => first | exact HV.out | exact TInv.below HV.out ZZ936f62); rintro e w100 ⟨rfl, hb⟩; refine ⟨_, rfl, ?_⟩; have n0_ := Aside0.mk (blk_below (g := gb383) (o := .cells #[.string t381, .string t382] 27 (0, 0)) ZZ09b804 hb); have n1_ := Aside0.mk (blk_below (g := gb394) (o := .cells #[.string t389, .string t390, .int .i64 t391] 31 (0, 0)) ZZ6aba7e hb); have n2_ := Aside0.mk (blk_below (g := gb400) (o := .cells #[.string t395, .string t396, .int .i64 t397] 31 (0, 0)) ZZ8e4877 hb); have n3_ := Aside0.mk (blk_below (g := gb406) (o := .cells #[.string t401, .string t402, .int .i64 t403] 31 (0, 0)) ZZ4f25c3 hb); have n4_ := Aside0.mk (below_step ZZ936f62 hb); clear BK383; clear BK394; clear BK400; clear BK406; clear HB; have BK383 := n0_; have BK394 := n1_; have BK400 := n2_; have BK406 := n3_; have HB := n4_; clear n0_ n1_ n2_ n3_ n4_; (try clear hb); (try clear hb2); (try clear hk); (try clear hi)) | ((with_reducible refine gate_dst (N := 19) rfl ?_); refine box_event ?hg (N := 19) ?hd (cs := #[.string (⟨#[]⟩ : ByteArray), .string (⟨#[]⟩ : ByteArray), .int .i64 0]) (t := 31) ?hr ?_; (case hd => rfl); (case hg => rfl); (case hr => first | (go_simp; done) | (go_simp; rfl)); intro gb411 hg w101 hbox hb; have n0_ := Aside0.mk (blk_below (g := gb383) (o := .cells #[.string t381, .string t382] 27 (0, 0)) ZZ09b804 hb); have n1_ := Aside0.mk (blk_below (g := gb394) (o := .cells #[.string t389, .string t390, .int .i64 t391] 31 (0, 0)) ZZ6aba7e hb); have n2_ := Aside0.mk (blk_below (g := gb400) (o := .cells #[.string t395, .string t396, .int .i64 t397] 31 (0, 0)) ZZ8e4877 hb); have n3_ := Aside0.mk (blk_below (g := gb406) (o := .cells #[.string t401, .string t402, .int .i64 t403] 31 (0, 0)) ZZ4f25c3 hb); have n4_ := Aside0.mk (below_step ZZ936f62 hb); have n5_ := Aside0.mk (hbox); have n6_ := Aside0.mk ((by rw [hg]; exact (below_size ZZ936f62) : w.heap.size ≤ gb411)); have n7_ := Aside0.mk ((by rw [hg]; exact (below_size ZZ936f62) : w.heap.size ≤ gb411)); have n8_ := Aside0.mk ((by rw [hg]; exact Nat.ne_of_lt (blk_lt (g := gb383) (o := .cells #[.string t381, .string t382] 27 (0, 0)) ZZ09b804) : gb383 ≠ gb411)); have n9_ := Aside0.mk ((by rw [hg]; exact Nat.ne_of_gt (blk_lt (g := gb383) (o := .cells #[.string t381, .string t382] 27 (0, 0)) ZZ09b804) : gb411 ≠ gb383)); have n10_ := Aside0.mk ((by rw [hg]; exact Nat.ne_of_lt (blk_lt (g := gb394) (o := .cells #[.string t389, .string t390, .int .i64 t391] 31 (0, 0)) ZZ6aba7e) : gb394 ≠ gb411)); have n11_ := Aside0.mk ((by rw [hg]; exact Nat.ne_of_gt (blk_lt (g := gb394) (o := .cells #[.string t389, .string t390, .int .i64 t391] 31 (0, 0)) ZZ6aba7e) : gb411 ≠ gb394)); have n12_ := Aside0.mk ((by rw [hg]; exact Nat.ne_of_lt (blk_lt (g := gb400) (o := .cells #[.string t395, .string t396, .int .i64 t397] 31 (0, 0)) ZZ8e4877) : gb400 ≠ gb411)); have n13_ := Aside0.mk ((by rw [hg]; exact Nat.ne_of_gt (blk_lt (g := gb400) (o := .cells #[.string t395, .string t396, .int .i64 t397] 31 (0, 0)) ZZ8e4877) : gb411 ≠ gb400)); have n14_ := Aside0.mk ((by rw [hg]; exact Nat.ne_of_lt (blk_lt (g := gb406) (o := .cells #[.string t401, .string t402, .int .i64 t403] 31 (0, 0)) ZZ4f25c3) : gb406 ≠ gb411)); have n15_ := Aside0.mk ((by rw [hg]; exact Nat.ne_of_gt (blk_lt (g := gb406) (o := .cells #[.string t401, .string t402, .int .i64 t403] 31 (0, 0)) ZZ4f25c3) : gb411 ≠ gb406)); clear BK383; clear BK394; clear BK400; clear BK406; clear HB; have BK383 := n0_; have BK394 := n1_; have BK400 := n2_; have BK406 := n3_; have HB := n4_; have BK411 := n5_; have GW411 := n6_; have GE411 := n7_; have NB383_411 := n8_; have NB411_383 := n9_; have NB394_411 := n10_; have NB411_394 := n11_; have NB400_411 := n12_; have NB411_400 := n13_; have NB406_411 := n14_; have NB411_406 := n15_; clear n0_ n1_ n2_ n3_ n4_ n5_ n6_ n7_ n8_ n9_ n10_ n11_ n12_ n13_ n14_ n15_; clear hb hbox hg; have hnb102 := NB411_383.out; have hnc102 := NB383_411.out; have hnb103 := NB411_394.out; have hnc103 := NB394_411.out; have hnb104 := NB411_400.out; have hnc104 := NB400_411.out; have hnb105 := NB411_406.out; have hnc105 := NB406_411.out; have hcz106_0 : w101.cell? ⟨gb411, 0, none⟩ = some (.string (⟨#[]⟩ : ByteArray)) := (blk_cell BK411.out 0).trans rfl; have hcz106_1 : w101.cell? ⟨gb411, 1, none⟩ = some (.string (⟨#[]⟩ : ByteArray)) := (blk_cell BK411.out 1).trans rfl; have hcz106_2 : w101.cell? ⟨gb411, 2, none⟩ = some (.int .i64 0) := (blk_cell BK411.out 2).trans rfl; have hfz106_0 := blk_frozen BK411.out 0; have hfz106_1 := blk_frozen BK411.out 1; have hfz106_2 := blk_frozen BK411.out 2; have hcz107_0 : w101.cell? ⟨gb394, 0, none⟩ = some (.string t389) := (blk_cell BK394.out 0).trans rfl; have hcz107_1 : w101.cell? ⟨gb394, 1, none⟩ = some (.string t390) := (blk_cell BK394.out 1).trans rfl; have hcz107_2 : w101.cell? ⟨gb394, 2, none⟩ = some (.int .i64 t391) := (blk_cell BK394.out 2).trans rfl; have hfz107_0 := blk_frozen BK394.out 0; have hfz107_1 := blk_frozen BK394.out 1; have hfz107_2 := blk_frozen BK394.out 2) | (go_at_call 23; (with_reducible refine (impl_IsValidLog.calls kj47 t389 t390 t391 false _ ?side1 A67.out).mono ?_); (case side1 => first | exact HV.out | exact TInv.below HV.out ZZ5aae01); rintro e w108 ⟨rfl, hb⟩; have n0_ := Aside0.mk (blk_below (g := gb383) (o := .cells #[.string t381, .string t382] 27 (0, 0)) ZZ41d5cc hb); have n1_ := Aside0.mk (blk_below (g := gb394) (o := .cells #[.string t389, .string t390, .int .i64 t391] 31 (0, 0)) ZZdca884 hb); have n2_ := Aside0.mk (blk_below (g := gb400) (o := .cells #[.string t395, .string t396, .int .i64 t397] 31 (0, 0)) ZZ1077b4 hb); have n3_ := Aside0.mk (blk_below (g := gb406) (o := .cells #[.string t401, .string t402, .int .i64 t403] 31 (0, 0)) ZZ3df1f1 hb); have n4_ := Aside0.mk (blk_below (g := gb411) (o := .cells #[.string t407, .string t408, .int .i64 t409] 31 (0, 0)) ZZb42226 hb); have n5_ := Aside0.mk (below_step ZZ5aae01 hb); clear BK383; clear BK394; clear BK400; clear BK406; clear BK411; clear HB; have BK383 := n0_; have BK394 := n1_; have BK400 := n2_; have BK406 := n3_; have BK411 := n4_; have HB := n5_; clear n0_ n1_ n2_ n3_ n4_ n5_; (try clear hb); (try clear hb2); (try clear hk); (try clear hi)))
            go_ret
            exact ⟨by first | rfl | (simp [errW_none, errW_some] <;> rfl) | (simp [*, errW_none, errW_some] <;> rfl), by repeat (first | (with_reducible first | exact HB.out | apply below_alloc | apply pw_below_drewN | apply below_drew1 | refine below_set ?_ GE383.out | refine below_set ?_ GE394.out | refine below_set ?_ GE400.out | refine below_set ?_ GE406.out | refine below_set ?_ GE411.out) | exact HB.out)⟩
          ·rw [if_neg c66] at H
           have c66b0 : (t407.toList == t389.toList && (t408.toList == t390.toList && (t409 == t391))) = false := by simpa using c66
           (try (have c66b1 : decide (t407.toList = t389.toList && (t408.toList == t390.toList && (t409 == t391))) = false := by simpa using c66))
           (try (have c66b2 : (t407.toList == t389.toList && (t408.toList == t390.toList && (t409 == t391))) = false := by simpa using c66))
           (try (have c66b3 : ¬ (t407.toList = t389.toList && (t408.toList == t390.toList && (t409 == t391))) := by simpa using c66))
           clear c66
           obtain rfl := Option.some.inj H
           have hnb109 := NB394_383.out
           have hnc109 := NB383_394.out
           have hnb110 := NB394_400.out
           have hnc110 := NB400_394.out
           have hnb111 := NB394_406.out
           have hnc111 := NB406_394.out
           have hcz112_0 : wc.cell? ⟨gb394, 0, none⟩ = some (.string t389) := (blk_cell BK394.out 0).trans rfl
           have hcz112_1 : wc.cell? ⟨gb394, 1, none⟩ = some (.string t390) := (blk_cell BK394.out 1).trans rfl
           have hcz112_2 : wc.cell? ⟨gb394, 2, none⟩ = some (.int .i64 t391) := (blk_cell BK394.out 2).trans rfl
           have hfz112_0 := blk_frozen BK394.out 0
           have hfz112_1 := blk_frozen BK394.out 1
           have hfz112_2 := blk_frozen BK394.out 2
           go_wp2_with (first | ((with_reducible refine gate_callee (f := 27) rfl ?_); refine goesL_ (some 105) rfl rfl Tryd.func27 (by kernel_rfl) rfl #[.agg #[.string t389, .string t390, .int .i64 t391]] rfl ZZ19826e ?_; (with_reducible refine (impl_SyncLog.calls kj47 t389 t390 t391 t407 t408 t409 true _ ?side1 A63.out).mono ?_); (case side1 => first | exact HV.out | exact TInv.below HV.out ZZ936f62); rintro e w113 ⟨rfl, hb⟩; refine ⟨_, rfl, ?_⟩; have n0_ := Aside0.mk (blk_below (g := gb383) (o := .cells #[.string t381, .string t382] 27 (0, 0)) ZZ09b804 hb); have n1_ := Aside0.mk (blk_below (g := gb394) (o := .cells #[.string t389, .string t390, .int .i64 t391] 31 (0, 0)) ZZ6aba7e hb); have n2_ := Aside0.mk (blk_below (g := gb400) (o := .cells #[.string t395, .string t396, .int .i64 t397] 31 (0, 0)) ZZ8e4877 hb); have n3_ := Aside0.mk (blk_below (g := gb406) (o := .cells #[.string t401, .string t402, .int .i64 t403] 31 (0, 0)) ZZ4f25c3 hb); have n4_ := Aside0.mk (below_step ZZ936f62 hb); clear BK383; clear BK394; clear BK400; clear BK406; clear HB; have BK383 := n0_; have BK394 := n1_; have BK400 := n2_; have BK406 := n3_; have HB := n4_; clear n0_ n1_ n2_ n3_ n4_; (try clear hb); (try clear hb2); (try clear hk); (try clear hi)) | ((with_reducible refine gate_dst (N := 19) rfl ?_); refine box_event ?hg (N := 19) ?hd (cs := #[.string (⟨#[]⟩ : ByteArray), .string (⟨#[]⟩ : ByteArray), .int .i64 0]) (t := 31) ?hr ?_; (case hd => rfl); (case hg => rfl); (case hr => first | (go_simp; done) | (go_simp; rfl)); intro gb411 hg w114 hbox hb; have n0_ := Aside0.mk (blk_below (g := gb383) (o := .cells #[.string t381, .string t382] 27 (0, 0)) ZZ09b804 hb); have n1_ := Aside0.mk (blk_below (g := gb394) (o := .cells #[.string t389, .string t390, .int .i64 t391] 31 (0, 0)) ZZ6aba7e hb); have n2_ := Aside0.mk (blk_below (g := gb400) (o := .cells #[.string t395, .string t396, .int .i64 t397] 31 (0, 0)) ZZ8e4877 hb); have n3_ := Aside0.mk (blk_below (g := gb406) (o := .cells #[.string t401, .string t402, .int .i64 t403] 31 (0, 0)) ZZ4f25c3 hb); have n4_ := Aside0.mk (below_step ZZ936f62 hb); have n5_ := Aside0.mk (hbox); have n6_ := Aside0.mk ((by rw [hg]; exact (below_size ZZ936f62) : w.heap.size ≤ gb411)); have n7_ := Aside0.mk ((by rw [hg]; exact (below_size ZZ936f62) : w.heap.size ≤ gb411)); have n8_ := Aside0.mk ((by rw [hg]; exact Nat.ne_of_lt (blk_lt (g := gb383) (o := .cells #[.string t381, .string t382] 27 (0, 0)) ZZ09b804) : gb383 ≠ gb411)); have n9_ := Aside0.mk ((by rw [hg]; exact Nat.ne_of_gt (blk_lt (g := gb383) (o := .cells #[.string t381, .string t382] 27 (0, 0)) ZZ09b804) : gb411 ≠ gb383)); have n10_ := Aside0.mk ((by rw [hg]; exact Nat.ne_of_lt (blk_lt (g := gb394) (o := .cells #[.string t389, .string t390, .int .i64 t391] 31 (0, 0)) ZZ6aba7e) : gb394 ≠ gb411)); have n11_ := Aside0.mk ((by rw [hg]; exact Nat.ne_of_gt (blk_lt (g := gb394) (o := .cells #[.string t389, .string t390, .int .i64 t391] 31 (0, 0)) ZZ6aba7e) : gb411 ≠ gb394)); have n12_ := Aside0.mk ((by rw [hg]; exact Nat.ne_of_lt (blk_lt (g := gb400) (o := .cells #[.string t395, .string t396, .int .i64 t397] 31 (0, 0)) ZZ8e4877) : gb400 ≠ gb411)); have n13_ := Aside0.mk ((by rw [hg]; exact Nat.ne_of_gt (blk_lt (g := gb400) (o := .cells #[.string t395, .string t396, .int .i64 t397] 31 (0, 0)) ZZ8e4877) : gb411 ≠ gb400)); have n14_ := Aside0.mk ((by rw [hg]; exact Nat.ne_of_lt (blk_lt (g := gb406) (o := .cells #[.string t401, .string t402, .int .i64 t403] 31 (0, 0)) ZZ4f25c3) : gb406 ≠ gb411)); have n15_ := Aside0.mk ((by rw [hg]; exact Nat.ne_of_gt (blk_lt (g := gb406) (o := .cells #[.string t401, .string t402, .int .i64 t403] 31 (0, 0)) ZZ4f25c3) : gb411 ≠ gb406)); clear BK383; clear BK394; clear BK400; clear BK406; clear HB; have BK383 := n0_; have BK394 := n1_; have BK400 := n2_; have BK406 := n3_; have HB := n4_; have BK411 := n5_; have GW411 := n6_; have GE411 := n7_; have NB383_411 := n8_; have NB411_383 := n9_; have NB394_411 := n10_; have NB411_394 := n11_; have NB400_411 := n12_; have NB411_400 := n13_; have NB406_411 := n14_; have NB411_406 := n15_; clear n0_ n1_ n2_ n3_ n4_ n5_ n6_ n7_ n8_ n9_ n10_ n11_ n12_ n13_ n14_ n15_; clear hb hbox hg; have hnb115 := NB411_383.out; have hnc115 := NB383_411.out; have hnb116 := NB411_394.out; have hnc116 := NB394_411.out; have hnb117 := NB411_400.out; have hnc117 := NB400_411.out; have hnb118 := NB411_406.out; have hnc118 := NB406_411.out; have hcz119_0 : w114.cell? ⟨gb411, 0, none⟩ = some (.string (⟨#[]⟩ : ByteArray)) := (blk_cell BK411.out 0).trans rfl; have hcz119_1 : w114.cell? ⟨gb411, 1, none⟩ = some (.string (⟨#[]⟩ : ByteArray)) := (blk_cell BK411.out 1).trans rfl; have hcz119_2 : w114.cell? ⟨gb411, 2, none⟩ = some (.int .i64 0) := (blk_cell BK411.out 2).trans rfl; have hfz119_0 := blk_frozen BK411.out 0; have hfz119_1 := blk_frozen BK411.out 1; have hfz119_2 := blk_frozen BK411.out 2; have hcz120_0 : w114.cell? ⟨gb394, 0, none⟩ = some (.string t389) := (blk_cell BK394.out 0).trans rfl; have hcz120_1 : w114.cell? ⟨gb394, 1, none⟩ = some (.string t390) := (blk_cell BK394.out 1).trans rfl; have hcz120_2 : w114.cell? ⟨gb394, 2, none⟩ = some (.int .i64 t391) := (blk_cell BK394.out 2).trans rfl; have hfz120_0 := blk_frozen BK394.out 0; have hfz120_1 := blk_frozen BK394.out 1; have hfz120_2 := blk_frozen BK394.out 2))
           go_ret
           exact ⟨by first | rfl | (simp [errW_none, errW_some] <;> rfl) | (simp [*, errW_none, errW_some] <;> rfl), by repeat (first | (with_reducible first | exact HB.out | apply below_alloc | apply pw_below_drewN | apply below_drew1 | refine below_set ?_ GE383.out | refine below_set ?_ GE394.out | refine below_set ?_ GE400.out | refine below_set ?_ GE406.out | refine below_set ?_ GE411.out) | exact HB.out)⟩
         ·replace c65 := Bool.eq_false_iff.mpr c65
          subst c65
          have H1 : (some false) = some r := by rw [if_neg (show ¬ (false = true) by decide)] at H; exact H
          clear H
          have H := H1
          clear H1
          obtain rfl := Option.some.inj H
          have hnb121 := NB394_383.out
          have hnc121 := NB383_394.out
          have hnb122 := NB394_400.out
          have hnc122 := NB400_394.out
          have hnb123 := NB394_406.out
          have hnc123 := NB406_394.out
          have hcz124_0 : wc.cell? ⟨gb394, 0, none⟩ = some (.string t389) := (blk_cell BK394.out 0).trans rfl
          have hcz124_1 : wc.cell? ⟨gb394, 1, none⟩ = some (.string t390) := (blk_cell BK394.out 1).trans rfl
          have hcz124_2 : wc.cell? ⟨gb394, 2, none⟩ = some (.int .i64 t391) := (blk_cell BK394.out 2).trans rfl
          have hfz124_0 := blk_frozen BK394.out 0
          have hfz124_1 := blk_frozen BK394.out 1
          have hfz124_2 := blk_frozen BK394.out 2
          go_wp2_with (first | ((with_reducible refine gate_callee (f := 27) rfl ?_); refine goesL_ (some 105) rfl rfl Tryd.func27 (by kernel_rfl) rfl #[.agg #[.string t389, .string t390, .int .i64 t391]] rfl ZZ19826e ?_; (with_reducible refine (impl_SyncLog.calls kj47 t389 t390 t391 t407 t408 t409 false _ ?side1 A63.out).mono ?_); (case side1 => first | exact HV.out | exact TInv.below HV.out ZZ936f62); rintro e w125 ⟨rfl, hb⟩; refine ⟨_, rfl, ?_⟩; have n0_ := Aside0.mk (blk_below (g := gb383) (o := .cells #[.string t381, .string t382] 27 (0, 0)) ZZ09b804 hb); have n1_ := Aside0.mk (blk_below (g := gb394) (o := .cells #[.string t389, .string t390, .int .i64 t391] 31 (0, 0)) ZZ6aba7e hb); have n2_ := Aside0.mk (blk_below (g := gb400) (o := .cells #[.string t395, .string t396, .int .i64 t397] 31 (0, 0)) ZZ8e4877 hb); have n3_ := Aside0.mk (blk_below (g := gb406) (o := .cells #[.string t401, .string t402, .int .i64 t403] 31 (0, 0)) ZZ4f25c3 hb); have n4_ := Aside0.mk (below_step ZZ936f62 hb); clear BK383; clear BK394; clear BK400; clear BK406; clear HB; have BK383 := n0_; have BK394 := n1_; have BK400 := n2_; have BK406 := n3_; have HB := n4_; clear n0_ n1_ n2_ n3_ n4_; (try clear hb); (try clear hb2); (try clear hk); (try clear hi)) | ((with_reducible refine gate_dst (N := 19) rfl ?_); refine box_event ?hg (N := 19) ?hd (cs := #[.string (⟨#[]⟩ : ByteArray), .string (⟨#[]⟩ : ByteArray), .int .i64 0]) (t := 31) ?hr ?_; (case hd => rfl); (case hg => rfl); (case hr => first | (go_simp; done) | (go_simp; rfl)); intro gb411 hg w126 hbox hb; have n0_ := Aside0.mk (blk_below (g := gb383) (o := .cells #[.string t381, .string t382] 27 (0, 0)) ZZ09b804 hb); have n1_ := Aside0.mk (blk_below (g := gb394) (o := .cells #[.string t389, .string t390, .int .i64 t391] 31 (0, 0)) ZZ6aba7e hb); have n2_ := Aside0.mk (blk_below (g := gb400) (o := .cells #[.string t395, .string t396, .int .i64 t397] 31 (0, 0)) ZZ8e4877 hb); have n3_ := Aside0.mk (blk_below (g := gb406) (o := .cells #[.string t401, .string t402, .int .i64 t403] 31 (0, 0)) ZZ4f25c3 hb); have n4_ := Aside0.mk (below_step ZZ936f62 hb); have n5_ := Aside0.mk (hbox); have n6_ := Aside0.mk ((by rw [hg]; exact (below_size ZZ936f62) : w.heap.size ≤ gb411)); have n7_ := Aside0.mk ((by rw [hg]; exact (below_size ZZ936f62) : w.heap.size ≤ gb411)); have n8_ := Aside0.mk ((by rw [hg]; exact Nat.ne_of_lt (blk_lt (g := gb383) (o := .cells #[.string t381, .string t382] 27 (0, 0)) ZZ09b804) : gb383 ≠ gb411)); have n9_ := Aside0.mk ((by rw [hg]; exact Nat.ne_of_gt (blk_lt (g := gb383) (o := .cells #[.string t381, .string t382] 27 (0, 0)) ZZ09b804) : gb411 ≠ gb383)); have n10_ := Aside0.mk ((by rw [hg]; exact Nat.ne_of_lt (blk_lt (g := gb394) (o := .cells #[.string t389, .string t390, .int .i64 t391] 31 (0, 0)) ZZ6aba7e) : gb394 ≠ gb411)); have n11_ := Aside0.mk ((by rw [hg]; exact Nat.ne_of_gt (blk_lt (g := gb394) (o := .cells #[.string t389, .string t390, .int .i64 t391] 31 (0, 0)) ZZ6aba7e) : gb411 ≠ gb394)); have n12_ := Aside0.mk ((by rw [hg]; exact Nat.ne_of_lt (blk_lt (g := gb400) (o := .cells #[.string t395, .string t396, .int .i64 t397] 31 (0, 0)) ZZ8e4877) : gb400 ≠ gb411)); have n13_ := Aside0.mk ((by rw [hg]; exact Nat.ne_of_gt (blk_lt (g := gb400) (o := .cells #[.string t395, .string t396, .int .i64 t397] 31 (0, 0)) ZZ8e4877) : gb411 ≠ gb400)); have n14_ := Aside0.mk ((by rw [hg]; exact Nat.ne_of_lt (blk_lt (g := gb406) (o := .cells #[.string t401, .string t402, .int .i64 t403] 31 (0, 0)) ZZ4f25c3) : gb406 ≠ gb411)); have n15_ := Aside0.mk ((by rw [hg]; exact Nat.ne_of_gt (blk_lt (g := gb406) (o := .cells #[.string t401, .string t402, .int .i64 t403] 31 (0, 0)) ZZ4f25c3) : gb411 ≠ gb406)); clear BK383; clear BK394; clear BK400; clear BK406; clear HB; have BK383 := n0_; have BK394 := n1_; have BK400 := n2_; have BK406 := n3_; have HB := n4_; have BK411 := n5_; have GW411 := n6_; have GE411 := n7_; have NB383_411 := n8_; have NB411_383 := n9_; have NB394_411 := n10_; have NB411_394 := n11_; have NB400_411 := n12_; have NB411_400 := n13_; have NB406_411 := n14_; have NB411_406 := n15_; clear n0_ n1_ n2_ n3_ n4_ n5_ n6_ n7_ n8_ n9_ n10_ n11_ n12_ n13_ n14_ n15_; clear hb hbox hg; have hnb127 := NB411_383.out; have hnc127 := NB383_411.out; have hnb128 := NB411_394.out; have hnc128 := NB394_411.out; have hnb129 := NB411_400.out; have hnc129 := NB400_411.out; have hnb130 := NB411_406.out; have hnc130 := NB406_411.out; have hcz131_0 : w126.cell? ⟨gb411, 0, none⟩ = some (.string (⟨#[]⟩ : ByteArray)) := (blk_cell BK411.out 0).trans rfl; have hcz131_1 : w126.cell? ⟨gb411, 1, none⟩ = some (.string (⟨#[]⟩ : ByteArray)) := (blk_cell BK411.out 1).trans rfl; have hcz131_2 : w126.cell? ⟨gb411, 2, none⟩ = some (.int .i64 0) := (blk_cell BK411.out 2).trans rfl; have hfz131_0 := blk_frozen BK411.out 0; have hfz131_1 := blk_frozen BK411.out 1; have hfz131_2 := blk_frozen BK411.out 2))
          go_ret
          exact ⟨by first | rfl | (simp [errW_none, errW_some] <;> rfl) | (simp [*, errW_none, errW_some] <;> rfl), by repeat (first | (with_reducible first | exact HB.out | apply below_alloc | apply pw_below_drewN | apply below_drew1 | refine below_set ?_ GE383.out | refine below_set ?_ GE394.out | refine below_set ?_ GE400.out | refine below_set ?_ GE406.out | refine below_set ?_ GE411.out) | exact HB.out)⟩
        ·replace c64 := Bool.eq_false_iff.mpr c64
         subst c64
         have H1 : (some true) = some r := by rw [if_neg (show ¬ (false = true) by decide)] at H; exact H
         clear H
         have H := H1
         clear H1
         obtain rfl := Option.some.inj H
         have hnb132 := NB394_383.out
         have hnc132 := NB383_394.out
         have hnb133 := NB394_400.out
         have hnc133 := NB400_394.out
         have hnb134 := NB394_406.out
         have hnc134 := NB406_394.out
         have hcz135_0 : wc.cell? ⟨gb394, 0, none⟩ = some (.string t389) := (blk_cell BK394.out 0).trans rfl
         have hcz135_1 : wc.cell? ⟨gb394, 1, none⟩ = some (.string t390) := (blk_cell BK394.out 1).trans rfl
         have hcz135_2 : wc.cell? ⟨gb394, 2, none⟩ = some (.int .i64 t391) := (blk_cell BK394.out 2).trans rfl
         have hfz135_0 := blk_frozen BK394.out 0
         have hfz135_1 := blk_frozen BK394.out 1
         have hfz135_2 := blk_frozen BK394.out 2
         go_wp2_with (first | ((with_reducible refine gate_callee (f := 27) rfl ?_); refine goesL_ (some 105) rfl rfl Tryd.func27 (by kernel_rfl) rfl #[.agg #[.string t389, .string t390, .int .i64 t391]] rfl ZZ19826e ?_; (with_reducible refine (impl_SyncLog.calls kj47 t389 t390 t391 t407 t408 t409 t410 _ ?side1 A63.out).mono ?_); (case side1 => first | exact HV.out | exact TInv.below HV.out ZZ936f62); rintro e w136 ⟨rfl, hb⟩; refine ⟨_, rfl, ?_⟩; have n0_ := Aside0.mk (blk_below (g := gb383) (o := .cells #[.string t381, .string t382] 27 (0, 0)) ZZ09b804 hb); have n1_ := Aside0.mk (blk_below (g := gb394) (o := .cells #[.string t389, .string t390, .int .i64 t391] 31 (0, 0)) ZZ6aba7e hb); have n2_ := Aside0.mk (blk_below (g := gb400) (o := .cells #[.string t395, .string t396, .int .i64 t397] 31 (0, 0)) ZZ8e4877 hb); have n3_ := Aside0.mk (blk_below (g := gb406) (o := .cells #[.string t401, .string t402, .int .i64 t403] 31 (0, 0)) ZZ4f25c3 hb); have n4_ := Aside0.mk (below_step ZZ936f62 hb); clear BK383; clear BK394; clear BK400; clear BK406; clear HB; have BK383 := n0_; have BK394 := n1_; have BK400 := n2_; have BK406 := n3_; have HB := n4_; clear n0_ n1_ n2_ n3_ n4_; (try clear hb); (try clear hb2); (try clear hk); (try clear hi)) | ((with_reducible refine gate_dst (N := 19) rfl ?_); refine box_event ?hg (N := 19) ?hd (cs := #[.string (⟨#[]⟩ : ByteArray), .string (⟨#[]⟩ : ByteArray), .int .i64 0]) (t := 31) ?hr ?_; (case hd => rfl); (case hg => rfl); (case hr => first | (go_simp; done) | (go_simp; rfl)); intro gb411 hg w137 hbox hb; have n0_ := Aside0.mk (blk_below (g := gb383) (o := .cells #[.string t381, .string t382] 27 (0, 0)) ZZ09b804 hb); have n1_ := Aside0.mk (blk_below (g := gb394) (o := .cells #[.string t389, .string t390, .int .i64 t391] 31 (0, 0)) ZZ6aba7e hb); have n2_ := Aside0.mk (blk_below (g := gb400) (o := .cells #[.string t395, .string t396, .int .i64 t397] 31 (0, 0)) ZZ8e4877 hb); have n3_ := Aside0.mk (blk_below (g := gb406) (o := .cells #[.string t401, .string t402, .int .i64 t403] 31 (0, 0)) ZZ4f25c3 hb); have n4_ := Aside0.mk (below_step ZZ936f62 hb); have n5_ := Aside0.mk (hbox); have n6_ := Aside0.mk ((by rw [hg]; exact (below_size ZZ936f62) : w.heap.size ≤ gb411)); have n7_ := Aside0.mk ((by rw [hg]; exact (below_size ZZ936f62) : w.heap.size ≤ gb411)); have n8_ := Aside0.mk ((by rw [hg]; exact Nat.ne_of_lt (blk_lt (g := gb383) (o := .cells #[.string t381, .string t382] 27 (0, 0)) ZZ09b804) : gb383 ≠ gb411)); have n9_ := Aside0.mk ((by rw [hg]; exact Nat.ne_of_gt (blk_lt (g := gb383) (o := .cells #[.string t381, .string t382] 27 (0, 0)) ZZ09b804) : gb411 ≠ gb383)); have n10_ := Aside0.mk ((by rw [hg]; exact Nat.ne_of_lt (blk_lt (g := gb394) (o := .cells #[.string t389, .string t390, .int .i64 t391] 31 (0, 0)) ZZ6aba7e) : gb394 ≠ gb411)); have n11_ := Aside0.mk ((by rw [hg]; exact Nat.ne_of_gt (blk_lt (g := gb394) (o := .cells #[.string t389, .string t390, .int .i64 t391] 31 (0, 0)) ZZ6aba7e) : gb411 ≠ gb394)); have n12_ := Aside0.mk ((by rw [hg]; exact Nat.ne_of_lt (blk_lt (g := gb400) (o := .cells #[.string t395, .string t396, .int .i64 t397] 31 (0, 0)) ZZ8e4877) : gb400 ≠ gb411)); have n13_ := Aside0.mk ((by rw [hg]; exact Nat.ne_of_gt (blk_lt (g := gb400) (o := .cells #[.string t395, .string t396, .int .i64 t397] 31 (0, 0)) ZZ8e4877) : gb411 ≠ gb400)); have n14_ := Aside0.mk ((by rw [hg]; exact Nat.ne_of_lt (blk_lt (g := gb406) (o := .cells #[.string t401, .string t402, .int .i64 t403] 31 (0, 0)) ZZ4f25c3) : gb406 ≠ gb411)); have n15_ := Aside0.mk ((by rw [hg]; exact Nat.ne_of_gt (blk_lt (g := gb406) (o := .cells #[.string t401, .string t402, .int .i64 t403] 31 (0, 0)) ZZ4f25c3) : gb411 ≠ gb406)); clear BK383; clear BK394; clear BK400; clear BK406; clear HB; have BK383 := n0_; have BK394 := n1_; have BK400 := n2_; have BK406 := n3_; have HB := n4_; have BK411 := n5_; have GW411 := n6_; have GE411 := n7_; have NB383_411 := n8_; have NB411_383 := n9_; have NB394_411 := n10_; have NB411_394 := n11_; have NB400_411 := n12_; have NB411_400 := n13_; have NB406_411 := n14_; have NB411_406 := n15_; clear n0_ n1_ n2_ n3_ n4_ n5_ n6_ n7_ n8_ n9_ n10_ n11_ n12_ n13_ n14_ n15_; clear hb hbox hg; have hnb138 := NB411_383.out; have hnc138 := NB383_411.out; have hnb139 := NB411_394.out; have hnc139 := NB394_411.out; have hnb140 := NB411_400.out; have hnc140 := NB400_411.out; have hnb141 := NB411_406.out; have hnc141 := NB406_411.out; have hcz142_0 : w137.cell? ⟨gb411, 0, none⟩ = some (.string (⟨#[]⟩ : ByteArray)) := (blk_cell BK411.out 0).trans rfl; have hcz142_1 : w137.cell? ⟨gb411, 1, none⟩ = some (.string (⟨#[]⟩ : ByteArray)) := (blk_cell BK411.out 1).trans rfl; have hcz142_2 : w137.cell? ⟨gb411, 2, none⟩ = some (.int .i64 0) := (blk_cell BK411.out 2).trans rfl; have hfz142_0 := blk_frozen BK411.out 0; have hfz142_1 := blk_frozen BK411.out 1; have hfz142_2 := blk_frozen BK411.out 2))
         go_ret
         exact ⟨by first | rfl | (simp [errW_none, errW_some] <;> rfl) | (simp [*, errW_none, errW_some] <;> rfl), by repeat (first | (with_reducible first | exact HB.out | apply below_alloc | apply pw_below_drewN | apply below_drew1 | refine below_set ?_ GE383.out | refine below_set ?_ GE394.out | refine below_set ?_ GE400.out | refine below_set ?_ GE406.out | refine below_set ?_ GE411.out) | exact HB.out)⟩
end Go.Proofs.YtmhmeifdnleoaaaDoor.XFnLogLines

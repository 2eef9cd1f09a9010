-- Printed by wip/tools/xprint.py, a program of this session, over the kit's print; Lean checks it.
import Derived.Test.YtmhmeifdnleoaaaDoorXFnLog0
import Derived.Test.YtmhmeifdnleoaaaDoorXFnLog1
import Derived.Test.YtmhmeifdnleoaaaDoorXFnLog2
import Derived.Test.YtmhmeifdnleoaaaDoorXFnLog3
import Derived.Test.YtmhmeifdnleoaaaDoorXFnLog4
import Derived.Test.YtmhmeifdnleoaaaDoorXFnLog7
import Derived.Test.YtmhmeifdnleoaaaDoorXFnLog8
import Derived.Test.YtmhmeifdnleoaaaDoorXFnLog10
namespace Go.Proofs.YtmhmeifdnleoaaaDoor.XFnLog
open Go.Proofs.YtmhmeifdnleoaaaDoor.Short Go.RowKit Go.Proofs.YtmhmeifdnleoaaaDoorW.PrintWords Go.Proofs.YtmhmeifdnleoaaaDoorW.PrintLast Go.Proofs.YtmhmeifdnleoaaaDoorW.PrintMore
attribute [local go_sem] max2_int min2_int max_two min_two max_three min_three max_four min_four   -- for this text's walks alone
set_option linter.unusedVariables false
set_option linter.unusedSimpArgs false
theorem ZZf03468 {p : Prop} (h : p := by (with_reducible repeat (first | refine blk_drewN ?_ _ | refine blk_drew ?_ | refine blk_alloc ?_ _)); refine blk_far ?_ NB378_389.out _; (with_reducible repeat (first | refine blk_drewN ?_ _ | refine blk_drew ?_ | refine blk_alloc ?_ _)); refine blk_far ?_ NB378_389.out _; (with_reducible repeat (first | refine blk_drewN ?_ _ | refine blk_drew ?_ | refine blk_alloc ?_ _)); refine blk_far ?_ NB378_389.out _; (with_reducible repeat (first | refine blk_drewN ?_ _ | refine blk_drew ?_ | refine blk_alloc ?_ _)); exact BK378.out) : p := h
theorem ZZ7e331e {p : Prop} (h : p := by (with_reducible repeat (first | refine blk_drewN ?_ _ | refine blk_drew ?_ | refine blk_alloc ?_ _)); refine blk_far ?_ NB379_389.out _; (with_reducible repeat (first | refine blk_drewN ?_ _ | refine blk_drew ?_ | refine blk_alloc ?_ _)); refine blk_far ?_ NB379_389.out _; (with_reducible repeat (first | refine blk_drewN ?_ _ | refine blk_drew ?_ | refine blk_alloc ?_ _)); refine blk_far ?_ NB379_389.out _; (with_reducible repeat (first | refine blk_drewN ?_ _ | refine blk_drew ?_ | refine blk_alloc ?_ _)); exact BK379.out) : p := h
theorem ZZc6cafc {p : Prop} (h : p := by (with_reducible repeat (first | refine blk_drewN ?_ _ | refine blk_drew ?_ | refine blk_alloc ?_ _)); refine blk_far ?_ NB384_389.out _; (with_reducible repeat (first | refine blk_drewN ?_ _ | refine blk_drew ?_ | refine blk_alloc ?_ _)); refine blk_far ?_ NB384_389.out _; (with_reducible repeat (first | refine blk_drewN ?_ _ | refine blk_drew ?_ | refine blk_alloc ?_ _)); refine blk_far ?_ NB384_389.out _; (with_reducible repeat (first | refine blk_drewN ?_ _ | refine blk_drew ?_ | refine blk_alloc ?_ _)); exact BK384.out) : p := h
theorem ZZa2d633 {p : Prop} (h : p := by (with_reducible repeat (first | refine blk_drewN ?_ _ | refine blk_drew ?_ | refine blk_alloc ?_ _)); refine blk_put (cs := #[.string t385, .string t386, .int .i64 0]) ?_ 2 _ rfl; (with_reducible repeat (first | refine blk_drewN ?_ _ | refine blk_drew ?_ | refine blk_alloc ?_ _)); refine blk_put (cs := #[.string t385, .string (⟨#[]⟩ : ByteArray), .int .i64 0]) ?_ 1 _ rfl; (with_reducible repeat (first | refine blk_drewN ?_ _ | refine blk_drew ?_ | refine blk_alloc ?_ _)); refine blk_put (cs := #[.string (⟨#[]⟩ : ByteArray), .string (⟨#[]⟩ : ByteArray), .int .i64 0]) ?_ 0 _ rfl; (with_reducible repeat (first | refine blk_drewN ?_ _ | refine blk_drew ?_ | refine blk_alloc ?_ _)); exact BK389.out) : p := h
theorem ZZab8248 {p : Prop} (h : p := by (with_reducible repeat (first | apply Kd.R_alloc | apply Kd.R_drewN | apply Kd.R_drew)); exact Kd.R_mono (Kd.R_far (p := ⟨gb412, 2, none⟩) (Kd.R_far (p := ⟨gb412, 1, none⟩) (Kd.R_far (p := ⟨gb412, 0, none⟩) (Kd.R_types HO396.out BK412.out (by decide)) (fun _ hk => hk.2) (.string t408)) (fun _ hk => hk.2) (.string t409)) (fun _ hk => hk.2) (.int .i64 t410)) (fun _ hk => ⟨hk.1.2, hk.1.1.2⟩)) : p := h
theorem ZZ0c32ac {p : Prop} (h : p := by (with_reducible repeat (first | apply Kd.R_alloc | apply Kd.R_drewN | apply Kd.R_drew)); exact Kd.R_mono (Kd.R_far (p := ⟨gb412, 2, none⟩) (Kd.R_far (p := ⟨gb412, 1, none⟩) (Kd.R_far (p := ⟨gb412, 0, none⟩) (Kd.R_types HO400.out BK412.out (by decide)) (fun _ hk => hk.2) (.string t408)) (fun _ hk => hk.2) (.string t409)) (fun _ hk => hk.2) (.int .i64 t410)) (fun _ hk => ⟨hk.1.1.2, hk.1.2⟩)) : p := h
theorem ZZf596b9 {p : Prop} (h : p := by (with_reducible repeat (first | refine blk_drewN ?_ _ | refine blk_drew ?_ | refine blk_alloc ?_ _)); refine blk_far ?_ NB378_412.out _; (with_reducible repeat (first | refine blk_drewN ?_ _ | refine blk_drew ?_ | refine blk_alloc ?_ _)); refine blk_far ?_ NB378_412.out _; (with_reducible repeat (first | refine blk_drewN ?_ _ | refine blk_drew ?_ | refine blk_alloc ?_ _)); refine blk_far ?_ NB378_412.out _; (with_reducible repeat (first | refine blk_drewN ?_ _ | refine blk_drew ?_ | refine blk_alloc ?_ _)); exact BK378.out) : p := h
theorem ZZ01ba2e {p : Prop} (h : p := by (with_reducible repeat (first | refine blk_drewN ?_ _ | refine blk_drew ?_ | refine blk_alloc ?_ _)); refine blk_far ?_ NB379_412.out _; (with_reducible repeat (first | refine blk_drewN ?_ _ | refine blk_drew ?_ | refine blk_alloc ?_ _)); refine blk_far ?_ NB379_412.out _; (with_reducible repeat (first | refine blk_drewN ?_ _ | refine blk_drew ?_ | refine blk_alloc ?_ _)); refine blk_far ?_ NB379_412.out _; (with_reducible repeat (first | refine blk_drewN ?_ _ | refine blk_drew ?_ | refine blk_alloc ?_ _)); exact BK379.out) : p := h
theorem ZZ02f90e {p : Prop} (h : p := by (with_reducible repeat (first | refine blk_drewN ?_ _ | refine blk_drew ?_ | refine blk_alloc ?_ _)); refine blk_far ?_ NB384_412.out _; (with_reducible repeat (first | refine blk_drewN ?_ _ | refine blk_drew ?_ | refine blk_alloc ?_ _)); refine blk_far ?_ NB384_412.out _; (with_reducible repeat (first | refine blk_drewN ?_ _ | refine blk_drew ?_ | refine blk_alloc ?_ _)); refine blk_far ?_ NB384_412.out _; (with_reducible repeat (first | refine blk_drewN ?_ _ | refine blk_drew ?_ | refine blk_alloc ?_ _)); exact BK384.out) : p := h
theorem ZZef4592 {p : Prop} (h : p := by (with_reducible repeat (first | refine blk_drewN ?_ _ | refine blk_drew ?_ | refine blk_alloc ?_ _)); refine blk_far ?_ NB389_412.out _; (with_reducible repeat (first | refine blk_drewN ?_ _ | refine blk_drew ?_ | refine blk_alloc ?_ _)); refine blk_far ?_ NB389_412.out _; (with_reducible repeat (first | refine blk_drewN ?_ _ | refine blk_drew ?_ | refine blk_alloc ?_ _)); refine blk_far ?_ NB389_412.out _; (with_reducible repeat (first | refine blk_drewN ?_ _ | refine blk_drew ?_ | refine blk_alloc ?_ _)); exact BK389.out) : p := h
theorem ZZ9b1904 {p : Prop} (h : p := by (with_reducible repeat (first | refine blk_drewN ?_ _ | refine blk_drew ?_ | refine blk_alloc ?_ _)); refine blk_far ?_ NB407_412.out _; (with_reducible repeat (first | refine blk_drewN ?_ _ | refine blk_drew ?_ | refine blk_alloc ?_ _)); refine blk_far ?_ NB407_412.out _; (with_reducible repeat (first | refine blk_drewN ?_ _ | refine blk_drew ?_ | refine blk_alloc ?_ _)); refine blk_far ?_ NB407_412.out _; (with_reducible repeat (first | refine blk_drewN ?_ _ | refine blk_drew ?_ | refine blk_alloc ?_ _)); exact BK407.out) : p := h
theorem ZZ171f1e {p : Prop} (h : p := by (with_reducible repeat (first | refine blk_drewN ?_ _ | refine blk_drew ?_ | refine blk_alloc ?_ _)); refine blk_put (cs := #[.string t408, .string t409, .int .i64 0]) ?_ 2 _ rfl; (with_reducible repeat (first | refine blk_drewN ?_ _ | refine blk_drew ?_ | refine blk_alloc ?_ _)); refine blk_put (cs := #[.string t408, .string (⟨#[]⟩ : ByteArray), .int .i64 0]) ?_ 1 _ rfl; (with_reducible repeat (first | refine blk_drewN ?_ _ | refine blk_drew ?_ | refine blk_alloc ?_ _)); refine blk_put (cs := #[.string (⟨#[]⟩ : ByteArray), .string (⟨#[]⟩ : ByteArray), .int .i64 0]) ?_ 0 _ rfl; (with_reducible repeat (first | refine blk_drewN ?_ _ | refine blk_drew ?_ | refine blk_alloc ?_ _)); exact BK412.out) : p := h
attribute [local go_sem high] eqA27 eqA31
/-! ### laws_FnLog: function 10 -/
mutual
def laws_FnLog.j0 : Nat → Int → Bool → ByteArray → ByteArray → Int → ByteArray → ByteArray → ByteArray → ByteArray → Int → Option (Bool)
 | 0, _, _, _, _, _, _, _, _, _, _ => none
 | k + 1, x6, x59, x379000, x379001, x379002, x380000, x380001, x385000, x385001, x385002 => if x59 = true then (some false) else (if x6 = 0 then ((impl_LogRecords.f k x385000 x385001 x385002).bind fun bt394 => ((impl_LogRecords.f k x379000 x379001 x379002).bind fun bt398 => (if x385000.size + x385001.size ≤ 9223372036854775807 then ((impl_RecoverLog.f k (x385000 ++ x385001)).bind fun bt402 => ((impl_SyncLog.f k x385000 x385001 x385002).bind fun bt408 => (if bt394.2 = true then (if (bt394.1.length : Int) = (wrap64 ((bt398.1.length : Int) + 1)) then (laws_FnLog.j1 k bt394.1 bt398.1 bt402.2.2.2.1 bt402.2.2.2.2 bt408.2.2.2 (x385002 != (bt394.1.length : Int)) x380000 x380001 x385000 x385001 x385002 bt402.1 bt402.2.1 bt402.2.2.1 bt408.1 bt408.2.1 bt408.2.2.1) else (laws_FnLog.j1 k bt394.1 bt398.1 bt402.2.2.2.1 bt402.2.2.2.2 bt408.2.2.2 true x380000 x380001 x385000 x385001 x385002 bt402.1 bt402.2.1 bt402.2.2.1 bt408.1 bt408.2.1 bt408.2.2.1)) else (laws_FnLog.j1 k bt394.1 bt398.1 bt402.2.2.2.1 bt402.2.2.2.2 bt408.2.2.2 true x380000 x380001 x385000 x385001 x385002 bt402.1 bt402.2.1 bt402.2.2.1 bt408.1 bt408.2.1 bt408.2.2.1)))) else (none)))) else (some (x385000.toList == x379000.toList && (x385001.toList == x379001.toList && (x385002 == x379002)))))
def laws_FnLog.j1 : Nat → List (S27) → List (S27) → Int → Bool → Bool → Bool → ByteArray → ByteArray → ByteArray → ByteArray → Int → ByteArray → ByteArray → Int → ByteArray → ByteArray → Int → Option (Bool)
 | 0, _, _, _, _, _, _, _, _, _, _, _, _, _, _, _, _, _ => none
 | k + 1, x9, x11, x14, x15, x17, x106, x380000, x380001, x385000, x385001, x385002, x408000, x408001, x408002, x413000, x413001, x413002 => if x106 = true then (some false) else (laws_FnLog.l0 k x9 x11 x14 x15 x17 0 x380000 x380001 x385000 x385001 x385002 x408000 x408001 x408002 x413000 x413001 x413002)
def laws_FnLog.l0 : Nat → List (S27) → List (S27) → Int → Bool → Bool → Int → ByteArray → ByteArray → ByteArray → ByteArray → Int → ByteArray → ByteArray → Int → ByteArray → ByteArray → Int → Option (Bool)
 | 0, _, _, _, _, _, _, _, _, _, _, _, _, _, _, _, _, _ => none
 | k + 1, x9, x11, x14, x15, x17, x18, x380000, x380001, x385000, x385001, x385002, x408000, x408001, x408002, x413000, x413001, x413002 => if x18 < (x11.length : Int) then (if 0 ≤ x18 then (if x18 < (x9.length : Int) then (if (!((((rd_T27 x9 x18).f0).toList) == (((rd_T27 x11 x18).f0).toList)) || (!((((rd_T27 x9 x18).f1).toList) == (((rd_T27 x11 x18).f1).toList)))) = true then (some false) else (laws_FnLog.l0 k x9 x11 x14 x15 x17 (wrap64 (x18 + 1)) x380000 x380001 x385000 x385001 x385002 x408000 x408001 x408002 x413000 x413001 x413002)) else (none)) else (none)) else (if 0 ≤ (x11.length : Int) then (if (x11.length : Int) < (x9.length : Int) then (if ((((rd_T27 x9 (x11.length : Int)).f0).toList) == x380000.toList && ((((rd_T27 x9 (x11.length : Int)).f1).toList) == x380001.toList)) = true then (if x15 = true then (if x385000.size + x385001.size ≤ 9223372036854775807 then (if x14 = ((x385000.size : Int) + (x385001.size : Int)) then (if x17 = true then (if (x413000.toList == x408000.toList && (x413001.toList == x408001.toList && (x413002 == x408002))) = true then ((impl_IsValidLog.f k x385000 x385001 x385002).bind fun t416 => (some t416)) else (some false)) else (some false)) else (some false)) else (none)) else (some false)) else (some false)) else (none)) else (none))
end
def laws_FnLog.f (k : Nat) (l0 : List Int) : Option (Bool) := (laws_vBig.f l0).bind fun t372 => (if t372 = true then (some true) else ((spec_DrawAppendRecord.f k l0).bind fun bt373 => ((impl_AppendRecord.f k bt373.1 bt373.2.1 bt373.2.2.1 bt373.2.2.2.1 bt373.2.2.2.2).bind fun bt380 => ((spec_AppendRecord.f k bt373.1 bt373.2.1 bt373.2.2.1 bt373.2.2.2.1 bt373.2.2.2.2).bind fun bt385 => (if (!(bt380.1.toList == bt385.1.toList) || (!(bt380.2.1.toList == bt385.2.1.toList) || (!(bt380.2.2.1 == bt385.2.2.1)))) = true then (laws_FnLog.j0 k bt380.2.2.2 true bt373.1 bt373.2.1 bt373.2.2.1 bt373.2.2.2.1 bt373.2.2.2.2 bt380.1 bt380.2.1 bt380.2.2.1) else (if bt380.2.2.2 = bt385.2.2.2 then ((impl_IsValidLog.f k bt373.1 bt373.2.1 bt373.2.2.1).bind fun t390 => ((spec_IsValidLog.f k bt373.1 bt373.2.1 bt373.2.2.1).bind fun t391 => (if (t390 != t391) = true then (laws_FnLog.j0 k bt380.2.2.2 true bt373.1 bt373.2.1 bt373.2.2.1 bt373.2.2.2.1 bt373.2.2.2.2 bt380.1 bt380.2.1 bt380.2.2.1) else ((impl_IsValidRecord.f k bt373.2.2.2.1 bt373.2.2.2.2).bind fun t392 => ((spec_IsValidRecord.f k bt373.2.2.2.1 bt373.2.2.2.2).bind fun t393 => (laws_FnLog.j0 k bt380.2.2.2 (t392 != t393) bt373.1 bt373.2.1 bt373.2.2.1 bt373.2.2.2.1 bt373.2.2.2.2 bt380.1 bt380.2.1 bt380.2.2.1)))))) else (laws_FnLog.j0 k bt380.2.2.2 true bt373.1 bt373.2.1 bt373.2.2.1 bt373.2.2.2.1 bt373.2.2.2.2 bt380.1 bt380.2.1 bt380.2.2.1)))))))
theorem laws_FnLog.mono_l : ∀ k, (∀ y0 y1 y2 y3 y4 y5 y6 y7 y8 y9, LeO (laws_FnLog.j0 k y0 y1 y2 y3 y4 y5 y6 y7 y8 y9) (laws_FnLog.j0 (k + 1) y0 y1 y2 y3 y4 y5 y6 y7 y8 y9)) ∧ (∀ y0 y1 y2 y3 y4 y5 y6 y7 y8 y9 y10 y11 y12 y13 y14 y15 y16, LeO (laws_FnLog.j1 k y0 y1 y2 y3 y4 y5 y6 y7 y8 y9 y10 y11 y12 y13 y14 y15 y16) (laws_FnLog.j1 (k + 1) y0 y1 y2 y3 y4 y5 y6 y7 y8 y9 y10 y11 y12 y13 y14 y15 y16)) ∧ (∀ y0 y1 y2 y3 y4 y5 y6 y7 y8 y9 y10 y11 y12 y13 y14 y15 y16, LeO (laws_FnLog.l0 k y0 y1 y2 y3 y4 y5 y6 y7 y8 y9 y10 y11 y12 y13 y14 y15 y16) (laws_FnLog.l0 (k + 1) y0 y1 y2 y3 y4 y5 y6 y7 y8 y9 y10 y11 y12 y13 y14 y15 y16))
 | 0 => ⟨fun _ _ _ _ _ _ _ _ _ _ r h => by simp [laws_FnLog.j0] at h, fun _ _ _ _ _ _ _ _ _ _ _ _ _ _ _ _ _ r h => by simp [laws_FnLog.j1] at h, fun _ _ _ _ _ _ _ _ _ _ _ _ _ _ _ _ _ r h => by simp [laws_FnLog.l0] at h⟩
 | k + 1 => by
  obtain ⟨ih0, ih1, ih2⟩ := laws_FnLog.mono_l k
  refine ⟨?_, ?_, ?_⟩
  all_goals intros
  all_goals (first | unfold laws_FnLog.j0 | unfold laws_FnLog.j1 | unfold laws_FnLog.l0)
  all_goals
   repeat' first
   | (with_reducible exact ih0 _ _ _ _ _ _ _ _ _ _)
   | (with_reducible exact ih1 _ _ _ _ _ _ _ _ _ _ _ _ _ _ _ _ _)
   | (with_reducible exact ih2 _ _ _ _ _ _ _ _ _ _ _ _ _ _ _ _ _)
   | (with_reducible exact impl_AppendRecord.mono _ _ _ _ _ _)
   | (with_reducible exact impl_IsValidLog.mono _ _ _ _)
   | (with_reducible exact impl_IsValidRecord.mono _ _ _)
   | (with_reducible exact impl_LogRecords.mono _ _ _ _)
   | (with_reducible exact impl_RecoverLog.mono _ _)
   | (with_reducible exact impl_SyncLog.mono _ _ _ _)
   | (with_reducible exact spec_AppendRecord.mono _ _ _ _ _ _)
   | (with_reducible exact spec_DrawAppendRecord.mono _ _)
   | (with_reducible exact spec_IsValidLog.mono _ _ _ _)
   | (with_reducible exact spec_IsValidRecord.mono _ _ _)
   | (with_reducible exact LeO.refl _)
   | (with_reducible exact LeO.none _)
   | (with_reducible refine LeO.ite ?_ ?_)
   | (with_reducible refine LeO.bind ?_ (fun _ => ?_))
   | exact ih0 _ _ _ _ _ _ _ _ _ _
   | exact ih1 _ _ _ _ _ _ _ _ _ _ _ _ _ _ _ _ _
   | exact ih2 _ _ _ _ _ _ _ _ _ _ _ _ _ _ _ _ _
   | exact impl_AppendRecord.mono _ _ _ _ _ _
   | exact impl_IsValidLog.mono _ _ _ _
   | exact impl_IsValidRecord.mono _ _ _
   | exact impl_LogRecords.mono _ _ _ _
   | exact impl_RecoverLog.mono _ _
   | exact impl_SyncLog.mono _ _ _ _
   | exact spec_AppendRecord.mono _ _ _ _ _ _
   | exact spec_DrawAppendRecord.mono _ _
   | exact spec_IsValidLog.mono _ _ _ _
   | exact spec_IsValidRecord.mono _ _ _
   | exact LeO.none _
   | refine LeO.ite ?_ ?_
   | refine LeO.bind ?_ (fun _ => ?_)
theorem laws_FnLog.mono : ∀ a0 k, LeO (laws_FnLog.f k a0) (laws_FnLog.f (k + 1) a0) := by
 intro a0 k
 obtain ⟨ih0, ih1, ih2⟩ := laws_FnLog.mono_l k
 unfold laws_FnLog.f
 repeat' first
  | (with_reducible exact ih0 _ _ _ _ _ _ _ _ _ _)
  | (with_reducible exact ih1 _ _ _ _ _ _ _ _ _ _ _ _ _ _ _ _ _)
  | (with_reducible exact ih2 _ _ _ _ _ _ _ _ _ _ _ _ _ _ _ _ _)
  | (with_reducible exact impl_AppendRecord.mono _ _ _ _ _ _)
  | (with_reducible exact impl_IsValidLog.mono _ _ _ _)
  | (with_reducible exact impl_IsValidRecord.mono _ _ _)
  | (with_reducible exact impl_LogRecords.mono _ _ _ _)
  | (with_reducible exact impl_RecoverLog.mono _ _)
  | (with_reducible exact impl_SyncLog.mono _ _ _ _)
  | (with_reducible exact spec_AppendRecord.mono _ _ _ _ _ _)
  | (with_reducible exact spec_DrawAppendRecord.mono _ _)
  | (with_reducible exact spec_IsValidLog.mono _ _ _ _)
  | (with_reducible exact spec_IsValidRecord.mono _ _ _)
  | (with_reducible exact LeO.refl _)
  | (with_reducible exact LeO.none _)
  | (with_reducible refine LeO.ite ?_ ?_)
  | (with_reducible refine LeO.bind ?_ (fun _ => ?_))
  | exact ih0 _ _ _ _ _ _ _ _ _ _
  | exact ih1 _ _ _ _ _ _ _ _ _ _ _ _ _ _ _ _ _
  | exact ih2 _ _ _ _ _ _ _ _ _ _ _ _ _ _ _ _ _
  | exact impl_AppendRecord.mono _ _ _ _ _ _
  | exact impl_IsValidLog.mono _ _ _ _
  | exact impl_IsValidRecord.mono _ _ _
  | exact impl_LogRecords.mono _ _ _ _
  | exact impl_RecoverLog.mono _ _
  | exact impl_SyncLog.mono _ _ _ _
  | exact spec_AppendRecord.mono _ _ _ _ _ _
  | exact spec_DrawAppendRecord.mono _ _
  | exact spec_IsValidLog.mono _ _ _ _
  | exact spec_IsValidRecord.mono _ _ _
  | exact LeO.none _
  | refine LeO.ite ?_ ?_
  | refine LeO.bind ?_ (fun _ => ?_)
def laws_FnLog.T6 : Bool × List (List Nat × List Nat) := (true, [([], []), ([], []), ([0, 1], [0, 1]), ([2], [2]), ([3], [3]), ([3], [3]), ([4, 5, 3], [3, 4, 5]), ([3, 6], [3, 6]), ([7, 3], [7]), ([8], [8]), ([9, 8, 8], [8, 9]), ([8], [8]), ([11, 10, 8], [8, 11]), ([10, 12, 8], [8, 10, 12]), ([8, 13], [8, 13]), ([14, 12], [14]), ([15], [15]), ([16, 15, 15], [15, 16]), ([15], [15]), ([18, 17, 15], [15, 18]), ([17, 19, 15], [15, 17, 19]), ([15, 20], [15, 20])])
def laws_FnLog.B6 : List Nat := [0, 0, 3, 7, 15, 15, 63, 127, 255, 511, 1023, 511, 4095, 8191, 16383, 32767, 65535, 131071, 65535, 524287, 1048575, 2097151]
theorem laws_FnLog.tab6 : rtab .any (opsOf Tryd.f10 6) = laws_FnLog.T6 := by kernel_rfl
theorem laws_FnLog.bits6 : waitsOk laws_FnLog.T6.2 laws_FnLog.B6 = true := by kernel_rfl
def laws_FnLog.T19 : Bool × List (List Nat × List Nat) := (true, [([], []), ([], []), ([0, 1], [0, 1]), ([2], [2]), ([], []), ([], []), ([4, 5], [4, 5]), ([6], [6]), ([3, 7], [3, 7])])
def laws_FnLog.B19 : List Nat := [0, 0, 3, 7, 0, 0, 48, 112, 255]
theorem laws_FnLog.tab19 : rtab .any (opsOf Tryd.f10 19) = laws_FnLog.T19 := by kernel_rfl
theorem laws_FnLog.bits19 : waitsOk laws_FnLog.T19.2 laws_FnLog.B19 = true := by kernel_rfl
def laws_FnLog.T21 : Bool × List (List Nat × List Nat) := (true, [([], []), ([], []), ([1], [1]), ([0, 2], [0, 2]), ([3], [3]), ([], []), ([4, 5], [4, 5]), ([6], [6]), ([7], [7]), ([7, 8], [7, 8]), ([9, 7], [9]), ([10], [10]), ([10], [10]), ([12, 10], [10, 12]), ([10], [10]), ([14, 10], [10, 14]), ([13, 15, 10], [10, 13, 15]), ([16, 10], [10, 16]), ([11, 17, 10], [10, 11, 17]), ([10, 18], [10, 18]), ([19, 10], [19]), ([20], [20]), ([20, 21], [20, 21]), ([22, 20], [22]), ([23], [23]), ([23], [23]), ([24, 25, 23], [23, 24, 25]), ([23, 26], [23, 26]), ([27, 23], [27]), ([28], [28]), ([29, 28, 28], [28, 29]), ([28, 30], [28, 30]), ([31, 30, 0, 1, 2, 3, 4, 5, 6, 7, 8, 9, 10, 11, 12, 13, 14, 15, 16, 17, 18, 19, 20, 21, 22, 23, 24, 25, 26, 27, 28, 29, 30, 31], [31])])
def laws_FnLog.B21 : List Nat := [0, 0, 2, 7, 15, 0, 63, 127, 255, 511, 1023, 2047, 2047, 6143, 2047, 18431, 63487, 129023, 262143, 524287, 1048575, 2097151, 4194303, 8388607, 16777215, 16777215, 67108863, 134217727, 268435455, 536870911, 1073741823, 2147483647, 4294967295]
theorem laws_FnLog.tab21 : rtab .any (opsOf Tryd.f10 21) = laws_FnLog.T21 := by kernel_rfl
theorem laws_FnLog.bits21 : waitsOk laws_FnLog.T21.2 laws_FnLog.B21 = true := by kernel_rfl
set_option maxHeartbeats 8000000 in
set_option maxRecDepth 100000 in
theorem laws_FnLog.calls (k : Nat) (A0 : Option Addr) (c0 : Nat) (l0 : List Int) (r : Bool) (w : World) (hr0 : Kd.C (Kd.int .u8) w A0 l0.length l0) (hc0 : l0.length ≤ c0) (hV : TInv w) (h : laws_FnLog.f k l0 = some r) :
 Calls Tryd.prog 10 #[.slice A0 l0.length c0] w fun e w' => e = .returned (.bool r) ∧ Below w.heap.size w w' := by
 have hu31 := Tryd.underlying31
 have hu27 := Tryd.underlying27
 have HV := Aside0.mk hV
 clear hV
 have HR0 := Aside0.mk hr0
 have HC0 := Aside0.mk hc0
 clear hr0 hc0
 have HB := Aside0.mk (Below.refl w.heap.size w)
 have H := h
 clear h
 unfold laws_FnLog.f at H
 obtain ⟨t372, A2, H⟩ := bdY H
 by_cases c3 : t372 = true
 ·subst c3
  have H1 : (some true) = some r := by rw [if_pos rfl] at H; exact H
  clear H
  have H := H1
  clear H1
  obtain rfl := Option.some.inj H
  go_enter Tryd.func10, Tryd.ntmps10
  go_wp2_with (first | ((with_reducible refine gate_callee (f := 35) rfl ?_); refine goesL_ (some 20) rfl rfl Tryd.func35 (by kernel_rfl) rfl #[.slice A0 l0.length c0] rfl ZZ19826e ?_; (with_reducible refine (laws_vBig.calls _ _ l0 true _ ?side1 ?side2 A2.out).mono ?_); (case side1 => exact (by repeat (first | exact HR0.out | (with_reducible refine Kd.C_alloc ?_ _) | (with_reducible refine Kd.C_drewN ?_ _) | (with_reducible refine Kd.C_drew ?_)))); (case side2 => exact HC0.out); rintro e w' ⟨rfl, ⟨nd, rfl⟩⟩; refine ⟨_, rfl, ?_⟩))
  go_ret
  exact ⟨ZZab01d2, ZZ605003⟩
 replace c3 := Bool.eq_false_iff.mpr c3
 subst c3
 have H1 : ((spec_DrawAppendRecord.f k l0).bind fun bt373 => ((impl_AppendRecord.f k bt373.1 bt373.2.1 bt373.2.2.1 bt373.2.2.2.1 bt373.2.2.2.2).bind fun bt380 => ((spec_AppendRecord.f k bt373.1 bt373.2.1 bt373.2.2.1 bt373.2.2.2.1 bt373.2.2.2.2).bind fun bt385 => (if (!(bt380.1.toList == bt385.1.toList) || (!(bt380.2.1.toList == bt385.2.1.toList) || (!(bt380.2.2.1 == bt385.2.2.1)))) = true then (laws_FnLog.j0 k bt380.2.2.2 true bt373.1 bt373.2.1 bt373.2.2.1 bt373.2.2.2.1 bt373.2.2.2.2 bt380.1 bt380.2.1 bt380.2.2.1) else (if bt380.2.2.2 = bt385.2.2.2 then ((impl_IsValidLog.f k bt373.1 bt373.2.1 bt373.2.2.1).bind fun t390 => ((spec_IsValidLog.f k bt373.1 bt373.2.1 bt373.2.2.1).bind fun t391 => (if (t390 != t391) = true then (laws_FnLog.j0 k bt380.2.2.2 true bt373.1 bt373.2.1 bt373.2.2.1 bt373.2.2.2.1 bt373.2.2.2.2 bt380.1 bt380.2.1 bt380.2.2.1) else ((impl_IsValidRecord.f k bt373.2.2.2.1 bt373.2.2.2.2).bind fun t392 => ((spec_IsValidRecord.f k bt373.2.2.2.1 bt373.2.2.2.2).bind fun t393 => (laws_FnLog.j0 k bt380.2.2.2 (t392 != t393) bt373.1 bt373.2.1 bt373.2.2.1 bt373.2.2.2.1 bt373.2.2.2.2 bt380.1 bt380.2.1 bt380.2.2.1)))))) else (laws_FnLog.j0 k bt380.2.2.2 true bt373.1 bt373.2.1 bt373.2.2.1 bt373.2.2.2.1 bt373.2.2.2.2 bt380.1 bt380.2.1 bt380.2.2.1)))))) = some r := by rw [if_neg (show ¬ (false = true) by decide)] at H; exact H
 clear H
 have H := H1
 clear H1
 obtain ⟨⟨t373, t374, t375, t376, t377⟩, A4, H⟩ := bdY H
 try dsimp only at H
 obtain ⟨⟨t380, t381, t382, t383⟩, A5, H⟩ := bdY H
 try dsimp only at H
 obtain ⟨⟨t385, t386, t387, t388⟩, A6, H⟩ := bdY H
 try dsimp only at H
 have HC7 := Aside0.mk H
 clear H
 go_enter Tryd.func10, Tryd.ntmps10
 go_upto_region 6 with (first | ((with_reducible refine gate_callee (f := 35) rfl ?_); refine goesL_ (some 20) rfl rfl Tryd.func35 (by kernel_rfl) rfl #[.slice A0 l0.length c0] rfl ZZ19826e ?_; (with_reducible refine (laws_vBig.calls _ _ l0 false _ ?side1 ?side2 A2.out).mono ?_); (case side1 => exact (by repeat (first | exact HR0.out | (with_reducible refine Kd.C_alloc ?_ _) | (with_reducible refine Kd.C_drewN ?_ _) | (with_reducible refine Kd.C_drew ?_)))); (case side2 => exact HC0.out); rintro e w' ⟨rfl, ⟨nd, rfl⟩⟩; refine ⟨_, rfl, ?_⟩) | ((with_reducible refine gate_callee (f := 36) rfl ?_); refine goesL_ (some 23) rfl rfl Tryd.func36 (by kernel_rfl) rfl #[.slice A0 l0.length c0] rfl ZZ19826e ?_; (with_reducible refine (spec_DrawAppendRecord.calls k _ _ l0 t373 t374 t375 t376 t377 _ ?side1 ?side2 A4.out).mono ?_); (case side1 => exact (by repeat (first | exact HR0.out | (with_reducible refine Kd.C_alloc ?_ _) | (with_reducible refine Kd.C_drewN ?_ _) | (with_reducible refine Kd.C_drew ?_)))); (case side2 => exact HC0.out); rintro e w8 ⟨rfl, hb⟩; refine ⟨_, rfl, ?_⟩; replace HB := Aside0.mk (below_step ZZ605003 hb); (try clear hb); (try clear hb2); (try clear hk); (try clear hi)) | ((with_reducible refine gate_dst (N := 3) rfl ?_); (try (refine gate_guard (by rfl) ?_; dsimp only)); refine box_event ?hg (N := 3) ?hd (cs := #[.string (⟨#[]⟩ : ByteArray), .string (⟨#[]⟩ : ByteArray), .int .i64 0]) (t := 31) ?hr ?_; (case hd => rfl); (case hg => rfl); (case hr => first | (go_simp; done) | (go_simp; rfl)); intro gb378 hg w9 hbox hb; have BK378 := Aside0.mk (hbox); have GW378 := Aside0.mk ((by rw [hg]; exact (below_size ZZ605003) : w.heap.size ≤ gb378)); have GE378 := Aside0.mk ((by rw [hg]; exact (below_size ZZ605003) : w.heap.size ≤ gb378)); replace HB := Aside0.mk (below_step ZZ605003 hb); clear hb hbox hg) | ((with_reducible refine gate_dst (N := 4) rfl ?_); (try (refine gate_guard (by rfl) ?_; dsimp only)); refine box_event ?hg (N := 4) ?hd (cs := #[.string (⟨#[]⟩ : ByteArray), .string (⟨#[]⟩ : ByteArray)]) (t := 27) ?hr ?_; (case hd => rfl); (case hg => rfl); (case hr => first | (go_simp; done) | (go_simp; rfl)); intro gb379 hg w10 hbox hb; have BK379 := Aside0.mk (hbox); have GW379 := Aside0.mk ((by rw [hg]; exact (below_size ZZ295621) : w.heap.size ≤ gb379)); have GE379 := Aside0.mk ((by rw [hg]; exact (below_size ZZ295621) : w.heap.size ≤ gb379)); replace HB := Aside0.mk (below_step ZZ295621 hb); have NB378_379 := Aside0.mk ((by rw [hg]; exact Nat.ne_of_lt (blk_lt (zB BK378)) : gb378 ≠ gb379)); have NB379_378 := Aside0.mk ((by rw [hg]; exact Nat.ne_of_gt (blk_lt (zB BK378)) : gb379 ≠ gb378)); replace BK378 := Aside0.mk (blk_below (zB BK378) hb); clear hb hbox hg; have hnb11 := NB378_379.out; have hnc11 := NB379_378.out; have hcz12_0 : w10.cell? ⟨gb378, 0, none⟩ = some (.string (⟨#[]⟩ : ByteArray)) := (blk_cell BK378.out 0).trans rfl; have hcz12_1 : w10.cell? ⟨gb378, 1, none⟩ = some (.string (⟨#[]⟩ : ByteArray)) := (blk_cell BK378.out 1).trans rfl; have hcz12_2 : w10.cell? ⟨gb378, 2, none⟩ = some (.int .i64 0) := (blk_cell BK378.out 2).trans rfl; have hfz12_0 := blk_frozen BK378.out 0; have hfz12_1 := blk_frozen BK378.out 1; have hfz12_2 := blk_frozen BK378.out 2; have hcz13_0 : w10.cell? ⟨gb379, 0, none⟩ = some (.string (⟨#[]⟩ : ByteArray)) := (blk_cell BK379.out 0).trans rfl; have hcz13_1 : w10.cell? ⟨gb379, 1, none⟩ = some (.string (⟨#[]⟩ : ByteArray)) := (blk_cell BK379.out 1).trans rfl; have hfz13_0 := blk_frozen BK379.out 0; have hfz13_1 := blk_frozen BK379.out 1) | ((with_reducible refine gate_callee (f := 29) rfl ?_); refine goesL_ (some 29) rfl rfl Tryd.func29 (by kernel_rfl) rfl #[.agg #[.string t373, .string t374, .int .i64 t375], .agg #[.string t376, .string t377]] rfl ZZ19826e ?_; (with_reducible refine (impl_AppendRecord.calls k t373 t374 t375 t376 t377 t380 t381 t382 t383 _ ?side1 A5.out).mono ?_); (case side1 => first | (with_reducible exact HV.out) | exact TInv.below HV.out ZZ295621); rintro e w14 ⟨rfl, hb⟩; refine ⟨_, rfl, ?_⟩; replace BK378 := Aside0.mk (blk_below (g := gb378) (o := .cells #[.string t373, .string t374, .int .i64 t375] 31 (0, 0)) (by (with_reducible repeat (first | refine blk_drewN ?_ _ | refine blk_drew ?_ | refine blk_alloc ?_ _)); refine blk_far ?_ NB378_379.out _; (with_reducible repeat (first | refine blk_drewN ?_ _ | refine blk_drew ?_ | refine blk_alloc ?_ _)); refine blk_far ?_ NB378_379.out _; (with_reducible repeat (first | refine blk_drewN ?_ _ | refine blk_drew ?_ | refine blk_alloc ?_ _)); refine blk_put (cs := #[.string t373, .string t374, .int .i64 0]) ?_ 2 _ rfl; (with_reducible repeat (first | refine blk_drewN ?_ _ | refine blk_drew ?_ | refine blk_alloc ?_ _)); refine blk_put (cs := #[.string t373, .string (⟨#[]⟩ : ByteArray), .int .i64 0]) ?_ 1 _ rfl; (with_reducible repeat (first | refine blk_drewN ?_ _ | refine blk_drew ?_ | refine blk_alloc ?_ _)); refine blk_put (cs := #[.string (⟨#[]⟩ : ByteArray), .string (⟨#[]⟩ : ByteArray), .int .i64 0]) ?_ 0 _ rfl; (with_reducible repeat (first | refine blk_drewN ?_ _ | refine blk_drew ?_ | refine blk_alloc ?_ _)); exact BK378.out) hb); replace BK379 := Aside0.mk (blk_below (g := gb379) (o := .cells #[.string t376, .string t377] 27 (0, 0)) (by (with_reducible repeat (first | refine blk_drewN ?_ _ | refine blk_drew ?_ | refine blk_alloc ?_ _)); refine blk_put (cs := #[.string t376, .string (⟨#[]⟩ : ByteArray)]) ?_ 1 _ rfl; (with_reducible repeat (first | refine blk_drewN ?_ _ | refine blk_drew ?_ | refine blk_alloc ?_ _)); refine blk_put (cs := #[.string (⟨#[]⟩ : ByteArray), .string (⟨#[]⟩ : ByteArray)]) ?_ 0 _ rfl; (with_reducible repeat (first | refine blk_drewN ?_ _ | refine blk_drew ?_ | refine blk_alloc ?_ _)); refine blk_far ?_ NB379_378.out _; (with_reducible repeat (first | refine blk_drewN ?_ _ | refine blk_drew ?_ | refine blk_alloc ?_ _)); refine blk_far ?_ NB379_378.out _; (with_reducible repeat (first | refine blk_drewN ?_ _ | refine blk_drew ?_ | refine blk_alloc ?_ _)); refine blk_far ?_ NB379_378.out _; (with_reducible repeat (first | refine blk_drewN ?_ _ | refine blk_drew ?_ | refine blk_alloc ?_ _)); exact BK379.out) hb); replace HB := Aside0.mk (below_step ZZ295621 hb); (try clear hb); (try clear hb2); (try clear hk); (try clear hi)) | ((with_reducible refine gate_dst (N := 5) rfl ?_); (try (refine gate_guard (by rfl) ?_; dsimp only)); refine box_event ?hg (N := 5) ?hd (cs := #[.string (⟨#[]⟩ : ByteArray), .string (⟨#[]⟩ : ByteArray), .int .i64 0]) (t := 31) ?hr ?_; (case hd => rfl); (case hg => rfl); (case hr => first | (go_simp; done) | (go_simp; rfl)); intro gb384 hg w15 hbox hb; have BK384 := Aside0.mk (hbox); have GW384 := Aside0.mk ((by rw [hg]; exact (below_size ZZ295621) : w.heap.size ≤ gb384)); have GE384 := Aside0.mk ((by rw [hg]; exact (below_size ZZ295621) : w.heap.size ≤ gb384)); replace HB := Aside0.mk (below_step ZZ295621 hb); have NB378_384 := Aside0.mk ((by rw [hg]; exact Nat.ne_of_lt (blk_lt (zB BK378)) : gb378 ≠ gb384)); have NB384_378 := Aside0.mk ((by rw [hg]; exact Nat.ne_of_gt (blk_lt (zB BK378)) : gb384 ≠ gb378)); replace BK378 := Aside0.mk (blk_below (zB BK378) hb); have NB379_384 := Aside0.mk ((by rw [hg]; exact Nat.ne_of_lt (blk_lt (zB BK379)) : gb379 ≠ gb384)); have NB384_379 := Aside0.mk ((by rw [hg]; exact Nat.ne_of_gt (blk_lt (zB BK379)) : gb384 ≠ gb379)); replace BK379 := Aside0.mk (blk_below (zB BK379) hb); clear hb hbox hg; have hnb16 := NB384_378.out; have hnc16 := NB378_384.out; have hnb17 := NB384_379.out; have hnc17 := NB379_384.out; have hcz18_0 : w15.cell? ⟨gb384, 0, none⟩ = some (.string (⟨#[]⟩ : ByteArray)) := (blk_cell BK384.out 0).trans rfl; have hcz18_1 : w15.cell? ⟨gb384, 1, none⟩ = some (.string (⟨#[]⟩ : ByteArray)) := (blk_cell BK384.out 1).trans rfl; have hcz18_2 : w15.cell? ⟨gb384, 2, none⟩ = some (.int .i64 0) := (blk_cell BK384.out 2).trans rfl; have hfz18_0 := blk_frozen BK384.out 0; have hfz18_1 := blk_frozen BK384.out 1; have hfz18_2 := blk_frozen BK384.out 2; have hcz19_0 : w15.cell? ⟨gb378, 0, none⟩ = some (.string t373) := (blk_cell BK378.out 0).trans rfl; have hcz19_1 : w15.cell? ⟨gb378, 1, none⟩ = some (.string t374) := (blk_cell BK378.out 1).trans rfl; have hcz19_2 : w15.cell? ⟨gb378, 2, none⟩ = some (.int .i64 t375) := (blk_cell BK378.out 2).trans rfl; have hfz19_0 := blk_frozen BK378.out 0; have hfz19_1 := blk_frozen BK378.out 1; have hfz19_2 := blk_frozen BK378.out 2; have hcz20_0 : w15.cell? ⟨gb379, 0, none⟩ = some (.string t376) := (blk_cell BK379.out 0).trans rfl; have hcz20_1 : w15.cell? ⟨gb379, 1, none⟩ = some (.string t377) := (blk_cell BK379.out 1).trans rfl; have hfz20_0 := blk_frozen BK379.out 0; have hfz20_1 := blk_frozen BK379.out 1) | ((with_reducible refine gate_callee (f := 28) rfl ?_); refine goesL_ (some 35) rfl rfl Tryd.func28 (by kernel_rfl) rfl #[.agg #[.string t373, .string t374, .int .i64 t375], .agg #[.string t376, .string t377]] rfl ZZ19826e ?_; (with_reducible refine (spec_AppendRecord.calls k t373 t374 t375 t376 t377 t385 t386 t387 t388 _ A6.out).mono ?_); rintro e w21 ⟨rfl, hb⟩; refine ⟨_, rfl, ?_⟩; replace BK378 := Aside0.mk (blk_below (g := gb378) (o := .cells #[.string t373, .string t374, .int .i64 t375] 31 (0, 0)) (by (with_reducible repeat (first | refine blk_drewN ?_ _ | refine blk_drew ?_ | refine blk_alloc ?_ _)); refine blk_far ?_ NB378_384.out _; (with_reducible repeat (first | refine blk_drewN ?_ _ | refine blk_drew ?_ | refine blk_alloc ?_ _)); refine blk_far ?_ NB378_384.out _; (with_reducible repeat (first | refine blk_drewN ?_ _ | refine blk_drew ?_ | refine blk_alloc ?_ _)); refine blk_far ?_ NB378_384.out _; (with_reducible repeat (first | refine blk_drewN ?_ _ | refine blk_drew ?_ | refine blk_alloc ?_ _)); exact BK378.out) hb); replace BK379 := Aside0.mk (blk_below (g := gb379) (o := .cells #[.string t376, .string t377] 27 (0, 0)) (by (with_reducible repeat (first | refine blk_drewN ?_ _ | refine blk_drew ?_ | refine blk_alloc ?_ _)); refine blk_far ?_ NB379_384.out _; (with_reducible repeat (first | refine blk_drewN ?_ _ | refine blk_drew ?_ | refine blk_alloc ?_ _)); refine blk_far ?_ NB379_384.out _; (with_reducible repeat (first | refine blk_drewN ?_ _ | refine blk_drew ?_ | refine blk_alloc ?_ _)); refine blk_far ?_ NB379_384.out _; (with_reducible repeat (first | refine blk_drewN ?_ _ | refine blk_drew ?_ | refine blk_alloc ?_ _)); exact BK379.out) hb); replace BK384 := Aside0.mk (blk_below (g := gb384) (o := .cells #[.string t380, .string t381, .int .i64 t382] 31 (0, 0)) (by (with_reducible repeat (first | refine blk_drewN ?_ _ | refine blk_drew ?_ | refine blk_alloc ?_ _)); refine blk_put (cs := #[.string t380, .string t381, .int .i64 0]) ?_ 2 _ rfl; (with_reducible repeat (first | refine blk_drewN ?_ _ | refine blk_drew ?_ | refine blk_alloc ?_ _)); refine blk_put (cs := #[.string t380, .string (⟨#[]⟩ : ByteArray), .int .i64 0]) ?_ 1 _ rfl; (with_reducible repeat (first | refine blk_drewN ?_ _ | refine blk_drew ?_ | refine blk_alloc ?_ _)); refine blk_put (cs := #[.string (⟨#[]⟩ : ByteArray), .string (⟨#[]⟩ : ByteArray), .int .i64 0]) ?_ 0 _ rfl; (with_reducible repeat (first | refine blk_drewN ?_ _ | refine blk_drew ?_ | refine blk_alloc ?_ _)); exact BK384.out) hb); replace HB := Aside0.mk (below_step ZZ295621 hb); (try clear hb); (try clear hb2); (try clear hk); (try clear hi)) | ((with_reducible refine gate_dst (N := 7) rfl ?_); (try (refine gate_guard (by rfl) ?_; dsimp only)); refine box_event ?hg (N := 7) ?hd (cs := #[.string (⟨#[]⟩ : ByteArray), .string (⟨#[]⟩ : ByteArray), .int .i64 0]) (t := 31) ?hr ?_; (case hd => rfl); (case hg => rfl); (case hr => first | (go_simp; done) | (go_simp; rfl)); intro gb389 hg w22 hbox hb; have BK389 := Aside0.mk (hbox); have GW389 := Aside0.mk ((by rw [hg]; exact (below_size ZZ295621) : w.heap.size ≤ gb389)); have GE389 := Aside0.mk ((by rw [hg]; exact (below_size ZZ295621) : w.heap.size ≤ gb389)); replace HB := Aside0.mk (below_step ZZ295621 hb); have NB378_389 := Aside0.mk ((by rw [hg]; exact Nat.ne_of_lt (blk_lt (zB BK378)) : gb378 ≠ gb389)); have NB389_378 := Aside0.mk ((by rw [hg]; exact Nat.ne_of_gt (blk_lt (zB BK378)) : gb389 ≠ gb378)); replace BK378 := Aside0.mk (blk_below (zB BK378) hb); have NB379_389 := Aside0.mk ((by rw [hg]; exact Nat.ne_of_lt (blk_lt (zB BK379)) : gb379 ≠ gb389)); have NB389_379 := Aside0.mk ((by rw [hg]; exact Nat.ne_of_gt (blk_lt (zB BK379)) : gb389 ≠ gb379)); replace BK379 := Aside0.mk (blk_below (zB BK379) hb); have NB384_389 := Aside0.mk ((by rw [hg]; exact Nat.ne_of_lt (blk_lt (zB BK384)) : gb384 ≠ gb389)); have NB389_384 := Aside0.mk ((by rw [hg]; exact Nat.ne_of_gt (blk_lt (zB BK384)) : gb389 ≠ gb384)); replace BK384 := Aside0.mk (blk_below (zB BK384) hb); clear hb hbox hg; have hnb23 := NB389_378.out; have hnc23 := NB378_389.out; have hnb24 := NB389_379.out; have hnc24 := NB379_389.out; have hnb25 := NB389_384.out; have hnc25 := NB384_389.out; have hcz26_0 : w22.cell? ⟨gb389, 0, none⟩ = some (.string (⟨#[]⟩ : ByteArray)) := (blk_cell BK389.out 0).trans rfl; have hcz26_1 : w22.cell? ⟨gb389, 1, none⟩ = some (.string (⟨#[]⟩ : ByteArray)) := (blk_cell BK389.out 1).trans rfl; have hcz26_2 : w22.cell? ⟨gb389, 2, none⟩ = some (.int .i64 0) := (blk_cell BK389.out 2).trans rfl; have hfz26_0 := blk_frozen BK389.out 0; have hfz26_1 := blk_frozen BK389.out 1; have hfz26_2 := blk_frozen BK389.out 2))
 (try simp only [Act.put, List.setIfInBounds_toArray, List.set_cons_zero, List.set_cons_succ])
 go_cut [59] (fun v59 wc => ∃ (kq : Nat) (x59_6 : Bool), v59 = .bool x59_6 ∧ Aside0 (laws_FnLog.j0 kq t383 x59_6 t373 t374 t375 t376 t377 t380 t381 t382 = some r) ∧ Aside0 (kq ≤ k) ∧ Aside0 (wc.heap[gb378]? = some (.cells #[.string t373, .string t374, .int .i64 t375] 31 (0, 0))) ∧ Aside0 (wc.heap[gb379]? = some (.cells #[.string t376, .string t377] 27 (0, 0))) ∧ Aside0 (wc.heap[gb384]? = some (.cells #[.string t380, .string t381, .int .i64 t382] 31 (0, 0))) ∧ Aside0 (wc.heap[gb389]? = some (.cells #[.string t385, .string t386, .int .i64 t387] 31 (0, 0))) ∧ Aside0 (Below w.heap.size w wc))
 case first =>
  have H := HC7.out
  clear HC7
  by_cases c27 : (!(t380.toList == t385.toList) || (!(t381.toList == t386.toList) || (!(t382 == t387)))) = true
  ·rw [if_pos c27] at H
   have c27b0 : (!(t380.toList == t385.toList) || (!(t381.toList == t386.toList) || (!(t382 == t387)))) = true := c27
   clear c27
   (first | rw [c27b0] | (simp only [i64_w, i32_w]; rw [c27b0]) | skip)
   have H' := Aside0.mk H
   clear H
   try go_wp2
   have n0_ : Aside0 ((((w22.setCell ⟨gb389, 0, none⟩ (.string t385)).setCell ⟨gb389, 1, none⟩ (.string t386)).setCell ⟨gb389, 2, none⟩ (.int .i64 t387)).heap[gb378]? = some (.cells #[.string t373, .string t374, .int .i64 t375] 31 (0, 0))) := ⟨ZZf03468⟩
   have n1_ : Aside0 ((((w22.setCell ⟨gb389, 0, none⟩ (.string t385)).setCell ⟨gb389, 1, none⟩ (.string t386)).setCell ⟨gb389, 2, none⟩ (.int .i64 t387)).heap[gb379]? = some (.cells #[.string t376, .string t377] 27 (0, 0))) := ⟨ZZ7e331e⟩
   have n2_ : Aside0 ((((w22.setCell ⟨gb389, 0, none⟩ (.string t385)).setCell ⟨gb389, 1, none⟩ (.string t386)).setCell ⟨gb389, 2, none⟩ (.int .i64 t387)).heap[gb384]? = some (.cells #[.string t380, .string t381, .int .i64 t382] 31 (0, 0))) := ⟨ZZc6cafc⟩
   have n3_ : Aside0 ((((w22.setCell ⟨gb389, 0, none⟩ (.string t385)).setCell ⟨gb389, 1, none⟩ (.string t386)).setCell ⟨gb389, 2, none⟩ (.int .i64 t387)).heap[gb389]? = some (.cells #[.string t385, .string t386, .int .i64 t387] 31 (0, 0))) := ⟨ZZa2d633⟩
   have n4_ : Aside0 (Below w.heap.size w (((w22.setCell ⟨gb389, 0, none⟩ (.string t385)).setCell ⟨gb389, 1, none⟩ (.string t386)).setCell ⟨gb389, 2, none⟩ (.int .i64 t387))) := ⟨ZZ295621⟩
   (try clear BK378)
   (try clear BK379)
   (try clear BK384)
   (try clear BK389)
   (try clear HB)
   generalize (((w22.setCell ⟨gb389, 0, none⟩ (.string t385)).setCell ⟨gb389, 1, none⟩ (.string t386)).setCell ⟨gb389, 2, none⟩ (.int .i64 t387)) = w28 at n0_ n1_ n2_ n3_ n4_ ⊢
   have BK378 := n0_
   have BK379 := n1_
   have BK384 := n2_
   have BK389 := n3_
   have HB := n4_
   clear n0_ n1_ n2_ n3_ n4_
   replace BK378 := Aside0.mk (blk_drew BK378.out)
   replace BK379 := Aside0.mk (blk_drew BK379.out)
   replace BK384 := Aside0.mk (blk_drew BK384.out)
   replace BK389 := Aside0.mk (blk_drew BK389.out)
   replace HB := Aside0.mk (below_drew1 HB.out)
   refine start_ (n := 22) (S := fun w' => w'.cell? ⟨gb384, 0, none⟩ = some (.string t380) ∧ w'.cell? ⟨gb384, 1, none⟩ = some (.string t381) ∧ w'.cell? ⟨gb384, 2, none⟩ = some (.int .i64 t382) ∧ w'.cell? ⟨gb389, 0, none⟩ = some (.string t385) ∧ w'.cell? ⟨gb389, 1, none⟩ = some (.string t386) ∧ w'.cell? ⟨gb389, 2, none⟩ = some (.int .i64 t387)) (ds := []) #[false, false, false, false, false, false, false, false, false, false, false, false, false, false, false, false, false, false, false, false, false, false] (by kernel_rfl) rfl rfl ⟨(blk_cell BK384.out 0).trans rfl, (blk_cell BK384.out 1).trans rfl, (blk_cell BK384.out 2).trans rfl, (blk_cell BK389.out 0).trans rfl, (blk_cell BK389.out 1).trans rfl, (blk_cell BK389.out 2).trans rfl⟩ (fun hHeld => ?_); refine with_tabW laws_FnLog.tab6 laws_FnLog.bits6 (fun HT_ HW_ => ?_)
   generalize w28.drew = w29 at BK378 BK379 BK384 BK389 HB hHeld ⊢
   refine tk 0 38 ?_
   refine tk 1 39 ?_
   refine pu 2 40 ?_
   refine pu 3 41 ?_
   refine pn 4 42 ?_
   refine pn 5 43 ?_
   refine pn 6 44 ?_
   refine pu 7 45 ?_
   refine pu 8 46 ?_
   refine pn 9 47 ?_
   refine pn 10 48 ?_
   refine pn 11 49 ?_
   refine pn 12 50 ?_
   refine pn 13 51 ?_
   refine pu 14 52 ?_
   refine pu 15 53 ?_
   refine pn 16 54 ?_
   refine pn 17 55 ?_
   refine pn 18 56 ?_
   refine pn 19 57 ?_
   refine pn 20 58 ?_
   refine pu 21 59 ?_
   refine done_ (done_of HT_.out (by kernel_rfl)) ?_
   try go_wp2
   go_meet
   case rel => exact ⟨_, (true), ZZ0ab324, H', ⟨(by first | omega | exact Nat.le_refl _)⟩, ⟨(zB BK378)⟩, ⟨(zB BK379)⟩, ⟨(zB BK384)⟩, ⟨(zB BK389)⟩, ⟨ZZ295621⟩⟩
  rw [if_neg c27] at H
  have c27b0 : (!(t380.toList == t385.toList) || (!(t381.toList == t386.toList) || (!(t382 == t387)))) = false := by simpa using c27
  clear c27
  (first | rw [c27b0] | (simp only [i64_w, i32_w]; rw [c27b0]) | skip)
  by_cases c30 : t383 = t388
  ·rw [if_pos c30] at H
   have c30b0 := beq_iff_eq.mpr c30
   have c30b1 := bne_eq_false_iff_eq.mpr c30
   clear c30
   obtain ⟨t390, A31, H⟩ := bdY H
   obtain ⟨t391, A32, H⟩ := bdY H
   by_cases c33 : (t390 != t391) = true
   ·rw [if_pos c33] at H
    have c33b0 : (t390 != t391) = true := c33
    (try (have c33b1 : decide (t390 = t391) = false := by simpa using c33))
    (try (have c33b2 : (t390 == t391) = false := by simpa using c33))
    (try (have c33b3 : ¬ (t390 = t391) := by simpa using c33))
    clear c33
    have H' := Aside0.mk H
    clear H
    try go_wp2
    have n0_ : Aside0 ((((w22.setCell ⟨gb389, 0, none⟩ (.string t385)).setCell ⟨gb389, 1, none⟩ (.string t386)).setCell ⟨gb389, 2, none⟩ (.int .i64 t387)).heap[gb378]? = some (.cells #[.string t373, .string t374, .int .i64 t375] 31 (0, 0))) := ⟨ZZf03468⟩
    have n1_ : Aside0 ((((w22.setCell ⟨gb389, 0, none⟩ (.string t385)).setCell ⟨gb389, 1, none⟩ (.string t386)).setCell ⟨gb389, 2, none⟩ (.int .i64 t387)).heap[gb379]? = some (.cells #[.string t376, .string t377] 27 (0, 0))) := ⟨ZZ7e331e⟩
    have n2_ : Aside0 ((((w22.setCell ⟨gb389, 0, none⟩ (.string t385)).setCell ⟨gb389, 1, none⟩ (.string t386)).setCell ⟨gb389, 2, none⟩ (.int .i64 t387)).heap[gb384]? = some (.cells #[.string t380, .string t381, .int .i64 t382] 31 (0, 0))) := ⟨ZZc6cafc⟩
    have n3_ : Aside0 ((((w22.setCell ⟨gb389, 0, none⟩ (.string t385)).setCell ⟨gb389, 1, none⟩ (.string t386)).setCell ⟨gb389, 2, none⟩ (.int .i64 t387)).heap[gb389]? = some (.cells #[.string t385, .string t386, .int .i64 t387] 31 (0, 0))) := ⟨ZZa2d633⟩
    have n4_ : Aside0 (Below w.heap.size w (((w22.setCell ⟨gb389, 0, none⟩ (.string t385)).setCell ⟨gb389, 1, none⟩ (.string t386)).setCell ⟨gb389, 2, none⟩ (.int .i64 t387))) := ⟨ZZ295621⟩
    (try clear BK378)
    (try clear BK379)
    (try clear BK384)
    (try clear BK389)
    (try clear HB)
    generalize (((w22.setCell ⟨gb389, 0, none⟩ (.string t385)).setCell ⟨gb389, 1, none⟩ (.string t386)).setCell ⟨gb389, 2, none⟩ (.int .i64 t387)) = w34 at n0_ n1_ n2_ n3_ n4_ ⊢
    have BK378 := n0_
    have BK379 := n1_
    have BK384 := n2_
    have BK389 := n3_
    have HB := n4_
    clear n0_ n1_ n2_ n3_ n4_
    replace BK378 := Aside0.mk (blk_drew BK378.out)
    replace BK379 := Aside0.mk (blk_drew BK379.out)
    replace BK384 := Aside0.mk (blk_drew BK384.out)
    replace BK389 := Aside0.mk (blk_drew BK389.out)
    replace HB := Aside0.mk (below_drew1 HB.out)
    refine start_ (n := 22) (S := fun w' => w'.cell? ⟨gb384, 0, none⟩ = some (.string t380) ∧ w'.cell? ⟨gb384, 1, none⟩ = some (.string t381) ∧ w'.cell? ⟨gb384, 2, none⟩ = some (.int .i64 t382) ∧ w'.cell? ⟨gb389, 0, none⟩ = some (.string t385) ∧ w'.cell? ⟨gb389, 1, none⟩ = some (.string t386) ∧ w'.cell? ⟨gb389, 2, none⟩ = some (.int .i64 t387) ∧ w'.cell? ⟨gb378, 0, none⟩ = some (.string t373) ∧ w'.cell? ⟨gb378, 1, none⟩ = some (.string t374) ∧ w'.cell? ⟨gb378, 2, none⟩ = some (.int .i64 t375)) (ds := []) #[false, false, false, false, false, false, false, false, false, false, false, false, false, false, false, false, false, false, false, false, false, false] (by kernel_rfl) rfl rfl ⟨(blk_cell BK384.out 0).trans rfl, (blk_cell BK384.out 1).trans rfl, (blk_cell BK384.out 2).trans rfl, (blk_cell BK389.out 0).trans rfl, (blk_cell BK389.out 1).trans rfl, (blk_cell BK389.out 2).trans rfl, (blk_cell BK378.out 0).trans rfl, (blk_cell BK378.out 1).trans rfl, (blk_cell BK378.out 2).trans rfl⟩ (fun hHeld => ?_); refine with_tabW laws_FnLog.tab6 laws_FnLog.bits6 (fun HT_ HW_ => ?_)
    generalize w34.drew = w35 at BK378 BK379 BK384 BK389 HB hHeld ⊢
    refine tk 0 38 ?_
    refine tk 1 39 ?_
    refine pu 2 40 ?_
    refine pu 3 41 ?_
    refine pu 4 42 ?_
    refine pu 5 43 ?_
    refine pu 6 44 ?_
    refine pu 7 45 ?_
    refine pu 8 46 ?_
    refine tk 9 47 ?_
    refine tk 11 49 ?_
    refine one_ (i := 10) (N := some 48) #[true, true, true, true, true, true, true, true, true, true, true, true, false, false, false, false, false, false, false, false, false, false] rfl rfl (one_of HT_.out (by kernel_rfl)) (by decide) (fun K hK => ?_)
    refine goes_ Tryd.func23 (by kernel_rfl) rfl #[.agg #[.string t373, .string t374, .int .i64 t375]] (by rfl) rfl rfl ZZ19826e ?_
    with_reducible refine (impl_IsValidLog.calls k t373 t374 t375 t390 _ ?side1 A31.out).mono ?_
    (case side1 => first | (with_reducible exact HV.out) | exact TInv.below HV.out ZZ295621)
    rintro e w36 ⟨rfl, hb⟩
    refine ⟨_, rfl, ?_⟩
    replace BK378 := Aside0.mk (blk_below (zB BK378) hb)
    replace BK379 := Aside0.mk (blk_below (zB BK379) hb)
    replace BK384 := Aside0.mk (blk_below (zB BK384) hb)
    replace BK389 := Aside0.mk (blk_below (zB BK389) hb)
    replace HB := Aside0.mk (below_step ZZ295621 hb)
    (try clear hb)
    (try clear hb2)
    (try clear hk)
    (try clear hi)
    refine hK.out _ _ ⟨(blk_cell BK384.out 0).trans rfl, (blk_cell BK384.out 1).trans rfl, (blk_cell BK384.out 2).trans rfl, (blk_cell BK389.out 0).trans rfl, (blk_cell BK389.out 1).trans rfl, (blk_cell BK389.out 2).trans rfl, (blk_cell BK378.out 0).trans rfl, (blk_cell BK378.out 1).trans rfl, (blk_cell BK378.out 2).trans rfl⟩ (fun hHeld => ?_)
    clear hK K
    refine norm_ (a' := ?_) ?_ ?_
    rotate_left
    ·show Act.put _ (some 48) _ = _
     simp only [Act.put, List.setIfInBounds_toArray, List.set_cons_zero, List.set_cons_succ, i64_w, i32_w]
     rfl
    refine one_ (i := 12) (N := some 50) #[true, true, true, true, true, true, true, true, true, true, true, true, true, false, false, false, false, false, false, false, false, false] rfl rfl (one_of HT_.out (by kernel_rfl)) (by decide) (fun K hK => ?_)
    refine goes_ Tryd.func21 (by kernel_rfl) rfl #[.agg #[.string t373, .string t374, .int .i64 t375]] (by rfl) rfl rfl ZZ19826e ?_
    with_reducible refine (spec_IsValidLog.calls k t373 t374 t375 t391 _ A32.out).mono ?_
    rintro e w37 ⟨rfl, hb⟩
    refine ⟨_, rfl, ?_⟩
    replace BK378 := Aside0.mk (blk_below (zB BK378) hb)
    replace BK379 := Aside0.mk (blk_below (zB BK379) hb)
    replace BK384 := Aside0.mk (blk_below (zB BK384) hb)
    replace BK389 := Aside0.mk (blk_below (zB BK389) hb)
    replace HB := Aside0.mk (below_step ZZ295621 hb)
    (try clear hb)
    (try clear hb2)
    (try clear hk)
    (try clear hi)
    refine hK.out _ _ ⟨(blk_cell BK384.out 0).trans rfl, (blk_cell BK384.out 1).trans rfl, (blk_cell BK384.out 2).trans rfl, (blk_cell BK389.out 0).trans rfl, (blk_cell BK389.out 1).trans rfl, (blk_cell BK389.out 2).trans rfl, (blk_cell BK378.out 0).trans rfl, (blk_cell BK378.out 1).trans rfl, (blk_cell BK378.out 2).trans rfl⟩ (fun hHeld => ?_)
    clear hK K
    refine norm_ (a' := ?_) ?_ ?_
    rotate_left
    ·show Act.put _ (some 50) _ = _
     simp only [Act.put, List.setIfInBounds_toArray, List.set_cons_zero, List.set_cons_succ, i64_w, i32_w]
     rfl
    refine pu 13 51 ?_
    refine pu 14 52 ?_
    refine pu 15 53 ?_
    refine pn 16 54 ?_
    refine pn 17 55 ?_
    refine pn 18 56 ?_
    refine pn 19 57 ?_
    refine pn 20 58 ?_
    refine pu 21 59 ?_
    refine done_ (done_of HT_.out (by kernel_rfl)) ?_
    try go_wp2
    go_meet
    case rel => exact ⟨_, (true), ZZ0ab324, H', ⟨(by first | omega | exact Nat.le_refl _)⟩, ⟨(zB BK378)⟩, ⟨(zB BK379)⟩, ⟨(zB BK384)⟩, ⟨(zB BK389)⟩, ⟨ZZ295621⟩⟩
   rw [if_neg c33] at H
   have c33b0 : (t390 != t391) = false := by simpa using c33
   (try (have c33b1 : decide (t390 = t391) = true := by simpa using c33))
   (try (have c33b2 : (t390 == t391) = true := by simpa using c33))
   clear c33
   obtain ⟨t392, A38, H⟩ := bdY H
   obtain ⟨t393, A39, H⟩ := bdY H
   have H' := Aside0.mk H
   clear H
   try go_wp2
   have n0_ : Aside0 ((((w22.setCell ⟨gb389, 0, none⟩ (.string t385)).setCell ⟨gb389, 1, none⟩ (.string t386)).setCell ⟨gb389, 2, none⟩ (.int .i64 t387)).heap[gb378]? = some (.cells #[.string t373, .string t374, .int .i64 t375] 31 (0, 0))) := ⟨ZZf03468⟩
   have n1_ : Aside0 ((((w22.setCell ⟨gb389, 0, none⟩ (.string t385)).setCell ⟨gb389, 1, none⟩ (.string t386)).setCell ⟨gb389, 2, none⟩ (.int .i64 t387)).heap[gb379]? = some (.cells #[.string t376, .string t377] 27 (0, 0))) := ⟨ZZ7e331e⟩
   have n2_ : Aside0 ((((w22.setCell ⟨gb389, 0, none⟩ (.string t385)).setCell ⟨gb389, 1, none⟩ (.string t386)).setCell ⟨gb389, 2, none⟩ (.int .i64 t387)).heap[gb384]? = some (.cells #[.string t380, .string t381, .int .i64 t382] 31 (0, 0))) := ⟨ZZc6cafc⟩
   have n3_ : Aside0 ((((w22.setCell ⟨gb389, 0, none⟩ (.string t385)).setCell ⟨gb389, 1, none⟩ (.string t386)).setCell ⟨gb389, 2, none⟩ (.int .i64 t387)).heap[gb389]? = some (.cells #[.string t385, .string t386, .int .i64 t387] 31 (0, 0))) := ⟨ZZa2d633⟩
   have n4_ : Aside0 (Below w.heap.size w (((w22.setCell ⟨gb389, 0, none⟩ (.string t385)).setCell ⟨gb389, 1, none⟩ (.string t386)).setCell ⟨gb389, 2, none⟩ (.int .i64 t387))) := ⟨ZZ295621⟩
   (try clear BK378)
   (try clear BK379)
   (try clear BK384)
   (try clear BK389)
   (try clear HB)
   generalize (((w22.setCell ⟨gb389, 0, none⟩ (.string t385)).setCell ⟨gb389, 1, none⟩ (.string t386)).setCell ⟨gb389, 2, none⟩ (.int .i64 t387)) = w40 at n0_ n1_ n2_ n3_ n4_ ⊢
   have BK378 := n0_
   have BK379 := n1_
   have BK384 := n2_
   have BK389 := n3_
   have HB := n4_
   clear n0_ n1_ n2_ n3_ n4_
   replace BK378 := Aside0.mk (blk_drew BK378.out)
   replace BK379 := Aside0.mk (blk_drew BK379.out)
   replace BK384 := Aside0.mk (blk_drew BK384.out)
   replace BK389 := Aside0.mk (blk_drew BK389.out)
   replace HB := Aside0.mk (below_drew1 HB.out)
   refine start_ (n := 22) (S := fun w' => w'.cell? ⟨gb384, 0, none⟩ = some (.string t380) ∧ w'.cell? ⟨gb384, 1, none⟩ = some (.string t381) ∧ w'.cell? ⟨gb384, 2, none⟩ = some (.int .i64 t382) ∧ w'.cell? ⟨gb389, 0, none⟩ = some (.string t385) ∧ w'.cell? ⟨gb389, 1, none⟩ = some (.string t386) ∧ w'.cell? ⟨gb389, 2, none⟩ = some (.int .i64 t387) ∧ w'.cell? ⟨gb378, 0, none⟩ = some (.string t373) ∧ w'.cell? ⟨gb378, 1, none⟩ = some (.string t374) ∧ w'.cell? ⟨gb378, 2, none⟩ = some (.int .i64 t375) ∧ w'.cell? ⟨gb379, 0, none⟩ = some (.string t376) ∧ w'.cell? ⟨gb379, 1, none⟩ = some (.string t377)) (ds := []) #[false, false, false, false, false, false, false, false, false, false, false, false, false, false, false, false, false, false, false, false, false, false] (by kernel_rfl) rfl rfl ⟨(blk_cell BK384.out 0).trans rfl, (blk_cell BK384.out 1).trans rfl, (blk_cell BK384.out 2).trans rfl, (blk_cell BK389.out 0).trans rfl, (blk_cell BK389.out 1).trans rfl, (blk_cell BK389.out 2).trans rfl, (blk_cell BK378.out 0).trans rfl, (blk_cell BK378.out 1).trans rfl, (blk_cell BK378.out 2).trans rfl, (blk_cell BK379.out 0).trans rfl, (blk_cell BK379.out 1).trans rfl⟩ (fun hHeld => ?_); refine with_tabW laws_FnLog.tab6 laws_FnLog.bits6 (fun HT_ HW_ => ?_)
   generalize w40.drew = w41 at BK378 BK379 BK384 BK389 HB hHeld ⊢
   refine tk 0 38 ?_
   refine tk 1 39 ?_
   refine pu 2 40 ?_
   refine pu 3 41 ?_
   refine pu 4 42 ?_
   refine pu 5 43 ?_
   refine pu 6 44 ?_
   refine pu 7 45 ?_
   refine pu 8 46 ?_
   refine tk 9 47 ?_
   refine tk 11 49 ?_
   refine one_ (i := 10) (N := some 48) #[true, true, true, true, true, true, true, true, true, true, true, true, false, false, false, false, false, false, false, false, false, false] rfl rfl (one_of HT_.out (by kernel_rfl)) (by decide) (fun K hK => ?_)
   refine goes_ Tryd.func23 (by kernel_rfl) rfl #[.agg #[.string t373, .string t374, .int .i64 t375]] (by rfl) rfl rfl ZZ19826e ?_
   with_reducible refine (impl_IsValidLog.calls k t373 t374 t375 t390 _ ?side1 A31.out).mono ?_
   (case side1 => first | (with_reducible exact HV.out) | exact TInv.below HV.out ZZ295621)
   rintro e w42 ⟨rfl, hb⟩
   refine ⟨_, rfl, ?_⟩
   replace BK378 := Aside0.mk (blk_below (zB BK378) hb)
   replace BK379 := Aside0.mk (blk_below (zB BK379) hb)
   replace BK384 := Aside0.mk (blk_below (zB BK384) hb)
   replace BK389 := Aside0.mk (blk_below (zB BK389) hb)
   replace HB := Aside0.mk (below_step ZZ295621 hb)
   (try clear hb)
   (try clear hb2)
   (try clear hk)
   (try clear hi)
   refine hK.out _ _ ⟨(blk_cell BK384.out 0).trans rfl, (blk_cell BK384.out 1).trans rfl, (blk_cell BK384.out 2).trans rfl, (blk_cell BK389.out 0).trans rfl, (blk_cell BK389.out 1).trans rfl, (blk_cell BK389.out 2).trans rfl, (blk_cell BK378.out 0).trans rfl, (blk_cell BK378.out 1).trans rfl, (blk_cell BK378.out 2).trans rfl, (blk_cell BK379.out 0).trans rfl, (blk_cell BK379.out 1).trans rfl⟩ (fun hHeld => ?_)
   clear hK K
   refine norm_ (a' := ?_) ?_ ?_
   rotate_left
   ·show Act.put _ (some 48) _ = _
    simp only [Act.put, List.setIfInBounds_toArray, List.set_cons_zero, List.set_cons_succ, i64_w, i32_w]
    rfl
   refine one_ (i := 12) (N := some 50) #[true, true, true, true, true, true, true, true, true, true, true, true, true, false, false, false, false, false, false, false, false, false] rfl rfl (one_of HT_.out (by kernel_rfl)) (by decide) (fun K hK => ?_)
   refine goes_ Tryd.func21 (by kernel_rfl) rfl #[.agg #[.string t373, .string t374, .int .i64 t375]] (by rfl) rfl rfl ZZ19826e ?_
   with_reducible refine (spec_IsValidLog.calls k t373 t374 t375 t391 _ A32.out).mono ?_
   rintro e w43 ⟨rfl, hb⟩
   refine ⟨_, rfl, ?_⟩
   replace BK378 := Aside0.mk (blk_below (zB BK378) hb)
   replace BK379 := Aside0.mk (blk_below (zB BK379) hb)
   replace BK384 := Aside0.mk (blk_below (zB BK384) hb)
   replace BK389 := Aside0.mk (blk_below (zB BK389) hb)
   replace HB := Aside0.mk (below_step ZZ295621 hb)
   (try clear hb)
   (try clear hb2)
   (try clear hk)
   (try clear hi)
   refine hK.out _ _ ⟨(blk_cell BK384.out 0).trans rfl, (blk_cell BK384.out 1).trans rfl, (blk_cell BK384.out 2).trans rfl, (blk_cell BK389.out 0).trans rfl, (blk_cell BK389.out 1).trans rfl, (blk_cell BK389.out 2).trans rfl, (blk_cell BK378.out 0).trans rfl, (blk_cell BK378.out 1).trans rfl, (blk_cell BK378.out 2).trans rfl, (blk_cell BK379.out 0).trans rfl, (blk_cell BK379.out 1).trans rfl⟩ (fun hHeld => ?_)
   clear hK K
   refine norm_ (a' := ?_) ?_ ?_
   rotate_left
   ·show Act.put _ (some 50) _ = _
    simp only [Act.put, List.setIfInBounds_toArray, List.set_cons_zero, List.set_cons_succ, i64_w, i32_w]
    rfl
   refine pu 13 51 ?_
   refine pu 14 52 ?_
   refine pu 15 53 ?_
   refine tk 16 54 ?_
   refine tk 18 56 ?_
   refine one_ (i := 17) (N := some 55) #[true, true, true, true, true, true, true, true, true, true, true, true, true, true, true, true, true, true, true, false, false, false] rfl rfl (one_of HT_.out (by kernel_rfl)) (by decide) (fun K hK => ?_)
   refine goes_ Tryd.func37 (by kernel_rfl) rfl #[.agg #[.string t376, .string t377]] (by rfl) rfl rfl ZZ19826e ?_
   with_reducible refine (impl_IsValidRecord.calls k t376 t377 t392 _ A38.out).mono ?_
   rintro e w44 ⟨rfl, hb⟩
   refine ⟨_, rfl, ?_⟩
   replace BK378 := Aside0.mk (blk_below (zB BK378) hb)
   replace BK379 := Aside0.mk (blk_below (zB BK379) hb)
   replace BK384 := Aside0.mk (blk_below (zB BK384) hb)
   replace BK389 := Aside0.mk (blk_below (zB BK389) hb)
   replace HB := Aside0.mk (below_step ZZ295621 hb)
   (try clear hb)
   (try clear hb2)
   (try clear hk)
   (try clear hi)
   refine hK.out _ _ ⟨(blk_cell BK384.out 0).trans rfl, (blk_cell BK384.out 1).trans rfl, (blk_cell BK384.out 2).trans rfl, (blk_cell BK389.out 0).trans rfl, (blk_cell BK389.out 1).trans rfl, (blk_cell BK389.out 2).trans rfl, (blk_cell BK378.out 0).trans rfl, (blk_cell BK378.out 1).trans rfl, (blk_cell BK378.out 2).trans rfl, (blk_cell BK379.out 0).trans rfl, (blk_cell BK379.out 1).trans rfl⟩ (fun hHeld => ?_)
   clear hK K
   refine norm_ (a' := ?_) ?_ ?_
   rotate_left
   ·show Act.put _ (some 55) _ = _
    simp only [Act.put, List.setIfInBounds_toArray, List.set_cons_zero, List.set_cons_succ, i64_w, i32_w]
    rfl
   refine one_ (i := 19) (N := some 57) #[true, true, true, true, true, true, true, true, true, true, true, true, true, true, true, true, true, true, true, true, false, false] rfl rfl (one_of HT_.out (by kernel_rfl)) (by decide) (fun K hK => ?_)
   refine goes_ Tryd.func38 (by kernel_rfl) rfl #[.agg #[.string t376, .string t377]] (by rfl) rfl rfl ZZ19826e ?_
   with_reducible refine (spec_IsValidRecord.calls k t376 t377 t393 _ A39.out).mono ?_
   rintro e w45 ⟨rfl, hb⟩
   refine ⟨_, rfl, ?_⟩
   replace BK378 := Aside0.mk (blk_below (zB BK378) hb)
   replace BK379 := Aside0.mk (blk_below (zB BK379) hb)
   replace BK384 := Aside0.mk (blk_below (zB BK384) hb)
   replace BK389 := Aside0.mk (blk_below (zB BK389) hb)
   replace HB := Aside0.mk (below_step ZZ295621 hb)
   (try clear hb)
   (try clear hb2)
   (try clear hk)
   (try clear hi)
   refine hK.out _ _ ⟨(blk_cell BK384.out 0).trans rfl, (blk_cell BK384.out 1).trans rfl, (blk_cell BK384.out 2).trans rfl, (blk_cell BK389.out 0).trans rfl, (blk_cell BK389.out 1).trans rfl, (blk_cell BK389.out 2).trans rfl, (blk_cell BK378.out 0).trans rfl, (blk_cell BK378.out 1).trans rfl, (blk_cell BK378.out 2).trans rfl, (blk_cell BK379.out 0).trans rfl, (blk_cell BK379.out 1).trans rfl⟩ (fun hHeld => ?_)
   clear hK K
   refine norm_ (a' := ?_) ?_ ?_
   rotate_left
   ·show Act.put _ (some 57) _ = _
    simp only [Act.put, List.setIfInBounds_toArray, List.set_cons_zero, List.set_cons_succ, i64_w, i32_w]
    rfl
   refine pu 20 58 ?_
   refine pu 21 59 ?_
   refine done_ (done_of HT_.out (by kernel_rfl)) ?_
   try go_wp2
   go_meet
   case rel => exact ⟨_, ((t392 != t393)), ZZ0ab324, H', ⟨(by first | omega | exact Nat.le_refl _)⟩, ⟨(zB BK378)⟩, ⟨(zB BK379)⟩, ⟨(zB BK384)⟩, ⟨(zB BK389)⟩, ⟨ZZ295621⟩⟩
  rw [if_neg c30] at H
  have c30b0 := beq_eq_false_iff_ne.mpr c30
  have c30b1 := bne_iff_ne.mpr c30
  have H' := Aside0.mk H
  clear H
  try go_wp2
  have n0_ : Aside0 ((((w22.setCell ⟨gb389, 0, none⟩ (.string t385)).setCell ⟨gb389, 1, none⟩ (.string t386)).setCell ⟨gb389, 2, none⟩ (.int .i64 t387)).heap[gb378]? = some (.cells #[.string t373, .string t374, .int .i64 t375] 31 (0, 0))) := ⟨ZZf03468⟩
  have n1_ : Aside0 ((((w22.setCell ⟨gb389, 0, none⟩ (.string t385)).setCell ⟨gb389, 1, none⟩ (.string t386)).setCell ⟨gb389, 2, none⟩ (.int .i64 t387)).heap[gb379]? = some (.cells #[.string t376, .string t377] 27 (0, 0))) := ⟨ZZ7e331e⟩
  have n2_ : Aside0 ((((w22.setCell ⟨gb389, 0, none⟩ (.string t385)).setCell ⟨gb389, 1, none⟩ (.string t386)).setCell ⟨gb389, 2, none⟩ (.int .i64 t387)).heap[gb384]? = some (.cells #[.string t380, .string t381, .int .i64 t382] 31 (0, 0))) := ⟨ZZc6cafc⟩
  have n3_ : Aside0 ((((w22.setCell ⟨gb389, 0, none⟩ (.string t385)).setCell ⟨gb389, 1, none⟩ (.string t386)).setCell ⟨gb389, 2, none⟩ (.int .i64 t387)).heap[gb389]? = some (.cells #[.string t385, .string t386, .int .i64 t387] 31 (0, 0))) := ⟨ZZa2d633⟩
  have n4_ : Aside0 (Below w.heap.size w (((w22.setCell ⟨gb389, 0, none⟩ (.string t385)).setCell ⟨gb389, 1, none⟩ (.string t386)).setCell ⟨gb389, 2, none⟩ (.int .i64 t387))) := ⟨ZZ295621⟩
  (try clear BK378)
  (try clear BK379)
  (try clear BK384)
  (try clear BK389)
  (try clear HB)
  generalize (((w22.setCell ⟨gb389, 0, none⟩ (.string t385)).setCell ⟨gb389, 1, none⟩ (.string t386)).setCell ⟨gb389, 2, none⟩ (.int .i64 t387)) = w46 at n0_ n1_ n2_ n3_ n4_ ⊢
  have BK378 := n0_
  have BK379 := n1_
  have BK384 := n2_
  have BK389 := n3_
  have HB := n4_
  clear n0_ n1_ n2_ n3_ n4_
  replace BK378 := Aside0.mk (blk_drew BK378.out)
  replace BK379 := Aside0.mk (blk_drew BK379.out)
  replace BK384 := Aside0.mk (blk_drew BK384.out)
  replace BK389 := Aside0.mk (blk_drew BK389.out)
  replace HB := Aside0.mk (below_drew1 HB.out)
  refine start_ (n := 22) (S := fun w' => w'.cell? ⟨gb384, 0, none⟩ = some (.string t380) ∧ w'.cell? ⟨gb384, 1, none⟩ = some (.string t381) ∧ w'.cell? ⟨gb384, 2, none⟩ = some (.int .i64 t382) ∧ w'.cell? ⟨gb389, 0, none⟩ = some (.string t385) ∧ w'.cell? ⟨gb389, 1, none⟩ = some (.string t386) ∧ w'.cell? ⟨gb389, 2, none⟩ = some (.int .i64 t387)) (ds := []) #[false, false, false, false, false, false, false, false, false, false, false, false, false, false, false, false, false, false, false, false, false, false] (by kernel_rfl) rfl rfl ⟨(blk_cell BK384.out 0).trans rfl, (blk_cell BK384.out 1).trans rfl, (blk_cell BK384.out 2).trans rfl, (blk_cell BK389.out 0).trans rfl, (blk_cell BK389.out 1).trans rfl, (blk_cell BK389.out 2).trans rfl⟩ (fun hHeld => ?_); refine with_tabW laws_FnLog.tab6 laws_FnLog.bits6 (fun HT_ HW_ => ?_)
  generalize w46.drew = w47 at BK378 BK379 BK384 BK389 HB hHeld ⊢
  refine tk 0 38 ?_
  refine tk 1 39 ?_
  refine pu 2 40 ?_
  refine pu 3 41 ?_
  refine pu 4 42 ?_
  refine pu 5 43 ?_
  refine pu 6 44 ?_
  refine pu 7 45 ?_
  refine pu 8 46 ?_
  refine pn 9 47 ?_
  refine pn 10 48 ?_
  refine pn 11 49 ?_
  refine pn 12 50 ?_
  refine pn 13 51 ?_
  refine pu 14 52 ?_
  refine pu 15 53 ?_
  refine pn 16 54 ?_
  refine pn 17 55 ?_
  refine pn 18 56 ?_
  refine pn 19 57 ?_
  refine pn 20 58 ?_
  refine pu 21 59 ?_
  refine done_ (done_of HT_.out (by kernel_rfl)) ?_
  try go_wp2
  go_meet
  case rel => exact ⟨_, (true), ZZ0ab324, H', ⟨(by first | omega | exact Nat.le_refl _)⟩, ⟨(zB BK378)⟩, ⟨(zB BK379)⟩, ⟨(zB BK384)⟩, ⟨(zB BK389)⟩, ⟨ZZ295621⟩⟩
 case rest =>
  clear HC7
  try clear c3
  try clear c30
  try clear c30b0
  try clear c30b1
  try clear c33
  try clear c33b0
  try clear c33b1
  try clear c33b2
  obtain ⟨kq, x59_6, rfl, HA, HJ6, BK378, BK379, BK384, BK389, HB⟩ := hcut
  cases kq with
  | zero => exact absurd HA.out (by simp [laws_FnLog.j0])
  | succ kj6 =>
   have H := HA.out
   clear HA
   simp only [laws_FnLog.j0] at H
   by_cases c48 : x59_6 = true
   ·subst c48
    have H1 : (some false) = some r := by rw [if_pos rfl] at H; exact H
    clear H
    have H := H1
    clear H1
    obtain rfl := Option.some.inj H
    go_wp2
    go_ret
    exact ⟨ZZab01d2, ZZ295621⟩
   replace c48 := Bool.eq_false_iff.mpr c48
   subst c48
   have H1 : (if t383 = 0 then ((impl_LogRecords.f kj6 t380 t381 t382).bind fun bt394 => ((impl_LogRecords.f kj6 t373 t374 t375).bind fun bt398 => (if t380.size + t381.size ≤ 9223372036854775807 then ((impl_RecoverLog.f kj6 (t380 ++ t381)).bind fun bt402 => ((impl_SyncLog.f kj6 t380 t381 t382).bind fun bt408 => (if bt394.2 = true then (if (bt394.1.length : Int) = (wrap64 ((bt398.1.length : Int) + 1)) then (laws_FnLog.j1 kj6 bt394.1 bt398.1 bt402.2.2.2.1 bt402.2.2.2.2 bt408.2.2.2 (t382 != (bt394.1.length : Int)) t376 t377 t380 t381 t382 bt402.1 bt402.2.1 bt402.2.2.1 bt408.1 bt408.2.1 bt408.2.2.1) else (laws_FnLog.j1 kj6 bt394.1 bt398.1 bt402.2.2.2.1 bt402.2.2.2.2 bt408.2.2.2 true t376 t377 t380 t381 t382 bt402.1 bt402.2.1 bt402.2.2.1 bt408.1 bt408.2.1 bt408.2.2.1)) else (laws_FnLog.j1 kj6 bt394.1 bt398.1 bt402.2.2.2.1 bt402.2.2.2.2 bt408.2.2.2 true t376 t377 t380 t381 t382 bt402.1 bt402.2.1 bt402.2.2.1 bt408.1 bt408.2.1 bt408.2.2.1)))) else (none)))) else (some (t380.toList == t373.toList && (t381.toList == t374.toList && (t382 == t375))))) = some r := by rw [if_neg (show ¬ (false = true) by decide)] at H; exact H
   clear H
   have H := H1
   clear H1
   by_cases c49 : t383 = 0
   ·rw [if_pos c49] at H
    have c49b0 := beq_iff_eq.mpr c49
    have c49b1 := bne_eq_false_iff_eq.mpr c49
    clear c49
    obtain ⟨⟨t394, t397⟩, A50, H⟩ := bdY H
    try dsimp only at H
    obtain ⟨⟨t398, t401⟩, A51, H⟩ := bdY H
    try dsimp only at H
    obtain ⟨c52, H⟩ := ifY H
    have c52b0 := eq_true c52
    have c52b1 := decide_eq_true c52
    try have c52b2 : (9223372036854775807 < t380.size + t381.size) = False := eq_false (Nat.not_lt.2 c52)
    obtain ⟨⟨t402, t403, t404, t405, t406⟩, A53, H⟩ := bdY H
    try dsimp only at H
    obtain ⟨⟨t408, t409, t410, t411⟩, A54, H⟩ := bdY H
    try dsimp only at H
    have HC55 := Aside0.mk H
    clear H
    have hnb56 := NB384_378.out
    have hnc56 := NB378_384.out
    have hnb57 := NB384_379.out
    have hnc57 := NB379_384.out
    have hnb58 := NB384_389.out
    have hnc58 := NB389_384.out
    have hcz59_0 : wc.cell? ⟨gb384, 0, none⟩ = some (.string t380) := (blk_cell BK384.out 0).trans rfl
    have hcz59_1 : wc.cell? ⟨gb384, 1, none⟩ = some (.string t381) := (blk_cell BK384.out 1).trans rfl
    have hcz59_2 : wc.cell? ⟨gb384, 2, none⟩ = some (.int .i64 t382) := (blk_cell BK384.out 2).trans rfl
    have hfz59_0 := blk_frozen BK384.out 0
    have hfz59_1 := blk_frozen BK384.out 1
    have hfz59_2 := blk_frozen BK384.out 2
    go_upto_region 14 with (first | ((with_reducible refine gate_callee (f := 31) rfl ?_); refine goesL_ (some 67) rfl rfl Tryd.func31 (by kernel_rfl) rfl #[.agg #[.string t380, .string t381, .int .i64 t382]] rfl ZZ19826e ?_; (with_reducible refine (impl_LogRecords.calls kj6 t380 t381 t382 t394 t397 _ ?side1 A50.out).mono ?_); (case side1 => first | (with_reducible exact HV.out) | exact TInv.below HV.out ZZ295621); rintro e w60 ⟨v395, rfl, ho0, hb⟩; refine ⟨_, rfl, ?_⟩; have HO396 := Aside0.mk (Kd.R_lower (Kd.R_newB ho0 (zB BK379)) (below_size ZZ295621)); replace BK378 := Aside0.mk (blk_below (zB BK378) hb); replace BK379 := Aside0.mk (blk_below (zB BK379) hb); replace BK384 := Aside0.mk (blk_below (zB BK384) hb); replace BK389 := Aside0.mk (blk_below (zB BK389) hb); replace HB := Aside0.mk (below_step ZZ295621 hb); (try clear hb); (try clear hb2); (try clear hk); (try clear hi); (try clear ho0); have hnb61 := NB378_379.out; have hnc61 := NB379_378.out; have hnb62 := NB378_389.out; have hnc62 := NB389_378.out; have hcz63_0 : w60.cell? ⟨gb378, 0, none⟩ = some (.string t373) := (blk_cell BK378.out 0).trans rfl; have hcz63_1 : w60.cell? ⟨gb378, 1, none⟩ = some (.string t374) := (blk_cell BK378.out 1).trans rfl; have hcz63_2 : w60.cell? ⟨gb378, 2, none⟩ = some (.int .i64 t375) := (blk_cell BK378.out 2).trans rfl; have hfz63_0 := blk_frozen BK378.out 0; have hfz63_1 := blk_frozen BK378.out 1; have hfz63_2 := blk_frozen BK378.out 2) | ((with_reducible refine gate_callee (f := 31) rfl ?_); refine goesL_ (some 72) rfl rfl Tryd.func31 (by kernel_rfl) rfl #[.agg #[.string t373, .string t374, .int .i64 t375]] rfl ZZ19826e ?_; (with_reducible refine (impl_LogRecords.calls kj6 t373 t374 t375 t398 t401 _ ?side1 A51.out).mono ?_); (case side1 => first | (with_reducible exact HV.out) | exact TInv.below HV.out ZZ295621); rintro e w64 ⟨v399, rfl, ho0, hb⟩; refine ⟨_, rfl, ?_⟩; have HO400 := Aside0.mk (Kd.R_lower (Kd.R_newB (Kd.R_new' ho0 (Kd.R_lt (zR HO396))) (zB BK379)) (below_size ZZ295621)); replace HO396 := Aside0.mk (Kd.R_elder' (zR HO396) (Kd.R_base ho0) hb); replace BK378 := Aside0.mk (blk_below (zB BK378) hb); replace BK379 := Aside0.mk (blk_below (zB BK379) hb); replace BK384 := Aside0.mk (blk_below (zB BK384) hb); replace BK389 := Aside0.mk (blk_below (zB BK389) hb); replace HB := Aside0.mk (below_step ZZ295621 hb); (try clear hb); (try clear hb2); (try clear hk); (try clear hi); (try clear ho0); have hcz65_0 : w64.cell? ⟨gb384, 0, none⟩ = some (.string t380) := (blk_cell BK384.out 0).trans rfl; have hcz65_1 : w64.cell? ⟨gb384, 1, none⟩ = some (.string t381) := (blk_cell BK384.out 1).trans rfl; have hcz65_2 : w64.cell? ⟨gb384, 2, none⟩ = some (.int .i64 t382) := (blk_cell BK384.out 2).trans rfl; have hfz65_0 := blk_frozen BK384.out 0; have hfz65_1 := blk_frozen BK384.out 1; have hfz65_2 := blk_frozen BK384.out 2) | ((with_reducible refine gate_callee (f := 18) rfl ?_); refine goesL_ (some 81) rfl rfl Tryd.func18 (by kernel_rfl) rfl #[.string (t380 ++ t381)] rfl ZZ19826e ?_; (with_reducible refine (impl_RecoverLog.calls kj6 (t380 ++ t381) t402 t403 t404 t405 t406 _ ?side1 A53.out).mono ?_); (case side1 => first | (with_reducible exact HV.out) | exact TInv.below HV.out ZZ295621); rintro e w66 ⟨rfl, hb⟩; refine ⟨_, rfl, ?_⟩; replace HO396 := Aside0.mk (Kd.R_below (zR HO396) hb); replace HO400 := Aside0.mk (Kd.R_below (zR HO400) hb); replace BK378 := Aside0.mk (blk_below (zB BK378) hb); replace BK379 := Aside0.mk (blk_below (zB BK379) hb); replace BK384 := Aside0.mk (blk_below (zB BK384) hb); replace BK389 := Aside0.mk (blk_below (zB BK389) hb); replace HB := Aside0.mk (below_step ZZ295621 hb); (try clear hb); (try clear hb2); (try clear hk); (try clear hi)) | ((with_reducible refine gate_dst (N := 13) rfl ?_); (try (refine gate_guard (by rfl) ?_; dsimp only)); refine box_event ?hg (N := 13) ?hd (cs := #[.string (⟨#[]⟩ : ByteArray), .string (⟨#[]⟩ : ByteArray), .int .i64 0]) (t := 31) ?hr ?_; (case hd => rfl); (case hg => rfl); (case hr => first | (go_simp; done) | (go_simp; rfl)); intro gb407 hg w67 hbox hb; replace HO396 := Aside0.mk (Kd.R_below (zR HO396) hb); replace HO400 := Aside0.mk (Kd.R_below (zR HO400) hb); have BK407 := Aside0.mk (hbox); have GW407 := Aside0.mk ((by rw [hg]; exact (below_size ZZ295621) : w.heap.size ≤ gb407)); have GE407 := Aside0.mk ((by rw [hg]; exact (below_size ZZ295621) : w.heap.size ≤ gb407)); replace HB := Aside0.mk (below_step ZZ295621 hb); have NB378_407 := Aside0.mk ((by rw [hg]; exact Nat.ne_of_lt (blk_lt (zB BK378)) : gb378 ≠ gb407)); have NB407_378 := Aside0.mk ((by rw [hg]; exact Nat.ne_of_gt (blk_lt (zB BK378)) : gb407 ≠ gb378)); replace BK378 := Aside0.mk (blk_below (zB BK378) hb); have NB379_407 := Aside0.mk ((by rw [hg]; exact Nat.ne_of_lt (blk_lt (zB BK379)) : gb379 ≠ gb407)); have NB407_379 := Aside0.mk ((by rw [hg]; exact Nat.ne_of_gt (blk_lt (zB BK379)) : gb407 ≠ gb379)); replace BK379 := Aside0.mk (blk_below (zB BK379) hb); have NB384_407 := Aside0.mk ((by rw [hg]; exact Nat.ne_of_lt (blk_lt (zB BK384)) : gb384 ≠ gb407)); have NB407_384 := Aside0.mk ((by rw [hg]; exact Nat.ne_of_gt (blk_lt (zB BK384)) : gb407 ≠ gb384)); replace BK384 := Aside0.mk (blk_below (zB BK384) hb); have NB389_407 := Aside0.mk ((by rw [hg]; exact Nat.ne_of_lt (blk_lt (zB BK389)) : gb389 ≠ gb407)); have NB407_389 := Aside0.mk ((by rw [hg]; exact Nat.ne_of_gt (blk_lt (zB BK389)) : gb407 ≠ gb389)); replace BK389 := Aside0.mk (blk_below (zB BK389) hb); clear hb hbox hg; have hnb68 := NB407_378.out; have hnc68 := NB378_407.out; have hnb69 := NB407_379.out; have hnc69 := NB379_407.out; have hnb70 := NB407_384.out; have hnc70 := NB384_407.out; have hnb71 := NB407_389.out; have hnc71 := NB389_407.out; have hcz72_0 : w67.cell? ⟨gb407, 0, none⟩ = some (.string (⟨#[]⟩ : ByteArray)) := (blk_cell BK407.out 0).trans rfl; have hcz72_1 : w67.cell? ⟨gb407, 1, none⟩ = some (.string (⟨#[]⟩ : ByteArray)) := (blk_cell BK407.out 1).trans rfl; have hcz72_2 : w67.cell? ⟨gb407, 2, none⟩ = some (.int .i64 0) := (blk_cell BK407.out 2).trans rfl; have hfz72_0 := blk_frozen BK407.out 0; have hfz72_1 := blk_frozen BK407.out 1; have hfz72_2 := blk_frozen BK407.out 2; have hcz73_0 : w67.cell? ⟨gb384, 0, none⟩ = some (.string t380) := (blk_cell BK384.out 0).trans rfl; have hcz73_1 : w67.cell? ⟨gb384, 1, none⟩ = some (.string t381) := (blk_cell BK384.out 1).trans rfl; have hcz73_2 : w67.cell? ⟨gb384, 2, none⟩ = some (.int .i64 t382) := (blk_cell BK384.out 2).trans rfl; have hfz73_0 := blk_frozen BK384.out 0; have hfz73_1 := blk_frozen BK384.out 1; have hfz73_2 := blk_frozen BK384.out 2) | ((with_reducible refine gate_callee (f := 27) rfl ?_); refine goesL_ (some 87) rfl rfl Tryd.func27 (by kernel_rfl) rfl #[.agg #[.string t380, .string t381, .int .i64 t382]] rfl ZZ19826e ?_; (with_reducible refine (impl_SyncLog.calls kj6 t380 t381 t382 t408 t409 t410 t411 _ ?side1 A54.out).mono ?_); (case side1 => first | (with_reducible exact HV.out) | exact TInv.below HV.out ZZ295621); rintro e w74 ⟨rfl, hb⟩; refine ⟨_, rfl, ?_⟩; replace HO396 := Aside0.mk (Kd.R_below (by (with_reducible repeat (first | apply Kd.R_alloc | apply Kd.R_drewN | apply Kd.R_drew)); exact (Kd.R_mono (Kd.R_far (p := ⟨gb407, 2, none⟩) (Kd.R_far (p := ⟨gb407, 1, none⟩) (Kd.R_far (p := ⟨gb407, 0, none⟩) (Kd.R_types HO396.out BK407.out (by decide)) (fun _ hk => hk.2) (.string t402)) (fun _ hk => hk.2) (.string t403)) (fun _ hk => hk.2) (.int .i64 t404)) (fun _ h_ => h_.1))) hb); replace HO400 := Aside0.mk (Kd.R_below (by (with_reducible repeat (first | apply Kd.R_alloc | apply Kd.R_drewN | apply Kd.R_drew)); exact (Kd.R_mono (Kd.R_far (p := ⟨gb407, 2, none⟩) (Kd.R_far (p := ⟨gb407, 1, none⟩) (Kd.R_far (p := ⟨gb407, 0, none⟩) (Kd.R_types HO400.out BK407.out (by decide)) (fun _ hk => hk.2) (.string t402)) (fun _ hk => hk.2) (.string t403)) (fun _ hk => hk.2) (.int .i64 t404)) (fun _ h_ => h_.1))) hb); replace BK378 := Aside0.mk (blk_below (g := gb378) (o := .cells #[.string t373, .string t374, .int .i64 t375] 31 (0, 0)) (by (with_reducible repeat (first | refine blk_drewN ?_ _ | refine blk_drew ?_ | refine blk_alloc ?_ _)); refine blk_far ?_ NB378_407.out _; (with_reducible repeat (first | refine blk_drewN ?_ _ | refine blk_drew ?_ | refine blk_alloc ?_ _)); refine blk_far ?_ NB378_407.out _; (with_reducible repeat (first | refine blk_drewN ?_ _ | refine blk_drew ?_ | refine blk_alloc ?_ _)); refine blk_far ?_ NB378_407.out _; (with_reducible repeat (first | refine blk_drewN ?_ _ | refine blk_drew ?_ | refine blk_alloc ?_ _)); exact BK378.out) hb); replace BK379 := Aside0.mk (blk_below (g := gb379) (o := .cells #[.string t376, .string t377] 27 (0, 0)) (by (with_reducible repeat (first | refine blk_drewN ?_ _ | refine blk_drew ?_ | refine blk_alloc ?_ _)); refine blk_far ?_ NB379_407.out _; (with_reducible repeat (first | refine blk_drewN ?_ _ | refine blk_drew ?_ | refine blk_alloc ?_ _)); refine blk_far ?_ NB379_407.out _; (with_reducible repeat (first | refine blk_drewN ?_ _ | refine blk_drew ?_ | refine blk_alloc ?_ _)); refine blk_far ?_ NB379_407.out _; (with_reducible repeat (first | refine blk_drewN ?_ _ | refine blk_drew ?_ | refine blk_alloc ?_ _)); exact BK379.out) hb); replace BK384 := Aside0.mk (blk_below (g := gb384) (o := .cells #[.string t380, .string t381, .int .i64 t382] 31 (0, 0)) (by (with_reducible repeat (first | refine blk_drewN ?_ _ | refine blk_drew ?_ | refine blk_alloc ?_ _)); refine blk_far ?_ NB384_407.out _; (with_reducible repeat (first | refine blk_drewN ?_ _ | refine blk_drew ?_ | refine blk_alloc ?_ _)); refine blk_far ?_ NB384_407.out _; (with_reducible repeat (first | refine blk_drewN ?_ _ | refine blk_drew ?_ | refine blk_alloc ?_ _)); refine blk_far ?_ NB384_407.out _; (with_reducible repeat (first | refine blk_drewN ?_ _ | refine blk_drew ?_ | refine blk_alloc ?_ _)); exact BK384.out) hb); replace BK389 := Aside0.mk (blk_below (g := gb389) (o := .cells #[.string t385, .string t386, .int .i64 t387] 31 (0, 0)) (by (with_reducible repeat (first | refine blk_drewN ?_ _ | refine blk_drew ?_ | refine blk_alloc ?_ _)); refine blk_far ?_ NB389_407.out _; (with_reducible repeat (first | refine blk_drewN ?_ _ | refine blk_drew ?_ | refine blk_alloc ?_ _)); refine blk_far ?_ NB389_407.out _; (with_reducible repeat (first | refine blk_drewN ?_ _ | refine blk_drew ?_ | refine blk_alloc ?_ _)); refine blk_far ?_ NB389_407.out _; (with_reducible repeat (first | refine blk_drewN ?_ _ | refine blk_drew ?_ | refine blk_alloc ?_ _)); exact BK389.out) hb); replace BK407 := Aside0.mk (blk_below (g := gb407) (o := .cells #[.string t402, .string t403, .int .i64 t404] 31 (0, 0)) (by (with_reducible repeat (first | refine blk_drewN ?_ _ | refine blk_drew ?_ | refine blk_alloc ?_ _)); refine blk_put (cs := #[.string t402, .string t403, .int .i64 0]) ?_ 2 _ rfl; (with_reducible repeat (first | refine blk_drewN ?_ _ | refine blk_drew ?_ | refine blk_alloc ?_ _)); refine blk_put (cs := #[.string t402, .string (⟨#[]⟩ : ByteArray), .int .i64 0]) ?_ 1 _ rfl; (with_reducible repeat (first | refine blk_drewN ?_ _ | refine blk_drew ?_ | refine blk_alloc ?_ _)); refine blk_put (cs := #[.string (⟨#[]⟩ : ByteArray), .string (⟨#[]⟩ : ByteArray), .int .i64 0]) ?_ 0 _ rfl; (with_reducible repeat (first | refine blk_drewN ?_ _ | refine blk_drew ?_ | refine blk_alloc ?_ _)); exact BK407.out) hb); replace HB := Aside0.mk (below_step ZZ295621 hb); (try clear hb); (try clear hb2); (try clear hk); (try clear hi)) | ((with_reducible refine gate_dst (N := 16) rfl ?_); (try (refine gate_guard (by rfl) ?_; dsimp only)); refine box_event ?hg (N := 16) ?hd (cs := #[.string (⟨#[]⟩ : ByteArray), .string (⟨#[]⟩ : ByteArray), .int .i64 0]) (t := 31) ?hr ?_; (case hd => rfl); (case hg => rfl); (case hr => first | (go_simp; done) | (go_simp; rfl)); intro gb412 hg w75 hbox hb; replace HO396 := Aside0.mk (Kd.R_below (zR HO396) hb); replace HO400 := Aside0.mk (Kd.R_below (zR HO400) hb); have BK412 := Aside0.mk (hbox); have GW412 := Aside0.mk ((by rw [hg]; exact (below_size ZZ295621) : w.heap.size ≤ gb412)); have GE412 := Aside0.mk ((by rw [hg]; exact (below_size ZZ295621) : w.heap.size ≤ gb412)); replace HB := Aside0.mk (below_step ZZ295621 hb); have NB378_412 := Aside0.mk ((by rw [hg]; exact Nat.ne_of_lt (blk_lt (zB BK378)) : gb378 ≠ gb412)); have NB412_378 := Aside0.mk ((by rw [hg]; exact Nat.ne_of_gt (blk_lt (zB BK378)) : gb412 ≠ gb378)); replace BK378 := Aside0.mk (blk_below (zB BK378) hb); have NB379_412 := Aside0.mk ((by rw [hg]; exact Nat.ne_of_lt (blk_lt (zB BK379)) : gb379 ≠ gb412)); have NB412_379 := Aside0.mk ((by rw [hg]; exact Nat.ne_of_gt (blk_lt (zB BK379)) : gb412 ≠ gb379)); replace BK379 := Aside0.mk (blk_below (zB BK379) hb); have NB384_412 := Aside0.mk ((by rw [hg]; exact Nat.ne_of_lt (blk_lt (zB BK384)) : gb384 ≠ gb412)); have NB412_384 := Aside0.mk ((by rw [hg]; exact Nat.ne_of_gt (blk_lt (zB BK384)) : gb412 ≠ gb384)); replace BK384 := Aside0.mk (blk_below (zB BK384) hb); have NB389_412 := Aside0.mk ((by rw [hg]; exact Nat.ne_of_lt (blk_lt (zB BK389)) : gb389 ≠ gb412)); have NB412_389 := Aside0.mk ((by rw [hg]; exact Nat.ne_of_gt (blk_lt (zB BK389)) : gb412 ≠ gb389)); replace BK389 := Aside0.mk (blk_below (zB BK389) hb); have NB407_412 := Aside0.mk ((by rw [hg]; exact Nat.ne_of_lt (blk_lt (zB BK407)) : gb407 ≠ gb412)); have NB412_407 := Aside0.mk ((by rw [hg]; exact Nat.ne_of_gt (blk_lt (zB BK407)) : gb412 ≠ gb407)); replace BK407 := Aside0.mk (blk_below (zB BK407) hb); clear hb hbox hg; have hnb76 := NB412_378.out; have hnc76 := NB378_412.out; have hnb77 := NB412_379.out; have hnc77 := NB379_412.out; have hnb78 := NB412_384.out; have hnc78 := NB384_412.out; have hnb79 := NB412_389.out; have hnc79 := NB389_412.out; have hnb80 := NB412_407.out; have hnc80 := NB407_412.out; have hcz81_0 : w75.cell? ⟨gb412, 0, none⟩ = some (.string (⟨#[]⟩ : ByteArray)) := (blk_cell BK412.out 0).trans rfl; have hcz81_1 : w75.cell? ⟨gb412, 1, none⟩ = some (.string (⟨#[]⟩ : ByteArray)) := (blk_cell BK412.out 1).trans rfl; have hcz81_2 : w75.cell? ⟨gb412, 2, none⟩ = some (.int .i64 0) := (blk_cell BK412.out 2).trans rfl; have hfz81_0 := blk_frozen BK412.out 0; have hfz81_1 := blk_frozen BK412.out 1; have hfz81_2 := blk_frozen BK412.out 2))
    (try simp only [Act.put, List.setIfInBounds_toArray, List.set_cons_zero, List.set_cons_succ])
    go_cut [106] (fun v106 wc => ∃ (kq : Nat) (x106_54 : Bool), v106 = .bool x106_54 ∧ Aside0 (laws_FnLog.j1 kq t394 t398 t405 t406 t411 x106_54 t376 t377 t380 t381 t382 t402 t403 t404 t408 t409 t410 = some r) ∧ Aside0 (kq ≤ kj6) ∧ Aside0 (Kd.R k27 27 wc w.heap.size (fun k_ => some k_ ≠ (v399 : Value).ownBlock ∧ k_ ≠ gb379) v395 t394) ∧ Aside0 (Kd.R k27 27 wc w.heap.size (fun k_ => some k_ ≠ (v395 : Value).ownBlock ∧ k_ ≠ gb379) v399 t398) ∧ Aside0 (wc.heap[gb378]? = some (.cells #[.string t373, .string t374, .int .i64 t375] 31 (0, 0))) ∧ Aside0 (wc.heap[gb379]? = some (.cells #[.string t376, .string t377] 27 (0, 0))) ∧ Aside0 (wc.heap[gb384]? = some (.cells #[.string t380, .string t381, .int .i64 t382] 31 (0, 0))) ∧ Aside0 (wc.heap[gb389]? = some (.cells #[.string t385, .string t386, .int .i64 t387] 31 (0, 0))) ∧ Aside0 (wc.heap[gb407]? = some (.cells #[.string t402, .string t403, .int .i64 t404] 31 (0, 0))) ∧ Aside0 (wc.heap[gb412]? = some (.cells #[.string t408, .string t409, .int .i64 t410] 31 (0, 0))) ∧ Aside0 (Below w.heap.size w wc))
    case first =>
     have H := HC55.out
     clear HC55
     by_cases c82 : t397 = true
     ·subst c82
      have H1 : (if (t394.length : Int) = (wrap64 ((t398.length : Int) + 1)) then (laws_FnLog.j1 kj6 t394 t398 t405 t406 t411 (t382 != (t394.length : Int)) t376 t377 t380 t381 t382 t402 t403 t404 t408 t409 t410) else (laws_FnLog.j1 kj6 t394 t398 t405 t406 t411 true t376 t377 t380 t381 t382 t402 t403 t404 t408 t409 t410)) = some r := by rw [if_pos rfl] at H; exact H
      clear H
      have H := H1
      clear H1
      by_cases c83 : (t394.length : Int) = (wrap64 ((t398.length : Int) + 1))
      ·rw [if_pos c83] at H
       have c83b0 := beq_iff_eq.mpr c83
       have c83b1 := bne_eq_false_iff_eq.mpr c83
       clear c83
       (first | rw [c83b0] | (simp only [i64_w, i32_w]; rw [c83b0]) | skip)
       have H' := Aside0.mk H
       clear H
       obtain ⟨Ao84, co84, eo84⟩ := Kd.R_slice HO396.out
       subst eo84
       obtain ⟨Ao85, co85, eo85⟩ := Kd.R_slice HO400.out
       subst eo85
       have hnb86 := NB384_378.out
       have hnc86 := NB378_384.out
       have hnb87 := NB384_379.out
       have hnc87 := NB379_384.out
       have hnb88 := NB384_389.out
       have hnc88 := NB389_384.out
       have hnb89 := NB384_407.out
       have hnc89 := NB407_384.out
       have hnb90 := NB384_412.out
       have hnc90 := NB412_384.out
       have hcz91_0 : w75.cell? ⟨gb384, 0, none⟩ = some (.string t380) := (blk_cell BK384.out 0).trans rfl
       have hcz91_1 : w75.cell? ⟨gb384, 1, none⟩ = some (.string t381) := (blk_cell BK384.out 1).trans rfl
       have hcz91_2 : w75.cell? ⟨gb384, 2, none⟩ = some (.int .i64 t382) := (blk_cell BK384.out 2).trans rfl
       have hfz91_0 := blk_frozen BK384.out 0
       have hfz91_1 := blk_frozen BK384.out 1
       have hfz91_2 := blk_frozen BK384.out 2
       go_wp2
       go_meet
       case rel => exact ⟨_, ((t382 != (t394.length : Int))), ZZ0ab324, H', ⟨(by have := HJ6.out; first | omega | exact Nat.le_refl _)⟩, ⟨ZZab8248⟩, ⟨ZZ0c32ac⟩, ⟨ZZf596b9⟩, ⟨ZZ01ba2e⟩, ⟨ZZ02f90e⟩, ⟨ZZef4592⟩, ⟨ZZ9b1904⟩, ⟨ZZ171f1e⟩, ⟨ZZ295621⟩⟩
      rw [if_neg c83] at H
      have c83b0 := beq_eq_false_iff_ne.mpr c83
      have c83b1 := bne_iff_ne.mpr c83
      (first | rw [c83b0] | (simp only [i64_w, i32_w]; rw [c83b0]) | skip)
      have H' := Aside0.mk H
      clear H
      obtain ⟨Ao92, co92, eo92⟩ := Kd.R_slice HO396.out
      subst eo92
      obtain ⟨Ao93, co93, eo93⟩ := Kd.R_slice HO400.out
      subst eo93
      go_wp2
      go_meet
      case rel => exact ⟨_, (true), ZZ0ab324, H', ⟨(by have := HJ6.out; first | omega | exact Nat.le_refl _)⟩, ⟨ZZab8248⟩, ⟨ZZ0c32ac⟩, ⟨ZZf596b9⟩, ⟨ZZ01ba2e⟩, ⟨ZZ02f90e⟩, ⟨ZZef4592⟩, ⟨ZZ9b1904⟩, ⟨ZZ171f1e⟩, ⟨ZZ295621⟩⟩
     replace c82 := Bool.eq_false_iff.mpr c82
     subst c82
     have H1 : (laws_FnLog.j1 kj6 t394 t398 t405 t406 t411 true t376 t377 t380 t381 t382 t402 t403 t404 t408 t409 t410) = some r := by rw [if_neg (show ¬ (false = true) by decide)] at H; exact H
     clear H
     have H := H1
     clear H1
     have H' := Aside0.mk H
     clear H
     go_wp2
     go_meet
     case rel => exact ⟨_, (true), ZZ0ab324, H', ⟨(by have := HJ6.out; first | omega | exact Nat.le_refl _)⟩, ⟨ZZab8248⟩, ⟨ZZ0c32ac⟩, ⟨ZZf596b9⟩, ⟨ZZ01ba2e⟩, ⟨ZZ02f90e⟩, ⟨ZZef4592⟩, ⟨ZZ9b1904⟩, ⟨ZZ171f1e⟩, ⟨ZZ295621⟩⟩
    case rest =>
     clear HC55
     try clear c48
     try clear c49b0
     try clear c49b1
     try clear c52
     try clear c52b0
     try clear c52b1
     try clear c52b2
     try clear c82
     try clear c83
     try clear c83b0
     try clear c83b1
     try clear hcz59_0
     try clear hcz59_1
     try clear hcz59_2
     try clear hcz63_0
     try clear hcz63_1
     try clear hcz63_2
     try clear hcz65_0
     try clear hcz65_1
     try clear hcz65_2
     try clear hcz72_0
     try clear hcz72_1
     try clear hcz72_2
     try clear hcz73_0
     try clear hcz73_1
     try clear hcz73_2
     try clear hcz81_0
     try clear hcz81_1
     try clear hcz81_2
     try clear hcz91_0
     try clear hcz91_1
     try clear hcz91_2
     try clear hfz59_0
     try clear hfz59_1
     try clear hfz59_2
     try clear hfz63_0
     try clear hfz63_1
     try clear hfz63_2
     try clear hfz65_0
     try clear hfz65_1
     try clear hfz65_2
     try clear hfz72_0
     try clear hfz72_1
     try clear hfz72_2
     try clear hfz73_0
     try clear hfz73_1
     try clear hfz73_2
     try clear hfz81_0
     try clear hfz81_1
     try clear hfz81_2
     try clear hfz91_0
     try clear hfz91_1
     try clear hfz91_2
     obtain ⟨kq, x106_54, rfl, HA, HJ54, HO_9, HO_11, BK378, BK379, BK384, BK389, BK407, BK412, HB⟩ := hcut
     cases kq with
     | zero => exact absurd HA.out (by simp [laws_FnLog.j1])
     | succ kj54 =>
      have H := HA.out
      clear HA
      simp only [laws_FnLog.j1] at H
      by_cases c94 : x106_54 = true
      ·subst c94
       have H1 : (some false) = some r := by rw [if_pos rfl] at H; exact H
       clear H
       have H := H1
       clear H1
       obtain rfl := Option.some.inj H
       go_wp2
       go_ret
       exact ⟨ZZab01d2, ZZ295621⟩
      replace c94 := Bool.eq_false_iff.mpr c94
      subst c94
      have H1 : (laws_FnLog.l0 kj54 t394 t398 t405 t406 t411 0 t376 t377 t380 t381 t382 t402 t403 t404 t408 t409 t410) = some r := by rw [if_neg (show ¬ (false = true) by decide)] at H; exact H
      clear H
      have H := H1
      clear H1
      have H' := Aside0.mk H
      clear H
      go_wp2
      go_loopg [18] kj54 (fun kq v18 w' => ∃ (x18_3 : Int), v18 = .int .i64 x18_3 ∧ Aside0 (laws_FnLog.l0 kq t394 t398 t405 t406 t411 x18_3 t376 t377 t380 t381 t382 t402 t403 t404 t408 t409 t410 = some r) ∧ Aside0 (kq ≤ kj54) ∧ Aside0 (Kd.R k27 27 w' w.heap.size (fun k_ => some k_ ≠ (v399 : Value).ownBlock ∧ k_ ≠ gb379) v395 t394) ∧ Aside0 (Kd.R k27 27 w' w.heap.size (fun k_ => some k_ ≠ (v395 : Value).ownBlock ∧ k_ ≠ gb379) v399 t398) ∧ Aside0 (w'.heap[gb378]? = some (.cells #[.string t373, .string t374, .int .i64 t375] 31 (0, 0))) ∧ Aside0 (w'.heap[gb379]? = some (.cells #[.string t376, .string t377] 27 (0, 0))) ∧ Aside0 (w'.heap[gb384]? = some (.cells #[.string t380, .string t381, .int .i64 t382] 31 (0, 0))) ∧ Aside0 (w'.heap[gb389]? = some (.cells #[.string t385, .string t386, .int .i64 t387] 31 (0, 0))) ∧ Aside0 (w'.heap[gb407]? = some (.cells #[.string t402, .string t403, .int .i64 t404] 31 (0, 0))) ∧ Aside0 (w'.heap[gb412]? = some (.cells #[.string t408, .string t409, .int .i64 t410] 31 (0, 0))) ∧ Aside0 (Below w.heap.size w w'))
      case atStart => exact ⟨(0), ZZ0ab324, H', ⟨Nat.le_refl _⟩, ⟨(zR HO_9)⟩, ⟨(zR HO_11)⟩, ⟨(zB BK378)⟩, ⟨(zB BK379)⟩, ⟨(zB BK384)⟩, ⟨(zB BK389)⟩, ⟨(zB BK407)⟩, ⟨(zB BK412)⟩, ⟨ZZ295621⟩⟩
      case round =>
       clear H'
       try clear c94
       obtain ⟨x18_3, rfl, HA, HK3, HO_9, HO_11, BK378, BK379, BK384, BK389, BK407, BK412, HB⟩ := hrel
       cases gk with
       | zero => exact absurd HA.out (by simp [laws_FnLog.l0])
       | succ k3 =>
        have H := HA.out
        clear HA
        simp only [laws_FnLog.l0] at H
        by_cases c95 : x18_3 < (t398.length : Int)
        ·rw [if_pos c95] at H
         have c95b0 := decide_eq_true c95
         clear c95
         obtain ⟨c96, H⟩ := ifY H
         have c96b0 := decide_eq_true c96
         clear c96
         obtain ⟨c97, H⟩ := ifY H
         have c97b0 := decide_eq_true c97
         clear c97
         by_cases c98 : (!((((rd_T27 t394 x18_3).f0).toList) == (((rd_T27 t398 x18_3).f0).toList)) || (!((((rd_T27 t394 x18_3).f1).toList) == (((rd_T27 t398 x18_3).f1).toList)))) = true
         ·rw [if_pos c98] at H
          have c98b0 : (!((((rd_T27 t394 x18_3).f0).toList) == (((rd_T27 t398 x18_3).f0).toList)) || (!((((rd_T27 t394 x18_3).f1).toList) == (((rd_T27 t398 x18_3).f1).toList)))) = true := c98
          clear c98
          obtain rfl := Option.some.inj H
          obtain ⟨Ao99, co99, eo99⟩ := Kd.R_slice HO_11.out
          subst eo99
          try go_wp2
          replace HO_9 := Aside0.mk (Kd.R_drew HO_9.out)
          replace HO_11 := Aside0.mk (Kd.R_drew HO_11.out)
          replace BK378 := Aside0.mk (blk_drew BK378.out)
          replace BK379 := Aside0.mk (blk_drew BK379.out)
          replace BK384 := Aside0.mk (blk_drew BK384.out)
          replace BK389 := Aside0.mk (blk_drew BK389.out)
          replace BK407 := Aside0.mk (blk_drew BK407.out)
          replace BK412 := Aside0.mk (blk_drew BK412.out)
          replace HB := Aside0.mk (below_drew1 HB.out)
          obtain ⟨Ao101, co101, eo101⟩ := Kd.R_slice HO_9.out
          (first | subst eo101 | (injection eo101 with f1_ f2_ f3_; have f4_ := f1_.symm; have f5_ := f3_.symm; clear f1_ f2_ f3_; subst f4_; subst f5_))
          have p413 : 0 ≤ (x18_3 : Int) := of_decide_eq_true ZZ853400
          have q413 : x18_3 < (t394.length : Int) := of_decide_eq_true ZZ853400
          obtain ⟨ad413, e413, hx413_0, hx413_1⟩ := at_T27 (Kd.R_reads' HO_9.out).2.2 x18_3 p413 q413
          cases e413
          replace p413 := eq_true p413
          replace q413 := eq_true q413
          have p414 : 0 ≤ (x18_3 : Int) := of_decide_eq_true ZZ853400
          have q414 : x18_3 < (t398.length : Int) := of_decide_eq_true ZZ853400
          obtain ⟨ad414, e414, hx414_0, hx414_1⟩ := at_T27 (Kd.R_reads' HO_11.out).2.2 x18_3 p414 q414
          cases e414
          replace p414 := eq_true p414
          replace q414 := eq_true q414
          refine start_ (n := 9) (S := fun w' => w'.cell? (ad413.add ((x18_3).toNat * 2)) = some (.string ((rd_T27 t394 x18_3).f0)) ∧ w'.cell? ⟨(ad413.add ((x18_3).toNat * 2)).block, (ad413.add ((x18_3).toNat * 2)).off + 1, none⟩ = some (.string ((rd_T27 t394 x18_3).f1)) ∧ w'.cell? (ad414.add ((x18_3).toNat * 2)) = some (.string ((rd_T27 t398 x18_3).f0)) ∧ w'.cell? ⟨(ad414.add ((x18_3).toNat * 2)).block, (ad414.add ((x18_3).toNat * 2)).off + 1, none⟩ = some (.string ((rd_T27 t398 x18_3).f1))) (ds := []) #[false, false, false, false, false, false, false, false, false] (by kernel_rfl) rfl rfl ⟨hx413_0, hx413_1, hx414_0, hx414_1⟩ (fun hHeld => ?_); refine with_tabW laws_FnLog.tab19 laws_FnLog.bits19 (fun HT_ HW_ => ?_)
          generalize wr.drew = w100 at HO_9 HO_11 BK378 BK379 BK384 BK389 BK407 BK412 HB hx413_0 hx413_1 hx414_0 hx414_1 hHeld ⊢
          refine pu 0 113 ?_
          refine pu 1 114 ?_
          refine pu 2 115 ?_
          refine pu 4 117 ?_
          refine pu 5 118 ?_
          refine pu 6 119 ?_
          refine tk 3 116 ?_
          refine tk 7 120 ?_
          refine pu 8 121 ?_
          refine done_ (done_of HT_.out (by kernel_rfl)) ?_
          try go_wp2
          go_ret
          exact ⟨ZZab01d2, ZZ295621⟩
         rw [if_neg c98] at H
         have c98b0 : (!((((rd_T27 t394 x18_3).f0).toList) == (((rd_T27 t398 x18_3).f0).toList)) || (!((((rd_T27 t394 x18_3).f1).toList) == (((rd_T27 t398 x18_3).f1).toList)))) = false := by simpa using c98
         clear c98
         have H' := Aside0.mk H
         clear H
         obtain ⟨Ao102, co102, eo102⟩ := Kd.R_slice HO_11.out
         subst eo102
         try go_wp2
         replace HO_9 := Aside0.mk (Kd.R_drew HO_9.out)
         replace HO_11 := Aside0.mk (Kd.R_drew HO_11.out)
         replace BK378 := Aside0.mk (blk_drew BK378.out)
         replace BK379 := Aside0.mk (blk_drew BK379.out)
         replace BK384 := Aside0.mk (blk_drew BK384.out)
         replace BK389 := Aside0.mk (blk_drew BK389.out)
         replace BK407 := Aside0.mk (blk_drew BK407.out)
         replace BK412 := Aside0.mk (blk_drew BK412.out)
         replace HB := Aside0.mk (below_drew1 HB.out)
         obtain ⟨Ao104, co104, eo104⟩ := Kd.R_slice HO_9.out
         (first | subst eo104 | (injection eo104 with f1_ f2_ f3_; have f4_ := f1_.symm; have f5_ := f3_.symm; clear f1_ f2_ f3_; subst f4_; subst f5_))
         have p413 : 0 ≤ (x18_3 : Int) := of_decide_eq_true ZZ853400
         have q413 : x18_3 < (t394.length : Int) := of_decide_eq_true ZZ853400
         obtain ⟨ad413, e413, hx413_0, hx413_1⟩ := at_T27 (Kd.R_reads' HO_9.out).2.2 x18_3 p413 q413
         cases e413
         replace p413 := eq_true p413
         replace q413 := eq_true q413
         have p414 : 0 ≤ (x18_3 : Int) := of_decide_eq_true ZZ853400
         have q414 : x18_3 < (t398.length : Int) := of_decide_eq_true ZZ853400
         obtain ⟨ad414, e414, hx414_0, hx414_1⟩ := at_T27 (Kd.R_reads' HO_11.out).2.2 x18_3 p414 q414
         cases e414
         replace p414 := eq_true p414
         replace q414 := eq_true q414
         refine start_ (n := 9) (S := fun w' => w'.cell? (ad413.add ((x18_3).toNat * 2)) = some (.string ((rd_T27 t394 x18_3).f0)) ∧ w'.cell? ⟨(ad413.add ((x18_3).toNat * 2)).block, (ad413.add ((x18_3).toNat * 2)).off + 1, none⟩ = some (.string ((rd_T27 t394 x18_3).f1)) ∧ w'.cell? (ad414.add ((x18_3).toNat * 2)) = some (.string ((rd_T27 t398 x18_3).f0)) ∧ w'.cell? ⟨(ad414.add ((x18_3).toNat * 2)).block, (ad414.add ((x18_3).toNat * 2)).off + 1, none⟩ = some (.string ((rd_T27 t398 x18_3).f1))) (ds := []) #[false, false, false, false, false, false, false, false, false] (by kernel_rfl) rfl rfl ⟨hx413_0, hx413_1, hx414_0, hx414_1⟩ (fun hHeld => ?_); refine with_tabW laws_FnLog.tab19 laws_FnLog.bits19 (fun HT_ HW_ => ?_)
         generalize wr.drew = w103 at HO_9 HO_11 BK378 BK379 BK384 BK389 BK407 BK412 HB hx413_0 hx413_1 hx414_0 hx414_1 hHeld ⊢
         refine pu 0 113 ?_
         refine pu 1 114 ?_
         refine pu 2 115 ?_
         refine pu 4 117 ?_
         refine pu 5 118 ?_
         refine pu 6 119 ?_
         refine tk 3 116 ?_
         refine tk 7 120 ?_
         refine pu 8 121 ?_
         refine done_ (done_of HT_.out (by kernel_rfl)) ?_
         try go_wp2
         go_roundg k3
         case measure => have := HJ6.out; have := HJ54.out; have := HK3.out; omega
         case rel => exact ⟨(wrap64 (x18_3 + 1)), ZZ0ab324, H', ⟨(by have := HJ6.out; have := HJ54.out; have := HK3.out; omega)⟩, ⟨(zR HO_9)⟩, ⟨(zR HO_11)⟩, ⟨(zB BK378)⟩, ⟨(zB BK379)⟩, ⟨(zB BK384)⟩, ⟨(zB BK389)⟩, ⟨(zB BK407)⟩, ⟨(zB BK412)⟩, ⟨ZZ295621⟩⟩
        rw [if_neg c95] at H
        have c95b0 := decide_eq_false c95
        clear c95
        obtain ⟨c105, H⟩ := ifY H
        have c105b0 := decide_eq_true c105
        have c105b1 : decide (0 ≤ t398.length) = true := decide_eq_true (by omega)
        clear c105
        obtain ⟨c106, H⟩ := ifY H
        have c106b0 := decide_eq_true c106
        have c106b1 : decide (t398.length < t394.length) = true := decide_eq_true (Int.ofNat_lt.mp c106)
        clear c106
        by_cases c107 : ((((rd_T27 t394 (t398.length : Int)).f0).toList) == t376.toList && ((((rd_T27 t394 (t398.length : Int)).f1).toList) == t377.toList)) = true
        ·rw [if_pos c107] at H
         have c107b0 : ((((rd_T27 t394 (t398.length : Int)).f0).toList) == t376.toList && ((((rd_T27 t394 (t398.length : Int)).f1).toList) == t377.toList)) = true := c107
         (try (have c107b1 : decide ((((rd_T27 t394 (t398.length : Int)).f0).toList) = t376.toList && ((((rd_T27 t394 (t398.length : Int)).f1).toList) == t377.toList)) = true := by simpa using c107))
         (try (have c107b2 : ((((rd_T27 t394 (t398.length : Int)).f0).toList) == t376.toList && ((((rd_T27 t394 (t398.length : Int)).f1).toList) == t377.toList)) = true := by simpa using c107))
         clear c107
         by_cases c108 : t406 = true
         ·subst c108
          have H1 : (if t380.size + t381.size ≤ 9223372036854775807 then (if t405 = ((t380.size : Int) + (t381.size : Int)) then (if t411 = true then (if (t408.toList == t402.toList && (t409.toList == t403.toList && (t410 == t404))) = true then ((impl_IsValidLog.f k3 t380 t381 t382).bind fun t416 => (some t416)) else (some false)) else (some false)) else (some false)) else (none)) = some r := by rw [if_pos rfl] at H; exact H
          clear H
          have H := H1
          clear H1
          obtain ⟨c109, H⟩ := ifY H
          have c109b0 := eq_true c109
          have c109b1 := decide_eq_true c109
          try have c109b2 : (9223372036854775807 < t380.size + t381.size) = False := eq_false (Nat.not_lt.2 c109)
          by_cases c110 : t405 = ((t380.size : Int) + (t381.size : Int))
          ·rw [if_pos c110] at H
           have c110b0 := beq_iff_eq.mpr c110
           have c110b1 := bne_eq_false_iff_eq.mpr c110
           clear c110
           by_cases c111 : t411 = true
           ·subst c111
            have H1 : (if (t408.toList == t402.toList && (t409.toList == t403.toList && (t410 == t404))) = true then ((impl_IsValidLog.f k3 t380 t381 t382).bind fun t416 => (some t416)) else (some false)) = some r := by rw [if_pos rfl] at H; exact H
            clear H
            have H := H1
            clear H1
            by_cases c112 : (t408.toList == t402.toList && (t409.toList == t403.toList && (t410 == t404))) = true
            ·rw [if_pos c112] at H
             have c112b0 : (t408.toList == t402.toList && (t409.toList == t403.toList && (t410 == t404))) = true := c112
             (try (have c112b1 : decide (t408.toList = t402.toList && (t409.toList == t403.toList && (t410 == t404))) = true := by simpa using c112))
             (try (have c112b2 : (t408.toList == t402.toList && (t409.toList == t403.toList && (t410 == t404))) = true := by simpa using c112))
             clear c112
             obtain ⟨t416, A113, H⟩ := bdY H
             obtain rfl := Option.some.inj H
             obtain ⟨Ao114, co114, eo114⟩ := Kd.R_slice HO_11.out
             subst eo114
             try go_wp2
             replace HO_9 := Aside0.mk (Kd.R_drew HO_9.out)
             replace HO_11 := Aside0.mk (Kd.R_drew HO_11.out)
             replace BK378 := Aside0.mk (blk_drew BK378.out)
             replace BK379 := Aside0.mk (blk_drew BK379.out)
             replace BK384 := Aside0.mk (blk_drew BK384.out)
             replace BK389 := Aside0.mk (blk_drew BK389.out)
             replace BK407 := Aside0.mk (blk_drew BK407.out)
             replace BK412 := Aside0.mk (blk_drew BK412.out)
             replace HB := Aside0.mk (below_drew1 HB.out)
             obtain ⟨Ao116, co116, eo116⟩ := Kd.R_slice HO_9.out
             (first | subst eo116 | (injection eo116 with f1_ f2_ f3_; have f4_ := f1_.symm; have f5_ := f3_.symm; clear f1_ f2_ f3_; subst f4_; subst f5_))
             have p415 : 0 ≤ ((t398.length : Int) : Int) := of_decide_eq_true ZZ853400
             have q415 : (t398.length : Int) < (t394.length : Int) := of_decide_eq_true ZZ853400
             obtain ⟨ad415, e415, hx415_0, hx415_1⟩ := at_T27 (Kd.R_reads' HO_9.out).2.2 (t398.length : Int) p415 q415
             cases e415
             (try simp only [Go.IntWalk.toNatUp] at hx415_0)
             (try simp only [Go.IntWalk.toNatUp] at hx415_1)
             replace p415 := eq_true p415
             replace q415 := eq_true q415
             try simp only [Int.toNat_natCast] at hx415_0 hx415_1
             refine start_ (n := 33) (S := fun w' => w'.cell? ⟨gb379, 0, none⟩ = some (.string t376) ∧ w'.cell? ⟨gb379, 1, none⟩ = some (.string t377) ∧ w'.cell? ⟨gb384, 0, none⟩ = some (.string t380) ∧ w'.cell? ⟨gb384, 1, none⟩ = some (.string t381) ∧ w'.cell? ⟨gb384, 2, none⟩ = some (.int .i64 t382) ∧ w'.cell? ⟨gb412, 0, none⟩ = some (.string t408) ∧ w'.cell? ⟨gb412, 1, none⟩ = some (.string t409) ∧ w'.cell? ⟨gb412, 2, none⟩ = some (.int .i64 t410) ∧ w'.cell? ⟨gb407, 0, none⟩ = some (.string t402) ∧ w'.cell? ⟨gb407, 1, none⟩ = some (.string t403) ∧ w'.cell? ⟨gb407, 2, none⟩ = some (.int .i64 t404) ∧ w'.cell? (ad415.add (t398.length * 2)) = some (.string ((rd_T27 t394 (t398.length : Int)).f0)) ∧ w'.cell? ⟨(ad415.add (t398.length * 2)).block, (ad415.add (t398.length * 2)).off + 1, none⟩ = some (.string ((rd_T27 t394 (t398.length : Int)).f1))) (ds := []) #[false, false, false, false, false, false, false, false, false, false, false, false, false, false, false, false, false, false, false, false, false, false, false, false, false, false, false, false, false, false, false, false, false] (by kernel_rfl) rfl rfl ⟨(blk_cell BK379.out 0).trans rfl, (blk_cell BK379.out 1).trans rfl, (blk_cell BK384.out 0).trans rfl, (blk_cell BK384.out 1).trans rfl, (blk_cell BK384.out 2).trans rfl, (blk_cell BK412.out 0).trans rfl, (blk_cell BK412.out 1).trans rfl, (blk_cell BK412.out 2).trans rfl, (blk_cell BK407.out 0).trans rfl, (blk_cell BK407.out 1).trans rfl, (blk_cell BK407.out 2).trans rfl, hx415_0, hx415_1⟩ (fun hHeld => ?_); refine with_tabW laws_FnLog.tab21 laws_FnLog.bits21 (fun HT_ HW_ => ?_)
             generalize wr.drew = w115 at HO_9 HO_11 BK378 BK379 BK384 BK389 BK407 BK412 HB hx415_0 hx415_1 hHeld ⊢
             refine pu 0 122 ?_
             refine pu 1 123 ?_
             refine pu 2 124 ?_
             refine pu 3 125 ?_
             refine tk 4 126 ?_
             refine tk 5 127 ?_
             refine pu 6 128 ?_
             refine pu 7 129 ?_
             refine pu 8 130 ?_
             refine pu 9 131 ?_
             refine pu 10 132 ?_
             refine pu 11 133 ?_
             refine pu 12 134 ?_
             refine pu 14 136 ?_
             refine tk 13 135 ?_
             refine tk 15 137 ?_
             refine pu 16 138 ?_
             refine pu 17 139 ?_
             refine pu 18 140 ?_
             refine pu 19 141 ?_
             refine pu 20 142 ?_
             refine pu 21 143 ?_
             refine pu 22 144 ?_
             refine pu 23 145 ?_
             refine tk 24 146 ?_
             refine tk 25 147 ?_
             refine pu 26 148 ?_
             refine pu 27 149 ?_
             refine pu 28 150 ?_
             refine tk 29 151 ?_
             refine one_ (i := 30) (N := some 152) #[true, true, true, true, true, true, true, true, true, true, true, true, true, true, true, true, true, true, true, true, true, true, true, true, true, true, true, true, true, true, true, false, false] rfl rfl (one_of HT_.out (by kernel_rfl)) (by decide) (fun K hK => ?_)
             refine goes_ Tryd.func23 (by kernel_rfl) rfl #[.agg #[.string t380, .string t381, .int .i64 t382]] (by rfl) rfl rfl ZZ19826e ?_
             with_reducible refine (impl_IsValidLog.calls k3 t380 t381 t382 t416 _ ?side1 A113.out).mono ?_
             (case side1 => first | (with_reducible exact HV.out) | exact TInv.below HV.out ZZ295621)
             rintro e w117 ⟨rfl, hb⟩
             have HS11_ := (hb.cell (World.block_lt_of_cell? _ _ (hHeld.2.2.2.2.2.2.2.2.2.2.2.1))).trans (hHeld.2.2.2.2.2.2.2.2.2.2.2.1)
             have HS12_ := (hb.cell (World.block_lt_of_cell? _ _ (hHeld.2.2.2.2.2.2.2.2.2.2.2.2))).trans (hHeld.2.2.2.2.2.2.2.2.2.2.2.2)
             refine ⟨_, rfl, ?_⟩
             replace HO_9 := Aside0.mk (Kd.R_below (zR HO_9) hb)
             replace HO_11 := Aside0.mk (Kd.R_below (zR HO_11) hb)
             replace BK378 := Aside0.mk (blk_below (zB BK378) hb)
             replace BK379 := Aside0.mk (blk_below (zB BK379) hb)
             replace BK384 := Aside0.mk (blk_below (zB BK384) hb)
             replace BK389 := Aside0.mk (blk_below (zB BK389) hb)
             replace BK407 := Aside0.mk (blk_below (zB BK407) hb)
             replace BK412 := Aside0.mk (blk_below (zB BK412) hb)
             replace HB := Aside0.mk (below_step ZZ295621 hb)
             (try clear hb)
             (try clear hb2)
             (try clear hk)
             (try clear hi)
             refine hK.out _ _ ⟨(blk_cell BK379.out 0).trans rfl, (blk_cell BK379.out 1).trans rfl, (blk_cell BK384.out 0).trans rfl, (blk_cell BK384.out 1).trans rfl, (blk_cell BK384.out 2).trans rfl, (blk_cell BK412.out 0).trans rfl, (blk_cell BK412.out 1).trans rfl, (blk_cell BK412.out 2).trans rfl, (blk_cell BK407.out 0).trans rfl, (blk_cell BK407.out 1).trans rfl, (blk_cell BK407.out 2).trans rfl, HS11_, HS12_⟩ (fun hHeld => ?_)
             clear hK K
             refine norm_ (a' := ?_) ?_ ?_
             rotate_left
             ·show Act.put _ (some 152) _ = _
              simp only [Act.put, List.setIfInBounds_toArray, List.set_cons_zero, List.set_cons_succ, i64_w, i32_w]
              rfl
             refine pu 31 153 ?_
             refine pu 32 2 ?_
             refine done_ (done_of HT_.out (by kernel_rfl)) ?_
             try go_wp2
             go_ret
             exact ⟨ZZab01d2, ZZ295621⟩
            rw [if_neg c112] at H
            have c112b0 : (t408.toList == t402.toList && (t409.toList == t403.toList && (t410 == t404))) = false := by simpa using c112
            (try (have c112b1 : decide (t408.toList = t402.toList && (t409.toList == t403.toList && (t410 == t404))) = false := by simpa using c112))
            (try (have c112b2 : (t408.toList == t402.toList && (t409.toList == t403.toList && (t410 == t404))) = false := by simpa using c112))
            (try (have c112b3 : ¬ (t408.toList = t402.toList && (t409.toList == t403.toList && (t410 == t404))) := by simpa using c112))
            clear c112
            obtain rfl := Option.some.inj H
            obtain ⟨Ao118, co118, eo118⟩ := Kd.R_slice HO_11.out
            subst eo118
            try go_wp2
            replace HO_9 := Aside0.mk (Kd.R_drew HO_9.out)
            replace HO_11 := Aside0.mk (Kd.R_drew HO_11.out)
            replace BK378 := Aside0.mk (blk_drew BK378.out)
            replace BK379 := Aside0.mk (blk_drew BK379.out)
            replace BK384 := Aside0.mk (blk_drew BK384.out)
            replace BK389 := Aside0.mk (blk_drew BK389.out)
            replace BK407 := Aside0.mk (blk_drew BK407.out)
            replace BK412 := Aside0.mk (blk_drew BK412.out)
            replace HB := Aside0.mk (below_drew1 HB.out)
            obtain ⟨Ao120, co120, eo120⟩ := Kd.R_slice HO_9.out
            (first | subst eo120 | (injection eo120 with f1_ f2_ f3_; have f4_ := f1_.symm; have f5_ := f3_.symm; clear f1_ f2_ f3_; subst f4_; subst f5_))
            have p415 : 0 ≤ ((t398.length : Int) : Int) := of_decide_eq_true ZZ853400
            have q415 : (t398.length : Int) < (t394.length : Int) := of_decide_eq_true ZZ853400
            obtain ⟨ad415, e415, hx415_0, hx415_1⟩ := at_T27 (Kd.R_reads' HO_9.out).2.2 (t398.length : Int) p415 q415
            cases e415
            (try simp only [Go.IntWalk.toNatUp] at hx415_0)
            (try simp only [Go.IntWalk.toNatUp] at hx415_1)
            replace p415 := eq_true p415
            replace q415 := eq_true q415
            try simp only [Int.toNat_natCast] at hx415_0 hx415_1
            refine start_ (n := 33) (S := fun w' => w'.cell? ⟨gb379, 0, none⟩ = some (.string t376) ∧ w'.cell? ⟨gb379, 1, none⟩ = some (.string t377) ∧ w'.cell? ⟨gb384, 0, none⟩ = some (.string t380) ∧ w'.cell? ⟨gb384, 1, none⟩ = some (.string t381) ∧ w'.cell? ⟨gb384, 2, none⟩ = some (.int .i64 t382) ∧ w'.cell? ⟨gb412, 0, none⟩ = some (.string t408) ∧ w'.cell? ⟨gb412, 1, none⟩ = some (.string t409) ∧ w'.cell? ⟨gb412, 2, none⟩ = some (.int .i64 t410) ∧ w'.cell? ⟨gb407, 0, none⟩ = some (.string t402) ∧ w'.cell? ⟨gb407, 1, none⟩ = some (.string t403) ∧ w'.cell? ⟨gb407, 2, none⟩ = some (.int .i64 t404) ∧ w'.cell? (ad415.add (t398.length * 2)) = some (.string ((rd_T27 t394 (t398.length : Int)).f0)) ∧ w'.cell? ⟨(ad415.add (t398.length * 2)).block, (ad415.add (t398.length * 2)).off + 1, none⟩ = some (.string ((rd_T27 t394 (t398.length : Int)).f1))) (ds := []) #[false, false, false, false, false, false, false, false, false, false, false, false, false, false, false, false, false, false, false, false, false, false, false, false, false, false, false, false, false, false, false, false, false] (by kernel_rfl) rfl rfl ⟨(blk_cell BK379.out 0).trans rfl, (blk_cell BK379.out 1).trans rfl, (blk_cell BK384.out 0).trans rfl, (blk_cell BK384.out 1).trans rfl, (blk_cell BK384.out 2).trans rfl, (blk_cell BK412.out 0).trans rfl, (blk_cell BK412.out 1).trans rfl, (blk_cell BK412.out 2).trans rfl, (blk_cell BK407.out 0).trans rfl, (blk_cell BK407.out 1).trans rfl, (blk_cell BK407.out 2).trans rfl, hx415_0, hx415_1⟩ (fun hHeld => ?_); refine with_tabW laws_FnLog.tab21 laws_FnLog.bits21 (fun HT_ HW_ => ?_)
            generalize wr.drew = w119 at HO_9 HO_11 BK378 BK379 BK384 BK389 BK407 BK412 HB hx415_0 hx415_1 hHeld ⊢
            refine pu 0 122 ?_
            refine pu 1 123 ?_
            refine pu 2 124 ?_
            refine pu 3 125 ?_
            refine tk 4 126 ?_
            refine tk 5 127 ?_
            refine pu 6 128 ?_
            refine pu 7 129 ?_
            refine pu 8 130 ?_
            refine pu 9 131 ?_
            refine pu 10 132 ?_
            refine pu 11 133 ?_
            refine pu 12 134 ?_
            refine pu 14 136 ?_
            refine tk 13 135 ?_
            refine tk 15 137 ?_
            refine pu 16 138 ?_
            refine pu 17 139 ?_
            refine pu 18 140 ?_
            refine pu 19 141 ?_
            refine pu 20 142 ?_
            refine pu 21 143 ?_
            refine pu 22 144 ?_
            refine pu 23 145 ?_
            refine tk 24 146 ?_
            refine tk 25 147 ?_
            refine pu 26 148 ?_
            refine pu 27 149 ?_
            refine pu 28 150 ?_
            refine pn 29 151 ?_
            refine pn 30 152 ?_
            refine pu 31 153 ?_
            refine pu 32 2 ?_
            refine done_ (done_of HT_.out (by kernel_rfl)) ?_
            try go_wp2
            go_ret
            exact ⟨ZZab01d2, ZZ295621⟩
           replace c111 := Bool.eq_false_iff.mpr c111
           subst c111
           have H1 : (some false) = some r := by rw [if_neg (show ¬ (false = true) by decide)] at H; exact H
           clear H
           have H := H1
           clear H1
           obtain rfl := Option.some.inj H
           obtain ⟨Ao121, co121, eo121⟩ := Kd.R_slice HO_11.out
           subst eo121
           try go_wp2
           replace HO_9 := Aside0.mk (Kd.R_drew HO_9.out)
           replace HO_11 := Aside0.mk (Kd.R_drew HO_11.out)
           replace BK378 := Aside0.mk (blk_drew BK378.out)
           replace BK379 := Aside0.mk (blk_drew BK379.out)
           replace BK384 := Aside0.mk (blk_drew BK384.out)
           replace BK389 := Aside0.mk (blk_drew BK389.out)
           replace BK407 := Aside0.mk (blk_drew BK407.out)
           replace BK412 := Aside0.mk (blk_drew BK412.out)
           replace HB := Aside0.mk (below_drew1 HB.out)
           obtain ⟨Ao123, co123, eo123⟩ := Kd.R_slice HO_9.out
           (first | subst eo123 | (injection eo123 with f1_ f2_ f3_; have f4_ := f1_.symm; have f5_ := f3_.symm; clear f1_ f2_ f3_; subst f4_; subst f5_))
           have p415 : 0 ≤ ((t398.length : Int) : Int) := of_decide_eq_true ZZ853400
           have q415 : (t398.length : Int) < (t394.length : Int) := of_decide_eq_true ZZ853400
           obtain ⟨ad415, e415, hx415_0, hx415_1⟩ := at_T27 (Kd.R_reads' HO_9.out).2.2 (t398.length : Int) p415 q415
           cases e415
           (try simp only [Go.IntWalk.toNatUp] at hx415_0)
           (try simp only [Go.IntWalk.toNatUp] at hx415_1)
           replace p415 := eq_true p415
           replace q415 := eq_true q415
           try simp only [Int.toNat_natCast] at hx415_0 hx415_1
           refine start_ (n := 33) (S := fun w' => w'.cell? ⟨gb379, 0, none⟩ = some (.string t376) ∧ w'.cell? ⟨gb379, 1, none⟩ = some (.string t377) ∧ w'.cell? ⟨gb384, 0, none⟩ = some (.string t380) ∧ w'.cell? ⟨gb384, 1, none⟩ = some (.string t381) ∧ w'.cell? ⟨gb384, 2, none⟩ = some (.int .i64 t382) ∧ w'.cell? (ad415.add (t398.length * 2)) = some (.string ((rd_T27 t394 (t398.length : Int)).f0)) ∧ w'.cell? ⟨(ad415.add (t398.length * 2)).block, (ad415.add (t398.length * 2)).off + 1, none⟩ = some (.string ((rd_T27 t394 (t398.length : Int)).f1))) (ds := []) #[false, false, false, false, false, false, false, false, false, false, false, false, false, false, false, false, false, false, false, false, false, false, false, false, false, false, false, false, false, false, false, false, false] (by kernel_rfl) rfl rfl ⟨(blk_cell BK379.out 0).trans rfl, (blk_cell BK379.out 1).trans rfl, (blk_cell BK384.out 0).trans rfl, (blk_cell BK384.out 1).trans rfl, (blk_cell BK384.out 2).trans rfl, hx415_0, hx415_1⟩ (fun hHeld => ?_); refine with_tabW laws_FnLog.tab21 laws_FnLog.bits21 (fun HT_ HW_ => ?_)
           generalize wr.drew = w122 at HO_9 HO_11 BK378 BK379 BK384 BK389 BK407 BK412 HB hx415_0 hx415_1 hHeld ⊢
           refine pu 0 122 ?_
           refine pu 1 123 ?_
           refine pu 2 124 ?_
           refine pu 3 125 ?_
           refine tk 4 126 ?_
           refine tk 5 127 ?_
           refine pu 6 128 ?_
           refine pu 7 129 ?_
           refine pu 8 130 ?_
           refine pu 9 131 ?_
           refine pu 10 132 ?_
           refine pu 11 133 ?_
           refine pu 12 134 ?_
           refine pu 14 136 ?_
           refine tk 13 135 ?_
           refine tk 15 137 ?_
           refine pu 16 138 ?_
           refine pu 17 139 ?_
           refine pu 18 140 ?_
           refine pu 19 141 ?_
           refine pu 20 142 ?_
           refine pu 21 143 ?_
           refine pu 22 144 ?_
           refine pu 23 145 ?_
           refine pn 24 146 ?_
           refine pn 25 147 ?_
           refine pn 26 148 ?_
           refine pu 27 149 ?_
           refine pu 28 150 ?_
           refine pn 29 151 ?_
           refine pn 30 152 ?_
           refine pu 31 153 ?_
           refine pu 32 2 ?_
           refine done_ (done_of HT_.out (by kernel_rfl)) ?_
           try go_wp2
           go_ret
           exact ⟨ZZab01d2, ZZ295621⟩
          rw [if_neg c110] at H
          have c110b0 := beq_eq_false_iff_ne.mpr c110
          have c110b1 := bne_iff_ne.mpr c110
          obtain rfl := Option.some.inj H
          obtain ⟨Ao124, co124, eo124⟩ := Kd.R_slice HO_11.out
          subst eo124
          try go_wp2
          replace HO_9 := Aside0.mk (Kd.R_drew HO_9.out)
          replace HO_11 := Aside0.mk (Kd.R_drew HO_11.out)
          replace BK378 := Aside0.mk (blk_drew BK378.out)
          replace BK379 := Aside0.mk (blk_drew BK379.out)
          replace BK384 := Aside0.mk (blk_drew BK384.out)
          replace BK389 := Aside0.mk (blk_drew BK389.out)
          replace BK407 := Aside0.mk (blk_drew BK407.out)
          replace BK412 := Aside0.mk (blk_drew BK412.out)
          replace HB := Aside0.mk (below_drew1 HB.out)
          obtain ⟨Ao126, co126, eo126⟩ := Kd.R_slice HO_9.out
          (first | subst eo126 | (injection eo126 with f1_ f2_ f3_; have f4_ := f1_.symm; have f5_ := f3_.symm; clear f1_ f2_ f3_; subst f4_; subst f5_))
          have p415 : 0 ≤ ((t398.length : Int) : Int) := of_decide_eq_true ZZ853400
          have q415 : (t398.length : Int) < (t394.length : Int) := of_decide_eq_true ZZ853400
          obtain ⟨ad415, e415, hx415_0, hx415_1⟩ := at_T27 (Kd.R_reads' HO_9.out).2.2 (t398.length : Int) p415 q415
          cases e415
          (try simp only [Go.IntWalk.toNatUp] at hx415_0)
          (try simp only [Go.IntWalk.toNatUp] at hx415_1)
          replace p415 := eq_true p415
          replace q415 := eq_true q415
          try simp only [Int.toNat_natCast] at hx415_0 hx415_1
          refine start_ (n := 33) (S := fun w' => w'.cell? ⟨gb379, 0, none⟩ = some (.string t376) ∧ w'.cell? ⟨gb379, 1, none⟩ = some (.string t377) ∧ w'.cell? ⟨gb384, 0, none⟩ = some (.string t380) ∧ w'.cell? ⟨gb384, 1, none⟩ = some (.string t381) ∧ w'.cell? ⟨gb384, 2, none⟩ = some (.int .i64 t382) ∧ w'.cell? (ad415.add (t398.length * 2)) = some (.string ((rd_T27 t394 (t398.length : Int)).f0)) ∧ w'.cell? ⟨(ad415.add (t398.length * 2)).block, (ad415.add (t398.length * 2)).off + 1, none⟩ = some (.string ((rd_T27 t394 (t398.length : Int)).f1))) (ds := []) #[false, false, false, false, false, false, false, false, false, false, false, false, false, false, false, false, false, false, false, false, false, false, false, false, false, false, false, false, false, false, false, false, false] (by kernel_rfl) rfl rfl ⟨(blk_cell BK379.out 0).trans rfl, (blk_cell BK379.out 1).trans rfl, (blk_cell BK384.out 0).trans rfl, (blk_cell BK384.out 1).trans rfl, (blk_cell BK384.out 2).trans rfl, hx415_0, hx415_1⟩ (fun hHeld => ?_); refine with_tabW laws_FnLog.tab21 laws_FnLog.bits21 (fun HT_ HW_ => ?_)
          generalize wr.drew = w125 at HO_9 HO_11 BK378 BK379 BK384 BK389 BK407 BK412 HB hx415_0 hx415_1 hHeld ⊢
          refine pu 0 122 ?_
          refine pu 1 123 ?_
          refine pu 2 124 ?_
          refine pu 3 125 ?_
          refine tk 4 126 ?_
          refine tk 5 127 ?_
          refine pu 6 128 ?_
          refine pu 7 129 ?_
          refine pu 8 130 ?_
          refine pu 9 131 ?_
          refine pu 10 132 ?_
          refine pu 11 133 ?_
          refine pu 12 134 ?_
          refine pu 14 136 ?_
          refine tk 13 135 ?_
          refine tk 15 137 ?_
          refine pu 16 138 ?_
          refine pu 17 139 ?_
          refine pu 18 140 ?_
          refine pu 19 141 ?_
          refine pu 20 142 ?_
          refine pn 21 143 ?_
          refine pu 22 144 ?_
          refine pu 23 145 ?_
          refine pn 24 146 ?_
          refine pn 25 147 ?_
          refine pn 26 148 ?_
          refine pu 27 149 ?_
          refine pu 28 150 ?_
          refine pn 29 151 ?_
          refine pn 30 152 ?_
          refine pu 31 153 ?_
          refine pu 32 2 ?_
          refine done_ (done_of HT_.out (by kernel_rfl)) ?_
          try go_wp2
          go_ret
          exact ⟨ZZab01d2, ZZ295621⟩
         replace c108 := Bool.eq_false_iff.mpr c108
         subst c108
         have H1 : (some false) = some r := by rw [if_neg (show ¬ (false = true) by decide)] at H; exact H
         clear H
         have H := H1
         clear H1
         obtain rfl := Option.some.inj H
         obtain ⟨Ao127, co127, eo127⟩ := Kd.R_slice HO_11.out
         subst eo127
         try go_wp2
         replace HO_9 := Aside0.mk (Kd.R_drew HO_9.out)
         replace HO_11 := Aside0.mk (Kd.R_drew HO_11.out)
         replace BK378 := Aside0.mk (blk_drew BK378.out)
         replace BK379 := Aside0.mk (blk_drew BK379.out)
         replace BK384 := Aside0.mk (blk_drew BK384.out)
         replace BK389 := Aside0.mk (blk_drew BK389.out)
         replace BK407 := Aside0.mk (blk_drew BK407.out)
         replace BK412 := Aside0.mk (blk_drew BK412.out)
         replace HB := Aside0.mk (below_drew1 HB.out)
         obtain ⟨Ao129, co129, eo129⟩ := Kd.R_slice HO_9.out
         (first | subst eo129 | (injection eo129 with f1_ f2_ f3_; have f4_ := f1_.symm; have f5_ := f3_.symm; clear f1_ f2_ f3_; subst f4_; subst f5_))
         have p415 : 0 ≤ ((t398.length : Int) : Int) := of_decide_eq_true ZZ853400
         have q415 : (t398.length : Int) < (t394.length : Int) := of_decide_eq_true ZZ853400
         obtain ⟨ad415, e415, hx415_0, hx415_1⟩ := at_T27 (Kd.R_reads' HO_9.out).2.2 (t398.length : Int) p415 q415
         cases e415
         (try simp only [Go.IntWalk.toNatUp] at hx415_0)
         (try simp only [Go.IntWalk.toNatUp] at hx415_1)
         replace p415 := eq_true p415
         replace q415 := eq_true q415
         try simp only [Int.toNat_natCast] at hx415_0 hx415_1
         refine start_ (n := 33) (S := fun w' => w'.cell? ⟨gb379, 0, none⟩ = some (.string t376) ∧ w'.cell? ⟨gb379, 1, none⟩ = some (.string t377) ∧ w'.cell? (ad415.add (t398.length * 2)) = some (.string ((rd_T27 t394 (t398.length : Int)).f0)) ∧ w'.cell? ⟨(ad415.add (t398.length * 2)).block, (ad415.add (t398.length * 2)).off + 1, none⟩ = some (.string ((rd_T27 t394 (t398.length : Int)).f1))) (ds := []) #[false, false, false, false, false, false, false, false, false, false, false, false, false, false, false, false, false, false, false, false, false, false, false, false, false, false, false, false, false, false, false, false, false] (by kernel_rfl) rfl rfl ⟨(blk_cell BK379.out 0).trans rfl, (blk_cell BK379.out 1).trans rfl, hx415_0, hx415_1⟩ (fun hHeld => ?_); refine with_tabW laws_FnLog.tab21 laws_FnLog.bits21 (fun HT_ HW_ => ?_)
         generalize wr.drew = w128 at HO_9 HO_11 BK378 BK379 BK384 BK389 BK407 BK412 HB hx415_0 hx415_1 hHeld ⊢
         refine pu 0 122 ?_
         refine pu 1 123 ?_
         refine pu 2 124 ?_
         refine pu 3 125 ?_
         refine tk 4 126 ?_
         refine tk 5 127 ?_
         refine pu 6 128 ?_
         refine pu 7 129 ?_
         refine pu 8 130 ?_
         refine pu 9 131 ?_
         refine pu 10 132 ?_
         refine pn 11 133 ?_
         refine pn 12 134 ?_
         refine pn 13 135 ?_
         refine pn 14 136 ?_
         refine pn 15 137 ?_
         refine pn 16 138 ?_
         refine pn 17 139 ?_
         refine pn 18 140 ?_
         refine pu 19 141 ?_
         refine pu 20 142 ?_
         refine pn 21 143 ?_
         refine pu 22 144 ?_
         refine pu 23 145 ?_
         refine pn 24 146 ?_
         refine pn 25 147 ?_
         refine pn 26 148 ?_
         refine pu 27 149 ?_
         refine pu 28 150 ?_
         refine pn 29 151 ?_
         refine pn 30 152 ?_
         refine pu 31 153 ?_
         refine pu 32 2 ?_
         refine done_ (done_of HT_.out (by kernel_rfl)) ?_
         try go_wp2
         go_ret
         exact ⟨ZZab01d2, ZZ295621⟩
        rw [if_neg c107] at H
        have c107b0 : ((((rd_T27 t394 (t398.length : Int)).f0).toList) == t376.toList && ((((rd_T27 t394 (t398.length : Int)).f1).toList) == t377.toList)) = false := by simpa using c107
        (try (have c107b1 : decide ((((rd_T27 t394 (t398.length : Int)).f0).toList) = t376.toList && ((((rd_T27 t394 (t398.length : Int)).f1).toList) == t377.toList)) = false := by simpa using c107))
        (try (have c107b2 : ((((rd_T27 t394 (t398.length : Int)).f0).toList) == t376.toList && ((((rd_T27 t394 (t398.length : Int)).f1).toList) == t377.toList)) = false := by simpa using c107))
        (try (have c107b3 : ¬ ((((rd_T27 t394 (t398.length : Int)).f0).toList) = t376.toList && ((((rd_T27 t394 (t398.length : Int)).f1).toList) == t377.toList)) := by simpa using c107))
        clear c107
        obtain rfl := Option.some.inj H
        obtain ⟨Ao130, co130, eo130⟩ := Kd.R_slice HO_11.out
        subst eo130
        try go_wp2
        replace HO_9 := Aside0.mk (Kd.R_drew HO_9.out)
        replace HO_11 := Aside0.mk (Kd.R_drew HO_11.out)
        replace BK378 := Aside0.mk (blk_drew BK378.out)
        replace BK379 := Aside0.mk (blk_drew BK379.out)
        replace BK384 := Aside0.mk (blk_drew BK384.out)
        replace BK389 := Aside0.mk (blk_drew BK389.out)
        replace BK407 := Aside0.mk (blk_drew BK407.out)
        replace BK412 := Aside0.mk (blk_drew BK412.out)
        replace HB := Aside0.mk (below_drew1 HB.out)
        obtain ⟨Ao132, co132, eo132⟩ := Kd.R_slice HO_9.out
        (first | subst eo132 | (injection eo132 with f1_ f2_ f3_; have f4_ := f1_.symm; have f5_ := f3_.symm; clear f1_ f2_ f3_; subst f4_; subst f5_))
        have p415 : 0 ≤ ((t398.length : Int) : Int) := of_decide_eq_true ZZ853400
        have q415 : (t398.length : Int) < (t394.length : Int) := of_decide_eq_true ZZ853400
        obtain ⟨ad415, e415, hx415_0, hx415_1⟩ := at_T27 (Kd.R_reads' HO_9.out).2.2 (t398.length : Int) p415 q415
        cases e415
        (try simp only [Go.IntWalk.toNatUp] at hx415_0)
        (try simp only [Go.IntWalk.toNatUp] at hx415_1)
        replace p415 := eq_true p415
        replace q415 := eq_true q415
        try simp only [Int.toNat_natCast] at hx415_0 hx415_1
        refine start_ (n := 33) (S := fun w' => w'.cell? ⟨gb379, 0, none⟩ = some (.string t376) ∧ w'.cell? ⟨gb379, 1, none⟩ = some (.string t377) ∧ w'.cell? (ad415.add (t398.length * 2)) = some (.string ((rd_T27 t394 (t398.length : Int)).f0)) ∧ w'.cell? ⟨(ad415.add (t398.length * 2)).block, (ad415.add (t398.length * 2)).off + 1, none⟩ = some (.string ((rd_T27 t394 (t398.length : Int)).f1))) (ds := []) #[false, false, false, false, false, false, false, false, false, false, false, false, false, false, false, false, false, false, false, false, false, false, false, false, false, false, false, false, false, false, false, false, false] (by kernel_rfl) rfl rfl ⟨(blk_cell BK379.out 0).trans rfl, (blk_cell BK379.out 1).trans rfl, hx415_0, hx415_1⟩ (fun hHeld => ?_); refine with_tabW laws_FnLog.tab21 laws_FnLog.bits21 (fun HT_ HW_ => ?_)
        generalize wr.drew = w131 at HO_9 HO_11 BK378 BK379 BK384 BK389 BK407 BK412 HB hx415_0 hx415_1 hHeld ⊢
        refine pu 0 122 ?_
        refine pu 1 123 ?_
        refine pu 2 124 ?_
        refine pu 3 125 ?_
        refine tk 4 126 ?_
        refine tk 5 127 ?_
        refine pu 6 128 ?_
        refine pu 7 129 ?_
        refine pn 8 130 ?_
        refine pu 9 131 ?_
        refine pu 10 132 ?_
        refine pn 11 133 ?_
        refine pn 12 134 ?_
        refine pn 13 135 ?_
        refine pn 14 136 ?_
        refine pn 15 137 ?_
        refine pn 16 138 ?_
        refine pn 17 139 ?_
        refine pn 18 140 ?_
        refine pu 19 141 ?_
        refine pu 20 142 ?_
        refine pn 21 143 ?_
        refine pu 22 144 ?_
        refine pu 23 145 ?_
        refine pn 24 146 ?_
        refine pn 25 147 ?_
        refine pn 26 148 ?_
        refine pu 27 149 ?_
        refine pu 28 150 ?_
        refine pn 29 151 ?_
        refine pn 30 152 ?_
        refine pu 31 153 ?_
        refine pu 32 2 ?_
        refine done_ (done_of HT_.out (by kernel_rfl)) ?_
        try go_wp2
        go_ret
        exact ⟨ZZab01d2, ZZ295621⟩
   rw [if_neg c49] at H
   have c49b0 := beq_eq_false_iff_ne.mpr c49
   have c49b1 := bne_iff_ne.mpr c49
   obtain rfl := Option.some.inj H
   have hnb133 := NB384_378.out
   have hnc133 := NB378_384.out
   have hnb134 := NB384_379.out
   have hnc134 := NB379_384.out
   have hnb135 := NB384_389.out
   have hnc135 := NB389_384.out
   have hcz136_0 : wc.cell? ⟨gb384, 0, none⟩ = some (.string t380) := (blk_cell BK384.out 0).trans rfl
   have hcz136_1 : wc.cell? ⟨gb384, 1, none⟩ = some (.string t381) := (blk_cell BK384.out 1).trans rfl
   have hcz136_2 : wc.cell? ⟨gb384, 2, none⟩ = some (.int .i64 t382) := (blk_cell BK384.out 2).trans rfl
   have hfz136_0 := blk_frozen BK384.out 0
   have hfz136_1 := blk_frozen BK384.out 1
   have hfz136_2 := blk_frozen BK384.out 2
   have hnb137 := NB378_379.out
   have hnc137 := NB379_378.out
   have hnb138 := NB378_389.out
   have hnc138 := NB389_378.out
   have hcz139_0 : wc.cell? ⟨gb378, 0, none⟩ = some (.string t373) := (blk_cell BK378.out 0).trans rfl
   have hcz139_1 : wc.cell? ⟨gb378, 1, none⟩ = some (.string t374) := (blk_cell BK378.out 1).trans rfl
   have hcz139_2 : wc.cell? ⟨gb378, 2, none⟩ = some (.int .i64 t375) := (blk_cell BK378.out 2).trans rfl
   have hfz139_0 := blk_frozen BK378.out 0
   have hfz139_1 := blk_frozen BK378.out 1
   have hfz139_2 := blk_frozen BK378.out 2
   go_wp2
   go_ret
   exact ⟨ZZab01d2, ZZ295621⟩
end Go.Proofs.YtmhmeifdnleoaaaDoor.XFnLog

-- Printed by wip/tools/xprint.py, a program of this session, over the kit's print; Lean checks it.
import Derived.Test.YtmhmeifdnleoaaaDoorXFnLogLines2
import Derived.Test.YtmhmeifdnleoaaaDoorXFnLogLines0
import Derived.Test.YtmhmeifdnleoaaaDoorXFnLogLines3
import Derived.Test.YtmhmeifdnleoaaaDoorXFnLogLines7
import Derived.Test.YtmhmeifdnleoaaaDoorXFnLogLines8
namespace Go.Proofs.YtmhmeifdnleoaaaDoor.XFnLogLines
open Go.Proofs.YtmhmeifdnleoaaaDoor.Short Go.RowKit Go.Proofs.YtmhmeifdnleoaaaDoorW.PrintWords Go.Proofs.YtmhmeifdnleoaaaDoorW.PrintLast Go.Proofs.YtmhmeifdnleoaaaDoorW.PrintMore
attribute [local go_sem] max2_int min2_int max_two min_two max_three min_three max_four min_four   -- for this text's walks alone
set_option linter.unusedVariables false
set_option linter.unusedSimpArgs false
theorem ZZe674eb {p : Prop} (h : p := by (with_reducible repeat (first | refine blk_drewN ?_ _ | refine blk_drew ?_ | refine blk_alloc ?_ _)); exact BK352.out) : p := h
/-! ### spec_l1Cur_spoilt: function 61 -/
def spec_l1Cur_spoilt.f (s0_0 : List Int) (s0_1 : Int) (s0_2 : Int) (a1 : ByteArray) (a2 : ByteArray) : Option (ByteArray × Int × Int) := if a1.toList = ([] : List UInt8) then (if 0 ≤ 1 then (if 1 ≤ (a2.size : Int) then (some (a2.extract 0 1, s0_1, s0_2)) else (none)) else (none)) else ((spec_l1Cur_pick.f s0_0 s0_1 s0_2 (a1.size : Int)).bind fun bt337 => ((spec_l1Cur_pick.f s0_0 bt337.2.1 bt337.2.2 (a2.size : Int)).bind fun bt340 => (if 0 ≤ bt340.1 then (if bt340.1 ≤ (a2.size : Int) then (if 0 ≤ 1 then (if 1 ≤ ((a2.extract (bt340.1 : Int).toNat a2.size).size : Int) then ((spec_l1Cur_pick.f s0_0 bt340.2.1 bt340.2.2 3).bind fun bt343 => (if bt343.1 = 0 then (if 0 ≤ bt337.1 then (if bt337.1 ≤ (a1.size : Int) then (if (bt337.1 : Int).toNat + 1 ≤ 9223372036854775807 then (if (bt337.1 : Int).toNat + 1 + (a1.size - (bt337.1 : Int).toNat) ≤ 9223372036854775807 then (some (((a1.extract 0 (bt337.1 : Int).toNat) ++ ((a2.extract (bt340.1 : Int).toNat a2.size).extract 0 1)) ++ (a1.extract (bt337.1 : Int).toNat a1.size), bt343.2.1, bt343.2.2)) else (none)) else (none)) else (none)) else (none)) else (if bt343.1 = 1 then (if 0 ≤ bt337.1 then (if bt337.1 ≤ (a1.size : Int) then (if (bt337.1 : Int).toNat + 1 ≤ 9223372036854775807 then (if 0 ≤ (wrap64 (bt337.1 + 1)) then (if (wrap64 (bt337.1 + 1)) ≤ (a1.size : Int) then (if (bt337.1 : Int).toNat + 1 + (a1.size - ((wrap64 (bt337.1 + 1)) : Int).toNat) ≤ 9223372036854775807 then (some (((a1.extract 0 (bt337.1 : Int).toNat) ++ ((a2.extract (bt340.1 : Int).toNat a2.size).extract 0 1)) ++ (a1.extract ((wrap64 (bt337.1 + 1)) : Int).toNat a1.size), bt343.2.1, bt343.2.2)) else (none)) else (none)) else (none)) else (none)) else (none)) else (none)) else (if 0 ≤ bt337.1 then (if bt337.1 ≤ (a1.size : Int) then (if 0 ≤ (wrap64 (bt337.1 + 1)) then (if (wrap64 (bt337.1 + 1)) ≤ (a1.size : Int) then (if (bt337.1 : Int).toNat + (a1.size - ((wrap64 (bt337.1 + 1)) : Int).toNat) ≤ 9223372036854775807 then (some ((a1.extract 0 (bt337.1 : Int).toNat) ++ (a1.extract ((wrap64 (bt337.1 + 1)) : Int).toNat a1.size), bt343.2.1, bt343.2.2)) else (none)) else (none)) else (none)) else (none)) else (none))))) else (none)) else (none)) else (none)) else (none))))
set_option maxHeartbeats 8000000 in
set_option maxRecDepth 100000 in
theorem spec_l1Cur_spoilt.calls (g : Nat) (s0_0 : List Int) (s0_1 : Int) (s0_2 : Int) (a1 : ByteArray) (a2 : ByteArray) (r1 : ByteArray) (r2 : Int) (r3 : Int) (w0 w : World) (hI : IsS74 w0 w g s0_0 s0_1 s0_2) (hB : Below w0.heap.size w0 w) (h : spec_l1Cur_spoilt.f s0_0 s0_1 s0_2 a1 a2 = some (r1, r2, r3)) :
 Calls Tryd.prog 61 #[.pointer (some ⟨g, 0, none⟩), .string a1, .string a2] w fun e w' => e = .returned (.string r1) ∧ IsS74 w0 w' g s0_0 r2 r3 ∧ Below w0.heap.size w0 w' ∧ KeepBut w w' g none := by
 have HI0 := Aside0.mk hI
 have HK := Aside0.mk (KeepBut.refl w g none)
 have HL := Aside0.mk hB.size
 clear hI
 have HW0 := Aside0.mk hB.size
 have HB := Aside0.mk hB
 clear hB
 have H : (if a1.toList = ([] : List UInt8) then (if 0 ≤ 1 then (if 1 ≤ (a2.size : Int) then (some (a2.extract 0 1, s0_1, s0_2)) else (none)) else (none)) else ((spec_l1Cur_pick.f s0_0 s0_1 s0_2 (a1.size : Int)).bind fun bt337 => ((spec_l1Cur_pick.f s0_0 bt337.2.1 bt337.2.2 (a2.size : Int)).bind fun bt340 => (if 0 ≤ bt340.1 then (if bt340.1 ≤ (a2.size : Int) then (if 0 ≤ 1 then (if 1 ≤ ((a2.extract (bt340.1 : Int).toNat a2.size).size : Int) then ((spec_l1Cur_pick.f s0_0 bt340.2.1 bt340.2.2 3).bind fun bt343 => (if bt343.1 = 0 then (if 0 ≤ bt337.1 then (if bt337.1 ≤ (a1.size : Int) then (if (bt337.1 : Int).toNat + 1 ≤ 9223372036854775807 then (if (bt337.1 : Int).toNat + 1 + (a1.size - (bt337.1 : Int).toNat) ≤ 9223372036854775807 then (some (((a1.extract 0 (bt337.1 : Int).toNat) ++ ((a2.extract (bt340.1 : Int).toNat a2.size).extract 0 1)) ++ (a1.extract (bt337.1 : Int).toNat a1.size), bt343.2.1, bt343.2.2)) else (none)) else (none)) else (none)) else (none)) else (if bt343.1 = 1 then (if 0 ≤ bt337.1 then (if bt337.1 ≤ (a1.size : Int) then (if (bt337.1 : Int).toNat + 1 ≤ 9223372036854775807 then (if 0 ≤ (wrap64 (bt337.1 + 1)) then (if (wrap64 (bt337.1 + 1)) ≤ (a1.size : Int) then (if (bt337.1 : Int).toNat + 1 + (a1.size - ((wrap64 (bt337.1 + 1)) : Int).toNat) ≤ 9223372036854775807 then (some (((a1.extract 0 (bt337.1 : Int).toNat) ++ ((a2.extract (bt340.1 : Int).toNat a2.size).extract 0 1)) ++ (a1.extract ((wrap64 (bt337.1 + 1)) : Int).toNat a1.size), bt343.2.1, bt343.2.2)) else (none)) else (none)) else (none)) else (none)) else (none)) else (none)) else (if 0 ≤ bt337.1 then (if bt337.1 ≤ (a1.size : Int) then (if 0 ≤ (wrap64 (bt337.1 + 1)) then (if (wrap64 (bt337.1 + 1)) ≤ (a1.size : Int) then (if (bt337.1 : Int).toNat + (a1.size - ((wrap64 (bt337.1 + 1)) : Int).toNat) ≤ 9223372036854775807 then (some ((a1.extract 0 (bt337.1 : Int).toNat) ++ (a1.extract ((wrap64 (bt337.1 + 1)) : Int).toNat a1.size), bt343.2.1, bt343.2.2)) else (none)) else (none)) else (none)) else (none)) else (none))))) else (none)) else (none)) else (none)) else (none))))) = some (r1, r2, r3) := h
 clear h
 by_cases c4 : a1.toList = ([] : List UInt8)
 ·rw [if_pos c4] at H
  have c4b0 : (a1.toList == ([] : List UInt8)) = true := beq_iff_eq.mpr c4
  have c4b1 : (a1.toList != ([] : List UInt8)) = false := bne_eq_false_iff_eq.mpr c4
  clear c4
  by_cases c5 : 0 ≤ 1
  ·rw [if_pos c5] at H
   have c5b0 := eq_true c5
   have c5b1 : decide (0 ≤ 1) = true := decide_eq_true c5
   clear c5
   by_cases c6 : 1 ≤ (a2.size : Int)
   ·rw [if_pos c6] at H
    have c6b0 := eq_true c6
    have c6b1 : decide (1 ≤ (a2.size : Int)) = true := decide_eq_true c6
    clear c6
    simp only [Option.some.injEq, Prod.mk.injEq] at H
    obtain ⟨rfl, rfl, rfl⟩ := H
    go_enter Tryd.func61, Tryd.ntmps61
    go_wp2
    repeat (go_quiet (fail); try go_wp2)
    go_ret
    exact ⟨by first | rfl | (simp [errW_none, errW_some] <;> rfl) | (simp [*, errW_none, errW_some] <;> rfl), by repeat (first | (with_reducible first | exact HI0.out | apply IsS74.alloc | apply IsS74.drewN | apply IsS74.drew | apply IsS74.set_1 | apply IsS74.set_2) | exact HI0.out), by repeat (first | (with_reducible first | exact HB.out | apply below_alloc | apply pw_below_drewN | apply below_drew1 | refine below_set ?_ (IsS74.ge HI0.out)) | exact HB.out), by repeat (first | (with_reducible first | exact HK.out | apply KeepBut.set_ | apply keep_drewN | apply keep_drew | apply keep_alloc) | exact HK.out)⟩
   ·rw [if_neg c6] at H
    exact absurd H (by simp)
  ·rw [if_neg c5] at H
   exact absurd H (by simp)
 ·rw [if_neg c4] at H
  have c4b0 : (a1.toList == ([] : List UInt8)) = false := beq_eq_false_iff_ne.mpr c4
  have c4b1 : (a1.toList != ([] : List UInt8)) = true := bne_iff_ne.mpr c4
  replace H := Option.bind_eq_some_iff.mp H
  obtain ⟨⟨t337, t338, t339⟩, A70, H⟩ := H
  replace H : ((spec_l1Cur_pick.f s0_0 t338 t339 (a2.size : Int)).bind fun bt340 => (if 0 ≤ bt340.1 then (if bt340.1 ≤ (a2.size : Int) then (if 0 ≤ 1 then (if 1 ≤ ((a2.extract (bt340.1 : Int).toNat a2.size).size : Int) then ((spec_l1Cur_pick.f s0_0 bt340.2.1 bt340.2.2 3).bind fun bt343 => (if bt343.1 = 0 then (if 0 ≤ t337 then (if t337 ≤ (a1.size : Int) then (if (t337 : Int).toNat + 1 ≤ 9223372036854775807 then (if (t337 : Int).toNat + 1 + (a1.size - (t337 : Int).toNat) ≤ 9223372036854775807 then (some (((a1.extract 0 (t337 : Int).toNat) ++ ((a2.extract (bt340.1 : Int).toNat a2.size).extract 0 1)) ++ (a1.extract (t337 : Int).toNat a1.size), bt343.2.1, bt343.2.2)) else (none)) else (none)) else (none)) else (none)) else (if bt343.1 = 1 then (if 0 ≤ t337 then (if t337 ≤ (a1.size : Int) then (if (t337 : Int).toNat + 1 ≤ 9223372036854775807 then (if 0 ≤ (wrap64 (t337 + 1)) then (if (wrap64 (t337 + 1)) ≤ (a1.size : Int) then (if (t337 : Int).toNat + 1 + (a1.size - ((wrap64 (t337 + 1)) : Int).toNat) ≤ 9223372036854775807 then (some (((a1.extract 0 (t337 : Int).toNat) ++ ((a2.extract (bt340.1 : Int).toNat a2.size).extract 0 1)) ++ (a1.extract ((wrap64 (t337 + 1)) : Int).toNat a1.size), bt343.2.1, bt343.2.2)) else (none)) else (none)) else (none)) else (none)) else (none)) else (none)) else (if 0 ≤ t337 then (if t337 ≤ (a1.size : Int) then (if 0 ≤ (wrap64 (t337 + 1)) then (if (wrap64 (t337 + 1)) ≤ (a1.size : Int) then (if (t337 : Int).toNat + (a1.size - ((wrap64 (t337 + 1)) : Int).toNat) ≤ 9223372036854775807 then (some ((a1.extract 0 (t337 : Int).toNat) ++ (a1.extract ((wrap64 (t337 + 1)) : Int).toNat a1.size), bt343.2.1, bt343.2.2)) else (none)) else (none)) else (none)) else (none)) else (none))))) else (none)) else (none)) else (none)) else (none))) = some (r1, r2, r3) := H
  have A7 := Aside0.mk A70
  clear A70
  replace H := Option.bind_eq_some_iff.mp H
  obtain ⟨⟨t340, t341, t342⟩, A80, H⟩ := H
  replace H : (if 0 ≤ t340 then (if t340 ≤ (a2.size : Int) then (if 0 ≤ 1 then (if 1 ≤ ((a2.extract (t340 : Int).toNat a2.size).size : Int) then ((spec_l1Cur_pick.f s0_0 t341 t342 3).bind fun bt343 => (if bt343.1 = 0 then (if 0 ≤ t337 then (if t337 ≤ (a1.size : Int) then (if (t337 : Int).toNat + 1 ≤ 9223372036854775807 then (if (t337 : Int).toNat + 1 + (a1.size - (t337 : Int).toNat) ≤ 9223372036854775807 then (some (((a1.extract 0 (t337 : Int).toNat) ++ ((a2.extract (t340 : Int).toNat a2.size).extract 0 1)) ++ (a1.extract (t337 : Int).toNat a1.size), bt343.2.1, bt343.2.2)) else (none)) else (none)) else (none)) else (none)) else (if bt343.1 = 1 then (if 0 ≤ t337 then (if t337 ≤ (a1.size : Int) then (if (t337 : Int).toNat + 1 ≤ 9223372036854775807 then (if 0 ≤ (wrap64 (t337 + 1)) then (if (wrap64 (t337 + 1)) ≤ (a1.size : Int) then (if (t337 : Int).toNat + 1 + (a1.size - ((wrap64 (t337 + 1)) : Int).toNat) ≤ 9223372036854775807 then (some (((a1.extract 0 (t337 : Int).toNat) ++ ((a2.extract (t340 : Int).toNat a2.size).extract 0 1)) ++ (a1.extract ((wrap64 (t337 + 1)) : Int).toNat a1.size), bt343.2.1, bt343.2.2)) else (none)) else (none)) else (none)) else (none)) else (none)) else (none)) else (if 0 ≤ t337 then (if t337 ≤ (a1.size : Int) then (if 0 ≤ (wrap64 (t337 + 1)) then (if (wrap64 (t337 + 1)) ≤ (a1.size : Int) then (if (t337 : Int).toNat + (a1.size - ((wrap64 (t337 + 1)) : Int).toNat) ≤ 9223372036854775807 then (some ((a1.extract 0 (t337 : Int).toNat) ++ (a1.extract ((wrap64 (t337 + 1)) : Int).toNat a1.size), bt343.2.1, bt343.2.2)) else (none)) else (none)) else (none)) else (none)) else (none))))) else (none)) else (none)) else (none)) else (none)) = some (r1, r2, r3) := H
  have A8 := Aside0.mk A80
  clear A80
  by_cases c9 : 0 ≤ t340
  ·rw [if_pos c9] at H
   have c9b0 := eq_true c9
   have c9b1 : decide (0 ≤ t340) = true := decide_eq_true c9
   clear c9
   by_cases c10 : t340 ≤ (a2.size : Int)
   ·rw [if_pos c10] at H
    have c10b0 := eq_true c10
    have c10b1 : decide (t340 ≤ (a2.size : Int)) = true := decide_eq_true c10
    clear c10
    by_cases c11 : 0 ≤ 1
    ·rw [if_pos c11] at H
     have c11b0 := eq_true c11
     have c11b1 : decide (0 ≤ 1) = true := decide_eq_true c11
     clear c11
     by_cases c12 : 1 ≤ ((a2.extract (t340 : Int).toNat a2.size).size : Int)
     ·rw [if_pos c12] at H
      have c12b0 := eq_true c12
      have c12b0s : (1 ≤ ((a2.size - (t340 : Int).toNat : Nat) : Int)) = True := by have h_ := c12b0; (first | (rw [show ((a2.extract (t340 : Int).toNat a2.size).size : Int) = ((a2.size - (t340 : Int).toNat : Nat) : Int) from by simp only [ByteArray.size_extract, Nat.min_self]] at h_; exact h_) | (simp only [show ((a2.extract (t340 : Int).toNat a2.size).size : Int) = ((a2.size - (t340 : Int).toNat : Nat) : Int) from by simp only [ByteArray.size_extract, Nat.min_self]] at h_; exact h_))
      have c12b1 : decide (1 ≤ ((a2.extract (t340 : Int).toNat a2.size).size : Int)) = true := decide_eq_true c12
      have c12b1s : decide (1 ≤ ((a2.size - (t340 : Int).toNat : Nat) : Int)) = true := by have h_ := c12b1; (first | (rw [show ((a2.extract (t340 : Int).toNat a2.size).size : Int) = ((a2.size - (t340 : Int).toNat : Nat) : Int) from by simp only [ByteArray.size_extract, Nat.min_self]] at h_; exact h_) | (simp only [show ((a2.extract (t340 : Int).toNat a2.size).size : Int) = ((a2.size - (t340 : Int).toNat : Nat) : Int) from by simp only [ByteArray.size_extract, Nat.min_self]] at h_; exact h_))
      clear c12
      replace H := Option.bind_eq_some_iff.mp H
      obtain ⟨⟨t343, t344, t345⟩, A130, H⟩ := H
      replace H : (if t343 = 0 then (if 0 ≤ t337 then (if t337 ≤ (a1.size : Int) then (if (t337 : Int).toNat + 1 ≤ 9223372036854775807 then (if (t337 : Int).toNat + 1 + (a1.size - (t337 : Int).toNat) ≤ 9223372036854775807 then (some (((a1.extract 0 (t337 : Int).toNat) ++ ((a2.extract (t340 : Int).toNat a2.size).extract 0 1)) ++ (a1.extract (t337 : Int).toNat a1.size), t344, t345)) else (none)) else (none)) else (none)) else (none)) else (if t343 = 1 then (if 0 ≤ t337 then (if t337 ≤ (a1.size : Int) then (if (t337 : Int).toNat + 1 ≤ 9223372036854775807 then (if 0 ≤ (wrap64 (t337 + 1)) then (if (wrap64 (t337 + 1)) ≤ (a1.size : Int) then (if (t337 : Int).toNat + 1 + (a1.size - ((wrap64 (t337 + 1)) : Int).toNat) ≤ 9223372036854775807 then (some (((a1.extract 0 (t337 : Int).toNat) ++ ((a2.extract (t340 : Int).toNat a2.size).extract 0 1)) ++ (a1.extract ((wrap64 (t337 + 1)) : Int).toNat a1.size), t344, t345)) else (none)) else (none)) else (none)) else (none)) else (none)) else (none)) else (if 0 ≤ t337 then (if t337 ≤ (a1.size : Int) then (if 0 ≤ (wrap64 (t337 + 1)) then (if (wrap64 (t337 + 1)) ≤ (a1.size : Int) then (if (t337 : Int).toNat + (a1.size - ((wrap64 (t337 + 1)) : Int).toNat) ≤ 9223372036854775807 then (some ((a1.extract 0 (t337 : Int).toNat) ++ (a1.extract ((wrap64 (t337 + 1)) : Int).toNat a1.size), t344, t345)) else (none)) else (none)) else (none)) else (none)) else (none)))) = some (r1, r2, r3) := H
      have A13 := Aside0.mk A130
      clear A130
      by_cases c14 : t343 = 0
      ·rw [if_pos c14] at H
       have c14b0 : (t343 == 0) = true := beq_iff_eq.mpr c14
       have c14b1 : (t343 != 0) = false := bne_eq_false_iff_eq.mpr c14
       clear c14
       by_cases c15 : 0 ≤ t337
       ·rw [if_pos c15] at H
        have c15b0 := eq_true c15
        have c15b1 : decide (0 ≤ t337) = true := decide_eq_true c15
        clear c15
        by_cases c16 : t337 ≤ (a1.size : Int)
        ·rw [if_pos c16] at H
         have c16b0 := eq_true c16
         have c16b1 : decide (t337 ≤ (a1.size : Int)) = true := decide_eq_true c16
         clear c16
         by_cases c17 : (t337 : Int).toNat + 1 ≤ 9223372036854775807
         ·rw [if_pos c17] at H
          have c17b0 := eq_true c17
          have c17b1 : decide ((t337 : Int).toNat + 1 ≤ 9223372036854775807) = true := decide_eq_true c17
          try have c17b2 : (9223372036854775807 < (t337 : Int).toNat + 1) = False := eq_false (Nat.not_lt.2 c17)
          have c18b0 := eq_true (of_decide_eq_true ZZ853400 : 0 ≤ t337)
          have c19b0 := eq_true (of_decide_eq_true ZZ853400 : t337 ≤ (a1.size : Int))
          by_cases c20 : (t337 : Int).toNat + 1 + (a1.size - (t337 : Int).toNat) ≤ 9223372036854775807
          ·rw [if_pos c20] at H
           have c20b0 := eq_true c20
           have c20b1 : decide ((t337 : Int).toNat + 1 + (a1.size - (t337 : Int).toNat) ≤ 9223372036854775807) = true := decide_eq_true c20
           try have c20b2 : (9223372036854775807 < (t337 : Int).toNat + 1 + (a1.size - (t337 : Int).toNat)) = False := eq_false (Nat.not_lt.2 c20)
           simp only [Option.some.injEq, Prod.mk.injEq] at H
           obtain ⟨rfl, rfl, rfl⟩ := H
           go_enter Tryd.func61, Tryd.ntmps61
           go_wp2_with (first | (go_at_call 55; (with_reducible refine (spec_l1Cur_pick.calls g s0_0 s0_1 s0_2 (a1.size : Int) t337 t338 t339 w0 _ ?side1 ?side2 A7.out).mono ?_); (case side1 => repeat (first | (with_reducible first | exact HI0.out | apply IsS74.alloc | apply IsS74.drewN | apply IsS74.drew | apply IsS74.set_1 | apply IsS74.set_2) | exact HI0.out)); (case side2 => repeat (first | (with_reducible first | exact HB.out | apply below_alloc | apply pw_below_drewN | apply below_drew1 | refine below_set ?_ (IsS74.ge HI0.out)) | exact HB.out)); rintro e w21 ⟨rfl, hi, hb, hk⟩; have n0_ := Aside0.mk (KeepBut.trans ZZ9f3a2f hk (.inl rfl)); have n1_ := Aside0.mk (hb); have n2_ := Aside0.mk (hi); clear HK; clear HB; clear HI0; have HK := n0_; have HB := n1_; have HI0 := n2_; clear n0_ n1_ n2_; (try clear hb); (try clear hb2); (try clear hk); (try clear hi)) | (go_at_call 55; (with_reducible refine (spec_l1Cur_pick.calls g s0_0 t338 t339 (a2.size : Int) t340 t341 t342 w0 _ ?side1 ?side2 A8.out).mono ?_); (case side1 => repeat (first | (with_reducible first | exact HI0.out | apply IsS74.alloc | apply IsS74.drewN | apply IsS74.drew | apply IsS74.set_1 | apply IsS74.set_2) | exact HI0.out)); (case side2 => repeat (first | (with_reducible first | exact HB.out | apply below_alloc | apply pw_below_drewN | apply below_drew1 | refine below_set ?_ (IsS74.ge HI0.out)) | exact HB.out)); rintro e w22 ⟨rfl, hi, hb, hk⟩; have n0_ := Aside0.mk (KeepBut.trans ZZ9f3a2f hk (.inl rfl)); have n1_ := Aside0.mk (hb); have n2_ := Aside0.mk (hi); clear HK; clear HB; clear HI0; have HK := n0_; have HB := n1_; have HI0 := n2_; clear n0_ n1_ n2_; (try clear hb); (try clear hb2); (try clear hk); (try clear hi)) | (go_at_call 55; (with_reducible refine (spec_l1Cur_pick.calls g s0_0 t341 t342 3 t343 t344 t345 w0 _ ?side1 ?side2 A13.out).mono ?_); (case side1 => repeat (first | (with_reducible first | exact HI0.out | apply IsS74.alloc | apply IsS74.drewN | apply IsS74.drew | apply IsS74.set_1 | apply IsS74.set_2) | exact HI0.out)); (case side2 => repeat (first | (with_reducible first | exact HB.out | apply below_alloc | apply pw_below_drewN | apply below_drew1 | refine below_set ?_ (IsS74.ge HI0.out)) | exact HB.out)); rintro e w23 ⟨rfl, hi, hb, hk⟩; have n0_ := Aside0.mk (KeepBut.trans ZZ9f3a2f hk (.inl rfl)); have n1_ := Aside0.mk (hb); have n2_ := Aside0.mk (hi); clear HK; clear HB; clear HI0; have HK := n0_; have HB := n1_; have HI0 := n2_; clear n0_ n1_ n2_; (try clear hb); (try clear hb2); (try clear hk); (try clear hi)))
           repeat (go_quiet (first | (go_at_call 55; (with_reducible refine (spec_l1Cur_pick.calls g s0_0 s0_1 s0_2 (a1.size : Int) t337 t338 t339 w0 _ ?side1 ?side2 A7.out).mono ?_); (case side1 => repeat (first | (with_reducible first | exact HI0.out | apply IsS74.alloc | apply IsS74.drewN | apply IsS74.drew | apply IsS74.set_1 | apply IsS74.set_2) | exact HI0.out)); (case side2 => repeat (first | (with_reducible first | exact HB.out | apply below_alloc | apply pw_below_drewN | apply below_drew1 | refine below_set ?_ (IsS74.ge HI0.out)) | exact HB.out)); rintro e w21 ⟨rfl, hi, hb, hk⟩; have n0_ := Aside0.mk (KeepBut.trans ZZ9f3a2f hk (.inl rfl)); have n1_ := Aside0.mk (hb); have n2_ := Aside0.mk (hi); clear HK; clear HB; clear HI0; have HK := n0_; have HB := n1_; have HI0 := n2_; clear n0_ n1_ n2_; (try clear hb); (try clear hb2); (try clear hk); (try clear hi)) | (go_at_call 55; (with_reducible refine (spec_l1Cur_pick.calls g s0_0 t338 t339 (a2.size : Int) t340 t341 t342 w0 _ ?side1 ?side2 A8.out).mono ?_); (case side1 => repeat (first | (with_reducible first | exact HI0.out | apply IsS74.alloc | apply IsS74.drewN | apply IsS74.drew | apply IsS74.set_1 | apply IsS74.set_2) | exact HI0.out)); (case side2 => repeat (first | (with_reducible first | exact HB.out | apply below_alloc | apply pw_below_drewN | apply below_drew1 | refine below_set ?_ (IsS74.ge HI0.out)) | exact HB.out)); rintro e w22 ⟨rfl, hi, hb, hk⟩; have n0_ := Aside0.mk (KeepBut.trans ZZ9f3a2f hk (.inl rfl)); have n1_ := Aside0.mk (hb); have n2_ := Aside0.mk (hi); clear HK; clear HB; clear HI0; have HK := n0_; have HB := n1_; have HI0 := n2_; clear n0_ n1_ n2_; (try clear hb); (try clear hb2); (try clear hk); (try clear hi)) | (go_at_call 55; (with_reducible refine (spec_l1Cur_pick.calls g s0_0 t341 t342 3 t343 t344 t345 w0 _ ?side1 ?side2 A13.out).mono ?_); (case side1 => repeat (first | (with_reducible first | exact HI0.out | apply IsS74.alloc | apply IsS74.drewN | apply IsS74.drew | apply IsS74.set_1 | apply IsS74.set_2) | exact HI0.out)); (case side2 => repeat (first | (with_reducible first | exact HB.out | apply below_alloc | apply pw_below_drewN | apply below_drew1 | refine below_set ?_ (IsS74.ge HI0.out)) | exact HB.out)); rintro e w23 ⟨rfl, hi, hb, hk⟩; have n0_ := Aside0.mk (KeepBut.trans ZZ9f3a2f hk (.inl rfl)); have n1_ := Aside0.mk (hb); have n2_ := Aside0.mk (hi); clear HK; clear HB; clear HI0; have HK := n0_; have HB := n1_; have HI0 := n2_; clear n0_ n1_ n2_; (try clear hb); (try clear hb2); (try clear hk); (try clear hi))); try go_wp2_with (first | (go_at_call 55; (with_reducible refine (spec_l1Cur_pick.calls g s0_0 s0_1 s0_2 (a1.size : Int) t337 t338 t339 w0 _ ?side1 ?side2 A7.out).mono ?_); (case side1 => repeat (first | (with_reducible first | exact HI0.out | apply IsS74.alloc | apply IsS74.drewN | apply IsS74.drew | apply IsS74.set_1 | apply IsS74.set_2) | exact HI0.out)); (case side2 => repeat (first | (with_reducible first | exact HB.out | apply below_alloc | apply pw_below_drewN | apply below_drew1 | refine below_set ?_ (IsS74.ge HI0.out)) | exact HB.out)); rintro e w21 ⟨rfl, hi, hb, hk⟩; have n0_ := Aside0.mk (KeepBut.trans ZZ9f3a2f hk (.inl rfl)); have n1_ := Aside0.mk (hb); have n2_ := Aside0.mk (hi); clear HK; clear HB; clear HI0; have HK := n0_; have HB := n1_; have HI0 := n2_; clear n0_ n1_ n2_; (try clear hb); (try clear hb2); (try clear hk); (try clear hi)) | (go_at_call 55; (with_reducible refine (spec_l1Cur_pick.calls g s0_0 t338 t339 (a2.size : Int) t340 t341 t342 w0 _ ?side1 ?side2 A8.out).mono ?_); (case side1 => repeat (first | (with_reducible first | exact HI0.out | apply IsS74.alloc | apply IsS74.drewN | apply IsS74.drew | apply IsS74.set_1 | apply IsS74.set_2) | exact HI0.out)); (case side2 => repeat (first | (with_reducible first | exact HB.out | apply below_alloc | apply pw_below_drewN | apply below_drew1 | refine below_set ?_ (IsS74.ge HI0.out)) | exact HB.out)); rintro e w22 ⟨rfl, hi, hb, hk⟩; have n0_ := Aside0.mk (KeepBut.trans ZZ9f3a2f hk (.inl rfl)); have n1_ := Aside0.mk (hb); have n2_ := Aside0.mk (hi); clear HK; clear HB; clear HI0; have HK := n0_; have HB := n1_; have HI0 := n2_; clear n0_ n1_ n2_; (try clear hb); (try clear hb2); (try clear hk); (try clear hi)) | (go_at_call 55; (with_reducible refine (spec_l1Cur_pick.calls g s0_0 t341 t342 3 t343 t344 t345 w0 _ ?side1 ?side2 A13.out).mono ?_); (case side1 => repeat (first | (with_reducible first | exact HI0.out | apply IsS74.alloc | apply IsS74.drewN | apply IsS74.drew | apply IsS74.set_1 | apply IsS74.set_2) | exact HI0.out)); (case side2 => repeat (first | (with_reducible first | exact HB.out | apply below_alloc | apply pw_below_drewN | apply below_drew1 | refine below_set ?_ (IsS74.ge HI0.out)) | exact HB.out)); rintro e w23 ⟨rfl, hi, hb, hk⟩; have n0_ := Aside0.mk (KeepBut.trans ZZ9f3a2f hk (.inl rfl)); have n1_ := Aside0.mk (hb); have n2_ := Aside0.mk (hi); clear HK; clear HB; clear HI0; have HK := n0_; have HB := n1_; have HI0 := n2_; clear n0_ n1_ n2_; (try clear hb); (try clear hb2); (try clear hk); (try clear hi))))
           go_ret
           exact ⟨by first | rfl | (simp [errW_none, errW_some] <;> rfl) | (simp [*, errW_none, errW_some] <;> rfl), by repeat (first | (with_reducible first | exact HI0.out | apply IsS74.alloc | apply IsS74.drewN | apply IsS74.drew | apply IsS74.set_1 | apply IsS74.set_2) | exact HI0.out), by repeat (first | (with_reducible first | exact HB.out | apply below_alloc | apply pw_below_drewN | apply below_drew1 | refine below_set ?_ (IsS74.ge HI0.out)) | exact HB.out), by repeat (first | (with_reducible first | exact HK.out | apply KeepBut.set_ | apply keep_drewN | apply keep_drew | apply keep_alloc) | exact HK.out)⟩
          ·rw [if_neg c20] at H
           exact absurd H (by simp)
         ·rw [if_neg c17] at H
          exact absurd H (by simp)
        ·rw [if_neg c16] at H
         exact absurd H (by simp)
       ·rw [if_neg c15] at H
        exact absurd H (by simp)
      ·rw [if_neg c14] at H
       have c14b0 : (t343 == 0) = false := beq_eq_false_iff_ne.mpr c14
       have c14b1 : (t343 != 0) = true := bne_iff_ne.mpr c14
       by_cases c24 : t343 = 1
       ·rw [if_pos c24] at H
        have c24b0 : (t343 == 1) = true := beq_iff_eq.mpr c24
        have c24b1 : (t343 != 1) = false := bne_eq_false_iff_eq.mpr c24
        clear c24
        by_cases c25 : 0 ≤ t337
        ·rw [if_pos c25] at H
         have c25b0 := eq_true c25
         have c25b1 : decide (0 ≤ t337) = true := decide_eq_true c25
         clear c25
         by_cases c26 : t337 ≤ (a1.size : Int)
         ·rw [if_pos c26] at H
          have c26b0 := eq_true c26
          have c26b1 : decide (t337 ≤ (a1.size : Int)) = true := decide_eq_true c26
          clear c26
          by_cases c27 : (t337 : Int).toNat + 1 ≤ 9223372036854775807
          ·rw [if_pos c27] at H
           have c27b0 := eq_true c27
           have c27b1 : decide ((t337 : Int).toNat + 1 ≤ 9223372036854775807) = true := decide_eq_true c27
           try have c27b2 : (9223372036854775807 < (t337 : Int).toNat + 1) = False := eq_false (Nat.not_lt.2 c27)
           obtain ⟨ji28, hji28⟩ : ∃ j_ : Int, (wrap64 (t337 + 1)) = j_ := ⟨_, rfl⟩
           replace H : (if 0 ≤ (ji28) then (if (ji28) ≤ (a1.size : Int) then (if (t337 : Int).toNat + 1 + (a1.size - ((ji28) : Int).toNat) ≤ 9223372036854775807 then (some (((a1.extract 0 (t337 : Int).toNat) ++ ((a2.extract (t340 : Int).toNat a2.size).extract 0 1)) ++ (a1.extract ((ji28) : Int).toNat a1.size), t344, t345)) else (none)) else (none)) else (none)) = some (r1, r2, r3) := by first | (rw [hji28] at H; exact H) | (simp only [hji28] at H ⊢; exact H)
           (try rw [hji28] at A7)
           (try rw [hji28] at A8)
           (try rw [hji28] at A13)
           have hji28w : (IntKind.i64.wrap (t337 + 1)) = ji28 := (i64_w _).trans hji28
           by_cases c29 : 0 ≤ (ji28)
           ·rw [if_pos c29] at H
            have c29b0 := eq_true c29
            have c29b1 : decide (0 ≤ (ji28)) = true := decide_eq_true c29
            clear c29
            by_cases c30 : (ji28) ≤ (a1.size : Int)
            ·rw [if_pos c30] at H
             have c30b0 := eq_true c30
             have c30b1 : decide ((ji28) ≤ (a1.size : Int)) = true := decide_eq_true c30
             clear c30
             by_cases c31 : (t337 : Int).toNat + 1 + (a1.size - ((ji28) : Int).toNat) ≤ 9223372036854775807
             ·rw [if_pos c31] at H
              have c31b0 := eq_true c31
              have c31b1 : decide ((t337 : Int).toNat + 1 + (a1.size - ((ji28) : Int).toNat) ≤ 9223372036854775807) = true := decide_eq_true c31
              try have c31b2 : (9223372036854775807 < (t337 : Int).toNat + 1 + (a1.size - ((ji28) : Int).toNat)) = False := eq_false (Nat.not_lt.2 c31)
              simp only [Option.some.injEq, Prod.mk.injEq] at H
              obtain ⟨rfl, rfl, rfl⟩ := H
              go_enter Tryd.func61, Tryd.ntmps61
              go_wp2_with (first | (go_at_call 55; (with_reducible refine (spec_l1Cur_pick.calls g s0_0 s0_1 s0_2 (a1.size : Int) t337 t338 t339 w0 _ ?side1 ?side2 A7.out).mono ?_); (case side1 => repeat (first | (with_reducible first | exact HI0.out | apply IsS74.alloc | apply IsS74.drewN | apply IsS74.drew | apply IsS74.set_1 | apply IsS74.set_2) | exact HI0.out)); (case side2 => repeat (first | (with_reducible first | exact HB.out | apply below_alloc | apply pw_below_drewN | apply below_drew1 | refine below_set ?_ (IsS74.ge HI0.out)) | exact HB.out)); rintro e w32 ⟨rfl, hi, hb, hk⟩; have n0_ := Aside0.mk (KeepBut.trans ZZ9f3a2f hk (.inl rfl)); have n1_ := Aside0.mk (hb); have n2_ := Aside0.mk (hi); clear HK; clear HB; clear HI0; have HK := n0_; have HB := n1_; have HI0 := n2_; clear n0_ n1_ n2_; (try clear hb); (try clear hb2); (try clear hk); (try clear hi)) | (go_at_call 55; (with_reducible refine (spec_l1Cur_pick.calls g s0_0 t338 t339 (a2.size : Int) t340 t341 t342 w0 _ ?side1 ?side2 A8.out).mono ?_); (case side1 => repeat (first | (with_reducible first | exact HI0.out | apply IsS74.alloc | apply IsS74.drewN | apply IsS74.drew | apply IsS74.set_1 | apply IsS74.set_2) | exact HI0.out)); (case side2 => repeat (first | (with_reducible first | exact HB.out | apply below_alloc | apply pw_below_drewN | apply below_drew1 | refine below_set ?_ (IsS74.ge HI0.out)) | exact HB.out)); rintro e w33 ⟨rfl, hi, hb, hk⟩; have n0_ := Aside0.mk (KeepBut.trans ZZ9f3a2f hk (.inl rfl)); have n1_ := Aside0.mk (hb); have n2_ := Aside0.mk (hi); clear HK; clear HB; clear HI0; have HK := n0_; have HB := n1_; have HI0 := n2_; clear n0_ n1_ n2_; (try clear hb); (try clear hb2); (try clear hk); (try clear hi)) | (go_at_call 55; (with_reducible refine (spec_l1Cur_pick.calls g s0_0 t341 t342 3 t343 t344 t345 w0 _ ?side1 ?side2 A13.out).mono ?_); (case side1 => repeat (first | (with_reducible first | exact HI0.out | apply IsS74.alloc | apply IsS74.drewN | apply IsS74.drew | apply IsS74.set_1 | apply IsS74.set_2) | exact HI0.out)); (case side2 => repeat (first | (with_reducible first | exact HB.out | apply below_alloc | apply pw_below_drewN | apply below_drew1 | refine below_set ?_ (IsS74.ge HI0.out)) | exact HB.out)); rintro e w34 ⟨rfl, hi, hb, hk⟩; have n0_ := Aside0.mk (KeepBut.trans ZZ9f3a2f hk (.inl rfl)); have n1_ := Aside0.mk (hb); have n2_ := Aside0.mk (hi); clear HK; clear HB; clear HI0; have HK := n0_; have HB := n1_; have HI0 := n2_; clear n0_ n1_ n2_; (try clear hb); (try clear hb2); (try clear hk); (try clear hi)))
              repeat (go_quiet (first | (go_at_call 55; (with_reducible refine (spec_l1Cur_pick.calls g s0_0 s0_1 s0_2 (a1.size : Int) t337 t338 t339 w0 _ ?side1 ?side2 A7.out).mono ?_); (case side1 => repeat (first | (with_reducible first | exact HI0.out | apply IsS74.alloc | apply IsS74.drewN | apply IsS74.drew | apply IsS74.set_1 | apply IsS74.set_2) | exact HI0.out)); (case side2 => repeat (first | (with_reducible first | exact HB.out | apply below_alloc | apply pw_below_drewN | apply below_drew1 | refine below_set ?_ (IsS74.ge HI0.out)) | exact HB.out)); rintro e w32 ⟨rfl, hi, hb, hk⟩; have n0_ := Aside0.mk (KeepBut.trans ZZ9f3a2f hk (.inl rfl)); have n1_ := Aside0.mk (hb); have n2_ := Aside0.mk (hi); clear HK; clear HB; clear HI0; have HK := n0_; have HB := n1_; have HI0 := n2_; clear n0_ n1_ n2_; (try clear hb); (try clear hb2); (try clear hk); (try clear hi)) | (go_at_call 55; (with_reducible refine (spec_l1Cur_pick.calls g s0_0 t338 t339 (a2.size : Int) t340 t341 t342 w0 _ ?side1 ?side2 A8.out).mono ?_); (case side1 => repeat (first | (with_reducible first | exact HI0.out | apply IsS74.alloc | apply IsS74.drewN | apply IsS74.drew | apply IsS74.set_1 | apply IsS74.set_2) | exact HI0.out)); (case side2 => repeat (first | (with_reducible first | exact HB.out | apply below_alloc | apply pw_below_drewN | apply below_drew1 | refine below_set ?_ (IsS74.ge HI0.out)) | exact HB.out)); rintro e w33 ⟨rfl, hi, hb, hk⟩; have n0_ := Aside0.mk (KeepBut.trans ZZ9f3a2f hk (.inl rfl)); have n1_ := Aside0.mk (hb); have n2_ := Aside0.mk (hi); clear HK; clear HB; clear HI0; have HK := n0_; have HB := n1_; have HI0 := n2_; clear n0_ n1_ n2_; (try clear hb); (try clear hb2); (try clear hk); (try clear hi)) | (go_at_call 55; (with_reducible refine (spec_l1Cur_pick.calls g s0_0 t341 t342 3 t343 t344 t345 w0 _ ?side1 ?side2 A13.out).mono ?_); (case side1 => repeat (first | (with_reducible first | exact HI0.out | apply IsS74.alloc | apply IsS74.drewN | apply IsS74.drew | apply IsS74.set_1 | apply IsS74.set_2) | exact HI0.out)); (case side2 => repeat (first | (with_reducible first | exact HB.out | apply below_alloc | apply pw_below_drewN | apply below_drew1 | refine below_set ?_ (IsS74.ge HI0.out)) | exact HB.out)); rintro e w34 ⟨rfl, hi, hb, hk⟩; have n0_ := Aside0.mk (KeepBut.trans ZZ9f3a2f hk (.inl rfl)); have n1_ := Aside0.mk (hb); have n2_ := Aside0.mk (hi); clear HK; clear HB; clear HI0; have HK := n0_; have HB := n1_; have HI0 := n2_; clear n0_ n1_ n2_; (try clear hb); (try clear hb2); (try clear hk); (try clear hi))); try go_wp2_with (first | (go_at_call 55; (with_reducible refine (spec_l1Cur_pick.calls g s0_0 s0_1 s0_2 (a1.size : Int) t337 t338 t339 w0 _ ?side1 ?side2 A7.out).mono ?_); (case side1 => repeat (first | (with_reducible first | exact HI0.out | apply IsS74.alloc | apply IsS74.drewN | apply IsS74.drew | apply IsS74.set_1 | apply IsS74.set_2) | exact HI0.out)); (case side2 => repeat (first | (with_reducible first | exact HB.out | apply below_alloc | apply pw_below_drewN | apply below_drew1 | refine below_set ?_ (IsS74.ge HI0.out)) | exact HB.out)); rintro e w32 ⟨rfl, hi, hb, hk⟩; have n0_ := Aside0.mk (KeepBut.trans ZZ9f3a2f hk (.inl rfl)); have n1_ := Aside0.mk (hb); have n2_ := Aside0.mk (hi); clear HK; clear HB; clear HI0; have HK := n0_; have HB := n1_; have HI0 := n2_; clear n0_ n1_ n2_; (try clear hb); (try clear hb2); (try clear hk); (try clear hi)) | (go_at_call 55; (with_reducible refine (spec_l1Cur_pick.calls g s0_0 t338 t339 (a2.size : Int) t340 t341 t342 w0 _ ?side1 ?side2 A8.out).mono ?_); (case side1 => repeat (first | (with_reducible first | exact HI0.out | apply IsS74.alloc | apply IsS74.drewN | apply IsS74.drew | apply IsS74.set_1 | apply IsS74.set_2) | exact HI0.out)); (case side2 => repeat (first | (with_reducible first | exact HB.out | apply below_alloc | apply pw_below_drewN | apply below_drew1 | refine below_set ?_ (IsS74.ge HI0.out)) | exact HB.out)); rintro e w33 ⟨rfl, hi, hb, hk⟩; have n0_ := Aside0.mk (KeepBut.trans ZZ9f3a2f hk (.inl rfl)); have n1_ := Aside0.mk (hb); have n2_ := Aside0.mk (hi); clear HK; clear HB; clear HI0; have HK := n0_; have HB := n1_; have HI0 := n2_; clear n0_ n1_ n2_; (try clear hb); (try clear hb2); (try clear hk); (try clear hi)) | (go_at_call 55; (with_reducible refine (spec_l1Cur_pick.calls g s0_0 t341 t342 3 t343 t344 t345 w0 _ ?side1 ?side2 A13.out).mono ?_); (case side1 => repeat (first | (with_reducible first | exact HI0.out | apply IsS74.alloc | apply IsS74.drewN | apply IsS74.drew | apply IsS74.set_1 | apply IsS74.set_2) | exact HI0.out)); (case side2 => repeat (first | (with_reducible first | exact HB.out | apply below_alloc | apply pw_below_drewN | apply below_drew1 | refine below_set ?_ (IsS74.ge HI0.out)) | exact HB.out)); rintro e w34 ⟨rfl, hi, hb, hk⟩; have n0_ := Aside0.mk (KeepBut.trans ZZ9f3a2f hk (.inl rfl)); have n1_ := Aside0.mk (hb); have n2_ := Aside0.mk (hi); clear HK; clear HB; clear HI0; have HK := n0_; have HB := n1_; have HI0 := n2_; clear n0_ n1_ n2_; (try clear hb); (try clear hb2); (try clear hk); (try clear hi))))
              go_ret
              exact ⟨by first | rfl | (simp [errW_none, errW_some] <;> rfl) | (simp only [← hji28]; first | rfl | (simp [errW_none, errW_some] <;> rfl)) | (simp [*, errW_none, errW_some] <;> rfl), by repeat (first | (with_reducible first | exact HI0.out | apply IsS74.alloc | apply IsS74.drewN | apply IsS74.drew | apply IsS74.set_1 | apply IsS74.set_2) | exact HI0.out), by repeat (first | (with_reducible first | exact HB.out | apply below_alloc | apply pw_below_drewN | apply below_drew1 | refine below_set ?_ (IsS74.ge HI0.out)) | exact HB.out), by repeat (first | (with_reducible first | exact HK.out | apply KeepBut.set_ | apply keep_drewN | apply keep_drew | apply keep_alloc) | exact HK.out)⟩
             ·rw [if_neg c31] at H
              exact absurd H (by simp)
            ·rw [if_neg c30] at H
             exact absurd H (by simp)
           ·rw [if_neg c29] at H
            exact absurd H (by simp)
          ·rw [if_neg c27] at H
           exact absurd H (by simp)
         ·rw [if_neg c26] at H
          exact absurd H (by simp)
        ·rw [if_neg c25] at H
         exact absurd H (by simp)
       ·rw [if_neg c24] at H
        have c24b0 : (t343 == 1) = false := beq_eq_false_iff_ne.mpr c24
        have c24b1 : (t343 != 1) = true := bne_iff_ne.mpr c24
        by_cases c35 : 0 ≤ t337
        ·rw [if_pos c35] at H
         have c35b0 := eq_true c35
         have c35b1 : decide (0 ≤ t337) = true := decide_eq_true c35
         clear c35
         by_cases c36 : t337 ≤ (a1.size : Int)
         ·rw [if_pos c36] at H
          have c36b0 := eq_true c36
          have c36b1 : decide (t337 ≤ (a1.size : Int)) = true := decide_eq_true c36
          clear c36
          obtain ⟨ji37, hji37⟩ : ∃ j_ : Int, (wrap64 (t337 + 1)) = j_ := ⟨_, rfl⟩
          replace H : (if 0 ≤ (ji37) then (if (ji37) ≤ (a1.size : Int) then (if (t337 : Int).toNat + (a1.size - ((ji37) : Int).toNat) ≤ 9223372036854775807 then (some ((a1.extract 0 (t337 : Int).toNat) ++ (a1.extract ((ji37) : Int).toNat a1.size), t344, t345)) else (none)) else (none)) else (none)) = some (r1, r2, r3) := by first | (rw [hji37] at H; exact H) | (simp only [hji37] at H ⊢; exact H)
          (try rw [hji37] at A7)
          (try rw [hji37] at A8)
          (try rw [hji37] at A13)
          have hji37w : (IntKind.i64.wrap (t337 + 1)) = ji37 := (i64_w _).trans hji37
          by_cases c38 : 0 ≤ (ji37)
          ·rw [if_pos c38] at H
           have c38b0 := eq_true c38
           have c38b1 : decide (0 ≤ (ji37)) = true := decide_eq_true c38
           clear c38
           by_cases c39 : (ji37) ≤ (a1.size : Int)
           ·rw [if_pos c39] at H
            have c39b0 := eq_true c39
            have c39b1 : decide ((ji37) ≤ (a1.size : Int)) = true := decide_eq_true c39
            clear c39
            by_cases c40 : (t337 : Int).toNat + (a1.size - ((ji37) : Int).toNat) ≤ 9223372036854775807
            ·rw [if_pos c40] at H
             have c40b0 := eq_true c40
             have c40b1 : decide ((t337 : Int).toNat + (a1.size - ((ji37) : Int).toNat) ≤ 9223372036854775807) = true := decide_eq_true c40
             try have c40b2 : (9223372036854775807 < (t337 : Int).toNat + (a1.size - ((ji37) : Int).toNat)) = False := eq_false (Nat.not_lt.2 c40)
             simp only [Option.some.injEq, Prod.mk.injEq] at H
             obtain ⟨rfl, rfl, rfl⟩ := H
             go_enter Tryd.func61, Tryd.ntmps61
             go_wp2_with (first | (go_at_call 55; (with_reducible refine (spec_l1Cur_pick.calls g s0_0 s0_1 s0_2 (a1.size : Int) t337 t338 t339 w0 _ ?side1 ?side2 A7.out).mono ?_); (case side1 => repeat (first | (with_reducible first | exact HI0.out | apply IsS74.alloc | apply IsS74.drewN | apply IsS74.drew | apply IsS74.set_1 | apply IsS74.set_2) | exact HI0.out)); (case side2 => repeat (first | (with_reducible first | exact HB.out | apply below_alloc | apply pw_below_drewN | apply below_drew1 | refine below_set ?_ (IsS74.ge HI0.out)) | exact HB.out)); rintro e w41 ⟨rfl, hi, hb, hk⟩; have n0_ := Aside0.mk (KeepBut.trans ZZ9f3a2f hk (.inl rfl)); have n1_ := Aside0.mk (hb); have n2_ := Aside0.mk (hi); clear HK; clear HB; clear HI0; have HK := n0_; have HB := n1_; have HI0 := n2_; clear n0_ n1_ n2_; (try clear hb); (try clear hb2); (try clear hk); (try clear hi)) | (go_at_call 55; (with_reducible refine (spec_l1Cur_pick.calls g s0_0 t338 t339 (a2.size : Int) t340 t341 t342 w0 _ ?side1 ?side2 A8.out).mono ?_); (case side1 => repeat (first | (with_reducible first | exact HI0.out | apply IsS74.alloc | apply IsS74.drewN | apply IsS74.drew | apply IsS74.set_1 | apply IsS74.set_2) | exact HI0.out)); (case side2 => repeat (first | (with_reducible first | exact HB.out | apply below_alloc | apply pw_below_drewN | apply below_drew1 | refine below_set ?_ (IsS74.ge HI0.out)) | exact HB.out)); rintro e w42 ⟨rfl, hi, hb, hk⟩; have n0_ := Aside0.mk (KeepBut.trans ZZ9f3a2f hk (.inl rfl)); have n1_ := Aside0.mk (hb); have n2_ := Aside0.mk (hi); clear HK; clear HB; clear HI0; have HK := n0_; have HB := n1_; have HI0 := n2_; clear n0_ n1_ n2_; (try clear hb); (try clear hb2); (try clear hk); (try clear hi)) | (go_at_call 55; (with_reducible refine (spec_l1Cur_pick.calls g s0_0 t341 t342 3 t343 t344 t345 w0 _ ?side1 ?side2 A13.out).mono ?_); (case side1 => repeat (first | (with_reducible first | exact HI0.out | apply IsS74.alloc | apply IsS74.drewN | apply IsS74.drew | apply IsS74.set_1 | apply IsS74.set_2) | exact HI0.out)); (case side2 => repeat (first | (with_reducible first | exact HB.out | apply below_alloc | apply pw_below_drewN | apply below_drew1 | refine below_set ?_ (IsS74.ge HI0.out)) | exact HB.out)); rintro e w43 ⟨rfl, hi, hb, hk⟩; have n0_ := Aside0.mk (KeepBut.trans ZZ9f3a2f hk (.inl rfl)); have n1_ := Aside0.mk (hb); have n2_ := Aside0.mk (hi); clear HK; clear HB; clear HI0; have HK := n0_; have HB := n1_; have HI0 := n2_; clear n0_ n1_ n2_; (try clear hb); (try clear hb2); (try clear hk); (try clear hi)))
             repeat (go_quiet (first | (go_at_call 55; (with_reducible refine (spec_l1Cur_pick.calls g s0_0 s0_1 s0_2 (a1.size : Int) t337 t338 t339 w0 _ ?side1 ?side2 A7.out).mono ?_); (case side1 => repeat (first | (with_reducible first | exact HI0.out | apply IsS74.alloc | apply IsS74.drewN | apply IsS74.drew | apply IsS74.set_1 | apply IsS74.set_2) | exact HI0.out)); (case side2 => repeat (first | (with_reducible first | exact HB.out | apply below_alloc | apply pw_below_drewN | apply below_drew1 | refine below_set ?_ (IsS74.ge HI0.out)) | exact HB.out)); rintro e w41 ⟨rfl, hi, hb, hk⟩; have n0_ := Aside0.mk (KeepBut.trans ZZ9f3a2f hk (.inl rfl)); have n1_ := Aside0.mk (hb); have n2_ := Aside0.mk (hi); clear HK; clear HB; clear HI0; have HK := n0_; have HB := n1_; have HI0 := n2_; clear n0_ n1_ n2_; (try clear hb); (try clear hb2); (try clear hk); (try clear hi)) | (go_at_call 55; (with_reducible refine (spec_l1Cur_pick.calls g s0_0 t338 t339 (a2.size : Int) t340 t341 t342 w0 _ ?side1 ?side2 A8.out).mono ?_); (case side1 => repeat (first | (with_reducible first | exact HI0.out | apply IsS74.alloc | apply IsS74.drewN | apply IsS74.drew | apply IsS74.set_1 | apply IsS74.set_2) | exact HI0.out)); (case side2 => repeat (first | (with_reducible first | exact HB.out | apply below_alloc | apply pw_below_drewN | apply below_drew1 | refine below_set ?_ (IsS74.ge HI0.out)) | exact HB.out)); rintro e w42 ⟨rfl, hi, hb, hk⟩; have n0_ := Aside0.mk (KeepBut.trans ZZ9f3a2f hk (.inl rfl)); have n1_ := Aside0.mk (hb); have n2_ := Aside0.mk (hi); clear HK; clear HB; clear HI0; have HK := n0_; have HB := n1_; have HI0 := n2_; clear n0_ n1_ n2_; (try clear hb); (try clear hb2); (try clear hk); (try clear hi)) | (go_at_call 55; (with_reducible refine (spec_l1Cur_pick.calls g s0_0 t341 t342 3 t343 t344 t345 w0 _ ?side1 ?side2 A13.out).mono ?_); (case side1 => repeat (first | (with_reducible first | exact HI0.out | apply IsS74.alloc | apply IsS74.drewN | apply IsS74.drew | apply IsS74.set_1 | apply IsS74.set_2) | exact HI0.out)); (case side2 => repeat (first | (with_reducible first | exact HB.out | apply below_alloc | apply pw_below_drewN | apply below_drew1 | refine below_set ?_ (IsS74.ge HI0.out)) | exact HB.out)); rintro e w43 ⟨rfl, hi, hb, hk⟩; have n0_ := Aside0.mk (KeepBut.trans ZZ9f3a2f hk (.inl rfl)); have n1_ := Aside0.mk (hb); have n2_ := Aside0.mk (hi); clear HK; clear HB; clear HI0; have HK := n0_; have HB := n1_; have HI0 := n2_; clear n0_ n1_ n2_; (try clear hb); (try clear hb2); (try clear hk); (try clear hi))); try go_wp2_with (first | (go_at_call 55; (with_reducible refine (spec_l1Cur_pick.calls g s0_0 s0_1 s0_2 (a1.size : Int) t337 t338 t339 w0 _ ?side1 ?side2 A7.out).mono ?_); (case side1 => repeat (first | (with_reducible first | exact HI0.out | apply IsS74.alloc | apply IsS74.drewN | apply IsS74.drew | apply IsS74.set_1 | apply IsS74.set_2) | exact HI0.out)); (case side2 => repeat (first | (with_reducible first | exact HB.out | apply below_alloc | apply pw_below_drewN | apply below_drew1 | refine below_set ?_ (IsS74.ge HI0.out)) | exact HB.out)); rintro e w41 ⟨rfl, hi, hb, hk⟩; have n0_ := Aside0.mk (KeepBut.trans ZZ9f3a2f hk (.inl rfl)); have n1_ := Aside0.mk (hb); have n2_ := Aside0.mk (hi); clear HK; clear HB; clear HI0; have HK := n0_; have HB := n1_; have HI0 := n2_; clear n0_ n1_ n2_; (try clear hb); (try clear hb2); (try clear hk); (try clear hi)) | (go_at_call 55; (with_reducible refine (spec_l1Cur_pick.calls g s0_0 t338 t339 (a2.size : Int) t340 t341 t342 w0 _ ?side1 ?side2 A8.out).mono ?_); (case side1 => repeat (first | (with_reducible first | exact HI0.out | apply IsS74.alloc | apply IsS74.drewN | apply IsS74.drew | apply IsS74.set_1 | apply IsS74.set_2) | exact HI0.out)); (case side2 => repeat (first | (with_reducible first | exact HB.out | apply below_alloc | apply pw_below_drewN | apply below_drew1 | refine below_set ?_ (IsS74.ge HI0.out)) | exact HB.out)); rintro e w42 ⟨rfl, hi, hb, hk⟩; have n0_ := Aside0.mk (KeepBut.trans ZZ9f3a2f hk (.inl rfl)); have n1_ := Aside0.mk (hb); have n2_ := Aside0.mk (hi); clear HK; clear HB; clear HI0; have HK := n0_; have HB := n1_; have HI0 := n2_; clear n0_ n1_ n2_; (try clear hb); (try clear hb2); (try clear hk); (try clear hi)) | (go_at_call 55; (with_reducible refine (spec_l1Cur_pick.calls g s0_0 t341 t342 3 t343 t344 t345 w0 _ ?side1 ?side2 A13.out).mono ?_); (case side1 => repeat (first | (with_reducible first | exact HI0.out | apply IsS74.alloc | apply IsS74.drewN | apply IsS74.drew | apply IsS74.set_1 | apply IsS74.set_2) | exact HI0.out)); (case side2 => repeat (first | (with_reducible first | exact HB.out | apply below_alloc | apply pw_below_drewN | apply below_drew1 | refine below_set ?_ (IsS74.ge HI0.out)) | exact HB.out)); rintro e w43 ⟨rfl, hi, hb, hk⟩; have n0_ := Aside0.mk (KeepBut.trans ZZ9f3a2f hk (.inl rfl)); have n1_ := Aside0.mk (hb); have n2_ := Aside0.mk (hi); clear HK; clear HB; clear HI0; have HK := n0_; have HB := n1_; have HI0 := n2_; clear n0_ n1_ n2_; (try clear hb); (try clear hb2); (try clear hk); (try clear hi))))
             go_ret
             exact ⟨by first | rfl | (simp [errW_none, errW_some] <;> rfl) | (simp only [← hji37]; first | rfl | (simp [errW_none, errW_some] <;> rfl)) | (simp [*, errW_none, errW_some] <;> rfl), by repeat (first | (with_reducible first | exact HI0.out | apply IsS74.alloc | apply IsS74.drewN | apply IsS74.drew | apply IsS74.set_1 | apply IsS74.set_2) | exact HI0.out), by repeat (first | (with_reducible first | exact HB.out | apply below_alloc | apply pw_below_drewN | apply below_drew1 | refine below_set ?_ (IsS74.ge HI0.out)) | exact HB.out), by repeat (first | (with_reducible first | exact HK.out | apply KeepBut.set_ | apply keep_drewN | apply keep_drew | apply keep_alloc) | exact HK.out)⟩
            ·rw [if_neg c40] at H
             exact absurd H (by simp)
           ·rw [if_neg c39] at H
            exact absurd H (by simp)
          ·rw [if_neg c38] at H
           exact absurd H (by simp)
         ·rw [if_neg c36] at H
          exact absurd H (by simp)
        ·rw [if_neg c35] at H
         exact absurd H (by simp)
     ·rw [if_neg c12] at H
      exact absurd H (by simp)
    ·rw [if_neg c11] at H
     exact absurd H (by simp)
   ·rw [if_neg c10] at H
    exact absurd H (by simp)
  ·rw [if_neg c9] at H
   exact absurd H (by simp)
/-! ### spec_DrawRecoverLog: function 40 -/
def spec_DrawRecoverLog.j0 : Nat → ByteArray → List Int → Int → Int → Option (ByteArray)
 | 0, _, _, _, _ => none
 | k + 1, x5, x347000, x347001, x347002 => (spec_l1Cur_one.f x347000 x347001 x347002 40).bind fun bt370 => (if bt370.1 = true then ((spec_l1Cur_pick.f x347000 bt370.2.1 bt370.2.2 2).bind fun bt373 => (if 0 ≤ (wrap64 (30000 + bt373.1)) then (if (wrap64 (30000 + bt373.1) : Int).toNat ≤ 281474976710656 then (some (strOfNums (List.replicate (wrap64 (30000 + bt373.1) : Int).toNat 0))) else (none)) else (none))) else (some x5))
def spec_DrawRecoverLog.f (k : Nat) (l0 : List Int) : Option (ByteArray) := (spec_l1Cur_log.f k l0 0 0).bind fun bt347 => (if bt347.1.size + bt347.2.1.size ≤ 9223372036854775807 then ((spec_l1Cur_pick.f l0 bt347.2.2.2.1 bt347.2.2.2.2 4).bind fun bt353 => (if bt353.1 = 0 then ((spec_l1Cur_spoilt.f l0 bt353.2.1 bt353.2.2 (bt347.1 ++ bt347.2.1) (⟨#[35, 64, 10, 48, 49]⟩ : ByteArray)).bind fun bt356 => (spec_DrawRecoverLog.j0 k bt356.1 l0 bt356.2.1 bt356.2.2)) else (if bt353.1 = 1 then ((spec_l1Cur_pick.f l0 bt353.2.1 bt353.2.2 (wrap64 (((bt347.1.size : Int) + (bt347.2.1.size : Int)) + 1))).bind fun bt359 => (if 0 ≤ bt359.1 then (if bt359.1 ≤ ((bt347.1.size : Int) + (bt347.2.1.size : Int)) then (spec_DrawRecoverLog.j0 k ((bt347.1 ++ bt347.2.1).extract 0 (bt359.1 : Int).toNat) l0 bt359.2.1 bt359.2.2) else (none)) else (none))) else (if bt353.1 = 2 then ((spec_l1Cur_pick.f l0 bt353.2.1 bt353.2.2 4).bind fun bt362 => ((spec_l1Cur_logRecord.f l0 bt362.2.1 bt362.2.2).bind fun bt365 => ((spec_l27Line.f k bt362.1 bt365.1 bt365.2.1).bind fun t369 => (if bt347.1.size + bt347.2.1.size + t369.size ≤ 9223372036854775807 then (spec_DrawRecoverLog.j0 k ((bt347.1 ++ bt347.2.1) ++ t369) l0 bt365.2.2.1 bt365.2.2.2) else (none))))) else (spec_DrawRecoverLog.j0 k (bt347.1 ++ bt347.2.1) l0 bt353.2.1 bt353.2.2))))) else (none))
theorem spec_DrawRecoverLog.mono_l : ∀ k, (∀ y0 y1 y2 y3, LeO (spec_DrawRecoverLog.j0 k y0 y1 y2 y3) (spec_DrawRecoverLog.j0 (k + 1) y0 y1 y2 y3))
 | 0 => fun _ _ _ _ r h => by simp [spec_DrawRecoverLog.j0] at h
 | k + 1 => by
  have ih0 := spec_DrawRecoverLog.mono_l k
  ·intro y0 y1 y2 y3
   unfold spec_DrawRecoverLog.j0
   repeat' first
   | (with_reducible exact ih0 _ _ _ _)
   | (with_reducible exact spec_l1Cur_log.mono _ _ _ _)
   | (with_reducible exact spec_l27Line.mono _ _ _ _)
   | (with_reducible exact LeO.refl _)
   | (with_reducible exact LeO.none _)
   | (with_reducible refine LeO.ite ?_ ?_)
   | (with_reducible refine LeO.bind ?_ (fun _ => ?_))
   | exact ih0 _ _ _ _
   | exact spec_l1Cur_log.mono _ _ _ _
   | exact spec_l27Line.mono _ _ _ _
   | exact LeO.none _
   | refine LeO.ite ?_ ?_
   | refine LeO.bind ?_ (fun _ => ?_)
theorem spec_DrawRecoverLog.mono : ∀ a0 k, LeO (spec_DrawRecoverLog.f k a0) (spec_DrawRecoverLog.f (k + 1) a0) := by
 intro a0 k
 have ih0 := spec_DrawRecoverLog.mono_l k
 unfold spec_DrawRecoverLog.f
 repeat' first
  | (with_reducible exact ih0 _ _ _ _)
  | (with_reducible exact spec_l1Cur_log.mono _ _ _ _)
  | (with_reducible exact spec_l27Line.mono _ _ _ _)
  | (with_reducible exact LeO.refl _)
  | (with_reducible exact LeO.none _)
  | (with_reducible refine LeO.ite ?_ ?_)
  | (with_reducible refine LeO.bind ?_ (fun _ => ?_))
  | exact ih0 _ _ _ _
  | exact spec_l1Cur_log.mono _ _ _ _
  | exact spec_l27Line.mono _ _ _ _
  | exact LeO.none _
  | refine LeO.ite ?_ ?_
  | refine LeO.bind ?_ (fun _ => ?_)
set_option maxHeartbeats 8000000 in
set_option maxRecDepth 100000 in
theorem spec_DrawRecoverLog.calls (k : Nat) (A0 : Option Addr) (c0 : Nat) (l0 : List Int) (r : ByteArray) (w : World) (hr0 : Kd.C (Kd.int .u8) w A0 l0.length l0) (hc0 : l0.length ≤ c0) (h : spec_DrawRecoverLog.f k l0 = some r) :
 Calls Tryd.prog 40 #[.slice A0 l0.length c0] w fun e w' => e = .returned (.string r) ∧ Below w.heap.size w w' := by
 have hu74 := Tryd.underlying74
 have hu31 := Tryd.underlying31
 have HR0 := Aside0.mk hr0
 have HC0 := Aside0.mk hc0
 clear hr0 hc0
 have HB := Aside0.mk (Below.refl w.heap.size w)
 have H : ((spec_l1Cur_log.f k l0 0 0).bind fun bt347 => (if bt347.1.size + bt347.2.1.size ≤ 9223372036854775807 then ((spec_l1Cur_pick.f l0 bt347.2.2.2.1 bt347.2.2.2.2 4).bind fun bt353 => (if bt353.1 = 0 then ((spec_l1Cur_spoilt.f l0 bt353.2.1 bt353.2.2 (bt347.1 ++ bt347.2.1) (⟨#[35, 64, 10, 48, 49]⟩ : ByteArray)).bind fun bt356 => (spec_DrawRecoverLog.j0 k bt356.1 l0 bt356.2.1 bt356.2.2)) else (if bt353.1 = 1 then ((spec_l1Cur_pick.f l0 bt353.2.1 bt353.2.2 (wrap64 (((bt347.1.size : Int) + (bt347.2.1.size : Int)) + 1))).bind fun bt359 => (if 0 ≤ bt359.1 then (if bt359.1 ≤ ((bt347.1.size : Int) + (bt347.2.1.size : Int)) then (spec_DrawRecoverLog.j0 k ((bt347.1 ++ bt347.2.1).extract 0 (bt359.1 : Int).toNat) l0 bt359.2.1 bt359.2.2) else (none)) else (none))) else (if bt353.1 = 2 then ((spec_l1Cur_pick.f l0 bt353.2.1 bt353.2.2 4).bind fun bt362 => ((spec_l1Cur_logRecord.f l0 bt362.2.1 bt362.2.2).bind fun bt365 => ((spec_l27Line.f k bt362.1 bt365.1 bt365.2.1).bind fun t369 => (if bt347.1.size + bt347.2.1.size + t369.size ≤ 9223372036854775807 then (spec_DrawRecoverLog.j0 k ((bt347.1 ++ bt347.2.1) ++ t369) l0 bt365.2.2.1 bt365.2.2.2) else (none))))) else (spec_DrawRecoverLog.j0 k (bt347.1 ++ bt347.2.1) l0 bt353.2.1 bt353.2.2))))) else (none))) = some r := h
 clear h
 replace H := Option.bind_eq_some_iff.mp H
 obtain ⟨⟨t347, t348, t349, t350, t351⟩, A20, H⟩ := H
 replace H : (if t347.size + t348.size ≤ 9223372036854775807 then ((spec_l1Cur_pick.f l0 t350 t351 4).bind fun bt353 => (if bt353.1 = 0 then ((spec_l1Cur_spoilt.f l0 bt353.2.1 bt353.2.2 (t347 ++ t348) (⟨#[35, 64, 10, 48, 49]⟩ : ByteArray)).bind fun bt356 => (spec_DrawRecoverLog.j0 k bt356.1 l0 bt356.2.1 bt356.2.2)) else (if bt353.1 = 1 then ((spec_l1Cur_pick.f l0 bt353.2.1 bt353.2.2 (wrap64 (((t347.size : Int) + (t348.size : Int)) + 1))).bind fun bt359 => (if 0 ≤ bt359.1 then (if bt359.1 ≤ ((t347.size : Int) + (t348.size : Int)) then (spec_DrawRecoverLog.j0 k ((t347 ++ t348).extract 0 (bt359.1 : Int).toNat) l0 bt359.2.1 bt359.2.2) else (none)) else (none))) else (if bt353.1 = 2 then ((spec_l1Cur_pick.f l0 bt353.2.1 bt353.2.2 4).bind fun bt362 => ((spec_l1Cur_logRecord.f l0 bt362.2.1 bt362.2.2).bind fun bt365 => ((spec_l27Line.f k bt362.1 bt365.1 bt365.2.1).bind fun t369 => (if t347.size + t348.size + t369.size ≤ 9223372036854775807 then (spec_DrawRecoverLog.j0 k ((t347 ++ t348) ++ t369) l0 bt365.2.2.1 bt365.2.2.2) else (none))))) else (spec_DrawRecoverLog.j0 k (t347 ++ t348) l0 bt353.2.1 bt353.2.2))))) else (none)) = some r := H
 have A2 := Aside0.mk A20
 clear A20
 by_cases c3 : t347.size + t348.size ≤ 9223372036854775807
 ·rw [if_pos c3] at H
  have c3b0 := eq_true c3
  have c3b1 : decide (t347.size + t348.size ≤ 9223372036854775807) = true := decide_eq_true c3
  try have c3b2 : (9223372036854775807 < t347.size + t348.size) = False := eq_false (Nat.not_lt.2 c3)
  replace H := Option.bind_eq_some_iff.mp H
  obtain ⟨⟨t353, t354, t355⟩, A40, H⟩ := H
  replace H : (if t353 = 0 then ((spec_l1Cur_spoilt.f l0 t354 t355 (t347 ++ t348) (⟨#[35, 64, 10, 48, 49]⟩ : ByteArray)).bind fun bt356 => (spec_DrawRecoverLog.j0 k bt356.1 l0 bt356.2.1 bt356.2.2)) else (if t353 = 1 then ((spec_l1Cur_pick.f l0 t354 t355 (wrap64 (((t347.size : Int) + (t348.size : Int)) + 1))).bind fun bt359 => (if 0 ≤ bt359.1 then (if bt359.1 ≤ ((t347.size : Int) + (t348.size : Int)) then (spec_DrawRecoverLog.j0 k ((t347 ++ t348).extract 0 (bt359.1 : Int).toNat) l0 bt359.2.1 bt359.2.2) else (none)) else (none))) else (if t353 = 2 then ((spec_l1Cur_pick.f l0 t354 t355 4).bind fun bt362 => ((spec_l1Cur_logRecord.f l0 bt362.2.1 bt362.2.2).bind fun bt365 => ((spec_l27Line.f k bt362.1 bt365.1 bt365.2.1).bind fun t369 => (if t347.size + t348.size + t369.size ≤ 9223372036854775807 then (spec_DrawRecoverLog.j0 k ((t347 ++ t348) ++ t369) l0 bt365.2.2.1 bt365.2.2.2) else (none))))) else (spec_DrawRecoverLog.j0 k (t347 ++ t348) l0 t354 t355)))) = some r := H
  have A4 := Aside0.mk A40
  clear A40
  have HC5 := Aside0.mk H
  clear H
  go_enter Tryd.func40, Tryd.ntmps40
  go_upto_block 0 with (first | ((with_reducible refine gate_dst (N := 8) rfl ?_); refine box_event ?hg (N := 8) ?hd (cs := #[.slice A0 l0.length c0, .int .i64 0, .int .u64 0]) (t := 74) ?hr ?_; (case hd => rfl); (case hg => rfl); (case hr => first | (go_simp; done) | (go_simp; rfl)); intro gb346 hg w6 hbox hb; have n0_ := Aside0.mk (below_step ZZ605003 hb); have n1_ := Aside0.mk (hbox); have n2_ := Aside0.mk ((by rw [hg]; exact (below_size ZZ605003) : w.heap.size ≤ gb346)); have n3_ := Aside0.mk ((by rw [hg]; exact (below_size ZZ605003) : w.heap.size ≤ gb346)); clear HB; have HB := n0_; have BK346 := n1_; have GW346 := n2_; have GE346 := n3_; clear n0_ n1_ n2_ n3_; clear hb hbox hg; have HI346 := Aside0.mk (show IsS74 w _ gb346 l0 0 0 from ⟨_, _, BK346.out, GE346.out, HR0.out⟩); clear BK346) | ((with_reducible refine gate_callee (f := 60) rfl ?_); refine goesL_ (some 10) rfl rfl Tryd.func60 (by kernel_rfl) rfl #[.pointer (some ⟨gb346, 0, none⟩)] rfl ZZ19826e ?_; (with_reducible refine (spec_l1Cur_log.calls k gb346 l0 0 0 t347 t348 t349 t350 t351 w _ ?side1 ?side2 A2.out).mono ?_); (case side1 => repeat (first | (with_reducible first | exact HI346.out | apply IsS74.alloc | apply IsS74.drewN | apply IsS74.drew | apply IsS74.set_1 | apply IsS74.set_2) | exact HI346.out)); (case side2 => repeat (first | (with_reducible first | exact HB.out | apply below_alloc | apply pw_below_drewN | apply below_drew1 | refine below_set ?_ (IsS74.ge HI346.out)) | exact HB.out)); rintro e w7 ⟨rfl, hi, hb, hk⟩; refine ⟨_, rfl, ?_⟩; have n0_ := Aside0.mk (hb); have n1_ := Aside0.mk (hi); clear HB; clear HI346; have HB := n0_; have HI346 := n1_; clear n0_ n1_; (try clear hb); (try clear hb2); (try clear hk); (try clear hi)) | ((with_reducible refine gate_dst (N := 4) rfl ?_); refine box_event ?hg (N := 4) ?hd (cs := #[.string (⟨#[]⟩ : ByteArray), .string (⟨#[]⟩ : ByteArray), .int .i64 0]) (t := 31) ?hr ?_; (case hd => rfl); (case hg => rfl); (case hr => first | (go_simp; done) | (go_simp; rfl)); intro gb352 hg w8 hbox hb; have n0_ := Aside0.mk (IsS74.below (by repeat (first | (with_reducible first | exact HI346.out | apply IsS74.alloc | apply IsS74.drewN | apply IsS74.drew | apply IsS74.set_1 | apply IsS74.set_2) | exact HI346.out)) hb); have n1_ := Aside0.mk (below_step (by repeat (first | (with_reducible first | exact HB.out | apply below_alloc | apply pw_below_drewN | apply below_drew1 | refine below_set ?_ (IsS74.ge HI346.out)) | exact HB.out)) hb); have n2_ := Aside0.mk (hbox); have n3_ := Aside0.mk ((by rw [hg]; exact (below_size (by repeat (first | (with_reducible first | exact HB.out | apply below_alloc | apply pw_below_drewN | apply below_drew1 | refine below_set ?_ (IsS74.ge HI346.out)) | exact HB.out))) : w.heap.size ≤ gb352)); have n4_ := Aside0.mk ((by rw [hg]; exact (below_size (by repeat (first | (with_reducible first | exact HB.out | apply below_alloc | apply pw_below_drewN | apply below_drew1 | refine below_set ?_ (IsS74.ge HI346.out)) | exact HB.out))) : w.heap.size ≤ gb352)); have n5_ := Aside0.mk ((by rw [hg]; exact Nat.ne_of_lt (IsS74.lt (show IsS74 w _ gb346 l0 t350 t351 from by repeat (first | (with_reducible first | exact HI346.out | apply IsS74.alloc | apply IsS74.drewN | apply IsS74.drew | apply IsS74.set_1 | apply IsS74.set_2) | exact HI346.out))) : gb346 ≠ gb352)); have n6_ := Aside0.mk ((by rw [hg]; exact Nat.ne_of_gt (IsS74.lt (show IsS74 w _ gb346 l0 t350 t351 from by repeat (first | (with_reducible first | exact HI346.out | apply IsS74.alloc | apply IsS74.drewN | apply IsS74.drew | apply IsS74.set_1 | apply IsS74.set_2) | exact HI346.out))) : gb352 ≠ gb346)); clear HI346; clear HB; have HI346 := n0_; have HB := n1_; have BK352 := n2_; have GW352 := n3_; have GE352 := n4_; have NB346_352 := n5_; have NB352_346 := n6_; clear n0_ n1_ n2_ n3_ n4_ n5_ n6_; clear hb hbox hg; have hnb9 := NB352_346.out; have hnc9 := NB346_352.out; have hcz10_0 : w8.cell? ⟨gb352, 0, none⟩ = some (.string (⟨#[]⟩ : ByteArray)) := (blk_cell BK352.out 0).trans rfl; have hcz10_1 : w8.cell? ⟨gb352, 1, none⟩ = some (.string (⟨#[]⟩ : ByteArray)) := (blk_cell BK352.out 1).trans rfl; have hcz10_2 : w8.cell? ⟨gb352, 2, none⟩ = some (.int .i64 0) := (blk_cell BK352.out 2).trans rfl; have hfz10_0 := blk_frozen BK352.out 0; have hfz10_1 := blk_frozen BK352.out 1; have hfz10_2 := blk_frozen BK352.out 2) | ((with_reducible refine gate_callee (f := 55) rfl ?_); refine goesL_ (some 17) rfl rfl Tryd.func55 (by kernel_rfl) rfl #[.pointer (some ⟨gb346, 0, none⟩), .int .i64 4] rfl ZZ19826e ?_; (with_reducible refine (spec_l1Cur_pick.calls gb346 l0 t350 t351 4 t353 t354 t355 w _ ?side1 ?side2 A4.out).mono ?_); (case side1 => repeat (first | (with_reducible first | exact HI346.out | apply IsS74.alloc | apply IsS74.drewN | apply IsS74.drew | apply IsS74.set_1 | apply IsS74.set_2 | refine IsS74.far ?_ NB346_352.out _) | exact HI346.out)); (case side2 => repeat (first | (with_reducible first | exact HB.out | apply below_alloc | apply pw_below_drewN | apply below_drew1 | refine below_set ?_ (IsS74.ge HI346.out) | refine below_set ?_ GE352.out) | exact HB.out)); rintro e w11 ⟨rfl, hi, hb, hk⟩; refine ⟨_, rfl, ?_⟩; have n0_ := Aside0.mk (KeepBut.blk hk (g' := gb352) (o := .cells #[.string t347, .string t348, .int .i64 t349] 31 (0, 0)) (by (with_reducible repeat (first | refine blk_drewN ?_ _ | refine blk_drew ?_ | refine blk_alloc ?_ _)); refine blk_put (cs := #[.string t347, .string t348, .int .i64 0]) ?_ 2 _ rfl; (with_reducible repeat (first | refine blk_drewN ?_ _ | refine blk_drew ?_ | refine blk_alloc ?_ _)); refine blk_put (cs := #[.string t347, .string (⟨#[]⟩ : ByteArray), .int .i64 0]) ?_ 1 _ rfl; (with_reducible repeat (first | refine blk_drewN ?_ _ | refine blk_drew ?_ | refine blk_alloc ?_ _)); refine blk_put (cs := #[.string (⟨#[]⟩ : ByteArray), .string (⟨#[]⟩ : ByteArray), .int .i64 0]) ?_ 0 _ rfl; (with_reducible repeat (first | refine blk_drewN ?_ _ | refine blk_drew ?_ | refine blk_alloc ?_ _)); exact BK352.out) NB352_346.out (by simp)); have n1_ := Aside0.mk (hb); have n2_ := Aside0.mk (hi); clear BK352; clear HB; clear HI346; have BK352 := n0_; have HB := n1_; have HI346 := n2_; clear n0_ n1_ n2_; (try clear hb); (try clear hb2); (try clear hk); (try clear hi)))
  (try simp only [Act.put, List.setIfInBounds_toArray, List.set_cons_zero, List.set_cons_succ])
  go_cut [5] (fun v5 wc => ∃ (kq : Nat) (x5_4 : ByteArray) (x347001_4 : Int) (x347002_4 : Int), v5 = .string x5_4 ∧ Aside0 (spec_DrawRecoverLog.j0 kq x5_4 l0 x347001_4 x347002_4 = some r) ∧ Aside0 (kq ≤ k) ∧ Aside0 (wc.heap[gb352]? = some (.cells #[.string t347, .string t348, .int .i64 t349] 31 (0, 0))) ∧ Aside0 (IsS74 w wc gb346 l0 x347001_4 x347002_4) ∧ Aside0 (Below w.heap.size w wc))
  case first =>
   have H := HC5.out
   clear HC5
   by_cases c12 : t353 = 0
   ·rw [if_pos c12] at H
    have c12b0 : (t353 == 0) = true := beq_iff_eq.mpr c12
    have c12b1 : (t353 != 0) = false := bne_eq_false_iff_eq.mpr c12
    clear c12
    (first | rw [c12b0] | (simp only [i64_w, i32_w]; rw [c12b0]) | skip)
    replace H := Option.bind_eq_some_iff.mp H
    obtain ⟨⟨t356, t357, t358⟩, A130, H⟩ := H
    replace H : (spec_DrawRecoverLog.j0 k t356 l0 t357 t358) = some r := H
    have A13 := Aside0.mk A130
    clear A130
    have H' := Aside0.mk H
    clear H
    go_wp2_with (first | ((with_reducible refine gate_callee (f := 61) rfl ?_); refine goesL_ (some 22) rfl rfl Tryd.func61 (by kernel_rfl) rfl #[.pointer (some ⟨gb346, 0, none⟩), .string (t347 ++ t348), .string (⟨#[35, 64, 10, 48, 49]⟩ : ByteArray)] rfl ZZ19826e ?_; (with_reducible refine (spec_l1Cur_spoilt.calls gb346 l0 t354 t355 (t347 ++ t348) (⟨#[35, 64, 10, 48, 49]⟩ : ByteArray) t356 t357 t358 w _ ?side1 ?side2 A13.out).mono ?_); (case side1 => repeat (first | (with_reducible first | exact HI346.out | apply IsS74.alloc | apply IsS74.drewN | apply IsS74.drew | apply IsS74.set_1 | apply IsS74.set_2 | refine IsS74.far ?_ NB346_352.out _) | exact HI346.out)); (case side2 => repeat (first | (with_reducible first | exact HB.out | apply below_alloc | apply pw_below_drewN | apply below_drew1 | refine below_set ?_ (IsS74.ge HI346.out) | refine below_set ?_ GE352.out) | exact HB.out)); rintro e w14 ⟨rfl, hi, hb, hk⟩; refine ⟨_, rfl, ?_⟩; have n0_ := Aside0.mk (KeepBut.blk hk (g' := gb352) (o := .cells #[.string t347, .string t348, .int .i64 t349] 31 (0, 0)) ZZe674eb NB352_346.out (by simp)); have n1_ := Aside0.mk (hb); have n2_ := Aside0.mk (hi); clear BK352; clear HB; clear HI346; have BK352 := n0_; have HB := n1_; have HI346 := n2_; clear n0_ n1_ n2_; (try clear hb); (try clear hb2); (try clear hk); (try clear hi)))
    go_meet
    case rel => exact ⟨_, (t356), (t357), (t358), ZZ0ab324, H', ⟨by first | omega | exact Nat.le_refl _⟩, ⟨by (with_reducible repeat (first | refine blk_drewN ?_ _ | refine blk_drew ?_ | refine blk_alloc ?_ _)); exact BK352.out⟩, ⟨by repeat (first | (with_reducible first | exact HI346.out | apply IsS74.alloc | apply IsS74.drewN | apply IsS74.drew | apply IsS74.set_1 | apply IsS74.set_2 | refine IsS74.far ?_ NB346_352.out _) | exact HI346.out)⟩, ⟨by repeat (first | (with_reducible first | exact HB.out | apply below_alloc | apply pw_below_drewN | apply below_drew1 | refine below_set ?_ (IsS74.ge HI346.out) | refine below_set ?_ GE352.out) | exact HB.out)⟩⟩
   ·rw [if_neg c12] at H
    have c12b0 : (t353 == 0) = false := beq_eq_false_iff_ne.mpr c12
    have c12b1 : (t353 != 0) = true := bne_iff_ne.mpr c12
    (first | rw [c12b0] | (simp only [i64_w, i32_w]; rw [c12b0]) | skip)
    by_cases c15 : t353 = 1
    ·rw [if_pos c15] at H
     have c15b0 : (t353 == 1) = true := beq_iff_eq.mpr c15
     have c15b1 : (t353 != 1) = false := bne_eq_false_iff_eq.mpr c15
     clear c15
     replace H := Option.bind_eq_some_iff.mp H
     obtain ⟨⟨t359, t360, t361⟩, A160, H⟩ := H
     replace H : (if 0 ≤ t359 then (if t359 ≤ ((t347.size : Int) + (t348.size : Int)) then (spec_DrawRecoverLog.j0 k ((t347 ++ t348).extract 0 (t359 : Int).toNat) l0 t360 t361) else (none)) else (none)) = some r := H
     have A16 := Aside0.mk A160
     clear A160
     by_cases c17 : 0 ≤ t359
     ·rw [if_pos c17] at H
      have c17b0 := eq_true c17
      have c17b1 : decide (0 ≤ t359) = true := decide_eq_true c17
      clear c17
      by_cases c18 : t359 ≤ ((t347.size : Int) + (t348.size : Int))
      ·rw [if_pos c18] at H
       have c18b0 := eq_true c18
       have c18b1 : decide (t359 ≤ ((t347.size : Int) + (t348.size : Int))) = true := decide_eq_true c18
       have H' := Aside0.mk H
       clear H
       go_wp2_with (first | ((with_reducible refine gate_callee (f := 55) rfl ?_); refine goesL_ (some 30) rfl rfl Tryd.func55 (by kernel_rfl) rfl #[.pointer (some ⟨gb346, 0, none⟩), .int .i64 (wrap64 (((t347.size : Int) + (t348.size : Int)) + 1))] rfl ZZ19826e ?_; (with_reducible refine (spec_l1Cur_pick.calls gb346 l0 t354 t355 (wrap64 (((t347.size : Int) + (t348.size : Int)) + 1)) t359 t360 t361 w _ ?side1 ?side2 A16.out).mono ?_); (case side1 => repeat (first | (with_reducible first | exact HI346.out | apply IsS74.alloc | apply IsS74.drewN | apply IsS74.drew | apply IsS74.set_1 | apply IsS74.set_2 | refine IsS74.far ?_ NB346_352.out _) | exact HI346.out)); (case side2 => repeat (first | (with_reducible first | exact HB.out | apply below_alloc | apply pw_below_drewN | apply below_drew1 | refine below_set ?_ (IsS74.ge HI346.out) | refine below_set ?_ GE352.out) | exact HB.out)); rintro e w19 ⟨rfl, hi, hb, hk⟩; refine ⟨_, rfl, ?_⟩; have n0_ := Aside0.mk (KeepBut.blk hk (g' := gb352) (o := .cells #[.string t347, .string t348, .int .i64 t349] 31 (0, 0)) ZZe674eb NB352_346.out (by simp)); have n1_ := Aside0.mk (hb); have n2_ := Aside0.mk (hi); clear BK352; clear HB; clear HI346; have BK352 := n0_; have HB := n1_; have HI346 := n2_; clear n0_ n1_ n2_; (try clear hb); (try clear hb2); (try clear hk); (try clear hi)))
       go_meet
       case rel => exact ⟨_, ((t347 ++ t348).extract 0 (t359 : Int).toNat), (t360), (t361), ZZ0ab324, H', ⟨by first | omega | exact Nat.le_refl _⟩, ⟨by (with_reducible repeat (first | refine blk_drewN ?_ _ | refine blk_drew ?_ | refine blk_alloc ?_ _)); exact BK352.out⟩, ⟨by repeat (first | (with_reducible first | exact HI346.out | apply IsS74.alloc | apply IsS74.drewN | apply IsS74.drew | apply IsS74.set_1 | apply IsS74.set_2 | refine IsS74.far ?_ NB346_352.out _) | exact HI346.out)⟩, ⟨by repeat (first | (with_reducible first | exact HB.out | apply below_alloc | apply pw_below_drewN | apply below_drew1 | refine below_set ?_ (IsS74.ge HI346.out) | refine below_set ?_ GE352.out) | exact HB.out)⟩⟩
      ·rw [if_neg c18] at H
       exact absurd H (by simp)
     ·rw [if_neg c17] at H
      exact absurd H (by simp)
    ·rw [if_neg c15] at H
     have c15b0 : (t353 == 1) = false := beq_eq_false_iff_ne.mpr c15
     have c15b1 : (t353 != 1) = true := bne_iff_ne.mpr c15
     by_cases c20 : t353 = 2
     ·rw [if_pos c20] at H
      have c20b0 : (t353 == 2) = true := beq_iff_eq.mpr c20
      have c20b1 : (t353 != 2) = false := bne_eq_false_iff_eq.mpr c20
      clear c20
      replace H := Option.bind_eq_some_iff.mp H
      obtain ⟨⟨t362, t363, t364⟩, A210, H⟩ := H
      replace H : ((spec_l1Cur_logRecord.f l0 t363 t364).bind fun bt365 => ((spec_l27Line.f k t362 bt365.1 bt365.2.1).bind fun t369 => (if t347.size + t348.size + t369.size ≤ 9223372036854775807 then (spec_DrawRecoverLog.j0 k ((t347 ++ t348) ++ t369) l0 bt365.2.2.1 bt365.2.2.2) else (none)))) = some r := H
      have A21 := Aside0.mk A210
      clear A210
      replace H := Option.bind_eq_some_iff.mp H
      obtain ⟨⟨t365, t366, t367, t368⟩, A220, H⟩ := H
      replace H : ((spec_l27Line.f k t362 t365 t366).bind fun t369 => (if t347.size + t348.size + t369.size ≤ 9223372036854775807 then (spec_DrawRecoverLog.j0 k ((t347 ++ t348) ++ t369) l0 t367 t368) else (none))) = some r := H
      have A22 := Aside0.mk A220
      clear A220
      replace H := Option.bind_eq_some_iff.mp H
      obtain ⟨t369, A230, H⟩ := H
      replace H : (if t347.size + t348.size + t369.size ≤ 9223372036854775807 then (spec_DrawRecoverLog.j0 k ((t347 ++ t348) ++ t369) l0 t367 t368) else (none)) = some r := H
      have A23 := Aside0.mk A230
      clear A230
      by_cases c24 : t347.size + t348.size + t369.size ≤ 9223372036854775807
      ·rw [if_pos c24] at H
       have c24b0 := eq_true c24
       have c24b1 : decide (t347.size + t348.size + t369.size ≤ 9223372036854775807) = true := decide_eq_true c24
       try have c24b2 : (9223372036854775807 < t347.size + t348.size + t369.size) = False := eq_false (Nat.not_lt.2 c24)
       have H' := Aside0.mk H
       clear H
       go_wp2_with (first | ((with_reducible refine gate_callee (f := 55) rfl ?_); refine goesL_ (some 36) rfl rfl Tryd.func55 (by kernel_rfl) rfl #[.pointer (some ⟨gb346, 0, none⟩), .int .i64 4] rfl ZZ19826e ?_; (with_reducible refine (spec_l1Cur_pick.calls gb346 l0 t354 t355 4 t362 t363 t364 w _ ?side1 ?side2 A21.out).mono ?_); (case side1 => repeat (first | (with_reducible first | exact HI346.out | apply IsS74.alloc | apply IsS74.drewN | apply IsS74.drew | apply IsS74.set_1 | apply IsS74.set_2 | refine IsS74.far ?_ NB346_352.out _) | exact HI346.out)); (case side2 => repeat (first | (with_reducible first | exact HB.out | apply below_alloc | apply pw_below_drewN | apply below_drew1 | refine below_set ?_ (IsS74.ge HI346.out) | refine below_set ?_ GE352.out) | exact HB.out)); rintro e w25 ⟨rfl, hi, hb, hk⟩; refine ⟨_, rfl, ?_⟩; have n0_ := Aside0.mk (KeepBut.blk hk (g' := gb352) (o := .cells #[.string t347, .string t348, .int .i64 t349] 31 (0, 0)) ZZe674eb NB352_346.out (by simp)); have n1_ := Aside0.mk (hb); have n2_ := Aside0.mk (hi); clear BK352; clear HB; clear HI346; have BK352 := n0_; have HB := n1_; have HI346 := n2_; clear n0_ n1_ n2_; (try clear hb); (try clear hb2); (try clear hk); (try clear hi)) | ((with_reducible refine gate_callee (f := 56) rfl ?_); refine goesL_ (some 38) rfl rfl Tryd.func56 (by kernel_rfl) rfl #[.pointer (some ⟨gb346, 0, none⟩)] rfl ZZ19826e ?_; (with_reducible refine (spec_l1Cur_logRecord.calls gb346 l0 t363 t364 t365 t366 t367 t368 w _ ?side1 ?side2 A22.out).mono ?_); (case side1 => repeat (first | (with_reducible first | exact HI346.out | apply IsS74.alloc | apply IsS74.drewN | apply IsS74.drew | apply IsS74.set_1 | apply IsS74.set_2 | refine IsS74.far ?_ NB346_352.out _) | exact HI346.out)); (case side2 => repeat (first | (with_reducible first | exact HB.out | apply below_alloc | apply pw_below_drewN | apply below_drew1 | refine below_set ?_ (IsS74.ge HI346.out) | refine below_set ?_ GE352.out) | exact HB.out)); rintro e w26 ⟨rfl, hi, hb, hk⟩; refine ⟨_, rfl, ?_⟩; have n0_ := Aside0.mk (KeepBut.blk hk (g' := gb352) (o := .cells #[.string t347, .string t348, .int .i64 t349] 31 (0, 0)) ZZe674eb NB352_346.out (by simp)); have n1_ := Aside0.mk (hb); have n2_ := Aside0.mk (hi); clear BK352; clear HB; clear HI346; have BK352 := n0_; have HB := n1_; have HI346 := n2_; clear n0_ n1_ n2_; (try clear hb); (try clear hb2); (try clear hk); (try clear hi)) | ((with_reducible refine gate_callee (f := 44) rfl ?_); refine goesL_ (some 39) rfl rfl Tryd.func44 (by kernel_rfl) rfl #[.int .i64 t362, .agg #[.string t365, .string t366]] rfl ZZ19826e ?_; (with_reducible refine (spec_l27Line.calls k t362 t365 t366 t369 _ A23.out).mono ?_); rintro e w27 ⟨rfl, hb⟩; refine ⟨_, rfl, ?_⟩; have n0_ := Aside0.mk (IsS74.below (by repeat (first | (with_reducible first | exact HI346.out | apply IsS74.alloc | apply IsS74.drewN | apply IsS74.drew | apply IsS74.set_1 | apply IsS74.set_2 | refine IsS74.far ?_ NB346_352.out _) | exact HI346.out)) hb); have n1_ := Aside0.mk (blk_below (g := gb352) (o := .cells #[.string t347, .string t348, .int .i64 t349] 31 (0, 0)) ZZe674eb hb); have n2_ := Aside0.mk (below_step (by repeat (first | (with_reducible first | exact HB.out | apply below_alloc | apply pw_below_drewN | apply below_drew1 | refine below_set ?_ (IsS74.ge HI346.out) | refine below_set ?_ GE352.out) | exact HB.out)) hb); clear HI346; clear BK352; clear HB; have HI346 := n0_; have BK352 := n1_; have HB := n2_; clear n0_ n1_ n2_; (try clear hb); (try clear hb2); (try clear hk); (try clear hi)))
       go_meet
       case rel => exact ⟨_, ((t347 ++ t348) ++ t369), (t367), (t368), ZZ0ab324, H', ⟨by first | omega | exact Nat.le_refl _⟩, ⟨by (with_reducible repeat (first | refine blk_drewN ?_ _ | refine blk_drew ?_ | refine blk_alloc ?_ _)); exact BK352.out⟩, ⟨by repeat (first | (with_reducible first | exact HI346.out | apply IsS74.alloc | apply IsS74.drewN | apply IsS74.drew | apply IsS74.set_1 | apply IsS74.set_2 | refine IsS74.far ?_ NB346_352.out _) | exact HI346.out)⟩, ⟨by repeat (first | (with_reducible first | exact HB.out | apply below_alloc | apply pw_below_drewN | apply below_drew1 | refine below_set ?_ (IsS74.ge HI346.out) | refine below_set ?_ GE352.out) | exact HB.out)⟩⟩
      ·rw [if_neg c24] at H
       exact absurd H (by simp)
     ·rw [if_neg c20] at H
      have c20b0 : (t353 == 2) = false := beq_eq_false_iff_ne.mpr c20
      have c20b1 : (t353 != 2) = true := bne_iff_ne.mpr c20
      have H' := Aside0.mk H
      clear H
      go_wp2
      go_meet
      case rel => exact ⟨_, (t347 ++ t348), (t354), (t355), ZZ0ab324, H', ⟨by first | omega | exact Nat.le_refl _⟩, ⟨by (with_reducible repeat (first | refine blk_drewN ?_ _ | refine blk_drew ?_ | refine blk_alloc ?_ _)); exact BK352.out⟩, ⟨by repeat (first | (with_reducible first | exact HI346.out | apply IsS74.alloc | apply IsS74.drewN | apply IsS74.drew | apply IsS74.set_1 | apply IsS74.set_2 | refine IsS74.far ?_ NB346_352.out _) | exact HI346.out)⟩, ⟨by repeat (first | (with_reducible first | exact HB.out | apply below_alloc | apply pw_below_drewN | apply below_drew1 | refine below_set ?_ (IsS74.ge HI346.out) | refine below_set ?_ GE352.out) | exact HB.out)⟩⟩
  case rest =>
   clear HC5
   try clear c1
   try clear c2
   try clear p2
   try clear c3
   try clear c3b0
   try clear c3b1
   try clear c3b2
   try clear c4
   try clear c5
   try clear c6
   try clear p6
   try clear c9
   try clear c12
   try clear c12b0
   try clear c12b1
   try clear c15
   try clear c15b0
   try clear c15b1
   try clear c17
   try clear c17b0
   try clear c17b1
   try clear c18
   try clear c18b0
   try clear c18b1
   try clear c20
   try clear c20b0
   try clear c20b1
   try clear c24
   try clear c24b0
   try clear c24b1
   try clear c24b2
   try clear hcz10_0
   try clear hcz10_1
   try clear hcz10_2
   try clear hfz10_0
   try clear hfz10_1
   try clear hfz10_2
   obtain ⟨kq, x5_4, x347001_4, x347002_4, rfl, HA, HJ4, BK352, HI346, HB⟩ := hcut
   cases kq with
   | zero => exact absurd HA.out (by simp [spec_DrawRecoverLog.j0])
   | succ kj4 =>
    have H := HA.out
    clear HA
    simp only [spec_DrawRecoverLog.j0] at H
    replace H := Option.bind_eq_some_iff.mp H
    obtain ⟨⟨t370, t371, t372⟩, A280, H⟩ := H
    replace H : (if t370 = true then ((spec_l1Cur_pick.f l0 t371 t372 2).bind fun bt373 => (if 0 ≤ (wrap64 (30000 + bt373.1)) then (if (wrap64 (30000 + bt373.1) : Int).toNat ≤ 281474976710656 then (some (strOfNums (List.replicate (wrap64 (30000 + bt373.1) : Int).toNat 0))) else (none)) else (none))) else (some x5_4)) = some r := H
    have A28 := Aside0.mk A280
    clear A280
    by_cases c29 : t370 = true
    ·subst c29
     have H1 : ((spec_l1Cur_pick.f l0 t371 t372 2).bind fun bt373 => (if 0 ≤ (wrap64 (30000 + bt373.1)) then (if (wrap64 (30000 + bt373.1) : Int).toNat ≤ 281474976710656 then (some (strOfNums (List.replicate (wrap64 (30000 + bt373.1) : Int).toNat 0))) else (none)) else (none))) = some r := by rw [if_pos rfl] at H; exact H
     clear H
     have H := H1
     clear H1
     replace H := Option.bind_eq_some_iff.mp H
     obtain ⟨⟨t373, t374, t375⟩, A300, H⟩ := H
     replace H : (if 0 ≤ (wrap64 (30000 + t373)) then (if (wrap64 (30000 + t373) : Int).toNat ≤ 281474976710656 then (some (strOfNums (List.replicate (wrap64 (30000 + t373) : Int).toNat 0))) else (none)) else (none)) = some r := H
     have A30 := Aside0.mk A300
     clear A300
     obtain ⟨ji31, hji31⟩ : ∃ j_ : Int, (wrap64 (30000 + t373)) = j_ := ⟨_, rfl⟩
     replace H : (if 0 ≤ (ji31) then (if (ji31 : Int).toNat ≤ 281474976710656 then (some (strOfNums (List.replicate (ji31 : Int).toNat 0))) else (none)) else (none)) = some r := by first | (rw [hji31] at H; exact H) | (simp only [hji31] at H ⊢; exact H)
     (try rw [hji31] at A28)
     (try rw [hji31] at A30)
     have hji31w : (IntKind.i64.wrap (30000 + t373)) = ji31 := (i64_w _).trans hji31
     by_cases c32 : 0 ≤ (ji31)
     ·rw [if_pos c32] at H
      have c32b0 := eq_true c32
      have c32b1 : decide (0 ≤ (ji31)) = true := decide_eq_true c32
      clear c32
      by_cases c33 : (ji31 : Int).toNat ≤ 281474976710656
      ·rw [if_pos c33] at H
       have c33b0 := eq_true c33
       have c33b1 : decide ((ji31 : Int).toNat ≤ 281474976710656) = true := decide_eq_true c33
       clear c33
       obtain ⟨y376, hy376⟩ : ∃ y_ : List Int, y_ = (List.replicate (ji31 : Int).toNat 0) := ⟨_, rfl⟩
       replace H : (some (strOfNums y376)) = some r := by first | (rw [hy376]; with_reducible exact H) | (have H2_ := (Option.bind_some _ _).symm.trans H; rw [hy376]; with_reducible exact H2_) | (have H2_ := (Option.bind_some _ _).symm.trans H; with_reducible exact H2_) | with_reducible exact H | (rw [hy376]; exact H) | exact H
       have Ny376 := Aside0.mk hy376
       clear hy376
       obtain rfl := Option.some.inj H
       go_wp2_with (first | ((with_reducible refine gate_callee (f := 54) rfl ?_); refine goesL_ (some 42) rfl rfl Tryd.func54 (by kernel_rfl) rfl #[.pointer (some ⟨gb346, 0, none⟩), .int .i64 40] rfl ZZ19826e ?_; (with_reducible refine (spec_l1Cur_one.calls gb346 l0 x347001_4 x347002_4 40 true t371 t372 w _ ?side1 ?side2 A28.out).mono ?_); (case side1 => repeat (first | (with_reducible first | exact HI346.out | apply IsS74.alloc | apply IsS74.drewN | apply IsS74.drew | apply IsS74.set_1 | apply IsS74.set_2 | refine IsS74.far ?_ NB346_352.out _) | exact HI346.out)); (case side2 => repeat (first | (with_reducible first | exact HB.out | apply below_alloc | apply pw_below_drewN | apply below_drew1 | refine below_set ?_ (IsS74.ge HI346.out) | refine below_set ?_ GE352.out) | exact HB.out)); rintro e w34 ⟨rfl, hi, hb, hk⟩; refine ⟨_, rfl, ?_⟩; have n0_ := Aside0.mk (KeepBut.blk hk (g' := gb352) (o := .cells #[.string t347, .string t348, .int .i64 t349] 31 (0, 0)) ZZe674eb NB352_346.out (by simp)); have n1_ := Aside0.mk (hb); have n2_ := Aside0.mk (hi); clear BK352; clear HB; clear HI346; have BK352 := n0_; have HB := n1_; have HI346 := n2_; clear n0_ n1_ n2_; (try clear hb); (try clear hb2); (try clear hk); (try clear hi)) | ((with_reducible refine gate_callee (f := 55) rfl ?_); refine goesL_ (some 44) rfl rfl Tryd.func55 (by kernel_rfl) rfl #[.pointer (some ⟨gb346, 0, none⟩), .int .i64 2] rfl ZZ19826e ?_; (with_reducible refine (spec_l1Cur_pick.calls gb346 l0 t371 t372 2 t373 t374 t375 w _ ?side1 ?side2 A30.out).mono ?_); (case side1 => repeat (first | (with_reducible first | exact HI346.out | apply IsS74.alloc | apply IsS74.drewN | apply IsS74.drew | apply IsS74.set_1 | apply IsS74.set_2 | refine IsS74.far ?_ NB346_352.out _) | exact HI346.out)); (case side2 => repeat (first | (with_reducible first | exact HB.out | apply below_alloc | apply pw_below_drewN | apply below_drew1 | refine below_set ?_ (IsS74.ge HI346.out) | refine below_set ?_ GE352.out) | exact HB.out)); rintro e w35 ⟨rfl, hi, hb, hk⟩; refine ⟨_, rfl, ?_⟩; have n0_ := Aside0.mk (KeepBut.blk hk (g' := gb352) (o := .cells #[.string t347, .string t348, .int .i64 t349] 31 (0, 0)) ZZe674eb NB352_346.out (by simp)); have n1_ := Aside0.mk (hb); have n2_ := Aside0.mk (hi); clear BK352; clear HB; clear HI346; have BK352 := n0_; have HB := n1_; have HI346 := n2_; clear n0_ n1_ n2_; (try clear hb); (try clear hb2); (try clear hk); (try clear hi)) | ((with_reducible refine gate_dst (N := 46) rfl ?_); refine Kd.R_make (Kd.int .u8) _ 5 rfl (N := 46) rfl 53 _ _ rfl ji31 rfl rfl Tryd.underlying53 (.int .u8 0) 1 info5 rfl (by decide) (by omega) 0 (ok := fun _ => True) (okp := fun _ => True) rfl (fun _ hk => hk) trivial (of_decide_eq_true ZZ853400) (Nat.le_trans (Nat.mul_le_mul_right _ (of_decide_eq_true ZZ853400 : ji31.toNat ≤ 281474976710656)) (by omega)) (Below.refl _ _) (Nat.le_refl _) ?_; intro v377 w36 ho37 hb hg_ hnew_; clear hg_ hnew_; (first | rw [← Ny376.out] at ho37 | (simp only [Int.reduceToNat] at ho37; rw [← Ny376.out] at ho37)); have n0_ := Aside0.mk (Kd.R_lower ho37 (below_size (by repeat (first | (with_reducible first | exact HB.out | apply below_alloc | apply pw_below_drewN | apply below_drew1 | refine below_set ?_ (IsS74.ge HI346.out) | refine below_set ?_ GE352.out) | exact HB.out)))); have n1_ := Aside0.mk (blk_below (g := gb352) (o := .cells #[.string t347, .string t348, .int .i64 t349] 31 (0, 0)) ZZe674eb hb); have n2_ := Aside0.mk (IsS74.below (by repeat (first | (with_reducible first | exact HI346.out | apply IsS74.alloc | apply IsS74.drewN | apply IsS74.drew | apply IsS74.set_1 | apply IsS74.set_2 | refine IsS74.far ?_ NB346_352.out _) | exact HI346.out)) hb); have n3_ := Aside0.mk (below_step (by repeat (first | (with_reducible first | exact HB.out | apply below_alloc | apply pw_below_drewN | apply below_drew1 | refine below_set ?_ (IsS74.ge HI346.out) | refine below_set ?_ GE352.out) | exact HB.out)) hb); clear BK352; clear HI346; clear HB; have HO378 := n0_; have BK352 := n1_; have HI346 := n2_; have HB := n3_; clear n0_ n1_ n2_ n3_; clear hb ho37; have hcv38 := own_string (P := Tryd.prog) Tryd.underlying53 Tryd.underlying5 Tryd.underlying9 (Kd.own_of_R HO378.out)))
       go_ret
       exact ⟨by first | rfl | (simp [errW_none, errW_some] <;> rfl) | (simp only [← hji31]; first | rfl | (simp [errW_none, errW_some] <;> rfl)) | (simp [*, errW_none, errW_some] <;> rfl), by repeat (first | (with_reducible first | exact HB.out | apply below_alloc | apply pw_below_drewN | apply below_drew1 | refine below_set ?_ (IsS74.ge HI346.out) | refine below_set ?_ GE352.out) | exact HB.out)⟩
      ·rw [if_neg c33] at H
       exact absurd H (by simp)
     ·rw [if_neg c32] at H
      exact absurd H (by simp)
    ·replace c29 := Bool.eq_false_iff.mpr c29
     subst c29
     have H1 : (some x5_4) = some r := by rw [if_neg (show ¬ (false = true) by decide)] at H; exact H
     clear H
     have H := H1
     clear H1
     obtain rfl := Option.some.inj H
     go_wp2_with (first | ((with_reducible refine gate_callee (f := 54) rfl ?_); refine goesL_ (some 42) rfl rfl Tryd.func54 (by kernel_rfl) rfl #[.pointer (some ⟨gb346, 0, none⟩), .int .i64 40] rfl ZZ19826e ?_; (with_reducible refine (spec_l1Cur_one.calls gb346 l0 x347001_4 x347002_4 40 false t371 t372 w _ ?side1 ?side2 A28.out).mono ?_); (case side1 => repeat (first | (with_reducible first | exact HI346.out | apply IsS74.alloc | apply IsS74.drewN | apply IsS74.drew | apply IsS74.set_1 | apply IsS74.set_2 | refine IsS74.far ?_ NB346_352.out _) | exact HI346.out)); (case side2 => repeat (first | (with_reducible first | exact HB.out | apply below_alloc | apply pw_below_drewN | apply below_drew1 | refine below_set ?_ (IsS74.ge HI346.out) | refine below_set ?_ GE352.out) | exact HB.out)); rintro e w39 ⟨rfl, hi, hb, hk⟩; refine ⟨_, rfl, ?_⟩; have n0_ := Aside0.mk (KeepBut.blk hk (g' := gb352) (o := .cells #[.string t347, .string t348, .int .i64 t349] 31 (0, 0)) ZZe674eb NB352_346.out (by simp)); have n1_ := Aside0.mk (hb); have n2_ := Aside0.mk (hi); clear BK352; clear HB; clear HI346; have BK352 := n0_; have HB := n1_; have HI346 := n2_; clear n0_ n1_ n2_; (try clear hb); (try clear hb2); (try clear hk); (try clear hi)))
     go_ret
     exact ⟨by first | rfl | (simp [errW_none, errW_some] <;> rfl) | (simp [*, errW_none, errW_some] <;> rfl), by repeat (first | (with_reducible first | exact HB.out | apply below_alloc | apply pw_below_drewN | apply below_drew1 | refine below_set ?_ (IsS74.ge HI346.out) | refine below_set ?_ GE352.out) | exact HB.out)⟩
 ·rw [if_neg c3] at H
  exact absurd H (by simp)
end Go.Proofs.YtmhmeifdnleoaaaDoor.XFnLogLines

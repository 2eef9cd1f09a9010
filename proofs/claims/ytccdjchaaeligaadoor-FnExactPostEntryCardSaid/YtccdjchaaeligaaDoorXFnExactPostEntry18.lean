import Derived.Test.YtccdjchaaeligaaDoorXFnExactPostEntry8
import Derived.Test.YtccdjchaaeligaaDoorXFnExactPostEntry0
import Derived.Test.YtccdjchaaeligaaDoorXFnExactPostEntry1
import Derived.Test.YtccdjchaaeligaaDoorXFnExactPostEntry2
import Derived.Test.YtccdjchaaeligaaDoorXFnExactPostEntry3
import Derived.Test.YtccdjchaaeligaaDoorXFnExactPostEntry4
import Derived.Test.YtccdjchaaeligaaDoorXFnExactPostEntry9
import Derived.Test.YtccdjchaaeligaaDoorXFnExactPostEntry15
import Derived.Test.YtccdjchaaeligaaDoorXFnExactPostEntry16
import Derived.Test.YtccdjchaaeligaaDoorXFnExactPostEntry17
namespace Go.Proofs.YtccdjchaaeligaaDoor.XFnExactPostEntry
open Go.Proofs.YtccdjchaaeligaaDoor.Short Go.RowKit Go.Proofs.YtccdjchaaeligaaDoorW.PrintWords Go.Proofs.YtccdjchaaeligaaDoorW.PrintLast Go.Proofs.YtccdjchaaeligaaDoorW.PrintMore
attribute [local go_sem] max2_int min2_int max_two min_two max_three min_three max_four min_four
set_option linter.unusedVariables false
set_option linter.unusedSimpArgs false
theorem ZZ539e1d {p : Prop} (h : p := by simp only [putAll, Act.put, List.setIfInBounds_toArray, List.set_cons_zero, List.set_cons_succ]) : p := h
theorem ZZ308480 {p : Prop} (h : p := by refine bR ?_; exact Kd.R_mono HO411.out (fun _ hk => hk.2)) : p := h
theorem ZZ2424d1 {p : Prop} (h : p := by refine bS ?_; exact Kd.S_mono HO414.out (fun _ hk => ⟨hk.1.2, hk.2⟩)) : p := h
theorem ZZ53f29f {p : Prop} (h : p := by refine bR ?_; exact Kd.R_mono HO422.out (fun _ hk => hk.2)) : p := h
theorem ZZ99750c {p : Prop} (h : p := by refine bS ?_; exact Kd.S_mono HO425.out (fun _ hk => ⟨hk.1.2, hk.2⟩)) : p := h
theorem ZZf6a8d2 {p : Prop} (h : p := by refine bR ?_; exact (Kd.R_mono (Kd.R_far (p := ⟨gb448, 1, none⟩) (Kd.R_far (p := ⟨gb448, 0, none⟩) (Kd.R_types HO443.out BK448.out (by decide)) (fun _ hk => hk.2) (.slice Ao73 t441.length co73)) (fun _ hk => hk.2) (.slice Ao80 t444.length co80)) (fun _ h_ => h_.1))) : p := h
theorem ZZ083a78 {p : Prop} (h : p := by refine bS ?_; exact (Kd.S_mono (Kd.S_far (p := ⟨gb448, 1, none⟩) (Kd.S_far (p := ⟨gb448, 0, none⟩) (Kd.S_types HO446.out BK448.out (by decide)) (fun _ hk => hk.2) (.slice Ao73 t441.length co73)) (fun _ hk => hk.2) (.slice Ao80 t444.length co80)) (fun _ h_ => h_.1))) : p := h
theorem ZZe91701 {p : Prop} (h : p := by refine bR ?_; exact (Kd.R_mono (Kd.R_far (p := ⟨gb448, 1, none⟩) (Kd.R_far (p := ⟨gb448, 0, none⟩) (Kd.R_types HO422.out BK448.out (by decide)) (fun _ hk => hk.2) (.slice Ao73 t441.length co73)) (fun _ hk => hk.2) (.slice Ao80 t444.length co80)) (fun _ h_ => h_.1))) : p := h
theorem ZZ5fb767 {p : Prop} (h : p := by refine bS ?_; exact (Kd.S_mono (Kd.S_far (p := ⟨gb448, 1, none⟩) (Kd.S_far (p := ⟨gb448, 0, none⟩) (Kd.S_types HO425.out BK448.out (by decide)) (fun _ hk => hk.2) (.slice Ao73 t441.length co73)) (fun _ hk => hk.2) (.slice Ao80 t444.length co80)) (fun _ h_ => h_.1))) : p := h
theorem ZZ090879 {p : Prop} (h : p := by refine bS ?_; exact Kd.S_mono HO_428001.out (fun _ hk => ⟨hk.1, ⟨hk.2.1, ⟨hk.2.2.1, ⟨hk.2.2.2.2.1, ⟨hk.2.2.2.2.2.1, ⟨hk.2.2.2.2.2.2.1, zA hk.2.2.2.2.2.2.2⟩⟩⟩⟩⟩⟩)) : p := h
theorem ZZad7132 {p : Prop} (h : p := by refine bS ?_; exact Kd.S_mono HO_435001.out (fun _ hk => ⟨hk.1, ⟨hk.2.1, ⟨hk.2.2.1, ⟨hk.2.2.2.2.1, zA hk.2.2.2.2.2⟩⟩⟩⟩)) : p := h
theorem ZZ6a98b3 {p : Prop} (h : p := by refine bS ?_; exact Kd.S_mono HO_449001.out (fun _ hk => ⟨hk.1, ⟨hk.2.1, ⟨hk.2.2.1, ⟨hk.2.2.2.2.1, ⟨hk.2.2.2.2.2.1, zA hk.2.2.2.2.2.2⟩⟩⟩⟩⟩)) : p := h
theorem ZZ814e55 {p : Prop} (h : p := by (try simp only [List.map_toArray, List.map_cons, List.map_nil]); first | done | (rw [show t470.length = t441.length from (Kd.R_reads' HO_449000.out).1.symm, show t471.length = t444.length from (Kd.S_reads' HO_449001.out).1.symm] <;> rfl) | rfl | (simp only [List.length_drop, List.length_take]; rfl)) : p := h
theorem ZZ4dc9bc {p : Prop} (h : p := by refine bR ?_; exact Kd.R_mono HO475.out (fun _ hk => ⟨hk.2, ⟨hk.1.1.1.2, ⟨hk.1.1.2, hk.1.2⟩⟩⟩)) : p := h
theorem ZZ80ac6b {p : Prop} (h : p := by refine bS ?_; exact Kd.S_mono HO478.out (fun _ hk => ⟨hk.1.2, ⟨hk.2, ⟨hk.1.1.1.1.1.1.2, ⟨hk.1.1.1.1.1.2, ⟨hk.1.1.1.1.2, ⟨hk.1.1.1.2, hk.1.1.2⟩⟩⟩⟩⟩⟩)) : p := h
theorem ZZaa1c2d {p : Prop} (h : p := by refine bR ?_; exact Kd.R_mono HO483.out (fun _ hk => hk.2)) : p := h
theorem ZZ55b01f {p : Prop} (h : p := by refine bR ?_; exact Kd.R_mono HO486.out (fun _ hk => ⟨hk.2, ⟨hk.1.1.1.2, ⟨hk.1.1.2, hk.1.2⟩⟩⟩)) : p := h
theorem ZZ2a62ac {p : Prop} (h : p := by refine bS ?_; exact Kd.S_mono HO489.out (fun _ hk => ⟨hk.1.1.2, ⟨hk.1.2, ⟨hk.1.1.1.1.1.1.2, ⟨hk.1.1.1.1.1.2, ⟨hk.1.1.1.1.2, ⟨hk.1.1.1.2, hk.2⟩⟩⟩⟩⟩⟩)) : p := h
theorem ZZ7aee77 {p : Prop} (h : p := by refine bR ?_; exact Kd.R_mono HO_428000.out (fun _ hk => ⟨hk.1.2, ⟨hk.2, ⟨hk.1.1.1, hk.1.1.2⟩⟩⟩)) : p := h
theorem ZZ8a4ed1 {p : Prop} (h : p := by refine bS ?_; exact Kd.S_mono HO_428001.out (fun _ hk => ⟨hk.1.1.2, ⟨hk.1.2, ⟨hk.2, ⟨hk.1.1.1.1, ⟨hk.1.1.1.2.1, ⟨hk.1.1.1.2.2.1, ⟨hk.1.1.1.2.2.2.1, ⟨hk.1.1.1.2.2.2.2.1, ⟨hk.1.1.1.2.2.2.2.2.1, ⟨hk.1.1.1.2.2.2.2.2.2.1, hk.1.1.1.2.2.2.2.2.2.2⟩⟩⟩⟩⟩⟩⟩⟩⟩⟩)) : p := h
theorem ZZf0a866 {p : Prop} (h : p := by refine bR ?_; exact Kd.R_mono HO_435000.out (fun _ hk => ⟨hk.1.2, ⟨hk.2, ⟨hk.1.1.1, hk.1.1.2⟩⟩⟩)) : p := h
theorem ZZ80c899 {p : Prop} (h : p := by refine bS ?_; exact Kd.S_mono HO_435001.out (fun _ hk => ⟨hk.1.1.2, ⟨hk.1.2, ⟨hk.2, ⟨hk.1.1.1.1, ⟨hk.1.1.1.2.1, ⟨hk.1.1.1.2.2.1, ⟨hk.1.1.1.2.2.2.1, ⟨hk.1.1.1.2.2.2.2.1, hk.1.1.1.2.2.2.2.2⟩⟩⟩⟩⟩⟩⟩⟩)) : p := h
theorem ZZ6ee40c {p : Prop} (h : p := by refine bR ?_; exact Kd.R_mono HO_441002.out (fun _ hk => hk.2)) : p := h
theorem ZZaa728f {p : Prop} (h : p := by refine bR ?_; exact Kd.R_mono HO_449000.out (fun _ hk => ⟨hk.1.2, ⟨hk.2, ⟨hk.1.1.1, hk.1.1.2⟩⟩⟩)) : p := h
theorem ZZ99d3e5 {p : Prop} (h : p := by refine bS ?_; exact Kd.S_mono HO_449001.out (fun _ hk => ⟨hk.1.1.2, ⟨hk.1.2, ⟨hk.2, ⟨hk.1.1.1.1, ⟨hk.1.1.1.2.1, ⟨hk.1.1.1.2.2.1, ⟨hk.1.1.1.2.2.2.1, hk.1.1.1.2.2.2.2⟩⟩⟩⟩⟩⟩⟩)) : p := h
theorem ZZ6f3f42 {p : Prop} (h : p := by refine bR ?_; exact (Kd.R_mono (Kd.R_far (p := ⟨gb491, 1, none⟩) (Kd.R_far (p := ⟨gb491, 0, none⟩) (Kd.R_types HO486.out BK491.out (by decide)) (fun _ hk => hk.2) (.slice Ao205 t484.length co205)) (fun _ hk => hk.2) (.slice Ao207 t487.length co207)) (fun _ h_ => h_.1))) : p := h
theorem ZZ0e04fd {p : Prop} (h : p := by refine bS ?_; exact (Kd.S_mono (Kd.S_far (p := ⟨gb491, 1, none⟩) (Kd.S_far (p := ⟨gb491, 0, none⟩) (Kd.S_types HO489.out BK491.out (by decide)) (fun _ hk => hk.2) (.slice Ao205 t484.length co205)) (fun _ hk => hk.2) (.slice Ao207 t487.length co207)) (fun _ h_ => h_.1))) : p := h
theorem ZZ11ed0c {p : Prop} (h : p := by refine bR ?_; exact (Kd.R_mono (Kd.R_far (p := ⟨gb491, 1, none⟩) (Kd.R_far (p := ⟨gb491, 0, none⟩) (Kd.R_types HO_428000.out BK491.out (by decide)) (fun _ hk => hk.2) (.slice Ao205 t484.length co205)) (fun _ hk => hk.2) (.slice Ao207 t487.length co207)) (fun _ h_ => h_.1))) : p := h
theorem ZZ232f50 {p : Prop} (h : p := by refine bS ?_; exact (Kd.S_mono (Kd.S_far (p := ⟨gb491, 1, none⟩) (Kd.S_far (p := ⟨gb491, 0, none⟩) (Kd.S_types HO_428001.out BK491.out (by decide)) (fun _ hk => hk.2) (.slice Ao205 t484.length co205)) (fun _ hk => hk.2) (.slice Ao207 t487.length co207)) (fun _ h_ => h_.1))) : p := h
theorem zA {p q : Prop} (h : q) (f : q → p := by first | exact fun h_ => h_ | exact fun h_ => h_.1) : p := f h
mutual
def laws_FnExactPostEntry.j0 : Nat → Bool → Bool → Bool → List (S109) → List (S58) → Int → ByteArray → List (S120) → List (S48) → List (S63) → List (S48) → List (S63) → Int → ByteArray → List (S70) → List (S48) → List (S63) → Option (Bool)
 | 0, _, _, _, _, _, _, _, _, _, _, _, _, _, _, _, _, _ => none
 | k + 1, x7, x11, x53, x406000, x406001, x407000, x407001, x407002, x428000, x428001, x435000, x435001, x441000, x441001, x441002, x449000, x449001 => if x53 = true then (some false) else ((laws_toLedger.f k x406000 x406001).bind fun bt450 => ((laws_eqLedger.f k x435000 x435001 bt450.1 bt450.2).bind fun t456 => (if t456 = true then ((laws_toBookEntry.f k x407000 x407001 x407002).bind fun bt457 => ((laws_eqBookEntry.f k x441000 x441001 x441002 bt457.1 bt457.2.1 bt457.2.2).bind fun t462 => (if t462 = true then ((laws_markLedger.f k x435000 x435001 1).bind fun bt463 => ((laws_markBookEntry.f k x441000 x441001 x441002 bt463.1).bind fun bt466 => (if bt466.1 < 0 then (laws_FnExactPostEntry.j1 k x7 true x406000 x406001 x407000 x407001 x407002 x428000 x428001 x449000 x449001) else ((laws_eqLedger.f k x449000 x449001 x428000 x428001).bind fun t468 => (if t468 = true then (laws_FnExactPostEntry.j1 k x7 (x11 != x7) x406000 x406001 x407000 x407001 x407002 x428000 x428001 x449000 x449001) else (laws_FnExactPostEntry.j1 k x7 true x406000 x406001 x407000 x407001 x407002 x428000 x428001 x449000 x449001)))))) else (some false)))) else (some false))))
def laws_FnExactPostEntry.j1 : Nat → Bool → Bool → List (S109) → List (S58) → Int → ByteArray → List (S120) → List (S48) → List (S63) → List (S48) → List (S63) → Option (Bool)
 | 0, _, _, _, _, _, _, _, _, _, _, _ => none
 | k + 1, x7, x82, x406000, x406001, x407000, x407001, x407002, x428000, x428001, x449000, x449001 => if x82 = true then (some false) else ((laws_markLedger.f k x449000 x449001 1).bind fun bt469 => ((laws_heldLedger.f k bt469.2.1 bt469.2.2 1).bind fun t472 => (if t472 < 0 then (some false) else (if t472 = bt469.1 then ((laws_toLedger.f k x406000 x406001).bind fun bt473 => ((laws_toBookEntry.f k x407000 x407001 x407002).bind fun bt479 => ((impl_PostEntry.f k bt473.1 bt473.2 bt479.1 bt479.2.1 bt479.2.2).bind fun bt484 => ((laws_eqLedger.f k bt484.1 bt484.2.1 x428000 x428001).bind fun t492 => (if t492 = true then (laws_FnExactPostEntry.j2 k bt469.1 (bt484.2.2 != x7) bt469.2.1 bt469.2.2) else (laws_FnExactPostEntry.j2 k bt469.1 true bt469.2.1 bt469.2.2)))))) else (some false)))))
def laws_FnExactPostEntry.j2 : Nat → Int → Bool → List (S48) → List (S63) → Option (Bool)
 | 0, _, _, _, _ => none
 | k + 1, x13, x110, x449000, x449001 => if x110 = true then (some false) else ((laws_heldLedger.f k x449000 x449001 1).bind fun t493 => (if t493 < 0 then (some false) else (if t493 = x13 then (some true) else (some false))))
end
def laws_FnExactPostEntry.f (k : Nat) (l0_0 : List (S109)) (l0_1 : List (S58)) (a1_0 : Int) (a1_1 : ByteArray) (l1_2 : List (S120)) : Option (Bool) := (laws_szLedger.f k l0_0 l0_1 1048576).bind fun t407 => (if t407 < 0 then (some true) else ((laws_szBookEntry.f a1_0 a1_1 l1_2 t407).bind fun t408 => (if t408 < 0 then (some true) else ((laws_toLedger.f k l0_0 l0_1).bind fun bt409 => ((laws_toBookEntry.f k a1_0 a1_1 l1_2).bind fun bt415 => ((spec_PostEntry.f k bt409.1 bt409.2 bt415.1 bt415.2.1 bt415.2.2).bind fun bt420 => ((laws_toLedger.f k l0_0 l0_1).bind fun bt428 => ((laws_toBookEntry.f k a1_0 a1_1 l1_2).bind fun bt435 => ((impl_PostEntry.f k bt428.1 bt428.2 bt435.1 bt435.2.1 bt435.2.2).bind fun bt441 => ((laws_eqLedger.f k bt441.1 bt441.2.1 bt420.1 bt420.2.1).bind fun t449 => (if t449 = true then (laws_FnExactPostEntry.j0 k bt420.2.2 bt441.2.2 (bt441.2.2 != bt420.2.2) l0_0 l0_1 a1_0 a1_1 l1_2 bt420.1 bt420.2.1 bt428.1 bt428.2 bt435.1 bt435.2.1 bt435.2.2 bt441.1 bt441.2.1) else (laws_FnExactPostEntry.j0 k bt420.2.2 bt441.2.2 true l0_0 l0_1 a1_0 a1_1 l1_2 bt420.1 bt420.2.1 bt428.1 bt428.2 bt435.1 bt435.2.1 bt435.2.2 bt441.1 bt441.2.1))))))))))))
theorem laws_FnExactPostEntry.mono_l : ∀ k, (∀ y0 y1 y2 y3 y4 y5 y6 y7 y8 y9 y10 y11 y12 y13 y14 y15 y16, LeO (laws_FnExactPostEntry.j0 k y0 y1 y2 y3 y4 y5 y6 y7 y8 y9 y10 y11 y12 y13 y14 y15 y16) (laws_FnExactPostEntry.j0 (k + 1) y0 y1 y2 y3 y4 y5 y6 y7 y8 y9 y10 y11 y12 y13 y14 y15 y16)) ∧ (∀ y0 y1 y2 y3 y4 y5 y6 y7 y8 y9 y10, LeO (laws_FnExactPostEntry.j1 k y0 y1 y2 y3 y4 y5 y6 y7 y8 y9 y10) (laws_FnExactPostEntry.j1 (k + 1) y0 y1 y2 y3 y4 y5 y6 y7 y8 y9 y10)) ∧ (∀ y0 y1 y2 y3, LeO (laws_FnExactPostEntry.j2 k y0 y1 y2 y3) (laws_FnExactPostEntry.j2 (k + 1) y0 y1 y2 y3))
 | 0 => ⟨fun _ _ _ _ _ _ _ _ _ _ _ _ _ _ _ _ _ r h => by simp [laws_FnExactPostEntry.j0] at h, fun _ _ _ _ _ _ _ _ _ _ _ r h => by simp [laws_FnExactPostEntry.j1] at h, fun _ _ _ _ r h => by simp [laws_FnExactPostEntry.j2] at h⟩
 | k + 1 => by
  obtain ⟨ih0, ih1, ih2⟩ := laws_FnExactPostEntry.mono_l k
  refine ⟨?_, ?_, ?_⟩
  all_goals intros
  all_goals (first | unfold laws_FnExactPostEntry.j0 | unfold laws_FnExactPostEntry.j1 | unfold laws_FnExactPostEntry.j2)
  all_goals
   repeat' with_reducible first | apply ih0 | apply ih1 | apply ih2 | apply impl_PostEntry.mono | apply laws_eqBookEntry.mono | apply laws_eqLedger.mono | apply laws_heldLedger.mono | apply laws_markBookEntry.mono | apply laws_markLedger.mono | apply laws_szLedger.mono | apply laws_toBookEntry.mono | apply laws_toLedger.mono | apply spec_PostEntry.mono | exact LeO.refl _ | exact LeO.none _ | refine LeO.ite ?_ ?_ | refine LeO.bind ?_ (fun _ => ?_)
theorem laws_FnExactPostEntry.mono : ∀ a0 a1 a2 a3 a4 k, LeO (laws_FnExactPostEntry.f k a0 a1 a2 a3 a4) (laws_FnExactPostEntry.f (k + 1) a0 a1 a2 a3 a4) := by
 intro a0 a1 a2 a3 a4 k
 obtain ⟨ih0, ih1, ih2⟩ := laws_FnExactPostEntry.mono_l k
 unfold laws_FnExactPostEntry.f
 repeat' with_reducible first | apply ih0 | apply ih1 | apply ih2 | apply impl_PostEntry.mono | apply laws_eqBookEntry.mono | apply laws_eqLedger.mono | apply laws_heldLedger.mono | apply laws_markBookEntry.mono | apply laws_markLedger.mono | apply laws_szLedger.mono | apply laws_toBookEntry.mono | apply laws_toLedger.mono | apply spec_PostEntry.mono | exact LeO.refl _ | exact LeO.none _ | refine LeO.ite ?_ ?_ | refine LeO.bind ?_ (fun _ => ?_)
def laws_FnExactPostEntry.T8 : Bool × List (List Nat × List Nat) := (true, [([], []), ([0], [0]), ([], []), ([2, 1], [2]), ([1, 3, 3], [1, 3]), ([4], [4]), ([5], [5]), ([5], [5]), ([], []), ([8, 6, 4, 0, 1, 2, 3, 4, 5, 6, 8], [6, 8]), ([7, 9, 0, 1, 2, 3, 4, 5, 6, 7, 8, 9], [7])])
def laws_FnExactPostEntry.B8 : List Nat := [0, 1, 0, 7, 15, 31, 63, 63, 0, 383, 1023]
theorem laws_FnExactPostEntry.tab8 : rtab .any (opsOf Tryd.f9 8) = laws_FnExactPostEntry.T8 := by kernel_rfl
theorem laws_FnExactPostEntry.bits8 : waitsOk laws_FnExactPostEntry.T8.2 laws_FnExactPostEntry.B8 = true := by kernel_rfl
def laws_FnExactPostEntry.T31 : Bool × List (List Nat × List Nat) := (true, [([], []), ([0], [0]), ([], []), ([2, 1], [2]), ([1, 3, 3], [1, 3]), ([4], [4]), ([5], [5]), ([5], [5]), ([], []), ([8, 6, 4, 0, 1, 2, 3, 4, 5, 6, 8], [6, 8]), ([7, 9, 0, 1, 2, 3, 4, 5, 6, 7, 8, 9], [7])])
def laws_FnExactPostEntry.B31 : List Nat := [0, 1, 0, 7, 15, 31, 63, 63, 0, 383, 1023]
theorem laws_FnExactPostEntry.tab31 : rtab .any (opsOf Tryd.f9 31) = laws_FnExactPostEntry.T31 := by kernel_rfl
theorem laws_FnExactPostEntry.bits31 : waitsOk laws_FnExactPostEntry.T31.2 laws_FnExactPostEntry.B31 = true := by kernel_rfl
set_option maxHeartbeats 8000000 in
set_option maxRecDepth 100000 in
theorem laws_FnExactPostEntry.calls (k : Nat) (A0_0 : Option Addr) (c0_0 : Nat) (l0_0 : List (S109)) (A0_1 : Option Addr) (c0_1 : Nat) (l0_1 : List (S58)) (a1_0 : Int) (a1_1 : ByteArray) (A1_2 : Option Addr) (c1_2 : Nat) (l1_2 : List (S120)) (r : Bool) (w : World) (hr0_0 : Kd.C k109 w A0_0 l0_0.length l0_0) (hc0_0 : l0_0.length ≤ c0_0) (hr0_1 : Kd.C k58 w A0_1 l0_1.length l0_1) (hc0_1 : l0_1.length ≤ c0_1) (hr1_2 : Kd.C k120 w A1_2 l1_2.length l1_2) (hc1_2 : l1_2.length ≤ c1_2) (h : laws_FnExactPostEntry.f k l0_0 l0_1 a1_0 a1_1 l1_2 = some r) :
 Calls Tryd.prog 9 #[.agg #[.slice A0_0 l0_0.length c0_0, .slice A0_1 l0_1.length c0_1], .agg #[.int .i64 a1_0, .string a1_1, .slice A1_2 l1_2.length c1_2]] w fun e w' => e = .returned (.bool r) ∧ Below w.heap.size w w' := by
 have hu25 := Tryd.underlying25
 have hu58 := Tryd.underlying58
 have hu31 := Tryd.underlying31
 have hu63 := Tryd.underlying63
 have HR0_0 := Aside0.mk hr0_0
 have HC0_0 := Aside0.mk hc0_0
 clear hr0_0 hc0_0
 have HR0_1 := Aside0.mk hr0_1
 have HC0_1 := Aside0.mk hc0_1
 clear hr0_1 hc0_1
 have HR1_2 := Aside0.mk hr1_2
 have HC1_2 := Aside0.mk hc1_2
 clear hr1_2 hc1_2
 have HB := Aside0.mk (Below.refl w.heap.size w)
 have H := h
 clear h
 unfold laws_FnExactPostEntry.f at H
 obtain ⟨t407, A3, H⟩ := bdY H
 by_cases c4 : t407 < 0
 ·rw [if_pos c4] at H
  have c4b0 := decide_eq_true c4
  clear c4
  obtain rfl := Option.some.inj H
  go_enter Tryd.func9, Tryd.ntmps9
  go_wp2_with (first | ((with_reducible refine gate_dst (N := 2) rfl ?_); refine bx 2 (cs := #[.slice A0_0 l0_0.length c0_0, .slice A0_1 l0_1.length c0_1]) (t := 25) ?_; intro gb405 hg w5 hbox hb; have BK405 := Aside0.mk (hbox); have GW405 := gw hg; have GE405 := gw hg; replace HB := hB hb; clear hb hbox hg) | ((with_reducible refine gate_dst (N := 3) rfl ?_); refine bx 3 (cs := #[.int .i64 a1_0, .string a1_1, .slice A1_2 l1_2.length c1_2]) (t := 58) ?_; intro gb406 hg w6 hbox hb; have BK406 := Aside0.mk (hbox); have GW406 := gw hg; have GE406 := gw hg; replace HB := hB hb; have NB405_406 := nl hg BK405; have NB406_405 := ng hg BK405; replace BK405 := kb BK405 hb; clear hb hbox hg; have hnb7 := NB405_406.out; have hnc7 := NB406_405.out; obtain ⟨hcz8_0, hcz8_1, hfz8_0, hfz8_1⟩ := z2 BK405) | (refine gc 19 Tryd.func14 #[.agg #[.slice A0_0 l0_0.length c0_0, .slice A0_1 l0_1.length c0_1], .int .i64 1048576] ?_; (with_reducible refine (laws_szLedger.calls k _ _ l0_0 _ _ l0_1 1048576 t407 _ ?side1 ?side2 ?side3 ?side4 A3.out).mono ?_); (case side1 => exact (rC (Kd.C_below HR0_0.out HB.out))); (case side2 => exact HC0_0.out); (case side3 => exact (rC (Kd.C_below HR0_1.out HB.out))); (case side4 => exact HC0_1.out); rintro e w9 ⟨rfl, hb⟩; refine ⟨_, rfl, ?_⟩; replace BK405 := kb BK405 hb; replace BK406 := kb BK406 hb; replace HB := hB hb; (try clear hb); (try clear hb2); (try clear hk); (try clear hi)))
  go_ret
  exact ⟨ZZab01d2, ZZ295621⟩
 rw [if_neg c4] at H
 have c4b0 := decide_eq_false c4
 clear c4
 obtain ⟨t408, A10, H⟩ := bdY H
 by_cases c11 : t408 < 0
 ·rw [if_pos c11] at H
  have c11b0 := decide_eq_true c11
  clear c11
  obtain rfl := Option.some.inj H
  go_enter Tryd.func9, Tryd.ntmps9
  go_wp2_with (first | ((with_reducible refine gate_dst (N := 2) rfl ?_); refine bx 2 (cs := #[.slice A0_0 l0_0.length c0_0, .slice A0_1 l0_1.length c0_1]) (t := 25) ?_; intro gb405 hg w12 hbox hb; have BK405 := Aside0.mk (hbox); have GW405 := gw hg; have GE405 := gw hg; replace HB := hB hb; clear hb hbox hg) | ((with_reducible refine gate_dst (N := 3) rfl ?_); refine bx 3 (cs := #[.int .i64 a1_0, .string a1_1, .slice A1_2 l1_2.length c1_2]) (t := 58) ?_; intro gb406 hg w13 hbox hb; have BK406 := Aside0.mk (hbox); have GW406 := gw hg; have GE406 := gw hg; replace HB := hB hb; have NB405_406 := nl hg BK405; have NB406_405 := ng hg BK405; replace BK405 := kb BK405 hb; clear hb hbox hg; have hnb14 := NB405_406.out; have hnc14 := NB406_405.out; obtain ⟨hcz15_0, hcz15_1, hfz15_0, hfz15_1⟩ := z2 BK405) | (refine gc 19 Tryd.func14 #[.agg #[.slice A0_0 l0_0.length c0_0, .slice A0_1 l0_1.length c0_1], .int .i64 1048576] ?_; (with_reducible refine (laws_szLedger.calls k _ _ l0_0 _ _ l0_1 1048576 t407 _ ?side1 ?side2 ?side3 ?side4 A3.out).mono ?_); (case side1 => exact (rC (Kd.C_below HR0_0.out HB.out))); (case side2 => exact HC0_0.out); (case side3 => exact (rC (Kd.C_below HR0_1.out HB.out))); (case side4 => exact HC0_1.out); rintro e w16 ⟨rfl, hb⟩; refine ⟨_, rfl, ?_⟩; replace BK405 := kb BK405 hb; replace BK406 := kb BK406 hb; replace HB := hB hb; (try clear hb); (try clear hb2); (try clear hk); (try clear hi); obtain ⟨hcz17_0, hcz17_1, hcz17_2, hfz17_0, hfz17_1, hfz17_2⟩ := z3 BK406) | (refine gc 24 Tryd.func35 #[.agg #[.int .i64 a1_0, .string a1_1, .slice A1_2 l1_2.length c1_2], .int .i64 t407] ?_; (with_reducible refine (laws_szBookEntry.calls a1_0 a1_1 _ _ l1_2 t407 t408 _ ?side1 ?side2 A10.out).mono ?_); (case side1 => exact (rC (Kd.C_below HR1_2.out HB.out))); (case side2 => exact HC1_2.out); rintro e w18 ⟨rfl, hb⟩; refine ⟨_, rfl, ?_⟩; replace BK405 := kb BK405 hb; replace BK406 := kb BK406 hb; replace HB := hB hb; (try clear hb); (try clear hb2); (try clear hk); (try clear hi)))
  go_ret
  exact ⟨ZZab01d2, ZZ295621⟩
 rw [if_neg c11] at H
 have c11b0 := decide_eq_false c11
 clear c11
 obtain ⟨⟨t409, t412⟩, A19, H⟩ := bdY H
 try dsimp only at H
 obtain ⟨⟨t415, t416, t417⟩, A20, H⟩ := bdY H
 try dsimp only at H
 obtain ⟨⟨t420, t423, t426⟩, A21, H⟩ := bdY H
 try dsimp only at H
 obtain ⟨⟨t428, t431⟩, A22, H⟩ := bdY H
 try dsimp only at H
 obtain ⟨⟨t435, t436, t437⟩, A23, H⟩ := bdY H
 try dsimp only at H
 obtain ⟨⟨t441, t444, t447⟩, A24, H⟩ := bdY H
 try dsimp only at H
 have HC25 := Aside0.mk H
 clear H
 go_enter Tryd.func9, Tryd.ntmps9
 try go_wp2_with (first | ((with_reducible refine gate_dst (N := 2) rfl ?_); refine bx 2 (cs := #[.slice A0_0 l0_0.length c0_0, .slice A0_1 l0_1.length c0_1]) (t := 25) ?_; intro gb405 hg w26 hbox hb; have BK405 := Aside0.mk (hbox); have GW405 := gw hg; have GE405 := gw hg; replace HB := hB hb; clear hb hbox hg) | ((with_reducible refine gate_dst (N := 3) rfl ?_); refine bx 3 (cs := #[.int .i64 a1_0, .string a1_1, .slice A1_2 l1_2.length c1_2]) (t := 58) ?_; intro gb406 hg w27 hbox hb; have BK406 := Aside0.mk (hbox); have GW406 := gw hg; have GE406 := gw hg; replace HB := hB hb; have NB405_406 := nl hg BK405; have NB406_405 := ng hg BK405; replace BK405 := kb BK405 hb; clear hb hbox hg; have hnb28 := NB405_406.out; have hnc28 := NB406_405.out; obtain ⟨hcz29_0, hcz29_1, hfz29_0, hfz29_1⟩ := z2 BK405) | (refine gc 19 Tryd.func14 #[.agg #[.slice A0_0 l0_0.length c0_0, .slice A0_1 l0_1.length c0_1], .int .i64 1048576] ?_; (with_reducible refine (laws_szLedger.calls k _ _ l0_0 _ _ l0_1 1048576 t407 _ ?side1 ?side2 ?side3 ?side4 A3.out).mono ?_); (case side1 => exact (rC (Kd.C_below HR0_0.out HB.out))); (case side2 => exact HC0_0.out); (case side3 => exact (rC (Kd.C_below HR0_1.out HB.out))); (case side4 => exact HC0_1.out); rintro e w30 ⟨rfl, hb⟩; refine ⟨_, rfl, ?_⟩; replace BK405 := kb BK405 hb; replace BK406 := kb BK406 hb; replace HB := hB hb; (try clear hb); (try clear hb2); (try clear hk); (try clear hi); obtain ⟨hcz31_0, hcz31_1, hcz31_2, hfz31_0, hfz31_1, hfz31_2⟩ := z3 BK406) | (refine gc 24 Tryd.func35 #[.agg #[.int .i64 a1_0, .string a1_1, .slice A1_2 l1_2.length c1_2], .int .i64 t407] ?_; (with_reducible refine (laws_szBookEntry.calls a1_0 a1_1 _ _ l1_2 t407 t408 _ ?side1 ?side2 A10.out).mono ?_); (case side1 => exact (rC (Kd.C_below HR1_2.out HB.out))); (case side2 => exact HC1_2.out); rintro e w32 ⟨rfl, hb⟩; refine ⟨_, rfl, ?_⟩; replace BK405 := kb BK405 hb; replace BK406 := kb BK406 hb; replace HB := hB hb; (try clear hb); (try clear hb2); (try clear hk); (try clear hi)))
 replace BK405 := Aside0.mk (blk_drew BK405.out)
 replace BK406 := Aside0.mk (blk_drew BK406.out)
 replace HB := Aside0.mk (below_drew1 HB.out)
 refine st 11 (S := fun w' => w'.cell? ⟨gb405, 0, none⟩ = some (.slice A0_0 l0_0.length c0_0) ∧ w'.cell? ⟨gb405, 1, none⟩ = some (.slice A0_1 l0_1.length c0_1) ∧ w'.cell? ⟨gb406, 0, none⟩ = some (.int .i64 a1_0) ∧ w'.cell? ⟨gb406, 1, none⟩ = some (.string a1_1) ∧ w'.cell? ⟨gb406, 2, none⟩ = some (.slice A1_2 l1_2.length c1_2)) laws_FnExactPostEntry.tab8 laws_FnExactPostEntry.bits8 zK (fun hHeld HT_ HW_ => ?_)
 generalize w32.drew = w33 at BK405 BK406 HB hHeld ⊢
 refine tk 0 28 ?_
 refine tk 2 30 ?_
 refine join_ (σ := Value × Value × Value × Value × Value × Nat) 2 #[true, true, true, true, true, true, true, true, true, false, false] (fun s_ => [(29, .agg #[s_.1, s_.2.1]), (31, .agg #[.int .i64 t415, .string t416, s_.2.2.1]), (32, .tuple #[.agg #[s_.2.2.2.1, s_.2.2.2.2.1], .bool t426]), (6, .pointer (some ⟨s_.2.2.2.2.2, 0, none⟩)), (27, .tuple #[.agg #[s_.2.2.2.1, s_.2.2.2.2.1], .bool t426]), (33, .agg #[s_.2.2.2.1, s_.2.2.2.2.1]), (34, .bool t426)]) (fun s_ w' => (w'.cell? ⟨gb405, 0, none⟩ = some (.slice A0_0 l0_0.length c0_0) ∧ w'.cell? ⟨gb405, 1, none⟩ = some (.slice A0_1 l0_1.length c0_1) ∧ w'.cell? ⟨gb406, 0, none⟩ = some (.int .i64 a1_0) ∧ w'.cell? ⟨gb406, 1, none⟩ = some (.string a1_1) ∧ w'.cell? ⟨gb406, 2, none⟩ = some (.slice A1_2 l1_2.length c1_2)) ∧ (Kd.R k48 48 w' w.heap.size (fun k_ => some k_ ≠ (s_.2.2.2.1 : Value).ownBlock) s_.1 t409) ∧ (Kd.S k63 63 w' w.heap.size (fun k_ => some k_ ≠ (s_.2.2.1 : Value).ownBlock ∧ some k_ ≠ (s_.2.2.2.2.1 : Value).ownBlock) s_.2.1 t412) ∧ (Kd.R k70 70 w' w.heap.size (fun _ => True) s_.2.2.1 t417) ∧ (Kd.R k48 48 w' w.heap.size (fun k_ => some k_ ≠ (s_.1 : Value).ownBlock) s_.2.2.2.1 t420) ∧ (Kd.S k63 63 w' w.heap.size (fun k_ => some k_ ≠ (s_.2.1 : Value).ownBlock ∧ some k_ ≠ (s_.2.2.1 : Value).ownBlock) s_.2.2.2.2.1 t423) ∧ (w'.heap[gb405]? = some (.cells #[.slice A0_0 l0_0.length c0_0, .slice A0_1 l0_1.length c0_1] 25 (0, 0))) ∧ (w'.heap[gb406]? = some (.cells #[.int .i64 a1_0, .string a1_1, .slice A1_2 l1_2.length c1_2] 58 (0, 0))) ∧ (w'.heap[s_.2.2.2.2.2]? = some (.cells #[.slice none 0 0, .slice none 0 0] 31 (0, 0))) ∧ (w.heap.size ≤ s_.2.2.2.2.2) ∧ (w.heap.size ≤ s_.2.2.2.2.2) ∧ (gb405 ≠ s_.2.2.2.2.2) ∧ (s_.2.2.2.2.2 ≠ gb405) ∧ (gb406 ≠ s_.2.2.2.2.2) ∧ (s_.2.2.2.2.2 ≠ gb406) ∧ (Below w.heap.size w w')) ?_ ?_
 rotate_left
 ·intro hCont
  refine two_ (i := 1) (j := 8) (Ni := some 29) (Nj := some 6) #[true, true, true, false, false, false, false, false, false, false, false] #[true, false, true, false, false, false, false, false, true, false, false] rfl rfl rfl rfl (two_of HT_.out (by kernel_rfl)) (by decide) (by decide) (fun K hK => ?_) (fun K hK => ?_)
  ·skip
   refine goes_ Tryd.func16 (by kernel_rfl) rfl #[.agg #[.slice A0_0 l0_0.length c0_0, .slice A0_1 l0_1.length c0_1]] (by rfl) rfl rfl ZZ19826e ?_
   with_reducible refine (laws_toLedger.calls k _ _ l0_0 _ _ l0_1 t409 t412 _ ?side1 ?side2 ?side3 ?side4 A19.out).mono ?_
   (case side1 => exact (rC (Kd.C_below HR0_0.out HB.out)))
   (case side2 => exact HC0_0.out)
   (case side3 => exact (rC (Kd.C_below HR0_1.out HB.out)))
   (case side4 => exact HC0_1.out)
   rintro e w34 ⟨v410, v413, rfl, ho0, ho1, hb⟩
   refine ⟨_, rfl, ?_⟩
   have HO411 := Aside0.mk (Kd.R_lower ho0 (below_size ZZ295621))
   have HO414 := Aside0.mk (Kd.S_lower ho1 (below_size ZZ295621))
   replace BK405 := kb BK405 hb
   replace BK406 := kb BK406 hb
   replace HB := hB hb
   (try clear hb)
   (try clear hb2)
   (try clear hk)
   (try clear hi)
   (try clear ho0)
   (try clear ho1)
   refine hK.out _ _ zK (fun hHeld => ?_)
   clear hK K
   refine nd (some 29) ?_
   refine two_ (i := 3) (j := 8) (Ni := some 31) (Nj := some 6) #[true, true, true, true, false, false, false, false, false, false, false] #[true, true, true, false, false, false, false, false, true, false, false] rfl rfl rfl rfl (two_of HT_.out (by kernel_rfl)) (by decide) (by decide) (fun K hK => ?_) (fun K hK => ?_)
   ·skip
    refine goes_ Tryd.func37 (by kernel_rfl) rfl #[.agg #[.int .i64 a1_0, .string a1_1, .slice A1_2 l1_2.length c1_2]] (by rfl) rfl rfl ZZ19826e ?_
    with_reducible refine (laws_toBookEntry.calls k a1_0 a1_1 _ _ l1_2 t415 t416 t417 _ ?side1 ?side2 A20.out).mono ?_
    (case side1 => exact (rC (Kd.C_below HR1_2.out HB.out)))
    (case side2 => exact HC1_2.out)
    rintro e w35 ⟨v418, rfl, ho0, hb⟩
    refine ⟨_, rfl, ?_⟩
    replace HO411 := Aside0.mk (Kd.R_below (zR HO411) hb)
    replace HO414 := Aside0.mk (Kd.S_elder' (zS HO414) (Kd.R_base ho0) hb)
    have HO419 := Aside0.mk (Kd.R_lower ho0 (below_size ZZ295621))
    replace BK405 := kb BK405 hb
    replace BK406 := kb BK406 hb
    replace HB := hB hb
    (try clear hb)
    (try clear hb2)
    (try clear hk)
    (try clear hi)
    (try clear ho0)
    obtain ⟨Ao36, co36, eo36⟩ := Kd.R_slice HO411.out
    (first | subst eo36 | (injection eo36 with f1_ f2_ f3_; have f4_ := f1_.symm; have f5_ := f3_.symm; clear f1_ f2_ f3_; subst f4_; subst f5_))
    obtain ⟨Ao37, co37, eo37⟩ := Kd.S_slice HO414.out
    (first | subst eo37 | (injection eo37 with f1_ f2_ f3_; have f4_ := f1_.symm; have f5_ := f3_.symm; clear f1_ f2_ f3_; subst f4_; subst f5_))
    obtain ⟨Ao38, co38, eo38⟩ := Kd.R_slice HO419.out
    (first | subst eo38 | (injection eo38 with f1_ f2_ f3_; have f4_ := f1_.symm; have f5_ := f3_.symm; clear f1_ f2_ f3_; subst f4_; subst f5_))
    refine hK.out _ _ zK (fun hHeld => ?_)
    clear hK K
    refine nd (some 31) ?_
    refine two_ (i := 4) (j := 8) (Ni := some 32) (Nj := some 6) #[true, true, true, true, true, false, false, false, false, false, false] #[true, true, true, true, false, false, false, false, true, false, false] rfl rfl rfl rfl (two_of HT_.out (by kernel_rfl)) (by decide) (by decide) (fun K hK => ?_) (fun K hK => ?_)
    ·skip
     refine goes_ Tryd.func36 (by kernel_rfl) rfl #[.agg #[.slice Ao36 t409.length co36, .slice Ao37 t412.length co37], .agg #[.int .i64 t415, .string t416, .slice Ao38 t417.length co38]] (by rfl) rfl rfl ZZ19826e ?_
     with_reducible refine (spec_PostEntry.calls k _ _ t409 _ _ t412 t415 t416 _ _ t417 t420 t423 t426 _ ?side1 ?side2 ?side3 ?side4 ?side5 ?side6 A21.out).mono ?_
     (case side1 => exact rC (Kd.R_reads' HO411.out).2.2)
     (case side2 => exact (Kd.R_reads' HO411.out).2.1)
     (case side3 => exact rC (Kd.S_reads' HO414.out).2.2)
     (case side4 => exact (Kd.S_reads' HO414.out).2.1)
     (case side5 => exact rC (Kd.R_reads' HO419.out).2.2)
     (case side6 => exact (Kd.R_reads' HO419.out).2.1)
     rintro e w39 ⟨v421, v424, rfl, ho0, ho1, hb⟩
     refine ⟨_, rfl, ?_⟩
     have HO422 := Aside0.mk (Kd.R_lower (Kd.R_new' ho0 (Kd.R_lt (zR HO411))) (below_size ZZ295621))
     replace HO411 := Aside0.mk (Kd.R_elder' (zR HO411) (Kd.R_base ho0) hb)
     have HO425 := Aside0.mk (Kd.S_lower (Kd.S_new' (Kd.S_new' ho1 (Kd.S_lt (zS HO414))) (Kd.R_lt (zR HO419))) (below_size ZZ295621))
     replace HO414 := Aside0.mk (Kd.S_elder' (zS HO414) (Kd.S_base ho1) hb)
     replace HO419 := Aside0.mk (Kd.R_below (zR HO419) hb)
     replace BK405 := kb BK405 hb
     replace BK406 := kb BK406 hb
     replace HB := hB hb
     (try clear hb)
     (try clear hb2)
     (try clear hk)
     (try clear hi)
     (try clear ho0)
     (try clear ho1)
     refine hK.out _ _ zK (fun hHeld => ?_)
     clear hK K
     refine nd (some 32) ?_
     refine pu 5 27 ?_
     refine pu 6 33 ?_
     refine pu 7 34 ?_
     refine on 8 (some 6) (fun K hK => ?_)
     refine box_step ?hg (N := 6) ?hd (cs := #[.slice none 0 0, .slice none 0 0]) (t := 31) ?hr ?_; (case hd => rfl); (case hg => rfl); (case hr => first | (go_simp; done) | (go_simp; rfl))
     intro gb427 hg w40 hbox hb
     replace HO411 := Aside0.mk (Kd.R_below (zR HO411) hb)
     replace HO414 := Aside0.mk (Kd.S_below (zS HO414) hb)
     replace HO419 := Aside0.mk (Kd.R_below (zR HO419) hb)
     replace HO422 := Aside0.mk (Kd.R_below (zR HO422) hb)
     replace HO425 := Aside0.mk (Kd.S_below (zS HO425) hb)
     have BK427 := Aside0.mk (hbox)
     have GW427 := gw hg
     have GE427 := gw hg
     replace HB := hB hb
     have NB405_427 := nl hg BK405
     have NB427_405 := ng hg BK405
     replace BK405 := kb BK405 hb
     have NB406_427 := nl hg BK406
     have NB427_406 := ng hg BK406
     replace BK406 := kb BK406 hb
     clear hb hbox hg
     refine hK.out _ _ zK (fun hHeld => ?_)
     clear hK K
     refine nd (some 6) ?_
     exact norm_ ZZ539e1d (hCont (.slice Ao36 t409.length co36, .slice Ao37 t412.length co37, .slice Ao38 t417.length co38, v421, v424, gb427) _ ⟨hHeld, ZZ308480, ZZ2424d1, (zR HO419), ZZ53f29f, ZZ99750c, (zB BK405), (zB BK406), (zB BK427), GW427.out, GE427.out, NB405_427.out, NB427_405.out, NB406_427.out, NB427_406.out, ZZ295621⟩)
    skip
    refine box_step ?hg (N := 6) ?hd (cs := #[.slice none 0 0, .slice none 0 0]) (t := 31) ?hr ?_; (case hd => rfl); (case hg => rfl); (case hr => first | (go_simp; done) | (go_simp; rfl))
    intro gb427 hg w36 hbox hb
    replace HO411 := Aside0.mk (Kd.R_below (zR HO411) hb)
    replace HO414 := Aside0.mk (Kd.S_below (zS HO414) hb)
    replace HO419 := Aside0.mk (Kd.R_below (zR HO419) hb)
    have BK427 := Aside0.mk (hbox)
    have GW427 := gw hg
    have GE427 := gw hg
    replace HB := hB hb
    have NB405_427 := nl hg BK405
    have NB427_405 := ng hg BK405
    replace BK405 := kb BK405 hb
    have NB406_427 := nl hg BK406
    have NB427_406 := ng hg BK406
    replace BK406 := kb BK406 hb
    clear hb hbox hg
    obtain ⟨Ao37, co37, eo37⟩ := Kd.R_slice HO411.out
    (first | subst eo37 | (injection eo37 with f1_ f2_ f3_; have f4_ := f1_.symm; have f5_ := f3_.symm; clear f1_ f2_ f3_; subst f4_; subst f5_))
    obtain ⟨Ao38, co38, eo38⟩ := Kd.S_slice HO414.out
    (first | subst eo38 | (injection eo38 with f1_ f2_ f3_; have f4_ := f1_.symm; have f5_ := f3_.symm; clear f1_ f2_ f3_; subst f4_; subst f5_))
    obtain ⟨Ao39, co39, eo39⟩ := Kd.R_slice HO419.out
    (first | subst eo39 | (injection eo39 with f1_ f2_ f3_; have f4_ := f1_.symm; have f5_ := f3_.symm; clear f1_ f2_ f3_; subst f4_; subst f5_))
    refine hK.out _ _ zK (fun hHeld => ?_)
    clear hK K
    refine nd (some 6) ?_
    refine on 4 (some 32) (fun K hK => ?_)
    refine goes_ Tryd.func36 (by kernel_rfl) rfl #[.agg #[.slice Ao37 t409.length co37, .slice Ao38 t412.length co38], .agg #[.int .i64 t415, .string t416, .slice Ao39 t417.length co39]] (by rfl) rfl rfl ZZ19826e ?_
    with_reducible refine (spec_PostEntry.calls k _ _ t409 _ _ t412 t415 t416 _ _ t417 t420 t423 t426 _ ?side1 ?side2 ?side3 ?side4 ?side5 ?side6 A21.out).mono ?_
    (case side1 => exact rC (Kd.R_reads' HO411.out).2.2)
    (case side2 => exact (Kd.R_reads' HO411.out).2.1)
    (case side3 => exact rC (Kd.S_reads' HO414.out).2.2)
    (case side4 => exact (Kd.S_reads' HO414.out).2.1)
    (case side5 => exact rC (Kd.R_reads' HO419.out).2.2)
    (case side6 => exact (Kd.R_reads' HO419.out).2.1)
    rintro e w40 ⟨v421, v424, rfl, ho0, ho1, hb⟩
    refine ⟨_, rfl, ?_⟩
    have HO422 := Aside0.mk (Kd.R_lower (Kd.R_new' ho0 (Kd.R_lt (zR HO411))) (below_size ZZ295621))
    replace HO411 := Aside0.mk (Kd.R_elder' (zR HO411) (Kd.R_base ho0) hb)
    have HO425 := Aside0.mk (Kd.S_lower (Kd.S_new' (Kd.S_new' ho1 (Kd.S_lt (zS HO414))) (Kd.R_lt (zR HO419))) (below_size ZZ295621))
    replace HO414 := Aside0.mk (Kd.S_elder' (zS HO414) (Kd.S_base ho1) hb)
    replace HO419 := Aside0.mk (Kd.R_below (zR HO419) hb)
    replace BK405 := kb BK405 hb
    replace BK406 := kb BK406 hb
    replace BK427 := kb BK427 hb
    replace HB := hB hb
    (try clear hb)
    (try clear hb2)
    (try clear hk)
    (try clear hi)
    (try clear ho0)
    (try clear ho1)
    refine hK.out _ _ zK (fun hHeld => ?_)
    clear hK K
    refine nd (some 32) ?_
    refine pu 5 27 ?_
    refine pu 6 33 ?_
    refine pu 7 34 ?_
    exact norm_ ZZ539e1d (hCont (.slice Ao37 t409.length co37, .slice Ao38 t412.length co38, .slice Ao39 t417.length co39, v421, v424, gb427) _ ⟨hHeld, ZZ308480, ZZ2424d1, (zR HO419), ZZ53f29f, ZZ99750c, (zB BK405), (zB BK406), (zB BK427), GW427.out, GE427.out, NB405_427.out, NB427_405.out, NB406_427.out, NB427_406.out, ZZ295621⟩)
   skip
   refine box_step ?hg (N := 6) ?hd (cs := #[.slice none 0 0, .slice none 0 0]) (t := 31) ?hr ?_; (case hd => rfl); (case hg => rfl); (case hr => first | (go_simp; done) | (go_simp; rfl))
   intro gb427 hg w35 hbox hb
   replace HO411 := Aside0.mk (Kd.R_below (zR HO411) hb)
   replace HO414 := Aside0.mk (Kd.S_below (zS HO414) hb)
   have BK427 := Aside0.mk (hbox)
   have GW427 := gw hg
   have GE427 := gw hg
   replace HB := hB hb
   have NB405_427 := nl hg BK405
   have NB427_405 := ng hg BK405
   replace BK405 := kb BK405 hb
   have NB406_427 := nl hg BK406
   have NB427_406 := ng hg BK406
   replace BK406 := kb BK406 hb
   clear hb hbox hg
   refine hK.out _ _ zK (fun hHeld => ?_)
   clear hK K
   refine nd (some 6) ?_
   refine on 3 (some 31) (fun K hK => ?_)
   refine goes_ Tryd.func37 (by kernel_rfl) rfl #[.agg #[.int .i64 a1_0, .string a1_1, .slice A1_2 l1_2.length c1_2]] (by rfl) rfl rfl ZZ19826e ?_
   with_reducible refine (laws_toBookEntry.calls k a1_0 a1_1 _ _ l1_2 t415 t416 t417 _ ?side1 ?side2 A20.out).mono ?_
   (case side1 => exact (rC (Kd.C_below HR1_2.out HB.out)))
   (case side2 => exact HC1_2.out)
   rintro e w36 ⟨v418, rfl, ho0, hb⟩
   refine ⟨_, rfl, ?_⟩
   replace HO411 := Aside0.mk (Kd.R_below (zR HO411) hb)
   replace HO414 := Aside0.mk (Kd.S_elder' (zS HO414) (Kd.R_base ho0) hb)
   have HO419 := Aside0.mk (Kd.R_lower ho0 (below_size ZZ295621))
   replace BK405 := kb BK405 hb
   replace BK406 := kb BK406 hb
   replace BK427 := kb BK427 hb
   replace HB := hB hb
   (try clear hb)
   (try clear hb2)
   (try clear hk)
   (try clear hi)
   (try clear ho0)
   obtain ⟨Ao37, co37, eo37⟩ := Kd.R_slice HO411.out
   (first | subst eo37 | (injection eo37 with f1_ f2_ f3_; have f4_ := f1_.symm; have f5_ := f3_.symm; clear f1_ f2_ f3_; subst f4_; subst f5_))
   obtain ⟨Ao38, co38, eo38⟩ := Kd.S_slice HO414.out
   (first | subst eo38 | (injection eo38 with f1_ f2_ f3_; have f4_ := f1_.symm; have f5_ := f3_.symm; clear f1_ f2_ f3_; subst f4_; subst f5_))
   obtain ⟨Ao39, co39, eo39⟩ := Kd.R_slice HO419.out
   (first | subst eo39 | (injection eo39 with f1_ f2_ f3_; have f4_ := f1_.symm; have f5_ := f3_.symm; clear f1_ f2_ f3_; subst f4_; subst f5_))
   refine hK.out _ _ zK (fun hHeld => ?_)
   clear hK K
   refine nd (some 31) ?_
   refine on 4 (some 32) (fun K hK => ?_)
   refine goes_ Tryd.func36 (by kernel_rfl) rfl #[.agg #[.slice Ao37 t409.length co37, .slice Ao38 t412.length co38], .agg #[.int .i64 t415, .string t416, .slice Ao39 t417.length co39]] (by rfl) rfl rfl ZZ19826e ?_
   with_reducible refine (spec_PostEntry.calls k _ _ t409 _ _ t412 t415 t416 _ _ t417 t420 t423 t426 _ ?side1 ?side2 ?side3 ?side4 ?side5 ?side6 A21.out).mono ?_
   (case side1 => exact rC (Kd.R_reads' HO411.out).2.2)
   (case side2 => exact (Kd.R_reads' HO411.out).2.1)
   (case side3 => exact rC (Kd.S_reads' HO414.out).2.2)
   (case side4 => exact (Kd.S_reads' HO414.out).2.1)
   (case side5 => exact rC (Kd.R_reads' HO419.out).2.2)
   (case side6 => exact (Kd.R_reads' HO419.out).2.1)
   rintro e w40 ⟨v421, v424, rfl, ho0, ho1, hb⟩
   refine ⟨_, rfl, ?_⟩
   have HO422 := Aside0.mk (Kd.R_lower (Kd.R_new' ho0 (Kd.R_lt (zR HO411))) (below_size ZZ295621))
   replace HO411 := Aside0.mk (Kd.R_elder' (zR HO411) (Kd.R_base ho0) hb)
   have HO425 := Aside0.mk (Kd.S_lower (Kd.S_new' (Kd.S_new' ho1 (Kd.S_lt (zS HO414))) (Kd.R_lt (zR HO419))) (below_size ZZ295621))
   replace HO414 := Aside0.mk (Kd.S_elder' (zS HO414) (Kd.S_base ho1) hb)
   replace HO419 := Aside0.mk (Kd.R_below (zR HO419) hb)
   replace BK405 := kb BK405 hb
   replace BK406 := kb BK406 hb
   replace BK427 := kb BK427 hb
   replace HB := hB hb
   (try clear hb)
   (try clear hb2)
   (try clear hk)
   (try clear hi)
   (try clear ho0)
   (try clear ho1)
   refine hK.out _ _ zK (fun hHeld => ?_)
   clear hK K
   refine nd (some 32) ?_
   refine pu 5 27 ?_
   refine pu 6 33 ?_
   refine pu 7 34 ?_
   exact norm_ ZZ539e1d (hCont (.slice Ao37 t409.length co37, .slice Ao38 t412.length co38, .slice Ao39 t417.length co39, v421, v424, gb427) _ ⟨hHeld, ZZ308480, ZZ2424d1, (zR HO419), ZZ53f29f, ZZ99750c, (zB BK405), (zB BK406), (zB BK427), GW427.out, GE427.out, NB405_427.out, NB427_405.out, NB406_427.out, NB427_406.out, ZZ295621⟩)
  skip
  refine box_step ?hg (N := 6) ?hd (cs := #[.slice none 0 0, .slice none 0 0]) (t := 31) ?hr ?_; (case hd => rfl); (case hg => rfl); (case hr => first | (go_simp; done) | (go_simp; rfl))
  intro gb427 hg w34 hbox hb
  have BK427 := Aside0.mk (hbox)
  have GW427 := gw hg
  have GE427 := gw hg
  replace HB := hB hb
  have NB405_427 := nl hg BK405
  have NB427_405 := ng hg BK405
  replace BK405 := kb BK405 hb
  have NB406_427 := nl hg BK406
  have NB427_406 := ng hg BK406
  replace BK406 := kb BK406 hb
  clear hb hbox hg
  refine hK.out _ _ zK (fun hHeld => ?_)
  clear hK K
  refine nd (some 6) ?_
  refine on 1 (some 29) (fun K hK => ?_)
  refine goes_ Tryd.func16 (by kernel_rfl) rfl #[.agg #[.slice A0_0 l0_0.length c0_0, .slice A0_1 l0_1.length c0_1]] (by rfl) rfl rfl ZZ19826e ?_
  with_reducible refine (laws_toLedger.calls k _ _ l0_0 _ _ l0_1 t409 t412 _ ?side1 ?side2 ?side3 ?side4 A19.out).mono ?_
  (case side1 => exact (rC (Kd.C_below HR0_0.out HB.out)))
  (case side2 => exact HC0_0.out)
  (case side3 => exact (rC (Kd.C_below HR0_1.out HB.out)))
  (case side4 => exact HC0_1.out)
  rintro e w35 ⟨v410, v413, rfl, ho0, ho1, hb⟩
  refine ⟨_, rfl, ?_⟩
  have HO411 := Aside0.mk (Kd.R_lower ho0 (below_size ZZ295621))
  have HO414 := Aside0.mk (Kd.S_lower ho1 (below_size ZZ295621))
  replace BK405 := kb BK405 hb
  replace BK406 := kb BK406 hb
  replace BK427 := kb BK427 hb
  replace HB := hB hb
  (try clear hb)
  (try clear hb2)
  (try clear hk)
  (try clear hi)
  (try clear ho0)
  (try clear ho1)
  refine hK.out _ _ zK (fun hHeld => ?_)
  clear hK K
  refine nd (some 29) ?_
  refine on 3 (some 31) (fun K hK => ?_)
  refine goes_ Tryd.func37 (by kernel_rfl) rfl #[.agg #[.int .i64 a1_0, .string a1_1, .slice A1_2 l1_2.length c1_2]] (by rfl) rfl rfl ZZ19826e ?_
  with_reducible refine (laws_toBookEntry.calls k a1_0 a1_1 _ _ l1_2 t415 t416 t417 _ ?side1 ?side2 A20.out).mono ?_
  (case side1 => exact (rC (Kd.C_below HR1_2.out HB.out)))
  (case side2 => exact HC1_2.out)
  rintro e w36 ⟨v418, rfl, ho0, hb⟩
  refine ⟨_, rfl, ?_⟩
  replace HO411 := Aside0.mk (Kd.R_below (zR HO411) hb)
  replace HO414 := Aside0.mk (Kd.S_elder' (zS HO414) (Kd.R_base ho0) hb)
  have HO419 := Aside0.mk (Kd.R_lower ho0 (below_size ZZ295621))
  replace BK405 := kb BK405 hb
  replace BK406 := kb BK406 hb
  replace BK427 := kb BK427 hb
  replace HB := hB hb
  (try clear hb)
  (try clear hb2)
  (try clear hk)
  (try clear hi)
  (try clear ho0)
  obtain ⟨Ao37, co37, eo37⟩ := Kd.R_slice HO411.out
  (first | subst eo37 | (injection eo37 with f1_ f2_ f3_; have f4_ := f1_.symm; have f5_ := f3_.symm; clear f1_ f2_ f3_; subst f4_; subst f5_))
  obtain ⟨Ao38, co38, eo38⟩ := Kd.S_slice HO414.out
  (first | subst eo38 | (injection eo38 with f1_ f2_ f3_; have f4_ := f1_.symm; have f5_ := f3_.symm; clear f1_ f2_ f3_; subst f4_; subst f5_))
  obtain ⟨Ao39, co39, eo39⟩ := Kd.R_slice HO419.out
  (first | subst eo39 | (injection eo39 with f1_ f2_ f3_; have f4_ := f1_.symm; have f5_ := f3_.symm; clear f1_ f2_ f3_; subst f4_; subst f5_))
  refine hK.out _ _ zK (fun hHeld => ?_)
  clear hK K
  refine nd (some 31) ?_
  refine on 4 (some 32) (fun K hK => ?_)
  refine goes_ Tryd.func36 (by kernel_rfl) rfl #[.agg #[.slice Ao37 t409.length co37, .slice Ao38 t412.length co38], .agg #[.int .i64 t415, .string t416, .slice Ao39 t417.length co39]] (by rfl) rfl rfl ZZ19826e ?_
  with_reducible refine (spec_PostEntry.calls k _ _ t409 _ _ t412 t415 t416 _ _ t417 t420 t423 t426 _ ?side1 ?side2 ?side3 ?side4 ?side5 ?side6 A21.out).mono ?_
  (case side1 => exact rC (Kd.R_reads' HO411.out).2.2)
  (case side2 => exact (Kd.R_reads' HO411.out).2.1)
  (case side3 => exact rC (Kd.S_reads' HO414.out).2.2)
  (case side4 => exact (Kd.S_reads' HO414.out).2.1)
  (case side5 => exact rC (Kd.R_reads' HO419.out).2.2)
  (case side6 => exact (Kd.R_reads' HO419.out).2.1)
  rintro e w40 ⟨v421, v424, rfl, ho0, ho1, hb⟩
  refine ⟨_, rfl, ?_⟩
  have HO422 := Aside0.mk (Kd.R_lower (Kd.R_new' ho0 (Kd.R_lt (zR HO411))) (below_size ZZ295621))
  replace HO411 := Aside0.mk (Kd.R_elder' (zR HO411) (Kd.R_base ho0) hb)
  have HO425 := Aside0.mk (Kd.S_lower (Kd.S_new' (Kd.S_new' ho1 (Kd.S_lt (zS HO414))) (Kd.R_lt (zR HO419))) (below_size ZZ295621))
  replace HO414 := Aside0.mk (Kd.S_elder' (zS HO414) (Kd.S_base ho1) hb)
  replace HO419 := Aside0.mk (Kd.R_below (zR HO419) hb)
  replace BK405 := kb BK405 hb
  replace BK406 := kb BK406 hb
  replace BK427 := kb BK427 hb
  replace HB := hB hb
  (try clear hb)
  (try clear hb2)
  (try clear hk)
  (try clear hi)
  (try clear ho0)
  (try clear ho1)
  refine hK.out _ _ zK (fun hHeld => ?_)
  clear hK K
  refine nd (some 32) ?_
  refine pu 5 27 ?_
  refine pu 6 33 ?_
  refine pu 7 34 ?_
  exact norm_ ZZ539e1d (hCont (.slice Ao37 t409.length co37, .slice Ao38 t412.length co38, .slice Ao39 t417.length co39, v421, v424, gb427) _ ⟨hHeld, ZZ308480, ZZ2424d1, (zR HO419), ZZ53f29f, ZZ99750c, (zB BK405), (zB BK406), (zB BK427), GW427.out, GE427.out, NB405_427.out, NB427_405.out, NB406_427.out, NB427_406.out, ZZ295621⟩)
 rintro ⟨v410, v413, v418, v421, v424, gb427⟩ w41 ⟨hS_, h0_, h1_, h2_, h3_, h4_, h5_, h6_, h7_, h8_, h9_, h10_, h11_, h12_, h13_, h14_⟩
 have n0_ : Aside0 (Kd.R k48 48 w41 w.heap.size (fun k_ => some k_ ≠ (v421 : Value).ownBlock) v410 t409) := ⟨h0_⟩
 have n1_ : Aside0 (Kd.S k63 63 w41 w.heap.size (fun k_ => some k_ ≠ (v418 : Value).ownBlock ∧ some k_ ≠ (v424 : Value).ownBlock) v413 t412) := ⟨h1_⟩
 have n2_ : Aside0 (Kd.R k70 70 w41 w.heap.size (fun _ => True) v418 t417) := ⟨h2_⟩
 have n3_ : Aside0 (Kd.R k48 48 w41 w.heap.size (fun k_ => some k_ ≠ (v410 : Value).ownBlock) v421 t420) := ⟨h3_⟩
 have n4_ : Aside0 (Kd.S k63 63 w41 w.heap.size (fun k_ => some k_ ≠ (v413 : Value).ownBlock ∧ some k_ ≠ (v418 : Value).ownBlock) v424 t423) := ⟨h4_⟩
 have n5_ : Aside0 (w41.heap[gb405]? = some (.cells #[.slice A0_0 l0_0.length c0_0, .slice A0_1 l0_1.length c0_1] 25 (0, 0))) := ⟨h5_⟩
 have n6_ : Aside0 (w41.heap[gb406]? = some (.cells #[.int .i64 a1_0, .string a1_1, .slice A1_2 l1_2.length c1_2] 58 (0, 0))) := ⟨h6_⟩
 have n7_ : Aside0 (w41.heap[gb427]? = some (.cells #[.slice none 0 0, .slice none 0 0] 31 (0, 0))) := ⟨h7_⟩
 have n8_ : Aside0 (w.heap.size ≤ gb427) := ⟨h8_⟩
 have n9_ : Aside0 (w.heap.size ≤ gb427) := ⟨h9_⟩
 have n10_ : Aside0 (gb405 ≠ gb427) := ⟨h10_⟩
 have n11_ : Aside0 (gb427 ≠ gb405) := ⟨h11_⟩
 have n12_ : Aside0 (gb406 ≠ gb427) := ⟨h12_⟩
 have n13_ : Aside0 (gb427 ≠ gb406) := ⟨h13_⟩
 have n14_ : Aside0 (Below w.heap.size w w41) := ⟨h14_⟩
 clear BK405
 clear BK406
 clear HB
 clear h0_ h1_ h2_ h3_ h4_ h5_ h6_ h7_ h8_ h9_ h10_ h11_ h12_ h13_ h14_
 have HO411 := n0_
 have HO414 := n1_
 have HO419 := n2_
 have HO422 := n3_
 have HO425 := n4_
 have BK405 := n5_
 have BK406 := n6_
 have BK427 := n7_
 have GW427 := n8_
 have GE427 := n9_
 have NB405_427 := n10_
 have NB427_405 := n11_
 have NB406_427 := n12_
 have NB427_406 := n13_
 have HB := n14_
 clear n0_ n1_ n2_ n3_ n4_ n5_ n6_ n7_ n8_ n9_ n10_ n11_ n12_ n13_ n14_
 have hHeld : w41.cell? ⟨gb405, 0, none⟩ = some (.slice A0_0 l0_0.length c0_0) ∧ w41.cell? ⟨gb405, 1, none⟩ = some (.slice A0_1 l0_1.length c0_1) ∧ w41.cell? ⟨gb406, 0, none⟩ = some (.int .i64 a1_0) ∧ w41.cell? ⟨gb406, 1, none⟩ = some (.string a1_1) ∧ w41.cell? ⟨gb406, 2, none⟩ = some (.slice A1_2 l1_2.length c1_2) := hS_
 obtain ⟨Ao42, co42, eo42⟩ := Kd.R_slice HO422.out
 (first | subst eo42 | (injection eo42 with f1_ f2_ f3_; have f4_ := f1_.symm; have f5_ := f3_.symm; clear f1_ f2_ f3_; subst f4_; subst f5_))
 obtain ⟨Ao44, co44, eo44⟩ := Kd.S_slice HO425.out
 (first | subst eo44 | (injection eo44 with f1_ f2_ f3_; have f4_ := f1_.symm; have f5_ := f3_.symm; clear f1_ f2_ f3_; subst f4_; subst f5_))
 refine norm_ (a' := ?_) ?_ ?_
 rotate_left
 ·simp only [putAll, Act.put, List.setIfInBounds_toArray, List.set_cons_zero, List.set_cons_succ]
  rfl
 refine on 9 none (fun K hK => ?_)
 have hs43 := cz BK427 0
 have hfs43 := blk_frozen BK427.out 0
 have hns43_0 := NB405_427.out
 have hns43_1 := NB406_427.out
 have hms43_0 := NB427_405.out
 have hms43_1 := NB427_406.out
 have hs45 := cz BK427 1
 have hfs45 := blk_frozen BK427.out 1
 have hns45_0 := NB405_427.out
 have hns45_1 := NB406_427.out
 have hms45_0 := NB427_405.out
 have hms45_1 := NB427_406.out
 refine skip_ (w1 := ?_) (by rfl) rfl ?_ ?_
 rotate_left
 ·go_simp
  rfl
 refine hK.out _ _ ⟨((cell_far (p := ⟨gb427, _, none⟩) NB405_427.out _).trans (((cell_far (p := ⟨gb427, _, none⟩) NB405_427.out _).trans (hHeld.1)))), ((cell_far (p := ⟨gb427, _, none⟩) NB405_427.out _).trans (((cell_far (p := ⟨gb427, _, none⟩) NB405_427.out _).trans (hHeld.2.1)))), ((cell_far (p := ⟨gb427, _, none⟩) NB406_427.out _).trans (((cell_far (p := ⟨gb427, _, none⟩) NB406_427.out _).trans (hHeld.2.2.1)))), ((cell_far (p := ⟨gb427, _, none⟩) NB406_427.out _).trans (((cell_far (p := ⟨gb427, _, none⟩) NB406_427.out _).trans (hHeld.2.2.2.1)))), ((cell_far (p := ⟨gb427, _, none⟩) NB406_427.out _).trans (((cell_far (p := ⟨gb427, _, none⟩) NB406_427.out _).trans (hHeld.2.2.2.2))))⟩ (fun hHeld => ?_)
 clear hK K
 refine pu 10 7 ?_
 refine done_ (done_of HT_.out (by kernel_rfl)) ?_
 have hnb46 := NB405_427.out
 have hnc46 := NB427_405.out
 obtain ⟨hcz47_0, hcz47_1, hfz47_0, hfz47_1⟩ := z2 BK405
 go_upto_region 12 with (first | (refine gc 36 Tryd.func16 #[.agg #[.slice A0_0 l0_0.length c0_0, .slice A0_1 l0_1.length c0_1]] ?_; (with_reducible refine (laws_toLedger.calls k _ _ l0_0 _ _ l0_1 t428 t431 _ ?side1 ?side2 ?side3 ?side4 A22.out).mono ?_); (case side1 => exact Kd.C_below HR0_0.out ZZ295621); (case side2 => exact HC0_0.out); (case side3 => exact Kd.C_below HR0_1.out ZZ295621); (case side4 => exact HC0_1.out); rintro e w48 ⟨v429, v432, rfl, ho0, ho1, hb⟩; refine ⟨_, rfl, ?_⟩; obtain ⟨ga49, hga49⟩ := Kd.age hb; have HO430 := Aside0.mk (Kd.R_lower (Kd.R_new' (Kd.R_new' ho0 (Kd.R_lt (by refine bR ?_; exact (Kd.R_mono (Kd.R_far (p := ⟨gb427, 1, none⟩) (Kd.R_far (p := ⟨gb427, 0, none⟩) (Kd.R_types HO411.out BK427.out (by decide)) (fun _ hk => hk.2) (.slice Ao42 t420.length co42)) (fun _ hk => hk.2) (.slice Ao44 t423.length co44)) (fun _ h_ => h_.1))))) (Kd.R_lt (by refine bR ?_; exact (Kd.R_mono (Kd.R_far (p := ⟨gb427, 1, none⟩) (Kd.R_far (p := ⟨gb427, 0, none⟩) (Kd.R_types HO422.out BK427.out (by decide)) (fun _ hk => hk.2) (.slice Ao42 t420.length co42)) (fun _ hk => hk.2) (.slice Ao44 t423.length co44)) (fun _ h_ => h_.1))))) (below_size ZZ295621)); replace HO411 := Aside0.mk (Kd.R_elder' (by refine bR ?_; exact (Kd.R_mono (Kd.R_far (p := ⟨gb427, 1, none⟩) (Kd.R_far (p := ⟨gb427, 0, none⟩) (Kd.R_types HO411.out BK427.out (by decide)) (fun _ hk => hk.2) (.slice Ao42 t420.length co42)) (fun _ hk => hk.2) (.slice Ao44 t423.length co44)) (fun _ h_ => h_.1))) (Kd.R_base ho0) hb); replace HO422 := Aside0.mk (Kd.R_elder' (by refine bR ?_; exact (Kd.R_mono (Kd.R_far (p := ⟨gb427, 1, none⟩) (Kd.R_far (p := ⟨gb427, 0, none⟩) (Kd.R_types HO422.out BK427.out (by decide)) (fun _ hk => hk.2) (.slice Ao42 t420.length co42)) (fun _ hk => hk.2) (.slice Ao44 t423.length co44)) (fun _ h_ => h_.1))) (Kd.R_base ho0) hb); have HO433 := Aside0.mk (Kd.S_lower (Kd.S_agen (Kd.S_new' (Kd.S_new' (Kd.S_new' ho1 (Kd.S_lt (by refine bS ?_; exact (Kd.S_mono (Kd.S_far (p := ⟨gb427, 1, none⟩) (Kd.S_far (p := ⟨gb427, 0, none⟩) (Kd.S_types HO414.out BK427.out (by decide)) (fun _ hk => hk.2) (.slice Ao42 t420.length co42)) (fun _ hk => hk.2) (.slice Ao44 t423.length co44)) (fun _ h_ => h_.1))))) (Kd.R_lt (by refine bR ?_; exact (Kd.R_mono (Kd.R_far (p := ⟨gb427, 1, none⟩) (Kd.R_far (p := ⟨gb427, 0, none⟩) (Kd.R_types HO419.out BK427.out (by decide)) (fun _ hk => hk.2) (.slice Ao42 t420.length co42)) (fun _ hk => hk.2) (.slice Ao44 t423.length co44)) (fun _ h_ => h_.1))))) (Kd.S_lt (by refine bS ?_; exact (Kd.S_mono (Kd.S_far (p := ⟨gb427, 1, none⟩) (Kd.S_far (p := ⟨gb427, 0, none⟩) (Kd.S_types HO425.out BK427.out (by decide)) (fun _ hk => hk.2) (.slice Ao42 t420.length co42)) (fun _ hk => hk.2) (.slice Ao44 t423.length co44)) (fun _ h_ => h_.1))))) hga49) (below_size ZZ295621)); replace HO414 := Aside0.mk (Kd.S_elder' (Kd.S_ageo (by refine bS ?_; exact (Kd.S_mono (Kd.S_far (p := ⟨gb427, 1, none⟩) (Kd.S_far (p := ⟨gb427, 0, none⟩) (Kd.S_types HO414.out BK427.out (by decide)) (fun _ hk => hk.2) (.slice Ao42 t420.length co42)) (fun _ hk => hk.2) (.slice Ao44 t423.length co44)) (fun _ h_ => h_.1))) hga49) (Kd.S_base ho1) hb); replace HO419 := Aside0.mk (Kd.R_below (by refine bR ?_; exact (Kd.R_mono (Kd.R_far (p := ⟨gb427, 1, none⟩) (Kd.R_far (p := ⟨gb427, 0, none⟩) (Kd.R_types HO419.out BK427.out (by decide)) (fun _ hk => hk.2) (.slice Ao42 t420.length co42)) (fun _ hk => hk.2) (.slice Ao44 t423.length co44)) (fun _ h_ => h_.1))) hb); replace HO425 := Aside0.mk (Kd.S_elder' (Kd.S_ageo (by refine bS ?_; exact (Kd.S_mono (Kd.S_far (p := ⟨gb427, 1, none⟩) (Kd.S_far (p := ⟨gb427, 0, none⟩) (Kd.S_types HO425.out BK427.out (by decide)) (fun _ hk => hk.2) (.slice Ao42 t420.length co42)) (fun _ hk => hk.2) (.slice Ao44 t423.length co44)) (fun _ h_ => h_.1))) hga49) (Kd.S_base ho1) hb); replace BK405 := Aside0.mk (blk_below (g := gb405) (o := .cells #[.slice A0_0 l0_0.length c0_0, .slice A0_1 l0_1.length c0_1] 25 (0, 0)) (by refine bd ?_; refine blk_far ?_ NB405_427.out _; refine bd ?_; refine blk_far ?_ NB405_427.out _; refine bd ?_; exact BK405.out) hb); replace BK406 := Aside0.mk (blk_below (g := gb406) (o := .cells #[.int .i64 a1_0, .string a1_1, .slice A1_2 l1_2.length c1_2] 58 (0, 0)) (by refine bd ?_; refine blk_far ?_ NB406_427.out _; refine bd ?_; refine blk_far ?_ NB406_427.out _; refine bd ?_; exact BK406.out) hb); replace BK427 := Aside0.mk (blk_below (g := gb427) (o := .cells #[.slice Ao42 t420.length co42, .slice Ao44 t423.length co44] 31 (0, 0)) (by refine bd ?_; refine blk_put (cs := #[.slice Ao42 t420.length co42, .slice none 0 0]) ?_ 1 _ rfl; refine bd ?_; refine blk_put (cs := #[.slice none 0 0, .slice none 0 0]) ?_ 0 _ rfl; refine bd ?_; exact BK427.out) hb); replace HB := hB hb; (try clear hb); (try clear hb2); (try clear hk); (try clear hi); (try clear ho0); (try clear ho1)) | ((with_reducible refine gate_dst (N := 8) rfl ?_); refine bx 8 (cs := #[.slice none 0 0, .slice none 0 0]) (t := 31) ?_; intro gb434 hg w50 hbox hb; replace HO411 := Aside0.mk (Kd.R_below (zR HO411) hb); replace HO414 := Aside0.mk (Kd.S_below (zS HO414) hb); replace HO419 := Aside0.mk (Kd.R_below (zR HO419) hb); replace HO422 := Aside0.mk (Kd.R_below (zR HO422) hb); replace HO425 := Aside0.mk (Kd.S_below (zS HO425) hb); replace HO430 := Aside0.mk (Kd.R_below (zR HO430) hb); replace HO433 := Aside0.mk (Kd.S_below (zS HO433) hb); have BK434 := Aside0.mk (hbox); have GW434 := gw hg; have GE434 := gw hg; replace HB := hB hb; have NB405_434 := nl hg BK405; have NB434_405 := ng hg BK405; replace BK405 := kb BK405 hb; have NB406_434 := nl hg BK406; have NB434_406 := ng hg BK406; replace BK406 := kb BK406 hb; have NB427_434 := nl hg BK427; have NB434_427 := ng hg BK427; replace BK427 := kb BK427 hb; clear hb hbox hg; obtain ⟨Ao51, co51, eo51⟩ := Kd.R_slice HO430.out; subst eo51; have hnb52 := NB434_405.out; have hnc52 := NB405_434.out; have hnb53 := NB434_406.out; have hnc53 := NB406_434.out; have hnb54 := NB434_427.out; have hnc54 := NB427_434.out; obtain ⟨hcz55_0, hcz55_1, hfz55_0, hfz55_1⟩ := z2 BK434; obtain ⟨Ao56, co56, eo56⟩ := Kd.S_slice HO433.out; subst eo56; have hnb57 := NB406_427.out; have hnc57 := NB427_406.out; obtain ⟨hcz58_0, hcz58_1, hcz58_2, hfz58_0, hfz58_1, hfz58_2⟩ := z3 BK406) | (refine gc 38 Tryd.func37 #[.agg #[.int .i64 a1_0, .string a1_1, .slice A1_2 l1_2.length c1_2]] ?_; (with_reducible refine (laws_toBookEntry.calls k a1_0 a1_1 _ _ l1_2 t435 t436 t437 _ ?side1 ?side2 A23.out).mono ?_); (case side1 => exact Kd.C_below HR1_2.out ZZ295621); (case side2 => exact HC1_2.out); rintro e w59 ⟨v438, rfl, ho0, hb⟩; refine ⟨_, rfl, ?_⟩; replace HO411 := Aside0.mk (Kd.R_below (by refine bR ?_; exact (Kd.R_mono (Kd.R_far (p := ⟨gb434, 1, none⟩) (Kd.R_far (p := ⟨gb434, 0, none⟩) (Kd.R_types HO411.out BK434.out (by decide)) (fun _ hk => hk.2) (.slice Ao51 t428.length co51)) (fun _ hk => hk.2) (.slice Ao56 t431.length co56)) (fun _ h_ => h_.1))) hb); replace HO414 := Aside0.mk (Kd.S_elder' (by refine bS ?_; exact (Kd.S_mono (Kd.S_far (p := ⟨gb434, 1, none⟩) (Kd.S_far (p := ⟨gb434, 0, none⟩) (Kd.S_types HO414.out BK434.out (by decide)) (fun _ hk => hk.2) (.slice Ao51 t428.length co51)) (fun _ hk => hk.2) (.slice Ao56 t431.length co56)) (fun _ h_ => h_.1))) (Kd.R_base ho0) hb); replace HO422 := Aside0.mk (Kd.R_below (by refine bR ?_; exact (Kd.R_mono (Kd.R_far (p := ⟨gb434, 1, none⟩) (Kd.R_far (p := ⟨gb434, 0, none⟩) (Kd.R_types HO422.out BK434.out (by decide)) (fun _ hk => hk.2) (.slice Ao51 t428.length co51)) (fun _ hk => hk.2) (.slice Ao56 t431.length co56)) (fun _ h_ => h_.1))) hb); replace HO425 := Aside0.mk (Kd.S_elder' (by refine bS ?_; exact (Kd.S_mono (Kd.S_far (p := ⟨gb434, 1, none⟩) (Kd.S_far (p := ⟨gb434, 0, none⟩) (Kd.S_types HO425.out BK434.out (by decide)) (fun _ hk => hk.2) (.slice Ao51 t428.length co51)) (fun _ hk => hk.2) (.slice Ao56 t431.length co56)) (fun _ h_ => h_.1))) (Kd.R_base ho0) hb); replace HO430 := Aside0.mk (Kd.R_below (by refine bR ?_; exact (Kd.R_mono (Kd.R_far (p := ⟨gb434, 1, none⟩) (Kd.R_far (p := ⟨gb434, 0, none⟩) (Kd.R_types HO430.out BK434.out (by decide)) (fun _ hk => hk.2) (.slice Ao51 t428.length co51)) (fun _ hk => hk.2) (.slice Ao56 t431.length co56)) (fun _ h_ => h_.1))) hb); replace HO433 := Aside0.mk (Kd.S_elder' (by refine bS ?_; exact (Kd.S_mono (Kd.S_far (p := ⟨gb434, 1, none⟩) (Kd.S_far (p := ⟨gb434, 0, none⟩) (Kd.S_types HO433.out BK434.out (by decide)) (fun _ hk => hk.2) (.slice Ao51 t428.length co51)) (fun _ hk => hk.2) (.slice Ao56 t431.length co56)) (fun _ h_ => h_.1))) (Kd.R_base ho0) hb); have HO439 := Aside0.mk (Kd.R_lower (Kd.R_new' ho0 (Kd.R_lt (by refine bR ?_; exact (Kd.R_mono (Kd.R_far (p := ⟨gb434, 1, none⟩) (Kd.R_far (p := ⟨gb434, 0, none⟩) (Kd.R_types HO419.out BK434.out (by decide)) (fun _ hk => hk.2) (.slice Ao51 t428.length co51)) (fun _ hk => hk.2) (.slice Ao56 t431.length co56)) (fun _ h_ => h_.1))))) (below_size ZZ295621)); replace HO419 := Aside0.mk (Kd.R_elder' (by refine bR ?_; exact (Kd.R_mono (Kd.R_far (p := ⟨gb434, 1, none⟩) (Kd.R_far (p := ⟨gb434, 0, none⟩) (Kd.R_types HO419.out BK434.out (by decide)) (fun _ hk => hk.2) (.slice Ao51 t428.length co51)) (fun _ hk => hk.2) (.slice Ao56 t431.length co56)) (fun _ h_ => h_.1))) (Kd.R_base ho0) hb); replace BK405 := Aside0.mk (blk_below (g := gb405) (o := .cells #[.slice A0_0 l0_0.length c0_0, .slice A0_1 l0_1.length c0_1] 25 (0, 0)) (by refine bd ?_; refine blk_far ?_ NB405_434.out _; refine bd ?_; refine blk_far ?_ NB405_434.out _; refine bd ?_; exact BK405.out) hb); replace BK406 := Aside0.mk (blk_below (g := gb406) (o := .cells #[.int .i64 a1_0, .string a1_1, .slice A1_2 l1_2.length c1_2] 58 (0, 0)) (by refine bd ?_; refine blk_far ?_ NB406_434.out _; refine bd ?_; refine blk_far ?_ NB406_434.out _; refine bd ?_; exact BK406.out) hb); replace BK427 := Aside0.mk (blk_below (g := gb427) (o := .cells #[.slice Ao42 t420.length co42, .slice Ao44 t423.length co44] 31 (0, 0)) (by refine bd ?_; refine blk_far ?_ NB427_434.out _; refine bd ?_; refine blk_far ?_ NB427_434.out _; refine bd ?_; exact BK427.out) hb); replace BK434 := Aside0.mk (blk_below (g := gb434) (o := .cells #[.slice Ao51 t428.length co51, .slice Ao56 t431.length co56] 31 (0, 0)) (by refine bd ?_; refine blk_put (cs := #[.slice Ao51 t428.length co51, .slice none 0 0]) ?_ 1 _ rfl; refine bd ?_; refine blk_put (cs := #[.slice none 0 0, .slice none 0 0]) ?_ 0 _ rfl; refine bd ?_; exact BK434.out) hb); replace HB := hB hb; (try clear hb); (try clear hb2); (try clear hk); (try clear hi); (try clear ho0)) | ((with_reducible refine gate_dst (N := 9) rfl ?_); refine bx 9 (cs := #[.int .i64 0, .string (⟨#[]⟩ : ByteArray), .slice none 0 0]) (t := 63) ?_; intro gb440 hg w60 hbox hb; replace HO411 := Aside0.mk (Kd.R_below (zR HO411) hb); replace HO414 := Aside0.mk (Kd.S_below (Kd.S_elderB (zS HO414) gb440 (Nat.le_of_eq hg.symm)) hb); replace HO419 := Aside0.mk (Kd.R_below (zR HO419) hb); replace HO422 := Aside0.mk (Kd.R_below (zR HO422) hb); replace HO425 := Aside0.mk (Kd.S_below (Kd.S_elderB (zS HO425) gb440 (Nat.le_of_eq hg.symm)) hb); replace HO430 := Aside0.mk (Kd.R_below (zR HO430) hb); replace HO433 := Aside0.mk (Kd.S_below (Kd.S_elderB (zS HO433) gb440 (Nat.le_of_eq hg.symm)) hb); replace HO439 := Aside0.mk (Kd.R_below (zR HO439) hb); have BK440 := Aside0.mk (hbox); have GW440 := gw hg; have GE440 := gw hg; replace HB := hB hb; have NB405_440 := nl hg BK405; have NB440_405 := ng hg BK405; replace BK405 := kb BK405 hb; have NB406_440 := nl hg BK406; have NB440_406 := ng hg BK406; replace BK406 := kb BK406 hb; have NB427_440 := nl hg BK427; have NB440_427 := ng hg BK427; replace BK427 := kb BK427 hb; have NB434_440 := nl hg BK434; have NB440_434 := ng hg BK434; replace BK434 := kb BK434 hb; clear hb hbox hg; have hnb61 := NB440_405.out; have hnc61 := NB405_440.out; have hnb62 := NB440_406.out; have hnc62 := NB406_440.out; have hnb63 := NB440_427.out; have hnc63 := NB427_440.out; have hnb64 := NB440_434.out; have hnc64 := NB434_440.out; obtain ⟨hcz65_0, hcz65_1, hcz65_2, hfz65_0, hfz65_1, hfz65_2⟩ := z3 BK440; obtain ⟨Ao66, co66, eo66⟩ := Kd.R_slice HO439.out; subst eo66) | ((with_reducible refine gate_store (t := 63) (p := 9) rfl ?_); refine store_event (t := 63) (p := 9) (v := ?vo_w67) (w1 := (((w60.setCell ⟨gb440, 0, none⟩ (.int .i64 t435)).setCell ⟨gb440, 1, none⟩ (.string t436)).setCell ⟨gb440, 2, none⟩ (.slice Ao66 t437.length co66))) ?hg ?ho ?hn ?hr ?_; (case ho => rfl); (case hg => rfl); (case hn => rfl); (case hr => first | (go_simp; done) | (go_simp; rfl)); intro w67 hw; replace HO411 : Aside0 (Kd.R k48 48 w67 w.heap.size (fun k_ => some k_ ≠ (.slice Ao42 t420.length co42 : Value).ownBlock ∧ some k_ ≠ (.slice Ao51 t428.length co51 : Value).ownBlock) v410 t409) := ⟨(by rw [hw]; exact (by refine bR ?_; exact Kd.R_mono (Kd.R_far (p := ⟨gb440, 2, none⟩) (Kd.R_far (p := ⟨gb440, 1, none⟩) (Kd.R_far (p := ⟨gb440, 0, none⟩) (Kd.R_types HO411.out BK440.out (by decide)) (fun _ hk => hk.2) (.int .i64 t435)) (fun _ hk => hk.2) (.string t436)) (fun _ hk => hk.2) (.slice Ao66 t437.length co66)) (fun _ hk => ⟨hk.1.1, hk.1.2⟩)))⟩; replace HO414 : Aside0 (Kd.S k63 63 w67 w.heap.size (fun k_ => some k_ ≠ (v418 : Value).ownBlock ∧ some k_ ≠ (.slice Ao44 t423.length co44 : Value).ownBlock ∧ some k_ ≠ (.slice Ao56 t431.length co56 : Value).ownBlock ∧ some k_ ≠ (.slice Ao66 t437.length co66 : Value).ownBlock ∧ k_ ≠ gb440 ∧ k_ < ga49) v413 t412) := ⟨(by rw [hw]; exact (by refine bS ?_; exact Kd.S_mono (Kd.S_far (p := ⟨gb440, 2, none⟩) (Kd.S_far (p := ⟨gb440, 1, none⟩) (Kd.S_far (p := ⟨gb440, 0, none⟩) (Kd.S_mono HO414.out (fun k_ hk => (⟨hk, hk.2⟩ : _ ∧ k_ ≠ gb440))) (fun _ hk => hk.2) (.int .i64 t435)) (fun _ hk => hk.2) (.string t436)) (fun _ hk => hk.2) (.slice Ao66 t437.length co66)) (fun _ hk => ⟨hk.1.1.1.1.1.1, ⟨hk.1.1.1.1.1.2, ⟨hk.1.1.1.2, ⟨hk.1.1.2, ⟨hk.1.2, hk.1.1.1.1.2⟩⟩⟩⟩⟩)))⟩; replace HO419 : Aside0 (Kd.R k70 70 w67 w.heap.size (fun k_ => some k_ ≠ (.slice Ao66 t437.length co66 : Value).ownBlock) v418 t417) := ⟨(by rw [hw]; exact (by refine bR ?_; exact Kd.R_mono (Kd.R_far (p := ⟨gb440, 2, none⟩) (Kd.R_far (p := ⟨gb440, 1, none⟩) (Kd.R_far (p := ⟨gb440, 0, none⟩) (Kd.R_types HO419.out BK440.out (by decide)) (fun _ hk => hk.2) (.int .i64 t435)) (fun _ hk => hk.2) (.string t436)) (fun _ hk => hk.2) (.slice Ao66 t437.length co66)) (fun _ hk => hk.1.2)))⟩; replace HO422 : Aside0 (Kd.R k48 48 w67 w.heap.size (fun k_ => some k_ ≠ (v410 : Value).ownBlock ∧ some k_ ≠ (.slice Ao51 t428.length co51 : Value).ownBlock) (.slice Ao42 t420.length co42) t420) := ⟨(by rw [hw]; exact (by refine bR ?_; exact Kd.R_mono (Kd.R_far (p := ⟨gb440, 2, none⟩) (Kd.R_far (p := ⟨gb440, 1, none⟩) (Kd.R_far (p := ⟨gb440, 0, none⟩) (Kd.R_types HO422.out BK440.out (by decide)) (fun _ hk => hk.2) (.int .i64 t435)) (fun _ hk => hk.2) (.string t436)) (fun _ hk => hk.2) (.slice Ao66 t437.length co66)) (fun _ hk => ⟨hk.1.1, hk.1.2⟩)))⟩; replace HO425 : Aside0 (Kd.S k63 63 w67 w.heap.size (fun k_ => some k_ ≠ (v413 : Value).ownBlock ∧ some k_ ≠ (v418 : Value).ownBlock ∧ some k_ ≠ (.slice Ao56 t431.length co56 : Value).ownBlock ∧ some k_ ≠ (.slice Ao66 t437.length co66 : Value).ownBlock ∧ k_ ≠ gb440 ∧ k_ < ga49) (.slice Ao44 t423.length co44) t423) := ⟨(by rw [hw]; exact (by refine bS ?_; exact Kd.S_mono (Kd.S_far (p := ⟨gb440, 2, none⟩) (Kd.S_far (p := ⟨gb440, 1, none⟩) (Kd.S_far (p := ⟨gb440, 0, none⟩) (Kd.S_mono HO425.out (fun k_ hk => (⟨hk, hk.2⟩ : _ ∧ k_ ≠ gb440))) (fun _ hk => hk.2) (.int .i64 t435)) (fun _ hk => hk.2) (.string t436)) (fun _ hk => hk.2) (.slice Ao66 t437.length co66)) (fun _ hk => ⟨hk.1.1.1.1.1.1, ⟨hk.1.1.1.1.1.2, ⟨hk.1.1.1.2, ⟨hk.1.1.2, ⟨hk.1.2, hk.1.1.1.1.2⟩⟩⟩⟩⟩)))⟩; replace HO430 : Aside0 (Kd.R k48 48 w67 w.heap.size (fun k_ => some k_ ≠ (v410 : Value).ownBlock ∧ some k_ ≠ (.slice Ao42 t420.length co42 : Value).ownBlock) (.slice Ao51 t428.length co51) t428) := ⟨(by rw [hw]; exact (by refine bR ?_; exact Kd.R_mono (Kd.R_far (p := ⟨gb440, 2, none⟩) (Kd.R_far (p := ⟨gb440, 1, none⟩) (Kd.R_far (p := ⟨gb440, 0, none⟩) (Kd.R_types HO430.out BK440.out (by decide)) (fun _ hk => hk.2) (.int .i64 t435)) (fun _ hk => hk.2) (.string t436)) (fun _ hk => hk.2) (.slice Ao66 t437.length co66)) (fun _ hk => ⟨hk.1.1.2, hk.1.2⟩)))⟩; replace HO433 : Aside0 (Kd.S k63 63 w67 w.heap.size (fun k_ => some k_ ≠ (v413 : Value).ownBlock ∧ some k_ ≠ (v418 : Value).ownBlock ∧ some k_ ≠ (.slice Ao44 t423.length co44 : Value).ownBlock ∧ some k_ ≠ (.slice Ao66 t437.length co66 : Value).ownBlock ∧ k_ ≠ gb440 ∧ ga49 ≤ k_) (.slice Ao56 t431.length co56) t431) := ⟨(by rw [hw]; exact (by refine bS ?_; exact Kd.S_mono (Kd.S_far (p := ⟨gb440, 2, none⟩) (Kd.S_far (p := ⟨gb440, 1, none⟩) (Kd.S_far (p := ⟨gb440, 0, none⟩) (Kd.S_mono HO433.out (fun k_ hk => (⟨hk, hk.2⟩ : _ ∧ k_ ≠ gb440))) (fun _ hk => hk.2) (.int .i64 t435)) (fun _ hk => hk.2) (.string t436)) (fun _ hk => hk.2) (.slice Ao66 t437.length co66)) (fun _ hk => ⟨hk.1.1.1.1.1.1.2, ⟨hk.1.1.1.1.1.2, ⟨hk.1.1.1.1.2, ⟨hk.1.1.2, ⟨hk.1.2, hk.1.1.1.2⟩⟩⟩⟩⟩)))⟩; replace HO439 : Aside0 (Kd.R k70 70 w67 w.heap.size (fun k_ => some k_ ≠ (v418 : Value).ownBlock) (.slice Ao66 t437.length co66) t437) := ⟨(by rw [hw]; exact (by refine bR ?_; exact Kd.R_mono (Kd.R_far (p := ⟨gb440, 2, none⟩) (Kd.R_far (p := ⟨gb440, 1, none⟩) (Kd.R_far (p := ⟨gb440, 0, none⟩) (Kd.R_types HO439.out BK440.out (by decide)) (fun _ hk => hk.2) (.int .i64 t435)) (fun _ hk => hk.2) (.string t436)) (fun _ hk => hk.2) (.slice Ao66 t437.length co66)) (fun _ hk => hk.1.2)))⟩; replace BK405 : Aside0 (w67.heap[gb405]? = some (.cells #[.slice A0_0 l0_0.length c0_0, .slice A0_1 l0_1.length c0_1] 25 (0, 0))) := ⟨(by rw [hw]; exact (by refine bd ?_; refine blk_far ?_ NB405_440.out _; refine bd ?_; refine blk_far ?_ NB405_440.out _; refine bd ?_; refine blk_far ?_ NB405_440.out _; refine bd ?_; exact BK405.out))⟩; replace BK406 : Aside0 (w67.heap[gb406]? = some (.cells #[.int .i64 a1_0, .string a1_1, .slice A1_2 l1_2.length c1_2] 58 (0, 0))) := ⟨(by rw [hw]; exact (by refine bd ?_; refine blk_far ?_ NB406_440.out _; refine bd ?_; refine blk_far ?_ NB406_440.out _; refine bd ?_; refine blk_far ?_ NB406_440.out _; refine bd ?_; exact BK406.out))⟩; replace BK427 : Aside0 (w67.heap[gb427]? = some (.cells #[.slice Ao42 t420.length co42, .slice Ao44 t423.length co44] 31 (0, 0))) := ⟨(by rw [hw]; exact (by refine bd ?_; refine blk_far ?_ NB427_440.out _; refine bd ?_; refine blk_far ?_ NB427_440.out _; refine bd ?_; refine blk_far ?_ NB427_440.out _; refine bd ?_; exact BK427.out))⟩; replace BK434 : Aside0 (w67.heap[gb434]? = some (.cells #[.slice Ao51 t428.length co51, .slice Ao56 t431.length co56] 31 (0, 0))) := ⟨(by rw [hw]; exact (by refine bd ?_; refine blk_far ?_ NB434_440.out _; refine bd ?_; refine blk_far ?_ NB434_440.out _; refine bd ?_; refine blk_far ?_ NB434_440.out _; refine bd ?_; exact BK434.out))⟩; replace BK440 : Aside0 (w67.heap[gb440]? = some (.cells #[.int .i64 t435, .string t436, .slice Ao66 t437.length co66] 63 (0, 0))) := ⟨(by rw [hw]; exact (by refine bd ?_; refine blk_put (cs := #[.int .i64 t435, .string t436, .slice none 0 0]) ?_ 2 _ rfl; refine bd ?_; refine blk_put (cs := #[.int .i64 t435, .string (⟨#[]⟩ : ByteArray), .slice none 0 0]) ?_ 1 _ rfl; refine bd ?_; refine blk_put (cs := #[.int .i64 0, .string (⟨#[]⟩ : ByteArray), .slice none 0 0]) ?_ 0 _ rfl; refine bd ?_; exact BK440.out))⟩; replace HB : Aside0 (Below w.heap.size w w67) := ⟨(by rw [hw]; exact ZZ295621)⟩; clear hw; obtain ⟨hcz68_0, hcz68_1, hfz68_0, hfz68_1⟩ := z2 BK434; obtain ⟨hcz69_0, hcz69_1, hcz69_2, hfz69_0, hfz69_1, hfz69_2⟩ := z3 BK440) | (refine gc 42 Tryd.func38 #[.agg #[.slice Ao51 t428.length co51, .slice Ao56 t431.length co56], .agg #[.int .i64 t435, .string t436, .slice Ao66 t437.length co66]] ?_; (with_reducible refine (impl_PostEntry.calls k _ _ t428 (fun k_ => ((((((((some k_ ≠ (v413 : Value).ownBlock ∧ (some k_ ≠ (v418 : Value).ownBlock ∧ (some k_ ≠ (.slice Ao44 t423.length co44 : Value).ownBlock ∧ (some k_ ≠ (.slice Ao66 t437.length co66 : Value).ownBlock ∧ (k_ ≠ gb440 ∧ ga49 ≤ k_))))) ∧ some k_ ≠ (v410 : Value).ownBlock) ∧ some k_ ≠ (.slice Ao42 t420.length co42 : Value).ownBlock) ∧ some k_ ≠ (.slice Ao51 t428.length co51 : Value).ownBlock) ∧ k_ ≠ gb405) ∧ k_ ≠ gb406) ∧ k_ ≠ gb427) ∧ k_ ≠ gb434)) _ _ t431 t435 t436 (fun k_ => some k_ = (.slice Ao66 t437.length co66 : Value).ownBlock) _ _ t437 t441 t444 t447 _ ?side1 ?side2 ?side3 ?side4 A24.out).mono ?_); (case side1 => exact rC (Kd.R_reads' HO430.out).2.2); (case side2 => exact (Kd.R_reads' HO430.out).2.1); (case side3 => exact Kd.S_V (Kd.S_types (Kd.S_types (Kd.S_types (Kd.S_types (Kd.S_apart' (Kd.S_apart' (Kd.S_apart' (HO433.out) (Kd.R_typed HO411.out) (by decide)) (Kd.R_typed HO422.out) (by decide)) (Kd.R_typed HO430.out) (by decide)) BK405.out (by decide)) BK406.out (by decide)) BK427.out (by decide)) BK434.out (by decide))); (case side4 => exact Kd.R_V (Kd.R_tight rfl (Kd.R_types (Kd.R_types (Kd.R_types (Kd.R_types (Kd.R_types (Kd.R_apart' (Kd.R_apart' (Kd.R_apart' (Kd.R_apart' (Kd.R_apart' (Kd.R_apart' (HO439.out) (Kd.R_typed HO411.out) (by decide)) (Kd.S_typed HO414.out) (by decide)) (Kd.R_typed HO422.out) (by decide)) (Kd.S_typed HO425.out) (by decide)) (Kd.R_typed HO430.out) (by decide)) (Kd.S_typed HO433.out) (by decide)) BK405.out (by decide)) BK406.out (by decide)) BK427.out (by decide)) BK434.out (by decide)) BK440.out (by decide)))); rintro e w70 ⟨v442, v445, rfl, ho0, ho1, hb⟩; refine ⟨_, rfl, ?_⟩; obtain ⟨ga71, hga71⟩ := Kd.age hb; have HO443 := Aside0.mk (Kd.R_lower (Kd.R_new' (Kd.R_new' (Kd.R_new' (Kd.R_mono (ok' := fun k_ => True) ho0 (fun _ hk_ => trivial)) (Kd.R_lt (zR HO411))) (Kd.R_lt (zR HO422))) (Kd.R_lt (zR HO430))) (below_size ZZ295621)); replace HO411 := Aside0.mk (Kd.R_elder' (zR HO411) (Kd.R_base ho0) hb); replace HO422 := Aside0.mk (Kd.R_elder' (zR HO422) (Kd.R_base ho0) hb); replace HO430 := Aside0.mk (Kd.R_elder' (zR HO430) (Kd.R_base ho0) hb); have HO446 := Aside0.mk (Kd.S_lower (Kd.S_agen (Kd.S_newB (Kd.S_new' (Kd.S_new' (Kd.S_new' (Kd.S_new' (Kd.S_new' (Kd.S_mono (ok' := fun k_ => True) ho1 (fun _ hk_ => trivial)) (Kd.S_lt (zS HO414))) (Kd.R_lt (zR HO419))) (Kd.S_lt (zS HO425))) (Kd.S_lt (zS HO433))) (Kd.R_lt (zR HO439))) (zB BK440)) hga71) (below_size ZZ295621)); replace HO414 := Aside0.mk (Kd.S_elder' (Kd.S_ageo (zS HO414) hga71) (Kd.S_base ho1) hb); replace HO419 := Aside0.mk (Kd.R_below (zR HO419) hb); replace HO425 := Aside0.mk (Kd.S_elder' (Kd.S_ageo (zS HO425) hga71) (Kd.S_base ho1) hb); replace HO433 := Aside0.mk (Kd.S_elder' (Kd.S_ageo (zS HO433) hga71) (Kd.S_base ho1) hb); replace HO439 := Aside0.mk (Kd.R_below (zR HO439) hb); replace BK405 := kb BK405 hb; replace BK406 := kb BK406 hb; replace BK427 := kb BK427 hb; replace BK434 := kb BK434 hb; replace BK440 := kb BK440 hb; replace HB := hB hb; (try clear hb); (try clear hb2); (try clear hk); (try clear hi); (try clear ho0); (try clear ho1)) | ((with_reducible refine gate_dst (N := 10) rfl ?_); refine bx 10 (cs := #[.slice none 0 0, .slice none 0 0]) (t := 31) ?_; intro gb448 hg w72 hbox hb; replace HO411 := Aside0.mk (Kd.R_below (zR HO411) hb); replace HO414 := Aside0.mk (Kd.S_below (zS HO414) hb); replace HO419 := Aside0.mk (Kd.R_below (zR HO419) hb); replace HO422 := Aside0.mk (Kd.R_below (zR HO422) hb); replace HO425 := Aside0.mk (Kd.S_below (zS HO425) hb); replace HO430 := Aside0.mk (Kd.R_below (zR HO430) hb); replace HO433 := Aside0.mk (Kd.S_below (zS HO433) hb); replace HO439 := Aside0.mk (Kd.R_below (zR HO439) hb); replace HO443 := Aside0.mk (Kd.R_below (zR HO443) hb); replace HO446 := Aside0.mk (Kd.S_below (zS HO446) hb); have BK448 := Aside0.mk (hbox); have GW448 := gw hg; have GE448 := gw hg; replace HB := hB hb; have NB405_448 := nl hg BK405; have NB448_405 := ng hg BK405; replace BK405 := kb BK405 hb; have NB406_448 := nl hg BK406; have NB448_406 := ng hg BK406; replace BK406 := kb BK406 hb; have NB427_448 := nl hg BK427; have NB448_427 := ng hg BK427; replace BK427 := kb BK427 hb; have NB434_448 := nl hg BK434; have NB448_434 := ng hg BK434; replace BK434 := kb BK434 hb; have NB440_448 := nl hg BK440; have NB448_440 := ng hg BK440; replace BK440 := kb BK440 hb; clear hb hbox hg; obtain ⟨Ao73, co73, eo73⟩ := Kd.R_slice HO443.out; subst eo73; have hnb74 := NB448_405.out; have hnc74 := NB405_448.out; have hnb75 := NB448_406.out; have hnc75 := NB406_448.out; have hnb76 := NB448_427.out; have hnc76 := NB427_448.out; have hnb77 := NB448_434.out; have hnc77 := NB434_448.out; have hnb78 := NB448_440.out; have hnc78 := NB440_448.out; obtain ⟨hcz79_0, hcz79_1, hfz79_0, hfz79_1⟩ := z2 BK448; obtain ⟨Ao80, co80, eo80⟩ := Kd.S_slice HO446.out; subst eo80))
 (try simp only [Act.put, List.setIfInBounds_toArray, List.set_cons_zero, List.set_cons_succ])
 go_cut [53] (fun v53 wc => ∃ (kq : Nat) (x53_24 : Bool), v53 = .bool x53_24 ∧ Aside0 (laws_FnExactPostEntry.j0 kq t426 t447 x53_24 l0_0 l0_1 a1_0 a1_1 l1_2 t420 t423 t428 t431 t435 t436 t437 t441 t444 = some r) ∧ Aside0 (kq ≤ k) ∧ Aside0 (Kd.R k48 48 wc w.heap.size (fun k_ => some k_ ≠ ((.slice Ao51 t428.length co51) : Value).ownBlock ∧ some k_ ≠ ((.slice Ao73 t441.length co73) : Value).ownBlock) (.slice Ao42 t420.length co42) t420) ∧ Aside0 (Kd.S k63 63 wc w.heap.size (fun k_ => some k_ ≠ ((.slice Ao56 t431.length co56) : Value).ownBlock ∧ some k_ ≠ ((.slice Ao66 t437.length co66) : Value).ownBlock ∧ some k_ ≠ ((.slice Ao80 t444.length co80) : Value).ownBlock ∧ k_ ≠ gb440 ∧ k_ < ga49 ∧ k_ < ga71) (.slice Ao44 t423.length co44) t423) ∧ Aside0 (Kd.R k48 48 wc w.heap.size (fun k_ => some k_ ≠ ((.slice Ao42 t420.length co42) : Value).ownBlock ∧ some k_ ≠ ((.slice Ao73 t441.length co73) : Value).ownBlock) (.slice Ao51 t428.length co51) t428) ∧ Aside0 (Kd.S k63 63 wc w.heap.size (fun k_ => some k_ ≠ ((.slice Ao44 t423.length co44) : Value).ownBlock ∧ some k_ ≠ ((.slice Ao66 t437.length co66) : Value).ownBlock ∧ some k_ ≠ ((.slice Ao80 t444.length co80) : Value).ownBlock ∧ k_ ≠ gb440 ∧ ga49 ≤ k_ ∧ k_ < ga71) (.slice Ao56 t431.length co56) t431) ∧ Aside0 (Kd.R k70 70 wc w.heap.size (fun _ => True) (.slice Ao66 t437.length co66) t437) ∧ Aside0 (Kd.R k48 48 wc w.heap.size (fun k_ => some k_ ≠ ((.slice Ao42 t420.length co42) : Value).ownBlock ∧ some k_ ≠ ((.slice Ao51 t428.length co51) : Value).ownBlock) (.slice Ao73 t441.length co73) t441) ∧ Aside0 (Kd.S k63 63 wc w.heap.size (fun k_ => some k_ ≠ ((.slice Ao44 t423.length co44) : Value).ownBlock ∧ some k_ ≠ ((.slice Ao56 t431.length co56) : Value).ownBlock ∧ some k_ ≠ ((.slice Ao66 t437.length co66) : Value).ownBlock ∧ k_ ≠ gb440 ∧ ga71 ≤ k_) (.slice Ao80 t444.length co80) t444) ∧ Aside0 (wc.heap[gb405]? = some (.cells #[(.slice A0_0 l0_0.length c0_0), (.slice A0_1 l0_1.length c0_1)] 25 (0, 0))) ∧ Aside0 (wc.heap[gb406]? = some (.cells #[.int .i64 a1_0, .string a1_1, (.slice A1_2 l1_2.length c1_2)] 58 (0, 0))) ∧ Aside0 (wc.heap[gb427]? = some (.cells #[(.slice Ao42 t420.length co42), (.slice Ao44 t423.length co44)] 31 (0, 0))) ∧ Aside0 (wc.heap[gb434]? = some (.cells #[(.slice Ao51 t428.length co51), (.slice Ao56 t431.length co56)] 31 (0, 0))) ∧ Aside0 (wc.heap[gb440]? = some (.cells #[.int .i64 t435, .string t436, (.slice Ao66 t437.length co66)] 63 (0, 0))) ∧ Aside0 (wc.heap[gb448]? = some (.cells #[(.slice Ao73 t441.length co73), (.slice Ao80 t444.length co80)] 31 (0, 0))) ∧ Aside0 (Below w.heap.size w wc))
 case first =>
  have H := HC25.out
  clear HC25
  obtain ⟨t449, A81, H⟩ := bdY H
  have hnb83 := NB448_405.out
  have hnc83 := NB405_448.out
  have hnb84 := NB448_406.out
  have hnc84 := NB406_448.out
  have hnb85 := NB448_427.out
  have hnc85 := NB427_448.out
  have hnb86 := NB448_434.out
  have hnc86 := NB434_448.out
  have hnb87 := NB448_440.out
  have hnc87 := NB440_448.out
  obtain ⟨hcz88_0, hcz88_1, hfz88_0, hfz88_1⟩ := z2 BK448
  have hnb89 := NB427_405.out
  have hnc89 := NB405_427.out
  have hnb90 := NB427_406.out
  have hnc90 := NB406_427.out
  have hnb91 := NB427_434.out
  have hnc91 := NB434_427.out
  have hnb92 := NB427_440.out
  have hnc92 := NB440_427.out
  obtain ⟨hcz93_0, hcz93_1, hfz93_0, hfz93_1⟩ := z2 BK427
  by_cases c82 : t449 = true
  ·subst c82
   replace H := ifT H
   replace H := Aside0.mk H
   go_wp2_with (first | (refine gc 47 Tryd.func18 #[.agg #[.slice Ao73 t441.length co73, .slice Ao80 t444.length co80], .agg #[.slice Ao42 t420.length co42, .slice Ao44 t423.length co44]] ?_; (with_reducible refine (laws_eqLedger.calls k _ _ t441 _ _ t444 _ _ t420 _ _ t423 true _ ?side1 ?side2 ?side3 ?side4 ?side5 ?side6 ?side7 ?side8 A81.out).mono ?_); (case side1 => exact (Kd.R_reads' (e := 48) (base := w.heap.size) (n := t441.length) (c := co73) ZZf6a8d2).2.2); (case side2 => exact (Kd.R_reads' HO443.out).2.1); (case side3 => exact (Kd.S_reads' (e := 63) (base := w.heap.size) (n := t444.length) (c := co80) ZZ083a78).2.2); (case side4 => exact (Kd.S_reads' HO446.out).2.1); (case side5 => exact (Kd.R_reads' (e := 48) (base := w.heap.size) (n := t420.length) (c := co42) ZZe91701).2.2); (case side6 => exact (Kd.R_reads' HO422.out).2.1); (case side7 => exact (Kd.S_reads' (e := 63) (base := w.heap.size) (n := t423.length) (c := co44) ZZ5fb767).2.2); (case side8 => exact (Kd.S_reads' HO425.out).2.1); rintro e w94 ⟨rfl, hb⟩; refine ⟨_, rfl, ?_⟩; replace HO411 := Aside0.mk (Kd.R_below (by refine bR ?_; exact (Kd.R_mono (Kd.R_far (p := ⟨gb448, 1, none⟩) (Kd.R_far (p := ⟨gb448, 0, none⟩) (Kd.R_types HO411.out BK448.out (by decide)) (fun _ hk => hk.2) (.slice Ao73 t441.length co73)) (fun _ hk => hk.2) (.slice Ao80 t444.length co80)) (fun _ h_ => h_.1))) hb); replace HO414 := Aside0.mk (Kd.S_below (by refine bS ?_; exact (Kd.S_mono (Kd.S_far (p := ⟨gb448, 1, none⟩) (Kd.S_far (p := ⟨gb448, 0, none⟩) (Kd.S_types HO414.out BK448.out (by decide)) (fun _ hk => hk.2) (.slice Ao73 t441.length co73)) (fun _ hk => hk.2) (.slice Ao80 t444.length co80)) (fun _ h_ => h_.1))) hb); replace HO419 := Aside0.mk (Kd.R_below (by refine bR ?_; exact (Kd.R_mono (Kd.R_far (p := ⟨gb448, 1, none⟩) (Kd.R_far (p := ⟨gb448, 0, none⟩) (Kd.R_types HO419.out BK448.out (by decide)) (fun _ hk => hk.2) (.slice Ao73 t441.length co73)) (fun _ hk => hk.2) (.slice Ao80 t444.length co80)) (fun _ h_ => h_.1))) hb); replace HO422 := Aside0.mk (Kd.R_below ZZe91701 hb); replace HO425 := Aside0.mk (Kd.S_below ZZ5fb767 hb); replace HO430 := Aside0.mk (Kd.R_below (by refine bR ?_; exact (Kd.R_mono (Kd.R_far (p := ⟨gb448, 1, none⟩) (Kd.R_far (p := ⟨gb448, 0, none⟩) (Kd.R_types HO430.out BK448.out (by decide)) (fun _ hk => hk.2) (.slice Ao73 t441.length co73)) (fun _ hk => hk.2) (.slice Ao80 t444.length co80)) (fun _ h_ => h_.1))) hb); replace HO433 := Aside0.mk (Kd.S_below (by refine bS ?_; exact (Kd.S_mono (Kd.S_far (p := ⟨gb448, 1, none⟩) (Kd.S_far (p := ⟨gb448, 0, none⟩) (Kd.S_types HO433.out BK448.out (by decide)) (fun _ hk => hk.2) (.slice Ao73 t441.length co73)) (fun _ hk => hk.2) (.slice Ao80 t444.length co80)) (fun _ h_ => h_.1))) hb); replace HO439 := Aside0.mk (Kd.R_below (by refine bR ?_; exact (Kd.R_mono (Kd.R_far (p := ⟨gb448, 1, none⟩) (Kd.R_far (p := ⟨gb448, 0, none⟩) (Kd.R_types HO439.out BK448.out (by decide)) (fun _ hk => hk.2) (.slice Ao73 t441.length co73)) (fun _ hk => hk.2) (.slice Ao80 t444.length co80)) (fun _ h_ => h_.1))) hb); replace HO443 := Aside0.mk (Kd.R_below ZZf6a8d2 hb); replace HO446 := Aside0.mk (Kd.S_below ZZ083a78 hb); replace BK405 := Aside0.mk (blk_below (g := gb405) (o := .cells #[.slice A0_0 l0_0.length c0_0, .slice A0_1 l0_1.length c0_1] 25 (0, 0)) (by refine bd ?_; refine blk_far ?_ NB405_448.out _; refine bd ?_; refine blk_far ?_ NB405_448.out _; refine bd ?_; exact BK405.out) hb); replace BK406 := Aside0.mk (blk_below (g := gb406) (o := .cells #[.int .i64 a1_0, .string a1_1, .slice A1_2 l1_2.length c1_2] 58 (0, 0)) (by refine bd ?_; refine blk_far ?_ NB406_448.out _; refine bd ?_; refine blk_far ?_ NB406_448.out _; refine bd ?_; exact BK406.out) hb); replace BK427 := Aside0.mk (blk_below (g := gb427) (o := .cells #[.slice Ao42 t420.length co42, .slice Ao44 t423.length co44] 31 (0, 0)) (by refine bd ?_; refine blk_far ?_ NB427_448.out _; refine bd ?_; refine blk_far ?_ NB427_448.out _; refine bd ?_; exact BK427.out) hb); replace BK434 := Aside0.mk (blk_below (g := gb434) (o := .cells #[.slice Ao51 t428.length co51, .slice Ao56 t431.length co56] 31 (0, 0)) (by refine bd ?_; refine blk_far ?_ NB434_448.out _; refine bd ?_; refine blk_far ?_ NB434_448.out _; refine bd ?_; exact BK434.out) hb); replace BK440 := Aside0.mk (blk_below (g := gb440) (o := .cells #[.int .i64 t435, .string t436, .slice Ao66 t437.length co66] 63 (0, 0)) (by refine bd ?_; refine blk_far ?_ NB440_448.out _; refine bd ?_; refine blk_far ?_ NB440_448.out _; refine bd ?_; exact BK440.out) hb); replace BK448 := Aside0.mk (blk_below (g := gb448) (o := .cells #[.slice Ao73 t441.length co73, .slice Ao80 t444.length co80] 31 (0, 0)) (by refine bd ?_; refine blk_put (cs := #[.slice Ao73 t441.length co73, .slice none 0 0]) ?_ 1 _ rfl; refine bd ?_; refine blk_put (cs := #[.slice none 0 0, .slice none 0 0]) ?_ 0 _ rfl; refine bd ?_; exact BK448.out) hb); replace HB := hB hb; (try clear hb); (try clear hb2); (try clear hk); (try clear hi)))
   go_meet
   case rel => exact ⟨_, ((t447 != t426)), ZZ0ab324, H, kle, ⟨(by refine bR ?_; exact Kd.R_mono HO422.out (fun _ hk => ⟨hk.1.2, zA hk.2⟩))⟩, ⟨(by refine bS ?_; exact Kd.S_mono HO425.out (fun _ hk => ⟨hk.1.1.2.2.1, ⟨hk.1.1.2.2.2.1, ⟨hk.2, ⟨hk.1.1.2.2.2.2.1, ⟨hk.1.1.2.2.2.2.2, hk.1.2⟩⟩⟩⟩⟩))⟩, ⟨(by refine bR ?_; exact Kd.R_mono HO430.out (fun _ hk => ⟨hk.1.2, zA hk.2⟩))⟩, ⟨(by refine bS ?_; exact Kd.S_mono HO433.out (fun _ hk => ⟨hk.1.1.2.2.1, ⟨hk.1.1.2.2.2.1, ⟨hk.2, ⟨hk.1.1.2.2.2.2.1, ⟨hk.1.1.2.2.2.2.2, hk.1.2⟩⟩⟩⟩⟩))⟩, ⟨(by refine bR ?_; exact Kd.R_mono HO439.out (fun _ hk => trivial))⟩, ⟨(by refine bR ?_; exact Kd.R_mono HO443.out (fun _ hk => ⟨hk.1.2, zA hk.2⟩))⟩, ⟨(by refine bS ?_; exact Kd.S_mono HO446.out (fun _ hk => ⟨hk.1.1.1.1.2, ⟨hk.1.1.1.2, ⟨hk.1.1.2, ⟨hk.1.2, zA hk.2⟩⟩⟩⟩))⟩, ⟨(zB BK405)⟩, ⟨(zB BK406)⟩, ⟨(zB BK427)⟩, ⟨(zB BK434)⟩, ⟨(zB BK440)⟩, ⟨(zB BK448)⟩, ⟨ZZ295621⟩⟩
  replace c82 := Bool.eq_false_iff.mpr c82
  subst c82
  replace H := ifF H
  replace H := Aside0.mk H
  go_wp2_with (first | (refine gc 47 Tryd.func18 #[.agg #[.slice Ao73 t441.length co73, .slice Ao80 t444.length co80], .agg #[.slice Ao42 t420.length co42, .slice Ao44 t423.length co44]] ?_; (with_reducible refine (laws_eqLedger.calls k _ _ t441 _ _ t444 _ _ t420 _ _ t423 false _ ?side1 ?side2 ?side3 ?side4 ?side5 ?side6 ?side7 ?side8 A81.out).mono ?_); (case side1 => exact (Kd.R_reads' (e := 48) (base := w.heap.size) (n := t441.length) (c := co73) ZZf6a8d2).2.2); (case side2 => exact (Kd.R_reads' HO443.out).2.1); (case side3 => exact (Kd.S_reads' (e := 63) (base := w.heap.size) (n := t444.length) (c := co80) ZZ083a78).2.2); (case side4 => exact (Kd.S_reads' HO446.out).2.1); (case side5 => exact (Kd.R_reads' (e := 48) (base := w.heap.size) (n := t420.length) (c := co42) ZZe91701).2.2); (case side6 => exact (Kd.R_reads' HO422.out).2.1); (case side7 => exact (Kd.S_reads' (e := 63) (base := w.heap.size) (n := t423.length) (c := co44) ZZ5fb767).2.2); (case side8 => exact (Kd.S_reads' HO425.out).2.1); rintro e w106 ⟨rfl, hb⟩; refine ⟨_, rfl, ?_⟩; replace HO411 := Aside0.mk (Kd.R_below (by refine bR ?_; exact (Kd.R_mono (Kd.R_far (p := ⟨gb448, 1, none⟩) (Kd.R_far (p := ⟨gb448, 0, none⟩) (Kd.R_types HO411.out BK448.out (by decide)) (fun _ hk => hk.2) (.slice Ao73 t441.length co73)) (fun _ hk => hk.2) (.slice Ao80 t444.length co80)) (fun _ h_ => h_.1))) hb); replace HO414 := Aside0.mk (Kd.S_below (by refine bS ?_; exact (Kd.S_mono (Kd.S_far (p := ⟨gb448, 1, none⟩) (Kd.S_far (p := ⟨gb448, 0, none⟩) (Kd.S_types HO414.out BK448.out (by decide)) (fun _ hk => hk.2) (.slice Ao73 t441.length co73)) (fun _ hk => hk.2) (.slice Ao80 t444.length co80)) (fun _ h_ => h_.1))) hb); replace HO419 := Aside0.mk (Kd.R_below (by refine bR ?_; exact (Kd.R_mono (Kd.R_far (p := ⟨gb448, 1, none⟩) (Kd.R_far (p := ⟨gb448, 0, none⟩) (Kd.R_types HO419.out BK448.out (by decide)) (fun _ hk => hk.2) (.slice Ao73 t441.length co73)) (fun _ hk => hk.2) (.slice Ao80 t444.length co80)) (fun _ h_ => h_.1))) hb); replace HO422 := Aside0.mk (Kd.R_below ZZe91701 hb); replace HO425 := Aside0.mk (Kd.S_below ZZ5fb767 hb); replace HO430 := Aside0.mk (Kd.R_below (by refine bR ?_; exact (Kd.R_mono (Kd.R_far (p := ⟨gb448, 1, none⟩) (Kd.R_far (p := ⟨gb448, 0, none⟩) (Kd.R_types HO430.out BK448.out (by decide)) (fun _ hk => hk.2) (.slice Ao73 t441.length co73)) (fun _ hk => hk.2) (.slice Ao80 t444.length co80)) (fun _ h_ => h_.1))) hb); replace HO433 := Aside0.mk (Kd.S_below (by refine bS ?_; exact (Kd.S_mono (Kd.S_far (p := ⟨gb448, 1, none⟩) (Kd.S_far (p := ⟨gb448, 0, none⟩) (Kd.S_types HO433.out BK448.out (by decide)) (fun _ hk => hk.2) (.slice Ao73 t441.length co73)) (fun _ hk => hk.2) (.slice Ao80 t444.length co80)) (fun _ h_ => h_.1))) hb); replace HO439 := Aside0.mk (Kd.R_below (by refine bR ?_; exact (Kd.R_mono (Kd.R_far (p := ⟨gb448, 1, none⟩) (Kd.R_far (p := ⟨gb448, 0, none⟩) (Kd.R_types HO439.out BK448.out (by decide)) (fun _ hk => hk.2) (.slice Ao73 t441.length co73)) (fun _ hk => hk.2) (.slice Ao80 t444.length co80)) (fun _ h_ => h_.1))) hb); replace HO443 := Aside0.mk (Kd.R_below ZZf6a8d2 hb); replace HO446 := Aside0.mk (Kd.S_below ZZ083a78 hb); replace BK405 := Aside0.mk (blk_below (g := gb405) (o := .cells #[.slice A0_0 l0_0.length c0_0, .slice A0_1 l0_1.length c0_1] 25 (0, 0)) (by refine bd ?_; refine blk_far ?_ NB405_448.out _; refine bd ?_; refine blk_far ?_ NB405_448.out _; refine bd ?_; exact BK405.out) hb); replace BK406 := Aside0.mk (blk_below (g := gb406) (o := .cells #[.int .i64 a1_0, .string a1_1, .slice A1_2 l1_2.length c1_2] 58 (0, 0)) (by refine bd ?_; refine blk_far ?_ NB406_448.out _; refine bd ?_; refine blk_far ?_ NB406_448.out _; refine bd ?_; exact BK406.out) hb); replace BK427 := Aside0.mk (blk_below (g := gb427) (o := .cells #[.slice Ao42 t420.length co42, .slice Ao44 t423.length co44] 31 (0, 0)) (by refine bd ?_; refine blk_far ?_ NB427_448.out _; refine bd ?_; refine blk_far ?_ NB427_448.out _; refine bd ?_; exact BK427.out) hb); replace BK434 := Aside0.mk (blk_below (g := gb434) (o := .cells #[.slice Ao51 t428.length co51, .slice Ao56 t431.length co56] 31 (0, 0)) (by refine bd ?_; refine blk_far ?_ NB434_448.out _; refine bd ?_; refine blk_far ?_ NB434_448.out _; refine bd ?_; exact BK434.out) hb); replace BK440 := Aside0.mk (blk_below (g := gb440) (o := .cells #[.int .i64 t435, .string t436, .slice Ao66 t437.length co66] 63 (0, 0)) (by refine bd ?_; refine blk_far ?_ NB440_448.out _; refine bd ?_; refine blk_far ?_ NB440_448.out _; refine bd ?_; exact BK440.out) hb); replace BK448 := Aside0.mk (blk_below (g := gb448) (o := .cells #[.slice Ao73 t441.length co73, .slice Ao80 t444.length co80] 31 (0, 0)) (by refine bd ?_; refine blk_put (cs := #[.slice Ao73 t441.length co73, .slice none 0 0]) ?_ 1 _ rfl; refine bd ?_; refine blk_put (cs := #[.slice none 0 0, .slice none 0 0]) ?_ 0 _ rfl; refine bd ?_; exact BK448.out) hb); replace HB := hB hb; (try clear hb); (try clear hb2); (try clear hk); (try clear hi)))
  go_meet
  case rel => exact ⟨_, (true), ZZ0ab324, H, kle, ⟨(by refine bR ?_; exact Kd.R_mono HO422.out (fun _ hk => ⟨hk.1.2, zA hk.2⟩))⟩, ⟨(by refine bS ?_; exact Kd.S_mono HO425.out (fun _ hk => ⟨hk.1.1.2.2.1, ⟨hk.1.1.2.2.2.1, ⟨hk.2, ⟨hk.1.1.2.2.2.2.1, ⟨hk.1.1.2.2.2.2.2, hk.1.2⟩⟩⟩⟩⟩))⟩, ⟨(by refine bR ?_; exact Kd.R_mono HO430.out (fun _ hk => ⟨hk.1.2, zA hk.2⟩))⟩, ⟨(by refine bS ?_; exact Kd.S_mono HO433.out (fun _ hk => ⟨hk.1.1.2.2.1, ⟨hk.1.1.2.2.2.1, ⟨hk.2, ⟨hk.1.1.2.2.2.2.1, ⟨hk.1.1.2.2.2.2.2, hk.1.2⟩⟩⟩⟩⟩))⟩, ⟨(by refine bR ?_; exact Kd.R_mono HO439.out (fun _ hk => trivial))⟩, ⟨(by refine bR ?_; exact Kd.R_mono HO443.out (fun _ hk => ⟨hk.1.2, zA hk.2⟩))⟩, ⟨(by refine bS ?_; exact Kd.S_mono HO446.out (fun _ hk => ⟨hk.1.1.1.1.2, ⟨hk.1.1.1.2, ⟨hk.1.1.2, ⟨hk.1.2, zA hk.2⟩⟩⟩⟩))⟩, ⟨(zB BK405)⟩, ⟨(zB BK406)⟩, ⟨(zB BK427)⟩, ⟨(zB BK434)⟩, ⟨(zB BK440)⟩, ⟨(zB BK448)⟩, ⟨ZZ295621⟩⟩
 case rest =>
  clear HC25
  try clear c82
  try clear hcz100_0
  try clear hcz100_1
  try clear hcz105_0
  try clear hcz105_1
  try clear hcz47_0
  try clear hcz47_1
  try clear hcz55_0
  try clear hcz55_1
  try clear hcz58_0
  try clear hcz58_1
  try clear hcz58_2
  try clear hcz65_0
  try clear hcz65_1
  try clear hcz65_2
  try clear hcz68_0
  try clear hcz68_1
  try clear hcz69_0
  try clear hcz69_1
  try clear hcz69_2
  try clear hcz79_0
  try clear hcz79_1
  try clear hcz88_0
  try clear hcz88_1
  try clear hcz93_0
  try clear hcz93_1
  try clear hfz100_0
  try clear hfz100_1
  try clear hfz105_0
  try clear hfz105_1
  try clear hfz47_0
  try clear hfz47_1
  try clear hfz55_0
  try clear hfz55_1
  try clear hfz58_0
  try clear hfz58_1
  try clear hfz58_2
  try clear hfz65_0
  try clear hfz65_1
  try clear hfz65_2
  try clear hfz68_0
  try clear hfz68_1
  try clear hfz69_0
  try clear hfz69_1
  try clear hfz69_2
  try clear hfz79_0
  try clear hfz79_1
  try clear hfz88_0
  try clear hfz88_1
  try clear hfz93_0
  try clear hfz93_1
  obtain ⟨kq, x53_24, rfl, HA, HJ24, HO_428000, HO_428001, HO_435000, HO_435001, HO_441002, HO_449000, HO_449001, BK405, BK406, BK427, BK434, BK440, BK448, HB⟩ := hcut
  cases kq with
  | zero => exact absurd HA.out (by simp [laws_FnExactPostEntry.j0])
  | succ kj24 =>
   have H := HA.out
   clear HA
   simp only [laws_FnExactPostEntry.j0] at H
   by_cases c107 : x53_24 = true
   ·subst c107
    replace H := ifT H
    obtain rfl := Option.some.inj H
    go_wp2
    go_ret
    exact ⟨ZZab01d2, ZZ295621⟩
   replace c107 := Bool.eq_false_iff.mpr c107
   subst c107
   replace H := ifF H
   obtain ⟨⟨t450, t453⟩, A108, H⟩ := bdY H
   try dsimp only at H
   obtain ⟨t456, A109, H⟩ := bdY H
   by_cases c110 : t456 = true
   ·subst c110
    replace H := ifT H
    obtain ⟨⟨t457, t458, t459⟩, A111, H⟩ := bdY H
    try dsimp only at H
    obtain ⟨t462, A112, H⟩ := bdY H
    by_cases c113 : t462 = true
    ·subst c113
     replace H := ifT H
     obtain ⟨⟨t463, t464, t465⟩, A114, H⟩ := bdY H
     try dsimp only at H
     obtain ⟨⟨t466, t467⟩, A115, H⟩ := bdY H
     try dsimp only at H
     have HC116 := Aside0.mk H
     clear H
     try go_wp2
     replace HO_428000 := Aside0.mk (Kd.R_drew HO_428000.out)
     replace HO_428001 := Aside0.mk (Kd.S_drew HO_428001.out)
     replace HO_435000 := Aside0.mk (Kd.R_drew HO_435000.out)
     replace HO_435001 := Aside0.mk (Kd.S_drew HO_435001.out)
     replace HO_441002 := Aside0.mk (Kd.R_drew HO_441002.out)
     replace HO_449000 := Aside0.mk (Kd.R_drew HO_449000.out)
     replace HO_449001 := Aside0.mk (Kd.S_drew HO_449001.out)
     replace BK405 := Aside0.mk (blk_drew BK405.out)
     replace BK406 := Aside0.mk (blk_drew BK406.out)
     replace BK427 := Aside0.mk (blk_drew BK427.out)
     replace BK434 := Aside0.mk (blk_drew BK434.out)
     replace BK440 := Aside0.mk (blk_drew BK440.out)
     replace BK448 := Aside0.mk (blk_drew BK448.out)
     replace HB := Aside0.mk (below_drew1 HB.out)
     refine start_ (n := 5) (S := fun w' => w'.cell? ⟨gb434, 0, none⟩ = some (.slice Ao51 t428.length co51) ∧ w'.cell? ⟨gb434, 1, none⟩ = some (.slice Ao56 t431.length co56) ∧ w'.cell? ⟨gb405, 0, none⟩ = some (.slice A0_0 l0_0.length c0_0) ∧ w'.cell? ⟨gb405, 1, none⟩ = some (.slice A0_1 l0_1.length c0_1)) (ds := []) #[false, false, false, false, false] (by kernel_rfl) rfl rfl ⟨(blk_cell BK434.out 0).trans rfl, (blk_cell BK434.out 1).trans rfl, (blk_cell BK405.out 0).trans rfl, (blk_cell BK405.out 1).trans rfl⟩ (fun hHeld => ?_)
     generalize wc.drew = w117 at HO_428000 HO_428001 HO_435000 HO_435001 HO_441002 HO_449000 HO_449001 BK405 BK406 BK427 BK434 BK440 BK448 HB hHeld ⊢
     refine take_ (i := 0) (N := some 54) (v := ?_) (a' := ?_) #[true, false, false, false, false] rfl rfl (by kernel_rfl) (fun _ _ _ h => h) (Or.inl ⟨(by rfl), ?_⟩) hHeld ?_ ?_
     rotate_left
     ·rintro w' ⟨s0, s1, s2, s3⟩
      go_simp
      with_reducible rfl
     rotate_left
     ·simp only [Act.put, List.setIfInBounds_toArray, List.set_cons_zero, List.set_cons_succ, i64_w, i32_w]
      rfl
     refine take_ (i := 1) (N := some 55) (v := ?_) (a' := ?_) #[true, true, false, false, false] rfl rfl (by kernel_rfl) (fun _ _ _ h => h) (Or.inl ⟨(by rfl), ?_⟩) hHeld ?_ ?_
     rotate_left
     ·rintro w' ⟨s0, s1, s2, s3⟩
      go_simp
      with_reducible rfl
     rotate_left
     ·simp only [Act.put, List.setIfInBounds_toArray, List.set_cons_zero, List.set_cons_succ, i64_w, i32_w]
      rfl
     refine one_ (i := 2) (N := some 56) #[true, true, true, false, false] rfl rfl (by kernel_rfl) (by decide) (fun K hK => ?_)
     refine goes_ Tryd.func16 (by kernel_rfl) rfl #[.agg #[.slice A0_0 l0_0.length c0_0, .slice A0_1 l0_1.length c0_1]] (by rfl) rfl rfl ZZ19826e ?_
     with_reducible refine (laws_toLedger.calls kj24 _ _ l0_0 _ _ l0_1 t450 t453 _ ?side1 ?side2 ?side3 ?side4 A108.out).mono ?_
     (case side1 => exact (rC (Kd.C_below HR0_0.out HB.out)))
     (case side2 => exact HC0_0.out)
     (case side3 => exact (rC (Kd.C_below HR0_1.out HB.out)))
     (case side4 => exact HC0_1.out)
     rintro e w118 ⟨v451, v454, rfl, ho0, ho1, hb⟩
     refine ⟨_, rfl, ?_⟩
     have HO452 := Aside0.mk (Kd.R_lower (Kd.R_new' (Kd.R_new' (Kd.R_new' ho0 (Kd.R_lt (zR HO_428000))) (Kd.R_lt (zR HO_435000))) (Kd.R_lt (zR HO_449000))) (below_size ZZ295621))
     replace HO_428000 := Aside0.mk (Kd.R_elder' (zR HO_428000) (Kd.R_base ho0) hb)
     replace HO_435000 := Aside0.mk (Kd.R_elder' (zR HO_435000) (Kd.R_base ho0) hb)
     replace HO_449000 := Aside0.mk (Kd.R_elder' (zR HO_449000) (Kd.R_base ho0) hb)
     have HO455 := Aside0.mk (Kd.S_lower (Kd.S_newB (Kd.S_new' (Kd.S_new' (Kd.S_new' (Kd.S_new' ho1 (Kd.S_lt (zS HO_428001))) (Kd.S_lt (zS HO_435001))) (Kd.R_lt (zR HO_441002))) (Kd.S_lt (zS HO_449001))) (zB BK440)) (below_size ZZ295621))
     replace HO_428001 := Aside0.mk (Kd.S_elder' (zS HO_428001) (Kd.S_base ho1) hb)
     replace HO_435001 := Aside0.mk (Kd.S_elder' (zS HO_435001) (Kd.S_base ho1) hb)
     replace HO_441002 := Aside0.mk (Kd.R_below (zR HO_441002) hb)
     replace HO_449001 := Aside0.mk (Kd.S_elder' (zS HO_449001) (Kd.S_base ho1) hb)
     replace BK405 := kb BK405 hb
     replace BK406 := kb BK406 hb
     replace BK427 := kb BK427 hb
     replace BK434 := kb BK434 hb
     replace BK440 := kb BK440 hb
     replace BK448 := kb BK448 hb
     replace HB := hB hb
     (try clear hb)
     (try clear hb2)
     (try clear hk)
     (try clear hi)
     (try clear ho0)
     (try clear ho1)
     obtain ⟨Ao119, co119, eo119⟩ := Kd.R_slice HO452.out
     (first | subst eo119 | (injection eo119 with f1_ f2_ f3_; have f4_ := f1_.symm; have f5_ := f3_.symm; clear f1_ f2_ f3_; subst f4_; subst f5_))
     obtain ⟨Ao120, co120, eo120⟩ := Kd.S_slice HO455.out
     (first | subst eo120 | (injection eo120 with f1_ f2_ f3_; have f4_ := f1_.symm; have f5_ := f3_.symm; clear f1_ f2_ f3_; subst f4_; subst f5_))
     refine hK.out _ _ zK (fun hHeld => ?_)
     clear hK K
     refine nd (some 56) ?_
     refine one_ (i := 3) (N := some 57) #[true, true, true, true, false] rfl rfl (by kernel_rfl) (by decide) (fun K hK => ?_)
     refine goes_ Tryd.func18 (by kernel_rfl) rfl #[.agg #[.slice Ao51 t428.length co51, .slice Ao56 t431.length co56], .agg #[.slice Ao119 t450.length co119, .slice Ao120 t453.length co120]] (by rfl) rfl rfl ZZ19826e ?_
     with_reducible refine (laws_eqLedger.calls kj24 _ _ t428 _ _ t431 _ _ t450 _ _ t453 true _ ?side1 ?side2 ?side3 ?side4 ?side5 ?side6 ?side7 ?side8 A109.out).mono ?_
     (case side1 => exact rC (Kd.R_reads' HO_435000.out).2.2)
     (case side2 => exact (Kd.R_reads' HO_435000.out).2.1)
     (case side3 => exact rC (Kd.S_reads' HO_435001.out).2.2)
     (case side4 => exact (Kd.S_reads' HO_435001.out).2.1)
     (case side5 => exact rC (Kd.R_reads' HO452.out).2.2)
     (case side6 => exact (Kd.R_reads' HO452.out).2.1)
     (case side7 => exact rC (Kd.S_reads' HO455.out).2.2)
     (case side8 => exact (Kd.S_reads' HO455.out).2.1)
     rintro e w121 ⟨rfl, hb⟩
     refine ⟨_, rfl, ?_⟩
     replace HO_428000 := Aside0.mk (Kd.R_below (zR HO_428000) hb)
     replace HO_428001 := Aside0.mk (Kd.S_below (zS HO_428001) hb)
     replace HO_435000 := Aside0.mk (Kd.R_below (zR HO_435000) hb)
     replace HO_435001 := Aside0.mk (Kd.S_below (zS HO_435001) hb)
     replace HO_441002 := Aside0.mk (Kd.R_below (zR HO_441002) hb)
     replace HO_449000 := Aside0.mk (Kd.R_below (zR HO_449000) hb)
     replace HO_449001 := Aside0.mk (Kd.S_below (zS HO_449001) hb)
     replace HO452 := Aside0.mk (Kd.R_below (zR HO452) hb)
     replace HO455 := Aside0.mk (Kd.S_below (zS HO455) hb)
     replace BK405 := kb BK405 hb
     replace BK406 := kb BK406 hb
     replace BK427 := kb BK427 hb
     replace BK434 := kb BK434 hb
     replace BK440 := kb BK440 hb
     replace BK448 := kb BK448 hb
     replace HB := hB hb
     (try clear hb)
     (try clear hb2)
     (try clear hk)
     (try clear hi)
     refine hK.out _ _ zK (fun hHeld => ?_)
     clear hK K
     refine nd (some 57) ?_
     refine pure_ (i := 4) (N := some 58) (v := ?_) (a' := ?_) #[true, true, true, true, true] rfl rfl (by kernel_rfl) (fun _ _ _ h => h) (Or.inl ⟨(by rfl), ?_⟩) ?_ ?_
     rotate_left
     ·intro w'
      go_simp
      with_reducible rfl
     rotate_left
     ·simp only [Act.put, List.setIfInBounds_toArray, List.set_cons_zero, List.set_cons_succ, i64_w, i32_w]
      rfl
     refine done_ (by kernel_rfl) ?_
     try go_wp2
     replace HO_428000 := Aside0.mk (Kd.R_drew HO_428000.out)
     replace HO_428001 := Aside0.mk (Kd.S_drew HO_428001.out)
     replace HO_435000 := Aside0.mk (Kd.R_drew HO_435000.out)
     replace HO_435001 := Aside0.mk (Kd.S_drew HO_435001.out)
     replace HO_441002 := Aside0.mk (Kd.R_drew HO_441002.out)
     replace HO_449000 := Aside0.mk (Kd.R_drew HO_449000.out)
     replace HO_449001 := Aside0.mk (Kd.S_drew HO_449001.out)
     replace HO452 := Aside0.mk (Kd.R_drew HO452.out)
     replace HO455 := Aside0.mk (Kd.S_drew HO455.out)
     replace BK405 := Aside0.mk (blk_drew BK405.out)
     replace BK406 := Aside0.mk (blk_drew BK406.out)
     replace BK427 := Aside0.mk (blk_drew BK427.out)
     replace BK434 := Aside0.mk (blk_drew BK434.out)
     replace BK440 := Aside0.mk (blk_drew BK440.out)
     replace BK448 := Aside0.mk (blk_drew BK448.out)
     replace HB := Aside0.mk (below_drew1 HB.out)
     refine start_ (n := 5) (S := fun w' => w'.cell? ⟨gb440, 0, none⟩ = some (.int .i64 t435) ∧ w'.cell? ⟨gb440, 1, none⟩ = some (.string t436) ∧ w'.cell? ⟨gb440, 2, none⟩ = some (.slice Ao66 t437.length co66) ∧ w'.cell? ⟨gb406, 0, none⟩ = some (.int .i64 a1_0) ∧ w'.cell? ⟨gb406, 1, none⟩ = some (.string a1_1) ∧ w'.cell? ⟨gb406, 2, none⟩ = some (.slice A1_2 l1_2.length c1_2)) (ds := []) #[false, false, false, false, false] (by kernel_rfl) rfl rfl ⟨(blk_cell BK440.out 0).trans rfl, (blk_cell BK440.out 1).trans rfl, (blk_cell BK440.out 2).trans rfl, (blk_cell BK406.out 0).trans rfl, (blk_cell BK406.out 1).trans rfl, (blk_cell BK406.out 2).trans rfl⟩ (fun hHeld => ?_)
     generalize w121.drew = w122 at HO_428000 HO_428001 HO_435000 HO_435001 HO_441002 HO_449000 HO_449001 HO452 HO455 BK405 BK406 BK427 BK434 BK440 BK448 HB hHeld ⊢
     refine take_ (i := 0) (N := some 59) (v := ?_) (a' := ?_) #[true, false, false, false, false] rfl rfl (by kernel_rfl) (fun _ _ _ h => h) (Or.inl ⟨(by rfl), ?_⟩) hHeld ?_ ?_
     rotate_left
     ·rintro w' ⟨s0, s1, s2, s3, s4, s5⟩
      go_simp
      with_reducible rfl
     rotate_left
     ·simp only [Act.put, List.setIfInBounds_toArray, List.set_cons_zero, List.set_cons_succ, i64_w, i32_w]
      rfl
     refine take_ (i := 1) (N := some 60) (v := ?_) (a' := ?_) #[true, true, false, false, false] rfl rfl (by kernel_rfl) (fun _ _ _ h => h) (Or.inl ⟨(by rfl), ?_⟩) hHeld ?_ ?_
     rotate_left
     ·rintro w' ⟨s0, s1, s2, s3, s4, s5⟩
      go_simp
      with_reducible rfl
     rotate_left
     ·simp only [Act.put, List.setIfInBounds_toArray, List.set_cons_zero, List.set_cons_succ, i64_w, i32_w]
      rfl
     refine one_ (i := 2) (N := some 61) #[true, true, true, false, false] rfl rfl (by kernel_rfl) (by decide) (fun K hK => ?_)
     refine goes_ Tryd.func37 (by kernel_rfl) rfl #[.agg #[.int .i64 a1_0, .string a1_1, .slice A1_2 l1_2.length c1_2]] (by rfl) rfl rfl ZZ19826e ?_
     with_reducible refine (laws_toBookEntry.calls kj24 a1_0 a1_1 _ _ l1_2 t457 t458 t459 _ ?side1 ?side2 A111.out).mono ?_
     (case side1 => exact (rC (Kd.C_below HR1_2.out HB.out)))
     (case side2 => exact HC1_2.out)
     rintro e w123 ⟨v460, rfl, ho0, hb⟩
     refine ⟨_, rfl, ?_⟩
     replace HO_428000 := Aside0.mk (Kd.R_below (zR HO_428000) hb)
     replace HO_428001 := Aside0.mk (Kd.S_elder' (zS HO_428001) (Kd.R_base ho0) hb)
     replace HO_435000 := Aside0.mk (Kd.R_below (zR HO_435000) hb)
     replace HO_435001 := Aside0.mk (Kd.S_elder' (zS HO_435001) (Kd.R_base ho0) hb)
     replace HO_449000 := Aside0.mk (Kd.R_below (zR HO_449000) hb)
     replace HO_449001 := Aside0.mk (Kd.S_elder' (zS HO_449001) (Kd.R_base ho0) hb)
     replace HO452 := Aside0.mk (Kd.R_below (zR HO452) hb)
     replace HO455 := Aside0.mk (Kd.S_elder' (zS HO455) (Kd.R_base ho0) hb)
     have HO461 := Aside0.mk (Kd.R_lower (Kd.R_new' ho0 (Kd.R_lt (zR HO_441002))) (below_size ZZ295621))
     replace HO_441002 := Aside0.mk (Kd.R_elder' (zR HO_441002) (Kd.R_base ho0) hb)
     replace BK405 := kb BK405 hb
     replace BK406 := kb BK406 hb
     replace BK427 := kb BK427 hb
     replace BK434 := kb BK434 hb
     replace BK440 := kb BK440 hb
     replace BK448 := kb BK448 hb
     replace HB := hB hb
     (try clear hb)
     (try clear hb2)
     (try clear hk)
     (try clear hi)
     (try clear ho0)
     obtain ⟨Ao124, co124, eo124⟩ := Kd.R_slice HO461.out
     (first | subst eo124 | (injection eo124 with f1_ f2_ f3_; have f4_ := f1_.symm; have f5_ := f3_.symm; clear f1_ f2_ f3_; subst f4_; subst f5_))
     refine hK.out _ _ zK (fun hHeld => ?_)
     clear hK K
     refine nd (some 61) ?_
     refine one_ (i := 3) (N := some 62) #[true, true, true, true, false] rfl rfl (by kernel_rfl) (by decide) (fun K hK => ?_)
     refine goes_ Tryd.func39 (by kernel_rfl) rfl #[.agg #[.int .i64 t435, .string t436, .slice Ao66 t437.length co66], .agg #[.int .i64 t457, .string t458, .slice Ao124 t459.length co124]] (by rfl) rfl rfl ZZ19826e ?_
     with_reducible refine (laws_eqBookEntry.calls kj24 t435 t436 _ _ t437 t457 t458 _ _ t459 true _ ?side1 ?side2 ?side3 ?side4 A112.out).mono ?_
     (case side1 => exact rC (Kd.R_reads' HO_441002.out).2.2)
     (case side2 => exact (Kd.R_reads' HO_441002.out).2.1)
     (case side3 => exact rC (Kd.R_reads' HO461.out).2.2)
     (case side4 => exact (Kd.R_reads' HO461.out).2.1)
     rintro e w125 ⟨rfl, hb⟩
     refine ⟨_, rfl, ?_⟩
     replace HO_428000 := Aside0.mk (Kd.R_below (zR HO_428000) hb)
     replace HO_428001 := Aside0.mk (Kd.S_below (zS HO_428001) hb)
     replace HO_435000 := Aside0.mk (Kd.R_below (zR HO_435000) hb)
     replace HO_435001 := Aside0.mk (Kd.S_below (zS HO_435001) hb)
     replace HO_441002 := Aside0.mk (Kd.R_below (zR HO_441002) hb)
     replace HO_449000 := Aside0.mk (Kd.R_below (zR HO_449000) hb)
     replace HO_449001 := Aside0.mk (Kd.S_below (zS HO_449001) hb)
     replace HO452 := Aside0.mk (Kd.R_below (zR HO452) hb)
     replace HO455 := Aside0.mk (Kd.S_below (zS HO455) hb)
     replace HO461 := Aside0.mk (Kd.R_below (zR HO461) hb)
     replace BK405 := kb BK405 hb
     replace BK406 := kb BK406 hb
     replace BK427 := kb BK427 hb
     replace BK434 := kb BK434 hb
     replace BK440 := kb BK440 hb
     replace BK448 := kb BK448 hb
     replace HB := hB hb
     (try clear hb)
     (try clear hb2)
     (try clear hk)
     (try clear hi)
     refine hK.out _ _ zK (fun hHeld => ?_)
     clear hK K
     refine nd (some 62) ?_
     refine pure_ (i := 4) (N := some 63) (v := ?_) (a' := ?_) #[true, true, true, true, true] rfl rfl (by kernel_rfl) (fun _ _ _ h => h) (Or.inl ⟨(by rfl), ?_⟩) ?_ ?_
     rotate_left
     ·intro w'
      go_simp
      with_reducible rfl
     rotate_left
     ·simp only [Act.put, List.setIfInBounds_toArray, List.set_cons_zero, List.set_cons_succ, i64_w, i32_w]
      rfl
     refine done_ (by kernel_rfl) ?_
     have hnb126 := NB434_405.out
     have hnc126 := NB405_434.out
     have hnb127 := NB434_406.out
     have hnc127 := NB406_434.out
     have hnb128 := NB434_427.out
     have hnc128 := NB427_434.out
     have hnb129 := NB434_440.out
     have hnc129 := NB440_434.out
     have hnb130 := NB434_448.out
     have hnc130 := NB448_434.out
     obtain ⟨hcz131_0, hcz131_1, hfz131_0, hfz131_1⟩ := z2 BK434
     go_upto_region 21 with (first | (refine gc 66 Tryd.func31 #[.agg #[.slice Ao51 t428.length co51, .slice Ao56 t431.length co56], .int .i64 1] ?_; (with_reducible refine (laws_markLedger.calls kj24 (fun k_ => some k_ = (.slice Ao51 t428.length co51 : Value).ownBlock) (.slice Ao51 t428.length co51) t428 ?P0_1_2 (.slice Ao56 t431.length co56) t431 1 t463 t464 t465 w _ ?side1 ?side2 ?side3 A114.out).mono ?_); (case side1 => exact bw); (case side2 => exact Kd.R_tight rfl HO_435000.out); (case side3 => exact Kd.S_bound HO_435001.out); rintro e w132 ⟨rfl, hy0, hy1, hb, hkp⟩; refine ⟨_, rfl, ?_⟩; obtain ⟨ga133, hga133⟩ := Kd.agek hkp; replace HO_428000 := Aside0.mk (Kd.R_mono (ok' := fun k_ => some k_ ≠ (.slice Ao51 t428.length co51 : Value).ownBlock ∧ some k_ ≠ (.slice Ao73 t441.length co73 : Value).ownBlock ∧ some k_ ≠ (.slice Ao119 t450.length co119 : Value).ownBlock) (Kd.R_keptB ((Kd.R_bound HO_428000.out)) hkp (fun k_ hk_ hs_ => Or.elim hs_ (fun e_ => (hk_.1.1.1) e_) (fun e_ => (fun e_ => Kd.typed_ne (hk_.2).2.2 e_.2.2.2 (by decide)) e_))) (fun k_ hk_ => ⟨hk_.1.1.1.1, hk_.1.1.1.2, hk_.1.1.2⟩)); replace HO_435001 := Aside0.mk (Kd.S_mono (ok' := fun k_ => (some k_ ≠ (.slice Ao44 t423.length co44 : Value).ownBlock ∧ (some k_ ≠ (.slice Ao66 t437.length co66 : Value).ownBlock ∧ (some k_ ≠ (.slice Ao80 t444.length co80 : Value).ownBlock ∧ (k_ ≠ gb440 ∧ (some k_ ≠ (.slice Ao120 t453.length co120 : Value).ownBlock ∧ (some k_ ≠ (.slice Ao124 t459.length co124 : Value).ownBlock ∧ (k_ < ga71 ∨ ga133 ≤ k_)))))))) (Kd.S_bound hy1) (fun k_ hk_ => Or.elim hk_.1 (fun hs_ => Or.elim hs_ (fun e_ => (fun h_ => (Kd.typed_own hk_.2.2.2 (Kd.R_typed hy0 k_ h_.symm) (by decide)).elim) e_) (fun e_ => (fun h_ => ⟨h_.1.1.1.1, ⟨h_.1.1.1.2.1, ⟨h_.1.1.1.2.2.1, ⟨h_.1.1.1.2.2.2.1, ⟨h_.1.1.2, ⟨h_.1.2, (.inl h_.1.1.1.2.2.2.2.2)⟩⟩⟩⟩⟩⟩) e_)) (fun hn_ => ⟨fun e_ => Nat.not_le.2 (Kd.S_lt HO_428001.out k_ e_.symm) hn_, ⟨fun e_ => Nat.not_le.2 (Kd.R_lt HO_441002.out k_ e_.symm) hn_, ⟨fun e_ => Nat.not_le.2 (Kd.S_lt HO_449001.out k_ e_.symm) hn_, ⟨fun e_ => Nat.not_le.2 (by rw [e_]; exact blk_lt (zB BK440)) hn_, ⟨fun e_ => Nat.not_le.2 (Kd.S_lt HO455.out k_ e_.symm) hn_, ⟨fun e_ => Nat.not_le.2 (Kd.R_lt HO461.out k_ e_.symm) hn_, (.inr (by rw [hga133]; exact hn_))⟩⟩⟩⟩⟩⟩))); replace HO_428001 := Aside0.mk (Kd.S_mono (ok' := fun k_ => some k_ ≠ (.slice Ao56 t431.length co56 : Value).ownBlock ∧ some k_ ≠ (.slice Ao66 t437.length co66 : Value).ownBlock ∧ some k_ ≠ (.slice Ao80 t444.length co80 : Value).ownBlock ∧ some k_ ≠ (.slice Ao120 t453.length co120 : Value).ownBlock ∧ some k_ ≠ (.slice Ao124 t459.length co124 : Value).ownBlock ∧ k_ ≠ gb440 ∧ k_ < ga49 ∧ k_ < ga71 ∧ k_ < ga133) (Kd.S_keptB ((Kd.S_bound (Kd.S_apart' HO_428001.out (Kd.R_typed HO_435000.out) (by decide)))) hkp (fun k_ hk_ hs_ => Or.elim hs_ (fun e_ => (hk_.1.2) e_) (fun e_ => (fun e_ => Nat.not_le.2 (hk_.1.1.1.1.2.2.2.2.1) (e_.1.1.1.2.2.2.2.1)) e_))) (fun k_ hk_ => ⟨hk_.1.1.1.1.1.1, hk_.1.1.1.1.1.2.1, hk_.1.1.1.1.1.2.2.1, hk_.1.1.1.1.2, hk_.1.1.1.2, hk_.1.1.1.1.1.2.2.2.1, hk_.1.1.1.1.1.2.2.2.2.1, hk_.1.1.1.1.1.2.2.2.2.2, (by rw [hga133]; exact hk_.2.2)⟩)); replace HO_441002 := Aside0.mk (Kd.R_mono (ok' := fun k_ => some k_ ≠ (.slice Ao124 t459.length co124 : Value).ownBlock) (Kd.R_keptB ((Kd.R_bound (Kd.R_apart' (Kd.R_tight2 rfl HO_441002.out) (Kd.R_typed HO_435000.out) (by decide)))) hkp (fun k_ hk_ hs_ => Or.elim hs_ (fun e_ => (hk_.1.2) e_) (fun e_ => (fun e_ => (e_.1.1.1.2.1) (hk_.1.1.1)) e_))) (fun k_ hk_ => hk_.1.1.1.2.2)); replace HO_449000 := Aside0.mk (Kd.R_mono (ok' := fun k_ => some k_ ≠ (.slice Ao42 t420.length co42 : Value).ownBlock ∧ some k_ ≠ (.slice Ao51 t428.length co51 : Value).ownBlock ∧ some k_ ≠ (.slice Ao119 t450.length co119 : Value).ownBlock) (Kd.R_keptB ((Kd.R_bound HO_449000.out)) hkp (fun k_ hk_ hs_ => Or.elim hs_ (fun e_ => (hk_.1.1.2) e_) (fun e_ => (fun e_ => Kd.typed_ne (hk_.2).2.2 e_.2.2.2 (by decide)) e_))) (fun k_ hk_ => ⟨hk_.1.1.1.1, hk_.1.1.1.2, hk_.1.1.2⟩)); replace HO_449001 := Aside0.mk (Kd.S_mono (ok' := fun k_ => some k_ ≠ (.slice Ao44 t423.length co44 : Value).ownBlock ∧ some k_ ≠ (.slice Ao56 t431.length co56 : Value).ownBlock ∧ some k_ ≠ (.slice Ao66 t437.length co66 : Value).ownBlock ∧ some k_ ≠ (.slice Ao120 t453.length co120 : Value).ownBlock ∧ some k_ ≠ (.slice Ao124 t459.length co124 : Value).ownBlock ∧ k_ ≠ gb440 ∧ ga71 ≤ k_ ∧ k_ < ga133) (Kd.S_keptB ((Kd.S_bound (Kd.S_apart' HO_449001.out (Kd.R_typed HO_435000.out) (by decide)))) hkp (fun k_ hk_ hs_ => Or.elim hs_ (fun e_ => (hk_.1.2) e_) (fun e_ => (fun e_ => Nat.not_le.2 (e_.1.1.1.2.2.2.2.2) (hk_.1.1.1.1.2.2.2.2)) e_))) (fun k_ hk_ => ⟨hk_.1.1.1.1.1.1, hk_.1.1.1.1.1.2.1, hk_.1.1.1.1.1.2.2.1, hk_.1.1.1.1.2, hk_.1.1.1.2, hk_.1.1.1.1.1.2.2.2.1, hk_.1.1.1.1.1.2.2.2.2, (by rw [hga133]; exact hk_.2.2)⟩)); replace BK405 := Aside0.mk (blk_kept (zB BK405) hkp (fun hs_ => Or.elim hs_ (fun e_ => (fun e_ => (Kd.R_ne HO_435000.out BK405.out (by decide)) e_) e_) (fun e_ => (fun e_ => Kd.typed_box e_.2.2.2 (zB BK405) (by decide)) e_))); replace BK406 := Aside0.mk (blk_kept (zB BK406) hkp (fun hs_ => Or.elim hs_ (fun e_ => (fun e_ => (Kd.R_ne HO_435000.out BK406.out (by decide)) e_) e_) (fun e_ => (fun e_ => Kd.typed_box e_.2.2.2 (zB BK406) (by decide)) e_))); replace BK427 := Aside0.mk (blk_kept (zB BK427) hkp (fun hs_ => Or.elim hs_ (fun e_ => (fun e_ => (Kd.R_ne HO_435000.out BK427.out (by decide)) e_) e_) (fun e_ => (fun e_ => Kd.typed_box e_.2.2.2 (zB BK427) (by decide)) e_))); replace BK434 := Aside0.mk (blk_kept (zB BK434) hkp (fun hs_ => Or.elim hs_ (fun e_ => (fun e_ => (Kd.R_ne HO_435000.out BK434.out (by decide)) e_) e_) (fun e_ => (fun e_ => Kd.typed_box e_.2.2.2 (zB BK434) (by decide)) e_))); replace BK440 := Aside0.mk (blk_kept (zB BK440) hkp (fun hs_ => Or.elim hs_ (fun e_ => (fun e_ => (Kd.R_ne HO_435000.out BK440.out (by decide)) e_) e_) (fun e_ => (fun e_ => (e_.1.1.1.2.2.2.1) rfl) e_))); replace BK448 := Aside0.mk (blk_kept (zB BK448) hkp (fun hs_ => Or.elim hs_ (fun e_ => (fun e_ => (Kd.R_ne HO_435000.out BK448.out (by decide)) e_) e_) (fun e_ => (fun e_ => Kd.typed_box e_.2.2.2 (zB BK448) (by decide)) e_))); replace HO452 := Aside0.mk (Kd.R_mono (ok' := fun k_ => some k_ ≠ (.slice Ao42 t420.length co42 : Value).ownBlock ∧ some k_ ≠ (.slice Ao51 t428.length co51 : Value).ownBlock ∧ some k_ ≠ (.slice Ao73 t441.length co73 : Value).ownBlock) (Kd.R_keptB ((Kd.R_bound HO452.out)) hkp (fun k_ hk_ hs_ => Or.elim hs_ (fun e_ => (hk_.1.1.2) e_) (fun e_ => (fun e_ => Kd.typed_ne (hk_.2).2.2 e_.2.2.2 (by decide)) e_))) (fun k_ hk_ => ⟨hk_.1.1.1.1.2, hk_.1.1.1.2, hk_.1.1.2⟩)); replace HO461 := Aside0.mk (Kd.R_mono (ok' := fun k_ => some k_ ≠ (.slice Ao66 t437.length co66 : Value).ownBlock) (Kd.R_keptB ((Kd.R_bound (Kd.R_apart' (Kd.R_tight2 rfl HO461.out) (Kd.R_typed HO_435000.out) (by decide)))) hkp (fun k_ hk_ hs_ => Or.elim hs_ (fun e_ => (hk_.1.2) e_) (fun e_ => (fun e_ => (e_.1.2) (hk_.1.1.1)) e_))) (fun k_ hk_ => hk_.1.1.1.2.2)); replace HO_435000 := Aside0.mk (Kd.R_reok rfl hy0 (fun k_ e_ => HO_435000.out.1 k_ e_)); replace HB := Aside0.mk (hb); clear HO455; (try clear hb); (try clear hkp); (try clear hy0); (try clear hy1); have hnb134 := NB440_405.out; have hnc134 := NB405_440.out; have hnb135 := NB440_406.out; have hnc135 := NB406_440.out; have hnb136 := NB440_427.out; have hnc136 := NB427_440.out; have hnb137 := NB440_448.out; have hnc137 := NB448_440.out; obtain ⟨hcz138_0, hcz138_1, hcz138_2, hfz138_0, hfz138_1, hfz138_2⟩ := z3 BK440) | (refine gc 69 Tryd.func40 #[.agg #[.int .i64 t435, .string t436, .slice Ao66 t437.length co66], .int .i64 t463] ?_; (with_reducible refine (laws_markBookEntry.calls kj24 t435 t436 (fun k_ => some k_ = (.slice Ao66 t437.length co66 : Value).ownBlock) (.slice Ao66 t437.length co66) t437 t463 t466 t467 w _ ?side1 ?side2 A115.out).mono ?_); (case side1 => exact bw); (case side2 => exact Kd.R_tight rfl HO_441002.out); rintro e w139 ⟨rfl, hy0, hb, hkp⟩; refine ⟨_, rfl, ?_⟩; replace HO_428000 := Aside0.mk (Kd.R_mono (ok' := fun k_ => some k_ ≠ (.slice Ao51 t428.length co51 : Value).ownBlock ∧ some k_ ≠ (.slice Ao73 t441.length co73 : Value).ownBlock ∧ some k_ ≠ (.slice Ao119 t450.length co119 : Value).ownBlock) (Kd.R_keptB ((Kd.R_apart' HO_428000.out (Kd.R_typed HO_441002.out) (by decide))) hkp (fun k_ hk_ hs_ => (hk_.2) hs_)) (fun k_ hk_ => ⟨hk_.1.1.1, hk_.1.1.2.1, hk_.1.1.2.2⟩)); replace HO_428001 := Aside0.mk (Kd.S_mono (ok' := fun k_ => some k_ ≠ (.slice Ao56 t431.length co56 : Value).ownBlock ∧ some k_ ≠ (.slice Ao66 t437.length co66 : Value).ownBlock ∧ some k_ ≠ (.slice Ao80 t444.length co80 : Value).ownBlock ∧ some k_ ≠ (.slice Ao124 t459.length co124 : Value).ownBlock ∧ k_ ≠ gb440 ∧ k_ < ga49 ∧ k_ < ga71 ∧ k_ < ga133) (Kd.S_keptB (HO_428001.out) hkp (fun k_ hk_ hs_ => (hk_.2.1) hs_)) (fun k_ hk_ => ⟨hk_.1.1, hk_.1.2.1, hk_.1.2.2.1, hk_.1.2.2.2.2.1, hk_.1.2.2.2.2.2.1, hk_.1.2.2.2.2.2.2.1, hk_.1.2.2.2.2.2.2.2.1, hk_.1.2.2.2.2.2.2.2.2⟩)); replace HO_435000 := Aside0.mk (Kd.R_mono (ok' := fun k_ => some k_ ≠ (.slice Ao42 t420.length co42 : Value).ownBlock ∧ some k_ ≠ (.slice Ao73 t441.length co73 : Value).ownBlock ∧ some k_ ≠ (.slice Ao119 t450.length co119 : Value).ownBlock) (Kd.R_keptB ((Kd.R_apart' HO_435000.out (Kd.R_typed HO_441002.out) (by decide))) hkp (fun k_ hk_ hs_ => (hk_.2) hs_)) (fun k_ hk_ => ⟨hk_.1.1.1.1, hk_.1.1.1.2, hk_.1.1.2⟩)); replace HO_435001 := Aside0.mk (Kd.S_mono (ok' := fun k_ => some k_ ≠ (.slice Ao44 t423.length co44 : Value).ownBlock ∧ some k_ ≠ (.slice Ao66 t437.length co66 : Value).ownBlock ∧ some k_ ≠ (.slice Ao80 t444.length co80 : Value).ownBlock ∧ some k_ ≠ (.slice Ao124 t459.length co124 : Value).ownBlock ∧ k_ ≠ gb440 ∧ (k_ < ga71 ∨ ga133 ≤ k_)) (Kd.S_keptB (HO_435001.out) hkp (fun k_ hk_ hs_ => (hk_.2.1) hs_)) (fun k_ hk_ => ⟨hk_.1.1, hk_.1.2.1, hk_.1.2.2.1, hk_.1.2.2.2.2.2.1, hk_.1.2.2.2.1, hk_.1.2.2.2.2.2.2⟩)); replace HO_449000 := Aside0.mk (Kd.R_mono (ok' := fun k_ => some k_ ≠ (.slice Ao42 t420.length co42 : Value).ownBlock ∧ some k_ ≠ (.slice Ao51 t428.length co51 : Value).ownBlock ∧ some k_ ≠ (.slice Ao119 t450.length co119 : Value).ownBlock) (Kd.R_keptB ((Kd.R_apart' HO_449000.out (Kd.R_typed HO_441002.out) (by decide))) hkp (fun k_ hk_ hs_ => (hk_.2) hs_)) (fun k_ hk_ => ⟨hk_.1.1.1, hk_.1.1.2.1, hk_.1.1.2.2⟩)); replace HO_449001 := Aside0.mk (Kd.S_mono (ok' := fun k_ => some k_ ≠ (.slice Ao44 t423.length co44 : Value).ownBlock ∧ some k_ ≠ (.slice Ao56 t431.length co56 : Value).ownBlock ∧ some k_ ≠ (.slice Ao66 t437.length co66 : Value).ownBlock ∧ some k_ ≠ (.slice Ao124 t459.length co124 : Value).ownBlock ∧ k_ ≠ gb440 ∧ ga71 ≤ k_ ∧ k_ < ga133) (Kd.S_keptB (HO_449001.out) hkp (fun k_ hk_ hs_ => (hk_.2.2.1) hs_)) (fun k_ hk_ => ⟨hk_.1.1, hk_.1.2.1, hk_.1.2.2.1, hk_.1.2.2.2.2.1, hk_.1.2.2.2.2.2.1, hk_.1.2.2.2.2.2.2.1, hk_.1.2.2.2.2.2.2.2⟩)); replace BK405 := Aside0.mk (blk_kept (zB BK405) hkp (fun hs_ => (fun e_ => (Kd.R_ne HO_441002.out BK405.out (by decide)) e_) hs_)); replace BK406 := Aside0.mk (blk_kept (zB BK406) hkp (fun hs_ => (fun e_ => (Kd.R_ne HO_441002.out BK406.out (by decide)) e_) hs_)); replace BK427 := Aside0.mk (blk_kept (zB BK427) hkp (fun hs_ => (fun e_ => (Kd.R_ne HO_441002.out BK427.out (by decide)) e_) hs_)); replace BK434 := Aside0.mk (blk_kept (zB BK434) hkp (fun hs_ => (fun e_ => (Kd.R_ne HO_441002.out BK434.out (by decide)) e_) hs_)); replace BK440 := Aside0.mk (blk_kept (zB BK440) hkp (fun hs_ => (fun e_ => (Kd.R_ne HO_441002.out BK440.out (by decide)) e_) hs_)); replace BK448 := Aside0.mk (blk_kept (zB BK448) hkp (fun hs_ => (fun e_ => (Kd.R_ne HO_441002.out BK448.out (by decide)) e_) hs_)); replace HO452 := Aside0.mk (Kd.R_mono (ok' := fun k_ => some k_ ≠ (.slice Ao42 t420.length co42 : Value).ownBlock ∧ some k_ ≠ (.slice Ao51 t428.length co51 : Value).ownBlock ∧ some k_ ≠ (.slice Ao73 t441.length co73 : Value).ownBlock) (Kd.R_keptB ((Kd.R_apart' HO452.out (Kd.R_typed HO_441002.out) (by decide))) hkp (fun k_ hk_ hs_ => (hk_.2) hs_)) (fun k_ hk_ => ⟨hk_.1.1.1, hk_.1.1.2.1, hk_.1.1.2.2⟩)); replace HO_441002 := Aside0.mk (Kd.R_reok rfl hy0 (fun k_ e_ => HO_441002.out.1 k_ e_)); replace HO461 := Aside0.mk (Kd.R_mono (ok' := fun k_ => some k_ ≠ (.slice Ao66 t437.length co66 : Value).ownBlock) (Kd.R_keptB (HO461.out) hkp (fun k_ hk_ hs_ => (hk_) hs_)) (fun k_ hk_ => hk_.1)); replace HB := Aside0.mk (hb); (try clear hb); (try clear hkp); (try clear hy0)))
     (try simp only [Act.put, List.setIfInBounds_toArray, List.set_cons_zero, List.set_cons_succ])
     go_cut [82] (fun v82 wc => ∃ (kq : Nat) (x82_115 : Bool), v82 = .bool x82_115 ∧ Aside0 (laws_FnExactPostEntry.j1 kq t426 x82_115 l0_0 l0_1 a1_0 a1_1 l1_2 t420 t423 t441 t444 = some r) ∧ Aside0 (kq ≤ kj24) ∧ Aside0 (Kd.R k48 48 wc w.heap.size (fun k_ => some k_ ≠ ((.slice Ao51 t428.length co51) : Value).ownBlock ∧ some k_ ≠ ((.slice Ao73 t441.length co73) : Value).ownBlock) (.slice Ao42 t420.length co42) t420) ∧ Aside0 (Kd.S k63 63 wc w.heap.size (fun k_ => some k_ ≠ ((.slice Ao56 t431.length co56) : Value).ownBlock ∧ some k_ ≠ ((.slice Ao66 t437.length co66) : Value).ownBlock ∧ some k_ ≠ ((.slice Ao80 t444.length co80) : Value).ownBlock ∧ k_ ≠ gb440 ∧ k_ < ga49 ∧ k_ < ga71 ∧ k_ < ga133) (.slice Ao44 t423.length co44) t423) ∧ Aside0 (Kd.R k48 48 wc w.heap.size (fun k_ => some k_ ≠ ((.slice Ao42 t420.length co42) : Value).ownBlock ∧ some k_ ≠ ((.slice Ao73 t441.length co73) : Value).ownBlock) (.slice Ao51 t428.length co51) t464) ∧ Aside0 (Kd.S k63 63 wc w.heap.size (fun k_ => some k_ ≠ ((.slice Ao44 t423.length co44) : Value).ownBlock ∧ some k_ ≠ ((.slice Ao66 t437.length co66) : Value).ownBlock ∧ some k_ ≠ ((.slice Ao80 t444.length co80) : Value).ownBlock ∧ k_ ≠ gb440 ∧ (k_ < ga71 ∨ ga133 ≤ k_)) (.slice Ao56 t431.length co56) t465) ∧ Aside0 (Kd.R k70 70 wc w.heap.size (fun _ => True) (.slice Ao66 t437.length co66) t467) ∧ Aside0 (Kd.R k48 48 wc w.heap.size (fun k_ => some k_ ≠ ((.slice Ao42 t420.length co42) : Value).ownBlock ∧ some k_ ≠ ((.slice Ao51 t428.length co51) : Value).ownBlock) (.slice Ao73 t441.length co73) t441) ∧ Aside0 (Kd.S k63 63 wc w.heap.size (fun k_ => some k_ ≠ ((.slice Ao44 t423.length co44) : Value).ownBlock ∧ some k_ ≠ ((.slice Ao56 t431.length co56) : Value).ownBlock ∧ some k_ ≠ ((.slice Ao66 t437.length co66) : Value).ownBlock ∧ k_ ≠ gb440 ∧ ga71 ≤ k_ ∧ k_ < ga133) (.slice Ao80 t444.length co80) t444) ∧ Aside0 (wc.heap[gb405]? = some (.cells #[(.slice A0_0 l0_0.length c0_0), (.slice A0_1 l0_1.length c0_1)] 25 (0, 0))) ∧ Aside0 (wc.heap[gb406]? = some (.cells #[.int .i64 a1_0, .string a1_1, (.slice A1_2 l1_2.length c1_2)] 58 (0, 0))) ∧ Aside0 (wc.heap[gb427]? = some (.cells #[(.slice Ao42 t420.length co42), (.slice Ao44 t423.length co44)] 31 (0, 0))) ∧ Aside0 (wc.heap[gb434]? = some (.cells #[(.slice Ao51 t428.length co51), (.slice Ao56 t431.length co56)] 31 (0, 0))) ∧ Aside0 (wc.heap[gb440]? = some (.cells #[.int .i64 t435, .string t436, (.slice Ao66 t437.length co66)] 63 (0, 0))) ∧ Aside0 (wc.heap[gb448]? = some (.cells #[(.slice Ao73 t441.length co73), (.slice Ao80 t444.length co80)] 31 (0, 0))) ∧ Aside0 (Below w.heap.size w wc))
     case first =>
      have H := HC116.out
      clear HC116
      by_cases c140 : t466 < 0
      ·rw [if_pos c140] at H
       have c140b0 := decide_eq_true c140
       clear c140
       (first | rw [c140b0] | (simp only [i64_w, i32_w]; rw [c140b0]) | skip)
       replace H := Aside0.mk H
       go_wp2
       go_meet
       case rel => exact ⟨_, (true), ZZ0ab324, H, kle, ⟨(by refine bR ?_; exact Kd.R_mono HO_428000.out (fun _ hk => ⟨hk.1, hk.2.1⟩))⟩, ⟨ZZ090879⟩, ⟨(by refine bR ?_; exact Kd.R_mono HO_435000.out (fun _ hk => ⟨hk.1, hk.2.1⟩))⟩, ⟨ZZad7132⟩, ⟨(by refine bR ?_; exact Kd.R_mono HO_441002.out (fun _ hk => trivial))⟩, ⟨(by refine bR ?_; exact Kd.R_mono HO_449000.out (fun _ hk => ⟨hk.1, hk.2.1⟩))⟩, ⟨ZZ6a98b3⟩, ⟨(zB BK405)⟩, ⟨(zB BK406)⟩, ⟨(zB BK427)⟩, ⟨(zB BK434)⟩, ⟨(zB BK440)⟩, ⟨(zB BK448)⟩, ⟨ZZ295621⟩⟩
      rw [if_neg c140] at H
      have c140b0 := decide_eq_false c140
      clear c140
      (first | rw [c140b0] | (simp only [i64_w, i32_w]; rw [c140b0]) | skip)
      obtain ⟨t468, A141, H⟩ := bdY H
      have hnb143 := NB448_405.out
      have hnc143 := NB405_448.out
      have hnb144 := NB448_406.out
      have hnc144 := NB406_448.out
      have hnb145 := NB448_427.out
      have hnc145 := NB427_448.out
      have hnb146 := NB448_434.out
      have hnc146 := NB434_448.out
      have hnb147 := NB448_440.out
      have hnc147 := NB440_448.out
      obtain ⟨hcz148_0, hcz148_1, hfz148_0, hfz148_1⟩ := z2 BK448
      have hnb149 := NB427_405.out
      have hnc149 := NB405_427.out
      have hnb150 := NB427_406.out
      have hnc150 := NB406_427.out
      have hnb151 := NB427_434.out
      have hnc151 := NB434_427.out
      have hnb152 := NB427_440.out
      have hnc152 := NB440_427.out
      obtain ⟨hcz153_0, hcz153_1, hfz153_0, hfz153_1⟩ := z2 BK427
      by_cases c142 : t468 = true
      ·subst c142
       replace H := ifT H
       replace H := Aside0.mk H
       go_wp2_with (first | (go_at_call 18; (with_reducible refine (laws_eqLedger.calls kj24 _ _ t441 _ _ t444 _ _ t420 _ _ t423 true _ ?side1 ?side2 ?side3 ?side4 ?side5 ?side6 ?side7 ?side8 A141.out).mono ?_); (case side1 => exact rC (Kd.R_reads' HO_449000.out).2.2); (case side2 => exact (Kd.R_reads' HO_449000.out).2.1); (case side3 => exact rC (Kd.S_reads' HO_449001.out).2.2); (case side4 => exact (Kd.S_reads' HO_449001.out).2.1); (case side5 => exact rC (Kd.R_reads' HO_428000.out).2.2); (case side6 => exact (Kd.R_reads' HO_428000.out).2.1); (case side7 => exact rC (Kd.S_reads' HO_428001.out).2.2); (case side8 => exact (Kd.S_reads' HO_428001.out).2.1); rintro e w154 ⟨rfl, hb⟩; replace HO_428000 := Aside0.mk (Kd.R_below (zR HO_428000) hb); replace HO_428001 := Aside0.mk (Kd.S_below (zS HO_428001) hb); replace HO_435000 := Aside0.mk (Kd.R_below (zR HO_435000) hb); replace HO_435001 := Aside0.mk (Kd.S_below (zS HO_435001) hb); replace HO_441002 := Aside0.mk (Kd.R_below (zR HO_441002) hb); replace HO_449000 := Aside0.mk (Kd.R_below (zR HO_449000) hb); replace HO_449001 := Aside0.mk (Kd.S_below (zS HO_449001) hb); replace HO452 := Aside0.mk (Kd.R_below (zR HO452) hb); replace HO461 := Aside0.mk (Kd.R_below (zR HO461) hb); replace BK405 := kb BK405 hb; replace BK406 := kb BK406 hb; replace BK427 := kb BK427 hb; replace BK434 := kb BK434 hb; replace BK440 := kb BK440 hb; replace BK448 := kb BK448 hb; replace HB := hB hb; (try clear hb); (try clear hb2); (try clear hk); (try clear hi)))
       go_meet
       case rel => exact ⟨_, ((t447 != t426)), ZZ0ab324, H, kle, ⟨(by refine bR ?_; exact Kd.R_mono HO_428000.out (fun _ hk => ⟨hk.1, hk.2.1⟩))⟩, ⟨ZZ090879⟩, ⟨(by refine bR ?_; exact Kd.R_mono HO_435000.out (fun _ hk => ⟨hk.1, hk.2.1⟩))⟩, ⟨ZZad7132⟩, ⟨(by refine bR ?_; exact Kd.R_mono HO_441002.out (fun _ hk => trivial))⟩, ⟨(by refine bR ?_; exact Kd.R_mono HO_449000.out (fun _ hk => ⟨hk.1, hk.2.1⟩))⟩, ⟨ZZ6a98b3⟩, ⟨(zB BK405)⟩, ⟨(zB BK406)⟩, ⟨(zB BK427)⟩, ⟨(zB BK434)⟩, ⟨(zB BK440)⟩, ⟨(zB BK448)⟩, ⟨ZZ295621⟩⟩
      replace c142 := Bool.eq_false_iff.mpr c142
      subst c142
      replace H := ifF H
      replace H := Aside0.mk H
      go_wp2_with (first | (go_at_call 18; (with_reducible refine (laws_eqLedger.calls kj24 _ _ t441 _ _ t444 _ _ t420 _ _ t423 false _ ?side1 ?side2 ?side3 ?side4 ?side5 ?side6 ?side7 ?side8 A141.out).mono ?_); (case side1 => exact rC (Kd.R_reads' HO_449000.out).2.2); (case side2 => exact (Kd.R_reads' HO_449000.out).2.1); (case side3 => exact rC (Kd.S_reads' HO_449001.out).2.2); (case side4 => exact (Kd.S_reads' HO_449001.out).2.1); (case side5 => exact rC (Kd.R_reads' HO_428000.out).2.2); (case side6 => exact (Kd.R_reads' HO_428000.out).2.1); (case side7 => exact rC (Kd.S_reads' HO_428001.out).2.2); (case side8 => exact (Kd.S_reads' HO_428001.out).2.1); rintro e w166 ⟨rfl, hb⟩; replace HO_428000 := Aside0.mk (Kd.R_below (zR HO_428000) hb); replace HO_428001 := Aside0.mk (Kd.S_below (zS HO_428001) hb); replace HO_435000 := Aside0.mk (Kd.R_below (zR HO_435000) hb); replace HO_435001 := Aside0.mk (Kd.S_below (zS HO_435001) hb); replace HO_441002 := Aside0.mk (Kd.R_below (zR HO_441002) hb); replace HO_449000 := Aside0.mk (Kd.R_below (zR HO_449000) hb); replace HO_449001 := Aside0.mk (Kd.S_below (zS HO_449001) hb); replace HO452 := Aside0.mk (Kd.R_below (zR HO452) hb); replace HO461 := Aside0.mk (Kd.R_below (zR HO461) hb); replace BK405 := kb BK405 hb; replace BK406 := kb BK406 hb; replace BK427 := kb BK427 hb; replace BK434 := kb BK434 hb; replace BK440 := kb BK440 hb; replace BK448 := kb BK448 hb; replace HB := hB hb; (try clear hb); (try clear hb2); (try clear hk); (try clear hi)))
      go_meet
      case rel => exact ⟨_, (true), ZZ0ab324, H, kle, ⟨(by refine bR ?_; exact Kd.R_mono HO_428000.out (fun _ hk => ⟨hk.1, hk.2.1⟩))⟩, ⟨ZZ090879⟩, ⟨(by refine bR ?_; exact Kd.R_mono HO_435000.out (fun _ hk => ⟨hk.1, hk.2.1⟩))⟩, ⟨ZZad7132⟩, ⟨(by refine bR ?_; exact Kd.R_mono HO_441002.out (fun _ hk => trivial))⟩, ⟨(by refine bR ?_; exact Kd.R_mono HO_449000.out (fun _ hk => ⟨hk.1, hk.2.1⟩))⟩, ⟨ZZ6a98b3⟩, ⟨(zB BK405)⟩, ⟨(zB BK406)⟩, ⟨(zB BK427)⟩, ⟨(zB BK434)⟩, ⟨(zB BK440)⟩, ⟨(zB BK448)⟩, ⟨ZZ295621⟩⟩
     case rest =>
      clear HC116
      try clear c110
      try clear c113
      try clear c140
      try clear c140b0
      try clear c142
      try clear hcz131_0
      try clear hcz131_1
      try clear hcz138_0
      try clear hcz138_1
      try clear hcz138_2
      try clear hcz148_0
      try clear hcz148_1
      try clear hcz153_0
      try clear hcz153_1
      try clear hcz160_0
      try clear hcz160_1
      try clear hcz165_0
      try clear hcz165_1
      try clear hfz131_0
      try clear hfz131_1
      try clear hfz138_0
      try clear hfz138_1
      try clear hfz138_2
      try clear hfz148_0
      try clear hfz148_1
      try clear hfz153_0
      try clear hfz153_1
      try clear hfz160_0
      try clear hfz160_1
      try clear hfz165_0
      try clear hfz165_1
      obtain ⟨kq, x82_115, rfl, HA, HJ115, HO_428000, HO_428001, HO_435000, HO_435001, HO_441002, HO_449000, HO_449001, BK405, BK406, BK427, BK434, BK440, BK448, HB⟩ := hcut
      have hl435000_115 := (Kd.R_reads' HO_435000.out).1
      rw [hl435000_115] at HO_435000
      (try simp only [hl435000_115] at BK405 BK406 BK427 BK434 BK440 BK448 HO_428000 HO_428001 HO_435001 HO_441002 HO_449000 HO_449001 ⊢)
      have hl435001_115 := (Kd.S_reads' HO_435001.out).1
      rw [hl435001_115] at HO_435001
      (try simp only [hl435001_115] at BK405 BK406 BK427 BK434 BK440 BK448 HO_428000 HO_428001 HO_435000 HO_441002 HO_449000 HO_449001 ⊢)
      have hl441002_115 := (Kd.R_reads' HO_441002.out).1
      rw [hl441002_115] at HO_441002
      (try simp only [hl441002_115] at BK405 BK406 BK427 BK434 BK440 BK448 HO_428000 HO_428001 HO_435000 HO_435001 HO_449000 HO_449001 ⊢)
      cases kq with
      | zero => exact absurd HA.out (by simp [laws_FnExactPostEntry.j1])
      | succ kj115 =>
       have H := HA.out
       clear HA
       simp only [laws_FnExactPostEntry.j1] at H
       by_cases c167 : x82_115 = true
       ·subst c167
        replace H := ifT H
        obtain rfl := Option.some.inj H
        go_wp2
        go_ret
        exact ⟨ZZab01d2, ZZ295621⟩
       replace c167 := Bool.eq_false_iff.mpr c167
       subst c167
       replace H := ifF H
       obtain ⟨⟨t469, t470, t471⟩, A168, H⟩ := bdY H
       try dsimp only at H
       obtain ⟨t472, A169, H⟩ := bdY H
       by_cases c170 : t472 < 0
       ·rw [if_pos c170] at H
        have c170b0 := decide_eq_true c170
        clear c170
        obtain rfl := Option.some.inj H
        have hnb171 := NB448_405.out
        have hnc171 := NB405_448.out
        have hnb172 := NB448_406.out
        have hnc172 := NB406_448.out
        have hnb173 := NB448_427.out
        have hnc173 := NB427_448.out
        have hnb174 := NB448_434.out
        have hnc174 := NB434_448.out
        have hnb175 := NB448_440.out
        have hnc175 := NB440_448.out
        obtain ⟨hcz176_0, hcz176_1, hfz176_0, hfz176_1⟩ := z2 BK448
        go_wp2_with (first | (refine gc 85 Tryd.func31 #[.agg #[.slice Ao73 t441.length co73, .slice Ao80 t444.length co80], .int .i64 1] ?_; (with_reducible refine (laws_markLedger.calls kj115 (fun k_ => some k_ = (.slice Ao73 t441.length co73 : Value).ownBlock) (.slice Ao73 t441.length co73) t441 ?P0_1_3 (.slice Ao80 t444.length co80) t444 1 t469 t470 t471 w _ ?side1 ?side2 ?side3 A168.out).mono ?_); (case side1 => exact bw); (case side2 => exact Kd.R_tight rfl HO_449000.out); (case side3 => exact Kd.S_bound HO_449001.out); rintro e w177 ⟨rfl, hy0, hy1, hb, hkp⟩; refine ⟨_, rfl, ?_⟩; obtain ⟨ga178, hga178⟩ := Kd.agek hkp; replace HO_428000 := Aside0.mk (Kd.R_mono (ok' := fun k_ => some k_ ≠ (.slice Ao51 t464.length co51 : Value).ownBlock ∧ some k_ ≠ (.slice Ao73 t441.length co73 : Value).ownBlock) (Kd.R_keptB ((Kd.R_bound HO_428000.out)) hkp (fun k_ hk_ hs_ => Or.elim hs_ (fun e_ => (hk_.1.2) e_) (fun e_ => (fun e_ => Kd.typed_ne (hk_.2).2.2 e_.2.2.2 (by decide)) e_))) (fun k_ hk_ => ⟨hk_.1.1.1, hk_.1.1.2⟩)); replace HO_435000 := Aside0.mk (Kd.R_mono (ok' := fun k_ => some k_ ≠ (.slice Ao42 t420.length co42 : Value).ownBlock ∧ some k_ ≠ (.slice Ao73 t441.length co73 : Value).ownBlock) (Kd.R_keptB ((Kd.R_bound HO_435000.out)) hkp (fun k_ hk_ hs_ => Or.elim hs_ (fun e_ => (hk_.1.2) e_) (fun e_ => (fun e_ => Kd.typed_ne (hk_.2).2.2 e_.2.2.2 (by decide)) e_))) (fun k_ hk_ => ⟨hk_.1.1.1, hk_.1.1.2⟩)); replace HO_449001 := Aside0.mk (Kd.S_mono (ok' := fun k_ => (some k_ ≠ (.slice Ao44 t423.length co44 : Value).ownBlock ∧ (some k_ ≠ (.slice Ao56 t465.length co56 : Value).ownBlock ∧ (some k_ ≠ (.slice Ao66 t467.length co66 : Value).ownBlock ∧ (k_ ≠ gb440 ∧ (k_ < ga133 ∨ ga178 ≤ k_)))))) (Kd.S_bound hy1) (fun k_ hk_ => Or.elim hk_.1 (fun hs_ => Or.elim hs_ (fun e_ => (fun h_ => (Kd.typed_own hk_.2.2.2 (Kd.R_typed hy0 k_ h_.symm) (by decide)).elim) e_) (fun e_ => (fun h_ => ⟨h_.1.1, ⟨h_.1.2.1, ⟨h_.1.2.2.1, ⟨h_.1.2.2.2.1, (.inl h_.1.2.2.2.2.2)⟩⟩⟩⟩) e_)) (fun hn_ => ⟨fun e_ => Nat.not_le.2 (Kd.S_lt HO_428001.out k_ e_.symm) hn_, ⟨fun e_ => Nat.not_le.2 (Kd.S_lt HO_435001.out k_ e_.symm) hn_, ⟨fun e_ => Nat.not_le.2 (Kd.R_lt HO_441002.out k_ e_.symm) hn_, ⟨fun e_ => Nat.not_le.2 (by rw [e_]; exact blk_lt (zB BK440)) hn_, (.inr (by rw [hga178]; exact hn_))⟩⟩⟩⟩))); replace HO_428001 := Aside0.mk (Kd.S_mono (ok' := fun k_ => some k_ ≠ (.slice Ao56 t465.length co56 : Value).ownBlock ∧ some k_ ≠ (.slice Ao66 t467.length co66 : Value).ownBlock ∧ some k_ ≠ (.slice Ao80 t444.length co80 : Value).ownBlock ∧ k_ ≠ gb440 ∧ k_ < ga49 ∧ k_ < ga71 ∧ k_ < ga133 ∧ k_ < ga178) (Kd.S_keptB ((Kd.S_bound (Kd.S_apart' HO_428001.out (Kd.R_typed HO_449000.out) (by decide)))) hkp (fun k_ hk_ hs_ => Or.elim hs_ (fun e_ => (hk_.1.2) e_) (fun e_ => (fun e_ => Nat.not_le.2 (hk_.1.1.2.2.2.2.2.1) (e_.1.2.2.2.2.1)) e_))) (fun k_ hk_ => ⟨hk_.1.1.1.1, hk_.1.1.1.2.1, hk_.1.1.1.2.2.1, hk_.1.1.1.2.2.2.1, hk_.1.1.1.2.2.2.2.1, hk_.1.1.1.2.2.2.2.2.1, hk_.1.1.1.2.2.2.2.2.2, (by rw [hga178]; exact hk_.2.2)⟩)); replace HO_435001 := Aside0.mk (Kd.S_mono (ok' := fun k_ => some k_ ≠ (.slice Ao44 t423.length co44 : Value).ownBlock ∧ some k_ ≠ (.slice Ao66 t467.length co66 : Value).ownBlock ∧ some k_ ≠ (.slice Ao80 t444.length co80 : Value).ownBlock ∧ k_ ≠ gb440 ∧ (k_ < ga71 ∨ ga133 ≤ k_) ∧ k_ < ga178) (Kd.S_keptB ((Kd.S_bound (Kd.S_apart' HO_435001.out (Kd.R_typed HO_449000.out) (by decide)))) hkp (fun k_ hk_ hs_ => Or.elim hs_ (fun e_ => (hk_.1.2) e_) (fun e_ => (fun e_ => Or.elim (hk_.1.1.2.2.2.2) (fun h1_ => Nat.not_le.2 h1_ (e_.1.2.2.2.2.1)) (fun h1_ => Nat.not_le.2 (e_.1.2.2.2.2.2) h1_)) e_))) (fun k_ hk_ => ⟨hk_.1.1.1.1, hk_.1.1.1.2.1, hk_.1.1.1.2.2.1, hk_.1.1.1.2.2.2.1, hk_.1.1.1.2.2.2.2, (by rw [hga178]; exact hk_.2.2)⟩)); replace HO_441002 := Aside0.mk (Kd.R_mono (ok' := fun k_ => True) (Kd.R_keptB ((Kd.R_bound (Kd.R_apart' (Kd.R_tight2 rfl HO_441002.out) (Kd.R_typed HO_449000.out) (by decide)))) hkp (fun k_ hk_ hs_ => Or.elim hs_ (fun e_ => (hk_.1.2) e_) (fun e_ => (fun e_ => (e_.1.2.2.1) (hk_.1.1.1)) e_))) (fun k_ hk_ => trivial)); replace BK405 := Aside0.mk (blk_kept (zB BK405) hkp (fun hs_ => Or.elim hs_ (fun e_ => (fun e_ => (Kd.R_ne HO_449000.out BK405.out (by decide)) e_) e_) (fun e_ => (fun e_ => Kd.typed_box e_.2.2.2 (zB BK405) (by decide)) e_))); replace BK406 := Aside0.mk (blk_kept (zB BK406) hkp (fun hs_ => Or.elim hs_ (fun e_ => (fun e_ => (Kd.R_ne HO_449000.out BK406.out (by decide)) e_) e_) (fun e_ => (fun e_ => Kd.typed_box e_.2.2.2 (zB BK406) (by decide)) e_))); replace BK427 := Aside0.mk (blk_kept (zB BK427) hkp (fun hs_ => Or.elim hs_ (fun e_ => (fun e_ => (Kd.R_ne HO_449000.out BK427.out (by decide)) e_) e_) (fun e_ => (fun e_ => Kd.typed_box e_.2.2.2 (zB BK427) (by decide)) e_))); replace BK434 := Aside0.mk (blk_kept (zB BK434) hkp (fun hs_ => Or.elim hs_ (fun e_ => (fun e_ => (Kd.R_ne HO_449000.out BK434.out (by decide)) e_) e_) (fun e_ => (fun e_ => Kd.typed_box e_.2.2.2 (zB BK434) (by decide)) e_))); replace BK440 := Aside0.mk (blk_kept (zB BK440) hkp (fun hs_ => Or.elim hs_ (fun e_ => (fun e_ => (Kd.R_ne HO_449000.out BK440.out (by decide)) e_) e_) (fun e_ => (fun e_ => (e_.1.2.2.2.1) rfl) e_))); replace BK448 := Aside0.mk (blk_kept (zB BK448) hkp (fun hs_ => Or.elim hs_ (fun e_ => (fun e_ => (Kd.R_ne HO_449000.out BK448.out (by decide)) e_) e_) (fun e_ => (fun e_ => Kd.typed_box e_.2.2.2 (zB BK448) (by decide)) e_))); replace HO_449000 := Aside0.mk (Kd.R_reok rfl hy0 (fun k_ e_ => HO_449000.out.1 k_ e_)); replace HB := Aside0.mk (hb); (try clear hb); (try clear hkp); (try clear hy0); (try clear hy1); obtain ⟨hcz179_0, hcz179_1, hfz179_0, hfz179_1⟩ := z2 BK448) | ((with_reducible refine gate_callee (f := 41) rfl ?_); refine goesL_ (some 88) rfl rfl Tryd.func41 (by kernel_rfl) rfl #[.agg #[.slice Ao73 t470.length co73, .slice Ao80 t471.length co80], .int .i64 1] rfl ZZ814e55 ?_; (with_reducible refine (laws_heldLedger.calls kj115 _ _ t470 _ _ t471 1 t472 _ ?side1 ?side2 ?side3 ?side4 A169.out).mono ?_); (case side1 => exact rC (Kd.R_reads' HO_449000.out).2.2); (case side2 => rw [show t470.length = t441.length from (Kd.R_reads' HO_449000.out).1.symm]; exact (Kd.R_reads' HO_449000.out).2.1); (case side3 => exact rC (Kd.S_reads' HO_449001.out).2.2); (case side4 => rw [show t471.length = t444.length from (Kd.S_reads' HO_449001.out).1.symm]; exact (Kd.S_reads' HO_449001.out).2.1); rintro e w180 ⟨rfl, hb⟩; refine ⟨_, rfl, ?_⟩; replace HO_428000 := Aside0.mk (Kd.R_below (zR HO_428000) hb); replace HO_428001 := Aside0.mk (Kd.S_below (zS HO_428001) hb); replace HO_435000 := Aside0.mk (Kd.R_below (zR HO_435000) hb); replace HO_435001 := Aside0.mk (Kd.S_below (zS HO_435001) hb); replace HO_441002 := Aside0.mk (Kd.R_below (zR HO_441002) hb); replace HO_449000 := Aside0.mk (Kd.R_below (zR HO_449000) hb); replace HO_449001 := Aside0.mk (Kd.S_below (zS HO_449001) hb); replace BK405 := kb BK405 hb; replace BK406 := kb BK406 hb; replace BK427 := kb BK427 hb; replace BK434 := kb BK434 hb; replace BK440 := kb BK440 hb; replace BK448 := kb BK448 hb; replace HB := hB hb; (try clear hb); (try clear hb2); (try clear hk); (try clear hi)))
        go_ret
        exact ⟨ZZab01d2, ZZ295621⟩
       rw [if_neg c170] at H
       have c170b0 := decide_eq_false c170
       clear c170
       by_cases c181 : t472 = t469
       ·rw [if_pos c181] at H
        have c181b0 := beq_iff_eq.mpr c181
        have c181b1 := bne_eq_false_iff_eq.mpr c181
        clear c181
        obtain ⟨⟨t473, t476⟩, A182, H⟩ := bdY H
        try dsimp only at H
        obtain ⟨⟨t479, t480, t481⟩, A183, H⟩ := bdY H
        try dsimp only at H
        obtain ⟨⟨t484, t487, t490⟩, A184, H⟩ := bdY H
        try dsimp only at H
        have HC185 := Aside0.mk H
        clear H
        have hnb186 := NB448_405.out
        have hnc186 := NB405_448.out
        have hnb187 := NB448_406.out
        have hnc187 := NB406_448.out
        have hnb188 := NB448_427.out
        have hnc188 := NB427_448.out
        have hnb189 := NB448_434.out
        have hnc189 := NB434_448.out
        have hnb190 := NB448_440.out
        have hnc190 := NB440_448.out
        obtain ⟨hcz191_0, hcz191_1, hfz191_0, hfz191_1⟩ := z2 BK448
        try go_wp2_with (first | (refine gc 85 Tryd.func31 #[.agg #[.slice Ao73 t441.length co73, .slice Ao80 t444.length co80], .int .i64 1] ?_; (with_reducible refine (laws_markLedger.calls kj115 (fun k_ => some k_ = (.slice Ao73 t441.length co73 : Value).ownBlock) (.slice Ao73 t441.length co73) t441 ?P0_1_4 (.slice Ao80 t444.length co80) t444 1 t469 t470 t471 w _ ?side1 ?side2 ?side3 A168.out).mono ?_); (case side1 => exact bw); (case side2 => exact Kd.R_tight rfl HO_449000.out); (case side3 => exact Kd.S_bound HO_449001.out); rintro e w192 ⟨rfl, hy0, hy1, hb, hkp⟩; refine ⟨_, rfl, ?_⟩; obtain ⟨ga193, hga193⟩ := Kd.agek hkp; replace HO_428000 := Aside0.mk (Kd.R_mono (ok' := fun k_ => some k_ ≠ (.slice Ao51 t464.length co51 : Value).ownBlock ∧ some k_ ≠ (.slice Ao73 t441.length co73 : Value).ownBlock) (Kd.R_keptB ((Kd.R_bound HO_428000.out)) hkp (fun k_ hk_ hs_ => Or.elim hs_ (fun e_ => (hk_.1.2) e_) (fun e_ => (fun e_ => Kd.typed_ne (hk_.2).2.2 e_.2.2.2 (by decide)) e_))) (fun k_ hk_ => ⟨hk_.1.1.1, hk_.1.1.2⟩)); replace HO_435000 := Aside0.mk (Kd.R_mono (ok' := fun k_ => some k_ ≠ (.slice Ao42 t420.length co42 : Value).ownBlock ∧ some k_ ≠ (.slice Ao73 t441.length co73 : Value).ownBlock) (Kd.R_keptB ((Kd.R_bound HO_435000.out)) hkp (fun k_ hk_ hs_ => Or.elim hs_ (fun e_ => (hk_.1.2) e_) (fun e_ => (fun e_ => Kd.typed_ne (hk_.2).2.2 e_.2.2.2 (by decide)) e_))) (fun k_ hk_ => ⟨hk_.1.1.1, hk_.1.1.2⟩)); replace HO_449001 := Aside0.mk (Kd.S_mono (ok' := fun k_ => (some k_ ≠ (.slice Ao44 t423.length co44 : Value).ownBlock ∧ (some k_ ≠ (.slice Ao56 t465.length co56 : Value).ownBlock ∧ (some k_ ≠ (.slice Ao66 t467.length co66 : Value).ownBlock ∧ (k_ ≠ gb440 ∧ (k_ < ga133 ∨ ga193 ≤ k_)))))) (Kd.S_bound hy1) (fun k_ hk_ => Or.elim hk_.1 (fun hs_ => Or.elim hs_ (fun e_ => (fun h_ => (Kd.typed_own hk_.2.2.2 (Kd.R_typed hy0 k_ h_.symm) (by decide)).elim) e_) (fun e_ => (fun h_ => ⟨h_.1.1, ⟨h_.1.2.1, ⟨h_.1.2.2.1, ⟨h_.1.2.2.2.1, (.inl h_.1.2.2.2.2.2)⟩⟩⟩⟩) e_)) (fun hn_ => ⟨fun e_ => Nat.not_le.2 (Kd.S_lt HO_428001.out k_ e_.symm) hn_, ⟨fun e_ => Nat.not_le.2 (Kd.S_lt HO_435001.out k_ e_.symm) hn_, ⟨fun e_ => Nat.not_le.2 (Kd.R_lt HO_441002.out k_ e_.symm) hn_, ⟨fun e_ => Nat.not_le.2 (by rw [e_]; exact blk_lt (zB BK440)) hn_, (.inr (by rw [hga193]; exact hn_))⟩⟩⟩⟩))); replace HO_428001 := Aside0.mk (Kd.S_mono (ok' := fun k_ => some k_ ≠ (.slice Ao56 t465.length co56 : Value).ownBlock ∧ some k_ ≠ (.slice Ao66 t467.length co66 : Value).ownBlock ∧ some k_ ≠ (.slice Ao80 t444.length co80 : Value).ownBlock ∧ k_ ≠ gb440 ∧ k_ < ga49 ∧ k_ < ga71 ∧ k_ < ga133 ∧ k_ < ga193) (Kd.S_keptB ((Kd.S_bound (Kd.S_apart' HO_428001.out (Kd.R_typed HO_449000.out) (by decide)))) hkp (fun k_ hk_ hs_ => Or.elim hs_ (fun e_ => (hk_.1.2) e_) (fun e_ => (fun e_ => Nat.not_le.2 (hk_.1.1.2.2.2.2.2.1) (e_.1.2.2.2.2.1)) e_))) (fun k_ hk_ => ⟨hk_.1.1.1.1, hk_.1.1.1.2.1, hk_.1.1.1.2.2.1, hk_.1.1.1.2.2.2.1, hk_.1.1.1.2.2.2.2.1, hk_.1.1.1.2.2.2.2.2.1, hk_.1.1.1.2.2.2.2.2.2, (by rw [hga193]; exact hk_.2.2)⟩)); replace HO_435001 := Aside0.mk (Kd.S_mono (ok' := fun k_ => some k_ ≠ (.slice Ao44 t423.length co44 : Value).ownBlock ∧ some k_ ≠ (.slice Ao66 t467.length co66 : Value).ownBlock ∧ some k_ ≠ (.slice Ao80 t444.length co80 : Value).ownBlock ∧ k_ ≠ gb440 ∧ (k_ < ga71 ∨ ga133 ≤ k_) ∧ k_ < ga193) (Kd.S_keptB ((Kd.S_bound (Kd.S_apart' HO_435001.out (Kd.R_typed HO_449000.out) (by decide)))) hkp (fun k_ hk_ hs_ => Or.elim hs_ (fun e_ => (hk_.1.2) e_) (fun e_ => (fun e_ => Or.elim (hk_.1.1.2.2.2.2) (fun h1_ => Nat.not_le.2 h1_ (e_.1.2.2.2.2.1)) (fun h1_ => Nat.not_le.2 (e_.1.2.2.2.2.2) h1_)) e_))) (fun k_ hk_ => ⟨hk_.1.1.1.1, hk_.1.1.1.2.1, hk_.1.1.1.2.2.1, hk_.1.1.1.2.2.2.1, hk_.1.1.1.2.2.2.2, (by rw [hga193]; exact hk_.2.2)⟩)); replace HO_441002 := Aside0.mk (Kd.R_mono (ok' := fun k_ => True) (Kd.R_keptB ((Kd.R_bound (Kd.R_apart' (Kd.R_tight2 rfl HO_441002.out) (Kd.R_typed HO_449000.out) (by decide)))) hkp (fun k_ hk_ hs_ => Or.elim hs_ (fun e_ => (hk_.1.2) e_) (fun e_ => (fun e_ => (e_.1.2.2.1) (hk_.1.1.1)) e_))) (fun k_ hk_ => trivial)); replace BK405 := Aside0.mk (blk_kept (zB BK405) hkp (fun hs_ => Or.elim hs_ (fun e_ => (fun e_ => (Kd.R_ne HO_449000.out BK405.out (by decide)) e_) e_) (fun e_ => (fun e_ => Kd.typed_box e_.2.2.2 (zB BK405) (by decide)) e_))); replace BK406 := Aside0.mk (blk_kept (zB BK406) hkp (fun hs_ => Or.elim hs_ (fun e_ => (fun e_ => (Kd.R_ne HO_449000.out BK406.out (by decide)) e_) e_) (fun e_ => (fun e_ => Kd.typed_box e_.2.2.2 (zB BK406) (by decide)) e_))); replace BK427 := Aside0.mk (blk_kept (zB BK427) hkp (fun hs_ => Or.elim hs_ (fun e_ => (fun e_ => (Kd.R_ne HO_449000.out BK427.out (by decide)) e_) e_) (fun e_ => (fun e_ => Kd.typed_box e_.2.2.2 (zB BK427) (by decide)) e_))); replace BK434 := Aside0.mk (blk_kept (zB BK434) hkp (fun hs_ => Or.elim hs_ (fun e_ => (fun e_ => (Kd.R_ne HO_449000.out BK434.out (by decide)) e_) e_) (fun e_ => (fun e_ => Kd.typed_box e_.2.2.2 (zB BK434) (by decide)) e_))); replace BK440 := Aside0.mk (blk_kept (zB BK440) hkp (fun hs_ => Or.elim hs_ (fun e_ => (fun e_ => (Kd.R_ne HO_449000.out BK440.out (by decide)) e_) e_) (fun e_ => (fun e_ => (e_.1.2.2.2.1) rfl) e_))); replace BK448 := Aside0.mk (blk_kept (zB BK448) hkp (fun hs_ => Or.elim hs_ (fun e_ => (fun e_ => (Kd.R_ne HO_449000.out BK448.out (by decide)) e_) e_) (fun e_ => (fun e_ => Kd.typed_box e_.2.2.2 (zB BK448) (by decide)) e_))); replace HO_449000 := Aside0.mk (Kd.R_reok rfl hy0 (fun k_ e_ => HO_449000.out.1 k_ e_)); replace HB := Aside0.mk (hb); (try clear hb); (try clear hkp); (try clear hy0); (try clear hy1); obtain ⟨hcz194_0, hcz194_1, hfz194_0, hfz194_1⟩ := z2 BK448) | ((with_reducible refine gate_callee (f := 41) rfl ?_); refine goesL_ (some 88) rfl rfl Tryd.func41 (by kernel_rfl) rfl #[.agg #[.slice Ao73 t470.length co73, .slice Ao80 t471.length co80], .int .i64 1] rfl ZZ814e55 ?_; (with_reducible refine (laws_heldLedger.calls kj115 _ _ t470 _ _ t471 1 t472 _ ?side1 ?side2 ?side3 ?side4 A169.out).mono ?_); (case side1 => exact rC (Kd.R_reads' HO_449000.out).2.2); (case side2 => rw [show t470.length = t441.length from (Kd.R_reads' HO_449000.out).1.symm]; exact (Kd.R_reads' HO_449000.out).2.1); (case side3 => exact rC (Kd.S_reads' HO_449001.out).2.2); (case side4 => rw [show t471.length = t444.length from (Kd.S_reads' HO_449001.out).1.symm]; exact (Kd.S_reads' HO_449001.out).2.1); rintro e w195 ⟨rfl, hb⟩; refine ⟨_, rfl, ?_⟩; replace HO_428000 := Aside0.mk (Kd.R_below (zR HO_428000) hb); replace HO_428001 := Aside0.mk (Kd.S_below (zS HO_428001) hb); replace HO_435000 := Aside0.mk (Kd.R_below (zR HO_435000) hb); replace HO_435001 := Aside0.mk (Kd.S_below (zS HO_435001) hb); replace HO_441002 := Aside0.mk (Kd.R_below (zR HO_441002) hb); replace HO_449000 := Aside0.mk (Kd.R_below (zR HO_449000) hb); replace HO_449001 := Aside0.mk (Kd.S_below (zS HO_449001) hb); replace BK405 := kb BK405 hb; replace BK406 := kb BK406 hb; replace BK427 := kb BK427 hb; replace BK434 := kb BK434 hb; replace BK440 := kb BK440 hb; replace BK448 := kb BK448 hb; replace HB := hB hb; (try clear hb); (try clear hb2); (try clear hk); (try clear hi)))
        replace HO_428000 := Aside0.mk (Kd.R_drew HO_428000.out)
        replace HO_428001 := Aside0.mk (Kd.S_drew HO_428001.out)
        replace HO_435000 := Aside0.mk (Kd.R_drew HO_435000.out)
        replace HO_435001 := Aside0.mk (Kd.S_drew HO_435001.out)
        replace HO_441002 := Aside0.mk (Kd.R_drew HO_441002.out)
        replace HO_449000 := Aside0.mk (Kd.R_drew HO_449000.out)
        replace HO_449001 := Aside0.mk (Kd.S_drew HO_449001.out)
        replace BK405 := Aside0.mk (blk_drew BK405.out)
        replace BK406 := Aside0.mk (blk_drew BK406.out)
        replace BK427 := Aside0.mk (blk_drew BK427.out)
        replace BK434 := Aside0.mk (blk_drew BK434.out)
        replace BK440 := Aside0.mk (blk_drew BK440.out)
        replace BK448 := Aside0.mk (blk_drew BK448.out)
        replace HB := Aside0.mk (below_drew1 HB.out)
        refine st 11 (S := fun w' => w'.cell? ⟨gb405, 0, none⟩ = some (.slice A0_0 l0_0.length c0_0) ∧ w'.cell? ⟨gb405, 1, none⟩ = some (.slice A0_1 l0_1.length c0_1) ∧ w'.cell? ⟨gb406, 0, none⟩ = some (.int .i64 a1_0) ∧ w'.cell? ⟨gb406, 1, none⟩ = some (.string a1_1) ∧ w'.cell? ⟨gb406, 2, none⟩ = some (.slice A1_2 l1_2.length c1_2)) laws_FnExactPostEntry.tab31 laws_FnExactPostEntry.bits31 zK (fun hHeld HT_ HW_ => ?_)
        generalize w195.drew = w196 at HO_428000 HO_428001 HO_435000 HO_435001 HO_441002 HO_449000 HO_449001 BK405 BK406 BK427 BK434 BK440 BK448 HB hHeld ⊢
        refine tk 0 95 ?_
        refine tk 2 97 ?_
        refine join_ (σ := Value × Value × Value × Value × Value × Nat) 2 #[true, true, true, true, true, true, true, true, true, false, false] (fun s_ => [(96, .agg #[s_.1, s_.2.1]), (98, .agg #[.int .i64 t479, .string t480, s_.2.2.1]), (99, .tuple #[.agg #[s_.2.2.2.1, s_.2.2.2.2.1], .bool t490]), (15, .pointer (some ⟨s_.2.2.2.2.2, 0, none⟩)), (94, .tuple #[.agg #[s_.2.2.2.1, s_.2.2.2.2.1], .bool t490]), (100, .agg #[s_.2.2.2.1, s_.2.2.2.2.1]), (101, .bool t490)]) (fun s_ w' => (w'.cell? ⟨gb405, 0, none⟩ = some (.slice A0_0 l0_0.length c0_0) ∧ w'.cell? ⟨gb405, 1, none⟩ = some (.slice A0_1 l0_1.length c0_1) ∧ w'.cell? ⟨gb406, 0, none⟩ = some (.int .i64 a1_0) ∧ w'.cell? ⟨gb406, 1, none⟩ = some (.string a1_1) ∧ w'.cell? ⟨gb406, 2, none⟩ = some (.slice A1_2 l1_2.length c1_2)) ∧ (Kd.R k48 48 w' w.heap.size (fun k_ => some k_ ≠ (s_.2.2.2.1 : Value).ownBlock ∧ some k_ ≠ (.slice Ao42 t420.length co42 : Value).ownBlock ∧ some k_ ≠ (.slice Ao51 t464.length co51 : Value).ownBlock ∧ some k_ ≠ (.slice Ao73 t441.length co73 : Value).ownBlock) s_.1 t473) ∧ (Kd.S k63 63 w' w.heap.size (fun k_ => some k_ ≠ (s_.2.2.1 : Value).ownBlock ∧ some k_ ≠ (s_.2.2.2.2.1 : Value).ownBlock ∧ some k_ ≠ (.slice Ao44 t423.length co44 : Value).ownBlock ∧ some k_ ≠ (.slice Ao56 t465.length co56 : Value).ownBlock ∧ some k_ ≠ (.slice Ao66 t467.length co66 : Value).ownBlock ∧ some k_ ≠ (.slice Ao80 t444.length co80 : Value).ownBlock ∧ k_ ≠ gb440) s_.2.1 t476) ∧ (Kd.R k70 70 w' w.heap.size (fun k_ => some k_ ≠ (.slice Ao66 t467.length co66 : Value).ownBlock) s_.2.2.1 t481) ∧ (Kd.R k48 48 w' w.heap.size (fun k_ => some k_ ≠ (s_.1 : Value).ownBlock ∧ some k_ ≠ (.slice Ao42 t420.length co42 : Value).ownBlock ∧ some k_ ≠ (.slice Ao51 t464.length co51 : Value).ownBlock ∧ some k_ ≠ (.slice Ao73 t441.length co73 : Value).ownBlock) s_.2.2.2.1 t484) ∧ (Kd.S k63 63 w' w.heap.size (fun k_ => some k_ ≠ (s_.2.1 : Value).ownBlock ∧ some k_ ≠ (s_.2.2.1 : Value).ownBlock ∧ some k_ ≠ (.slice Ao44 t423.length co44 : Value).ownBlock ∧ some k_ ≠ (.slice Ao56 t465.length co56 : Value).ownBlock ∧ some k_ ≠ (.slice Ao66 t467.length co66 : Value).ownBlock ∧ some k_ ≠ (.slice Ao80 t444.length co80 : Value).ownBlock ∧ k_ ≠ gb440) s_.2.2.2.2.1 t487) ∧ (Kd.R k48 48 w' w.heap.size (fun k_ => some k_ ≠ (s_.1 : Value).ownBlock ∧ some k_ ≠ (s_.2.2.2.1 : Value).ownBlock ∧ some k_ ≠ (.slice Ao51 t464.length co51 : Value).ownBlock ∧ some k_ ≠ (.slice Ao73 t441.length co73 : Value).ownBlock) (.slice Ao42 t420.length co42) t420) ∧ (Kd.S k63 63 w' w.heap.size (fun k_ => some k_ ≠ (s_.2.1 : Value).ownBlock ∧ some k_ ≠ (s_.2.2.1 : Value).ownBlock ∧ some k_ ≠ (s_.2.2.2.2.1 : Value).ownBlock ∧ some k_ ≠ (.slice Ao56 t465.length co56 : Value).ownBlock ∧ some k_ ≠ (.slice Ao66 t467.length co66 : Value).ownBlock ∧ some k_ ≠ (.slice Ao80 t444.length co80 : Value).ownBlock ∧ k_ ≠ gb440 ∧ k_ < ga49 ∧ k_ < ga71 ∧ k_ < ga133 ∧ k_ < ga193) (.slice Ao44 t423.length co44) t423) ∧ (Kd.R k48 48 w' w.heap.size (fun k_ => some k_ ≠ (s_.1 : Value).ownBlock ∧ some k_ ≠ (s_.2.2.2.1 : Value).ownBlock ∧ some k_ ≠ (.slice Ao42 t420.length co42 : Value).ownBlock ∧ some k_ ≠ (.slice Ao73 t441.length co73 : Value).ownBlock) (.slice Ao51 t464.length co51) t464) ∧ (Kd.S k63 63 w' w.heap.size (fun k_ => some k_ ≠ (s_.2.1 : Value).ownBlock ∧ some k_ ≠ (s_.2.2.1 : Value).ownBlock ∧ some k_ ≠ (s_.2.2.2.2.1 : Value).ownBlock ∧ some k_ ≠ (.slice Ao44 t423.length co44 : Value).ownBlock ∧ some k_ ≠ (.slice Ao66 t467.length co66 : Value).ownBlock ∧ some k_ ≠ (.slice Ao80 t444.length co80 : Value).ownBlock ∧ k_ ≠ gb440 ∧ (k_ < ga71 ∨ ga133 ≤ k_) ∧ k_ < ga193) (.slice Ao56 t465.length co56) t465) ∧ (Kd.R k70 70 w' w.heap.size (fun k_ => some k_ ≠ (s_.2.2.1 : Value).ownBlock) (.slice Ao66 t467.length co66) t467) ∧ (Kd.R k48 48 w' w.heap.size (fun k_ => some k_ ≠ (s_.1 : Value).ownBlock ∧ some k_ ≠ (s_.2.2.2.1 : Value).ownBlock ∧ some k_ ≠ (.slice Ao42 t420.length co42 : Value).ownBlock ∧ some k_ ≠ (.slice Ao51 t464.length co51 : Value).ownBlock) (.slice Ao73 t441.length co73) t470) ∧ (Kd.S k63 63 w' w.heap.size (fun k_ => some k_ ≠ (s_.2.1 : Value).ownBlock ∧ some k_ ≠ (s_.2.2.1 : Value).ownBlock ∧ some k_ ≠ (s_.2.2.2.2.1 : Value).ownBlock ∧ some k_ ≠ (.slice Ao44 t423.length co44 : Value).ownBlock ∧ some k_ ≠ (.slice Ao56 t465.length co56 : Value).ownBlock ∧ some k_ ≠ (.slice Ao66 t467.length co66 : Value).ownBlock ∧ k_ ≠ gb440 ∧ (k_ < ga133 ∨ ga193 ≤ k_)) (.slice Ao80 t444.length co80) t471) ∧ (w'.heap[gb405]? = some (.cells #[.slice A0_0 l0_0.length c0_0, .slice A0_1 l0_1.length c0_1] 25 (0, 0))) ∧ (w'.heap[gb406]? = some (.cells #[.int .i64 a1_0, .string a1_1, .slice A1_2 l1_2.length c1_2] 58 (0, 0))) ∧ (w'.heap[gb427]? = some (.cells #[.slice Ao42 t420.length co42, .slice Ao44 t423.length co44] 31 (0, 0))) ∧ (w'.heap[gb434]? = some (.cells #[.slice Ao51 t464.length co51, .slice Ao56 t465.length co56] 31 (0, 0))) ∧ (w'.heap[gb440]? = some (.cells #[.int .i64 t435, .string t436, .slice Ao66 t467.length co66] 63 (0, 0))) ∧ (w'.heap[gb448]? = some (.cells #[.slice Ao73 t441.length co73, .slice Ao80 t444.length co80] 31 (0, 0))) ∧ (w'.heap[s_.2.2.2.2.2]? = some (.cells #[.slice none 0 0, .slice none 0 0] 31 (0, 0))) ∧ (w.heap.size ≤ s_.2.2.2.2.2) ∧ (w.heap.size ≤ s_.2.2.2.2.2) ∧ (gb405 ≠ s_.2.2.2.2.2) ∧ (s_.2.2.2.2.2 ≠ gb405) ∧ (gb406 ≠ s_.2.2.2.2.2) ∧ (s_.2.2.2.2.2 ≠ gb406) ∧ (gb427 ≠ s_.2.2.2.2.2) ∧ (s_.2.2.2.2.2 ≠ gb427) ∧ (gb434 ≠ s_.2.2.2.2.2) ∧ (s_.2.2.2.2.2 ≠ gb434) ∧ (gb440 ≠ s_.2.2.2.2.2) ∧ (s_.2.2.2.2.2 ≠ gb440) ∧ (gb448 ≠ s_.2.2.2.2.2) ∧ (s_.2.2.2.2.2 ≠ gb448) ∧ (Below w.heap.size w w')) ?_ ?_
        rotate_left
        ·intro hCont
         refine two_ (i := 1) (j := 8) (Ni := some 96) (Nj := some 15) #[true, true, true, false, false, false, false, false, false, false, false] #[true, false, true, false, false, false, false, false, true, false, false] rfl rfl rfl rfl (two_of HT_.out (by kernel_rfl)) (by decide) (by decide) (fun K hK => ?_) (fun K hK => ?_)
         ·skip
          refine goes_ Tryd.func16 (by kernel_rfl) rfl #[.agg #[.slice A0_0 l0_0.length c0_0, .slice A0_1 l0_1.length c0_1]] (by rfl) rfl rfl ZZ19826e ?_
          with_reducible refine (laws_toLedger.calls kj115 _ _ l0_0 _ _ l0_1 t473 t476 _ ?side1 ?side2 ?side3 ?side4 A182.out).mono ?_
          (case side1 => exact (rC (Kd.C_below HR0_0.out HB.out)))
          (case side2 => exact HC0_0.out)
          (case side3 => exact (rC (Kd.C_below HR0_1.out HB.out)))
          (case side4 => exact HC0_1.out)
          rintro e w197 ⟨v474, v477, rfl, ho0, ho1, hb⟩
          refine ⟨_, rfl, ?_⟩
          have HO475 := Aside0.mk (Kd.R_lower (Kd.R_new' (Kd.R_new' (Kd.R_new' ho0 (Kd.R_lt (zR HO_428000))) (Kd.R_lt (zR HO_435000))) (Kd.R_lt (zR HO_449000))) (below_size ZZ295621))
          replace HO_428000 := Aside0.mk (Kd.R_elder' (zR HO_428000) (Kd.R_base ho0) hb)
          replace HO_435000 := Aside0.mk (Kd.R_elder' (zR HO_435000) (Kd.R_base ho0) hb)
          replace HO_449000 := Aside0.mk (Kd.R_elder' (zR HO_449000) (Kd.R_base ho0) hb)
          have HO478 := Aside0.mk (Kd.S_lower (Kd.S_newB (Kd.S_new' (Kd.S_new' (Kd.S_new' (Kd.S_new' ho1 (Kd.S_lt (zS HO_428001))) (Kd.S_lt (zS HO_435001))) (Kd.R_lt (zR HO_441002))) (Kd.S_lt (zS HO_449001))) (zB BK440)) (below_size ZZ295621))
          replace HO_428001 := Aside0.mk (Kd.S_elder' (zS HO_428001) (Kd.S_base ho1) hb)
          replace HO_435001 := Aside0.mk (Kd.S_elder' (zS HO_435001) (Kd.S_base ho1) hb)
          replace HO_441002 := Aside0.mk (Kd.R_below (zR HO_441002) hb)
          replace HO_449001 := Aside0.mk (Kd.S_elder' (zS HO_449001) (Kd.S_base ho1) hb)
          replace BK405 := kb BK405 hb
          replace BK406 := kb BK406 hb
          replace BK427 := kb BK427 hb
          replace BK434 := kb BK434 hb
          replace BK440 := kb BK440 hb
          replace BK448 := kb BK448 hb
          replace HB := hB hb
          (try clear hb)
          (try clear hb2)
          (try clear hk)
          (try clear hi)
          (try clear ho0)
          (try clear ho1)
          refine hK.out _ _ zK (fun hHeld => ?_)
          clear hK K
          refine nd (some 96) ?_
          refine two_ (i := 3) (j := 8) (Ni := some 98) (Nj := some 15) #[true, true, true, true, false, false, false, false, false, false, false] #[true, true, true, false, false, false, false, false, true, false, false] rfl rfl rfl rfl (two_of HT_.out (by kernel_rfl)) (by decide) (by decide) (fun K hK => ?_) (fun K hK => ?_)
          ·skip
           refine goes_ Tryd.func37 (by kernel_rfl) rfl #[.agg #[.int .i64 a1_0, .string a1_1, .slice A1_2 l1_2.length c1_2]] (by rfl) rfl rfl ZZ19826e ?_
           with_reducible refine (laws_toBookEntry.calls kj115 a1_0 a1_1 _ _ l1_2 t479 t480 t481 _ ?side1 ?side2 A183.out).mono ?_
           (case side1 => exact (rC (Kd.C_below HR1_2.out HB.out)))
           (case side2 => exact HC1_2.out)
           rintro e w198 ⟨v482, rfl, ho0, hb⟩
           refine ⟨_, rfl, ?_⟩
           replace HO_428000 := Aside0.mk (Kd.R_below (zR HO_428000) hb)
           replace HO_428001 := Aside0.mk (Kd.S_elder' (zS HO_428001) (Kd.R_base ho0) hb)
           replace HO_435000 := Aside0.mk (Kd.R_below (zR HO_435000) hb)
           replace HO_435001 := Aside0.mk (Kd.S_elder' (zS HO_435001) (Kd.R_base ho0) hb)
           replace HO_449000 := Aside0.mk (Kd.R_below (zR HO_449000) hb)
           replace HO_449001 := Aside0.mk (Kd.S_elder' (zS HO_449001) (Kd.R_base ho0) hb)
           replace HO475 := Aside0.mk (Kd.R_below (zR HO475) hb)
           replace HO478 := Aside0.mk (Kd.S_elder' (zS HO478) (Kd.R_base ho0) hb)
           have HO483 := Aside0.mk (Kd.R_lower (Kd.R_new' ho0 (Kd.R_lt (zR HO_441002))) (below_size ZZ295621))
           replace HO_441002 := Aside0.mk (Kd.R_elder' (zR HO_441002) (Kd.R_base ho0) hb)
           replace BK405 := kb BK405 hb
           replace BK406 := kb BK406 hb
           replace BK427 := kb BK427 hb
           replace BK434 := kb BK434 hb
           replace BK440 := kb BK440 hb
           replace BK448 := kb BK448 hb
           replace HB := hB hb
           (try clear hb)
           (try clear hb2)
           (try clear hk)
           (try clear hi)
           (try clear ho0)
           obtain ⟨Ao199, co199, eo199⟩ := Kd.R_slice HO475.out
           (first | subst eo199 | (injection eo199 with f1_ f2_ f3_; have f4_ := f1_.symm; have f5_ := f3_.symm; clear f1_ f2_ f3_; subst f4_; subst f5_))
           obtain ⟨Ao200, co200, eo200⟩ := Kd.S_slice HO478.out
           (first | subst eo200 | (injection eo200 with f1_ f2_ f3_; have f4_ := f1_.symm; have f5_ := f3_.symm; clear f1_ f2_ f3_; subst f4_; subst f5_))
           obtain ⟨Ao201, co201, eo201⟩ := Kd.R_slice HO483.out
           (first | subst eo201 | (injection eo201 with f1_ f2_ f3_; have f4_ := f1_.symm; have f5_ := f3_.symm; clear f1_ f2_ f3_; subst f4_; subst f5_))
           refine hK.out _ _ zK (fun hHeld => ?_)
           clear hK K
           refine nd (some 98) ?_
           refine two_ (i := 4) (j := 8) (Ni := some 99) (Nj := some 15) #[true, true, true, true, true, false, false, false, false, false, false] #[true, true, true, true, false, false, false, false, true, false, false] rfl rfl rfl rfl (two_of HT_.out (by kernel_rfl)) (by decide) (by decide) (fun K hK => ?_) (fun K hK => ?_)
           ·skip
            refine goes_ Tryd.func38 (by kernel_rfl) rfl #[.agg #[.slice Ao199 t473.length co199, .slice Ao200 t476.length co200], .agg #[.int .i64 t479, .string t480, .slice Ao201 t481.length co201]] (by rfl) rfl rfl ZZ19826e ?_
            with_reducible refine (impl_PostEntry.calls kj115 _ _ t473 (fun k_ => (((((((((((((((True ∧ some k_ ≠ (.slice Ao44 t423.length co44 : Value).ownBlock) ∧ some k_ ≠ (.slice Ao56 t465.length co56 : Value).ownBlock) ∧ some k_ ≠ (.slice Ao66 t467.length co66 : Value).ownBlock) ∧ some k_ ≠ (.slice Ao80 t444.length co80 : Value).ownBlock) ∧ k_ ≠ gb440) ∧ some k_ ≠ (.slice Ao201 t481.length co201 : Value).ownBlock) ∧ some k_ ≠ (.slice Ao42 t420.length co42 : Value).ownBlock) ∧ some k_ ≠ (.slice Ao51 t464.length co51 : Value).ownBlock) ∧ some k_ ≠ (.slice Ao73 t441.length co73 : Value).ownBlock) ∧ some k_ ≠ (.slice Ao199 t473.length co199 : Value).ownBlock) ∧ k_ ≠ gb405) ∧ k_ ≠ gb406) ∧ k_ ≠ gb427) ∧ k_ ≠ gb434) ∧ k_ ≠ gb448)) _ _ t476 t479 t480 (fun k_ => some k_ = (.slice Ao201 t481.length co201 : Value).ownBlock) _ _ t481 t484 t487 t490 _ ?side1 ?side2 ?side3 ?side4 A184.out).mono ?_
            (case side1 => exact rC (Kd.R_reads' HO475.out).2.2)
            (case side2 => exact (Kd.R_reads' HO475.out).2.1)
            (case side3 => exact Kd.S_V (Kd.S_types (Kd.S_types (Kd.S_types (Kd.S_types (Kd.S_types (Kd.S_apart' (Kd.S_apart' (Kd.S_apart' (Kd.S_apart' (HO478.out) (Kd.R_typed HO_428000.out) (by decide)) (Kd.R_typed HO_435000.out) (by decide)) (Kd.R_typed HO_449000.out) (by decide)) (Kd.R_typed HO475.out) (by decide)) BK405.out (by decide)) BK406.out (by decide)) BK427.out (by decide)) BK434.out (by decide)) BK448.out (by decide)))
            (case side4 => exact Kd.R_V (Kd.R_tight rfl (Kd.R_types (Kd.R_types (Kd.R_types (Kd.R_types (Kd.R_types (Kd.R_types (Kd.R_apart' (Kd.R_apart' (Kd.R_apart' (Kd.R_apart' (Kd.R_apart' (Kd.R_apart' (Kd.R_apart' (Kd.R_apart' (HO483.out) (Kd.R_typed HO_428000.out) (by decide)) (Kd.S_typed HO_428001.out) (by decide)) (Kd.R_typed HO_435000.out) (by decide)) (Kd.S_typed HO_435001.out) (by decide)) (Kd.R_typed HO_449000.out) (by decide)) (Kd.S_typed HO_449001.out) (by decide)) (Kd.R_typed HO475.out) (by decide)) (Kd.S_typed HO478.out) (by decide)) BK405.out (by decide)) BK406.out (by decide)) BK427.out (by decide)) BK434.out (by decide)) BK440.out (by decide)) BK448.out (by decide))))
            rintro e w202 ⟨v485, v488, rfl, ho0, ho1, hb⟩
            refine ⟨_, rfl, ?_⟩
            have HO486 := Aside0.mk (Kd.R_lower (Kd.R_new' (Kd.R_new' (Kd.R_new' (Kd.R_new' (Kd.R_mono (ok' := fun k_ => True) ho0 (fun _ hk_ => trivial)) (Kd.R_lt (zR HO_428000))) (Kd.R_lt (zR HO_435000))) (Kd.R_lt (zR HO_449000))) (Kd.R_lt (zR HO475))) (below_size ZZ295621))
            replace HO_428000 := Aside0.mk (Kd.R_elder' (zR HO_428000) (Kd.R_base ho0) hb)
            replace HO_435000 := Aside0.mk (Kd.R_elder' (zR HO_435000) (Kd.R_base ho0) hb)
            replace HO_449000 := Aside0.mk (Kd.R_elder' (zR HO_449000) (Kd.R_base ho0) hb)
            replace HO475 := Aside0.mk (Kd.R_elder' (zR HO475) (Kd.R_base ho0) hb)
            have HO489 := Aside0.mk (Kd.S_lower (Kd.S_newB (Kd.S_new' (Kd.S_new' (Kd.S_new' (Kd.S_new' (Kd.S_new' (Kd.S_new' (Kd.S_mono (ok' := fun k_ => True) ho1 (fun _ hk_ => trivial)) (Kd.S_lt (zS HO_428001))) (Kd.S_lt (zS HO_435001))) (Kd.R_lt (zR HO_441002))) (Kd.S_lt (zS HO_449001))) (Kd.S_lt (zS HO478))) (Kd.R_lt (zR HO483))) (zB BK440)) (below_size ZZ295621))
            replace HO_428001 := Aside0.mk (Kd.S_elder' (zS HO_428001) (Kd.S_base ho1) hb)
            replace HO_435001 := Aside0.mk (Kd.S_elder' (zS HO_435001) (Kd.S_base ho1) hb)
            replace HO_441002 := Aside0.mk (Kd.R_below (zR HO_441002) hb)
            replace HO_449001 := Aside0.mk (Kd.S_elder' (zS HO_449001) (Kd.S_base ho1) hb)
            replace HO478 := Aside0.mk (Kd.S_elder' (zS HO478) (Kd.S_base ho1) hb)
            replace HO483 := Aside0.mk (Kd.R_below (zR HO483) hb)
            replace BK405 := kb BK405 hb
            replace BK406 := kb BK406 hb
            replace BK427 := kb BK427 hb
            replace BK434 := kb BK434 hb
            replace BK440 := kb BK440 hb
            replace BK448 := kb BK448 hb
            replace HB := hB hb
            (try clear hb)
            (try clear hb2)
            (try clear hk)
            (try clear hi)
            (try clear ho0)
            (try clear ho1)
            refine hK.out _ _ zK (fun hHeld => ?_)
            clear hK K
            refine nd (some 99) ?_
            refine pu 5 94 ?_
            refine pu 6 100 ?_
            refine pu 7 101 ?_
            refine on 8 (some 15) (fun K hK => ?_)
            refine box_step ?hg (N := 15) ?hd (cs := #[.slice none 0 0, .slice none 0 0]) (t := 31) ?hr ?_; (case hd => rfl); (case hg => rfl); (case hr => first | (go_simp; done) | (go_simp; rfl))
            intro gb491 hg w203 hbox hb
            replace HO_428000 := Aside0.mk (Kd.R_below (zR HO_428000) hb)
            replace HO_428001 := Aside0.mk (Kd.S_below (zS HO_428001) hb)
            replace HO_435000 := Aside0.mk (Kd.R_below (zR HO_435000) hb)
            replace HO_435001 := Aside0.mk (Kd.S_below (zS HO_435001) hb)
            replace HO_441002 := Aside0.mk (Kd.R_below (zR HO_441002) hb)
            replace HO_449000 := Aside0.mk (Kd.R_below (zR HO_449000) hb)
            replace HO_449001 := Aside0.mk (Kd.S_below (zS HO_449001) hb)
            replace HO475 := Aside0.mk (Kd.R_below (zR HO475) hb)
            replace HO478 := Aside0.mk (Kd.S_below (zS HO478) hb)
            replace HO483 := Aside0.mk (Kd.R_below (zR HO483) hb)
            replace HO486 := Aside0.mk (Kd.R_below (zR HO486) hb)
            replace HO489 := Aside0.mk (Kd.S_below (zS HO489) hb)
            have BK491 := Aside0.mk (hbox)
            have GW491 := gw hg
            have GE491 := gw hg
            replace HB := hB hb
            have NB405_491 := nl hg BK405
            have NB491_405 := ng hg BK405
            replace BK405 := kb BK405 hb
            have NB406_491 := nl hg BK406
            have NB491_406 := ng hg BK406
            replace BK406 := kb BK406 hb
            have NB427_491 := nl hg BK427
            have NB491_427 := ng hg BK427
            replace BK427 := kb BK427 hb
            have NB434_491 := nl hg BK434
            have NB491_434 := ng hg BK434
            replace BK434 := kb BK434 hb
            have NB440_491 := nl hg BK440
            have NB491_440 := ng hg BK440
            replace BK440 := kb BK440 hb
            have NB448_491 := nl hg BK448
            have NB491_448 := ng hg BK448
            replace BK448 := kb BK448 hb
            clear hb hbox hg
            refine hK.out _ _ zK (fun hHeld => ?_)
            clear hK K
            refine nd (some 15) ?_
            exact norm_ ZZ539e1d (hCont (.slice Ao199 t473.length co199, .slice Ao200 t476.length co200, .slice Ao201 t481.length co201, v485, v488, gb491) _ ⟨hHeld, ZZ4dc9bc, ZZ80ac6b, ZZaa1c2d, ZZ55b01f, ZZ2a62ac, ZZ7aee77, ZZ8a4ed1, ZZf0a866, ZZ80c899, ZZ6ee40c, ZZaa728f, ZZ99d3e5, (zB BK405), (zB BK406), (zB BK427), (zB BK434), (zB BK440), (zB BK448), (zB BK491), GW491.out, GE491.out, NB405_491.out, NB491_405.out, NB406_491.out, NB491_406.out, NB427_491.out, NB491_427.out, NB434_491.out, NB491_434.out, NB440_491.out, NB491_440.out, NB448_491.out, NB491_448.out, ZZ295621⟩)
           skip
           refine box_step ?hg (N := 15) ?hd (cs := #[.slice none 0 0, .slice none 0 0]) (t := 31) ?hr ?_; (case hd => rfl); (case hg => rfl); (case hr => first | (go_simp; done) | (go_simp; rfl))
           intro gb491 hg w199 hbox hb
           replace HO_428000 := Aside0.mk (Kd.R_below (zR HO_428000) hb)
           replace HO_428001 := Aside0.mk (Kd.S_below (zS HO_428001) hb)
           replace HO_435000 := Aside0.mk (Kd.R_below (zR HO_435000) hb)
           replace HO_435001 := Aside0.mk (Kd.S_below (zS HO_435001) hb)
           replace HO_441002 := Aside0.mk (Kd.R_below (zR HO_441002) hb)
           replace HO_449000 := Aside0.mk (Kd.R_below (zR HO_449000) hb)
           replace HO_449001 := Aside0.mk (Kd.S_below (zS HO_449001) hb)
           replace HO475 := Aside0.mk (Kd.R_below (zR HO475) hb)
           replace HO478 := Aside0.mk (Kd.S_below (zS HO478) hb)
           replace HO483 := Aside0.mk (Kd.R_below (zR HO483) hb)
           have BK491 := Aside0.mk (hbox)
           have GW491 := gw hg
           have GE491 := gw hg
           replace HB := hB hb
           have NB405_491 := nl hg BK405
           have NB491_405 := ng hg BK405
           replace BK405 := kb BK405 hb
           have NB406_491 := nl hg BK406
           have NB491_406 := ng hg BK406
           replace BK406 := kb BK406 hb
           have NB427_491 := nl hg BK427
           have NB491_427 := ng hg BK427
           replace BK427 := kb BK427 hb
           have NB434_491 := nl hg BK434
           have NB491_434 := ng hg BK434
           replace BK434 := kb BK434 hb
           have NB440_491 := nl hg BK440
           have NB491_440 := ng hg BK440
           replace BK440 := kb BK440 hb
           have NB448_491 := nl hg BK448
           have NB491_448 := ng hg BK448
           replace BK448 := kb BK448 hb
           clear hb hbox hg
           obtain ⟨Ao200, co200, eo200⟩ := Kd.R_slice HO475.out
           (first | subst eo200 | (injection eo200 with f1_ f2_ f3_; have f4_ := f1_.symm; have f5_ := f3_.symm; clear f1_ f2_ f3_; subst f4_; subst f5_))
           obtain ⟨Ao201, co201, eo201⟩ := Kd.S_slice HO478.out
           (first | subst eo201 | (injection eo201 with f1_ f2_ f3_; have f4_ := f1_.symm; have f5_ := f3_.symm; clear f1_ f2_ f3_; subst f4_; subst f5_))
           obtain ⟨Ao202, co202, eo202⟩ := Kd.R_slice HO483.out
           (first | subst eo202 | (injection eo202 with f1_ f2_ f3_; have f4_ := f1_.symm; have f5_ := f3_.symm; clear f1_ f2_ f3_; subst f4_; subst f5_))
           refine hK.out _ _ zK (fun hHeld => ?_)
           clear hK K
           refine nd (some 15) ?_
           refine on 4 (some 99) (fun K hK => ?_)
           refine goes_ Tryd.func38 (by kernel_rfl) rfl #[.agg #[.slice Ao200 t473.length co200, .slice Ao201 t476.length co201], .agg #[.int .i64 t479, .string t480, .slice Ao202 t481.length co202]] (by rfl) rfl rfl ZZ19826e ?_
           with_reducible refine (impl_PostEntry.calls kj115 _ _ t473 (fun k_ => ((((((((((((((((True ∧ some k_ ≠ (.slice Ao44 t423.length co44 : Value).ownBlock) ∧ some k_ ≠ (.slice Ao56 t465.length co56 : Value).ownBlock) ∧ some k_ ≠ (.slice Ao66 t467.length co66 : Value).ownBlock) ∧ some k_ ≠ (.slice Ao80 t444.length co80 : Value).ownBlock) ∧ k_ ≠ gb440) ∧ some k_ ≠ (.slice Ao202 t481.length co202 : Value).ownBlock) ∧ some k_ ≠ (.slice Ao42 t420.length co42 : Value).ownBlock) ∧ some k_ ≠ (.slice Ao51 t464.length co51 : Value).ownBlock) ∧ some k_ ≠ (.slice Ao73 t441.length co73 : Value).ownBlock) ∧ some k_ ≠ (.slice Ao200 t473.length co200 : Value).ownBlock) ∧ k_ ≠ gb405) ∧ k_ ≠ gb406) ∧ k_ ≠ gb427) ∧ k_ ≠ gb434) ∧ k_ ≠ gb448) ∧ k_ ≠ gb491)) _ _ t476 t479 t480 (fun k_ => some k_ = (.slice Ao202 t481.length co202 : Value).ownBlock) _ _ t481 t484 t487 t490 _ ?side1 ?side2 ?side3 ?side4 A184.out).mono ?_
           (case side1 => exact rC (Kd.R_reads' HO475.out).2.2)
           (case side2 => exact (Kd.R_reads' HO475.out).2.1)
           (case side3 => exact Kd.S_V (Kd.S_types (Kd.S_types (Kd.S_types (Kd.S_types (Kd.S_types (Kd.S_types (Kd.S_apart' (Kd.S_apart' (Kd.S_apart' (Kd.S_apart' (HO478.out) (Kd.R_typed HO_428000.out) (by decide)) (Kd.R_typed HO_435000.out) (by decide)) (Kd.R_typed HO_449000.out) (by decide)) (Kd.R_typed HO475.out) (by decide)) BK405.out (by decide)) BK406.out (by decide)) BK427.out (by decide)) BK434.out (by decide)) BK448.out (by decide)) BK491.out (by decide)))
           (case side4 => exact Kd.R_V (Kd.R_tight rfl (Kd.R_types (Kd.R_types (Kd.R_types (Kd.R_types (Kd.R_types (Kd.R_types (Kd.R_types (Kd.R_apart' (Kd.R_apart' (Kd.R_apart' (Kd.R_apart' (Kd.R_apart' (Kd.R_apart' (Kd.R_apart' (Kd.R_apart' (HO483.out) (Kd.R_typed HO_428000.out) (by decide)) (Kd.S_typed HO_428001.out) (by decide)) (Kd.R_typed HO_435000.out) (by decide)) (Kd.S_typed HO_435001.out) (by decide)) (Kd.R_typed HO_449000.out) (by decide)) (Kd.S_typed HO_449001.out) (by decide)) (Kd.R_typed HO475.out) (by decide)) (Kd.S_typed HO478.out) (by decide)) BK405.out (by decide)) BK406.out (by decide)) BK427.out (by decide)) BK434.out (by decide)) BK440.out (by decide)) BK448.out (by decide)) BK491.out (by decide))))
           rintro e w203 ⟨v485, v488, rfl, ho0, ho1, hb⟩
           refine ⟨_, rfl, ?_⟩
           have HO486 := Aside0.mk (Kd.R_lower (Kd.R_new' (Kd.R_new' (Kd.R_new' (Kd.R_new' (Kd.R_mono (ok' := fun k_ => True) ho0 (fun _ hk_ => trivial)) (Kd.R_lt (zR HO_428000))) (Kd.R_lt (zR HO_435000))) (Kd.R_lt (zR HO_449000))) (Kd.R_lt (zR HO475))) (below_size ZZ295621))
           replace HO_428000 := Aside0.mk (Kd.R_elder' (zR HO_428000) (Kd.R_base ho0) hb)
           replace HO_435000 := Aside0.mk (Kd.R_elder' (zR HO_435000) (Kd.R_base ho0) hb)
           replace HO_449000 := Aside0.mk (Kd.R_elder' (zR HO_449000) (Kd.R_base ho0) hb)
           replace HO475 := Aside0.mk (Kd.R_elder' (zR HO475) (Kd.R_base ho0) hb)
           have HO489 := Aside0.mk (Kd.S_lower (Kd.S_newB (Kd.S_new' (Kd.S_new' (Kd.S_new' (Kd.S_new' (Kd.S_new' (Kd.S_new' (Kd.S_mono (ok' := fun k_ => True) ho1 (fun _ hk_ => trivial)) (Kd.S_lt (zS HO_428001))) (Kd.S_lt (zS HO_435001))) (Kd.R_lt (zR HO_441002))) (Kd.S_lt (zS HO_449001))) (Kd.S_lt (zS HO478))) (Kd.R_lt (zR HO483))) (zB BK440)) (below_size ZZ295621))
           replace HO_428001 := Aside0.mk (Kd.S_elder' (zS HO_428001) (Kd.S_base ho1) hb)
           replace HO_435001 := Aside0.mk (Kd.S_elder' (zS HO_435001) (Kd.S_base ho1) hb)
           replace HO_441002 := Aside0.mk (Kd.R_below (zR HO_441002) hb)
           replace HO_449001 := Aside0.mk (Kd.S_elder' (zS HO_449001) (Kd.S_base ho1) hb)
           replace HO478 := Aside0.mk (Kd.S_elder' (zS HO478) (Kd.S_base ho1) hb)
           replace HO483 := Aside0.mk (Kd.R_below (zR HO483) hb)
           replace BK405 := kb BK405 hb
           replace BK406 := kb BK406 hb
           replace BK427 := kb BK427 hb
           replace BK434 := kb BK434 hb
           replace BK440 := kb BK440 hb
           replace BK448 := kb BK448 hb
           replace BK491 := kb BK491 hb
           replace HB := hB hb
           (try clear hb)
           (try clear hb2)
           (try clear hk)
           (try clear hi)
           (try clear ho0)
           (try clear ho1)
           refine hK.out _ _ zK (fun hHeld => ?_)
           clear hK K
           refine nd (some 99) ?_
           refine pu 5 94 ?_
           refine pu 6 100 ?_
           refine pu 7 101 ?_
           exact norm_ ZZ539e1d (hCont (.slice Ao200 t473.length co200, .slice Ao201 t476.length co201, .slice Ao202 t481.length co202, v485, v488, gb491) _ ⟨hHeld, ZZ4dc9bc, ZZ80ac6b, ZZaa1c2d, ZZ55b01f, ZZ2a62ac, ZZ7aee77, ZZ8a4ed1, ZZf0a866, ZZ80c899, ZZ6ee40c, ZZaa728f, ZZ99d3e5, (zB BK405), (zB BK406), (zB BK427), (zB BK434), (zB BK440), (zB BK448), (zB BK491), GW491.out, GE491.out, NB405_491.out, NB491_405.out, NB406_491.out, NB491_406.out, NB427_491.out, NB491_427.out, NB434_491.out, NB491_434.out, NB440_491.out, NB491_440.out, NB448_491.out, NB491_448.out, ZZ295621⟩)
          skip
          refine box_step ?hg (N := 15) ?hd (cs := #[.slice none 0 0, .slice none 0 0]) (t := 31) ?hr ?_; (case hd => rfl); (case hg => rfl); (case hr => first | (go_simp; done) | (go_simp; rfl))
          intro gb491 hg w198 hbox hb
          replace HO_428000 := Aside0.mk (Kd.R_below (zR HO_428000) hb)
          replace HO_428001 := Aside0.mk (Kd.S_below (zS HO_428001) hb)
          replace HO_435000 := Aside0.mk (Kd.R_below (zR HO_435000) hb)
          replace HO_435001 := Aside0.mk (Kd.S_below (zS HO_435001) hb)
          replace HO_441002 := Aside0.mk (Kd.R_below (zR HO_441002) hb)
          replace HO_449000 := Aside0.mk (Kd.R_below (zR HO_449000) hb)
          replace HO_449001 := Aside0.mk (Kd.S_below (zS HO_449001) hb)
          replace HO475 := Aside0.mk (Kd.R_below (zR HO475) hb)
          replace HO478 := Aside0.mk (Kd.S_below (zS HO478) hb)
          have BK491 := Aside0.mk (hbox)
          have GW491 := gw hg
          have GE491 := gw hg
          replace HB := hB hb
          have NB405_491 := nl hg BK405
          have NB491_405 := ng hg BK405
          replace BK405 := kb BK405 hb
          have NB406_491 := nl hg BK406
          have NB491_406 := ng hg BK406
          replace BK406 := kb BK406 hb
          have NB427_491 := nl hg BK427
          have NB491_427 := ng hg BK427
          replace BK427 := kb BK427 hb
          have NB434_491 := nl hg BK434
          have NB491_434 := ng hg BK434
          replace BK434 := kb BK434 hb
          have NB440_491 := nl hg BK440
          have NB491_440 := ng hg BK440
          replace BK440 := kb BK440 hb
          have NB448_491 := nl hg BK448
          have NB491_448 := ng hg BK448
          replace BK448 := kb BK448 hb
          clear hb hbox hg
          refine hK.out _ _ zK (fun hHeld => ?_)
          clear hK K
          refine nd (some 15) ?_
          refine on 3 (some 98) (fun K hK => ?_)
          refine goes_ Tryd.func37 (by kernel_rfl) rfl #[.agg #[.int .i64 a1_0, .string a1_1, .slice A1_2 l1_2.length c1_2]] (by rfl) rfl rfl ZZ19826e ?_
          with_reducible refine (laws_toBookEntry.calls kj115 a1_0 a1_1 _ _ l1_2 t479 t480 t481 _ ?side1 ?side2 A183.out).mono ?_
          (case side1 => exact (rC (Kd.C_below HR1_2.out HB.out)))
          (case side2 => exact HC1_2.out)
          rintro e w199 ⟨v482, rfl, ho0, hb⟩
          refine ⟨_, rfl, ?_⟩
          replace HO_428000 := Aside0.mk (Kd.R_below (zR HO_428000) hb)
          replace HO_428001 := Aside0.mk (Kd.S_elder' (zS HO_428001) (Kd.R_base ho0) hb)
          replace HO_435000 := Aside0.mk (Kd.R_below (zR HO_435000) hb)
          replace HO_435001 := Aside0.mk (Kd.S_elder' (zS HO_435001) (Kd.R_base ho0) hb)
          replace HO_449000 := Aside0.mk (Kd.R_below (zR HO_449000) hb)
          replace HO_449001 := Aside0.mk (Kd.S_elder' (zS HO_449001) (Kd.R_base ho0) hb)
          replace HO475 := Aside0.mk (Kd.R_below (zR HO475) hb)
          replace HO478 := Aside0.mk (Kd.S_elder' (zS HO478) (Kd.R_base ho0) hb)
          have HO483 := Aside0.mk (Kd.R_lower (Kd.R_new' ho0 (Kd.R_lt (zR HO_441002))) (below_size ZZ295621))
          replace HO_441002 := Aside0.mk (Kd.R_elder' (zR HO_441002) (Kd.R_base ho0) hb)
          replace BK405 := kb BK405 hb
          replace BK406 := kb BK406 hb
          replace BK427 := kb BK427 hb
          replace BK434 := kb BK434 hb
          replace BK440 := kb BK440 hb
          replace BK448 := kb BK448 hb
          replace BK491 := kb BK491 hb
          replace HB := hB hb
          (try clear hb)
          (try clear hb2)
          (try clear hk)
          (try clear hi)
          (try clear ho0)
          obtain ⟨Ao200, co200, eo200⟩ := Kd.R_slice HO475.out
          (first | subst eo200 | (injection eo200 with f1_ f2_ f3_; have f4_ := f1_.symm; have f5_ := f3_.symm; clear f1_ f2_ f3_; subst f4_; subst f5_))
          obtain ⟨Ao201, co201, eo201⟩ := Kd.S_slice HO478.out
          (first | subst eo201 | (injection eo201 with f1_ f2_ f3_; have f4_ := f1_.symm; have f5_ := f3_.symm; clear f1_ f2_ f3_; subst f4_; subst f5_))
          obtain ⟨Ao202, co202, eo202⟩ := Kd.R_slice HO483.out
          (first | subst eo202 | (injection eo202 with f1_ f2_ f3_; have f4_ := f1_.symm; have f5_ := f3_.symm; clear f1_ f2_ f3_; subst f4_; subst f5_))
          refine hK.out _ _ zK (fun hHeld => ?_)
          clear hK K
          refine nd (some 98) ?_
          refine on 4 (some 99) (fun K hK => ?_)
          refine goes_ Tryd.func38 (by kernel_rfl) rfl #[.agg #[.slice Ao200 t473.length co200, .slice Ao201 t476.length co201], .agg #[.int .i64 t479, .string t480, .slice Ao202 t481.length co202]] (by rfl) rfl rfl ZZ19826e ?_
          with_reducible refine (impl_PostEntry.calls kj115 _ _ t473 (fun k_ => ((((((((((((((((True ∧ some k_ ≠ (.slice Ao44 t423.length co44 : Value).ownBlock) ∧ some k_ ≠ (.slice Ao56 t465.length co56 : Value).ownBlock) ∧ some k_ ≠ (.slice Ao66 t467.length co66 : Value).ownBlock) ∧ some k_ ≠ (.slice Ao80 t444.length co80 : Value).ownBlock) ∧ k_ ≠ gb440) ∧ some k_ ≠ (.slice Ao202 t481.length co202 : Value).ownBlock) ∧ some k_ ≠ (.slice Ao42 t420.length co42 : Value).ownBlock) ∧ some k_ ≠ (.slice Ao51 t464.length co51 : Value).ownBlock) ∧ some k_ ≠ (.slice Ao73 t441.length co73 : Value).ownBlock) ∧ some k_ ≠ (.slice Ao200 t473.length co200 : Value).ownBlock) ∧ k_ ≠ gb405) ∧ k_ ≠ gb406) ∧ k_ ≠ gb427) ∧ k_ ≠ gb434) ∧ k_ ≠ gb448) ∧ k_ ≠ gb491)) _ _ t476 t479 t480 (fun k_ => some k_ = (.slice Ao202 t481.length co202 : Value).ownBlock) _ _ t481 t484 t487 t490 _ ?side1 ?side2 ?side3 ?side4 A184.out).mono ?_
          (case side1 => exact rC (Kd.R_reads' HO475.out).2.2)
          (case side2 => exact (Kd.R_reads' HO475.out).2.1)
          (case side3 => exact Kd.S_V (Kd.S_types (Kd.S_types (Kd.S_types (Kd.S_types (Kd.S_types (Kd.S_types (Kd.S_apart' (Kd.S_apart' (Kd.S_apart' (Kd.S_apart' (HO478.out) (Kd.R_typed HO_428000.out) (by decide)) (Kd.R_typed HO_435000.out) (by decide)) (Kd.R_typed HO_449000.out) (by decide)) (Kd.R_typed HO475.out) (by decide)) BK405.out (by decide)) BK406.out (by decide)) BK427.out (by decide)) BK434.out (by decide)) BK448.out (by decide)) BK491.out (by decide)))
          (case side4 => exact Kd.R_V (Kd.R_tight rfl (Kd.R_types (Kd.R_types (Kd.R_types (Kd.R_types (Kd.R_types (Kd.R_types (Kd.R_types (Kd.R_apart' (Kd.R_apart' (Kd.R_apart' (Kd.R_apart' (Kd.R_apart' (Kd.R_apart' (Kd.R_apart' (Kd.R_apart' (HO483.out) (Kd.R_typed HO_428000.out) (by decide)) (Kd.S_typed HO_428001.out) (by decide)) (Kd.R_typed HO_435000.out) (by decide)) (Kd.S_typed HO_435001.out) (by decide)) (Kd.R_typed HO_449000.out) (by decide)) (Kd.S_typed HO_449001.out) (by decide)) (Kd.R_typed HO475.out) (by decide)) (Kd.S_typed HO478.out) (by decide)) BK405.out (by decide)) BK406.out (by decide)) BK427.out (by decide)) BK434.out (by decide)) BK440.out (by decide)) BK448.out (by decide)) BK491.out (by decide))))
          rintro e w203 ⟨v485, v488, rfl, ho0, ho1, hb⟩
          refine ⟨_, rfl, ?_⟩
          have HO486 := Aside0.mk (Kd.R_lower (Kd.R_new' (Kd.R_new' (Kd.R_new' (Kd.R_new' (Kd.R_mono (ok' := fun k_ => True) ho0 (fun _ hk_ => trivial)) (Kd.R_lt (zR HO_428000))) (Kd.R_lt (zR HO_435000))) (Kd.R_lt (zR HO_449000))) (Kd.R_lt (zR HO475))) (below_size ZZ295621))
          replace HO_428000 := Aside0.mk (Kd.R_elder' (zR HO_428000) (Kd.R_base ho0) hb)
          replace HO_435000 := Aside0.mk (Kd.R_elder' (zR HO_435000) (Kd.R_base ho0) hb)
          replace HO_449000 := Aside0.mk (Kd.R_elder' (zR HO_449000) (Kd.R_base ho0) hb)
          replace HO475 := Aside0.mk (Kd.R_elder' (zR HO475) (Kd.R_base ho0) hb)
          have HO489 := Aside0.mk (Kd.S_lower (Kd.S_newB (Kd.S_new' (Kd.S_new' (Kd.S_new' (Kd.S_new' (Kd.S_new' (Kd.S_new' (Kd.S_mono (ok' := fun k_ => True) ho1 (fun _ hk_ => trivial)) (Kd.S_lt (zS HO_428001))) (Kd.S_lt (zS HO_435001))) (Kd.R_lt (zR HO_441002))) (Kd.S_lt (zS HO_449001))) (Kd.S_lt (zS HO478))) (Kd.R_lt (zR HO483))) (zB BK440)) (below_size ZZ295621))
          replace HO_428001 := Aside0.mk (Kd.S_elder' (zS HO_428001) (Kd.S_base ho1) hb)
          replace HO_435001 := Aside0.mk (Kd.S_elder' (zS HO_435001) (Kd.S_base ho1) hb)
          replace HO_441002 := Aside0.mk (Kd.R_below (zR HO_441002) hb)
          replace HO_449001 := Aside0.mk (Kd.S_elder' (zS HO_449001) (Kd.S_base ho1) hb)
          replace HO478 := Aside0.mk (Kd.S_elder' (zS HO478) (Kd.S_base ho1) hb)
          replace HO483 := Aside0.mk (Kd.R_below (zR HO483) hb)
          replace BK405 := kb BK405 hb
          replace BK406 := kb BK406 hb
          replace BK427 := kb BK427 hb
          replace BK434 := kb BK434 hb
          replace BK440 := kb BK440 hb
          replace BK448 := kb BK448 hb
          replace BK491 := kb BK491 hb
          replace HB := hB hb
          (try clear hb)
          (try clear hb2)
          (try clear hk)
          (try clear hi)
          (try clear ho0)
          (try clear ho1)
          refine hK.out _ _ zK (fun hHeld => ?_)
          clear hK K
          refine nd (some 99) ?_
          refine pu 5 94 ?_
          refine pu 6 100 ?_
          refine pu 7 101 ?_
          exact norm_ ZZ539e1d (hCont (.slice Ao200 t473.length co200, .slice Ao201 t476.length co201, .slice Ao202 t481.length co202, v485, v488, gb491) _ ⟨hHeld, ZZ4dc9bc, ZZ80ac6b, ZZaa1c2d, ZZ55b01f, ZZ2a62ac, ZZ7aee77, ZZ8a4ed1, ZZf0a866, ZZ80c899, ZZ6ee40c, ZZaa728f, ZZ99d3e5, (zB BK405), (zB BK406), (zB BK427), (zB BK434), (zB BK440), (zB BK448), (zB BK491), GW491.out, GE491.out, NB405_491.out, NB491_405.out, NB406_491.out, NB491_406.out, NB427_491.out, NB491_427.out, NB434_491.out, NB491_434.out, NB440_491.out, NB491_440.out, NB448_491.out, NB491_448.out, ZZ295621⟩)
         skip
         refine box_step ?hg (N := 15) ?hd (cs := #[.slice none 0 0, .slice none 0 0]) (t := 31) ?hr ?_; (case hd => rfl); (case hg => rfl); (case hr => first | (go_simp; done) | (go_simp; rfl))
         intro gb491 hg w197 hbox hb
         replace HO_428000 := Aside0.mk (Kd.R_below (zR HO_428000) hb)
         replace HO_428001 := Aside0.mk (Kd.S_below (zS HO_428001) hb)
         replace HO_435000 := Aside0.mk (Kd.R_below (zR HO_435000) hb)
         replace HO_435001 := Aside0.mk (Kd.S_below (zS HO_435001) hb)
         replace HO_441002 := Aside0.mk (Kd.R_below (zR HO_441002) hb)
         replace HO_449000 := Aside0.mk (Kd.R_below (zR HO_449000) hb)
         replace HO_449001 := Aside0.mk (Kd.S_below (zS HO_449001) hb)
         have BK491 := Aside0.mk (hbox)
         have GW491 := gw hg
         have GE491 := gw hg
         replace HB := hB hb
         have NB405_491 := nl hg BK405
         have NB491_405 := ng hg BK405
         replace BK405 := kb BK405 hb
         have NB406_491 := nl hg BK406
         have NB491_406 := ng hg BK406
         replace BK406 := kb BK406 hb
         have NB427_491 := nl hg BK427
         have NB491_427 := ng hg BK427
         replace BK427 := kb BK427 hb
         have NB434_491 := nl hg BK434
         have NB491_434 := ng hg BK434
         replace BK434 := kb BK434 hb
         have NB440_491 := nl hg BK440
         have NB491_440 := ng hg BK440
         replace BK440 := kb BK440 hb
         have NB448_491 := nl hg BK448
         have NB491_448 := ng hg BK448
         replace BK448 := kb BK448 hb
         clear hb hbox hg
         refine hK.out _ _ zK (fun hHeld => ?_)
         clear hK K
         refine nd (some 15) ?_
         refine on 1 (some 96) (fun K hK => ?_)
         refine goes_ Tryd.func16 (by kernel_rfl) rfl #[.agg #[.slice A0_0 l0_0.length c0_0, .slice A0_1 l0_1.length c0_1]] (by rfl) rfl rfl ZZ19826e ?_
         with_reducible refine (laws_toLedger.calls kj115 _ _ l0_0 _ _ l0_1 t473 t476 _ ?side1 ?side2 ?side3 ?side4 A182.out).mono ?_
         (case side1 => exact (rC (Kd.C_below HR0_0.out HB.out)))
         (case side2 => exact HC0_0.out)
         (case side3 => exact (rC (Kd.C_below HR0_1.out HB.out)))
         (case side4 => exact HC0_1.out)
         rintro e w198 ⟨v474, v477, rfl, ho0, ho1, hb⟩
         refine ⟨_, rfl, ?_⟩
         have HO475 := Aside0.mk (Kd.R_lower (Kd.R_new' (Kd.R_new' (Kd.R_new' ho0 (Kd.R_lt (zR HO_428000))) (Kd.R_lt (zR HO_435000))) (Kd.R_lt (zR HO_449000))) (below_size ZZ295621))
         replace HO_428000 := Aside0.mk (Kd.R_elder' (zR HO_428000) (Kd.R_base ho0) hb)
         replace HO_435000 := Aside0.mk (Kd.R_elder' (zR HO_435000) (Kd.R_base ho0) hb)
         replace HO_449000 := Aside0.mk (Kd.R_elder' (zR HO_449000) (Kd.R_base ho0) hb)
         have HO478 := Aside0.mk (Kd.S_lower (Kd.S_newB (Kd.S_new' (Kd.S_new' (Kd.S_new' (Kd.S_new' ho1 (Kd.S_lt (zS HO_428001))) (Kd.S_lt (zS HO_435001))) (Kd.R_lt (zR HO_441002))) (Kd.S_lt (zS HO_449001))) (zB BK440)) (below_size ZZ295621))
         replace HO_428001 := Aside0.mk (Kd.S_elder' (zS HO_428001) (Kd.S_base ho1) hb)
         replace HO_435001 := Aside0.mk (Kd.S_elder' (zS HO_435001) (Kd.S_base ho1) hb)
         replace HO_441002 := Aside0.mk (Kd.R_below (zR HO_441002) hb)
         replace HO_449001 := Aside0.mk (Kd.S_elder' (zS HO_449001) (Kd.S_base ho1) hb)
         replace BK405 := kb BK405 hb
         replace BK406 := kb BK406 hb
         replace BK427 := kb BK427 hb
         replace BK434 := kb BK434 hb
         replace BK440 := kb BK440 hb
         replace BK448 := kb BK448 hb
         replace BK491 := kb BK491 hb
         replace HB := hB hb
         (try clear hb)
         (try clear hb2)
         (try clear hk)
         (try clear hi)
         (try clear ho0)
         (try clear ho1)
         refine hK.out _ _ zK (fun hHeld => ?_)
         clear hK K
         refine nd (some 96) ?_
         refine on 3 (some 98) (fun K hK => ?_)
         refine goes_ Tryd.func37 (by kernel_rfl) rfl #[.agg #[.int .i64 a1_0, .string a1_1, .slice A1_2 l1_2.length c1_2]] (by rfl) rfl rfl ZZ19826e ?_
         with_reducible refine (laws_toBookEntry.calls kj115 a1_0 a1_1 _ _ l1_2 t479 t480 t481 _ ?side1 ?side2 A183.out).mono ?_
         (case side1 => exact (rC (Kd.C_below HR1_2.out HB.out)))
         (case side2 => exact HC1_2.out)
         rintro e w199 ⟨v482, rfl, ho0, hb⟩
         refine ⟨_, rfl, ?_⟩
         replace HO_428000 := Aside0.mk (Kd.R_below (zR HO_428000) hb)
         replace HO_428001 := Aside0.mk (Kd.S_elder' (zS HO_428001) (Kd.R_base ho0) hb)
         replace HO_435000 := Aside0.mk (Kd.R_below (zR HO_435000) hb)
         replace HO_435001 := Aside0.mk (Kd.S_elder' (zS HO_435001) (Kd.R_base ho0) hb)
         replace HO_449000 := Aside0.mk (Kd.R_below (zR HO_449000) hb)
         replace HO_449001 := Aside0.mk (Kd.S_elder' (zS HO_449001) (Kd.R_base ho0) hb)
         replace HO475 := Aside0.mk (Kd.R_below (zR HO475) hb)
         replace HO478 := Aside0.mk (Kd.S_elder' (zS HO478) (Kd.R_base ho0) hb)
         have HO483 := Aside0.mk (Kd.R_lower (Kd.R_new' ho0 (Kd.R_lt (zR HO_441002))) (below_size ZZ295621))
         replace HO_441002 := Aside0.mk (Kd.R_elder' (zR HO_441002) (Kd.R_base ho0) hb)
         replace BK405 := kb BK405 hb
         replace BK406 := kb BK406 hb
         replace BK427 := kb BK427 hb
         replace BK434 := kb BK434 hb
         replace BK440 := kb BK440 hb
         replace BK448 := kb BK448 hb
         replace BK491 := kb BK491 hb
         replace HB := hB hb
         (try clear hb)
         (try clear hb2)
         (try clear hk)
         (try clear hi)
         (try clear ho0)
         obtain ⟨Ao200, co200, eo200⟩ := Kd.R_slice HO475.out
         (first | subst eo200 | (injection eo200 with f1_ f2_ f3_; have f4_ := f1_.symm; have f5_ := f3_.symm; clear f1_ f2_ f3_; subst f4_; subst f5_))
         obtain ⟨Ao201, co201, eo201⟩ := Kd.S_slice HO478.out
         (first | subst eo201 | (injection eo201 with f1_ f2_ f3_; have f4_ := f1_.symm; have f5_ := f3_.symm; clear f1_ f2_ f3_; subst f4_; subst f5_))
         obtain ⟨Ao202, co202, eo202⟩ := Kd.R_slice HO483.out
         (first | subst eo202 | (injection eo202 with f1_ f2_ f3_; have f4_ := f1_.symm; have f5_ := f3_.symm; clear f1_ f2_ f3_; subst f4_; subst f5_))
         refine hK.out _ _ zK (fun hHeld => ?_)
         clear hK K
         refine nd (some 98) ?_
         refine on 4 (some 99) (fun K hK => ?_)
         refine goes_ Tryd.func38 (by kernel_rfl) rfl #[.agg #[.slice Ao200 t473.length co200, .slice Ao201 t476.length co201], .agg #[.int .i64 t479, .string t480, .slice Ao202 t481.length co202]] (by rfl) rfl rfl ZZ19826e ?_
         with_reducible refine (impl_PostEntry.calls kj115 _ _ t473 (fun k_ => ((((((((((((((((True ∧ some k_ ≠ (.slice Ao44 t423.length co44 : Value).ownBlock) ∧ some k_ ≠ (.slice Ao56 t465.length co56 : Value).ownBlock) ∧ some k_ ≠ (.slice Ao66 t467.length co66 : Value).ownBlock) ∧ some k_ ≠ (.slice Ao80 t444.length co80 : Value).ownBlock) ∧ k_ ≠ gb440) ∧ some k_ ≠ (.slice Ao202 t481.length co202 : Value).ownBlock) ∧ some k_ ≠ (.slice Ao42 t420.length co42 : Value).ownBlock) ∧ some k_ ≠ (.slice Ao51 t464.length co51 : Value).ownBlock) ∧ some k_ ≠ (.slice Ao73 t441.length co73 : Value).ownBlock) ∧ some k_ ≠ (.slice Ao200 t473.length co200 : Value).ownBlock) ∧ k_ ≠ gb405) ∧ k_ ≠ gb406) ∧ k_ ≠ gb427) ∧ k_ ≠ gb434) ∧ k_ ≠ gb448) ∧ k_ ≠ gb491)) _ _ t476 t479 t480 (fun k_ => some k_ = (.slice Ao202 t481.length co202 : Value).ownBlock) _ _ t481 t484 t487 t490 _ ?side1 ?side2 ?side3 ?side4 A184.out).mono ?_
         (case side1 => exact rC (Kd.R_reads' HO475.out).2.2)
         (case side2 => exact (Kd.R_reads' HO475.out).2.1)
         (case side3 => exact Kd.S_V (Kd.S_types (Kd.S_types (Kd.S_types (Kd.S_types (Kd.S_types (Kd.S_types (Kd.S_apart' (Kd.S_apart' (Kd.S_apart' (Kd.S_apart' (HO478.out) (Kd.R_typed HO_428000.out) (by decide)) (Kd.R_typed HO_435000.out) (by decide)) (Kd.R_typed HO_449000.out) (by decide)) (Kd.R_typed HO475.out) (by decide)) BK405.out (by decide)) BK406.out (by decide)) BK427.out (by decide)) BK434.out (by decide)) BK448.out (by decide)) BK491.out (by decide)))
         (case side4 => exact Kd.R_V (Kd.R_tight rfl (Kd.R_types (Kd.R_types (Kd.R_types (Kd.R_types (Kd.R_types (Kd.R_types (Kd.R_types (Kd.R_apart' (Kd.R_apart' (Kd.R_apart' (Kd.R_apart' (Kd.R_apart' (Kd.R_apart' (Kd.R_apart' (Kd.R_apart' (HO483.out) (Kd.R_typed HO_428000.out) (by decide)) (Kd.S_typed HO_428001.out) (by decide)) (Kd.R_typed HO_435000.out) (by decide)) (Kd.S_typed HO_435001.out) (by decide)) (Kd.R_typed HO_449000.out) (by decide)) (Kd.S_typed HO_449001.out) (by decide)) (Kd.R_typed HO475.out) (by decide)) (Kd.S_typed HO478.out) (by decide)) BK405.out (by decide)) BK406.out (by decide)) BK427.out (by decide)) BK434.out (by decide)) BK440.out (by decide)) BK448.out (by decide)) BK491.out (by decide))))
         rintro e w203 ⟨v485, v488, rfl, ho0, ho1, hb⟩
         refine ⟨_, rfl, ?_⟩
         have HO486 := Aside0.mk (Kd.R_lower (Kd.R_new' (Kd.R_new' (Kd.R_new' (Kd.R_new' (Kd.R_mono (ok' := fun k_ => True) ho0 (fun _ hk_ => trivial)) (Kd.R_lt (zR HO_428000))) (Kd.R_lt (zR HO_435000))) (Kd.R_lt (zR HO_449000))) (Kd.R_lt (zR HO475))) (below_size ZZ295621))
         replace HO_428000 := Aside0.mk (Kd.R_elder' (zR HO_428000) (Kd.R_base ho0) hb)
         replace HO_435000 := Aside0.mk (Kd.R_elder' (zR HO_435000) (Kd.R_base ho0) hb)
         replace HO_449000 := Aside0.mk (Kd.R_elder' (zR HO_449000) (Kd.R_base ho0) hb)
         replace HO475 := Aside0.mk (Kd.R_elder' (zR HO475) (Kd.R_base ho0) hb)
         have HO489 := Aside0.mk (Kd.S_lower (Kd.S_newB (Kd.S_new' (Kd.S_new' (Kd.S_new' (Kd.S_new' (Kd.S_new' (Kd.S_new' (Kd.S_mono (ok' := fun k_ => True) ho1 (fun _ hk_ => trivial)) (Kd.S_lt (zS HO_428001))) (Kd.S_lt (zS HO_435001))) (Kd.R_lt (zR HO_441002))) (Kd.S_lt (zS HO_449001))) (Kd.S_lt (zS HO478))) (Kd.R_lt (zR HO483))) (zB BK440)) (below_size ZZ295621))
         replace HO_428001 := Aside0.mk (Kd.S_elder' (zS HO_428001) (Kd.S_base ho1) hb)
         replace HO_435001 := Aside0.mk (Kd.S_elder' (zS HO_435001) (Kd.S_base ho1) hb)
         replace HO_441002 := Aside0.mk (Kd.R_below (zR HO_441002) hb)
         replace HO_449001 := Aside0.mk (Kd.S_elder' (zS HO_449001) (Kd.S_base ho1) hb)
         replace HO478 := Aside0.mk (Kd.S_elder' (zS HO478) (Kd.S_base ho1) hb)
         replace HO483 := Aside0.mk (Kd.R_below (zR HO483) hb)
         replace BK405 := kb BK405 hb
         replace BK406 := kb BK406 hb
         replace BK427 := kb BK427 hb
         replace BK434 := kb BK434 hb
         replace BK440 := kb BK440 hb
         replace BK448 := kb BK448 hb
         replace BK491 := kb BK491 hb
         replace HB := hB hb
         (try clear hb)
         (try clear hb2)
         (try clear hk)
         (try clear hi)
         (try clear ho0)
         (try clear ho1)
         refine hK.out _ _ zK (fun hHeld => ?_)
         clear hK K
         refine nd (some 99) ?_
         refine pu 5 94 ?_
         refine pu 6 100 ?_
         refine pu 7 101 ?_
         exact norm_ ZZ539e1d (hCont (.slice Ao200 t473.length co200, .slice Ao201 t476.length co201, .slice Ao202 t481.length co202, v485, v488, gb491) _ ⟨hHeld, ZZ4dc9bc, ZZ80ac6b, ZZaa1c2d, ZZ55b01f, ZZ2a62ac, ZZ7aee77, ZZ8a4ed1, ZZf0a866, ZZ80c899, ZZ6ee40c, ZZaa728f, ZZ99d3e5, (zB BK405), (zB BK406), (zB BK427), (zB BK434), (zB BK440), (zB BK448), (zB BK491), GW491.out, GE491.out, NB405_491.out, NB491_405.out, NB406_491.out, NB491_406.out, NB427_491.out, NB491_427.out, NB434_491.out, NB491_434.out, NB440_491.out, NB491_440.out, NB448_491.out, NB491_448.out, ZZ295621⟩)
        rintro ⟨v474, v477, v482, v485, v488, gb491⟩ w204 ⟨hS_, h0_, h1_, h2_, h3_, h4_, h5_, h6_, h7_, h8_, h9_, h10_, h11_, h12_, h13_, h14_, h15_, h16_, h17_, h18_, h19_, h20_, h21_, h22_, h23_, h24_, h25_, h26_, h27_, h28_, h29_, h30_, h31_, h32_, h33_⟩
        have n0_ : Aside0 (Kd.R k48 48 w204 w.heap.size (fun k_ => some k_ ≠ (v485 : Value).ownBlock ∧ some k_ ≠ (.slice Ao42 t420.length co42 : Value).ownBlock ∧ some k_ ≠ (.slice Ao51 t464.length co51 : Value).ownBlock ∧ some k_ ≠ (.slice Ao73 t441.length co73 : Value).ownBlock) v474 t473) := ⟨h0_⟩
        have n1_ : Aside0 (Kd.S k63 63 w204 w.heap.size (fun k_ => some k_ ≠ (v482 : Value).ownBlock ∧ some k_ ≠ (v488 : Value).ownBlock ∧ some k_ ≠ (.slice Ao44 t423.length co44 : Value).ownBlock ∧ some k_ ≠ (.slice Ao56 t465.length co56 : Value).ownBlock ∧ some k_ ≠ (.slice Ao66 t467.length co66 : Value).ownBlock ∧ some k_ ≠ (.slice Ao80 t444.length co80 : Value).ownBlock ∧ k_ ≠ gb440) v477 t476) := ⟨h1_⟩
        have n2_ : Aside0 (Kd.R k70 70 w204 w.heap.size (fun k_ => some k_ ≠ (.slice Ao66 t467.length co66 : Value).ownBlock) v482 t481) := ⟨h2_⟩
        have n3_ : Aside0 (Kd.R k48 48 w204 w.heap.size (fun k_ => some k_ ≠ (v474 : Value).ownBlock ∧ some k_ ≠ (.slice Ao42 t420.length co42 : Value).ownBlock ∧ some k_ ≠ (.slice Ao51 t464.length co51 : Value).ownBlock ∧ some k_ ≠ (.slice Ao73 t441.length co73 : Value).ownBlock) v485 t484) := ⟨h3_⟩
        have n4_ : Aside0 (Kd.S k63 63 w204 w.heap.size (fun k_ => some k_ ≠ (v477 : Value).ownBlock ∧ some k_ ≠ (v482 : Value).ownBlock ∧ some k_ ≠ (.slice Ao44 t423.length co44 : Value).ownBlock ∧ some k_ ≠ (.slice Ao56 t465.length co56 : Value).ownBlock ∧ some k_ ≠ (.slice Ao66 t467.length co66 : Value).ownBlock ∧ some k_ ≠ (.slice Ao80 t444.length co80 : Value).ownBlock ∧ k_ ≠ gb440) v488 t487) := ⟨h4_⟩
        have n5_ : Aside0 (Kd.R k48 48 w204 w.heap.size (fun k_ => some k_ ≠ (v474 : Value).ownBlock ∧ some k_ ≠ (v485 : Value).ownBlock ∧ some k_ ≠ (.slice Ao51 t464.length co51 : Value).ownBlock ∧ some k_ ≠ (.slice Ao73 t441.length co73 : Value).ownBlock) (.slice Ao42 t420.length co42) t420) := ⟨h5_⟩
        have n6_ : Aside0 (Kd.S k63 63 w204 w.heap.size (fun k_ => some k_ ≠ (v477 : Value).ownBlock ∧ some k_ ≠ (v482 : Value).ownBlock ∧ some k_ ≠ (v488 : Value).ownBlock ∧ some k_ ≠ (.slice Ao56 t465.length co56 : Value).ownBlock ∧ some k_ ≠ (.slice Ao66 t467.length co66 : Value).ownBlock ∧ some k_ ≠ (.slice Ao80 t444.length co80 : Value).ownBlock ∧ k_ ≠ gb440 ∧ k_ < ga49 ∧ k_ < ga71 ∧ k_ < ga133 ∧ k_ < ga193) (.slice Ao44 t423.length co44) t423) := ⟨h6_⟩
        have n7_ : Aside0 (Kd.R k48 48 w204 w.heap.size (fun k_ => some k_ ≠ (v474 : Value).ownBlock ∧ some k_ ≠ (v485 : Value).ownBlock ∧ some k_ ≠ (.slice Ao42 t420.length co42 : Value).ownBlock ∧ some k_ ≠ (.slice Ao73 t441.length co73 : Value).ownBlock) (.slice Ao51 t464.length co51) t464) := ⟨h7_⟩
        have n8_ : Aside0 (Kd.S k63 63 w204 w.heap.size (fun k_ => some k_ ≠ (v477 : Value).ownBlock ∧ some k_ ≠ (v482 : Value).ownBlock ∧ some k_ ≠ (v488 : Value).ownBlock ∧ some k_ ≠ (.slice Ao44 t423.length co44 : Value).ownBlock ∧ some k_ ≠ (.slice Ao66 t467.length co66 : Value).ownBlock ∧ some k_ ≠ (.slice Ao80 t444.length co80 : Value).ownBlock ∧ k_ ≠ gb440 ∧ (k_ < ga71 ∨ ga133 ≤ k_) ∧ k_ < ga193) (.slice Ao56 t465.length co56) t465) := ⟨h8_⟩
        have n9_ : Aside0 (Kd.R k70 70 w204 w.heap.size (fun k_ => some k_ ≠ (v482 : Value).ownBlock) (.slice Ao66 t467.length co66) t467) := ⟨h9_⟩
        have n10_ : Aside0 (Kd.R k48 48 w204 w.heap.size (fun k_ => some k_ ≠ (v474 : Value).ownBlock ∧ some k_ ≠ (v485 : Value).ownBlock ∧ some k_ ≠ (.slice Ao42 t420.length co42 : Value).ownBlock ∧ some k_ ≠ (.slice Ao51 t464.length co51 : Value).ownBlock) (.slice Ao73 t441.length co73) t470) := ⟨h10_⟩
        have n11_ : Aside0 (Kd.S k63 63 w204 w.heap.size (fun k_ => some k_ ≠ (v477 : Value).ownBlock ∧ some k_ ≠ (v482 : Value).ownBlock ∧ some k_ ≠ (v488 : Value).ownBlock ∧ some k_ ≠ (.slice Ao44 t423.length co44 : Value).ownBlock ∧ some k_ ≠ (.slice Ao56 t465.length co56 : Value).ownBlock ∧ some k_ ≠ (.slice Ao66 t467.length co66 : Value).ownBlock ∧ k_ ≠ gb440 ∧ (k_ < ga133 ∨ ga193 ≤ k_)) (.slice Ao80 t444.length co80) t471) := ⟨h11_⟩
        have n12_ : Aside0 (w204.heap[gb405]? = some (.cells #[.slice A0_0 l0_0.length c0_0, .slice A0_1 l0_1.length c0_1] 25 (0, 0))) := ⟨h12_⟩
        have n13_ : Aside0 (w204.heap[gb406]? = some (.cells #[.int .i64 a1_0, .string a1_1, .slice A1_2 l1_2.length c1_2] 58 (0, 0))) := ⟨h13_⟩
        have n14_ : Aside0 (w204.heap[gb427]? = some (.cells #[.slice Ao42 t420.length co42, .slice Ao44 t423.length co44] 31 (0, 0))) := ⟨h14_⟩
        have n15_ : Aside0 (w204.heap[gb434]? = some (.cells #[.slice Ao51 t464.length co51, .slice Ao56 t465.length co56] 31 (0, 0))) := ⟨h15_⟩
        have n16_ : Aside0 (w204.heap[gb440]? = some (.cells #[.int .i64 t435, .string t436, .slice Ao66 t467.length co66] 63 (0, 0))) := ⟨h16_⟩
        have n17_ : Aside0 (w204.heap[gb448]? = some (.cells #[.slice Ao73 t441.length co73, .slice Ao80 t444.length co80] 31 (0, 0))) := ⟨h17_⟩
        have n18_ : Aside0 (w204.heap[gb491]? = some (.cells #[.slice none 0 0, .slice none 0 0] 31 (0, 0))) := ⟨h18_⟩
        have n19_ : Aside0 (w.heap.size ≤ gb491) := ⟨h19_⟩
        have n20_ : Aside0 (w.heap.size ≤ gb491) := ⟨h20_⟩
        have n21_ : Aside0 (gb405 ≠ gb491) := ⟨h21_⟩
        have n22_ : Aside0 (gb491 ≠ gb405) := ⟨h22_⟩
        have n23_ : Aside0 (gb406 ≠ gb491) := ⟨h23_⟩
        have n24_ : Aside0 (gb491 ≠ gb406) := ⟨h24_⟩
        have n25_ : Aside0 (gb427 ≠ gb491) := ⟨h25_⟩
        have n26_ : Aside0 (gb491 ≠ gb427) := ⟨h26_⟩
        have n27_ : Aside0 (gb434 ≠ gb491) := ⟨h27_⟩
        have n28_ : Aside0 (gb491 ≠ gb434) := ⟨h28_⟩
        have n29_ : Aside0 (gb440 ≠ gb491) := ⟨h29_⟩
        have n30_ : Aside0 (gb491 ≠ gb440) := ⟨h30_⟩
        have n31_ : Aside0 (gb448 ≠ gb491) := ⟨h31_⟩
        have n32_ : Aside0 (gb491 ≠ gb448) := ⟨h32_⟩
        have n33_ : Aside0 (Below w.heap.size w w204) := ⟨h33_⟩
        clear HO_428000
        clear HO_428001
        clear HO_435000
        clear HO_435001
        clear HO_441002
        clear HO_449000
        clear HO_449001
        clear BK405
        clear BK406
        clear BK427
        clear BK434
        clear BK440
        clear BK448
        clear HB
        clear h0_ h1_ h2_ h3_ h4_ h5_ h6_ h7_ h8_ h9_ h10_ h11_ h12_ h13_ h14_ h15_ h16_ h17_ h18_ h19_ h20_ h21_ h22_ h23_ h24_ h25_ h26_ h27_ h28_ h29_ h30_ h31_ h32_ h33_
        have HO475 := n0_
        have HO478 := n1_
        have HO483 := n2_
        have HO486 := n3_
        have HO489 := n4_
        have HO_428000 := n5_
        have HO_428001 := n6_
        have HO_435000 := n7_
        have HO_435001 := n8_
        have HO_441002 := n9_
        have HO_449000 := n10_
        have HO_449001 := n11_
        have BK405 := n12_
        have BK406 := n13_
        have BK427 := n14_
        have BK434 := n15_
        have BK440 := n16_
        have BK448 := n17_
        have BK491 := n18_
        have GW491 := n19_
        have GE491 := n20_
        have NB405_491 := n21_
        have NB491_405 := n22_
        have NB406_491 := n23_
        have NB491_406 := n24_
        have NB427_491 := n25_
        have NB491_427 := n26_
        have NB434_491 := n27_
        have NB491_434 := n28_
        have NB440_491 := n29_
        have NB491_440 := n30_
        have NB448_491 := n31_
        have NB491_448 := n32_
        have HB := n33_
        clear n0_ n1_ n2_ n3_ n4_ n5_ n6_ n7_ n8_ n9_ n10_ n11_ n12_ n13_ n14_ n15_ n16_ n17_ n18_ n19_ n20_ n21_ n22_ n23_ n24_ n25_ n26_ n27_ n28_ n29_ n30_ n31_ n32_ n33_
        have hHeld : w204.cell? ⟨gb405, 0, none⟩ = some (.slice A0_0 l0_0.length c0_0) ∧ w204.cell? ⟨gb405, 1, none⟩ = some (.slice A0_1 l0_1.length c0_1) ∧ w204.cell? ⟨gb406, 0, none⟩ = some (.int .i64 a1_0) ∧ w204.cell? ⟨gb406, 1, none⟩ = some (.string a1_1) ∧ w204.cell? ⟨gb406, 2, none⟩ = some (.slice A1_2 l1_2.length c1_2) := hS_
        obtain ⟨Ao205, co205, eo205⟩ := Kd.R_slice HO486.out
        (first | subst eo205 | (injection eo205 with f1_ f2_ f3_; have f4_ := f1_.symm; have f5_ := f3_.symm; clear f1_ f2_ f3_; subst f4_; subst f5_))
        obtain ⟨Ao207, co207, eo207⟩ := Kd.S_slice HO489.out
        (first | subst eo207 | (injection eo207 with f1_ f2_ f3_; have f4_ := f1_.symm; have f5_ := f3_.symm; clear f1_ f2_ f3_; subst f4_; subst f5_))
        refine norm_ (a' := ?_) ?_ ?_
        rotate_left
        ·simp only [putAll, Act.put, List.setIfInBounds_toArray, List.set_cons_zero, List.set_cons_succ]
         rfl
        refine on 9 none (fun K hK => ?_)
        have hs206 := cz BK491 0
        have hfs206 := blk_frozen BK491.out 0
        have hns206_0 := NB405_491.out
        have hns206_1 := NB406_491.out
        have hns206_2 := NB427_491.out
        have hns206_3 := NB434_491.out
        have hns206_4 := NB440_491.out
        have hns206_5 := NB448_491.out
        have hms206_0 := NB491_405.out
        have hms206_1 := NB491_406.out
        have hms206_2 := NB491_427.out
        have hms206_3 := NB491_434.out
        have hms206_4 := NB491_440.out
        have hms206_5 := NB491_448.out
        have hs208 := cz BK491 1
        have hfs208 := blk_frozen BK491.out 1
        have hns208_0 := NB405_491.out
        have hns208_1 := NB406_491.out
        have hns208_2 := NB427_491.out
        have hns208_3 := NB434_491.out
        have hns208_4 := NB440_491.out
        have hns208_5 := NB448_491.out
        have hms208_0 := NB491_405.out
        have hms208_1 := NB491_406.out
        have hms208_2 := NB491_427.out
        have hms208_3 := NB491_434.out
        have hms208_4 := NB491_440.out
        have hms208_5 := NB491_448.out
        refine skip_ (w1 := ?_) (by rfl) rfl ?_ ?_
        rotate_left
        ·go_simp
         rfl
        refine hK.out _ _ ⟨((cell_far (p := ⟨gb491, _, none⟩) NB405_491.out _).trans (((cell_far (p := ⟨gb491, _, none⟩) NB405_491.out _).trans (hHeld.1)))), ((cell_far (p := ⟨gb491, _, none⟩) NB405_491.out _).trans (((cell_far (p := ⟨gb491, _, none⟩) NB405_491.out _).trans (hHeld.2.1)))), ((cell_far (p := ⟨gb491, _, none⟩) NB406_491.out _).trans (((cell_far (p := ⟨gb491, _, none⟩) NB406_491.out _).trans (hHeld.2.2.1)))), ((cell_far (p := ⟨gb491, _, none⟩) NB406_491.out _).trans (((cell_far (p := ⟨gb491, _, none⟩) NB406_491.out _).trans (hHeld.2.2.2.1)))), ((cell_far (p := ⟨gb491, _, none⟩) NB406_491.out _).trans (((cell_far (p := ⟨gb491, _, none⟩) NB406_491.out _).trans (hHeld.2.2.2.2))))⟩ (fun hHeld => ?_)
        clear hK K
        refine pu 10 16 ?_
        refine done_ (done_of HT_.out (by kernel_rfl)) ?_
        go_upto_region 32 with (fail)
        go_cut [110] (fun v110 wc => ∃ (kq : Nat) (x110_184 : Bool), v110 = .bool x110_184 ∧ Aside0 (laws_FnExactPostEntry.j2 kq t469 x110_184 t470 t471 = some r) ∧ Aside0 (kq ≤ kj115) ∧ Aside0 (Kd.R k48 48 wc w.heap.size (fun k_ => some k_ ≠ ((.slice Ao51 t464.length co51) : Value).ownBlock ∧ some k_ ≠ ((.slice Ao73 t441.length co73) : Value).ownBlock ∧ some k_ ≠ ((.slice Ao205 t484.length co205) : Value).ownBlock) (.slice Ao42 t420.length co42) t420) ∧ Aside0 (Kd.S k63 63 wc w.heap.size (fun k_ => some k_ ≠ ((.slice Ao56 t465.length co56) : Value).ownBlock ∧ some k_ ≠ ((.slice Ao66 t467.length co66) : Value).ownBlock ∧ some k_ ≠ ((.slice Ao80 t444.length co80) : Value).ownBlock ∧ some k_ ≠ ((.slice Ao207 t487.length co207) : Value).ownBlock ∧ k_ ≠ gb440) (.slice Ao44 t423.length co44) t423) ∧ Aside0 (Kd.R k48 48 wc w.heap.size (fun k_ => some k_ ≠ ((.slice Ao42 t420.length co42) : Value).ownBlock ∧ some k_ ≠ ((.slice Ao73 t441.length co73) : Value).ownBlock ∧ some k_ ≠ ((.slice Ao205 t484.length co205) : Value).ownBlock) (.slice Ao51 t464.length co51) t464) ∧ Aside0 (Kd.S k63 63 wc w.heap.size (fun k_ => some k_ ≠ ((.slice Ao44 t423.length co44) : Value).ownBlock ∧ some k_ ≠ ((.slice Ao66 t467.length co66) : Value).ownBlock ∧ some k_ ≠ ((.slice Ao80 t444.length co80) : Value).ownBlock ∧ some k_ ≠ ((.slice Ao207 t487.length co207) : Value).ownBlock ∧ k_ ≠ gb440) (.slice Ao56 t465.length co56) t465) ∧ Aside0 (Kd.R k70 70 wc w.heap.size (fun _ => True) (.slice Ao66 t467.length co66) t467) ∧ Aside0 (Kd.R k48 48 wc w.heap.size (fun k_ => some k_ ≠ ((.slice Ao42 t420.length co42) : Value).ownBlock ∧ some k_ ≠ ((.slice Ao51 t464.length co51) : Value).ownBlock ∧ some k_ ≠ ((.slice Ao205 t484.length co205) : Value).ownBlock) (.slice Ao73 t441.length co73) t470) ∧ Aside0 (Kd.S k63 63 wc w.heap.size (fun k_ => some k_ ≠ ((.slice Ao44 t423.length co44) : Value).ownBlock ∧ some k_ ≠ ((.slice Ao56 t465.length co56) : Value).ownBlock ∧ some k_ ≠ ((.slice Ao66 t467.length co66) : Value).ownBlock ∧ some k_ ≠ ((.slice Ao207 t487.length co207) : Value).ownBlock ∧ k_ ≠ gb440) (.slice Ao80 t444.length co80) t471) ∧ Aside0 (Kd.R k48 48 wc w.heap.size (fun k_ => some k_ ≠ ((.slice Ao42 t420.length co42) : Value).ownBlock ∧ some k_ ≠ ((.slice Ao51 t464.length co51) : Value).ownBlock ∧ some k_ ≠ ((.slice Ao73 t441.length co73) : Value).ownBlock) (.slice Ao205 t484.length co205) t484) ∧ Aside0 (Kd.S k63 63 wc w.heap.size (fun k_ => some k_ ≠ ((.slice Ao44 t423.length co44) : Value).ownBlock ∧ some k_ ≠ ((.slice Ao56 t465.length co56) : Value).ownBlock ∧ some k_ ≠ ((.slice Ao66 t467.length co66) : Value).ownBlock ∧ some k_ ≠ ((.slice Ao80 t444.length co80) : Value).ownBlock ∧ k_ ≠ gb440) (.slice Ao207 t487.length co207) t487) ∧ Aside0 (wc.heap[gb405]? = some (.cells #[(.slice A0_0 l0_0.length c0_0), (.slice A0_1 l0_1.length c0_1)] 25 (0, 0))) ∧ Aside0 (wc.heap[gb406]? = some (.cells #[.int .i64 a1_0, .string a1_1, (.slice A1_2 l1_2.length c1_2)] 58 (0, 0))) ∧ Aside0 (wc.heap[gb427]? = some (.cells #[(.slice Ao42 t420.length co42), (.slice Ao44 t423.length co44)] 31 (0, 0))) ∧ Aside0 (wc.heap[gb434]? = some (.cells #[(.slice Ao51 t464.length co51), (.slice Ao56 t465.length co56)] 31 (0, 0))) ∧ Aside0 (wc.heap[gb440]? = some (.cells #[.int .i64 t435, .string t436, (.slice Ao66 t467.length co66)] 63 (0, 0))) ∧ Aside0 (wc.heap[gb448]? = some (.cells #[(.slice Ao73 t441.length co73), (.slice Ao80 t444.length co80)] 31 (0, 0))) ∧ Aside0 (wc.heap[gb491]? = some (.cells #[(.slice Ao205 t484.length co205), (.slice Ao207 t487.length co207)] 31 (0, 0))) ∧ Aside0 (Below w.heap.size w wc))
        case first =>
         have H := HC185.out
         clear HC185
         obtain ⟨t492, A209, H⟩ := bdY H
         have hnb211 := NB491_405.out
         have hnc211 := NB405_491.out
         have hnb212 := NB491_406.out
         have hnc212 := NB406_491.out
         have hnb213 := NB491_427.out
         have hnc213 := NB427_491.out
         have hnb214 := NB491_434.out
         have hnc214 := NB434_491.out
         have hnb215 := NB491_440.out
         have hnc215 := NB440_491.out
         have hnb216 := NB491_448.out
         have hnc216 := NB448_491.out
         obtain ⟨hcz217_0, hcz217_1, hfz217_0, hfz217_1⟩ := z2 BK491
         have hnb218 := NB427_405.out
         have hnc218 := NB405_427.out
         have hnb219 := NB427_406.out
         have hnc219 := NB406_427.out
         have hnb220 := NB427_434.out
         have hnc220 := NB434_427.out
         have hnb221 := NB427_440.out
         have hnc221 := NB440_427.out
         have hnb222 := NB427_448.out
         have hnc222 := NB448_427.out
         obtain ⟨hcz223_0, hcz223_1, hfz223_0, hfz223_1⟩ := z2 BK427
         by_cases c210 : t492 = true
         ·subst c210
          replace H := ifT H
          replace H := Aside0.mk H
          go_wp2_with (first | (refine gc 104 Tryd.func18 #[.agg #[.slice Ao205 t484.length co205, .slice Ao207 t487.length co207], .agg #[.slice Ao42 t420.length co42, .slice Ao44 t423.length co44]] ?_; (with_reducible refine (laws_eqLedger.calls kj115 _ _ t484 _ _ t487 _ _ t420 _ _ t423 true _ ?side1 ?side2 ?side3 ?side4 ?side5 ?side6 ?side7 ?side8 A209.out).mono ?_); (case side1 => exact (Kd.R_reads' (e := 48) (base := w.heap.size) (n := t484.length) (c := co205) ZZ6f3f42).2.2); (case side2 => exact (Kd.R_reads' HO486.out).2.1); (case side3 => exact (Kd.S_reads' (e := 63) (base := w.heap.size) (n := t487.length) (c := co207) ZZ0e04fd).2.2); (case side4 => exact (Kd.S_reads' HO489.out).2.1); (case side5 => exact (Kd.R_reads' (e := 48) (base := w.heap.size) (n := t420.length) (c := co42) ZZ11ed0c).2.2); (case side6 => exact (Kd.R_reads' HO_428000.out).2.1); (case side7 => exact (Kd.S_reads' (e := 63) (base := w.heap.size) (n := t423.length) (c := co44) ZZ232f50).2.2); (case side8 => exact (Kd.S_reads' HO_428001.out).2.1); rintro e w224 ⟨rfl, hb⟩; refine ⟨_, rfl, ?_⟩; replace HO_428000 := Aside0.mk (Kd.R_below ZZ11ed0c hb); replace HO_428001 := Aside0.mk (Kd.S_below ZZ232f50 hb); replace HO_435000 := Aside0.mk (Kd.R_below (by refine bR ?_; exact (Kd.R_mono (Kd.R_far (p := ⟨gb491, 1, none⟩) (Kd.R_far (p := ⟨gb491, 0, none⟩) (Kd.R_types HO_435000.out BK491.out (by decide)) (fun _ hk => hk.2) (.slice Ao205 t484.length co205)) (fun _ hk => hk.2) (.slice Ao207 t487.length co207)) (fun _ h_ => h_.1))) hb); replace HO_435001 := Aside0.mk (Kd.S_below (by refine bS ?_; exact (Kd.S_mono (Kd.S_far (p := ⟨gb491, 1, none⟩) (Kd.S_far (p := ⟨gb491, 0, none⟩) (Kd.S_types HO_435001.out BK491.out (by decide)) (fun _ hk => hk.2) (.slice Ao205 t484.length co205)) (fun _ hk => hk.2) (.slice Ao207 t487.length co207)) (fun _ h_ => h_.1))) hb); replace HO_441002 := Aside0.mk (Kd.R_below (by refine bR ?_; exact (Kd.R_mono (Kd.R_far (p := ⟨gb491, 1, none⟩) (Kd.R_far (p := ⟨gb491, 0, none⟩) (Kd.R_types HO_441002.out BK491.out (by decide)) (fun _ hk => hk.2) (.slice Ao205 t484.length co205)) (fun _ hk => hk.2) (.slice Ao207 t487.length co207)) (fun _ h_ => h_.1))) hb); replace HO_449000 := Aside0.mk (Kd.R_below (by refine bR ?_; exact (Kd.R_mono (Kd.R_far (p := ⟨gb491, 1, none⟩) (Kd.R_far (p := ⟨gb491, 0, none⟩) (Kd.R_types HO_449000.out BK491.out (by decide)) (fun _ hk => hk.2) (.slice Ao205 t484.length co205)) (fun _ hk => hk.2) (.slice Ao207 t487.length co207)) (fun _ h_ => h_.1))) hb); replace HO_449001 := Aside0.mk (Kd.S_below (by refine bS ?_; exact (Kd.S_mono (Kd.S_far (p := ⟨gb491, 1, none⟩) (Kd.S_far (p := ⟨gb491, 0, none⟩) (Kd.S_types HO_449001.out BK491.out (by decide)) (fun _ hk => hk.2) (.slice Ao205 t484.length co205)) (fun _ hk => hk.2) (.slice Ao207 t487.length co207)) (fun _ h_ => h_.1))) hb); replace HO475 := Aside0.mk (Kd.R_below (by refine bR ?_; exact (Kd.R_mono (Kd.R_far (p := ⟨gb491, 1, none⟩) (Kd.R_far (p := ⟨gb491, 0, none⟩) (Kd.R_types HO475.out BK491.out (by decide)) (fun _ hk => hk.2) (.slice Ao205 t484.length co205)) (fun _ hk => hk.2) (.slice Ao207 t487.length co207)) (fun _ h_ => h_.1))) hb); replace HO478 := Aside0.mk (Kd.S_below (by refine bS ?_; exact (Kd.S_mono (Kd.S_far (p := ⟨gb491, 1, none⟩) (Kd.S_far (p := ⟨gb491, 0, none⟩) (Kd.S_types HO478.out BK491.out (by decide)) (fun _ hk => hk.2) (.slice Ao205 t484.length co205)) (fun _ hk => hk.2) (.slice Ao207 t487.length co207)) (fun _ h_ => h_.1))) hb); replace HO483 := Aside0.mk (Kd.R_below (by refine bR ?_; exact (Kd.R_mono (Kd.R_far (p := ⟨gb491, 1, none⟩) (Kd.R_far (p := ⟨gb491, 0, none⟩) (Kd.R_types HO483.out BK491.out (by decide)) (fun _ hk => hk.2) (.slice Ao205 t484.length co205)) (fun _ hk => hk.2) (.slice Ao207 t487.length co207)) (fun _ h_ => h_.1))) hb); replace HO486 := Aside0.mk (Kd.R_below ZZ6f3f42 hb); replace HO489 := Aside0.mk (Kd.S_below ZZ0e04fd hb); replace BK405 := Aside0.mk (blk_below (g := gb405) (o := .cells #[.slice A0_0 l0_0.length c0_0, .slice A0_1 l0_1.length c0_1] 25 (0, 0)) (by refine bd ?_; refine blk_far ?_ NB405_491.out _; refine bd ?_; refine blk_far ?_ NB405_491.out _; refine bd ?_; exact BK405.out) hb); replace BK406 := Aside0.mk (blk_below (g := gb406) (o := .cells #[.int .i64 a1_0, .string a1_1, .slice A1_2 l1_2.length c1_2] 58 (0, 0)) (by refine bd ?_; refine blk_far ?_ NB406_491.out _; refine bd ?_; refine blk_far ?_ NB406_491.out _; refine bd ?_; exact BK406.out) hb); replace BK427 := Aside0.mk (blk_below (g := gb427) (o := .cells #[.slice Ao42 t420.length co42, .slice Ao44 t423.length co44] 31 (0, 0)) (by refine bd ?_; refine blk_far ?_ NB427_491.out _; refine bd ?_; refine blk_far ?_ NB427_491.out _; refine bd ?_; exact BK427.out) hb); replace BK434 := Aside0.mk (blk_below (g := gb434) (o := .cells #[.slice Ao51 t464.length co51, .slice Ao56 t465.length co56] 31 (0, 0)) (by refine bd ?_; refine blk_far ?_ NB434_491.out _; refine bd ?_; refine blk_far ?_ NB434_491.out _; refine bd ?_; exact BK434.out) hb); replace BK440 := Aside0.mk (blk_below (g := gb440) (o := .cells #[.int .i64 t435, .string t436, .slice Ao66 t467.length co66] 63 (0, 0)) (by refine bd ?_; refine blk_far ?_ NB440_491.out _; refine bd ?_; refine blk_far ?_ NB440_491.out _; refine bd ?_; exact BK440.out) hb); replace BK448 := Aside0.mk (blk_below (g := gb448) (o := .cells #[.slice Ao73 t441.length co73, .slice Ao80 t444.length co80] 31 (0, 0)) (by refine bd ?_; refine blk_far ?_ NB448_491.out _; refine bd ?_; refine blk_far ?_ NB448_491.out _; refine bd ?_; exact BK448.out) hb); replace BK491 := Aside0.mk (blk_below (g := gb491) (o := .cells #[.slice Ao205 t484.length co205, .slice Ao207 t487.length co207] 31 (0, 0)) (by refine bd ?_; refine blk_put (cs := #[.slice Ao205 t484.length co205, .slice none 0 0]) ?_ 1 _ rfl; refine bd ?_; refine blk_put (cs := #[.slice none 0 0, .slice none 0 0]) ?_ 0 _ rfl; refine bd ?_; exact BK491.out) hb); replace HB := hB hb; (try clear hb); (try clear hb2); (try clear hk); (try clear hi)))
          go_meet
          case rel => exact ⟨_, ((t490 != t426)), ZZ0ab324, H, kle, ⟨(by (try simp only [hl435000_115]); (try simp only [hl435001_115]); (try simp only [hl441002_115]); refine bR ?_; exact Kd.R_mono HO_428000.out (fun _ hk => ⟨hk.2.2.1, ⟨hk.2.2.2, hk.2.1⟩⟩))⟩, ⟨(by (try simp only [hl435000_115]); (try simp only [hl435001_115]); (try simp only [hl441002_115]); refine bS ?_; exact Kd.S_mono HO_428001.out (fun _ hk => ⟨hk.2.2.2.1, ⟨hk.2.2.2.2.1, ⟨hk.2.2.2.2.2.1, ⟨hk.2.2.1, zA hk.2.2.2.2.2.2⟩⟩⟩⟩))⟩, ⟨(by (try simp only [hl435000_115]); (try simp only [hl435001_115]); (try simp only [hl441002_115]); refine bR ?_; exact Kd.R_mono HO_435000.out (fun _ hk => ⟨hk.2.2.1, ⟨hk.2.2.2, hk.2.1⟩⟩))⟩, ⟨(by (try simp only [hl435000_115]); (try simp only [hl435001_115]); (try simp only [hl441002_115]); refine bS ?_; exact Kd.S_mono HO_435001.out (fun _ hk => ⟨hk.2.2.2.1, ⟨hk.2.2.2.2.1, ⟨hk.2.2.2.2.2.1, ⟨hk.2.2.1, zA hk.2.2.2.2.2.2⟩⟩⟩⟩))⟩, ⟨(by (try simp only [hl435000_115]); (try simp only [hl435001_115]); (try simp only [hl441002_115]); refine bR ?_; exact Kd.R_mono HO_441002.out (fun _ hk => trivial))⟩, ⟨(by (try simp only [hl435000_115]); (try simp only [hl435001_115]); (try simp only [hl441002_115]); refine bR ?_; exact Kd.R_mono HO_449000.out (fun _ hk => ⟨hk.2.2.1, ⟨hk.2.2.2, hk.2.1⟩⟩))⟩, ⟨(by (try simp only [hl435000_115]); (try simp only [hl435001_115]); (try simp only [hl441002_115]); refine bS ?_; exact Kd.S_mono HO_449001.out (fun _ hk => ⟨hk.2.2.2.1, ⟨hk.2.2.2.2.1, ⟨hk.2.2.2.2.2.1, ⟨hk.2.2.1, zA hk.2.2.2.2.2.2⟩⟩⟩⟩))⟩, ⟨(by (try simp only [hl435000_115]); (try simp only [hl435001_115]); (try simp only [hl441002_115]); refine bR ?_; exact Kd.R_mono HO486.out (fun _ hk => ⟨hk.2.1, ⟨hk.2.2.1, zA hk.2.2.2⟩⟩))⟩, ⟨(by (try simp only [hl435000_115]); (try simp only [hl435001_115]); (try simp only [hl441002_115]); refine bS ?_; exact Kd.S_mono HO489.out (fun _ hk => ⟨hk.2.2.1, ⟨hk.2.2.2.1, ⟨hk.2.2.2.2.1, ⟨hk.2.2.2.2.2.1, zA hk.2.2.2.2.2.2⟩⟩⟩⟩))⟩, ⟨(by (try simp only [hl435000_115]); (try simp only [hl435001_115]); (try simp only [hl441002_115]); refine bd ?_; exact BK405.out)⟩, ⟨(by (try simp only [hl435000_115]); (try simp only [hl435001_115]); (try simp only [hl441002_115]); refine bd ?_; exact BK406.out)⟩, ⟨(by (try simp only [hl435000_115]); (try simp only [hl435001_115]); (try simp only [hl441002_115]); refine bd ?_; exact BK427.out)⟩, ⟨(by (try simp only [hl435000_115]); (try simp only [hl435001_115]); (try simp only [hl441002_115]); refine bd ?_; exact BK434.out)⟩, ⟨(by (try simp only [hl435000_115]); (try simp only [hl435001_115]); (try simp only [hl441002_115]); refine bd ?_; exact BK440.out)⟩, ⟨(by (try simp only [hl435000_115]); (try simp only [hl435001_115]); (try simp only [hl441002_115]); refine bd ?_; exact BK448.out)⟩, ⟨(by (try simp only [hl435000_115]); (try simp only [hl435001_115]); (try simp only [hl441002_115]); refine bd ?_; exact BK491.out)⟩, ⟨ZZ295621⟩⟩
         replace c210 := Bool.eq_false_iff.mpr c210
         subst c210
         replace H := ifF H
         replace H := Aside0.mk H
         go_wp2_with (first | (refine gc 104 Tryd.func18 #[.agg #[.slice Ao205 t484.length co205, .slice Ao207 t487.length co207], .agg #[.slice Ao42 t420.length co42, .slice Ao44 t423.length co44]] ?_; (with_reducible refine (laws_eqLedger.calls kj115 _ _ t484 _ _ t487 _ _ t420 _ _ t423 false _ ?side1 ?side2 ?side3 ?side4 ?side5 ?side6 ?side7 ?side8 A209.out).mono ?_); (case side1 => exact (Kd.R_reads' (e := 48) (base := w.heap.size) (n := t484.length) (c := co205) ZZ6f3f42).2.2); (case side2 => exact (Kd.R_reads' HO486.out).2.1); (case side3 => exact (Kd.S_reads' (e := 63) (base := w.heap.size) (n := t487.length) (c := co207) ZZ0e04fd).2.2); (case side4 => exact (Kd.S_reads' HO489.out).2.1); (case side5 => exact (Kd.R_reads' (e := 48) (base := w.heap.size) (n := t420.length) (c := co42) ZZ11ed0c).2.2); (case side6 => exact (Kd.R_reads' HO_428000.out).2.1); (case side7 => exact (Kd.S_reads' (e := 63) (base := w.heap.size) (n := t423.length) (c := co44) ZZ232f50).2.2); (case side8 => exact (Kd.S_reads' HO_428001.out).2.1); rintro e w238 ⟨rfl, hb⟩; refine ⟨_, rfl, ?_⟩; replace HO_428000 := Aside0.mk (Kd.R_below ZZ11ed0c hb); replace HO_428001 := Aside0.mk (Kd.S_below ZZ232f50 hb); replace HO_435000 := Aside0.mk (Kd.R_below (by refine bR ?_; exact (Kd.R_mono (Kd.R_far (p := ⟨gb491, 1, none⟩) (Kd.R_far (p := ⟨gb491, 0, none⟩) (Kd.R_types HO_435000.out BK491.out (by decide)) (fun _ hk => hk.2) (.slice Ao205 t484.length co205)) (fun _ hk => hk.2) (.slice Ao207 t487.length co207)) (fun _ h_ => h_.1))) hb); replace HO_435001 := Aside0.mk (Kd.S_below (by refine bS ?_; exact (Kd.S_mono (Kd.S_far (p := ⟨gb491, 1, none⟩) (Kd.S_far (p := ⟨gb491, 0, none⟩) (Kd.S_types HO_435001.out BK491.out (by decide)) (fun _ hk => hk.2) (.slice Ao205 t484.length co205)) (fun _ hk => hk.2) (.slice Ao207 t487.length co207)) (fun _ h_ => h_.1))) hb); replace HO_441002 := Aside0.mk (Kd.R_below (by refine bR ?_; exact (Kd.R_mono (Kd.R_far (p := ⟨gb491, 1, none⟩) (Kd.R_far (p := ⟨gb491, 0, none⟩) (Kd.R_types HO_441002.out BK491.out (by decide)) (fun _ hk => hk.2) (.slice Ao205 t484.length co205)) (fun _ hk => hk.2) (.slice Ao207 t487.length co207)) (fun _ h_ => h_.1))) hb); replace HO_449000 := Aside0.mk (Kd.R_below (by refine bR ?_; exact (Kd.R_mono (Kd.R_far (p := ⟨gb491, 1, none⟩) (Kd.R_far (p := ⟨gb491, 0, none⟩) (Kd.R_types HO_449000.out BK491.out (by decide)) (fun _ hk => hk.2) (.slice Ao205 t484.length co205)) (fun _ hk => hk.2) (.slice Ao207 t487.length co207)) (fun _ h_ => h_.1))) hb); replace HO_449001 := Aside0.mk (Kd.S_below (by refine bS ?_; exact (Kd.S_mono (Kd.S_far (p := ⟨gb491, 1, none⟩) (Kd.S_far (p := ⟨gb491, 0, none⟩) (Kd.S_types HO_449001.out BK491.out (by decide)) (fun _ hk => hk.2) (.slice Ao205 t484.length co205)) (fun _ hk => hk.2) (.slice Ao207 t487.length co207)) (fun _ h_ => h_.1))) hb); replace HO475 := Aside0.mk (Kd.R_below (by refine bR ?_; exact (Kd.R_mono (Kd.R_far (p := ⟨gb491, 1, none⟩) (Kd.R_far (p := ⟨gb491, 0, none⟩) (Kd.R_types HO475.out BK491.out (by decide)) (fun _ hk => hk.2) (.slice Ao205 t484.length co205)) (fun _ hk => hk.2) (.slice Ao207 t487.length co207)) (fun _ h_ => h_.1))) hb); replace HO478 := Aside0.mk (Kd.S_below (by refine bS ?_; exact (Kd.S_mono (Kd.S_far (p := ⟨gb491, 1, none⟩) (Kd.S_far (p := ⟨gb491, 0, none⟩) (Kd.S_types HO478.out BK491.out (by decide)) (fun _ hk => hk.2) (.slice Ao205 t484.length co205)) (fun _ hk => hk.2) (.slice Ao207 t487.length co207)) (fun _ h_ => h_.1))) hb); replace HO483 := Aside0.mk (Kd.R_below (by refine bR ?_; exact (Kd.R_mono (Kd.R_far (p := ⟨gb491, 1, none⟩) (Kd.R_far (p := ⟨gb491, 0, none⟩) (Kd.R_types HO483.out BK491.out (by decide)) (fun _ hk => hk.2) (.slice Ao205 t484.length co205)) (fun _ hk => hk.2) (.slice Ao207 t487.length co207)) (fun _ h_ => h_.1))) hb); replace HO486 := Aside0.mk (Kd.R_below ZZ6f3f42 hb); replace HO489 := Aside0.mk (Kd.S_below ZZ0e04fd hb); replace BK405 := Aside0.mk (blk_below (g := gb405) (o := .cells #[.slice A0_0 l0_0.length c0_0, .slice A0_1 l0_1.length c0_1] 25 (0, 0)) (by refine bd ?_; refine blk_far ?_ NB405_491.out _; refine bd ?_; refine blk_far ?_ NB405_491.out _; refine bd ?_; exact BK405.out) hb); replace BK406 := Aside0.mk (blk_below (g := gb406) (o := .cells #[.int .i64 a1_0, .string a1_1, .slice A1_2 l1_2.length c1_2] 58 (0, 0)) (by refine bd ?_; refine blk_far ?_ NB406_491.out _; refine bd ?_; refine blk_far ?_ NB406_491.out _; refine bd ?_; exact BK406.out) hb); replace BK427 := Aside0.mk (blk_below (g := gb427) (o := .cells #[.slice Ao42 t420.length co42, .slice Ao44 t423.length co44] 31 (0, 0)) (by refine bd ?_; refine blk_far ?_ NB427_491.out _; refine bd ?_; refine blk_far ?_ NB427_491.out _; refine bd ?_; exact BK427.out) hb); replace BK434 := Aside0.mk (blk_below (g := gb434) (o := .cells #[.slice Ao51 t464.length co51, .slice Ao56 t465.length co56] 31 (0, 0)) (by refine bd ?_; refine blk_far ?_ NB434_491.out _; refine bd ?_; refine blk_far ?_ NB434_491.out _; refine bd ?_; exact BK434.out) hb); replace BK440 := Aside0.mk (blk_below (g := gb440) (o := .cells #[.int .i64 t435, .string t436, .slice Ao66 t467.length co66] 63 (0, 0)) (by refine bd ?_; refine blk_far ?_ NB440_491.out _; refine bd ?_; refine blk_far ?_ NB440_491.out _; refine bd ?_; exact BK440.out) hb); replace BK448 := Aside0.mk (blk_below (g := gb448) (o := .cells #[.slice Ao73 t441.length co73, .slice Ao80 t444.length co80] 31 (0, 0)) (by refine bd ?_; refine blk_far ?_ NB448_491.out _; refine bd ?_; refine blk_far ?_ NB448_491.out _; refine bd ?_; exact BK448.out) hb); replace BK491 := Aside0.mk (blk_below (g := gb491) (o := .cells #[.slice Ao205 t484.length co205, .slice Ao207 t487.length co207] 31 (0, 0)) (by refine bd ?_; refine blk_put (cs := #[.slice Ao205 t484.length co205, .slice none 0 0]) ?_ 1 _ rfl; refine bd ?_; refine blk_put (cs := #[.slice none 0 0, .slice none 0 0]) ?_ 0 _ rfl; refine bd ?_; exact BK491.out) hb); replace HB := hB hb; (try clear hb); (try clear hb2); (try clear hk); (try clear hi)))
         go_meet
         case rel => exact ⟨_, (true), ZZ0ab324, H, kle, ⟨(by (try simp only [hl435000_115]); (try simp only [hl435001_115]); (try simp only [hl441002_115]); refine bR ?_; exact Kd.R_mono HO_428000.out (fun _ hk => ⟨hk.2.2.1, ⟨hk.2.2.2, hk.2.1⟩⟩))⟩, ⟨(by (try simp only [hl435000_115]); (try simp only [hl435001_115]); (try simp only [hl441002_115]); refine bS ?_; exact Kd.S_mono HO_428001.out (fun _ hk => ⟨hk.2.2.2.1, ⟨hk.2.2.2.2.1, ⟨hk.2.2.2.2.2.1, ⟨hk.2.2.1, zA hk.2.2.2.2.2.2⟩⟩⟩⟩))⟩, ⟨(by (try simp only [hl435000_115]); (try simp only [hl435001_115]); (try simp only [hl441002_115]); refine bR ?_; exact Kd.R_mono HO_435000.out (fun _ hk => ⟨hk.2.2.1, ⟨hk.2.2.2, hk.2.1⟩⟩))⟩, ⟨(by (try simp only [hl435000_115]); (try simp only [hl435001_115]); (try simp only [hl441002_115]); refine bS ?_; exact Kd.S_mono HO_435001.out (fun _ hk => ⟨hk.2.2.2.1, ⟨hk.2.2.2.2.1, ⟨hk.2.2.2.2.2.1, ⟨hk.2.2.1, zA hk.2.2.2.2.2.2⟩⟩⟩⟩))⟩, ⟨(by (try simp only [hl435000_115]); (try simp only [hl435001_115]); (try simp only [hl441002_115]); refine bR ?_; exact Kd.R_mono HO_441002.out (fun _ hk => trivial))⟩, ⟨(by (try simp only [hl435000_115]); (try simp only [hl435001_115]); (try simp only [hl441002_115]); refine bR ?_; exact Kd.R_mono HO_449000.out (fun _ hk => ⟨hk.2.2.1, ⟨hk.2.2.2, hk.2.1⟩⟩))⟩, ⟨(by (try simp only [hl435000_115]); (try simp only [hl435001_115]); (try simp only [hl441002_115]); refine bS ?_; exact Kd.S_mono HO_449001.out (fun _ hk => ⟨hk.2.2.2.1, ⟨hk.2.2.2.2.1, ⟨hk.2.2.2.2.2.1, ⟨hk.2.2.1, zA hk.2.2.2.2.2.2⟩⟩⟩⟩))⟩, ⟨(by (try simp only [hl435000_115]); (try simp only [hl435001_115]); (try simp only [hl441002_115]); refine bR ?_; exact Kd.R_mono HO486.out (fun _ hk => ⟨hk.2.1, ⟨hk.2.2.1, zA hk.2.2.2⟩⟩))⟩, ⟨(by (try simp only [hl435000_115]); (try simp only [hl435001_115]); (try simp only [hl441002_115]); refine bS ?_; exact Kd.S_mono HO489.out (fun _ hk => ⟨hk.2.2.1, ⟨hk.2.2.2.1, ⟨hk.2.2.2.2.1, ⟨hk.2.2.2.2.2.1, zA hk.2.2.2.2.2.2⟩⟩⟩⟩))⟩, ⟨(by (try simp only [hl435000_115]); (try simp only [hl435001_115]); (try simp only [hl441002_115]); refine bd ?_; exact BK405.out)⟩, ⟨(by (try simp only [hl435000_115]); (try simp only [hl435001_115]); (try simp only [hl441002_115]); refine bd ?_; exact BK406.out)⟩, ⟨(by (try simp only [hl435000_115]); (try simp only [hl435001_115]); (try simp only [hl441002_115]); refine bd ?_; exact BK427.out)⟩, ⟨(by (try simp only [hl435000_115]); (try simp only [hl435001_115]); (try simp only [hl441002_115]); refine bd ?_; exact BK434.out)⟩, ⟨(by (try simp only [hl435000_115]); (try simp only [hl435001_115]); (try simp only [hl441002_115]); refine bd ?_; exact BK440.out)⟩, ⟨(by (try simp only [hl435000_115]); (try simp only [hl435001_115]); (try simp only [hl441002_115]); refine bd ?_; exact BK448.out)⟩, ⟨(by (try simp only [hl435000_115]); (try simp only [hl435001_115]); (try simp only [hl441002_115]); refine bd ?_; exact BK491.out)⟩, ⟨ZZ295621⟩⟩
        case rest =>
         clear HC185
         try clear c210
         try clear hcz217_0
         try clear hcz217_1
         try clear hcz223_0
         try clear hcz223_1
         try clear hcz231_0
         try clear hcz231_1
         try clear hcz237_0
         try clear hcz237_1
         try clear hfz217_0
         try clear hfz217_1
         try clear hfz223_0
         try clear hfz223_1
         try clear hfz231_0
         try clear hfz231_1
         try clear hfz237_0
         try clear hfz237_1
         obtain ⟨kq, x110_184, rfl, HA, HJ184, HO_428000, HO_428001, HO_435000, HO_435001, HO_441002, HO_449000, HO_449001, HO_492000, HO_492001, BK405, BK406, BK427, BK434, BK440, BK448, BK491, HB⟩ := hcut
         have hl449000_184 := (Kd.R_reads' HO_449000.out).1
         rw [hl449000_184] at HO_449000
         (try simp only [hl449000_184] at BK405 BK406 BK427 BK434 BK440 BK448 BK491 HO_428000 HO_428001 HO_435000 HO_435001 HO_441002 HO_449001 HO_492000 HO_492001 ⊢)
         have hl449001_184 := (Kd.S_reads' HO_449001.out).1
         rw [hl449001_184] at HO_449001
         (try simp only [hl449001_184] at BK405 BK406 BK427 BK434 BK440 BK448 BK491 HO_428000 HO_428001 HO_435000 HO_435001 HO_441002 HO_449000 HO_492000 HO_492001 ⊢)
         cases kq with
         | zero => exact absurd HA.out (by simp [laws_FnExactPostEntry.j2])
         | succ kj184 =>
          have H := HA.out
          clear HA
          simp only [laws_FnExactPostEntry.j2] at H
          by_cases c239 : x110_184 = true
          ·subst c239
           replace H := ifT H
           obtain rfl := Option.some.inj H
           go_wp2
           go_ret
           exact ⟨ZZab01d2, ZZ295621⟩
          replace c239 := Bool.eq_false_iff.mpr c239
          subst c239
          replace H := ifF H
          obtain ⟨t493, A240, H⟩ := bdY H
          by_cases c241 : t493 < 0
          ·rw [if_pos c241] at H
           have c241b0 := decide_eq_true c241
           clear c241
           obtain rfl := Option.some.inj H
           have hnb242 := NB448_405.out
           have hnc242 := NB405_448.out
           have hnb243 := NB448_406.out
           have hnc243 := NB406_448.out
           have hnb244 := NB448_427.out
           have hnc244 := NB427_448.out
           have hnb245 := NB448_434.out
           have hnc245 := NB434_448.out
           have hnb246 := NB448_440.out
           have hnc246 := NB440_448.out
           have hnb247 := NB448_491.out
           have hnc247 := NB491_448.out
           obtain ⟨hcz248_0, hcz248_1, hfz248_0, hfz248_1⟩ := z2 BK448
           go_wp2_with (first | (refine gc 113 Tryd.func41 #[.agg #[.slice Ao73 t470.length co73, .slice Ao80 t471.length co80], .int .i64 1] ?_; (with_reducible refine (laws_heldLedger.calls kj184 _ _ t470 _ _ t471 1 t493 _ ?side1 ?side2 ?side3 ?side4 A240.out).mono ?_); (case side1 => exact rC (Kd.R_reads' HO_449000.out).2.2); (case side2 => exact (Kd.R_reads' HO_449000.out).2.1); (case side3 => exact rC (Kd.S_reads' HO_449001.out).2.2); (case side4 => exact (Kd.S_reads' HO_449001.out).2.1); rintro e w249 ⟨rfl, hb⟩; refine ⟨_, rfl, ?_⟩; replace HO_428000 := Aside0.mk (Kd.R_below (zR HO_428000) hb); replace HO_428001 := Aside0.mk (Kd.S_below (zS HO_428001) hb); replace HO_435000 := Aside0.mk (Kd.R_below (zR HO_435000) hb); replace HO_435001 := Aside0.mk (Kd.S_below (zS HO_435001) hb); replace HO_441002 := Aside0.mk (Kd.R_below (zR HO_441002) hb); replace HO_449000 := Aside0.mk (Kd.R_below (zR HO_449000) hb); replace HO_449001 := Aside0.mk (Kd.S_below (zS HO_449001) hb); replace HO_492000 := Aside0.mk (Kd.R_below (zR HO_492000) hb); replace HO_492001 := Aside0.mk (Kd.S_below (zS HO_492001) hb); replace BK405 := kb BK405 hb; replace BK406 := kb BK406 hb; replace BK427 := kb BK427 hb; replace BK434 := kb BK434 hb; replace BK440 := kb BK440 hb; replace BK448 := kb BK448 hb; replace BK491 := kb BK491 hb; replace HB := hB hb; (try clear hb); (try clear hb2); (try clear hk); (try clear hi)))
           go_ret
           exact ⟨ZZab01d2, ZZ295621⟩
          rw [if_neg c241] at H
          have c241b0 := decide_eq_false c241
          clear c241
          by_cases c250 : t493 = t469
          ·rw [if_pos c250] at H
           have c250b0 := beq_iff_eq.mpr c250
           have c250b1 := bne_eq_false_iff_eq.mpr c250
           clear c250
           obtain rfl := Option.some.inj H
           have hnb251 := NB448_405.out
           have hnc251 := NB405_448.out
           have hnb252 := NB448_406.out
           have hnc252 := NB406_448.out
           have hnb253 := NB448_427.out
           have hnc253 := NB427_448.out
           have hnb254 := NB448_434.out
           have hnc254 := NB434_448.out
           have hnb255 := NB448_440.out
           have hnc255 := NB440_448.out
           have hnb256 := NB448_491.out
           have hnc256 := NB491_448.out
           obtain ⟨hcz257_0, hcz257_1, hfz257_0, hfz257_1⟩ := z2 BK448
           go_wp2_with (first | (refine gc 113 Tryd.func41 #[.agg #[.slice Ao73 t470.length co73, .slice Ao80 t471.length co80], .int .i64 1] ?_; (with_reducible refine (laws_heldLedger.calls kj184 _ _ t470 _ _ t471 1 t493 _ ?side1 ?side2 ?side3 ?side4 A240.out).mono ?_); (case side1 => exact rC (Kd.R_reads' HO_449000.out).2.2); (case side2 => exact (Kd.R_reads' HO_449000.out).2.1); (case side3 => exact rC (Kd.S_reads' HO_449001.out).2.2); (case side4 => exact (Kd.S_reads' HO_449001.out).2.1); rintro e w258 ⟨rfl, hb⟩; refine ⟨_, rfl, ?_⟩; replace HO_428000 := Aside0.mk (Kd.R_below (zR HO_428000) hb); replace HO_428001 := Aside0.mk (Kd.S_below (zS HO_428001) hb); replace HO_435000 := Aside0.mk (Kd.R_below (zR HO_435000) hb); replace HO_435001 := Aside0.mk (Kd.S_below (zS HO_435001) hb); replace HO_441002 := Aside0.mk (Kd.R_below (zR HO_441002) hb); replace HO_449000 := Aside0.mk (Kd.R_below (zR HO_449000) hb); replace HO_449001 := Aside0.mk (Kd.S_below (zS HO_449001) hb); replace HO_492000 := Aside0.mk (Kd.R_below (zR HO_492000) hb); replace HO_492001 := Aside0.mk (Kd.S_below (zS HO_492001) hb); replace BK405 := kb BK405 hb; replace BK406 := kb BK406 hb; replace BK427 := kb BK427 hb; replace BK434 := kb BK434 hb; replace BK440 := kb BK440 hb; replace BK448 := kb BK448 hb; replace BK491 := kb BK491 hb; replace HB := hB hb; (try clear hb); (try clear hb2); (try clear hk); (try clear hi)))
           go_ret
           exact ⟨ZZab01d2, ZZ295621⟩
          rw [if_neg c250] at H
          have c250b0 := beq_eq_false_iff_ne.mpr c250
          have c250b1 := bne_iff_ne.mpr c250
          obtain rfl := Option.some.inj H
          have hnb259 := NB448_405.out
          have hnc259 := NB405_448.out
          have hnb260 := NB448_406.out
          have hnc260 := NB406_448.out
          have hnb261 := NB448_427.out
          have hnc261 := NB427_448.out
          have hnb262 := NB448_434.out
          have hnc262 := NB434_448.out
          have hnb263 := NB448_440.out
          have hnc263 := NB440_448.out
          have hnb264 := NB448_491.out
          have hnc264 := NB491_448.out
          obtain ⟨hcz265_0, hcz265_1, hfz265_0, hfz265_1⟩ := z2 BK448
          go_wp2_with (first | (refine gc 113 Tryd.func41 #[.agg #[.slice Ao73 t470.length co73, .slice Ao80 t471.length co80], .int .i64 1] ?_; (with_reducible refine (laws_heldLedger.calls kj184 _ _ t470 _ _ t471 1 t493 _ ?side1 ?side2 ?side3 ?side4 A240.out).mono ?_); (case side1 => exact rC (Kd.R_reads' HO_449000.out).2.2); (case side2 => exact (Kd.R_reads' HO_449000.out).2.1); (case side3 => exact rC (Kd.S_reads' HO_449001.out).2.2); (case side4 => exact (Kd.S_reads' HO_449001.out).2.1); rintro e w266 ⟨rfl, hb⟩; refine ⟨_, rfl, ?_⟩; replace HO_428000 := Aside0.mk (Kd.R_below (zR HO_428000) hb); replace HO_428001 := Aside0.mk (Kd.S_below (zS HO_428001) hb); replace HO_435000 := Aside0.mk (Kd.R_below (zR HO_435000) hb); replace HO_435001 := Aside0.mk (Kd.S_below (zS HO_435001) hb); replace HO_441002 := Aside0.mk (Kd.R_below (zR HO_441002) hb); replace HO_449000 := Aside0.mk (Kd.R_below (zR HO_449000) hb); replace HO_449001 := Aside0.mk (Kd.S_below (zS HO_449001) hb); replace HO_492000 := Aside0.mk (Kd.R_below (zR HO_492000) hb); replace HO_492001 := Aside0.mk (Kd.S_below (zS HO_492001) hb); replace BK405 := kb BK405 hb; replace BK406 := kb BK406 hb; replace BK427 := kb BK427 hb; replace BK434 := kb BK434 hb; replace BK440 := kb BK440 hb; replace BK448 := kb BK448 hb; replace BK491 := kb BK491 hb; replace HB := hB hb; (try clear hb); (try clear hb2); (try clear hk); (try clear hi)))
          go_ret
          exact ⟨ZZab01d2, ZZ295621⟩
       rw [if_neg c181] at H
       have c181b0 := beq_eq_false_iff_ne.mpr c181
       have c181b1 := bne_iff_ne.mpr c181
       obtain rfl := Option.some.inj H
       have hnb267 := NB448_405.out
       have hnc267 := NB405_448.out
       have hnb268 := NB448_406.out
       have hnc268 := NB406_448.out
       have hnb269 := NB448_427.out
       have hnc269 := NB427_448.out
       have hnb270 := NB448_434.out
       have hnc270 := NB434_448.out
       have hnb271 := NB448_440.out
       have hnc271 := NB440_448.out
       obtain ⟨hcz272_0, hcz272_1, hfz272_0, hfz272_1⟩ := z2 BK448
       go_wp2_with (first | (refine gc 85 Tryd.func31 #[.agg #[.slice Ao73 t441.length co73, .slice Ao80 t444.length co80], .int .i64 1] ?_; (with_reducible refine (laws_markLedger.calls kj115 (fun k_ => some k_ = (.slice Ao73 t441.length co73 : Value).ownBlock) (.slice Ao73 t441.length co73) t441 ?P0_1_5 (.slice Ao80 t444.length co80) t444 1 t469 t470 t471 w _ ?side1 ?side2 ?side3 A168.out).mono ?_); (case side1 => exact bw); (case side2 => exact Kd.R_tight rfl HO_449000.out); (case side3 => exact Kd.S_bound HO_449001.out); rintro e w273 ⟨rfl, hy0, hy1, hb, hkp⟩; refine ⟨_, rfl, ?_⟩; obtain ⟨ga274, hga274⟩ := Kd.agek hkp; replace HO_428000 := Aside0.mk (Kd.R_mono (ok' := fun k_ => some k_ ≠ (.slice Ao51 t464.length co51 : Value).ownBlock ∧ some k_ ≠ (.slice Ao73 t441.length co73 : Value).ownBlock) (Kd.R_keptB ((Kd.R_bound HO_428000.out)) hkp (fun k_ hk_ hs_ => Or.elim hs_ (fun e_ => (hk_.1.2) e_) (fun e_ => (fun e_ => Kd.typed_ne (hk_.2).2.2 e_.2.2.2 (by decide)) e_))) (fun k_ hk_ => ⟨hk_.1.1.1, hk_.1.1.2⟩)); replace HO_435000 := Aside0.mk (Kd.R_mono (ok' := fun k_ => some k_ ≠ (.slice Ao42 t420.length co42 : Value).ownBlock ∧ some k_ ≠ (.slice Ao73 t441.length co73 : Value).ownBlock) (Kd.R_keptB ((Kd.R_bound HO_435000.out)) hkp (fun k_ hk_ hs_ => Or.elim hs_ (fun e_ => (hk_.1.2) e_) (fun e_ => (fun e_ => Kd.typed_ne (hk_.2).2.2 e_.2.2.2 (by decide)) e_))) (fun k_ hk_ => ⟨hk_.1.1.1, hk_.1.1.2⟩)); replace HO_449001 := Aside0.mk (Kd.S_mono (ok' := fun k_ => (some k_ ≠ (.slice Ao44 t423.length co44 : Value).ownBlock ∧ (some k_ ≠ (.slice Ao56 t465.length co56 : Value).ownBlock ∧ (some k_ ≠ (.slice Ao66 t467.length co66 : Value).ownBlock ∧ (k_ ≠ gb440 ∧ (k_ < ga133 ∨ ga274 ≤ k_)))))) (Kd.S_bound hy1) (fun k_ hk_ => Or.elim hk_.1 (fun hs_ => Or.elim hs_ (fun e_ => (fun h_ => (Kd.typed_own hk_.2.2.2 (Kd.R_typed hy0 k_ h_.symm) (by decide)).elim) e_) (fun e_ => (fun h_ => ⟨h_.1.1, ⟨h_.1.2.1, ⟨h_.1.2.2.1, ⟨h_.1.2.2.2.1, (.inl h_.1.2.2.2.2.2)⟩⟩⟩⟩) e_)) (fun hn_ => ⟨fun e_ => Nat.not_le.2 (Kd.S_lt HO_428001.out k_ e_.symm) hn_, ⟨fun e_ => Nat.not_le.2 (Kd.S_lt HO_435001.out k_ e_.symm) hn_, ⟨fun e_ => Nat.not_le.2 (Kd.R_lt HO_441002.out k_ e_.symm) hn_, ⟨fun e_ => Nat.not_le.2 (by rw [e_]; exact blk_lt (zB BK440)) hn_, (.inr (by rw [hga274]; exact hn_))⟩⟩⟩⟩))); replace HO_428001 := Aside0.mk (Kd.S_mono (ok' := fun k_ => some k_ ≠ (.slice Ao56 t465.length co56 : Value).ownBlock ∧ some k_ ≠ (.slice Ao66 t467.length co66 : Value).ownBlock ∧ some k_ ≠ (.slice Ao80 t444.length co80 : Value).ownBlock ∧ k_ ≠ gb440 ∧ k_ < ga49 ∧ k_ < ga71 ∧ k_ < ga133 ∧ k_ < ga274) (Kd.S_keptB ((Kd.S_bound (Kd.S_apart' HO_428001.out (Kd.R_typed HO_449000.out) (by decide)))) hkp (fun k_ hk_ hs_ => Or.elim hs_ (fun e_ => (hk_.1.2) e_) (fun e_ => (fun e_ => Nat.not_le.2 (hk_.1.1.2.2.2.2.2.1) (e_.1.2.2.2.2.1)) e_))) (fun k_ hk_ => ⟨hk_.1.1.1.1, hk_.1.1.1.2.1, hk_.1.1.1.2.2.1, hk_.1.1.1.2.2.2.1, hk_.1.1.1.2.2.2.2.1, hk_.1.1.1.2.2.2.2.2.1, hk_.1.1.1.2.2.2.2.2.2, (by rw [hga274]; exact hk_.2.2)⟩)); replace HO_435001 := Aside0.mk (Kd.S_mono (ok' := fun k_ => some k_ ≠ (.slice Ao44 t423.length co44 : Value).ownBlock ∧ some k_ ≠ (.slice Ao66 t467.length co66 : Value).ownBlock ∧ some k_ ≠ (.slice Ao80 t444.length co80 : Value).ownBlock ∧ k_ ≠ gb440 ∧ (k_ < ga71 ∨ ga133 ≤ k_) ∧ k_ < ga274) (Kd.S_keptB ((Kd.S_bound (Kd.S_apart' HO_435001.out (Kd.R_typed HO_449000.out) (by decide)))) hkp (fun k_ hk_ hs_ => Or.elim hs_ (fun e_ => (hk_.1.2) e_) (fun e_ => (fun e_ => Or.elim (hk_.1.1.2.2.2.2) (fun h1_ => Nat.not_le.2 h1_ (e_.1.2.2.2.2.1)) (fun h1_ => Nat.not_le.2 (e_.1.2.2.2.2.2) h1_)) e_))) (fun k_ hk_ => ⟨hk_.1.1.1.1, hk_.1.1.1.2.1, hk_.1.1.1.2.2.1, hk_.1.1.1.2.2.2.1, hk_.1.1.1.2.2.2.2, (by rw [hga274]; exact hk_.2.2)⟩)); replace HO_441002 := Aside0.mk (Kd.R_mono (ok' := fun k_ => True) (Kd.R_keptB ((Kd.R_bound (Kd.R_apart' (Kd.R_tight2 rfl HO_441002.out) (Kd.R_typed HO_449000.out) (by decide)))) hkp (fun k_ hk_ hs_ => Or.elim hs_ (fun e_ => (hk_.1.2) e_) (fun e_ => (fun e_ => (e_.1.2.2.1) (hk_.1.1.1)) e_))) (fun k_ hk_ => trivial)); replace BK405 := Aside0.mk (blk_kept (zB BK405) hkp (fun hs_ => Or.elim hs_ (fun e_ => (fun e_ => (Kd.R_ne HO_449000.out BK405.out (by decide)) e_) e_) (fun e_ => (fun e_ => Kd.typed_box e_.2.2.2 (zB BK405) (by decide)) e_))); replace BK406 := Aside0.mk (blk_kept (zB BK406) hkp (fun hs_ => Or.elim hs_ (fun e_ => (fun e_ => (Kd.R_ne HO_449000.out BK406.out (by decide)) e_) e_) (fun e_ => (fun e_ => Kd.typed_box e_.2.2.2 (zB BK406) (by decide)) e_))); replace BK427 := Aside0.mk (blk_kept (zB BK427) hkp (fun hs_ => Or.elim hs_ (fun e_ => (fun e_ => (Kd.R_ne HO_449000.out BK427.out (by decide)) e_) e_) (fun e_ => (fun e_ => Kd.typed_box e_.2.2.2 (zB BK427) (by decide)) e_))); replace BK434 := Aside0.mk (blk_kept (zB BK434) hkp (fun hs_ => Or.elim hs_ (fun e_ => (fun e_ => (Kd.R_ne HO_449000.out BK434.out (by decide)) e_) e_) (fun e_ => (fun e_ => Kd.typed_box e_.2.2.2 (zB BK434) (by decide)) e_))); replace BK440 := Aside0.mk (blk_kept (zB BK440) hkp (fun hs_ => Or.elim hs_ (fun e_ => (fun e_ => (Kd.R_ne HO_449000.out BK440.out (by decide)) e_) e_) (fun e_ => (fun e_ => (e_.1.2.2.2.1) rfl) e_))); replace BK448 := Aside0.mk (blk_kept (zB BK448) hkp (fun hs_ => Or.elim hs_ (fun e_ => (fun e_ => (Kd.R_ne HO_449000.out BK448.out (by decide)) e_) e_) (fun e_ => (fun e_ => Kd.typed_box e_.2.2.2 (zB BK448) (by decide)) e_))); replace HO_449000 := Aside0.mk (Kd.R_reok rfl hy0 (fun k_ e_ => HO_449000.out.1 k_ e_)); replace HB := Aside0.mk (hb); (try clear hb); (try clear hkp); (try clear hy0); (try clear hy1); obtain ⟨hcz275_0, hcz275_1, hfz275_0, hfz275_1⟩ := z2 BK448) | ((with_reducible refine gate_callee (f := 41) rfl ?_); refine goesL_ (some 88) rfl rfl Tryd.func41 (by kernel_rfl) rfl #[.agg #[.slice Ao73 t470.length co73, .slice Ao80 t471.length co80], .int .i64 1] rfl ZZ814e55 ?_; (with_reducible refine (laws_heldLedger.calls kj115 _ _ t470 _ _ t471 1 t472 _ ?side1 ?side2 ?side3 ?side4 A169.out).mono ?_); (case side1 => exact rC (Kd.R_reads' HO_449000.out).2.2); (case side2 => rw [show t470.length = t441.length from (Kd.R_reads' HO_449000.out).1.symm]; exact (Kd.R_reads' HO_449000.out).2.1); (case side3 => exact rC (Kd.S_reads' HO_449001.out).2.2); (case side4 => rw [show t471.length = t444.length from (Kd.S_reads' HO_449001.out).1.symm]; exact (Kd.S_reads' HO_449001.out).2.1); rintro e w276 ⟨rfl, hb⟩; refine ⟨_, rfl, ?_⟩; replace HO_428000 := Aside0.mk (Kd.R_below (zR HO_428000) hb); replace HO_428001 := Aside0.mk (Kd.S_below (zS HO_428001) hb); replace HO_435000 := Aside0.mk (Kd.R_below (zR HO_435000) hb); replace HO_435001 := Aside0.mk (Kd.S_below (zS HO_435001) hb); replace HO_441002 := Aside0.mk (Kd.R_below (zR HO_441002) hb); replace HO_449000 := Aside0.mk (Kd.R_below (zR HO_449000) hb); replace HO_449001 := Aside0.mk (Kd.S_below (zS HO_449001) hb); replace BK405 := kb BK405 hb; replace BK406 := kb BK406 hb; replace BK427 := kb BK427 hb; replace BK434 := kb BK434 hb; replace BK440 := kb BK440 hb; replace BK448 := kb BK448 hb; replace HB := hB hb; (try clear hb); (try clear hb2); (try clear hk); (try clear hi)))
       go_ret
       exact ⟨ZZab01d2, ZZ295621⟩
    replace c113 := Bool.eq_false_iff.mpr c113
    subst c113
    replace H := ifF H
    obtain rfl := Option.some.inj H
    try go_wp2
    replace HO_428000 := Aside0.mk (Kd.R_drew HO_428000.out)
    replace HO_428001 := Aside0.mk (Kd.S_drew HO_428001.out)
    replace HO_435000 := Aside0.mk (Kd.R_drew HO_435000.out)
    replace HO_435001 := Aside0.mk (Kd.S_drew HO_435001.out)
    replace HO_441002 := Aside0.mk (Kd.R_drew HO_441002.out)
    replace HO_449000 := Aside0.mk (Kd.R_drew HO_449000.out)
    replace HO_449001 := Aside0.mk (Kd.S_drew HO_449001.out)
    replace BK405 := Aside0.mk (blk_drew BK405.out)
    replace BK406 := Aside0.mk (blk_drew BK406.out)
    replace BK427 := Aside0.mk (blk_drew BK427.out)
    replace BK434 := Aside0.mk (blk_drew BK434.out)
    replace BK440 := Aside0.mk (blk_drew BK440.out)
    replace BK448 := Aside0.mk (blk_drew BK448.out)
    replace HB := Aside0.mk (below_drew1 HB.out)
    refine start_ (n := 5) (S := fun w' => w'.cell? ⟨gb434, 0, none⟩ = some (.slice Ao51 t428.length co51) ∧ w'.cell? ⟨gb434, 1, none⟩ = some (.slice Ao56 t431.length co56) ∧ w'.cell? ⟨gb405, 0, none⟩ = some (.slice A0_0 l0_0.length c0_0) ∧ w'.cell? ⟨gb405, 1, none⟩ = some (.slice A0_1 l0_1.length c0_1)) (ds := []) #[false, false, false, false, false] (by kernel_rfl) rfl rfl ⟨(blk_cell BK434.out 0).trans rfl, (blk_cell BK434.out 1).trans rfl, (blk_cell BK405.out 0).trans rfl, (blk_cell BK405.out 1).trans rfl⟩ (fun hHeld => ?_)
    generalize wc.drew = w277 at HO_428000 HO_428001 HO_435000 HO_435001 HO_441002 HO_449000 HO_449001 BK405 BK406 BK427 BK434 BK440 BK448 HB hHeld ⊢
    refine take_ (i := 0) (N := some 54) (v := ?_) (a' := ?_) #[true, false, false, false, false] rfl rfl (by kernel_rfl) (fun _ _ _ h => h) (Or.inl ⟨(by rfl), ?_⟩) hHeld ?_ ?_
    rotate_left
    ·rintro w' ⟨s0, s1, s2, s3⟩
     go_simp
     with_reducible rfl
    rotate_left
    ·simp only [Act.put, List.setIfInBounds_toArray, List.set_cons_zero, List.set_cons_succ, i64_w, i32_w]
     rfl
    refine take_ (i := 1) (N := some 55) (v := ?_) (a' := ?_) #[true, true, false, false, false] rfl rfl (by kernel_rfl) (fun _ _ _ h => h) (Or.inl ⟨(by rfl), ?_⟩) hHeld ?_ ?_
    rotate_left
    ·rintro w' ⟨s0, s1, s2, s3⟩
     go_simp
     with_reducible rfl
    rotate_left
    ·simp only [Act.put, List.setIfInBounds_toArray, List.set_cons_zero, List.set_cons_succ, i64_w, i32_w]
     rfl
    refine one_ (i := 2) (N := some 56) #[true, true, true, false, false] rfl rfl (by kernel_rfl) (by decide) (fun K hK => ?_)
    refine goes_ Tryd.func16 (by kernel_rfl) rfl #[.agg #[.slice A0_0 l0_0.length c0_0, .slice A0_1 l0_1.length c0_1]] (by rfl) rfl rfl ZZ19826e ?_
    with_reducible refine (laws_toLedger.calls kj24 _ _ l0_0 _ _ l0_1 t450 t453 _ ?side1 ?side2 ?side3 ?side4 A108.out).mono ?_
    (case side1 => exact (rC (Kd.C_below HR0_0.out HB.out)))
    (case side2 => exact HC0_0.out)
    (case side3 => exact (rC (Kd.C_below HR0_1.out HB.out)))
    (case side4 => exact HC0_1.out)
    rintro e w278 ⟨v451, v454, rfl, ho0, ho1, hb⟩
    refine ⟨_, rfl, ?_⟩
    have HO452 := Aside0.mk (Kd.R_lower (Kd.R_new' (Kd.R_new' (Kd.R_new' ho0 (Kd.R_lt (zR HO_428000))) (Kd.R_lt (zR HO_435000))) (Kd.R_lt (zR HO_449000))) (below_size ZZ295621))
    replace HO_428000 := Aside0.mk (Kd.R_elder' (zR HO_428000) (Kd.R_base ho0) hb)
    replace HO_435000 := Aside0.mk (Kd.R_elder' (zR HO_435000) (Kd.R_base ho0) hb)
    replace HO_449000 := Aside0.mk (Kd.R_elder' (zR HO_449000) (Kd.R_base ho0) hb)
    have HO455 := Aside0.mk (Kd.S_lower (Kd.S_newB (Kd.S_new' (Kd.S_new' (Kd.S_new' (Kd.S_new' ho1 (Kd.S_lt (zS HO_428001))) (Kd.S_lt (zS HO_435001))) (Kd.R_lt (zR HO_441002))) (Kd.S_lt (zS HO_449001))) (zB BK440)) (below_size ZZ295621))
    replace HO_428001 := Aside0.mk (Kd.S_elder' (zS HO_428001) (Kd.S_base ho1) hb)
    replace HO_435001 := Aside0.mk (Kd.S_elder' (zS HO_435001) (Kd.S_base ho1) hb)
    replace HO_441002 := Aside0.mk (Kd.R_below (zR HO_441002) hb)
    replace HO_449001 := Aside0.mk (Kd.S_elder' (zS HO_449001) (Kd.S_base ho1) hb)
    replace BK405 := kb BK405 hb
    replace BK406 := kb BK406 hb
    replace BK427 := kb BK427 hb
    replace BK434 := kb BK434 hb
    replace BK440 := kb BK440 hb
    replace BK448 := kb BK448 hb
    replace HB := hB hb
    (try clear hb)
    (try clear hb2)
    (try clear hk)
    (try clear hi)
    (try clear ho0)
    (try clear ho1)
    obtain ⟨Ao279, co279, eo279⟩ := Kd.R_slice HO452.out
    (first | subst eo279 | (injection eo279 with f1_ f2_ f3_; have f4_ := f1_.symm; have f5_ := f3_.symm; clear f1_ f2_ f3_; subst f4_; subst f5_))
    obtain ⟨Ao280, co280, eo280⟩ := Kd.S_slice HO455.out
    (first | subst eo280 | (injection eo280 with f1_ f2_ f3_; have f4_ := f1_.symm; have f5_ := f3_.symm; clear f1_ f2_ f3_; subst f4_; subst f5_))
    refine hK.out _ _ zK (fun hHeld => ?_)
    clear hK K
    refine nd (some 56) ?_
    refine one_ (i := 3) (N := some 57) #[true, true, true, true, false] rfl rfl (by kernel_rfl) (by decide) (fun K hK => ?_)
    refine goes_ Tryd.func18 (by kernel_rfl) rfl #[.agg #[.slice Ao51 t428.length co51, .slice Ao56 t431.length co56], .agg #[.slice Ao279 t450.length co279, .slice Ao280 t453.length co280]] (by rfl) rfl rfl ZZ19826e ?_
    with_reducible refine (laws_eqLedger.calls kj24 _ _ t428 _ _ t431 _ _ t450 _ _ t453 true _ ?side1 ?side2 ?side3 ?side4 ?side5 ?side6 ?side7 ?side8 A109.out).mono ?_
    (case side1 => exact rC (Kd.R_reads' HO_435000.out).2.2)
    (case side2 => exact (Kd.R_reads' HO_435000.out).2.1)
    (case side3 => exact rC (Kd.S_reads' HO_435001.out).2.2)
    (case side4 => exact (Kd.S_reads' HO_435001.out).2.1)
    (case side5 => exact rC (Kd.R_reads' HO452.out).2.2)
    (case side6 => exact (Kd.R_reads' HO452.out).2.1)
    (case side7 => exact rC (Kd.S_reads' HO455.out).2.2)
    (case side8 => exact (Kd.S_reads' HO455.out).2.1)
    rintro e w281 ⟨rfl, hb⟩
    refine ⟨_, rfl, ?_⟩
    replace HO_428000 := Aside0.mk (Kd.R_below (zR HO_428000) hb)
    replace HO_428001 := Aside0.mk (Kd.S_below (zS HO_428001) hb)
    replace HO_435000 := Aside0.mk (Kd.R_below (zR HO_435000) hb)
    replace HO_435001 := Aside0.mk (Kd.S_below (zS HO_435001) hb)
    replace HO_441002 := Aside0.mk (Kd.R_below (zR HO_441002) hb)
    replace HO_449000 := Aside0.mk (Kd.R_below (zR HO_449000) hb)
    replace HO_449001 := Aside0.mk (Kd.S_below (zS HO_449001) hb)
    replace HO452 := Aside0.mk (Kd.R_below (zR HO452) hb)
    replace HO455 := Aside0.mk (Kd.S_below (zS HO455) hb)
    replace BK405 := kb BK405 hb
    replace BK406 := kb BK406 hb
    replace BK427 := kb BK427 hb
    replace BK434 := kb BK434 hb
    replace BK440 := kb BK440 hb
    replace BK448 := kb BK448 hb
    replace HB := hB hb
    (try clear hb)
    (try clear hb2)
    (try clear hk)
    (try clear hi)
    refine hK.out _ _ zK (fun hHeld => ?_)
    clear hK K
    refine nd (some 57) ?_
    refine pure_ (i := 4) (N := some 58) (v := ?_) (a' := ?_) #[true, true, true, true, true] rfl rfl (by kernel_rfl) (fun _ _ _ h => h) (Or.inl ⟨(by rfl), ?_⟩) ?_ ?_
    rotate_left
    ·intro w'
     go_simp
     with_reducible rfl
    rotate_left
    ·simp only [Act.put, List.setIfInBounds_toArray, List.set_cons_zero, List.set_cons_succ, i64_w, i32_w]
     rfl
    refine done_ (by kernel_rfl) ?_
    try go_wp2
    replace HO_428000 := Aside0.mk (Kd.R_drew HO_428000.out)
    replace HO_428001 := Aside0.mk (Kd.S_drew HO_428001.out)
    replace HO_435000 := Aside0.mk (Kd.R_drew HO_435000.out)
    replace HO_435001 := Aside0.mk (Kd.S_drew HO_435001.out)
    replace HO_441002 := Aside0.mk (Kd.R_drew HO_441002.out)
    replace HO_449000 := Aside0.mk (Kd.R_drew HO_449000.out)
    replace HO_449001 := Aside0.mk (Kd.S_drew HO_449001.out)
    replace HO452 := Aside0.mk (Kd.R_drew HO452.out)
    replace HO455 := Aside0.mk (Kd.S_drew HO455.out)
    replace BK405 := Aside0.mk (blk_drew BK405.out)
    replace BK406 := Aside0.mk (blk_drew BK406.out)
    replace BK427 := Aside0.mk (blk_drew BK427.out)
    replace BK434 := Aside0.mk (blk_drew BK434.out)
    replace BK440 := Aside0.mk (blk_drew BK440.out)
    replace BK448 := Aside0.mk (blk_drew BK448.out)
    replace HB := Aside0.mk (below_drew1 HB.out)
    refine start_ (n := 5) (S := fun w' => w'.cell? ⟨gb440, 0, none⟩ = some (.int .i64 t435) ∧ w'.cell? ⟨gb440, 1, none⟩ = some (.string t436) ∧ w'.cell? ⟨gb440, 2, none⟩ = some (.slice Ao66 t437.length co66) ∧ w'.cell? ⟨gb406, 0, none⟩ = some (.int .i64 a1_0) ∧ w'.cell? ⟨gb406, 1, none⟩ = some (.string a1_1) ∧ w'.cell? ⟨gb406, 2, none⟩ = some (.slice A1_2 l1_2.length c1_2)) (ds := []) #[false, false, false, false, false] (by kernel_rfl) rfl rfl ⟨(blk_cell BK440.out 0).trans rfl, (blk_cell BK440.out 1).trans rfl, (blk_cell BK440.out 2).trans rfl, (blk_cell BK406.out 0).trans rfl, (blk_cell BK406.out 1).trans rfl, (blk_cell BK406.out 2).trans rfl⟩ (fun hHeld => ?_)
    generalize w281.drew = w282 at HO_428000 HO_428001 HO_435000 HO_435001 HO_441002 HO_449000 HO_449001 HO452 HO455 BK405 BK406 BK427 BK434 BK440 BK448 HB hHeld ⊢
    refine take_ (i := 0) (N := some 59) (v := ?_) (a' := ?_) #[true, false, false, false, false] rfl rfl (by kernel_rfl) (fun _ _ _ h => h) (Or.inl ⟨(by rfl), ?_⟩) hHeld ?_ ?_
    rotate_left
    ·rintro w' ⟨s0, s1, s2, s3, s4, s5⟩
     go_simp
     with_reducible rfl
    rotate_left
    ·simp only [Act.put, List.setIfInBounds_toArray, List.set_cons_zero, List.set_cons_succ, i64_w, i32_w]
     rfl
    refine take_ (i := 1) (N := some 60) (v := ?_) (a' := ?_) #[true, true, false, false, false] rfl rfl (by kernel_rfl) (fun _ _ _ h => h) (Or.inl ⟨(by rfl), ?_⟩) hHeld ?_ ?_
    rotate_left
    ·rintro w' ⟨s0, s1, s2, s3, s4, s5⟩
     go_simp
     with_reducible rfl
    rotate_left
    ·simp only [Act.put, List.setIfInBounds_toArray, List.set_cons_zero, List.set_cons_succ, i64_w, i32_w]
     rfl
    refine one_ (i := 2) (N := some 61) #[true, true, true, false, false] rfl rfl (by kernel_rfl) (by decide) (fun K hK => ?_)
    refine goes_ Tryd.func37 (by kernel_rfl) rfl #[.agg #[.int .i64 a1_0, .string a1_1, .slice A1_2 l1_2.length c1_2]] (by rfl) rfl rfl ZZ19826e ?_
    with_reducible refine (laws_toBookEntry.calls kj24 a1_0 a1_1 _ _ l1_2 t457 t458 t459 _ ?side1 ?side2 A111.out).mono ?_
    (case side1 => exact (rC (Kd.C_below HR1_2.out HB.out)))
    (case side2 => exact HC1_2.out)
    rintro e w283 ⟨v460, rfl, ho0, hb⟩
    refine ⟨_, rfl, ?_⟩
    replace HO_428000 := Aside0.mk (Kd.R_below (zR HO_428000) hb)
    replace HO_428001 := Aside0.mk (Kd.S_elder' (zS HO_428001) (Kd.R_base ho0) hb)
    replace HO_435000 := Aside0.mk (Kd.R_below (zR HO_435000) hb)
    replace HO_435001 := Aside0.mk (Kd.S_elder' (zS HO_435001) (Kd.R_base ho0) hb)
    replace HO_449000 := Aside0.mk (Kd.R_below (zR HO_449000) hb)
    replace HO_449001 := Aside0.mk (Kd.S_elder' (zS HO_449001) (Kd.R_base ho0) hb)
    replace HO452 := Aside0.mk (Kd.R_below (zR HO452) hb)
    replace HO455 := Aside0.mk (Kd.S_elder' (zS HO455) (Kd.R_base ho0) hb)
    have HO461 := Aside0.mk (Kd.R_lower (Kd.R_new' ho0 (Kd.R_lt (zR HO_441002))) (below_size ZZ295621))
    replace HO_441002 := Aside0.mk (Kd.R_elder' (zR HO_441002) (Kd.R_base ho0) hb)
    replace BK405 := kb BK405 hb
    replace BK406 := kb BK406 hb
    replace BK427 := kb BK427 hb
    replace BK434 := kb BK434 hb
    replace BK440 := kb BK440 hb
    replace BK448 := kb BK448 hb
    replace HB := hB hb
    (try clear hb)
    (try clear hb2)
    (try clear hk)
    (try clear hi)
    (try clear ho0)
    obtain ⟨Ao284, co284, eo284⟩ := Kd.R_slice HO461.out
    (first | subst eo284 | (injection eo284 with f1_ f2_ f3_; have f4_ := f1_.symm; have f5_ := f3_.symm; clear f1_ f2_ f3_; subst f4_; subst f5_))
    refine hK.out _ _ zK (fun hHeld => ?_)
    clear hK K
    refine nd (some 61) ?_
    refine one_ (i := 3) (N := some 62) #[true, true, true, true, false] rfl rfl (by kernel_rfl) (by decide) (fun K hK => ?_)
    refine goes_ Tryd.func39 (by kernel_rfl) rfl #[.agg #[.int .i64 t435, .string t436, .slice Ao66 t437.length co66], .agg #[.int .i64 t457, .string t458, .slice Ao284 t459.length co284]] (by rfl) rfl rfl ZZ19826e ?_
    with_reducible refine (laws_eqBookEntry.calls kj24 t435 t436 _ _ t437 t457 t458 _ _ t459 false _ ?side1 ?side2 ?side3 ?side4 A112.out).mono ?_
    (case side1 => exact rC (Kd.R_reads' HO_441002.out).2.2)
    (case side2 => exact (Kd.R_reads' HO_441002.out).2.1)
    (case side3 => exact rC (Kd.R_reads' HO461.out).2.2)
    (case side4 => exact (Kd.R_reads' HO461.out).2.1)
    rintro e w285 ⟨rfl, hb⟩
    refine ⟨_, rfl, ?_⟩
    replace HO_428000 := Aside0.mk (Kd.R_below (zR HO_428000) hb)
    replace HO_428001 := Aside0.mk (Kd.S_below (zS HO_428001) hb)
    replace HO_435000 := Aside0.mk (Kd.R_below (zR HO_435000) hb)
    replace HO_435001 := Aside0.mk (Kd.S_below (zS HO_435001) hb)
    replace HO_441002 := Aside0.mk (Kd.R_below (zR HO_441002) hb)
    replace HO_449000 := Aside0.mk (Kd.R_below (zR HO_449000) hb)
    replace HO_449001 := Aside0.mk (Kd.S_below (zS HO_449001) hb)
    replace HO452 := Aside0.mk (Kd.R_below (zR HO452) hb)
    replace HO455 := Aside0.mk (Kd.S_below (zS HO455) hb)
    replace HO461 := Aside0.mk (Kd.R_below (zR HO461) hb)
    replace BK405 := kb BK405 hb
    replace BK406 := kb BK406 hb
    replace BK427 := kb BK427 hb
    replace BK434 := kb BK434 hb
    replace BK440 := kb BK440 hb
    replace BK448 := kb BK448 hb
    replace HB := hB hb
    (try clear hb)
    (try clear hb2)
    (try clear hk)
    (try clear hi)
    refine hK.out _ _ zK (fun hHeld => ?_)
    clear hK K
    refine nd (some 62) ?_
    refine pure_ (i := 4) (N := some 63) (v := ?_) (a' := ?_) #[true, true, true, true, true] rfl rfl (by kernel_rfl) (fun _ _ _ h => h) (Or.inl ⟨(by rfl), ?_⟩) ?_ ?_
    rotate_left
    ·intro w'
     go_simp
     with_reducible rfl
    rotate_left
    ·simp only [Act.put, List.setIfInBounds_toArray, List.set_cons_zero, List.set_cons_succ, i64_w, i32_w]
     rfl
    refine done_ (by kernel_rfl) ?_
    try go_wp2
    go_ret
    exact ⟨ZZab01d2, ZZ295621⟩
   replace c110 := Bool.eq_false_iff.mpr c110
   subst c110
   replace H := ifF H
   obtain rfl := Option.some.inj H
   try go_wp2
   replace HO_428000 := Aside0.mk (Kd.R_drew HO_428000.out)
   replace HO_428001 := Aside0.mk (Kd.S_drew HO_428001.out)
   replace HO_435000 := Aside0.mk (Kd.R_drew HO_435000.out)
   replace HO_435001 := Aside0.mk (Kd.S_drew HO_435001.out)
   replace HO_441002 := Aside0.mk (Kd.R_drew HO_441002.out)
   replace HO_449000 := Aside0.mk (Kd.R_drew HO_449000.out)
   replace HO_449001 := Aside0.mk (Kd.S_drew HO_449001.out)
   replace BK405 := Aside0.mk (blk_drew BK405.out)
   replace BK406 := Aside0.mk (blk_drew BK406.out)
   replace BK427 := Aside0.mk (blk_drew BK427.out)
   replace BK434 := Aside0.mk (blk_drew BK434.out)
   replace BK440 := Aside0.mk (blk_drew BK440.out)
   replace BK448 := Aside0.mk (blk_drew BK448.out)
   replace HB := Aside0.mk (below_drew1 HB.out)
   refine start_ (n := 5) (S := fun w' => w'.cell? ⟨gb434, 0, none⟩ = some (.slice Ao51 t428.length co51) ∧ w'.cell? ⟨gb434, 1, none⟩ = some (.slice Ao56 t431.length co56) ∧ w'.cell? ⟨gb405, 0, none⟩ = some (.slice A0_0 l0_0.length c0_0) ∧ w'.cell? ⟨gb405, 1, none⟩ = some (.slice A0_1 l0_1.length c0_1)) (ds := []) #[false, false, false, false, false] (by kernel_rfl) rfl rfl ⟨(blk_cell BK434.out 0).trans rfl, (blk_cell BK434.out 1).trans rfl, (blk_cell BK405.out 0).trans rfl, (blk_cell BK405.out 1).trans rfl⟩ (fun hHeld => ?_)
   generalize wc.drew = w286 at HO_428000 HO_428001 HO_435000 HO_435001 HO_441002 HO_449000 HO_449001 BK405 BK406 BK427 BK434 BK440 BK448 HB hHeld ⊢
   refine take_ (i := 0) (N := some 54) (v := ?_) (a' := ?_) #[true, false, false, false, false] rfl rfl (by kernel_rfl) (fun _ _ _ h => h) (Or.inl ⟨(by rfl), ?_⟩) hHeld ?_ ?_
   rotate_left
   ·rintro w' ⟨s0, s1, s2, s3⟩
    go_simp
    with_reducible rfl
   rotate_left
   ·simp only [Act.put, List.setIfInBounds_toArray, List.set_cons_zero, List.set_cons_succ, i64_w, i32_w]
    rfl
   refine take_ (i := 1) (N := some 55) (v := ?_) (a' := ?_) #[true, true, false, false, false] rfl rfl (by kernel_rfl) (fun _ _ _ h => h) (Or.inl ⟨(by rfl), ?_⟩) hHeld ?_ ?_
   rotate_left
   ·rintro w' ⟨s0, s1, s2, s3⟩
    go_simp
    with_reducible rfl
   rotate_left
   ·simp only [Act.put, List.setIfInBounds_toArray, List.set_cons_zero, List.set_cons_succ, i64_w, i32_w]
    rfl
   refine one_ (i := 2) (N := some 56) #[true, true, true, false, false] rfl rfl (by kernel_rfl) (by decide) (fun K hK => ?_)
   refine goes_ Tryd.func16 (by kernel_rfl) rfl #[.agg #[.slice A0_0 l0_0.length c0_0, .slice A0_1 l0_1.length c0_1]] (by rfl) rfl rfl ZZ19826e ?_
   with_reducible refine (laws_toLedger.calls kj24 _ _ l0_0 _ _ l0_1 t450 t453 _ ?side1 ?side2 ?side3 ?side4 A108.out).mono ?_
   (case side1 => exact (rC (Kd.C_below HR0_0.out HB.out)))
   (case side2 => exact HC0_0.out)
   (case side3 => exact (rC (Kd.C_below HR0_1.out HB.out)))
   (case side4 => exact HC0_1.out)
   rintro e w287 ⟨v451, v454, rfl, ho0, ho1, hb⟩
   refine ⟨_, rfl, ?_⟩
   have HO452 := Aside0.mk (Kd.R_lower (Kd.R_new' (Kd.R_new' (Kd.R_new' ho0 (Kd.R_lt (zR HO_428000))) (Kd.R_lt (zR HO_435000))) (Kd.R_lt (zR HO_449000))) (below_size ZZ295621))
   replace HO_428000 := Aside0.mk (Kd.R_elder' (zR HO_428000) (Kd.R_base ho0) hb)
   replace HO_435000 := Aside0.mk (Kd.R_elder' (zR HO_435000) (Kd.R_base ho0) hb)
   replace HO_449000 := Aside0.mk (Kd.R_elder' (zR HO_449000) (Kd.R_base ho0) hb)
   have HO455 := Aside0.mk (Kd.S_lower (Kd.S_newB (Kd.S_new' (Kd.S_new' (Kd.S_new' (Kd.S_new' ho1 (Kd.S_lt (zS HO_428001))) (Kd.S_lt (zS HO_435001))) (Kd.R_lt (zR HO_441002))) (Kd.S_lt (zS HO_449001))) (zB BK440)) (below_size ZZ295621))
   replace HO_428001 := Aside0.mk (Kd.S_elder' (zS HO_428001) (Kd.S_base ho1) hb)
   replace HO_435001 := Aside0.mk (Kd.S_elder' (zS HO_435001) (Kd.S_base ho1) hb)
   replace HO_441002 := Aside0.mk (Kd.R_below (zR HO_441002) hb)
   replace HO_449001 := Aside0.mk (Kd.S_elder' (zS HO_449001) (Kd.S_base ho1) hb)
   replace BK405 := kb BK405 hb
   replace BK406 := kb BK406 hb
   replace BK427 := kb BK427 hb
   replace BK434 := kb BK434 hb
   replace BK440 := kb BK440 hb
   replace BK448 := kb BK448 hb
   replace HB := hB hb
   (try clear hb)
   (try clear hb2)
   (try clear hk)
   (try clear hi)
   (try clear ho0)
   (try clear ho1)
   obtain ⟨Ao288, co288, eo288⟩ := Kd.R_slice HO452.out
   (first | subst eo288 | (injection eo288 with f1_ f2_ f3_; have f4_ := f1_.symm; have f5_ := f3_.symm; clear f1_ f2_ f3_; subst f4_; subst f5_))
   obtain ⟨Ao289, co289, eo289⟩ := Kd.S_slice HO455.out
   (first | subst eo289 | (injection eo289 with f1_ f2_ f3_; have f4_ := f1_.symm; have f5_ := f3_.symm; clear f1_ f2_ f3_; subst f4_; subst f5_))
   refine hK.out _ _ zK (fun hHeld => ?_)
   clear hK K
   refine nd (some 56) ?_
   refine one_ (i := 3) (N := some 57) #[true, true, true, true, false] rfl rfl (by kernel_rfl) (by decide) (fun K hK => ?_)
   refine goes_ Tryd.func18 (by kernel_rfl) rfl #[.agg #[.slice Ao51 t428.length co51, .slice Ao56 t431.length co56], .agg #[.slice Ao288 t450.length co288, .slice Ao289 t453.length co289]] (by rfl) rfl rfl ZZ19826e ?_
   with_reducible refine (laws_eqLedger.calls kj24 _ _ t428 _ _ t431 _ _ t450 _ _ t453 false _ ?side1 ?side2 ?side3 ?side4 ?side5 ?side6 ?side7 ?side8 A109.out).mono ?_
   (case side1 => exact rC (Kd.R_reads' HO_435000.out).2.2)
   (case side2 => exact (Kd.R_reads' HO_435000.out).2.1)
   (case side3 => exact rC (Kd.S_reads' HO_435001.out).2.2)
   (case side4 => exact (Kd.S_reads' HO_435001.out).2.1)
   (case side5 => exact rC (Kd.R_reads' HO452.out).2.2)
   (case side6 => exact (Kd.R_reads' HO452.out).2.1)
   (case side7 => exact rC (Kd.S_reads' HO455.out).2.2)
   (case side8 => exact (Kd.S_reads' HO455.out).2.1)
   rintro e w290 ⟨rfl, hb⟩
   refine ⟨_, rfl, ?_⟩
   replace HO_428000 := Aside0.mk (Kd.R_below (zR HO_428000) hb)
   replace HO_428001 := Aside0.mk (Kd.S_below (zS HO_428001) hb)
   replace HO_435000 := Aside0.mk (Kd.R_below (zR HO_435000) hb)
   replace HO_435001 := Aside0.mk (Kd.S_below (zS HO_435001) hb)
   replace HO_441002 := Aside0.mk (Kd.R_below (zR HO_441002) hb)
   replace HO_449000 := Aside0.mk (Kd.R_below (zR HO_449000) hb)
   replace HO_449001 := Aside0.mk (Kd.S_below (zS HO_449001) hb)
   replace HO452 := Aside0.mk (Kd.R_below (zR HO452) hb)
   replace HO455 := Aside0.mk (Kd.S_below (zS HO455) hb)
   replace BK405 := kb BK405 hb
   replace BK406 := kb BK406 hb
   replace BK427 := kb BK427 hb
   replace BK434 := kb BK434 hb
   replace BK440 := kb BK440 hb
   replace BK448 := kb BK448 hb
   replace HB := hB hb
   (try clear hb)
   (try clear hb2)
   (try clear hk)
   (try clear hi)
   refine hK.out _ _ zK (fun hHeld => ?_)
   clear hK K
   refine nd (some 57) ?_
   refine pure_ (i := 4) (N := some 58) (v := ?_) (a' := ?_) #[true, true, true, true, true] rfl rfl (by kernel_rfl) (fun _ _ _ h => h) (Or.inl ⟨(by rfl), ?_⟩) ?_ ?_
   rotate_left
   ·intro w'
    go_simp
    with_reducible rfl
   rotate_left
   ·simp only [Act.put, List.setIfInBounds_toArray, List.set_cons_zero, List.set_cons_succ, i64_w, i32_w]
    rfl
   refine done_ (by kernel_rfl) ?_
   try go_wp2
   go_ret
   exact ⟨ZZab01d2, ZZ295621⟩
end Go.Proofs.YtccdjchaaeligaaDoor.XFnExactPostEntry

/- The pure statement of the law FnLedger, proved: what the program computes agrees with the reference, in plain Lean. -/
import Derived.Test.YtccdjchaaeligaaDoorXGFnLedger
import Derived.Test.YtccdjchaaeligaaDoorXPlain
import Derived.Lib.ItoaLen
import Derived.Laws.Bits64b
import Derived.Laws.BitsLemmas
set_option linter.unusedVariables false
set_option linter.unusedSimpArgs false
namespace Go.Proofs.YtccdjchaaeligaaDoor.Pure
open Go.RowKit Go.Proofs.YtccdjchaaeligaaDoor Go.Proofs.YtccdjchaaeligaaDoor.XFnLedger Go.Proofs.YtccdjchaaeligaaDoor.XGFnLedger Go.Proofs.YtccdjchaaeligaaDoorW.PrintWords Go.Proofs.YtccdjchaaeligaaDoorW.PrintLast Go.Proofs.YtccdjchaaeligaaDoor.Plain

theorem l1In_eq (a b c : Int) : spec_l1In.f a b c = some (decide (b ≤ a) && decide (a ≤ c)) := by
  unfold spec_l1In.f
  by_cases h : a ≥ b
  · rw [if_pos h, decide_eq_true (show b ≤ a from h), Bool.true_and]
  · rw [if_neg h, decide_eq_false (show ¬ b ≤ a from h), Bool.false_and]
theorem within_eq (a b c : Int) : impl_within.f a b c = some (decide (b ≤ a) && decide (a ≤ c)) := by
  unfold impl_within.f
  by_cases h : a ≥ b
  · rw [if_pos h, decide_eq_true (show b ≤ a from h), Bool.true_and]
  · rw [if_neg h, decide_eq_false (show ¬ b ≤ a from h), Bool.false_and]

theorem rdA {l : List S48} {i : Nat} {x : S48} {r : List S48} (hd : l.drop i = x :: r) : rd_T48 l (i : Int) = x := by rw [rd_T48, Int.toNat_natCast]; exact (getD_at hd).2.1
theorem rdP {l : List S70} {i : Nat} {x : S70} {r : List S70} (hd : l.drop i = x :: r) : rd_T70 l (i : Int) = x := by rw [rd_T70, Int.toNat_natCast]; exact (getD_at hd).2.1
theorem rdE {l : List S63} {i : Nat} {x : S63} {r : List S63} (hd : l.drop i = x :: r) : rd_T63 l (i : Int) = x := by rw [rd_T63, Int.toNat_natCast]; exact (getD_at hd).2.1
theorem mem_drop {α : Type} {l : List α} {i : Nat} {x : α} {r : List α} (hd : l.drop i = x :: r) : x ∈ l := List.mem_of_mem_drop (by rw [hd]; simp)
/-- The sizes of what the laws hand on. -/
def Fits (a : List S48) (e : List S63) : Prop := a.length ≤ 1048576 ∧ e.length ≤ 1048576 ∧ ∀ y ∈ e, y.f2.length ≤ 1048576
def bIn (a b c : Int) : Bool := decide (b ≤ a) && decide (a ≤ c)
theorem bIn_iff (a b c : Int) : bIn a b c = true ↔ b ≤ a ∧ a ≤ c := by unfold bIn; simp
theorem l1In_b (a b c : Int) : spec_l1In.f a b c = some (bIn a b c) := l1In_eq a b c
theorem within_b (a b c : Int) : impl_within.f a b c = some (bIn a b c) := within_eq a b c
def amt (a : Int) : Bool := bIn a (-1000000000) 1000000000
theorem amt_iff (a : Int) : amt a = true ↔ -1000000000 ≤ a ∧ a ≤ 1000000000 := bIn_iff _ _ _
theorem l2Amount_eq (a : Int) : spec_l2Amount.f a = some (amt a) := by unfold spec_l2Amount.f; rw [l1In_b]; rfl
theorem isAmount_eq (a : Int) : impl_isAmount.f a = some (amt a) := by unfold impl_isAmount.f; rw [within_b]; rfl
def dayOk (a : Int) : Bool := bIn a 0 36524
theorem l3Good_eq (a : Int) : spec_l3Good.f a = some (dayOk a) := by unfold spec_l3Good.f; rw [l1In_b]; rfl
theorem isDay_eq (a : Int) : impl_isDay.f a = some (dayOk a) := by unfold impl_isDay.f; rw [within_b]; rfl
def low (b : UInt8) : Bool := decide (97 ≤ b.toNat) && decide (b.toNat ≤ 122)
def nameOk (s : ByteArray) : Bool := s.data.toList.all low && bIn (s.size : Int) 1 8
theorem l26Name_ev (s : ByteArray) (hs : s.size ≤ 9223372036854775807) : Ev (fun k => spec_l26Name.f k s) (nameOk s) := by
  unfold spec_l26Name.f nameOk
  refine bytes_ind0 s (fun i rest => Ev (fun k => spec_l26Name.l0 k s i) (rest.all low && bIn (s.size : Int) 1 8)) ?_ ?_
  · refine Ev.step (fun k => by simp only [spec_l26Name.l0]; rfl) ?_
    simp only [Int.lt_irrefl, if_false, List.all_nil, Bool.true_and, l1In_b, Option.bind_some]
    exact Ev.now _
  · intro i b rest hi hb hd ih
    refine Ev.step (fun k => by simp only [spec_l26Name.l0]; rfl) ?_
    simp only [if_pos (show (i : Int) < (s.size : Int) by omega), if_pos (show (0 : Int) ≤ i by omega), hb, wrap_in (show -9223372036854775808 ≤ (i : Int) + 1 by omega) (by omega), List.all_cons, low]
    by_cases h1 : b.toNat < 97
    · simp only [if_pos (show (b.toNat : Int) < 97 by omega), decide_eq_false (show ¬ 97 ≤ b.toNat by omega), Bool.false_and]; exact Ev.now _
    · by_cases h2 : b.toNat > 122
      · simp only [if_neg (show ¬ (b.toNat : Int) < 97 by omega), if_pos (show (b.toNat : Int) > 122 by omega), decide_eq_false (show ¬ b.toNat ≤ 122 by omega), Bool.and_false, Bool.false_and]; exact Ev.now _
      · simp only [if_neg (show ¬ (b.toNat : Int) < 97 by omega), if_neg (show ¬ (b.toNat : Int) > 122 by omega), decide_eq_true (show 97 ≤ b.toNat by omega), decide_eq_true (show b.toNat ≤ 122 by omega), Bool.true_and]
        exact ih
def letters : ByteArray := ⟨#[97, 98, 99, 100, 101, 102, 103, 104, 105, 106, 107, 108, 109, 110, 111, 112, 113, 114, 115, 116, 117, 118, 119, 120, 121, 122]⟩
theorem letters_low (b : UInt8) : letters.data.toList.contains b = low b := by
  unfold letters low
  rw [Bool.eq_iff_iff]
  simp [← UInt8.toNat_inj]
  omega
theorem trim_nil (l cs : List UInt8) : (Lib.trimS l cs = []) ↔ ∀ x ∈ l, cs.contains x = true := by
  have left : ∀ m : List UInt8, (Lib.trimLeftS m cs = []) ↔ ∀ x ∈ m, cs.contains x = true := by
    intro m
    unfold Lib.trimLeftS
    induction m with
    | nil => simp
    | cons b m ih =>
      rw [List.dropWhile_cons]
      by_cases hb : cs.contains b = true
      · rw [if_pos hb, ih]
        constructor
        · intro h x hx
          rcases List.mem_cons.1 hx with rfl | hx
          · exact hb
          · exact h x hx
        · exact fun h x hx => h x (List.mem_cons_of_mem _ hx)
      · rw [if_neg hb]
        constructor
        · intro h; cases h
        · intro h; exact absurd (h b (by simp)) hb
  have right : ∀ m : List UInt8, (∀ x ∈ Lib.trimRightS m cs, cs.contains x = true) → ∀ x ∈ m, cs.contains x = true := by
    intro m h
    have hd : ∀ p : List UInt8, (∀ x ∈ p.dropWhile (cs.contains ·), cs.contains x = true) → ∀ x ∈ p, cs.contains x = true := by
      intro p
      induction p with
      | nil => simp
      | cons b p ih =>
        intro h x hx
        rw [List.dropWhile_cons] at h
        by_cases hb : cs.contains b = true
        · rw [if_pos hb] at h
          rcases List.mem_cons.1 hx with rfl | hx
          · exact hb
          · exact ih h x hx
        · rw [if_neg hb] at h
          exact absurd (h b (by simp)) hb
    intro x hx
    refine hd m.reverse (fun y hy => h y ?_) x (by simpa using hx)
    unfold Lib.trimRightS
    simpa using hy
  unfold Lib.trimS
  rw [left]
  constructor
  · exact right l
  · intro h x hx
    unfold Lib.trimRightS at hx
    exact h x (by simpa using (List.dropWhile_sublist _).mem (List.mem_reverse.1 hx))
theorem isAccountName_eq (s : ByteArray) (hs : s.size ≤ 9223372036854775807) : impl_isAccountName.f s = some (nameOk s) := by
  unfold impl_isAccountName.f nameOk
  rw [within_b]
  simp only [Option.bind_some]
  cases h : bIn (s.size : Int) 1 8 with
  | false => simp
  | true =>
    have ht : strings_Trim.f s letters = some ⟨(Lib.trimS s.data.toList letters.data.toList).toArray⟩ := by
      unfold strings_Trim.f
      rw [if_pos ⟨hs, by decide, by decide⟩]
    simp only [if_true]
    show (strings_Trim.f s letters).bind (fun t192 => some (t192.toList == ([] : List UInt8))) = _
    rw [ht]
    simp only [Option.bind_some, Bool.and_true]
    congr 1
    rw [Bool.eq_iff_iff, beq_iff_eq, ByteArray.toList_eq, List.all_eq_true]
    simp only [← letters_low]
    exact trim_nil _ _
def memoOk (s : ByteArray) : Bool := s.data.toList.all (fun b => decide (32 ≤ b.toNat) && decide (b.toNat ≤ 126)) && decide (s.size ≤ 30)
theorem isMemo_ev (s : ByteArray) (hs : s.size ≤ 9223372036854775807) : Ev (fun k => impl_isMemo.f k s) (memoOk s) := by
  unfold impl_isMemo.f memoOk
  refine bytes_ind0 s (fun i rest => Ev (fun k => impl_isMemo.l0 k s (s.size : Int) i) (rest.all (fun b => decide (32 ≤ b.toNat) && decide (b.toNat ≤ 126)) && decide (s.size ≤ 30))) ?_ ?_
  · refine Ev.step (fun k => by simp only [impl_isMemo.l0]; rfl) ?_
    simp only [Int.lt_irrefl, if_false, List.all_nil, Bool.true_and]
    refine Ev.some ?_
    rw [Bool.eq_iff_iff, decide_eq_true_iff, decide_eq_true_iff]; omega
  · intro i b rest hi hb hd ih
    refine Ev.step (fun k => by simp only [impl_isMemo.l0]; rfl) ?_
    simp only [if_pos (show (i : Int) < (s.size : Int) by omega), if_pos (show (0 : Int) ≤ i by omega), hb, wrap_in (show -9223372036854775808 ≤ (i : Int) + 1 by omega) (by omega), List.all_cons]
    by_cases h1 : b.toNat < 32
    · simp only [if_pos (show (b.toNat : Int) < 32 by omega), decide_eq_false (show ¬ 32 ≤ b.toNat by omega), Bool.false_and]; exact Ev.now _
    · by_cases h2 : b.toNat > 126
      · simp only [if_neg (show ¬ (b.toNat : Int) < 32 by omega), if_pos (show (b.toNat : Int) > 126 by omega), decide_eq_false (show ¬ b.toNat ≤ 126 by omega), Bool.and_false, Bool.false_and]; exact Ev.now _
      · simp only [if_neg (show ¬ (b.toNat : Int) < 32 by omega), if_neg (show ¬ (b.toNat : Int) > 126 by omega), decide_eq_true (show 32 ≤ b.toNat by omega), decide_eq_true (show b.toNat ≤ 126 by omega), Bool.true_and]
        exact ih
/-- The rest of an entry's postings, behind the one that stood last and with the sum so far. -/
def postR (n : Int) : Option S70 → List S70 → Int → Bool
  | _, [], s => s == 0
  | p, x :: r, s => bIn x.f0 0 (n - 1) && amt x.f1 && !(x.f1 == 0) && (match p with | none => true | some q => decide (q.f0 < x.f0)) && postR n (some x) r (s + x.f1)
def postOk (n : Int) (l : List S70) : Bool := bIn (l.length : Int) 2 8 && postR n none l 0
def entryOk (n : Int) (x : S63) : Bool := dayOk x.f0 && memoOk x.f1 && postOk n x.f2
/-- The last of the first i elements. -/
def prevOf {α : Type} (l : List α) (i : Nat) : Option α := if i = 0 then none else l[i - 1]?
theorem prevOf_succ {α : Type} {l : List α} {i : Nat} {x : α} {r : List α} (hd : l.drop i = x :: r) : prevOf l (i + 1) = some x := by
  unfold prevOf
  rw [if_neg (by omega), Nat.add_sub_cancel]
  have := (getD_at (d := x) hd)
  rw [List.getElem?_eq_getElem this.1]
  have h2 := this.2.1
  rw [List.getD_eq_getElem?_getD, List.getElem?_eq_getElem this.1] at h2
  simpa using h2
theorem prev_rd {l : List S70} {i : Nat} (h0 : 0 < i) (h1 : i ≤ l.length) : prevOf l i = some (rd_T70 l ((i : Int) - 1)) := by
  unfold prevOf rd_T70
  rw [if_neg (by omega), show ((i : Int) - 1).toNat = i - 1 by omega, List.getD_eq_getElem?_getD, List.getElem?_eq_getElem (show i - 1 < l.length by omega)]
  rfl
theorem prevE_rd {l : List S63} {i : Nat} (h0 : 0 < i) (h1 : i ≤ l.length) : prevOf l i = some (rd_T63 l ((i : Int) - 1)) := by
  unfold prevOf rd_T63
  rw [if_neg (by omega), show ((i : Int) - 1).toNat = i - 1 by omega, List.getD_eq_getElem?_getD, List.getElem?_eq_getElem (show i - 1 < l.length by omega)]
  rfl
theorem specEntry_l1 (n : Int) (hn : 0 ≤ n ∧ n ≤ 1048576) (a : Int) (b : ByteArray) (l : List S70) (hl : l.length ≤ 1048576) : ∀ s : Int, -1000000000 * 0 ≤ s ∧ s ≤ 0 → Ev (fun k => spec_l26Entry.l1 k n s 0 a b l) (postR n none l s) := by
  have key := list_ind0 l (fun i rest => ∀ s : Int, -(1000000000 * (i : Int)) ≤ s ∧ s ≤ 1000000000 * (i : Int) → Ev (fun k => spec_l26Entry.l1 k n s i a b l) (postR n (prevOf l i) rest s)) ?_ ?_
  · intro s hs; exact key s (by omega)
  · intro s _
    refine Ev.step (fun k => by simp only [spec_l26Entry.l1]; rfl) ?_
    simp only [Int.lt_irrefl, if_false]
    refine Ev.some ?_
    cases prevOf l l.length <;> rfl
  · intro i x rest hi hd ih s hs
    have hw : wrap64 (n - 1) = n - 1 := wrap_in (by omega) (by omega)
    have hi1 : wrap64 ((i : Int) + 1) = (i : Int) + 1 := wrap_in (by omega) (by omega)
    have hi0 : wrap64 ((i : Int) - 1) = (i : Int) - 1 := wrap_in (by omega) (by omega)
    have j3 (c : Bool) (hc : c = false → amt x.f1 = true) : Ev (fun k => spec_l26Entry.j3 k n s i c a b l x.f0 x.f1) (!c && postR n (some x) rest (s + x.f1)) := by
      refine Ev.step (fun k => by simp only [spec_l26Entry.j3]; rfl) ?_
      cases c with
      | true => simp only [if_true, Bool.not_true, Bool.false_and]; exact Ev.now _
      | false =>
        have ha := (amt_iff _).1 (hc rfl)
        simp only [Bool.false_eq_true, if_false, Bool.not_false, Bool.true_and, hi1, wrap_in (show -9223372036854775808 ≤ s + x.f1 by omega) (by omega)]
        have := ih (s + x.f1) (by omega)
        rw [prevOf_succ hd] at this
        exact this
    refine Ev.step (fun k => by simp only [spec_l26Entry.l1]; rfl) ?_
    simp only [if_pos (show (i : Int) < (l.length : Int) by omega), if_pos (show (0 : Int) ≤ i by omega), rdP hd, l1In_b, Option.bind_some, l2Amount_eq, hw, hi0, postR]
    cases h1 : bIn x.f0 0 (n - 1) with
    | false => simp only [Bool.false_eq_true, if_false, Bool.false_and]; exact j3 true (by simp)
    | true =>
      simp only [if_true, Bool.true_and]
      cases h2 : amt x.f1 with
      | false => simp only [Bool.false_eq_true, if_false, Bool.false_and]; exact j3 true (by simp)
      | true =>
        simp only [if_true, Bool.true_and]
        by_cases h3 : x.f1 = 0
        · simp only [if_pos h3, beq_iff_eq.2 h3, Bool.not_true, Bool.false_and]; exact j3 true (by simp)
        · simp only [if_neg h3, beq_eq_false_iff_ne.2 h3, Bool.not_false, Bool.true_and]
          by_cases h4 : i = 0
          · subst h4
            simp only [show ¬ ((0 : Nat) : Int) > 0 by omega, if_false, prevOf, if_true, Bool.true_and]
            exact j3 false (fun _ => h2)
          · rw [prev_rd (show 0 < i by omega) (by omega)]
            simp only [if_pos (show (i : Int) > 0 by omega), if_pos (show (0 : Int) ≤ (i : Int) - 1 by omega), if_pos (show (i : Int) - 1 < (l.length : Int) by omega)]
            have := j3 (decide ((rd_T70 l ((i : Int) - 1)).f0 ≥ x.f0)) (fun _ => h2)
            have e : decide ((rd_T70 l ((i : Int) - 1)).f0 < x.f0) = !decide ((rd_T70 l ((i : Int) - 1)).f0 ≥ x.f0) := by
              rw [Bool.eq_iff_iff, Bool.not_eq_true', decide_eq_true_iff, decide_eq_false_iff_not]; omega
            rw [e]
            exact this
theorem specEntry_l0 (n : Int) (a : Int) (b : ByteArray) (l : List S70) (hb : b.size ≤ 9223372036854775807) (r : Bool) (hr : Ev (fun k => spec_l26Entry.l1 k n 0 0 a b l) r) : Ev (fun k => spec_l26Entry.l0 k n 0 a b l) (b.data.toList.all (fun b => decide (32 ≤ b.toNat) && decide (b.toNat ≤ 126)) && r) := by
  refine bytes_ind0 b (fun i rest => Ev (fun k => spec_l26Entry.l0 k n i a b l) (rest.all (fun b => decide (32 ≤ b.toNat) && decide (b.toNat ≤ 126)) && r)) ?_ ?_
  · refine Ev.step (fun k => by simp only [spec_l26Entry.l0]; rfl) ?_
    simp only [Int.lt_irrefl, if_false, List.all_nil, Bool.true_and]
    exact hr
  · intro i c rest hi hc hd ih
    refine Ev.step (fun k => by simp only [spec_l26Entry.l0]; rfl) ?_
    simp only [if_pos (show (i : Int) < (b.size : Int) by omega), if_pos (show (0 : Int) ≤ i by omega), hc, wrap_byte, l1In_b, Option.bind_some, wrap_in (show -9223372036854775808 ≤ (i : Int) + 1 by omega) (by omega), List.all_cons]
    have e : (decide (32 ≤ c.toNat) && decide (c.toNat ≤ 126)) = bIn (c.toNat : Int) 32 126 := by
      rw [Bool.eq_iff_iff, bIn_iff, Bool.and_eq_true, decide_eq_true_iff, decide_eq_true_iff]; omega
    rw [e]
    cases h : bIn (c.toNat : Int) 32 126 with
    | false => simp only [Bool.false_eq_true, if_false, Bool.false_and]; exact Ev.now _
    | true => simp only [if_true, Bool.true_and]; exact ih
theorem specEntry_ev (n : Int) (hn : 0 ≤ n ∧ n ≤ 1048576) (x : S63) (hb : x.f1.size ≤ 9223372036854775807) (hl : x.f2.length ≤ 1048576) : Ev (fun k => spec_l26Entry.f k x.f0 x.f1 x.f2 n) (entryOk n x) := by
  have j (c : Bool) (hc : c = !(dayOk x.f0 && decide (x.f1.size ≤ 30) && bIn (x.f2.length : Int) 2 8)) : Ev (fun k => spec_l26Entry.j0 k n c x.f0 x.f1 x.f2) (entryOk n x) := by
    subst hc
    refine Ev.step (fun k => by simp only [spec_l26Entry.j0]; rfl) ?_
    unfold entryOk memoOk postOk
    cases h : (dayOk x.f0 && decide (x.f1.size ≤ 30) && bIn (x.f2.length : Int) 2 8) with
    | false =>
      simp only [Bool.not_false, if_true]
      refine Ev.some ?_
      cases h1 : dayOk x.f0 <;> cases h2 : decide (x.f1.size ≤ 30) <;> cases h3 : bIn (x.f2.length : Int) 2 8 <;> simp_all
    | true =>
      simp only [Bool.and_eq_true] at h
      obtain ⟨⟨h1, h2⟩, h3⟩ := h
      simp only [Bool.not_true, Bool.false_eq_true, if_false, h1, h2, h3, Bool.true_and, Bool.and_true]
      exact specEntry_l0 n x.f0 x.f1 x.f2 hb _ (specEntry_l1 n hn x.f0 x.f1 x.f2 hl 0 (by omega))
  unfold spec_l26Entry.f
  simp only [l3Good_eq, l1In_b, Option.bind_some]
  cases h1 : dayOk x.f0 with
  | false => simp only [Bool.false_eq_true, if_false]; exact j true (by simp [h1])
  | true =>
    simp only [if_true]
    by_cases h2 : (x.f1.size : Int) > 30
    · simp only [if_pos h2]; exact j true (by rw [decide_eq_false (show ¬ x.f1.size ≤ 30 by omega)]; simp)
    · simp only [if_neg h2]; exact j _ (by rw [h1, decide_eq_true (show x.f1.size ≤ 30 by omega)]; simp)
theorem isPosted_ev (n : Int) (hn : 0 ≤ n ∧ n ≤ 1048576) (a : Int) (b : ByteArray) (l : List S70) (hl : l.length ≤ 1048576) : Ev (fun k => impl_isPosted.f k a b l n) (postOk n l) := by
  have key := list_ind0 l (fun i rest => ∀ s : Int, -(1000000000 * (i : Int)) ≤ s ∧ s ≤ 1000000000 * (i : Int) → Ev (fun k => impl_isPosted.l0 k n s l (l.length : Int) i a b l) (bIn (l.length : Int) 2 8 && postR n (prevOf l i) rest s)) ?_ ?_
  · unfold impl_isPosted.f postOk
    exact key 0 (by omega)
  · intro s _
    refine Ev.step (fun k => by simp only [impl_isPosted.l0]; rfl) ?_
    simp only [Int.lt_irrefl, if_false, within_b, Option.bind_some]
    have e : postR n (prevOf l l.length) ([] : List S70) s = (s == 0) := by cases prevOf l l.length <;> rfl
    rw [e]
    cases h : bIn (l.length : Int) 2 8 with
    | false => simp only [Bool.false_eq_true, if_false, Bool.false_and]; exact Ev.now _
    | true => simp only [if_true, Bool.true_and]; exact Ev.now _
  · intro i x rest hi hd ih s hs
    have hw : wrap64 (n - 1) = n - 1 := wrap_in (by omega) (by omega)
    have hi1 : wrap64 ((i : Int) + 1) = (i : Int) + 1 := wrap_in (by omega) (by omega)
    have hi0 : wrap64 ((i : Int) - 1) = (i : Int) - 1 := wrap_in (by omega) (by omega)
    have j1 (c : Bool) (hc : c = false → amt x.f1 = true) : Ev (fun k => impl_isPosted.j1 k n s l (l.length : Int) i c a b l x.f0 x.f1) (bIn (l.length : Int) 2 8 && (!c && postR n (some x) rest (s + x.f1))) := by
      refine Ev.step (fun k => by simp only [impl_isPosted.j1]; rfl) ?_
      cases c with
      | true => simp only [if_true, Bool.not_true, Bool.false_and, Bool.and_false]; exact Ev.now _
      | false =>
        have ha := (amt_iff _).1 (hc rfl)
        simp only [Bool.false_eq_true, if_false, Bool.not_false, Bool.true_and, hi1, wrap_in (show -9223372036854775808 ≤ s + x.f1 by omega) (by omega)]
        have := ih (s + x.f1) (by omega)
        rw [prevOf_succ hd] at this
        exact this
    refine Ev.step (fun k => by simp only [impl_isPosted.l0]; rfl) ?_
    simp only [if_pos (show (i : Int) < (l.length : Int) by omega), if_pos (show (0 : Int) ≤ i by omega), rdP hd, within_b, Option.bind_some, isAmount_eq, hw, hi0, postR]
    cases h1 : bIn x.f0 0 (n - 1) with
    | false => simp only [Bool.false_eq_true, if_false, Bool.false_and]; exact j1 true (by simp)
    | true =>
      simp only [if_true, Bool.true_and]
      have tail : ∀ g : Bool, g = true → ∀ R : Bool, R = (amt x.f1 && !(x.f1 == 0) && g && postR n (some x) rest (s + x.f1)) → Ev (fun k => if x.f1 = 0 then impl_isPosted.j1 k n s l (l.length : Int) i true a b l x.f0 x.f1 else impl_isPosted.j1 k n s l (l.length : Int) i (!amt x.f1) a b l x.f0 x.f1) (bIn (l.length : Int) 2 8 && R) := by
        intro g hg R hR
        subst hg hR
        by_cases h3 : x.f1 = 0
        · simp only [if_pos h3, beq_iff_eq.2 h3, Bool.not_true, Bool.and_false, Bool.false_and]
          have := j1 true (by simp)
          simpa using this
        · simp only [if_neg h3, beq_eq_false_iff_ne.2 h3, Bool.not_false, Bool.and_true]
          cases h2 : amt x.f1 with
          | false => simp only [Bool.not_false, Bool.false_and]; simpa using j1 true (by simp)
          | true => simp only [Bool.not_true, Bool.true_and]; simpa using j1 false (fun _ => h2)
      by_cases h4 : i = 0
      · subst h4
        simp only [show ¬ ((0 : Nat) : Int) > 0 by omega, if_false, prevOf, if_true]
        exact tail true rfl _ rfl
      · rw [prev_rd (show 0 < i by omega) (by omega)]
        simp only [if_pos (show (i : Int) > 0 by omega), if_pos (show (0 : Int) ≤ (i : Int) - 1 by omega), if_pos (show (i : Int) - 1 < (l.length : Int) by omega)]
        by_cases h5 : x.f0 ≤ (rd_T70 l ((i : Int) - 1)).f0
        · simp only [if_pos h5, decide_eq_false (show ¬ (rd_T70 l ((i : Int) - 1)).f0 < x.f0 by omega), Bool.and_false, Bool.false_and]
          simpa using j1 true (by simp)
        · simp only [if_neg h5]
          exact tail _ (decide_eq_true (by omega)) _ rfl
def acctOk (x : S48) : Bool := nameOk x.f0 && bIn x.f1 1 5
/-- The rest of the accounts, behind the first ones. -/
def acR : List S48 → List S48 → Bool
  | _, [] => true
  | pre, x :: r => acctOk x && !(pre.any fun y => decide (y.f0.toList = x.f0.toList)) && acR (pre ++ [x]) r
theorem accounts_l1 (l : List S48) (hl : l.length ≤ 1048576) (i : Nat) (x : S48) (rest : List S48) (hd : l.drop i = x :: rest) (r : Bool) (hr : Ev (fun k => spec_l26Accounts.l0 k l ((i : Int) + 1)) r) : ∀ (m j : Nat), j + m = i → Ev (fun k => spec_l26Accounts.l1 k l i j) (!((l.take i).drop j).any (fun y => decide (y.f0.toList = x.f0.toList)) && r)
  | 0, j, h => by
    have hi := (getD_at (d := x) hd).1
    refine Ev.step (fun k => by simp only [spec_l26Accounts.l1]; rfl) ?_
    simp only [if_neg (show ¬ (j : Int) < (i : Int) by omega), wrap_in (show -9223372036854775808 ≤ (i : Int) + 1 by omega) (by omega)]
    rw [List.drop_eq_nil_of_le (by simp; omega)]
    exact hr
  | m + 1, j, h => by
    have hi := (getD_at (d := x) hd).1
    have hj : (l.take i).drop j = rd_T48 l (j : Int) :: (l.take i).drop (j + 1) := by
      have hlt : j < (l.take i).length := by simp; omega
      rw [List.drop_eq_getElem_cons hlt]
      congr 1
      rw [rd_T48, Int.toNat_natCast, List.getD_eq_getElem?_getD, List.getElem?_eq_getElem (show j < l.length by omega)]
      simp
    have ih := accounts_l1 l hl i x rest hd r hr m (j + 1) (by omega)
    refine Ev.step (fun k => by simp only [spec_l26Accounts.l1]; rfl) ?_
    simp only [if_pos (show (j : Int) < (i : Int) by omega), if_pos (show (0 : Int) ≤ j by omega), if_pos (show (j : Int) < (l.length : Int) by omega), if_pos (show (0 : Int) ≤ i by omega), if_pos (show (i : Int) < (l.length : Int) by omega), rdA hd, wrap_in (show -9223372036854775808 ≤ (j : Int) + 1 by omega) (by omega)]
    rw [hj, List.any_cons]
    by_cases h' : (rd_T48 l (j : Int)).f0.toList = x.f0.toList
    · simp only [if_pos h', decide_eq_true h', Bool.true_or, Bool.not_true, Bool.false_and]; exact Ev.now _
    · simp only [if_neg h', decide_eq_false h', Bool.false_or]; exact ih
theorem accounts_ev (l : List S48) (hl : l.length ≤ 1048576) (hs : ∀ y ∈ l, y.f0.size ≤ 9223372036854775807) : Ev (fun k => spec_l26Accounts.f k l) (acR [] l && decide (l.length ≤ 12)) := by
  unfold spec_l26Accounts.f
  refine list_ind0 l (fun i rest => Ev (fun k => spec_l26Accounts.l0 k l i) (acR (l.take i) rest && decide (l.length ≤ 12))) ?_ ?_
  · refine Ev.step (fun k => by simp only [spec_l26Accounts.l0]; rfl) ?_
    simp only [Int.lt_irrefl, if_false, acR, Bool.true_and]
    refine Ev.some ?_
    rw [Bool.eq_iff_iff, decide_eq_true_iff, decide_eq_true_iff]; omega
  · intro i x rest hi hd ih
    rw [take_succ_at hd] at ih
    have j1 (c : Bool) : Ev (fun k => spec_l26Accounts.j1 k l i c) (!c && (!((l.take i).any fun y => decide (y.f0.toList = x.f0.toList)) && (acR (l.take i ++ [x]) rest && decide (l.length ≤ 12)))) := by
      refine Ev.step (fun k => by simp only [spec_l26Accounts.j1]; rfl) ?_
      cases c with
      | true => simp only [if_true, Bool.not_true, Bool.false_and]; exact Ev.now _
      | false =>
        simp only [Bool.false_eq_true, if_false, Bool.not_false, Bool.true_and]
        have := accounts_l1 l hl i x rest hd _ ih i 0 (by omega)
        simpa using this
    refine Ev.step (fun k => by simp only [spec_l26Accounts.l0]; rfl) ?_
    simp only [if_pos (show (i : Int) < (l.length : Int) by omega), if_pos (show (0 : Int) ≤ i by omega), rdA hd, acR, acctOk]
    refine Ev.bind (l26Name_ev x.f0 (hs x (mem_drop hd))) ?_
    cases h1 : nameOk x.f0 with
    | false => simp only [Bool.false_eq_true, if_false, Bool.false_and]; simpa using j1 true
    | true =>
      simp only [if_true, Bool.true_and, l1In_b, Option.bind_some]
      have := j1 (!bIn x.f1 1 5)
      simpa [Bool.and_assoc] using this
/-- Balances, after an entry's postings; none where one is no amount. -/
def applyL : List Int → List S70 → Option (List Int)
  | b, [] => some b
  | b, x :: r => if amt (rd b x.f0 + x.f1) then applyL (b.set x.f0.toNat (rd b x.f0 + x.f1)) r else none
def entR (n : Int) : Option S63 → List Int → List S63 → Bool
  | _, _, [] => true
  | p, b, x :: r => (match p with | none => true | some q => decide (q.f0 ≤ x.f0)) && entryOk n x && (match applyL b x.f2 with | none => false | some b' => entR n (some x) b' r)
def ledgerOk (a : List S48) (e : List S63) : Bool := acR [] a && decide (a.length ≤ 12) && decide (e.length ≤ 40) && entR (a.length : Int) none (List.replicate a.length 0) e
def Amts (b : List Int) : Prop := ∀ y ∈ b, -1000000000 ≤ y ∧ y ≤ 1000000000
theorem amts_set {b : List Int} (h : Amts b) (i : Nat) (v : Int) (hv : amt v = true) : Amts (b.set i v) := by
  intro y hy
  rcases List.mem_or_eq_of_mem_set hy with h' | rfl
  · exact h y h'
  · exact (amt_iff _).1 hv
theorem amts_rd {b : List Int} (h : Amts b) (i : Int) : -1000000000 ≤ rd b i ∧ rd b i ≤ 1000000000 := by
  unfold rd
  rw [List.getD_eq_getElem?_getD]
  cases hq : b[i.toNat]? with
  | none => simp
  | some y => exact h y (List.mem_of_getElem? hq)
/-- All postings of an entry that is accepted name accounts and bear amounts. -/
theorem postR_all (n : Int) : ∀ (l : List S70) (p : Option S70) (s : Int), postR n p l s = true → ∀ x ∈ l, (0 ≤ x.f0 ∧ x.f0 ≤ n - 1) ∧ amt x.f1 = true
  | [], _, _, _ => by simp
  | x :: r, p, s, h => by
    simp only [postR, Bool.and_eq_true] at h
    obtain ⟨⟨⟨⟨h1, h2⟩, h3⟩, h4⟩, h5⟩ := h
    intro y hy
    rcases List.mem_cons.1 hy with rfl | hy
    · exact ⟨(bIn_iff _ _ _).1 h1, h2⟩
    · exact postR_all n r _ _ h5 y hy
theorem applyL_len : ∀ (l : List S70) (b b' : List Int), Amts b → applyL b l = some b' → b'.length = b.length ∧ Amts b'
  | [], b, b', hb, h => by simp only [applyL, Option.some.injEq] at h; subst h; exact ⟨rfl, hb⟩
  | x :: r, b, b', hb, h => by
    simp only [applyL] at h
    split at h
    · rename_i ha
      have := applyL_len r _ b' (amts_set hb _ _ ha) h
      simpa using this
    · cases h
theorem spec_l1 (n : Nat) (a : List S48) (e : List S63) (i : Nat) (hi : i ≤ 1048576) (d : Int) (m : ByteArray) (l : List S70) (hl : l.length ≤ 1048576) (hall : ∀ x ∈ l, (0 ≤ x.f0 ∧ x.f0 ≤ (n : Int) - 1) ∧ amt x.f1 = true) (R : List Int → Bool) (hR : ∀ b, b.length = n → Amts b → Ev (fun k => spec_l26Good.l0 k b ((i : Int) + 1) a e) (R b)) : ∀ b : List Int, b.length = n → Amts b → Ev (fun k => spec_l26Good.l1 k b i 0 a e d m l) (match applyL b l with | none => false | some b' => R b') := by
  refine list_ind0 l (fun j rest => ∀ b : List Int, b.length = n → Amts b → Ev (fun k => spec_l26Good.l1 k b i j a e d m l) (match applyL b rest with | none => false | some b' => R b')) ?_ ?_
  · intro b hb ha
    refine Ev.step (fun k => by simp only [spec_l26Good.l1]; rfl) ?_
    simp only [Int.lt_irrefl, if_false, applyL, wrap_in (show -9223372036854775808 ≤ (i : Int) + 1 by omega) (by omega)]
    exact hR b hb ha
  · intro j x rest hj hd ih b hb ha
    obtain ⟨hx, hxa⟩ := hall x (mem_drop hd)
    have hxa' := (amt_iff _).1 hxa
    have hbr := amts_rd ha x.f0
    refine Ev.step (fun k => by simp only [spec_l26Good.l1]; rfl) ?_
    simp only [if_pos (show (j : Int) < (l.length : Int) by omega), if_pos (show (0 : Int) ≤ j by omega), rdP hd, if_pos hx.1, if_pos (show x.f0 < (b.length : Int) by omega), wrap_in (show -9223372036854775808 ≤ rd b x.f0 + x.f1 by omega) (by omega), l2Amount_eq, Option.bind_some, applyL, wrap_in (show -9223372036854775808 ≤ (j : Int) + 1 by omega) (by omega)]
    cases h : amt (rd b x.f0 + x.f1) with
    | false => simp only [Bool.false_eq_true, if_false]; exact Ev.now _
    | true =>
      simp only [if_true]
      exact ih _ (by simpa using hb) (amts_set ha _ _ h)
theorem impl_l2 (n : Nat) (a : List S48) (e : List S63) (i : Nat) (hi : i ≤ 1048576) (l : List S70) (hl : l.length ≤ 1048576) (hall : ∀ x ∈ l, (0 ≤ x.f0 ∧ x.f0 ≤ (n : Int) - 1) ∧ amt x.f1 = true) (R : List Int → Bool) (hR : ∀ b, b.length = n → Amts b → Ev (fun k => impl_IsValidLedger.l1 k b e (e.length : Int) ((i : Int) + 1) a e) (R b)) : ∀ b : List Int, b.length = n → Amts b → Ev (fun k => impl_IsValidLedger.l2 k b e (e.length : Int) i l (l.length : Int) 0 a e) (match applyL b l with | none => false | some b' => R b') := by
  refine list_ind0 l (fun j rest => ∀ b : List Int, b.length = n → Amts b → Ev (fun k => impl_IsValidLedger.l2 k b e (e.length : Int) i l (l.length : Int) j a e) (match applyL b rest with | none => false | some b' => R b')) ?_ ?_
  · intro b hb ha
    refine Ev.step (fun k => by simp only [impl_IsValidLedger.l2]; rfl) ?_
    simp only [Int.lt_irrefl, if_false, applyL, wrap_in (show -9223372036854775808 ≤ (i : Int) + 1 by omega) (by omega)]
    exact hR b hb ha
  · intro j x rest hj hd ih b hb ha
    obtain ⟨hx, hxa⟩ := hall x (mem_drop hd)
    have hxa' := (amt_iff _).1 hxa
    have hbr := amts_rd ha x.f0
    refine Ev.step (fun k => by simp only [impl_IsValidLedger.l2]; rfl) ?_
    simp only [if_pos (show (j : Int) < (l.length : Int) by omega), if_pos (show (0 : Int) ≤ j by omega), rdP hd, if_pos hx.1, if_pos (show x.f0 < (b.length : Int) by omega), wrap_in (show -9223372036854775808 ≤ rd b x.f0 + x.f1 by omega) (by omega), isAmount_eq, Option.bind_some, applyL, wrap_in (show -9223372036854775808 ≤ (j : Int) + 1 by omega) (by omega)]
    cases h : amt (rd b x.f0 + x.f1) with
    | false => simp only [Bool.false_eq_true, if_false]; exact Ev.now _
    | true =>
      simp only [if_true]
      exact ih _ (by simpa using hb) (amts_set ha _ _ h)
def FitsT (a : List S48) (e : List S63) : Prop := Fits a e ∧ (∀ y ∈ a, y.f0.size ≤ 9223372036854775807) ∧ ∀ y ∈ e, y.f1.size ≤ 9223372036854775807
theorem spec_l0 (a : List S48) (e : List S63) (h : FitsT a e) (ha12 : a.length ≤ 12) : Ev (fun k => spec_l26Good.l0 k (List.replicate a.length 0) 0 a e) (entR (a.length : Int) none (List.replicate a.length 0) e) := by
  obtain ⟨⟨f1, f2, f3⟩, f4, f5⟩ := h
  have key := list_ind0 e (fun i rest => ∀ b : List Int, b.length = a.length → Amts b → Ev (fun k => spec_l26Good.l0 k b i a e) (entR (a.length : Int) (prevOf e i) b rest)) ?_ ?_
  · exact key _ (by simp) (fun y hy => by rw [List.eq_of_mem_replicate hy]; omega)
  · intro b hb ha
    refine Ev.step (fun k => by simp only [spec_l26Good.l0]; rfl) ?_
    simp only [Int.lt_irrefl, if_false]
    refine Ev.some ?_
    cases prevOf e e.length <;> rfl
  · intro i x rest hi hd ih b hb ha
    have hi0 : wrap64 ((i : Int) - 1) = (i : Int) - 1 := wrap_in (by omega) (by omega)
    have hmem := mem_drop hd
    have j2 (c : Bool) (hc : c = false → entryOk (a.length : Int) x = true) : Ev (fun k => spec_l26Good.j2 k b i c a e x.f0 x.f1 x.f2) (!c && (match applyL b x.f2 with | none => false | some b' => entR (a.length : Int) (some x) b' rest)) := by
      refine Ev.step (fun k => by simp only [spec_l26Good.j2]; rfl) ?_
      cases c with
      | true => simp only [if_true, Bool.not_true, Bool.false_and]; exact Ev.now _
      | false =>
        have ho := hc rfl
        unfold entryOk postOk at ho
        simp only [Bool.and_eq_true] at ho
        simp only [Bool.false_eq_true, if_false, Bool.not_false, Bool.true_and]
        refine spec_l1 a.length a e i (by omega) x.f0 x.f1 x.f2 (f3 x hmem) (postR_all _ _ _ _ ho.2.2) (fun b' => entR (a.length : Int) (some x) b' rest) (fun b' h1 h2 => ?_) b hb ha
        have := ih b' h1 h2
        rw [prevOf_succ hd] at this
        exact this
    refine Ev.step (fun k => by simp only [spec_l26Good.l0]; rfl) ?_
    simp only [if_pos (show (i : Int) < (e.length : Int) by omega), if_pos (show (0 : Int) ≤ i by omega), rdE hd, hi0, entR]
    refine Ev.bind (specEntry_ev (a.length : Int) (by omega) x (f5 x hmem) (f3 x hmem)) ?_
    cases ho : entryOk (a.length : Int) x with
    | false =>
      simp only [Bool.false_eq_true, if_false, Bool.and_false, Bool.false_and]
      simpa using j2 true (by simp)
    | true =>
      simp only [if_true, Bool.and_true]
      by_cases h4 : i = 0
      · subst h4
        simp only [show ¬ ((0 : Nat) : Int) > 0 by omega, if_false, prevOf, if_true, Bool.true_and]
        simpa using j2 false (fun _ => ho)
      · rw [prevE_rd (show 0 < i by omega) (by omega)]
        simp only [if_pos (show (i : Int) > 0 by omega), if_pos (show (0 : Int) ≤ (i : Int) - 1 by omega), if_pos (show (i : Int) - 1 < (e.length : Int) by omega)]
        have := j2 (decide ((rd_T63 e ((i : Int) - 1)).f0 > x.f0)) (fun _ => ho)
        have q : decide ((rd_T63 e ((i : Int) - 1)).f0 ≤ x.f0) = !decide ((rd_T63 e ((i : Int) - 1)).f0 > x.f0) := by
          rw [Bool.eq_iff_iff, Bool.not_eq_true', decide_eq_true_iff, decide_eq_false_iff_not]; omega
        rw [q]
        exact this
theorem specGood_ev (a : List S48) (e : List S63) (h : FitsT a e) : Ev (fun k => spec_l26Good.f k a e) (ledgerOk a e) := by
  unfold spec_l26Good.f ledgerOk
  refine Ev.bind (accounts_ev a h.1.1 h.2.1) ?_
  cases h1 : (acR [] a && decide (a.length ≤ 12)) with
  | false =>
    simp only [Bool.false_eq_true, if_false, Bool.false_and]
    refine Ev.step (fun k => by simp only [spec_l26Good.j0]; rfl) ?_
    simp only [if_true]; exact Ev.now _
  | true =>
    simp only [Bool.and_eq_true, decide_eq_true_eq] at h1
    simp only [if_true, Bool.true_and]
    refine Ev.step (fun k => by simp only [spec_l26Good.j0]; rfl) ?_
    by_cases h2 : (e.length : Int) > 40
    · simp only [decide_eq_true h2, if_true, decide_eq_false (show ¬ e.length ≤ 40 by omega), Bool.false_and]; exact Ev.now _
    · simp only [decide_eq_false h2, Bool.false_eq_true, if_false, decide_eq_true (show e.length ≤ 40 by omega), Bool.true_and, if_pos (show (0 : Int) ≤ (a.length : Int) by omega), Int.toNat_natCast, if_pos (show a.length ≤ 35184372088832 by omega)]
      exact spec_l0 a e h h1.2
theorem impl_l1 (a : List S48) (e : List S63) (h : FitsT a e) (ha12 : a.length ≤ 12) : Ev (fun k => impl_IsValidLedger.l1 k (List.replicate a.length 0) e (e.length : Int) 0 a e) (entR (a.length : Int) none (List.replicate a.length 0) e) := by
  obtain ⟨⟨f1, f2, f3⟩, f4, f5⟩ := h
  have key := list_ind0 e (fun i rest => ∀ b : List Int, b.length = a.length → Amts b → Ev (fun k => impl_IsValidLedger.l1 k b e (e.length : Int) i a e) (entR (a.length : Int) (prevOf e i) b rest)) ?_ ?_
  · exact key _ (by simp) (fun y hy => by rw [List.eq_of_mem_replicate hy]; omega)
  · intro b hb ha
    refine Ev.step (fun k => by simp only [impl_IsValidLedger.l1]; rfl) ?_
    simp only [Int.lt_irrefl, if_false]
    refine Ev.some ?_
    cases prevOf e e.length <;> rfl
  · intro i x rest hi hd ih b hb ha
    have hi0 : wrap64 ((i : Int) - 1) = (i : Int) - 1 := wrap_in (by omega) (by omega)
    have hmem := mem_drop hd
    have j4 (c : Bool) (hc : c = false → postOk (a.length : Int) x.f2 = true) : Ev (fun k => impl_IsValidLedger.j4 k b e (e.length : Int) i c a e x.f0 x.f1 x.f2) (!c && (match applyL b x.f2 with | none => false | some b' => entR (a.length : Int) (some x) b' rest)) := by
      refine Ev.step (fun k => by simp only [impl_IsValidLedger.j4]; rfl) ?_
      cases c with
      | true => simp only [if_true, Bool.not_true, Bool.false_and]; exact Ev.now _
      | false =>
        have ho := hc rfl
        unfold postOk at ho
        simp only [Bool.and_eq_true] at ho
        simp only [Bool.false_eq_true, if_false, Bool.not_false, Bool.true_and]
        refine impl_l2 a.length a e i (by omega) x.f2 (f3 x hmem) (postR_all _ _ _ _ ho.2) (fun b' => entR (a.length : Int) (some x) b' rest) (fun b' h1 h2 => ?_) b hb ha
        have := ih b' h1 h2
        rw [prevOf_succ hd] at this
        exact this
    have tail : ∀ g : Bool, g = true → ∀ R : Bool, R = (g && (dayOk x.f0 && memoOk x.f1 && postOk (a.length : Int) x.f2) && (match applyL b x.f2 with | none => false | some b' => entR (a.length : Int) (some x) b' rest)) → dayOk x.f0 = true → Ev (fun k => (impl_isMemo.f k x.f1).bind fun t => (if t = true then ((impl_isPosted.f k x.f0 x.f1 x.f2 (a.length : Int)).bind fun u => (impl_IsValidLedger.j4 k b e (e.length : Int) i (!u) a e x.f0 x.f1 x.f2)) else (impl_IsValidLedger.j4 k b e (e.length : Int) i true a e x.f0 x.f1 x.f2))) R := by
      intro g hg R hR hday
      subst hg hR
      refine Ev.bind (isMemo_ev x.f1 (f5 x hmem)) ?_
      cases hm : memoOk x.f1 with
      | false => simp only [Bool.false_eq_true, if_false, Bool.and_false, Bool.false_and]; simpa using j4 true (by simp)
      | true =>
        simp only [if_true, hday, Bool.true_and, Bool.and_true]
        refine Ev.bind (isPosted_ev (a.length : Int) (by omega) x.f0 x.f1 x.f2 (f3 x hmem)) ?_
        cases hp : postOk (a.length : Int) x.f2 with
        | false => simp only [Bool.not_false, Bool.false_and]; simpa using j4 true (by simp)
        | true => simp only [Bool.not_true, Bool.true_and]; simpa using j4 false (fun _ => hp)
    refine Ev.step (fun k => by simp only [impl_IsValidLedger.l1]; rfl) ?_
    simp only [if_pos (show (i : Int) < (e.length : Int) by omega), if_pos (show (0 : Int) ≤ i by omega), rdE hd, hi0, entR, isDay_eq, Option.bind_some, entryOk]
    cases hday : dayOk x.f0 with
    | false => simp only [Bool.false_eq_true, if_false, Bool.and_false, Bool.false_and]; simpa using j4 true (by simp)
    | true =>
      simp only [if_true]
      by_cases h4 : i = 0
      · subst h4
        simp only [show ¬ ((0 : Nat) : Int) > 0 by omega, if_false, prevOf, if_true]
        refine tail true rfl _ ?_ hday
        rw [hday]
      · rw [prevE_rd (show 0 < i by omega) (by omega)]
        simp only [if_pos (show (i : Int) > 0 by omega), if_pos (show (0 : Int) ≤ (i : Int) - 1 by omega), if_pos (show (i : Int) - 1 < (e.length : Int) by omega)]
        by_cases h5 : x.f0 < (rd_T63 e ((i : Int) - 1)).f0
        · simp only [if_pos h5, decide_eq_false (show ¬ (rd_T63 e ((i : Int) - 1)).f0 ≤ x.f0 by omega), Bool.false_and]
          simpa using j4 true (by simp)
        · simp only [if_neg h5]
          refine tail _ (decide_eq_true (show (rd_T63 e ((i : Int) - 1)).f0 ≤ x.f0 by omega)) _ ?_ hday
          rw [hday]
theorem indexName_ev (l : List S48) (hl : l.length ≤ 1048576) (s : ByteArray) (q : Int) : Ev (fun k => slices_ContainsFunc_Account_Account_impl_IsValidLedger_1.f k l s q) (l.any (fun y => decide (y.f0.toList = s.toList)), s, q) := by
  have key : ∃ r : Int, Ev (fun k => slices_IndexFunc_Account_Account_impl_IsValidLedger_1.f k l s q) (r, s, q) ∧ decide (r ≥ 0) = l.any (fun y => decide (y.f0.toList = s.toList)) := by
    unfold slices_IndexFunc_Account_Account_impl_IsValidLedger_1.f
    refine list_ind0 l (fun i rest => ∃ r : Int, Ev (fun k => slices_IndexFunc_Account_Account_impl_IsValidLedger_1.l0 k l (l.length : Int) i s q) (r, s, q) ∧ decide (r ≥ 0) = rest.any (fun y => decide (y.f0.toList = s.toList))) ?_ ?_
    · refine ⟨-1, ?_, by simp⟩
      refine Ev.step (fun k => by simp only [slices_IndexFunc_Account_Account_impl_IsValidLedger_1.l0]; rfl) ?_
      simp only [Int.lt_irrefl, if_false]; exact Ev.now _
    · intro i x rest hi hd ih
      obtain ⟨r, hr, he⟩ := ih
      by_cases hx : x.f0.toList = s.toList
      · refine ⟨i, ?_, by rw [List.any_cons, decide_eq_true hx]; simp⟩
        refine Ev.step (fun k => by simp only [slices_IndexFunc_Account_Account_impl_IsValidLedger_1.l0]; rfl) ?_
        simp only [if_pos (show (i : Int) < (l.length : Int) by omega), if_pos (show (0 : Int) ≤ i by omega), rdA hd, XFnLedger.impl_IsValidLedger_1.f, Option.bind_some, beq_iff_eq.2 hx, if_true]
        exact Ev.now _
      · refine ⟨r, ?_, by rw [List.any_cons, decide_eq_false hx, Bool.false_or]; exact he⟩
        refine Ev.step (fun k => by simp only [slices_IndexFunc_Account_Account_impl_IsValidLedger_1.l0]; rfl) ?_
        simp only [if_pos (show (i : Int) < (l.length : Int) by omega), if_pos (show (0 : Int) ≤ i by omega), rdA hd, XFnLedger.impl_IsValidLedger_1.f, Option.bind_some, beq_eq_false_iff_ne.2 hx, Bool.false_eq_true, if_false, wrap_in (show -9223372036854775808 ≤ (i : Int) + 1 by omega) (by omega)]
        exact hr
  obtain ⟨r, hr, he⟩ := key
  unfold slices_ContainsFunc_Account_Account_impl_IsValidLedger_1.f
  exact Ev.bind hr (Ev.some (by rw [he]))
theorem impl_l0 (a : List S48) (e : List S63) (h : FitsT a e) (ha12 : a.length ≤ 12) : Ev (fun k => impl_IsValidLedger.l0 k a (a.length : Int) 0 a e) (acR [] a && entR (a.length : Int) none (List.replicate a.length 0) e) := by
  have f4 := h.2.1
  refine list_ind0 a (fun i rest => Ev (fun k => impl_IsValidLedger.l0 k a (a.length : Int) i a e) (acR (a.take i) rest && entR (a.length : Int) none (List.replicate a.length 0) e)) ?_ ?_
  · refine Ev.step (fun k => by simp only [impl_IsValidLedger.l0]; rfl) ?_
    simp only [Int.lt_irrefl, if_false, acR, Bool.true_and, if_pos (show (0 : Int) ≤ (a.length : Int) by omega), Int.toNat_natCast, if_pos (show a.length ≤ 35184372088832 by omega)]
    exact impl_l1 a e h ha12
  · intro i x rest hi hd ih
    rw [take_succ_at hd] at ih
    have j2 (c : Bool) : Ev (fun k => impl_IsValidLedger.j2 k a (a.length : Int) i c a e) (!c && (acR (a.take i ++ [x]) rest && entR (a.length : Int) none (List.replicate a.length 0) e)) := by
      refine Ev.step (fun k => by simp only [impl_IsValidLedger.j2]; rfl) ?_
      cases c with
      | true => simp only [if_true, Bool.not_true, Bool.false_and]; exact Ev.now _
      | false =>
        simp only [Bool.false_eq_true, if_false, Bool.not_false, Bool.true_and, wrap_in (show -9223372036854775808 ≤ (i : Int) + 1 by omega) (by omega)]
        exact ih
    refine Ev.step (fun k => by simp only [impl_IsValidLedger.l0]; rfl) ?_
    simp only [if_pos (show (i : Int) < (a.length : Int) by omega), if_pos (show (0 : Int) ≤ i by omega), rdA hd, acR, acctOk, isAccountName_eq x.f0 (f4 x (mem_drop hd)), Option.bind_some, within_b, if_pos (show (i : Int) ≤ (a.length : Int) by omega), Int.toNat_natCast]
    cases h1 : nameOk x.f0 with
    | false => simp only [Bool.false_eq_true, if_false, Bool.false_and]; simpa using j2 true
    | true =>
      simp only [if_true, Bool.true_and]
      cases h2 : bIn x.f1 1 5 with
      | false => simp only [Bool.false_eq_true, if_false, Bool.false_and]; simpa using j2 true
      | true =>
        simp only [if_true, Bool.true_and]
        refine Ev.bind (indexName_ev (a.take i) (by simp; omega) x.f0 x.f1) ?_
        have := j2 ((a.take i).any fun y => decide (y.f0.toList = x.f0.toList))
        simpa [Bool.and_assoc] using this
theorem implLedger_ev (a : List S48) (e : List S63) (h : FitsT a e) : Ev (fun k => impl_IsValidLedger.f k a e) (ledgerOk a e) := by
  unfold impl_IsValidLedger.f ledgerOk
  by_cases h1 : (a.length : Int) > 12
  · simp only [if_pos h1, decide_eq_false (show ¬ a.length ≤ 12 by omega), Bool.and_false, Bool.false_and]
    refine Ev.step (fun k => by simp only [impl_IsValidLedger.j0]; rfl) ?_
    simp only [if_true]; exact Ev.now _
  · simp only [if_neg h1, decide_eq_true (show a.length ≤ 12 by omega), Bool.and_true]
    refine Ev.step (fun k => by simp only [impl_IsValidLedger.j0]; rfl) ?_
    by_cases h2 : (e.length : Int) > 40
    · simp only [decide_eq_true h2, if_true, decide_eq_false (show ¬ e.length ≤ 40 by omega), Bool.and_false, Bool.false_and]; exact Ev.now _
    · simp only [decide_eq_false h2, Bool.false_eq_true, if_false, decide_eq_true (show e.length ≤ 40 by omega), Bool.and_true]
      exact impl_l0 a e h (by omega)

/-- What is known of the entries of an accepted ledger. -/
theorem ent_facts (n : Int) : ∀ (r : List S63) (p : Option S63) (b : List Int), entR n p b r = true → ∀ x ∈ r, x.f2.length ≤ 8 ∧ ∀ y ∈ x.f2, (0 ≤ y.f0 ∧ y.f0 ≤ n - 1) ∧ amt y.f1 = true
  | [], _, _, _ => by simp
  | x :: r, p, b, h => by
    simp only [entR, Bool.and_eq_true] at h
    obtain ⟨⟨h1, h2⟩, h3⟩ := h
    unfold entryOk postOk at h2
    simp only [Bool.and_eq_true] at h2
    intro z hz
    rcases List.mem_cons.1 hz with rfl | hz
    · have := (bIn_iff _ _ _).1 h2.2.1
      exact ⟨by omega, postR_all _ _ _ _ h2.2.2⟩
    · cases hb : applyL b x.f2 with
      | none => rw [hb] at h3; simp at h3
      | some b' => rw [hb] at h3; exact ent_facts n r (some x) b' h3 z hz
theorem ledger_facts (a : List S48) (e : List S63) (hok : ledgerOk a e = true) : a.length ≤ 12 ∧ e.length ≤ 40 ∧ ∀ x ∈ e, x.f2.length ≤ 8 ∧ ∀ y ∈ x.f2, (0 ≤ y.f0 ∧ y.f0 ≤ (a.length : Int) - 1) ∧ amt y.f1 = true := by
  unfold ledgerOk at hok
  simp only [Bool.and_eq_true, decide_eq_true_eq] at hok
  exact ⟨hok.1.1.2, hok.1.2, ent_facts _ e _ _ hok.2⟩

theorem l26OwnEntry_eq (a : Int) (b : ByteArray) (l : List S70) (hl : l.length ≤ 1048576) : spec_l26OwnEntry.f a b l = some (a, b, l) := by
  unfold spec_l26OwnEntry.f
  simp only [Option.bind_some, List.length_nil, Nat.zero_add, List.nil_append, if_pos (show l.length < 8796093022208 by omega)]
theorem ownPostings_eq (l : List S70) (hl : l.length ≤ 1048576) : impl_Posting.f l = some l := by
  unfold impl_Posting.f
  simp only [Option.bind_some, List.length_nil, Nat.zero_add, List.nil_append, if_pos (show l.length < 8796093022208 by omega)]
theorem specOwn_ev (a : List S48) (e : List S63) (h : Fits a e) : Ev (fun k => spec_l26Own.f k a e) (a, e) := by
  obtain ⟨f1, f2, f3⟩ := h
  unfold spec_l26Own.f
  simp only [Option.bind_some, List.length_nil, Nat.zero_add, List.nil_append, if_pos (show a.length < 5864062014805 by omega)]
  have key : ∀ (r d : List S63), e = d ++ r → Ev (fun k => spec_l26Own.l0 k (d.length : Int) a e a d) (a, e) := by
    intro r
    induction r with
    | nil =>
      intro d hd
      simp only [List.append_nil] at hd
      subst hd
      refine Ev.step (fun k => by simp only [spec_l26Own.l0]; rfl) ?_
      simp only [Int.lt_irrefl, if_false]; exact Ev.now _
    | cons x r ih =>
      intro d hd
      have hlen : e.length = d.length + (r.length + 1) := by rw [hd]; simp
      have hx : rd_T63 e (d.length : Int) = x := by rw [hd]; simp [rd_T63]
      have hx2 := f3 x (by rw [hd]; simp)
      refine Ev.step (fun k => by simp only [spec_l26Own.l0]; rfl) ?_
      simp only [if_pos (show (d.length : Int) < (e.length : Int) by omega), if_pos (show (0 : Int) ≤ (d.length : Int) by omega), hx, l26OwnEntry_eq _ _ _ hx2, Option.bind_some, if_pos (show d.length < 2932031007402 by omega), wrap_in (show -9223372036854775808 ≤ (d.length : Int) + 1 by omega) (by omega)]
      have := ih (d ++ [x]) (by rw [hd]; simp)
      simpa using this
  exact key e [] rfl
theorem ownAccounts_eq (l : List S48) (hl : l.length ≤ 1048576) : impl_Account_110.f l = some l := by
  unfold impl_Account_110.f
  simp only [Option.bind_some, List.length_nil, Nat.zero_add, List.nil_append, if_pos (show l.length < 5864062014805 by omega)]
theorem implOwn_ev (a : List S48) (e : List S63) (ha : a.length ≤ 1048576) (he : e.length ≤ 1048577) (h : ∀ y ∈ e, y.f2.length ≤ 1048576) : Ev (fun k => impl_ownLedger.f k a e) (a, e) := by
  unfold impl_ownLedger.f
  rw [ownAccounts_eq a ha]
  simp only [Option.bind_some]
  have key : ∀ (r d : List S63), e = d ++ r → Ev (fun k => impl_ownLedger.l0 k e (e.length : Int) (d.length : Int) a d) (a, e) := by
    intro r
    induction r with
    | nil =>
      intro d hd
      simp only [List.append_nil] at hd
      subst hd
      refine Ev.step (fun k => by simp only [impl_ownLedger.l0]; rfl) ?_
      simp only [Int.lt_irrefl, if_false]; exact Ev.now _
    | cons x r ih =>
      intro d hd
      have hlen : e.length = d.length + (r.length + 1) := by rw [hd]; simp
      have hx : rd_T63 e (d.length : Int) = x := by rw [hd]; simp [rd_T63]
      have hx2 := h x (by rw [hd]; simp)
      refine Ev.step (fun k => by simp only [impl_ownLedger.l0]; rfl) ?_
      simp only [if_pos (show (d.length : Int) < (e.length : Int) by omega), if_pos (show (0 : Int) ≤ (d.length : Int) by omega), hx, ownPostings_eq _ hx2, Option.bind_some, if_pos (show d.length < 2932031007402 by omega), wrap_in (show -9223372036854775808 ≤ (d.length : Int) + 1 by omega) (by omega)]
      have := ih (d ++ [x]) (by rw [hd]; simp)
      simpa using this
  exact key e [] rfl
/-- What posting an entry gives. -/
def postOf (a : List S48) (e : List S63) (x : S63) : List S48 × List S63 × Bool := if ledgerOk a e && ledgerOk a (e ++ [x]) then (a, e ++ [x], true) else ([], [], false)
theorem fitsT_snoc {a : List S48} {e : List S63} {x : S63} (h : FitsT a e) (h40 : e.length ≤ 40) (hx : x.f1.size ≤ 9223372036854775807 ∧ x.f2.length ≤ 1048576) : FitsT a (e ++ [x]) := by
  obtain ⟨⟨f1, f2, f3⟩, g1, g2⟩ := h
  refine ⟨⟨f1, by simp only [List.length_append, List.length_cons, List.length_nil]; omega, fun y hy => ?_⟩, g1, fun y hy => ?_⟩
  · rcases List.mem_append.1 hy with hy | hy
    · exact f3 y hy
    · rw [List.mem_singleton.1 hy]; exact hx.2
  · rcases List.mem_append.1 hy with hy | hy
    · exact g2 y hy
    · rw [List.mem_singleton.1 hy]; exact hx.1
theorem specPost_ev (a : List S48) (e : List S63) (x : S63) (h : FitsT a e) (hx : x.f1.size ≤ 9223372036854775807 ∧ x.f2.length ≤ 1048576) : Ev (fun k => spec_l26Post.f k a e x.f0 x.f1 x.f2) (postOf a e x) := by
  have f1 := h.1.1
  have f2 := h.1.2.1
  unfold spec_l26Post.f
  refine Ev.bind (specOwn_ev a e h.1) ?_
  simp only [l26OwnEntry_eq _ _ _ hx.2, Option.bind_some, if_pos (show e.length < 2932031007402 by omega)]
  refine Ev.bind (specGood_ev a e h) ?_
  unfold postOf
  cases h1 : ledgerOk a e with
  | false => simp only [Bool.false_and, Bool.false_eq_true, if_false]; exact Ev.now _
  | true =>
    have h40 := (ledger_facts a e h1).2.1
    simp only [Bool.true_and, if_true]
    refine Ev.bind (specGood_ev a (e ++ [x]) (fitsT_snoc h h40 hx)) ?_
    cases h2 : ledgerOk a (e ++ [x]) with
    | false => simp only [Bool.false_eq_true, if_false]; exact Ev.now _
    | true => simp only [if_true]; exact Ev.now _
theorem implPost_ev (a : List S48) (e : List S63) (x : S63) (h : FitsT a e) (hx : x.f1.size ≤ 9223372036854775807 ∧ x.f2.length ≤ 1048576) : Ev (fun k => impl_PostEntry.f k a e x.f0 x.f1 x.f2) (postOf a e x) := by
  have f1 := h.1.1
  have f2 := h.1.2.1
  unfold impl_PostEntry.f
  refine Ev.bind (implLedger_ev a e h) ?_
  unfold postOf
  cases h1 : ledgerOk a e with
  | false => simp only [Bool.false_and, Bool.false_eq_true, if_false]; exact Ev.now _
  | true =>
    have h40 := (ledger_facts a e h1).2.1
    have hf := fitsT_snoc h h40 hx
    simp only [Bool.true_and, if_true, impl_BookEntry.f, Option.bind_some, List.length_nil, Nat.zero_add, List.nil_append, if_pos (show e.length < 2932031007402 by omega), List.length_cons, if_pos (show e.length + 1 < 2932031007402 by omega)]
    refine Ev.bind (implOwn_ev a (e ++ [x]) f1 (by simp only [List.length_append, List.length_cons, List.length_nil]; omega) hf.1.2.2) ?_
    refine Ev.bind (implLedger_ev a (e ++ [x]) hf) ?_
    cases h2 : ledgerOk a (e ++ [x]) with
    | false => simp only [Bool.false_eq_true, if_false]; exact Ev.now _
    | true => simp only [if_true]; exact Ev.now _
theorem fits_post (a : List S48) (e : List S63) (x : S63) (h : Fits a e) : Fits (postOf a e x).1 (postOf a e x).2.1 := by
  unfold postOf
  cases h1 : (ledgerOk a e && ledgerOk a (e ++ [x])) with
  | false => simp only [Bool.false_eq_true, if_false]; exact ⟨by simp, by simp, by simp⟩
  | true =>
    simp only [Bool.and_eq_true] at h1
    obtain ⟨g1, g2, g3⟩ := ledger_facts a (e ++ [x]) h1.2
    simp only [if_true]
    exact ⟨by omega, by omega, fun y hy => by have := (g3 y hy).1; omega⟩

def itoaB (n : Int) : ByteArray := ⟨(Lib.itoa n).toArray⟩
theorem size_of_list (l : List UInt8) : (⟨l.toArray⟩ : ByteArray).size = l.length := by simp [ByteArray.size]
theorem digit_cut (u : Fin 10) : (⟨#[48, 49, 50, 51, 52, 53, 54, 55, 56, 57]⟩ : ByteArray).extract u.val (u.val + 1) = ⟨[UInt8.ofNat (48 + u.val)].toArray⟩ := by
  revert u; decide +kernel
theorem append_lists (a b : List UInt8) : (⟨a.toArray⟩ : ByteArray) ++ ⟨b.toArray⟩ = ⟨(a ++ b).toArray⟩ := by
  apply ByteArray.ext
  simp
theorem num_nat (u : Nat) : u ≤ 9223372036854775807 → Ev (fun k => spec_l1Num.f k u) ⟨(Lib.decDigits u).toArray⟩ := by
  induction u using Nat.strongRecOn with
  | _ u ih =>
  intro hu
  refine Ev.step (fun k => by simp only [spec_l1Num.f]; rfl) ?_
  simp only [if_neg (show ¬ (u : Int) < 0 by omega)]
  by_cases h : u < 10
  · simp only [if_pos (show (u : Int) < 10 by omega), if_pos (show (0 : Int) ≤ u by omega), wrap_in (show -9223372036854775808 ≤ (u : Int) + 1 by omega) (by omega), if_pos (show (u : Int) ≤ u + 1 by omega), if_pos (show (u : Int) + 1 ≤ 10 by omega)]
    refine Ev.some ?_
    rw [Lib.decDigits_one h, Int.toNat_natCast, show ((u : Int) + 1).toNat = u + 1 by omega]
    exact digit_cut ⟨u, h⟩
  · have hd : Int.tdiv (u : Int) 10 = ((u / 10 : Nat) : Int) := by rw [Int.tdiv_eq_ediv_of_nonneg (by omega)]; omega
    have hm : Int.tmod (u : Int) 10 = ((u % 10 : Nat) : Int) := by rw [Int.tmod_eq_emod_of_nonneg (by omega)]; omega
    have h10 : u % 10 < 10 := Nat.mod_lt _ (by decide)
    simp only [if_neg (show ¬ (u : Int) < 10 by omega), hd, hm, wrap_in (show -9223372036854775808 ≤ ((u / 10 : Nat) : Int) by omega) (by omega)]
    refine Ev.bind (ih (u / 10) (by omega) (by omega)) ?_
    have hl : (Lib.decDigits (u / 10)).length ≤ 20 := by rw [Lib.decDigits_length]; exact Lib.nDigits_le20 _ (by omega)
    have e : Lib.decDigits u = Lib.decDigits (u / 10) ++ [UInt8.ofNat (48 + u % 10)] := by rw [Lib.decDigits, dif_neg h]
    simp only [if_pos (show (0 : Int) ≤ ((u % 10 : Nat) : Int) by omega), wrap_in (show -9223372036854775808 ≤ ((u % 10 : Nat) : Int) + 1 by omega) (by omega), if_pos (show ((u % 10 : Nat) : Int) ≤ ((u % 10 : Nat) : Int) + 1 by omega), if_pos (show ((u % 10 : Nat) : Int) + 1 ≤ 10 by omega), Int.toNat_natCast, show (((u % 10 : Nat) : Int) + 1).toNat = u % 10 + 1 by omega, size_of_list]
    rw [if_pos (show (Lib.decDigits (u / 10)).length + (u % 10 + 1 - u % 10) ≤ 9223372036854775807 by omega)]
    refine Ev.some ?_
    rw [e, digit_cut ⟨u % 10, h10⟩, append_lists]
theorem num_ev (n : Int) (h0 : -9223372036854775807 ≤ n) (h1 : n ≤ 9223372036854775807) : Ev (fun k => spec_l1Num.f k n) (itoaB n) := by
  unfold itoaB
  by_cases h : n < 0
  · obtain ⟨u, rfl⟩ : ∃ u : Nat, n = -(u : Int) := ⟨n.natAbs, by omega⟩
    refine Ev.step (fun k => by simp only [spec_l1Num.f]; rfl) ?_
    simp only [if_pos h, Int.neg_neg, wrap_in (show -9223372036854775808 ≤ (u : Int) by omega) (by omega)]
    refine Ev.bind (num_nat u (by omega)) ?_
    have hl : (Lib.decDigits u).length ≤ 20 := by rw [Lib.decDigits_length]; exact Lib.nDigits_le20 _ (by omega)
    rw [if_pos (by rw [size_of_list]; omega)]
    refine Ev.some ?_
    rw [Lib.itoa_neg u (by omega)]
    exact append_lists [45] _
  · obtain ⟨u, rfl⟩ : ∃ u : Nat, n = (u : Int) := ⟨n.toNat, by omega⟩
    rw [Lib.itoa_nonneg]
    exact num_nat u (by omega)
theorem itoaB_size (n : Int) (h0 : -9223372036854775808 ≤ n) (h1 : n ≤ 9223372036854775807) : (itoaB n).size ≤ 21 := by
  unfold itoaB
  rw [size_of_list]
  exact Lib.itoa_length_le n h0 h1
theorem decimal_eq (n : Int) (h0 : -9223372036854775808 ≤ n) (h1 : n ≤ 9223372036854775807) : impl_decimal.f n = some (itoaB n) := by
  unfold impl_decimal.f strconv_Itoa.f
  rw [if_pos ⟨h0, h1⟩]
  rfl

theorem rd_drop {l : List Int} {i : Nat} {b : Int} {rest : List Int} (h : l.drop i = b :: rest) : rd l (i : Int) = b := (rd_at h).2.1
theorem set_mid {α : Type} (d : List α) (x v : α) (r : List α) : (d ++ x :: r).set d.length v = d ++ v :: r := by
  induction d with
  | nil => rfl
  | cons y d ih => simp [ih]
theorem app_one {α : Type} (d : List α) (v : α) (r : List α) : d ++ v :: r = (d ++ [v]) ++ r := by simp
theorem rdI_mid (d : List Int) (x : Int) (r : List Int) : rd (d ++ x :: r) (d.length : Int) = x := by simp [rd]
def seqF : Int → Nat → List Int
  | _, 0 => []
  | c, n + 1 => c :: seqF (c + 1) n
theorem seqF_len : ∀ (n : Nat) (c : Int), (seqF c n).length = n
  | 0, _ => rfl
  | n + 1, c => by simp [seqF, seqF_len n]
theorem rdA_mid (d : List S48) (x : S48) (r : List S48) : rd_T48 (d ++ x :: r) (d.length : Int) = x := by simp [rd_T48]
theorem rdP_mid (d : List S70) (x : S70) (r : List S70) : rd_T70 (d ++ x :: r) (d.length : Int) = x := by simp [rd_T70]
theorem rdE_mid (d : List S63) (x : S63) (r : List S63) : rd_T63 (d ++ x :: r) (d.length : Int) = x := by simp [rd_T63]
def mkA (M : Int → ByteArray) : Int → Nat → List S48
  | _, 0 => []
  | c, n + 1 => ⟨M c, c + 1⟩ :: mkA M (c + 2) n
def mkP : Int → Nat → List S70
  | _, 0 => []
  | c, n + 1 => ⟨c, c + 1⟩ :: mkP (c + 2) n
def mkE (M : Int → ByteArray) : Int → List S63 → List S63
  | _, [] => []
  | c, x :: r => ⟨c, M (c + 1), mkP (c + 2) x.f2.length⟩ :: mkE M (c + 2 + 2 * (x.f2.length : Int)) r
def endE : Int → List S63 → Int
  | c, [] => c
  | c, x :: r => endE (c + 2 + 2 * (x.f2.length : Int)) r
theorem endE_ge : ∀ (l : List S63) (c : Int), c + 2 * (l.length : Int) ≤ endE c l
  | [], c => by simp [endE]
  | x :: r, c => by
    have := endE_ge r (c + 2 + 2 * (x.f2.length : Int))
    simp only [endE, List.length_cons]
    omega
theorem endE_le : ∀ (l : List S63) (c : Int), (∀ y ∈ l, y.f2.length ≤ 1048576) → endE c l ≤ c + 2097154 * (l.length : Int)
  | [], c, _ => by simp [endE]
  | x :: r, c, h => by
    have := endE_le r (c + 2 + 2 * (x.f2.length : Int)) (fun y hy => h y (by simp [hy]))
    have := h x (by simp)
    simp only [endE, List.length_cons]
    omega
def negP (x : S70) : S70 := ⟨x.f0, wrap64 (-x.f1)⟩
def revTxt (i : Int) : ByteArray := (⟨#[114, 101, 118, 101, 114, 115, 97, 108, 32, 111, 102, 32]⟩ : ByteArray) ++ itoaB i
theorem revTxt_size (i : Int) (h : 0 ≤ i ∧ i ≤ 1048576) : (revTxt i).size ≤ 100 := by
  have := itoaB_size i (by omega) (by omega)
  unfold revTxt
  rw [ByteArray.size_append]
  have h12 : (⟨#[114, 101, 118, 101, 114, 115, 97, 108, 32, 111, 102, 32]⟩ : ByteArray).size = 12 := rfl
  omega
/-- What reversing an entry gives. -/
def revOf (a : List S48) (e : List S63) (i d : Int) : List S48 × List S63 × Bool := if ledgerOk a e && bIn i 0 ((e.length : Int) - 1) then postOf a e ⟨d, revTxt i, (rd_T63 e i).f2.map negP⟩ else ([], [], false)
theorem specRev_l0 (a : List S48) (e : List S63) (i d : Int) (m : ByteArray) (h0 : 0 ≤ i) (h1 : i < (e.length : Int)) (hl : (rd_T63 e i).f2.length ≤ 8) (R : List S48 × List S63 × Bool) (hR : Ev (fun k => spec_l26Post.f k a e d m ((rd_T63 e i).f2.map negP)) R) : Ev (fun k => spec_ReverseEntry.l0 k i 0 a e d m []) R := by
  generalize hL : (rd_T63 e i).f2 = L at hl hR
  have key : ∀ (r q : List S70), L = q ++ r → Ev (fun k => spec_ReverseEntry.l0 k i (q.length : Int) a e d m (q.map negP)) R := by
    intro r
    induction r with
    | nil =>
      intro q hq
      simp only [List.append_nil] at hq
      subst hq
      refine Ev.step (fun k => by simp only [spec_ReverseEntry.l0]; rfl) ?_
      simp only [hL, if_pos h0, if_pos h1, Int.lt_irrefl, if_false]
      refine Ev.bind hR ?_
      exact Ev.now _
    | cons x r ih =>
      intro q hq
      have hlen : L.length = q.length + (r.length + 1) := by rw [hq]; simp
      have hx : rd_T70 L (q.length : Int) = x := by rw [hq]; simp [rd_T70]
      refine Ev.step (fun k => by simp only [spec_ReverseEntry.l0]; rfl) ?_
      simp only [hL, if_pos h0, if_pos h1, if_pos (show (q.length : Int) < (L.length : Int) by omega), if_pos (show (0 : Int) ≤ (q.length : Int) by omega), hx, List.length_map, if_pos (show q.length < 8796093022208 by omega), wrap_in (show -9223372036854775808 ≤ (q.length : Int) + 1 by omega) (by omega)]
      have := ih (q ++ [x]) (by rw [hq]; simp)
      simpa [negP] using this
  exact key L [] rfl
theorem implRev_l0 (a : List S48) (e : List S63) (d : Int) (m : ByteArray) (L : List S70) (hl : L.length ≤ 8) (R : List S48 × List S63 × Bool) (hR : Ev (fun k => impl_PostEntry.f k a e d m (L.map negP)) R) : Ev (fun k => impl_ReverseEntry.l0 k (L.length : Int) 0 a e d m L) R := by
  have key : ∀ (r q : List S70), L = q ++ r → Ev (fun k => impl_ReverseEntry.l0 k (L.length : Int) (q.length : Int) a e d m (q.map negP ++ r)) R := by
    intro r
    induction r with
    | nil =>
      intro q hq
      simp only [List.append_nil] at hq
      subst hq
      refine Ev.step (fun k => by simp only [impl_ReverseEntry.l0]; rfl) ?_
      simp only [List.append_nil, Int.lt_irrefl, if_false]
      refine Ev.bind hR ?_
      exact Ev.now _
    | cons x r ih =>
      intro q hq
      have hlen : L.length = q.length + (r.length + 1) := by rw [hq]; simp
      have hlen2 : (q.map negP ++ x :: r).length = q.length + (r.length + 1) := by simp
      have hx : rd_T70 (q.map negP ++ x :: r) (q.length : Int) = x := by simp [rd_T70]
      have hs : (q.map negP ++ x :: r).set q.length (negP x) = (q ++ [x]).map negP ++ r := by
        have := set_mid (q.map negP) x (negP x) r
        rw [List.length_map] at this
        rw [this]; simp
      refine Ev.step (fun k => by simp only [impl_ReverseEntry.l0]; rfl) ?_
      simp only [if_pos (show (q.length : Int) < (L.length : Int) by omega), if_pos (show (0 : Int) ≤ (q.length : Int) by omega), hlen2, if_pos (show (q.length : Int) < ((q.length + (r.length + 1) : Nat) : Int) by omega), hx, Int.toNat_natCast, wrap_in (show -9223372036854775808 ≤ (q.length : Int) + 1 by omega) (by omega)]
      have := ih (q ++ [x]) (by rw [hq]; simp)
      rw [← hs] at this
      simpa [negP] using this
  simpa using key L [] rfl
theorem rev_entry (a : List S48) (e : List S63) (i : Int) (hok : ledgerOk a e = true) (hi : bIn i 0 ((e.length : Int) - 1) = true) : 0 ≤ i ∧ i < (e.length : Int) ∧ i ≤ 1048576 ∧ (rd_T63 e i).f2.length ≤ 8 := by
  obtain ⟨g1, g2, g3⟩ := ledger_facts a e hok
  have hb := (bIn_iff _ _ _).1 hi
  refine ⟨by omega, by omega, by omega, ?_⟩
  have hm : rd_T63 e i ∈ e := by
    have : i.toNat < e.length := by omega
    unfold rd_T63
    rw [List.getD_eq_getElem?_getD, List.getElem?_eq_getElem this]
    exact List.getElem_mem this
  exact (g3 _ hm).1
theorem specRev_ev (a : List S48) (e : List S63) (h : FitsT a e) (i d : Int) : Ev (fun k => spec_ReverseEntry.f k a e i d) (revOf a e i d) := by
  have f2 := h.1.2.1
  have j (c : Bool) (hc : c = !(ledgerOk a e && bIn i 0 ((e.length : Int) - 1))) : Ev (fun k => spec_ReverseEntry.j0 k i d c a e) (revOf a e i d) := by
    subst hc
    unfold revOf
    refine Ev.step (fun k => by simp only [spec_ReverseEntry.j0]; rfl) ?_
    cases q : (ledgerOk a e && bIn i 0 ((e.length : Int) - 1)) with
    | false => simp only [Bool.not_false, if_true, Bool.false_eq_true, if_false]; exact Ev.now _
    | true =>
      simp only [Bool.and_eq_true] at q
      obtain ⟨r1, r2, r3, r4⟩ := rev_entry a e i q.1 q.2
      have s := itoaB_size i (by omega) (by omega)
      simp only [Bool.not_true, if_true, Bool.false_eq_true, if_false]
      refine Ev.bind (num_ev i (by omega) (by omega)) ?_
      simp only [if_pos (show 12 + (itoaB i).size ≤ 9223372036854775807 by omega)]
      have hz := revTxt_size i ⟨r1, r3⟩
      have hp := specPost_ev a e ⟨d, revTxt i, (rd_T63 e i).f2.map negP⟩ h ⟨by show (revTxt i).size ≤ _; omega, by simp only [List.length_map]; omega⟩
      exact specRev_l0 a e i d _ r1 r2 r4 _ hp
  unfold spec_ReverseEntry.f
  refine Ev.bind (specGood_ev a e h) ?_
  cases h1 : ledgerOk a e with
  | false => simp only [Bool.false_eq_true, if_false]; exact j true (by simp [h1])
  | true =>
    simp only [if_true, wrap_in (show -9223372036854775808 ≤ (e.length : Int) - 1 by omega) (by omega), l1In_b, Option.bind_some]
    exact j _ (by rw [h1]; simp)
theorem implRev_ev (a : List S48) (e : List S63) (h : FitsT a e) (i d : Int) : Ev (fun k => impl_ReverseEntry.f k a e i d) (revOf a e i d) := by
  have f2 := h.1.2.1
  have j (c : Bool) (hc : c = !(ledgerOk a e && bIn i 0 ((e.length : Int) - 1))) : Ev (fun k => impl_ReverseEntry.j0 k i d c a e) (revOf a e i d) := by
    subst hc
    unfold revOf
    refine Ev.step (fun k => by simp only [impl_ReverseEntry.j0]; rfl) ?_
    cases q : (ledgerOk a e && bIn i 0 ((e.length : Int) - 1)) with
    | false => simp only [Bool.not_false, if_true, Bool.false_eq_true, if_false]; exact Ev.now _
    | true =>
      simp only [Bool.and_eq_true] at q
      obtain ⟨r1, r2, r3, r4⟩ := rev_entry a e i q.1 q.2
      have s := itoaB_size i (by omega) (by omega)
      simp only [Bool.not_true, if_true, Bool.false_eq_true, if_false, decimal_eq i (show -9223372036854775808 ≤ i by omega) (by omega), Option.bind_some, if_pos (show 12 + (itoaB i).size ≤ 9223372036854775807 by omega), if_pos r1, if_pos r2, ownPostings_eq _ (show (rd_T63 e i).f2.length ≤ 1048576 by omega)]
      have hz := revTxt_size i ⟨r1, r3⟩
      have hp := implPost_ev a e ⟨d, revTxt i, (rd_T63 e i).f2.map negP⟩ h ⟨by show (revTxt i).size ≤ _; omega, by simp only [List.length_map]; omega⟩
      exact implRev_l0 a e d _ _ r4 _ hp
  unfold impl_ReverseEntry.f
  refine Ev.bind (implLedger_ev a e h) ?_
  cases h1 : ledgerOk a e with
  | false => simp only [Bool.false_eq_true, if_false]; exact j true (by simp [h1])
  | true =>
    simp only [if_true, wrap_in (show -9223372036854775808 ≤ (e.length : Int) - 1 by omega) (by omega), within_b, Option.bind_some]
    exact j _ (by rw [h1]; simp)
theorem fits_rev (a : List S48) (e : List S63) (i d : Int) (h : Fits a e) : Fits (revOf a e i d).1 (revOf a e i d).2.1 := by
  unfold revOf
  cases q : (ledgerOk a e && bIn i 0 ((e.length : Int) - 1)) with
  | false => simp only [Bool.false_eq_true, if_false]; exact ⟨by simp, by simp, by simp⟩
  | true => simp only [if_true]; exact fits_post a e _ h

/-- Balances at a day, from the first of an ordered list of entries on. -/
def balT (d : Int) : List Int → List S63 → List Int
  | b, [] => b
  | b, x :: r => if x.f0 ≤ d then (match applyL b x.f2 with | none => b | some b' => balT d b' r) else b
theorem entR_ge (n : Int) : ∀ (r : List S63) (q : S63) (b : List Int), entR n (some q) b r = true → ∀ y ∈ r, q.f0 ≤ y.f0
  | [], _, _, _ => by simp
  | x :: r, q, b, h => by
    simp only [entR, Bool.and_eq_true, decide_eq_true_eq] at h
    obtain ⟨⟨h1, h2⟩, h3⟩ := h
    intro y hy
    rcases List.mem_cons.1 hy with rfl | hy
    · exact h1
    · cases hb : applyL b x.f2 with
      | none => rw [hb] at h3; simp at h3
      | some b' =>
        rw [hb] at h3
        have := entR_ge n r x b' h3 y hy
        omega
theorem implBal_l1 (n : Nat) (e : List S63) (he : e.length ≤ 1048576) (d : Int) (i : Nat) (hi : i < e.length) (ps : List S70) (hl : ps.length ≤ 1048576) (hall : ∀ y ∈ ps, (0 ≤ y.f0 ∧ y.f0 ≤ (n : Int) - 1) ∧ amt y.f1 = true) (b' : List Int) (r : List Int) (hr : Ev (fun k => impl_balancesAt.l0 k d b' e (e.length : Int) ((i : Int) + 1)) r) : ∀ b : List Int, b.length = n → Amts b → applyL b ps = some b' → Ev (fun k => impl_balancesAt.l1 k d b e (e.length : Int) i ps (ps.length : Int) 0) r := by
  refine list_ind0 ps (fun j l => ∀ b : List Int, b.length = n → Amts b → applyL b l = some b' → Ev (fun k => impl_balancesAt.l1 k d b e (e.length : Int) i ps (ps.length : Int) j) r) ?_ ?_
  · intro b hb ha hq
    simp only [applyL, Option.some.injEq] at hq
    subst hq
    refine Ev.step (fun k => by simp only [impl_balancesAt.l1]; rfl) ?_
    simp only [Int.lt_irrefl, if_false, wrap_in (show -9223372036854775808 ≤ (i : Int) + 1 by omega) (by omega)]
    exact hr
  · intro j y l hj hdj ih b hb ha hq
    obtain ⟨hy, hya⟩ := hall y (mem_drop hdj)
    have hya' := (amt_iff _).1 hya
    have hbr := amts_rd ha y.f0
    simp only [applyL] at hq
    split at hq
    · rename_i hok
      refine Ev.step (fun k => by simp only [impl_balancesAt.l1]; rfl) ?_
      simp only [if_pos (show (j : Int) < (ps.length : Int) by omega), if_pos (show (0 : Int) ≤ j by omega), rdP hdj, if_pos hy.1, if_pos (show y.f0 < (b.length : Int) by omega), wrap_in (show -9223372036854775808 ≤ rd b y.f0 + y.f1 by omega) (by omega), wrap_in (show -9223372036854775808 ≤ (j : Int) + 1 by omega) (by omega)]
      exact ih _ (by simpa using hb) (amts_set ha _ _ hok) hq
    · cases hq
theorem days_ev (l : List Int) (hl : l.length ≤ 1048576) : Ev (fun k => slices_ContainsFunc_int_int_impl_isAccount_1.f k l) (!l.all dayOk) := by
  have key : ∃ r : Int, Ev (fun k => slices_IndexFunc_int_int_impl_isAccount_1.f k l) r ∧ decide (r ≥ 0) = !l.all dayOk := by
    unfold slices_IndexFunc_int_int_impl_isAccount_1.f
    refine list_ind0 l (fun i rest => ∃ r : Int, Ev (fun k => slices_IndexFunc_int_int_impl_isAccount_1.l0 k l (l.length : Int) i) r ∧ decide (r ≥ 0) = !rest.all dayOk) ?_ ?_
    · refine ⟨-1, ?_, by simp⟩
      refine Ev.step (fun k => by simp only [slices_IndexFunc_int_int_impl_isAccount_1.l0]; rfl) ?_
      simp only [Int.lt_irrefl, if_false]; exact Ev.now _
    · intro i x rest hi hd ih
      obtain ⟨r, hr, he⟩ := ih
      have hc : XFnLedger.impl_isAccount_1.f x = some (!dayOk x) := by unfold XFnLedger.impl_isAccount_1.f; rw [isDay_eq]; rfl
      have hrd : rd l (i : Int) = x := (rd_at hd).2.1
      cases hx : dayOk x with
      | false =>
        refine ⟨i, ?_, by rw [List.all_cons, hx]; simp⟩
        refine Ev.step (fun k => by simp only [slices_IndexFunc_int_int_impl_isAccount_1.l0]; rfl) ?_
        simp only [if_pos (show (i : Int) < (l.length : Int) by omega), if_pos (show (0 : Int) ≤ i by omega), hrd, hc, hx, Option.bind_some, Bool.not_false, if_true]
        exact Ev.now _
      | true =>
        refine ⟨r, ?_, by rw [List.all_cons, hx, Bool.true_and]; exact he⟩
        refine Ev.step (fun k => by simp only [slices_IndexFunc_int_int_impl_isAccount_1.l0]; rfl) ?_
        simp only [if_pos (show (i : Int) < (l.length : Int) by omega), if_pos (show (0 : Int) ≤ i by omega), hrd, hc, hx, Option.bind_some, Bool.not_true, Bool.false_eq_true, if_false, wrap_in (show -9223372036854775808 ≤ (i : Int) + 1 by omega) (by omega)]
        exact hr
  obtain ⟨r, hr, he⟩ := key
  unfold slices_ContainsFunc_int_int_impl_isAccount_1.f
  exact Ev.bind hr (Ev.some he)
theorem isAccount_ev (a : List S48) (e : List S63) (h : FitsT a e) (n : Int) (l : List Int) (hl : l.length ≤ 1048576) : Ev (fun k => impl_isAccount.f k a e n l) (ledgerOk a e && bIn n 0 ((a.length : Int) - 1) && l.all dayOk) := by
  have f1 := h.1.1
  unfold impl_isAccount.f
  refine Ev.bind (implLedger_ev a e h) ?_
  cases ledgerOk a e with
  | false => simp only [Bool.false_eq_true, if_false, Bool.false_and]; exact Ev.now _
  | true =>
    simp only [if_true, Bool.true_and, within_b, Option.bind_some, wrap_in (show -9223372036854775808 ≤ (a.length : Int) - 1 by omega) (by omega)]
    cases bIn n 0 ((a.length : Int) - 1) with
    | false => simp only [Bool.false_eq_true, if_false, Bool.false_and]; exact Ev.now _
    | true =>
      simp only [if_true, Bool.true_and]
      exact Ev.bind (f := fun _ t => some (!t)) (days_ev l hl) (Ev.some (Bool.not_not _))

def stP (n f t i d : Int) : List S70 → List Int → List Int → Int → List Int × List Int × Int
  | [], u, v, s => (u, v, s)
  | y :: r, u, v, s => if y.f0 = n then (if bIn d f t then stP n f t i d r (u ++ [i]) (v ++ [s + y.f1]) (s + y.f1) else stP n f t i d r u v (s + y.f1)) else stP n f t i d r u v s
def stE (n f t : Int) : Int → List S63 → List Int → List Int → Int → List Int × List Int
  | _, [], u, v, _ => (u, v)
  | i, x :: r, u, v, s => stE n f t (i + 1) r (stP n f t i x.f0 x.f2 u v s).1 (stP n f t i x.f0 x.f2 u v s).2.1 (stP n f t i x.f0 x.f2 u v s).2.2
def Bd (m : Nat) (u v : List Int) (s : Int) : Prop := u.length ≤ m ∧ v.length ≤ m ∧ -(1000000000 * (m : Int)) ≤ s ∧ s ≤ 1000000000 * (m : Int)
theorem stP_bd (n f t i d : Int) : ∀ (l : List S70) (m : Nat) (u v : List Int) (s : Int), (∀ y ∈ l, amt y.f1 = true) → Bd m u v s → Bd (m + l.length) (stP n f t i d l u v s).1 (stP n f t i d l u v s).2.1 (stP n f t i d l u v s).2.2
  | [], m, u, v, s, _, h => by simpa [stP] using h
  | y :: r, m, u, v, s, ha, h => by
    have hy := (amt_iff _).1 (ha y (by simp))
    have ha' : ∀ z ∈ r, amt z.f1 = true := fun z hz => ha z (by simp [hz])
    obtain ⟨h1, h2, h3, h4⟩ := h
    rw [show m + (y :: r).length = m + 1 + r.length by simp only [List.length_cons]; omega]
    by_cases c1 : y.f0 = n
    · by_cases c2 : bIn d f t = true
      · simp only [stP, if_pos c1, if_pos c2]
        exact stP_bd n f t i d r (m + 1) _ _ _ ha' ⟨by simp only [List.length_append, List.length_singleton]; omega, by simp only [List.length_append, List.length_singleton]; omega, by omega, by omega⟩
      · simp only [stP, if_pos c1, if_neg c2]
        exact stP_bd n f t i d r (m + 1) _ _ _ ha' ⟨by omega, by omega, by omega, by omega⟩
    · simp only [stP, if_neg c1]
      exact stP_bd n f t i d r (m + 1) _ _ _ ha' ⟨by omega, by omega, by omega, by omega⟩
theorem specSt_l1 (n f t : Int) (a : List S48) (e : List S63) (he : e.length ≤ 40) (i : Nat) (hi : i < e.length) (x : S63) (rest : List S63) (hd : e.drop i = x :: rest) (hl : x.f2.length ≤ 8) (hall : ∀ y ∈ x.f2, amt y.f1 = true) (r : List Int × List Int × Bool) (u v : List Int) (s : Int) (hb : Bd (8 * i) u v s)
    (hr : Ev (fun k => spec_AccountStatement.l0 k n f t (stP n f t i x.f0 x.f2 u v s).1 (stP n f t i x.f0 x.f2 u v s).2.1 (stP n f t i x.f0 x.f2 u v s).2.2 ((i : Int) + 1) a e) r) : Ev (fun k => spec_AccountStatement.l1 k n f t u v s i 0 a e) r := by
  have key := list_ind0 x.f2 (fun j l => ∀ (u v : List Int) (s : Int), Bd (8 * i + j) u v s → Ev (fun k => spec_AccountStatement.l0 k n f t (stP n f t i x.f0 l u v s).1 (stP n f t i x.f0 l u v s).2.1 (stP n f t i x.f0 l u v s).2.2 ((i : Int) + 1) a e) r → Ev (fun k => spec_AccountStatement.l1 k n f t u v s i j a e) r) ?_ ?_
  · exact key u v s hb hr
  · intro u v s hb h
    simp only [stP] at h
    refine Ev.step (fun k => by simp only [spec_AccountStatement.l1]; rfl) ?_
    simp only [if_pos (show (0 : Int) ≤ i by omega), if_pos (show (i : Int) < (e.length : Int) by omega), rdE hd, Int.lt_irrefl, if_false, wrap_in (show -9223372036854775808 ≤ (i : Int) + 1 by omega) (by omega)]
    exact h
  · intro j y l hj hdj ih u v s hb h
    have hya := (amt_iff _).1 (hall y (mem_drop hdj))
    obtain ⟨h1, h2, h3, h4⟩ := hb
    refine Ev.step (fun k => by simp only [spec_AccountStatement.l1]; rfl) ?_
    simp only [if_pos (show (0 : Int) ≤ i by omega), if_pos (show (i : Int) < (e.length : Int) by omega), rdE hd, if_pos (show (j : Int) < (x.f2.length : Int) by omega), if_pos (show (0 : Int) ≤ j by omega), rdP hdj, wrap_in (show -9223372036854775808 ≤ (j : Int) + 1 by omega) (by omega), wrap_in (show -9223372036854775808 ≤ s + y.f1 by omega) (by omega), l1In_b, Option.bind_some, if_pos (show u.length < 17592186044416 by omega), if_pos (show v.length < 17592186044416 by omega)]
    by_cases c1 : y.f0 = n
    · simp only [if_pos c1]
      by_cases c2 : bIn x.f0 f t = true
      · simp only [stP, if_pos c1, if_pos c2] at h ⊢
        exact ih _ _ _ ⟨by simp only [List.length_append, List.length_singleton]; omega, by simp only [List.length_append, List.length_singleton]; omega, by omega, by omega⟩ h
      · simp only [stP, if_pos c1, if_neg c2] at h ⊢
        exact ih _ _ _ ⟨by omega, by omega, by omega, by omega⟩ h
    · simp only [stP, if_neg c1] at h ⊢
      exact ih _ _ _ ⟨by omega, by omega, by omega, by omega⟩ h
theorem implSt_l1 (n f t : Int) (e : List S63) (he : e.length ≤ 40) (i : Nat) (hi : i < e.length) (x : S63) (hl : x.f2.length ≤ 8) (hall : ∀ y ∈ x.f2, amt y.f1 = true) (r : List Int × List Int × Bool) (u v : List Int) (s : Int) (hb : Bd (8 * i) u v s)
    (hr : Ev (fun k => impl_AccountStatement.l0 k n f t (stP n f t i x.f0 x.f2 u v s).1 (stP n f t i x.f0 x.f2 u v s).2.1 (stP n f t i x.f0 x.f2 u v s).2.2 e (e.length : Int) ((i : Int) + 1)) r) : Ev (fun k => impl_AccountStatement.l1 k n f t u v s i e (e.length : Int) i x.f2 (x.f2.length : Int) 0 x.f0 x.f1 x.f2) r := by
  have key := list_ind0 x.f2 (fun j l => ∀ (u v : List Int) (s : Int), Bd (8 * i + j) u v s → Ev (fun k => impl_AccountStatement.l0 k n f t (stP n f t i x.f0 l u v s).1 (stP n f t i x.f0 l u v s).2.1 (stP n f t i x.f0 l u v s).2.2 e (e.length : Int) ((i : Int) + 1)) r → Ev (fun k => impl_AccountStatement.l1 k n f t u v s i e (e.length : Int) i x.f2 (x.f2.length : Int) j x.f0 x.f1 x.f2) r) ?_ ?_
  · exact key u v s hb hr
  · intro u v s hb h
    simp only [stP] at h
    refine Ev.step (fun k => by simp only [impl_AccountStatement.l1]; rfl) ?_
    simp only [Int.lt_irrefl, if_false, wrap_in (show -9223372036854775808 ≤ (i : Int) + 1 by omega) (by omega)]
    exact h
  · intro j y l hj hdj ih u v s hb h
    have hya := (amt_iff _).1 (hall y (mem_drop hdj))
    obtain ⟨h1, h2, h3, h4⟩ := hb
    refine Ev.step (fun k => by simp only [impl_AccountStatement.l1]; rfl) ?_
    simp only [if_pos (show (j : Int) < (x.f2.length : Int) by omega), if_pos (show (0 : Int) ≤ j by omega), rdP hdj, wrap_in (show -9223372036854775808 ≤ (j : Int) + 1 by omega) (by omega), wrap_in (show -9223372036854775808 ≤ s + y.f1 by omega) (by omega), within_b, Option.bind_some, if_pos (show u.length < 17592186044416 by omega), if_pos (show v.length < 17592186044416 by omega)]
    by_cases c1 : y.f0 = n
    · simp only [if_pos c1]
      by_cases c2 : bIn x.f0 f t = true
      · simp only [stP, if_pos c1, if_pos c2] at h ⊢
        exact ih _ _ _ ⟨by simp only [List.length_append, List.length_singleton]; omega, by simp only [List.length_append, List.length_singleton]; omega, by omega, by omega⟩ h
      · simp only [stP, if_pos c1, if_neg c2] at h ⊢
        exact ih _ _ _ ⟨by omega, by omega, by omega, by omega⟩ h
    · simp only [stP, if_neg c1] at h ⊢
      exact ih _ _ _ ⟨by omega, by omega, by omega, by omega⟩ h
theorem st_both (n f t : Int) (a : List S48) (e : List S63) (hok : ledgerOk a e = true) : Ev (fun k => spec_AccountStatement.l0 k n f t [] [] 0 0 a e) ((stE n f t 0 e [] [] 0).1, (stE n f t 0 e [] [] 0).2, true) ∧ Ev (fun k => impl_AccountStatement.l0 k n f t [] [] 0 e (e.length : Int) 0) ((stE n f t 0 e [] [] 0).1, (stE n f t 0 e [] [] 0).2, true) ∧ (stE n f t 0 e [] [] 0).1.length ≤ 400 ∧ (stE n f t 0 e [] [] 0).2.length ≤ 400 := by
  obtain ⟨k1, k2, k3⟩ := ledger_facts a e hok
  have key := list_ind0 e (fun i rest => ∀ (u v : List Int) (s : Int), Bd (8 * i) u v s → Ev (fun k => spec_AccountStatement.l0 k n f t u v s i a e) ((stE n f t i rest u v s).1, (stE n f t i rest u v s).2, true) ∧ Ev (fun k => impl_AccountStatement.l0 k n f t u v s e (e.length : Int) i) ((stE n f t i rest u v s).1, (stE n f t i rest u v s).2, true) ∧ (stE n f t i rest u v s).1.length ≤ 400 ∧ (stE n f t i rest u v s).2.length ≤ 400) ?_ ?_
  · exact key [] [] 0 ⟨by simp, by simp, by omega, by omega⟩
  · intro u v s hb
    obtain ⟨h1, h2, _⟩ := hb
    refine ⟨?_, ?_, by simp only [stE]; omega, by simp only [stE]; omega⟩
    · refine Ev.step (fun k => by simp only [spec_AccountStatement.l0]; rfl) ?_
      simp only [Int.lt_irrefl, if_false, stE]; exact Ev.now _
    · refine Ev.step (fun k => by simp only [impl_AccountStatement.l0]; rfl) ?_
      simp only [Int.lt_irrefl, if_false, stE]; exact Ev.now _
  · intro i x rest hi hd ih u v s hb
    obtain ⟨hl, hall⟩ := k3 x (mem_drop hd)
    have hall' : ∀ y ∈ x.f2, amt y.f1 = true := fun y hy => (hall y hy).2
    have B := stP_bd n f t i x.f0 x.f2 (8 * i) u v s hall' hb
    obtain ⟨I1, I2, I3⟩ := ih _ _ _ (show Bd (8 * (i + 1)) (stP n f t i x.f0 x.f2 u v s).1 (stP n f t i x.f0 x.f2 u v s).2.1 (stP n f t i x.f0 x.f2 u v s).2.2 from ⟨by have := B.1; omega, by have := B.2.1; omega, by have := B.2.2.1; omega, by have := B.2.2.2; omega⟩)
    rw [show (((i + 1 : Nat)) : Int) = (i : Int) + 1 by omega] at I1 I2 I3
    simp only [stE]
    refine ⟨?_, ?_, I3⟩
    · refine Ev.step (fun k => by simp only [spec_AccountStatement.l0]; rfl) ?_
      simp only [if_pos (show (i : Int) < (e.length : Int) by omega)]
      exact specSt_l1 n f t a e k2 i hi x rest hd hl hall' _ u v s hb I1
    · refine Ev.step (fun k => by simp only [impl_AccountStatement.l0]; rfl) ?_
      simp only [if_pos (show (i : Int) < (e.length : Int) by omega), if_pos (show (0 : Int) ≤ i by omega), rdE hd]
      exact implSt_l1 n f t e k2 i hi x hl hall' _ u v s hb I2
def stateOf (a : List S48) (e : List S63) (n f t : Int) : List Int × List Int × Bool := if ledgerOk a e && bIn n 0 ((a.length : Int) - 1) && dayOk f && dayOk t then ((stE n f t 0 e [] [] 0).1, (stE n f t 0 e [] [] 0).2, true) else ([], [], false)
theorem specSt_ev (a : List S48) (e : List S63) (h : FitsT a e) (n f t : Int) : Ev (fun k => spec_AccountStatement.f k a e n f t) (stateOf a e n f t) := by
  have f1 := h.1.1
  have j (c : Bool) (hc : c = !(ledgerOk a e && bIn n 0 ((a.length : Int) - 1) && dayOk f && dayOk t)) : Ev (fun k => spec_AccountStatement.j0 k n f t [] [] c a e) (stateOf a e n f t) := by
    subst hc
    unfold stateOf
    refine Ev.step (fun k => by simp only [spec_AccountStatement.j0]; rfl) ?_
    cases q : (ledgerOk a e && bIn n 0 ((a.length : Int) - 1) && dayOk f && dayOk t) with
    | false => simp only [Bool.not_false, if_true, Bool.false_eq_true, if_false]; exact Ev.now _
    | true =>
      simp only [Bool.and_eq_true] at q
      simp only [Bool.not_true, if_true, Bool.false_eq_true, if_false]
      exact (st_both n f t a e q.1.1.1).1
  unfold spec_AccountStatement.f
  simp only [Option.bind_some]
  refine Ev.bind (specGood_ev a e h) ?_
  cases h1 : ledgerOk a e with
  | false => simp only [Bool.false_eq_true, if_false]; exact j true (by simp [h1])
  | true =>
    simp only [if_true, l1In_b, Option.bind_some, wrap_in (show -9223372036854775808 ≤ (a.length : Int) - 1 by omega) (by omega), l3Good_eq]
    cases h2 : bIn n 0 ((a.length : Int) - 1) with
    | false => simp only [Bool.false_eq_true, if_false]; exact j true (by simp [h2])
    | true =>
      simp only [if_true]
      cases h3 : dayOk f with
      | false => simp only [Bool.false_eq_true, if_false]; exact j true (by simp [h3])
      | true => simp only [if_true]; exact j _ (by rw [h1, h2, h3]; simp)
theorem implSt_ev (a : List S48) (e : List S63) (h : FitsT a e) (n f t : Int) : Ev (fun k => impl_AccountStatement.f k a e n f t) (stateOf a e n f t) := by
  unfold impl_AccountStatement.f stateOf
  refine Ev.bind (isAccount_ev a e h n [f, t] (by simp)) ?_
  have e1 : ([f, t] : List Int).all dayOk = (dayOk f && dayOk t) := by simp
  rw [e1, ← Bool.and_assoc]
  cases q : (ledgerOk a e && bIn n 0 ((a.length : Int) - 1) && dayOk f && dayOk t) with
  | false => simp only [Bool.false_eq_true, if_false]; exact Ev.now _
  | true =>
    simp only [Bool.and_eq_true] at q
    simp only [if_true]
    exact (st_both n f t a e q.1.1.1).2.1
theorem st_len (a : List S48) (e : List S63) (n f t : Int) : (stateOf a e n f t).1.length ≤ 400 ∧ (stateOf a e n f t).2.1.length ≤ 400 := by
  unfold stateOf
  cases q : (ledgerOk a e && bIn n 0 ((a.length : Int) - 1) && dayOk f && dayOk t) with
  | false => simp
  | true =>
    simp only [Bool.and_eq_true] at q
    simp only [if_true]
    exact (st_both n f t a e q.1.1.1).2.2

def balanceOf (a : List S48) (e : List S63) (n d : Int) : Int × Bool := if ledgerOk a e && bIn n 0 ((a.length : Int) - 1) && dayOk d then (rd (balT d (List.replicate a.length 0) e) n, true) else (0, false)
def posS : List Int → Int → Int
  | [], s => s
  | x :: r, s => posS r (s + if 0 < x then x else 0)
theorem posS_bd : ∀ (l : List Int) (s : Int), Amts l → 0 ≤ s → 0 ≤ posS l s
  | [], s, _, h => h
  | x :: r, s, ha, h => posS_bd r _ (fun y hy => ha y (by simp [hy])) (by split <;> omega)
def trialOf (a : List S48) (e : List S63) (d : Int) : List Int × Int × Bool := if ledgerOk a e && dayOk d then (balT d (List.replicate a.length 0) e, posS (balT d (List.replicate a.length 0) e) 0, true) else ([], 0, false)
theorem implTrial_l0 (l : List Int) (hl : l.length ≤ 1048576) (ha : Amts l) : Ev (fun k => impl_TrialBalance.l0 k l 0 l (l.length : Int) 0) (l, posS l 0, true) := by
  have key := list_ind0 l (fun i rest => ∀ s : Int, 0 ≤ s ∧ s ≤ 1000000000 * (i : Int) → Ev (fun k => impl_TrialBalance.l0 k l s l (l.length : Int) i) (l, posS rest s, true)) ?_ ?_
  · exact key 0 (by omega)
  · intro s hs
    refine Ev.step (fun k => by simp only [impl_TrialBalance.l0]; rfl) ?_
    simp only [Int.lt_irrefl, if_false, posS]; exact Ev.now _
  · intro i x rest hi hd ih s hs
    have hx := ha x (mem_drop hd)
    have hr : rd l (i : Int) = x := by rw [rd, Int.toNat_natCast]; exact (getD_at hd).2.1
    refine Ev.step (fun k => by simp only [impl_TrialBalance.l0]; rfl) ?_
    simp only [if_pos (show (i : Int) < (l.length : Int) by omega), if_pos (show (0 : Int) ≤ i by omega), hr, mx, wrap_in (show -9223372036854775808 ≤ (i : Int) + 1 by omega) (by omega)]
    by_cases h : 0 < x
    · simp only [if_pos h, wrap_in (show -9223372036854775808 ≤ s + x by omega) (by omega), posS]
      exact ih (s + x) (by omega)
    · simp only [if_neg h, wrap_in (show -9223372036854775808 ≤ s + 0 by omega) (by omega), posS]
      exact ih (s + 0) (by omega)
/-- A drawn text's bytes. -/
def Bytes (s : List Int) : Prop := s.length ≤ 9223372036854775807 ∧ ∀ y ∈ s, 0 ≤ y ∧ y ≤ 255
theorem bytes_of {s : List Int} (h : s.length ≤ 9223372036854775807 ∧ ∀ y ∈ s, (Lit.int .u8 y).wf = true) : Bytes s := by
  refine ⟨h.1, fun y hy => ?_⟩
  have := h.2 y hy
  simp only [Lit.wf, Bool.and_eq_true, decide_eq_true_eq] at this
  exact this
theorem rd_byte {s : List Int} (h : Bytes s) (i : Int) : 0 ≤ rd s i ∧ rd s i ≤ 255 := by
  unfold rd
  rw [List.getD_eq_getElem?_getD]
  cases hq : s[i.toNat]? with
  | none => simp
  | some y => exact h.2 y (List.mem_of_getElem? hq)
theorem and255 (x : Int) (h0 : 0 ≤ x) (h1 : x < 18446744073709551616) : 0 ≤ Go.bits .and .u64 x 255 ∧ Go.bits .and .u64 x 255 ≤ 255 := by
  have := bits_mask .u64 64 (by decide) (fun n a b => by rw [IntKind.wrap_u64]; omega) 8 (by decide) x h0 h1
  rw [show (2 : Int) ^ 8 - 1 = 255 by decide] at this
  rw [this]
  omega
theorem rd_mem {l : List Int} {i : Int} (h0 : 0 ≤ i) (h1 : i < (l.length : Int)) : rd l i ∈ l := by
  unfold rd
  have h : i.toNat < l.length := by omega
  rw [List.getD_eq_getElem?_getD, List.getElem?_eq_getElem h]
  simp

theorem next_ev (s : List Int) (hs : Bytes s) (p r : Int) (h0 : 0 ≤ p) (h1 : p ≤ 4611686018427387904) : ∃ v r', Ev (fun k => spec_l1Cur_next.f k s p r) (v, p + 1, r') ∧ 0 ≤ v ∧ v ≤ 255 := by
  have hw : wrap64 (p + 1) = p + 1 := wrap_in (by omega) (by omega)
  have hb := rd_byte hs p
  have hr : wrap64 (rd s p) = rd s p := wrap_in (by omega) (by omega)
  have hu : ∀ x : Int, 0 ≤ wrap64 (Go.bits .and .u64 ((IntKind.u64.wrap x) / 1099511627776) 255) ∧ wrap64 (Go.bits .and .u64 ((IntKind.u64.wrap x) / 1099511627776) 255) ≤ 255 := by
    intro x
    have e : IntKind.u64.wrap x = x % 18446744073709551616 := IntKind.wrap_u64 x
    have := and255 ((IntKind.u64.wrap x) / 1099511627776) (by rw [e]; omega) (by rw [e]; omega)
    rw [wrap_in (by omega) (by omega)]
    exact this
  have j (v : Int) (hv : 0 ≤ v ∧ v ≤ 255) : ∃ v' r', Ev (fun k => spec_l1Cur_next.j0 k v s p r) (v', p + 1, r') ∧ 0 ≤ v' ∧ v' ≤ 255 := by
    by_cases c1 : p + 1 ≤ (s.length : Int)
    · exact ⟨v, _, Ev.step (fun k => by simp only [spec_l1Cur_next.j0]; rfl) (by rw [hw]; simp only [if_pos c1]; exact Ev.now _), hv⟩
    · exact ⟨_, _, Ev.step (fun k => by simp only [spec_l1Cur_next.j0]; rfl) (by rw [hw]; simp only [if_neg c1]; exact Ev.now _), hu _⟩
  unfold spec_l1Cur_next.f
  by_cases c1 : p < (s.length : Int)
  · simp only [if_pos c1, if_pos h0, hr]; exact j _ hb
  · simp only [if_neg c1]; exact j 0 (by omega)
theorem pick_ev (s : List Int) (hs : Bytes s) (p r n : Int) (h0 : 0 ≤ p) (h1 : p ≤ 4611686018427387900) : ∃ v p' r', Ev (fun k => spec_l1Cur_pick.f k s p r n) (v, p', r') ∧ 0 ≤ v ∧ (v < n ∨ n ≤ 1 ∧ v = 0) ∧ p ≤ p' ∧ p' ≤ p + 2 := by
  unfold spec_l1Cur_pick.f
  by_cases c1 : n ≤ 1
  · simp only [if_pos c1]
    exact ⟨0, p, r, Ev.now _, by omega, by omega, by omega, by omega⟩
  · simp only [if_neg c1]
    obtain ⟨v, r1, e1, a1, a2⟩ := next_ev s hs p r h0 (by omega)
    by_cases c2 : n > 200
    · obtain ⟨v2, r2, e2, b1, b2⟩ := next_ev s hs (p + 1) r1 (by omega) (by omega)
      have m0 := Int.tmod_nonneg n (show 0 ≤ v * 256 + v2 by omega)
      have m1 := Int.tmod_lt_of_pos (v * 256 + v2) (show 0 < n by omega)
      refine ⟨Int.tmod (v * 256 + v2) n, p + 1 + 1, r2, Ev.bind e1 ?_, m0, Or.inl m1, by omega, by omega⟩
      simp only [if_pos c2]
      refine Ev.bind e2 ?_
      simp only [if_neg (show ¬ n = 0 by omega), wrap_in (show -9223372036854775808 ≤ v * 256 by omega) (by omega), wrap_in (show -9223372036854775808 ≤ v * 256 + v2 by omega) (by omega)]
      exact Ev.now _
    · have m0 := Int.tmod_nonneg n (show 0 ≤ v by omega)
      have m1 := Int.tmod_lt_of_pos v (show 0 < n by omega)
      refine ⟨Int.tmod v n, p + 1, r1, Ev.bind e1 ?_, m0, Or.inl m1, by omega, by omega⟩
      simp only [if_neg c2, if_neg (show ¬ n = 0 by omega)]
      exact Ev.now _
theorem one_ev (s : List Int) (hs : Bytes s) (p r n : Int) (h0 : 0 ≤ p) (h1 : p ≤ 4611686018427387900) : ∃ v p' r', Ev (fun k => spec_l1Cur_one.f k s p r n) (v, p', r') ∧ p ≤ p' ∧ p' ≤ p + 2 := by
  unfold spec_l1Cur_one.f
  obtain ⟨v, p', r', e, _, _, a, b⟩ := pick_ev s hs p r n h0 h1
  exact ⟨v == 0, p', r', Ev.bind e (Ev.now _), a, b⟩
theorem among_ev (s : List Int) (hs : Bytes s) (p r : Int) (l : List Int) (hl : 0 < l.length) (h0 : 0 ≤ p) (h1 : p ≤ 4611686018427387900) : ∃ v p' r', Ev (fun k => spec_l1Cur_among.f k s p r l) (v, p', r') ∧ v ∈ l ∧ p ≤ p' ∧ p' ≤ p + 2 := by
  unfold spec_l1Cur_among.f
  obtain ⟨v, p', r', e, a0, a1, a2, a3⟩ := pick_ev s hs p r (l.length : Int) h0 h1
  have hv : v < (l.length : Int) := by omega
  refine ⟨rd l v, p', r', Ev.bind e ?_, rd_mem a0 hv, a2, a3⟩
  simp only [if_pos a0, if_pos hv]
  exact Ev.now _
theorem rdOf_mem' {l : List ByteArray} {i : Int} (h0 : 0 ≤ i) (h1 : i < (l.length : Int)) : rdOf ByteArray.empty l i ∈ l := by
  unfold rdOf
  rw [List.getD_eq_getElem?_getD, List.getElem?_eq_getElem (show i.toNat < l.length by omega)]
  exact List.getElem_mem _
theorem of_ev (s : List Int) (hs : Bytes s) (p r : Int) (l : List ByteArray) (hl : 0 < l.length) (h0 : 0 ≤ p) (h1 : p ≤ 4611686018427387900) : ∃ v p' r', Ev (fun k => spec_l1Cur_of.f k s p r l) (v, p', r') ∧ v ∈ l ∧ p ≤ p' ∧ p' ≤ p + 2 := by
  unfold spec_l1Cur_of.f
  obtain ⟨v, p', r', e, a0, a1, a2, a3⟩ := pick_ev s hs p r (l.length : Int) h0 h1
  have hv : v < (l.length : Int) := by omega
  refine ⟨rdOf ByteArray.empty l v, p', r', Ev.bind e ?_, rdOf_mem' a0 hv, a2, a3⟩
  simp only [if_pos a0, if_pos hv]
  exact Ev.now _
theorem day_ev (s : List Int) (hs : Bytes s) (p r : Int) (h0 : 0 ≤ p) (h1 : p ≤ 2305843009213693952) : ∃ v p' r', Ev (fun k => spec_l1Cur_day.f k s p r) (v, p', r') ∧ p ≤ p' ∧ p' ≤ p + 4 := by
  unfold spec_l1Cur_day.f
  obtain ⟨v, p1, r1, e1, _, _, u1, v1⟩ := pick_ev s hs p r 6 h0 (by omega)
  by_cases c0 : v = 0
  · obtain ⟨x, p2, r2, e2, _, u2, v2⟩ := among_ev s hs p1 r1 [0, 59, 60, 365, 366, 424, 425, 36524, 36523, 30, 31] (by decide) (by omega) (by omega)
    refine ⟨x, p2, r2, Ev.bind e1 ?_, by omega, by omega⟩
    simp only [if_pos c0]
    exact Ev.bind e2 (Ev.now _)
  · by_cases c1 : v = 1
    · obtain ⟨x, p2, r2, e2, _, _, u2, v2⟩ := pick_ev s hs p1 r1 36525 (by omega) (by omega)
      refine ⟨x, p2, r2, Ev.bind e1 ?_, by omega, by omega⟩
      simp only [if_neg c0, if_pos c1]
      exact Ev.bind e2 (Ev.now _)
    · obtain ⟨x, p2, r2, e2, _, _, u2, v2⟩ := pick_ev s hs p1 r1 1500 (by omega) (by omega)
      refine ⟨x, p2, r2, Ev.bind e1 ?_, by omega, by omega⟩
      simp only [if_neg c0, if_neg c1]
      exact Ev.bind e2 (Ev.now _)
theorem posted_l0 (s : List Int) (hs : Bytes s) (n : Int) (hn : n ≤ 12) (d : Int) (t : ByteArray) : ∀ (m : Nat) (i sum p r : Int) (l : List S70), i + m = n → 0 ≤ i → l.length ≤ 4 → 0 ≤ p → p + 4 * m + 4 ≤ 2305843009213693952 → ∃ l' p' r', Ev (fun k => spec_l1Cur_posted.l0 k n sum i s p r d t l) (d, t, l', p', r') ∧ l'.length ≤ 5 ∧ p ≤ p' ∧ p' ≤ p + 4 * m + 2
  | 0, i, sum, p, r, l, hi, h0, hl, hp, hb => by
    have j (c : Bool) (q u : Int) : Ev (fun k => spec_l1Cur_posted.j1 k n sum c s q u d t l) (d, t, if c then l ++ [⟨wrap64 (n - 1), wrap64 (-sum)⟩] else l, q, u) := by
      refine Ev.step (fun k => by simp only [spec_l1Cur_posted.j1]; rfl) ?_
      cases c with
      | true => simp only [if_true, if_pos (show l.length < 8796093022208 by omega)]; exact Ev.now _
      | false => simp only [Bool.false_eq_true, if_false]; exact Ev.now _
    have jl (c : Bool) : (if c then l ++ [⟨wrap64 (n - 1), wrap64 (-sum)⟩] else l).length ≤ 5 := by
      cases c with
      | true => simp only [if_true, List.length_append, List.length_cons, List.length_nil]; omega
      | false => simp only [Bool.false_eq_true, if_false]; omega
    by_cases c1 : (l.length : Int) > 0
    · have hw : wrap64 ((l.length : Int) - 1) = (l.length : Int) - 1 := wrap_in (by omega) (by omega)
      by_cases c2 : (rd_T70 l ((l.length : Int) - 1)).f0 < wrap64 (n - 1)
      · obtain ⟨v, p1, r1, e1, u1, v1⟩ := one_ev s hs p r 30 hp (by omega)
        refine ⟨_, p1, r1, Ev.step (fun k => by simp only [spec_l1Cur_posted.l0]; rfl) ?_, jl (!v), by omega, by omega⟩
        simp only [if_neg (show ¬ i < n by omega), if_pos c1, hw, if_pos (show (0 : Int) ≤ (l.length : Int) - 1 by omega), if_pos (show (l.length : Int) - 1 < (l.length : Int) by omega), if_pos c2]
        exact Ev.bind e1 (j _ _ _)
      · refine ⟨_, p, r, Ev.step (fun k => by simp only [spec_l1Cur_posted.l0]; rfl) ?_, jl false, by omega, by omega⟩
        simp only [if_neg (show ¬ i < n by omega), if_pos c1, hw, if_pos (show (0 : Int) ≤ (l.length : Int) - 1 by omega), if_pos (show (l.length : Int) - 1 < (l.length : Int) by omega), if_neg c2]
        exact j _ _ _
    · refine ⟨_, p, r, Ev.step (fun k => by simp only [spec_l1Cur_posted.l0]; rfl) ?_, jl false, by omega, by omega⟩
      simp only [if_neg (show ¬ i < n by omega), if_neg c1]
      exact j _ _ _
  | m + 1, i, sum, p, r, l, hi, h0, hl, hp, hb => by
    have hw : wrap64 (i + 1) = i + 1 := wrap_in (by omega) (by omega)
    obtain ⟨v, p1, r1, e1, u1, v1⟩ := one_ev s hs p r 2 hp (by omega)
    have hin : i < n := by omega
    cases v with
    | false =>
      obtain ⟨l', p', r', E, L, U, V⟩ := posted_l0 s hs n hn d t m (i + 1) sum p1 r1 l (by omega) (by omega) hl (by omega) (by omega)
      refine ⟨l', p', r', Ev.step (fun k => by simp only [spec_l1Cur_posted.l0]; rfl) ?_, L, by omega, by omega⟩
      simp only [if_pos hin]
      refine Ev.bind e1 ?_
      simp only [Bool.false_eq_true, if_false, hw]
      exact E
    | true =>
      by_cases c4 : (l.length : Int) < 4
      · obtain ⟨x, p2, r2, e2, _, u2, v2⟩ := among_ev s hs p1 r1 [1, (-1), 50, (-50), 1234, (-99999), 400000000] (by decide) (by omega) (by omega)
        obtain ⟨l', p', r', E, L, U, V⟩ := posted_l0 s hs n hn d t m (i + 1) (wrap64 (sum + x)) p2 r2 (l ++ [⟨i, x⟩]) (by omega) (by omega) (by simp only [List.length_append, List.length_cons, List.length_nil]; omega) (by omega) (by omega)
        refine ⟨l', p', r', Ev.step (fun k => by simp only [spec_l1Cur_posted.l0]; rfl) ?_, L, by omega, by omega⟩
        simp only [if_pos hin]
        refine Ev.bind e1 ?_
        simp only [if_true, if_pos c4, hw]
        refine Ev.bind e2 ?_
        simp only [if_pos (show l.length < 8796093022208 by omega)]
        exact E
      · obtain ⟨l', p', r', E, L, U, V⟩ := posted_l0 s hs n hn d t m (i + 1) sum p1 r1 l (by omega) (by omega) hl (by omega) (by omega)
        refine ⟨l', p', r', Ev.step (fun k => by simp only [spec_l1Cur_posted.l0]; rfl) ?_, L, by omega, by omega⟩
        simp only [if_pos hin]
        refine Ev.bind e1 ?_
        simp only [if_true, if_neg c4, hw]
        exact E
theorem posted_ev (s : List Int) (hs : Bytes s) (p r : Int) (n : Nat) (hn : n ≤ 12) (d : Int) (h0 : 0 ≤ p) (h1 : p + 100 ≤ 2305843009213693952) : ∃ t l p' r', Ev (fun k => spec_l1Cur_posted.f k s p r (n : Int) d) (d, t, l, p', r') ∧ t.size ≤ 100 ∧ l.length ≤ 5 ∧ p ≤ p' ∧ p' ≤ p + 60 := by
  unfold spec_l1Cur_posted.f
  obtain ⟨t, p1, r1, e1, m1, u1, v1⟩ := of_ev s hs p r [(⟨#[]⟩ : ByteArray), (⟨#[114, 101, 110, 116]⟩ : ByteArray), (⟨#[115, 97, 108, 101, 32, 55]⟩ : ByteArray), (⟨#[99, 108, 111, 115, 105, 110, 103]⟩ : ByteArray), (⟨#[102, 101, 101]⟩ : ByteArray)] (by decide) h0 (by omega)
  have ht : t.size ≤ 100 := by
    simp only [List.mem_cons, List.not_mem_nil, or_false] at m1
    rcases m1 with rfl | rfl | rfl | rfl | rfl <;> decide
  obtain ⟨l, p2, r2, e2, L, u2, v2⟩ := posted_l0 s hs (n : Int) (by omega) d t n 0 0 p1 r1 [] (by omega) (by omega) (by simp) (by omega) (by omega)
  exact ⟨t, l, p2, r2, Ev.bind e1 e2, ht, L, by omega, by omega⟩
theorem ledger_l1 (s : List Int) (hs : Bytes s) (a : List S48) (ha : a.length ≤ 12) : ∀ (m : Nat) (d p r : Int) (e : List S63), FitsT a e → e.length + m ≤ 40 → 0 ≤ p → p + 100 * m + 100 ≤ 2305843009213693952 → ∃ e' p' r', Ev (fun k => spec_l1Cur_ledger.l1 k d (m : Int) s p r a e) (a, e', p', r') ∧ FitsT a e' ∧ e'.length ≤ 40 ∧ p ≤ p' ∧ p' ≤ p + 100 * m
  | 0, d, p, r, e, hf, he, hp, hb => by
    refine ⟨e, p, r, Ev.step (fun k => by simp only [spec_l1Cur_ledger.l1]; rfl) ?_, hf, by omega, by omega, by omega⟩
    simp only [if_neg (show ¬ ((0 : Nat) : Int) > 0 by omega)]
    exact Ev.now _
  | m + 1, d, p, r, e, hf, he, hp, hb => by
    have hw : wrap64 (((m + 1 : Nat) : Int) - 1) = (m : Int) := by rw [wrap_in (by omega) (by omega)]; omega
    obtain ⟨v, p1, r1, e1, _, u1, v1⟩ := among_ev s hs p r [0, 1, 30, 200] (by decide) hp (by omega)
    obtain ⟨t, l, p2, r2, e2, ht, hl, u2, v2⟩ := posted_ev s hs p1 r1 a.length ha (wrap64 (d + v)) (by omega) (by omega)
    have hx : (⟨wrap64 (d + v), t, l⟩ : S63).f1.size ≤ 9223372036854775807 ∧ (⟨wrap64 (d + v), t, l⟩ : S63).f2.length ≤ 1048576 := ⟨by show t.size ≤ _; omega, by show l.length ≤ _; omega⟩
    have P := specPost_ev a e ⟨wrap64 (d + v), t, l⟩ hf hx
    unfold postOf at P
    cases q : (ledgerOk a e && ledgerOk a (e ++ [⟨wrap64 (d + v), t, l⟩])) with
    | true =>
      rw [q] at P
      obtain ⟨e', p', r', E, F, L, U, V⟩ := ledger_l1 s hs a ha m (wrap64 (d + v)) p2 r2 (e ++ [⟨wrap64 (d + v), t, l⟩]) (fitsT_snoc hf (by omega) hx) (by simp only [List.length_append, List.length_cons, List.length_nil]; omega) (by omega) (by omega)
      refine ⟨e', p', r', Ev.step (fun k => by simp only [spec_l1Cur_ledger.l1]; rfl) ?_, F, L, by omega, by omega⟩
      simp only [if_pos (show ((m + 1 : Nat) : Int) > 0 by omega)]
      refine Ev.bind e1 ?_
      refine Ev.bind e2 ?_
      refine Ev.bind P ?_
      simp only [if_true, hw]
      exact E
    | false =>
      rw [q] at P
      obtain ⟨e', p', r', E, F, L, U, V⟩ := ledger_l1 s hs a ha m (wrap64 (d + v)) p2 r2 e hf (by omega) (by omega) (by omega)
      refine ⟨e', p', r', Ev.step (fun k => by simp only [spec_l1Cur_ledger.l1]; rfl) ?_, F, L, by omega, by omega⟩
      simp only [if_pos (show ((m + 1 : Nat) : Int) > 0 by omega)]
      refine Ev.bind e1 ?_
      refine Ev.bind e2 ?_
      refine Ev.bind P ?_
      simp only [Bool.false_eq_true, if_false, hw]
      exact E
theorem ledger_l0 (s : List Int) (hs : Bytes s) (x3 : List ByteArray) (h3 : x3.length = 6) (hz : ∀ y ∈ x3, y.size ≤ 100) (x4 : List Int) (h4 : x4.length = 6) (n p r : Int) (hn : n ≤ 6) (hp : 0 ≤ p) (hb : p ≤ 1000000000000) : ∀ (m : Nat) (a : List S48), (a.length : Int) + m = n → (∀ y ∈ a, y.f0.size ≤ 9223372036854775807) → ∃ a' e' p' r', Ev (fun k => spec_l1Cur_ledger.l0 k x3 x4 n s p r a) (a', e', p', r') ∧ FitsT a' e' ∧ a'.length ≤ 6 ∧ e'.length ≤ 40 ∧ p ≤ p' ∧ p' ≤ p + 5000
  | 0, a, hi, hsz => by
    obtain ⟨d, p1, r1, e1, u1, v1⟩ := day_ev s hs p r hp (by omega)
    obtain ⟨v, p2, r2, e2, a1, a2, u2, v2⟩ := pick_ev s hs p1 r1 8 (by omega) (by omega)
    obtain ⟨e', p', r', E, F, L, U, V⟩ := ledger_l1 s hs a (by omega) v.toNat d p2 r2 [] ⟨⟨by omega, by simp, by simp⟩, hsz, by simp⟩ (by simp only [List.length_nil]; omega) (by omega) (by omega)
    rw [show ((v.toNat : Nat) : Int) = v by omega] at E
    refine ⟨a, e', p', r', Ev.step (fun k => by simp only [spec_l1Cur_ledger.l0]; rfl) ?_, F, by omega, L, by omega, by omega⟩
    simp only [if_neg (show ¬ (a.length : Int) < n by omega)]
    refine Ev.bind e1 ?_
    refine Ev.bind e2 ?_
    exact E
  | m + 1, a, hi, hsz => by
    obtain ⟨a', e', p', r', E, F, LA, L, U, V⟩ := ledger_l0 s hs x3 h3 hz x4 h4 n p r hn hp hb m (a ++ [⟨rdOf ByteArray.empty x3 (a.length : Int), rd x4 (a.length : Int)⟩]) (by simp only [List.length_append, List.length_cons, List.length_nil]; omega) (fun y hy => by
      rcases List.mem_append.1 hy with hy | hy
      · exact hsz y hy
      · rw [List.mem_singleton.1 hy]
        have := hz _ (rdOf_mem' (l := x3) (show (0 : Int) ≤ (a.length : Int) by omega) (by omega))
        show (rdOf ByteArray.empty x3 (a.length : Int)).size ≤ _
        omega)
    refine ⟨a', e', p', r', Ev.step (fun k => by simp only [spec_l1Cur_ledger.l0]; rfl) ?_, F, LA, L, U, V⟩
    simp only [if_pos (show (a.length : Int) < n by omega), if_pos (show (0 : Int) ≤ (a.length : Int) by omega), if_pos (show (a.length : Int) < (x3.length : Int) by omega), if_pos (show (a.length : Int) < (x4.length : Int) by omega), if_pos (show a.length < 5864062014805 by omega)]
    exact E
theorem ledger_ev (s : List Int) (hs : Bytes s) (p r : Int) (hp : 0 ≤ p) (hb : p ≤ 100000000000) : ∃ a e p' r', Ev (fun k => spec_l1Cur_ledger.f k s p r) (a, e, p', r') ∧ FitsT a e ∧ a.length ≤ 6 ∧ e.length ≤ 40 ∧ p ≤ p' ∧ p' ≤ p + 6000 := by
  unfold spec_l1Cur_ledger.f
  obtain ⟨v, p1, r1, e1, a1, a2, u1, v1⟩ := pick_ev s hs p r 5 hp (by omega)
  have hw : wrap64 (2 + v) = 2 + v := wrap_in (by omega) (by omega)
  obtain ⟨a, e, p', r', E, F, LA, L, U, V⟩ := ledger_l0 s hs [(⟨#[99, 97, 115, 104]⟩ : ByteArray), (⟨#[108, 111, 97, 110]⟩ : ByteArray), (⟨#[99, 97, 112, 105, 116, 97, 108]⟩ : ByteArray), (⟨#[115, 97, 108, 101, 115]⟩ : ByteArray), (⟨#[114, 101, 110, 116]⟩ : ByteArray), (⟨#[115, 116, 111, 99, 107]⟩ : ByteArray)] rfl (by intro y hy; simp only [List.mem_cons, List.not_mem_nil, or_false] at hy; rcases hy with rfl | rfl | rfl | rfl | rfl | rfl <;> decide) [1, 2, 3, 4, 5, 1] rfl (2 + v) p1 r1 (by omega) (by omega) (by omega) (2 + v).toNat [] (by simp only [List.length_nil]; omega) (by simp)
  refine ⟨a, e, p', r', Ev.bind e1 ?_, F, LA, L, by omega, by omega⟩
  simp only [hw]
  exact E
theorem any_l0 (s : List Int) (hs : Bytes s) (a : List S48) : ∀ (m : Nat) (p r : Int) (e : List S63), FitsT a e → e.length ≤ 41 → e.length + m = 42 → 0 ≤ p → p + 2 * m + 2 ≤ 2305843009213693952 → ∃ e' p' r', Ev (fun k => spec_l1Cur_anyLedger.l0 k s p r a e) (a, e', p', r') ∧ FitsT a e' ∧ e'.length ≤ 41 ∧ p ≤ p' ∧ p' ≤ p + 2 * m + 2
  | 0, p, r, e, hf, he, hm, hp, hb => by omega
  | m + 1, p, r, e, hf, he, hm, hp, hb => by
    obtain ⟨v, p1, r1, e1, a1, a2, u1, v1⟩ := pick_ev s hs p r 2 hp (by omega)
    have hw : wrap64 (40 + v) = 40 + v := wrap_in (by omega) (by omega)
    by_cases c : (e.length : Int) < 40 + v
    · obtain ⟨e', p', r', E, F, L, U, V⟩ := any_l0 s hs a m p1 r1 (e ++ [⟨36524, ⟨#[]⟩, [⟨0, 1⟩, ⟨1, -1⟩]⟩]) (fitsT_snoc hf (by omega) ⟨by show (⟨#[]⟩ : ByteArray).size ≤ _; decide, by show (2 : Nat) ≤ _; omega⟩) (by simp only [List.length_append, List.length_cons, List.length_nil]; omega) (by simp only [List.length_append, List.length_cons, List.length_nil]; omega) (by omega) (by omega)
      refine ⟨e', p', r', Ev.step (fun k => by simp only [spec_l1Cur_anyLedger.l0]; rfl) ?_, F, L, by omega, by omega⟩
      refine Ev.bind e1 ?_
      simp only [hw, if_pos c, if_pos (show e.length < 2932031007402 by omega)]
      exact E
    · refine ⟨e, p1, r1, Ev.step (fun k => by simp only [spec_l1Cur_anyLedger.l0]; rfl) ?_, hf, by omega, by omega, by omega⟩
      refine Ev.bind e1 ?_
      simp only [hw, if_neg c]
      exact Ev.now _
theorem fitsT_acct {a : List S48} {e : List S63} {x : S48} (h : FitsT a e) (ha : a.length ≤ 12) (hx : x.f0.size ≤ 9223372036854775807) : FitsT (a ++ [x]) e := by
  obtain ⟨⟨f1, f2, f3⟩, g1, g2⟩ := h
  refine ⟨⟨by simp only [List.length_append, List.length_cons, List.length_nil]; omega, f2, f3⟩, fun y hy => ?_, g2⟩
  rcases List.mem_append.1 hy with hy | hy
  · exact g1 y hy
  · rw [List.mem_singleton.1 hy]; exact hx
theorem anyLedger_ev (s : List Int) (hs : Bytes s) (p r : Int) (hp : 0 ≤ p) (hb : p ≤ 10000000000) : ∃ a e p' r', Ev (fun k => spec_l1Cur_anyLedger.f k s p r) (a, e, p', r') ∧ FitsT a e ∧ e.length ≤ 41 ∧ p ≤ p' ∧ p' ≤ p + 7000 := by
  unfold spec_l1Cur_anyLedger.f
  obtain ⟨a, e, p1, r1, e1, F, LA, L, u1, v1⟩ := ledger_ev s hs p r hp (by omega)
  obtain ⟨v, p2, r2, e2, a1, a2, u2, v2⟩ := pick_ev s hs p1 r1 30 (by omega) (by omega)
  by_cases c0 : v = 0
  · obtain ⟨t, p3, r3, e3, m3, u3, v3⟩ := of_ev s hs p2 r2 [(⟨#[99, 97, 115, 104]⟩ : ByteArray), (⟨#[]⟩ : ByteArray), (⟨#[67, 97, 115, 104]⟩ : ByteArray), (⟨#[118, 101, 114, 121, 108, 111, 110, 103, 120]⟩ : ByteArray)] (by decide) (by omega) (by omega)
    have ht : t.size ≤ 100 := by
      simp only [List.mem_cons, List.not_mem_nil, or_false] at m3
      rcases m3 with rfl | rfl | rfl | rfl <;> decide
    refine ⟨a ++ [⟨t, 1⟩], e, p3, r3, Ev.bind e1 (Ev.bind e2 ?_), fitsT_acct F (by omega) (by show t.size ≤ _; omega), by omega, by omega, by omega⟩
    simp only [if_pos c0]
    refine Ev.bind e3 ?_
    simp only [if_pos (show a.length < 5864062014805 by omega)]
    exact Ev.now _
  · by_cases c1 : v = 1
    · obtain ⟨t, p3, r3, e3, _, u3, v3⟩ := among_ev s hs p2 r2 [0, 6] (by decide) (by omega) (by omega)
      refine ⟨a ++ [⟨⟨#[111, 116, 104, 101, 114]⟩, t⟩], e, p3, r3, Ev.bind e1 (Ev.bind e2 ?_), fitsT_acct F (by omega) (by show (⟨#[111, 116, 104, 101, 114]⟩ : ByteArray).size ≤ _; decide), by omega, by omega, by omega⟩
      simp only [if_neg c0, if_pos c1]
      refine Ev.bind e3 ?_
      simp only [if_pos (show a.length < 5864062014805 by omega)]
      exact Ev.now _
    · by_cases c2 : v = 2
      · obtain ⟨d, p3, r3, e3, u3, v3⟩ := day_ev s hs p2 r2 (by omega) (by omega)
        obtain ⟨t, p4, r4, e4, _, u4, v4⟩ := among_ev s hs p3 r3 [(-5), 5, (-6)] (by decide) (by omega) (by omega)
        refine ⟨a, e ++ [⟨d, ⟨#[]⟩, [⟨0, 5⟩, ⟨1, t⟩]⟩], p4, r4, Ev.bind e1 (Ev.bind e2 ?_), fitsT_snoc F (by omega) ⟨by show (⟨#[]⟩ : ByteArray).size ≤ _; decide, by show (2 : Nat) ≤ _; omega⟩, by simp only [List.length_append, List.length_cons, List.length_nil]; omega, by omega, by omega⟩
        simp only [if_neg c0, if_neg c1, if_pos c2]
        refine Ev.bind e3 ?_
        refine Ev.bind e4 ?_
        simp only [if_pos (show e.length < 2932031007402 by omega)]
        exact Ev.now _
      · by_cases c3 : v = 3
        · obtain ⟨e', p', r', E, F', L', U, V⟩ := any_l0 s hs a (42 - e.length) p2 r2 e F (by omega) (by omega) (by omega) (by omega)
          refine ⟨a, e', p', r', Ev.bind e1 (Ev.bind e2 ?_), F', L', by omega, by omega⟩
          simp only [if_neg c0, if_neg c1, if_neg c2, if_pos c3]
          exact E
        · refine ⟨a, e, p2, r2, Ev.bind e1 (Ev.bind e2 ?_), F, by omega, by omega, by omega⟩
          simp only [if_neg c0, if_neg c1, if_neg c2, if_neg c3]
          exact Ev.now _
theorem anyDay_ev (s : List Int) (hs : Bytes s) (p r : Int) (hp : 0 ≤ p) (hb : p ≤ 100000000000) : ∃ v p' r', Ev (fun k => spec_l1Cur_anyDay.f k s p r) (v, p', r') ∧ p ≤ p' ∧ p' ≤ p + 10 := by
  unfold spec_l1Cur_anyDay.f
  obtain ⟨v, p1, r1, e1, u1, v1⟩ := one_ev s hs p r 16 hp (by omega)
  cases v with
  | true =>
    obtain ⟨t, p2, r2, e2, _, u2, v2⟩ := among_ev s hs p1 r1 [(-1), 36524, 36525, 1099511627776] (by decide) (by omega) (by omega)
    refine ⟨t, p2, r2, Ev.bind e1 ?_, by omega, by omega⟩
    simp only [if_true]
    exact Ev.bind e2 (Ev.now _)
  | false =>
    obtain ⟨t, p2, r2, e2, u2, v2⟩ := day_ev s hs p1 r1 (by omega) (by omega)
    refine ⟨t, p2, r2, Ev.bind e1 ?_, by omega, by omega⟩
    simp only [Bool.false_eq_true, if_false]
    exact Ev.bind e2 (Ev.now _)
theorem last26_ev (s : List Int) (hs : Bytes s) (p r : Int) (hp : 0 ≤ p) (hb : p ≤ 100000000) (a : List S48) (e : List S63) : ∃ v p' r', Ev (fun k => spec_l1Cur_last26.f k s p r a e) (v, p', r') ∧ p ≤ p' ∧ p' ≤ p + 20 := by
  have j (c : Bool) (hc : c = false → ¬ (e.length : Int) = 0) (p r : Int) (hp : 0 ≤ p) (hb : p ≤ 100000010) : ∃ v p' r', Ev (fun k => spec_l1Cur_last26.j0 k c s p r a e) (v, p', r') ∧ p ≤ p' ∧ p' ≤ p + 10 := by
    cases c with
    | true =>
      obtain ⟨v, p1, r1, e1, u1, v1⟩ := anyDay_ev s hs p r hp (by omega)
      refine ⟨v, p1, r1, Ev.step (fun k => by simp only [spec_l1Cur_last26.j0]; rfl) ?_, u1, v1⟩
      simp only [if_true]
      exact Ev.bind e1 (Ev.now _)
    | false =>
      have hne := hc rfl
      obtain ⟨v, p1, r1, e1, a1, a2, u1, v1⟩ := pick_ev s hs p r (e.length : Int) hp (by omega)
      obtain ⟨w, p2, r2, e2, b1, b2, u2, v2⟩ := pick_ev s hs p1 r1 3 (by omega) (by omega)
      refine ⟨wrap64 (wrap64 ((rd_T63 e v).f0 + w) - 1), p2, r2, Ev.step (fun k => by simp only [spec_l1Cur_last26.j0]; rfl) ?_, by omega, by omega⟩
      simp only [Bool.false_eq_true, if_false]
      refine Ev.bind e1 ?_
      simp only [if_pos a1, if_pos (show v < (e.length : Int) by omega)]
      exact Ev.bind e2 (Ev.now _)
  unfold spec_l1Cur_last26.f
  by_cases c : (e.length : Int) = 0
  · obtain ⟨v, p1, r1, e1, u1, v1⟩ := j true (by simp) p r hp (by omega)
    refine ⟨v, p1, r1, ?_, u1, by omega⟩
    simp only [if_pos c]
    exact e1
  · obtain ⟨v, p1, r1, e1, u1, v1⟩ := one_ev s hs p r 8 hp (by omega)
    obtain ⟨w, p2, r2, e2, u2, v2⟩ := j v (fun _ => c) p1 r1 (by omega) (by omega)
    refine ⟨w, p2, r2, ?_, by omega, by omega⟩
    simp only [if_neg c]
    exact Ev.bind e1 e2
theorem drawReverse_ev (s : List Int) (hs : Bytes s) : ∃ a e n d, Ev (fun k => spec_DrawReverseEntry.f k s) (a, e, n, d) ∧ FitsT a e := by
  unfold spec_DrawReverseEntry.f
  obtain ⟨a, e, p1, r1, e1, F, L, u1, v1⟩ := anyLedger_ev s hs 0 0 (by omega) (by omega)
  obtain ⟨d, p2, r2, e2, u2, v2⟩ := last26_ev s hs p1 r1 (by omega) (by omega) a e
  have j1 (d p r : Int) (hp : 0 ≤ p) (hb : p ≤ 1000000) : ∃ n, Ev (fun k => spec_DrawReverseEntry.j1 k (e.length : Int) d s p r a e) (a, e, n, d) := by
    obtain ⟨v, p3, r3, e3, _, _, u3, v3⟩ := pick_ev s hs p r (wrap64 ((e.length : Int) + 1)) hp (by omega)
    obtain ⟨w, p4, r4, e4, _, _, u4, v4⟩ := pick_ev s hs p3 r3 20 (by omega) (by omega)
    refine ⟨wrap64 (v - wrap64 (Int.tdiv w 19)), Ev.step (fun k => by simp only [spec_DrawReverseEntry.j1]; rfl) ?_⟩
    refine Ev.bind e3 ?_
    refine Ev.bind e4 ?_
    exact Ev.now _
  have j0 (c : Bool) (hc : c = true → (e.length : Int) > 0) (d p r : Int) (hp : 0 ≤ p) (hb : p ≤ 100000) : ∃ n d', Ev (fun k => spec_DrawReverseEntry.j0 k (e.length : Int) d c s p r a e) (a, e, n, d') := by
    cases c with
    | true =>
      have hpos := hc rfl
      have hw : wrap64 ((e.length : Int) - 1) = (e.length : Int) - 1 := wrap_in (by omega) (by omega)
      obtain ⟨v, p3, r3, e3, _, _, u3, v3⟩ := pick_ev s hs p r 2 hp (by omega)
      obtain ⟨n, E⟩ := j1 (wrap64 ((rd_T63 e ((e.length : Int) - 1)).f0 + v)) p3 r3 (by omega) (by omega)
      refine ⟨n, wrap64 ((rd_T63 e ((e.length : Int) - 1)).f0 + v), Ev.step (fun k => by simp only [spec_DrawReverseEntry.j0]; rfl) ?_⟩
      simp only [if_true, hw, if_pos (show (0 : Int) ≤ (e.length : Int) - 1 by omega), if_pos (show (e.length : Int) - 1 < (e.length : Int) by omega)]
      exact Ev.bind e3 E
    | false =>
      obtain ⟨n, E⟩ := j1 d p r hp (by omega)
      refine ⟨n, d, Ev.step (fun k => by simp only [spec_DrawReverseEntry.j0]; rfl) ?_⟩
      simp only [Bool.false_eq_true, if_false]
      exact E
  by_cases c : (e.length : Int) > 0
  · obtain ⟨v, p3, r3, e3, u3, v3⟩ := one_ev s hs p2 r2 4 (by omega) (by omega)
    obtain ⟨n, d', E⟩ := j0 (!v) (fun _ => c) d p3 r3 (by omega) (by omega)
    refine ⟨a, e, n, d', Ev.bind e1 (Ev.bind e2 ?_), F⟩
    simp only [if_pos c]
    exact Ev.bind e3 E
  · obtain ⟨n, d', E⟩ := j0 false (by simp) d p2 r2 (by omega) (by omega)
    refine ⟨a, e, n, d', Ev.bind e1 (Ev.bind e2 ?_), F⟩
    simp only [if_neg c]
    exact E
theorem balT_snoc (n d : Int) (x : S63) (hx : x.f0 ≤ d) : ∀ (r : List S63) (p : Option S63) (b : List Int), entR n p b (r ++ [x]) = true → ∃ b', applyL (balT d b r) x.f2 = some b' ∧ balT d b (r ++ [x]) = b'
  | [], p, b, h => by
    simp only [List.nil_append, entR, Bool.and_eq_true] at h
    cases q : applyL b x.f2 with
    | none => rw [q] at h; simp at h
    | some b' => exact ⟨b', by simpa only [balT] using q, by simp only [List.nil_append, balT, if_pos hx, q]⟩
  | y :: r, p, b, h => by
    simp only [List.cons_append, entR, Bool.and_eq_true] at h
    obtain ⟨_, h3⟩ := h
    cases q : applyL b y.f2 with
    | none => rw [q] at h3; simp at h3
    | some b' =>
      rw [q] at h3
      have hy := entR_ge n (r ++ [x]) y b' h3 x (by simp)
      obtain ⟨b2, g1, g2⟩ := balT_snoc n d x hx r (some y) b' h3
      refine ⟨b2, ?_, ?_⟩
      · simp only [balT, if_pos (show y.f0 ≤ d by omega), q]; exact g1
      · simp only [List.cons_append, balT, if_pos (show y.f0 ≤ d by omega), q]; exact g2

theorem bal_impl (a : List S48) (e : List S63) (h : FitsT a e) (hok : ledgerOk a e = true) (d : Int) : Ev (fun k => impl_balancesAt.f k a e d) (balT d (List.replicate a.length 0) e) ∧ (balT d (List.replicate a.length 0) e).length = a.length ∧ Amts (balT d (List.replicate a.length 0) e) := by
  obtain ⟨⟨f1, f2, f3⟩, f4, f5⟩ := h
  unfold ledgerOk at hok
  simp only [Bool.and_eq_true, decide_eq_true_eq] at hok
  obtain ⟨⟨⟨o1, o2⟩, o3⟩, o4⟩ := hok
  have key := list_ind0 e (fun i rest => ∀ b : List Int, b.length = a.length → Amts b → entR (a.length : Int) (prevOf e i) b rest = true → Ev (fun k => impl_balancesAt.l0 k d b e (e.length : Int) i) (balT d b rest) ∧ (balT d b rest).length = a.length ∧ Amts (balT d b rest)) ?_ ?_
  · have K := key (List.replicate a.length 0) (by simp) (fun y hy => by rw [List.eq_of_mem_replicate hy]; omega) o4
    refine ⟨?_, K.2⟩
    unfold impl_balancesAt.f
    simp only [if_pos (show (0 : Int) ≤ (a.length : Int) by omega), Int.toNat_natCast, if_pos (show a.length ≤ 35184372088832 by omega)]
    exact K.1
  · intro b hb ha _
    refine ⟨?_, hb, ha⟩
    refine Ev.step (fun k => by simp only [impl_balancesAt.l0]; rfl) ?_
    simp only [Int.lt_irrefl, if_false, balT]; exact Ev.now _
  · intro i x rest hi hd ih b hb ha hent
    have hmem := mem_drop hd
    simp only [entR, Bool.and_eq_true] at hent
    obtain ⟨⟨e1, e2⟩, e3⟩ := hent
    unfold entryOk postOk at e2
    simp only [Bool.and_eq_true] at e2
    have hall := postR_all _ _ _ _ e2.2.2
    cases hb' : applyL b x.f2 with
    | none => rw [hb'] at e3; simp at e3
    | some b' =>
      rw [hb'] at e3
      have L := applyL_len x.f2 b b' ha hb'
      by_cases hx : x.f0 ≤ d
      · obtain ⟨I2, I3⟩ := ih b' (by omega) L.2 (by rw [prevOf_succ hd]; exact e3)
        simp only [balT, if_pos hx, hb']
        refine ⟨?_, I3⟩
        refine Ev.step (fun k => by simp only [impl_balancesAt.l0]; rfl) ?_
        simp only [if_pos (show (i : Int) < (e.length : Int) by omega), if_pos (show (0 : Int) ≤ i by omega), rdE hd, if_neg (show ¬ x.f0 > d by omega)]
        exact implBal_l1 a.length e f2 d i hi x.f2 (f3 x hmem) hall b' _ I2 b hb ha hb'
      · simp only [balT, if_neg hx]
        refine ⟨?_, hb, ha⟩
        refine Ev.step (fun k => by simp only [impl_balancesAt.l0]; rfl) ?_
        simp only [if_pos (show (i : Int) < (e.length : Int) by omega), if_pos (show (0 : Int) ≤ i by omega), rdE hd, if_pos (show x.f0 > d by omega)]
        exact Ev.now _
theorem implTrialI_ev (a : List S48) (e : List S63) (h : FitsT a e) (d : Int) : Ev (fun k => impl_TrialBalance.f k a e d) (trialOf a e d) := by
  have f1 := h.1.1
  have j (c : Bool) (hc : c = !(ledgerOk a e && dayOk d)) : Ev (fun k => impl_TrialBalance.j0 k d c a e) (trialOf a e d) := by
    subst hc
    unfold trialOf
    refine Ev.step (fun k => by simp only [impl_TrialBalance.j0]; rfl) ?_
    cases q : (ledgerOk a e && dayOk d) with
    | false => simp only [Bool.not_false, if_true, Bool.false_eq_true, if_false]; exact Ev.now _
    | true =>
      simp only [Bool.and_eq_true] at q
      obtain ⟨B2, B3, B4⟩ := bal_impl a e h q.1 d
      simp only [Bool.not_true, if_true, Bool.false_eq_true, if_false]
      refine Ev.bind B2 ?_
      exact implTrial_l0 _ (by omega) B4
  unfold impl_TrialBalance.f
  refine Ev.bind (implLedger_ev a e h) ?_
  cases h1 : ledgerOk a e with
  | false => simp only [Bool.false_eq_true, if_false]; exact j true (by simp [h1])
  | true =>
    simp only [if_true, isDay_eq, Option.bind_some]
    exact j _ (by rw [h1]; simp)
theorem implBalOfI_ev (a : List S48) (e : List S63) (h : FitsT a e) (n d : Int) : Ev (fun k => impl_BalanceOf.f k a e n d) (balanceOf a e n d) := by
  unfold impl_BalanceOf.f balanceOf
  refine Ev.bind (isAccount_ev a e h n [d] (by simp)) ?_
  have e1 : ([d] : List Int).all dayOk = dayOk d := by simp
  rw [e1]
  cases q : (ledgerOk a e && bIn n 0 ((a.length : Int) - 1) && dayOk d) with
  | false => simp only [Bool.false_eq_true, if_false]; exact Ev.now _
  | true =>
    simp only [Bool.and_eq_true, bIn_iff] at q
    obtain ⟨B2, B3, B4⟩ := bal_impl a e h q.1.1 d
    simp only [if_true]
    refine Ev.bind B2 ?_
    simp only [if_pos q.1.2.1, if_pos (show n < ((balT d (List.replicate a.length 0) e).length : Int) by omega)]
    exact Ev.now _
def sm : List Int → Int
  | [] => 0
  | x :: r => x + sm r
theorem sm_bd : ∀ (l : List Int), Amts l → -(1000000000 * (l.length : Int)) ≤ sm l ∧ sm l ≤ 1000000000 * (l.length : Int)
  | [], _ => by simp [sm]
  | x :: r, h => by
    have h1 := h x (by simp)
    have h2 := sm_bd r (fun y hy => h y (by simp [hy]))
    simp only [sm, List.length_cons]
    omega
theorem sm_rep : ∀ n : Nat, sm (List.replicate n 0) = 0
  | 0 => rfl
  | n + 1 => by rw [List.replicate_succ, sm, sm_rep n]; rfl
theorem sm_set : ∀ (l : List Int) (i : Nat) (v : Int), i < l.length → sm (l.set i v) = sm l - l.getD i 0 + v
  | [], i, v, h => by simp at h
  | x :: r, 0, v, _ => by simp only [List.set_cons_zero, sm, List.getD_cons_zero]; omega
  | x :: r, i + 1, v, h => by
    simp only [List.length_cons] at h
    simp only [List.set_cons_succ, sm, List.getD_cons_succ, sm_set r i v (by omega)]
    omega
theorem rSum_ev (l : List Int) (hl : l.length ≤ 1000) (ha : Amts l) : Ev (fun k => laws_rSum.f k l) (sm l) := by
  unfold laws_rSum.f
  have key := list_ind0 l (fun i rest => ∀ s : Int, -(1000000000 * (i : Int)) ≤ s ∧ s ≤ 1000000000 * (i : Int) → Ev (fun k => laws_rSum.l0 k l s i) (s + sm rest)) ?_ ?_
  · have := key 0 (by omega)
    rwa [Int.zero_add] at this
  · intro s hs
    refine Ev.step (fun k => by simp only [laws_rSum.l0]; rfl) ?_
    simp only [Int.lt_irrefl, if_false, sm, Int.add_zero]
    exact Ev.now _
  · intro i x rest hi hd ih s hs
    have hx := ha x (mem_drop hd)
    have hr : rd l (i : Int) = x := by rw [rd, Int.toNat_natCast]; exact (getD_at hd).2.1
    refine Ev.step (fun k => by simp only [laws_rSum.l0]; rfl) ?_
    simp only [if_pos (show (i : Int) < (l.length : Int) by omega), if_pos (show (0 : Int) ≤ i by omega), hr, wrap_in (show -9223372036854775808 ≤ (i : Int) + 1 by omega) (by omega), wrap_in (show -9223372036854775808 ≤ s + x by omega) (by omega)]
    have := ih (s + x) (by omega)
    simp only [sm]
    rw [show s + (x + sm rest) = s + x + sm rest by omega]
    exact this
theorem apply_sm (n : Nat) : ∀ (l : List S70) (p : Option S70) (s : Int) (b b' : List Int), b.length = n → postR (n : Int) p l s = true → applyL b l = some b' → sm b' = sm b - s
  | [], p, s, b, b', hb, h, ha => by
    simp only [applyL, Option.some.injEq] at ha
    simp only [postR, beq_iff_eq] at h
    subst ha; omega
  | x :: r, p, s, b, b', hb, h, ha => by
    simp only [postR, Bool.and_eq_true] at h
    obtain ⟨⟨⟨⟨h1, h2⟩, h3⟩, h4⟩, h5⟩ := h
    have h1' := (bIn_iff _ _ _).1 h1
    simp only [applyL] at ha
    by_cases am : amt (rd b x.f0 + x.f1) = true
    · rw [if_pos am] at ha
      have ih := apply_sm n r _ _ _ b' (by rw [List.length_set]; exact hb) h5 ha
      rw [sm_set _ _ _ (by omega)] at ih
      unfold rd at ih
      omega
    · rw [if_neg am] at ha; cases ha
theorem bal_sm (n : Nat) (d : Int) : ∀ (r : List S63) (p : Option S63) (b : List Int), b.length = n → Amts b → entR (n : Int) p b r = true → sm (balT d b r) = sm b
  | [], p, b, _, _, _ => rfl
  | x :: r, p, b, hb, ha, h => by
    simp only [entR, Bool.and_eq_true] at h
    obtain ⟨⟨h1, h2⟩, h3⟩ := h
    unfold entryOk postOk at h2
    simp only [Bool.and_eq_true] at h2
    cases q : applyL b x.f2 with
    | none => rw [q] at h3; simp at h3
    | some b' =>
      rw [q] at h3
      have L := applyL_len x.f2 b b' ha q
      by_cases hx : x.f0 ≤ d
      · simp only [balT, if_pos hx, q]
        rw [bal_sm n d r _ b' (by omega) L.2 h3, apply_sm n x.f2 none 0 b b' hb h2.2.2 q]
        omega
      · simp only [balT, if_neg hx]
theorem rd_set_ne {b : List Int} {i j v : Int} (hi : 0 ≤ i) (hj : 0 ≤ j) (h : i ≠ j) : rd (b.set i.toNat v) j = rd b j := by
  unfold rd
  rw [List.getD_eq_getElem?_getD, List.getD_eq_getElem?_getD, List.getElem?_set_ne (by omega)]
theorem rd_set_eq {b : List Int} {i v : Int} (hi : 0 ≤ i) (h : i < (b.length : Int)) : rd (b.set i.toNat v) i = v := by
  unfold rd
  rw [List.getD_eq_getElem?_getD, List.getElem?_set_self (by omega)]
  rfl
theorem apply_ne (c : Int) (hc : 0 ≤ c) : ∀ (l : List S70) (b b' : List Int), (∀ y ∈ l, 0 ≤ y.f0 ∧ y.f0 ≠ c) → applyL b l = some b' → rd b' c = rd b c
  | [], b, b', _, h => by simp only [applyL, Option.some.injEq] at h; rw [h]
  | x :: r, b, b', hy, h => by
    have hx := hy x (by simp)
    simp only [applyL] at h
    by_cases am : amt (rd b x.f0 + x.f1) = true
    · rw [if_pos am] at h
      rw [apply_ne c hc r _ b' (fun y z => hy y (by simp [z])) h, rd_set_ne hx.1 hc hx.2]
    · rw [if_neg am] at h; cases h
theorem postR_gt (n : Int) : ∀ (l : List S70) (q : S70) (s : Int), postR n (some q) l s = true → ∀ y ∈ l, q.f0 < y.f0
  | [], _, _, _ => by simp
  | x :: r, q, s, h => by
    simp only [postR, Bool.and_eq_true, decide_eq_true_eq] at h
    obtain ⟨⟨_, h4⟩, h5⟩ := h
    intro y hy
    rcases List.mem_cons.1 hy with rfl | hy
    · exact h4
    · have := postR_gt n r x _ h5 y hy; omega
theorem apply_neg (n : Nat) : ∀ (l : List S70) (p : Option S70) (s : Int) (b b' : List Int), b.length = n → postR (n : Int) p l s = true → applyL b (l.map negP) = some b' → ∀ y ∈ l, rd b' y.f0 + y.f1 = rd b y.f0
  | [], _, _, _, _, _, _, _ => by simp
  | x :: r, p, s, b, b', hb, h, ha => by
    have hall := postR_all _ _ _ _ h
    simp only [postR, Bool.and_eq_true] at h
    obtain ⟨⟨⟨⟨h1, h2⟩, h3⟩, h4⟩, h5⟩ := h
    have h1' := (bIn_iff _ _ _).1 h1
    have h2' := (amt_iff _).1 h2
    have hgt := postR_gt _ r x _ h5
    have hneg : wrap64 (-x.f1) = -x.f1 := wrap_in (by omega) (by omega)
    simp only [List.map_cons, applyL, negP, hneg] at ha
    by_cases am : amt (rd b x.f0 + -x.f1) = true
    · rw [if_pos am] at ha
      intro y hy
      rcases List.mem_cons.1 hy with rfl | hy
      · have := apply_ne y.f0 h1'.1 (r.map negP) _ b' (fun z hz => by
          obtain ⟨z', hz', rfl⟩ := List.mem_map.1 hz
          have g := hgt z' hz'
          exact ⟨show 0 ≤ z'.f0 by omega, show z'.f0 ≠ y.f0 by omega⟩) ha
        rw [this, rd_set_eq h1'.1 (by omega)]
        omega
      · have g := hgt y hy
        have := apply_neg n r _ _ _ b' (by rw [List.length_set]; exact hb) h5 ha y hy
        rw [rd_set_ne h1'.1 (by omega) (by omega)] at this
        exact this
    · rw [if_neg am] at ha; cases ha
theorem stP_out (n f t i d : Int) (hd : bIn d f t = false) : ∀ (l : List S70) (u v : List Int) (s : Int), (stP n f t i d l u v s).2.1 = v
  | [], u, v, s => rfl
  | y :: r, u, v, s => by
    by_cases c : y.f0 = n
    · simp only [stP, if_pos c, hd, Bool.false_eq_true, if_false]; exact stP_out n f t i d hd r _ _ _
    · simp only [stP, if_neg c]; exact stP_out n f t i d hd r _ _ _
theorem stP_in (n f t i d : Int) (hd : bIn d f t = true) : ∀ (l : List S70) (u v : List Int) (s : Int), ((stP n f t i d l u v s).2.1 = v ∧ (stP n f t i d l u v s).2.2 = s) ∨ ∃ w, (stP n f t i d l u v s).2.1 = w ++ [(stP n f t i d l u v s).2.2]
  | [], u, v, s => Or.inl ⟨rfl, rfl⟩
  | y :: r, u, v, s => by
    by_cases c : y.f0 = n
    · simp only [stP, if_pos c, if_pos hd]
      rcases stP_in n f t i d hd r (u ++ [i]) (v ++ [s + y.f1]) (s + y.f1) with ⟨a, b⟩ | h
      · exact Or.inr ⟨v, by rw [a, b]⟩
      · exact Or.inr h
    · simp only [stP, if_neg c]; exact stP_in n f t i d hd r _ _ _
theorem stP_sum (n f t i d : Int) (hn : 0 ≤ n) : ∀ (l : List S70) (u v : List Int) (b b' : List Int), n < (b.length : Int) → (∀ y ∈ l, 0 ≤ y.f0) → applyL b l = some b' → (stP n f t i d l u v (rd b n)).2.2 = rd b' n
  | [], u, v, b, b', _, _, h => by simp only [applyL, Option.some.injEq] at h; rw [← h]; rfl
  | y :: r, u, v, b, b', hb, hy, h => by
    have h0 := hy y (by simp)
    have hr : ∀ z ∈ r, 0 ≤ z.f0 := fun z hz => hy z (by simp [hz])
    simp only [applyL] at h
    by_cases am : amt (rd b y.f0 + y.f1) = true
    · rw [if_pos am] at h
      have ih (u v : List Int) := stP_sum n f t i d hn r u v _ b' (by rw [List.length_set]; exact hb) hr h
      by_cases c : y.f0 = n
      · subst c
        rw [rd_set_eq hn hb] at ih
        by_cases c2 : bIn d f t = true
        · simp only [stP, if_true, if_pos c2]; exact ih _ _
        · simp only [stP, if_true, if_neg c2]; exact ih _ _
      · rw [rd_set_ne h0 hn c] at ih
        simp only [stP, if_neg c]; exact ih _ _
    · rw [if_neg am] at h; cases h
theorem stP_lens (n f t i d : Int) : ∀ (l : List S70) (u v : List Int) (s : Int), u.length = v.length → (stP n f t i d l u v s).1.length = (stP n f t i d l u v s).2.1.length
  | [], u, v, s, h => h
  | y :: r, u, v, s, h => by
    by_cases c : y.f0 = n
    · by_cases c2 : bIn d f t = true
      · simp only [stP, if_pos c, if_pos c2]; exact stP_lens n f t i d r _ _ _ (by simp only [List.length_append, List.length_singleton]; omega)
      · simp only [stP, if_pos c, if_neg c2]; exact stP_lens n f t i d r _ _ _ h
    · simp only [stP, if_neg c]; exact stP_lens n f t i d r _ _ _ h
theorem stE_lens (n f t : Int) : ∀ (r : List S63) (i : Int) (u v : List Int) (s : Int), u.length = v.length → (stE n f t i r u v s).1.length = (stE n f t i r u v s).2.length
  | [], i, u, v, s, h => h
  | x :: r, i, u, v, s, h => by simp only [stE]; exact stE_lens n f t r _ _ _ _ (stP_lens n f t i x.f0 x.f2 u v s h)
theorem stE_late (n f t : Int) : ∀ (r : List S63) (i : Int) (u v : List Int) (s : Int), (∀ y ∈ r, t < y.f0) → (stE n f t i r u v s).2 = v
  | [], i, u, v, s, _ => rfl
  | x :: r, i, u, v, s, h => by
    have hx := h x (by simp)
    have hb : bIn x.f0 f t = false := by
      cases q : bIn x.f0 f t with
      | false => rfl
      | true => have := (bIn_iff _ _ _).1 q; omega
    simp only [stE]
    rw [stE_late n f t r _ _ _ _ (fun y hy => h y (by simp [hy])), stP_out n f t i x.f0 hb]
theorem stE_last (n f t : Int) (hn : 0 ≤ n) (N : Nat) (hN : n < (N : Int)) : ∀ (r : List S63) (p : Option S63) (b : List Int) (i : Int) (u v : List Int), b.length = N → Amts b → entR (N : Int) p b r = true → ((∃ w, v = w ++ [rd b n]) ∧ (∃ q, p = some q ∧ f ≤ q.f0) ∨ v = []) → (∃ w, (stE n f t i r u v (rd b n)).2 = w ++ [rd (balT t b r) n]) ∨ (stE n f t i r u v (rd b n)).2 = []
  | [], p, b, i, u, v, hb, ha, h, hv => by
    simp only [stE, balT]
    rcases hv with ⟨h1, _⟩ | h1
    · exact Or.inl h1
    · exact Or.inr h1
  | x :: r, p, b, i, u, v, hb, ha, h, hv => by
    have h0 := h
    simp only [entR, Bool.and_eq_true] at h
    obtain ⟨⟨h1, h2⟩, h3⟩ := h
    unfold entryOk postOk at h2
    simp only [Bool.and_eq_true] at h2
    have hall := postR_all _ _ _ _ h2.2.2
    cases q : applyL b x.f2 with
    | none => rw [q] at h3; simp at h3
    | some b' =>
      rw [q] at h3
      have L := applyL_len x.f2 b b' ha q
      by_cases hx : x.f0 ≤ t
      · have S := stP_sum n f t i x.f0 hn x.f2 u v b b' (by omega) (fun y hy => (hall y hy).1.1) q
        simp only [stE, balT, if_pos hx, q]
        rw [S]
        refine stE_last n f t hn N hN r (some x) b' (i + 1) _ _ (by omega) L.2 h3 ?_
        by_cases hf : f ≤ x.f0
        · have hin : bIn x.f0 f t = true := (bIn_iff _ _ _).2 ⟨hf, hx⟩
          rcases stP_in n f t i x.f0 hin x.f2 u v (rd b n) with ⟨e1, e2⟩ | ⟨w, e⟩
          · rw [e1]
            rw [S] at e2
            rcases hv with ⟨⟨w, hw⟩, _⟩ | hv
            · exact Or.inl ⟨⟨w, by rw [hw, e2]⟩, x, rfl, hf⟩
            · exact Or.inr hv
          · rw [S] at e
            exact Or.inl ⟨⟨w, e⟩, x, rfl, hf⟩
        · have hout : bIn x.f0 f t = false := by
            cases z : bIn x.f0 f t with
            | false => rfl
            | true => have := (bIn_iff _ _ _).1 z; omega
          rw [stP_out n f t i x.f0 hout]
          rcases hv with ⟨_, ⟨y, hy, hyf⟩⟩ | hv
          · subst hy
            simp only [decide_eq_true_eq] at h1
            omega
          · exact Or.inr hv
      · have hl : ∀ y ∈ x :: r, t < y.f0 := by
          intro y hy
          rcases List.mem_cons.1 hy with rfl | hy
          · omega
          · have := entR_ge _ r x b' h3 y hy; omega
        rw [stE_late n f t (x :: r) i u v _ hl]
        simp only [balT, if_neg hx]
        rcases hv with ⟨h1, _⟩ | h1
        · exact Or.inl h1
        · exact Or.inr h1
theorem vInts_same (l : List Int) (hl : l.length ≤ 1048576) : Ev (fun k => laws_vInts.f k l l) true := by
  unfold laws_vInts.f
  simp only [if_true]
  refine list_ind0 l (fun i _ => Ev (fun k => laws_vInts.l0 k l l i) true) ?_ ?_
  · refine Ev.step (fun k => by simp only [laws_vInts.l0]; rfl) ?_
    simp only [Int.lt_irrefl, if_false]
    exact Ev.now _
  · intro i x rest hi hd ih
    refine Ev.step (fun k => by simp only [laws_vInts.l0]; rfl) ?_
    simp only [if_pos (show (i : Int) < (l.length : Int) by omega), if_pos (show (0 : Int) ≤ i by omega), if_true, wrap_in (show -9223372036854775808 ≤ (i : Int) + 1 by omega) (by omega)]
    exact ih
theorem drawBalance_ev (s : List Int) (hs : Bytes s) : ∃ a e n d, Ev (fun k => spec_DrawBalanceOf.f k s) (a, e, n, d) ∧ FitsT a e := by
  unfold spec_DrawBalanceOf.f
  obtain ⟨a, e, p1, r1, e1, F, L, u1, v1⟩ := anyLedger_ev s hs 0 0 (by omega) (by omega)
  obtain ⟨x, p2, r2, e2, _, _, u2, v2⟩ := pick_ev s hs p1 r1 (wrap64 ((a.length : Int) + 1)) (by omega) (by omega)
  obtain ⟨y, p3, r3, e3, _, _, u3, v3⟩ := pick_ev s hs p2 r2 20 (by omega) (by omega)
  obtain ⟨d, p4, r4, e4, u4, v4⟩ := last26_ev s hs p3 r3 (by omega) (by omega) a e
  refine ⟨a, e, wrap64 (x - wrap64 (Int.tdiv y 19)), d, ?_, F⟩
  refine Ev.bind e1 ?_
  refine Ev.bind e2 ?_
  refine Ev.bind e3 ?_
  refine Ev.bind e4 ?_
  exact Ev.now _
theorem drawStatement_ev (s : List Int) (hs : Bytes s) : ∃ a e n f t, Ev (fun k => spec_DrawAccountStatement.f k s) (a, e, n, f, t) ∧ FitsT a e := by
  unfold spec_DrawAccountStatement.f
  obtain ⟨a, e, n, d, e1, F⟩ := drawBalance_ev s hs
  obtain ⟨x, p2, r2, e2, u2, v2⟩ := last26_ev s hs 0 0 (by omega) (by omega) a e
  obtain ⟨y, p3, r3, e3, _, u3, v3⟩ := among_ev s hs p2 r2 [0, 10, 400] (by decide) (by omega) (by omega)
  refine ⟨a, e, n, d, wrap64 (x + y), ?_, F⟩
  refine Ev.bind e1 ?_
  refine Ev.bind e2 ?_
  refine Ev.bind e3 ?_
  exact Ev.now _
theorem law_j3 (s : List Int) (hs : Bytes s) : Ev (fun k => laws_FnLedger.j3 k s) true := by
  obtain ⟨a, e, n, f, t, D, F⟩ := drawStatement_ev s hs
  have P1 := implSt_ev a e F n f t
  have P2 := specSt_ev a e F n f t
  have SL := st_len a e n f t
  refine Ev.step (fun k => by simp only [laws_FnLedger.j3]; rfl) ?_
  refine Ev.bind D ?_
  refine Ev.bind P1 ?_
  refine Ev.bind P2 ?_
  simp only [bne_self_eq_false, Bool.false_eq_true, if_false]
  refine Ev.bind (vInts_same _ (by omega)) ?_
  simp only [if_true]
  refine Ev.bind (vInts_same _ (by omega)) ?_
  simp only [if_true]
  have hlen : (stateOf a e n f t).1.length = (stateOf a e n f t).2.1.length := by
    unfold stateOf
    split
    · exact stE_lens n f t e 0 [] [] 0 rfl
    · rfl
  refine Ev.step (fun k => by simp only [laws_FnLedger.j4]; rfl) ?_
  simp only [hlen, bne_self_eq_false, Bool.false_eq_true, if_false]
  cases q : (ledgerOk a e && bIn n 0 ((a.length : Int) - 1) && dayOk f && dayOk t) with
  | false =>
    have h : stateOf a e n f t = ([], [], false) := by unfold stateOf; rw [q]; rfl
    rw [h]
    simp only [Bool.false_eq_true, if_false]
    exact Ev.now _
  | true =>
    have h : stateOf a e n f t = ((stE n f t 0 e [] [] 0).1, (stE n f t 0 e [] [] 0).2, true) := by unfold stateOf; rw [q]; rfl
    rw [h]
    simp only [Bool.and_eq_true] at q
    obtain ⟨⟨⟨q1, q2⟩, q3⟩, q4⟩ := q
    have hb := (bIn_iff _ _ _).1 q2
    have q1' := q1
    unfold ledgerOk at q1'
    simp only [Bool.and_eq_true, decide_eq_true_eq] at q1'
    have hz : rd (List.replicate a.length 0) n = 0 := by simp [rd, List.getD_eq_getElem?_getD, List.getElem?_replicate]; split <;> rfl
    have K := stE_last n f t hb.1 a.length (by omega) e none (List.replicate a.length 0) 0 [] [] (by simp) (fun y hy => by rw [List.eq_of_mem_replicate hy]; omega) q1'.2 (Or.inr rfl)
    rw [hz] at K
    have B := implBalOfI_ev a e F n t
    unfold balanceOf at B
    rw [q1, q2, q4] at B
    simp only [Bool.and_self, if_true] at B
    simp only [if_true]
    have SL2 := SL.2
    rw [h] at SL2
    simp only at SL2
    rcases K with ⟨w, hw⟩ | hw
    · rw [hw] at SL2 ⊢
      have hwl : ((w ++ [rd (balT t (List.replicate a.length 0) e) n]).length : Int) = (w.length : Int) + 1 := by simp
      simp only [hwl, if_pos (show (w.length : Int) + 1 > 0 by omega)]
      refine Ev.bind B ?_
      have hsz : w.length ≤ 400 := by simp only [List.length_append, List.length_singleton] at SL2; omega
      simp only [if_true, wrap_in (show -9223372036854775808 ≤ (w.length : Int) + 1 - 1 by omega) (by omega), if_pos (show (0 : Int) ≤ (w.length : Int) + 1 - 1 by omega), if_pos (show (w.length : Int) + 1 - 1 < (w.length : Int) + 1 by omega)]
      rw [show (w.length : Int) + 1 - 1 = (w.length : Int) by omega, rdI_mid w _ []]
      simp only [beq_self_eq_true]
      exact Ev.now _
    · rw [hw]
      simp only [List.length_nil, if_neg (show ¬ ((0 : Nat) : Int) > 0 by omega)]
      exact Ev.now _
theorem law_l0 (s : List Int) (hs : Bytes s) (now after : List Int) (d : Int) (m : ByteArray) (L : List S70) (hl : L.length ≤ 1000) (ha : Amts now) (h : ∀ y ∈ L, 0 ≤ y.f0 ∧ y.f0 < (after.length : Int) ∧ y.f0 < (now.length : Int) ∧ rd after y.f0 + y.f1 = rd now y.f0) : Ev (fun k => laws_FnLedger.l0 k s now after 0 d m L) true := by
  refine list_ind0 L (fun i _ => Ev (fun k => laws_FnLedger.l0 k s now after i d m L) true) ?_ ?_
  · refine Ev.step (fun k => by simp only [laws_FnLedger.l0]; rfl) ?_
    simp only [Int.lt_irrefl, if_false]
    exact law_j3 s hs
  · intro i x rest hi hd ih
    obtain ⟨h1, h2, h3, h4⟩ := h x (mem_drop hd)
    have hb := amts_rd ha x.f0
    refine Ev.step (fun k => by simp only [laws_FnLedger.l0]; rfl) ?_
    simp only [if_pos (show (i : Int) < (L.length : Int) by omega), if_pos (show (0 : Int) ≤ i by omega), rdP hd, if_pos h1, if_pos h2, if_pos h3, h4, wrap_in (show -9223372036854775808 ≤ rd now x.f0 by omega) (by omega), if_true, wrap_in (show -9223372036854775808 ≤ (i : Int) + 1 by omega) (by omega)]
    exact ih
theorem ent_post (n : Int) : ∀ (r : List S63) (p : Option S63) (b : List Int), entR n p b r = true → ∀ x ∈ r, postR n none x.f2 0 = true ∧ dayOk x.f0 = true
  | [], _, _, _ => by simp
  | x :: r, p, b, h => by
    simp only [entR, Bool.and_eq_true] at h
    obtain ⟨⟨h1, h2⟩, h3⟩ := h
    unfold entryOk postOk at h2
    simp only [Bool.and_eq_true] at h2
    intro z hz
    rcases List.mem_cons.1 hz with rfl | hz
    · exact ⟨h2.2.2, h2.1.1⟩
    · cases hb : applyL b x.f2 with
      | none => rw [hb] at h3; simp at h3
      | some b' => rw [hb] at h3; exact ent_post n r (some x) b' h3 z hz
theorem FnLedger : XGFnLedger.Pure := by
  intro s hs0
  have hs := bytes_of hs0
  refine Ev.rounds ?_
  unfold laws_FnLedger.f laws_vBig.f
  simp only [Option.bind_some]
  by_cases hbig : decide ((s.length : Int) > 65536) = true
  · simp only [if_pos hbig]; exact Ev.now _
  simp only [if_neg hbig]
  obtain ⟨a, e, n, d, D, F⟩ := drawReverse_ev s hs
  have h3 := law_j3 s hs
  have P1 := implRev_ev a e F n d
  have P2 := specRev_ev a e F n d
  have T := implTrialI_ev a e F 36524
  have V := implLedger_ev a e F
  have hday : dayOk 36524 = true := by decide
  refine Ev.bind D ?_
  refine Ev.bind P1 ?_
  refine Ev.bind P2 ?_
  simp only [bne_self_eq_false, Bool.false_eq_true, if_false]
  refine Ev.bind T ?_
  refine Ev.bind V ?_
  cases q : ledgerOk a e with
  | false =>
    have hT : trialOf a e 36524 = ([], 0, false) := by unfold trialOf; rw [q]; rfl
    have hR : revOf a e n d = ([], [], false) := by unfold revOf; rw [q]; rfl
    rw [hT, hR]
    simp only [bne_self_eq_false, Bool.false_eq_true, if_false]
    refine Ev.step (fun k => by simp only [laws_FnLedger.j0]; rfl) ?_
    simp only [Bool.false_eq_true, if_false]
    exact h3
  | true =>
    have hT : trialOf a e 36524 = (balT 36524 (List.replicate a.length 0) e, posS (balT 36524 (List.replicate a.length 0) e) 0, true) := by unfold trialOf; rw [q, hday]; rfl
    obtain ⟨B2, B3, B4⟩ := bal_impl a e F q 36524
    have q' := q
    unfold ledgerOk at q'
    simp only [Bool.and_eq_true, decide_eq_true_eq] at q'
    obtain ⟨⟨⟨_, o2⟩, o3⟩, o4⟩ := q'
    have hA0 : Amts (List.replicate a.length 0) := fun y hy => by rw [List.eq_of_mem_replicate hy]; omega
    have hsm : sm (balT 36524 (List.replicate a.length 0) e) = 0 := by rw [bal_sm a.length 36524 e none _ (by simp) hA0 o4, sm_rep]
    rw [hT]
    simp only [bne_self_eq_false, Bool.false_eq_true, if_false, if_true]
    refine Ev.bind (rSum_ev _ (by omega) B4) ?_
    rw [hsm]
    simp only [bne_self_eq_false]
    refine Ev.step (fun k => by simp only [laws_FnLedger.j0]; rfl) ?_
    simp only [Bool.false_eq_true, if_false]
    cases qi : bIn n 0 ((e.length : Int) - 1) with
    | false =>
      have hR : revOf a e n d = ([], [], false) := by unfold revOf; rw [q, qi]; rfl
      rw [hR]
      simp only [Bool.false_eq_true, if_false]
      exact h3
    | true =>
      have hR : revOf a e n d = postOf a e ⟨d, revTxt n, (rd_T63 e n).f2.map negP⟩ := by unfold revOf; rw [q, qi]; rfl
      rw [hR]
      unfold postOf
      obtain ⟨r1, r2, r3, r4⟩ := rev_entry a e n q qi
      have hz := revTxt_size n ⟨r1, r3⟩
      cases p : ledgerOk a (e ++ [⟨d, revTxt n, (rd_T63 e n).f2.map negP⟩]) with
      | false =>
        simp only [q, Bool.and_false, Bool.false_eq_true, if_false]
        exact h3
      | true =>
        simp only [q, Bool.and_self, if_true]
        have F2 : FitsT a (e ++ [⟨d, revTxt n, (rd_T63 e n).f2.map negP⟩]) := fitsT_snoc F o3 ⟨by show (revTxt n).size ≤ _; omega, by simp only [List.length_map]; omega⟩
        have T2 := implTrialI_ev a _ F2 36524
        have V2 := implLedger_ev a _ F2
        have hT2 : trialOf a (e ++ [⟨d, revTxt n, (rd_T63 e n).f2.map negP⟩]) 36524 = (balT 36524 (List.replicate a.length 0) (e ++ [⟨d, revTxt n, (rd_T63 e n).f2.map negP⟩]), posS (balT 36524 (List.replicate a.length 0) (e ++ [⟨d, revTxt n, (rd_T63 e n).f2.map negP⟩])) 0, true) := by unfold trialOf; rw [p, hday]; rfl
        obtain ⟨_, C3, _⟩ := bal_impl a _ F2 p 36524
        have p' := p
        unfold ledgerOk at p'
        simp only [Bool.and_eq_true, decide_eq_true_eq] at p'
        have hmem : rd_T63 e n ∈ e := by
          unfold rd_T63
          rw [List.getD_eq_getElem?_getD, List.getElem?_eq_getElem (show n.toNat < e.length by omega)]
          exact List.getElem_mem _
        obtain ⟨hp1, hp2⟩ := ent_post (a.length : Int) e none _ o4 _ hmem
        obtain ⟨_, hd2⟩ := ent_post (a.length : Int) _ none _ p'.2 ⟨d, revTxt n, (rd_T63 e n).f2.map negP⟩ (by simp)
        have hd3 := (bIn_iff _ _ _).1 hd2
        obtain ⟨b', k1, k2⟩ := balT_snoc (a.length : Int) 36524 ⟨d, revTxt n, (rd_T63 e n).f2.map negP⟩ (by exact hd3.2) e none _ p'.2
        have hneg := apply_neg a.length _ none 0 _ b' B3 hp1 k1
        have hall := postR_all _ _ _ _ hp1
        refine Ev.bind T2 ?_
        rw [hT2]
        simp only [if_true, C3, B3]
        refine Ev.bind V2 ?_
        rw [p]
        simp only [if_true, List.length_append, List.length_singleton, wrap_in (show -9223372036854775808 ≤ (e.length : Int) + 1 by omega) (by omega)]
        have he1 : (((e.length + 1 : Nat) : Int) != (e.length : Int) + 1) = false := by rw [show ((e.length + 1 : Nat) : Int) = (e.length : Int) + 1 by omega]; exact bne_self_eq_false _
        rw [he1]
        refine Ev.step (fun k => by simp only [laws_FnLedger.j1]; rfl) ?_
        simp only [Bool.false_eq_true, if_false, if_pos r1, if_pos r2]
        refine law_l0 s hs _ _ _ _ _ (by omega) B4 (fun y hy => ?_)
        have g := hall y hy
        rw [C3, B3, k2]
        exact ⟨g.1.1, by omega, by omega, hneg y hy⟩

end Go.Proofs.YtccdjchaaeligaaDoor.Pure

/- The pure statement of the law on IsValidRecord, proved: both versions accept the same records. -/
import Derived.Test.YtlnocpdiblffcaaXGFnExactIsValidRecord
import Derived.Test.YtlnocpdiblffcaaXPlain
namespace Go.Proofs.Ytlnocpdiblffcaa.Pure
open Go.RowKit Go.Proofs.Ytlnocpdiblffcaa.XFnExactIsValidRecord Go.Proofs.Ytlnocpdiblffcaa.XGFnExactIsValidRecord Go.Proofs.YtlnocpdiblffcaaW.PrintWords Go.Proofs.Ytlnocpdiblffcaa.Plain

def good (b : UInt8) : Bool := decide (32 ≤ b.toNat) && decide (b.toNat ≤ 126)

theorem l1In_eq (a b c : Int) : spec_l1In.f a b c = some (decide (b ≤ a) && decide (a ≤ c)) := by
  unfold spec_l1In.f
  by_cases h : a ≥ b
  · rw [if_pos h, decide_eq_true (show b ≤ a from h), Bool.true_and]
  · rw [if_neg h, decide_eq_false (show ¬ b ≤ a from h), Bool.false_and]
theorem within_eq (a b c : Int) : impl_within.f a b c = some (decide (b ≤ a) && decide (a ≤ c)) := by
  unfold impl_within.f
  by_cases h : a ≥ b
  · rw [if_pos h, decide_eq_true (show b ≤ a from h), Bool.true_and]
  · rw [if_neg h, decide_eq_false (show ¬ b ≤ a from h), Bool.false_and]

theorem plain_ev (s : ByteArray) (m : Int) (hs : s.size ≤ 9223372036854775807) :
    Ev (fun k => spec_l27Plain.f k s m) (s.data.toList.all (fun b => good b && !(b.toNat == 35)) && decide ((s.size : Int) ≤ m)) := by
  unfold spec_l27Plain.f
  refine bytes_ind0 s (fun i rest => Ev (fun k => spec_l27Plain.l0 k s m i) (rest.all (fun b => good b && !(b.toNat == 35)) && decide ((s.size : Int) ≤ m))) ?_ ?_
  · refine Ev.step (fun k => by simp only [spec_l27Plain.l0]; rfl) ?_
    simp only [Int.lt_irrefl, if_false, List.all_nil, Bool.true_and]
    exact Ev.now _
  · intro i b rest hi hb hd ih
    refine Ev.step (fun k => by simp only [spec_l27Plain.l0]; rfl) ?_
    simp only [if_pos (show (i : Int) < (s.size : Int) by omega), if_pos (show (0 : Int) ≤ i by omega), hb, wrap_byte, l1In_eq, Option.bind_some, wrap_in (show -9223372036854775808 ≤ (i : Int) + 1 by omega) (by omega), List.all_cons, good]
    by_cases h : 32 ≤ b.toNat ∧ b.toNat ≤ 126
    · simp only [if_pos (show (decide (32 ≤ (b.toNat : Int)) && decide ((b.toNat : Int) ≤ 126)) = true by simp; omega), decide_eq_true h.1, decide_eq_true h.2, Bool.true_and]
      by_cases h2 : b.toNat = 35
      · simp only [h2]
        exact Ev.now _
      · simp only [if_neg (show ¬ (b.toNat : Int) = 35 by omega), beq_eq_false_iff_ne.2 h2, Bool.not_false, Bool.true_and]
        exact ih
    · simp only [if_neg (show ¬ (decide (32 ≤ (b.toNat : Int)) && decide ((b.toNat : Int) ≤ 126)) = true by simp; omega)]
      refine Ev.some ?_
      have : (decide (32 ≤ b.toNat) && decide (b.toNat ≤ 126)) = false := by simp; omega
      rw [this]
      simp

theorem stands_ev (s : ByteArray) (c : Nat) (hs : s.size ≤ 9223372036854775807) : Ev (fun k => spec_l1Stands.f k s c) (s.data.toList.any (fun b => b.toNat == c)) := by
  unfold spec_l1Stands.f
  refine bytes_ind0 s (fun i rest => Ev (fun k => spec_l1Stands.l0 k s c i) (rest.any (fun b => b.toNat == c))) ?_ ?_
  · refine Ev.step (fun k => by simp only [spec_l1Stands.l0]; rfl) ?_
    simp only [Int.lt_irrefl, if_false, List.any_nil]
    exact Ev.now _
  · intro i b rest hi hb hd ih
    refine Ev.step (fun k => by simp only [spec_l1Stands.l0]; rfl) ?_
    simp only [if_pos (show (i : Int) < (s.size : Int) by omega), if_pos (show (0 : Int) ≤ i by omega), hb, wrap_in (show -9223372036854775808 ≤ (i : Int) + 1 by omega) (by omega), List.any_cons]
    by_cases h : b.toNat = c
    · simp only [if_pos (show (b.toNat : Int) = c by omega), beq_iff_eq.2 h, Bool.true_or]
      exact Ev.now _
    · simp only [if_neg (show ¬ (b.toNat : Int) = c by omega), beq_eq_false_iff_ne.2 h, Bool.false_or]
      exact ih

theorem containsAny_eq (l chars : List UInt8) : Lib.containsAny l chars = l.any (fun b => chars.contains b) := by
  have key : ∀ l : List UInt8, (0 ≤ Lib.indexAny l chars ↔ l.any (fun b => chars.contains b) = true) := by
    intro l
    induction l with
    | nil => simp [Lib.indexAny]
    | cons b l ih =>
      have hge := Lib.indexAny_ge chars l
      rw [Lib.indexAny, List.any_cons]
      by_cases h : chars.contains b = true
      · rw [if_pos h, h]; simp
      · rw [if_neg h, Bool.eq_false_iff.2 h, Bool.false_or, ← ih]
        by_cases h2 : Lib.indexAny l chars = -1
        · simp [h2]
        · simp only [beq_eq_false_iff_ne.2 h2]
          simp only [Bool.false_eq_true, if_false]
          omega
  unfold Lib.containsAny
  rw [Bool.eq_iff_iff, decide_eq_true_iff]
  exact key l

theorem ascii_good {s : ByteArray} (h : s.data.toList.all good = true) : ascii s = true := by
  unfold ascii
  rw [List.all_eq_true] at h ⊢
  intro b hb
  have := h b hb
  simp only [good, Bool.and_eq_true, decide_eq_true_eq] at this
  simp only [decide_eq_true_eq]
  omega

theorem printable_ev (s w : ByteArray) (hs : s.size ≤ 1048576) (hw : w.size ≤ 100) (ha : ascii w = true) :
    Ev (fun k => impl_isPrintable.f k s w) (s.data.toList.all good && !(s.data.toList.any (fun b => w.data.toList.contains b))) := by
  unfold impl_isPrintable.f
  by_cases hg : s.data.toList.all good = true
  · rw [hg, Bool.true_and]
    have := bytes_ind0 s (fun i rest => rest.all good = true → Ev (fun k => impl_isPrintable.l0 k s w (s.size : Int) i) (!(s.data.toList.any (fun b => w.data.toList.contains b)))) ?_ ?_
    · exact this hg
    · intro _
      refine Ev.step (fun k => by simp only [impl_isPrintable.l0]; rfl) ?_
      have hc : strings_ContainsAny.f s w = some (s.data.toList.any (fun b => w.data.toList.contains b)) := by
        unfold strings_ContainsAny.f
        rw [if_pos ⟨by omega, by omega, ascii_good hg, ha⟩, containsAny_eq]
      simp only [Int.lt_irrefl, if_false, hc, Option.bind_some]
      exact Ev.now _
    · intro i b rest hi hb hd ih hall
      rw [List.all_cons, Bool.and_eq_true] at hall
      have h1 := hall.1
      simp only [good, Bool.and_eq_true, decide_eq_true_eq] at h1
      refine Ev.step (fun k => by simp only [impl_isPrintable.l0]; rfl) ?_
      simp only [if_pos (show (i : Int) < (s.size : Int) by omega), if_pos (show (0 : Int) ≤ i by omega), hb, wrap_in (show -9223372036854775808 ≤ (i : Int) + 1 by omega) (by omega), if_neg (show ¬ (b.toNat : Int) < 32 by omega), if_neg (show ¬ (b.toNat : Int) > 126 by omega)]
      exact ih hall.2
  · rw [Bool.eq_false_iff.2 hg, Bool.false_and]
    have := bytes_ind0 s (fun i rest => rest.all good = false → Ev (fun k => impl_isPrintable.l0 k s w (s.size : Int) i) false) ?_ ?_
    · exact this (Bool.eq_false_iff.2 hg)
    · intro h; simp at h
    · intro i b rest hi hb hd ih hall
      refine Ev.step (fun k => by simp only [impl_isPrintable.l0]; rfl) ?_
      simp only [if_pos (show (i : Int) < (s.size : Int) by omega), if_pos (show (0 : Int) ≤ i by omega), hb, wrap_in (show -9223372036854775808 ≤ (i : Int) + 1 by omega) (by omega)]
      by_cases h1 : b.toNat < 32
      · simp only [if_pos (show (b.toNat : Int) < 32 by omega)]
        exact Ev.now _
      · by_cases h2 : b.toNat > 126
        · simp only [if_neg (show ¬ (b.toNat : Int) < 32 by omega), if_pos (show (b.toNat : Int) > 126 by omega)]
          exact Ev.now _
        · simp only [if_neg (show ¬ (b.toNat : Int) < 32 by omega), if_neg (show ¬ (b.toNat : Int) > 126 by omega)]
          refine ih ?_
          rw [List.all_cons] at hall
          have hb' : good b = true := by simp only [good, Bool.and_eq_true, decide_eq_true_eq]; omega
          rw [hb', Bool.true_and] at hall
          exact hall

theorem spec_ev (a b : ByteArray) (ha : a.size ≤ 1048576) (hb : b.size ≤ 1048576) :
    Ev (fun k => spec_IsValidRecord.f k a b) (decide (a.size ≠ 0) && (a.data.toList.all (fun b => good b && !(b.toNat == 35)) && decide ((a.size : Int) ≤ 160)) && !(a.data.toList.any (fun b => b.toNat == 64)) && (b.data.toList.all (fun b => good b && !(b.toNat == 35)) && decide ((b.size : Int) ≤ 200))) := by
  unfold spec_IsValidRecord.f spec_l27Good.f
  refine Ev.bind (f := fun k t => some t) ?_ (Ev.now _)
  by_cases h0 : a.size = 0
  · simp only [if_pos ((list_nil_iff a).2 h0), h0]
    exact Ev.now _
  · simp only [if_neg (fun h => h0 ((list_nil_iff a).1 h)), decide_eq_true h0, Bool.true_and]
    refine Ev.bind (plain_ev a 160 (by omega)) ?_
    cases h1 : (a.data.toList.all (fun b => good b && !(b.toNat == 35)) && decide ((a.size : Int) ≤ 160)) with
    | false => simp only [Bool.false_eq_true, if_false, Bool.false_and]; exact Ev.now _
    | true =>
      simp only [if_true, Bool.true_and]
      refine Ev.bind (stands_ev a 64 (by omega)) ?_
      cases h2 : a.data.toList.any (fun b => b.toNat == 64) with
      | true => simp only [if_true, Bool.not_true, Bool.false_and]; exact Ev.now _
      | false =>
        simp only [Bool.false_eq_true, if_false, Bool.not_false, Bool.true_and]
        exact Ev.bind (f := fun k t => some t) (plain_ev b 200 (by omega)) (Ev.now _)

theorem impl_ev (a b : ByteArray) (ha : a.size ≤ 1048576) (hb : b.size ≤ 1048576) :
    Ev (fun k => impl_IsValidRecord.f k a b) (((decide (1 ≤ (a.size : Int)) && decide ((a.size : Int) ≤ 160)) && (a.data.toList.all good && !(a.data.toList.any (fun b => ([35, 64] : List UInt8).contains b)))) && (decide ((b.size : Int) ≤ 200) && (b.data.toList.all good && !(b.data.toList.any (fun b => ([35] : List UInt8).contains b))))) := by
  unfold impl_IsValidRecord.f impl_isCommand.f
  have hin : Ev (fun k => (impl_within.f (a.size : Int) 1 160).bind fun t113 => (if t113 = true then ((impl_isPrintable.f k a (⟨#[35, 64]⟩ : ByteArray)).bind fun t114 => (some t114)) else (some false))) ((decide (1 ≤ (a.size : Int)) && decide ((a.size : Int) ≤ 160)) && (a.data.toList.all good && !(a.data.toList.any (fun b => ([35, 64] : List UInt8).contains b)))) := by
    simp only [within_eq, Option.bind_some]
    cases h1 : (decide (1 ≤ (a.size : Int)) && decide ((a.size : Int) ≤ 160)) with
    | false => simp only [Bool.false_eq_true, if_false, Bool.false_and]; exact Ev.now _
    | true =>
      simp only [if_true, Bool.true_and]
      exact Ev.bind (f := fun k t => some t) (printable_ev a ⟨#[35, 64]⟩ ha (by decide) (by decide)) (Ev.now _)
  refine Ev.bind hin ?_
  cases h1 : ((decide (1 ≤ (a.size : Int)) && decide ((a.size : Int) ≤ 160)) && (a.data.toList.all good && !(a.data.toList.any (fun b => ([35, 64] : List UInt8).contains b)))) with
  | false => simp only [Bool.false_eq_true, if_false, Bool.false_and]; exact Ev.now _
  | true =>
    simp only [if_true, Bool.true_and]
    by_cases h2 : (b.size : Int) ≤ 200
    · simp only [if_pos h2, decide_eq_true h2, Bool.true_and]
      exact Ev.bind (f := fun k t => some t) (printable_ev b ⟨#[35]⟩ hb (by decide) (by decide)) (Ev.now _)
    · simp only [if_neg h2, decide_eq_false h2, Bool.false_and]
      exact Ev.now _

theorem all_and (l : List UInt8) (p q : UInt8 → Bool) : l.all (fun b => p b && q b) = (l.all p && l.all q) := by
  induction l with
  | nil => rfl
  | cons b l ih => rw [List.all_cons, List.all_cons, List.all_cons, ih]; cases p b <;> cases q b <;> cases l.all p <;> rfl
theorem all_not (l : List UInt8) (q : UInt8 → Bool) : l.all (fun b => !q b) = !l.any q := by
  induction l with
  | nil => rfl
  | cons b l ih => rw [List.all_cons, List.any_cons, ih]; cases q b <;> cases l.any q <;> rfl
theorem any_or (l : List UInt8) (p q : UInt8 → Bool) : l.any (fun b => p b || q b) = (l.any p || l.any q) := by
  induction l with
  | nil => rfl
  | cons b l ih => rw [List.any_cons, List.any_cons, List.any_cons, ih]; cases p b <;> cases q b <;> cases l.any p <;> rfl
theorem c2 : (fun b : UInt8 => ([35, 64] : List UInt8).contains b) = fun b => (b.toNat == 35) || (b.toNat == 64) := by
  funext b
  rw [Bool.eq_iff_iff]
  simp [← UInt8.toNat_inj]
theorem c1 : (fun b : UInt8 => ([35] : List UInt8).contains b) = fun b => (b.toNat == 35) := by
  funext b
  rw [Bool.eq_iff_iff]
  simp [← UInt8.toNat_inj]

theorem same (a b : ByteArray) : (decide (a.size ≠ 0) && (a.data.toList.all (fun b => good b && !(b.toNat == 35)) && decide ((a.size : Int) ≤ 160)) && !(a.data.toList.any (fun b => b.toNat == 64)) && (b.data.toList.all (fun b => good b && !(b.toNat == 35)) && decide ((b.size : Int) ≤ 200)))
    = (((decide (1 ≤ (a.size : Int)) && decide ((a.size : Int) ≤ 160)) && (a.data.toList.all good && !(a.data.toList.any (fun b => ([35, 64] : List UInt8).contains b)))) && (decide ((b.size : Int) ≤ 200) && (b.data.toList.all good && !(b.data.toList.any (fun b => ([35] : List UInt8).contains b))))) := by
  rw [c1, c2, all_and, all_and, all_not, all_not, any_or]
  have h : decide (a.size ≠ 0) = decide (1 ≤ (a.size : Int)) := by
    rw [Bool.eq_iff_iff, decide_eq_true_iff, decide_eq_true_iff]; omega
  rw [h]
  cases decide (1 ≤ (a.size : Int)) <;> cases decide ((a.size : Int) ≤ 160) <;> cases decide ((b.size : Int) ≤ 200) <;> cases a.data.toList.all good <;> cases b.data.toList.all good <;> cases a.data.toList.any (fun b => b.toNat == 35) <;> cases a.data.toList.any (fun b => b.toNat == 64) <;> cases b.data.toList.any (fun b => b.toNat == 35) <;> rfl

theorem FnExactIsValidRecord : XGFnExactIsValidRecord.Pure := by
  intro a b ha hb
  refine Ev.rounds ?_
  unfold laws_FnExactIsValidRecord.f laws_szLogRecord.f laws_toLogRecord.f
  rw [wrap_in (show -9223372036854775808 ≤ 1048576 - (a.size : Int) by omega) (by omega)]
  by_cases h1 : 1048576 - (a.size : Int) < 0
  · simp only [if_pos h1, Option.bind_some, show (-1 : Int) < 0 by decide, if_true]
    exact Ev.now _
  · rw [wrap_in (show -9223372036854775808 ≤ 1048576 - (a.size : Int) - (b.size : Int) by omega) (by omega)]
    by_cases h2 : 1048576 - (a.size : Int) - (b.size : Int) < 0
    · simp only [if_neg h1, if_pos h2, Option.bind_some, show (-1 : Int) < 0 by decide, if_true]
      exact Ev.now _
    · simp only [if_neg h1, if_neg h2, Option.bind_some]
      refine Ev.bind (spec_ev a b (by omega) (by omega)) ?_
      refine Ev.bind (impl_ev a b (by omega) (by omega)) ?_
      rw [same]
      simp only [bne_self_eq_false, Bool.false_eq_true, if_false]
      exact Ev.now _

end Go.Proofs.Ytlnocpdiblffcaa.Pure

/- The pure statement of the law FnLog, proved: what the program computes agrees with the reference, in plain Lean. -/
import Derived.Test.YtmhmeifdnleoaaaDoorXGFnLog
import Derived.Test.YtmhmeifdnleoaaaDoorXPlain
import Derived.Lib.ItoaLen
import Derived.Laws.Bits64b
import Derived.Laws.BitsLemmas
set_option linter.unusedVariables false
set_option linter.unusedSimpArgs false
namespace Go.Proofs.YtmhmeifdnleoaaaDoor.Pure
open Go.RowKit Go.Proofs.YtmhmeifdnleoaaaDoor Go.Proofs.YtmhmeifdnleoaaaDoor.XFnLog Go.Proofs.YtmhmeifdnleoaaaDoor.XGFnLog Go.Proofs.YtmhmeifdnleoaaaDoorW.PrintWords Go.Proofs.YtmhmeifdnleoaaaDoorW.PrintLast Go.Proofs.YtmhmeifdnleoaaaDoor.Plain

theorem l1In_eq (a b c : Int) : spec_l1In.f a b c = some (decide (b ≤ a) && decide (a ≤ c)) := by
  unfold spec_l1In.f
  by_cases h : a ≥ b
  · rw [if_pos h, decide_eq_true (show b ≤ a from h), Bool.true_and]
  · rw [if_neg h, decide_eq_false (show ¬ b ≤ a from h), Bool.false_and]
theorem within_eq (a b c : Int) : impl_within.f a b c = some (decide (b ≤ a) && decide (a ≤ c)) := by
  unfold impl_within.f
  by_cases h : a ≥ b
  · rw [if_pos h, decide_eq_true (show b ≤ a from h), Bool.true_and]
  · rw [if_neg h, decide_eq_false (show ¬ b ≤ a from h), Bool.false_and]

def good (b : UInt8) : Bool := decide (32 ≤ b.toNat) && decide (b.toNat ≤ 126)

theorem plain_ev (s : ByteArray) (m : Int) (hs : s.size ≤ 9223372036854775807) :
    Ev (fun k => spec_l27Plain.f k s m) (s.data.toList.all (fun b => good b && !(b.toNat == 35)) && decide ((s.size : Int) ≤ m)) := by
  unfold spec_l27Plain.f
  refine bytes_ind0 s (fun i rest => Ev (fun k => spec_l27Plain.l0 k s m i) (rest.all (fun b => good b && !(b.toNat == 35)) && decide ((s.size : Int) ≤ m))) ?_ ?_
  · refine Ev.step (fun k => by simp only [spec_l27Plain.l0]; rfl) ?_
    simp only [Int.lt_irrefl, if_false, List.all_nil, Bool.true_and]
    exact Ev.now _
  · intro i b rest hi hb hd ih
    refine Ev.step (fun k => by simp only [spec_l27Plain.l0]; rfl) ?_
    simp only [if_pos (show (i : Int) < (s.size : Int) by omega), if_pos (show (0 : Int) ≤ i by omega), hb, wrap_byte, l1In_eq, Option.bind_some, wrap_in (show -9223372036854775808 ≤ (i : Int) + 1 by omega) (by omega), List.all_cons, good]
    by_cases h : 32 ≤ b.toNat ∧ b.toNat ≤ 126
    · simp only [if_pos (show (decide (32 ≤ (b.toNat : Int)) && decide ((b.toNat : Int) ≤ 126)) = true by simp; omega), decide_eq_true h.1, decide_eq_true h.2, Bool.true_and]
      by_cases h2 : b.toNat = 35
      · simp only [h2]
        exact Ev.now _
      · simp only [if_neg (show ¬ (b.toNat : Int) = 35 by omega), beq_eq_false_iff_ne.2 h2, Bool.not_false, Bool.true_and]
        exact ih
    · simp only [if_neg (show ¬ (decide (32 ≤ (b.toNat : Int)) && decide ((b.toNat : Int) ≤ 126)) = true by simp; omega)]
      refine Ev.some ?_
      have : (decide (32 ≤ b.toNat) && decide (b.toNat ≤ 126)) = false := by simp; omega
      rw [this]
      simp

theorem stands_ev (s : ByteArray) (c : Nat) (hs : s.size ≤ 9223372036854775807) : Ev (fun k => spec_l1Stands.f k s c) (s.data.toList.any (fun b => b.toNat == c)) := by
  unfold spec_l1Stands.f
  refine bytes_ind0 s (fun i rest => Ev (fun k => spec_l1Stands.l0 k s c i) (rest.any (fun b => b.toNat == c))) ?_ ?_
  · refine Ev.step (fun k => by simp only [spec_l1Stands.l0]; rfl) ?_
    simp only [Int.lt_irrefl, if_false, List.any_nil]
    exact Ev.now _
  · intro i b rest hi hb hd ih
    refine Ev.step (fun k => by simp only [spec_l1Stands.l0]; rfl) ?_
    simp only [if_pos (show (i : Int) < (s.size : Int) by omega), if_pos (show (0 : Int) ≤ i by omega), hb, wrap_in (show -9223372036854775808 ≤ (i : Int) + 1 by omega) (by omega), List.any_cons]
    by_cases h : b.toNat = c
    · simp only [if_pos (show (b.toNat : Int) = c by omega), beq_iff_eq.2 h, Bool.true_or]
      exact Ev.now _
    · simp only [if_neg (show ¬ (b.toNat : Int) = c by omega), beq_eq_false_iff_ne.2 h, Bool.false_or]
      exact ih

theorem containsAny_eq (l chars : List UInt8) : Lib.containsAny l chars = l.any (fun b => chars.contains b) := by
  have key : ∀ l : List UInt8, (0 ≤ Lib.indexAny l chars ↔ l.any (fun b => chars.contains b) = true) := by
    intro l
    induction l with
    | nil => simp [Lib.indexAny]
    | cons b l ih =>
      have hge := Lib.indexAny_ge chars l
      rw [Lib.indexAny, List.any_cons]
      by_cases h : chars.contains b = true
      · rw [if_pos h, h]; simp
      · rw [if_neg h, Bool.eq_false_iff.2 h, Bool.false_or, ← ih]
        by_cases h2 : Lib.indexAny l chars = -1
        · simp [h2]
        · simp only [beq_eq_false_iff_ne.2 h2]
          simp only [Bool.false_eq_true, if_false]
          omega
  unfold Lib.containsAny
  rw [Bool.eq_iff_iff, decide_eq_true_iff]
  exact key l

theorem ascii_good {s : ByteArray} (h : s.data.toList.all good = true) : ascii s = true := by
  unfold ascii
  rw [List.all_eq_true] at h ⊢
  intro b hb
  have := h b hb
  simp only [good, Bool.and_eq_true, decide_eq_true_eq] at this
  simp only [decide_eq_true_eq]
  omega

theorem printable_ev (s w : ByteArray) (hs : s.size ≤ 1048576) (hw : w.size ≤ 100) (ha : ascii w = true) :
    Ev (fun k => impl_isPrintable.f k s w) (s.data.toList.all good && !(s.data.toList.any (fun b => w.data.toList.contains b))) := by
  unfold impl_isPrintable.f
  by_cases hg : s.data.toList.all good = true
  · rw [hg, Bool.true_and]
    have := bytes_ind0 s (fun i rest => rest.all good = true → Ev (fun k => impl_isPrintable.l0 k s w (s.size : Int) i) (!(s.data.toList.any (fun b => w.data.toList.contains b)))) ?_ ?_
    · exact this hg
    · intro _
      refine Ev.step (fun k => by simp only [impl_isPrintable.l0]; rfl) ?_
      have hc : strings_ContainsAny.f s w = some (s.data.toList.any (fun b => w.data.toList.contains b)) := by
        unfold strings_ContainsAny.f
        rw [if_pos ⟨by omega, by omega, ascii_good hg, ha⟩, containsAny_eq]
      simp only [Int.lt_irrefl, if_false, hc, Option.bind_some]
      exact Ev.now _
    · intro i b rest hi hb hd ih hall
      rw [List.all_cons, Bool.and_eq_true] at hall
      have h1 := hall.1
      simp only [good, Bool.and_eq_true, decide_eq_true_eq] at h1
      refine Ev.step (fun k => by simp only [impl_isPrintable.l0]; rfl) ?_
      simp only [if_pos (show (i : Int) < (s.size : Int) by omega), if_pos (show (0 : Int) ≤ i by omega), hb, wrap_in (show -9223372036854775808 ≤ (i : Int) + 1 by omega) (by omega), if_neg (show ¬ (b.toNat : Int) < 32 by omega), if_neg (show ¬ (b.toNat : Int) > 126 by omega)]
      exact ih hall.2
  · rw [Bool.eq_false_iff.2 hg, Bool.false_and]
    have := bytes_ind0 s (fun i rest => rest.all good = false → Ev (fun k => impl_isPrintable.l0 k s w (s.size : Int) i) false) ?_ ?_
    · exact this (Bool.eq_false_iff.2 hg)
    · intro h; simp at h
    · intro i b rest hi hb hd ih hall
      refine Ev.step (fun k => by simp only [impl_isPrintable.l0]; rfl) ?_
      simp only [if_pos (show (i : Int) < (s.size : Int) by omega), if_pos (show (0 : Int) ≤ i by omega), hb, wrap_in (show -9223372036854775808 ≤ (i : Int) + 1 by omega) (by omega)]
      by_cases h1 : b.toNat < 32
      · simp only [if_pos (show (b.toNat : Int) < 32 by omega)]
        exact Ev.now _
      · by_cases h2 : b.toNat > 126
        · simp only [if_neg (show ¬ (b.toNat : Int) < 32 by omega), if_pos (show (b.toNat : Int) > 126 by omega)]
          exact Ev.now _
        · simp only [if_neg (show ¬ (b.toNat : Int) < 32 by omega), if_neg (show ¬ (b.toNat : Int) > 126 by omega)]
          refine ih ?_
          rw [List.all_cons] at hall
          have hb' : good b = true := by simp only [good, Bool.and_eq_true, decide_eq_true_eq]; omega
          rw [hb', Bool.true_and] at hall
          exact hall

theorem recSpec_ev (a b : ByteArray) (ha : a.size ≤ 1048576) (hb : b.size ≤ 1048576) :
    Ev (fun k => spec_l27Good.f k a b) (decide (a.size ≠ 0) && (a.data.toList.all (fun b => good b && !(b.toNat == 35)) && decide ((a.size : Int) ≤ 160)) && !(a.data.toList.any (fun b => b.toNat == 64)) && (b.data.toList.all (fun b => good b && !(b.toNat == 35)) && decide ((b.size : Int) ≤ 200))) := by
  unfold spec_l27Good.f
  by_cases h0 : a.size = 0
  · simp only [if_pos ((list_nil_iff a).2 h0), h0]
    exact Ev.now _
  · simp only [if_neg (fun h => h0 ((list_nil_iff a).1 h)), decide_eq_true h0, Bool.true_and]
    refine Ev.bind (plain_ev a 160 (by omega)) ?_
    cases h1 : (a.data.toList.all (fun b => good b && !(b.toNat == 35)) && decide ((a.size : Int) ≤ 160)) with
    | false => simp only [Bool.false_eq_true, if_false, Bool.false_and]; exact Ev.now _
    | true =>
      simp only [if_true, Bool.true_and]
      refine Ev.bind (stands_ev a 64 (by omega)) ?_
      cases h2 : a.data.toList.any (fun b => b.toNat == 64) with
      | true => simp only [if_true, Bool.not_true, Bool.false_and]; exact Ev.now _
      | false =>
        simp only [Bool.false_eq_true, if_false, Bool.not_false, Bool.true_and]
        exact Ev.bind (f := fun k t => some t) (plain_ev b 200 (by omega)) (Ev.now _)

theorem recImpl_ev (a b : ByteArray) (ha : a.size ≤ 1048576) (hb : b.size ≤ 1048576) :
    Ev (fun k => impl_IsValidRecord.f k a b) (((decide (1 ≤ (a.size : Int)) && decide ((a.size : Int) ≤ 160)) && (a.data.toList.all good && !(a.data.toList.any (fun b => ([35, 64] : List UInt8).contains b)))) && (decide ((b.size : Int) ≤ 200) && (b.data.toList.all good && !(b.data.toList.any (fun b => ([35] : List UInt8).contains b))))) := by
  unfold impl_IsValidRecord.f impl_isCommand.f
  have hin : Ev (fun k => (impl_within.f (a.size : Int) 1 160).bind fun t113 => (if t113 = true then ((impl_isPrintable.f k a (⟨#[35, 64]⟩ : ByteArray)).bind fun t114 => (some t114)) else (some false))) ((decide (1 ≤ (a.size : Int)) && decide ((a.size : Int) ≤ 160)) && (a.data.toList.all good && !(a.data.toList.any (fun b => ([35, 64] : List UInt8).contains b)))) := by
    simp only [within_eq, Option.bind_some]
    cases h1 : (decide (1 ≤ (a.size : Int)) && decide ((a.size : Int) ≤ 160)) with
    | false => simp only [Bool.false_eq_true, if_false, Bool.false_and]; exact Ev.now _
    | true =>
      simp only [if_true, Bool.true_and]
      exact Ev.bind (f := fun k t => some t) (printable_ev a ⟨#[35, 64]⟩ ha (by decide) (by decide)) (Ev.now _)
  refine Ev.bind hin ?_
  cases h1 : ((decide (1 ≤ (a.size : Int)) && decide ((a.size : Int) ≤ 160)) && (a.data.toList.all good && !(a.data.toList.any (fun b => ([35, 64] : List UInt8).contains b)))) with
  | false => simp only [Bool.false_eq_true, if_false, Bool.false_and]; exact Ev.now _
  | true =>
    simp only [if_true, Bool.true_and]
    by_cases h2 : (b.size : Int) ≤ 200
    · simp only [if_pos h2, decide_eq_true h2, Bool.true_and]
      exact Ev.bind (f := fun k t => some t) (printable_ev b ⟨#[35]⟩ hb (by decide) (by decide)) (Ev.now _)
    · simp only [if_neg h2, decide_eq_false h2, Bool.false_and]
      exact Ev.now _

theorem all_and (l : List UInt8) (p q : UInt8 → Bool) : l.all (fun b => p b && q b) = (l.all p && l.all q) := by
  induction l with
  | nil => rfl
  | cons b l ih => rw [List.all_cons, List.all_cons, List.all_cons, ih]; cases p b <;> cases q b <;> cases l.all p <;> rfl
theorem all_not (l : List UInt8) (q : UInt8 → Bool) : l.all (fun b => !q b) = !l.any q := by
  induction l with
  | nil => rfl
  | cons b l ih => rw [List.all_cons, List.any_cons, ih]; cases q b <;> cases l.any q <;> rfl
theorem any_or (l : List UInt8) (p q : UInt8 → Bool) : l.any (fun b => p b || q b) = (l.any p || l.any q) := by
  induction l with
  | nil => rfl
  | cons b l ih => rw [List.any_cons, List.any_cons, List.any_cons, ih]; cases p b <;> cases q b <;> cases l.any p <;> rfl
theorem c2 : (fun b : UInt8 => ([35, 64] : List UInt8).contains b) = fun b => (b.toNat == 35) || (b.toNat == 64) := by
  funext b
  rw [Bool.eq_iff_iff]
  simp [← UInt8.toNat_inj]
theorem c1 : (fun b : UInt8 => ([35] : List UInt8).contains b) = fun b => (b.toNat == 35) := by
  funext b
  rw [Bool.eq_iff_iff]
  simp [← UInt8.toNat_inj]

theorem rec_same (a b : ByteArray) : (decide (a.size ≠ 0) && (a.data.toList.all (fun b => good b && !(b.toNat == 35)) && decide ((a.size : Int) ≤ 160)) && !(a.data.toList.any (fun b => b.toNat == 64)) && (b.data.toList.all (fun b => good b && !(b.toNat == 35)) && decide ((b.size : Int) ≤ 200)))
    = (((decide (1 ≤ (a.size : Int)) && decide ((a.size : Int) ≤ 160)) && (a.data.toList.all good && !(a.data.toList.any (fun b => ([35, 64] : List UInt8).contains b)))) && (decide ((b.size : Int) ≤ 200) && (b.data.toList.all good && !(b.data.toList.any (fun b => ([35] : List UInt8).contains b))))) := by
  rw [c1, c2, all_and, all_and, all_not, all_not, any_or]
  have h : decide (a.size ≠ 0) = decide (1 ≤ (a.size : Int)) := by
    rw [Bool.eq_iff_iff, decide_eq_true_iff, decide_eq_true_iff]; omega
  rw [h]
  cases decide (1 ≤ (a.size : Int)) <;> cases decide ((a.size : Int) ≤ 160) <;> cases decide ((b.size : Int) ≤ 200) <;> cases a.data.toList.all good <;> cases b.data.toList.all good <;> cases a.data.toList.any (fun b => b.toNat == 35) <;> cases a.data.toList.any (fun b => b.toNat == 64) <;> cases b.data.toList.any (fun b => b.toNat == 35) <;> rfl

def itoaB (n : Int) : ByteArray := ⟨(Lib.itoa n).toArray⟩
theorem size_of_list (l : List UInt8) : (⟨l.toArray⟩ : ByteArray).size = l.length := by simp [ByteArray.size]
theorem digit_cut (u : Fin 10) : (⟨#[48, 49, 50, 51, 52, 53, 54, 55, 56, 57]⟩ : ByteArray).extract u.val (u.val + 1) = ⟨[UInt8.ofNat (48 + u.val)].toArray⟩ := by
  revert u; decide +kernel
theorem append_lists (a b : List UInt8) : (⟨a.toArray⟩ : ByteArray) ++ ⟨b.toArray⟩ = ⟨(a ++ b).toArray⟩ := by
  apply ByteArray.ext
  simp
theorem num_nat (u : Nat) : u ≤ 9223372036854775807 → Ev (fun k => spec_l1Num.f k u) ⟨(Lib.decDigits u).toArray⟩ := by
  induction u using Nat.strongRecOn with
  | _ u ih =>
  intro hu
  refine Ev.step (fun k => by simp only [spec_l1Num.f]; rfl) ?_
  simp only [if_neg (show ¬ (u : Int) < 0 by omega)]
  by_cases h : u < 10
  · simp only [if_pos (show (u : Int) < 10 by omega), if_pos (show (0 : Int) ≤ u by omega), wrap_in (show -9223372036854775808 ≤ (u : Int) + 1 by omega) (by omega), if_pos (show (u : Int) ≤ u + 1 by omega), if_pos (show (u : Int) + 1 ≤ 10 by omega)]
    refine Ev.some ?_
    rw [Lib.decDigits_one h, Int.toNat_natCast, show ((u : Int) + 1).toNat = u + 1 by omega]
    exact digit_cut ⟨u, h⟩
  · have hd : Int.tdiv (u : Int) 10 = ((u / 10 : Nat) : Int) := by rw [Int.tdiv_eq_ediv_of_nonneg (by omega)]; omega
    have hm : Int.tmod (u : Int) 10 = ((u % 10 : Nat) : Int) := by rw [Int.tmod_eq_emod_of_nonneg (by omega)]; omega
    have h10 : u % 10 < 10 := Nat.mod_lt _ (by decide)
    simp only [if_neg (show ¬ (u : Int) < 10 by omega), hd, hm, wrap_in (show -9223372036854775808 ≤ ((u / 10 : Nat) : Int) by omega) (by omega)]
    refine Ev.bind (ih (u / 10) (by omega) (by omega)) ?_
    have hl : (Lib.decDigits (u / 10)).length ≤ 20 := by rw [Lib.decDigits_length]; exact Lib.nDigits_le20 _ (by omega)
    have e : Lib.decDigits u = Lib.decDigits (u / 10) ++ [UInt8.ofNat (48 + u % 10)] := by rw [Lib.decDigits, dif_neg h]
    simp only [if_pos (show (0 : Int) ≤ ((u % 10 : Nat) : Int) by omega), wrap_in (show -9223372036854775808 ≤ ((u % 10 : Nat) : Int) + 1 by omega) (by omega), if_pos (show ((u % 10 : Nat) : Int) ≤ ((u % 10 : Nat) : Int) + 1 by omega), if_pos (show ((u % 10 : Nat) : Int) + 1 ≤ 10 by omega), Int.toNat_natCast, show (((u % 10 : Nat) : Int) + 1).toNat = u % 10 + 1 by omega, size_of_list]
    rw [if_pos (show (Lib.decDigits (u / 10)).length + (u % 10 + 1 - u % 10) ≤ 9223372036854775807 by omega)]
    refine Ev.some ?_
    rw [e, digit_cut ⟨u % 10, h10⟩, append_lists]
theorem num_ev (n : Int) (h0 : -9223372036854775807 ≤ n) (h1 : n ≤ 9223372036854775807) : Ev (fun k => spec_l1Num.f k n) (itoaB n) := by
  unfold itoaB
  by_cases h : n < 0
  · obtain ⟨u, rfl⟩ : ∃ u : Nat, n = -(u : Int) := ⟨n.natAbs, by omega⟩
    refine Ev.step (fun k => by simp only [spec_l1Num.f]; rfl) ?_
    simp only [if_pos h, Int.neg_neg, wrap_in (show -9223372036854775808 ≤ (u : Int) by omega) (by omega)]
    refine Ev.bind (num_nat u (by omega)) ?_
    have hl : (Lib.decDigits u).length ≤ 20 := by rw [Lib.decDigits_length]; exact Lib.nDigits_le20 _ (by omega)
    rw [if_pos (by rw [size_of_list]; omega)]
    refine Ev.some ?_
    rw [Lib.itoa_neg u (by omega)]
    exact append_lists [45] _
  · obtain ⟨u, rfl⟩ : ∃ u : Nat, n = (u : Int) := ⟨n.toNat, by omega⟩
    rw [Lib.itoa_nonneg]
    exact num_nat u (by omega)
theorem itoaB_size (n : Int) (h0 : -9223372036854775808 ≤ n) (h1 : n ≤ 9223372036854775807) : (itoaB n).size ≤ 21 := by
  unfold itoaB
  rw [size_of_list]
  exact Lib.itoa_length_le n h0 h1
theorem decimal_eq (n : Int) (h0 : -9223372036854775808 ≤ n) (h1 : n ≤ 9223372036854775807) : impl_decimal.f n = some (itoaB n) := by
  unfold impl_decimal.f strconv_Itoa.f
  rw [if_pos ⟨h0, h1⟩]
  rfl

def sumStep (h : Int) (b : UInt8) : Int := (41 * h + (b.toNat : Int) + 1) % 999979
def sumL (l : List UInt8) (h : Int) : Int := l.foldl sumStep h
theorem sumStep_in (h : Int) (b : UInt8) : 0 ≤ sumStep h b ∧ sumStep h b ≤ 999978 := by unfold sumStep; omega
theorem sumL_in (l : List UInt8) (h : Int) (h0 : 0 ≤ h ∧ h ≤ 999978) : 0 ≤ sumL l h ∧ sumL l h ≤ 999978 := by
  induction l generalizing h with
  | nil => exact h0
  | cons b l ih => exact ih _ (sumStep_in h b)
theorem sum_wrap (h : Int) (b : UInt8) (h0 : 0 ≤ h ∧ h ≤ 999978) : Int.tmod (wrap64 ((wrap64 ((wrap64 (41 * h)) + (wrap64 (b.toNat : Int)))) + 1)) 999979 = sumStep h b := by
  have hb := byte_le b
  rw [wrap_in (show -9223372036854775808 ≤ 41 * h by omega) (by omega), wrap_byte, wrap_in (show -9223372036854775808 ≤ 41 * h + (b.toNat : Int) by omega) (by omega), wrap_in (show -9223372036854775808 ≤ 41 * h + (b.toNat : Int) + 1 by omega) (by omega), Int.tmod_eq_emod_of_nonneg (by omega)]
  rfl
theorem sum_ev (s : ByteArray) (hs : s.size ≤ 9223372036854775807) : Ev (fun k => spec_l1Sum.f k s) (sumL s.data.toList 7) := by
  unfold spec_l1Sum.f
  have := bytes_ind0 s (fun i rest => ∀ h : Int, 0 ≤ h ∧ h ≤ 999978 → Ev (fun k => spec_l1Sum.l0 k s h i) (sumL rest h)) ?_ ?_
  · exact this 7 (by decide)
  · intro h _
    refine Ev.step (fun k => by simp only [spec_l1Sum.l0]; rfl) ?_
    simp only [Int.lt_irrefl, if_false]
    exact Ev.now _
  · intro i b rest hi hb hd ih h hh
    refine Ev.step (fun k => by simp only [spec_l1Sum.l0]; rfl) ?_
    simp only [if_pos (show (i : Int) < (s.size : Int) by omega), if_pos (show (0 : Int) ≤ i by omega), hb, sum_wrap h b hh, wrap_in (show -9223372036854775808 ≤ (i : Int) + 1 by omega) (by omega)]
    exact ih _ (sumStep_in h b)
theorem checksum_ev (s : ByteArray) (hs : s.size ≤ 4000) : Ev (fun k => impl_Checksum.f k s) (sumL s.data.toList 7, true) := by
  unfold impl_Checksum.f
  simp only [if_neg (show ¬ (s.size : Int) > 4000 by omega)]
  have := bytes_ind0 s (fun i rest => ∀ h : Int, 0 ≤ h ∧ h ≤ 999978 → Ev (fun k => impl_Checksum.l0 k s h (s.size : Int) i) (sumL rest h, true)) ?_ ?_
  · exact this 7 (by decide)
  · intro h _
    refine Ev.step (fun k => by simp only [impl_Checksum.l0]; rfl) ?_
    simp only [Int.lt_irrefl, if_false]
    exact Ev.now _
  · intro i b rest hi hb hd ih h hh
    refine Ev.step (fun k => by simp only [impl_Checksum.l0]; rfl) ?_
    simp only [if_pos (show (i : Int) < (s.size : Int) by omega), if_pos (show (0 : Int) ≤ i by omega), hb, sum_wrap h b hh, wrap_in (show -9223372036854775808 ≤ (i : Int) + 1 by omega) (by omega)]
    exact ih _ (sumStep_in h b)

/-- What a record must be. -/
def recOk (a b : ByteArray) : Bool := decide (a.size ≠ 0) && (a.data.toList.all (fun b => good b && !(b.toNat == 35)) && decide ((a.size : Int) ≤ 160)) && !(a.data.toList.any (fun b => b.toNat == 64)) && (b.data.toList.all (fun b => good b && !(b.toNat == 35)) && decide ((b.size : Int) ≤ 200))
theorem recOk_iff (a b : ByteArray) : recOk a b = true ↔ a.size ≠ 0 ∧ (∀ x ∈ a.data.toList, good x = true ∧ x.toNat ≠ 35) ∧ a.size ≤ 160 ∧ (∀ x ∈ a.data.toList, x.toNat ≠ 64) ∧ (∀ x ∈ b.data.toList, good x = true ∧ x.toNat ≠ 35) ∧ b.size ≤ 200 := by
  unfold recOk
  simp only [Bool.and_eq_true, decide_eq_true_eq, List.all_eq_true, Bool.not_eq_true', List.any_eq_false, beq_iff_eq, beq_eq_false_iff_ne]
  constructor
  · rintro ⟨⟨⟨h1, h2, h3⟩, h4⟩, h5, h6⟩
    exact ⟨h1, fun x hx => h2 x hx, by omega, h4, fun x hx => h5 x hx, by omega⟩
  · rintro ⟨h1, h2, h3, h4, h5, h6⟩
    exact ⟨⟨⟨h1, h2, by omega⟩, h4⟩, h5, by omega⟩
theorem good_ev (a b : ByteArray) (ha : a.size ≤ 1048576) (hb : b.size ≤ 1048576) : Ev (fun k => spec_l27Good.f k a b) (recOk a b) := recSpec_ev a b ha hb
theorem isRecord_ev (a b : ByteArray) (ha : a.size ≤ 1048576) (hb : b.size ≤ 1048576) : Ev (fun k => impl_IsValidRecord.f k a b) (recOk a b) := by
  have := recImpl_ev a b ha hb
  rw [← rec_same a b] at this
  exact this
/-- A text with its checksum behind it. -/
def sealB (s : ByteArray) : ByteArray := (s ++ (⟨#[35]⟩ : ByteArray)) ++ itoaB (sumL s.data.toList 7)
def lineTxt (k : Int) (a b : ByteArray) : ByteArray := (((itoaB k ++ (⟨#[32]⟩ : ByteArray)) ++ a) ++ (⟨#[64]⟩ : ByteArray)) ++ b
def lineB (k : Int) (a b : ByteArray) : ByteArray := sealB (lineTxt k a b) ++ (⟨#[10]⟩ : ByteArray)
theorem lineTxt_size (k : Int) (a b : ByteArray) : (lineTxt k a b).size = (itoaB k).size + 1 + a.size + 1 + b.size := by
  unfold lineTxt
  simp only [ByteArray.size_append]
  rfl
theorem sealB_size (s : ByteArray) : (sealB s).size = s.size + 1 + (itoaB (sumL s.data.toList 7)).size := by
  unfold sealB
  simp only [ByteArray.size_append]
  rfl
theorem sum7 (s : ByteArray) : 0 ≤ sumL s.data.toList 7 ∧ sumL s.data.toList 7 ≤ 999978 := sumL_in _ _ (by decide)
theorem seal_ev (s : ByteArray) (hs : s.size ≤ 1048576) : Ev (fun k => spec_l1Seal.f k s) (sealB s) := by
  have h7 := sum7 s
  have sa := itoaB_size (sumL s.data.toList 7) (by omega) (by omega)
  unfold spec_l1Seal.f
  refine ev_pos (by omega) ?_
  refine Ev.bind (sum_ev s (by omega)) ?_
  refine Ev.bind (num_ev _ (by omega) (by omega)) ?_
  exact ev_pos (by omega) (Ev.now _)
theorem specLine_ev (k : Int) (hk : 0 ≤ k ∧ k ≤ 1000000) (a b : ByteArray) (ha : a.size ≤ 1000) (hb : b.size ≤ 1000) : Ev (fun n => spec_l27Line.f n k a b) (lineB k a b) := by
  have sa := itoaB_size k (by omega) (by omega)
  have sl := lineTxt_size k a b
  have sx := sealB_size (lineTxt k a b)
  have h7 := sum7 (lineTxt k a b)
  have s7 := itoaB_size (sumL (lineTxt k a b).data.toList 7) (by omega) (by omega)
  unfold spec_l27Line.f
  refine Ev.bind (num_ev k (by omega) (by omega)) ?_
  refine ev_pos (by omega) (ev_pos (by omega) (ev_pos (by omega) (ev_pos (by omega) ?_)))
  refine Ev.bind (seal_ev (lineTxt k a b) (by omega)) ?_
  exact ev_pos (by omega) (Ev.now _)
theorem decDigits_digit (u : Nat) : ∀ x ∈ Lib.decDigits u, 48 ≤ x.toNat ∧ x.toNat ≤ 57 := by
  induction u using Nat.strongRecOn with
  | _ u ih =>
    intro x hx
    rw [Lib.decDigits] at hx
    split at hx
    · simp only [List.mem_cons, List.not_mem_nil, or_false] at hx
      subst hx
      rw [UInt8.toNat_ofNat']
      omega
    · rw [List.mem_append] at hx
      rcases hx with hx | hx
      · exact ih (u / 10) (by omega) x hx
      · simp only [List.mem_cons, List.not_mem_nil, or_false] at hx
        subst hx
        rw [UInt8.toNat_ofNat']
        omega
theorem itoa_digit (n : Int) (h0 : 0 ≤ n) : ∀ x ∈ (itoaB n).data.toList, 48 ≤ x.toNat ∧ x.toNat ≤ 57 := by
  intro x hx
  unfold itoaB Lib.itoa at hx
  rw [if_neg (by omega)] at hx
  exact decDigits_digit n.toNat x (by simpa using hx)
theorem indexByte_no (l : List UInt8) (c : UInt8) (h : ∀ x ∈ l, x ≠ c) : Lib.indexByte l c = -1 := by
  induction l with
  | nil => rfl
  | cons b l ih =>
    have hb : (b == c) = false := beq_eq_false_iff_ne.2 (h b (by simp))
    have := ih (fun x hx => h x (by simp [hx]))
    rw [Lib.indexByte, hb, this]
    rfl
theorem has35 (s : ByteArray) (h : ∀ x ∈ s.data.toList, x.toNat ≠ 35) : strings_Contains.f s (⟨#[35]⟩ : ByteArray) = some false := by
  unfold strings_Contains.f
  rw [if_pos (by rfl)]
  have : Lib.indexByte s.data.toList ((⟨#[35]⟩ : ByteArray).data.toList.getD 0 0) = -1 := by
    refine indexByte_no _ _ (fun x hx e => h x hx ?_)
    subst e
    rfl
  rw [this]
  rfl
theorem appendSum_ev (s : ByteArray) (hs : s.size ≤ 3970) (hno : ∀ x ∈ s.data.toList, x.toNat ≠ 35) : Ev (fun n => impl_AppendChecksum.f n s) (sealB s, true) := by
  have h7 := sum7 s
  have s7 := itoaB_size (sumL s.data.toList 7) (by omega) (by omega)
  unfold impl_AppendChecksum.f
  refine Ev.bind (checksum_ev s (by omega)) ?_
  refine ev_pos (by omega) ?_
  simp only [decimal_eq (sumL s.data.toList 7) (by omega) (by omega), Option.bind_some, if_true, has35 _ hno, Bool.false_eq_true, if_false]
  refine ev_pos (by omega) ?_
  exact ev_neg (by omega) (Ev.some rfl)
theorem implLine_ev (k : Int) (hk : 0 ≤ k ∧ k ≤ 1000000) (a b : ByteArray) (hr : recOk a b = true) : Ev (fun n => impl_encodeRecord.f n k a b) (lineB k a b) := by
  obtain ⟨_, r1, r2, _, r3, r4⟩ := (recOk_iff a b).1 hr
  have sa := itoaB_size k (by omega) (by omega)
  have sl := lineTxt_size k a b
  have sx := sealB_size (lineTxt k a b)
  have h7 := sum7 (lineTxt k a b)
  have s7 := itoaB_size (sumL (lineTxt k a b).data.toList 7) (by omega) (by omega)
  have hno : ∀ x ∈ (lineTxt k a b).data.toList, x.toNat ≠ 35 := by
    intro x hx
    unfold lineTxt at hx
    simp only [ByteArray.data_append, Array.toList_append, List.mem_append] at hx
    rcases hx with (((hx | hx) | hx) | hx) | hx
    · have := itoa_digit k hk.1 x hx; omega
    · simp at hx; subst hx; decide
    · exact (r1 x hx).2
    · simp at hx; subst hx; decide
    · exact (r3 x hx).2
  unfold impl_encodeRecord.f
  simp only [decimal_eq k (by omega) (by omega), Option.bind_some]
  refine ev_pos (by omega) (ev_pos (by omega) (ev_pos (by omega) (ev_pos (by omega) ?_)))
  refine Ev.bind (appendSum_ev (lineTxt k a b) (by omega) hno) ?_
  exact ev_pos (by simp only []; omega) (Ev.now _)

theorem ba_ext {a b : ByteArray} (h : a.data.toList = b.data.toList) : a = b := by
  apply ByteArray.ext
  exact Array.toList_inj.1 h
theorem toList_app (a b : ByteArray) : (a ++ b).data.toList = a.data.toList ++ b.data.toList := by
  rw [ByteArray.data_append, Array.toList_append]
theorem ba_app_cancel {a b c d : ByteArray} (h : a ++ b = c ++ d) (hs : a.size = c.size) : a = c ∧ b = d := by
  have e := congrArg (fun z => z.data.toList) h
  simp only [toList_app] at e
  have hl : a.data.toList.length = c.data.toList.length := by rw [Array.length_toList, Array.length_toList]; exact hs
  obtain ⟨e1, e2⟩ := List.append_inj e hl
  exact ⟨ba_ext e1, ba_ext e2⟩
theorem split_c {c : UInt8} : ∀ {x x' y y' : List UInt8}, (∀ z ∈ x, z ≠ c) → (∀ z ∈ x', z ≠ c) → x ++ c :: y = x' ++ c :: y' → x = x' ∧ y = y'
  | [], [], y, y', _, _, h => by simpa using h
  | [], b :: x', y, y', _, h', h => by
    simp only [List.nil_append, List.cons_append, List.cons.injEq] at h
    exact absurd h.1.symm (h' b (by simp))
  | a :: x, [], y, y', h0, _, h => by
    simp only [List.nil_append, List.cons_append, List.cons.injEq] at h
    exact absurd h.1 (h0 a (by simp))
  | a :: x, b :: x', y, y', h0, h', h => by
    simp only [List.cons_append, List.cons.injEq] at h
    obtain ⟨e1, e2⟩ := split_c (fun z hz => h0 z (by simp [hz])) (fun z hz => h' z (by simp [hz])) h.2
    exact ⟨by rw [h.1, e1], e2⟩
theorem lineTxt_list (k : Int) (a b : ByteArray) : (lineTxt k a b).data.toList = (itoaB k).data.toList ++ (32 :: (a.data.toList ++ (64 :: b.data.toList))) := by
  unfold lineTxt; simp [toList_app]
theorem sealB_list (s : ByteArray) : (sealB s).data.toList = s.data.toList ++ (35 :: (itoaB (sumL s.data.toList 7)).data.toList) := by
  unfold sealB; simp [toList_app]
theorem lineB_list (k : Int) (a b : ByteArray) : (lineB k a b).data.toList = (sealB (lineTxt k a b)).data.toList ++ [10] := by
  unfold lineB; simp [toList_app]
theorem ne_of_nat {x : UInt8} {c : UInt8} (h : x.toNat ≠ c.toNat) : x ≠ c := fun e => h (by rw [e])
theorem good_in {x : UInt8} (h : good x = true) : 32 ≤ x.toNat ∧ x.toNat ≤ 126 := by
  unfold good at h
  simpa using h
theorem lineTxt_mem {k : Int} (hk : 0 ≤ k) {a b : ByteArray} (h : recOk a b = true) : ∀ x ∈ (lineTxt k a b).data.toList, 32 ≤ x.toNat ∧ x.toNat ≤ 126 ∧ x.toNat ≠ 35 := by
  obtain ⟨h1, h2, h3, h4, h5, h6⟩ := (recOk_iff a b).1 h
  intro x hx
  rw [lineTxt_list] at hx
  simp only [List.mem_append, List.mem_cons] at hx
  rcases hx with hx | rfl | hx | rfl | hx
  · have := itoa_digit k hk x hx; omega
  · decide
  · have g := h2 x hx; have := good_in g.1; have := g.2; omega
  · decide
  · have g := h5 x hx; have := good_in g.1; have := g.2; omega
theorem seal_mem {k : Int} (hk : 0 ≤ k) {a b : ByteArray} (h : recOk a b = true) : ∀ x ∈ (sealB (lineTxt k a b)).data.toList, 32 ≤ x.toNat ∧ x.toNat ≤ 126 := by
  intro x hx
  rw [sealB_list] at hx
  simp only [List.mem_append, List.mem_cons] at hx
  rcases hx with hx | rfl | hx
  · have := lineTxt_mem hk h x hx; omega
  · decide
  · have := itoa_digit _ (sum7 (lineTxt k a b)).1 x hx; omega
theorem lineTxt_inj {k : Int} {a b a' b' : ByteArray} (h : recOk a b = true) (h' : recOk a' b' = true) (e : lineTxt k a b = lineTxt k a' b') : a = a' ∧ b = b' := by
  have e := congrArg (fun z => z.data.toList) e
  simp only [lineTxt_list] at e
  have e := List.append_cancel_left e
  simp only [List.cons.injEq, true_and] at e
  obtain ⟨_, _, _, h4, _⟩ := (recOk_iff a b).1 h
  obtain ⟨_, _, _, h4', _⟩ := (recOk_iff a' b').1 h'
  obtain ⟨e1, e2⟩ := split_c (c := 64) (fun z hz => ne_of_nat (c := 64) (h4 z hz)) (fun z hz => ne_of_nat (c := 64) (h4' z hz)) e
  exact ⟨ba_ext e1, ba_ext e2⟩
theorem seal_inj {s t : ByteArray} (hs : ∀ x ∈ s.data.toList, x.toNat ≠ 35) (ht : ∀ x ∈ t.data.toList, x.toNat ≠ 35) {r r' : List UInt8} (e : s.data.toList ++ 35 :: r = t.data.toList ++ 35 :: r') : s = t :=
  ba_ext (split_c (c := 35) (fun z hz => ne_of_nat (c := 35) (hs z hz)) (fun z hz => ne_of_nat (c := 35) (ht z hz)) e).1
/-- A text begins with the line of one record. -/
def OneRec (n : Nat) (s a b r : ByteArray) : Prop := recOk a b = true ∧ s = lineB n a b ++ r
theorem OneRec.unique {n : Nat} {s a b r a' b' r' : ByteArray} (h : OneRec n s a b r) (h' : OneRec n s a' b' r') : a = a' ∧ b = b' ∧ r = r' := by
  obtain ⟨h1, h2⟩ := h
  obtain ⟨h1', h2'⟩ := h'
  have e := congrArg (fun z => z.data.toList) (h2.symm.trans h2')
  simp only [toList_app, lineB_list, List.append_assoc, List.singleton_append] at e
  have hn : (0 : Int) ≤ (n : Int) := by omega
  obtain ⟨e1, e2⟩ := split_c (fun z hz => ne_of_nat (by have := seal_mem hn h1 z hz; have : (10 : UInt8).toNat = 10 := rfl; omega)) (fun z hz => ne_of_nat (by have := seal_mem hn h1' z hz; have : (10 : UInt8).toNat = 10 := rfl; omega)) e
  rw [sealB_list, sealB_list] at e1
  have e3 := seal_inj (fun x hx => (lineTxt_mem hn h1 x hx).2.2) (fun x hx => (lineTxt_mem hn h1' x hx).2.2) e1
  obtain ⟨e4, e5⟩ := lineTxt_inj h1 h1' e3
  exact ⟨e4, e5, ba_ext e2⟩
open Classical in
/-- The first record of a text, if there is one. -/
noncomputable def stepR (n : Nat) (s : ByteArray) : Option (ByteArray × ByteArray × ByteArray) := if h : ∃ q : ByteArray × ByteArray × ByteArray, OneRec n s q.1 q.2.1 q.2.2 then some h.choose else none
theorem stepR_some {n : Nat} {s a b r : ByteArray} (h : OneRec n s a b r) : stepR n s = some (a, b, r) := by
  unfold stepR
  have hx : ∃ q : ByteArray × ByteArray × ByteArray, OneRec n s q.1 q.2.1 q.2.2 := ⟨(a, b, r), h⟩
  rw [dif_pos hx]
  obtain ⟨e1, e2, e3⟩ := hx.choose_spec.unique h
  congr 1
  exact Prod.ext e1 (Prod.ext e2 e3)
theorem stepR_of {n : Nat} {s a b r : ByteArray} (h : stepR n s = some (a, b, r)) : OneRec n s a b r := by
  unfold stepR at h
  split at h
  · rename_i hx
    have := hx.choose_spec
    rw [Option.some.inj h] at this
    exact this
  · cases h
theorem stepR_none {n : Nat} {s : ByteArray} (h : stepR n s = none) (a b r : ByteArray) : ¬ OneRec n s a b r := fun hx => by rw [stepR_some hx] at h; cases h
theorem stepR_no {n : Nat} {s : ByteArray} (h : ∀ a b r, ¬ OneRec n s a b r) : stepR n s = none := by
  cases e : stepR n s with
  | none => rfl
  | some q => exact absurd (stepR_of (a := q.1) (b := q.2.1) (r := q.2.2) e) (h _ _ _)
/-- The records of a text, at most m of them, and what is left. -/
noncomputable def openL : Nat → Nat → ByteArray → List (ByteArray × ByteArray) × ByteArray
  | 0, _, s => ([], s)
  | m + 1, n, s => match stepR n s with
    | none => ([], s)
    | some (a, b, r) => ((a, b) :: (openL m (n + 1) r).1, (openL m (n + 1) r).2)
/-- The lines of records. -/
def txt : Nat → List (ByteArray × ByteArray) → ByteArray
  | _, [] => (⟨#[]⟩ : ByteArray)
  | n, p :: l => lineB n p.1 p.2 ++ txt (n + 1) l
theorem lineB_size {n : Nat} (hn : n ≤ 1000000) {a b : ByteArray} (h : recOk a b = true) : 1 ≤ (lineB n a b).size ∧ (lineB n a b).size ≤ 410 := by
  obtain ⟨h1, h2, h3, h4, h5, h6⟩ := (recOk_iff a b).1 h
  have sa := itoaB_size (n : Int) (by omega) (by omega)
  have sl := lineTxt_size (n : Int) a b
  have sx := sealB_size (lineTxt n a b)
  have h7 := sum7 (lineTxt n a b)
  have s7 := itoaB_size (sumL (lineTxt n a b).data.toList 7) (by omega) (by omega)
  have : (lineB n a b).size = (sealB (lineTxt n a b)).size + 1 := by unfold lineB; rw [ByteArray.size_append]; rfl
  omega
theorem ba_empty_app (s : ByteArray) : (⟨#[]⟩ : ByteArray) ++ s = s := ba_ext (by simp [toList_app])
theorem ba_app_empty (s : ByteArray) : s ++ (⟨#[]⟩ : ByteArray) = s := ba_ext (by simp [toList_app])
theorem ba_assoc (a b c : ByteArray) : (a ++ b) ++ c = a ++ (b ++ c) := ba_ext (by simp [toList_app])
theorem txt_app : ∀ (n : Nat) (l l' : List (ByteArray × ByteArray)), txt n (l ++ l') = txt n l ++ txt (n + l.length) l'
  | n, [], l' => by simp [txt, ba_empty_app]
  | n, p :: l, l' => by
    simp only [List.cons_append, txt, txt_app (n + 1) l l', List.length_cons, ba_assoc]
    rw [show n + 1 + l.length = n + (l.length + 1) by omega]
theorem openL_good : ∀ (m n : Nat) (s : ByteArray), (∀ p ∈ (openL m n s).1, recOk p.1 p.2 = true) ∧ s = txt n (openL m n s).1 ++ (openL m n s).2 ∧ (openL m n s).1.length ≤ m ∧ ((openL m n s).1.length = m ∨ stepR (n + (openL m n s).1.length) (openL m n s).2 = none)
  | 0, n, s => by simp [openL, txt, ba_empty_app]
  | m + 1, n, s => by
    simp only [openL]
    cases e : stepR n s with
    | none => simp [txt, ba_empty_app, e]
    | some q =>
      obtain ⟨a, b, r⟩ := q
      obtain ⟨h1, h2, h3, h4⟩ := openL_good m (n + 1) r
      obtain ⟨o1, o2⟩ := stepR_of e
      refine ⟨?_, ?_, ?_, ?_⟩
      · intro p hp
        rcases List.mem_cons.1 hp with rfl | hp
        · exact o1
        · exact h1 p hp
      · simp only [txt, ba_assoc]
        rw [← h2]; exact o2
      · simp only [List.length_cons]; omega
      · simp only [List.length_cons]
        rcases h4 with h4 | h4
        · left; omega
        · right; rw [show n + ((openL m (n + 1) r).1.length + 1) = n + 1 + (openL m (n + 1) r).1.length by omega]; exact h4
theorem openL_txt : ∀ (l : List (ByteArray × ByteArray)) (m n : Nat) (r : ByteArray), (∀ p ∈ l, recOk p.1 p.2 = true) → l.length ≤ m → openL m n (txt n l ++ r) = (l ++ (openL (m - l.length) (n + l.length) r).1, (openL (m - l.length) (n + l.length) r).2)
  | [], m, n, r, _, _ => by simp [txt, ba_empty_app]
  | p :: l, 0, n, r, _, h => by simp at h
  | p :: l, m + 1, n, r, hg, h => by
    have ho : OneRec n (txt n (p :: l) ++ r) p.1 p.2 (txt (n + 1) l ++ r) := ⟨hg p (by simp), by simp only [txt, ba_assoc]⟩
    have ih := openL_txt l m (n + 1) r (fun q hq => hg q (by simp [hq])) (by simpa using h)
    rw [openL, stepR_some ho]
    simp only [ih, List.length_cons, List.cons_append]
    rw [show m + 1 - (l.length + 1) = m - l.length by omega, show n + (l.length + 1) = n + 1 + l.length by omega]
theorem stepR_empty (n : Nat) : stepR n (⟨#[]⟩ : ByteArray) = none := stepR_no (fun a b r h => by
  have e := congrArg ByteArray.size h.2
  rw [ByteArray.size_append] at e
  have : (lineB n a b).size = (sealB (lineTxt n a b)).size + 1 := by unfold lineB; rw [ByteArray.size_append]; rfl
  have h0 : (⟨#[]⟩ : ByteArray).size = 0 := rfl
  omega)
theorem openL_empty : ∀ (m n : Nat), openL m n (⟨#[]⟩ : ByteArray) = ([], (⟨#[]⟩ : ByteArray))
  | 0, n => rfl
  | m + 1, n => by rw [openL, stepR_empty]
theorem txt_size : ∀ (l : List (ByteArray × ByteArray)) (n : Nat), n + l.length ≤ 1000000 → (∀ p ∈ l, recOk p.1 p.2 = true) → l.length ≤ (txt n l).size ∧ (txt n l).size ≤ 410 * l.length
  | [], n, _, _ => by simp [txt, ByteArray.size]
  | p :: l, n, h, hg => by
    simp only [List.length_cons] at h ⊢
    have h1 := txt_size l (n + 1) (by omega) (fun q hq => hg q (by simp [hq]))
    have h2 := lineB_size (n := n) (by omega) (hg p (by simp))
    simp only [txt, ByteArray.size_append]
    omega

theorem list_ba (l : List UInt8) : (⟨l.toArray⟩ : ByteArray).data.toList = l := by simp
theorem ba_eta (s : ByteArray) : (⟨s.data.toList.toArray⟩ : ByteArray) = s := ba_ext (list_ba _)
theorem ba_size (s : ByteArray) : s.size = s.data.toList.length := by rw [Array.length_toList]; rfl
theorem stepR_no10 {n : Nat} {s : ByteArray} (h : ∀ x ∈ s.data.toList, x ≠ 10) : stepR n s = none := stepR_no (fun a b r ho => by
  have e := congrArg (fun z => z.data.toList) ho.2
  simp only [toList_app, lineB_list] at e
  exact h 10 (by rw [e]; simp) rfl)
/-- q: a beginning of p, the last byte of which may have turned into another one that ends no line. -/
def Torn (p q : List UInt8) : Prop := (∃ k, q = p.take k) ∨ ∃ k x, k < p.length ∧ q = p.take k ++ [x] ∧ x ≠ 10
theorem seal_no10 {n : Nat} {a b : ByteArray} (h : recOk a b = true) : ∀ x ∈ (sealB (lineTxt n a b)).data.toList, x ≠ 10 := fun x hx => ne_of_nat (by
  have := seal_mem (by omega) h x hx
  have : (10 : UInt8).toNat = 10 := rfl
  omega)
theorem torn_open : ∀ (l : List (ByteArray × ByteArray)) (m n : Nat) (q : ByteArray), (∀ p ∈ l, recOk p.1 p.2 = true) → l.length ≤ m → Torn (txt n l).data.toList q.data.toList → ∃ j, j ≤ l.length ∧ (openL m n q).1 = l.take j
  | [], m, n, q, _, _, ht => by
    have e : q.data.toList = [] := by
      rcases ht with ⟨k, hk⟩ | ⟨k, x, hk, _⟩
      · simpa [txt] using hk
      · simp [txt] at hk
    have : q = (⟨#[]⟩ : ByteArray) := ba_ext (by rw [e])
    subst this
    exact ⟨0, Nat.le_refl _, by rw [openL_empty]; rfl⟩
  | p :: l, 0, n, q, _, h, _ => by simp at h
  | p :: l, m + 1, n, q, hg, h, ht => by
    have hp := hg p (by simp)
    have eP : (txt n (p :: l)).data.toList = (lineB n p.1 p.2).data.toList ++ (txt (n + 1) l).data.toList := by simp only [txt, toList_app]
    have eL := lineB_list n p.1 p.2
    have stop : (∀ x ∈ q.data.toList, x ≠ 10) → ∃ j, j ≤ (p :: l).length ∧ (openL (m + 1) n q).1 = (p :: l).take j := fun hno => ⟨0, Nat.zero_le _, by rw [openL, stepR_no10 hno]; rfl⟩
    have more : ∀ q' : List UInt8, q.data.toList = (lineB n p.1 p.2).data.toList ++ q' → Torn (txt (n + 1) l).data.toList q' → ∃ j, j ≤ (p :: l).length ∧ (openL (m + 1) n q).1 = (p :: l).take j := by
      intro q' e ht'
      obtain ⟨j, hj, ej⟩ := torn_open l m (n + 1) ⟨q'.toArray⟩ (fun z hz => hg z (by simp [hz])) (by simpa using h) (by rw [list_ba]; exact ht')
      have ho : OneRec n q p.1 p.2 ⟨q'.toArray⟩ := ⟨hp, ba_ext (by rw [toList_app, list_ba]; exact e)⟩
      exact ⟨j + 1, by simp only [List.length_cons]; omega, by rw [openL, stepR_some ho]; simp only [ej, List.take_succ_cons]⟩
    have short : ∀ k, k < (lineB n p.1 p.2).data.toList.length → ∀ x ∈ ((lineB n p.1 p.2).data.toList ++ (txt (n + 1) l).data.toList).take k, x ≠ 10 := by
      intro k hk x hx
      rw [List.take_append_of_le_length (by omega), eL] at hx
      rw [eL] at hk
      simp only [List.length_append, List.length_singleton] at hk
      rw [List.take_append_of_le_length (by omega)] at hx
      exact seal_no10 hp x (List.mem_of_mem_take hx)
    rcases ht with ⟨k, hk⟩ | ⟨k, x, hk, hq, hx⟩
    · rw [eP] at hk
      by_cases hc : k < (lineB n p.1 p.2).data.toList.length
      · exact stop (fun x hx => short k hc x (by rw [← hk]; exact hx))
      · refine more ((txt (n + 1) l).data.toList.take (k - (lineB n p.1 p.2).data.toList.length)) ?_ (Or.inl ⟨_, rfl⟩)
        rw [hk, List.take_append, List.take_of_length_le (by omega)]
    · rw [eP] at hq hk
      by_cases hc : k < (lineB n p.1 p.2).data.toList.length
      · refine stop (fun y hy => ?_)
        rw [hq] at hy
        rcases List.mem_append.1 hy with hy | hy
        · exact short k hc y hy
        · simp only [List.mem_singleton] at hy
          rw [hy]; exact hx
      · refine more ((txt (n + 1) l).data.toList.take (k - (lineB n p.1 p.2).data.toList.length) ++ [x]) ?_ (Or.inr ⟨k - (lineB n p.1 p.2).data.toList.length, x, ?_, rfl, hx⟩)
        · rw [hq, List.take_append, List.take_of_length_le (by omega), List.append_assoc]
        · rw [List.length_append] at hk; omega
/-- The places behind the records of a text. -/
def posL (l : List (ByteArray × ByteArray)) (x : Int) : Prop := ∃ j, j ≤ l.length ∧ x = ((txt 0 (l.take j)).size : Int)
/-- A log's records, both ways told. -/
def LogIs (D P : ByteArray) (c : Int) (l1 l2 : List (ByteArray × ByteArray)) : Prop := (∀ p ∈ l1 ++ l2, recOk p.1 p.2 = true) ∧ (l1 ++ l2).length ≤ 60 ∧ D = txt 0 l1 ∧ P = txt l1.length l2 ∧ c = ((l1 ++ l2).length : Int)
theorem ba_zero {s : ByteArray} (h : s.size = 0) : s = (⟨#[]⟩ : ByteArray) := ba_ext (by
  rw [ba_size] at h
  rw [List.length_eq_zero_iff.1 h])
theorem LogIs.open_all {D P : ByteArray} {c : Int} {l1 l2 : List (ByteArray × ByteArray)} (h : LogIs D P c l1 l2) : openL 60 0 (D ++ P) = (l1 ++ l2, (⟨#[]⟩ : ByteArray)) := by
  obtain ⟨h1, h2, rfl, rfl, _⟩ := h
  have e : txt 0 l1 ++ txt l1.length l2 = txt 0 (l1 ++ l2) ++ (⟨#[]⟩ : ByteArray) := by rw [ba_app_empty, txt_app, Nat.zero_add]
  rw [e, openL_txt (l1 ++ l2) 60 0 _ h1 h2, openL_empty]
  simp
theorem LogIs.open_D {D P : ByteArray} {c : Int} {l1 l2 : List (ByteArray × ByteArray)} (h : LogIs D P c l1 l2) : openL 60 0 D = (l1, (⟨#[]⟩ : ByteArray)) := by
  obtain ⟨h1, h2, rfl, _, _⟩ := h
  have e : txt 0 l1 = txt 0 l1 ++ (⟨#[]⟩ : ByteArray) := by rw [ba_app_empty]
  rw [e, openL_txt l1 60 0 _ (fun p hp => h1 p (by simp [hp])) (by simp at h2; omega), openL_empty]
  simp
theorem LogIs.pos {D P : ByteArray} {c : Int} {l1 l2 : List (ByteArray × ByteArray)} (h : LogIs D P c l1 l2) : posL (l1 ++ l2) D.size :=
  ⟨l1.length, by simp, by rw [List.take_left]; rw [h.2.2.1]⟩
theorem LogIs.small {D P : ByteArray} {c : Int} {l1 l2 : List (ByteArray × ByteArray)} (h : LogIs D P c l1 l2) : D.size + P.size ≤ 24600 := by
  have h1 := txt_size (l1 ++ l2) 0 (by have := h.2.1; omega) h.1
  have h2 := congrArg ByteArray.size (txt_app 0 l1 l2)
  rw [ByteArray.size_append, Nat.zero_add, ← h.2.2.1, ← h.2.2.2.1] at h2
  have := h.2.1
  omega
theorem logIs_of_pos {D P : ByteArray} {c : Int} (h1 : (openL 60 0 (D ++ P)).2.size = 0) (h2 : posL (openL 60 0 (D ++ P)).1 D.size) (h3 : c = ((openL 60 0 (D ++ P)).1.length : Int)) : ∃ l1 l2, LogIs D P c l1 l2 := by
  obtain ⟨g1, g2, g3, _⟩ := openL_good 60 0 (D ++ P)
  generalize (openL 60 0 (D ++ P)).1 = l at *
  generalize (openL 60 0 (D ++ P)).2 = r at *
  rw [ba_zero h1, ba_app_empty] at g2
  obtain ⟨j, hj, ej⟩ := h2
  have e := txt_app 0 (l.take j) (l.drop j)
  rw [List.take_append_drop, ← g2, Nat.zero_add] at e
  obtain ⟨e1, e2⟩ := ba_app_cancel e (by omega)
  refine ⟨l.take j, l.drop j, ?_, ?_, e1, e2, ?_⟩
  · rw [List.take_append_drop]; exact g1
  · rw [List.take_append_drop]; exact g3
  · rw [List.take_append_drop]; exact h3
theorem logIs_of_open {D P : ByteArray} {c : Int} (h1 : (openL 60 0 (D ++ P)).2.size = 0) (h2 : (openL 60 0 D).2.size = 0) (h3 : c = ((openL 60 0 (D ++ P)).1.length : Int)) : ∃ l1 l2, LogIs D P c l1 l2 := by
  refine logIs_of_pos h1 ?_ h3
  obtain ⟨g1, g2, g3, _⟩ := openL_good 60 0 D
  generalize (openL 60 0 D).1 = l at *
  generalize (openL 60 0 D).2 = r at *
  rw [ba_zero h2, ba_app_empty] at g2
  have e := openL_txt l 60 0 P g1 g3
  rw [← g2] at e
  refine ⟨l.length, by rw [e]; simp, ?_⟩
  rw [e, List.take_left, ← g2]
open Classical in
/-- Is it a log? -/
noncomputable def logOk (D P : ByteArray) (c : Int) : Bool := decide (∃ l1 l2, LogIs D P c l1 l2)
theorem logOk_iff (D P : ByteArray) (c : Int) : logOk D P c = true ↔ ∃ l1 l2, LogIs D P c l1 l2 := by unfold logOk; simp
theorem logOk_open (D P : ByteArray) (c : Int) : logOk D P c = (decide ((openL 60 0 (D ++ P)).2.size = 0) && decide ((openL 60 0 D).2.size = 0) && decide (c = ((openL 60 0 (D ++ P)).1.length : Int))) := by
  rw [Bool.eq_iff_iff, logOk_iff]
  simp only [Bool.and_eq_true, decide_eq_true_eq]
  constructor
  · rintro ⟨l1, l2, h⟩
    rw [h.open_all, h.open_D]
    exact ⟨⟨rfl, rfl⟩, h.2.2.2.2⟩
  · rintro ⟨⟨h1, h2⟩, h3⟩
    exact logIs_of_open h1 h2 h3
theorem logOk_pos (D P : ByteArray) (c : Int) : logOk D P c = true ↔ (openL 60 0 (D ++ P)).2.size = 0 ∧ posL (openL 60 0 (D ++ P)).1 D.size ∧ c = ((openL 60 0 (D ++ P)).1.length : Int) := by
  rw [logOk_iff]
  constructor
  · rintro ⟨l1, l2, h⟩
    have := h.pos
    rw [h.open_all]
    exact ⟨rfl, this, h.2.2.2.2⟩
  · rintro ⟨h1, h2, h3⟩
    exact logIs_of_pos h1 h2 h3
theorem LogIs.append {D P : ByteArray} {c : Int} {l1 l2 : List (ByteArray × ByteArray)} (h : LogIs D P c l1 l2) {a b : ByteArray} (hr : recOk a b = true) (hc : c < 60) : LogIs D (P ++ lineB c a b) (c + 1) l1 (l2 ++ [(a, b)]) := by
  obtain ⟨h1, h2, h3, h4, h5⟩ := h
  refine ⟨?_, ?_, h3, ?_, ?_⟩
  · intro p hp
    rw [← List.append_assoc, List.mem_append] at hp
    rcases hp with hp | hp
    · exact h1 p hp
    · simp only [List.mem_singleton] at hp; subst hp; exact hr
  · simp only [List.length_append, List.length_singleton] at h2 h5 ⊢; omega
  · rw [txt_app, ← h4, h5, List.length_append]
    simp only [txt, ba_app_empty]
  · simp only [List.length_append, List.length_singleton] at h5 ⊢; omega
theorem LogIs.sync {D P : ByteArray} {c : Int} {l1 l2 : List (ByteArray × ByteArray)} (h : LogIs D P c l1 l2) : LogIs (D ++ P) (⟨#[]⟩ : ByteArray) c (l1 ++ l2) [] := by
  obtain ⟨h1, h2, h3, h4, h5⟩ := h
  refine ⟨by simpa using h1, by simpa using h2, ?_, rfl, by simpa using h5⟩
  rw [txt_app, Nat.zero_add, ← h3, ← h4]

theorem idx_split (c : UInt8) : ∀ l : List UInt8, (∃ x y, l = x ++ c :: y ∧ (∀ z ∈ x, z ≠ c) ∧ Lib.indexByte l c = (x.length : Int)) ∨ ((∀ z ∈ l, z ≠ c) ∧ Lib.indexByte l c = -1)
  | [] => Or.inr ⟨by simp, rfl⟩
  | b :: l => by
    by_cases hb : b = c
    · subst hb
      exact Or.inl ⟨[], l, rfl, by simp, by simp [Lib.indexByte]⟩
    · have hb' : (b == c) = false := beq_eq_false_iff_ne.2 hb
      rcases idx_split c l with ⟨x, y, h1, h2, h3⟩ | ⟨h1, h2⟩
      · refine Or.inl ⟨b :: x, y, by rw [h1]; rfl, ?_, ?_⟩
        · intro z hz
          rcases List.mem_cons.1 hz with rfl | hz
          · exact hb
          · exact h2 z hz
        · have h4 : (((x.length : Nat) : Int) == -1) = false := beq_eq_false_iff_ne.2 (by omega)
          simp only [Lib.indexByte, hb', h3, h4, List.length_cons, Bool.false_eq_true, if_false]
          omega
      · refine Or.inr ⟨?_, ?_⟩
        · intro z hz
          rcases List.mem_cons.1 hz with rfl | hz
          · exact hb
          · exact h1 z hz
        · simp only [Lib.indexByte, hb', h2, Bool.false_eq_true, if_false, beq_self_eq_true, if_true]
theorem ex_list (s : ByteArray) (i j : Nat) (hj : j ≤ s.size) : (s.extract i j).data.toList = (s.data.toList.drop i).take (j - i) := by
  rw [ByteArray.data_extract, Array.toList_extract]
theorem ex_app_left (x y : ByteArray) (n : Nat) (hn : n = x.size) : (x ++ y).extract 0 n = x := by
  subst hn
  apply ba_ext
  rw [ex_list _ _ _ (by rw [ByteArray.size_append]; omega), toList_app, List.drop_zero, Nat.sub_zero, ba_size, List.take_left]
theorem ex_app_right (x y : ByteArray) (n : Nat) (hn : n = x.size) : (x ++ y).extract n (x ++ y).size = y := by
  subst hn
  apply ba_ext
  rw [ex_list _ _ _ (Nat.le_refl _), toList_app, ByteArray.size_append, ba_size x, List.drop_left, Nat.add_sub_cancel_left, ba_size y, List.take_length]
/-- A text cut at the first byte c. -/
theorem cut_at (x y : ByteArray) (c : UInt8) (hx : ∀ z ∈ x.data.toList, z ≠ c) (hs : x.size + y.size ≤ 1000000000) : strings_Cut.f ((x ++ (⟨#[c]⟩ : ByteArray)) ++ y) (⟨#[c]⟩ : ByteArray) = some (x, y, true) := by
  have hi : stringslite_Index.f ((x ++ (⟨#[c]⟩ : ByteArray)) ++ y) (⟨#[c]⟩ : ByteArray) = some (x.size : Int) := by
    unfold stringslite_Index.f
    rw [if_pos (show (⟨#[c]⟩ : ByteArray).data.size = 1 from rfl)]
    congr 1
    have e : ((x ++ (⟨#[c]⟩ : ByteArray)) ++ y).data.toList = x.data.toList ++ c :: y.data.toList := by simp only [toList_app, List.append_assoc, List.singleton_append]
    show Lib.indexByte _ c = _
    rw [e]
    rcases idx_split c (x.data.toList ++ c :: y.data.toList) with ⟨x', y', h1, h2, h3⟩ | ⟨h1, _⟩
    · rw [h3, ba_size, (split_c hx h2 h1).1]
    · exact absurd rfl (h1 c (by simp))
  have hz1 : (⟨#[c]⟩ : ByteArray).size = 1 := rfl
  have zs : ((x ++ (⟨#[c]⟩ : ByteArray)) ++ y).size = x.size + 1 + y.size := by rw [ByteArray.size_append, ByteArray.size_append, hz1]
  have e1 : ((x ++ (⟨#[c]⟩ : ByteArray)) ++ y).extract 0 x.size = x := by rw [ba_assoc]; exact ex_app_left x _ _ rfl
  have e2 : ((x ++ (⟨#[c]⟩ : ByteArray)) ++ y).extract (x.size + 1) ((x ++ (⟨#[c]⟩ : ByteArray)) ++ y).size = y := ex_app_right (x ++ (⟨#[c]⟩ : ByteArray)) y _ (by rw [ByteArray.size_append, hz1])
  have ew : wrap64 ((x.size : Int) + 1) = ((x.size + 1 : Nat) : Int) := by rw [wrap_in (by omega) (by omega)]; omega
  unfold strings_Cut.f stringslite_Cut.f
  rw [hi]
  simp only [Option.bind_some, hz1]
  rw [if_pos (by omega), if_pos (by omega), if_pos (by rw [zs]; omega)]
  rw [show ((1 : Nat) : Int) = 1 from rfl, ew, if_pos (by omega), if_pos (by rw [zs]; omega)]
  simp only [Int.toNat_natCast, e1, e2, Option.bind_some]
theorem cut_no (x : ByteArray) (c : UInt8) (hx : ∀ z ∈ x.data.toList, z ≠ c) : strings_Cut.f x (⟨#[c]⟩ : ByteArray) = some (x, (⟨#[]⟩ : ByteArray), false) := by
  have hi : stringslite_Index.f x (⟨#[c]⟩ : ByteArray) = some (-1) := by
    unfold stringslite_Index.f
    rw [if_pos (show (⟨#[c]⟩ : ByteArray).data.size = 1 from rfl)]
    congr 1
    show Lib.indexByte _ c = _
    rcases idx_split c x.data.toList with ⟨x', y', h1, h2, h3⟩ | ⟨_, h1⟩
    · exact absurd rfl (hx c (by rw [h1]; simp))
    · exact h1
  unfold strings_Cut.f stringslite_Cut.f
  rw [hi]
  simp only [Option.bind_some]
  rw [if_neg (by decide)]
  rfl
theorem ba_cases (s : ByteArray) (c : UInt8) : (∃ x y : ByteArray, s = (x ++ (⟨#[c]⟩ : ByteArray)) ++ y ∧ (∀ z ∈ x.data.toList, z ≠ c) ∧ s.size = x.size + 1 + y.size) ∨ (∀ z ∈ s.data.toList, z ≠ c) := by
  rcases idx_split c s.data.toList with ⟨x, y, h1, h2, _⟩ | ⟨h1, _⟩
  · have e : s = ((⟨x.toArray⟩ : ByteArray) ++ (⟨#[c]⟩ : ByteArray)) ++ (⟨y.toArray⟩ : ByteArray) := ba_ext (by simp only [toList_app, list_ba]; rw [h1]; simp)
    refine Or.inl ⟨⟨x.toArray⟩, ⟨y.toArray⟩, e, by rw [list_ba]; exact h2, ?_⟩
    rw [e, ByteArray.size_append, ByteArray.size_append]; rfl
  · exact Or.inr h1
theorem appendSum_gen (s : ByteArray) (hs : s.size ≤ 1100000) (hno : ∀ x ∈ s.data.toList, x ≠ 35) : ∃ q, Ev (fun n => impl_AppendChecksum.f n s) q := by
  have hno' : ∀ x ∈ s.data.toList, x.toNat ≠ 35 := fun x hx e => hno x hx (UInt8.toNat_inj.1 (by rw [e]; rfl))
  by_cases h4 : s.size ≤ 4000
  · have h7 := sum7 s
    have sa := itoaB_size (sumL s.data.toList 7) (by omega) (by omega)
    unfold impl_AppendChecksum.f
    by_cases h5 : ((s.size : Int) + 1) + ((itoaB (sumL s.data.toList 7)).size : Int) > 4000
    · refine ⟨((⟨#[]⟩ : ByteArray), false), Ev.bind (checksum_ev s h4) ?_⟩
      refine ev_pos (by omega) ?_
      rw [decimal_eq _ (by omega) (by omega)]
      simp only [Option.bind_some]
      refine ev_pos (by omega) (ev_pos (by first | exact trivial | rfl) ?_)
      rw [has35 s hno']
      simp only [Option.bind_some]
      exact ev_neg (by decide) (ev_pos h5 (Ev.now _))
    · refine ⟨((s ++ (⟨#[35]⟩ : ByteArray)) ++ itoaB (sumL s.data.toList 7), true), Ev.bind (checksum_ev s h4) ?_⟩
      refine ev_pos (by omega) ?_
      rw [decimal_eq _ (by omega) (by omega)]
      simp only [Option.bind_some]
      refine ev_pos (by omega) (ev_pos (by first | exact trivial | rfl) ?_)
      rw [has35 s hno']
      simp only [Option.bind_some]
      exact ev_neg (by decide) (ev_neg h5 (Ev.now _))
  · have sa := itoaB_size 0 (by omega) (by omega)
    refine ⟨((⟨#[]⟩ : ByteArray), false), ?_⟩
    unfold impl_AppendChecksum.f impl_Checksum.f
    simp only [if_pos (show (s.size : Int) > 4000 by omega), Option.bind_some]
    refine ev_pos (by omega) ?_
    rw [decimal_eq _ (by omega) (by omega)]
    simp only [Option.bind_some]
    exact ev_pos (by omega) (ev_neg (by decide) (Ev.now _))
theorem verify_gen (s : ByteArray) (hs : s.size ≤ 1100000) : ∃ t f, Ev (fun n => impl_VerifyChecksum.f n s) (t, f) ∧ t.size ≤ s.size := by
  have fin : ∀ (x : ByteArray), x.size ≤ s.size → (∀ z ∈ x.data.toList, z ≠ 35) → ∀ y f, strings_Cut.f s (⟨#[35]⟩ : ByteArray) = some (x, y, f) → ∃ t f, Ev (fun n => impl_VerifyChecksum.f n s) (t, f) ∧ t.size ≤ s.size := by
    intro x hx hno y f hc
    obtain ⟨q, hq⟩ := appendSum_gen x (by omega) hno
    unfold impl_VerifyChecksum.f
    rw [hc]
    simp only [Option.bind_some]
    by_cases h1 : q.2 = true
    · by_cases h2 : q.1.toList = s.toList
      · exact ⟨x, true, Ev.bind hq (ev_pos h1 (ev_pos h2 (Ev.now _))), hx⟩
      · exact ⟨(⟨#[]⟩ : ByteArray), false, Ev.bind hq (ev_pos h1 (ev_neg h2 (Ev.now _))), Nat.zero_le _⟩
    · exact ⟨(⟨#[]⟩ : ByteArray), false, Ev.bind hq (ev_neg h1 (Ev.now _)), Nat.zero_le _⟩
  rcases ba_cases s 35 with ⟨x, y, h1, h2, h3⟩ | h1
  · exact fin x (by omega) h2 y true (by rw [h1]; exact cut_at x y 35 h2 (by omega))
  · exact fin s (Nat.le_refl _) h1 _ false (cut_no s 35 h1)
theorem verify_at (T : ByteArray) (hT : T.size ≤ 3970) (hno : ∀ x ∈ T.data.toList, x.toNat ≠ 35) : Ev (fun n => impl_VerifyChecksum.f n (sealB T)) (T, true) := by
  have h7 := sum7 T
  have sa := itoaB_size (sumL T.data.toList 7) (by omega) (by omega)
  unfold impl_VerifyChecksum.f
  have hc : strings_Cut.f (sealB T) (⟨#[35]⟩ : ByteArray) = some (T, itoaB (sumL T.data.toList 7), true) := by
    unfold sealB
    exact cut_at T _ 35 (fun z hz => ne_of_nat (c := 35) (hno z hz)) (by omega)
  rw [hc]
  simp only [Option.bind_some]
  refine Ev.bind (appendSum_ev T hT hno) ?_
  exact ev_pos (by first | exact trivial | rfl) (ev_pos (by first | exact trivial | rfl) (Ev.now _))
theorem prefix_gen (s p : ByteArray) (hs : s.size ≤ 1000000000) (hp : p.size ≤ 1000000000) : ∃ u f, strings_CutPrefix.f s p = some (u, f) ∧ u.size ≤ s.size := by
  unfold strings_CutPrefix.f stringslite_CutPrefix.f stringslite_HasPrefix.f
  by_cases h1 : (s.size : Int) ≥ (p.size : Int)
  · rw [if_pos h1, if_pos (by omega), if_pos (by omega)]
    simp only [Option.bind_some]
    cases h2 : ((s.extract 0 ((p.size : Int) : Int).toNat).toList == p.toList) with
    | true =>
      rw [if_pos rfl, if_pos (by omega), if_pos (by omega)]
      exact ⟨_, true, rfl, by rw [ByteArray.size_extract]; omega⟩
    | false =>
      rw [if_neg (by decide)]
      exact ⟨s, false, rfl, Nat.le_refl _⟩
  · rw [if_neg h1]
    simp only [Option.bind_some]
    rw [if_neg (by decide)]
    exact ⟨s, false, rfl, Nat.le_refl _⟩
theorem prefix_at (p u : ByteArray) (hs : p.size + u.size ≤ 1000000000) : strings_CutPrefix.f (p ++ u) p = some (u, true) := by
  unfold strings_CutPrefix.f stringslite_CutPrefix.f stringslite_HasPrefix.f
  have zs : (p ++ u).size = p.size + u.size := ByteArray.size_append
  rw [if_pos (by rw [zs]; omega), if_pos (by omega), if_pos (by rw [zs]; omega)]
  simp only [Option.bind_some, Int.toNat_natCast, ex_app_left p u p.size rfl, beq_self_eq_true, if_true]
  rw [if_pos (by omega), if_pos (by rw [zs]; omega)]
  simp only [Option.bind_some, ex_app_right p u p.size rfl]
theorem cut_gen (s : ByteArray) (c : UInt8) (hs : s.size ≤ 1000000000) : ∃ a b f, strings_Cut.f s (⟨#[c]⟩ : ByteArray) = some (a, b, f) ∧ a.size ≤ s.size ∧ b.size ≤ s.size ∧ (f = true → s = (a ++ (⟨#[c]⟩ : ByteArray)) ++ b) := by
  rcases ba_cases s c with ⟨x, y, h1, h2, h3⟩ | h1
  · exact ⟨x, y, true, by rw [h1]; exact cut_at x y c h2 (by omega), by omega, by omega, fun _ => h1⟩
  · exact ⟨s, _, false, cut_no s c h1, Nat.le_refl _, Nat.zero_le _, fun h => by cases h⟩
noncomputable def readQ (n : Nat) (s : ByteArray) : ByteArray × ByteArray × ByteArray × Bool := match stepR n s with
  | some (a, b, r) => (a, b, r, true)
  | none => ((⟨#[]⟩ : ByteArray), (⟨#[]⟩ : ByteArray), s, false)
theorem toList_loop (a : ByteArray) : ∀ (m i : Nat) (r : List UInt8), m + i = a.size → ByteArray.toList.loop a i r = r.reverse ++ a.data.toList.drop i
  | 0, i, r, h => by
    rw [ByteArray.toList.loop, if_neg (by omega), List.drop_of_length_le (by rw [← ba_size]; omega), List.append_nil]
  | m + 1, i, r, h => by
    rw [ByteArray.toList.loop, if_pos (by omega), toList_loop a m (i + 1) _ (by omega), List.reverse_cons, List.append_assoc, List.singleton_append]
    have hl : i < a.data.toList.length := by rw [← ba_size]; omega
    rw [List.drop_eq_getElem_cons hl]
    congr 2
    have hs : i < a.size := by omega
    show a.get! i = _
    unfold ByteArray.get!
    simp
    rw [Array.getElem!_eq_getD, Array.getD_eq_getD_getElem?, Array.getElem?_eq_getElem (by exact hs)]
    rfl
theorem toList_data (a : ByteArray) : a.toList = a.data.toList := by
  unfold ByteArray.toList
  rw [toList_loop a a.size 0 [] rfl]
  rfl
theorem ba_toList_inj {a b : ByteArray} (h : a.toList = b.toList) : a = b := by
  apply ba_ext
  rw [← toList_data a, ← toList_data b]
  exact h
theorem implRead_ev (n : Nat) (hn : n ≤ 1000) (s : ByteArray) (hs : s.size ≤ 1048576) : Ev (fun k => impl_readRecord.f k n s) (readQ n s) := by
  have hni : (0 : Int) ≤ (n : Int) ∧ (n : Int) ≤ 1000000 := by omega
  have sn := itoaB_size (n : Int) (by omega) (by omega)
  unfold impl_readRecord.f
  cases hq : stepR n s with
  | some q =>
    obtain ⟨a, b, r⟩ := q
    have ho := stepR_of hq
    have e : readQ n s = (a, b, r, true) := by unfold readQ; rw [hq]
    rw [e]
    obtain ⟨h1, h2⟩ := ho
    have h1' := (recOk_iff a b).1 h1
    obtain ⟨_, _, ha, _, _, hb⟩ := h1'
    have sl := lineTxt_size (n : Int) a b
    have sz : s.size = (sealB (lineTxt n a b)).size + 1 + r.size := by rw [h2, ByteArray.size_append]; unfold lineB; rw [ByteArray.size_append]; rfl
    have hm := lineTxt_mem hni.1 h1
    have c1 : strings_Cut.f s (⟨#[10]⟩ : ByteArray) = some (sealB (lineTxt n a b), r, true) := by
      rw [h2]; unfold lineB
      exact cut_at _ r 10 (seal_no10 h1) (by omega)
    have c2 := verify_at (lineTxt n a b) (by omega) (fun x hx => (hm x hx).2.2)
    have c3 : strings_CutPrefix.f (lineTxt n a b) (itoaB n ++ (⟨#[32]⟩ : ByteArray)) = some ((a ++ (⟨#[64]⟩ : ByteArray)) ++ b, true) := by
      have e : lineTxt n a b = (itoaB n ++ (⟨#[32]⟩ : ByteArray)) ++ ((a ++ (⟨#[64]⟩ : ByteArray)) ++ b) := by unfold lineTxt; simp only [ba_assoc]
      rw [e]
      have hz1 : (⟨#[32]⟩ : ByteArray).size = 1 := rfl
      have hz2 : (⟨#[64]⟩ : ByteArray).size = 1 := rfl
      exact prefix_at _ _ (by simp only [ByteArray.size_append, hz1, hz2]; omega)
    have c4 : strings_Cut.f ((a ++ (⟨#[64]⟩ : ByteArray)) ++ b) (⟨#[64]⟩ : ByteArray) = some (a, b, true) := cut_at a b 64 (fun z hz => ne_of_nat (c := 64) (((recOk_iff a b).1 h1).2.2.2.1 z hz)) (by omega)
    have c5 := isRecord_ev a b (by omega) (by omega)
    rw [h1] at c5
    have c6 := implLine_ev n hni a b h1
    rw [c1]
    simp only [Option.bind_some]
    refine Ev.bind c2 ?_
    rw [decimal_eq n (by omega) (by omega)]
    simp only [Option.bind_some]
    refine ev_pos (by omega) ?_
    rw [c3]
    simp only [Option.bind_some, c4]
    refine ev_pos (by first | exact trivial | rfl) (ev_pos (by first | exact trivial | rfl) (ev_pos (by first | exact trivial | rfl) (ev_pos (by first | exact trivial | rfl) ?_)))
    refine Ev.bind c5 ?_
    refine ev_pos (by first | exact trivial | rfl) ?_
    refine Ev.bind c6 ?_
    refine ev_pos (by omega) (ev_pos (by first | exact trivial | rfl) ?_)
    exact Ev.now _
  | none =>
    have e : readQ n s = ((⟨#[]⟩ : ByteArray), (⟨#[]⟩ : ByteArray), s, false) := by unfold readQ; rw [hq]
    rw [e]
    obtain ⟨l, rest, f1, c1, s1, s2, d1⟩ := cut_gen s 10 (by omega)
    obtain ⟨t, f2, c2, s3⟩ := verify_gen l (by omega)
    obtain ⟨u, f3, c3, s4⟩ := prefix_gen t (itoaB n ++ (⟨#[32]⟩ : ByteArray)) (by omega) (by rw [ByteArray.size_append]; have : (⟨#[32]⟩ : ByteArray).size = 1 := rfl; omega)
    obtain ⟨a, b, f4, c4, s5, s6, d4⟩ := cut_gen u 64 (by omega)
    have c5 := isRecord_ev a b (by omega) (by omega)
    rw [c1]
    simp only [Option.bind_some]
    refine Ev.bind c2 ?_
    rw [decimal_eq n (by omega) (by omega)]
    simp only [Option.bind_some]
    refine ev_pos (by omega) ?_
    rw [c3]
    simp only [Option.bind_some, c4]
    by_cases g1 : f1 = true
    · refine ev_pos g1 ?_
      by_cases g2 : f2 = true
      · refine ev_pos g2 ?_
        by_cases g3 : f3 = true
        · refine ev_pos g3 ?_
          by_cases g4 : f4 = true
          · refine ev_pos g4 ?_
            refine Ev.bind c5 ?_
            by_cases g5 : recOk a b = true
            · refine ev_pos g5 ?_
              refine Ev.bind (implLine_ev n hni a b g5) ?_
              refine ev_pos (by omega) ?_
              refine ev_neg ?_ (Ev.now _)
              intro g6
              refine stepR_none hq a b rest ⟨g5, ?_⟩
              rw [ba_toList_inj g6]
              exact d1 g1
            · exact ev_neg g5 (Ev.now _)
          · exact ev_neg g4 (Ev.now _)
        · exact ev_neg g3 (Ev.now _)
      · exact ev_neg g2 (Ev.now _)
    · exact ev_neg g1 (Ev.now _)

theorem ex_len (s : ByteArray) (i j : Nat) (hj : j ≤ s.size) : (s.extract i j).size = j - i := by
  rw [ByteArray.size_extract]; omega
theorem split_l0 (s : ByteArray) (hs : s.size ≤ 1048576) (c : UInt8) (ci : Int) (hc : ci = (c.toNat : Int)) : ∀ (rest : List UInt8) (i : Nat), i ≤ s.data.toList.length → s.data.toList.drop i = rest → ∀ (out : List ByteArray) (fr : Nat), fr ≤ i → out.length ≤ i →
    ∃ q qs, Ev (fun k => spec_l1Split.l0 k s ci out fr i) (out ++ q :: qs) ∧ ((∀ z ∈ rest, z ≠ c) → q = s.extract fr s.size ∧ qs = []) ∧ (∀ x y, rest = x ++ c :: y → (∀ z ∈ x, z ≠ c) → q = s.extract fr (i + x.length) ∧ qs ≠ []) := by
  refine list_ind s.data.toList _ ?_ ?_
  · intro out fr hf ho
    have hz : s.data.toList.length = s.size := (ba_size s).symm
    refine ⟨s.extract fr s.size, [], ?_, fun _ => ⟨rfl, rfl⟩, fun x y h => by simp at h⟩
    refine Ev.step (fun k => by simp only [spec_l1Split.l0]; rfl) ?_
    refine ev_neg (by omega) (ev_pos (by omega) (ev_pos (by omega) (ev_pos (by omega) ?_)))
    rw [Int.toNat_natCast]
    exact Ev.now _
  · intro i b rest hi hd ih out fr hf ho
    obtain ⟨h1, h2, _⟩ := drop_at hd
    by_cases hb : b = c
    · subst hb
      obtain ⟨q, qs, e1, e2, e3⟩ := ih (out ++ [s.extract fr i]) (i + 1) (Nat.le_refl _) (by rw [List.length_append, List.length_singleton]; omega)
      refine ⟨s.extract fr i, q :: qs, ?_, fun h => absurd rfl (h b (by simp)), ?_⟩
      · refine Ev.step (fun k => by simp only [spec_l1Split.l0, h2]; rfl) ?_
        refine ev_pos (by omega) (ev_pos (by omega) (ev_pos hc.symm (ev_pos (by omega) (ev_pos (by omega) (ev_pos (by omega) (ev_pos (by omega) ?_))))))
        rw [wrap_in (show -9223372036854775808 ≤ (i : Int) + 1 by omega) (by omega), Int.toNat_natCast, Int.toNat_natCast]
        have e : out ++ s.extract fr i :: q :: qs = out ++ [s.extract fr i] ++ q :: qs := by simp
        rw [e]
        exact e1
      · intro x y hx hno
        cases x with
        | nil => exact ⟨rfl, by simp⟩
        | cons z x =>
          simp only [List.cons_append, List.cons.injEq] at hx
          exact absurd hx.1.symm (hno z (by simp))
    · obtain ⟨q, qs, e1, e2, e3⟩ := ih out fr (by omega) (by omega)
      refine ⟨q, qs, ?_, fun h => e2 (fun z hz => h z (by simp [hz])), ?_⟩
      · have hne : ¬ (b.toNat : Int) = ci := fun e => hb (UInt8.toNat_inj.1 (by omega))
        refine Ev.step (fun k => by simp only [spec_l1Split.l0, h2]; rfl) ?_
        refine ev_pos (by omega) (ev_pos (by omega) (ev_neg hne ?_))
        rw [wrap_in (show -9223372036854775808 ≤ (i : Int) + 1 by omega) (by omega)]
        exact e1
      · intro x y hx hno
        cases x with
        | nil =>
          simp only [List.nil_append, List.cons.injEq] at hx
          exact absurd hx.1 hb
        | cons z x =>
          simp only [List.cons_append, List.cons.injEq] at hx
          obtain ⟨g1, g2⟩ := e3 x y hx.2 (fun w hw => hno w (by simp [hw]))
          refine ⟨?_, g2⟩
          rw [g1, List.length_cons, show i + 1 + x.length = i + (x.length + 1) by omega]
/-- A text split at a byte: its first piece, and whether there are more. -/
theorem split_ev (s : ByteArray) (hs : s.size ≤ 1048576) (c : UInt8) (ci : Int) (hc : ci = (c.toNat : Int)) : ∃ ps, Ev (fun k => spec_l1Split.f k s ci) ps ∧ 1 ≤ ps.length ∧
    ((∃ x y : ByteArray, s = (x ++ (⟨#[c]⟩ : ByteArray)) ++ y ∧ (∀ z ∈ x.data.toList, z ≠ c) ∧ s.size = x.size + 1 + y.size ∧ rdOf ByteArray.empty ps 0 = x ∧ 2 ≤ ps.length) ∨
      ((∀ z ∈ s.data.toList, z ≠ c) ∧ rdOf ByteArray.empty ps 0 = s ∧ ps.length = 1)) := by
  obtain ⟨q, qs, e1, e2, e3⟩ := split_l0 s hs c ci hc s.data.toList 0 (Nat.zero_le _) rfl [] 0 (Nat.le_refl _) (Nat.le_refl _)
  refine ⟨q :: qs, e1, by simp, ?_⟩
  rcases ba_cases s c with ⟨x, y, h1, h2, h3⟩ | h1
  · left
    obtain ⟨g1, g2⟩ := e3 x.data.toList y.data.toList (by rw [h1]; simp only [toList_app, List.append_assoc, List.singleton_append]) h2
    refine ⟨x, y, h1, h2, h3, ?_, ?_⟩
    · show q = x
      rw [g1, Nat.zero_add, ← ba_size, h1, ba_assoc]
      exact ex_app_left x _ _ rfl
    · cases qs with
      | nil => exact absurd rfl g2
      | cons z zs => simp
  · right
    obtain ⟨g1, g2⟩ := e2 h1
    subst g2
    refine ⟨h1, ?_, rfl⟩
    show q = s
    rw [g1]
    have := ex_app_left s (⟨#[]⟩ : ByteArray) s.size rfl
    rwa [ba_app_empty] at this
theorem split_one {s : ByteArray} {c : UInt8} {x y : ByteArray} (h : s = (x ++ (⟨#[c]⟩ : ByteArray)) ++ y) (hx : ∀ z ∈ x.data.toList, z ≠ c) {x' y' : ByteArray} (h' : s = (x' ++ (⟨#[c]⟩ : ByteArray)) ++ y') (hx' : ∀ z ∈ x'.data.toList, z ≠ c) : x = x' ∧ y = y' := by
  have e := congrArg (fun z => z.data.toList) (h.symm.trans h')
  simp only [toList_app, List.append_assoc, List.singleton_append] at e
  obtain ⟨e1, e2⟩ := split_c hx hx' e
  exact ⟨ba_ext e1, ba_ext e2⟩
theorem no_byte {s : ByteArray} {c : UInt8} {x y : ByteArray} (h : s = (x ++ (⟨#[c]⟩ : ByteArray)) ++ y) : ¬ ∀ z ∈ s.data.toList, z ≠ c := fun hno => hno c (by rw [h]; simp [toList_app]) rfl
theorem read_j0t (n : Nat) (l ah tx : ByteArray) : Ev (fun k => spec_l27Read.j0 k l n ah tx true) ((⟨#[]⟩ : ByteArray), (⟨#[]⟩ : ByteArray), false) := by
  refine Ev.step (fun k => by simp only [spec_l27Read.j0]; rfl) ?_
  simp only [if_true]; exact Ev.now _
theorem specRead_yes (n : Nat) (hn : n ≤ 1000) (a b : ByteArray) (h1 : recOk a b = true) : Ev (fun k => spec_l27Read.f k (sealB (lineTxt n a b)) n) (a, b, true) := by
  have hni : (0 : Int) ≤ (n : Int) ∧ (n : Int) ≤ 1000000 := by omega
  have sn := itoaB_size (n : Int) (by omega) (by omega)
  obtain ⟨_, _, ha, h64, _, hb⟩ := (recOk_iff a b).1 h1
  have sl := lineTxt_size (n : Int) a b
  have sx := sealB_size (lineTxt n a b)
  have h7 := sum7 (lineTxt n a b)
  have s7 := itoaB_size (sumL (lineTxt n a b).data.toList 7) (by omega) (by omega)
  have hm := lineTxt_mem hni.1 h1
  have q32 : (⟨#[32]⟩ : ByteArray).size = 1 := rfl
  have q64 : (⟨#[64]⟩ : ByteArray).size = 1 := rfl
  have q10 : (⟨#[10]⟩ : ByteArray).size = 1 := rfl
  have e0 : sealB (lineTxt n a b) = (lineTxt n a b ++ (⟨#[35]⟩ : ByteArray)) ++ itoaB (sumL (lineTxt n a b).data.toList 7) := rfl
  have e1 : lineTxt n a b = (itoaB n ++ (⟨#[32]⟩ : ByteArray)) ++ ((a ++ (⟨#[64]⟩ : ByteArray)) ++ b) := by unfold lineTxt; simp only [ba_assoc]
  have za : (itoaB n ++ (⟨#[32]⟩ : ByteArray)).size = (itoaB n).size + 1 := by rw [ByteArray.size_append, q32]
  have zr : ((a ++ (⟨#[64]⟩ : ByteArray)) ++ b).size = a.size + 1 + b.size := by rw [ByteArray.size_append, ByteArray.size_append, q64]
  obtain ⟨ps, p1, p2, p3⟩ := split_ev (sealB (lineTxt n a b)) (by omega) 35 35 rfl
  have p0 : rdOf ByteArray.empty ps 0 = lineTxt n a b := by
    rcases p3 with ⟨x, y, g1, g2, _, g3, _⟩ | ⟨g1, _⟩
    · rw [g3]; exact (split_one g1 g2 e0 (fun z hz => ne_of_nat (c := 35) (hm z hz).2.2)).1
    · exact absurd g1 (no_byte e0)
  obtain ⟨qs, q1, q2, q3⟩ := split_ev ((a ++ (⟨#[64]⟩ : ByteArray)) ++ b) (by omega) 64 64 rfl
  have q0 : rdOf ByteArray.empty qs 0 = a := by
    rcases q3 with ⟨x, y, g1, g2, _, g3, _⟩ | ⟨g1, _⟩
    · rw [g3]; exact (split_one g1 g2 rfl (fun z hz => ne_of_nat (c := 64) (h64 z hz))).1
    · exact absurd g1 (no_byte rfl)
  have x1 : (lineTxt n a b).extract (itoaB n ++ (⟨#[32]⟩ : ByteArray)).size (lineTxt n a b).size = (a ++ (⟨#[64]⟩ : ByteArray)) ++ b := by rw [e1]; exact ex_app_right _ _ _ rfl
  have x2 : ((a ++ (⟨#[64]⟩ : ByteArray)) ++ b).extract (a.size + 1) ((a ++ (⟨#[64]⟩ : ByteArray)) ++ b).size = b := ex_app_right (a ++ (⟨#[64]⟩ : ByteArray)) b _ (by rw [ByteArray.size_append, q64])
  have x3 : (lineTxt n a b).extract 0 ((itoaB n).size + 1) = itoaB n ++ (⟨#[32]⟩ : ByteArray) := by rw [e1]; exact ex_app_left _ _ _ za.symm
  have hg := good_ev a b (by omega) (by omega)
  rw [h1] at hg
  have hl := specLine_ev n hni a b (by omega) (by omega)
  unfold spec_l27Read.f
  refine Ev.bind (num_ev n (by omega) (by omega)) ?_
  refine ev_pos (by omega) ?_
  refine Ev.bind p1 ?_
  rw [p0]
  refine ev_pos (by omega) (ev_neg (by omega) (ev_pos (by omega) (ev_pos (by omega) ?_)))
  rw [show (((itoaB n).size : Int) + 1).toNat = (itoaB n).size + 1 by omega, x3]
  simp only [bne_self_eq_false]
  refine Ev.step (fun k => by simp only [spec_l27Read.j0]; rfl) ?_
  refine ev_neg (by decide) (ev_pos (by omega) (ev_pos (by omega) ?_))
  simp only [Int.toNat_natCast, x1]
  refine Ev.bind q1 ?_
  rw [q0]
  refine ev_pos (by omega) (ev_neg (by omega) ?_)
  rw [wrap_in (show -9223372036854775808 ≤ (a.size : Int) + 1 by omega) (by omega), show (a.size : Int) + 1 = ((a.size + 1 : Nat) : Int) by omega]
  refine ev_pos (by omega) (ev_pos (by omega) ?_)
  simp only [Int.toNat_natCast, x2]
  refine Ev.bind hg ?_
  refine ev_pos rfl ?_
  refine Ev.bind hl ?_
  refine ev_pos (by omega) ?_
  have e : (((lineB n a b).toList == (sealB (lineTxt n a b) ++ (⟨#[10]⟩ : ByteArray)).toList)) = true := by
    unfold lineB; exact beq_self_eq_true _
  rw [e]
  exact Ev.now _
theorem specRead_no (n : Nat) (hn : n ≤ 1000) (l : ByteArray) (hs : l.size ≤ 1048576) (hno : ∀ a b, recOk a b = true → l ≠ sealB (lineTxt n a b)) : ∃ a b, Ev (fun k => spec_l27Read.f k l n) (a, b, false) := by
  have hni : (0 : Int) ≤ (n : Int) ∧ (n : Int) ≤ 1000000 := by omega
  have sn := itoaB_size (n : Int) (by omega) (by omega)
  have q32 : (⟨#[32]⟩ : ByteArray).size = 1 := rfl
  have za : (itoaB n ++ (⟨#[32]⟩ : ByteArray)).size = (itoaB n).size + 1 := by rw [ByteArray.size_append, q32]
  obtain ⟨ps, p1, p2, p3⟩ := split_ev l hs 35 35 rfl
  obtain ⟨tx, htx⟩ : ∃ tx, rdOf ByteArray.empty ps 0 = tx := ⟨_, rfl⟩
  have hz : tx.size ≤ l.size := by
    rcases p3 with ⟨x, y, g1, g2, g4, g3, _⟩ | ⟨_, g3, _⟩
    · rw [← htx, g3]; omega
    · rw [← htx, g3]; exact Nat.le_refl _
  have start : ∀ q, (tx.size < (itoaB n).size + 1 → q = ((⟨#[]⟩ : ByteArray), (⟨#[]⟩ : ByteArray), false)) → (¬ tx.size < (itoaB n).size + 1 → Ev (fun k => spec_l27Read.j0 k l n (itoaB n ++ (⟨#[32]⟩ : ByteArray)) tx ((tx.extract 0 ((itoaB n).size + 1)).toList != (itoaB n ++ (⟨#[32]⟩ : ByteArray)).toList)) q) → Ev (fun k => spec_l27Read.f k l n) q := by
    intro q hq1 hq2
    unfold spec_l27Read.f
    refine Ev.bind (num_ev n (by omega) (by omega)) ?_
    refine ev_pos (by omega) ?_
    refine Ev.bind p1 ?_
    rw [htx]
    refine ev_pos (by omega) ?_
    by_cases h : tx.size < (itoaB n).size + 1
    · refine ev_pos (by omega) ?_
      rw [hq1 h]
      exact read_j0t n l _ _
    · refine ev_neg (by omega) (ev_pos (by omega) (ev_pos (by omega) ?_))
      rw [show (((itoaB n).size : Int) + 1).toNat = (itoaB n).size + 1 by omega]
      exact hq2 h
  by_cases h : tx.size < (itoaB n).size + 1
  · exact ⟨_, _, start _ (fun _ => rfl) (fun h2 => absurd h h2)⟩
  · cases hb : ((tx.extract 0 ((itoaB n).size + 1)).toList != (itoaB n ++ (⟨#[32]⟩ : ByteArray)).toList) with
    | true => exact ⟨_, _, start _ (fun h2 => absurd h2 h) (fun _ => by rw [hb]; exact read_j0t n l _ _)⟩
    | false =>
      obtain ⟨rs, hrs⟩ : ∃ rs, tx.extract (itoaB n ++ (⟨#[32]⟩ : ByteArray)).size tx.size = rs := ⟨_, rfl⟩
      have hrz : rs.size ≤ tx.size := by rw [← hrs, ByteArray.size_extract]; omega
      obtain ⟨qs, q1, q2, q3⟩ := split_ev rs (by omega) 64 64 rfl
      have go : ∀ q, Ev (fun k => spec_l27Read.j0 k l n (itoaB n ++ (⟨#[32]⟩ : ByteArray)) tx false) q → Ev (fun k => spec_l27Read.f k l n) q := fun q hq => start q (fun h2 => absurd h2 h) (fun _ => by rw [hb]; exact hq)
      rcases q3 with ⟨x, y, g1, g2, g4, g3, _⟩ | ⟨_, g3, _⟩
      · have q64 : (⟨#[64]⟩ : ByteArray).size = 1 := rfl
        have x2 : rs.extract (x.size + 1) rs.size = y := by rw [g1]; exact ex_app_right (x ++ (⟨#[64]⟩ : ByteArray)) y _ (by rw [ByteArray.size_append, q64])
        have w1 : wrap64 ((x.size : Int) + 1) = ((x.size + 1 : Nat) : Int) := by rw [wrap_in (by omega) (by omega)]; omega
        refine ⟨x, y, go _ ?_⟩
        refine Ev.step (fun k => by simp only [spec_l27Read.j0]; rfl) ?_
        refine ev_neg (by decide) (ev_pos (by clear w1; omega) (ev_pos (by clear w1; omega) ?_))
        simp only [Int.toNat_natCast, hrs]
        refine Ev.bind q1 ?_
        rw [g3]
        refine ev_pos (by clear w1; omega) (ev_neg (by clear w1; omega) ?_)
        rw [w1]
        refine ev_pos (by clear w1; omega) (ev_pos (by clear w1; omega) ?_)
        simp only [Int.toNat_natCast, x2]
        refine Ev.bind (good_ev x y (by clear w1; omega) (by clear w1; omega)) ?_
        by_cases g5 : recOk x y = true
        · obtain ⟨_, _, hx, _, _, hy⟩ := (recOk_iff x y).1 g5
          refine ev_pos g5 ?_
          refine Ev.bind (specLine_ev n hni x y (by clear w1; omega) (by clear w1; omega)) ?_
          refine ev_pos (by clear w1; omega) ?_
          have e : (((lineB n x y).toList == (l ++ (⟨#[10]⟩ : ByteArray)).toList)) = false := by
            rw [beq_eq_false_iff_ne]
            intro e
            have e2 := ba_toList_inj e
            unfold lineB at e2
            refine hno x y g5 ?_
            have e3 := congrArg ByteArray.size e2
            rw [ByteArray.size_append, ByteArray.size_append] at e3
            exact (ba_app_cancel e2 (by clear w1; omega)).1.symm
          rw [e]
          exact Ev.now _
        · exact ev_neg g5 (Ev.now _)
      · refine ⟨_, _, go ((⟨#[]⟩ : ByteArray), (⟨#[]⟩ : ByteArray), false) ?_⟩
        refine Ev.step (fun k => by simp only [spec_l27Read.j0]; rfl) ?_
        refine ev_neg (by decide) (ev_pos (by omega) (ev_pos (by omega) ?_))
        simp only [Int.toNat_natCast, hrs]
        refine Ev.bind q1 ?_
        rw [g3]
        exact ev_pos (by omega) (ev_pos (by omega) (Ev.now _))
def toR (p : ByteArray × ByteArray) : S27 := ⟨p.1, p.2⟩
theorem stop_j1 (s : ByteArray) (out : List S27) (at_ : Int) : Ev (fun k => spec_l27Open.j1 k s out at_ false) (out, at_) := by
  refine Ev.step (fun k => by simp only [spec_l27Open.j1]; rfl) ?_
  exact ev_neg (by decide) (Ev.now _)
theorem specOpen_l0 : ∀ (m n : Nat), m + n = 60 → ∀ (s pre rest : ByteArray) (out : List S27), s = pre ++ rest → s.size ≤ 1048576 → out.length = n → Ev (fun k => spec_l27Open.l0 k s out pre.size) (out ++ (openL m n rest).1.map toR, (s.size : Int) - ((openL m n rest).2.size : Int)) := by
  intro m
  induction m with
  | zero =>
    intro n hn s pre rest out h hs ho
    have hsz : s.size = pre.size + rest.size := by rw [h, ByteArray.size_append]
    have e : (s.size : Int) - (rest.size : Int) = (pre.size : Int) := by omega
    simp only [openL, List.map_nil, List.append_nil, e]
    refine Ev.step (fun k => by simp only [spec_l27Open.l0]; rfl) ?_
    by_cases hc : (pre.size : Int) < (s.size : Int)
    · refine ev_pos hc ?_
      rw [decide_eq_false (show ¬ (out.length : Int) < 60 by omega)]
      exact stop_j1 s out _
    · exact ev_neg hc (stop_j1 s out _)
  | succ m ih =>
    intro n hn s pre rest out h hs ho
    have hsz : s.size = pre.size + rest.size := by rw [h, ByteArray.size_append]
    have e : (s.size : Int) - (rest.size : Int) = (pre.size : Int) := by omega
    refine Ev.step (fun k => by simp only [spec_l27Open.l0]; rfl) ?_
    by_cases hc : (pre.size : Int) < (s.size : Int)
    · refine ev_pos hc ?_
      rw [decide_eq_true (show (out.length : Int) < 60 by omega)]
      refine Ev.step (fun k => by simp only [spec_l27Open.j1]; rfl) ?_
      refine ev_pos (by first | exact trivial | rfl) (ev_pos (by omega) (ev_pos (by omega) ?_))
      have ex : s.extract pre.size s.size = rest := by rw [h]; exact ex_app_right pre rest _ rfl
      rw [Int.toNat_natCast, ex, ho]
      obtain ⟨ps, p1, p2, p3⟩ := split_ev rest (by omega) 10 10 rfl
      refine Ev.bind p1 ?_
      refine ev_pos (by omega) ?_
      rcases p3 with ⟨x, y, g1, g2, g4, g3, g5⟩ | ⟨g1, g3, g5⟩
      · rw [g3]
        by_cases hx : ∃ a b, recOk a b = true ∧ x = sealB (lineTxt n a b)
        · obtain ⟨a, b, hr, rfl⟩ := hx
          have hone : OneRec n rest a b y := ⟨hr, g1⟩
          have lz : (lineB n a b).size = (sealB (lineTxt n a b)).size + 1 := by unfold lineB; rw [ByteArray.size_append]; rfl
          refine Ev.bind (specRead_yes n (by omega) a b hr) ?_
          refine ev_neg (by omega) (ev_pos rfl (ev_pos (by omega) ?_))
          have h2 : s = (pre ++ lineB n a b) ++ y := by rw [h, hone.2, ba_assoc]
          have := ih (n + 1) (by omega) s (pre ++ lineB n a b) y (out ++ [(⟨a, b⟩ : S27)]) h2 hs (by rw [List.length_append, List.length_singleton, ho])
          rw [openL, stepR_some hone]
          simp only [List.map_cons]
          have ew : wrap64 (wrap64 ((pre.size : Int) + ((sealB (lineTxt n a b)).size : Int)) + 1) = ((pre ++ lineB n a b).size : Int) := by
            rw [wrap_in (show -9223372036854775808 ≤ (pre.size : Int) + ((sealB (lineTxt n a b)).size : Int) by omega) (by omega), wrap_in (by omega) (by omega), ByteArray.size_append, lz]; omega
          rw [ew]
          have eo : out ++ toR (a, b) :: List.map toR (openL m (n + 1) y).1 = out ++ [(⟨a, b⟩ : S27)] ++ List.map toR (openL m (n + 1) y).1 := by simp [toR]
          rw [eo]
          exact this
        · have hno : stepR n rest = none := stepR_no (fun a b r ho2 => hx ⟨a, b, ho2.1, (split_one g1 g2 ho2.2 (seal_no10 ho2.1)).1⟩)
          obtain ⟨a, b, hr⟩ := specRead_no n (by omega) x (by omega) (fun a b hr e2 => hx ⟨a, b, hr, e2⟩)
          refine Ev.bind hr ?_
          refine ev_neg (by omega) (ev_neg (by simp) ?_)
          rw [openL, hno]
          simp only [List.map_nil, List.append_nil, e]
          exact Ev.now _
      · rw [g3]
        have hno : stepR n rest = none := stepR_no10 g1
        have stop : ∀ q : ByteArray × ByteArray × Bool, Ev (fun k => spec_l27Read.f k rest n) q → Ev (fun k => (spec_l27Read.f k rest n).bind fun bt143 => (if (ps.length : Int) < 2 then (some (out, (pre.size : Int))) else (if bt143.2.2 = true then (if n < 4398046511104 then (spec_l27Open.l0 k s (out ++ [(⟨bt143.1, bt143.2.1⟩ : S27)]) (wrap64 ((wrap64 ((pre.size : Int) + (rest.size : Int))) + 1))) else (none)) else (some (out, (pre.size : Int)))))) (out, (pre.size : Int)) := by
          intro q hq
          refine Ev.bind hq ?_
          exact ev_pos (by omega) (Ev.now _)
        rw [openL, hno]
        simp only [List.map_nil, List.append_nil, e]
        by_cases hx : ∃ a b, recOk a b = true ∧ rest = sealB (lineTxt n a b)
        · obtain ⟨a, b, hr, e2⟩ := hx
          exact stop _ (by rw [e2]; exact specRead_yes n (by omega) a b hr)
        · obtain ⟨a, b, hr⟩ := specRead_no n (by omega) rest (by omega) (fun a b hr e2 => hx ⟨a, b, hr, e2⟩)
          exact stop _ hr
    · have hr0 : rest = (⟨#[]⟩ : ByteArray) := ba_zero (by omega)
      subst hr0
      rw [openL_empty]
      refine ev_neg hc ?_
      simp only [List.map_nil, List.append_nil, e]
      exact stop_j1 s out _
theorem specOpen_ev (s : ByteArray) (hs : s.size ≤ 1048576) : Ev (fun k => spec_l27Open.f k s) ((openL 60 0 s).1.map toR, (s.size : Int) - ((openL 60 0 s).2.size : Int)) := by
  unfold spec_l27Open.f
  have := specOpen_l0 60 0 rfl s (⟨#[]⟩ : ByteArray) s [] (ba_empty_app s).symm hs rfl
  rw [List.nil_append] at this
  exact this
theorem mB_cons (k : Int) (v : Bool) (L : List (Int × Bool)) (x : Int) : mB ((k, v) :: L) x = if x = k then v else mB L x := by
  unfold mB
  rw [List.lookup_cons]
  by_cases h : x = k
  · subst h; simp
  · have e : (x == k) = false := by simpa using h
    rw [e, if_neg h]
theorem implRecs_l0 : ∀ (m n : Nat), m + n = 60 → ∀ (s pre rest : ByteArray) (out : List S27) (L : List (Int × Bool)), s = pre ++ rest → s.size ≤ 1048576 → out.length = n → L.length ≤ n + 1 → ∃ L', Ev (fun k => impl_readRecords.l0 k s out L rest) (out ++ (openL m n rest).1.map toR, L', (s.size : Int) - ((openL m n rest).2.size : Int)) ∧
    ∀ x : Int, mB L' x = true ↔ mB L x = true ∨ ∃ j, 1 ≤ j ∧ j ≤ (openL m n rest).1.length ∧ x = ((pre.size + (txt n ((openL m n rest).1.take j)).size : Nat) : Int) := by
  intro m
  induction m with
  | zero =>
    intro n hn s pre rest out L h hs ho hL
    have hsz : s.size = pre.size + rest.size := by rw [h, ByteArray.size_append]
    refine ⟨L, ?_, fun x => ⟨Or.inl, fun q => q.elim id (fun ⟨j, j1, j2, _⟩ => by simp [openL] at j2; omega)⟩⟩
    simp only [openL, List.map_nil, List.append_nil]
    refine Ev.step (fun k => by simp only [impl_readRecords.l0]; rfl) ?_
    refine ev_neg (by omega) ?_
    rw [wrap_in (by omega) (by omega)]
    exact Ev.now _
  | succ m ih =>
    intro n hn s pre rest out L h hs ho hL
    have hsz : s.size = pre.size + rest.size := by rw [h, ByteArray.size_append]
    have hread := implRead_ev n (by omega) rest (by omega)
    cases hq : stepR n rest with
    | none =>
      have eq : readQ n rest = ((⟨#[]⟩ : ByteArray), (⟨#[]⟩ : ByteArray), rest, false) := by unfold readQ; rw [hq]
      rw [eq] at hread
      have eo : openL (m + 1) n rest = ([], rest) := by rw [openL, hq]
      rw [eo]
      refine ⟨L, ?_, fun x => ⟨Or.inl, fun q => q.elim id (fun ⟨j, j1, j2, _⟩ => by simp at j2; omega)⟩⟩
      simp only [List.map_nil, List.append_nil]
      refine Ev.step (fun k => by simp only [impl_readRecords.l0, ho]; rfl) ?_
      refine ev_pos (by omega) ?_
      refine Ev.bind hread ?_
      refine ev_neg (by simp) ?_
      rw [wrap_in (by omega) (by omega)]
      exact Ev.now _
    | some q =>
      obtain ⟨a, b, r⟩ := q
      have hone := stepR_of hq
      have eq : readQ n rest = (a, b, r, true) := by unfold readQ; rw [hq]
      rw [eq] at hread
      have eo : openL (m + 1) n rest = ((a, b) :: (openL m (n + 1) r).1, (openL m (n + 1) r).2) := by rw [openL, hq]
      rw [eo]
      have h2 : s = (pre ++ lineB n a b) ++ r := by rw [h, hone.2, ba_assoc]
      have hz2 : rest.size = (lineB n a b).size + r.size := by rw [hone.2, ByteArray.size_append]
      have ew : wrap64 ((s.size : Int) - (r.size : Int)) = ((pre.size + (lineB n a b).size : Nat) : Int) := by rw [wrap_in (by omega) (by omega)]; omega
      obtain ⟨L', e1, e2⟩ := ih (n + 1) (by omega) s (pre ++ lineB n a b) r (out ++ [(⟨a, b⟩ : S27)]) ((((pre.size + (lineB n a b).size : Nat) : Int), true) :: L) h2 hs (by rw [List.length_append, List.length_singleton, ho]) (by rw [List.length_cons]; omega)
      refine ⟨L', ?_, ?_⟩
      · have eo : out ++ List.map toR ((a, b) :: (openL m (n + 1) r).1) = out ++ [(⟨a, b⟩ : S27)] ++ List.map toR (openL m (n + 1) r).1 := by simp [toR]
        rw [eo]
        refine Ev.step (fun k => by simp only [impl_readRecords.l0, ho]; rfl) ?_
        refine ev_pos (by clear ew; omega) ?_
        refine Ev.bind hread ?_
        refine ev_pos rfl (ev_pos (by clear ew; omega) (ev_pos (by clear ew; omega) ?_))
        rw [ew]
        exact e1
      · intro x
        rw [e2 x, mB_cons, ByteArray.size_append]
        constructor
        · rintro (hx | ⟨j, j1, j2, j3⟩)
          · by_cases hk : x = ((pre.size + (lineB n a b).size : Nat) : Int)
            · refine Or.inr ⟨1, Nat.le_refl _, by simp, ?_⟩
              rw [hk]
              simp only [List.take_succ_cons, List.take_zero, txt, ba_app_empty]
            · rw [if_neg hk] at hx; exact Or.inl hx
          · refine Or.inr ⟨j + 1, by omega, by simp only [List.length_cons]; omega, ?_⟩
            rw [j3]
            simp only [List.take_succ_cons, txt, ByteArray.size_append]
            omega
        · rintro (hx | ⟨j, j1, j2, j3⟩)
          · left
            split
            · rfl
            · exact hx
          · obtain ⟨i, rfl⟩ : ∃ i, j = i + 1 := ⟨j - 1, by omega⟩
            simp only [List.take_succ_cons, txt, ByteArray.size_append] at j3
            simp only [List.length_cons] at j2
            by_cases hi : i = 0
            · left
              subst hi
              simp only [List.take_zero, txt] at j3
              rw [if_pos (by rw [j3]; have : (⟨#[]⟩ : ByteArray).size = 0 := rfl; omega)]
            · exact Or.inr ⟨i, by omega, by omega, by rw [j3]; omega⟩
theorem implRecs_ev (s : ByteArray) (hs : s.size ≤ 1048576) : ∃ L, Ev (fun k => impl_readRecords.f k s) ((openL 60 0 s).1.map toR, L, (s.size : Int) - ((openL 60 0 s).2.size : Int)) ∧ ∀ x : Int, mB L x = true ↔ posL (openL 60 0 s).1 x := by
  obtain ⟨L, e1, e2⟩ := implRecs_l0 60 0 rfl s (⟨#[]⟩ : ByteArray) s [] [((0 : Int), true)] (ba_empty_app s).symm hs rfl (by simp)
  refine ⟨L, by unfold impl_readRecords.f; simpa using e1, fun x => ?_⟩
  rw [e2 x, mB_cons]
  have q0 : (⟨#[]⟩ : ByteArray).size = 0 := rfl
  constructor
  · rintro (hx | ⟨j, j1, j2, j3⟩)
    · by_cases hk : x = 0
      · exact ⟨0, Nat.zero_le _, by rw [hk]; simp only [List.take_zero, txt, q0]; rfl⟩
      · rw [if_neg hk] at hx; cases hx
    · exact ⟨j, j2, by rw [j3, q0, Nat.zero_add]⟩
  · rintro ⟨j, j2, j3⟩
    by_cases hj : j = 0
    · left
      subst hj
      simp only [List.take_zero, txt, q0] at j3
      rw [if_pos (by rw [j3]; rfl)]
    · exact Or.inr ⟨j, by omega, j2, by rw [j3, q0, Nat.zero_add]⟩
theorem recordsOf_ev (D P : ByteArray) (c : Int) (hs : D.size + P.size ≤ 1048576) : Ev (fun k => impl_recordsOf.f k D P c) ((openL 60 0 (D ++ P)).1.map toR, logOk D P c) := by
  have hz : (D ++ P).size = D.size + P.size := ByteArray.size_append
  obtain ⟨L, e1, e2⟩ := implRecs_ev (D ++ P) (by omega)
  have hp := logOk_pos D P c
  unfold impl_recordsOf.f
  refine ev_pos (by omega) ?_
  refine Ev.bind e1 ?_
  have no : logOk D P c = false → Ev (fun _ => some (List.map toR (openL 60 0 (D ++ P)).1, false)) (List.map toR (openL 60 0 (D ++ P)).1, logOk D P c) := fun h => by rw [h]; exact Ev.now _
  by_cases h1 : (openL 60 0 (D ++ P)).2.size = 0
  · refine ev_pos (show ((D ++ P).size : Int) - ((openL 60 0 (D ++ P)).2.size : Int) = (D.size : Int) + (P.size : Int) by omega) ?_
    unfold mapHas.f
    rw [if_pos (by omega)]
    simp only [Option.bind_some]
    by_cases h2 : mB L D.size = true
    · refine ev_pos h2 ?_
      have e : (c == ((List.map toR (openL 60 0 (D ++ P)).1).length : Int)) = logOk D P c := by
        rw [Bool.eq_iff_iff, hp, List.length_map]
        constructor
        · intro h; exact ⟨h1, (e2 _).1 h2, by simpa using h⟩
        · rintro ⟨_, _, h⟩; simpa using h
      rw [e]
      exact Ev.now _
    · refine ev_neg h2 (no ?_)
      rw [Bool.eq_false_iff]
      intro h
      exact h2 ((e2 _).2 (hp.1 h).2.1)
  · refine ev_neg ?_ (no ?_)
    · show ¬ ((D ++ P).size : Int) - ((openL 60 0 (D ++ P)).2.size : Int) = (D.size : Int) + (P.size : Int)
      omega
    · rw [Bool.eq_false_iff]
      intro h
      exact h1 (hp.1 h).1
theorem implLog_ev (D P : ByteArray) (c : Int) (hs : D.size + P.size ≤ 1048576) : Ev (fun k => impl_IsValidLog.f k D P c) (logOk D P c) := by
  unfold impl_IsValidLog.f
  exact Ev.bind (recordsOf_ev D P c hs) (Ev.now _)
theorem specLog_ev (D P : ByteArray) (c : Int) (hs : D.size + P.size ≤ 1048576) : Ev (fun k => spec_l27Log.f k D P c) (logOk D P c) := by
  have hz : (D ++ P).size = D.size + P.size := ByteArray.size_append
  have ew : wrap64 ((D.size : Int) + (P.size : Int)) = ((D.size + P.size : Nat) : Int) := by rw [wrap_in (by omega) (by omega)]; omega
  unfold spec_l27Log.f
  rw [ew]
  by_cases h : D.size + P.size ≤ 30000
  · refine ev_neg (by clear ew; omega) (ev_pos (by clear ew; omega) ?_)
    refine Ev.bind (specOpen_ev (D ++ P) (by clear ew; omega)) ?_
    refine Ev.bind (specOpen_ev D (by clear ew; omega)) ?_
    have hp := logOk_open D P c
    clear ew
    by_cases h1 : (openL 60 0 (D ++ P)).2.size = 0
    · refine ev_pos (by omega) ?_
      by_cases h2 : (openL 60 0 D).2.size = 0
      · refine ev_pos (by omega) ?_
        have e : (((List.map toR (openL 60 0 (D ++ P)).1).length : Int) == c) = logOk D P c := by
          rw [hp, decide_eq_true h1, decide_eq_true h2, Bool.true_and, Bool.true_and, List.length_map, Bool.eq_iff_iff, decide_eq_true_eq, beq_iff_eq]
          exact eq_comm
        rw [e]
        exact Ev.now _
      · refine ev_neg (by omega) ?_
        rw [hp, decide_eq_false h2, Bool.and_false, Bool.false_and]
        exact Ev.now _
    · refine ev_neg (by omega) ?_
      rw [hp, decide_eq_false h1, Bool.false_and, Bool.false_and]
      exact Ev.now _
  · have hno : logOk D P c = false := by
      rw [Bool.eq_false_iff]
      intro h2
      obtain ⟨l1, l2, h3⟩ := (logOk_iff D P c).1 h2
      have := h3.small
      omega
    rw [hno]
    exact ev_pos (by clear ew; omega) (Ev.now _)
theorem openL_size (s : ByteArray) : (openL 60 0 s).2.size ≤ s.size := by
  have h := (openL_good 60 0 s).2.1
  have := congrArg ByteArray.size h
  rw [ByteArray.size_append] at this
  omega
/-- What a recovery gives. -/
noncomputable def recQ (s : ByteArray) : ByteArray × ByteArray × Int × Int × Bool := if s.size > 30000 then ((⟨#[]⟩ : ByteArray), (⟨#[]⟩ : ByteArray), 0, 0, false) else (s.extract 0 (s.size - (openL 60 0 s).2.size), (⟨#[]⟩ : ByteArray), ((openL 60 0 s).1.length : Int), ((s.size - (openL 60 0 s).2.size : Nat) : Int), true)
theorem implRecover_ev (s : ByteArray) (hs : s.size ≤ 1048576) : Ev (fun k => impl_RecoverLog.f k s) (recQ s) := by
  have hz := openL_size s
  unfold impl_RecoverLog.f recQ
  by_cases h : s.size > 30000
  · rw [if_pos h]; exact ev_pos (by omega) (Ev.now _)
  · rw [if_neg h]
    refine ev_neg (by omega) ?_
    obtain ⟨L, e, _⟩ := implRecs_ev s hs
    have eq : (s.size : Int) - ((openL 60 0 s).2.size : Int) = ((s.size - (openL 60 0 s).2.size : Nat) : Int) := by omega
    rw [eq] at e
    refine Ev.bind e ?_
    refine ev_pos (show (0 : Int) ≤ ((s.size - (openL 60 0 s).2.size : Nat) : Int) by omega) (ev_pos (show ((s.size - (openL 60 0 s).2.size : Nat) : Int) ≤ (s.size : Int) by omega) ?_)
    have el : (List.map toR (openL 60 0 s).1).length = (openL 60 0 s).1.length := List.length_map ..
    refine Ev.some ?_
    show (s.extract 0 (((s.size - (openL 60 0 s).2.size : Nat) : Int)).toNat, _, ((List.map toR (openL 60 0 s).1).length : Int), _, _) = _
    rw [el, Int.toNat_natCast]
/-- What a synchronization gives. -/
noncomputable def syncQ (D P : ByteArray) (c : Int) : ByteArray × ByteArray × Int × Bool := if logOk D P c then (D ++ P, (⟨#[]⟩ : ByteArray), c, true) else ((⟨#[]⟩ : ByteArray), (⟨#[]⟩ : ByteArray), 0, false)
theorem specSync_ev (D P : ByteArray) (c : Int) (hs : D.size + P.size ≤ 1048576) : Ev (fun k => spec_SyncLog.f k D P c) (syncQ D P c) := by
  have e1 := specLog_ev D P c hs
  unfold spec_SyncLog.f syncQ
  generalize logOk D P c = v at e1
  refine Ev.bind e1 ?_
  cases v with
  | true => exact ev_pos rfl (ev_pos (by omega) (Ev.now _))
  | false => exact ev_neg (by decide) (Ev.now _)
theorem implSync_ev (D P : ByteArray) (c : Int) (hs : D.size + P.size ≤ 1048576) : Ev (fun k => impl_SyncLog.f k D P c) (syncQ D P c) := by
  have e1 := implLog_ev D P c hs
  unfold impl_SyncLog.f syncQ
  generalize logOk D P c = v at e1
  refine Ev.bind e1 ?_
  cases v with
  | true => exact ev_pos rfl (ev_pos (by omega) (Ev.now _))
  | false => exact ev_neg (by decide) (Ev.now _)
/-- What appending gives. -/
noncomputable def appQ (D P : ByteArray) (c : Int) (a b : ByteArray) : ByteArray × ByteArray × Int × Int := if logOk D P c && recOk a b then (if c = 60 then (D, P, c, 2) else (D, P ++ lineB c a b, c + 1, 0)) else (D, P, c, 1)
theorem logOk_count {D P : ByteArray} {c : Int} (h : logOk D P c = true) : 0 ≤ c ∧ c ≤ 60 ∧ D.size + P.size ≤ 24600 := by
  obtain ⟨l1, l2, hl⟩ := (logOk_iff D P c).1 h
  have h1 := hl.2.1
  have h2 := hl.2.2.2.2
  have h3 := hl.small
  omega
theorem specApp_ev (D P : ByteArray) (c : Int) (hs : D.size + P.size ≤ 1048576) (a b : ByteArray) (ha : a.size ≤ 1048576) (hb : b.size ≤ 1048576) : Ev (fun k => spec_AppendRecord.f k D P c a b) (appQ D P c a b) := by
  have e1 := specLog_ev D P c hs
  have e2 := good_ev a b ha hb
  have hc := fun h => logOk_count (D := D) (P := P) (c := c) h
  unfold spec_AppendRecord.f appQ
  generalize logOk D P c = v at e1 hc
  refine Ev.bind e1 ?_
  have no : Ev (fun k => spec_AppendRecord.j0 k true D P c a b) (D, P, c, 1) := by
    refine Ev.step (fun k => by simp only [spec_AppendRecord.j0]; rfl) ?_
    exact ev_pos (by first | exact trivial | rfl) (Ev.now _)
  cases v with
  | false => refine ev_neg (by decide) ?_; rw [Bool.false_and, if_neg (by decide)]; exact no
  | true =>
    refine ev_pos rfl ?_
    refine Ev.bind e2 ?_
    cases hr : recOk a b with
    | false => rw [Bool.and_false, if_neg (by decide)]; exact no
    | true =>
      obtain ⟨c0, c1, c2⟩ := hc rfl
      obtain ⟨_, _, h3, _, _, h6⟩ := (recOk_iff a b).1 hr
      rw [Bool.and_true, if_pos rfl]
      refine Ev.step (fun k => by simp only [spec_AppendRecord.j0]; rfl) ?_
      refine ev_neg (by decide) ?_
      by_cases h60 : c = 60
      · rw [if_pos h60]; exact ev_pos h60 (Ev.now _)
      · rw [if_neg h60]
        refine ev_neg h60 ?_
        refine Ev.bind (specLine_ev c (by omega) a b (by omega) (by omega)) ?_
        obtain ⟨n, rfl⟩ : ∃ n : Nat, c = (n : Int) := ⟨c.toNat, by omega⟩
        have hl := lineB_size (n := n) (by omega) hr
        refine ev_pos (by omega) ?_
        rw [wrap_in (by omega) (by omega)]
        exact Ev.now _
theorem implApp_ev (D P : ByteArray) (c : Int) (hs : D.size + P.size ≤ 1048576) (a b : ByteArray) (ha : a.size ≤ 1048576) (hb : b.size ≤ 1048576) : Ev (fun k => impl_AppendRecord.f k D P c a b) (appQ D P c a b) := by
  have e1 := implLog_ev D P c hs
  have e2 := isRecord_ev a b ha hb
  have hc := fun h => logOk_count (D := D) (P := P) (c := c) h
  unfold impl_AppendRecord.f appQ
  generalize logOk D P c = v at e1 hc
  refine Ev.bind e1 ?_
  have no : Ev (fun k => impl_AppendRecord.j0 k true D P c a b) (D, P, c, 1) := by
    refine Ev.step (fun k => by simp only [impl_AppendRecord.j0]; rfl) ?_
    exact ev_pos (by first | exact trivial | rfl) (Ev.now _)
  cases v with
  | false => refine ev_neg (by decide) ?_; rw [Bool.false_and, if_neg (by decide)]; exact no
  | true =>
    refine ev_pos rfl ?_
    refine Ev.bind e2 ?_
    cases hr : recOk a b with
    | false => rw [Bool.and_false, if_neg (by decide)]; exact no
    | true =>
      obtain ⟨c0, c1, c2⟩ := hc rfl
      rw [Bool.and_true, if_pos rfl]
      refine Ev.step (fun k => by simp only [impl_AppendRecord.j0]; rfl) ?_
      refine ev_neg (by decide) ?_
      by_cases h60 : c = 60
      · rw [if_pos h60]; exact ev_pos h60 (Ev.now _)
      · rw [if_neg h60]
        refine ev_neg h60 ?_
        refine Ev.bind (implLine_ev c (by omega) a b hr) ?_
        obtain ⟨n, rfl⟩ : ∃ n : Nat, c = (n : Int) := ⟨c.toNat, by omega⟩
        have hl := lineB_size (n := n) (by omega) hr
        refine ev_pos (by omega) ?_
        rw [wrap_in (by omega) (by omega)]
        exact Ev.now _
/-- A drawn text's bytes. -/
def Bytes (s : List Int) : Prop := s.length ≤ 9223372036854775807 ∧ ∀ y ∈ s, 0 ≤ y ∧ y ≤ 255
theorem bytes_of {s : List Int} (h : s.length ≤ 9223372036854775807 ∧ ∀ y ∈ s, (Lit.int .u8 y).wf = true) : Bytes s := by
  refine ⟨h.1, fun y hy => ?_⟩
  have := h.2 y hy
  simp only [Lit.wf, Bool.and_eq_true, decide_eq_true_eq] at this
  exact this
theorem rd_byte {s : List Int} (h : Bytes s) (i : Int) : 0 ≤ rd s i ∧ rd s i ≤ 255 := by
  unfold rd
  rw [List.getD_eq_getElem?_getD]
  cases hq : s[i.toNat]? with
  | none => simp
  | some y => exact h.2 y (List.mem_of_getElem? hq)
theorem and255 (x : Int) (h0 : 0 ≤ x) (h1 : x < 18446744073709551616) : 0 ≤ Go.bits .and .u64 x 255 ∧ Go.bits .and .u64 x 255 ≤ 255 := by
  have := bits_mask .u64 64 (by decide) (fun n a b => by rw [IntKind.wrap_u64]; omega) 8 (by decide) x h0 h1
  rw [show (2 : Int) ^ 8 - 1 = 255 by decide] at this
  rw [this]
  omega
theorem next_is (s : List Int) (hs : Bytes s) (p r : Int) (h0 : 0 ≤ p) (h1 : p ≤ 4611686018427387904) : ∃ v r', spec_l1Cur_next.f s p r = some (v, p + 1, r') ∧ 0 ≤ v ∧ v ≤ 255 := by
  unfold spec_l1Cur_next.f
  have hw : wrap64 (p + 1) = p + 1 := wrap_in (by omega) (by omega)
  have hb := rd_byte hs p
  have hr : wrap64 (rd s p) = rd s p := wrap_in (by omega) (by omega)
  have hu : ∀ x : Int, 0 ≤ wrap64 (Go.bits .and .u64 ((IntKind.u64.wrap x) / 1099511627776) 255) ∧ wrap64 (Go.bits .and .u64 ((IntKind.u64.wrap x) / 1099511627776) 255) ≤ 255 := by
    intro x
    have e : IntKind.u64.wrap x = x % 18446744073709551616 := IntKind.wrap_u64 x
    have := and255 ((IntKind.u64.wrap x) / 1099511627776) (by rw [e]; omega) (by rw [e]; omega)
    rw [wrap_in (by omega) (by omega)]
    exact this
  rw [hw]
  by_cases c1 : p < (s.length : Int)
  · rw [if_pos c1, if_pos h0, if_pos (show p + 1 ≤ (s.length : Int) by omega)]
    exact ⟨_, _, rfl, by rw [hr]; exact hb⟩
  · rw [if_neg c1, if_neg (show ¬ p + 1 ≤ (s.length : Int) by omega)]
    exact ⟨_, _, rfl, hu _⟩
theorem pick_is (s : List Int) (hs : Bytes s) (p r n : Int) (h0 : 0 ≤ p) (h1 : p ≤ 4611686018427387900) : ∃ v p' r', spec_l1Cur_pick.f s p r n = some (v, p', r') ∧ 0 ≤ v ∧ (v < n ∨ n ≤ 1 ∧ v = 0) ∧ p ≤ p' ∧ p' ≤ p + 2 := by
  unfold spec_l1Cur_pick.f
  by_cases c1 : n ≤ 1
  · rw [if_pos c1]
    exact ⟨0, p, r, rfl, by omega, by omega, by omega, by omega⟩
  · rw [if_neg c1]
    obtain ⟨v, r1, e1, a1, a2⟩ := next_is s hs p r h0 (by omega)
    rw [e1]
    simp only [Option.bind_some]
    by_cases c2 : n > 200
    · rw [if_pos c2]
      obtain ⟨v2, r2, e2, b1, b2⟩ := next_is s hs (p + 1) r1 (by omega) (by omega)
      rw [e2]
      simp only [Option.bind_some]
      rw [if_neg (show ¬ n = 0 by omega), wrap_in (show -9223372036854775808 ≤ v * 256 by omega) (by omega), wrap_in (show -9223372036854775808 ≤ v * 256 + v2 by omega) (by omega)]
      have m0 := Int.tmod_nonneg n (show 0 ≤ v * 256 + v2 by omega)
      have m1 := Int.tmod_lt_of_pos (v * 256 + v2) (show 0 < n by omega)
      exact ⟨_, _, _, rfl, m0, Or.inl m1, by omega, by omega⟩
    · rw [if_neg c2, if_neg (show ¬ n = 0 by omega)]
      have m0 := Int.tmod_nonneg n (show 0 ≤ v by omega)
      have m1 := Int.tmod_lt_of_pos v (show 0 < n by omega)
      exact ⟨_, _, _, rfl, m0, Or.inl m1, by omega, by omega⟩
theorem one_is (s : List Int) (hs : Bytes s) (p r n : Int) (h0 : 0 ≤ p) (h1 : p ≤ 4611686018427387900) : ∃ v p' r', spec_l1Cur_one.f s p r n = some (v, p', r') ∧ p ≤ p' ∧ p' ≤ p + 2 := by
  unfold spec_l1Cur_one.f
  obtain ⟨v, p', r', e, _, _, a, b⟩ := pick_is s hs p r n h0 h1
  rw [e]
  exact ⟨_, _, _, rfl, a, b⟩
theorem rd_mem {l : List Int} {i : Int} (h0 : 0 ≤ i) (h1 : i < (l.length : Int)) : rd l i ∈ l := by
  unfold rd
  have h : i.toNat < l.length := by omega
  rw [List.getD_eq_getElem?_getD, List.getElem?_eq_getElem h]
  simp
theorem ev_eq {α : Type} {o : Option α} {v : α} (h : o = some v) : Ev (fun _ : Nat => o) v := by rw [h]; exact Ev.now _
theorem rdOf_mem {l : List ByteArray} {i : Int} (h0 : 0 ≤ i) (h1 : i < (l.length : Int)) : rdOf ByteArray.empty l i ∈ l := by
  unfold rdOf
  rw [List.getD_eq_getElem?_getD, List.getElem?_eq_getElem (show i.toNat < l.length by omega)]
  exact List.getElem_mem _
theorem of_is (s : List Int) (hs : Bytes s) (p r : Int) (l : List ByteArray) (hl : 0 < l.length) (h0 : 0 ≤ p) (h1 : p ≤ 4611686018427387900) : ∃ v p' r', spec_l1Cur_of.f s p r l = some (v, p', r') ∧ v ∈ l ∧ p ≤ p' ∧ p' ≤ p + 2 := by
  unfold spec_l1Cur_of.f
  obtain ⟨v, p', r', e, a0, a1, a2, a3⟩ := pick_is s hs p r (l.length : Int) h0 h1
  rw [e]
  have hv : v < (l.length : Int) := by omega
  simp only [Option.bind_some, if_pos a0, if_pos hv]
  exact ⟨_, _, _, rfl, rdOf_mem a0 hv, a2, a3⟩
theorem logRecord_is (s : List Int) (hs : Bytes s) (p r : Int) (h0 : 0 ≤ p) (h1 : p ≤ 2305843009213693952) : ∃ a b p' r', spec_l1Cur_logRecord.f s p r = some (a, b, p', r') ∧ a.size ≤ 100 ∧ b.size ≤ 100 ∧ p ≤ p' ∧ p' ≤ p + 8 := by
  unfold spec_l1Cur_logRecord.f
  obtain ⟨a, p1, r1, e1, m1, u1, v1⟩ := of_is s hs p r [(⟨#[99, 111, 117, 110, 116]⟩ : ByteArray), (⟨#[115, 111, 114, 116, 32, 109, 101, 114, 103, 101]⟩ : ByteArray), (⟨#[120]⟩ : ByteArray), (⟨#[115, 101, 108, 101, 99, 116, 32, 50]⟩ : ByteArray), (⟨#[48, 32, 49]⟩ : ByteArray)] (by decide) h0 (by omega)
  obtain ⟨b, p2, r2, e2, m2, u2, v2⟩ := of_is s hs p1 r1 [(⟨#[]⟩ : ByteArray), (⟨#[51]⟩ : ByteArray), (⟨#[63]⟩ : ByteArray), (⟨#[97, 64, 98]⟩ : ByteArray), (⟨#[51, 32, 49, 32, 50]⟩ : ByteArray)] (by decide) (by omega) (by omega)
  obtain ⟨v, p3, r3, e3, _, _, u3, v3⟩ := pick_is s hs p2 r2 24 (by omega) (by omega)
  have ha : a.size ≤ 100 := by
    simp only [List.mem_cons, List.not_mem_nil, or_false] at m1
    rcases m1 with rfl | rfl | rfl | rfl | rfl <;> decide
  have hb : b.size ≤ 100 := by
    simp only [List.mem_cons, List.not_mem_nil, or_false] at m2
    rcases m2 with rfl | rfl | rfl | rfl | rfl <;> decide
  rw [e1]
  simp only [Option.bind_some, e2, e3]
  by_cases hv0 : v = 0
  · rw [if_pos hv0, if_pos (by decide)]
    obtain ⟨x, p4, r4, e4, m4, u4, v4⟩ := of_is s hs p3 r3 [(⟨#[]⟩ : ByteArray), (⟨#[97, 64, 98]⟩ : ByteArray), (⟨#[97, 35]⟩ : ByteArray), (⟨#[10]⟩ : ByteArray), strOfNums (List.replicate 3 0)] (by decide) (by omega) (by omega)
    have hx : x.size ≤ 100 := by
      simp only [List.mem_cons, List.not_mem_nil, or_false] at m4
      rcases m4 with rfl | rfl | rfl | rfl | rfl <;> decide
    rw [e4]
    exact ⟨x, b, p4, r4, rfl, hx, hb, by omega, by omega⟩
  · rw [if_neg hv0]
    by_cases hv1 : v = 1
    · rw [if_pos hv1]
      obtain ⟨x, p4, r4, e4, m4, u4, v4⟩ := of_is s hs p3 r3 [(⟨#[35]⟩ : ByteArray), (⟨#[10]⟩ : ByteArray), (⟨#[127]⟩ : ByteArray)] (by decide) (by omega) (by omega)
      have hx : x.size ≤ 100 := by
        simp only [List.mem_cons, List.not_mem_nil, or_false] at m4
        rcases m4 with rfl | rfl | rfl <;> decide
      rw [e4]
      exact ⟨a, x, p4, r4, rfl, ha, hx, by omega, by omega⟩
    · rw [if_neg hv1]
      exact ⟨_, _, _, _, rfl, ha, hb, by omega, by omega⟩
theorem appQ_size (D P : ByteArray) (c : Int) (a b : ByteArray) (h : D.size + P.size ≤ 24600) : (appQ D P c a b).1.size + (appQ D P c a b).2.1.size ≤ 24600 := by
  unfold appQ
  cases q : (logOk D P c && recOk a b) with
  | false => rw [if_neg (by decide)]; exact h
  | true =>
    rw [if_pos rfl]
    simp only [Bool.and_eq_true] at q
    obtain ⟨c0, c1, _⟩ := logOk_count q.1
    by_cases h60 : c = 60
    · rw [if_pos h60]; exact h
    · rw [if_neg h60]
      obtain ⟨l1, l2, hl⟩ := (logOk_iff D P c).1 q.1
      exact (hl.append q.2 (by omega)).small
theorem syncQ_size (D P : ByteArray) (c : Int) (h : D.size + P.size ≤ 24600) : (syncQ D P c).1.size + (syncQ D P c).2.1.size ≤ 24600 := by
  unfold syncQ
  have q0 : (⟨#[]⟩ : ByteArray).size = 0 := rfl
  cases q : logOk D P c with
  | false => rw [if_neg (by decide)]; show (⟨#[]⟩ : ByteArray).size + (⟨#[]⟩ : ByteArray).size ≤ 24600; omega
  | true => rw [if_pos rfl]; show (D ++ P).size + (⟨#[]⟩ : ByteArray).size ≤ 24600; rw [ByteArray.size_append]; omega
theorem log_l0 (s : List Int) (hs : Bytes s) : ∀ (m : Nat) (n p r : Int) (D P : ByteArray) (c : Int), n ≤ m → m ≤ 100 → 0 ≤ p → p + 20 * m ≤ 2305843009213693952 → D.size + P.size ≤ 24600 → ∃ D' P' c' p' r', Ev (fun k => spec_l1Cur_log.l0 k n s p r D P c) (D', P', c', p', r') ∧ D'.size + P'.size ≤ 24600 ∧ p ≤ p' ∧ p' ≤ p + 20 * m := by
  intro m
  induction m with
  | zero =>
    intro n p r D P c hn hm h0 h1 h2
    refine ⟨D, P, c, p, r, ?_, h2, by omega, by omega⟩
    refine Ev.step (fun k => by simp only [spec_l1Cur_log.l0]; rfl) ?_
    exact ev_neg (by omega) (Ev.now _)
  | succ m ih =>
    intro n p r D P c hn hm h0 h1 h2
    by_cases hc : n > 0
    · obtain ⟨a, b, p1, r1, e1, ha, hb, u1, v1⟩ := logRecord_is s hs p r h0 (by omega)
      obtain ⟨o, p2, r2, e2, u2, v2⟩ := one_is s hs p1 r1 4 (by omega) (by omega)
      have hz := appQ_size D P c a b h2
      have ea := specApp_ev D P c (by omega) a b (by omega) (by omega)
      generalize appQ D P c a b = q at hz ea
      obtain ⟨D1, P1, c1, w1⟩ := q
      cases o with
      | true =>
        have hz2 := syncQ_size D1 P1 c1 hz
        have es := specSync_ev D1 P1 c1 (by show D1.size + P1.size ≤ 1048576; have : D1.size + P1.size ≤ 24600 := hz; omega)
        generalize syncQ D1 P1 c1 = q2 at hz2 es
        obtain ⟨D2, P2, c2, w2⟩ := q2
        obtain ⟨D', P', c', p', r', e', s', u', v'⟩ := ih (n - 1) p2 r2 D2 P2 c2 (by omega) (by omega) (by omega) (by omega) hz2
        refine ⟨D', P', c', p', r', ?_, s', by omega, by omega⟩
        refine Ev.step (fun k => by simp only [spec_l1Cur_log.l0]; rfl) ?_
        refine ev_pos hc ?_
        refine Ev.bind (ev_eq e1) ?_
        refine Ev.bind ea ?_
        refine Ev.bind (ev_eq e2) ?_
        refine ev_pos (by first | exact trivial | rfl) ?_
        refine Ev.bind es ?_
        rw [wrap_in (show -9223372036854775808 ≤ n - 1 by omega) (by omega)]
        exact e'
      | false =>
        obtain ⟨D', P', c', p', r', e', s', u', v'⟩ := ih (n - 1) p2 r2 D1 P1 c1 (by omega) (by omega) (by omega) (by omega) hz
        refine ⟨D', P', c', p', r', ?_, s', by omega, by omega⟩
        refine Ev.step (fun k => by simp only [spec_l1Cur_log.l0]; rfl) ?_
        refine ev_pos hc ?_
        refine Ev.bind (ev_eq e1) ?_
        refine Ev.bind ea ?_
        refine Ev.bind (ev_eq e2) ?_
        refine ev_neg (by simp) ?_
        rw [wrap_in (show -9223372036854775808 ≤ n - 1 by omega) (by omega)]
        exact e'
    · refine ⟨D, P, c, p, r, ?_, h2, by omega, by omega⟩
      refine Ev.step (fun k => by simp only [spec_l1Cur_log.l0]; rfl) ?_
      exact ev_neg hc (Ev.now _)
theorem log_is (s : List Int) (hs : Bytes s) (p r : Int) (h0 : 0 ≤ p) (h1 : p ≤ 1000000) : ∃ D P c p' r', Ev (fun k => spec_l1Cur_log.f k s p r) (D, P, c, p', r') ∧ D.size + P.size ≤ 24600 ∧ p ≤ p' ∧ p' ≤ p + 150 := by
  obtain ⟨v, p1, r1, e1, a0, a1, u1, v1⟩ := pick_is s hs p r 7 h0 (by omega)
  have q0 : (⟨#[]⟩ : ByteArray).size = 0 := rfl
  obtain ⟨D, P, c, p', r', e', s', u', v'⟩ := log_l0 s hs 7 v p1 r1 (⟨#[]⟩ : ByteArray) (⟨#[]⟩ : ByteArray) 0 (by omega) (by decide) (by omega) (by omega) (by omega)
  refine ⟨D, P, c, p', r', ?_, s', by omega, by omega⟩
  unfold spec_l1Cur_log.f
  exact Ev.bind (ev_eq e1) e'
theorem spoilt_is (s : List Int) (hs : Bytes s) (p r : Int) (h0 : 0 ≤ p) (h1 : p ≤ 1000000) (a u : ByteArray) (ha : a.size ≤ 1000000) (hu : 1 ≤ u.size ∧ u.size ≤ 100) : ∃ v p' r', spec_l1Cur_spoilt.f s p r a u = some (v, p', r') ∧ v.size ≤ a.size + 1 ∧ p ≤ p' ∧ p' ≤ p + 8 := by
  unfold spec_l1Cur_spoilt.f
  by_cases he : a.toList = ([] : List UInt8)
  · rw [if_pos he, if_pos (by decide), if_pos (by omega)]
    exact ⟨_, _, _, rfl, by rw [ByteArray.size_extract]; omega, by omega, by omega⟩
  · rw [if_neg he]
    have ha1 : 1 ≤ a.size := by
      rcases Nat.eq_zero_or_pos a.size with h | h
      · exact absurd (by rw [toList_data]; exact List.length_eq_zero_iff.1 (by rw [← ba_size]; exact h)) he
      · exact h
    obtain ⟨v1, p1, r1, e1, x1, y1, m1, n1⟩ := pick_is s hs p r (a.size : Int) h0 (by omega)
    obtain ⟨v2, p2, r2, e2, x2, y2, m2, n2⟩ := pick_is s hs p1 r1 (u.size : Int) (by omega) (by omega)
    obtain ⟨v3, p3, r3, e3, x3, y3, m3, n3⟩ := pick_is s hs p2 r2 3 (by omega) (by omega)
    have hv1 : v1 < (a.size : Int) := by omega
    have hv2 : v2 < (u.size : Int) := by omega
    obtain ⟨i, rfl⟩ : ∃ i : Nat, v1 = (i : Int) := ⟨v1.toNat, by omega⟩
    obtain ⟨j, rfl⟩ : ∃ j : Nat, v2 = (j : Int) := ⟨v2.toNat, by omega⟩
    have w : wrap64 ((i : Int) + 1) = ((i + 1 : Nat) : Int) := by rw [wrap_in (by omega) (by omega)]; omega
    rw [e1]
    simp only [Option.bind_some, e2]
    rw [if_pos x2, if_pos (by clear w; omega), if_pos (by decide), if_pos (by simp only [Int.toNat_natCast, ByteArray.size_extract]; clear w; omega)]
    rw [e3]
    simp only [Option.bind_some]
    by_cases hv0 : v3 = 0
    · rw [if_pos hv0, if_pos x1, if_pos (by clear w; omega), if_pos (by clear w; omega), if_pos (by clear w; omega)]
      refine ⟨_, _, _, rfl, ?_, by clear w; omega, by clear w; omega⟩
      simp only [ByteArray.size_append, ByteArray.size_extract, Int.toNat_natCast]
      clear w; omega
    · rw [if_neg hv0]
      by_cases hv1 : v3 = 1
      · rw [if_pos hv1, if_pos x1, if_pos (by clear w; omega), if_pos (by clear w; omega), w, if_pos (by clear w; omega), if_pos (by clear w; omega), if_pos (by clear w; omega)]
        refine ⟨_, _, _, rfl, ?_, by clear w; omega, by clear w; omega⟩
        simp only [ByteArray.size_append, ByteArray.size_extract, Int.toNat_natCast]
        clear w; omega
      · rw [if_neg hv1, if_pos x1, if_pos (by clear w; omega), w, if_pos (by clear w; omega), if_pos (by clear w; omega), if_pos (by clear w; omega)]
        refine ⟨_, _, _, rfl, ?_, by clear w; omega, by clear w; omega⟩
        simp only [ByteArray.size_append, ByteArray.size_extract, Int.toNat_natCast]
        clear w; omega
theorem anyLog_is (s : List Int) (hs : Bytes s) (p r : Int) (h0 : 0 ≤ p) (h1 : p ≤ 1000) : ∃ D P c p' r', Ev (fun k => spec_l1Cur_anyLog.f k s p r) (D, P, c, p', r') ∧ D.size + P.size ≤ 60000 ∧ p ≤ p' ∧ p' ≤ p + 200 := by
  obtain ⟨D, P, c, p1, r1, e1, s1, u1, v1⟩ := log_is s hs p r h0 (by omega)
  obtain ⟨v, p2, r2, e2, a0, a1, u2, v2⟩ := pick_is s hs p1 r1 24 (by omega) (by omega)
  have go : (∃ q : ByteArray × ByteArray × Int × Int × Int, Ev (fun _ => if v = 0 then (some (D, P, wrap64 (c + 1), p2, r2)) else (if v = 1 then ((spec_l1Cur_spoilt.f s p2 r2 P (⟨#[35, 64, 10, 48, 49]⟩ : ByteArray)).bind fun bt340 => (some (D, bt340.1, c, bt340.2.1, bt340.2.2))) else (if v = 2 then (if D.size + P.size ≤ 9223372036854775807 then (some (D ++ P, P, c, p2, r2)) else (none)) else (some (D, P, c, p2, r2))))) q ∧ q.1.size + q.2.1.size ≤ 60000 ∧ p ≤ q.2.2.2.1 ∧ q.2.2.2.1 ≤ p + 200) := by
    by_cases hv0 : v = 0
    · exact ⟨_, ev_pos hv0 (Ev.now _), by show D.size + P.size ≤ 60000; omega, by show p ≤ p2; omega, by show p2 ≤ p + 200; omega⟩
    by_cases hv1 : v = 1
    · obtain ⟨x, p3, r3, e3, hx, u3, v3⟩ := spoilt_is s hs p2 r2 (by omega) (by omega) P (⟨#[35, 64, 10, 48, 49]⟩ : ByteArray) (by omega) (by decide)
      refine ⟨(D, x, c, p3, r3), ev_neg hv0 (ev_pos hv1 ?_), by show D.size + x.size ≤ 60000; omega, by show p ≤ p3; omega, by show p3 ≤ p + 200; omega⟩
      rw [e3]
      exact Ev.now _
    by_cases hv2 : v = 2
    · exact ⟨_, ev_neg hv0 (ev_neg hv1 (ev_pos hv2 (ev_pos (by omega) (Ev.now _)))), by show (D ++ P).size + P.size ≤ 60000; rw [ByteArray.size_append]; omega, by show p ≤ p2; omega, by show p2 ≤ p + 200; omega⟩
    · exact ⟨_, ev_neg hv0 (ev_neg hv1 (ev_neg hv2 (Ev.now _))), by show D.size + P.size ≤ 60000; omega, by show p ≤ p2; omega, by show p2 ≤ p + 200; omega⟩
  obtain ⟨⟨D', P', c', p', r'⟩, e', s', u', v'⟩ := go
  refine ⟨D', P', c', p', r', ?_, s', u', v'⟩
  unfold spec_l1Cur_anyLog.f
  refine Ev.bind e1 ?_
  refine Ev.bind (ev_eq e2) ?_
  exact e'

theorem implLogRecs_ok {D P : ByteArray} {c : Int} {l1 l2 : List (ByteArray × ByteArray)} (h : LogIs D P c l1 l2) : Ev (fun k => impl_LogRecords.f k D P c) ((l1 ++ l2).map toR, true) := by
  have hs := h.small
  have e := recordsOf_ev D P c (by omega)
  rw [h.open_all, (logOk_iff D P c).2 ⟨l1, l2, h⟩] at e
  unfold impl_LogRecords.f
  refine Ev.bind e ?_
  exact ev_pos (by first | exact trivial | rfl) (Ev.now _)
theorem recQ_ok {D P : ByteArray} {c : Int} {l1 l2 : List (ByteArray × ByteArray)} (h : LogIs D P c l1 l2) : recQ (D ++ P) = (D ++ P, (⟨#[]⟩ : ByteArray), c, ((D.size + P.size : Nat) : Int), true) := by
  have hs := h.small
  have hz : (D ++ P).size = D.size + P.size := ByteArray.size_append
  have q0 : (⟨#[]⟩ : ByteArray).size = 0 := rfl
  unfold recQ
  rw [if_neg (by omega), h.open_all]
  simp only [q0, Nat.sub_zero]
  have e := ex_app_left (D ++ P) (⟨#[]⟩ : ByteArray) (D ++ P).size rfl
  rw [ba_app_empty] at e
  rw [e, hz, h.2.2.2.2]
theorem syncQ_ok {D P : ByteArray} {c : Int} (h : logOk D P c = true) : syncQ D P c = (D ++ P, (⟨#[]⟩ : ByteArray), c, true) := by
  unfold syncQ
  rw [if_pos h]
theorem rdR {l : List S27} {i : Nat} {x : S27} {r : List S27} (hd : l.drop i = x :: r) : rd_T27 l (i : Int) = x := by rw [rd_T27, Int.toNat_natCast]; exact (getD_at hd).2.1
theorem fnlog_l0 (old : List S27) (a b : ByteArray) (D P : ByteArray) (c : Int) (D2 P2 : ByteArray) (c2 : Int) (hv : Ev (fun k => impl_IsValidLog.f k D P c) true) (hsz : D.size + P.size ≤ 9223372036854775807) (hl : old.length ≤ 1000) :
    Ev (fun k => laws_FnLog.l0 k (old ++ [(⟨a, b⟩ : S27)]) old ((D.size : Int) + (P.size : Int)) true true 0 a b D P c D2 P2 c2 D2 P2 c2) true := by
  refine list_ind0 old (fun i rest => Ev (fun k => laws_FnLog.l0 k (old ++ [(⟨a, b⟩ : S27)]) old ((D.size : Int) + (P.size : Int)) true true i a b D P c D2 P2 c2 D2 P2 c2) true) ?_ ?_
  · have hr : rd_T27 (old ++ [(⟨a, b⟩ : S27)]) (old.length : Int) = ⟨a, b⟩ := by
      rw [rd_T27, Int.toNat_natCast, List.getD_eq_getElem?_getD, List.getElem?_append_right (Nat.le_refl _), Nat.sub_self]
      rfl
    have hn : (old ++ [(⟨a, b⟩ : S27)]).length = old.length + 1 := by simp
    refine Ev.step (fun k => by simp only [laws_FnLog.l0]; rfl) ?_
    rw [hr]
    refine ev_neg (by omega) (ev_pos (by omega) (ev_pos (by omega) ?_))
    refine ev_pos (by simp) (ev_pos (by first | exact trivial | rfl) (ev_pos hsz (ev_pos (by first | exact trivial | rfl) (ev_pos (by first | exact trivial | rfl) (ev_pos (by simp) ?_)))))
    exact Ev.bind hv (Ev.now _)
  · intro i x rest hi hd ih
    have h1 := rdR hd
    have h2 : rd_T27 (old ++ [(⟨a, b⟩ : S27)]) (i : Int) = x := by
      rw [rd_T27, Int.toNat_natCast, List.getD_eq_getElem?_getD, List.getElem?_append_left hi, ← List.getD_eq_getElem?_getD]
      exact (getD_at hd).2.1
    have hn : (old ++ [(⟨a, b⟩ : S27)]).length = old.length + 1 := by simp
    refine Ev.step (fun k => by simp only [laws_FnLog.l0]; rfl) ?_
    rw [h1, h2]
    refine ev_pos (by omega) (ev_pos (by omega) (ev_pos (by omega) (ev_neg (by simp) ?_)))
    rw [wrap_in (show -9223372036854775808 ≤ (i : Int) + 1 by omega) (by omega)]
    exact ih
theorem draw_l0 (s : List Int) (hs : Bytes s) : ∀ (m : Nat) (n p r : Int) (D P : ByteArray) (c : Int), n ≤ m → m ≤ 100 → 0 ≤ p → p ≤ 1000000 → D.size + P.size ≤ 24600 → ∃ D' P' c' a b, Ev (fun k => spec_DrawAppendRecord.l0 k n s p r D P c) (D', P', c', a, b) ∧ D'.size + P'.size ≤ 24600 ∧ a.size ≤ 100 ∧ b.size ≤ 100 := by
  have stop : ∀ (n p r : Int) (D P : ByteArray) (c : Int), ¬ n > 0 → 0 ≤ p → p ≤ 1000000 → D.size + P.size ≤ 24600 → ∃ D' P' c' a b, Ev (fun k => spec_DrawAppendRecord.l0 k n s p r D P c) (D', P', c', a, b) ∧ D'.size + P'.size ≤ 24600 ∧ a.size ≤ 100 ∧ b.size ≤ 100 := by
    intro n p r D P c hn h0 h1 h2
    obtain ⟨a, b, p1, r1, e1, ha, hb, _, _⟩ := logRecord_is s hs p r h0 (by omega)
    refine ⟨D, P, c, a, b, ?_, h2, ha, hb⟩
    refine Ev.step (fun k => by simp only [spec_DrawAppendRecord.l0]; rfl) ?_
    refine ev_neg hn ?_
    exact Ev.bind (ev_eq e1) (Ev.now _)
  intro m
  induction m with
  | zero => intro n p r D P c hn hm h0 h1 h2; exact stop n p r D P c (by omega) h0 h1 h2
  | succ m ih =>
    intro n p r D P c hn hm h0 h1 h2
    by_cases hc : n > 0
    · have hz := appQ_size D P c (⟨#[120]⟩ : ByteArray) (⟨#[]⟩ : ByteArray) h2
      have ea := specApp_ev D P c (by omega) (⟨#[120]⟩ : ByteArray) (⟨#[]⟩ : ByteArray) (by decide) (by decide)
      generalize appQ D P c (⟨#[120]⟩ : ByteArray) (⟨#[]⟩ : ByteArray) = q at hz ea
      obtain ⟨D1, P1, c1, w1⟩ := q
      obtain ⟨D', P', c', a, b, e', s', ha, hb⟩ := ih (n - 1) p r D1 P1 c1 (by omega) (by omega) h0 h1 hz
      refine ⟨D', P', c', a, b, ?_, s', ha, hb⟩
      refine Ev.step (fun k => by simp only [spec_DrawAppendRecord.l0]; rfl) ?_
      refine ev_pos hc ?_
      refine Ev.bind ea ?_
      rw [wrap_in (show -9223372036854775808 ≤ n - 1 by omega) (by omega)]
      exact e'
    · exact stop n p r D P c hc h0 h1 h2
theorem drawApp_is (s : List Int) (hs : Bytes s) : ∃ D P c a b, Ev (fun k => spec_DrawAppendRecord.f k s) (D, P, c, a, b) ∧ D.size + P.size ≤ 60000 ∧ a.size ≤ 100 ∧ b.size ≤ 100 := by
  obtain ⟨D, P, c, p1, r1, e1, s1, u1, v1⟩ := anyLog_is s hs 0 0 (by omega) (by omega)
  obtain ⟨o, p2, r2, e2, u2, v2⟩ := one_is s hs p1 r1 40 (by omega) (by omega)
  unfold spec_DrawAppendRecord.f
  cases o with
  | true =>
    obtain ⟨v, p3, r3, e3, a0, a1, u3, v3⟩ := pick_is s hs p2 r2 2 (by omega) (by omega)
    have q0 : (⟨#[]⟩ : ByteArray).size = 0 := rfl
    obtain ⟨D', P', c', a, b, e', s', ha, hb⟩ := draw_l0 s hs 61 (59 + v) p3 r3 (⟨#[]⟩ : ByteArray) (⟨#[]⟩ : ByteArray) 0 (by omega) (by decide) (by omega) (by omega) (by omega)
    refine ⟨D', P', c', a, b, ?_, by omega, ha, hb⟩
    refine Ev.bind e1 ?_
    refine Ev.bind (ev_eq e2) ?_
    refine ev_pos (by first | exact trivial | rfl) ?_
    refine Ev.bind (ev_eq e3) ?_
    rw [wrap_in (show -9223372036854775808 ≤ 59 + v by omega) (by omega)]
    exact e'
  | false =>
    obtain ⟨a, b, p3, r3, e3, ha, hb, _, _⟩ := logRecord_is s hs p2 r2 (by omega) (by omega)
    refine ⟨D, P, c, a, b, ?_, s1, ha, hb⟩
    refine Ev.bind e1 ?_
    refine Ev.bind (ev_eq e2) ?_
    refine ev_neg (by simp) ?_
    exact Ev.bind (ev_eq e3) (Ev.now _)
theorem specValid_ev (D P : ByteArray) (c : Int) (hs : D.size + P.size ≤ 1048576) : Ev (fun k => spec_IsValidLog.f k D P c) (logOk D P c) := by unfold spec_IsValidLog.f; exact Ev.bind (specLog_ev D P c hs) (Ev.now _)
theorem specRecord_ev (a b : ByteArray) (ha : a.size ≤ 1048576) (hb : b.size ≤ 1048576) : Ev (fun k => spec_IsValidRecord.f k a b) (recOk a b) := by unfold spec_IsValidRecord.f; exact Ev.bind (good_ev a b ha hb) (Ev.now _)
theorem fnlog_no (D P : ByteArray) (c : Int) (a b : ByteArray) (w : Int) (hw : ¬ w = 0) : Ev (fun k => laws_FnLog.j0 k w false D P c a b D P c) true := by
  refine Ev.step (fun k => by simp only [laws_FnLog.j0]; rfl) ?_
  refine ev_neg (by simp) (ev_neg hw ?_)
  have e : (D.toList == D.toList && (P.toList == P.toList && (c == c))) = true := by simp
  rw [e]
  exact Ev.now _
theorem fnlog_yes {D P : ByteArray} {c : Int} {l1 l2 : List (ByteArray × ByteArray)} (h : LogIs D P c l1 l2) (a b : ByteArray) (hr : recOk a b = true) (hc : c < 60) : Ev (fun k => laws_FnLog.j0 k 0 false D P c a b D (P ++ lineB c a b) (c + 1)) true := by
  have h' := h.append hr hc
  have hs' := h'.small
  have hk := (logOk_iff _ _ _).2 ⟨_, _, h'⟩
  have e1 := implLogRecs_ok h'
  have e2 := implLogRecs_ok h
  have e3 := implRecover_ev (D ++ (P ++ lineB c a b)) (by rw [ByteArray.size_append]; omega)
  rw [recQ_ok h'] at e3
  have e4 := implSync_ev D (P ++ lineB c a b) (c + 1) (by omega)
  rw [syncQ_ok hk] at e4
  have e5 := implLog_ev D (P ++ lineB c a b) (c + 1) (by omega)
  rw [hk] at e5
  have hc' := h'.2.2.2.2
  have hle := h.2.1
  have em : List.map toR (l1 ++ (l2 ++ [(a, b)])) = List.map toR (l1 ++ l2) ++ [(⟨a, b⟩ : S27)] := by simp [toR]
  rw [em] at e1
  have hlo : (List.map toR (l1 ++ l2)).length = (l1 ++ l2).length := List.length_map ..
  have hz : (l1 ++ (l2 ++ [(a, b)])).length = (l1 ++ l2).length + 1 := by simp [Nat.add_assoc]
  have eloop := fnlog_l0 (List.map toR (l1 ++ l2)) a b D (P ++ lineB c a b) (c + 1) (D ++ (P ++ lineB c a b)) (⟨#[]⟩ : ByteArray) (c + 1) e5 (by omega) (by omega)
  generalize List.map toR (l1 ++ l2) = old at *
  have hn : (old ++ [(⟨a, b⟩ : S27)]).length = old.length + 1 := by simp
  generalize P ++ lineB c a b = P' at *
  refine Ev.step (fun k => by simp only [laws_FnLog.j0]; rfl) ?_
  refine ev_neg (by simp) (ev_pos (by first | exact trivial | rfl) ?_)
  refine Ev.bind e1 ?_
  refine Ev.bind e2 ?_
  refine ev_pos (by omega) ?_
  refine Ev.bind e3 ?_
  refine Ev.bind e4 ?_
  refine ev_pos (by first | exact trivial | rfl) ?_
  refine ev_pos ?_ ?_
  · show ((old ++ [(⟨a, b⟩ : S27)]).length : Int) = wrap64 ((old.length : Int) + 1)
    rw [wrap_in (by omega) (by omega), hn]; omega
  · have en : (c + 1 != ((old ++ [(⟨a, b⟩ : S27)]).length : Int)) = false := by rw [bne_eq_false_iff_eq, hn]; omega
    show Ev (fun k => laws_FnLog.j1 k (old ++ [(⟨a, b⟩ : S27)]) old ((D.size + P'.size : Nat) : Int) true true (c + 1 != ((old ++ [(⟨a, b⟩ : S27)]).length : Int)) a b D P' (c + 1) (D ++ P') (⟨#[]⟩ : ByteArray) (c + 1) (D ++ P') (⟨#[]⟩ : ByteArray) (c + 1)) true
    rw [en]
    refine Ev.step (fun k => by simp only [laws_FnLog.j1]; rfl) ?_
    exact ev_neg (by simp) eloop
theorem FnLog : XGFnLog.Pure := by
  intro s hb
  have hs := bytes_of hb
  refine Ev.rounds ?_
  unfold laws_FnLog.f laws_vBig.f
  refine Ev.bind (Ev.now _) ?_
  by_cases hbig : (decide ((s.length : Int) > 65536)) = true
  · exact ev_pos hbig (Ev.now _)
  refine ev_neg hbig ?_
  obtain ⟨D, P, c, a, b, e1, zsz, ha, hb'⟩ := drawApp_is s hs
  refine Ev.bind e1 ?_
  have ea := implApp_ev D P c (by omega) a b (by omega) (by omega)
  have eb := specApp_ev D P c (by omega) a b (by omega) (by omega)
  have ev1 := implLog_ev D P c (by omega)
  have ev2 := specValid_ev D P c (by omega)
  have er1 := isRecord_ev a b (by omega) (by omega)
  have er2 := specRecord_ev a b (by omega) (by omega)
  have fin : Ev (fun k => laws_FnLog.j0 k (appQ D P c a b).2.2.2 false D P c a b (appQ D P c a b).1 (appQ D P c a b).2.1 (appQ D P c a b).2.2.1) true := by
    unfold appQ
    cases q : (logOk D P c && recOk a b) with
    | false => rw [if_neg (by decide)]; exact fnlog_no D P c a b 1 (by decide)
    | true =>
      rw [if_pos rfl]
      simp only [Bool.and_eq_true] at q
      obtain ⟨c0, c1, _⟩ := logOk_count q.1
      obtain ⟨l1, l2, hl⟩ := (logOk_iff D P c).1 q.1
      by_cases h60 : c = 60
      · rw [if_pos h60]; exact fnlog_no D P c a b 2 (by decide)
      · rw [if_neg h60]; exact fnlog_yes hl a b q.2 (by omega)
  generalize appQ D P c a b = q at *
  generalize logOk D P c = v at *
  generalize recOk a b = w at *
  refine Ev.bind ea ?_
  refine Ev.bind eb ?_
  refine ev_neg (by simp) (ev_pos (by first | exact trivial | rfl) ?_)
  refine Ev.bind ev1 ?_
  refine Ev.bind ev2 ?_
  refine ev_neg (by simp) ?_
  refine Ev.bind er1 ?_
  refine Ev.bind er2 ?_
  rw [bne_self_eq_false]
  exact fin

end Go.Proofs.YtmhmeifdnleoaaaDoor.Pure

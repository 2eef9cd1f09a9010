/- The pure statement of the law FnExactEncodeRecord, proved: what the program computes agrees with the reference, in plain Lean. -/
import Derived.Test.YtmhmeifdnleoaaaDoorXGFnExactEncodeRecord
import Derived.Test.YtmhmeifdnleoaaaDoorXPlain
import Derived.Lib.ItoaLen
set_option linter.unusedVariables false
set_option linter.unusedSimpArgs false
namespace Go.Proofs.YtmhmeifdnleoaaaDoor.Pure
open Go.RowKit Go.Proofs.YtmhmeifdnleoaaaDoor Go.Proofs.YtmhmeifdnleoaaaDoor.XFnExactEncodeRecord Go.Proofs.YtmhmeifdnleoaaaDoor.XGFnExactEncodeRecord Go.Proofs.YtmhmeifdnleoaaaDoorW.PrintWords Go.Proofs.YtmhmeifdnleoaaaDoorW.PrintLast Go.Proofs.YtmhmeifdnleoaaaDoor.Plain

theorem l1In_eq (a b c : Int) : spec_l1In.f a b c = some (decide (b ≤ a) && decide (a ≤ c)) := by
  unfold spec_l1In.f
  by_cases h : a ≥ b
  · rw [if_pos h, decide_eq_true (show b ≤ a from h), Bool.true_and]
  · rw [if_neg h, decide_eq_false (show ¬ b ≤ a from h), Bool.false_and]
theorem within_eq (a b c : Int) : impl_within.f a b c = some (decide (b ≤ a) && decide (a ≤ c)) := by
  unfold impl_within.f
  by_cases h : a ≥ b
  · rw [if_pos h, decide_eq_true (show b ≤ a from h), Bool.true_and]
  · rw [if_neg h, decide_eq_false (show ¬ b ≤ a from h), Bool.false_and]

def good (b : UInt8) : Bool := decide (32 ≤ b.toNat) && decide (b.toNat ≤ 126)

theorem plain_ev (s : ByteArray) (m : Int) (hs : s.size ≤ 9223372036854775807) :
    Ev (fun k => spec_l27Plain.f k s m) (s.data.toList.all (fun b => good b && !(b.toNat == 35)) && decide ((s.size : Int) ≤ m)) := by
  unfold spec_l27Plain.f
  refine bytes_ind0 s (fun i rest => Ev (fun k => spec_l27Plain.l0 k s m i) (rest.all (fun b => good b && !(b.toNat == 35)) && decide ((s.size : Int) ≤ m))) ?_ ?_
  · refine Ev.step (fun k => by simp only [spec_l27Plain.l0]; rfl) ?_
    simp only [Int.lt_irrefl, if_false, List.all_nil, Bool.true_and]
    exact Ev.now _
  · intro i b rest hi hb hd ih
    refine Ev.step (fun k => by simp only [spec_l27Plain.l0]; rfl) ?_
    simp only [if_pos (show (i : Int) < (s.size : Int) by omega), if_pos (show (0 : Int) ≤ i by omega), hb, wrap_byte, l1In_eq, Option.bind_some, wrap_in (show -9223372036854775808 ≤ (i : Int) + 1 by omega) (by omega), List.all_cons, good]
    by_cases h : 32 ≤ b.toNat ∧ b.toNat ≤ 126
    · simp only [if_pos (show (decide (32 ≤ (b.toNat : Int)) && decide ((b.toNat : Int) ≤ 126)) = true by simp; omega), decide_eq_true h.1, decide_eq_true h.2, Bool.true_and]
      by_cases h2 : b.toNat = 35
      · simp only [h2]
        exact Ev.now _
      · simp only [if_neg (show ¬ (b.toNat : Int) = 35 by omega), beq_eq_false_iff_ne.2 h2, Bool.not_false, Bool.true_and]
        exact ih
    · simp only [if_neg (show ¬ (decide (32 ≤ (b.toNat : Int)) && decide ((b.toNat : Int) ≤ 126)) = true by simp; omega)]
      refine Ev.some ?_
      have : (decide (32 ≤ b.toNat) && decide (b.toNat ≤ 126)) = false := by simp; omega
      rw [this]
      simp

theorem stands_ev (s : ByteArray) (c : Nat) (hs : s.size ≤ 9223372036854775807) : Ev (fun k => spec_l1Stands.f k s c) (s.data.toList.any (fun b => b.toNat == c)) := by
  unfold spec_l1Stands.f
  refine bytes_ind0 s (fun i rest => Ev (fun k => spec_l1Stands.l0 k s c i) (rest.any (fun b => b.toNat == c))) ?_ ?_
  · refine Ev.step (fun k => by simp only [spec_l1Stands.l0]; rfl) ?_
    simp only [Int.lt_irrefl, if_false, List.any_nil]
    exact Ev.now _
  · intro i b rest hi hb hd ih
    refine Ev.step (fun k => by simp only [spec_l1Stands.l0]; rfl) ?_
    simp only [if_pos (show (i : Int) < (s.size : Int) by omega), if_pos (show (0 : Int) ≤ i by omega), hb, wrap_in (show -9223372036854775808 ≤ (i : Int) + 1 by omega) (by omega), List.any_cons]
    by_cases h : b.toNat = c
    · simp only [if_pos (show (b.toNat : Int) = c by omega), beq_iff_eq.2 h, Bool.true_or]
      exact Ev.now _
    · simp only [if_neg (show ¬ (b.toNat : Int) = c by omega), beq_eq_false_iff_ne.2 h, Bool.false_or]
      exact ih

theorem containsAny_eq (l chars : List UInt8) : Lib.containsAny l chars = l.any (fun b => chars.contains b) := by
  have key : ∀ l : List UInt8, (0 ≤ Lib.indexAny l chars ↔ l.any (fun b => chars.contains b) = true) := by
    intro l
    induction l with
    | nil => simp [Lib.indexAny]
    | cons b l ih =>
      have hge := Lib.indexAny_ge chars l
      rw [Lib.indexAny, List.any_cons]
      by_cases h : chars.contains b = true
      · rw [if_pos h, h]; simp
      · rw [if_neg h, Bool.eq_false_iff.2 h, Bool.false_or, ← ih]
        by_cases h2 : Lib.indexAny l chars = -1
        · simp [h2]
        · simp only [beq_eq_false_iff_ne.2 h2]
          simp only [Bool.false_eq_true, if_false]
          omega
  unfold Lib.containsAny
  rw [Bool.eq_iff_iff, decide_eq_true_iff]
  exact key l

theorem ascii_good {s : ByteArray} (h : s.data.toList.all good = true) : ascii s = true := by
  unfold ascii
  rw [List.all_eq_true] at h ⊢
  intro b hb
  have := h b hb
  simp only [good, Bool.and_eq_true, decide_eq_true_eq] at this
  simp only [decide_eq_true_eq]
  omega

theorem printable_ev (s w : ByteArray) (hs : s.size ≤ 1048576) (hw : w.size ≤ 100) (ha : ascii w = true) :
    Ev (fun k => impl_isPrintable.f k s w) (s.data.toList.all good && !(s.data.toList.any (fun b => w.data.toList.contains b))) := by
  unfold impl_isPrintable.f
  by_cases hg : s.data.toList.all good = true
  · rw [hg, Bool.true_and]
    have := bytes_ind0 s (fun i rest => rest.all good = true → Ev (fun k => impl_isPrintable.l0 k s w (s.size : Int) i) (!(s.data.toList.any (fun b => w.data.toList.contains b)))) ?_ ?_
    · exact this hg
    · intro _
      refine Ev.step (fun k => by simp only [impl_isPrintable.l0]; rfl) ?_
      have hc : strings_ContainsAny.f s w = some (s.data.toList.any (fun b => w.data.toList.contains b)) := by
        unfold strings_ContainsAny.f
        rw [if_pos ⟨by omega, by omega, ascii_good hg, ha⟩, containsAny_eq]
      simp only [Int.lt_irrefl, if_false, hc, Option.bind_some]
      exact Ev.now _
    · intro i b rest hi hb hd ih hall
      rw [List.all_cons, Bool.and_eq_true] at hall
      have h1 := hall.1
      simp only [good, Bool.and_eq_true, decide_eq_true_eq] at h1
      refine Ev.step (fun k => by simp only [impl_isPrintable.l0]; rfl) ?_
      simp only [if_pos (show (i : Int) < (s.size : Int) by omega), if_pos (show (0 : Int) ≤ i by omega), hb, wrap_in (show -9223372036854775808 ≤ (i : Int) + 1 by omega) (by omega), if_neg (show ¬ (b.toNat : Int) < 32 by omega), if_neg (show ¬ (b.toNat : Int) > 126 by omega)]
      exact ih hall.2
  · rw [Bool.eq_false_iff.2 hg, Bool.false_and]
    have := bytes_ind0 s (fun i rest => rest.all good = false → Ev (fun k => impl_isPrintable.l0 k s w (s.size : Int) i) false) ?_ ?_
    · exact this (Bool.eq_false_iff.2 hg)
    · intro h; simp at h
    · intro i b rest hi hb hd ih hall
      refine Ev.step (fun k => by simp only [impl_isPrintable.l0]; rfl) ?_
      simp only [if_pos (show (i : Int) < (s.size : Int) by omega), if_pos (show (0 : Int) ≤ i by omega), hb, wrap_in (show -9223372036854775808 ≤ (i : Int) + 1 by omega) (by omega)]
      by_cases h1 : b.toNat < 32
      · simp only [if_pos (show (b.toNat : Int) < 32 by omega)]
        exact Ev.now _
      · by_cases h2 : b.toNat > 126
        · simp only [if_neg (show ¬ (b.toNat : Int) < 32 by omega), if_pos (show (b.toNat : Int) > 126 by omega)]
          exact Ev.now _
        · simp only [if_neg (show ¬ (b.toNat : Int) < 32 by omega), if_neg (show ¬ (b.toNat : Int) > 126 by omega)]
          refine ih ?_
          rw [List.all_cons] at hall
          have hb' : good b = true := by simp only [good, Bool.and_eq_true, decide_eq_true_eq]; omega
          rw [hb', Bool.true_and] at hall
          exact hall

theorem recSpec_ev (a b : ByteArray) (ha : a.size ≤ 1048576) (hb : b.size ≤ 1048576) :
    Ev (fun k => spec_l27Good.f k a b) (decide (a.size ≠ 0) && (a.data.toList.all (fun b => good b && !(b.toNat == 35)) && decide ((a.size : Int) ≤ 160)) && !(a.data.toList.any (fun b => b.toNat == 64)) && (b.data.toList.all (fun b => good b && !(b.toNat == 35)) && decide ((b.size : Int) ≤ 200))) := by
  unfold spec_l27Good.f
  by_cases h0 : a.size = 0
  · simp only [if_pos ((list_nil_iff a).2 h0), h0]
    exact Ev.now _
  · simp only [if_neg (fun h => h0 ((list_nil_iff a).1 h)), decide_eq_true h0, Bool.true_and]
    refine Ev.bind (plain_ev a 160 (by omega)) ?_
    cases h1 : (a.data.toList.all (fun b => good b && !(b.toNat == 35)) && decide ((a.size : Int) ≤ 160)) with
    | false => simp only [Bool.false_eq_true, if_false, Bool.false_and]; exact Ev.now _
    | true =>
      simp only [if_true, Bool.true_and]
      refine Ev.bind (stands_ev a 64 (by omega)) ?_
      cases h2 : a.data.toList.any (fun b => b.toNat == 64) with
      | true => simp only [if_true, Bool.not_true, Bool.false_and]; exact Ev.now _
      | false =>
        simp only [Bool.false_eq_true, if_false, Bool.not_false, Bool.true_and]
        exact Ev.bind (f := fun k t => some t) (plain_ev b 200 (by omega)) (Ev.now _)

theorem recImpl_ev (a b : ByteArray) (ha : a.size ≤ 1048576) (hb : b.size ≤ 1048576) :
    Ev (fun k => impl_IsValidRecord.f k a b) (((decide (1 ≤ (a.size : Int)) && decide ((a.size : Int) ≤ 160)) && (a.data.toList.all good && !(a.data.toList.any (fun b => ([35, 64] : List UInt8).contains b)))) && (decide ((b.size : Int) ≤ 200) && (b.data.toList.all good && !(b.data.toList.any (fun b => ([35] : List UInt8).contains b))))) := by
  unfold impl_IsValidRecord.f impl_isCommand.f
  have hin : Ev (fun k => (impl_within.f (a.size : Int) 1 160).bind fun t113 => (if t113 = true then ((impl_isPrintable.f k a (⟨#[35, 64]⟩ : ByteArray)).bind fun t114 => (some t114)) else (some false))) ((decide (1 ≤ (a.size : Int)) && decide ((a.size : Int) ≤ 160)) && (a.data.toList.all good && !(a.data.toList.any (fun b => ([35, 64] : List UInt8).contains b)))) := by
    simp only [within_eq, Option.bind_some]
    cases h1 : (decide (1 ≤ (a.size : Int)) && decide ((a.size : Int) ≤ 160)) with
    | false => simp only [Bool.false_eq_true, if_false, Bool.false_and]; exact Ev.now _
    | true =>
      simp only [if_true, Bool.true_and]
      exact Ev.bind (f := fun k t => some t) (printable_ev a ⟨#[35, 64]⟩ ha (by decide) (by decide)) (Ev.now _)
  refine Ev.bind hin ?_
  cases h1 : ((decide (1 ≤ (a.size : Int)) && decide ((a.size : Int) ≤ 160)) && (a.data.toList.all good && !(a.data.toList.any (fun b => ([35, 64] : List UInt8).contains b)))) with
  | false => simp only [Bool.false_eq_true, if_false, Bool.false_and]; exact Ev.now _
  | true =>
    simp only [if_true, Bool.true_and]
    by_cases h2 : (b.size : Int) ≤ 200
    · simp only [if_pos h2, decide_eq_true h2, Bool.true_and]
      exact Ev.bind (f := fun k t => some t) (printable_ev b ⟨#[35]⟩ hb (by decide) (by decide)) (Ev.now _)
    · simp only [if_neg h2, decide_eq_false h2, Bool.false_and]
      exact Ev.now _

theorem all_and (l : List UInt8) (p q : UInt8 → Bool) : l.all (fun b => p b && q b) = (l.all p && l.all q) := by
  induction l with
  | nil => rfl
  | cons b l ih => rw [List.all_cons, List.all_cons, List.all_cons, ih]; cases p b <;> cases q b <;> cases l.all p <;> rfl
theorem all_not (l : List UInt8) (q : UInt8 → Bool) : l.all (fun b => !q b) = !l.any q := by
  induction l with
  | nil => rfl
  | cons b l ih => rw [List.all_cons, List.any_cons, ih]; cases q b <;> cases l.any q <;> rfl
theorem any_or (l : List UInt8) (p q : UInt8 → Bool) : l.any (fun b => p b || q b) = (l.any p || l.any q) := by
  induction l with
  | nil => rfl
  | cons b l ih => rw [List.any_cons, List.any_cons, List.any_cons, ih]; cases p b <;> cases q b <;> cases l.any p <;> rfl
theorem c2 : (fun b : UInt8 => ([35, 64] : List UInt8).contains b) = fun b => (b.toNat == 35) || (b.toNat == 64) := by
  funext b
  rw [Bool.eq_iff_iff]
  simp [← UInt8.toNat_inj]
theorem c1 : (fun b : UInt8 => ([35] : List UInt8).contains b) = fun b => (b.toNat == 35) := by
  funext b
  rw [Bool.eq_iff_iff]
  simp [← UInt8.toNat_inj]

theorem rec_same (a b : ByteArray) : (decide (a.size ≠ 0) && (a.data.toList.all (fun b => good b && !(b.toNat == 35)) && decide ((a.size : Int) ≤ 160)) && !(a.data.toList.any (fun b => b.toNat == 64)) && (b.data.toList.all (fun b => good b && !(b.toNat == 35)) && decide ((b.size : Int) ≤ 200)))
    = (((decide (1 ≤ (a.size : Int)) && decide ((a.size : Int) ≤ 160)) && (a.data.toList.all good && !(a.data.toList.any (fun b => ([35, 64] : List UInt8).contains b)))) && (decide ((b.size : Int) ≤ 200) && (b.data.toList.all good && !(b.data.toList.any (fun b => ([35] : List UInt8).contains b))))) := by
  rw [c1, c2, all_and, all_and, all_not, all_not, any_or]
  have h : decide (a.size ≠ 0) = decide (1 ≤ (a.size : Int)) := by
    rw [Bool.eq_iff_iff, decide_eq_true_iff, decide_eq_true_iff]; omega
  rw [h]
  cases decide (1 ≤ (a.size : Int)) <;> cases decide ((a.size : Int) ≤ 160) <;> cases decide ((b.size : Int) ≤ 200) <;> cases a.data.toList.all good <;> cases b.data.toList.all good <;> cases a.data.toList.any (fun b => b.toNat == 35) <;> cases a.data.toList.any (fun b => b.toNat == 64) <;> cases b.data.toList.any (fun b => b.toNat == 35) <;> rfl

def itoaB (n : Int) : ByteArray := ⟨(Lib.itoa n).toArray⟩
theorem size_of_list (l : List UInt8) : (⟨l.toArray⟩ : ByteArray).size = l.length := by simp [ByteArray.size]
theorem digit_cut (u : Fin 10) : (⟨#[48, 49, 50, 51, 52, 53, 54, 55, 56, 57]⟩ : ByteArray).extract u.val (u.val + 1) = ⟨[UInt8.ofNat (48 + u.val)].toArray⟩ := by
  revert u; decide +kernel
theorem append_lists (a b : List UInt8) : (⟨a.toArray⟩ : ByteArray) ++ ⟨b.toArray⟩ = ⟨(a ++ b).toArray⟩ := by
  apply ByteArray.ext
  simp
theorem num_nat (u : Nat) : u ≤ 9223372036854775807 → Ev (fun k => spec_l1Num.f k u) ⟨(Lib.decDigits u).toArray⟩ := by
  induction u using Nat.strongRecOn with
  | _ u ih =>
  intro hu
  refine Ev.step (fun k => by simp only [spec_l1Num.f]; rfl) ?_
  simp only [if_neg (show ¬ (u : Int) < 0 by omega)]
  by_cases h : u < 10
  · simp only [if_pos (show (u : Int) < 10 by omega), if_pos (show (0 : Int) ≤ u by omega), wrap_in (show -9223372036854775808 ≤ (u : Int) + 1 by omega) (by omega), if_pos (show (u : Int) ≤ u + 1 by omega), if_pos (show (u : Int) + 1 ≤ 10 by omega)]
    refine Ev.some ?_
    rw [Lib.decDigits_one h, Int.toNat_natCast, show ((u : Int) + 1).toNat = u + 1 by omega]
    exact digit_cut ⟨u, h⟩
  · have hd : Int.tdiv (u : Int) 10 = ((u / 10 : Nat) : Int) := by rw [Int.tdiv_eq_ediv_of_nonneg (by omega)]; omega
    have hm : Int.tmod (u : Int) 10 = ((u % 10 : Nat) : Int) := by rw [Int.tmod_eq_emod_of_nonneg (by omega)]; omega
    have h10 : u % 10 < 10 := Nat.mod_lt _ (by decide)
    simp only [if_neg (show ¬ (u : Int) < 10 by omega), hd, hm, wrap_in (show -9223372036854775808 ≤ ((u / 10 : Nat) : Int) by omega) (by omega)]
    refine Ev.bind (ih (u / 10) (by omega) (by omega)) ?_
    have hl : (Lib.decDigits (u / 10)).length ≤ 20 := by rw [Lib.decDigits_length]; exact Lib.nDigits_le20 _ (by omega)
    have e : Lib.decDigits u = Lib.decDigits (u / 10) ++ [UInt8.ofNat (48 + u % 10)] := by rw [Lib.decDigits, dif_neg h]
    simp only [if_pos (show (0 : Int) ≤ ((u % 10 : Nat) : Int) by omega), wrap_in (show -9223372036854775808 ≤ ((u % 10 : Nat) : Int) + 1 by omega) (by omega), if_pos (show ((u % 10 : Nat) : Int) ≤ ((u % 10 : Nat) : Int) + 1 by omega), if_pos (show ((u % 10 : Nat) : Int) + 1 ≤ 10 by omega), Int.toNat_natCast, show (((u % 10 : Nat) : Int) + 1).toNat = u % 10 + 1 by omega, size_of_list]
    rw [if_pos (show (Lib.decDigits (u / 10)).length + (u % 10 + 1 - u % 10) ≤ 9223372036854775807 by omega)]
    refine Ev.some ?_
    rw [e, digit_cut ⟨u % 10, h10⟩, append_lists]
theorem num_ev (n : Int) (h0 : -9223372036854775807 ≤ n) (h1 : n ≤ 9223372036854775807) : Ev (fun k => spec_l1Num.f k n) (itoaB n) := by
  unfold itoaB
  by_cases h : n < 0
  · obtain ⟨u, rfl⟩ : ∃ u : Nat, n = -(u : Int) := ⟨n.natAbs, by omega⟩
    refine Ev.step (fun k => by simp only [spec_l1Num.f]; rfl) ?_
    simp only [if_pos h, Int.neg_neg, wrap_in (show -9223372036854775808 ≤ (u : Int) by omega) (by omega)]
    refine Ev.bind (num_nat u (by omega)) ?_
    have hl : (Lib.decDigits u).length ≤ 20 := by rw [Lib.decDigits_length]; exact Lib.nDigits_le20 _ (by omega)
    rw [if_pos (by rw [size_of_list]; omega)]
    refine Ev.some ?_
    rw [Lib.itoa_neg u (by omega)]
    exact append_lists [45] _
  · obtain ⟨u, rfl⟩ : ∃ u : Nat, n = (u : Int) := ⟨n.toNat, by omega⟩
    rw [Lib.itoa_nonneg]
    exact num_nat u (by omega)
theorem itoaB_size (n : Int) (h0 : -9223372036854775808 ≤ n) (h1 : n ≤ 9223372036854775807) : (itoaB n).size ≤ 21 := by
  unfold itoaB
  rw [size_of_list]
  exact Lib.itoa_length_le n h0 h1
theorem decimal_eq (n : Int) (h0 : -9223372036854775808 ≤ n) (h1 : n ≤ 9223372036854775807) : impl_decimal.f n = some (itoaB n) := by
  unfold impl_decimal.f strconv_Itoa.f
  rw [if_pos ⟨h0, h1⟩]
  rfl

def sumStep (h : Int) (b : UInt8) : Int := (41 * h + (b.toNat : Int) + 1) % 999979
def sumL (l : List UInt8) (h : Int) : Int := l.foldl sumStep h
theorem sumStep_in (h : Int) (b : UInt8) : 0 ≤ sumStep h b ∧ sumStep h b ≤ 999978 := by unfold sumStep; omega
theorem sumL_in (l : List UInt8) (h : Int) (h0 : 0 ≤ h ∧ h ≤ 999978) : 0 ≤ sumL l h ∧ sumL l h ≤ 999978 := by
  induction l generalizing h with
  | nil => exact h0
  | cons b l ih => exact ih _ (sumStep_in h b)
theorem sum_wrap (h : Int) (b : UInt8) (h0 : 0 ≤ h ∧ h ≤ 999978) : Int.tmod (wrap64 ((wrap64 ((wrap64 (41 * h)) + (wrap64 (b.toNat : Int)))) + 1)) 999979 = sumStep h b := by
  have hb := byte_le b
  rw [wrap_in (show -9223372036854775808 ≤ 41 * h by omega) (by omega), wrap_byte, wrap_in (show -9223372036854775808 ≤ 41 * h + (b.toNat : Int) by omega) (by omega), wrap_in (show -9223372036854775808 ≤ 41 * h + (b.toNat : Int) + 1 by omega) (by omega), Int.tmod_eq_emod_of_nonneg (by omega)]
  rfl
theorem sum_ev (s : ByteArray) (hs : s.size ≤ 9223372036854775807) : Ev (fun k => spec_l1Sum.f k s) (sumL s.data.toList 7) := by
  unfold spec_l1Sum.f
  have := bytes_ind0 s (fun i rest => ∀ h : Int, 0 ≤ h ∧ h ≤ 999978 → Ev (fun k => spec_l1Sum.l0 k s h i) (sumL rest h)) ?_ ?_
  · exact this 7 (by decide)
  · intro h _
    refine Ev.step (fun k => by simp only [spec_l1Sum.l0]; rfl) ?_
    simp only [Int.lt_irrefl, if_false]
    exact Ev.now _
  · intro i b rest hi hb hd ih h hh
    refine Ev.step (fun k => by simp only [spec_l1Sum.l0]; rfl) ?_
    simp only [if_pos (show (i : Int) < (s.size : Int) by omega), if_pos (show (0 : Int) ≤ i by omega), hb, sum_wrap h b hh, wrap_in (show -9223372036854775808 ≤ (i : Int) + 1 by omega) (by omega)]
    exact ih _ (sumStep_in h b)
theorem checksum_ev (s : ByteArray) (hs : s.size ≤ 4000) : Ev (fun k => impl_Checksum.f k s) (sumL s.data.toList 7, true) := by
  unfold impl_Checksum.f
  simp only [if_neg (show ¬ (s.size : Int) > 4000 by omega)]
  have := bytes_ind0 s (fun i rest => ∀ h : Int, 0 ≤ h ∧ h ≤ 999978 → Ev (fun k => impl_Checksum.l0 k s h (s.size : Int) i) (sumL rest h, true)) ?_ ?_
  · exact this 7 (by decide)
  · intro h _
    refine Ev.step (fun k => by simp only [impl_Checksum.l0]; rfl) ?_
    simp only [Int.lt_irrefl, if_false]
    exact Ev.now _
  · intro i b rest hi hb hd ih h hh
    refine Ev.step (fun k => by simp only [impl_Checksum.l0]; rfl) ?_
    simp only [if_pos (show (i : Int) < (s.size : Int) by omega), if_pos (show (0 : Int) ≤ i by omega), hb, sum_wrap h b hh, wrap_in (show -9223372036854775808 ≤ (i : Int) + 1 by omega) (by omega)]
    exact ih _ (sumStep_in h b)

/-- What a record must be. -/
def recOk (a b : ByteArray) : Bool := decide (a.size ≠ 0) && (a.data.toList.all (fun b => good b && !(b.toNat == 35)) && decide ((a.size : Int) ≤ 160)) && !(a.data.toList.any (fun b => b.toNat == 64)) && (b.data.toList.all (fun b => good b && !(b.toNat == 35)) && decide ((b.size : Int) ≤ 200))
theorem recOk_iff (a b : ByteArray) : recOk a b = true ↔ a.size ≠ 0 ∧ (∀ x ∈ a.data.toList, good x = true ∧ x.toNat ≠ 35) ∧ a.size ≤ 160 ∧ (∀ x ∈ a.data.toList, x.toNat ≠ 64) ∧ (∀ x ∈ b.data.toList, good x = true ∧ x.toNat ≠ 35) ∧ b.size ≤ 200 := by
  unfold recOk
  simp only [Bool.and_eq_true, decide_eq_true_eq, List.all_eq_true, Bool.not_eq_true', List.any_eq_false, beq_iff_eq, beq_eq_false_iff_ne]
  constructor
  · rintro ⟨⟨⟨h1, h2, h3⟩, h4⟩, h5, h6⟩
    exact ⟨h1, fun x hx => h2 x hx, by omega, h4, fun x hx => h5 x hx, by omega⟩
  · rintro ⟨h1, h2, h3, h4, h5, h6⟩
    exact ⟨⟨⟨h1, h2, by omega⟩, h4⟩, h5, by omega⟩
theorem good_ev (a b : ByteArray) (ha : a.size ≤ 1048576) (hb : b.size ≤ 1048576) : Ev (fun k => spec_l27Good.f k a b) (recOk a b) := recSpec_ev a b ha hb
theorem isRecord_ev (a b : ByteArray) (ha : a.size ≤ 1048576) (hb : b.size ≤ 1048576) : Ev (fun k => impl_IsValidRecord.f k a b) (recOk a b) := by
  have := recImpl_ev a b ha hb
  rw [← rec_same a b] at this
  exact this
/-- A text with its checksum behind it. -/
def sealB (s : ByteArray) : ByteArray := (s ++ (⟨#[35]⟩ : ByteArray)) ++ itoaB (sumL s.data.toList 7)
def lineTxt (k : Int) (a b : ByteArray) : ByteArray := (((itoaB k ++ (⟨#[32]⟩ : ByteArray)) ++ a) ++ (⟨#[64]⟩ : ByteArray)) ++ b
def lineB (k : Int) (a b : ByteArray) : ByteArray := sealB (lineTxt k a b) ++ (⟨#[10]⟩ : ByteArray)
theorem lineTxt_size (k : Int) (a b : ByteArray) : (lineTxt k a b).size = (itoaB k).size + 1 + a.size + 1 + b.size := by
  unfold lineTxt
  simp only [ByteArray.size_append]
  rfl
theorem sealB_size (s : ByteArray) : (sealB s).size = s.size + 1 + (itoaB (sumL s.data.toList 7)).size := by
  unfold sealB
  simp only [ByteArray.size_append]
  rfl
theorem sum7 (s : ByteArray) : 0 ≤ sumL s.data.toList 7 ∧ sumL s.data.toList 7 ≤ 999978 := sumL_in _ _ (by decide)
theorem seal_ev (s : ByteArray) (hs : s.size ≤ 1048576) : Ev (fun k => spec_l1Seal.f k s) (sealB s) := by
  have h7 := sum7 s
  have sa := itoaB_size (sumL s.data.toList 7) (by omega) (by omega)
  unfold spec_l1Seal.f
  refine ev_pos (by omega) ?_
  refine Ev.bind (sum_ev s (by omega)) ?_
  refine Ev.bind (num_ev _ (by omega) (by omega)) ?_
  exact ev_pos (by omega) (Ev.now _)
theorem specLine_ev (k : Int) (hk : 0 ≤ k ∧ k ≤ 1000000) (a b : ByteArray) (ha : a.size ≤ 1000) (hb : b.size ≤ 1000) : Ev (fun n => spec_l27Line.f n k a b) (lineB k a b) := by
  have sa := itoaB_size k (by omega) (by omega)
  have sl := lineTxt_size k a b
  have sx := sealB_size (lineTxt k a b)
  have h7 := sum7 (lineTxt k a b)
  have s7 := itoaB_size (sumL (lineTxt k a b).data.toList 7) (by omega) (by omega)
  unfold spec_l27Line.f
  refine Ev.bind (num_ev k (by omega) (by omega)) ?_
  refine ev_pos (by omega) (ev_pos (by omega) (ev_pos (by omega) (ev_pos (by omega) ?_)))
  refine Ev.bind (seal_ev (lineTxt k a b) (by omega)) ?_
  exact ev_pos (by omega) (Ev.now _)
theorem decDigits_digit (u : Nat) : ∀ x ∈ Lib.decDigits u, 48 ≤ x.toNat ∧ x.toNat ≤ 57 := by
  induction u using Nat.strongRecOn with
  | _ u ih =>
    intro x hx
    rw [Lib.decDigits] at hx
    split at hx
    · simp only [List.mem_cons, List.not_mem_nil, or_false] at hx
      subst hx
      rw [UInt8.toNat_ofNat']
      omega
    · rw [List.mem_append] at hx
      rcases hx with hx | hx
      · exact ih (u / 10) (by omega) x hx
      · simp only [List.mem_cons, List.not_mem_nil, or_false] at hx
        subst hx
        rw [UInt8.toNat_ofNat']
        omega
theorem itoa_digit (n : Int) (h0 : 0 ≤ n) : ∀ x ∈ (itoaB n).data.toList, 48 ≤ x.toNat ∧ x.toNat ≤ 57 := by
  intro x hx
  unfold itoaB Lib.itoa at hx
  rw [if_neg (by omega)] at hx
  exact decDigits_digit n.toNat x (by simpa using hx)
theorem indexByte_no (l : List UInt8) (c : UInt8) (h : ∀ x ∈ l, x ≠ c) : Lib.indexByte l c = -1 := by
  induction l with
  | nil => rfl
  | cons b l ih =>
    have hb : (b == c) = false := beq_eq_false_iff_ne.2 (h b (by simp))
    have := ih (fun x hx => h x (by simp [hx]))
    rw [Lib.indexByte, hb, this]
    rfl
theorem has35 (s : ByteArray) (h : ∀ x ∈ s.data.toList, x.toNat ≠ 35) : strings_Contains.f s (⟨#[35]⟩ : ByteArray) = some false := by
  unfold strings_Contains.f
  rw [if_pos (by rfl)]
  have : Lib.indexByte s.data.toList ((⟨#[35]⟩ : ByteArray).data.toList.getD 0 0) = -1 := by
    refine indexByte_no _ _ (fun x hx e => h x hx ?_)
    subst e
    rfl
  rw [this]
  rfl
theorem appendSum_ev (s : ByteArray) (hs : s.size ≤ 3970) (hno : ∀ x ∈ s.data.toList, x.toNat ≠ 35) : Ev (fun n => impl_AppendChecksum.f n s) (sealB s, true) := by
  have h7 := sum7 s
  have s7 := itoaB_size (sumL s.data.toList 7) (by omega) (by omega)
  unfold impl_AppendChecksum.f
  refine Ev.bind (checksum_ev s (by omega)) ?_
  refine ev_pos (by omega) ?_
  simp only [decimal_eq (sumL s.data.toList 7) (by omega) (by omega), Option.bind_some, if_true, has35 _ hno, Bool.false_eq_true, if_false]
  refine ev_pos (by omega) ?_
  exact ev_neg (by omega) (Ev.some rfl)
theorem implLine_ev (k : Int) (hk : 0 ≤ k ∧ k ≤ 1000000) (a b : ByteArray) (hr : recOk a b = true) : Ev (fun n => impl_encodeRecord.f n k a b) (lineB k a b) := by
  obtain ⟨_, r1, r2, _, r3, r4⟩ := (recOk_iff a b).1 hr
  have sa := itoaB_size k (by omega) (by omega)
  have sl := lineTxt_size k a b
  have sx := sealB_size (lineTxt k a b)
  have h7 := sum7 (lineTxt k a b)
  have s7 := itoaB_size (sumL (lineTxt k a b).data.toList 7) (by omega) (by omega)
  have hno : ∀ x ∈ (lineTxt k a b).data.toList, x.toNat ≠ 35 := by
    intro x hx
    unfold lineTxt at hx
    simp only [ByteArray.data_append, Array.toList_append, List.mem_append] at hx
    rcases hx with (((hx | hx) | hx) | hx) | hx
    · have := itoa_digit k hk.1 x hx; omega
    · simp at hx; subst hx; decide
    · exact (r1 x hx).2
    · simp at hx; subst hx; decide
    · exact (r3 x hx).2
  unfold impl_encodeRecord.f
  simp only [decimal_eq k (by omega) (by omega), Option.bind_some]
  refine ev_pos (by omega) (ev_pos (by omega) (ev_pos (by omega) (ev_pos (by omega) ?_)))
  refine Ev.bind (appendSum_ev (lineTxt k a b) (by omega) hno) ?_
  exact ev_pos (by simp only []; omega) (Ev.now _)

def encode (k : Int) (a b : ByteArray) : ByteArray × Bool := if (decide (0 ≤ k) && decide (k ≤ 59)) && recOk a b then (lineB k a b, true) else ((⟨#[]⟩ : ByteArray), false)
theorem encSpec_ev (k : Int) (a b : ByteArray) (ha : a.size ≤ 1048576) (hb : b.size ≤ 1048576) : Ev (fun n => spec_EncodeRecord.f n k a b) (encode k a b) := by
  unfold spec_EncodeRecord.f encode
  simp only [l1In_eq, Option.bind_some]
  cases hk : (decide (0 ≤ k) && decide (k ≤ 59)) with
  | false => simp only [Bool.false_eq_true, if_false, Bool.false_and]; exact Ev.now _
  | true =>
    simp only [if_true, Bool.true_and]
    simp only [Bool.and_eq_true, decide_eq_true_eq] at hk
    refine Ev.bind (good_ev a b ha hb) ?_
    cases hr : recOk a b with
    | false => simp only [Bool.false_eq_true, if_false]; exact Ev.now _
    | true =>
      obtain ⟨_, _, r2, _, _, r4⟩ := (recOk_iff a b).1 hr
      simp only [if_true]
      exact Ev.bind (f := fun _ t => some (t, true)) (specLine_ev k (by omega) a b (by omega) (by omega)) (Ev.now _)
theorem encImpl_ev (k : Int) (a b : ByteArray) (ha : a.size ≤ 1048576) (hb : b.size ≤ 1048576) : Ev (fun n => impl_EncodeRecord.f n k a b) (encode k a b) := by
  unfold impl_EncodeRecord.f encode
  simp only [within_eq, Option.bind_some]
  cases hk : (decide (0 ≤ k) && decide (k ≤ 59)) with
  | false => simp only [Bool.false_eq_true, if_false, Bool.false_and]; exact Ev.now _
  | true =>
    simp only [if_true, Bool.true_and]
    simp only [Bool.and_eq_true, decide_eq_true_eq] at hk
    refine Ev.bind (isRecord_ev a b ha hb) ?_
    cases hr : recOk a b with
    | false => simp only [Bool.false_eq_true, if_false]; exact Ev.now _
    | true =>
      simp only [if_true]
      exact Ev.bind (f := fun _ t => some (t, true)) (implLine_ev k (by omega) a b hr) (Ev.now _)
theorem FnExactEncodeRecord : XGFnExactEncodeRecord.Pure := by
  intro k a b _ ha hb
  refine Ev.rounds ?_
  unfold laws_FnExactEncodeRecord.f laws_szLogRecord.f laws_toLogRecord.f
  rw [wrap_in (show -9223372036854775808 ≤ 1048576 - (a.size : Int) by omega) (by omega)]
  by_cases h1 : 1048576 - (a.size : Int) < 0
  · simp only [if_pos h1, Option.bind_some, show (-1 : Int) < 0 by decide, if_true]
    exact Ev.now _
  · rw [wrap_in (show -9223372036854775808 ≤ 1048576 - (a.size : Int) - (b.size : Int) by omega) (by omega)]
    by_cases h2 : 1048576 - (a.size : Int) - (b.size : Int) < 0
    · simp only [if_neg h1, if_pos h2, Option.bind_some, show (-1 : Int) < 0 by decide, if_true]
      exact Ev.now _
    · simp only [if_neg h1, if_neg h2, Option.bind_some]
      refine Ev.bind (encSpec_ev k a b (by omega) (by omega)) ?_
      refine Ev.bind (encImpl_ev k a b (by omega) (by omega)) ?_
      simp only [if_true, bne_self_eq_false, Bool.false_eq_true, if_false]
      exact Ev.now _

end Go.Proofs.YtmhmeifdnleoaaaDoor.Pure

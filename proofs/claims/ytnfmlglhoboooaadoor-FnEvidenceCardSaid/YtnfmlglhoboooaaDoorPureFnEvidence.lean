/- The pure statement of the law FnEvidence, proved: what the program computes agrees with the reference, in plain Lean. -/
import Derived.Test.YtnfmlglhoboooaaDoorXGFnEvidence
import Derived.Test.YtnfmlglhoboooaaDoorXPlain
import Derived.Lib.ItoaLen
import Derived.Laws.Bits64b
import Derived.Laws.BitsLemmas
set_option linter.unusedVariables false
set_option linter.unusedSimpArgs false
namespace Go.Proofs.YtnfmlglhoboooaaDoor.Pure
open Go.RowKit Go.Proofs.YtnfmlglhoboooaaDoor Go.Proofs.YtnfmlglhoboooaaDoor.XFnEvidence Go.Proofs.YtnfmlglhoboooaaDoor.XGFnEvidence Go.Proofs.YtnfmlglhoboooaaDoorW.PrintWords Go.Proofs.YtnfmlglhoboooaaDoorW.PrintLast Go.Proofs.YtnfmlglhoboooaaDoor.Plain

theorem l1In_eq (a b c : Int) : spec_l1In.f a b c = some (decide (b ≤ a) && decide (a ≤ c)) := by
  unfold spec_l1In.f
  by_cases h : a ≥ b
  · rw [if_pos h, decide_eq_true (show b ≤ a from h), Bool.true_and]
  · rw [if_neg h, decide_eq_false (show ¬ b ≤ a from h), Bool.false_and]
theorem within_eq (a b c : Int) : impl_within.f a b c = some (decide (b ≤ a) && decide (a ≤ c)) := by
  unfold impl_within.f
  by_cases h : a ≥ b
  · rw [if_pos h, decide_eq_true (show b ≤ a from h), Bool.true_and]
  · rw [if_neg h, decide_eq_false (show ¬ b ≤ a from h), Bool.false_and]

def itoaB (n : Int) : ByteArray := ⟨(Lib.itoa n).toArray⟩
theorem size_of_list (l : List UInt8) : (⟨l.toArray⟩ : ByteArray).size = l.length := by simp [ByteArray.size]
theorem digit_cut (u : Fin 10) : (⟨#[48, 49, 50, 51, 52, 53, 54, 55, 56, 57]⟩ : ByteArray).extract u.val (u.val + 1) = ⟨[UInt8.ofNat (48 + u.val)].toArray⟩ := by
  revert u; decide +kernel
theorem append_lists (a b : List UInt8) : (⟨a.toArray⟩ : ByteArray) ++ ⟨b.toArray⟩ = ⟨(a ++ b).toArray⟩ := by
  apply ByteArray.ext
  simp
theorem num_nat (u : Nat) : u ≤ 9223372036854775807 → Ev (fun k => spec_l1Num.f k u) ⟨(Lib.decDigits u).toArray⟩ := by
  induction u using Nat.strongRecOn with
  | _ u ih =>
  intro hu
  refine Ev.step (fun k => by simp only [spec_l1Num.f]; rfl) ?_
  simp only [if_neg (show ¬ (u : Int) < 0 by omega)]
  by_cases h : u < 10
  · simp only [if_pos (show (u : Int) < 10 by omega), if_pos (show (0 : Int) ≤ u by omega), wrap_in (show -9223372036854775808 ≤ (u : Int) + 1 by omega) (by omega), if_pos (show (u : Int) ≤ u + 1 by omega), if_pos (show (u : Int) + 1 ≤ 10 by omega)]
    refine Ev.some ?_
    rw [Lib.decDigits_one h, Int.toNat_natCast, show ((u : Int) + 1).toNat = u + 1 by omega]
    exact digit_cut ⟨u, h⟩
  · have hd : Int.tdiv (u : Int) 10 = ((u / 10 : Nat) : Int) := by rw [Int.tdiv_eq_ediv_of_nonneg (by omega)]; omega
    have hm : Int.tmod (u : Int) 10 = ((u % 10 : Nat) : Int) := by rw [Int.tmod_eq_emod_of_nonneg (by omega)]; omega
    have h10 : u % 10 < 10 := Nat.mod_lt _ (by decide)
    simp only [if_neg (show ¬ (u : Int) < 10 by omega), hd, hm, wrap_in (show -9223372036854775808 ≤ ((u / 10 : Nat) : Int) by omega) (by omega)]
    refine Ev.bind (ih (u / 10) (by omega) (by omega)) ?_
    have hl : (Lib.decDigits (u / 10)).length ≤ 20 := by rw [Lib.decDigits_length]; exact Lib.nDigits_le20 _ (by omega)
    have e : Lib.decDigits u = Lib.decDigits (u / 10) ++ [UInt8.ofNat (48 + u % 10)] := by rw [Lib.decDigits, dif_neg h]
    simp only [if_pos (show (0 : Int) ≤ ((u % 10 : Nat) : Int) by omega), wrap_in (show -9223372036854775808 ≤ ((u % 10 : Nat) : Int) + 1 by omega) (by omega), if_pos (show ((u % 10 : Nat) : Int) ≤ ((u % 10 : Nat) : Int) + 1 by omega), if_pos (show ((u % 10 : Nat) : Int) + 1 ≤ 10 by omega), Int.toNat_natCast, show (((u % 10 : Nat) : Int) + 1).toNat = u % 10 + 1 by omega, size_of_list]
    rw [if_pos (show (Lib.decDigits (u / 10)).length + (u % 10 + 1 - u % 10) ≤ 9223372036854775807 by omega)]
    refine Ev.some ?_
    rw [e, digit_cut ⟨u % 10, h10⟩, append_lists]
theorem num_ev (n : Int) (h0 : -9223372036854775807 ≤ n) (h1 : n ≤ 9223372036854775807) : Ev (fun k => spec_l1Num.f k n) (itoaB n) := by
  unfold itoaB
  by_cases h : n < 0
  · obtain ⟨u, rfl⟩ : ∃ u : Nat, n = -(u : Int) := ⟨n.natAbs, by omega⟩
    refine Ev.step (fun k => by simp only [spec_l1Num.f]; rfl) ?_
    simp only [if_pos h, Int.neg_neg, wrap_in (show -9223372036854775808 ≤ (u : Int) by omega) (by omega)]
    refine Ev.bind (num_nat u (by omega)) ?_
    have hl : (Lib.decDigits u).length ≤ 20 := by rw [Lib.decDigits_length]; exact Lib.nDigits_le20 _ (by omega)
    rw [if_pos (by rw [size_of_list]; omega)]
    refine Ev.some ?_
    rw [Lib.itoa_neg u (by omega)]
    exact append_lists [45] _
  · obtain ⟨u, rfl⟩ : ∃ u : Nat, n = (u : Int) := ⟨n.toNat, by omega⟩
    rw [Lib.itoa_nonneg]
    exact num_nat u (by omega)
theorem itoaB_size (n : Int) (h0 : -9223372036854775808 ≤ n) (h1 : n ≤ 9223372036854775807) : (itoaB n).size ≤ 21 := by
  unfold itoaB
  rw [size_of_list]
  exact Lib.itoa_length_le n h0 h1
theorem decimal_eq (n : Int) (h0 : -9223372036854775808 ≤ n) (h1 : n ≤ 9223372036854775807) : impl_decimal.f n = some (itoaB n) := by
  unfold impl_decimal.f strconv_Itoa.f
  rw [if_pos ⟨h0, h1⟩]
  rfl

def sumStep (h : Int) (b : UInt8) : Int := (41 * h + (b.toNat : Int) + 1) % 999979
def sumL (l : List UInt8) (h : Int) : Int := l.foldl sumStep h
theorem sumStep_in (h : Int) (b : UInt8) : 0 ≤ sumStep h b ∧ sumStep h b ≤ 999978 := by unfold sumStep; omega
theorem sumL_in (l : List UInt8) (h : Int) (h0 : 0 ≤ h ∧ h ≤ 999978) : 0 ≤ sumL l h ∧ sumL l h ≤ 999978 := by
  induction l generalizing h with
  | nil => exact h0
  | cons b l ih => exact ih _ (sumStep_in h b)
theorem sum_wrap (h : Int) (b : UInt8) (h0 : 0 ≤ h ∧ h ≤ 999978) : Int.tmod (wrap64 ((wrap64 ((wrap64 (41 * h)) + (wrap64 (b.toNat : Int)))) + 1)) 999979 = sumStep h b := by
  have hb := byte_le b
  rw [wrap_in (show -9223372036854775808 ≤ 41 * h by omega) (by omega), wrap_byte, wrap_in (show -9223372036854775808 ≤ 41 * h + (b.toNat : Int) by omega) (by omega), wrap_in (show -9223372036854775808 ≤ 41 * h + (b.toNat : Int) + 1 by omega) (by omega), Int.tmod_eq_emod_of_nonneg (by omega)]
  rfl
theorem sum_ev (s : ByteArray) (hs : s.size ≤ 9223372036854775807) : Ev (fun k => spec_l1Sum.f k s) (sumL s.data.toList 7) := by
  unfold spec_l1Sum.f
  have := bytes_ind0 s (fun i rest => ∀ h : Int, 0 ≤ h ∧ h ≤ 999978 → Ev (fun k => spec_l1Sum.l0 k s h i) (sumL rest h)) ?_ ?_
  · exact this 7 (by decide)
  · intro h _
    refine Ev.step (fun k => by simp only [spec_l1Sum.l0]; rfl) ?_
    simp only [Int.lt_irrefl, if_false]
    exact Ev.now _
  · intro i b rest hi hb hd ih h hh
    refine Ev.step (fun k => by simp only [spec_l1Sum.l0]; rfl) ?_
    simp only [if_pos (show (i : Int) < (s.size : Int) by omega), if_pos (show (0 : Int) ≤ i by omega), hb, sum_wrap h b hh, wrap_in (show -9223372036854775808 ≤ (i : Int) + 1 by omega) (by omega)]
    exact ih _ (sumStep_in h b)
theorem checksum_ev (s : ByteArray) (hs : s.size ≤ 4000) : Ev (fun k => impl_Checksum.f k s) (sumL s.data.toList 7, true) := by
  unfold impl_Checksum.f
  simp only [if_neg (show ¬ (s.size : Int) > 4000 by omega)]
  have := bytes_ind0 s (fun i rest => ∀ h : Int, 0 ≤ h ∧ h ≤ 999978 → Ev (fun k => impl_Checksum.l0 k s h (s.size : Int) i) (sumL rest h, true)) ?_ ?_
  · exact this 7 (by decide)
  · intro h _
    refine Ev.step (fun k => by simp only [impl_Checksum.l0]; rfl) ?_
    simp only [Int.lt_irrefl, if_false]
    exact Ev.now _
  · intro i b rest hi hb hd ih h hh
    refine Ev.step (fun k => by simp only [impl_Checksum.l0]; rfl) ?_
    simp only [if_pos (show (i : Int) < (s.size : Int) by omega), if_pos (show (0 : Int) ≤ i by omega), hb, sum_wrap h b hh, wrap_in (show -9223372036854775808 ≤ (i : Int) + 1 by omega) (by omega)]
    exact ih _ (sumStep_in h b)

def pairTxt (a b : Int) : ByteArray := (((⟨#[40]⟩ : ByteArray) ++ itoaB a) ++ (⟨#[44]⟩ : ByteArray)) ++ itoaB b ++ (⟨#[41]⟩ : ByteArray)
def hashP (a b : Int) : Int := sumL (pairTxt a b).data.toList 7
theorem hashP_in (a b : Int) : 0 ≤ hashP a b ∧ hashP a b ≤ 999978 := sumL_in _ _ (by decide)
theorem pairTxt_size (a b : Int) : (pairTxt a b).size = 1 + (itoaB a).size + 1 + (itoaB b).size + 1 := by
  unfold pairTxt
  simp only [ByteArray.size_append]
  rfl
theorem l25Pair_ev (a b : Int) (ha : 0 ≤ a ∧ a ≤ 999978) (hb : 0 ≤ b ∧ b ≤ 999978) : Ev (fun k => spec_l25Pair.f k a b) (hashP a b) := by
  have sa := itoaB_size a (by omega) (by omega)
  have sb := itoaB_size b (by omega) (by omega)
  unfold spec_l25Pair.f
  refine Ev.bind (num_ev a (by omega) (by omega)) ?_
  refine ev_pos (by omega) (ev_pos (by omega) ?_)
  refine Ev.bind (num_ev b (by omega) (by omega)) ?_
  refine ev_pos (by omega) (ev_pos (by omega) ?_)
  exact Ev.bind (f := fun k t => some t) (sum_ev (pairTxt a b) (by rw [pairTxt_size]; omega)) (Ev.now _)
theorem pairHash_ev (a b : Int) (ha : 0 ≤ a ∧ a ≤ 999978) (hb : 0 ≤ b ∧ b ≤ 999978) : Ev (fun k => impl_pairHash.f k a b) (hashP a b) := by
  have sa := itoaB_size a (by omega) (by omega)
  have sb := itoaB_size b (by omega) (by omega)
  unfold impl_pairHash.f
  simp only [decimal_eq a (by omega) (by omega), decimal_eq b (by omega) (by omega), Option.bind_some]
  refine ev_pos (by omega) (ev_pos (by omega) (ev_pos (by omega) (ev_pos (by omega) ?_)))
  exact Ev.bind (f := fun k t => some t.1) (checksum_ev (pairTxt a b) (by rw [pairTxt_size]; omega)) (Ev.now _)
def inHash (a : Int) : Bool := decide (0 ≤ a) && decide (a ≤ 999978)
theorem inHash_iff (a : Int) : inHash a = true ↔ 0 ≤ a ∧ a ≤ 999978 := by unfold inHash; simp
theorem l25Hash_eq (a : Int) : spec_l25Hash.f a = some (inHash a) := by unfold spec_l25Hash.f; rw [l1In_eq]; rfl
theorem isHash_eq (a : Int) : impl_isHash.f a = some (inHash a) := by unfold impl_isHash.f; rw [within_eq]; rfl

theorem rd_drop {l : List Int} {i : Nat} {b : Int} {rest : List Int} (h : l.drop i = b :: rest) : rd l (i : Int) = b := (rd_at h).2.1
theorem l25Hashes_ev (l : List Int) (hl : l.length ≤ 9223372036854775807) : Ev (fun k => spec_l25Hashes.f k l) (l.all inHash) := by
  unfold spec_l25Hashes.f
  refine list_ind0 l (fun i rest => Ev (fun k => spec_l25Hashes.l0 k l i) (rest.all inHash)) ?_ ?_
  · refine Ev.step (fun k => by simp only [spec_l25Hashes.l0]; rfl) ?_
    simp only [Int.lt_irrefl, if_false, List.all_nil]
    exact Ev.now _
  · intro i x rest hi hd ih
    refine Ev.step (fun k => by simp only [spec_l25Hashes.l0]; rfl) ?_
    simp only [if_pos (show (i : Int) < (l.length : Int) by omega), if_pos (show (0 : Int) ≤ i by omega), rd_drop hd, l25Hash_eq, Option.bind_some, wrap_in (show -9223372036854775808 ≤ (i : Int) + 1 by omega) (by omega), List.all_cons]
    cases hx : inHash x with
    | false => simp only [Bool.false_eq_true, if_false, Bool.false_and]; exact Ev.now _
    | true => simp only [if_true, Bool.true_and]; exact ih
theorem areHashes_ev (l : List Int) (hl : l.length ≤ 9223372036854775807) : Ev (fun k => impl_areHashes.f k l) (l.all inHash) := by
  have key : ∃ r : Int, Ev (fun k => slices_IndexFunc_int_int_impl_areHashes_1.f k l) r ∧ decide (r ≥ 0) = !l.all inHash := by
    unfold slices_IndexFunc_int_int_impl_areHashes_1.f
    refine list_ind0 l (fun i rest => ∃ r : Int, Ev (fun k => slices_IndexFunc_int_int_impl_areHashes_1.l0 k l (l.length : Int) i) r ∧ decide (r ≥ 0) = !rest.all inHash) ?_ ?_
    · refine ⟨-1, ?_, by simp⟩
      refine Ev.step (fun k => by simp only [slices_IndexFunc_int_int_impl_areHashes_1.l0]; rfl) ?_
      simp only [Int.lt_irrefl, if_false]
      exact Ev.now _
    · intro i x rest hi hd ih
      obtain ⟨r, hr, he⟩ := ih
      have hc : XFnEvidence.impl_areHashes_1.f x = some (!inHash x) := by unfold XFnEvidence.impl_areHashes_1.f; rw [isHash_eq]; rfl
      cases hx : inHash x with
      | false =>
        refine ⟨i, ?_, by rw [List.all_cons, hx]; simp⟩
        refine Ev.step (fun k => by simp only [slices_IndexFunc_int_int_impl_areHashes_1.l0]; rfl) ?_
        simp only [if_pos (show (i : Int) < (l.length : Int) by omega), if_pos (show (0 : Int) ≤ i by omega), rd_drop hd, hc, hx, Option.bind_some, Bool.not_false, if_true]
        exact Ev.now _
      | true =>
        refine ⟨r, ?_, by rw [List.all_cons, hx, Bool.true_and]; exact he⟩
        refine Ev.step (fun k => by simp only [slices_IndexFunc_int_int_impl_areHashes_1.l0]; rfl) ?_
        simp only [if_pos (show (i : Int) < (l.length : Int) by omega), if_pos (show (0 : Int) ≤ i by omega), rd_drop hd, hc, hx, Option.bind_some, Bool.not_true, Bool.false_eq_true, if_false, wrap_in (show -9223372036854775808 ≤ (i : Int) + 1 by omega) (by omega)]
        exact hr
  obtain ⟨r, hr, he⟩ := key
  unfold impl_areHashes.f slices_ContainsFunc_int_int_impl_areHashes_1.f
  refine Ev.bind (Ev.bind hr (Ev.now (decide (r ≥ 0)))) ?_
  refine Ev.some ?_
  rw [he, Bool.not_not]
def leavesOk (l : List Int) : Bool := (decide (1 ≤ (l.length : Int)) && decide ((l.length : Int) ≤ 32)) && l.all inHash
theorem leavesOk_iff (l : List Int) : leavesOk l = true ↔ 1 ≤ l.length ∧ l.length ≤ 32 ∧ ∀ x ∈ l, inHash x = true := by
  unfold leavesOk
  simp only [Bool.and_eq_true, decide_eq_true_eq, List.all_eq_true]
  constructor
  · rintro ⟨⟨h1, h2⟩, h3⟩; exact ⟨by omega, by omega, h3⟩
  · rintro ⟨h1, h2, h3⟩; exact ⟨⟨by omega, by omega⟩, h3⟩
theorem l25Leaves_ev (l : List Int) (hl : l.length ≤ 9223372036854775807) : Ev (fun k => spec_l25Leaves.f k l) (leavesOk l) := by
  unfold spec_l25Leaves.f leavesOk
  simp only [l1In_eq, Option.bind_some]
  cases (decide (1 ≤ (l.length : Int)) && decide ((l.length : Int) ≤ 32)) with
  | false => simp only [Bool.false_eq_true, if_false, Bool.false_and]; exact Ev.now _
  | true => simp only [if_true, Bool.true_and]; exact Ev.bind (f := fun k t => some t) (l25Hashes_ev l hl) (Ev.now _)
theorem areLeaves_ev (l : List Int) (hl : l.length ≤ 9223372036854775807) : Ev (fun k => impl_areLeaves.f k l) (leavesOk l) := by
  unfold impl_areLeaves.f leavesOk
  simp only [within_eq, Option.bind_some]
  cases (decide (1 ≤ (l.length : Int)) && decide ((l.length : Int) ≤ 32)) with
  | false => simp only [Bool.false_eq_true, if_false, Bool.false_and]; exact Ev.now _
  | true => simp only [if_true, Bool.true_and]; exact Ev.bind (f := fun k t => some t) (areHashes_ev l hl) (Ev.now _)

def upL : List Int → List Int
  | [] => []
  | [a] => [a]
  | a :: b :: r => hashP a b :: upL r
theorem upL_length : ∀ l : List Int, (upL l).length = (l.length + 1) / 2
  | [] => rfl
  | [a] => by simp [upL]
  | a :: b :: r => by
    have := upL_length r
    simp only [upL, List.length_cons, this]
    omega
theorem upL_all : ∀ l : List Int, (∀ x ∈ l, inHash x = true) → ∀ x ∈ upL l, inHash x = true
  | [], h => h
  | [a], h => h
  | a :: b :: r, h => by
    intro x hx
    simp only [upL, List.mem_cons] at hx
    rcases hx with rfl | hx
    · exact (inHash_iff _).2 (hashP_in a b)
    · exact upL_all r (fun y hy => h y (by simp [hy])) x hx
theorem drop_succ {α : Type} {l : List α} {i : Nat} {a : α} {r : List α} (h : l.drop i = a :: r) : l.drop (i + 1) = r := (getD_at (d := a) h).2.2
theorem l25Up_l0 (l : List Int) (hl : l.length ≤ 32) (ha : ∀ x ∈ l, inHash x = true) : ∀ (rest : List Int) (i : Nat) (out : List Int), l.drop i = rest → out.length ≤ i → i ≤ 33 → Ev (fun k => spec_l25Up.l0 k l out i) (out ++ upL rest)
  | [], i, out, hd, ho, hi => by
    have : l.length ≤ i := List.drop_eq_nil_iff.1 hd
    refine Ev.step (fun k => by simp only [spec_l25Up.l0]; rfl) ?_
    simp only [if_neg (show ¬ (i : Int) < (l.length : Int) by omega), upL, List.append_nil]
    exact Ev.now _
  | [a], i, out, hd, ho, hi => by
    have h1 := (getD_at (d := a) hd).1
    have h2 : l.length ≤ i + 1 := List.drop_eq_nil_iff.1 (drop_succ hd)
    refine Ev.step (fun k => by simp only [spec_l25Up.l0]; rfl) ?_
    simp only [wrap_in (show -9223372036854775808 ≤ (i : Int) + 1 by omega) (by omega), wrap_in (show -9223372036854775808 ≤ (i : Int) + 2 by omega) (by omega), if_pos (show (i : Int) < (l.length : Int) by omega), if_neg (show ¬ (i : Int) + 1 < (l.length : Int) by omega), if_pos (show (0 : Int) ≤ i by omega), if_pos (show out.length < 17592186044416 by omega), rd_drop hd]
    have := l25Up_l0 l hl ha [] (i + 2) (out ++ [a]) (List.drop_eq_nil_iff.2 (by omega)) (by simp; omega) (by omega)
    simpa [upL] using this
  | a :: b :: r, i, out, hd, ho, hi => by
    have hd1 := drop_succ hd
    have hd2 := drop_succ hd1
    have h1 := (getD_at (d := a) hd1).1
    have hA : inHash a = true := ha a (List.mem_of_mem_drop (by rw [hd]; simp))
    have hB : inHash b = true := ha b (List.mem_of_mem_drop (by rw [hd]; simp))
    have eB : rd l ((i : Int) + 1) = b := by have := rd_drop hd1; simpa using this
    refine Ev.step (fun k => by simp only [spec_l25Up.l0]; rfl) ?_
    simp only [wrap_in (show -9223372036854775808 ≤ (i : Int) + 1 by omega) (by omega), wrap_in (show -9223372036854775808 ≤ (i : Int) + 2 by omega) (by omega), if_pos (show (i : Int) < (l.length : Int) by omega), if_pos (show (i : Int) + 1 < (l.length : Int) by omega), if_pos (show (0 : Int) ≤ i by omega), if_pos (show (0 : Int) ≤ (i : Int) + 1 by omega), rd_drop hd, eB]
    refine Ev.bind (l25Pair_ev a b ((inHash_iff a).1 hA) ((inHash_iff b).1 hB)) ?_
    simp only [if_pos (show out.length < 17592186044416 by omega)]
    have := l25Up_l0 l hl ha r (i + 2) (out ++ [hashP a b]) hd2 (by simp; omega) (by omega)
    simpa [upL] using this
theorem l25Up_ev (l : List Int) (hl : l.length ≤ 32) (ha : ∀ x ∈ l, inHash x = true) : Ev (fun k => spec_l25Up.f k l) (upL l) := by
  unfold spec_l25Up.f
  have := l25Up_l0 l hl ha l 0 [] rfl (Nat.le_refl _) (by omega)
  simpa using this
theorem l1Own_eq (l : List Int) (hl : l.length ≤ 1048576) : spec_l1Own.f l = some l := by
  unfold spec_l1Own.f
  simp only [Option.bind_some, List.nil_append, List.length_nil]
  rw [if_pos (by omega)]

def levelsL (l : List Int) : List (List Int) := if h : 1 < l.length then l :: levelsL (upL l) else [l]
termination_by l.length
decreasing_by rw [upL_length]; omega
theorem levelsL_one {l : List Int} (h : ¬ 1 < l.length) : levelsL l = [l] := by rw [levelsL, dif_neg h]
theorem levelsL_more {l : List Int} (h : 1 < l.length) : levelsL l = l :: levelsL (upL l) := by rw [levelsL, dif_pos h]
theorem levelsL_cons (l : List Int) : ∃ r, levelsL l = l :: r := by
  by_cases h : 1 < l.length
  · exact ⟨_, levelsL_more h⟩
  · exact ⟨_, levelsL_one h⟩
theorem levelsOf_l1 (cur : List Int) (hl : cur.length ≤ 32) (ha : ∀ x ∈ cur, inHash x = true) (out : List (List Int)) (hout : out.length ≤ 40) (r : List (List Int)) : ∀ (rest : List Int) (i : Nat) (next : List Int), cur.drop i = rest → next.length ≤ i → i ≤ 33 →
    Ev (fun k => impl_levelsOf.l0 k (next ++ upL rest) (out ++ [next ++ upL rest])) r → Ev (fun k => impl_levelsOf.l1 k cur out next i) r
  | [], i, next, hd, ho, hi, h => by
    have : cur.length ≤ i := List.drop_eq_nil_iff.1 hd
    refine Ev.step (fun k => by simp only [impl_levelsOf.l1]; rfl) ?_
    simp only [if_neg (show ¬ (i : Int) < (cur.length : Int) by omega), if_pos (show out.length < 5864062014805 by omega)]
    simpa [upL] using h
  | [a], i, next, hd, ho, hi, h => by
    have h1 := (getD_at (d := a) hd).1
    have h2 : cur.length ≤ i + 1 := List.drop_eq_nil_iff.1 (drop_succ hd)
    refine Ev.step (fun k => by simp only [impl_levelsOf.l1]; rfl) ?_
    simp only [wrap_in (show -9223372036854775808 ≤ (i : Int) + 1 by omega) (by omega), wrap_in (show -9223372036854775808 ≤ (i : Int) + 2 by omega) (by omega), if_pos (show (i : Int) < (cur.length : Int) by omega), if_neg (show ¬ (i : Int) + 1 < (cur.length : Int) by omega), if_pos (show (0 : Int) ≤ i by omega), if_pos (show next.length < 17592186044416 by omega), rd_drop hd]
    have := levelsOf_l1 cur hl ha out hout r [] (i + 2) (next ++ [a]) (List.drop_eq_nil_iff.2 (by omega)) (by simp; omega) (by omega) (by simpa [upL] using h)
    simpa using this
  | a :: b :: r', i, next, hd, ho, hi, h => by
    have hd1 := drop_succ hd
    have hd2 := drop_succ hd1
    have h1 := (getD_at (d := a) hd1).1
    have hA : inHash a = true := ha a (List.mem_of_mem_drop (by rw [hd]; simp))
    have hB : inHash b = true := ha b (List.mem_of_mem_drop (by rw [hd]; simp))
    have eB : rd cur ((i : Int) + 1) = b := by have := rd_drop hd1; simpa using this
    refine Ev.step (fun k => by simp only [impl_levelsOf.l1]; rfl) ?_
    simp only [wrap_in (show -9223372036854775808 ≤ (i : Int) + 1 by omega) (by omega), wrap_in (show -9223372036854775808 ≤ (i : Int) + 2 by omega) (by omega), if_pos (show (i : Int) < (cur.length : Int) by omega), if_pos (show (i : Int) + 1 < (cur.length : Int) by omega), if_pos (show (0 : Int) ≤ i by omega), if_pos (show (0 : Int) ≤ (i : Int) + 1 by omega), rd_drop hd, eB]
    refine Ev.bind (pairHash_ev a b ((inHash_iff a).1 hA) ((inHash_iff b).1 hB)) ?_
    simp only [if_pos (show next.length < 17592186044416 by omega)]
    have := levelsOf_l1 cur hl ha out hout r r' (i + 2) (next ++ [hashP a b]) hd2 (by simp; omega) (by omega) (by simpa [upL] using h)
    simpa using this
theorem levelsOf_l0 (n : Nat) : ∀ (cur : List Int) (out : List (List Int)), cur.length ≤ n → cur.length ≤ 32 → (∀ x ∈ cur, inHash x = true) → out.length + cur.length ≤ 34 → Ev (fun k => impl_levelsOf.l0 k cur out) (out ++ (levelsL cur).tail) := by
  induction n with
  | zero =>
    intro cur out hn hl ha ho
    refine Ev.step (fun k => by simp only [impl_levelsOf.l0]; rfl) ?_
    simp only [if_neg (show ¬ (cur.length : Int) > 1 by omega), levelsL_one (show ¬ 1 < cur.length by omega), List.tail_cons, List.append_nil]
    exact Ev.now _
  | succ n ih =>
    intro cur out hn hl ha ho
    refine Ev.step (fun k => by simp only [impl_levelsOf.l0]; rfl) ?_
    by_cases h : 1 < cur.length
    · simp only [if_pos (show (cur.length : Int) > 1 by omega)]
      have hu := upL_length cur
      refine levelsOf_l1 cur hl ha out (by omega) _ cur 0 [] rfl (Nat.le_refl _) (by omega) ?_
      simp only [List.nil_append]
      have := ih (upL cur) (out ++ [upL cur]) (by omega) (by omega) (upL_all cur ha) (by simp; omega)
      obtain ⟨r, hr⟩ := levelsL_cons (upL cur)
      rw [levelsL_more h, List.tail_cons, hr]
      rw [hr, List.tail_cons] at this
      simpa using this
    · simp only [if_neg (show ¬ (cur.length : Int) > 1 by omega), levelsL_one h, List.tail_cons, List.append_nil]
      exact Ev.now _
theorem levelsOf_ev (l : List Int) (h : leavesOk l = true) : Ev (fun k => impl_levelsOf.f k l) (levelsL l) := by
  obtain ⟨h1, h2, h3⟩ := (leavesOk_iff l).1 h
  unfold impl_levelsOf.f
  have := levelsOf_l0 l.length l [l] (Nat.le_refl _) h2 h3 (by simp; omega)
  obtain ⟨r, hr⟩ := levelsL_cons l
  rw [hr, List.tail_cons] at this
  rw [hr]
  simpa using this
def rootL (l : List Int) : Int := if h : 1 < l.length then rootL (upL l) else rd l 0
termination_by l.length
decreasing_by rw [upL_length]; omega
theorem rootL_one {l : List Int} (h : ¬ 1 < l.length) : rootL l = rd l 0 := by rw [rootL, dif_neg h]
theorem rootL_more {l : List Int} (h : 1 < l.length) : rootL l = rootL (upL l) := by rw [rootL, dif_pos h]
theorem levels_last (n : Nat) : ∀ l : List Int, l.length ≤ n → 1 ≤ l.length → 0 < ((levelsL l).getD ((levelsL l).length - 1) []).length ∧ rd ((levelsL l).getD ((levelsL l).length - 1) []) 0 = rootL l ∧ (levelsL l).length ≤ n := by
  induction n with
  | zero => intro l h1 h2; omega
  | succ n ih =>
    intro l h1 h2
    by_cases h : 1 < l.length
    · have hu := upL_length l
      obtain ⟨i1, i2, i3⟩ := ih (upL l) (by omega) (by omega)
      obtain ⟨r, hr⟩ := levelsL_cons (upL l)
      rw [levelsL_more h, rootL_more h]
      have e : (l :: levelsL (upL l)).getD ((l :: levelsL (upL l)).length - 1) [] = (levelsL (upL l)).getD ((levelsL (upL l)).length - 1) [] := by
        rw [hr]; simp
      rw [e]
      exact ⟨i1, i2, by simp; omega⟩
    · rw [levelsL_one h, rootL_one h]
      simp
      omega

/-- Strictly rising from behind p on, within lo and hi. -/
def risB (lo hi : Int) : Int → List Int → Bool
  | _, [] => true
  | p, x :: r => (decide (lo ≤ x) && decide (x ≤ hi)) && (decide (p < x) && risB lo hi x r)
theorem risB_all {lo hi : Int} : ∀ (l : List Int) (p : Int), risB lo hi p l = true → ∀ x ∈ l, lo ≤ x ∧ x ≤ hi ∧ p < x
  | [], _, _ => by intro x hx; cases hx
  | y :: r, p, h => by
    simp only [risB, Bool.and_eq_true, decide_eq_true_eq] at h
    intro x hx
    rcases List.mem_cons.1 hx with rfl | hx
    · exact ⟨h.1.1, h.1.2, h.2.1⟩
    · have := risB_all r y h.2.2 x hx; omega
theorem risB_len {lo hi : Int} : ∀ (l : List Int) (p : Int), risB lo hi p l = true → p ≤ hi → (l.length : Int) ≤ hi - p
  | [], p, _, h => by simp only [List.length_nil]; omega
  | x :: r, p, h, hp => by
    simp only [risB, Bool.and_eq_true, decide_eq_true_eq] at h
    have := risB_len r x h.2.2 h.1.2
    simp only [List.length_cons]; omega
theorem specRis_l0 (l : List Int) (lo hi : Int) (hl : l.length ≤ 9223372036854775000) : ∀ (rest : List Int) (i : Nat) (p : Int), l.drop i = rest → (i = 0 → p = lo - 1) → (0 < i → rd l ((i : Int) - 1) = p) → Ev (fun k => spec_l1Rising.l0 k l lo hi i) (risB lo hi p rest)
  | [], i, p, hd, h0, h1 => by
    have : l.length ≤ i := List.drop_eq_nil_iff.1 hd
    refine Ev.step (fun k => by simp only [spec_l1Rising.l0]; rfl) ?_
    simp only [if_neg (show ¬ (i : Int) < (l.length : Int) by omega), risB]
    exact Ev.now _
  | x :: r, i, p, hd, h0, h1 => by
    have hi' := (getD_at (d := x) hd).1
    have IH := specRis_l0 l lo hi hl r (i + 1) x (drop_succ hd) (by omega) (fun _ => by rw [show ((i + 1 : Nat) : Int) - 1 = i by omega]; exact rd_drop hd)
    rw [show ((i + 1 : Nat) : Int) = (i : Int) + 1 by omega] at IH
    refine Ev.step (fun k => by simp only [spec_l1Rising.l0]; rfl) ?_
    simp only [if_pos (show (i : Int) < (l.length : Int) by omega), if_pos (show (0 : Int) ≤ i by omega), rd_drop hd, l1In_eq, Option.bind_some, wrap_in (show -9223372036854775808 ≤ (i : Int) + 1 by omega) (by omega), risB]
    cases hb : (decide (lo ≤ x) && decide (x ≤ hi)) with
    | false => simp only [Bool.false_eq_true, if_false, Bool.false_and]; exact Ev.now _
    | true =>
      simp only [if_true, Bool.true_and]
      simp only [Bool.and_eq_true, decide_eq_true_eq] at hb
      by_cases z : 0 < i
      · simp only [if_pos (show (i : Int) > 0 by omega), wrap_in (show -9223372036854775808 ≤ (i : Int) - 1 by omega) (by omega), if_pos (show 0 ≤ (i : Int) - 1 by omega), if_pos (show (i : Int) - 1 < (l.length : Int) by omega), h1 z]
        by_cases q : p ≥ x
        · simp only [if_pos q, decide_eq_false (show ¬ p < x by omega), Bool.false_and]; exact Ev.now _
        · simp only [if_neg q, decide_eq_true (show p < x by omega), Bool.true_and]; exact IH
      · have := h0 (by omega)
        simp only [if_neg (show ¬ (i : Int) > 0 by omega), decide_eq_true (show p < x by omega), Bool.true_and]; exact IH
theorem implRis_l0 (l : List Int) (lo hi cnt : Int) (hl : l.length ≤ 9223372036854775000) : ∀ (rest : List Int) (i : Nat) (p : Int), l.drop i = rest → (i = 0 → p = lo - 1) → (0 < i → rd l ((i : Int) - 1) = p) → Ev (fun k => impl_isRising.l0 k l lo hi cnt l (l.length : Int) i) (risB lo hi p rest && decide ((l.length : Int) ≤ cnt))
  | [], i, p, hd, h0, h1 => by
    have : l.length ≤ i := List.drop_eq_nil_iff.1 hd
    refine Ev.step (fun k => by simp only [impl_isRising.l0]; rfl) ?_
    simp only [if_neg (show ¬ (i : Int) < (l.length : Int) by omega), risB, Bool.true_and]
    exact Ev.now _
  | x :: r, i, p, hd, h0, h1 => by
    have hi' := (getD_at (d := x) hd).1
    have IH := implRis_l0 l lo hi cnt hl r (i + 1) x (drop_succ hd) (by omega) (fun _ => by rw [show ((i + 1 : Nat) : Int) - 1 = i by omega]; exact rd_drop hd)
    rw [show ((i + 1 : Nat) : Int) = (i : Int) + 1 by omega] at IH
    refine Ev.step (fun k => by simp only [impl_isRising.l0]; rfl) ?_
    simp only [if_pos (show (i : Int) < (l.length : Int) by omega), if_pos (show (0 : Int) ≤ i by omega), rd_drop hd, within_eq, Option.bind_some, wrap_in (show -9223372036854775808 ≤ (i : Int) + 1 by omega) (by omega), risB]
    cases hb : (decide (lo ≤ x) && decide (x ≤ hi)) with
    | false => simp only [Bool.false_eq_true, if_false, Bool.false_and]; exact Ev.now _
    | true =>
      simp only [if_true, Bool.true_and]
      simp only [Bool.and_eq_true, decide_eq_true_eq] at hb
      by_cases z : 0 < i
      · simp only [if_pos (show (i : Int) > 0 by omega), wrap_in (show -9223372036854775808 ≤ (i : Int) - 1 by omega) (by omega), if_pos (show 0 ≤ (i : Int) - 1 by omega), if_pos (show (i : Int) - 1 < (l.length : Int) by omega), h1 z]
        by_cases q : x ≤ p
        · simp only [if_pos q, decide_eq_false (show ¬ p < x by omega), Bool.false_and]; exact Ev.now _
        · simp only [if_neg q, decide_eq_true (show p < x by omega), Bool.true_and]; exact IH
      · have := h0 (by omega)
        simp only [if_neg (show ¬ (i : Int) > 0 by omega), decide_eq_true (show p < x by omega), Bool.true_and]; exact IH
/-- A list of indices of so many leaves. -/
def idxOk (l : List Int) (n : Int) : Bool := decide (0 < (l.length : Int)) && risB 0 (n - 1) (-1) l
theorem specIdx_ev (l : List Int) (n : Int) (hl : l.length ≤ 9223372036854775000) (hn : 0 ≤ n ∧ n ≤ 9223372036854775000) : Ev (fun k => spec_l25Indices.f k l n) (idxOk l n) := by
  unfold spec_l25Indices.f spec_l1Rising.f idxOk
  by_cases h : (l.length : Int) > 0
  · simp only [if_pos h, decide_eq_true (show 0 < (l.length : Int) by omega), Bool.true_and, wrap_in (show -9223372036854775808 ≤ n - 1 by omega) (by omega)]
    exact Ev.bind (specRis_l0 l 0 (n - 1) hl l 0 (-1) rfl (fun _ => by omega) (fun h => by omega)) (Ev.now _)
  · simp only [if_neg h, decide_eq_false (show ¬ 0 < (l.length : Int) by omega), Bool.false_and]; exact Ev.now _
theorem implIdx_ev (l : List Int) (n : Int) (hl : l.length ≤ 9223372036854775000) (hn : 0 ≤ n ∧ n ≤ 9223372036854775000) : Ev (fun k => impl_isSubset.f k l n) (idxOk l n) := by
  unfold impl_isSubset.f impl_isRising.f idxOk
  by_cases h : (l.length : Int) > 0
  · simp only [if_pos h, decide_eq_true (show 0 < (l.length : Int) by omega), Bool.true_and, wrap_in (show -9223372036854775808 ≤ n - 1 by omega) (by omega)]
    refine Ev.bind (implRis_l0 l 0 (n - 1) n hl l 0 (-1) rfl (fun _ => by omega) (fun h => by omega)) (Ev.some ?_)
    cases q : risB 0 (n - 1) (-1) l with
    | false => rfl
    | true =>
      have := risB_len l (-1) q (by omega)
      simp only [Bool.true_and, decide_eq_true_eq]; omega
  · simp only [if_neg h, decide_eq_false (show ¬ 0 < (l.length : Int) by omega), Bool.false_and]; exact Ev.now _
theorem has_ev (l : List Int) (x : Int) (hl : l.length ≤ 9223372036854775000) : Ev (fun k => spec_l1Has.f k l x) (decide (x ∈ l)) := by
  unfold spec_l1Has.f
  refine list_ind0 l (fun i rest => Ev (fun k => spec_l1Has.l0 k l x i) (decide (x ∈ rest))) ?_ ?_
  · refine Ev.step (fun k => by simp only [spec_l1Has.l0]; rfl) ?_
    simp only [Int.lt_irrefl, if_false]
    exact Ev.some (by simp)
  · intro i y rest hi hd ih
    refine Ev.step (fun k => by simp only [spec_l1Has.l0]; rfl) ?_
    simp only [if_pos (show (i : Int) < (l.length : Int) by omega), if_pos (show (0 : Int) ≤ i by omega), rd_drop hd, wrap_in (show -9223372036854775808 ≤ (i : Int) + 1 by omega) (by omega)]
    by_cases q : y = x
    · simp only [if_pos q]; exact Ev.some (by simp [q])
    · simp only [if_neg q]
      rw [show decide (x ∈ y :: rest) = decide (x ∈ rest) by
        have : ¬ x = y := fun e => q e.symm
        simp [this]]
      exact ih

/-- The hashes that a level's known places ask for. -/
def levH (K : Int → Bool) : Int → List Int → List Int
  | _, [] => []
  | _, [_] => []
  | i, a :: b :: r => (if K i then (if K (i + 1) then [] else [b]) else if K (i + 1) then [a] else []) ++ levH K (i + 2) r
def nextK (K : Int → Bool) (j : Int) : Bool := K (2 * j) || K (2 * j + 1)
def provS (l : List Int) (K : Int → Bool) : List Int := if h : 1 < l.length then levH K 0 l ++ provS (upL l) (nextK K) else []
termination_by l.length
decreasing_by rw [upL_length]; omega
theorem provS_one {l : List Int} (h : ¬ 1 < l.length) (K) : provS l K = [] := by rw [provS, dif_neg h]
theorem provS_more {l : List Int} (h : 1 < l.length) (K) : provS l K = levH K 0 l ++ provS (upL l) (nextK K) := by rw [provS, dif_pos h]
theorem levH_len (K : Int → Bool) : ∀ (l : List Int) (i : Int), (levH K i l).length ≤ l.length / 2
  | [], _ => by simp [levH]
  | [_], _ => by simp [levH]
  | a :: b :: r, i => by
    have := levH_len K r (i + 2)
    have h1 : (if K i then (if K (i + 1) then [] else [b]) else if K (i + 1) then [a] else []).length ≤ 1 := by split <;> split <;> simp
    simp only [levH, List.length_append, List.length_cons]; omega
theorem provS_len (n : Nat) : ∀ (l : List Int) (K : Int → Bool), l.length ≤ n → (provS l K).length ≤ l.length := by
  induction n with
  | zero => intro l K h; rw [provS_one (by omega)]; simp
  | succ n ih =>
    intro l K h
    by_cases h1 : 1 < l.length
    · have hu := upL_length l
      have := ih (upL l) (nextK K) (by omega)
      have := levH_len K l 0
      rw [provS_more h1, List.length_append]; omega
    · rw [provS_one h1]; simp
theorem mB_cons (L : List (Int × Bool)) (a : Int) (v : Bool) (x : Int) : mB ((a, v) :: L) x = if x = a then v else mB L x := by
  unfold mB
  rw [List.lookup_cons]
  by_cases h : x = a
  · subst h; simp
  · have e : (x == a) = false := by simpa using h
    rw [e, if_neg h]
theorem half_nat (i : Nat) (h : i ≤ 100) : wrap64 (Int.tdiv (i : Int) 2) = ((i / 2 : Nat) : Int) := by
  rw [Int.tdiv_eq_ediv_of_nonneg (by omega), wrap_in (by omega) (by omega)]; omega
theorem dec_step {i : Nat} (h2 : i % 2 = 0) {j : Int} (e : ¬ j = ((i / 2 : Nat) : Int)) : decide (2 * j < ((i + 2 : Nat) : Int)) = decide (2 * j < (i : Int)) := by
  rw [decide_eq_decide]; omega
theorem dec_here (i : Nat) : decide (2 * ((i / 2 : Nat) : Int) < ((i + 2 : Nat) : Int)) = true := decide_eq_true (by omega)
theorem dec_not {i : Nat} (h2 : i % 2 = 0) : decide (2 * ((i / 2 : Nat) : Int) < (i : Int)) = false := decide_eq_false (by omega)
theorem mem_app (l : List Int) (a x : Int) : decide (x ∈ l ++ [a]) = (decide (x ∈ l) || decide (x = a)) := by
  simp [List.mem_append]
/-- One step of the list of known places. -/
theorem known_step {K : Int → Bool} {i : Nat} (h2 : i % 2 = 0) {next next' : List Int} (hn : ∀ j : Int, decide (j ∈ next) = (decide (2 * j < (i : Int)) && nextK K j)) (hnx : next' = if nextK K ((i / 2 : Nat) : Int) then next ++ [((i / 2 : Nat) : Int)] else next) (j : Int) : decide (j ∈ next') = (decide (2 * j < ((i + 2 : Nat) : Int)) && nextK K j) := by
  subst hnx
  by_cases e : j = ((i / 2 : Nat) : Int)
  · subst e
    rw [dec_here, Bool.true_and]
    cases q : nextK K ((i / 2 : Nat) : Int) with
    | false => rw [if_neg (by simp), hn, q, Bool.and_false]
    | true => rw [if_pos rfl, mem_app]; simp
  · rw [dec_step h2 e, ← hn j]
    split
    · rw [mem_app, decide_eq_false e, Bool.or_false]
    · rfl
theorem map_step {K : Int → Bool} {i : Nat} (h2 : i % 2 = 0) {M : List (Int × Bool)} {v : Bool} (hn : ∀ x : Int, mB M x = (decide (2 * x < (i : Int)) && nextK K x)) (hv : v = nextK K ((i / 2 : Nat) : Int)) (x : Int) : mB ((((i / 2 : Nat) : Int), v) :: M) x = (decide (2 * x < ((i + 2 : Nat) : Int)) && nextK K x) := by
  rw [mB_cons]
  by_cases e : x = ((i / 2 : Nat) : Int)
  · rw [if_pos e, e, hv, dec_here, Bool.true_and]
  · rw [if_neg e, hn x, dec_step h2 e]
def InK (K : Int → Bool) (n : Nat) : Prop := ∀ x, K x = true → 0 ≤ x ∧ x < (n : Int)
theorem nextK_in {K : Int → Bool} {n : Nat} (h : InK K n) : InK (nextK K) ((n + 1) / 2) := by
  intro x hx
  unfold nextK at hx
  rcases Bool.or_eq_true _ _ ▸ hx with h1 | h1
  · have := h _ h1; omega
  · have := h _ h1; omega
theorem not_in {K : Int → Bool} {n : Nat} (h : InK K n) {x : Int} (hx : (n : Int) ≤ x) : K x = false := by
  cases q : K x with
  | false => rfl
  | true => have := h x q; omega
theorem specSub_l1 (l : List Int) (K : Int → Bool) (known : List Int) (hk : ∀ x, decide (x ∈ known) = K x) (hkl : known.length ≤ 64) (R : List Int × Bool) (hl : l.length ≤ 32) (ha : ∀ x ∈ l, inHash x = true) (hK : InK K l.length) : ∀ (rest : List Int) (i : Nat) (out next : List Int), l.drop i = rest → i % 2 = 0 → (∀ j : Int, decide (j ∈ next) = (decide (2 * j < (i : Int)) && nextK K j)) → next.length ≤ i → i ≤ 34 → out.length + rest.length ≤ 100 →
    (∀ next' : List Int, (∀ j, decide (j ∈ next') = nextK K j) → next'.length ≤ 34 → Ev (fun k => spec_ProveSubset.l0 k (out ++ levH K i rest) (upL l) next') R) → Ev (fun k => spec_ProveSubset.l1 k out l known next i) R
  | [], i, out, next, hd, h2, hn, hnl, hi, ho, H => by
    have : l.length ≤ i := List.drop_eq_nil_iff.1 hd
    refine Ev.step (fun k => by simp only [spec_ProveSubset.l1]; rfl) ?_
    simp only [if_neg (show ¬ (i : Int) < (l.length : Int) by omega)]
    refine Ev.bind (l25Up_ev l hl ha) ?_
    have := H next (fun j => by
      rw [hn j]
      cases q : nextK K j with
      | false => simp
      | true =>
        have := nextK_in hK j q
        simp only [Bool.and_true, decide_eq_true_eq]; omega) (by omega)
    simpa [levH] using this
  | [a], i, out, next, hd, h2, hn, hnl, hi, ho, H => by
    have h1 := (getD_at (d := a) hd).1
    have h3 : l.length ≤ i + 1 := List.drop_eq_nil_iff.1 (drop_succ hd)
    have hk1 : K ((i : Int) + 1) = false := not_in hK (by omega)
    have hne : nextK K ((i / 2 : Nat) : Int) = K i := by
      unfold nextK
      rw [show 2 * ((i / 2 : Nat) : Int) = (i : Int) by omega, hk1, Bool.or_false]
    have IH := fun next' (h : ∀ j : Int, decide (j ∈ next') = (decide (2 * j < ((i + 2 : Nat) : Int)) && nextK K j)) hle => specSub_l1 l K known hk hkl R hl ha hK [] (i + 2) out next' (List.drop_eq_nil_iff.2 (by omega)) (by omega) h hle (by omega) (by simp only [List.length_cons] at ho; simp only [List.length_nil]; omega) (fun n' q1 q2 => by simpa [levH] using H n' q1 q2)
    have step (c : Bool) (hc : c = K i) (next' : List Int) (hnx : next' = if c then next ++ [((i / 2 : Nat) : Int)] else next) : Ev (fun k => spec_ProveSubset.l1 k out l known next' ((i + 2 : Nat) : Int)) R := by
      refine IH next' (known_step h2 hn (by rw [hne, hnx, hc])) ?_
      subst hnx; split
      · simp only [List.length_append, List.length_singleton]; omega
      · omega
    refine Ev.step (fun k => by simp only [spec_ProveSubset.l1]; rfl) ?_
    simp only [if_pos (show (i : Int) < (l.length : Int) by omega), wrap_in (show -9223372036854775808 ≤ (i : Int) + 1 by omega) (by omega)]
    refine Ev.bind (has_ev known i (by omega)) ?_
    refine Ev.bind (has_ev known ((i : Int) + 1) (by omega)) ?_
    rw [hk, hk, hk1]
    cases q : K i with
    | false =>
      have s := step false q.symm next (by simp)
      simp only [Bool.false_eq_true, if_false]
      refine Ev.step (fun k => by simp only [spec_ProveSubset.j3]; rfl) ?_
      simp only [Bool.false_eq_true, if_false]
      refine Ev.step (fun k => by simp only [spec_ProveSubset.j4]; rfl) ?_
      simp only [Bool.false_eq_true, if_false]
      refine Ev.step (fun k => by simp only [spec_ProveSubset.j5]; rfl) ?_
      simp only [Bool.false_eq_true, if_false, wrap_in (show -9223372036854775808 ≤ (i : Int) + 2 by omega) (by omega)]
      simpa using s
    | true =>
      have s := step true q.symm _ rfl
      simp only [if_true] at s
      simp only [if_true]
      refine Ev.step (fun k => by simp only [spec_ProveSubset.j3]; rfl) ?_
      simp only [if_true, if_pos (show next.length < 17592186044416 by omega), half_nat i (by omega)]
      refine Ev.step (fun k => by simp only [spec_ProveSubset.j4]; rfl) ?_
      simp only [if_true, Bool.false_eq_true, if_false, wrap_in (show -9223372036854775808 ≤ (i : Int) + 1 by omega) (by omega), decide_eq_false (show ¬ (i : Int) + 1 < (l.length : Int) by omega)]
      refine Ev.step (fun k => by simp only [spec_ProveSubset.j5]; rfl) ?_
      simp only [Bool.false_eq_true, if_false, wrap_in (show -9223372036854775808 ≤ (i : Int) + 2 by omega) (by omega)]
      simpa using s
  | a :: b :: r, i, out, next, hd, h2, hn, hnl, hi, ho, H => by
    have hd1 := drop_succ hd
    have h1 := (getD_at (d := a) hd1).1
    have ea : rd l (i : Int) = a := rd_drop hd
    have eb : rd l ((i : Int) + 1) = b := by have := rd_drop hd1; simpa using this
    have hne : nextK K ((i / 2 : Nat) : Int) = (K i || K ((i : Int) + 1)) := by
      unfold nextK
      rw [show 2 * ((i / 2 : Nat) : Int) = (i : Int) by omega]
    simp only [List.length_cons] at ho
    have step (out' next' : List Int) (hO : out' = out ++ (if K i then (if K ((i : Int) + 1) then [] else [b]) else if K ((i : Int) + 1) then [a] else [])) (hnx : next' = if (K i || K ((i : Int) + 1)) then next ++ [((i / 2 : Nat) : Int)] else next) : Ev (fun k => spec_ProveSubset.l1 k out' l known next' ((i + 2 : Nat) : Int)) R := by
      refine specSub_l1 l K known hk hkl R hl ha hK r (i + 2) out' next' (drop_succ hd1) (by omega) (known_step h2 hn (by rw [hne, hnx])) ?_ (by omega) ?_ (fun n' q1 q2 => ?_)
      · subst hnx; split
        · simp only [List.length_append, List.length_singleton]; omega
        · omega
      · subst hO
        rw [List.length_append]
        have : (if K i then (if K ((i : Int) + 1) then [] else [b]) else if K ((i : Int) + 1) then [a] else []).length ≤ 1 := by split <;> split <;> simp
        omega
      · subst hO
        have := H n' q1 q2
        simpa [levH, List.append_assoc] using this
    refine Ev.step (fun k => by simp only [spec_ProveSubset.l1]; rfl) ?_
    simp only [if_pos (show (i : Int) < (l.length : Int) by omega), wrap_in (show -9223372036854775808 ≤ (i : Int) + 1 by omega) (by omega)]
    refine Ev.bind (has_ev known i (by omega)) ?_
    refine Ev.bind (has_ev known ((i : Int) + 1) (by omega)) ?_
    rw [hk, hk]
    cases q : K i with
    | false =>
      cases q' : K ((i : Int) + 1) with
      | false =>
        have s := step out next (by simp [q, q']) (by simp [q, q'])
        simp only [Bool.false_eq_true, if_false]
        refine Ev.step (fun k => by simp only [spec_ProveSubset.j3]; rfl) ?_
        simp only [Bool.false_eq_true, if_false]
        refine Ev.step (fun k => by simp only [spec_ProveSubset.j4]; rfl) ?_
        simp only [Bool.false_eq_true, if_false]
        refine Ev.step (fun k => by simp only [spec_ProveSubset.j5]; rfl) ?_
        simp only [Bool.false_eq_true, if_false, wrap_in (show -9223372036854775808 ≤ (i : Int) + 2 by omega) (by omega)]
        simpa using s
      | true =>
        have s := step (out ++ [a]) (next ++ [((i / 2 : Nat) : Int)]) (by simp [q, q']) (by simp [q, q'])
        simp only [Bool.false_eq_true, if_false]
        refine Ev.step (fun k => by simp only [spec_ProveSubset.j3]; rfl) ?_
        simp only [if_true, if_pos (show next.length < 17592186044416 by omega), half_nat i (by omega)]
        refine Ev.step (fun k => by simp only [spec_ProveSubset.j4]; rfl) ?_
        simp only [Bool.false_eq_true, if_false]
        refine Ev.step (fun k => by simp only [spec_ProveSubset.j5]; rfl) ?_
        simp only [Bool.false_eq_true, if_false, if_true, wrap_in (show -9223372036854775808 ≤ (i : Int) + 2 by omega) (by omega), if_pos (show (0 : Int) ≤ (i : Int) by omega), if_pos (show (i : Int) < (l.length : Int) by omega), if_pos (show out.length < 17592186044416 by omega), ea]
        simpa using s
    | true =>
      cases q' : K ((i : Int) + 1) with
      | false =>
        have s := step (out ++ [b]) (next ++ [((i / 2 : Nat) : Int)]) (by simp [q, q']) (by simp [q, q'])
        simp only [if_true]
        refine Ev.step (fun k => by simp only [spec_ProveSubset.j3]; rfl) ?_
        simp only [if_true, if_pos (show next.length < 17592186044416 by omega), half_nat i (by omega)]
        refine Ev.step (fun k => by simp only [spec_ProveSubset.j4]; rfl) ?_
        simp only [if_true, Bool.false_eq_true, if_false, wrap_in (show -9223372036854775808 ≤ (i : Int) + 1 by omega) (by omega), decide_eq_true (show (i : Int) + 1 < (l.length : Int) by omega)]
        refine Ev.step (fun k => by simp only [spec_ProveSubset.j5]; rfl) ?_
        simp only [if_true, Bool.false_eq_true, if_false, wrap_in (show -9223372036854775808 ≤ (i : Int) + 1 by omega) (by omega), wrap_in (show -9223372036854775808 ≤ (i : Int) + 2 by omega) (by omega), if_pos (show (0 : Int) ≤ (i : Int) + 1 by omega), if_pos (show (i : Int) + 1 < (l.length : Int) by omega), if_pos (show out.length < 17592186044416 by omega), eb, Option.bind_some]
        simpa using s
      | true =>
        have s := step out (next ++ [((i / 2 : Nat) : Int)]) (by simp [q, q']) (by simp [q, q'])
        simp only [if_true]
        refine Ev.step (fun k => by simp only [spec_ProveSubset.j3]; rfl) ?_
        simp only [if_true, if_pos (show next.length < 17592186044416 by omega), half_nat i (by omega)]
        refine Ev.step (fun k => by simp only [spec_ProveSubset.j4]; rfl) ?_
        simp only [if_true]
        refine Ev.step (fun k => by simp only [spec_ProveSubset.j5]; rfl) ?_
        simp only [if_true, Bool.false_eq_true, if_false, wrap_in (show -9223372036854775808 ≤ (i : Int) + 2 by omega) (by omega)]
        simpa using s
theorem specSub_l0 (n : Nat) : ∀ (l : List Int) (K : Int → Bool) (known out : List Int), l.length ≤ n → 1 ≤ l.length → l.length ≤ 32 → (∀ x ∈ l, inHash x = true) → InK K l.length → (∀ x, decide (x ∈ known) = K x) → known.length ≤ 64 → out.length + l.length ≤ 100 → Ev (fun k => spec_ProveSubset.l0 k out l known) (out ++ provS l K, true) := by
  induction n with
  | zero => intro l K known out h1 h2; omega
  | succ n ih =>
    intro l K known out h1 h2 h3 h4 h5 h6 h7 h8
    refine Ev.step (fun k => by simp only [spec_ProveSubset.l0]; rfl) ?_
    by_cases h : 1 < l.length
    · have hu := upL_length l
      simp only [if_pos (show (l.length : Int) > 1 by omega)]
      refine specSub_l1 l K known h6 h7 _ h3 h4 h5 l 0 out [] rfl rfl (fun j => ?_) (by simp) (by omega) (by omega) (fun next' q1 q2 => ?_)
      · cases q : nextK K j with
        | false => simp
        | true =>
          have := nextK_in h5 j q
          simp; omega
      · rw [provS_more h, ← List.append_assoc]
        have hlen := levH_len K l 0
        refine ih (upL l) (nextK K) next' _ (by omega) (by omega) (by omega) (upL_all l h4) (by rw [hu]; exact nextK_in h5) q1 (by omega) (by simp only [List.length_append]; simp only [Int.ofNat_zero, Int.natCast_zero] at *; omega)
    · simp only [if_neg (show ¬ (l.length : Int) > 1 by omega), provS_one h, List.append_nil]
      exact Ev.now _
theorem mapHas_in (L : List (Int × Bool)) (x : Int) (h : -9223372036854775808 ≤ x ∧ x ≤ 9223372036854775807) : mapHas.f L x = some (mB L x) := by unfold mapHas.f; rw [if_pos h]
theorem mapPut_in (L : List (Int × Bool)) (x : Int) (v : Bool) (h : -9223372036854775808 ≤ x ∧ x ≤ 9223372036854775807) (hl : L.length < 1000000) : mapPut.f L x v = some ((x, v) :: L) := by unfold mapPut.f; rw [if_pos ⟨h, hl⟩]
theorem mapHas_K {L : List (Int × Bool)} {K : Int → Bool} (hL : ∀ x, mB L x = K x) (x : Int) (h : -9223372036854775808 ≤ x ∧ x ≤ 9223372036854775807) : mapHas.f L x = some (K x) := by rw [mapHas_in L x h, hL]
theorem implSub_l2 (l : List Int) (K : Int → Bool) (L : List (Int × Bool)) (hL : ∀ x, mB L x = K x) (all : List (List Int)) (n j : Int) (R : List Int × Bool) (hl : l.length ≤ 32) (hK : InK K l.length) : ∀ (rest : List Int) (i : Nat) (out : List Int) (M : List (Int × Bool)), l.drop i = rest → i % 2 = 0 → (∀ x : Int, mB M x = (decide (2 * x < (i : Int)) && nextK K x)) → M.length ≤ i → i ≤ 34 → out.length + rest.length ≤ 100 →
    (∀ M' : List (Int × Bool), (∀ x, mB M' x = nextK K x) → M'.length ≤ 34 → Ev (fun k => impl_ProveSubset.l1 k (out ++ levH K i rest) M' all n (wrap64 (j + 1))) R) → Ev (fun k => impl_ProveSubset.l2 k out L l M i all n j) R
  | [], i, out, M, hd, h2, hn, hnl, hi, ho, H => by
    have : l.length ≤ i := List.drop_eq_nil_iff.1 hd
    refine Ev.step (fun k => by simp only [impl_ProveSubset.l2]; rfl) ?_
    simp only [if_neg (show ¬ (i : Int) < (l.length : Int) by omega)]
    have := H M (fun x => by
      rw [hn x]
      cases q : nextK K x with
      | false => simp
      | true =>
        have := nextK_in hK x q
        simp only [Bool.and_true, decide_eq_true_eq]; omega) (by omega)
    simpa [levH] using this
  | [a], i, out, M, hd, h2, hn, hnl, hi, ho, H => by
    have h1 := (getD_at (d := a) hd).1
    have h3 : l.length ≤ i + 1 := List.drop_eq_nil_iff.1 (drop_succ hd)
    have hk1 : K ((i : Int) + 1) = false := not_in hK (by omega)
    have hne : nextK K ((i / 2 : Nat) : Int) = K i := by
      unfold nextK
      rw [show 2 * ((i / 2 : Nat) : Int) = (i : Int) by omega, hk1, Bool.or_false]
    have s := implSub_l2 l K L hL all n j R hl hK [] (i + 2) out ((((i / 2 : Nat) : Int), K i) :: M) (List.drop_eq_nil_iff.2 (by omega)) (by omega) (map_step h2 hn hne.symm) (by simp; omega) (by omega) (by simp only [List.length_cons] at ho; simp only [List.length_nil]; omega) (fun n' q1 q2 => by simpa [levH] using H n' q1 q2)
    refine Ev.step (fun k => by simp only [impl_ProveSubset.l2]; rfl) ?_
    simp only [if_pos (show (i : Int) < (l.length : Int) by omega), wrap_in (show -9223372036854775808 ≤ (i : Int) + 1 by omega) (by omega), if_pos (show (i : Int) + 1 = (l.length : Int) by omega), half_nat i (by omega), wrap_in (show -9223372036854775808 ≤ (i : Int) + 2 by omega) (by omega)]
    refine ev_bind0 (mapHas_K hL (i : Int) (by omega)) ?_
    refine ev_bind0 (mapPut_in M ((i / 2 : Nat) : Int) (K i) (by omega) (by omega)) ?_
    exact s
  | a :: b :: r, i, out, M, hd, h2, hn, hnl, hi, ho, H => by
    have hd1 := drop_succ hd
    have h1 := (getD_at (d := a) hd1).1
    have ea : rd l (i : Int) = a := rd_drop hd
    have eb : rd l ((i : Int) + 1) = b := by have := rd_drop hd1; simpa using this
    have hne : nextK K ((i / 2 : Nat) : Int) = (K i || K ((i : Int) + 1)) := by
      unfold nextK
      rw [show 2 * ((i / 2 : Nat) : Int) = (i : Int) by omega]
    simp only [List.length_cons] at ho
    have s (out' : List Int) (v : Bool) (hO : out' = out ++ (if K i then (if K ((i : Int) + 1) then [] else [b]) else if K ((i : Int) + 1) then [a] else [])) (hv : v = (K i || K ((i : Int) + 1))) : Ev (fun k => impl_ProveSubset.l2 k out' L l ((((i / 2 : Nat) : Int), v) :: M) ((i + 2 : Nat) : Int) all n j) R := by
      refine implSub_l2 l K L hL all n j R hl hK r (i + 2) out' _ (drop_succ hd1) (by omega) (map_step h2 hn (by rw [hne, hv])) (by simp; omega) (by omega) ?_ (fun n' q1 q2 => ?_)
      · subst hO
        rw [List.length_append]
        have : (if K i then (if K ((i : Int) + 1) then [] else [b]) else if K ((i : Int) + 1) then [a] else []).length ≤ 1 := by split <;> split <;> simp
        omega
      · subst hO
        have := H n' q1 q2
        simpa [levH, List.append_assoc] using this
    have s4 (u : Bool) (hu : u = (K i && !K ((i : Int) + 1))) : Ev (fun k => impl_ProveSubset.j4 k out L l M i all n j u) R := by
      refine Ev.step (fun k => by simp only [impl_ProveSubset.j4]; rfl) ?_
      simp only [wrap_in (show -9223372036854775808 ≤ (i : Int) + 1 by omega) (by omega), wrap_in (show -9223372036854775808 ≤ (i : Int) + 2 by omega) (by omega), half_nat i (by omega), if_pos (show (0 : Int) ≤ (i : Int) + 1 by omega), if_pos (show (i : Int) + 1 < (l.length : Int) by omega), if_pos (show out.length < 17592186044416 by omega), eb]
      subst hu
      cases q : K i with
      | true =>
        cases q' : K ((i : Int) + 1) with
        | false =>
          simp only [Bool.not_false, Bool.and_self, if_true]
          refine ev_bind0 rfl ?_
          refine ev_bind0 (mapHas_K hL (i : Int) (by omega)) ?_
          simp only [q, if_true]
          refine ev_bind0 (mapPut_in M ((i / 2 : Nat) : Int) true (by omega) (by omega)) ?_
          exact s (out ++ [b]) true (by simp [q, q']) (by simp [q, q'])
        | true =>
          simp only [Bool.not_true, Bool.and_false, Bool.false_eq_true, if_false]
          refine ev_bind0 (mapHas_K hL (i : Int) (by omega)) ?_
          simp only [q, if_true]
          refine Ev.step (fun k => by simp only [impl_ProveSubset.j5]; rfl) ?_
          simp only [Bool.false_eq_true, if_false, half_nat i (by omega), wrap_in (show -9223372036854775808 ≤ (i : Int) + 2 by omega) (by omega)]
          refine ev_bind0 (mapHas_K hL (i : Int) (by omega)) ?_
          simp only [q, if_true]
          refine ev_bind0 (mapPut_in M ((i / 2 : Nat) : Int) true (by omega) (by omega)) ?_
          exact s out true (by simp [q, q']) (by simp [q, q'])
      | false =>
        simp only [Bool.false_and, Bool.false_eq_true, if_false]
        refine ev_bind0 (mapHas_K hL (i : Int) (by omega)) ?_
        simp only [q, Bool.false_eq_true, if_false]
        refine ev_bind0 (mapHas_K hL ((i : Int) + 1) (by omega)) ?_
        refine Ev.step (fun k => by simp only [impl_ProveSubset.j5]; rfl) ?_
        simp only [wrap_in (show -9223372036854775808 ≤ (i : Int) + 1 by omega) (by omega), wrap_in (show -9223372036854775808 ≤ (i : Int) + 2 by omega) (by omega), half_nat i (by omega), if_pos (show (0 : Int) ≤ (i : Int) by omega), if_pos (show (i : Int) < (l.length : Int) by omega), if_pos (show out.length < 17592186044416 by omega), ea]
        cases q' : K ((i : Int) + 1) with
        | false =>
          simp only [Bool.false_eq_true, if_false]
          refine ev_bind0 (mapHas_K hL (i : Int) (by omega)) ?_
          simp only [q, Bool.false_eq_true, if_false]
          refine ev_bind0 (mapHas_K hL ((i : Int) + 1) (by omega)) ?_
          refine ev_bind0 (mapPut_in M ((i / 2 : Nat) : Int) (K ((i : Int) + 1)) (by omega) (by omega)) ?_
          exact s out _ (by simp [q, q']) (by simp [q, q'])
        | true =>
          simp only [if_true]
          refine ev_bind0 rfl ?_
          refine ev_bind0 (mapHas_K hL (i : Int) (by omega)) ?_
          simp only [q, Bool.false_eq_true, if_false]
          refine ev_bind0 (mapHas_K hL ((i : Int) + 1) (by omega)) ?_
          refine ev_bind0 (mapPut_in M ((i / 2 : Nat) : Int) (K ((i : Int) + 1)) (by omega) (by omega)) ?_
          exact s (out ++ [a]) _ (by simp [q, q']) (by simp [q, q'])
    refine Ev.step (fun k => by simp only [impl_ProveSubset.l2]; rfl) ?_
    simp only [if_pos (show (i : Int) < (l.length : Int) by omega), wrap_in (show -9223372036854775808 ≤ (i : Int) + 1 by omega) (by omega), if_neg (show ¬ (i : Int) + 1 = (l.length : Int) by omega)]
    refine ev_bind0 (mapHas_K hL (i : Int) (by omega)) ?_
    cases q : K i with
    | false => simp only [Bool.false_eq_true, if_false]; exact s4 false (by simp [q])
    | true =>
      simp only [if_true]
      refine ev_bind0 (mapHas_K hL ((i : Int) + 1) (by omega)) ?_
      exact s4 _ (by simp [q])
theorem implSub_l1 (n : Nat) (all : List (List Int)) (hall : all.length ≤ 64) : ∀ (l : List Int) (K : Int → Bool) (L : List (Int × Bool)) (out : List Int) (j : Nat), all.drop j = levelsL l → l.length ≤ n → 1 ≤ l.length → l.length ≤ 32 → InK K l.length → (∀ x, mB L x = K x) → out.length + l.length ≤ 100 → Ev (fun k => impl_ProveSubset.l1 k out L all (all.length : Int) (j : Int)) (out ++ provS l K, true) := by
  induction n with
  | zero => intro l K L out j hd h1 h2; omega
  | succ n ih =>
    intro l K L out j hd h1 h2 h3 h4 h5 h6
    obtain ⟨r, hr⟩ := levelsL_cons l
    have hd' := hd; rw [hr] at hd'
    have hg := getD_at (d := []) hd'
    have rj : rd_L5 all (j : Int) = l := by unfold rd_L5; rw [Int.toNat_natCast]; exact hg.2.1
    refine Ev.step (fun k => by simp only [impl_ProveSubset.l1]; rfl) ?_
    simp only [if_pos (show (j : Int) < (all.length : Int) by have := hg.1; omega), if_pos (show (0 : Int) ≤ (j : Int) by omega), rj]
    have hlen := levH_len K l 0
    refine implSub_l2 l K L h5 all (all.length : Int) (j : Int) _ h3 h4 l 0 out [] rfl rfl (fun x => ?_) (by simp) (by omega) (by omega) (fun M q1 q2 => ?_)
    · cases q : nextK K x with
      | false => simp [mB]
      | true =>
        have := nextK_in h4 x q
        simp [mB]; omega
    · rw [wrap_in (by omega) (by have := hg.1; omega)]
      by_cases h : 1 < l.length
      · have hu := upL_length l
        have ht : all.drop (j + 1) = levelsL (upL l) := by
          rw [hg.2.2]; rw [levelsL_more h] at hr; exact (List.cons.inj hr).2.symm
        rw [provS_more h, ← List.append_assoc]
        have := ih (upL l) (nextK K) M (out ++ levH K 0 l) (j + 1) ht (by omega) (by omega) (by omega) (by rw [hu]; exact nextK_in h4) q1 (by simp only [List.length_append]; omega)
        simpa using this
      · have ht : all.length ≤ j + 1 := by
          have h' := hg.2.2
          rw [levelsL_one h] at hr
          rw [← (List.cons.inj hr).2] at h'
          exact List.drop_eq_nil_iff.1 h'
        obtain ⟨a, rfl⟩ : ∃ a, l = [a] := List.length_eq_one_iff.1 (by omega)
        refine Ev.step (fun k => by simp only [impl_ProveSubset.l1]; rfl) ?_
        simp only [if_neg (show ¬ (j : Int) + 1 < (all.length : Int) by omega), provS_one h, levH, List.append_nil]
        exact Ev.now _
theorem implSub_l0 (l ind : List Int) (hi : ∀ x ∈ ind, 0 ≤ x ∧ x ≤ 1000) (hn : ind.length ≤ 1000) (R : List Int × Bool) : ∀ (rest : List Int) (i : Nat) (L : List (Int × Bool)), ind.drop i = rest → L.length ≤ i → (∀ x, mB L x = decide (x ∈ ind.take i)) →
    (∀ L' : List (Int × Bool), (∀ x, mB L' x = decide (x ∈ ind)) → Ev (fun k => (impl_levelsOf.f k l).bind fun t222 => (impl_ProveSubset.l1 k [] L' t222 (t222.length : Int) 0)) R) → Ev (fun k => impl_ProveSubset.l0 k l [] L ind (ind.length : Int) i) R
  | [], i, L, hd, hl, hL, H => by
    have : ind.length ≤ i := List.drop_eq_nil_iff.1 hd
    refine Ev.step (fun k => by simp only [impl_ProveSubset.l0]; rfl) ?_
    simp only [if_neg (show ¬ (i : Int) < (ind.length : Int) by omega)]
    exact H L (fun x => by rw [hL x, List.take_of_length_le this])
  | a :: r, i, L, hd, hl, hL, H => by
    have h1 := (getD_at (d := a) hd).1
    have h2 := hi a (List.mem_of_mem_drop (by rw [hd]; simp))
    refine Ev.step (fun k => by simp only [impl_ProveSubset.l0]; rfl) ?_
    simp only [if_pos (show (i : Int) < (ind.length : Int) by omega), if_pos (show (0 : Int) ≤ (i : Int) by omega), rd_drop hd, wrap_in (show -9223372036854775808 ≤ (i : Int) + 1 by omega) (by omega)]
    refine ev_bind0 (mapPut_in L a true (by omega) (by omega)) ?_
    have := implSub_l0 l ind hi hn R r (i + 1) ((a, true) :: L) (drop_succ hd) (by simp; omega) (fun x => by
      rw [mB_cons, take_succ_at hd, hL x]
      by_cases e : x = a
      · simp [e]
      · simp [e]) H
    simpa using this
def proveSub (l ind : List Int) : List Int × Bool := if leavesOk l && idxOk ind (l.length : Int) then (provS l (fun x => decide (x ∈ ind)), true) else ([], false)
theorem idxOk_in {ind : List Int} {n : Nat} (h : idxOk ind (n : Int) = true) : InK (fun x => decide (x ∈ ind)) n ∧ (n ≤ 1000 → ind.length ≤ n) ∧ 0 < ind.length := by
  unfold idxOk at h
  simp only [Bool.and_eq_true, decide_eq_true_eq] at h
  refine ⟨fun x hx => ?_, fun hn => ?_, by omega⟩
  · have := risB_all ind _ h.2 x (by simpa using hx); omega
  · cases n with
    | zero =>
      cases ind with
      | nil => simp at h
      | cons a r => have := risB_all _ _ h.2 a (by simp); omega
    | succ n => have := risB_len ind _ h.2 (by omega); omega
theorem specSub_ev (l ind : List Int) (hl : l.length ≤ 1048576) (hi : ind.length ≤ 1048576) : Ev (fun k => spec_ProveSubset.f k l ind) (proveSub l ind) := by
  have j (c : Bool) (hc : c = !(leavesOk l && idxOk ind (l.length : Int))) : Ev (fun k => spec_ProveSubset.j0 k l ind [] c) (proveSub l ind) := by
    subst hc
    unfold proveSub
    refine Ev.step (fun k => by simp only [spec_ProveSubset.j0]; rfl) ?_
    cases h : leavesOk l && idxOk ind (l.length : Int) with
    | false => simp only [Bool.not_false, if_true, Bool.false_eq_true, if_false]; exact Ev.now _
    | true =>
      simp only [Bool.and_eq_true] at h
      obtain ⟨h1, h2, h3⟩ := (leavesOk_iff l).1 h.1
      obtain ⟨q1, q2, q3⟩ := idxOk_in h.2
      simp only [Bool.not_true, if_true, Bool.false_eq_true, if_false, l1Own_eq l hl, l1Own_eq ind hi, Option.bind_some]
      have := specSub_l0 l.length l (fun x => decide (x ∈ ind)) ind [] (Nat.le_refl _) h1 h2 h3 q1 (fun _ => rfl) (by have := q2 (by omega); omega) (by simp; omega)
      simpa using this
  unfold spec_ProveSubset.f
  simp only [Option.bind_some]
  refine Ev.bind (l25Leaves_ev l (by omega)) ?_
  cases h1 : leavesOk l with
  | false => simp only [Bool.false_eq_true, if_false]; exact j true (by simp [h1])
  | true =>
    simp only [if_true]
    refine Ev.bind (specIdx_ev ind (l.length : Int) (by omega) (by omega)) ?_
    exact j _ (by simp [h1])
theorem implSub_ev (l ind : List Int) (hl : l.length ≤ 1048576) (hi : ind.length ≤ 1048576) : Ev (fun k => impl_ProveSubset.f k l ind) (proveSub l ind) := by
  have j (c : Bool) (hc : c = !(leavesOk l && idxOk ind (l.length : Int))) : Ev (fun k => impl_ProveSubset.j0 k l ind c) (proveSub l ind) := by
    subst hc
    unfold proveSub
    refine Ev.step (fun k => by simp only [impl_ProveSubset.j0]; rfl) ?_
    cases h : leavesOk l && idxOk ind (l.length : Int) with
    | false => simp only [Bool.not_false, if_true, Bool.false_eq_true, if_false]; exact Ev.now _
    | true =>
      simp only [Bool.and_eq_true] at h
      obtain ⟨h1, h2, h3⟩ := (leavesOk_iff l).1 h.1
      obtain ⟨q1, q2, q3⟩ := idxOk_in h.2
      obtain ⟨p1, p2, p3⟩ := levels_last l.length l (Nat.le_refl _) h1
      simp only [Bool.not_true, if_true, Bool.false_eq_true, if_false]
      refine implSub_l0 l ind (fun x hx => by have := q1 x (by simpa using hx); omega) (by have := q2 (by omega); omega) _ ind 0 [] rfl (by simp) (fun x => by simp [mB]) (fun L' hL' => ?_)
      refine Ev.bind (levelsOf_ev l h.1) ?_
      have := implSub_l1 l.length (levelsL l) (by omega) l (fun x => decide (x ∈ ind)) L' [] 0 rfl (Nat.le_refl _) h1 h2 q1 hL' (by simp; omega)
      simpa using this
  unfold impl_ProveSubset.f
  refine Ev.bind (areLeaves_ev l (by omega)) ?_
  cases h1 : leavesOk l with
  | false => simp only [Bool.false_eq_true, if_false]; exact j true (by simp [h1])
  | true =>
    simp only [if_true]
    refine Ev.bind (implIdx_ev ind (l.length : Int) (by omega) (by omega)) ?_
    exact j _ (by simp [h1])
theorem proveSub_len (l ind : List Int) : (proveSub l ind).1.length ≤ l.length := by
  unfold proveSub; split
  · exact provS_len _ l _ (Nat.le_refl _)
  · simp

/-- Nodes with strictly rising places from lo on, below c, and hashes. -/
def RN (c : Int) : Int → List (Int × Int) → Prop
  | _, [] => True
  | lo, p :: r => lo ≤ p.1 ∧ p.1 < c ∧ inHash p.2 = true ∧ RN c (p.1 + 1) r
theorem RN_mono {c lo lo' : Int} {r : List (Int × Int)} (h : RN c lo r) (hl : lo' ≤ lo) : RN c lo' r := by
  cases r with
  | nil => trivial
  | cons p r => exact ⟨Int.le_trans hl h.1, h.2⟩
theorem lk_cons (p : Int × Int) (r : List (Int × Int)) (x : Int) : (p :: r).lookup x = if x = p.1 then some p.2 else r.lookup x := by
  obtain ⟨a, b⟩ := p
  rw [List.lookup_cons]
  by_cases h : x = a
  · subst h; simp
  · have e : (x == a) = false := by simpa using h
    rw [e, if_neg h]
theorem RN_none {c : Int} : ∀ {r : List (Int × Int)} {lo : Int}, RN c lo r → ∀ x, x < lo → r.lookup x = none
  | [], _, _, _, _ => rfl
  | p :: r, lo, h, x, hx => by
    have h1 := h.1
    rw [lk_cons, if_neg (by omega)]
    exact RN_none h.2.2.2 x (by omega)
theorem lk_app : ∀ {out : List (Int × Int)} {p : Int × Int}, out.lookup p.1 = none → ∀ x, (out ++ [p]).lookup x = if x = p.1 then some p.2 else out.lookup x
  | [], p, _, x => by rw [List.nil_append, lk_cons]
  | q :: r, p, h, x => by
    rw [lk_cons] at h
    have hq : ¬ p.1 = q.1 := fun e => by rw [if_pos e] at h; cases h
    rw [if_neg hq] at h
    rw [List.cons_append, lk_cons, lk_app h, lk_cons]
    by_cases e : x = q.1
    · rw [if_pos e, if_pos e, if_neg (fun e' => hq (e'.symm.trans e))]
    · rw [if_neg e, if_neg e]
theorem lk_ub : ∀ {out : List (Int × Int)} {b : Int}, (∀ p ∈ out, p.1 < b) → ∀ x, b ≤ x → out.lookup x = none
  | [], _, _, _, _ => rfl
  | q :: r, b, h, x, hx => by
    have := h q (by simp)
    rw [lk_cons, if_neg (by omega)]
    exact lk_ub (fun p hp => h p (by simp [hp])) x hx
theorem RN_app {c : Int} : ∀ {out : List (Int × Int)} {lo : Int} {y : Int × Int}, RN c lo out → (∀ p ∈ out, p.1 < y.1) → lo ≤ y.1 → y.1 < c → inHash y.2 = true → RN c lo (out ++ [y])
  | [], lo, y, _, _, h1, h2, h3 => ⟨h1, h2, h3, trivial⟩
  | q :: r, lo, y, h, hu, h1, h2, h3 => ⟨h.1, h.2.1, h.2.2.1, RN_app h.2.2.2 (fun p hp => hu p (by simp [hp])) (by have := hu q (by simp); omega) h2 h3⟩
def oneN (p : Int × Int) (r : List (Int × Int)) : List Int → Option ((Int × Int) × List (Int × Int) × List Int)
  | [] => none
  | g :: hs => some ((p.1 / 2, if p.1 % 2 = 0 then hashP p.2 g else hashP g p.2), r, hs)
def takeN (c : Int) (p : Int × Int) (r : List (Int × Int)) (hs : List Int) : Option ((Int × Int) × List (Int × Int) × List Int) :=
  if p.1 % 2 = 0 ∧ p.1 + 1 = c then some ((p.1 / 2, p.2), r, hs)
  else match r with
    | q :: r' => if p.1 % 2 = 0 ∧ q.1 = p.1 + 1 then some ((p.1 / 2, hashP p.2 q.2), r', hs) else oneN p (q :: r') hs
    | [] => oneN p [] hs
/-- One level up: the nodes of the next level, and the hashes that are left; none if there are too few. -/
def climbF (c : Int) : Nat → List (Int × Int) → List Int → List (Int × Int) → Option (List (Int × Int) × List Int)
  | 0, _, _, _ => none
  | _ + 1, [], hs, out => some (out, hs)
  | n + 1, p :: r, hs, out => match takeN c p r hs with
    | none => none
    | some z => climbF c n z.2.1 z.2.2 (out ++ [z.1])
theorem hashP_ok (a b : Int) : inHash (hashP a b) = true := (inHash_iff _).2 (hashP_in a b)
/-- What a step gives. -/
structure TakeOk (c j : Int) (p : Int × Int) (r : List (Int × Int)) (hs : List Int) (z : (Int × Int) × List (Int × Int) × List Int) : Prop where
  half : z.1.1 = p.1 / 2
  lo : j ≤ z.1.1
  hi : z.1.1 < (c + 1) / 2
  hash : inHash z.1.2 = true
  rest : RN c (2 * (z.1.1 + 1)) z.2.1
  all : ∀ h ∈ z.2.2, inHash h = true
  len : z.2.1.length ≤ r.length
  hlen : z.2.2.length ≤ hs.length
  look : ∀ x, 2 * (z.1.1 + 1) ≤ x → (p :: r).lookup x = z.2.1.lookup x
theorem oneN_ok {c j : Int} {p : Int × Int} {r : List (Int × Int)} {hs : List Int} {z : (Int × Int) × List (Int × Int) × List Int} (hj : 0 ≤ j) (h : RN c (2 * j) (p :: r)) (hh : ∀ x ∈ hs, inHash x = true) (hr : RN c (2 * (p.1 / 2 + 1)) r) (ht : oneN p r hs = some z) : TakeOk c j p r hs z := by
  cases hs with
  | nil => cases ht
  | cons g hs =>
    obtain rfl := Option.some.inj ht
    obtain ⟨h1, h2, h3, h4⟩ := h
    refine ⟨rfl, ?_, ?_, ?_, hr, fun x hx => hh x (by simp [hx]), Nat.le_refl _, by simp, fun x hx => ?_⟩
    · show j ≤ p.1 / 2; omega
    · show p.1 / 2 < (c + 1) / 2; omega
    · show inHash (if p.1 % 2 = 0 then hashP p.2 g else hashP g p.2) = true
      split <;> exact hashP_ok _ _
    · have hx' : 2 * (p.1 / 2 + 1) ≤ x := hx
      rw [lk_cons, if_neg (by omega)]
theorem takeN_ok {c j : Int} {p : Int × Int} {r : List (Int × Int)} {hs : List Int} {z : (Int × Int) × List (Int × Int) × List Int} (hj : 0 ≤ j) (h : RN c (2 * j) (p :: r)) (hh : ∀ x ∈ hs, inHash x = true) (ht : takeN c p r hs = some z) : TakeOk c j p r hs z := by
  have h' := h
  obtain ⟨h1, h2, h3, h4⟩ := h
  unfold takeN at ht
  by_cases a : p.1 % 2 = 0 ∧ p.1 + 1 = c
  · rw [if_pos a] at ht
    obtain rfl := Option.some.inj ht
    have hn : r = [] := by
      cases r with
      | nil => rfl
      | cons q r => have := h4.1; have := h4.2.1; omega
    subst hn
    refine ⟨rfl, ?_, ?_, h3, trivial, hh, Nat.le_refl _, Nat.le_refl _, fun x hx => ?_⟩
    · show j ≤ p.1 / 2; omega
    · show p.1 / 2 < (c + 1) / 2; omega
    · have hx' : 2 * (p.1 / 2 + 1) ≤ x := hx
      rw [lk_cons, if_neg (by omega)]
  · rw [if_neg a] at ht
    cases r with
    | nil => exact oneN_ok hj h' hh trivial ht
    | cons q r =>
      obtain ⟨k1, k2, k3, k4⟩ := h4
      by_cases b : p.1 % 2 = 0 ∧ q.1 = p.1 + 1
      · simp only [if_pos b] at ht
        obtain rfl := Option.some.inj ht
        refine ⟨rfl, ?_, ?_, hashP_ok _ _, RN_mono k4 ?_, hh, by simp, Nat.le_refl _, fun x hx => ?_⟩
        · show j ≤ p.1 / 2; omega
        · show p.1 / 2 < (c + 1) / 2; omega
        · show 2 * (p.1 / 2 + 1) ≤ q.1 + 1; omega
        · have hx' : 2 * (p.1 / 2 + 1) ≤ x := hx
          rw [lk_cons, lk_cons, if_neg (by omega), if_neg (by omega)]
      · simp only [if_neg b] at ht
        exact oneN_ok hj h' hh ⟨by omega, k2, k3, k4⟩ ht
theorem climb_ok {c : Int} : ∀ (n : Nat) (rest : List (Int × Int)) (hs : List Int) (out : List (Int × Int)) (j : Int) (z : List (Int × Int) × List Int), 0 ≤ j → RN c (2 * j) rest → (∀ x ∈ hs, inHash x = true) → RN ((c + 1) / 2) 0 out → (∀ p ∈ out, p.1 < j) → climbF c n rest hs out = some z →
    RN ((c + 1) / 2) 0 z.1 ∧ (∀ x ∈ z.2, inHash x = true) ∧ z.1.length ≤ out.length + rest.length ∧ z.2.length ≤ hs.length ∧ (out ≠ [] ∨ rest ≠ [] → z.1 ≠ [])
  | 0, _, _, _, _, _, _, _, _, _, _, h => by cases h
  | n + 1, [], hs, out, j, z, hj, hr, hh, ho, hu, h => by
    obtain rfl := Option.some.inj h
    exact ⟨ho, hh, by simp, Nat.le_refl _, fun e => by simpa using e⟩
  | n + 1, p :: r, hs, out, j, z, hj, hr, hh, ho, hu, h => by
    unfold climbF at h
    cases ht : takeN c p r hs with
    | none => rw [ht] at h; cases h
    | some t =>
      rw [ht] at h
      have T := takeN_ok hj hr hh ht
      have t1 := T.lo
      obtain ⟨a1, a2, a3, a4, a5⟩ := climb_ok n t.2.1 t.2.2 (out ++ [t.1]) (t.1.1 + 1) z (by omega) T.rest T.all (RN_app ho (fun q hq => by have := hu q hq; omega) (by omega) T.hi T.hash) (fun q hq => by
        rcases List.mem_append.1 hq with hq | hq
        · have := hu q hq; omega
        · simp only [List.mem_singleton] at hq; subst hq; omega) h
      have := T.len; have := T.hlen
      exact ⟨a1, a2, by simp only [List.length_append, List.length_cons, List.length_nil] at a3; simp only [List.length_cons]; omega, by omega, fun _ => a5 (Or.inl (by simp))⟩
theorem half_ev {x : Int} (h0 : 0 ≤ x) (h1 : x ≤ 1000) : wrap64 (Int.tdiv x 2) = x / 2 := by rw [Int.tdiv_eq_ediv_of_nonneg h0]; exact wrap_in (by omega) (by omega)
theorem mod_ev {x : Int} (h0 : 0 ≤ x) : Int.tmod x 2 = x % 2 := Int.tmod_eq_emod_of_nonneg h0
theorem inc_ev {x : Int} (h0 : 0 ≤ x) (h1 : x ≤ 1000) : wrap64 (x + 1) = x + 1 := wrap_in (by omega) (by omega)
def climbL (c : Int) (N : List (Int × Int)) (hs : List Int) : Option (List (Int × Int) × List Int) := climbF c (N.length + 1) N hs []
/-- The root that the nodes and hashes give: whether it is the one, and all hashes are used up. -/
def verL (root : Int) : Nat → Int → List (Int × Int) → List Int → Bool
  | 0, _, _, _ => false
  | f + 1, c, N, hs => if c > 1 then (match climbL c N hs with | none => false | some z => verL root f ((c + 1) / 2) z.1 z.2) else decide (hs.length = 0) && decide ((N.headD (0, 0)).2 = root)
theorem mapGet_in {L : List (Int × Int)} {x : Int} {o : Option Int} (h : L.lookup x = o) (h0 : -9223372036854775808 ≤ x ∧ x ≤ 9223372036854775807) : mapGet.f L x = some (o.getD 0, o.isSome) := by
  unfold mapGet.f; rw [if_pos h0]; unfold mI mHas; rw [h]
theorem mapVal_in {L : List (Int × Int)} {x : Int} {o : Option Int} (h : L.lookup x = o) (h0 : -9223372036854775808 ≤ x ∧ x ≤ 9223372036854775807) : mapVal.f L x = some (o.getD 0) := by
  unfold mapVal.f; rw [if_pos h0]; unfold mI; rw [h]
theorem mapSet_in (L : List (Int × Int)) (x v : Int) (h : -9223372036854775808 ≤ x ∧ x ≤ 9223372036854775807) (hv : -9223372036854775808 ≤ v ∧ v ≤ 9223372036854775807) (hl : L.length < 1000000) : mapSet.f L x v = some ((x, v) :: L) := by unfold mapSet.f; rw [if_pos ⟨⟨h, hv⟩, hl⟩]
theorem climbF_nil (c : Int) (n : Nat) (hn : 0 < n) (hs : List Int) (out : List (Int × Int)) : climbF c n [] hs out = some (out, hs) := by
  obtain ⟨m, rfl⟩ : ∃ m, n = m + 1 := ⟨n - 1, by omega⟩
  rfl
theorem implVer_l2 (root : Int) (L : List (Int × Int)) (c : Int) (hc : 1 < c ∧ c ≤ 64) (R : Bool × Bool) : ∀ (m n j : Nat) (rest : List (Int × Int)) (hs : List Int) (out M : List (Int × Int)), c - 2 * (j : Int) ≤ 2 * (m : Int) → j ≤ 100 → rest.length < n → RN c (2 * (j : Int)) rest → (∀ x, 2 * (j : Int) ≤ x → L.lookup x = rest.lookup x) → (∀ x, M.lookup x = out.lookup x) → (∀ p ∈ out, p.1 < (j : Int)) → M.length ≤ j → (∀ h ∈ hs, inHash h = true) →
    (match climbF c n rest hs out with | none => R = (false, true) | some z => ∀ M' : List (Int × Int), (∀ x, M'.lookup x = z.1.lookup x) → M'.length ≤ 200 → Ev (fun k => impl_VerifySubset.l1 k root M' z.2 ((c + 1) / 2)) R) → Ev (fun k => impl_VerifySubset.l2 k root L hs c M (2 * (j : Int))) R := by
  have leave (n j : Nat) (rest : List (Int × Int)) (hs : List Int) (out M : List (Int × Int)) (hx : ¬ 2 * (j : Int) < c) (hj : j ≤ 100) (hn : rest.length < n) (hr : RN c (2 * (j : Int)) rest) (hM : ∀ x, M.lookup x = out.lookup x) (hMl : M.length ≤ j) (H : match climbF c n rest hs out with | none => R = (false, true) | some z => ∀ M' : List (Int × Int), (∀ x, M'.lookup x = z.1.lookup x) → M'.length ≤ 200 → Ev (fun k => impl_VerifySubset.l1 k root M' z.2 ((c + 1) / 2)) R) : Ev (fun k => impl_VerifySubset.l2 k root L hs c M (2 * (j : Int))) R := by
    have hn0 : rest = [] := by
      cases rest with
      | nil => rfl
      | cons p r => have := hr.1; have := hr.2.1; omega
    subst hn0
    rw [climbF_nil c n (by omega)] at H
    refine Ev.step (fun k => by simp only [impl_VerifySubset.l2]; rfl) ?_
    simp only [if_neg hx, inc_ev (show 0 ≤ c by omega) (by omega), half_ev (show 0 ≤ c + 1 by omega) (by omega)]
    exact H M hM (by omega)
  intro m
  induction m with
  | zero =>
    intro n j rest hs out M h1 hj h2 h3 h4 h5 h6 h7 h8 H
    exact leave n j rest hs out M (by omega) hj h2 h3 h5 h7 H
  | succ m ih =>
    intro n j rest hs out M h1 hj h2 h3 h4 h5 h6 h7 h8 H
    by_cases hx : ¬ 2 * (j : Int) < c
    · exact leave n j rest hs out M hx hj h2 h3 h5 h7 H
    replace hx : 2 * (j : Int) < c := Decidable.not_not.1 hx
    have e2 : wrap64 (2 * (j : Int) + 2) = 2 * ((j + 1 : Nat) : Int) := by rw [wrap_in (by omega) (by omega)]; omega
    have e1 : wrap64 (2 * (j : Int) + 1) = 2 * (j : Int) + 1 := wrap_in (by omega) (by omega)
    have eh : wrap64 (Int.tdiv (2 * (j : Int)) 2) = (j : Int) := by rw [half_ev (by omega) (by omega)]; omega
    -- nothing stands at these two places
    have skip (k3 : RN c (2 * ((j + 1 : Nat) : Int)) rest) (k0 : rest.lookup (2 * (j : Int)) = none) (k1 : rest.lookup (2 * (j : Int) + 1) = none) : Ev (fun k => impl_VerifySubset.l2 k root L hs c M (2 * (j : Int))) R := by
      have IH := ih n (j + 1) rest hs out M (by omega) (by omega) h2 k3 (fun x hx => h4 x (by omega)) h5 (fun p hp => by have := h6 p hp; omega) (by omega) h8 H
      rw [← e2] at IH
      refine Ev.step (fun k => by simp only [impl_VerifySubset.l2]; rfl) ?_
      simp only [if_pos hx, e1]
      refine ev_bind0 (mapGet_in ((h4 _ (by clear e1 e2 eh; omega)).trans k0) (by clear e1 e2 eh; omega)) ?_
      refine ev_bind0 (mapGet_in ((h4 _ (by clear e1 e2 eh; omega)).trans k1) (by clear e1 e2 eh; omega)) ?_
      simp only [Option.isSome_none, Bool.false_eq_true, if_false, Bool.not_false]
      refine Ev.step (fun k => by simp only [impl_VerifySubset.j4]; rfl) ?_
      simp only [if_true]
      exact IH
    cases rest with
    | nil => exact skip trivial rfl rfl
    | cons p r =>
      obtain ⟨n, rfl⟩ : ∃ q, n = q + 1 := ⟨n - 1, by clear e1 e2 eh; omega⟩
      have h3' := h3
      obtain ⟨q1, q2, q3, q4⟩ := h3
      have hp3 := (inHash_iff p.2).1 q3
      by_cases hp : 2 * ((j + 1 : Nat) : Int) ≤ p.1
      · exact skip ⟨hp, q2, q3, q4⟩ (RN_none (show RN c (2 * ((j + 1 : Nat) : Int)) (p :: r) from ⟨hp, q2, q3, q4⟩) _ (by clear e1 e2 eh; omega)) (RN_none (show RN c (2 * ((j + 1 : Nat) : Int)) (p :: r) from ⟨hp, q2, q3, q4⟩) _ (by clear e1 e2 eh; omega))
      have hj2 : p.1 / 2 = (j : Int) := by clear e1 e2 eh; omega
      -- a step with a node
      have cont (z : (Int × Int) × List (Int × Int) × List Int) (ht : takeN c p r hs = some z) : Ev (fun k => impl_VerifySubset.l2 k root L z.2.2 c (((j : Int), z.1.2) :: M) (wrap64 (2 * (j : Int) + 2))) R := by
        have T := takeN_ok (j := (j : Int)) (by clear e1 e2 eh; omega) h3' h8 ht
        have tz : z.1.1 = (j : Int) := T.half.trans hj2
        have tl := T.len
        have hn : out.lookup z.1.1 = none := lk_ub h6 _ (by clear e1 e2 eh; omega)
        have Tr := T.rest
        have Tk := T.look
        rw [tz] at Tr Tk
        rw [e2]
        refine ih n (j + 1) z.2.1 z.2.2 (out ++ [z.1]) _ (by clear e1 e2 eh; omega) (by clear e1 e2 eh; omega) (by clear e1 e2 eh; simp only [List.length_cons] at h2; omega) (by rw [show ((j + 1 : Nat) : Int) = (j : Int) + 1 by clear e1 e2 eh; omega]; exact Tr) (fun x hx => ?_) (fun x => ?_) (fun q hq => ?_) (by clear e1 e2 eh; simp only [List.length_cons]; omega) T.all ?_
        · rw [h4 x (by clear e1 e2 eh; omega)]; exact Tk x (by clear e1 e2 eh; omega)
        · rw [lk_cons, lk_app hn, h5, tz]
        · rcases List.mem_append.1 hq with hq | hq
          · have := h6 q hq; clear e1 e2 eh; omega
          · simp only [List.mem_singleton] at hq; subst hq; clear e1 e2 eh; omega
        · have e : climbF c (n + 1) (p :: r) hs out = climbF c n z.2.1 z.2.2 (out ++ [z.1]) := by
            show (match takeN c p r hs with | none => none | some z => climbF c n z.2.1 z.2.2 (out ++ [z.1])) = _
            rw [ht]
          rw [e] at H; exact H
      have stop (ht : takeN c p r hs = none) : R = (false, true) := by
        have e : climbF c (n + 1) (p :: r) hs out = none := by
          show (match takeN c p r hs with | none => none | some z => climbF c n z.2.1 z.2.2 (out ++ [z.1])) = _
          rw [ht]
        rw [e] at H; exact H
      have hM : M.length < 1000000 := by clear e1 e2 eh; omega
      have hjr : -9223372036854775808 ≤ (j : Int) ∧ (j : Int) ≤ 9223372036854775807 := by clear e1 e2 eh; omega
      have hr64 (a b : Int) : -9223372036854775808 ≤ hashP a b ∧ hashP a b ≤ 9223372036854775807 := by have := hashP_in a b; clear e1 e2 eh; omega
      -- one of the two places is known: a hash is asked for
      have one (hone : takeN c p r hs = oneN p r hs) (left right : Int) (x20 : Bool) (hl : p.1 % 2 = 0 → x20 = true ∧ left = p.2) (hr : ¬ p.1 % 2 = 0 → x20 = false ∧ right = p.2) : Ev (fun k => impl_VerifySubset.j5 k root L hs c M (2 * (j : Int)) left x20 right true) R := by
        refine Ev.step (fun k => by simp only [impl_VerifySubset.j5]; rfl) ?_
        simp only [if_true]
        cases hs with
        | nil =>
          simp only [List.length_nil, if_pos (show ((0 : Nat) : Int) = 0 from rfl)]
          exact Ev.some (stop hone).symm
        | cons g hs =>
          have hg := (inHash_iff g).1 (h8 g (by simp))
          have C := cont _ hone
          simp only [if_neg (show ¬ ((g :: hs).length : Int) = 0 by clear e1 e2 eh; simp only [List.length_cons]; omega), if_pos (show (0 : Int) < ((g :: hs).length : Int) by clear e1 e2 eh; simp only [List.length_cons]; omega), if_pos (show (1 : Int) ≤ ((g :: hs).length : Int) by clear e1 e2 eh; simp only [List.length_cons]; omega), show rd (g :: hs) 0 = g from rfl, List.drop_succ_cons, List.drop_zero, eh]
          by_cases q : p.1 % 2 = 0
          · obtain ⟨rfl, rfl⟩ := hl q
            simp only [if_pos q] at C
            simp only [if_true]
            refine Ev.bind (pairHash_ev p.2 g hp3 hg) ?_
            exact ev_bind0 (mapSet_in M (j : Int) (hashP p.2 g) hjr (hr64 _ _) hM) C
          · obtain ⟨rfl, rfl⟩ := hr q
            simp only [if_neg q] at C
            simp only [Bool.false_eq_true, if_false]
            refine Ev.bind (pairHash_ev g p.2 hg hp3) ?_
            exact ev_bind0 (mapSet_in M (j : Int) (hashP g p.2) hjr (hr64 _ _) hM) C
      by_cases hev : p.1 = 2 * (j : Int)
      · -- the left place is known
        have hm : p.1 % 2 = 0 := by clear e1 e2 eh; omega
        have k0 : L.lookup (2 * (j : Int)) = some p.2 := by rw [h4 _ (Int.le_refl _), lk_cons, if_pos hev.symm]
        have k1 : L.lookup (2 * (j : Int) + 1) = r.lookup (2 * (j : Int) + 1) := by rw [h4 _ (by clear e1 e2 eh; omega), lk_cons, if_neg (by clear e1 e2 eh; omega)]
        refine Ev.step (fun k => by simp only [impl_VerifySubset.l2]; rfl) ?_
        simp only [if_pos hx, e1]
        refine ev_bind0 (mapGet_in k0 (by clear e1 e2 eh; omega)) ?_
        refine ev_bind0 (mapGet_in k1 (by clear e1 e2 eh; omega)) ?_
        simp only [Option.isSome_some, if_true, Option.getD_some]
        refine Ev.step (fun k => by simp only [impl_VerifySubset.j4]; rfl) ?_
        simp only [Bool.false_eq_true, if_false, e1, if_true, eh]
        by_cases hcc : 2 * (j : Int) + 1 = c
        · simp only [if_pos hcc]
          have C := cont ((p.1 / 2, p.2), r, hs) (by unfold takeN; rw [if_pos ⟨hm, by clear e1 e2 eh; omega⟩])
          exact ev_bind0 (mapSet_in M (j : Int) p.2 hjr (by clear e1 e2 eh; omega) hM) C
        · simp only [if_neg hcc]
          have na : ¬ (p.1 % 2 = 0 ∧ p.1 + 1 = c) := fun h => hcc (by have := h.2; clear e1 e2 eh; omega)
          cases r with
          | nil =>
            simp only [List.lookup_nil, Option.isSome_none, Option.getD_none, Bool.not_false]
            exact one (by unfold takeN; rw [if_neg na]) p.2 0 true (fun _ => ⟨rfl, rfl⟩) (fun h => absurd hm h)
          | cons s r' =>
            obtain ⟨s1, s2, s3, s4⟩ := q4
            by_cases b : s.1 = p.1 + 1
            · have ks : (s :: r').lookup (2 * (j : Int) + 1) = some s.2 := by rw [lk_cons, if_pos (by clear e1 e2 eh; omega)]
              simp only [ks, Option.isSome_some, Option.getD_some, Bool.not_true]
              have C := cont ((p.1 / 2, hashP p.2 s.2), r', hs) (by unfold takeN; rw [if_neg na]; simp only [if_pos (And.intro hm b)])
              refine Ev.step (fun k => by simp only [impl_VerifySubset.j5]; rfl) ?_
              simp only [Bool.false_eq_true, if_false, eh]
              refine Ev.bind (pairHash_ev p.2 s.2 hp3 ((inHash_iff s.2).1 s3)) ?_
              exact ev_bind0 (mapSet_in M (j : Int) _ hjr (hr64 _ _) hM) C
            · have ks : (s :: r').lookup (2 * (j : Int) + 1) = none := RN_none (show RN c (p.1 + 2) (s :: r') from ⟨by clear e1 e2 eh; omega, s2, s3, s4⟩) _ (by clear e1 e2 eh; omega)
              simp only [ks, Option.isSome_none, Option.getD_none, Bool.not_false]
              exact one (by unfold takeN; rw [if_neg na]; simp only [if_neg (show ¬ (p.1 % 2 = 0 ∧ s.1 = p.1 + 1) from fun h => b h.2)]) p.2 0 true (fun _ => ⟨rfl, rfl⟩) (fun h => absurd hm h)
      · -- only the right place is known
        have hm : ¬ p.1 % 2 = 0 := by clear e1 e2 eh; omega
        have k0 : L.lookup (2 * (j : Int)) = none := by rw [h4 _ (Int.le_refl _)]; exact RN_none (show RN c p.1 (p :: r) from ⟨Int.le_refl _, q2, q3, q4⟩) _ (by clear e1 e2 eh; omega)
        have k1 : L.lookup (2 * (j : Int) + 1) = some p.2 := by rw [h4 _ (by clear e1 e2 eh; omega), lk_cons, if_pos (by clear e1 e2 eh; omega)]
        refine Ev.step (fun k => by simp only [impl_VerifySubset.l2]; rfl) ?_
        simp only [if_pos hx, e1]
        refine ev_bind0 (mapGet_in k0 (by clear e1 e2 eh; omega)) ?_
        refine ev_bind0 (mapGet_in k1 (by clear e1 e2 eh; omega)) ?_
        simp only [Option.isSome_some, Option.isSome_none, Bool.false_eq_true, if_false, Bool.not_true, Option.getD_some, Option.getD_none]
        refine Ev.step (fun k => by simp only [impl_VerifySubset.j4]; rfl) ?_
        simp only [Bool.false_eq_true, if_false, e1, if_neg (show ¬ 2 * (j : Int) + 1 = c by clear e1 e2 eh; omega)]
        exact one (by
          unfold takeN; rw [if_neg (fun h => hm h.1)]
          cases r with
          | nil => rfl
          | cons s r' => simp only [if_neg (show ¬ (p.1 % 2 = 0 ∧ s.1 = p.1 + 1) from fun h => hm h.1)]) 0 p.2 false (fun h => absurd h hm) (fun _ => ⟨rfl, rfl⟩)
theorem implVer_l1 (root : Int) : ∀ (f : Nat) (c : Int) (N M : List (Int × Int)) (hs : List Int), c ≤ f → 1 ≤ c → c ≤ 64 → RN c 0 N → N ≠ [] → N.length ≤ 900 → (∀ h ∈ hs, inHash h = true) → (∀ x, M.lookup x = N.lookup x) → Ev (fun k => impl_VerifySubset.l1 k root M hs c) (verL root f c N hs, true)
  | 0, c, N, M, hs, h1, h2, h3, h4, h5, h6, h7, h8 => by omega
  | f + 1, c, N, M, hs, h1, h2, h3, h4, h5, h6, h7, h8 => by
    refine Ev.step (fun k => by simp only [impl_VerifySubset.l1]; rfl) ?_
    by_cases h : c > 1
    · simp only [if_pos h]
      have G := implVer_l2 root M c ⟨h, h3⟩ (verL root (f + 1) c N hs, true) 64 (N.length + 1) 0 N hs [] [] (by omega) (by omega) (by omega) h4 (fun x _ => h8 x) (fun _ => rfl) (by simp) (by simp) h7
      refine G ?_
      cases hz : climbF c (N.length + 1) N hs [] with
      | none =>
        show (verL root (f + 1) c N hs, true) = (false, true)
        unfold verL climbL
        rw [if_pos h, hz]
      | some z =>
        intro M' hM' _
        obtain ⟨a1, a2, a3, a4, a5⟩ := climb_ok _ N hs [] 0 z (by omega) h4 h7 trivial (by simp) hz
        have e : verL root (f + 1) c N hs = verL root f ((c + 1) / 2) z.1 z.2 := by
          conv => lhs; unfold verL climbL
          rw [if_pos h, hz]
        rw [e]
        exact implVer_l1 root f ((c + 1) / 2) z.1 M' z.2 (by omega) (by omega) (by omega) a1 (a5 (Or.inr h5)) (by simp at a3; omega) a2 hM'
    · simp only [if_neg h]
      have c1 : c = 1 := by omega
      subst c1
      cases N with
      | nil => exact absurd rfl h5
      | cons p r =>
        have hp := h4.1; have hp' := h4.2.1
        have k0 : M.lookup 0 = some p.2 := by rw [h8, lk_cons, if_pos (by omega)]
        refine ev_bind0 (mapVal_in k0 (by omega)) ?_
        unfold verL
        rw [if_neg h, List.headD_cons, Option.getD_some]
        by_cases q : p.2 = root
        · simp only [if_pos q, decide_eq_true q, Bool.and_true]
          refine Ev.some ?_
          congr 1
          by_cases q' : hs.length = 0
          · rw [q']; rfl
          · rw [decide_eq_false q']
            have : ¬ (hs.length : Int) = 0 := by omega
            simpa using this
        · simp only [if_neg q, decide_eq_false q, Bool.and_false]; exact Ev.now _
/-- The nodes that indices and their hashes make. -/
theorem RN_zip (n : Int) : ∀ (ri rg : List Int) (p : Int), risB 0 (n - 1) p ri = true → (∀ h ∈ rg, inHash h = true) → RN n (p + 1) (ri.zip rg)
  | [], _, _, _, _ => by simp [RN]
  | _ :: _, [], _, _, _ => by simp [RN]
  | a :: ri, g :: rg, p, h, hg => by
    simp only [risB, Bool.and_eq_true, decide_eq_true_eq] at h
    exact ⟨by show p + 1 ≤ a; omega, by show a < n; omega, hg g (by simp), RN_zip n ri rg a h.2.2 (fun x hx => hg x (by simp [hx]))⟩
theorem implVer_l0 (root n : Int) (hn' : n ≤ 64) (ind given hs : List Int) (R : Bool × Bool) (hl : ind.length = given.length) (hi : ind.length ≤ 900) (hg : ∀ h ∈ given, inHash h = true) (H : ∀ M : List (Int × Int), (∀ x, M.lookup x = (ind.zip given).lookup x) → Ev (fun k => impl_VerifySubset.l1 k root M hs n) R) : ∀ (ri rg : List Int) (i : Nat) (p : Int) (out M : List (Int × Int)), ind.drop i = ri → given.drop i = rg → out ++ ri.zip rg = ind.zip given → risB 0 (n - 1) p ri = true → (∀ q ∈ out, q.1 ≤ p) → (∀ x, M.lookup x = out.lookup x) → M.length ≤ i → Ev (fun k => impl_VerifySubset.l0 k root n given hs M ind (ind.length : Int) (i : Int)) R
  | [], rg, i, p, out, M, h1, h2, h3, h4, h5, h6, h7 => by
    have : ind.length ≤ i := List.drop_eq_nil_iff.1 h1
    refine Ev.step (fun k => by simp only [impl_VerifySubset.l0]; rfl) ?_
    simp only [if_neg (show ¬ (i : Int) < (ind.length : Int) by omega)]
    simp only [List.zip_nil_left, List.append_nil] at h3
    exact H M (fun x => by rw [h6, h3])
  | a :: ri, [], i, p, out, M, h1, h2, h3, h4, h5, h6, h7 => by
    have := (getD_at (d := a) h1).1
    have : given.length ≤ i := List.drop_eq_nil_iff.1 h2
    omega
  | a :: ri, g :: rg, i, p, out, M, h1, h2, h3, h4, h5, h6, h7 => by
    have k1 := (getD_at (d := a) h1).1
    simp only [risB, Bool.and_eq_true, decide_eq_true_eq] at h4
    have kg := (inHash_iff g).1 (hg g (List.mem_of_mem_drop (by rw [h2]; simp)))
    have hn : out.lookup a = none := lk_ub (b := a) (fun q hq => by have := h5 q hq; omega) a (Int.le_refl _)
    have IH := implVer_l0 root n hn' ind given hs R hl hi hg H ri rg (i + 1) a (out ++ [(a, g)]) ((a, g) :: M) (drop_succ h1) (drop_succ h2) (by rw [← h3]; simp) h4.2.2 (fun q hq => by
      rcases List.mem_append.1 hq with hq | hq
      · have := h5 q hq; omega
      · simp only [List.mem_singleton] at hq; subst hq; exact Int.le_refl _) (fun x => by rw [lk_cons, lk_app hn, h6]) (by simp; omega)
    refine Ev.step (fun k => by simp only [impl_VerifySubset.l0]; rfl) ?_
    simp only [if_pos (show (i : Int) < (ind.length : Int) by omega), if_pos (show (i : Int) < (given.length : Int) by omega), if_pos (show (0 : Int) ≤ (i : Int) by omega), rd_drop h1, rd_drop h2, wrap_in (show -9223372036854775808 ≤ (i : Int) + 1 by omega) (by omega)]
    exact ev_bind0 (mapSet_in M a g (by omega) (by omega) (by omega)) IH
def verOk (root n : Int) (ind given hs : List Int) : Bool := inHash root && ((decide (1 ≤ n) && decide (n ≤ 32)) && (idxOk ind n && (decide (given.length = ind.length) && (given.all inHash && hs.all inHash))))
def verSub (root n : Int) (ind given hs : List Int) : Bool × Bool := if verOk root n ind given hs then (verL root 64 n (ind.zip given) hs, true) else (false, false)
theorem verOk_in {root n : Int} {ind given hs : List Int} (h : verOk root n ind given hs = true) : (1 ≤ n ∧ n ≤ 32) ∧ ind.length = given.length ∧ ind.length ≤ 64 ∧ (∀ x ∈ given, inHash x = true) ∧ (∀ x ∈ hs, inHash x = true) ∧ risB 0 (n - 1) (-1) ind = true ∧ RN n 0 (ind.zip given) ∧ ind.zip given ≠ [] ∧ (ind.zip given).length ≤ 900 := by
  unfold verOk idxOk at h
  simp only [Bool.and_eq_true, decide_eq_true_eq, List.all_eq_true] at h
  obtain ⟨h1, ⟨h2, h3⟩, ⟨h4, h5⟩, h6, h7, h8⟩ := h
  have hb := risB_len ind (-1) h5 (by omega)
  have hz : (ind.zip given).length = ind.length := by rw [List.length_zip]; omega
  refine ⟨⟨h2, h3⟩, by omega, by omega, h7, h8, h5, RN_zip n ind given (-1) h5 h7, ?_, by omega⟩
  intro e
  rw [e] at hz; simp at hz; omega
theorem implVer_ev (root n : Int) (ind given hs : List Int) (hi : ind.length ≤ 1048576) (hg : given.length ≤ 1048576) (hh : hs.length ≤ 1048576) : Ev (fun k => impl_VerifySubset.f k root n ind given hs) (verSub root n ind given hs) := by
  have no (h : verOk root n ind given hs = false) : Ev (fun k => impl_VerifySubset.j0 k root n ind given hs true) (verSub root n ind given hs) := by
    unfold verSub; rw [h]
    refine Ev.step (fun k => by simp only [impl_VerifySubset.j0]; rfl) ?_
    simp only [if_true, Bool.false_eq_true, if_false]; exact Ev.now _
  have yes (h : verOk root n ind given hs = true) : Ev (fun k => impl_VerifySubset.j0 k root n ind given hs false) (verSub root n ind given hs) := by
    obtain ⟨⟨a1, a2⟩, a3, a4, a5, a6, a7, a8, a9, a10⟩ := verOk_in h
    unfold verSub; rw [h, if_pos rfl]
    refine Ev.step (fun k => by simp only [impl_VerifySubset.j0]; rfl) ?_
    simp only [Bool.false_eq_true, if_false]
    exact implVer_l0 root n (by omega) ind given hs _ a3 (by omega) a5 (fun M hM => implVer_l1 root 64 n (ind.zip given) M hs (by omega) a1 (by omega) a8 a9 a10 a6 hM) ind given 0 (-1) [] [] rfl rfl rfl a7 (by simp) (fun _ => rfl) (by simp)
  unfold impl_VerifySubset.f
  refine ev_bind0 (isHash_eq root) ?_
  cases q1 : inHash root with
  | false => simp only [Bool.false_eq_true, if_false]; exact no (by simp [verOk, q1])
  | true =>
    simp only [if_true]
    refine ev_bind0 (within_eq n 1 32) ?_
    cases q2 : (decide (1 ≤ n) && decide (n ≤ 32)) with
    | false => simp only [Bool.false_eq_true, if_false]; exact no (by unfold verOk; rw [q2]; simp)
    | true =>
      simp only [if_true]
      have hn : 1 ≤ n ∧ n ≤ 32 := by simpa using q2
      refine Ev.bind (implIdx_ev ind n (by omega) (by omega)) ?_
      cases q3 : idxOk ind n with
      | false => simp only [Bool.false_eq_true, if_false]; exact no (by simp [verOk, q3])
      | true =>
        simp only [if_true]
        by_cases q4 : (given.length : Int) = (ind.length : Int)
        · simp only [if_pos q4]
          have q4' : given.length = ind.length := by omega
          refine Ev.bind (areHashes_ev given (by omega)) ?_
          cases q5 : given.all inHash with
          | false => simp only [Bool.false_eq_true, if_false]; exact no (by simp [verOk, q5])
          | true =>
            simp only [if_true]
            refine Ev.bind (areHashes_ev hs (by omega)) ?_
            cases q6 : hs.all inHash with
            | false => exact no (by simp [verOk, q6])
            | true => exact yes (by unfold verOk; rw [q1, q2, q3, q5, q6, decide_eq_true q4']; rfl)
        · simp only [if_neg q4]; exact no (by
            have : ¬ given.length = ind.length := by omega
            simp [verOk, this])

/-- What a list of steps makes of a hash; none where a step's hash is no hash. -/
def climb (l : List S74) (h : Int) : Option Int :=
  match l with
  | [] => some h
  | x :: l => if inHash x.f0 = true then climb l (if x.f1 = true then hashP x.f0 h else hashP h x.f0) else none
def verified (root leaf : Int) (l : List S74) : Bool × Bool :=
  if inHash root && inHash leaf && !decide ((l.length : Int) > 10) then (match climb l leaf with | some h => (h == root, true) | none => (false, false)) else (false, false)
theorem rd_at_step {l : List S74} {i : Nat} {x : S74} {rest : List S74} (hd : l.drop i = x :: rest) : rd_T74 l (i : Int) = x := by
  rw [rd_T74, Int.toNat_natCast]; exact (getD_at hd).2.1
theorem impl_l0_ev (root : Int) (l : List S74) (hl : l.length ≤ 10) (h : Int) (h0 : 0 ≤ h ∧ h ≤ 999978) : Ev (fun k => impl_VerifyLeaf.l0 k root h l (l.length : Int) 0) (match climb l h with | some h => (h == root, true) | none => (false, false)) := by
  refine list_ind0 l (fun i rest => ∀ h : Int, 0 ≤ h ∧ h ≤ 999978 → Ev (fun k => impl_VerifyLeaf.l0 k root h l (l.length : Int) i) (match climb rest h with | some h => (h == root, true) | none => (false, false))) ?_ ?_ h h0
  · intro h _
    refine Ev.step (fun k => by simp only [impl_VerifyLeaf.l0]; rfl) ?_
    simp only [Int.lt_irrefl, if_false, climb]
    exact Ev.now _
  · intro i x rest hi hd ih h hh
    refine Ev.step (fun k => by simp only [impl_VerifyLeaf.l0]; rfl) ?_
    simp only [if_pos (show (i : Int) < (l.length : Int) by omega), if_pos (show (0 : Int) ≤ i by omega), rd_at_step hd, isHash_eq, Option.bind_some, wrap_in (show -9223372036854775808 ≤ (i : Int) + 1 by omega) (by omega), climb]
    cases hx : inHash x.f0 with
    | false => simp only [Bool.false_eq_true, if_false]; exact Ev.now _
    | true =>
      have hx' := (inHash_iff x.f0).1 hx
      simp only [if_true]
      cases hf : x.f1 with
      | false =>
        simp only [Bool.false_eq_true, if_false]
        exact Ev.bind (pairHash_ev h x.f0 hh hx') (ih _ (hashP_in _ _))
      | true =>
        simp only [if_true]
        exact Ev.bind (pairHash_ev x.f0 h hx' hh) (ih _ (hashP_in _ _))
theorem impl_ev (a b : Int) (l : List S74) : Ev (fun k => impl_VerifyLeaf.f k a b l) (verified a b l) := by
  have j (c : Bool) (hc : c = false → 0 ≤ b ∧ b ≤ 999978 ∧ l.length ≤ 10) : Ev (fun k => impl_VerifyLeaf.j0 k a b l c) (if c = true then (false, false) else (match climb l b with | some h => (h == a, true) | none => (false, false))) := by
    refine Ev.step (fun k => by simp only [impl_VerifyLeaf.j0]; rfl) ?_
    cases c with
    | true => simp only [if_true]; exact Ev.now _
    | false =>
      simp only [Bool.false_eq_true, if_false]
      obtain ⟨h1, h2, h3⟩ := hc rfl
      exact impl_l0_ev a l h3 b ⟨h1, h2⟩
  unfold impl_VerifyLeaf.f verified
  simp only [isHash_eq, Option.bind_some]
  cases ha : inHash a with
  | false => simp only [Bool.false_and, Bool.false_eq_true, if_false]; simpa using j true (by simp)
  | true =>
    cases hb : inHash b with
    | false => simp only [Bool.and_false, Bool.false_and, Bool.false_eq_true, if_false, if_true]; simpa using j true (by simp)
    | true =>
      have hb' := (inHash_iff b).1 hb
      simp only [if_true, Bool.true_and]
      by_cases h : (l.length : Int) > 10
      · simp only [decide_eq_true h, Bool.not_true, Bool.false_eq_true, if_false]; simpa using j true (by simp)
      · simp only [decide_eq_false h, Bool.not_false, if_true]
        simpa using j false (fun _ => ⟨hb'.1, hb'.2, by omega⟩)

theorem partner_range (i : Int) (h0 : 0 ≤ i) (h1 : i < 64) : 0 ≤ Go.bits .xor .i64 i 1 ∧ Go.bits .xor .i64 i 1 ≤ 63 := by
  obtain ⟨n, rfl⟩ := Int.eq_ofNat_of_zero_le h0
  have h : n < 64 := by omega
  clear h0 h1
  revert n
  decide
/-- The steps from a leaf upwards. -/
def proveL (l : List Int) (i : Int) : List S74 :=
  if h : 1 < l.length then (if Go.bits .xor .i64 i 1 < (l.length : Int) then [⟨rd l (Go.bits .xor .i64 i 1), decide (Go.bits .xor .i64 i 1 < i)⟩] else []) ++ proveL (upL l) (wrap64 (Int.tdiv i 2)) else []
termination_by l.length
decreasing_by rw [upL_length]; omega
theorem proveL_one {l : List Int} (h : ¬ 1 < l.length) (i : Int) : proveL l i = [] := by rw [proveL, dif_neg h]
theorem proveL_more {l : List Int} (h : 1 < l.length) (i : Int) : proveL l i = (if Go.bits .xor .i64 i 1 < (l.length : Int) then [⟨rd l (Go.bits .xor .i64 i 1), decide (Go.bits .xor .i64 i 1 < i)⟩] else []) ++ proveL (upL l) (wrap64 (Int.tdiv i 2)) := by rw [proveL, dif_pos h]
theorem half_range (i : Int) (h0 : 0 ≤ i) (n : Nat) (h1 : i < (n : Int)) (hn : n ≤ 64) : 0 ≤ wrap64 (Int.tdiv i 2) ∧ wrap64 (Int.tdiv i 2) < ((n + 1) / 2 : Nat) := by
  have e : Int.tdiv i 2 = i / 2 := Int.tdiv_eq_ediv_of_nonneg h0
  rw [e, wrap_in (by omega) (by omega)]
  omega
theorem proveL_len (n : Nat) : ∀ (l : List Int) (i : Int), l.length ≤ n → (proveL l i).length ≤ n := by
  induction n with
  | zero => intro l i h; rw [proveL_one (by omega)]; simp
  | succ n ih =>
    intro l i h
    by_cases h1 : 1 < l.length
    · have hu := upL_length l
      have := ih (upL l) (wrap64 (Int.tdiv i 2)) (by omega)
      rw [proveL_more h1, List.length_append]
      have : (if Go.bits .xor .i64 i 1 < (l.length : Int) then ([⟨rd l (Go.bits .xor .i64 i 1), decide (Go.bits .xor .i64 i 1 < i)⟩] : List S74) else []).length ≤ 1 := by split <;> simp
      omega
    · rw [proveL_one h1]; simp
theorem specProve_l0 (n : Nat) : ∀ (l : List Int) (i : Int) (out : List S74), l.length ≤ n → l.length ≤ 32 → (∀ x ∈ l, inHash x = true) → 0 ≤ i → i < (l.length : Int) → out.length + l.length ≤ 100 → Ev (fun k => spec_ProveLeaf.l0 k i out l) (out ++ proveL l i, true) := by
  induction n with
  | zero => intro l i out h1 h2 h3 h4 h5; omega
  | succ n ih =>
    intro l i out h1 h2 h3 h4 h5 h6
    refine Ev.step (fun k => by simp only [spec_ProveLeaf.l0]; rfl) ?_
    by_cases h : 1 < l.length
    · have hu := upL_length l
      obtain ⟨b1, b2⟩ := half_range i h4 l.length h5 (by omega)
      obtain ⟨p1, p2⟩ := partner_range i h4 (by omega)
      simp only [if_pos (show (l.length : Int) > 1 by omega)]
      rw [proveL_more h]
      by_cases hp : Go.bits .xor .i64 i 1 < (l.length : Int)
      · simp only [if_pos hp, if_pos p1, if_pos (show out.length < 8796093022208 by omega)]
        refine Ev.bind (l25Up_ev l h2 h3) ?_
        have := ih (upL l) (wrap64 (Int.tdiv i 2)) (out ++ [⟨rd l (Go.bits .xor .i64 i 1), decide (Go.bits .xor .i64 i 1 < i)⟩]) (by omega) (by omega) (upL_all l h3) b1 (by rw [hu]; exact b2) (by simp; omega)
        simpa using this
      · simp only [if_neg hp]
        refine Ev.bind (l25Up_ev l h2 h3) ?_
        have := ih (upL l) (wrap64 (Int.tdiv i 2)) out (by omega) (by omega) (upL_all l h3) b1 (by rw [hu]; exact b2) (by omega)
        simpa using this
    · simp only [if_neg (show ¬ (l.length : Int) > 1 by omega), proveL_one h, List.append_nil]
      exact Ev.now _
theorem implProve_l0 (n : Nat) (all : List (List Int)) (hall : all.length ≤ 64) : ∀ (l : List Int) (i : Int) (out : List S74) (j : Nat), all.drop j = levelsL l → l.length ≤ n → l.length ≤ 32 → 0 ≤ i → i < (l.length : Int) → out.length + l.length ≤ 100 → Ev (fun k => impl_ProveLeaf.l0 k i out all (all.length : Int) (j : Int)) (out ++ proveL l i, true) := by
  induction n with
  | zero => intro l i out j hd h1 h2 h4 h5; omega
  | succ n ih =>
    intro l i out j hd h1 h2 h4 h5 h6
    obtain ⟨b1, b2⟩ := half_range i h4 l.length h5 (by omega)
    obtain ⟨p1, p2⟩ := partner_range i h4 (by omega)
    obtain ⟨r, hr⟩ := levelsL_cons l
    have hd' := hd; rw [hr] at hd'
    have hg := getD_at (d := []) hd'
    have rj : rd_L5 all (j : Int) = l := by unfold rd_L5; rw [Int.toNat_natCast]; exact hg.2.1
    refine Ev.step (fun k => by simp only [impl_ProveLeaf.l0]; rfl) ?_
    simp only [if_pos (show (j : Int) < (all.length : Int) by have := hg.1; omega), if_pos (show (0 : Int) ≤ (j : Int) by omega), rj, wrap_in (show -9223372036854775808 ≤ (j : Int) + 1 by omega) (by have := hg.1; omega)]
    by_cases h : 1 < l.length
    · have hu := upL_length l
      have ht : all.drop (j + 1) = levelsL (upL l) := by
        rw [hg.2.2]; rw [levelsL_more h] at hr; exact (List.cons.inj hr).2.symm
      rw [proveL_more h]
      by_cases hp : Go.bits .xor .i64 i 1 < (l.length : Int)
      · simp only [if_pos hp, if_pos p1, if_pos (show out.length < 8796093022208 by omega)]
        have := ih (upL l) (wrap64 (Int.tdiv i 2)) (out ++ [⟨rd l (Go.bits .xor .i64 i 1), decide (Go.bits .xor .i64 i 1 < i)⟩]) (j + 1) ht (by omega) (by omega) b1 (by rw [hu]; exact b2) (by simp; omega)
        simpa using this
      · simp only [if_neg hp]
        have := ih (upL l) (wrap64 (Int.tdiv i 2)) out (j + 1) ht (by omega) (by omega) b1 (by rw [hu]; exact b2) (by omega)
        simpa using this
    · have hl1 : l.length = 1 := by omega
      have i0 : i = 0 := by omega
      subst i0
      have e1 : Go.bits .xor .i64 0 1 = 1 := by decide
      have ht : all.length ≤ j + 1 := by
        have h' := hg.2.2
        rw [levelsL_one h] at hr
        rw [← (List.cons.inj hr).2] at h'
        exact List.drop_eq_nil_iff.1 h'
      simp only [e1, hl1, if_neg (show ¬ (1 : Int) < ((1 : Nat) : Int) by omega), proveL_one h, List.append_nil]
      refine Ev.step (fun k => by simp only [impl_ProveLeaf.l0]; rfl) ?_
      simp only [if_neg (show ¬ (j : Int) + 1 < (all.length : Int) by omega)]
      exact Ev.now _
def proveLeaf (l : List Int) (i : Int) : List S74 × Bool := if leavesOk l && decide (0 ≤ i ∧ i < (l.length : Int)) then (proveL l i, true) else ([], false)
theorem specProve_ev (l : List Int) (hl : l.length ≤ 1048576) (i : Int) : Ev (fun k => spec_ProveLeaf.f k l i) (proveLeaf l i) := by
  have j (c : Bool) (hc : c = !(leavesOk l && decide (0 ≤ i ∧ i < (l.length : Int)))) : Ev (fun k => spec_ProveLeaf.j0 k l i [] c) (proveLeaf l i) := by
    subst hc
    unfold proveLeaf
    refine Ev.step (fun k => by simp only [spec_ProveLeaf.j0]; rfl) ?_
    cases h : leavesOk l && decide (0 ≤ i ∧ i < (l.length : Int)) with
    | false => simp only [Bool.not_false, if_true, Bool.false_eq_true, if_false]; exact Ev.now _
    | true =>
      simp only [Bool.and_eq_true, decide_eq_true_eq] at h
      obtain ⟨h1, h2, h3⟩ := (leavesOk_iff l).1 h.1
      simp only [Bool.not_true, if_true, Bool.false_eq_true, if_false, l1Own_eq l hl, Option.bind_some]
      exact specProve_l0 l.length l i [] (Nat.le_refl _) h2 h3 h.2.1 h.2.2 (by simp; omega)
  unfold spec_ProveLeaf.f
  simp only [Option.bind_some]
  refine Ev.bind (l25Leaves_ev l (by omega)) ?_
  cases h1 : leavesOk l with
  | false => simp only [Bool.false_eq_true, if_false]; exact j true (by simp [h1])
  | true =>
    simp only [if_true, l1In_eq, Option.bind_some]
    refine j _ ?_
    rw [wrap_in (by omega) (by omega)]
    simp only [h1, Bool.true_and]
    congr 1
    by_cases q : 0 ≤ i ∧ i < (l.length : Int)
    · rw [decide_eq_true q]; simp; omega
    · rw [decide_eq_false q]; simp; omega
theorem implProve_ev (l : List Int) (hl : l.length ≤ 1048576) (i : Int) : Ev (fun k => impl_ProveLeaf.f k l i) (proveLeaf l i) := by
  have j (c : Bool) (hc : c = !(leavesOk l && decide (0 ≤ i ∧ i < (l.length : Int)))) : Ev (fun k => impl_ProveLeaf.j0 k l i c) (proveLeaf l i) := by
    subst hc
    unfold proveLeaf
    refine Ev.step (fun k => by simp only [impl_ProveLeaf.j0]; rfl) ?_
    cases h : leavesOk l && decide (0 ≤ i ∧ i < (l.length : Int)) with
    | false => simp only [Bool.not_false, if_true, Bool.false_eq_true, if_false]; exact Ev.now _
    | true =>
      have hlv := h
      simp only [Bool.and_eq_true, decide_eq_true_eq] at h
      obtain ⟨h1, h2, h3⟩ := (leavesOk_iff l).1 h.1
      obtain ⟨q1, q2, q3⟩ := levels_last l.length l (Nat.le_refl _) h1
      simp only [Bool.not_true, if_true, Bool.false_eq_true, if_false]
      refine Ev.bind (levelsOf_ev l h.1) ?_
      exact implProve_l0 l.length (levelsL l) (by omega) l i [] 0 rfl (Nat.le_refl _) h2 h.2.1 h.2.2 (by simp; omega)
  unfold impl_ProveLeaf.f
  refine Ev.bind (areLeaves_ev l (by omega)) ?_
  cases h1 : leavesOk l with
  | false => simp only [Bool.false_eq_true, if_false]; exact j true (by simp [h1])
  | true =>
    simp only [if_true, within_eq, Option.bind_some]
    refine j _ ?_
    rw [wrap_in (by omega) (by omega)]
    simp only [h1, Bool.true_and]
    congr 1
    by_cases q : 0 ≤ i ∧ i < (l.length : Int)
    · rw [decide_eq_true q]; simp; omega
    · rw [decide_eq_false q]; simp; omega
theorem proveLeaf_len (l : List Int) (i : Int) : (proveLeaf l i).1.length ≤ l.length := by
  unfold proveLeaf; split
  · exact proveL_len _ l i (Nat.le_refl _)
  · simp

theorem rootOf_ev (l : List Int) (h : leavesOk l = true) : Ev (fun k => impl_rootOf.f k l) (rootL l) := by
  obtain ⟨h1, h2, h3⟩ := (leavesOk_iff l).1 h
  obtain ⟨q1, q2, q3⟩ := levels_last l.length l (Nat.le_refl _) h1
  obtain ⟨r, hr⟩ := levelsL_cons l
  have hn : 1 ≤ (levelsL l).length := by rw [hr]; simp
  unfold impl_rootOf.f
  refine Ev.bind (levelsOf_ev l h) ?_
  have e : rd_L5 (levelsL l) (((levelsL l).length : Int) - 1) = (levelsL l).getD ((levelsL l).length - 1) [] := by
    unfold rd_L5
    rw [show (((levelsL l).length : Int) - 1).toNat = (levelsL l).length - 1 by omega]
  simp only [wrap_in (show -9223372036854775808 ≤ ((levelsL l).length : Int) - 1 by omega) (by omega), if_pos (show (0 : Int) ≤ ((levelsL l).length : Int) - 1 by omega), if_pos (show ((levelsL l).length : Int) - 1 < ((levelsL l).length : Int) by omega), e, if_pos (show (0 : Int) < (((levelsL l).getD ((levelsL l).length - 1) []).length : Int) by omega)]
  exact Ev.some q2

theorem l25Root_l0 (n : Nat) : ∀ l : List Int, l.length ≤ n → 1 ≤ l.length → l.length ≤ 32 → (∀ x ∈ l, inHash x = true) → Ev (fun k => spec_l25Root.l0 k l) (rootL l) := by
  induction n with
  | zero => intro l h1 h2; omega
  | succ n ih =>
    intro l h1 h2 h3 ha
    refine Ev.step (fun k => by simp only [spec_l25Root.l0]; rfl) ?_
    by_cases h : 1 < l.length
    · have hu := upL_length l
      simp only [if_pos (show (l.length : Int) > 1 by omega)]
      refine Ev.bind (l25Up_ev l h3 ha) ?_
      rw [rootL_more h]
      exact ih (upL l) (by omega) (by omega) (by omega) (upL_all l ha)
    · simp only [if_neg (show ¬ (l.length : Int) > 1 by omega), if_pos (show (0 : Int) < (l.length : Int) by omega)]
      rw [rootL_one h]
      exact Ev.now _
theorem l25Root_ev (l : List Int) (h : leavesOk l = true) : Ev (fun k => spec_l25Root.f k l) (rootL l) := by
  obtain ⟨h1, h2, h3⟩ := (leavesOk_iff l).1 h
  unfold spec_l25Root.f
  simp only [l1Own_eq l (by omega), Option.bind_some]
  exact l25Root_l0 l.length l (Nat.le_refl _) h1 h2 h3
def treeRoot (l : List Int) : Int × Bool := if leavesOk l then (rootL l, true) else (0, false)
theorem specRoot_ev (l : List Int) (hl : l.length ≤ 9223372036854775807) : Ev (fun k => spec_TreeRoot.f k l) (treeRoot l) := by
  unfold spec_TreeRoot.f treeRoot
  refine Ev.bind (l25Leaves_ev l hl) ?_
  cases h : leavesOk l with
  | false => simp only [Bool.false_eq_true, if_false]; exact Ev.now _
  | true => simp only [if_true]; exact Ev.bind (f := fun k t => some (t, true)) (l25Root_ev l h) (Ev.now _)
theorem implRoot_ev (l : List Int) (hl : l.length ≤ 9223372036854775807) : Ev (fun k => impl_TreeRoot.f k l) (treeRoot l) := by
  unfold impl_TreeRoot.f treeRoot
  refine Ev.bind (areLeaves_ev l hl) ?_
  cases h : leavesOk l with
  | false => simp only [Bool.false_eq_true, if_false]; exact Ev.now _
  | true => simp only [if_true]; exact Ev.bind (f := fun k t => some (t, true)) (rootOf_ev l h) (Ev.now _)

/-- A drawn text's bytes. -/
def Bytes (s : List Int) : Prop := s.length ≤ 9223372036854775807 ∧ ∀ y ∈ s, 0 ≤ y ∧ y ≤ 255
theorem bytes_of {s : List Int} (h : s.length ≤ 9223372036854775807 ∧ ∀ y ∈ s, (Lit.int .u8 y).wf = true) : Bytes s := by
  refine ⟨h.1, fun y hy => ?_⟩
  have := h.2 y hy
  simp only [Lit.wf, Bool.and_eq_true, decide_eq_true_eq] at this
  exact this
theorem rd_byte {s : List Int} (h : Bytes s) (i : Int) : 0 ≤ rd s i ∧ rd s i ≤ 255 := by
  unfold rd
  rw [List.getD_eq_getElem?_getD]
  cases hq : s[i.toNat]? with
  | none => simp
  | some y => exact h.2 y (List.mem_of_getElem? hq)
theorem and255 (x : Int) (h0 : 0 ≤ x) (h1 : x < 18446744073709551616) : 0 ≤ Go.bits .and .u64 x 255 ∧ Go.bits .and .u64 x 255 ≤ 255 := by
  have := bits_mask .u64 64 (by decide) (fun n a b => by rw [IntKind.wrap_u64]; omega) 8 (by decide) x h0 h1
  rw [show (2 : Int) ^ 8 - 1 = 255 by decide] at this
  rw [this]
  omega
theorem next_is (s : List Int) (hs : Bytes s) (p r : Int) (h0 : 0 ≤ p) (h1 : p ≤ 4611686018427387904) : ∃ v r', spec_l1Cur_next.f s p r = some (v, p + 1, r') ∧ 0 ≤ v ∧ v ≤ 255 := by
  unfold spec_l1Cur_next.f
  have hw : wrap64 (p + 1) = p + 1 := wrap_in (by omega) (by omega)
  have hb := rd_byte hs p
  have hr : wrap64 (rd s p) = rd s p := wrap_in (by omega) (by omega)
  have hu : ∀ x : Int, 0 ≤ wrap64 (Go.bits .and .u64 ((IntKind.u64.wrap x) / 1099511627776) 255) ∧ wrap64 (Go.bits .and .u64 ((IntKind.u64.wrap x) / 1099511627776) 255) ≤ 255 := by
    intro x
    have e : IntKind.u64.wrap x = x % 18446744073709551616 := IntKind.wrap_u64 x
    have := and255 ((IntKind.u64.wrap x) / 1099511627776) (by rw [e]; omega) (by rw [e]; omega)
    rw [wrap_in (by omega) (by omega)]
    exact this
  rw [hw]
  by_cases c1 : p < (s.length : Int)
  · rw [if_pos c1, if_pos h0, if_pos (show p + 1 ≤ (s.length : Int) by omega)]
    exact ⟨_, _, rfl, by rw [hr]; exact hb⟩
  · rw [if_neg c1, if_neg (show ¬ p + 1 ≤ (s.length : Int) by omega)]
    exact ⟨_, _, rfl, hu _⟩
theorem pick_is (s : List Int) (hs : Bytes s) (p r n : Int) (h0 : 0 ≤ p) (h1 : p ≤ 4611686018427387900) : ∃ v p' r', spec_l1Cur_pick.f s p r n = some (v, p', r') ∧ 0 ≤ v ∧ (v < n ∨ n ≤ 1 ∧ v = 0) ∧ p ≤ p' ∧ p' ≤ p + 2 := by
  unfold spec_l1Cur_pick.f
  by_cases c1 : n ≤ 1
  · rw [if_pos c1]
    exact ⟨0, p, r, rfl, by omega, by omega, by omega, by omega⟩
  · rw [if_neg c1]
    obtain ⟨v, r1, e1, a1, a2⟩ := next_is s hs p r h0 (by omega)
    rw [e1]
    simp only [Option.bind_some]
    by_cases c2 : n > 200
    · rw [if_pos c2]
      obtain ⟨v2, r2, e2, b1, b2⟩ := next_is s hs (p + 1) r1 (by omega) (by omega)
      rw [e2]
      simp only [Option.bind_some]
      rw [if_neg (show ¬ n = 0 by omega), wrap_in (show -9223372036854775808 ≤ v * 256 by omega) (by omega), wrap_in (show -9223372036854775808 ≤ v * 256 + v2 by omega) (by omega)]
      have m0 := Int.tmod_nonneg n (show 0 ≤ v * 256 + v2 by omega)
      have m1 := Int.tmod_lt_of_pos (v * 256 + v2) (show 0 < n by omega)
      exact ⟨_, _, _, rfl, m0, Or.inl m1, by omega, by omega⟩
    · rw [if_neg c2, if_neg (show ¬ n = 0 by omega)]
      have m0 := Int.tmod_nonneg n (show 0 ≤ v by omega)
      have m1 := Int.tmod_lt_of_pos v (show 0 < n by omega)
      exact ⟨_, _, _, rfl, m0, Or.inl m1, by omega, by omega⟩
theorem one_is (s : List Int) (hs : Bytes s) (p r n : Int) (h0 : 0 ≤ p) (h1 : p ≤ 4611686018427387900) : ∃ v p' r', spec_l1Cur_one.f s p r n = some (v, p', r') ∧ p ≤ p' ∧ p' ≤ p + 2 := by
  unfold spec_l1Cur_one.f
  obtain ⟨v, p', r', e, _, _, a, b⟩ := pick_is s hs p r n h0 h1
  rw [e]
  exact ⟨_, _, _, rfl, a, b⟩
theorem rd_mem {l : List Int} {i : Int} (h0 : 0 ≤ i) (h1 : i < (l.length : Int)) : rd l i ∈ l := by
  unfold rd
  have h : i.toNat < l.length := by omega
  rw [List.getD_eq_getElem?_getD, List.getElem?_eq_getElem h]
  simp
theorem among_is (s : List Int) (hs : Bytes s) (p r : Int) (l : List Int) (hl : 0 < l.length) (h0 : 0 ≤ p) (h1 : p ≤ 4611686018427387900) : ∃ v p' r', spec_l1Cur_among.f s p r l = some (v, p', r') ∧ v ∈ l ∧ p ≤ p' ∧ p' ≤ p + 2 := by
  unfold spec_l1Cur_among.f
  obtain ⟨v, p', r', e, a0, a1, a2, a3⟩ := pick_is s hs p r (l.length : Int) h0 h1
  rw [e]
  have hv : v < (l.length : Int) := by omega
  simp only [Option.bind_some, if_pos a0, if_pos hv]
  exact ⟨_, _, _, rfl, rd_mem a0 hv, a2, a3⟩

theorem leaves_l1 (s : List Int) : ∀ (m : Nat) (x : List Int) (p r : Int), x.length ≤ 40 → 33 - x.length ≤ m → ∃ x', Ev (fun k => spec_l1Cur_leaves.l1 k x s p r) (x', p, r) ∧ x'.length ≤ 40
  | m, x, p, r, hx, hm => by
    by_cases h : x.length < 33
    · cases m with
      | zero => omega
      | succ m =>
        obtain ⟨x', e, hx'⟩ := leaves_l1 s m (x ++ [5]) p r (by simp; omega) (by simp; omega)
        refine ⟨x', ?_, hx'⟩
        refine Ev.step (fun k => by simp only [spec_l1Cur_leaves.l1]; rfl) ?_
        simp only [if_pos (show (x.length : Int) < 33 by omega), if_pos (show x.length < 17592186044416 by omega)]
        exact e
    · refine ⟨x, ?_, hx⟩
      refine Ev.step (fun k => by simp only [spec_l1Cur_leaves.l1]; rfl) ?_
      simp only [if_neg (show ¬ (x.length : Int) < 33 by omega)]
      exact Ev.now _
theorem leaves_l0 (s : List Int) (hs : Bytes s) (n : Int) (hn : n ≤ 32) : ∀ (m : Nat) (x : List Int) (i p r : Int), 0 ≤ i → n - i ≤ m → (x.length : Int) = i → i ≤ 32 → 0 ≤ p → p + 2 * m ≤ 2305843009213693952 → ∃ x' p' r', Ev (fun k => spec_l1Cur_leaves.l0 k x n i s p r) (x', p', r') ∧ x'.length ≤ 40 ∧ p ≤ p' ∧ p' ≤ p + 2 * m + 10
  | m, x, i, p, r, h0, hm, hx, hi, hp, hp' => by
    by_cases h : i < n
    · cases m with
      | zero => omega
      | succ m =>
        obtain ⟨v, p1, r1, e, a0, a1, a2, a3⟩ := pick_is s hs p r 256 hp (by omega)
        obtain ⟨x', p', r', e', b0, b1, b2⟩ := leaves_l0 s hs n hn m (x ++ [Int.tmod (wrap64 ((wrap64 (v * 3907)) + (wrap64 (i * 17)))) 999979]) (i + 1) p1 r1 (by omega) (by omega) (by simp; omega) (by omega) (by omega) (by omega)
        refine ⟨x', p', r', ?_, b0, by omega, by omega⟩
        refine Ev.step (fun k => by simp only [spec_l1Cur_leaves.l0]; rfl) ?_
        simp only [if_pos h, e, Option.bind_some, if_pos (show x.length < 17592186044416 by omega), wrap_in (show -9223372036854775808 ≤ i + 1 by omega) (by omega)]
        exact e'
    · obtain ⟨v, p1, r1, e, a0, a1, a2, a3⟩ := pick_is s hs p r 40 hp (by omega)
      by_cases v0 : v = 0
      · obtain ⟨u, p2, r2, e2, b0, b1, b2⟩ := among_is s hs p1 r1 [(-1), 999979, 999978] (by decide) (by omega) (by omega)
        refine ⟨x ++ [u], p2, r2, ?_, by simp; omega, by omega, by omega⟩
        refine Ev.step (fun k => by simp only [spec_l1Cur_leaves.l0]; rfl) ?_
        simp only [if_neg h, e, e2, Option.bind_some, if_pos v0, if_pos (show x.length < 17592186044416 by omega)]
        exact Ev.now _
      by_cases v1 : v = 1
      · refine ⟨x.take (0 : Int).toNat, p1, r1, ?_, by simp, by omega, by omega⟩
        refine Ev.step (fun k => by simp only [spec_l1Cur_leaves.l0]; rfl) ?_
        simp only [if_neg h, e, Option.bind_some, if_neg v0, if_pos v1, if_pos (show 0 ≤ (x.length : Int) by omega)]
        exact Ev.now _
      by_cases v2 : v = 2
      · obtain ⟨x', e2, hx'⟩ := leaves_l1 s 33 x p1 r1 (by omega) (by omega)
        refine ⟨x', p1, r1, ?_, hx', by omega, by omega⟩
        refine Ev.step (fun k => by simp only [spec_l1Cur_leaves.l0]; rfl) ?_
        simp only [if_neg h, e, Option.bind_some, if_neg v0, if_neg v1, if_pos v2]
        exact e2
      · refine ⟨x, p1, r1, ?_, by omega, by omega, by omega⟩
        refine Ev.step (fun k => by simp only [spec_l1Cur_leaves.l0]; rfl) ?_
        simp only [if_neg h, e, Option.bind_some, if_neg v0, if_neg v1, if_neg v2]
        exact Ev.now _
theorem leaves_is (s : List Int) (hs : Bytes s) (p r : Int) (h0 : 0 ≤ p) (h1 : p ≤ 1000000) : ∃ x p' r', Ev (fun k => spec_l1Cur_leaves.f k s p r) (x, p', r') ∧ x.length ≤ 40 ∧ p ≤ p' ∧ p' ≤ p + 100 := by
  obtain ⟨n, p1, r1, e, a0, a1, a2⟩ := among_is s hs p r [1, 2, 3, 4, 5, 6, 7, 8, 9, 13, 32] (by decide) h0 (by omega)
  have hn : n ≤ 32 := by
    simp only [List.mem_cons, List.not_mem_nil, or_false] at a0
    omega
  obtain ⟨x, p', r', e', b0, b1, b2⟩ := leaves_l0 s hs n hn 32 [] 0 p1 r1 (by omega) (by omega) (by simp) (by omega) (by omega) (by omega)
  refine ⟨x, p', r', ?_, b0, by omega, by omega⟩
  unfold spec_l1Cur_leaves.f
  simp only [e, Option.bind_some]
  exact e'

theorem vInts_ev (l : List Int) (hl : l.length ≤ 1048576) : Ev (fun k => laws_vInts.f k l l) true := by
  unfold laws_vInts.f
  simp only [if_true]
  refine list_ind0 l (fun i rest => Ev (fun k => laws_vInts.l0 k l l i) true) ?_ ?_
  · refine Ev.step (fun k => by simp only [laws_vInts.l0]; rfl) ?_
    simp only [Int.lt_irrefl, if_false]
    exact Ev.now _
  · intro i x rest hi hd ih
    refine Ev.step (fun k => by simp only [laws_vInts.l0]; rfl) ?_
    simp only [if_pos (show (i : Int) < (l.length : Int) by omega), if_pos (show (0 : Int) ≤ i by omega), if_true, wrap_in (show -9223372036854775808 ≤ (i : Int) + 1 by omega) (by omega)]
    exact ih
-- a leaf's proof
theorem xor_one (n : Nat) (h : n < 64) : Go.bits .xor .i64 (n : Int) 1 = if n % 2 = 0 then (n : Int) + 1 else (n : Int) - 1 := by
  revert n
  decide
theorem upL_get : ∀ (l : List Int) (n : Nat), n < (l.length + 1) / 2 → rd (upL l) (n : Int) = if 2 * n + 1 < l.length then hashP (rd l (2 * (n : Int))) (rd l (2 * (n : Int) + 1)) else rd l (2 * (n : Int))
  | [], n, h => by simp at h
  | [a], n, h => by
    have : n = 0 := by simp at h; omega
    subst this
    simp [upL, rd]
  | a :: b :: r, 0, h => by simp [upL, rd]
  | a :: b :: r, n + 1, h => by
    simp only [List.length_cons] at h
    have ih := upL_get r n (by omega)
    have e1 : rd (upL (a :: b :: r)) ((n + 1 : Nat) : Int) = rd (upL r) (n : Int) := by unfold rd; simp [upL]
    have e2 : rd (a :: b :: r) (2 * ((n + 1 : Nat) : Int)) = rd r (2 * (n : Int)) := by
      unfold rd
      rw [show (2 * ((n + 1 : Nat) : Int)).toNat = (2 * (n : Int)).toNat + 2 by omega]; rfl
    have e3 : rd (a :: b :: r) (2 * ((n + 1 : Nat) : Int) + 1) = rd r (2 * (n : Int) + 1) := by
      unfold rd
      rw [show (2 * ((n + 1 : Nat) : Int) + 1).toNat = (2 * (n : Int) + 1).toNat + 2 by omega]; rfl
    rw [e1, e2, e3, ih]
    simp only [List.length_cons]
    by_cases q : 2 * n + 1 < r.length
    · rw [if_pos q, if_pos (by omega)]
    · rw [if_neg q, if_neg (by omega)]
theorem climb_prove (m : Nat) : ∀ (l : List Int) (n : Nat), l.length ≤ m → l.length ≤ 32 → (∀ x ∈ l, inHash x = true) → n < l.length → climb (proveL l (n : Int)) (rd l (n : Int)) = some (rootL l) := by
  induction m with
  | zero => intro l n h1 h2 h3 h4; omega
  | succ m ih =>
    intro l n h1 h2 h3 h4
    by_cases h : 1 < l.length
    · have hu := upL_length l
      have hx := xor_one n (by omega)
      have hh : wrap64 (Int.tdiv (n : Int) 2) = ((n / 2 : Nat) : Int) := half_nat n (by omega)
      have IH := ih (upL l) (n / 2) (by omega) (by omega) (upL_all l h3) (by omega)
      rw [upL_get l (n / 2) (by omega)] at IH
      rw [proveL_more h, rootL_more h, hx, hh]
      by_cases ev : n % 2 = 0
      · rw [if_pos ev]
        rw [show (2 * ((n / 2 : Nat) : Int)) = (n : Int) by omega] at IH
        by_cases q : n + 1 < l.length
        · rw [if_pos (show (n : Int) + 1 < (l.length : Int) by omega), List.singleton_append]
          rw [if_pos (by omega)] at IH
          have hm : inHash (rd l ((n : Int) + 1)) = true := h3 _ (rd_mem (by omega) (by omega))
          show climb (⟨rd l ((n : Int) + 1), decide ((n : Int) + 1 < (n : Int))⟩ :: proveL (upL l) ((n / 2 : Nat) : Int)) (rd l (n : Int)) = _
          unfold climb
          simp only [hm, if_true, decide_eq_false (show ¬ (n : Int) + 1 < (n : Int) by omega), Bool.false_eq_true, if_false]
          exact IH
        · rw [if_neg (show ¬ (n : Int) + 1 < (l.length : Int) by omega), List.nil_append]
          rw [if_neg (by omega)] at IH
          exact IH
      · rw [if_neg ev]
        rw [show (2 * ((n / 2 : Nat) : Int)) = (n : Int) - 1 by omega, if_pos (by omega), show (n : Int) - 1 + 1 = (n : Int) by omega] at IH
        rw [if_pos (show (n : Int) - 1 < (l.length : Int) by omega), List.singleton_append]
        have hm : inHash (rd l ((n : Int) - 1)) = true := h3 _ (rd_mem (by omega) (by omega))
        show climb (⟨rd l ((n : Int) - 1), decide ((n : Int) - 1 < (n : Int))⟩ :: proveL (upL l) ((n / 2 : Nat) : Int)) (rd l (n : Int)) = _
        unfold climb
        simp only [hm, if_true, decide_eq_true (show (n : Int) - 1 < (n : Int) by omega)]
        exact IH
    · have hn : n = 0 := by omega
      subst hn
      rw [proveL_one h, rootL_one h]
      rfl
theorem proveL_log (m : Nat) : ∀ (l : List Int) (i : Int), l.length ≤ 2 ^ m → (proveL l i).length ≤ m := by
  induction m with
  | zero => intro l i h; rw [proveL_one (by simp at h; omega)]; simp
  | succ m ih =>
    intro l i h
    by_cases h1 : 1 < l.length
    · have hu := upL_length l
      have := ih (upL l) (wrap64 (Int.tdiv i 2)) (by rw [Nat.pow_succ] at h; omega)
      rw [proveL_more h1, List.length_append]
      have : (if Go.bits .xor .i64 i 1 < (l.length : Int) then ([⟨rd l (Go.bits .xor .i64 i 1), decide (Go.bits .xor .i64 i 1 < i)⟩] : List S74) else []).length ≤ 1 := by split <;> simp
      omega
    · rw [proveL_one h1]; simp
theorem rootL_in (m : Nat) : ∀ (l : List Int), l.length ≤ m → 1 ≤ l.length → (∀ x ∈ l, inHash x = true) → inHash (rootL l) = true := by
  induction m with
  | zero => intro l h1 h2; omega
  | succ m ih =>
    intro l h1 h2 h3
    by_cases h : 1 < l.length
    · have hu := upL_length l
      rw [rootL_more h]; exact ih (upL l) (by omega) (by omega) (upL_all l h3)
    · rw [rootL_one h]; exact h3 _ (rd_mem (by omega) (by omega))
theorem leaf_verified (l : List Int) (i : Int) (h : leavesOk l = true) (h0 : 0 ≤ i ∧ i < (l.length : Int)) : verified (rootL l) (rd l i) (proveL l i) = (true, true) := by
  obtain ⟨h1, h2, h3⟩ := (leavesOk_iff l).1 h
  obtain ⟨n, rfl⟩ := Int.eq_ofNat_of_zero_le h0.1
  have hlog := proveL_log 5 l (n : Int) (by omega)
  have hc := climb_prove l.length l n (Nat.le_refl _) h2 h3 (by omega)
  unfold verified
  rw [rootL_in l.length l (Nat.le_refl _) h1 h3, h3 _ (rd_mem (by omega) (by omega)), decide_eq_false (show ¬ ((proveL l (n : Int)).length : Int) > 10 by omega), hc]
  simp
-- a set's proof
def nodesL (K : Int → Bool) : Int → List Int → List (Int × Int)
  | _, [] => []
  | i, a :: r => if K i then (i, a) :: nodesL K (i + 1) r else nodesL K (i + 1) r
theorem nodesL_len (K : Int → Bool) : ∀ (l : List Int) (i : Int), (nodesL K i l).length ≤ l.length
  | [], _ => by simp [nodesL]
  | a :: r, i => by
    have := nodesL_len K r (i + 1)
    unfold nodesL; split <;> simp only [List.length_cons] <;> omega
theorem nodesL_lo (K : Int → Bool) : ∀ (l : List Int) (i : Int), ∀ p ∈ nodesL K i l, i ≤ p.1
  | [], _, _, h => by simp [nodesL] at h
  | a :: r, i, p, h => by
    unfold nodesL at h
    split at h
    · rcases List.mem_cons.1 h with rfl | h
      · exact Int.le_refl _
      · have := nodesL_lo K r (i + 1) p h; omega
    · have := nodesL_lo K r (i + 1) p h; omega
theorem nodesL_congr {K K' : Int → Bool} : ∀ (l : List Int) (i : Int), (∀ x, i ≤ x → K x = K' x) → nodesL K i l = nodesL K' i l
  | [], _, _ => rfl
  | a :: r, i, h => by
    unfold nodesL
    rw [h i (Int.le_refl _), nodesL_congr r (i + 1) (fun x hx => h x (by omega))]
theorem take_one {c : Int} {p : Int × Int} {r : List (Int × Int)} {hs : List Int} (h1 : ¬ (p.1 % 2 = 0 ∧ p.1 + 1 = c)) (h2 : p.1 % 2 = 0 → ∀ q ∈ r, q.1 ≠ p.1 + 1) : takeN c p r hs = oneN p r hs := by
  unfold takeN
  rw [if_neg h1]
  cases r with
  | nil => rfl
  | cons q r => simp only [if_neg (show ¬ (p.1 % 2 = 0 ∧ q.1 = p.1 + 1) from fun h => h2 h.1 q (by simp) h.2)]
theorem climb_nodes (K : Int → Bool) (c : Int) (hK : ∀ x, K x = true → x < c) : ∀ (l : List Int) (i : Int) (n : Nat) (tail : List Int) (out : List (Int × Int)), i % 2 = 0 → c = i + (l.length : Int) → (nodesL K i l).length < n → climbF c n (nodesL K i l) (levH K i l ++ tail) out = some (out ++ nodesL (nextK K) (i / 2) (upL l), tail)
  | [], i, n, tail, out, h1, h2, h3 => by
    obtain ⟨n, rfl⟩ : ∃ q, n = q + 1 := ⟨n - 1, by omega⟩
    simp [nodesL, levH, climbF, upL]
  | [a], i, n, tail, out, h1, h2, h3 => by
    simp only [List.length_cons, List.length_nil] at h2
    have k1 : K (i + 1) = false := by
      cases q : K (i + 1) with
      | false => rfl
      | true => have := hK _ q; omega
    have kn : nextK K (i / 2) = K i := by unfold nextK; rw [show 2 * (i / 2) = i by omega, k1, Bool.or_false]
    have eN : nodesL K i [a] = if K i then [(i, a)] else [] := by simp [nodesL]
    have eU : nodesL (nextK K) (i / 2) (upL [a]) = if K i then [(i / 2, a)] else [] := by simp [nodesL, upL, kn]
    rw [eU]
    rw [eN] at h3 ⊢
    cases q : K i with
    | false =>
      rw [q] at h3
      simp only [Bool.false_eq_true, if_false, List.length_nil] at h3 ⊢
      obtain ⟨n, rfl⟩ : ∃ q, n = q + 1 := ⟨n - 1, by omega⟩
      simp [levH, climbF]
    | true =>
      rw [q] at h3
      simp only [if_true, List.length_cons, List.length_nil] at h3 ⊢
      obtain ⟨n, rfl⟩ : ∃ q, n = q + 2 := ⟨n - 2, by omega⟩
      have ht : takeN c (i, a) [] tail = some ((i / 2, a), [], tail) := by unfold takeN; rw [if_pos ⟨h1, by show i + 1 = c; omega⟩]
      show (match takeN c (i, a) [] ([] ++ tail) with | none => none | some z => climbF c (n + 1) z.2.1 z.2.2 (out ++ [z.1])) = _
      rw [List.nil_append, ht]
      rfl
  | a :: b :: r, i, n, tail, out, h1, h2, h3 => by
    simp only [List.length_cons] at h2
    have kn : nextK K (i / 2) = (K i || K (i + 1)) := by unfold nextK; rw [show 2 * (i / 2) = i by omega]
    have eU : nodesL (nextK K) (i / 2) (upL (a :: b :: r)) = if (K i || K (i + 1)) then (i / 2, hashP a b) :: nodesL (nextK K) ((i + 2) / 2) (upL r) else nodesL (nextK K) ((i + 2) / 2) (upL r) := by
      rw [upL]
      show (if nextK K (i / 2) then _ else _) = _
      rw [kn, show i / 2 + 1 = (i + 2) / 2 by omega]
    have eN : nodesL K i (a :: b :: r) = if K i then (i, a) :: (if K (i + 1) then (i + 1, b) :: nodesL K (i + 2) r else nodesL K (i + 2) r) else (if K (i + 1) then (i + 1, b) :: nodesL K (i + 2) r else nodesL K (i + 2) r) := by
      simp only [nodesL, show i + 1 + 1 = i + 2 by omega]
    have hlo := nodesL_lo K r (i + 2)
    have IH := fun (n : Nat) (out : List (Int × Int)) (h : (nodesL K (i + 2) r).length < n) => climb_nodes K c hK r (i + 2) n tail out (by omega) (by omega) h
    have nc : ¬ (i % 2 = 0 ∧ i + 1 = c) := fun h => by have := h.2; omega
    rw [eU]
    rw [eN] at h3 ⊢
    simp only [levH]
    cases q : K i with
    | false =>
      cases q' : K (i + 1) with
      | false =>
        rw [q, q'] at h3
        simp only [Bool.false_eq_true, if_false, Bool.or_self, List.nil_append] at h3 ⊢
        exact IH n out h3
      | true =>
        rw [q, q'] at h3
        simp only [Bool.false_eq_true, if_false, if_true, Bool.or_true, List.singleton_append, List.length_cons] at h3 ⊢
        obtain ⟨n, rfl⟩ : ∃ q, n = q + 1 := ⟨n - 1, by omega⟩
        have hm : ¬ (i + 1) % 2 = 0 := by omega
        have ht : takeN c (i + 1, b) (nodesL K (i + 2) r) (a :: (levH K (i + 2) r ++ tail)) = some ((i / 2, hashP a b), nodesL K (i + 2) r, levH K (i + 2) r ++ tail) := by
          rw [take_one (fun h => hm h.1) (fun h => absurd h hm)]
          show some (((i + 1) / 2, if (i + 1) % 2 = 0 then hashP b a else hashP a b), _, _) = _
          rw [if_neg hm, show (i + 1) / 2 = i / 2 by omega]
        show (match takeN c (i + 1, b) (nodesL K (i + 2) r) (a :: (levH K (i + 2) r ++ tail)) with | none => none | some z => climbF c n z.2.1 z.2.2 (out ++ [z.1])) = _
        rw [ht]
        show climbF c n (nodesL K (i + 2) r) (levH K (i + 2) r ++ tail) (out ++ [(i / 2, hashP a b)]) = _
        rw [IH n _ (by omega)]; simp
    | true =>
      cases q' : K (i + 1) with
      | false =>
        rw [q, q'] at h3
        simp only [Bool.false_eq_true, if_false, if_true, Bool.or_false, List.singleton_append, List.length_cons] at h3 ⊢
        obtain ⟨n, rfl⟩ : ∃ q, n = q + 1 := ⟨n - 1, by omega⟩
        have ht : takeN c (i, a) (nodesL K (i + 2) r) (b :: (levH K (i + 2) r ++ tail)) = some ((i / 2, hashP a b), nodesL K (i + 2) r, levH K (i + 2) r ++ tail) := by
          rw [take_one nc (fun _ q hq => by have := hlo q hq; show q.1 ≠ i + 1; omega)]
          show some ((i / 2, if i % 2 = 0 then hashP a b else hashP b a), _, _) = _
          rw [if_pos h1]
        show (match takeN c (i, a) (nodesL K (i + 2) r) (b :: (levH K (i + 2) r ++ tail)) with | none => none | some z => climbF c n z.2.1 z.2.2 (out ++ [z.1])) = _
        rw [ht]
        show climbF c n (nodesL K (i + 2) r) (levH K (i + 2) r ++ tail) (out ++ [(i / 2, hashP a b)]) = _
        rw [IH n _ (by omega)]; simp
      | true =>
        rw [q, q'] at h3
        simp only [if_true, Bool.or_true, List.nil_append, List.length_cons] at h3 ⊢
        obtain ⟨n, rfl⟩ : ∃ q, n = q + 1 := ⟨n - 1, by omega⟩
        have ht : takeN c (i, a) ((i + 1, b) :: nodesL K (i + 2) r) (levH K (i + 2) r ++ tail) = some ((i / 2, hashP a b), nodesL K (i + 2) r, levH K (i + 2) r ++ tail) := by
          unfold takeN
          rw [if_neg nc]
          show (if i % 2 = 0 ∧ i + 1 = i + 1 then some ((i / 2, hashP a b), nodesL K (i + 2) r, levH K (i + 2) r ++ tail) else oneN (i, a) ((i + 1, b) :: nodesL K (i + 2) r) (levH K (i + 2) r ++ tail)) = _
          rw [if_pos ⟨h1, rfl⟩]
        show (match takeN c (i, a) ((i + 1, b) :: nodesL K (i + 2) r) (levH K (i + 2) r ++ tail) with | none => none | some z => climbF c n z.2.1 z.2.2 (out ++ [z.1])) = _
        rw [ht]
        show climbF c n (nodesL K (i + 2) r) (levH K (i + 2) r ++ tail) (out ++ [(i / 2, hashP a b)]) = _
        rw [IH n _ (by omega)]; simp
theorem ver_nodes (f : Nat) : ∀ (l : List Int) (K : Int → Bool), l.length ≤ f → 1 ≤ l.length → InK K l.length → (∃ x, K x = true) → verL (rootL l) f (l.length : Int) (nodesL K 0 l) (provS l K) = true := by
  induction f with
  | zero => intro l K h1 h2; omega
  | succ f ih =>
    intro l K h1 h2 hK hx
    unfold verL
    by_cases h : 1 < l.length
    · have hu := upL_length l
      rw [if_pos (show (l.length : Int) > 1 by omega), provS_more h, rootL_more h]
      have C := climb_nodes K (l.length : Int) (fun x hx => (hK x hx).2) l 0 ((nodesL K 0 l).length + 1) (provS (upL l) (nextK K)) [] rfl (by omega) (by omega)
      unfold climbL
      rw [C]
      show verL (rootL (upL l)) f (((l.length : Int) + 1) / 2) (nodesL (nextK K) (0 / 2) (upL l)) (provS (upL l) (nextK K)) = true
      rw [show ((l.length : Int) + 1) / 2 = ((upL l).length : Int) by omega]
      refine ih (upL l) (nextK K) (by omega) (by omega) (by rw [hu]; exact nextK_in hK) ?_
      obtain ⟨x, hx⟩ := hx
      refine ⟨x / 2, ?_⟩
      unfold nextK
      by_cases e : x % 2 = 0
      · rw [show 2 * (x / 2) = x by omega, hx, Bool.true_or]
      · rw [show 2 * (x / 2) + 1 = x by omega, hx, Bool.or_true]
    · obtain ⟨a, rfl⟩ : ∃ a, l = [a] := List.length_eq_one_iff.1 (by omega)
      obtain ⟨x, hx⟩ := hx
      have := hK x hx
      have : x = 0 := by simp at this; omega
      subst this
      rw [if_neg (show ¬ (([a] : List Int).length : Int) > 1 by simp), provS_one h, rootL_one h]
      simp [nodesL, hx, rd]
theorem nodesL_false {K : Int → Bool} : ∀ (l : List Int) (i : Int), (∀ x, K x = false) → nodesL K i l = []
  | [], _, _ => rfl
  | a :: r, i, h => by unfold nodesL; rw [h i, if_neg (by simp)]; exact nodesL_false r (i + 1) h
theorem nodes_zip (l : List Int) (hi : Int) : ∀ (m i : Nat) (ind : List Int) (p : Int), l.length - i ≤ m → i ≤ l.length → risB 0 hi p ind = true → (∀ x ∈ ind, (i : Int) ≤ x) → (∀ x ∈ ind, x < (l.length : Int)) → nodesL (fun x => decide (x ∈ ind)) (i : Int) (l.drop i) = ind.zip (ind.map (rd l))
  | m, i, [], p, hm, hi', hr, hp, hx => by
    rw [nodesL_false _ _ (fun x => by simp)]; rfl
  | m, i, x :: ind, p, hm, hi', hr, hp, hx => by
    have hr' := hr
    simp only [risB, Bool.and_eq_true, decide_eq_true_eq] at hr
    have hxl := hx x (by simp)
    have hxi := hp x (by simp)
    have hall := risB_all ind x hr.2.2
    cases m with
    | zero => omega
    | succ m =>
      obtain ⟨a, r, hd⟩ : ∃ a r, l.drop i = a :: r := by
        cases h : l.drop i with
        | nil => have := List.drop_eq_nil_iff.1 h; omega
        | cons a r => exact ⟨a, r, rfl⟩
      have hd1 := drop_succ hd
      have ea := rd_drop hd
      rw [hd]
      have ec : (i : Int) + 1 = ((i + 1 : Nat) : Int) := by omega
      by_cases e : x = (i : Int)
      · unfold nodesL
        rw [if_pos (by simp [e])]
        have := nodes_zip l hi m (i + 1) ind x (by omega) (by omega) hr.2.2 (fun y hy => by have := hall y hy; omega) (fun y hy => hx y (by simp [hy]))
        rw [hd1] at this
        rw [List.map_cons, List.zip_cons_cons, ← this, ec, e, ea]
        congr 1
        refine nodesL_congr r _ (fun y hy => ?_)
        have hne : ¬ y = (i : Int) := by omega
        simp [hne]
      · unfold nodesL
        rw [if_neg (by
          simp only [decide_eq_true_eq, List.mem_cons, not_or]
          exact ⟨fun h => e h.symm, fun h => by have := hall _ h; omega⟩)]
        have := nodes_zip l hi m (i + 1) (x :: ind) p (by omega) (by omega) hr' (fun y hy => by
          rcases List.mem_cons.1 hy with rfl | hy
          · omega
          · have := hall y hy; omega) hx
        rw [hd1] at this
        rw [ec]; exact this
theorem levH_nodes (K : Int → Bool) : ∀ (l : List Int) (i : Int), (levH K i l).length ≤ (nodesL K i l).length
  | [], _ => by simp [levH]
  | [_], _ => by simp [levH]
  | a :: b :: r, i => by
    have := levH_nodes K r (i + 2)
    simp only [levH, nodesL, show i + 1 + 1 = i + 2 by omega, List.length_append]
    cases K i <;> cases K (i + 1) <;> simp <;> omega
theorem up_nodes (K : Int → Bool) : ∀ (l : List Int) (i : Int), i % 2 = 0 → (∀ x, K x = true → x < i + (l.length : Int)) → (nodesL (nextK K) (i / 2) (upL l)).length ≤ (nodesL K i l).length
  | [], i, _, _ => by simp [upL, nodesL]
  | [a], i, h1, h2 => by
    have k1 : K (i + 1) = false := by
      cases q : K (i + 1) with
      | false => rfl
      | true => have := h2 _ q; simp only [List.length_cons, List.length_nil] at this; omega
    have kn : nextK K (i / 2) = K i := by unfold nextK; rw [show 2 * (i / 2) = i by omega, k1, Bool.or_false]
    simp only [upL, nodesL, kn]
    cases K i <;> simp
  | a :: b :: r, i, h1, h2 => by
    have ih := up_nodes K r (i + 2) (by omega) (fun x hx => by have := h2 x hx; simp only [List.length_cons] at this; omega)
    have kn : nextK K (i / 2) = (K i || K (i + 1)) := by unfold nextK; rw [show 2 * (i / 2) = i by omega]
    simp only [upL, nodesL, kn, show i / 2 + 1 = (i + 2) / 2 by omega, show i + 1 + 1 = i + 2 by omega]
    cases K i <;> cases K (i + 1) <;> simp <;> omega
theorem provS_five (m : Nat) : ∀ (l : List Int) (K : Int → Bool), l.length ≤ 2 ^ m → InK K l.length → (provS l K).length ≤ m * (nodesL K 0 l).length := by
  induction m with
  | zero => intro l K h _; rw [provS_one (by simp at h; omega)]; simp
  | succ m ih =>
    intro l K h hK
    by_cases h1 : 1 < l.length
    · have hu := upL_length l
      have a1 := ih (upL l) (nextK K) (by rw [Nat.pow_succ] at h; omega) (by rw [hu]; exact nextK_in hK)
      have a2 := levH_nodes K l 0
      have a3 := up_nodes K l 0 rfl (fun x hx => by have := hK x hx; omega)
      rw [provS_more h1, List.length_append, Nat.succ_mul]
      have a4 : m * (nodesL (nextK K) 0 (upL l)).length ≤ m * (nodesL K 0 l).length := Nat.mul_le_mul_left _ a3
      omega
    · rw [provS_one h1]; simp
theorem levH_in (K : Int → Bool) : ∀ (l : List Int) (i : Int), (∀ x ∈ l, inHash x = true) → ∀ x ∈ levH K i l, inHash x = true
  | [], _, _, x, hx => by simp [levH] at hx
  | [_], _, _, x, hx => by simp [levH] at hx
  | a :: b :: r, i, h, x, hx => by
    have ih := levH_in K r (i + 2) (fun y hy => h y (by simp [hy]))
    simp only [levH] at hx
    rcases List.mem_append.1 hx with hx | hx
    · have : x = a ∨ x = b := by
        revert hx
        cases K i <;> cases K (i + 1) <;> simp <;> intro e <;> simp [e]
      rcases this with rfl | rfl
      · exact h _ (by simp)
      · exact h _ (by simp)
    · exact ih x hx
theorem provS_in (m : Nat) : ∀ (l : List Int) (K : Int → Bool), l.length ≤ m → (∀ x ∈ l, inHash x = true) → ∀ x ∈ provS l K, inHash x = true := by
  induction m with
  | zero => intro l K h1 h2 x hx; rw [provS_one (by omega)] at hx; cases hx
  | succ m ih =>
    intro l K h1 h2 x hx
    by_cases h : 1 < l.length
    · have hu := upL_length l
      rw [provS_more h] at hx
      rcases List.mem_append.1 hx with hx | hx
      · exact levH_in K l 0 h2 x hx
      · exact ih (upL l) (nextK K) (by omega) (upL_all l h2) x hx
    · rw [provS_one h] at hx; cases hx
/-- The proof of a set of leaves is accepted. -/
theorem sub_verified (l ind : List Int) (h : leavesOk l = true) (hi : idxOk ind (l.length : Int) = true) : verSub (rootL l) (l.length : Int) ind (ind.map (rd l)) (provS l (fun x => decide (x ∈ ind))) = (true, true) ∧ (provS l (fun x => decide (x ∈ ind))).length ≤ 5 * ind.length ∧ ind.length ≤ l.length := by
  obtain ⟨h1, h2, h3⟩ := (leavesOk_iff l).1 h
  obtain ⟨q1, q2, q3⟩ := idxOk_in hi
  have q2 := q2 (by omega)
  have hi' := hi
  unfold idxOk at hi'
  simp only [Bool.and_eq_true, decide_eq_true_eq] at hi'
  have hx : ∀ x ∈ ind, 0 ≤ x ∧ x < (l.length : Int) := fun x hx => q1 x (by simpa using hx)
  have hz := nodes_zip l ((l.length : Int) - 1) l.length 0 ind (-1) (by omega) (by omega) hi'.2 (fun x hm => (hx x hm).1) (fun x hm => (hx x hm).2)
  rw [List.drop_zero] at hz
  have hz : nodesL (fun x => decide (x ∈ ind)) 0 l = ind.zip (ind.map (rd l)) := hz
  have hv := ver_nodes 64 l (fun x => decide (x ∈ ind)) (by omega) h1 q1 (by
    cases ind with
    | nil => simp at q3
    | cons a r => exact ⟨a, by simp⟩)
  rw [hz] at hv
  have h5 := provS_five 5 l (fun x => decide (x ∈ ind)) (by omega) q1
  rw [hz, List.length_zip, List.length_map, Nat.min_self] at h5
  refine ⟨?_, h5, q2⟩
  have hok : verOk (rootL l) (l.length : Int) ind (ind.map (rd l)) (provS l (fun x => decide (x ∈ ind))) = true := by
    unfold verOk
    rw [rootL_in l.length l (Nat.le_refl _) h1 h3, hi]
    simp only [Bool.true_and, Bool.and_eq_true, decide_eq_true_eq, List.length_map, List.all_eq_true]
    refine ⟨⟨by omega, by omega⟩, trivial, ?_, provS_in l.length l _ (Nat.le_refl _) h3⟩
    intro x hx'
    obtain ⟨y, hy, rfl⟩ := List.mem_map.1 hx'
    exact h3 _ (rd_mem (hx y hy).1 (hx y hy).2)
  unfold verSub
  rw [hok, if_pos rfl, hv]
theorem given_l0 (l ind hs : List Int) (R : Bool) (hx : ∀ x ∈ ind, 0 ≤ x ∧ x < (l.length : Int)) (hn : ind.length ≤ 1000) (H : Ev (fun k => (impl_TreeRoot.f k l).bind fun bt474 => ((impl_VerifySubset.f k bt474.1 (l.length : Int) ind (ind.map (rd l)) hs).bind fun bt476 => (if bt474.2 = true then (if bt476.1 = true then (if bt476.2 = true then (some (decide ((hs.length : Int) ≤ (wrap64 ((wrap64 ((l.length : Int) - (ind.length : Int))) + (wrap64 ((ind.length : Int) * 5))))))) else (some false)) else (some false)) else (some false)))) R) : ∀ (rest : List Int) (i : Nat) (out : List Int), ind.drop i = rest → out ++ rest.map (rd l) = ind.map (rd l) → out.length ≤ i → Ev (fun k => laws_FnEvidence.l0 k l ind hs out (i : Int)) R
  | [], i, out, hd, ho, hl => by
    have : ind.length ≤ i := List.drop_eq_nil_iff.1 hd
    refine Ev.step (fun k => by simp only [laws_FnEvidence.l0]; rfl) ?_
    simp only [if_neg (show ¬ (i : Int) < (ind.length : Int) by omega)]
    simp only [List.map_nil, List.append_nil] at ho
    rw [ho]; exact H
  | a :: r, i, out, hd, ho, hl => by
    have h1 := (getD_at (d := a) hd).1
    have h2 := hx a (List.mem_of_mem_drop (by rw [hd]; simp))
    refine Ev.step (fun k => by simp only [laws_FnEvidence.l0]; rfl) ?_
    simp only [if_pos (show (i : Int) < (ind.length : Int) by omega), if_pos (show (0 : Int) ≤ (i : Int) by omega), rd_drop hd, if_pos h2.1, if_pos h2.2, if_pos (show out.length < 17592186044416 by omega), wrap_in (show -9223372036854775808 ≤ (i : Int) + 1 by omega) (by omega)]
    have := given_l0 l ind hs R hx hn H r (i + 1) (out ++ [rd l a]) (drop_succ hd) (by rw [← ho]; simp) (by simp; omega)
    simpa using this
theorem indices_l0 (s : List Int) (hs : Bytes s) (n : Int) (hn : n ≤ 40) : ∀ (m : Nat) (x : List Int) (i p r : Int), 0 ≤ i → n - i ≤ m → (x.length : Int) ≤ i → 0 ≤ p → p + 2 * m ≤ 1000000 → i ≤ 41 → ∃ x' p' r', Ev (fun k => spec_l1Cur_indices.l0 k n x i s p r) (x', p', r') ∧ x'.length ≤ 50
  | m, x, i, p, r, h0, hm, hx, hp, hp', hi => by
    have j2 (x : List Int) (p r : Int) (hp : 0 ≤ p ∧ p ≤ 2000000) (hx : x.length ≤ 45) : ∃ x' p' r', Ev (fun k => spec_l1Cur_indices.j2 k x s p r) (x', p', r') ∧ x'.length ≤ 50 := by
      obtain ⟨v, p1, r1, e, a2, a3⟩ := one_is s hs p r 40 hp.1 (by omega)
      cases v with
      | false =>
        refine ⟨x, p1, r1, ?_, by omega⟩
        refine Ev.step (fun k => by simp only [spec_l1Cur_indices.j2]; rfl) ?_
        simp only [e, Option.bind_some, Bool.false_eq_true, if_false]; exact Ev.now _
      | true =>
        obtain ⟨v2, p2, r2, e2, _⟩ := pick_is s hs p1 r1 3 (by omega) (by omega)
        refine ⟨x ++ [v2], p2, r2, ?_, by simp; omega⟩
        refine Ev.step (fun k => by simp only [spec_l1Cur_indices.j2]; rfl) ?_
        simp only [e, Option.bind_some, if_true, e2, if_pos (show x.length < 17592186044416 by omega)]; exact Ev.now _
    have j1 (x : List Int) (c : Bool) (p r : Int) (hp : 0 ≤ p ∧ p ≤ 1500000) (hx : x.length ≤ 42) : ∃ x' p' r', Ev (fun k => spec_l1Cur_indices.j1 k n x c s p r) (x', p', r') ∧ x'.length ≤ 50 := by
      cases c with
      | false =>
        obtain ⟨x', p', r', e, hl⟩ := j2 x p r (by omega) (by omega)
        refine ⟨x', p', r', ?_, hl⟩
        refine Ev.step (fun k => by simp only [spec_l1Cur_indices.j1]; rfl) ?_
        simp only [Bool.false_eq_true, if_false]; exact e
      | true =>
        obtain ⟨t, ht⟩ : ∃ t, spec_l1Most.f n 1 = some t := by
          unfold spec_l1Most.f; split
          · exact ⟨_, rfl⟩
          · exact ⟨_, rfl⟩
        obtain ⟨v, p1, r1, e, a0, a1, a2, a3⟩ := pick_is s hs p r t hp.1 (by omega)
        obtain ⟨x', p', r', e', hl⟩ := j2 (x ++ [v]) p1 r1 (by omega) (by simp; omega)
        refine ⟨x', p', r', ?_, hl⟩
        refine Ev.step (fun k => by simp only [spec_l1Cur_indices.j1]; rfl) ?_
        simp only [if_true, ht, e, Option.bind_some, if_pos (show x.length < 17592186044416 by omega)]; exact e'
    by_cases h : i < n
    · cases m with
      | zero => omega
      | succ m =>
        obtain ⟨v, p1, r1, e, a2, a3⟩ := one_is s hs p r 3 hp (by omega)
        cases v with
        | true =>
          obtain ⟨x', p', r', e', hl⟩ := indices_l0 s hs n hn m (x ++ [i]) (i + 1) p1 r1 (by omega) (by omega) (by simp; omega) (by omega) (by omega) (by omega)
          refine ⟨x', p', r', ?_, hl⟩
          refine Ev.step (fun k => by simp only [spec_l1Cur_indices.l0]; rfl) ?_
          simp only [if_pos h, e, Option.bind_some, if_true, if_pos (show x.length < 17592186044416 by omega), wrap_in (show -9223372036854775808 ≤ i + 1 by omega) (by omega)]; exact e'
        | false =>
          obtain ⟨x', p', r', e', hl⟩ := indices_l0 s hs n hn m x (i + 1) p1 r1 (by omega) (by omega) (by omega) (by omega) (by omega) (by omega)
          refine ⟨x', p', r', ?_, hl⟩
          refine Ev.step (fun k => by simp only [spec_l1Cur_indices.l0]; rfl) ?_
          simp only [if_pos h, e, Option.bind_some, Bool.false_eq_true, if_false, wrap_in (show -9223372036854775808 ≤ i + 1 by omega) (by omega)]; exact e'
    · by_cases hx0 : (x.length : Int) = 0
      · obtain ⟨v, p1, r1, e, a2, a3⟩ := one_is s hs p r 20 hp (by omega)
        obtain ⟨x', p', r', e', hl⟩ := j1 x (!v) p1 r1 (by omega) (by omega)
        refine ⟨x', p', r', ?_, hl⟩
        refine Ev.step (fun k => by simp only [spec_l1Cur_indices.l0]; rfl) ?_
        simp only [if_neg h, if_pos hx0, e, Option.bind_some]; exact e'
      · obtain ⟨x', p', r', e', hl⟩ := j1 x false p r (by omega) (by omega)
        refine ⟨x', p', r', ?_, hl⟩
        refine Ev.step (fun k => by simp only [spec_l1Cur_indices.l0]; rfl) ?_
        simp only [if_neg h, if_neg hx0]; exact e'
theorem drawSub_ev (s : List Int) (hs : Bytes s) : ∃ l ind, Ev (fun k => spec_DrawProveSubset.f k s) (l, ind) ∧ l.length ≤ 40 ∧ ind.length ≤ 50 := by
  obtain ⟨x, p1, r1, e, a0, a1, a2⟩ := leaves_is s hs 0 0 (by omega) (by omega)
  obtain ⟨x', p', r', e', hl⟩ := indices_l0 s hs (x.length : Int) (by omega) 40 [] 0 p1 r1 (by omega) (by omega) (by simp) (by omega) (by omega) (by omega)
  refine ⟨x, x', ?_, a0, hl⟩
  unfold spec_DrawProveSubset.f
  refine Ev.bind e ?_
  exact Ev.bind (show Ev (fun k => spec_l1Cur_indices.f k s p1 r1 (x.length : Int)) (x', p', r') from e') (Ev.now _)
theorem drawLeaf_ev (s : List Int) (hs : Bytes s) : ∃ l i, Ev (fun k => spec_DrawProveLeaf.f k s) (l, i) ∧ l.length ≤ 40 := by
  obtain ⟨x, p1, r1, e, a0, a1, a2⟩ := leaves_is s hs 0 0 (by omega) (by omega)
  obtain ⟨v, p2, r2, e2, b0, b1, b2, b3⟩ := pick_is s hs p1 r1 (wrap64 ((x.length : Int) + 1)) (by omega) (by omega)
  obtain ⟨v3, p3, r3, e3, c0, c1, c2, c3⟩ := pick_is s hs p2 r2 20 (by omega) (by omega)
  refine ⟨x, wrap64 (v - (wrap64 (Int.tdiv v3 19))), ?_, a0⟩
  unfold spec_DrawProveLeaf.f
  refine Ev.bind e ?_
  refine ev_bind0 e2 ?_
  exact ev_bind0 e3 (Ev.now _)
theorem FnEvidence : XGFnEvidence.Pure := by
  intro s hs
  have hb := bytes_of hs
  refine Ev.rounds ?_
  unfold laws_FnEvidence.f laws_vBig.f
  simp only [Option.bind_some]
  by_cases hbig : (s.length : Int) > 65536
  · simp only [decide_eq_true hbig, if_true]; exact Ev.now _
  simp only [decide_eq_false hbig, Bool.false_eq_true, if_false]
  obtain ⟨l, i, e1, hl⟩ := drawLeaf_ev s hb
  obtain ⟨l2, ind, e2, hl2, hind⟩ := drawSub_ev s hb
  have J1 : Ev (fun k => laws_FnEvidence.j1 k s) true := by
    refine Ev.step (fun k => by simp only [laws_FnEvidence.j1]; rfl) ?_
    refine Ev.bind e2 ?_
    refine Ev.bind (implSub_ev l2 ind (by omega) (by omega)) ?_
    refine Ev.bind (specSub_ev l2 ind (by omega) (by omega)) ?_
    have hlen := proveSub_len l2 ind
    simp only [bne_self_eq_false, Bool.false_eq_true, if_false]
    refine Ev.bind (vInts_ev _ (by omega)) ?_
    simp only [if_true]
    refine Ev.step (fun k => by simp only [laws_FnEvidence.j2]; rfl) ?_
    unfold proveSub
    cases q : leavesOk l2 && idxOk ind (l2.length : Int) with
    | false =>
      simp only [Bool.false_eq_true, if_false, Bool.not_false, if_true, beq_self_eq_true]
      refine Ev.bind (vInts_ev [] (by simp)) ?_
      exact Ev.now _
    | true =>
      simp only [if_true, Bool.not_true, Bool.false_eq_true, if_false]
      simp only [Bool.and_eq_true] at q
      obtain ⟨v1, v2, v3⟩ := sub_verified l2 ind q.1 q.2
      obtain ⟨q1, _, _⟩ := idxOk_in q.2
      have hps := provS_len l2.length l2 (fun x => decide (x ∈ ind)) (Nat.le_refl _)
      refine given_l0 l2 ind _ true (fun x hx => q1 x (by simpa using hx)) (by omega) ?_ ind 0 [] rfl rfl (by simp)
      refine Ev.bind (implRoot_ev l2 (by omega)) ?_
      unfold treeRoot
      rw [q.1, if_pos rfl]
      refine Ev.bind (implVer_ev (rootL l2) (l2.length : Int) ind _ _ (by omega) (by simp; omega) (by omega)) ?_
      rw [v1]
      simp only [if_true]
      refine Ev.some ?_
      rw [wrap_in (show -9223372036854775808 ≤ (l2.length : Int) - (ind.length : Int) by omega) (by omega), wrap_in (show -9223372036854775808 ≤ (ind.length : Int) * 5 by omega) (by omega), wrap_in (by omega) (by omega)]
      exact decide_eq_true (by omega)
  refine Ev.bind e1 ?_
  refine Ev.bind (implRoot_ev l (by omega)) ?_
  refine Ev.bind (specRoot_ev l (by omega)) ?_
  simp only [if_true, bne_self_eq_false]
  refine Ev.step (fun k => by simp only [laws_FnEvidence.j0]; rfl) ?_
  simp only [Bool.false_eq_true, if_false]
  refine Ev.bind (implProve_ev l (by omega) i) ?_
  refine Ev.bind (specProve_ev l (by omega) i) ?_
  simp only [bne_self_eq_false, Bool.false_eq_true, if_false]
  unfold proveLeaf
  cases q : leavesOk l && decide (0 ≤ i ∧ i < (l.length : Int)) with
  | false => simp only [Bool.false_eq_true, if_false]; exact J1
  | true =>
    simp only [Bool.and_eq_true, decide_eq_true_eq] at q
    simp only [if_true, if_pos q.2.1, if_pos q.2.2]
    have V := impl_ev (treeRoot l).1 (rd l i) (proveL l i)
    have et : (treeRoot l).1 = rootL l := by unfold treeRoot; rw [q.1]; rfl
    rw [et, leaf_verified l i q.1 q.2] at V
    rw [et]
    refine Ev.bind V ?_
    simp only [if_true]
    exact J1

end Go.Proofs.YtnfmlglhoboooaaDoor.Pure

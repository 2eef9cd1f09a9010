/- The pure statement of the law FnChanged, proved: what the program computes agrees with the reference, in plain Lean. -/
import Derived.Test.YtnfmlglhoboooaaDoorXGFnChanged
import Derived.Test.YtnfmlglhoboooaaDoorXPlain
import Derived.Lib.ItoaLen
import Derived.Laws.Bits64b
import Derived.Laws.BitsLemmas
set_option linter.unusedVariables false
set_option linter.unusedSimpArgs false
namespace Go.Proofs.YtnfmlglhoboooaaDoor.Pure
open Go.RowKit Go.Proofs.YtnfmlglhoboooaaDoor Go.Proofs.YtnfmlglhoboooaaDoor.XFnChanged Go.Proofs.YtnfmlglhoboooaaDoor.XGFnChanged Go.Proofs.YtnfmlglhoboooaaDoorW.PrintWords Go.Proofs.YtnfmlglhoboooaaDoorW.PrintLast Go.Proofs.YtnfmlglhoboooaaDoor.Plain

theorem l1In_eq (a b c : Int) : spec_l1In.f a b c = some (decide (b ≤ a) && decide (a ≤ c)) := by
  unfold spec_l1In.f
  by_cases h : a ≥ b
  · rw [if_pos h, decide_eq_true (show b ≤ a from h), Bool.true_and]
  · rw [if_neg h, decide_eq_false (show ¬ b ≤ a from h), Bool.false_and]
theorem within_eq (a b c : Int) : impl_within.f a b c = some (decide (b ≤ a) && decide (a ≤ c)) := by
  unfold impl_within.f
  by_cases h : a ≥ b
  · rw [if_pos h, decide_eq_true (show b ≤ a from h), Bool.true_and]
  · rw [if_neg h, decide_eq_false (show ¬ b ≤ a from h), Bool.false_and]

def itoaB (n : Int) : ByteArray := ⟨(Lib.itoa n).toArray⟩
theorem size_of_list (l : List UInt8) : (⟨l.toArray⟩ : ByteArray).size = l.length := by simp [ByteArray.size]
theorem digit_cut (u : Fin 10) : (⟨#[48, 49, 50, 51, 52, 53, 54, 55, 56, 57]⟩ : ByteArray).extract u.val (u.val + 1) = ⟨[UInt8.ofNat (48 + u.val)].toArray⟩ := by
  revert u; decide +kernel
theorem append_lists (a b : List UInt8) : (⟨a.toArray⟩ : ByteArray) ++ ⟨b.toArray⟩ = ⟨(a ++ b).toArray⟩ := by
  apply ByteArray.ext
  simp
theorem num_nat (u : Nat) : u ≤ 9223372036854775807 → Ev (fun k => spec_l1Num.f k u) ⟨(Lib.decDigits u).toArray⟩ := by
  induction u using Nat.strongRecOn with
  | _ u ih =>
  intro hu
  refine Ev.step (fun k => by simp only [spec_l1Num.f]; rfl) ?_
  simp only [if_neg (show ¬ (u : Int) < 0 by omega)]
  by_cases h : u < 10
  · simp only [if_pos (show (u : Int) < 10 by omega), if_pos (show (0 : Int) ≤ u by omega), wrap_in (show -9223372036854775808 ≤ (u : Int) + 1 by omega) (by omega), if_pos (show (u : Int) ≤ u + 1 by omega), if_pos (show (u : Int) + 1 ≤ 10 by omega)]
    refine Ev.some ?_
    rw [Lib.decDigits_one h, Int.toNat_natCast, show ((u : Int) + 1).toNat = u + 1 by omega]
    exact digit_cut ⟨u, h⟩
  · have hd : Int.tdiv (u : Int) 10 = ((u / 10 : Nat) : Int) := by rw [Int.tdiv_eq_ediv_of_nonneg (by omega)]; omega
    have hm : Int.tmod (u : Int) 10 = ((u % 10 : Nat) : Int) := by rw [Int.tmod_eq_emod_of_nonneg (by omega)]; omega
    have h10 : u % 10 < 10 := Nat.mod_lt _ (by decide)
    simp only [if_neg (show ¬ (u : Int) < 10 by omega), hd, hm, wrap_in (show -9223372036854775808 ≤ ((u / 10 : Nat) : Int) by omega) (by omega)]
    refine Ev.bind (ih (u / 10) (by omega) (by omega)) ?_
    have hl : (Lib.decDigits (u / 10)).length ≤ 20 := by rw [Lib.decDigits_length]; exact Lib.nDigits_le20 _ (by omega)
    have e : Lib.decDigits u = Lib.decDigits (u / 10) ++ [UInt8.ofNat (48 + u % 10)] := by rw [Lib.decDigits, dif_neg h]
    simp only [if_pos (show (0 : Int) ≤ ((u % 10 : Nat) : Int) by omega), wrap_in (show -9223372036854775808 ≤ ((u % 10 : Nat) : Int) + 1 by omega) (by omega), if_pos (show ((u % 10 : Nat) : Int) ≤ ((u % 10 : Nat) : Int) + 1 by omega), if_pos (show ((u % 10 : Nat) : Int) + 1 ≤ 10 by omega), Int.toNat_natCast, show (((u % 10 : Nat) : Int) + 1).toNat = u % 10 + 1 by omega, size_of_list]
    rw [if_pos (show (Lib.decDigits (u / 10)).length + (u % 10 + 1 - u % 10) ≤ 9223372036854775807 by omega)]
    refine Ev.some ?_
    rw [e, digit_cut ⟨u % 10, h10⟩, append_lists]
theorem num_ev (n : Int) (h0 : -9223372036854775807 ≤ n) (h1 : n ≤ 9223372036854775807) : Ev (fun k => spec_l1Num.f k n) (itoaB n) := by
  unfold itoaB
  by_cases h : n < 0
  · obtain ⟨u, rfl⟩ : ∃ u : Nat, n = -(u : Int) := ⟨n.natAbs, by omega⟩
    refine Ev.step (fun k => by simp only [spec_l1Num.f]; rfl) ?_
    simp only [if_pos h, Int.neg_neg, wrap_in (show -9223372036854775808 ≤ (u : Int) by omega) (by omega)]
    refine Ev.bind (num_nat u (by omega)) ?_
    have hl : (Lib.decDigits u).length ≤ 20 := by rw [Lib.decDigits_length]; exact Lib.nDigits_le20 _ (by omega)
    rw [if_pos (by rw [size_of_list]; omega)]
    refine Ev.some ?_
    rw [Lib.itoa_neg u (by omega)]
    exact append_lists [45] _
  · obtain ⟨u, rfl⟩ : ∃ u : Nat, n = (u : Int) := ⟨n.toNat, by omega⟩
    rw [Lib.itoa_nonneg]
    exact num_nat u (by omega)
theorem itoaB_size (n : Int) (h0 : -9223372036854775808 ≤ n) (h1 : n ≤ 9223372036854775807) : (itoaB n).size ≤ 21 := by
  unfold itoaB
  rw [size_of_list]
  exact Lib.itoa_length_le n h0 h1
theorem decimal_eq (n : Int) (h0 : -9223372036854775808 ≤ n) (h1 : n ≤ 9223372036854775807) : impl_decimal.f n = some (itoaB n) := by
  unfold impl_decimal.f strconv_Itoa.f
  rw [if_pos ⟨h0, h1⟩]
  rfl

def sumStep (h : Int) (b : UInt8) : Int := (41 * h + (b.toNat : Int) + 1) % 999979
def sumL (l : List UInt8) (h : Int) : Int := l.foldl sumStep h
theorem sumStep_in (h : Int) (b : UInt8) : 0 ≤ sumStep h b ∧ sumStep h b ≤ 999978 := by unfold sumStep; omega
theorem sumL_in (l : List UInt8) (h : Int) (h0 : 0 ≤ h ∧ h ≤ 999978) : 0 ≤ sumL l h ∧ sumL l h ≤ 999978 := by
  induction l generalizing h with
  | nil => exact h0
  | cons b l ih => exact ih _ (sumStep_in h b)
theorem sum_wrap (h : Int) (b : UInt8) (h0 : 0 ≤ h ∧ h ≤ 999978) : Int.tmod (wrap64 ((wrap64 ((wrap64 (41 * h)) + (wrap64 (b.toNat : Int)))) + 1)) 999979 = sumStep h b := by
  have hb := byte_le b
  rw [wrap_in (show -9223372036854775808 ≤ 41 * h by omega) (by omega), wrap_byte, wrap_in (show -9223372036854775808 ≤ 41 * h + (b.toNat : Int) by omega) (by omega), wrap_in (show -9223372036854775808 ≤ 41 * h + (b.toNat : Int) + 1 by omega) (by omega), Int.tmod_eq_emod_of_nonneg (by omega)]
  rfl
theorem sum_ev (s : ByteArray) (hs : s.size ≤ 9223372036854775807) : Ev (fun k => spec_l1Sum.f k s) (sumL s.data.toList 7) := by
  unfold spec_l1Sum.f
  have := bytes_ind0 s (fun i rest => ∀ h : Int, 0 ≤ h ∧ h ≤ 999978 → Ev (fun k => spec_l1Sum.l0 k s h i) (sumL rest h)) ?_ ?_
  · exact this 7 (by decide)
  · intro h _
    refine Ev.step (fun k => by simp only [spec_l1Sum.l0]; rfl) ?_
    simp only [Int.lt_irrefl, if_false]
    exact Ev.now _
  · intro i b rest hi hb hd ih h hh
    refine Ev.step (fun k => by simp only [spec_l1Sum.l0]; rfl) ?_
    simp only [if_pos (show (i : Int) < (s.size : Int) by omega), if_pos (show (0 : Int) ≤ i by omega), hb, sum_wrap h b hh, wrap_in (show -9223372036854775808 ≤ (i : Int) + 1 by omega) (by omega)]
    exact ih _ (sumStep_in h b)
theorem checksum_ev (s : ByteArray) (hs : s.size ≤ 4000) : Ev (fun k => impl_Checksum.f k s) (sumL s.data.toList 7, true) := by
  unfold impl_Checksum.f
  simp only [if_neg (show ¬ (s.size : Int) > 4000 by omega)]
  have := bytes_ind0 s (fun i rest => ∀ h : Int, 0 ≤ h ∧ h ≤ 999978 → Ev (fun k => impl_Checksum.l0 k s h (s.size : Int) i) (sumL rest h, true)) ?_ ?_
  · exact this 7 (by decide)
  · intro h _
    refine Ev.step (fun k => by simp only [impl_Checksum.l0]; rfl) ?_
    simp only [Int.lt_irrefl, if_false]
    exact Ev.now _
  · intro i b rest hi hb hd ih h hh
    refine Ev.step (fun k => by simp only [impl_Checksum.l0]; rfl) ?_
    simp only [if_pos (show (i : Int) < (s.size : Int) by omega), if_pos (show (0 : Int) ≤ i by omega), hb, sum_wrap h b hh, wrap_in (show -9223372036854775808 ≤ (i : Int) + 1 by omega) (by omega)]
    exact ih _ (sumStep_in h b)

def pairTxt (a b : Int) : ByteArray := (((⟨#[40]⟩ : ByteArray) ++ itoaB a) ++ (⟨#[44]⟩ : ByteArray)) ++ itoaB b ++ (⟨#[41]⟩ : ByteArray)
def hashP (a b : Int) : Int := sumL (pairTxt a b).data.toList 7
theorem hashP_in (a b : Int) : 0 ≤ hashP a b ∧ hashP a b ≤ 999978 := sumL_in _ _ (by decide)
theorem pairTxt_size (a b : Int) : (pairTxt a b).size = 1 + (itoaB a).size + 1 + (itoaB b).size + 1 := by
  unfold pairTxt
  simp only [ByteArray.size_append]
  rfl
theorem l25Pair_ev (a b : Int) (ha : 0 ≤ a ∧ a ≤ 999978) (hb : 0 ≤ b ∧ b ≤ 999978) : Ev (fun k => spec_l25Pair.f k a b) (hashP a b) := by
  have sa := itoaB_size a (by omega) (by omega)
  have sb := itoaB_size b (by omega) (by omega)
  unfold spec_l25Pair.f
  refine Ev.bind (num_ev a (by omega) (by omega)) ?_
  refine ev_pos (by omega) (ev_pos (by omega) ?_)
  refine Ev.bind (num_ev b (by omega) (by omega)) ?_
  refine ev_pos (by omega) (ev_pos (by omega) ?_)
  exact Ev.bind (f := fun k t => some t) (sum_ev (pairTxt a b) (by rw [pairTxt_size]; omega)) (Ev.now _)
theorem pairHash_ev (a b : Int) (ha : 0 ≤ a ∧ a ≤ 999978) (hb : 0 ≤ b ∧ b ≤ 999978) : Ev (fun k => impl_pairHash.f k a b) (hashP a b) := by
  have sa := itoaB_size a (by omega) (by omega)
  have sb := itoaB_size b (by omega) (by omega)
  unfold impl_pairHash.f
  simp only [decimal_eq a (by omega) (by omega), decimal_eq b (by omega) (by omega), Option.bind_some]
  refine ev_pos (by omega) (ev_pos (by omega) (ev_pos (by omega) (ev_pos (by omega) ?_)))
  exact Ev.bind (f := fun k t => some t.1) (checksum_ev (pairTxt a b) (by rw [pairTxt_size]; omega)) (Ev.now _)
def inHash (a : Int) : Bool := decide (0 ≤ a) && decide (a ≤ 999978)
theorem inHash_iff (a : Int) : inHash a = true ↔ 0 ≤ a ∧ a ≤ 999978 := by unfold inHash; simp
theorem l25Hash_eq (a : Int) : spec_l25Hash.f a = some (inHash a) := by unfold spec_l25Hash.f; rw [l1In_eq]; rfl
theorem isHash_eq (a : Int) : impl_isHash.f a = some (inHash a) := by unfold impl_isHash.f; rw [within_eq]; rfl

theorem rd_drop {l : List Int} {i : Nat} {b : Int} {rest : List Int} (h : l.drop i = b :: rest) : rd l (i : Int) = b := (rd_at h).2.1
theorem l25Hashes_ev (l : List Int) (hl : l.length ≤ 9223372036854775807) : Ev (fun k => spec_l25Hashes.f k l) (l.all inHash) := by
  unfold spec_l25Hashes.f
  refine list_ind0 l (fun i rest => Ev (fun k => spec_l25Hashes.l0 k l i) (rest.all inHash)) ?_ ?_
  · refine Ev.step (fun k => by simp only [spec_l25Hashes.l0]; rfl) ?_
    simp only [Int.lt_irrefl, if_false, List.all_nil]
    exact Ev.now _
  · intro i x rest hi hd ih
    refine Ev.step (fun k => by simp only [spec_l25Hashes.l0]; rfl) ?_
    simp only [if_pos (show (i : Int) < (l.length : Int) by omega), if_pos (show (0 : Int) ≤ i by omega), rd_drop hd, l25Hash_eq, Option.bind_some, wrap_in (show -9223372036854775808 ≤ (i : Int) + 1 by omega) (by omega), List.all_cons]
    cases hx : inHash x with
    | false => simp only [Bool.false_eq_true, if_false, Bool.false_and]; exact Ev.now _
    | true => simp only [if_true, Bool.true_and]; exact ih
theorem areHashes_ev (l : List Int) (hl : l.length ≤ 9223372036854775807) : Ev (fun k => impl_areHashes.f k l) (l.all inHash) := by
  have key : ∃ r : Int, Ev (fun k => slices_IndexFunc_int_int_impl_areHashes_1.f k l) r ∧ decide (r ≥ 0) = !l.all inHash := by
    unfold slices_IndexFunc_int_int_impl_areHashes_1.f
    refine list_ind0 l (fun i rest => ∃ r : Int, Ev (fun k => slices_IndexFunc_int_int_impl_areHashes_1.l0 k l (l.length : Int) i) r ∧ decide (r ≥ 0) = !rest.all inHash) ?_ ?_
    · refine ⟨-1, ?_, by simp⟩
      refine Ev.step (fun k => by simp only [slices_IndexFunc_int_int_impl_areHashes_1.l0]; rfl) ?_
      simp only [Int.lt_irrefl, if_false]
      exact Ev.now _
    · intro i x rest hi hd ih
      obtain ⟨r, hr, he⟩ := ih
      have hc : XFnChanged.impl_areHashes_1.f x = some (!inHash x) := by unfold XFnChanged.impl_areHashes_1.f; rw [isHash_eq]; rfl
      cases hx : inHash x with
      | false =>
        refine ⟨i, ?_, by rw [List.all_cons, hx]; simp⟩
        refine Ev.step (fun k => by simp only [slices_IndexFunc_int_int_impl_areHashes_1.l0]; rfl) ?_
        simp only [if_pos (show (i : Int) < (l.length : Int) by omega), if_pos (show (0 : Int) ≤ i by omega), rd_drop hd, hc, hx, Option.bind_some, Bool.not_false, if_true]
        exact Ev.now _
      | true =>
        refine ⟨r, ?_, by rw [List.all_cons, hx, Bool.true_and]; exact he⟩
        refine Ev.step (fun k => by simp only [slices_IndexFunc_int_int_impl_areHashes_1.l0]; rfl) ?_
        simp only [if_pos (show (i : Int) < (l.length : Int) by omega), if_pos (show (0 : Int) ≤ i by omega), rd_drop hd, hc, hx, Option.bind_some, Bool.not_true, Bool.false_eq_true, if_false, wrap_in (show -9223372036854775808 ≤ (i : Int) + 1 by omega) (by omega)]
        exact hr
  obtain ⟨r, hr, he⟩ := key
  unfold impl_areHashes.f slices_ContainsFunc_int_int_impl_areHashes_1.f
  refine Ev.bind (Ev.bind hr (Ev.now (decide (r ≥ 0)))) ?_
  refine Ev.some ?_
  rw [he, Bool.not_not]
def leavesOk (l : List Int) : Bool := (decide (1 ≤ (l.length : Int)) && decide ((l.length : Int) ≤ 32)) && l.all inHash
theorem leavesOk_iff (l : List Int) : leavesOk l = true ↔ 1 ≤ l.length ∧ l.length ≤ 32 ∧ ∀ x ∈ l, inHash x = true := by
  unfold leavesOk
  simp only [Bool.and_eq_true, decide_eq_true_eq, List.all_eq_true]
  constructor
  · rintro ⟨⟨h1, h2⟩, h3⟩; exact ⟨by omega, by omega, h3⟩
  · rintro ⟨h1, h2, h3⟩; exact ⟨⟨by omega, by omega⟩, h3⟩
theorem l25Leaves_ev (l : List Int) (hl : l.length ≤ 9223372036854775807) : Ev (fun k => spec_l25Leaves.f k l) (leavesOk l) := by
  unfold spec_l25Leaves.f leavesOk
  simp only [l1In_eq, Option.bind_some]
  cases (decide (1 ≤ (l.length : Int)) && decide ((l.length : Int) ≤ 32)) with
  | false => simp only [Bool.false_eq_true, if_false, Bool.false_and]; exact Ev.now _
  | true => simp only [if_true, Bool.true_and]; exact Ev.bind (f := fun k t => some t) (l25Hashes_ev l hl) (Ev.now _)
theorem areLeaves_ev (l : List Int) (hl : l.length ≤ 9223372036854775807) : Ev (fun k => impl_areLeaves.f k l) (leavesOk l) := by
  unfold impl_areLeaves.f leavesOk
  simp only [within_eq, Option.bind_some]
  cases (decide (1 ≤ (l.length : Int)) && decide ((l.length : Int) ≤ 32)) with
  | false => simp only [Bool.false_eq_true, if_false, Bool.false_and]; exact Ev.now _
  | true => simp only [if_true, Bool.true_and]; exact Ev.bind (f := fun k t => some t) (areHashes_ev l hl) (Ev.now _)

def upL : List Int → List Int
  | [] => []
  | [a] => [a]
  | a :: b :: r => hashP a b :: upL r
theorem upL_length : ∀ l : List Int, (upL l).length = (l.length + 1) / 2
  | [] => rfl
  | [a] => by simp [upL]
  | a :: b :: r => by
    have := upL_length r
    simp only [upL, List.length_cons, this]
    omega
theorem upL_all : ∀ l : List Int, (∀ x ∈ l, inHash x = true) → ∀ x ∈ upL l, inHash x = true
  | [], h => h
  | [a], h => h
  | a :: b :: r, h => by
    intro x hx
    simp only [upL, List.mem_cons] at hx
    rcases hx with rfl | hx
    · exact (inHash_iff _).2 (hashP_in a b)
    · exact upL_all r (fun y hy => h y (by simp [hy])) x hx
theorem drop_succ {α : Type} {l : List α} {i : Nat} {a : α} {r : List α} (h : l.drop i = a :: r) : l.drop (i + 1) = r := (getD_at (d := a) h).2.2
theorem l25Up_l0 (l : List Int) (hl : l.length ≤ 32) (ha : ∀ x ∈ l, inHash x = true) : ∀ (rest : List Int) (i : Nat) (out : List Int), l.drop i = rest → out.length ≤ i → i ≤ 33 → Ev (fun k => spec_l25Up.l0 k l out i) (out ++ upL rest)
  | [], i, out, hd, ho, hi => by
    have : l.length ≤ i := List.drop_eq_nil_iff.1 hd
    refine Ev.step (fun k => by simp only [spec_l25Up.l0]; rfl) ?_
    simp only [if_neg (show ¬ (i : Int) < (l.length : Int) by omega), upL, List.append_nil]
    exact Ev.now _
  | [a], i, out, hd, ho, hi => by
    have h1 := (getD_at (d := a) hd).1
    have h2 : l.length ≤ i + 1 := List.drop_eq_nil_iff.1 (drop_succ hd)
    refine Ev.step (fun k => by simp only [spec_l25Up.l0]; rfl) ?_
    simp only [wrap_in (show -9223372036854775808 ≤ (i : Int) + 1 by omega) (by omega), wrap_in (show -9223372036854775808 ≤ (i : Int) + 2 by omega) (by omega), if_pos (show (i : Int) < (l.length : Int) by omega), if_neg (show ¬ (i : Int) + 1 < (l.length : Int) by omega), if_pos (show (0 : Int) ≤ i by omega), if_pos (show out.length < 17592186044416 by omega), rd_drop hd]
    have := l25Up_l0 l hl ha [] (i + 2) (out ++ [a]) (List.drop_eq_nil_iff.2 (by omega)) (by simp; omega) (by omega)
    simpa [upL] using this
  | a :: b :: r, i, out, hd, ho, hi => by
    have hd1 := drop_succ hd
    have hd2 := drop_succ hd1
    have h1 := (getD_at (d := a) hd1).1
    have hA : inHash a = true := ha a (List.mem_of_mem_drop (by rw [hd]; simp))
    have hB : inHash b = true := ha b (List.mem_of_mem_drop (by rw [hd]; simp))
    have eB : rd l ((i : Int) + 1) = b := by have := rd_drop hd1; simpa using this
    refine Ev.step (fun k => by simp only [spec_l25Up.l0]; rfl) ?_
    simp only [wrap_in (show -9223372036854775808 ≤ (i : Int) + 1 by omega) (by omega), wrap_in (show -9223372036854775808 ≤ (i : Int) + 2 by omega) (by omega), if_pos (show (i : Int) < (l.length : Int) by omega), if_pos (show (i : Int) + 1 < (l.length : Int) by omega), if_pos (show (0 : Int) ≤ i by omega), if_pos (show (0 : Int) ≤ (i : Int) + 1 by omega), rd_drop hd, eB]
    refine Ev.bind (l25Pair_ev a b ((inHash_iff a).1 hA) ((inHash_iff b).1 hB)) ?_
    simp only [if_pos (show out.length < 17592186044416 by omega)]
    have := l25Up_l0 l hl ha r (i + 2) (out ++ [hashP a b]) hd2 (by simp; omega) (by omega)
    simpa [upL] using this
theorem l25Up_ev (l : List Int) (hl : l.length ≤ 32) (ha : ∀ x ∈ l, inHash x = true) : Ev (fun k => spec_l25Up.f k l) (upL l) := by
  unfold spec_l25Up.f
  have := l25Up_l0 l hl ha l 0 [] rfl (Nat.le_refl _) (by omega)
  simpa using this
theorem l1Own_eq (l : List Int) (hl : l.length ≤ 1048576) : spec_l1Own.f l = some l := by
  unfold spec_l1Own.f
  simp only [Option.bind_some, List.nil_append, List.length_nil]
  rw [if_pos (by omega)]

def levelsL (l : List Int) : List (List Int) := if h : 1 < l.length then l :: levelsL (upL l) else [l]
termination_by l.length
decreasing_by rw [upL_length]; omega
theorem levelsL_one {l : List Int} (h : ¬ 1 < l.length) : levelsL l = [l] := by rw [levelsL, dif_neg h]
theorem levelsL_more {l : List Int} (h : 1 < l.length) : levelsL l = l :: levelsL (upL l) := by rw [levelsL, dif_pos h]
theorem levelsL_cons (l : List Int) : ∃ r, levelsL l = l :: r := by
  by_cases h : 1 < l.length
  · exact ⟨_, levelsL_more h⟩
  · exact ⟨_, levelsL_one h⟩
theorem levelsOf_l1 (cur : List Int) (hl : cur.length ≤ 32) (ha : ∀ x ∈ cur, inHash x = true) (out : List (List Int)) (hout : out.length ≤ 40) (r : List (List Int)) : ∀ (rest : List Int) (i : Nat) (next : List Int), cur.drop i = rest → next.length ≤ i → i ≤ 33 →
    Ev (fun k => impl_levelsOf.l0 k (next ++ upL rest) (out ++ [next ++ upL rest])) r → Ev (fun k => impl_levelsOf.l1 k cur out next i) r
  | [], i, next, hd, ho, hi, h => by
    have : cur.length ≤ i := List.drop_eq_nil_iff.1 hd
    refine Ev.step (fun k => by simp only [impl_levelsOf.l1]; rfl) ?_
    simp only [if_neg (show ¬ (i : Int) < (cur.length : Int) by omega), if_pos (show out.length < 5864062014805 by omega)]
    simpa [upL] using h
  | [a], i, next, hd, ho, hi, h => by
    have h1 := (getD_at (d := a) hd).1
    have h2 : cur.length ≤ i + 1 := List.drop_eq_nil_iff.1 (drop_succ hd)
    refine Ev.step (fun k => by simp only [impl_levelsOf.l1]; rfl) ?_
    simp only [wrap_in (show -9223372036854775808 ≤ (i : Int) + 1 by omega) (by omega), wrap_in (show -9223372036854775808 ≤ (i : Int) + 2 by omega) (by omega), if_pos (show (i : Int) < (cur.length : Int) by omega), if_neg (show ¬ (i : Int) + 1 < (cur.length : Int) by omega), if_pos (show (0 : Int) ≤ i by omega), if_pos (show next.length < 17592186044416 by omega), rd_drop hd]
    have := levelsOf_l1 cur hl ha out hout r [] (i + 2) (next ++ [a]) (List.drop_eq_nil_iff.2 (by omega)) (by simp; omega) (by omega) (by simpa [upL] using h)
    simpa using this
  | a :: b :: r', i, next, hd, ho, hi, h => by
    have hd1 := drop_succ hd
    have hd2 := drop_succ hd1
    have h1 := (getD_at (d := a) hd1).1
    have hA : inHash a = true := ha a (List.mem_of_mem_drop (by rw [hd]; simp))
    have hB : inHash b = true := ha b (List.mem_of_mem_drop (by rw [hd]; simp))
    have eB : rd cur ((i : Int) + 1) = b := by have := rd_drop hd1; simpa using this
    refine Ev.step (fun k => by simp only [impl_levelsOf.l1]; rfl) ?_
    simp only [wrap_in (show -9223372036854775808 ≤ (i : Int) + 1 by omega) (by omega), wrap_in (show -9223372036854775808 ≤ (i : Int) + 2 by omega) (by omega), if_pos (show (i : Int) < (cur.length : Int) by omega), if_pos (show (i : Int) + 1 < (cur.length : Int) by omega), if_pos (show (0 : Int) ≤ i by omega), if_pos (show (0 : Int) ≤ (i : Int) + 1 by omega), rd_drop hd, eB]
    refine Ev.bind (pairHash_ev a b ((inHash_iff a).1 hA) ((inHash_iff b).1 hB)) ?_
    simp only [if_pos (show next.length < 17592186044416 by omega)]
    have := levelsOf_l1 cur hl ha out hout r r' (i + 2) (next ++ [hashP a b]) hd2 (by simp; omega) (by omega) (by simpa [upL] using h)
    simpa using this
theorem levelsOf_l0 (n : Nat) : ∀ (cur : List Int) (out : List (List Int)), cur.length ≤ n → cur.length ≤ 32 → (∀ x ∈ cur, inHash x = true) → out.length + cur.length ≤ 34 → Ev (fun k => impl_levelsOf.l0 k cur out) (out ++ (levelsL cur).tail) := by
  induction n with
  | zero =>
    intro cur out hn hl ha ho
    refine Ev.step (fun k => by simp only [impl_levelsOf.l0]; rfl) ?_
    simp only [if_neg (show ¬ (cur.length : Int) > 1 by omega), levelsL_one (show ¬ 1 < cur.length by omega), List.tail_cons, List.append_nil]
    exact Ev.now _
  | succ n ih =>
    intro cur out hn hl ha ho
    refine Ev.step (fun k => by simp only [impl_levelsOf.l0]; rfl) ?_
    by_cases h : 1 < cur.length
    · simp only [if_pos (show (cur.length : Int) > 1 by omega)]
      have hu := upL_length cur
      refine levelsOf_l1 cur hl ha out (by omega) _ cur 0 [] rfl (Nat.le_refl _) (by omega) ?_
      simp only [List.nil_append]
      have := ih (upL cur) (out ++ [upL cur]) (by omega) (by omega) (upL_all cur ha) (by simp; omega)
      obtain ⟨r, hr⟩ := levelsL_cons (upL cur)
      rw [levelsL_more h, List.tail_cons, hr]
      rw [hr, List.tail_cons] at this
      simpa using this
    · simp only [if_neg (show ¬ (cur.length : Int) > 1 by omega), levelsL_one h, List.tail_cons, List.append_nil]
      exact Ev.now _
theorem levelsOf_ev (l : List Int) (h : leavesOk l = true) : Ev (fun k => impl_levelsOf.f k l) (levelsL l) := by
  obtain ⟨h1, h2, h3⟩ := (leavesOk_iff l).1 h
  unfold impl_levelsOf.f
  have := levelsOf_l0 l.length l [l] (Nat.le_refl _) h2 h3 (by simp; omega)
  obtain ⟨r, hr⟩ := levelsL_cons l
  rw [hr, List.tail_cons] at this
  rw [hr]
  simpa using this
def rootL (l : List Int) : Int := if h : 1 < l.length then rootL (upL l) else rd l 0
termination_by l.length
decreasing_by rw [upL_length]; omega
theorem rootL_one {l : List Int} (h : ¬ 1 < l.length) : rootL l = rd l 0 := by rw [rootL, dif_neg h]
theorem rootL_more {l : List Int} (h : 1 < l.length) : rootL l = rootL (upL l) := by rw [rootL, dif_pos h]
theorem levels_last (n : Nat) : ∀ l : List Int, l.length ≤ n → 1 ≤ l.length → 0 < ((levelsL l).getD ((levelsL l).length - 1) []).length ∧ rd ((levelsL l).getD ((levelsL l).length - 1) []) 0 = rootL l ∧ (levelsL l).length ≤ n := by
  induction n with
  | zero => intro l h1 h2; omega
  | succ n ih =>
    intro l h1 h2
    by_cases h : 1 < l.length
    · have hu := upL_length l
      obtain ⟨i1, i2, i3⟩ := ih (upL l) (by omega) (by omega)
      obtain ⟨r, hr⟩ := levelsL_cons (upL l)
      rw [levelsL_more h, rootL_more h]
      have e : (l :: levelsL (upL l)).getD ((l :: levelsL (upL l)).length - 1) [] = (levelsL (upL l)).getD ((levelsL (upL l)).length - 1) [] := by
        rw [hr]; simp
      rw [e]
      exact ⟨i1, i2, by simp; omega⟩
    · rw [levelsL_one h, rootL_one h]
      simp
      omega

theorem specLevels_l0 (n : Nat) : ∀ (cur : List Int) (pre : List (List Int)), cur.length ≤ n → cur.length ≤ 32 → (∀ x ∈ cur, inHash x = true) → pre.length + cur.length ≤ 34 → Ev (fun k => spec_l25Levels.l0 k (pre ++ [cur])) (pre ++ levelsL cur) := by
  have key (pre : List (List Int)) (cur : List Int) (hp : pre.length ≤ 34) : wrap64 (((pre ++ [cur]).length : Int) - 1) = (pre.length : Int) ∧ rd_L3 (pre ++ [cur]) (pre.length : Int) = cur := by
    refine ⟨?_, ?_⟩
    · have e : ((pre ++ [cur]).length : Int) = pre.length + 1 := by simp
      rw [e, wrap_in (by omega) (by omega)]; omega
    · unfold rd_L3; simp
  induction n with
  | zero =>
    intro cur pre hn hl ha ho
    obtain ⟨e1, e2⟩ := key pre cur (by omega)
    refine Ev.step (fun k => by simp only [spec_l25Levels.l0]; rfl) ?_
    simp only [e1, e2, if_pos (show (0 : Int) ≤ (pre.length : Int) by omega), if_pos (show (pre.length : Int) < ((pre ++ [cur]).length : Int) by simp; omega), if_neg (show ¬ (cur.length : Int) > 1 by omega), levelsL_one (show ¬ 1 < cur.length by omega)]
    exact Ev.now _
  | succ n ih =>
    intro cur pre hn hl ha ho
    obtain ⟨e1, e2⟩ := key pre cur (by omega)
    refine Ev.step (fun k => by simp only [spec_l25Levels.l0]; rfl) ?_
    by_cases h : 1 < cur.length
    · have hu := upL_length cur
      simp only [e1, e2, if_pos (show (0 : Int) ≤ (pre.length : Int) by omega), if_pos (show (pre.length : Int) < ((pre ++ [cur]).length : Int) by simp; omega), if_pos (show (cur.length : Int) > 1 by omega)]
      refine Ev.bind (l25Up_ev cur hl ha) ?_
      simp only [if_pos (show (pre ++ [cur]).length < 5864062014805 by simp; omega)]
      have := ih (upL cur) (pre ++ [cur]) (by omega) (by omega) (upL_all cur ha) (by simp; omega)
      rw [levelsL_more h]
      simpa using this
    · simp only [e1, e2, if_pos (show (0 : Int) ≤ (pre.length : Int) by omega), if_pos (show (pre.length : Int) < ((pre ++ [cur]).length : Int) by simp; omega), if_neg (show ¬ (cur.length : Int) > 1 by omega), levelsL_one h]
      exact Ev.now _
theorem specLevels_ev (l : List Int) (h : leavesOk l = true) : Ev (fun k => spec_l25Levels.f k l) (levelsL l) := by
  obtain ⟨h1, h2, h3⟩ := (leavesOk_iff l).1 h
  unfold spec_l25Levels.f
  simp only [l1Own_eq l (by omega), Option.bind_some]
  exact specLevels_l0 l.length l [] (Nat.le_refl _) h2 h3 (by simp; omega)
/-- The sizes of levels. -/
def Halves (x : List (List Int)) : Prop := (∀ j, j + 1 < x.length → (x.getD (j + 1) []).length = ((x.getD j []).length + 1) / 2) ∧ (x.getD (x.length - 1) []).length = 1 ∧ ∀ j, (x.getD j []).length ≤ 32
theorem halves_levels (n : Nat) : ∀ l : List Int, l.length ≤ n → 1 ≤ l.length → l.length ≤ 32 → Halves (levelsL l) := by
  induction n with
  | zero => intro l h1 h2; omega
  | succ n ih =>
    intro l h1 h2 h3
    by_cases h : 1 < l.length
    · have hu := upL_length l
      obtain ⟨i1, i2, i3⟩ := ih (upL l) (by omega) (by omega) (by omega)
      obtain ⟨r, hr⟩ := levelsL_cons (upL l)
      rw [levelsL_more h]
      refine ⟨?_, ?_, ?_⟩
      · intro j hj
        cases j with
        | zero => rw [hr]; simpa using hu
        | succ j => simpa using i1 j (by simpa using hj)
      · rw [show (l :: levelsL (upL l)).getD ((l :: levelsL (upL l)).length - 1) [] = (levelsL (upL l)).getD ((levelsL (upL l)).length - 1) [] by rw [hr]; simp]
        exact i2
      · intro j
        cases j with
        | zero => simpa using h3
        | succ j => simpa using i3 j
    · rw [levelsL_one h]
      refine ⟨?_, ?_, ?_⟩
      · intro j hj; simp at hj
      · simp; omega
      · intro j
        cases j with
        | zero => simpa using h3
        | succ j => simp
theorem levels_same (n : Nat) : ∀ a b : List Int, a.length ≤ n → a.length = b.length → (levelsL a).length = (levelsL b).length ∧ ∀ j, ((levelsL a).getD j []).length = ((levelsL b).getD j []).length := by
  induction n with
  | zero =>
    intro a b h1 h2
    rw [levelsL_one (show ¬ 1 < a.length by omega), levelsL_one (show ¬ 1 < b.length by omega)]
    exact ⟨rfl, fun j => by cases j <;> simp [h2]⟩
  | succ n ih =>
    intro a b h1 h2
    by_cases h : 1 < a.length
    · have ha := upL_length a; have hb := upL_length b
      obtain ⟨i1, i2⟩ := ih (upL a) (upL b) (by omega) (by omega)
      rw [levelsL_more h, levelsL_more (show 1 < b.length by omega)]
      exact ⟨by simp [i1], fun j => by cases j with | zero => simpa using h2 | succ j => simpa using i2 j⟩
    · rw [levelsL_one h, levelsL_one (show ¬ 1 < b.length by omega)]
      exact ⟨rfl, fun j => by cases j <;> simp [h2]⟩
def downL (x y : List (List Int)) : Nat → Int → Int → Int × Int × Bool
  | 0, a, c => (a, c, true)
  | n + 1, a, c => if a * 2 + 1 = ((x.getD n []).length : Int) then downL x y n (a * 2) c else if rd (x.getD n []) (a * 2) = rd (y.getD n []) (a * 2) then downL x y n (a * 2 + 1) (c + 1) else downL x y n (a * 2) (c + 1)
theorem down_spec (x y : List (List Int)) (hx : Halves x) (hy : x.length = y.length) (hxy : ∀ j, (x.getD j []).length = (y.getD j []).length) (hn : x.length ≤ 64) : ∀ (n : Nat) (a c : Int), n < x.length → 0 ≤ a → a < ((x.getD n []).length : Int) → 0 ≤ c → c + n ≤ 100 →
    Ev (fun k => impl_FirstChanged.l0 k x y a c ((n : Int) - 1)) (downL x y n a c) ∧ Ev (fun k => spec_FirstChanged.l0 k x y a c ((n : Int) - 1)) (downL x y n a c)
  | 0, a, c, h1, h2, h3, h4, h5 => by
    constructor
    · refine Ev.step (fun k => by simp only [impl_FirstChanged.l0]; rfl) ?_
      simp only [if_neg (show ¬ ((0 : Nat) : Int) - 1 ≥ 0 by omega), downL]; exact Ev.now _
    · refine Ev.step (fun k => by simp only [spec_FirstChanged.l0]; rfl) ?_
      simp only [if_neg (show ¬ ((0 : Nat) : Int) - 1 ≥ 0 by omega), downL]; exact Ev.now _
  | n + 1, a, c, h1, h2, h3, h4, h5 => by
    have hh := hx.1 n h1
    have h32 := hx.2.2 n
    have hsz := hxy n
    have IH := down_spec x y hx hy hxy hn n
    have ea : wrap64 (a * 2) = a * 2 := wrap_in (by omega) (by omega)
    have eb : wrap64 (2 * a) = a * 2 := by rw [Int.mul_comm]; exact ea
    have ec : wrap64 (a * 2 + 1) = a * 2 + 1 := wrap_in (by omega) (by omega)
    have ed : wrap64 (c + 1) = c + 1 := wrap_in (by omega) (by omega)
    have en : ((n + 1 : Nat) : Int) - 1 = (n : Int) := by omega
    have ee : wrap64 ((n : Int) - 1) = (n : Int) - 1 := wrap_in (by omega) (by omega)
    have rx : rd_L3 x (n : Int) = x.getD n [] := by unfold rd_L3; rw [Int.toNat_natCast]
    have ry : rd_L3 y (n : Int) = y.getD n [] := by unfold rd_L3; rw [Int.toNat_natCast]
    rw [en]
    have key : ∀ (f : Nat → List (List Int) → List (List Int) → Int → Int → Int → Option (Int × Int × Bool)), (∀ (a c : Int), n < x.length → 0 ≤ a → a < ((x.getD n []).length : Int) → 0 ≤ c → c + n ≤ 100 → Ev (fun k => f k x y a c ((n : Int) - 1)) (downL x y n a c)) →
        Ev (fun k => if a * 2 + 1 = ((x.getD n []).length : Int) then f k x y (a * 2) c ((n : Int) - 1) else if 0 ≤ a * 2 then (if a * 2 < ((x.getD n []).length : Int) then (if (n : Int) < (y.length : Int) then (if a * 2 < ((y.getD n []).length : Int) then (if rd (x.getD n []) (a * 2) = rd (y.getD n []) (a * 2) then f k x y (a * 2 + 1) (c + 1) ((n : Int) - 1) else f k x y (a * 2) (c + 1) ((n : Int) - 1)) else none) else none) else none) else none) (downL x y (n + 1) a c) := by
      intro f hf
      simp only [downL]
      by_cases h : a * 2 + 1 = ((x.getD n []).length : Int)
      · simp only [if_pos h]; exact hf _ _ (by omega) (by omega) (by omega) h4 (by omega)
      · simp only [if_neg h, if_pos (show (0 : Int) ≤ a * 2 by omega), if_pos (show a * 2 < ((x.getD n []).length : Int) by omega), if_pos (show (n : Int) < (y.length : Int) by omega), if_pos (show a * 2 < ((y.getD n []).length : Int) by omega)]
        by_cases h' : rd (x.getD n []) (a * 2) = rd (y.getD n []) (a * 2)
        · simp only [if_pos h']; exact hf _ _ (by omega) (by omega) (by omega) (by omega) (by omega)
        · simp only [if_neg h']; exact hf _ _ (by omega) (by omega) (by omega) (by omega) (by omega)
    constructor
    · refine Ev.step (fun k => by simp only [impl_FirstChanged.l0]; rfl) ?_
      simp only [ea, eb, ec, ed, ee, rx, ry, if_pos (show (n : Int) ≥ 0 by omega), if_pos (show 0 ≤ (n : Int) by omega), if_pos (show (n : Int) < (x.length : Int) by omega)]
      exact key impl_FirstChanged.l0 (fun a c q1 q2 q3 q4 q5 => (IH a c q1 q2 q3 q4 q5).1)
    · refine Ev.step (fun k => by simp only [spec_FirstChanged.l0]; rfl) ?_
      simp only [ea, eb, ec, ed, ee, rx, ry, if_pos (show (n : Int) ≥ 0 by omega), if_pos (show 0 ≤ (n : Int) by omega), if_pos (show (n : Int) < (x.length : Int) by omega)]
      exact key spec_FirstChanged.l0 (fun a c q1 q2 q3 q4 q5 => (IH a c q1 q2 q3 q4 q5).2)
def firstChanged (a b : List Int) : Int × Int × Bool :=
  if leavesOk a && leavesOk b && decide (a.length = b.length) then
    (if rootL a = rootL b then (-1, 1, true) else downL (levelsL a) (levelsL b) ((levelsL a).length - 1) 0 1) else (0, 0, false)
theorem first_both (a b : List Int) (ha' : a.length ≤ 9223372036854775807) (hb' : b.length ≤ 9223372036854775807) : Ev (fun k => impl_FirstChanged.f k a b) (firstChanged a b) ∧ Ev (fun k => spec_FirstChanged.f k a b) (firstChanged a b) := by
  have j (c : Bool) (hc : c = !(leavesOk a && leavesOk b && decide (a.length = b.length))) : Ev (fun k => impl_FirstChanged.j0 k a b c) (firstChanged a b) ∧ Ev (fun k => spec_FirstChanged.j0 k a b c) (firstChanged a b) := by
    subst hc
    unfold firstChanged
    cases h : leavesOk a && leavesOk b && decide (a.length = b.length) with
    | false =>
      simp only [Bool.false_eq_true, if_false, Bool.not_false]
      constructor
      · refine Ev.step (fun k => by simp only [impl_FirstChanged.j0]; rfl) ?_
        simp only [if_true]; exact Ev.now _
      · refine Ev.step (fun k => by simp only [spec_FirstChanged.j0]; rfl) ?_
        simp only [if_true]; exact Ev.now _
    | true =>
      simp only [Bool.and_eq_true, decide_eq_true_eq] at h
      obtain ⟨⟨ha, hb⟩, hab⟩ := h
      simp only [if_true, Bool.not_true]
      obtain ⟨a1, a2, a3⟩ := (leavesOk_iff a).1 ha
      obtain ⟨p1, p2, p3⟩ := levels_last a.length a (Nat.le_refl _) a1
      obtain ⟨q1, q2, q3⟩ := levels_last b.length b (Nat.le_refl _) (by omega)
      obtain ⟨s1, s2⟩ := levels_same a.length a b (Nat.le_refl _) hab
      have hx := halves_levels a.length a (Nat.le_refl _) a1 a2
      have hl : 1 ≤ (levelsL a).length := by obtain ⟨r, hr⟩ := levelsL_cons a; rw [hr]; simp
      have e0 : wrap64 (((levelsL a).length : Int) - 1) = (((levelsL a).length - 1 : Nat) : Int) := by rw [wrap_in (by omega) (by omega)]; omega
      have e1 : wrap64 ((((levelsL a).length - 1 : Nat) : Int) - 1) = (((levelsL a).length - 1 : Nat) : Int) - 1 := wrap_in (by omega) (by omega)
      have ra : rd_L3 (levelsL a) (((levelsL a).length - 1 : Nat) : Int) = (levelsL a).getD ((levelsL a).length - 1) [] := by unfold rd_L3; rw [Int.toNat_natCast]
      have rb : rd_L3 (levelsL b) (((levelsL a).length - 1 : Nat) : Int) = (levelsL b).getD ((levelsL b).length - 1) [] := by unfold rd_L3; rw [Int.toNat_natCast, s1]
      have D := down_spec (levelsL a) (levelsL b) hx s1 s2 (by omega) ((levelsL a).length - 1) 0 1 (by omega) (by omega) (by have := hx.2.1; omega) (by omega) (by omega)
      constructor
      · refine Ev.step (fun k => by simp only [impl_FirstChanged.j0]; rfl) ?_
        simp only [Bool.false_eq_true, if_false]
        refine Ev.bind (levelsOf_ev a ha) ?_
        refine Ev.bind (levelsOf_ev b hb) ?_
        simp only [e0, e1, ra, rb, p2, q2, if_pos (show 0 ≤ (((levelsL a).length - 1 : Nat) : Int) by omega), if_pos (show (((levelsL a).length - 1 : Nat) : Int) < ((levelsL a).length : Int) by omega), if_pos (show (((levelsL a).length - 1 : Nat) : Int) < ((levelsL b).length : Int) by omega), if_pos (show (0 : Int) < (((levelsL a).getD ((levelsL a).length - 1) []).length : Int) by omega), if_pos (show (0 : Int) < (((levelsL b).getD ((levelsL b).length - 1) []).length : Int) by omega)]
        by_cases hr : rootL a = rootL b
        · simp only [if_pos hr]; exact Ev.now _
        · simp only [if_neg hr]; exact D.1
      · refine Ev.step (fun k => by simp only [spec_FirstChanged.j0]; rfl) ?_
        simp only [Bool.false_eq_true, if_false]
        refine Ev.bind (specLevels_ev a ha) ?_
        refine Ev.bind (specLevels_ev b hb) ?_
        simp only [e0, e1, ra, rb, p2, q2, if_pos (show 0 ≤ (((levelsL a).length - 1 : Nat) : Int) by omega), if_pos (show (((levelsL a).length - 1 : Nat) : Int) < ((levelsL a).length : Int) by omega), if_pos (show (((levelsL a).length - 1 : Nat) : Int) < ((levelsL b).length : Int) by omega), if_pos (show (0 : Int) < (((levelsL a).getD ((levelsL a).length - 1) []).length : Int) by omega), if_pos (show (0 : Int) < (((levelsL b).getD ((levelsL b).length - 1) []).length : Int) by omega)]
        by_cases hr : rootL a = rootL b
        · simp only [if_pos hr]; exact Ev.now _
        · simp only [if_neg hr]; exact D.2
  have hne : ((a.length : Int) != (b.length : Int)) = !decide (a.length = b.length) := by
    by_cases h : a.length = b.length
    · simp [h]
    · have : ¬ (a.length : Int) = (b.length : Int) := by omega
      simp [h, this]
  constructor
  · unfold impl_FirstChanged.f
    refine Ev.bind (areLeaves_ev a ha') ?_
    cases h1 : leavesOk a with
    | false => simp only [Bool.false_eq_true, if_false]; exact (j true (by simp [h1])).1
    | true =>
      simp only [if_true]
      refine Ev.bind (areLeaves_ev b hb') ?_
      cases h2 : leavesOk b with
      | false => simp only [Bool.false_eq_true, if_false]; exact (j true (by simp [h2])).1
      | true => simp only [if_true]; exact (j _ (by rw [hne]; simp [h1, h2])).1
  · unfold spec_FirstChanged.f
    refine Ev.bind (l25Leaves_ev a ha') ?_
    cases h1 : leavesOk a with
    | false => simp only [Bool.false_eq_true, if_false]; exact (j true (by simp [h1])).2
    | true =>
      simp only [if_true]
      refine Ev.bind (l25Leaves_ev b hb') ?_
      cases h2 : leavesOk b with
      | false => simp only [Bool.false_eq_true, if_false]; exact (j true (by simp [h2])).2
      | true => simp only [if_true]; exact (j _ (by rw [hne]; simp [h1, h2])).2

/-- A drawn text's bytes. -/
def Bytes (s : List Int) : Prop := s.length ≤ 9223372036854775807 ∧ ∀ y ∈ s, 0 ≤ y ∧ y ≤ 255
theorem bytes_of {s : List Int} (h : s.length ≤ 9223372036854775807 ∧ ∀ y ∈ s, (Lit.int .u8 y).wf = true) : Bytes s := by
  refine ⟨h.1, fun y hy => ?_⟩
  have := h.2 y hy
  simp only [Lit.wf, Bool.and_eq_true, decide_eq_true_eq] at this
  exact this
theorem rd_byte {s : List Int} (h : Bytes s) (i : Int) : 0 ≤ rd s i ∧ rd s i ≤ 255 := by
  unfold rd
  rw [List.getD_eq_getElem?_getD]
  cases hq : s[i.toNat]? with
  | none => simp
  | some y => exact h.2 y (List.mem_of_getElem? hq)
theorem and255 (x : Int) (h0 : 0 ≤ x) (h1 : x < 18446744073709551616) : 0 ≤ Go.bits .and .u64 x 255 ∧ Go.bits .and .u64 x 255 ≤ 255 := by
  have := bits_mask .u64 64 (by decide) (fun n a b => by rw [IntKind.wrap_u64]; omega) 8 (by decide) x h0 h1
  rw [show (2 : Int) ^ 8 - 1 = 255 by decide] at this
  rw [this]
  omega
theorem next_is (s : List Int) (hs : Bytes s) (p r : Int) (h0 : 0 ≤ p) (h1 : p ≤ 4611686018427387904) : ∃ v r', spec_l1Cur_next.f s p r = some (v, p + 1, r') ∧ 0 ≤ v ∧ v ≤ 255 := by
  unfold spec_l1Cur_next.f
  have hw : wrap64 (p + 1) = p + 1 := wrap_in (by omega) (by omega)
  have hb := rd_byte hs p
  have hr : wrap64 (rd s p) = rd s p := wrap_in (by omega) (by omega)
  have hu : ∀ x : Int, 0 ≤ wrap64 (Go.bits .and .u64 ((IntKind.u64.wrap x) / 1099511627776) 255) ∧ wrap64 (Go.bits .and .u64 ((IntKind.u64.wrap x) / 1099511627776) 255) ≤ 255 := by
    intro x
    have e : IntKind.u64.wrap x = x % 18446744073709551616 := IntKind.wrap_u64 x
    have := and255 ((IntKind.u64.wrap x) / 1099511627776) (by rw [e]; omega) (by rw [e]; omega)
    rw [wrap_in (by omega) (by omega)]
    exact this
  rw [hw]
  by_cases c1 : p < (s.length : Int)
  · rw [if_pos c1, if_pos h0, if_pos (show p + 1 ≤ (s.length : Int) by omega)]
    exact ⟨_, _, rfl, by rw [hr]; exact hb⟩
  · rw [if_neg c1, if_neg (show ¬ p + 1 ≤ (s.length : Int) by omega)]
    exact ⟨_, _, rfl, hu _⟩
theorem pick_is (s : List Int) (hs : Bytes s) (p r n : Int) (h0 : 0 ≤ p) (h1 : p ≤ 4611686018427387900) : ∃ v p' r', spec_l1Cur_pick.f s p r n = some (v, p', r') ∧ 0 ≤ v ∧ (v < n ∨ n ≤ 1 ∧ v = 0) ∧ p ≤ p' ∧ p' ≤ p + 2 := by
  unfold spec_l1Cur_pick.f
  by_cases c1 : n ≤ 1
  · rw [if_pos c1]
    exact ⟨0, p, r, rfl, by omega, by omega, by omega, by omega⟩
  · rw [if_neg c1]
    obtain ⟨v, r1, e1, a1, a2⟩ := next_is s hs p r h0 (by omega)
    rw [e1]
    simp only [Option.bind_some]
    by_cases c2 : n > 200
    · rw [if_pos c2]
      obtain ⟨v2, r2, e2, b1, b2⟩ := next_is s hs (p + 1) r1 (by omega) (by omega)
      rw [e2]
      simp only [Option.bind_some]
      rw [if_neg (show ¬ n = 0 by omega), wrap_in (show -9223372036854775808 ≤ v * 256 by omega) (by omega), wrap_in (show -9223372036854775808 ≤ v * 256 + v2 by omega) (by omega)]
      have m0 := Int.tmod_nonneg n (show 0 ≤ v * 256 + v2 by omega)
      have m1 := Int.tmod_lt_of_pos (v * 256 + v2) (show 0 < n by omega)
      exact ⟨_, _, _, rfl, m0, Or.inl m1, by omega, by omega⟩
    · rw [if_neg c2, if_neg (show ¬ n = 0 by omega)]
      have m0 := Int.tmod_nonneg n (show 0 ≤ v by omega)
      have m1 := Int.tmod_lt_of_pos v (show 0 < n by omega)
      exact ⟨_, _, _, rfl, m0, Or.inl m1, by omega, by omega⟩
theorem one_is (s : List Int) (hs : Bytes s) (p r n : Int) (h0 : 0 ≤ p) (h1 : p ≤ 4611686018427387900) : ∃ v p' r', spec_l1Cur_one.f s p r n = some (v, p', r') ∧ p ≤ p' ∧ p' ≤ p + 2 := by
  unfold spec_l1Cur_one.f
  obtain ⟨v, p', r', e, _, _, a, b⟩ := pick_is s hs p r n h0 h1
  rw [e]
  exact ⟨_, _, _, rfl, a, b⟩
theorem rd_mem {l : List Int} {i : Int} (h0 : 0 ≤ i) (h1 : i < (l.length : Int)) : rd l i ∈ l := by
  unfold rd
  have h : i.toNat < l.length := by omega
  rw [List.getD_eq_getElem?_getD, List.getElem?_eq_getElem h]
  simp
theorem among_is (s : List Int) (hs : Bytes s) (p r : Int) (l : List Int) (hl : 0 < l.length) (h0 : 0 ≤ p) (h1 : p ≤ 4611686018427387900) : ∃ v p' r', spec_l1Cur_among.f s p r l = some (v, p', r') ∧ v ∈ l ∧ p ≤ p' ∧ p' ≤ p + 2 := by
  unfold spec_l1Cur_among.f
  obtain ⟨v, p', r', e, a0, a1, a2, a3⟩ := pick_is s hs p r (l.length : Int) h0 h1
  rw [e]
  have hv : v < (l.length : Int) := by omega
  simp only [Option.bind_some, if_pos a0, if_pos hv]
  exact ⟨_, _, _, rfl, rd_mem a0 hv, a2, a3⟩

theorem leaves_l1 (s : List Int) : ∀ (m : Nat) (x : List Int) (p r : Int), x.length ≤ 40 → 33 - x.length ≤ m → ∃ x', Ev (fun k => spec_l1Cur_leaves.l1 k x s p r) (x', p, r) ∧ x'.length ≤ 40
  | m, x, p, r, hx, hm => by
    by_cases h : x.length < 33
    · cases m with
      | zero => omega
      | succ m =>
        obtain ⟨x', e, hx'⟩ := leaves_l1 s m (x ++ [5]) p r (by simp; omega) (by simp; omega)
        refine ⟨x', ?_, hx'⟩
        refine Ev.step (fun k => by simp only [spec_l1Cur_leaves.l1]; rfl) ?_
        simp only [if_pos (show (x.length : Int) < 33 by omega), if_pos (show x.length < 17592186044416 by omega)]
        exact e
    · refine ⟨x, ?_, hx⟩
      refine Ev.step (fun k => by simp only [spec_l1Cur_leaves.l1]; rfl) ?_
      simp only [if_neg (show ¬ (x.length : Int) < 33 by omega)]
      exact Ev.now _
theorem leaves_l0 (s : List Int) (hs : Bytes s) (n : Int) (hn : n ≤ 32) : ∀ (m : Nat) (x : List Int) (i p r : Int), 0 ≤ i → n - i ≤ m → (x.length : Int) = i → i ≤ 32 → 0 ≤ p → p + 2 * m ≤ 2305843009213693952 → ∃ x' p' r', Ev (fun k => spec_l1Cur_leaves.l0 k x n i s p r) (x', p', r') ∧ x'.length ≤ 40 ∧ p ≤ p' ∧ p' ≤ p + 2 * m + 10
  | m, x, i, p, r, h0, hm, hx, hi, hp, hp' => by
    by_cases h : i < n
    · cases m with
      | zero => omega
      | succ m =>
        obtain ⟨v, p1, r1, e, a0, a1, a2, a3⟩ := pick_is s hs p r 256 hp (by omega)
        obtain ⟨x', p', r', e', b0, b1, b2⟩ := leaves_l0 s hs n hn m (x ++ [Int.tmod (wrap64 ((wrap64 (v * 3907)) + (wrap64 (i * 17)))) 999979]) (i + 1) p1 r1 (by omega) (by omega) (by simp; omega) (by omega) (by omega) (by omega)
        refine ⟨x', p', r', ?_, b0, by omega, by omega⟩
        refine Ev.step (fun k => by simp only [spec_l1Cur_leaves.l0]; rfl) ?_
        simp only [if_pos h, e, Option.bind_some, if_pos (show x.length < 17592186044416 by omega), wrap_in (show -9223372036854775808 ≤ i + 1 by omega) (by omega)]
        exact e'
    · obtain ⟨v, p1, r1, e, a0, a1, a2, a3⟩ := pick_is s hs p r 40 hp (by omega)
      by_cases v0 : v = 0
      · obtain ⟨u, p2, r2, e2, b0, b1, b2⟩ := among_is s hs p1 r1 [(-1), 999979, 999978] (by decide) (by omega) (by omega)
        refine ⟨x ++ [u], p2, r2, ?_, by simp; omega, by omega, by omega⟩
        refine Ev.step (fun k => by simp only [spec_l1Cur_leaves.l0]; rfl) ?_
        simp only [if_neg h, e, e2, Option.bind_some, if_pos v0, if_pos (show x.length < 17592186044416 by omega)]
        exact Ev.now _
      by_cases v1 : v = 1
      · refine ⟨x.take (0 : Int).toNat, p1, r1, ?_, by simp, by omega, by omega⟩
        refine Ev.step (fun k => by simp only [spec_l1Cur_leaves.l0]; rfl) ?_
        simp only [if_neg h, e, Option.bind_some, if_neg v0, if_pos v1, if_pos (show 0 ≤ (x.length : Int) by omega)]
        exact Ev.now _
      by_cases v2 : v = 2
      · obtain ⟨x', e2, hx'⟩ := leaves_l1 s 33 x p1 r1 (by omega) (by omega)
        refine ⟨x', p1, r1, ?_, hx', by omega, by omega⟩
        refine Ev.step (fun k => by simp only [spec_l1Cur_leaves.l0]; rfl) ?_
        simp only [if_neg h, e, Option.bind_some, if_neg v0, if_neg v1, if_pos v2]
        exact e2
      · refine ⟨x, p1, r1, ?_, by omega, by omega, by omega⟩
        refine Ev.step (fun k => by simp only [spec_l1Cur_leaves.l0]; rfl) ?_
        simp only [if_neg h, e, Option.bind_some, if_neg v0, if_neg v1, if_neg v2]
        exact Ev.now _
theorem leaves_is (s : List Int) (hs : Bytes s) (p r : Int) (h0 : 0 ≤ p) (h1 : p ≤ 1000000) : ∃ x p' r', Ev (fun k => spec_l1Cur_leaves.f k s p r) (x, p', r') ∧ x.length ≤ 40 ∧ p ≤ p' ∧ p' ≤ p + 100 := by
  obtain ⟨n, p1, r1, e, a0, a1, a2⟩ := among_is s hs p r [1, 2, 3, 4, 5, 6, 7, 8, 9, 13, 32] (by decide) h0 (by omega)
  have hn : n ≤ 32 := by
    simp only [List.mem_cons, List.not_mem_nil, or_false] at a0
    omega
  obtain ⟨x, p', r', e', b0, b1, b2⟩ := leaves_l0 s hs n hn 32 [] 0 p1 r1 (by omega) (by omega) (by simp) (by omega) (by omega) (by omega)
  refine ⟨x, p', r', ?_, b0, by omega, by omega⟩
  unfold spec_l1Cur_leaves.f
  simp only [e, Option.bind_some]
  exact e'

theorem rootOf_ev (l : List Int) (h : leavesOk l = true) : Ev (fun k => impl_rootOf.f k l) (rootL l) := by
  obtain ⟨h1, h2, h3⟩ := (leavesOk_iff l).1 h
  obtain ⟨q1, q2, q3⟩ := levels_last l.length l (Nat.le_refl _) h1
  obtain ⟨r, hr⟩ := levelsL_cons l
  have hn : 1 ≤ (levelsL l).length := by rw [hr]; simp
  unfold impl_rootOf.f
  refine Ev.bind (levelsOf_ev l h) ?_
  have e : rd_L3 (levelsL l) (((levelsL l).length : Int) - 1) = (levelsL l).getD ((levelsL l).length - 1) [] := by
    unfold rd_L3
    rw [show (((levelsL l).length : Int) - 1).toNat = (levelsL l).length - 1 by omega]
  simp only [wrap_in (show -9223372036854775808 ≤ ((levelsL l).length : Int) - 1 by omega) (by omega), if_pos (show (0 : Int) ≤ ((levelsL l).length : Int) - 1 by omega), if_pos (show ((levelsL l).length : Int) - 1 < ((levelsL l).length : Int) by omega), e, if_pos (show (0 : Int) < (((levelsL l).getD ((levelsL l).length - 1) []).length : Int) by omega)]
  exact Ev.some q2

def treeRoot (l : List Int) : Int × Bool := if leavesOk l then (rootL l, true) else (0, false)
theorem implRoot_ev (l : List Int) (hl : l.length ≤ 9223372036854775807) : Ev (fun k => impl_TreeRoot.f k l) (treeRoot l) := by
  unfold impl_TreeRoot.f treeRoot
  refine Ev.bind (areLeaves_ev l hl) ?_
  cases h : leavesOk l with
  | false => simp only [Bool.false_eq_true, if_false]; exact Ev.now _
  | true => simp only [if_true]; exact Ev.bind (f := fun k t => some (t, true)) (rootOf_ev l h) (Ev.now _)

theorem drawFirst_l0 (s : List Int) (hs : Bytes s) (a : List Int) (ha : a.length ≤ 50) : ∀ (m : Nat) (b : List Int) (i p r : Int), i ≤ m → 0 ≤ p → p + 5 * m ≤ 1000000 → b.length ≤ 50 → ∃ b', Ev (fun k => spec_DrawFirstChanged.l0 k a b i s p r) (a, b') ∧ b'.length ≤ 51
  | m, b, i, p, r, hm, h0, h1, hb => by
    have fin : ∃ b', Ev (fun k => spec_DrawFirstChanged.j1 k a b i false s p r) (a, b') ∧ b'.length ≤ 51 := by
      obtain ⟨v, p1, r1, e, a2, a3⟩ := one_is s hs p r 30 h0 (by omega)
      cases v with
      | true =>
        refine ⟨b ++ [3], ?_, by simp; omega⟩
        refine Ev.step (fun k => by simp only [spec_DrawFirstChanged.j1]; rfl) ?_
        simp only [Bool.false_eq_true, if_false, e, Option.bind_some, if_true, if_pos (show b.length < 17592186044416 by omega)]
        exact Ev.now _
      | false =>
        refine ⟨b, ?_, by omega⟩
        refine Ev.step (fun k => by simp only [spec_DrawFirstChanged.j1]; rfl) ?_
        simp only [Bool.false_eq_true, if_false, e, Option.bind_some]
        exact Ev.now _
    by_cases h : i > 0
    · by_cases hl : (b.length : Int) > 0
      · cases m with
        | zero => omega
        | succ m =>
          obtain ⟨v, p1, r1, e, a0, a1, a2, a3⟩ := pick_is s hs p r (b.length : Int) h0 (by omega)
          obtain ⟨v2, p2, r2, e2, b0, b1, b2, b3⟩ := pick_is s hs p1 r1 9 (by omega) (by omega)
          have hmost : ∃ t, spec_l1Most.f (rd b v) 0 = some t := by
            unfold spec_l1Most.f; split
            · exact ⟨_, rfl⟩
            · exact ⟨_, rfl⟩
          obtain ⟨t, ht⟩ := hmost
          obtain ⟨b', e', hb'⟩ := drawFirst_l0 s hs a ha m (b.set (v : Int).toNat (Int.tmod (wrap64 ((wrap64 (t + 1)) + v2)) 999979)) (i - 1) p2 r2 (by omega) (by omega) (by omega) (by simpa using hb)
          refine ⟨b', ?_, hb'⟩
          refine Ev.step (fun k => by simp only [spec_DrawFirstChanged.l0]; rfl) ?_
          simp only [if_pos h, decide_eq_true hl]
          refine Ev.step (fun k => by simp only [spec_DrawFirstChanged.j1]; rfl) ?_
          simp only [if_true, e, Option.bind_some, if_pos a0, if_pos (show v < (b.length : Int) by omega), ht, e2, wrap_in (show -9223372036854775808 ≤ i - 1 by omega) (by omega)]
          exact e'
      · obtain ⟨b', e', hb'⟩ := fin
        refine ⟨b', ?_, hb'⟩
        refine Ev.step (fun k => by simp only [spec_DrawFirstChanged.l0]; rfl) ?_
        simp only [if_pos h, decide_eq_false hl]
        exact e'
    · obtain ⟨b', e', hb'⟩ := fin
      refine ⟨b', ?_, hb'⟩
      refine Ev.step (fun k => by simp only [spec_DrawFirstChanged.l0]; rfl) ?_
      simp only [if_neg h]
      exact e'
theorem drawFirst_ev (s : List Int) (hs : Bytes s) : ∃ a b, Ev (fun k => spec_DrawFirstChanged.f k s) (a, b) ∧ a.length ≤ 50 ∧ b.length ≤ 51 := by
  obtain ⟨a, p1, r1, e, a0, a1, a2⟩ := leaves_is s hs 0 0 (by omega) (by omega)
  obtain ⟨v, p2, r2, e2, b0, b1, b2, b3⟩ := pick_is s hs p1 r1 3 (by omega) (by omega)
  obtain ⟨b', e', hb'⟩ := drawFirst_l0 s hs a (by omega) 3 a v p2 r2 (by omega) (by omega) (by omega) (by omega)
  refine ⟨a, b', ?_, by omega, hb'⟩
  unfold spec_DrawFirstChanged.f
  refine Ev.bind e ?_
  simp only [l1Own_eq a (by omega), Option.bind_some, e2]
  exact e'
theorem downL_facts (x y : List (List Int)) : ∀ (n : Nat) (a c : Int), 0 ≤ a → 0 ≤ (downL x y n a c).1 ∧ c ≤ (downL x y n a c).2.1 ∧ (downL x y n a c).2.1 ≤ c + n ∧ (downL x y n a c).2.2 = true
  | 0, a, c, h => by simp only [downL]; exact ⟨h, by omega, by omega, trivial⟩
  | n + 1, a, c, h => by
    simp only [downL]
    split
    · have := downL_facts x y n (a * 2) c (by omega); exact ⟨this.1, by omega, by omega, this.2.2.2⟩
    · split
      · have := downL_facts x y n (a * 2 + 1) (c + 1) (by omega); exact ⟨this.1, by omega, by omega, this.2.2.2⟩
      · have := downL_facts x y n (a * 2) (c + 1) (by omega); exact ⟨this.1, by omega, by omega, this.2.2.2⟩
theorem levels_log (n : Nat) : ∀ l : List Int, l.length ≤ 2 ^ n → 1 ≤ l.length → (levelsL l).length ≤ n + 1 := by
  induction n with
  | zero => intro l h1 h2; rw [levelsL_one (by simpa using h1)]; simp
  | succ n ih =>
    intro l h1 h2
    by_cases h : 1 < l.length
    · have hu := upL_length l
      have := ih (upL l) (by rw [hu]; rw [Nat.pow_succ] at h1; omega) (by omega)
      rw [levelsL_more h]
      simpa using this
    · rw [levelsL_one h]; simp
theorem vInts_ev (a b : List Int) (ha : a.length ≤ 1000) : ∃ t, Ev (fun k => laws_vInts.f k a b) t ∧ (t = true → a = b) := by
  unfold laws_vInts.f
  by_cases hl : (a.length : Int) = (b.length : Int)
  · have key := list_ind0 a (fun i rest => ∃ t, Ev (fun k => laws_vInts.l0 k a b i) t ∧ (t = true → rest = b.drop i)) ?_ ?_
    · obtain ⟨t, e, h⟩ := key
      refine ⟨t, ?_, fun q => by simpa using h q⟩
      simp only [if_pos hl]
      exact e
    · refine ⟨true, ?_, fun _ => by rw [List.drop_eq_nil_of_le (by omega)]⟩
      refine Ev.step (fun k => by simp only [laws_vInts.l0]; rfl) ?_
      simp only [Int.lt_irrefl, if_false]
      exact Ev.now _
    · intro i x rest hi hd ih
      obtain ⟨t, e, h⟩ := ih
      have hb : b.drop i = rd b (i : Int) :: b.drop (i + 1) := by
        rw [List.drop_eq_getElem_cons (show i < b.length by omega), rd, Int.toNat_natCast, List.getD_eq_getElem?_getD, List.getElem?_eq_getElem (show i < b.length by omega)]
        rfl
      by_cases hx : x = rd b (i : Int)
      · refine ⟨t, ?_, fun q => by rw [hb, ← h q, hx]⟩
        refine Ev.step (fun k => by simp only [laws_vInts.l0]; rfl) ?_
        simp only [if_pos (show (i : Int) < (a.length : Int) by omega), if_pos (show (0 : Int) ≤ i by omega), if_pos (show (i : Int) < (b.length : Int) by omega), rd_drop hd, if_pos hx, wrap_in (show -9223372036854775808 ≤ (i : Int) + 1 by omega) (by omega)]
        exact e
      · refine ⟨false, ?_, fun q => by cases q⟩
        refine Ev.step (fun k => by simp only [laws_vInts.l0]; rfl) ?_
        simp only [if_pos (show (i : Int) < (a.length : Int) by omega), if_pos (show (0 : Int) ≤ i by omega), if_pos (show (i : Int) < (b.length : Int) by omega), rd_drop hd, if_neg hx]
        exact Ev.now _
  · refine ⟨false, ?_, fun q => by cases q⟩
    simp only [if_neg hl]
    exact Ev.now _
theorem first_facts (a b : List Int) : (firstChanged a b).2.2 = false ∨ leavesOk a = true ∧ leavesOk b = true ∧ a.length = b.length ∧ (firstChanged a b).2.2 = true ∧ 1 ≤ (firstChanged a b).2.1 ∧ (firstChanged a b).2.1 ≤ 6 ∧ ((firstChanged a b).1 == (-1)) = (rootL a == rootL b) := by
  unfold firstChanged
  cases h : leavesOk a && leavesOk b && decide (a.length = b.length) with
  | false => simp
  | true =>
    refine Or.inr ?_
    simp only [Bool.and_eq_true, decide_eq_true_eq] at h
    obtain ⟨⟨ha, hb⟩, hab⟩ := h
    obtain ⟨a1, a2, a3⟩ := (leavesOk_iff a).1 ha
    have hl := levels_log 5 a (by omega) a1
    refine ⟨ha, hb, hab, ?_⟩
    simp only [if_true]
    by_cases hr : rootL a = rootL b
    · simp [if_pos hr, hr]
    · have D := downL_facts (levelsL a) (levelsL b) ((levelsL a).length - 1) 0 1 (by omega)
      simp only [if_neg hr]
      refine ⟨D.2.2.2, D.2.1, by omega, ?_⟩
      rw [beq_eq_false_iff_ne.2 hr, beq_eq_false_iff_ne]
      omega
theorem FnChanged : XGFnChanged.Pure := by
  intro s hs0
  have hs := bytes_of hs0
  refine Ev.rounds ?_
  unfold laws_FnChanged.f laws_vBig.f
  simp only [Option.bind_some]
  by_cases hbig : (s.length : Int) > 65536
  · simp only [decide_eq_true hbig, if_true]; exact Ev.now _
  simp only [decide_eq_false hbig, Bool.false_eq_true, if_false]
  obtain ⟨a, b, hd, ha, hb⟩ := drawFirst_ev s hs
  refine Ev.bind hd ?_
  refine Ev.bind (first_both a b (by omega) (by omega)).1 ?_
  refine Ev.bind (first_both a b (by omega) (by omega)).2 ?_
  simp only [if_true, bne_self_eq_false, Bool.false_eq_true, if_false]
  refine Ev.step (fun k => by simp only [laws_FnChanged.j0]; rfl) ?_
  rcases first_facts a b with h | ⟨f1, f2, f3, f4, f5, f6, f7⟩
  · simp only [h, Bool.not_false, if_true, beq_self_eq_true]; exact Ev.now _
  · simp only [f4, Bool.not_true, Bool.false_eq_true, if_false, if_neg (show ¬ (firstChanged a b).2.1 < 1 by omega), decide_eq_false (show ¬ (firstChanged a b).2.1 > 6 by omega)]
    refine Ev.step (fun k => by simp only [laws_FnChanged.j1]; rfl) ?_
    simp only [Bool.false_eq_true, if_false]
    refine Ev.bind (implRoot_ev a (by omega)) ?_
    refine Ev.bind (implRoot_ev b (by omega)) ?_
    simp only [treeRoot, f1, f2, if_true, f7, bne_self_eq_false, Bool.false_eq_true, if_false]
    obtain ⟨t, e, ht⟩ := vInts_ev a b (by omega)
    refine Ev.bind e ?_
    cases t with
    | true => simp only [if_true, ht rfl, beq_self_eq_true]; exact Ev.now _
    | false => simp only [Bool.false_eq_true, if_false]; exact Ev.now _

end Go.Proofs.YtnfmlglhoboooaaDoor.Pure

/- The pure statement of the law FnExactProveSubset, proved: what the program computes agrees with the reference, in plain Lean. -/
import Derived.Test.YtnfmlglhoboooaaDoorXGFnExactProveSubset
import Derived.Test.YtnfmlglhoboooaaDoorXPlain
import Derived.Lib.ItoaLen
set_option linter.unusedVariables false
set_option linter.unusedSimpArgs false
namespace Go.Proofs.YtnfmlglhoboooaaDoor.Pure
open Go.RowKit Go.Proofs.YtnfmlglhoboooaaDoor Go.Proofs.YtnfmlglhoboooaaDoor.XFnExactProveSubset Go.Proofs.YtnfmlglhoboooaaDoor.XGFnExactProveSubset Go.Proofs.YtnfmlglhoboooaaDoorW.PrintWords Go.Proofs.YtnfmlglhoboooaaDoorW.PrintLast Go.Proofs.YtnfmlglhoboooaaDoor.Plain

theorem l1In_eq (a b c : Int) : spec_l1In.f a b c = some (decide (b ≤ a) && decide (a ≤ c)) := by
  unfold spec_l1In.f
  by_cases h : a ≥ b
  · rw [if_pos h, decide_eq_true (show b ≤ a from h), Bool.true_and]
  · rw [if_neg h, decide_eq_false (show ¬ b ≤ a from h), Bool.false_and]
theorem within_eq (a b c : Int) : impl_within.f a b c = some (decide (b ≤ a) && decide (a ≤ c)) := by
  unfold impl_within.f
  by_cases h : a ≥ b
  · rw [if_pos h, decide_eq_true (show b ≤ a from h), Bool.true_and]
  · rw [if_neg h, decide_eq_false (show ¬ b ≤ a from h), Bool.false_and]

def itoaB (n : Int) : ByteArray := ⟨(Lib.itoa n).toArray⟩
theorem size_of_list (l : List UInt8) : (⟨l.toArray⟩ : ByteArray).size = l.length := by simp [ByteArray.size]
theorem digit_cut (u : Fin 10) : (⟨#[48, 49, 50, 51, 52, 53, 54, 55, 56, 57]⟩ : ByteArray).extract u.val (u.val + 1) = ⟨[UInt8.ofNat (48 + u.val)].toArray⟩ := by
  revert u; decide +kernel
theorem append_lists (a b : List UInt8) : (⟨a.toArray⟩ : ByteArray) ++ ⟨b.toArray⟩ = ⟨(a ++ b).toArray⟩ := by
  apply ByteArray.ext
  simp
theorem num_nat (u : Nat) : u ≤ 9223372036854775807 → Ev (fun k => spec_l1Num.f k u) ⟨(Lib.decDigits u).toArray⟩ := by
  induction u using Nat.strongRecOn with
  | _ u ih =>
  intro hu
  refine Ev.step (fun k => by simp only [spec_l1Num.f]; rfl) ?_
  simp only [if_neg (show ¬ (u : Int) < 0 by omega)]
  by_cases h : u < 10
  · simp only [if_pos (show (u : Int) < 10 by omega), if_pos (show (0 : Int) ≤ u by omega), wrap_in (show -9223372036854775808 ≤ (u : Int) + 1 by omega) (by omega), if_pos (show (u : Int) ≤ u + 1 by omega), if_pos (show (u : Int) + 1 ≤ 10 by omega)]
    refine Ev.some ?_
    rw [Lib.decDigits_one h, Int.toNat_natCast, show ((u : Int) + 1).toNat = u + 1 by omega]
    exact digit_cut ⟨u, h⟩
  · have hd : Int.tdiv (u : Int) 10 = ((u / 10 : Nat) : Int) := by rw [Int.tdiv_eq_ediv_of_nonneg (by omega)]; omega
    have hm : Int.tmod (u : Int) 10 = ((u % 10 : Nat) : Int) := by rw [Int.tmod_eq_emod_of_nonneg (by omega)]; omega
    have h10 : u % 10 < 10 := Nat.mod_lt _ (by decide)
    simp only [if_neg (show ¬ (u : Int) < 10 by omega), hd, hm, wrap_in (show -9223372036854775808 ≤ ((u / 10 : Nat) : Int) by omega) (by omega)]
    refine Ev.bind (ih (u / 10) (by omega) (by omega)) ?_
    have hl : (Lib.decDigits (u / 10)).length ≤ 20 := by rw [Lib.decDigits_length]; exact Lib.nDigits_le20 _ (by omega)
    have e : Lib.decDigits u = Lib.decDigits (u / 10) ++ [UInt8.ofNat (48 + u % 10)] := by rw [Lib.decDigits, dif_neg h]
    simp only [if_pos (show (0 : Int) ≤ ((u % 10 : Nat) : Int) by omega), wrap_in (show -9223372036854775808 ≤ ((u % 10 : Nat) : Int) + 1 by omega) (by omega), if_pos (show ((u % 10 : Nat) : Int) ≤ ((u % 10 : Nat) : Int) + 1 by omega), if_pos (show ((u % 10 : Nat) : Int) + 1 ≤ 10 by omega), Int.toNat_natCast, show (((u % 10 : Nat) : Int) + 1).toNat = u % 10 + 1 by omega, size_of_list]
    rw [if_pos (show (Lib.decDigits (u / 10)).length + (u % 10 + 1 - u % 10) ≤ 9223372036854775807 by omega)]
    refine Ev.some ?_
    rw [e, digit_cut ⟨u % 10, h10⟩, append_lists]
theorem num_ev (n : Int) (h0 : -9223372036854775807 ≤ n) (h1 : n ≤ 9223372036854775807) : Ev (fun k => spec_l1Num.f k n) (itoaB n) := by
  unfold itoaB
  by_cases h : n < 0
  · obtain ⟨u, rfl⟩ : ∃ u : Nat, n = -(u : Int) := ⟨n.natAbs, by omega⟩
    refine Ev.step (fun k => by simp only [spec_l1Num.f]; rfl) ?_
    simp only [if_pos h, Int.neg_neg, wrap_in (show -9223372036854775808 ≤ (u : Int) by omega) (by omega)]
    refine Ev.bind (num_nat u (by omega)) ?_
    have hl : (Lib.decDigits u).length ≤ 20 := by rw [Lib.decDigits_length]; exact Lib.nDigits_le20 _ (by omega)
    rw [if_pos (by rw [size_of_list]; omega)]
    refine Ev.some ?_
    rw [Lib.itoa_neg u (by omega)]
    exact append_lists [45] _
  · obtain ⟨u, rfl⟩ : ∃ u : Nat, n = (u : Int) := ⟨n.toNat, by omega⟩
    rw [Lib.itoa_nonneg]
    exact num_nat u (by omega)
theorem itoaB_size (n : Int) (h0 : -9223372036854775808 ≤ n) (h1 : n ≤ 9223372036854775807) : (itoaB n).size ≤ 21 := by
  unfold itoaB
  rw [size_of_list]
  exact Lib.itoa_length_le n h0 h1
theorem decimal_eq (n : Int) (h0 : -9223372036854775808 ≤ n) (h1 : n ≤ 9223372036854775807) : impl_decimal.f n = some (itoaB n) := by
  unfold impl_decimal.f strconv_Itoa.f
  rw [if_pos ⟨h0, h1⟩]
  rfl

def sumStep (h : Int) (b : UInt8) : Int := (41 * h + (b.toNat : Int) + 1) % 999979
def sumL (l : List UInt8) (h : Int) : Int := l.foldl sumStep h
theorem sumStep_in (h : Int) (b : UInt8) : 0 ≤ sumStep h b ∧ sumStep h b ≤ 999978 := by unfold sumStep; omega
theorem sumL_in (l : List UInt8) (h : Int) (h0 : 0 ≤ h ∧ h ≤ 999978) : 0 ≤ sumL l h ∧ sumL l h ≤ 999978 := by
  induction l generalizing h with
  | nil => exact h0
  | cons b l ih => exact ih _ (sumStep_in h b)
theorem sum_wrap (h : Int) (b : UInt8) (h0 : 0 ≤ h ∧ h ≤ 999978) : Int.tmod (wrap64 ((wrap64 ((wrap64 (41 * h)) + (wrap64 (b.toNat : Int)))) + 1)) 999979 = sumStep h b := by
  have hb := byte_le b
  rw [wrap_in (show -9223372036854775808 ≤ 41 * h by omega) (by omega), wrap_byte, wrap_in (show -9223372036854775808 ≤ 41 * h + (b.toNat : Int) by omega) (by omega), wrap_in (show -9223372036854775808 ≤ 41 * h + (b.toNat : Int) + 1 by omega) (by omega), Int.tmod_eq_emod_of_nonneg (by omega)]
  rfl
theorem sum_ev (s : ByteArray) (hs : s.size ≤ 9223372036854775807) : Ev (fun k => spec_l1Sum.f k s) (sumL s.data.toList 7) := by
  unfold spec_l1Sum.f
  have := bytes_ind0 s (fun i rest => ∀ h : Int, 0 ≤ h ∧ h ≤ 999978 → Ev (fun k => spec_l1Sum.l0 k s h i) (sumL rest h)) ?_ ?_
  · exact this 7 (by decide)
  · intro h _
    refine Ev.step (fun k => by simp only [spec_l1Sum.l0]; rfl) ?_
    simp only [Int.lt_irrefl, if_false]
    exact Ev.now _
  · intro i b rest hi hb hd ih h hh
    refine Ev.step (fun k => by simp only [spec_l1Sum.l0]; rfl) ?_
    simp only [if_pos (show (i : Int) < (s.size : Int) by omega), if_pos (show (0 : Int) ≤ i by omega), hb, sum_wrap h b hh, wrap_in (show -9223372036854775808 ≤ (i : Int) + 1 by omega) (by omega)]
    exact ih _ (sumStep_in h b)
theorem checksum_ev (s : ByteArray) (hs : s.size ≤ 4000) : Ev (fun k => impl_Checksum.f k s) (sumL s.data.toList 7, true) := by
  unfold impl_Checksum.f
  simp only [if_neg (show ¬ (s.size : Int) > 4000 by omega)]
  have := bytes_ind0 s (fun i rest => ∀ h : Int, 0 ≤ h ∧ h ≤ 999978 → Ev (fun k => impl_Checksum.l0 k s h (s.size : Int) i) (sumL rest h, true)) ?_ ?_
  · exact this 7 (by decide)
  · intro h _
    refine Ev.step (fun k => by simp only [impl_Checksum.l0]; rfl) ?_
    simp only [Int.lt_irrefl, if_false]
    exact Ev.now _
  · intro i b rest hi hb hd ih h hh
    refine Ev.step (fun k => by simp only [impl_Checksum.l0]; rfl) ?_
    simp only [if_pos (show (i : Int) < (s.size : Int) by omega), if_pos (show (0 : Int) ≤ i by omega), hb, sum_wrap h b hh, wrap_in (show -9223372036854775808 ≤ (i : Int) + 1 by omega) (by omega)]
    exact ih _ (sumStep_in h b)

def pairTxt (a b : Int) : ByteArray := (((⟨#[40]⟩ : ByteArray) ++ itoaB a) ++ (⟨#[44]⟩ : ByteArray)) ++ itoaB b ++ (⟨#[41]⟩ : ByteArray)
def hashP (a b : Int) : Int := sumL (pairTxt a b).data.toList 7
theorem hashP_in (a b : Int) : 0 ≤ hashP a b ∧ hashP a b ≤ 999978 := sumL_in _ _ (by decide)
theorem pairTxt_size (a b : Int) : (pairTxt a b).size = 1 + (itoaB a).size + 1 + (itoaB b).size + 1 := by
  unfold pairTxt
  simp only [ByteArray.size_append]
  rfl
theorem l25Pair_ev (a b : Int) (ha : 0 ≤ a ∧ a ≤ 999978) (hb : 0 ≤ b ∧ b ≤ 999978) : Ev (fun k => spec_l25Pair.f k a b) (hashP a b) := by
  have sa := itoaB_size a (by omega) (by omega)
  have sb := itoaB_size b (by omega) (by omega)
  unfold spec_l25Pair.f
  refine Ev.bind (num_ev a (by omega) (by omega)) ?_
  refine ev_pos (by omega) (ev_pos (by omega) ?_)
  refine Ev.bind (num_ev b (by omega) (by omega)) ?_
  refine ev_pos (by omega) (ev_pos (by omega) ?_)
  exact Ev.bind (f := fun k t => some t) (sum_ev (pairTxt a b) (by rw [pairTxt_size]; omega)) (Ev.now _)
theorem pairHash_ev (a b : Int) (ha : 0 ≤ a ∧ a ≤ 999978) (hb : 0 ≤ b ∧ b ≤ 999978) : Ev (fun k => impl_pairHash.f k a b) (hashP a b) := by
  have sa := itoaB_size a (by omega) (by omega)
  have sb := itoaB_size b (by omega) (by omega)
  unfold impl_pairHash.f
  simp only [decimal_eq a (by omega) (by omega), decimal_eq b (by omega) (by omega), Option.bind_some]
  refine ev_pos (by omega) (ev_pos (by omega) (ev_pos (by omega) (ev_pos (by omega) ?_)))
  exact Ev.bind (f := fun k t => some t.1) (checksum_ev (pairTxt a b) (by rw [pairTxt_size]; omega)) (Ev.now _)
def inHash (a : Int) : Bool := decide (0 ≤ a) && decide (a ≤ 999978)
theorem inHash_iff (a : Int) : inHash a = true ↔ 0 ≤ a ∧ a ≤ 999978 := by unfold inHash; simp
theorem l25Hash_eq (a : Int) : spec_l25Hash.f a = some (inHash a) := by unfold spec_l25Hash.f; rw [l1In_eq]; rfl
theorem isHash_eq (a : Int) : impl_isHash.f a = some (inHash a) := by unfold impl_isHash.f; rw [within_eq]; rfl

theorem rd_drop {l : List Int} {i : Nat} {b : Int} {rest : List Int} (h : l.drop i = b :: rest) : rd l (i : Int) = b := (rd_at h).2.1
theorem toInts_ev (l : List Int) (hl : l.length ≤ 1048576) : Ev (fun k => laws_toIntS.f k l) l := by
  unfold laws_toIntS.f
  simp only [if_pos (show (0 : Int) ≤ (l.length : Int) by omega), Int.toNat_natCast, if_pos (show l.length ≤ 35184372088832 by omega)]
  have := ev_copy l id (0 : Int) (fun k out i => laws_toIntS.l0 k l out i) (fun out ho => ?_) (fun i x rest out r hi hd ho h => ?_)
  · simpa using this
  · refine Ev.step (fun k => by simp only [laws_toIntS.l0]; rfl) ?_
    simp only [Int.lt_irrefl, if_false]
    exact Ev.now _
  · refine Ev.step (fun k => by simp only [laws_toIntS.l0]; rfl) ?_
    simp only [if_pos (show (i : Int) < (l.length : Int) by omega), if_pos (show (0 : Int) ≤ i by omega), if_pos (show (i : Int) < (out.length : Int) by omega), rd_drop hd, Int.toNat_natCast, wrap_in (show -9223372036854775808 ≤ (i : Int) + 1 by omega) (by omega)]
    exact h
theorem eqInts_ev (l : List Int) (hl : l.length ≤ 1048576) : Ev (fun k => laws_eqIntS.f k l l) true := by
  unfold laws_eqIntS.f
  simp only [if_true]
  refine list_ind0 l (fun i rest => Ev (fun k => laws_eqIntS.l0 k l l i) true) ?_ ?_
  · refine Ev.step (fun k => by simp only [laws_eqIntS.l0]; rfl) ?_
    simp only [Int.lt_irrefl, if_false]
    exact Ev.now _
  · intro i x rest hi hd ih
    refine Ev.step (fun k => by simp only [laws_eqIntS.l0]; rfl) ?_
    simp only [if_pos (show (i : Int) < (l.length : Int) by omega), if_pos (show (0 : Int) ≤ i by omega), if_true, wrap_in (show -9223372036854775808 ≤ (i : Int) + 1 by omega) (by omega)]
    exact ih

theorem l25Hashes_ev (l : List Int) (hl : l.length ≤ 9223372036854775807) : Ev (fun k => spec_l25Hashes.f k l) (l.all inHash) := by
  unfold spec_l25Hashes.f
  refine list_ind0 l (fun i rest => Ev (fun k => spec_l25Hashes.l0 k l i) (rest.all inHash)) ?_ ?_
  · refine Ev.step (fun k => by simp only [spec_l25Hashes.l0]; rfl) ?_
    simp only [Int.lt_irrefl, if_false, List.all_nil]
    exact Ev.now _
  · intro i x rest hi hd ih
    refine Ev.step (fun k => by simp only [spec_l25Hashes.l0]; rfl) ?_
    simp only [if_pos (show (i : Int) < (l.length : Int) by omega), if_pos (show (0 : Int) ≤ i by omega), rd_drop hd, l25Hash_eq, Option.bind_some, wrap_in (show -9223372036854775808 ≤ (i : Int) + 1 by omega) (by omega), List.all_cons]
    cases hx : inHash x with
    | false => simp only [Bool.false_eq_true, if_false, Bool.false_and]; exact Ev.now _
    | true => simp only [if_true, Bool.true_and]; exact ih
theorem areHashes_ev (l : List Int) (hl : l.length ≤ 9223372036854775807) : Ev (fun k => impl_areHashes.f k l) (l.all inHash) := by
  have key : ∃ r : Int, Ev (fun k => slices_IndexFunc_int_int_impl_areHashes_1.f k l) r ∧ decide (r ≥ 0) = !l.all inHash := by
    unfold slices_IndexFunc_int_int_impl_areHashes_1.f
    refine list_ind0 l (fun i rest => ∃ r : Int, Ev (fun k => slices_IndexFunc_int_int_impl_areHashes_1.l0 k l (l.length : Int) i) r ∧ decide (r ≥ 0) = !rest.all inHash) ?_ ?_
    · refine ⟨-1, ?_, by simp⟩
      refine Ev.step (fun k => by simp only [slices_IndexFunc_int_int_impl_areHashes_1.l0]; rfl) ?_
      simp only [Int.lt_irrefl, if_false]
      exact Ev.now _
    · intro i x rest hi hd ih
      obtain ⟨r, hr, he⟩ := ih
      have hc : XFnExactProveSubset.impl_areHashes_1.f x = some (!inHash x) := by unfold XFnExactProveSubset.impl_areHashes_1.f; rw [isHash_eq]; rfl
      cases hx : inHash x with
      | false =>
        refine ⟨i, ?_, by rw [List.all_cons, hx]; simp⟩
        refine Ev.step (fun k => by simp only [slices_IndexFunc_int_int_impl_areHashes_1.l0]; rfl) ?_
        simp only [if_pos (show (i : Int) < (l.length : Int) by omega), if_pos (show (0 : Int) ≤ i by omega), rd_drop hd, hc, hx, Option.bind_some, Bool.not_false, if_true]
        exact Ev.now _
      | true =>
        refine ⟨r, ?_, by rw [List.all_cons, hx, Bool.true_and]; exact he⟩
        refine Ev.step (fun k => by simp only [slices_IndexFunc_int_int_impl_areHashes_1.l0]; rfl) ?_
        simp only [if_pos (show (i : Int) < (l.length : Int) by omega), if_pos (show (0 : Int) ≤ i by omega), rd_drop hd, hc, hx, Option.bind_some, Bool.not_true, Bool.false_eq_true, if_false, wrap_in (show -9223372036854775808 ≤ (i : Int) + 1 by omega) (by omega)]
        exact hr
  obtain ⟨r, hr, he⟩ := key
  unfold impl_areHashes.f slices_ContainsFunc_int_int_impl_areHashes_1.f
  refine Ev.bind (Ev.bind hr (Ev.now (decide (r ≥ 0)))) ?_
  refine Ev.some ?_
  rw [he, Bool.not_not]
def leavesOk (l : List Int) : Bool := (decide (1 ≤ (l.length : Int)) && decide ((l.length : Int) ≤ 32)) && l.all inHash
theorem leavesOk_iff (l : List Int) : leavesOk l = true ↔ 1 ≤ l.length ∧ l.length ≤ 32 ∧ ∀ x ∈ l, inHash x = true := by
  unfold leavesOk
  simp only [Bool.and_eq_true, decide_eq_true_eq, List.all_eq_true]
  constructor
  · rintro ⟨⟨h1, h2⟩, h3⟩; exact ⟨by omega, by omega, h3⟩
  · rintro ⟨h1, h2, h3⟩; exact ⟨⟨by omega, by omega⟩, h3⟩
theorem l25Leaves_ev (l : List Int) (hl : l.length ≤ 9223372036854775807) : Ev (fun k => spec_l25Leaves.f k l) (leavesOk l) := by
  unfold spec_l25Leaves.f leavesOk
  simp only [l1In_eq, Option.bind_some]
  cases (decide (1 ≤ (l.length : Int)) && decide ((l.length : Int) ≤ 32)) with
  | false => simp only [Bool.false_eq_true, if_false, Bool.false_and]; exact Ev.now _
  | true => simp only [if_true, Bool.true_and]; exact Ev.bind (f := fun k t => some t) (l25Hashes_ev l hl) (Ev.now _)
theorem areLeaves_ev (l : List Int) (hl : l.length ≤ 9223372036854775807) : Ev (fun k => impl_areLeaves.f k l) (leavesOk l) := by
  unfold impl_areLeaves.f leavesOk
  simp only [within_eq, Option.bind_some]
  cases (decide (1 ≤ (l.length : Int)) && decide ((l.length : Int) ≤ 32)) with
  | false => simp only [Bool.false_eq_true, if_false, Bool.false_and]; exact Ev.now _
  | true => simp only [if_true, Bool.true_and]; exact Ev.bind (f := fun k t => some t) (areHashes_ev l hl) (Ev.now _)

def upL : List Int → List Int
  | [] => []
  | [a] => [a]
  | a :: b :: r => hashP a b :: upL r
theorem upL_length : ∀ l : List Int, (upL l).length = (l.length + 1) / 2
  | [] => rfl
  | [a] => by simp [upL]
  | a :: b :: r => by
    have := upL_length r
    simp only [upL, List.length_cons, this]
    omega
theorem upL_all : ∀ l : List Int, (∀ x ∈ l, inHash x = true) → ∀ x ∈ upL l, inHash x = true
  | [], h => h
  | [a], h => h
  | a :: b :: r, h => by
    intro x hx
    simp only [upL, List.mem_cons] at hx
    rcases hx with rfl | hx
    · exact (inHash_iff _).2 (hashP_in a b)
    · exact upL_all r (fun y hy => h y (by simp [hy])) x hx
theorem drop_succ {α : Type} {l : List α} {i : Nat} {a : α} {r : List α} (h : l.drop i = a :: r) : l.drop (i + 1) = r := (getD_at (d := a) h).2.2
theorem l25Up_l0 (l : List Int) (hl : l.length ≤ 32) (ha : ∀ x ∈ l, inHash x = true) : ∀ (rest : List Int) (i : Nat) (out : List Int), l.drop i = rest → out.length ≤ i → i ≤ 33 → Ev (fun k => spec_l25Up.l0 k l out i) (out ++ upL rest)
  | [], i, out, hd, ho, hi => by
    have : l.length ≤ i := List.drop_eq_nil_iff.1 hd
    refine Ev.step (fun k => by simp only [spec_l25Up.l0]; rfl) ?_
    simp only [if_neg (show ¬ (i : Int) < (l.length : Int) by omega), upL, List.append_nil]
    exact Ev.now _
  | [a], i, out, hd, ho, hi => by
    have h1 := (getD_at (d := a) hd).1
    have h2 : l.length ≤ i + 1 := List.drop_eq_nil_iff.1 (drop_succ hd)
    refine Ev.step (fun k => by simp only [spec_l25Up.l0]; rfl) ?_
    simp only [wrap_in (show -9223372036854775808 ≤ (i : Int) + 1 by omega) (by omega), wrap_in (show -9223372036854775808 ≤ (i : Int) + 2 by omega) (by omega), if_pos (show (i : Int) < (l.length : Int) by omega), if_neg (show ¬ (i : Int) + 1 < (l.length : Int) by omega), if_pos (show (0 : Int) ≤ i by omega), if_pos (show out.length < 17592186044416 by omega), rd_drop hd]
    have := l25Up_l0 l hl ha [] (i + 2) (out ++ [a]) (List.drop_eq_nil_iff.2 (by omega)) (by simp; omega) (by omega)
    simpa [upL] using this
  | a :: b :: r, i, out, hd, ho, hi => by
    have hd1 := drop_succ hd
    have hd2 := drop_succ hd1
    have h1 := (getD_at (d := a) hd1).1
    have hA : inHash a = true := ha a (List.mem_of_mem_drop (by rw [hd]; simp))
    have hB : inHash b = true := ha b (List.mem_of_mem_drop (by rw [hd]; simp))
    have eB : rd l ((i : Int) + 1) = b := by have := rd_drop hd1; simpa using this
    refine Ev.step (fun k => by simp only [spec_l25Up.l0]; rfl) ?_
    simp only [wrap_in (show -9223372036854775808 ≤ (i : Int) + 1 by omega) (by omega), wrap_in (show -9223372036854775808 ≤ (i : Int) + 2 by omega) (by omega), if_pos (show (i : Int) < (l.length : Int) by omega), if_pos (show (i : Int) + 1 < (l.length : Int) by omega), if_pos (show (0 : Int) ≤ i by omega), if_pos (show (0 : Int) ≤ (i : Int) + 1 by omega), rd_drop hd, eB]
    refine Ev.bind (l25Pair_ev a b ((inHash_iff a).1 hA) ((inHash_iff b).1 hB)) ?_
    simp only [if_pos (show out.length < 17592186044416 by omega)]
    have := l25Up_l0 l hl ha r (i + 2) (out ++ [hashP a b]) hd2 (by simp; omega) (by omega)
    simpa [upL] using this
theorem l25Up_ev (l : List Int) (hl : l.length ≤ 32) (ha : ∀ x ∈ l, inHash x = true) : Ev (fun k => spec_l25Up.f k l) (upL l) := by
  unfold spec_l25Up.f
  have := l25Up_l0 l hl ha l 0 [] rfl (Nat.le_refl _) (by omega)
  simpa using this
theorem l1Own_eq (l : List Int) (hl : l.length ≤ 1048576) : spec_l1Own.f l = some l := by
  unfold spec_l1Own.f
  simp only [Option.bind_some, List.nil_append, List.length_nil]
  rw [if_pos (by omega)]

def levelsL (l : List Int) : List (List Int) := if h : 1 < l.length then l :: levelsL (upL l) else [l]
termination_by l.length
decreasing_by rw [upL_length]; omega
theorem levelsL_one {l : List Int} (h : ¬ 1 < l.length) : levelsL l = [l] := by rw [levelsL, dif_neg h]
theorem levelsL_more {l : List Int} (h : 1 < l.length) : levelsL l = l :: levelsL (upL l) := by rw [levelsL, dif_pos h]
theorem levelsL_cons (l : List Int) : ∃ r, levelsL l = l :: r := by
  by_cases h : 1 < l.length
  · exact ⟨_, levelsL_more h⟩
  · exact ⟨_, levelsL_one h⟩
theorem levelsOf_l1 (cur : List Int) (hl : cur.length ≤ 32) (ha : ∀ x ∈ cur, inHash x = true) (out : List (List Int)) (hout : out.length ≤ 40) (r : List (List Int)) : ∀ (rest : List Int) (i : Nat) (next : List Int), cur.drop i = rest → next.length ≤ i → i ≤ 33 →
    Ev (fun k => impl_levelsOf.l0 k (next ++ upL rest) (out ++ [next ++ upL rest])) r → Ev (fun k => impl_levelsOf.l1 k cur out next i) r
  | [], i, next, hd, ho, hi, h => by
    have : cur.length ≤ i := List.drop_eq_nil_iff.1 hd
    refine Ev.step (fun k => by simp only [impl_levelsOf.l1]; rfl) ?_
    simp only [if_neg (show ¬ (i : Int) < (cur.length : Int) by omega), if_pos (show out.length < 5864062014805 by omega)]
    simpa [upL] using h
  | [a], i, next, hd, ho, hi, h => by
    have h1 := (getD_at (d := a) hd).1
    have h2 : cur.length ≤ i + 1 := List.drop_eq_nil_iff.1 (drop_succ hd)
    refine Ev.step (fun k => by simp only [impl_levelsOf.l1]; rfl) ?_
    simp only [wrap_in (show -9223372036854775808 ≤ (i : Int) + 1 by omega) (by omega), wrap_in (show -9223372036854775808 ≤ (i : Int) + 2 by omega) (by omega), if_pos (show (i : Int) < (cur.length : Int) by omega), if_neg (show ¬ (i : Int) + 1 < (cur.length : Int) by omega), if_pos (show (0 : Int) ≤ i by omega), if_pos (show next.length < 17592186044416 by omega), rd_drop hd]
    have := levelsOf_l1 cur hl ha out hout r [] (i + 2) (next ++ [a]) (List.drop_eq_nil_iff.2 (by omega)) (by simp; omega) (by omega) (by simpa [upL] using h)
    simpa using this
  | a :: b :: r', i, next, hd, ho, hi, h => by
    have hd1 := drop_succ hd
    have hd2 := drop_succ hd1
    have h1 := (getD_at (d := a) hd1).1
    have hA : inHash a = true := ha a (List.mem_of_mem_drop (by rw [hd]; simp))
    have hB : inHash b = true := ha b (List.mem_of_mem_drop (by rw [hd]; simp))
    have eB : rd cur ((i : Int) + 1) = b := by have := rd_drop hd1; simpa using this
    refine Ev.step (fun k => by simp only [impl_levelsOf.l1]; rfl) ?_
    simp only [wrap_in (show -9223372036854775808 ≤ (i : Int) + 1 by omega) (by omega), wrap_in (show -9223372036854775808 ≤ (i : Int) + 2 by omega) (by omega), if_pos (show (i : Int) < (cur.length : Int) by omega), if_pos (show (i : Int) + 1 < (cur.length : Int) by omega), if_pos (show (0 : Int) ≤ i by omega), if_pos (show (0 : Int) ≤ (i : Int) + 1 by omega), rd_drop hd, eB]
    refine Ev.bind (pairHash_ev a b ((inHash_iff a).1 hA) ((inHash_iff b).1 hB)) ?_
    simp only [if_pos (show next.length < 17592186044416 by omega)]
    have := levelsOf_l1 cur hl ha out hout r r' (i + 2) (next ++ [hashP a b]) hd2 (by simp; omega) (by omega) (by simpa [upL] using h)
    simpa using this
theorem levelsOf_l0 (n : Nat) : ∀ (cur : List Int) (out : List (List Int)), cur.length ≤ n → cur.length ≤ 32 → (∀ x ∈ cur, inHash x = true) → out.length + cur.length ≤ 34 → Ev (fun k => impl_levelsOf.l0 k cur out) (out ++ (levelsL cur).tail) := by
  induction n with
  | zero =>
    intro cur out hn hl ha ho
    refine Ev.step (fun k => by simp only [impl_levelsOf.l0]; rfl) ?_
    simp only [if_neg (show ¬ (cur.length : Int) > 1 by omega), levelsL_one (show ¬ 1 < cur.length by omega), List.tail_cons, List.append_nil]
    exact Ev.now _
  | succ n ih =>
    intro cur out hn hl ha ho
    refine Ev.step (fun k => by simp only [impl_levelsOf.l0]; rfl) ?_
    by_cases h : 1 < cur.length
    · simp only [if_pos (show (cur.length : Int) > 1 by omega)]
      have hu := upL_length cur
      refine levelsOf_l1 cur hl ha out (by omega) _ cur 0 [] rfl (Nat.le_refl _) (by omega) ?_
      simp only [List.nil_append]
      have := ih (upL cur) (out ++ [upL cur]) (by omega) (by omega) (upL_all cur ha) (by simp; omega)
      obtain ⟨r, hr⟩ := levelsL_cons (upL cur)
      rw [levelsL_more h, List.tail_cons, hr]
      rw [hr, List.tail_cons] at this
      simpa using this
    · simp only [if_neg (show ¬ (cur.length : Int) > 1 by omega), levelsL_one h, List.tail_cons, List.append_nil]
      exact Ev.now _
theorem levelsOf_ev (l : List Int) (h : leavesOk l = true) : Ev (fun k => impl_levelsOf.f k l) (levelsL l) := by
  obtain ⟨h1, h2, h3⟩ := (leavesOk_iff l).1 h
  unfold impl_levelsOf.f
  have := levelsOf_l0 l.length l [l] (Nat.le_refl _) h2 h3 (by simp; omega)
  obtain ⟨r, hr⟩ := levelsL_cons l
  rw [hr, List.tail_cons] at this
  rw [hr]
  simpa using this
def rootL (l : List Int) : Int := if h : 1 < l.length then rootL (upL l) else rd l 0
termination_by l.length
decreasing_by rw [upL_length]; omega
theorem rootL_one {l : List Int} (h : ¬ 1 < l.length) : rootL l = rd l 0 := by rw [rootL, dif_neg h]
theorem rootL_more {l : List Int} (h : 1 < l.length) : rootL l = rootL (upL l) := by rw [rootL, dif_pos h]
theorem levels_last (n : Nat) : ∀ l : List Int, l.length ≤ n → 1 ≤ l.length → 0 < ((levelsL l).getD ((levelsL l).length - 1) []).length ∧ rd ((levelsL l).getD ((levelsL l).length - 1) []) 0 = rootL l ∧ (levelsL l).length ≤ n := by
  induction n with
  | zero => intro l h1 h2; omega
  | succ n ih =>
    intro l h1 h2
    by_cases h : 1 < l.length
    · have hu := upL_length l
      obtain ⟨i1, i2, i3⟩ := ih (upL l) (by omega) (by omega)
      obtain ⟨r, hr⟩ := levelsL_cons (upL l)
      rw [levelsL_more h, rootL_more h]
      have e : (l :: levelsL (upL l)).getD ((l :: levelsL (upL l)).length - 1) [] = (levelsL (upL l)).getD ((levelsL (upL l)).length - 1) [] := by
        rw [hr]; simp
      rw [e]
      exact ⟨i1, i2, by simp; omega⟩
    · rw [levelsL_one h, rootL_one h]
      simp
      omega

/-- Strictly rising from behind p on, within lo and hi. -/
def risB (lo hi : Int) : Int → List Int → Bool
  | _, [] => true
  | p, x :: r => (decide (lo ≤ x) && decide (x ≤ hi)) && (decide (p < x) && risB lo hi x r)
theorem risB_all {lo hi : Int} : ∀ (l : List Int) (p : Int), risB lo hi p l = true → ∀ x ∈ l, lo ≤ x ∧ x ≤ hi ∧ p < x
  | [], _, _ => by intro x hx; cases hx
  | y :: r, p, h => by
    simp only [risB, Bool.and_eq_true, decide_eq_true_eq] at h
    intro x hx
    rcases List.mem_cons.1 hx with rfl | hx
    · exact ⟨h.1.1, h.1.2, h.2.1⟩
    · have := risB_all r y h.2.2 x hx; omega
theorem risB_len {lo hi : Int} : ∀ (l : List Int) (p : Int), risB lo hi p l = true → p ≤ hi → (l.length : Int) ≤ hi - p
  | [], p, _, h => by simp only [List.length_nil]; omega
  | x :: r, p, h, hp => by
    simp only [risB, Bool.and_eq_true, decide_eq_true_eq] at h
    have := risB_len r x h.2.2 h.1.2
    simp only [List.length_cons]; omega
theorem specRis_l0 (l : List Int) (lo hi : Int) (hl : l.length ≤ 9223372036854775000) : ∀ (rest : List Int) (i : Nat) (p : Int), l.drop i = rest → (i = 0 → p = lo - 1) → (0 < i → rd l ((i : Int) - 1) = p) → Ev (fun k => spec_l1Rising.l0 k l lo hi i) (risB lo hi p rest)
  | [], i, p, hd, h0, h1 => by
    have : l.length ≤ i := List.drop_eq_nil_iff.1 hd
    refine Ev.step (fun k => by simp only [spec_l1Rising.l0]; rfl) ?_
    simp only [if_neg (show ¬ (i : Int) < (l.length : Int) by omega), risB]
    exact Ev.now _
  | x :: r, i, p, hd, h0, h1 => by
    have hi' := (getD_at (d := x) hd).1
    have IH := specRis_l0 l lo hi hl r (i + 1) x (drop_succ hd) (by omega) (fun _ => by rw [show ((i + 1 : Nat) : Int) - 1 = i by omega]; exact rd_drop hd)
    rw [show ((i + 1 : Nat) : Int) = (i : Int) + 1 by omega] at IH
    refine Ev.step (fun k => by simp only [spec_l1Rising.l0]; rfl) ?_
    simp only [if_pos (show (i : Int) < (l.length : Int) by omega), if_pos (show (0 : Int) ≤ i by omega), rd_drop hd, l1In_eq, Option.bind_some, wrap_in (show -9223372036854775808 ≤ (i : Int) + 1 by omega) (by omega), risB]
    cases hb : (decide (lo ≤ x) && decide (x ≤ hi)) with
    | false => simp only [Bool.false_eq_true, if_false, Bool.false_and]; exact Ev.now _
    | true =>
      simp only [if_true, Bool.true_and]
      simp only [Bool.and_eq_true, decide_eq_true_eq] at hb
      by_cases z : 0 < i
      · simp only [if_pos (show (i : Int) > 0 by omega), wrap_in (show -9223372036854775808 ≤ (i : Int) - 1 by omega) (by omega), if_pos (show 0 ≤ (i : Int) - 1 by omega), if_pos (show (i : Int) - 1 < (l.length : Int) by omega), h1 z]
        by_cases q : p ≥ x
        · simp only [if_pos q, decide_eq_false (show ¬ p < x by omega), Bool.false_and]; exact Ev.now _
        · simp only [if_neg q, decide_eq_true (show p < x by omega), Bool.true_and]; exact IH
      · have := h0 (by omega)
        simp only [if_neg (show ¬ (i : Int) > 0 by omega), decide_eq_true (show p < x by omega), Bool.true_and]; exact IH
theorem implRis_l0 (l : List Int) (lo hi cnt : Int) (hl : l.length ≤ 9223372036854775000) : ∀ (rest : List Int) (i : Nat) (p : Int), l.drop i = rest → (i = 0 → p = lo - 1) → (0 < i → rd l ((i : Int) - 1) = p) → Ev (fun k => impl_isRising.l0 k l lo hi cnt l (l.length : Int) i) (risB lo hi p rest && decide ((l.length : Int) ≤ cnt))
  | [], i, p, hd, h0, h1 => by
    have : l.length ≤ i := List.drop_eq_nil_iff.1 hd
    refine Ev.step (fun k => by simp only [impl_isRising.l0]; rfl) ?_
    simp only [if_neg (show ¬ (i : Int) < (l.length : Int) by omega), risB, Bool.true_and]
    exact Ev.now _
  | x :: r, i, p, hd, h0, h1 => by
    have hi' := (getD_at (d := x) hd).1
    have IH := implRis_l0 l lo hi cnt hl r (i + 1) x (drop_succ hd) (by omega) (fun _ => by rw [show ((i + 1 : Nat) : Int) - 1 = i by omega]; exact rd_drop hd)
    rw [show ((i + 1 : Nat) : Int) = (i : Int) + 1 by omega] at IH
    refine Ev.step (fun k => by simp only [impl_isRising.l0]; rfl) ?_
    simp only [if_pos (show (i : Int) < (l.length : Int) by omega), if_pos (show (0 : Int) ≤ i by omega), rd_drop hd, within_eq, Option.bind_some, wrap_in (show -9223372036854775808 ≤ (i : Int) + 1 by omega) (by omega), risB]
    cases hb : (decide (lo ≤ x) && decide (x ≤ hi)) with
    | false => simp only [Bool.false_eq_true, if_false, Bool.false_and]; exact Ev.now _
    | true =>
      simp only [if_true, Bool.true_and]
      simp only [Bool.and_eq_true, decide_eq_true_eq] at hb
      by_cases z : 0 < i
      · simp only [if_pos (show (i : Int) > 0 by omega), wrap_in (show -9223372036854775808 ≤ (i : Int) - 1 by omega) (by omega), if_pos (show 0 ≤ (i : Int) - 1 by omega), if_pos (show (i : Int) - 1 < (l.length : Int) by omega), h1 z]
        by_cases q : x ≤ p
        · simp only [if_pos q, decide_eq_false (show ¬ p < x by omega), Bool.false_and]; exact Ev.now _
        · simp only [if_neg q, decide_eq_true (show p < x by omega), Bool.true_and]; exact IH
      · have := h0 (by omega)
        simp only [if_neg (show ¬ (i : Int) > 0 by omega), decide_eq_true (show p < x by omega), Bool.true_and]; exact IH
/-- A list of indices of so many leaves. -/
def idxOk (l : List Int) (n : Int) : Bool := decide (0 < (l.length : Int)) && risB 0 (n - 1) (-1) l
theorem specIdx_ev (l : List Int) (n : Int) (hl : l.length ≤ 9223372036854775000) (hn : 0 ≤ n ∧ n ≤ 9223372036854775000) : Ev (fun k => spec_l25Indices.f k l n) (idxOk l n) := by
  unfold spec_l25Indices.f spec_l1Rising.f idxOk
  by_cases h : (l.length : Int) > 0
  · simp only [if_pos h, decide_eq_true (show 0 < (l.length : Int) by omega), Bool.true_and, wrap_in (show -9223372036854775808 ≤ n - 1 by omega) (by omega)]
    exact Ev.bind (specRis_l0 l 0 (n - 1) hl l 0 (-1) rfl (fun _ => by omega) (fun h => by omega)) (Ev.now _)
  · simp only [if_neg h, decide_eq_false (show ¬ 0 < (l.length : Int) by omega), Bool.false_and]; exact Ev.now _
theorem implIdx_ev (l : List Int) (n : Int) (hl : l.length ≤ 9223372036854775000) (hn : 0 ≤ n ∧ n ≤ 9223372036854775000) : Ev (fun k => impl_isSubset.f k l n) (idxOk l n) := by
  unfold impl_isSubset.f impl_isRising.f idxOk
  by_cases h : (l.length : Int) > 0
  · simp only [if_pos h, decide_eq_true (show 0 < (l.length : Int) by omega), Bool.true_and, wrap_in (show -9223372036854775808 ≤ n - 1 by omega) (by omega)]
    refine Ev.bind (implRis_l0 l 0 (n - 1) n hl l 0 (-1) rfl (fun _ => by omega) (fun h => by omega)) (Ev.some ?_)
    cases q : risB 0 (n - 1) (-1) l with
    | false => rfl
    | true =>
      have := risB_len l (-1) q (by omega)
      simp only [Bool.true_and, decide_eq_true_eq]; omega
  · simp only [if_neg h, decide_eq_false (show ¬ 0 < (l.length : Int) by omega), Bool.false_and]; exact Ev.now _
theorem has_ev (l : List Int) (x : Int) (hl : l.length ≤ 9223372036854775000) : Ev (fun k => spec_l1Has.f k l x) (decide (x ∈ l)) := by
  unfold spec_l1Has.f
  refine list_ind0 l (fun i rest => Ev (fun k => spec_l1Has.l0 k l x i) (decide (x ∈ rest))) ?_ ?_
  · refine Ev.step (fun k => by simp only [spec_l1Has.l0]; rfl) ?_
    simp only [Int.lt_irrefl, if_false]
    exact Ev.some (by simp)
  · intro i y rest hi hd ih
    refine Ev.step (fun k => by simp only [spec_l1Has.l0]; rfl) ?_
    simp only [if_pos (show (i : Int) < (l.length : Int) by omega), if_pos (show (0 : Int) ≤ i by omega), rd_drop hd, wrap_in (show -9223372036854775808 ≤ (i : Int) + 1 by omega) (by omega)]
    by_cases q : y = x
    · simp only [if_pos q]; exact Ev.some (by simp [q])
    · simp only [if_neg q]
      rw [show decide (x ∈ y :: rest) = decide (x ∈ rest) by
        have : ¬ x = y := fun e => q e.symm
        simp [this]]
      exact ih

/-- The hashes that a level's known places ask for. -/
def levH (K : Int → Bool) : Int → List Int → List Int
  | _, [] => []
  | _, [_] => []
  | i, a :: b :: r => (if K i then (if K (i + 1) then [] else [b]) else if K (i + 1) then [a] else []) ++ levH K (i + 2) r
def nextK (K : Int → Bool) (j : Int) : Bool := K (2 * j) || K (2 * j + 1)
def provS (l : List Int) (K : Int → Bool) : List Int := if h : 1 < l.length then levH K 0 l ++ provS (upL l) (nextK K) else []
termination_by l.length
decreasing_by rw [upL_length]; omega
theorem provS_one {l : List Int} (h : ¬ 1 < l.length) (K) : provS l K = [] := by rw [provS, dif_neg h]
theorem provS_more {l : List Int} (h : 1 < l.length) (K) : provS l K = levH K 0 l ++ provS (upL l) (nextK K) := by rw [provS, dif_pos h]
theorem levH_len (K : Int → Bool) : ∀ (l : List Int) (i : Int), (levH K i l).length ≤ l.length / 2
  | [], _ => by simp [levH]
  | [_], _ => by simp [levH]
  | a :: b :: r, i => by
    have := levH_len K r (i + 2)
    have h1 : (if K i then (if K (i + 1) then [] else [b]) else if K (i + 1) then [a] else []).length ≤ 1 := by split <;> split <;> simp
    simp only [levH, List.length_append, List.length_cons]; omega
theorem provS_len (n : Nat) : ∀ (l : List Int) (K : Int → Bool), l.length ≤ n → (provS l K).length ≤ l.length := by
  induction n with
  | zero => intro l K h; rw [provS_one (by omega)]; simp
  | succ n ih =>
    intro l K h
    by_cases h1 : 1 < l.length
    · have hu := upL_length l
      have := ih (upL l) (nextK K) (by omega)
      have := levH_len K l 0
      rw [provS_more h1, List.length_append]; omega
    · rw [provS_one h1]; simp
theorem mB_cons (L : List (Int × Bool)) (a : Int) (v : Bool) (x : Int) : mB ((a, v) :: L) x = if x = a then v else mB L x := by
  unfold mB
  rw [List.lookup_cons]
  by_cases h : x = a
  · subst h; simp
  · have e : (x == a) = false := by simpa using h
    rw [e, if_neg h]
theorem half_nat (i : Nat) (h : i ≤ 100) : wrap64 (Int.tdiv (i : Int) 2) = ((i / 2 : Nat) : Int) := by
  rw [Int.tdiv_eq_ediv_of_nonneg (by omega), wrap_in (by omega) (by omega)]; omega
theorem dec_step {i : Nat} (h2 : i % 2 = 0) {j : Int} (e : ¬ j = ((i / 2 : Nat) : Int)) : decide (2 * j < ((i + 2 : Nat) : Int)) = decide (2 * j < (i : Int)) := by
  rw [decide_eq_decide]; omega
theorem dec_here (i : Nat) : decide (2 * ((i / 2 : Nat) : Int) < ((i + 2 : Nat) : Int)) = true := decide_eq_true (by omega)
theorem dec_not {i : Nat} (h2 : i % 2 = 0) : decide (2 * ((i / 2 : Nat) : Int) < (i : Int)) = false := decide_eq_false (by omega)
theorem mem_app (l : List Int) (a x : Int) : decide (x ∈ l ++ [a]) = (decide (x ∈ l) || decide (x = a)) := by
  simp [List.mem_append]
/-- One step of the list of known places. -/
theorem known_step {K : Int → Bool} {i : Nat} (h2 : i % 2 = 0) {next next' : List Int} (hn : ∀ j : Int, decide (j ∈ next) = (decide (2 * j < (i : Int)) && nextK K j)) (hnx : next' = if nextK K ((i / 2 : Nat) : Int) then next ++ [((i / 2 : Nat) : Int)] else next) (j : Int) : decide (j ∈ next') = (decide (2 * j < ((i + 2 : Nat) : Int)) && nextK K j) := by
  subst hnx
  by_cases e : j = ((i / 2 : Nat) : Int)
  · subst e
    rw [dec_here, Bool.true_and]
    cases q : nextK K ((i / 2 : Nat) : Int) with
    | false => rw [if_neg (by simp), hn, q, Bool.and_false]
    | true => rw [if_pos rfl, mem_app]; simp
  · rw [dec_step h2 e, ← hn j]
    split
    · rw [mem_app, decide_eq_false e, Bool.or_false]
    · rfl
theorem map_step {K : Int → Bool} {i : Nat} (h2 : i % 2 = 0) {M : List (Int × Bool)} {v : Bool} (hn : ∀ x : Int, mB M x = (decide (2 * x < (i : Int)) && nextK K x)) (hv : v = nextK K ((i / 2 : Nat) : Int)) (x : Int) : mB ((((i / 2 : Nat) : Int), v) :: M) x = (decide (2 * x < ((i + 2 : Nat) : Int)) && nextK K x) := by
  rw [mB_cons]
  by_cases e : x = ((i / 2 : Nat) : Int)
  · rw [if_pos e, e, hv, dec_here, Bool.true_and]
  · rw [if_neg e, hn x, dec_step h2 e]
def InK (K : Int → Bool) (n : Nat) : Prop := ∀ x, K x = true → 0 ≤ x ∧ x < (n : Int)
theorem nextK_in {K : Int → Bool} {n : Nat} (h : InK K n) : InK (nextK K) ((n + 1) / 2) := by
  intro x hx
  unfold nextK at hx
  rcases Bool.or_eq_true _ _ ▸ hx with h1 | h1
  · have := h _ h1; omega
  · have := h _ h1; omega
theorem not_in {K : Int → Bool} {n : Nat} (h : InK K n) {x : Int} (hx : (n : Int) ≤ x) : K x = false := by
  cases q : K x with
  | false => rfl
  | true => have := h x q; omega
theorem specSub_l1 (l : List Int) (K : Int → Bool) (known : List Int) (hk : ∀ x, decide (x ∈ known) = K x) (hkl : known.length ≤ 64) (R : List Int × Bool) (hl : l.length ≤ 32) (ha : ∀ x ∈ l, inHash x = true) (hK : InK K l.length) : ∀ (rest : List Int) (i : Nat) (out next : List Int), l.drop i = rest → i % 2 = 0 → (∀ j : Int, decide (j ∈ next) = (decide (2 * j < (i : Int)) && nextK K j)) → next.length ≤ i → i ≤ 34 → out.length + rest.length ≤ 100 →
    (∀ next' : List Int, (∀ j, decide (j ∈ next') = nextK K j) → next'.length ≤ 34 → Ev (fun k => spec_ProveSubset.l0 k (out ++ levH K i rest) (upL l) next') R) → Ev (fun k => spec_ProveSubset.l1 k out l known next i) R
  | [], i, out, next, hd, h2, hn, hnl, hi, ho, H => by
    have : l.length ≤ i := List.drop_eq_nil_iff.1 hd
    refine Ev.step (fun k => by simp only [spec_ProveSubset.l1]; rfl) ?_
    simp only [if_neg (show ¬ (i : Int) < (l.length : Int) by omega)]
    refine Ev.bind (l25Up_ev l hl ha) ?_
    have := H next (fun j => by
      rw [hn j]
      cases q : nextK K j with
      | false => simp
      | true =>
        have := nextK_in hK j q
        simp only [Bool.and_true, decide_eq_true_eq]; omega) (by omega)
    simpa [levH] using this
  | [a], i, out, next, hd, h2, hn, hnl, hi, ho, H => by
    have h1 := (getD_at (d := a) hd).1
    have h3 : l.length ≤ i + 1 := List.drop_eq_nil_iff.1 (drop_succ hd)
    have hk1 : K ((i : Int) + 1) = false := not_in hK (by omega)
    have hne : nextK K ((i / 2 : Nat) : Int) = K i := by
      unfold nextK
      rw [show 2 * ((i / 2 : Nat) : Int) = (i : Int) by omega, hk1, Bool.or_false]
    have IH := fun next' (h : ∀ j : Int, decide (j ∈ next') = (decide (2 * j < ((i + 2 : Nat) : Int)) && nextK K j)) hle => specSub_l1 l K known hk hkl R hl ha hK [] (i + 2) out next' (List.drop_eq_nil_iff.2 (by omega)) (by omega) h hle (by omega) (by simp only [List.length_cons] at ho; simp only [List.length_nil]; omega) (fun n' q1 q2 => by simpa [levH] using H n' q1 q2)
    have step (c : Bool) (hc : c = K i) (next' : List Int) (hnx : next' = if c then next ++ [((i / 2 : Nat) : Int)] else next) : Ev (fun k => spec_ProveSubset.l1 k out l known next' ((i + 2 : Nat) : Int)) R := by
      refine IH next' (known_step h2 hn (by rw [hne, hnx, hc])) ?_
      subst hnx; split
      · simp only [List.length_append, List.length_singleton]; omega
      · omega
    refine Ev.step (fun k => by simp only [spec_ProveSubset.l1]; rfl) ?_
    simp only [if_pos (show (i : Int) < (l.length : Int) by omega), wrap_in (show -9223372036854775808 ≤ (i : Int) + 1 by omega) (by omega)]
    refine Ev.bind (has_ev known i (by omega)) ?_
    refine Ev.bind (has_ev known ((i : Int) + 1) (by omega)) ?_
    rw [hk, hk, hk1]
    cases q : K i with
    | false =>
      have s := step false q.symm next (by simp)
      simp only [Bool.false_eq_true, if_false]
      refine Ev.step (fun k => by simp only [spec_ProveSubset.j3]; rfl) ?_
      simp only [Bool.false_eq_true, if_false]
      refine Ev.step (fun k => by simp only [spec_ProveSubset.j4]; rfl) ?_
      simp only [Bool.false_eq_true, if_false]
      refine Ev.step (fun k => by simp only [spec_ProveSubset.j5]; rfl) ?_
      simp only [Bool.false_eq_true, if_false, wrap_in (show -9223372036854775808 ≤ (i : Int) + 2 by omega) (by omega)]
      simpa using s
    | true =>
      have s := step true q.symm _ rfl
      simp only [if_true] at s
      simp only [if_true]
      refine Ev.step (fun k => by simp only [spec_ProveSubset.j3]; rfl) ?_
      simp only [if_true, if_pos (show next.length < 17592186044416 by omega), half_nat i (by omega)]
      refine Ev.step (fun k => by simp only [spec_ProveSubset.j4]; rfl) ?_
      simp only [if_true, Bool.false_eq_true, if_false, wrap_in (show -9223372036854775808 ≤ (i : Int) + 1 by omega) (by omega), decide_eq_false (show ¬ (i : Int) + 1 < (l.length : Int) by omega)]
      refine Ev.step (fun k => by simp only [spec_ProveSubset.j5]; rfl) ?_
      simp only [Bool.false_eq_true, if_false, wrap_in (show -9223372036854775808 ≤ (i : Int) + 2 by omega) (by omega)]
      simpa using s
  | a :: b :: r, i, out, next, hd, h2, hn, hnl, hi, ho, H => by
    have hd1 := drop_succ hd
    have h1 := (getD_at (d := a) hd1).1
    have ea : rd l (i : Int) = a := rd_drop hd
    have eb : rd l ((i : Int) + 1) = b := by have := rd_drop hd1; simpa using this
    have hne : nextK K ((i / 2 : Nat) : Int) = (K i || K ((i : Int) + 1)) := by
      unfold nextK
      rw [show 2 * ((i / 2 : Nat) : Int) = (i : Int) by omega]
    simp only [List.length_cons] at ho
    have step (out' next' : List Int) (hO : out' = out ++ (if K i then (if K ((i : Int) + 1) then [] else [b]) else if K ((i : Int) + 1) then [a] else [])) (hnx : next' = if (K i || K ((i : Int) + 1)) then next ++ [((i / 2 : Nat) : Int)] else next) : Ev (fun k => spec_ProveSubset.l1 k out' l known next' ((i + 2 : Nat) : Int)) R := by
      refine specSub_l1 l K known hk hkl R hl ha hK r (i + 2) out' next' (drop_succ hd1) (by omega) (known_step h2 hn (by rw [hne, hnx])) ?_ (by omega) ?_ (fun n' q1 q2 => ?_)
      · subst hnx; split
        · simp only [List.length_append, List.length_singleton]; omega
        · omega
      · subst hO
        rw [List.length_append]
        have : (if K i then (if K ((i : Int) + 1) then [] else [b]) else if K ((i : Int) + 1) then [a] else []).length ≤ 1 := by split <;> split <;> simp
        omega
      · subst hO
        have := H n' q1 q2
        simpa [levH, List.append_assoc] using this
    refine Ev.step (fun k => by simp only [spec_ProveSubset.l1]; rfl) ?_
    simp only [if_pos (show (i : Int) < (l.length : Int) by omega), wrap_in (show -9223372036854775808 ≤ (i : Int) + 1 by omega) (by omega)]
    refine Ev.bind (has_ev known i (by omega)) ?_
    refine Ev.bind (has_ev known ((i : Int) + 1) (by omega)) ?_
    rw [hk, hk]
    cases q : K i with
    | false =>
      cases q' : K ((i : Int) + 1) with
      | false =>
        have s := step out next (by simp [q, q']) (by simp [q, q'])
        simp only [Bool.false_eq_true, if_false]
        refine Ev.step (fun k => by simp only [spec_ProveSubset.j3]; rfl) ?_
        simp only [Bool.false_eq_true, if_false]
        refine Ev.step (fun k => by simp only [spec_ProveSubset.j4]; rfl) ?_
        simp only [Bool.false_eq_true, if_false]
        refine Ev.step (fun k => by simp only [spec_ProveSubset.j5]; rfl) ?_
        simp only [Bool.false_eq_true, if_false, wrap_in (show -9223372036854775808 ≤ (i : Int) + 2 by omega) (by omega)]
        simpa using s
      | true =>
        have s := step (out ++ [a]) (next ++ [((i / 2 : Nat) : Int)]) (by simp [q, q']) (by simp [q, q'])
        simp only [Bool.false_eq_true, if_false]
        refine Ev.step (fun k => by simp only [spec_ProveSubset.j3]; rfl) ?_
        simp only [if_true, if_pos (show next.length < 17592186044416 by omega), half_nat i (by omega)]
        refine Ev.step (fun k => by simp only [spec_ProveSubset.j4]; rfl) ?_
        simp only [Bool.false_eq_true, if_false]
        refine Ev.step (fun k => by simp only [spec_ProveSubset.j5]; rfl) ?_
        simp only [Bool.false_eq_true, if_false, if_true, wrap_in (show -9223372036854775808 ≤ (i : Int) + 2 by omega) (by omega), if_pos (show (0 : Int) ≤ (i : Int) by omega), if_pos (show (i : Int) < (l.length : Int) by omega), if_pos (show out.length < 17592186044416 by omega), ea]
        simpa using s
    | true =>
      cases q' : K ((i : Int) + 1) with
      | false =>
        have s := step (out ++ [b]) (next ++ [((i / 2 : Nat) : Int)]) (by simp [q, q']) (by simp [q, q'])
        simp only [if_true]
        refine Ev.step (fun k => by simp only [spec_ProveSubset.j3]; rfl) ?_
        simp only [if_true, if_pos (show next.length < 17592186044416 by omega), half_nat i (by omega)]
        refine Ev.step (fun k => by simp only [spec_ProveSubset.j4]; rfl) ?_
        simp only [if_true, Bool.false_eq_true, if_false, wrap_in (show -9223372036854775808 ≤ (i : Int) + 1 by omega) (by omega), decide_eq_true (show (i : Int) + 1 < (l.length : Int) by omega)]
        refine Ev.step (fun k => by simp only [spec_ProveSubset.j5]; rfl) ?_
        simp only [if_true, Bool.false_eq_true, if_false, wrap_in (show -9223372036854775808 ≤ (i : Int) + 1 by omega) (by omega), wrap_in (show -9223372036854775808 ≤ (i : Int) + 2 by omega) (by omega), if_pos (show (0 : Int) ≤ (i : Int) + 1 by omega), if_pos (show (i : Int) + 1 < (l.length : Int) by omega), if_pos (show out.length < 17592186044416 by omega), eb, Option.bind_some]
        simpa using s
      | true =>
        have s := step out (next ++ [((i / 2 : Nat) : Int)]) (by simp [q, q']) (by simp [q, q'])
        simp only [if_true]
        refine Ev.step (fun k => by simp only [spec_ProveSubset.j3]; rfl) ?_
        simp only [if_true, if_pos (show next.length < 17592186044416 by omega), half_nat i (by omega)]
        refine Ev.step (fun k => by simp only [spec_ProveSubset.j4]; rfl) ?_
        simp only [if_true]
        refine Ev.step (fun k => by simp only [spec_ProveSubset.j5]; rfl) ?_
        simp only [if_true, Bool.false_eq_true, if_false, wrap_in (show -9223372036854775808 ≤ (i : Int) + 2 by omega) (by omega)]
        simpa using s
theorem specSub_l0 (n : Nat) : ∀ (l : List Int) (K : Int → Bool) (known out : List Int), l.length ≤ n → 1 ≤ l.length → l.length ≤ 32 → (∀ x ∈ l, inHash x = true) → InK K l.length → (∀ x, decide (x ∈ known) = K x) → known.length ≤ 64 → out.length + l.length ≤ 100 → Ev (fun k => spec_ProveSubset.l0 k out l known) (out ++ provS l K, true) := by
  induction n with
  | zero => intro l K known out h1 h2; omega
  | succ n ih =>
    intro l K known out h1 h2 h3 h4 h5 h6 h7 h8
    refine Ev.step (fun k => by simp only [spec_ProveSubset.l0]; rfl) ?_
    by_cases h : 1 < l.length
    · have hu := upL_length l
      simp only [if_pos (show (l.length : Int) > 1 by omega)]
      refine specSub_l1 l K known h6 h7 _ h3 h4 h5 l 0 out [] rfl rfl (fun j => ?_) (by simp) (by omega) (by omega) (fun next' q1 q2 => ?_)
      · cases q : nextK K j with
        | false => simp
        | true =>
          have := nextK_in h5 j q
          simp; omega
      · rw [provS_more h, ← List.append_assoc]
        have hlen := levH_len K l 0
        refine ih (upL l) (nextK K) next' _ (by omega) (by omega) (by omega) (upL_all l h4) (by rw [hu]; exact nextK_in h5) q1 (by omega) (by simp only [List.length_append]; simp only [Int.ofNat_zero, Int.natCast_zero] at *; omega)
    · simp only [if_neg (show ¬ (l.length : Int) > 1 by omega), provS_one h, List.append_nil]
      exact Ev.now _
theorem mapHas_in (L : List (Int × Bool)) (x : Int) (h : -9223372036854775808 ≤ x ∧ x ≤ 9223372036854775807) : mapHas.f L x = some (mB L x) := by unfold mapHas.f; rw [if_pos h]
theorem mapPut_in (L : List (Int × Bool)) (x : Int) (v : Bool) (h : -9223372036854775808 ≤ x ∧ x ≤ 9223372036854775807) (hl : L.length < 1000000) : mapPut.f L x v = some ((x, v) :: L) := by unfold mapPut.f; rw [if_pos ⟨h, hl⟩]
theorem mapHas_K {L : List (Int × Bool)} {K : Int → Bool} (hL : ∀ x, mB L x = K x) (x : Int) (h : -9223372036854775808 ≤ x ∧ x ≤ 9223372036854775807) : mapHas.f L x = some (K x) := by rw [mapHas_in L x h, hL]
theorem implSub_l2 (l : List Int) (K : Int → Bool) (L : List (Int × Bool)) (hL : ∀ x, mB L x = K x) (all : List (List Int)) (n j : Int) (R : List Int × Bool) (hl : l.length ≤ 32) (hK : InK K l.length) : ∀ (rest : List Int) (i : Nat) (out : List Int) (M : List (Int × Bool)), l.drop i = rest → i % 2 = 0 → (∀ x : Int, mB M x = (decide (2 * x < (i : Int)) && nextK K x)) → M.length ≤ i → i ≤ 34 → out.length + rest.length ≤ 100 →
    (∀ M' : List (Int × Bool), (∀ x, mB M' x = nextK K x) → M'.length ≤ 34 → Ev (fun k => impl_ProveSubset.l1 k (out ++ levH K i rest) M' all n (wrap64 (j + 1))) R) → Ev (fun k => impl_ProveSubset.l2 k out L l M i all n j) R
  | [], i, out, M, hd, h2, hn, hnl, hi, ho, H => by
    have : l.length ≤ i := List.drop_eq_nil_iff.1 hd
    refine Ev.step (fun k => by simp only [impl_ProveSubset.l2]; rfl) ?_
    simp only [if_neg (show ¬ (i : Int) < (l.length : Int) by omega)]
    have := H M (fun x => by
      rw [hn x]
      cases q : nextK K x with
      | false => simp
      | true =>
        have := nextK_in hK x q
        simp only [Bool.and_true, decide_eq_true_eq]; omega) (by omega)
    simpa [levH] using this
  | [a], i, out, M, hd, h2, hn, hnl, hi, ho, H => by
    have h1 := (getD_at (d := a) hd).1
    have h3 : l.length ≤ i + 1 := List.drop_eq_nil_iff.1 (drop_succ hd)
    have hk1 : K ((i : Int) + 1) = false := not_in hK (by omega)
    have hne : nextK K ((i / 2 : Nat) : Int) = K i := by
      unfold nextK
      rw [show 2 * ((i / 2 : Nat) : Int) = (i : Int) by omega, hk1, Bool.or_false]
    have s := implSub_l2 l K L hL all n j R hl hK [] (i + 2) out ((((i / 2 : Nat) : Int), K i) :: M) (List.drop_eq_nil_iff.2 (by omega)) (by omega) (map_step h2 hn hne.symm) (by simp; omega) (by omega) (by simp only [List.length_cons] at ho; simp only [List.length_nil]; omega) (fun n' q1 q2 => by simpa [levH] using H n' q1 q2)
    refine Ev.step (fun k => by simp only [impl_ProveSubset.l2]; rfl) ?_
    simp only [if_pos (show (i : Int) < (l.length : Int) by omega), wrap_in (show -9223372036854775808 ≤ (i : Int) + 1 by omega) (by omega), if_pos (show (i : Int) + 1 = (l.length : Int) by omega), half_nat i (by omega), wrap_in (show -9223372036854775808 ≤ (i : Int) + 2 by omega) (by omega)]
    refine ev_bind0 (mapHas_K hL (i : Int) (by omega)) ?_
    refine ev_bind0 (mapPut_in M ((i / 2 : Nat) : Int) (K i) (by omega) (by omega)) ?_
    exact s
  | a :: b :: r, i, out, M, hd, h2, hn, hnl, hi, ho, H => by
    have hd1 := drop_succ hd
    have h1 := (getD_at (d := a) hd1).1
    have ea : rd l (i : Int) = a := rd_drop hd
    have eb : rd l ((i : Int) + 1) = b := by have := rd_drop hd1; simpa using this
    have hne : nextK K ((i / 2 : Nat) : Int) = (K i || K ((i : Int) + 1)) := by
      unfold nextK
      rw [show 2 * ((i / 2 : Nat) : Int) = (i : Int) by omega]
    simp only [List.length_cons] at ho
    have s (out' : List Int) (v : Bool) (hO : out' = out ++ (if K i then (if K ((i : Int) + 1) then [] else [b]) else if K ((i : Int) + 1) then [a] else [])) (hv : v = (K i || K ((i : Int) + 1))) : Ev (fun k => impl_ProveSubset.l2 k out' L l ((((i / 2 : Nat) : Int), v) :: M) ((i + 2 : Nat) : Int) all n j) R := by
      refine implSub_l2 l K L hL all n j R hl hK r (i + 2) out' _ (drop_succ hd1) (by omega) (map_step h2 hn (by rw [hne, hv])) (by simp; omega) (by omega) ?_ (fun n' q1 q2 => ?_)
      · subst hO
        rw [List.length_append]
        have : (if K i then (if K ((i : Int) + 1) then [] else [b]) else if K ((i : Int) + 1) then [a] else []).length ≤ 1 := by split <;> split <;> simp
        omega
      · subst hO
        have := H n' q1 q2
        simpa [levH, List.append_assoc] using this
    have s4 (u : Bool) (hu : u = (K i && !K ((i : Int) + 1))) : Ev (fun k => impl_ProveSubset.j4 k out L l M i all n j u) R := by
      refine Ev.step (fun k => by simp only [impl_ProveSubset.j4]; rfl) ?_
      simp only [wrap_in (show -9223372036854775808 ≤ (i : Int) + 1 by omega) (by omega), wrap_in (show -9223372036854775808 ≤ (i : Int) + 2 by omega) (by omega), half_nat i (by omega), if_pos (show (0 : Int) ≤ (i : Int) + 1 by omega), if_pos (show (i : Int) + 1 < (l.length : Int) by omega), if_pos (show out.length < 17592186044416 by omega), eb]
      subst hu
      cases q : K i with
      | true =>
        cases q' : K ((i : Int) + 1) with
        | false =>
          simp only [Bool.not_false, Bool.and_self, if_true]
          refine ev_bind0 rfl ?_
          refine ev_bind0 (mapHas_K hL (i : Int) (by omega)) ?_
          simp only [q, if_true]
          refine ev_bind0 (mapPut_in M ((i / 2 : Nat) : Int) true (by omega) (by omega)) ?_
          exact s (out ++ [b]) true (by simp [q, q']) (by simp [q, q'])
        | true =>
          simp only [Bool.not_true, Bool.and_false, Bool.false_eq_true, if_false]
          refine ev_bind0 (mapHas_K hL (i : Int) (by omega)) ?_
          simp only [q, if_true]
          refine Ev.step (fun k => by simp only [impl_ProveSubset.j5]; rfl) ?_
          simp only [Bool.false_eq_true, if_false, half_nat i (by omega), wrap_in (show -9223372036854775808 ≤ (i : Int) + 2 by omega) (by omega)]
          refine ev_bind0 (mapHas_K hL (i : Int) (by omega)) ?_
          simp only [q, if_true]
          refine ev_bind0 (mapPut_in M ((i / 2 : Nat) : Int) true (by omega) (by omega)) ?_
          exact s out true (by simp [q, q']) (by simp [q, q'])
      | false =>
        simp only [Bool.false_and, Bool.false_eq_true, if_false]
        refine ev_bind0 (mapHas_K hL (i : Int) (by omega)) ?_
        simp only [q, Bool.false_eq_true, if_false]
        refine ev_bind0 (mapHas_K hL ((i : Int) + 1) (by omega)) ?_
        refine Ev.step (fun k => by simp only [impl_ProveSubset.j5]; rfl) ?_
        simp only [wrap_in (show -9223372036854775808 ≤ (i : Int) + 1 by omega) (by omega), wrap_in (show -9223372036854775808 ≤ (i : Int) + 2 by omega) (by omega), half_nat i (by omega), if_pos (show (0 : Int) ≤ (i : Int) by omega), if_pos (show (i : Int) < (l.length : Int) by omega), if_pos (show out.length < 17592186044416 by omega), ea]
        cases q' : K ((i : Int) + 1) with
        | false =>
          simp only [Bool.false_eq_true, if_false]
          refine ev_bind0 (mapHas_K hL (i : Int) (by omega)) ?_
          simp only [q, Bool.false_eq_true, if_false]
          refine ev_bind0 (mapHas_K hL ((i : Int) + 1) (by omega)) ?_
          refine ev_bind0 (mapPut_in M ((i / 2 : Nat) : Int) (K ((i : Int) + 1)) (by omega) (by omega)) ?_
          exact s out _ (by simp [q, q']) (by simp [q, q'])
        | true =>
          simp only [if_true]
          refine ev_bind0 rfl ?_
          refine ev_bind0 (mapHas_K hL (i : Int) (by omega)) ?_
          simp only [q, Bool.false_eq_true, if_false]
          refine ev_bind0 (mapHas_K hL ((i : Int) + 1) (by omega)) ?_
          refine ev_bind0 (mapPut_in M ((i / 2 : Nat) : Int) (K ((i : Int) + 1)) (by omega) (by omega)) ?_
          exact s (out ++ [a]) _ (by simp [q, q']) (by simp [q, q'])
    refine Ev.step (fun k => by simp only [impl_ProveSubset.l2]; rfl) ?_
    simp only [if_pos (show (i : Int) < (l.length : Int) by omega), wrap_in (show -9223372036854775808 ≤ (i : Int) + 1 by omega) (by omega), if_neg (show ¬ (i : Int) + 1 = (l.length : Int) by omega)]
    refine ev_bind0 (mapHas_K hL (i : Int) (by omega)) ?_
    cases q : K i with
    | false => simp only [Bool.false_eq_true, if_false]; exact s4 false (by simp [q])
    | true =>
      simp only [if_true]
      refine ev_bind0 (mapHas_K hL ((i : Int) + 1) (by omega)) ?_
      exact s4 _ (by simp [q])
theorem implSub_l1 (n : Nat) (all : List (List Int)) (hall : all.length ≤ 64) : ∀ (l : List Int) (K : Int → Bool) (L : List (Int × Bool)) (out : List Int) (j : Nat), all.drop j = levelsL l → l.length ≤ n → 1 ≤ l.length → l.length ≤ 32 → InK K l.length → (∀ x, mB L x = K x) → out.length + l.length ≤ 100 → Ev (fun k => impl_ProveSubset.l1 k out L all (all.length : Int) (j : Int)) (out ++ provS l K, true) := by
  induction n with
  | zero => intro l K L out j hd h1 h2; omega
  | succ n ih =>
    intro l K L out j hd h1 h2 h3 h4 h5 h6
    obtain ⟨r, hr⟩ := levelsL_cons l
    have hd' := hd; rw [hr] at hd'
    have hg := getD_at (d := []) hd'
    have rj : rd_L1 all (j : Int) = l := by unfold rd_L1; rw [Int.toNat_natCast]; exact hg.2.1
    refine Ev.step (fun k => by simp only [impl_ProveSubset.l1]; rfl) ?_
    simp only [if_pos (show (j : Int) < (all.length : Int) by have := hg.1; omega), if_pos (show (0 : Int) ≤ (j : Int) by omega), rj]
    have hlen := levH_len K l 0
    refine implSub_l2 l K L h5 all (all.length : Int) (j : Int) _ h3 h4 l 0 out [] rfl rfl (fun x => ?_) (by simp) (by omega) (by omega) (fun M q1 q2 => ?_)
    · cases q : nextK K x with
      | false => simp [mB]
      | true =>
        have := nextK_in h4 x q
        simp [mB]; omega
    · rw [wrap_in (by omega) (by have := hg.1; omega)]
      by_cases h : 1 < l.length
      · have hu := upL_length l
        have ht : all.drop (j + 1) = levelsL (upL l) := by
          rw [hg.2.2]; rw [levelsL_more h] at hr; exact (List.cons.inj hr).2.symm
        rw [provS_more h, ← List.append_assoc]
        have := ih (upL l) (nextK K) M (out ++ levH K 0 l) (j + 1) ht (by omega) (by omega) (by omega) (by rw [hu]; exact nextK_in h4) q1 (by simp only [List.length_append]; omega)
        simpa using this
      · have ht : all.length ≤ j + 1 := by
          have h' := hg.2.2
          rw [levelsL_one h] at hr
          rw [← (List.cons.inj hr).2] at h'
          exact List.drop_eq_nil_iff.1 h'
        obtain ⟨a, rfl⟩ : ∃ a, l = [a] := List.length_eq_one_iff.1 (by omega)
        refine Ev.step (fun k => by simp only [impl_ProveSubset.l1]; rfl) ?_
        simp only [if_neg (show ¬ (j : Int) + 1 < (all.length : Int) by omega), provS_one h, levH, List.append_nil]
        exact Ev.now _
theorem implSub_l0 (l ind : List Int) (hi : ∀ x ∈ ind, 0 ≤ x ∧ x ≤ 1000) (hn : ind.length ≤ 1000) (R : List Int × Bool) : ∀ (rest : List Int) (i : Nat) (L : List (Int × Bool)), ind.drop i = rest → L.length ≤ i → (∀ x, mB L x = decide (x ∈ ind.take i)) →
    (∀ L' : List (Int × Bool), (∀ x, mB L' x = decide (x ∈ ind)) → Ev (fun k => (impl_levelsOf.f k l).bind fun t222 => (impl_ProveSubset.l1 k [] L' t222 (t222.length : Int) 0)) R) → Ev (fun k => impl_ProveSubset.l0 k l [] L ind (ind.length : Int) i) R
  | [], i, L, hd, hl, hL, H => by
    have : ind.length ≤ i := List.drop_eq_nil_iff.1 hd
    refine Ev.step (fun k => by simp only [impl_ProveSubset.l0]; rfl) ?_
    simp only [if_neg (show ¬ (i : Int) < (ind.length : Int) by omega)]
    exact H L (fun x => by rw [hL x, List.take_of_length_le this])
  | a :: r, i, L, hd, hl, hL, H => by
    have h1 := (getD_at (d := a) hd).1
    have h2 := hi a (List.mem_of_mem_drop (by rw [hd]; simp))
    refine Ev.step (fun k => by simp only [impl_ProveSubset.l0]; rfl) ?_
    simp only [if_pos (show (i : Int) < (ind.length : Int) by omega), if_pos (show (0 : Int) ≤ (i : Int) by omega), rd_drop hd, wrap_in (show -9223372036854775808 ≤ (i : Int) + 1 by omega) (by omega)]
    refine ev_bind0 (mapPut_in L a true (by omega) (by omega)) ?_
    have := implSub_l0 l ind hi hn R r (i + 1) ((a, true) :: L) (drop_succ hd) (by simp; omega) (fun x => by
      rw [mB_cons, take_succ_at hd, hL x]
      by_cases e : x = a
      · simp [e]
      · simp [e]) H
    simpa using this
def proveSub (l ind : List Int) : List Int × Bool := if leavesOk l && idxOk ind (l.length : Int) then (provS l (fun x => decide (x ∈ ind)), true) else ([], false)
theorem idxOk_in {ind : List Int} {n : Nat} (h : idxOk ind (n : Int) = true) : InK (fun x => decide (x ∈ ind)) n ∧ (n ≤ 1000 → ind.length ≤ n) ∧ 0 < ind.length := by
  unfold idxOk at h
  simp only [Bool.and_eq_true, decide_eq_true_eq] at h
  refine ⟨fun x hx => ?_, fun hn => ?_, by omega⟩
  · have := risB_all ind _ h.2 x (by simpa using hx); omega
  · cases n with
    | zero =>
      cases ind with
      | nil => simp at h
      | cons a r => have := risB_all _ _ h.2 a (by simp); omega
    | succ n => have := risB_len ind _ h.2 (by omega); omega
theorem specSub_ev (l ind : List Int) (hl : l.length ≤ 1048576) (hi : ind.length ≤ 1048576) : Ev (fun k => spec_ProveSubset.f k l ind) (proveSub l ind) := by
  have j (c : Bool) (hc : c = !(leavesOk l && idxOk ind (l.length : Int))) : Ev (fun k => spec_ProveSubset.j0 k l ind [] c) (proveSub l ind) := by
    subst hc
    unfold proveSub
    refine Ev.step (fun k => by simp only [spec_ProveSubset.j0]; rfl) ?_
    cases h : leavesOk l && idxOk ind (l.length : Int) with
    | false => simp only [Bool.not_false, if_true, Bool.false_eq_true, if_false]; exact Ev.now _
    | true =>
      simp only [Bool.and_eq_true] at h
      obtain ⟨h1, h2, h3⟩ := (leavesOk_iff l).1 h.1
      obtain ⟨q1, q2, q3⟩ := idxOk_in h.2
      simp only [Bool.not_true, if_true, Bool.false_eq_true, if_false, l1Own_eq l hl, l1Own_eq ind hi, Option.bind_some]
      have := specSub_l0 l.length l (fun x => decide (x ∈ ind)) ind [] (Nat.le_refl _) h1 h2 h3 q1 (fun _ => rfl) (by have := q2 (by omega); omega) (by simp; omega)
      simpa using this
  unfold spec_ProveSubset.f
  simp only [Option.bind_some]
  refine Ev.bind (l25Leaves_ev l (by omega)) ?_
  cases h1 : leavesOk l with
  | false => simp only [Bool.false_eq_true, if_false]; exact j true (by simp [h1])
  | true =>
    simp only [if_true]
    refine Ev.bind (specIdx_ev ind (l.length : Int) (by omega) (by omega)) ?_
    exact j _ (by simp [h1])
theorem implSub_ev (l ind : List Int) (hl : l.length ≤ 1048576) (hi : ind.length ≤ 1048576) : Ev (fun k => impl_ProveSubset.f k l ind) (proveSub l ind) := by
  have j (c : Bool) (hc : c = !(leavesOk l && idxOk ind (l.length : Int))) : Ev (fun k => impl_ProveSubset.j0 k l ind c) (proveSub l ind) := by
    subst hc
    unfold proveSub
    refine Ev.step (fun k => by simp only [impl_ProveSubset.j0]; rfl) ?_
    cases h : leavesOk l && idxOk ind (l.length : Int) with
    | false => simp only [Bool.not_false, if_true, Bool.false_eq_true, if_false]; exact Ev.now _
    | true =>
      simp only [Bool.and_eq_true] at h
      obtain ⟨h1, h2, h3⟩ := (leavesOk_iff l).1 h.1
      obtain ⟨q1, q2, q3⟩ := idxOk_in h.2
      obtain ⟨p1, p2, p3⟩ := levels_last l.length l (Nat.le_refl _) h1
      simp only [Bool.not_true, if_true, Bool.false_eq_true, if_false]
      refine implSub_l0 l ind (fun x hx => by have := q1 x (by simpa using hx); omega) (by have := q2 (by omega); omega) _ ind 0 [] rfl (by simp) (fun x => by simp [mB]) (fun L' hL' => ?_)
      refine Ev.bind (levelsOf_ev l h.1) ?_
      have := implSub_l1 l.length (levelsL l) (by omega) l (fun x => decide (x ∈ ind)) L' [] 0 rfl (Nat.le_refl _) h1 h2 q1 hL' (by simp; omega)
      simpa using this
  unfold impl_ProveSubset.f
  refine Ev.bind (areLeaves_ev l (by omega)) ?_
  cases h1 : leavesOk l with
  | false => simp only [Bool.false_eq_true, if_false]; exact j true (by simp [h1])
  | true =>
    simp only [if_true]
    refine Ev.bind (implIdx_ev ind (l.length : Int) (by omega) (by omega)) ?_
    exact j _ (by simp [h1])
theorem proveSub_len (l ind : List Int) : (proveSub l ind).1.length ≤ l.length := by
  unfold proveSub; split
  · exact provS_len _ l _ (Nat.le_refl _)
  · simp

theorem set_mid {α : Type} (d : List α) (x v : α) (r : List α) : (d ++ x :: r).set d.length v = d ++ v :: r := by
  induction d with
  | nil => rfl
  | cons y d ih => simp [ih]
theorem app_one {α : Type} (d : List α) (v : α) (r : List α) : d ++ v :: r = (d ++ [v]) ++ r := by simp
theorem rdI_mid (d : List Int) (x : Int) (r : List Int) : rd (d ++ x :: r) (d.length : Int) = x := by simp [rd]
def seqF : Int → Nat → List Int
  | _, 0 => []
  | c, n + 1 => c :: seqF (c + 1) n
theorem seqF_len : ∀ (n : Nat) (c : Int), (seqF c n).length = n
  | 0, _ => rfl
  | n + 1, c => by simp [seqF, seqF_len n]
theorem mkInt_l0 : ∀ (r d : List Int) (c : Int), 0 ≤ c → c + r.length ≤ 1000000000000000 → (r.length : Int) + d.length ≤ 1000000000000000 → Ev (fun k => laws_markIntS.l0 k (d ++ r) c (d.length : Int)) (c + (r.length : Int), d ++ seqF c r.length)
  | [], d, c, h0, h1, h2 => by
    refine Ev.step (fun k => by simp only [laws_markIntS.l0]; rfl) ?_
    simp only [List.append_nil, Int.lt_irrefl, if_false]
    exact Ev.some (by simp [seqF])
  | x :: r, d, c, h0, h1, h2 => by
    have hl : ((x :: r).length : Int) = (r.length : Int) + 1 := by simp
    have ih := mkInt_l0 r (d ++ [c]) (c + 1) (by omega) (by omega) (by simp only [List.length_append, List.length_singleton]; omega)
    refine Ev.step (fun k => by simp only [laws_markIntS.l0]; rfl) ?_
    simp only [if_pos (show (d.length : Int) < ((d ++ x :: r).length : Int) by simp only [List.length_append]; omega), if_pos (show (0 : Int) ≤ (d.length : Int) by omega), Int.toNat_natCast, set_mid, wrap_in (show -9223372036854775808 ≤ c + 1 by omega) (by omega), wrap_in (show -9223372036854775808 ≤ (d.length : Int) + 1 by omega) (by omega)]
    rw [app_one d c r, show (d.length : Int) + 1 = ((d ++ [c]).length : Int) by simp, hl, show c + ((r.length : Int) + 1) = c + 1 + (r.length : Int) by omega, show (x :: r).length = r.length + 1 from rfl, seqF, app_one d c (seqF (c + 1) r.length)]
    exact ih
theorem heInt_l0 : ∀ (n : Nat) (d : List Int) (c : Int), 0 ≤ c → c + n ≤ 1000000000000000 → (n : Int) + d.length ≤ 1000000000000000 → Ev (fun k => laws_heldIntS.l0 k (d ++ seqF c n) c (d.length : Int)) (c + (n : Int))
  | 0, d, c, h0, h1, h2 => by
    refine Ev.step (fun k => by simp only [laws_heldIntS.l0]; rfl) ?_
    simp only [seqF, List.append_nil, Int.lt_irrefl, if_false]
    exact Ev.some (by simp)
  | n + 1, d, c, h0, h1, h2 => by
    have ih := heInt_l0 n (d ++ [c]) (c + 1) (by omega) (by omega) (by simp only [List.length_append, List.length_singleton]; omega)
    refine Ev.step (fun k => by simp only [laws_heldIntS.l0]; rfl) ?_
    simp only [seqF, if_pos (show (d.length : Int) < ((d ++ c :: seqF (c + 1) n).length : Int) by simp only [List.length_append, List.length_cons]; omega), if_pos (show (0 : Int) ≤ (d.length : Int) by omega), rdI_mid, if_true, wrap_in (show -9223372036854775808 ≤ c + 1 by omega) (by omega), wrap_in (show -9223372036854775808 ≤ (d.length : Int) + 1 by omega) (by omega)]
    rw [app_one d c, show (d.length : Int) + 1 = ((d ++ [c]).length : Int) by simp, show c + ((n + 1 : Nat) : Int) = c + 1 + (n : Int) by omega]
    exact ih
/-- Numbers are marked, and hold their marks. -/
theorem markI_ev (l : List Int) (c : Int) (h0 : 0 ≤ c) (h1 : c + l.length ≤ 1000000000000000) : Ev (fun k => laws_markIntS.f k l c) (c + (l.length : Int), seqF c l.length) ∧ Ev (fun k => laws_heldIntS.f k (seqF c l.length) c) (c + (l.length : Int)) := by
  refine ⟨?_, ?_⟩
  · unfold laws_markIntS.f; simpa using mkInt_l0 l [] c h0 h1 (by simp only [List.length_nil]; omega)
  · unfold laws_heldIntS.f; simpa using heInt_l0 l.length [] c h0 h1 (by simp only [List.length_nil]; omega)

theorem FnExactProveSubset : XGFnExactProveSubset.Pure := by
  intro l ind hl hi
  refine Ev.rounds ?_
  unfold laws_FnExactProveSubset.f
  by_cases h1 : (l.length : Int) > 1048576
  · simp only [if_pos h1]; exact Ev.now _
  by_cases h2 : (ind.length : Int) > 1048576
  · simp only [if_neg h1, if_pos h2]; exact Ev.now _
  simp only [if_neg h1, if_neg h2]
  have hlen := proveSub_len l ind
  refine Ev.bind (toInts_ev l (by omega)) ?_
  refine Ev.bind (toInts_ev ind (by omega)) ?_
  refine Ev.bind (specSub_ev l ind (by omega) (by omega)) ?_
  refine Ev.bind (toInts_ev l (by omega)) ?_
  refine Ev.bind (toInts_ev ind (by omega)) ?_
  refine Ev.bind (implSub_ev l ind (by omega) (by omega)) ?_
  refine Ev.bind (eqInts_ev _ (by omega)) ?_
  simp only [if_true, bne_self_eq_false]
  refine Ev.step (fun k => by simp only [laws_FnExactProveSubset.j0]; rfl) ?_
  simp only [Bool.false_eq_true, if_false]
  refine Ev.bind (toInts_ev l (by omega)) ?_
  refine Ev.bind (eqInts_ev l (by omega)) ?_
  simp only [if_true]
  refine Ev.bind (toInts_ev ind (by omega)) ?_
  refine Ev.bind (eqInts_ev ind (by omega)) ?_
  simp only [if_true]
  refine Ev.bind (markI_ev l 1 (by omega) (by omega)).1 ?_
  refine Ev.bind (markI_ev ind (1 + (l.length : Int)) (by omega) (by omega)).1 ?_
  simp only [if_neg (show ¬ (1 : Int) + (l.length : Int) + (ind.length : Int) < 0 by omega)]
  refine Ev.bind (eqInts_ev _ (by omega)) ?_
  simp only [if_true, bne_self_eq_false]
  refine Ev.step (fun k => by simp only [laws_FnExactProveSubset.j1]; rfl) ?_
  simp only [Bool.false_eq_true, if_false]
  obtain ⟨hs, hh⟩ := markI_ev (proveSub l ind).1 1 (by omega) (by omega)
  refine Ev.bind hs ?_
  refine Ev.bind hh ?_
  simp only [if_neg (show ¬ (1 : Int) + ((proveSub l ind).1.length : Int) < 0 by omega), if_true]
  refine Ev.bind (toInts_ev l (by omega)) ?_
  refine Ev.bind (toInts_ev ind (by omega)) ?_
  refine Ev.bind (implSub_ev l ind (by omega) (by omega)) ?_
  refine Ev.bind (eqInts_ev _ (by omega)) ?_
  simp only [if_true, bne_self_eq_false]
  refine Ev.step (fun k => by simp only [laws_FnExactProveSubset.j2]; rfl) ?_
  simp only [Bool.false_eq_true, if_false]
  refine Ev.bind hh ?_
  simp only [if_neg (show ¬ (1 : Int) + ((proveSub l ind).1.length : Int) < 0 by omega), if_true]
  exact Ev.now _

end Go.Proofs.YtnfmlglhoboooaaDoor.Pure

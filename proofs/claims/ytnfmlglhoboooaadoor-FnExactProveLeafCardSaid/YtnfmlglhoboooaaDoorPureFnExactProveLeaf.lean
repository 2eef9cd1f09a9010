/- The pure statement of the law FnExactProveLeaf, proved: what the program computes agrees with the reference, in plain Lean. -/
import Derived.Test.YtnfmlglhoboooaaDoorXGFnExactProveLeaf
import Derived.Test.YtnfmlglhoboooaaDoorXPlain
import Derived.Lib.ItoaLen
set_option linter.unusedVariables false
set_option linter.unusedSimpArgs false
namespace Go.Proofs.YtnfmlglhoboooaaDoor.Pure
open Go.RowKit Go.Proofs.YtnfmlglhoboooaaDoor Go.Proofs.YtnfmlglhoboooaaDoor.XFnExactProveLeaf Go.Proofs.YtnfmlglhoboooaaDoor.XGFnExactProveLeaf Go.Proofs.YtnfmlglhoboooaaDoorW.PrintWords Go.Proofs.YtnfmlglhoboooaaDoorW.PrintLast Go.Proofs.YtnfmlglhoboooaaDoor.Plain

theorem l1In_eq (a b c : Int) : spec_l1In.f a b c = some (decide (b ≤ a) && decide (a ≤ c)) := by
  unfold spec_l1In.f
  by_cases h : a ≥ b
  · rw [if_pos h, decide_eq_true (show b ≤ a from h), Bool.true_and]
  · rw [if_neg h, decide_eq_false (show ¬ b ≤ a from h), Bool.false_and]
theorem within_eq (a b c : Int) : impl_within.f a b c = some (decide (b ≤ a) && decide (a ≤ c)) := by
  unfold impl_within.f
  by_cases h : a ≥ b
  · rw [if_pos h, decide_eq_true (show b ≤ a from h), Bool.true_and]
  · rw [if_neg h, decide_eq_false (show ¬ b ≤ a from h), Bool.false_and]

def itoaB (n : Int) : ByteArray := ⟨(Lib.itoa n).toArray⟩
theorem size_of_list (l : List UInt8) : (⟨l.toArray⟩ : ByteArray).size = l.length := by simp [ByteArray.size]
theorem digit_cut (u : Fin 10) : (⟨#[48, 49, 50, 51, 52, 53, 54, 55, 56, 57]⟩ : ByteArray).extract u.val (u.val + 1) = ⟨[UInt8.ofNat (48 + u.val)].toArray⟩ := by
  revert u; decide +kernel
theorem append_lists (a b : List UInt8) : (⟨a.toArray⟩ : ByteArray) ++ ⟨b.toArray⟩ = ⟨(a ++ b).toArray⟩ := by
  apply ByteArray.ext
  simp
theorem num_nat (u : Nat) : u ≤ 9223372036854775807 → Ev (fun k => spec_l1Num.f k u) ⟨(Lib.decDigits u).toArray⟩ := by
  induction u using Nat.strongRecOn with
  | _ u ih =>
  intro hu
  refine Ev.step (fun k => by simp only [spec_l1Num.f]; rfl) ?_
  simp only [if_neg (show ¬ (u : Int) < 0 by omega)]
  by_cases h : u < 10
  · simp only [if_pos (show (u : Int) < 10 by omega), if_pos (show (0 : Int) ≤ u by omega), wrap_in (show -9223372036854775808 ≤ (u : Int) + 1 by omega) (by omega), if_pos (show (u : Int) ≤ u + 1 by omega), if_pos (show (u : Int) + 1 ≤ 10 by omega)]
    refine Ev.some ?_
    rw [Lib.decDigits_one h, Int.toNat_natCast, show ((u : Int) + 1).toNat = u + 1 by omega]
    exact digit_cut ⟨u, h⟩
  · have hd : Int.tdiv (u : Int) 10 = ((u / 10 : Nat) : Int) := by rw [Int.tdiv_eq_ediv_of_nonneg (by omega)]; omega
    have hm : Int.tmod (u : Int) 10 = ((u % 10 : Nat) : Int) := by rw [Int.tmod_eq_emod_of_nonneg (by omega)]; omega
    have h10 : u % 10 < 10 := Nat.mod_lt _ (by decide)
    simp only [if_neg (show ¬ (u : Int) < 10 by omega), hd, hm, wrap_in (show -9223372036854775808 ≤ ((u / 10 : Nat) : Int) by omega) (by omega)]
    refine Ev.bind (ih (u / 10) (by omega) (by omega)) ?_
    have hl : (Lib.decDigits (u / 10)).length ≤ 20 := by rw [Lib.decDigits_length]; exact Lib.nDigits_le20 _ (by omega)
    have e : Lib.decDigits u = Lib.decDigits (u / 10) ++ [UInt8.ofNat (48 + u % 10)] := by rw [Lib.decDigits, dif_neg h]
    simp only [if_pos (show (0 : Int) ≤ ((u % 10 : Nat) : Int) by omega), wrap_in (show -9223372036854775808 ≤ ((u % 10 : Nat) : Int) + 1 by omega) (by omega), if_pos (show ((u % 10 : Nat) : Int) ≤ ((u % 10 : Nat) : Int) + 1 by omega), if_pos (show ((u % 10 : Nat) : Int) + 1 ≤ 10 by omega), Int.toNat_natCast, show (((u % 10 : Nat) : Int) + 1).toNat = u % 10 + 1 by omega, size_of_list]
    rw [if_pos (show (Lib.decDigits (u / 10)).length + (u % 10 + 1 - u % 10) ≤ 9223372036854775807 by omega)]
    refine Ev.some ?_
    rw [e, digit_cut ⟨u % 10, h10⟩, append_lists]
theorem num_ev (n : Int) (h0 : -9223372036854775807 ≤ n) (h1 : n ≤ 9223372036854775807) : Ev (fun k => spec_l1Num.f k n) (itoaB n) := by
  unfold itoaB
  by_cases h : n < 0
  · obtain ⟨u, rfl⟩ : ∃ u : Nat, n = -(u : Int) := ⟨n.natAbs, by omega⟩
    refine Ev.step (fun k => by simp only [spec_l1Num.f]; rfl) ?_
    simp only [if_pos h, Int.neg_neg, wrap_in (show -9223372036854775808 ≤ (u : Int) by omega) (by omega)]
    refine Ev.bind (num_nat u (by omega)) ?_
    have hl : (Lib.decDigits u).length ≤ 20 := by rw [Lib.decDigits_length]; exact Lib.nDigits_le20 _ (by omega)
    rw [if_pos (by rw [size_of_list]; omega)]
    refine Ev.some ?_
    rw [Lib.itoa_neg u (by omega)]
    exact append_lists [45] _
  · obtain ⟨u, rfl⟩ : ∃ u : Nat, n = (u : Int) := ⟨n.toNat, by omega⟩
    rw [Lib.itoa_nonneg]
    exact num_nat u (by omega)
theorem itoaB_size (n : Int) (h0 : -9223372036854775808 ≤ n) (h1 : n ≤ 9223372036854775807) : (itoaB n).size ≤ 21 := by
  unfold itoaB
  rw [size_of_list]
  exact Lib.itoa_length_le n h0 h1
theorem decimal_eq (n : Int) (h0 : -9223372036854775808 ≤ n) (h1 : n ≤ 9223372036854775807) : impl_decimal.f n = some (itoaB n) := by
  unfold impl_decimal.f strconv_Itoa.f
  rw [if_pos ⟨h0, h1⟩]
  rfl

def sumStep (h : Int) (b : UInt8) : Int := (41 * h + (b.toNat : Int) + 1) % 999979
def sumL (l : List UInt8) (h : Int) : Int := l.foldl sumStep h
theorem sumStep_in (h : Int) (b : UInt8) : 0 ≤ sumStep h b ∧ sumStep h b ≤ 999978 := by unfold sumStep; omega
theorem sumL_in (l : List UInt8) (h : Int) (h0 : 0 ≤ h ∧ h ≤ 999978) : 0 ≤ sumL l h ∧ sumL l h ≤ 999978 := by
  induction l generalizing h with
  | nil => exact h0
  | cons b l ih => exact ih _ (sumStep_in h b)
theorem sum_wrap (h : Int) (b : UInt8) (h0 : 0 ≤ h ∧ h ≤ 999978) : Int.tmod (wrap64 ((wrap64 ((wrap64 (41 * h)) + (wrap64 (b.toNat : Int)))) + 1)) 999979 = sumStep h b := by
  have hb := byte_le b
  rw [wrap_in (show -9223372036854775808 ≤ 41 * h by omega) (by omega), wrap_byte, wrap_in (show -9223372036854775808 ≤ 41 * h + (b.toNat : Int) by omega) (by omega), wrap_in (show -9223372036854775808 ≤ 41 * h + (b.toNat : Int) + 1 by omega) (by omega), Int.tmod_eq_emod_of_nonneg (by omega)]
  rfl
theorem sum_ev (s : ByteArray) (hs : s.size ≤ 9223372036854775807) : Ev (fun k => spec_l1Sum.f k s) (sumL s.data.toList 7) := by
  unfold spec_l1Sum.f
  have := bytes_ind0 s (fun i rest => ∀ h : Int, 0 ≤ h ∧ h ≤ 999978 → Ev (fun k => spec_l1Sum.l0 k s h i) (sumL rest h)) ?_ ?_
  · exact this 7 (by decide)
  · intro h _
    refine Ev.step (fun k => by simp only [spec_l1Sum.l0]; rfl) ?_
    simp only [Int.lt_irrefl, if_false]
    exact Ev.now _
  · intro i b rest hi hb hd ih h hh
    refine Ev.step (fun k => by simp only [spec_l1Sum.l0]; rfl) ?_
    simp only [if_pos (show (i : Int) < (s.size : Int) by omega), if_pos (show (0 : Int) ≤ i by omega), hb, sum_wrap h b hh, wrap_in (show -9223372036854775808 ≤ (i : Int) + 1 by omega) (by omega)]
    exact ih _ (sumStep_in h b)
theorem checksum_ev (s : ByteArray) (hs : s.size ≤ 4000) : Ev (fun k => impl_Checksum.f k s) (sumL s.data.toList 7, true) := by
  unfold impl_Checksum.f
  simp only [if_neg (show ¬ (s.size : Int) > 4000 by omega)]
  have := bytes_ind0 s (fun i rest => ∀ h : Int, 0 ≤ h ∧ h ≤ 999978 → Ev (fun k => impl_Checksum.l0 k s h (s.size : Int) i) (sumL rest h, true)) ?_ ?_
  · exact this 7 (by decide)
  · intro h _
    refine Ev.step (fun k => by simp only [impl_Checksum.l0]; rfl) ?_
    simp only [Int.lt_irrefl, if_false]
    exact Ev.now _
  · intro i b rest hi hb hd ih h hh
    refine Ev.step (fun k => by simp only [impl_Checksum.l0]; rfl) ?_
    simp only [if_pos (show (i : Int) < (s.size : Int) by omega), if_pos (show (0 : Int) ≤ i by omega), hb, sum_wrap h b hh, wrap_in (show -9223372036854775808 ≤ (i : Int) + 1 by omega) (by omega)]
    exact ih _ (sumStep_in h b)

def pairTxt (a b : Int) : ByteArray := (((⟨#[40]⟩ : ByteArray) ++ itoaB a) ++ (⟨#[44]⟩ : ByteArray)) ++ itoaB b ++ (⟨#[41]⟩ : ByteArray)
def hashP (a b : Int) : Int := sumL (pairTxt a b).data.toList 7
theorem hashP_in (a b : Int) : 0 ≤ hashP a b ∧ hashP a b ≤ 999978 := sumL_in _ _ (by decide)
theorem pairTxt_size (a b : Int) : (pairTxt a b).size = 1 + (itoaB a).size + 1 + (itoaB b).size + 1 := by
  unfold pairTxt
  simp only [ByteArray.size_append]
  rfl
theorem l25Pair_ev (a b : Int) (ha : 0 ≤ a ∧ a ≤ 999978) (hb : 0 ≤ b ∧ b ≤ 999978) : Ev (fun k => spec_l25Pair.f k a b) (hashP a b) := by
  have sa := itoaB_size a (by omega) (by omega)
  have sb := itoaB_size b (by omega) (by omega)
  unfold spec_l25Pair.f
  refine Ev.bind (num_ev a (by omega) (by omega)) ?_
  refine ev_pos (by omega) (ev_pos (by omega) ?_)
  refine Ev.bind (num_ev b (by omega) (by omega)) ?_
  refine ev_pos (by omega) (ev_pos (by omega) ?_)
  exact Ev.bind (f := fun k t => some t) (sum_ev (pairTxt a b) (by rw [pairTxt_size]; omega)) (Ev.now _)
theorem pairHash_ev (a b : Int) (ha : 0 ≤ a ∧ a ≤ 999978) (hb : 0 ≤ b ∧ b ≤ 999978) : Ev (fun k => impl_pairHash.f k a b) (hashP a b) := by
  have sa := itoaB_size a (by omega) (by omega)
  have sb := itoaB_size b (by omega) (by omega)
  unfold impl_pairHash.f
  simp only [decimal_eq a (by omega) (by omega), decimal_eq b (by omega) (by omega), Option.bind_some]
  refine ev_pos (by omega) (ev_pos (by omega) (ev_pos (by omega) (ev_pos (by omega) ?_)))
  exact Ev.bind (f := fun k t => some t.1) (checksum_ev (pairTxt a b) (by rw [pairTxt_size]; omega)) (Ev.now _)
def inHash (a : Int) : Bool := decide (0 ≤ a) && decide (a ≤ 999978)
theorem inHash_iff (a : Int) : inHash a = true ↔ 0 ≤ a ∧ a ≤ 999978 := by unfold inHash; simp
theorem l25Hash_eq (a : Int) : spec_l25Hash.f a = some (inHash a) := by unfold spec_l25Hash.f; rw [l1In_eq]; rfl
theorem isHash_eq (a : Int) : impl_isHash.f a = some (inHash a) := by unfold impl_isHash.f; rw [within_eq]; rfl

theorem rd_drop {l : List Int} {i : Nat} {b : Int} {rest : List Int} (h : l.drop i = b :: rest) : rd l (i : Int) = b := (rd_at h).2.1
theorem toInts_ev (l : List Int) (hl : l.length ≤ 1048576) : Ev (fun k => laws_toIntS.f k l) l := by
  unfold laws_toIntS.f
  simp only [if_pos (show (0 : Int) ≤ (l.length : Int) by omega), Int.toNat_natCast, if_pos (show l.length ≤ 35184372088832 by omega)]
  have := ev_copy l id (0 : Int) (fun k out i => laws_toIntS.l0 k l out i) (fun out ho => ?_) (fun i x rest out r hi hd ho h => ?_)
  · simpa using this
  · refine Ev.step (fun k => by simp only [laws_toIntS.l0]; rfl) ?_
    simp only [Int.lt_irrefl, if_false]
    exact Ev.now _
  · refine Ev.step (fun k => by simp only [laws_toIntS.l0]; rfl) ?_
    simp only [if_pos (show (i : Int) < (l.length : Int) by omega), if_pos (show (0 : Int) ≤ i by omega), if_pos (show (i : Int) < (out.length : Int) by omega), rd_drop hd, Int.toNat_natCast, wrap_in (show -9223372036854775808 ≤ (i : Int) + 1 by omega) (by omega)]
    exact h
theorem eqInts_ev (l : List Int) (hl : l.length ≤ 1048576) : Ev (fun k => laws_eqIntS.f k l l) true := by
  unfold laws_eqIntS.f
  simp only [if_true]
  refine list_ind0 l (fun i rest => Ev (fun k => laws_eqIntS.l0 k l l i) true) ?_ ?_
  · refine Ev.step (fun k => by simp only [laws_eqIntS.l0]; rfl) ?_
    simp only [Int.lt_irrefl, if_false]
    exact Ev.now _
  · intro i x rest hi hd ih
    refine Ev.step (fun k => by simp only [laws_eqIntS.l0]; rfl) ?_
    simp only [if_pos (show (i : Int) < (l.length : Int) by omega), if_pos (show (0 : Int) ≤ i by omega), if_true, wrap_in (show -9223372036854775808 ≤ (i : Int) + 1 by omega) (by omega)]
    exact ih

theorem l25Hashes_ev (l : List Int) (hl : l.length ≤ 9223372036854775807) : Ev (fun k => spec_l25Hashes.f k l) (l.all inHash) := by
  unfold spec_l25Hashes.f
  refine list_ind0 l (fun i rest => Ev (fun k => spec_l25Hashes.l0 k l i) (rest.all inHash)) ?_ ?_
  · refine Ev.step (fun k => by simp only [spec_l25Hashes.l0]; rfl) ?_
    simp only [Int.lt_irrefl, if_false, List.all_nil]
    exact Ev.now _
  · intro i x rest hi hd ih
    refine Ev.step (fun k => by simp only [spec_l25Hashes.l0]; rfl) ?_
    simp only [if_pos (show (i : Int) < (l.length : Int) by omega), if_pos (show (0 : Int) ≤ i by omega), rd_drop hd, l25Hash_eq, Option.bind_some, wrap_in (show -9223372036854775808 ≤ (i : Int) + 1 by omega) (by omega), List.all_cons]
    cases hx : inHash x with
    | false => simp only [Bool.false_eq_true, if_false, Bool.false_and]; exact Ev.now _
    | true => simp only [if_true, Bool.true_and]; exact ih
theorem areHashes_ev (l : List Int) (hl : l.length ≤ 9223372036854775807) : Ev (fun k => impl_areHashes.f k l) (l.all inHash) := by
  have key : ∃ r : Int, Ev (fun k => slices_IndexFunc_int_int_impl_areHashes_1.f k l) r ∧ decide (r ≥ 0) = !l.all inHash := by
    unfold slices_IndexFunc_int_int_impl_areHashes_1.f
    refine list_ind0 l (fun i rest => ∃ r : Int, Ev (fun k => slices_IndexFunc_int_int_impl_areHashes_1.l0 k l (l.length : Int) i) r ∧ decide (r ≥ 0) = !rest.all inHash) ?_ ?_
    · refine ⟨-1, ?_, by simp⟩
      refine Ev.step (fun k => by simp only [slices_IndexFunc_int_int_impl_areHashes_1.l0]; rfl) ?_
      simp only [Int.lt_irrefl, if_false]
      exact Ev.now _
    · intro i x rest hi hd ih
      obtain ⟨r, hr, he⟩ := ih
      have hc : XFnExactProveLeaf.impl_areHashes_1.f x = some (!inHash x) := by unfold XFnExactProveLeaf.impl_areHashes_1.f; rw [isHash_eq]; rfl
      cases hx : inHash x with
      | false =>
        refine ⟨i, ?_, by rw [List.all_cons, hx]; simp⟩
        refine Ev.step (fun k => by simp only [slices_IndexFunc_int_int_impl_areHashes_1.l0]; rfl) ?_
        simp only [if_pos (show (i : Int) < (l.length : Int) by omega), if_pos (show (0 : Int) ≤ i by omega), rd_drop hd, hc, hx, Option.bind_some, Bool.not_false, if_true]
        exact Ev.now _
      | true =>
        refine ⟨r, ?_, by rw [List.all_cons, hx, Bool.true_and]; exact he⟩
        refine Ev.step (fun k => by simp only [slices_IndexFunc_int_int_impl_areHashes_1.l0]; rfl) ?_
        simp only [if_pos (show (i : Int) < (l.length : Int) by omega), if_pos (show (0 : Int) ≤ i by omega), rd_drop hd, hc, hx, Option.bind_some, Bool.not_true, Bool.false_eq_true, if_false, wrap_in (show -9223372036854775808 ≤ (i : Int) + 1 by omega) (by omega)]
        exact hr
  obtain ⟨r, hr, he⟩ := key
  unfold impl_areHashes.f slices_ContainsFunc_int_int_impl_areHashes_1.f
  refine Ev.bind (Ev.bind hr (Ev.now (decide (r ≥ 0)))) ?_
  refine Ev.some ?_
  rw [he, Bool.not_not]
def leavesOk (l : List Int) : Bool := (decide (1 ≤ (l.length : Int)) && decide ((l.length : Int) ≤ 32)) && l.all inHash
theorem leavesOk_iff (l : List Int) : leavesOk l = true ↔ 1 ≤ l.length ∧ l.length ≤ 32 ∧ ∀ x ∈ l, inHash x = true := by
  unfold leavesOk
  simp only [Bool.and_eq_true, decide_eq_true_eq, List.all_eq_true]
  constructor
  · rintro ⟨⟨h1, h2⟩, h3⟩; exact ⟨by omega, by omega, h3⟩
  · rintro ⟨h1, h2, h3⟩; exact ⟨⟨by omega, by omega⟩, h3⟩
theorem l25Leaves_ev (l : List Int) (hl : l.length ≤ 9223372036854775807) : Ev (fun k => spec_l25Leaves.f k l) (leavesOk l) := by
  unfold spec_l25Leaves.f leavesOk
  simp only [l1In_eq, Option.bind_some]
  cases (decide (1 ≤ (l.length : Int)) && decide ((l.length : Int) ≤ 32)) with
  | false => simp only [Bool.false_eq_true, if_false, Bool.false_and]; exact Ev.now _
  | true => simp only [if_true, Bool.true_and]; exact Ev.bind (f := fun k t => some t) (l25Hashes_ev l hl) (Ev.now _)
theorem areLeaves_ev (l : List Int) (hl : l.length ≤ 9223372036854775807) : Ev (fun k => impl_areLeaves.f k l) (leavesOk l) := by
  unfold impl_areLeaves.f leavesOk
  simp only [within_eq, Option.bind_some]
  cases (decide (1 ≤ (l.length : Int)) && decide ((l.length : Int) ≤ 32)) with
  | false => simp only [Bool.false_eq_true, if_false, Bool.false_and]; exact Ev.now _
  | true => simp only [if_true, Bool.true_and]; exact Ev.bind (f := fun k t => some t) (areHashes_ev l hl) (Ev.now _)

def upL : List Int → List Int
  | [] => []
  | [a] => [a]
  | a :: b :: r => hashP a b :: upL r
theorem upL_length : ∀ l : List Int, (upL l).length = (l.length + 1) / 2
  | [] => rfl
  | [a] => by simp [upL]
  | a :: b :: r => by
    have := upL_length r
    simp only [upL, List.length_cons, this]
    omega
theorem upL_all : ∀ l : List Int, (∀ x ∈ l, inHash x = true) → ∀ x ∈ upL l, inHash x = true
  | [], h => h
  | [a], h => h
  | a :: b :: r, h => by
    intro x hx
    simp only [upL, List.mem_cons] at hx
    rcases hx with rfl | hx
    · exact (inHash_iff _).2 (hashP_in a b)
    · exact upL_all r (fun y hy => h y (by simp [hy])) x hx
theorem drop_succ {α : Type} {l : List α} {i : Nat} {a : α} {r : List α} (h : l.drop i = a :: r) : l.drop (i + 1) = r := (getD_at (d := a) h).2.2
theorem l25Up_l0 (l : List Int) (hl : l.length ≤ 32) (ha : ∀ x ∈ l, inHash x = true) : ∀ (rest : List Int) (i : Nat) (out : List Int), l.drop i = rest → out.length ≤ i → i ≤ 33 → Ev (fun k => spec_l25Up.l0 k l out i) (out ++ upL rest)
  | [], i, out, hd, ho, hi => by
    have : l.length ≤ i := List.drop_eq_nil_iff.1 hd
    refine Ev.step (fun k => by simp only [spec_l25Up.l0]; rfl) ?_
    simp only [if_neg (show ¬ (i : Int) < (l.length : Int) by omega), upL, List.append_nil]
    exact Ev.now _
  | [a], i, out, hd, ho, hi => by
    have h1 := (getD_at (d := a) hd).1
    have h2 : l.length ≤ i + 1 := List.drop_eq_nil_iff.1 (drop_succ hd)
    refine Ev.step (fun k => by simp only [spec_l25Up.l0]; rfl) ?_
    simp only [wrap_in (show -9223372036854775808 ≤ (i : Int) + 1 by omega) (by omega), wrap_in (show -9223372036854775808 ≤ (i : Int) + 2 by omega) (by omega), if_pos (show (i : Int) < (l.length : Int) by omega), if_neg (show ¬ (i : Int) + 1 < (l.length : Int) by omega), if_pos (show (0 : Int) ≤ i by omega), if_pos (show out.length < 17592186044416 by omega), rd_drop hd]
    have := l25Up_l0 l hl ha [] (i + 2) (out ++ [a]) (List.drop_eq_nil_iff.2 (by omega)) (by simp; omega) (by omega)
    simpa [upL] using this
  | a :: b :: r, i, out, hd, ho, hi => by
    have hd1 := drop_succ hd
    have hd2 := drop_succ hd1
    have h1 := (getD_at (d := a) hd1).1
    have hA : inHash a = true := ha a (List.mem_of_mem_drop (by rw [hd]; simp))
    have hB : inHash b = true := ha b (List.mem_of_mem_drop (by rw [hd]; simp))
    have eB : rd l ((i : Int) + 1) = b := by have := rd_drop hd1; simpa using this
    refine Ev.step (fun k => by simp only [spec_l25Up.l0]; rfl) ?_
    simp only [wrap_in (show -9223372036854775808 ≤ (i : Int) + 1 by omega) (by omega), wrap_in (show -9223372036854775808 ≤ (i : Int) + 2 by omega) (by omega), if_pos (show (i : Int) < (l.length : Int) by omega), if_pos (show (i : Int) + 1 < (l.length : Int) by omega), if_pos (show (0 : Int) ≤ i by omega), if_pos (show (0 : Int) ≤ (i : Int) + 1 by omega), rd_drop hd, eB]
    refine Ev.bind (l25Pair_ev a b ((inHash_iff a).1 hA) ((inHash_iff b).1 hB)) ?_
    simp only [if_pos (show out.length < 17592186044416 by omega)]
    have := l25Up_l0 l hl ha r (i + 2) (out ++ [hashP a b]) hd2 (by simp; omega) (by omega)
    simpa [upL] using this
theorem l25Up_ev (l : List Int) (hl : l.length ≤ 32) (ha : ∀ x ∈ l, inHash x = true) : Ev (fun k => spec_l25Up.f k l) (upL l) := by
  unfold spec_l25Up.f
  have := l25Up_l0 l hl ha l 0 [] rfl (Nat.le_refl _) (by omega)
  simpa using this
theorem l1Own_eq (l : List Int) (hl : l.length ≤ 1048576) : spec_l1Own.f l = some l := by
  unfold spec_l1Own.f
  simp only [Option.bind_some, List.nil_append, List.length_nil]
  rw [if_pos (by omega)]

def levelsL (l : List Int) : List (List Int) := if h : 1 < l.length then l :: levelsL (upL l) else [l]
termination_by l.length
decreasing_by rw [upL_length]; omega
theorem levelsL_one {l : List Int} (h : ¬ 1 < l.length) : levelsL l = [l] := by rw [levelsL, dif_neg h]
theorem levelsL_more {l : List Int} (h : 1 < l.length) : levelsL l = l :: levelsL (upL l) := by rw [levelsL, dif_pos h]
theorem levelsL_cons (l : List Int) : ∃ r, levelsL l = l :: r := by
  by_cases h : 1 < l.length
  · exact ⟨_, levelsL_more h⟩
  · exact ⟨_, levelsL_one h⟩
theorem levelsOf_l1 (cur : List Int) (hl : cur.length ≤ 32) (ha : ∀ x ∈ cur, inHash x = true) (out : List (List Int)) (hout : out.length ≤ 40) (r : List (List Int)) : ∀ (rest : List Int) (i : Nat) (next : List Int), cur.drop i = rest → next.length ≤ i → i ≤ 33 →
    Ev (fun k => impl_levelsOf.l0 k (next ++ upL rest) (out ++ [next ++ upL rest])) r → Ev (fun k => impl_levelsOf.l1 k cur out next i) r
  | [], i, next, hd, ho, hi, h => by
    have : cur.length ≤ i := List.drop_eq_nil_iff.1 hd
    refine Ev.step (fun k => by simp only [impl_levelsOf.l1]; rfl) ?_
    simp only [if_neg (show ¬ (i : Int) < (cur.length : Int) by omega), if_pos (show out.length < 5864062014805 by omega)]
    simpa [upL] using h
  | [a], i, next, hd, ho, hi, h => by
    have h1 := (getD_at (d := a) hd).1
    have h2 : cur.length ≤ i + 1 := List.drop_eq_nil_iff.1 (drop_succ hd)
    refine Ev.step (fun k => by simp only [impl_levelsOf.l1]; rfl) ?_
    simp only [wrap_in (show -9223372036854775808 ≤ (i : Int) + 1 by omega) (by omega), wrap_in (show -9223372036854775808 ≤ (i : Int) + 2 by omega) (by omega), if_pos (show (i : Int) < (cur.length : Int) by omega), if_neg (show ¬ (i : Int) + 1 < (cur.length : Int) by omega), if_pos (show (0 : Int) ≤ i by omega), if_pos (show next.length < 17592186044416 by omega), rd_drop hd]
    have := levelsOf_l1 cur hl ha out hout r [] (i + 2) (next ++ [a]) (List.drop_eq_nil_iff.2 (by omega)) (by simp; omega) (by omega) (by simpa [upL] using h)
    simpa using this
  | a :: b :: r', i, next, hd, ho, hi, h => by
    have hd1 := drop_succ hd
    have hd2 := drop_succ hd1
    have h1 := (getD_at (d := a) hd1).1
    have hA : inHash a = true := ha a (List.mem_of_mem_drop (by rw [hd]; simp))
    have hB : inHash b = true := ha b (List.mem_of_mem_drop (by rw [hd]; simp))
    have eB : rd cur ((i : Int) + 1) = b := by have := rd_drop hd1; simpa using this
    refine Ev.step (fun k => by simp only [impl_levelsOf.l1]; rfl) ?_
    simp only [wrap_in (show -9223372036854775808 ≤ (i : Int) + 1 by omega) (by omega), wrap_in (show -9223372036854775808 ≤ (i : Int) + 2 by omega) (by omega), if_pos (show (i : Int) < (cur.length : Int) by omega), if_pos (show (i : Int) + 1 < (cur.length : Int) by omega), if_pos (show (0 : Int) ≤ i by omega), if_pos (show (0 : Int) ≤ (i : Int) + 1 by omega), rd_drop hd, eB]
    refine Ev.bind (pairHash_ev a b ((inHash_iff a).1 hA) ((inHash_iff b).1 hB)) ?_
    simp only [if_pos (show next.length < 17592186044416 by omega)]
    have := levelsOf_l1 cur hl ha out hout r r' (i + 2) (next ++ [hashP a b]) hd2 (by simp; omega) (by omega) (by simpa [upL] using h)
    simpa using this
theorem levelsOf_l0 (n : Nat) : ∀ (cur : List Int) (out : List (List Int)), cur.length ≤ n → cur.length ≤ 32 → (∀ x ∈ cur, inHash x = true) → out.length + cur.length ≤ 34 → Ev (fun k => impl_levelsOf.l0 k cur out) (out ++ (levelsL cur).tail) := by
  induction n with
  | zero =>
    intro cur out hn hl ha ho
    refine Ev.step (fun k => by simp only [impl_levelsOf.l0]; rfl) ?_
    simp only [if_neg (show ¬ (cur.length : Int) > 1 by omega), levelsL_one (show ¬ 1 < cur.length by omega), List.tail_cons, List.append_nil]
    exact Ev.now _
  | succ n ih =>
    intro cur out hn hl ha ho
    refine Ev.step (fun k => by simp only [impl_levelsOf.l0]; rfl) ?_
    by_cases h : 1 < cur.length
    · simp only [if_pos (show (cur.length : Int) > 1 by omega)]
      have hu := upL_length cur
      refine levelsOf_l1 cur hl ha out (by omega) _ cur 0 [] rfl (Nat.le_refl _) (by omega) ?_
      simp only [List.nil_append]
      have := ih (upL cur) (out ++ [upL cur]) (by omega) (by omega) (upL_all cur ha) (by simp; omega)
      obtain ⟨r, hr⟩ := levelsL_cons (upL cur)
      rw [levelsL_more h, List.tail_cons, hr]
      rw [hr, List.tail_cons] at this
      simpa using this
    · simp only [if_neg (show ¬ (cur.length : Int) > 1 by omega), levelsL_one h, List.tail_cons, List.append_nil]
      exact Ev.now _
theorem levelsOf_ev (l : List Int) (h : leavesOk l = true) : Ev (fun k => impl_levelsOf.f k l) (levelsL l) := by
  obtain ⟨h1, h2, h3⟩ := (leavesOk_iff l).1 h
  unfold impl_levelsOf.f
  have := levelsOf_l0 l.length l [l] (Nat.le_refl _) h2 h3 (by simp; omega)
  obtain ⟨r, hr⟩ := levelsL_cons l
  rw [hr, List.tail_cons] at this
  rw [hr]
  simpa using this
def rootL (l : List Int) : Int := if h : 1 < l.length then rootL (upL l) else rd l 0
termination_by l.length
decreasing_by rw [upL_length]; omega
theorem rootL_one {l : List Int} (h : ¬ 1 < l.length) : rootL l = rd l 0 := by rw [rootL, dif_neg h]
theorem rootL_more {l : List Int} (h : 1 < l.length) : rootL l = rootL (upL l) := by rw [rootL, dif_pos h]
theorem levels_last (n : Nat) : ∀ l : List Int, l.length ≤ n → 1 ≤ l.length → 0 < ((levelsL l).getD ((levelsL l).length - 1) []).length ∧ rd ((levelsL l).getD ((levelsL l).length - 1) []) 0 = rootL l ∧ (levelsL l).length ≤ n := by
  induction n with
  | zero => intro l h1 h2; omega
  | succ n ih =>
    intro l h1 h2
    by_cases h : 1 < l.length
    · have hu := upL_length l
      obtain ⟨i1, i2, i3⟩ := ih (upL l) (by omega) (by omega)
      obtain ⟨r, hr⟩ := levelsL_cons (upL l)
      rw [levelsL_more h, rootL_more h]
      have e : (l :: levelsL (upL l)).getD ((l :: levelsL (upL l)).length - 1) [] = (levelsL (upL l)).getD ((levelsL (upL l)).length - 1) [] := by
        rw [hr]; simp
      rw [e]
      exact ⟨i1, i2, by simp; omega⟩
    · rw [levelsL_one h, rootL_one h]
      simp
      omega

theorem markInts_l0 : ∀ (m : Nat) (x : List Int) (i : Nat), i + m = x.length → x.length ≤ 1048576 → ∃ x', Ev (fun k => laws_markIntS.l0 k x (1 + (i : Int)) (i : Int)) (1 + (x.length : Int), x')
  | 0, x, i, h, hl => by
    refine ⟨x, ?_⟩
    refine Ev.step (fun k => by simp only [laws_markIntS.l0]; rfl) ?_
    simp only [if_neg (show ¬ (i : Int) < (x.length : Int) by omega)]
    exact Ev.some (by rw [show (i : Int) = x.length by omega])
  | m + 1, x, i, h, hl => by
    obtain ⟨x', hx'⟩ := markInts_l0 m (x.set i (1 + (i : Int))) (i + 1) (by simp; omega) (by simpa using hl)
    refine ⟨x', ?_⟩
    refine Ev.step (fun k => by simp only [laws_markIntS.l0]; rfl) ?_
    simp only [if_pos (show (i : Int) < (x.length : Int) by omega), if_pos (show (0 : Int) ≤ i by omega), Int.toNat_natCast, wrap_in (show -9223372036854775808 ≤ (i : Int) + 1 by omega) (by omega), wrap_in (show -9223372036854775808 ≤ 1 + (i : Int) + 1 by omega) (by omega)]
    simpa [Int.add_assoc] using hx'
theorem markInts_ev (l : List Int) (hl : l.length ≤ 1048576) : ∃ l', Ev (fun k => laws_markIntS.f k l 1) (1 + (l.length : Int), l') := by
  unfold laws_markIntS.f
  simpa using markInts_l0 l.length l 0 (by simp) hl
theorem take_set_at {α : Type} (x : List α) (i : Nat) (v : α) (h : i < x.length) : (x.set i v).take (i + 1) = x.take i ++ [v] := by
  rw [List.take_succ_eq_append_getElem (by simpa using h)]
  simp [List.take_set_of_le]

theorem eqSteps_ev (l : List S74) (hl : l.length ≤ 1048576) : Ev (fun k => laws_eqProofStepS.f k l l) true := by
  unfold laws_eqProofStepS.f
  simp only [if_true]
  refine list_ind0 l (fun i rest => Ev (fun k => laws_eqProofStepS.l0 k l l i) true) ?_ ?_
  · refine Ev.step (fun k => by simp only [laws_eqProofStepS.l0]; rfl) ?_
    simp only [Int.lt_irrefl, if_false]
    exact Ev.now _
  · intro i x rest hi hd ih
    refine Ev.step (fun k => by simp only [laws_eqProofStepS.l0]; rfl) ?_
    simp only [if_pos (show (i : Int) < (l.length : Int) by omega), if_pos (show (0 : Int) ≤ i by omega), laws_eqProofStep.f, Option.bind_some, if_true, bne_self_eq_false, Bool.false_eq_true, if_false, wrap_in (show -9223372036854775808 ≤ (i : Int) + 1 by omega) (by omega)]
    exact ih

def stepMark (i : Nat) : S74 := ⟨1 + 2 * (i : Int), (Int.tmod (1 + 2 * (i : Int) + 1) 3) == 0⟩
def stepMarks (n : Nat) : List S74 := (List.range n).map stepMark
theorem stepMarks_at {n i : Nat} (h : i < n) : rd_T74 (stepMarks n) (i : Int) = stepMark i := by
  rw [rd_T74, Int.toNat_natCast, stepMarks]
  simp [h]
theorem rdT_set (x : List S74) (i : Nat) (v : S74) (h : i < x.length) : rd_T74 (x.set i v) (i : Int) = v := by
  rw [rd_T74, Int.toNat_natCast]
  simp [h]
theorem markSteps_l0 : ∀ (m : Nat) (x : List S74) (i : Nat), i + m = x.length → x.length ≤ 1048576 → x.take i = stepMarks i → Ev (fun k => laws_markProofStepS.l0 k x (1 + 2 * (i : Int)) (i : Int)) (1 + 2 * (x.length : Int), stepMarks x.length)
  | 0, x, i, h, hl, hx => by
    refine Ev.step (fun k => by simp only [laws_markProofStepS.l0]; rfl) ?_
    simp only [if_neg (show ¬ (i : Int) < (x.length : Int) by omega)]
    have e : i = x.length := by omega
    subst e
    rw [List.take_length] at hx
    exact Ev.some (by rw [← hx])
  | m + 1, x, i, h, hl, hx => by
    have := markSteps_l0 m (x.set i (stepMark i)) (i + 1) (by simp; omega) (by simpa using hl) (by rw [take_set_at x i _ (by omega), hx, stepMarks, stepMarks, List.range_succ, List.map_append]; rfl)
    refine Ev.step (fun k => by simp only [laws_markProofStepS.l0]; rfl) ?_
    simp only [if_pos (show (i : Int) < (x.length : Int) by omega), if_pos (show (0 : Int) ≤ i by omega), Int.toNat_natCast, Option.bind_some, List.set_set, rdT_set x i _ (show i < x.length by omega), wrap_in (show -9223372036854775808 ≤ (i : Int) + 1 by omega) (by omega), wrap_in (show -9223372036854775808 ≤ 1 + 2 * (i : Int) + 1 by omega) (by omega), wrap_in (show -9223372036854775808 ≤ 1 + 2 * (i : Int) + 1 + 1 by omega) (by omega)]
    rw [show 1 + 2 * (i : Int) + 1 + 1 = 1 + 2 * ((i + 1 : Nat) : Int) by omega]
    simpa [stepMark] using this
theorem heldSteps_l0 (n : Nat) (hl : n ≤ 1048576) : ∀ (m i : Nat), i + m = n → Ev (fun k => laws_heldProofStepS.l0 k (stepMarks n) (1 + 2 * (i : Int)) (i : Int)) (1 + 2 * (n : Int))
  | 0, i, h => by
    have e : ((stepMarks n).length : Int) = n := by simp [stepMarks]
    refine Ev.step (fun k => by simp only [laws_heldProofStepS.l0]; rfl) ?_
    simp only [e, if_neg (show ¬ (i : Int) < (n : Int) by omega)]
    exact Ev.some (by rw [show (i : Int) = n by omega])
  | m + 1, i, h => by
    have e : ((stepMarks n).length : Int) = n := by simp [stepMarks]
    have := heldSteps_l0 n hl m (i + 1) (by omega)
    refine Ev.step (fun k => by simp only [laws_heldProofStepS.l0]; rfl) ?_
    simp only [e, if_pos (show (i : Int) < (n : Int) by omega), if_pos (show (0 : Int) ≤ i by omega), stepMarks_at (show i < n by omega), stepMark, if_true, wrap_in (show -9223372036854775808 ≤ (i : Int) + 1 by omega) (by omega), wrap_in (show -9223372036854775808 ≤ 1 + 2 * (i : Int) + 1 by omega) (by omega), wrap_in (show -9223372036854775808 ≤ 1 + 2 * (i : Int) + 1 + 1 by omega) (by omega), bne_self_eq_false, Bool.false_eq_true, if_false]
    rw [show 1 + 2 * (i : Int) + 1 + 1 = 1 + 2 * ((i + 1 : Nat) : Int) by omega]
    simpa using this
theorem markSteps_ev (l : List S74) (hl : l.length ≤ 1048576) : ∃ s c, ¬ c < (0 : Int) ∧ Ev (fun k => laws_markProofStepS.f k l 1) (c, s) ∧ Ev (fun k => laws_heldProofStepS.f k s 1) c := by
  refine ⟨stepMarks l.length, 1 + 2 * (l.length : Int), by omega, ?_, ?_⟩
  · unfold laws_markProofStepS.f
    simpa using markSteps_l0 l.length l 0 (by simp) hl (by simp [stepMarks])
  · unfold laws_heldProofStepS.f
    simpa using heldSteps_l0 l.length hl l.length 0 (by simp)

theorem partner_range (i : Int) (h0 : 0 ≤ i) (h1 : i < 64) : 0 ≤ Go.bits .xor .i64 i 1 ∧ Go.bits .xor .i64 i 1 ≤ 63 := by
  obtain ⟨n, rfl⟩ := Int.eq_ofNat_of_zero_le h0
  have h : n < 64 := by omega
  clear h0 h1
  revert n
  decide
/-- The steps from a leaf upwards. -/
def proveL (l : List Int) (i : Int) : List S74 :=
  if h : 1 < l.length then (if Go.bits .xor .i64 i 1 < (l.length : Int) then [⟨rd l (Go.bits .xor .i64 i 1), decide (Go.bits .xor .i64 i 1 < i)⟩] else []) ++ proveL (upL l) (wrap64 (Int.tdiv i 2)) else []
termination_by l.length
decreasing_by rw [upL_length]; omega
theorem proveL_one {l : List Int} (h : ¬ 1 < l.length) (i : Int) : proveL l i = [] := by rw [proveL, dif_neg h]
theorem proveL_more {l : List Int} (h : 1 < l.length) (i : Int) : proveL l i = (if Go.bits .xor .i64 i 1 < (l.length : Int) then [⟨rd l (Go.bits .xor .i64 i 1), decide (Go.bits .xor .i64 i 1 < i)⟩] else []) ++ proveL (upL l) (wrap64 (Int.tdiv i 2)) := by rw [proveL, dif_pos h]
theorem half_range (i : Int) (h0 : 0 ≤ i) (n : Nat) (h1 : i < (n : Int)) (hn : n ≤ 64) : 0 ≤ wrap64 (Int.tdiv i 2) ∧ wrap64 (Int.tdiv i 2) < ((n + 1) / 2 : Nat) := by
  have e : Int.tdiv i 2 = i / 2 := Int.tdiv_eq_ediv_of_nonneg h0
  rw [e, wrap_in (by omega) (by omega)]
  omega
theorem proveL_len (n : Nat) : ∀ (l : List Int) (i : Int), l.length ≤ n → (proveL l i).length ≤ n := by
  induction n with
  | zero => intro l i h; rw [proveL_one (by omega)]; simp
  | succ n ih =>
    intro l i h
    by_cases h1 : 1 < l.length
    · have hu := upL_length l
      have := ih (upL l) (wrap64 (Int.tdiv i 2)) (by omega)
      rw [proveL_more h1, List.length_append]
      have : (if Go.bits .xor .i64 i 1 < (l.length : Int) then ([⟨rd l (Go.bits .xor .i64 i 1), decide (Go.bits .xor .i64 i 1 < i)⟩] : List S74) else []).length ≤ 1 := by split <;> simp
      omega
    · rw [proveL_one h1]; simp
theorem specProve_l0 (n : Nat) : ∀ (l : List Int) (i : Int) (out : List S74), l.length ≤ n → l.length ≤ 32 → (∀ x ∈ l, inHash x = true) → 0 ≤ i → i < (l.length : Int) → out.length + l.length ≤ 100 → Ev (fun k => spec_ProveLeaf.l0 k i out l) (out ++ proveL l i, true) := by
  induction n with
  | zero => intro l i out h1 h2 h3 h4 h5; omega
  | succ n ih =>
    intro l i out h1 h2 h3 h4 h5 h6
    refine Ev.step (fun k => by simp only [spec_ProveLeaf.l0]; rfl) ?_
    by_cases h : 1 < l.length
    · have hu := upL_length l
      obtain ⟨b1, b2⟩ := half_range i h4 l.length h5 (by omega)
      obtain ⟨p1, p2⟩ := partner_range i h4 (by omega)
      simp only [if_pos (show (l.length : Int) > 1 by omega)]
      rw [proveL_more h]
      by_cases hp : Go.bits .xor .i64 i 1 < (l.length : Int)
      · simp only [if_pos hp, if_pos p1, if_pos (show out.length < 8796093022208 by omega)]
        refine Ev.bind (l25Up_ev l h2 h3) ?_
        have := ih (upL l) (wrap64 (Int.tdiv i 2)) (out ++ [⟨rd l (Go.bits .xor .i64 i 1), decide (Go.bits .xor .i64 i 1 < i)⟩]) (by omega) (by omega) (upL_all l h3) b1 (by rw [hu]; exact b2) (by simp; omega)
        simpa using this
      · simp only [if_neg hp]
        refine Ev.bind (l25Up_ev l h2 h3) ?_
        have := ih (upL l) (wrap64 (Int.tdiv i 2)) out (by omega) (by omega) (upL_all l h3) b1 (by rw [hu]; exact b2) (by omega)
        simpa using this
    · simp only [if_neg (show ¬ (l.length : Int) > 1 by omega), proveL_one h, List.append_nil]
      exact Ev.now _
theorem implProve_l0 (n : Nat) (all : List (List Int)) (hall : all.length ≤ 64) : ∀ (l : List Int) (i : Int) (out : List S74) (j : Nat), all.drop j = levelsL l → l.length ≤ n → l.length ≤ 32 → 0 ≤ i → i < (l.length : Int) → out.length + l.length ≤ 100 → Ev (fun k => impl_ProveLeaf.l0 k i out all (all.length : Int) (j : Int)) (out ++ proveL l i, true) := by
  induction n with
  | zero => intro l i out j hd h1 h2 h4 h5; omega
  | succ n ih =>
    intro l i out j hd h1 h2 h4 h5 h6
    obtain ⟨b1, b2⟩ := half_range i h4 l.length h5 (by omega)
    obtain ⟨p1, p2⟩ := partner_range i h4 (by omega)
    obtain ⟨r, hr⟩ := levelsL_cons l
    have hd' := hd; rw [hr] at hd'
    have hg := getD_at (d := []) hd'
    have rj : rd_L1 all (j : Int) = l := by unfold rd_L1; rw [Int.toNat_natCast]; exact hg.2.1
    refine Ev.step (fun k => by simp only [impl_ProveLeaf.l0]; rfl) ?_
    simp only [if_pos (show (j : Int) < (all.length : Int) by have := hg.1; omega), if_pos (show (0 : Int) ≤ (j : Int) by omega), rj, wrap_in (show -9223372036854775808 ≤ (j : Int) + 1 by omega) (by have := hg.1; omega)]
    by_cases h : 1 < l.length
    · have hu := upL_length l
      have ht : all.drop (j + 1) = levelsL (upL l) := by
        rw [hg.2.2]; rw [levelsL_more h] at hr; exact (List.cons.inj hr).2.symm
      rw [proveL_more h]
      by_cases hp : Go.bits .xor .i64 i 1 < (l.length : Int)
      · simp only [if_pos hp, if_pos p1, if_pos (show out.length < 8796093022208 by omega)]
        have := ih (upL l) (wrap64 (Int.tdiv i 2)) (out ++ [⟨rd l (Go.bits .xor .i64 i 1), decide (Go.bits .xor .i64 i 1 < i)⟩]) (j + 1) ht (by omega) (by omega) b1 (by rw [hu]; exact b2) (by simp; omega)
        simpa using this
      · simp only [if_neg hp]
        have := ih (upL l) (wrap64 (Int.tdiv i 2)) out (j + 1) ht (by omega) (by omega) b1 (by rw [hu]; exact b2) (by omega)
        simpa using this
    · have hl1 : l.length = 1 := by omega
      have i0 : i = 0 := by omega
      subst i0
      have e1 : Go.bits .xor .i64 0 1 = 1 := by decide
      have ht : all.length ≤ j + 1 := by
        have h' := hg.2.2
        rw [levelsL_one h] at hr
        rw [← (List.cons.inj hr).2] at h'
        exact List.drop_eq_nil_iff.1 h'
      simp only [e1, hl1, if_neg (show ¬ (1 : Int) < ((1 : Nat) : Int) by omega), proveL_one h, List.append_nil]
      refine Ev.step (fun k => by simp only [impl_ProveLeaf.l0]; rfl) ?_
      simp only [if_neg (show ¬ (j : Int) + 1 < (all.length : Int) by omega)]
      exact Ev.now _
def proveLeaf (l : List Int) (i : Int) : List S74 × Bool := if leavesOk l && decide (0 ≤ i ∧ i < (l.length : Int)) then (proveL l i, true) else ([], false)
theorem specProve_ev (l : List Int) (hl : l.length ≤ 1048576) (i : Int) : Ev (fun k => spec_ProveLeaf.f k l i) (proveLeaf l i) := by
  have j (c : Bool) (hc : c = !(leavesOk l && decide (0 ≤ i ∧ i < (l.length : Int)))) : Ev (fun k => spec_ProveLeaf.j0 k l i [] c) (proveLeaf l i) := by
    subst hc
    unfold proveLeaf
    refine Ev.step (fun k => by simp only [spec_ProveLeaf.j0]; rfl) ?_
    cases h : leavesOk l && decide (0 ≤ i ∧ i < (l.length : Int)) with
    | false => simp only [Bool.not_false, if_true, Bool.false_eq_true, if_false]; exact Ev.now _
    | true =>
      simp only [Bool.and_eq_true, decide_eq_true_eq] at h
      obtain ⟨h1, h2, h3⟩ := (leavesOk_iff l).1 h.1
      simp only [Bool.not_true, if_true, Bool.false_eq_true, if_false, l1Own_eq l hl, Option.bind_some]
      exact specProve_l0 l.length l i [] (Nat.le_refl _) h2 h3 h.2.1 h.2.2 (by simp; omega)
  unfold spec_ProveLeaf.f
  simp only [Option.bind_some]
  refine Ev.bind (l25Leaves_ev l (by omega)) ?_
  cases h1 : leavesOk l with
  | false => simp only [Bool.false_eq_true, if_false]; exact j true (by simp [h1])
  | true =>
    simp only [if_true, l1In_eq, Option.bind_some]
    refine j _ ?_
    rw [wrap_in (by omega) (by omega)]
    simp only [h1, Bool.true_and]
    congr 1
    by_cases q : 0 ≤ i ∧ i < (l.length : Int)
    · rw [decide_eq_true q]; simp; omega
    · rw [decide_eq_false q]; simp; omega
theorem implProve_ev (l : List Int) (hl : l.length ≤ 1048576) (i : Int) : Ev (fun k => impl_ProveLeaf.f k l i) (proveLeaf l i) := by
  have j (c : Bool) (hc : c = !(leavesOk l && decide (0 ≤ i ∧ i < (l.length : Int)))) : Ev (fun k => impl_ProveLeaf.j0 k l i c) (proveLeaf l i) := by
    subst hc
    unfold proveLeaf
    refine Ev.step (fun k => by simp only [impl_ProveLeaf.j0]; rfl) ?_
    cases h : leavesOk l && decide (0 ≤ i ∧ i < (l.length : Int)) with
    | false => simp only [Bool.not_false, if_true, Bool.false_eq_true, if_false]; exact Ev.now _
    | true =>
      have hlv := h
      simp only [Bool.and_eq_true, decide_eq_true_eq] at h
      obtain ⟨h1, h2, h3⟩ := (leavesOk_iff l).1 h.1
      obtain ⟨q1, q2, q3⟩ := levels_last l.length l (Nat.le_refl _) h1
      simp only [Bool.not_true, if_true, Bool.false_eq_true, if_false]
      refine Ev.bind (levelsOf_ev l h.1) ?_
      exact implProve_l0 l.length (levelsL l) (by omega) l i [] 0 rfl (Nat.le_refl _) h2 h.2.1 h.2.2 (by simp; omega)
  unfold impl_ProveLeaf.f
  refine Ev.bind (areLeaves_ev l (by omega)) ?_
  cases h1 : leavesOk l with
  | false => simp only [Bool.false_eq_true, if_false]; exact j true (by simp [h1])
  | true =>
    simp only [if_true, within_eq, Option.bind_some]
    refine j _ ?_
    rw [wrap_in (by omega) (by omega)]
    simp only [h1, Bool.true_and]
    congr 1
    by_cases q : 0 ≤ i ∧ i < (l.length : Int)
    · rw [decide_eq_true q]; simp; omega
    · rw [decide_eq_false q]; simp; omega
theorem proveLeaf_len (l : List Int) (i : Int) : (proveLeaf l i).1.length ≤ l.length := by
  unfold proveLeaf; split
  · exact proveL_len _ l i (Nat.le_refl _)
  · simp
theorem FnExactProveLeaf : XGFnExactProveLeaf.Pure := by
  intro l i hl hi
  refine Ev.rounds ?_
  unfold laws_FnExactProveLeaf.f
  by_cases h1 : (l.length : Int) > 1048576
  · simp only [if_pos h1]; exact Ev.now _
  simp only [if_neg h1]
  have hlen := proveLeaf_len l i
  refine Ev.bind (toInts_ev l (by omega)) ?_
  refine Ev.bind (specProve_ev l (by omega) i) ?_
  refine Ev.bind (toInts_ev l (by omega)) ?_
  refine Ev.bind (implProve_ev l (by omega) i) ?_
  refine Ev.bind (eqSteps_ev _ (by omega)) ?_
  simp only [if_true, bne_self_eq_false]
  refine Ev.step (fun k => by simp only [laws_FnExactProveLeaf.j0]; rfl) ?_
  simp only [Bool.false_eq_true, if_false]
  refine Ev.bind (toInts_ev l (by omega)) ?_
  refine Ev.bind (eqInts_ev l (by omega)) ?_
  simp only [if_true]
  obtain ⟨l', hm⟩ := markInts_ev l (by omega)
  refine Ev.bind hm ?_
  simp only [if_neg (show ¬ (1 : Int) + (l.length : Int) < 0 by omega)]
  refine Ev.bind (eqSteps_ev _ (by omega)) ?_
  simp only [if_true, bne_self_eq_false]
  refine Ev.step (fun k => by simp only [laws_FnExactProveLeaf.j1]; rfl) ?_
  simp only [Bool.false_eq_true, if_false]
  obtain ⟨s', c, hc, hs, hh⟩ := markSteps_ev (proveLeaf l i).1 (by omega)
  refine Ev.bind hs ?_
  refine Ev.bind hh ?_
  simp only [if_neg hc, if_true]
  refine Ev.bind (toInts_ev l (by omega)) ?_
  refine Ev.bind (implProve_ev l (by omega) i) ?_
  refine Ev.bind (eqSteps_ev _ (by omega)) ?_
  simp only [if_true, bne_self_eq_false]
  refine Ev.step (fun k => by simp only [laws_FnExactProveLeaf.j2]; rfl) ?_
  simp only [Bool.false_eq_true, if_false]
  refine Ev.bind hh ?_
  simp only [if_neg hc, if_true]
  exact Ev.now _

end Go.Proofs.YtnfmlglhoboooaaDoor.Pure

/- The pure statement of the law FnExactVerifySubset, proved: what the program computes agrees with the reference, in plain Lean. -/
import Derived.Test.YtnfmlglhoboooaaDoorXGFnExactVerifySubset
import Derived.Test.YtnfmlglhoboooaaDoorXPlain
import Derived.Lib.ItoaLen
set_option linter.unusedVariables false
set_option linter.unusedSimpArgs false
namespace Go.Proofs.YtnfmlglhoboooaaDoor.Pure
open Go.RowKit Go.Proofs.YtnfmlglhoboooaaDoor Go.Proofs.YtnfmlglhoboooaaDoor.XFnExactVerifySubset Go.Proofs.YtnfmlglhoboooaaDoor.XGFnExactVerifySubset Go.Proofs.YtnfmlglhoboooaaDoorW.PrintWords Go.Proofs.YtnfmlglhoboooaaDoorW.PrintLast Go.Proofs.YtnfmlglhoboooaaDoor.Plain

theorem l1In_eq (a b c : Int) : spec_l1In.f a b c = some (decide (b ≤ a) && decide (a ≤ c)) := by
  unfold spec_l1In.f
  by_cases h : a ≥ b
  · rw [if_pos h, decide_eq_true (show b ≤ a from h), Bool.true_and]
  · rw [if_neg h, decide_eq_false (show ¬ b ≤ a from h), Bool.false_and]
theorem within_eq (a b c : Int) : impl_within.f a b c = some (decide (b ≤ a) && decide (a ≤ c)) := by
  unfold impl_within.f
  by_cases h : a ≥ b
  · rw [if_pos h, decide_eq_true (show b ≤ a from h), Bool.true_and]
  · rw [if_neg h, decide_eq_false (show ¬ b ≤ a from h), Bool.false_and]

def itoaB (n : Int) : ByteArray := ⟨(Lib.itoa n).toArray⟩
theorem size_of_list (l : List UInt8) : (⟨l.toArray⟩ : ByteArray).size = l.length := by simp [ByteArray.size]
theorem digit_cut (u : Fin 10) : (⟨#[48, 49, 50, 51, 52, 53, 54, 55, 56, 57]⟩ : ByteArray).extract u.val (u.val + 1) = ⟨[UInt8.ofNat (48 + u.val)].toArray⟩ := by
  revert u; decide +kernel
theorem append_lists (a b : List UInt8) : (⟨a.toArray⟩ : ByteArray) ++ ⟨b.toArray⟩ = ⟨(a ++ b).toArray⟩ := by
  apply ByteArray.ext
  simp
theorem num_nat (u : Nat) : u ≤ 9223372036854775807 → Ev (fun k => spec_l1Num.f k u) ⟨(Lib.decDigits u).toArray⟩ := by
  induction u using Nat.strongRecOn with
  | _ u ih =>
  intro hu
  refine Ev.step (fun k => by simp only [spec_l1Num.f]; rfl) ?_
  simp only [if_neg (show ¬ (u : Int) < 0 by omega)]
  by_cases h : u < 10
  · simp only [if_pos (show (u : Int) < 10 by omega), if_pos (show (0 : Int) ≤ u by omega), wrap_in (show -9223372036854775808 ≤ (u : Int) + 1 by omega) (by omega), if_pos (show (u : Int) ≤ u + 1 by omega), if_pos (show (u : Int) + 1 ≤ 10 by omega)]
    refine Ev.some ?_
    rw [Lib.decDigits_one h, Int.toNat_natCast, show ((u : Int) + 1).toNat = u + 1 by omega]
    exact digit_cut ⟨u, h⟩
  · have hd : Int.tdiv (u : Int) 10 = ((u / 10 : Nat) : Int) := by rw [Int.tdiv_eq_ediv_of_nonneg (by omega)]; omega
    have hm : Int.tmod (u : Int) 10 = ((u % 10 : Nat) : Int) := by rw [Int.tmod_eq_emod_of_nonneg (by omega)]; omega
    have h10 : u % 10 < 10 := Nat.mod_lt _ (by decide)
    simp only [if_neg (show ¬ (u : Int) < 10 by omega), hd, hm, wrap_in (show -9223372036854775808 ≤ ((u / 10 : Nat) : Int) by omega) (by omega)]
    refine Ev.bind (ih (u / 10) (by omega) (by omega)) ?_
    have hl : (Lib.decDigits (u / 10)).length ≤ 20 := by rw [Lib.decDigits_length]; exact Lib.nDigits_le20 _ (by omega)
    have e : Lib.decDigits u = Lib.decDigits (u / 10) ++ [UInt8.ofNat (48 + u % 10)] := by rw [Lib.decDigits, dif_neg h]
    simp only [if_pos (show (0 : Int) ≤ ((u % 10 : Nat) : Int) by omega), wrap_in (show -9223372036854775808 ≤ ((u % 10 : Nat) : Int) + 1 by omega) (by omega), if_pos (show ((u % 10 : Nat) : Int) ≤ ((u % 10 : Nat) : Int) + 1 by omega), if_pos (show ((u % 10 : Nat) : Int) + 1 ≤ 10 by omega), Int.toNat_natCast, show (((u % 10 : Nat) : Int) + 1).toNat = u % 10 + 1 by omega, size_of_list]
    rw [if_pos (show (Lib.decDigits (u / 10)).length + (u % 10 + 1 - u % 10) ≤ 9223372036854775807 by omega)]
    refine Ev.some ?_
    rw [e, digit_cut ⟨u % 10, h10⟩, append_lists]
theorem num_ev (n : Int) (h0 : -9223372036854775807 ≤ n) (h1 : n ≤ 9223372036854775807) : Ev (fun k => spec_l1Num.f k n) (itoaB n) := by
  unfold itoaB
  by_cases h : n < 0
  · obtain ⟨u, rfl⟩ : ∃ u : Nat, n = -(u : Int) := ⟨n.natAbs, by omega⟩
    refine Ev.step (fun k => by simp only [spec_l1Num.f]; rfl) ?_
    simp only [if_pos h, Int.neg_neg, wrap_in (show -9223372036854775808 ≤ (u : Int) by omega) (by omega)]
    refine Ev.bind (num_nat u (by omega)) ?_
    have hl : (Lib.decDigits u).length ≤ 20 := by rw [Lib.decDigits_length]; exact Lib.nDigits_le20 _ (by omega)
    rw [if_pos (by rw [size_of_list]; omega)]
    refine Ev.some ?_
    rw [Lib.itoa_neg u (by omega)]
    exact append_lists [45] _
  · obtain ⟨u, rfl⟩ : ∃ u : Nat, n = (u : Int) := ⟨n.toNat, by omega⟩
    rw [Lib.itoa_nonneg]
    exact num_nat u (by omega)
theorem itoaB_size (n : Int) (h0 : -9223372036854775808 ≤ n) (h1 : n ≤ 9223372036854775807) : (itoaB n).size ≤ 21 := by
  unfold itoaB
  rw [size_of_list]
  exact Lib.itoa_length_le n h0 h1
theorem decimal_eq (n : Int) (h0 : -9223372036854775808 ≤ n) (h1 : n ≤ 9223372036854775807) : impl_decimal.f n = some (itoaB n) := by
  unfold impl_decimal.f strconv_Itoa.f
  rw [if_pos ⟨h0, h1⟩]
  rfl

def sumStep (h : Int) (b : UInt8) : Int := (41 * h + (b.toNat : Int) + 1) % 999979
def sumL (l : List UInt8) (h : Int) : Int := l.foldl sumStep h
theorem sumStep_in (h : Int) (b : UInt8) : 0 ≤ sumStep h b ∧ sumStep h b ≤ 999978 := by unfold sumStep; omega
theorem sumL_in (l : List UInt8) (h : Int) (h0 : 0 ≤ h ∧ h ≤ 999978) : 0 ≤ sumL l h ∧ sumL l h ≤ 999978 := by
  induction l generalizing h with
  | nil => exact h0
  | cons b l ih => exact ih _ (sumStep_in h b)
theorem sum_wrap (h : Int) (b : UInt8) (h0 : 0 ≤ h ∧ h ≤ 999978) : Int.tmod (wrap64 ((wrap64 ((wrap64 (41 * h)) + (wrap64 (b.toNat : Int)))) + 1)) 999979 = sumStep h b := by
  have hb := byte_le b
  rw [wrap_in (show -9223372036854775808 ≤ 41 * h by omega) (by omega), wrap_byte, wrap_in (show -9223372036854775808 ≤ 41 * h + (b.toNat : Int) by omega) (by omega), wrap_in (show -9223372036854775808 ≤ 41 * h + (b.toNat : Int) + 1 by omega) (by omega), Int.tmod_eq_emod_of_nonneg (by omega)]
  rfl
theorem sum_ev (s : ByteArray) (hs : s.size ≤ 9223372036854775807) : Ev (fun k => spec_l1Sum.f k s) (sumL s.data.toList 7) := by
  unfold spec_l1Sum.f
  have := bytes_ind0 s (fun i rest => ∀ h : Int, 0 ≤ h ∧ h ≤ 999978 → Ev (fun k => spec_l1Sum.l0 k s h i) (sumL rest h)) ?_ ?_
  · exact this 7 (by decide)
  · intro h _
    refine Ev.step (fun k => by simp only [spec_l1Sum.l0]; rfl) ?_
    simp only [Int.lt_irrefl, if_false]
    exact Ev.now _
  · intro i b rest hi hb hd ih h hh
    refine Ev.step (fun k => by simp only [spec_l1Sum.l0]; rfl) ?_
    simp only [if_pos (show (i : Int) < (s.size : Int) by omega), if_pos (show (0 : Int) ≤ i by omega), hb, sum_wrap h b hh, wrap_in (show -9223372036854775808 ≤ (i : Int) + 1 by omega) (by omega)]
    exact ih _ (sumStep_in h b)
theorem checksum_ev (s : ByteArray) (hs : s.size ≤ 4000) : Ev (fun k => impl_Checksum.f k s) (sumL s.data.toList 7, true) := by
  unfold impl_Checksum.f
  simp only [if_neg (show ¬ (s.size : Int) > 4000 by omega)]
  have := bytes_ind0 s (fun i rest => ∀ h : Int, 0 ≤ h ∧ h ≤ 999978 → Ev (fun k => impl_Checksum.l0 k s h (s.size : Int) i) (sumL rest h, true)) ?_ ?_
  · exact this 7 (by decide)
  · intro h _
    refine Ev.step (fun k => by simp only [impl_Checksum.l0]; rfl) ?_
    simp only [Int.lt_irrefl, if_false]
    exact Ev.now _
  · intro i b rest hi hb hd ih h hh
    refine Ev.step (fun k => by simp only [impl_Checksum.l0]; rfl) ?_
    simp only [if_pos (show (i : Int) < (s.size : Int) by omega), if_pos (show (0 : Int) ≤ i by omega), hb, sum_wrap h b hh, wrap_in (show -9223372036854775808 ≤ (i : Int) + 1 by omega) (by omega)]
    exact ih _ (sumStep_in h b)

def pairTxt (a b : Int) : ByteArray := (((⟨#[40]⟩ : ByteArray) ++ itoaB a) ++ (⟨#[44]⟩ : ByteArray)) ++ itoaB b ++ (⟨#[41]⟩ : ByteArray)
def hashP (a b : Int) : Int := sumL (pairTxt a b).data.toList 7
theorem hashP_in (a b : Int) : 0 ≤ hashP a b ∧ hashP a b ≤ 999978 := sumL_in _ _ (by decide)
theorem pairTxt_size (a b : Int) : (pairTxt a b).size = 1 + (itoaB a).size + 1 + (itoaB b).size + 1 := by
  unfold pairTxt
  simp only [ByteArray.size_append]
  rfl
theorem l25Pair_ev (a b : Int) (ha : 0 ≤ a ∧ a ≤ 999978) (hb : 0 ≤ b ∧ b ≤ 999978) : Ev (fun k => spec_l25Pair.f k a b) (hashP a b) := by
  have sa := itoaB_size a (by omega) (by omega)
  have sb := itoaB_size b (by omega) (by omega)
  unfold spec_l25Pair.f
  refine Ev.bind (num_ev a (by omega) (by omega)) ?_
  refine ev_pos (by omega) (ev_pos (by omega) ?_)
  refine Ev.bind (num_ev b (by omega) (by omega)) ?_
  refine ev_pos (by omega) (ev_pos (by omega) ?_)
  exact Ev.bind (f := fun k t => some t) (sum_ev (pairTxt a b) (by rw [pairTxt_size]; omega)) (Ev.now _)
theorem pairHash_ev (a b : Int) (ha : 0 ≤ a ∧ a ≤ 999978) (hb : 0 ≤ b ∧ b ≤ 999978) : Ev (fun k => impl_pairHash.f k a b) (hashP a b) := by
  have sa := itoaB_size a (by omega) (by omega)
  have sb := itoaB_size b (by omega) (by omega)
  unfold impl_pairHash.f
  simp only [decimal_eq a (by omega) (by omega), decimal_eq b (by omega) (by omega), Option.bind_some]
  refine ev_pos (by omega) (ev_pos (by omega) (ev_pos (by omega) (ev_pos (by omega) ?_)))
  exact Ev.bind (f := fun k t => some t.1) (checksum_ev (pairTxt a b) (by rw [pairTxt_size]; omega)) (Ev.now _)
def inHash (a : Int) : Bool := decide (0 ≤ a) && decide (a ≤ 999978)
theorem inHash_iff (a : Int) : inHash a = true ↔ 0 ≤ a ∧ a ≤ 999978 := by unfold inHash; simp
theorem l25Hash_eq (a : Int) : spec_l25Hash.f a = some (inHash a) := by unfold spec_l25Hash.f; rw [l1In_eq]; rfl
theorem isHash_eq (a : Int) : impl_isHash.f a = some (inHash a) := by unfold impl_isHash.f; rw [within_eq]; rfl

theorem rd_drop {l : List Int} {i : Nat} {b : Int} {rest : List Int} (h : l.drop i = b :: rest) : rd l (i : Int) = b := (rd_at h).2.1
theorem toInts_ev (l : List Int) (hl : l.length ≤ 1048576) : Ev (fun k => laws_toIntS.f k l) l := by
  unfold laws_toIntS.f
  simp only [if_pos (show (0 : Int) ≤ (l.length : Int) by omega), Int.toNat_natCast, if_pos (show l.length ≤ 35184372088832 by omega)]
  have := ev_copy l id (0 : Int) (fun k out i => laws_toIntS.l0 k l out i) (fun out ho => ?_) (fun i x rest out r hi hd ho h => ?_)
  · simpa using this
  · refine Ev.step (fun k => by simp only [laws_toIntS.l0]; rfl) ?_
    simp only [Int.lt_irrefl, if_false]
    exact Ev.now _
  · refine Ev.step (fun k => by simp only [laws_toIntS.l0]; rfl) ?_
    simp only [if_pos (show (i : Int) < (l.length : Int) by omega), if_pos (show (0 : Int) ≤ i by omega), if_pos (show (i : Int) < (out.length : Int) by omega), rd_drop hd, Int.toNat_natCast, wrap_in (show -9223372036854775808 ≤ (i : Int) + 1 by omega) (by omega)]
    exact h
theorem eqInts_ev (l : List Int) (hl : l.length ≤ 1048576) : Ev (fun k => laws_eqIntS.f k l l) true := by
  unfold laws_eqIntS.f
  simp only [if_true]
  refine list_ind0 l (fun i rest => Ev (fun k => laws_eqIntS.l0 k l l i) true) ?_ ?_
  · refine Ev.step (fun k => by simp only [laws_eqIntS.l0]; rfl) ?_
    simp only [Int.lt_irrefl, if_false]
    exact Ev.now _
  · intro i x rest hi hd ih
    refine Ev.step (fun k => by simp only [laws_eqIntS.l0]; rfl) ?_
    simp only [if_pos (show (i : Int) < (l.length : Int) by omega), if_pos (show (0 : Int) ≤ i by omega), if_true, wrap_in (show -9223372036854775808 ≤ (i : Int) + 1 by omega) (by omega)]
    exact ih

theorem l25Hashes_ev (l : List Int) (hl : l.length ≤ 9223372036854775807) : Ev (fun k => spec_l25Hashes.f k l) (l.all inHash) := by
  unfold spec_l25Hashes.f
  refine list_ind0 l (fun i rest => Ev (fun k => spec_l25Hashes.l0 k l i) (rest.all inHash)) ?_ ?_
  · refine Ev.step (fun k => by simp only [spec_l25Hashes.l0]; rfl) ?_
    simp only [Int.lt_irrefl, if_false, List.all_nil]
    exact Ev.now _
  · intro i x rest hi hd ih
    refine Ev.step (fun k => by simp only [spec_l25Hashes.l0]; rfl) ?_
    simp only [if_pos (show (i : Int) < (l.length : Int) by omega), if_pos (show (0 : Int) ≤ i by omega), rd_drop hd, l25Hash_eq, Option.bind_some, wrap_in (show -9223372036854775808 ≤ (i : Int) + 1 by omega) (by omega), List.all_cons]
    cases hx : inHash x with
    | false => simp only [Bool.false_eq_true, if_false, Bool.false_and]; exact Ev.now _
    | true => simp only [if_true, Bool.true_and]; exact ih
theorem areHashes_ev (l : List Int) (hl : l.length ≤ 9223372036854775807) : Ev (fun k => impl_areHashes.f k l) (l.all inHash) := by
  have key : ∃ r : Int, Ev (fun k => slices_IndexFunc_int_int_impl_areHashes_1.f k l) r ∧ decide (r ≥ 0) = !l.all inHash := by
    unfold slices_IndexFunc_int_int_impl_areHashes_1.f
    refine list_ind0 l (fun i rest => ∃ r : Int, Ev (fun k => slices_IndexFunc_int_int_impl_areHashes_1.l0 k l (l.length : Int) i) r ∧ decide (r ≥ 0) = !rest.all inHash) ?_ ?_
    · refine ⟨-1, ?_, by simp⟩
      refine Ev.step (fun k => by simp only [slices_IndexFunc_int_int_impl_areHashes_1.l0]; rfl) ?_
      simp only [Int.lt_irrefl, if_false]
      exact Ev.now _
    · intro i x rest hi hd ih
      obtain ⟨r, hr, he⟩ := ih
      have hc : XFnExactVerifySubset.impl_areHashes_1.f x = some (!inHash x) := by unfold XFnExactVerifySubset.impl_areHashes_1.f; rw [isHash_eq]; rfl
      cases hx : inHash x with
      | false =>
        refine ⟨i, ?_, by rw [List.all_cons, hx]; simp⟩
        refine Ev.step (fun k => by simp only [slices_IndexFunc_int_int_impl_areHashes_1.l0]; rfl) ?_
        simp only [if_pos (show (i : Int) < (l.length : Int) by omega), if_pos (show (0 : Int) ≤ i by omega), rd_drop hd, hc, hx, Option.bind_some, Bool.not_false, if_true]
        exact Ev.now _
      | true =>
        refine ⟨r, ?_, by rw [List.all_cons, hx, Bool.true_and]; exact he⟩
        refine Ev.step (fun k => by simp only [slices_IndexFunc_int_int_impl_areHashes_1.l0]; rfl) ?_
        simp only [if_pos (show (i : Int) < (l.length : Int) by omega), if_pos (show (0 : Int) ≤ i by omega), rd_drop hd, hc, hx, Option.bind_some, Bool.not_true, Bool.false_eq_true, if_false, wrap_in (show -9223372036854775808 ≤ (i : Int) + 1 by omega) (by omega)]
        exact hr
  obtain ⟨r, hr, he⟩ := key
  unfold impl_areHashes.f slices_ContainsFunc_int_int_impl_areHashes_1.f
  refine Ev.bind (Ev.bind hr (Ev.now (decide (r ≥ 0)))) ?_
  refine Ev.some ?_
  rw [he, Bool.not_not]
def leavesOk (l : List Int) : Bool := (decide (1 ≤ (l.length : Int)) && decide ((l.length : Int) ≤ 32)) && l.all inHash
theorem leavesOk_iff (l : List Int) : leavesOk l = true ↔ 1 ≤ l.length ∧ l.length ≤ 32 ∧ ∀ x ∈ l, inHash x = true := by
  unfold leavesOk
  simp only [Bool.and_eq_true, decide_eq_true_eq, List.all_eq_true]
  constructor
  · rintro ⟨⟨h1, h2⟩, h3⟩; exact ⟨by omega, by omega, h3⟩
  · rintro ⟨h1, h2, h3⟩; exact ⟨⟨by omega, by omega⟩, h3⟩
def upL : List Int → List Int
  | [] => []
  | [a] => [a]
  | a :: b :: r => hashP a b :: upL r
theorem upL_length : ∀ l : List Int, (upL l).length = (l.length + 1) / 2
  | [] => rfl
  | [a] => by simp [upL]
  | a :: b :: r => by
    have := upL_length r
    simp only [upL, List.length_cons, this]
    omega
theorem upL_all : ∀ l : List Int, (∀ x ∈ l, inHash x = true) → ∀ x ∈ upL l, inHash x = true
  | [], h => h
  | [a], h => h
  | a :: b :: r, h => by
    intro x hx
    simp only [upL, List.mem_cons] at hx
    rcases hx with rfl | hx
    · exact (inHash_iff _).2 (hashP_in a b)
    · exact upL_all r (fun y hy => h y (by simp [hy])) x hx
theorem drop_succ {α : Type} {l : List α} {i : Nat} {a : α} {r : List α} (h : l.drop i = a :: r) : l.drop (i + 1) = r := (getD_at (d := a) h).2.2
def levelsL (l : List Int) : List (List Int) := if h : 1 < l.length then l :: levelsL (upL l) else [l]
termination_by l.length
decreasing_by rw [upL_length]; omega
theorem levelsL_one {l : List Int} (h : ¬ 1 < l.length) : levelsL l = [l] := by rw [levelsL, dif_neg h]
theorem levelsL_more {l : List Int} (h : 1 < l.length) : levelsL l = l :: levelsL (upL l) := by rw [levelsL, dif_pos h]
theorem levelsL_cons (l : List Int) : ∃ r, levelsL l = l :: r := by
  by_cases h : 1 < l.length
  · exact ⟨_, levelsL_more h⟩
  · exact ⟨_, levelsL_one h⟩
def rootL (l : List Int) : Int := if h : 1 < l.length then rootL (upL l) else rd l 0
termination_by l.length
decreasing_by rw [upL_length]; omega
theorem rootL_one {l : List Int} (h : ¬ 1 < l.length) : rootL l = rd l 0 := by rw [rootL, dif_neg h]
theorem rootL_more {l : List Int} (h : 1 < l.length) : rootL l = rootL (upL l) := by rw [rootL, dif_pos h]
theorem levels_last (n : Nat) : ∀ l : List Int, l.length ≤ n → 1 ≤ l.length → 0 < ((levelsL l).getD ((levelsL l).length - 1) []).length ∧ rd ((levelsL l).getD ((levelsL l).length - 1) []) 0 = rootL l ∧ (levelsL l).length ≤ n := by
  induction n with
  | zero => intro l h1 h2; omega
  | succ n ih =>
    intro l h1 h2
    by_cases h : 1 < l.length
    · have hu := upL_length l
      obtain ⟨i1, i2, i3⟩ := ih (upL l) (by omega) (by omega)
      obtain ⟨r, hr⟩ := levelsL_cons (upL l)
      rw [levelsL_more h, rootL_more h]
      have e : (l :: levelsL (upL l)).getD ((l :: levelsL (upL l)).length - 1) [] = (levelsL (upL l)).getD ((levelsL (upL l)).length - 1) [] := by
        rw [hr]; simp
      rw [e]
      exact ⟨i1, i2, by simp; omega⟩
    · rw [levelsL_one h, rootL_one h]
      simp
      omega

/-- Strictly rising from behind p on, within lo and hi. -/
def risB (lo hi : Int) : Int → List Int → Bool
  | _, [] => true
  | p, x :: r => (decide (lo ≤ x) && decide (x ≤ hi)) && (decide (p < x) && risB lo hi x r)
theorem risB_all {lo hi : Int} : ∀ (l : List Int) (p : Int), risB lo hi p l = true → ∀ x ∈ l, lo ≤ x ∧ x ≤ hi ∧ p < x
  | [], _, _ => by intro x hx; cases hx
  | y :: r, p, h => by
    simp only [risB, Bool.and_eq_true, decide_eq_true_eq] at h
    intro x hx
    rcases List.mem_cons.1 hx with rfl | hx
    · exact ⟨h.1.1, h.1.2, h.2.1⟩
    · have := risB_all r y h.2.2 x hx; omega
theorem risB_len {lo hi : Int} : ∀ (l : List Int) (p : Int), risB lo hi p l = true → p ≤ hi → (l.length : Int) ≤ hi - p
  | [], p, _, h => by simp only [List.length_nil]; omega
  | x :: r, p, h, hp => by
    simp only [risB, Bool.and_eq_true, decide_eq_true_eq] at h
    have := risB_len r x h.2.2 h.1.2
    simp only [List.length_cons]; omega
theorem specRis_l0 (l : List Int) (lo hi : Int) (hl : l.length ≤ 9223372036854775000) : ∀ (rest : List Int) (i : Nat) (p : Int), l.drop i = rest → (i = 0 → p = lo - 1) → (0 < i → rd l ((i : Int) - 1) = p) → Ev (fun k => spec_l1Rising.l0 k l lo hi i) (risB lo hi p rest)
  | [], i, p, hd, h0, h1 => by
    have : l.length ≤ i := List.drop_eq_nil_iff.1 hd
    refine Ev.step (fun k => by simp only [spec_l1Rising.l0]; rfl) ?_
    simp only [if_neg (show ¬ (i : Int) < (l.length : Int) by omega), risB]
    exact Ev.now _
  | x :: r, i, p, hd, h0, h1 => by
    have hi' := (getD_at (d := x) hd).1
    have IH := specRis_l0 l lo hi hl r (i + 1) x (drop_succ hd) (by omega) (fun _ => by rw [show ((i + 1 : Nat) : Int) - 1 = i by omega]; exact rd_drop hd)
    rw [show ((i + 1 : Nat) : Int) = (i : Int) + 1 by omega] at IH
    refine Ev.step (fun k => by simp only [spec_l1Rising.l0]; rfl) ?_
    simp only [if_pos (show (i : Int) < (l.length : Int) by omega), if_pos (show (0 : Int) ≤ i by omega), rd_drop hd, l1In_eq, Option.bind_some, wrap_in (show -9223372036854775808 ≤ (i : Int) + 1 by omega) (by omega), risB]
    cases hb : (decide (lo ≤ x) && decide (x ≤ hi)) with
    | false => simp only [Bool.false_eq_true, if_false, Bool.false_and]; exact Ev.now _
    | true =>
      simp only [if_true, Bool.true_and]
      simp only [Bool.and_eq_true, decide_eq_true_eq] at hb
      by_cases z : 0 < i
      · simp only [if_pos (show (i : Int) > 0 by omega), wrap_in (show -9223372036854775808 ≤ (i : Int) - 1 by omega) (by omega), if_pos (show 0 ≤ (i : Int) - 1 by omega), if_pos (show (i : Int) - 1 < (l.length : Int) by omega), h1 z]
        by_cases q : p ≥ x
        · simp only [if_pos q, decide_eq_false (show ¬ p < x by omega), Bool.false_and]; exact Ev.now _
        · simp only [if_neg q, decide_eq_true (show p < x by omega), Bool.true_and]; exact IH
      · have := h0 (by omega)
        simp only [if_neg (show ¬ (i : Int) > 0 by omega), decide_eq_true (show p < x by omega), Bool.true_and]; exact IH
theorem implRis_l0 (l : List Int) (lo hi cnt : Int) (hl : l.length ≤ 9223372036854775000) : ∀ (rest : List Int) (i : Nat) (p : Int), l.drop i = rest → (i = 0 → p = lo - 1) → (0 < i → rd l ((i : Int) - 1) = p) → Ev (fun k => impl_isRising.l0 k l lo hi cnt l (l.length : Int) i) (risB lo hi p rest && decide ((l.length : Int) ≤ cnt))
  | [], i, p, hd, h0, h1 => by
    have : l.length ≤ i := List.drop_eq_nil_iff.1 hd
    refine Ev.step (fun k => by simp only [impl_isRising.l0]; rfl) ?_
    simp only [if_neg (show ¬ (i : Int) < (l.length : Int) by omega), risB, Bool.true_and]
    exact Ev.now _
  | x :: r, i, p, hd, h0, h1 => by
    have hi' := (getD_at (d := x) hd).1
    have IH := implRis_l0 l lo hi cnt hl r (i + 1) x (drop_succ hd) (by omega) (fun _ => by rw [show ((i + 1 : Nat) : Int) - 1 = i by omega]; exact rd_drop hd)
    rw [show ((i + 1 : Nat) : Int) = (i : Int) + 1 by omega] at IH
    refine Ev.step (fun k => by simp only [impl_isRising.l0]; rfl) ?_
    simp only [if_pos (show (i : Int) < (l.length : Int) by omega), if_pos (show (0 : Int) ≤ i by omega), rd_drop hd, within_eq, Option.bind_some, wrap_in (show -9223372036854775808 ≤ (i : Int) + 1 by omega) (by omega), risB]
    cases hb : (decide (lo ≤ x) && decide (x ≤ hi)) with
    | false => simp only [Bool.false_eq_true, if_false, Bool.false_and]; exact Ev.now _
    | true =>
      simp only [if_true, Bool.true_and]
      simp only [Bool.and_eq_true, decide_eq_true_eq] at hb
      by_cases z : 0 < i
      · simp only [if_pos (show (i : Int) > 0 by omega), wrap_in (show -9223372036854775808 ≤ (i : Int) - 1 by omega) (by omega), if_pos (show 0 ≤ (i : Int) - 1 by omega), if_pos (show (i : Int) - 1 < (l.length : Int) by omega), h1 z]
        by_cases q : x ≤ p
        · simp only [if_pos q, decide_eq_false (show ¬ p < x by omega), Bool.false_and]; exact Ev.now _
        · simp only [if_neg q, decide_eq_true (show p < x by omega), Bool.true_and]; exact IH
      · have := h0 (by omega)
        simp only [if_neg (show ¬ (i : Int) > 0 by omega), decide_eq_true (show p < x by omega), Bool.true_and]; exact IH
/-- A list of indices of so many leaves. -/
def idxOk (l : List Int) (n : Int) : Bool := decide (0 < (l.length : Int)) && risB 0 (n - 1) (-1) l
theorem specIdx_ev (l : List Int) (n : Int) (hl : l.length ≤ 9223372036854775000) (hn : 0 ≤ n ∧ n ≤ 9223372036854775000) : Ev (fun k => spec_l25Indices.f k l n) (idxOk l n) := by
  unfold spec_l25Indices.f spec_l1Rising.f idxOk
  by_cases h : (l.length : Int) > 0
  · simp only [if_pos h, decide_eq_true (show 0 < (l.length : Int) by omega), Bool.true_and, wrap_in (show -9223372036854775808 ≤ n - 1 by omega) (by omega)]
    exact Ev.bind (specRis_l0 l 0 (n - 1) hl l 0 (-1) rfl (fun _ => by omega) (fun h => by omega)) (Ev.now _)
  · simp only [if_neg h, decide_eq_false (show ¬ 0 < (l.length : Int) by omega), Bool.false_and]; exact Ev.now _
theorem implIdx_ev (l : List Int) (n : Int) (hl : l.length ≤ 9223372036854775000) (hn : 0 ≤ n ∧ n ≤ 9223372036854775000) : Ev (fun k => impl_isSubset.f k l n) (idxOk l n) := by
  unfold impl_isSubset.f impl_isRising.f idxOk
  by_cases h : (l.length : Int) > 0
  · simp only [if_pos h, decide_eq_true (show 0 < (l.length : Int) by omega), Bool.true_and, wrap_in (show -9223372036854775808 ≤ n - 1 by omega) (by omega)]
    refine Ev.bind (implRis_l0 l 0 (n - 1) n hl l 0 (-1) rfl (fun _ => by omega) (fun h => by omega)) (Ev.some ?_)
    cases q : risB 0 (n - 1) (-1) l with
    | false => rfl
    | true =>
      have := risB_len l (-1) q (by omega)
      simp only [Bool.true_and, decide_eq_true_eq]; omega
  · simp only [if_neg h, decide_eq_false (show ¬ 0 < (l.length : Int) by omega), Bool.false_and]; exact Ev.now _
def encN (p : Int × Int) : S84 := ⟨p.1, p.2⟩
/-- Nodes with strictly rising places from lo on, below c, and hashes. -/
def RN (c : Int) : Int → List (Int × Int) → Prop
  | _, [] => True
  | lo, p :: r => lo ≤ p.1 ∧ p.1 < c ∧ inHash p.2 = true ∧ RN c (p.1 + 1) r
theorem RN_mono {c lo lo' : Int} {r : List (Int × Int)} (h : RN c lo r) (hl : lo' ≤ lo) : RN c lo' r := by
  cases r with
  | nil => trivial
  | cons p r => exact ⟨Int.le_trans hl h.1, h.2⟩
theorem lk_cons (p : Int × Int) (r : List (Int × Int)) (x : Int) : (p :: r).lookup x = if x = p.1 then some p.2 else r.lookup x := by
  obtain ⟨a, b⟩ := p
  rw [List.lookup_cons]
  by_cases h : x = a
  · subst h; simp
  · have e : (x == a) = false := by simpa using h
    rw [e, if_neg h]
theorem RN_none {c : Int} : ∀ {r : List (Int × Int)} {lo : Int}, RN c lo r → ∀ x, x < lo → r.lookup x = none
  | [], _, _, _, _ => rfl
  | p :: r, lo, h, x, hx => by
    have h1 := h.1
    rw [lk_cons, if_neg (by omega)]
    exact RN_none h.2.2.2 x (by omega)
theorem lk_app : ∀ {out : List (Int × Int)} {p : Int × Int}, out.lookup p.1 = none → ∀ x, (out ++ [p]).lookup x = if x = p.1 then some p.2 else out.lookup x
  | [], p, _, x => by rw [List.nil_append, lk_cons]
  | q :: r, p, h, x => by
    rw [lk_cons] at h
    have hq : ¬ p.1 = q.1 := fun e => by rw [if_pos e] at h; cases h
    rw [if_neg hq] at h
    rw [List.cons_append, lk_cons, lk_app h, lk_cons]
    by_cases e : x = q.1
    · rw [if_pos e, if_pos e, if_neg (fun e' => hq (e'.symm.trans e))]
    · rw [if_neg e, if_neg e]
theorem lk_ub : ∀ {out : List (Int × Int)} {b : Int}, (∀ p ∈ out, p.1 < b) → ∀ x, b ≤ x → out.lookup x = none
  | [], _, _, _, _ => rfl
  | q :: r, b, h, x, hx => by
    have := h q (by simp)
    rw [lk_cons, if_neg (by omega)]
    exact lk_ub (fun p hp => h p (by simp [hp])) x hx
theorem RN_app {c : Int} : ∀ {out : List (Int × Int)} {lo : Int} {y : Int × Int}, RN c lo out → (∀ p ∈ out, p.1 < y.1) → lo ≤ y.1 → y.1 < c → inHash y.2 = true → RN c lo (out ++ [y])
  | [], lo, y, _, _, h1, h2, h3 => ⟨h1, h2, h3, trivial⟩
  | q :: r, lo, y, h, hu, h1, h2, h3 => ⟨h.1, h.2.1, h.2.2.1, RN_app h.2.2.2 (fun p hp => hu p (by simp [hp])) (by have := hu q (by simp); omega) h2 h3⟩
def oneN (p : Int × Int) (r : List (Int × Int)) : List Int → Option ((Int × Int) × List (Int × Int) × List Int)
  | [] => none
  | g :: hs => some ((p.1 / 2, if p.1 % 2 = 0 then hashP p.2 g else hashP g p.2), r, hs)
def takeN (c : Int) (p : Int × Int) (r : List (Int × Int)) (hs : List Int) : Option ((Int × Int) × List (Int × Int) × List Int) :=
  if p.1 % 2 = 0 ∧ p.1 + 1 = c then some ((p.1 / 2, p.2), r, hs)
  else match r with
    | q :: r' => if p.1 % 2 = 0 ∧ q.1 = p.1 + 1 then some ((p.1 / 2, hashP p.2 q.2), r', hs) else oneN p (q :: r') hs
    | [] => oneN p [] hs
/-- One level up: the nodes of the next level, and the hashes that are left; none if there are too few. -/
def climbF (c : Int) : Nat → List (Int × Int) → List Int → List (Int × Int) → Option (List (Int × Int) × List Int)
  | 0, _, _, _ => none
  | _ + 1, [], hs, out => some (out, hs)
  | n + 1, p :: r, hs, out => match takeN c p r hs with
    | none => none
    | some z => climbF c n z.2.1 z.2.2 (out ++ [z.1])
theorem hashP_ok (a b : Int) : inHash (hashP a b) = true := (inHash_iff _).2 (hashP_in a b)
/-- What a step gives. -/
structure TakeOk (c j : Int) (p : Int × Int) (r : List (Int × Int)) (hs : List Int) (z : (Int × Int) × List (Int × Int) × List Int) : Prop where
  half : z.1.1 = p.1 / 2
  lo : j ≤ z.1.1
  hi : z.1.1 < (c + 1) / 2
  hash : inHash z.1.2 = true
  rest : RN c (2 * (z.1.1 + 1)) z.2.1
  all : ∀ h ∈ z.2.2, inHash h = true
  len : z.2.1.length ≤ r.length
  hlen : z.2.2.length ≤ hs.length
  look : ∀ x, 2 * (z.1.1 + 1) ≤ x → (p :: r).lookup x = z.2.1.lookup x
theorem oneN_ok {c j : Int} {p : Int × Int} {r : List (Int × Int)} {hs : List Int} {z : (Int × Int) × List (Int × Int) × List Int} (hj : 0 ≤ j) (h : RN c (2 * j) (p :: r)) (hh : ∀ x ∈ hs, inHash x = true) (hr : RN c (2 * (p.1 / 2 + 1)) r) (ht : oneN p r hs = some z) : TakeOk c j p r hs z := by
  cases hs with
  | nil => cases ht
  | cons g hs =>
    obtain rfl := Option.some.inj ht
    obtain ⟨h1, h2, h3, h4⟩ := h
    refine ⟨rfl, ?_, ?_, ?_, hr, fun x hx => hh x (by simp [hx]), Nat.le_refl _, by simp, fun x hx => ?_⟩
    · show j ≤ p.1 / 2; omega
    · show p.1 / 2 < (c + 1) / 2; omega
    · show inHash (if p.1 % 2 = 0 then hashP p.2 g else hashP g p.2) = true
      split <;> exact hashP_ok _ _
    · have hx' : 2 * (p.1 / 2 + 1) ≤ x := hx
      rw [lk_cons, if_neg (by omega)]
theorem takeN_ok {c j : Int} {p : Int × Int} {r : List (Int × Int)} {hs : List Int} {z : (Int × Int) × List (Int × Int) × List Int} (hj : 0 ≤ j) (h : RN c (2 * j) (p :: r)) (hh : ∀ x ∈ hs, inHash x = true) (ht : takeN c p r hs = some z) : TakeOk c j p r hs z := by
  have h' := h
  obtain ⟨h1, h2, h3, h4⟩ := h
  unfold takeN at ht
  by_cases a : p.1 % 2 = 0 ∧ p.1 + 1 = c
  · rw [if_pos a] at ht
    obtain rfl := Option.some.inj ht
    have hn : r = [] := by
      cases r with
      | nil => rfl
      | cons q r => have := h4.1; have := h4.2.1; omega
    subst hn
    refine ⟨rfl, ?_, ?_, h3, trivial, hh, Nat.le_refl _, Nat.le_refl _, fun x hx => ?_⟩
    · show j ≤ p.1 / 2; omega
    · show p.1 / 2 < (c + 1) / 2; omega
    · have hx' : 2 * (p.1 / 2 + 1) ≤ x := hx
      rw [lk_cons, if_neg (by omega)]
  · rw [if_neg a] at ht
    cases r with
    | nil => exact oneN_ok hj h' hh trivial ht
    | cons q r =>
      obtain ⟨k1, k2, k3, k4⟩ := h4
      by_cases b : p.1 % 2 = 0 ∧ q.1 = p.1 + 1
      · simp only [if_pos b] at ht
        obtain rfl := Option.some.inj ht
        refine ⟨rfl, ?_, ?_, hashP_ok _ _, RN_mono k4 ?_, hh, by simp, Nat.le_refl _, fun x hx => ?_⟩
        · show j ≤ p.1 / 2; omega
        · show p.1 / 2 < (c + 1) / 2; omega
        · show 2 * (p.1 / 2 + 1) ≤ q.1 + 1; omega
        · have hx' : 2 * (p.1 / 2 + 1) ≤ x := hx
          rw [lk_cons, lk_cons, if_neg (by omega), if_neg (by omega)]
      · simp only [if_neg b] at ht
        exact oneN_ok hj h' hh ⟨by omega, k2, k3, k4⟩ ht
theorem climb_ok {c : Int} : ∀ (n : Nat) (rest : List (Int × Int)) (hs : List Int) (out : List (Int × Int)) (j : Int) (z : List (Int × Int) × List Int), 0 ≤ j → RN c (2 * j) rest → (∀ x ∈ hs, inHash x = true) → RN ((c + 1) / 2) 0 out → (∀ p ∈ out, p.1 < j) → climbF c n rest hs out = some z →
    RN ((c + 1) / 2) 0 z.1 ∧ (∀ x ∈ z.2, inHash x = true) ∧ z.1.length ≤ out.length + rest.length ∧ z.2.length ≤ hs.length ∧ (out ≠ [] ∨ rest ≠ [] → z.1 ≠ [])
  | 0, _, _, _, _, _, _, _, _, _, _, h => by cases h
  | n + 1, [], hs, out, j, z, hj, hr, hh, ho, hu, h => by
    obtain rfl := Option.some.inj h
    exact ⟨ho, hh, by simp, Nat.le_refl _, fun e => by simpa using e⟩
  | n + 1, p :: r, hs, out, j, z, hj, hr, hh, ho, hu, h => by
    unfold climbF at h
    cases ht : takeN c p r hs with
    | none => rw [ht] at h; cases h
    | some t =>
      rw [ht] at h
      have T := takeN_ok hj hr hh ht
      have t1 := T.lo
      obtain ⟨a1, a2, a3, a4, a5⟩ := climb_ok n t.2.1 t.2.2 (out ++ [t.1]) (t.1.1 + 1) z (by omega) T.rest T.all (RN_app ho (fun q hq => by have := hu q hq; omega) (by omega) T.hi T.hash) (fun q hq => by
        rcases List.mem_append.1 hq with hq | hq
        · have := hu q hq; omega
        · simp only [List.mem_singleton] at hq; subst hq; omega) h
      have := T.len; have := T.hlen
      exact ⟨a1, a2, by simp only [List.length_append, List.length_cons, List.length_nil] at a3; simp only [List.length_cons]; omega, by omega, fun _ => a5 (Or.inl (by simp))⟩
theorem rdN_at {all : List (Int × Int)} {i : Nat} {p : Int × Int} {r : List (Int × Int)} (h : all.drop i = p :: r) : rd_T84 (all.map encN) (i : Int) = encN p := by
  have h' : (all.map encN).drop i = encN p :: r.map encN := by rw [← List.map_drop, h]; rfl
  unfold rd_T84
  rw [Int.toNat_natCast]
  exact (getD_at h').2.1
theorem half_ev {x : Int} (h0 : 0 ≤ x) (h1 : x ≤ 1000) : wrap64 (Int.tdiv x 2) = x / 2 := by rw [Int.tdiv_eq_ediv_of_nonneg h0]; exact wrap_in (by omega) (by omega)
theorem mod_ev {x : Int} (h0 : 0 ≤ x) : Int.tmod x 2 = x % 2 := Int.tmod_eq_emod_of_nonneg h0
theorem inc_ev {x : Int} (h0 : 0 ≤ x) (h1 : x ≤ 1000) : wrap64 (x + 1) = x + 1 := wrap_in (by omega) (by omega)
theorem specClimb_l0 (all : List (Int × Int)) (hall : all.length ≤ 900) (c : Int) (hc : c ≤ 64) : ∀ (n : Nat) (rest : List (Int × Int)) (i : Nat) (j : Int) (hs : List Int) (out : List (Int × Int)), all.drop i = rest → rest.length < n → 0 ≤ j → RN c (2 * j) rest → (∀ h ∈ hs, inHash h = true) → out.length + rest.length ≤ 1000 →
    ∃ R : List S84 × List Int × Bool, Ev (fun k => spec_l25Climb.l0 k (all.map encN) c hs (out.map encN) (i : Int)) R ∧ (match climbF c n rest hs out with | none => R.2.2 = false | some z => R = (z.1.map encN, z.2, true))
  | 0, rest, i, j, hs, out, hd, hn, hj, hr, hh, ho => by omega
  | n + 1, [], i, j, hs, out, hd, hn, hj, hr, hh, ho => by
    have : all.length ≤ i := List.drop_eq_nil_iff.1 hd
    refine ⟨(out.map encN, hs, true), ?_, rfl⟩
    refine Ev.step (fun k => by simp only [spec_l25Climb.l0]; rfl) ?_
    simp only [List.length_map, if_neg (show ¬ (i : Int) < (all.length : Int) by omega)]
    exact Ev.now _
  | n + 1, p :: r, i, j, hs, out, hd, hn, hj, hr, hh, ho => by
    have hi := (getD_at (d := p) hd).1
    have hd1 := drop_succ hd
    have hr' := hr
    obtain ⟨h1, h2, h3, h4⟩ := hr
    have p0 : 0 ≤ p.1 := by omega
    have hp3 := (inHash_iff p.2).1 h3
    simp only [List.length_cons] at hn ho
    have ei : wrap64 ((i : Int) + 1) = ((i + 1 : Nat) : Int) := by rw [wrap_in (by omega) (by omega)]; rfl
    have cont (z : (Int × Int) × List (Int × Int) × List Int) (i' : Nat) (ht : takeN c p r hs = some z) (hi' : all.drop i' = z.2.1) : ∃ R : List S84 × List Int × Bool, Ev (fun k => spec_l25Climb.l0 k (all.map encN) c z.2.2 (out.map encN ++ [encN z.1]) (i' : Int)) R ∧ (match climbF c (n + 1) (p :: r) hs out with | none => R.2.2 = false | some z => R = (z.1.map encN, z.2, true)) := by
      have T := takeN_ok hj hr' hh ht
      have t1 := T.len; have t2 := T.lo
      obtain ⟨R, e1, e2⟩ := specClimb_l0 all hall c hc n z.2.1 i' (z.1.1 + 1) z.2.2 (out ++ [z.1]) hi' (by omega) (by omega) T.rest T.all (by simp only [List.length_append, List.length_singleton]; omega)
      refine ⟨R, ?_, ?_⟩
      · rw [List.map_append] at e1; exact e1
      · unfold climbF; rw [ht]; exact e2
    have stop (ht : takeN c p r hs = none) (R : List S84 × List Int × Bool) (hR : R.2.2 = false) : (match climbF c (n + 1) (p :: r) hs out with | none => R.2.2 = false | some z => R = (z.1.map encN, z.2, true)) := by
      unfold climbF; rw [ht]; exact hR
    have ea : (encN p).f0 = p.1 := rfl
    have eb : (encN p).f1 = p.2 := rfl
    have one (hone : takeN c p r hs = oneN p r hs) : ∃ R : List S84 × List Int × Bool, Ev (fun k => spec_l25Climb.j2 k (all.map encN) c hs (out.map encN) (i : Int) p.1 p.2) R ∧ (match climbF c (n + 1) (p :: r) hs out with | none => R.2.2 = false | some z => R = (z.1.map encN, z.2, true)) := by
      cases hs with
      | nil =>
        refine ⟨(out.map encN, [], false), ?_, stop hone _ rfl⟩
        refine Ev.step (fun k => by simp only [spec_l25Climb.j2]; rfl) ?_
        simp only [List.length_nil, if_pos (show ((0 : Nat) : Int) = 0 from rfl)]
        exact Ev.now _
      | cons g hs =>
        have hg := (inHash_iff g).1 (hh g (by simp))
        obtain ⟨R, e1, e2⟩ := cont _ (i + 1) hone hd1
        refine ⟨R, ?_, e2⟩
        refine Ev.step (fun k => by simp only [spec_l25Climb.j2]; rfl) ?_
        simp only [if_neg (show ¬ ((g :: hs).length : Int) = 0 by simp only [List.length_cons]; omega), if_pos (show (0 : Int) < ((g :: hs).length : Int) by simp only [List.length_cons]; omega), if_pos (show (1 : Int) ≤ ((g :: hs).length : Int) by simp only [List.length_cons]; omega), if_pos (show (out.map encN).length < 8796093022208 by simp only [List.length_map]; omega), mod_ev p0, half_ev p0 (by omega), ei, show rd (g :: hs) 0 = g from rfl, List.drop_succ_cons, List.drop_zero]
        by_cases q : p.1 % 2 = 0
        · simp only [if_pos q] at e1 ⊢
          exact Ev.bind (l25Pair_ev p.2 g hp3 hg) e1
        · simp only [if_neg q] at e1 ⊢
          exact Ev.bind (l25Pair_ev g p.2 hg hp3) e1
    have main : ∃ R : List S84 × List Int × Bool, Ev (fun k => spec_l25Climb.j1 k (all.map encN) c hs (out.map encN) (i : Int) (decide (p.1 % 2 = 0 ∧ p.1 + 1 = c)) p.1 p.2) R ∧ (match climbF c (n + 1) (p :: r) hs out with | none => R.2.2 = false | some z => R = (z.1.map encN, z.2, true)) := by
      by_cases a : p.1 % 2 = 0 ∧ p.1 + 1 = c
      · obtain ⟨R, e1, e2⟩ := cont ((p.1 / 2, p.2), r, hs) (i + 1) (by unfold takeN; rw [if_pos a]) hd1
        refine ⟨R, ?_, e2⟩
        refine Ev.step (fun k => by simp only [spec_l25Climb.j1]; rfl) ?_
        simp only [if_pos (decide_eq_true a), if_pos (show (out.map encN).length < 8796093022208 by simp only [List.length_map]; omega), half_ev p0 (by omega), ei]
        exact e1
      · have hf : ¬ decide (p.1 % 2 = 0 ∧ p.1 + 1 = c) = true := by simpa using a
        by_cases q : p.1 % 2 = 0
        · cases r with
          | nil =>
            obtain ⟨R, e1, e2⟩ := one (by unfold takeN; rw [if_neg a])
            have hl : all.length ≤ i + 1 := List.drop_eq_nil_iff.1 hd1
            refine ⟨R, ?_, e2⟩
            refine Ev.step (fun k => by simp only [spec_l25Climb.j1]; rfl) ?_
            simp only [if_neg hf, mod_ev p0, if_pos q, ei, List.length_map, if_neg (show ¬ ((i + 1 : Nat) : Int) < (all.length : Int) by omega)]
            exact e1
          | cons s r' =>
            have hi2 := (getD_at (d := s) hd1).1
            obtain ⟨k1, k2, k3, k4⟩ := h4
            have es : (encN s).f0 = s.1 := rfl
            have et : (encN s).f1 = s.2 := rfl
            by_cases b : s.1 = p.1 + 1
            · obtain ⟨R, e1, e2⟩ := cont ((p.1 / 2, hashP p.2 s.2), r', hs) (i + 2) (by unfold takeN; rw [if_neg a]; simp only [if_pos (And.intro q b)]) (drop_succ hd1)
              refine ⟨R, ?_, e2⟩
              refine Ev.step (fun k => by simp only [spec_l25Climb.j1]; rfl) ?_
              simp only [if_neg hf, mod_ev p0, if_pos q, ei, List.length_map, if_pos (show ((i + 1 : Nat) : Int) < (all.length : Int) by omega), if_pos (show (0 : Int) ≤ ((i + 1 : Nat) : Int) by omega), rdN_at hd1, es, et, inc_ev p0 (by omega), if_pos b, half_ev p0 (by omega), if_pos (show out.length < 8796093022208 by omega)]
              refine Ev.bind (l25Pair_ev p.2 s.2 hp3 ((inHash_iff s.2).1 k3)) ?_
              have e3 : wrap64 (((i + 1 : Nat) : Int) + 1) = ((i + 2 : Nat) : Int) := by rw [wrap_in (by omega) (by omega)]; omega
              simp only [e3]
              exact e1
            · obtain ⟨R, e1, e2⟩ := one (by unfold takeN; rw [if_neg a]; simp only [if_neg (show ¬ (p.1 % 2 = 0 ∧ s.1 = p.1 + 1) from fun h => b h.2)])
              refine ⟨R, ?_, e2⟩
              refine Ev.step (fun k => by simp only [spec_l25Climb.j1]; rfl) ?_
              simp only [if_neg hf, mod_ev p0, if_pos q, ei, List.length_map, if_pos (show ((i + 1 : Nat) : Int) < (all.length : Int) by omega), if_pos (show (0 : Int) ≤ ((i + 1 : Nat) : Int) by omega), rdN_at hd1, es, inc_ev p0 (by omega), if_neg b]
              exact e1
        · obtain ⟨R, e1, e2⟩ := one (by
            unfold takeN; rw [if_neg a]
            cases r with
            | nil => rfl
            | cons s r' => simp only [if_neg (show ¬ (p.1 % 2 = 0 ∧ s.1 = p.1 + 1) from fun h => q h.1)])
          refine ⟨R, ?_, e2⟩
          refine Ev.step (fun k => by simp only [spec_l25Climb.j1]; rfl) ?_
          simp only [if_neg hf, mod_ev p0, if_neg q]
          exact e1
    obtain ⟨R, e1, e2⟩ := main
    refine ⟨R, ?_, e2⟩
    refine Ev.step (fun k => by simp only [spec_l25Climb.l0]; rfl) ?_
    simp only [List.length_map, if_pos (show (i : Int) < (all.length : Int) by omega), if_pos (show (0 : Int) ≤ (i : Int) by omega), rdN_at hd, ea, eb, mod_ev p0, inc_ev p0 (by omega)]
    by_cases q : p.1 % 2 = 0
    · simp only [if_pos q]
      rw [show ((p.1 + 1) == c) = decide (p.1 % 2 = 0 ∧ p.1 + 1 = c) by
        rw [Bool.eq_iff_iff]; simp [q]]
      exact e1
    · simp only [if_neg q]
      rw [show decide (p.1 % 2 = 0 ∧ p.1 + 1 = c) = false from decide_eq_false (fun h => q h.1)] at e1
      exact e1
def climbL (c : Int) (N : List (Int × Int)) (hs : List Int) : Option (List (Int × Int) × List Int) := climbF c (N.length + 1) N hs []
/-- The root that the nodes and hashes give: whether it is the one, and all hashes are used up. -/
def verL (root : Int) : Nat → Int → List (Int × Int) → List Int → Bool
  | 0, _, _, _ => false
  | f + 1, c, N, hs => if c > 1 then (match climbL c N hs with | none => false | some z => verL root f ((c + 1) / 2) z.1 z.2) else decide (hs.length = 0) && decide ((N.headD (0, 0)).2 = root)
theorem specVer_l1 (root : Int) : ∀ (f : Nat) (c : Int) (N : List (Int × Int)) (hs : List Int), c ≤ f → 1 ≤ c → c ≤ 64 → RN c 0 N → N ≠ [] → N.length ≤ 900 → (∀ h ∈ hs, inHash h = true) → Ev (fun k => spec_VerifySubset.l1 k root c hs (N.map encN)) (verL root f c N hs, true)
  | 0, c, N, hs, h1, h2, h3, h4, h5, h6, h7 => by omega
  | f + 1, c, N, hs, h1, h2, h3, h4, h5, h6, h7 => by
    refine Ev.step (fun k => by simp only [spec_VerifySubset.l1]; rfl) ?_
    by_cases h : c > 1
    · simp only [if_pos h]
      obtain ⟨R, e1, e2⟩ := specClimb_l0 N h6 c h3 (N.length + 1) N 0 0 hs [] rfl (by omega) (by omega) h4 h7 (by simp; omega)
      have e1' : Ev (fun k => spec_l25Climb.f k (N.map encN) c hs) R := e1
      refine Ev.bind e1' ?_
      unfold verL
      rw [if_pos h]
      unfold climbL
      cases hz : climbF c (N.length + 1) N hs [] with
      | none =>
        rw [hz] at e2
        simp only [e2, Bool.false_eq_true, if_false]; exact Ev.now _
      | some z =>
        rw [hz] at e2
        subst e2
        obtain ⟨a1, a2, a3, a4, a5⟩ := climb_ok _ N hs [] 0 z (by omega) h4 h7 trivial (by simp) hz
        simp only [if_true]
        rw [show wrap64 (Int.tdiv (wrap64 (c + 1)) 2) = (c + 1) / 2 by rw [inc_ev (by omega) (by omega), half_ev (by omega) (by omega)]]
        exact specVer_l1 root f ((c + 1) / 2) z.1 z.2 (by omega) (by omega) (by omega) a1 (a5 (Or.inr h5)) (by simp at a3; omega) a2
    · simp only [if_neg h]
      cases N with
      | nil => exact absurd rfl h5
      | cons p r =>
        have er : (rd_T84 ((p :: r).map encN) 0).f1 = p.2 := rfl
        unfold verL
        rw [if_neg h]
        by_cases q : hs.length = 0
        · simp only [if_pos (show (hs.length : Int) = 0 by omega), if_pos (show (0 : Int) < (((p :: r).map encN).length : Int) by simp only [List.length_map, List.length_cons]; omega), er, decide_eq_true q, Bool.true_and, List.headD_cons]
          refine Ev.some ?_
          congr 1
        · simp only [if_neg (show ¬ (hs.length : Int) = 0 by omega), decide_eq_false q, Bool.false_and]; exact Ev.now _

theorem mapGet_in {L : List (Int × Int)} {x : Int} {o : Option Int} (h : L.lookup x = o) (h0 : -9223372036854775808 ≤ x ∧ x ≤ 9223372036854775807) : mapGet.f L x = some (o.getD 0, o.isSome) := by
  unfold mapGet.f; rw [if_pos h0]; unfold mI mHas; rw [h]
theorem mapVal_in {L : List (Int × Int)} {x : Int} {o : Option Int} (h : L.lookup x = o) (h0 : -9223372036854775808 ≤ x ∧ x ≤ 9223372036854775807) : mapVal.f L x = some (o.getD 0) := by
  unfold mapVal.f; rw [if_pos h0]; unfold mI; rw [h]
theorem mapSet_in (L : List (Int × Int)) (x v : Int) (h : -9223372036854775808 ≤ x ∧ x ≤ 9223372036854775807) (hv : -9223372036854775808 ≤ v ∧ v ≤ 9223372036854775807) (hl : L.length < 1000000) : mapSet.f L x v = some ((x, v) :: L) := by unfold mapSet.f; rw [if_pos ⟨⟨h, hv⟩, hl⟩]
theorem climbF_nil (c : Int) (n : Nat) (hn : 0 < n) (hs : List Int) (out : List (Int × Int)) : climbF c n [] hs out = some (out, hs) := by
  obtain ⟨m, rfl⟩ : ∃ m, n = m + 1 := ⟨n - 1, by omega⟩
  rfl
theorem implVer_l2 (root : Int) (L : List (Int × Int)) (c : Int) (hc : 1 < c ∧ c ≤ 64) (R : Bool × Bool) : ∀ (m n j : Nat) (rest : List (Int × Int)) (hs : List Int) (out M : List (Int × Int)), c - 2 * (j : Int) ≤ 2 * (m : Int) → j ≤ 100 → rest.length < n → RN c (2 * (j : Int)) rest → (∀ x, 2 * (j : Int) ≤ x → L.lookup x = rest.lookup x) → (∀ x, M.lookup x = out.lookup x) → (∀ p ∈ out, p.1 < (j : Int)) → M.length ≤ j → (∀ h ∈ hs, inHash h = true) →
    (match climbF c n rest hs out with | none => R = (false, true) | some z => ∀ M' : List (Int × Int), (∀ x, M'.lookup x = z.1.lookup x) → M'.length ≤ 200 → Ev (fun k => impl_VerifySubset.l1 k root M' z.2 ((c + 1) / 2)) R) → Ev (fun k => impl_VerifySubset.l2 k root L hs c M (2 * (j : Int))) R := by
  have leave (n j : Nat) (rest : List (Int × Int)) (hs : List Int) (out M : List (Int × Int)) (hx : ¬ 2 * (j : Int) < c) (hj : j ≤ 100) (hn : rest.length < n) (hr : RN c (2 * (j : Int)) rest) (hM : ∀ x, M.lookup x = out.lookup x) (hMl : M.length ≤ j) (H : match climbF c n rest hs out with | none => R = (false, true) | some z => ∀ M' : List (Int × Int), (∀ x, M'.lookup x = z.1.lookup x) → M'.length ≤ 200 → Ev (fun k => impl_VerifySubset.l1 k root M' z.2 ((c + 1) / 2)) R) : Ev (fun k => impl_VerifySubset.l2 k root L hs c M (2 * (j : Int))) R := by
    have hn0 : rest = [] := by
      cases rest with
      | nil => rfl
      | cons p r => have := hr.1; have := hr.2.1; omega
    subst hn0
    rw [climbF_nil c n (by omega)] at H
    refine Ev.step (fun k => by simp only [impl_VerifySubset.l2]; rfl) ?_
    simp only [if_neg hx, inc_ev (show 0 ≤ c by omega) (by omega), half_ev (show 0 ≤ c + 1 by omega) (by omega)]
    exact H M hM (by omega)
  intro m
  induction m with
  | zero =>
    intro n j rest hs out M h1 hj h2 h3 h4 h5 h6 h7 h8 H
    exact leave n j rest hs out M (by omega) hj h2 h3 h5 h7 H
  | succ m ih =>
    intro n j rest hs out M h1 hj h2 h3 h4 h5 h6 h7 h8 H
    by_cases hx : ¬ 2 * (j : Int) < c
    · exact leave n j rest hs out M hx hj h2 h3 h5 h7 H
    replace hx : 2 * (j : Int) < c := Decidable.not_not.1 hx
    have e2 : wrap64 (2 * (j : Int) + 2) = 2 * ((j + 1 : Nat) : Int) := by rw [wrap_in (by omega) (by omega)]; omega
    have e1 : wrap64 (2 * (j : Int) + 1) = 2 * (j : Int) + 1 := wrap_in (by omega) (by omega)
    have eh : wrap64 (Int.tdiv (2 * (j : Int)) 2) = (j : Int) := by rw [half_ev (by omega) (by omega)]; omega
    -- nothing stands at these two places
    have skip (k3 : RN c (2 * ((j + 1 : Nat) : Int)) rest) (k0 : rest.lookup (2 * (j : Int)) = none) (k1 : rest.lookup (2 * (j : Int) + 1) = none) : Ev (fun k => impl_VerifySubset.l2 k root L hs c M (2 * (j : Int))) R := by
      have IH := ih n (j + 1) rest hs out M (by omega) (by omega) h2 k3 (fun x hx => h4 x (by omega)) h5 (fun p hp => by have := h6 p hp; omega) (by omega) h8 H
      rw [← e2] at IH
      refine Ev.step (fun k => by simp only [impl_VerifySubset.l2]; rfl) ?_
      simp only [if_pos hx, e1]
      refine ev_bind0 (mapGet_in ((h4 _ (by clear e1 e2 eh; omega)).trans k0) (by clear e1 e2 eh; omega)) ?_
      refine ev_bind0 (mapGet_in ((h4 _ (by clear e1 e2 eh; omega)).trans k1) (by clear e1 e2 eh; omega)) ?_
      simp only [Option.isSome_none, Bool.false_eq_true, if_false, Bool.not_false]
      refine Ev.step (fun k => by simp only [impl_VerifySubset.j4]; rfl) ?_
      simp only [if_true]
      exact IH
    cases rest with
    | nil => exact skip trivial rfl rfl
    | cons p r =>
      obtain ⟨n, rfl⟩ : ∃ q, n = q + 1 := ⟨n - 1, by clear e1 e2 eh; omega⟩
      have h3' := h3
      obtain ⟨q1, q2, q3, q4⟩ := h3
      have hp3 := (inHash_iff p.2).1 q3
      by_cases hp : 2 * ((j + 1 : Nat) : Int) ≤ p.1
      · exact skip ⟨hp, q2, q3, q4⟩ (RN_none (show RN c (2 * ((j + 1 : Nat) : Int)) (p :: r) from ⟨hp, q2, q3, q4⟩) _ (by clear e1 e2 eh; omega)) (RN_none (show RN c (2 * ((j + 1 : Nat) : Int)) (p :: r) from ⟨hp, q2, q3, q4⟩) _ (by clear e1 e2 eh; omega))
      have hj2 : p.1 / 2 = (j : Int) := by clear e1 e2 eh; omega
      -- a step with a node
      have cont (z : (Int × Int) × List (Int × Int) × List Int) (ht : takeN c p r hs = some z) : Ev (fun k => impl_VerifySubset.l2 k root L z.2.2 c (((j : Int), z.1.2) :: M) (wrap64 (2 * (j : Int) + 2))) R := by
        have T := takeN_ok (j := (j : Int)) (by clear e1 e2 eh; omega) h3' h8 ht
        have tz : z.1.1 = (j : Int) := T.half.trans hj2
        have tl := T.len
        have hn : out.lookup z.1.1 = none := lk_ub h6 _ (by clear e1 e2 eh; omega)
        have Tr := T.rest
        have Tk := T.look
        rw [tz] at Tr Tk
        rw [e2]
        refine ih n (j + 1) z.2.1 z.2.2 (out ++ [z.1]) _ (by clear e1 e2 eh; omega) (by clear e1 e2 eh; omega) (by clear e1 e2 eh; simp only [List.length_cons] at h2; omega) (by rw [show ((j + 1 : Nat) : Int) = (j : Int) + 1 by clear e1 e2 eh; omega]; exact Tr) (fun x hx => ?_) (fun x => ?_) (fun q hq => ?_) (by clear e1 e2 eh; simp only [List.length_cons]; omega) T.all ?_
        · rw [h4 x (by clear e1 e2 eh; omega)]; exact Tk x (by clear e1 e2 eh; omega)
        · rw [lk_cons, lk_app hn, h5, tz]
        · rcases List.mem_append.1 hq with hq | hq
          · have := h6 q hq; clear e1 e2 eh; omega
          · simp only [List.mem_singleton] at hq; subst hq; clear e1 e2 eh; omega
        · have e : climbF c (n + 1) (p :: r) hs out = climbF c n z.2.1 z.2.2 (out ++ [z.1]) := by
            show (match takeN c p r hs with | none => none | some z => climbF c n z.2.1 z.2.2 (out ++ [z.1])) = _
            rw [ht]
          rw [e] at H; exact H
      have stop (ht : takeN c p r hs = none) : R = (false, true) := by
        have e : climbF c (n + 1) (p :: r) hs out = none := by
          show (match takeN c p r hs with | none => none | some z => climbF c n z.2.1 z.2.2 (out ++ [z.1])) = _
          rw [ht]
        rw [e] at H; exact H
      have hM : M.length < 1000000 := by clear e1 e2 eh; omega
      have hjr : -9223372036854775808 ≤ (j : Int) ∧ (j : Int) ≤ 9223372036854775807 := by clear e1 e2 eh; omega
      have hr64 (a b : Int) : -9223372036854775808 ≤ hashP a b ∧ hashP a b ≤ 9223372036854775807 := by have := hashP_in a b; clear e1 e2 eh; omega
      -- one of the two places is known: a hash is asked for
      have one (hone : takeN c p r hs = oneN p r hs) (left right : Int) (x20 : Bool) (hl : p.1 % 2 = 0 → x20 = true ∧ left = p.2) (hr : ¬ p.1 % 2 = 0 → x20 = false ∧ right = p.2) : Ev (fun k => impl_VerifySubset.j5 k root L hs c M (2 * (j : Int)) left x20 right true) R := by
        refine Ev.step (fun k => by simp only [impl_VerifySubset.j5]; rfl) ?_
        simp only [if_true]
        cases hs with
        | nil =>
          simp only [List.length_nil, if_pos (show ((0 : Nat) : Int) = 0 from rfl)]
          exact Ev.some (stop hone).symm
        | cons g hs =>
          have hg := (inHash_iff g).1 (h8 g (by simp))
          have C := cont _ hone
          simp only [if_neg (show ¬ ((g :: hs).length : Int) = 0 by clear e1 e2 eh; simp only [List.length_cons]; omega), if_pos (show (0 : Int) < ((g :: hs).length : Int) by clear e1 e2 eh; simp only [List.length_cons]; omega), if_pos (show (1 : Int) ≤ ((g :: hs).length : Int) by clear e1 e2 eh; simp only [List.length_cons]; omega), show rd (g :: hs) 0 = g from rfl, List.drop_succ_cons, List.drop_zero, eh]
          by_cases q : p.1 % 2 = 0
          · obtain ⟨rfl, rfl⟩ := hl q
            simp only [if_pos q] at C
            simp only [if_true]
            refine Ev.bind (pairHash_ev p.2 g hp3 hg) ?_
            exact ev_bind0 (mapSet_in M (j : Int) (hashP p.2 g) hjr (hr64 _ _) hM) C
          · obtain ⟨rfl, rfl⟩ := hr q
            simp only [if_neg q] at C
            simp only [Bool.false_eq_true, if_false]
            refine Ev.bind (pairHash_ev g p.2 hg hp3) ?_
            exact ev_bind0 (mapSet_in M (j : Int) (hashP g p.2) hjr (hr64 _ _) hM) C
      by_cases hev : p.1 = 2 * (j : Int)
      · -- the left place is known
        have hm : p.1 % 2 = 0 := by clear e1 e2 eh; omega
        have k0 : L.lookup (2 * (j : Int)) = some p.2 := by rw [h4 _ (Int.le_refl _), lk_cons, if_pos hev.symm]
        have k1 : L.lookup (2 * (j : Int) + 1) = r.lookup (2 * (j : Int) + 1) := by rw [h4 _ (by clear e1 e2 eh; omega), lk_cons, if_neg (by clear e1 e2 eh; omega)]
        refine Ev.step (fun k => by simp only [impl_VerifySubset.l2]; rfl) ?_
        simp only [if_pos hx, e1]
        refine ev_bind0 (mapGet_in k0 (by clear e1 e2 eh; omega)) ?_
        refine ev_bind0 (mapGet_in k1 (by clear e1 e2 eh; omega)) ?_
        simp only [Option.isSome_some, if_true, Option.getD_some]
        refine Ev.step (fun k => by simp only [impl_VerifySubset.j4]; rfl) ?_
        simp only [Bool.false_eq_true, if_false, e1, if_true, eh]
        by_cases hcc : 2 * (j : Int) + 1 = c
        · simp only [if_pos hcc]
          have C := cont ((p.1 / 2, p.2), r, hs) (by unfold takeN; rw [if_pos ⟨hm, by clear e1 e2 eh; omega⟩])
          exact ev_bind0 (mapSet_in M (j : Int) p.2 hjr (by clear e1 e2 eh; omega) hM) C
        · simp only [if_neg hcc]
          have na : ¬ (p.1 % 2 = 0 ∧ p.1 + 1 = c) := fun h => hcc (by have := h.2; clear e1 e2 eh; omega)
          cases r with
          | nil =>
            simp only [List.lookup_nil, Option.isSome_none, Option.getD_none, Bool.not_false]
            exact one (by unfold takeN; rw [if_neg na]) p.2 0 true (fun _ => ⟨rfl, rfl⟩) (fun h => absurd hm h)
          | cons s r' =>
            obtain ⟨s1, s2, s3, s4⟩ := q4
            by_cases b : s.1 = p.1 + 1
            · have ks : (s :: r').lookup (2 * (j : Int) + 1) = some s.2 := by rw [lk_cons, if_pos (by clear e1 e2 eh; omega)]
              simp only [ks, Option.isSome_some, Option.getD_some, Bool.not_true]
              have C := cont ((p.1 / 2, hashP p.2 s.2), r', hs) (by unfold takeN; rw [if_neg na]; simp only [if_pos (And.intro hm b)])
              refine Ev.step (fun k => by simp only [impl_VerifySubset.j5]; rfl) ?_
              simp only [Bool.false_eq_true, if_false, eh]
              refine Ev.bind (pairHash_ev p.2 s.2 hp3 ((inHash_iff s.2).1 s3)) ?_
              exact ev_bind0 (mapSet_in M (j : Int) _ hjr (hr64 _ _) hM) C
            · have ks : (s :: r').lookup (2 * (j : Int) + 1) = none := RN_none (show RN c (p.1 + 2) (s :: r') from ⟨by clear e1 e2 eh; omega, s2, s3, s4⟩) _ (by clear e1 e2 eh; omega)
              simp only [ks, Option.isSome_none, Option.getD_none, Bool.not_false]
              exact one (by unfold takeN; rw [if_neg na]; simp only [if_neg (show ¬ (p.1 % 2 = 0 ∧ s.1 = p.1 + 1) from fun h => b h.2)]) p.2 0 true (fun _ => ⟨rfl, rfl⟩) (fun h => absurd hm h)
      · -- only the right place is known
        have hm : ¬ p.1 % 2 = 0 := by clear e1 e2 eh; omega
        have k0 : L.lookup (2 * (j : Int)) = none := by rw [h4 _ (Int.le_refl _)]; exact RN_none (show RN c p.1 (p :: r) from ⟨Int.le_refl _, q2, q3, q4⟩) _ (by clear e1 e2 eh; omega)
        have k1 : L.lookup (2 * (j : Int) + 1) = some p.2 := by rw [h4 _ (by clear e1 e2 eh; omega), lk_cons, if_pos (by clear e1 e2 eh; omega)]
        refine Ev.step (fun k => by simp only [impl_VerifySubset.l2]; rfl) ?_
        simp only [if_pos hx, e1]
        refine ev_bind0 (mapGet_in k0 (by clear e1 e2 eh; omega)) ?_
        refine ev_bind0 (mapGet_in k1 (by clear e1 e2 eh; omega)) ?_
        simp only [Option.isSome_some, Option.isSome_none, Bool.false_eq_true, if_false, Bool.not_true, Option.getD_some, Option.getD_none]
        refine Ev.step (fun k => by simp only [impl_VerifySubset.j4]; rfl) ?_
        simp only [Bool.false_eq_true, if_false, e1, if_neg (show ¬ 2 * (j : Int) + 1 = c by clear e1 e2 eh; omega)]
        exact one (by
          unfold takeN; rw [if_neg (fun h => hm h.1)]
          cases r with
          | nil => rfl
          | cons s r' => simp only [if_neg (show ¬ (p.1 % 2 = 0 ∧ s.1 = p.1 + 1) from fun h => hm h.1)]) 0 p.2 false (fun h => absurd h hm) (fun _ => ⟨rfl, rfl⟩)
theorem implVer_l1 (root : Int) : ∀ (f : Nat) (c : Int) (N M : List (Int × Int)) (hs : List Int), c ≤ f → 1 ≤ c → c ≤ 64 → RN c 0 N → N ≠ [] → N.length ≤ 900 → (∀ h ∈ hs, inHash h = true) → (∀ x, M.lookup x = N.lookup x) → Ev (fun k => impl_VerifySubset.l1 k root M hs c) (verL root f c N hs, true)
  | 0, c, N, M, hs, h1, h2, h3, h4, h5, h6, h7, h8 => by omega
  | f + 1, c, N, M, hs, h1, h2, h3, h4, h5, h6, h7, h8 => by
    refine Ev.step (fun k => by simp only [impl_VerifySubset.l1]; rfl) ?_
    by_cases h : c > 1
    · simp only [if_pos h]
      have G := implVer_l2 root M c ⟨h, h3⟩ (verL root (f + 1) c N hs, true) 64 (N.length + 1) 0 N hs [] [] (by omega) (by omega) (by omega) h4 (fun x _ => h8 x) (fun _ => rfl) (by simp) (by simp) h7
      refine G ?_
      cases hz : climbF c (N.length + 1) N hs [] with
      | none =>
        show (verL root (f + 1) c N hs, true) = (false, true)
        unfold verL climbL
        rw [if_pos h, hz]
      | some z =>
        intro M' hM' _
        obtain ⟨a1, a2, a3, a4, a5⟩ := climb_ok _ N hs [] 0 z (by omega) h4 h7 trivial (by simp) hz
        have e : verL root (f + 1) c N hs = verL root f ((c + 1) / 2) z.1 z.2 := by
          conv => lhs; unfold verL climbL
          rw [if_pos h, hz]
        rw [e]
        exact implVer_l1 root f ((c + 1) / 2) z.1 M' z.2 (by omega) (by omega) (by omega) a1 (a5 (Or.inr h5)) (by simp at a3; omega) a2 hM'
    · simp only [if_neg h]
      have c1 : c = 1 := by omega
      subst c1
      cases N with
      | nil => exact absurd rfl h5
      | cons p r =>
        have hp := h4.1; have hp' := h4.2.1
        have k0 : M.lookup 0 = some p.2 := by rw [h8, lk_cons, if_pos (by omega)]
        refine ev_bind0 (mapVal_in k0 (by omega)) ?_
        unfold verL
        rw [if_neg h, List.headD_cons, Option.getD_some]
        by_cases q : p.2 = root
        · simp only [if_pos q, decide_eq_true q, Bool.and_true]
          refine Ev.some ?_
          congr 1
          by_cases q' : hs.length = 0
          · rw [q']; rfl
          · rw [decide_eq_false q']
            have : ¬ (hs.length : Int) = 0 := by omega
            simpa using this
        · simp only [if_neg q, decide_eq_false q, Bool.and_false]; exact Ev.now _
/-- The nodes that indices and their hashes make. -/
theorem RN_zip (n : Int) : ∀ (ri rg : List Int) (p : Int), risB 0 (n - 1) p ri = true → (∀ h ∈ rg, inHash h = true) → RN n (p + 1) (ri.zip rg)
  | [], _, _, _, _ => by simp [RN]
  | _ :: _, [], _, _, _ => by simp [RN]
  | a :: ri, g :: rg, p, h, hg => by
    simp only [risB, Bool.and_eq_true, decide_eq_true_eq] at h
    exact ⟨by show p + 1 ≤ a; omega, by show a < n; omega, hg g (by simp), RN_zip n ri rg a h.2.2 (fun x hx => hg x (by simp [hx]))⟩
theorem specVer_l0 (root n : Int) (ind given hs : List Int) (R : Bool × Bool) (hl : ind.length = given.length) (hi : ind.length ≤ 900) (H : Ev (fun k => spec_VerifySubset.l1 k root n hs ((ind.zip given).map encN)) R) : ∀ (ri rg : List Int) (i : Nat) (out : List (Int × Int)), ind.drop i = ri → given.drop i = rg → out ++ ri.zip rg = ind.zip given → out.length ≤ i → Ev (fun k => spec_VerifySubset.l0 k root n ind given hs (out.map encN) (i : Int)) R
  | [], rg, i, out, h1, h2, h3, h4 => by
    have : ind.length ≤ i := List.drop_eq_nil_iff.1 h1
    refine Ev.step (fun k => by simp only [spec_VerifySubset.l0]; rfl) ?_
    simp only [if_neg (show ¬ (i : Int) < (ind.length : Int) by omega)]
    simp only [List.zip_nil_left, List.append_nil] at h3
    rw [h3]; exact H
  | a :: ri, [], i, out, h1, h2, h3, h4 => by
    have := (getD_at (d := a) h1).1
    have : given.length ≤ i := List.drop_eq_nil_iff.1 h2
    omega
  | a :: ri, g :: rg, i, out, h1, h2, h3, h4 => by
    have k1 := (getD_at (d := a) h1).1
    have IH := specVer_l0 root n ind given hs R hl hi H ri rg (i + 1) (out ++ [(a, g)]) (drop_succ h1) (drop_succ h2) (by rw [← h3]; simp) (by simp; omega)
    refine Ev.step (fun k => by simp only [spec_VerifySubset.l0]; rfl) ?_
    simp only [if_pos (show (i : Int) < (ind.length : Int) by omega), if_pos (show (i : Int) < (given.length : Int) by omega), if_pos (show (0 : Int) ≤ (i : Int) by omega), if_pos (show (out.map encN).length < 8796093022208 by simp only [List.length_map]; omega), rd_drop h1, rd_drop h2, wrap_in (show -9223372036854775808 ≤ (i : Int) + 1 by omega) (by omega)]
    rw [List.map_append] at IH
    exact IH
theorem implVer_l0 (root n : Int) (hn' : n ≤ 64) (ind given hs : List Int) (R : Bool × Bool) (hl : ind.length = given.length) (hi : ind.length ≤ 900) (hg : ∀ h ∈ given, inHash h = true) (H : ∀ M : List (Int × Int), (∀ x, M.lookup x = (ind.zip given).lookup x) → Ev (fun k => impl_VerifySubset.l1 k root M hs n) R) : ∀ (ri rg : List Int) (i : Nat) (p : Int) (out M : List (Int × Int)), ind.drop i = ri → given.drop i = rg → out ++ ri.zip rg = ind.zip given → risB 0 (n - 1) p ri = true → (∀ q ∈ out, q.1 ≤ p) → (∀ x, M.lookup x = out.lookup x) → M.length ≤ i → Ev (fun k => impl_VerifySubset.l0 k root n given hs M ind (ind.length : Int) (i : Int)) R
  | [], rg, i, p, out, M, h1, h2, h3, h4, h5, h6, h7 => by
    have : ind.length ≤ i := List.drop_eq_nil_iff.1 h1
    refine Ev.step (fun k => by simp only [impl_VerifySubset.l0]; rfl) ?_
    simp only [if_neg (show ¬ (i : Int) < (ind.length : Int) by omega)]
    simp only [List.zip_nil_left, List.append_nil] at h3
    exact H M (fun x => by rw [h6, h3])
  | a :: ri, [], i, p, out, M, h1, h2, h3, h4, h5, h6, h7 => by
    have := (getD_at (d := a) h1).1
    have : given.length ≤ i := List.drop_eq_nil_iff.1 h2
    omega
  | a :: ri, g :: rg, i, p, out, M, h1, h2, h3, h4, h5, h6, h7 => by
    have k1 := (getD_at (d := a) h1).1
    simp only [risB, Bool.and_eq_true, decide_eq_true_eq] at h4
    have kg := (inHash_iff g).1 (hg g (List.mem_of_mem_drop (by rw [h2]; simp)))
    have hn : out.lookup a = none := lk_ub (b := a) (fun q hq => by have := h5 q hq; omega) a (Int.le_refl _)
    have IH := implVer_l0 root n hn' ind given hs R hl hi hg H ri rg (i + 1) a (out ++ [(a, g)]) ((a, g) :: M) (drop_succ h1) (drop_succ h2) (by rw [← h3]; simp) h4.2.2 (fun q hq => by
      rcases List.mem_append.1 hq with hq | hq
      · have := h5 q hq; omega
      · simp only [List.mem_singleton] at hq; subst hq; exact Int.le_refl _) (fun x => by rw [lk_cons, lk_app hn, h6]) (by simp; omega)
    refine Ev.step (fun k => by simp only [impl_VerifySubset.l0]; rfl) ?_
    simp only [if_pos (show (i : Int) < (ind.length : Int) by omega), if_pos (show (i : Int) < (given.length : Int) by omega), if_pos (show (0 : Int) ≤ (i : Int) by omega), rd_drop h1, rd_drop h2, wrap_in (show -9223372036854775808 ≤ (i : Int) + 1 by omega) (by omega)]
    exact ev_bind0 (mapSet_in M a g (by omega) (by omega) (by omega)) IH
def verOk (root n : Int) (ind given hs : List Int) : Bool := inHash root && ((decide (1 ≤ n) && decide (n ≤ 32)) && (idxOk ind n && (decide (given.length = ind.length) && (given.all inHash && hs.all inHash))))
def verSub (root n : Int) (ind given hs : List Int) : Bool × Bool := if verOk root n ind given hs then (verL root 64 n (ind.zip given) hs, true) else (false, false)
theorem verOk_in {root n : Int} {ind given hs : List Int} (h : verOk root n ind given hs = true) : (1 ≤ n ∧ n ≤ 32) ∧ ind.length = given.length ∧ ind.length ≤ 64 ∧ (∀ x ∈ given, inHash x = true) ∧ (∀ x ∈ hs, inHash x = true) ∧ risB 0 (n - 1) (-1) ind = true ∧ RN n 0 (ind.zip given) ∧ ind.zip given ≠ [] ∧ (ind.zip given).length ≤ 900 := by
  unfold verOk idxOk at h
  simp only [Bool.and_eq_true, decide_eq_true_eq, List.all_eq_true] at h
  obtain ⟨h1, ⟨h2, h3⟩, ⟨h4, h5⟩, h6, h7, h8⟩ := h
  have hb := risB_len ind (-1) h5 (by omega)
  have hz : (ind.zip given).length = ind.length := by rw [List.length_zip]; omega
  refine ⟨⟨h2, h3⟩, by omega, by omega, h7, h8, h5, RN_zip n ind given (-1) h5 h7, ?_, by omega⟩
  intro e
  rw [e] at hz; simp at hz; omega
theorem specVer_ev (root n : Int) (ind given hs : List Int) (hi : ind.length ≤ 1048576) (hg : given.length ≤ 1048576) (hh : hs.length ≤ 1048576) : Ev (fun k => spec_VerifySubset.f k root n ind given hs) (verSub root n ind given hs) := by
  have no (h : verOk root n ind given hs = false) : Ev (fun k => spec_VerifySubset.j0 k root n ind given hs true) (verSub root n ind given hs) := by
    unfold verSub; rw [h]
    refine Ev.step (fun k => by simp only [spec_VerifySubset.j0]; rfl) ?_
    simp only [if_true, Bool.false_eq_true, if_false]; exact Ev.now _
  have yes (h : verOk root n ind given hs = true) : Ev (fun k => spec_VerifySubset.j0 k root n ind given hs false) (verSub root n ind given hs) := by
    obtain ⟨⟨a1, a2⟩, a3, a4, a5, a6, a7, a8, a9, a10⟩ := verOk_in h
    unfold verSub; rw [h, if_pos rfl]
    refine Ev.step (fun k => by simp only [spec_VerifySubset.j0]; rfl) ?_
    simp only [Bool.false_eq_true, if_false]
    exact specVer_l0 root n ind given hs _ a3 (by omega) (specVer_l1 root 64 n (ind.zip given) hs (by omega) a1 (by omega) a8 a9 a10 a6) ind given 0 [] rfl rfl rfl (by simp)
  unfold spec_VerifySubset.f
  refine ev_bind0 (l25Hash_eq root) ?_
  cases q1 : inHash root with
  | false => simp only [Bool.false_eq_true, if_false]; exact no (by simp [verOk, q1])
  | true =>
    simp only [if_true]
    refine ev_bind0 (l1In_eq n 1 32) ?_
    cases q2 : (decide (1 ≤ n) && decide (n ≤ 32)) with
    | false => simp only [Bool.false_eq_true, if_false]; exact no (by unfold verOk; rw [q2]; simp)
    | true =>
      simp only [if_true]
      have hn : 1 ≤ n ∧ n ≤ 32 := by simpa using q2
      refine Ev.bind (specIdx_ev ind n (by omega) (by omega)) ?_
      cases q3 : idxOk ind n with
      | false => simp only [Bool.false_eq_true, if_false]; exact no (by simp [verOk, q3])
      | true =>
        simp only [if_true]
        by_cases q4 : (given.length : Int) = (ind.length : Int)
        · simp only [if_pos q4]
          have q4' : given.length = ind.length := by omega
          refine Ev.bind (l25Hashes_ev given (by omega)) ?_
          cases q5 : given.all inHash with
          | false => simp only [Bool.false_eq_true, if_false]; exact no (by simp [verOk, q5])
          | true =>
            simp only [if_true]
            refine Ev.bind (l25Hashes_ev hs (by omega)) ?_
            cases q6 : hs.all inHash with
            | false => exact no (by simp [verOk, q6])
            | true => exact yes (by unfold verOk; rw [q1, q2, q3, q5, q6, decide_eq_true q4']; rfl)
        · simp only [if_neg q4]; exact no (by
            have : ¬ given.length = ind.length := by omega
            simp [verOk, this])
theorem implVer_ev (root n : Int) (ind given hs : List Int) (hi : ind.length ≤ 1048576) (hg : given.length ≤ 1048576) (hh : hs.length ≤ 1048576) : Ev (fun k => impl_VerifySubset.f k root n ind given hs) (verSub root n ind given hs) := by
  have no (h : verOk root n ind given hs = false) : Ev (fun k => impl_VerifySubset.j0 k root n ind given hs true) (verSub root n ind given hs) := by
    unfold verSub; rw [h]
    refine Ev.step (fun k => by simp only [impl_VerifySubset.j0]; rfl) ?_
    simp only [if_true, Bool.false_eq_true, if_false]; exact Ev.now _
  have yes (h : verOk root n ind given hs = true) : Ev (fun k => impl_VerifySubset.j0 k root n ind given hs false) (verSub root n ind given hs) := by
    obtain ⟨⟨a1, a2⟩, a3, a4, a5, a6, a7, a8, a9, a10⟩ := verOk_in h
    unfold verSub; rw [h, if_pos rfl]
    refine Ev.step (fun k => by simp only [impl_VerifySubset.j0]; rfl) ?_
    simp only [Bool.false_eq_true, if_false]
    exact implVer_l0 root n (by omega) ind given hs _ a3 (by omega) a5 (fun M hM => implVer_l1 root 64 n (ind.zip given) M hs (by omega) a1 (by omega) a8 a9 a10 a6 hM) ind given 0 (-1) [] [] rfl rfl rfl a7 (by simp) (fun _ => rfl) (by simp)
  unfold impl_VerifySubset.f
  refine ev_bind0 (isHash_eq root) ?_
  cases q1 : inHash root with
  | false => simp only [Bool.false_eq_true, if_false]; exact no (by simp [verOk, q1])
  | true =>
    simp only [if_true]
    refine ev_bind0 (within_eq n 1 32) ?_
    cases q2 : (decide (1 ≤ n) && decide (n ≤ 32)) with
    | false => simp only [Bool.false_eq_true, if_false]; exact no (by unfold verOk; rw [q2]; simp)
    | true =>
      simp only [if_true]
      have hn : 1 ≤ n ∧ n ≤ 32 := by simpa using q2
      refine Ev.bind (implIdx_ev ind n (by omega) (by omega)) ?_
      cases q3 : idxOk ind n with
      | false => simp only [Bool.false_eq_true, if_false]; exact no (by simp [verOk, q3])
      | true =>
        simp only [if_true]
        by_cases q4 : (given.length : Int) = (ind.length : Int)
        · simp only [if_pos q4]
          have q4' : given.length = ind.length := by omega
          refine Ev.bind (areHashes_ev given (by omega)) ?_
          cases q5 : given.all inHash with
          | false => simp only [Bool.false_eq_true, if_false]; exact no (by simp [verOk, q5])
          | true =>
            simp only [if_true]
            refine Ev.bind (areHashes_ev hs (by omega)) ?_
            cases q6 : hs.all inHash with
            | false => exact no (by simp [verOk, q6])
            | true => exact yes (by unfold verOk; rw [q1, q2, q3, q5, q6, decide_eq_true q4']; rfl)
        · simp only [if_neg q4]; exact no (by
            have : ¬ given.length = ind.length := by omega
            simp [verOk, this])

theorem FnExactVerifySubset : XGFnExactVerifySubset.Pure := by
  intro root n ind given hs _ _ hi hg hh
  refine Ev.rounds ?_
  unfold laws_FnExactVerifySubset.f
  by_cases h1 : (ind.length : Int) > 1048576
  · simp only [if_pos h1]; exact Ev.now _
  by_cases h2 : (given.length : Int) > 1048576
  · simp only [if_neg h1, if_pos h2]; exact Ev.now _
  by_cases h3 : (hs.length : Int) > 1048576
  · simp only [if_neg h1, if_neg h2, if_pos h3]; exact Ev.now _
  simp only [if_neg h1, if_neg h2, if_neg h3]
  refine Ev.bind (toInts_ev ind (by omega)) ?_
  refine Ev.bind (toInts_ev given (by omega)) ?_
  refine Ev.bind (toInts_ev hs (by omega)) ?_
  refine Ev.bind (specVer_ev root n ind given hs (by omega) (by omega) (by omega)) ?_
  refine Ev.bind (toInts_ev ind (by omega)) ?_
  refine Ev.bind (toInts_ev given (by omega)) ?_
  refine Ev.bind (toInts_ev hs (by omega)) ?_
  refine Ev.bind (implVer_ev root n ind given hs (by omega) (by omega) (by omega)) ?_
  simp only [bne_self_eq_false, Bool.false_eq_true, if_false]
  refine Ev.step (fun k => by simp only [laws_FnExactVerifySubset.j0]; rfl) ?_
  simp only [Bool.false_eq_true, if_false]
  refine Ev.bind (toInts_ev ind (by omega)) ?_
  refine Ev.bind (eqInts_ev ind (by omega)) ?_
  simp only [if_true]
  refine Ev.bind (toInts_ev given (by omega)) ?_
  refine Ev.bind (eqInts_ev given (by omega)) ?_
  simp only [if_true]
  refine Ev.bind (toInts_ev hs (by omega)) ?_
  refine Ev.bind (eqInts_ev hs (by omega)) ?_
  simp only [if_true]
  exact Ev.now _

end Go.Proofs.YtnfmlglhoboooaaDoor.Pure

/- The pure statement of the law FnExactEvidenceRoot, proved: what the program computes agrees with the reference, in plain Lean. -/
import Derived.Test.YtnfmlglhoboooaaDoorXGFnExactEvidenceRoot
import Derived.Test.YtnfmlglhoboooaaDoorXPlain
import Derived.Lib.ItoaLen
set_option linter.unusedVariables false
set_option linter.unusedSimpArgs false
namespace Go.Proofs.YtnfmlglhoboooaaDoor.Pure
open Go.RowKit Go.Proofs.YtnfmlglhoboooaaDoor Go.Proofs.YtnfmlglhoboooaaDoor.XFnExactEvidenceRoot Go.Proofs.YtnfmlglhoboooaaDoor.XGFnExactEvidenceRoot Go.Proofs.YtnfmlglhoboooaaDoorW.PrintWords Go.Proofs.YtnfmlglhoboooaaDoorW.PrintLast Go.Proofs.YtnfmlglhoboooaaDoor.Plain

theorem l1In_eq (a b c : Int) : spec_l1In.f a b c = some (decide (b ≤ a) && decide (a ≤ c)) := by
  unfold spec_l1In.f
  by_cases h : a ≥ b
  · rw [if_pos h, decide_eq_true (show b ≤ a from h), Bool.true_and]
  · rw [if_neg h, decide_eq_false (show ¬ b ≤ a from h), Bool.false_and]
theorem within_eq (a b c : Int) : impl_within.f a b c = some (decide (b ≤ a) && decide (a ≤ c)) := by
  unfold impl_within.f
  by_cases h : a ≥ b
  · rw [if_pos h, decide_eq_true (show b ≤ a from h), Bool.true_and]
  · rw [if_neg h, decide_eq_false (show ¬ b ≤ a from h), Bool.false_and]

def itoaB (n : Int) : ByteArray := ⟨(Lib.itoa n).toArray⟩
theorem size_of_list (l : List UInt8) : (⟨l.toArray⟩ : ByteArray).size = l.length := by simp [ByteArray.size]
theorem digit_cut (u : Fin 10) : (⟨#[48, 49, 50, 51, 52, 53, 54, 55, 56, 57]⟩ : ByteArray).extract u.val (u.val + 1) = ⟨[UInt8.ofNat (48 + u.val)].toArray⟩ := by
  revert u; decide +kernel
theorem append_lists (a b : List UInt8) : (⟨a.toArray⟩ : ByteArray) ++ ⟨b.toArray⟩ = ⟨(a ++ b).toArray⟩ := by
  apply ByteArray.ext
  simp
theorem num_nat (u : Nat) : u ≤ 9223372036854775807 → Ev (fun k => spec_l1Num.f k u) ⟨(Lib.decDigits u).toArray⟩ := by
  induction u using Nat.strongRecOn with
  | _ u ih =>
  intro hu
  refine Ev.step (fun k => by simp only [spec_l1Num.f]; rfl) ?_
  simp only [if_neg (show ¬ (u : Int) < 0 by omega)]
  by_cases h : u < 10
  · simp only [if_pos (show (u : Int) < 10 by omega), if_pos (show (0 : Int) ≤ u by omega), wrap_in (show -9223372036854775808 ≤ (u : Int) + 1 by omega) (by omega), if_pos (show (u : Int) ≤ u + 1 by omega), if_pos (show (u : Int) + 1 ≤ 10 by omega)]
    refine Ev.some ?_
    rw [Lib.decDigits_one h, Int.toNat_natCast, show ((u : Int) + 1).toNat = u + 1 by omega]
    exact digit_cut ⟨u, h⟩
  · have hd : Int.tdiv (u : Int) 10 = ((u / 10 : Nat) : Int) := by rw [Int.tdiv_eq_ediv_of_nonneg (by omega)]; omega
    have hm : Int.tmod (u : Int) 10 = ((u % 10 : Nat) : Int) := by rw [Int.tmod_eq_emod_of_nonneg (by omega)]; omega
    have h10 : u % 10 < 10 := Nat.mod_lt _ (by decide)
    simp only [if_neg (show ¬ (u : Int) < 10 by omega), hd, hm, wrap_in (show -9223372036854775808 ≤ ((u / 10 : Nat) : Int) by omega) (by omega)]
    refine Ev.bind (ih (u / 10) (by omega) (by omega)) ?_
    have hl : (Lib.decDigits (u / 10)).length ≤ 20 := by rw [Lib.decDigits_length]; exact Lib.nDigits_le20 _ (by omega)
    have e : Lib.decDigits u = Lib.decDigits (u / 10) ++ [UInt8.ofNat (48 + u % 10)] := by rw [Lib.decDigits, dif_neg h]
    simp only [if_pos (show (0 : Int) ≤ ((u % 10 : Nat) : Int) by omega), wrap_in (show -9223372036854775808 ≤ ((u % 10 : Nat) : Int) + 1 by omega) (by omega), if_pos (show ((u % 10 : Nat) : Int) ≤ ((u % 10 : Nat) : Int) + 1 by omega), if_pos (show ((u % 10 : Nat) : Int) + 1 ≤ 10 by omega), Int.toNat_natCast, show (((u % 10 : Nat) : Int) + 1).toNat = u % 10 + 1 by omega, size_of_list]
    rw [if_pos (show (Lib.decDigits (u / 10)).length + (u % 10 + 1 - u % 10) ≤ 9223372036854775807 by omega)]
    refine Ev.some ?_
    rw [e, digit_cut ⟨u % 10, h10⟩, append_lists]
theorem num_ev (n : Int) (h0 : -9223372036854775807 ≤ n) (h1 : n ≤ 9223372036854775807) : Ev (fun k => spec_l1Num.f k n) (itoaB n) := by
  unfold itoaB
  by_cases h : n < 0
  · obtain ⟨u, rfl⟩ : ∃ u : Nat, n = -(u : Int) := ⟨n.natAbs, by omega⟩
    refine Ev.step (fun k => by simp only [spec_l1Num.f]; rfl) ?_
    simp only [if_pos h, Int.neg_neg, wrap_in (show -9223372036854775808 ≤ (u : Int) by omega) (by omega)]
    refine Ev.bind (num_nat u (by omega)) ?_
    have hl : (Lib.decDigits u).length ≤ 20 := by rw [Lib.decDigits_length]; exact Lib.nDigits_le20 _ (by omega)
    rw [if_pos (by rw [size_of_list]; omega)]
    refine Ev.some ?_
    rw [Lib.itoa_neg u (by omega)]
    exact append_lists [45] _
  · obtain ⟨u, rfl⟩ : ∃ u : Nat, n = (u : Int) := ⟨n.toNat, by omega⟩
    rw [Lib.itoa_nonneg]
    exact num_nat u (by omega)
theorem itoaB_size (n : Int) (h0 : -9223372036854775808 ≤ n) (h1 : n ≤ 9223372036854775807) : (itoaB n).size ≤ 21 := by
  unfold itoaB
  rw [size_of_list]
  exact Lib.itoa_length_le n h0 h1
theorem decimal_eq (n : Int) (h0 : -9223372036854775808 ≤ n) (h1 : n ≤ 9223372036854775807) : impl_decimal.f n = some (itoaB n) := by
  unfold impl_decimal.f strconv_Itoa.f
  rw [if_pos ⟨h0, h1⟩]
  rfl

def sumStep (h : Int) (b : UInt8) : Int := (41 * h + (b.toNat : Int) + 1) % 999979
def sumL (l : List UInt8) (h : Int) : Int := l.foldl sumStep h
theorem sumStep_in (h : Int) (b : UInt8) : 0 ≤ sumStep h b ∧ sumStep h b ≤ 999978 := by unfold sumStep; omega
theorem sumL_in (l : List UInt8) (h : Int) (h0 : 0 ≤ h ∧ h ≤ 999978) : 0 ≤ sumL l h ∧ sumL l h ≤ 999978 := by
  induction l generalizing h with
  | nil => exact h0
  | cons b l ih => exact ih _ (sumStep_in h b)
theorem sum_wrap (h : Int) (b : UInt8) (h0 : 0 ≤ h ∧ h ≤ 999978) : Int.tmod (wrap64 ((wrap64 ((wrap64 (41 * h)) + (wrap64 (b.toNat : Int)))) + 1)) 999979 = sumStep h b := by
  have hb := byte_le b
  rw [wrap_in (show -9223372036854775808 ≤ 41 * h by omega) (by omega), wrap_byte, wrap_in (show -9223372036854775808 ≤ 41 * h + (b.toNat : Int) by omega) (by omega), wrap_in (show -9223372036854775808 ≤ 41 * h + (b.toNat : Int) + 1 by omega) (by omega), Int.tmod_eq_emod_of_nonneg (by omega)]
  rfl
theorem sum_ev (s : ByteArray) (hs : s.size ≤ 9223372036854775807) : Ev (fun k => spec_l1Sum.f k s) (sumL s.data.toList 7) := by
  unfold spec_l1Sum.f
  have := bytes_ind0 s (fun i rest => ∀ h : Int, 0 ≤ h ∧ h ≤ 999978 → Ev (fun k => spec_l1Sum.l0 k s h i) (sumL rest h)) ?_ ?_
  · exact this 7 (by decide)
  · intro h _
    refine Ev.step (fun k => by simp only [spec_l1Sum.l0]; rfl) ?_
    simp only [Int.lt_irrefl, if_false]
    exact Ev.now _
  · intro i b rest hi hb hd ih h hh
    refine Ev.step (fun k => by simp only [spec_l1Sum.l0]; rfl) ?_
    simp only [if_pos (show (i : Int) < (s.size : Int) by omega), if_pos (show (0 : Int) ≤ i by omega), hb, sum_wrap h b hh, wrap_in (show -9223372036854775808 ≤ (i : Int) + 1 by omega) (by omega)]
    exact ih _ (sumStep_in h b)
theorem checksum_ev (s : ByteArray) (hs : s.size ≤ 4000) : Ev (fun k => impl_Checksum.f k s) (sumL s.data.toList 7, true) := by
  unfold impl_Checksum.f
  simp only [if_neg (show ¬ (s.size : Int) > 4000 by omega)]
  have := bytes_ind0 s (fun i rest => ∀ h : Int, 0 ≤ h ∧ h ≤ 999978 → Ev (fun k => impl_Checksum.l0 k s h (s.size : Int) i) (sumL rest h, true)) ?_ ?_
  · exact this 7 (by decide)
  · intro h _
    refine Ev.step (fun k => by simp only [impl_Checksum.l0]; rfl) ?_
    simp only [Int.lt_irrefl, if_false]
    exact Ev.now _
  · intro i b rest hi hb hd ih h hh
    refine Ev.step (fun k => by simp only [impl_Checksum.l0]; rfl) ?_
    simp only [if_pos (show (i : Int) < (s.size : Int) by omega), if_pos (show (0 : Int) ≤ i by omega), hb, sum_wrap h b hh, wrap_in (show -9223372036854775808 ≤ (i : Int) + 1 by omega) (by omega)]
    exact ih _ (sumStep_in h b)

def pairTxt (a b : Int) : ByteArray := (((⟨#[40]⟩ : ByteArray) ++ itoaB a) ++ (⟨#[44]⟩ : ByteArray)) ++ itoaB b ++ (⟨#[41]⟩ : ByteArray)
def hashP (a b : Int) : Int := sumL (pairTxt a b).data.toList 7
theorem hashP_in (a b : Int) : 0 ≤ hashP a b ∧ hashP a b ≤ 999978 := sumL_in _ _ (by decide)
theorem pairTxt_size (a b : Int) : (pairTxt a b).size = 1 + (itoaB a).size + 1 + (itoaB b).size + 1 := by
  unfold pairTxt
  simp only [ByteArray.size_append]
  rfl
theorem l25Pair_ev (a b : Int) (ha : 0 ≤ a ∧ a ≤ 999978) (hb : 0 ≤ b ∧ b ≤ 999978) : Ev (fun k => spec_l25Pair.f k a b) (hashP a b) := by
  have sa := itoaB_size a (by omega) (by omega)
  have sb := itoaB_size b (by omega) (by omega)
  unfold spec_l25Pair.f
  refine Ev.bind (num_ev a (by omega) (by omega)) ?_
  refine ev_pos (by omega) (ev_pos (by omega) ?_)
  refine Ev.bind (num_ev b (by omega) (by omega)) ?_
  refine ev_pos (by omega) (ev_pos (by omega) ?_)
  exact Ev.bind (f := fun k t => some t) (sum_ev (pairTxt a b) (by rw [pairTxt_size]; omega)) (Ev.now _)
theorem pairHash_ev (a b : Int) (ha : 0 ≤ a ∧ a ≤ 999978) (hb : 0 ≤ b ∧ b ≤ 999978) : Ev (fun k => impl_pairHash.f k a b) (hashP a b) := by
  have sa := itoaB_size a (by omega) (by omega)
  have sb := itoaB_size b (by omega) (by omega)
  unfold impl_pairHash.f
  simp only [decimal_eq a (by omega) (by omega), decimal_eq b (by omega) (by omega), Option.bind_some]
  refine ev_pos (by omega) (ev_pos (by omega) (ev_pos (by omega) (ev_pos (by omega) ?_)))
  exact Ev.bind (f := fun k t => some t.1) (checksum_ev (pairTxt a b) (by rw [pairTxt_size]; omega)) (Ev.now _)
def inHash (a : Int) : Bool := decide (0 ≤ a) && decide (a ≤ 999978)
theorem inHash_iff (a : Int) : inHash a = true ↔ 0 ≤ a ∧ a ≤ 999978 := by unfold inHash; simp
theorem l25Hash_eq (a : Int) : spec_l25Hash.f a = some (inHash a) := by unfold spec_l25Hash.f; rw [l1In_eq]; rfl
theorem rd_drop {l : List Int} {i : Nat} {b : Int} {rest : List Int} (h : l.drop i = b :: rest) : rd l (i : Int) = b := (rd_at h).2.1
theorem l25Hashes_ev (l : List Int) (hl : l.length ≤ 9223372036854775807) : Ev (fun k => spec_l25Hashes.f k l) (l.all inHash) := by
  unfold spec_l25Hashes.f
  refine list_ind0 l (fun i rest => Ev (fun k => spec_l25Hashes.l0 k l i) (rest.all inHash)) ?_ ?_
  · refine Ev.step (fun k => by simp only [spec_l25Hashes.l0]; rfl) ?_
    simp only [Int.lt_irrefl, if_false, List.all_nil]
    exact Ev.now _
  · intro i x rest hi hd ih
    refine Ev.step (fun k => by simp only [spec_l25Hashes.l0]; rfl) ?_
    simp only [if_pos (show (i : Int) < (l.length : Int) by omega), if_pos (show (0 : Int) ≤ i by omega), rd_drop hd, l25Hash_eq, Option.bind_some, wrap_in (show -9223372036854775808 ≤ (i : Int) + 1 by omega) (by omega), List.all_cons]
    cases hx : inHash x with
    | false => simp only [Bool.false_eq_true, if_false, Bool.false_and]; exact Ev.now _
    | true => simp only [if_true, Bool.true_and]; exact ih
def leavesOk (l : List Int) : Bool := (decide (1 ≤ (l.length : Int)) && decide ((l.length : Int) ≤ 32)) && l.all inHash
theorem leavesOk_iff (l : List Int) : leavesOk l = true ↔ 1 ≤ l.length ∧ l.length ≤ 32 ∧ ∀ x ∈ l, inHash x = true := by
  unfold leavesOk
  simp only [Bool.and_eq_true, decide_eq_true_eq, List.all_eq_true]
  constructor
  · rintro ⟨⟨h1, h2⟩, h3⟩; exact ⟨by omega, by omega, h3⟩
  · rintro ⟨h1, h2, h3⟩; exact ⟨⟨by omega, by omega⟩, h3⟩
theorem l25Leaves_ev (l : List Int) (hl : l.length ≤ 9223372036854775807) : Ev (fun k => spec_l25Leaves.f k l) (leavesOk l) := by
  unfold spec_l25Leaves.f leavesOk
  simp only [l1In_eq, Option.bind_some]
  cases (decide (1 ≤ (l.length : Int)) && decide ((l.length : Int) ≤ 32)) with
  | false => simp only [Bool.false_eq_true, if_false, Bool.false_and]; exact Ev.now _
  | true => simp only [if_true, Bool.true_and]; exact Ev.bind (f := fun k t => some t) (l25Hashes_ev l hl) (Ev.now _)
def upL : List Int → List Int
  | [] => []
  | [a] => [a]
  | a :: b :: r => hashP a b :: upL r
theorem upL_length : ∀ l : List Int, (upL l).length = (l.length + 1) / 2
  | [] => rfl
  | [a] => by simp [upL]
  | a :: b :: r => by
    have := upL_length r
    simp only [upL, List.length_cons, this]
    omega
theorem upL_all : ∀ l : List Int, (∀ x ∈ l, inHash x = true) → ∀ x ∈ upL l, inHash x = true
  | [], h => h
  | [a], h => h
  | a :: b :: r, h => by
    intro x hx
    simp only [upL, List.mem_cons] at hx
    rcases hx with rfl | hx
    · exact (inHash_iff _).2 (hashP_in a b)
    · exact upL_all r (fun y hy => h y (by simp [hy])) x hx
theorem drop_succ {α : Type} {l : List α} {i : Nat} {a : α} {r : List α} (h : l.drop i = a :: r) : l.drop (i + 1) = r := (getD_at (d := a) h).2.2
theorem l25Up_l0 (l : List Int) (hl : l.length ≤ 32) (ha : ∀ x ∈ l, inHash x = true) : ∀ (rest : List Int) (i : Nat) (out : List Int), l.drop i = rest → out.length ≤ i → i ≤ 33 → Ev (fun k => spec_l25Up.l0 k l out i) (out ++ upL rest)
  | [], i, out, hd, ho, hi => by
    have : l.length ≤ i := List.drop_eq_nil_iff.1 hd
    refine Ev.step (fun k => by simp only [spec_l25Up.l0]; rfl) ?_
    simp only [if_neg (show ¬ (i : Int) < (l.length : Int) by omega), upL, List.append_nil]
    exact Ev.now _
  | [a], i, out, hd, ho, hi => by
    have h1 := (getD_at (d := a) hd).1
    have h2 : l.length ≤ i + 1 := List.drop_eq_nil_iff.1 (drop_succ hd)
    refine Ev.step (fun k => by simp only [spec_l25Up.l0]; rfl) ?_
    simp only [wrap_in (show -9223372036854775808 ≤ (i : Int) + 1 by omega) (by omega), wrap_in (show -9223372036854775808 ≤ (i : Int) + 2 by omega) (by omega), if_pos (show (i : Int) < (l.length : Int) by omega), if_neg (show ¬ (i : Int) + 1 < (l.length : Int) by omega), if_pos (show (0 : Int) ≤ i by omega), if_pos (show out.length < 17592186044416 by omega), rd_drop hd]
    have := l25Up_l0 l hl ha [] (i + 2) (out ++ [a]) (List.drop_eq_nil_iff.2 (by omega)) (by simp; omega) (by omega)
    simpa [upL] using this
  | a :: b :: r, i, out, hd, ho, hi => by
    have hd1 := drop_succ hd
    have hd2 := drop_succ hd1
    have h1 := (getD_at (d := a) hd1).1
    have hA : inHash a = true := ha a (List.mem_of_mem_drop (by rw [hd]; simp))
    have hB : inHash b = true := ha b (List.mem_of_mem_drop (by rw [hd]; simp))
    have eB : rd l ((i : Int) + 1) = b := by have := rd_drop hd1; simpa using this
    refine Ev.step (fun k => by simp only [spec_l25Up.l0]; rfl) ?_
    simp only [wrap_in (show -9223372036854775808 ≤ (i : Int) + 1 by omega) (by omega), wrap_in (show -9223372036854775808 ≤ (i : Int) + 2 by omega) (by omega), if_pos (show (i : Int) < (l.length : Int) by omega), if_pos (show (i : Int) + 1 < (l.length : Int) by omega), if_pos (show (0 : Int) ≤ i by omega), if_pos (show (0 : Int) ≤ (i : Int) + 1 by omega), rd_drop hd, eB]
    refine Ev.bind (l25Pair_ev a b ((inHash_iff a).1 hA) ((inHash_iff b).1 hB)) ?_
    simp only [if_pos (show out.length < 17592186044416 by omega)]
    have := l25Up_l0 l hl ha r (i + 2) (out ++ [hashP a b]) hd2 (by simp; omega) (by omega)
    simpa [upL] using this
theorem l25Up_ev (l : List Int) (hl : l.length ≤ 32) (ha : ∀ x ∈ l, inHash x = true) : Ev (fun k => spec_l25Up.f k l) (upL l) := by
  unfold spec_l25Up.f
  have := l25Up_l0 l hl ha l 0 [] rfl (Nat.le_refl _) (by omega)
  simpa using this
theorem l1Own_eq (l : List Int) (hl : l.length ≤ 1048576) : spec_l1Own.f l = some l := by
  unfold spec_l1Own.f
  simp only [Option.bind_some, List.nil_append, List.length_nil]
  rw [if_pos (by omega)]

def levelsL (l : List Int) : List (List Int) := if h : 1 < l.length then l :: levelsL (upL l) else [l]
termination_by l.length
decreasing_by rw [upL_length]; omega
theorem levelsL_one {l : List Int} (h : ¬ 1 < l.length) : levelsL l = [l] := by rw [levelsL, dif_neg h]
theorem levelsL_more {l : List Int} (h : 1 < l.length) : levelsL l = l :: levelsL (upL l) := by rw [levelsL, dif_pos h]
theorem levelsL_cons (l : List Int) : ∃ r, levelsL l = l :: r := by
  by_cases h : 1 < l.length
  · exact ⟨_, levelsL_more h⟩
  · exact ⟨_, levelsL_one h⟩
theorem levelsOf_l1 (cur : List Int) (hl : cur.length ≤ 32) (ha : ∀ x ∈ cur, inHash x = true) (out : List (List Int)) (hout : out.length ≤ 40) (r : List (List Int)) : ∀ (rest : List Int) (i : Nat) (next : List Int), cur.drop i = rest → next.length ≤ i → i ≤ 33 →
    Ev (fun k => impl_levelsOf.l0 k (next ++ upL rest) (out ++ [next ++ upL rest])) r → Ev (fun k => impl_levelsOf.l1 k cur out next i) r
  | [], i, next, hd, ho, hi, h => by
    have : cur.length ≤ i := List.drop_eq_nil_iff.1 hd
    refine Ev.step (fun k => by simp only [impl_levelsOf.l1]; rfl) ?_
    simp only [if_neg (show ¬ (i : Int) < (cur.length : Int) by omega), if_pos (show out.length < 5864062014805 by omega)]
    simpa [upL] using h
  | [a], i, next, hd, ho, hi, h => by
    have h1 := (getD_at (d := a) hd).1
    have h2 : cur.length ≤ i + 1 := List.drop_eq_nil_iff.1 (drop_succ hd)
    refine Ev.step (fun k => by simp only [impl_levelsOf.l1]; rfl) ?_
    simp only [wrap_in (show -9223372036854775808 ≤ (i : Int) + 1 by omega) (by omega), wrap_in (show -9223372036854775808 ≤ (i : Int) + 2 by omega) (by omega), if_pos (show (i : Int) < (cur.length : Int) by omega), if_neg (show ¬ (i : Int) + 1 < (cur.length : Int) by omega), if_pos (show (0 : Int) ≤ i by omega), if_pos (show next.length < 17592186044416 by omega), rd_drop hd]
    have := levelsOf_l1 cur hl ha out hout r [] (i + 2) (next ++ [a]) (List.drop_eq_nil_iff.2 (by omega)) (by simp; omega) (by omega) (by simpa [upL] using h)
    simpa using this
  | a :: b :: r', i, next, hd, ho, hi, h => by
    have hd1 := drop_succ hd
    have hd2 := drop_succ hd1
    have h1 := (getD_at (d := a) hd1).1
    have hA : inHash a = true := ha a (List.mem_of_mem_drop (by rw [hd]; simp))
    have hB : inHash b = true := ha b (List.mem_of_mem_drop (by rw [hd]; simp))
    have eB : rd cur ((i : Int) + 1) = b := by have := rd_drop hd1; simpa using this
    refine Ev.step (fun k => by simp only [impl_levelsOf.l1]; rfl) ?_
    simp only [wrap_in (show -9223372036854775808 ≤ (i : Int) + 1 by omega) (by omega), wrap_in (show -9223372036854775808 ≤ (i : Int) + 2 by omega) (by omega), if_pos (show (i : Int) < (cur.length : Int) by omega), if_pos (show (i : Int) + 1 < (cur.length : Int) by omega), if_pos (show (0 : Int) ≤ i by omega), if_pos (show (0 : Int) ≤ (i : Int) + 1 by omega), rd_drop hd, eB]
    refine Ev.bind (pairHash_ev a b ((inHash_iff a).1 hA) ((inHash_iff b).1 hB)) ?_
    simp only [if_pos (show next.length < 17592186044416 by omega)]
    have := levelsOf_l1 cur hl ha out hout r r' (i + 2) (next ++ [hashP a b]) hd2 (by simp; omega) (by omega) (by simpa [upL] using h)
    simpa using this
theorem levelsOf_l0 (n : Nat) : ∀ (cur : List Int) (out : List (List Int)), cur.length ≤ n → cur.length ≤ 32 → (∀ x ∈ cur, inHash x = true) → out.length + cur.length ≤ 34 → Ev (fun k => impl_levelsOf.l0 k cur out) (out ++ (levelsL cur).tail) := by
  induction n with
  | zero =>
    intro cur out hn hl ha ho
    refine Ev.step (fun k => by simp only [impl_levelsOf.l0]; rfl) ?_
    simp only [if_neg (show ¬ (cur.length : Int) > 1 by omega), levelsL_one (show ¬ 1 < cur.length by omega), List.tail_cons, List.append_nil]
    exact Ev.now _
  | succ n ih =>
    intro cur out hn hl ha ho
    refine Ev.step (fun k => by simp only [impl_levelsOf.l0]; rfl) ?_
    by_cases h : 1 < cur.length
    · simp only [if_pos (show (cur.length : Int) > 1 by omega)]
      have hu := upL_length cur
      refine levelsOf_l1 cur hl ha out (by omega) _ cur 0 [] rfl (Nat.le_refl _) (by omega) ?_
      simp only [List.nil_append]
      have := ih (upL cur) (out ++ [upL cur]) (by omega) (by omega) (upL_all cur ha) (by simp; omega)
      obtain ⟨r, hr⟩ := levelsL_cons (upL cur)
      rw [levelsL_more h, List.tail_cons, hr]
      rw [hr, List.tail_cons] at this
      simpa using this
    · simp only [if_neg (show ¬ (cur.length : Int) > 1 by omega), levelsL_one h, List.tail_cons, List.append_nil]
      exact Ev.now _
theorem levelsOf_ev (l : List Int) (h : leavesOk l = true) : Ev (fun k => impl_levelsOf.f k l) (levelsL l) := by
  obtain ⟨h1, h2, h3⟩ := (leavesOk_iff l).1 h
  unfold impl_levelsOf.f
  have := levelsOf_l0 l.length l [l] (Nat.le_refl _) h2 h3 (by simp; omega)
  obtain ⟨r, hr⟩ := levelsL_cons l
  rw [hr, List.tail_cons] at this
  rw [hr]
  simpa using this
def rootL (l : List Int) : Int := if h : 1 < l.length then rootL (upL l) else rd l 0
termination_by l.length
decreasing_by rw [upL_length]; omega
theorem rootL_one {l : List Int} (h : ¬ 1 < l.length) : rootL l = rd l 0 := by rw [rootL, dif_neg h]
theorem rootL_more {l : List Int} (h : 1 < l.length) : rootL l = rootL (upL l) := by rw [rootL, dif_pos h]
theorem levels_last (n : Nat) : ∀ l : List Int, l.length ≤ n → 1 ≤ l.length → 0 < ((levelsL l).getD ((levelsL l).length - 1) []).length ∧ rd ((levelsL l).getD ((levelsL l).length - 1) []) 0 = rootL l ∧ (levelsL l).length ≤ n := by
  induction n with
  | zero => intro l h1 h2; omega
  | succ n ih =>
    intro l h1 h2
    by_cases h : 1 < l.length
    · have hu := upL_length l
      obtain ⟨i1, i2, i3⟩ := ih (upL l) (by omega) (by omega)
      obtain ⟨r, hr⟩ := levelsL_cons (upL l)
      rw [levelsL_more h, rootL_more h]
      have e : (l :: levelsL (upL l)).getD ((l :: levelsL (upL l)).length - 1) [] = (levelsL (upL l)).getD ((levelsL (upL l)).length - 1) [] := by
        rw [hr]; simp
      rw [e]
      exact ⟨i1, i2, by simp; omega⟩
    · rw [levelsL_one h, rootL_one h]
      simp
      omega

theorem rootOf_ev (l : List Int) (h : leavesOk l = true) : Ev (fun k => impl_rootOf.f k l) (rootL l) := by
  obtain ⟨h1, h2, h3⟩ := (leavesOk_iff l).1 h
  obtain ⟨q1, q2, q3⟩ := levels_last l.length l (Nat.le_refl _) h1
  obtain ⟨r, hr⟩ := levelsL_cons l
  have hn : 1 ≤ (levelsL l).length := by rw [hr]; simp
  unfold impl_rootOf.f
  refine Ev.bind (levelsOf_ev l h) ?_
  have e : rd_L5 (levelsL l) (((levelsL l).length : Int) - 1) = (levelsL l).getD ((levelsL l).length - 1) [] := by
    unfold rd_L5
    rw [show (((levelsL l).length : Int) - 1).toNat = (levelsL l).length - 1 by omega]
  simp only [wrap_in (show -9223372036854775808 ≤ ((levelsL l).length : Int) - 1 by omega) (by omega), if_pos (show (0 : Int) ≤ ((levelsL l).length : Int) - 1 by omega), if_pos (show ((levelsL l).length : Int) - 1 < ((levelsL l).length : Int) by omega), e, if_pos (show (0 : Int) < (((levelsL l).getD ((levelsL l).length - 1) []).length : Int) by omega)]
  exact Ev.some q2

theorem l25Root_l0 (n : Nat) : ∀ l : List Int, l.length ≤ n → 1 ≤ l.length → l.length ≤ 32 → (∀ x ∈ l, inHash x = true) → Ev (fun k => spec_l25Root.l0 k l) (rootL l) := by
  induction n with
  | zero => intro l h1 h2; omega
  | succ n ih =>
    intro l h1 h2 h3 ha
    refine Ev.step (fun k => by simp only [spec_l25Root.l0]; rfl) ?_
    by_cases h : 1 < l.length
    · have hu := upL_length l
      simp only [if_pos (show (l.length : Int) > 1 by omega)]
      refine Ev.bind (l25Up_ev l h3 ha) ?_
      rw [rootL_more h]
      exact ih (upL l) (by omega) (by omega) (by omega) (upL_all l ha)
    · simp only [if_neg (show ¬ (l.length : Int) > 1 by omega), if_pos (show (0 : Int) < (l.length : Int) by omega)]
      rw [rootL_one h]
      exact Ev.now _
theorem l25Root_ev (l : List Int) (h : leavesOk l = true) : Ev (fun k => spec_l25Root.f k l) (rootL l) := by
  obtain ⟨h1, h2, h3⟩ := (leavesOk_iff l).1 h
  unfold spec_l25Root.f
  simp only [l1Own_eq l (by omega), Option.bind_some]
  exact l25Root_l0 l.length l (Nat.le_refl _) h1 h2 h3
def treeRoot (l : List Int) : Int × Bool := if leavesOk l then (rootL l, true) else (0, false)
theorem specRoot_ev (l : List Int) (hl : l.length ≤ 9223372036854775807) : Ev (fun k => spec_TreeRoot.f k l) (treeRoot l) := by
  unfold spec_TreeRoot.f treeRoot
  refine Ev.bind (l25Leaves_ev l hl) ?_
  cases h : leavesOk l with
  | false => simp only [Bool.false_eq_true, if_false]; exact Ev.now _
  | true => simp only [if_true]; exact Ev.bind (f := fun k t => some (t, true)) (l25Root_ev l h) (Ev.now _)
def leafTxt (a : Int) (s : ByteArray) : ByteArray := (itoaB a ++ (⟨#[58]⟩ : ByteArray)) ++ s
def hashL (a : Int) (s : ByteArray) : Int := sumL (leafTxt a s).data.toList 7
theorem hashL_in (a : Int) (s : ByteArray) : 0 ≤ hashL a s ∧ hashL a s ≤ 999978 := sumL_in _ _ (by decide)
theorem leafTxt_size (a : Int) (s : ByteArray) : (leafTxt a s).size = (itoaB a).size + 1 + s.size := by
  unfold leafTxt
  simp only [ByteArray.size_append]
  rfl
def goodEv (a : Int) (s : ByteArray) : Bool := (decide (0 ≤ a) && decide (a ≤ 999999)) && decide ((s.size : Int) ≤ 200)
theorem goodEv_iff (a : Int) (s : ByteArray) : goodEv a s = true ↔ 0 ≤ a ∧ a ≤ 999999 ∧ s.size ≤ 200 := by
  unfold goodEv
  simp only [Bool.and_eq_true, decide_eq_true_eq]
  omega
theorem l25Good_eq (a : Int) (s : ByteArray) : spec_l25Good.f a s = some (goodEv a s) := by
  unfold spec_l25Good.f goodEv
  rw [l1In_eq]
  simp only [Option.bind_some]
  cases (decide (0 ≤ a) && decide (a ≤ 999999)) <;> rfl
theorem isEvidence_eq (a : Int) (s : ByteArray) : impl_isEvidence.f a s = some (goodEv a s) := by
  unfold impl_isEvidence.f goodEv
  rw [within_eq]
  simp only [Option.bind_some]
  cases (decide (0 ≤ a) && decide (a ≤ 999999)) <;> rfl
theorem l25Leaf_ev (a : Int) (s : ByteArray) (h : goodEv a s = true) : Ev (fun k => spec_l25Leaf.f k a s) (hashL a s) := by
  rw [goodEv_iff] at h
  have sa := itoaB_size a (by omega) (by omega)
  unfold spec_l25Leaf.f
  refine Ev.bind (num_ev a (by omega) (by omega)) ?_
  refine ev_pos (by omega) (ev_pos (by omega) ?_)
  exact Ev.bind (f := fun k t => some t) (sum_ev (leafTxt a s) (by rw [leafTxt_size]; omega)) (Ev.now _)
theorem leafHash_ev (a : Int) (s : ByteArray) (h : goodEv a s = true) : Ev (fun k => impl_leafHash.f k a s) (hashL a s) := by
  rw [goodEv_iff] at h
  have sa := itoaB_size a (by omega) (by omega)
  unfold impl_leafHash.f
  simp only [decimal_eq a (by omega) (by omega), Option.bind_some]
  refine ev_pos (by omega) (ev_pos (by omega) ?_)
  exact Ev.bind (f := fun k t => some t.1) (checksum_ev (leafTxt a s) (by rw [leafTxt_size]; omega)) (Ev.now _)

def toEv (x : S26) : S29 := ⟨x.f0, x.f1⟩
theorem rd_evL {l : List S26} {i : Nat} {x : S26} {rest : List S26} (hd : l.drop i = x :: rest) : rd_T26 l (i : Int) = x := by
  rw [rd_T26, Int.toNat_natCast]; exact (getD_at hd).2.1
theorem rd_evI {l : List S29} {i : Nat} {x : S29} {rest : List S29} (hd : l.drop i = x :: rest) : rd_T29 l (i : Int) = x := by
  rw [rd_T29, Int.toNat_natCast]; exact (getD_at hd).2.1
theorem szEvs_ev (l : List S26) (hl : l.length ≤ 9223372036854775807) (hs : ∀ y ∈ l, y.f1.size ≤ 9223372036854775807) : ∃ t, Ev (fun k => laws_szEvidenceS.f k l 1048576) t ∧ (t < 0 ∨ l.length ≤ 1048576) := by
  unfold laws_szEvidenceS.f
  rw [wrap_in (show -9223372036854775808 ≤ 1048576 - (l.length : Int) by omega) (by omega)]
  by_cases h : 1048576 - (l.length : Int) < 0
  · refine ⟨-1, ?_, Or.inl (by decide)⟩
    simp only [if_pos h]
    exact Ev.now _
  · simp only [if_neg h]
    have key := list_ind0 l (fun i rest => ∀ a : Int, 0 ≤ a ∧ a ≤ 1048576 → ∃ t, Ev (fun k => laws_szEvidenceS.l0 k l a i) t) ?_ ?_
    · obtain ⟨t, ht⟩ := key (1048576 - (l.length : Int)) (by omega)
      exact ⟨t, ht, Or.inr (by omega)⟩
    · intro a ha
      refine ⟨a, ?_⟩
      refine Ev.step (fun k => by simp only [laws_szEvidenceS.l0]; rfl) ?_
      simp only [Int.lt_irrefl, if_false]
      exact Ev.now _
    · intro i x rest hi hd ih a ha
      have hx := hs x (List.mem_of_mem_drop (by rw [hd]; simp))
      by_cases h2 : a - (x.f1.size : Int) < 0
      · refine ⟨-1, ?_⟩
        refine Ev.step (fun k => by simp only [laws_szEvidenceS.l0]; rfl) ?_
        simp only [if_pos (show (i : Int) < (l.length : Int) by omega), if_pos (show (0 : Int) ≤ i by omega), laws_szEvidence.f, rd_evL hd, wrap_in (show -9223372036854775808 ≤ a - (x.f1.size : Int) by omega) (by omega), if_pos h2, Option.bind_some, show (-1 : Int) < 0 by decide, if_true]
        exact Ev.now _
      · obtain ⟨t, ht⟩ := ih (a - (x.f1.size : Int)) (by omega)
        refine ⟨t, ?_⟩
        refine Ev.step (fun k => by simp only [laws_szEvidenceS.l0]; rfl) ?_
        simp only [if_pos (show (i : Int) < (l.length : Int) by omega), if_pos (show (0 : Int) ≤ i by omega), laws_szEvidence.f, rd_evL hd, wrap_in (show -9223372036854775808 ≤ a - (x.f1.size : Int) by omega) (by omega), if_neg h2, Option.bind_some, wrap_in (show -9223372036854775808 ≤ (i : Int) + 1 by omega) (by omega)]
        exact ht
theorem toEvs_ev (l : List S26) (hl : l.length ≤ 1048576) : Ev (fun k => laws_toEvidenceS.f k l) (l.map toEv) := by
  unfold laws_toEvidenceS.f
  simp only [if_pos (show (0 : Int) ≤ (l.length : Int) by omega), Int.toNat_natCast, if_pos (show l.length ≤ 11728124029610 by omega)]
  refine ev_copy l toEv z29 (fun k out i => laws_toEvidenceS.l0 k l out i) (fun out ho => ?_) (fun i x rest out r hi hd ho h => ?_)
  · refine Ev.step (fun k => by simp only [laws_toEvidenceS.l0]; rfl) ?_
    simp only [Int.lt_irrefl, if_false]
    exact Ev.now _
  · refine Ev.step (fun k => by simp only [laws_toEvidenceS.l0]; rfl) ?_
    simp only [if_pos (show (i : Int) < (l.length : Int) by omega), if_pos (show (0 : Int) ≤ i by omega), laws_toEvidence.f, Option.bind_some, if_pos (show (i : Int) < (out.length : Int) by omega), rd_evL hd, Int.toNat_natCast, wrap_in (show -9223372036854775808 ≤ (i : Int) + 1 by omega) (by omega)]
    exact h
theorem eqEvs_ev (l : List S29) (hl : l.length ≤ 1048576) : Ev (fun k => laws_eqEvidenceS.f k l l) true := by
  unfold laws_eqEvidenceS.f
  simp only [if_true]
  refine list_ind0 l (fun i rest => Ev (fun k => laws_eqEvidenceS.l0 k l l i) true) ?_ ?_
  · refine Ev.step (fun k => by simp only [laws_eqEvidenceS.l0]; rfl) ?_
    simp only [Int.lt_irrefl, if_false]
    exact Ev.now _
  · intro i x rest hi hd ih
    refine Ev.step (fun k => by simp only [laws_eqEvidenceS.l0]; rfl) ?_
    simp only [if_pos (show (i : Int) < (l.length : Int) by omega), if_pos (show (0 : Int) ≤ i by omega), laws_eqEvidence.f, Option.bind_some, if_true, wrap_in (show -9223372036854775808 ≤ (i : Int) + 1 by omega) (by omega)]
    exact ih

def goodE (x : S29) : Bool := goodEv x.f0 x.f1
def hashE (x : S29) : Int := hashL x.f0 x.f1
def evRoot (l : List S29) : Int × Bool := if decide (1 ≤ l.length) && decide (l.length ≤ 32) && l.all goodE then (rootL (l.map hashE), true) else (0, false)
theorem hashes_ok (l : List S29) : ∀ x ∈ l.map hashE, inHash x = true := by
  intro x hx
  obtain ⟨y, _, rfl⟩ := List.mem_map.1 hx
  exact (inHash_iff _).2 (hashL_in _ _)
theorem leaves_map (l : List S29) : leavesOk (l.map hashE) = (decide (1 ≤ l.length) && decide (l.length ≤ 32)) := by
  rw [Bool.eq_iff_iff, leavesOk_iff, Bool.and_eq_true, decide_eq_true_eq, decide_eq_true_eq, List.length_map]
  exact ⟨fun h => ⟨h.1, h.2.1⟩, fun h => ⟨h.1, h.2, hashes_ok l⟩⟩
theorem specEv_ev (l : List S29) (hl : l.length ≤ 1048576) : Ev (fun k => spec_EvidenceRoot.f k l) (evRoot l) := by
  have tree (m : List S29) (hm : m.length ≤ 1048576) (h : (if decide (1 ≤ m.length) && decide (m.length ≤ 32) then (rootL (m.map hashE), true) else (0, false)) = evRoot l) : Ev (fun k => (spec_TreeRoot.f k (m.map hashE)).bind fun bt => some (bt.1, bt.2)) (evRoot l) := by
    refine Ev.bind (f := fun k bt => some (bt.1, bt.2)) (specRoot_ev (m.map hashE) (by simp; omega)) ?_
    refine Ev.some ?_
    rw [← h, treeRoot, leaves_map]
  unfold spec_EvidenceRoot.f
  have key := list_ind0 l (fun i rest => i ≤ 33 → (l.take i).all goodE = true → Ev (fun k => spec_EvidenceRoot.l0 k l ((l.take i).map hashE) i) (evRoot l)) ?_ ?_
  · simpa using key
  · intro hi hg
    rw [List.take_length] at hg ⊢
    refine Ev.step (fun k => by simp only [spec_EvidenceRoot.l0]; rfl) ?_
    simp only [Int.lt_irrefl, if_false]
    refine Ev.step (fun k => by simp only [spec_EvidenceRoot.j1]; rfl) ?_
    simp only [Bool.false_eq_true, if_false]
    refine tree l hl ?_
    unfold evRoot
    rw [hg, Bool.and_true]
  · intro i x rest hi hd ih h33 hg
    have hx : (l.take (i + 1)) = l.take i ++ [x] := take_succ_at hd
    refine Ev.step (fun k => by simp only [spec_EvidenceRoot.l0]; rfl) ?_
    simp only [if_pos (show (i : Int) < (l.length : Int) by omega)]
    refine Ev.step (fun k => by simp only [spec_EvidenceRoot.j1]; rfl) ?_
    by_cases h : i ≤ 32
    · have hlen : ((l.take i).map hashE).length = i := by simp; omega
      simp only [decide_eq_true (show (i : Int) ≤ 32 by omega), if_true, if_pos (show (i : Int) < (l.length : Int) by omega), if_pos (show (0 : Int) ≤ i by omega), rd_evI hd, l25Good_eq, Option.bind_some]
      cases hgx : goodEv x.f0 x.f1 with
      | false =>
        simp only [Bool.false_eq_true, if_false]
        refine Ev.some ?_
        have : l.all goodE = false := by
          rw [List.all_eq_false]
          exact ⟨x, List.mem_of_mem_drop (by rw [hd]; simp), by rw [goodE, hgx]; simp⟩
        unfold evRoot
        rw [this, Bool.and_false]; rfl
      | true =>
        simp only [if_true]
        refine Ev.bind (l25Leaf_ev x.f0 x.f1 hgx) ?_
        simp only [hlen, if_pos (show i < 17592186044416 by omega), wrap_in (show -9223372036854775808 ≤ (i : Int) + 1 by omega) (by omega)]
        have := ih (by omega) (by rw [hx, List.all_append, hg, Bool.true_and, List.all_cons, goodE, hgx]; rfl)
        rw [hx, List.map_append] at this
        exact this
    · simp only [decide_eq_false (show ¬ (i : Int) ≤ 32 by omega), Bool.false_eq_true, if_false]
      refine tree (l.take i) (by simp; omega) ?_
      unfold evRoot
      rw [decide_eq_false (show ¬ (l.take i).length ≤ 32 by simp; omega), decide_eq_false (show ¬ l.length ≤ 32 by omega)]
      simp
theorem anyBad_ev (l : List S29) (hl : l.length ≤ 1048576) : Ev (fun k => slices_ContainsFunc_Evidence_Evidence_impl_EvidenceRoot_1.f k l) (!l.all goodE) := by
  have key : ∃ r : Int, Ev (fun k => slices_IndexFunc_Evidence_Evidence_impl_EvidenceRoot_1.f k l) r ∧ decide (r ≥ 0) = !l.all goodE := by
    unfold slices_IndexFunc_Evidence_Evidence_impl_EvidenceRoot_1.f
    refine list_ind0 l (fun i rest => ∃ r : Int, Ev (fun k => slices_IndexFunc_Evidence_Evidence_impl_EvidenceRoot_1.l0 k l (l.length : Int) i) r ∧ decide (r ≥ 0) = !rest.all goodE) ?_ ?_
    · refine ⟨-1, ?_, by simp⟩
      refine Ev.step (fun k => by simp only [slices_IndexFunc_Evidence_Evidence_impl_EvidenceRoot_1.l0]; rfl) ?_
      simp only [Int.lt_irrefl, if_false]
      exact Ev.now _
    · intro i x rest hi hd ih
      obtain ⟨r, hr, he⟩ := ih
      have hc : XFnExactEvidenceRoot.impl_EvidenceRoot_1.f x.f0 x.f1 = some (!goodE x) := by unfold XFnExactEvidenceRoot.impl_EvidenceRoot_1.f; rw [isEvidence_eq]; rfl
      cases hx : goodE x with
      | false =>
        refine ⟨i, ?_, by rw [List.all_cons, hx]; simp⟩
        refine Ev.step (fun k => by simp only [slices_IndexFunc_Evidence_Evidence_impl_EvidenceRoot_1.l0]; rfl) ?_
        simp only [if_pos (show (i : Int) < (l.length : Int) by omega), if_pos (show (0 : Int) ≤ i by omega), rd_evI hd, hc, hx, Option.bind_some, Bool.not_false, if_true]
        exact Ev.now _
      | true =>
        refine ⟨r, ?_, by rw [List.all_cons, hx, Bool.true_and]; exact he⟩
        refine Ev.step (fun k => by simp only [slices_IndexFunc_Evidence_Evidence_impl_EvidenceRoot_1.l0]; rfl) ?_
        simp only [if_pos (show (i : Int) < (l.length : Int) by omega), if_pos (show (0 : Int) ≤ i by omega), rd_evI hd, hc, hx, Option.bind_some, Bool.not_true, Bool.false_eq_true, if_false, wrap_in (show -9223372036854775808 ≤ (i : Int) + 1 by omega) (by omega)]
        exact hr
  obtain ⟨r, hr, he⟩ := key
  unfold slices_ContainsFunc_Evidence_Evidence_impl_EvidenceRoot_1.f
  exact Ev.bind hr (Ev.some he)
theorem implEv_ev (l : List S29) (hl : l.length ≤ 1048576) : Ev (fun k => impl_EvidenceRoot.f k l) (evRoot l) := by
  have j (c : Bool) (hc : c = !(decide (1 ≤ l.length) && decide (l.length ≤ 32) && l.all goodE)) : Ev (fun k => impl_EvidenceRoot.j0 k l c) (evRoot l) := by
    subst hc
    refine Ev.step (fun k => by simp only [impl_EvidenceRoot.j0]; rfl) ?_
    unfold evRoot
    cases h : decide (1 ≤ l.length) && decide (l.length ≤ 32) && l.all goodE with
    | false => simp only [Bool.not_false, if_true, Bool.false_eq_true, if_false]; exact Ev.now _
    | true =>
      simp only [Bool.not_true, if_true, Bool.false_eq_true, if_false]
      simp only [Bool.and_eq_true, decide_eq_true_eq] at h
      have hall : ∀ x ∈ l, goodE x = true := List.all_eq_true.1 h.2
      have key := list_ind0 l (fun i rest => Ev (fun k => impl_EvidenceRoot.l0 k ((l.take i).map hashE) l (l.length : Int) i) (rootL (l.map hashE), true)) ?_ ?_
      · simpa using key
      · refine Ev.step (fun k => by simp only [impl_EvidenceRoot.l0]; rfl) ?_
        simp only [Int.lt_irrefl, if_false, List.take_length]
        exact Ev.bind (f := fun k t => some (t, true)) (rootOf_ev (l.map hashE) (by rw [leaves_map, decide_eq_true h.1.1, decide_eq_true h.1.2]; rfl)) (Ev.now _)
      · intro i x rest hi hd ih
        have hlen : ((l.take i).map hashE).length = i := by simp; omega
        have hgx : goodEv x.f0 x.f1 = true := hall x (List.mem_of_mem_drop (by rw [hd]; simp))
        refine Ev.step (fun k => by simp only [impl_EvidenceRoot.l0]; rfl) ?_
        simp only [if_pos (show (i : Int) < (l.length : Int) by omega), if_pos (show (0 : Int) ≤ i by omega), rd_evI hd]
        refine Ev.bind (leafHash_ev x.f0 x.f1 hgx) ?_
        simp only [hlen, if_pos (show i < 17592186044416 by omega), wrap_in (show -9223372036854775808 ≤ (i : Int) + 1 by omega) (by omega)]
        have hx : (l.take (i + 1)) = l.take i ++ [x] := take_succ_at hd
        rw [hx, List.map_append] at ih
        exact ih
  unfold impl_EvidenceRoot.f
  have e : (decide (1 ≤ (l.length : Int)) && decide ((l.length : Int) ≤ 32)) = (decide (1 ≤ l.length) && decide (l.length ≤ 32)) := by
    rw [Bool.eq_iff_iff]; simp only [Bool.and_eq_true, decide_eq_true_eq]; omega
  simp only [within_eq, Option.bind_some, e]
  cases hw : decide (1 ≤ l.length) && decide (l.length ≤ 32) with
  | false => simp only [Bool.false_eq_true, if_false]; exact j true (by rw [hw]; rfl)
  | true =>
    simp only [if_true]
    exact Ev.bind (anyBad_ev l hl) (j _ (by rw [hw, Bool.true_and]))
theorem FnExactEvidenceRoot : XGFnExactEvidenceRoot.Pure := by
  intro l hl
  refine Ev.rounds ?_
  unfold laws_FnExactEvidenceRoot.f
  obtain ⟨t, ht, hs⟩ := szEvs_ev l hl.1 (fun y hy => (hl.2 y hy).2)
  refine Ev.bind ht ?_
  by_cases h1 : t < 0
  · simp only [if_pos h1]; exact Ev.now _
  have hll : l.length ≤ 1048576 := by omega
  simp only [if_neg h1]
  refine Ev.bind (toEvs_ev l hll) ?_
  refine Ev.bind (specEv_ev _ (by simp; omega)) ?_
  refine Ev.bind (toEvs_ev l hll) ?_
  refine Ev.bind (implEv_ev _ (by simp; omega)) ?_
  simp only [if_true, bne_self_eq_false]
  refine Ev.step (fun k => by simp only [laws_FnExactEvidenceRoot.j0]; rfl) ?_
  simp only [Bool.false_eq_true, if_false]
  refine Ev.bind (toEvs_ev l hll) ?_
  refine Ev.bind (eqEvs_ev _ (by simp; omega)) ?_
  simp only [if_true]
  exact Ev.now _

end Go.Proofs.YtnfmlglhoboooaaDoor.Pure

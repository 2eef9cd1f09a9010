/- The pure statement of the law FnExactVerifyLeaf, proved: what the program computes agrees with the reference, in plain Lean. -/
import Derived.Test.YtnfmlglhoboooaaDoorXGFnExactVerifyLeaf
import Derived.Test.YtnfmlglhoboooaaDoorXPlain
import Derived.Lib.ItoaLen
set_option linter.unusedVariables false
set_option linter.unusedSimpArgs false
namespace Go.Proofs.YtnfmlglhoboooaaDoor.Pure
open Go.RowKit Go.Proofs.YtnfmlglhoboooaaDoor Go.Proofs.YtnfmlglhoboooaaDoor.XFnExactVerifyLeaf Go.Proofs.YtnfmlglhoboooaaDoor.XGFnExactVerifyLeaf Go.Proofs.YtnfmlglhoboooaaDoorW.PrintWords Go.Proofs.YtnfmlglhoboooaaDoorW.PrintLast Go.Proofs.YtnfmlglhoboooaaDoor.Plain

theorem l1In_eq (a b c : Int) : spec_l1In.f a b c = some (decide (b ≤ a) && decide (a ≤ c)) := by
  unfold spec_l1In.f
  by_cases h : a ≥ b
  · rw [if_pos h, decide_eq_true (show b ≤ a from h), Bool.true_and]
  · rw [if_neg h, decide_eq_false (show ¬ b ≤ a from h), Bool.false_and]
theorem within_eq (a b c : Int) : impl_within.f a b c = some (decide (b ≤ a) && decide (a ≤ c)) := by
  unfold impl_within.f
  by_cases h : a ≥ b
  · rw [if_pos h, decide_eq_true (show b ≤ a from h), Bool.true_and]
  · rw [if_neg h, decide_eq_false (show ¬ b ≤ a from h), Bool.false_and]

def itoaB (n : Int) : ByteArray := ⟨(Lib.itoa n).toArray⟩
theorem size_of_list (l : List UInt8) : (⟨l.toArray⟩ : ByteArray).size = l.length := by simp [ByteArray.size]
theorem digit_cut (u : Fin 10) : (⟨#[48, 49, 50, 51, 52, 53, 54, 55, 56, 57]⟩ : ByteArray).extract u.val (u.val + 1) = ⟨[UInt8.ofNat (48 + u.val)].toArray⟩ := by
  revert u; decide +kernel
theorem append_lists (a b : List UInt8) : (⟨a.toArray⟩ : ByteArray) ++ ⟨b.toArray⟩ = ⟨(a ++ b).toArray⟩ := by
  apply ByteArray.ext
  simp
theorem num_nat (u : Nat) : u ≤ 9223372036854775807 → Ev (fun k => spec_l1Num.f k u) ⟨(Lib.decDigits u).toArray⟩ := by
  induction u using Nat.strongRecOn with
  | _ u ih =>
  intro hu
  refine Ev.step (fun k => by simp only [spec_l1Num.f]; rfl) ?_
  simp only [if_neg (show ¬ (u : Int) < 0 by omega)]
  by_cases h : u < 10
  · simp only [if_pos (show (u : Int) < 10 by omega), if_pos (show (0 : Int) ≤ u by omega), wrap_in (show -9223372036854775808 ≤ (u : Int) + 1 by omega) (by omega), if_pos (show (u : Int) ≤ u + 1 by omega), if_pos (show (u : Int) + 1 ≤ 10 by omega)]
    refine Ev.some ?_
    rw [Lib.decDigits_one h, Int.toNat_natCast, show ((u : Int) + 1).toNat = u + 1 by omega]
    exact digit_cut ⟨u, h⟩
  · have hd : Int.tdiv (u : Int) 10 = ((u / 10 : Nat) : Int) := by rw [Int.tdiv_eq_ediv_of_nonneg (by omega)]; omega
    have hm : Int.tmod (u : Int) 10 = ((u % 10 : Nat) : Int) := by rw [Int.tmod_eq_emod_of_nonneg (by omega)]; omega
    have h10 : u % 10 < 10 := Nat.mod_lt _ (by decide)
    simp only [if_neg (show ¬ (u : Int) < 10 by omega), hd, hm, wrap_in (show -9223372036854775808 ≤ ((u / 10 : Nat) : Int) by omega) (by omega)]
    refine Ev.bind (ih (u / 10) (by omega) (by omega)) ?_
    have hl : (Lib.decDigits (u / 10)).length ≤ 20 := by rw [Lib.decDigits_length]; exact Lib.nDigits_le20 _ (by omega)
    have e : Lib.decDigits u = Lib.decDigits (u / 10) ++ [UInt8.ofNat (48 + u % 10)] := by rw [Lib.decDigits, dif_neg h]
    simp only [if_pos (show (0 : Int) ≤ ((u % 10 : Nat) : Int) by omega), wrap_in (show -9223372036854775808 ≤ ((u % 10 : Nat) : Int) + 1 by omega) (by omega), if_pos (show ((u % 10 : Nat) : Int) ≤ ((u % 10 : Nat) : Int) + 1 by omega), if_pos (show ((u % 10 : Nat) : Int) + 1 ≤ 10 by omega), Int.toNat_natCast, show (((u % 10 : Nat) : Int) + 1).toNat = u % 10 + 1 by omega, size_of_list]
    rw [if_pos (show (Lib.decDigits (u / 10)).length + (u % 10 + 1 - u % 10) ≤ 9223372036854775807 by omega)]
    refine Ev.some ?_
    rw [e, digit_cut ⟨u % 10, h10⟩, append_lists]
theorem num_ev (n : Int) (h0 : -9223372036854775807 ≤ n) (h1 : n ≤ 9223372036854775807) : Ev (fun k => spec_l1Num.f k n) (itoaB n) := by
  unfold itoaB
  by_cases h : n < 0
  · obtain ⟨u, rfl⟩ : ∃ u : Nat, n = -(u : Int) := ⟨n.natAbs, by omega⟩
    refine Ev.step (fun k => by simp only [spec_l1Num.f]; rfl) ?_
    simp only [if_pos h, Int.neg_neg, wrap_in (show -9223372036854775808 ≤ (u : Int) by omega) (by omega)]
    refine Ev.bind (num_nat u (by omega)) ?_
    have hl : (Lib.decDigits u).length ≤ 20 := by rw [Lib.decDigits_length]; exact Lib.nDigits_le20 _ (by omega)
    rw [if_pos (by rw [size_of_list]; omega)]
    refine Ev.some ?_
    rw [Lib.itoa_neg u (by omega)]
    exact append_lists [45] _
  · obtain ⟨u, rfl⟩ : ∃ u : Nat, n = (u : Int) := ⟨n.toNat, by omega⟩
    rw [Lib.itoa_nonneg]
    exact num_nat u (by omega)
theorem itoaB_size (n : Int) (h0 : -9223372036854775808 ≤ n) (h1 : n ≤ 9223372036854775807) : (itoaB n).size ≤ 21 := by
  unfold itoaB
  rw [size_of_list]
  exact Lib.itoa_length_le n h0 h1
theorem decimal_eq (n : Int) (h0 : -9223372036854775808 ≤ n) (h1 : n ≤ 9223372036854775807) : impl_decimal.f n = some (itoaB n) := by
  unfold impl_decimal.f strconv_Itoa.f
  rw [if_pos ⟨h0, h1⟩]
  rfl

def sumStep (h : Int) (b : UInt8) : Int := (41 * h + (b.toNat : Int) + 1) % 999979
def sumL (l : List UInt8) (h : Int) : Int := l.foldl sumStep h
theorem sumStep_in (h : Int) (b : UInt8) : 0 ≤ sumStep h b ∧ sumStep h b ≤ 999978 := by unfold sumStep; omega
theorem sumL_in (l : List UInt8) (h : Int) (h0 : 0 ≤ h ∧ h ≤ 999978) : 0 ≤ sumL l h ∧ sumL l h ≤ 999978 := by
  induction l generalizing h with
  | nil => exact h0
  | cons b l ih => exact ih _ (sumStep_in h b)
theorem sum_wrap (h : Int) (b : UInt8) (h0 : 0 ≤ h ∧ h ≤ 999978) : Int.tmod (wrap64 ((wrap64 ((wrap64 (41 * h)) + (wrap64 (b.toNat : Int)))) + 1)) 999979 = sumStep h b := by
  have hb := byte_le b
  rw [wrap_in (show -9223372036854775808 ≤ 41 * h by omega) (by omega), wrap_byte, wrap_in (show -9223372036854775808 ≤ 41 * h + (b.toNat : Int) by omega) (by omega), wrap_in (show -9223372036854775808 ≤ 41 * h + (b.toNat : Int) + 1 by omega) (by omega), Int.tmod_eq_emod_of_nonneg (by omega)]
  rfl
theorem sum_ev (s : ByteArray) (hs : s.size ≤ 9223372036854775807) : Ev (fun k => spec_l1Sum.f k s) (sumL s.data.toList 7) := by
  unfold spec_l1Sum.f
  have := bytes_ind0 s (fun i rest => ∀ h : Int, 0 ≤ h ∧ h ≤ 999978 → Ev (fun k => spec_l1Sum.l0 k s h i) (sumL rest h)) ?_ ?_
  · exact this 7 (by decide)
  · intro h _
    refine Ev.step (fun k => by simp only [spec_l1Sum.l0]; rfl) ?_
    simp only [Int.lt_irrefl, if_false]
    exact Ev.now _
  · intro i b rest hi hb hd ih h hh
    refine Ev.step (fun k => by simp only [spec_l1Sum.l0]; rfl) ?_
    simp only [if_pos (show (i : Int) < (s.size : Int) by omega), if_pos (show (0 : Int) ≤ i by omega), hb, sum_wrap h b hh, wrap_in (show -9223372036854775808 ≤ (i : Int) + 1 by omega) (by omega)]
    exact ih _ (sumStep_in h b)
theorem checksum_ev (s : ByteArray) (hs : s.size ≤ 4000) : Ev (fun k => impl_Checksum.f k s) (sumL s.data.toList 7, true) := by
  unfold impl_Checksum.f
  simp only [if_neg (show ¬ (s.size : Int) > 4000 by omega)]
  have := bytes_ind0 s (fun i rest => ∀ h : Int, 0 ≤ h ∧ h ≤ 999978 → Ev (fun k => impl_Checksum.l0 k s h (s.size : Int) i) (sumL rest h, true)) ?_ ?_
  · exact this 7 (by decide)
  · intro h _
    refine Ev.step (fun k => by simp only [impl_Checksum.l0]; rfl) ?_
    simp only [Int.lt_irrefl, if_false]
    exact Ev.now _
  · intro i b rest hi hb hd ih h hh
    refine Ev.step (fun k => by simp only [impl_Checksum.l0]; rfl) ?_
    simp only [if_pos (show (i : Int) < (s.size : Int) by omega), if_pos (show (0 : Int) ≤ i by omega), hb, sum_wrap h b hh, wrap_in (show -9223372036854775808 ≤ (i : Int) + 1 by omega) (by omega)]
    exact ih _ (sumStep_in h b)

def pairTxt (a b : Int) : ByteArray := (((⟨#[40]⟩ : ByteArray) ++ itoaB a) ++ (⟨#[44]⟩ : ByteArray)) ++ itoaB b ++ (⟨#[41]⟩ : ByteArray)
def hashP (a b : Int) : Int := sumL (pairTxt a b).data.toList 7
theorem hashP_in (a b : Int) : 0 ≤ hashP a b ∧ hashP a b ≤ 999978 := sumL_in _ _ (by decide)
theorem pairTxt_size (a b : Int) : (pairTxt a b).size = 1 + (itoaB a).size + 1 + (itoaB b).size + 1 := by
  unfold pairTxt
  simp only [ByteArray.size_append]
  rfl
theorem l25Pair_ev (a b : Int) (ha : 0 ≤ a ∧ a ≤ 999978) (hb : 0 ≤ b ∧ b ≤ 999978) : Ev (fun k => spec_l25Pair.f k a b) (hashP a b) := by
  have sa := itoaB_size a (by omega) (by omega)
  have sb := itoaB_size b (by omega) (by omega)
  unfold spec_l25Pair.f
  refine Ev.bind (num_ev a (by omega) (by omega)) ?_
  refine ev_pos (by omega) (ev_pos (by omega) ?_)
  refine Ev.bind (num_ev b (by omega) (by omega)) ?_
  refine ev_pos (by omega) (ev_pos (by omega) ?_)
  exact Ev.bind (f := fun k t => some t) (sum_ev (pairTxt a b) (by rw [pairTxt_size]; omega)) (Ev.now _)
theorem pairHash_ev (a b : Int) (ha : 0 ≤ a ∧ a ≤ 999978) (hb : 0 ≤ b ∧ b ≤ 999978) : Ev (fun k => impl_pairHash.f k a b) (hashP a b) := by
  have sa := itoaB_size a (by omega) (by omega)
  have sb := itoaB_size b (by omega) (by omega)
  unfold impl_pairHash.f
  simp only [decimal_eq a (by omega) (by omega), decimal_eq b (by omega) (by omega), Option.bind_some]
  refine ev_pos (by omega) (ev_pos (by omega) (ev_pos (by omega) (ev_pos (by omega) ?_)))
  exact Ev.bind (f := fun k t => some t.1) (checksum_ev (pairTxt a b) (by rw [pairTxt_size]; omega)) (Ev.now _)
def inHash (a : Int) : Bool := decide (0 ≤ a) && decide (a ≤ 999978)
theorem inHash_iff (a : Int) : inHash a = true ↔ 0 ≤ a ∧ a ≤ 999978 := by unfold inHash; simp
theorem l25Hash_eq (a : Int) : spec_l25Hash.f a = some (inHash a) := by unfold spec_l25Hash.f; rw [l1In_eq]; rfl
theorem isHash_eq (a : Int) : impl_isHash.f a = some (inHash a) := by unfold impl_isHash.f; rw [within_eq]; rfl

def toStep (x : S76) : S74 := ⟨x.f0, x.f1⟩
theorem toSteps_ev (l : List S76) (hl : l.length ≤ 1048576) : Ev (fun k => laws_toProofStepS.f k l) (l.map toStep) := by
  unfold laws_toProofStepS.f
  simp only [if_pos (show (0 : Int) ≤ (l.length : Int) by omega), Int.toNat_natCast, if_pos (show l.length ≤ 17592186044416 by omega)]
  refine ev_copy l toStep z74 (fun k out i => laws_toProofStepS.l0 k l out i) (fun out ho => ?_) (fun i x rest out r hi hd ho h => ?_)
  · refine Ev.step (fun k => by simp only [laws_toProofStepS.l0]; rfl) ?_
    simp only [Int.lt_irrefl, if_false]
    exact Ev.now _
  · refine Ev.step (fun k => by simp only [laws_toProofStepS.l0]; rfl) ?_
    have hx : rd_T76 l (i : Int) = x := by rw [rd_T76, Int.toNat_natCast]; exact (getD_at hd).2.1
    simp only [if_pos (show (i : Int) < (l.length : Int) by omega), if_pos (show (0 : Int) ≤ i by omega), laws_toProofStep.f, Option.bind_some, if_pos (show (i : Int) < (out.length : Int) by omega), hx, Int.toNat_natCast, wrap_in (show -9223372036854775808 ≤ (i : Int) + 1 by omega) (by omega)]
    exact h
theorem eqSteps_ev (l : List S74) (hl : l.length ≤ 1048576) : Ev (fun k => laws_eqProofStepS.f k l l) true := by
  unfold laws_eqProofStepS.f
  simp only [if_true]
  refine list_ind0 l (fun i rest => Ev (fun k => laws_eqProofStepS.l0 k l l i) true) ?_ ?_
  · refine Ev.step (fun k => by simp only [laws_eqProofStepS.l0]; rfl) ?_
    simp only [Int.lt_irrefl, if_false]
    exact Ev.now _
  · intro i x rest hi hd ih
    refine Ev.step (fun k => by simp only [laws_eqProofStepS.l0]; rfl) ?_
    simp only [if_pos (show (i : Int) < (l.length : Int) by omega), if_pos (show (0 : Int) ≤ i by omega), laws_eqProofStep.f, Option.bind_some, if_true, bne_self_eq_false, Bool.false_eq_true, if_false, wrap_in (show -9223372036854775808 ≤ (i : Int) + 1 by omega) (by omega)]
    exact ih

/-- What a list of steps makes of a hash; none where a step's hash is no hash. -/
def climb (l : List S74) (h : Int) : Option Int :=
  match l with
  | [] => some h
  | x :: l => if inHash x.f0 = true then climb l (if x.f1 = true then hashP x.f0 h else hashP h x.f0) else none
def verified (root leaf : Int) (l : List S74) : Bool × Bool :=
  if inHash root && inHash leaf && !decide ((l.length : Int) > 10) then (match climb l leaf with | some h => (h == root, true) | none => (false, false)) else (false, false)
theorem rd_at_step {l : List S74} {i : Nat} {x : S74} {rest : List S74} (hd : l.drop i = x :: rest) : rd_T74 l (i : Int) = x := by
  rw [rd_T74, Int.toNat_natCast]; exact (getD_at hd).2.1
theorem spec_l0_ev (root : Int) (l : List S74) (hl : l.length ≤ 10) (h : Int) (h0 : 0 ≤ h ∧ h ≤ 999978) : Ev (fun k => spec_VerifyLeaf.l0 k root l h 0) (match climb l h with | some h => (h == root, true) | none => (false, false)) := by
  refine list_ind0 l (fun i rest => ∀ h : Int, 0 ≤ h ∧ h ≤ 999978 → Ev (fun k => spec_VerifyLeaf.l0 k root l h i) (match climb rest h with | some h => (h == root, true) | none => (false, false))) ?_ ?_ h h0
  · intro h _
    refine Ev.step (fun k => by simp only [spec_VerifyLeaf.l0]; rfl) ?_
    simp only [Int.lt_irrefl, if_false, climb]
    exact Ev.now _
  · intro i x rest hi hd ih h hh
    refine Ev.step (fun k => by simp only [spec_VerifyLeaf.l0]; rfl) ?_
    simp only [if_pos (show (i : Int) < (l.length : Int) by omega), if_pos (show (0 : Int) ≤ i by omega), rd_at_step hd, l25Hash_eq, Option.bind_some, wrap_in (show -9223372036854775808 ≤ (i : Int) + 1 by omega) (by omega), climb]
    cases hx : inHash x.f0 with
    | false => simp only [Bool.false_eq_true, if_false]; exact Ev.now _
    | true =>
      have hx' := (inHash_iff x.f0).1 hx
      simp only [if_true]
      cases hf : x.f1 with
      | false =>
        simp only [Bool.false_eq_true, if_false]
        exact Ev.bind (l25Pair_ev h x.f0 hh hx') (ih _ (hashP_in _ _))
      | true =>
        simp only [if_true]
        exact Ev.bind (l25Pair_ev x.f0 h hx' hh) (ih _ (hashP_in _ _))
theorem impl_l0_ev (root : Int) (l : List S74) (hl : l.length ≤ 10) (h : Int) (h0 : 0 ≤ h ∧ h ≤ 999978) : Ev (fun k => impl_VerifyLeaf.l0 k root h l (l.length : Int) 0) (match climb l h with | some h => (h == root, true) | none => (false, false)) := by
  refine list_ind0 l (fun i rest => ∀ h : Int, 0 ≤ h ∧ h ≤ 999978 → Ev (fun k => impl_VerifyLeaf.l0 k root h l (l.length : Int) i) (match climb rest h with | some h => (h == root, true) | none => (false, false))) ?_ ?_ h h0
  · intro h _
    refine Ev.step (fun k => by simp only [impl_VerifyLeaf.l0]; rfl) ?_
    simp only [Int.lt_irrefl, if_false, climb]
    exact Ev.now _
  · intro i x rest hi hd ih h hh
    refine Ev.step (fun k => by simp only [impl_VerifyLeaf.l0]; rfl) ?_
    simp only [if_pos (show (i : Int) < (l.length : Int) by omega), if_pos (show (0 : Int) ≤ i by omega), rd_at_step hd, isHash_eq, Option.bind_some, wrap_in (show -9223372036854775808 ≤ (i : Int) + 1 by omega) (by omega), climb]
    cases hx : inHash x.f0 with
    | false => simp only [Bool.false_eq_true, if_false]; exact Ev.now _
    | true =>
      have hx' := (inHash_iff x.f0).1 hx
      simp only [if_true]
      cases hf : x.f1 with
      | false =>
        simp only [Bool.false_eq_true, if_false]
        exact Ev.bind (pairHash_ev h x.f0 hh hx') (ih _ (hashP_in _ _))
      | true =>
        simp only [if_true]
        exact Ev.bind (pairHash_ev x.f0 h hx' hh) (ih _ (hashP_in _ _))
theorem spec_ev (a b : Int) (l : List S74) : Ev (fun k => spec_VerifyLeaf.f k a b l) (verified a b l) := by
  have j (c : Bool) (hc : c = false → 0 ≤ b ∧ b ≤ 999978 ∧ l.length ≤ 10) : Ev (fun k => spec_VerifyLeaf.j0 k a b l c) (if c = true then (false, false) else (match climb l b with | some h => (h == a, true) | none => (false, false))) := by
    refine Ev.step (fun k => by simp only [spec_VerifyLeaf.j0]; rfl) ?_
    cases c with
    | true => simp only [if_true]; exact Ev.now _
    | false =>
      simp only [Bool.false_eq_true, if_false]
      obtain ⟨h1, h2, h3⟩ := hc rfl
      exact spec_l0_ev a l h3 b ⟨h1, h2⟩
  unfold spec_VerifyLeaf.f verified
  simp only [l25Hash_eq, Option.bind_some]
  cases ha : inHash a with
  | false => simp only [Bool.false_and, Bool.false_eq_true, if_false]; simpa using j true (by simp)
  | true =>
    cases hb : inHash b with
    | false => simp only [Bool.and_false, Bool.false_and, Bool.false_eq_true, if_false, if_true]; simpa using j true (by simp)
    | true =>
      have hb' := (inHash_iff b).1 hb
      simp only [if_true, Bool.true_and]
      by_cases h : (l.length : Int) > 10
      · simp only [decide_eq_true h, Bool.not_true, Bool.false_eq_true, if_false]; simpa using j true (by simp)
      · simp only [decide_eq_false h, Bool.not_false, if_true]
        simpa using j false (fun _ => ⟨hb'.1, hb'.2, by omega⟩)
theorem impl_ev (a b : Int) (l : List S74) : Ev (fun k => impl_VerifyLeaf.f k a b l) (verified a b l) := by
  have j (c : Bool) (hc : c = false → 0 ≤ b ∧ b ≤ 999978 ∧ l.length ≤ 10) : Ev (fun k => impl_VerifyLeaf.j0 k a b l c) (if c = true then (false, false) else (match climb l b with | some h => (h == a, true) | none => (false, false))) := by
    refine Ev.step (fun k => by simp only [impl_VerifyLeaf.j0]; rfl) ?_
    cases c with
    | true => simp only [if_true]; exact Ev.now _
    | false =>
      simp only [Bool.false_eq_true, if_false]
      obtain ⟨h1, h2, h3⟩ := hc rfl
      exact impl_l0_ev a l h3 b ⟨h1, h2⟩
  unfold impl_VerifyLeaf.f verified
  simp only [isHash_eq, Option.bind_some]
  cases ha : inHash a with
  | false => simp only [Bool.false_and, Bool.false_eq_true, if_false]; simpa using j true (by simp)
  | true =>
    cases hb : inHash b with
    | false => simp only [Bool.and_false, Bool.false_and, Bool.false_eq_true, if_false, if_true]; simpa using j true (by simp)
    | true =>
      have hb' := (inHash_iff b).1 hb
      simp only [if_true, Bool.true_and]
      by_cases h : (l.length : Int) > 10
      · simp only [decide_eq_true h, Bool.not_true, Bool.false_eq_true, if_false]; simpa using j true (by simp)
      · simp only [decide_eq_false h, Bool.not_false, if_true]
        simpa using j false (fun _ => ⟨hb'.1, hb'.2, by omega⟩)
theorem FnExactVerifyLeaf : XGFnExactVerifyLeaf.Pure := by
  intro a b l _ _ hl
  refine Ev.rounds ?_
  unfold laws_FnExactVerifyLeaf.f laws_szProofStepS.f
  rw [wrap_in (show -9223372036854775808 ≤ 1048576 - (l.length : Int) by omega) (by omega)]
  by_cases h1 : 1048576 - (l.length : Int) < 0
  · simp only [if_pos h1, Option.bind_some, show (-1 : Int) < 0 by decide, if_true]
    exact Ev.now _
  · simp only [if_neg h1, Option.bind_some]
    refine Ev.bind (toSteps_ev l (by omega)) ?_
    refine Ev.bind (spec_ev a b _) ?_
    refine Ev.bind (toSteps_ev l (by omega)) ?_
    refine Ev.bind (impl_ev a b _) ?_
    simp only [bne_self_eq_false, Bool.false_eq_true, if_false]
    refine Ev.step (fun k => by simp only [laws_FnExactVerifyLeaf.j0]; rfl) ?_
    simp only [Bool.false_eq_true, if_false]
    refine Ev.bind (toSteps_ev l (by omega)) ?_
    refine Ev.bind (eqSteps_ev _ (by simp; omega)) ?_
    simp only [if_true]
    exact Ev.now _

end Go.Proofs.YtnfmlglhoboooaaDoor.Pure

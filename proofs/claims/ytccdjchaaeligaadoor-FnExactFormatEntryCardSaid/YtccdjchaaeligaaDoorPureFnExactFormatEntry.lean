/- The pure statement of the law FnExactFormatEntry, proved: what the program computes agrees with the reference, in plain Lean. -/
import Derived.Test.YtccdjchaaeligaaDoorXGFnExactFormatEntry
import Derived.Test.YtccdjchaaeligaaDoorXPlain
import Derived.Lib.ItoaLen
set_option linter.unusedVariables false
set_option linter.unusedSimpArgs false
namespace Go.Proofs.YtccdjchaaeligaaDoor.Pure
open Go.RowKit Go.Proofs.YtccdjchaaeligaaDoor Go.Proofs.YtccdjchaaeligaaDoor.XFnExactFormatEntry Go.Proofs.YtccdjchaaeligaaDoor.XGFnExactFormatEntry Go.Proofs.YtccdjchaaeligaaDoorW.PrintWords Go.Proofs.YtccdjchaaeligaaDoorW.PrintLast Go.Proofs.YtccdjchaaeligaaDoor.Plain

theorem l1In_eq (a b c : Int) : spec_l1In.f a b c = some (decide (b ≤ a) && decide (a ≤ c)) := by
  unfold spec_l1In.f
  by_cases h : a ≥ b
  · rw [if_pos h, decide_eq_true (show b ≤ a from h), Bool.true_and]
  · rw [if_neg h, decide_eq_false (show ¬ b ≤ a from h), Bool.false_and]
theorem within_eq (a b c : Int) : impl_within.f a b c = some (decide (b ≤ a) && decide (a ≤ c)) := by
  unfold impl_within.f
  by_cases h : a ≥ b
  · rw [if_pos h, decide_eq_true (show b ≤ a from h), Bool.true_and]
  · rw [if_neg h, decide_eq_false (show ¬ b ≤ a from h), Bool.false_and]

theorem rdLA {l : List S109} {i : Nat} {x : S109} {r : List S109} (hd : l.drop i = x :: r) : rd_T109 l (i : Int) = x := by rw [rd_T109, Int.toNat_natCast]; exact (getD_at hd).2.1
theorem rdLP {l : List S120} {i : Nat} {x : S120} {r : List S120} (hd : l.drop i = x :: r) : rd_T120 l (i : Int) = x := by rw [rd_T120, Int.toNat_natCast]; exact (getD_at hd).2.1
theorem rdLE {l : List S58} {i : Nat} {x : S58} {r : List S58} (hd : l.drop i = x :: r) : rd_T58 l (i : Int) = x := by rw [rd_T58, Int.toNat_natCast]; exact (getD_at hd).2.1
theorem rdA {l : List S48} {i : Nat} {x : S48} {r : List S48} (hd : l.drop i = x :: r) : rd_T48 l (i : Int) = x := by rw [rd_T48, Int.toNat_natCast]; exact (getD_at hd).2.1
theorem rdP {l : List S70} {i : Nat} {x : S70} {r : List S70} (hd : l.drop i = x :: r) : rd_T70 l (i : Int) = x := by rw [rd_T70, Int.toNat_natCast]; exact (getD_at hd).2.1
theorem rdE {l : List S63} {i : Nat} {x : S63} {r : List S63} (hd : l.drop i = x :: r) : rd_T63 l (i : Int) = x := by rw [rd_T63, Int.toNat_natCast]; exact (getD_at hd).2.1
theorem mem_drop {α : Type} {l : List α} {i : Nat} {x : α} {r : List α} (hd : l.drop i = x :: r) : x ∈ l := List.mem_of_mem_drop (by rw [hd]; simp)
def toP (x : S120) : S70 := ⟨x.f0, x.f1⟩
def toA (x : S109) : S48 := ⟨x.f0, x.f1⟩
def toE (x : S58) : S63 := ⟨x.f0, x.f1, x.f2.map toP⟩
theorem szAccounts_ev (l : List S109) (a : Int) (ha : 0 ≤ a ∧ a ≤ 1048576) (hl : l.length ≤ 9223372036854775807) (hs : ∀ y ∈ l, y.f0.size ≤ 9223372036854775807) : ∃ t, Ev (fun k => laws_szAccountS.f k l a) t ∧ (t < 0 ∨ l.length ≤ 1048576 ∧ t ≤ a) := by
  unfold laws_szAccountS.f
  rw [wrap_in (show -9223372036854775808 ≤ a - (l.length : Int) by omega) (by omega)]
  by_cases h : a - (l.length : Int) < 0
  · refine ⟨-1, ?_, Or.inl (by decide)⟩
    simp only [if_pos h]; exact Ev.now _
  · simp only [if_neg h]
    have key := list_ind0 l (fun i rest => ∀ b : Int, 0 ≤ b ∧ b ≤ 1048576 → ∃ t, Ev (fun k => laws_szAccountS.l0 k l b i) t ∧ t ≤ b) ?_ ?_
    · obtain ⟨t, ht, hb⟩ := key (a - (l.length : Int)) (by omega)
      exact ⟨t, ht, Or.inr ⟨by omega, by omega⟩⟩
    · intro b hb
      refine ⟨b, ?_, Int.le_refl _⟩
      refine Ev.step (fun k => by simp only [laws_szAccountS.l0]; rfl) ?_
      simp only [Int.lt_irrefl, if_false]; exact Ev.now _
    · intro i x rest hi hd ih b hb
      have hx := hs x (mem_drop hd)
      by_cases h2 : b - (x.f0.size : Int) < 0
      · refine ⟨-1, ?_, by omega⟩
        refine Ev.step (fun k => by simp only [laws_szAccountS.l0]; rfl) ?_
        simp only [if_pos (show (i : Int) < (l.length : Int) by omega), if_pos (show (0 : Int) ≤ i by omega), laws_szAccount.f, rdLA hd, wrap_in (show -9223372036854775808 ≤ b - (x.f0.size : Int) by omega) (by omega), if_pos h2, Option.bind_some, show (-1 : Int) < 0 by decide, if_true]
        exact Ev.now _
      · obtain ⟨t, ht, htb⟩ := ih (b - (x.f0.size : Int)) (by omega)
        refine ⟨t, ?_, by omega⟩
        refine Ev.step (fun k => by simp only [laws_szAccountS.l0]; rfl) ?_
        simp only [if_pos (show (i : Int) < (l.length : Int) by omega), if_pos (show (0 : Int) ≤ i by omega), laws_szAccount.f, rdLA hd, wrap_in (show -9223372036854775808 ≤ b - (x.f0.size : Int) by omega) (by omega), if_neg h2, Option.bind_some, wrap_in (show -9223372036854775808 ≤ (i : Int) + 1 by omega) (by omega)]
        exact ht
theorem szPostings_eq (l : List S120) (b : Int) (hb : 0 ≤ b ∧ b ≤ 1048576) (hl : l.length ≤ 9223372036854775807) : laws_szPostingS.f l b = some (if b - (l.length : Int) < 0 then -1 else b - (l.length : Int)) := by
  unfold laws_szPostingS.f
  rw [wrap_in (show -9223372036854775808 ≤ b - (l.length : Int) by omega) (by omega)]
  split <;> rfl
theorem szEntry_eq (x : S58) (b : Int) (hb : 0 ≤ b ∧ b ≤ 1048576) (h1 : x.f1.size ≤ 9223372036854775807) (h2 : x.f2.length ≤ 9223372036854775807) : ∃ t, laws_szBookEntry.f x.f0 x.f1 x.f2 b = some t ∧ (t < 0 ∨ 0 ≤ t ∧ t ≤ b ∧ x.f2.length ≤ 1048576) := by
  unfold laws_szBookEntry.f
  rw [wrap_in (show -9223372036854775808 ≤ b - (x.f1.size : Int) by omega) (by omega)]
  by_cases h : b - (x.f1.size : Int) < 0
  · exact ⟨-1, by rw [if_pos h], Or.inl (by decide)⟩
  · rw [if_neg h, szPostings_eq x.f2 _ (by omega) h2]
    by_cases h' : b - (x.f1.size : Int) - (x.f2.length : Int) < 0
    · exact ⟨-1, by simp [if_pos h'], Or.inl (by decide)⟩
    · exact ⟨b - (x.f1.size : Int) - (x.f2.length : Int), by simp only [if_neg h', Option.bind_some], Or.inr (by omega)⟩
theorem szEntries_ev (l : List S58) (a : Int) (ha : 0 ≤ a ∧ a ≤ 1048576) (hl : l.length ≤ 9223372036854775807) (hs : ∀ y ∈ l, y.f1.size ≤ 9223372036854775807 ∧ y.f2.length ≤ 9223372036854775807) : ∃ t, Ev (fun k => laws_szBookEntryS.f k l a) t ∧ (t < 0 ∨ t ≤ a ∧ l.length ≤ 1048576 ∧ ∀ y ∈ l, y.f2.length ≤ 1048576) := by
  unfold laws_szBookEntryS.f
  rw [wrap_in (show -9223372036854775808 ≤ a - (l.length : Int) by omega) (by omega)]
  by_cases h : a - (l.length : Int) < 0
  · refine ⟨-1, ?_, Or.inl (by decide)⟩
    simp only [if_pos h]; exact Ev.now _
  · simp only [if_neg h]
    have key := list_ind0 l (fun i rest => ∀ b : Int, 0 ≤ b ∧ b ≤ 1048576 → ∃ t, Ev (fun k => laws_szBookEntryS.l0 k l b i) t ∧ (t < 0 ∨ t ≤ b ∧ ∀ y ∈ rest, y.f2.length ≤ 1048576)) ?_ ?_
    · obtain ⟨t, ht, hb⟩ := key (a - (l.length : Int)) (by omega)
      refine ⟨t, ht, hb.imp_right (fun q => ⟨by omega, by omega, q.2⟩)⟩
    · intro b hb
      refine ⟨b, ?_, Or.inr ⟨Int.le_refl _, by simp⟩⟩
      refine Ev.step (fun k => by simp only [laws_szBookEntryS.l0]; rfl) ?_
      simp only [Int.lt_irrefl, if_false]; exact Ev.now _
    · intro i x rest hi hd ih b hb
      have hx := hs x (mem_drop hd)
      obtain ⟨t, et, ht⟩ := szEntry_eq x b hb hx.1 hx.2
      by_cases h2 : t < 0
      · refine ⟨-1, ?_, Or.inl (by decide)⟩
        refine Ev.step (fun k => by simp only [laws_szBookEntryS.l0]; rfl) ?_
        simp only [if_pos (show (i : Int) < (l.length : Int) by omega), if_pos (show (0 : Int) ≤ i by omega), rdLE hd, et, Option.bind_some, if_pos h2]
        exact Ev.now _
      · obtain ⟨u, hu, hub⟩ := ih t (by omega)
        refine ⟨u, ?_, hub.imp_right (fun q => ⟨by omega, ?_⟩)⟩
        · refine Ev.step (fun k => by simp only [laws_szBookEntryS.l0]; rfl) ?_
          simp only [if_pos (show (i : Int) < (l.length : Int) by omega), if_pos (show (0 : Int) ≤ i by omega), rdLE hd, et, Option.bind_some, if_neg h2, wrap_in (show -9223372036854775808 ≤ (i : Int) + 1 by omega) (by omega)]
          exact hu
        · intro y hy
          rcases List.mem_cons.1 hy with rfl | hy
          · omega
          · exact q.2 y hy
/-- The sizes that the laws let in. -/
def Small (a : List S109) (e : List S58) : Prop := a.length ≤ 1048576 ∧ e.length ≤ 1048576 ∧ ∀ y ∈ e, y.f2.length ≤ 1048576
theorem szLedger_ev (a : List S109) (e : List S58) (ha : a.length ≤ 9223372036854775807 ∧ ∀ y ∈ a, y.f0.size ≤ 9223372036854775807) (he : e.length ≤ 9223372036854775807 ∧ ∀ y ∈ e, y.f1.size ≤ 9223372036854775807 ∧ y.f2.length ≤ 9223372036854775807) : ∃ t, Ev (fun k => laws_szLedger.f k a e 1048576) t ∧ (t < 0 ∨ Small a e ∧ t ≤ 1048576) := by
  unfold laws_szLedger.f
  obtain ⟨t, ht, hb⟩ := szAccounts_ev a 1048576 (by omega) ha.1 ha.2
  by_cases h : t < 0
  · refine ⟨-1, Ev.bind ht ?_, Or.inl (by decide)⟩
    simp only [if_pos h]; exact Ev.now _
  · obtain ⟨u, hu, hub⟩ := szEntries_ev e t (by omega) he.1 he.2
    by_cases h2 : u < 0
    · refine ⟨-1, Ev.bind ht ?_, Or.inl (by decide)⟩
      simp only [if_neg h]
      refine Ev.bind hu ?_
      simp only [if_pos h2]; exact Ev.now _
    · refine ⟨u, Ev.bind ht ?_, Or.inr ?_⟩
      · simp only [if_neg h]
        refine Ev.bind hu ?_
        simp only [if_neg h2]; exact Ev.now _
      · rcases hb with hb | hb
        · omega
        · rcases hub with hub | hub
          · omega
          · exact ⟨⟨hb.1, hub.2.1, hub.2.2⟩, by omega⟩
theorem toPostings_ev (l : List S120) (hl : l.length ≤ 1048576) : Ev (fun k => laws_toPostingS.f k l) (l.map toP) := by
  unfold laws_toPostingS.f
  simp only [if_pos (show (0 : Int) ≤ (l.length : Int) by omega), Int.toNat_natCast, if_pos (show l.length ≤ 17592186044416 by omega)]
  refine ev_copy l toP z70 (fun k out i => laws_toPostingS.l0 k l out i) (fun out ho => ?_) (fun i x rest out r hi hd ho h => ?_)
  · refine Ev.step (fun k => by simp only [laws_toPostingS.l0]; rfl) ?_
    simp only [Int.lt_irrefl, if_false]; exact Ev.now _
  · refine Ev.step (fun k => by simp only [laws_toPostingS.l0]; rfl) ?_
    simp only [if_pos (show (i : Int) < (l.length : Int) by omega), if_pos (show (0 : Int) ≤ i by omega), laws_toPosting.f, Option.bind_some, if_pos (show (i : Int) < (out.length : Int) by omega), rdLP hd, Int.toNat_natCast, wrap_in (show -9223372036854775808 ≤ (i : Int) + 1 by omega) (by omega)]
    exact h
theorem toAccounts_ev (l : List S109) (hl : l.length ≤ 1048576) : Ev (fun k => laws_toAccountS.f k l) (l.map toA) := by
  unfold laws_toAccountS.f
  simp only [if_pos (show (0 : Int) ≤ (l.length : Int) by omega), Int.toNat_natCast, if_pos (show l.length ≤ 11728124029610 by omega)]
  refine ev_copy l toA z48 (fun k out i => laws_toAccountS.l0 k l out i) (fun out ho => ?_) (fun i x rest out r hi hd ho h => ?_)
  · refine Ev.step (fun k => by simp only [laws_toAccountS.l0]; rfl) ?_
    simp only [Int.lt_irrefl, if_false]; exact Ev.now _
  · refine Ev.step (fun k => by simp only [laws_toAccountS.l0]; rfl) ?_
    simp only [if_pos (show (i : Int) < (l.length : Int) by omega), if_pos (show (0 : Int) ≤ i by omega), laws_toAccount.f, Option.bind_some, if_pos (show (i : Int) < (out.length : Int) by omega), rdLA hd, Int.toNat_natCast, wrap_in (show -9223372036854775808 ≤ (i : Int) + 1 by omega) (by omega)]
    exact h
theorem toEntry_ev (x : S58) (hl : x.f2.length ≤ 1048576) : Ev (fun k => laws_toBookEntry.f k x.f0 x.f1 x.f2) (x.f0, x.f1, x.f2.map toP) := by
  unfold laws_toBookEntry.f
  exact Ev.bind (toPostings_ev x.f2 hl) (Ev.now _)
theorem toEntries_ev (l : List S58) (hl : l.length ≤ 1048576) (hs : ∀ y ∈ l, y.f2.length ≤ 1048576) : Ev (fun k => laws_toBookEntryS.f k l) (l.map toE) := by
  unfold laws_toBookEntryS.f
  simp only [if_pos (show (0 : Int) ≤ (l.length : Int) by omega), Int.toNat_natCast, if_pos (show l.length ≤ 5864062014805 by omega)]
  refine ev_copy l toE z63 (fun k out i => laws_toBookEntryS.l0 k l out i) (fun out ho => ?_) (fun i x rest out r hi hd ho h => ?_)
  · refine Ev.step (fun k => by simp only [laws_toBookEntryS.l0]; rfl) ?_
    simp only [Int.lt_irrefl, if_false]; exact Ev.now _
  · refine Ev.step (fun k => by simp only [laws_toBookEntryS.l0]; rfl) ?_
    simp only [if_pos (show (i : Int) < (l.length : Int) by omega), if_pos (show (0 : Int) ≤ i by omega), rdLE hd]
    refine Ev.bind (toEntry_ev x (hs x (mem_drop hd))) ?_
    simp only [if_pos (show (i : Int) < (out.length : Int) by omega), Int.toNat_natCast, wrap_in (show -9223372036854775808 ≤ (i : Int) + 1 by omega) (by omega)]
    exact h
theorem toLedger_ev (a : List S109) (e : List S58) (h : Small a e) : Ev (fun k => laws_toLedger.f k a e) (a.map toA, e.map toE) := by
  unfold laws_toLedger.f
  refine Ev.bind (toAccounts_ev a h.1) ?_
  exact Ev.bind (toEntries_ev e h.2.1 h.2.2) (Ev.now _)
/-- The sizes of what the laws hand on. -/
def Fits (a : List S48) (e : List S63) : Prop := a.length ≤ 1048576 ∧ e.length ≤ 1048576 ∧ ∀ y ∈ e, y.f2.length ≤ 1048576
theorem fits_to (a : List S109) (e : List S58) (h : Small a e) : Fits (a.map toA) (e.map toE) := by
  refine ⟨by simpa using h.1, by simpa using h.2.1, fun y hy => ?_⟩
  obtain ⟨x, hx, rfl⟩ := List.mem_map.1 hy
  simpa [toE] using h.2.2 x hx
theorem eqPostings_ev (l : List S70) (hl : l.length ≤ 1048576) : Ev (fun k => laws_eqPostingS.f k l l) true := by
  unfold laws_eqPostingS.f
  simp only [if_true]
  refine list_ind0 l (fun i rest => Ev (fun k => laws_eqPostingS.l0 k l l i) true) ?_ ?_
  · refine Ev.step (fun k => by simp only [laws_eqPostingS.l0]; rfl) ?_
    simp only [Int.lt_irrefl, if_false]; exact Ev.now _
  · intro i x rest hi hd ih
    refine Ev.step (fun k => by simp only [laws_eqPostingS.l0]; rfl) ?_
    simp only [if_pos (show (i : Int) < (l.length : Int) by omega), if_pos (show (0 : Int) ≤ i by omega), laws_eqPosting.f, Option.bind_some, if_true, wrap_in (show -9223372036854775808 ≤ (i : Int) + 1 by omega) (by omega)]
    exact ih
theorem eqAccounts_ev (l : List S48) (hl : l.length ≤ 1048576) : Ev (fun k => laws_eqAccountS.f k l l) true := by
  unfold laws_eqAccountS.f
  simp only [if_true]
  refine list_ind0 l (fun i rest => Ev (fun k => laws_eqAccountS.l0 k l l i) true) ?_ ?_
  · refine Ev.step (fun k => by simp only [laws_eqAccountS.l0]; rfl) ?_
    simp only [Int.lt_irrefl, if_false]; exact Ev.now _
  · intro i x rest hi hd ih
    refine Ev.step (fun k => by simp only [laws_eqAccountS.l0]; rfl) ?_
    simp only [if_pos (show (i : Int) < (l.length : Int) by omega), if_pos (show (0 : Int) ≤ i by omega), laws_eqAccount.f, Option.bind_some, if_true, wrap_in (show -9223372036854775808 ≤ (i : Int) + 1 by omega) (by omega)]
    exact ih
theorem eqEntry_ev (x : S63) (hl : x.f2.length ≤ 1048576) : Ev (fun k => laws_eqBookEntry.f k x.f0 x.f1 x.f2 x.f0 x.f1 x.f2) true := by
  unfold laws_eqBookEntry.f
  simp only [if_true]
  refine Ev.bind (eqPostings_ev x.f2 hl) ?_
  simp only [if_true]; exact Ev.now _
theorem eqEntries_ev (l : List S63) (hl : l.length ≤ 1048576) (hs : ∀ y ∈ l, y.f2.length ≤ 1048576) : Ev (fun k => laws_eqBookEntryS.f k l l) true := by
  unfold laws_eqBookEntryS.f
  simp only [if_true]
  refine list_ind0 l (fun i rest => Ev (fun k => laws_eqBookEntryS.l0 k l l i) true) ?_ ?_
  · refine Ev.step (fun k => by simp only [laws_eqBookEntryS.l0]; rfl) ?_
    simp only [Int.lt_irrefl, if_false]; exact Ev.now _
  · intro i x rest hi hd ih
    refine Ev.step (fun k => by simp only [laws_eqBookEntryS.l0]; rfl) ?_
    simp only [if_pos (show (i : Int) < (l.length : Int) by omega), if_pos (show (0 : Int) ≤ i by omega), rdE hd]
    refine Ev.bind (eqEntry_ev x (hs x (mem_drop hd))) ?_
    simp only [if_true, wrap_in (show -9223372036854775808 ≤ (i : Int) + 1 by omega) (by omega)]
    exact ih
theorem eqLedger_ev (a : List S48) (e : List S63) (h : Fits a e) : Ev (fun k => laws_eqLedger.f k a e a e) true := by
  unfold laws_eqLedger.f
  refine Ev.bind (eqAccounts_ev a h.1) ?_
  simp only [if_true]
  refine Ev.bind (eqEntries_ev e h.2.1 h.2.2) ?_
  simp only [if_true]; exact Ev.now _

def bIn (a b c : Int) : Bool := decide (b ≤ a) && decide (a ≤ c)
theorem bIn_iff (a b c : Int) : bIn a b c = true ↔ b ≤ a ∧ a ≤ c := by unfold bIn; simp
theorem l1In_b (a b c : Int) : spec_l1In.f a b c = some (bIn a b c) := l1In_eq a b c
theorem within_b (a b c : Int) : impl_within.f a b c = some (bIn a b c) := within_eq a b c
def amt (a : Int) : Bool := bIn a (-1000000000) 1000000000
theorem amt_iff (a : Int) : amt a = true ↔ -1000000000 ≤ a ∧ a ≤ 1000000000 := bIn_iff _ _ _
theorem l2Amount_eq (a : Int) : spec_l2Amount.f a = some (amt a) := by unfold spec_l2Amount.f; rw [l1In_b]; rfl
theorem isAmount_eq (a : Int) : impl_isAmount.f a = some (amt a) := by unfold impl_isAmount.f; rw [within_b]; rfl
def dayOk (a : Int) : Bool := bIn a 0 36524
theorem l3Good_eq (a : Int) : spec_l3Good.f a = some (dayOk a) := by unfold spec_l3Good.f; rw [l1In_b]; rfl
theorem isDay_eq (a : Int) : impl_isDay.f a = some (dayOk a) := by unfold impl_isDay.f; rw [within_b]; rfl
def low (b : UInt8) : Bool := decide (97 ≤ b.toNat) && decide (b.toNat ≤ 122)
def nameOk (s : ByteArray) : Bool := s.data.toList.all low && bIn (s.size : Int) 1 8
theorem l26Name_ev (s : ByteArray) (hs : s.size ≤ 9223372036854775807) : Ev (fun k => spec_l26Name.f k s) (nameOk s) := by
  unfold spec_l26Name.f nameOk
  refine bytes_ind0 s (fun i rest => Ev (fun k => spec_l26Name.l0 k s i) (rest.all low && bIn (s.size : Int) 1 8)) ?_ ?_
  · refine Ev.step (fun k => by simp only [spec_l26Name.l0]; rfl) ?_
    simp only [Int.lt_irrefl, if_false, List.all_nil, Bool.true_and, l1In_b, Option.bind_some]
    exact Ev.now _
  · intro i b rest hi hb hd ih
    refine Ev.step (fun k => by simp only [spec_l26Name.l0]; rfl) ?_
    simp only [if_pos (show (i : Int) < (s.size : Int) by omega), if_pos (show (0 : Int) ≤ i by omega), hb, wrap_in (show -9223372036854775808 ≤ (i : Int) + 1 by omega) (by omega), List.all_cons, low]
    by_cases h1 : b.toNat < 97
    · simp only [if_pos (show (b.toNat : Int) < 97 by omega), decide_eq_false (show ¬ 97 ≤ b.toNat by omega), Bool.false_and]; exact Ev.now _
    · by_cases h2 : b.toNat > 122
      · simp only [if_neg (show ¬ (b.toNat : Int) < 97 by omega), if_pos (show (b.toNat : Int) > 122 by omega), decide_eq_false (show ¬ b.toNat ≤ 122 by omega), Bool.and_false, Bool.false_and]; exact Ev.now _
      · simp only [if_neg (show ¬ (b.toNat : Int) < 97 by omega), if_neg (show ¬ (b.toNat : Int) > 122 by omega), decide_eq_true (show 97 ≤ b.toNat by omega), decide_eq_true (show b.toNat ≤ 122 by omega), Bool.true_and]
        exact ih
def letters : ByteArray := ⟨#[97, 98, 99, 100, 101, 102, 103, 104, 105, 106, 107, 108, 109, 110, 111, 112, 113, 114, 115, 116, 117, 118, 119, 120, 121, 122]⟩
theorem letters_low (b : UInt8) : letters.data.toList.contains b = low b := by
  unfold letters low
  rw [Bool.eq_iff_iff]
  simp [← UInt8.toNat_inj]
  omega
theorem trim_nil (l cs : List UInt8) : (Lib.trimS l cs = []) ↔ ∀ x ∈ l, cs.contains x = true := by
  have left : ∀ m : List UInt8, (Lib.trimLeftS m cs = []) ↔ ∀ x ∈ m, cs.contains x = true := by
    intro m
    unfold Lib.trimLeftS
    induction m with
    | nil => simp
    | cons b m ih =>
      rw [List.dropWhile_cons]
      by_cases hb : cs.contains b = true
      · rw [if_pos hb, ih]
        constructor
        · intro h x hx
          rcases List.mem_cons.1 hx with rfl | hx
          · exact hb
          · exact h x hx
        · exact fun h x hx => h x (List.mem_cons_of_mem _ hx)
      · rw [if_neg hb]
        constructor
        · intro h; cases h
        · intro h; exact absurd (h b (by simp)) hb
  have right : ∀ m : List UInt8, (∀ x ∈ Lib.trimRightS m cs, cs.contains x = true) → ∀ x ∈ m, cs.contains x = true := by
    intro m h
    have hd : ∀ p : List UInt8, (∀ x ∈ p.dropWhile (cs.contains ·), cs.contains x = true) → ∀ x ∈ p, cs.contains x = true := by
      intro p
      induction p with
      | nil => simp
      | cons b p ih =>
        intro h x hx
        rw [List.dropWhile_cons] at h
        by_cases hb : cs.contains b = true
        · rw [if_pos hb] at h
          rcases List.mem_cons.1 hx with rfl | hx
          · exact hb
          · exact ih h x hx
        · rw [if_neg hb] at h
          exact absurd (h b (by simp)) hb
    intro x hx
    refine hd m.reverse (fun y hy => h y ?_) x (by simpa using hx)
    unfold Lib.trimRightS
    simpa using hy
  unfold Lib.trimS
  rw [left]
  constructor
  · exact right l
  · intro h x hx
    unfold Lib.trimRightS at hx
    exact h x (by simpa using (List.dropWhile_sublist _).mem (List.mem_reverse.1 hx))
theorem isAccountName_eq (s : ByteArray) (hs : s.size ≤ 9223372036854775807) : impl_isAccountName.f s = some (nameOk s) := by
  unfold impl_isAccountName.f nameOk
  rw [within_b]
  simp only [Option.bind_some]
  cases h : bIn (s.size : Int) 1 8 with
  | false => simp
  | true =>
    have ht : strings_Trim.f s letters = some ⟨(Lib.trimS s.data.toList letters.data.toList).toArray⟩ := by
      unfold strings_Trim.f
      rw [if_pos ⟨hs, by decide, by decide⟩]
    simp only [if_true]
    show (strings_Trim.f s letters).bind (fun t192 => some (t192.toList == ([] : List UInt8))) = _
    rw [ht]
    simp only [Option.bind_some, Bool.and_true]
    congr 1
    rw [Bool.eq_iff_iff, beq_iff_eq, ByteArray.toList_eq, List.all_eq_true]
    simp only [← letters_low]
    exact trim_nil _ _
def memoOk (s : ByteArray) : Bool := s.data.toList.all (fun b => decide (32 ≤ b.toNat) && decide (b.toNat ≤ 126)) && decide (s.size ≤ 30)
theorem isMemo_ev (s : ByteArray) (hs : s.size ≤ 9223372036854775807) : Ev (fun k => impl_isMemo.f k s) (memoOk s) := by
  unfold impl_isMemo.f memoOk
  refine bytes_ind0 s (fun i rest => Ev (fun k => impl_isMemo.l0 k s (s.size : Int) i) (rest.all (fun b => decide (32 ≤ b.toNat) && decide (b.toNat ≤ 126)) && decide (s.size ≤ 30))) ?_ ?_
  · refine Ev.step (fun k => by simp only [impl_isMemo.l0]; rfl) ?_
    simp only [Int.lt_irrefl, if_false, List.all_nil, Bool.true_and]
    refine Ev.some ?_
    rw [Bool.eq_iff_iff, decide_eq_true_iff, decide_eq_true_iff]; omega
  · intro i b rest hi hb hd ih
    refine Ev.step (fun k => by simp only [impl_isMemo.l0]; rfl) ?_
    simp only [if_pos (show (i : Int) < (s.size : Int) by omega), if_pos (show (0 : Int) ≤ i by omega), hb, wrap_in (show -9223372036854775808 ≤ (i : Int) + 1 by omega) (by omega), List.all_cons]
    by_cases h1 : b.toNat < 32
    · simp only [if_pos (show (b.toNat : Int) < 32 by omega), decide_eq_false (show ¬ 32 ≤ b.toNat by omega), Bool.false_and]; exact Ev.now _
    · by_cases h2 : b.toNat > 126
      · simp only [if_neg (show ¬ (b.toNat : Int) < 32 by omega), if_pos (show (b.toNat : Int) > 126 by omega), decide_eq_false (show ¬ b.toNat ≤ 126 by omega), Bool.and_false, Bool.false_and]; exact Ev.now _
      · simp only [if_neg (show ¬ (b.toNat : Int) < 32 by omega), if_neg (show ¬ (b.toNat : Int) > 126 by omega), decide_eq_true (show 32 ≤ b.toNat by omega), decide_eq_true (show b.toNat ≤ 126 by omega), Bool.true_and]
        exact ih
/-- The rest of an entry's postings, behind the one that stood last and with the sum so far. -/
def postR (n : Int) : Option S70 → List S70 → Int → Bool
  | _, [], s => s == 0
  | p, x :: r, s => bIn x.f0 0 (n - 1) && amt x.f1 && !(x.f1 == 0) && (match p with | none => true | some q => decide (q.f0 < x.f0)) && postR n (some x) r (s + x.f1)
def postOk (n : Int) (l : List S70) : Bool := bIn (l.length : Int) 2 8 && postR n none l 0
def entryOk (n : Int) (x : S63) : Bool := dayOk x.f0 && memoOk x.f1 && postOk n x.f2
/-- The last of the first i elements. -/
def prevOf {α : Type} (l : List α) (i : Nat) : Option α := if i = 0 then none else l[i - 1]?
theorem prevOf_succ {α : Type} {l : List α} {i : Nat} {x : α} {r : List α} (hd : l.drop i = x :: r) : prevOf l (i + 1) = some x := by
  unfold prevOf
  rw [if_neg (by omega), Nat.add_sub_cancel]
  have := (getD_at (d := x) hd)
  rw [List.getElem?_eq_getElem this.1]
  have h2 := this.2.1
  rw [List.getD_eq_getElem?_getD, List.getElem?_eq_getElem this.1] at h2
  simpa using h2
theorem prev_rd {l : List S70} {i : Nat} (h0 : 0 < i) (h1 : i ≤ l.length) : prevOf l i = some (rd_T70 l ((i : Int) - 1)) := by
  unfold prevOf rd_T70
  rw [if_neg (by omega), show ((i : Int) - 1).toNat = i - 1 by omega, List.getD_eq_getElem?_getD, List.getElem?_eq_getElem (show i - 1 < l.length by omega)]
  rfl
theorem prevE_rd {l : List S63} {i : Nat} (h0 : 0 < i) (h1 : i ≤ l.length) : prevOf l i = some (rd_T63 l ((i : Int) - 1)) := by
  unfold prevOf rd_T63
  rw [if_neg (by omega), show ((i : Int) - 1).toNat = i - 1 by omega, List.getD_eq_getElem?_getD, List.getElem?_eq_getElem (show i - 1 < l.length by omega)]
  rfl
theorem specEntry_l1 (n : Int) (hn : 0 ≤ n ∧ n ≤ 1048576) (a : Int) (b : ByteArray) (l : List S70) (hl : l.length ≤ 1048576) : ∀ s : Int, -1000000000 * 0 ≤ s ∧ s ≤ 0 → Ev (fun k => spec_l26Entry.l1 k n s 0 a b l) (postR n none l s) := by
  have key := list_ind0 l (fun i rest => ∀ s : Int, -(1000000000 * (i : Int)) ≤ s ∧ s ≤ 1000000000 * (i : Int) → Ev (fun k => spec_l26Entry.l1 k n s i a b l) (postR n (prevOf l i) rest s)) ?_ ?_
  · intro s hs; exact key s (by omega)
  · intro s _
    refine Ev.step (fun k => by simp only [spec_l26Entry.l1]; rfl) ?_
    simp only [Int.lt_irrefl, if_false]
    refine Ev.some ?_
    cases prevOf l l.length <;> rfl
  · intro i x rest hi hd ih s hs
    have hw : wrap64 (n - 1) = n - 1 := wrap_in (by omega) (by omega)
    have hi1 : wrap64 ((i : Int) + 1) = (i : Int) + 1 := wrap_in (by omega) (by omega)
    have hi0 : wrap64 ((i : Int) - 1) = (i : Int) - 1 := wrap_in (by omega) (by omega)
    have j3 (c : Bool) (hc : c = false → amt x.f1 = true) : Ev (fun k => spec_l26Entry.j3 k n s i c a b l x.f0 x.f1) (!c && postR n (some x) rest (s + x.f1)) := by
      refine Ev.step (fun k => by simp only [spec_l26Entry.j3]; rfl) ?_
      cases c with
      | true => simp only [if_true, Bool.not_true, Bool.false_and]; exact Ev.now _
      | false =>
        have ha := (amt_iff _).1 (hc rfl)
        simp only [Bool.false_eq_true, if_false, Bool.not_false, Bool.true_and, hi1, wrap_in (show -9223372036854775808 ≤ s + x.f1 by omega) (by omega)]
        have := ih (s + x.f1) (by omega)
        rw [prevOf_succ hd] at this
        exact this
    refine Ev.step (fun k => by simp only [spec_l26Entry.l1]; rfl) ?_
    simp only [if_pos (show (i : Int) < (l.length : Int) by omega), if_pos (show (0 : Int) ≤ i by omega), rdP hd, l1In_b, Option.bind_some, l2Amount_eq, hw, hi0, postR]
    cases h1 : bIn x.f0 0 (n - 1) with
    | false => simp only [Bool.false_eq_true, if_false, Bool.false_and]; exact j3 true (by simp)
    | true =>
      simp only [if_true, Bool.true_and]
      cases h2 : amt x.f1 with
      | false => simp only [Bool.false_eq_true, if_false, Bool.false_and]; exact j3 true (by simp)
      | true =>
        simp only [if_true, Bool.true_and]
        by_cases h3 : x.f1 = 0
        · simp only [if_pos h3, beq_iff_eq.2 h3, Bool.not_true, Bool.false_and]; exact j3 true (by simp)
        · simp only [if_neg h3, beq_eq_false_iff_ne.2 h3, Bool.not_false, Bool.true_and]
          by_cases h4 : i = 0
          · subst h4
            simp only [show ¬ ((0 : Nat) : Int) > 0 by omega, if_false, prevOf, if_true, Bool.true_and]
            exact j3 false (fun _ => h2)
          · rw [prev_rd (show 0 < i by omega) (by omega)]
            simp only [if_pos (show (i : Int) > 0 by omega), if_pos (show (0 : Int) ≤ (i : Int) - 1 by omega), if_pos (show (i : Int) - 1 < (l.length : Int) by omega)]
            have := j3 (decide ((rd_T70 l ((i : Int) - 1)).f0 ≥ x.f0)) (fun _ => h2)
            have e : decide ((rd_T70 l ((i : Int) - 1)).f0 < x.f0) = !decide ((rd_T70 l ((i : Int) - 1)).f0 ≥ x.f0) := by
              rw [Bool.eq_iff_iff, Bool.not_eq_true', decide_eq_true_iff, decide_eq_false_iff_not]; omega
            rw [e]
            exact this
theorem specEntry_l0 (n : Int) (a : Int) (b : ByteArray) (l : List S70) (hb : b.size ≤ 9223372036854775807) (r : Bool) (hr : Ev (fun k => spec_l26Entry.l1 k n 0 0 a b l) r) : Ev (fun k => spec_l26Entry.l0 k n 0 a b l) (b.data.toList.all (fun b => decide (32 ≤ b.toNat) && decide (b.toNat ≤ 126)) && r) := by
  refine bytes_ind0 b (fun i rest => Ev (fun k => spec_l26Entry.l0 k n i a b l) (rest.all (fun b => decide (32 ≤ b.toNat) && decide (b.toNat ≤ 126)) && r)) ?_ ?_
  · refine Ev.step (fun k => by simp only [spec_l26Entry.l0]; rfl) ?_
    simp only [Int.lt_irrefl, if_false, List.all_nil, Bool.true_and]
    exact hr
  · intro i c rest hi hc hd ih
    refine Ev.step (fun k => by simp only [spec_l26Entry.l0]; rfl) ?_
    simp only [if_pos (show (i : Int) < (b.size : Int) by omega), if_pos (show (0 : Int) ≤ i by omega), hc, wrap_byte, l1In_b, Option.bind_some, wrap_in (show -9223372036854775808 ≤ (i : Int) + 1 by omega) (by omega), List.all_cons]
    have e : (decide (32 ≤ c.toNat) && decide (c.toNat ≤ 126)) = bIn (c.toNat : Int) 32 126 := by
      rw [Bool.eq_iff_iff, bIn_iff, Bool.and_eq_true, decide_eq_true_iff, decide_eq_true_iff]; omega
    rw [e]
    cases h : bIn (c.toNat : Int) 32 126 with
    | false => simp only [Bool.false_eq_true, if_false, Bool.false_and]; exact Ev.now _
    | true => simp only [if_true, Bool.true_and]; exact ih
theorem specEntry_ev (n : Int) (hn : 0 ≤ n ∧ n ≤ 1048576) (x : S63) (hb : x.f1.size ≤ 9223372036854775807) (hl : x.f2.length ≤ 1048576) : Ev (fun k => spec_l26Entry.f k x.f0 x.f1 x.f2 n) (entryOk n x) := by
  have j (c : Bool) (hc : c = !(dayOk x.f0 && decide (x.f1.size ≤ 30) && bIn (x.f2.length : Int) 2 8)) : Ev (fun k => spec_l26Entry.j0 k n c x.f0 x.f1 x.f2) (entryOk n x) := by
    subst hc
    refine Ev.step (fun k => by simp only [spec_l26Entry.j0]; rfl) ?_
    unfold entryOk memoOk postOk
    cases h : (dayOk x.f0 && decide (x.f1.size ≤ 30) && bIn (x.f2.length : Int) 2 8) with
    | false =>
      simp only [Bool.not_false, if_true]
      refine Ev.some ?_
      cases h1 : dayOk x.f0 <;> cases h2 : decide (x.f1.size ≤ 30) <;> cases h3 : bIn (x.f2.length : Int) 2 8 <;> simp_all
    | true =>
      simp only [Bool.and_eq_true] at h
      obtain ⟨⟨h1, h2⟩, h3⟩ := h
      simp only [Bool.not_true, Bool.false_eq_true, if_false, h1, h2, h3, Bool.true_and, Bool.and_true]
      exact specEntry_l0 n x.f0 x.f1 x.f2 hb _ (specEntry_l1 n hn x.f0 x.f1 x.f2 hl 0 (by omega))
  unfold spec_l26Entry.f
  simp only [l3Good_eq, l1In_b, Option.bind_some]
  cases h1 : dayOk x.f0 with
  | false => simp only [Bool.false_eq_true, if_false]; exact j true (by simp [h1])
  | true =>
    simp only [if_true]
    by_cases h2 : (x.f1.size : Int) > 30
    · simp only [if_pos h2]; exact j true (by rw [decide_eq_false (show ¬ x.f1.size ≤ 30 by omega)]; simp)
    · simp only [if_neg h2]; exact j _ (by rw [h1, decide_eq_true (show x.f1.size ≤ 30 by omega)]; simp)
theorem isPosted_ev (n : Int) (hn : 0 ≤ n ∧ n ≤ 1048576) (a : Int) (b : ByteArray) (l : List S70) (hl : l.length ≤ 1048576) : Ev (fun k => impl_isPosted.f k a b l n) (postOk n l) := by
  have key := list_ind0 l (fun i rest => ∀ s : Int, -(1000000000 * (i : Int)) ≤ s ∧ s ≤ 1000000000 * (i : Int) → Ev (fun k => impl_isPosted.l0 k n s l (l.length : Int) i a b l) (bIn (l.length : Int) 2 8 && postR n (prevOf l i) rest s)) ?_ ?_
  · unfold impl_isPosted.f postOk
    exact key 0 (by omega)
  · intro s _
    refine Ev.step (fun k => by simp only [impl_isPosted.l0]; rfl) ?_
    simp only [Int.lt_irrefl, if_false, within_b, Option.bind_some]
    have e : postR n (prevOf l l.length) ([] : List S70) s = (s == 0) := by cases prevOf l l.length <;> rfl
    rw [e]
    cases h : bIn (l.length : Int) 2 8 with
    | false => simp only [Bool.false_eq_true, if_false, Bool.false_and]; exact Ev.now _
    | true => simp only [if_true, Bool.true_and]; exact Ev.now _
  · intro i x rest hi hd ih s hs
    have hw : wrap64 (n - 1) = n - 1 := wrap_in (by omega) (by omega)
    have hi1 : wrap64 ((i : Int) + 1) = (i : Int) + 1 := wrap_in (by omega) (by omega)
    have hi0 : wrap64 ((i : Int) - 1) = (i : Int) - 1 := wrap_in (by omega) (by omega)
    have j1 (c : Bool) (hc : c = false → amt x.f1 = true) : Ev (fun k => impl_isPosted.j1 k n s l (l.length : Int) i c a b l x.f0 x.f1) (bIn (l.length : Int) 2 8 && (!c && postR n (some x) rest (s + x.f1))) := by
      refine Ev.step (fun k => by simp only [impl_isPosted.j1]; rfl) ?_
      cases c with
      | true => simp only [if_true, Bool.not_true, Bool.false_and, Bool.and_false]; exact Ev.now _
      | false =>
        have ha := (amt_iff _).1 (hc rfl)
        simp only [Bool.false_eq_true, if_false, Bool.not_false, Bool.true_and, hi1, wrap_in (show -9223372036854775808 ≤ s + x.f1 by omega) (by omega)]
        have := ih (s + x.f1) (by omega)
        rw [prevOf_succ hd] at this
        exact this
    refine Ev.step (fun k => by simp only [impl_isPosted.l0]; rfl) ?_
    simp only [if_pos (show (i : Int) < (l.length : Int) by omega), if_pos (show (0 : Int) ≤ i by omega), rdP hd, within_b, Option.bind_some, isAmount_eq, hw, hi0, postR]
    cases h1 : bIn x.f0 0 (n - 1) with
    | false => simp only [Bool.false_eq_true, if_false, Bool.false_and]; exact j1 true (by simp)
    | true =>
      simp only [if_true, Bool.true_and]
      have tail : ∀ g : Bool, g = true → ∀ R : Bool, R = (amt x.f1 && !(x.f1 == 0) && g && postR n (some x) rest (s + x.f1)) → Ev (fun k => if x.f1 = 0 then impl_isPosted.j1 k n s l (l.length : Int) i true a b l x.f0 x.f1 else impl_isPosted.j1 k n s l (l.length : Int) i (!amt x.f1) a b l x.f0 x.f1) (bIn (l.length : Int) 2 8 && R) := by
        intro g hg R hR
        subst hg hR
        by_cases h3 : x.f1 = 0
        · simp only [if_pos h3, beq_iff_eq.2 h3, Bool.not_true, Bool.and_false, Bool.false_and]
          have := j1 true (by simp)
          simpa using this
        · simp only [if_neg h3, beq_eq_false_iff_ne.2 h3, Bool.not_false, Bool.and_true]
          cases h2 : amt x.f1 with
          | false => simp only [Bool.not_false, Bool.false_and]; simpa using j1 true (by simp)
          | true => simp only [Bool.not_true, Bool.true_and]; simpa using j1 false (fun _ => h2)
      by_cases h4 : i = 0
      · subst h4
        simp only [show ¬ ((0 : Nat) : Int) > 0 by omega, if_false, prevOf, if_true]
        exact tail true rfl _ rfl
      · rw [prev_rd (show 0 < i by omega) (by omega)]
        simp only [if_pos (show (i : Int) > 0 by omega), if_pos (show (0 : Int) ≤ (i : Int) - 1 by omega), if_pos (show (i : Int) - 1 < (l.length : Int) by omega)]
        by_cases h5 : x.f0 ≤ (rd_T70 l ((i : Int) - 1)).f0
        · simp only [if_pos h5, decide_eq_false (show ¬ (rd_T70 l ((i : Int) - 1)).f0 < x.f0 by omega), Bool.and_false, Bool.false_and]
          simpa using j1 true (by simp)
        · simp only [if_neg h5]
          exact tail _ (decide_eq_true (by omega)) _ rfl
def acctOk (x : S48) : Bool := nameOk x.f0 && bIn x.f1 1 5
/-- The rest of the accounts, behind the first ones. -/
def acR : List S48 → List S48 → Bool
  | _, [] => true
  | pre, x :: r => acctOk x && !(pre.any fun y => decide (y.f0.toList = x.f0.toList)) && acR (pre ++ [x]) r
theorem accounts_l1 (l : List S48) (hl : l.length ≤ 1048576) (i : Nat) (x : S48) (rest : List S48) (hd : l.drop i = x :: rest) (r : Bool) (hr : Ev (fun k => spec_l26Accounts.l0 k l ((i : Int) + 1)) r) : ∀ (m j : Nat), j + m = i → Ev (fun k => spec_l26Accounts.l1 k l i j) (!((l.take i).drop j).any (fun y => decide (y.f0.toList = x.f0.toList)) && r)
  | 0, j, h => by
    have hi := (getD_at (d := x) hd).1
    refine Ev.step (fun k => by simp only [spec_l26Accounts.l1]; rfl) ?_
    simp only [if_neg (show ¬ (j : Int) < (i : Int) by omega), wrap_in (show -9223372036854775808 ≤ (i : Int) + 1 by omega) (by omega)]
    rw [List.drop_eq_nil_of_le (by simp; omega)]
    exact hr
  | m + 1, j, h => by
    have hi := (getD_at (d := x) hd).1
    have hj : (l.take i).drop j = rd_T48 l (j : Int) :: (l.take i).drop (j + 1) := by
      have hlt : j < (l.take i).length := by simp; omega
      rw [List.drop_eq_getElem_cons hlt]
      congr 1
      rw [rd_T48, Int.toNat_natCast, List.getD_eq_getElem?_getD, List.getElem?_eq_getElem (show j < l.length by omega)]
      simp
    have ih := accounts_l1 l hl i x rest hd r hr m (j + 1) (by omega)
    refine Ev.step (fun k => by simp only [spec_l26Accounts.l1]; rfl) ?_
    simp only [if_pos (show (j : Int) < (i : Int) by omega), if_pos (show (0 : Int) ≤ j by omega), if_pos (show (j : Int) < (l.length : Int) by omega), if_pos (show (0 : Int) ≤ i by omega), if_pos (show (i : Int) < (l.length : Int) by omega), rdA hd, wrap_in (show -9223372036854775808 ≤ (j : Int) + 1 by omega) (by omega)]
    rw [hj, List.any_cons]
    by_cases h' : (rd_T48 l (j : Int)).f0.toList = x.f0.toList
    · simp only [if_pos h', decide_eq_true h', Bool.true_or, Bool.not_true, Bool.false_and]; exact Ev.now _
    · simp only [if_neg h', decide_eq_false h', Bool.false_or]; exact ih
theorem accounts_ev (l : List S48) (hl : l.length ≤ 1048576) (hs : ∀ y ∈ l, y.f0.size ≤ 9223372036854775807) : Ev (fun k => spec_l26Accounts.f k l) (acR [] l && decide (l.length ≤ 12)) := by
  unfold spec_l26Accounts.f
  refine list_ind0 l (fun i rest => Ev (fun k => spec_l26Accounts.l0 k l i) (acR (l.take i) rest && decide (l.length ≤ 12))) ?_ ?_
  · refine Ev.step (fun k => by simp only [spec_l26Accounts.l0]; rfl) ?_
    simp only [Int.lt_irrefl, if_false, acR, Bool.true_and]
    refine Ev.some ?_
    rw [Bool.eq_iff_iff, decide_eq_true_iff, decide_eq_true_iff]; omega
  · intro i x rest hi hd ih
    rw [take_succ_at hd] at ih
    have j1 (c : Bool) : Ev (fun k => spec_l26Accounts.j1 k l i c) (!c && (!((l.take i).any fun y => decide (y.f0.toList = x.f0.toList)) && (acR (l.take i ++ [x]) rest && decide (l.length ≤ 12)))) := by
      refine Ev.step (fun k => by simp only [spec_l26Accounts.j1]; rfl) ?_
      cases c with
      | true => simp only [if_true, Bool.not_true, Bool.false_and]; exact Ev.now _
      | false =>
        simp only [Bool.false_eq_true, if_false, Bool.not_false, Bool.true_and]
        have := accounts_l1 l hl i x rest hd _ ih i 0 (by omega)
        simpa using this
    refine Ev.step (fun k => by simp only [spec_l26Accounts.l0]; rfl) ?_
    simp only [if_pos (show (i : Int) < (l.length : Int) by omega), if_pos (show (0 : Int) ≤ i by omega), rdA hd, acR, acctOk]
    refine Ev.bind (l26Name_ev x.f0 (hs x (mem_drop hd))) ?_
    cases h1 : nameOk x.f0 with
    | false => simp only [Bool.false_eq_true, if_false, Bool.false_and]; simpa using j1 true
    | true =>
      simp only [if_true, Bool.true_and, l1In_b, Option.bind_some]
      have := j1 (!bIn x.f1 1 5)
      simpa [Bool.and_assoc] using this
/-- Balances, after an entry's postings; none where one is no amount. -/
def applyL : List Int → List S70 → Option (List Int)
  | b, [] => some b
  | b, x :: r => if amt (rd b x.f0 + x.f1) then applyL (b.set x.f0.toNat (rd b x.f0 + x.f1)) r else none
def entR (n : Int) : Option S63 → List Int → List S63 → Bool
  | _, _, [] => true
  | p, b, x :: r => (match p with | none => true | some q => decide (q.f0 ≤ x.f0)) && entryOk n x && (match applyL b x.f2 with | none => false | some b' => entR n (some x) b' r)
def ledgerOk (a : List S48) (e : List S63) : Bool := acR [] a && decide (a.length ≤ 12) && decide (e.length ≤ 40) && entR (a.length : Int) none (List.replicate a.length 0) e
def Amts (b : List Int) : Prop := ∀ y ∈ b, -1000000000 ≤ y ∧ y ≤ 1000000000
theorem amts_set {b : List Int} (h : Amts b) (i : Nat) (v : Int) (hv : amt v = true) : Amts (b.set i v) := by
  intro y hy
  rcases List.mem_or_eq_of_mem_set hy with h' | rfl
  · exact h y h'
  · exact (amt_iff _).1 hv
theorem amts_rd {b : List Int} (h : Amts b) (i : Int) : -1000000000 ≤ rd b i ∧ rd b i ≤ 1000000000 := by
  unfold rd
  rw [List.getD_eq_getElem?_getD]
  cases hq : b[i.toNat]? with
  | none => simp
  | some y => exact h y (List.mem_of_getElem? hq)
/-- All postings of an entry that is accepted name accounts and bear amounts. -/
theorem postR_all (n : Int) : ∀ (l : List S70) (p : Option S70) (s : Int), postR n p l s = true → ∀ x ∈ l, (0 ≤ x.f0 ∧ x.f0 ≤ n - 1) ∧ amt x.f1 = true
  | [], _, _, _ => by simp
  | x :: r, p, s, h => by
    simp only [postR, Bool.and_eq_true] at h
    obtain ⟨⟨⟨⟨h1, h2⟩, h3⟩, h4⟩, h5⟩ := h
    intro y hy
    rcases List.mem_cons.1 hy with rfl | hy
    · exact ⟨(bIn_iff _ _ _).1 h1, h2⟩
    · exact postR_all n r _ _ h5 y hy
theorem applyL_len : ∀ (l : List S70) (b b' : List Int), Amts b → applyL b l = some b' → b'.length = b.length ∧ Amts b'
  | [], b, b', hb, h => by simp only [applyL, Option.some.injEq] at h; subst h; exact ⟨rfl, hb⟩
  | x :: r, b, b', hb, h => by
    simp only [applyL] at h
    split at h
    · rename_i ha
      have := applyL_len r _ b' (amts_set hb _ _ ha) h
      simpa using this
    · cases h
theorem spec_l1 (n : Nat) (a : List S48) (e : List S63) (i : Nat) (hi : i ≤ 1048576) (d : Int) (m : ByteArray) (l : List S70) (hl : l.length ≤ 1048576) (hall : ∀ x ∈ l, (0 ≤ x.f0 ∧ x.f0 ≤ (n : Int) - 1) ∧ amt x.f1 = true) (R : List Int → Bool) (hR : ∀ b, b.length = n → Amts b → Ev (fun k => spec_l26Good.l0 k b ((i : Int) + 1) a e) (R b)) : ∀ b : List Int, b.length = n → Amts b → Ev (fun k => spec_l26Good.l1 k b i 0 a e d m l) (match applyL b l with | none => false | some b' => R b') := by
  refine list_ind0 l (fun j rest => ∀ b : List Int, b.length = n → Amts b → Ev (fun k => spec_l26Good.l1 k b i j a e d m l) (match applyL b rest with | none => false | some b' => R b')) ?_ ?_
  · intro b hb ha
    refine Ev.step (fun k => by simp only [spec_l26Good.l1]; rfl) ?_
    simp only [Int.lt_irrefl, if_false, applyL, wrap_in (show -9223372036854775808 ≤ (i : Int) + 1 by omega) (by omega)]
    exact hR b hb ha
  · intro j x rest hj hd ih b hb ha
    obtain ⟨hx, hxa⟩ := hall x (mem_drop hd)
    have hxa' := (amt_iff _).1 hxa
    have hbr := amts_rd ha x.f0
    refine Ev.step (fun k => by simp only [spec_l26Good.l1]; rfl) ?_
    simp only [if_pos (show (j : Int) < (l.length : Int) by omega), if_pos (show (0 : Int) ≤ j by omega), rdP hd, if_pos hx.1, if_pos (show x.f0 < (b.length : Int) by omega), wrap_in (show -9223372036854775808 ≤ rd b x.f0 + x.f1 by omega) (by omega), l2Amount_eq, Option.bind_some, applyL, wrap_in (show -9223372036854775808 ≤ (j : Int) + 1 by omega) (by omega)]
    cases h : amt (rd b x.f0 + x.f1) with
    | false => simp only [Bool.false_eq_true, if_false]; exact Ev.now _
    | true =>
      simp only [if_true]
      exact ih _ (by simpa using hb) (amts_set ha _ _ h)
theorem impl_l2 (n : Nat) (a : List S48) (e : List S63) (i : Nat) (hi : i ≤ 1048576) (l : List S70) (hl : l.length ≤ 1048576) (hall : ∀ x ∈ l, (0 ≤ x.f0 ∧ x.f0 ≤ (n : Int) - 1) ∧ amt x.f1 = true) (R : List Int → Bool) (hR : ∀ b, b.length = n → Amts b → Ev (fun k => impl_IsValidLedger.l1 k b e (e.length : Int) ((i : Int) + 1) a e) (R b)) : ∀ b : List Int, b.length = n → Amts b → Ev (fun k => impl_IsValidLedger.l2 k b e (e.length : Int) i l (l.length : Int) 0 a e) (match applyL b l with | none => false | some b' => R b') := by
  refine list_ind0 l (fun j rest => ∀ b : List Int, b.length = n → Amts b → Ev (fun k => impl_IsValidLedger.l2 k b e (e.length : Int) i l (l.length : Int) j a e) (match applyL b rest with | none => false | some b' => R b')) ?_ ?_
  · intro b hb ha
    refine Ev.step (fun k => by simp only [impl_IsValidLedger.l2]; rfl) ?_
    simp only [Int.lt_irrefl, if_false, applyL, wrap_in (show -9223372036854775808 ≤ (i : Int) + 1 by omega) (by omega)]
    exact hR b hb ha
  · intro j x rest hj hd ih b hb ha
    obtain ⟨hx, hxa⟩ := hall x (mem_drop hd)
    have hxa' := (amt_iff _).1 hxa
    have hbr := amts_rd ha x.f0
    refine Ev.step (fun k => by simp only [impl_IsValidLedger.l2]; rfl) ?_
    simp only [if_pos (show (j : Int) < (l.length : Int) by omega), if_pos (show (0 : Int) ≤ j by omega), rdP hd, if_pos hx.1, if_pos (show x.f0 < (b.length : Int) by omega), wrap_in (show -9223372036854775808 ≤ rd b x.f0 + x.f1 by omega) (by omega), isAmount_eq, Option.bind_some, applyL, wrap_in (show -9223372036854775808 ≤ (j : Int) + 1 by omega) (by omega)]
    cases h : amt (rd b x.f0 + x.f1) with
    | false => simp only [Bool.false_eq_true, if_false]; exact Ev.now _
    | true =>
      simp only [if_true]
      exact ih _ (by simpa using hb) (amts_set ha _ _ h)
def FitsT (a : List S48) (e : List S63) : Prop := Fits a e ∧ (∀ y ∈ a, y.f0.size ≤ 9223372036854775807) ∧ ∀ y ∈ e, y.f1.size ≤ 9223372036854775807
theorem spec_l0 (a : List S48) (e : List S63) (h : FitsT a e) (ha12 : a.length ≤ 12) : Ev (fun k => spec_l26Good.l0 k (List.replicate a.length 0) 0 a e) (entR (a.length : Int) none (List.replicate a.length 0) e) := by
  obtain ⟨⟨f1, f2, f3⟩, f4, f5⟩ := h
  have key := list_ind0 e (fun i rest => ∀ b : List Int, b.length = a.length → Amts b → Ev (fun k => spec_l26Good.l0 k b i a e) (entR (a.length : Int) (prevOf e i) b rest)) ?_ ?_
  · exact key _ (by simp) (fun y hy => by rw [List.eq_of_mem_replicate hy]; omega)
  · intro b hb ha
    refine Ev.step (fun k => by simp only [spec_l26Good.l0]; rfl) ?_
    simp only [Int.lt_irrefl, if_false]
    refine Ev.some ?_
    cases prevOf e e.length <;> rfl
  · intro i x rest hi hd ih b hb ha
    have hi0 : wrap64 ((i : Int) - 1) = (i : Int) - 1 := wrap_in (by omega) (by omega)
    have hmem := mem_drop hd
    have j2 (c : Bool) (hc : c = false → entryOk (a.length : Int) x = true) : Ev (fun k => spec_l26Good.j2 k b i c a e x.f0 x.f1 x.f2) (!c && (match applyL b x.f2 with | none => false | some b' => entR (a.length : Int) (some x) b' rest)) := by
      refine Ev.step (fun k => by simp only [spec_l26Good.j2]; rfl) ?_
      cases c with
      | true => simp only [if_true, Bool.not_true, Bool.false_and]; exact Ev.now _
      | false =>
        have ho := hc rfl
        unfold entryOk postOk at ho
        simp only [Bool.and_eq_true] at ho
        simp only [Bool.false_eq_true, if_false, Bool.not_false, Bool.true_and]
        refine spec_l1 a.length a e i (by omega) x.f0 x.f1 x.f2 (f3 x hmem) (postR_all _ _ _ _ ho.2.2) (fun b' => entR (a.length : Int) (some x) b' rest) (fun b' h1 h2 => ?_) b hb ha
        have := ih b' h1 h2
        rw [prevOf_succ hd] at this
        exact this
    refine Ev.step (fun k => by simp only [spec_l26Good.l0]; rfl) ?_
    simp only [if_pos (show (i : Int) < (e.length : Int) by omega), if_pos (show (0 : Int) ≤ i by omega), rdE hd, hi0, entR]
    refine Ev.bind (specEntry_ev (a.length : Int) (by omega) x (f5 x hmem) (f3 x hmem)) ?_
    cases ho : entryOk (a.length : Int) x with
    | false =>
      simp only [Bool.false_eq_true, if_false, Bool.and_false, Bool.false_and]
      simpa using j2 true (by simp)
    | true =>
      simp only [if_true, Bool.and_true]
      by_cases h4 : i = 0
      · subst h4
        simp only [show ¬ ((0 : Nat) : Int) > 0 by omega, if_false, prevOf, if_true, Bool.true_and]
        simpa using j2 false (fun _ => ho)
      · rw [prevE_rd (show 0 < i by omega) (by omega)]
        simp only [if_pos (show (i : Int) > 0 by omega), if_pos (show (0 : Int) ≤ (i : Int) - 1 by omega), if_pos (show (i : Int) - 1 < (e.length : Int) by omega)]
        have := j2 (decide ((rd_T63 e ((i : Int) - 1)).f0 > x.f0)) (fun _ => ho)
        have q : decide ((rd_T63 e ((i : Int) - 1)).f0 ≤ x.f0) = !decide ((rd_T63 e ((i : Int) - 1)).f0 > x.f0) := by
          rw [Bool.eq_iff_iff, Bool.not_eq_true', decide_eq_true_iff, decide_eq_false_iff_not]; omega
        rw [q]
        exact this
theorem specGood_ev (a : List S48) (e : List S63) (h : FitsT a e) : Ev (fun k => spec_l26Good.f k a e) (ledgerOk a e) := by
  unfold spec_l26Good.f ledgerOk
  refine Ev.bind (accounts_ev a h.1.1 h.2.1) ?_
  cases h1 : (acR [] a && decide (a.length ≤ 12)) with
  | false =>
    simp only [Bool.false_eq_true, if_false, Bool.false_and]
    refine Ev.step (fun k => by simp only [spec_l26Good.j0]; rfl) ?_
    simp only [if_true]; exact Ev.now _
  | true =>
    simp only [Bool.and_eq_true, decide_eq_true_eq] at h1
    simp only [if_true, Bool.true_and]
    refine Ev.step (fun k => by simp only [spec_l26Good.j0]; rfl) ?_
    by_cases h2 : (e.length : Int) > 40
    · simp only [decide_eq_true h2, if_true, decide_eq_false (show ¬ e.length ≤ 40 by omega), Bool.false_and]; exact Ev.now _
    · simp only [decide_eq_false h2, Bool.false_eq_true, if_false, decide_eq_true (show e.length ≤ 40 by omega), Bool.true_and, if_pos (show (0 : Int) ≤ (a.length : Int) by omega), Int.toNat_natCast, if_pos (show a.length ≤ 35184372088832 by omega)]
      exact spec_l0 a e h h1.2
theorem impl_l1 (a : List S48) (e : List S63) (h : FitsT a e) (ha12 : a.length ≤ 12) : Ev (fun k => impl_IsValidLedger.l1 k (List.replicate a.length 0) e (e.length : Int) 0 a e) (entR (a.length : Int) none (List.replicate a.length 0) e) := by
  obtain ⟨⟨f1, f2, f3⟩, f4, f5⟩ := h
  have key := list_ind0 e (fun i rest => ∀ b : List Int, b.length = a.length → Amts b → Ev (fun k => impl_IsValidLedger.l1 k b e (e.length : Int) i a e) (entR (a.length : Int) (prevOf e i) b rest)) ?_ ?_
  · exact key _ (by simp) (fun y hy => by rw [List.eq_of_mem_replicate hy]; omega)
  · intro b hb ha
    refine Ev.step (fun k => by simp only [impl_IsValidLedger.l1]; rfl) ?_
    simp only [Int.lt_irrefl, if_false]
    refine Ev.some ?_
    cases prevOf e e.length <;> rfl
  · intro i x rest hi hd ih b hb ha
    have hi0 : wrap64 ((i : Int) - 1) = (i : Int) - 1 := wrap_in (by omega) (by omega)
    have hmem := mem_drop hd
    have j4 (c : Bool) (hc : c = false → postOk (a.length : Int) x.f2 = true) : Ev (fun k => impl_IsValidLedger.j4 k b e (e.length : Int) i c a e x.f0 x.f1 x.f2) (!c && (match applyL b x.f2 with | none => false | some b' => entR (a.length : Int) (some x) b' rest)) := by
      refine Ev.step (fun k => by simp only [impl_IsValidLedger.j4]; rfl) ?_
      cases c with
      | true => simp only [if_true, Bool.not_true, Bool.false_and]; exact Ev.now _
      | false =>
        have ho := hc rfl
        unfold postOk at ho
        simp only [Bool.and_eq_true] at ho
        simp only [Bool.false_eq_true, if_false, Bool.not_false, Bool.true_and]
        refine impl_l2 a.length a e i (by omega) x.f2 (f3 x hmem) (postR_all _ _ _ _ ho.2) (fun b' => entR (a.length : Int) (some x) b' rest) (fun b' h1 h2 => ?_) b hb ha
        have := ih b' h1 h2
        rw [prevOf_succ hd] at this
        exact this
    have tail : ∀ g : Bool, g = true → ∀ R : Bool, R = (g && (dayOk x.f0 && memoOk x.f1 && postOk (a.length : Int) x.f2) && (match applyL b x.f2 with | none => false | some b' => entR (a.length : Int) (some x) b' rest)) → dayOk x.f0 = true → Ev (fun k => (impl_isMemo.f k x.f1).bind fun t => (if t = true then ((impl_isPosted.f k x.f0 x.f1 x.f2 (a.length : Int)).bind fun u => (impl_IsValidLedger.j4 k b e (e.length : Int) i (!u) a e x.f0 x.f1 x.f2)) else (impl_IsValidLedger.j4 k b e (e.length : Int) i true a e x.f0 x.f1 x.f2))) R := by
      intro g hg R hR hday
      subst hg hR
      refine Ev.bind (isMemo_ev x.f1 (f5 x hmem)) ?_
      cases hm : memoOk x.f1 with
      | false => simp only [Bool.false_eq_true, if_false, Bool.and_false, Bool.false_and]; simpa using j4 true (by simp)
      | true =>
        simp only [if_true, hday, Bool.true_and, Bool.and_true]
        refine Ev.bind (isPosted_ev (a.length : Int) (by omega) x.f0 x.f1 x.f2 (f3 x hmem)) ?_
        cases hp : postOk (a.length : Int) x.f2 with
        | false => simp only [Bool.not_false, Bool.false_and]; simpa using j4 true (by simp)
        | true => simp only [Bool.not_true, Bool.true_and]; simpa using j4 false (fun _ => hp)
    refine Ev.step (fun k => by simp only [impl_IsValidLedger.l1]; rfl) ?_
    simp only [if_pos (show (i : Int) < (e.length : Int) by omega), if_pos (show (0 : Int) ≤ i by omega), rdE hd, hi0, entR, isDay_eq, Option.bind_some, entryOk]
    cases hday : dayOk x.f0 with
    | false => simp only [Bool.false_eq_true, if_false, Bool.and_false, Bool.false_and]; simpa using j4 true (by simp)
    | true =>
      simp only [if_true]
      by_cases h4 : i = 0
      · subst h4
        simp only [show ¬ ((0 : Nat) : Int) > 0 by omega, if_false, prevOf, if_true]
        refine tail true rfl _ ?_ hday
        rw [hday]
      · rw [prevE_rd (show 0 < i by omega) (by omega)]
        simp only [if_pos (show (i : Int) > 0 by omega), if_pos (show (0 : Int) ≤ (i : Int) - 1 by omega), if_pos (show (i : Int) - 1 < (e.length : Int) by omega)]
        by_cases h5 : x.f0 < (rd_T63 e ((i : Int) - 1)).f0
        · simp only [if_pos h5, decide_eq_false (show ¬ (rd_T63 e ((i : Int) - 1)).f0 ≤ x.f0 by omega), Bool.false_and]
          simpa using j4 true (by simp)
        · simp only [if_neg h5]
          refine tail _ (decide_eq_true (show (rd_T63 e ((i : Int) - 1)).f0 ≤ x.f0 by omega)) _ ?_ hday
          rw [hday]
theorem indexName_ev (l : List S48) (hl : l.length ≤ 1048576) (s : ByteArray) (q : Int) : Ev (fun k => slices_ContainsFunc_Account_Account_impl_IsValidLedger_1.f k l s q) (l.any (fun y => decide (y.f0.toList = s.toList)), s, q) := by
  have key : ∃ r : Int, Ev (fun k => slices_IndexFunc_Account_Account_impl_IsValidLedger_1.f k l s q) (r, s, q) ∧ decide (r ≥ 0) = l.any (fun y => decide (y.f0.toList = s.toList)) := by
    unfold slices_IndexFunc_Account_Account_impl_IsValidLedger_1.f
    refine list_ind0 l (fun i rest => ∃ r : Int, Ev (fun k => slices_IndexFunc_Account_Account_impl_IsValidLedger_1.l0 k l (l.length : Int) i s q) (r, s, q) ∧ decide (r ≥ 0) = rest.any (fun y => decide (y.f0.toList = s.toList))) ?_ ?_
    · refine ⟨-1, ?_, by simp⟩
      refine Ev.step (fun k => by simp only [slices_IndexFunc_Account_Account_impl_IsValidLedger_1.l0]; rfl) ?_
      simp only [Int.lt_irrefl, if_false]; exact Ev.now _
    · intro i x rest hi hd ih
      obtain ⟨r, hr, he⟩ := ih
      by_cases hx : x.f0.toList = s.toList
      · refine ⟨i, ?_, by rw [List.any_cons, decide_eq_true hx]; simp⟩
        refine Ev.step (fun k => by simp only [slices_IndexFunc_Account_Account_impl_IsValidLedger_1.l0]; rfl) ?_
        simp only [if_pos (show (i : Int) < (l.length : Int) by omega), if_pos (show (0 : Int) ≤ i by omega), rdA hd, XFnExactFormatEntry.impl_IsValidLedger_1.f, Option.bind_some, beq_iff_eq.2 hx, if_true]
        exact Ev.now _
      · refine ⟨r, ?_, by rw [List.any_cons, decide_eq_false hx, Bool.false_or]; exact he⟩
        refine Ev.step (fun k => by simp only [slices_IndexFunc_Account_Account_impl_IsValidLedger_1.l0]; rfl) ?_
        simp only [if_pos (show (i : Int) < (l.length : Int) by omega), if_pos (show (0 : Int) ≤ i by omega), rdA hd, XFnExactFormatEntry.impl_IsValidLedger_1.f, Option.bind_some, beq_eq_false_iff_ne.2 hx, Bool.false_eq_true, if_false, wrap_in (show -9223372036854775808 ≤ (i : Int) + 1 by omega) (by omega)]
        exact hr
  obtain ⟨r, hr, he⟩ := key
  unfold slices_ContainsFunc_Account_Account_impl_IsValidLedger_1.f
  exact Ev.bind hr (Ev.some (by rw [he]))
theorem impl_l0 (a : List S48) (e : List S63) (h : FitsT a e) (ha12 : a.length ≤ 12) : Ev (fun k => impl_IsValidLedger.l0 k a (a.length : Int) 0 a e) (acR [] a && entR (a.length : Int) none (List.replicate a.length 0) e) := by
  have f4 := h.2.1
  refine list_ind0 a (fun i rest => Ev (fun k => impl_IsValidLedger.l0 k a (a.length : Int) i a e) (acR (a.take i) rest && entR (a.length : Int) none (List.replicate a.length 0) e)) ?_ ?_
  · refine Ev.step (fun k => by simp only [impl_IsValidLedger.l0]; rfl) ?_
    simp only [Int.lt_irrefl, if_false, acR, Bool.true_and, if_pos (show (0 : Int) ≤ (a.length : Int) by omega), Int.toNat_natCast, if_pos (show a.length ≤ 35184372088832 by omega)]
    exact impl_l1 a e h ha12
  · intro i x rest hi hd ih
    rw [take_succ_at hd] at ih
    have j2 (c : Bool) : Ev (fun k => impl_IsValidLedger.j2 k a (a.length : Int) i c a e) (!c && (acR (a.take i ++ [x]) rest && entR (a.length : Int) none (List.replicate a.length 0) e)) := by
      refine Ev.step (fun k => by simp only [impl_IsValidLedger.j2]; rfl) ?_
      cases c with
      | true => simp only [if_true, Bool.not_true, Bool.false_and]; exact Ev.now _
      | false =>
        simp only [Bool.false_eq_true, if_false, Bool.not_false, Bool.true_and, wrap_in (show -9223372036854775808 ≤ (i : Int) + 1 by omega) (by omega)]
        exact ih
    refine Ev.step (fun k => by simp only [impl_IsValidLedger.l0]; rfl) ?_
    simp only [if_pos (show (i : Int) < (a.length : Int) by omega), if_pos (show (0 : Int) ≤ i by omega), rdA hd, acR, acctOk, isAccountName_eq x.f0 (f4 x (mem_drop hd)), Option.bind_some, within_b, if_pos (show (i : Int) ≤ (a.length : Int) by omega), Int.toNat_natCast]
    cases h1 : nameOk x.f0 with
    | false => simp only [Bool.false_eq_true, if_false, Bool.false_and]; simpa using j2 true
    | true =>
      simp only [if_true, Bool.true_and]
      cases h2 : bIn x.f1 1 5 with
      | false => simp only [Bool.false_eq_true, if_false, Bool.false_and]; simpa using j2 true
      | true =>
        simp only [if_true, Bool.true_and]
        refine Ev.bind (indexName_ev (a.take i) (by simp; omega) x.f0 x.f1) ?_
        have := j2 ((a.take i).any fun y => decide (y.f0.toList = x.f0.toList))
        simpa [Bool.and_assoc] using this
theorem implLedger_ev (a : List S48) (e : List S63) (h : FitsT a e) : Ev (fun k => impl_IsValidLedger.f k a e) (ledgerOk a e) := by
  unfold impl_IsValidLedger.f ledgerOk
  by_cases h1 : (a.length : Int) > 12
  · simp only [if_pos h1, decide_eq_false (show ¬ a.length ≤ 12 by omega), Bool.and_false, Bool.false_and]
    refine Ev.step (fun k => by simp only [impl_IsValidLedger.j0]; rfl) ?_
    simp only [if_true]; exact Ev.now _
  · simp only [if_neg h1, decide_eq_true (show a.length ≤ 12 by omega), Bool.and_true]
    refine Ev.step (fun k => by simp only [impl_IsValidLedger.j0]; rfl) ?_
    by_cases h2 : (e.length : Int) > 40
    · simp only [decide_eq_true h2, if_true, decide_eq_false (show ¬ e.length ≤ 40 by omega), Bool.and_false, Bool.false_and]; exact Ev.now _
    · simp only [decide_eq_false h2, Bool.false_eq_true, if_false, decide_eq_true (show e.length ≤ 40 by omega), Bool.and_true]
      exact impl_l0 a e h (by omega)

theorem fitsT_to (a : List S109) (e : List S58) (h : Small a e) (ha : ∀ y ∈ a, y.f0.size ≤ 9223372036854775807) (he : ∀ y ∈ e, y.f1.size ≤ 9223372036854775807) : FitsT (a.map toA) (e.map toE) := by
  refine ⟨fits_to a e h, fun y hy => ?_, fun y hy => ?_⟩
  · obtain ⟨x, hx, rfl⟩ := List.mem_map.1 hy
    exact ha x hx
  · obtain ⟨x, hx, rfl⟩ := List.mem_map.1 hy
    exact he x hx

def itoaB (n : Int) : ByteArray := ⟨(Lib.itoa n).toArray⟩
theorem size_of_list (l : List UInt8) : (⟨l.toArray⟩ : ByteArray).size = l.length := by simp [ByteArray.size]
theorem digit_cut (u : Fin 10) : (⟨#[48, 49, 50, 51, 52, 53, 54, 55, 56, 57]⟩ : ByteArray).extract u.val (u.val + 1) = ⟨[UInt8.ofNat (48 + u.val)].toArray⟩ := by
  revert u; decide +kernel
theorem append_lists (a b : List UInt8) : (⟨a.toArray⟩ : ByteArray) ++ ⟨b.toArray⟩ = ⟨(a ++ b).toArray⟩ := by
  apply ByteArray.ext
  simp
theorem num_nat (u : Nat) : u ≤ 9223372036854775807 → Ev (fun k => spec_l1Num.f k u) ⟨(Lib.decDigits u).toArray⟩ := by
  induction u using Nat.strongRecOn with
  | _ u ih =>
  intro hu
  refine Ev.step (fun k => by simp only [spec_l1Num.f]; rfl) ?_
  simp only [if_neg (show ¬ (u : Int) < 0 by omega)]
  by_cases h : u < 10
  · simp only [if_pos (show (u : Int) < 10 by omega), if_pos (show (0 : Int) ≤ u by omega), wrap_in (show -9223372036854775808 ≤ (u : Int) + 1 by omega) (by omega), if_pos (show (u : Int) ≤ u + 1 by omega), if_pos (show (u : Int) + 1 ≤ 10 by omega)]
    refine Ev.some ?_
    rw [Lib.decDigits_one h, Int.toNat_natCast, show ((u : Int) + 1).toNat = u + 1 by omega]
    exact digit_cut ⟨u, h⟩
  · have hd : Int.tdiv (u : Int) 10 = ((u / 10 : Nat) : Int) := by rw [Int.tdiv_eq_ediv_of_nonneg (by omega)]; omega
    have hm : Int.tmod (u : Int) 10 = ((u % 10 : Nat) : Int) := by rw [Int.tmod_eq_emod_of_nonneg (by omega)]; omega
    have h10 : u % 10 < 10 := Nat.mod_lt _ (by decide)
    simp only [if_neg (show ¬ (u : Int) < 10 by omega), hd, hm, wrap_in (show -9223372036854775808 ≤ ((u / 10 : Nat) : Int) by omega) (by omega)]
    refine Ev.bind (ih (u / 10) (by omega) (by omega)) ?_
    have hl : (Lib.decDigits (u / 10)).length ≤ 20 := by rw [Lib.decDigits_length]; exact Lib.nDigits_le20 _ (by omega)
    have e : Lib.decDigits u = Lib.decDigits (u / 10) ++ [UInt8.ofNat (48 + u % 10)] := by rw [Lib.decDigits, dif_neg h]
    simp only [if_pos (show (0 : Int) ≤ ((u % 10 : Nat) : Int) by omega), wrap_in (show -9223372036854775808 ≤ ((u % 10 : Nat) : Int) + 1 by omega) (by omega), if_pos (show ((u % 10 : Nat) : Int) ≤ ((u % 10 : Nat) : Int) + 1 by omega), if_pos (show ((u % 10 : Nat) : Int) + 1 ≤ 10 by omega), Int.toNat_natCast, show (((u % 10 : Nat) : Int) + 1).toNat = u % 10 + 1 by omega, size_of_list]
    rw [if_pos (show (Lib.decDigits (u / 10)).length + (u % 10 + 1 - u % 10) ≤ 9223372036854775807 by omega)]
    refine Ev.some ?_
    rw [e, digit_cut ⟨u % 10, h10⟩, append_lists]
theorem num_ev (n : Int) (h0 : -9223372036854775807 ≤ n) (h1 : n ≤ 9223372036854775807) : Ev (fun k => spec_l1Num.f k n) (itoaB n) := by
  unfold itoaB
  by_cases h : n < 0
  · obtain ⟨u, rfl⟩ : ∃ u : Nat, n = -(u : Int) := ⟨n.natAbs, by omega⟩
    refine Ev.step (fun k => by simp only [spec_l1Num.f]; rfl) ?_
    simp only [if_pos h, Int.neg_neg, wrap_in (show -9223372036854775808 ≤ (u : Int) by omega) (by omega)]
    refine Ev.bind (num_nat u (by omega)) ?_
    have hl : (Lib.decDigits u).length ≤ 20 := by rw [Lib.decDigits_length]; exact Lib.nDigits_le20 _ (by omega)
    rw [if_pos (by rw [size_of_list]; omega)]
    refine Ev.some ?_
    rw [Lib.itoa_neg u (by omega)]
    exact append_lists [45] _
  · obtain ⟨u, rfl⟩ : ∃ u : Nat, n = (u : Int) := ⟨n.toNat, by omega⟩
    rw [Lib.itoa_nonneg]
    exact num_nat u (by omega)
theorem itoaB_size (n : Int) (h0 : -9223372036854775808 ≤ n) (h1 : n ≤ 9223372036854775807) : (itoaB n).size ≤ 21 := by
  unfold itoaB
  rw [size_of_list]
  exact Lib.itoa_length_le n h0 h1
def mlen (y m : Int) : Int := if m = 4 ∨ m = 6 ∨ m = 9 ∨ m = 11 then 30 else if m = 2 then (if Int.tmod y 4 = 0 then 29 else 28) else 31
theorem mlen_in (y m : Int) : 28 ≤ mlen y m ∧ mlen y m ≤ 31 := by
  unfold mlen
  split
  · omega
  · split
    · split <;> omega
    · omega
theorem l3Length_ev (y m : Int) : Ev (fun k => spec_l3Length.f k y m) (mlen y m) := by
  unfold spec_l3Length.f mlen
  by_cases h4 : m = 4
  · subst h4; simp only [if_true]
    refine Ev.step (fun k => by simp only [spec_l3Length.j0]; rfl) ?_
    simp; exact Ev.now _
  by_cases h6 : m = 6
  · subst h6; simp only [if_true, show ¬ (6 : Int) = 4 by decide, if_false]
    refine Ev.step (fun k => by simp only [spec_l3Length.j0]; rfl) ?_
    simp; exact Ev.now _
  by_cases h9 : m = 9
  · subst h9; simp only [if_true, show ¬ (9 : Int) = 4 by decide, show ¬ (9 : Int) = 6 by decide, if_false]
    refine Ev.step (fun k => by simp only [spec_l3Length.j0]; rfl) ?_
    simp; exact Ev.now _
  simp only [if_neg h4, if_neg h6, if_neg h9]
  refine Ev.step (fun k => by simp only [spec_l3Length.j0]; rfl) ?_
  by_cases h11 : m = 11
  · subst h11; simp; exact Ev.now _
  · simp only [beq_eq_false_iff_ne.2 h11, Bool.false_eq_true, if_false, if_neg (show ¬ (m = 4 ∨ m = 6 ∨ m = 9 ∨ m = 11) by omega)]
    by_cases h2 : m = 2
    · simp only [if_pos h2]
      by_cases hy : Int.tmod y 4 = 0
      · simp only [if_pos hy]; exact Ev.now _
      · simp only [if_neg hy]; exact Ev.now _
    · simp only [if_neg h2]; exact Ev.now _
theorem daysIn_ev (y m : Int) : Ev (fun k => impl_daysIn.f k y m) (mlen y m) := by
  unfold impl_daysIn.f mlen
  by_cases h2 : m = 2
  · subst h2
    simp only [if_true, show ¬ ((2 : Int) = 4 ∨ (2 : Int) = 6 ∨ (2 : Int) = 9 ∨ (2 : Int) = 11) by decide, if_false]
    by_cases hy : Int.tmod y 4 = 0
    · simp only [if_pos hy]; exact Ev.now _
    · simp only [if_neg hy]; exact Ev.now _
  simp only [if_neg h2]
  by_cases h4 : m = 4
  · subst h4; simp only [if_true]
    refine Ev.step (fun k => by simp only [impl_daysIn.j0]; rfl) ?_
    simp; exact Ev.now _
  by_cases h6 : m = 6
  · subst h6; simp only [if_true, show ¬ (6 : Int) = 4 by decide, if_false]
    refine Ev.step (fun k => by simp only [impl_daysIn.j0]; rfl) ?_
    simp; exact Ev.now _
  by_cases h9 : m = 9
  · subst h9; simp only [if_true, show ¬ (9 : Int) = 4 by decide, show ¬ (9 : Int) = 6 by decide, if_false]
    refine Ev.step (fun k => by simp only [impl_daysIn.j0]; rfl) ?_
    simp; exact Ev.now _
  simp only [if_neg h4, if_neg h6, if_neg h9]
  refine Ev.step (fun k => by simp only [impl_daysIn.j0]; rfl) ?_
  by_cases h11 : m = 11
  · subst h11; simp; exact Ev.now _
  · simp only [beq_eq_false_iff_ne.2 h11, Bool.false_eq_true, if_false, if_neg (show ¬ (m = 4 ∨ m = 6 ∨ m = 9 ∨ m = 11) by omega)]; exact Ev.now _
def yS (y : Int) : Int := 365 * (y - 2000) + (y - 2000 + 3) / 4
def mS (y : Int) : Nat → Int
  | 0 => 0
  | n + 1 => mS y n + mlen y ((n : Int) + 1)
theorem mS_in (y : Int) : ∀ n : Nat, 0 ≤ mS y n ∧ mS y n ≤ 31 * (n : Int)
  | 0 => by simp [mS]
  | n + 1 => by have := mS_in y n; have := mlen_in y ((n : Int) + 1); simp only [mS]; omega
theorem tmod4 (y : Int) (h : 0 ≤ y) : Int.tmod y 4 = y % 4 := Int.tmod_eq_emod_of_nonneg h
theorem mS_12 (y : Int) : mS y 12 = 337 + mlen y 2 := by simp [mS, mlen]; omega
theorem yS_next (y : Int) (h : 2000 ≤ y) : yS (y + 1) = yS y + (337 + mlen y 2) := by
  unfold yS
  have e : mlen y 2 = if y % 4 = 0 then 29 else 28 := by unfold mlen; rw [if_neg (by decide), if_pos rfl, tmod4 y (by omega)]
  rw [e]
  split <;> omega
theorem l3Day_ev (y : Int) (hy : 2000 ≤ y ∧ y ≤ 2100) (m : Nat) (hm : 1 ≤ m ∧ m ≤ 12) (d : Int) (hd : 0 ≤ d ∧ d ≤ 100) : Ev (fun k => spec_l3Day.f k y m d) (yS y + mS y (m - 1) + d - 1) := by
  have key : ∀ (n i : Nat), i + n = m → 1 ≤ i → Ev (fun k => spec_l3Day.l0 k (yS y + mS y (i - 1)) i y m d) (yS y + mS y (m - 1) + d - 1) := by
    intro n
    induction n with
    | zero =>
      intro i hi h1
      have hb := mS_in y (m - 1)
      have e : i = m := by omega
      subst e
      refine Ev.step (fun k => by simp only [spec_l3Day.l0]; rfl) ?_
      unfold yS at *
      simp only [Int.lt_irrefl, if_false, wrap_in (show -9223372036854775808 ≤ 365 * (y - 2000) + (y - 2000 + 3) / 4 + mS y (i - 1) + d by omega) (by omega), wrap_in (show -9223372036854775808 ≤ 365 * (y - 2000) + (y - 2000 + 3) / 4 + mS y (i - 1) + d - 1 by omega) (by omega)]
      exact Ev.now _
    | succ n ih =>
      intro i hi h1
      have hb := mS_in y (i - 1)
      have hl := mlen_in y i
      have := ih (i + 1) (by omega) (by omega)
      refine Ev.step (fun k => by simp only [spec_l3Day.l0]; rfl) ?_
      simp only [if_pos (show (i : Int) < (m : Int) by omega)]
      refine Ev.bind (l3Length_ev y i) ?_
      have e : mS y (i + 1 - 1) = mS y (i - 1) + mlen y i := by
        rw [show i + 1 - 1 = (i - 1) + 1 by omega]
        simp only [mS]
        rw [show ((i - 1 : Nat) : Int) + 1 = i by omega]
      rw [e] at this
      have hw : wrap64 (yS y + mS y (i - 1) + mlen y i) = yS y + (mS y (i - 1) + mlen y i) := by
        rw [wrap_in (by unfold yS; omega) (by unfold yS; omega)]; omega
      rw [hw, wrap_in (show -9223372036854775808 ≤ (i : Int) + 1 by omega) (by omega)]
      simpa using this
  unfold spec_l3Day.f
  have h0 : wrap64 (y - 2000) = y - 2000 := wrap_in (by omega) (by omega)
  have hq : Int.tdiv (y - 2000 + 3) 4 = (y - 2000 + 3) / 4 := Int.tdiv_eq_ediv_of_nonneg (by omega)
  rw [h0, wrap_in (show -9223372036854775808 ≤ 365 * (y - 2000) by omega) (by omega), wrap_in (show -9223372036854775808 ≤ y - 2000 + 3 by omega) (by omega), hq, wrap_in (show -9223372036854775808 ≤ (y - 2000 + 3) / 4 by omega) (by omega), wrap_in (show -9223372036854775808 ≤ 365 * (y - 2000) + (y - 2000 + 3) / 4 by omega) (by omega)]
  have := key (m - 1) 1 (by omega) (by omega)
  simpa [mS, yS] using this
/-- A date, as both find it. -/
def IsDate (r : Int × Int × Int) : Prop := (2000 ≤ r.1 ∧ r.1 ≤ 2099) ∧ (1 ≤ r.2.1 ∧ r.2.1 ≤ 12) ∧ 1 ≤ r.2.2 ∧ r.2.2 ≤ 31
theorem months_both (day y : Int) (hy : 2000 ≤ y ∧ y ≤ 2099) (hx : 0 ≤ day - yS y ∧ day - yS y < mS y 12) : ∀ (n m : Nat), m + n = 12 → 1 ≤ m → mS y (m - 1) ≤ day - yS y → ∃ r, Ev (fun k => spec_l3Date.l1 k day y m 1) r ∧ Ev (fun k => impl_dateOf.l1 k (day - yS y - mS y (m - 1)) y m 0) r ∧ IsDate r := by
  have hy0 : 0 ≤ yS y ∧ yS y ≤ 40000 := by unfold yS; omega
  have h12 := mS_in y 12
  have stop : ∀ m : Nat, 1 ≤ m → m ≤ 12 → mS y (m - 1) ≤ day - yS y → day - yS y < mS y m → Ev (fun k => (spec_l3Day.f k y m 1).bind fun t => some (y, (m : Int), wrap64 ((wrap64 (day - t)) + 1))) (y, (m : Int), day - yS y - mS y (m - 1) + 1) ∧ Ev (fun k => impl_dateOf.l1 k (day - yS y - mS y (m - 1)) y m 0) (y, (m : Int), day - yS y - mS y (m - 1) + 1) ∧ IsDate (y, (m : Int), day - yS y - mS y (m - 1) + 1) := by
    intro m h1 h2 h3 h4
    have hb := mS_in y (m - 1)
    have hl := mlen_in y m
    have e : mS y m = mS y (m - 1) + mlen y m := by
      obtain ⟨q, rfl⟩ : ∃ q, m = q + 1 := ⟨m - 1, by omega⟩
      simp only [mS, Nat.add_sub_cancel]
      rw [show ((q + 1 : Nat) : Int) = (q : Int) + 1 by omega]
    refine ⟨?_, ?_, hy, ⟨by simp only []; omega, by simp only []; omega⟩, by simp only []; omega, by simp only []; omega⟩
    · refine Ev.bind (l3Day_ev y (by omega) m (by omega) 1 (by omega)) ?_
      rw [wrap_in (show -9223372036854775808 ≤ day - (yS y + mS y (m - 1) + 1 - 1) by omega) (by omega), wrap_in (show -9223372036854775808 ≤ day - (yS y + mS y (m - 1) + 1 - 1) + 1 by omega) (by omega)]
      exact Ev.some (by rw [show day - (yS y + mS y (m - 1) + 1 - 1) + 1 = day - yS y - mS y (m - 1) + 1 by omega])
    · refine Ev.step (fun k => by simp only [impl_dateOf.l1]; rfl) ?_
      refine Ev.bind (daysIn_ev y m) ?_
      refine ev_neg (by omega) ?_
      rw [wrap_in (show -9223372036854775808 ≤ day - yS y - mS y (m - 1) + 1 by omega) (by omega)]
      exact Ev.now _
  intro n
  induction n with
  | zero =>
    intro m hm h1 hs
    have e : m = 12 := by omega
    subst e
    obtain ⟨s1, s2, s3⟩ := stop 12 (by omega) (by omega) hs hx.2
    refine ⟨_, ?_, s2, s3⟩
    refine Ev.step (fun k => by simp only [spec_l3Date.l1]; rfl) ?_
    exact ev_neg (by omega) s1
  | succ n ih =>
    intro m hm h1 hs
    have hlt : (m : Int) < 12 := by omega
    have hb := mS_in y (m - 1)
    have hl := mlen_in y m
    have e : mS y m = mS y (m - 1) + mlen y m := by
      obtain ⟨q, rfl⟩ : ∃ q, m = q + 1 := ⟨m - 1, by omega⟩
      simp only [mS, Nat.add_sub_cancel]
      rw [show ((q + 1 : Nat) : Int) = (q : Int) + 1 by omega]
    have hday := l3Day_ev y (by omega) (m + 1) (by omega) 1 (by omega)
    have hm1 : wrap64 ((m : Int) + 1) = ((m + 1 : Nat) : Int) := by rw [wrap_in (by omega) (by omega)]; omega
    by_cases hc : mS y m ≤ day - yS y
    · obtain ⟨r, r1, r2, r3⟩ := ih (m + 1) (by clear hm1; omega) (by clear hm1; omega) (by rw [Nat.add_sub_cancel]; exact hc)
      refine ⟨r, ?_, ?_, r3⟩
      · refine Ev.step (fun k => by simp only [spec_l3Date.l1]; rfl) ?_
        refine ev_pos hlt ?_
        rw [hm1]
        clear hm1
        refine Ev.bind hday ?_
        refine ev_pos (by simp only [Nat.add_sub_cancel]; omega) ?_
        exact r1
      · refine Ev.step (fun k => by simp only [impl_dateOf.l1]; rfl) ?_
        refine Ev.bind (daysIn_ev y m) ?_
        refine ev_pos (by clear hm1; omega) ?_
        refine Ev.bind (daysIn_ev y m) ?_
        rw [hm1]
        clear hm1
        rw [wrap_in (show -9223372036854775808 ≤ day - yS y - mS y (m - 1) - mlen y m by omega) (by omega), show day - yS y - mS y (m - 1) - mlen y m = day - yS y - mS y (m + 1 - 1) by simp only [Nat.add_sub_cancel]; omega]
        exact r2
    · obtain ⟨s1, s2, s3⟩ := stop m h1 (by clear hm1; omega) hs (by clear hm1; omega)
      refine ⟨_, ?_, s2, s3⟩
      refine Ev.step (fun k => by simp only [spec_l3Date.l1]; rfl) ?_
      refine ev_pos hlt ?_
      rw [hm1]
      clear hm1
      refine Ev.bind hday ?_
      exact ev_neg (by simp only [Nat.add_sub_cancel]; omega) s1

theorem itoa_eq (n : Int) (h0 : -9223372036854775808 ≤ n) (h1 : n ≤ 9223372036854775807) : strconv_Itoa.f n = some (itoaB n) := by
  unfold strconv_Itoa.f
  rw [if_pos ⟨h0, h1⟩]
  rfl
theorem itoaB_len (u : Nat) : (itoaB (u : Int)).size = Lib.nDigits u := by
  unfold itoaB
  rw [size_of_list, Lib.itoa_nonneg, Lib.decDigits_length]
theorem itoaB_len1 (n : Int) (h : 0 ≤ n ∧ n < 10) : (itoaB n).size = 1 := by
  obtain ⟨u, rfl⟩ : ∃ u : Nat, n = (u : Int) := ⟨n.toNat, by omega⟩
  rw [itoaB_len]; exact Lib.nDigits_small (by omega)
theorem itoaB_len2 (n : Int) (h : 10 ≤ n ∧ n < 100) : (itoaB n).size = 2 := by
  obtain ⟨u, rfl⟩ : ∃ u : Nat, n = (u : Int) := ⟨n.toNat, by omega⟩
  rw [itoaB_len]; exact Lib.nDigits_unique 1 u (by omega) (by omega)
theorem itoaB_len4 (n : Int) (h : 1000 ≤ n ∧ n < 10000) : (itoaB n).size = 4 := by
  obtain ⟨u, rfl⟩ : ∃ u : Nat, n = (u : Int) := ⟨n.toNat, by omega⟩
  rw [itoaB_len]; exact Lib.nDigits_unique 3 u (by omega) (by omega)
def pad2 (n : Int) : ByteArray := if n < 10 then (⟨#[48]⟩ : ByteArray) ++ itoaB n else itoaB n
theorem pad2_size (n : Int) (h : 0 ≤ n ∧ n < 100) : (pad2 n).size = 2 := by
  unfold pad2
  split
  · rw [ByteArray.size_append, itoaB_len1 n ⟨h.1, by assumption⟩]; rfl
  · exact itoaB_len2 n ⟨by omega, h.2⟩
theorem two_ev (n : Int) (h : 0 ≤ n ∧ n < 100) : Ev (fun k => spec_l3Two.f k n) (pad2 n) := by
  unfold spec_l3Two.f pad2
  by_cases h1 : n < 10
  · simp only [if_pos h1]
    refine Ev.bind (num_ev n (by omega) (by omega)) ?_
    have := itoaB_len1 n ⟨h.1, h1⟩
    exact ev_pos (by omega) (Ev.now _)
  · simp only [if_neg h1]
    refine Ev.bind (num_ev n (by omega) (by omega)) ?_
    exact Ev.now _
theorem padded2_ev (n : Int) (h : 0 ≤ n ∧ n < 100) : Ev (fun k => impl_padded.f k n 2) (pad2 n) := by
  unfold impl_padded.f pad2
  rw [itoa_eq n (by omega) (by omega)]
  simp only [Option.bind_some]
  by_cases h1 : n < 10
  · have s1 := itoaB_len1 n ⟨h.1, h1⟩
    simp only [if_pos h1]
    refine Ev.step (fun k => by simp only [impl_padded.l0]; rfl) ?_
    refine ev_pos (by omega) (ev_pos (by omega) ?_)
    refine Ev.step (fun k => by simp only [impl_padded.l0]; rfl) ?_
    refine ev_neg ?_ (Ev.now _)
    rw [ByteArray.size_append, s1]; decide
  · have s1 := itoaB_len2 n ⟨by omega, h.2⟩
    simp only [if_neg h1]
    refine Ev.step (fun k => by simp only [impl_padded.l0]; rfl) ?_
    exact ev_neg (by omega) (Ev.now _)
theorem padded4_ev (n : Int) (h : 1000 ≤ n ∧ n < 10000) : Ev (fun k => impl_padded.f k n 4) (itoaB n) := by
  unfold impl_padded.f
  rw [itoa_eq n (by omega) (by omega)]
  simp only [Option.bind_some]
  have s1 := itoaB_len4 n h
  refine Ev.step (fun k => by simp only [impl_padded.l0]; rfl) ?_
  exact ev_neg (by omega) (Ev.now _)
theorem years_both (day : Int) (hd : 0 ≤ day ∧ day ≤ 36524) : ∀ (n : Nat) (y : Int), y + n = 2099 → 2000 ≤ y → yS y ≤ day → ∃ r, Ev (fun k => spec_l3Date.l0 k day y 1 1) r ∧ Ev (fun k => impl_dateOf.l0 k (day - yS y) y 1 0) r ∧ IsDate r := by
  have stop : ∀ y : Int, 2000 ≤ y → y ≤ 2099 → yS y ≤ day → day - yS y < 337 + mlen y 2 → ∃ r, Ev (fun k => spec_l3Date.j1 k day y 1 1) r ∧ Ev (fun k => impl_dateOf.l0 k (day - yS y) y 1 0) r ∧ IsDate r := by
    intro y h0 h1 h2 h3
    have hb := mlen_in y 2
    have hy0 : 0 ≤ yS y ∧ yS y ≤ 40000 := by unfold yS; omega
    obtain ⟨r, r1, r2, r3⟩ := months_both day y ⟨h0, h1⟩ ⟨by omega, by rw [mS_12]; omega⟩ 11 1 rfl (by omega) (by show (0 : Int) ≤ day - yS y; omega)
    refine ⟨r, ?_, ?_, r3⟩
    · refine Ev.step (fun k => by simp only [spec_l3Date.j1]; rfl) ?_
      exact r1
    · refine Ev.step (fun k => by simp only [impl_dateOf.l0, impl_daysOf.f]; rfl) ?_
      refine Ev.bind (Ev.bind (daysIn_ev y 2) (Ev.now _)) ?_
      rw [wrap_in (show -9223372036854775808 ≤ 337 + mlen y 2 by omega) (by omega)]
      refine ev_neg (by omega) ?_
      have e : day - yS y - mS y (1 - 1) = day - yS y := by simp [mS]
      rw [e] at r2
      exact r2
  intro n
  induction n with
  | zero =>
    intro y hn h0 h2
    have e : y = 2099 := by omega
    subst e
    have m28 : mlen 2099 2 = 28 := by decide
    have y99 : yS 2099 = 36160 := by decide
    obtain ⟨r, r1, r2, r3⟩ := stop 2099 (by omega) (by omega) h2 (by omega)
    refine ⟨r, ?_, r2, r3⟩
    refine Ev.step (fun k => by simp only [spec_l3Date.l0]; rfl) ?_
    exact ev_neg (by omega) r1
  | succ n ih =>
    intro y hn h0 h2
    have hb := mlen_in y 2
    have hy0 : 0 ≤ yS y ∧ yS y ≤ 40000 := by unfold yS; omega
    have hnx := yS_next y h0
    have hday : Ev (fun k => spec_l3Day.f k (y + 1) 1 1) (yS (y + 1)) := by
      have := l3Day_ev (y + 1) (by omega) 1 (by omega) 1 (by omega)
      have e : yS (y + 1) + mS (y + 1) (1 - 1) + 1 - 1 = yS (y + 1) := by simp [mS]
      rw [e] at this
      exact this
    have hy1 : wrap64 (y + 1) = y + 1 := wrap_in (by omega) (by omega)
    by_cases hc : yS (y + 1) ≤ day
    · obtain ⟨r, r1, r2, r3⟩ := ih (y + 1) (by omega) (by omega) hc
      refine ⟨r, ?_, ?_, r3⟩
      · refine Ev.step (fun k => by simp only [spec_l3Date.l0]; rfl) ?_
        refine ev_pos (by omega) ?_
        rw [hy1]
        refine Ev.bind hday ?_
        exact ev_pos hc r1
      · refine Ev.step (fun k => by simp only [impl_dateOf.l0, impl_daysOf.f]; rfl) ?_
        refine Ev.bind (Ev.bind (daysIn_ev y 2) (Ev.now _)) ?_
        rw [wrap_in (show -9223372036854775808 ≤ 337 + mlen y 2 by omega) (by omega)]
        refine ev_pos (by omega) ?_
        refine Ev.bind (Ev.bind (daysIn_ev y 2) (Ev.now _)) ?_
        rw [wrap_in (show -9223372036854775808 ≤ 337 + mlen y 2 by omega) (by omega), hy1, wrap_in (show -9223372036854775808 ≤ day - yS y - (337 + mlen y 2) by omega) (by omega), show day - yS y - (337 + mlen y 2) = day - yS (y + 1) by omega]
        exact r2
    · obtain ⟨r, r1, r2, r3⟩ := stop y h0 (by omega) h2 (by omega)
      refine ⟨r, ?_, r2, r3⟩
      refine Ev.step (fun k => by simp only [spec_l3Date.l0]; rfl) ?_
      refine ev_pos (by omega) ?_
      rw [hy1]
      refine Ev.bind hday ?_
      exact ev_neg hc r1
theorem date_both (day : Int) (hd : 0 ≤ day ∧ day ≤ 36524) : ∃ t : ByteArray, Ev (fun k => spec_l3Text.f k day) t ∧ Ev (fun k => impl_dateText.f k day) t ∧ t.size ≤ 100 := by
  obtain ⟨r, r1, r2, ⟨d1, d2, d3⟩⟩ := years_both day hd 99 2000 (by omega) (by omega) (by show (0 : Int) ≤ day; omega)
  have y00 : yS 2000 = 0 := by decide
  have e0 : day - yS 2000 = day := by omega
  rw [e0] at r2
  have s1 := itoaB_len4 r.1 (by omega)
  have s2 := pad2_size r.2.1 (by omega)
  have s3 := pad2_size r.2.2 (by omega)
  refine ⟨(((itoaB r.1 ++ (⟨#[45]⟩ : ByteArray)) ++ pad2 r.2.1) ++ (⟨#[45]⟩ : ByteArray)) ++ pad2 r.2.2, ?_, ?_, ?_⟩
  · unfold spec_l3Text.f spec_l3Date.f
    refine Ev.bind r1 ?_
    refine Ev.bind (num_ev r.1 (by omega) (by omega)) ?_
    refine ev_pos (by omega) ?_
    refine Ev.bind (two_ev r.2.1 (by omega)) ?_
    refine ev_pos (by omega) (ev_pos (by omega) ?_)
    refine Ev.bind (two_ev r.2.2 (by omega)) ?_
    exact ev_pos (by omega) (Ev.now _)
  · unfold impl_dateText.f impl_dateOf.f
    refine Ev.bind r2 ?_
    refine Ev.bind (padded4_ev r.1 (by omega)) ?_
    refine ev_pos (by omega) ?_
    refine Ev.bind (padded2_ev r.2.1 (by omega)) ?_
    refine ev_pos (by omega) (ev_pos (by omega) ?_)
    refine Ev.bind (padded2_ev r.2.2 (by omega)) ?_
    exact ev_pos (by omega) (Ev.now _)
  · simp only [ByteArray.size_append, s1, s2, s3]; decide
theorem ba_assoc (a b c : ByteArray) : (a ++ b) ++ c = a ++ (b ++ c) := by
  apply ByteArray.ext
  simp only [ByteArray.data_append, Array.append_assoc]
theorem amount_j0 (u : Nat) (hu : u ≤ 1000000000) (s : ByteArray) (hs : s.size ≤ 1) : Ev (fun k => spec_l2Format.j0 k (u : Int) s) (((s ++ itoaB ((u / 100 : Nat) : Int)) ++ (⟨#[46]⟩ : ByteArray)) ++ pad2 ((u % 100 : Nat) : Int)) := by
  have hd : Int.tdiv (u : Int) 100 = ((u / 100 : Nat) : Int) := by rw [Int.tdiv_eq_ediv_of_nonneg (by omega)]; omega
  have hm : Int.tmod (u : Int) 100 = ((u % 100 : Nat) : Int) := by rw [Int.tmod_eq_emod_of_nonneg (by omega)]; omega
  have s1 := itoaB_size ((u / 100 : Nat) : Int) (by omega) (by omega)
  have s2 := itoaB_size ((u % 100 : Nat) : Int) (by omega) (by omega)
  refine Ev.step (fun k => by simp only [spec_l2Format.j0]; rfl) ?_
  rw [hd, hm, wrap_in (show -9223372036854775808 ≤ ((u / 100 : Nat) : Int) by omega) (by omega)]
  refine Ev.bind (num_ev _ (by omega) (by omega)) ?_
  refine ev_pos (by omega) (ev_pos (by omega) ?_)
  unfold pad2
  by_cases h : ((u % 100 : Nat) : Int) < 10
  · simp only [if_pos h]
    refine ev_pos (by omega) ?_
    refine Ev.bind (num_ev _ (by omega) (by omega)) ?_
    refine ev_pos (by omega) ?_
    rw [← ba_assoc]
    exact Ev.now _
  · simp only [if_neg h]
    refine Ev.bind (num_ev _ (by omega) (by omega)) ?_
    exact ev_pos (by omega) (Ev.now _)
theorem amount_i0 (x : Int) (u : Nat) (hx : x = u ∨ x = -(u : Int)) (hu : u ≤ 1000000000) (s : ByteArray) (hs : s.size ≤ 1) : Ev (fun k => impl_amountText.j0 k x s) (((s ++ itoaB ((u / 100 : Nat) : Int)) ++ (⟨#[46]⟩ : ByteArray)) ++ pad2 ((u % 100 : Nat) : Int)) := by
  have hd : Int.tdiv (u : Int) 100 = ((u / 100 : Nat) : Int) := by rw [Int.tdiv_eq_ediv_of_nonneg (by omega)]; omega
  have hm : Int.tmod (u : Int) 100 = ((u % 100 : Nat) : Int) := by rw [Int.tmod_eq_emod_of_nonneg (by omega)]; omega
  have s1 := itoaB_size ((u / 100 : Nat) : Int) (by omega) (by omega)
  have s2 := pad2_size ((u % 100 : Nat) : Int) (by omega)
  have hz : impl_size.f x = some (u : Int) := by
    unfold impl_size.f
    rw [wrap_in (show -9223372036854775808 ≤ -x by omega) (by omega)]
    have e : mx x (-x) = (u : Int) := by
      unfold mx
      rcases hx with rfl | rfl
      · rw [if_neg (by omega)]
      · by_cases h0 : u = 0
        · subst h0; rfl
        · rw [if_pos (by omega), Int.neg_neg]
    rw [e]
  have hz' : Ev (fun _ => impl_size.f x) (u : Int) := by rw [hz]; exact Ev.now _
  have hq : Ev (fun _ => strconv_Itoa.f ((u / 100 : Nat) : Int)) (itoaB ((u / 100 : Nat) : Int)) := by rw [itoa_eq ((u / 100 : Nat) : Int) (by omega) (by omega)]; exact Ev.now _
  have hw : wrap64 (Int.tdiv (u : Int) 100) = ((u / 100 : Nat) : Int) := by rw [hd, wrap_in (show -9223372036854775808 ≤ ((u / 100 : Nat) : Int) by omega) (by omega)]
  have n1 : s.size + (itoaB ((u / 100 : Nat) : Int)).size ≤ 9223372036854775807 := by clear hw hz hz' hq; omega
  have n2 : s.size + (itoaB ((u / 100 : Nat) : Int)).size + 1 ≤ 9223372036854775807 := by clear hw hz hz' hq; omega
  have n3 : s.size + (itoaB ((u / 100 : Nat) : Int)).size + 1 + (pad2 ((u % 100 : Nat) : Int)).size ≤ 9223372036854775807 := by clear hw hz hz' hq; omega
  have hp := padded2_ev ((u % 100 : Nat) : Int) (by clear hw hz hz' hq; omega)
  refine Ev.step (fun k => by simp only [impl_amountText.j0]; rfl) ?_
  refine Ev.bind hz' ?_
  rw [hw]
  refine Ev.bind hq ?_
  refine ev_pos n1 (ev_pos n2 ?_)
  refine Ev.bind hz' ?_
  rw [hm]
  refine Ev.bind hp ?_
  exact ev_pos n3 (Ev.now _)
theorem amount_both (x : Int) (hx : -1000000000 ≤ x ∧ x ≤ 1000000000) : ∃ t : ByteArray, Ev (fun k => spec_l2Format.f k x) t ∧ Ev (fun k => impl_amountText.f k x) t ∧ t.size ≤ 100 := by
  have zs (u : Nat) (hu : u ≤ 1000000000) (s : ByteArray) (hs : s.size ≤ 1) : ((((s ++ itoaB ((u / 100 : Nat) : Int)) ++ (⟨#[46]⟩ : ByteArray)) ++ pad2 ((u % 100 : Nat) : Int))).size ≤ 100 := by
    have s1 := itoaB_size ((u / 100 : Nat) : Int) (by omega) (by omega)
    have s2 := pad2_size ((u % 100 : Nat) : Int) (by omega)
    simp only [ByteArray.size_append, s2]
    have : (⟨#[46]⟩ : ByteArray).size = 1 := rfl
    omega
  unfold spec_l2Format.f impl_amountText.f
  by_cases h : x < 0
  · obtain ⟨u, rfl⟩ : ∃ u : Nat, x = -(u : Int) := ⟨x.natAbs, by omega⟩
    simp only [if_pos h, Int.neg_neg, wrap_in (show -9223372036854775808 ≤ (u : Int) by omega) (by omega)]
    exact ⟨_, amount_j0 u (by omega) _ (by decide), amount_i0 _ u (Or.inr rfl) (by omega) _ (by decide), zs u (by omega) _ (by decide)⟩
  · obtain ⟨u, rfl⟩ : ∃ u : Nat, x = (u : Int) := ⟨x.toNat, by omega⟩
    simp only [if_neg h]
    exact ⟨_, amount_j0 u (by omega) _ (by decide), amount_i0 _ u (Or.inl rfl) (by omega) _ (by decide), zs u (by omega) _ (by decide)⟩

theorem acR_all : ∀ (l pre : List S48), acR pre l = true → ∀ x ∈ l, acctOk x = true
  | [], _, _ => by simp
  | x :: r, pre, h => by
    simp only [acR, Bool.and_eq_true] at h
    intro y hy
    rcases List.mem_cons.1 hy with rfl | hy
    · exact h.1.1
    · exact acR_all r _ h.2 y hy
theorem entR_all (n : Int) : ∀ (l : List S63) (p : Option S63) (b : List Int), entR n p b l = true → ∀ x ∈ l, entryOk n x = true
  | [], _, _, _ => by simp
  | x :: r, p, b, h => by
    simp only [entR, Bool.and_eq_true] at h
    intro y hy
    rcases List.mem_cons.1 hy with rfl | hy
    · exact h.1.2
    · have h2 := h.2
      split at h2
      · cases h2
      · exact entR_all n r _ _ h2 y hy
theorem lines_both (a : List S48) (e : List S63) (ps : List S70) (d : Int) (m : ByteArray) (hps : ∀ x ∈ ps, (0 ≤ x.f0 ∧ x.f0 ≤ (a.length : Int) - 1) ∧ amt x.f1 = true) (ha : ∀ y ∈ a, y.f0.size ≤ 8) (hl : ps.length ≤ 8) (s : ByteArray) (hs : s.size ≤ 1000) :
    ∃ r, Ev (fun k => spec_FormatEntry.l0 k s 0 a e d m ps) r ∧ Ev (fun k => impl_FormatEntry.l0 k s ps (ps.length : Int) 0 a e) r := by
  have key := list_ind0 ps (fun i rest => ∀ s : ByteArray, s.size ≤ 1000 + 200 * i → ∃ r, Ev (fun k => spec_FormatEntry.l0 k s i a e d m ps) r ∧ Ev (fun k => impl_FormatEntry.l0 k s ps (ps.length : Int) i a e) r) ?_ ?_
  · exact key s (by omega)
  · intro s hs
    refine ⟨(s, true), ?_, ?_⟩
    · refine Ev.step (fun k => by simp only [spec_FormatEntry.l0]; rfl) ?_
      exact ev_neg (by omega) (Ev.now _)
    · refine Ev.step (fun k => by simp only [impl_FormatEntry.l0]; rfl) ?_
      exact ev_neg (by omega) (Ev.now _)
  · intro i x rest hi hd ih s hs
    obtain ⟨⟨h0, h1⟩, h2⟩ := hps x (mem_drop hd)
    rw [amt_iff] at h2
    obtain ⟨t, t1, t2, t3⟩ := amount_both x.f1 h2
    have hx := rdP hd
    obtain ⟨nm, hnm⟩ : ∃ nm, (rd_T48 a x.f0).f0 = nm := ⟨_, rfl⟩
    have hn : nm.size ≤ 8 := by
      rw [← hnm, rd_T48, List.getD_eq_getElem?_getD, List.getElem?_eq_getElem (show x.f0.toNat < a.length by omega)]
      exact ha _ (List.getElem_mem _)
    have c3 : (⟨#[10, 32, 32]⟩ : ByteArray).size = 3 := rfl
    have c1 : (⟨#[32]⟩ : ByteArray).size = 1 := rfl
    obtain ⟨r, r1, r2⟩ := ih ((((s ++ (⟨#[10, 32, 32]⟩ : ByteArray)) ++ nm) ++ (⟨#[32]⟩ : ByteArray)) ++ t) (by simp only [ByteArray.size_append]; omega)
    refine ⟨r, ?_, ?_⟩
    · refine Ev.step (fun k => by simp only [spec_FormatEntry.l0, hx, hnm]; rfl) ?_
      refine ev_pos (by omega) (ev_pos (by omega) (ev_pos (by omega) (ev_pos (by omega) (ev_pos (by omega) (ev_pos (by omega) (ev_pos (by omega) ?_))))))
      refine Ev.bind t1 ?_
      refine ev_pos (by omega) ?_
      rw [wrap_in (show -9223372036854775808 ≤ (i : Int) + 1 by omega) (by omega)]
      exact r1
    · refine Ev.step (fun k => by simp only [impl_FormatEntry.l0, hx, hnm]; rfl) ?_
      refine ev_pos (by omega) (ev_pos (by omega) (ev_pos (by omega) (ev_pos (by omega) (ev_pos (by omega) (ev_pos (by omega) (ev_pos (by omega) ?_))))))
      refine Ev.bind t2 ?_
      refine ev_pos (by omega) (ev_pos (by omega) ?_)
      rw [wrap_in (show -9223372036854775808 ≤ (i : Int) + 1 by omega) (by omega)]
      simp only [ba_assoc] at r2 ⊢
      exact r2
theorem format_both (a : List S48) (e : List S63) (h : FitsT a e) (n : Int) : ∃ r, Ev (fun k => spec_FormatEntry.f k a e n) r ∧ Ev (fun k => impl_FormatEntry.f k a e n) r := by
  have f1 := h.1.2.1
  unfold spec_FormatEntry.f impl_FormatEntry.f
  have no : Ev (fun k => spec_FormatEntry.j0 k n true a e) ((⟨#[]⟩ : ByteArray), false) ∧ Ev (fun k => impl_FormatEntry.j0 k n true a e) ((⟨#[]⟩ : ByteArray), false) := by
    constructor
    · refine Ev.step (fun k => by simp only [spec_FormatEntry.j0]; rfl) ?_
      simp only [if_true]; exact Ev.now _
    · refine Ev.step (fun k => by simp only [impl_FormatEntry.j0]; rfl) ?_
      simp only [if_true]; exact Ev.now _
  cases h1 : ledgerOk a e with
  | false =>
    have g1 := specGood_ev a e h
    have g2 := implLedger_ev a e h
    rw [h1] at g1 g2
    refine ⟨((⟨#[]⟩ : ByteArray), false), Ev.bind g1 ?_, Ev.bind g2 ?_⟩
    · simp only [Bool.false_eq_true, if_false]; exact no.1
    · simp only [Bool.false_eq_true, if_false]; exact no.2
  | true =>
    have g1 := specGood_ev a e h
    have g2 := implLedger_ev a e h
    rw [h1] at g1 g2
    cases h2 : bIn n 0 ((e.length : Int) - 1) with
    | false =>
      refine ⟨((⟨#[]⟩ : ByteArray), false), Ev.bind g1 ?_, Ev.bind g2 ?_⟩
      · simp only [if_true, l1In_b, Option.bind_some, wrap_in (show -9223372036854775808 ≤ (e.length : Int) - 1 by omega) (by omega), h2, Bool.not_false]; exact no.1
      · simp only [if_true, within_b, Option.bind_some, wrap_in (show -9223372036854775808 ≤ (e.length : Int) - 1 by omega) (by omega), h2, Bool.not_false]; exact no.2
    | true =>
      have hn := (bIn_iff _ _ _).1 h2
      obtain ⟨i, rfl⟩ : ∃ i : Nat, n = (i : Int) := ⟨n.toNat, by omega⟩
      have hi : i < e.length := by omega
      have hm : rd_T63 e (i : Int) ∈ e := by
        rw [rd_T63, Int.toNat_natCast, List.getD_eq_getElem?_getD, List.getElem?_eq_getElem hi]
        exact List.getElem_mem _
      unfold ledgerOk at h1
      simp only [Bool.and_eq_true, decide_eq_true_eq] at h1
      have hx := entR_all _ e _ _ h1.2 _ hm
      have hA : ∀ y ∈ a, y.f0.size ≤ 8 := fun y hy => by
        have := acR_all a [] h1.1.1.1 y hy
        unfold acctOk nameOk at this
        simp only [Bool.and_eq_true, bIn_iff] at this
        omega
      unfold entryOk memoOk postOk at hx
      simp only [Bool.and_eq_true, decide_eq_true_eq] at hx
      obtain ⟨⟨hday, _, hmemo⟩, hlen, hpost⟩ := hx
      have hday := (bIn_iff _ _ _).1 hday
      have hlen := (bIn_iff _ _ _).1 hlen
      obtain ⟨t, t1, t2, t3⟩ := date_both _ hday
      have c1 : (⟨#[32]⟩ : ByteArray).size = 1 := rfl
      obtain ⟨r, r1, r2⟩ := lines_both a e (rd_T63 e (i : Int)).f2 (rd_T63 e (i : Int)).f0 (rd_T63 e (i : Int)).f1 (postR_all _ _ _ _ hpost) hA (by omega) ((t ++ (⟨#[32]⟩ : ByteArray)) ++ (rd_T63 e (i : Int)).f1) (by simp only [ByteArray.size_append]; omega)
      refine ⟨r, Ev.bind g1 ?_, Ev.bind g2 ?_⟩
      · simp only [if_true, l1In_b, Option.bind_some, wrap_in (show -9223372036854775808 ≤ (e.length : Int) - 1 by omega) (by omega), h2, Bool.not_true]
        refine Ev.step (fun k => by simp only [spec_FormatEntry.j0]; rfl) ?_
        refine ev_neg (by decide) (ev_pos (by omega) (ev_pos (by omega) ?_))
        refine Ev.bind t1 ?_
        exact ev_pos (by omega) (ev_pos (by omega) r1)
      · simp only [if_true, within_b, Option.bind_some, wrap_in (show -9223372036854775808 ≤ (e.length : Int) - 1 by omega) (by omega), h2, Bool.not_true]
        refine Ev.step (fun k => by simp only [impl_FormatEntry.j0]; rfl) ?_
        refine ev_neg (by decide) (ev_pos (by omega) (ev_pos (by omega) ?_))
        refine Ev.bind t2 ?_
        exact ev_pos (by omega) (ev_pos (by omega) r2)
theorem FnExactFormatEntry : XGFnExactFormatEntry.Pure := by
  intro a e n ha he hn
  refine Ev.rounds ?_
  unfold laws_FnExactFormatEntry.f
  have ha' : ∀ y ∈ a, y.f0.size ≤ 9223372036854775807 := fun y hy => (ha.2 y hy).1
  have he' : ∀ y ∈ e, y.f1.size ≤ 9223372036854775807 ∧ y.f2.length ≤ 9223372036854775807 := fun y hy => ⟨(he.2 y hy).2.1, (he.2 y hy).2.2.1⟩
  obtain ⟨t, ht, hs⟩ := szLedger_ev a e ⟨ha.1, ha'⟩ ⟨he.1, he'⟩
  refine Ev.bind ht ?_
  by_cases h1 : t < 0
  · simp only [if_pos h1]; exact Ev.now _
  have hsm : Small a e := (hs.resolve_left h1).1
  have hf := fitsT_to a e hsm ha' (fun y hy => (he' y hy).1)
  simp only [if_neg h1]
  obtain ⟨r, r1, r2⟩ := format_both _ _ hf n
  refine Ev.bind (toLedger_ev a e hsm) ?_
  refine Ev.bind r1 ?_
  refine Ev.bind (toLedger_ev a e hsm) ?_
  refine Ev.bind r2 ?_
  simp only [if_true, bne_self_eq_false]
  refine Ev.step (fun k => by simp only [laws_FnExactFormatEntry.j0]; rfl) ?_
  simp only [Bool.false_eq_true, if_false]
  refine Ev.bind (toLedger_ev a e hsm) ?_
  refine Ev.bind (eqLedger_ev _ _ hf.1) ?_
  simp only [if_true]
  exact Ev.now _

end Go.Proofs.YtccdjchaaeligaaDoor.Pure

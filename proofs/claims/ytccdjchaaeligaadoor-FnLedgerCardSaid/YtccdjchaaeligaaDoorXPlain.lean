-- Out of the words that print.sh wrote for this seat: those that its proofs name (wip/tools/prune.py).
/- Plain words for the pure statements: loops over bytes and lists, told once; numbers that do not wrap. No program in sight. -/
import Derived.Test.YtccdjchaaeligaaDoorWWords
namespace Go.Proofs.YtccdjchaaeligaaDoor.Plain
open Go.RowKit Go.Proofs.YtccdjchaaeligaaDoorW.PrintWords

theorem wrap_in {x : Int} (h0 : -9223372036854775808 ≤ x) (h1 : x ≤ 9223372036854775807) : wrap64 x = x := by
  unfold wrap64
  omega
theorem list_size (s : ByteArray) : s.data.toList.length = s.size := by rw [Array.length_toList]; rfl
theorem drop_at {s : ByteArray} {i : Nat} {b : UInt8} {rest : List UInt8} (h : s.data.toList.drop i = b :: rest) : i < s.size ∧ bt s (i : Int) = (b.toNat : Int) ∧ s.data.toList.drop (i + 1) = rest := by
  have hl : i < s.data.toList.length := by
    rcases Nat.lt_or_ge i s.data.toList.length with h1 | h1
    · exact h1
    · rw [List.drop_eq_nil_of_le h1] at h; cases h
  rw [List.drop_eq_getElem_cons hl] at h
  injection h with h1 h2
  have hs : i < s.size := by rw [← list_size]; exact hl
  refine ⟨hs, ?_, h2⟩
  have := bt_at s (i : Int) (by simpa using hs)
  rw [← this, ← h1]
  rfl
theorem byte_le (b : UInt8) : (b.toNat : Int) ≤ 255 := by have := b.toNat_lt; omega
theorem wrap_byte (b : UInt8) : wrap64 (b.toNat : Int) = (b.toNat : Int) := wrap_in (by omega) (by have := byte_le b; omega)
theorem bytes_ind (s : ByteArray) (P : Nat → List UInt8 → Prop) (hnil : P s.size [])
    (hcons : ∀ (i : Nat) (b : UInt8) (rest : List UInt8), i < s.size → bt s (i : Int) = (b.toNat : Int) → s.data.toList.drop i = b :: rest → P (i + 1) rest → P i (b :: rest)) :
    ∀ (rest : List UInt8) (i : Nat), i ≤ s.size → s.data.toList.drop i = rest → P i rest := by
  intro rest
  induction rest with
  | nil =>
    intro i hi h
    have : s.data.toList.length ≤ i := List.drop_eq_nil_iff.1 h
    rw [list_size] at this
    obtain rfl : i = s.size := by omega
    exact hnil
  | cons b rest ih =>
    intro i hi h
    obtain ⟨h1, h2, h3⟩ := drop_at h
    exact hcons i b rest h1 h2 h (ih (i + 1) (by omega) h3)
theorem bytes_ind0 (s : ByteArray) (P : Nat → List UInt8 → Prop) (hnil : P s.size [])
    (hcons : ∀ (i : Nat) (b : UInt8) (rest : List UInt8), i < s.size → bt s (i : Int) = (b.toNat : Int) → s.data.toList.drop i = b :: rest → P (i + 1) rest → P i (b :: rest)) : P 0 s.data.toList :=
  bytes_ind s P hnil hcons _ 0 (Nat.zero_le _) rfl
theorem list_ind {α : Type} (l : List α) (P : Nat → List α → Prop) (hnil : P l.length [])
    (hcons : ∀ (i : Nat) (b : α) (rest : List α), i < l.length → l.drop i = b :: rest → P (i + 1) rest → P i (b :: rest)) :
    ∀ (rest : List α) (i : Nat), i ≤ l.length → l.drop i = rest → P i rest := by
  intro rest
  induction rest with
  | nil =>
    intro i hi h
    have : l.length ≤ i := List.drop_eq_nil_iff.1 h
    obtain rfl : i = l.length := by omega
    exact hnil
  | cons b rest ih =>
    intro i hi h
    have hl : i < l.length := by
      rcases Nat.lt_or_ge i l.length with h1 | h1
      · exact h1
      · rw [List.drop_eq_nil_of_le h1] at h; cases h
    refine hcons i b rest hl h (ih (i + 1) (by omega) ?_)
    rw [List.drop_eq_getElem_cons hl] at h
    injection h
theorem list_ind0 {α : Type} (l : List α) (P : Nat → List α → Prop) (hnil : P l.length [])
    (hcons : ∀ (i : Nat) (b : α) (rest : List α), i < l.length → l.drop i = b :: rest → P (i + 1) rest → P i (b :: rest)) : P 0 l :=
  list_ind l P hnil hcons _ 0 (Nat.zero_le _) rfl

theorem rd_at {l : List Int} {i : Nat} {b : Int} {rest : List Int} (h : l.drop i = b :: rest) : i < l.length ∧ rd l (i : Int) = b ∧ l.drop (i + 1) = rest := by
  have hl : i < l.length := by
    rcases Nat.lt_or_ge i l.length with h1 | h1
    · exact h1
    · rw [List.drop_eq_nil_of_le h1] at h; cases h
  rw [List.drop_eq_getElem_cons hl] at h
  injection h with h1 h2
  exact ⟨hl, by rw [rd, Int.toNat_natCast, List.getD_eq_getElem?_getD, List.getElem?_eq_getElem hl]; exact h1, h2⟩
theorem getD_at {α : Type} {l : List α} {i : Nat} {b d : α} {rest : List α} (h : l.drop i = b :: rest) : i < l.length ∧ l.getD i d = b ∧ l.drop (i + 1) = rest := by
  have hl : i < l.length := by
    rcases Nat.lt_or_ge i l.length with h1 | h1
    · exact h1
    · rw [List.drop_eq_nil_of_le h1] at h; cases h
  rw [List.drop_eq_getElem_cons hl] at h
  injection h with h1 h2
  exact ⟨hl, by rw [List.getD_eq_getElem?_getD, List.getElem?_eq_getElem hl]; exact h1, h2⟩
theorem Ev.some {α : Type} {r r' : α} (h : r = r') : Ev (fun _ => Option.some r) r' := h ▸ Ev.now r
theorem take_succ_at {α : Type} {l : List α} {i : Nat} {x : α} {rest : List α} (h : l.drop i = x :: rest) : l.take (i + 1) = l.take i ++ [x] := by
  obtain ⟨hl, hx, _⟩ := getD_at (d := x) h
  rw [List.take_succ_eq_append_getElem hl]
  rw [List.getD_eq_getElem?_getD, List.getElem?_eq_getElem hl] at hx
  simp only [Option.getD_some] at hx
  rw [hx]
end Go.Proofs.YtccdjchaaeligaaDoor.Plain

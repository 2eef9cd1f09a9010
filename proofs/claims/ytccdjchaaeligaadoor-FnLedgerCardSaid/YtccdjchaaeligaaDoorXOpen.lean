-- Out of the words that print.sh wrote for this seat: those that its proofs name (wip/tools/prune.py).
/- What a call's arguments read as, laid open as plain Lean values: for each kind of data that the printed contracts speak of, cells that read as data of a type are cells of a value of that kind, and its numbers and lengths are in range. -/
import Derived.Test.YtccdjchaaeligaaDoorWWords
import Derived.ChangeArms
import Derived.ChangeOld
import Derived.DataReads
import Derived.WideShapes
import Derived.ChangeAt
namespace Go.Proofs.YtccdjchaaeligaaDoor.XOpen
open Go.Proofs.YtccdjchaaeligaaDoorW.PrintWords Go.ChangeShapes

def OpensN {α : Type} (P : Program) (d : Kd α) (t : TypeId) (G : α → Prop) (m : Nat) : Prop :=
  ∀ {H : Type} (enc : TypeId × Value → H) (w : World) (base : Nat) (sp : Nat → Bool) (held : Bool) (fuel : Nat) (cs : List Value) (x : DataW H × List MemPlace),
    fuel ≤ m → DataW.trod enc P w base sp held fuel t cs = some x → ∃ y, d.K w y cs ∧ G y
def Opens {α : Type} (P : Program) (d : Kd α) (t : TypeId) (G : α → Prop) : Prop := ∀ m, OpensN P d t G m

section
variable {P : Program} {t e : TypeId} {m : Nat}
theorem opens_int {k : IntKind} (ht : P.underlying t = some (.int k)) : Opens P (Kd.int k) t (fun n => (Lit.int k n).wf = true) := by
  intro m H enc w base sp held fuel cs x _ h
  obtain ⟨n, rfl, _, hw⟩ := DataW.trod_int ht h
  exact ⟨n, rfl, hw⟩
theorem opens_le {α : Type} {d : Kd α} {G : α → Prop} {n : Nat} (hn : n ≤ m) (h : OpensN P d t G m) : OpensN P d t G n := by
  intro H enc w base sp held fuel cs x hm hx
  exact h enc w base sp held fuel cs x (Nat.le_trans hm hn) hx

theorem choose_list {α : Type} {n : Nat} {R : Nat → α → Prop} (h : ∀ i, i < n → ∃ y, R i y) : ∃ l : List α, l.length = n ∧ ∀ i y, l[i]? = some y → R i y := by
  induction n with
  | zero => exact ⟨[], rfl, fun i y hy => by simp at hy⟩
  | succ n ih =>
    obtain ⟨l, hl, hr⟩ := ih (fun i hi => h i (by omega))
    obtain ⟨y, hy⟩ := h n (by omega)
    refine ⟨l ++ [y], by simp [hl], fun i z hz => ?_⟩
    by_cases hi : i < l.length
    · rw [List.getElem?_append_left hi] at hz
      exact hr i z hz
    · rw [List.getElem?_append_right (by omega)] at hz
      have : i - l.length = 0 := by
        have := (List.getElem?_eq_some_iff.1 hz).1
        simp at this
        omega
      rw [this] at hz
      simp at hz
      subst hz
      rw [show i = n by omega]
      exact hy
theorem opens_slice {α : Type} {d : Kd α} {G : α → Prop} (ht : P.underlying t = some (.slice e)) (hc : P.cellsOf e = d.sz) (h : OpensN P d e G m) :
    OpensN P (Kd.slice e d) t (fun l => l.length ≤ 9223372036854775807 ∧ ∀ y ∈ l, G y) (m + 1) := by
  intro H enc w base sp held fuel cs x hm hx
  rcases DataW.trod_slice ht hx with ⟨rfl, _⟩ | ⟨a, len, cap, elems, rest, n, rfl, rfl, _, hb, hl, hcap, hlen, hel, _, _⟩
  · exact ⟨[], ⟨none, 0, rfl, Nat.le_refl _, rfl, by simp, fun h => absurd h (Nat.lt_irrefl 0)⟩, by simp, by simp⟩
  · have hmax : cap ≤ 9223372036854775807 := by unfold maxLen at hcap; omega
    have each : ∀ i, i < len → ∃ y, (∃ c : List Value, c.length = d.sz ∧ d.K w y c ∧ ∀ j u, c[j]? = some u → w.cell? (a.add (i * d.sz + j)) = some u) ∧ G y := by
      intro i hi
      have hi' : i < elems.length := by omega
      have h1 := hel i hi
      rw [List.getElem?_eq_getElem hi', Option.bind_eq_some_iff] at h1
      obtain ⟨c, hcs, hy⟩ := h1
      obtain ⟨y, hk, hg⟩ := h enc w base sp held n c _ (by omega) hy
      obtain ⟨_, hcl, hcell⟩ := World.cells?_some hcs
      refine ⟨y, ⟨c, d.K_len hk, hk, fun j u hu => ?_⟩, hg⟩
      have hj := (List.getElem?_eq_some_iff.1 hu).1
      have h2 := hcell j (by omega)
      rw [hu, hc, add_add] at h2
      exact h2
    obtain ⟨l, hll, hr⟩ := choose_list each
    refine ⟨l, ⟨some a, cap, by rw [hll], by omega, rfl, by omega, fun _ => ⟨a, rfl, fun j p hj => (hr j p hj).1⟩⟩, by omega, fun y hy => ?_⟩
    obtain ⟨i, hi⟩ := List.getElem?_of_mem hy
    exact (hr i y hi).2
theorem opens_slice' {α : Type} {d : Kd α} {G : α → Prop} (ht : P.underlying t = some (.slice e)) (hc : P.cellsOf e = d.sz) (h : OpensN P d e G m) :
    OpensN P (Kd.slice e d) t (fun l => l.length ≤ 9223372036854775807 ∧ ∀ y ∈ l, G y) m := opens_le (Nat.le_succ m) (opens_slice ht hc h)

theorem open_arg {α : Type} {d : Kd α} {G : α → Prop} (h : Opens P d t G) {H : Type} {enc : TypeId × Value → H} {w : World} {base : Nat} {sp : Nat → Bool} {held : Bool} {v : Value} {x : DataW H} {p : List MemPlace}
    (hx : DataW.Trod enc P w base sp held t v x p) : ∃ y, d.K w y v.cells.toList ∧ G y := by
  obtain ⟨fuel, hf⟩ := hx
  exact h fuel enc w base sp held fuel _ _ (Nat.le_refl _) hf
end
end Go.Proofs.YtccdjchaaeligaaDoor.XOpen

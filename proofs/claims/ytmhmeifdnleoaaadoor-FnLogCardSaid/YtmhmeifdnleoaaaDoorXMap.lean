/- A map of whole numbers that a call makes, told by the stores into it, the newest first: made, kept, stored into, looked up. -/
import Derived.Maps.Views
import Derived.WalkKit
namespace Go.Proofs.YtmhmeifdnleoaaaDoor
open Go Go.RowKit Go.Maps
/-- Block b is a map from whole numbers that reads as the stores L say, the newest first. -/
def MapW {α : Type} (P : Program) (k e : TypeId) (enc : α → Lit) (w : World) (b : Nat) (L : List (Int × α)) : Prop :=
  ∃ D : DataW Unit, w.ownsMap P k (plainElem P e) b L.length D ∧ Maps.IsMap D ∧ (∀ (x : Int) (z : DataW Unit), (Lit.int .i64 x).wf = true → D.atKey (.int .i64 x) z = match L.lookup x with | some v => .lit (enc v) | none => z)
section
variable {α : Type} {P : Program} {k e t : TypeId} {enc : α → Lit} {w w' : World} {b : Nat} {L : List (Int × α)}
theorem MapW.made (w : World) : MapW P k e enc (w.alloc (.map #[] 0)) w.heap.size ([] : List (Int × α)) :=
  ⟨.map [], World.ownsMap_made _ _ _ _, Maps.isMap_empty, fun x z _ => by simp [DataW.atKey]⟩
theorem MapW.lt (h : MapW P k e enc w b L) : b < w.heap.size := by obtain ⟨D, h, _⟩ := h; exact h.lt
theorem MapW.kept (h : MapW P k e enc w b L) {row : Option Nat} (hg : w.grownBy w' row) (hne : some b ≠ row) : MapW P k e enc w' b L := by
  obtain ⟨D, h, r⟩ := h; exact ⟨D, h.kept hg hne, r⟩
theorem MapW.of_block (h : MapW P k e enc w b L) (hb : w'.heap[b]? = w.heap[b]?) : MapW P k e enc w' b L := by
  obtain ⟨D, ⟨es, clock, h1, h2⟩, r⟩ := h; exact ⟨D, ⟨es, clock, hb.trans h1, h2⟩, r⟩
theorem MapW.below (h : MapW P k e enc w b L) (hb : Below w.heap.size w w') : MapW P k e enc w' b L := h.of_block (hb.block b h.lt)
theorem MapW.alloc (h : MapW P k e enc w b L) (o : Obj) : MapW P k e enc (w.alloc o) b L := h.of_block (Below.heap_alloc w o b h.lt)
theorem MapW.drew (h : MapW P k e enc w b L) : MapW P k e enc w.drew b L := h.of_block rfl
theorem isKeyLit_i64 (x : Int) : WideAt.IsKeyLit (.int .i64 x) := by first | exact trivial | simp [WideAt.IsKeyLit] | exact ⟨_, _, rfl⟩
theorem MapW.store (h : MapW P k e enc w b L) (hk : P.underlying k = some (.int .i64)) (ht : P.underlying t = some (.map k e)) (hn : L.length < maxLen) {x : Int} (hx : (Lit.int .i64 x).wf = true) {v : α} {val : Value} (hv : plainElem (H := Unit) P e val = some (.lit (enc v), [])) :
    ∃ w', (Instr.mapUpdate t (.map (some b)) (.int .i64 x) val).run P w = .ok () w' ∧ MapW P k e enc w' b ((x, v) :: L) ∧ w.grownBy w' (some b) := by
  obtain ⟨D, h1, h2, h3⟩ := h
  obtain ⟨w', r1, r2, r3⟩ := h1.update (int_keyed hk) ht hn (keyOf_int_mk hk hx) hv
  refine ⟨w', r1, ⟨_, r2, h2.put _ _, fun y z hy => ?_⟩, r3⟩
  rw [List.lookup_cons]
  by_cases hyx : y = x
  · subst hyx
    simp [atKey_put_same h2 (isKeyLit_i64 y)]
  · rw [atKey_put_other (by intro e; injection e; contradiction), h3 y z hy]
    have e : (y == x) = false := by simpa using hyx
    rw [e]
theorem MapW.look (h : MapW P k e enc w b L) (hk : P.underlying k = some (.int .i64)) (ht : P.underlying t = some (.map k e)) {z : Value} (hz : (zeroValue e).run P w = .ok z w) {x : Int} (hx : (Lit.int .i64 x).wf = true) (c : Bool) :
    ((Instr.lookup t (.map (some b)) (.int .i64 x) c).run P w = .ok (if c then .tuple #[z, .bool false] else z) w ∧ L.lookup x = none) ∨
    ∃ val v, (Instr.lookup t (.map (some b)) (.int .i64 x) c).run P w = .ok (if c then .tuple #[val, .bool true] else val) w ∧ L.lookup x = some v ∧ plainElem (H := Unit) P e val = some (.lit (enc v), []) := by
  obtain ⟨D, ⟨es, clock, hb, F, _, rfl⟩, h2, h3⟩ := h
  rcases fit_look c (int_keyed hk) ht hz hb F (keyOf_int_mk hk hx) with ⟨hrun, _, hat⟩ | ⟨e0, y, _, _, hrun, hRv, hat, _⟩
  · refine Or.inl ⟨hrun, ?_⟩
    cases hl : L.lookup x with
    | none => rfl
    | some v =>
      exfalso
      have g : ∀ z : DataW Unit, z = .lit (enc v) := fun z => by rw [← hat z, h3 x z hx, hl]
      have := (g .nil)
      cases this
  · have h1 := h3 x .nil hx
    rw [hat .nil] at h1
    cases hl : L.lookup x with
    | none =>
      exfalso
      have g := h3 x (.lit (.bool true)) hx
      rw [hat, hl] at g
      rw [hl] at h1
      rw [h1] at g
      cases g
    | some v =>
      rw [hl] at h1
      have hp := plainElem_places hRv
      obtain ⟨y1, y2⟩ := y
      simp only at h1 hp
      subst h1 hp
      exact Or.inr ⟨e0.val, v, hrun, rfl, hRv⟩
end
section
variable {P : Program} {k e t : TypeId} {w : World} {b : Nat}
theorem plainElem_bool_inv (he : P.underlying e = some .bool) {v : Value} {x : Bool} (h : plainElem (H := Unit) P e v = some (.lit (.bool x), [])) : v = .bool x := by
  unfold plainElem at h
  rw [he] at h
  cases v <;> simp at h
  subst h; rfl
theorem plainElem_i64_inv (he : P.underlying e = some (.int .i64)) {v : Value} {x : Int} (h : plainElem (H := Unit) P e v = some (.lit (.int .i64 x), [])) : v = .int .i64 x := by
  obtain ⟨a, rfl, hz, _⟩ := plainElem_int_inv he h
  simp only [Prod.mk.injEq, DataW.lit.injEq, Lit.int.injEq] at hz
  rw [hz.1.2]
def mB (L : List (Int × Bool)) (x : Int) : Bool := (L.lookup x).getD false
def mI (L : List (Int × Int)) (x : Int) : Int := (L.lookup x).getD 0
def mHas (L : List (Int × Int)) (x : Int) : Bool := (L.lookup x).isSome
theorem MapW.lookB {L : List (Int × Bool)} (h : MapW P k e Lit.bool w b L) (hk : P.underlying k = some (.int .i64)) (ht : P.underlying t = some (.map k e)) (he : P.underlying e = some .bool) (hz : (zeroValue e).run P w = .ok (.bool false) w) {x : Int} (hx : (Lit.int .i64 x).wf = true) :
    (Instr.lookup t (.map (some b)) (.int .i64 x) false).run P w = .ok (.bool (mB L x)) w := by
  rcases h.look hk ht hz hx false with ⟨hr, hl⟩ | ⟨val, v, hr, hl, hv⟩
  · rw [hr]; simp [mB, hl]
  · rw [hr, plainElem_bool_inv he hv]; simp [mB, hl]
theorem MapW.lookI {L : List (Int × Int)} (h : MapW P k e (Lit.int .i64) w b L) (hk : P.underlying k = some (.int .i64)) (ht : P.underlying t = some (.map k e)) (he : P.underlying e = some (.int .i64)) (hz : (zeroValue e).run P w = .ok (.int .i64 0) w) {x : Int} (hx : (Lit.int .i64 x).wf = true) :
    (Instr.lookup t (.map (some b)) (.int .i64 x) false).run P w = .ok (.int .i64 (mI L x)) w := by
  rcases h.look hk ht hz hx false with ⟨hr, hl⟩ | ⟨val, v, hr, hl, hv⟩
  · rw [hr]; simp [mI, hl]
  · rw [hr, plainElem_i64_inv he hv]; simp [mI, hl]
theorem MapW.lookI2 {L : List (Int × Int)} (h : MapW P k e (Lit.int .i64) w b L) (hk : P.underlying k = some (.int .i64)) (ht : P.underlying t = some (.map k e)) (he : P.underlying e = some (.int .i64)) (hz : (zeroValue e).run P w = .ok (.int .i64 0) w) {x : Int} (hx : (Lit.int .i64 x).wf = true) :
    (Instr.lookup t (.map (some b)) (.int .i64 x) true).run P w = .ok (.tuple #[.int .i64 (mI L x), .bool (mHas L x)]) w := by
  rcases h.look hk ht hz hx true with ⟨hr, hl⟩ | ⟨val, v, hr, hl, hv⟩
  · rw [hr]; simp [mI, mHas, hl]
  · rw [hr, plainElem_i64_inv he hv]; simp [mI, mHas, hl]
end
end Go.Proofs.YtmhmeifdnleoaaaDoor

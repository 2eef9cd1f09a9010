/- The events of a map of whole numbers that a call makes, for a printed walk: made, stored into, looked up; what of rows stays. -/
import Derived.Test.YtmhmeifdnleoaaaDoorXMap
import Derived.Test.YtmhmeifdnleoaaaDoorWWords
namespace Go.Proofs.YtmhmeifdnleoaaaDoor
open Go Go.RowKit Go.Maps Go.Proofs.YtmhmeifdnleoaaaDoorW.PrintWords
section
variable {α : Type} {P : Program} {k e t : TypeId} {enc : α → Lit} {w w' : World} {b : Nat} {L : List (Int × α)}
theorem MapW.drewN (h : MapW P k e enc w b L) (n : Nat) : MapW P k e enc (w.drewN n) b L := h.of_block (by rfl)
theorem MapW.setCell (h : MapW P k e enc w b L) {p : Addr} (hne : b ≠ p.block) (u : Value) : MapW P k e enc (w.setCell p u) b L := h.of_block (Below.heap_setCell w p u b hne)
theorem MapW.ne_cells (h : MapW P k e enc w b L) {g : Nat} {cs : Array Value} {t : TypeId} {q : Nat × Nat} (hg : w.heap[g]? = some (.cells cs t q)) : b ≠ g := by
  rintro rfl
  obtain ⟨D, ⟨es, clock, h1, _⟩, _⟩ := h
  rw [h1] at hg
  cases hg
theorem MapW.ne_own (h : MapW P k e enc w b L) {β : Type} {d : Kd β} {e' base : Nat} {ok : Nat → Prop} {v : Value} {xs : List β} (hr : d.R e' w base ok v xs) : some b ≠ v.ownBlock := by
  intro hb
  obtain ⟨_, _, _, _, _, cells, hc⟩ := (Kd.R_bound hr).1 b hb.symm
  exact h.ne_cells hc rfl
theorem MapW.row (h : MapW P k e enc w b L) {β : Type} {d : Kd β} {e' base : Nat} {ok : Nat → Prop} {v : Value} {xs : List β} (hr : d.R e' w base ok v xs) (hg : w.grownBy w' (some b)) : d.R e' w' base ok v xs := by
  refine Kd.R_mono (ok := fun k => ok k ∧ base ≤ k ∧ k < w.heap.size ∧ ∃ q, q ∈ e' :: d.E ∧ ∃ cells, w.heap[k]? = some (.cells cells q (0, 0))) (Kd.R_grown (Kd.R_bound hr) hg (fun j hj hx => ?_)) (fun _ hk => hk.1)
  obtain ⟨_, _, _, _, _, cells, hc⟩ := hj
  cases hx
  exact h.ne_cells hc rfl
end
section
variable {P : Program} {ops : Array Oper} {rest : List Oper} {o : Oper} {a : Act} {Q : Exit → Act → World → Prop} {W : World} {α : Type} {k e t : TypeId} {enc : α → Lit}
theorem gate_update {t : TypeId} {m x v : Operand} (_ho : o.op = .mapUpdate t m x v) (h : wpList P ops Q (o :: rest) a W) : wpList P ops Q (o :: rest) a W := h
theorem gate_insert {t : TypeId} {m x v : Operand} (_ho : o.op = .insert t m x v) (h : wpList P ops Q (o :: rest) a W) : wpList P ops Q (o :: rest) a W := h
theorem gate_makeMap {t : TypeId} (_ho : o.op = .makeMap t none) (h : wpList P ops Q (o :: rest) a W) : wpList P ops Q (o :: rest) a W := h
theorem make_event (k e : TypeId) (enc : α → Lit) (hgd : o.guard = none) (hop : o.op = .makeMap t none)
    (h : ∀ g, g = W.heap.size → ∀ w1, MapW P k e enc w1 g [] → Below W.heap.size W w1 → wpList P ops Q rest (a.put o.dst (.map (some g))) w1) : wpList P ops Q (o :: rest) a W :=
  Kd.event_run hgd (by simp [execOp, hop, run_makeMap, Result.andThen]) (h _ rfl _ (MapW.made W) (Below.alloc (Below.refl _ _) (Nat.le_refl _) _))
theorem update_event (hgd : o.guard = none) (m x v : Operand) (t : TypeId) (hop : o.op = .mapUpdate t m x v ∨ o.op = .insert t m x v) {b : Nat} {key : Int} {val : Value} {vv : α} {L : List (Int × α)} (hm : a.eval m = .map (some b)) (hx : a.eval x = .int .i64 key) (hv : a.eval v = val)
    (hk : P.underlying k = some (.int .i64)) (ht : P.underlying t = some (.map k e)) (hw : MapW P k e enc W b L) (hn : L.length < maxLen) (hkey : (Lit.int .i64 key).wf = true) (hval : plainElem (H := Unit) P e val = some (.lit (enc vv), []))
    (h : ∀ w1, MapW P k e enc w1 b ((key, vv) :: L) → W.grownBy w1 (some b) → wpList P ops Q rest (a.put o.dst undef) w1) : wpList P ops Q (o :: rest) a W := by
  refine wpList_plain hgd fun K' hK' => ?_
  obtain ⟨w', hrun, r1, r2⟩ := hw.store hk ht hn hkey hval
  unfold Oper.wp
  rcases hop with hop | hop
  · simp [execOp, hop, hm, hx, hv, hrun, Result.andThen]
    exact hK' _ _ (h w' r1 r2)
  · simp [execOp, hop, hm, hx, hv, hrun, Result.andThen]
    exact hK' _ _ (h w' r1 r2)
/-- What a look-up finds, told as a plain function: at a number of 64 bits. -/
def mapHas.f (L : List (Int × Bool)) (x : Int) : Option Bool := if -9223372036854775808 ≤ x ∧ x ≤ 9223372036854775807 then some (mB L x) else none
/-- A store into a map, told as a plain function: at a number of 64 bits, into a map that isn't too large. -/
def mapPut.f (L : List (Int × Bool)) (x : Int) (v : Bool) : Option (List (Int × Bool)) := if (-9223372036854775808 ≤ x ∧ x ≤ 9223372036854775807) ∧ L.length < 1000000 then some ((x, v) :: L) else none
theorem mapPut.open_ {L L' : List (Int × Bool)} {x : Int} {v : Bool} (h : mapPut.f L x v = some L') : (Lit.int .i64 x).wf = true ∧ L.length < maxLen ∧ L' = (x, v) :: L := by
  unfold mapPut.f at h
  split at h
  · rename_i hc
    refine ⟨by unfold Lit.wf; rw [Bool.and_eq_true, decide_eq_true_eq, decide_eq_true_eq]; exact ⟨hc.1.1, hc.1.2⟩, by have := hc.2; unfold maxLen; omega, (Option.some.inj h).symm⟩
  · cases h
theorem gate_lookup {t : TypeId} {m x : Operand} (_ho : o.op = .lookup t m x false) (h : wpList P ops Q (o :: rest) a W) : wpList P ops Q (o :: rest) a W := h
theorem MapW.lookAll {L : List (Int × Bool)} {key : Int} {r : Bool} {t : TypeId} {w : World} {b : Nat} (hr : mapHas.f L key = some r) (hw : MapW P k e Lit.bool w b L) (hk : P.underlying k = some (.int .i64)) (ht : P.underlying t = some (.map k e)) (he : P.underlying e = some .bool) (hz : ∀ W, (zeroValue e).run P W = .ok (.bool false) W) :
    (Instr.lookup t (.map (some b)) (.int .i64 key) false).run P w = .ok (.bool r) w ∧ (∀ n, (Instr.lookup t (.map (some b)) (.int .i64 key) false).run P (w.drewN n) = .ok (.bool r) (w.drewN n)) ∧ (Instr.lookup t (.map (some b)) (.int .i64 key) false).run P w.drew = .ok (.bool r) w.drew := by
  unfold mapHas.f at hr
  split at hr
  · rename_i hc
    obtain rfl := Option.some.inj hr
    have hx : (Lit.int .i64 key).wf = true := by unfold Lit.wf; rw [Bool.and_eq_true, decide_eq_true_eq, decide_eq_true_eq]; exact ⟨hc.1, hc.2⟩
    exact ⟨hw.lookB hk ht he (hz _) hx, fun n => (hw.drewN n).lookB hk ht he (hz _) hx, hw.drew.lookB hk ht he (hz _) hx⟩
  · cases hr
theorem look_eventB {L : List (Int × Bool)} {key : Int} {r : Bool} (hr : mapHas.f L key = some r) (hgd : o.guard = none) (m x : Operand) (t : TypeId) (hop : o.op = .lookup t m x false) {b : Nat} (hm : a.eval m = .map (some b)) (hx : a.eval x = .int .i64 key)
    (hk : P.underlying k = some (.int .i64)) (ht : P.underlying t = some (.map k e)) (he : P.underlying e = some .bool) (hz : (zeroValue e).run P W = .ok (.bool false) W) (hw : MapW P k e Lit.bool W b L)
    (h : wpList P ops Q rest (a.put o.dst (.bool r)) W) : wpList P ops Q (o :: rest) a W := by
  unfold mapHas.f at hr
  split at hr
  · rename_i hc
    obtain rfl := Option.some.inj hr
    have hrun := hw.lookB hk ht he hz (x := key) (by unfold Lit.wf; rw [Bool.and_eq_true, decide_eq_true_eq, decide_eq_true_eq]; exact ⟨hc.1, hc.2⟩)
    exact Kd.event_run hgd (by simp [execOp, hop, hm, hx, hrun, Result.andThen]) h
  · cases hr
end
end Go.Proofs.YtmhmeifdnleoaaaDoor

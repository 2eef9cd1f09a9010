/- A map from whole numbers to whole numbers: a look-up and a store as plain functions, and as events of a printed walk. -/
import Derived.Test.YtnfmlglhoboooaaDoorXMapEv
namespace Go.Proofs.YtnfmlglhoboooaaDoor
open Go Go.RowKit Go.Maps Go.Proofs.YtnfmlglhoboooaaDoorW.PrintWords
/-- What a look-up with ', ok' finds, told as a plain function: at a number of 64 bits. -/
def mapGet.f (L : List (Int × Int)) (x : Int) : Option (Int × Bool) := if -9223372036854775808 ≤ x ∧ x ≤ 9223372036854775807 then some (mI L x, mHas L x) else none
/-- What a look-up finds. -/
def mapVal.f (L : List (Int × Int)) (x : Int) : Option Int := if -9223372036854775808 ≤ x ∧ x ≤ 9223372036854775807 then some (mI L x) else none
/-- A store of a number of 64 bits, into a map that isn't too large. -/
def mapSet.f (L : List (Int × Int)) (x v : Int) : Option (List (Int × Int)) := if ((-9223372036854775808 ≤ x ∧ x ≤ 9223372036854775807) ∧ (-9223372036854775808 ≤ v ∧ v ≤ 9223372036854775807)) ∧ L.length < 1000000 then some ((x, v) :: L) else none
theorem wf_in {x : Int} (h : -9223372036854775808 ≤ x ∧ x ≤ 9223372036854775807) : (Lit.int .i64 x).wf = true := by unfold Lit.wf; rw [Bool.and_eq_true, decide_eq_true_eq, decide_eq_true_eq]; exact ⟨h.1, h.2⟩
theorem mapSet.open_ {L L' : List (Int × Int)} {x v : Int} (h : mapSet.f L x v = some L') : (Lit.int .i64 x).wf = true ∧ (Lit.int .i64 v).wf = true ∧ L.length < maxLen ∧ L' = (x, v) :: L := by
  unfold mapSet.f at h
  split at h
  · rename_i hc
    exact ⟨wf_in hc.1.1, wf_in hc.1.2, by have := hc.2; unfold maxLen; omega, (Option.some.inj h).symm⟩
  · cases h
section
variable {P : Program} {ops : Array Oper} {rest : List Oper} {o : Oper} {a : Act} {Q : Exit → Act → World → Prop} {W : World} {k e t : TypeId}
theorem gate_lookup2 {t : TypeId} {m x : Operand} (_ho : o.op = .lookup t m x true) (h : wpList P ops Q (o :: rest) a W) : wpList P ops Q (o :: rest) a W := h
theorem look_eventG {L : List (Int × Int)} {key r : Int} {q : Bool} (hr : mapGet.f L key = some (r, q)) (hgd : o.guard = none) (m x : Operand) (t : TypeId) (hop : o.op = .lookup t m x true) {b : Nat} (hm : a.eval m = .map (some b)) (hx : a.eval x = .int .i64 key)
    (hk : P.underlying k = some (.int .i64)) (ht : P.underlying t = some (.map k e)) (he : P.underlying e = some (.int .i64)) (hz : (zeroValue e).run P W = .ok (.int .i64 0) W) (hw : MapW P k e (Lit.int .i64) W b L)
    (h : wpList P ops Q rest (a.put o.dst (.tuple #[.int .i64 r, .bool q])) W) : wpList P ops Q (o :: rest) a W := by
  unfold mapGet.f at hr
  split at hr
  · rename_i hc
    have hr := Option.some.inj hr
    injection hr with h1 h2
    subst h1 h2
    have hrun := hw.lookI2 hk ht he hz (x := key) (wf_in hc)
    exact Kd.event_run hgd (by simp [execOp, hop, hm, hx, hrun, Result.andThen]) h
  · cases hr
theorem look_eventV {L : List (Int × Int)} {key r : Int} (hr : mapVal.f L key = some r) (hgd : o.guard = none) (m x : Operand) (t : TypeId) (hop : o.op = .lookup t m x false) {b : Nat} (hm : a.eval m = .map (some b)) (hx : a.eval x = .int .i64 key)
    (hk : P.underlying k = some (.int .i64)) (ht : P.underlying t = some (.map k e)) (he : P.underlying e = some (.int .i64)) (hz : (zeroValue e).run P W = .ok (.int .i64 0) W) (hw : MapW P k e (Lit.int .i64) W b L)
    (h : wpList P ops Q rest (a.put o.dst (.int .i64 r)) W) : wpList P ops Q (o :: rest) a W := by
  unfold mapVal.f at hr
  split at hr
  · rename_i hc
    obtain rfl := Option.some.inj hr
    have hrun := hw.lookI hk ht he hz (x := key) (wf_in hc)
    exact Kd.event_run hgd (by simp [execOp, hop, hm, hx, hrun, Result.andThen]) h
  · cases hr
end
end Go.Proofs.YtnfmlglhoboooaaDoor

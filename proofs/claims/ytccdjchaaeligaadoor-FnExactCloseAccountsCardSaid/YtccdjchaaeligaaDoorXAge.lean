-- Out of the words that print.sh wrote for this seat: those that its proofs name (wip/tools/prune.py).
/- Rows of rows told apart by their ages. -/
import Derived.Test.YtccdjchaaeligaaDoorWWords
import Derived.Test.YtccdjchaaeligaaDoorWApart
import Derived.Test.YtccdjchaaeligaaDoorWKept
namespace Go.Proofs.YtccdjchaaeligaaDoorW.PrintWords
open Go.RowKit
namespace Kd
variable {α : Type} {d : Kd α} {e : Nat} {w w' : World} {base b : Nat} {ok : Nat → Prop} {v : Value} {xs : List α} {a : Nat}
theorem age (_hb : Below b w w') : ∃ n, n = w.heap.size := ⟨_, rfl⟩
theorem agek {S : Nat → Prop} (_h : Kept w w' S) : ∃ n, n = w.heap.size := ⟨_, rfl⟩
theorem S_ageo (h : Kd.S d e w base ok v xs) (ha : a = w.heap.size) : Kd.S d e w base (fun k => ok k ∧ k < a) v xs := by
  subst ha
  exact S_mono (S_bound h) (fun k hk => ⟨hk.1, hk.2.2.1⟩)
theorem S_agen (h : Kd.S d e w base ok v xs) (ha : a = base) : Kd.S d e w base (fun k => ok k ∧ a ≤ k) v xs := by
  subst ha
  exact S_mono (S_bound h) (fun k hk => ⟨hk.1, hk.2.1⟩)
end Kd
end Go.Proofs.YtccdjchaaeligaaDoorW.PrintWords

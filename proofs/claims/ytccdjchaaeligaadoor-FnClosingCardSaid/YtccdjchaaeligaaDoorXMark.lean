-- Out of the words that print.sh wrote for this seat: those that its proofs name (wip/tools/prune.py).
/- A row of rows that is handed over whole, and an element's row that is lent to a call: what stays of the rest. -/
import Derived.Test.YtccdjchaaeligaaDoorWWords
import Derived.Test.YtccdjchaaeligaaDoorWApart
import Derived.Test.YtccdjchaaeligaaDoorWKept
import Derived.Lib.BufferMore
namespace Go.Proofs.YtccdjchaaeligaaDoorW.PrintWords
namespace Kd
theorem typed_ne {h : Option Obj} {l l' : List Nat} (h1 : ∃ q, q ∈ l ∧ ∃ cells, h = some (.cells cells q (0, 0))) (h2 : ∃ q, q ∈ l' ∧ ∃ cells, h = some (.cells cells q (0, 0))) (ht : ∀ q, q ∈ l → q ∉ l') : False := by
  obtain ⟨q, hq, c, rfl⟩ := h1
  obtain ⟨q', hq', c', e⟩ := h2
  injection e with e
  injection e with _ e
  exact ht q hq (e ▸ hq')
theorem typed_box {h : Option Obj} {l : List Nat} {t : Nat} {cs : Array Value} (h1 : ∃ q, q ∈ l ∧ ∃ cells, h = some (.cells cells q (0, 0))) (hb : h = some (.cells cs t (0, 0))) (ht : t ∉ l) : False := by
  obtain ⟨q, hq, c, e⟩ := h1
  rw [hb] at e
  injection e with e
  injection e with _ e
  exact ht (e ▸ hq)
theorem typed_own {h : Option Obj} {l : List Nat} {t : Nat} (h1 : ∃ q, q ∈ l ∧ ∃ cells, h = some (.cells cells q (0, 0))) (hb : ∃ cells, h = some (.cells cells t (0, 0))) (ht : t ∉ l) : False := by
  obtain ⟨_, hb⟩ := hb
  exact typed_box h1 hb ht
end Kd
end Go.Proofs.YtccdjchaaeligaaDoorW.PrintWords

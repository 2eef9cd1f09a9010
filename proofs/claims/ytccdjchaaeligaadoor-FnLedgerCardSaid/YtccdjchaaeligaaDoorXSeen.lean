-- Out of the words that print.sh wrote for this seat: those that its proofs name (wip/tools/prune.py).
/- A row that was read out of another one, past stores into blocks that came later. -/
import Derived.Test.YtccdjchaaeligaaDoorWWords
import Derived.Test.YtccdjchaaeligaaDoorWFootNe
import Derived.Test.YtccdjchaaeligaaDoorWAt
import Derived.Test.YtccdjchaaeligaaDoorWApart
import Derived.Test.YtccdjchaaeligaaDoorWMore
import Derived.Test.YtccdjchaaeligaaDoorWN
namespace Go.Proofs.YtccdjchaaeligaaDoorW.PrintWords
open Go.RowKit
namespace Kd
variable {α : Type} {d : Kd α} {w W : World} {A : Option Addr} {n g : Nat} {xs : List α}
theorem zC (_h0 : Aside0 (d.C w A n xs)) (h : d.C W A n xs := by (with_reducible repeat (first | refine Kd.C_alloc ?_ _ | refine Kd.C_drewN ?_ _ | refine Kd.C_drew ?_)); exact Aside0.out (by assumption)) : d.C W A n xs := h
theorem C_fresh (hg : g = W.heap.size) (_h0 : Aside0 (d.C w A n xs)) (hd : 0 < d.sz := by decide) (h : d.C W A n xs := by (with_reducible repeat (first | refine Kd.C_alloc ?_ _ | refine Kd.C_drewN ?_ _ | refine Kd.C_drew ?_)); exact Aside0.out (by assumption)) : ∀ ad, A = some ad → 0 < n → ad.block ≠ g := by
  intro ad ha hn
  subst ha
  rw [hg]
  exact Nat.ne_of_lt (C_lt h hn hd)
theorem C_past (h : d.C W A n xs) (hf : Aside0 (∀ ad, A = some ad → 0 < n → ad.block ≠ g)) (i : Nat) (v : Value) (hd : ∀ {W W' : World} {x : α} {cs : List Value}, d.K W x cs → d.K W' x cs := by intro _ _ _ _ h_; exact h_) : d.C (W.setCell ⟨g, i, none⟩ v) A n xs := C_foot_ne hd h hf.out _ ((KeepBut.refl _ _ _).set_ i v)
section
variable {e base : Nat} {w1 : World} {ok : Nat → Prop} {v u : Value} {p : Addr}
theorem rf (h : Kd.R d e w base ok v xs) (hf : ∀ k, ok k → k ≠ p.block := by exact fun _ hk => hk.2) : Kd.R d e (w.setCell p u) base ok v xs := Kd.R_far h hf u
theorem sf (h : Kd.S d e w base ok v xs) (hf : ∀ k, ok k → k ≠ p.block := by exact fun _ hk => hk.2) : Kd.S d e (w.setCell p u) base ok v xs := Kd.S_far h hf u
theorem rb (_h0 : Aside0 (Kd.R d e w base ok v xs)) (hb : Below W.heap.size W w1) (h : Kd.R d e W base ok v xs := by (with_reducible repeat (first | apply Kd.R_alloc | apply Kd.R_drewN | apply Kd.R_drew)); exact Aside0.out (by assumption)) : Aside0 (Kd.R d e w1 base ok v xs) := ⟨Kd.R_below h hb⟩
theorem sb (_h0 : Aside0 (Kd.S d e w base ok v xs)) (hb : Below W.heap.size W w1) (h : Kd.S d e W base ok v xs := by (with_reducible repeat (first | apply Kd.S_alloc | apply Kd.S_drewN | apply Kd.S_drew)); exact Aside0.out (by assumption)) : Aside0 (Kd.S d e w1 base ok v xs) := ⟨Kd.S_below h hb⟩
end
end Kd
theorem ak {p : Prop} (h : p) : Aside0 p := ⟨h⟩
theorem bc {b : Nat} {w W : World} {a : Addr} {v : Value} (hb : Aside0 (Below b w W)) (h : w.cell? a = some v) (hl : w.heap.size = b := by rfl) : W.cell? a = some v := by subst hl; exact (hb.out.cell (World.block_lt_of_cell? w _ h)).trans h
end Go.Proofs.YtccdjchaaeligaaDoorW.PrintWords

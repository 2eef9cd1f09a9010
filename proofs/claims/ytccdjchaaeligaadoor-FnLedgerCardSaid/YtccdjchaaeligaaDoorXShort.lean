-- Out of the words that print.sh wrote for this seat: those that its proofs name (wip/tools/prune.py).
/- Steps of the printed walks in few words: what each step asks is found by the step's own default. -/
import Derived.Test.YtccdjchaaeligaaDoorWTab
import Derived.Test.YtccdjchaaeligaaDoorWLast
import Derived.Test.YtccdjchaaeligaaDoorWApart
import Derived.Test.YtccdjchaaeligaaDoorWMore
set_option linter.unusedVariables false
namespace Go.Proofs.YtccdjchaaeligaaDoor.Short
open Go Go.RowKit Go.Proofs.YtccdjchaaeligaaDoorW.PrintWords Go.Proofs.YtccdjchaaeligaaDoorW.PrintLast
variable {P : Program} {ops : Array Oper} {Q : Exit → Act → World → Prop} {md : Region.Mode} {S : World → Prop} {ds : List Nat} {T : Bool × List (List Nat × List Nat)} {oi : Oper} {v : Value} {fuel : Nat} {l l' : Array Bool} {a a' : Act} {w : World} {B : List Nat}
theorem pu (i n : Nat) (h : wpAnyLast P md ops Q S ds fuel l' a' w) (HT : Aside0 (rtab md ops = T) := by assumption) (hi : ops[i]? = some oi := by exact rfl) (hN : oi.dst = some n := by exact rfl)
    (hl : l.setIfInBounds i true = l' := by simp only [List.setIfInBounds_toArray, List.set_cons_zero, List.set_cons_succ]; exact rfl) (hc : anyT T l.toList l'.toList i = true := by kernel_rfl)
    (hQ : ∀ c a w, Q (.panic c) (a.put oi.dst v) w → Q (.panic c) a w := by exact fun _ _ _ h => h) (hy : Yields P ops oi v a := by exact Or.inl ⟨by rfl, by intro w'; go_simp; with_reducible rfl⟩)
    (ha : a.put (some n) v = a' := by simp only [Act.put, List.setIfInBounds_toArray, List.set_cons_zero, List.set_cons_succ, i64_w, i32_w]; rfl) : wpAnyLast P md ops Q S ds (fuel + 1) l a w :=
  pure_ l' hi hN (any_of HT.out hc) hQ hy ha h
theorem pn (i n : Nat) (h : wpAnyLast P md ops Q S ds fuel l' a' w) (HT : Aside0 (rtab md ops = T) := by assumption) (hi : ops[i]? = some oi := by exact rfl) (hN : oi.dst = some n := by exact rfl)
    (hl : l.setIfInBounds i true = l' := by simp only [List.setIfInBounds_toArray, List.set_cons_zero, List.set_cons_succ]; exact rfl) (hc : anyT T l.toList l'.toList i = true := by kernel_rfl)
    (hQ : ∀ c a w, Q (.panic c) (a.put oi.dst undef) w → Q (.panic c) a w := by exact fun _ _ _ h => h) (hy : Yields P ops oi undef a := by exact Or.inr ⟨by rfl, rfl⟩)
    (ha : a.put (some n) undef = a' := by simp only [Act.put, List.setIfInBounds_toArray, List.set_cons_zero, List.set_cons_succ, i64_w, i32_w]; rfl) : wpAnyLast P md ops Q S ds (fuel + 1) l a w :=
  pure_ l' hi hN (any_of HT.out hc) hQ hy ha h
theorem tk (i n : Nat) (h : wpAnyLast P md ops Q S ds fuel l' a' w) (HT : Aside0 (rtab md ops = T) := by assumption) (HW : Aside0 (waitsOk T.2 B = true) := by assumption) (hS : S w := by assumption) (hi : ops[i]? = some oi := by exact rfl) (hN : oi.dst = some n := by exact rfl)
    (hl : l.setIfInBounds i true = l' := by simp only [List.setIfInBounds_toArray, List.set_cons_zero, List.set_cons_succ]; exact rfl) (hc : takeW T B ds l.toList l'.toList i = true := by kernel_rfl)
    (hQ : ∀ c a w, Q (.panic c) (a.put oi.dst v) w → Q (.panic c) a w := by exact fun _ _ _ h => h) (hy : YieldsIf P ops S oi v a := by exact Or.inl ⟨by rfl, by intro w' hs; repeat (obtain ⟨_, hs⟩ := hs); go_simp; with_reducible rfl⟩)
    (ha : a.put (some n) v = a' := by simp only [Act.put, List.setIfInBounds_toArray, List.set_cons_zero, List.set_cons_succ, i64_w, i32_w]; rfl) : wpAnyLast P md ops Q S ds (fuel + 1) l a w :=
  take_ l' hi hN (take_ofW HT.out HW.out hc) hQ hy hS ha h
section
variable {α : Type} {d : Kd α} {e base g : Nat} {o : Obj} {W : World} {ok : Nat → Prop} {v : Value} {xs : List α}
theorem blk_lt' {o : Obj} (h : W.heap[g]? = some o) : g < W.heap.size := (Array.getElem?_eq_some_iff.1 h).1
theorem zB (_h0 : Aside0 (w.heap[g]? = some o)) (h : W.heap[g]? = some o := by (with_reducible repeat (first | refine blk_drewN ?_ _ | refine blk_drew ?_ | refine blk_alloc ?_ _)); exact Aside0.out (by assumption)) : W.heap[g]? = some o := h
theorem zR (_h0 : Aside0 (Kd.R d e w base ok v xs)) (h : Kd.R d e W base ok v xs := by (with_reducible repeat (first | apply Kd.R_alloc | apply Kd.R_drewN | apply Kd.R_drew)); exact Aside0.out (by assumption)) : Kd.R d e W base ok v xs := h
theorem zS (_h0 : Aside0 (Kd.S d e w base ok v xs)) (h : Kd.S d e W base ok v xs := by (with_reducible repeat (first | apply Kd.S_alloc | apply Kd.S_drewN | apply Kd.S_drew)); exact Aside0.out (by assumption)) : Kd.S d e W base ok v xs := h
end
section
variable {α β : Type} {c : Prop} {d : Decidable c} {x y : Option α} {r : α}
theorem ifY (H : (if c then x else none) = some r) : c ∧ x = some r := by
  by_cases h : c
  · rw [if_pos h] at H; exact ⟨h, H⟩
  · rw [if_neg h] at H; cases H
theorem ifN (H : (if c then none else x) = some r) : ¬c ∧ x = some r := by
  by_cases h : c
  · rw [if_pos h] at H; cases H
  · rw [if_neg h] at H; exact ⟨h, H⟩
theorem ifYd (H : (if c then x else none) = some r) : decide c = true ∧ x = some r := ⟨decide_eq_true (ifY H).1, (ifY H).2⟩
theorem ifYe (H : (if c then x else none) = some r) : (c = True) ∧ decide c = true ∧ x = some r := ⟨eq_true (ifY H).1, decide_eq_true (ifY H).1, (ifY H).2⟩
theorem ifT {x y : Option α} (H : (if true = true then x else y) = some r) : x = some r := by rw [if_pos rfl] at H; exact H
theorem ifF {x y : Option α} (H : (if false = true then x else y) = some r) : y = some r := by rw [if_neg (by decide)] at H; exact H
theorem bdY {z : Option β} {f : β → Option α} (H : z.bind f = some r) : ∃ t, Aside0 (z = some t) ∧ f t = some r := by
  obtain ⟨t, h1, h2⟩ := Option.bind_eq_some_iff.mp H
  exact ⟨t, ⟨h1⟩, h2⟩
end
section
variable {f : FuncId} {fn : Func} {as : Array Operand} {ts : Array TypeId} {R : World → Prop} {id : Nat}
theorem zK {p : Prop} (h : p := by (repeat' apply And.intro) <;> (first | exact (blk_cell (Aside0.out (by assumption)) _).trans rfl | exact (HB.out.cell (World.block_lt_of_cell? w _ (by assumption))).trans (by assumption))) : p := h
theorem st (n : Nat) (S : World → Prop) (hT : rtab .any ops = T) (hB : waitsOk T.2 B = true) (hS : S w.drew) (h : S w.drew → Aside0 (rtab .any ops = T) → Aside0 (waitsOk T.2 B = true) → wpAnyLast P .any ops Q S [] n l a w.drew)
    (hm : P.follows .mixedOrders = true := by kernel_rfl) (hn : ops.size = n := by exact rfl) (hl : Array.replicate n false = l := by simp only [← List.toArray_replicate, List.replicate]; exact rfl) : (Code.region id ops true).wp P Q a w :=
  start_ l hm hn hl hS (fun hs => with_tabW hT hB (h hs))
theorem on1 (i n : Nat) (hf : P.funcs[f]? = some fn) (args : Array Value) (hcall : Calls P f args w fun e w' => e = .returned v ∧ R w') (h : ∀ w', R w' → S w' ∧ (S w' → wpAnyLast P md ops Q S ds fuel l' a' w'))
    (HT : Aside0 (rtab md ops = T) := by assumption) (hi : ops[i]? = some oi := by exact rfl) (hN : oi.dst = some n := by exact rfl) (hop : oi.op = .call { callee := .value (.func f), args := as, argTypes := ts } := by exact rfl)
    (hl : l.setIfInBounds i true = l' := by simp only [List.setIfInBounds_toArray, List.set_cons_zero, List.set_cons_succ]; exact rfl) (hc : (readyT T.2 l.toList == [i] && l.toList.set i true == l'.toList) = true := by kernel_rfl) (hd : i ∉ ds := by decide)
    (hw : Region.wanted oi (yielded ops a.tmps) = true := by rfl) (hname : (fn.name == "runtime.NumGoroutine") = false := by kernel_rfl) (hb : fn.body.isSome = true := by rfl)
    (hargs : as.map a.eval = args := by (try simp only [List.map_toArray, List.map_cons, List.map_nil]); first | done | rfl | (simp only [List.length_drop, List.length_take]; rfl))
    (ha : a.put (some n) v = a' := by simp only [Act.put, List.setIfInBounds_toArray, List.set_cons_zero, List.set_cons_succ, i64_w, i32_w]; rfl) : wpAnyLast P md ops Q S ds (fuel + 1) l a w := by
  refine one_ l' hi hN (one_of HT.out hc) hd (fun K hK => ?_)
  refine goes_ hf hname hb args hw hN hop hargs ?_
  refine hcall.mono fun e w' hh => ?_
  obtain ⟨he, hR⟩ := hh
  obtain ⟨h1, h2⟩ := h w' hR
  refine ⟨v, he, ?_⟩
  rw [ha]
  exact hK.out _ _ h1 h2
end
section
variable {f : FuncId} {fn : Func} {as : Array Operand} {ts : Array TypeId} {w0 w1 W : World} {g g' : Nat} {ob : Obj} {o : Oper} {rest : List Oper} {cs : Array Value} {t : TypeId} {z : Nat × Nat}
theorem cz (h : Aside0 (w.heap[g]? = some (.cells cs t (0, 0)))) (i : Nat) (hv : cs[i]? = some v := by simp only [List.getElem?_toArray, List.getElem?_cons_zero, List.getElem?_cons_succ]; exact rfl) : w.cell? ⟨g, i, none⟩ = some v := (blk_cell h.out i).trans hv
theorem gw (hg : g = W.heap.size) (h : Below w0.heap.size w0 W := by repeat (first | (with_reducible first | exact HB.out | apply below_alloc | apply pw_below_drewN | apply below_drew1 | refine below_set ?_ (Aside0.out (by assumption))) | exact HB.out)) : Aside0 (w0.heap.size ≤ g) := ⟨by rw [hg]; exact below_size h⟩
theorem nl (hg : g = W.heap.size) (_h0 : Aside0 (w.heap[g']? = some ob)) (h : W.heap[g']? = some ob := by (with_reducible repeat (first | refine blk_drewN ?_ _ | refine blk_drew ?_ | refine blk_alloc ?_ _)); exact Aside0.out (by assumption)) : Aside0 (g' ≠ g) := ⟨by rw [hg]; exact Nat.ne_of_lt (blk_lt' h)⟩
theorem ng (hg : g = W.heap.size) (_h0 : Aside0 (w.heap[g']? = some ob)) (h : W.heap[g']? = some ob := by (with_reducible repeat (first | refine blk_drewN ?_ _ | refine blk_drew ?_ | refine blk_alloc ?_ _)); exact Aside0.out (by assumption)) : Aside0 (g ≠ g') := ⟨by rw [hg]; exact Nat.ne_of_gt (blk_lt' h)⟩
theorem kb (_h0 : Aside0 (w.heap[g]? = some ob)) (hb : Below W.heap.size W w1) (h : W.heap[g]? = some ob := by (with_reducible repeat (first | refine blk_drewN ?_ _ | refine blk_drew ?_ | refine blk_alloc ?_ _)); exact Aside0.out (by assumption)) : Aside0 (w1.heap[g]? = some ob) := ⟨(hb.block g (blk_lt' h)).trans h⟩
theorem hB (hb : Below W.heap.size W w1) (h : Below w0.heap.size w0 W := by repeat (first | (with_reducible first | exact HB.out | apply below_alloc | apply pw_below_drewN | apply below_drew1 | refine below_set ?_ (Aside0.out (by assumption))) | exact HB.out)) : Aside0 (Below w0.heap.size w0 w1) := ⟨below_step h hb⟩
theorem bx {W : World} (n : Nat) (h : ∀ g, g = W.heap.size → ∀ w1, w1.heap[g]? = some (.cells cs t (0, 0)) → Below W.heap.size W w1 → wpList P ops Q rest (a.put o.dst (.pointer (some ⟨g, 0, none⟩))) w1) (hd : o.dst = some n := by rfl) (hgd : o.guard = none := by rfl)
    (hr : (execOp a.eval o).run P W = .ok (.value (.pointer (some ⟨W.heap.size, 0, none⟩))) (W.alloc (.cells cs t (0, 0))) := by first | (go_simp; done) | (go_simp; rfl)) : wpList P ops Q (o :: rest) a W := box_event hgd hd hr h
theorem gc (n : Nat) (hf : P.funcs[f]? = some fn) (args : Array Value) (h : Calls P f args w fun e w' => ∃ v, e = .returned v ∧ wpList P ops Q rest (a.put (some n) v) w')
    (hop : o.op = .call { callee := .value (.func f), args := as, argTypes := ts } := by with_reducible exact rfl) (hd : o.dst = some n := by rfl) (hg : o.guard = none := by rfl) (hname : (fn.name == "runtime.NumGoroutine") = false := by kernel_rfl) (hb : fn.body.isSome = true := by rfl)
    (hargs : as.map a.eval = args := by (try simp only [List.map_toArray, List.map_cons, List.map_nil]); first | done | rfl | (simp only [List.length_drop, List.length_take]; rfl)) : wpList P ops Q (o :: rest) a w := goesL_ (some n) hd hg hf hname hb args hop hargs h
theorem on (i : Nat) (N : Option Tmp) (h : ∀ K : Act → World → Prop, Shut (∀ a' w', S w' → (S w' → wpAnyLast P md ops Q S ds fuel l' a' w') → K a' w') → if Region.wanted oi (yielded ops a.tmps) = true then Oper.wp P oi a w K Q else K (a.put N undef) w)
    (HT : Aside0 (rtab md ops = T) := by assumption) (hi : ops[i]? = some oi := by exact rfl) (hN : oi.dst = N := by exact rfl) (hl : l.setIfInBounds i true = l' := by simp only [List.setIfInBounds_toArray, List.set_cons_zero, List.set_cons_succ]; exact rfl)
    (hc : (readyT T.2 l.toList == [i] && l.toList.set i true == l'.toList) = true := by kernel_rfl) (hd : i ∉ ds := by decide) : wpAnyLast P md ops Q S ds (fuel + 1) l a w := one_ l' hi hN (one_of HT.out hc) hd h
theorem nd (N : Option Tmp) {b : Act} {d : Option Tmp} {v : Value} (h : wpAnyLast P md ops Q S ds fuel l a' w) (hd : d = N := by exact rfl) (ha : b.put N v = a' := by simp only [Act.put, List.setIfInBounds_toArray, List.set_cons_zero, List.set_cons_succ, i64_w, i32_w]; rfl) : wpAnyLast P md ops Q S ds fuel l (b.put d v) w := by
  subst hd
  exact norm_ ha h
end
section
variable {w0 w1 W : World} {g g' : Nat} {ob : Obj} {row : Option Nat}
theorem kk (_h0 : Aside0 (w.heap[g']? = some ob)) (hk : KeepBut W w1 g none) (hn : Aside0 (g' ≠ g)) (h : W.heap[g']? = some ob := by (with_reducible repeat (first | refine blk_drewN ?_ _ | refine blk_drew ?_ | refine blk_alloc ?_ _)); exact Aside0.out (by assumption)) : Aside0 (w1.heap[g']? = some ob) := ⟨KeepBut.blk hk h hn.out (by simp)⟩
theorem bw (h : Below w0.heap.size w0 W := by repeat (first | (with_reducible first | exact HB.out | apply below_alloc | apply pw_below_drewN | apply below_drew1 | refine below_set ?_ (Aside0.out (by assumption))) | exact HB.out)) : Below w0.heap.size w0 W := h
theorem kle {a b : Nat} (h : a ≤ b := by first | exact Nat.le_refl _ | ((repeat (rename Aside0 (_ ≤ _) => hq_; have hq2_ := hq_.out; clear hq_)); omega)) : Aside0 (a ≤ b) := ⟨h⟩
end
section
variable {w : World} {g : Nat} {t : TypeId} {cs : Array Value} {a b c d e : Value}
theorem bd {p q : Prop} (h : q) (f : q → p := by intro h_; (with_reducible repeat (first | refine blk_drewN ?_ _ | refine blk_drew ?_ | refine blk_alloc ?_ _)); exact h_) : p := f h
theorem bR {p q : Prop} (h : q) (f : q → p := by intro h_; (with_reducible repeat (first | apply Kd.R_alloc | apply Kd.R_drewN | apply Kd.R_drew)); exact h_) : p := f h
theorem bS {p q : Prop} (h : q) (f : q → p := by intro h_; (with_reducible repeat (first | apply Kd.S_alloc | apply Kd.S_drewN | apply Kd.S_drew)); exact h_) : p := f h
theorem bV {p q : Prop} (h : q) (f : q → p := by intro h_; (with_reducible repeat (first | apply Kd.V_alloc | apply Kd.V_drewN | apply Kd.V_drew)); exact h_) : p := f h
theorem bN {p q : Prop} (h : q) (f : q → p := by intro h_; (with_reducible repeat (first | apply Kd.N_alloc | apply Kd.N_drewN | apply Kd.N_drew)); exact h_) : p := f h
theorem rC {p q : Prop} (h : q) (f : q → p := by intro h_; repeat (first | exact h_ | (with_reducible refine Kd.C_alloc ?_ _) | (with_reducible refine Kd.C_drewN ?_ _) | (with_reducible refine Kd.C_drew ?_))) : p := f h
theorem f2 (h : w.heap[g]? = some (.cells cs t (0, 0))) : w.frozen? ⟨g, 0, none⟩ = false ∧ w.frozen? ⟨g, 1, none⟩ = false := ⟨blk_frozen h 0, blk_frozen h 1⟩
theorem f3 (h : w.heap[g]? = some (.cells cs t (0, 0))) : w.frozen? ⟨g, 0, none⟩ = false ∧ w.frozen? ⟨g, 1, none⟩ = false ∧ w.frozen? ⟨g, 2, none⟩ = false := ⟨blk_frozen h 0, blk_frozen h 1, blk_frozen h 2⟩
theorem z2 (h : Aside0 (w.heap[g]? = some (.cells #[a, b] t (0, 0)))) : w.cell? ⟨g, 0, none⟩ = some a ∧ w.cell? ⟨g, 1, none⟩ = some b ∧ w.frozen? ⟨g, 0, none⟩ = false ∧ w.frozen? ⟨g, 1, none⟩ = false := ⟨cz h 0 rfl, cz h 1 rfl, f2 h.out⟩
theorem z3 (h : Aside0 (w.heap[g]? = some (.cells #[a, b, c] t (0, 0)))) : w.cell? ⟨g, 0, none⟩ = some a ∧ w.cell? ⟨g, 1, none⟩ = some b ∧ w.cell? ⟨g, 2, none⟩ = some c ∧ w.frozen? ⟨g, 0, none⟩ = false ∧ w.frozen? ⟨g, 1, none⟩ = false ∧ w.frozen? ⟨g, 2, none⟩ = false := ⟨cz h 0 rfl, cz h 1 rfl, cz h 2 rfl, f3 h.out⟩
end
end Go.Proofs.YtccdjchaaeligaaDoor.Short

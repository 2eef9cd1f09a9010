import Derived.Test.YtccdjchaaeligaaDoorXFnExactCloseAccounts1
import Derived.Test.YtccdjchaaeligaaDoorXFnExactCloseAccounts0
namespace Go.Proofs.YtccdjchaaeligaaDoor.XFnExactCloseAccounts
open Go.Proofs.YtccdjchaaeligaaDoor.Short Go.RowKit Go.Proofs.YtccdjchaaeligaaDoorW.PrintWords Go.Proofs.YtccdjchaaeligaaDoorW.PrintLast Go.Proofs.YtccdjchaaeligaaDoorW.PrintMore
attribute [local go_sem] max2_int min2_int max_two min_two max_three min_three max_four min_four
set_option linter.unusedVariables false
set_option linter.unusedSimpArgs false
theorem ZZf0cf3f {p : Prop} (h : p := by repeat (first | (with_reducible first | exact HK.out | apply Kept.alloc | apply Kept.drewN | apply Kept.drew) | exact HK.out)) : p := h
theorem ZZb41457 {p : Prop} (h : p := by have h_ : (x5_1 : Int) < ((x0_1.length : Int) : Int) := of_decide_eq_true ZZ853400; first | exact h_ | (have e_ := (Kd.R_reads' HO_0.out).1; omega) | simpa using h_) : p := h
theorem ZZ4c3d26 {p : Prop} (h : p := by have h_ : (x5_1 : Int) < ((x0_1.length : Int) : Int) := of_decide_eq_true ZZ853400; first | exact h_ | (have e_ := (Kd.S_reads' HO_0.out).1; omega) | simpa using h_) : p := h
theorem ZZff9b89 {p : Prop} (h : p := by repeat (first | (with_reducible first | exact HK.out | apply Kept.alloc | apply Kept.drewN | apply Kept.drew | refine Kept.setCell ?_ (.inr GW475.out) _) | exact HK.out)) : p := h
def laws_markText.l0 : Nat → Int → ByteArray → Option (ByteArray)
 | 0, _, _ => none
 | k + 1, x0, x3 => if x0 > 0 then ((some (([(wrap64 (48 + (Int.tmod x0 10))) % 256] : List Int) : List Int)).bind fun y462 => (if (strOfNums y462).size + x3.size ≤ 9223372036854775807 then (laws_markText.l0 k (wrap64 (Int.tdiv x0 10)) ((strOfNums y462) ++ x3)) else (none))) else (if 1 + x3.size ≤ 9223372036854775807 then (some ((⟨#[109]⟩ : ByteArray) ++ x3)) else (none))
def laws_markText.f (k : Nat) (a0 : Int) : Option (ByteArray) := if a0 ≤ 0 then (some (⟨#[109, 48]⟩ : ByteArray)) else (laws_markText.l0 k a0 (⟨#[]⟩ : ByteArray))
theorem laws_markText.mono_l : ∀ k, (∀ y0 y1, LeO (laws_markText.l0 k y0 y1) (laws_markText.l0 (k + 1) y0 y1))
 | 0 => fun _ _ r h => by simp [laws_markText.l0] at h
 | k + 1 => by
  have ih0 := laws_markText.mono_l k
  ·intro y0 y1
   unfold laws_markText.l0
   repeat' with_reducible first | apply ih0 | exact LeO.refl _ | exact LeO.none _ | refine LeO.ite ?_ ?_ | refine LeO.bind ?_ (fun _ => ?_)
theorem laws_markText.mono : ∀ a0 k, LeO (laws_markText.f k a0) (laws_markText.f (k + 1) a0) := by
 intro a0 k
 have ih0 := laws_markText.mono_l k
 unfold laws_markText.f
 repeat' with_reducible first | apply ih0 | exact LeO.refl _ | exact LeO.none _ | refine LeO.ite ?_ ?_ | refine LeO.bind ?_ (fun _ => ?_)
set_option maxHeartbeats 8000000 in
set_option maxRecDepth 100000 in
theorem laws_markText.calls (k : Nat) (a0 : Int) (r : ByteArray) (w : World) (h : laws_markText.f k a0 = some r) :
 Calls Tryd.prog 112 #[.int .i64 a0] w fun e w' => e = .returned (.string r) ∧ Below w.heap.size w w' := by
 have HB := Aside0.mk (Below.refl w.heap.size w)
 have H := h
 clear h
 unfold laws_markText.f at H
 by_cases c2 : a0 ≤ 0
 ·rw [if_pos c2] at H
  have c2b0 := decide_eq_true c2
  clear c2
  obtain rfl := Option.some.inj H
  go_enter Tryd.func112, Tryd.ntmps112
  go_wp2
  go_ret
  exact ⟨ZZab01d2, ZZ605003⟩
 rw [if_neg c2] at H
 have c2b0 := decide_eq_false c2
 clear c2
 replace H := Aside0.mk H
 go_enter Tryd.func112, Tryd.ntmps112
 go_wp2
 go_loopg [0, 3] k (fun kq v0 v3 w' => ∃ (x0_1 : Int) (x3_1 : ByteArray), v0 = .int .i64 x0_1 ∧ v3 = .string x3_1 ∧ Aside0 (laws_markText.l0 kq x0_1 x3_1 = some r) ∧ Aside0 (kq ≤ k) ∧ Aside0 (Below w.heap.size w w'))
 case atStart => exact ⟨(a0), ((⟨#[]⟩ : ByteArray)), ZZ0ab324, ZZ0ab324, H, ⟨Nat.le_refl _⟩, ⟨ZZ605003⟩⟩
 case round =>
  clear H
  try clear c2b0
  obtain ⟨x0_1, x3_1, rfl, rfl, HA, HK1, HB⟩ := hrel
  cases gk with
  | zero => exact absurd HA.out (by simp [laws_markText.l0])
  | succ k1 =>
   have H := HA.out
   clear HA
   simp only [laws_markText.l0] at H
   by_cases c3 : x0_1 > 0
   ·rw [if_pos c3] at H
    have c3b0 : decide (0 < x0_1) = true := decide_eq_true c3
    clear c3
    try rw [Option.bind_some] at H
    generalize hy462 : (([(wrap64 (48 + (Int.tmod x0_1 10))) % 256] : List Int) : List Int) = y462 at H
    have Ny462 := Aside0.mk hy462.symm
    clear hy462
    obtain ⟨c4, H⟩ := ifY H
    have c4b0 := eq_true c4
    have c4b1 := decide_eq_true c4
    try have c4b2 : (9223372036854775807 < (strOfNums y462).size + x3_1.size) = False := eq_false (Nat.not_lt.2 c4)
    replace H := Aside0.mk H
    go_wp2_with (first | ((with_reducible refine gate_dst (N := 12) rfl ?_); refine Kd.R_lit (Kd.int .u8) _ 5 ?hg (N := 12) ?hd (xs := ([(wrap64 (48 + (Int.tmod x0_1 10))) % 256] : List Int)) (inner := [.int .u8 ((wrap64 (48 + (Int.tmod x0_1 10))) % 256)]) (ok := fun _ => True) (okp := fun _ => True) ?hr ?hp (fun _ hk => hk) trivial (Below.refl _ _) (Nat.le_refl _) (by simp) ?_; (case hd => rfl); (case hg => rfl); (case hr => first | (go_simp; done) | (go_simp; rfl)); (case hp => exact (Reps.one (show Kd.M (Kd.int .u8) _ _ _ ((wrap64 (48 + (Int.tmod x0_1 10))) % 256) [.int .u8 ((wrap64 (48 + (Int.tmod x0_1 10))) % 256)] from rfl) (Reps.none _ _))); intro v463 w5 ho6 hb hg_ hnew_; clear hg_ hnew_; (first | rw [← Ny462.out] at ho6 | (simp only [Int.reduceToNat] at ho6; rw [← Ny462.out] at ho6)); have HO464 := Aside0.mk (Kd.R_lower ho6 (below_size ZZ605003)); replace HB := hB hb; clear hb ho6; have hcv7 := own_string (P := Tryd.prog) Tryd.underlying38 Tryd.underlying5 Tryd.underlying9 (Kd.own_of_R HO464.out)))
    go_roundg k1
    case measure => have := HK1.out; omega
    case rel => exact ⟨(wrap64 (Int.tdiv x0_1 10)), ((strOfNums y462) ++ x3_1), ZZ0ab324, ZZ0ab324, H, kle, ⟨ZZ605003⟩⟩
   rw [if_neg c3] at H
   have c3b0 : decide (0 < x0_1) = false := decide_eq_false c3
   clear c3
   obtain ⟨c8, H⟩ := ifY H
   have c8b0 := eq_true c8
   have c8b1 := decide_eq_true c8
   try have c8b2 : (9223372036854775807 < 1 + x3_1.size) = False := eq_false (Nat.not_lt.2 c8)
   obtain rfl := Option.some.inj H
   go_wp2
   go_ret
   exact ⟨ZZab01d2, ZZ605003⟩/-! ### laws_markAccountS: function 79 -/
def laws_markAccountS.l0 : Nat → List (S48) → Int → Int → Option (Int × (List (S48)))
 | 0, _, _, _ => none
 | k + 1, x0, x1, x5 => if x5 < (x0.length : Int) then ((laws_markText.f k x1).bind fun t465 => (if 0 ≤ x5 then ((some (x0.set (x5 : Int).toNat (⟨t465, (rd_T48 x0 x5).f1⟩ : S48) : List (S48))).bind fun y466 => (laws_markAccountS.l0 k (y466.set (x5 : Int).toNat (⟨(rd_T48 y466 x5).f0, wrap64 (x1 + 1)⟩ : S48)) (wrap64 ((wrap64 (x1 + 1)) + 1)) (wrap64 (x5 + 1)))) else (none))) else (some (x1, x0))
def laws_markAccountS.f (k : Nat) (l0 : List (S48)) (a1 : Int) : Option (Int × (List (S48))) := laws_markAccountS.l0 k l0 a1 0
theorem laws_markAccountS.mono_l : ∀ k, (∀ y0 y1 y2, LeO (laws_markAccountS.l0 k y0 y1 y2) (laws_markAccountS.l0 (k + 1) y0 y1 y2))
 | 0 => fun _ _ _ r h => by simp [laws_markAccountS.l0] at h
 | k + 1 => by
  have ih0 := laws_markAccountS.mono_l k
  ·intro y0 y1 y2
   unfold laws_markAccountS.l0
   repeat' with_reducible first | apply ih0 | apply laws_markText.mono | exact LeO.refl _ | exact LeO.none _ | refine LeO.ite ?_ ?_ | refine LeO.bind ?_ (fun _ => ?_)
theorem laws_markAccountS.mono : ∀ a0 a1 k, LeO (laws_markAccountS.f k a0 a1) (laws_markAccountS.f (k + 1) a0 a1) := by
 intro a0 a1 k
 have ih0 := laws_markAccountS.mono_l k
 unfold laws_markAccountS.f
 repeat' with_reducible first | apply ih0 | apply laws_markText.mono | exact LeO.refl _ | exact LeO.none _ | refine LeO.ite ?_ ?_ | refine LeO.bind ?_ (fun _ => ?_)
set_option maxHeartbeats 8000000 in
set_option maxRecDepth 100000 in
theorem laws_markAccountS.calls (k : Nat) (P0_ : Nat → Prop) (u9000_ : Value) (l0 : List (S48)) (a1 : Int) (r1 : Int) (r2 : List (S48)) (w0 w : World) (hB : Below w0.heap.size w0 w) (ho0 : Kd.R k48 48 w w0.heap.size P0_ u9000_ l0) (h : laws_markAccountS.f k l0 a1 = some (r1, r2)) :
 Calls Tryd.prog 79 #[u9000_, .int .i64 a1] w fun e w' => e = .returned (.int .i64 r1) ∧ Kd.R k48 48 w' w0.heap.size (fun k_ => (P0_ k_ ∨ w.heap.size ≤ k_)) u9000_ r2 ∧ Below w0.heap.size w0 w' ∧ Kept w w' (fun k_ => P0_ k_) := by
 have HO0 := Aside0.mk (show Kd.R k48 48 w w0.heap.size (fun k_ => (P0_ k_ ∨ w.heap.size ≤ k_)) u9000_ l0 from Kd.R_mono ho0 (fun k_ hk => (.inl hk)))
 have HK := Aside0.mk (Kept.refl w (fun k_ => P0_ k_))
 have HW0 := Aside0.mk hB.size
 have HB := Aside0.mk hB
 clear hB
 have H := h
 clear h
 unfold laws_markAccountS.f at H
 replace H := Aside0.mk H
 go_enter Tryd.func79, Tryd.ntmps79
 go_wp2
 go_loopg [1, 5] k (fun kq v1 v5 w' => ∃ (x0_1 : List (S48)) (x1_1 : Int) (x5_1 : Int), v1 = .int .i64 x1_1 ∧ v5 = .int .i64 x5_1 ∧ Aside0 (laws_markAccountS.l0 kq x0_1 x1_1 x5_1 = some (r1, r2)) ∧ Aside0 (kq ≤ k) ∧ Aside0 (Kd.R k48 48 w' w0.heap.size (fun k_ => (P0_ k_ ∨ w.heap.size ≤ k_)) u9000_ x0_1) ∧ Aside0 (Kept w w' (fun k_ => P0_ k_)) ∧ Aside0 (Below w0.heap.size w0 w'))
 case atStart => exact ⟨(l0), (a1), (0), ZZ0ab324, ZZ0ab324, H, ⟨Nat.le_refl _⟩, ⟨(zR HO0)⟩, ⟨ZZf0cf3f⟩, ⟨ZZ605003⟩⟩
 case round =>
  clear H
  obtain ⟨x0_1, x1_1, x5_1, rfl, rfl, HA, HK1, HO_0, HK, HB⟩ := hrel
  cases gk with
  | zero => exact absurd HA.out (by simp [laws_markAccountS.l0])
  | succ k1 =>
   have H := HA.out
   clear HA
   simp only [laws_markAccountS.l0] at H
   by_cases c3 : x5_1 < (x0_1.length : Int)
   ·rw [if_pos c3] at H
    have c3b0 := decide_eq_true c3
    clear c3
    obtain ⟨t465, A4, H⟩ := bdY H
    obtain ⟨c5b0, H⟩ := ifYd H
    try rw [Option.bind_some] at H
    generalize hy466 : (x0_1.set (x5_1 : Int).toNat (⟨t465, (rd_T48 x0_1 x5_1).f1⟩ : S48) : List (S48)) = y466 at H
    have Ny466 := Aside0.mk hy466.symm
    clear hy466
    try rw [Option.bind_some] at H
    generalize hy467 : (y466.set (x5_1 : Int).toNat (⟨(rd_T48 y466 x5_1).f0, wrap64 (x1_1 + 1)⟩ : S48) : List (S48)) = y467 at H
    have Ny467 := Aside0.mk hy467.symm
    clear hy467
    replace H := Aside0.mk H
    obtain ⟨Ao8, co8, eo8⟩ := Kd.R_slice HO_0.out
    subst eo8
    go_wp2_with (first | (refine gc 15 Tryd.func112 #[.int .i64 x1_1] ?_; (with_reducible refine (laws_markText.calls k1 x1_1 t465 _ A4.out).mono ?_); rintro e w9 ⟨rfl, hb⟩; refine ⟨_, rfl, ?_⟩; replace HO_0 := Aside0.mk (Kd.R_below (zR HO_0) hb); replace HK := Aside0.mk (Kept.below (S := (fun k_ => P0_ k_)) ZZf0cf3f hb); replace HB := hB hb; (try clear hb); (try clear hb2); (try clear hk); (try clear hi); have p6 : 0 ≤ (x5_1 : Int) := of_decide_eq_true ZZ853400; have q6 : (x5_1 : Int) < ((x0_1.length : Int) : Int) := of_decide_eq_true ZZ853400; obtain ⟨go6, co6, eo6, gb6, gl6, cl6, HG6⟩ := Kd.R_form HO_0.out (by omega); (first | cases eo6 | (injection eo6 with ea_ en_ ec_; (first | subst ea_ | (injection ea_ with ea_; subst ea_)); subst ec_; clear en_)); have GB6 := Aside0.mk gb6; have GG6 := Aside0.mk HG6; clear gb6 gl6 HG6; have HMgo6 := Aside0.mk (show (P0_ go6 ∨ w.heap.size ≤ go6) from (HO_0.out.1 _ rfl)); obtain ⟨ce6, hcl6, hM6, hcc6, hfr6⟩ := Kd.R_elem HO_0.out z48 (x5_1 : Int) p6 q6; obtain rfl := k48_openM hM6; have hx6_0 : w9.cell? ⟨go6, (x5_1 : Int).toNat * 2, none⟩ = some (.string ((rd_T48 x0_1 x5_1).f0)) := hcc6 0 _ rfl; have hx6_1 : w9.cell? ⟨go6, (x5_1 : Int).toNat * 2 + 1, none⟩ = some (.int .i64 ((rd_T48 x0_1 x5_1).f1)) := hcc6 1 _ rfl; have hf6_0 : w9.frozen? ⟨go6, (x5_1 : Int).toNat * 2, none⟩ = false := hfr6 0; have hf6_1 : w9.frozen? ⟨go6, (x5_1 : Int).toNat * 2 + 1, none⟩ = false := hfr6 1; clear hcl6 hcc6 hfr6 hM6; replace p6 := eq_true p6; replace q6 := eq_true q6; have HX10 := Aside0.mk (show Kd.R k48 48 w9 w0.heap.size (fun k_ => (P0_ k_ ∨ w.heap.size ≤ k_)) (.slice (some ⟨go6, 0, none⟩) x0_1.length co8) x0_1 from (zR HO_0)); obtain ⟨ce10, hcl10, hM10, hcc10, hfr10⟩ := Kd.R_elem HX10.out z48 (x5_1 : Int) (of_decide_eq_true ZZ853400) ZZb41457; obtain rfl := k48_openM hM10; have HP10 := Kd.R_seg HX10.out (x5_1 : Int) (of_decide_eq_true ZZ853400) ZZb41457 (seg := [.string t465]) (j := 0) hcl10 hcc10 (show 1 ≤ 2 from by decide) (x' := (⟨t465, (rd_T48 x0_1 x5_1).f1⟩ : S48)) (k48_mkM _ _ _ (⟨t465, (rd_T48 x0_1 x5_1).f1⟩ : S48) ) (fun _ hk => hk); have hx10_0 := hcc10 0 _ rfl; (try simp only [show (k48).sz = 2 from rfl, Nat.mul_one, Nat.add_zero] at hx10_0); have hf10_0 := hfr10 0; (try simp only [show (k48).sz = 2 from rfl, Nat.mul_one, Nat.add_zero] at hf10_0); clear hcl10 hcc10 hfr10 hM10) | ((with_reducible refine gate_store (t := 9) (p := 17) rfl ?_); refine store_event (t := 9) (p := 17) (v := ?vo_w11) (w1 := (w9.setCell ⟨go6, (x5_1 : Int).toNat * 2, none⟩ (.string t465))) ?hg ?ho ?hn ?hr ?_; (case ho => rfl); (case hg => rfl); (case hn => rfl); (case hr => first | (go_simp; done) | (go_simp; rfl)); intro w11 hw; have hg : w9.grownBy w11 (some go6) := (by rw [hw]; exact HP10.2); have hp_ : Kd.R k48 48 w11 w0.heap.size (fun k_ => (P0_ k_ ∨ w.heap.size ≤ k_)) (.slice (some ⟨go6, 0, none⟩) x0_1.length co8) y466 := (by rw [hw, Ny466.out]; exact HP10.1); clear HP10; replace HB := Aside0.mk ((by rw [hw]; exact below_set (HB.out) GB6.out : Below w0.heap.size w0 w11)); replace HK := Aside0.mk (Kept.of_grown (S := (fun k_ => P0_ k_)) hg ZZf0cf3f (fun k_ e_ => (HO_0.out.1 k_ e_))); replace HO_0 := Aside0.mk (hp_); clear hg hw hp_; have p7 : 0 ≤ (x5_1 : Int) := of_decide_eq_true ZZ853400; have q7 : (x5_1 : Int) < ((x0_1.length : Int) : Int) := of_decide_eq_true ZZ853400; obtain ⟨ce7, hcl7, hM7, hcc7, hfr7⟩ := Kd.R_elem HO_0.out z48 (x5_1 : Int) p7 q7; obtain rfl := k48_openM hM7; have hx7_0 : w11.cell? ⟨go6, (x5_1 : Int).toNat * 2, none⟩ = some (.string ((rd_T48 y466 x5_1).f0)) := hcc7 0 _ rfl; have hx7_1 : w11.cell? ⟨go6, (x5_1 : Int).toNat * 2 + 1, none⟩ = some (.int .i64 ((rd_T48 y466 x5_1).f1)) := hcc7 1 _ rfl; have hf7_0 : w11.frozen? ⟨go6, (x5_1 : Int).toNat * 2, none⟩ = false := hfr7 0; have hf7_1 : w11.frozen? ⟨go6, (x5_1 : Int).toNat * 2 + 1, none⟩ = false := hfr7 1; clear hcl7 hcc7 hfr7 hM7; replace p7 := eq_true p7; replace q7 := eq_true q7; have HX12 := Aside0.mk (show Kd.R k48 48 w11 w0.heap.size (fun k_ => (P0_ k_ ∨ w.heap.size ≤ k_)) (.slice (some ⟨go6, 0, none⟩) x0_1.length co8) y466 from (zR HO_0)); obtain ⟨ce12, hcl12, hM12, hcc12, hfr12⟩ := Kd.R_elem HX12.out z48 (x5_1 : Int) (of_decide_eq_true ZZ853400) ZZb41457; obtain rfl := k48_openM hM12; have HP12 := Kd.R_seg HX12.out (x5_1 : Int) (of_decide_eq_true ZZ853400) ZZb41457 (seg := [.int .i64 (wrap64 (x1_1 + 1))]) (j := 1) hcl12 hcc12 (show 2 ≤ 2 from by decide) (x' := (⟨(rd_T48 y466 x5_1).f0, wrap64 (x1_1 + 1)⟩ : S48)) (k48_mkM _ _ _ (⟨(rd_T48 y466 x5_1).f0, wrap64 (x1_1 + 1)⟩ : S48) ) (fun _ hk => hk); have hx12_1 := hcc12 1 _ rfl; (try simp only [show (k48).sz = 2 from rfl, Nat.mul_one, Nat.add_zero] at hx12_1); have hf12_1 := hfr12 1; (try simp only [show (k48).sz = 2 from rfl, Nat.mul_one, Nat.add_zero] at hf12_1); clear hcl12 hcc12 hfr12 hM12) | ((with_reducible refine gate_store (t := 3) (p := 24) rfl ?_); refine store_event (t := 3) (p := 24) (v := ?vo_w13) (w1 := (w11.setCell ⟨go6, (x5_1 : Int).toNat * 2 + 1, none⟩ (.int .i64 (wrap64 (x1_1 + 1))))) ?hg ?ho ?hn ?hr ?_; (case ho => rfl); (case hg => rfl); (case hn => rfl); (case hr => first | (go_simp; done) | (go_simp; rfl)); intro w13 hw; have hg : w11.grownBy w13 (some go6) := (by rw [hw]; exact HP12.2); have hp_ : Kd.R k48 48 w13 w0.heap.size (fun k_ => (P0_ k_ ∨ w.heap.size ≤ k_)) (.slice (some ⟨go6, 0, none⟩) x0_1.length co8) y467 := (by rw [hw, Ny467.out]; exact HP12.1); clear HP12; replace HB := Aside0.mk ((by rw [hw]; exact below_set (HB.out) GB6.out : Below w0.heap.size w0 w13)); replace HK := Aside0.mk (Kept.of_grown (S := (fun k_ => P0_ k_)) hg ZZf0cf3f (fun k_ e_ => (HO_0.out.1 k_ e_))); replace HO_0 := Aside0.mk (hp_); clear hg hw hp_))
    go_roundg k1
    case measure => have := HK1.out; omega
    case rel => exact ⟨(y467), (wrap64 ((wrap64 (x1_1 + 1)) + 1)), (wrap64 (x5_1 + 1)), ZZ0ab324, ZZ0ab324, H, kle, ⟨(zR HO_0)⟩, ⟨ZZf0cf3f⟩, ⟨ZZ605003⟩⟩
   rw [if_neg c3] at H
   have c3b0 := decide_eq_false c3
   clear c3
   simp only [Option.some.injEq, Prod.mk.injEq] at H
   obtain ⟨rfl, rfl⟩ := H
   obtain ⟨Ao14, co14, eo14⟩ := Kd.R_slice HO_0.out
   subst eo14
   go_wp2
   go_ret
   exact ⟨ZZab01d2, (zR HO_0), ZZ605003, ZZf0cf3f⟩
def laws_markPostingS.l0 : Nat → List (S70) → Int → Int → Option (Int × (List (S70)))
 | 0, _, _, _ => none
 | k + 1, x0, x1, x5 => if x5 < (x0.length : Int) then (if 0 ≤ x5 then ((some (x0.set (x5 : Int).toNat (⟨x1, (rd_T70 x0 x5).f1⟩ : S70) : List (S70))).bind fun y468 => (laws_markPostingS.l0 k (y468.set (x5 : Int).toNat (⟨(rd_T70 y468 x5).f0, wrap64 (x1 + 1)⟩ : S70)) (wrap64 ((wrap64 (x1 + 1)) + 1)) (wrap64 (x5 + 1)))) else (none)) else (some (x1, x0))
def laws_markPostingS.f (k : Nat) (l0 : List (S70)) (a1 : Int) : Option (Int × (List (S70))) := laws_markPostingS.l0 k l0 a1 0
theorem laws_markPostingS.mono_l : ∀ k, (∀ y0 y1 y2, LeO (laws_markPostingS.l0 k y0 y1 y2) (laws_markPostingS.l0 (k + 1) y0 y1 y2))
 | 0 => fun _ _ _ r h => by simp [laws_markPostingS.l0] at h
 | k + 1 => by
  have ih0 := laws_markPostingS.mono_l k
  ·intro y0 y1 y2
   unfold laws_markPostingS.l0
   repeat' with_reducible first | apply ih0 | exact LeO.refl _ | exact LeO.none _ | refine LeO.ite ?_ ?_ | refine LeO.bind ?_ (fun _ => ?_)
theorem laws_markPostingS.mono : ∀ a0 a1 k, LeO (laws_markPostingS.f k a0 a1) (laws_markPostingS.f (k + 1) a0 a1) := by
 intro a0 a1 k
 have ih0 := laws_markPostingS.mono_l k
 unfold laws_markPostingS.f
 repeat' with_reducible first | apply ih0 | exact LeO.refl _ | exact LeO.none _ | refine LeO.ite ?_ ?_ | refine LeO.bind ?_ (fun _ => ?_)
set_option maxHeartbeats 8000000 in
set_option maxRecDepth 100000 in
theorem laws_markPostingS.calls (k : Nat) (P0_ : Nat → Prop) (u9000_ : Value) (l0 : List (S70)) (a1 : Int) (r1 : Int) (r2 : List (S70)) (w0 w : World) (hB : Below w0.heap.size w0 w) (ho0 : Kd.R k70 70 w w0.heap.size P0_ u9000_ l0) (h : laws_markPostingS.f k l0 a1 = some (r1, r2)) :
 Calls Tryd.prog 86 #[u9000_, .int .i64 a1] w fun e w' => e = .returned (.int .i64 r1) ∧ Kd.R k70 70 w' w0.heap.size (fun k_ => (P0_ k_ ∨ w.heap.size ≤ k_)) u9000_ r2 ∧ Below w0.heap.size w0 w' ∧ Kept w w' (fun k_ => P0_ k_) := by
 have HO0 := Aside0.mk (show Kd.R k70 70 w w0.heap.size (fun k_ => (P0_ k_ ∨ w.heap.size ≤ k_)) u9000_ l0 from Kd.R_mono ho0 (fun k_ hk => (.inl hk)))
 have HK := Aside0.mk (Kept.refl w (fun k_ => P0_ k_))
 have HW0 := Aside0.mk hB.size
 have HB := Aside0.mk hB
 clear hB
 have H := h
 clear h
 unfold laws_markPostingS.f at H
 replace H := Aside0.mk H
 go_enter Tryd.func86, Tryd.ntmps86
 go_wp2
 go_loopg [1, 5] k (fun kq v1 v5 w' => ∃ (x0_1 : List (S70)) (x1_1 : Int) (x5_1 : Int), v1 = .int .i64 x1_1 ∧ v5 = .int .i64 x5_1 ∧ Aside0 (laws_markPostingS.l0 kq x0_1 x1_1 x5_1 = some (r1, r2)) ∧ Aside0 (kq ≤ k) ∧ Aside0 (Kd.R k70 70 w' w0.heap.size (fun k_ => (P0_ k_ ∨ w.heap.size ≤ k_)) u9000_ x0_1) ∧ Aside0 (Kept w w' (fun k_ => P0_ k_)) ∧ Aside0 (Below w0.heap.size w0 w'))
 case atStart => exact ⟨(l0), (a1), (0), ZZ0ab324, ZZ0ab324, H, ⟨Nat.le_refl _⟩, ⟨(zR HO0)⟩, ⟨ZZf0cf3f⟩, ⟨ZZ605003⟩⟩
 case round =>
  clear H
  obtain ⟨x0_1, x1_1, x5_1, rfl, rfl, HA, HK1, HO_0, HK, HB⟩ := hrel
  cases gk with
  | zero => exact absurd HA.out (by simp [laws_markPostingS.l0])
  | succ k1 =>
   have H := HA.out
   clear HA
   simp only [laws_markPostingS.l0] at H
   by_cases c3 : x5_1 < (x0_1.length : Int)
   ·rw [if_pos c3] at H
    have c3b0 := decide_eq_true c3
    clear c3
    obtain ⟨c4b0, H⟩ := ifYd H
    try rw [Option.bind_some] at H
    generalize hy468 : (x0_1.set (x5_1 : Int).toNat (⟨x1_1, (rd_T70 x0_1 x5_1).f1⟩ : S70) : List (S70)) = y468 at H
    have Ny468 := Aside0.mk hy468.symm
    clear hy468
    try rw [Option.bind_some] at H
    generalize hy469 : (y468.set (x5_1 : Int).toNat (⟨(rd_T70 y468 x5_1).f0, wrap64 (x1_1 + 1)⟩ : S70) : List (S70)) = y469 at H
    have Ny469 := Aside0.mk hy469.symm
    clear hy469
    replace H := Aside0.mk H
    obtain ⟨Ao7, co7, eo7⟩ := Kd.R_slice HO_0.out
    subst eo7
    have p5 : 0 ≤ (x5_1 : Int) := of_decide_eq_true ZZ853400
    have q5 : (x5_1 : Int) < ((x0_1.length : Int) : Int) := of_decide_eq_true ZZ853400
    obtain ⟨go5, co5, eo5, gb5, gl5, cl5, HG5⟩ := Kd.R_form HO_0.out (by omega)
    (first | cases eo5 | (injection eo5 with ea_ en_ ec_; (first | subst ea_ | (injection ea_ with ea_; subst ea_)); subst ec_; clear en_))
    have GB5 := Aside0.mk gb5
    have GG5 := Aside0.mk HG5
    clear gb5 gl5 HG5
    have HMgo5 := Aside0.mk (show (P0_ go5 ∨ w.heap.size ≤ go5) from (HO_0.out.1 _ rfl))
    obtain ⟨ce5, hcl5, hM5, hcc5, hfr5⟩ := Kd.R_elem HO_0.out z70 (x5_1 : Int) p5 q5
    obtain rfl := k70_openM hM5
    have hx5_0 : wr.cell? ⟨go5, (x5_1 : Int).toNat * 2, none⟩ = some (.int .i64 ((rd_T70 x0_1 x5_1).f0)) := hcc5 0 _ rfl
    have hx5_1 : wr.cell? ⟨go5, (x5_1 : Int).toNat * 2 + 1, none⟩ = some (.int .i64 ((rd_T70 x0_1 x5_1).f1)) := hcc5 1 _ rfl
    have hf5_0 : wr.frozen? ⟨go5, (x5_1 : Int).toNat * 2, none⟩ = false := hfr5 0
    have hf5_1 : wr.frozen? ⟨go5, (x5_1 : Int).toNat * 2 + 1, none⟩ = false := hfr5 1
    clear hcl5 hcc5 hfr5 hM5
    replace p5 := eq_true p5
    replace q5 := eq_true q5
    have HX8 := Aside0.mk (show Kd.R k70 70 wr w0.heap.size (fun k_ => (P0_ k_ ∨ w.heap.size ≤ k_)) (.slice (some ⟨go5, 0, none⟩) x0_1.length co7) x0_1 from (zR HO_0))
    obtain ⟨ce8, hcl8, hM8, hcc8, hfr8⟩ := Kd.R_elem HX8.out z70 (x5_1 : Int) (of_decide_eq_true ZZ853400) ZZb41457
    obtain rfl := k70_openM hM8
    have HP8 := Kd.R_seg HX8.out (x5_1 : Int) (of_decide_eq_true ZZ853400) ZZb41457 (seg := [.int .i64 x1_1]) (j := 0) hcl8 hcc8 (show 1 ≤ 2 from by decide) (x' := (⟨x1_1, (rd_T70 x0_1 x5_1).f1⟩ : S70)) (k70_mkM _ _ _ (⟨x1_1, (rd_T70 x0_1 x5_1).f1⟩ : S70) ) (fun _ hk => hk)
    have hx8_0 := hcc8 0 _ rfl
    (try simp only [show (k70).sz = 2 from rfl, Nat.mul_one, Nat.add_zero] at hx8_0)
    have hf8_0 := hfr8 0
    (try simp only [show (k70).sz = 2 from rfl, Nat.mul_one, Nat.add_zero] at hf8_0)
    clear hcl8 hcc8 hfr8 hM8
    go_wp2_with (first | ((with_reducible refine gate_store (t := 3) (p := 16) rfl ?_); refine store_event (t := 3) (p := 16) (v := ?vo_w9) (w1 := (wr.setCell ⟨go5, (x5_1 : Int).toNat * 2, none⟩ (.int .i64 x1_1))) ?hg ?ho ?hn ?hr ?_; (case ho => rfl); (case hg => rfl); (case hn => rfl); (case hr => first | (go_simp; done) | (go_simp; rfl)); intro w9 hw; have hg : wr.grownBy w9 (some go5) := (by rw [hw]; exact HP8.2); have hp_ : Kd.R k70 70 w9 w0.heap.size (fun k_ => (P0_ k_ ∨ w.heap.size ≤ k_)) (.slice (some ⟨go5, 0, none⟩) x0_1.length co7) y468 := (by rw [hw, Ny468.out]; exact HP8.1); clear HP8; replace HB := Aside0.mk ((by rw [hw]; exact below_set (HB.out) GB5.out : Below w0.heap.size w0 w9)); replace HK := Aside0.mk (Kept.of_grown (S := (fun k_ => P0_ k_)) hg ZZf0cf3f (fun k_ e_ => (HO_0.out.1 k_ e_))); replace HO_0 := Aside0.mk (hp_); clear hg hw hp_; have p6 : 0 ≤ (x5_1 : Int) := of_decide_eq_true ZZ853400; have q6 : (x5_1 : Int) < ((x0_1.length : Int) : Int) := of_decide_eq_true ZZ853400; obtain ⟨ce6, hcl6, hM6, hcc6, hfr6⟩ := Kd.R_elem HO_0.out z70 (x5_1 : Int) p6 q6; obtain rfl := k70_openM hM6; have hx6_0 : w9.cell? ⟨go5, (x5_1 : Int).toNat * 2, none⟩ = some (.int .i64 ((rd_T70 y468 x5_1).f0)) := hcc6 0 _ rfl; have hx6_1 : w9.cell? ⟨go5, (x5_1 : Int).toNat * 2 + 1, none⟩ = some (.int .i64 ((rd_T70 y468 x5_1).f1)) := hcc6 1 _ rfl; have hf6_0 : w9.frozen? ⟨go5, (x5_1 : Int).toNat * 2, none⟩ = false := hfr6 0; have hf6_1 : w9.frozen? ⟨go5, (x5_1 : Int).toNat * 2 + 1, none⟩ = false := hfr6 1; clear hcl6 hcc6 hfr6 hM6; replace p6 := eq_true p6; replace q6 := eq_true q6; have HX10 := Aside0.mk (show Kd.R k70 70 w9 w0.heap.size (fun k_ => (P0_ k_ ∨ w.heap.size ≤ k_)) (.slice (some ⟨go5, 0, none⟩) x0_1.length co7) y468 from (zR HO_0)); obtain ⟨ce10, hcl10, hM10, hcc10, hfr10⟩ := Kd.R_elem HX10.out z70 (x5_1 : Int) (of_decide_eq_true ZZ853400) ZZb41457; obtain rfl := k70_openM hM10; have HP10 := Kd.R_seg HX10.out (x5_1 : Int) (of_decide_eq_true ZZ853400) ZZb41457 (seg := [.int .i64 (wrap64 (x1_1 + 1))]) (j := 1) hcl10 hcc10 (show 2 ≤ 2 from by decide) (x' := (⟨(rd_T70 y468 x5_1).f0, wrap64 (x1_1 + 1)⟩ : S70)) (k70_mkM _ _ _ (⟨(rd_T70 y468 x5_1).f0, wrap64 (x1_1 + 1)⟩ : S70) ) (fun _ hk => hk); have hx10_1 := hcc10 1 _ rfl; (try simp only [show (k70).sz = 2 from rfl, Nat.mul_one, Nat.add_zero] at hx10_1); have hf10_1 := hfr10 1; (try simp only [show (k70).sz = 2 from rfl, Nat.mul_one, Nat.add_zero] at hf10_1); clear hcl10 hcc10 hfr10 hM10) | ((with_reducible refine gate_store (t := 3) (p := 23) rfl ?_); refine store_event (t := 3) (p := 23) (v := ?vo_w11) (w1 := (w9.setCell ⟨go5, (x5_1 : Int).toNat * 2 + 1, none⟩ (.int .i64 (wrap64 (x1_1 + 1))))) ?hg ?ho ?hn ?hr ?_; (case ho => rfl); (case hg => rfl); (case hn => rfl); (case hr => first | (go_simp; done) | (go_simp; rfl)); intro w11 hw; have hg : w9.grownBy w11 (some go5) := (by rw [hw]; exact HP10.2); have hp_ : Kd.R k70 70 w11 w0.heap.size (fun k_ => (P0_ k_ ∨ w.heap.size ≤ k_)) (.slice (some ⟨go5, 0, none⟩) x0_1.length co7) y469 := (by rw [hw, Ny469.out]; exact HP10.1); clear HP10; replace HB := Aside0.mk ((by rw [hw]; exact below_set (HB.out) GB5.out : Below w0.heap.size w0 w11)); replace HK := Aside0.mk (Kept.of_grown (S := (fun k_ => P0_ k_)) hg ZZf0cf3f (fun k_ e_ => (HO_0.out.1 k_ e_))); replace HO_0 := Aside0.mk (hp_); clear hg hw hp_))
    go_roundg k1
    case measure => have := HK1.out; omega
    case rel => exact ⟨(y469), (wrap64 ((wrap64 (x1_1 + 1)) + 1)), (wrap64 (x5_1 + 1)), ZZ0ab324, ZZ0ab324, H, kle, ⟨(zR HO_0)⟩, ⟨ZZf0cf3f⟩, ⟨ZZ605003⟩⟩
   rw [if_neg c3] at H
   have c3b0 := decide_eq_false c3
   clear c3
   simp only [Option.some.injEq, Prod.mk.injEq] at H
   obtain ⟨rfl, rfl⟩ := H
   obtain ⟨Ao12, co12, eo12⟩ := Kd.R_slice HO_0.out
   subst eo12
   go_wp2
   go_ret
   exact ⟨ZZab01d2, (zR HO_0), ZZ605003, ZZf0cf3f⟩
def laws_markAt.f (k : Nat) (l : List S63) (i : Int) (a : Int) : Option (Int × List S63) := (laws_markPostingS.f k (rd_T63 l i).f2 a).bind fun z => some (z.1, l.set i.toNat (⟨(rd_T63 l i).f0, (rd_T63 l i).f1, z.2⟩ : S63))
theorem laws_markAt.mono (l : List S63) (i a : Int) (k : Nat) : LeO (laws_markAt.f k l i a) (laws_markAt.f (k + 1) l i a) := by
 unfold laws_markAt.f
 exact LeO.bind (laws_markPostingS.mono _ _ _) (fun _ => LeO.refl _)
theorem laws_markAt.open_ {k : Nat} {l : List S63} {i a r : Int} {q : List S63} (h : laws_markAt.f k l i a = some (r, q)) : ∃ z, laws_markPostingS.f k (rd_T63 l i).f2 a = some (r, z) ∧ q = l.set i.toNat (⟨(rd_T63 l i).f0, (rd_T63 l i).f1, z⟩ : S63) := by
 unfold laws_markAt.f at h
 obtain ⟨⟨r', z⟩, h1, h2⟩ := Option.bind_eq_some_iff.1 h
 injection h2 with h2
 injection h2 with h3 h4
 subst h3
 exact ⟨z, h1, h4.symm⟩
def laws_markBookEntryS.l0 : Nat → List (S63) → Int → Int → Option (Int × (List (S63)))
 | 0, _, _, _ => none
 | k + 1, x0, x1, x5 => if x5 < (x0.length : Int) then (if 0 ≤ x5 then ((some (x0.set (x5 : Int).toNat (⟨x1, (rd_T63 x0 x5).f1, (rd_T63 x0 x5).f2⟩ : S63) : List (S63))).bind fun y470 => ((laws_markText.f k (wrap64 (x1 + 1))).bind fun t471 => ((laws_markAt.f k (y470.set (x5 : Int).toNat (⟨(rd_T63 y470 x5).f0, t471, (rd_T63 y470 x5).f2⟩ : S63)) x5 (wrap64 ((wrap64 (x1 + 1)) + 1))).bind fun bt473 => (laws_markBookEntryS.l0 k bt473.2 bt473.1 (wrap64 (x5 + 1)))))) else (none)) else (some (x1, x0))
def laws_markBookEntryS.f (k : Nat) (l0 : List (S63)) (a1 : Int) : Option (Int × (List (S63))) := laws_markBookEntryS.l0 k l0 a1 0
theorem laws_markBookEntryS.mono_l : ∀ k, (∀ y0 y1 y2, LeO (laws_markBookEntryS.l0 k y0 y1 y2) (laws_markBookEntryS.l0 (k + 1) y0 y1 y2))
 | 0 => fun _ _ _ r h => by simp [laws_markBookEntryS.l0] at h
 | k + 1 => by
  have ih0 := laws_markBookEntryS.mono_l k
  ·intro y0 y1 y2
   unfold laws_markBookEntryS.l0
   repeat' with_reducible first | apply ih0 | apply laws_markAt.mono | apply laws_markText.mono | exact LeO.refl _ | exact LeO.none _ | refine LeO.ite ?_ ?_ | refine LeO.bind ?_ (fun _ => ?_)
theorem laws_markBookEntryS.mono : ∀ a0 a1 k, LeO (laws_markBookEntryS.f k a0 a1) (laws_markBookEntryS.f (k + 1) a0 a1) := by
 intro a0 a1 k
 have ih0 := laws_markBookEntryS.mono_l k
 unfold laws_markBookEntryS.f
 repeat' with_reducible first | apply ih0 | apply laws_markAt.mono | apply laws_markText.mono | exact LeO.refl _ | exact LeO.none _ | refine LeO.ite ?_ ?_ | refine LeO.bind ?_ (fun _ => ?_)
set_option maxHeartbeats 8000000 in
set_option maxRecDepth 100000 in
theorem laws_markBookEntryS.calls (k : Nat) (P0_ : Nat → Prop) (u9000_ : Value) (l0 : List (S63)) (a1 : Int) (r1 : Int) (r2 : List (S63)) (w0 w : World) (hB : Below w0.heap.size w0 w) (ho0 : Kd.S k63 63 w w0.heap.size P0_ u9000_ l0) (h : laws_markBookEntryS.f k l0 a1 = some (r1, r2)) :
 Calls Tryd.prog 80 #[u9000_, .int .i64 a1] w fun e w' => e = .returned (.int .i64 r1) ∧ Kd.S k63 63 w' w0.heap.size (fun k_ => (P0_ k_ ∨ w.heap.size ≤ k_)) u9000_ r2 ∧ Below w0.heap.size w0 w' ∧ Kept w w' (fun k_ => P0_ k_) := by
 have HO0 := Aside0.mk (show Kd.S k63 63 w w0.heap.size (fun k_ => (P0_ k_ ∨ w.heap.size ≤ k_)) u9000_ l0 from Kd.S_mono ho0 (fun k_ hk => (.inl hk)))
 have HK := Aside0.mk (Kept.refl w (fun k_ => P0_ k_))
 have HW0 := Aside0.mk hB.size
 have HB := Aside0.mk hB
 clear hB
 have H := h
 clear h
 unfold laws_markBookEntryS.f at H
 replace H := Aside0.mk H
 go_enter Tryd.func80, Tryd.ntmps80
 go_wp2
 go_loopg [1, 5] k (fun kq v1 v5 w' => ∃ (x0_1 : List (S63)) (x1_1 : Int) (x5_1 : Int), v1 = .int .i64 x1_1 ∧ v5 = .int .i64 x5_1 ∧ Aside0 (laws_markBookEntryS.l0 kq x0_1 x1_1 x5_1 = some (r1, r2)) ∧ Aside0 (kq ≤ k) ∧ Aside0 (Kd.S k63 63 w' w0.heap.size (fun k_ => (P0_ k_ ∨ w.heap.size ≤ k_)) u9000_ x0_1) ∧ Aside0 (Kept w w' (fun k_ => P0_ k_)) ∧ Aside0 (Below w0.heap.size w0 w'))
 case atStart => exact ⟨(l0), (a1), (0), ZZ0ab324, ZZ0ab324, H, ⟨Nat.le_refl _⟩, ⟨(zS HO0)⟩, ⟨ZZf0cf3f⟩, ⟨ZZ605003⟩⟩
 case round =>
  clear H
  obtain ⟨x0_1, x1_1, x5_1, rfl, rfl, HA, HK1, HO_0, HK, HB⟩ := hrel
  cases gk with
  | zero => exact absurd HA.out (by simp [laws_markBookEntryS.l0])
  | succ k1 =>
   have H := HA.out
   clear HA
   simp only [laws_markBookEntryS.l0] at H
   by_cases c3 : x5_1 < (x0_1.length : Int)
   ·rw [if_pos c3] at H
    have c3b0 := decide_eq_true c3
    clear c3
    obtain ⟨c4b0, H⟩ := ifYd H
    try rw [Option.bind_some] at H
    generalize hy470 : (x0_1.set (x5_1 : Int).toNat (⟨x1_1, (rd_T63 x0_1 x5_1).f1, (rd_T63 x0_1 x5_1).f2⟩ : S63) : List (S63)) = y470 at H
    have Ny470 := Aside0.mk hy470.symm
    clear hy470
    obtain ⟨t471, A6, H⟩ := bdY H
    try rw [Option.bind_some] at H
    generalize hy472 : (y470.set (x5_1 : Int).toNat (⟨(rd_T63 y470 x5_1).f0, t471, (rd_T63 y470 x5_1).f2⟩ : S63) : List (S63)) = y472 at H
    have Ny472 := Aside0.mk hy472.symm
    clear hy472
    obtain ⟨⟨t473, t474⟩, A8, H⟩ := bdY H
    try dsimp only at H
    replace H := Aside0.mk H
    obtain ⟨Ao9, co9, eo9⟩ := Kd.S_slice HO_0.out
    subst eo9
    have p5 : 0 ≤ (x5_1 : Int) := of_decide_eq_true ZZ853400
    have q5 : (x5_1 : Int) < ((x0_1.length : Int) : Int) := of_decide_eq_true ZZ853400
    obtain ⟨go5, co5, eo5, gb5, gl5, cl5, HG5⟩ := Kd.S_form HO_0.out (by omega)
    (first | cases eo5 | (injection eo5 with ea_ en_ ec_; (first | subst ea_ | (injection ea_ with ea_; subst ea_)); subst ec_; clear en_))
    have GB5 := Aside0.mk gb5
    have GG5 := Aside0.mk HG5
    clear gb5 gl5 HG5
    have HMgo5 := Aside0.mk (show (P0_ go5 ∨ w.heap.size ≤ go5) from ((Kd.S_R HO_0.out).1 _ rfl))
    obtain ⟨_, ce5, hcl5, hM5, hcc5, hfr5, _, _⟩ := Kd.S_elem HO_0.out z63 (x5_1 : Int) p5 q5
    obtain ⟨ve5_2, rfl, ge5_2⟩ := k63_openM hM5
    have hx5_0 : wr.cell? ⟨go5, (x5_1 : Int).toNat * 3, none⟩ = some (.int .i64 ((rd_T63 x0_1 x5_1).f0)) := hcc5 0 _ rfl
    have hx5_1 : wr.cell? ⟨go5, (x5_1 : Int).toNat * 3 + 1, none⟩ = some (.string ((rd_T63 x0_1 x5_1).f1)) := hcc5 1 _ rfl
    have hx5_2 : wr.cell? ⟨go5, (x5_1 : Int).toNat * 3 + 2, none⟩ = some (ve5_2) := hcc5 2 _ rfl
    have hf5_0 : wr.frozen? ⟨go5, (x5_1 : Int).toNat * 3, none⟩ = false := hfr5 0
    have hf5_1 : wr.frozen? ⟨go5, (x5_1 : Int).toNat * 3 + 1, none⟩ = false := hfr5 1
    have hf5_2 : wr.frozen? ⟨go5, (x5_1 : Int).toNat * 3 + 2, none⟩ = false := hfr5 2
    clear hcl5 hcc5 hfr5 hM5
    replace p5 := eq_true p5
    replace q5 := eq_true q5
    have HX10 := Aside0.mk (show Kd.S k63 63 wr w0.heap.size (fun k_ => ((fun k_ => (P0_ k_ ∨ w.heap.size ≤ k_))) k_ ∧ ¬ ((fun _ => False)) k_) (.slice (some ⟨go5, 0, none⟩) x0_1.length co9) x0_1 from (by refine bS ?_; exact Kd.S_mono HO_0.out (fun k_ hk => ⟨hk, fun e_ => e_⟩)))
    obtain ⟨oki10, ce10, hcl10, hM10, hcc10, hfr10, hoki10, hH10⟩ := Kd.S_elem HX10.out z63 (x5_1 : Int) (of_decide_eq_true ZZ853400) ZZ4c3d26
    obtain ⟨ve10_2, rfl, ge10_2⟩ := k63_openM hM10
    have HP10 := Kd.S_seg hH10 (of_decide_eq_true ZZ853400) ZZ4c3d26 (seg := [.int .i64 x1_1]) (j := 0) (show 1 ≤ 3 from by decide) (x' := (⟨x1_1, (rd_T63 x0_1 x5_1).f1, (rd_T63 x0_1 x5_1).f2⟩ : S63)) (k63_mkM _ _ _ (⟨x1_1, (rd_T63 x0_1 x5_1).f1, (rd_T63 x0_1 x5_1).f2⟩ : S63) (Kd.R_mono ge10_2 (fun _ h_ => Or.inl h_))) (fun _ hk => hk) (fun k_ hk_ => hk_.elim)
    have hx10_0 := hcc10 0 _ rfl
    (try simp only [show (k63).sz = 3 from rfl, Nat.mul_one, Nat.add_zero] at hx10_0)
    have hf10_0 := hfr10 0
    (try simp only [show (k63).sz = 3 from rfl, Nat.mul_one, Nat.add_zero] at hf10_0)
    clear hcl10 hcc10 hfr10 hM10 hoki10 hH10
    go_wp2_with (first | ((with_reducible refine gate_store (t := 3) (p := 16) rfl ?_); refine store_event (t := 3) (p := 16) (v := ?vo_w11) (w1 := (wr.setCell ⟨go5, (x5_1 : Int).toNat * 3, none⟩ (.int .i64 x1_1))) ?hg ?ho ?hn ?hr ?_; (case ho => rfl); (case hg => rfl); (case hn => rfl); (case hr => first | (go_simp; done) | (go_simp; rfl)); intro w11 hw; have hg : wr.grownBy w11 (some go5) := (by rw [hw]; exact HP10.2); have hp_ : Kd.S k63 63 w11 w0.heap.size (fun k_ => (P0_ k_ ∨ w.heap.size ≤ k_)) (.slice (some ⟨go5, 0, none⟩) x0_1.length co9) y470 := (by rw [hw, Ny470.out]; exact HP10.1); clear HP10; replace HB := Aside0.mk ((by rw [hw]; exact below_set (HB.out) GB5.out : Below w0.heap.size w0 w11)); replace HK := Aside0.mk (Kept.of_grown (S := (fun k_ => P0_ k_)) hg ZZf0cf3f (fun k_ e_ => ((Kd.S_R HO_0.out).1 k_ e_))); replace HO_0 := Aside0.mk (hp_); clear hg hw hp_) | (refine gc 22 Tryd.func112 #[.int .i64 (wrap64 (x1_1 + 1))] ?_; (with_reducible refine (laws_markText.calls k1 (wrap64 (x1_1 + 1)) t471 _ A6.out).mono ?_); rintro e w12 ⟨rfl, hb⟩; refine ⟨_, rfl, ?_⟩; replace HO_0 := Aside0.mk (Kd.S_below (zS HO_0) hb); replace HK := Aside0.mk (Kept.below (S := (fun k_ => P0_ k_)) ZZf0cf3f hb); replace HB := hB hb; (try clear hb); (try clear hb2); (try clear hk); (try clear hi); have p7 : 0 ≤ (x5_1 : Int) := of_decide_eq_true ZZ853400; have q7 : (x5_1 : Int) < ((x0_1.length : Int) : Int) := of_decide_eq_true ZZ853400; obtain ⟨_, ce7, hcl7, hM7, hcc7, hfr7, _, _⟩ := Kd.S_elem HO_0.out z63 (x5_1 : Int) p7 q7; obtain ⟨ve7_2, rfl, ge7_2⟩ := k63_openM hM7; have hx7_0 : w12.cell? ⟨go5, (x5_1 : Int).toNat * 3, none⟩ = some (.int .i64 ((rd_T63 y470 x5_1).f0)) := hcc7 0 _ rfl; have hx7_1 : w12.cell? ⟨go5, (x5_1 : Int).toNat * 3 + 1, none⟩ = some (.string ((rd_T63 y470 x5_1).f1)) := hcc7 1 _ rfl; have hx7_2 : w12.cell? ⟨go5, (x5_1 : Int).toNat * 3 + 2, none⟩ = some (ve7_2) := hcc7 2 _ rfl; have hf7_0 : w12.frozen? ⟨go5, (x5_1 : Int).toNat * 3, none⟩ = false := hfr7 0; have hf7_1 : w12.frozen? ⟨go5, (x5_1 : Int).toNat * 3 + 1, none⟩ = false := hfr7 1; have hf7_2 : w12.frozen? ⟨go5, (x5_1 : Int).toNat * 3 + 2, none⟩ = false := hfr7 2; clear hcl7 hcc7 hfr7 hM7; replace p7 := eq_true p7; replace q7 := eq_true q7; have HX13 := Aside0.mk (show Kd.S k63 63 w12 w0.heap.size (fun k_ => ((fun k_ => (P0_ k_ ∨ w.heap.size ≤ k_))) k_ ∧ ¬ ((fun _ => False)) k_) (.slice (some ⟨go5, 0, none⟩) x0_1.length co9) y470 from (by refine bS ?_; exact Kd.S_mono HO_0.out (fun k_ hk => ⟨hk, fun e_ => e_⟩))); obtain ⟨oki13, ce13, hcl13, hM13, hcc13, hfr13, hoki13, hH13⟩ := Kd.S_elem HX13.out z63 (x5_1 : Int) (of_decide_eq_true ZZ853400) ZZ4c3d26; obtain ⟨ve13_2, rfl, ge13_2⟩ := k63_openM hM13; have HP13 := Kd.S_seg hH13 (of_decide_eq_true ZZ853400) ZZ4c3d26 (seg := [.string t471]) (j := 1) (show 2 ≤ 3 from by decide) (x' := (⟨(rd_T63 y470 x5_1).f0, t471, (rd_T63 y470 x5_1).f2⟩ : S63)) (k63_mkM _ _ _ (⟨(rd_T63 y470 x5_1).f0, t471, (rd_T63 y470 x5_1).f2⟩ : S63) (Kd.R_mono ge13_2 (fun _ h_ => Or.inl h_))) (fun _ hk => hk) (fun k_ hk_ => hk_.elim); have hx13_1 := hcc13 1 _ rfl; (try simp only [show (k63).sz = 3 from rfl, Nat.mul_one, Nat.add_zero] at hx13_1); have hf13_1 := hfr13 1; (try simp only [show (k63).sz = 3 from rfl, Nat.mul_one, Nat.add_zero] at hf13_1); clear hcl13 hcc13 hfr13 hM13 hoki13 hH13) | ((with_reducible refine gate_store (t := 9) (p := 24) rfl ?_); refine store_event (t := 9) (p := 24) (v := ?vo_w14) (w1 := (w12.setCell ⟨go5, (x5_1 : Int).toNat * 3 + 1, none⟩ (.string t471))) ?hg ?ho ?hn ?hr ?_; (case ho => rfl); (case hg => rfl); (case hn => rfl); (case hr => first | (go_simp; done) | (go_simp; rfl)); intro w14 hw; have hg : w12.grownBy w14 (some go5) := (by rw [hw]; exact HP13.2); have hp_ : Kd.S k63 63 w14 w0.heap.size (fun k_ => (P0_ k_ ∨ w.heap.size ≤ k_)) (.slice (some ⟨go5, 0, none⟩) x0_1.length co9) y472 := (by rw [hw, Ny472.out]; exact HP13.1); clear HP13; replace HB := Aside0.mk ((by rw [hw]; exact below_set (HB.out) GB5.out : Below w0.heap.size w0 w14)); replace HK := Aside0.mk (Kept.of_grown (S := (fun k_ => P0_ k_)) hg ZZf0cf3f (fun k_ e_ => ((Kd.S_R HO_0.out).1 k_ e_))); replace HO_0 := Aside0.mk (hp_); clear hg hw hp_; obtain ⟨oki8_, ce8_, hcl8_, hM8_, hcc8_, hfr8_, hoki8_, hH8_⟩ := Kd.S_elem HO_0.out z63 (x5_1 : Int) (of_decide_eq_true ZZ853400) ZZ4c3d26; obtain ⟨ve8_2, rfl, ge8_2⟩ := k63_openM hM8_; have hx8_2 : w14.cell? ⟨go5, (x5_1 : Int).toNat * 3 + 2, none⟩ = some (ve8_2) := hcc8_ 2 _ rfl; clear hcl8_ hcc8_ hfr8_ hM8_) | (refine gc 33 Tryd.func86 #[ve8_2, .int .i64 (wrap64 ((wrap64 (x1_1 + 1)) + 1))] ?_; obtain ⟨qm_, Aq_, eq_⟩ := laws_markAt.open_ A8.out; (with_reducible refine (laws_markPostingS.calls k1 oki8_ ve8_2 ((rd_T63 y472 x5_1).f2) (wrap64 ((wrap64 (x1_1 + 1)) + 1)) t473 qm_ w0 _ ?side1 ge8_2 Aq_).mono ?_); (case side1 => exact bw); rintro e w15 ⟨rfl, hy0, hb, hkp⟩; refine ⟨_, rfl, ?_⟩; replace HO_0 := Aside0.mk (show Kd.S k63 63 w15 w0.heap.size (fun k_ => (P0_ k_ ∨ w.heap.size ≤ k_)) (.slice (some ⟨go5, 0, none⟩) x0_1.length co9) t474 from (by rw [eq_]; exact Kd.H_back (Kd.H_kept hH8_ hkp (fun k_ _ hn_ hs_ => hn_ hs_)) (k63_mkM _ _ _ (⟨(rd_T63 y472 x5_1).f0, (rd_T63 y472 x5_1).f1, qm_⟩ : S63) (Kd.R_mono (Kd.R_tight rfl hy0) (fun k_ hk_ => ge8_2.1 k_ hk_.symm))) (fun _ h_ => h_))); replace HK := Aside0.mk (Kept.then_ (S := (fun k_ => P0_ k_)) ZZf0cf3f hkp (fun k_ hs_ => (hoki8_ k_ hs_).1)); replace HB := Aside0.mk (hb); (try clear hb); (try clear hkp); (try clear hy0)))
    go_roundg k1
    case measure => have := HK1.out; omega
    case rel => exact ⟨(t474), (t473), (wrap64 (x5_1 + 1)), ZZ0ab324, ZZ0ab324, H, kle, ⟨(zS HO_0)⟩, ⟨ZZf0cf3f⟩, ⟨ZZ605003⟩⟩
   rw [if_neg c3] at H
   have c3b0 := decide_eq_false c3
   clear c3
   simp only [Option.some.injEq, Prod.mk.injEq] at H
   obtain ⟨rfl, rfl⟩ := H
   obtain ⟨Ao17, co17, eo17⟩ := Kd.S_slice HO_0.out
   subst eo17
   go_wp2
   go_ret
   exact ⟨ZZab01d2, (zS HO_0), ZZ605003, ZZf0cf3f⟩
def laws_markLedger.f (k : Nat) (l0_0 : List (S48)) (l0_1 : List (S63)) (a1 : Int) : Option (Int × (List (S48)) × (List (S63))) := (laws_markAccountS.f k l0_0 a1).bind fun bt476 => ((laws_markBookEntryS.f k l0_1 bt476.1).bind fun bt478 => (some (bt478.1, bt476.2, bt478.2)))
theorem laws_markLedger.mono : ∀ a0 a1 a2 k, LeO (laws_markLedger.f k a0 a1 a2) (laws_markLedger.f (k + 1) a0 a1 a2) := by
 intro a0 a1 a2 k
 unfold laws_markLedger.f
 repeat' with_reducible first | apply laws_markAccountS.mono | apply laws_markBookEntryS.mono | exact LeO.refl _ | exact LeO.none _ | refine LeO.ite ?_ ?_ | refine LeO.bind ?_ (fun _ => ?_)
set_option maxHeartbeats 8000000 in
set_option maxRecDepth 100000 in
theorem laws_markLedger.calls (k : Nat) (P0_0_ : Nat → Prop) (u9000_ : Value) (l0_0 : List (S48)) (P0_1_ : Nat → Prop) (u9001_ : Value) (l0_1 : List (S63)) (a1 : Int) (r1 : Int) (r2 : List (S48)) (r3 : List (S63)) (w0 w : World) (hB : Below w0.heap.size w0 w) (ho0_0 : Kd.R k48 48 w w0.heap.size P0_0_ u9000_ l0_0) (ho0_1 : Kd.S k63 63 w w0.heap.size P0_1_ u9001_ l0_1) (h : laws_markLedger.f k l0_0 l0_1 a1 = some (r1, r2, r3)) :
 Calls Tryd.prog 31 #[.agg #[u9000_, u9001_], .int .i64 a1] w fun e w' => e = .returned (.int .i64 r1) ∧ Kd.R k48 48 w' w0.heap.size (fun k_ => ((P0_0_ k_ ∨ P0_1_ k_) ∨ w.heap.size ≤ k_)) u9000_ r2 ∧ Kd.S k63 63 w' w0.heap.size (fun k_ => ((P0_0_ k_ ∨ P0_1_ k_) ∨ w.heap.size ≤ k_)) u9001_ r3 ∧ Below w0.heap.size w0 w' ∧ Kept w w' (fun k_ => P0_0_ k_ ∨ P0_1_ k_) := by
 have hu31 := Tryd.underlying31
 have HO0_0 := Aside0.mk (show Kd.R k48 48 w w0.heap.size (fun k_ => ((P0_0_ k_ ∨ P0_1_ k_) ∨ w.heap.size ≤ k_)) u9000_ l0_0 from Kd.R_mono ho0_0 (fun k_ hk => (.inl (.inl hk))))
 have HO0_1 := Aside0.mk (show Kd.S k63 63 w w0.heap.size (fun k_ => ((P0_0_ k_ ∨ P0_1_ k_) ∨ w.heap.size ≤ k_)) u9001_ l0_1 from Kd.S_mono ho0_1 (fun k_ hk => (.inl (.inr hk))))
 have HK := Aside0.mk (Kept.refl w (fun k_ => P0_0_ k_ ∨ P0_1_ k_))
 have HW0 := Aside0.mk hB.size
 have HB := Aside0.mk hB
 clear hB
 have H := h
 clear h
 unfold laws_markLedger.f at H
 obtain ⟨⟨t476, t477⟩, A3, H⟩ := bdY H
 try dsimp only at H
 obtain ⟨⟨t478, t479⟩, A4, H⟩ := bdY H
 try dsimp only at H
 simp only [Option.some.injEq, Prod.mk.injEq] at H
 obtain ⟨rfl, rfl, rfl⟩ := H
 obtain ⟨Ao5, co5, eo5⟩ := Kd.R_slice HO0_0.out
 subst eo5
 obtain ⟨Ao6, co6, eo6⟩ := Kd.S_slice HO0_1.out
 subst eo6
 go_enter Tryd.func31, Tryd.ntmps31
 go_wp2_with (first | ((with_reducible refine gate_dst (N := 2) rfl ?_); refine bx 2 (cs := #[.slice Ao5 l0_0.length co5, .slice Ao6 l0_1.length co6]) (t := 31) ?_; intro gb475 hg w7 hbox hb; replace HO0_0 := Aside0.mk (Kd.R_below (zR HO0_0) hb); replace HO0_1 := Aside0.mk (Kd.S_below (zS HO0_1) hb); have BK475 := Aside0.mk (hbox); have GW475 := Aside0.mk ((by rw [hg]; exact (by first | exact HK.out.1 | exact (show Kept w _ (fun k_ => P0_0_ k_ ∨ P0_1_ k_) from by repeat (first | (with_reducible first | exact HK.out | apply Kept.alloc | apply Kept.drewN | apply Kept.drew) | exact HK.out)).1) : w.heap.size ≤ gb475)); replace HK := Aside0.mk (Kept.below (S := (fun k_ => P0_0_ k_ ∨ P0_1_ k_)) ZZf0cf3f hb); have GE475 := Aside0.mk ((by rw [hg]; exact (below_size ZZ605003) : w0.heap.size ≤ gb475)); replace HB := hB hb; clear hb hbox hg; obtain ⟨hcz8_0, hcz8_1, hfz8_0, hfz8_1⟩ := z2 BK475) | (refine gc 8 Tryd.func79 #[.slice Ao5 l0_0.length co5, .int .i64 a1] ?_; (with_reducible refine (laws_markAccountS.calls k (fun k_ => some k_ = (.slice Ao5 l0_0.length co5 : Value).ownBlock) (.slice Ao5 l0_0.length co5) l0_0 a1 t476 t477 w0 _ ?side1 ?side2 A3.out).mono ?_); (case side1 => exact bw); (case side2 => exact Kd.R_tight rfl HO0_0.out); rintro e w9 ⟨rfl, hy0, hb, hkp⟩; refine ⟨_, rfl, ?_⟩; replace HO0_1 := Aside0.mk (Kd.S_mono (ok' := fun k_ => ((P0_0_ k_ ∨ P0_1_ k_) ∨ w.heap.size ≤ k_)) (Kd.S_keptB ((Kd.S_apart' HO0_1.out (Kd.R_typed HO0_0.out) (by decide))) hkp (fun k_ hk_ hs_ => (hk_.2) hs_)) (fun k_ hk_ => hk_.1.1)); replace BK475 := Aside0.mk (blk_kept (zB BK475) hkp (fun hs_ => (fun e_ => (Kd.R_ne HO0_0.out BK475.out (by decide)) e_) hs_)); replace HK := Aside0.mk (Kept.then_ (S := (fun k_ => P0_0_ k_ ∨ P0_1_ k_)) ZZff9b89 hkp (fun k_ hs_ => (fun e_ => (HO0_0.out.1 k_ e_.symm)) hs_)); replace HO0_0 := Aside0.mk (Kd.R_reok rfl hy0 (fun k_ e_ => HO0_0.out.1 k_ e_)); replace HB := Aside0.mk (hb); (try clear hb); (try clear hkp); (try clear hy0); obtain ⟨hcz10_0, hcz10_1, hfz10_0, hfz10_1⟩ := z2 BK475) | (refine gc 12 Tryd.func80 #[.slice Ao6 l0_1.length co6, .int .i64 t476] ?_; (with_reducible refine (laws_markBookEntryS.calls k ?P0_0_1 (.slice Ao6 l0_1.length co6) l0_1 t476 t478 t479 w0 _ ?side1 ?side2 A4.out).mono ?_); (case side1 => exact bw); (case side2 => exact Kd.S_bound HO0_1.out); rintro e w11 ⟨rfl, hy0, hb, hkp⟩; refine ⟨_, rfl, ?_⟩; obtain ⟨ga12, hga12⟩ := Kd.agek hkp; replace HO0_0 := Aside0.mk (Kd.R_mono (ok' := fun k_ => ((P0_0_ k_ ∨ P0_1_ k_) ∨ w.heap.size ≤ k_)) (Kd.R_keptB ((Kd.R_bound HO0_0.out)) hkp (fun k_ hk_ hs_ => (fun e_ => Kd.typed_ne (hk_.2).2.2 e_.2.2.2 (by decide)) hs_)) (fun k_ hk_ => hk_.1.1)); replace HO0_1 := Aside0.mk (Kd.S_mono (ok' := fun k_ => ((P0_0_ k_ ∨ P0_1_ k_) ∨ w.heap.size ≤ k_)) (Kd.S_bound hy0) (fun k_ hk_ => Or.elim hk_.1 (fun hs_ => (fun h_ => h_.1) hs_) (fun hn_ => (.inr (Nat.le_trans (by first | exact HK.out.1 | exact (show Kept w _ (fun k_ => P0_0_ k_ ∨ P0_1_ k_) from by repeat (first | (with_reducible first | exact HK.out | apply Kept.alloc | apply Kept.drewN | apply Kept.drew | refine Kept.setCell ?_ (.inr GW475.out) _) | exact HK.out)).1) hn_))))); replace BK475 := Aside0.mk (blk_kept (zB BK475) hkp (fun hs_ => (fun e_ => Kd.typed_box e_.2.2.2 (zB BK475) (by decide)) hs_)); replace HK := Aside0.mk (Kept.then_ (S := (fun k_ => P0_0_ k_ ∨ P0_1_ k_)) ZZff9b89 hkp (fun k_ hs_ => (fun e_ => e_.1) hs_)); replace HB := Aside0.mk (hb); (try clear hb); (try clear hkp); (try clear hy0)))
 go_ret
 exact ⟨ZZab01d2, (zR HO0_0), (zS HO0_1), ZZ295621, ZZff9b89⟩
def laws_heldAccountS.l0 : Nat → List (S48) → Int → Int → Option (Int)
 | 0, _, _, _ => none
 | k + 1, x0, x1, x5 => if x5 < (x0.length : Int) then (if 0 ≤ x5 then ((laws_markText.f k x1).bind fun t481 => (if ((rd_T48 x0 x5).f0).toList = t481.toList then (if ((rd_T48 x0 x5).f1) = (wrap64 (x1 + 1)) then (laws_heldAccountS.l0 k x0 (wrap64 ((wrap64 (x1 + 1)) + 1)) (wrap64 (x5 + 1))) else (some (-1))) else (some (-1)))) else (none)) else (some x1)
def laws_heldAccountS.f (k : Nat) (l0 : List (S48)) (a1 : Int) : Option (Int) := laws_heldAccountS.l0 k l0 a1 0
theorem laws_heldAccountS.mono_l : ∀ k, (∀ y0 y1 y2, LeO (laws_heldAccountS.l0 k y0 y1 y2) (laws_heldAccountS.l0 (k + 1) y0 y1 y2))
 | 0 => fun _ _ _ r h => by simp [laws_heldAccountS.l0] at h
 | k + 1 => by
  have ih0 := laws_heldAccountS.mono_l k
  ·intro y0 y1 y2
   unfold laws_heldAccountS.l0
   repeat' with_reducible first | apply ih0 | apply laws_markText.mono | exact LeO.refl _ | exact LeO.none _ | refine LeO.ite ?_ ?_ | refine LeO.bind ?_ (fun _ => ?_)
theorem laws_heldAccountS.mono : ∀ a0 a1 k, LeO (laws_heldAccountS.f k a0 a1) (laws_heldAccountS.f (k + 1) a0 a1) := by
 intro a0 a1 k
 have ih0 := laws_heldAccountS.mono_l k
 unfold laws_heldAccountS.f
 repeat' with_reducible first | apply ih0 | apply laws_markText.mono | exact LeO.refl _ | exact LeO.none _ | refine LeO.ite ?_ ?_ | refine LeO.bind ?_ (fun _ => ?_)
def laws_heldAccountS.T4 : Bool × List (List Nat × List Nat) := (true, [([], []), ([], []), ([0, 1], [0, 1]), ([2], [2]), ([3], [3]), ([], []), ([5], [5]), ([4, 6], [4, 6])])
def laws_heldAccountS.B4 : List Nat := [0, 0, 3, 7, 15, 0, 32, 127]
theorem laws_heldAccountS.tab4 : rtab .any (opsOf Tryd.f87 4) = laws_heldAccountS.T4 := by kernel_rfl
theorem laws_heldAccountS.bits4 : waitsOk laws_heldAccountS.T4.2 laws_heldAccountS.B4 = true := by kernel_rfl
set_option maxHeartbeats 8000000 in
set_option maxRecDepth 100000 in
theorem laws_heldAccountS.calls (k : Nat) (A0 : Option Addr) (c0 : Nat) (l0 : List (S48)) (a1 : Int) (r : Int) (w : World) (hr0 : Kd.C k48 w A0 l0.length l0) (hc0 : l0.length ≤ c0) (h : laws_heldAccountS.f k l0 a1 = some r) :
 Calls Tryd.prog 87 #[.slice A0 l0.length c0, .int .i64 a1] w fun e w' => e = .returned (.int .i64 r) ∧ Below w.heap.size w w' := by
 have HR0 := Aside0.mk hr0
 have HC0 := Aside0.mk hc0
 clear hr0 hc0
 have HB := Aside0.mk (Below.refl w.heap.size w)
 have H := h
 clear h
 unfold laws_heldAccountS.f at H
 replace H := Aside0.mk H
 go_enter Tryd.func87, Tryd.ntmps87
 go_wp2
 go_loopg [1, 5] k (fun kq v1 v5 w' => ∃ (x1_1 : Int) (x5_1 : Int), v1 = .int .i64 x1_1 ∧ v5 = .int .i64 x5_1 ∧ Aside0 (laws_heldAccountS.l0 kq l0 x1_1 x5_1 = some r) ∧ Aside0 (kq ≤ k) ∧ Aside0 (Below w.heap.size w w'))
 case atStart => exact ⟨(a1), (0), ZZ0ab324, ZZ0ab324, H, ⟨Nat.le_refl _⟩, ⟨ZZ605003⟩⟩
 case round =>
  clear H
  obtain ⟨x1_1, x5_1, rfl, rfl, HA, HK1, HB⟩ := hrel
  cases gk with
  | zero => exact absurd HA.out (by simp [laws_heldAccountS.l0])
  | succ k1 =>
   have H := HA.out
   clear HA
   simp only [laws_heldAccountS.l0] at H
   by_cases c3 : x5_1 < (l0.length : Int)
   ·rw [if_pos c3] at H
    have c3b0 := decide_eq_true c3
    clear c3
    obtain ⟨c4b0, H⟩ := ifYd H
    obtain ⟨t481, A5, H⟩ := bdY H
    by_cases c6 : ((rd_T48 l0 x5_1).f0).toList = t481.toList
    ·rw [if_pos c6] at H
     have c6b0 := beq_iff_eq.mpr c6
     have c6b1 := bne_eq_false_iff_eq.mpr c6
     clear c6
     by_cases c7 : ((rd_T48 l0 x5_1).f1) = (wrap64 (x1_1 + 1))
     ·rw [if_pos c7] at H
      have c7b0 := beq_iff_eq.mpr c7
      have c7b1 := bne_eq_false_iff_eq.mpr c7
      clear c7
      replace H := Aside0.mk H
      try go_wp2
      replace HB := Aside0.mk (below_drew1 HB.out)
      have p480 : 0 ≤ (x5_1 : Int) := of_decide_eq_true ZZ853400
      have q480 : x5_1 < (l0.length : Int) := of_decide_eq_true ZZ853400
      obtain ⟨ad480, e480, hx480_0, hx480_1⟩ := at_T48 HR0.out x5_1 p480 q480
      have hw480_1 := hx480_1
      have hw480_0 := hx480_0
      cases e480
      replace hx480_0 := (HB.out.cell (World.block_lt_of_cell? w _ hx480_0)).trans hx480_0
      replace hx480_1 := (HB.out.cell (World.block_lt_of_cell? w _ hx480_1)).trans hx480_1
      replace p480 := eq_true p480
      replace q480 := eq_true q480
      refine st 8 (S := fun w' => w'.cell? (ad480.add ((x5_1).toNat * 2)) = some (.string ((rd_T48 l0 x5_1).f0)) ∧ w'.cell? ⟨(ad480.add ((x5_1).toNat * 2)).block, (ad480.add ((x5_1).toNat * 2)).off + 1, none⟩ = some (.int .i64 ((rd_T48 l0 x5_1).f1))) laws_heldAccountS.tab4 laws_heldAccountS.bits4 zK (fun hHeld HT_ HW_ => ?_)
      generalize wr.drew = w8 at HB hx480_0 hx480_1 hHeld ⊢
      refine pu 0 12 ?_
      refine pu 1 13 ?_
      refine pu 2 14 ?_
      refine pu 3 15 ?_
      refine pu 5 17 ?_
      refine tk 4 16 ?_
      refine on1 6 18 Tryd.func112 #[.int .i64 x1_1] (laws_markText.calls k1 x1_1 t481 _ A5.out) ?_
      rintro w9 hb
      replace HB := hB hb
      (try clear hb)
      (try clear hb2)
      (try clear hk)
      (try clear hi)
      refine ⟨zK, fun hHeld => ?_⟩
      refine pu 7 19 ?_
      refine done_ (done_of HT_.out (by kernel_rfl)) ?_
      have p482 : 0 ≤ (x5_1 : Int) := of_decide_eq_true ZZ853400
      have q482 : x5_1 < (l0.length : Int) := of_decide_eq_true ZZ853400
      obtain ⟨ad482, e482, hx482_0, hx482_1⟩ := at_T48 HR0.out x5_1 p482 q482
      obtain rfl : ad480 = ad482 := (by injection e482)
      replace hx482_0 := (HB.out.cell (World.block_lt_of_cell? w _ hx482_0)).trans hx482_0
      replace hx482_1 := (HB.out.cell (World.block_lt_of_cell? w _ hx482_1)).trans hx482_1
      replace p482 := eq_true p482
      replace q482 := eq_true q482
      try go_wp2
      go_roundg k1
      case measure => have := HK1.out; omega
      case rel => exact ⟨(wrap64 ((wrap64 (x1_1 + 1)) + 1)), (wrap64 (x5_1 + 1)), ZZ0ab324, ZZ0ab324, H, kle, ⟨ZZ605003⟩⟩
     rw [if_neg c7] at H
     have c7b0 := beq_eq_false_iff_ne.mpr c7
     have c7b1 := bne_iff_ne.mpr c7
     obtain rfl := Option.some.inj H
     try go_wp2
     replace HB := Aside0.mk (below_drew1 HB.out)
     have p480 : 0 ≤ (x5_1 : Int) := of_decide_eq_true ZZ853400
     have q480 : x5_1 < (l0.length : Int) := of_decide_eq_true ZZ853400
     obtain ⟨ad480, e480, hx480_0, hx480_1⟩ := at_T48 HR0.out x5_1 p480 q480
     have hw480_1 := hx480_1
     have hw480_0 := hx480_0
     cases e480
     replace hx480_0 := (HB.out.cell (World.block_lt_of_cell? w _ hx480_0)).trans hx480_0
     replace hx480_1 := (HB.out.cell (World.block_lt_of_cell? w _ hx480_1)).trans hx480_1
     replace p480 := eq_true p480
     replace q480 := eq_true q480
     refine st 8 (S := fun w' => w'.cell? (ad480.add ((x5_1).toNat * 2)) = some (.string ((rd_T48 l0 x5_1).f0)) ∧ w'.cell? ⟨(ad480.add ((x5_1).toNat * 2)).block, (ad480.add ((x5_1).toNat * 2)).off + 1, none⟩ = some (.int .i64 ((rd_T48 l0 x5_1).f1))) laws_heldAccountS.tab4 laws_heldAccountS.bits4 zK (fun hHeld HT_ HW_ => ?_)
     generalize wr.drew = w10 at HB hx480_0 hx480_1 hHeld ⊢
     refine pu 0 12 ?_
     refine pu 1 13 ?_
     refine pu 2 14 ?_
     refine pu 3 15 ?_
     refine pu 5 17 ?_
     refine tk 4 16 ?_
     refine on1 6 18 Tryd.func112 #[.int .i64 x1_1] (laws_markText.calls k1 x1_1 t481 _ A5.out) ?_
     rintro w11 hb
     replace HB := hB hb
     (try clear hb)
     (try clear hb2)
     (try clear hk)
     (try clear hi)
     refine ⟨zK, fun hHeld => ?_⟩
     refine pu 7 19 ?_
     refine done_ (done_of HT_.out (by kernel_rfl)) ?_
     have p482 : 0 ≤ (x5_1 : Int) := of_decide_eq_true ZZ853400
     have q482 : x5_1 < (l0.length : Int) := of_decide_eq_true ZZ853400
     obtain ⟨ad482, e482, hx482_0, hx482_1⟩ := at_T48 HR0.out x5_1 p482 q482
     obtain rfl : ad480 = ad482 := (by injection e482)
     replace hx482_0 := (HB.out.cell (World.block_lt_of_cell? w _ hx482_0)).trans hx482_0
     replace hx482_1 := (HB.out.cell (World.block_lt_of_cell? w _ hx482_1)).trans hx482_1
     replace p482 := eq_true p482
     replace q482 := eq_true q482
     try go_wp2
     go_ret
     exact ⟨ZZab01d2, ZZ605003⟩
    rw [if_neg c6] at H
    have c6b0 := beq_eq_false_iff_ne.mpr c6
    have c6b1 := bne_iff_ne.mpr c6
    obtain rfl := Option.some.inj H
    try go_wp2
    replace HB := Aside0.mk (below_drew1 HB.out)
    have p480 : 0 ≤ (x5_1 : Int) := of_decide_eq_true ZZ853400
    have q480 : x5_1 < (l0.length : Int) := of_decide_eq_true ZZ853400
    obtain ⟨ad480, e480, hx480_0, hx480_1⟩ := at_T48 HR0.out x5_1 p480 q480
    have hw480_1 := hx480_1
    have hw480_0 := hx480_0
    cases e480
    replace hx480_0 := (HB.out.cell (World.block_lt_of_cell? w _ hx480_0)).trans hx480_0
    replace hx480_1 := (HB.out.cell (World.block_lt_of_cell? w _ hx480_1)).trans hx480_1
    replace p480 := eq_true p480
    replace q480 := eq_true q480
    refine st 8 (S := fun w' => w'.cell? (ad480.add ((x5_1).toNat * 2)) = some (.string ((rd_T48 l0 x5_1).f0)) ∧ w'.cell? ⟨(ad480.add ((x5_1).toNat * 2)).block, (ad480.add ((x5_1).toNat * 2)).off + 1, none⟩ = some (.int .i64 ((rd_T48 l0 x5_1).f1))) laws_heldAccountS.tab4 laws_heldAccountS.bits4 zK (fun hHeld HT_ HW_ => ?_)
    generalize wr.drew = w12 at HB hx480_0 hx480_1 hHeld ⊢
    refine pu 0 12 ?_
    refine pu 1 13 ?_
    refine pu 2 14 ?_
    refine pu 3 15 ?_
    refine pu 5 17 ?_
    refine tk 4 16 ?_
    refine on1 6 18 Tryd.func112 #[.int .i64 x1_1] (laws_markText.calls k1 x1_1 t481 _ A5.out) ?_
    rintro w13 hb
    replace HB := hB hb
    (try clear hb)
    (try clear hb2)
    (try clear hk)
    (try clear hi)
    refine ⟨zK, fun hHeld => ?_⟩
    refine pu 7 19 ?_
    refine done_ (done_of HT_.out (by kernel_rfl)) ?_
    try go_wp2
    go_ret
    exact ⟨ZZab01d2, ZZ605003⟩
   rw [if_neg c3] at H
   have c3b0 := decide_eq_false c3
   clear c3
   obtain rfl := Option.some.inj H
   go_wp2
   go_ret
   exact ⟨ZZab01d2, ZZ605003⟩
def laws_heldPostingS.l0 : Nat → List (S70) → Int → Int → Option (Int)
 | 0, _, _, _ => none
 | k + 1, x0, x1, x5 => if x5 < (x0.length : Int) then (if 0 ≤ x5 then (if ((rd_T70 x0 x5).f0) = x1 then (if ((rd_T70 x0 x5).f1) = (wrap64 (x1 + 1)) then (laws_heldPostingS.l0 k x0 (wrap64 ((wrap64 (x1 + 1)) + 1)) (wrap64 (x5 + 1))) else (some (-1))) else (some (-1))) else (none)) else (some x1)
def laws_heldPostingS.f (k : Nat) (l0 : List (S70)) (a1 : Int) : Option (Int) := laws_heldPostingS.l0 k l0 a1 0
theorem laws_heldPostingS.mono_l : ∀ k, (∀ y0 y1 y2, LeO (laws_heldPostingS.l0 k y0 y1 y2) (laws_heldPostingS.l0 (k + 1) y0 y1 y2))
 | 0 => fun _ _ _ r h => by simp [laws_heldPostingS.l0] at h
 | k + 1 => by
  have ih0 := laws_heldPostingS.mono_l k
  ·intro y0 y1 y2
   unfold laws_heldPostingS.l0
   repeat' with_reducible first | apply ih0 | exact LeO.refl _ | exact LeO.none _ | refine LeO.ite ?_ ?_ | refine LeO.bind ?_ (fun _ => ?_)
theorem laws_heldPostingS.mono : ∀ a0 a1 k, LeO (laws_heldPostingS.f k a0 a1) (laws_heldPostingS.f (k + 1) a0 a1) := by
 intro a0 a1 k
 have ih0 := laws_heldPostingS.mono_l k
 unfold laws_heldPostingS.f
 repeat' with_reducible first | apply ih0 | exact LeO.refl _ | exact LeO.none _ | refine LeO.ite ?_ ?_ | refine LeO.bind ?_ (fun _ => ?_)
set_option maxHeartbeats 8000000 in
set_option maxRecDepth 100000 in
theorem laws_heldPostingS.calls (k : Nat) (A0 : Option Addr) (c0 : Nat) (l0 : List (S70)) (a1 : Int) (r : Int) (w : World) (hr0 : Kd.C k70 w A0 l0.length l0) (hc0 : l0.length ≤ c0) (h : laws_heldPostingS.f k l0 a1 = some r) :
 Calls Tryd.prog 115 #[.slice A0 l0.length c0, .int .i64 a1] w fun e w' => e = .returned (.int .i64 r) ∧ Drawn0 w w' := by
 have HR0 := Aside0.mk hr0
 have HC0 := Aside0.mk hc0
 clear hr0 hc0
 have H := h
 clear h
 unfold laws_heldPostingS.f at H
 replace H := Aside0.mk H
 go_enter Tryd.func115, Tryd.ntmps115
 go_wp2
 go_loopg [1, 5] k (fun kq v1 v5 w' => ∃ (x1_1 : Int) (x5_1 : Int), v1 = .int .i64 x1_1 ∧ v5 = .int .i64 x5_1 ∧ Aside0 (laws_heldPostingS.l0 kq l0 x1_1 x5_1 = some r) ∧ Aside0 (kq ≤ k) ∧ Drawn0 w w')
 case atStart => exact ⟨(a1), (0), ZZ0ab324, ZZ0ab324, H, ⟨Nat.le_refl _⟩, ZZ965307⟩
 case round =>
  clear H
  obtain ⟨x1_1, x5_1, rfl, rfl, HA, HK1, ⟨m1, rfl⟩⟩ := hrel
  cases gk with
  | zero => exact absurd HA.out (by simp [laws_heldPostingS.l0])
  | succ k1 =>
   have H := HA.out
   clear HA
   simp only [laws_heldPostingS.l0] at H
   by_cases c3 : x5_1 < (l0.length : Int)
   ·rw [if_pos c3] at H
    have c3b0 := decide_eq_true c3
    clear c3
    obtain ⟨c4b0, H⟩ := ifYd H
    by_cases c5 : ((rd_T70 l0 x5_1).f0) = x1_1
    ·rw [if_pos c5] at H
     have c5b0 := beq_iff_eq.mpr c5
     have c5b1 := bne_eq_false_iff_eq.mpr c5
     clear c5
     by_cases c6 : ((rd_T70 l0 x5_1).f1) = (wrap64 (x1_1 + 1))
     ·rw [if_pos c6] at H
      have c6b0 := beq_iff_eq.mpr c6
      have c6b1 := bne_eq_false_iff_eq.mpr c6
      clear c6
      replace H := Aside0.mk H
      have p483 : 0 ≤ (x5_1 : Int) := of_decide_eq_true ZZ853400
      have q483 : x5_1 < (l0.length : Int) := of_decide_eq_true ZZ853400
      obtain ⟨ad483, e483, hx483_0, hx483_1⟩ := at_T70 HR0.out x5_1 p483 q483
      cases e483
      replace p483 := eq_true p483
      replace q483 := eq_true q483
      have p484 : 0 ≤ (x5_1 : Int) := of_decide_eq_true ZZ853400
      have q484 : x5_1 < (l0.length : Int) := of_decide_eq_true ZZ853400
      obtain ⟨ad484, e484, hx484_0, hx484_1⟩ := at_T70 HR0.out x5_1 p484 q484
      obtain rfl : ad483 = ad484 := (by injection e484)
      replace p484 := eq_true p484
      replace q484 := eq_true q484
      go_wp2
      go_roundg k1
      case measure => have := HK1.out; omega
      case rel => exact ⟨(wrap64 ((wrap64 (x1_1 + 1)) + 1)), (wrap64 (x5_1 + 1)), ZZ0ab324, ZZ0ab324, H, kle, ZZ965307⟩
     rw [if_neg c6] at H
     have c6b0 := beq_eq_false_iff_ne.mpr c6
     have c6b1 := bne_iff_ne.mpr c6
     obtain rfl := Option.some.inj H
     have p483 : 0 ≤ (x5_1 : Int) := of_decide_eq_true ZZ853400
     have q483 : x5_1 < (l0.length : Int) := of_decide_eq_true ZZ853400
     obtain ⟨ad483, e483, hx483_0, hx483_1⟩ := at_T70 HR0.out x5_1 p483 q483
     cases e483
     replace p483 := eq_true p483
     replace q483 := eq_true q483
     have p484 : 0 ≤ (x5_1 : Int) := of_decide_eq_true ZZ853400
     have q484 : x5_1 < (l0.length : Int) := of_decide_eq_true ZZ853400
     obtain ⟨ad484, e484, hx484_0, hx484_1⟩ := at_T70 HR0.out x5_1 p484 q484
     obtain rfl : ad483 = ad484 := (by injection e484)
     replace p484 := eq_true p484
     replace q484 := eq_true q484
     go_wp2
     go_ret
     exact ⟨ZZ0ab324, ZZ965307⟩
    rw [if_neg c5] at H
    have c5b0 := beq_eq_false_iff_ne.mpr c5
    have c5b1 := bne_iff_ne.mpr c5
    obtain rfl := Option.some.inj H
    have p483 : 0 ≤ (x5_1 : Int) := of_decide_eq_true ZZ853400
    have q483 : x5_1 < (l0.length : Int) := of_decide_eq_true ZZ853400
    obtain ⟨ad483, e483, hx483_0, hx483_1⟩ := at_T70 HR0.out x5_1 p483 q483
    cases e483
    replace p483 := eq_true p483
    replace q483 := eq_true q483
    go_wp2
    go_ret
    exact ⟨ZZ0ab324, ZZ965307⟩
   rw [if_neg c3] at H
   have c3b0 := decide_eq_false c3
   clear c3
   obtain rfl := Option.some.inj H
   go_wp2
   go_ret
   exact ⟨ZZ0ab324, ZZ965307⟩
def laws_heldBookEntryS.l0 : Nat → List (S63) → Int → Int → Option (Int)
 | 0, _, _, _ => none
 | k + 1, x0, x1, x5 => if x5 < (x0.length : Int) then (if 0 ≤ x5 then (if ((rd_T63 x0 x5).f0) = x1 then ((laws_markText.f k (wrap64 (x1 + 1))).bind fun t487 => (if ((rd_T63 x0 x5).f1).toList = t487.toList then ((laws_heldPostingS.f k ((rd_T63 x0 x5).f2) (wrap64 ((wrap64 (x1 + 1)) + 1))).bind fun t489 => (if t489 < 0 then (some (-1)) else (laws_heldBookEntryS.l0 k x0 t489 (wrap64 (x5 + 1))))) else (some (-1)))) else (some (-1))) else (none)) else (some x1)
def laws_heldBookEntryS.f (k : Nat) (l0 : List (S63)) (a1 : Int) : Option (Int) := laws_heldBookEntryS.l0 k l0 a1 0
theorem laws_heldBookEntryS.mono_l : ∀ k, (∀ y0 y1 y2, LeO (laws_heldBookEntryS.l0 k y0 y1 y2) (laws_heldBookEntryS.l0 (k + 1) y0 y1 y2))
 | 0 => fun _ _ _ r h => by simp [laws_heldBookEntryS.l0] at h
 | k + 1 => by
  have ih0 := laws_heldBookEntryS.mono_l k
  ·intro y0 y1 y2
   unfold laws_heldBookEntryS.l0
   repeat' with_reducible first | apply ih0 | apply laws_heldPostingS.mono | apply laws_markText.mono | exact LeO.refl _ | exact LeO.none _ | refine LeO.ite ?_ ?_ | refine LeO.bind ?_ (fun _ => ?_)
theorem laws_heldBookEntryS.mono : ∀ a0 a1 k, LeO (laws_heldBookEntryS.f k a0 a1) (laws_heldBookEntryS.f (k + 1) a0 a1) := by
 intro a0 a1 k
 have ih0 := laws_heldBookEntryS.mono_l k
 unfold laws_heldBookEntryS.f
 repeat' with_reducible first | apply ih0 | apply laws_heldPostingS.mono | apply laws_markText.mono | exact LeO.refl _ | exact LeO.none _ | refine LeO.ite ?_ ?_ | refine LeO.bind ?_ (fun _ => ?_)
def laws_heldBookEntryS.T7 : Bool × List (List Nat × List Nat) := (true, [([], []), ([], []), ([0, 1], [0, 1]), ([2], [2]), ([3], [3]), ([], []), ([5], [5]), ([4, 6], [4, 6])])
def laws_heldBookEntryS.B7 : List Nat := [0, 0, 3, 7, 15, 0, 32, 127]
theorem laws_heldBookEntryS.tab7 : rtab .any (opsOf Tryd.f88 7) = laws_heldBookEntryS.T7 := by kernel_rfl
theorem laws_heldBookEntryS.bits7 : waitsOk laws_heldBookEntryS.T7.2 laws_heldBookEntryS.B7 = true := by kernel_rfl
set_option maxHeartbeats 8000000 in
set_option maxRecDepth 100000 in
theorem laws_heldBookEntryS.calls (k : Nat) (A0 : Option Addr) (c0 : Nat) (l0 : List (S63)) (a1 : Int) (r : Int) (w : World) (hr0 : Kd.C k63 w A0 l0.length l0) (hc0 : l0.length ≤ c0) (h : laws_heldBookEntryS.f k l0 a1 = some r) :
 Calls Tryd.prog 88 #[.slice A0 l0.length c0, .int .i64 a1] w fun e w' => e = .returned (.int .i64 r) ∧ Below w.heap.size w w' := by
 have HR0 := Aside0.mk hr0
 have HC0 := Aside0.mk hc0
 clear hr0 hc0
 have HB := Aside0.mk (Below.refl w.heap.size w)
 have H := h
 clear h
 unfold laws_heldBookEntryS.f at H
 replace H := Aside0.mk H
 go_enter Tryd.func88, Tryd.ntmps88
 go_wp2
 go_loopg [1, 5] k (fun kq v1 v5 w' => ∃ (x1_1 : Int) (x5_1 : Int), v1 = .int .i64 x1_1 ∧ v5 = .int .i64 x5_1 ∧ Aside0 (laws_heldBookEntryS.l0 kq l0 x1_1 x5_1 = some r) ∧ Aside0 (kq ≤ k) ∧ Aside0 (Below w.heap.size w w'))
 case atStart => exact ⟨(a1), (0), ZZ0ab324, ZZ0ab324, H, ⟨Nat.le_refl _⟩, ⟨ZZ605003⟩⟩
 case round =>
  clear H
  obtain ⟨x1_1, x5_1, rfl, rfl, HA, HK1, HB⟩ := hrel
  cases gk with
  | zero => exact absurd HA.out (by simp [laws_heldBookEntryS.l0])
  | succ k1 =>
   have H := HA.out
   clear HA
   simp only [laws_heldBookEntryS.l0] at H
   by_cases c3 : x5_1 < (l0.length : Int)
   ·rw [if_pos c3] at H
    have c3b0 := decide_eq_true c3
    clear c3
    obtain ⟨c4b0, H⟩ := ifYd H
    by_cases c5 : ((rd_T63 l0 x5_1).f0) = x1_1
    ·rw [if_pos c5] at H
     have c5b0 := beq_iff_eq.mpr c5
     have c5b1 := bne_eq_false_iff_eq.mpr c5
     clear c5
     obtain ⟨t487, A6, H⟩ := bdY H
     by_cases c7 : ((rd_T63 l0 x5_1).f1).toList = t487.toList
     ·rw [if_pos c7] at H
      have c7b0 := beq_iff_eq.mpr c7
      have c7b1 := bne_eq_false_iff_eq.mpr c7
      clear c7
      obtain ⟨t489, A8, H⟩ := bdY H
      by_cases c9 : t489 < 0
      ·rw [if_pos c9] at H
       have c9b0 := decide_eq_true c9
       clear c9
       obtain rfl := Option.some.inj H
       have p485 : 0 ≤ (x5_1 : Int) := of_decide_eq_true ZZ853400
       have q485 : x5_1 < (l0.length : Int) := of_decide_eq_true ZZ853400
       obtain ⟨ad485, A485_2, c485_2, e485, hx485_0, hx485_1, hx485_2, hl485_2, hi485_2⟩ := at_T63 HR0.out x5_1 p485 q485
       cases e485
       replace hx485_0 := (HB.out.cell (World.block_lt_of_cell? w _ hx485_0)).trans hx485_0
       replace hx485_1 := (HB.out.cell (World.block_lt_of_cell? w _ hx485_1)).trans hx485_1
       replace hx485_2 := (HB.out.cell (World.block_lt_of_cell? w _ hx485_2)).trans hx485_2
       have HR485_2 := Aside0.mk hi485_2
       have HC485_2 := Aside0.mk hl485_2
       clear hi485_2 hl485_2
       replace p485 := eq_true p485
       replace q485 := eq_true q485
       try go_wp2
       replace HB := Aside0.mk (below_drew1 HB.out)
       have p486 : 0 ≤ (x5_1 : Int) := of_decide_eq_true ZZ853400
       have q486 : x5_1 < (l0.length : Int) := of_decide_eq_true ZZ853400
       try clear hx485_0
       try clear hx485_1
       try clear hx485_2
       obtain ⟨ad486, A486_2, c486_2, e486, hx486_0, hx486_1, hx486_2, hl486_2, hi486_2⟩ := at_T63 HR0.out x5_1 p486 q486
       have hw486_2 := hx486_2
       have hw486_1 := hx486_1
       have hw486_0 := hx486_0
       obtain rfl : ad485 = ad486 := (by injection e486)
       replace hx486_0 := (HB.out.cell (World.block_lt_of_cell? w _ hx486_0)).trans hx486_0
       replace hx486_1 := (HB.out.cell (World.block_lt_of_cell? w _ hx486_1)).trans hx486_1
       replace hx486_2 := (HB.out.cell (World.block_lt_of_cell? w _ hx486_2)).trans hx486_2
       have HR486_2 := Aside0.mk hi486_2
       have HC486_2 := Aside0.mk hl486_2
       clear hi486_2 hl486_2
       replace p486 := eq_true p486
       replace q486 := eq_true q486
       refine st 8 (S := fun w' => w'.cell? (ad485.add ((x5_1).toNat * 3)) = some (.int .i64 ((rd_T63 l0 x5_1).f0)) ∧ w'.cell? ⟨(ad485.add ((x5_1).toNat * 3)).block, (ad485.add ((x5_1).toNat * 3)).off + 1, none⟩ = some (.string ((rd_T63 l0 x5_1).f1)) ∧ w'.cell? ⟨(ad485.add ((x5_1).toNat * 3)).block, (ad485.add ((x5_1).toNat * 3)).off + 2, none⟩ = some (.slice A486_2 ((rd_T63 l0 x5_1).f2).length c486_2)) laws_heldBookEntryS.tab7 laws_heldBookEntryS.bits7 zK (fun hHeld HT_ HW_ => ?_)
       generalize wr.drew = w10 at HB HR486_2 hx486_0 hx486_1 hx486_2 hHeld ⊢
       refine pu 0 21 ?_
       refine pu 1 22 ?_
       refine pu 2 23 ?_
       refine pu 3 24 ?_
       refine pu 5 26 ?_
       refine tk 4 25 ?_
       refine on1 6 27 Tryd.func112 #[.int .i64 (wrap64 (x1_1 + 1))] (laws_markText.calls k1 (wrap64 (x1_1 + 1)) t487 _ A6.out) ?_
       rintro w11 hb
       replace HB := hB hb
       (try clear hb)
       (try clear hb2)
       (try clear hk)
       (try clear hi)
       refine ⟨zK, fun hHeld => ?_⟩
       refine pu 7 28 ?_
       refine done_ (done_of HT_.out (by kernel_rfl)) ?_
       have p488 : 0 ≤ (x5_1 : Int) := of_decide_eq_true ZZ853400
       have q488 : x5_1 < (l0.length : Int) := of_decide_eq_true ZZ853400
       try clear hx486_0
       try clear hx486_1
       try clear hx486_2
       obtain ⟨ad488, A488_2, c488_2, e488, hx488_0, hx488_1, hx488_2, hl488_2, hi488_2⟩ := at_T63 HR0.out x5_1 p488 q488
       obtain rfl : ad485 = ad488 := (by injection e488)
       try (obtain ⟨rfl, rfl⟩ : A488_2 = A486_2 ∧ c488_2 = c486_2 := (by have h_ := hw486_2.symm.trans hx488_2; simp only [Option.some.injEq, Value.slice.injEq, true_and, eq_self] at h_; exact ⟨h_.1.symm, h_.2.symm⟩))
       replace hx488_0 := (HB.out.cell (World.block_lt_of_cell? w _ hx488_0)).trans hx488_0
       replace hx488_1 := (HB.out.cell (World.block_lt_of_cell? w _ hx488_1)).trans hx488_1
       replace hx488_2 := (HB.out.cell (World.block_lt_of_cell? w _ hx488_2)).trans hx488_2
       have HR488_2 := Aside0.mk hi488_2
       have HC488_2 := Aside0.mk hl488_2
       clear hi488_2 hl488_2
       replace p488 := eq_true p488
       replace q488 := eq_true q488
       try go_wp2_with (first | (refine gc 37 Tryd.func115 #[.slice A488_2 ((rd_T63 l0 x5_1).f2).length c488_2, .int .i64 (wrap64 ((wrap64 (x1_1 + 1)) + 1))] ?_; (with_reducible refine (laws_heldPostingS.calls k1 _ _ ((rd_T63 l0 x5_1).f2) (wrap64 ((wrap64 (x1_1 + 1)) + 1)) t489 _ ?side1 ?side2 A8.out).mono ?_); (case side1 => exact (rC (Kd.C_below HR488_2.out HB.out))); (case side2 => exact HC488_2.out); rintro e w' ⟨rfl, ⟨nd, rfl⟩⟩; refine ⟨_, rfl, ?_⟩))
       go_ret
       exact ⟨ZZab01d2, ZZ605003⟩
      rw [if_neg c9] at H
      have c9b0 := decide_eq_false c9
      clear c9
      replace H := Aside0.mk H
      have p485 : 0 ≤ (x5_1 : Int) := of_decide_eq_true ZZ853400
      have q485 : x5_1 < (l0.length : Int) := of_decide_eq_true ZZ853400
      obtain ⟨ad485, A485_2, c485_2, e485, hx485_0, hx485_1, hx485_2, hl485_2, hi485_2⟩ := at_T63 HR0.out x5_1 p485 q485
      cases e485
      replace hx485_0 := (HB.out.cell (World.block_lt_of_cell? w _ hx485_0)).trans hx485_0
      replace hx485_1 := (HB.out.cell (World.block_lt_of_cell? w _ hx485_1)).trans hx485_1
      replace hx485_2 := (HB.out.cell (World.block_lt_of_cell? w _ hx485_2)).trans hx485_2
      have HR485_2 := Aside0.mk hi485_2
      have HC485_2 := Aside0.mk hl485_2
      clear hi485_2 hl485_2
      replace p485 := eq_true p485
      replace q485 := eq_true q485
      try go_wp2
      replace HB := Aside0.mk (below_drew1 HB.out)
      have p486 : 0 ≤ (x5_1 : Int) := of_decide_eq_true ZZ853400
      have q486 : x5_1 < (l0.length : Int) := of_decide_eq_true ZZ853400
      try clear hx485_0
      try clear hx485_1
      try clear hx485_2
      obtain ⟨ad486, A486_2, c486_2, e486, hx486_0, hx486_1, hx486_2, hl486_2, hi486_2⟩ := at_T63 HR0.out x5_1 p486 q486
      have hw486_2 := hx486_2
      have hw486_1 := hx486_1
      have hw486_0 := hx486_0
      obtain rfl : ad485 = ad486 := (by injection e486)
      replace hx486_0 := (HB.out.cell (World.block_lt_of_cell? w _ hx486_0)).trans hx486_0
      replace hx486_1 := (HB.out.cell (World.block_lt_of_cell? w _ hx486_1)).trans hx486_1
      replace hx486_2 := (HB.out.cell (World.block_lt_of_cell? w _ hx486_2)).trans hx486_2
      have HR486_2 := Aside0.mk hi486_2
      have HC486_2 := Aside0.mk hl486_2
      clear hi486_2 hl486_2
      replace p486 := eq_true p486
      replace q486 := eq_true q486
      refine st 8 (S := fun w' => w'.cell? (ad485.add ((x5_1).toNat * 3)) = some (.int .i64 ((rd_T63 l0 x5_1).f0)) ∧ w'.cell? ⟨(ad485.add ((x5_1).toNat * 3)).block, (ad485.add ((x5_1).toNat * 3)).off + 1, none⟩ = some (.string ((rd_T63 l0 x5_1).f1)) ∧ w'.cell? ⟨(ad485.add ((x5_1).toNat * 3)).block, (ad485.add ((x5_1).toNat * 3)).off + 2, none⟩ = some (.slice A486_2 ((rd_T63 l0 x5_1).f2).length c486_2)) laws_heldBookEntryS.tab7 laws_heldBookEntryS.bits7 zK (fun hHeld HT_ HW_ => ?_)
      generalize wr.drew = w12 at HB HR486_2 hx486_0 hx486_1 hx486_2 hHeld ⊢
      refine pu 0 21 ?_
      refine pu 1 22 ?_
      refine pu 2 23 ?_
      refine pu 3 24 ?_
      refine pu 5 26 ?_
      refine tk 4 25 ?_
      refine on1 6 27 Tryd.func112 #[.int .i64 (wrap64 (x1_1 + 1))] (laws_markText.calls k1 (wrap64 (x1_1 + 1)) t487 _ A6.out) ?_
      rintro w13 hb
      replace HB := hB hb
      (try clear hb)
      (try clear hb2)
      (try clear hk)
      (try clear hi)
      refine ⟨zK, fun hHeld => ?_⟩
      refine pu 7 28 ?_
      refine done_ (done_of HT_.out (by kernel_rfl)) ?_
      have p488 : 0 ≤ (x5_1 : Int) := of_decide_eq_true ZZ853400
      have q488 : x5_1 < (l0.length : Int) := of_decide_eq_true ZZ853400
      try clear hx486_0
      try clear hx486_1
      try clear hx486_2
      obtain ⟨ad488, A488_2, c488_2, e488, hx488_0, hx488_1, hx488_2, hl488_2, hi488_2⟩ := at_T63 HR0.out x5_1 p488 q488
      obtain rfl : ad485 = ad488 := (by injection e488)
      try (obtain ⟨rfl, rfl⟩ : A488_2 = A486_2 ∧ c488_2 = c486_2 := (by have h_ := hw486_2.symm.trans hx488_2; simp only [Option.some.injEq, Value.slice.injEq, true_and, eq_self] at h_; exact ⟨h_.1.symm, h_.2.symm⟩))
      replace hx488_0 := (HB.out.cell (World.block_lt_of_cell? w _ hx488_0)).trans hx488_0
      replace hx488_1 := (HB.out.cell (World.block_lt_of_cell? w _ hx488_1)).trans hx488_1
      replace hx488_2 := (HB.out.cell (World.block_lt_of_cell? w _ hx488_2)).trans hx488_2
      have HR488_2 := Aside0.mk hi488_2
      have HC488_2 := Aside0.mk hl488_2
      clear hi488_2 hl488_2
      replace p488 := eq_true p488
      replace q488 := eq_true q488
      try go_wp2_with (first | (refine gc 37 Tryd.func115 #[.slice A488_2 ((rd_T63 l0 x5_1).f2).length c488_2, .int .i64 (wrap64 ((wrap64 (x1_1 + 1)) + 1))] ?_; (with_reducible refine (laws_heldPostingS.calls k1 _ _ ((rd_T63 l0 x5_1).f2) (wrap64 ((wrap64 (x1_1 + 1)) + 1)) t489 _ ?side1 ?side2 A8.out).mono ?_); (case side1 => exact (rC (Kd.C_below HR488_2.out HB.out))); (case side2 => exact HC488_2.out); rintro e w' ⟨rfl, ⟨nd, rfl⟩⟩; refine ⟨_, rfl, ?_⟩))
      go_roundg k1
      case measure => have := HK1.out; omega
      case rel => exact ⟨(t489), (wrap64 (x5_1 + 1)), ZZ0ab324, ZZ0ab324, H, kle, ⟨ZZ605003⟩⟩
     rw [if_neg c7] at H
     have c7b0 := beq_eq_false_iff_ne.mpr c7
     have c7b1 := bne_iff_ne.mpr c7
     obtain rfl := Option.some.inj H
     have p485 : 0 ≤ (x5_1 : Int) := of_decide_eq_true ZZ853400
     have q485 : x5_1 < (l0.length : Int) := of_decide_eq_true ZZ853400
     obtain ⟨ad485, A485_2, c485_2, e485, hx485_0, hx485_1, hx485_2, hl485_2, hi485_2⟩ := at_T63 HR0.out x5_1 p485 q485
     cases e485
     replace hx485_0 := (HB.out.cell (World.block_lt_of_cell? w _ hx485_0)).trans hx485_0
     replace hx485_1 := (HB.out.cell (World.block_lt_of_cell? w _ hx485_1)).trans hx485_1
     replace hx485_2 := (HB.out.cell (World.block_lt_of_cell? w _ hx485_2)).trans hx485_2
     have HR485_2 := Aside0.mk hi485_2
     have HC485_2 := Aside0.mk hl485_2
     clear hi485_2 hl485_2
     replace p485 := eq_true p485
     replace q485 := eq_true q485
     try go_wp2
     replace HB := Aside0.mk (below_drew1 HB.out)
     have p486 : 0 ≤ (x5_1 : Int) := of_decide_eq_true ZZ853400
     have q486 : x5_1 < (l0.length : Int) := of_decide_eq_true ZZ853400
     try clear hx485_0
     try clear hx485_1
     try clear hx485_2
     obtain ⟨ad486, A486_2, c486_2, e486, hx486_0, hx486_1, hx486_2, hl486_2, hi486_2⟩ := at_T63 HR0.out x5_1 p486 q486
     have hw486_2 := hx486_2
     have hw486_1 := hx486_1
     have hw486_0 := hx486_0
     obtain rfl : ad485 = ad486 := (by injection e486)
     replace hx486_0 := (HB.out.cell (World.block_lt_of_cell? w _ hx486_0)).trans hx486_0
     replace hx486_1 := (HB.out.cell (World.block_lt_of_cell? w _ hx486_1)).trans hx486_1
     replace hx486_2 := (HB.out.cell (World.block_lt_of_cell? w _ hx486_2)).trans hx486_2
     have HR486_2 := Aside0.mk hi486_2
     have HC486_2 := Aside0.mk hl486_2
     clear hi486_2 hl486_2
     replace p486 := eq_true p486
     replace q486 := eq_true q486
     refine st 8 (S := fun w' => w'.cell? (ad485.add ((x5_1).toNat * 3)) = some (.int .i64 ((rd_T63 l0 x5_1).f0)) ∧ w'.cell? ⟨(ad485.add ((x5_1).toNat * 3)).block, (ad485.add ((x5_1).toNat * 3)).off + 1, none⟩ = some (.string ((rd_T63 l0 x5_1).f1)) ∧ w'.cell? ⟨(ad485.add ((x5_1).toNat * 3)).block, (ad485.add ((x5_1).toNat * 3)).off + 2, none⟩ = some (.slice A486_2 ((rd_T63 l0 x5_1).f2).length c486_2)) laws_heldBookEntryS.tab7 laws_heldBookEntryS.bits7 zK (fun hHeld HT_ HW_ => ?_)
     generalize wr.drew = w14 at HB HR486_2 hx486_0 hx486_1 hx486_2 hHeld ⊢
     refine pu 0 21 ?_
     refine pu 1 22 ?_
     refine pu 2 23 ?_
     refine pu 3 24 ?_
     refine pu 5 26 ?_
     refine tk 4 25 ?_
     refine on1 6 27 Tryd.func112 #[.int .i64 (wrap64 (x1_1 + 1))] (laws_markText.calls k1 (wrap64 (x1_1 + 1)) t487 _ A6.out) ?_
     rintro w15 hb
     replace HB := hB hb
     (try clear hb)
     (try clear hb2)
     (try clear hk)
     (try clear hi)
     refine ⟨zK, fun hHeld => ?_⟩
     refine pu 7 28 ?_
     refine done_ (done_of HT_.out (by kernel_rfl)) ?_
     try go_wp2
     go_ret
     exact ⟨ZZab01d2, ZZ605003⟩
    rw [if_neg c5] at H
    have c5b0 := beq_eq_false_iff_ne.mpr c5
    have c5b1 := bne_iff_ne.mpr c5
    obtain rfl := Option.some.inj H
    have p485 : 0 ≤ (x5_1 : Int) := of_decide_eq_true ZZ853400
    have q485 : x5_1 < (l0.length : Int) := of_decide_eq_true ZZ853400
    obtain ⟨ad485, A485_2, c485_2, e485, hx485_0, hx485_1, hx485_2, hl485_2, hi485_2⟩ := at_T63 HR0.out x5_1 p485 q485
    cases e485
    replace hx485_0 := (HB.out.cell (World.block_lt_of_cell? w _ hx485_0)).trans hx485_0
    replace hx485_1 := (HB.out.cell (World.block_lt_of_cell? w _ hx485_1)).trans hx485_1
    replace hx485_2 := (HB.out.cell (World.block_lt_of_cell? w _ hx485_2)).trans hx485_2
    have HR485_2 := Aside0.mk hi485_2
    have HC485_2 := Aside0.mk hl485_2
    clear hi485_2 hl485_2
    replace p485 := eq_true p485
    replace q485 := eq_true q485
    go_wp2
    go_ret
    exact ⟨ZZab01d2, ZZ605003⟩
   rw [if_neg c3] at H
   have c3b0 := decide_eq_false c3
   clear c3
   obtain rfl := Option.some.inj H
   go_wp2
   go_ret
   exact ⟨ZZab01d2, ZZ605003⟩
def laws_heldLedger.f (k : Nat) (l0_0 : List (S48)) (l0_1 : List (S63)) (a1 : Int) : Option (Int) := (laws_heldAccountS.f k l0_0 a1).bind fun t491 => (if t491 < 0 then (some (-1)) else ((laws_heldBookEntryS.f k l0_1 t491).bind fun t492 => (if t492 < 0 then (some (-1)) else (some t492))))
theorem laws_heldLedger.mono : ∀ a0 a1 a2 k, LeO (laws_heldLedger.f k a0 a1 a2) (laws_heldLedger.f (k + 1) a0 a1 a2) := by
 intro a0 a1 a2 k
 unfold laws_heldLedger.f
 repeat' with_reducible first | apply laws_heldAccountS.mono | apply laws_heldBookEntryS.mono | exact LeO.refl _ | exact LeO.none _ | refine LeO.ite ?_ ?_ | refine LeO.bind ?_ (fun _ => ?_)
set_option maxHeartbeats 8000000 in
set_option maxRecDepth 100000 in
theorem laws_heldLedger.calls (k : Nat) (A0_0 : Option Addr) (c0_0 : Nat) (l0_0 : List (S48)) (A0_1 : Option Addr) (c0_1 : Nat) (l0_1 : List (S63)) (a1 : Int) (r : Int) (w : World) (hr0_0 : Kd.C k48 w A0_0 l0_0.length l0_0) (hc0_0 : l0_0.length ≤ c0_0) (hr0_1 : Kd.C k63 w A0_1 l0_1.length l0_1) (hc0_1 : l0_1.length ≤ c0_1) (h : laws_heldLedger.f k l0_0 l0_1 a1 = some r) :
 Calls Tryd.prog 41 #[.agg #[.slice A0_0 l0_0.length c0_0, .slice A0_1 l0_1.length c0_1], .int .i64 a1] w fun e w' => e = .returned (.int .i64 r) ∧ Below w.heap.size w w' := by
 have hu31 := Tryd.underlying31
 have HR0_0 := Aside0.mk hr0_0
 have HC0_0 := Aside0.mk hc0_0
 clear hr0_0 hc0_0
 have HR0_1 := Aside0.mk hr0_1
 have HC0_1 := Aside0.mk hc0_1
 clear hr0_1 hc0_1
 have HB := Aside0.mk (Below.refl w.heap.size w)
 have H := h
 clear h
 unfold laws_heldLedger.f at H
 obtain ⟨t491, A3, H⟩ := bdY H
 by_cases c4 : t491 < 0
 ·rw [if_pos c4] at H
  have c4b0 := decide_eq_true c4
  clear c4
  obtain rfl := Option.some.inj H
  go_enter Tryd.func41, Tryd.ntmps41
  go_wp2_with (first | ((with_reducible refine gate_dst (N := 2) rfl ?_); refine bx 2 (cs := #[.slice A0_0 l0_0.length c0_0, .slice A0_1 l0_1.length c0_1]) (t := 31) ?_; intro gb490 hg w5 hbox hb; have BK490 := Aside0.mk (hbox); have GW490 := gw hg; have GE490 := gw hg; replace HB := hB hb; clear hb hbox hg; obtain ⟨hcz6_0, hcz6_1, hfz6_0, hfz6_1⟩ := z2 BK490) | (refine gc 8 Tryd.func87 #[.slice A0_0 l0_0.length c0_0, .int .i64 a1] ?_; (with_reducible refine (laws_heldAccountS.calls k _ _ l0_0 a1 t491 _ ?side1 ?side2 A3.out).mono ?_); (case side1 => exact (rC (Kd.C_below HR0_0.out HB.out))); (case side2 => exact HC0_0.out); rintro e w7 ⟨rfl, hb⟩; refine ⟨_, rfl, ?_⟩; replace BK490 := kb BK490 hb; replace HB := hB hb; (try clear hb); (try clear hb2); (try clear hk); (try clear hi)))
  go_ret
  exact ⟨ZZab01d2, ZZ295621⟩
 rw [if_neg c4] at H
 have c4b0 := decide_eq_false c4
 clear c4
 obtain ⟨t492, A8, H⟩ := bdY H
 by_cases c9 : t492 < 0
 ·rw [if_pos c9] at H
  have c9b0 := decide_eq_true c9
  clear c9
  obtain rfl := Option.some.inj H
  go_enter Tryd.func41, Tryd.ntmps41
  go_wp2_with (first | ((with_reducible refine gate_dst (N := 2) rfl ?_); refine bx 2 (cs := #[.slice A0_0 l0_0.length c0_0, .slice A0_1 l0_1.length c0_1]) (t := 31) ?_; intro gb490 hg w10 hbox hb; have BK490 := Aside0.mk (hbox); have GW490 := gw hg; have GE490 := gw hg; replace HB := hB hb; clear hb hbox hg; obtain ⟨hcz11_0, hcz11_1, hfz11_0, hfz11_1⟩ := z2 BK490) | (refine gc 8 Tryd.func87 #[.slice A0_0 l0_0.length c0_0, .int .i64 a1] ?_; (with_reducible refine (laws_heldAccountS.calls k _ _ l0_0 a1 t491 _ ?side1 ?side2 A3.out).mono ?_); (case side1 => exact (rC (Kd.C_below HR0_0.out HB.out))); (case side2 => exact HC0_0.out); rintro e w12 ⟨rfl, hb⟩; refine ⟨_, rfl, ?_⟩; replace BK490 := kb BK490 hb; replace HB := hB hb; (try clear hb); (try clear hb2); (try clear hk); (try clear hi); obtain ⟨hcz13_0, hcz13_1, hfz13_0, hfz13_1⟩ := z2 BK490) | (refine gc 14 Tryd.func88 #[.slice A0_1 l0_1.length c0_1, .int .i64 t491] ?_; (with_reducible refine (laws_heldBookEntryS.calls k _ _ l0_1 t491 t492 _ ?side1 ?side2 A8.out).mono ?_); (case side1 => exact (rC (Kd.C_below HR0_1.out HB.out))); (case side2 => exact HC0_1.out); rintro e w14 ⟨rfl, hb⟩; refine ⟨_, rfl, ?_⟩; replace BK490 := kb BK490 hb; replace HB := hB hb; (try clear hb); (try clear hb2); (try clear hk); (try clear hi)))
  go_ret
  exact ⟨ZZab01d2, ZZ295621⟩
 rw [if_neg c9] at H
 have c9b0 := decide_eq_false c9
 clear c9
 obtain rfl := Option.some.inj H
 go_enter Tryd.func41, Tryd.ntmps41
 go_wp2_with (first | ((with_reducible refine gate_dst (N := 2) rfl ?_); refine bx 2 (cs := #[.slice A0_0 l0_0.length c0_0, .slice A0_1 l0_1.length c0_1]) (t := 31) ?_; intro gb490 hg w15 hbox hb; have BK490 := Aside0.mk (hbox); have GW490 := gw hg; have GE490 := gw hg; replace HB := hB hb; clear hb hbox hg; obtain ⟨hcz16_0, hcz16_1, hfz16_0, hfz16_1⟩ := z2 BK490) | (refine gc 8 Tryd.func87 #[.slice A0_0 l0_0.length c0_0, .int .i64 a1] ?_; (with_reducible refine (laws_heldAccountS.calls k _ _ l0_0 a1 t491 _ ?side1 ?side2 A3.out).mono ?_); (case side1 => exact (rC (Kd.C_below HR0_0.out HB.out))); (case side2 => exact HC0_0.out); rintro e w17 ⟨rfl, hb⟩; refine ⟨_, rfl, ?_⟩; replace BK490 := kb BK490 hb; replace HB := hB hb; (try clear hb); (try clear hb2); (try clear hk); (try clear hi); obtain ⟨hcz18_0, hcz18_1, hfz18_0, hfz18_1⟩ := z2 BK490) | (refine gc 14 Tryd.func88 #[.slice A0_1 l0_1.length c0_1, .int .i64 t491] ?_; (with_reducible refine (laws_heldBookEntryS.calls k _ _ l0_1 t491 t492 _ ?side1 ?side2 A8.out).mono ?_); (case side1 => exact (rC (Kd.C_below HR0_1.out HB.out))); (case side2 => exact HC0_1.out); rintro e w19 ⟨rfl, hb⟩; refine ⟨_, rfl, ?_⟩; replace BK490 := kb BK490 hb; replace HB := hB hb; (try clear hb); (try clear hb2); (try clear hk); (try clear hi)))
 go_ret
 exact ⟨ZZab01d2, ZZ295621⟩
end Go.Proofs.YtccdjchaaeligaaDoor.XFnExactCloseAccounts

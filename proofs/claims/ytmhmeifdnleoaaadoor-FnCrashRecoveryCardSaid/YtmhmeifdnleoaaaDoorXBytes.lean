/- A text's bytes as a new row, one of them turned, and back: what a printed walk needs of '[]byte(s)' where the row is no more than stored into and read as a text again. -/
import Derived.Test.YtmhmeifdnleoaaaDoorShelf
import Derived.Test.YtmhmeifdnleoaaaDoorWWords
import Derived.Lib.ConvBytes
import Derived.Lib.SlBytesRow
namespace Go.Proofs.YtmhmeifdnleoaaaDoor
open Go Go.RowKit Go.Proofs.YtmhmeifdnleoaaaDoorW.PrintWords
/-- A text with its byte x turned: 255 less it. -/
def flipB.f (s : ByteArray) (x : Int) : Option ByteArray := if 0 ≤ x ∧ x < (s.size : Int) then some ⟨(s.data.toList.set x.toNat (UInt8.ofNat (255 - (s.data.toList.getD x.toNat 0).toNat))).toArray⟩ else none
/-- A text as a row of bytes: the same bytes. -/
def bytesIn.f (s : ByteArray) : Option ByteArray := some s
section
variable {P : Program} {src dst e : TypeId}
theorem bytes_in (hs : P.underlying src = some .string) (hd : P.underlying dst = some (.slice e)) (he : P.underlying e = some (.int .u8)) (s : ByteArray) (W : World) :
    (convert src dst (.string s)).run P W = .ok (.slice (some ⟨W.heap.size, 0, none⟩) s.size (grownCap W s.size 0 e)) (Lib.bytesWorld W e s) := print_bytes src dst e hs hd he s W
theorem bytes_are (W : World) (s : ByteArray) : Lib.Bytes (Lib.bytesWorld W e s) W.heap.size 0 s := by
  intro j hj
  have hl : j < s.data.toList.length := by rw [Array.length_toList]; exact hj
  rw [Nat.zero_add, Lib.bytesWorld_cell W e s j hj, List.getD_eq_getElem?_getD, List.getElem?_eq_getElem hl]
  rfl
theorem bytes_cell (W : World) (s : ByteArray) (j : Nat) (hj : j < s.size) : (Lib.bytesWorld W e s).cell? ⟨W.heap.size, j, none⟩ = some (.int .u8 (bt s (j : Int))) := by
  have := bytes_are (e := e) W s j hj
  rw [Nat.zero_add] at this
  rw [this]
  congr 2
  unfold bt
  rw [dif_pos (show ((j : Int)).toNat < s.size by omega)]
  rfl
theorem bytes_free (W : World) (s : ByteArray) (j : Nat) (hj : j < s.size) : (Lib.bytesWorld W e s).frozen? ⟨W.heap.size, j, none⟩ = false := by
  unfold World.frozen?
  rw [Lib.bytesWorld_at_new]
  have : s.size ≤ (Lib.bytesCells W e s).size := by
    unfold Lib.bytesCells
    rw [Array.size_append, Array.size_map]
    exact Nat.le_add_right _ _
  simp only [Bool.and_eq_false_iff, decide_eq_false_iff_not]
  left
  show ¬ (Lib.bytesCells W e s).size ≤ j
  omega
theorem set_size (s : ByteArray) (j : Nat) (v : UInt8) : (⟨(s.data.toList.set j v).toArray⟩ : ByteArray).size = s.size := by
  show ((s.data.toList.set j v).toArray).size = s.data.size
  rw [List.size_toArray, List.length_set, Array.length_toList]
theorem bytes_set (W : World) (s : ByteArray) (j : Nat) (hj : j < s.size) (v : UInt8) : Lib.Bytes ((Lib.bytesWorld W e s).setCell ⟨W.heap.size, j, none⟩ (.int .u8 (v.toNat : Int))) W.heap.size 0 ⟨(s.data.toList.set j v).toArray⟩ := by
  intro i hi
  have hi' : i < s.size := by
    rw [set_size] at hi
    exact hi
  have hc := bytes_are (e := e) W s i hi'
  rw [Nat.zero_add] at hc ⊢
  have hl : i < (s.data.toList.set j v).length := by rw [List.length_set, Array.length_toList]; exact hi'
  have hg : ((⟨(s.data.toList.set j v).toArray⟩ : ByteArray)[i]'hi) = (s.data.toList.set j v)[i]'hl := rfl
  rw [hg]
  by_cases hij : i = j
  · subst hij
    rw [World.cell?_setCell_same _ _ _ hc, List.getElem_set_self]
  · rw [World.cell?_setCell_other (Lib.bytesWorld W e s) ⟨W.heap.size, j, none⟩ ⟨W.heap.size, i, none⟩ _ (fun e_ => hij (by injection e_ with _ e2; exact e2.symm)), hc, List.getElem_set_ne (Ne.symm hij)]
    rfl
theorem bytes_out_set (hs : P.underlying dst = some .string) (hd : P.underlying src = some (.slice e)) (he : P.underlying e = some (.int .u8)) (s t : ByteArray) (W : World) (cap j : Nat) (hj : j < s.size) (v : Int) (hv : v = 255 - bt s (j : Int)) (ht : flipB.f s (j : Int) = some t) :
    (convert src dst (.slice (some ⟨W.heap.size, 0, none⟩) s.size cap)).run P ((Lib.bytesWorld W e s).setCell ⟨W.heap.size, j, none⟩ (.int .u8 v)) = .ok (.string t) ((Lib.bytesWorld W e s).setCell ⟨W.heap.size, j, none⟩ (.int .u8 v)) := by
  have hl : j < s.data.toList.length := by rw [Array.length_toList]; exact hj
  unfold flipB.f at ht
  rw [if_pos (by omega)] at ht
  obtain rfl := Option.some.inj ht
  rw [Int.toNat_natCast]
  generalize hb : s.data.toList.getD j 0 = b
  have hbt : bt s (j : Int) = (b.toNat : Int) := by
    unfold bt
    rw [dif_pos (show ((j : Int)).toNat < s.size by omega), ← hb, List.getD_eq_getElem?_getD, List.getElem?_eq_getElem hl]
    rfl
  have hb255 : b.toNat ≤ 255 := by have := b.toNat_lt; omega
  have hv' : v = ((UInt8.ofNat (255 - b.toNat)).toNat : Int) := by rw [hv, hbt, UInt8.toNat_ofNat']; omega
  rw [hv']
  have hz := set_size s j (UInt8.ofNat (255 - b.toNat))
  rw [← hz]
  exact Lib.run_convert_whole _ src e dst hd he hs _ _ _ (bytes_set W s j hj _) cap
theorem bytes_out (hs : P.underlying dst = some .string) (hd : P.underlying src = some (.slice e)) (he : P.underlying e = some (.int .u8)) (s : ByteArray) (W : World) (cap : Nat) :
    (convert src dst (.slice (some ⟨W.heap.size, 0, none⟩) s.size cap)).run P (Lib.bytesWorld W e s) = .ok (.string s) (Lib.bytesWorld W e s) :=
  Lib.run_convert_whole _ src e dst hd he hs _ _ s (bytes_are W s) cap
end
end Go.Proofs.YtmhmeifdnleoaaaDoor

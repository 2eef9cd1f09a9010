-- Out of the words that print.sh wrote for this seat: those that its proofs name (wip/tools/prune.py).
/- strings.Trim, at a cutset of ASCII bytes, in the form of a printed contract. -/
import Derived.Test.YtccdjchaaeligaaDoorShelf
import Derived.Test.YtccdjchaaeligaaDoorWWords
import Derived.Shelf.Strings.SlTrimAscii
namespace Go.Proofs.YtccdjchaaeligaaDoor
open Go.RowKit Go.Shelf Go.Lib Go.Proofs.YtccdjchaaeligaaDoorW.PrintWords
def asciiT (s : ByteArray) : Bool := s.data.toList.all fun b => decide (b.toNat < 128)
theorem asciiT_at {s : ByteArray} (h : asciiT s = true) (j : Nat) (b : UInt8) (hb : s.data.toList[j]? = some b) : b.toNat < 128 := by
  have := List.all_eq_true.1 h b (List.mem_of_getElem? hb)
  simpa using this
def strings_Trim.f (a0 : ByteArray) (a1 : ByteArray) : Option (ByteArray) :=
  if a0.size ≤ 9223372036854775807 ∧ a1.size < 4294967281 ∧ asciiT a1 = true then some ⟨(Lib.trimS a0.data.toList a1.data.toList).toArray⟩ else none
theorem strings_Trim.calls (a0 : ByteArray) (a1 : ByteArray) (r : ByteArray) (w : World) (h : strings_Trim.f a0 a1 = some r) :
    Calls Tryd.prog 104 #[.string a0, .string a1] w fun e w' => e = .returned (.string r) ∧ Below w.heap.size w w' := by
  unfold strings_Trim.f at h
  split at h
  · rename_i hc
    obtain ⟨h0, h1, h2⟩ := hc
    obtain rfl := Option.some.inj h
    exact Any.strings_Trim_laid Tryd.lays160 (by kernel_rfl) a0 a1 w h0 h1 (asciiT_at h2)
  · cases h
end Go.Proofs.YtccdjchaaeligaaDoor

/- strings.ContainsAny, at texts of ASCII bytes and below four thousand million bytes, in the form of a printed contract. -/
import Derived.Test.YtmhmeifdnleoaaaDoorShelf
import Derived.Test.YtmhmeifdnleoaaaDoorWWords
namespace Go.Proofs.YtmhmeifdnleoaaaDoor
open Go.RowKit Go.Proofs.YtmhmeifdnleoaaaDoorW.PrintWords
/-- All bytes of a text are below 128. -/
def ascii (s : ByteArray) : Bool := s.data.toList.all fun b => decide (b.toNat < 128)
theorem ascii_at {s : ByteArray} (h : ascii s = true) (j : Nat) (b : UInt8) (hb : s.data.toList[j]? = some b) : b.toNat < 128 := by
  have := List.all_eq_true.1 h b (List.mem_of_getElem? hb)
  simpa using this
def strings_ContainsAny.f (a0 : ByteArray) (a1 : ByteArray) : Option (Bool) :=
  if a0.size < 4294967281 ∧ a1.size < 4294967281 ∧ ascii a0 = true ∧ ascii a1 = true then some (Lib.containsAny a0.data.toList a1.data.toList) else none
theorem strings_ContainsAny.calls (a0 : ByteArray) (a1 : ByteArray) (r : Bool) (w : World) (h : strings_ContainsAny.f a0 a1 = some r) :
    Calls Tryd.prog 73 #[.string a0, .string a1] w fun e w' => e = .returned (.bool r) ∧ Below w.heap.size w w' := by
  unfold strings_ContainsAny.f at h
  split at h
  · rename_i hc
    obtain ⟨h0, h1, h2, h3⟩ := hc
    obtain rfl := Option.some.inj h
    exact Tryd.strings_ContainsAny_laid a0 a1 w h0 h1 (ascii_at h2) (ascii_at h3)
  · cases h
end Go.Proofs.YtmhmeifdnleoaaaDoor

/- strings.Contains, of one byte, in the form of a printed contract. -/
import Derived.Test.YtmhmeifdnleoaaaDoorShelf
import Derived.Test.YtmhmeifdnleoaaaDoorWWords
namespace Go.Proofs.YtmhmeifdnleoaaaDoor
open Go.RowKit Go.Proofs.YtmhmeifdnleoaaaDoorW.PrintWords
def strings_Contains.f (a0 : ByteArray) (a1 : ByteArray) : Option (Bool) :=
  if a1.data.size = 1 then some (decide (0 ≤ Lib.indexByte a0.data.toList (a1.data.toList.getD 0 0))) else none
theorem strings_Contains.calls (a0 : ByteArray) (a1 : ByteArray) (r : Bool) (w : World) (h : strings_Contains.f a0 a1 = some r) :
    Calls Tryd.prog 76 #[.string a0, .string a1] w fun e w' => e = .returned (.bool r) ∧ Drawn0 w w' := by
  unfold strings_Contains.f at h
  split at h
  · rename_i hc
    obtain rfl := Option.some.inj h
    obtain ⟨⟨l⟩⟩ := a1
    match l, hc with
    | [c], _ =>
      refine (Tryd.strings_Contains_one a0 c w).mono ?_
      rintro e w' ⟨rfl, rfl⟩
      exact ⟨rfl, ⟨⟨0, rfl⟩⟩⟩
  · cases h
end Go.Proofs.YtmhmeifdnleoaaaDoor

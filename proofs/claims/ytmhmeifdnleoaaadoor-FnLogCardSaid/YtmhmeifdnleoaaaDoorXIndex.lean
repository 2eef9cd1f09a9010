/- internal/stringslite.Index, of one byte, in the form of a printed contract. -/
import Derived.Test.YtmhmeifdnleoaaaDoorShelf
import Derived.Test.YtmhmeifdnleoaaaDoorWWords
namespace Go.Proofs.YtmhmeifdnleoaaaDoor
open Go.RowKit Go.Proofs.YtmhmeifdnleoaaaDoorW.PrintWords
def stringslite_Index.f (a0 : ByteArray) (a1 : ByteArray) : Option (Int) :=
  if a1.data.size = 1 then some (Lib.indexByte a0.data.toList (a1.data.toList.getD 0 0)) else none
theorem stringslite_Index.calls (a0 : ByteArray) (a1 : ByteArray) (r : Int) (w : World) (h : stringslite_Index.f a0 a1 = some r) :
    Calls Tryd.prog 90 #[.string a0, .string a1] w fun e w' => e = .returned (.int .i64 r) ∧ Drawn0 w w' := by
  unfold stringslite_Index.f at h
  split at h
  · rename_i hc
    obtain rfl := Option.some.inj h
    obtain ⟨⟨l⟩⟩ := a1
    match l, hc with
    | [c], _ =>
      refine (Tryd.stringslite_Index_one a0 c w).mono ?_
      rintro e w' ⟨rfl, rfl⟩
      exact ⟨rfl, ⟨⟨0, rfl⟩⟩⟩
  · cases h
end Go.Proofs.YtmhmeifdnleoaaaDoor

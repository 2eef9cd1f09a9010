-- Out of the words that print.sh wrote for this seat: those that its proofs name (wip/tools/prune.py).
/- strconv.Itoa in the form of a printed contract: for every whole number of 64 bits its decimal numeral, where the library's table lies. -/
import Derived.Test.YtccdjchaaeligaaDoorShelf
import Derived.Test.YtccdjchaaeligaaDoorXInv
import Derived.Test.YtccdjchaaeligaaDoorWWords
import Derived.Lib.AppendIntMem
namespace Go.Proofs.YtccdjchaaeligaaDoor
open Go.RowKit Go.Proofs.YtccdjchaaeligaaDoorW.PrintWords
def strconv_Itoa.f (a0 : Int) : Option (ByteArray) := if -9223372036854775808 ≤ a0 ∧ a0 ≤ 9223372036854775807 then some ⟨(Lib.itoa a0).toArray⟩ else none
theorem strconv_Itoa.calls (a0 : Int) (r : ByteArray) (w : World) (hV : TInv w) (h : strconv_Itoa.f a0 = some r) :
    Calls Tryd.prog 120 #[.int .i64 a0] w fun e w' => e = .returned (.string r) ∧ Below w.heap.size w w' := by
  unfold strconv_Itoa.f at h
  split at h
  · rename_i hc
    obtain rfl := Option.some.inj h
    refine (Tryd.strconv_Itoa a0 hc.1 hc.2 w hV).mono ?_
    rintro e w' ⟨rfl, k, os, rfl⟩
    exact ⟨rfl, Lib.below_grow _ w (Nat.le_refl _) k os⟩
  · cases h
end Go.Proofs.YtccdjchaaeligaaDoor

-- Out of the words that print.sh wrote for this seat: those that its proofs name (wip/tools/prune.py).
/- What stays true of memory while a law runs: the library's table of powers of ten holds its numbers. -/
import Derived.Test.YtccdjchaaeligaaDoorProg
import Derived.Lib.LaidTab
import Derived.Lib.ItoaNum
import Derived.Lib.AppendIntMem
import Derived.Stop.LaidErr
import Derived.MakeChecks
import Derived.KernelRfl
namespace Go.Proofs.YtccdjchaaeligaaDoor
open Go Go.RowKit
def TInv (w : World) : Prop := Lib.TabIs Tryd.prog w "internal/strconv.uint64pow10" .u64 Lib.pow10Tab
theorem TInv.below {w w' : World} (h : TInv w) (hb : Below w.heap.size w w') : TInv w' := Lib.tabBelow_of_tabIs h w' hb
theorem tinv_of_head {H : List (String × DataW Unit)} {W : World} {d : DataW Unit} (hd : d = Lib.tabData .u64 Lib.pow10Tab) (h : laidMet Tryd.prog (("internal/strconv.uint64pow10", d) :: H) W) : TInv W := by
  subst hd
  exact Lib.tabIs_of_head (g := 2) (t := 158) (n := 20) (by kernel_rfl) (by kernel_rfl) Tryd.underlying158 (e := 91) Tryd.underlying91 (by kernel_rfl) (by kernel_rfl) h
end Go.Proofs.YtccdjchaaeligaaDoor

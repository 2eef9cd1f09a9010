/- What stays true of memory while a law runs: the library's table of powers of ten holds its numbers. -/
import Derived.Test.YtmhmeifdnleoaaaDoorProg
import Derived.Lib.LaidTab
import Derived.Lib.ItoaNum
import Derived.Lib.AppendIntMem
import Derived.Stop.LaidErr
import Derived.MakeChecks
import Derived.KernelRfl
namespace Go.Proofs.YtmhmeifdnleoaaaDoor
open Go Go.RowKit
/-- The table of powers of ten lies where it was laid. -/
def TInv (w : World) : Prop := Lib.TabIs Tryd.prog w "internal/strconv.uint64pow10" .u64 Lib.pow10Tab
theorem TInv.below {w w' : World} (h : TInv w) (hb : Below w.heap.size w w') : TInv w' := Lib.tabBelow_of_tabIs h w' hb
theorem tinv_of_head {H : List (String × DataW Unit)} {W : World} {d : DataW Unit} (hd : d = Lib.tabData .u64 Lib.pow10Tab) (h : laidMet Tryd.prog (("internal/strconv.uint64pow10", d) :: H) W) : TInv W := by
  subst hd
  exact Lib.tabIs_of_head (g := 1) (t := 122) (n := 20) (by kernel_rfl) (by kernel_rfl) Tryd.underlying122 (e := 72) Tryd.underlying72 (by kernel_rfl) (by kernel_rfl) h
end Go.Proofs.YtmhmeifdnleoaaaDoor

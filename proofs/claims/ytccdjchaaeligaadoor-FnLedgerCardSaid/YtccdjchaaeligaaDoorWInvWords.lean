-- Out of the words that print.sh wrote for this seat: those that its proofs name (wip/tools/prune.py).
import Derived.Test.YtccdjchaaeligaaDoorWInv
import Derived.Test.YtccdjchaaeligaaDoorWFootNe
namespace Go.Proofs.YtccdjchaaeligaaDoorW.PrintWords
open Go.RowKit
end Go.Proofs.YtccdjchaaeligaaDoorW.PrintWords
namespace Go.Proofs.YtccdjchaaeligaaDoorW.PrintLast
section
variable {ops : Array Oper} {a : Act} {o og : Oper} {g : Nat} {t : Tmp} {u : Bool}
end
end Go.Proofs.YtccdjchaaeligaaDoorW.PrintLast

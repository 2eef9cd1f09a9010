-- Out of the words that print.sh wrote for this seat: those that its proofs name (wip/tools/prune.py).
import Derived.Test.YtmhmeifdnleoaaaDoorWInv
import Derived.Test.YtmhmeifdnleoaaaDoorWFootNe
namespace Go.Proofs.YtmhmeifdnleoaaaDoorW.PrintWords
open Go.RowKit
end Go.Proofs.YtmhmeifdnleoaaaDoorW.PrintWords
namespace Go.Proofs.YtmhmeifdnleoaaaDoorW.PrintLast
section
variable {ops : Array Oper} {a : Act} {o og : Oper} {g : Nat} {t : Tmp} {u : Bool}
end
end Go.Proofs.YtmhmeifdnleoaaaDoorW.PrintLast

-- Out of the words that print.sh wrote for this seat: those that its proofs name (wip/tools/prune.py).
/- A row of rows that is handed over whole, and an element's row that is lent to a call: what stays of the rest. -/
import Derived.Test.YtccdjchaaeligaaDoorWWords
import Derived.Test.YtccdjchaaeligaaDoorWApart
import Derived.Test.YtccdjchaaeligaaDoorWKept
import Derived.Lib.BufferMore
namespace Go.Proofs.YtccdjchaaeligaaDoorW.PrintWords
namespace Kd
end Kd
end Go.Proofs.YtccdjchaaeligaaDoorW.PrintWords

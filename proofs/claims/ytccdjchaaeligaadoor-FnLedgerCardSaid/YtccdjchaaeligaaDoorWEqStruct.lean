-- Out of the words that print.sh wrote for this seat: those that its proofs name (wip/tools/prune.py).
import Derived.Test.YtccdjchaaeligaaDoorWWords
import Derived.Laws.StructEq
/-! ### 53. '==' of structs as_ one Bool -/
namespace Go.Proofs.YtccdjchaaeligaaDoorW.PrintWords
open Go.RowKit
section
variable {P : Program} {d : Nat} {xs ys : Array Value} {f : Field} {fs : List Field} {a b : Value} {r s : Bool} {w : World}
end
end Go.Proofs.YtccdjchaaeligaaDoorW.PrintWords

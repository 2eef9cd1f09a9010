/- The one statement over plain values to which the law comes down, and how its arguments are laid open. -/
import Derived.Test.YtnfmlglhoboooaaDoorXFnExactPairHash2
import Derived.Test.YtnfmlglhoboooaaDoorXOpen
import Derived.KernelRfl
namespace Go.Proofs.YtnfmlglhoboooaaDoor.XGFnExactPairHash
open Go.RowKit Go.Proofs.YtnfmlglhoboooaaDoor.XOpen Go.Proofs.YtnfmlglhoboooaaDoor.XFnExactPairHash Go.Proofs.YtnfmlglhoboooaaDoorW.PrintWords

/-- The pure statement. -/
def Pure : Prop := ∀ (a0 : Int) (a1 : Int), (Lit.int .i64 a0).wf = true → (Lit.int .i64 a1).wf = true → ∃ k, laws_FnExactPairHash.f k a0 a1 = some true
end Go.Proofs.YtnfmlglhoboooaaDoor.XGFnExactPairHash

-- Written by program (wip/tools/rows.py) for this seat; not trusted: Lean checks it.
import Derived.Test.YtfdjgdjmllkdcaaDoorX17
import Derived.Test.YtfdjgdjmllkdcaaDoorGood
namespace Go.Proofs.YtfdjgdjmllkdcaaDoor.X
open Go.RowKit
/-- The pure statement of corebank/corebanklaw42.CollectOnce. -/
def corebanklaw42_CollectOnce.Pure : Prop := ∀ (l0 : List (S36)) (x1 : S25) (a2 : Int), GL36 l0 → G25 x1 → (Lit.int .i64 a2).wf = true → ∃ k, corebanklaw42_CollectOnce.f k l0 x1.f0 x1.f1 x1.f2 x1.f3 a2 = some true
end Go.Proofs.YtfdjgdjmllkdcaaDoor.X

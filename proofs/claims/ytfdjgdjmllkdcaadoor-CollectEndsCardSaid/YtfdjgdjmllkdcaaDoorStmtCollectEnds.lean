-- Written by program (wip/tools/rows.py) for this seat; not trusted: Lean checks it.
import Derived.Test.YtfdjgdjmllkdcaaDoorX33
import Derived.Test.YtfdjgdjmllkdcaaDoorGood
namespace Go.Proofs.YtfdjgdjmllkdcaaDoor.X
open Go.RowKit
/-- The pure statement of corebank/corebanklaw42.CollectEnds. -/
def corebanklaw42_CollectEnds.Pure : Prop := ∀ (l0 : List (S36)) (x1 : S25), GL36 l0 → G25 x1 → ∃ k, corebanklaw42_CollectEnds.f k l0 x1.f0 x1.f1 x1.f2 x1.f3 = some true
end Go.Proofs.YtfdjgdjmllkdcaaDoor.X

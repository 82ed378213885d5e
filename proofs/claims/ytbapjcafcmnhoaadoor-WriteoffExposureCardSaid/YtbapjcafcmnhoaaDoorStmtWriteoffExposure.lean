-- Written by program (wip/tools/rows.py) for this seat; not trusted: Lean checks it.
import Derived.Test.YtbapjcafcmnhoaaDoorX26
import Derived.Test.YtbapjcafcmnhoaaDoorGood
namespace Go.Proofs.YtbapjcafcmnhoaaDoor.X
open Go.RowKit
/-- The pure statement of corebank/corebanklaw39.WriteoffExposure. -/
def corebanklaw39_WriteoffExposure.Pure : Prop := ∀ (l0 : List (S27)), GL27 l0 → ∃ k, corebanklaw39_WriteoffExposure.f k l0 = some true
end Go.Proofs.YtbapjcafcmnhoaaDoor.X

-- Written by program (wip/tools/rows.py) for this seat; not trusted: Lean checks it.
import Derived.Test.YtfdjgdjmllkdcaaDoorX26
import Derived.Test.YtfdjgdjmllkdcaaDoorGood
namespace Go.Proofs.YtfdjgdjmllkdcaaDoor.X
open Go.RowKit
/-- The pure statement of corebank/corebanklaw42.CollectChecks. -/
def corebanklaw42_CollectChecks.Pure : Prop := ∀ (l0 : List (S36)) (a1 : Int), GL36 l0 → (Lit.int .i64 a1).wf = true → ∃ k, corebanklaw42_CollectChecks.f k l0 a1 = some true
end Go.Proofs.YtfdjgdjmllkdcaaDoor.X

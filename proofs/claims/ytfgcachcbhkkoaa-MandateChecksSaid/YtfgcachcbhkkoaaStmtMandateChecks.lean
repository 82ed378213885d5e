-- Written by program (wip/tools/rows.py) for this seat; not trusted: Lean checks it.
import Derived.Test.YtfgcachcbhkkoaaX16
import Derived.Test.YtfgcachcbhkkoaaGood
namespace Go.Proofs.Ytfgcachcbhkkoaa.X
open Go.RowKit
/-- The pure statement of corebank/corebanklaw41.MandateChecks. -/
def corebanklaw41_MandateChecks.Pure : Prop := ∀ (l0 : List (S28)), GL28 l0 → ∃ k, corebanklaw41_MandateChecks.f k l0 = some true
end Go.Proofs.Ytfgcachcbhkkoaa.X

-- Written by program (wip/tools/rows.py) for this seat; not trusted: Lean checks it.
import Derived.Test.YtfgcachcbhkkoaaX19
import Derived.Test.YtfgcachcbhkkoaaGood
namespace Go.Proofs.Ytfgcachcbhkkoaa.X
open Go.RowKit
/-- The pure statement of corebank/corebanklaw41.MandateSigns. -/
def corebanklaw41_MandateSigns.Pure : Prop := ∀ (l0 : List (S28)) (x1 : S28), GL28 l0 → G28 x1 → ∃ k, corebanklaw41_MandateSigns.f k l0 x1.f0 x1.f1 x1.f2 x1.f3 x1.f4 x1.f5 x1.f6 = some true
end Go.Proofs.Ytfgcachcbhkkoaa.X

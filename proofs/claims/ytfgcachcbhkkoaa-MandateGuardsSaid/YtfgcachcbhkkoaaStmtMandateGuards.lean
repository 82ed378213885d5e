-- Written by program (wip/tools/rows.py) for this seat; not trusted: Lean checks it.
import Derived.Test.YtfgcachcbhkkoaaX25
import Derived.Test.YtfgcachcbhkkoaaGood
namespace Go.Proofs.Ytfgcachcbhkkoaa.X
open Go.RowKit
/-- The pure statement of corebank/corebanklaw41.MandateGuards. -/
def LG.Pure : Prop := ∀ (l0 : List (S28)) (x1 : S36), GL28 l0 → G36 x1 → ∃ k, LG.f k l0 x1.f0 x1.f1 x1.f2 = some true
end Go.Proofs.Ytfgcachcbhkkoaa.X

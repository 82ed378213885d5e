-- Written by program (wip/tools/rows.py) for this seat; not trusted: Lean checks it.
import Derived.Test.YtfgcachcbhkkoaaX22
import Derived.Test.YtfgcachcbhkkoaaGood
namespace Go.Proofs.Ytfgcachcbhkkoaa.X
open Go.RowKit
/-- The pure statement of corebank/corebanklaw41.MandateRevokes. -/
def corebanklaw41_MandateRevokes.Pure : Prop := ∀ (l0 : List (S28)) (a1 : Int) (a2 : Int), GL28 l0 → (Lit.int .i64 a1).wf = true → (Lit.int .i64 a2).wf = true → ∃ k, corebanklaw41_MandateRevokes.f k l0 a1 a2 = some true
end Go.Proofs.Ytfgcachcbhkkoaa.X

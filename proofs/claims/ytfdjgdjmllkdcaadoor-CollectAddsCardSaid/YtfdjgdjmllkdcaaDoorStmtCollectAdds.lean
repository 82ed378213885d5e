-- Written by program (wip/tools/rows.py) for this seat; not trusted: Lean checks it.
import Derived.Test.YtfdjgdjmllkdcaaDoorX19
import Derived.Test.YtfdjgdjmllkdcaaDoorGood
namespace Go.Proofs.YtfdjgdjmllkdcaaDoor.X
open Go.RowKit
/-- The pure statement of corebank/corebanklaw42.CollectAdds. -/
def corebanklaw42_CollectAdds.Pure : Prop := ∀ (l0 : List (S36)) (l1 : List (S53)) (x2 : S38), GL36 l0 → GL53 l1 → G38 x2 → ∃ k, corebanklaw42_CollectAdds.f k l0 l1 x2.f0.f0 x2.f0.f1 x2.f0.f2 x2.f0.f3 x2.f0.f4 x2.f0.f5 x2.f0.f6 x2.f0.f7 x2.f0.f8 x2.f1 = some true
end Go.Proofs.YtfdjgdjmllkdcaaDoor.X

-- Written by program (wip/tools/rows.py) for this seat; not trusted: Lean checks it.
import Derived.Test.YtclllkbngkohlaaX31
import Derived.Test.YtclllkbngkohlaaGood
namespace Go.Proofs.Ytclllkbngkohlaa.X
open Go.RowKit
/-- The pure statement of corebank/corebanklaw46.AccessRights. -/
def corebanklaw46_AccessRights.Pure : Prop := ∀ (l0 : List (S25)) (a1 : ByteArray) (a2 : Int), GL25 l0 → a1.size ≤ 9223372036854775807 → (Lit.int .i64 a2).wf = true → ∃ k, corebanklaw46_AccessRights.f k l0 a1 a2 = some true
end Go.Proofs.Ytclllkbngkohlaa.X

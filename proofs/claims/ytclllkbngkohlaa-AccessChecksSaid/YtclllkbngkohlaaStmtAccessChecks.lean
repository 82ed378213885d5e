-- Written by program (wip/tools/rows.py) for this seat; not trusted: Lean checks it.
import Derived.Test.YtclllkbngkohlaaX21
import Derived.Test.YtclllkbngkohlaaGood
namespace Go.Proofs.Ytclllkbngkohlaa.X
open Go.RowKit
/-- The pure statement of corebank/corebanklaw46.AccessChecks. -/
def corebanklaw46_AccessChecks.Pure : Prop := ∀ (l0 : List (S25)) (a1 : ByteArray), GL25 l0 → a1.size ≤ 9223372036854775807 → ∃ k, corebanklaw46_AccessChecks.f k l0 a1 = some true
end Go.Proofs.Ytclllkbngkohlaa.X

-- Written by program (wip/tools/rows.py) for this seat; not trusted: Lean checks it.
import Derived.Test.YtclllkbngkohlaaX25
import Derived.Test.YtclllkbngkohlaaGood
namespace Go.Proofs.Ytclllkbngkohlaa.X
open Go.RowKit
/-- The pure statement of corebank/corebanklaw46.AccessDecides. -/
def corebanklaw46_AccessDecides.Pure : Prop := ∀ (l0 : List (S25)) (a1 : Int) (a2 : Int), GL25 l0 → (Lit.int .i64 a1).wf = true → (Lit.int .i64 a2).wf = true → ∃ k, corebanklaw46_AccessDecides.f k l0 a1 a2 = some true
end Go.Proofs.Ytclllkbngkohlaa.X

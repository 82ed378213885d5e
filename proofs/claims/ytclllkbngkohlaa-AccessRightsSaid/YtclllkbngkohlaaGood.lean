-- Written by program (wip/tools/rows.py) for this seat; not trusted: Lean checks it.
import Derived.Test.YtclllkbngkohlaaX0
namespace Go.Proofs.Ytclllkbngkohlaa.X
open Go.RowKit
def G25 (x : S25) : Prop := (x.f0.size ≤ 9223372036854775807) ∧ ((Lit.int .i64 x.f1).wf = true) ∧ ((Lit.int .i64 x.f2).wf = true)
def GL25 (l : List (S25)) : Prop := l.length ≤ 9223372036854775807 ∧ ∀ x ∈ l, G25 x
end Go.Proofs.Ytclllkbngkohlaa.X

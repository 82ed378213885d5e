-- Written by program (wip/tools/rows.py) for this seat; not trusted: Lean checks it.
import Derived.Test.YtfgcachcbhkkoaaX0
namespace Go.Proofs.Ytfgcachcbhkkoaa.X
open Go.RowKit
def G28 (x : S28) : Prop := ((Lit.int .i64 x.f0).wf = true) ∧ ((Lit.int .i64 x.f1).wf = true) ∧ ((Lit.int .i64 x.f2).wf = true) ∧ ((Lit.int .i64 x.f3).wf = true) ∧ ((Lit.int .i64 x.f4).wf = true) ∧ ((Lit.int .i64 x.f5).wf = true) ∧ (x.f6.size ≤ 9223372036854775807)
def GL28 (l : List (S28)) : Prop := l.length ≤ 9223372036854775807 ∧ ∀ x ∈ l, G28 x
def G36 (x : S36) : Prop := ((Lit.int .i64 x.f0).wf = true) ∧ ((Lit.int .i64 x.f1).wf = true) ∧ ((Lit.int .i64 x.f2).wf = true)
end Go.Proofs.Ytfgcachcbhkkoaa.X

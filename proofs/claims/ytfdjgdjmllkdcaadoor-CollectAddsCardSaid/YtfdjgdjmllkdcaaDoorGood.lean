-- Written by program (wip/tools/rows.py) for this seat; not trusted: Lean checks it.
import Derived.Test.YtfdjgdjmllkdcaaDoorX0
namespace Go.Proofs.YtfdjgdjmllkdcaaDoor.X
open Go.RowKit
def G36 (x : S36) : Prop := ((Lit.int .i64 x.f0).wf = true) ∧ ((Lit.int .i64 x.f1).wf = true) ∧ ((Lit.int .i64 x.f2).wf = true) ∧ ((Lit.int .i64 x.f3).wf = true) ∧ ((Lit.int .i64 x.f4).wf = true) ∧ ((Lit.int .i64 x.f5).wf = true) ∧ ((Lit.int .i64 x.f6).wf = true) ∧ ((Lit.int .i64 x.f7).wf = true) ∧ (x.f8.size ≤ 9223372036854775807)
def GL36 (l : List (S36)) : Prop := l.length ≤ 9223372036854775807 ∧ ∀ x ∈ l, G36 x
def G25 (x : S25) : Prop := ((Lit.int .i64 x.f0).wf = true) ∧ ((Lit.int .i64 x.f1).wf = true) ∧ ((Lit.int .i64 x.f2).wf = true) ∧ ((Lit.int .i64 x.f3).wf = true)
def G53 (x : S53) : Prop := ((Lit.int .i64 x.f0).wf = true) ∧ ((Lit.int .i64 x.f1).wf = true) ∧ ((Lit.int .i64 x.f2).wf = true) ∧ ((Lit.int .i64 x.f3).wf = true) ∧ ((Lit.int .i64 x.f4).wf = true) ∧ ((Lit.int .i64 x.f5).wf = true) ∧ (x.f6.size ≤ 9223372036854775807)
def GL53 (l : List (S53)) : Prop := l.length ≤ 9223372036854775807 ∧ ∀ x ∈ l, G53 x
def G38 (x : S38) : Prop := (G36 x.f0) ∧ ((Lit.int .i64 x.f1).wf = true)
end Go.Proofs.YtfdjgdjmllkdcaaDoor.X

-- Written by program (wip/tools/rows.py) for this seat; not trusted: Lean checks it.
import Derived.Test.YtbapjcafcmnhoaaDoorX0
namespace Go.Proofs.YtbapjcafcmnhoaaDoor.X
open Go.RowKit
def G23 (x : S23) : Prop := ((Lit.int .i64 x.f0).wf = true) ∧ ((Lit.int .i64 x.f1).wf = true) ∧ ((Lit.int .i64 x.f2).wf = true) ∧ ((Lit.int .i64 x.f3).wf = true) ∧ ((Lit.int .i64 x.f4).wf = true) ∧ ((Lit.int .i64 x.f5).wf = true) ∧ ((Lit.int .i64 x.f6).wf = true) ∧ ((Lit.int .i64 x.f7).wf = true) ∧ ((Lit.int .i64 x.f8).wf = true) ∧ ((Lit.int .i64 x.f9).wf = true) ∧ (x.f10.size ≤ 9223372036854775807) ∧ (x.f11.size ≤ 9223372036854775807)
def G43 (x : S43) : Prop := ((Lit.int .i64 x.f0).wf = true) ∧ ((Lit.int .i64 x.f1).wf = true) ∧ ((Lit.int .i64 x.f2).wf = true) ∧ ((Lit.int .i64 x.f3).wf = true)
def GL43 (l : List (S43)) : Prop := l.length ≤ 9223372036854775807 ∧ ∀ x ∈ l, G43 x
def G59 (x : S59) : Prop := ((Lit.int .i64 x.f0).wf = true) ∧ ((Lit.int .i64 x.f1).wf = true) ∧ (G23 x.f2)
def GL59 (l : List (S59)) : Prop := l.length ≤ 9223372036854775807 ∧ ∀ x ∈ l, G59 x
def G27 (x : S27) : Prop := ((Lit.int .i64 x.f0).wf = true) ∧ ((Lit.int .i64 x.f1).wf = true) ∧ ((Lit.int .i64 x.f2).wf = true) ∧ ((Lit.int .i64 x.f3).wf = true) ∧ ((Lit.int .i64 x.f4).wf = true) ∧ ((Lit.int .i64 x.f5).wf = true) ∧ ((Lit.int .i64 x.f6).wf = true) ∧ ((Lit.int .i64 x.f7).wf = true) ∧ ((Lit.int .i64 x.f8).wf = true) ∧ ((Lit.int .i64 x.f9).wf = true) ∧ ((Lit.int .i64 x.f10).wf = true) ∧ (G23 x.f11) ∧ (GL43 x.f12) ∧ (GL59 x.f13)
def GL27 (l : List (S27)) : Prop := l.length ≤ 9223372036854775807 ∧ ∀ x ∈ l, G27 x
end Go.Proofs.YtbapjcafcmnhoaaDoor.X

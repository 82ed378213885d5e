-- Written by program (wip/tools/rows.py) for this seat; not trusted: Lean checks it.
import Derived.Test.YtbapjcafcmnhoaaDoorX27
import Derived.Test.YtbapjcafcmnhoaaDoorGood
namespace Go.Proofs.YtbapjcafcmnhoaaDoor.X
open Go.RowKit
/-- The pure statement of corebank/corebanklaw39.WriteoffBalances. -/
def corebanklaw39_WriteoffBalances.Pure : Prop := ∀ (x0 : S27) (a1 : Int) (a2 : Int), G27 x0 → (Lit.int .i64 a1).wf = true → (Lit.int .i64 a2).wf = true → ∃ k, corebanklaw39_WriteoffBalances.f k x0.f0 x0.f1 x0.f2 x0.f3 x0.f4 x0.f5 x0.f6 x0.f7 x0.f8 x0.f9 x0.f10 x0.f11.f0 x0.f11.f1 x0.f11.f2 x0.f11.f3 x0.f11.f4 x0.f11.f5 x0.f11.f6 x0.f11.f7 x0.f11.f8 x0.f11.f9 x0.f11.f10 x0.f11.f11 x0.f12 x0.f13 a1 a2 = some true
end Go.Proofs.YtbapjcafcmnhoaaDoor.X

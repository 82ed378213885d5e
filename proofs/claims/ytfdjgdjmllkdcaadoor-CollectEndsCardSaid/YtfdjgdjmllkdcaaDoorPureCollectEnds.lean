/- CollectEnds: Settle and Return answer as the reference's do. -/
import Derived.Test.YtfdjgdjmllkdcaaDoorPureLib
import Derived.Test.YtfdjgdjmllkdcaaDoorPureLibE
import Derived.Test.YtfdjgdjmllkdcaaDoorPureLibR
import Derived.Test.YtfdjgdjmllkdcaaDoorPureLibS
import Derived.Test.YtfdjgdjmllkdcaaDoorStmtCollectEnds
import Derived.Test.YtfdjgdjmllkdcaaDoorX0
import Derived.Test.YtfdjgdjmllkdcaaDoorX3
import Derived.Test.YtfdjgdjmllkdcaaDoorX33
namespace Go.Proofs.YtfdjgdjmllkdcaaDoor.Pure
open Go.RowKit Go.Proofs.YtfdjgdjmllkdcaaDoor.X Go.Proofs.YtfdjgdjmllkdcaaDoorW.PrintWords Go.Proofs.YtfdjgdjmllkdcaaDoorW.PrintLast

theorem settle_len (l : List S36) (id day e : Int) (hl : l.length ≤ 100) : (settleV l id day e).1.length ≤ 9223372036854775807 := by
  unfold settleV
  (repeat' split) <;> simp <;> omega
theorem ret_len (l : List S36) (id reason day : Int) (hl : l.length ≤ 100) : (retV l id reason day).1.length ≤ 9223372036854775807 := by
  unfold retV
  (repeat' split) <;> simp <;> omega
theorem CollectEnds : corebanklaw42_CollectEnds.Pure := by
  intro l x g _
  apply Ev.rounds
  simp only [corebanklaw42_CollectEnds.f]
  refine Ev.now_ (g := corebanklaw42_few.f l) rfl ?_
  by_cases h : (l.length : Int) ≤ 80
  · refine Ev.pos (by simpa using h) ?_
    exact Ev.bnd (settle_ev l _ _ _ (by omega)) (Ev.bnd (rsettle_ev l _ _ _ (by omega)) (Ev.bnd (ret_ev l _ _ _ (by omega)) (Ev.bnd (rret_ev l _ _ _ (by omega)) (Ev.bnd (same_self _ (settle_len l _ _ _ (by omega))) (Ev.pos rfl (Ev.pos rfl (Ev.bnd (same_self _ (ret_len l _ _ _ (by omega))) (Ev.pos rfl (Ev.pos rfl live_end)))))))))
  · exact Ev.neg (by simpa using h) live_end
end Go.Proofs.YtfdjgdjmllkdcaaDoor.Pure

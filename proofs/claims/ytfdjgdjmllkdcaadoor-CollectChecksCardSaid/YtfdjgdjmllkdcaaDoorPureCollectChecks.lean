/- CollectChecks: Check and Due answer as the reference's do. -/
import Derived.Test.YtfdjgdjmllkdcaaDoorPureLib
import Derived.Test.YtfdjgdjmllkdcaaDoorPureLibC
import Derived.Test.YtfdjgdjmllkdcaaDoorPureLibD
import Derived.Test.YtfdjgdjmllkdcaaDoorPureLibDR
import Derived.Test.YtfdjgdjmllkdcaaDoorPureLibK
import Derived.Test.YtfdjgdjmllkdcaaDoorPureLibS
import Derived.Test.YtfdjgdjmllkdcaaDoorStmtCollectChecks
import Derived.Test.YtfdjgdjmllkdcaaDoorX26
import Derived.Test.YtfdjgdjmllkdcaaDoorX3
namespace Go.Proofs.YtfdjgdjmllkdcaaDoor.Pure
open Go.RowKit Go.Proofs.YtfdjgdjmllkdcaaDoor.X Go.Proofs.YtfdjgdjmllkdcaaDoorW.PrintWords Go.Proofs.YtfdjgdjmllkdcaaDoorW.PrintLast

theorem CollectChecks : corebanklaw42_CollectChecks.Pure := by
  intro l day g _
  apply Ev.rounds
  simp only [corebanklaw42_CollectChecks.f]
  refine Ev.now_ (g := corebanklaw42_few.f l) rfl ?_
  by_cases h : (l.length : Int) ≤ 80
  · refine Ev.pos (by simpa using h) (Ev.bnd (chk_ev l g) (Ev.bnd (rchk_ev l g) (Ev.pos rfl (Ev.bnd (due_ev l day (by omega)) (Ev.bnd (rdue_ev l day (by omega)) (Ev.bnd (same_self _ ?_) (Ev.pos rfl live_end)))))))
    have := List.length_filter_le (dueF day) l
    omega
  · exact Ev.neg (by simpa using h) live_end
end Go.Proofs.YtfdjgdjmllkdcaaDoor.Pure

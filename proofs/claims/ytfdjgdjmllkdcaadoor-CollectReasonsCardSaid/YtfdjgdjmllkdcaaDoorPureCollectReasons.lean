/- CollectReasons: Reason and Window answer as the reference's do. -/
import Derived.Test.YtfdjgdjmllkdcaaDoorPureLib
import Derived.Test.YtfdjgdjmllkdcaaDoorStmtCollectReasons
import Derived.Test.YtfdjgdjmllkdcaaDoorX3
import Derived.Test.YtfdjgdjmllkdcaaDoorX30
namespace Go.Proofs.YtfdjgdjmllkdcaaDoor.Pure
open Go.RowKit Go.Proofs.YtfdjgdjmllkdcaaDoor.X Go.Proofs.YtfdjgdjmllkdcaaDoorW.PrintWords Go.Proofs.YtfdjgdjmllkdcaaDoorW.PrintLast

theorem CollectReasons : corebanklaw42_CollectReasons.Pure := by
  intro e a _ _
  apply Ev.rounds
  simp only [corebanklaw42_CollectReasons.f]
  exact Ev.bnd (reason_ev e) (Ev.bnd (ref_reason_ev e) (Ev.pos rfl (Ev.now_ (g := collect_Window.f a) rfl (Ev.bnd (ref_window_ev a) (Ev.pos rfl live_end)))))
end Go.Proofs.YtfdjgdjmllkdcaaDoor.Pure

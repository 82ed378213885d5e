/- AccessChecks: for every list of users and every name, Check and Find answer as the reference does. No condition. -/
import Derived.Test.YtclllkbngkohlaaPureLib
import Derived.Test.YtclllkbngkohlaaStmtAccessChecks
import Derived.Test.YtclllkbngkohlaaX21
namespace Go.Proofs.Ytclllkbngkohlaa.Pure
open Go.RowKit Go.Proofs.Ytclllkbngkohlaa.X Go.Proofs.YtclllkbngkohlaaW.PrintWords Go.Proofs.YtclllkbngkohlaaW.PrintLast

theorem AccessChecks : corebanklaw46_AccessChecks.Pure := by
  intro l a g ha
  apply Ev.rounds
  obtain ⟨b, hb, _⟩ := great_ev l g.1
  simp only [corebanklaw46_AccessChecks.f]
  refine Ev.bnd hb ?_
  cases b with
  | true => exact Ev.ret rfl
  | false =>
    obtain ⟨r, h1, h2⟩ := check_same l g
    refine Ev.neg (by decide) (Ev.now_ (find_eq l a g.1) (Ev.bnd (ref_find l a g.1) (Ev.bnd h1 (Ev.bnd h2 (Ev.pos rfl (Ev.pos (by simp) (Ev.pos (by simp) (Ev.bnd live_true (Ev.ret rfl))))))))) 

end Go.Proofs.Ytclllkbngkohlaa.Pure

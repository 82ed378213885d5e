/- MandateChecks: for every list of mandates Check answers as the reference does. No condition. -/
import Derived.Test.YtfgcachcbhkkoaaPureLib
import Derived.Test.YtfgcachcbhkkoaaPureLib2
import Derived.Test.YtfgcachcbhkkoaaStmtMandateChecks
import Derived.Test.YtfgcachcbhkkoaaX16
namespace Go.Proofs.Ytfgcachcbhkkoaa.Pure
open Go.RowKit Go.Proofs.Ytfgcachcbhkkoaa.X Go.Proofs.YtfgcachcbhkkoaaW.PrintWords Go.Proofs.YtfgcachcbhkkoaaW.PrintLast

theorem MandateChecks : corebanklaw41_MandateChecks.Pure := by
  intro l g
  apply Ev.rounds
  obtain ⟨b, hb, _⟩ := short_ev l g.1
  obtain ⟨r, h1, h2, _⟩ := chk_ev l g
  simp only [corebanklaw41_MandateChecks.f]
  refine Ev.bnd hb ?_
  cases b with
  | true => exact Ev.pos rfl (Ev.bnd h1 (Ev.bnd h2 (Ev.pos rfl live_end)))
  | false => exact Ev.neg (by decide) live_end

end Go.Proofs.Ytfgcachcbhkkoaa.Pure

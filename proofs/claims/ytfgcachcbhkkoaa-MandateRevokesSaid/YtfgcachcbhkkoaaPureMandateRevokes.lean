/- MandateRevokes: for every list of mandates and any numbers, Revoke and Use answer as the reference does. No condition. -/
import Derived.Test.YtfgcachcbhkkoaaPureLib
import Derived.Test.YtfgcachcbhkkoaaPureLib2
import Derived.Test.YtfgcachcbhkkoaaStmtMandateRevokes
import Derived.Test.YtfgcachcbhkkoaaX22
namespace Go.Proofs.Ytfgcachcbhkkoaa.Pure
open Go.RowKit Go.Proofs.Ytfgcachcbhkkoaa.X Go.Proofs.YtfgcachcbhkkoaaW.PrintWords Go.Proofs.YtfgcachcbhkkoaaW.PrintLast

theorem MandateRevokes : corebanklaw41_MandateRevokes.Pure := by
  intro l id day g _ _
  apply Ev.rounds
  obtain ⟨b, hb, hf⟩ := short_ev l g.1
  simp only [corebanklaw41_MandateRevokes.f]
  refine Ev.bnd hb ?_
  cases b with
  | false => exact Ev.neg (by decide) live_end
  | true =>
    have hl := hf rfl
    exact Ev.pos rfl (Ev.bnd (revoke_ev l id day hl) (Ev.bnd (ref_revoke l id day hl) (Ev.bnd (use_ev l id day hl) (Ev.bnd (ref_use l id day hl) (Ev.bnd (same_self _ (rev_len l id day hl)) (Ev.pos rfl (Ev.pos rfl (Ev.bnd (same_self _ (use_len l id day hl)) (Ev.pos rfl (Ev.pos rfl live_end))))))))))

end Go.Proofs.Ytfgcachcbhkkoaa.Pure

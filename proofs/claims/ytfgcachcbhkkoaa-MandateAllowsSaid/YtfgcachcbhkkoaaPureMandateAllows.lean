/- MandateAllows: for every list of mandates and any numbers, Allows and Expired answer as the reference does. No condition. -/
import Derived.Test.YtfgcachcbhkkoaaPureLib
import Derived.Test.YtfgcachcbhkkoaaPureLib2
import Derived.Test.YtfgcachcbhkkoaaStmtMandateAllows
import Derived.Test.YtfgcachcbhkkoaaX0
import Derived.Test.YtfgcachcbhkkoaaX24
namespace Go.Proofs.Ytfgcachcbhkkoaa.Pure
open Go.RowKit Go.Proofs.Ytfgcachcbhkkoaa.X Go.Proofs.YtfgcachcbhkkoaaW.PrintWords Go.Proofs.YtfgcachcbhkkoaaW.PrintLast

theorem allows_loop (l : List S28) (hl : l.length ≤ 100) (id amt day : Int) : ∀ (d : Nat) (i : Int), 0 ≤ i → i + d = (l.length : Int) → Ev (fun k => corebanklaw41_MandateAllows.l0 k l i id amt day) true
  | 0, i, h0, h => by
    apply Ev.up
    simp only [corebanklaw41_MandateAllows.l0]
    exact Ev.neg (by omega) (Ev.bnd (allows_ev l id amt day (by omega)) (Ev.bnd (ref_allows l id amt day (by omega)) (Ev.pos rfl live_end)))
  | d + 1, i, h0, h => by
    have hw : wrap64 (i + 1) = i + 1 := w1 (n := (l.length : Int)) (by omega) (by omega) (by omega)
    apply Ev.up
    simp only [corebanklaw41_MandateAllows.l0, hw]
    exact Ev.pos (by omega) (Ev.pos h0 (Ev.now_ (expired_eq _ day) (Ev.now_ (ref_expired _ day) (Ev.neg (by simp) (allows_loop l hl id amt day d (i + 1) (by omega) (by omega))))))
theorem MandateAllows : corebanklaw41_MandateAllows.Pure := by
  intro l a g _
  apply Ev.rounds
  obtain ⟨b, hb, hf⟩ := short_ev l g.1
  simp only [corebanklaw41_MandateAllows.f]
  refine Ev.bnd hb ?_
  cases b with
  | false => exact Ev.neg (by decide) live_end
  | true => exact Ev.pos rfl (allows_loop l (hf rfl) _ _ _ l.length 0 (by omega) (by omega))

end Go.Proofs.Ytfgcachcbhkkoaa.Pure

/- MandateEnds: for every accepted list of mandates and any numbers: after Revoke no debit is permitted on the day or later; those before, and those of other mandates, are permitted as they were. No condition. -/
import Derived.Test.YtfgcachcbhkkoaaPureLib
import Derived.Test.YtfgcachcbhkkoaaPureLib2
import Derived.Test.YtfgcachcbhkkoaaStmtMandateEnds
import Derived.Test.YtfgcachcbhkkoaaX0
import Derived.Test.YtfgcachcbhkkoaaX26
namespace Go.Proofs.Ytfgcachcbhkkoaa.Pure
open Go.RowKit Go.Proofs.Ytfgcachcbhkkoaa.X Go.Proofs.YtfgcachcbhkkoaaW.PrintWords Go.Proofs.YtfgcachcbhkkoaaW.PrintLast

theorem allow_other (l : List S28) (p v : Int) (id amt day : Int) (h0 : 0 ≤ p) (h1 : p < (l.length : Int)) (hne : idx l id ≠ p) : allowV (setRev l p v) id amt day = allowV l id amt day := by
  have hr := idx_range l id
  unfold allowV
  rw [idx_rev l p v id h0 h1]
  by_cases h : idx l id < 0
  · rw [if_pos h, if_pos h]
  · rw [if_neg h, if_neg h, rev_rd l p v _ h0 h1 (by omega), if_neg hne]
theorem ends_loop (l : List S28) (hl : l.length ≤ 100) (id amt aday day : Int) (h0 : 0 ≤ idx l id) (hd : 1 ≤ day) (hz : (rd_T28 l (idx l id)).f5 = 0) : ∀ (d : Nat) (i : Int), 0 ≤ i → i + d = (l.length : Int) →
    Ev (fun k => corebanklaw41_MandateEnds.l0 k l day (setRev l (idx l id) day) i id amt aday) true
  | 0, i, hi, h => by
    have hr := idx_range l id
    have hp1 : idx l id < (l.length : Int) := by omega
    apply Ev.up
    simp only [corebanklaw41_MandateEnds.l0]
    refine Ev.neg (by omega) (Ev.bnd (allows_ev _ id amt aday (by rw [rev_lenS]; omega)) ?_)
    have e1 : allowV (setRev l (idx l id) day) id amt aday = allowM ⟨(rd_T28 l (idx l id)).f0, (rd_T28 l (idx l id)).f1, (rd_T28 l (idx l id)).f2, (rd_T28 l (idx l id)).f3, (rd_T28 l (idx l id)).f4, day, (rd_T28 l (idx l id)).f6⟩ amt aday := by
      unfold allowV
      rw [idx_rev l _ day id h0 hp1, if_neg (by omega), rev_rd l _ day _ h0 hp1 h0, if_pos rfl]
    have e2 : allowV l id amt aday = allowM (rd_T28 l (idx l id)) amt aday := by
      unfold allowV
      rw [if_neg (by omega)]
    refine Ev.ite (fun h3 => Ev.pos ?_ live_end) (fun h3 => Ev.bnd (allows_ev l id amt aday (by omega)) (Ev.pos ?_ live_end))
    · rw [e1]
      unfold allowM
      rw [if_pos]
      simp [stateB]; omega
    · rw [e1, e2]
      unfold allowM
      have hs : stateB ⟨(rd_T28 l (idx l id)).f0, (rd_T28 l (idx l id)).f1, (rd_T28 l (idx l id)).f2, (rd_T28 l (idx l id)).f3, (rd_T28 l (idx l id)).f4, day, (rd_T28 l (idx l id)).f6⟩ aday = stateB (rd_T28 l (idx l id)) aday := by
        have : ¬ day ≤ aday := by omega
        simp [stateB, hz, this]
      rw [hs]
      rfl
  | d + 1, i, hi, h => by
    have hw : wrap64 (i + 1) = i + 1 := w1 (n := (l.length : Int)) (by omega) (by omega) (by omega)
    have hr := idx_range l id
    have hp1 : idx l id < (l.length : Int) := by omega
    have ih := ends_loop l hl id amt aday day h0 hd hz d (i + 1) (by omega) (by omega)
    apply Ev.up
    simp only [corebanklaw41_MandateEnds.l0, hw]
    refine Ev.pos (by omega) (Ev.pos hi (Ev.ite (fun _ => ih) (fun hne => Ev.bnd (allows_ev _ _ amt aday (by rw [rev_lenS]; omega)) (Ev.bnd (allows_ev l _ amt aday (by omega)) (Ev.pos ?_ ih)))))
    refine allow_other l _ day _ amt aday h0 hp1 (fun e => ?_)
    have h3 := idx_id l _ (idx_self l i hi (by omega))
    rw [e, idx_id l id h0] at h3
    exact hne h3.symm
theorem MandateEnds : corebanklaw41_MandateEnds.Pure := by
  intro l a day g _ hd
  apply Ev.rounds
  obtain ⟨b, hb, hf⟩ := short_ev l g.1
  have ht : ∀ x : Bool, x = true → Ev (fun k => corebanklaw41_MandateEnds.j0 k l day x a.f0 a.f1 a.f2) true := by
    intro x hx
    subst hx
    apply Ev.up
    simp only [corebanklaw41_MandateEnds.j0]
    exact Ev.pos (by simp) live_end
  simp only [corebanklaw41_MandateEnds.f]
  refine Ev.bnd hb ?_
  cases b with
  | false => exact Ev.neg (by decide) (ht true rfl)
  | true =>
    have hl := hf rfl
    obtain ⟨r, h1, h2, h3⟩ := chk_ev l g
    refine Ev.pos (by simp) (Ev.bnd h2 ?_)
    by_cases hz : r = 0
    · have hok := h3.1 hz
      have e : (r != 0) = false := by simp [hz]
      rw [e]
      apply Ev.up
      simp only [corebanklaw41_MandateEnds.j0]
      refine Ev.neg (by decide) (Ev.bnd (revoke_ev l a.f0 day hl) (Ev.ite (fun h4 => ?_) (fun h4 => Ev.bnd (ref_revoke l a.f0 day hl) (Ev.pos ?_ (Ev.pos rfl live_end)))))
      · have hr := idx_range l a.f0
        have key : ¬ idx l a.f0 < 0 ∧ (rd_T28 l (idx l a.f0)).f5 = 0 ∧ 1 ≤ day ∧ day ≤ 73048 ∧ (rd_T28 l (idx l a.f0)).f3 ≤ day ∧ revV l a.f0 day = (setRev l (idx l a.f0) day, 0) := by
          unfold revV at h4 ⊢
          by_cases c1 : idx l a.f0 < 0
          · rw [if_pos c1] at h4; cases h4
          · rw [if_neg c1] at h4 ⊢
            by_cases c2 : (rd_T28 l (idx l a.f0)).f5 = 0
            · rw [if_pos c2] at h4 ⊢
              by_cases c3 : day < 1
              · rw [if_pos c3] at h4; cases h4
              · rw [if_neg c3] at h4 ⊢
                by_cases c4 : day > 73048
                · rw [if_pos c4] at h4; cases h4
                · rw [if_neg c4] at h4 ⊢
                  by_cases c5 : day < (rd_T28 l (idx l a.f0)).f3
                  · rw [if_pos c5] at h4; cases h4
                  · rw [if_neg c5]
                    exact ⟨c1, c2, by omega, by omega, by omega, rfl⟩
            · rw [if_neg c2] at h4; cases h4
        obtain ⟨k1, k2, k3, k4, k5, k6⟩ := key
        rw [k6]
        have hp0 : 0 ≤ idx l a.f0 := by omega
        have hp1 : idx l a.f0 < (l.length : Int) := by omega
        obtain ⟨q, hq1, _, hq3⟩ := chk_ev _ (rev_good l _ day hp0 hp1 ⟨k3, k4⟩ g)
        have hq0 := hq3.2 (rev_ok l _ day hp0 hp1 ⟨k3, k4⟩ k5 hok)
        rw [hq0] at hq1
        exact Ev.bnd hq1 (Ev.pos rfl (ends_loop l hl a.f0 a.f1 a.f2 day hp0 k3 k2 l.length 0 (by omega) (by omega)))
      · unfold revV at h4 ⊢
        (repeat' split) <;> first | rfl | (exfalso; simp_all; done)
    · exact ht _ (by simpa using hz)

end Go.Proofs.Ytfgcachcbhkkoaa.Pure

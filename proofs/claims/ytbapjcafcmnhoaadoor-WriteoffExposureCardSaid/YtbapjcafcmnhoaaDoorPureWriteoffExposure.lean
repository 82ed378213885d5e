/- WriteoffExposure: Exposure returns the specified sum. -/
import Derived.Test.YtbapjcafcmnhoaaDoorStmtWriteoffExposure
import Derived.Test.YtbapjcafcmnhoaaDoorX0
import Derived.Test.YtbapjcafcmnhoaaDoorX15
import Derived.Test.YtbapjcafcmnhoaaDoorX25
import Derived.Test.YtbapjcafcmnhoaaDoorX26
import Derived.Test.YtbapjcafcmnhoaaDoorX5
import Derived.Test.YtbapjcafcmnhoaaDoorYtbapjcafcmnhoaaDoorPureSExposure
namespace Go.Proofs.YtbapjcafcmnhoaaDoor.Pure
open Go.RowKit Go.Proofs.YtbapjcafcmnhoaaDoor.X Go.Proofs.YtbapjcafcmnhoaaDoorW.PrintWords Go.Proofs.YtbapjcafcmnhoaaDoorW.PrintLast

theorem wrap_three (n a b : Int) : wrap64 (n + wrap64 (a - b)) = wrap64 (wrap64 (n + a) - b) := by unfold wrap64; omega
theorem expo_loop (l : List S27) (hl : l.length ≤ 9223372036854775807) (h1 : ∀ j : Int, (rd_T27 l j).f12.length ≤ 9223372036854775807) (h2 : ∀ j : Int, GL43 (rd_T27 l j).f12) : ∀ (d : Nat) (n i : Int), 0 ≤ i → i + d = (l.length : Int) →
    ∃ r, Ev (fun k => writeoff_Exposure.l0 k n l (l.length : Int) i) r ∧ Ev (fun k => corebankref39_Exposure.l0 k l n i) r
  | 0, n, i, h0, h => by
    refine ⟨n, Ev.up ?_, Ev.up ?_⟩
    · simp only [writeoff_Exposure.l0]
      exact Ev.neg (by omega) (Ev.ret rfl)
    · simp only [corebankref39_Exposure.l0]
      exact Ev.neg (by omega) (Ev.ret rfl)
  | d + 1, n, i, h0, h => by
    have hw : wrap64 (i + 1) = i + 1 := w1 (n := (l.length : Int)) (by omega) (by omega) (by omega)
    obtain ⟨o, o1, o2⟩ := outst_both (rd_T27 l i) (h1 i) (rd_good _ (h2 i))
    have j2 : ∀ (m r : Int), Ev (fun k => corebankref39_Exposure.l0 k l m (i + 1)) r → Ev (fun k => corebankref39_Exposure.j2 k l m i) r := by
      intro m r e
      apply Ev.up
      simp only [corebankref39_Exposure.j2, hw]
      exact e
    have j1 : ∀ (m r : Int), Ev (fun k => corebankref39_Exposure.l0 k l (if (rd_T27 l i).f2 = 3 then wrap64 (wrap64 (m + (rd_T27 l i).f9) - (rd_T27 l i).f10) else m) (i + 1)) r → Ev (fun k => corebankref39_Exposure.j1 k l m i) r := by
      intro m r e
      apply Ev.up
      simp only [corebankref39_Exposure.j1]
      refine Ev.pos h0 (Ev.pos (by omega) (Ev.ite (fun c => ?_) (fun c => ?_)))
      · rw [if_pos c] at e
        exact j2 _ _ e
      · rw [if_neg c] at e
        exact j2 _ _ e
    by_cases c1 : (rd_T27 l i).f2 = 1
    · obtain ⟨r, e1, e2⟩ := expo_loop l hl h1 h2 d (wrap64 (n + o)) (i + 1) (by omega) (by omega)
      refine ⟨r, Ev.up ?_, Ev.up ?_⟩
      · simp only [writeoff_Exposure.l0, hw]
        exact Ev.pos (by omega) (Ev.pos h0 (Ev.pos (by omega) (Ev.pos c1 (Ev.bnd o1 e1))))
      · simp only [corebankref39_Exposure.l0]
        exact Ev.pos (by omega) (Ev.pos h0 (Ev.pos c1 (Ev.bnd o2 (j1 _ _ (by rw [if_neg (by omega)]; exact e2)))))
    · by_cases c3 : (rd_T27 l i).f2 = 3
      · obtain ⟨r, e1, e2⟩ := expo_loop l hl h1 h2 d (wrap64 (n + wrap64 ((rd_T27 l i).f9 - (rd_T27 l i).f10))) (i + 1) (by omega) (by omega)
        refine ⟨r, Ev.up ?_, Ev.up ?_⟩
        · simp only [writeoff_Exposure.l0, hw]
          exact Ev.pos (by omega) (Ev.pos h0 (Ev.pos (by omega) (Ev.neg c1 (Ev.pos c3 e1))))
        · simp only [corebankref39_Exposure.l0]
          exact Ev.pos (by omega) (Ev.pos h0 (Ev.neg c1 (j1 _ _ (by rw [if_pos c3, ← wrap_three]; exact e2))))
      · obtain ⟨r, e1, e2⟩ := expo_loop l hl h1 h2 d n (i + 1) (by omega) (by omega)
        refine ⟨r, Ev.up ?_, Ev.up ?_⟩
        · simp only [writeoff_Exposure.l0, hw]
          exact Ev.pos (by omega) (Ev.pos h0 (Ev.pos (by omega) (Ev.neg c1 (Ev.neg c3 e1))))
        · simp only [corebankref39_Exposure.l0]
          exact Ev.pos (by omega) (Ev.pos h0 (Ev.neg c1 (j1 _ _ (by rw [if_neg c3]; exact e2))))
theorem rd27_good (l : List S27) (h : GL27 l) (j : Int) : GL43 (rd_T27 l j).f12 := by
  unfold rd_T27
  by_cases hj : j.toNat < l.length
  · have hm : l.getD j.toNat z27 ∈ l := by
      rw [List.getD_eq_getElem?_getD, List.getElem?_eq_getElem hj]
      exact List.getElem_mem hj
    exact (h.2 _ hm).2.2.2.2.2.2.2.2.2.2.2.2.1
  · rw [List.getD_eq_getElem?_getD, List.getElem?_eq_none (by omega)]
    exact ⟨by simp [z27], by simp [z27]⟩
theorem law_loop (l : List S27) (hl : l.length ≤ 9223372036854775807) (g : GL27 l) : ∀ (d : Nat) (i : Int), 0 ≤ i → i + d = (l.length : Int) → Ev (fun k => corebanklaw39_WriteoffExposure.l0 k l i) true
  | 0, i, h0, h => by
    have gd := rd27_good l g
    obtain ⟨r, e1, e2⟩ := expo_loop l hl (fun j => (gd j).1) gd l.length 0 0 (by omega) (by omega)
    apply Ev.up
    simp only [corebanklaw39_WriteoffExposure.l0, writeoff_Exposure.f, corebankref39_Exposure.f]
    exact Ev.neg (by omega) (Ev.bnd e1 (Ev.bnd e2 (Ev.pos rfl live_end)))
  | d + 1, i, h0, h => by
    have hw : wrap64 (i + 1) = i + 1 := w1 (n := (l.length : Int)) (by omega) (by omega) (by omega)
    have ih := law_loop l hl g d (i + 1) (by omega) (by omega)
    have gd := rd27_good l g i
    obtain ⟨c, hc⟩ := check_tot (rd_T27 l i) gd.1
    apply Ev.up
    simp only [corebanklaw39_WriteoffExposure.l0, hw]
    have hf : ∃ b, corebanklaw39_few.f (rd_T27 l i).f0 (rd_T27 l i).f1 (rd_T27 l i).f2 (rd_T27 l i).f3 (rd_T27 l i).f4 (rd_T27 l i).f5 (rd_T27 l i).f6 (rd_T27 l i).f7 (rd_T27 l i).f8 (rd_T27 l i).f9 (rd_T27 l i).f10 (rd_T27 l i).f11.f0 (rd_T27 l i).f11.f1 (rd_T27 l i).f11.f2 (rd_T27 l i).f11.f3 (rd_T27 l i).f11.f4 (rd_T27 l i).f11.f5 (rd_T27 l i).f11.f6 (rd_T27 l i).f11.f7 (rd_T27 l i).f11.f8 (rd_T27 l i).f11.f9 (rd_T27 l i).f11.f10 (rd_T27 l i).f11.f11 (rd_T27 l i).f12 (rd_T27 l i).f13 = some b := by
      unfold corebanklaw39_few.f
      split
      · exact ⟨_, rfl⟩
      · exact ⟨_, rfl⟩
    obtain ⟨b, hf⟩ := hf
    exact Ev.pos (by omega) (Ev.pos h0 (Ev.now_ hf (Ev.ite (fun _ => Ev.bnd hc (Ev.ite (fun _ => ih) (fun _ => live_end))) (fun _ => live_end))))
theorem WriteoffExposure : corebanklaw39_WriteoffExposure.Pure := by
  intro l g
  apply Ev.rounds
  simp only [corebanklaw39_WriteoffExposure.f]
  exact Ev.ite (fun _ => live_end) (fun c => law_loop l (by omega) g l.length 0 (by omega) (by omega))
end Go.Proofs.YtbapjcafcmnhoaaDoor.Pure

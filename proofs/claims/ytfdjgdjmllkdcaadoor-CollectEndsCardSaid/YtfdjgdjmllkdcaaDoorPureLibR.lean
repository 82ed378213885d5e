import Derived.Test.YtfdjgdjmllkdcaaDoorEv
import Derived.Test.YtfdjgdjmllkdcaaDoorGood
import Derived.Test.YtfdjgdjmllkdcaaDoorPureLib
import Derived.Test.YtfdjgdjmllkdcaaDoorPureLibE
import Derived.Test.YtfdjgdjmllkdcaaDoorX0
import Derived.Test.YtfdjgdjmllkdcaaDoorX3
import Derived.Test.YtfdjgdjmllkdcaaDoorX31
import Derived.Test.YtfdjgdjmllkdcaaDoorX32
namespace Go.Proofs.YtfdjgdjmllkdcaaDoor.X
open Go.RowKit Go.Proofs.YtfdjgdjmllkdcaaDoorW.PrintWords Go.Proofs.YtfdjgdjmllkdcaaDoorW.PrintLast
set_option linter.unusedVariables false

theorem rsettle_ev (l : List S36) (id day e : Int) (hl : l.length ≤ 100) : Ev (fun k => corebankref42_Settle.f k l id day e) (settleV l id day e) := by
  have hr := idx_range l id
  simp only [corebankref42_Settle.f]
  refine Ev.bnd (ridx_ev l id (by omega)) ?_
  unfold settleV
  by_cases h : idx l id < 0
  · rw [if_pos h]; exact Ev.pos h (Ev.ret rfl)
  · rw [if_neg h]
    refine Ev.neg h (Ev.pos (by omega) (Ev.pos (by omega) ?_))
    have hp0 : 0 ≤ idx l id := by omega
    have hp1 : idx l id < (l.length : Int) := by omega
    by_cases h1 : (rd_T36 l (idx l id)).f7 = 1
    · rw [if_pos h1]
      refine Ev.pos h1 (Ev.now_ (rdate_eq day) ?_)
      by_cases h2 : dayB day = true
      · rw [if_pos h2]
        refine Ev.pos h2 (Ev.now_ (g := some _) rfl (Ev.pos (by simp; omega) (Ev.now_ (g := some _) rfl ?_)))
        by_cases h3 : e = 0
        · rw [if_pos h3]
          refine Ev.pos h3 (Ev.pos (by simpa using hp1) (Ev.now_ (g := some _) rfl (Ev.ret ?_)))
          simp only [List.nil_append]
          rw [rd_set l _ _ hp0 hp1, List.set_set]; rfl
        · rw [if_neg h3]
          refine Ev.neg h3 (Ev.bnd (ref_reason_ev e) (Ev.pos (by simpa using hp1) (Ev.now_ (g := some _) rfl (Ev.ret ?_))))
          simp only [List.nil_append]
          rw [rd_set l _ _ hp0 hp1, List.set_set]; rfl
      · rw [if_neg h2]; exact Ev.neg h2 (Ev.ret rfl)
    · rw [if_neg h1]; exact Ev.neg h1 (Ev.ret rfl)
theorem rret_ev (l : List S36) (id reason day : Int) (hl : l.length ≤ 100) : Ev (fun k => corebankref42_Return.f k l id reason day) (retV l id reason day) := by
  have hr := idx_range l id
  simp only [corebankref42_Return.f]
  refine Ev.bnd (ridx_ev l id (by omega)) ?_
  unfold retV
  by_cases h : idx l id < 0
  · rw [if_pos h]; exact Ev.pos h (Ev.ret rfl)
  · rw [if_neg h]
    refine Ev.neg h (Ev.pos (by omega) (Ev.pos (by omega) ?_))
    have hp0 : 0 ≤ idx l id := by omega
    have hp1 : idx l id < (l.length : Int) := by omega
    by_cases h1 : (rd_T36 l (idx l id)).f7 = 2
    · rw [if_pos h1]
      refine Ev.pos h1 ?_
      have hj : ∀ b : Bool, (b = true ↔ (reason < 1 ∨ reason > 4 ∨ dayB day = false ∨ day < (rd_T36 l (idx l id)).f4)) → Ev (fun k => corebankref42_Return.j0 k l reason day (idx l id) b) (if reason < 1 ∨ reason > 4 ∨ dayB day = false ∨ day < (rd_T36 l (idx l id)).f4 then ([], 1) else
          if (rd_T36 l (idx l id)).f4 < wrap64 (day - winV reason) then ([], 23) else (l.set (idx l id).toNat (setRt (rd_T36 l (idx l id)) reason day), 0)) := by
        intro b hb
        apply Ev.up
        simp only [corebankref42_Return.j0]
        cases b with
        | true => rw [if_pos (hb.1 rfl)]; exact Ev.pos rfl (Ev.ret rfl)
        | false =>
          have hn : ¬ (reason < 1 ∨ reason > 4 ∨ dayB day = false ∨ day < (rd_T36 l (idx l id)).f4) := fun h => by have := hb.2 h; cases this
          rw [if_neg hn]
          refine Ev.neg (by decide) (Ev.pos hp0 (Ev.pos hp1 (Ev.bnd (ref_window_ev reason) ?_)))
          by_cases h3 : (rd_T36 l (idx l id)).f4 < wrap64 (day - winV reason)
          · exact Ev.pos h3 (Ev.ret (by rw [if_pos h3]))
          · refine Ev.neg h3 (Ev.now_ (g := some _) rfl (Ev.pos (by simp; omega) (Ev.now_ (g := some _) rfl (Ev.pos (by simpa using hp1) (Ev.now_ (g := some _) rfl (Ev.now_ (g := some _) rfl (Ev.ret ?_)))))))
            simp only [List.nil_append]
            rw [if_neg h3]
            simp only [List.set_set, rd_set l _ _ hp0 hp1]; rfl
      refine Ev.ite (fun h2 => hj true (by simp [h2])) (fun h2 => Ev.ite (fun h3 => hj true (by simp [h3])) (fun h3 => Ev.now_ (rdate_eq day) (Ev.ite (fun h4 => hj _ (by simp [h2, h3, h4])) (fun h4 => hj true (by simp at h4; simp [h4])))))
    · rw [if_neg h1]; exact Ev.neg h1 (Ev.ret rfl)
end Go.Proofs.YtfdjgdjmllkdcaaDoor.X

import Derived.Test.YtfdjgdjmllkdcaaDoorEv
import Derived.Test.YtfdjgdjmllkdcaaDoorGood
import Derived.Test.YtfdjgdjmllkdcaaDoorPureLib
import Derived.Test.YtfdjgdjmllkdcaaDoorX0
import Derived.Test.YtfdjgdjmllkdcaaDoorX10
import Derived.Test.YtfdjgdjmllkdcaaDoorX3
import Derived.Test.YtfdjgdjmllkdcaaDoorX31
import Derived.Test.YtfdjgdjmllkdcaaDoorX8
import Derived.Test.YtfdjgdjmllkdcaaDoorX9
namespace Go.Proofs.YtfdjgdjmllkdcaaDoor.X
open Go.RowKit Go.Proofs.YtfdjgdjmllkdcaaDoorW.PrintWords Go.Proofs.YtfdjgdjmllkdcaaDoorW.PrintLast
set_option linter.unusedVariables false

def idx (l : List S36) (id : Int) : Int := idxP (fun x : S36 => x.f0 == id) l
theorem idx_range (l : List S36) (id : Int) : idx l id = -1 ∨ (0 ≤ idx l id ∧ idx l id < (l.length : Int)) := idxP_range _ l
theorem ridx_loop (l : List S36) (id : Int) (hl : l.length ≤ 9223372036854775807) : ∀ (d : Nat) (i : Int), 0 ≤ i → i + d = (l.length : Int) → (∀ j : Nat, (j : Int) < i → (l.getD j z36).f0 ≠ id) →
    Ev (fun k => corebankref42_index.l0 k l id i) (idx l id)
  | 0, i, h0, h, hb => by
    apply Ev.up
    simp only [corebankref42_index.l0]
    exact Ev.neg (by omega) (Ev.ret (idxP_miss _ l z36 i (by omega) (fun j hj => by simpa using hb j hj)).symm)
  | d + 1, i, h0, h, hb => by
    have hw : wrap64 (i + 1) = i + 1 := w1 (n := (l.length : Int)) (by omega) (by omega) (by omega)
    apply Ev.up
    simp only [corebankref42_index.l0, hw]
    refine Ev.pos (by omega) (Ev.pos h0 (Ev.ite (fun h1 => ?_) (fun h1 => ?_)))
    · exact Ev.ret (idxP_hit _ l z36 i h0 (by omega) (fun j hj => by simpa using hb j hj) (by show ((rd_T36 l i).f0 == id) = true; exact beq_iff_eq.mpr h1)).symm
    · refine ridx_loop l id hl d (i + 1) (by omega) (by omega) (fun j hj => ?_)
      by_cases e : (j : Int) = i
      · rw [← rd_nat l i j e]; exact h1
      · exact hb j (by omega)
theorem ridx_ev (l : List S36) (id : Int) (hl : l.length ≤ 9223372036854775807) : Ev (fun k => corebankref42_index.f k l id) (idx l id) :=
  ridx_loop l id hl l.length 0 (by omega) (by omega) (fun j hj => by omega)
theorem idx_loop (l : List S36) (id : Int) (hl : l.length ≤ 9223372036854775807) : ∀ (d : Nat) (i : Int), 0 ≤ i → i + d = (l.length : Int) → (∀ j : Nat, (j : Int) < i → (l.getD j z36).f0 ≠ id) →
    Ev (fun k => collect_index_loop.l0 k l id (l.length : Int) i) (idx l id)
  | 0, i, h0, h, hb => by
    apply Ev.up
    simp only [collect_index_loop.l0]
    exact Ev.neg (by omega) (Ev.ret (idxP_miss _ l z36 i (by omega) (fun j hj => by simpa using hb j hj)).symm)
  | d + 1, i, h0, h, hb => by
    have hw : wrap64 (i + 1) = i + 1 := w1 (n := (l.length : Int)) (by omega) (by omega) (by omega)
    apply Ev.up
    simp only [collect_index_loop.l0, hw, collect_index_c.f, Option.bind_some]
    refine Ev.pos (by omega) (Ev.pos h0 (Ev.pos (by omega) (Ev.ite (fun h1 => ?_) (fun h1 => ?_))))
    · exact Ev.ret (idxP_hit _ l z36 i h0 (by omega) (fun j hj => by simpa using hb j hj) h1).symm
    · refine idx_loop l id hl d (i + 1) (by omega) (by omega) (fun j hj => ?_)
      by_cases e : (j : Int) = i
      · rw [← rd_nat l i j e]; simpa using h1
      · exact hb j (by omega)
theorem idx_ev (l : List S36) (id : Int) (hl : l.length ≤ 9223372036854775807) : Ev (fun k => collect_index.f k l id) (idx l id) :=
  idx_loop l id hl l.length 0 (by omega) (by omega) (fun j hj => by omega)
theorem rd_set (l : List S36) (p : Int) (x : S36) (h0 : 0 ≤ p) (h1 : p < (l.length : Int)) : rd_T36 (l.set p.toNat x) p = x := by
  unfold rd_T36
  rw [getD_at _ _ _ (by simp; omega)]
  simp
def setSt (x : S36) (day : Int) : S36 := ⟨x.f0, x.f1, x.f2, x.f3, day, x.f5, x.f6, 2, x.f8⟩
def setRf (x : S36) (e : Int) : S36 := ⟨x.f0, x.f1, x.f2, x.f3, x.f4, x.f5, reasonV e, 4, x.f8⟩
def setRt (x : S36) (reason day : Int) : S36 := ⟨x.f0, x.f1, x.f2, x.f3, x.f4, day, reason, 3, x.f8⟩
def settleV (l : List S36) (id day e : Int) : List S36 × Int :=
  if idx l id < 0 then ([], 11) else if (rd_T36 l (idx l id)).f7 = 1 then (if dayB day = true then
    (if e = 0 then (l.set (idx l id).toNat (setSt (rd_T36 l (idx l id)) day), 0) else (l.set (idx l id).toNat (setRf (rd_T36 l (idx l id)) e), 0)) else ([], 1)) else ([], 17)
def retV (l : List S36) (id reason day : Int) : List S36 × Int :=
  if idx l id < 0 then ([], 11) else if (rd_T36 l (idx l id)).f7 = 2 then (if reason < 1 ∨ reason > 4 ∨ dayB day = false ∨ day < (rd_T36 l (idx l id)).f4 then ([], 1) else
    if (rd_T36 l (idx l id)).f4 < wrap64 (day - winV reason) then ([], 23) else (l.set (idx l id).toNat (setRt (rd_T36 l (idx l id)) reason day), 0)) else ([], 17)
theorem settle_ev (l : List S36) (id day e : Int) (hl : l.length ≤ 100) : Ev (fun k => collect_Settle.f k l id day e) (settleV l id day e) := by
  have hr := idx_range l id
  simp only [collect_Settle.f]
  refine Ev.bnd (idx_ev l id (by omega)) ?_
  unfold settleV
  by_cases h : idx l id < 0
  · rw [if_pos h]; exact Ev.pos h (Ev.ret rfl)
  · rw [if_neg h]
    refine Ev.neg h (Ev.pos (by omega) (Ev.pos (by omega) ?_))
    have hp0 : 0 ≤ idx l id := by omega
    have hp1 : idx l id < (l.length : Int) := by omega
    by_cases h1 : (rd_T36 l (idx l id)).f7 = 1
    · rw [if_pos h1]
      refine Ev.pos h1 (Ev.now_ (date_eq day) ?_)
      by_cases h2 : dayB day = true
      · rw [if_pos h2]
        refine Ev.pos h2 (Ev.now_ (clone_eq l hl) ?_)
        by_cases h3 : e = 0
        · rw [if_pos h3]
          refine Ev.pos h3 (Ev.pos hp1 (Ev.now_ (g := some _) rfl (Ev.ret ?_)))
          rw [rd_set l _ _ hp0 hp1, List.set_set]; rfl
        · rw [if_neg h3]
          refine Ev.neg h3 (Ev.bnd (reason_ev e) (Ev.pos hp1 (Ev.now_ (g := some _) rfl (Ev.ret ?_))))
          rw [rd_set l _ _ hp0 hp1, List.set_set]; rfl
      · rw [if_neg h2]; exact Ev.neg h2 (Ev.ret rfl)
    · rw [if_neg h1]; exact Ev.neg h1 (Ev.ret rfl)
theorem ret_ev (l : List S36) (id reason day : Int) (hl : l.length ≤ 100) : Ev (fun k => collect_Return.f k l id reason day) (retV l id reason day) := by
  have hr := idx_range l id
  simp only [collect_Return.f]
  refine Ev.bnd (idx_ev l id (by omega)) ?_
  unfold retV
  by_cases h : idx l id < 0
  · rw [if_pos h]; exact Ev.pos h (Ev.ret rfl)
  · rw [if_neg h]
    refine Ev.neg h (Ev.pos (by omega) (Ev.pos (by omega) ?_))
    have hp0 : 0 ≤ idx l id := by omega
    have hp1 : idx l id < (l.length : Int) := by omega
    by_cases h1 : (rd_T36 l (idx l id)).f7 = 2
    · rw [if_pos h1]
      refine Ev.pos h1 ?_
      have hj : ∀ b : Bool, (b = true ↔ (reason < 1 ∨ reason > 4 ∨ dayB day = false ∨ day < (rd_T36 l (idx l id)).f4)) → Ev (fun k => collect_Return.j0 k l reason day (idx l id) b) (if reason < 1 ∨ reason > 4 ∨ dayB day = false ∨ day < (rd_T36 l (idx l id)).f4 then ([], 1) else
          if (rd_T36 l (idx l id)).f4 < wrap64 (day - winV reason) then ([], 23) else (l.set (idx l id).toNat (setRt (rd_T36 l (idx l id)) reason day), 0)) := by
        intro b hb
        apply Ev.up
        simp only [collect_Return.j0]
        cases b with
        | true => rw [if_pos (hb.1 rfl)]; exact Ev.pos rfl (Ev.ret rfl)
        | false =>
          have hn : ¬ (reason < 1 ∨ reason > 4 ∨ dayB day = false ∨ day < (rd_T36 l (idx l id)).f4) := fun h => by have := hb.2 h; cases this
          rw [if_neg hn]
          refine Ev.neg (by decide) (Ev.pos hp0 (Ev.pos hp1 (Ev.now_ (g := collect_Window.f reason) rfl ?_)))
          by_cases h3 : (rd_T36 l (idx l id)).f4 < wrap64 (day - winV reason)
          · exact Ev.pos h3 (Ev.ret (by rw [if_pos h3]))
          · refine Ev.neg h3 (Ev.now_ (clone_eq l hl) (Ev.pos hp1 (Ev.now_ (g := some _) rfl (Ev.now_ (g := some _) rfl (Ev.ret ?_)))))
            rw [if_neg h3]
            simp only [List.set_set, rd_set l _ _ hp0 hp1]; rfl
      refine Ev.ite (fun h2 => hj true (by simp [h2])) (fun h2 => Ev.ite (fun h3 => hj true (by simp [h3])) (fun h3 => Ev.now_ (date_eq day) (Ev.ite (fun h4 => hj _ (by simp [h2, h3, h4])) (fun h4 => hj true (by simp at h4; simp [h4])))))
    · rw [if_neg h1]; exact Ev.neg h1 (Ev.ret rfl)
end Go.Proofs.YtfdjgdjmllkdcaaDoor.X

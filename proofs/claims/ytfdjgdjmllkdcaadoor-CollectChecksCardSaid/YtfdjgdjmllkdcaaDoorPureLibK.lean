import Derived.Test.YtfdjgdjmllkdcaaDoorEv
import Derived.Test.YtfdjgdjmllkdcaaDoorGood
import Derived.Test.YtfdjgdjmllkdcaaDoorPureLib
import Derived.Test.YtfdjgdjmllkdcaaDoorPureLibC
import Derived.Test.YtfdjgdjmllkdcaaDoorX0
import Derived.Test.YtfdjgdjmllkdcaaDoorX23
import Derived.Test.YtfdjgdjmllkdcaaDoorX24
namespace Go.Proofs.YtfdjgdjmllkdcaaDoor.X
open Go.RowKit Go.Proofs.YtfdjgdjmllkdcaaDoorW.PrintWords Go.Proofs.YtfdjgdjmllkdcaaDoorW.PrintLast
set_option linter.unusedVariables false

theorem any_eq (q : S36 → Bool) (l : List S36) : ∀ (d : Nat) (i : Int), 0 ≤ i → i + d = (l.length : Int) → anyF (fun j => q (rd_T36 l j)) d i = (l.drop i.toNat).any q
  | 0, i, h0, h => by
    rw [List.drop_eq_nil_of_le (by omega)]; rfl
  | d + 1, i, h0, h => by
    have e : rd_T36 l i = l[i.toNat]'(by omega) := by unfold rd_T36; exact getD_at _ _ _ (by omega)
    rw [List.drop_eq_getElem_cons (by omega)]
    simp only [anyF, List.any_cons, e]
    rw [any_eq q l d (i + 1) (by omega) (by omega), show (i + 1).toNat = i.toNat + 1 by omega]
theorem beq_toList (a b : ByteArray) : (a.data.toList == b.data.toList) = true ↔ a.toList = b.toList := by
  rw [ByteArray.toList_eq, ByteArray.toList_eq, beq_iff_eq]
theorem known_loop (l : List S36) (s : ByteArray) (hl : l.length ≤ 9223372036854775807) : ∀ (d : Nat) (i : Int), 0 ≤ i → i + d = (l.length : Int) → Ev (fun k => corebankref42_known.l0 k l s i) (anyF (fun j => (rd_T36 l j).f8.data.toList == s.data.toList) d i)
  | 0, i, h0, h => by
    apply Ev.up
    simp only [corebankref42_known.l0]
    exact Ev.neg (by omega) (Ev.ret rfl)
  | d + 1, i, h0, h => by
    have hw : wrap64 (i + 1) = i + 1 := w1 (n := (l.length : Int)) (by omega) (by omega) (by omega)
    have ih := known_loop l s hl d (i + 1) (by omega) (by omega)
    apply Ev.up
    simp only [corebankref42_known.l0, hw]
    refine Ev.pos (by omega) (Ev.pos h0 (Ev.ite (fun h1 => Ev.ret ?_) (fun h1 => ?_)))
    · simp only [anyF, (beq_toList _ _).2 h1, Bool.true_or]
    · have e : ((rd_T36 l i).f8.data.toList == s.data.toList) = false := by
        rw [Bool.eq_false_iff]; exact fun h => h1 ((beq_toList _ _).1 h)
      simp only [anyF, e, Bool.false_or]; exact ih
theorem known_ev (l : List S36) (s : ByteArray) (hl : l.length ≤ 9223372036854775807) : Ev (fun k => corebankref42_known.f k l s) (keyIn l s) := by
  have := known_loop l s hl l.length 0 (by omega) (by omega)
  rw [any_eq (fun d => d.f8.data.toList == s.data.toList) l l.length 0 (by omega) (by omega)] at this
  exact this
theorem rchk_loop (l : List S36) (g : GL36 l) : ∀ (d : Nat) (i : Int), 0 ≤ i → i + d = (l.length : Int) → Ev (fun k => corebankref42_Check.l0 k l i) (chkR d l i)
  | 0, i, h0, h => by
    apply Ev.up
    simp only [corebankref42_Check.l0]
    exact Ev.neg (by omega) (Ev.ret rfl)
  | d + 1, i, h0, h => by
    have hl := g.1
    have hi : i < (l.length : Int) := by omega
    have hw : wrap64 (i + 1) = i + 1 := w1 (n := (l.length : Int)) (by omega) (by omega) (by omega)
    have hwm : wrap64 (i - 1) = i - 1 := wm1 (by omega) (by omega)
    have ih := rchk_loop l g d (i + 1) (by omega) (by omega)
    have hj : ∀ b : Bool, b = !shapeB (rd_T36 l i) → Ev (fun k => corebankref42_Check.j1 k l i b) (chkR (d + 1) l i) := by
      intro b hb
      apply Ev.up
      simp only [corebankref42_Check.j1, hwm]
      cases hs : shapeB (rd_T36 l i) with
      | false =>
        rw [hs] at hb; subst hb
        exact Ev.pos rfl (Ev.ret (by simp [chkR, elemR, hs]))
      | true =>
        rw [hs] at hb; subst hb
        have hj2 : ∀ b : Bool, (b = true ↔ (0 < i ∧ (rd_T36 l i).f0 ≤ (rd_T36 l (i - 1)).f0)) → Ev (fun k => corebankref42_Check.j2 k l i b) (chkR (d + 1) l i) := by
          intro b hb
          apply Ev.up
          simp only [corebankref42_Check.j2, hw]
          cases b with
          | true => exact Ev.pos rfl (Ev.ret (by simp [chkR, elemR, hs, hb.1 rfl]))
          | false =>
            have hn : ¬ (0 < i ∧ (rd_T36 l i).f0 ≤ (rd_T36 l (i - 1)).f0) := fun h => by have := hb.2 h; cases this
            refine Ev.neg (by decide) (Ev.pos h0 (Ev.pos (by omega) (Ev.pos hi (Ev.bnd (known_ev _ _ (by simp; omega)) (Ev.ite (fun h5 => Ev.ret ?_) (fun h5 => ?_))))))
            · rw [chkR, elemR, if_pos hs, if_neg hn, if_pos h5]; rfl
            · rw [chkR, elemR, if_pos hs, if_neg hn, if_neg h5, if_pos rfl]; exact ih
        refine Ev.neg (by decide) (Ev.ite (fun h1 => Ev.pos h0 (Ev.pos hi (Ev.pos (by omega) (Ev.pos (by omega) (hj2 _ ?_))))) (fun h1 => hj2 _ ?_))
        · rw [decide_eq_true_eq]; exact ⟨fun h => ⟨h1, h⟩, fun h => h.2⟩
        · exact ⟨(fun h => by cases h), (fun h => absurd h.1 h1)⟩
    apply Ev.up
    simp only [corebankref42_Check.l0]
    refine Ev.pos hi (Ev.pos h0 (Ev.bnd (rshaped_ev _ (size_of l g i h0 hi)) (Ev.ite (fun h1 => Ev.ite (fun h2 => hj true ?_) (fun h2 => Ev.bnd (rfits_ev _) (hj _ ?_))) (fun h1 => hj true ?_))))
    · simp [shapeB, show ¬ 1 ≤ (rd_T36 l i).f1 by omega]
    · simp only [shB, Bool.and_eq_true] at h1
      simp [shapeB, h1.1, h1.2.1, h1.2.2.1, h1.2.2.2, show 1 ≤ (rd_T36 l i).f1 by omega]
    · cases hs : shapeB (rd_T36 l i) with
      | false => rfl
      | true =>
        simp only [shapeB, Bool.and_eq_true] at hs
        exact absurd (show shB (rd_T36 l i) = true by simp only [shB, Bool.and_eq_true]; exact ⟨hs.1, hs.2.2.1, hs.2.2.2.1, hs.2.2.2.2.1⟩) h1
theorem rchk_ev (l : List S36) (g : GL36 l) : Ev (fun k => corebankref42_Check.f k l) (chkV l) := by
  simp only [corebankref42_Check.f, chkV]
  refine Ev.ite (fun h => ?_) (fun h => ?_)
  · rw [if_pos h]; exact Ev.ret rfl
  · rw [if_neg h]; exact rchk_loop l g l.length 0 (by omega) (by omega)
end Go.Proofs.YtfdjgdjmllkdcaaDoor.X

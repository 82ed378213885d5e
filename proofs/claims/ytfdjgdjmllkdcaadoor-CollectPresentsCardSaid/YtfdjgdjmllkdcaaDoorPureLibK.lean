import Derived.Test.YtfdjgdjmllkdcaaDoorEv
import Derived.Test.YtfdjgdjmllkdcaaDoorGood
import Derived.Test.YtfdjgdjmllkdcaaDoorPureLib
import Derived.Test.YtfdjgdjmllkdcaaDoorPureLibC
import Derived.Test.YtfdjgdjmllkdcaaDoorX0
import Derived.Test.YtfdjgdjmllkdcaaDoorX23
namespace Go.Proofs.YtfdjgdjmllkdcaaDoor.X
open Go.RowKit Go.Proofs.YtfdjgdjmllkdcaaDoorW.PrintWords Go.Proofs.YtfdjgdjmllkdcaaDoorW.PrintLast
set_option linter.unusedVariables false

theorem any_eq (q : S36 → Bool) (l : List S36) : ∀ (d : Nat) (i : Int), 0 ≤ i → i + d = (l.length : Int) → anyF (fun j => q (rd_T36 l j)) d i = (l.drop i.toNat).any q
  | 0, i, h0, h => by
    rw [List.drop_eq_nil_of_le (by omega)]; rfl
  | d + 1, i, h0, h => by
    have e : rd_T36 l i = l[i.toNat]'(by omega) := by unfold rd_T36; exact getD_at _ _ _ (by omega)
    rw [List.drop_eq_getElem_cons (by omega)]
    simp only [anyF, List.any_cons, e]
    rw [any_eq q l d (i + 1) (by omega) (by omega), show (i + 1).toNat = i.toNat + 1 by omega]
theorem beq_toList (a b : ByteArray) : (a.data.toList == b.data.toList) = true ↔ a.toList = b.toList := by
  rw [ByteArray.toList_eq, ByteArray.toList_eq, beq_iff_eq]
theorem known_loop (l : List S36) (s : ByteArray) (hl : l.length ≤ 9223372036854775807) : ∀ (d : Nat) (i : Int), 0 ≤ i → i + d = (l.length : Int) → Ev (fun k => corebankref42_known.l0 k l s i) (anyF (fun j => (rd_T36 l j).f8.data.toList == s.data.toList) d i)
  | 0, i, h0, h => by
    apply Ev.up
    simp only [corebankref42_known.l0]
    exact Ev.neg (by omega) (Ev.ret rfl)
  | d + 1, i, h0, h => by
    have hw : wrap64 (i + 1) = i + 1 := w1 (n := (l.length : Int)) (by omega) (by omega) (by omega)
    have ih := known_loop l s hl d (i + 1) (by omega) (by omega)
    apply Ev.up
    simp only [corebankref42_known.l0, hw]
    refine Ev.pos (by omega) (Ev.pos h0 (Ev.ite (fun h1 => Ev.ret ?_) (fun h1 => ?_)))
    · simp only [anyF, (beq_toList _ _).2 h1, Bool.true_or]
    · have e : ((rd_T36 l i).f8.data.toList == s.data.toList) = false := by
        rw [Bool.eq_false_iff]; exact fun h => h1 ((beq_toList _ _).1 h)
      simp only [anyF, e, Bool.false_or]; exact ih
theorem known_ev (l : List S36) (s : ByteArray) (hl : l.length ≤ 9223372036854775807) : Ev (fun k => corebankref42_known.f k l s) (keyIn l s) := by
  have := known_loop l s hl l.length 0 (by omega) (by omega)
  rw [any_eq (fun d => d.f8.data.toList == s.data.toList) l l.length 0 (by omega) (by omega)] at this
  exact this
end Go.Proofs.YtfdjgdjmllkdcaaDoor.X

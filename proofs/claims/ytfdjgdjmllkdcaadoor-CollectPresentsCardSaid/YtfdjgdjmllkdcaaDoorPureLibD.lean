import Derived.Test.YtfdjgdjmllkdcaaDoorEv
import Derived.Test.YtfdjgdjmllkdcaaDoorGood
import Derived.Test.YtfdjgdjmllkdcaaDoorPureLib
import Derived.Test.YtfdjgdjmllkdcaaDoorX0
import Derived.Test.YtfdjgdjmllkdcaaDoorX14
namespace Go.Proofs.YtfdjgdjmllkdcaaDoor.X
open Go.RowKit Go.Proofs.YtfdjgdjmllkdcaaDoorW.PrintWords Go.Proofs.YtfdjgdjmllkdcaaDoorW.PrintLast
set_option linter.unusedVariables false

def dueF (day : Int) (x : S36) : Bool := decide (x.f7 = 1) && decide (x.f3 ≤ day)
theorem due_loop (l : List S36) (day : Int) (hl : l.length ≤ 100) : ∀ (d : Nat) (i : Int) (acc : List S36), 0 ≤ i → i + d = (l.length : Int) → acc.length ≤ i.toNat → Ev (fun k => collect_Due.l0 k day acc l (l.length : Int) i) (acc ++ (l.drop i.toNat).filter (dueF day))
  | 0, i, acc, h0, h, ha => by
    apply Ev.up
    simp only [collect_Due.l0]
    exact Ev.neg (by omega) (Ev.ret (by rw [List.drop_eq_nil_of_le (by omega)]; simp))
  | d + 1, i, acc, h0, h, ha => by
    have hw : wrap64 (i + 1) = i + 1 := w1 (n := (l.length : Int)) (by omega) (by omega) (by omega)
    have e : rd_T36 l i = l[i.toNat]'(by omega) := by unfold rd_T36; exact getD_at _ _ _ (by omega)
    have e2 : l.drop i.toNat = rd_T36 l i :: l.drop (i + 1).toNat := by rw [List.drop_eq_getElem_cons (by omega), e, show (i + 1).toNat = i.toNat + 1 by omega]
    rw [e2]
    apply Ev.up
    simp only [collect_Due.l0, hw]
    refine Ev.pos (by omega) (Ev.pos h0 (Ev.pos (by omega) (Ev.ite (fun h1 => Ev.ite (fun h2 => Ev.pos (by omega) ?_) (fun h2 => ?_)) (fun h1 => ?_))))
    · have := due_loop l day hl d (i + 1) (acc ++ [rd_T36 l i]) (by omega) (by omega) (by simp; omega)
      rw [List.filter_cons_of_pos (by simp [dueF, h1, h2])]
      rw [List.append_assoc] at this
      exact this
    · have := due_loop l day hl d (i + 1) acc (by omega) (by omega) (by omega)
      simpa [dueF, h1, h2] using this
    · have := due_loop l day hl d (i + 1) acc (by omega) (by omega) (by omega)
      simpa [dueF, h1] using this
theorem due_ev (l : List S36) (day : Int) (hl : l.length ≤ 100) : Ev (fun k => collect_Due.f k l day) (l.filter (dueF day)) :=
  due_loop l day hl l.length 0 [] (by omega) (by omega) (by simp)
end Go.Proofs.YtfdjgdjmllkdcaaDoor.X

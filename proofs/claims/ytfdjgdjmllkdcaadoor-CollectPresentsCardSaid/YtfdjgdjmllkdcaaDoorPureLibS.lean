import Derived.Test.YtfdjgdjmllkdcaaDoorEv
import Derived.Test.YtfdjgdjmllkdcaaDoorGood
import Derived.Test.YtfdjgdjmllkdcaaDoorX0
import Derived.Test.YtfdjgdjmllkdcaaDoorX18
namespace Go.Proofs.YtfdjgdjmllkdcaaDoor.X
open Go.RowKit Go.Proofs.YtfdjgdjmllkdcaaDoorW.PrintWords Go.Proofs.YtfdjgdjmllkdcaaDoorW.PrintLast
set_option linter.unusedVariables false

theorem same_loop (l : List S36) (hl : l.length ≤ 9223372036854775807) : ∀ (d : Nat) (i : Int), 0 ≤ i → i + d = (l.length : Int) → Ev (fun k => corebankref42_SameAll.l0 k l l i) true
  | 0, i, h0, h => by
    apply Ev.up
    simp only [corebankref42_SameAll.l0]
    exact Ev.neg (by omega) (Ev.ret rfl)
  | d + 1, i, h0, h => by
    have hw : wrap64 (i + 1) = i + 1 := w1 (n := (l.length : Int)) (by omega) (by omega) (by omega)
    apply Ev.up
    simp only [corebankref42_SameAll.l0, hw]
    exact Ev.pos (by omega) (Ev.pos h0 (Ev.pos (by omega) (Ev.neg (by simp) (same_loop l hl d (i + 1) (by omega) (by omega)))))
theorem same_self (l : List S36) (hl : l.length ≤ 9223372036854775807) : Ev (fun k => corebankref42_SameAll.f k l l) true := by
  simp only [corebankref42_SameAll.f]
  exact Ev.pos (by simp) (same_loop l hl l.length 0 (by omega) (by omega))
end Go.Proofs.YtfdjgdjmllkdcaaDoor.X

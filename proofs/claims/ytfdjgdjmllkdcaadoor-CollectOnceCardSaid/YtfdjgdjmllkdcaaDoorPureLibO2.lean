import Derived.Test.YtfdjgdjmllkdcaaDoorEv
import Derived.Test.YtfdjgdjmllkdcaaDoorGood
import Derived.Test.YtfdjgdjmllkdcaaDoorPureLib
import Derived.Test.YtfdjgdjmllkdcaaDoorPureLibC
import Derived.Test.YtfdjgdjmllkdcaaDoorPureLibE
import Derived.Test.YtfdjgdjmllkdcaaDoorPureLibO
import Derived.Test.YtfdjgdjmllkdcaaDoorX0
import Derived.Test.YtfdjgdjmllkdcaaDoorX16
namespace Go.Proofs.YtfdjgdjmllkdcaaDoor.X
open Go.RowKit Go.Proofs.YtfdjgdjmllkdcaaDoorW.PrintWords Go.Proofs.YtfdjgdjmllkdcaaDoorW.PrintLast
set_option linter.unusedVariables false

theorem oth_loop (l s : List S36) (id : Int) (hl : l.length ≤ 9223372036854775807) (hn : s.length = l.length)
    (H : ∀ j, 0 ≤ j → j < (l.length : Int) → rd_T36 l j = rd_T36 s j ∨ ((rd_T36 l j).f0 = id ∧ (rd_T36 s j).f0 = id ∧ (rd_T36 l j).f2 = (rd_T36 s j).f2 ∧ (rd_T36 l j).f8 = (rd_T36 s j).f8 ∧ (rd_T36 l j).f1 = (rd_T36 s j).f1 ∧ (rd_T36 l j).f3 = (rd_T36 s j).f3)) :
    ∀ (d : Nat) (i : Int), 0 ≤ i → i + d = (l.length : Int) → Ev (fun k => corebanklaw42_others.l0 k l s id i) true
  | 0, i, h0, h => by
    apply Ev.up
    simp only [corebanklaw42_others.l0]
    exact Ev.neg (by omega) (Ev.ret rfl)
  | d + 1, i, h0, h => by
    have hw : wrap64 (i + 1) = i + 1 := w1 (n := (l.length : Int)) (by omega) (by omega) (by omega)
    have ih := oth_loop l s id hl hn H d (i + 1) (by omega) (by omega)
    apply Ev.up
    simp only [corebanklaw42_others.l0, hw]
    refine Ev.pos (by omega) (Ev.pos h0 (Ev.pos (by omega) (Ev.ite (fun hc => ?_) (fun _ => ih))))
    rcases H i h0 (by omega) with e | ⟨e1, e2, e3, e4, e5, e6⟩
    · rw [e] at hc; simp at hc
    · exact Ev.pos e1 (Ev.pos e2 (Ev.pos e3 (Ev.pos (by rw [e4]) (Ev.pos e5 (Ev.pos e6 ih)))))
theorem others_set (l : List S36) (id : Int) (y : S36) (hl : l.length ≤ 100) (h : 0 ≤ idx l id) (h1 : idx l id < (l.length : Int)) (k0 : y.f0 = (rd_T36 l (idx l id)).f0) (k1 : y.f1 = (rd_T36 l (idx l id)).f1) (k2 : y.f2 = (rd_T36 l (idx l id)).f2) (k3 : y.f3 = (rd_T36 l (idx l id)).f3) (k8 : y.f8 = (rd_T36 l (idx l id)).f8) :
    Ev (fun k => corebanklaw42_others.f k l (l.set (idx l id).toNat y) id) true := by
  simp only [corebanklaw42_others.f]
  refine Ev.pos (by simp) (oth_loop l _ id (by omega) (by simp) (fun j j0 j1 => ?_) l.length 0 (by omega) (by omega))
  rw [rd_put l _ j y h j0 j1]
  by_cases e : j = idx l id
  · rw [if_pos e]
    subst e
    have := idx_id l id h
    exact Or.inr ⟨this, by rw [k0, this], k2.symm, k8.symm, k1.symm, k3.symm⟩
  · rw [if_neg e]; exact Or.inl rfl
end Go.Proofs.YtfdjgdjmllkdcaaDoor.X

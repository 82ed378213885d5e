-- Written by program (wip/tools/xprint.sh) for this seat; not trusted: Lean checks it.
import Derived.Test.YtclllkbngkohlaaX0
namespace Go.Proofs.Ytclllkbngkohlaa.X
open Go.RowKit Go.Proofs.YtclllkbngkohlaaW.PrintWords Go.Proofs.YtclllkbngkohlaaW.PrintLast Go.Proofs.YtclllkbngkohlaaW.PrintMore
attribute [local go_sem] max2_int min2_int max_two min_two max_three min_three max_four min_four   -- for this text's walks alone
set_option linter.unusedVariables false
set_option linter.unusedSimpArgs false

/-! lemmas of this seat's own -/
theorem bytes_leq : ∀ a b : List UInt8, (Op.bytesLess a b || a == b) = !(Op.bytesLess b a)
  | [], [] => by simp [Op.bytesLess]
  | [], y :: b => by simp [Op.bytesLess]
  | x :: a, [] => by simp [Op.bytesLess]
  | x :: a, y :: b => by
    have ih := bytes_leq a b
    simp only [Op.bytesLess, List.cons_beq_cons]
    by_cases h1 : x < y
    · have h2 : ¬ y < x := UInt8.lt_asymm h1
      have h3 : ¬ y = x := fun e => by subst e; exact UInt8.lt_irrefl _ h1
      simp [h1, h2, h3]
    · by_cases h2 : y < x
      · have h3 : ¬ x = y := fun e => by subst e; exact UInt8.lt_irrefl _ h2
        simp [h1, h2, h3]
      · have e : x = y := by
          apply UInt8.toNat_inj.1
          rw [UInt8.lt_iff_toNat_lt] at h1 h2
          omega
        subst e
        simp only [UInt8.lt_irrefl, decide_false, beq_self_eq_true, Bool.true_and, Bool.false_or]
        exact ih
theorem str_leq (t : TypeId) (a b : ByteArray) : binOp .leq t (.string a) (.string b) = pure (.bool !(Op.bytesLess b.toList a.toList)) := by
  rw [← bytes_leq]; simp [binOp, Op.stringOp]
theorem str_gtr (t : TypeId) (a b : ByteArray) : binOp .gtr t (.string a) (.string b) = pure (.bool (Op.bytesLess b.toList a.toList)) := by
  rw [← Bool.not_not (Op.bytesLess b.toList a.toList), ← bytes_leq]; simp [binOp, Op.stringOp]
theorem getD_at {α : Type} (l : List α) (z : α) (j : Nat) (h : j < l.length) : l.getD j z = l[j] := by
  rw [List.getD_eq_getElem?_getD, List.getElem?_eq_getElem h, Option.getD_some]
/-- The first place at which p holds, or -1. -/
def idxP {α : Type} (p : α → Bool) (l : List α) : Int := match l.findIdx? p with | some i => (i : Int) | none => -1
theorem idxP_hit {α : Type} (p : α → Bool) (l : List α) (z : α) (i : Int) (h0 : 0 ≤ i) (h1 : i < (l.length : Int)) (hb : ∀ j : Nat, (j : Int) < i → p (l.getD j z) = false) (hp : p (l.getD i.toNat z) = true) : idxP p l = i := by
  have : l.findIdx? p = some i.toNat := by
    rw [List.findIdx?_eq_some_iff_getElem]
    refine ⟨by omega, ?_, fun j hj => ?_⟩
    · rw [getD_at _ _ _ (by omega)] at hp; exact hp
    · have := hb j (by omega)
      rw [getD_at _ _ _ (by omega)] at this; simpa using this
  simp only [idxP, this]; omega
theorem idxP_miss {α : Type} (p : α → Bool) (l : List α) (z : α) (i : Int) (h1 : ¬ i < (l.length : Int)) (hb : ∀ j : Nat, (j : Int) < i → p (l.getD j z) = false) : idxP p l = -1 := by
  have : l.findIdx? p = none := by
    rw [List.findIdx?_eq_none_iff]
    intro x hx
    obtain ⟨j, hj, rfl⟩ := List.getElem_of_mem hx
    have := hb j (by omega)
    rw [getD_at _ _ _ hj] at this; exact this
  simp only [idxP, this]


end Go.Proofs.Ytclllkbngkohlaa.X

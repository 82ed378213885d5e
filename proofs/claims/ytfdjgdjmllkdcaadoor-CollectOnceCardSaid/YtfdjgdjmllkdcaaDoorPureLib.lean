import Derived.Test.YtfdjgdjmllkdcaaDoorEv
import Derived.Test.YtfdjgdjmllkdcaaDoorGood
import Derived.Test.YtfdjgdjmllkdcaaDoorX0
import Derived.Test.YtfdjgdjmllkdcaaDoorX15
import Derived.Test.YtfdjgdjmllkdcaaDoorX20
import Derived.Test.YtfdjgdjmllkdcaaDoorX21
import Derived.Test.YtfdjgdjmllkdcaaDoorX3
import Derived.Test.YtfdjgdjmllkdcaaDoorX30
import Derived.Test.YtfdjgdjmllkdcaaDoorX7
import Derived.Test.YtfdjgdjmllkdcaaDoorX8
namespace Go.Proofs.YtfdjgdjmllkdcaaDoor.X
open Go.RowKit Go.Proofs.YtfdjgdjmllkdcaaDoorW.PrintWords Go.Proofs.YtfdjgdjmllkdcaaDoorW.PrintLast
set_option linter.unusedVariables false

theorem getD_at {α : Type} (l : List α) (z : α) (j : Nat) (h : j < l.length) : l.getD j z = l[j] := by
  rw [List.getD_eq_getElem?_getD, List.getElem?_eq_getElem h, Option.getD_some]
def idxP {α : Type} (p : α → Bool) (l : List α) : Int := match l.findIdx? p with | some i => (i : Int) | none => -1
theorem idxP_hit {α : Type} (p : α → Bool) (l : List α) (z : α) (i : Int) (h0 : 0 ≤ i) (h1 : i < (l.length : Int)) (hb : ∀ j : Nat, (j : Int) < i → p (l.getD j z) = false) (hp : p (l.getD i.toNat z) = true) : idxP p l = i := by
  have : l.findIdx? p = some i.toNat := by
    rw [List.findIdx?_eq_some_iff_getElem]
    refine ⟨by omega, ?_, fun j hj => ?_⟩
    · rw [getD_at _ _ _ (by omega)] at hp; exact hp
    · have := hb j (by omega)
      rw [getD_at _ _ _ (by omega)] at this; simpa using this
  simp only [idxP, this]; omega
theorem idxP_miss {α : Type} (p : α → Bool) (l : List α) (z : α) (i : Int) (h1 : ¬ i < (l.length : Int)) (hb : ∀ j : Nat, (j : Int) < i → p (l.getD j z) = false) : idxP p l = -1 := by
  have : l.findIdx? p = none := by
    rw [List.findIdx?_eq_none_iff]
    intro x hx
    obtain ⟨j, hj, rfl⟩ := List.getElem_of_mem hx
    have := hb j (by omega)
    rw [getD_at _ _ _ hj] at this; exact this
  simp only [idxP, this]
theorem idxP_range {α : Type} (p : α → Bool) (l : List α) : idxP p l = -1 ∨ (0 ≤ idxP p l ∧ idxP p l < (l.length : Int)) := by
  unfold idxP
  split
  · rename_i i h
    right
    rw [List.findIdx?_eq_some_iff_getElem] at h
    obtain ⟨h1, _⟩ := h
    omega
  · left; rfl
theorem idxP_at {α : Type} (p : α → Bool) (l : List α) (z : α) (h : 0 ≤ idxP p l) : p (l.getD (idxP p l).toNat z) = true ∧ ∀ j : Nat, (j : Int) < idxP p l → p (l.getD j z) = false := by
  cases hi : l.findIdx? p with
  | some i =>
    have e : idxP p l = (i : Int) := by simp only [idxP, hi]
    rw [e]
    rw [List.findIdx?_eq_some_iff_getElem] at hi
    obtain ⟨h1, h2, h3⟩ := hi
    refine ⟨?_, fun j hj => ?_⟩
    · rw [getD_at _ _ _ (by omega)]; simpa using h2
    · rw [getD_at _ _ _ (by omega)]; simpa using h3 j (by omega)
  | none =>
    have e : idxP p l = -1 := by simp only [idxP, hi]
    omega
theorem live_true : Ev (fun k => corebanklaw42_lives.f k) true := Ev.of corebanklaw42_lives.mono (k := 30) (by decide +kernel)
theorem live_end : Ev (fun k => (corebanklaw42_lives.f k).bind fun t => some t) true := Ev.bnd live_true (Ev.ret rfl)
def reasonV (e : Int) : Int := if e = 0 then 0 else if e = 18 ∨ e = 20 then 1 else if e = 16 ∨ e = 19 then 2 else 3
theorem reason_ev (e : Int) : Ev (fun k => collect_Reason.f k e) (reasonV e) := by
  have hj : ∀ b : Bool, (b = true ↔ (e = 18 ∨ e = 20)) → e ≠ 0 → Ev (fun k => collect_Reason.j0 k e b) (reasonV e) := by
    intro b hb h0
    apply Ev.up
    simp only [collect_Reason.j0, reasonV, if_neg h0]
    cases b with
    | true => exact Ev.pos rfl (Ev.ret (by rw [if_pos (hb.1 rfl)]))
    | false =>
      have h : ¬ (e = 18 ∨ e = 20) := fun h => by have := hb.2 h; cases this
      rw [if_neg h]
      exact Ev.neg (by decide) (Ev.ite (fun h1 => Ev.ret (by rw [if_pos (Or.inl h1)])) (fun h1 => Ev.ite (fun h2 => Ev.ret (by rw [if_pos (Or.inr h2)])) (fun h2 => Ev.ret (by rw [if_neg (by omega)]))))
  simp only [collect_Reason.f]
  refine Ev.ite (fun h => Ev.ret (by rw [reasonV, if_pos h])) (fun h => Ev.ite (fun h1 => hj _ (by simp [h1]) h) (fun h1 => hj _ (by simp; omega) h))
theorem ref_reason_ev (e : Int) : Ev (fun k => corebankref42_Reason.f k e) (reasonV e) := by
  have hj : ∀ k b, corebankref42_Reason.j0 k e b = collect_Reason.j0 k e b := by
    intro k b; cases k <;> rfl
  have h : (fun k => corebankref42_Reason.f k e) = fun k => collect_Reason.f k e := by
    funext k
    simp only [corebankref42_Reason.f, collect_Reason.f, hj]
  rw [h]; exact reason_ev e
theorem ref_window_ev (a : Int) : Ev (fun k => corebankref42_Window.f k a) (winV a) := by
  have hj : ∀ b : Bool, (b = true ↔ (a = 1 ∨ a = 2)) → Ev (fun k => corebankref42_Window.j0 k a b) (winV a) := by
    intro b hb
    apply Ev.up
    simp only [corebankref42_Window.j0]
    cases b with
    | true => exact Ev.pos rfl (Ev.ret (by rcases hb.1 rfl with h | h <;> simp [winV, h]))
    | false =>
      have h : ¬ (a = 1 ∨ a = 2) := fun h => by have := hb.2 h; cases this
      have e : winV a = if a = 3 then 395 else if a = 4 then 56 else 0 := by unfold winV; rw [if_neg (by omega), if_neg (by omega)]
      rw [e]
      exact Ev.neg (by decide) (Ev.ite (fun h1 => Ev.ret (by rw [if_pos h1])) (fun h1 => Ev.ite (fun h2 => Ev.ret (by rw [if_neg h1, if_pos h2])) (fun h2 => Ev.ret (by rw [if_neg h1, if_neg h2]))))
  simp only [corebankref42_Window.f]
  exact Ev.ite (fun h1 => hj _ (by simp [h1])) (fun h1 => hj _ (by simp; omega))
def dayB (d : Int) : Bool := decide (0 ≤ d) && decide (d ≤ 73048)
theorem date_eq (d : Int) : date_Valid.f d = some (dayB d) := by
  unfold date_Valid.f dayB
  by_cases h : d ≥ 0 <;> simp [h]
theorem rdate_eq (d : Int) : corebankref04_Valid.f d = some (dayB d) := date_eq d
theorem rd_nat (l : List S36) (i : Int) (j : Nat) (h : (j : Int) = i) : rd_T36 l i = l.getD j z36 := by
  subst h; rfl
theorem clone_eq (l : List S36) (h : l.length ≤ 100) : api_Debit_32.f l = some l := by
  unfold api_Debit_32.f
  simp only [Option.bind_some, List.nil_append]
  exact if_pos (by simp; omega)
end Go.Proofs.YtfdjgdjmllkdcaaDoor.X

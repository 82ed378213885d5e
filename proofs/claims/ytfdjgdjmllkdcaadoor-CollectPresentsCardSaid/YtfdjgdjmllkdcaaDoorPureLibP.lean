import Derived.Test.YtfdjgdjmllkdcaaDoorEv
import Derived.Test.YtfdjgdjmllkdcaaDoorGood
import Derived.Test.YtfdjgdjmllkdcaaDoorPureLib
import Derived.Test.YtfdjgdjmllkdcaaDoorPureLibC
import Derived.Test.YtfdjgdjmllkdcaaDoorPureLibK
import Derived.Test.YtfdjgdjmllkdcaaDoorPureLibM
import Derived.Test.YtfdjgdjmllkdcaaDoorX0
import Derived.Test.YtfdjgdjmllkdcaaDoorX13
import Derived.Test.YtfdjgdjmllkdcaaDoorX4
namespace Go.Proofs.YtfdjgdjmllkdcaaDoor.X
open Go.RowKit Go.Proofs.YtfdjgdjmllkdcaaDoorW.PrintWords Go.Proofs.YtfdjgdjmllkdcaaDoorW.PrintLast
set_option linter.unusedVariables false

def hasId (l : List S36) (b : Int) : Bool := l.any fun d => decide (d.f0 ≥ b)
theorem idxP_any (q : S36 → Bool) (l : List S36) : decide (idxP q l ≥ 0) = l.any q := by
  cases h : l.findIdx? q with
  | none =>
    have e : idxP q l = -1 := by simp only [idxP, h]
    rw [e]
    rw [List.findIdx?_eq_none_iff] at h
    have : l.any q = false := by
      rw [Bool.eq_false_iff]; intro ha
      rw [List.any_eq_true] at ha
      obtain ⟨x, hx, hq⟩ := ha
      rw [h x hx] at hq; cases hq
    rw [this]; decide
  | some i =>
    have e : idxP q l = (i : Int) := by simp only [idxP, h]
    rw [e]
    rw [List.findIdx?_eq_some_iff_getElem] at h
    obtain ⟨h1, h2, _⟩ := h
    have : l.any q = true := List.any_eq_true.2 ⟨_, List.getElem_mem h1, h2⟩
    rw [this]; exact decide_eq_true (by omega)
theorem hasid_loop (l : List S36) (b : Int) (hl : l.length ≤ 9223372036854775807) : ∀ (d : Nat) (i : Int), 0 ≤ i → i + d = (l.length : Int) → (∀ j : Nat, (j : Int) < i → decide ((l.getD j z36).f0 ≥ b) = false) →
    Ev (fun k => collect_hasid_i_loop.l0 k l b (l.length : Int) i) (idxP (fun x : S36 => decide (x.f0 ≥ b)) l)
  | 0, i, h0, h, hb => by
    apply Ev.up
    simp only [collect_hasid_i_loop.l0]
    exact Ev.neg (by omega) (Ev.ret (idxP_miss _ l z36 i (by omega) hb).symm)
  | d + 1, i, h0, h, hb => by
    have hw : wrap64 (i + 1) = i + 1 := w1 (n := (l.length : Int)) (by omega) (by omega) (by omega)
    apply Ev.up
    simp only [collect_hasid_i_loop.l0, hw, collect_hasid_i_c.f, Option.bind_some]
    refine Ev.pos (by omega) (Ev.pos h0 (Ev.pos (by omega) (Ev.ite (fun h1 => ?_) (fun h1 => ?_))))
    · exact Ev.ret (idxP_hit _ l z36 i h0 (by omega) hb h1).symm
    · refine hasid_loop l b hl d (i + 1) (by omega) (by omega) (fun j hj => ?_)
      by_cases e : (j : Int) = i
      · rw [← rd_nat l i j e]; exact Bool.eq_false_iff.2 h1
      · exact hb j (by omega)
theorem hasid_ev (l : List S36) (b : Int) (hl : l.length ≤ 9223372036854775807) : Ev (fun k => collect_hasid.f k l b) (hasId l b) := by
  simp only [collect_hasid.f, collect_hasid_i_loop.f]
  exact Ev.bnd (hasid_loop l b hl l.length 0 (by omega) (by omega) (fun j hj => by omega)) (Ev.ret (idxP_any _ l))
theorem haskey_loop (l : List S36) (s : ByteArray) (hl : l.length ≤ 9223372036854775807) : ∀ (d : Nat) (i : Int), 0 ≤ i → i + d = (l.length : Int) → (∀ j : Nat, (j : Int) < i → ((l.getD j z36).f8.toList == s.toList) = false) →
    Ev (fun k => collect_haskey_i_loop.l0 k l s (l.length : Int) i) (idxP (fun x : S36 => x.f8.toList == s.toList) l)
  | 0, i, h0, h, hb => by
    apply Ev.up
    simp only [collect_haskey_i_loop.l0]
    exact Ev.neg (by omega) (Ev.ret (idxP_miss _ l z36 i (by omega) hb).symm)
  | d + 1, i, h0, h, hb => by
    have hw : wrap64 (i + 1) = i + 1 := w1 (n := (l.length : Int)) (by omega) (by omega) (by omega)
    apply Ev.up
    simp only [collect_haskey_i_loop.l0, hw, collect_haskey_i_c.f, Option.bind_some]
    refine Ev.pos (by omega) (Ev.pos h0 (Ev.pos (by omega) (Ev.ite (fun h1 => ?_) (fun h1 => ?_))))
    · exact Ev.ret (idxP_hit _ l z36 i h0 (by omega) hb h1).symm
    · refine haskey_loop l s hl d (i + 1) (by omega) (by omega) (fun j hj => ?_)
      by_cases e : (j : Int) = i
      · rw [← rd_nat l i j e]; exact Bool.eq_false_iff.2 h1
      · exact hb j (by omega)
theorem haskey_ev (l : List S36) (s : ByteArray) (hl : l.length ≤ 9223372036854775807) : Ev (fun k => collect_haskey.f k l s) (keyIn l s) := by
  simp only [collect_haskey.f, collect_haskey_i_loop.f]
  refine Ev.bnd (haskey_loop l s hl l.length 0 (by omega) (by omega) (fun j hj => by omega)) (Ev.ret ?_)
  rw [idxP_any]
  unfold keyIn
  congr 1
  funext d
  rw [ByteArray.toList_eq, ByteArray.toList_eq]
/-- A debit in the shape that Present takes on a day. -/
def presB (x : S36) : Bool := decide (x.f7 = 1) && (decide (x.f4 = 0) && (decide (x.f5 = 0) && decide (x.f6 = 0)))
def takeB (x : S36) (day : Int) : Bool := decide (1 ≤ x.f0) && (amtB x.f2 && (dayB x.f3 && (dayB day && (presB x && keyB x.f8))))
def presV (l : List S36) (m : List S53) (x : S36) (day : Int) : List S36 × Int :=
  if takeB x day = true then (if hasId l x.f0 = true then ([], 10) else if keyIn l x.f8 = true then ([], 12) else
    if allowV m x.f1 x.f2 x.f3 = 0 then (if x.f3 < day then ([], 23) else if (l.length : Int) ≥ 64 then ([], 5) else (l ++ [x], 0)) else ([], allowV m x.f1 x.f2 x.f3)) else ([], 1)
theorem presented_eq (x : S36) : collect_presented.f x.f0 x.f1 x.f2 x.f3 x.f4 x.f5 x.f6 x.f7 x.f8 = some (presB x) := by
  unfold collect_presented.f presB
  by_cases h1 : x.f7 = 1 <;> by_cases h2 : x.f4 = 0 <;> by_cases h3 : x.f5 = 0 <;> simp [h1, h2, h3] <;> rfl
theorem present_ev (l : List S36) (m : List S53) (x : S36) (day : Int) (hl : l.length ≤ 100) (hm : m.length ≤ 100) (hs : x.f8.size ≤ 9223372036854775807) :
    Ev (fun k => collect_Present.f k l m x.f0 x.f1 x.f2 x.f3 x.f4 x.f5 x.f6 x.f7 x.f8 day) (presV l m x day) := by
  have hj : ∀ b : Bool, b = !takeB x day → Ev (fun k => collect_Present.j0 k l m day b x.f0 x.f1 x.f2 x.f3 x.f4 x.f5 x.f6 x.f7 x.f8) (presV l m x day) := by
    intro b hb
    apply Ev.up
    simp only [collect_Present.j0]
    cases ht : takeB x day with
    | false =>
      rw [ht] at hb; subst hb
      exact Ev.pos rfl (Ev.ret (by simp [presV, ht]))
    | true =>
      rw [ht] at hb; subst hb
      refine Ev.neg (by decide) (Ev.bnd (hasid_ev l _ (by omega)) (Ev.ite (fun h1 => Ev.ret ?_) (fun h1 => Ev.bnd (haskey_ev l _ (by omega)) (Ev.ite (fun h2 => Ev.ret ?_) (fun h2 => Ev.bnd (allows_ev m _ _ _ (by omega)) (Ev.ite (fun h3 => Ev.ite (fun h4 => Ev.ret ?_) (fun h4 => Ev.ite (fun h5 => Ev.ret ?_) (fun h5 => Ev.now_ (clone_eq l hl) (Ev.now_ (g := some _) rfl (Ev.pos (by simp; omega) (Ev.ret ?_)))))) (fun h3 => Ev.ret ?_)))))))
      · rw [presV, if_pos ht, if_pos h1]
      · rw [presV, if_pos ht, if_neg h1, if_pos h2]
      · rw [presV, if_pos ht, if_neg h1, if_neg h2, if_pos h3, if_pos h4]
      · rw [presV, if_pos ht, if_neg h1, if_neg h2, if_pos h3, if_neg h4, if_pos h5]
      · rw [presV, if_pos ht, if_neg h1, if_neg h2, if_pos h3, if_neg h4, if_neg h5]
      · rw [presV, if_pos ht, if_neg h1, if_neg h2, if_neg h3]
  simp only [collect_Present.f]
  refine Ev.ite (fun h1 => hj true ?_) (fun h1 => Ev.now_ (amount_eq _) (Ev.ite (fun h2 => Ev.now_ (date_eq _) (Ev.ite (fun h3 => Ev.now_ (date_eq _) (Ev.ite (fun h4 => Ev.now_ (presented_eq x) (Ev.ite (fun h5 => Ev.bnd (key_ev _ hs) (hj _ ?_)) (fun h5 => hj true ?_))) (fun h4 => hj true ?_))) (fun h3 => hj true ?_))) (fun h2 => hj true ?_)))
  · simp [takeB, show ¬ 1 ≤ x.f0 by omega]
  · simp [takeB, show 1 ≤ x.f0 by omega, h2, h3, h4, h5]
  · simp at h5; simp [takeB, h5]
  · simp at h4; simp [takeB, h4]
  · simp at h3; simp [takeB, h3]
  · simp at h2; simp [takeB, h2]
end Go.Proofs.YtfdjgdjmllkdcaaDoor.X

/- MandateSigns: for every list of mandates and every mandate, Sign answers as the reference does, and what it returns is accepted. No condition. -/
import Derived.Test.YtfgcachcbhkkoaaPureLib
import Derived.Test.YtfgcachcbhkkoaaPureLibS
import Derived.Test.YtfgcachcbhkkoaaStmtMandateSigns
import Derived.Test.YtfgcachcbhkkoaaX0
import Derived.Test.YtfgcachcbhkkoaaX10
import Derived.Test.YtfgcachcbhkkoaaX17
import Derived.Test.YtfgcachcbhkkoaaX19
namespace Go.Proofs.Ytfgcachcbhkkoaa.Pure
open Go.RowKit Go.Proofs.Ytfgcachcbhkkoaa.X Go.Proofs.YtfgcachcbhkkoaaW.PrintWords Go.Proofs.YtfgcachcbhkkoaaW.PrintLast

/-- what both Signs tell behind their tests of the lists. -/
def signV (l : List S28) (x : S28) (b : Bool) : List S28 × Int :=
  if b = true then ([], 1) else if 0 < l.length ∧ x.f0 ≤ (rd_T28 l ((l.length : Int) - 1)).f0 then ([], 10) else if 64 ≤ l.length then ([], 5) else (l ++ [x], 0)
theorem sign_j1 (l : List S28) (x : S28) (hl : l.length ≤ 100) (c : Bool) : Ev (fun k => mandate_Sign.j1 k l c x.f0 x.f1 x.f2 x.f3 x.f4 x.f5 x.f6) (if c = true then ([], 10) else if 64 ≤ l.length then ([], 5) else (l ++ [x], 0)) := by
  apply Ev.up
  simp only [mandate_Sign.j1]
  refine Ev.ite (fun h => Ev.ret (by rw [if_pos h])) (fun h => Ev.ite (fun h2 => Ev.ret ?_) (fun h2 => Ev.now_ (clone_eq l hl) (Ev.const ?_)))
  · rw [if_neg h, if_pos (by omega)]
  · rw [if_neg h, if_neg (by omega)]
    simp only [Option.bind_some]
    rw [if_pos (by simp only [List.length_singleton]; omega)]
theorem ref_sign_j1 (l : List S28) (x : S28) (hl : l.length ≤ 100) (c : Bool) : Ev (fun k => corebankref41_Sign.j1 k l c x.f0 x.f1 x.f2 x.f3 x.f4 x.f5 x.f6) (if c = true then ([], 10) else if 64 ≤ l.length then ([], 5) else (l ++ [x], 0)) := by
  apply Ev.up
  simp only [corebankref41_Sign.j1]
  refine Ev.ite (fun h => Ev.ret (by rw [if_pos h])) (fun h => Ev.ite (fun h2 => Ev.ret ?_) (fun h2 => Ev.const ?_))
  · rw [if_neg h, if_pos (by omega)]
  · rw [if_neg h, if_neg (by omega)]
    simp only [Option.bind_some, List.nil_append]
    rw [if_pos (by simp only [List.length_nil]; omega)]
    first | rfl | (rw [if_pos (by simp only [List.length_singleton]; omega)]; rfl) | (rw [if_pos (by simp only [List.length_singleton]; omega)])
theorem sign_j0 (l : List S28) (x : S28) (hl : l.length ≤ 100) (b : Bool) : Ev (fun k => mandate_Sign.j0 k l b x.f0 x.f1 x.f2 x.f3 x.f4 x.f5 x.f6) (signV l x b) := by
  have hw : wrap64 ((l.length : Int) - 1) = (l.length : Int) - 1 := wm1 (by omega) (by omega)
  apply Ev.up
  simp only [mandate_Sign.j0, hw]
  unfold signV
  refine Ev.ite (fun h => Ev.ret (by rw [if_pos h])) (fun h => Ev.ite (fun h2 => Ev.pos (by omega) (Ev.pos (by omega) ?_)) (fun h2 => ?_))
  · have := sign_j1 l x hl (decide (x.f0 ≤ (rd_T28 l ((l.length : Int) - 1)).f0))
    rw [if_neg h]
    have h0 : 0 < l.length := by omega
    simp only [decide_eq_true_eq] at this
    simp only [h0, true_and]
    exact this
  · have := sign_j1 l x hl false
    rw [if_neg h, if_neg (by omega)]
    simpa using this
theorem ref_sign_j0 (l : List S28) (x : S28) (hl : l.length ≤ 100) (b : Bool) : Ev (fun k => corebankref41_Sign.j0 k l b x.f0 x.f1 x.f2 x.f3 x.f4 x.f5 x.f6) (signV l x b) := by
  have hw : wrap64 ((l.length : Int) - 1) = (l.length : Int) - 1 := wm1 (by omega) (by omega)
  apply Ev.up
  simp only [corebankref41_Sign.j0, hw]
  unfold signV
  refine Ev.ite (fun h => Ev.ret (by rw [if_pos h])) (fun h => Ev.ite (fun h2 => Ev.pos (by omega) (Ev.pos (by omega) ?_)) (fun h2 => ?_))
  · have := ref_sign_j1 l x hl (decide (x.f0 ≤ (rd_T28 l ((l.length : Int) - 1)).f0))
    rw [if_neg h]
    have h0 : 0 < l.length := by omega
    simp only [decide_eq_true_eq] at this
    simp only [h0, true_and]
    exact this
  · have := ref_sign_j1 l x hl false
    rw [if_neg h, if_neg (by omega)]
    simpa using this
theorem good_one (x : S28) (h : G28 x) : GL28 [x] := ⟨by simp, fun y hy => by rw [List.mem_singleton.1 hy]; exact h⟩
theorem sign_both (l : List S28) (x : S28) (g : GL28 l) (hx : G28 x) (hl : l.length ≤ 100) : ∃ b, Ev (fun k => mandate_Sign.f k l x.f0 x.f1 x.f2 x.f3 x.f4 x.f5 x.f6) (signV l x b) ∧ Ev (fun k => corebankref41_Sign.f k l x.f0 x.f1 x.f2 x.f3 x.f4 x.f5 x.f6) (signV l x b) ∧ (b = false → CheckOK l ∧ CheckOK [x]) := by
  obtain ⟨r, h1, h2, h3⟩ := chk_ev l g
  obtain ⟨q, k1, k2, k3⟩ := chk_ev [x] (good_one x hx)
  by_cases c1 : r = 0
  · by_cases c2 : q = 0
    · by_cases c3 : x.f4 = 0
      · refine ⟨x.f5 != 0, ?_, ?_, fun _ => ⟨h3.1 c1, k3.1 c2⟩⟩
        · simp only [mandate_Sign.f]
          exact Ev.bnd h1 (Ev.pos c1 (Ev.bnd k1 (Ev.pos c2 (Ev.pos c3 (sign_j0 l x hl _)))))
        · simp only [corebankref41_Sign.f]
          exact Ev.bnd h2 (Ev.pos c1 (Ev.bnd k2 (Ev.pos c2 (Ev.pos c3 (ref_sign_j0 l x hl _)))))
      · refine ⟨true, ?_, ?_, fun h => by cases h⟩
        · simp only [mandate_Sign.f]
          exact Ev.bnd h1 (Ev.pos c1 (Ev.bnd k1 (Ev.pos c2 (Ev.neg c3 (sign_j0 l x hl true)))))
        · simp only [corebankref41_Sign.f]
          exact Ev.bnd h2 (Ev.pos c1 (Ev.bnd k2 (Ev.pos c2 (Ev.neg c3 (ref_sign_j0 l x hl true)))))
    · refine ⟨true, ?_, ?_, fun h => by cases h⟩
      · simp only [mandate_Sign.f]
        exact Ev.bnd h1 (Ev.pos c1 (Ev.bnd k1 (Ev.neg c2 (sign_j0 l x hl true))))
      · simp only [corebankref41_Sign.f]
        exact Ev.bnd h2 (Ev.pos c1 (Ev.bnd k2 (Ev.neg c2 (ref_sign_j0 l x hl true))))
  · refine ⟨true, ?_, ?_, fun h => by cases h⟩
    · simp only [mandate_Sign.f]
      exact Ev.bnd h1 (Ev.neg c1 (sign_j0 l x hl true))
    · simp only [corebankref41_Sign.f]
      exact Ev.bnd h2 (Ev.neg c1 (ref_sign_j0 l x hl true))
theorem sign_len (l : List S28) (x : S28) (b : Bool) (hl : l.length ≤ 100) : (signV l x b).1.length ≤ 9223372036854775807 := by
  unfold signV
  (repeat' split) <;> simp <;> omega
theorem rd_app (l : List S28) (x : S28) (j : Int) (h0 : 0 ≤ j) : rd_T28 (l ++ [x]) j = if j < (l.length : Int) then rd_T28 l j else if j = (l.length : Int) then x else z28 := by
  unfold rd_T28
  by_cases h : j < (l.length : Int)
  · rw [if_pos h, List.getD_eq_getElem?_getD, List.getElem?_append_left (by omega), ← List.getD_eq_getElem?_getD]
  · rw [if_neg h, List.getD_eq_getElem?_getD, List.getElem?_append_right (by omega)]
    by_cases e : j = (l.length : Int)
    · rw [if_pos e, show j.toNat - l.length = 0 by omega]; rfl
    · rw [if_neg e, List.getElem?_eq_none (by simp; omega)]; rfl
theorem app_ok (l : List S28) (x : S28) (hl : CheckOK l) (hx : CheckOK [x]) (h64 : ¬ 64 ≤ l.length) (ho : ¬ (0 < l.length ∧ x.f0 ≤ (rd_T28 l ((l.length : Int) - 1)).f0)) : CheckOK (l ++ [x]) := by
  refine ⟨by simp; omega, fun j hj hlt => ?_⟩
  simp only [List.length_append, List.length_singleton] at hlt
  have hx0 := hx.2 0 (by omega) (by simp)
  have e0 : rd_T28 [x] 0 = x := rfl
  unfold elemOK at hx0 ⊢
  rw [e0] at hx0
  by_cases h : j < (l.length : Int)
  · have h2 := hl.2 j hj h
    rw [rd_app l x j hj, if_pos h]
    refine ⟨h2.1, h2.2.1, fun hp => ?_⟩
    rw [rd_app l x (j - 1) (by omega), if_pos (by omega)]
    exact h2.2.2 hp
  · have e : j = (l.length : Int) := by omega
    rw [rd_app l x j hj, if_neg h, if_pos e]
    refine ⟨hx0.1, hx0.2.1, fun hp => ?_⟩
    rw [rd_app l x (j - 1) (by omega), if_pos (by omega), e]
    omega
theorem MandateSigns : corebanklaw41_MandateSigns.Pure := by
  intro l x g hx
  apply Ev.rounds
  obtain ⟨b, hb, hf⟩ := short_ev l g.1
  have ht : ∀ c : Bool, c = true → Ev (fun k => corebanklaw41_MandateSigns.j0 k l c x.f0 x.f1 x.f2 x.f3 x.f4 x.f5 x.f6) true := by
    intro c hc
    subst hc
    apply Ev.up
    simp only [corebanklaw41_MandateSigns.j0]
    exact Ev.pos (by simp) live_end
  simp only [corebanklaw41_MandateSigns.f]
  refine Ev.bnd hb ?_
  cases b with
  | false => exact Ev.neg (by decide) (ht true rfl)
  | true =>
    have hl := hf rfl
    refine Ev.pos (by simp) ?_
    by_cases hc : (x.f6.size : Int) > 100
    · exact ht _ (by simpa using hc)
    · have e : decide ((x.f6.size : Int) > 100) = false := by simpa using hc
      rw [e]
      obtain ⟨c, h1, h2, h3⟩ := sign_both l x g hx hl
      apply Ev.up
      simp only [corebanklaw41_MandateSigns.j0]
      refine Ev.neg (by decide) (Ev.bnd h1 (Ev.bnd h2 (Ev.bnd (same_self _ (sign_len l x c hl)) (Ev.pos rfl (Ev.pos rfl (Ev.ite (fun h4 => ?_) (fun _ => live_end)))))))
      have key : c = false ∧ ¬ (0 < l.length ∧ x.f0 ≤ (rd_T28 l ((l.length : Int) - 1)).f0) ∧ ¬ 64 ≤ l.length ∧ signV l x c = (l ++ [x], 0) := by
        unfold signV at h4 ⊢
        by_cases d1 : c = true
        · rw [if_pos d1] at h4; cases h4
        · rw [if_neg d1] at h4 ⊢
          by_cases d2 : 0 < l.length ∧ x.f0 ≤ (rd_T28 l ((l.length : Int) - 1)).f0
          · rw [if_pos d2] at h4; cases h4
          · rw [if_neg d2] at h4 ⊢
            by_cases d3 : 64 ≤ l.length
            · rw [if_pos d3] at h4; cases h4
            · rw [if_neg d3]
              exact ⟨by simpa using d1, d2, d3, rfl⟩
      obtain ⟨k1, k2, k3, k4⟩ := key
      rw [k4]
      obtain ⟨m1, m2⟩ := h3 k1
      have gg : GL28 (l ++ [x]) := ⟨by simp; omega, fun y hy => by
        rcases List.mem_append.1 hy with h | h
        · exact g.2 y h
        · rw [List.mem_singleton.1 h]; exact hx⟩
      obtain ⟨q, n1, _, n3⟩ := chk_ev _ gg
      rw [n3.2 (app_ok l x m1 m2 k3 k2)] at n1
      exact Ev.bnd n1 (Ev.pos rfl live_end)

end Go.Proofs.Ytfgcachcbhkkoaa.Pure

import Derived.Test.YtfdjgdjmllkdcaaDoorEv
import Derived.Test.YtfdjgdjmllkdcaaDoorGood
import Derived.Test.YtfdjgdjmllkdcaaDoorPureLib
import Derived.Test.YtfdjgdjmllkdcaaDoorPureLibC
import Derived.Test.YtfdjgdjmllkdcaaDoorPureLibE
import Derived.Test.YtfdjgdjmllkdcaaDoorX0
import Derived.Test.YtfdjgdjmllkdcaaDoorX3
import Derived.Test.YtfdjgdjmllkdcaaDoorX4
import Derived.Test.YtfdjgdjmllkdcaaDoorX5
namespace Go.Proofs.YtfdjgdjmllkdcaaDoor.X
open Go.RowKit Go.Proofs.YtfdjgdjmllkdcaaDoorW.PrintWords Go.Proofs.YtfdjgdjmllkdcaaDoorW.PrintLast
set_option linter.unusedVariables false

theorem rd_put (l : List S36) (p j : Int) (y : S36) (hp : 0 ≤ p) (hj : 0 ≤ j) (hl : j < (l.length : Int)) : rd_T36 (l.set p.toNat y) j = if j = p then y else rd_T36 l j := by
  unfold rd_T36
  rw [getD_at _ _ _ (by simp; omega), getD_at _ _ _ (by omega), List.getElem_set]
  by_cases h : j = p
  · subst h; simp
  · rw [if_neg (by omega), if_neg h]
theorem keyIn_set (l : List S36) (p : Int) (y : S36) (n : Nat) (s : ByteArray) (hp : 0 ≤ p) (hl : p < (l.length : Int)) (hk : y.f8 = (rd_T36 l p).f8) : keyIn ((l.set p.toNat y).take n) s = keyIn (l.take n) s := by
  have e : (l.set p.toNat y).map (fun d => d.f8) = l.map (fun d => d.f8) := by
    apply List.ext_getElem (by simp)
    intro j h1 h2
    simp only [List.getElem_map, List.getElem_set]
    split
    · rename_i h
      subst h
      rw [hk]
      unfold rd_T36
      rw [getD_at _ _ _ (by simpa using h2)]
    · rfl
  have k : ∀ l : List S36, keyIn (l.take n) s = ((l.map fun d => d.f8).take n).any (fun b => b.data.toList == s.data.toList) := by
    intro l
    rw [← List.map_take, List.any_map]; rfl
  rw [k, k, e]
theorem chkR_zero (l : List S36) : ∀ (d : Nat) (i : Int), chkR d l i = 0 ↔ ∀ j, i ≤ j → j < i + d → elemR l j = 0
  | 0, i => by simp only [chkR]; exact ⟨fun _ j h1 h2 => by omega, fun _ => trivial⟩
  | d + 1, i => by
    simp only [chkR]
    by_cases h : elemR l i = 0
    · rw [if_pos h, chkR_zero l d (i + 1)]
      constructor
      · intro H j h1 h2
        by_cases e : j = i
        · subst e; exact h
        · exact H j (by omega) (by omega)
      · intro H j h1 h2
        exact H j (by omega) (by omega)
    · rw [if_neg h]
      constructor
      · intro h2; exact absurd h2 h
      · intro H; exact absurd (H i (by omega) (by omega)) h
theorem chkV_zero (l : List S36) : chkV l = 0 ↔ ((l.length : Int) ≤ 64 ∧ ∀ j, 0 ≤ j → j < (l.length : Int) → elemR l j = 0) := by
  unfold chkV
  by_cases h : (l.length : Int) > 64
  · rw [if_pos h]
    constructor
    · intro h2; cases h2
    · intro h2; omega
  · rw [if_neg h, chkR_zero]
    constructor
    · intro H; exact ⟨by omega, fun j h1 h2 => H j h1 (by omega)⟩
    · intro H j h1 h2; exact H.2 j h1 (by omega)
theorem elemR_zero (l : List S36) (j : Int) : elemR l j = 0 ↔ (shapeB (rd_T36 l j) = true ∧ ¬ (0 < j ∧ (rd_T36 l j).f0 ≤ (rd_T36 l (j - 1)).f0) ∧ keyIn (l.take j.toNat) (rd_T36 l j).f8 = false) := by
  unfold elemR
  by_cases h1 : shapeB (rd_T36 l j) = true
  · rw [if_pos h1]
    by_cases h2 : 0 < j ∧ (rd_T36 l j).f0 ≤ (rd_T36 l (j - 1)).f0
    · rw [if_pos h2]
      exact ⟨fun h => (by cases h), fun h => absurd h2 h.2.1⟩
    · rw [if_neg h2]
      by_cases h3 : keyIn (l.take j.toNat) (rd_T36 l j).f8 = true
      · rw [if_pos h3]
        exact ⟨fun h => (by cases h), fun h => by rw [h3] at h; cases h.2.2⟩
      · rw [if_neg h3]
        exact ⟨fun _ => ⟨h1, h2, Bool.eq_false_iff.2 h3⟩, fun _ => rfl⟩
  · rw [if_neg h1]
    exact ⟨fun h => (by cases h), fun h => absurd h.1 h1⟩
theorem shape_of (l : List S36) (h : chkV l = 0) (j : Int) (h0 : 0 ≤ j) (h1 : j < (l.length : Int)) : shapeB (rd_T36 l j) = true :=
  ((elemR_zero l j).1 (((chkV_zero l).1 h).2 j h0 h1)).1
theorem chk_set (l : List S36) (p : Int) (y : S36) (hp : 0 ≤ p) (hl : p < (l.length : Int)) (h : chkV l = 0) (k0 : y.f0 = (rd_T36 l p).f0) (k8 : y.f8 = (rd_T36 l p).f8) (hs : shapeB y = true) : chkV (l.set p.toNat y) = 0 := by
  rw [chkV_zero] at h ⊢
  obtain ⟨ha, hb⟩ := h
  have hlen : ((l.set p.toNat y).length : Int) = (l.length : Int) := by simp
  rw [hlen]
  refine ⟨ha, fun j h0 h1 => ?_⟩
  have f0 : ∀ j, 0 ≤ j → j < (l.length : Int) → (rd_T36 (l.set p.toNat y) j).f0 = (rd_T36 l j).f0 := by
    intro j h0 h1
    rw [rd_put l p j y hp h0 h1]
    split
    · rename_i e; subst e; exact k0
    · rfl
  have f8 : (rd_T36 (l.set p.toNat y) j).f8 = (rd_T36 l j).f8 := by
    rw [rd_put l p j y hp h0 h1]
    split
    · rename_i e; subst e; exact k8
    · rfl
  obtain ⟨e1, e2, e3⟩ := (elemR_zero l j).1 (hb j h0 h1)
  rw [elemR_zero]
  refine ⟨?_, ?_, ?_⟩
  · rw [rd_put l p j y hp h0 h1]
    split
    · exact hs
    · exact e1
  · intro hc
    exact e2 ⟨hc.1, by rw [← f0 j h0 h1, ← f0 (j - 1) (by omega) (by omega)]; exact hc.2⟩
  · rw [f8, keyIn_set l p y _ _ hp hl k8]; exact e3
theorem idx_id (l : List S36) (id : Int) (h : 0 ≤ idx l id) : (rd_T36 l (idx l id)).f0 = id := by
  have := (idxP_at (fun x : S36 => x.f0 == id) l z36 h).1
  exact beq_iff_eq.1 this
theorem idx_set (l : List S36) (id : Int) (y : S36) (h : 0 ≤ idx l id) (hl : idx l id < (l.length : Int)) (k0 : y.f0 = id) : idx (l.set (idx l id).toNat y) id = idx l id := by
  refine idxP_hit _ _ z36 _ h (by simpa using hl) (fun j hj => ?_) ?_
  · have h2 := (idxP_at (fun x : S36 => x.f0 == id) l z36 h).2 j hj
    have e := rd_put l (idx l id) (j : Int) y h (by omega) (by omega)
    rw [if_neg (by omega)] at e
    rw [show (l.set (idx l id).toNat y).getD j z36 = rd_T36 (l.set (idx l id).toNat y) (j : Int) from rfl, e]
    exact h2
  · have e := rd_put l (idx l id) (idx l id) y h h hl
    rw [if_pos rfl] at e
    show ((rd_T36 (l.set (idx l id).toNat y) (idx l id)).f0 == id) = true
    rw [e, k0]
    simp
theorem good_set (l : List S36) (p : Nat) (y : S36) (g : GL36 l) (gy : G36 y) : GL36 (l.set p y) :=
  ⟨by simpa using g.1, fun x hx => by
    rcases List.mem_or_eq_of_mem_set hx with h | h
    · exact g.2 x h
    · rw [h]; exact gy⟩
def setV (x : S36) (day e : Int) : S36 := if e = 0 then setSt x day else setRf x e
theorem settle_ok (l : List S36) (id day e : Int) : ((settleV l id day e).2 ≠ 0 ∧ (settleV l id day e).1 = []) ∨
    (0 ≤ idx l id ∧ (rd_T36 l (idx l id)).f7 = 1 ∧ dayB day = true ∧ settleV l id day e = (l.set (idx l id).toNat (setV (rd_T36 l (idx l id)) day e), 0)) := by
  have hr := idx_range l id
  unfold settleV setV
  by_cases h : idx l id < 0
  · rw [if_pos h]; exact Or.inl ⟨by decide, rfl⟩
  · rw [if_neg h]
    by_cases h1 : (rd_T36 l (idx l id)).f7 = 1
    · rw [if_pos h1]
      by_cases h2 : dayB day = true
      · rw [if_pos h2]
        refine Or.inr ⟨by omega, h1, h2, ?_⟩
        by_cases h3 : e = 0
        · rw [if_pos h3, if_pos h3]
        · rw [if_neg h3, if_neg h3]
      · rw [if_neg h2]; exact Or.inl ⟨by decide, rfl⟩
    · rw [if_neg h1]; exact Or.inl ⟨by decide, rfl⟩
theorem settle_shut (l : List S36) (id day e : Int) (h : 0 ≤ idx l id) (h1 : (rd_T36 l (idx l id)).f7 ≠ 1) : settleV l id day e = ([], 17) := by
  unfold settleV
  rw [if_neg (by omega), if_neg h1]
theorem ret_shut (l : List S36) (id reason day : Int) (h : 0 ≤ idx l id) (h1 : (rd_T36 l (idx l id)).f7 ≠ 2) : retV l id reason day = ([], 17) := by
  unfold retV
  rw [if_neg (by omega), if_neg h1]
theorem ret_ok (l : List S36) (id reason day : Int) : ((retV l id reason day).2 ≠ 0 ∧ (retV l id reason day).1 = []) ∨
    (0 ≤ idx l id ∧ (rd_T36 l (idx l id)).f7 = 2 ∧ (1 ≤ reason ∧ reason ≤ 4 ∧ dayB day = true ∧ (rd_T36 l (idx l id)).f4 ≤ day ∧ wrap64 (day - winV reason) ≤ (rd_T36 l (idx l id)).f4) ∧ retV l id reason day = (l.set (idx l id).toNat (setRt (rd_T36 l (idx l id)) reason day), 0)) := by
  have hr := idx_range l id
  unfold retV
  by_cases h : idx l id < 0
  · rw [if_pos h]; exact Or.inl ⟨by decide, rfl⟩
  · rw [if_neg h]
    by_cases h1 : (rd_T36 l (idx l id)).f7 = 2
    · rw [if_pos h1]
      by_cases h2 : reason < 1 ∨ reason > 4 ∨ dayB day = false ∨ day < (rd_T36 l (idx l id)).f4
      · rw [if_pos h2]; exact Or.inl ⟨by decide, rfl⟩
      · rw [if_neg h2]
        by_cases h3 : (rd_T36 l (idx l id)).f4 < wrap64 (day - winV reason)
        · rw [if_pos h3]; exact Or.inl ⟨by decide, rfl⟩
        · rw [if_neg h3]
          refine Or.inr ⟨by omega, h1, ⟨by omega, by omega, ?_, by omega, by omega⟩, rfl⟩
          cases hd : dayB day with
          | true => rfl
          | false => exact absurd (Or.inr (Or.inr (Or.inl hd))) h2
    · rw [if_neg h1]; exact Or.inl ⟨by decide, rfl⟩
/-! What is set fits. -/
theorem fits_form (x : S36) : collect_fits.f x.f0 x.f1 x.f2 x.f3 x.f4 x.f5 x.f6 x.f7 x.f8 = some (fitsB x) := fits_eq x
theorem pres_of (x : S36) (h : fitsB x = true) (h7 : x.f7 = 1) : x.f4 = 0 ∧ x.f5 = 0 ∧ x.f6 = 0 := by
  have e := fits_eq x
  rw [h] at e
  unfold collect_fits.f collect_presented.f at e
  rw [if_pos h7] at e
  by_cases h1 : x.f4 = 0 <;> by_cases h2 : x.f5 = 0 <;> by_cases h3 : x.f6 = 0 <;> simp_all
theorem reason_range (e : Int) (h : e ≠ 0) : 1 ≤ reasonV e ∧ reasonV e ≤ 3 := by
  unfold reasonV
  rw [if_neg h]
  (repeat' split) <;> omega
theorem fits_set (x : S36) (day e : Int) (h : fitsB x = true) (h7 : x.f7 = 1) (hd : dayB day = true) : fitsB (setV x day e) = true := by
  obtain ⟨h4, h5, h6⟩ := pres_of x h h7
  have key : collect_fits.f (setV x day e).f0 (setV x day e).f1 (setV x day e).f2 (setV x day e).f3 (setV x day e).f4 (setV x day e).f5 (setV x day e).f6 (setV x day e).f7 (setV x day e).f8 = some true := by
    unfold setV
    by_cases he : e = 0
    · rw [if_pos he]
      simp [setSt, collect_fits.f, date_eq, hd, h5, h6]
    · rw [if_neg he]
      obtain ⟨r1, r2⟩ := reason_range e he
      simp [setRf, collect_fits.f, h4, h5, r1, r2]
  have e2 := fits_eq (setV x day e)
  rw [key] at e2
  exact (Option.some.inj e2).symm
theorem win_range (a : Int) : 0 ≤ winV a ∧ winV a ≤ 395 := by
  unfold winV
  (repeat' split) <;> omega
theorem day_range {d : Int} (h : dayB d = true) : 0 ≤ d ∧ d ≤ 73048 := by
  simp only [dayB, Bool.and_eq_true, decide_eq_true_eq] at h
  exact h
theorem fits_rt (x : S36) (reason day : Int) (h4 : dayB x.f4 = true) (r1 : 1 ≤ reason) (r2 : reason ≤ 4) (hd : dayB day = true) (h : x.f4 ≤ day) (hw : wrap64 (day - winV reason) ≤ x.f4) : fitsB (setRt x reason day) = true := by
  have hk := win_range reason
  have d1 := day_range h4
  have d2 := day_range hd
  have ew : wrap64 (day - winV reason) = day - winV reason := wid (by omega) (by omega)
  rw [ew] at hw
  have key : collect_fits.f (setRt x reason day).f0 (setRt x reason day).f1 (setRt x reason day).f2 (setRt x reason day).f3 (setRt x reason day).f4 (setRt x reason day).f5 (setRt x reason day).f6 (setRt x reason day).f7 (setRt x reason day).f8 = some true := by
    have e2 : wrap64 (x.f4 + winV reason) = x.f4 + winV reason := wid (by omega) (by omega)
    have ec : collect_Window.f reason = some (winV reason) := rfl
    simp only [setRt, collect_fits.f, date_eq, Option.bind_some, hd, h4, ec, e2]
    simp only [if_true]
    rw [if_neg (by decide), if_neg (by decide), if_pos (by omega), if_pos (by omega), if_pos (by omega)]
    exact congrArg some (decide_eq_true (by omega))
  have e2 := fits_eq (setRt x reason day)
  rw [key] at e2
  exact (Option.some.inj e2).symm
theorem shape_fits {x y : S36} (h : shapeB x = true) (k0 : y.f0 = x.f0) (k1 : y.f1 = x.f1) (k2 : y.f2 = x.f2) (k3 : y.f3 = x.f3) (k8 : y.f8 = x.f8) (hf : fitsB y = true) : shapeB y = true := by
  simp only [shapeB, Bool.and_eq_true, decide_eq_true_eq] at h ⊢
  rw [k0, k1, k2, k3, k8]
  exact ⟨h.1, h.2.1, h.2.2.1, h.2.2.2.1, h.2.2.2.2.1, hf⟩
theorem shape_is_fit {x : S36} (h : shapeB x = true) : fitsB x = true := by
  simp only [shapeB, Bool.and_eq_true, decide_eq_true_eq] at h
  exact h.2.2.2.2.2
theorem setV_keeps (x : S36) (day e : Int) : (setV x day e).f0 = x.f0 ∧ (setV x day e).f1 = x.f1 ∧ (setV x day e).f2 = x.f2 ∧ (setV x day e).f3 = x.f3 ∧ (setV x day e).f8 = x.f8 ∧ (setV x day e).f7 ≠ 1 := by
  unfold setV
  by_cases he : e = 0
  · rw [if_pos he]; exact ⟨rfl, rfl, rfl, rfl, rfl, show (2 : Int) ≠ 1 by decide⟩
  · rw [if_neg he]; exact ⟨rfl, rfl, rfl, rfl, rfl, show (4 : Int) ≠ 1 by decide⟩
theorem reason_good (e : Int) : (Lit.int .i64 (reasonV e)).wf = true := by
  rw [wf64]
  unfold reasonV
  (repeat' split) <;> omega
theorem setV_good (x : S36) (day e : Int) (g : G36 x) (gd : (Lit.int .i64 day).wf = true) : G36 (setV x day e) := by
  have h2 : (Lit.int .i64 2).wf = true := by rw [wf64]; omega
  have h4 : (Lit.int .i64 4).wf = true := by rw [wf64]; omega
  obtain ⟨a0, a1, a2, a3, a4, a5, a6, a7, a8⟩ := g
  unfold setV
  by_cases he : e = 0
  · rw [if_pos he]; exact ⟨a0, a1, a2, a3, gd, a5, a6, h2, a8⟩
  · rw [if_neg he]; exact ⟨a0, a1, a2, a3, a4, a5, reason_good e, h4, a8⟩
theorem setRt_good (x : S36) (reason day : Int) (g : G36 x) (gd : (Lit.int .i64 day).wf = true) (gr : (Lit.int .i64 reason).wf = true) : G36 (setRt x reason day) := by
  have h3 : (Lit.int .i64 3).wf = true := by rw [wf64]; omega
  obtain ⟨a0, a1, a2, a3, a4, a5, a6, a7, a8⟩ := g
  exact ⟨a0, a1, a2, a3, a4, gd, gr, h3, a8⟩
end Go.Proofs.YtfdjgdjmllkdcaaDoor.X

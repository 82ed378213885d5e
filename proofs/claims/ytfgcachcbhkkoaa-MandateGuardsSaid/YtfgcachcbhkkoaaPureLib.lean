import Derived.Test.YtfgcachcbhkkoaaEv
import Derived.Test.YtfgcachcbhkkoaaGood
import Derived.Test.YtfgcachcbhkkoaaX0
import Derived.Test.YtfgcachcbhkkoaaX11
import Derived.Test.YtfgcachcbhkkoaaX15
import Derived.Test.YtfgcachcbhkkoaaX2
import Derived.Test.YtfgcachcbhkkoaaX20
import Derived.Test.YtfgcachcbhkkoaaX3
import Derived.Test.YtfgcachcbhkkoaaX4
import Derived.Test.YtfgcachcbhkkoaaX5
import Derived.Test.YtfgcachcbhkkoaaX6
import Derived.Test.YtfgcachcbhkkoaaX7
import Derived.Test.YtfgcachcbhkkoaaX8
import Derived.Test.YtfgcachcbhkkoaaX9
namespace Go.Proofs.Ytfgcachcbhkkoaa.X
open Go.RowKit Go.Proofs.YtfgcachcbhkkoaaW.PrintWords Go.Proofs.YtfgcachcbhkkoaaW.PrintLast
set_option linter.unusedVariables false

theorem getD_at {α : Type} (l : List α) (z : α) (j : Nat) (h : j < l.length) : l.getD j z = l[j] := by
  rw [List.getD_eq_getElem?_getD, List.getElem?_eq_getElem h, Option.getD_some]
def allF (p : Int → Bool) : Nat → Int → Bool
  | 0, _ => true
  | d + 1, i => p i && allF p d (i + 1)
def okR (s : ByteArray) (i : Int) : Bool := (decide (97 ≤ bt s i) && decide (bt s i ≤ 122)) || (decide (bt s i = 95) || (decide (48 ≤ bt s i) && decide (bt s i ≤ 57)))
theorem named_loop (s : ByteArray) (hs : s.size ≤ 9223372036854775807) : ∀ (d : Nat) (i : Int), 0 ≤ i → i + d = (s.size : Int) → Ev (fun k => mandate_named.l0 k s (s.size : Int) i) (allF (okR s) d i)
  | 0, i, h0, h => by
    apply Ev.up
    simp only [mandate_named.l0]
    exact Ev.neg (by omega) (Ev.ret rfl)
  | d + 1, i, h0, h => by
    have ih := named_loop s hs d (i + 1) (by omega) (by omega)
    have hw : wrap64 (i + 1) = i + 1 := w1 (n := (s.size : Int)) (by omega) (by omega) (by omega)
    apply Ev.up
    simp only [mandate_named.l0, hw]
    refine Ev.pos (by omega) (Ev.pos h0 (Ev.pos (by omega) ?_))
    by_cases h1 : okR s i = true
    · simp only [allF, h1, Bool.true_and]
      simp only [okR, Bool.or_eq_true, Bool.and_eq_true, decide_eq_true_eq] at h1
      repeat' first
        | exact ih
        | (refine Ev.ite (fun _ => ?_) (fun _ => ?_))
        | (exfalso; omega)
    · have h1' : okR s i = false := by simpa using h1
      simp only [allF, h1', Bool.false_and]
      simp only [okR, Bool.or_eq_true, Bool.and_eq_true, decide_eq_true_eq] at h1
      repeat' first
        | exact Ev.ret rfl
        | (refine Ev.ite (fun _ => ?_) (fun _ => ?_))
        | (exfalso; omega)
theorem Name_loop (s : ByteArray) (hs : s.size ≤ 9223372036854775807) : ∀ (d : Nat) (i : Int), 0 ≤ i → i + d = (s.size : Int) → Ev (fun k => corebankref05_Name.l0 k s i) (allF (okR s) d i)
  | 0, i, h0, h => by
    apply Ev.up
    simp only [corebankref05_Name.l0]
    exact Ev.neg (by omega) (Ev.ret rfl)
  | d + 1, i, h0, h => by
    have ih := Name_loop s hs d (i + 1) (by omega) (by omega)
    have hw : wrap64 (i + 1) = i + 1 := w1 (n := (s.size : Int)) (by omega) (by omega) (by omega)
    apply Ev.up
    simp only [corebankref05_Name.l0, hw]
    refine Ev.pos (by omega) (Ev.pos h0 ?_)
    by_cases h1 : okR s i = true
    · simp only [allF, h1, Bool.true_and]
      simp only [okR, Bool.or_eq_true, Bool.and_eq_true, decide_eq_true_eq] at h1
      repeat' first
        | exact ih
        | (refine Ev.ite (fun _ => ?_) (fun _ => ?_))
        | (exfalso; omega)
    · have h1' : okR s i = false := by simpa using h1
      simp only [allF, h1', Bool.false_and]
      simp only [okR, Bool.or_eq_true, Bool.and_eq_true, decide_eq_true_eq] at h1
      repeat' first
        | exact Ev.ret rfl
        | (refine Ev.ite (fun _ => ?_) (fun _ => ?_))
        | (exfalso; omega)
theorem empty_iff (s : ByteArray) : s.toList = [] ↔ s.size = 0 := by
  rw [← List.length_eq_zero_iff, ByteArray.toList_eq]
  have : s.data.toList.length = s.size := rfl
  omega
theorem name_same (s : ByteArray) (hs : s.size ≤ 9223372036854775807) : ∃ b, Ev (fun k => mandate_named.f k s) b ∧ Ev (fun k => corebankref05_Name.f k s) b := by
  have hj : ∀ b : Bool, ∃ r, Ev (fun k => mandate_named.j0 k s b) r ∧ Ev (fun k => corebankref05_Name.j0 k s b) r := by
    intro b
    cases b with
    | true =>
      refine ⟨false, Ev.up ?_, Ev.up ?_⟩
      · simp only [mandate_named.j0, if_true]; exact Ev.ret rfl
      · simp only [corebankref05_Name.j0, if_true]; exact Ev.ret rfl
    | false =>
      refine ⟨allF (okR s) s.size 0, Ev.up ?_, Ev.up ?_⟩
      · simp only [mandate_named.j0]; exact Ev.neg (by decide) (named_loop s hs s.size 0 (by omega) (by omega))
      · simp only [corebankref05_Name.j0]; exact Ev.neg (by decide) (Name_loop s hs s.size 0 (by omega) (by omega))
  obtain ⟨r1, a1, b1⟩ := hj true
  obtain ⟨r2, a2, b2⟩ := hj (decide (bt s 0 > 122))
  have he := empty_iff s
  simp only [mandate_named.f, corebankref05_Name.f]
  by_cases h1 : s.size = 0
  · exact ⟨r1, Ev.pos (he.2 h1) a1, Ev.pos (by omega) b1⟩
  · have h1' : ¬ s.toList = [] := fun h => h1 (he.1 h)
    by_cases h2 : (s.size : Int) > 16
    · exact ⟨r1, Ev.neg h1' (Ev.pos h2 a1), Ev.neg (by omega) (Ev.pos h2 b1)⟩
    · by_cases h3 : bt s 0 < 97
      · exact ⟨r1, Ev.neg h1' (Ev.neg h2 (Ev.pos (by omega) (Ev.pos h3 a1))), Ev.neg (by omega) (Ev.neg h2 (Ev.pos (by omega) (Ev.pos h3 b1)))⟩
      · exact ⟨r2, Ev.neg h1' (Ev.neg h2 (Ev.pos (by omega) (Ev.neg h3 a2))), Ev.neg (by omega) (Ev.neg h2 (Ev.pos (by omega) (Ev.neg h3 b2)))⟩

theorem rd28 (l : List S28) (i : Int) (h0 : 0 ≤ i) (h1 : i < (l.length : Int)) : rd_T28 l i = l[i.toNat]'(by omega) := by
  unfold rd_T28
  exact getD_at _ _ _ (by omega)
theorem rd28_mem (l : List S28) (i : Int) (h0 : 0 ≤ i) (h1 : i < (l.length : Int)) : rd_T28 l i ∈ l := by
  rw [rd28 l i h0 h1]; exact List.getElem_mem _

/-! Check. -/
def dayB (d : Int) : Bool := decide (0 ≤ d) && decide (d ≤ 73048)
def laterB (d s : Int) : Bool := decide (d = 0) || (dayB d && decide (s ≤ d))
def goodB (x : S28) : Bool := decide (1 ≤ x.f0) && (decide (1000 ≤ x.f1) && (decide (0 ≤ x.f2) && (decide (x.f2 ≤ 1000000000000) && (dayB x.f3 && (laterB x.f4 x.f3 && laterB x.f5 x.f3)))))
theorem date_eq (d : Int) : date_Valid.f d = some (dayB d) := by
  unfold date_Valid.f dayB
  by_cases h : d ≥ 0 <;> simp [h]
theorem later_eq (d s : Int) : mandate_later.f d s = some (laterB d s) := by
  unfold mandate_later.f laterB
  rw [date_eq]
  by_cases h : d = 0
  · simp [h]
  · cases dayB d <;> simp [h]
theorem accepted_eq (x : S28) : mandate_accepted.f x.f0 x.f1 x.f2 x.f3 x.f4 x.f5 x.f6 = some (goodB x) := by
  unfold mandate_accepted.f goodB
  rw [date_eq, later_eq, later_eq]
  have hm : ∀ a : Int, 0 ≤ a → money_Valid.f a = some (decide (a ≤ 1000000000000)) := by
    intro a ha
    unfold money_Valid.f
    rw [if_pos (by omega)]
  by_cases h1 : x.f0 ≥ 1
  · by_cases h2 : x.f1 ≥ 1000
    · by_cases h3 : x.f2 ≥ 0
      · rw [hm x.f2 h3]
        by_cases h4 : x.f2 ≤ 1000000000000
        · cases dayB x.f3 <;> cases laterB x.f4 x.f3 <;> simp [h1, h2, h3, h4]
        · simp [h1, h2, h3, h4]
      · simp [h1, h2, h3]
    · simp [h1, h2]
  · simp [h1]
theorem good_eq (x : S28) : corebankref41_good.f x.f0 x.f1 x.f2 x.f3 x.f4 x.f5 x.f6 = some (goodB x) := by
  rw [← accepted_eq]; rfl
def elemOK (l : List S28) (j : Int) : Prop := goodB (rd_T28 l j) = true ∧ Ev (fun k => mandate_named.f k (rd_T28 l j).f6) true ∧ (0 < j → (rd_T28 l (j - 1)).f0 < (rd_T28 l j).f0)
def restOK (l : List S28) (i : Int) : Prop := ∀ j, i ≤ j → j < (l.length : Int) → elemOK l j
theorem restOK_cons (l : List S28) (i : Int) (h : i < (l.length : Int)) : restOK l i ↔ elemOK l i ∧ restOK l (i + 1) := by
  constructor
  · intro hr
    exact ⟨hr i (Int.le_refl _) h, fun j hj hl => hr j (by omega) hl⟩
  · rintro ⟨h1, h2⟩ j hj hl
    by_cases e : j = i
    · rw [e]; exact h1
    · exact h2 j (by omega) hl
theorem chk_loop (l : List S28) (g : GL28 l) : ∀ (d : Nat) (i : Int), 0 ≤ i → i + d = (l.length : Int) → ∃ r, Ev (fun k => mandate_Check.l0 k l l (l.length : Int) i) r ∧ Ev (fun k => corebankref41_Check.l0 k l i) r ∧ (r = 0 ↔ restOK l i)
  | 0, i, h0, h => by
    refine ⟨0, Ev.up ?_, Ev.up ?_, ⟨fun _ j hj hl => by omega, fun _ => rfl⟩⟩
    · simp only [mandate_Check.l0]
      exact Ev.neg (by omega) (Ev.ret rfl)
    · simp only [corebankref41_Check.l0]
      exact Ev.neg (by omega) (Ev.ret rfl)
  | d + 1, i, h0, h => by
    have hl := g.1
    have hi : i < (l.length : Int) := by omega
    have hw : wrap64 (i + 1) = i + 1 := w1 (n := (l.length : Int)) (by omega) (by omega) (by omega)
    have hwm : wrap64 (i - 1) = i - 1 := wm1 (by omega) (by omega)
    obtain ⟨r, ih1, ih2, hr⟩ := chk_loop l g d (i + 1) (by omega) (by omega)
    rw [restOK_cons l i hi]
    by_cases hg : goodB (rd_T28 l i) = true
    · obtain ⟨b, hn1, hn2⟩ := name_same (rd_T28 l i).f6 (g.2 _ (rd28_mem l i h0 (by omega))).2.2.2.2.2.2
      cases b with
      | false =>
        refine ⟨4, Ev.up ?_, Ev.up ?_, ?_⟩
        · simp only [mandate_Check.l0]
          exact Ev.pos (by omega) (Ev.pos h0 (Ev.pos (by omega) (Ev.now_ (accepted_eq _) (Ev.pos hg (Ev.bnd hn1 (Ev.ret rfl))))))
        · simp only [corebankref41_Check.l0]
          exact Ev.pos (by omega) (Ev.pos h0 (Ev.now_ (good_eq _) (Ev.pos hg (Ev.bnd hn2 (Ev.ret rfl)))))
        · constructor
          · intro e; omega
          · rintro ⟨⟨_, e, _⟩, _⟩
            have := Ev.uniq hn1 e
            cases this
      | true =>
        by_cases h3 : i > 0
        · by_cases h4 : (rd_T28 l i).f0 ≤ (rd_T28 l (i - 1)).f0
          · refine ⟨10, Ev.up ?_, Ev.up ?_, ?_⟩
            · simp only [mandate_Check.l0, hwm]
              exact Ev.pos (by omega) (Ev.pos h0 (Ev.pos (by omega) (Ev.now_ (accepted_eq _) (Ev.pos hg (Ev.bnd hn1 (Ev.pos rfl (Ev.pos h3 (Ev.pos (by omega) (Ev.pos (by omega) (Ev.pos h4 (Ev.ret rfl)))))))))))
            · simp only [corebankref41_Check.l0, hwm]
              exact Ev.pos (by omega) (Ev.pos h0 (Ev.now_ (good_eq _) (Ev.pos hg (Ev.bnd hn2 (Ev.pos rfl (Ev.pos h3 (Ev.pos (by omega) (Ev.pos (by omega) (Ev.pos h4 (Ev.ret rfl))))))))))
            · constructor
              · intro e; omega
              · rintro ⟨⟨_, _, e⟩, _⟩
                have := e h3
                omega
          · refine ⟨r, Ev.up ?_, Ev.up ?_, ?_⟩
            · simp only [mandate_Check.l0, hwm, hw]
              exact Ev.pos (by omega) (Ev.pos h0 (Ev.pos (by omega) (Ev.now_ (accepted_eq _) (Ev.pos hg (Ev.bnd hn1 (Ev.pos rfl (Ev.pos h3 (Ev.pos (by omega) (Ev.pos (by omega) (Ev.neg h4 ih1))))))))))
            · simp only [corebankref41_Check.l0, hwm, hw]
              exact Ev.pos (by omega) (Ev.pos h0 (Ev.now_ (good_eq _) (Ev.pos hg (Ev.bnd hn2 (Ev.pos rfl (Ev.pos h3 (Ev.pos (by omega) (Ev.pos (by omega) (Ev.neg h4 ih2)))))))))
            · rw [hr]
              exact ⟨fun h => ⟨⟨hg, hn1, fun _ => by omega⟩, h⟩, fun h => h.2⟩
        · refine ⟨r, Ev.up ?_, Ev.up ?_, ?_⟩
          · simp only [mandate_Check.l0, hw]
            exact Ev.pos (by omega) (Ev.pos h0 (Ev.pos (by omega) (Ev.now_ (accepted_eq _) (Ev.pos hg (Ev.bnd hn1 (Ev.pos rfl (Ev.neg h3 ih1)))))))
          · simp only [corebankref41_Check.l0, hw]
            exact Ev.pos (by omega) (Ev.pos h0 (Ev.now_ (good_eq _) (Ev.pos hg (Ev.bnd hn2 (Ev.pos rfl (Ev.neg h3 ih2))))))
          · rw [hr]
            exact ⟨fun h => ⟨⟨hg, hn1, fun h5 => absurd h5 h3⟩, h⟩, fun h => h.2⟩
    · refine ⟨1, Ev.up ?_, Ev.up ?_, ?_⟩
      · simp only [mandate_Check.l0]
        exact Ev.pos (by omega) (Ev.pos h0 (Ev.pos (by omega) (Ev.now_ (accepted_eq _) (Ev.neg hg (Ev.ret rfl)))))
      · simp only [corebankref41_Check.l0]
        exact Ev.pos (by omega) (Ev.pos h0 (Ev.now_ (good_eq _) (Ev.neg hg (Ev.ret rfl))))
      · constructor
        · intro e; omega
        · rintro ⟨⟨e, _⟩, _⟩; exact absurd e hg
def CheckOK (l : List S28) : Prop := l.length ≤ 64 ∧ restOK l 0
theorem chk_ev (l : List S28) (g : GL28 l) : ∃ r, Ev (fun k => mandate_Check.f k l) r ∧ Ev (fun k => corebankref41_Check.f k l) r ∧ (r = 0 ↔ CheckOK l) := by
  simp only [mandate_Check.f, corebankref41_Check.f]
  by_cases h : (l.length : Int) > 64
  · refine ⟨5, Ev.pos h (Ev.ret rfl), Ev.pos h (Ev.ret rfl), ?_⟩
    constructor
    · intro e; omega
    · rintro ⟨e, _⟩; omega
  · obtain ⟨r, h1, h2, h3⟩ := chk_loop l g l.length 0 (by omega) (by omega)
    refine ⟨r, Ev.neg h h1, Ev.neg h h2, ?_⟩
    rw [h3]
    exact ⟨fun e => ⟨by omega, e⟩, fun e => e.2⟩

/-! short, live. -/
theorem short_loop (l : List S28) (hl : l.length ≤ 9223372036854775807) : ∀ (d : Nat) (i : Int), 0 ≤ i → i + d = (l.length : Int) → ∃ b, Ev (fun k => corebanklaw41_short.l0 k l i) b ∧ (b = true → l.length ≤ 100)
  | 0, i, h0, h => by
    have hj : ∀ x : Bool, x = false → Ev (fun k => corebanklaw41_short.j1 k l i x) (decide ((l.length : Int) ≤ 100)) := by
      intro x hx
      subst hx
      apply Ev.up
      simp only [corebanklaw41_short.j1]
      exact Ev.neg (by decide) (Ev.ret rfl)
    refine ⟨decide ((l.length : Int) ≤ 100), Ev.up ?_, fun h => by have := of_decide_eq_true h; omega⟩
    simp only [corebanklaw41_short.l0]
    exact Ev.neg (by omega) (hj _ rfl)
  | d + 1, i, h0, h => by
    have hw : wrap64 (i + 1) = i + 1 := w1 (n := (l.length : Int)) (by omega) (by omega) (by omega)
    obtain ⟨b, ih, hb⟩ := short_loop l hl d (i + 1) (by omega) (by omega)
    by_cases h1 : i < 101
    · by_cases h2 : ((rd_T28 l i).f6.size : Int) > 100
      · refine ⟨false, Ev.up ?_, fun h => by cases h⟩
        simp only [corebanklaw41_short.l0, h1, decide_true]
        refine Ev.pos (by omega) (Ev.up ?_)
        simp only [corebanklaw41_short.j1]
        exact Ev.pos (by simp) (Ev.pos h0 (Ev.pos (by omega) (Ev.pos h2 (Ev.ret rfl))))
      · refine ⟨b, Ev.up ?_, hb⟩
        simp only [corebanklaw41_short.l0, h1, decide_true]
        refine Ev.pos (by omega) (Ev.up ?_)
        simp only [corebanklaw41_short.j1, hw]
        exact Ev.pos (by simp) (Ev.pos h0 (Ev.pos (by omega) (Ev.neg h2 ih)))
    · refine ⟨decide ((l.length : Int) ≤ 100), Ev.up ?_, fun h => by have := of_decide_eq_true h; omega⟩
      simp only [corebanklaw41_short.l0, h1, decide_false]
      refine Ev.pos (by omega) (Ev.up ?_)
      simp only [corebanklaw41_short.j1]
      exact Ev.neg (by decide) (Ev.ret rfl)
theorem short_ev (l : List S28) (hl : l.length ≤ 9223372036854775807) : ∃ b, Ev (fun k => corebanklaw41_short.f k l) b ∧ (b = true → l.length ≤ 100) := by
  simp only [corebanklaw41_short.f]
  exact short_loop l hl l.length 0 (by omega) (by omega)
theorem live_true : Ev (fun k => corebanklaw41_live.f k) true := Ev.of corebanklaw41_live.mono (k := 30) (by decide +kernel)
theorem live_end : Ev (fun k => (corebanklaw41_live.f k).bind fun t => some t) true := Ev.bnd live_true (Ev.ret rfl)

/-! find. -/
def idxP {α : Type} (p : α → Bool) (l : List α) : Int := match l.findIdx? p with | some i => (i : Int) | none => -1
theorem idxP_hit {α : Type} (p : α → Bool) (l : List α) (z : α) (i : Int) (h0 : 0 ≤ i) (h1 : i < (l.length : Int)) (hb : ∀ j : Nat, (j : Int) < i → p (l.getD j z) = false) (hp : p (l.getD i.toNat z) = true) : idxP p l = i := by
  have : l.findIdx? p = some i.toNat := by
    rw [List.findIdx?_eq_some_iff_getElem]
    refine ⟨by omega, ?_, fun j hj => ?_⟩
    · rw [getD_at _ _ _ (by omega)] at hp; exact hp
    · have := hb j (by omega)
      rw [getD_at _ _ _ (by omega)] at this; simpa using this
  simp only [idxP, this]; omega
theorem idxP_miss {α : Type} (p : α → Bool) (l : List α) (z : α) (i : Int) (h1 : ¬ i < (l.length : Int)) (hb : ∀ j : Nat, (j : Int) < i → p (l.getD j z) = false) : idxP p l = -1 := by
  have : l.findIdx? p = none := by
    rw [List.findIdx?_eq_none_iff]
    intro x hx
    obtain ⟨j, hj, rfl⟩ := List.getElem_of_mem hx
    have := hb j (by omega)
    rw [getD_at _ _ _ hj] at this; exact this
  simp only [idxP, this]
theorem idxP_range {α : Type} (p : α → Bool) (l : List α) : idxP p l = -1 ∨ (0 ≤ idxP p l ∧ idxP p l < (l.length : Int)) := by
  unfold idxP
  split
  · rename_i i h
    right
    rw [List.findIdx?_eq_some_iff_getElem] at h
    obtain ⟨h1, _⟩ := h
    omega
  · left; rfl
theorem idxP_at {α : Type} (p : α → Bool) (l : List α) (z : α) (h : 0 ≤ idxP p l) : p (l.getD (idxP p l).toNat z) = true ∧ ∀ j : Nat, (j : Int) < idxP p l → p (l.getD j z) = false := by
  cases hi : l.findIdx? p with
  | some i =>
    have e : idxP p l = (i : Int) := by simp only [idxP, hi]
    rw [e]
    rw [List.findIdx?_eq_some_iff_getElem] at hi
    obtain ⟨h1, h2, h3⟩ := hi
    refine ⟨?_, fun j hj => ?_⟩
    · rw [getD_at _ _ _ (by omega)]; simpa using h2
    · rw [getD_at _ _ _ (by omega)]; simpa using h3 j (by omega)
  | none =>
    have e : idxP p l = -1 := by simp only [idxP, hi]
    omega
def idx (l : List S28) (id : Int) : Int := idxP (fun x : S28 => x.f0 == id) l
theorem idx_range (l : List S28) (id : Int) : idx l id = -1 ∨ (0 ≤ idx l id ∧ idx l id < (l.length : Int)) := idxP_range _ l
theorem rd_nat (l : List S28) (i : Int) (j : Nat) (h : (j : Int) = i) : rd_T28 l i = l.getD j z28 := by
  subst h; rfl
theorem place_loop (l : List S28) (id : Int) (hl : l.length ≤ 9223372036854775807) : ∀ (d : Nat) (i : Int), 0 ≤ i → i + d = (l.length : Int) → (∀ j : Nat, (j : Int) < i → (l.getD j z28).f0 ≠ id) →
    Ev (fun k => corebankref41_Place.l0 k l id i) (idx l id)
  | 0, i, h0, h, hb => by
    apply Ev.up
    simp only [corebankref41_Place.l0]
    exact Ev.neg (by omega) (Ev.ret (idxP_miss _ l z28 i (by omega) (fun j hj => by simpa using hb j hj)).symm)
  | d + 1, i, h0, h, hb => by
    have hw : wrap64 (i + 1) = i + 1 := w1 (n := (l.length : Int)) (by omega) (by omega) (by omega)
    apply Ev.up
    simp only [corebankref41_Place.l0, hw]
    refine Ev.pos (by omega) (Ev.pos h0 (Ev.ite (fun h1 => ?_) (fun h1 => ?_)))
    · exact Ev.ret (idxP_hit _ l z28 i h0 (by omega) (fun j hj => by simpa using hb j hj) (by show ((rd_T28 l i).f0 == id) = true; exact beq_iff_eq.mpr h1)).symm
    · refine place_loop l id hl d (i + 1) (by omega) (by omega) (fun j hj => ?_)
      by_cases e : (j : Int) = i
      · rw [← rd_nat l i j e]; exact h1
      · exact hb j (by omega)
theorem place_ev (l : List S28) (id : Int) (hl : l.length ≤ 9223372036854775807) : Ev (fun k => corebankref41_Place.f k l id) (idx l id) :=
  place_loop l id hl l.length 0 (by omega) (by omega) (fun j hj => by omega)
def findV (l : List S28) (id : Int) : Int × Bool := if idx l id < 0 then (0, false) else (idx l id, true)
theorem find_loop (l : List S28) (id : Int) (hl : l.length ≤ 9223372036854775807) : ∀ (d : Nat) (i : Int), 0 ≤ i → i + d = (l.length : Int) → (∀ j : Nat, (j : Int) < i → (l.getD j z28).f0 ≠ id) →
    Ev (fun k => mandate_first.l0 k id l (l.length : Int) i) (findV l id)
  | 0, i, h0, h, hb => by
    apply Ev.up
    simp only [mandate_first.l0]
    have e : idx l id = -1 := idxP_miss _ l z28 i (by omega) (fun j hj => by simpa using hb j hj)
    exact Ev.neg (by omega) (Ev.ret (by rw [findV, e]; rfl))
  | d + 1, i, h0, h, hb => by
    have hw : wrap64 (i + 1) = i + 1 := w1 (n := (l.length : Int)) (by omega) (by omega) (by omega)
    apply Ev.up
    simp only [mandate_first.l0, hw, mandate_findc.f, Option.bind_some]
    refine Ev.pos (by omega) (Ev.pos h0 (Ev.pos (by omega) (Ev.ite (fun h1 => ?_) (fun h1 => ?_))))
    · have e : idx l id = i := idxP_hit _ l z28 i h0 (by omega) (fun j hj => by simpa using hb j hj) h1
      exact Ev.ret (by rw [findV, e, if_neg (by omega)])
    · refine find_loop l id hl d (i + 1) (by omega) (by omega) (fun j hj => ?_)
      by_cases e : (j : Int) = i
      · rw [← rd_nat l i j e]; simpa using h1
      · exact hb j (by omega)
theorem find_ev (l : List S28) (id : Int) (hl : l.length ≤ 9223372036854775807) : Ev (fun k => mandate_find.f k l id) (findV l id) :=
  find_loop l id hl l.length 0 (by omega) (by omega) (fun j hj => by omega)
theorem clone_eq (l : List S28) (h : l.length ≤ 100) : api_Mandate_28.f l = some l := by
  unfold api_Mandate_28.f
  simp only [Option.bind_some, List.nil_append]
  exact if_pos (by simp; omega)
end Go.Proofs.Ytfgcachcbhkkoaa.X

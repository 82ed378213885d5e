import Derived.Test.YtclllkbngkohlaaEv
import Derived.Test.YtclllkbngkohlaaGood
import Derived.Test.YtclllkbngkohlaaX0
import Derived.Test.YtclllkbngkohlaaX1
import Derived.Test.YtclllkbngkohlaaX10
import Derived.Test.YtclllkbngkohlaaX11
import Derived.Test.YtclllkbngkohlaaX12
import Derived.Test.YtclllkbngkohlaaX13
import Derived.Test.YtclllkbngkohlaaX14
import Derived.Test.YtclllkbngkohlaaX15
import Derived.Test.YtclllkbngkohlaaX20
import Derived.Test.YtclllkbngkohlaaX22
import Derived.Test.YtclllkbngkohlaaX23
import Derived.Test.YtclllkbngkohlaaX24
import Derived.Test.YtclllkbngkohlaaX3
import Derived.Test.YtclllkbngkohlaaX5
import Derived.Test.YtclllkbngkohlaaX6
import Derived.Test.YtclllkbngkohlaaX7
import Derived.Test.YtclllkbngkohlaaX8
import Derived.Test.YtclllkbngkohlaaX9
namespace Go.Proofs.Ytclllkbngkohlaa.X
open Go.RowKit Go.Proofs.YtclllkbngkohlaaW.PrintWords Go.Proofs.YtclllkbngkohlaaW.PrintLast
set_option linter.unusedVariables false

def allF (p : Int → Bool) : Nat → Int → Bool
  | 0, _ => true
  | d + 1, i => p i && allF p d (i + 1)
theorem allF_congr {p q : Int → Bool} : ∀ (d : Nat) (i : Int), (∀ j, i ≤ j → p j = q j) → allF p d i = allF q d i
  | 0, _, _ => rfl
  | d + 1, i, h => by
    simp only [allF]
    rw [h i (Int.le_refl _), allF_congr d (i + 1) (fun j hj => h j (by omega))]

/-- one character of a name: at the first place a letter; then a letter, a digit or '_'. -/
def okA (s : ByteArray) (i : Int) : Bool := (decide (97 ≤ bt s i) && decide (bt s i ≤ 122)) || (!decide (i = 0) && (decide (bt s i = 95) || (decide (48 ≤ bt s i) && decide (bt s i ≤ 57))))
def okR (s : ByteArray) (i : Int) : Bool := (decide (97 ≤ bt s i) && decide (bt s i ≤ 122)) || (decide (bt s i = 95) || (decide (48 ≤ bt s i) && decide (bt s i ≤ 57)))

theorem name_loop (s : ByteArray) (hs : s.size ≤ 9223372036854775807) : ∀ (d : Nat) (i : Int), 0 ≤ i → i + d = (s.size : Int) → Ev (fun k => access_name.l0 k s (s.size : Int) i) (allF (okA s) d i && (decide (1 ≤ s.size) && decide (s.size ≤ 16)))
  | 0, i, h0, h => by
    apply Ev.up
    simp only [access_name.l0]
    refine Ev.neg (by omega) ?_
    refine Ev.ite (fun h1 => Ev.ret ?_) (fun h1 => Ev.ret ?_)
    · have : 1 ≤ s.size := by omega
      simp [allF, this]
      omega
    · have : ¬ 1 ≤ s.size := by omega
      simp [allF, this]
  | d + 1, i, h0, h => by
    have ih := name_loop s hs d (i + 1) (by omega) (by omega)
    have hw : wrap64 (i + 1) = i + 1 := w1 (n := (s.size : Int)) (by omega) (by omega) (by omega)
    apply Ev.up
    simp only [access_name.l0, hw]
    refine Ev.pos (by omega) (Ev.pos h0 (Ev.pos (by omega) ?_))
    by_cases h1 : okA s i = true
    · simp only [allF, h1, Bool.true_and]
      simp only [okA, Bool.or_eq_true, Bool.and_eq_true, decide_eq_true_eq, Bool.not_eq_true', decide_eq_false_iff_not] at h1
      repeat' first
        | exact ih
        | (refine Ev.ite (fun _ => ?_) (fun _ => ?_))
        | (exfalso; omega)
    · have h1' : okA s i = false := by simpa using h1
      simp only [allF, h1', Bool.false_and]
      simp only [okA, Bool.or_eq_true, Bool.and_eq_true, decide_eq_true_eq, Bool.not_eq_true', decide_eq_false_iff_not] at h1
      repeat' first
        | exact Ev.ret rfl
        | (refine Ev.ite (fun _ => ?_) (fun _ => ?_))
        | (exfalso; omega)
theorem Name_loop (s : ByteArray) (hs : s.size ≤ 9223372036854775807) : ∀ (d : Nat) (i : Int), 0 ≤ i → i + d = (s.size : Int) → Ev (fun k => corebankref07_Name.l0 k s i) (allF (okR s) d i)
  | 0, i, h0, h => by
    apply Ev.up
    simp only [corebankref07_Name.l0]
    exact Ev.neg (by omega) (Ev.ret rfl)
  | d + 1, i, h0, h => by
    have ih := Name_loop s hs d (i + 1) (by omega) (by omega)
    have hw : wrap64 (i + 1) = i + 1 := w1 (n := (s.size : Int)) (by omega) (by omega) (by omega)
    apply Ev.up
    simp only [corebankref07_Name.l0, hw]
    refine Ev.pos (by omega) (Ev.pos h0 ?_)
    by_cases h1 : okR s i = true
    · simp only [allF, h1, Bool.true_and]
      simp only [okR, Bool.or_eq_true, Bool.and_eq_true, decide_eq_true_eq] at h1
      repeat' first
        | exact ih
        | (refine Ev.ite (fun _ => ?_) (fun _ => ?_))
        | (exfalso; omega)
    · have h1' : okR s i = false := by simpa using h1
      simp only [allF, h1', Bool.false_and]
      simp only [okR, Bool.or_eq_true, Bool.and_eq_true, decide_eq_true_eq] at h1
      repeat' first
        | exact Ev.ret rfl
        | (refine Ev.ite (fun _ => ?_) (fun _ => ?_))
        | (exfalso; omega)
theorem name_same (s : ByteArray) (hs : s.size ≤ 9223372036854775807) : ∃ b, Ev (fun k => access_name.f k s) b ∧ Ev (fun k => corebankref07_Name.f k s) b := by
  refine ⟨_, name_loop s hs s.size 0 (by omega) (by omega), ?_⟩
  have hj : ∀ {b : Bool}, Ev (fun k => corebankref07_Name.j0 k s true) false := by
    intro b
    apply Ev.up
    simp only [corebankref07_Name.j0, if_true]
    exact Ev.ret rfl
  simp only [corebankref07_Name.f]
  refine Ev.ite (fun h1 => ?_) (fun h1 => Ev.ite (fun h2 => ?_) (fun h2 => Ev.pos (by omega) ?_))
  · have : ¬ 1 ≤ s.size := by omega
    simp only [this, decide_false, Bool.false_and, Bool.and_false]
    exact @hj true
  · have : ¬ s.size ≤ 16 := by omega
    simp only [this, decide_false, Bool.and_false]
    exact @hj true
  · have e1 : 1 ≤ s.size := by omega
    have e2 : s.size ≤ 16 := by omega
    simp only [e1, e2, decide_true, Bool.and_true]
    obtain ⟨d, hd⟩ : ∃ d, s.size = d + 1 := ⟨s.size - 1, by omega⟩
    rw [hd]
    have hc := allF_congr (p := okA s) (q := okR s) d (0 + 1) (fun j hj => by simp [okA, okR, show ¬ j = 0 by omega])
    have hl : ∀ (b : Bool), b = false → Ev (fun k => corebankref07_Name.j0 k s b) (allF (okR s) (d + 1) 0) := by
      intro b hb
      subst hb
      apply Ev.up
      simp only [corebankref07_Name.j0, if_neg (show ¬ (false = true) by decide)]
      exact Name_loop s hs (d + 1) 0 (by omega) (by omega)
    refine Ev.ite (fun h3 => ?_) (fun h3 => ?_)
    · have : okA s 0 = false := by simp [okA]; omega
      simp only [allF, this, Bool.false_and]
      exact @hj true
    · by_cases h4 : bt s 0 > 122
      · have : okA s 0 = false := by simp [okA]; omega
        simp only [allF, this, Bool.false_and, h4, decide_true]
        exact @hj true
      · have h5 : okA s 0 = true := by simp [okA]; omega
        have h6 : okR s 0 = true := by simp [okR]; omega
        have : allF (okA s) (d + 1) 0 = allF (okR s) (d + 1) 0 := by
          simp only [allF, h5, h6, Bool.true_and]; exact hc
        rw [this]
        exact hl _ (by simpa using h4)

theorem rd25 (l : List S25) (i : Int) (h0 : 0 ≤ i) (h1 : i < (l.length : Int)) : rd_T25 l i = l[i.toNat]'(by omega) := by
  unfold rd_T25
  rw [List.getD_eq_getElem?_getD, List.getElem?_eq_getElem (by omega), Option.getD_some]
theorem rd25_mem (l : List S25) (i : Int) (h0 : 0 ≤ i) (h1 : i < (l.length : Int)) : rd_T25 l i ∈ l := by
  rw [rd25 l i h0 h1]; exact List.getElem_mem _

theorem index_eq (l : List S25) (a : ByteArray) (hl : l.length ≤ 9223372036854775807) : access_index.f l a = some (idxP (fun x : S25 => x.f0.toList == a.toList) l) := if_pos hl
theorem index_loop (l : List S25) (a : ByteArray) (hl : l.length ≤ 9223372036854775807) : ∀ (d : Nat) (i : Int), 0 ≤ i → i + d = (l.length : Int) → (∀ j : Nat, (j : Int) < i → (l.getD j z25).f0.toList ≠ a.toList) →
    Ev (fun k => corebankref46_index.l0 k l a i) (idxP (fun x : S25 => x.f0.toList == a.toList) l)
  | 0, i, h0, h, hb => by
    apply Ev.up
    simp only [corebankref46_index.l0]
    exact Ev.neg (by omega) (Ev.ret (idxP_miss _ l z25 i (by omega) (fun j hj => by simpa using hb j hj)).symm)
  | d + 1, i, h0, h, hb => by
    have hw : wrap64 (i + 1) = i + 1 := w1 (n := (l.length : Int)) (by omega) (by omega) (by omega)
    apply Ev.up
    simp only [corebankref46_index.l0, hw]
    refine Ev.pos (by omega) (Ev.pos h0 (Ev.ite (fun h1 => ?_) (fun h1 => ?_)))
    · exact Ev.ret (idxP_hit _ l z25 i h0 (by omega) (fun j hj => by simpa using hb j hj) (by show ((rd_T25 l i).f0.toList == a.toList) = true; exact beq_iff_eq.mpr h1)).symm
    · refine index_loop l a hl d (i + 1) (by omega) (by omega) (fun j hj => ?_)
      by_cases e : (j : Int) = i
      · have : rd_T25 l i = l.getD j z25 := by unfold rd_T25; rw [← e]; rfl
        rw [← this]; exact h1
      · exact hb j (by omega)
theorem ref_index (l : List S25) (a : ByteArray) (hl : l.length ≤ 9223372036854775807) : Ev (fun k => corebankref46_index.f k l a) (idxP (fun x : S25 => x.f0.toList == a.toList) l) :=
  index_loop l a hl l.length 0 (by omega) (by omega) (fun j hj => by omega)
theorem idxP_range {α : Type} (p : α → Bool) (l : List α) : idxP p l = -1 ∨ (0 ≤ idxP p l ∧ idxP p l < (l.length : Int)) := by
  unfold idxP
  split
  · rename_i i h
    right
    rw [List.findIdx?_eq_some_iff_getElem] at h
    obtain ⟨h1, _⟩ := h
    omega
  · left; rfl
theorem idxP_at {α : Type} (p : α → Bool) (l : List α) (z : α) (h : 0 ≤ idxP p l) : p (l.getD (idxP p l).toNat z) = true ∧ ∀ j : Nat, (j : Int) < idxP p l → p (l.getD j z) = false := by
  cases hi : l.findIdx? p with
  | some i =>
    have e : idxP p l = (i : Int) := by simp only [idxP, hi]
    rw [e]
    rw [List.findIdx?_eq_some_iff_getElem] at hi
    obtain ⟨h1, h2, h3⟩ := hi
    refine ⟨?_, fun j hj => ?_⟩
    · rw [getD_at _ _ _ (by omega)]; simpa using h2
    · rw [getD_at _ _ _ (by omega)]; simpa using h3 j (by omega)
  | none =>
    have e : idxP p l = -1 := by simp only [idxP, hi]
    omega

/-- what Find tells: name, rights, limit, found. -/
def findV (l : List S25) (a : ByteArray) : ByteArray × Int × Int × Bool :=
  if idxP (fun x : S25 => x.f0.toList == a.toList) l < 0 then ((⟨#[]⟩ : ByteArray), 0, 0, false)
  else ((rd_T25 l (idxP (fun x : S25 => x.f0.toList == a.toList) l)).f0, (rd_T25 l (idxP (fun x : S25 => x.f0.toList == a.toList) l)).f1, (rd_T25 l (idxP (fun x : S25 => x.f0.toList == a.toList) l)).f2, true)
theorem find_eq (l : List S25) (a : ByteArray) (hl : l.length ≤ 9223372036854775807) : access_Find.f l a = some (findV l a) := by
  rw [access_Find.f, index_eq l a hl]
  simp only [Option.bind_some, findV]
  by_cases h : idxP (fun x : S25 => x.f0.toList == a.toList) l < 0
  · rw [if_pos h, if_pos h]
  · rw [if_neg h, if_neg h, if_pos (by omega)]
    have := idxP_range (fun x : S25 => x.f0.toList == a.toList) l
    rw [if_pos (by omega)]
theorem ref_find (l : List S25) (a : ByteArray) (hl : l.length ≤ 9223372036854775807) : Ev (fun k => corebankref46_Find.f k l a) (findV l a) := by
  simp only [corebankref46_Find.f]
  refine Ev.bnd (ref_index l a hl) ?_
  have hr := idxP_range (fun x : S25 => x.f0.toList == a.toList) l
  refine Ev.ite (fun h => Ev.ret ?_) (fun h => Ev.pos (by omega) (Ev.pos (by omega) (Ev.ret ?_)))
  · rw [findV, if_pos h]
  · rw [findV, if_neg h]
def hasV (l : List S25) (a : ByteArray) (r : Int) : Bool := (findV l a).2.2.2 && (decide (1 ≤ r) && decide (r ≤ 127) && (Go.bits .and .i64 (findV l a).2.1 r == r))
theorem has_eq (l : List S25) (a : ByteArray) (r : Int) (hl : l.length ≤ 9223372036854775807) : access_Has.f l a r = some (hasV l a r) := by
  rw [access_Has.f, find_eq l a hl]
  simp only [Option.bind_some, hasV, access_known.f]
  cases (findV l a).2.2.2
  · simp
  · by_cases h1 : r ≥ 1
    · by_cases h2 : r ≤ 127 <;> simp [h1, h2]
    · simp [h1]
theorem ref_has (l : List S25) (a : ByteArray) (r : Int) (hl : l.length ≤ 9223372036854775807) : Ev (fun k => corebankref46_Has.f k l a r) (hasV l a r) := by
  simp only [corebankref46_Has.f]
  refine Ev.bnd (ref_find l a hl) (Ev.const ?_)
  simp only [hasV, corebankref46_right.f]
  cases (findV l a).2.2.2
  · simp
  · by_cases h1 : r ≥ 1
    · by_cases h2 : r ≤ 127 <;> simp [h1, h2]
    · simp [h1]
def aloneV (l : List S25) (a : ByteArray) (r n : Int) : Bool := hasV l a r && (decide (0 ≤ n) && decide (n ≤ (findV l a).2.2.1))
theorem alone_eq (l : List S25) (a : ByteArray) (r n : Int) (hl : l.length ≤ 9223372036854775807) : access_Alone.f l a r n = some (aloneV l a r n) := by
  rw [access_Alone.f, find_eq l a hl, has_eq l a r hl]
  simp only [Option.bind_some, aloneV]
  cases hasV l a r
  · simp
  · by_cases h1 : n ≥ 0
    · simp [h1]
    · simp [h1]
theorem ref_alone (l : List S25) (a : ByteArray) (r n : Int) (hl : l.length ≤ 9223372036854775807) : Ev (fun k => corebankref46_Alone.f k l a r n) (aloneV l a r n) := by
  simp only [corebankref46_Alone.f]
  refine Ev.bnd (ref_find l a hl) (Ev.bnd (ref_has l a r hl) (Ev.const ?_))
  simp only [aloneV]
  cases hasV l a r
  · simp
  · by_cases h1 : n ≥ 0
    · simp [h1]
    · simp [h1]
theorem live_true : Ev (fun k => corebanklaw46_live.f k) true := Ev.of corebanklaw46_live.mono (k := 30) (by decide +kernel)
theorem great_loop (l : List S25) (hl : l.length ≤ 9223372036854775807) : ∀ (d : Nat) (i : Int), 0 ≤ i → i + d = (l.length : Int) → ∃ b, Ev (fun k => corebankref46_Great.l0 k l i) b
  | 0, i, h0, h => by
    refine ⟨false, Ev.up ?_⟩
    simp only [corebankref46_Great.l0]
    exact Ev.neg (by omega) (Ev.ret rfl)
  | d + 1, i, h0, h => by
    have hw : wrap64 (i + 1) = i + 1 := w1 (n := (l.length : Int)) (by omega) (by omega) (by omega)
    obtain ⟨b, ih⟩ := great_loop l hl d (i + 1) (by omega) (by omega)
    by_cases h1 : ((rd_T25 l i).f0.size : Int) > 200
    · refine ⟨true, Ev.up ?_⟩
      simp only [corebankref46_Great.l0]
      exact Ev.pos (by omega) (Ev.pos h0 (Ev.pos h1 (Ev.ret rfl)))
    · refine ⟨b, Ev.up ?_⟩
      simp only [corebankref46_Great.l0, hw]
      exact Ev.pos (by omega) (Ev.pos h0 (Ev.neg h1 ih))
theorem great_ev (l : List S25) (hl : l.length ≤ 9223372036854775807) : ∃ b, Ev (fun k => corebankref46_Great.f k l) b ∧ (b = false → l.length ≤ 40) := by
  simp only [corebankref46_Great.f]
  by_cases h : (l.length : Int) > 40
  · exact ⟨true, Ev.pos h (Ev.ret rfl), fun h => by cases h⟩
  · obtain ⟨b, hb⟩ := great_loop l hl l.length 0 (by omega) (by omega)
    exact ⟨b, Ev.neg h hb, fun _ => by omega⟩
theorem check_loop (l : List S25) (g : GL25 l) : ∀ (d : Nat) (i : Int), 0 ≤ i → i + d = (l.length : Int) → ∃ r, Ev (fun k => access_Check.l0 k l l (l.length : Int) i) r ∧ Ev (fun k => corebankref46_Check.l0 k l i) r
  | 0, i, h0, h => by
    refine ⟨0, Ev.up ?_, Ev.up ?_⟩
    · simp only [access_Check.l0]
      exact Ev.neg (by omega) (Ev.ret rfl)
    · simp only [corebankref46_Check.l0]
      exact Ev.neg (by omega) (Ev.ret rfl)
  | d + 1, i, h0, h => by
    have hl := g.1
    have hw : wrap64 (i + 1) = i + 1 := w1 (n := (l.length : Int)) (by omega) (by omega) (by omega)
    have hwm : wrap64 (i - 1) = i - 1 := wm1 (by omega) (by omega)
    obtain ⟨r, ih1, ih2⟩ := check_loop l g d (i + 1) (by omega) (by omega)
    obtain ⟨b, hn1, hn2⟩ := name_same (rd_T25 l i).f0 (g.2 _ (rd25_mem l i h0 (by omega))).1
    cases b with
    | false =>
      refine ⟨4, Ev.up ?_, Ev.up ?_⟩
      · simp only [access_Check.l0]
        exact Ev.pos (by omega) (Ev.pos h0 (Ev.pos (by omega) (Ev.bnd hn1 (Ev.ret rfl))))
      · simp only [corebankref46_Check.l0]
        exact Ev.pos (by omega) (Ev.pos h0 (Ev.bnd hn2 (Ev.ret rfl)))
    | true =>
      -- what follows the test of the numbers
      have hj : ∀ b : Bool, ∃ r, Ev (fun k => access_Check.j2 k l i l (l.length : Int) i b (rd_T25 l i).f0 (rd_T25 l i).f1 (rd_T25 l i).f2) r ∧ Ev (fun k => corebankref46_Check.j2 k l i b (rd_T25 l i).f0 (rd_T25 l i).f1 (rd_T25 l i).f2) r := by
        intro b
        cases b with
        | true =>
          refine ⟨1, Ev.up ?_, Ev.up ?_⟩
          · simp only [access_Check.j2, if_true]
            exact Ev.ret rfl
          · simp only [corebankref46_Check.j2, if_true]
            exact Ev.ret rfl
        | false =>
          by_cases hi : i > 0
          · by_cases hq : Op.bytesLess (rd_T25 l (i - 1)).f0.toList (rd_T25 l i).f0.toList = true
            · refine ⟨r, Ev.up ?_, Ev.up ?_⟩
              · simp only [access_Check.j2, hw, hwm]
                exact Ev.neg (by decide) (Ev.pos hi (Ev.pos (by omega) (Ev.pos (by omega) (Ev.pos hq ih1))))
              · simp only [corebankref46_Check.j2, hw, hwm]
                exact Ev.neg (by decide) (Ev.pos hi (Ev.pos (by omega) (Ev.pos (by omega) (Ev.pos hq ih2))))
            · refine ⟨10, Ev.up ?_, Ev.up ?_⟩
              · simp only [access_Check.j2, hw, hwm]
                exact Ev.neg (by decide) (Ev.pos hi (Ev.pos (by omega) (Ev.pos (by omega) (Ev.neg hq (Ev.ret rfl)))))
              · simp only [corebankref46_Check.j2, hw, hwm]
                exact Ev.neg (by decide) (Ev.pos hi (Ev.pos (by omega) (Ev.pos (by omega) (Ev.neg hq (Ev.ret rfl)))))
          · refine ⟨r, Ev.up ?_, Ev.up ?_⟩
            · simp only [access_Check.j2, hw]
              exact Ev.neg (by decide) (Ev.neg hi ih1)
            · simp only [corebankref46_Check.j2, hw]
              exact Ev.neg (by decide) (Ev.neg hi ih2)
      obtain ⟨r1, ha1, hb1⟩ := hj true
      by_cases c1 : (rd_T25 l i).f1 < 0
      · refine ⟨r1, Ev.up ?_, Ev.up ?_⟩
        · simp only [access_Check.l0]
          exact Ev.pos (by omega) (Ev.pos h0 (Ev.pos (by omega) (Ev.bnd hn1 (Ev.pos rfl (Ev.pos c1 ha1)))))
        · simp only [corebankref46_Check.l0]
          exact Ev.pos (by omega) (Ev.pos h0 (Ev.bnd hn2 (Ev.pos rfl (Ev.pos c1 hb1))))
      by_cases c2 : (rd_T25 l i).f1 > 127
      · refine ⟨r1, Ev.up ?_, Ev.up ?_⟩
        · simp only [access_Check.l0]
          exact Ev.pos (by omega) (Ev.pos h0 (Ev.pos (by omega) (Ev.bnd hn1 (Ev.pos rfl (Ev.neg c1 (Ev.pos c2 ha1))))))
        · simp only [corebankref46_Check.l0]
          exact Ev.pos (by omega) (Ev.pos h0 (Ev.bnd hn2 (Ev.pos rfl (Ev.neg c1 (Ev.pos c2 hb1)))))
      by_cases c3 : (rd_T25 l i).f2 < 0
      · refine ⟨r1, Ev.up ?_, Ev.up ?_⟩
        · simp only [access_Check.l0]
          exact Ev.pos (by omega) (Ev.pos h0 (Ev.pos (by omega) (Ev.bnd hn1 (Ev.pos rfl (Ev.neg c1 (Ev.neg c2 (Ev.pos c3 ha1)))))))
        · simp only [corebankref46_Check.l0]
          exact Ev.pos (by omega) (Ev.pos h0 (Ev.bnd hn2 (Ev.pos rfl (Ev.neg c1 (Ev.neg c2 (Ev.pos c3 hb1))))))
      obtain ⟨r2, ha2, hb2⟩ := hj (decide ((rd_T25 l i).f2 > 1000000000000))
      refine ⟨r2, Ev.up ?_, Ev.up ?_⟩
      · simp only [access_Check.l0]
        exact Ev.pos (by omega) (Ev.pos h0 (Ev.pos (by omega) (Ev.bnd hn1 (Ev.pos rfl (Ev.neg c1 (Ev.neg c2 (Ev.neg c3 ha2)))))))
      · simp only [corebankref46_Check.l0]
        exact Ev.pos (by omega) (Ev.pos h0 (Ev.bnd hn2 (Ev.pos rfl (Ev.neg c1 (Ev.neg c2 (Ev.neg c3 hb2))))))
theorem check_same (l : List S25) (g : GL25 l) : ∃ r, Ev (fun k => access_Check.f k l) r ∧ Ev (fun k => corebankref46_Check.f k l) r := by
  have hj : ∀ b : Bool, ∃ r, Ev (fun k => access_Check.j0 k l b) r ∧ Ev (fun k => corebankref46_Check.j0 k l b) r := by
    intro b
    cases b with
    | true =>
      refine ⟨5, Ev.up ?_, Ev.up ?_⟩
      · simp only [access_Check.j0, if_true]; exact Ev.ret rfl
      · simp only [corebankref46_Check.j0, if_true]; exact Ev.ret rfl
    | false =>
      obtain ⟨r, h1, h2⟩ := check_loop l g l.length 0 (by omega) (by omega)
      refine ⟨r, Ev.up ?_, Ev.up ?_⟩
      · simp only [access_Check.j0]; exact Ev.neg (by decide) h1
      · simp only [corebankref46_Check.j0]; exact Ev.neg (by decide) h2
  simp only [access_Check.f, corebankref46_Check.f]
  by_cases h : (l.length : Int) < 1
  · obtain ⟨r, h1, h2⟩ := hj true
    exact ⟨r, Ev.pos h h1, Ev.pos h h2⟩
  · obtain ⟨r, h1, h2⟩ := hj (decide ((l.length : Int) > 16))
    exact ⟨r, Ev.neg h h1, Ev.neg h h2⟩
end Go.Proofs.Ytclllkbngkohlaa.X

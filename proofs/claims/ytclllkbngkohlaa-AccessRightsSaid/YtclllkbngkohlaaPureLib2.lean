import Derived.Test.YtclllkbngkohlaaEv
import Derived.Test.YtclllkbngkohlaaGood
import Derived.Test.YtclllkbngkohlaaPureLib
import Derived.Test.YtclllkbngkohlaaX0
import Derived.Test.YtclllkbngkohlaaX1
import Derived.Test.YtclllkbngkohlaaX10
import Derived.Test.YtclllkbngkohlaaX13
import Derived.Test.YtclllkbngkohlaaX16
import Derived.Test.YtclllkbngkohlaaX18
import Derived.Test.YtclllkbngkohlaaX19
import Derived.Test.YtclllkbngkohlaaX22
import Derived.Test.YtclllkbngkohlaaX26
import Derived.Test.YtclllkbngkohlaaX27
import Derived.Test.YtclllkbngkohlaaX28
import Derived.Test.YtclllkbngkohlaaX29
import Derived.Test.YtclllkbngkohlaaX5
import Derived.Test.YtclllkbngkohlaaX7
import Derived.Test.YtclllkbngkohlaaX9
namespace Go.Proofs.Ytclllkbngkohlaa.X
open Go.RowKit Go.Proofs.YtclllkbngkohlaaW.PrintWords Go.Proofs.YtclllkbngkohlaaW.PrintLast
set_option linter.unusedVariables false

/-! Check, as what it demands. -/
def elemOK (l : List S25) (j : Int) : Prop :=
  Ev (fun k => access_name.f k (rd_T25 l j).f0) true ∧ 0 ≤ (rd_T25 l j).f1 ∧ (rd_T25 l j).f1 ≤ 127 ∧ 0 ≤ (rd_T25 l j).f2 ∧ (rd_T25 l j).f2 ≤ 1000000000000 ∧ (0 < j → Op.bytesLess (rd_T25 l (j - 1)).f0.toList (rd_T25 l j).f0.toList = true)
def restOK (l : List S25) (i : Int) : Prop := ∀ j, i ≤ j → j < (l.length : Int) → elemOK l j
theorem restOK_cons (l : List S25) (i : Int) (h : i < (l.length : Int)) : restOK l i ↔ elemOK l i ∧ restOK l (i + 1) := by
  constructor
  · intro hr
    exact ⟨hr i (Int.le_refl _) h, fun j hj hl => hr j (by omega) hl⟩
  · rintro ⟨h1, h2⟩ j hj hl
    by_cases e : j = i
    · rw [e]; exact h1
    · exact h2 j (by omega) hl
theorem chk_j2 (l : List S25) (i : Int) (b : Bool) (r : Int) (hl : l.length ≤ 9223372036854775807) (h0 : 0 ≤ i) (hi : i < (l.length : Int)) (ih : Ev (fun k => access_Check.l0 k l l (l.length : Int) (i + 1)) r) :
    ∃ q, Ev (fun k => access_Check.j2 k l i l (l.length : Int) i b (rd_T25 l i).f0 (rd_T25 l i).f1 (rd_T25 l i).f2) q ∧ (q = 0 ↔ b = false ∧ (0 < i → Op.bytesLess (rd_T25 l (i - 1)).f0.toList (rd_T25 l i).f0.toList = true) ∧ r = 0) := by
  have hw : wrap64 (i + 1) = i + 1 := w1 (n := (l.length : Int)) (by omega) (by omega) (by omega)
  have hwm : wrap64 (i - 1) = i - 1 := wm1 (by omega) (by omega)
  cases b with
  | true =>
    refine ⟨1, Ev.up ?_, by simp⟩
    simp only [access_Check.j2, if_true]
    exact Ev.ret rfl
  | false =>
    by_cases h : i > 0
    · by_cases hq : Op.bytesLess (rd_T25 l (i - 1)).f0.toList (rd_T25 l i).f0.toList = true
      · refine ⟨r, Ev.up ?_, by simp [hq]⟩
        simp only [access_Check.j2, hw, hwm]
        exact Ev.neg (by decide) (Ev.pos h (Ev.pos (by omega) (Ev.pos (by omega) (Ev.pos hq ih))))
      · refine ⟨10, Ev.up ?_, by simp [hq]; omega⟩
        simp only [access_Check.j2, hw, hwm]
        exact Ev.neg (by decide) (Ev.pos h (Ev.pos (by omega) (Ev.pos (by omega) (Ev.neg hq (Ev.ret rfl)))))
    · refine ⟨r, Ev.up ?_, by simp; intro _ h2; omega⟩
      simp only [access_Check.j2, hw]
      exact Ev.neg (by decide) (Ev.neg h ih)
theorem chk_loop (l : List S25) (g : GL25 l) : ∀ (d : Nat) (i : Int), 0 ≤ i → i + d = (l.length : Int) → ∃ r, Ev (fun k => access_Check.l0 k l l (l.length : Int) i) r ∧ (r = 0 ↔ restOK l i)
  | 0, i, h0, h => by
    refine ⟨0, Ev.up ?_, ⟨fun _ j hj hl => by omega, fun _ => rfl⟩⟩
    simp only [access_Check.l0]
    exact Ev.neg (by omega) (Ev.ret rfl)
  | d + 1, i, h0, h => by
    have hl := g.1
    have hi : i < (l.length : Int) := by omega
    obtain ⟨r, ih, hr⟩ := chk_loop l g d (i + 1) (by omega) (by omega)
    rw [restOK_cons l i hi]
    obtain ⟨b, hn, _⟩ := name_same (rd_T25 l i).f0 (g.2 _ (rd25_mem l i h0 (by omega))).1
    cases b with
    | false =>
      refine ⟨4, Ev.up ?_, by
        constructor
        · intro e; omega
        · rintro ⟨⟨e, _⟩, _⟩
          have := Ev.uniq hn e
          cases this⟩
      simp only [access_Check.l0]
      exact Ev.pos (by omega) (Ev.pos h0 (Ev.pos (by omega) (Ev.bnd hn (Ev.ret rfl))))
    | true =>
      obtain ⟨r1, ha1, hr1⟩ := chk_j2 l i true r hl h0 hi ih
      obtain ⟨r2, ha2, hr2⟩ := chk_j2 l i (decide ((rd_T25 l i).f2 > 1000000000000)) r hl h0 hi ih
      by_cases c1 : (rd_T25 l i).f1 < 0
      · refine ⟨r1, Ev.up ?_, ?_⟩
        · simp only [access_Check.l0]
          exact Ev.pos (by omega) (Ev.pos h0 (Ev.pos (by omega) (Ev.bnd hn (Ev.pos rfl (Ev.pos c1 ha1)))))
        · rw [hr1]
          simp only [elemOK]
          constructor
          · rintro ⟨e, _⟩; cases e
          · rintro ⟨⟨_, e, _⟩, _⟩; omega
      by_cases c2 : (rd_T25 l i).f1 > 127
      · refine ⟨r1, Ev.up ?_, ?_⟩
        · simp only [access_Check.l0]
          exact Ev.pos (by omega) (Ev.pos h0 (Ev.pos (by omega) (Ev.bnd hn (Ev.pos rfl (Ev.neg c1 (Ev.pos c2 ha1))))))
        · rw [hr1]
          simp only [elemOK]
          constructor
          · rintro ⟨e, _⟩; cases e
          · rintro ⟨⟨_, _, e, _⟩, _⟩; omega
      by_cases c3 : (rd_T25 l i).f2 < 0
      · refine ⟨r1, Ev.up ?_, ?_⟩
        · simp only [access_Check.l0]
          exact Ev.pos (by omega) (Ev.pos h0 (Ev.pos (by omega) (Ev.bnd hn (Ev.pos rfl (Ev.neg c1 (Ev.neg c2 (Ev.pos c3 ha1)))))))
        · rw [hr1]
          simp only [elemOK]
          constructor
          · rintro ⟨e, _⟩; cases e
          · rintro ⟨⟨_, _, _, e, _⟩, _⟩; omega
      refine ⟨r2, Ev.up ?_, ?_⟩
      · simp only [access_Check.l0]
        exact Ev.pos (by omega) (Ev.pos h0 (Ev.pos (by omega) (Ev.bnd hn (Ev.pos rfl (Ev.neg c1 (Ev.neg c2 (Ev.neg c3 ha2)))))))
      · rw [hr2]
        simp only [elemOK, decide_eq_false_iff_not]
        constructor
        · rintro ⟨e1, e2, e3⟩
          exact ⟨⟨hn, by omega, by omega, by omega, by omega, e2⟩, hr.1 e3⟩
        · rintro ⟨⟨_, _, _, _, e1, e2⟩, e3⟩
          exact ⟨by omega, e2, hr.2 e3⟩
def CheckOK (l : List S25) : Prop := 1 ≤ l.length ∧ l.length ≤ 16 ∧ restOK l 0
theorem chk_ev (l : List S25) (g : GL25 l) : ∃ r, Ev (fun k => access_Check.f k l) r ∧ (r = 0 ↔ CheckOK l) := by
  have hj : ∀ b : Bool, ∃ r, Ev (fun k => access_Check.j0 k l b) r ∧ (r = 0 ↔ b = false ∧ restOK l 0) := by
    intro b
    cases b with
    | true =>
      refine ⟨5, Ev.up ?_, by simp⟩
      simp only [access_Check.j0, if_true]; exact Ev.ret rfl
    | false =>
      obtain ⟨r, h1, h2⟩ := chk_loop l g l.length 0 (by omega) (by omega)
      refine ⟨r, Ev.up ?_, by simpa using h2⟩
      simp only [access_Check.j0]; exact Ev.neg (by decide) h1
  simp only [access_Check.f]
  by_cases h : (l.length : Int) < 1
  · obtain ⟨r, h1, h2⟩ := hj true
    refine ⟨r, Ev.pos h h1, ?_⟩
    rw [h2]
    constructor
    · rintro ⟨e, _⟩; cases e
    · rintro ⟨e, _⟩; omega
  · obtain ⟨r, h1, h2⟩ := hj (decide ((l.length : Int) > 16))
    refine ⟨r, Ev.neg h h1, ?_⟩
    rw [h2, decide_eq_false_iff_not]
    constructor
    · rintro ⟨e, e2⟩; exact ⟨by omega, by omega, e2⟩
    · rintro ⟨_, e, e2⟩; exact ⟨by omega, e2⟩

/-! Grant and Withdraw: what both tell. -/
def put1 (l : List S25) (i : Int) (v : Int) : List S25 := l.set i.toNat ⟨(rd_T25 l i).f0, v, (rd_T25 l i).f2⟩
def idx (l : List S25) (a : ByteArray) : Int := idxP (fun x : S25 => x.f0.toList == a.toList) l
theorem index_eq' (l : List S25) (a : ByteArray) (hl : l.length ≤ 9223372036854775807) : access_index.f l a = some (idx l a) := index_eq l a hl
theorem ref_index' (l : List S25) (a : ByteArray) (hl : l.length ≤ 9223372036854775807) : Ev (fun k => corebankref46_index.f k l a) (idx l a) := ref_index l a hl
theorem idx_range (l : List S25) (a : ByteArray) : idx l a = -1 ∨ (0 ≤ idx l a ∧ idx l a < (l.length : Int)) := idxP_range _ l
def chgV (op : Int → Int → Int) (l : List S25) (a : ByteArray) (r : Int) : List S25 × Int :=
  if idx l a < 0 then ([], 11) else if 1 ≤ r ∧ r ≤ 127 then (put1 l (idx l a) (op (rd_T25 l (idx l a)).f1 r), 0) else ([], 1)
theorem known_eq (r : Int) : access_known.f r = some (decide (1 ≤ r ∧ r ≤ 127)) := by
  unfold access_known.f
  by_cases h : r ≥ 1
  · rw [if_pos h]; congr 1; exact decide_eq_decide.2 ⟨fun h2 => ⟨h, h2⟩, fun h2 => h2.2⟩
  · rw [if_neg h]; congr 1; symm; exact decide_eq_false (by omega)
theorem right_eq (r : Int) : corebankref46_right.f r = some (decide (1 ≤ r ∧ r ≤ 127)) := by
  unfold corebankref46_right.f
  by_cases h : r ≥ 1
  · rw [if_pos h]; congr 1; exact decide_eq_decide.2 ⟨fun h2 => ⟨h, h2⟩, fun h2 => h2.2⟩
  · rw [if_neg h]; congr 1; symm; exact decide_eq_false (by omega)
theorem clone_eq (l : List S25) (h : l.length ≤ 40) : api_User_34.f l = some l := by
  unfold api_User_34.f
  simp only [Option.bind_some, List.nil_append]
  exact if_pos (by simp; omega)
theorem grant_eq (l : List S25) (a : ByteArray) (r : Int) (h : l.length ≤ 40) : access_Grant.f l a r = some (chgV (Go.bits .or .i64) l a r) := by
  unfold access_Grant.f access_change_or.f
  rw [index_eq' l a (by omega)]
  simp only [Option.bind_some]
  unfold chgV
  have hr := idx_range l a
  by_cases h1 : idx l a < 0
  · rw [if_pos h1, if_pos h1]
  · rw [if_neg h1, if_neg h1, known_eq]
    simp only [Option.bind_some]
    by_cases h2 : 1 ≤ r ∧ r ≤ 127
    · rw [if_pos (by simpa using h2), if_pos h2, clone_eq l h]
      simp only [Option.bind_some]
      rw [if_pos (by omega), if_pos (by omega)]
      rfl
    · rw [if_neg (by simpa using h2), if_neg h2]
theorem withdraw_eq (l : List S25) (a : ByteArray) (r : Int) (h : l.length ≤ 40) : access_Withdraw.f l a r = some (chgV (Go.bits .andNot .i64) l a r) := by
  unfold access_Withdraw.f access_change_an.f
  rw [index_eq' l a (by omega)]
  simp only [Option.bind_some]
  unfold chgV
  have hr := idx_range l a
  by_cases h1 : idx l a < 0
  · rw [if_pos h1, if_pos h1]
  · rw [if_neg h1, if_neg h1, known_eq]
    simp only [Option.bind_some]
    by_cases h2 : 1 ≤ r ∧ r ≤ 127
    · rw [if_pos (by simpa using h2), if_pos h2, clone_eq l h]
      simp only [Option.bind_some]
      rw [if_pos (by omega), if_pos (by omega)]
      rfl
    · rw [if_neg (by simpa using h2), if_neg h2]
theorem changed_eq (l : List S25) (i v : Int) (h : l.length ≤ 40) (h0 : 0 ≤ i) (h1 : i < (l.length : Int)) : corebankref46_changed.f l i v = some (put1 l i v) := by
  unfold corebankref46_changed.f
  rw [if_pos (by simp; omega)]
  simp only [Option.bind_some, List.nil_append]
  rw [if_pos h0, if_pos h1]
  rfl
theorem ref_grant (l : List S25) (a : ByteArray) (r : Int) (h : l.length ≤ 40) : Ev (fun k => corebankref46_Grant.f k l a r) (chgV (Go.bits .or .i64) l a r) := by
  simp only [corebankref46_Grant.f]
  refine Ev.bnd (ref_index' l a (by omega)) (Ev.const ?_)
  unfold chgV
  have hr := idx_range l a
  by_cases h1 : idx l a < 0
  · rw [if_pos h1, if_pos h1]
  · rw [if_neg h1, if_neg h1, right_eq]
    simp only [Option.bind_some]
    have e1 : 0 ≤ idx l a := by omega
    have e2 : idx l a < (l.length : Int) := by omega
    by_cases h2 : 1 ≤ r ∧ r ≤ 127
    · rw [if_pos (by simpa using h2), if_pos h2, if_pos e1, if_pos e2, changed_eq l _ _ h e1 e2]
      rfl
    · rw [if_neg (by simpa using h2), if_neg h2]
theorem ref_withdraw (l : List S25) (a : ByteArray) (r : Int) (h : l.length ≤ 40) : Ev (fun k => corebankref46_Withdraw.f k l a r) (chgV (Go.bits .andNot .i64) l a r) := by
  simp only [corebankref46_Withdraw.f]
  refine Ev.bnd (ref_index' l a (by omega)) (Ev.const ?_)
  unfold chgV
  have hr := idx_range l a
  by_cases h1 : idx l a < 0
  · rw [if_pos h1, if_pos h1]
  · rw [if_neg h1, if_neg h1, right_eq]
    simp only [Option.bind_some]
    have e1 : 0 ≤ idx l a := by omega
    have e2 : idx l a < (l.length : Int) := by omega
    by_cases h2 : 1 ≤ r ∧ r ≤ 127
    · rw [if_pos (by simpa using h2), if_pos h2, if_pos e1, if_pos e2, changed_eq l _ _ h e1 e2]
      rfl
    · rw [if_neg (by simpa using h2), if_neg h2]
theorem same_loop (l : List S25) (hl : l.length ≤ 9223372036854775807) : ∀ (d : Nat) (i : Int), 0 ≤ i → i + d = (l.length : Int) → Ev (fun k => corebankref46_SameAll.l0 k l l i) true
  | 0, i, h0, h => by
    apply Ev.up
    simp only [corebankref46_SameAll.l0]
    exact Ev.neg (by omega) (Ev.ret rfl)
  | d + 1, i, h0, h => by
    have hw : wrap64 (i + 1) = i + 1 := w1 (n := (l.length : Int)) (by omega) (by omega) (by omega)
    apply Ev.up
    simp only [corebankref46_SameAll.l0, hw]
    exact Ev.pos (by omega) (Ev.pos h0 (Ev.pos (by omega) (Ev.neg (by simp) (same_loop l hl d (i + 1) (by omega) (by omega)))))
theorem same_self (l : List S25) (hl : l.length ≤ 9223372036854775807) : Ev (fun k => corebankref46_SameAll.f k l l) true := by
  simp only [corebankref46_SameAll.f]
  exact Ev.pos (by simp) (same_loop l hl l.length 0 (by omega) (by omega))

/-! The numbers of rights. -/
theorem or_range : ∀ a b : Fin 128, 0 ≤ Go.bits .or .i64 (a.val : Int) (b.val : Int) ∧ Go.bits .or .i64 (a.val : Int) (b.val : Int) ≤ 127 := by decide +kernel
theorem an_range : ∀ a b : Fin 128, 0 ≤ Go.bits .andNot .i64 (a.val : Int) (b.val : Int) ∧ Go.bits .andNot .i64 (a.val : Int) (b.val : Int) ≤ 127 := by decide +kernel
theorem or_rng {a b : Int} (h1 : 0 ≤ a) (h2 : a ≤ 127) (h3 : 0 ≤ b) (h4 : b ≤ 127) : 0 ≤ Go.bits .or .i64 a b ∧ Go.bits .or .i64 a b ≤ 127 := by
  have := or_range ⟨a.toNat, by omega⟩ ⟨b.toNat, by omega⟩
  simpa [Int.toNat_of_nonneg h1, Int.toNat_of_nonneg h3] using this
theorem an_rng {a b : Int} (h1 : 0 ≤ a) (h2 : a ≤ 127) (h3 : 0 ≤ b) (h4 : b ≤ 127) : 0 ≤ Go.bits .andNot .i64 a b ∧ Go.bits .andNot .i64 a b ≤ 127 := by
  have := an_range ⟨a.toNat, by omega⟩ ⟨b.toNat, by omega⟩
  simpa [Int.toNat_of_nonneg h1, Int.toNat_of_nonneg h3] using this
theorem put1_len (l : List S25) (i v : Int) : (put1 l i v).length = l.length := List.length_set
theorem put1_rd (l : List S25) (i v j : Int) (h0 : 0 ≤ i) (h1 : i < (l.length : Int)) (hj : 0 ≤ j) : rd_T25 (put1 l i v) j = if j = i then ⟨(rd_T25 l i).f0, v, (rd_T25 l i).f2⟩ else rd_T25 l j := by
  unfold put1 
  unfold rd_T25
  by_cases e : j = i
  · subst e
    rw [if_pos rfl, List.getD_eq_getElem?_getD, List.getElem?_set_self (by omega)]
    rfl
  · rw [if_neg e, List.getD_eq_getElem?_getD, List.getElem?_set_ne (by omega), ← List.getD_eq_getElem?_getD]
theorem put1_rd0 (l : List S25) (i v j : Int) (h0 : 0 ≤ i) (h1 : i < (l.length : Int)) (hj : 0 ≤ j) : (rd_T25 (put1 l i v) j).f0 = (rd_T25 l j).f0 := by
  rw [put1_rd l i v j h0 h1 hj]
  by_cases e : j = i
  · subst e; rw [if_pos rfl]
  · rw [if_neg e]
theorem put1_rd2 (l : List S25) (i v j : Int) (h0 : 0 ≤ i) (h1 : i < (l.length : Int)) (hj : 0 ≤ j) : (rd_T25 (put1 l i v) j).f2 = (rd_T25 l j).f2 := by
  rw [put1_rd l i v j h0 h1 hj]
  by_cases e : j = i
  · subst e; rw [if_pos rfl]
  · rw [if_neg e]
theorem put1_ok (l : List S25) (i v : Int) (h0 : 0 ≤ i) (h1 : i < (l.length : Int)) (hv : 0 ≤ v ∧ v ≤ 127) (h : CheckOK l) : CheckOK (put1 l i v) := by
  obtain ⟨a, b, c⟩ := h
  refine ⟨by rw [put1_len]; exact a, by rw [put1_len]; exact b, fun j hj hl => ?_⟩
  rw [put1_len] at hl
  obtain ⟨d1, d2, d3, d4, d5, d6⟩ := c j hj hl
  refine ⟨by rw [put1_rd0 l i v j h0 h1 hj]; exact d1, ?_, ?_, by rw [put1_rd2 l i v j h0 h1 hj]; exact d4, by rw [put1_rd2 l i v j h0 h1 hj]; exact d5, fun hp => ?_⟩
  · rw [put1_rd l i v j h0 h1 hj]; split
    · exact hv.1
    · exact d2
  · rw [put1_rd l i v j h0 h1 hj]; split
    · exact hv.2
    · exact d3
  · rw [put1_rd0 l i v j h0 h1 hj, put1_rd0 l i v (j - 1) h0 h1 (by omega)]; exact d6 hp
theorem put1_good (l : List S25) (i v : Int) (h0 : 0 ≤ i) (h1 : i < (l.length : Int)) (hv : -9223372036854775808 ≤ v ∧ v ≤ 9223372036854775807) (g : GL25 l) : GL25 (put1 l i v) := by
  refine ⟨by rw [put1_len]; exact g.1, fun x hx => ?_⟩
  unfold put1 at hx
  rcases List.mem_or_eq_of_mem_set hx with hx | rfl
  · exact g.2 x hx
  · have := g.2 _ (rd25_mem l i h0 h1)
    exact ⟨this.1, wf64.2 hv, this.2.2⟩
end Go.Proofs.Ytclllkbngkohlaa.X

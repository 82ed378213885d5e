/- MandateGuards: for every accepted list of mandates and every valid day: a debit is permitted exactly if there is a mandate that was signed, is not revoked, was used or signed at most 1096 days before, and whose limit is not exceeded. No condition. -/
import Derived.Test.YtfgcachcbhkkoaaPureLib
import Derived.Test.YtfgcachcbhkkoaaPureLib2
import Derived.Test.YtfgcachcbhkkoaaStmtMandateGuards
import Derived.Test.YtfgcachcbhkkoaaX0
import Derived.Test.YtfgcachcbhkkoaaX25
namespace Go.Proofs.Ytfgcachcbhkkoaa.Pure
open Go.RowKit Go.Proofs.Ytfgcachcbhkkoaa.X Go.Proofs.YtfgcachcbhkkoaaW.PrintWords Go.Proofs.YtfgcachcbhkkoaaW.PrintLast
set_option linter.unusedSimpArgs false

def okB (x : S28) (id amt day : Int) : Bool :=
  decide (x.f0 = id) && (decide (x.f3 ≤ day) && ((decide (x.f5 = 0) || decide (day < x.f5)) && (((decide (day ≤ x.f3 + 1096) && decide (x.f4 = 0)) || (decide (x.f4 > 0) && decide (day ≤ x.f4 + 1096))) && (decide (x.f2 = 0) || decide (amt ≤ x.f2)))))
def freshB (x : S28) (day : Int) : Bool := (decide (day ≤ x.f3 + 1096) && decide (x.f4 = 0)) || (decide (x.f4 > 0) && decide (day ≤ x.f4 + 1096))
theorem u64_id {a : Int} (h0 : 0 ≤ a) (h1 : a ≤ 9223372036854775807) : IntKind.u64.wrap a = a := by
  simp [IntKind.wrap, IntKind.bits, IntKind.signed]; omega
theorem good_days (x : S28) (h : goodB x = true) : 0 ≤ x.f3 ∧ x.f3 ≤ 73048 ∧ (x.f4 = 0 ∨ (x.f3 ≤ x.f4 ∧ x.f4 ≤ 73048)) := by
  simp only [goodB, laterB, dayB, Bool.and_eq_true, Bool.or_eq_true, decide_eq_true_eq] at h
  omega
theorem exp_eq (x : S28) (day : Int) (h : goodB x = true) (h0 : 0 ≤ day) (h1 : day ≤ 73048) : expB x day = decide (day > lastD x + 1096) := by
  have hd := good_days x h
  have hl : 0 ≤ lastD x ∧ lastD x ≤ 73048 := by unfold lastD; split <;> omega
  unfold expB
  rw [u64_id h0 (by omega), u64_id hl.1 (by omega)]
  by_cases c : day > lastD x
  · rw [u64_id (by omega) (by omega)]
    rw [Bool.eq_iff_iff]
    simp; omega
  · have : ¬ day > lastD x + 1096 := by omega
    simp [c, this]
theorem okB_iff (x : S28) (id amt day : Int) (h : goodB x = true) (h0 : 0 ≤ day) (h1 : day ≤ 73048) : okB x id amt day = true ↔ x.f0 = id ∧ allowM x amt day = 0 := by
  have hd := good_days x h
  have he := exp_eq x day h h0 h1
  unfold allowM
  rw [he]
  by_cases hs : stateB x day = true
  · rw [if_pos hs]
    simp only [stateB, Bool.or_eq_true, Bool.and_eq_true, Bool.not_eq_true', decide_eq_false_iff_not, decide_eq_true_eq] at hs
    simp only [okB, Bool.and_eq_true, Bool.or_eq_true, decide_eq_true_eq]
    omega
  · rw [if_neg hs]
    simp only [stateB, Bool.or_eq_true, Bool.and_eq_true, Bool.not_eq_true', decide_eq_false_iff_not, decide_eq_true_eq] at hs
    by_cases hx : decide (day > lastD x + 1096) = true
    · rw [if_pos hx]
      simp only [decide_eq_true_eq] at hx
      simp only [okB, Bool.and_eq_true, Bool.or_eq_true, decide_eq_true_eq]
      unfold lastD at hx
      split at hx <;> omega
    · rw [if_neg hx]
      simp only [decide_eq_true_eq] at hx
      simp only [okB, Bool.and_eq_true, Bool.or_eq_true, decide_eq_true_eq]
      unfold lastD at hx
      by_cases c1 : x.f2 = 0
      · rw [if_pos c1]
        split at hx <;> omega
      · rw [if_neg c1]
        by_cases c2 : amt > x.f2
        · rw [if_pos c2]; omega
        · rw [if_neg c2]
          split at hx <;> omega
theorem ids_lt (l : List S28) (h : CheckOK l) (i : Int) (hi : 0 ≤ i) : ∀ (d : Nat), i + 1 + d < (l.length : Int) → (rd_T28 l i).f0 < (rd_T28 l (i + 1 + d)).f0
  | 0, hd => by
    have := (h.2 (i + 1) (by omega) (by omega)).2.2 (by omega)
    rw [show i + 1 - 1 = i by omega] at this
    simpa using this
  | d + 1, hd => by
    have ih := ids_lt l h i hi d (by omega)
    have := (h.2 (i + 1 + (d + 1 : Nat)) (by omega) (by omega)).2.2 (by omega)
    rw [show i + 1 + ((d + 1 : Nat) : Int) - 1 = i + 1 + d by omega] at this
    omega
theorem ids_inj (l : List S28) (h : CheckOK l) (i j : Int) (hi : 0 ≤ i) (hj : 0 ≤ j) (hil : i < (l.length : Int)) (hjl : j < (l.length : Int)) (e : (rd_T28 l i).f0 = (rd_T28 l j).f0) : i = j := by
  rcases Int.lt_trichotomy i j with c | c | c
  · have := ids_lt l h i hi (j - i - 1).toNat (by omega)
    rw [show i + 1 + ((j - i - 1).toNat : Int) = j by omega] at this
    omega
  · exact c
  · have := ids_lt l h j hj (i - j - 1).toNat (by omega)
    rw [show j + 1 + ((i - j - 1).toNat : Int) = i by omega] at this
    omega
def someF (l : List S28) (id amt day i : Int) : Bool := decide (0 ≤ idx l id ∧ idx l id < i ∧ allowM (rd_T28 l (idx l id)) amt day = 0)
theorem guards_loop (l : List S28) (hl : l.length ≤ 100) (hc : CheckOK l) (id amt day : Int) (h0 : 0 ≤ day) (h1 : day ≤ 73048) : ∀ (d : Nat) (i : Int), 0 ≤ i → i + d = (l.length : Int) →
    Ev (fun k => LG.l0 k l (someF l id amt day i) i id amt day) true
  | 0, i, hi, h => by
    have hr := idx_range l id
    apply Ev.up
    simp only [LG.l0]
    refine Ev.neg (by omega) (Ev.bnd (allows_ev l id amt day (by omega)) (Ev.pos ?_ (Ev.bnd live_true (Ev.up (by simp only [LG.j4]; exact Ev.ret rfl)))))
    unfold allowV someF
    by_cases c : idx l id < 0
    · rw [if_pos c]
      have : ¬ 0 ≤ idx l id := by omega
      simp [this]
    · rw [if_neg c]
      have e1 : 0 ≤ idx l id := by omega
      have e2 : idx l id < i := by omega
      by_cases c2 : allowM (rd_T28 l (idx l id)) amt day = 0
      · simp [e1, e2, c2]
      · simp [c2]
  | d + 1, i, hi, h => by
    have hr := idx_range l id
    have hw : wrap64 (i + 1) = i + 1 := w1 (n := (l.length : Int)) (by omega) (by omega) (by omega)
    have hg := (hc.2 i hi (by omega)).1
    have hd := good_days _ hg
    have hw3 : wrap64 ((rd_T28 l i).f3 + 1096) = (rd_T28 l i).f3 + 1096 := wid (by omega) (by omega)
    have hw4 : wrap64 ((rd_T28 l i).f4 + 1096) = (rd_T28 l i).f4 + 1096 := wid (by omega) (by omega)
    have ih := guards_loop l hl hc id amt day h0 h1 d (i + 1) (by omega) (by omega)
    have hs : someF l id amt day (i + 1) = (someF l id amt day i || okB (rd_T28 l i) id amt day) := by
      rw [Bool.eq_iff_iff, Bool.or_eq_true, okB_iff _ id amt day hg h0 h1]
      unfold someF
      simp only [decide_eq_true_eq]
      constructor
      · rintro ⟨a, b, c⟩
        by_cases e : idx l id = i
        · right
          rw [← e]
          exact ⟨idx_id l id a, c⟩
        · left; exact ⟨a, by omega, c⟩
      · rintro (⟨a, b, c⟩ | ⟨a, c⟩)
        · exact ⟨a, by omega, c⟩
        · have e0 := idx_self l i hi (by omega)
          rw [a] at e0
          have e1 := idx_id l id e0
          have e : idx l id = i := ids_inj l hc _ _ e0 hi (by omega) (by omega) (by rw [e1, a])
          rw [e]
          exact ⟨hi, by omega, c⟩
    rw [hs] at ih
    generalize someF l id amt day i = s at ih ⊢
    clear hs
    have hj3 : ∀ b : Bool, b = (s || okB (rd_T28 l i) id amt day) → Ev (fun k => LG.j3 k l b i id amt day) true := by
      intro b hb
      apply Ev.up
      simp only [LG.j3, hw]
      rw [hb]; exact ih
    clear ih
    have hj2 : ∀ b : Bool, b = freshB (rd_T28 l i) day → Ev (fun k => LG.j2 k l s i b id amt day (rd_T28 l i).f0 (rd_T28 l i).f1 (rd_T28 l i).f2 (rd_T28 l i).f3 (rd_T28 l i).f4 (rd_T28 l i).f5 (rd_T28 l i).f6) true := by
      intro b hb
      apply Ev.up
      simp only [LG.j2]
      generalize rd_T28 l i = x at hb hj3 ⊢
      cases b with
      | true =>
        have hf := hb.symm
        simp only [freshB, Bool.and_eq_true, Bool.or_eq_true, decide_eq_true_eq] at hf
        clear hb
        cases s with
        | true => exact Ev.pos rfl (hj3 true (by simp))
        | false => repeat' first
          | (refine Ev.ite (fun _ => ?_) (fun _ => ?_))
          | (exfalso; simp_all; done)
          | (refine hj3 _ ?_; rw [Bool.eq_iff_iff]; simp only [okB, Bool.true_or, Bool.false_or, Bool.and_eq_true, Bool.or_eq_true, decide_eq_true_eq, Bool.false_eq_true, false_iff, true_iff]; omega)
      | false =>
        have hf := hb.symm
        simp only [freshB, Bool.and_eq_false_iff, Bool.or_eq_false_iff, decide_eq_false_iff_not] at hf
        clear hb
        cases s with
        | true => exact Ev.pos rfl (hj3 true (by simp))
        | false => repeat' first
          | (refine Ev.ite (fun _ => ?_) (fun _ => ?_))
          | (exfalso; simp_all; done)
          | (refine hj3 _ ?_; rw [Bool.eq_iff_iff]; simp only [okB, Bool.true_or, Bool.false_or, Bool.and_eq_true, Bool.or_eq_true, decide_eq_true_eq, Bool.false_eq_true, false_iff, true_iff]; omega)
    apply Ev.up
    simp only [LG.l0, hw3, hw4]
    refine Ev.pos (by omega) (Ev.pos hi ?_)
    generalize rd_T28 l i = x at hj2 ⊢
    repeat' first
      | (refine Ev.ite (fun _ => ?_) (fun _ => ?_))
      | (refine hj2 _ ?_; rw [Bool.eq_iff_iff]; simp only [freshB, Bool.and_eq_true, Bool.or_eq_true, decide_eq_true_eq, Bool.false_eq_true, false_iff, true_iff]; omega)
theorem MandateGuards : LG.Pure := by
  intro l a g _
  apply Ev.rounds
  obtain ⟨b, hb, hf⟩ := short_ev l g.1
  have ht : ∀ x : Bool, x = true → Ev (fun k => LG.j0 k l x a.f0 a.f1 a.f2) true := by
    intro x hx
    subst hx
    apply Ev.up
    simp only [LG.j0]
    exact Ev.pos (by simp) live_end
  simp only [LG.f]
  refine Ev.bnd hb ?_
  cases b with
  | false => exact Ev.neg (by decide) (ht true rfl)
  | true =>
    have hl := hf rfl
    obtain ⟨r, _, h2, h3⟩ := chk_ev l g
    refine Ev.pos (by simp) (Ev.bnd h2 (Ev.ite (fun hz => Ev.ite (fun _ => ht true rfl) (fun h4 => ?_)) (fun _ => ht true rfl)))
    by_cases h5 : a.f2 > 73048
    · exact ht _ (by simpa using h5)
    · have e : decide (a.f2 > 73048) = false := by simpa using h5
      rw [e]
      have hok := h3.1 hz
      apply Ev.up
      simp only [LG.j0]
      refine Ev.neg (by decide) ?_
      have hs : someF l a.f0 a.f1 a.f2 0 = false := by
        unfold someF
        exact decide_eq_false (by omega)
      have := guards_loop l hl hok a.f0 a.f1 a.f2 (by omega) (by omega) l.length 0 (by omega) (by omega)
      rw [hs] at this
      exact this

end Go.Proofs.Ytfgcachcbhkkoaa.Pure

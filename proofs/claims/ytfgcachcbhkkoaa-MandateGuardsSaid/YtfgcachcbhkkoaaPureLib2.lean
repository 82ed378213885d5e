import Derived.Test.YtfgcachcbhkkoaaEv
import Derived.Test.YtfgcachcbhkkoaaGood
import Derived.Test.YtfgcachcbhkkoaaPureLib
import Derived.Test.YtfgcachcbhkkoaaX0
import Derived.Test.YtfgcachcbhkkoaaX12
import Derived.Test.YtfgcachcbhkkoaaX13
import Derived.Test.YtfgcachcbhkkoaaX14
import Derived.Test.YtfgcachcbhkkoaaX20
namespace Go.Proofs.Ytfgcachcbhkkoaa.X
open Go.RowKit Go.Proofs.YtfgcachcbhkkoaaW.PrintWords Go.Proofs.YtfgcachcbhkkoaaW.PrintLast
set_option linter.unusedVariables false

/-! Revoke and Use: what both tell. -/
def setRev (l : List S28) (i day : Int) : List S28 := l.set i.toNat ⟨(rd_T28 l i).f0, (rd_T28 l i).f1, (rd_T28 l i).f2, (rd_T28 l i).f3, (rd_T28 l i).f4, day, (rd_T28 l i).f6⟩
def revV (l : List S28) (id day : Int) : List S28 × Int :=
  if idx l id < 0 then ([], 11) else if (rd_T28 l (idx l id)).f5 = 0 then
    (if day < 1 then ([], 1) else if day > 73048 then ([], 1) else if day < (rd_T28 l (idx l id)).f3 then ([], 1) else (setRev l (idx l id) day, 0)) else ([], 17)
theorem revoke_ev (l : List S28) (id day : Int) (hl : l.length ≤ 100) : Ev (fun k => mandate_Revoke.f k l id day) (revV l id day) := by
  have hr := idx_range l id
  simp only [mandate_Revoke.f]
  refine Ev.bnd (find_ev l id (by omega)) (Ev.const ?_)
  unfold findV revV
  by_cases h : idx l id < 0
  · simp [h]
  · rw [if_neg h, if_neg h]
    simp only [if_true]
    rw [if_pos (by omega), if_pos (by omega), clone_eq l hl]
    by_cases h1 : (rd_T28 l (idx l id)).f5 = 0
    · rw [if_pos h1, if_pos h1]
      by_cases h2 : day < 1
      · simp [h2]
      by_cases h3 : day > 73048
      · simp [h3]
      by_cases h4 : day < (rd_T28 l (idx l id)).f3
      · simp [h2, h3, h4]
      · rw [if_neg h2, if_neg h3, if_neg h4, if_neg h2, if_neg h3, if_neg h4]
        simp only [Option.bind_some]
        rw [if_pos (by omega)]
        rfl
    · rw [if_neg h1, if_neg h1]
theorem ref_revoke (l : List S28) (id day : Int) (hl : l.length ≤ 100) : Ev (fun k => corebankref41_Revoke.f k l id day) (revV l id day) := by
  have hr := idx_range l id
  simp only [corebankref41_Revoke.f]
  refine Ev.bnd (place_ev l id (by omega)) (Ev.const ?_)
  unfold revV
  by_cases h : idx l id < 0
  · rw [if_pos h, if_pos h]
  · rw [if_neg h, if_neg h, if_pos (by omega), if_pos (by omega)]
    by_cases h1 : (rd_T28 l (idx l id)).f5 = 0
    · rw [if_pos h1, if_pos h1]
      by_cases h2 : day < 1
      · simp [h2]
      by_cases h3 : day > 73048
      · simp [h3]
      by_cases h4 : day < (rd_T28 l (idx l id)).f3
      · simp [h2, h3, h4]
      · rw [if_neg h2, if_neg h3, if_neg h4, if_neg h2, if_neg h3, if_neg h4]
        simp only [Option.bind_some, List.nil_append]
        rw [if_pos (by simp; omega), if_pos (by omega)]
        rfl
    · rw [if_neg h1, if_neg h1]
/-! Expired and Allows. -/
def lastD (x : S28) : Int := if x.f4 = 0 then x.f3 else x.f4
def expB (x : S28) (day : Int) : Bool := decide (day > lastD x) && decide (IntKind.u64.wrap (IntKind.u64.wrap day - IntKind.u64.wrap (lastD x)) > 1096)
theorem u1096 : IntKind.u64.wrap 1096 = 1096 := by simp [IntKind.wrap, IntKind.bits, IntKind.signed]
theorem expired_eq (x : S28) (day : Int) : mandate_Expired.f x.f0 x.f1 x.f2 x.f3 x.f4 x.f5 x.f6 day = some (expB x day) := by
  unfold mandate_Expired.f mandate_more.f expB lastD
  rw [u1096]
  by_cases h : x.f4 = 0
  · rw [if_pos h, if_pos h]
    by_cases h2 : day > x.f3 <;> simp [h2]
  · rw [if_neg h, if_neg h]
    by_cases h2 : day > x.f4 <;> simp [h2]
def stateB (x : S28) (day : Int) : Bool := (!decide (x.f5 = 0) && decide (x.f5 ≤ day)) || decide (x.f3 > day)
def allowM (x : S28) (amt day : Int) : Int := if stateB x day = true then 17 else if expB x day = true then 23 else if x.f2 = 0 then 0 else if amt > x.f2 then 18 else 0
def allowV (l : List S28) (id amt day : Int) : Int := if idx l id < 0 then 11 else allowM (rd_T28 l (idx l id)) amt day
theorem allow_j (x : S28) (amt day : Int) (b : Bool) (hb : b = stateB x day) : Ev (fun k => mandate_Allows.j0 k amt day b x.f0 x.f1 x.f2 x.f3 x.f4 x.f5 x.f6) (allowM x amt day) := by
  apply Ev.up
  simp only [mandate_Allows.j0, expired_eq, Option.bind_some]
  unfold allowM
  rw [hb]
  exact Ev.const (by (repeat' split) <;> first | rfl | contradiction)
theorem allows_ev (l : List S28) (id amt day : Int) (hl : l.length ≤ 9223372036854775807) : Ev (fun k => mandate_Allows.f k l id amt day) (allowV l id amt day) := by
  have hr := idx_range l id
  simp only [mandate_Allows.f]
  refine Ev.bnd (find_ev l id hl) ?_
  unfold findV allowV
  by_cases h : idx l id < 0
  · simp only [if_pos h]
    exact Ev.neg (by simp) (Ev.ret rfl)
  · simp only [if_neg h]
    refine Ev.pos (by simp) (Ev.pos (by omega) (Ev.pos (by omega) (Ev.ite (fun h1 => ?_) (fun h1 => Ev.ite (fun h2 => ?_) (fun h2 => ?_)))))
    · exact allow_j _ amt day _ (by simp [stateB, h1])
    · exact allow_j _ amt day _ (by simp [stateB, h1, h2])
    · exact allow_j _ amt day _ (by simp [stateB, h1, h2])
/-! A revoked list. -/
theorem rev_lenS (l : List S28) (i v : Int) : (setRev l i v).length = l.length := List.length_set
theorem rev_rd (l : List S28) (i v j : Int) (h0 : 0 ≤ i) (h1 : i < (l.length : Int)) (hj : 0 ≤ j) : rd_T28 (setRev l i v) j = if j = i then ⟨(rd_T28 l i).f0, (rd_T28 l i).f1, (rd_T28 l i).f2, (rd_T28 l i).f3, (rd_T28 l i).f4, v, (rd_T28 l i).f6⟩ else rd_T28 l j := by
  unfold setRev
  unfold rd_T28
  by_cases e : j = i
  · subst e
    rw [if_pos rfl, List.getD_eq_getElem?_getD, List.getElem?_set_self (by omega)]
    rfl
  · rw [if_neg e, List.getD_eq_getElem?_getD, List.getElem?_set_ne (by omega), ← List.getD_eq_getElem?_getD]
theorem rev_f0 (l : List S28) (i v j : Int) (h0 : 0 ≤ i) (h1 : i < (l.length : Int)) (hj : 0 ≤ j) : (rd_T28 (setRev l i v) j).f0 = (rd_T28 l j).f0 := by
  rw [rev_rd l i v j h0 h1 hj]
  by_cases e : j = i
  · subst e; rw [if_pos rfl]
  · rw [if_neg e]
theorem rev_good (l : List S28) (i v : Int) (h0 : 0 ≤ i) (h1 : i < (l.length : Int)) (hv : 1 ≤ v ∧ v ≤ 73048) (g : GL28 l) : GL28 (setRev l i v) := by
  refine ⟨by rw [rev_lenS]; exact g.1, fun x hx => ?_⟩
  unfold setRev at hx
  rcases List.mem_or_eq_of_mem_set hx with hx | rfl
  · exact g.2 x hx
  · have := g.2 _ (rd28_mem l i h0 h1)
    exact ⟨this.1, this.2.1, this.2.2.1, this.2.2.2.1, this.2.2.2.2.1, wf64.2 (by show -9223372036854775808 ≤ v ∧ v ≤ 9223372036854775807; omega), this.2.2.2.2.2.2⟩
theorem rev_ok (l : List S28) (i v : Int) (h0 : 0 ≤ i) (h1 : i < (l.length : Int)) (hv : 1 ≤ v ∧ v ≤ 73048) (hs : (rd_T28 l i).f3 ≤ v) (h : CheckOK l) : CheckOK (setRev l i v) := by
  obtain ⟨b, c⟩ := h
  refine ⟨by rw [rev_lenS]; exact b, fun j hj hl => ?_⟩
  rw [rev_lenS] at hl
  obtain ⟨d1, d2, d3⟩ := c j hj hl
  refine ⟨?_, ?_, fun hp => ?_⟩
  · rw [rev_rd l i v j h0 h1 hj]
    by_cases e : j = i
    · rw [if_pos e]
      rw [e] at d1
      simp only [goodB, laterB, dayB, Bool.and_eq_true, Bool.or_eq_true, decide_eq_true_eq] at d1 ⊢
      exact ⟨d1.1, d1.2.1, d1.2.2.1, d1.2.2.2.1, d1.2.2.2.2.1, d1.2.2.2.2.2.1, by omega⟩
    · rw [if_neg e]; exact d1
  · rw [rev_rd l i v j h0 h1 hj]
    by_cases e : j = i
    · rw [if_pos e]
      rw [e] at d2
      exact d2
    · rw [if_neg e]; exact d2
  · rw [rev_f0 l i v j h0 h1 hj, rev_f0 l i v (j - 1) h0 h1 (by omega)]; exact d3 hp
theorem map_rev (l : List S28) (p v : Int) (h0 : 0 ≤ p) (h1 : p < (l.length : Int)) : (setRev l p v).map S28.f0 = l.map S28.f0 := by
  unfold setRev
  rw [List.map_set]
  have e : (rd_T28 l p).f0 = (l.map S28.f0)[p.toNat]'(by rw [List.length_map]; omega) := by
    rw [rd28 l p h0 h1, List.getElem_map]
  show (l.map S28.f0).set p.toNat (rd_T28 l p).f0 = _
  rw [e, List.set_getElem_self]
theorem idx_map (l : List S28) (s : Int) : idx l s = idxP (fun n : Int => n == s) (l.map S28.f0) := by
  unfold idx idxP
  rw [List.findIdx?_map]
  rfl
theorem idx_rev (l : List S28) (p v : Int) (s : Int) (h0 : 0 ≤ p) (h1 : p < (l.length : Int)) : idx (setRev l p v) s = idx l s := by
  rw [idx_map, idx_map, map_rev l p v h0 h1]
theorem idx_self (l : List S28) (i : Int) (h0 : 0 ≤ i) (h1 : i < (l.length : Int)) : 0 ≤ idx l (rd_T28 l i).f0 := by
  rcases idx_range l (rd_T28 l i).f0 with h | h
  · unfold idx idxP at h
    split at h
    · omega
    · rename_i hn
      rw [List.findIdx?_eq_none_iff] at hn
      have := hn _ (rd28_mem l i h0 h1)
      simp at this
  · exact h.1
theorem idx_id (l : List S28) (s : Int) (h : 0 ≤ idx l s) : (rd_T28 l (idx l s)).f0 = s := by
  have := (idxP_at (fun x : S28 => x.f0 == s) l z28 h).1
  exact beq_iff_eq.1 this
end Go.Proofs.Ytfgcachcbhkkoaa.X

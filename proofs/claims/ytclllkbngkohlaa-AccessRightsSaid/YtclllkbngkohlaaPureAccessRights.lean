/- AccessRights: for every accepted list of users, every name and right: after Grant the user has the right, after Withdraw none of its parts; every other right, and every right and Limit of others, is as before. No condition. -/
import Derived.Test.YtclllkbngkohlaaPureLib
import Derived.Test.YtclllkbngkohlaaPureLib2
import Derived.Test.YtclllkbngkohlaaStmtAccessRights
import Derived.Test.YtclllkbngkohlaaX0
import Derived.Test.YtclllkbngkohlaaX1
import Derived.Test.YtclllkbngkohlaaX31
namespace Go.Proofs.Ytclllkbngkohlaa.Pure
open Go.RowKit Go.Proofs.Ytclllkbngkohlaa.X Go.Proofs.YtclllkbngkohlaaW.PrintWords Go.Proofs.YtclllkbngkohlaaW.PrintLast

theorem an_nat : ∀ a b : Fin 128, Go.bits .andNot .i64 (a.val : Int) (b.val : Int) = ((a.val &&& (127 ^^^ b.val) : Nat) : Int) := by decide +kernel
theorem and_or (a b : Nat) (ha : a < 128) (hb : b < 128) : Go.bits .and .i64 (a : Int) (b : Int) = ((a &&& b : Nat) : Int) ∧ Go.bits .or .i64 (a : Int) (b : Int) = ((a ||| b : Nat) : Int) :=
  bits_nat .i64 7 (by decide) (by intro n h1 h2; rw [IntKind.wrap_i64]; omega) a b ha hb
theorem has_bit_ : ∀ (a : Fin 128) (j : Fin 7), (Go.bits .and .i64 (a.val : Int) ((2 ^ j.val : Nat) : Int) == ((2 ^ j.val : Nat) : Int)) = a.val.testBit j.val := by decide +kernel
theorem has_bit (a j : Nat) (ha : a < 128) (hj : j < 7) : (Go.bits .and .i64 (a : Int) ((2 ^ j : Nat) : Int) == ((2 ^ j : Nat) : Int)) = a.testBit j := has_bit_ ⟨a, ha⟩ ⟨j, hj⟩
theorem tch_bit_ : ∀ (b : Fin 128) (j : Fin 7), ((Int.tmod (wrap64 (Int.tdiv (b.val : Int) ((2 ^ j.val : Nat) : Int))) 2) == 1) = b.val.testBit j.val := by decide +kernel
theorem tch_bit (b j : Nat) (hb : b < 128) (hj : j < 7) : ((Int.tmod (wrap64 (Int.tdiv (b : Int) ((2 ^ j : Nat) : Int))) 2) == 1) = b.testBit j := tch_bit_ ⟨b, hb⟩ ⟨j, hj⟩
theorem or_bit (a b j : Nat) (ha : a < 128) (hb : b < 128) (hj : j < 7) : (Go.bits .and .i64 (Go.bits .or .i64 (a : Int) (b : Int)) ((2 ^ j : Nat) : Int) == ((2 ^ j : Nat) : Int)) = (a.testBit j || b.testBit j) := by
  rw [(and_or a b ha hb).2, has_bit _ j (Nat.or_lt_two_pow (n := 7) ha hb) hj, Nat.testBit_or]
theorem an_bit (a b j : Nat) (ha : a < 128) (hb : b < 128) (hj : j < 7) : (Go.bits .and .i64 (Go.bits .andNot .i64 (a : Int) (b : Int)) ((2 ^ j : Nat) : Int) == ((2 ^ j : Nat) : Int)) = (a.testBit j && !b.testBit j) := by
  have := an_nat ⟨a, ha⟩ ⟨b, hb⟩
  simp only at this
  rw [this, has_bit _ j (Nat.lt_of_le_of_lt Nat.and_le_left ha) hj, Nat.testBit_and, Nat.testBit_xor]
  have h127 : ∀ j : Fin 7, Nat.testBit 127 j.val = true := by decide
  rw [h127 ⟨j, hj⟩, Bool.true_xor]

theorem map_put1 (l : List S25) (p v : Int) (h0 : 0 ≤ p) (h1 : p < (l.length : Int)) : (put1 l p v).map S25.f0 = l.map S25.f0 := by
  unfold put1
  rw [List.map_set]
  have e : (rd_T25 l p).f0 = (l.map S25.f0)[p.toNat]'(by rw [List.length_map]; omega) := by
    rw [rd25 l p h0 h1, List.getElem_map]
  show (l.map S25.f0).set p.toNat (rd_T25 l p).f0 = _
  rw [e, List.set_getElem_self]
theorem idx_map (l : List S25) (s : ByteArray) : idx l s = idxP (fun n : ByteArray => n.toList == s.toList) (l.map S25.f0) := by
  unfold idx idxP
  rw [List.findIdx?_map]
  rfl
theorem idx_put1 (l : List S25) (p v : Int) (s : ByteArray) (h0 : 0 ≤ p) (h1 : p < (l.length : Int)) : idx (put1 l p v) s = idx l s := by
  rw [idx_map, idx_map, map_put1 l p v h0 h1]
theorem idx_self (l : List S25) (i : Int) (h0 : 0 ≤ i) (h1 : i < (l.length : Int)) : 0 ≤ idx l (rd_T25 l i).f0 := by
  rcases idx_range l (rd_T25 l i).f0 with h | h
  · unfold idx idxP at h
    split at h
    · omega
    · rename_i hn
      rw [List.findIdx?_eq_none_iff] at hn
      have := hn _ (rd25_mem l i h0 h1)
      simp at this
  · exact h.1
theorem idx_name (l : List S25) (s : ByteArray) (h : 0 ≤ idx l s) : (rd_T25 l (idx l s)).f0.toList = s.toList := by
  have := (idxP_at (fun x : S25 => x.f0.toList == s.toList) l z25 h).1
  exact beq_iff_eq.1 this
theorem idx_congr (l : List S25) (s t : ByteArray) (h : s.toList = t.toList) : idx l s = idx l t := by
  unfold idx; rw [h]
theorem hasV_at (l : List S25) (s : ByteArray) (r : Int) (h : 0 ≤ idx l s) (h1 : 1 ≤ r) (h2 : r ≤ 127) : hasV l s r = (Go.bits .and .i64 (rd_T25 l (idx l s)).f1 r == r) := by
  have e : ¬ idxP (fun x : S25 => x.f0.toList == s.toList) l < 0 := by unfold idx at h; omega
  unfold hasV findV
  rw [if_neg e]
  simp only [Bool.true_and, decide_eq_true h1, decide_eq_true h2]
  rfl
/-- what the loop over the seven rights needs, of a list l with a changed right. -/
theorem has_put (op : Int → Int → Int) (f : Bool → Bool → Bool) (hop : ∀ a b j : Nat, a < 128 → b < 128 → j < 7 → (Go.bits .and .i64 (op (a : Int) (b : Int)) ((2 ^ j : Nat) : Int) == ((2 ^ j : Nat) : Int)) = f (a.testBit j) (b.testBit j)) (hf : ∀ x, f x false = x)
    (l : List S25) (a : ByteArray) (r : Int) (hc : CheckOK l) (h0 : ¬ idx l a < 0) (hr : 1 ≤ r ∧ r ≤ 127) (i : Int) (hi0 : 0 ≤ i) (hi : i < (l.length : Int)) (j : Nat) (hj : j < 7) :
    hasV (put1 l (idx l a) (op (rd_T25 l (idx l a)).f1 r)) (rd_T25 l i).f0 ((2 ^ j : Nat) : Int) = f (hasV l (rd_T25 l i).f0 ((2 ^ j : Nat) : Int)) ((decide ((rd_T25 l i).f0.toList = a.toList)) && r.toNat.testBit j) := by
  have hir := idx_range l a
  have hp0 : 0 ≤ idx l a := by omega
  have hp1 : idx l a < (l.length : Int) := by omega
  have hs := idx_self l i hi0 hi
  have hsr := idx_range l (rd_T25 l i).f0
  have h1 : (1 : Int) ≤ ((2 ^ j : Nat) : Int) := by have := Nat.two_pow_pos j; omega
  have h2 : ((2 ^ j : Nat) : Int) ≤ 127 := by have : 2 ^ j < 128 := Nat.pow_lt_pow_right (by decide) hj; omega
  rw [hasV_at l _ _ hs h1 h2, hasV_at _ _ _ (by rw [idx_put1 l _ _ _ hp0 hp1]; exact hs) h1 h2, idx_put1 l _ _ _ hp0 hp1]
  have hx := hc.2.2 (idx l (rd_T25 l i).f0) hs (by omega)
  obtain ⟨x, hx1⟩ : ∃ x : Nat, (rd_T25 l (idx l (rd_T25 l i).f0)).f1 = (x : Int) := ⟨_, (Int.toNat_of_nonneg hx.2.1).symm⟩
  have hx2 : x < 128 := by have := hx.2.2.1; omega
  obtain ⟨q, hq⟩ : ∃ q : Nat, r = (q : Int) := ⟨r.toNat, by omega⟩
  have hq2 : q < 128 := by omega
  rw [put1_rd l _ _ _ hp0 hp1 hs]
  by_cases e : (rd_T25 l i).f0.toList = a.toList
  · have e2 := idx_congr l _ _ e
    rw [if_pos e2]
    rw [e2] at hx1 ⊢
    show (Go.bits .and .i64 (op (rd_T25 l (idx l a)).f1 r) ((2 ^ j : Nat) : Int) == ((2 ^ j : Nat) : Int)) = _
    rw [hx1, hq]
    rw [hop x q j hx2 hq2 hj, has_bit x j hx2 hj]
    simp [e]
  · have e2 : ¬ idx l (rd_T25 l i).f0 = idx l a := by
      intro e3
      have h3 := idx_name l _ hs
      rw [e3, idx_name l a hp0] at h3
      exact e h3.symm
    rw [if_neg e2, hx1, has_bit x j hx2 hj]
    simp [e, hf]
theorem rights_loop1 (l : List S25) (a : ByteArray) (r : Int) (hl : l.length ≤ 40) (hc : CheckOK l) (h0 : ¬ idx l a < 0) (hr : 1 ≤ r ∧ r ≤ 127) (i : Int) (hi0 : 0 ≤ i) (hi : i < (l.length : Int))
    (next : Ev (fun k => corebanklaw46_AccessRights.l0 k l a r (put1 l (idx l a) (Go.bits .or .i64 (rd_T25 l (idx l a)).f1 r)) (put1 l (idx l a) (Go.bits .andNot .i64 (rd_T25 l (idx l a)).f1 r)) (i + 1)) true) :
    ∀ (d j : Nat), j + d = 7 → Ev (fun k => corebanklaw46_AccessRights.l1 k l a r (put1 l (idx l a) (Go.bits .or .i64 (rd_T25 l (idx l a)).f1 r)) (put1 l (idx l a) (Go.bits .andNot .i64 (rd_T25 l (idx l a)).f1 r)) i ((2 ^ j : Nat) : Int)) true
  | 0, j, h => by
    obtain rfl : j = 7 := by omega
    have hw : wrap64 (i + 1) = i + 1 := w1 (n := (l.length : Int)) (by omega) (by omega) (by omega)
    apply Ev.up
    simp only [corebanklaw46_AccessRights.l1, hw]
    exact Ev.neg (by decide) next
  | d + 1, j, h => by
    have ih := rights_loop1 l a r hl hc h0 hr i hi0 hi next d (j + 1) (by omega)
    have hj : j < 7 := by omega
    have hp : 2 ^ j < 128 := Nat.pow_lt_pow_right (by decide) hj
    have hp2 : 2 ^ j ≤ 64 := Nat.pow_le_pow_right (n := 2) (by decide) (show j ≤ 6 by omega)
    have hpp := Nat.two_pow_pos j
    have hw : wrap64 (2 * ((2 ^ j : Nat) : Int)) = ((2 ^ (j + 1) : Nat) : Int) := by
      rw [wid (by omega) (by omega), Nat.pow_succ]; omega
    obtain ⟨q, hq⟩ : ∃ q : Nat, r = (q : Int) := ⟨r.toNat, by omega⟩
    have hq2 : q < 128 := by omega
    have h1 := has_put (Go.bits .or .i64) (fun x y => x || y) or_bit (by simp) l a r hc h0 hr i hi0 hi j hj
    have h2 := has_put (Go.bits .andNot .i64) (fun x y => x && !y) an_bit (by simp) l a r hc h0 hr i hi0 hi j hj
    have hj6 : ∀ t : Bool, t = (decide ((rd_T25 l i).f0.toList = a.toList) && r.toNat.testBit j) → Ev (fun k => corebanklaw46_AccessRights.j6 k l a r (put1 l (idx l a) (Go.bits .or .i64 (rd_T25 l (idx l a)).f1 r)) (put1 l (idx l a) (Go.bits .andNot .i64 (rd_T25 l (idx l a)).f1 r)) i ((2 ^ j : Nat) : Int) (hasV l (rd_T25 l i).f0 ((2 ^ j : Nat) : Int)) t) true := by
      intro t ht
      rw [← ht] at h1 h2
      apply Ev.up
      simp only [corebanklaw46_AccessRights.j6, hw]
      refine Ev.pos hi0 (Ev.pos hi (Ev.now_ (has_eq _ _ _ (by rw [put1_len]; omega)) (Ev.ite (fun hh => ?_) (fun hh => ?_))))
      · refine Ev.neg (by rw [h1, hh]; simp) (Ev.now_ (has_eq _ _ _ (by rw [put1_len]; omega)) (Ev.neg (by rw [h2, hh]; simp) ih))
      · have hh2 : hasV l (rd_T25 l i).f0 ((2 ^ j : Nat) : Int) = false := by simpa using hh
        refine Ev.neg (by rw [h1, hh2]; simp) (Ev.now_ (has_eq _ _ _ (by rw [put1_len]; omega)) (Ev.neg (by rw [h2, hh2]; simp) ih))
    apply Ev.up
    simp only [corebanklaw46_AccessRights.l1]
    refine Ev.pos (by omega) (Ev.pos hi0 (Ev.pos hi (Ev.now_ (has_eq _ _ _ (by omega)) (Ev.ite (fun e => Ev.neg (by omega) (hj6 _ ?_)) (fun e => hj6 _ ?_)))))
    · rw [decide_eq_true e, Bool.true_and, hq, tch_bit q j hq2 hj]; rfl
    · rw [decide_eq_false e, Bool.false_and]
theorem rights_loop0 (l : List S25) (a : ByteArray) (r : Int) (hl : l.length ≤ 40) (hc : CheckOK l) (h0 : ¬ idx l a < 0) (hr : 1 ≤ r ∧ r ≤ 127) : ∀ (d : Nat) (i : Int), 0 ≤ i → i + d = (l.length : Int) →
    Ev (fun k => corebanklaw46_AccessRights.l0 k l a r (put1 l (idx l a) (Go.bits .or .i64 (rd_T25 l (idx l a)).f1 r)) (put1 l (idx l a) (Go.bits .andNot .i64 (rd_T25 l (idx l a)).f1 r)) i) true
  | 0, i, h, hd => by
    apply Ev.up
    simp only [corebanklaw46_AccessRights.l0]
    exact Ev.neg (by omega) (Ev.bnd live_true (Ev.ret rfl))
  | d + 1, i, h, hd => by
    have hir := idx_range l a
    have hp0 : 0 ≤ idx l a := by omega
    have hp1 : idx l a < (l.length : Int) := by omega
    have ih := rights_loop0 l a r hl hc h0 hr d (i + 1) (by omega) (by omega)
    have l1 := rights_loop1 l a r hl hc h0 hr i h (by omega) ih 7 0 rfl
    apply Ev.up
    simp only [corebanklaw46_AccessRights.l0]
    refine Ev.pos (by omega) (Ev.pos h (Ev.pos (by rw [put1_len]; omega) (Ev.pos (by rw [put1_rd0 l _ _ _ hp0 hp1 h]) (Ev.pos (by rw [put1_len]; omega) (Ev.pos (by rw [put1_rd0 l _ _ _ hp0 hp1 h]) (Ev.pos (by rw [put1_rd2 l _ _ _ hp0 hp1 h]) ?_))))))
    have e : ((rd_T25 (put1 l (idx l a) (Go.bits .andNot .i64 (rd_T25 l (idx l a)).f1 r)) i).f2 != (rd_T25 l i).f2) = false := by rw [put1_rd2 l _ _ _ hp0 hp1 h]; simp
    rw [e]
    apply Ev.up
    simp only [corebanklaw46_AccessRights.j4]
    exact Ev.neg (by decide) l1
theorem AccessRights : corebanklaw46_AccessRights.Pure := by
  intro l a r g ha hr
  apply Ev.rounds
  obtain ⟨b, hb, hf⟩ := great_ev l g.1
  have ht : Ev (fun k => corebanklaw46_AccessRights.j0 k l a r true) true := by
    apply Ev.up
    simp only [corebanklaw46_AccessRights.j0, if_true]
    exact Ev.ret rfl
  simp only [corebanklaw46_AccessRights.f]
  refine Ev.bnd hb ?_
  cases b with
  | true => exact Ev.pos rfl ht
  | false =>
    have hl := hf rfl
    obtain ⟨c, hc1, hc2⟩ := chk_ev l g
    refine Ev.neg (by decide) (Ev.bnd hc1 ?_)
    by_cases hz : c = 0
    · subst hz
      have hc := hc2.1 rfl
      rw [show ((0 : Int) != 0) = false from rfl]
      apply Ev.up
      simp only [corebanklaw46_AccessRights.j0]
      refine Ev.neg (by decide) (Ev.now_ (grant_eq l a r hl) (Ev.now_ (withdraw_eq l a r hl) ?_))
      unfold chgV
      by_cases h0 : idx l a < 0
      · rw [if_pos h0, if_pos h0]
        refine Ev.neg (by decide) ?_
        apply Ev.up
        simp only [corebanklaw46_AccessRights.j1]
        exact Ev.pos (by simp) (Ev.pos (by simp) (Ev.pos (by simp [wrap64]) (Ev.bnd live_true (Ev.ret rfl))))
      · rw [if_neg h0, if_neg h0]
        by_cases hr2 : 1 ≤ r ∧ r ≤ 127
        · rw [if_pos hr2, if_pos hr2]
          refine Ev.pos rfl ?_
          apply Ev.up
          simp only [corebanklaw46_AccessRights.j1]
          refine Ev.neg (by decide) (Ev.pos (by rw [put1_len]) ?_)
          apply Ev.up
          simp only [corebanklaw46_AccessRights.j2]
          exact Ev.neg (by rw [put1_len]; simp) (rights_loop0 l a r hl hc h0 hr2 l.length 0 (by omega) (by omega))
        · rw [if_neg hr2, if_neg hr2]
          refine Ev.neg (by decide) ?_
          apply Ev.up
          simp only [corebanklaw46_AccessRights.j1]
          exact Ev.pos (by simp) (Ev.pos (by simp) (Ev.pos (by simp [wrap64]) (Ev.bnd live_true (Ev.ret rfl))))
    · have : (c != 0) = true := by simpa using hz
      rw [this]
      exact ht

end Go.Proofs.Ytclllkbngkohlaa.Pure

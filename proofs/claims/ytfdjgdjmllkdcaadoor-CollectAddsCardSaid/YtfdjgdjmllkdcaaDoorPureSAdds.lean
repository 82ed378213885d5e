import Derived.Test.YtfdjgdjmllkdcaaDoorEv
import Derived.Test.YtfdjgdjmllkdcaaDoorGood
import Derived.Test.YtfdjgdjmllkdcaaDoorX0
import Derived.Test.YtfdjgdjmllkdcaaDoorX11
import Derived.Test.YtfdjgdjmllkdcaaDoorX12
import Derived.Test.YtfdjgdjmllkdcaaDoorX13
import Derived.Test.YtfdjgdjmllkdcaaDoorX14
import Derived.Test.YtfdjgdjmllkdcaaDoorX15
import Derived.Test.YtfdjgdjmllkdcaaDoorX18
import Derived.Test.YtfdjgdjmllkdcaaDoorX3
import Derived.Test.YtfdjgdjmllkdcaaDoorX4
import Derived.Test.YtfdjgdjmllkdcaaDoorX5
import Derived.Test.YtfdjgdjmllkdcaaDoorX6
import Derived.Test.YtfdjgdjmllkdcaaDoorX8
namespace Go.Proofs.YtfdjgdjmllkdcaaDoor.X
open Go.RowKit Go.Proofs.YtfdjgdjmllkdcaaDoorW.PrintWords Go.Proofs.YtfdjgdjmllkdcaaDoorW.PrintLast
set_option linter.unusedVariables false

theorem getD_at {α : Type} (l : List α) (z : α) (j : Nat) (h : j < l.length) : l.getD j z = l[j] := by
  rw [List.getD_eq_getElem?_getD, List.getElem?_eq_getElem h, Option.getD_some]
def idxP {α : Type} (p : α → Bool) (l : List α) : Int := match l.findIdx? p with | some i => (i : Int) | none => -1
theorem idxP_hit {α : Type} (p : α → Bool) (l : List α) (z : α) (i : Int) (h0 : 0 ≤ i) (h1 : i < (l.length : Int)) (hb : ∀ j : Nat, (j : Int) < i → p (l.getD j z) = false) (hp : p (l.getD i.toNat z) = true) : idxP p l = i := by
  have : l.findIdx? p = some i.toNat := by
    rw [List.findIdx?_eq_some_iff_getElem]
    refine ⟨by omega, ?_, fun j hj => ?_⟩
    · rw [getD_at _ _ _ (by omega)] at hp; exact hp
    · have := hb j (by omega)
      rw [getD_at _ _ _ (by omega)] at this; simpa using this
  simp only [idxP, this]; omega
theorem idxP_miss {α : Type} (p : α → Bool) (l : List α) (z : α) (i : Int) (h1 : ¬ i < (l.length : Int)) (hb : ∀ j : Nat, (j : Int) < i → p (l.getD j z) = false) : idxP p l = -1 := by
  have : l.findIdx? p = none := by
    rw [List.findIdx?_eq_none_iff]
    intro x hx
    obtain ⟨j, hj, rfl⟩ := List.getElem_of_mem hx
    have := hb j (by omega)
    rw [getD_at _ _ _ hj] at this; exact this
  simp only [idxP, this]
theorem idxP_range {α : Type} (p : α → Bool) (l : List α) : idxP p l = -1 ∨ (0 ≤ idxP p l ∧ idxP p l < (l.length : Int)) := by
  unfold idxP
  split
  · rename_i i h
    right
    rw [List.findIdx?_eq_some_iff_getElem] at h
    obtain ⟨h1, _⟩ := h
    omega
  · left; rfl
theorem live_true : Ev (fun k => corebanklaw42_lives.f k) true := Ev.of corebanklaw42_lives.mono (k := 30) (by decide +kernel)
theorem live_end : Ev (fun k => (corebanklaw42_lives.f k).bind fun t => some t) true := Ev.bnd live_true (Ev.ret rfl)
def dayB (d : Int) : Bool := decide (0 ≤ d) && decide (d ≤ 73048)
theorem date_eq (d : Int) : date_Valid.f d = some (dayB d) := by
  unfold date_Valid.f dayB
  by_cases h : d ≥ 0 <;> simp [h]
theorem rd_nat (l : List S36) (i : Int) (j : Nat) (h : (j : Int) = i) : rd_T36 l i = l.getD j z36 := by
  subst h; rfl
theorem clone_eq (l : List S36) (h : l.length ≤ 100) : api_Debit_32.f l = some l := by
  unfold api_Debit_32.f
  simp only [Option.bind_some, List.nil_append]
  exact if_pos (by simp; omega)
theorem same_loop (l : List S36) (hl : l.length ≤ 9223372036854775807) : ∀ (d : Nat) (i : Int), 0 ≤ i → i + d = (l.length : Int) → Ev (fun k => corebankref42_SameAll.l0 k l l i) true
  | 0, i, h0, h => by
    apply Ev.up
    simp only [corebankref42_SameAll.l0]
    exact Ev.neg (by omega) (Ev.ret rfl)
  | d + 1, i, h0, h => by
    have hw : wrap64 (i + 1) = i + 1 := w1 (n := (l.length : Int)) (by omega) (by omega) (by omega)
    apply Ev.up
    simp only [corebankref42_SameAll.l0, hw]
    exact Ev.pos (by omega) (Ev.pos h0 (Ev.pos (by omega) (Ev.neg (by simp) (same_loop l hl d (i + 1) (by omega) (by omega)))))
theorem same_self (l : List S36) (hl : l.length ≤ 9223372036854775807) : Ev (fun k => corebankref42_SameAll.f k l l) true := by
  simp only [corebankref42_SameAll.f]
  exact Ev.pos (by simp) (same_loop l hl l.length 0 (by omega) (by omega))
def allF (p : Int → Bool) : Nat → Int → Bool
  | 0, _ => true
  | d + 1, i => p i && allF p d (i + 1)
def okK (s : ByteArray) (i : Int) : Bool := decide (33 ≤ bt s i) && decide (bt s i ≤ 126)
def lenK (s : ByteArray) : Bool := decide (1 ≤ s.size) && decide (s.size ≤ 48)
def keyB (s : ByteArray) : Bool := allF (okK s) s.size 0 && lenK s
theorem key_loop (s : ByteArray) (hs : s.size ≤ 9223372036854775807) : ∀ (d : Nat) (i : Int), 0 ≤ i → i + d = (s.size : Int) → Ev (fun k => collect_key.l0 k s (s.size : Int) i) (allF (okK s) d i && lenK s)
  | 0, i, h0, h => by
    apply Ev.up
    simp only [collect_key.l0]
    refine Ev.neg (by omega) (Ev.ite (fun h1 => Ev.ret ?_) (fun h1 => Ev.ret ?_))
    · have h2 : 1 ≤ s.size := by omega
      by_cases h3 : s.size ≤ 48
      · simp [allF, lenK, h2, h3]; omega
      · simp [allF, lenK, h2, h3]; omega
    · have h2 : ¬ 1 ≤ s.size := by omega
      simp [allF, lenK, h2]
  | d + 1, i, h0, h => by
    have ih := key_loop s hs d (i + 1) (by omega) (by omega)
    have hw : wrap64 (i + 1) = i + 1 := w1 (n := (s.size : Int)) (by omega) (by omega) (by omega)
    apply Ev.up
    simp only [collect_key.l0, hw]
    refine Ev.pos (by omega) (Ev.pos h0 (Ev.pos (by omega) (Ev.ite (fun h1 => Ev.ret ?_) (fun h1 => Ev.ite (fun h2 => Ev.ret ?_) (fun h2 => ?_)))))
    · simp [allF, okK, show ¬ 33 ≤ bt s i by omega]
    · simp [allF, okK, show ¬ bt s i ≤ 126 by omega]
    · simpa [allF, okK, show 33 ≤ bt s i by omega, show bt s i ≤ 126 by omega] using ih
theorem key_ev (s : ByteArray) (hs : s.size ≤ 9223372036854775807) : Ev (fun k => collect_key.f k s) (keyB s) := key_loop s hs s.size 0 (by omega) (by omega)
def amtB (a : Int) : Bool := decide (1 ≤ a) && decide (a ≤ 1000000000000)
theorem amount_eq (a : Int) : collect_amount.f a = some (amtB a) := by
  unfold collect_amount.f amtB
  by_cases h : a ≥ 1 <;> simp [h]
def fitsB (x : S36) : Bool := (collect_fits.f x.f0 x.f1 x.f2 x.f3 x.f4 x.f5 x.f6 x.f7 x.f8).getD false
theorem fits_eq (x : S36) : collect_fits.f x.f0 x.f1 x.f2 x.f3 x.f4 x.f5 x.f6 x.f7 x.f8 = some (fitsB x) := by
  have h : ∃ r, collect_fits.f x.f0 x.f1 x.f2 x.f3 x.f4 x.f5 x.f6 x.f7 x.f8 = some r := by
    unfold collect_fits.f collect_presented.f collect_Window.f
    simp only [date_eq, Option.bind_some]
    (repeat' split) <;> exact ⟨_, rfl⟩
  obtain ⟨r, h⟩ := h
  rw [fitsB, h]; rfl
def shapeB (x : S36) : Bool := decide (1 ≤ x.f0) && (decide (1 ≤ x.f1) && (amtB x.f2 && (dayB x.f3 && (keyB x.f8 && fitsB x))))
def keyIn (l : List S36) (s : ByteArray) : Bool := l.any fun d => d.f8.data.toList == s.data.toList
def elemR (l : List S36) (i : Int) : Int :=
  if shapeB (rd_T36 l i) = true then (if 0 < i ∧ (rd_T36 l i).f0 ≤ (rd_T36 l (i - 1)).f0 then 10 else if keyIn (l.take i.toNat) (rd_T36 l i).f8 = true then 12 else 0) else 1
def chkR : Nat → List S36 → Int → Int
  | 0, _, _ => 0
  | d + 1, l, i => if elemR l i = 0 then chkR d l (i + 1) else elemR l i
theorem rd_mem (l : List S36) (i : Int) (h0 : 0 ≤ i) (h1 : i < (l.length : Int)) : rd_T36 l i ∈ l := by
  unfold rd_T36
  rw [getD_at _ _ _ (by omega)]
  exact List.getElem_mem _
theorem size_of (l : List S36) (g : GL36 l) (i : Int) (h0 : 0 ≤ i) (h1 : i < (l.length : Int)) : (rd_T36 l i).f8.size ≤ 9223372036854775807 := (g.2 _ (rd_mem l i h0 h1)).2.2.2.2.2.2.2.2
theorem key_size {x : S36} (h : shapeB x = true) : x.f8.size ≤ 48 := by
  simp only [shapeB, keyB, lenK, Bool.and_eq_true, decide_eq_true_eq] at h
  exact h.2.2.2.2.1.2.2
theorem chk_loop (l : List S36) (g : GL36 l) : ∀ (d : Nat) (i : Int), 0 ≤ i → i + d = (l.length : Int) → Ev (fun k => collect_Check.l0 k l l (l.length : Int) i) (chkR d l i)
  | 0, i, h0, h => by
    apply Ev.up
    simp only [collect_Check.l0]
    exact Ev.neg (by omega) (Ev.ret rfl)
  | d + 1, i, h0, h => by
    have hl := g.1
    have hi : i < (l.length : Int) := by omega
    have hw : wrap64 (i + 1) = i + 1 := w1 (n := (l.length : Int)) (by omega) (by omega) (by omega)
    have hwm : wrap64 (i - 1) = i - 1 := wm1 (by omega) (by omega)
    have ih := chk_loop l g d (i + 1) (by omega) (by omega)
    have hj : ∀ b : Bool, b = !shapeB (rd_T36 l i) → Ev (fun k => collect_Check.j1 k l i l (l.length : Int) i b (rd_T36 l i).f0 (rd_T36 l i).f1 (rd_T36 l i).f2 (rd_T36 l i).f3 (rd_T36 l i).f4 (rd_T36 l i).f5 (rd_T36 l i).f6 (rd_T36 l i).f7 (rd_T36 l i).f8) (chkR (d + 1) l i) := by
      intro b hb
      apply Ev.up
      simp only [collect_Check.j1, hwm]
      cases hs : shapeB (rd_T36 l i) with
      | false =>
        rw [hs] at hb; subst hb
        exact Ev.pos rfl (Ev.ret (by simp [chkR, elemR, hs]))
      | true =>
        rw [hs] at hb; subst hb
        have hj2 : ∀ b : Bool, (b = true ↔ (0 < i ∧ (rd_T36 l i).f0 ≤ (rd_T36 l (i - 1)).f0)) → Ev (fun k => collect_Check.j2 k l l (l.length : Int) i b (rd_T36 l i).f0 (rd_T36 l i).f1 (rd_T36 l i).f2 (rd_T36 l i).f3 (rd_T36 l i).f4 (rd_T36 l i).f5 (rd_T36 l i).f6 (rd_T36 l i).f7 (rd_T36 l i).f8) (chkR (d + 1) l i) := by
          intro b hb
          apply Ev.up
          simp only [collect_Check.j2, hw]
          cases b with
          | true => exact Ev.pos rfl (Ev.ret (by simp [chkR, elemR, hs, hb.1 rfl]))
          | false =>
            have hn : ¬ (0 < i ∧ (rd_T36 l i).f0 ≤ (rd_T36 l (i - 1)).f0) := fun h => by have := hb.2 h; cases this
            have e : collect_seen.f l i (rd_T36 l i).f8 = some (keyIn (l.take i.toNat) (rd_T36 l i).f8) := by
              unfold collect_seen.f
              rw [if_pos (key_size hs)]; rfl
            refine Ev.neg (by decide) (Ev.now_ e (Ev.ite (fun h5 => Ev.ret ?_) (fun h5 => ?_)))
            · rw [chkR, elemR, if_pos hs, if_neg hn, if_pos h5]; rfl
            · rw [chkR, elemR, if_pos hs, if_neg hn, if_neg h5, if_pos rfl]; exact ih
        refine Ev.neg (by decide) (Ev.ite (fun h1 => Ev.pos (by omega) (Ev.pos (by omega) (hj2 _ ?_))) (fun h1 => hj2 _ ?_))
        · rw [decide_eq_true_eq]; exact ⟨fun h => ⟨h1, h⟩, fun h => h.2⟩
        · exact ⟨(fun h => by cases h), (fun h => absurd h.1 h1)⟩
    apply Ev.up
    simp only [collect_Check.l0]
    refine Ev.pos hi (Ev.pos h0 (Ev.pos hi (Ev.ite (fun h1 => hj true ?_) (fun h1 => Ev.ite (fun h2 => hj true ?_) (fun h2 => Ev.now_ (amount_eq _) (Ev.ite (fun h3 => Ev.now_ (date_eq _) (Ev.ite (fun h4 => Ev.bnd (key_ev _ (size_of l g i h0 hi)) (Ev.ite (fun h5 => Ev.now_ (fits_eq _) (hj _ ?_)) (fun h5 => hj true ?_))) (fun h4 => hj true ?_))) (fun h3 => hj true ?_)))))))
    · simp [shapeB, show ¬ 1 ≤ (rd_T36 l i).f0 by omega]
    · simp [shapeB, show ¬ 1 ≤ (rd_T36 l i).f1 by omega]
    · simp [shapeB, h3, h4, h5, show 1 ≤ (rd_T36 l i).f0 by omega, show 1 ≤ (rd_T36 l i).f1 by omega]
    · simp at h5; simp [shapeB, h5]
    · simp at h4; simp [shapeB, h4]
    · simp at h3; simp [shapeB, h3]
def chkV (l : List S36) : Int := if (l.length : Int) > 64 then 5 else chkR l.length l 0
theorem chk_ev (l : List S36) (g : GL36 l) : Ev (fun k => collect_Check.f k l) (chkV l) := by
  simp only [collect_Check.f, chkV]
  refine Ev.ite (fun h => ?_) (fun h => ?_)
  · rw [if_pos h]; exact Ev.ret rfl
  · rw [if_neg h]; exact chk_loop l g l.length 0 (by omega) (by omega)
def dueF (day : Int) (x : S36) : Bool := decide (x.f7 = 1) && decide (x.f3 ≤ day)
theorem due_loop (l : List S36) (day : Int) (hl : l.length ≤ 100) : ∀ (d : Nat) (i : Int) (acc : List S36), 0 ≤ i → i + d = (l.length : Int) → acc.length ≤ i.toNat → Ev (fun k => collect_Due.l0 k day acc l (l.length : Int) i) (acc ++ (l.drop i.toNat).filter (dueF day))
  | 0, i, acc, h0, h, ha => by
    apply Ev.up
    simp only [collect_Due.l0]
    exact Ev.neg (by omega) (Ev.ret (by rw [List.drop_eq_nil_of_le (by omega)]; simp))
  | d + 1, i, acc, h0, h, ha => by
    have hw : wrap64 (i + 1) = i + 1 := w1 (n := (l.length : Int)) (by omega) (by omega) (by omega)
    have e : rd_T36 l i = l[i.toNat]'(by omega) := by unfold rd_T36; exact getD_at _ _ _ (by omega)
    have e2 : l.drop i.toNat = rd_T36 l i :: l.drop (i + 1).toNat := by rw [List.drop_eq_getElem_cons (by omega), e, show (i + 1).toNat = i.toNat + 1 by omega]
    rw [e2]
    apply Ev.up
    simp only [collect_Due.l0, hw]
    refine Ev.pos (by omega) (Ev.pos h0 (Ev.pos (by omega) (Ev.ite (fun h1 => Ev.ite (fun h2 => Ev.pos (by omega) ?_) (fun h2 => ?_)) (fun h1 => ?_))))
    · have := due_loop l day hl d (i + 1) (acc ++ [rd_T36 l i]) (by omega) (by omega) (by simp; omega)
      rw [List.filter_cons_of_pos (by simp [dueF, h1, h2])]
      rw [List.append_assoc] at this
      exact this
    · have := due_loop l day hl d (i + 1) acc (by omega) (by omega) (by omega)
      simpa [dueF, h1, h2] using this
    · have := due_loop l day hl d (i + 1) acc (by omega) (by omega) (by omega)
      simpa [dueF, h1] using this
theorem due_ev (l : List S36) (day : Int) (hl : l.length ≤ 100) : Ev (fun k => collect_Due.f k l day) (l.filter (dueF day)) :=
  due_loop l day hl l.length 0 [] (by omega) (by omega) (by simp)
def idm (l : List S53) (id : Int) : Int := idxP (fun x : S53 => x.f0 == id) l
theorem idm_range (l : List S53) (id : Int) : idm l id = -1 ∨ (0 ≤ idm l id ∧ idm l id < (l.length : Int)) := idxP_range _ l
theorem rdm_nat (l : List S53) (i : Int) (j : Nat) (h : (j : Int) = i) : rd_T53 l i = l.getD j z53 := by
  subst h; rfl
def findV (l : List S53) (id : Int) : Int × Bool := if idm l id < 0 then (0, false) else (idm l id, true)
theorem find_loop (l : List S53) (id : Int) (hl : l.length ≤ 9223372036854775807) : ∀ (d : Nat) (i : Int), 0 ≤ i → i + d = (l.length : Int) → (∀ j : Nat, (j : Int) < i → (l.getD j z53).f0 ≠ id) →
    Ev (fun k => mandate_first.l0 k id l (l.length : Int) i) (findV l id)
  | 0, i, h0, h, hb => by
    apply Ev.up
    simp only [mandate_first.l0]
    have e : idm l id = -1 := idxP_miss _ l z53 i (by omega) (fun j hj => by simpa using hb j hj)
    exact Ev.neg (by omega) (Ev.ret (by rw [findV, e]; rfl))
  | d + 1, i, h0, h, hb => by
    have hw : wrap64 (i + 1) = i + 1 := w1 (n := (l.length : Int)) (by omega) (by omega) (by omega)
    apply Ev.up
    simp only [mandate_first.l0, hw, mandate_findc.f, Option.bind_some]
    refine Ev.pos (by omega) (Ev.pos h0 (Ev.pos (by omega) (Ev.ite (fun h1 => ?_) (fun h1 => ?_))))
    · have e : idm l id = i := idxP_hit _ l z53 i h0 (by omega) (fun j hj => by simpa using hb j hj) h1
      exact Ev.ret (by rw [findV, e, if_neg (by omega)])
    · refine find_loop l id hl d (i + 1) (by omega) (by omega) (fun j hj => ?_)
      by_cases e : (j : Int) = i
      · rw [← rdm_nat l i j e]; simpa using h1
      · exact hb j (by omega)
theorem find_ev (l : List S53) (id : Int) (hl : l.length ≤ 9223372036854775807) : Ev (fun k => mandate_find.f k l id) (findV l id) :=
  find_loop l id hl l.length 0 (by omega) (by omega) (fun j hj => by omega)
def lastD (x : S53) : Int := if x.f4 = 0 then x.f3 else x.f4
def expB (x : S53) (day : Int) : Bool := decide (day > lastD x) && decide (IntKind.u64.wrap (IntKind.u64.wrap day - IntKind.u64.wrap (lastD x)) > 1096)
theorem u1096 : IntKind.u64.wrap 1096 = 1096 := by simp [IntKind.wrap, IntKind.bits, IntKind.signed]
theorem expired_eq (x : S53) (day : Int) : mandate_Expired.f x.f0 x.f1 x.f2 x.f3 x.f4 x.f5 x.f6 day = some (expB x day) := by
  unfold mandate_Expired.f mandate_more.f expB lastD
  rw [u1096]
  by_cases h : x.f4 = 0
  · rw [if_pos h, if_pos h]
    by_cases h2 : day > x.f3 <;> simp [h2]
  · rw [if_neg h, if_neg h]
    by_cases h2 : day > x.f4 <;> simp [h2]
def stateB (x : S53) (day : Int) : Bool := (!decide (x.f5 = 0) && decide (x.f5 ≤ day)) || decide (x.f3 > day)
def allowM (x : S53) (amt day : Int) : Int := if stateB x day = true then 17 else if expB x day = true then 23 else if x.f2 = 0 then 0 else if amt > x.f2 then 18 else 0
def allowV (l : List S53) (id amt day : Int) : Int := if idm l id < 0 then 11 else allowM (rd_T53 l (idm l id)) amt day
theorem allow_j (x : S53) (amt day : Int) (b : Bool) (hb : b = stateB x day) : Ev (fun k => mandate_Allows.j0 k amt day b x.f0 x.f1 x.f2 x.f3 x.f4 x.f5 x.f6) (allowM x amt day) := by
  apply Ev.up
  simp only [mandate_Allows.j0, expired_eq, Option.bind_some]
  unfold allowM
  rw [hb]
  exact Ev.const (by (repeat' split) <;> first | rfl | contradiction)
theorem allows_ev (l : List S53) (id amt day : Int) (hl : l.length ≤ 9223372036854775807) : Ev (fun k => mandate_Allows.f k l id amt day) (allowV l id amt day) := by
  have hr := idm_range l id
  simp only [mandate_Allows.f]
  refine Ev.bnd (find_ev l id hl) ?_
  unfold findV allowV
  by_cases h : idm l id < 0
  · simp only [if_pos h]
    exact Ev.neg (by simp) (Ev.ret rfl)
  · simp only [if_neg h]
    refine Ev.pos (by simp) (Ev.pos (by omega) (Ev.pos (by omega) (Ev.ite (fun h1 => ?_) (fun h1 => Ev.ite (fun h2 => ?_) (fun h2 => ?_)))))
    · exact allow_j _ amt day _ (by simp [stateB, h1])
    · exact allow_j _ amt day _ (by simp [stateB, h1, h2])
    · exact allow_j _ amt day _ (by simp [stateB, h1, h2])
def hasId (l : List S36) (b : Int) : Bool := l.any fun d => decide (d.f0 ≥ b)
theorem idxP_any (q : S36 → Bool) (l : List S36) : decide (idxP q l ≥ 0) = l.any q := by
  cases h : l.findIdx? q with
  | none =>
    have e : idxP q l = -1 := by simp only [idxP, h]
    rw [e]
    rw [List.findIdx?_eq_none_iff] at h
    have : l.any q = false := by
      rw [Bool.eq_false_iff]; intro ha
      rw [List.any_eq_true] at ha
      obtain ⟨x, hx, hq⟩ := ha
      rw [h x hx] at hq; cases hq
    rw [this]; decide
  | some i =>
    have e : idxP q l = (i : Int) := by simp only [idxP, h]
    rw [e]
    rw [List.findIdx?_eq_some_iff_getElem] at h
    obtain ⟨h1, h2, _⟩ := h
    have : l.any q = true := List.any_eq_true.2 ⟨_, List.getElem_mem h1, h2⟩
    rw [this]; exact decide_eq_true (by omega)
theorem hasid_loop (l : List S36) (b : Int) (hl : l.length ≤ 9223372036854775807) : ∀ (d : Nat) (i : Int), 0 ≤ i → i + d = (l.length : Int) → (∀ j : Nat, (j : Int) < i → decide ((l.getD j z36).f0 ≥ b) = false) →
    Ev (fun k => collect_hasid_i_loop.l0 k l b (l.length : Int) i) (idxP (fun x : S36 => decide (x.f0 ≥ b)) l)
  | 0, i, h0, h, hb => by
    apply Ev.up
    simp only [collect_hasid_i_loop.l0]
    exact Ev.neg (by omega) (Ev.ret (idxP_miss _ l z36 i (by omega) hb).symm)
  | d + 1, i, h0, h, hb => by
    have hw : wrap64 (i + 1) = i + 1 := w1 (n := (l.length : Int)) (by omega) (by omega) (by omega)
    apply Ev.up
    simp only [collect_hasid_i_loop.l0, hw, collect_hasid_i_c.f, Option.bind_some]
    refine Ev.pos (by omega) (Ev.pos h0 (Ev.pos (by omega) (Ev.ite (fun h1 => ?_) (fun h1 => ?_))))
    · exact Ev.ret (idxP_hit _ l z36 i h0 (by omega) hb h1).symm
    · refine hasid_loop l b hl d (i + 1) (by omega) (by omega) (fun j hj => ?_)
      by_cases e : (j : Int) = i
      · rw [← rd_nat l i j e]; exact Bool.eq_false_iff.2 h1
      · exact hb j (by omega)
theorem hasid_ev (l : List S36) (b : Int) (hl : l.length ≤ 9223372036854775807) : Ev (fun k => collect_hasid.f k l b) (hasId l b) := by
  simp only [collect_hasid.f, collect_hasid_i_loop.f]
  exact Ev.bnd (hasid_loop l b hl l.length 0 (by omega) (by omega) (fun j hj => by omega)) (Ev.ret (idxP_any _ l))
theorem haskey_loop (l : List S36) (s : ByteArray) (hl : l.length ≤ 9223372036854775807) : ∀ (d : Nat) (i : Int), 0 ≤ i → i + d = (l.length : Int) → (∀ j : Nat, (j : Int) < i → ((l.getD j z36).f8.toList == s.toList) = false) →
    Ev (fun k => collect_haskey_i_loop.l0 k l s (l.length : Int) i) (idxP (fun x : S36 => x.f8.toList == s.toList) l)
  | 0, i, h0, h, hb => by
    apply Ev.up
    simp only [collect_haskey_i_loop.l0]
    exact Ev.neg (by omega) (Ev.ret (idxP_miss _ l z36 i (by omega) hb).symm)
  | d + 1, i, h0, h, hb => by
    have hw : wrap64 (i + 1) = i + 1 := w1 (n := (l.length : Int)) (by omega) (by omega) (by omega)
    apply Ev.up
    simp only [collect_haskey_i_loop.l0, hw, collect_haskey_i_c.f, Option.bind_some]
    refine Ev.pos (by omega) (Ev.pos h0 (Ev.pos (by omega) (Ev.ite (fun h1 => ?_) (fun h1 => ?_))))
    · exact Ev.ret (idxP_hit _ l z36 i h0 (by omega) hb h1).symm
    · refine haskey_loop l s hl d (i + 1) (by omega) (by omega) (fun j hj => ?_)
      by_cases e : (j : Int) = i
      · rw [← rd_nat l i j e]; exact Bool.eq_false_iff.2 h1
      · exact hb j (by omega)
theorem haskey_ev (l : List S36) (s : ByteArray) (hl : l.length ≤ 9223372036854775807) : Ev (fun k => collect_haskey.f k l s) (keyIn l s) := by
  simp only [collect_haskey.f, collect_haskey_i_loop.f]
  refine Ev.bnd (haskey_loop l s hl l.length 0 (by omega) (by omega) (fun j hj => by omega)) (Ev.ret ?_)
  rw [idxP_any]
  unfold keyIn
  congr 1
  funext d
  rw [ByteArray.toList_eq, ByteArray.toList_eq]
def presB (x : S36) : Bool := decide (x.f7 = 1) && (decide (x.f4 = 0) && (decide (x.f5 = 0) && decide (x.f6 = 0)))
def takeB (x : S36) (day : Int) : Bool := decide (1 ≤ x.f0) && (amtB x.f2 && (dayB x.f3 && (dayB day && (presB x && keyB x.f8))))
def presV (l : List S36) (m : List S53) (x : S36) (day : Int) : List S36 × Int :=
  if takeB x day = true then (if hasId l x.f0 = true then ([], 10) else if keyIn l x.f8 = true then ([], 12) else
    if allowV m x.f1 x.f2 x.f3 = 0 then (if x.f3 < day then ([], 23) else if (l.length : Int) ≥ 64 then ([], 5) else (l ++ [x], 0)) else ([], allowV m x.f1 x.f2 x.f3)) else ([], 1)
theorem presented_eq (x : S36) : collect_presented.f x.f0 x.f1 x.f2 x.f3 x.f4 x.f5 x.f6 x.f7 x.f8 = some (presB x) := by
  unfold collect_presented.f presB
  by_cases h1 : x.f7 = 1 <;> by_cases h2 : x.f4 = 0 <;> by_cases h3 : x.f5 = 0 <;> simp [h1, h2, h3] <;> rfl
theorem present_ev (l : List S36) (m : List S53) (x : S36) (day : Int) (hl : l.length ≤ 100) (hm : m.length ≤ 100) (hs : x.f8.size ≤ 9223372036854775807) :
    Ev (fun k => collect_Present.f k l m x.f0 x.f1 x.f2 x.f3 x.f4 x.f5 x.f6 x.f7 x.f8 day) (presV l m x day) := by
  have hj : ∀ b : Bool, b = !takeB x day → Ev (fun k => collect_Present.j0 k l m day b x.f0 x.f1 x.f2 x.f3 x.f4 x.f5 x.f6 x.f7 x.f8) (presV l m x day) := by
    intro b hb
    apply Ev.up
    simp only [collect_Present.j0]
    cases ht : takeB x day with
    | false =>
      rw [ht] at hb; subst hb
      exact Ev.pos rfl (Ev.ret (by simp [presV, ht]))
    | true =>
      rw [ht] at hb; subst hb
      refine Ev.neg (by decide) (Ev.bnd (hasid_ev l _ (by omega)) (Ev.ite (fun h1 => Ev.ret ?_) (fun h1 => Ev.bnd (haskey_ev l _ (by omega)) (Ev.ite (fun h2 => Ev.ret ?_) (fun h2 => Ev.bnd (allows_ev m _ _ _ (by omega)) (Ev.ite (fun h3 => Ev.ite (fun h4 => Ev.ret ?_) (fun h4 => Ev.ite (fun h5 => Ev.ret ?_) (fun h5 => Ev.now_ (clone_eq l hl) (Ev.now_ (g := some _) rfl (Ev.pos (by simp; omega) (Ev.ret ?_)))))) (fun h3 => Ev.ret ?_)))))))
      · rw [presV, if_pos ht, if_pos h1]
      · rw [presV, if_pos ht, if_neg h1, if_pos h2]
      · rw [presV, if_pos ht, if_neg h1, if_neg h2, if_pos h3, if_pos h4]
      · rw [presV, if_pos ht, if_neg h1, if_neg h2, if_pos h3, if_neg h4, if_pos h5]
      · rw [presV, if_pos ht, if_neg h1, if_neg h2, if_pos h3, if_neg h4, if_neg h5]
      · rw [presV, if_pos ht, if_neg h1, if_neg h2, if_neg h3]
  simp only [collect_Present.f]
  refine Ev.ite (fun h1 => hj true ?_) (fun h1 => Ev.now_ (amount_eq _) (Ev.ite (fun h2 => Ev.now_ (date_eq _) (Ev.ite (fun h3 => Ev.now_ (date_eq _) (Ev.ite (fun h4 => Ev.now_ (presented_eq x) (Ev.ite (fun h5 => Ev.bnd (key_ev _ hs) (hj _ ?_)) (fun h5 => hj true ?_))) (fun h4 => hj true ?_))) (fun h3 => hj true ?_))) (fun h2 => hj true ?_)))
  · simp [takeB, show ¬ 1 ≤ x.f0 by omega]
  · simp [takeB, show 1 ≤ x.f0 by omega, h2, h3, h4, h5]
  · simp at h5; simp [takeB, h5]
  · simp at h4; simp [takeB, h4]
  · simp at h3; simp [takeB, h3]
  · simp at h2; simp [takeB, h2]
theorem fits_pres (x : S36) (h : x.f7 = 1) : fitsB x = presB x := by
  have e := fits_eq x
  unfold collect_fits.f at e
  rw [if_pos h, presented_eq] at e
  exact (Option.some.inj e).symm
theorem chkR_zero (l : List S36) : ∀ (d : Nat) (i : Int), chkR d l i = 0 ↔ ∀ j, i ≤ j → j < i + d → elemR l j = 0
  | 0, i => by simp only [chkR]; exact ⟨fun _ j h1 h2 => by omega, fun _ => trivial⟩
  | d + 1, i => by
    simp only [chkR]
    by_cases h : elemR l i = 0
    · rw [if_pos h, chkR_zero l d (i + 1)]
      constructor
      · intro H j h1 h2
        by_cases e : j = i
        · subst e; exact h
        · exact H j (by omega) (by omega)
      · intro H j h1 h2
        exact H j (by omega) (by omega)
    · rw [if_neg h]
      constructor
      · intro h2; exact absurd h2 h
      · intro H; exact absurd (H i (by omega) (by omega)) h
theorem chkV_zero (l : List S36) : chkV l = 0 ↔ ((l.length : Int) ≤ 64 ∧ ∀ j, 0 ≤ j → j < (l.length : Int) → elemR l j = 0) := by
  unfold chkV
  by_cases h : (l.length : Int) > 64
  · rw [if_pos h]
    constructor
    · intro h2; cases h2
    · intro h2; omega
  · rw [if_neg h, chkR_zero]
    constructor
    · intro H; exact ⟨by omega, fun j h1 h2 => H j h1 (by omega)⟩
    · intro H j h1 h2; exact H.2 j h1 (by omega)
theorem elemR_zero (l : List S36) (j : Int) : elemR l j = 0 ↔ (shapeB (rd_T36 l j) = true ∧ ¬ (0 < j ∧ (rd_T36 l j).f0 ≤ (rd_T36 l (j - 1)).f0) ∧ keyIn (l.take j.toNat) (rd_T36 l j).f8 = false) := by
  unfold elemR
  by_cases h1 : shapeB (rd_T36 l j) = true
  · rw [if_pos h1]
    by_cases h2 : 0 < j ∧ (rd_T36 l j).f0 ≤ (rd_T36 l (j - 1)).f0
    · rw [if_pos h2]
      exact ⟨fun h => (by cases h), fun h => absurd h2 h.2.1⟩
    · rw [if_neg h2]
      by_cases h3 : keyIn (l.take j.toNat) (rd_T36 l j).f8 = true
      · rw [if_pos h3]
        exact ⟨fun h => (by cases h), fun h => by rw [h3] at h; cases h.2.2⟩
      · rw [if_neg h3]
        exact ⟨fun _ => ⟨h1, h2, Bool.eq_false_iff.2 h3⟩, fun _ => rfl⟩
  · rw [if_neg h1]
    exact ⟨fun h => (by cases h), fun h => absurd h.1 h1⟩
theorem rd_app_lt (l : List S36) (d : S36) (j : Int) (h0 : 0 ≤ j) (h1 : j < (l.length : Int)) : rd_T36 (l ++ [d]) j = rd_T36 l j := by
  unfold rd_T36
  rw [getD_at _ _ _ (by simp; omega), getD_at _ _ _ (by omega), List.getElem_append_left]
theorem rd_app_eq (l : List S36) (d : S36) : rd_T36 (l ++ [d]) (l.length : Int) = d := by
  unfold rd_T36
  rw [getD_at _ _ _ (by simp)]
  simp
theorem pres_ok (l : List S36) (m : List S53) (x : S36) (day : Int) : ((presV l m x day).2 ≠ 0 ∧ (presV l m x day).1 = []) ∨
    (takeB x day = true ∧ hasId l x.f0 = false ∧ keyIn l x.f8 = false ∧ allowV m x.f1 x.f2 x.f3 = 0 ∧ day ≤ x.f3 ∧ (l.length : Int) < 64 ∧ presV l m x day = (l ++ [x], 0)) := by
  unfold presV
  by_cases h1 : takeB x day = true
  · rw [if_pos h1]
    by_cases h2 : hasId l x.f0 = true
    · rw [if_pos h2]; exact Or.inl ⟨by decide, rfl⟩
    · rw [if_neg h2]
      by_cases h3 : keyIn l x.f8 = true
      · rw [if_pos h3]; exact Or.inl ⟨by decide, rfl⟩
      · rw [if_neg h3]
        by_cases h4 : allowV m x.f1 x.f2 x.f3 = 0
        · rw [if_pos h4]
          by_cases h5 : x.f3 < day
          · rw [if_pos h5]; exact Or.inl ⟨by decide, rfl⟩
          · rw [if_neg h5]
            by_cases h6 : (l.length : Int) ≥ 64
            · rw [if_pos h6]; exact Or.inl ⟨by decide, rfl⟩
            · rw [if_neg h6]
              exact Or.inr ⟨h1, Bool.eq_false_iff.2 h2, Bool.eq_false_iff.2 h3, h4, by omega, by omega, rfl⟩
        · rw [if_neg h4]; exact Or.inl ⟨h4, rfl⟩
  · rw [if_neg h1]; exact Or.inl ⟨by decide, rfl⟩
theorem take_shape (x : S36) (day : Int) (h : takeB x day = true) (h1 : 1 ≤ x.f1) : shapeB x = true := by
  simp only [takeB, Bool.and_eq_true, decide_eq_true_eq] at h
  obtain ⟨a, b, c, d, e, f⟩ := h
  have h7 : x.f7 = 1 := by
    simp only [presB, Bool.and_eq_true, decide_eq_true_eq] at e
    exact e.1
  simp only [shapeB, Bool.and_eq_true, decide_eq_true_eq]
  exact ⟨a, h1, b, c, f, by rw [fits_pres x h7]; exact e⟩
theorem chk_app (l : List S36) (x : S36) (h : chkV l = 0) (hl : (l.length : Int) < 64) (hs : shapeB x = true) (hi : hasId l x.f0 = false) (hk : keyIn l x.f8 = false) : chkV (l ++ [x]) = 0 := by
  rw [chkV_zero] at h ⊢
  obtain ⟨ha, hb⟩ := h
  have hlen : ((l ++ [x]).length : Int) = (l.length : Int) + 1 := by simp
  rw [hlen]
  refine ⟨by omega, fun j h0 h1 => ?_⟩
  rw [elemR_zero]
  by_cases e : j = (l.length : Int)
  · subst e
    rw [rd_app_eq]
    refine ⟨hs, fun hc => ?_, ?_⟩
    · rw [rd_app_lt l x _ (by omega) (by omega)] at hc
      have hm := rd_mem l ((l.length : Int) - 1) (by omega) (by omega)
      have : hasId l x.f0 = true := List.any_eq_true.2 ⟨_, hm, decide_eq_true hc.2⟩
      rw [this] at hi; cases hi
    · rw [show (l ++ [x]).take (l.length : Int).toNat = l by simp]
      exact hk
  · have hj : j < (l.length : Int) := by omega
    obtain ⟨e1, e2, e3⟩ := (elemR_zero l j).1 (hb j h0 hj)
    rw [rd_app_lt l x j h0 hj]
    refine ⟨e1, fun hc => ?_, ?_⟩
    · rw [rd_app_lt l x _ (by omega) (by omega)] at hc
      exact e2 hc
    · rw [List.take_append_of_le_length (by omega)]
      exact e3
theorem due_app (l : List S36) (x : S36) (h7 : x.f7 = 1) : (l ++ [x]).filter (dueF x.f3) = l.filter (dueF x.f3) ++ [x] := by
  rw [List.filter_append]
  congr 1
  rw [List.filter_cons_of_pos (by simp [dueF, h7])]
  rfl
theorem due_less (l : List S36) (x : S36) : ((l ++ [x]).filter (dueF (x.f3 - 1))).length ≤ (l.filter (dueF x.f3)).length := by
  rw [List.filter_append, List.filter_cons_of_neg (by simp [dueF]; omega)]
  rw [List.filter_nil, List.append_nil, ← List.countP_eq_length_filter, ← List.countP_eq_length_filter]
  refine List.countP_mono_left (fun y _ h => ?_)
  simp only [dueF, Bool.and_eq_true, decide_eq_true_eq] at h ⊢
  exact ⟨h.1, by omega⟩
end Go.Proofs.YtfdjgdjmllkdcaaDoor.X

import Derived.Test.YtfdjgdjmllkdcaaDoorEv
import Derived.Test.YtfdjgdjmllkdcaaDoorGood
import Derived.Test.YtfdjgdjmllkdcaaDoorPureLib
import Derived.Test.YtfdjgdjmllkdcaaDoorX0
import Derived.Test.YtfdjgdjmllkdcaaDoorX20
import Derived.Test.YtfdjgdjmllkdcaaDoorX21
import Derived.Test.YtfdjgdjmllkdcaaDoorX22
import Derived.Test.YtfdjgdjmllkdcaaDoorX3
import Derived.Test.YtfdjgdjmllkdcaaDoorX4
import Derived.Test.YtfdjgdjmllkdcaaDoorX5
import Derived.Test.YtfdjgdjmllkdcaaDoorX6
namespace Go.Proofs.YtfdjgdjmllkdcaaDoor.X
open Go.RowKit Go.Proofs.YtfdjgdjmllkdcaaDoorW.PrintWords Go.Proofs.YtfdjgdjmllkdcaaDoorW.PrintLast
set_option linter.unusedVariables false

def allF (p : Int → Bool) : Nat → Int → Bool
  | 0, _ => true
  | d + 1, i => p i && allF p d (i + 1)
def anyF (p : Int → Bool) : Nat → Int → Bool
  | 0, _ => false
  | d + 1, i => p i || anyF p d (i + 1)
def okK (s : ByteArray) (i : Int) : Bool := decide (33 ≤ bt s i) && decide (bt s i ≤ 126)
def lenK (s : ByteArray) : Bool := decide (1 ≤ s.size) && decide (s.size ≤ 48)
def keyB (s : ByteArray) : Bool := allF (okK s) s.size 0 && lenK s
theorem key_loop (s : ByteArray) (hs : s.size ≤ 9223372036854775807) : ∀ (d : Nat) (i : Int), 0 ≤ i → i + d = (s.size : Int) → Ev (fun k => collect_key.l0 k s (s.size : Int) i) (allF (okK s) d i && lenK s)
  | 0, i, h0, h => by
    apply Ev.up
    simp only [collect_key.l0]
    refine Ev.neg (by omega) (Ev.ite (fun h1 => Ev.ret ?_) (fun h1 => Ev.ret ?_))
    · have h2 : 1 ≤ s.size := by omega
      by_cases h3 : s.size ≤ 48
      · simp [allF, lenK, h2, h3]; omega
      · simp [allF, lenK, h2, h3]; omega
    · have h2 : ¬ 1 ≤ s.size := by omega
      simp [allF, lenK, h2]
  | d + 1, i, h0, h => by
    have ih := key_loop s hs d (i + 1) (by omega) (by omega)
    have hw : wrap64 (i + 1) = i + 1 := w1 (n := (s.size : Int)) (by omega) (by omega) (by omega)
    apply Ev.up
    simp only [collect_key.l0, hw]
    refine Ev.pos (by omega) (Ev.pos h0 (Ev.pos (by omega) (Ev.ite (fun h1 => Ev.ret ?_) (fun h1 => Ev.ite (fun h2 => Ev.ret ?_) (fun h2 => ?_)))))
    · simp [allF, okK, show ¬ 33 ≤ bt s i by omega]
    · simp [allF, okK, show ¬ bt s i ≤ 126 by omega]
    · simpa [allF, okK, show 33 ≤ bt s i by omega, show bt s i ≤ 126 by omega] using ih
theorem key_ev (s : ByteArray) (hs : s.size ≤ 9223372036854775807) : Ev (fun k => collect_key.f k s) (keyB s) := key_loop s hs s.size 0 (by omega) (by omega)
theorem rkey_loop (s : ByteArray) (hs : s.size ≤ 9223372036854775807) : ∀ (d : Nat) (i : Int), 0 ≤ i → i + d = (s.size : Int) → Ev (fun k => corebankref42_Key.l0 k s i) (allF (okK s) d i)
  | 0, i, h0, h => by
    apply Ev.up
    simp only [corebankref42_Key.l0]
    exact Ev.neg (by omega) (Ev.ret rfl)
  | d + 1, i, h0, h => by
    have ih := rkey_loop s hs d (i + 1) (by omega) (by omega)
    have hw : wrap64 (i + 1) = i + 1 := w1 (n := (s.size : Int)) (by omega) (by omega) (by omega)
    apply Ev.up
    simp only [corebankref42_Key.l0, hw]
    refine Ev.pos (by omega) (Ev.pos h0 (Ev.ite (fun h1 => Ev.ret ?_) (fun h1 => Ev.ite (fun h2 => Ev.ret ?_) (fun h2 => ?_))))
    · simp [allF, okK, show ¬ 33 ≤ bt s i by omega]
    · simp [allF, okK, show ¬ bt s i ≤ 126 by omega]
    · simpa [allF, okK, show 33 ≤ bt s i by omega, show bt s i ≤ 126 by omega] using ih
theorem empty_iff (s : ByteArray) : s.toList = [] ↔ s.size = 0 := by
  rw [← List.length_eq_zero_iff, ByteArray.toList_eq]
  have : s.data.toList.length = s.size := rfl
  omega
theorem rkey_ev (s : ByteArray) (hs : s.size ≤ 9223372036854775807) : Ev (fun k => corebankref42_Key.f k s) (keyB s) := by
  have he := empty_iff s
  have hj : ∀ b : Bool, b = !lenK s → Ev (fun k => corebankref42_Key.j0 k s b) (keyB s) := by
    intro b hb
    apply Ev.up
    simp only [corebankref42_Key.j0]
    cases h : lenK s with
    | true =>
      rw [h] at hb; subst hb
      refine Ev.neg (by decide) ?_
      have := rkey_loop s hs s.size 0 (by omega) (by omega)
      simpa [keyB, h] using this
    | false =>
      rw [h] at hb; subst hb
      exact Ev.pos rfl (Ev.ret (by simp [keyB, h]))
  simp only [corebankref42_Key.f]
  refine Ev.ite (fun h => hj _ ?_) (fun h => hj _ ?_)
  · simp [lenK, he.1 h]
  · have h1 : ¬ s.size = 0 := fun e => h (he.2 e)
    by_cases h2 : s.size ≤ 48
    · simp [lenK, h2, show 1 ≤ s.size by omega]; omega
    · simp [lenK, h2]; omega
def amtB (a : Int) : Bool := decide (1 ≤ a) && decide (a ≤ 1000000000000)
theorem amount_eq (a : Int) : collect_amount.f a = some (amtB a) := by
  unfold collect_amount.f amtB
  by_cases h : a ≥ 1 <;> simp [h]
def fitsB (x : S36) : Bool := (collect_fits.f x.f0 x.f1 x.f2 x.f3 x.f4 x.f5 x.f6 x.f7 x.f8).getD false
theorem fits_eq (x : S36) : collect_fits.f x.f0 x.f1 x.f2 x.f3 x.f4 x.f5 x.f6 x.f7 x.f8 = some (fitsB x) := by
  have h : ∃ r, collect_fits.f x.f0 x.f1 x.f2 x.f3 x.f4 x.f5 x.f6 x.f7 x.f8 = some r := by
    unfold collect_fits.f collect_presented.f collect_Window.f
    simp only [date_eq, Option.bind_some]
    (repeat' split) <;> exact ⟨_, rfl⟩
  obtain ⟨r, h⟩ := h
  rw [fitsB, h]; rfl
theorem rfits_ev (x : S36) : Ev (fun k => corebankref42_fits.f k x.f0 x.f1 x.f2 x.f3 x.f4 x.f5 x.f6 x.f7 x.f8) (fitsB x) := by
  have h := fits_eq x
  unfold collect_fits.f collect_presented.f at h
  simp only [date_eq, Option.bind_some] at h
  simp only [corebankref42_fits.f, rdate_eq, Option.bind_some]
  by_cases c1 : x.f7 = 1
  · rw [if_pos c1] at h
    refine Ev.pos c1 (Ev.const ?_)
    rw [← h]
    (repeat' split) <;> rfl
  · rw [if_neg c1] at h
    refine Ev.neg c1 ?_
    by_cases c2 : x.f7 = 2
    · rw [if_pos c2] at h
      exact Ev.pos c2 (Ev.const h)
    · rw [if_neg c2] at h
      refine Ev.neg c2 ?_
      by_cases c3 : x.f7 = 3
      · rw [if_pos c3] at h
        refine Ev.pos c3 ?_
        by_cases d1 : dayB x.f4 = true
        · rw [if_pos d1] at h
          refine Ev.pos d1 ?_
          by_cases d2 : dayB x.f5 = true
          · rw [if_pos d2] at h
            refine Ev.pos d2 ?_
            by_cases d3 : x.f6 ≥ 1
            · rw [if_pos d3] at h
              refine Ev.pos d3 ?_
              by_cases d4 : x.f6 ≤ 4
              · rw [if_pos d4] at h
                refine Ev.pos d4 ?_
                by_cases d5 : x.f5 ≥ x.f4
                · rw [if_pos d5] at h
                  exact Ev.pos d5 (Ev.bnd (ref_window_ev x.f6) (Ev.const h))
                · rw [if_neg d5] at h; exact Ev.neg d5 (Ev.const h)
              · rw [if_neg d4] at h; exact Ev.neg d4 (Ev.const h)
            · rw [if_neg d3] at h; exact Ev.neg d3 (Ev.const h)
          · rw [if_neg d2] at h; exact Ev.neg d2 (Ev.const h)
        · rw [if_neg d1] at h; exact Ev.neg d1 (Ev.const h)
      · rw [if_neg c3] at h
        exact Ev.neg c3 (Ev.const h)
def shB (x : S36) : Bool := decide (1 ≤ x.f0) && (amtB x.f2 && (dayB x.f3 && keyB x.f8))
theorem rshaped_ev (x : S36) (hs : x.f8.size ≤ 9223372036854775807) : Ev (fun k => corebankref42_shaped.f k x.f0 x.f1 x.f2 x.f3 x.f4 x.f5 x.f6 x.f7 x.f8) (shB x) := by
  simp only [corebankref42_shaped.f]
  refine Ev.ite (fun h1 => Ev.ite (fun h2 => ?_) (fun h2 => Ev.ret ?_)) (fun h1 => Ev.ret ?_)
  · have e3 : corebankref03_Valid.f x.f2 = some (amtB x.f2) := by
      unfold corebankref03_Valid.f amtB
      rw [if_pos (by omega)]
      simp [show 1 ≤ x.f2 by omega]
    refine Ev.now_ e3 (Ev.ite (fun h3 => Ev.now_ (rdate_eq _) (Ev.ite (fun h4 => Ev.bnd (rkey_ev _ hs) (Ev.ret ?_)) (fun h4 => Ev.ret ?_))) (fun h3 => Ev.ret ?_))
    · simp [shB, h3, h4, show 1 ≤ x.f0 by omega]
    · simp at h4; simp [shB, h4]
    · simp at h3; simp [shB, h3]
  · simp [shB, amtB, show ¬ 1 ≤ x.f2 by omega]
  · simp [shB, show ¬ 1 ≤ x.f0 by omega]
def shapeB (x : S36) : Bool := decide (1 ≤ x.f0) && (decide (1 ≤ x.f1) && (amtB x.f2 && (dayB x.f3 && (keyB x.f8 && fitsB x))))
def keyIn (l : List S36) (s : ByteArray) : Bool := l.any fun d => d.f8.data.toList == s.data.toList
def elemR (l : List S36) (i : Int) : Int :=
  if shapeB (rd_T36 l i) = true then (if 0 < i ∧ (rd_T36 l i).f0 ≤ (rd_T36 l (i - 1)).f0 then 10 else if keyIn (l.take i.toNat) (rd_T36 l i).f8 = true then 12 else 0) else 1
def chkR : Nat → List S36 → Int → Int
  | 0, _, _ => 0
  | d + 1, l, i => if elemR l i = 0 then chkR d l (i + 1) else elemR l i
theorem rd_mem (l : List S36) (i : Int) (h0 : 0 ≤ i) (h1 : i < (l.length : Int)) : rd_T36 l i ∈ l := by
  unfold rd_T36
  rw [getD_at _ _ _ (by omega)]
  exact List.getElem_mem _
theorem size_of (l : List S36) (g : GL36 l) (i : Int) (h0 : 0 ≤ i) (h1 : i < (l.length : Int)) : (rd_T36 l i).f8.size ≤ 9223372036854775807 := (g.2 _ (rd_mem l i h0 h1)).2.2.2.2.2.2.2.2
theorem key_size {x : S36} (h : shapeB x = true) : x.f8.size ≤ 48 := by
  simp only [shapeB, keyB, lenK, Bool.and_eq_true, decide_eq_true_eq] at h
  exact h.2.2.2.2.1.2.2
theorem chk_loop (l : List S36) (g : GL36 l) : ∀ (d : Nat) (i : Int), 0 ≤ i → i + d = (l.length : Int) → Ev (fun k => collect_Check.l0 k l l (l.length : Int) i) (chkR d l i)
  | 0, i, h0, h => by
    apply Ev.up
    simp only [collect_Check.l0]
    exact Ev.neg (by omega) (Ev.ret rfl)
  | d + 1, i, h0, h => by
    have hl := g.1
    have hi : i < (l.length : Int) := by omega
    have hw : wrap64 (i + 1) = i + 1 := w1 (n := (l.length : Int)) (by omega) (by omega) (by omega)
    have hwm : wrap64 (i - 1) = i - 1 := wm1 (by omega) (by omega)
    have ih := chk_loop l g d (i + 1) (by omega) (by omega)
    have hj : ∀ b : Bool, b = !shapeB (rd_T36 l i) → Ev (fun k => collect_Check.j1 k l i l (l.length : Int) i b (rd_T36 l i).f0 (rd_T36 l i).f1 (rd_T36 l i).f2 (rd_T36 l i).f3 (rd_T36 l i).f4 (rd_T36 l i).f5 (rd_T36 l i).f6 (rd_T36 l i).f7 (rd_T36 l i).f8) (chkR (d + 1) l i) := by
      intro b hb
      apply Ev.up
      simp only [collect_Check.j1, hwm]
      cases hs : shapeB (rd_T36 l i) with
      | false =>
        rw [hs] at hb; subst hb
        exact Ev.pos rfl (Ev.ret (by simp [chkR, elemR, hs]))
      | true =>
        rw [hs] at hb; subst hb
        have hj2 : ∀ b : Bool, (b = true ↔ (0 < i ∧ (rd_T36 l i).f0 ≤ (rd_T36 l (i - 1)).f0)) → Ev (fun k => collect_Check.j2 k l l (l.length : Int) i b (rd_T36 l i).f0 (rd_T36 l i).f1 (rd_T36 l i).f2 (rd_T36 l i).f3 (rd_T36 l i).f4 (rd_T36 l i).f5 (rd_T36 l i).f6 (rd_T36 l i).f7 (rd_T36 l i).f8) (chkR (d + 1) l i) := by
          intro b hb
          apply Ev.up
          simp only [collect_Check.j2, hw]
          cases b with
          | true => exact Ev.pos rfl (Ev.ret (by simp [chkR, elemR, hs, hb.1 rfl]))
          | false =>
            have hn : ¬ (0 < i ∧ (rd_T36 l i).f0 ≤ (rd_T36 l (i - 1)).f0) := fun h => by have := hb.2 h; cases this
            have e : collect_seen.f l i (rd_T36 l i).f8 = some (keyIn (l.take i.toNat) (rd_T36 l i).f8) := by
              unfold collect_seen.f
              rw [if_pos (key_size hs)]; rfl
            refine Ev.neg (by decide) (Ev.now_ e (Ev.ite (fun h5 => Ev.ret ?_) (fun h5 => ?_)))
            · rw [chkR, elemR, if_pos hs, if_neg hn, if_pos h5]; rfl
            · rw [chkR, elemR, if_pos hs, if_neg hn, if_neg h5, if_pos rfl]; exact ih
        refine Ev.neg (by decide) (Ev.ite (fun h1 => Ev.pos (by omega) (Ev.pos (by omega) (hj2 _ ?_))) (fun h1 => hj2 _ ?_))
        · rw [decide_eq_true_eq]; exact ⟨fun h => ⟨h1, h⟩, fun h => h.2⟩
        · exact ⟨(fun h => by cases h), (fun h => absurd h.1 h1)⟩
    apply Ev.up
    simp only [collect_Check.l0]
    refine Ev.pos hi (Ev.pos h0 (Ev.pos hi (Ev.ite (fun h1 => hj true ?_) (fun h1 => Ev.ite (fun h2 => hj true ?_) (fun h2 => Ev.now_ (amount_eq _) (Ev.ite (fun h3 => Ev.now_ (date_eq _) (Ev.ite (fun h4 => Ev.bnd (key_ev _ (size_of l g i h0 hi)) (Ev.ite (fun h5 => Ev.now_ (fits_eq _) (hj _ ?_)) (fun h5 => hj true ?_))) (fun h4 => hj true ?_))) (fun h3 => hj true ?_)))))))
    · simp [shapeB, show ¬ 1 ≤ (rd_T36 l i).f0 by omega]
    · simp [shapeB, show ¬ 1 ≤ (rd_T36 l i).f1 by omega]
    · simp [shapeB, h3, h4, h5, show 1 ≤ (rd_T36 l i).f0 by omega, show 1 ≤ (rd_T36 l i).f1 by omega]
    · simp at h5; simp [shapeB, h5]
    · simp at h4; simp [shapeB, h4]
    · simp at h3; simp [shapeB, h3]
def chkV (l : List S36) : Int := if (l.length : Int) > 64 then 5 else chkR l.length l 0
theorem chk_ev (l : List S36) (g : GL36 l) : Ev (fun k => collect_Check.f k l) (chkV l) := by
  simp only [collect_Check.f, chkV]
  refine Ev.ite (fun h => ?_) (fun h => ?_)
  · rw [if_pos h]; exact Ev.ret rfl
  · rw [if_neg h]; exact chk_loop l g l.length 0 (by omega) (by omega)
end Go.Proofs.YtfdjgdjmllkdcaaDoor.X

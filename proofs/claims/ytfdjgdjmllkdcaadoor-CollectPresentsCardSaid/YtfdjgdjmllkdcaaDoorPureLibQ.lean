import Derived.Test.YtfdjgdjmllkdcaaDoorEv
import Derived.Test.YtfdjgdjmllkdcaaDoorGood
import Derived.Test.YtfdjgdjmllkdcaaDoorPureLib
import Derived.Test.YtfdjgdjmllkdcaaDoorPureLibC
import Derived.Test.YtfdjgdjmllkdcaaDoorPureLibK
import Derived.Test.YtfdjgdjmllkdcaaDoorPureLibM
import Derived.Test.YtfdjgdjmllkdcaaDoorPureLibP
import Derived.Test.YtfdjgdjmllkdcaaDoorX0
import Derived.Test.YtfdjgdjmllkdcaaDoorX28
import Derived.Test.YtfdjgdjmllkdcaaDoorX5
namespace Go.Proofs.YtfdjgdjmllkdcaaDoor.X
open Go.RowKit Go.Proofs.YtfdjgdjmllkdcaaDoorW.PrintWords Go.Proofs.YtfdjgdjmllkdcaaDoorW.PrintLast
set_option linter.unusedVariables false

theorem fits_pres (x : S36) (h : x.f7 = 1) : fitsB x = presB x := by
  have e := fits_eq x
  unfold collect_fits.f at e
  rw [if_pos h, presented_eq] at e
  exact (Option.some.inj e).symm
theorem rpres_loop (l : List S36) (m : List S53) (x : S36) (day : Int) (hl : l.length ≤ 100) (hm : m.length ≤ 100) (ht : takeB x day = true) : ∀ (d : Nat) (i : Int), 0 ≤ i → i + d = (l.length : Int) → (∀ j : Nat, (j : Int) < i → (l.getD j z36).f0 < x.f0) →
    Ev (fun k => corebankref42_Present.l0 k l m day i x.f0 x.f1 x.f2 x.f3 x.f4 x.f5 x.f6 x.f7 x.f8) (presV l m x day)
  | 0, i, h0, h, hb => by
    apply Ev.up
    simp only [corebankref42_Present.l0]
    have h1 : hasId l x.f0 = false := by
      rw [Bool.eq_false_iff]; intro ha
      rw [hasId, List.any_eq_true] at ha
      obtain ⟨y, hy, hq⟩ := ha
      obtain ⟨j, hj, rfl⟩ := List.getElem_of_mem hy
      have := hb j (by omega)
      rw [getD_at _ _ _ hj] at this
      have := of_decide_eq_true hq
      omega
    refine Ev.neg (by omega) (Ev.bnd (known_ev l _ (by omega)) (Ev.ite (fun h2 => Ev.ret ?_) (fun h2 => Ev.bnd (ref_allows m _ _ _ (by omega)) (Ev.ite (fun h3 => Ev.ite (fun h4 => Ev.ret ?_) (fun h4 => Ev.ite (fun h5 => Ev.ret ?_) (fun h5 => Ev.now_ (g := some _) rfl (Ev.pos (by simp; omega) (Ev.now_ (g := some _) rfl (Ev.pos (by simp; omega) (Ev.ret ?_))))))) (fun h3 => Ev.ret ?_)))))
    · rw [presV, if_pos ht, if_neg (by rw [h1]; decide), if_pos h2]
    · rw [presV, if_pos ht, if_neg (by rw [h1]; decide), if_neg h2, if_pos h3, if_pos h4]
    · rw [presV, if_pos ht, if_neg (by rw [h1]; decide), if_neg h2, if_pos h3, if_neg h4, if_pos h5]
    · rw [presV, if_pos ht, if_neg (by rw [h1]; decide), if_neg h2, if_pos h3, if_neg h4, if_neg h5]; simp
    · rw [presV, if_pos ht, if_neg (by rw [h1]; decide), if_neg h2, if_neg h3]
  | d + 1, i, h0, h, hb => by
    have hw : wrap64 (i + 1) = i + 1 := w1 (n := (l.length : Int)) (by omega) (by omega) (by omega)
    apply Ev.up
    simp only [corebankref42_Present.l0, hw]
    refine Ev.pos (by omega) (Ev.pos h0 (Ev.ite (fun h1 => Ev.ret ?_) (fun h1 => ?_)))
    · have h2 : hasId l x.f0 = true := List.any_eq_true.2 ⟨_, rd_mem l i h0 (by omega), decide_eq_true h1⟩
      rw [presV, if_pos ht, if_pos h2]
    · refine rpres_loop l m x day hl hm ht d (i + 1) (by omega) (by omega) (fun j hj => ?_)
      by_cases e : (j : Int) = i
      · rw [← rd_nat l i j e]; omega
      · exact hb j (by omega)
theorem rpresent_ev (l : List S36) (m : List S53) (x : S36) (day : Int) (hl : l.length ≤ 100) (hm : m.length ≤ 100) (hs : x.f8.size ≤ 9223372036854775807) :
    Ev (fun k => corebankref42_Present.f k l m x.f0 x.f1 x.f2 x.f3 x.f4 x.f5 x.f6 x.f7 x.f8 day) (presV l m x day) := by
  have hj : ∀ b : Bool, b = !takeB x day → Ev (fun k => corebankref42_Present.j0 k l m day b x.f0 x.f1 x.f2 x.f3 x.f4 x.f5 x.f6 x.f7 x.f8) (presV l m x day) := by
    intro b hb
    apply Ev.up
    simp only [corebankref42_Present.j0]
    cases ht : takeB x day with
    | false =>
      rw [ht] at hb; subst hb
      exact Ev.pos rfl (Ev.ret (by simp [presV, ht]))
    | true =>
      rw [ht] at hb; subst hb
      exact Ev.neg (by decide) (rpres_loop l m x day hl hm ht l.length 0 (by omega) (by omega) (fun j hj => by omega))
  simp only [corebankref42_Present.f]
  refine Ev.bnd (rshaped_ev x hs) (Ev.ite (fun h1 => Ev.now_ (rdate_eq _) (Ev.ite (fun h2 => Ev.ite (fun h3 => Ev.bnd (rfits_ev x) (hj _ ?_)) (fun h3 => hj true ?_)) (fun h2 => hj true ?_))) (fun h1 => hj true ?_))
  · simp only [shB, Bool.and_eq_true] at h1
    rw [fits_pres x h3]
    simp [takeB, h1.1, h1.2.1, h1.2.2.1, h1.2.2.2, h2]
  · simp [takeB, presB, h3]
  · simp at h2; simp [takeB, h2]
  · cases ht : takeB x day with
    | false => rfl
    | true =>
      simp only [takeB, Bool.and_eq_true] at ht
      exact absurd (show shB x = true by simp only [shB, Bool.and_eq_true]; exact ⟨ht.1, ht.2.1, ht.2.2.1, ht.2.2.2.2.2⟩) h1
end Go.Proofs.YtfdjgdjmllkdcaaDoor.X

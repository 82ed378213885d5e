/- WriteoffBalances: the loss and the provision that is used add up to what was outstanding; the exposure stays, and falls by what is recovered. -/
import Derived.Test.YtbapjcafcmnhoaaDoorPureSBalances
import Derived.Test.YtbapjcafcmnhoaaDoorStmtWriteoffBalances
import Derived.Test.YtbapjcafcmnhoaaDoorX0
import Derived.Test.YtbapjcafcmnhoaaDoorX16
import Derived.Test.YtbapjcafcmnhoaaDoorX27
import Derived.Test.YtbapjcafcmnhoaaDoorX5
namespace Go.Proofs.YtbapjcafcmnhoaaDoor.Pure
open Go.RowKit Go.Proofs.YtbapjcafcmnhoaaDoor.X Go.Proofs.YtbapjcafcmnhoaaDoorW.PrintWords Go.Proofs.YtbapjcafcmnhoaaDoorW.PrintLast

theorem bal_two (m : S27) (d a o : Int) (e : Bool) (he : e = false) (h1 : m.f12.length ≤ 40) (h2 : m.f13.length ≤ 70) (hs : m.f2 = 3) (hl : m.f9 = o) (hr : m.f10 = 0) (ho : wrap64 o = o) : Ev (fun k => corebanklaw39_WriteoffBalances.j2 k d a o e m.f0 m.f1 m.f2 m.f3 m.f4 m.f5 m.f6 m.f7 m.f8 m.f9 m.f10 m.f11.f0 m.f11.f1 m.f11.f2 m.f11.f3 m.f11.f4 m.f11.f5 m.f11.f6 m.f11.f7 m.f11.f8 m.f11.f9 m.f11.f10 m.f11.f11 m.f12 m.f13) true := by
  subst he
  apply Ev.up
  simp only [corebanklaw39_WriteoffBalances.j2]
  have hz : wrap64 (m.f9 - m.f10) = o := by rw [hl, hr, Int.sub_zero, ho]
  have hj3 : Ev (fun k => (corebanklaw39_Lives.f k).bind fun t => corebanklaw39_WriteoffBalances.j3 k t) true := by
    refine Ev.bnd live_true (Ev.up ?_)
    simp only [corebanklaw39_WriteoffBalances.j3]
    exact Ev.ret rfl
  have hj4 : Ev (fun k => (corebanklaw39_Lives.f k).bind fun t => corebanklaw39_WriteoffBalances.j4 k t) true := by
    refine Ev.bnd live_true (Ev.up ?_)
    simp only [corebanklaw39_WriteoffBalances.j4]
    exact Ev.ret rfl
  refine Ev.neg (by decide) (Ev.bnd (write_zero m d (by omega)) ?_)
  dsimp only
  refine Ev.pos (by first | trivial | rfl) (Ev.ite (fun _ => live_end) (fun hm => ?_))
  rcases rec_cases m a d h1 h2 hs with ⟨c, hc, p, hw⟩ | ⟨g1, g2, p⟩
  · refine Ev.bnd p ?_
    dsimp only
    refine Ev.neg hc (Ev.pos (by first | trivial | rfl) (Ev.ite (fun _ => hj3) (fun _ => Ev.ite (fun _ => hj3) (fun _ => Ev.ite (fun _ => hj3) (fun _ => Ev.pos ?_ hj3)))))
    rw [hz] at *
    omega
  · have hk := expo_loss (recL m a) hs
    have hrec : wrap64 (m.f10 + a) = a := by
      rw [hr]
      rw [hz] at g2
      unfold wrap64 at ho ⊢
      omega
    refine Ev.bnd p ?_
    dsimp only
    refine Ev.pos (by first | trivial | rfl) (Ev.pos (by first | trivial | rfl) (Ev.pos ?_ (Ev.bnd hk (Ev.pos ?_ hj4))))
    · show wrap64 (m.f10 + a) ≤ m.f9
      rw [hrec, hl]
      rw [hz] at g2
      exact g2
    · show wrap64 (0 + wrap64 (m.f9 - wrap64 (m.f10 + a))) = wrap64 (o - a)
      rw [hrec, hl]
      unfold wrap64
      omega
theorem WriteoffBalances : corebanklaw39_WriteoffBalances.Pure := by
  intro x d a g _ _
  apply Ev.rounds
  have gd : GL43 x.f12 := g.2.2.2.2.2.2.2.2.2.2.2.2.1
  have ht : Ev (fun k => corebanklaw39_WriteoffBalances.j0 k d a true x.f0 x.f1 x.f2 x.f3 x.f4 x.f5 x.f6 x.f7 x.f8 x.f9 x.f10 x.f11.f0 x.f11.f1 x.f11.f2 x.f11.f3 x.f11.f4 x.f11.f5 x.f11.f6 x.f11.f7 x.f11.f8 x.f11.f9 x.f11.f10 x.f11.f11 x.f12 x.f13) true := by
    apply Ev.up
    simp only [corebanklaw39_WriteoffBalances.j0]
    exact Ev.pos (by first | trivial | rfl) live_end
  have hj1 : Ev (fun k => (corebanklaw39_Lives.f k).bind fun t => corebanklaw39_WriteoffBalances.j1 k t) true := by
    refine Ev.bnd live_true (Ev.up ?_)
    simp only [corebanklaw39_WriteoffBalances.j1]
    exact Ev.ret rfl
  have hj : x.f12.length ≤ 40 → x.f13.length ≤ 70 → x.f10 = 0 → ∀ b : Bool, Ev (fun k => corebanklaw39_WriteoffBalances.j0 k d a b x.f0 x.f1 x.f2 x.f3 x.f4 x.f5 x.f6 x.f7 x.f8 x.f9 x.f10 x.f11.f0 x.f11.f1 x.f11.f2 x.f11.f3 x.f11.f4 x.f11.f5 x.f11.f6 x.f11.f7 x.f11.f8 x.f11.f9 x.f11.f10 x.f11.f11 x.f12 x.f13) true := by
    intro h1 h2 h0 b
    cases b with
    | true => exact ht
    | false =>
      apply Ev.up
      simp only [corebanklaw39_WriteoffBalances.j0]
      obtain ⟨o, o1, o2, ho⟩ := outst_rng x (by omega) (rd_good _ gd)
      refine Ev.neg (by decide) ?_
      rcases write_cases x d o h1 h2 o1 with p | ⟨hs, p⟩
      · refine Ev.bnd p ?_
        dsimp only
        exact Ev.neg (by decide) (Ev.pos (by first | trivial | rfl) (Ev.bnd (same_self _ _ _ _ _ _ _ _ _ _ _ _ _ _ _ _ _ _ _ _ _ _ _ _ _ (by simp) (by simp)) (Ev.pos (by first | trivial | rfl) hj1)))
      · have ha := expo_active x o hs o1 ho
        have hm := expo_loss (wrL x o) rfl
        have hv : wrap64 (0 + wrap64 (o - x.f10)) = o := by rw [h0, Int.sub_zero, ho, Int.zero_add, ho]
        have hc : wrap64 (wrap64 (o - x.f8) + x.f8) = o := by
          unfold wrap64 at ho ⊢
          omega
        refine Ev.bnd p ?_
        dsimp only
        refine Ev.pos (by first | trivial | rfl) (Ev.bnd ha (Ev.bnd o2 (Ev.pos hc (Ev.bnd o2 (Ev.pos (by first | trivial | rfl) (Ev.bnd hm ?_))))))
        exact bal_two (wrL x o) d a o _ (by show (wrap64 (0 + wrap64 (o - x.f10)) != o) = false; rw [hv]; simp) h1 h2 rfl rfl h0 ho
  simp only [corebanklaw39_WriteoffBalances.f]
  by_cases h1 : (x.f12.length : Int) ≤ 40
  · by_cases h2 : (x.f13.length : Int) ≤ 70
    · have hf : corebanklaw39_few.f x.f0 x.f1 x.f2 x.f3 x.f4 x.f5 x.f6 x.f7 x.f8 x.f9 x.f10 x.f11.f0 x.f11.f1 x.f11.f2 x.f11.f3 x.f11.f4 x.f11.f5 x.f11.f6 x.f11.f7 x.f11.f8 x.f11.f9 x.f11.f10 x.f11.f11 x.f12 x.f13 = some true := by
        unfold corebanklaw39_few.f
        rw [if_pos h1]
        simp; omega
      obtain ⟨c, hc⟩ := check_tot x (by omega)
      exact Ev.now_ hf (Ev.pos rfl (Ev.ite (fun h0 => Ev.bnd hc (hj (by omega) (by omega) h0 _)) (fun _ => ht)))
    · have hf : corebanklaw39_few.f x.f0 x.f1 x.f2 x.f3 x.f4 x.f5 x.f6 x.f7 x.f8 x.f9 x.f10 x.f11.f0 x.f11.f1 x.f11.f2 x.f11.f3 x.f11.f4 x.f11.f5 x.f11.f6 x.f11.f7 x.f11.f8 x.f11.f9 x.f11.f10 x.f11.f11 x.f12 x.f13 = some false := by
        unfold corebanklaw39_few.f
        rw [if_pos h1]
        simp; omega
      exact Ev.now_ hf (Ev.neg (by decide) ht)
  · have hf : corebanklaw39_few.f x.f0 x.f1 x.f2 x.f3 x.f4 x.f5 x.f6 x.f7 x.f8 x.f9 x.f10 x.f11.f0 x.f11.f1 x.f11.f2 x.f11.f3 x.f11.f4 x.f11.f5 x.f11.f6 x.f11.f7 x.f11.f8 x.f11.f9 x.f11.f10 x.f11.f11 x.f12 x.f13 = some false := by
      unfold corebanklaw39_few.f
      rw [if_neg h1]
    exact Ev.now_ hf (Ev.neg (by decide) ht)
end Go.Proofs.YtbapjcafcmnhoaaDoor.Pure

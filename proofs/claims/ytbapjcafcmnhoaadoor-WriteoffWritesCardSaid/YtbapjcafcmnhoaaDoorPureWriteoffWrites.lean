/- WriteoffWrites: Write returns the specified loan, loss or error. -/
import Derived.Test.YtbapjcafcmnhoaaDoorStmtWriteoffWrites
import Derived.Test.YtbapjcafcmnhoaaDoorX22
import Derived.Test.YtbapjcafcmnhoaaDoorX5
import Derived.Test.YtbapjcafcmnhoaaDoorYtbapjcafcmnhoaaDoorPureSWrites
namespace Go.Proofs.YtbapjcafcmnhoaaDoor.Pure
open Go.RowKit Go.Proofs.YtbapjcafcmnhoaaDoor.X Go.Proofs.YtbapjcafcmnhoaaDoorW.PrintWords Go.Proofs.YtbapjcafcmnhoaaDoorW.PrintLast

theorem WriteoffWrites : corebanklaw39_WriteoffWrites.Pure := by
  intro x d g _
  apply Ev.rounds
  have gd : GL43 x.f12 := g.2.2.2.2.2.2.2.2.2.2.2.2.1
  have ht : Ev (fun k => corebanklaw39_WriteoffWrites.j0 k d true x.f0 x.f1 x.f2 x.f3 x.f4 x.f5 x.f6 x.f7 x.f8 x.f9 x.f10 x.f11.f0 x.f11.f1 x.f11.f2 x.f11.f3 x.f11.f4 x.f11.f5 x.f11.f6 x.f11.f7 x.f11.f8 x.f11.f9 x.f11.f10 x.f11.f11 x.f12 x.f13) true := by
    apply Ev.up
    simp only [corebanklaw39_WriteoffWrites.j0]
    exact Ev.pos (by first | trivial | rfl) live_end
  have hj : x.f12.length ≤ 40 → x.f13.length ≤ 70 → ∀ b : Bool, Ev (fun k => corebanklaw39_WriteoffWrites.j0 k d b x.f0 x.f1 x.f2 x.f3 x.f4 x.f5 x.f6 x.f7 x.f8 x.f9 x.f10 x.f11.f0 x.f11.f1 x.f11.f2 x.f11.f3 x.f11.f4 x.f11.f5 x.f11.f6 x.f11.f7 x.f11.f8 x.f11.f9 x.f11.f10 x.f11.f11 x.f12 x.f13) true := by
    intro h1 h2 b
    cases b with
    | true => exact ht
    | false =>
      apply Ev.up
      simp only [corebanklaw39_WriteoffWrites.j0]
      obtain ⟨r, p, q, s1, s2⟩ := write_both x d h1 h2 (rd_good _ gd)
      exact Ev.neg (by decide) (Ev.bnd p (Ev.bnd q (Ev.bnd (same_self r.1 r.2.1 r.2.2.1 r.2.2.2.1 r.2.2.2.2.1 r.2.2.2.2.2.1 r.2.2.2.2.2.2.1 r.2.2.2.2.2.2.2.1 r.2.2.2.2.2.2.2.2.1 r.2.2.2.2.2.2.2.2.2.1 r.2.2.2.2.2.2.2.2.2.2.1 r.2.2.2.2.2.2.2.2.2.2.2.1 r.2.2.2.2.2.2.2.2.2.2.2.2.1 r.2.2.2.2.2.2.2.2.2.2.2.2.2.1 r.2.2.2.2.2.2.2.2.2.2.2.2.2.2.1 r.2.2.2.2.2.2.2.2.2.2.2.2.2.2.2.1 r.2.2.2.2.2.2.2.2.2.2.2.2.2.2.2.2.1 r.2.2.2.2.2.2.2.2.2.2.2.2.2.2.2.2.2.1 r.2.2.2.2.2.2.2.2.2.2.2.2.2.2.2.2.2.2.1 r.2.2.2.2.2.2.2.2.2.2.2.2.2.2.2.2.2.2.2.1 r.2.2.2.2.2.2.2.2.2.2.2.2.2.2.2.2.2.2.2.2.1 r.2.2.2.2.2.2.2.2.2.2.2.2.2.2.2.2.2.2.2.2.2.1 r.2.2.2.2.2.2.2.2.2.2.2.2.2.2.2.2.2.2.2.2.2.2.1 r.2.2.2.2.2.2.2.2.2.2.2.2.2.2.2.2.2.2.2.2.2.2.2.1 r.2.2.2.2.2.2.2.2.2.2.2.2.2.2.2.2.2.2.2.2.2.2.2.2.1 (by omega) (by omega)) (Ev.pos rfl (Ev.pos rfl (Ev.pos rfl live_end))))))
  simp only [corebanklaw39_WriteoffWrites.f]
  by_cases h1 : (x.f12.length : Int) ≤ 40
  · by_cases h2 : (x.f13.length : Int) ≤ 70
    · have hf : corebanklaw39_few.f x.f0 x.f1 x.f2 x.f3 x.f4 x.f5 x.f6 x.f7 x.f8 x.f9 x.f10 x.f11.f0 x.f11.f1 x.f11.f2 x.f11.f3 x.f11.f4 x.f11.f5 x.f11.f6 x.f11.f7 x.f11.f8 x.f11.f9 x.f11.f10 x.f11.f11 x.f12 x.f13 = some true := by
        unfold corebanklaw39_few.f
        rw [if_pos h1]
        simp; omega
      have hj := hj (by omega) (by omega)
      obtain ⟨c, hc⟩ := check_tot x (by omega)
      exact Ev.now_ hf (Ev.pos rfl (Ev.bnd hc (hj _)))
    · have hf : corebanklaw39_few.f x.f0 x.f1 x.f2 x.f3 x.f4 x.f5 x.f6 x.f7 x.f8 x.f9 x.f10 x.f11.f0 x.f11.f1 x.f11.f2 x.f11.f3 x.f11.f4 x.f11.f5 x.f11.f6 x.f11.f7 x.f11.f8 x.f11.f9 x.f11.f10 x.f11.f11 x.f12 x.f13 = some false := by
        unfold corebanklaw39_few.f
        rw [if_pos h1]
        simp; omega
      exact Ev.now_ hf (Ev.neg (by decide) ht)
  · have hf : corebanklaw39_few.f x.f0 x.f1 x.f2 x.f3 x.f4 x.f5 x.f6 x.f7 x.f8 x.f9 x.f10 x.f11.f0 x.f11.f1 x.f11.f2 x.f11.f3 x.f11.f4 x.f11.f5 x.f11.f6 x.f11.f7 x.f11.f8 x.f11.f9 x.f11.f10 x.f11.f11 x.f12 x.f13 = some false := by
      unfold corebanklaw39_few.f
      rw [if_neg h1]
    exact Ev.now_ hf (Ev.neg (by decide) ht)
end Go.Proofs.YtbapjcafcmnhoaaDoor.Pure

/- AccessDecides: for every list of users, every right and amount, Has and Alone answer as the reference does, and half of an amount that is permitted is permitted. No condition. -/
import Derived.Test.YtclllkbngkohlaaPureLib
import Derived.Test.YtclllkbngkohlaaPureLib2
import Derived.Test.YtclllkbngkohlaaStmtAccessDecides
import Derived.Test.YtclllkbngkohlaaX0
import Derived.Test.YtclllkbngkohlaaX25
namespace Go.Proofs.Ytclllkbngkohlaa.Pure
open Go.RowKit Go.Proofs.Ytclllkbngkohlaa.X Go.Proofs.YtclllkbngkohlaaW.PrintWords Go.Proofs.YtclllkbngkohlaaW.PrintLast

theorem half (l : List S25) (s : ByteArray) (r n : Int) (h1 : -9223372036854775808 ≤ n) (h2 : n ≤ 9223372036854775807) (h : aloneV l s r n = true) : aloneV l s r (wrap64 (Int.tdiv n 2)) = true := by
  simp only [aloneV, Bool.and_eq_true, decide_eq_true_eq] at h ⊢
  obtain ⟨ha, hb, hc⟩ := h
  have e : Int.tdiv n 2 = n / 2 := Int.tdiv_eq_ediv_of_nonneg hb
  rw [e, wid (by omega) (by omega)]
  exact ⟨ha, by omega, by omega⟩
theorem decides_loop (l : List S25) (r n : Int) (hl : l.length ≤ 40) (h1 : -9223372036854775808 ≤ n) (h2 : n ≤ 9223372036854775807) : ∀ (d : Nat) (i : Int), 0 ≤ i → i + d = (l.length : Int) + 1 → Ev (fun k => corebanklaw46_AccessDecides.l0 k l r n i) true
  | 0, i, h0, h => by
    apply Ev.up
    simp only [corebanklaw46_AccessDecides.l0]
    exact Ev.neg (by omega) (Ev.bnd live_true (Ev.ret rfl))
  | d + 1, i, h0, h => by
    have ih := decides_loop l r n hl h1 h2 d (i + 1) (by omega) (by omega)
    have hw : wrap64 (i + 1) = i + 1 := w1 (n := (l.length : Int) + 1) (by omega) (by omega) (by omega)
    have hj : ∀ s : ByteArray, Ev (fun k => corebanklaw46_AccessDecides.j1 k l r n i s) true := by
      intro s
      apply Ev.up
      simp only [corebanklaw46_AccessDecides.j1, hw]
      refine Ev.now_ (alone_eq l s r n (by omega)) (Ev.now_ (has_eq l s r (by omega)) (Ev.bnd (ref_has l s r (by omega)) (Ev.neg (by simp) (Ev.bnd (ref_alone l s r n (by omega)) (Ev.neg (by simp) (Ev.ite (fun h => ?_) (fun _ => ih)))))))
      exact Ev.now_ (alone_eq l s r _ (by omega)) (Ev.pos (half l s r n h1 h2 h) ih)
    apply Ev.up
    simp only [corebanklaw46_AccessDecides.l0]
    exact Ev.pos (by omega) (Ev.ite (fun _ => Ev.pos h0 (hj _)) (fun _ => hj _))
theorem AccessDecides : corebanklaw46_AccessDecides.Pure := by
  intro l r n g _ hn
  rw [wf64] at hn
  apply Ev.rounds
  obtain ⟨b, hb, hf⟩ := great_ev l g.1
  simp only [corebanklaw46_AccessDecides.f]
  refine Ev.bnd hb ?_
  cases b with
  | true => exact Ev.ret rfl
  | false => exact Ev.neg (by decide) (decides_loop l r n (hf rfl) hn.1 hn.2 (l.length + 1) 0 (by omega) (by omega))

end Go.Proofs.Ytclllkbngkohlaa.Pure

/- AccessChanges: for every list of users, every name and right, Grant and Withdraw answer as the reference does, and valid lists remain valid. No condition. -/
import Derived.Test.YtclllkbngkohlaaPureLib
import Derived.Test.YtclllkbngkohlaaPureLib2
import Derived.Test.YtclllkbngkohlaaStmtAccessChanges
import Derived.Test.YtclllkbngkohlaaX0
import Derived.Test.YtclllkbngkohlaaX10
import Derived.Test.YtclllkbngkohlaaX30
namespace Go.Proofs.Ytclllkbngkohlaa.Pure
open Go.RowKit Go.Proofs.Ytclllkbngkohlaa.X Go.Proofs.YtclllkbngkohlaaW.PrintWords Go.Proofs.YtclllkbngkohlaaW.PrintLast

theorem chg_len (op : Int → Int → Int) (l : List S25) (a : ByteArray) (r : Int) (hl : l.length ≤ 40) : (chgV op l a r).1.length ≤ 9223372036854775807 := by
  unfold chgV
  split
  · simp
  · split
    · simp only [put1_len]; omega
    · simp
theorem chg_check (op : Int → Int → Int) (hop : ∀ {a b : Int}, 0 ≤ a → a ≤ 127 → 0 ≤ b → b ≤ 127 → 0 ≤ op a b ∧ op a b ≤ 127) (l : List S25) (a : ByteArray) (r : Int) (g : GL25 l) (hc : CheckOK l) (h0 : ¬ idx l a < 0) (hr : 1 ≤ r ∧ r ≤ 127) :
    Ev (fun k => access_Check.f k (chgV op l a r).1) 0 := by
  have hi := idx_range l a
  have hx := hc.2.2 (idx l a) (by omega) (by omega)
  have ho := hop hx.2.1 hx.2.2.1 (by omega : (0 : Int) ≤ r) hr.2
  have e : (chgV op l a r).1 = put1 l (idx l a) (op (rd_T25 l (idx l a)).f1 r) := by
    unfold chgV; rw [if_neg h0, if_pos hr]
  rw [e]
  obtain ⟨q, hq, hz⟩ := chk_ev _ (put1_good l (idx l a) (op (rd_T25 l (idx l a)).f1 r) (by omega) (by omega) (by omega) g)
  rw [hz.2 (put1_ok l _ _ (by omega) (by omega) ho hc)] at hq
  exact hq
theorem AccessChanges : corebanklaw46_AccessChanges.Pure := by
  intro l a r g ha hr
  apply Ev.rounds
  obtain ⟨b, hb, hf⟩ := great_ev l g.1
  simp only [corebanklaw46_AccessChanges.f]
  refine Ev.bnd hb ?_
  cases b with
  | true => exact Ev.ret rfl
  | false =>
    have hl := hf rfl
    refine Ev.neg (by decide) (Ev.now_ (grant_eq l a r hl) (Ev.bnd (ref_grant l a r hl) (Ev.now_ (withdraw_eq l a r hl) (Ev.bnd (ref_withdraw l a r hl) (Ev.pos rfl (Ev.pos rfl (Ev.bnd (same_self _ (chg_len _ l a r hl)) (Ev.pos rfl (Ev.bnd (same_self _ (chg_len _ l a r hl)) ?_)))))))))
    apply Ev.up
    simp only [corebanklaw46_AccessChanges.j0]
    refine Ev.neg (by decide) (Ev.ite (fun h0 => ?_) (fun _ => Ev.bnd live_true (Ev.ret rfl)))
    obtain ⟨c, hc1, hc2⟩ := chk_ev l g
    refine Ev.bnd hc1 (Ev.ite (fun h1 => ?_) (fun _ => Ev.bnd live_true (Ev.ret rfl)))
    have hok := hc2.1 h1
    have hi : ¬ idx l a < 0 := by
      intro hi
      unfold chgV at h0
      rw [if_pos hi] at h0
      cases h0
    have hr2 : 1 ≤ r ∧ r ≤ 127 := by
      apply Classical.byContradiction
      intro h2
      unfold chgV at h0
      rw [if_neg hi, if_neg h2] at h0
      cases h0
    exact Ev.bnd (chg_check _ or_rng l a r g hok hi hr2) (Ev.pos rfl (Ev.bnd (chg_check _ an_rng l a r g hok hi hr2) (Ev.pos rfl (Ev.bnd live_true (Ev.ret rfl)))))

end Go.Proofs.Ytclllkbngkohlaa.Pure

/- CollectAdds: a direct debit that is presented stands behind the others, is due from its day on, and cannot be presented a second time. -/
import Derived.Test.YtfdjgdjmllkdcaaDoorPureSAdds
import Derived.Test.YtfdjgdjmllkdcaaDoorStmtCollectAdds
import Derived.Test.YtfdjgdjmllkdcaaDoorX0
import Derived.Test.YtfdjgdjmllkdcaaDoorX19
import Derived.Test.YtfdjgdjmllkdcaaDoorX3
namespace Go.Proofs.YtfdjgdjmllkdcaaDoor.Pure
open Go.RowKit Go.Proofs.YtfdjgdjmllkdcaaDoor.X Go.Proofs.YtfdjgdjmllkdcaaDoorW.PrintWords Go.Proofs.YtfdjgdjmllkdcaaDoorW.PrintLast

theorem adds_j1 (l : List S36) (m : List S53) (x : S36) (day : Int) (hl : l.length ≤ 80) (hm : m.length ≤ 100) (hs : x.f8.size ≤ 9223372036854775807) (ht : Go.Proofs.YtfdjgdjmllkdcaaDoor.X.takeB x day = true) :
    Ev (fun k => corebanklaw42_CollectAdds.j1 k m (l ++ [x]) false x.f0 x.f1 x.f2 x.f3 x.f4 x.f5 x.f6 x.f7 x.f8 day) true := by
  have ht2 := ht
  simp only [Go.Proofs.YtfdjgdjmllkdcaaDoor.X.takeB, Bool.and_eq_true, decide_eq_true_eq] at ht2
  obtain ⟨t1, t2, t3, t4, t5, t6⟩ := ht2
  have h7 : x.f7 = 1 := by
    simp only [presB, Bool.and_eq_true, decide_eq_true_eq] at t5
    exact t5.1
  have hd := (show 0 ≤ x.f3 ∧ x.f3 ≤ 73048 by simp only [dayB, Bool.and_eq_true, decide_eq_true_eq] at t3; exact t3)
  have hi : hasId (l ++ [x]) x.f0 = true := List.any_eq_true.2 ⟨x, by simp, decide_eq_true (Int.le_refl _)⟩
  have hp : presV (l ++ [x]) m x day = ([], 10) := by unfold presV; rw [if_pos ht, if_pos hi]
  have hlen : (l ++ [x]).length ≤ 100 := by simp; omega
  have hdue := due_app l x h7
  have hless := due_less l x
  have hfl : (l.filter (dueF x.f3)).length ≤ l.length := List.length_filter_le _ _
  have hw : wrap64 (x.f3 - 1) = x.f3 - 1 := wm1 (by omega) (by omega)
  have e1 : (((l.filter (dueF x.f3) ++ [x]).length : Nat) : Int) = ((l.filter (dueF x.f3)).length : Int) + 1 := by simp
  have hwl : wrap64 ((((l.filter (dueF x.f3) ++ [x]).length : Nat) : Int) - 1) = ((l.filter (dueF x.f3)).length : Int) := by
    rw [e1, wm1 (by omega) (by omega)]; omega
  apply Ev.up
  simp only [corebanklaw42_CollectAdds.j1, hw]
  refine Ev.neg (by decide) (Ev.bnd (present_ev (l ++ [x]) m x day hlen hm hs) (Ev.bnd (due_ev (l ++ [x]) x.f3 hlen) ?_))
  rw [hp, hdue]
  simp only [hwl]
  refine Ev.pos (by trivial) (Ev.pos (by trivial) (Ev.pos (by omega) (Ev.pos (by omega) (Ev.pos (by omega) (Ev.pos ?_ (Ev.bnd (due_ev (l ++ [x]) (x.f3 - 1) hlen) (Ev.pos (by omega) live_end)))))))
  rw [rd_app_eq]
  simp
theorem CollectAdds : corebanklaw42_CollectAdds.Pure := by
  intro l m x g gm gx
  have hs : x.f0.f8.size ≤ 9223372036854775807 := gx.1.2.2.2.2.2.2.2.2
  apply Ev.rounds
  have hj : ∀ b : Bool, (b = false → l.length ≤ 80 ∧ m.length ≤ 80 ∧ 1 ≤ x.f0.f1) → Ev (fun k => corebanklaw42_CollectAdds.j0 k l m b x.f0.f0 x.f0.f1 x.f0.f2 x.f0.f3 x.f0.f4 x.f0.f5 x.f0.f6 x.f0.f7 x.f0.f8 x.f1) true := by
    intro b hb
    apply Ev.up
    simp only [corebanklaw42_CollectAdds.j0]
    cases b with
    | true => exact Ev.pos rfl live_end
    | false =>
      obtain ⟨hl, hm, h1⟩ := hb rfl
      refine Ev.neg (by decide) (Ev.bnd (present_ev l m x.f0 x.f1 (by omega) (by omega) hs) ?_)
      rcases pres_ok l m x.f0 x.f1 with ⟨n1, n2⟩ | ⟨ht, hi, hk, _, hd, h64, e⟩
      · exact Ev.neg n1 (Ev.pos (by rw [n2]; rfl) live_end)
      · have hj1 := adds_j1 l m x.f0 x.f1 hl (by omega) hs ht
        have hrd := rd_app_eq l x.f0
        have hlen : (((l ++ [x.f0]).length : Nat) : Int) = (l.length : Int) + 1 := by simp
        have hw : wrap64 ((l.length : Int) + 1) = (l.length : Int) + 1 := w1 (n := 1000) (by omega) (by omega) (by omega)
        have htake : (l ++ [x.f0]).take (l.length : Int).toNat = l := by simp
        have gk : GL36 (l ++ [x.f0]) := ⟨by simp; omega, fun y hy => by
          rcases List.mem_append.1 hy with h | h
          · exact g.2 y h
          · rw [List.mem_singleton.1 h]; exact gx.1⟩
        rw [e]
        simp only [hrd, hw, htake]
        refine Ev.pos (by trivial) (Ev.pos hlen (Ev.pos (by omega) (Ev.pos (by omega) (Ev.bnd (same_self l (by omega)) (Ev.pos rfl (Ev.pos (by omega) (Ev.neg (by simp) (Ev.bnd (chk_ev l g) (Ev.ite (fun hc => Ev.bnd (chk_ev _ gk) ?_) (fun _ => hj1))))))))))
        rw [chk_app l x.f0 hc h64 (take_shape x.f0 x.f1 ht h1) hi hk]
        exact hj1
  simp only [corebanklaw42_CollectAdds.f]
  refine Ev.now_ (g := corebanklaw42_few.f l) rfl (Ev.ite (fun h => Ev.ite (fun h1 => hj true (fun h => by cases h)) (fun h1 => hj _ ?_)) (fun h => hj true (fun h => by cases h)))
  intro hb
  have h3 := of_decide_eq_true h
  have h4 := of_decide_eq_false hb
  omega
end Go.Proofs.YtfdjgdjmllkdcaaDoor.Pure

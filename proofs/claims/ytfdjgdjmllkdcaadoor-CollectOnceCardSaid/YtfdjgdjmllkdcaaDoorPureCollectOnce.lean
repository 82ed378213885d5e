/- CollectOnce: a direct debit is settled at most once, and returned only after that and at most once. -/
import Derived.Test.YtfdjgdjmllkdcaaDoorPureLib
import Derived.Test.YtfdjgdjmllkdcaaDoorPureLibC
import Derived.Test.YtfdjgdjmllkdcaaDoorPureLibE
import Derived.Test.YtfdjgdjmllkdcaaDoorPureLibO
import Derived.Test.YtfdjgdjmllkdcaaDoorPureLibO2
import Derived.Test.YtfdjgdjmllkdcaaDoorStmtCollectOnce
import Derived.Test.YtfdjgdjmllkdcaaDoorX0
import Derived.Test.YtfdjgdjmllkdcaaDoorX17
import Derived.Test.YtfdjgdjmllkdcaaDoorX3
namespace Go.Proofs.YtfdjgdjmllkdcaaDoor.Pure
open Go.RowKit Go.Proofs.YtfdjgdjmllkdcaaDoor.X Go.Proofs.YtfdjgdjmllkdcaaDoorW.PrintWords Go.Proofs.YtfdjgdjmllkdcaaDoorW.PrintLast

theorem once_j1 (l : List S36) (g : GL36 l) (hl : l.length ≤ 80) (hc : chkV l = 0) (id reason day e late : Int) (gd : (Lit.int .i64 day).wf = true) (gr : (Lit.int .i64 reason).wf = true) (gl : (Lit.int .i64 late).wf = true)
    (h0 : 0 ≤ idx l id) (h7 : (rd_T36 l (idx l id)).f7 = 1) (hd : dayB day = true) :
    Ev (fun k => corebanklaw42_CollectOnce.j1 k l late (l.set (idx l id).toNat (setV (rd_T36 l (idx l id)) day e)) false id reason day e) true := by
  have hr := idx_range l id
  have h1 : idx l id < (l.length : Int) := by omega
  have hsh := shape_of l hc (idx l id) h0 h1
  have hf := shape_is_fit hsh
  have hx : G36 (rd_T36 l (idx l id)) := g.2 _ (rd_mem l (idx l id) h0 h1)
  obtain ⟨k0, k1, k2, k3, k8, k7⟩ := setV_keeps (rd_T36 l (idx l id)) day e
  have hid := idx_id l id h0
  have hi2 := idx_set l id (setV (rd_T36 l (idx l id)) day e) h0 h1 (by rw [k0, hid])
  have hrd := rd_put l (idx l id) (idx l id) (setV (rd_T36 l (idx l id)) day e) h0 h0 h1
  rw [if_pos rfl] at hrd
  have hgs := good_set l (idx l id).toNat (setV (rd_T36 l (idx l id)) day e) g (setV_good _ day e hx gd)
  have hfy := fits_set _ day e hf h7 hd
  have hcs := chk_set l (idx l id) (setV (rd_T36 l (idx l id)) day e) h0 h1 hc k0 k8 (shape_fits hsh k0 k1 k2 k3 k8 hfy)
  have hls : (l.set (idx l id).toNat (setV (rd_T36 l (idx l id)) day e)).length = l.length := by simp
  generalize hS : l.set (idx l id).toNat (setV (rd_T36 l (idx l id)) day e) = s at hi2 hrd hgs hcs hls
  apply Ev.up
  simp only [corebanklaw42_CollectOnce.j1]
  refine Ev.neg (by decide) (Ev.bnd (ret_ev s id reason late (by omega)) (Ev.bnd (ret_ev l id reason late (by omega)) ?_))
  rw [ret_shut l id reason late h0 (by rw [h7]; decide)]
  refine Ev.pos rfl ?_
  rcases ret_ok s id reason late with ⟨n1, n2⟩ | ⟨m0, m7, ⟨r1, r2, r3, r4, r5⟩, m⟩
  · refine Ev.neg n1 (Ev.pos (by rw [n2]; rfl) (Ev.ite (fun _ => live_end) (fun he => Ev.pos ?_ live_end)))
    have : (rd_T36 s (idx s id)).f7 ≠ 2 := by
      rw [hi2, hrd]
      unfold setV
      rw [if_neg he]
      exact (show (4 : Int) ≠ 2 by decide)
    rw [ret_shut s id reason late (by omega) this]
  · have he : e = 0 := by
      rw [hi2, hrd] at m7
      unfold setV at m7
      by_cases he : e = 0
      · exact he
      · rw [if_neg he] at m7; exact absurd m7 (show (4 : Int) ≠ 2 by decide)
    rw [m]
    refine Ev.pos rfl ?_
    have m1 : idx s id < (s.length : Int) := by rw [hi2, hls]; exact h1
    have ms := shape_of s hcs (idx s id) m0 m1
    have mx : G36 (rd_T36 s (idx s id)) := hgs.2 _ (rd_mem s (idx s id) m0 m1)
    have m4 : dayB (rd_T36 s (idx s id)).f4 = true := by
      rw [hi2, hrd]
      unfold setV
      rw [if_pos he]
      exact hd
    have mid := idx_id s id m0
    have q2 := idx_set s id (setRt (rd_T36 s (idx s id)) reason late) m0 m1 (by show (rd_T36 s (idx s id)).f0 = id; exact mid)
    have qrd := rd_put s (idx s id) (idx s id) (setRt (rd_T36 s (idx s id)) reason late) m0 m0 m1
    rw [if_pos rfl] at qrd
    have qg := good_set s (idx s id).toNat (setRt (rd_T36 s (idx s id)) reason late) hgs (setRt_good _ reason late mx gl gr)
    have qf := fits_rt (rd_T36 s (idx s id)) reason late m4 r1 r2 r3 r4 r5
    have qc := chk_set s (idx s id) (setRt (rd_T36 s (idx s id)) reason late) m0 m1 hcs rfl rfl (shape_fits ms rfl rfl rfl rfl rfl qf)
    have qo := others_set s id (setRt (rd_T36 s (idx s id)) reason late) (by omega) m0 m1 rfl rfl rfl rfl rfl
    have ql : (s.set (idx s id).toNat (setRt (rd_T36 s (idx s id)) reason late)).length = s.length := by simp
    generalize hR : s.set (idx s id).toNat (setRt (rd_T36 s (idx s id)) reason late) = r at q2 qrd qg qc qo ql
    have e1 := ret_shut r id reason late (by rw [q2]; exact m0) (by rw [q2, qrd]; exact (show (3 : Int) ≠ 2 by decide))
    have e2 := settle_shut r id day 0 (by rw [q2]; exact m0) (by rw [q2, qrd]; exact (show (3 : Int) ≠ 1 by decide))
    refine Ev.bnd (ret_ev r id reason late (by omega)) (Ev.bnd (settle_ev r id day 0 (by omega)) (Ev.pos he (Ev.bnd qo (Ev.pos rfl ?_))))
    rw [e1, e2]
    refine Ev.pos rfl (Ev.pos rfl (Ev.bnd (chk_ev r qg) (Ev.pos qc live_end)))
theorem CollectOnce : corebanklaw42_CollectOnce.Pure := by
  intro l x late g gx gl
  obtain ⟨g0, g1, g2, g3⟩ := gx
  apply Ev.rounds
  have hj : ∀ b : Bool, (b = false → l.length ≤ 80 ∧ chkV l = 0) → Ev (fun k => corebanklaw42_CollectOnce.j0 k l late b x.f0 x.f1 x.f2 x.f3) true := by
    intro b hb
    apply Ev.up
    simp only [corebanklaw42_CollectOnce.j0]
    cases b with
    | true => exact Ev.pos rfl live_end
    | false =>
      obtain ⟨hl, hc⟩ := hb rfl
      refine Ev.neg (by decide) (Ev.bnd (settle_ev l x.f0 x.f2 x.f3 (by omega)) ?_)
      rcases settle_ok l x.f0 x.f2 x.f3 with ⟨n1, n2⟩ | ⟨h0, h7, hd, m⟩
      · exact Ev.neg n1 (Ev.pos (by rw [n2]; rfl) live_end)
      · rw [m]
        have hr := idx_range l x.f0
        have h1 : idx l x.f0 < (l.length : Int) := by omega
        have hj1 := once_j1 l g hl hc x.f0 x.f1 x.f2 x.f3 late g2 g1 gl h0 h7 hd
        obtain ⟨k0, k1, k2, k3, k8, k7⟩ := setV_keeps (rd_T36 l (idx l x.f0)) x.f2 x.f3
        have hid := idx_id l x.f0 h0
        have hi2 := idx_set l x.f0 (setV (rd_T36 l (idx l x.f0)) x.f2 x.f3) h0 h1 (by rw [k0, hid])
        have hrd := rd_put l (idx l x.f0) (idx l x.f0) (setV (rd_T36 l (idx l x.f0)) x.f2 x.f3) h0 h0 h1
        rw [if_pos rfl] at hrd
        have ho := others_set l x.f0 (setV (rd_T36 l (idx l x.f0)) x.f2 x.f3) (by omega) h0 h1 k0 k1 k2 k3 k8
        have hsh := shape_of l hc (idx l x.f0) h0 h1
        have hx : G36 (rd_T36 l (idx l x.f0)) := g.2 _ (rd_mem l (idx l x.f0) h0 h1)
        have hgs := good_set l (idx l x.f0).toNat (setV (rd_T36 l (idx l x.f0)) x.f2 x.f3) g (setV_good _ x.f2 x.f3 hx g2)
        have hcs := chk_set l (idx l x.f0) (setV (rd_T36 l (idx l x.f0)) x.f2 x.f3) h0 h1 hc k0 k8 (shape_fits hsh k0 k1 k2 k3 k8 (fits_set _ x.f2 x.f3 (shape_is_fit hsh) h7 hd))
        have hls : (l.set (idx l x.f0).toNat (setV (rd_T36 l (idx l x.f0)) x.f2 x.f3)).length = l.length := by simp
        generalize hS : l.set (idx l x.f0).toNat (setV (rd_T36 l (idx l x.f0)) x.f2 x.f3) = s at hi2 hrd hgs hcs hls ho hj1
        have e2 := settle_shut s x.f0 x.f2 0 (by rw [hi2]; exact h0) (by rw [hi2, hrd]; exact k7)
        refine Ev.pos rfl (Ev.bnd (settle_ev s x.f0 x.f2 0 (by omega)) (Ev.bnd ho (Ev.pos rfl ?_)))
        rw [e2]
        refine Ev.pos rfl (Ev.bnd (chk_ev s hgs) ?_)
        rw [hcs]
        exact hj1
  simp only [corebanklaw42_CollectOnce.f]
  refine Ev.now_ (g := corebanklaw42_few.f l) rfl (Ev.ite (fun h => Ev.bnd (chk_ev l g) (hj _ ?_)) (fun h => hj true (fun h => by cases h)))
  intro hb
  have h1 := of_decide_eq_true h
  refine ⟨by omega, ?_⟩
  simpa using hb
end Go.Proofs.YtfdjgdjmllkdcaaDoor.Pure

/- CollectPresents: Present answers as the reference's does. -/
import Derived.Test.YtfdjgdjmllkdcaaDoorPureLib
import Derived.Test.YtfdjgdjmllkdcaaDoorPureLibC
import Derived.Test.YtfdjgdjmllkdcaaDoorPureLibD
import Derived.Test.YtfdjgdjmllkdcaaDoorPureLibE
import Derived.Test.YtfdjgdjmllkdcaaDoorPureLibK
import Derived.Test.YtfdjgdjmllkdcaaDoorPureLibM
import Derived.Test.YtfdjgdjmllkdcaaDoorPureLibP
import Derived.Test.YtfdjgdjmllkdcaaDoorPureLibQ
import Derived.Test.YtfdjgdjmllkdcaaDoorPureLibS
import Derived.Test.YtfdjgdjmllkdcaaDoorStmtCollectPresents
import Derived.Test.YtfdjgdjmllkdcaaDoorX0
import Derived.Test.YtfdjgdjmllkdcaaDoorX29
import Derived.Test.YtfdjgdjmllkdcaaDoorX3
namespace Go.Proofs.YtfdjgdjmllkdcaaDoor.Pure
open Go.RowKit Go.Proofs.YtfdjgdjmllkdcaaDoor.X Go.Proofs.YtfdjgdjmllkdcaaDoorW.PrintWords Go.Proofs.YtfdjgdjmllkdcaaDoorW.PrintLast

theorem pres_len (l : List S36) (m : List S53) (x : S36) (day : Int) (hl : l.length ≤ 100) : (presV l m x day).1.length ≤ 9223372036854775807 := by
  unfold presV
  (repeat' split) <;> simp <;> omega
theorem CollectPresents : corebanklaw42_CollectPresents.Pure := by
  intro l m x g gm gx
  apply Ev.rounds
  have hj : ∀ b : Bool, (b = false → l.length ≤ 100 ∧ m.length ≤ 100) → Ev (fun k => corebanklaw42_CollectPresents.j0 k l m b x.f0.f0 x.f0.f1 x.f0.f2 x.f0.f3 x.f0.f4 x.f0.f5 x.f0.f6 x.f0.f7 x.f0.f8 x.f1) true := by
    intro b hb
    apply Ev.up
    simp only [corebanklaw42_CollectPresents.j0]
    cases b with
    | true => exact Ev.pos rfl live_end
    | false =>
      obtain ⟨hl, hm⟩ := hb rfl
      have hs : x.f0.f8.size ≤ 9223372036854775807 := gx.1.2.2.2.2.2.2.2.2
      exact Ev.neg (by decide) (Ev.bnd (present_ev l m x.f0 x.f1 hl hm hs) (Ev.bnd (rpresent_ev l m x.f0 x.f1 hl hm hs) (Ev.bnd (same_self _ (pres_len l m x.f0 x.f1 hl)) (Ev.pos rfl (Ev.pos rfl live_end)))))
  simp only [corebanklaw42_CollectPresents.f]
  refine Ev.now_ (g := corebanklaw42_few.f l) rfl (Ev.ite (fun h => hj _ ?_) (fun h => hj true (fun h => by cases h)))
  intro hb
  have h1 := of_decide_eq_true h
  have h2 := of_decide_eq_false hb
  omega
end Go.Proofs.YtfdjgdjmllkdcaaDoor.Pure

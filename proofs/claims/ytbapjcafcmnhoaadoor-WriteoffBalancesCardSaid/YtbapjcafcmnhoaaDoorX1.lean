-- Written by program (wip/tools/xprint.sh) for this seat; not trusted: Lean checks it.
import Derived.Test.YtbapjcafcmnhoaaDoorX0
namespace Go.Proofs.YtbapjcafcmnhoaaDoor.X
open Go.RowKit Go.Proofs.YtbapjcafcmnhoaaDoorW.PrintWords Go.Proofs.YtbapjcafcmnhoaaDoorW.PrintLast Go.Proofs.YtbapjcafcmnhoaaDoorW.PrintMore
attribute [local go_sem] max2_int min2_int   -- for this text's walks alone
set_option linter.unusedVariables false
set_option linter.unusedSimpArgs false

/-! lemmas of this seat's own: the package variable arrears.classes lies in block 0. -/
def VarOK (w : World) : Prop := w.cell? ⟨0, 0, none⟩ = some (.int .i64 0) ∧ w.cell? ⟨0, 1, none⟩ = some (.int .i64 30) ∧ w.cell? ⟨0, 2, none⟩ = some (.int .i64 60) ∧ w.cell? ⟨0, 3, none⟩ = some (.int .i64 90)
theorem VarOK.below {w W : World} (h : VarOK w) (hb : Below w.heap.size w W) : VarOK W := by
  obtain ⟨h0, h1, h2, h3⟩ := h
  have hlt : 0 < w.heap.size := World.block_lt_of_cell? w _ h0
  exact ⟨(hb.cell (p := ⟨0, 0, none⟩) hlt).trans h0, (hb.cell (p := ⟨0, 1, none⟩) hlt).trans h1, (hb.cell (p := ⟨0, 2, none⟩) hlt).trans h2, (hb.cell (p := ⟨0, 3, none⟩) hlt).trans h3⟩
theorem siz27 : (Tryd.prog.info? 27).map (fun i => i.size) = some 25 := by kernel_rfl

end Go.Proofs.YtbapjcafcmnhoaaDoor.X

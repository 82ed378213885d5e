-- Written by program (wip/tools/xprint.sh) for this seat; not trusted: Lean checks it.
import Derived.Test.YtfdjgdjmllkdcaaDoorX0
namespace Go.Proofs.YtfdjgdjmllkdcaaDoor.X
open Go.RowKit Go.Proofs.YtfdjgdjmllkdcaaDoorW.PrintWords Go.Proofs.YtfdjgdjmllkdcaaDoorW.PrintLast Go.Proofs.YtfdjgdjmllkdcaaDoorW.PrintMore
attribute [local go_sem] max2_int min2_int   -- for this text's walks alone
set_option linter.unusedVariables false
set_option linter.unusedSimpArgs false

/-! lemmas of this seat's own: the package variable collect.windows lies in block 0. -/
def VarOK (w : World) : Prop := w.cell? ⟨0, 0, none⟩ = some (.int .i64 0) ∧ w.cell? ⟨0, 1, none⟩ = some (.int .i64 5) ∧ w.cell? ⟨0, 2, none⟩ = some (.int .i64 5) ∧ w.cell? ⟨0, 3, none⟩ = some (.int .i64 395) ∧ w.cell? ⟨0, 4, none⟩ = some (.int .i64 56)
theorem VarOK.below {w W : World} (h : VarOK w) (hb : Below w.heap.size w W) : VarOK W := by
  obtain ⟨h0, h1, h2, h3, h4⟩ := h
  have hlt : 0 < w.heap.size := World.block_lt_of_cell? w _ h0
  exact ⟨(hb.cell (p := ⟨0, 0, none⟩) hlt).trans h0, (hb.cell (p := ⟨0, 1, none⟩) hlt).trans h1, (hb.cell (p := ⟨0, 2, none⟩) hlt).trans h2, (hb.cell (p := ⟨0, 3, none⟩) hlt).trans h3, (hb.cell (p := ⟨0, 4, none⟩) hlt).trans h4⟩
theorem box_at {w W : World} {bq j : Nat} {v : Value} (hb : Below w.heap.size w W) (h1 : bq < w.heap.size) (h2 : w.cell? ⟨bq, j, none⟩ = some v) : W.cell? ⟨bq, j, none⟩ = some v := (hb.cell (p := ⟨bq, j, none⟩) h1).trans h2

end Go.Proofs.YtfdjgdjmllkdcaaDoor.X

/- The laid variable of this seat: 'arrears.classes' in block 0. -/
import Derived.Test.YtbapjcafcmnhoaaDoorX1
import Derived.Test.YtbapjcafcmnhoaaDoorRows
import Derived.ProofKit
import Derived.LaidLaws
import Derived.Handed
import Derived.FnData
namespace Go.Proofs.YtbapjcafcmnhoaaDoor
open Go.ChangeShapes Go.WideShapes Go.ChangeAt Go.RowKit Go.Proofs.YtbapjcafcmnhoaaDoor.X

theorem varNamed : Tryd.prog.globalNamed "corebank/arrears.classes" = some 0 := by kernel_rfl
theorem varType : (Tryd.prog.globals[0]?).map (·.type) = some 55 := by kernel_rfl
theorem varCells : Tryd.prog.cellsOf 55 = 4 := by kernel_rfl
theorem varCell : Tryd.prog.cellsOf 3 = 1 := by kernel_rfl

theorem int_of_trod {H : Type} {enc : TypeId × Value → H} {P : Program} {w : World} {base : Nat} {sp : Nat → Bool} {held : Bool} {fuel : Nat} {t : TypeId} {k : IntKind} {c : Value} {y : DataW H × List MemPlace}
    (ht : P.underlying t = some (.int k)) (h : DataW.trod enc P w base sp held fuel t [c] = some y) : ∃ n, c = .int k n ∧ y = (.lit (.int k n), []) := by
  cases fuel with
  | zero => simp [DataW.trod] at h
  | succ fuel =>
    cases c <;> simp [DataW.trod, ht] at h
    rename_i k' n
    obtain ⟨⟨rfl, _⟩, rfl⟩ := h
    exact ⟨n, rfl, rfl⟩

def laidCells : Array Value := #[.int .i64 0, .int .i64 30, .int .i64 60, .int .i64 90]
abbrev laidList : List (String × DataW Unit) := [("corebank/arrears.classes", Rows.laid_corebank_arrears_classes)]

theorem cells_of_laid {W : World} (h : laidMet Tryd.prog laidList W) : W.var? Tryd.prog "corebank/arrears.classes" = some laidCells := by
  obtain ⟨ps, ⟨g, t, cs, fuel, p, q, hg, ht, hvar, hd, _, _⟩, _⟩ := h
  obtain rfl := Option.some.inj (varNamed.symm.trans hg)
  obtain rfl := Option.some.inj (varType.symm.trans ht)
  rw [hvar]
  congr 1
  obtain ⟨l⟩ := cs
  cases fuel with
  | zero => simp [DataW.trod] at hd
  | succ fuel =>
    simp only [DataW.trod, Tryd.underlying55, varCells, varCell] at hd
    split at hd
    · rename_i hl
      obtain ⟨c0, c1, c2, c3, rfl⟩ : ∃ c0 c1 c2 c3, l = [c0, c1, c2, c3] := by
        match l, hl with
        | [a, b, c, d], _ => exact ⟨a, b, c, d, rfl⟩
      have e : List.range 4 = [0, 1, 2, 3] := rfl
      rw [e] at hd
      simp only [Option.map_eq_some_iff, List.mapM_cons, List.mapM_nil, Option.bind_eq_bind, Option.bind_eq_some_iff, Option.pure_def, Option.some.injEq] at hd
      obtain ⟨xs, ⟨y0, h0, _, ⟨y1, h1, _, ⟨y2, h2, _, ⟨y3, h3, _, rfl, rfl⟩, rfl⟩, rfl⟩, rfl⟩, hx⟩ := hd
      obtain ⟨n0, rfl, rfl⟩ := int_of_trod Tryd.underlying3 h0
      obtain ⟨n1, rfl, rfl⟩ := int_of_trod Tryd.underlying3 h1
      obtain ⟨n2, rfl, rfl⟩ := int_of_trod Tryd.underlying3 h2
      obtain ⟨n3, rfl, rfl⟩ := int_of_trod Tryd.underlying3 h3
      simp [Rows.laid_corebank_arrears_classes] at hx
      obtain ⟨⟨rfl, rfl, rfl, rfl⟩, _⟩ := hx
      rfl
    · cases hd

theorem varOK_of_laid {W : World} (h : laidMet Tryd.prog laidList W) : VarOK W := by
  have hv := cells_of_laid h
  exact ⟨World.var?_cell varNamed hv 0, World.var?_cell varNamed hv 1, World.var?_cell varNamed hv 2, World.var?_cell varNamed hv 3⟩

noncomputable def laidWorld (os : Os) : World :=
  { World.holding Tryd.prog os ⟨#[], #[], []⟩ with heap := (World.holding Tryd.prog os ⟨#[], #[], []⟩).heap.modify 0 fun
      | .cells _ t frozen => .cells laidCells t frozen
      | o => o }

theorem laid_met (os : Os) (args : Array Value) : laidMet Tryd.prog laidList ((laidWorld os).forCall (fun _ _ => 0) ⟨#[], args, []⟩).memory :=
  laidMet_of_run (ps := [.cell 0 0, .cell 0 1, .cell 0 2, .cell 0 3]) 8 (by kernel_rfl) (by kernel_rfl) (by kernel_rfl)
end Go.Proofs.YtbapjcafcmnhoaaDoor

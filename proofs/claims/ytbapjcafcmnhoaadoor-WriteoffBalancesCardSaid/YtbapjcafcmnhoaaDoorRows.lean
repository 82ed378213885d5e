/-
  NARROWER THAN 'FOR EVERY INPUT', by the rows' own cells (each row's printed sentence says how): WriteoffWrites: laid · WriteoffRecovers: laid · WriteoffExposure: laid · WriteoffBalances: laid.
  DERIVED. THE GIVEN ROWS OF THIS SEAT. 4 by the template 'for every input the law returns true; each argument reads behind the call as it read before'; 0 by the template 'total and deterministic' (their statements: YtbapjcafcmnhoaaDoorTotals.lean).
  GIVEN WITH THE SEED: the statements are not yours to turn. If you find one false, say at which input.
  Laid BY PROGRAM, IN A SANDBOX (cutbox-rows.mjs): the forced cells as the released guide's own fill.sh prints them over the translation 7f96d03c96268144… (all of the seat's roots in one cut). By AI agents, Wed Nov 11 2026. No macro, syntax, notation, axiom, sorry.
-/
import Derived.Test.YtbapjcafcmnhoaaDoorChecked
import GoSem.Claim
import GoSem.ClaimJoined
import GoSem.ClaimMapViews
import Derived.JoinedTies
import Derived.KernelRfl
namespace Go.Proofs.YtbapjcafcmnhoaaDoor
/- THE CELL 'sum', in the pinned program and in every row, IS THE sha256 OF THE DUMP (.gsa) THAT YtbapjcafcmnhoaaDoorProg.lean LOADS. Nothing in Lean hashes anything: it is a label: what it is worth is what the hold of that sum in a sandbox is worth. -/
noncomputable def Tryd.pinned : Pinned := { name := "ytbapjcafcmnhoaadoor", sum := "7f96d03c96268144a456ed73e7742f9298155570792736398ccbcfb0598a9b00", checked := Tryd.checked }
namespace Rows
def none {H : Type} : Left H := { results := [], args := [] }

/- WHAT THE LISTED PACKAGE-LEVEL VARIABLES READ AS WHEN THE CALL BEGINS. Each datum BY PROGRAM (the guide's laid-datum.mjs) off the statement by which the dump's own 'gosem.cut.vars' lays the variable. In a bare row this is a premise. The card (YtbapjcafcmnhoaaDoorCards.lean) ties it to the program's text. -/
def laid_corebank_arrears_classes {H : Type} : DataW H := .agg [.lit (.int .i64 0), .lit (.int .i64 30), .lit (.int .i64 60), .lit (.int .i64 90)]

/-- 'corebanklaw39.WriteoffWrites': WHATEVER THE INPUT: true; the input reads as it did. -/
def writeoffWritesSpec : ChangeSpec := { name := "writeoffWrites", fn := fun _ => fun
  | [d1, d2] => { results := [.lit (.bool true)], args := [d1, d2] }
  | _ => none }
def writeoffWritesRow : OpenClaim := { program := "ytbapjcafcmnhoaadoor", sum := "7f96d03c96268144a456ed73e7742f9298155570792736398ccbcfb0598a9b00", func := "corebank/corebanklaw39.WriteoffWrites", spec := "writeoffWrites", unfollowed := true, recurses := true, named := ["corebank/arrears.classes"], apart := false, laid := [("corebank/arrears.classes", laid_corebank_arrears_classes)] }
def WriteoffWritesSaid : Prop := writeoffWritesRow.holds Tryd.pinned (OpenSpec.ofChange writeoffWritesSpec)

/-- ITS FALSE NEIGHBOUR: 'it returns false'. Refute it at one input. -/
def writeoffWritesWrong : ChangeSpec := { name := "writeoffWrites", fn := fun _ => fun
  | [d1, d2] => { results := [.lit (.bool false)], args := [d1, d2] }
  | _ => none }
def WriteoffWritesWrongFalsely : Prop := writeoffWritesRow.holds Tryd.pinned (OpenSpec.ofChange writeoffWritesWrong)

/-- 'corebanklaw39.WriteoffRecovers': WHATEVER THE INPUT: true; the input reads as it did. -/
def writeoffRecoversSpec : ChangeSpec := { name := "writeoffRecovers", fn := fun _ => fun
  | [d1, d2, d3] => { results := [.lit (.bool true)], args := [d1, d2, d3] }
  | _ => none }
def writeoffRecoversRow : OpenClaim := { program := "ytbapjcafcmnhoaadoor", sum := "7f96d03c96268144a456ed73e7742f9298155570792736398ccbcfb0598a9b00", func := "corebank/corebanklaw39.WriteoffRecovers", spec := "writeoffRecovers", unfollowed := true, recurses := true, named := ["corebank/arrears.classes"], apart := false, laid := [("corebank/arrears.classes", laid_corebank_arrears_classes)] }
def WriteoffRecoversSaid : Prop := writeoffRecoversRow.holds Tryd.pinned (OpenSpec.ofChange writeoffRecoversSpec)

/-- ITS FALSE NEIGHBOUR: 'it returns false'. Refute it at one input. -/
def writeoffRecoversWrong : ChangeSpec := { name := "writeoffRecovers", fn := fun _ => fun
  | [d1, d2, d3] => { results := [.lit (.bool false)], args := [d1, d2, d3] }
  | _ => none }
def WriteoffRecoversWrongFalsely : Prop := writeoffRecoversRow.holds Tryd.pinned (OpenSpec.ofChange writeoffRecoversWrong)

/-- 'corebanklaw39.WriteoffExposure': WHATEVER THE INPUT: true; the input reads as it did. -/
def writeoffExposureSpec : ChangeSpec := { name := "writeoffExposure", fn := fun _ => fun
  | [d] => { results := [.lit (.bool true)], args := [d] }
  | _ => none }
def writeoffExposureRow : OpenClaim := { program := "ytbapjcafcmnhoaadoor", sum := "7f96d03c96268144a456ed73e7742f9298155570792736398ccbcfb0598a9b00", func := "corebank/corebanklaw39.WriteoffExposure", spec := "writeoffExposure", unfollowed := true, recurses := true, named := ["corebank/arrears.classes"], apart := false, laid := [("corebank/arrears.classes", laid_corebank_arrears_classes)] }
def WriteoffExposureSaid : Prop := writeoffExposureRow.holds Tryd.pinned (OpenSpec.ofChange writeoffExposureSpec)

/-- ITS FALSE NEIGHBOUR: 'it returns false'. Refute it at one input. -/
def writeoffExposureWrong : ChangeSpec := { name := "writeoffExposure", fn := fun _ => fun
  | [d] => { results := [.lit (.bool false)], args := [d] }
  | _ => none }
def WriteoffExposureWrongFalsely : Prop := writeoffExposureRow.holds Tryd.pinned (OpenSpec.ofChange writeoffExposureWrong)

/-- 'corebanklaw39.WriteoffBalances': WHATEVER THE INPUT: true; the input reads as it did. -/
def writeoffBalancesSpec : ChangeSpec := { name := "writeoffBalances", fn := fun _ => fun
  | [d1, d2, d3] => { results := [.lit (.bool true)], args := [d1, d2, d3] }
  | _ => none }
def writeoffBalancesRow : OpenClaim := { program := "ytbapjcafcmnhoaadoor", sum := "7f96d03c96268144a456ed73e7742f9298155570792736398ccbcfb0598a9b00", func := "corebank/corebanklaw39.WriteoffBalances", spec := "writeoffBalances", unfollowed := true, recurses := true, named := ["corebank/arrears.classes"], apart := false, laid := [("corebank/arrears.classes", laid_corebank_arrears_classes)] }
def WriteoffBalancesSaid : Prop := writeoffBalancesRow.holds Tryd.pinned (OpenSpec.ofChange writeoffBalancesSpec)

/-- ITS FALSE NEIGHBOUR: 'it returns false'. Refute it at one input. -/
def writeoffBalancesWrong : ChangeSpec := { name := "writeoffBalances", fn := fun _ => fun
  | [d1, d2, d3] => { results := [.lit (.bool false)], args := [d1, d2, d3] }
  | _ => none }
def WriteoffBalancesWrongFalsely : Prop := writeoffBalancesRow.holds Tryd.pinned (OpenSpec.ofChange writeoffBalancesWrong)

/- THE SECOND FORM. 'bulk': how many values and letters a reading holds, each counted each time it is reached (what is shared counts as often as it is met; a slice's spare places count too). A statement '..UptoSaid' is the law's where the arguments, and the package variables that the reading takes, are together of bulk at most 1048576: NARROWER than '..Said'. Prove '..Said' where nothing that the law and all that it calls make is longer than what came in: it says more and counts as full. Else prove '..UptoSaid'. A law counts once. -/
mutual
def uptoBulk {H : Type} : DataW H → Nat
  | .lit (.string bytes) => bytes.length + 1
  | .lit _ => 1
  | .nil => 1
  | .ptr d => uptoBulk d + 1
  | .slice elems spare => uptoBulkAll elems + uptoBulkAll spare + 1
  | .agg parts => uptoBulkAll parts + 1
  | .iface _ d => uptoBulk d + 1
  | .map entries => uptoBulkEntries entries + 1
  | .held _ => 1
def uptoBulkAll {H : Type} : List (DataW H) → Nat
  | [] => 0
  | d :: r => uptoBulk d + uptoBulkAll r
def uptoBulkEntries {H : Type} : List (Lit × DataW H) → Nat
  | [] => 0
  | x :: r => uptoBulkEntry x + uptoBulkEntries r
def uptoBulkEntry {H : Type} : Lit × DataW H → Nat
  | (.string bytes, d) => bytes.length + uptoBulk d + 1
  | (_, d) => uptoBulk d + 1
 end
def uptoSmall : (H : Type) → List (DataW H) → Bool := fun _ ds => decide (uptoBulkAll ds ≤ 1048576)
def OpenSpec.upto (s : _root_.Go.ChangeSpec) : _root_.Go.OpenSpec := { _root_.Go.OpenSpec.ofChange s with cond := some uptoSmall }

/-- 'corebanklaw39.WriteoffWrites', WHERE WHAT IT READS IS OF BULK AT MOST 1048576: true; the input reads as it did. -/
def writeoffWritesUptoRow : OpenClaim := { program := "ytbapjcafcmnhoaadoor", sum := "7f96d03c96268144a456ed73e7742f9298155570792736398ccbcfb0598a9b00", func := "corebank/corebanklaw39.WriteoffWrites", spec := "writeoffWrites", unfollowed := true, recurses := true, named := ["corebank/arrears.classes"], apart := false, laid := [("corebank/arrears.classes", laid_corebank_arrears_classes)], narrowed := true }
def WriteoffWritesUptoSaid : Prop := writeoffWritesUptoRow.holds Tryd.pinned (OpenSpec.upto writeoffWritesSpec)

/-- 'corebanklaw39.WriteoffRecovers', WHERE WHAT IT READS IS OF BULK AT MOST 1048576: true; the input reads as it did. -/
def writeoffRecoversUptoRow : OpenClaim := { program := "ytbapjcafcmnhoaadoor", sum := "7f96d03c96268144a456ed73e7742f9298155570792736398ccbcfb0598a9b00", func := "corebank/corebanklaw39.WriteoffRecovers", spec := "writeoffRecovers", unfollowed := true, recurses := true, named := ["corebank/arrears.classes"], apart := false, laid := [("corebank/arrears.classes", laid_corebank_arrears_classes)], narrowed := true }
def WriteoffRecoversUptoSaid : Prop := writeoffRecoversUptoRow.holds Tryd.pinned (OpenSpec.upto writeoffRecoversSpec)

/-- 'corebanklaw39.WriteoffExposure', WHERE WHAT IT READS IS OF BULK AT MOST 1048576: true; the input reads as it did. -/
def writeoffExposureUptoRow : OpenClaim := { program := "ytbapjcafcmnhoaadoor", sum := "7f96d03c96268144a456ed73e7742f9298155570792736398ccbcfb0598a9b00", func := "corebank/corebanklaw39.WriteoffExposure", spec := "writeoffExposure", unfollowed := true, recurses := true, named := ["corebank/arrears.classes"], apart := false, laid := [("corebank/arrears.classes", laid_corebank_arrears_classes)], narrowed := true }
def WriteoffExposureUptoSaid : Prop := writeoffExposureUptoRow.holds Tryd.pinned (OpenSpec.upto writeoffExposureSpec)

/-- 'corebanklaw39.WriteoffBalances', WHERE WHAT IT READS IS OF BULK AT MOST 1048576: true; the input reads as it did. -/
def writeoffBalancesUptoRow : OpenClaim := { program := "ytbapjcafcmnhoaadoor", sum := "7f96d03c96268144a456ed73e7742f9298155570792736398ccbcfb0598a9b00", func := "corebank/corebanklaw39.WriteoffBalances", spec := "writeoffBalances", unfollowed := true, recurses := true, named := ["corebank/arrears.classes"], apart := false, laid := [("corebank/arrears.classes", laid_corebank_arrears_classes)], narrowed := true }
def WriteoffBalancesUptoSaid : Prop := writeoffBalancesUptoRow.holds Tryd.pinned (OpenSpec.upto writeoffBalancesSpec)

end Rows
end Go.Proofs.YtbapjcafcmnhoaaDoor

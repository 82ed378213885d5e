/-
  DERIVED. GIVEN WITH THE SEED: THE CARDS: each row of YtbapjcafcmnhoaaDoorRows.lean that lists a variable, with what it lists TIED to the program's text (the seventh form; the later family's looks); each row that meets fmt, with fmt's text TOLD by the authors' own Lean function (tested against real Go, not proved from fmt's source: count such statements apart). THE CARD IS WHAT COUNTS. Prove the row's statement (the work); the ties are given (YtbapjcafcmnhoaaDoorTie.lean); close each card by the builder's one call (the guide's Derived/Test/ToyasCard.lean, 'card_holds'). Laid BY PROGRAM, IN A SANDBOX (cutbox-door.mjs). By AI agents, Wed Nov 11 2026. No macro, syntax, notation, axiom, sorry.
-/
import Derived.Test.YtbapjcafcmnhoaaDoorRows
import GoSem.ClaimSeven
namespace Go.Proofs.YtbapjcafcmnhoaaDoor
namespace Rows

/-- THE TIED CARD OF 'corebanklaw39.WriteoffWrites'. -/
def writeoffWritesCard : Claim7 := { stood := { row := writeoffWritesRow, standIns := [], harness := (true, "5ac992651e20d218aaa679354ddb80b970a6a9ecb58ca28aa3fa6c589fbd1dcf"), looks := false }, kinds := [], alts := [], laidByText := true, laidKinds := [.data], laidTests := true, laidLooks := .later }
def WriteoffWritesCardSaid : Prop := Claim7.holds Tryd.pinned (.plain (OpenSpec.ofChange writeoffWritesSpec)) writeoffWritesCard

/-- THE TIED CARD OF 'corebanklaw39.WriteoffRecovers'. -/
def writeoffRecoversCard : Claim7 := { stood := { row := writeoffRecoversRow, standIns := [], harness := (true, "5ac992651e20d218aaa679354ddb80b970a6a9ecb58ca28aa3fa6c589fbd1dcf"), looks := false }, kinds := [], alts := [], laidByText := true, laidKinds := [.data], laidTests := true, laidLooks := .later }
def WriteoffRecoversCardSaid : Prop := Claim7.holds Tryd.pinned (.plain (OpenSpec.ofChange writeoffRecoversSpec)) writeoffRecoversCard

/-- THE TIED CARD OF 'corebanklaw39.WriteoffExposure'. -/
def writeoffExposureCard : Claim7 := { stood := { row := writeoffExposureRow, standIns := [], harness := (true, "5ac992651e20d218aaa679354ddb80b970a6a9ecb58ca28aa3fa6c589fbd1dcf"), looks := false }, kinds := [], alts := [], laidByText := true, laidKinds := [.data], laidTests := true, laidLooks := .later }
def WriteoffExposureCardSaid : Prop := Claim7.holds Tryd.pinned (.plain (OpenSpec.ofChange writeoffExposureSpec)) writeoffExposureCard

/-- THE TIED CARD OF 'corebanklaw39.WriteoffBalances'. -/
def writeoffBalancesCard : Claim7 := { stood := { row := writeoffBalancesRow, standIns := [], harness := (true, "5ac992651e20d218aaa679354ddb80b970a6a9ecb58ca28aa3fa6c589fbd1dcf"), looks := false }, kinds := [], alts := [], laidByText := true, laidKinds := [.data], laidTests := true, laidLooks := .later }
def WriteoffBalancesCardSaid : Prop := Claim7.holds Tryd.pinned (.plain (OpenSpec.ofChange writeoffBalancesSpec)) writeoffBalancesCard

/-- THE SECOND FORM's CARD OF 'corebanklaw39.WriteoffWrites'. -/
def writeoffWritesUptoCard : Claim7 := { stood := { row := writeoffWritesUptoRow, standIns := [], harness := (true, "5ac992651e20d218aaa679354ddb80b970a6a9ecb58ca28aa3fa6c589fbd1dcf"), looks := false }, kinds := [], alts := [], laidByText := true, laidKinds := [.data], laidTests := true, laidLooks := .later }
def WriteoffWritesUptoCardSaid : Prop := Claim7.holds Tryd.pinned (.plain (OpenSpec.upto writeoffWritesSpec)) writeoffWritesUptoCard

/-- THE SECOND FORM's CARD OF 'corebanklaw39.WriteoffRecovers'. -/
def writeoffRecoversUptoCard : Claim7 := { stood := { row := writeoffRecoversUptoRow, standIns := [], harness := (true, "5ac992651e20d218aaa679354ddb80b970a6a9ecb58ca28aa3fa6c589fbd1dcf"), looks := false }, kinds := [], alts := [], laidByText := true, laidKinds := [.data], laidTests := true, laidLooks := .later }
def WriteoffRecoversUptoCardSaid : Prop := Claim7.holds Tryd.pinned (.plain (OpenSpec.upto writeoffRecoversSpec)) writeoffRecoversUptoCard

/-- THE SECOND FORM's CARD OF 'corebanklaw39.WriteoffExposure'. -/
def writeoffExposureUptoCard : Claim7 := { stood := { row := writeoffExposureUptoRow, standIns := [], harness := (true, "5ac992651e20d218aaa679354ddb80b970a6a9ecb58ca28aa3fa6c589fbd1dcf"), looks := false }, kinds := [], alts := [], laidByText := true, laidKinds := [.data], laidTests := true, laidLooks := .later }
def WriteoffExposureUptoCardSaid : Prop := Claim7.holds Tryd.pinned (.plain (OpenSpec.upto writeoffExposureSpec)) writeoffExposureUptoCard

/-- THE SECOND FORM's CARD OF 'corebanklaw39.WriteoffBalances'. -/
def writeoffBalancesUptoCard : Claim7 := { stood := { row := writeoffBalancesUptoRow, standIns := [], harness := (true, "5ac992651e20d218aaa679354ddb80b970a6a9ecb58ca28aa3fa6c589fbd1dcf"), looks := false }, kinds := [], alts := [], laidByText := true, laidKinds := [.data], laidTests := true, laidLooks := .later }
def WriteoffBalancesUptoCardSaid : Prop := Claim7.holds Tryd.pinned (.plain (OpenSpec.upto writeoffBalancesSpec)) writeoffBalancesUptoCard
end Rows
end Go.Proofs.YtbapjcafcmnhoaaDoor

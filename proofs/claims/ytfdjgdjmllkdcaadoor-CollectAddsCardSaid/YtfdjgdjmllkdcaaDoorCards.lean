/-
  DERIVED. GIVEN WITH THE SEED: THE CARDS: each row of YtfdjgdjmllkdcaaDoorRows.lean that lists a variable, with what it lists TIED to the program's text (the seventh form; the later family's looks); each row that meets fmt, with fmt's text TOLD by the authors' own Lean function (tested against real Go, not proved from fmt's source: count such statements apart). THE CARD IS WHAT COUNTS. Prove the row's statement (the work); the ties are given (YtfdjgdjmllkdcaaDoorTie.lean); close each card by the builder's one call (the guide's Derived/Test/ToyasCard.lean, 'card_holds'). Laid BY PROGRAM, IN A SANDBOX (cutbox-door.mjs). By AI agents, Wed Nov 11 2026. No macro, syntax, notation, axiom, sorry.
-/
import Derived.Test.YtfdjgdjmllkdcaaDoorRows
import GoSem.ClaimSeven
namespace Go.Proofs.YtfdjgdjmllkdcaaDoor
namespace Rows

/-- THE TIED CARD OF 'corebanklaw42.CollectOnce'. -/
def collectOnceCard : Claim7 := { stood := { row := collectOnceRow, standIns := [], harness := (true, "0603acb974d2615e0c276032a06fb00d6db91e709eb11867b1fb1e570839d5c1"), looks := false }, kinds := [], alts := [], laidByText := true, laidKinds := [.data], laidTests := true, laidLooks := .later }
def CollectOnceCardSaid : Prop := Claim7.holds Tryd.pinned (.plain (OpenSpec.ofChange collectOnceSpec)) collectOnceCard

/-- THE TIED CARD OF 'corebanklaw42.CollectAdds'. -/
def collectAddsCard : Claim7 := { stood := { row := collectAddsRow, standIns := [], harness := (true, "0603acb974d2615e0c276032a06fb00d6db91e709eb11867b1fb1e570839d5c1"), looks := false }, kinds := [], alts := [], laidByText := true, laidKinds := [.data], laidTests := true, laidLooks := .later }
def CollectAddsCardSaid : Prop := Claim7.holds Tryd.pinned (.plain (OpenSpec.ofChange collectAddsSpec)) collectAddsCard

/-- THE TIED CARD OF 'corebanklaw42.CollectChecks'. -/
def collectChecksCard : Claim7 := { stood := { row := collectChecksRow, standIns := [], harness := (true, "0603acb974d2615e0c276032a06fb00d6db91e709eb11867b1fb1e570839d5c1"), looks := false }, kinds := [], alts := [], laidByText := true, laidKinds := [.data], laidTests := true, laidLooks := .later }
def CollectChecksCardSaid : Prop := Claim7.holds Tryd.pinned (.plain (OpenSpec.ofChange collectChecksSpec)) collectChecksCard

/-- THE TIED CARD OF 'corebanklaw42.CollectPresents'. -/
def collectPresentsCard : Claim7 := { stood := { row := collectPresentsRow, standIns := [], harness := (true, "0603acb974d2615e0c276032a06fb00d6db91e709eb11867b1fb1e570839d5c1"), looks := false }, kinds := [], alts := [], laidByText := true, laidKinds := [.data], laidTests := true, laidLooks := .later }
def CollectPresentsCardSaid : Prop := Claim7.holds Tryd.pinned (.plain (OpenSpec.ofChange collectPresentsSpec)) collectPresentsCard

/-- THE TIED CARD OF 'corebanklaw42.CollectReasons'. -/
def collectReasonsCard : Claim7 := { stood := { row := collectReasonsRow, standIns := [], harness := (true, "0603acb974d2615e0c276032a06fb00d6db91e709eb11867b1fb1e570839d5c1"), looks := false }, kinds := [], alts := [], laidByText := true, laidKinds := [.data], laidTests := true, laidLooks := .later }
def CollectReasonsCardSaid : Prop := Claim7.holds Tryd.pinned (.plain (OpenSpec.ofChange collectReasonsSpec)) collectReasonsCard

/-- THE TIED CARD OF 'corebanklaw42.CollectEnds'. -/
def collectEndsCard : Claim7 := { stood := { row := collectEndsRow, standIns := [], harness := (true, "0603acb974d2615e0c276032a06fb00d6db91e709eb11867b1fb1e570839d5c1"), looks := false }, kinds := [], alts := [], laidByText := true, laidKinds := [.data], laidTests := true, laidLooks := .later }
def CollectEndsCardSaid : Prop := Claim7.holds Tryd.pinned (.plain (OpenSpec.ofChange collectEndsSpec)) collectEndsCard

/-- THE SECOND FORM's CARD OF 'corebanklaw42.CollectOnce'. -/
def collectOnceUptoCard : Claim7 := { stood := { row := collectOnceUptoRow, standIns := [], harness := (true, "0603acb974d2615e0c276032a06fb00d6db91e709eb11867b1fb1e570839d5c1"), looks := false }, kinds := [], alts := [], laidByText := true, laidKinds := [.data], laidTests := true, laidLooks := .later }
def CollectOnceUptoCardSaid : Prop := Claim7.holds Tryd.pinned (.plain (OpenSpec.upto collectOnceSpec)) collectOnceUptoCard

/-- THE SECOND FORM's CARD OF 'corebanklaw42.CollectAdds'. -/
def collectAddsUptoCard : Claim7 := { stood := { row := collectAddsUptoRow, standIns := [], harness := (true, "0603acb974d2615e0c276032a06fb00d6db91e709eb11867b1fb1e570839d5c1"), looks := false }, kinds := [], alts := [], laidByText := true, laidKinds := [.data], laidTests := true, laidLooks := .later }
def CollectAddsUptoCardSaid : Prop := Claim7.holds Tryd.pinned (.plain (OpenSpec.upto collectAddsSpec)) collectAddsUptoCard

/-- THE SECOND FORM's CARD OF 'corebanklaw42.CollectChecks'. -/
def collectChecksUptoCard : Claim7 := { stood := { row := collectChecksUptoRow, standIns := [], harness := (true, "0603acb974d2615e0c276032a06fb00d6db91e709eb11867b1fb1e570839d5c1"), looks := false }, kinds := [], alts := [], laidByText := true, laidKinds := [.data], laidTests := true, laidLooks := .later }
def CollectChecksUptoCardSaid : Prop := Claim7.holds Tryd.pinned (.plain (OpenSpec.upto collectChecksSpec)) collectChecksUptoCard

/-- THE SECOND FORM's CARD OF 'corebanklaw42.CollectPresents'. -/
def collectPresentsUptoCard : Claim7 := { stood := { row := collectPresentsUptoRow, standIns := [], harness := (true, "0603acb974d2615e0c276032a06fb00d6db91e709eb11867b1fb1e570839d5c1"), looks := false }, kinds := [], alts := [], laidByText := true, laidKinds := [.data], laidTests := true, laidLooks := .later }
def CollectPresentsUptoCardSaid : Prop := Claim7.holds Tryd.pinned (.plain (OpenSpec.upto collectPresentsSpec)) collectPresentsUptoCard

/-- THE SECOND FORM's CARD OF 'corebanklaw42.CollectReasons'. -/
def collectReasonsUptoCard : Claim7 := { stood := { row := collectReasonsUptoRow, standIns := [], harness := (true, "0603acb974d2615e0c276032a06fb00d6db91e709eb11867b1fb1e570839d5c1"), looks := false }, kinds := [], alts := [], laidByText := true, laidKinds := [.data], laidTests := true, laidLooks := .later }
def CollectReasonsUptoCardSaid : Prop := Claim7.holds Tryd.pinned (.plain (OpenSpec.upto collectReasonsSpec)) collectReasonsUptoCard

/-- THE SECOND FORM's CARD OF 'corebanklaw42.CollectEnds'. -/
def collectEndsUptoCard : Claim7 := { stood := { row := collectEndsUptoRow, standIns := [], harness := (true, "0603acb974d2615e0c276032a06fb00d6db91e709eb11867b1fb1e570839d5c1"), looks := false }, kinds := [], alts := [], laidByText := true, laidKinds := [.data], laidTests := true, laidLooks := .later }
def CollectEndsUptoCardSaid : Prop := Claim7.holds Tryd.pinned (.plain (OpenSpec.upto collectEndsSpec)) collectEndsUptoCard
end Rows
end Go.Proofs.YtfdjgdjmllkdcaaDoor

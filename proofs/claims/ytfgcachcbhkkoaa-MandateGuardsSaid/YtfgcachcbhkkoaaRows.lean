/-
  No cell of these rows narrows 'for every input' (looked for: loops, veiled, ifaces, maps, wideKeys, modest, calm, conditions, laid).
  DERIVED. THE GIVEN ROWS OF THIS SEAT. 6 by the template 'for every input the law returns true; each argument reads behind the call as it read before'; 0 by the template 'total and deterministic' (their statements: YtfgcachcbhkkoaaTotals.lean).
  GIVEN WITH THE SEED: the statements are not yours to turn. If you find one false, say at which input.
  Laid BY PROGRAM, IN A SANDBOX (cutbox-rows.mjs): the forced cells as the released guide's own fill.sh prints them over the translation ba621d78fd6050df… (all of the seat's roots in one cut). By AI agents, Wed Nov 11 2026. No macro, syntax, notation, axiom, sorry.
-/
import Derived.Test.YtfgcachcbhkkoaaChecked
import GoSem.Claim
import GoSem.ClaimJoined
import GoSem.ClaimMapViews
import Derived.JoinedTies
import Derived.KernelRfl
namespace Go.Proofs.Ytfgcachcbhkkoaa
/- THE CELL 'sum', in the pinned program and in every row, IS THE sha256 OF THE DUMP (.gsa) THAT YtfgcachcbhkkoaaProg.lean LOADS. Nothing in Lean hashes anything: it is a label: what it is worth is what the hold of that sum in a sandbox is worth. -/
noncomputable def Try.pinned : Pinned := { name := "ytfgcachcbhkkoaa", sum := "ba621d78fd6050df81a33d05be223c359a1282e3b6be3f7ea8c826e7914bb6a5", checked := Try.checked }
namespace Rows
def none {H : Type} : Left H := { results := [], args := [] }

/-- 'corebanklaw41.MandateChecks': WHATEVER THE INPUT: true; the input reads as it did. -/
def mandateChecksSpec : ChangeSpec := { name := "mandateChecks", fn := fun _ => fun
  | [d] => { results := [.lit (.bool true)], args := [d] }
  | _ => none }
def mandateChecksRow : OpenClaim := { program := "ytfgcachcbhkkoaa", sum := "ba621d78fd6050df81a33d05be223c359a1282e3b6be3f7ea8c826e7914bb6a5", func := "corebank/corebanklaw41.MandateChecks", spec := "mandateChecks", unfollowed := true, recurses := true, apart := false }
def MandateChecksSaid : Prop := mandateChecksRow.holds Try.pinned (OpenSpec.ofChange mandateChecksSpec)

/-- ITS FALSE NEIGHBOUR: 'it returns false'. Refute it at one input. -/
def mandateChecksWrong : ChangeSpec := { name := "mandateChecks", fn := fun _ => fun
  | [d] => { results := [.lit (.bool false)], args := [d] }
  | _ => none }
def MandateChecksWrongFalsely : Prop := mandateChecksRow.holds Try.pinned (OpenSpec.ofChange mandateChecksWrong)

/-- 'corebanklaw41.MandateSigns': WHATEVER THE INPUT: true; the input reads as it did. -/
def mandateSignsSpec : ChangeSpec := { name := "mandateSigns", fn := fun _ => fun
  | [d1, d2] => { results := [.lit (.bool true)], args := [d1, d2] }
  | _ => none }
def mandateSignsRow : OpenClaim := { program := "ytfgcachcbhkkoaa", sum := "ba621d78fd6050df81a33d05be223c359a1282e3b6be3f7ea8c826e7914bb6a5", func := "corebank/corebanklaw41.MandateSigns", spec := "mandateSigns", unfollowed := true, recurses := true, apart := false }
def MandateSignsSaid : Prop := mandateSignsRow.holds Try.pinned (OpenSpec.ofChange mandateSignsSpec)

/-- ITS FALSE NEIGHBOUR: 'it returns false'. Refute it at one input. -/
def mandateSignsWrong : ChangeSpec := { name := "mandateSigns", fn := fun _ => fun
  | [d1, d2] => { results := [.lit (.bool false)], args := [d1, d2] }
  | _ => none }
def MandateSignsWrongFalsely : Prop := mandateSignsRow.holds Try.pinned (OpenSpec.ofChange mandateSignsWrong)

/-- 'corebanklaw41.MandateRevokes': WHATEVER THE INPUT: true; the input reads as it did. -/
def mandateRevokesSpec : ChangeSpec := { name := "mandateRevokes", fn := fun _ => fun
  | [d1, d2, d3] => { results := [.lit (.bool true)], args := [d1, d2, d3] }
  | _ => none }
def mandateRevokesRow : OpenClaim := { program := "ytfgcachcbhkkoaa", sum := "ba621d78fd6050df81a33d05be223c359a1282e3b6be3f7ea8c826e7914bb6a5", func := "corebank/corebanklaw41.MandateRevokes", spec := "mandateRevokes", unfollowed := true, recurses := true, apart := false }
def MandateRevokesSaid : Prop := mandateRevokesRow.holds Try.pinned (OpenSpec.ofChange mandateRevokesSpec)

/-- ITS FALSE NEIGHBOUR: 'it returns false'. Refute it at one input. -/
def mandateRevokesWrong : ChangeSpec := { name := "mandateRevokes", fn := fun _ => fun
  | [d1, d2, d3] => { results := [.lit (.bool false)], args := [d1, d2, d3] }
  | _ => none }
def MandateRevokesWrongFalsely : Prop := mandateRevokesRow.holds Try.pinned (OpenSpec.ofChange mandateRevokesWrong)

/-- 'corebanklaw41.MandateAllows': WHATEVER THE INPUT: true; the input reads as it did. -/
def mandateAllowsSpec : ChangeSpec := { name := "mandateAllows", fn := fun _ => fun
  | [d1, d2] => { results := [.lit (.bool true)], args := [d1, d2] }
  | _ => none }
def mandateAllowsRow : OpenClaim := { program := "ytfgcachcbhkkoaa", sum := "ba621d78fd6050df81a33d05be223c359a1282e3b6be3f7ea8c826e7914bb6a5", func := "corebank/corebanklaw41.MandateAllows", spec := "mandateAllows", unfollowed := true, recurses := true, apart := false }
def MandateAllowsSaid : Prop := mandateAllowsRow.holds Try.pinned (OpenSpec.ofChange mandateAllowsSpec)

/-- ITS FALSE NEIGHBOUR: 'it returns false'. Refute it at one input. -/
def mandateAllowsWrong : ChangeSpec := { name := "mandateAllows", fn := fun _ => fun
  | [d1, d2] => { results := [.lit (.bool false)], args := [d1, d2] }
  | _ => none }
def MandateAllowsWrongFalsely : Prop := mandateAllowsRow.holds Try.pinned (OpenSpec.ofChange mandateAllowsWrong)

/-- 'corebanklaw41.MandateGuards': WHATEVER THE INPUT: true; the input reads as it did. -/
def mandateGuardsSpec : ChangeSpec := { name := "mandateGuards", fn := fun _ => fun
  | [d1, d2] => { results := [.lit (.bool true)], args := [d1, d2] }
  | _ => none }
def mandateGuardsRow : OpenClaim := { program := "ytfgcachcbhkkoaa", sum := "ba621d78fd6050df81a33d05be223c359a1282e3b6be3f7ea8c826e7914bb6a5", func := "corebank/corebanklaw41.MandateGuards", spec := "mandateGuards", unfollowed := true, recurses := true, apart := false }
def MandateGuardsSaid : Prop := mandateGuardsRow.holds Try.pinned (OpenSpec.ofChange mandateGuardsSpec)

/-- ITS FALSE NEIGHBOUR: 'it returns false'. Refute it at one input. -/
def mandateGuardsWrong : ChangeSpec := { name := "mandateGuards", fn := fun _ => fun
  | [d1, d2] => { results := [.lit (.bool false)], args := [d1, d2] }
  | _ => none }
def MandateGuardsWrongFalsely : Prop := mandateGuardsRow.holds Try.pinned (OpenSpec.ofChange mandateGuardsWrong)

/-- 'corebanklaw41.MandateEnds': WHATEVER THE INPUT: true; the input reads as it did. -/
def mandateEndsSpec : ChangeSpec := { name := "mandateEnds", fn := fun _ => fun
  | [d1, d2, d3] => { results := [.lit (.bool true)], args := [d1, d2, d3] }
  | _ => none }
def mandateEndsRow : OpenClaim := { program := "ytfgcachcbhkkoaa", sum := "ba621d78fd6050df81a33d05be223c359a1282e3b6be3f7ea8c826e7914bb6a5", func := "corebank/corebanklaw41.MandateEnds", spec := "mandateEnds", unfollowed := true, recurses := true, apart := false }
def MandateEndsSaid : Prop := mandateEndsRow.holds Try.pinned (OpenSpec.ofChange mandateEndsSpec)

/-- ITS FALSE NEIGHBOUR: 'it returns false'. Refute it at one input. -/
def mandateEndsWrong : ChangeSpec := { name := "mandateEnds", fn := fun _ => fun
  | [d1, d2, d3] => { results := [.lit (.bool false)], args := [d1, d2, d3] }
  | _ => none }
def MandateEndsWrongFalsely : Prop := mandateEndsRow.holds Try.pinned (OpenSpec.ofChange mandateEndsWrong)

/- THE SECOND FORM. 'bulk': how many values and letters a reading holds, each counted each time it is reached (what is shared counts as often as it is met; a slice's spare places count too). A statement '..UptoSaid' is the law's where the arguments, and the package variables that the reading takes, are together of bulk at most 1048576: NARROWER than '..Said'. Prove '..Said' where nothing that the law and all that it calls make is longer than what came in: it says more and counts as full. Else prove '..UptoSaid'. A law counts once. -/
mutual
def uptoBulk {H : Type} : DataW H → Nat
  | .lit (.string bytes) => bytes.length + 1
  | .lit _ => 1
  | .nil => 1
  | .ptr d => uptoBulk d + 1
  | .slice elems spare => uptoBulkAll elems + uptoBulkAll spare + 1
  | .agg parts => uptoBulkAll parts + 1
  | .iface _ d => uptoBulk d + 1
  | .map entries => uptoBulkEntries entries + 1
  | .held _ => 1
def uptoBulkAll {H : Type} : List (DataW H) → Nat
  | [] => 0
  | d :: r => uptoBulk d + uptoBulkAll r
def uptoBulkEntries {H : Type} : List (Lit × DataW H) → Nat
  | [] => 0
  | x :: r => uptoBulkEntry x + uptoBulkEntries r
def uptoBulkEntry {H : Type} : Lit × DataW H → Nat
  | (.string bytes, d) => bytes.length + uptoBulk d + 1
  | (_, d) => uptoBulk d + 1
 end
def uptoSmall : (H : Type) → List (DataW H) → Bool := fun _ ds => decide (uptoBulkAll ds ≤ 1048576)
def OpenSpec.upto (s : _root_.Go.ChangeSpec) : _root_.Go.OpenSpec := { _root_.Go.OpenSpec.ofChange s with cond := some uptoSmall }

/-- 'corebanklaw41.MandateChecks', WHERE WHAT IT READS IS OF BULK AT MOST 1048576: true; the input reads as it did. -/
def mandateChecksUptoRow : OpenClaim := { program := "ytfgcachcbhkkoaa", sum := "ba621d78fd6050df81a33d05be223c359a1282e3b6be3f7ea8c826e7914bb6a5", func := "corebank/corebanklaw41.MandateChecks", spec := "mandateChecks", unfollowed := true, recurses := true, apart := false, narrowed := true }
def MandateChecksUptoSaid : Prop := mandateChecksUptoRow.holds Try.pinned (OpenSpec.upto mandateChecksSpec)

/-- 'corebanklaw41.MandateSigns', WHERE WHAT IT READS IS OF BULK AT MOST 1048576: true; the input reads as it did. -/
def mandateSignsUptoRow : OpenClaim := { program := "ytfgcachcbhkkoaa", sum := "ba621d78fd6050df81a33d05be223c359a1282e3b6be3f7ea8c826e7914bb6a5", func := "corebank/corebanklaw41.MandateSigns", spec := "mandateSigns", unfollowed := true, recurses := true, apart := false, narrowed := true }
def MandateSignsUptoSaid : Prop := mandateSignsUptoRow.holds Try.pinned (OpenSpec.upto mandateSignsSpec)

/-- 'corebanklaw41.MandateRevokes', WHERE WHAT IT READS IS OF BULK AT MOST 1048576: true; the input reads as it did. -/
def mandateRevokesUptoRow : OpenClaim := { program := "ytfgcachcbhkkoaa", sum := "ba621d78fd6050df81a33d05be223c359a1282e3b6be3f7ea8c826e7914bb6a5", func := "corebank/corebanklaw41.MandateRevokes", spec := "mandateRevokes", unfollowed := true, recurses := true, apart := false, narrowed := true }
def MandateRevokesUptoSaid : Prop := mandateRevokesUptoRow.holds Try.pinned (OpenSpec.upto mandateRevokesSpec)

/-- 'corebanklaw41.MandateAllows', WHERE WHAT IT READS IS OF BULK AT MOST 1048576: true; the input reads as it did. -/
def mandateAllowsUptoRow : OpenClaim := { program := "ytfgcachcbhkkoaa", sum := "ba621d78fd6050df81a33d05be223c359a1282e3b6be3f7ea8c826e7914bb6a5", func := "corebank/corebanklaw41.MandateAllows", spec := "mandateAllows", unfollowed := true, recurses := true, apart := false, narrowed := true }
def MandateAllowsUptoSaid : Prop := mandateAllowsUptoRow.holds Try.pinned (OpenSpec.upto mandateAllowsSpec)

/-- 'corebanklaw41.MandateGuards', WHERE WHAT IT READS IS OF BULK AT MOST 1048576: true; the input reads as it did. -/
def mandateGuardsUptoRow : OpenClaim := { program := "ytfgcachcbhkkoaa", sum := "ba621d78fd6050df81a33d05be223c359a1282e3b6be3f7ea8c826e7914bb6a5", func := "corebank/corebanklaw41.MandateGuards", spec := "mandateGuards", unfollowed := true, recurses := true, apart := false, narrowed := true }
def MandateGuardsUptoSaid : Prop := mandateGuardsUptoRow.holds Try.pinned (OpenSpec.upto mandateGuardsSpec)

/-- 'corebanklaw41.MandateEnds', WHERE WHAT IT READS IS OF BULK AT MOST 1048576: true; the input reads as it did. -/
def mandateEndsUptoRow : OpenClaim := { program := "ytfgcachcbhkkoaa", sum := "ba621d78fd6050df81a33d05be223c359a1282e3b6be3f7ea8c826e7914bb6a5", func := "corebank/corebanklaw41.MandateEnds", spec := "mandateEnds", unfollowed := true, recurses := true, apart := false, narrowed := true }
def MandateEndsUptoSaid : Prop := mandateEndsUptoRow.holds Try.pinned (OpenSpec.upto mandateEndsSpec)

end Rows
end Go.Proofs.Ytfgcachcbhkkoaa

/-
  DERIVED. GIVEN WITH THE SEED: THE CARDS: each row of YtfkdlfbjkdkffaaGreatDoorRows.lean that lists a variable, with what it lists TIED to the program's text (the seventh form; the later family's looks); each row that meets fmt, with fmt's text TOLD by the authors' own Lean function (tested against real Go, not proved from fmt's source: count such statements apart). THE CARD IS WHAT COUNTS. Prove the row's statement (the work); the ties are given (YtfkdlfbjkdkffaaGreatDoorTie.lean); close each card by the builder's one call (the guide's Derived/Test/ToyasCard.lean, 'card_holds'). Laid BY PROGRAM, IN A SANDBOX (cutbox-door.mjs). By AI agents, Wed Nov 11 2026. No macro, syntax, notation, axiom, sorry.
-/
import Derived.Test.YtfkdlfbjkdkffaaGreatDoorRows
import GoSem.ClaimSeven
namespace Go.Proofs.YtfkdlfbjkdkffaaGreatDoor
namespace Rows

/-- THE TIED CARD OF 'laws.FnVerbs'. -/
def fnVerbsCard : Claim7 := { stood := { row := fnVerbsRow, standIns := [], harness := (true, "f2ded2f66c0c7dad70a2f3abb78e9f5cd93ec3b7a8f30fe221116b3dfaeec1b3"), looks := true }, kinds := [], alts := [], laidByText := true, laidKinds := [.data, .data, .data, .sentinel, .sentinel], laidTests := true, laidLooks := .later }
def FnVerbsCardSaid : Prop := Claim7.holds Tryz.pinned (.plain (OpenSpec.ofChange fnVerbsSpec)) fnVerbsCard

/-- THE TIED CARD OF 'laws.FnPoints'. -/
def fnPointsCard : Claim7 := { stood := { row := fnPointsRow, standIns := [], harness := (true, "f2ded2f66c0c7dad70a2f3abb78e9f5cd93ec3b7a8f30fe221116b3dfaeec1b3"), looks := true }, kinds := [], alts := [], laidByText := true, laidKinds := [.data, .data, .data, .data, .sentinel, .sentinel, .pinned], laidTests := true, laidLooks := .later }
def FnPointsCardSaid : Prop := Claim7.holds Tryz.pinned (.plain (OpenSpec.ofChange fnPointsSpec)) fnPointsCard

/-- THE SECOND FORM's CARD OF 'laws.FnVerbs'. -/
def fnVerbsUptoCard : Claim7 := { stood := { row := fnVerbsUptoRow, standIns := [], harness := (true, "f2ded2f66c0c7dad70a2f3abb78e9f5cd93ec3b7a8f30fe221116b3dfaeec1b3"), looks := true }, kinds := [], alts := [], laidByText := true, laidKinds := [.data, .data, .data, .sentinel, .sentinel], laidTests := true, laidLooks := .later }
def FnVerbsUptoCardSaid : Prop := Claim7.holds Tryz.pinned (.plain (OpenSpec.upto fnVerbsSpec)) fnVerbsUptoCard

/-- THE SECOND FORM's CARD OF 'laws.FnPoints'. -/
def fnPointsUptoCard : Claim7 := { stood := { row := fnPointsUptoRow, standIns := [], harness := (true, "f2ded2f66c0c7dad70a2f3abb78e9f5cd93ec3b7a8f30fe221116b3dfaeec1b3"), looks := true }, kinds := [], alts := [], laidByText := true, laidKinds := [.data, .data, .data, .data, .sentinel, .sentinel, .pinned], laidTests := true, laidLooks := .later }
def FnPointsUptoCardSaid : Prop := Claim7.holds Tryz.pinned (.plain (OpenSpec.upto fnPointsSpec)) fnPointsUptoCard
end Rows
end Go.Proofs.YtfkdlfbjkdkffaaGreatDoor

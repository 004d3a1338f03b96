/-
  DERIVED. GIVEN WITH THE SEED: THE CARDS: each row of YtcapebhnioblbaaGreatDoorRows.lean that lists a variable, with what it lists TIED to the program's text (the seventh form; the later family's looks); each row that meets fmt, with fmt's text TOLD by the authors' own Lean function (tested against real Go, not proved from fmt's source: count such statements apart). THE CARD IS WHAT COUNTS. Prove the row's statement (the work); the ties are given (YtcapebhnioblbaaGreatDoorTie.lean); close each card by the builder's one call (the guide's Derived/Test/ToyasCard.lean, 'card_holds'). Laid BY PROGRAM, IN A SANDBOX (cutbox-door.mjs). By AI agents, Wed Nov 11 2026. No macro, syntax, notation, axiom, sorry.
-/
import Derived.Test.YtcapebhnioblbaaGreatDoorRows
import GoSem.ClaimSeven
namespace Go.Proofs.YtcapebhnioblbaaGreatDoor
namespace Rows

/-- THE TIED CARD OF 'laws.FnExactParseHand'. -/
def fnExactParseHandCard : Claim7 := { stood := { row := fnExactParseHandRow, standIns := [], harness := (true, "3de19d659b888b330a6ad99c8180803a0304f4fd344d8d196ae02a848b720d15"), looks := true }, kinds := [], alts := [], laidByText := true, laidKinds := [.data, .data, .data, .data, .sentinel, .sentinel, .pinned], laidTests := true, laidLooks := .later }
def FnExactParseHandCardSaid : Prop := Claim7.holds Tryz.pinned (.plain (OpenSpec.ofChange fnExactParseHandSpec)) fnExactParseHandCard

/-- THE SECOND FORM's CARD OF 'laws.FnExactParseHand'. -/
def fnExactParseHandUptoCard : Claim7 := { stood := { row := fnExactParseHandUptoRow, standIns := [], harness := (true, "3de19d659b888b330a6ad99c8180803a0304f4fd344d8d196ae02a848b720d15"), looks := true }, kinds := [], alts := [], laidByText := true, laidKinds := [.data, .data, .data, .data, .sentinel, .sentinel, .pinned], laidTests := true, laidLooks := .later }
def FnExactParseHandUptoCardSaid : Prop := Claim7.holds Tryz.pinned (.plain (OpenSpec.upto fnExactParseHandSpec)) fnExactParseHandUptoCard
end Rows
end Go.Proofs.YtcapebhnioblbaaGreatDoor

/-
  DERIVED. GIVEN WITH THE SEED: THE CARDS: each row of YtgjljcejhdpibaaDoorRows.lean that lists a variable, with what it lists TIED to the program's text (the seventh form; the later family's looks); each row that meets fmt, with fmt's text TOLD by the authors' own Lean function (tested against real Go, not proved from fmt's source: count such statements apart). THE CARD IS WHAT COUNTS. Prove the row's statement (the work); the ties are given (YtgjljcejhdpibaaDoorTie.lean); close each card by the builder's one call (the guide's Derived/Test/ToyasCard.lean, 'card_holds'). Laid BY PROGRAM, IN A SANDBOX (cutbox-door.mjs). By AI agents, Wed Nov 11 2026. No macro, syntax, notation, axiom, sorry.
-/
import Derived.Test.YtgjljcejhdpibaaDoorRows
import GoSem.ClaimSeven
namespace Go.Proofs.YtgjljcejhdpibaaDoor
namespace Rows

/-- THE TIED CARD OF 'laws.FnExactParseLoci'. -/
def fnExactParseLociCard : Claim7 := { stood := { row := fnExactParseLociRow, standIns := [], harness := (true, "e9e874533237d531fd4cf02f30f165132336fad15b4e46d0b64e65558cef4e82"), looks := true }, kinds := [], alts := [], laidByText := true, laidKinds := [.data, .data, .data, .data, .sentinel, .sentinel, .pinned], laidTests := true, laidLooks := .later }
def FnExactParseLociCardSaid : Prop := Claim7.holds Tryd.pinned (.plain (OpenSpec.ofChange fnExactParseLociSpec)) fnExactParseLociCard

/-- THE TIED CARD OF 'laws.FnExactRunPoints'. -/
def fnExactRunPointsCard : Claim7 := { stood := { row := fnExactRunPointsRow, standIns := [], harness := (true, "e9e874533237d531fd4cf02f30f165132336fad15b4e46d0b64e65558cef4e82"), looks := true }, kinds := [], alts := [], laidByText := true, laidKinds := [.data, .data, .data, .data, .sentinel, .sentinel, .pinned], laidTests := true, laidLooks := .later }
def FnExactRunPointsCardSaid : Prop := Claim7.holds Tryd.pinned (.plain (OpenSpec.ofChange fnExactRunPointsSpec)) fnExactRunPointsCard

/-- THE SECOND FORM's CARD OF 'laws.FnExactParseLoci'. -/
def fnExactParseLociUptoCard : Claim7 := { stood := { row := fnExactParseLociUptoRow, standIns := [], harness := (true, "e9e874533237d531fd4cf02f30f165132336fad15b4e46d0b64e65558cef4e82"), looks := true }, kinds := [], alts := [], laidByText := true, laidKinds := [.data, .data, .data, .data, .sentinel, .sentinel, .pinned], laidTests := true, laidLooks := .later }
def FnExactParseLociUptoCardSaid : Prop := Claim7.holds Tryd.pinned (.plain (OpenSpec.upto fnExactParseLociSpec)) fnExactParseLociUptoCard

/-- THE SECOND FORM's CARD OF 'laws.FnExactRunPoints'. -/
def fnExactRunPointsUptoCard : Claim7 := { stood := { row := fnExactRunPointsUptoRow, standIns := [], harness := (true, "e9e874533237d531fd4cf02f30f165132336fad15b4e46d0b64e65558cef4e82"), looks := true }, kinds := [], alts := [], laidByText := true, laidKinds := [.data, .data, .data, .data, .sentinel, .sentinel, .pinned], laidTests := true, laidLooks := .later }
def FnExactRunPointsUptoCardSaid : Prop := Claim7.holds Tryd.pinned (.plain (OpenSpec.upto fnExactRunPointsSpec)) fnExactRunPointsUptoCard
end Rows
end Go.Proofs.YtgjljcejhdpibaaDoor

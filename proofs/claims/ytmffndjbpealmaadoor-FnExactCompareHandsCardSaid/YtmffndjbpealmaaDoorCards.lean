/-
  DERIVED. GIVEN WITH THE SEED: THE CARDS: each row of YtmffndjbpealmaaDoorRows.lean that lists a variable, with what it lists TIED to the program's text (the seventh form; the later family's looks); each row that meets fmt, with fmt's text TOLD by the authors' own Lean function (tested against real Go, not proved from fmt's source: count such statements apart). THE CARD IS WHAT COUNTS. Prove the row's statement (the work); the ties are given (YtmffndjbpealmaaDoorTie.lean); close each card by the builder's one call (the guide's Derived/Test/ToyasCard.lean, 'card_holds'). Laid BY PROGRAM, IN A SANDBOX (cutbox-door.mjs). By AI agents, Wed Nov 11 2026. No macro, syntax, notation, axiom, sorry.
-/
import Derived.Test.YtmffndjbpealmaaDoorRows
import GoSem.ClaimSeven
namespace Go.Proofs.YtmffndjbpealmaaDoor
namespace Rows

/-- THE TIED CARD OF 'laws.FnExactHandText'. -/
def fnExactHandTextCard : Claim7 := { stood := { row := fnExactHandTextRow, standIns := [], harness := (true, "1d7cc64d940d96a8781e732749bc4254d3cee1af1897c6ce3da09ffe60844224"), looks := true }, kinds := [], alts := [], laidByText := true, laidKinds := [.data, .data, .data], laidTests := true, laidLooks := .later }
def FnExactHandTextCardSaid : Prop := Claim7.holds Tryd.pinned (.plain (OpenSpec.ofChange fnExactHandTextSpec)) fnExactHandTextCard

/-- THE TIED CARD OF 'laws.FnExactCompareHands'. -/
def fnExactCompareHandsCard : Claim7 := { stood := { row := fnExactCompareHandsRow, standIns := [], harness := (true, "1d7cc64d940d96a8781e732749bc4254d3cee1af1897c6ce3da09ffe60844224"), looks := true }, kinds := [], alts := [], laidByText := true, laidKinds := [.data, .data, .data], laidTests := true, laidLooks := .later }
def FnExactCompareHandsCardSaid : Prop := Claim7.holds Tryd.pinned (.plain (OpenSpec.ofChange fnExactCompareHandsSpec)) fnExactCompareHandsCard

/-- THE TIED CARD OF 'laws.FnExactPlainShapes'. -/
def fnExactPlainShapesCard : Claim7 := { stood := { row := fnExactPlainShapesRow, standIns := [], harness := (true, "1d7cc64d940d96a8781e732749bc4254d3cee1af1897c6ce3da09ffe60844224"), looks := true }, kinds := [], alts := [], laidByText := true, laidKinds := [.data, .data, .data], laidTests := true, laidLooks := .later }
def FnExactPlainShapesCardSaid : Prop := Claim7.holds Tryd.pinned (.plain (OpenSpec.ofChange fnExactPlainShapesSpec)) fnExactPlainShapesCard

/-- THE TIED CARD OF 'laws.FnExactShapeText'. -/
def fnExactShapeTextCard : Claim7 := { stood := { row := fnExactShapeTextRow, standIns := [], harness := (true, "1d7cc64d940d96a8781e732749bc4254d3cee1af1897c6ce3da09ffe60844224"), looks := true }, kinds := [], alts := [], laidByText := true, laidKinds := [.data, .data, .data], laidTests := true, laidLooks := .later }
def FnExactShapeTextCardSaid : Prop := Claim7.holds Tryd.pinned (.plain (OpenSpec.ofChange fnExactShapeTextSpec)) fnExactShapeTextCard

/-- THE TIED CARD OF 'laws.FnExactParseShape'. -/
def fnExactParseShapeCard : Claim7 := { stood := { row := fnExactParseShapeRow, standIns := [], harness := (true, "1d7cc64d940d96a8781e732749bc4254d3cee1af1897c6ce3da09ffe60844224"), looks := true }, kinds := [], alts := [], laidByText := true, laidKinds := [.data, .data, .data], laidTests := true, laidLooks := .later }
def FnExactParseShapeCardSaid : Prop := Claim7.holds Tryd.pinned (.plain (OpenSpec.ofChange fnExactParseShapeSpec)) fnExactParseShapeCard

/-- THE TIED CARD OF 'laws.FnExactMoveText'. -/
def fnExactMoveTextCard : Claim7 := { stood := { row := fnExactMoveTextRow, standIns := [], harness := (true, "1d7cc64d940d96a8781e732749bc4254d3cee1af1897c6ce3da09ffe60844224"), looks := true }, kinds := [], alts := [], laidByText := true, laidKinds := [.data, .data, .data], laidTests := true, laidLooks := .later }
def FnExactMoveTextCardSaid : Prop := Claim7.holds Tryd.pinned (.plain (OpenSpec.ofChange fnExactMoveTextSpec)) fnExactMoveTextCard

/-- THE TIED CARD OF 'laws.FnExactParseMove'. -/
def fnExactParseMoveCard : Claim7 := { stood := { row := fnExactParseMoveRow, standIns := [], harness := (true, "1d7cc64d940d96a8781e732749bc4254d3cee1af1897c6ce3da09ffe60844224"), looks := true }, kinds := [], alts := [], laidByText := true, laidKinds := [.data, .data, .data, .sentinel, .sentinel], laidTests := true, laidLooks := .later }
def FnExactParseMoveCardSaid : Prop := Claim7.holds Tryd.pinned (.plain (OpenSpec.ofChange fnExactParseMoveSpec)) fnExactParseMoveCard

/-- THE TIED CARD OF 'laws.FnShapes'. -/
def fnShapesCard : Claim7 := { stood := { row := fnShapesRow, standIns := [], harness := (true, "1d7cc64d940d96a8781e732749bc4254d3cee1af1897c6ce3da09ffe60844224"), looks := true }, kinds := [], alts := [], laidByText := true, laidKinds := [.data, .data, .data], laidTests := true, laidLooks := .later }
def FnShapesCardSaid : Prop := Claim7.holds Tryd.pinned (.plain (OpenSpec.ofChange fnShapesSpec)) fnShapesCard

/-- THE SECOND FORM's CARD OF 'laws.FnExactHandText'. -/
def fnExactHandTextUptoCard : Claim7 := { stood := { row := fnExactHandTextUptoRow, standIns := [], harness := (true, "1d7cc64d940d96a8781e732749bc4254d3cee1af1897c6ce3da09ffe60844224"), looks := true }, kinds := [], alts := [], laidByText := true, laidKinds := [.data, .data, .data], laidTests := true, laidLooks := .later }
def FnExactHandTextUptoCardSaid : Prop := Claim7.holds Tryd.pinned (.plain (OpenSpec.upto fnExactHandTextSpec)) fnExactHandTextUptoCard

/-- THE SECOND FORM's CARD OF 'laws.FnExactCompareHands'. -/
def fnExactCompareHandsUptoCard : Claim7 := { stood := { row := fnExactCompareHandsUptoRow, standIns := [], harness := (true, "1d7cc64d940d96a8781e732749bc4254d3cee1af1897c6ce3da09ffe60844224"), looks := true }, kinds := [], alts := [], laidByText := true, laidKinds := [.data, .data, .data], laidTests := true, laidLooks := .later }
def FnExactCompareHandsUptoCardSaid : Prop := Claim7.holds Tryd.pinned (.plain (OpenSpec.upto fnExactCompareHandsSpec)) fnExactCompareHandsUptoCard

/-- THE SECOND FORM's CARD OF 'laws.FnExactPlainShapes'. -/
def fnExactPlainShapesUptoCard : Claim7 := { stood := { row := fnExactPlainShapesUptoRow, standIns := [], harness := (true, "1d7cc64d940d96a8781e732749bc4254d3cee1af1897c6ce3da09ffe60844224"), looks := true }, kinds := [], alts := [], laidByText := true, laidKinds := [.data, .data, .data], laidTests := true, laidLooks := .later }
def FnExactPlainShapesUptoCardSaid : Prop := Claim7.holds Tryd.pinned (.plain (OpenSpec.upto fnExactPlainShapesSpec)) fnExactPlainShapesUptoCard

/-- THE SECOND FORM's CARD OF 'laws.FnExactShapeText'. -/
def fnExactShapeTextUptoCard : Claim7 := { stood := { row := fnExactShapeTextUptoRow, standIns := [], harness := (true, "1d7cc64d940d96a8781e732749bc4254d3cee1af1897c6ce3da09ffe60844224"), looks := true }, kinds := [], alts := [], laidByText := true, laidKinds := [.data, .data, .data], laidTests := true, laidLooks := .later }
def FnExactShapeTextUptoCardSaid : Prop := Claim7.holds Tryd.pinned (.plain (OpenSpec.upto fnExactShapeTextSpec)) fnExactShapeTextUptoCard

/-- THE SECOND FORM's CARD OF 'laws.FnExactParseShape'. -/
def fnExactParseShapeUptoCard : Claim7 := { stood := { row := fnExactParseShapeUptoRow, standIns := [], harness := (true, "1d7cc64d940d96a8781e732749bc4254d3cee1af1897c6ce3da09ffe60844224"), looks := true }, kinds := [], alts := [], laidByText := true, laidKinds := [.data, .data, .data], laidTests := true, laidLooks := .later }
def FnExactParseShapeUptoCardSaid : Prop := Claim7.holds Tryd.pinned (.plain (OpenSpec.upto fnExactParseShapeSpec)) fnExactParseShapeUptoCard

/-- THE SECOND FORM's CARD OF 'laws.FnExactMoveText'. -/
def fnExactMoveTextUptoCard : Claim7 := { stood := { row := fnExactMoveTextUptoRow, standIns := [], harness := (true, "1d7cc64d940d96a8781e732749bc4254d3cee1af1897c6ce3da09ffe60844224"), looks := true }, kinds := [], alts := [], laidByText := true, laidKinds := [.data, .data, .data], laidTests := true, laidLooks := .later }
def FnExactMoveTextUptoCardSaid : Prop := Claim7.holds Tryd.pinned (.plain (OpenSpec.upto fnExactMoveTextSpec)) fnExactMoveTextUptoCard

/-- THE SECOND FORM's CARD OF 'laws.FnExactParseMove'. -/
def fnExactParseMoveUptoCard : Claim7 := { stood := { row := fnExactParseMoveUptoRow, standIns := [], harness := (true, "1d7cc64d940d96a8781e732749bc4254d3cee1af1897c6ce3da09ffe60844224"), looks := true }, kinds := [], alts := [], laidByText := true, laidKinds := [.data, .data, .data, .sentinel, .sentinel], laidTests := true, laidLooks := .later }
def FnExactParseMoveUptoCardSaid : Prop := Claim7.holds Tryd.pinned (.plain (OpenSpec.upto fnExactParseMoveSpec)) fnExactParseMoveUptoCard

/-- THE SECOND FORM's CARD OF 'laws.FnShapes'. -/
def fnShapesUptoCard : Claim7 := { stood := { row := fnShapesUptoRow, standIns := [], harness := (true, "1d7cc64d940d96a8781e732749bc4254d3cee1af1897c6ce3da09ffe60844224"), looks := true }, kinds := [], alts := [], laidByText := true, laidKinds := [.data, .data, .data], laidTests := true, laidLooks := .later }
def FnShapesUptoCardSaid : Prop := Claim7.holds Tryd.pinned (.plain (OpenSpec.upto fnShapesSpec)) fnShapesUptoCard
end Rows
end Go.Proofs.YtmffndjbpealmaaDoor

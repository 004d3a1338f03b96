/-
  DERIVED. GIVEN WITH THE SEED: THE CARDS: each row of YtbheajjagkdjmaaDoorRows.lean that lists a variable, with what it lists TIED to the program's text (the seventh form; the later family's looks); each row that meets fmt, with fmt's text TOLD by the authors' own Lean function (tested against real Go, not proved from fmt's source: count such statements apart). THE CARD IS WHAT COUNTS. Prove the row's statement (the work); the ties are given (YtbheajjagkdjmaaDoorTie.lean); close each card by the builder's one call (the guide's Derived/Test/ToyasCard.lean, 'card_holds'). Laid BY PROGRAM, IN A SANDBOX (cutbox-door.mjs). By AI agents, Wed Nov 11 2026. No macro, syntax, notation, axiom, sorry.
-/
import Derived.Test.YtbheajjagkdjmaaDoorRows
import GoSem.ClaimSeven
namespace Go.Proofs.YtbheajjagkdjmaaDoor
namespace Rows

/-- THE TIED CARD OF 'laws.FnExactVerbText'. -/
def fnExactVerbTextCard : Claim7 := { stood := { row := fnExactVerbTextRow, standIns := [], harness := (true, "ce9236a80d5c0051170bc853ef970387bb2dd385f9f69d5dd9a89200b41e4087"), looks := true }, kinds := [], alts := [], laidByText := true, laidKinds := [.data, .data, .data], laidTests := true, laidLooks := .later }
def FnExactVerbTextCardSaid : Prop := Claim7.holds Tryd.pinned (.plain (OpenSpec.ofChange fnExactVerbTextSpec)) fnExactVerbTextCard

/-- THE TIED CARD OF 'laws.FnExactLociText'. -/
def fnExactLociTextCard : Claim7 := { stood := { row := fnExactLociTextRow, standIns := [], harness := (true, "ce9236a80d5c0051170bc853ef970387bb2dd385f9f69d5dd9a89200b41e4087"), looks := true }, kinds := [], alts := [], laidByText := true, laidKinds := [.data, .data, .data], laidTests := true, laidLooks := .later }
def FnExactLociTextCardSaid : Prop := Claim7.holds Tryd.pinned (.plain (OpenSpec.ofChange fnExactLociTextSpec)) fnExactLociTextCard

/-- THE TIED CARD OF 'laws.FnExactParseVerb'. -/
def fnExactParseVerbCard : Claim7 := { stood := { row := fnExactParseVerbRow, standIns := [], harness := (true, "ce9236a80d5c0051170bc853ef970387bb2dd385f9f69d5dd9a89200b41e4087"), looks := true }, kinds := [], alts := [], laidByText := true, laidKinds := [.data, .data, .data, .sentinel, .sentinel], laidTests := true, laidLooks := .later }
def FnExactParseVerbCardSaid : Prop := Claim7.holds Tryd.pinned (.plain (OpenSpec.ofChange fnExactParseVerbSpec)) fnExactParseVerbCard

/-- THE TIED CARD OF 'laws.FnExactParseLoci'. -/
def fnExactParseLociCard : Claim7 := { stood := { row := fnExactParseLociRow, standIns := [], harness := (true, "ce9236a80d5c0051170bc853ef970387bb2dd385f9f69d5dd9a89200b41e4087"), looks := true }, kinds := [], alts := [], laidByText := true, laidKinds := [.data, .data, .data, .data, .sentinel, .sentinel, .pinned], laidTests := true, laidLooks := .later }
def FnExactParseLociCardSaid : Prop := Claim7.holds Tryd.pinned (.plain (OpenSpec.ofChange fnExactParseLociSpec)) fnExactParseLociCard

/-- THE TIED CARD OF 'laws.FnExactRunPoints'. -/
def fnExactRunPointsCard : Claim7 := { stood := { row := fnExactRunPointsRow, standIns := [], harness := (true, "ce9236a80d5c0051170bc853ef970387bb2dd385f9f69d5dd9a89200b41e4087"), looks := true }, kinds := [], alts := [], laidByText := true, laidKinds := [.data, .data, .data, .data, .sentinel, .sentinel, .pinned], laidTests := true, laidLooks := .later }
def FnExactRunPointsCardSaid : Prop := Claim7.holds Tryd.pinned (.plain (OpenSpec.ofChange fnExactRunPointsSpec)) fnExactRunPointsCard

/-- THE SECOND FORM's CARD OF 'laws.FnExactVerbText'. -/
def fnExactVerbTextUptoCard : Claim7 := { stood := { row := fnExactVerbTextUptoRow, standIns := [], harness := (true, "ce9236a80d5c0051170bc853ef970387bb2dd385f9f69d5dd9a89200b41e4087"), looks := true }, kinds := [], alts := [], laidByText := true, laidKinds := [.data, .data, .data], laidTests := true, laidLooks := .later }
def FnExactVerbTextUptoCardSaid : Prop := Claim7.holds Tryd.pinned (.plain (OpenSpec.upto fnExactVerbTextSpec)) fnExactVerbTextUptoCard

/-- THE SECOND FORM's CARD OF 'laws.FnExactLociText'. -/
def fnExactLociTextUptoCard : Claim7 := { stood := { row := fnExactLociTextUptoRow, standIns := [], harness := (true, "ce9236a80d5c0051170bc853ef970387bb2dd385f9f69d5dd9a89200b41e4087"), looks := true }, kinds := [], alts := [], laidByText := true, laidKinds := [.data, .data, .data], laidTests := true, laidLooks := .later }
def FnExactLociTextUptoCardSaid : Prop := Claim7.holds Tryd.pinned (.plain (OpenSpec.upto fnExactLociTextSpec)) fnExactLociTextUptoCard

/-- THE SECOND FORM's CARD OF 'laws.FnExactParseVerb'. -/
def fnExactParseVerbUptoCard : Claim7 := { stood := { row := fnExactParseVerbUptoRow, standIns := [], harness := (true, "ce9236a80d5c0051170bc853ef970387bb2dd385f9f69d5dd9a89200b41e4087"), looks := true }, kinds := [], alts := [], laidByText := true, laidKinds := [.data, .data, .data, .sentinel, .sentinel], laidTests := true, laidLooks := .later }
def FnExactParseVerbUptoCardSaid : Prop := Claim7.holds Tryd.pinned (.plain (OpenSpec.upto fnExactParseVerbSpec)) fnExactParseVerbUptoCard

/-- THE SECOND FORM's CARD OF 'laws.FnExactParseLoci'. -/
def fnExactParseLociUptoCard : Claim7 := { stood := { row := fnExactParseLociUptoRow, standIns := [], harness := (true, "ce9236a80d5c0051170bc853ef970387bb2dd385f9f69d5dd9a89200b41e4087"), looks := true }, kinds := [], alts := [], laidByText := true, laidKinds := [.data, .data, .data, .data, .sentinel, .sentinel, .pinned], laidTests := true, laidLooks := .later }
def FnExactParseLociUptoCardSaid : Prop := Claim7.holds Tryd.pinned (.plain (OpenSpec.upto fnExactParseLociSpec)) fnExactParseLociUptoCard

/-- THE SECOND FORM's CARD OF 'laws.FnExactRunPoints'. -/
def fnExactRunPointsUptoCard : Claim7 := { stood := { row := fnExactRunPointsUptoRow, standIns := [], harness := (true, "ce9236a80d5c0051170bc853ef970387bb2dd385f9f69d5dd9a89200b41e4087"), looks := true }, kinds := [], alts := [], laidByText := true, laidKinds := [.data, .data, .data, .data, .sentinel, .sentinel, .pinned], laidTests := true, laidLooks := .later }
def FnExactRunPointsUptoCardSaid : Prop := Claim7.holds Tryd.pinned (.plain (OpenSpec.upto fnExactRunPointsSpec)) fnExactRunPointsUptoCard
end Rows
end Go.Proofs.YtbheajjagkdjmaaDoor

/-
  DERIVED. GIVEN WITH THE SEED: THE CARDS: each row of YtmlpogmedglncaaDoorRows.lean that lists a variable, with what it lists TIED to the program's text (the seventh form; the later family's looks); each row that meets fmt, with fmt's text TOLD by the authors' own Lean function (tested against real Go, not proved from fmt's source: count such statements apart). THE CARD IS WHAT COUNTS. Prove the row's statement (the work); the ties are given (YtmlpogmedglncaaDoorTie.lean); close each card by the builder's one call (the guide's Derived/Test/ToyasCard.lean, 'card_holds'). Laid BY PROGRAM, IN A SANDBOX (cutbox-door.mjs). By AI agents, Wed Nov 11 2026. No macro, syntax, notation, axiom, sorry.
-/
import Derived.Test.YtmlpogmedglncaaDoorRows
import GoSem.ClaimSeven
namespace Go.Proofs.YtmlpogmedglncaaDoor
namespace Rows

/-- THE TIED CARD OF 'laws.FnExactConstraintText'. -/
def fnExactConstraintTextCard : Claim7 := { stood := { row := fnExactConstraintTextRow, standIns := [], harness := (true, "36e6948f1db6797d231e9f60720179bb9693465dc0d57a25ffacb6dfd6d5ff2e"), looks := false }, kinds := [], alts := [], laidByText := true, laidKinds := [.data, .data, .data], laidTests := true, laidLooks := .later }
def FnExactConstraintTextCardSaid : Prop := Claim7.holds Tryd.pinned (.plain (OpenSpec.ofChange fnExactConstraintTextSpec)) fnExactConstraintTextCard

/-- THE TIED CARD OF 'laws.FnExactParseConstraint'. -/
def fnExactParseConstraintCard : Claim7 := { stood := { row := fnExactParseConstraintRow, standIns := [], harness := (true, "36e6948f1db6797d231e9f60720179bb9693465dc0d57a25ffacb6dfd6d5ff2e"), looks := false }, kinds := [], alts := [], laidByText := true, laidKinds := [.data, .data, .data], laidTests := true, laidLooks := .later }
def FnExactParseConstraintCardSaid : Prop := Claim7.holds Tryd.pinned (.plain (OpenSpec.ofChange fnExactParseConstraintSpec)) fnExactParseConstraintCard

/-- THE SECOND FORM's CARD OF 'laws.FnExactConstraintText'. -/
def fnExactConstraintTextUptoCard : Claim7 := { stood := { row := fnExactConstraintTextUptoRow, standIns := [], harness := (true, "36e6948f1db6797d231e9f60720179bb9693465dc0d57a25ffacb6dfd6d5ff2e"), looks := false }, kinds := [], alts := [], laidByText := true, laidKinds := [.data, .data, .data], laidTests := true, laidLooks := .later }
def FnExactConstraintTextUptoCardSaid : Prop := Claim7.holds Tryd.pinned (.plain (OpenSpec.upto fnExactConstraintTextSpec)) fnExactConstraintTextUptoCard

/-- THE SECOND FORM's CARD OF 'laws.FnExactParseConstraint'. -/
def fnExactParseConstraintUptoCard : Claim7 := { stood := { row := fnExactParseConstraintUptoRow, standIns := [], harness := (true, "36e6948f1db6797d231e9f60720179bb9693465dc0d57a25ffacb6dfd6d5ff2e"), looks := false }, kinds := [], alts := [], laidByText := true, laidKinds := [.data, .data, .data], laidTests := true, laidLooks := .later }
def FnExactParseConstraintUptoCardSaid : Prop := Claim7.holds Tryd.pinned (.plain (OpenSpec.upto fnExactParseConstraintSpec)) fnExactParseConstraintUptoCard
end Rows
end Go.Proofs.YtmlpogmedglncaaDoor

/-
  DERIVED. GIVEN WITH THE SEED: THE CARDS: each row of YtbfkpgmdbafmhaaDoorRows.lean that lists a variable, with what it lists TIED to the program's text (the seventh form; the later family's looks); each row that meets fmt, with fmt's text TOLD by the authors' own Lean function (tested against real Go, not proved from fmt's source: count such statements apart). THE CARD IS WHAT COUNTS. Prove the row's statement (the work); the ties are given (YtbfkpgmdbafmhaaDoorTie.lean); close each card by the builder's one call (the guide's Derived/Test/ToyasCard.lean, 'card_holds'). Laid BY PROGRAM, IN A SANDBOX (cutbox-door.mjs). By AI agents, Wed Nov 11 2026. No macro, syntax, notation, axiom, sorry.
-/
import Derived.Test.YtbfkpgmdbafmhaaDoorRows
import GoSem.ClaimSeven
namespace Go.Proofs.YtbfkpgmdbafmhaaDoor
namespace Rows

/-- THE TIED CARD OF 'laws.FnShapes'. -/
def fnShapesCard : Claim7 := { stood := { row := fnShapesRow, standIns := [], harness := (true, "d1c410620da41ebe11883c888d1f021e25828a7cf427a4f03cd705857e648de0"), looks := false }, kinds := [], alts := [], laidByText := true, laidKinds := [.data, .data, .data], laidTests := true, laidLooks := .later }
def FnShapesCardSaid : Prop := Claim7.holds Tryd.pinned (.plain (OpenSpec.ofChange fnShapesSpec)) fnShapesCard

/-- THE SECOND FORM's CARD OF 'laws.FnShapes'. -/
def fnShapesUptoCard : Claim7 := { stood := { row := fnShapesUptoRow, standIns := [], harness := (true, "d1c410620da41ebe11883c888d1f021e25828a7cf427a4f03cd705857e648de0"), looks := false }, kinds := [], alts := [], laidByText := true, laidKinds := [.data, .data, .data], laidTests := true, laidLooks := .later }
def FnShapesUptoCardSaid : Prop := Claim7.holds Tryd.pinned (.plain (OpenSpec.upto fnShapesSpec)) fnShapesUptoCard
end Rows
end Go.Proofs.YtbfkpgmdbafmhaaDoor

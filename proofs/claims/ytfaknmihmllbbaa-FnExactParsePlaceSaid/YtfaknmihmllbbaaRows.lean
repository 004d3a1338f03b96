/-
  No cell of these rows narrows 'for every input' (looked for: loops, veiled, ifaces, maps, wideKeys, modest, calm, conditions, laid).
  DERIVED. THE GIVEN ROWS OF THIS SEAT. 6 by the template 'for every input the law returns true; each argument reads behind the call as it read before'; 0 by the template 'total and deterministic' (their statements: YtfaknmihmllbbaaTotals.lean).
  GIVEN WITH THE SEED: the statements are not yours to turn. If you find one false, say at which input.
  Laid BY PROGRAM, IN A SANDBOX (cutbox-rows.mjs): the forced cells as the released guide's own fill.sh prints them over the translation 3b1137145d365646… (all of the seat's roots in one cut). By AI agents, Wed Nov 11 2026. No macro, syntax, notation, axiom, sorry.
-/
import Derived.Test.YtfaknmihmllbbaaChecked
import GoSem.Claim
import GoSem.ClaimJoined
import GoSem.ClaimMapViews
import Derived.JoinedTies
import Derived.KernelRfl
namespace Go.Proofs.Ytfaknmihmllbbaa
/- THE CELL 'sum', in the pinned program and in every row, IS THE sha256 OF THE DUMP (.gsa) THAT YtfaknmihmllbbaaProg.lean LOADS. Nothing in Lean hashes anything: it is a label: what it is worth is what the hold of that sum in a sandbox is worth. -/
noncomputable def Try.pinned : Pinned := { name := "ytfaknmihmllbbaa", sum := "3b1137145d365646a374702757daff520dbd4171305a2b7310094cf1c3971bce", checked := Try.checked }
namespace Rows
def none {H : Type} : Left H := { results := [], args := [] }

/-- 'laws.FnExactOrientText': WHATEVER THE INPUT: true; the input reads as it did. -/
def fnExactOrientTextSpec : ChangeSpec := { name := "fnExactOrientText", fn := fun _ => fun
  | [d] => { results := [.lit (.bool true)], args := [d] }
  | _ => none }
def fnExactOrientTextRow : OpenClaim := { program := "ytfaknmihmllbbaa", sum := "3b1137145d365646a374702757daff520dbd4171305a2b7310094cf1c3971bce", func := "loop.example/g01008/laws.FnExactOrientText", spec := "fnExactOrientText", apart := false }
def FnExactOrientTextSaid : Prop := fnExactOrientTextRow.holds Try.pinned (OpenSpec.ofChange fnExactOrientTextSpec)

/-- ITS FALSE NEIGHBOUR: 'it returns false'. Refute it at one input. -/
def fnExactOrientTextWrong : ChangeSpec := { name := "fnExactOrientText", fn := fun _ => fun
  | [d] => { results := [.lit (.bool false)], args := [d] }
  | _ => none }
def FnExactOrientTextWrongFalsely : Prop := fnExactOrientTextRow.holds Try.pinned (OpenSpec.ofChange fnExactOrientTextWrong)

/-- 'laws.FnExactPlaceText': WHATEVER THE INPUT: true; the input reads as it did. -/
def fnExactPlaceTextSpec : ChangeSpec := { name := "fnExactPlaceText", fn := fun _ => fun
  | [d] => { results := [.lit (.bool true)], args := [d] }
  | _ => none }
def fnExactPlaceTextRow : OpenClaim := { program := "ytfaknmihmllbbaa", sum := "3b1137145d365646a374702757daff520dbd4171305a2b7310094cf1c3971bce", func := "loop.example/g01008/laws.FnExactPlaceText", spec := "fnExactPlaceText", apart := false }
def FnExactPlaceTextSaid : Prop := fnExactPlaceTextRow.holds Try.pinned (OpenSpec.ofChange fnExactPlaceTextSpec)

/-- ITS FALSE NEIGHBOUR: 'it returns false'. Refute it at one input. -/
def fnExactPlaceTextWrong : ChangeSpec := { name := "fnExactPlaceText", fn := fun _ => fun
  | [d] => { results := [.lit (.bool false)], args := [d] }
  | _ => none }
def FnExactPlaceTextWrongFalsely : Prop := fnExactPlaceTextRow.holds Try.pinned (OpenSpec.ofChange fnExactPlaceTextWrong)

/-- 'laws.FnExactIsVerb': WHATEVER THE INPUT: true; the input reads as it did. -/
def fnExactIsVerbSpec : ChangeSpec := { name := "fnExactIsVerb", fn := fun _ => fun
  | [d] => { results := [.lit (.bool true)], args := [d] }
  | _ => none }
def fnExactIsVerbRow : OpenClaim := { program := "ytfaknmihmllbbaa", sum := "3b1137145d365646a374702757daff520dbd4171305a2b7310094cf1c3971bce", func := "loop.example/g01008/laws.FnExactIsVerb", spec := "fnExactIsVerb", inPlace := ["internal/bytealg.IndexByteString"], apart := false }
def FnExactIsVerbSaid : Prop := fnExactIsVerbRow.holds Try.pinned (OpenSpec.ofChange fnExactIsVerbSpec)

/-- ITS FALSE NEIGHBOUR: 'it returns false'. Refute it at one input. -/
def fnExactIsVerbWrong : ChangeSpec := { name := "fnExactIsVerb", fn := fun _ => fun
  | [d] => { results := [.lit (.bool false)], args := [d] }
  | _ => none }
def FnExactIsVerbWrongFalsely : Prop := fnExactIsVerbRow.holds Try.pinned (OpenSpec.ofChange fnExactIsVerbWrong)

/-- 'laws.FnExactReverseVerb': WHATEVER THE INPUT: true; the input reads as it did. -/
def fnExactReverseVerbSpec : ChangeSpec := { name := "fnExactReverseVerb", fn := fun _ => fun
  | [d] => { results := [.lit (.bool true)], args := [d] }
  | _ => none }
def fnExactReverseVerbRow : OpenClaim := { program := "ytfaknmihmllbbaa", sum := "3b1137145d365646a374702757daff520dbd4171305a2b7310094cf1c3971bce", func := "loop.example/g01008/laws.FnExactReverseVerb", spec := "fnExactReverseVerb", inPlace := ["internal/bytealg.IndexByteString"], apart := false }
def FnExactReverseVerbSaid : Prop := fnExactReverseVerbRow.holds Try.pinned (OpenSpec.ofChange fnExactReverseVerbSpec)

/-- ITS FALSE NEIGHBOUR: 'it returns false'. Refute it at one input. -/
def fnExactReverseVerbWrong : ChangeSpec := { name := "fnExactReverseVerb", fn := fun _ => fun
  | [d] => { results := [.lit (.bool false)], args := [d] }
  | _ => none }
def FnExactReverseVerbWrongFalsely : Prop := fnExactReverseVerbRow.holds Try.pinned (OpenSpec.ofChange fnExactReverseVerbWrong)

/-- 'laws.FnExactParsePlace': WHATEVER THE INPUT: true; the input reads as it did. -/
def fnExactParsePlaceSpec : ChangeSpec := { name := "fnExactParsePlace", fn := fun _ => fun
  | [d] => { results := [.lit (.bool true)], args := [d] }
  | _ => none }
def fnExactParsePlaceRow : OpenClaim := { program := "ytfaknmihmllbbaa", sum := "3b1137145d365646a374702757daff520dbd4171305a2b7310094cf1c3971bce", func := "loop.example/g01008/laws.FnExactParsePlace", spec := "fnExactParsePlace", apart := false }
def FnExactParsePlaceSaid : Prop := fnExactParsePlaceRow.holds Try.pinned (OpenSpec.ofChange fnExactParsePlaceSpec)

/-- ITS FALSE NEIGHBOUR: 'it returns false'. Refute it at one input. -/
def fnExactParsePlaceWrong : ChangeSpec := { name := "fnExactParsePlace", fn := fun _ => fun
  | [d] => { results := [.lit (.bool false)], args := [d] }
  | _ => none }
def FnExactParsePlaceWrongFalsely : Prop := fnExactParsePlaceRow.holds Try.pinned (OpenSpec.ofChange fnExactParsePlaceWrong)

/-- 'laws.FnExactAreLoci': WHATEVER THE INPUT: true; the input reads as it did. -/
def fnExactAreLociSpec : ChangeSpec := { name := "fnExactAreLoci", fn := fun _ => fun
  | [d] => { results := [.lit (.bool true)], args := [d] }
  | _ => none }
def fnExactAreLociRow : OpenClaim := { program := "ytfaknmihmllbbaa", sum := "3b1137145d365646a374702757daff520dbd4171305a2b7310094cf1c3971bce", func := "loop.example/g01008/laws.FnExactAreLoci", spec := "fnExactAreLoci", inPlace := ["internal/bytealg.IndexByteString"], unfollowed := true, recurses := true, apart := false }
def FnExactAreLociSaid : Prop := fnExactAreLociRow.holds Try.pinned (OpenSpec.ofChange fnExactAreLociSpec)

/-- ITS FALSE NEIGHBOUR: 'it returns false'. Refute it at one input. -/
def fnExactAreLociWrong : ChangeSpec := { name := "fnExactAreLoci", fn := fun _ => fun
  | [d] => { results := [.lit (.bool false)], args := [d] }
  | _ => none }
def FnExactAreLociWrongFalsely : Prop := fnExactAreLociRow.holds Try.pinned (OpenSpec.ofChange fnExactAreLociWrong)

/- THE SECOND FORM. 'bulk': how many values and letters a reading holds, each counted each time it is reached (what is shared counts as often as it is met; a slice's spare places count too). A statement '..UptoSaid' is the law's where the arguments, and the package variables that the reading takes, are together of bulk at most 1048576: NARROWER than '..Said'. Prove '..Said' where nothing that the law and all that it calls make is longer than what came in: it says more and counts as full. Else prove '..UptoSaid'. A law counts once. -/
mutual
def uptoBulk {H : Type} : DataW H → Nat
  | .lit (.string bytes) => bytes.length + 1
  | .lit _ => 1
  | .nil => 1
  | .ptr d => uptoBulk d + 1
  | .slice elems spare => uptoBulkAll elems + uptoBulkAll spare + 1
  | .agg parts => uptoBulkAll parts + 1
  | .iface _ d => uptoBulk d + 1
  | .map entries => uptoBulkEntries entries + 1
  | .held _ => 1
def uptoBulkAll {H : Type} : List (DataW H) → Nat
  | [] => 0
  | d :: r => uptoBulk d + uptoBulkAll r
def uptoBulkEntries {H : Type} : List (Lit × DataW H) → Nat
  | [] => 0
  | x :: r => uptoBulkEntry x + uptoBulkEntries r
def uptoBulkEntry {H : Type} : Lit × DataW H → Nat
  | (.string bytes, d) => bytes.length + uptoBulk d + 1
  | (_, d) => uptoBulk d + 1
 end
def uptoSmall : (H : Type) → List (DataW H) → Bool := fun _ ds => decide (uptoBulkAll ds ≤ 1048576)
def OpenSpec.upto (s : _root_.Go.ChangeSpec) : _root_.Go.OpenSpec := { _root_.Go.OpenSpec.ofChange s with cond := some uptoSmall }

/-- 'laws.FnExactOrientText', WHERE WHAT IT READS IS OF BULK AT MOST 1048576: true; the input reads as it did. -/
def fnExactOrientTextUptoRow : OpenClaim := { program := "ytfaknmihmllbbaa", sum := "3b1137145d365646a374702757daff520dbd4171305a2b7310094cf1c3971bce", func := "loop.example/g01008/laws.FnExactOrientText", spec := "fnExactOrientText", apart := false, narrowed := true }
def FnExactOrientTextUptoSaid : Prop := fnExactOrientTextUptoRow.holds Try.pinned (OpenSpec.upto fnExactOrientTextSpec)

/-- 'laws.FnExactPlaceText', WHERE WHAT IT READS IS OF BULK AT MOST 1048576: true; the input reads as it did. -/
def fnExactPlaceTextUptoRow : OpenClaim := { program := "ytfaknmihmllbbaa", sum := "3b1137145d365646a374702757daff520dbd4171305a2b7310094cf1c3971bce", func := "loop.example/g01008/laws.FnExactPlaceText", spec := "fnExactPlaceText", apart := false, narrowed := true }
def FnExactPlaceTextUptoSaid : Prop := fnExactPlaceTextUptoRow.holds Try.pinned (OpenSpec.upto fnExactPlaceTextSpec)

/-- 'laws.FnExactIsVerb', WHERE WHAT IT READS IS OF BULK AT MOST 1048576: true; the input reads as it did. -/
def fnExactIsVerbUptoRow : OpenClaim := { program := "ytfaknmihmllbbaa", sum := "3b1137145d365646a374702757daff520dbd4171305a2b7310094cf1c3971bce", func := "loop.example/g01008/laws.FnExactIsVerb", spec := "fnExactIsVerb", inPlace := ["internal/bytealg.IndexByteString"], apart := false, narrowed := true }
def FnExactIsVerbUptoSaid : Prop := fnExactIsVerbUptoRow.holds Try.pinned (OpenSpec.upto fnExactIsVerbSpec)

/-- 'laws.FnExactReverseVerb', WHERE WHAT IT READS IS OF BULK AT MOST 1048576: true; the input reads as it did. -/
def fnExactReverseVerbUptoRow : OpenClaim := { program := "ytfaknmihmllbbaa", sum := "3b1137145d365646a374702757daff520dbd4171305a2b7310094cf1c3971bce", func := "loop.example/g01008/laws.FnExactReverseVerb", spec := "fnExactReverseVerb", inPlace := ["internal/bytealg.IndexByteString"], apart := false, narrowed := true }
def FnExactReverseVerbUptoSaid : Prop := fnExactReverseVerbUptoRow.holds Try.pinned (OpenSpec.upto fnExactReverseVerbSpec)

/-- 'laws.FnExactParsePlace', WHERE WHAT IT READS IS OF BULK AT MOST 1048576: true; the input reads as it did. -/
def fnExactParsePlaceUptoRow : OpenClaim := { program := "ytfaknmihmllbbaa", sum := "3b1137145d365646a374702757daff520dbd4171305a2b7310094cf1c3971bce", func := "loop.example/g01008/laws.FnExactParsePlace", spec := "fnExactParsePlace", apart := false, narrowed := true }
def FnExactParsePlaceUptoSaid : Prop := fnExactParsePlaceUptoRow.holds Try.pinned (OpenSpec.upto fnExactParsePlaceSpec)

/-- 'laws.FnExactAreLoci', WHERE WHAT IT READS IS OF BULK AT MOST 1048576: true; the input reads as it did. -/
def fnExactAreLociUptoRow : OpenClaim := { program := "ytfaknmihmllbbaa", sum := "3b1137145d365646a374702757daff520dbd4171305a2b7310094cf1c3971bce", func := "loop.example/g01008/laws.FnExactAreLoci", spec := "fnExactAreLoci", inPlace := ["internal/bytealg.IndexByteString"], unfollowed := true, recurses := true, apart := false, narrowed := true }
def FnExactAreLociUptoSaid : Prop := fnExactAreLociUptoRow.holds Try.pinned (OpenSpec.upto fnExactAreLociSpec)

end Rows
end Go.Proofs.Ytfaknmihmllbbaa

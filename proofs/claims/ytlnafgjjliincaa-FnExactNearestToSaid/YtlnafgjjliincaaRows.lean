/-
  No cell of these rows narrows 'for every input' (looked for: loops, veiled, ifaces, maps, wideKeys, modest, calm, conditions, laid).
  DERIVED. THE GIVEN ROWS OF THIS SEAT. 12 by the template 'for every input the law returns true; each argument reads behind the call as it read before'; 0 by the template 'total and deterministic' (their statements: YtlnafgjjliincaaTotals.lean).
  GIVEN WITH THE SEED: the statements are not yours to turn. If you find one false, say at which input.
  Laid BY PROGRAM, IN A SANDBOX (cutbox-rows.mjs): the forced cells as the released guide's own fill.sh prints them over the translation 089d4b39d152ce65… (all of the seat's roots in one cut). By AI agents, Wed Nov 11 2026. No macro, syntax, notation, axiom, sorry.
-/
import Derived.Test.YtlnafgjjliincaaChecked
import GoSem.Claim
import GoSem.ClaimJoined
import GoSem.ClaimMapViews
import Derived.JoinedTies
import Derived.KernelRfl
namespace Go.Proofs.Ytlnafgjjliincaa
/- THE CELL 'sum', in the pinned program and in every row, IS THE sha256 OF THE DUMP (.gsa) THAT YtlnafgjjliincaaProg.lean LOADS. Nothing in Lean hashes anything: it is a label: what it is worth is what the hold of that sum in a sandbox is worth. -/
noncomputable def Try.pinned : Pinned := { name := "ytlnafgjjliincaa", sum := "089d4b39d152ce6507f694a67c3dc3587fc7836847198821c93d7bbd2b0a5a93", checked := Try.checked }
namespace Rows
def none {H : Type} : Left H := { results := [], args := [] }

/-- 'laws.FnExactVerbFor': WHATEVER THE INPUT: true; the input reads as it did. -/
def fnExactVerbForSpec : ChangeSpec := { name := "fnExactVerbFor", fn := fun _ => fun
  | [d1, d2, d3, d4] => { results := [.lit (.bool true)], args := [d1, d2, d3, d4] }
  | _ => none }
def fnExactVerbForRow : OpenClaim := { program := "ytlnafgjjliincaa", sum := "089d4b39d152ce6507f694a67c3dc3587fc7836847198821c93d7bbd2b0a5a93", func := "loop.example/g01008/laws.FnExactVerbFor", spec := "fnExactVerbFor", inPlace := ["internal/bytealg.IndexByteString"], unfollowed := true, recurses := true, apart := false }
def FnExactVerbForSaid : Prop := fnExactVerbForRow.holds Try.pinned (OpenSpec.ofChange fnExactVerbForSpec)

/-- ITS FALSE NEIGHBOUR: 'it returns false'. Refute it at one input. -/
def fnExactVerbForWrong : ChangeSpec := { name := "fnExactVerbFor", fn := fun _ => fun
  | [d1, d2, d3, d4] => { results := [.lit (.bool false)], args := [d1, d2, d3, d4] }
  | _ => none }
def FnExactVerbForWrongFalsely : Prop := fnExactVerbForRow.holds Try.pinned (OpenSpec.ofChange fnExactVerbForWrong)

/-- 'laws.FnExactBestAngle': WHATEVER THE INPUT: true; the input reads as it did. -/
def fnExactBestAngleSpec : ChangeSpec := { name := "fnExactBestAngle", fn := fun _ => fun
  | [d] => { results := [.lit (.bool true)], args := [d] }
  | _ => none }
def fnExactBestAngleRow : OpenClaim := { program := "ytlnafgjjliincaa", sum := "089d4b39d152ce6507f694a67c3dc3587fc7836847198821c93d7bbd2b0a5a93", func := "loop.example/g01008/laws.FnExactBestAngle", spec := "fnExactBestAngle", inPlace := ["internal/bytealg.IndexByteString"], unfollowed := true, recurses := true, apart := false }
def FnExactBestAngleSaid : Prop := fnExactBestAngleRow.holds Try.pinned (OpenSpec.ofChange fnExactBestAngleSpec)

/-- ITS FALSE NEIGHBOUR: 'it returns false'. Refute it at one input. -/
def fnExactBestAngleWrong : ChangeSpec := { name := "fnExactBestAngle", fn := fun _ => fun
  | [d] => { results := [.lit (.bool false)], args := [d] }
  | _ => none }
def FnExactBestAngleWrongFalsely : Prop := fnExactBestAngleRow.holds Try.pinned (OpenSpec.ofChange fnExactBestAngleWrong)

/-- 'laws.FnExactSpreadLoci': WHATEVER THE INPUT: true; the input reads as it did. -/
def fnExactSpreadLociSpec : ChangeSpec := { name := "fnExactSpreadLoci", fn := fun _ => fun
  | [d] => { results := [.lit (.bool true)], args := [d] }
  | _ => none }
def fnExactSpreadLociRow : OpenClaim := { program := "ytlnafgjjliincaa", sum := "089d4b39d152ce6507f694a67c3dc3587fc7836847198821c93d7bbd2b0a5a93", func := "loop.example/g01008/laws.FnExactSpreadLoci", spec := "fnExactSpreadLoci", inPlace := ["internal/bytealg.IndexByteString"], unfollowed := true, recurses := true, apart := false }
def FnExactSpreadLociSaid : Prop := fnExactSpreadLociRow.holds Try.pinned (OpenSpec.ofChange fnExactSpreadLociSpec)

/-- ITS FALSE NEIGHBOUR: 'it returns false'. Refute it at one input. -/
def fnExactSpreadLociWrong : ChangeSpec := { name := "fnExactSpreadLoci", fn := fun _ => fun
  | [d] => { results := [.lit (.bool false)], args := [d] }
  | _ => none }
def FnExactSpreadLociWrongFalsely : Prop := fnExactSpreadLociRow.holds Try.pinned (OpenSpec.ofChange fnExactSpreadLociWrong)

/-- 'laws.FnExactPointsAt': WHATEVER THE INPUT: true; the input reads as it did. -/
def fnExactPointsAtSpec : ChangeSpec := { name := "fnExactPointsAt", fn := fun _ => fun
  | [d1, d2] => { results := [.lit (.bool true)], args := [d1, d2] }
  | _ => none }
def fnExactPointsAtRow : OpenClaim := { program := "ytlnafgjjliincaa", sum := "089d4b39d152ce6507f694a67c3dc3587fc7836847198821c93d7bbd2b0a5a93", func := "loop.example/g01008/laws.FnExactPointsAt", spec := "fnExactPointsAt", inPlace := ["internal/bytealg.IndexByteString"], unfollowed := true, recurses := true, apart := false }
def FnExactPointsAtSaid : Prop := fnExactPointsAtRow.holds Try.pinned (OpenSpec.ofChange fnExactPointsAtSpec)

/-- ITS FALSE NEIGHBOUR: 'it returns false'. Refute it at one input. -/
def fnExactPointsAtWrong : ChangeSpec := { name := "fnExactPointsAt", fn := fun _ => fun
  | [d1, d2] => { results := [.lit (.bool false)], args := [d1, d2] }
  | _ => none }
def FnExactPointsAtWrongFalsely : Prop := fnExactPointsAtRow.holds Try.pinned (OpenSpec.ofChange fnExactPointsAtWrong)

/-- 'laws.FnExactNearestTo': WHATEVER THE INPUT: true; the input reads as it did. -/
def fnExactNearestToSpec : ChangeSpec := { name := "fnExactNearestTo", fn := fun _ => fun
  | [d1, d2] => { results := [.lit (.bool true)], args := [d1, d2] }
  | _ => none }
def fnExactNearestToRow : OpenClaim := { program := "ytlnafgjjliincaa", sum := "089d4b39d152ce6507f694a67c3dc3587fc7836847198821c93d7bbd2b0a5a93", func := "loop.example/g01008/laws.FnExactNearestTo", spec := "fnExactNearestTo", inPlace := ["internal/bytealg.IndexByteString"], unfollowed := true, recurses := true, apart := false }
def FnExactNearestToSaid : Prop := fnExactNearestToRow.holds Try.pinned (OpenSpec.ofChange fnExactNearestToSpec)

/-- ITS FALSE NEIGHBOUR: 'it returns false'. Refute it at one input. -/
def fnExactNearestToWrong : ChangeSpec := { name := "fnExactNearestTo", fn := fun _ => fun
  | [d1, d2] => { results := [.lit (.bool false)], args := [d1, d2] }
  | _ => none }
def FnExactNearestToWrongFalsely : Prop := fnExactNearestToRow.holds Try.pinned (OpenSpec.ofChange fnExactNearestToWrong)

/-- 'laws.FnExactDropReferent': WHATEVER THE INPUT: true; the input reads as it did. -/
def fnExactDropReferentSpec : ChangeSpec := { name := "fnExactDropReferent", fn := fun _ => fun
  | [d1, d2] => { results := [.lit (.bool true)], args := [d1, d2] }
  | _ => none }
def fnExactDropReferentRow : OpenClaim := { program := "ytlnafgjjliincaa", sum := "089d4b39d152ce6507f694a67c3dc3587fc7836847198821c93d7bbd2b0a5a93", func := "loop.example/g01008/laws.FnExactDropReferent", spec := "fnExactDropReferent", inPlace := ["internal/bytealg.IndexByteString"], unfollowed := true, recurses := true, apart := false }
def FnExactDropReferentSaid : Prop := fnExactDropReferentRow.holds Try.pinned (OpenSpec.ofChange fnExactDropReferentSpec)

/-- ITS FALSE NEIGHBOUR: 'it returns false'. Refute it at one input. -/
def fnExactDropReferentWrong : ChangeSpec := { name := "fnExactDropReferent", fn := fun _ => fun
  | [d1, d2] => { results := [.lit (.bool false)], args := [d1, d2] }
  | _ => none }
def FnExactDropReferentWrongFalsely : Prop := fnExactDropReferentRow.holds Try.pinned (OpenSpec.ofChange fnExactDropReferentWrong)

/-- 'laws.FnExactVerbInRole': WHATEVER THE INPUT: true; the input reads as it did. -/
def fnExactVerbInRoleSpec : ChangeSpec := { name := "fnExactVerbInRole", fn := fun _ => fun
  | [d1, d2, d3] => { results := [.lit (.bool true)], args := [d1, d2, d3] }
  | _ => none }
def fnExactVerbInRoleRow : OpenClaim := { program := "ytlnafgjjliincaa", sum := "089d4b39d152ce6507f694a67c3dc3587fc7836847198821c93d7bbd2b0a5a93", func := "loop.example/g01008/laws.FnExactVerbInRole", spec := "fnExactVerbInRole", inPlace := ["internal/bytealg.IndexByteString"], unfollowed := true, recurses := true, apart := false }
def FnExactVerbInRoleSaid : Prop := fnExactVerbInRoleRow.holds Try.pinned (OpenSpec.ofChange fnExactVerbInRoleSpec)

/-- ITS FALSE NEIGHBOUR: 'it returns false'. Refute it at one input. -/
def fnExactVerbInRoleWrong : ChangeSpec := { name := "fnExactVerbInRole", fn := fun _ => fun
  | [d1, d2, d3] => { results := [.lit (.bool false)], args := [d1, d2, d3] }
  | _ => none }
def FnExactVerbInRoleWrongFalsely : Prop := fnExactVerbInRoleRow.holds Try.pinned (OpenSpec.ofChange fnExactVerbInRoleWrong)

/-- 'laws.FnExactAmbiguousAngles': WHATEVER THE INPUT: true; the input reads as it did. -/
def fnExactAmbiguousAnglesSpec : ChangeSpec := { name := "fnExactAmbiguousAngles", fn := fun _ => fun
  | [d] => { results := [.lit (.bool true)], args := [d] }
  | _ => none }
def fnExactAmbiguousAnglesRow : OpenClaim := { program := "ytlnafgjjliincaa", sum := "089d4b39d152ce6507f694a67c3dc3587fc7836847198821c93d7bbd2b0a5a93", func := "loop.example/g01008/laws.FnExactAmbiguousAngles", spec := "fnExactAmbiguousAngles", inPlace := ["internal/bytealg.IndexByteString"], unfollowed := true, recurses := true, apart := false }
def FnExactAmbiguousAnglesSaid : Prop := fnExactAmbiguousAnglesRow.holds Try.pinned (OpenSpec.ofChange fnExactAmbiguousAnglesSpec)

/-- ITS FALSE NEIGHBOUR: 'it returns false'. Refute it at one input. -/
def fnExactAmbiguousAnglesWrong : ChangeSpec := { name := "fnExactAmbiguousAngles", fn := fun _ => fun
  | [d] => { results := [.lit (.bool false)], args := [d] }
  | _ => none }
def FnExactAmbiguousAnglesWrongFalsely : Prop := fnExactAmbiguousAnglesRow.holds Try.pinned (OpenSpec.ofChange fnExactAmbiguousAnglesWrong)

/-- 'laws.FnExactMeaningOf': WHATEVER THE INPUT: true; the input reads as it did. -/
def fnExactMeaningOfSpec : ChangeSpec := { name := "fnExactMeaningOf", fn := fun _ => fun
  | [d1, d2] => { results := [.lit (.bool true)], args := [d1, d2] }
  | _ => none }
def fnExactMeaningOfRow : OpenClaim := { program := "ytlnafgjjliincaa", sum := "089d4b39d152ce6507f694a67c3dc3587fc7836847198821c93d7bbd2b0a5a93", func := "loop.example/g01008/laws.FnExactMeaningOf", spec := "fnExactMeaningOf", inPlace := ["internal/bytealg.IndexByteString"], unfollowed := true, recurses := true, apart := false }
def FnExactMeaningOfSaid : Prop := fnExactMeaningOfRow.holds Try.pinned (OpenSpec.ofChange fnExactMeaningOfSpec)

/-- ITS FALSE NEIGHBOUR: 'it returns false'. Refute it at one input. -/
def fnExactMeaningOfWrong : ChangeSpec := { name := "fnExactMeaningOf", fn := fun _ => fun
  | [d1, d2] => { results := [.lit (.bool false)], args := [d1, d2] }
  | _ => none }
def FnExactMeaningOfWrongFalsely : Prop := fnExactMeaningOfRow.holds Try.pinned (OpenSpec.ofChange fnExactMeaningOfWrong)

/-- 'laws.FnExactAgreesWith': WHATEVER THE INPUT: true; the input reads as it did. -/
def fnExactAgreesWithSpec : ChangeSpec := { name := "fnExactAgreesWith", fn := fun _ => fun
  | [d1, d2, d3, d4] => { results := [.lit (.bool true)], args := [d1, d2, d3, d4] }
  | _ => none }
def fnExactAgreesWithRow : OpenClaim := { program := "ytlnafgjjliincaa", sum := "089d4b39d152ce6507f694a67c3dc3587fc7836847198821c93d7bbd2b0a5a93", func := "loop.example/g01008/laws.FnExactAgreesWith", spec := "fnExactAgreesWith", inPlace := ["internal/bytealg.IndexByteString"], unfollowed := true, recurses := true, apart := false }
def FnExactAgreesWithSaid : Prop := fnExactAgreesWithRow.holds Try.pinned (OpenSpec.ofChange fnExactAgreesWithSpec)

/-- ITS FALSE NEIGHBOUR: 'it returns false'. Refute it at one input. -/
def fnExactAgreesWithWrong : ChangeSpec := { name := "fnExactAgreesWith", fn := fun _ => fun
  | [d1, d2, d3, d4] => { results := [.lit (.bool false)], args := [d1, d2, d3, d4] }
  | _ => none }
def FnExactAgreesWithWrongFalsely : Prop := fnExactAgreesWithRow.holds Try.pinned (OpenSpec.ofChange fnExactAgreesWithWrong)

/-- 'laws.FnExactClosestVerb': WHATEVER THE INPUT: true; the input reads as it did. -/
def fnExactClosestVerbSpec : ChangeSpec := { name := "fnExactClosestVerb", fn := fun _ => fun
  | [d1, d2, d3, d4] => { results := [.lit (.bool true)], args := [d1, d2, d3, d4] }
  | _ => none }
def fnExactClosestVerbRow : OpenClaim := { program := "ytlnafgjjliincaa", sum := "089d4b39d152ce6507f694a67c3dc3587fc7836847198821c93d7bbd2b0a5a93", func := "loop.example/g01008/laws.FnExactClosestVerb", spec := "fnExactClosestVerb", inPlace := ["internal/bytealg.IndexByteString"], unfollowed := true, recurses := true, apart := false }
def FnExactClosestVerbSaid : Prop := fnExactClosestVerbRow.holds Try.pinned (OpenSpec.ofChange fnExactClosestVerbSpec)

/-- ITS FALSE NEIGHBOUR: 'it returns false'. Refute it at one input. -/
def fnExactClosestVerbWrong : ChangeSpec := { name := "fnExactClosestVerb", fn := fun _ => fun
  | [d1, d2, d3, d4] => { results := [.lit (.bool false)], args := [d1, d2, d3, d4] }
  | _ => none }
def FnExactClosestVerbWrongFalsely : Prop := fnExactClosestVerbRow.holds Try.pinned (OpenSpec.ofChange fnExactClosestVerbWrong)

/-- 'laws.FnExactRunVerbs': WHATEVER THE INPUT: true; the input reads as it did. -/
def fnExactRunVerbsSpec : ChangeSpec := { name := "fnExactRunVerbs", fn := fun _ => fun
  | [d1, d2] => { results := [.lit (.bool true)], args := [d1, d2] }
  | _ => none }
def fnExactRunVerbsRow : OpenClaim := { program := "ytlnafgjjliincaa", sum := "089d4b39d152ce6507f694a67c3dc3587fc7836847198821c93d7bbd2b0a5a93", func := "loop.example/g01008/laws.FnExactRunVerbs", spec := "fnExactRunVerbs", inPlace := ["internal/bytealg.IndexByteString"], unfollowed := true, recurses := true, apart := false }
def FnExactRunVerbsSaid : Prop := fnExactRunVerbsRow.holds Try.pinned (OpenSpec.ofChange fnExactRunVerbsSpec)

/-- ITS FALSE NEIGHBOUR: 'it returns false'. Refute it at one input. -/
def fnExactRunVerbsWrong : ChangeSpec := { name := "fnExactRunVerbs", fn := fun _ => fun
  | [d1, d2] => { results := [.lit (.bool false)], args := [d1, d2] }
  | _ => none }
def FnExactRunVerbsWrongFalsely : Prop := fnExactRunVerbsRow.holds Try.pinned (OpenSpec.ofChange fnExactRunVerbsWrong)

/- THE SECOND FORM. 'bulk': how many values and letters a reading holds, each counted each time it is reached (what is shared counts as often as it is met; a slice's spare places count too). A statement '..UptoSaid' is the law's where the arguments, and the package variables that the reading takes, are together of bulk at most 1048576: NARROWER than '..Said'. Prove '..Said' where nothing that the law and all that it calls make is longer than what came in: it says more and counts as full. Else prove '..UptoSaid'. A law counts once. -/
mutual
def uptoBulk {H : Type} : DataW H → Nat
  | .lit (.string bytes) => bytes.length + 1
  | .lit _ => 1
  | .nil => 1
  | .ptr d => uptoBulk d + 1
  | .slice elems spare => uptoBulkAll elems + uptoBulkAll spare + 1
  | .agg parts => uptoBulkAll parts + 1
  | .iface _ d => uptoBulk d + 1
  | .map entries => uptoBulkEntries entries + 1
  | .held _ => 1
def uptoBulkAll {H : Type} : List (DataW H) → Nat
  | [] => 0
  | d :: r => uptoBulk d + uptoBulkAll r
def uptoBulkEntries {H : Type} : List (Lit × DataW H) → Nat
  | [] => 0
  | x :: r => uptoBulkEntry x + uptoBulkEntries r
def uptoBulkEntry {H : Type} : Lit × DataW H → Nat
  | (.string bytes, d) => bytes.length + uptoBulk d + 1
  | (_, d) => uptoBulk d + 1
 end
def uptoSmall : (H : Type) → List (DataW H) → Bool := fun _ ds => decide (uptoBulkAll ds ≤ 1048576)
def OpenSpec.upto (s : _root_.Go.ChangeSpec) : _root_.Go.OpenSpec := { _root_.Go.OpenSpec.ofChange s with cond := some uptoSmall }

/-- 'laws.FnExactVerbFor', WHERE WHAT IT READS IS OF BULK AT MOST 1048576: true; the input reads as it did. -/
def fnExactVerbForUptoRow : OpenClaim := { program := "ytlnafgjjliincaa", sum := "089d4b39d152ce6507f694a67c3dc3587fc7836847198821c93d7bbd2b0a5a93", func := "loop.example/g01008/laws.FnExactVerbFor", spec := "fnExactVerbFor", inPlace := ["internal/bytealg.IndexByteString"], unfollowed := true, recurses := true, apart := false, narrowed := true }
def FnExactVerbForUptoSaid : Prop := fnExactVerbForUptoRow.holds Try.pinned (OpenSpec.upto fnExactVerbForSpec)

/-- 'laws.FnExactBestAngle', WHERE WHAT IT READS IS OF BULK AT MOST 1048576: true; the input reads as it did. -/
def fnExactBestAngleUptoRow : OpenClaim := { program := "ytlnafgjjliincaa", sum := "089d4b39d152ce6507f694a67c3dc3587fc7836847198821c93d7bbd2b0a5a93", func := "loop.example/g01008/laws.FnExactBestAngle", spec := "fnExactBestAngle", inPlace := ["internal/bytealg.IndexByteString"], unfollowed := true, recurses := true, apart := false, narrowed := true }
def FnExactBestAngleUptoSaid : Prop := fnExactBestAngleUptoRow.holds Try.pinned (OpenSpec.upto fnExactBestAngleSpec)

/-- 'laws.FnExactSpreadLoci', WHERE WHAT IT READS IS OF BULK AT MOST 1048576: true; the input reads as it did. -/
def fnExactSpreadLociUptoRow : OpenClaim := { program := "ytlnafgjjliincaa", sum := "089d4b39d152ce6507f694a67c3dc3587fc7836847198821c93d7bbd2b0a5a93", func := "loop.example/g01008/laws.FnExactSpreadLoci", spec := "fnExactSpreadLoci", inPlace := ["internal/bytealg.IndexByteString"], unfollowed := true, recurses := true, apart := false, narrowed := true }
def FnExactSpreadLociUptoSaid : Prop := fnExactSpreadLociUptoRow.holds Try.pinned (OpenSpec.upto fnExactSpreadLociSpec)

/-- 'laws.FnExactPointsAt', WHERE WHAT IT READS IS OF BULK AT MOST 1048576: true; the input reads as it did. -/
def fnExactPointsAtUptoRow : OpenClaim := { program := "ytlnafgjjliincaa", sum := "089d4b39d152ce6507f694a67c3dc3587fc7836847198821c93d7bbd2b0a5a93", func := "loop.example/g01008/laws.FnExactPointsAt", spec := "fnExactPointsAt", inPlace := ["internal/bytealg.IndexByteString"], unfollowed := true, recurses := true, apart := false, narrowed := true }
def FnExactPointsAtUptoSaid : Prop := fnExactPointsAtUptoRow.holds Try.pinned (OpenSpec.upto fnExactPointsAtSpec)

/-- 'laws.FnExactNearestTo', WHERE WHAT IT READS IS OF BULK AT MOST 1048576: true; the input reads as it did. -/
def fnExactNearestToUptoRow : OpenClaim := { program := "ytlnafgjjliincaa", sum := "089d4b39d152ce6507f694a67c3dc3587fc7836847198821c93d7bbd2b0a5a93", func := "loop.example/g01008/laws.FnExactNearestTo", spec := "fnExactNearestTo", inPlace := ["internal/bytealg.IndexByteString"], unfollowed := true, recurses := true, apart := false, narrowed := true }
def FnExactNearestToUptoSaid : Prop := fnExactNearestToUptoRow.holds Try.pinned (OpenSpec.upto fnExactNearestToSpec)

/-- 'laws.FnExactDropReferent', WHERE WHAT IT READS IS OF BULK AT MOST 1048576: true; the input reads as it did. -/
def fnExactDropReferentUptoRow : OpenClaim := { program := "ytlnafgjjliincaa", sum := "089d4b39d152ce6507f694a67c3dc3587fc7836847198821c93d7bbd2b0a5a93", func := "loop.example/g01008/laws.FnExactDropReferent", spec := "fnExactDropReferent", inPlace := ["internal/bytealg.IndexByteString"], unfollowed := true, recurses := true, apart := false, narrowed := true }
def FnExactDropReferentUptoSaid : Prop := fnExactDropReferentUptoRow.holds Try.pinned (OpenSpec.upto fnExactDropReferentSpec)

/-- 'laws.FnExactVerbInRole', WHERE WHAT IT READS IS OF BULK AT MOST 1048576: true; the input reads as it did. -/
def fnExactVerbInRoleUptoRow : OpenClaim := { program := "ytlnafgjjliincaa", sum := "089d4b39d152ce6507f694a67c3dc3587fc7836847198821c93d7bbd2b0a5a93", func := "loop.example/g01008/laws.FnExactVerbInRole", spec := "fnExactVerbInRole", inPlace := ["internal/bytealg.IndexByteString"], unfollowed := true, recurses := true, apart := false, narrowed := true }
def FnExactVerbInRoleUptoSaid : Prop := fnExactVerbInRoleUptoRow.holds Try.pinned (OpenSpec.upto fnExactVerbInRoleSpec)

/-- 'laws.FnExactAmbiguousAngles', WHERE WHAT IT READS IS OF BULK AT MOST 1048576: true; the input reads as it did. -/
def fnExactAmbiguousAnglesUptoRow : OpenClaim := { program := "ytlnafgjjliincaa", sum := "089d4b39d152ce6507f694a67c3dc3587fc7836847198821c93d7bbd2b0a5a93", func := "loop.example/g01008/laws.FnExactAmbiguousAngles", spec := "fnExactAmbiguousAngles", inPlace := ["internal/bytealg.IndexByteString"], unfollowed := true, recurses := true, apart := false, narrowed := true }
def FnExactAmbiguousAnglesUptoSaid : Prop := fnExactAmbiguousAnglesUptoRow.holds Try.pinned (OpenSpec.upto fnExactAmbiguousAnglesSpec)

/-- 'laws.FnExactMeaningOf', WHERE WHAT IT READS IS OF BULK AT MOST 1048576: true; the input reads as it did. -/
def fnExactMeaningOfUptoRow : OpenClaim := { program := "ytlnafgjjliincaa", sum := "089d4b39d152ce6507f694a67c3dc3587fc7836847198821c93d7bbd2b0a5a93", func := "loop.example/g01008/laws.FnExactMeaningOf", spec := "fnExactMeaningOf", inPlace := ["internal/bytealg.IndexByteString"], unfollowed := true, recurses := true, apart := false, narrowed := true }
def FnExactMeaningOfUptoSaid : Prop := fnExactMeaningOfUptoRow.holds Try.pinned (OpenSpec.upto fnExactMeaningOfSpec)

/-- 'laws.FnExactAgreesWith', WHERE WHAT IT READS IS OF BULK AT MOST 1048576: true; the input reads as it did. -/
def fnExactAgreesWithUptoRow : OpenClaim := { program := "ytlnafgjjliincaa", sum := "089d4b39d152ce6507f694a67c3dc3587fc7836847198821c93d7bbd2b0a5a93", func := "loop.example/g01008/laws.FnExactAgreesWith", spec := "fnExactAgreesWith", inPlace := ["internal/bytealg.IndexByteString"], unfollowed := true, recurses := true, apart := false, narrowed := true }
def FnExactAgreesWithUptoSaid : Prop := fnExactAgreesWithUptoRow.holds Try.pinned (OpenSpec.upto fnExactAgreesWithSpec)

/-- 'laws.FnExactClosestVerb', WHERE WHAT IT READS IS OF BULK AT MOST 1048576: true; the input reads as it did. -/
def fnExactClosestVerbUptoRow : OpenClaim := { program := "ytlnafgjjliincaa", sum := "089d4b39d152ce6507f694a67c3dc3587fc7836847198821c93d7bbd2b0a5a93", func := "loop.example/g01008/laws.FnExactClosestVerb", spec := "fnExactClosestVerb", inPlace := ["internal/bytealg.IndexByteString"], unfollowed := true, recurses := true, apart := false, narrowed := true }
def FnExactClosestVerbUptoSaid : Prop := fnExactClosestVerbUptoRow.holds Try.pinned (OpenSpec.upto fnExactClosestVerbSpec)

/-- 'laws.FnExactRunVerbs', WHERE WHAT IT READS IS OF BULK AT MOST 1048576: true; the input reads as it did. -/
def fnExactRunVerbsUptoRow : OpenClaim := { program := "ytlnafgjjliincaa", sum := "089d4b39d152ce6507f694a67c3dc3587fc7836847198821c93d7bbd2b0a5a93", func := "loop.example/g01008/laws.FnExactRunVerbs", spec := "fnExactRunVerbs", inPlace := ["internal/bytealg.IndexByteString"], unfollowed := true, recurses := true, apart := false, narrowed := true }
def FnExactRunVerbsUptoSaid : Prop := fnExactRunVerbsUptoRow.holds Try.pinned (OpenSpec.upto fnExactRunVerbsSpec)

end Rows
end Go.Proofs.Ytlnafgjjliincaa

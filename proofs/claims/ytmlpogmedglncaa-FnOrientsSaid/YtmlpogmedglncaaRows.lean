/-
  No cell of these rows narrows 'for every input' (looked for: loops, veiled, ifaces, maps, wideKeys, modest, calm, conditions, laid).
  DERIVED. THE GIVEN ROWS OF THIS SEAT. 6 by the template 'for every input the law returns true; each argument reads behind the call as it read before'; 0 by the template 'total and deterministic' (their statements: YtmlpogmedglncaaTotals.lean).
  GIVEN WITH THE SEED: the statements are not yours to turn. If you find one false, say at which input.
  Laid BY PROGRAM, IN A SANDBOX (cutbox-rows.mjs): the forced cells as the released guide's own fill.sh prints them over the translation 21b1e0bfcfa19181… (all of the seat's roots in one cut). By AI agents, Wed Nov 11 2026. No macro, syntax, notation, axiom, sorry.
-/
import Derived.Test.YtmlpogmedglncaaChecked
import GoSem.Claim
import GoSem.ClaimJoined
import GoSem.ClaimMapViews
import Derived.JoinedTies
import Derived.KernelRfl
namespace Go.Proofs.Ytmlpogmedglncaa
/- THE CELL 'sum', in the pinned program and in every row, IS THE sha256 OF THE DUMP (.gsa) THAT YtmlpogmedglncaaProg.lean LOADS. Nothing in Lean hashes anything: it is a label: what it is worth is what the hold of that sum in a sandbox is worth. -/
noncomputable def Try.pinned : Pinned := { name := "ytmlpogmedglncaa", sum := "21b1e0bfcfa1918184067047fbe6accad09eca7c7bca346f0983e0d5d1274505", checked := Try.checked }
namespace Rows
def none {H : Type} : Left H := { results := [], args := [] }

/-- 'laws.FnPlaces': WHATEVER THE INPUT: true; the input reads as it did. -/
def fnPlacesSpec : ChangeSpec := { name := "fnPlaces", fn := fun _ => fun
  | [d1, d2] => { results := [.lit (.bool true)], args := [d1, d2] }
  | _ => none }
def fnPlacesRow : OpenClaim := { program := "ytmlpogmedglncaa", sum := "21b1e0bfcfa1918184067047fbe6accad09eca7c7bca346f0983e0d5d1274505", func := "loop.example/g01008/laws.FnPlaces", spec := "fnPlaces", apart := false }
def FnPlacesSaid : Prop := fnPlacesRow.holds Try.pinned (OpenSpec.ofChange fnPlacesSpec)

/-- ITS FALSE NEIGHBOUR: 'it returns false'. Refute it at one input. -/
def fnPlacesWrong : ChangeSpec := { name := "fnPlaces", fn := fun _ => fun
  | [d1, d2] => { results := [.lit (.bool false)], args := [d1, d2] }
  | _ => none }
def FnPlacesWrongFalsely : Prop := fnPlacesRow.holds Try.pinned (OpenSpec.ofChange fnPlacesWrong)

/-- 'laws.FnOrients': WHATEVER THE INPUT: true; the input reads as it did. -/
def fnOrientsSpec : ChangeSpec := { name := "fnOrients", fn := fun _ => fun
  | [d1, d2] => { results := [.lit (.bool true)], args := [d1, d2] }
  | _ => none }
def fnOrientsRow : OpenClaim := { program := "ytmlpogmedglncaa", sum := "21b1e0bfcfa1918184067047fbe6accad09eca7c7bca346f0983e0d5d1274505", func := "loop.example/g01008/laws.FnOrients", spec := "fnOrients", inPlace := ["internal/bytealg.IndexByteString"], unfollowed := true, recurses := true, apart := false }
def FnOrientsSaid : Prop := fnOrientsRow.holds Try.pinned (OpenSpec.ofChange fnOrientsSpec)

/-- ITS FALSE NEIGHBOUR: 'it returns false'. Refute it at one input. -/
def fnOrientsWrong : ChangeSpec := { name := "fnOrients", fn := fun _ => fun
  | [d1, d2] => { results := [.lit (.bool false)], args := [d1, d2] }
  | _ => none }
def FnOrientsWrongFalsely : Prop := fnOrientsRow.holds Try.pinned (OpenSpec.ofChange fnOrientsWrong)

/-- 'laws.FnExactAreWords': WHATEVER THE INPUT: true; the input reads as it did. -/
def fnExactAreWordsSpec : ChangeSpec := { name := "fnExactAreWords", fn := fun _ => fun
  | [d] => { results := [.lit (.bool true)], args := [d] }
  | _ => none }
def fnExactAreWordsRow : OpenClaim := { program := "ytmlpogmedglncaa", sum := "21b1e0bfcfa1918184067047fbe6accad09eca7c7bca346f0983e0d5d1274505", func := "loop.example/g01008/laws.FnExactAreWords", spec := "fnExactAreWords", inPlace := ["internal/bytealg.IndexByteString"], unfollowed := true, recurses := true, apart := false }
def FnExactAreWordsSaid : Prop := fnExactAreWordsRow.holds Try.pinned (OpenSpec.ofChange fnExactAreWordsSpec)

/-- ITS FALSE NEIGHBOUR: 'it returns false'. Refute it at one input. -/
def fnExactAreWordsWrong : ChangeSpec := { name := "fnExactAreWords", fn := fun _ => fun
  | [d] => { results := [.lit (.bool false)], args := [d] }
  | _ => none }
def FnExactAreWordsWrongFalsely : Prop := fnExactAreWordsRow.holds Try.pinned (OpenSpec.ofChange fnExactAreWordsWrong)

/-- 'laws.FnExactNeededFor': WHATEVER THE INPUT: true; the input reads as it did. -/
def fnExactNeededForSpec : ChangeSpec := { name := "fnExactNeededFor", fn := fun _ => fun
  | [d1, d2] => { results := [.lit (.bool true)], args := [d1, d2] }
  | _ => none }
def fnExactNeededForRow : OpenClaim := { program := "ytmlpogmedglncaa", sum := "21b1e0bfcfa1918184067047fbe6accad09eca7c7bca346f0983e0d5d1274505", func := "loop.example/g01008/laws.FnExactNeededFor", spec := "fnExactNeededFor", inPlace := ["internal/bytealg.IndexByteString"], unfollowed := true, recurses := true, apart := false }
def FnExactNeededForSaid : Prop := fnExactNeededForRow.holds Try.pinned (OpenSpec.ofChange fnExactNeededForSpec)

/-- ITS FALSE NEIGHBOUR: 'it returns false'. Refute it at one input. -/
def fnExactNeededForWrong : ChangeSpec := { name := "fnExactNeededFor", fn := fun _ => fun
  | [d1, d2] => { results := [.lit (.bool false)], args := [d1, d2] }
  | _ => none }
def FnExactNeededForWrongFalsely : Prop := fnExactNeededForRow.holds Try.pinned (OpenSpec.ofChange fnExactNeededForWrong)

/-- 'laws.FnExactTeachOrder': WHATEVER THE INPUT: true; the input reads as it did. -/
def fnExactTeachOrderSpec : ChangeSpec := { name := "fnExactTeachOrder", fn := fun _ => fun
  | [d] => { results := [.lit (.bool true)], args := [d] }
  | _ => none }
def fnExactTeachOrderRow : OpenClaim := { program := "ytmlpogmedglncaa", sum := "21b1e0bfcfa1918184067047fbe6accad09eca7c7bca346f0983e0d5d1274505", func := "loop.example/g01008/laws.FnExactTeachOrder", spec := "fnExactTeachOrder", inPlace := ["internal/bytealg.IndexByteString"], unfollowed := true, recurses := true, apart := false }
def FnExactTeachOrderSaid : Prop := fnExactTeachOrderRow.holds Try.pinned (OpenSpec.ofChange fnExactTeachOrderSpec)

/-- ITS FALSE NEIGHBOUR: 'it returns false'. Refute it at one input. -/
def fnExactTeachOrderWrong : ChangeSpec := { name := "fnExactTeachOrder", fn := fun _ => fun
  | [d] => { results := [.lit (.bool false)], args := [d] }
  | _ => none }
def FnExactTeachOrderWrongFalsely : Prop := fnExactTeachOrderRow.holds Try.pinned (OpenSpec.ofChange fnExactTeachOrderWrong)

/-- 'laws.FnExactFewestLessons': WHATEVER THE INPUT: true; the input reads as it did. -/
def fnExactFewestLessonsSpec : ChangeSpec := { name := "fnExactFewestLessons", fn := fun _ => fun
  | [d] => { results := [.lit (.bool true)], args := [d] }
  | _ => none }
def fnExactFewestLessonsRow : OpenClaim := { program := "ytmlpogmedglncaa", sum := "21b1e0bfcfa1918184067047fbe6accad09eca7c7bca346f0983e0d5d1274505", func := "loop.example/g01008/laws.FnExactFewestLessons", spec := "fnExactFewestLessons", inPlace := ["internal/bytealg.IndexByteString"], unfollowed := true, recurses := true, apart := false }
def FnExactFewestLessonsSaid : Prop := fnExactFewestLessonsRow.holds Try.pinned (OpenSpec.ofChange fnExactFewestLessonsSpec)

/-- ITS FALSE NEIGHBOUR: 'it returns false'. Refute it at one input. -/
def fnExactFewestLessonsWrong : ChangeSpec := { name := "fnExactFewestLessons", fn := fun _ => fun
  | [d] => { results := [.lit (.bool false)], args := [d] }
  | _ => none }
def FnExactFewestLessonsWrongFalsely : Prop := fnExactFewestLessonsRow.holds Try.pinned (OpenSpec.ofChange fnExactFewestLessonsWrong)

/- THE SECOND FORM. 'bulk': how many values and letters a reading holds, each counted each time it is reached (what is shared counts as often as it is met; a slice's spare places count too). A statement '..UptoSaid' is the law's where the arguments, and the package variables that the reading takes, are together of bulk at most 1048576: NARROWER than '..Said'. Prove '..Said' where nothing that the law and all that it calls make is longer than what came in: it says more and counts as full. Else prove '..UptoSaid'. A law counts once. -/
mutual
def uptoBulk {H : Type} : DataW H → Nat
  | .lit (.string bytes) => bytes.length + 1
  | .lit _ => 1
  | .nil => 1
  | .ptr d => uptoBulk d + 1
  | .slice elems spare => uptoBulkAll elems + uptoBulkAll spare + 1
  | .agg parts => uptoBulkAll parts + 1
  | .iface _ d => uptoBulk d + 1
  | .map entries => uptoBulkEntries entries + 1
  | .held _ => 1
def uptoBulkAll {H : Type} : List (DataW H) → Nat
  | [] => 0
  | d :: r => uptoBulk d + uptoBulkAll r
def uptoBulkEntries {H : Type} : List (Lit × DataW H) → Nat
  | [] => 0
  | x :: r => uptoBulkEntry x + uptoBulkEntries r
def uptoBulkEntry {H : Type} : Lit × DataW H → Nat
  | (.string bytes, d) => bytes.length + uptoBulk d + 1
  | (_, d) => uptoBulk d + 1
 end
def uptoSmall : (H : Type) → List (DataW H) → Bool := fun _ ds => decide (uptoBulkAll ds ≤ 1048576)
def OpenSpec.upto (s : _root_.Go.ChangeSpec) : _root_.Go.OpenSpec := { _root_.Go.OpenSpec.ofChange s with cond := some uptoSmall }

/-- 'laws.FnPlaces', WHERE WHAT IT READS IS OF BULK AT MOST 1048576: true; the input reads as it did. -/
def fnPlacesUptoRow : OpenClaim := { program := "ytmlpogmedglncaa", sum := "21b1e0bfcfa1918184067047fbe6accad09eca7c7bca346f0983e0d5d1274505", func := "loop.example/g01008/laws.FnPlaces", spec := "fnPlaces", apart := false, narrowed := true }
def FnPlacesUptoSaid : Prop := fnPlacesUptoRow.holds Try.pinned (OpenSpec.upto fnPlacesSpec)

/-- 'laws.FnOrients', WHERE WHAT IT READS IS OF BULK AT MOST 1048576: true; the input reads as it did. -/
def fnOrientsUptoRow : OpenClaim := { program := "ytmlpogmedglncaa", sum := "21b1e0bfcfa1918184067047fbe6accad09eca7c7bca346f0983e0d5d1274505", func := "loop.example/g01008/laws.FnOrients", spec := "fnOrients", inPlace := ["internal/bytealg.IndexByteString"], unfollowed := true, recurses := true, apart := false, narrowed := true }
def FnOrientsUptoSaid : Prop := fnOrientsUptoRow.holds Try.pinned (OpenSpec.upto fnOrientsSpec)

/-- 'laws.FnExactAreWords', WHERE WHAT IT READS IS OF BULK AT MOST 1048576: true; the input reads as it did. -/
def fnExactAreWordsUptoRow : OpenClaim := { program := "ytmlpogmedglncaa", sum := "21b1e0bfcfa1918184067047fbe6accad09eca7c7bca346f0983e0d5d1274505", func := "loop.example/g01008/laws.FnExactAreWords", spec := "fnExactAreWords", inPlace := ["internal/bytealg.IndexByteString"], unfollowed := true, recurses := true, apart := false, narrowed := true }
def FnExactAreWordsUptoSaid : Prop := fnExactAreWordsUptoRow.holds Try.pinned (OpenSpec.upto fnExactAreWordsSpec)

/-- 'laws.FnExactNeededFor', WHERE WHAT IT READS IS OF BULK AT MOST 1048576: true; the input reads as it did. -/
def fnExactNeededForUptoRow : OpenClaim := { program := "ytmlpogmedglncaa", sum := "21b1e0bfcfa1918184067047fbe6accad09eca7c7bca346f0983e0d5d1274505", func := "loop.example/g01008/laws.FnExactNeededFor", spec := "fnExactNeededFor", inPlace := ["internal/bytealg.IndexByteString"], unfollowed := true, recurses := true, apart := false, narrowed := true }
def FnExactNeededForUptoSaid : Prop := fnExactNeededForUptoRow.holds Try.pinned (OpenSpec.upto fnExactNeededForSpec)

/-- 'laws.FnExactTeachOrder', WHERE WHAT IT READS IS OF BULK AT MOST 1048576: true; the input reads as it did. -/
def fnExactTeachOrderUptoRow : OpenClaim := { program := "ytmlpogmedglncaa", sum := "21b1e0bfcfa1918184067047fbe6accad09eca7c7bca346f0983e0d5d1274505", func := "loop.example/g01008/laws.FnExactTeachOrder", spec := "fnExactTeachOrder", inPlace := ["internal/bytealg.IndexByteString"], unfollowed := true, recurses := true, apart := false, narrowed := true }
def FnExactTeachOrderUptoSaid : Prop := fnExactTeachOrderUptoRow.holds Try.pinned (OpenSpec.upto fnExactTeachOrderSpec)

/-- 'laws.FnExactFewestLessons', WHERE WHAT IT READS IS OF BULK AT MOST 1048576: true; the input reads as it did. -/
def fnExactFewestLessonsUptoRow : OpenClaim := { program := "ytmlpogmedglncaa", sum := "21b1e0bfcfa1918184067047fbe6accad09eca7c7bca346f0983e0d5d1274505", func := "loop.example/g01008/laws.FnExactFewestLessons", spec := "fnExactFewestLessons", inPlace := ["internal/bytealg.IndexByteString"], unfollowed := true, recurses := true, apart := false, narrowed := true }
def FnExactFewestLessonsUptoSaid : Prop := fnExactFewestLessonsUptoRow.holds Try.pinned (OpenSpec.upto fnExactFewestLessonsSpec)

end Rows
end Go.Proofs.Ytmlpogmedglncaa

/-
  No cell of these rows narrows 'for every input' (looked for: loops, veiled, ifaces, maps, wideKeys, modest, calm, conditions, laid).
  DERIVED. THE GIVEN ROWS OF THIS SEAT. 4 by the template 'for every input the law returns true; each argument reads behind the call as it read before'; 0 by the template 'total and deterministic' (their statements: YtbheajjagkdjmaaTotals.lean).
  GIVEN WITH THE SEED: the statements are not yours to turn. If you find one false, say at which input.
  Laid BY PROGRAM, IN A SANDBOX (cutbox-rows.mjs): the forced cells as the released guide's own fill.sh prints them over the translation 5b008aeeabed61c0… (all of the seat's roots in one cut). By AI agents, Wed Nov 11 2026. No macro, syntax, notation, axiom, sorry.
-/
import Derived.Test.YtbheajjagkdjmaaChecked
import GoSem.Claim
import GoSem.ClaimJoined
import GoSem.ClaimMapViews
import Derived.JoinedTies
import Derived.KernelRfl
namespace Go.Proofs.Ytbheajjagkdjmaa
/- THE CELL 'sum', in the pinned program and in every row, IS THE sha256 OF THE DUMP (.gsa) THAT YtbheajjagkdjmaaProg.lean LOADS. Nothing in Lean hashes anything: it is a label: what it is worth is what the hold of that sum in a sandbox is worth. -/
noncomputable def Try.pinned : Pinned := { name := "ytbheajjagkdjmaa", sum := "5b008aeeabed61c033a28acb05a43bc7830dc44d8c9c932daf160a6c2a3f927b", checked := Try.checked }
namespace Rows
def none {H : Type} : Left H := { results := [], args := [] }

/-- 'laws.FnExactPutReferent': WHATEVER THE INPUT: true; the input reads as it did. -/
def fnExactPutReferentSpec : ChangeSpec := { name := "fnExactPutReferent", fn := fun _ => fun
  | [d1, d2, d3] => { results := [.lit (.bool true)], args := [d1, d2, d3] }
  | _ => none }
def fnExactPutReferentRow : OpenClaim := { program := "ytbheajjagkdjmaa", sum := "5b008aeeabed61c033a28acb05a43bc7830dc44d8c9c932daf160a6c2a3f927b", func := "loop.example/g01008/laws.FnExactPutReferent", spec := "fnExactPutReferent", inPlace := ["internal/bytealg.IndexByteString"], unfollowed := true, recurses := true, apart := false }
def FnExactPutReferentSaid : Prop := fnExactPutReferentRow.holds Try.pinned (OpenSpec.ofChange fnExactPutReferentSpec)

/-- ITS FALSE NEIGHBOUR: 'it returns false'. Refute it at one input. -/
def fnExactPutReferentWrong : ChangeSpec := { name := "fnExactPutReferent", fn := fun _ => fun
  | [d1, d2, d3] => { results := [.lit (.bool false)], args := [d1, d2, d3] }
  | _ => none }
def FnExactPutReferentWrongFalsely : Prop := fnExactPutReferentRow.holds Try.pinned (OpenSpec.ofChange fnExactPutReferentWrong)

/-- 'laws.FnExactShiftRole': WHATEVER THE INPUT: true; the input reads as it did. -/
def fnExactShiftRoleSpec : ChangeSpec := { name := "fnExactShiftRole", fn := fun _ => fun
  | [d1, d2] => { results := [.lit (.bool true)], args := [d1, d2] }
  | _ => none }
def fnExactShiftRoleRow : OpenClaim := { program := "ytbheajjagkdjmaa", sum := "5b008aeeabed61c033a28acb05a43bc7830dc44d8c9c932daf160a6c2a3f927b", func := "loop.example/g01008/laws.FnExactShiftRole", spec := "fnExactShiftRole", inPlace := ["internal/bytealg.IndexByteString"], unfollowed := true, recurses := true, apart := false }
def FnExactShiftRoleSaid : Prop := fnExactShiftRoleRow.holds Try.pinned (OpenSpec.ofChange fnExactShiftRoleSpec)

/-- ITS FALSE NEIGHBOUR: 'it returns false'. Refute it at one input. -/
def fnExactShiftRoleWrong : ChangeSpec := { name := "fnExactShiftRole", fn := fun _ => fun
  | [d1, d2] => { results := [.lit (.bool false)], args := [d1, d2] }
  | _ => none }
def FnExactShiftRoleWrongFalsely : Prop := fnExactShiftRoleRow.holds Try.pinned (OpenSpec.ofChange fnExactShiftRoleWrong)

/-- 'laws.FnExactDoersOf': WHATEVER THE INPUT: true; the input reads as it did. -/
def fnExactDoersOfSpec : ChangeSpec := { name := "fnExactDoersOf", fn := fun _ => fun
  | [d1, d2, d3] => { results := [.lit (.bool true)], args := [d1, d2, d3] }
  | _ => none }
def fnExactDoersOfRow : OpenClaim := { program := "ytbheajjagkdjmaa", sum := "5b008aeeabed61c033a28acb05a43bc7830dc44d8c9c932daf160a6c2a3f927b", func := "loop.example/g01008/laws.FnExactDoersOf", spec := "fnExactDoersOf", inPlace := ["internal/bytealg.IndexByteString"], unfollowed := true, recurses := true, apart := false }
def FnExactDoersOfSaid : Prop := fnExactDoersOfRow.holds Try.pinned (OpenSpec.ofChange fnExactDoersOfSpec)

/-- ITS FALSE NEIGHBOUR: 'it returns false'. Refute it at one input. -/
def fnExactDoersOfWrong : ChangeSpec := { name := "fnExactDoersOf", fn := fun _ => fun
  | [d1, d2, d3] => { results := [.lit (.bool false)], args := [d1, d2, d3] }
  | _ => none }
def FnExactDoersOfWrongFalsely : Prop := fnExactDoersOfRow.holds Try.pinned (OpenSpec.ofChange fnExactDoersOfWrong)

/-- 'laws.FnLoci': WHATEVER THE INPUT: true; the input reads as it did. -/
def fnLociSpec : ChangeSpec := { name := "fnLoci", fn := fun _ => fun
  | [d1, d2] => { results := [.lit (.bool true)], args := [d1, d2] }
  | _ => none }
def fnLociRow : OpenClaim := { program := "ytbheajjagkdjmaa", sum := "5b008aeeabed61c033a28acb05a43bc7830dc44d8c9c932daf160a6c2a3f927b", func := "loop.example/g01008/laws.FnLoci", spec := "fnLoci", inPlace := ["internal/bytealg.IndexByteString"], unfollowed := true, recurses := true, apart := false }
def FnLociSaid : Prop := fnLociRow.holds Try.pinned (OpenSpec.ofChange fnLociSpec)

/-- ITS FALSE NEIGHBOUR: 'it returns false'. Refute it at one input. -/
def fnLociWrong : ChangeSpec := { name := "fnLoci", fn := fun _ => fun
  | [d1, d2] => { results := [.lit (.bool false)], args := [d1, d2] }
  | _ => none }
def FnLociWrongFalsely : Prop := fnLociRow.holds Try.pinned (OpenSpec.ofChange fnLociWrong)

/- THE SECOND FORM. 'bulk': how many values and letters a reading holds, each counted each time it is reached (what is shared counts as often as it is met; a slice's spare places count too). A statement '..UptoSaid' is the law's where the arguments, and the package variables that the reading takes, are together of bulk at most 1048576: NARROWER than '..Said'. Prove '..Said' where nothing that the law and all that it calls make is longer than what came in: it says more and counts as full. Else prove '..UptoSaid'. A law counts once. -/
mutual
def uptoBulk {H : Type} : DataW H → Nat
  | .lit (.string bytes) => bytes.length + 1
  | .lit _ => 1
  | .nil => 1
  | .ptr d => uptoBulk d + 1
  | .slice elems spare => uptoBulkAll elems + uptoBulkAll spare + 1
  | .agg parts => uptoBulkAll parts + 1
  | .iface _ d => uptoBulk d + 1
  | .map entries => uptoBulkEntries entries + 1
  | .held _ => 1
def uptoBulkAll {H : Type} : List (DataW H) → Nat
  | [] => 0
  | d :: r => uptoBulk d + uptoBulkAll r
def uptoBulkEntries {H : Type} : List (Lit × DataW H) → Nat
  | [] => 0
  | x :: r => uptoBulkEntry x + uptoBulkEntries r
def uptoBulkEntry {H : Type} : Lit × DataW H → Nat
  | (.string bytes, d) => bytes.length + uptoBulk d + 1
  | (_, d) => uptoBulk d + 1
 end
def uptoSmall : (H : Type) → List (DataW H) → Bool := fun _ ds => decide (uptoBulkAll ds ≤ 1048576)
def OpenSpec.upto (s : _root_.Go.ChangeSpec) : _root_.Go.OpenSpec := { _root_.Go.OpenSpec.ofChange s with cond := some uptoSmall }

/-- 'laws.FnExactPutReferent', WHERE WHAT IT READS IS OF BULK AT MOST 1048576: true; the input reads as it did. -/
def fnExactPutReferentUptoRow : OpenClaim := { program := "ytbheajjagkdjmaa", sum := "5b008aeeabed61c033a28acb05a43bc7830dc44d8c9c932daf160a6c2a3f927b", func := "loop.example/g01008/laws.FnExactPutReferent", spec := "fnExactPutReferent", inPlace := ["internal/bytealg.IndexByteString"], unfollowed := true, recurses := true, apart := false, narrowed := true }
def FnExactPutReferentUptoSaid : Prop := fnExactPutReferentUptoRow.holds Try.pinned (OpenSpec.upto fnExactPutReferentSpec)

/-- 'laws.FnExactShiftRole', WHERE WHAT IT READS IS OF BULK AT MOST 1048576: true; the input reads as it did. -/
def fnExactShiftRoleUptoRow : OpenClaim := { program := "ytbheajjagkdjmaa", sum := "5b008aeeabed61c033a28acb05a43bc7830dc44d8c9c932daf160a6c2a3f927b", func := "loop.example/g01008/laws.FnExactShiftRole", spec := "fnExactShiftRole", inPlace := ["internal/bytealg.IndexByteString"], unfollowed := true, recurses := true, apart := false, narrowed := true }
def FnExactShiftRoleUptoSaid : Prop := fnExactShiftRoleUptoRow.holds Try.pinned (OpenSpec.upto fnExactShiftRoleSpec)

/-- 'laws.FnExactDoersOf', WHERE WHAT IT READS IS OF BULK AT MOST 1048576: true; the input reads as it did. -/
def fnExactDoersOfUptoRow : OpenClaim := { program := "ytbheajjagkdjmaa", sum := "5b008aeeabed61c033a28acb05a43bc7830dc44d8c9c932daf160a6c2a3f927b", func := "loop.example/g01008/laws.FnExactDoersOf", spec := "fnExactDoersOf", inPlace := ["internal/bytealg.IndexByteString"], unfollowed := true, recurses := true, apart := false, narrowed := true }
def FnExactDoersOfUptoSaid : Prop := fnExactDoersOfUptoRow.holds Try.pinned (OpenSpec.upto fnExactDoersOfSpec)

/-- 'laws.FnLoci', WHERE WHAT IT READS IS OF BULK AT MOST 1048576: true; the input reads as it did. -/
def fnLociUptoRow : OpenClaim := { program := "ytbheajjagkdjmaa", sum := "5b008aeeabed61c033a28acb05a43bc7830dc44d8c9c932daf160a6c2a3f927b", func := "loop.example/g01008/laws.FnLoci", spec := "fnLoci", inPlace := ["internal/bytealg.IndexByteString"], unfollowed := true, recurses := true, apart := false, narrowed := true }
def FnLociUptoSaid : Prop := fnLociUptoRow.holds Try.pinned (OpenSpec.upto fnLociSpec)

end Rows
end Go.Proofs.Ytbheajjagkdjmaa

/-
  No cell of these rows narrows 'for every input' (looked for: loops, veiled, ifaces, maps, wideKeys, modest, calm, conditions, laid).
  DERIVED. THE GIVEN ROWS OF THIS SEAT. 8 by the template 'for every input the law returns true; each argument reads behind the call as it read before'; 0 by the template 'total and deterministic' (their statements: YtnmgcphajacdnaaTotals.lean).
  GIVEN WITH THE SEED: the statements are not yours to turn. If you find one false, say at which input.
  Laid BY PROGRAM, IN A SANDBOX (cutbox-rows.mjs): the forced cells as the released guide's own fill.sh prints them over the translation 3b51123cc7c5c9f0… (all of the seat's roots in one cut). By AI agents, Wed Nov 11 2026. No macro, syntax, notation, axiom, sorry.
-/
import Derived.Test.YtnmgcphajacdnaaChecked
import GoSem.Claim
import GoSem.ClaimJoined
import GoSem.ClaimMapViews
import Derived.JoinedTies
import Derived.KernelRfl
namespace Go.Proofs.Ytnmgcphajacdnaa
/- THE CELL 'sum', in the pinned program and in every row, IS THE sha256 OF THE DUMP (.gsa) THAT YtnmgcphajacdnaaProg.lean LOADS. Nothing in Lean hashes anything: it is a label: what it is worth is what the hold of that sum in a sandbox is worth. -/
noncomputable def Try.pinned : Pinned := { name := "ytnmgcphajacdnaa", sum := "3b51123cc7c5c9f0233007f8d634d0ca3ccc9af9df83b064e8b6349b8ea76117", checked := Try.checked }
namespace Rows
def none {H : Type} : Left H := { results := [], args := [] }

/-- 'laws.FnExactNearestLike': WHATEVER THE INPUT: true; the input reads as it did. -/
def fnExactNearestLikeSpec : ChangeSpec := { name := "fnExactNearestLike", fn := fun _ => fun
  | [d1, d2, d3] => { results := [.lit (.bool true)], args := [d1, d2, d3] }
  | _ => none }
def fnExactNearestLikeRow : OpenClaim := { program := "ytnmgcphajacdnaa", sum := "3b51123cc7c5c9f0233007f8d634d0ca3ccc9af9df83b064e8b6349b8ea76117", func := "loop.example/g01008/laws.FnExactNearestLike", spec := "fnExactNearestLike", inPlace := ["internal/bytealg.IndexByteString"], unfollowed := true, recurses := true, apart := false }
def FnExactNearestLikeSaid : Prop := fnExactNearestLikeRow.holds Try.pinned (OpenSpec.ofChange fnExactNearestLikeSpec)

/-- ITS FALSE NEIGHBOUR: 'it returns false'. Refute it at one input. -/
def fnExactNearestLikeWrong : ChangeSpec := { name := "fnExactNearestLike", fn := fun _ => fun
  | [d1, d2, d3] => { results := [.lit (.bool false)], args := [d1, d2, d3] }
  | _ => none }
def FnExactNearestLikeWrongFalsely : Prop := fnExactNearestLikeRow.holds Try.pinned (OpenSpec.ofChange fnExactNearestLikeWrong)

/-- 'laws.FnExactNotesInside': WHATEVER THE INPUT: true; the input reads as it did. -/
def fnExactNotesInsideSpec : ChangeSpec := { name := "fnExactNotesInside", fn := fun _ => fun
  | [d1, d2] => { results := [.lit (.bool true)], args := [d1, d2] }
  | _ => none }
def fnExactNotesInsideRow : OpenClaim := { program := "ytnmgcphajacdnaa", sum := "3b51123cc7c5c9f0233007f8d634d0ca3ccc9af9df83b064e8b6349b8ea76117", func := "loop.example/g01008/laws.FnExactNotesInside", spec := "fnExactNotesInside", inPlace := ["internal/bytealg.IndexByteString"], apart := false }
def FnExactNotesInsideSaid : Prop := fnExactNotesInsideRow.holds Try.pinned (OpenSpec.ofChange fnExactNotesInsideSpec)

/-- ITS FALSE NEIGHBOUR: 'it returns false'. Refute it at one input. -/
def fnExactNotesInsideWrong : ChangeSpec := { name := "fnExactNotesInside", fn := fun _ => fun
  | [d1, d2] => { results := [.lit (.bool false)], args := [d1, d2] }
  | _ => none }
def FnExactNotesInsideWrongFalsely : Prop := fnExactNotesInsideRow.holds Try.pinned (OpenSpec.ofChange fnExactNotesInsideWrong)

/-- 'laws.FnExactNotesLike': WHATEVER THE INPUT: true; the input reads as it did. -/
def fnExactNotesLikeSpec : ChangeSpec := { name := "fnExactNotesLike", fn := fun _ => fun
  | [d1, d2] => { results := [.lit (.bool true)], args := [d1, d2] }
  | _ => none }
def fnExactNotesLikeRow : OpenClaim := { program := "ytnmgcphajacdnaa", sum := "3b51123cc7c5c9f0233007f8d634d0ca3ccc9af9df83b064e8b6349b8ea76117", func := "loop.example/g01008/laws.FnExactNotesLike", spec := "fnExactNotesLike", inPlace := ["internal/bytealg.IndexByteString"], unfollowed := true, recurses := true, apart := false }
def FnExactNotesLikeSaid : Prop := fnExactNotesLikeRow.holds Try.pinned (OpenSpec.ofChange fnExactNotesLikeSpec)

/-- ITS FALSE NEIGHBOUR: 'it returns false'. Refute it at one input. -/
def fnExactNotesLikeWrong : ChangeSpec := { name := "fnExactNotesLike", fn := fun _ => fun
  | [d1, d2] => { results := [.lit (.bool false)], args := [d1, d2] }
  | _ => none }
def FnExactNotesLikeWrongFalsely : Prop := fnExactNotesLikeRow.holds Try.pinned (OpenSpec.ofChange fnExactNotesLikeWrong)

/-- 'laws.FnExactPairsWithin': WHATEVER THE INPUT: true; the input reads as it did. -/
def fnExactPairsWithinSpec : ChangeSpec := { name := "fnExactPairsWithin", fn := fun _ => fun
  | [d1, d2, d3, d4] => { results := [.lit (.bool true)], args := [d1, d2, d3, d4] }
  | _ => none }
def fnExactPairsWithinRow : OpenClaim := { program := "ytnmgcphajacdnaa", sum := "3b51123cc7c5c9f0233007f8d634d0ca3ccc9af9df83b064e8b6349b8ea76117", func := "loop.example/g01008/laws.FnExactPairsWithin", spec := "fnExactPairsWithin", inPlace := ["internal/bytealg.IndexByteString"], recurses := true, apart := false }
def FnExactPairsWithinSaid : Prop := fnExactPairsWithinRow.holds Try.pinned (OpenSpec.ofChange fnExactPairsWithinSpec)

/-- ITS FALSE NEIGHBOUR: 'it returns false'. Refute it at one input. -/
def fnExactPairsWithinWrong : ChangeSpec := { name := "fnExactPairsWithin", fn := fun _ => fun
  | [d1, d2, d3, d4] => { results := [.lit (.bool false)], args := [d1, d2, d3, d4] }
  | _ => none }
def FnExactPairsWithinWrongFalsely : Prop := fnExactPairsWithinRow.holds Try.pinned (OpenSpec.ofChange fnExactPairsWithinWrong)

/-- 'laws.FnExactSequencesOf': WHATEVER THE INPUT: true; the input reads as it did. -/
def fnExactSequencesOfSpec : ChangeSpec := { name := "fnExactSequencesOf", fn := fun _ => fun
  | [d1, d2] => { results := [.lit (.bool true)], args := [d1, d2] }
  | _ => none }
def fnExactSequencesOfRow : OpenClaim := { program := "ytnmgcphajacdnaa", sum := "3b51123cc7c5c9f0233007f8d634d0ca3ccc9af9df83b064e8b6349b8ea76117", func := "loop.example/g01008/laws.FnExactSequencesOf", spec := "fnExactSequencesOf", inPlace := ["internal/bytealg.IndexByteString"], unfollowed := true, recurses := true, apart := false }
def FnExactSequencesOfSaid : Prop := fnExactSequencesOfRow.holds Try.pinned (OpenSpec.ofChange fnExactSequencesOfSpec)

/-- ITS FALSE NEIGHBOUR: 'it returns false'. Refute it at one input. -/
def fnExactSequencesOfWrong : ChangeSpec := { name := "fnExactSequencesOf", fn := fun _ => fun
  | [d1, d2] => { results := [.lit (.bool false)], args := [d1, d2] }
  | _ => none }
def FnExactSequencesOfWrongFalsely : Prop := fnExactSequencesOfRow.holds Try.pinned (OpenSpec.ofChange fnExactSequencesOfWrong)

/-- 'laws.FnExactCountGlosses': WHATEVER THE INPUT: true; the input reads as it did. -/
def fnExactCountGlossesSpec : ChangeSpec := { name := "fnExactCountGlosses", fn := fun _ => fun
  | [d] => { results := [.lit (.bool true)], args := [d] }
  | _ => none }
def fnExactCountGlossesRow : OpenClaim := { program := "ytnmgcphajacdnaa", sum := "3b51123cc7c5c9f0233007f8d634d0ca3ccc9af9df83b064e8b6349b8ea76117", func := "loop.example/g01008/laws.FnExactCountGlosses", spec := "fnExactCountGlosses", inPlace := ["internal/bytealg.IndexByteString"], unfollowed := true, recurses := true, apart := false }
def FnExactCountGlossesSaid : Prop := fnExactCountGlossesRow.holds Try.pinned (OpenSpec.ofChange fnExactCountGlossesSpec)

/-- ITS FALSE NEIGHBOUR: 'it returns false'. Refute it at one input. -/
def fnExactCountGlossesWrong : ChangeSpec := { name := "fnExactCountGlosses", fn := fun _ => fun
  | [d] => { results := [.lit (.bool false)], args := [d] }
  | _ => none }
def FnExactCountGlossesWrongFalsely : Prop := fnExactCountGlossesRow.holds Try.pinned (OpenSpec.ofChange fnExactCountGlossesWrong)

/-- 'laws.FnQueries': WHATEVER THE INPUT: true; the input reads as it did. -/
def fnQueriesSpec : ChangeSpec := { name := "fnQueries", fn := fun _ => fun
  | [d1, d2] => { results := [.lit (.bool true)], args := [d1, d2] }
  | _ => none }
def fnQueriesRow : OpenClaim := { program := "ytnmgcphajacdnaa", sum := "3b51123cc7c5c9f0233007f8d634d0ca3ccc9af9df83b064e8b6349b8ea76117", func := "loop.example/g01008/laws.FnQueries", spec := "fnQueries", inPlace := ["internal/bytealg.IndexByteString"], unfollowed := true, recurses := true, apart := false }
def FnQueriesSaid : Prop := fnQueriesRow.holds Try.pinned (OpenSpec.ofChange fnQueriesSpec)

/-- ITS FALSE NEIGHBOUR: 'it returns false'. Refute it at one input. -/
def fnQueriesWrong : ChangeSpec := { name := "fnQueries", fn := fun _ => fun
  | [d1, d2] => { results := [.lit (.bool false)], args := [d1, d2] }
  | _ => none }
def FnQueriesWrongFalsely : Prop := fnQueriesRow.holds Try.pinned (OpenSpec.ofChange fnQueriesWrong)

/-- 'laws.FnTierCounts': WHATEVER THE INPUT: true; the input reads as it did. -/
def fnTierCountsSpec : ChangeSpec := { name := "fnTierCounts", fn := fun _ => fun
  | [d1, d2] => { results := [.lit (.bool true)], args := [d1, d2] }
  | _ => none }
def fnTierCountsRow : OpenClaim := { program := "ytnmgcphajacdnaa", sum := "3b51123cc7c5c9f0233007f8d634d0ca3ccc9af9df83b064e8b6349b8ea76117", func := "loop.example/g01008/laws.FnTierCounts", spec := "fnTierCounts", inPlace := ["internal/bytealg.IndexByteString"], unfollowed := true, recurses := true, apart := false }
def FnTierCountsSaid : Prop := fnTierCountsRow.holds Try.pinned (OpenSpec.ofChange fnTierCountsSpec)

/-- ITS FALSE NEIGHBOUR: 'it returns false'. Refute it at one input. -/
def fnTierCountsWrong : ChangeSpec := { name := "fnTierCounts", fn := fun _ => fun
  | [d1, d2] => { results := [.lit (.bool false)], args := [d1, d2] }
  | _ => none }
def FnTierCountsWrongFalsely : Prop := fnTierCountsRow.holds Try.pinned (OpenSpec.ofChange fnTierCountsWrong)

/- THE SECOND FORM. 'bulk': how many values and letters a reading holds, each counted each time it is reached (what is shared counts as often as it is met; a slice's spare places count too). A statement '..UptoSaid' is the law's where the arguments, and the package variables that the reading takes, are together of bulk at most 1048576: NARROWER than '..Said'. Prove '..Said' where nothing that the law and all that it calls make is longer than what came in: it says more and counts as full. Else prove '..UptoSaid'. A law counts once. -/
mutual
def uptoBulk {H : Type} : DataW H → Nat
  | .lit (.string bytes) => bytes.length + 1
  | .lit _ => 1
  | .nil => 1
  | .ptr d => uptoBulk d + 1
  | .slice elems spare => uptoBulkAll elems + uptoBulkAll spare + 1
  | .agg parts => uptoBulkAll parts + 1
  | .iface _ d => uptoBulk d + 1
  | .map entries => uptoBulkEntries entries + 1
  | .held _ => 1
def uptoBulkAll {H : Type} : List (DataW H) → Nat
  | [] => 0
  | d :: r => uptoBulk d + uptoBulkAll r
def uptoBulkEntries {H : Type} : List (Lit × DataW H) → Nat
  | [] => 0
  | x :: r => uptoBulkEntry x + uptoBulkEntries r
def uptoBulkEntry {H : Type} : Lit × DataW H → Nat
  | (.string bytes, d) => bytes.length + uptoBulk d + 1
  | (_, d) => uptoBulk d + 1
 end
def uptoSmall : (H : Type) → List (DataW H) → Bool := fun _ ds => decide (uptoBulkAll ds ≤ 1048576)
def OpenSpec.upto (s : _root_.Go.ChangeSpec) : _root_.Go.OpenSpec := { _root_.Go.OpenSpec.ofChange s with cond := some uptoSmall }

/-- 'laws.FnExactNearestLike', WHERE WHAT IT READS IS OF BULK AT MOST 1048576: true; the input reads as it did. -/
def fnExactNearestLikeUptoRow : OpenClaim := { program := "ytnmgcphajacdnaa", sum := "3b51123cc7c5c9f0233007f8d634d0ca3ccc9af9df83b064e8b6349b8ea76117", func := "loop.example/g01008/laws.FnExactNearestLike", spec := "fnExactNearestLike", inPlace := ["internal/bytealg.IndexByteString"], unfollowed := true, recurses := true, apart := false, narrowed := true }
def FnExactNearestLikeUptoSaid : Prop := fnExactNearestLikeUptoRow.holds Try.pinned (OpenSpec.upto fnExactNearestLikeSpec)

/-- 'laws.FnExactNotesInside', WHERE WHAT IT READS IS OF BULK AT MOST 1048576: true; the input reads as it did. -/
def fnExactNotesInsideUptoRow : OpenClaim := { program := "ytnmgcphajacdnaa", sum := "3b51123cc7c5c9f0233007f8d634d0ca3ccc9af9df83b064e8b6349b8ea76117", func := "loop.example/g01008/laws.FnExactNotesInside", spec := "fnExactNotesInside", inPlace := ["internal/bytealg.IndexByteString"], apart := false, narrowed := true }
def FnExactNotesInsideUptoSaid : Prop := fnExactNotesInsideUptoRow.holds Try.pinned (OpenSpec.upto fnExactNotesInsideSpec)

/-- 'laws.FnExactNotesLike', WHERE WHAT IT READS IS OF BULK AT MOST 1048576: true; the input reads as it did. -/
def fnExactNotesLikeUptoRow : OpenClaim := { program := "ytnmgcphajacdnaa", sum := "3b51123cc7c5c9f0233007f8d634d0ca3ccc9af9df83b064e8b6349b8ea76117", func := "loop.example/g01008/laws.FnExactNotesLike", spec := "fnExactNotesLike", inPlace := ["internal/bytealg.IndexByteString"], unfollowed := true, recurses := true, apart := false, narrowed := true }
def FnExactNotesLikeUptoSaid : Prop := fnExactNotesLikeUptoRow.holds Try.pinned (OpenSpec.upto fnExactNotesLikeSpec)

/-- 'laws.FnExactPairsWithin', WHERE WHAT IT READS IS OF BULK AT MOST 1048576: true; the input reads as it did. -/
def fnExactPairsWithinUptoRow : OpenClaim := { program := "ytnmgcphajacdnaa", sum := "3b51123cc7c5c9f0233007f8d634d0ca3ccc9af9df83b064e8b6349b8ea76117", func := "loop.example/g01008/laws.FnExactPairsWithin", spec := "fnExactPairsWithin", inPlace := ["internal/bytealg.IndexByteString"], recurses := true, apart := false, narrowed := true }
def FnExactPairsWithinUptoSaid : Prop := fnExactPairsWithinUptoRow.holds Try.pinned (OpenSpec.upto fnExactPairsWithinSpec)

/-- 'laws.FnExactSequencesOf', WHERE WHAT IT READS IS OF BULK AT MOST 1048576: true; the input reads as it did. -/
def fnExactSequencesOfUptoRow : OpenClaim := { program := "ytnmgcphajacdnaa", sum := "3b51123cc7c5c9f0233007f8d634d0ca3ccc9af9df83b064e8b6349b8ea76117", func := "loop.example/g01008/laws.FnExactSequencesOf", spec := "fnExactSequencesOf", inPlace := ["internal/bytealg.IndexByteString"], unfollowed := true, recurses := true, apart := false, narrowed := true }
def FnExactSequencesOfUptoSaid : Prop := fnExactSequencesOfUptoRow.holds Try.pinned (OpenSpec.upto fnExactSequencesOfSpec)

/-- 'laws.FnExactCountGlosses', WHERE WHAT IT READS IS OF BULK AT MOST 1048576: true; the input reads as it did. -/
def fnExactCountGlossesUptoRow : OpenClaim := { program := "ytnmgcphajacdnaa", sum := "3b51123cc7c5c9f0233007f8d634d0ca3ccc9af9df83b064e8b6349b8ea76117", func := "loop.example/g01008/laws.FnExactCountGlosses", spec := "fnExactCountGlosses", inPlace := ["internal/bytealg.IndexByteString"], unfollowed := true, recurses := true, apart := false, narrowed := true }
def FnExactCountGlossesUptoSaid : Prop := fnExactCountGlossesUptoRow.holds Try.pinned (OpenSpec.upto fnExactCountGlossesSpec)

/-- 'laws.FnQueries', WHERE WHAT IT READS IS OF BULK AT MOST 1048576: true; the input reads as it did. -/
def fnQueriesUptoRow : OpenClaim := { program := "ytnmgcphajacdnaa", sum := "3b51123cc7c5c9f0233007f8d634d0ca3ccc9af9df83b064e8b6349b8ea76117", func := "loop.example/g01008/laws.FnQueries", spec := "fnQueries", inPlace := ["internal/bytealg.IndexByteString"], unfollowed := true, recurses := true, apart := false, narrowed := true }
def FnQueriesUptoSaid : Prop := fnQueriesUptoRow.holds Try.pinned (OpenSpec.upto fnQueriesSpec)

/-- 'laws.FnTierCounts', WHERE WHAT IT READS IS OF BULK AT MOST 1048576: true; the input reads as it did. -/
def fnTierCountsUptoRow : OpenClaim := { program := "ytnmgcphajacdnaa", sum := "3b51123cc7c5c9f0233007f8d634d0ca3ccc9af9df83b064e8b6349b8ea76117", func := "loop.example/g01008/laws.FnTierCounts", spec := "fnTierCounts", inPlace := ["internal/bytealg.IndexByteString"], unfollowed := true, recurses := true, apart := false, narrowed := true }
def FnTierCountsUptoSaid : Prop := fnTierCountsUptoRow.holds Try.pinned (OpenSpec.upto fnTierCountsSpec)

end Rows
end Go.Proofs.Ytnmgcphajacdnaa

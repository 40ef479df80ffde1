/-
  No cell of these rows narrows 'for every input' (looked for: loops, veiled, ifaces, maps, wideKeys, modest, calm, conditions, laid).
  DERIVED. THE GIVEN ROWS OF THIS SEAT. 7 by the template 'for every input the law returns true; each argument reads behind the call as it read before'; 0 by the template 'total and deterministic' (their statements: YtcnfchchanlepaaTotals.lean).
  GIVEN WITH THE SEED: the statements are not yours to turn. If you find one false, say at which input.
  Laid BY PROGRAM, IN A SANDBOX (cutbox-rows.mjs): the forced cells as the released guide's own fill.sh prints them over the translation 6386d09c258e8213… (all of the seat's roots in one cut). By AI agents, Wed Nov 11 2026. No macro, syntax, notation, axiom, sorry.
-/
import Derived.Test.YtcnfchchanlepaaChecked
import GoSem.Claim
import GoSem.ClaimJoined
import GoSem.ClaimMapViews
import Derived.JoinedTies
import Derived.KernelRfl
namespace Go.Proofs.Ytcnfchchanlepaa
/- THE CELL 'sum', in the pinned program and in every row, IS THE sha256 OF THE DUMP (.gsa) THAT YtcnfchchanlepaaProg.lean LOADS. Nothing in Lean hashes anything: it is a label: what it is worth is what the hold of that sum in a sandbox is worth. -/
noncomputable def Try.pinned : Pinned := { name := "ytcnfchchanlepaa", sum := "6386d09c258e8213246e39ae5096e0310721aca3abe563b41742a7ebc0a53c65", checked := Try.checked }
namespace Rows
def none {H : Type} : Left H := { results := [], args := [] }

/-- 'latecomerlaw18.ProfileMatchesReference': WHATEVER THE INPUT: true; the input reads as it did. -/
def profileMatchesReferenceSpec : ChangeSpec := { name := "profileMatchesReference", fn := fun _ => fun
  | [d1, d2, d3, d4] => { results := [.lit (.bool true)], args := [d1, d2, d3, d4] }
  | _ => none }
def profileMatchesReferenceRow : OpenClaim := { program := "ytcnfchchanlepaa", sum := "6386d09c258e8213246e39ae5096e0310721aca3abe563b41742a7ebc0a53c65", func := "latecomer/latecomerlaw18.ProfileMatchesReference", spec := "profileMatchesReference", unfollowed := true, recurses := true, plainKeys := false, apart := false }
def ProfileMatchesReferenceSaid : Prop := profileMatchesReferenceRow.holds Try.pinned (OpenSpec.ofChange profileMatchesReferenceSpec)

/-- ITS FALSE NEIGHBOUR: 'it returns false'. Refute it at one input. -/
def profileMatchesReferenceWrong : ChangeSpec := { name := "profileMatchesReference", fn := fun _ => fun
  | [d1, d2, d3, d4] => { results := [.lit (.bool false)], args := [d1, d2, d3, d4] }
  | _ => none }
def ProfileMatchesReferenceWrongFalsely : Prop := profileMatchesReferenceRow.holds Try.pinned (OpenSpec.ofChange profileMatchesReferenceWrong)

/-- 'latecomerlaw18.ProfileFolds': WHATEVER THE INPUT: true; the input reads as it did. -/
def profileFoldsSpec : ChangeSpec := { name := "profileFolds", fn := fun _ => fun
  | [d1, d2, d3] => { results := [.lit (.bool true)], args := [d1, d2, d3] }
  | _ => none }
def profileFoldsRow : OpenClaim := { program := "ytcnfchchanlepaa", sum := "6386d09c258e8213246e39ae5096e0310721aca3abe563b41742a7ebc0a53c65", func := "latecomer/latecomerlaw18.ProfileFolds", spec := "profileFolds", unfollowed := true, recurses := true, plainKeys := false, apart := false }
def ProfileFoldsSaid : Prop := profileFoldsRow.holds Try.pinned (OpenSpec.ofChange profileFoldsSpec)

/-- ITS FALSE NEIGHBOUR: 'it returns false'. Refute it at one input. -/
def profileFoldsWrong : ChangeSpec := { name := "profileFolds", fn := fun _ => fun
  | [d1, d2, d3] => { results := [.lit (.bool false)], args := [d1, d2, d3] }
  | _ => none }
def ProfileFoldsWrongFalsely : Prop := profileFoldsRow.holds Try.pinned (OpenSpec.ofChange profileFoldsWrong)

/-- 'latecomerlaw18.ProfileTotals': WHATEVER THE INPUT: true; the input reads as it did. -/
def profileTotalsSpec : ChangeSpec := { name := "profileTotals", fn := fun _ => fun
  | [d1, d2] => { results := [.lit (.bool true)], args := [d1, d2] }
  | _ => none }
def profileTotalsRow : OpenClaim := { program := "ytcnfchchanlepaa", sum := "6386d09c258e8213246e39ae5096e0310721aca3abe563b41742a7ebc0a53c65", func := "latecomer/latecomerlaw18.ProfileTotals", spec := "profileTotals", unfollowed := true, recurses := true, plainKeys := false, apart := false }
def ProfileTotalsSaid : Prop := profileTotalsRow.holds Try.pinned (OpenSpec.ofChange profileTotalsSpec)

/-- ITS FALSE NEIGHBOUR: 'it returns false'. Refute it at one input. -/
def profileTotalsWrong : ChangeSpec := { name := "profileTotals", fn := fun _ => fun
  | [d1, d2] => { results := [.lit (.bool false)], args := [d1, d2] }
  | _ => none }
def ProfileTotalsWrongFalsely : Prop := profileTotalsRow.holds Try.pinned (OpenSpec.ofChange profileTotalsWrong)

/-- 'latecomerlaw18.ProfileMerges': WHATEVER THE INPUT: true; the input reads as it did. -/
def profileMergesSpec : ChangeSpec := { name := "profileMerges", fn := fun _ => fun
  | [d1, d2, d3, d4] => { results := [.lit (.bool true)], args := [d1, d2, d3, d4] }
  | _ => none }
def profileMergesRow : OpenClaim := { program := "ytcnfchchanlepaa", sum := "6386d09c258e8213246e39ae5096e0310721aca3abe563b41742a7ebc0a53c65", func := "latecomer/latecomerlaw18.ProfileMerges", spec := "profileMerges", unfollowed := true, recurses := true, plainKeys := false, apart := false }
def ProfileMergesSaid : Prop := profileMergesRow.holds Try.pinned (OpenSpec.ofChange profileMergesSpec)

/-- ITS FALSE NEIGHBOUR: 'it returns false'. Refute it at one input. -/
def profileMergesWrong : ChangeSpec := { name := "profileMerges", fn := fun _ => fun
  | [d1, d2, d3, d4] => { results := [.lit (.bool false)], args := [d1, d2, d3, d4] }
  | _ => none }
def ProfileMergesWrongFalsely : Prop := profileMergesRow.holds Try.pinned (OpenSpec.ofChange profileMergesWrong)

/-- 'latecomerlaw18.ProfileSubtracts': WHATEVER THE INPUT: true; the input reads as it did. -/
def profileSubtractsSpec : ChangeSpec := { name := "profileSubtracts", fn := fun _ => fun
  | [d1, d2, d3] => { results := [.lit (.bool true)], args := [d1, d2, d3] }
  | _ => none }
def profileSubtractsRow : OpenClaim := { program := "ytcnfchchanlepaa", sum := "6386d09c258e8213246e39ae5096e0310721aca3abe563b41742a7ebc0a53c65", func := "latecomer/latecomerlaw18.ProfileSubtracts", spec := "profileSubtracts", unfollowed := true, recurses := true, plainKeys := false, apart := false }
def ProfileSubtractsSaid : Prop := profileSubtractsRow.holds Try.pinned (OpenSpec.ofChange profileSubtractsSpec)

/-- ITS FALSE NEIGHBOUR: 'it returns false'. Refute it at one input. -/
def profileSubtractsWrong : ChangeSpec := { name := "profileSubtracts", fn := fun _ => fun
  | [d1, d2, d3] => { results := [.lit (.bool false)], args := [d1, d2, d3] }
  | _ => none }
def ProfileSubtractsWrongFalsely : Prop := profileSubtractsRow.holds Try.pinned (OpenSpec.ofChange profileSubtractsWrong)

/-- 'latecomerlaw18.ProfileVersions': WHATEVER THE INPUT: true; the input reads as it did. -/
def profileVersionsSpec : ChangeSpec := { name := "profileVersions", fn := fun _ => fun
  | [d1, d2, d3, d4] => { results := [.lit (.bool true)], args := [d1, d2, d3, d4] }
  | _ => none }
def profileVersionsRow : OpenClaim := { program := "ytcnfchchanlepaa", sum := "6386d09c258e8213246e39ae5096e0310721aca3abe563b41742a7ebc0a53c65", func := "latecomer/latecomerlaw18.ProfileVersions", spec := "profileVersions", unfollowed := true, recurses := true, plainKeys := false, apart := false }
def ProfileVersionsSaid : Prop := profileVersionsRow.holds Try.pinned (OpenSpec.ofChange profileVersionsSpec)

/-- ITS FALSE NEIGHBOUR: 'it returns false'. Refute it at one input. -/
def profileVersionsWrong : ChangeSpec := { name := "profileVersions", fn := fun _ => fun
  | [d1, d2, d3, d4] => { results := [.lit (.bool false)], args := [d1, d2, d3, d4] }
  | _ => none }
def ProfileVersionsWrongFalsely : Prop := profileVersionsRow.holds Try.pinned (OpenSpec.ofChange profileVersionsWrong)

/-- 'latecomerlaw18.ProfileDiffs': WHATEVER THE INPUT: true; the input reads as it did. -/
def profileDiffsSpec : ChangeSpec := { name := "profileDiffs", fn := fun _ => fun
  | [d1, d2, d3] => { results := [.lit (.bool true)], args := [d1, d2, d3] }
  | _ => none }
def profileDiffsRow : OpenClaim := { program := "ytcnfchchanlepaa", sum := "6386d09c258e8213246e39ae5096e0310721aca3abe563b41742a7ebc0a53c65", func := "latecomer/latecomerlaw18.ProfileDiffs", spec := "profileDiffs", unfollowed := true, recurses := true, plainKeys := false, apart := false }
def ProfileDiffsSaid : Prop := profileDiffsRow.holds Try.pinned (OpenSpec.ofChange profileDiffsSpec)

/-- ITS FALSE NEIGHBOUR: 'it returns false'. Refute it at one input. -/
def profileDiffsWrong : ChangeSpec := { name := "profileDiffs", fn := fun _ => fun
  | [d1, d2, d3] => { results := [.lit (.bool false)], args := [d1, d2, d3] }
  | _ => none }
def ProfileDiffsWrongFalsely : Prop := profileDiffsRow.holds Try.pinned (OpenSpec.ofChange profileDiffsWrong)

/- THE SECOND FORM. 'bulk': how many values and letters a reading holds, each counted each time it is reached (what is shared counts as often as it is met; a slice's spare places count too). A statement '..UptoSaid' is the law's where the arguments, and the package variables that the reading takes, are together of bulk at most 1048576: NARROWER than '..Said'. Prove '..Said' where nothing that the law and all that it calls make is longer than what came in: it says more and counts as full. Else prove '..UptoSaid'. A law counts once. -/
mutual
def uptoBulk {H : Type} : DataW H → Nat
  | .lit (.string bytes) => bytes.length + 1
  | .lit _ => 1
  | .nil => 1
  | .ptr d => uptoBulk d + 1
  | .slice elems spare => uptoBulkAll elems + uptoBulkAll spare + 1
  | .agg parts => uptoBulkAll parts + 1
  | .iface _ d => uptoBulk d + 1
  | .map entries => uptoBulkEntries entries + 1
  | .held _ => 1
def uptoBulkAll {H : Type} : List (DataW H) → Nat
  | [] => 0
  | d :: r => uptoBulk d + uptoBulkAll r
def uptoBulkEntries {H : Type} : List (Lit × DataW H) → Nat
  | [] => 0
  | x :: r => uptoBulkEntry x + uptoBulkEntries r
def uptoBulkEntry {H : Type} : Lit × DataW H → Nat
  | (.string bytes, d) => bytes.length + uptoBulk d + 1
  | (_, d) => uptoBulk d + 1
 end
def uptoSmall : (H : Type) → List (DataW H) → Bool := fun _ ds => decide (uptoBulkAll ds ≤ 1048576)
def OpenSpec.upto (s : _root_.Go.ChangeSpec) : _root_.Go.OpenSpec := { _root_.Go.OpenSpec.ofChange s with cond := some uptoSmall }

/-- 'latecomerlaw18.ProfileMatchesReference', WHERE WHAT IT READS IS OF BULK AT MOST 1048576: true; the input reads as it did. -/
def profileMatchesReferenceUptoRow : OpenClaim := { program := "ytcnfchchanlepaa", sum := "6386d09c258e8213246e39ae5096e0310721aca3abe563b41742a7ebc0a53c65", func := "latecomer/latecomerlaw18.ProfileMatchesReference", spec := "profileMatchesReference", unfollowed := true, recurses := true, plainKeys := false, apart := false, narrowed := true }
def ProfileMatchesReferenceUptoSaid : Prop := profileMatchesReferenceUptoRow.holds Try.pinned (OpenSpec.upto profileMatchesReferenceSpec)

/-- 'latecomerlaw18.ProfileFolds', WHERE WHAT IT READS IS OF BULK AT MOST 1048576: true; the input reads as it did. -/
def profileFoldsUptoRow : OpenClaim := { program := "ytcnfchchanlepaa", sum := "6386d09c258e8213246e39ae5096e0310721aca3abe563b41742a7ebc0a53c65", func := "latecomer/latecomerlaw18.ProfileFolds", spec := "profileFolds", unfollowed := true, recurses := true, plainKeys := false, apart := false, narrowed := true }
def ProfileFoldsUptoSaid : Prop := profileFoldsUptoRow.holds Try.pinned (OpenSpec.upto profileFoldsSpec)

/-- 'latecomerlaw18.ProfileTotals', WHERE WHAT IT READS IS OF BULK AT MOST 1048576: true; the input reads as it did. -/
def profileTotalsUptoRow : OpenClaim := { program := "ytcnfchchanlepaa", sum := "6386d09c258e8213246e39ae5096e0310721aca3abe563b41742a7ebc0a53c65", func := "latecomer/latecomerlaw18.ProfileTotals", spec := "profileTotals", unfollowed := true, recurses := true, plainKeys := false, apart := false, narrowed := true }
def ProfileTotalsUptoSaid : Prop := profileTotalsUptoRow.holds Try.pinned (OpenSpec.upto profileTotalsSpec)

/-- 'latecomerlaw18.ProfileMerges', WHERE WHAT IT READS IS OF BULK AT MOST 1048576: true; the input reads as it did. -/
def profileMergesUptoRow : OpenClaim := { program := "ytcnfchchanlepaa", sum := "6386d09c258e8213246e39ae5096e0310721aca3abe563b41742a7ebc0a53c65", func := "latecomer/latecomerlaw18.ProfileMerges", spec := "profileMerges", unfollowed := true, recurses := true, plainKeys := false, apart := false, narrowed := true }
def ProfileMergesUptoSaid : Prop := profileMergesUptoRow.holds Try.pinned (OpenSpec.upto profileMergesSpec)

/-- 'latecomerlaw18.ProfileSubtracts', WHERE WHAT IT READS IS OF BULK AT MOST 1048576: true; the input reads as it did. -/
def profileSubtractsUptoRow : OpenClaim := { program := "ytcnfchchanlepaa", sum := "6386d09c258e8213246e39ae5096e0310721aca3abe563b41742a7ebc0a53c65", func := "latecomer/latecomerlaw18.ProfileSubtracts", spec := "profileSubtracts", unfollowed := true, recurses := true, plainKeys := false, apart := false, narrowed := true }
def ProfileSubtractsUptoSaid : Prop := profileSubtractsUptoRow.holds Try.pinned (OpenSpec.upto profileSubtractsSpec)

/-- 'latecomerlaw18.ProfileVersions', WHERE WHAT IT READS IS OF BULK AT MOST 1048576: true; the input reads as it did. -/
def profileVersionsUptoRow : OpenClaim := { program := "ytcnfchchanlepaa", sum := "6386d09c258e8213246e39ae5096e0310721aca3abe563b41742a7ebc0a53c65", func := "latecomer/latecomerlaw18.ProfileVersions", spec := "profileVersions", unfollowed := true, recurses := true, plainKeys := false, apart := false, narrowed := true }
def ProfileVersionsUptoSaid : Prop := profileVersionsUptoRow.holds Try.pinned (OpenSpec.upto profileVersionsSpec)

/-- 'latecomerlaw18.ProfileDiffs', WHERE WHAT IT READS IS OF BULK AT MOST 1048576: true; the input reads as it did. -/
def profileDiffsUptoRow : OpenClaim := { program := "ytcnfchchanlepaa", sum := "6386d09c258e8213246e39ae5096e0310721aca3abe563b41742a7ebc0a53c65", func := "latecomer/latecomerlaw18.ProfileDiffs", spec := "profileDiffs", unfollowed := true, recurses := true, plainKeys := false, apart := false, narrowed := true }
def ProfileDiffsUptoSaid : Prop := profileDiffsUptoRow.holds Try.pinned (OpenSpec.upto profileDiffsSpec)

end Rows
end Go.Proofs.Ytcnfchchanlepaa

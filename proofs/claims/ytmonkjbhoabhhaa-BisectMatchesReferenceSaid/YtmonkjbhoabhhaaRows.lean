/-
  No cell of these rows narrows 'for every input' (looked for: loops, veiled, ifaces, maps, wideKeys, modest, calm, conditions, laid).
  DERIVED. THE GIVEN ROWS OF THIS SEAT. 6 by the template 'for every input the law returns true; each argument reads behind the call as it read before'; 0 by the template 'total and deterministic' (their statements: YtmonkjbhoabhhaaTotals.lean).
  GIVEN WITH THE SEED: the statements are not yours to turn. If you find one false, say at which input.
  Laid BY PROGRAM, IN A SANDBOX (cutbox-rows.mjs): the forced cells as the released guide's own fill.sh prints them over the translation 0143dcabd61353ae… (all of the seat's roots in one cut). By AI agents, Wed Nov 11 2026. No macro, syntax, notation, axiom, sorry.
-/
import Derived.Test.YtmonkjbhoabhhaaChecked
import GoSem.Claim
import GoSem.ClaimJoined
import GoSem.ClaimMapViews
import Derived.JoinedTies
import Derived.KernelRfl
namespace Go.Proofs.Ytmonkjbhoabhhaa
/- THE CELL 'sum', in the pinned program and in every row, IS THE sha256 OF THE DUMP (.gsa) THAT YtmonkjbhoabhhaaProg.lean LOADS. Nothing in Lean hashes anything: it is a label: what it is worth is what the hold of that sum in a sandbox is worth. -/
noncomputable def Try.pinned : Pinned := { name := "ytmonkjbhoabhhaa", sum := "0143dcabd61353aeb09ba3bc817b11bd61a73b1e1b582b4a90b44963e4b9c560", checked := Try.checked }
namespace Rows
def none {H : Type} : Left H := { results := [], args := [] }

/-- 'latecomerlaw29.BisectMatchesReference': WHATEVER THE INPUT: true; the input reads as it did. -/
def bisectMatchesReferenceSpec : ChangeSpec := { name := "bisectMatchesReference", fn := fun _ => fun
  | [d1, d2, d3, d4, d5, d6, d7] => { results := [.lit (.bool true)], args := [d1, d2, d3, d4, d5, d6, d7] }
  | _ => none }
def bisectMatchesReferenceRow : OpenClaim := { program := "ytmonkjbhoabhhaa", sum := "0143dcabd61353aeb09ba3bc817b11bd61a73b1e1b582b4a90b44963e4b9c560", func := "latecomer/latecomerlaw29.BisectMatchesReference", spec := "bisectMatchesReference", unfollowed := true, recurses := true, plainKeys := false, apart := false }
def BisectMatchesReferenceSaid : Prop := bisectMatchesReferenceRow.holds Try.pinned (OpenSpec.ofChange bisectMatchesReferenceSpec)

/-- ITS FALSE NEIGHBOUR: 'it returns false'. Refute it at one input. -/
def bisectMatchesReferenceWrong : ChangeSpec := { name := "bisectMatchesReference", fn := fun _ => fun
  | [d1, d2, d3, d4, d5, d6, d7] => { results := [.lit (.bool false)], args := [d1, d2, d3, d4, d5, d6, d7] }
  | _ => none }
def BisectMatchesReferenceWrongFalsely : Prop := bisectMatchesReferenceRow.holds Try.pinned (OpenSpec.ofChange bisectMatchesReferenceWrong)

/-- 'latecomerlaw29.BisectKeeps': WHATEVER THE INPUT: true; the input reads as it did. -/
def bisectKeepsSpec : ChangeSpec := { name := "bisectKeeps", fn := fun _ => fun
  | [d1, d2, d3, d4] => { results := [.lit (.bool true)], args := [d1, d2, d3, d4] }
  | _ => none }
def bisectKeepsRow : OpenClaim := { program := "ytmonkjbhoabhhaa", sum := "0143dcabd61353aeb09ba3bc817b11bd61a73b1e1b582b4a90b44963e4b9c560", func := "latecomer/latecomerlaw29.BisectKeeps", spec := "bisectKeeps", unfollowed := true, recurses := true, plainKeys := false, apart := false }
def BisectKeepsSaid : Prop := bisectKeepsRow.holds Try.pinned (OpenSpec.ofChange bisectKeepsSpec)

/-- ITS FALSE NEIGHBOUR: 'it returns false'. Refute it at one input. -/
def bisectKeepsWrong : ChangeSpec := { name := "bisectKeeps", fn := fun _ => fun
  | [d1, d2, d3, d4] => { results := [.lit (.bool false)], args := [d1, d2, d3, d4] }
  | _ => none }
def BisectKeepsWrongFalsely : Prop := bisectKeepsRow.holds Try.pinned (OpenSpec.ofChange bisectKeepsWrong)

/-- 'latecomerlaw29.BisectSplits': WHATEVER THE INPUT: true; the input reads as it did. -/
def bisectSplitsSpec : ChangeSpec := { name := "bisectSplits", fn := fun _ => fun
  | [d1, d2, d3, d4, d5] => { results := [.lit (.bool true)], args := [d1, d2, d3, d4, d5] }
  | _ => none }
def bisectSplitsRow : OpenClaim := { program := "ytmonkjbhoabhhaa", sum := "0143dcabd61353aeb09ba3bc817b11bd61a73b1e1b582b4a90b44963e4b9c560", func := "latecomer/latecomerlaw29.BisectSplits", spec := "bisectSplits", unfollowed := true, recurses := true, plainKeys := false, apart := false }
def BisectSplitsSaid : Prop := bisectSplitsRow.holds Try.pinned (OpenSpec.ofChange bisectSplitsSpec)

/-- ITS FALSE NEIGHBOUR: 'it returns false'. Refute it at one input. -/
def bisectSplitsWrong : ChangeSpec := { name := "bisectSplits", fn := fun _ => fun
  | [d1, d2, d3, d4, d5] => { results := [.lit (.bool false)], args := [d1, d2, d3, d4, d5] }
  | _ => none }
def BisectSplitsWrongFalsely : Prop := bisectSplitsRow.holds Try.pinned (OpenSpec.ofChange bisectSplitsWrong)

/-- 'latecomerlaw29.BisectEnds': WHATEVER THE INPUT: true; the input reads as it did. -/
def bisectEndsSpec : ChangeSpec := { name := "bisectEnds", fn := fun _ => fun
  | [d1, d2] => { results := [.lit (.bool true)], args := [d1, d2] }
  | _ => none }
def bisectEndsRow : OpenClaim := { program := "ytmonkjbhoabhhaa", sum := "0143dcabd61353aeb09ba3bc817b11bd61a73b1e1b582b4a90b44963e4b9c560", func := "latecomer/latecomerlaw29.BisectEnds", spec := "bisectEnds", unfollowed := true, recurses := true, plainKeys := false, apart := false }
def BisectEndsSaid : Prop := bisectEndsRow.holds Try.pinned (OpenSpec.ofChange bisectEndsSpec)

/-- ITS FALSE NEIGHBOUR: 'it returns false'. Refute it at one input. -/
def bisectEndsWrong : ChangeSpec := { name := "bisectEnds", fn := fun _ => fun
  | [d1, d2] => { results := [.lit (.bool false)], args := [d1, d2] }
  | _ => none }
def BisectEndsWrongFalsely : Prop := bisectEndsRow.holds Try.pinned (OpenSpec.ofChange bisectEndsWrong)

/-- 'latecomerlaw29.BisectMore': WHATEVER THE INPUT: true; the input reads as it did. -/
def bisectMoreSpec : ChangeSpec := { name := "bisectMore", fn := fun _ => fun
  | [d1, d2, d3, d4, d5] => { results := [.lit (.bool true)], args := [d1, d2, d3, d4, d5] }
  | _ => none }
def bisectMoreRow : OpenClaim := { program := "ytmonkjbhoabhhaa", sum := "0143dcabd61353aeb09ba3bc817b11bd61a73b1e1b582b4a90b44963e4b9c560", func := "latecomer/latecomerlaw29.BisectMore", spec := "bisectMore", unfollowed := true, recurses := true, plainKeys := false, apart := false }
def BisectMoreSaid : Prop := bisectMoreRow.holds Try.pinned (OpenSpec.ofChange bisectMoreSpec)

/-- ITS FALSE NEIGHBOUR: 'it returns false'. Refute it at one input. -/
def bisectMoreWrong : ChangeSpec := { name := "bisectMore", fn := fun _ => fun
  | [d1, d2, d3, d4, d5] => { results := [.lit (.bool false)], args := [d1, d2, d3, d4, d5] }
  | _ => none }
def BisectMoreWrongFalsely : Prop := bisectMoreRow.holds Try.pinned (OpenSpec.ofChange bisectMoreWrong)

/-- 'latecomerlaw29.BisectMoments': WHATEVER THE INPUT: true; the input reads as it did. -/
def bisectMomentsSpec : ChangeSpec := { name := "bisectMoments", fn := fun _ => fun
  | [d1, d2] => { results := [.lit (.bool true)], args := [d1, d2] }
  | _ => none }
def bisectMomentsRow : OpenClaim := { program := "ytmonkjbhoabhhaa", sum := "0143dcabd61353aeb09ba3bc817b11bd61a73b1e1b582b4a90b44963e4b9c560", func := "latecomer/latecomerlaw29.BisectMoments", spec := "bisectMoments", unfollowed := true, recurses := true, plainKeys := false, apart := false }
def BisectMomentsSaid : Prop := bisectMomentsRow.holds Try.pinned (OpenSpec.ofChange bisectMomentsSpec)

/-- ITS FALSE NEIGHBOUR: 'it returns false'. Refute it at one input. -/
def bisectMomentsWrong : ChangeSpec := { name := "bisectMoments", fn := fun _ => fun
  | [d1, d2] => { results := [.lit (.bool false)], args := [d1, d2] }
  | _ => none }
def BisectMomentsWrongFalsely : Prop := bisectMomentsRow.holds Try.pinned (OpenSpec.ofChange bisectMomentsWrong)

/- THE SECOND FORM. 'bulk': how many values and letters a reading holds, each counted each time it is reached (what is shared counts as often as it is met; a slice's spare places count too). A statement '..UptoSaid' is the law's where the arguments, and the package variables that the reading takes, are together of bulk at most 1048576: NARROWER than '..Said'. Prove '..Said' where nothing that the law and all that it calls make is longer than what came in: it says more and counts as full. Else prove '..UptoSaid'. A law counts once. -/
mutual
def uptoBulk {H : Type} : DataW H → Nat
  | .lit (.string bytes) => bytes.length + 1
  | .lit _ => 1
  | .nil => 1
  | .ptr d => uptoBulk d + 1
  | .slice elems spare => uptoBulkAll elems + uptoBulkAll spare + 1
  | .agg parts => uptoBulkAll parts + 1
  | .iface _ d => uptoBulk d + 1
  | .map entries => uptoBulkEntries entries + 1
  | .held _ => 1
def uptoBulkAll {H : Type} : List (DataW H) → Nat
  | [] => 0
  | d :: r => uptoBulk d + uptoBulkAll r
def uptoBulkEntries {H : Type} : List (Lit × DataW H) → Nat
  | [] => 0
  | x :: r => uptoBulkEntry x + uptoBulkEntries r
def uptoBulkEntry {H : Type} : Lit × DataW H → Nat
  | (.string bytes, d) => bytes.length + uptoBulk d + 1
  | (_, d) => uptoBulk d + 1
 end
def uptoSmall : (H : Type) → List (DataW H) → Bool := fun _ ds => decide (uptoBulkAll ds ≤ 1048576)
def OpenSpec.upto (s : _root_.Go.ChangeSpec) : _root_.Go.OpenSpec := { _root_.Go.OpenSpec.ofChange s with cond := some uptoSmall }

/-- 'latecomerlaw29.BisectMatchesReference', WHERE WHAT IT READS IS OF BULK AT MOST 1048576: true; the input reads as it did. -/
def bisectMatchesReferenceUptoRow : OpenClaim := { program := "ytmonkjbhoabhhaa", sum := "0143dcabd61353aeb09ba3bc817b11bd61a73b1e1b582b4a90b44963e4b9c560", func := "latecomer/latecomerlaw29.BisectMatchesReference", spec := "bisectMatchesReference", unfollowed := true, recurses := true, plainKeys := false, apart := false, narrowed := true }
def BisectMatchesReferenceUptoSaid : Prop := bisectMatchesReferenceUptoRow.holds Try.pinned (OpenSpec.upto bisectMatchesReferenceSpec)

/-- 'latecomerlaw29.BisectKeeps', WHERE WHAT IT READS IS OF BULK AT MOST 1048576: true; the input reads as it did. -/
def bisectKeepsUptoRow : OpenClaim := { program := "ytmonkjbhoabhhaa", sum := "0143dcabd61353aeb09ba3bc817b11bd61a73b1e1b582b4a90b44963e4b9c560", func := "latecomer/latecomerlaw29.BisectKeeps", spec := "bisectKeeps", unfollowed := true, recurses := true, plainKeys := false, apart := false, narrowed := true }
def BisectKeepsUptoSaid : Prop := bisectKeepsUptoRow.holds Try.pinned (OpenSpec.upto bisectKeepsSpec)

/-- 'latecomerlaw29.BisectSplits', WHERE WHAT IT READS IS OF BULK AT MOST 1048576: true; the input reads as it did. -/
def bisectSplitsUptoRow : OpenClaim := { program := "ytmonkjbhoabhhaa", sum := "0143dcabd61353aeb09ba3bc817b11bd61a73b1e1b582b4a90b44963e4b9c560", func := "latecomer/latecomerlaw29.BisectSplits", spec := "bisectSplits", unfollowed := true, recurses := true, plainKeys := false, apart := false, narrowed := true }
def BisectSplitsUptoSaid : Prop := bisectSplitsUptoRow.holds Try.pinned (OpenSpec.upto bisectSplitsSpec)

/-- 'latecomerlaw29.BisectEnds', WHERE WHAT IT READS IS OF BULK AT MOST 1048576: true; the input reads as it did. -/
def bisectEndsUptoRow : OpenClaim := { program := "ytmonkjbhoabhhaa", sum := "0143dcabd61353aeb09ba3bc817b11bd61a73b1e1b582b4a90b44963e4b9c560", func := "latecomer/latecomerlaw29.BisectEnds", spec := "bisectEnds", unfollowed := true, recurses := true, plainKeys := false, apart := false, narrowed := true }
def BisectEndsUptoSaid : Prop := bisectEndsUptoRow.holds Try.pinned (OpenSpec.upto bisectEndsSpec)

/-- 'latecomerlaw29.BisectMore', WHERE WHAT IT READS IS OF BULK AT MOST 1048576: true; the input reads as it did. -/
def bisectMoreUptoRow : OpenClaim := { program := "ytmonkjbhoabhhaa", sum := "0143dcabd61353aeb09ba3bc817b11bd61a73b1e1b582b4a90b44963e4b9c560", func := "latecomer/latecomerlaw29.BisectMore", spec := "bisectMore", unfollowed := true, recurses := true, plainKeys := false, apart := false, narrowed := true }
def BisectMoreUptoSaid : Prop := bisectMoreUptoRow.holds Try.pinned (OpenSpec.upto bisectMoreSpec)

/-- 'latecomerlaw29.BisectMoments', WHERE WHAT IT READS IS OF BULK AT MOST 1048576: true; the input reads as it did. -/
def bisectMomentsUptoRow : OpenClaim := { program := "ytmonkjbhoabhhaa", sum := "0143dcabd61353aeb09ba3bc817b11bd61a73b1e1b582b4a90b44963e4b9c560", func := "latecomer/latecomerlaw29.BisectMoments", spec := "bisectMoments", unfollowed := true, recurses := true, plainKeys := false, apart := false, narrowed := true }
def BisectMomentsUptoSaid : Prop := bisectMomentsUptoRow.holds Try.pinned (OpenSpec.upto bisectMomentsSpec)

end Rows
end Go.Proofs.Ytmonkjbhoabhhaa

/-
  NARROWER THAN 'FOR EVERY INPUT', by the rows' own cells (each row's printed sentence says how): SketchMatchesReference: laid · SketchMerges: laid · SketchSubtracts: laid · SketchQuantile: laid · SketchSums: laid · SketchCodeMatchesReference: laid · SketchRoundTrip: laid.
  DERIVED. THE GIVEN ROWS OF THIS SEAT. 7 by the template 'for every input the law returns true; each argument reads behind the call as it read before'; 0 by the template 'total and deterministic' (their statements: YtogfficbloejcaaDoorTotals.lean).
  GIVEN WITH THE SEED: the statements are not yours to turn. If you find one false, say at which input.
  Laid BY PROGRAM, IN A SANDBOX (cutbox-rows.mjs): the forced cells as the released guide's own fill.sh prints them over the translation a9a3581472391140… (all of the seat's roots in one cut). By AI agents, Wed Nov 11 2026. No macro, syntax, notation, axiom, sorry.
-/
import Derived.Test.YtogfficbloejcaaDoorChecked
import GoSem.Claim
import GoSem.ClaimJoined
import GoSem.ClaimMapViews
import Derived.JoinedTies
import Derived.KernelRfl
namespace Go.Proofs.YtogfficbloejcaaDoor
/- THE CELL 'sum', in the pinned program and in every row, IS THE sha256 OF THE DUMP (.gsa) THAT YtogfficbloejcaaDoorProg.lean LOADS. Nothing in Lean hashes anything: it is a label: what it is worth is what the hold of that sum in a sandbox is worth. -/
noncomputable def Tryd.pinned : Pinned := { name := "ytogfficbloejcaadoor", sum := "a9a3581472391140763b532052955b7fb07f368bde2707fbb58cc6c94b77516d", checked := Tryd.checked }
namespace Rows
def none {H : Type} : Left H := { results := [], args := [] }

/- WHAT THE LISTED PACKAGE-LEVEL VARIABLES READ AS WHEN THE CALL BEGINS. Each datum BY PROGRAM (the guide's laid-datum.mjs) off the statement by which the dump's own 'gosem.cut.vars' lays the variable. In a bare row this is a premise. The card (YtogfficbloejcaaDoorCards.lean) ties it to the program's text. -/
def laid_latecomer_sketch_limits {H : Type} : DataW H := .agg [.lit (.int .i64 7), .lit (.int .i64 9), .lit (.int .i64 11), .lit (.int .i64 99)]

/-- 'latecomerlaw17.SketchMatchesReference': WHATEVER THE INPUT: true; the input reads as it did. -/
def sketchMatchesReferenceSpec : ChangeSpec := { name := "sketchMatchesReference", fn := fun _ => fun
  | [d1, d2, d3, d4, d5, d6, d7] => { results := [.lit (.bool true)], args := [d1, d2, d3, d4, d5, d6, d7] }
  | _ => none }
def sketchMatchesReferenceRow : OpenClaim := { program := "ytogfficbloejcaadoor", sum := "a9a3581472391140763b532052955b7fb07f368bde2707fbb58cc6c94b77516d", func := "latecomer/latecomerlaw17.SketchMatchesReference", spec := "sketchMatchesReference", unfollowed := true, recurses := true, named := ["latecomer/sketch.limits"], plainKeys := false, apart := false, laid := [("latecomer/sketch.limits", laid_latecomer_sketch_limits)] }
def SketchMatchesReferenceSaid : Prop := sketchMatchesReferenceRow.holds Tryd.pinned (OpenSpec.ofChange sketchMatchesReferenceSpec)

/-- ITS FALSE NEIGHBOUR: 'it returns false'. Refute it at one input. -/
def sketchMatchesReferenceWrong : ChangeSpec := { name := "sketchMatchesReference", fn := fun _ => fun
  | [d1, d2, d3, d4, d5, d6, d7] => { results := [.lit (.bool false)], args := [d1, d2, d3, d4, d5, d6, d7] }
  | _ => none }
def SketchMatchesReferenceWrongFalsely : Prop := sketchMatchesReferenceRow.holds Tryd.pinned (OpenSpec.ofChange sketchMatchesReferenceWrong)

/-- 'latecomerlaw17.SketchMerges': WHATEVER THE INPUT: true; the input reads as it did. -/
def sketchMergesSpec : ChangeSpec := { name := "sketchMerges", fn := fun _ => fun
  | [d1, d2, d3, d4] => { results := [.lit (.bool true)], args := [d1, d2, d3, d4] }
  | _ => none }
def sketchMergesRow : OpenClaim := { program := "ytogfficbloejcaadoor", sum := "a9a3581472391140763b532052955b7fb07f368bde2707fbb58cc6c94b77516d", func := "latecomer/latecomerlaw17.SketchMerges", spec := "sketchMerges", unfollowed := true, recurses := true, named := ["latecomer/sketch.limits"], plainKeys := false, apart := false, laid := [("latecomer/sketch.limits", laid_latecomer_sketch_limits)] }
def SketchMergesSaid : Prop := sketchMergesRow.holds Tryd.pinned (OpenSpec.ofChange sketchMergesSpec)

/-- ITS FALSE NEIGHBOUR: 'it returns false'. Refute it at one input. -/
def sketchMergesWrong : ChangeSpec := { name := "sketchMerges", fn := fun _ => fun
  | [d1, d2, d3, d4] => { results := [.lit (.bool false)], args := [d1, d2, d3, d4] }
  | _ => none }
def SketchMergesWrongFalsely : Prop := sketchMergesRow.holds Tryd.pinned (OpenSpec.ofChange sketchMergesWrong)

/-- 'latecomerlaw17.SketchSubtracts': WHATEVER THE INPUT: true; the input reads as it did. -/
def sketchSubtractsSpec : ChangeSpec := { name := "sketchSubtracts", fn := fun _ => fun
  | [d1, d2, d3] => { results := [.lit (.bool true)], args := [d1, d2, d3] }
  | _ => none }
def sketchSubtractsRow : OpenClaim := { program := "ytogfficbloejcaadoor", sum := "a9a3581472391140763b532052955b7fb07f368bde2707fbb58cc6c94b77516d", func := "latecomer/latecomerlaw17.SketchSubtracts", spec := "sketchSubtracts", unfollowed := true, recurses := true, named := ["latecomer/sketch.limits"], plainKeys := false, apart := false, laid := [("latecomer/sketch.limits", laid_latecomer_sketch_limits)] }
def SketchSubtractsSaid : Prop := sketchSubtractsRow.holds Tryd.pinned (OpenSpec.ofChange sketchSubtractsSpec)

/-- ITS FALSE NEIGHBOUR: 'it returns false'. Refute it at one input. -/
def sketchSubtractsWrong : ChangeSpec := { name := "sketchSubtracts", fn := fun _ => fun
  | [d1, d2, d3] => { results := [.lit (.bool false)], args := [d1, d2, d3] }
  | _ => none }
def SketchSubtractsWrongFalsely : Prop := sketchSubtractsRow.holds Tryd.pinned (OpenSpec.ofChange sketchSubtractsWrong)

/-- 'latecomerlaw17.SketchQuantile': WHATEVER THE INPUT: true; the input reads as it did. -/
def sketchQuantileSpec : ChangeSpec := { name := "sketchQuantile", fn := fun _ => fun
  | [d1, d2, d3, d4] => { results := [.lit (.bool true)], args := [d1, d2, d3, d4] }
  | _ => none }
def sketchQuantileRow : OpenClaim := { program := "ytogfficbloejcaadoor", sum := "a9a3581472391140763b532052955b7fb07f368bde2707fbb58cc6c94b77516d", func := "latecomer/latecomerlaw17.SketchQuantile", spec := "sketchQuantile", unfollowed := true, recurses := true, named := ["latecomer/sketch.limits"], plainKeys := false, apart := false, laid := [("latecomer/sketch.limits", laid_latecomer_sketch_limits)] }
def SketchQuantileSaid : Prop := sketchQuantileRow.holds Tryd.pinned (OpenSpec.ofChange sketchQuantileSpec)

/-- ITS FALSE NEIGHBOUR: 'it returns false'. Refute it at one input. -/
def sketchQuantileWrong : ChangeSpec := { name := "sketchQuantile", fn := fun _ => fun
  | [d1, d2, d3, d4] => { results := [.lit (.bool false)], args := [d1, d2, d3, d4] }
  | _ => none }
def SketchQuantileWrongFalsely : Prop := sketchQuantileRow.holds Tryd.pinned (OpenSpec.ofChange sketchQuantileWrong)

/-- 'latecomerlaw17.SketchSums': WHATEVER THE INPUT: true; the input reads as it did. -/
def sketchSumsSpec : ChangeSpec := { name := "sketchSums", fn := fun _ => fun
  | [d] => { results := [.lit (.bool true)], args := [d] }
  | _ => none }
def sketchSumsRow : OpenClaim := { program := "ytogfficbloejcaadoor", sum := "a9a3581472391140763b532052955b7fb07f368bde2707fbb58cc6c94b77516d", func := "latecomer/latecomerlaw17.SketchSums", spec := "sketchSums", unfollowed := true, recurses := true, named := ["latecomer/sketch.limits"], plainKeys := false, apart := false, laid := [("latecomer/sketch.limits", laid_latecomer_sketch_limits)] }
def SketchSumsSaid : Prop := sketchSumsRow.holds Tryd.pinned (OpenSpec.ofChange sketchSumsSpec)

/-- ITS FALSE NEIGHBOUR: 'it returns false'. Refute it at one input. -/
def sketchSumsWrong : ChangeSpec := { name := "sketchSums", fn := fun _ => fun
  | [d] => { results := [.lit (.bool false)], args := [d] }
  | _ => none }
def SketchSumsWrongFalsely : Prop := sketchSumsRow.holds Tryd.pinned (OpenSpec.ofChange sketchSumsWrong)

/-- 'latecomerlaw17.SketchCodeMatchesReference': WHATEVER THE INPUT: true; the input reads as it did. -/
def sketchCodeMatchesReferenceSpec : ChangeSpec := { name := "sketchCodeMatchesReference", fn := fun _ => fun
  | [d1, d2, d3, d4, d5] => { results := [.lit (.bool true)], args := [d1, d2, d3, d4, d5] }
  | _ => none }
def sketchCodeMatchesReferenceRow : OpenClaim := { program := "ytogfficbloejcaadoor", sum := "a9a3581472391140763b532052955b7fb07f368bde2707fbb58cc6c94b77516d", func := "latecomer/latecomerlaw17.SketchCodeMatchesReference", spec := "sketchCodeMatchesReference", unfollowed := true, recurses := true, named := ["latecomer/sketch.limits"], plainKeys := false, apart := false, laid := [("latecomer/sketch.limits", laid_latecomer_sketch_limits)] }
def SketchCodeMatchesReferenceSaid : Prop := sketchCodeMatchesReferenceRow.holds Tryd.pinned (OpenSpec.ofChange sketchCodeMatchesReferenceSpec)

/-- ITS FALSE NEIGHBOUR: 'it returns false'. Refute it at one input. -/
def sketchCodeMatchesReferenceWrong : ChangeSpec := { name := "sketchCodeMatchesReference", fn := fun _ => fun
  | [d1, d2, d3, d4, d5] => { results := [.lit (.bool false)], args := [d1, d2, d3, d4, d5] }
  | _ => none }
def SketchCodeMatchesReferenceWrongFalsely : Prop := sketchCodeMatchesReferenceRow.holds Tryd.pinned (OpenSpec.ofChange sketchCodeMatchesReferenceWrong)

/-- 'latecomerlaw17.SketchRoundTrip': WHATEVER THE INPUT: true; the input reads as it did. -/
def sketchRoundTripSpec : ChangeSpec := { name := "sketchRoundTrip", fn := fun _ => fun
  | [d1, d2, d3, d4, d5, d6] => { results := [.lit (.bool true)], args := [d1, d2, d3, d4, d5, d6] }
  | _ => none }
def sketchRoundTripRow : OpenClaim := { program := "ytogfficbloejcaadoor", sum := "a9a3581472391140763b532052955b7fb07f368bde2707fbb58cc6c94b77516d", func := "latecomer/latecomerlaw17.SketchRoundTrip", spec := "sketchRoundTrip", unfollowed := true, recurses := true, named := ["latecomer/sketch.limits"], plainKeys := false, apart := false, laid := [("latecomer/sketch.limits", laid_latecomer_sketch_limits)] }
def SketchRoundTripSaid : Prop := sketchRoundTripRow.holds Tryd.pinned (OpenSpec.ofChange sketchRoundTripSpec)

/-- ITS FALSE NEIGHBOUR: 'it returns false'. Refute it at one input. -/
def sketchRoundTripWrong : ChangeSpec := { name := "sketchRoundTrip", fn := fun _ => fun
  | [d1, d2, d3, d4, d5, d6] => { results := [.lit (.bool false)], args := [d1, d2, d3, d4, d5, d6] }
  | _ => none }
def SketchRoundTripWrongFalsely : Prop := sketchRoundTripRow.holds Tryd.pinned (OpenSpec.ofChange sketchRoundTripWrong)

/- THE SECOND FORM. 'bulk': how many values and letters a reading holds, each counted each time it is reached (what is shared counts as often as it is met; a slice's spare places count too). A statement '..UptoSaid' is the law's where the arguments, and the package variables that the reading takes, are together of bulk at most 1048576: NARROWER than '..Said'. Prove '..Said' where nothing that the law and all that it calls make is longer than what came in: it says more and counts as full. Else prove '..UptoSaid'. A law counts once. -/
mutual
def uptoBulk {H : Type} : DataW H → Nat
  | .lit (.string bytes) => bytes.length + 1
  | .lit _ => 1
  | .nil => 1
  | .ptr d => uptoBulk d + 1
  | .slice elems spare => uptoBulkAll elems + uptoBulkAll spare + 1
  | .agg parts => uptoBulkAll parts + 1
  | .iface _ d => uptoBulk d + 1
  | .map entries => uptoBulkEntries entries + 1
  | .held _ => 1
def uptoBulkAll {H : Type} : List (DataW H) → Nat
  | [] => 0
  | d :: r => uptoBulk d + uptoBulkAll r
def uptoBulkEntries {H : Type} : List (Lit × DataW H) → Nat
  | [] => 0
  | x :: r => uptoBulkEntry x + uptoBulkEntries r
def uptoBulkEntry {H : Type} : Lit × DataW H → Nat
  | (.string bytes, d) => bytes.length + uptoBulk d + 1
  | (_, d) => uptoBulk d + 1
 end
def uptoSmall : (H : Type) → List (DataW H) → Bool := fun _ ds => decide (uptoBulkAll ds ≤ 1048576)
def OpenSpec.upto (s : _root_.Go.ChangeSpec) : _root_.Go.OpenSpec := { _root_.Go.OpenSpec.ofChange s with cond := some uptoSmall }

/-- 'latecomerlaw17.SketchMatchesReference', WHERE WHAT IT READS IS OF BULK AT MOST 1048576: true; the input reads as it did. -/
def sketchMatchesReferenceUptoRow : OpenClaim := { program := "ytogfficbloejcaadoor", sum := "a9a3581472391140763b532052955b7fb07f368bde2707fbb58cc6c94b77516d", func := "latecomer/latecomerlaw17.SketchMatchesReference", spec := "sketchMatchesReference", unfollowed := true, recurses := true, named := ["latecomer/sketch.limits"], plainKeys := false, apart := false, laid := [("latecomer/sketch.limits", laid_latecomer_sketch_limits)], narrowed := true }
def SketchMatchesReferenceUptoSaid : Prop := sketchMatchesReferenceUptoRow.holds Tryd.pinned (OpenSpec.upto sketchMatchesReferenceSpec)

/-- 'latecomerlaw17.SketchMerges', WHERE WHAT IT READS IS OF BULK AT MOST 1048576: true; the input reads as it did. -/
def sketchMergesUptoRow : OpenClaim := { program := "ytogfficbloejcaadoor", sum := "a9a3581472391140763b532052955b7fb07f368bde2707fbb58cc6c94b77516d", func := "latecomer/latecomerlaw17.SketchMerges", spec := "sketchMerges", unfollowed := true, recurses := true, named := ["latecomer/sketch.limits"], plainKeys := false, apart := false, laid := [("latecomer/sketch.limits", laid_latecomer_sketch_limits)], narrowed := true }
def SketchMergesUptoSaid : Prop := sketchMergesUptoRow.holds Tryd.pinned (OpenSpec.upto sketchMergesSpec)

/-- 'latecomerlaw17.SketchSubtracts', WHERE WHAT IT READS IS OF BULK AT MOST 1048576: true; the input reads as it did. -/
def sketchSubtractsUptoRow : OpenClaim := { program := "ytogfficbloejcaadoor", sum := "a9a3581472391140763b532052955b7fb07f368bde2707fbb58cc6c94b77516d", func := "latecomer/latecomerlaw17.SketchSubtracts", spec := "sketchSubtracts", unfollowed := true, recurses := true, named := ["latecomer/sketch.limits"], plainKeys := false, apart := false, laid := [("latecomer/sketch.limits", laid_latecomer_sketch_limits)], narrowed := true }
def SketchSubtractsUptoSaid : Prop := sketchSubtractsUptoRow.holds Tryd.pinned (OpenSpec.upto sketchSubtractsSpec)

/-- 'latecomerlaw17.SketchQuantile', WHERE WHAT IT READS IS OF BULK AT MOST 1048576: true; the input reads as it did. -/
def sketchQuantileUptoRow : OpenClaim := { program := "ytogfficbloejcaadoor", sum := "a9a3581472391140763b532052955b7fb07f368bde2707fbb58cc6c94b77516d", func := "latecomer/latecomerlaw17.SketchQuantile", spec := "sketchQuantile", unfollowed := true, recurses := true, named := ["latecomer/sketch.limits"], plainKeys := false, apart := false, laid := [("latecomer/sketch.limits", laid_latecomer_sketch_limits)], narrowed := true }
def SketchQuantileUptoSaid : Prop := sketchQuantileUptoRow.holds Tryd.pinned (OpenSpec.upto sketchQuantileSpec)

/-- 'latecomerlaw17.SketchSums', WHERE WHAT IT READS IS OF BULK AT MOST 1048576: true; the input reads as it did. -/
def sketchSumsUptoRow : OpenClaim := { program := "ytogfficbloejcaadoor", sum := "a9a3581472391140763b532052955b7fb07f368bde2707fbb58cc6c94b77516d", func := "latecomer/latecomerlaw17.SketchSums", spec := "sketchSums", unfollowed := true, recurses := true, named := ["latecomer/sketch.limits"], plainKeys := false, apart := false, laid := [("latecomer/sketch.limits", laid_latecomer_sketch_limits)], narrowed := true }
def SketchSumsUptoSaid : Prop := sketchSumsUptoRow.holds Tryd.pinned (OpenSpec.upto sketchSumsSpec)

/-- 'latecomerlaw17.SketchCodeMatchesReference', WHERE WHAT IT READS IS OF BULK AT MOST 1048576: true; the input reads as it did. -/
def sketchCodeMatchesReferenceUptoRow : OpenClaim := { program := "ytogfficbloejcaadoor", sum := "a9a3581472391140763b532052955b7fb07f368bde2707fbb58cc6c94b77516d", func := "latecomer/latecomerlaw17.SketchCodeMatchesReference", spec := "sketchCodeMatchesReference", unfollowed := true, recurses := true, named := ["latecomer/sketch.limits"], plainKeys := false, apart := false, laid := [("latecomer/sketch.limits", laid_latecomer_sketch_limits)], narrowed := true }
def SketchCodeMatchesReferenceUptoSaid : Prop := sketchCodeMatchesReferenceUptoRow.holds Tryd.pinned (OpenSpec.upto sketchCodeMatchesReferenceSpec)

/-- 'latecomerlaw17.SketchRoundTrip', WHERE WHAT IT READS IS OF BULK AT MOST 1048576: true; the input reads as it did. -/
def sketchRoundTripUptoRow : OpenClaim := { program := "ytogfficbloejcaadoor", sum := "a9a3581472391140763b532052955b7fb07f368bde2707fbb58cc6c94b77516d", func := "latecomer/latecomerlaw17.SketchRoundTrip", spec := "sketchRoundTrip", unfollowed := true, recurses := true, named := ["latecomer/sketch.limits"], plainKeys := false, apart := false, laid := [("latecomer/sketch.limits", laid_latecomer_sketch_limits)], narrowed := true }
def SketchRoundTripUptoSaid : Prop := sketchRoundTripUptoRow.holds Tryd.pinned (OpenSpec.upto sketchRoundTripSpec)

end Rows
end Go.Proofs.YtogfficbloejcaaDoor

/-
  DERIVED. GIVEN WITH THE SEED: THE CARDS: each row of YtogfficbloejcaaDoorRows.lean that lists a variable, with what it lists TIED to the program's text (the seventh form; the later family's looks); each row that meets fmt, with fmt's text TOLD by the authors' own Lean function (tested against real Go, not proved from fmt's source: count such statements apart). THE CARD IS WHAT COUNTS. Prove the row's statement (the work); the ties are given (YtogfficbloejcaaDoorTie.lean); close each card by the builder's one call (the guide's Derived/Test/ToyasCard.lean, 'card_holds'). Laid BY PROGRAM, IN A SANDBOX (cutbox-door.mjs). By AI agents, Wed Nov 11 2026. No macro, syntax, notation, axiom, sorry.
-/
import Derived.Test.YtogfficbloejcaaDoorRows
import GoSem.ClaimSeven
namespace Go.Proofs.YtogfficbloejcaaDoor
namespace Rows

/-- THE TIED CARD OF 'latecomerlaw17.SketchMatchesReference'. -/
def sketchMatchesReferenceCard : Claim7 := { stood := { row := sketchMatchesReferenceRow, standIns := [], harness := (true, "0301bf5ad87118069b958dcf9a3b1018dc9f601ae8b1d2c156c659ec073aeab9"), looks := false }, kinds := [], alts := [], laidByText := true, laidKinds := [.data], laidTests := true, laidLooks := .later }
def SketchMatchesReferenceCardSaid : Prop := Claim7.holds Tryd.pinned (.plain (OpenSpec.ofChange sketchMatchesReferenceSpec)) sketchMatchesReferenceCard

/-- THE TIED CARD OF 'latecomerlaw17.SketchMerges'. -/
def sketchMergesCard : Claim7 := { stood := { row := sketchMergesRow, standIns := [], harness := (true, "0301bf5ad87118069b958dcf9a3b1018dc9f601ae8b1d2c156c659ec073aeab9"), looks := false }, kinds := [], alts := [], laidByText := true, laidKinds := [.data], laidTests := true, laidLooks := .later }
def SketchMergesCardSaid : Prop := Claim7.holds Tryd.pinned (.plain (OpenSpec.ofChange sketchMergesSpec)) sketchMergesCard

/-- THE TIED CARD OF 'latecomerlaw17.SketchSubtracts'. -/
def sketchSubtractsCard : Claim7 := { stood := { row := sketchSubtractsRow, standIns := [], harness := (true, "0301bf5ad87118069b958dcf9a3b1018dc9f601ae8b1d2c156c659ec073aeab9"), looks := false }, kinds := [], alts := [], laidByText := true, laidKinds := [.data], laidTests := true, laidLooks := .later }
def SketchSubtractsCardSaid : Prop := Claim7.holds Tryd.pinned (.plain (OpenSpec.ofChange sketchSubtractsSpec)) sketchSubtractsCard

/-- THE TIED CARD OF 'latecomerlaw17.SketchQuantile'. -/
def sketchQuantileCard : Claim7 := { stood := { row := sketchQuantileRow, standIns := [], harness := (true, "0301bf5ad87118069b958dcf9a3b1018dc9f601ae8b1d2c156c659ec073aeab9"), looks := false }, kinds := [], alts := [], laidByText := true, laidKinds := [.data], laidTests := true, laidLooks := .later }
def SketchQuantileCardSaid : Prop := Claim7.holds Tryd.pinned (.plain (OpenSpec.ofChange sketchQuantileSpec)) sketchQuantileCard

/-- THE TIED CARD OF 'latecomerlaw17.SketchSums'. -/
def sketchSumsCard : Claim7 := { stood := { row := sketchSumsRow, standIns := [], harness := (true, "0301bf5ad87118069b958dcf9a3b1018dc9f601ae8b1d2c156c659ec073aeab9"), looks := false }, kinds := [], alts := [], laidByText := true, laidKinds := [.data], laidTests := true, laidLooks := .later }
def SketchSumsCardSaid : Prop := Claim7.holds Tryd.pinned (.plain (OpenSpec.ofChange sketchSumsSpec)) sketchSumsCard

/-- THE TIED CARD OF 'latecomerlaw17.SketchCodeMatchesReference'. -/
def sketchCodeMatchesReferenceCard : Claim7 := { stood := { row := sketchCodeMatchesReferenceRow, standIns := [], harness := (true, "0301bf5ad87118069b958dcf9a3b1018dc9f601ae8b1d2c156c659ec073aeab9"), looks := false }, kinds := [], alts := [], laidByText := true, laidKinds := [.data], laidTests := true, laidLooks := .later }
def SketchCodeMatchesReferenceCardSaid : Prop := Claim7.holds Tryd.pinned (.plain (OpenSpec.ofChange sketchCodeMatchesReferenceSpec)) sketchCodeMatchesReferenceCard

/-- THE TIED CARD OF 'latecomerlaw17.SketchRoundTrip'. -/
def sketchRoundTripCard : Claim7 := { stood := { row := sketchRoundTripRow, standIns := [], harness := (true, "0301bf5ad87118069b958dcf9a3b1018dc9f601ae8b1d2c156c659ec073aeab9"), looks := false }, kinds := [], alts := [], laidByText := true, laidKinds := [.data], laidTests := true, laidLooks := .later }
def SketchRoundTripCardSaid : Prop := Claim7.holds Tryd.pinned (.plain (OpenSpec.ofChange sketchRoundTripSpec)) sketchRoundTripCard

/-- THE SECOND FORM's CARD OF 'latecomerlaw17.SketchMatchesReference'. -/
def sketchMatchesReferenceUptoCard : Claim7 := { stood := { row := sketchMatchesReferenceUptoRow, standIns := [], harness := (true, "0301bf5ad87118069b958dcf9a3b1018dc9f601ae8b1d2c156c659ec073aeab9"), looks := false }, kinds := [], alts := [], laidByText := true, laidKinds := [.data], laidTests := true, laidLooks := .later }
def SketchMatchesReferenceUptoCardSaid : Prop := Claim7.holds Tryd.pinned (.plain (OpenSpec.upto sketchMatchesReferenceSpec)) sketchMatchesReferenceUptoCard

/-- THE SECOND FORM's CARD OF 'latecomerlaw17.SketchMerges'. -/
def sketchMergesUptoCard : Claim7 := { stood := { row := sketchMergesUptoRow, standIns := [], harness := (true, "0301bf5ad87118069b958dcf9a3b1018dc9f601ae8b1d2c156c659ec073aeab9"), looks := false }, kinds := [], alts := [], laidByText := true, laidKinds := [.data], laidTests := true, laidLooks := .later }
def SketchMergesUptoCardSaid : Prop := Claim7.holds Tryd.pinned (.plain (OpenSpec.upto sketchMergesSpec)) sketchMergesUptoCard

/-- THE SECOND FORM's CARD OF 'latecomerlaw17.SketchSubtracts'. -/
def sketchSubtractsUptoCard : Claim7 := { stood := { row := sketchSubtractsUptoRow, standIns := [], harness := (true, "0301bf5ad87118069b958dcf9a3b1018dc9f601ae8b1d2c156c659ec073aeab9"), looks := false }, kinds := [], alts := [], laidByText := true, laidKinds := [.data], laidTests := true, laidLooks := .later }
def SketchSubtractsUptoCardSaid : Prop := Claim7.holds Tryd.pinned (.plain (OpenSpec.upto sketchSubtractsSpec)) sketchSubtractsUptoCard

/-- THE SECOND FORM's CARD OF 'latecomerlaw17.SketchQuantile'. -/
def sketchQuantileUptoCard : Claim7 := { stood := { row := sketchQuantileUptoRow, standIns := [], harness := (true, "0301bf5ad87118069b958dcf9a3b1018dc9f601ae8b1d2c156c659ec073aeab9"), looks := false }, kinds := [], alts := [], laidByText := true, laidKinds := [.data], laidTests := true, laidLooks := .later }
def SketchQuantileUptoCardSaid : Prop := Claim7.holds Tryd.pinned (.plain (OpenSpec.upto sketchQuantileSpec)) sketchQuantileUptoCard

/-- THE SECOND FORM's CARD OF 'latecomerlaw17.SketchSums'. -/
def sketchSumsUptoCard : Claim7 := { stood := { row := sketchSumsUptoRow, standIns := [], harness := (true, "0301bf5ad87118069b958dcf9a3b1018dc9f601ae8b1d2c156c659ec073aeab9"), looks := false }, kinds := [], alts := [], laidByText := true, laidKinds := [.data], laidTests := true, laidLooks := .later }
def SketchSumsUptoCardSaid : Prop := Claim7.holds Tryd.pinned (.plain (OpenSpec.upto sketchSumsSpec)) sketchSumsUptoCard

/-- THE SECOND FORM's CARD OF 'latecomerlaw17.SketchCodeMatchesReference'. -/
def sketchCodeMatchesReferenceUptoCard : Claim7 := { stood := { row := sketchCodeMatchesReferenceUptoRow, standIns := [], harness := (true, "0301bf5ad87118069b958dcf9a3b1018dc9f601ae8b1d2c156c659ec073aeab9"), looks := false }, kinds := [], alts := [], laidByText := true, laidKinds := [.data], laidTests := true, laidLooks := .later }
def SketchCodeMatchesReferenceUptoCardSaid : Prop := Claim7.holds Tryd.pinned (.plain (OpenSpec.upto sketchCodeMatchesReferenceSpec)) sketchCodeMatchesReferenceUptoCard

/-- THE SECOND FORM's CARD OF 'latecomerlaw17.SketchRoundTrip'. -/
def sketchRoundTripUptoCard : Claim7 := { stood := { row := sketchRoundTripUptoRow, standIns := [], harness := (true, "0301bf5ad87118069b958dcf9a3b1018dc9f601ae8b1d2c156c659ec073aeab9"), looks := false }, kinds := [], alts := [], laidByText := true, laidKinds := [.data], laidTests := true, laidLooks := .later }
def SketchRoundTripUptoCardSaid : Prop := Claim7.holds Tryd.pinned (.plain (OpenSpec.upto sketchRoundTripSpec)) sketchRoundTripUptoCard
end Rows
end Go.Proofs.YtogfficbloejcaaDoor

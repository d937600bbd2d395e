/-
  DERIVED. GIVEN WITH THE SEED: THE CARDS: each row of YtbncfepdlmnmiaaGreatDoorRows.lean that lists a variable, with what it lists TIED to the program's text (the seventh form; the later family's looks); each row that meets fmt, with fmt's text TOLD by the authors' own Lean function (tested against real Go, not proved from fmt's source: count such statements apart). THE CARD IS WHAT COUNTS. Prove the row's statement (the work); the ties are given (YtbncfepdlmnmiaaGreatDoorTie.lean); close each card by the builder's one call (the guide's Derived/Test/ToyasCard.lean, 'card_holds'). Laid BY PROGRAM, IN A SANDBOX (cutbox-door.mjs). By AI agents, Wed Nov 11 2026. No macro, syntax, notation, axiom, sorry.
-/
import Derived.Test.YtbncfepdlmnmiaaGreatDoorRows
import GoSem.ClaimSeven
namespace Go.Proofs.YtbncfepdlmnmiaaGreatDoor
namespace Rows

/-- THE TIED CARD OF 'clockworklaw49.CheckpointBegins'. -/
def checkpointBeginsCard : Claim7 := { stood := { row := checkpointBeginsRow, standIns := [], harness := (true, "1d2f24292368177364182e612da2f9ad5803c2edb5663a378aa3592662dd04d2"), looks := true }, kinds := [], alts := [], laidByText := true, laidKinds := [.data, .data, .data, .sentinel, .sentinel], laidTests := true, laidLooks := .later }
def CheckpointBeginsCardSaid : Prop := Claim7.holds Tryz.pinned (.plain (OpenSpec.ofChange checkpointBeginsSpec)) checkpointBeginsCard

/-- THE TIED CARD OF 'clockworklaw49.CheckpointSteps'. -/
def checkpointStepsCard : Claim7 := { stood := { row := checkpointStepsRow, standIns := [], harness := (true, "1d2f24292368177364182e612da2f9ad5803c2edb5663a378aa3592662dd04d2"), looks := true }, kinds := [], alts := [], laidByText := true, laidKinds := [.data, .data, .data, .sentinel, .sentinel], laidTests := true, laidLooks := .later }
def CheckpointStepsCardSaid : Prop := Claim7.holds Tryz.pinned (.plain (OpenSpec.ofChange checkpointStepsSpec)) checkpointStepsCard

/-- THE TIED CARD OF 'clockworklaw49.CheckpointFinishes'. -/
def checkpointFinishesCard : Claim7 := { stood := { row := checkpointFinishesRow, standIns := [], harness := (true, "1d2f24292368177364182e612da2f9ad5803c2edb5663a378aa3592662dd04d2"), looks := true }, kinds := [], alts := [], laidByText := true, laidKinds := [.data, .data, .data, .sentinel, .sentinel], laidTests := true, laidLooks := .later }
def CheckpointFinishesCardSaid : Prop := Claim7.holds Tryz.pinned (.plain (OpenSpec.ofChange checkpointFinishesSpec)) checkpointFinishesCard

/-- THE TIED CARD OF 'clockworklaw49.CheckpointRestores'. -/
def checkpointRestoresCard : Claim7 := { stood := { row := checkpointRestoresRow, standIns := [], harness := (true, "1d2f24292368177364182e612da2f9ad5803c2edb5663a378aa3592662dd04d2"), looks := true }, kinds := [], alts := [], laidByText := true, laidKinds := [.data, .data, .data, .sentinel, .sentinel], laidTests := true, laidLooks := .later }
def CheckpointRestoresCardSaid : Prop := Claim7.holds Tryz.pinned (.plain (OpenSpec.ofChange checkpointRestoresSpec)) checkpointRestoresCard

/-- THE TIED CARD OF 'clockworklaw49.CheckpointSizes'. -/
def checkpointSizesCard : Claim7 := { stood := { row := checkpointSizesRow, standIns := [], harness := (true, "1d2f24292368177364182e612da2f9ad5803c2edb5663a378aa3592662dd04d2"), looks := true }, kinds := [], alts := [], laidByText := true, laidKinds := [.data, .data, .data, .sentinel, .sentinel], laidTests := true, laidLooks := .later }
def CheckpointSizesCardSaid : Prop := Claim7.holds Tryz.pinned (.plain (OpenSpec.ofChange checkpointSizesSpec)) checkpointSizesCard

/-- THE TIED CARD OF 'clockworklaw49.CheckpointRoundTrips'. -/
def checkpointRoundTripsCard : Claim7 := { stood := { row := checkpointRoundTripsRow, standIns := [], harness := (true, "1d2f24292368177364182e612da2f9ad5803c2edb5663a378aa3592662dd04d2"), looks := true }, kinds := [], alts := [], laidByText := true, laidKinds := [.data, .data, .data, .sentinel, .sentinel], laidTests := true, laidLooks := .later }
def CheckpointRoundTripsCardSaid : Prop := Claim7.holds Tryz.pinned (.plain (OpenSpec.ofChange checkpointRoundTripsSpec)) checkpointRoundTripsCard

/-- THE TIED CARD OF 'clockworklaw49.CheckpointExact'. -/
def checkpointExactCard : Claim7 := { stood := { row := checkpointExactRow, standIns := [], harness := (true, "1d2f24292368177364182e612da2f9ad5803c2edb5663a378aa3592662dd04d2"), looks := true }, kinds := [], alts := [], laidByText := true, laidKinds := [.data, .data, .data, .sentinel, .sentinel], laidTests := true, laidLooks := .later }
def CheckpointExactCardSaid : Prop := Claim7.holds Tryz.pinned (.plain (OpenSpec.ofChange checkpointExactSpec)) checkpointExactCard

/-- THE SECOND FORM's CARD OF 'clockworklaw49.CheckpointBegins'. -/
def checkpointBeginsUptoCard : Claim7 := { stood := { row := checkpointBeginsUptoRow, standIns := [], harness := (true, "1d2f24292368177364182e612da2f9ad5803c2edb5663a378aa3592662dd04d2"), looks := true }, kinds := [], alts := [], laidByText := true, laidKinds := [.data, .data, .data, .sentinel, .sentinel], laidTests := true, laidLooks := .later }
def CheckpointBeginsUptoCardSaid : Prop := Claim7.holds Tryz.pinned (.plain (OpenSpec.upto checkpointBeginsSpec)) checkpointBeginsUptoCard

/-- THE SECOND FORM's CARD OF 'clockworklaw49.CheckpointSteps'. -/
def checkpointStepsUptoCard : Claim7 := { stood := { row := checkpointStepsUptoRow, standIns := [], harness := (true, "1d2f24292368177364182e612da2f9ad5803c2edb5663a378aa3592662dd04d2"), looks := true }, kinds := [], alts := [], laidByText := true, laidKinds := [.data, .data, .data, .sentinel, .sentinel], laidTests := true, laidLooks := .later }
def CheckpointStepsUptoCardSaid : Prop := Claim7.holds Tryz.pinned (.plain (OpenSpec.upto checkpointStepsSpec)) checkpointStepsUptoCard

/-- THE SECOND FORM's CARD OF 'clockworklaw49.CheckpointFinishes'. -/
def checkpointFinishesUptoCard : Claim7 := { stood := { row := checkpointFinishesUptoRow, standIns := [], harness := (true, "1d2f24292368177364182e612da2f9ad5803c2edb5663a378aa3592662dd04d2"), looks := true }, kinds := [], alts := [], laidByText := true, laidKinds := [.data, .data, .data, .sentinel, .sentinel], laidTests := true, laidLooks := .later }
def CheckpointFinishesUptoCardSaid : Prop := Claim7.holds Tryz.pinned (.plain (OpenSpec.upto checkpointFinishesSpec)) checkpointFinishesUptoCard

/-- THE SECOND FORM's CARD OF 'clockworklaw49.CheckpointRestores'. -/
def checkpointRestoresUptoCard : Claim7 := { stood := { row := checkpointRestoresUptoRow, standIns := [], harness := (true, "1d2f24292368177364182e612da2f9ad5803c2edb5663a378aa3592662dd04d2"), looks := true }, kinds := [], alts := [], laidByText := true, laidKinds := [.data, .data, .data, .sentinel, .sentinel], laidTests := true, laidLooks := .later }
def CheckpointRestoresUptoCardSaid : Prop := Claim7.holds Tryz.pinned (.plain (OpenSpec.upto checkpointRestoresSpec)) checkpointRestoresUptoCard

/-- THE SECOND FORM's CARD OF 'clockworklaw49.CheckpointSizes'. -/
def checkpointSizesUptoCard : Claim7 := { stood := { row := checkpointSizesUptoRow, standIns := [], harness := (true, "1d2f24292368177364182e612da2f9ad5803c2edb5663a378aa3592662dd04d2"), looks := true }, kinds := [], alts := [], laidByText := true, laidKinds := [.data, .data, .data, .sentinel, .sentinel], laidTests := true, laidLooks := .later }
def CheckpointSizesUptoCardSaid : Prop := Claim7.holds Tryz.pinned (.plain (OpenSpec.upto checkpointSizesSpec)) checkpointSizesUptoCard

/-- THE SECOND FORM's CARD OF 'clockworklaw49.CheckpointRoundTrips'. -/
def checkpointRoundTripsUptoCard : Claim7 := { stood := { row := checkpointRoundTripsUptoRow, standIns := [], harness := (true, "1d2f24292368177364182e612da2f9ad5803c2edb5663a378aa3592662dd04d2"), looks := true }, kinds := [], alts := [], laidByText := true, laidKinds := [.data, .data, .data, .sentinel, .sentinel], laidTests := true, laidLooks := .later }
def CheckpointRoundTripsUptoCardSaid : Prop := Claim7.holds Tryz.pinned (.plain (OpenSpec.upto checkpointRoundTripsSpec)) checkpointRoundTripsUptoCard

/-- THE SECOND FORM's CARD OF 'clockworklaw49.CheckpointExact'. -/
def checkpointExactUptoCard : Claim7 := { stood := { row := checkpointExactUptoRow, standIns := [], harness := (true, "1d2f24292368177364182e612da2f9ad5803c2edb5663a378aa3592662dd04d2"), looks := true }, kinds := [], alts := [], laidByText := true, laidKinds := [.data, .data, .data, .sentinel, .sentinel], laidTests := true, laidLooks := .later }
def CheckpointExactUptoCardSaid : Prop := Claim7.holds Tryz.pinned (.plain (OpenSpec.upto checkpointExactSpec)) checkpointExactUptoCard
end Rows
end Go.Proofs.YtbncfepdlmnmiaaGreatDoor

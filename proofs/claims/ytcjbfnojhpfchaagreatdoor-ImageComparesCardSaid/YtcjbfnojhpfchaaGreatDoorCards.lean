/-
  DERIVED. GIVEN WITH THE SEED: THE CARDS: each row of YtcjbfnojhpfchaaGreatDoorRows.lean that lists a variable, with what it lists TIED to the program's text (the seventh form; the later family's looks); each row that meets fmt, with fmt's text TOLD by the authors' own Lean function (tested against real Go, not proved from fmt's source: count such statements apart). THE CARD IS WHAT COUNTS. Prove the row's statement (the work); the ties are given (YtcjbfnojhpfchaaGreatDoorTie.lean); close each card by the builder's one call (the guide's Derived/Test/ToyasCard.lean, 'card_holds'). Laid BY PROGRAM, IN A SANDBOX (cutbox-door.mjs). By AI agents, Wed Nov 11 2026. No macro, syntax, notation, axiom, sorry.
-/
import Derived.Test.YtcjbfnojhpfchaaGreatDoorRows
import GoSem.ClaimSeven
namespace Go.Proofs.YtcjbfnojhpfchaaGreatDoor
namespace Rows

/-- THE TIED CARD OF 'clockworklaw48.ImageEncodes'. -/
def imageEncodesCard : Claim7 := { stood := { row := imageEncodesRow, standIns := [], harness := (true, "6bffd58fc6d4cae80a4499ff81447a0bcd4105be7d964e10ce20cbf87dc2afb0"), looks := true }, kinds := [], alts := [], laidByText := true, laidKinds := [.data, .data, .data, .sentinel, .sentinel], laidTests := true, laidLooks := .later }
def ImageEncodesCardSaid : Prop := Claim7.holds Tryz.pinned (.plain (OpenSpec.ofChange imageEncodesSpec)) imageEncodesCard

/-- THE TIED CARD OF 'clockworklaw48.ImageDecodes'. -/
def imageDecodesCard : Claim7 := { stood := { row := imageDecodesRow, standIns := [], harness := (true, "6bffd58fc6d4cae80a4499ff81447a0bcd4105be7d964e10ce20cbf87dc2afb0"), looks := true }, kinds := [], alts := [], laidByText := true, laidKinds := [.data, .data, .data, .sentinel, .sentinel], laidTests := true, laidLooks := .later }
def ImageDecodesCardSaid : Prop := Claim7.holds Tryz.pinned (.plain (OpenSpec.ofChange imageDecodesSpec)) imageDecodesCard

/-- THE TIED CARD OF 'clockworklaw48.ImageCompares'. -/
def imageComparesCard : Claim7 := { stood := { row := imageComparesRow, standIns := [], harness := (true, "6bffd58fc6d4cae80a4499ff81447a0bcd4105be7d964e10ce20cbf87dc2afb0"), looks := true }, kinds := [], alts := [], laidByText := true, laidKinds := [.data, .data, .data, .sentinel, .sentinel], laidTests := true, laidLooks := .later }
def ImageComparesCardSaid : Prop := Claim7.holds Tryz.pinned (.plain (OpenSpec.ofChange imageComparesSpec)) imageComparesCard

/-- THE TIED CARD OF 'clockworklaw48.ImageDistinct'. -/
def imageDistinctCard : Claim7 := { stood := { row := imageDistinctRow, standIns := [], harness := (true, "6bffd58fc6d4cae80a4499ff81447a0bcd4105be7d964e10ce20cbf87dc2afb0"), looks := true }, kinds := [], alts := [], laidByText := true, laidKinds := [.data, .data, .data, .sentinel, .sentinel], laidTests := true, laidLooks := .later }
def ImageDistinctCardSaid : Prop := Claim7.holds Tryz.pinned (.plain (OpenSpec.ofChange imageDistinctSpec)) imageDistinctCard

/-- THE TIED CARD OF 'clockworklaw48.ImageRoundTrips'. -/
def imageRoundTripsCard : Claim7 := { stood := { row := imageRoundTripsRow, standIns := [], harness := (true, "6bffd58fc6d4cae80a4499ff81447a0bcd4105be7d964e10ce20cbf87dc2afb0"), looks := true }, kinds := [], alts := [], laidByText := true, laidKinds := [.data, .data, .data, .sentinel, .sentinel], laidTests := true, laidLooks := .later }
def ImageRoundTripsCardSaid : Prop := Claim7.holds Tryz.pinned (.plain (OpenSpec.ofChange imageRoundTripsSpec)) imageRoundTripsCard

/-- THE TIED CARD OF 'clockworklaw48.ImageFlats'. -/
def imageFlatsCard : Claim7 := { stood := { row := imageFlatsRow, standIns := [], harness := (true, "6bffd58fc6d4cae80a4499ff81447a0bcd4105be7d964e10ce20cbf87dc2afb0"), looks := true }, kinds := [], alts := [], laidByText := true, laidKinds := [.data, .data, .data, .sentinel, .sentinel], laidTests := true, laidLooks := .later }
def ImageFlatsCardSaid : Prop := Claim7.holds Tryz.pinned (.plain (OpenSpec.ofChange imageFlatsSpec)) imageFlatsCard

/-- THE TIED CARD OF 'clockworklaw48.ImageTexts'. -/
def imageTextsCard : Claim7 := { stood := { row := imageTextsRow, standIns := [], harness := (true, "6bffd58fc6d4cae80a4499ff81447a0bcd4105be7d964e10ce20cbf87dc2afb0"), looks := true }, kinds := [], alts := [], laidByText := true, laidKinds := [.data, .data, .data, .sentinel, .sentinel], laidTests := true, laidLooks := .later }
def ImageTextsCardSaid : Prop := Claim7.holds Tryz.pinned (.plain (OpenSpec.ofChange imageTextsSpec)) imageTextsCard

/-- THE SECOND FORM's CARD OF 'clockworklaw48.ImageEncodes'. -/
def imageEncodesUptoCard : Claim7 := { stood := { row := imageEncodesUptoRow, standIns := [], harness := (true, "6bffd58fc6d4cae80a4499ff81447a0bcd4105be7d964e10ce20cbf87dc2afb0"), looks := true }, kinds := [], alts := [], laidByText := true, laidKinds := [.data, .data, .data, .sentinel, .sentinel], laidTests := true, laidLooks := .later }
def ImageEncodesUptoCardSaid : Prop := Claim7.holds Tryz.pinned (.plain (OpenSpec.upto imageEncodesSpec)) imageEncodesUptoCard

/-- THE SECOND FORM's CARD OF 'clockworklaw48.ImageDecodes'. -/
def imageDecodesUptoCard : Claim7 := { stood := { row := imageDecodesUptoRow, standIns := [], harness := (true, "6bffd58fc6d4cae80a4499ff81447a0bcd4105be7d964e10ce20cbf87dc2afb0"), looks := true }, kinds := [], alts := [], laidByText := true, laidKinds := [.data, .data, .data, .sentinel, .sentinel], laidTests := true, laidLooks := .later }
def ImageDecodesUptoCardSaid : Prop := Claim7.holds Tryz.pinned (.plain (OpenSpec.upto imageDecodesSpec)) imageDecodesUptoCard

/-- THE SECOND FORM's CARD OF 'clockworklaw48.ImageCompares'. -/
def imageComparesUptoCard : Claim7 := { stood := { row := imageComparesUptoRow, standIns := [], harness := (true, "6bffd58fc6d4cae80a4499ff81447a0bcd4105be7d964e10ce20cbf87dc2afb0"), looks := true }, kinds := [], alts := [], laidByText := true, laidKinds := [.data, .data, .data, .sentinel, .sentinel], laidTests := true, laidLooks := .later }
def ImageComparesUptoCardSaid : Prop := Claim7.holds Tryz.pinned (.plain (OpenSpec.upto imageComparesSpec)) imageComparesUptoCard

/-- THE SECOND FORM's CARD OF 'clockworklaw48.ImageDistinct'. -/
def imageDistinctUptoCard : Claim7 := { stood := { row := imageDistinctUptoRow, standIns := [], harness := (true, "6bffd58fc6d4cae80a4499ff81447a0bcd4105be7d964e10ce20cbf87dc2afb0"), looks := true }, kinds := [], alts := [], laidByText := true, laidKinds := [.data, .data, .data, .sentinel, .sentinel], laidTests := true, laidLooks := .later }
def ImageDistinctUptoCardSaid : Prop := Claim7.holds Tryz.pinned (.plain (OpenSpec.upto imageDistinctSpec)) imageDistinctUptoCard

/-- THE SECOND FORM's CARD OF 'clockworklaw48.ImageRoundTrips'. -/
def imageRoundTripsUptoCard : Claim7 := { stood := { row := imageRoundTripsUptoRow, standIns := [], harness := (true, "6bffd58fc6d4cae80a4499ff81447a0bcd4105be7d964e10ce20cbf87dc2afb0"), looks := true }, kinds := [], alts := [], laidByText := true, laidKinds := [.data, .data, .data, .sentinel, .sentinel], laidTests := true, laidLooks := .later }
def ImageRoundTripsUptoCardSaid : Prop := Claim7.holds Tryz.pinned (.plain (OpenSpec.upto imageRoundTripsSpec)) imageRoundTripsUptoCard

/-- THE SECOND FORM's CARD OF 'clockworklaw48.ImageFlats'. -/
def imageFlatsUptoCard : Claim7 := { stood := { row := imageFlatsUptoRow, standIns := [], harness := (true, "6bffd58fc6d4cae80a4499ff81447a0bcd4105be7d964e10ce20cbf87dc2afb0"), looks := true }, kinds := [], alts := [], laidByText := true, laidKinds := [.data, .data, .data, .sentinel, .sentinel], laidTests := true, laidLooks := .later }
def ImageFlatsUptoCardSaid : Prop := Claim7.holds Tryz.pinned (.plain (OpenSpec.upto imageFlatsSpec)) imageFlatsUptoCard

/-- THE SECOND FORM's CARD OF 'clockworklaw48.ImageTexts'. -/
def imageTextsUptoCard : Claim7 := { stood := { row := imageTextsUptoRow, standIns := [], harness := (true, "6bffd58fc6d4cae80a4499ff81447a0bcd4105be7d964e10ce20cbf87dc2afb0"), looks := true }, kinds := [], alts := [], laidByText := true, laidKinds := [.data, .data, .data, .sentinel, .sentinel], laidTests := true, laidLooks := .later }
def ImageTextsUptoCardSaid : Prop := Claim7.holds Tryz.pinned (.plain (OpenSpec.upto imageTextsSpec)) imageTextsUptoCard
end Rows
end Go.Proofs.YtcjbfnojhpfchaaGreatDoor

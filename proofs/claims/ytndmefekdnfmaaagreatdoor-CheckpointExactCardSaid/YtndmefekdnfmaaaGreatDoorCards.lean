/-
  DERIVED. GIVEN WITH THE SEED: THE CARDS: each row of YtndmefekdnfmaaaGreatDoorRows.lean that lists a variable, with what it lists TIED to the program's text (the seventh form; the later family's looks); each row that meets fmt, with fmt's text TOLD by the authors' own Lean function (tested against real Go, not proved from fmt's source: count such statements apart). THE CARD IS WHAT COUNTS. Prove the row's statement (the work); the ties are given (YtndmefekdnfmaaaGreatDoorTie.lean); close each card by the builder's one call (the guide's Derived/Test/ToyasCard.lean, 'card_holds'). Laid BY PROGRAM, IN A SANDBOX (cutbox-door.mjs). By AI agents, Wed Nov 11 2026. No macro, syntax, notation, axiom, sorry.
-/
import Derived.Test.YtndmefekdnfmaaaGreatDoorRows
import GoSem.ClaimSeven
namespace Go.Proofs.YtndmefekdnfmaaaGreatDoor
namespace Rows

/-- THE TIED CARD OF 'clockworklaw49.CheckpointExact'. -/
def checkpointExactCard : Claim7 := { stood := { row := checkpointExactRow, standIns := [], harness := (true, "d3f8f37cdaa9b6235e74a93e6c9956c53248f7ddc91ad6c690a19435ad1b8597"), looks := true }, kinds := [], alts := [], laidByText := true, laidKinds := [.data, .data, .data, .sentinel, .sentinel], laidTests := true, laidLooks := .later }
def CheckpointExactCardSaid : Prop := Claim7.holds Tryz.pinned (.plain (OpenSpec.ofChange checkpointExactSpec)) checkpointExactCard

/-- THE SECOND FORM's CARD OF 'clockworklaw49.CheckpointExact'. -/
def checkpointExactUptoCard : Claim7 := { stood := { row := checkpointExactUptoRow, standIns := [], harness := (true, "d3f8f37cdaa9b6235e74a93e6c9956c53248f7ddc91ad6c690a19435ad1b8597"), looks := true }, kinds := [], alts := [], laidByText := true, laidKinds := [.data, .data, .data, .sentinel, .sentinel], laidTests := true, laidLooks := .later }
def CheckpointExactUptoCardSaid : Prop := Claim7.holds Tryz.pinned (.plain (OpenSpec.upto checkpointExactSpec)) checkpointExactUptoCard
end Rows
end Go.Proofs.YtndmefekdnfmaaaGreatDoor

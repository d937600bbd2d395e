/-
  DERIVED. GIVEN WITH THE SEED: THE CARDS: each row of YtogmkmomikjmiaaGreatDoorRows.lean that lists a variable, with what it lists TIED to the program's text (the seventh form; the later family's looks); each row that meets fmt, with fmt's text TOLD by the authors' own Lean function (tested against real Go, not proved from fmt's source: count such statements apart). THE CARD IS WHAT COUNTS. Prove the row's statement (the work); the ties are given (YtogmkmomikjmiaaGreatDoorTie.lean); close each card by the builder's one call (the guide's Derived/Test/ToyasCard.lean, 'card_holds'). Laid BY PROGRAM, IN A SANDBOX (cutbox-door.mjs). By AI agents, Wed Nov 11 2026. No macro, syntax, notation, axiom, sorry.
-/
import Derived.Test.YtogmkmomikjmiaaGreatDoorRows
import GoSem.ClaimSeven
namespace Go.Proofs.YtogmkmomikjmiaaGreatDoor
namespace Rows

/-- THE TIED CARD OF 'clockworklaw56.WorldProgresses'. -/
def worldProgressesCard : Claim7 := { stood := { row := worldProgressesRow, standIns := [], harness := (true, "53e3d0868d40142410a6cbcf1dd91c7567b48520d8ef07bca2613b45d0d40024"), looks := true }, kinds := [], alts := [], laidByText := true, laidKinds := [.sentinel, .sentinel, .data, .data, .data], laidTests := true, laidLooks := .later }
def WorldProgressesCardSaid : Prop := Claim7.holds Tryz.pinned (.plain (OpenSpec.ofChange worldProgressesSpec)) worldProgressesCard

/-- THE SECOND FORM's CARD OF 'clockworklaw56.WorldProgresses'. -/
def worldProgressesUptoCard : Claim7 := { stood := { row := worldProgressesUptoRow, standIns := [], harness := (true, "53e3d0868d40142410a6cbcf1dd91c7567b48520d8ef07bca2613b45d0d40024"), looks := true }, kinds := [], alts := [], laidByText := true, laidKinds := [.sentinel, .sentinel, .data, .data, .data], laidTests := true, laidLooks := .later }
def WorldProgressesUptoCardSaid : Prop := Claim7.holds Tryz.pinned (.plain (OpenSpec.upto worldProgressesSpec)) worldProgressesUptoCard
end Rows
end Go.Proofs.YtogmkmomikjmiaaGreatDoor

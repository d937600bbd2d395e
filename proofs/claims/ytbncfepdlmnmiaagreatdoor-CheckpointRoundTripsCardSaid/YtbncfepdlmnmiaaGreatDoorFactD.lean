/- Closed facts. -/
import Derived.Test.YtbncfepdlmnmiaaGreatDoorCards
import Derived.Test.YtbncfepdlmnmiaaGreatDoorTie
import Derived.Deep.DeepHandedRow
namespace Go.Proofs.YtbncfepdlmnmiaaGreatDoor.CheckpointRoundTrips
open Go.ChangeShapes
theorem j32:false=Rows.checkpointRoundTripsRow.goesBy Tryz.pinned.checked.prog:=by kernel_rfl
end Go.Proofs.YtbncfepdlmnmiaaGreatDoor.CheckpointRoundTrips

/- Closed facts. -/
import Derived.Test.YtbncfepdlmnmiaaGreatDoorCards
import Derived.Test.YtbncfepdlmnmiaaGreatDoorTie
import Derived.Deep.DeepHandedRow
namespace Go.Proofs.YtbncfepdlmnmiaaGreatDoor.CheckpointSizes
open Go.ChangeShapes
theorem j11:(Rows.checkpointSizesRow.recurses == Tryz.pinned.checked.prog.recurses 7)=true:=by kernel_rfl
theorem j12:(Rows.checkpointSizesRow.named == Tryz.pinned.checked.prog.varsNamed 7)=true:=by kernel_rfl
end Go.Proofs.YtbncfepdlmnmiaaGreatDoor.CheckpointSizes

/- Closed facts. -/
import Derived.Test.YtbncfepdlmnmiaaGreatDoorCards
import Derived.Test.YtbncfepdlmnmiaaGreatDoorTie
import Derived.Deep.DeepHandedRow
namespace Go.Proofs.YtbncfepdlmnmiaaGreatDoor.CheckpointFinishes
open Go.ChangeShapes
theorem j9:(Rows.checkpointFinishesRow.inPlace == Tryz.pinned.checked.prog.inPlace 5)=true:=by kernel_rfl
theorem j10:(Rows.checkpointFinishesRow.unfollowed == Tryz.pinned.checked.prog.unfollowed 5)=true:=by kernel_rfl
end Go.Proofs.YtbncfepdlmnmiaaGreatDoor.CheckpointFinishes

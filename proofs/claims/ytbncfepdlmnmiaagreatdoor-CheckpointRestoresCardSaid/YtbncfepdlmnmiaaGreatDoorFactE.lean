/- Closed facts. -/
import Derived.Test.YtbncfepdlmnmiaaGreatDoorCards
import Derived.Test.YtbncfepdlmnmiaaGreatDoorTie
import Derived.Deep.DeepHandedRow
namespace Go.Proofs.YtbncfepdlmnmiaaGreatDoor.CheckpointRestores
open Go.ChangeShapes
theorem j33:true=Tryz.pinned.checked.prog.looks []:=by kernel_rfl
end Go.Proofs.YtbncfepdlmnmiaaGreatDoor.CheckpointRestores

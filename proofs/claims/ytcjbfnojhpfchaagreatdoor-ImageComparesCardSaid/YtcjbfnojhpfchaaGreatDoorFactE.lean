/- Closed facts. -/
import Derived.Test.YtcjbfnojhpfchaaGreatDoorCards
import Derived.Test.YtcjbfnojhpfchaaGreatDoorTie
import Derived.Deep.DeepHandedRow
namespace Go.Proofs.YtcjbfnojhpfchaaGreatDoor.ImageCompares
open Go.ChangeShapes
theorem j33:true=Tryz.pinned.checked.prog.looks []:=by kernel_rfl
end Go.Proofs.YtcjbfnojhpfchaaGreatDoor.ImageCompares

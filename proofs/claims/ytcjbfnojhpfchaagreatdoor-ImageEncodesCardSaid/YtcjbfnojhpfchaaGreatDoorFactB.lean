/- Closed facts. -/
import Derived.Test.YtcjbfnojhpfchaaGreatDoorCards
import Derived.Test.YtcjbfnojhpfchaaGreatDoorTie
import Derived.Deep.DeepHandedRow
namespace Go.Proofs.YtcjbfnojhpfchaaGreatDoor.ImageEncodes
open Go.ChangeShapes
theorem j11:(Rows.imageEncodesRow.recurses == Tryz.pinned.checked.prog.recurses 3)=true:=by kernel_rfl
theorem j12:(Rows.imageEncodesRow.named == Tryz.pinned.checked.prog.varsNamed 3)=true:=by kernel_rfl
end Go.Proofs.YtcjbfnojhpfchaaGreatDoor.ImageEncodes

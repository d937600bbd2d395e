/- Closed facts. -/
import Derived.Test.YtcjbfnojhpfchaaGreatDoorCards
import Derived.Test.YtcjbfnojhpfchaaGreatDoorTie
import Derived.Deep.DeepHandedRow
namespace Go.Proofs.YtcjbfnojhpfchaaGreatDoor.ImageFlats
open Go.ChangeShapes
theorem j9:(Rows.imageFlatsRow.inPlace == Tryz.pinned.checked.prog.inPlace 8)=true:=by kernel_rfl
theorem j10:(Rows.imageFlatsRow.unfollowed == Tryz.pinned.checked.prog.unfollowed 8)=true:=by kernel_rfl
end Go.Proofs.YtcjbfnojhpfchaaGreatDoor.ImageFlats

/- Closed facts. -/
import Derived.Test.YtcjbfnojhpfchaaGreatDoorCards
import Derived.Test.YtcjbfnojhpfchaaGreatDoorTie
import Derived.Deep.DeepHandedRow
namespace Go.Proofs.YtcjbfnojhpfchaaGreatDoor.ImageCompares
open Go.ChangeShapes
theorem j9:(Rows.imageComparesRow.inPlace == Tryz.pinned.checked.prog.inPlace 5)=true:=by kernel_rfl
theorem j10:(Rows.imageComparesRow.unfollowed == Tryz.pinned.checked.prog.unfollowed 5)=true:=by kernel_rfl
end Go.Proofs.YtcjbfnojhpfchaaGreatDoor.ImageCompares

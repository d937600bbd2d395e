/- Closed facts. -/
import Derived.Test.YtcjbfnojhpfchaaGreatDoorCards
import Derived.Test.YtcjbfnojhpfchaaGreatDoorTie
import Derived.Deep.DeepHandedRow
namespace Go.Proofs.YtcjbfnojhpfchaaGreatDoor.ImageTexts
open Go.ChangeShapes
theorem j9:(Rows.imageTextsRow.inPlace == Tryz.pinned.checked.prog.inPlace 9)=true:=by kernel_rfl
theorem j10:(Rows.imageTextsRow.unfollowed == Tryz.pinned.checked.prog.unfollowed 9)=true:=by kernel_rfl
end Go.Proofs.YtcjbfnojhpfchaaGreatDoor.ImageTexts

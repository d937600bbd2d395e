/- Closed facts. -/
import Derived.Test.YtndmefekdnfmaaaGreatDoorCards
import Derived.Test.YtndmefekdnfmaaaGreatDoorTie
import Derived.Deep.DeepHandedRow
namespace Go.Proofs.YtndmefekdnfmaaaGreatDoor.CheckpointExact
open Go.ChangeShapes
theorem j9:(Rows.checkpointExactRow.inPlace == Tryz.pinned.checked.prog.inPlace 3)=true:=by kernel_rfl
theorem j10:(Rows.checkpointExactRow.unfollowed == Tryz.pinned.checked.prog.unfollowed 3)=true:=by kernel_rfl
end Go.Proofs.YtndmefekdnfmaaaGreatDoor.CheckpointExact

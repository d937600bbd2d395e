/- Closed facts. -/
import Derived.Test.YtndmefekdnfmaaaGreatDoorCards
import Derived.Test.YtndmefekdnfmaaaGreatDoorTie
import Derived.Deep.DeepHandedRow
namespace Go.Proofs.YtndmefekdnfmaaaGreatDoor.CheckpointExact
open Go.ChangeShapes
theorem j11:(Rows.checkpointExactRow.recurses == Tryz.pinned.checked.prog.recurses 3)=true:=by kernel_rfl
theorem j12:(Rows.checkpointExactRow.named == Tryz.pinned.checked.prog.varsNamed 3)=true:=by kernel_rfl
end Go.Proofs.YtndmefekdnfmaaaGreatDoor.CheckpointExact

/- Closed facts. -/
import Derived.Test.YtndmefekdnfmaaaGreatDoorCards
import Derived.Test.YtndmefekdnfmaaaGreatDoorTie
import Derived.Deep.DeepHandedRow
namespace Go.Proofs.YtndmefekdnfmaaaGreatDoor.CheckpointExact
open Go.ChangeShapes
theorem j33:true=Tryz.pinned.checked.prog.looks []:=by kernel_rfl
end Go.Proofs.YtndmefekdnfmaaaGreatDoor.CheckpointExact

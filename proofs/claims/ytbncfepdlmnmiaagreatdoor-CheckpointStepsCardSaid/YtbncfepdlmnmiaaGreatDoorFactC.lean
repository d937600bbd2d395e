/- Closed facts. -/
import Derived.Test.YtbncfepdlmnmiaaGreatDoorCards
import Derived.Test.YtbncfepdlmnmiaaGreatDoorTie
import Derived.Deep.DeepHandedRow
namespace Go.Proofs.YtbncfepdlmnmiaaGreatDoor.CheckpointSteps
open Go.ChangeShapes
theorem j0:(Rows.checkpointStepsRow.wf (OpenSpec.ofChange (OpenSpec.ofChange Rows.checkpointStepsSpec).bare))=true:=by kernel_rfl
theorem j1:(laidOutB Tryz.pinned.checked.prog)=true:=by kernel_rfl
theorem j2:(mapsRowed Tryz.pinned.checked.prog)=true:=by kernel_rfl
theorem j3:(Tryz.f4.params.all (Tryz.pinned.checked.prog.readableRec ·))=true:=by kernel_rfl
theorem j4:(namedTie Tryz.pinned.checked.prog Rows.checkpointStepsRow.named (OpenSpec.ofChange Rows.checkpointStepsSpec).bare.vars)=true:=by kernel_rfl
theorem j5:(Rows.checkpointStepsRow.stops == [])=true:=by kernel_rfl
theorem j6:(Tryz.pinned.checked.prog.stops == [])=true:=by kernel_rfl
theorem j7:(Rows.checkpointStepsRow.knobs == [])=true:=by kernel_rfl
theorem j8:(Tryz.pinned.checked.prog.stopKnobs == [])=true:=by kernel_rfl
theorem j13:(Rows.checkpointStepsRow.maps == (Tryz.f4.params.toList++(OpenSpec.ofChange Rows.checkpointStepsSpec).bare.plain.varTypes Tryz.pinned.checked.prog).any (Tryz.pinned.checked.prog.mapsRec ·))=true:=by kernel_rfl
theorem j14:(Rows.checkpointStepsRow.ifaces == (Tryz.f4.params.toList++(OpenSpec.ofChange Rows.checkpointStepsSpec).bare.plain.varTypes Tryz.pinned.checked.prog).any (Tryz.pinned.checked.prog.ifacesRec ·))=true:=by kernel_rfl
theorem j15:(Rows.checkpointStepsRow.mapsOut == Tryz.pinned.checked.prog.mapsAmong Tryz.f4.resultTypes.toList)=true:=by kernel_rfl
theorem j16:(Rows.checkpointStepsRow.loops == (Tryz.f4.params.toList++(OpenSpec.ofChange Rows.checkpointStepsSpec).bare.plain.varTypes Tryz.pinned.checked.prog).any (Tryz.pinned.checked.prog.loopsFrom ·))=true:=by kernel_rfl
theorem j17:(Rows.checkpointStepsRow.wideKeys == (Tryz.f4.params.toList++(OpenSpec.ofChange Rows.checkpointStepsSpec).bare.plain.varTypes Tryz.pinned.checked.prog++Tryz.f4.resultTypes.toList).any (Tryz.pinned.checked.prog.wideKeysFrom ·))=true:=by kernel_rfl
theorem j18:((OpenSpec.ofChange Rows.checkpointStepsSpec).bare.vars.all (Tryz.pinned.checked.prog.varReadable ·))=true:=by kernel_rfl
theorem j19:(Tryz.f4.resultTypes.all (λt=>Tryz.pinned.checked.prog.readableRec t&&decide (t<Tryz.pinned.checked.prog.types.size)))=true:=by kernel_rfl
theorem j20:(Rows.checkpointStepsRow.ifacesOut == Tryz.f4.resultTypes.toList.any (Tryz.pinned.checked.prog.ifacesRec ·))=true:=by kernel_rfl
theorem j21:(Rows.checkpointStepsRow.loopsOut == Tryz.f4.resultTypes.toList.any (Tryz.pinned.checked.prog.loopsFrom ·))=true:=by kernel_rfl
theorem j22:(Rows.checkpointStepsRow.plainKeys == Tryz.pinned.checked.prog.plainKeys)=true:=by kernel_rfl
theorem j23:(Rows.checkpointStepsRow.shortTexts.isNone)=true:=by kernel_rfl
theorem j24:(Tryz.pinned.checked.prog.stopsHeard)=true:=by kernel_rfl
theorem j25:(Tryz.pinned.checked.prog.mayEnter)=true:=by kernel_rfl
theorem j26:(Rows.checkpointStepsRow.lifted == Tryz.pinned.checked.prog.liftsFinal)=true:=by kernel_rfl
theorem j27:(Tryz.pinned.checked.prog.make == some Rows.checkpointStepsRow.make)=true:=by kernel_rfl
theorem j28:(Rows.checkpointStepsRow.kinds == (if Rows.checkpointStepsRow.domain.isEmpty then[]else Tryz.f4.params.toList.map λt=>match Tryz.pinned.checked.prog.underlying t with|some (.int k)=>some k|_=>none))=true:=by kernel_rfl
theorem j29:(Rows.checkpointStepsRow.pinned == Rows.checkpointStepsRow.pinnedBy)=true:=by kernel_rfl
theorem j30:(Rows.checkpointStepsRow.veiled == (Tryz.f4.params.toList++(OpenSpec.ofChange Rows.checkpointStepsSpec).bare.plain.varTypes Tryz.pinned.checked.prog++Tryz.f4.resultTypes.toList).any (Tryz.pinned.checked.prog.veiledRec ·))=true:=by kernel_rfl
theorem j31:(Rows.checkpointStepsRow.veiledFits Tryz.pinned.checked.prog Tryz.f4.params.toList (Tryz.f4.params.toList++(OpenSpec.ofChange Rows.checkpointStepsSpec).bare.plain.varTypes Tryz.pinned.checked.prog++Tryz.f4.resultTypes.toList))=true:=by kernel_rfl
end Go.Proofs.YtbncfepdlmnmiaaGreatDoor.CheckpointSteps

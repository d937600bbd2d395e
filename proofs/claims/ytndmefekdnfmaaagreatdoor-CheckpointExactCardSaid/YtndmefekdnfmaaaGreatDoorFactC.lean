/- Closed facts. -/
import Derived.Test.YtndmefekdnfmaaaGreatDoorCards
import Derived.Test.YtndmefekdnfmaaaGreatDoorTie
import Derived.Deep.DeepHandedRow
namespace Go.Proofs.YtndmefekdnfmaaaGreatDoor.CheckpointExact
open Go.ChangeShapes
theorem j0:(Rows.checkpointExactRow.wf<|OpenSpec.ofChange (OpenSpec.ofChange Rows.checkpointExactSpec).bare)=true:=by kernel_rfl
theorem j1:(laidOutB Tryz.pinned.checked.prog)=true:=by kernel_rfl
theorem j2:(mapsRowed Tryz.pinned.checked.prog)=true:=by kernel_rfl
theorem j3:(Tryz.f3.params.all (Tryz.pinned.checked.prog.readableRec ·))=true:=by kernel_rfl
theorem j4:(namedTie Tryz.pinned.checked.prog Rows.checkpointExactRow.named (OpenSpec.ofChange Rows.checkpointExactSpec).bare.vars)=true:=by kernel_rfl
theorem j5:(Rows.checkpointExactRow.stops == [])=true:=by kernel_rfl
theorem j6:(Tryz.pinned.checked.prog.stops == [])=true:=by kernel_rfl
theorem j7:(Rows.checkpointExactRow.knobs == [])=true:=by kernel_rfl
theorem j8:(Tryz.pinned.checked.prog.stopKnobs == [])=true:=by kernel_rfl
theorem j13:(Rows.checkpointExactRow.maps == (Tryz.f3.params.toList++(OpenSpec.ofChange Rows.checkpointExactSpec).bare.plain.varTypes Tryz.pinned.checked.prog).any (Tryz.pinned.checked.prog.mapsRec ·))=true:=by kernel_rfl
theorem j14:(Rows.checkpointExactRow.ifaces == (Tryz.f3.params.toList++(OpenSpec.ofChange Rows.checkpointExactSpec).bare.plain.varTypes Tryz.pinned.checked.prog).any (Tryz.pinned.checked.prog.ifacesRec ·))=true:=by kernel_rfl
theorem j15:(Rows.checkpointExactRow.mapsOut == Tryz.pinned.checked.prog.mapsAmong Tryz.f3.resultTypes.toList)=true:=by kernel_rfl
theorem j16:(Rows.checkpointExactRow.loops == (Tryz.f3.params.toList++(OpenSpec.ofChange Rows.checkpointExactSpec).bare.plain.varTypes Tryz.pinned.checked.prog).any (Tryz.pinned.checked.prog.loopsFrom ·))=true:=by kernel_rfl
theorem j17:(Rows.checkpointExactRow.wideKeys == (Tryz.f3.params.toList++(OpenSpec.ofChange Rows.checkpointExactSpec).bare.plain.varTypes Tryz.pinned.checked.prog++Tryz.f3.resultTypes.toList).any (Tryz.pinned.checked.prog.wideKeysFrom ·))=true:=by kernel_rfl
theorem j18:((OpenSpec.ofChange Rows.checkpointExactSpec).bare.vars.all (Tryz.pinned.checked.prog.varReadable ·))=true:=by kernel_rfl
theorem j19:(Tryz.f3.resultTypes.all<|λt=>Tryz.pinned.checked.prog.readableRec t&&decide (t<Tryz.pinned.checked.prog.types.size))=true:=by kernel_rfl
theorem j20:(Rows.checkpointExactRow.ifacesOut == Tryz.f3.resultTypes.toList.any (Tryz.pinned.checked.prog.ifacesRec ·))=true:=by kernel_rfl
theorem j21:(Rows.checkpointExactRow.loopsOut == Tryz.f3.resultTypes.toList.any (Tryz.pinned.checked.prog.loopsFrom ·))=true:=by kernel_rfl
theorem j22:(Rows.checkpointExactRow.plainKeys == Tryz.pinned.checked.prog.plainKeys)=true:=by kernel_rfl
theorem j23:(Rows.checkpointExactRow.shortTexts.isNone)=true:=by kernel_rfl
theorem j24:(Tryz.pinned.checked.prog.stopsHeard)=true:=by kernel_rfl
theorem j25:(Tryz.pinned.checked.prog.mayEnter)=true:=by kernel_rfl
theorem j26:(Rows.checkpointExactRow.lifted == Tryz.pinned.checked.prog.liftsFinal)=true:=by kernel_rfl
theorem j27:(Tryz.pinned.checked.prog.make == some Rows.checkpointExactRow.make)=true:=by kernel_rfl
theorem j28:(Rows.checkpointExactRow.kinds == (if Rows.checkpointExactRow.domain.isEmpty then[]else Tryz.f3.params.toList.map λt=>match Tryz.pinned.checked.prog.underlying t with|some (.int k)=>some k|_=>none))=true:=by kernel_rfl
theorem j29:(Rows.checkpointExactRow.pinned == Rows.checkpointExactRow.pinnedBy)=true:=by kernel_rfl
theorem j30:(Rows.checkpointExactRow.veiled == (Tryz.f3.params.toList++(OpenSpec.ofChange Rows.checkpointExactSpec).bare.plain.varTypes Tryz.pinned.checked.prog++Tryz.f3.resultTypes.toList).any (Tryz.pinned.checked.prog.veiledRec ·))=true:=by kernel_rfl
theorem j31:(Rows.checkpointExactRow.veiledFits Tryz.pinned.checked.prog Tryz.f3.params.toList<|Tryz.f3.params.toList++(OpenSpec.ofChange Rows.checkpointExactSpec).bare.plain.varTypes Tryz.pinned.checked.prog++Tryz.f3.resultTypes.toList)=true:=by kernel_rfl
end Go.Proofs.YtndmefekdnfmaaaGreatDoor.CheckpointExact

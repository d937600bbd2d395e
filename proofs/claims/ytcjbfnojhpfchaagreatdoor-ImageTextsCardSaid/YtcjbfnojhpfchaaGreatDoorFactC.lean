/- Closed facts. -/
import Derived.Test.YtcjbfnojhpfchaaGreatDoorCards
import Derived.Test.YtcjbfnojhpfchaaGreatDoorTie
import Derived.Deep.DeepHandedRow
namespace Go.Proofs.YtcjbfnojhpfchaaGreatDoor.ImageTexts
open Go.ChangeShapes
theorem j0:(Rows.imageTextsRow.wf (OpenSpec.ofChange (OpenSpec.ofChange Rows.imageTextsSpec).bare))=true:=by kernel_rfl
theorem j1:(laidOutB Tryz.pinned.checked.prog)=true:=by kernel_rfl
theorem j2:(mapsRowed Tryz.pinned.checked.prog)=true:=by kernel_rfl
theorem j3:(Tryz.f9.params.all (Tryz.pinned.checked.prog.readableRec ·))=true:=by kernel_rfl
theorem j4:(namedTie Tryz.pinned.checked.prog Rows.imageTextsRow.named (OpenSpec.ofChange Rows.imageTextsSpec).bare.vars)=true:=by kernel_rfl
theorem j5:(Rows.imageTextsRow.stops == [])=true:=by kernel_rfl
theorem j6:(Tryz.pinned.checked.prog.stops == [])=true:=by kernel_rfl
theorem j7:(Rows.imageTextsRow.knobs == [])=true:=by kernel_rfl
theorem j8:(Tryz.pinned.checked.prog.stopKnobs == [])=true:=by kernel_rfl
theorem j13:(Rows.imageTextsRow.maps == (Tryz.f9.params.toList++(OpenSpec.ofChange Rows.imageTextsSpec).bare.plain.varTypes Tryz.pinned.checked.prog).any (Tryz.pinned.checked.prog.mapsRec ·))=true:=by kernel_rfl
theorem j14:(Rows.imageTextsRow.ifaces == (Tryz.f9.params.toList++(OpenSpec.ofChange Rows.imageTextsSpec).bare.plain.varTypes Tryz.pinned.checked.prog).any (Tryz.pinned.checked.prog.ifacesRec ·))=true:=by kernel_rfl
theorem j15:(Rows.imageTextsRow.mapsOut == Tryz.pinned.checked.prog.mapsAmong Tryz.f9.resultTypes.toList)=true:=by kernel_rfl
theorem j16:(Rows.imageTextsRow.loops == (Tryz.f9.params.toList++(OpenSpec.ofChange Rows.imageTextsSpec).bare.plain.varTypes Tryz.pinned.checked.prog).any (Tryz.pinned.checked.prog.loopsFrom ·))=true:=by kernel_rfl
theorem j17:(Rows.imageTextsRow.wideKeys == (Tryz.f9.params.toList++(OpenSpec.ofChange Rows.imageTextsSpec).bare.plain.varTypes Tryz.pinned.checked.prog++Tryz.f9.resultTypes.toList).any (Tryz.pinned.checked.prog.wideKeysFrom ·))=true:=by kernel_rfl
theorem j18:((OpenSpec.ofChange Rows.imageTextsSpec).bare.vars.all (Tryz.pinned.checked.prog.varReadable ·))=true:=by kernel_rfl
theorem j19:(Tryz.f9.resultTypes.all (λt=>Tryz.pinned.checked.prog.readableRec t&&decide (t<Tryz.pinned.checked.prog.types.size)))=true:=by kernel_rfl
theorem j20:(Rows.imageTextsRow.ifacesOut == Tryz.f9.resultTypes.toList.any (Tryz.pinned.checked.prog.ifacesRec ·))=true:=by kernel_rfl
theorem j21:(Rows.imageTextsRow.loopsOut == Tryz.f9.resultTypes.toList.any (Tryz.pinned.checked.prog.loopsFrom ·))=true:=by kernel_rfl
theorem j22:(Rows.imageTextsRow.plainKeys == Tryz.pinned.checked.prog.plainKeys)=true:=by kernel_rfl
theorem j23:(Rows.imageTextsRow.shortTexts.isNone)=true:=by kernel_rfl
theorem j24:(Tryz.pinned.checked.prog.stopsHeard)=true:=by kernel_rfl
theorem j25:(Tryz.pinned.checked.prog.mayEnter)=true:=by kernel_rfl
theorem j26:(Rows.imageTextsRow.lifted == Tryz.pinned.checked.prog.liftsFinal)=true:=by kernel_rfl
theorem j27:(Tryz.pinned.checked.prog.make == some Rows.imageTextsRow.make)=true:=by kernel_rfl
theorem j28:(Rows.imageTextsRow.kinds == (if Rows.imageTextsRow.domain.isEmpty then[]else Tryz.f9.params.toList.map λt=>match Tryz.pinned.checked.prog.underlying t with|some (.int k)=>some k|_=>none))=true:=by kernel_rfl
theorem j29:(Rows.imageTextsRow.pinned == Rows.imageTextsRow.pinnedBy)=true:=by kernel_rfl
theorem j30:(Rows.imageTextsRow.veiled == (Tryz.f9.params.toList++(OpenSpec.ofChange Rows.imageTextsSpec).bare.plain.varTypes Tryz.pinned.checked.prog++Tryz.f9.resultTypes.toList).any (Tryz.pinned.checked.prog.veiledRec ·))=true:=by kernel_rfl
theorem j31:(Rows.imageTextsRow.veiledFits Tryz.pinned.checked.prog Tryz.f9.params.toList (Tryz.f9.params.toList++(OpenSpec.ofChange Rows.imageTextsSpec).bare.plain.varTypes Tryz.pinned.checked.prog++Tryz.f9.resultTypes.toList))=true:=by kernel_rfl
end Go.Proofs.YtcjbfnojhpfchaaGreatDoor.ImageTexts

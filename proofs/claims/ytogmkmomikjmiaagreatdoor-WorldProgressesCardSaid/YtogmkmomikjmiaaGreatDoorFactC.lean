/- For every n and every engine, WorldProgresses returns true: closed facts of the program. -/
import Derived.Test.YtogmkmomikjmiaaGreatDoorCards
import Derived.Deep.DeepHandedRow
import Derived.LaidByTextLater
import Derived.SevenTiedAt
namespace Go.Proofs.YtogmkmomikjmiaaGreatDoor.FC
open Go Go.ChangeShapes
set_option maxRecDepth 1000000
set_option linter.all false
theorem j0 : (Rows.worldProgressesRow.wf (OpenSpec.ofChange (OpenSpec.ofChange Rows.worldProgressesSpec).bare)) = true := by kernel_rfl
theorem j3 : (Tryz.f3.params.all (Tryz.prog.readableRec ·)) = true := by kernel_rfl
theorem j4 : (namedTie Tryz.prog Rows.worldProgressesRow.named (OpenSpec.ofChange Rows.worldProgressesSpec).bare.vars) = true := by kernel_rfl
theorem j5 : (Rows.worldProgressesRow.stops == []) = true := by kernel_rfl
theorem j6 : (Tryz.prog.stops == []) = true := by kernel_rfl
theorem j7 : (Rows.worldProgressesRow.knobs == []) = true := by kernel_rfl
theorem j8 : (Tryz.prog.stopKnobs == []) = true := by kernel_rfl
theorem j13 : (Rows.worldProgressesRow.maps == (Tryz.f3.params.toList ++ (OpenSpec.ofChange Rows.worldProgressesSpec).bare.plain.varTypes Tryz.prog).any (Tryz.prog.mapsRec ·)) = true := by kernel_rfl
theorem j14 : (Rows.worldProgressesRow.ifaces == (Tryz.f3.params.toList ++ (OpenSpec.ofChange Rows.worldProgressesSpec).bare.plain.varTypes Tryz.prog).any (Tryz.prog.ifacesRec ·)) = true := by kernel_rfl
theorem j15 : (Rows.worldProgressesRow.mapsOut == Tryz.prog.mapsAmong Tryz.f3.resultTypes.toList) = true := by kernel_rfl
theorem j16 : (Rows.worldProgressesRow.loops == (Tryz.f3.params.toList ++ (OpenSpec.ofChange Rows.worldProgressesSpec).bare.plain.varTypes Tryz.prog).any (Tryz.prog.loopsFrom ·)) = true := by kernel_rfl
theorem j17 : (Rows.worldProgressesRow.wideKeys == (Tryz.f3.params.toList ++ (OpenSpec.ofChange Rows.worldProgressesSpec).bare.plain.varTypes Tryz.prog ++ Tryz.f3.resultTypes.toList).any (Tryz.prog.wideKeysFrom ·)) = true := by kernel_rfl
theorem j18 : ((OpenSpec.ofChange Rows.worldProgressesSpec).bare.vars.all (Tryz.prog.varReadable ·)) = true := by kernel_rfl
theorem j19 : (Tryz.f3.resultTypes.all (fun t => Tryz.prog.readableRec t && decide (t < Tryz.prog.types.size))) = true := by kernel_rfl
theorem j20 : (Rows.worldProgressesRow.ifacesOut == Tryz.f3.resultTypes.toList.any (Tryz.prog.ifacesRec ·)) = true := by kernel_rfl
theorem j21 : (Rows.worldProgressesRow.loopsOut == Tryz.f3.resultTypes.toList.any (Tryz.prog.loopsFrom ·)) = true := by kernel_rfl
theorem j23 : (Rows.worldProgressesRow.shortTexts.isNone) = true := by kernel_rfl
theorem j26 : (Rows.worldProgressesRow.lifted == Tryz.prog.liftsFinal) = true := by kernel_rfl
theorem j27 : (Tryz.prog.make == some Rows.worldProgressesRow.make) = true := by kernel_rfl
theorem j28 : (Rows.worldProgressesRow.kinds == (if Rows.worldProgressesRow.domain.isEmpty then [] else Tryz.f3.params.toList.map fun t => match Tryz.prog.underlying t with | some (.int k) => some k | _ => none)) = true := by kernel_rfl
theorem j29 : (Rows.worldProgressesRow.pinned == Rows.worldProgressesRow.pinnedBy) = true := by kernel_rfl
theorem j30 : (Rows.worldProgressesRow.veiled == (Tryz.f3.params.toList ++ (OpenSpec.ofChange Rows.worldProgressesSpec).bare.plain.varTypes Tryz.prog ++ Tryz.f3.resultTypes.toList).any (Tryz.prog.veiledRec ·)) = true := by kernel_rfl
theorem j31 : (Rows.worldProgressesRow.veiledFits Tryz.prog Tryz.f3.params.toList (Tryz.f3.params.toList ++ (OpenSpec.ofChange Rows.worldProgressesSpec).bare.plain.varTypes Tryz.prog ++ Tryz.f3.resultTypes.toList)) = true := by kernel_rfl
theorem j24 : Tryz.prog.stopsHeard = true := by unfold Program.stopsHeard; rw [← Array.all_toList]; kernel_rfl
theorem ll : Tryz.prog.laysLater = false := by unfold Program.laysLater; rw [← Array.any_toList]; kernel_rfl
theorem j25 : Tryz.prog.mayEnter = true := by unfold Program.mayEnter; rw [ll]; kernel_rfl
theorem noGoes {P : Program} (h : P.funcs.toList.any Func.goes = false) (f : FuncId) : P.goes f = false := by
  have h2 : P.funcs.any Func.goes = false := by rw [← Array.any_toList]; exact h
  unfold Program.goes
  rw [h2, Bool.and_false, Bool.or_false, List.any_eq_false]
  intro g _
  cases hg : P.funcs[g]? with
  | none => simp
  | some fn => simpa using List.any_eq_false.1 h fn (List.mem_of_getElem? (by rw [← Array.getElem?_toList] at hg; exact hg))
theorem ng : Tryz.prog.funcs.toList.any Func.goes = false := by kernel_rfl
theorem j32 : false = Rows.worldProgressesRow.goesBy Tryz.prog := by
  unfold OpenClaim.goesBy Program.goesAt Program.goesFrom
  have h : ∀ o : Option FuncId, o.any Tryz.prog.goes = false := fun o => by cases o <;> simp [noGoes ng]
  have h' : ∀ l : List FuncId, l.any Tryz.prog.goes = false := fun l => by simp [noGoes ng]
  rw [h, h']; split <;> rfl
theorem j33 : true = Tryz.prog.looks [] := by kernel_rfl
end Go.Proofs.YtogmkmomikjmiaaGreatDoor.FC

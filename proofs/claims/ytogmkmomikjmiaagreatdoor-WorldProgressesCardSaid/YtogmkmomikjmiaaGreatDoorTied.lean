/- For every n and every engine, WorldProgresses returns true: closed facts of the program. -/
import Derived.Test.YtogmkmomikjmiaaGreatDoorCards
import Derived.Deep.DeepHandedRow
import Derived.LaidByTextLater
import Derived.SevenTiedAt
import Derived.Test.YtogmkmomikjmiaaGreatDoorCmB
namespace Go.Proofs.YtogmkmomikjmiaaGreatDoor.FT
open Go Go.ChangeShapes Go.Ab.Cm
set_option maxRecDepth 1000000
set_option linter.all false
noncomputable def lkF : T Func := mkA Tryz.prog.funcs.toList 0
def tieLaid : List (String × DataW Unit) := Rows.worldProgressesRow.laid
theorem funcNamed_of {P : Program} {lk : T Func} (h : LkOk P lk) (n : String) : P.funcNamed n = match (List.range P.funcs.size).filter fun i => (lk.at' i).any (·.name == n) with
  | [i] => some i
  | _ => none := by
  unfold Program.funcNamed
  simp only [h _]
  rfl
theorem fnm : Tryz.prog.funcNamed "gosem.cut.vars" = some 825 := by rw [funcNamed_of (mkA_ok _)]; kernel_rfl
theorem fn3 : Tryz.prog.funcNamed "clockwork/clockworklaw56.WorldProgresses" = some 3 := by rw [funcNamed_of (mkA_ok _)]; kernel_rfl
theorem t5 : (Tryz.prog.funcNamed "gosem.cut.vars").isSome = true := by rw [fnm]; rfl
theorem vid : varsId Tryz.prog = 825 := by unfold varsId; rw [fnm]; rfl
theorem t1 : Tryz.prog.worded (varsWordLater true) = true := by unfold Program.worded; rw [← Array.any_toList]; kernel_rfl
theorem t2 : Tryz.prog.worded (varsWordLater !true) = false := by unfold Program.worded; rw [← Array.any_toList]; kernel_rfl
theorem t3 : Tryz.prog.worded rootWordLater = true := by unfold Program.worded; rw [← Array.any_toList]; kernel_rfl
theorem t4 : tieLaid.map (fun x => Tryz.prog.kindOfLater x.1) = [LaidKind.sentinel, .sentinel, .data, .data, .data].map some := by kernel_rfl
theorem t6 : varsNamedLaterB Tryz.prog (varsId Tryz.prog) tieLaid = true := by rw [vid]; kernel_rfl
theorem t7 : ∀ os tape, varsDone Tryz.prog 400 (varsId Tryz.prog) os tape = true := fun _ _ => by rw [vid]; kernel_rfl
theorem t8 : ∀ os tape, (DataW.laidRun Tryz.prog (varsWorld Tryz.prog 400 (varsId Tryz.prog) os tape).memory 8 (tieLaid.map (·.1))).map (·.1) = some tieLaid := fun _ _ => by rw [vid]; kernel_rfl
theorem t9 : ∀ os tape, (DataW.laidRun Tryz.prog (varsWorld Tryz.prog 400 (varsId Tryz.prog) os tape).memory 8 (tieLaid.map (·.1))).map (fun x => decide x.2.Nodup && laidRowsB Tryz.prog (varsWorld Tryz.prog 400 (varsId Tryz.prog) os tape).memory x.2) = some true := fun _ _ => by rw [vid]; kernel_rfl
theorem noOwnUnsafe : Tryz.pinned.checked.prog.headLifts.contains "ownunsafe" = false := by kernel_rfl
theorem tie : Tryz.prog.laidByTextLater tieLaid [.sentinel, .sentinel, .data, .data, .data] true := Program.laidByTextLater_by_run 400 8 t1 t2 t3 t4 t5 t6 t7 t8 t9
theorem worldProgresses_row_tie : Rows.worldProgressesRow.laidByTextAt .later Tryz.pinned [.sentinel, .sentinel, .data, .data, .data] true :=
  OpenClaim.laidByTextAt_later rfl rfl tie noOwnUnsafe
end Go.Proofs.YtogmkmomikjmiaaGreatDoor.FT

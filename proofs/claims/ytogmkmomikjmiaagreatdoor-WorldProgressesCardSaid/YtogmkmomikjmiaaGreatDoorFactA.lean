/- For every n and every engine, WorldProgresses returns true: closed facts of the program. -/
import Derived.Test.YtogmkmomikjmiaaGreatDoorCards
import Derived.Deep.DeepHandedRow
import Derived.LaidByTextLater
import Derived.SevenTiedAt
import Derived.Test.YtogmkmomikjmiaaGreatDoorCmB
namespace Go.Proofs.YtogmkmomikjmiaaGreatDoor.FA
open Go Go.ChangeShapes Go.Ab.Cm
set_option maxRecDepth 1000000
set_option linter.all false
noncomputable def lkF : T Func := mkA Tryz.prog.funcs.toList 0
noncomputable def C3 : List FuncId := closT lkF Tryz.prog.leadsTo (1 + (Tryz.prog.funcs.toList.map fun g => (Tryz.prog.leadsTo g).length + 1).sum) [3] [] .e
theorem c3 : Tryz.prog.closure 3 = C3 := closure_of (mkA_ok _) rfl
theorem j9 : (Rows.worldProgressesRow.inPlace == Tryz.prog.inPlace 3) = true := by
  rw [inPlace_of (mkA_ok _) c3]; kernel_rfl
theorem j10 : (Rows.worldProgressesRow.unfollowed == Tryz.prog.unfollowed 3) = true := by
  rw [unfollowed_of (mkA_ok _) c3]; kernel_rfl
theorem j11 : (Rows.worldProgressesRow.recurses == Tryz.prog.recurses 3) = true := by
  have h : Tryz.prog.unfollowed 3 = true := by
    have := j10
    rw [beq_iff_eq] at this
    rw [← this]; rfl
  unfold Program.recurses
  rw [h]; rfl
theorem j12 : (Rows.worldProgressesRow.named == Tryz.prog.varsNamed 3) = true := by
  rw [varsNamed_of (mkA_ok _) c3]; kernel_rfl
end Go.Proofs.YtogmkmomikjmiaaGreatDoor.FA

/- For every n and every engine, WorldProgresses returns true: calls that are run beforehand. -/
import Derived.Test.YtogmkmomikjmiaaGreatDoorGa
import Derived.KernelRfl
set_option linter.all false
set_option maxRecDepth 1000000
namespace Go.Ab.Y
open Go Go.Ab Go.Ab.Cm Go.Proofs
theorem t49 : chkM [] 40 m49 = true := by kernel_rfl
noncomputable def q49 : PM := ⟨40, m49, mk _ t49⟩
theorem t50 : chkM [] 66 m50 = true := by kernel_rfl
noncomputable def q50 : PM := ⟨66, m50, mk _ t50⟩
theorem t51 : chkM [] 66 m51 = true := by kernel_rfl
noncomputable def q51 : PM := ⟨66, m51, mk _ t51⟩
theorem t52 : chkM [q49, q12, q11, q10] 144 m52 = true := by kernel_rfl
noncomputable def q52 : PM := ⟨144, m52, mk _ t52⟩
theorem t53 : chkM [q52, q49, q12, q11, q10] 114 m53 = true := by kernel_rfl
noncomputable def q53 : PM := ⟨114, m53, mk _ t53⟩
theorem t54 : chkM [q53, q52, q49, q12, q11, q10] 99 m54 = true := by kernel_rfl
noncomputable def q54 : PM := ⟨99, m54, mk _ t54⟩
theorem t55 : chkM [q54, q53, q52, q49, q12, q11, q10] 180 m55 = true := by kernel_rfl
noncomputable def q55 : PM := ⟨180, m55, mk _ t55⟩
theorem t56 : chkM [q55, q54, q53, q52, q49, q12, q11, q10] 110 m56 = true := by kernel_rfl
noncomputable def q56 : PM := ⟨110, m56, mk _ t56⟩
theorem t57 : chkM [q56, q55, q54, q53, q52, q49, q12, q11, q10] 181 m57 = true := by kernel_rfl
noncomputable def q57 : PM := ⟨181, m57, mk _ t57⟩
theorem t58 : chkM [q57, q56, q55, q54, q53, q52, q49, q12, q11, q10] 182 m58 = true := by kernel_rfl
noncomputable def q58 : PM := ⟨182, m58, mk _ t58⟩
theorem t59 : chkM [q58, q57, q56, q55, q54, q53, q52, q49, q12, q11, q10] 184 m59 = true := by kernel_rfl
noncomputable def q59 : PM := ⟨184, m59, mk _ t59⟩
noncomputable def l5 : List PM := [q59, q58, q57, q56, q55, q54, q53, q52, q49, q12, q11, q10]
theorem t60_0 : chkM l5 42 (m60 0) = true := by kernel_rfl
noncomputable def q60_0 : PM := ⟨42, (m60 0), mk _ t60_0⟩
theorem t60_1 : chkM l5 42 (m60 1) = true := by kernel_rfl
noncomputable def q60_1 : PM := ⟨42, (m60 1), mk _ t60_1⟩
theorem t60_2 : chkM l5 42 (m60 2) = true := by kernel_rfl
noncomputable def q60_2 : PM := ⟨42, (m60 2), mk _ t60_2⟩
theorem t60_3 : chkM l5 42 (m60 3) = true := by kernel_rfl
noncomputable def q60_3 : PM := ⟨42, (m60 3), mk _ t60_3⟩
theorem t60_4 : chkM l5 42 (m60 4) = true := by kernel_rfl
noncomputable def q60_4 : PM := ⟨42, (m60 4), mk _ t60_4⟩
theorem t61 : chkM [q59, q58, q57, q56, q55, q54, q53, q52, q49, q12, q11, q10] 144 m61 = true := by kernel_rfl
noncomputable def q61 : PM := ⟨144, m61, mk _ t61⟩
theorem t62 : chkM [q61, q59, q58, q57, q56, q55, q54, q53, q52, q49, q12, q11, q10] 99 m62 = true := by kernel_rfl
noncomputable def q62 : PM := ⟨99, m62, mk _ t62⟩
theorem t63 : chkM [q62, q61, q59, q58, q57, q56, q55, q54, q53, q52, q49, q12, q11, q10] 180 m63 = true := by kernel_rfl
noncomputable def q63 : PM := ⟨180, m63, mk _ t63⟩
theorem t64 : chkM [q63, q62, q61, q59, q58, q57, q56, q55, q54, q53, q52, q49, q12, q11, q10] 110 m64 = true := by kernel_rfl
noncomputable def q64 : PM := ⟨110, m64, mk _ t64⟩
theorem t65 : chkM [q64, q63, q62, q61, q59, q58, q57, q56, q55, q54, q53, q52, q49, q12, q11, q10] 181 m65 = true := by kernel_rfl
noncomputable def q65 : PM := ⟨181, m65, mk _ t65⟩
theorem t66 : chkM [q65, q64, q63, q62, q61, q59, q58, q57, q56, q55, q54, q53, q52, q49, q12, q11, q10] 182 m66 = true := by kernel_rfl
noncomputable def q66 : PM := ⟨182, m66, mk _ t66⟩
noncomputable def l6 : List PM := [q66, q65, q64, q63, q62, q61, q59, q58, q57, q56, q55, q54, q53, q52, q49, q12, q11, q10]
theorem t67_0 : chkM l6 42 (m67 0) = true := by kernel_rfl
noncomputable def q67_0 : PM := ⟨42, (m67 0), mk _ t67_0⟩
theorem t67_1 : chkM l6 42 (m67 1) = true := by kernel_rfl
noncomputable def q67_1 : PM := ⟨42, (m67 1), mk _ t67_1⟩
theorem t67_2 : chkM l6 42 (m67 2) = true := by kernel_rfl
noncomputable def q67_2 : PM := ⟨42, (m67 2), mk _ t67_2⟩
theorem t67_3 : chkM l6 42 (m67 3) = true := by kernel_rfl
noncomputable def q67_3 : PM := ⟨42, (m67 3), mk _ t67_3⟩
theorem t67_4 : chkM l6 42 (m67 4) = true := by kernel_rfl
noncomputable def q67_4 : PM := ⟨42, (m67 4), mk _ t67_4⟩
end Go.Ab.Y

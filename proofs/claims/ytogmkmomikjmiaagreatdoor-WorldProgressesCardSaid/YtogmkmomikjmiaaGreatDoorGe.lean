/- For every n and every engine, WorldProgresses returns true: calls that are run beforehand. -/
import Derived.Test.YtogmkmomikjmiaaGreatDoorGa
import Derived.KernelRfl
set_option linter.all false
set_option maxRecDepth 1000000
namespace Go.Ab.Y
open Go Go.Ab Go.Ab.Cm Go.Proofs
theorem t68 : chkM [] 40 m68 = true := by kernel_rfl
noncomputable def q68 : PM := ⟨40, m68, mk _ t68⟩
theorem t69 : chkM [] 66 m69 = true := by kernel_rfl
noncomputable def q69 : PM := ⟨66, m69, mk _ t69⟩
theorem t70 : chkM [] 66 m70 = true := by kernel_rfl
noncomputable def q70 : PM := ⟨66, m70, mk _ t70⟩
theorem t71 : chkM [q68, q12, q11, q10] 144 m71 = true := by kernel_rfl
noncomputable def q71 : PM := ⟨144, m71, mk _ t71⟩
theorem t72 : chkM [q71, q68, q12, q11, q10] 114 m72 = true := by kernel_rfl
noncomputable def q72 : PM := ⟨114, m72, mk _ t72⟩
theorem t73 : chkM [q72, q71, q68, q12, q11, q10] 99 m73 = true := by kernel_rfl
noncomputable def q73 : PM := ⟨99, m73, mk _ t73⟩
theorem t74 : chkM [q73, q72, q71, q68, q12, q11, q10] 180 m74 = true := by kernel_rfl
noncomputable def q74 : PM := ⟨180, m74, mk _ t74⟩
theorem t75 : chkM [q74, q73, q72, q71, q68, q12, q11, q10] 110 m75 = true := by kernel_rfl
noncomputable def q75 : PM := ⟨110, m75, mk _ t75⟩
theorem t76 : chkM [q75, q74, q73, q72, q71, q68, q12, q11, q10] 181 m76 = true := by kernel_rfl
noncomputable def q76 : PM := ⟨181, m76, mk _ t76⟩
theorem t77 : chkM [q76, q75, q74, q73, q72, q71, q68, q12, q11, q10] 182 m77 = true := by kernel_rfl
noncomputable def q77 : PM := ⟨182, m77, mk _ t77⟩
theorem t78 : chkM [q77, q76, q75, q74, q73, q72, q71, q68, q12, q11, q10] 184 m78 = true := by kernel_rfl
noncomputable def q78 : PM := ⟨184, m78, mk _ t78⟩
noncomputable def l7 : List PM := [q78, q77, q76, q75, q74, q73, q72, q71, q68, q12, q11, q10]
theorem t79_0 : chkM l7 42 (m79 0) = true := by kernel_rfl
noncomputable def q79_0 : PM := ⟨42, (m79 0), mk _ t79_0⟩
theorem t79_1 : chkM l7 42 (m79 1) = true := by kernel_rfl
noncomputable def q79_1 : PM := ⟨42, (m79 1), mk _ t79_1⟩
theorem t79_2 : chkM l7 42 (m79 2) = true := by kernel_rfl
noncomputable def q79_2 : PM := ⟨42, (m79 2), mk _ t79_2⟩
theorem t79_3 : chkM l7 42 (m79 3) = true := by kernel_rfl
noncomputable def q79_3 : PM := ⟨42, (m79 3), mk _ t79_3⟩
theorem t79_4 : chkM l7 42 (m79 4) = true := by kernel_rfl
noncomputable def q79_4 : PM := ⟨42, (m79 4), mk _ t79_4⟩
theorem t80 : chkM [q78, q77, q76, q75, q74, q73, q72, q71, q68, q12, q11, q10] 144 m80 = true := by kernel_rfl
noncomputable def q80 : PM := ⟨144, m80, mk _ t80⟩
theorem t81 : chkM [q80, q78, q77, q76, q75, q74, q73, q72, q71, q68, q12, q11, q10] 99 m81 = true := by kernel_rfl
noncomputable def q81 : PM := ⟨99, m81, mk _ t81⟩
theorem t82 : chkM [q81, q80, q78, q77, q76, q75, q74, q73, q72, q71, q68, q12, q11, q10] 180 m82 = true := by kernel_rfl
noncomputable def q82 : PM := ⟨180, m82, mk _ t82⟩
theorem t83 : chkM [q82, q81, q80, q78, q77, q76, q75, q74, q73, q72, q71, q68, q12, q11, q10] 110 m83 = true := by kernel_rfl
noncomputable def q83 : PM := ⟨110, m83, mk _ t83⟩
theorem t84 : chkM [q83, q82, q81, q80, q78, q77, q76, q75, q74, q73, q72, q71, q68, q12, q11, q10] 181 m84 = true := by kernel_rfl
noncomputable def q84 : PM := ⟨181, m84, mk _ t84⟩
theorem t85 : chkM [q84, q83, q82, q81, q80, q78, q77, q76, q75, q74, q73, q72, q71, q68, q12, q11, q10] 182 m85 = true := by kernel_rfl
noncomputable def q85 : PM := ⟨182, m85, mk _ t85⟩
noncomputable def l8 : List PM := [q85, q84, q83, q82, q81, q80, q78, q77, q76, q75, q74, q73, q72, q71, q68, q12, q11, q10]
theorem t86_0 : chkM l8 42 (m86 0) = true := by kernel_rfl
noncomputable def q86_0 : PM := ⟨42, (m86 0), mk _ t86_0⟩
theorem t86_1 : chkM l8 42 (m86 1) = true := by kernel_rfl
noncomputable def q86_1 : PM := ⟨42, (m86 1), mk _ t86_1⟩
theorem t86_2 : chkM l8 42 (m86 2) = true := by kernel_rfl
noncomputable def q86_2 : PM := ⟨42, (m86 2), mk _ t86_2⟩
theorem t86_3 : chkM l8 42 (m86 3) = true := by kernel_rfl
noncomputable def q86_3 : PM := ⟨42, (m86 3), mk _ t86_3⟩
theorem t86_4 : chkM l8 42 (m86 4) = true := by kernel_rfl
noncomputable def q86_4 : PM := ⟨42, (m86 4), mk _ t86_4⟩
end Go.Ab.Y

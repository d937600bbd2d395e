/- For every n and every engine, WorldProgresses returns true: calls that are run beforehand. -/
import Derived.Test.YtogmkmomikjmiaaGreatDoorGa
import Derived.KernelRfl
set_option linter.all false
set_option maxRecDepth 1000000
namespace Go.Ab.Y
open Go Go.Ab Go.Ab.Cm Go.Proofs
theorem t144 : chkM [] 40 m144 = true := by kernel_rfl
noncomputable def q144 : PM := ⟨40, m144, mk _ t144⟩
theorem t145 : chkM [] 66 m145 = true := by kernel_rfl
noncomputable def q145 : PM := ⟨66, m145, mk _ t145⟩
theorem t146 : chkM [] 66 m146 = true := by kernel_rfl
noncomputable def q146 : PM := ⟨66, m146, mk _ t146⟩
theorem t147 : chkM [q144, q12, q11, q10] 144 m147 = true := by kernel_rfl
noncomputable def q147 : PM := ⟨144, m147, mk _ t147⟩
theorem t148 : chkM [q147, q144, q12, q11, q10] 114 m148 = true := by kernel_rfl
noncomputable def q148 : PM := ⟨114, m148, mk _ t148⟩
theorem t149 : chkM [q148, q147, q144, q12, q11, q10] 99 m149 = true := by kernel_rfl
noncomputable def q149 : PM := ⟨99, m149, mk _ t149⟩
theorem t150 : chkM [q149, q148, q147, q144, q12, q11, q10] 180 m150 = true := by kernel_rfl
noncomputable def q150 : PM := ⟨180, m150, mk _ t150⟩
theorem t151 : chkM [q150, q149, q148, q147, q144, q12, q11, q10] 110 m151 = true := by kernel_rfl
noncomputable def q151 : PM := ⟨110, m151, mk _ t151⟩
theorem t152 : chkM [q151, q150, q149, q148, q147, q144, q12, q11, q10] 181 m152 = true := by kernel_rfl
noncomputable def q152 : PM := ⟨181, m152, mk _ t152⟩
theorem t153 : chkM [q152, q151, q150, q149, q148, q147, q144, q12, q11, q10] 182 m153 = true := by kernel_rfl
noncomputable def q153 : PM := ⟨182, m153, mk _ t153⟩
theorem t154 : chkM [q153, q152, q151, q150, q149, q148, q147, q144, q12, q11, q10] 184 m154 = true := by kernel_rfl
noncomputable def q154 : PM := ⟨184, m154, mk _ t154⟩
noncomputable def l15 : List PM := [q154, q153, q152, q151, q150, q149, q148, q147, q144, q12, q11, q10]
theorem t155_0 : chkM l15 42 (m155 0) = true := by kernel_rfl
noncomputable def q155_0 : PM := ⟨42, (m155 0), mk _ t155_0⟩
theorem t155_1 : chkM l15 42 (m155 1) = true := by kernel_rfl
noncomputable def q155_1 : PM := ⟨42, (m155 1), mk _ t155_1⟩
theorem t155_2 : chkM l15 42 (m155 2) = true := by kernel_rfl
noncomputable def q155_2 : PM := ⟨42, (m155 2), mk _ t155_2⟩
theorem t155_3 : chkM l15 42 (m155 3) = true := by kernel_rfl
noncomputable def q155_3 : PM := ⟨42, (m155 3), mk _ t155_3⟩
theorem t155_4 : chkM l15 42 (m155 4) = true := by kernel_rfl
noncomputable def q155_4 : PM := ⟨42, (m155 4), mk _ t155_4⟩
theorem t156 : chkM [q154, q153, q152, q151, q150, q149, q148, q147, q144, q12, q11, q10] 144 m156 = true := by kernel_rfl
noncomputable def q156 : PM := ⟨144, m156, mk _ t156⟩
theorem t157 : chkM [q156, q154, q153, q152, q151, q150, q149, q148, q147, q144, q12, q11, q10] 99 m157 = true := by kernel_rfl
noncomputable def q157 : PM := ⟨99, m157, mk _ t157⟩
theorem t158 : chkM [q157, q156, q154, q153, q152, q151, q150, q149, q148, q147, q144, q12, q11, q10] 180 m158 = true := by kernel_rfl
noncomputable def q158 : PM := ⟨180, m158, mk _ t158⟩
theorem t159 : chkM [q158, q157, q156, q154, q153, q152, q151, q150, q149, q148, q147, q144, q12, q11, q10] 110 m159 = true := by kernel_rfl
noncomputable def q159 : PM := ⟨110, m159, mk _ t159⟩
theorem t160 : chkM [q159, q158, q157, q156, q154, q153, q152, q151, q150, q149, q148, q147, q144, q12, q11, q10] 181 m160 = true := by kernel_rfl
noncomputable def q160 : PM := ⟨181, m160, mk _ t160⟩
theorem t161 : chkM [q160, q159, q158, q157, q156, q154, q153, q152, q151, q150, q149, q148, q147, q144, q12, q11, q10] 182 m161 = true := by kernel_rfl
noncomputable def q161 : PM := ⟨182, m161, mk _ t161⟩
noncomputable def l16 : List PM := [q161, q160, q159, q158, q157, q156, q154, q153, q152, q151, q150, q149, q148, q147, q144, q12, q11, q10]
theorem t162_0 : chkM l16 42 (m162 0) = true := by kernel_rfl
noncomputable def q162_0 : PM := ⟨42, (m162 0), mk _ t162_0⟩
theorem t162_1 : chkM l16 42 (m162 1) = true := by kernel_rfl
noncomputable def q162_1 : PM := ⟨42, (m162 1), mk _ t162_1⟩
theorem t162_2 : chkM l16 42 (m162 2) = true := by kernel_rfl
noncomputable def q162_2 : PM := ⟨42, (m162 2), mk _ t162_2⟩
theorem t162_3 : chkM l16 42 (m162 3) = true := by kernel_rfl
noncomputable def q162_3 : PM := ⟨42, (m162 3), mk _ t162_3⟩
theorem t162_4 : chkM l16 42 (m162 4) = true := by kernel_rfl
noncomputable def q162_4 : PM := ⟨42, (m162 4), mk _ t162_4⟩
end Go.Ab.Y

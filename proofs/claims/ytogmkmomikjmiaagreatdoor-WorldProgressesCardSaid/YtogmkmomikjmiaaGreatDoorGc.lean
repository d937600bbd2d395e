/- For every n and every engine, WorldProgresses returns true: calls that are run beforehand. -/
import Derived.Test.YtogmkmomikjmiaaGreatDoorGa
import Derived.KernelRfl
set_option linter.all false
set_option maxRecDepth 1000000
namespace Go.Ab.Y
open Go Go.Ab Go.Ab.Cm Go.Proofs
theorem t30 : chkM [] 40 m30 = true := by kernel_rfl
noncomputable def q30 : PM := ⟨40, m30, mk _ t30⟩
theorem t31 : chkM [] 66 m31 = true := by kernel_rfl
noncomputable def q31 : PM := ⟨66, m31, mk _ t31⟩
theorem t32 : chkM [] 66 m32 = true := by kernel_rfl
noncomputable def q32 : PM := ⟨66, m32, mk _ t32⟩
theorem t33 : chkM [q30, q12, q11, q10] 144 m33 = true := by kernel_rfl
noncomputable def q33 : PM := ⟨144, m33, mk _ t33⟩
theorem t34 : chkM [q33, q30, q12, q11, q10] 114 m34 = true := by kernel_rfl
noncomputable def q34 : PM := ⟨114, m34, mk _ t34⟩
theorem t35 : chkM [q34, q33, q30, q12, q11, q10] 99 m35 = true := by kernel_rfl
noncomputable def q35 : PM := ⟨99, m35, mk _ t35⟩
theorem t36 : chkM [q35, q34, q33, q30, q12, q11, q10] 180 m36 = true := by kernel_rfl
noncomputable def q36 : PM := ⟨180, m36, mk _ t36⟩
theorem t37 : chkM [q36, q35, q34, q33, q30, q12, q11, q10] 110 m37 = true := by kernel_rfl
noncomputable def q37 : PM := ⟨110, m37, mk _ t37⟩
theorem t38 : chkM [q37, q36, q35, q34, q33, q30, q12, q11, q10] 181 m38 = true := by kernel_rfl
noncomputable def q38 : PM := ⟨181, m38, mk _ t38⟩
theorem t39 : chkM [q38, q37, q36, q35, q34, q33, q30, q12, q11, q10] 182 m39 = true := by kernel_rfl
noncomputable def q39 : PM := ⟨182, m39, mk _ t39⟩
theorem t40 : chkM [q39, q38, q37, q36, q35, q34, q33, q30, q12, q11, q10] 184 m40 = true := by kernel_rfl
noncomputable def q40 : PM := ⟨184, m40, mk _ t40⟩
noncomputable def l3 : List PM := [q40, q39, q38, q37, q36, q35, q34, q33, q30, q12, q11, q10]
theorem t41_0 : chkM l3 42 (m41 0) = true := by kernel_rfl
noncomputable def q41_0 : PM := ⟨42, (m41 0), mk _ t41_0⟩
theorem t41_1 : chkM l3 42 (m41 1) = true := by kernel_rfl
noncomputable def q41_1 : PM := ⟨42, (m41 1), mk _ t41_1⟩
theorem t41_2 : chkM l3 42 (m41 2) = true := by kernel_rfl
noncomputable def q41_2 : PM := ⟨42, (m41 2), mk _ t41_2⟩
theorem t41_3 : chkM l3 42 (m41 3) = true := by kernel_rfl
noncomputable def q41_3 : PM := ⟨42, (m41 3), mk _ t41_3⟩
theorem t41_4 : chkM l3 42 (m41 4) = true := by kernel_rfl
noncomputable def q41_4 : PM := ⟨42, (m41 4), mk _ t41_4⟩
theorem t42 : chkM [q40, q39, q38, q37, q36, q35, q34, q33, q30, q12, q11, q10] 144 m42 = true := by kernel_rfl
noncomputable def q42 : PM := ⟨144, m42, mk _ t42⟩
theorem t43 : chkM [q42, q40, q39, q38, q37, q36, q35, q34, q33, q30, q12, q11, q10] 99 m43 = true := by kernel_rfl
noncomputable def q43 : PM := ⟨99, m43, mk _ t43⟩
theorem t44 : chkM [q43, q42, q40, q39, q38, q37, q36, q35, q34, q33, q30, q12, q11, q10] 180 m44 = true := by kernel_rfl
noncomputable def q44 : PM := ⟨180, m44, mk _ t44⟩
theorem t45 : chkM [q44, q43, q42, q40, q39, q38, q37, q36, q35, q34, q33, q30, q12, q11, q10] 110 m45 = true := by kernel_rfl
noncomputable def q45 : PM := ⟨110, m45, mk _ t45⟩
theorem t46 : chkM [q45, q44, q43, q42, q40, q39, q38, q37, q36, q35, q34, q33, q30, q12, q11, q10] 181 m46 = true := by kernel_rfl
noncomputable def q46 : PM := ⟨181, m46, mk _ t46⟩
theorem t47 : chkM [q46, q45, q44, q43, q42, q40, q39, q38, q37, q36, q35, q34, q33, q30, q12, q11, q10] 182 m47 = true := by kernel_rfl
noncomputable def q47 : PM := ⟨182, m47, mk _ t47⟩
noncomputable def l4 : List PM := [q47, q46, q45, q44, q43, q42, q40, q39, q38, q37, q36, q35, q34, q33, q30, q12, q11, q10]
theorem t48_0 : chkM l4 42 (m48 0) = true := by kernel_rfl
noncomputable def q48_0 : PM := ⟨42, (m48 0), mk _ t48_0⟩
theorem t48_1 : chkM l4 42 (m48 1) = true := by kernel_rfl
noncomputable def q48_1 : PM := ⟨42, (m48 1), mk _ t48_1⟩
theorem t48_2 : chkM l4 42 (m48 2) = true := by kernel_rfl
noncomputable def q48_2 : PM := ⟨42, (m48 2), mk _ t48_2⟩
theorem t48_3 : chkM l4 42 (m48 3) = true := by kernel_rfl
noncomputable def q48_3 : PM := ⟨42, (m48 3), mk _ t48_3⟩
theorem t48_4 : chkM l4 42 (m48 4) = true := by kernel_rfl
noncomputable def q48_4 : PM := ⟨42, (m48 4), mk _ t48_4⟩
end Go.Ab.Y

/- For every n and every engine, WorldProgresses returns true: calls that are run beforehand. -/
import Derived.Test.YtogmkmomikjmiaaGreatDoorGa
import Derived.KernelRfl
set_option linter.all false
set_option maxRecDepth 1000000
namespace Go.Ab.Y
open Go Go.Ab Go.Ab.Cm Go.Proofs
theorem t14 : chkM [q12, q11, q10] 144 m14 = true := by kernel_rfl
noncomputable def q14 : PM := ⟨144, m14, mk _ t14⟩
theorem t15 : chkM [q14, q12, q11, q10] 114 m15 = true := by kernel_rfl
noncomputable def q15 : PM := ⟨114, m15, mk _ t15⟩
theorem t16 : chkM [q15, q14, q12, q11, q10] 99 m16 = true := by kernel_rfl
noncomputable def q16 : PM := ⟨99, m16, mk _ t16⟩
theorem t17 : chkM [q16, q15, q14, q12, q11, q10] 180 m17 = true := by kernel_rfl
noncomputable def q17 : PM := ⟨180, m17, mk _ t17⟩
theorem t18 : chkM [q17, q16, q15, q14, q12, q11, q10] 110 m18 = true := by kernel_rfl
noncomputable def q18 : PM := ⟨110, m18, mk _ t18⟩
theorem t19 : chkM [q18, q17, q16, q15, q14, q12, q11, q10] 181 m19 = true := by kernel_rfl
noncomputable def q19 : PM := ⟨181, m19, mk _ t19⟩
theorem t20 : chkM [q19, q18, q17, q16, q15, q14, q12, q11, q10] 182 m20 = true := by kernel_rfl
noncomputable def q20 : PM := ⟨182, m20, mk _ t20⟩
theorem t21 : chkM [q20, q19, q18, q17, q16, q15, q14, q12, q11, q10] 184 m21 = true := by kernel_rfl
noncomputable def q21 : PM := ⟨184, m21, mk _ t21⟩
noncomputable def l1 : List PM := [q21, q20, q19, q18, q17, q16, q15, q14, q12, q11, q10]
theorem t22_0 : chkM l1 42 (m22 0) = true := by kernel_rfl
noncomputable def q22_0 : PM := ⟨42, (m22 0), mk _ t22_0⟩
theorem t22_1 : chkM l1 42 (m22 1) = true := by kernel_rfl
noncomputable def q22_1 : PM := ⟨42, (m22 1), mk _ t22_1⟩
theorem t22_2 : chkM l1 42 (m22 2) = true := by kernel_rfl
noncomputable def q22_2 : PM := ⟨42, (m22 2), mk _ t22_2⟩
theorem t22_3 : chkM l1 42 (m22 3) = true := by kernel_rfl
noncomputable def q22_3 : PM := ⟨42, (m22 3), mk _ t22_3⟩
theorem t22_4 : chkM l1 42 (m22 4) = true := by kernel_rfl
noncomputable def q22_4 : PM := ⟨42, (m22 4), mk _ t22_4⟩
theorem t23 : chkM [q21, q20, q19, q18, q17, q16, q15, q14, q12, q11, q10] 144 m23 = true := by kernel_rfl
noncomputable def q23 : PM := ⟨144, m23, mk _ t23⟩
theorem t24 : chkM [q23, q21, q20, q19, q18, q17, q16, q15, q14, q12, q11, q10] 99 m24 = true := by kernel_rfl
noncomputable def q24 : PM := ⟨99, m24, mk _ t24⟩
theorem t25 : chkM [q24, q23, q21, q20, q19, q18, q17, q16, q15, q14, q12, q11, q10] 180 m25 = true := by kernel_rfl
noncomputable def q25 : PM := ⟨180, m25, mk _ t25⟩
theorem t26 : chkM [q25, q24, q23, q21, q20, q19, q18, q17, q16, q15, q14, q12, q11, q10] 110 m26 = true := by kernel_rfl
noncomputable def q26 : PM := ⟨110, m26, mk _ t26⟩
theorem t27 : chkM [q26, q25, q24, q23, q21, q20, q19, q18, q17, q16, q15, q14, q12, q11, q10] 181 m27 = true := by kernel_rfl
noncomputable def q27 : PM := ⟨181, m27, mk _ t27⟩
theorem t28 : chkM [q27, q26, q25, q24, q23, q21, q20, q19, q18, q17, q16, q15, q14, q12, q11, q10] 182 m28 = true := by kernel_rfl
noncomputable def q28 : PM := ⟨182, m28, mk _ t28⟩
noncomputable def l2 : List PM := [q28, q27, q26, q25, q24, q23, q21, q20, q19, q18, q17, q16, q15, q14, q12, q11, q10]
theorem t29_0 : chkM l2 42 (m29 0) = true := by kernel_rfl
noncomputable def q29_0 : PM := ⟨42, (m29 0), mk _ t29_0⟩
theorem t29_1 : chkM l2 42 (m29 1) = true := by kernel_rfl
noncomputable def q29_1 : PM := ⟨42, (m29 1), mk _ t29_1⟩
theorem t29_2 : chkM l2 42 (m29 2) = true := by kernel_rfl
noncomputable def q29_2 : PM := ⟨42, (m29 2), mk _ t29_2⟩
theorem t29_3 : chkM l2 42 (m29 3) = true := by kernel_rfl
noncomputable def q29_3 : PM := ⟨42, (m29 3), mk _ t29_3⟩
theorem t29_4 : chkM l2 42 (m29 4) = true := by kernel_rfl
noncomputable def q29_4 : PM := ⟨42, (m29 4), mk _ t29_4⟩
end Go.Ab.Y

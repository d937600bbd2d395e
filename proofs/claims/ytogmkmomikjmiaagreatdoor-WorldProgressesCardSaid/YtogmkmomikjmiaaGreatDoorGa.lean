/- For every n and every engine, WorldProgresses returns true: calls that are run beforehand. -/
import Derived.Test.YtogmkmomikjmiaaGreatDoorRw
import Derived.KernelRfl
set_option linter.all false
set_option maxRecDepth 1000000
namespace Go.Ab.Y
open Go Go.Ab Go.Ab.Cm Go.Proofs
theorem t0 : chkM [] 8 m0 = true := by kernel_rfl
noncomputable def q0 : PM := ⟨8, m0, mk _ t0⟩
theorem t1 : chkM [] 66 m1 = true := by kernel_rfl
noncomputable def q1 : PM := ⟨66, m1, mk _ t1⟩
theorem t2 : chkM [] 40 m2 = true := by kernel_rfl
noncomputable def q2 : PM := ⟨40, m2, mk _ t2⟩
theorem t3 : chkM [] 66 m3 = true := by kernel_rfl
noncomputable def q3 : PM := ⟨66, m3, mk _ t3⟩
theorem t4 : chkM [] 40 m4 = true := by kernel_rfl
noncomputable def q4 : PM := ⟨40, m4, mk _ t4⟩
theorem t5 : chkM [] 66 m5 = true := by kernel_rfl
noncomputable def q5 : PM := ⟨66, m5, mk _ t5⟩
theorem t6 : chkM [] 66 m6 = true := by kernel_rfl
noncomputable def q6 : PM := ⟨66, m6, mk _ t6⟩
theorem t7 : chkM [q4, q2] 144 m7 = true := by kernel_rfl
noncomputable def q7 : PM := ⟨144, m7, mk _ t7⟩
theorem t8 : chkM [q7, q4, q2] 114 m8 = true := by kernel_rfl
noncomputable def q8 : PM := ⟨114, m8, mk _ t8⟩
theorem t9 : chkM [q8, q7, q4, q2] 99 m9 = true := by kernel_rfl
noncomputable def q9 : PM := ⟨99, m9, mk _ t9⟩
theorem t10 : chkM [q9, q8, q7, q4, q2] 208 m10 = true := by kernel_rfl
noncomputable def q10 : PM := ⟨208, m10, mk _ t10⟩
theorem t11 : chkM [q9, q8, q7, q4, q2, q10] 477 m11 = true := by kernel_rfl
noncomputable def q11 : PM := ⟨477, m11, mk _ t11⟩
theorem t12 : chkM [q9, q8, q7, q4, q2, q11, q10] 209 m12 = true := by kernel_rfl
noncomputable def q12 : PM := ⟨209, m12, mk _ t12⟩
noncomputable def l0 : List PM := [q9, q8, q7, q4, q2, q12, q11, q10]
theorem t13_0 : chkM l0 42 (m13 0) = true := by kernel_rfl
noncomputable def q13_0 : PM := ⟨42, (m13 0), mk _ t13_0⟩
theorem t13_1 : chkM l0 42 (m13 1) = true := by kernel_rfl
noncomputable def q13_1 : PM := ⟨42, (m13 1), mk _ t13_1⟩
theorem t13_2 : chkM l0 42 (m13 2) = true := by kernel_rfl
noncomputable def q13_2 : PM := ⟨42, (m13 2), mk _ t13_2⟩
theorem t13_3 : chkM l0 42 (m13 3) = true := by kernel_rfl
noncomputable def q13_3 : PM := ⟨42, (m13 3), mk _ t13_3⟩
theorem t13_4 : chkM l0 42 (m13 4) = true := by kernel_rfl
noncomputable def q13_4 : PM := ⟨42, (m13 4), mk _ t13_4⟩
end Go.Ab.Y

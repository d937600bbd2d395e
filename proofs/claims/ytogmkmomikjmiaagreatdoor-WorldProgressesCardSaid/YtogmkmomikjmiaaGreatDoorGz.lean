/- For every n and every engine, WorldProgresses returns true: the example. -/
import Derived.Test.YtogmkmomikjmiaaGreatDoorGb
import Derived.KernelRfl
set_option linter.all false
set_option maxRecDepth 1000000
namespace Go.Ab.Y
open Go Go.Ab Go.Ab.Cm Go.Proofs
theorem tx0 : chkM [q28, q27, q26, q25, q24, q23, q21, q20, q19, q18, q17, q16, q15, q14, q9, q8, q7, q6, q5, q4, q3, q2, q1, q12, q11, q10] 8 x0 = true := by kernel_rfl
noncomputable def qx0 : PM := ⟨8, x0, mk _ tx0⟩
theorem tx1 : chkM [qx0, q28, q27, q26, q25, q24, q23, q21, q20, q19, q18, q17, q16, q15, q14, q9, q8, q7, q6, q5, q4, q3, q2, q1, q12, q11, q10] 144 x1 = true := by kernel_rfl
noncomputable def qx1 : PM := ⟨144, x1, mk _ tx1⟩
theorem tx2 : chkM [qx1, qx0, q28, q27, q26, q25, q24, q23, q21, q20, q19, q18, q17, q16, q15, q14, q9, q8, q7, q6, q5, q4, q3, q2, q1, q12, q11, q10] 42 x2 = true := by kernel_rfl
noncomputable def qx2 : PM := ⟨42, x2, mk _ tx2⟩
theorem tx3 : chkM [qx2, qx0, q28, q27, q26, q25, q24, q23, q21, q20, q19, q18, q17, q16, q15, q14, q9, q8, q7, q6, q5, q4, q3, q2, q1, q12, q11, q10] 144 x3 = true := by kernel_rfl
noncomputable def qx3 : PM := ⟨144, x3, mk _ tx3⟩
theorem tx4 : chkM [qx3, qx1, qx0, q28, q27, q26, q25, q24, q23, q21, q20, q19, q18, q17, q16, q15, q14, q9, q8, q7, q6, q5, q4, q3, q2, q1, q12, q11, q10] 42 x4 = true := by kernel_rfl
noncomputable def qx4 : PM := ⟨42, x4, mk _ tx4⟩
theorem tx5 : chkM [qx4, qx3, qx2, qx1, qx0, q28, q27, q26, q25, q24, q23, q21, q20, q19, q18, q17, q16, q15, q14, q9, q8, q7, q6, q5, q4, q3, q2, q1, q12, q11, q10] 7 x5 = true := by kernel_rfl
noncomputable def qx5 : PM := ⟨7, x5, mk _ tx5⟩
end Go.Ab.Y

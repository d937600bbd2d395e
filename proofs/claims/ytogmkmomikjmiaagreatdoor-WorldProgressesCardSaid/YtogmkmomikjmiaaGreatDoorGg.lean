/- For every n and every engine, WorldProgresses returns true: calls that are run beforehand. -/
import Derived.Test.YtogmkmomikjmiaaGreatDoorGa
import Derived.KernelRfl
set_option linter.all false
set_option maxRecDepth 1000000
namespace Go.Ab.Y
open Go Go.Ab Go.Ab.Cm Go.Proofs
theorem t106 : chkM [] 40 m106 = true := by kernel_rfl
noncomputable def q106 : PM := ⟨40, m106, mk _ t106⟩
theorem t107 : chkM [] 66 m107 = true := by kernel_rfl
noncomputable def q107 : PM := ⟨66, m107, mk _ t107⟩
theorem t108 : chkM [] 66 m108 = true := by kernel_rfl
noncomputable def q108 : PM := ⟨66, m108, mk _ t108⟩
theorem t109 : chkM [q106, q12, q11, q10] 144 m109 = true := by kernel_rfl
noncomputable def q109 : PM := ⟨144, m109, mk _ t109⟩
theorem t110 : chkM [q109, q106, q12, q11, q10] 114 m110 = true := by kernel_rfl
noncomputable def q110 : PM := ⟨114, m110, mk _ t110⟩
theorem t111 : chkM [q110, q109, q106, q12, q11, q10] 99 m111 = true := by kernel_rfl
noncomputable def q111 : PM := ⟨99, m111, mk _ t111⟩
theorem t112 : chkM [q111, q110, q109, q106, q12, q11, q10] 180 m112 = true := by kernel_rfl
noncomputable def q112 : PM := ⟨180, m112, mk _ t112⟩
theorem t113 : chkM [q112, q111, q110, q109, q106, q12, q11, q10] 110 m113 = true := by kernel_rfl
noncomputable def q113 : PM := ⟨110, m113, mk _ t113⟩
theorem t114 : chkM [q113, q112, q111, q110, q109, q106, q12, q11, q10] 181 m114 = true := by kernel_rfl
noncomputable def q114 : PM := ⟨181, m114, mk _ t114⟩
theorem t115 : chkM [q114, q113, q112, q111, q110, q109, q106, q12, q11, q10] 182 m115 = true := by kernel_rfl
noncomputable def q115 : PM := ⟨182, m115, mk _ t115⟩
theorem t116 : chkM [q115, q114, q113, q112, q111, q110, q109, q106, q12, q11, q10] 184 m116 = true := by kernel_rfl
noncomputable def q116 : PM := ⟨184, m116, mk _ t116⟩
noncomputable def l11 : List PM := [q116, q115, q114, q113, q112, q111, q110, q109, q106, q12, q11, q10]
theorem t117_0 : chkM l11 42 (m117 0) = true := by kernel_rfl
noncomputable def q117_0 : PM := ⟨42, (m117 0), mk _ t117_0⟩
theorem t117_1 : chkM l11 42 (m117 1) = true := by kernel_rfl
noncomputable def q117_1 : PM := ⟨42, (m117 1), mk _ t117_1⟩
theorem t117_2 : chkM l11 42 (m117 2) = true := by kernel_rfl
noncomputable def q117_2 : PM := ⟨42, (m117 2), mk _ t117_2⟩
theorem t117_3 : chkM l11 42 (m117 3) = true := by kernel_rfl
noncomputable def q117_3 : PM := ⟨42, (m117 3), mk _ t117_3⟩
theorem t117_4 : chkM l11 42 (m117 4) = true := by kernel_rfl
noncomputable def q117_4 : PM := ⟨42, (m117 4), mk _ t117_4⟩
theorem t118 : chkM [q116, q115, q114, q113, q112, q111, q110, q109, q106, q12, q11, q10] 144 m118 = true := by kernel_rfl
noncomputable def q118 : PM := ⟨144, m118, mk _ t118⟩
theorem t119 : chkM [q118, q116, q115, q114, q113, q112, q111, q110, q109, q106, q12, q11, q10] 99 m119 = true := by kernel_rfl
noncomputable def q119 : PM := ⟨99, m119, mk _ t119⟩
theorem t120 : chkM [q119, q118, q116, q115, q114, q113, q112, q111, q110, q109, q106, q12, q11, q10] 180 m120 = true := by kernel_rfl
noncomputable def q120 : PM := ⟨180, m120, mk _ t120⟩
theorem t121 : chkM [q120, q119, q118, q116, q115, q114, q113, q112, q111, q110, q109, q106, q12, q11, q10] 110 m121 = true := by kernel_rfl
noncomputable def q121 : PM := ⟨110, m121, mk _ t121⟩
theorem t122 : chkM [q121, q120, q119, q118, q116, q115, q114, q113, q112, q111, q110, q109, q106, q12, q11, q10] 181 m122 = true := by kernel_rfl
noncomputable def q122 : PM := ⟨181, m122, mk _ t122⟩
theorem t123 : chkM [q122, q121, q120, q119, q118, q116, q115, q114, q113, q112, q111, q110, q109, q106, q12, q11, q10] 182 m123 = true := by kernel_rfl
noncomputable def q123 : PM := ⟨182, m123, mk _ t123⟩
noncomputable def l12 : List PM := [q123, q122, q121, q120, q119, q118, q116, q115, q114, q113, q112, q111, q110, q109, q106, q12, q11, q10]
theorem t124_0 : chkM l12 42 (m124 0) = true := by kernel_rfl
noncomputable def q124_0 : PM := ⟨42, (m124 0), mk _ t124_0⟩
theorem t124_1 : chkM l12 42 (m124 1) = true := by kernel_rfl
noncomputable def q124_1 : PM := ⟨42, (m124 1), mk _ t124_1⟩
theorem t124_2 : chkM l12 42 (m124 2) = true := by kernel_rfl
noncomputable def q124_2 : PM := ⟨42, (m124 2), mk _ t124_2⟩
theorem t124_3 : chkM l12 42 (m124 3) = true := by kernel_rfl
noncomputable def q124_3 : PM := ⟨42, (m124 3), mk _ t124_3⟩
theorem t124_4 : chkM l12 42 (m124 4) = true := by kernel_rfl
noncomputable def q124_4 : PM := ⟨42, (m124 4), mk _ t124_4⟩
end Go.Ab.Y

/- For every n and every engine, WorldProgresses returns true: calls that are run beforehand. -/
import Derived.Test.YtogmkmomikjmiaaGreatDoorGa
import Derived.KernelRfl
set_option linter.all false
set_option maxRecDepth 1000000
namespace Go.Ab.Y
open Go Go.Ab Go.Ab.Cm Go.Proofs
theorem t125 : chkM [] 40 m125 = true := by kernel_rfl
noncomputable def q125 : PM := ⟨40, m125, mk _ t125⟩
theorem t126 : chkM [] 66 m126 = true := by kernel_rfl
noncomputable def q126 : PM := ⟨66, m126, mk _ t126⟩
theorem t127 : chkM [] 66 m127 = true := by kernel_rfl
noncomputable def q127 : PM := ⟨66, m127, mk _ t127⟩
theorem t128 : chkM [q125, q12, q11, q10] 144 m128 = true := by kernel_rfl
noncomputable def q128 : PM := ⟨144, m128, mk _ t128⟩
theorem t129 : chkM [q128, q125, q12, q11, q10] 114 m129 = true := by kernel_rfl
noncomputable def q129 : PM := ⟨114, m129, mk _ t129⟩
theorem t130 : chkM [q129, q128, q125, q12, q11, q10] 99 m130 = true := by kernel_rfl
noncomputable def q130 : PM := ⟨99, m130, mk _ t130⟩
theorem t131 : chkM [q130, q129, q128, q125, q12, q11, q10] 180 m131 = true := by kernel_rfl
noncomputable def q131 : PM := ⟨180, m131, mk _ t131⟩
theorem t132 : chkM [q131, q130, q129, q128, q125, q12, q11, q10] 110 m132 = true := by kernel_rfl
noncomputable def q132 : PM := ⟨110, m132, mk _ t132⟩
theorem t133 : chkM [q132, q131, q130, q129, q128, q125, q12, q11, q10] 181 m133 = true := by kernel_rfl
noncomputable def q133 : PM := ⟨181, m133, mk _ t133⟩
theorem t134 : chkM [q133, q132, q131, q130, q129, q128, q125, q12, q11, q10] 182 m134 = true := by kernel_rfl
noncomputable def q134 : PM := ⟨182, m134, mk _ t134⟩
theorem t135 : chkM [q134, q133, q132, q131, q130, q129, q128, q125, q12, q11, q10] 184 m135 = true := by kernel_rfl
noncomputable def q135 : PM := ⟨184, m135, mk _ t135⟩
noncomputable def l13 : List PM := [q135, q134, q133, q132, q131, q130, q129, q128, q125, q12, q11, q10]
theorem t136_0 : chkM l13 42 (m136 0) = true := by kernel_rfl
noncomputable def q136_0 : PM := ⟨42, (m136 0), mk _ t136_0⟩
theorem t136_1 : chkM l13 42 (m136 1) = true := by kernel_rfl
noncomputable def q136_1 : PM := ⟨42, (m136 1), mk _ t136_1⟩
theorem t136_2 : chkM l13 42 (m136 2) = true := by kernel_rfl
noncomputable def q136_2 : PM := ⟨42, (m136 2), mk _ t136_2⟩
theorem t136_3 : chkM l13 42 (m136 3) = true := by kernel_rfl
noncomputable def q136_3 : PM := ⟨42, (m136 3), mk _ t136_3⟩
theorem t136_4 : chkM l13 42 (m136 4) = true := by kernel_rfl
noncomputable def q136_4 : PM := ⟨42, (m136 4), mk _ t136_4⟩
theorem t137 : chkM [q135, q134, q133, q132, q131, q130, q129, q128, q125, q12, q11, q10] 144 m137 = true := by kernel_rfl
noncomputable def q137 : PM := ⟨144, m137, mk _ t137⟩
theorem t138 : chkM [q137, q135, q134, q133, q132, q131, q130, q129, q128, q125, q12, q11, q10] 99 m138 = true := by kernel_rfl
noncomputable def q138 : PM := ⟨99, m138, mk _ t138⟩
theorem t139 : chkM [q138, q137, q135, q134, q133, q132, q131, q130, q129, q128, q125, q12, q11, q10] 180 m139 = true := by kernel_rfl
noncomputable def q139 : PM := ⟨180, m139, mk _ t139⟩
theorem t140 : chkM [q139, q138, q137, q135, q134, q133, q132, q131, q130, q129, q128, q125, q12, q11, q10] 110 m140 = true := by kernel_rfl
noncomputable def q140 : PM := ⟨110, m140, mk _ t140⟩
theorem t141 : chkM [q140, q139, q138, q137, q135, q134, q133, q132, q131, q130, q129, q128, q125, q12, q11, q10] 181 m141 = true := by kernel_rfl
noncomputable def q141 : PM := ⟨181, m141, mk _ t141⟩
theorem t142 : chkM [q141, q140, q139, q138, q137, q135, q134, q133, q132, q131, q130, q129, q128, q125, q12, q11, q10] 182 m142 = true := by kernel_rfl
noncomputable def q142 : PM := ⟨182, m142, mk _ t142⟩
noncomputable def l14 : List PM := [q142, q141, q140, q139, q138, q137, q135, q134, q133, q132, q131, q130, q129, q128, q125, q12, q11, q10]
theorem t143_0 : chkM l14 42 (m143 0) = true := by kernel_rfl
noncomputable def q143_0 : PM := ⟨42, (m143 0), mk _ t143_0⟩
theorem t143_1 : chkM l14 42 (m143 1) = true := by kernel_rfl
noncomputable def q143_1 : PM := ⟨42, (m143 1), mk _ t143_1⟩
theorem t143_2 : chkM l14 42 (m143 2) = true := by kernel_rfl
noncomputable def q143_2 : PM := ⟨42, (m143 2), mk _ t143_2⟩
theorem t143_3 : chkM l14 42 (m143 3) = true := by kernel_rfl
noncomputable def q143_3 : PM := ⟨42, (m143 3), mk _ t143_3⟩
theorem t143_4 : chkM l14 42 (m143 4) = true := by kernel_rfl
noncomputable def q143_4 : PM := ⟨42, (m143 4), mk _ t143_4⟩
end Go.Ab.Y

/- For every n and every engine, WorldProgresses returns true: calls that are run beforehand. -/
import Derived.Test.YtogmkmomikjmiaaGreatDoorGa
import Derived.KernelRfl
set_option linter.all false
set_option maxRecDepth 1000000
namespace Go.Ab.Y
open Go Go.Ab Go.Ab.Cm Go.Proofs
theorem t87 : chkM [] 40 m87 = true := by kernel_rfl
noncomputable def q87 : PM := ⟨40, m87, mk _ t87⟩
theorem t88 : chkM [] 66 m88 = true := by kernel_rfl
noncomputable def q88 : PM := ⟨66, m88, mk _ t88⟩
theorem t89 : chkM [] 66 m89 = true := by kernel_rfl
noncomputable def q89 : PM := ⟨66, m89, mk _ t89⟩
theorem t90 : chkM [q87, q12, q11, q10] 144 m90 = true := by kernel_rfl
noncomputable def q90 : PM := ⟨144, m90, mk _ t90⟩
theorem t91 : chkM [q90, q87, q12, q11, q10] 114 m91 = true := by kernel_rfl
noncomputable def q91 : PM := ⟨114, m91, mk _ t91⟩
theorem t92 : chkM [q91, q90, q87, q12, q11, q10] 99 m92 = true := by kernel_rfl
noncomputable def q92 : PM := ⟨99, m92, mk _ t92⟩
theorem t93 : chkM [q92, q91, q90, q87, q12, q11, q10] 180 m93 = true := by kernel_rfl
noncomputable def q93 : PM := ⟨180, m93, mk _ t93⟩
theorem t94 : chkM [q93, q92, q91, q90, q87, q12, q11, q10] 110 m94 = true := by kernel_rfl
noncomputable def q94 : PM := ⟨110, m94, mk _ t94⟩
theorem t95 : chkM [q94, q93, q92, q91, q90, q87, q12, q11, q10] 181 m95 = true := by kernel_rfl
noncomputable def q95 : PM := ⟨181, m95, mk _ t95⟩
theorem t96 : chkM [q95, q94, q93, q92, q91, q90, q87, q12, q11, q10] 182 m96 = true := by kernel_rfl
noncomputable def q96 : PM := ⟨182, m96, mk _ t96⟩
theorem t97 : chkM [q96, q95, q94, q93, q92, q91, q90, q87, q12, q11, q10] 184 m97 = true := by kernel_rfl
noncomputable def q97 : PM := ⟨184, m97, mk _ t97⟩
noncomputable def l9 : List PM := [q97, q96, q95, q94, q93, q92, q91, q90, q87, q12, q11, q10]
theorem t98_0 : chkM l9 42 (m98 0) = true := by kernel_rfl
noncomputable def q98_0 : PM := ⟨42, (m98 0), mk _ t98_0⟩
theorem t98_1 : chkM l9 42 (m98 1) = true := by kernel_rfl
noncomputable def q98_1 : PM := ⟨42, (m98 1), mk _ t98_1⟩
theorem t98_2 : chkM l9 42 (m98 2) = true := by kernel_rfl
noncomputable def q98_2 : PM := ⟨42, (m98 2), mk _ t98_2⟩
theorem t98_3 : chkM l9 42 (m98 3) = true := by kernel_rfl
noncomputable def q98_3 : PM := ⟨42, (m98 3), mk _ t98_3⟩
theorem t98_4 : chkM l9 42 (m98 4) = true := by kernel_rfl
noncomputable def q98_4 : PM := ⟨42, (m98 4), mk _ t98_4⟩
theorem t99 : chkM [q97, q96, q95, q94, q93, q92, q91, q90, q87, q12, q11, q10] 144 m99 = true := by kernel_rfl
noncomputable def q99 : PM := ⟨144, m99, mk _ t99⟩
theorem t100 : chkM [q99, q97, q96, q95, q94, q93, q92, q91, q90, q87, q12, q11, q10] 99 m100 = true := by kernel_rfl
noncomputable def q100 : PM := ⟨99, m100, mk _ t100⟩
theorem t101 : chkM [q100, q99, q97, q96, q95, q94, q93, q92, q91, q90, q87, q12, q11, q10] 180 m101 = true := by kernel_rfl
noncomputable def q101 : PM := ⟨180, m101, mk _ t101⟩
theorem t102 : chkM [q101, q100, q99, q97, q96, q95, q94, q93, q92, q91, q90, q87, q12, q11, q10] 110 m102 = true := by kernel_rfl
noncomputable def q102 : PM := ⟨110, m102, mk _ t102⟩
theorem t103 : chkM [q102, q101, q100, q99, q97, q96, q95, q94, q93, q92, q91, q90, q87, q12, q11, q10] 181 m103 = true := by kernel_rfl
noncomputable def q103 : PM := ⟨181, m103, mk _ t103⟩
theorem t104 : chkM [q103, q102, q101, q100, q99, q97, q96, q95, q94, q93, q92, q91, q90, q87, q12, q11, q10] 182 m104 = true := by kernel_rfl
noncomputable def q104 : PM := ⟨182, m104, mk _ t104⟩
noncomputable def l10 : List PM := [q104, q103, q102, q101, q100, q99, q97, q96, q95, q94, q93, q92, q91, q90, q87, q12, q11, q10]
theorem t105_0 : chkM l10 42 (m105 0) = true := by kernel_rfl
noncomputable def q105_0 : PM := ⟨42, (m105 0), mk _ t105_0⟩
theorem t105_1 : chkM l10 42 (m105 1) = true := by kernel_rfl
noncomputable def q105_1 : PM := ⟨42, (m105 1), mk _ t105_1⟩
theorem t105_2 : chkM l10 42 (m105 2) = true := by kernel_rfl
noncomputable def q105_2 : PM := ⟨42, (m105 2), mk _ t105_2⟩
theorem t105_3 : chkM l10 42 (m105 3) = true := by kernel_rfl
noncomputable def q105_3 : PM := ⟨42, (m105 3), mk _ t105_3⟩
theorem t105_4 : chkM l10 42 (m105 4) = true := by kernel_rfl
noncomputable def q105_4 : PM := ⟨42, (m105 4), mk _ t105_4⟩
end Go.Ab.Y

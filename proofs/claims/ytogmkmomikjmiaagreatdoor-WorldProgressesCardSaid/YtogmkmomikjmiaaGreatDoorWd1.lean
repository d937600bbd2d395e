/- For every n and every engine, WorldProgresses returns true: the steps with engine 1. -/
import Derived.Test.YtogmkmomikjmiaaGreatDoorGa
import Derived.Test.YtogmkmomikjmiaaGreatDoorGb
import Derived.Test.YtogmkmomikjmiaaGreatDoorGc
import Derived.Test.YtogmkmomikjmiaaGreatDoorGd
import Derived.Test.YtogmkmomikjmiaaGreatDoorGe
import Derived.Test.YtogmkmomikjmiaaGreatDoorGf
import Derived.Test.YtogmkmomikjmiaaGreatDoorGg
import Derived.Test.YtogmkmomikjmiaaGreatDoorGh
import Derived.Test.YtogmkmomikjmiaaGreatDoorGi
import Derived.KernelRfl
set_option linter.all false
set_option maxRecDepth 1000000
namespace Go.Ab.Y
open Go Go.Ab Go.Ab.Cm Go.Proofs
noncomputable def wl1 : List PM := [q146, q145, q144, q127, q126, q125, q108, q107, q106, q89, q88, q87, q70, q69, q68, q51, q50, q49, q32, q31, q30, q6, q5, q4, q3, q2, q1, q162_1, q155_1, q143_1, q136_1, q124_1, q117_1, q105_1, q98_1, q86_1, q79_1, q67_1, q60_1, q48_1, q41_1, q29_1, q22_1, q13_1]
theorem tw2_1 : chkM wl1 9 (w2 1) = true := by kernel_rfl
noncomputable def qw2_1 : PM := ⟨9, (w2 1), mk _ tw2_1⟩
theorem tw3_1 : chkM wl1 9 (w3 1) = true := by kernel_rfl
noncomputable def qw3_1 : PM := ⟨9, (w3 1), mk _ tw3_1⟩
theorem tw4_1 : chkM wl1 9 (w4 1) = true := by kernel_rfl
noncomputable def qw4_1 : PM := ⟨9, (w4 1), mk _ tw4_1⟩
theorem tw5_1 : chkM wl1 9 (w5 1) = true := by kernel_rfl
noncomputable def qw5_1 : PM := ⟨9, (w5 1), mk _ tw5_1⟩
theorem tw6_1 : chkM wl1 9 (w6 1) = true := by kernel_rfl
noncomputable def qw6_1 : PM := ⟨9, (w6 1), mk _ tw6_1⟩
theorem tw7_1 : chkM wl1 9 (w7 1) = true := by kernel_rfl
noncomputable def qw7_1 : PM := ⟨9, (w7 1), mk _ tw7_1⟩
theorem tw8_1 : chkM wl1 9 (w8 1) = true := by kernel_rfl
noncomputable def qw8_1 : PM := ⟨9, (w8 1), mk _ tw8_1⟩
theorem tw9_1 : chkM wl1 9 (w9 1) = true := by kernel_rfl
noncomputable def qw9_1 : PM := ⟨9, (w9 1), mk _ tw9_1⟩
theorem tw10_1 : chkM wl1 9 (w10 1) = true := by kernel_rfl
noncomputable def qw10_1 : PM := ⟨9, (w10 1), mk _ tw10_1⟩
theorem tw11_1 : chkM wl1 9 (w11 1) = true := by kernel_rfl
noncomputable def qw11_1 : PM := ⟨9, (w11 1), mk _ tw11_1⟩
theorem tw12_1 : chkM wl1 9 (w12 1) = true := by kernel_rfl
noncomputable def qw12_1 : PM := ⟨9, (w12 1), mk _ tw12_1⟩
theorem tw13_1 : chkM wl1 9 (w13 1) = true := by kernel_rfl
noncomputable def qw13_1 : PM := ⟨9, (w13 1), mk _ tw13_1⟩
theorem tw14_1 : chkM wl1 9 (w14 1) = true := by kernel_rfl
noncomputable def qw14_1 : PM := ⟨9, (w14 1), mk _ tw14_1⟩
theorem tw15_1 : chkM wl1 9 (w15 1) = true := by kernel_rfl
noncomputable def qw15_1 : PM := ⟨9, (w15 1), mk _ tw15_1⟩
theorem tw16_1 : chkM wl1 9 (w16 1) = true := by kernel_rfl
noncomputable def qw16_1 : PM := ⟨9, (w16 1), mk _ tw16_1⟩
theorem tw17_1 : chkM wl1 9 (w17 1) = true := by kernel_rfl
noncomputable def qw17_1 : PM := ⟨9, (w17 1), mk _ tw17_1⟩
theorem tw18_1 : chkM wl1 9 (w18 1) = true := by kernel_rfl
noncomputable def qw18_1 : PM := ⟨9, (w18 1), mk _ tw18_1⟩
theorem tw19_1 : chkM wl1 9 (w19 1) = true := by kernel_rfl
noncomputable def qw19_1 : PM := ⟨9, (w19 1), mk _ tw19_1⟩
theorem tw20_1 : chkM wl1 9 (w20 1) = true := by kernel_rfl
noncomputable def qw20_1 : PM := ⟨9, (w20 1), mk _ tw20_1⟩
theorem tw21_1 : chkM wl1 9 (w21 1) = true := by kernel_rfl
noncomputable def qw21_1 : PM := ⟨9, (w21 1), mk _ tw21_1⟩
theorem tw22_1 : chkM wl1 9 (w22 1) = true := by kernel_rfl
noncomputable def qw22_1 : PM := ⟨9, (w22 1), mk _ tw22_1⟩
theorem tw23_1 : chkM wl1 9 (w23 1) = true := by kernel_rfl
noncomputable def qw23_1 : PM := ⟨9, (w23 1), mk _ tw23_1⟩
theorem tw24_1 : chkM wl1 9 (w24 1) = true := by kernel_rfl
noncomputable def qw24_1 : PM := ⟨9, (w24 1), mk _ tw24_1⟩
theorem tw25_1 : chkM wl1 9 (w25 1) = true := by kernel_rfl
noncomputable def qw25_1 : PM := ⟨9, (w25 1), mk _ tw25_1⟩
theorem tw26_1 : chkM wl1 9 (w26 1) = true := by kernel_rfl
noncomputable def qw26_1 : PM := ⟨9, (w26 1), mk _ tw26_1⟩
theorem tw27_1 : chkM wl1 9 (w27 1) = true := by kernel_rfl
noncomputable def qw27_1 : PM := ⟨9, (w27 1), mk _ tw27_1⟩
theorem tw28_1 : chkM wl1 9 (w28 1) = true := by kernel_rfl
noncomputable def qw28_1 : PM := ⟨9, (w28 1), mk _ tw28_1⟩
theorem tw29_1 : chkM wl1 9 (w29 1) = true := by kernel_rfl
noncomputable def qw29_1 : PM := ⟨9, (w29 1), mk _ tw29_1⟩
theorem tw30_1 : chkM wl1 9 (w30 1) = true := by kernel_rfl
noncomputable def qw30_1 : PM := ⟨9, (w30 1), mk _ tw30_1⟩
theorem tw31_1 : chkM wl1 9 (w31 1) = true := by kernel_rfl
noncomputable def qw31_1 : PM := ⟨9, (w31 1), mk _ tw31_1⟩
theorem tw32_1 : chkM wl1 9 (w32 1) = true := by kernel_rfl
noncomputable def qw32_1 : PM := ⟨9, (w32 1), mk _ tw32_1⟩
theorem tw33_1 : chkM wl1 9 (w33 1) = true := by kernel_rfl
noncomputable def qw33_1 : PM := ⟨9, (w33 1), mk _ tw33_1⟩
theorem tw34_1 : chkM wl1 9 (w34 1) = true := by kernel_rfl
noncomputable def qw34_1 : PM := ⟨9, (w34 1), mk _ tw34_1⟩
theorem tw35_1 : chkM wl1 9 (w35 1) = true := by kernel_rfl
noncomputable def qw35_1 : PM := ⟨9, (w35 1), mk _ tw35_1⟩
theorem tw36_1 : chkM wl1 9 (w36 1) = true := by kernel_rfl
noncomputable def qw36_1 : PM := ⟨9, (w36 1), mk _ tw36_1⟩
theorem tw37_1 : chkM wl1 9 (w37 1) = true := by kernel_rfl
noncomputable def qw37_1 : PM := ⟨9, (w37 1), mk _ tw37_1⟩
theorem tw38_1 : chkM wl1 9 (w38 1) = true := by kernel_rfl
noncomputable def qw38_1 : PM := ⟨9, (w38 1), mk _ tw38_1⟩
theorem tw39_1 : chkM wl1 9 (w39 1) = true := by kernel_rfl
noncomputable def qw39_1 : PM := ⟨9, (w39 1), mk _ tw39_1⟩
theorem tw40_1 : chkM wl1 9 (w40 1) = true := by kernel_rfl
noncomputable def qw40_1 : PM := ⟨9, (w40 1), mk _ tw40_1⟩
theorem tw41_1 : chkM wl1 9 (w41 1) = true := by kernel_rfl
noncomputable def qw41_1 : PM := ⟨9, (w41 1), mk _ tw41_1⟩
theorem tw42_1 : chkM wl1 9 (w42 1) = true := by kernel_rfl
noncomputable def qw42_1 : PM := ⟨9, (w42 1), mk _ tw42_1⟩
end Go.Ab.Y

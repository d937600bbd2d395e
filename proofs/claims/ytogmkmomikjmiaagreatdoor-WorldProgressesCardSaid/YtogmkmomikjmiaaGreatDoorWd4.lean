/- For every n and every engine, WorldProgresses returns true: the steps with engine 4. -/
import Derived.Test.YtogmkmomikjmiaaGreatDoorGa
import Derived.Test.YtogmkmomikjmiaaGreatDoorGb
import Derived.Test.YtogmkmomikjmiaaGreatDoorGc
import Derived.Test.YtogmkmomikjmiaaGreatDoorGd
import Derived.Test.YtogmkmomikjmiaaGreatDoorGe
import Derived.Test.YtogmkmomikjmiaaGreatDoorGf
import Derived.Test.YtogmkmomikjmiaaGreatDoorGg
import Derived.Test.YtogmkmomikjmiaaGreatDoorGh
import Derived.Test.YtogmkmomikjmiaaGreatDoorGi
import Derived.KernelRfl
set_option linter.all false
set_option maxRecDepth 1000000
namespace Go.Ab.Y
open Go Go.Ab Go.Ab.Cm Go.Proofs
noncomputable def wl4 : List PM := [q146, q145, q144, q127, q126, q125, q108, q107, q106, q89, q88, q87, q70, q69, q68, q51, q50, q49, q32, q31, q30, q6, q5, q4, q3, q2, q1, q162_4, q155_4, q143_4, q136_4, q124_4, q117_4, q105_4, q98_4, q86_4, q79_4, q67_4, q60_4, q48_4, q41_4, q29_4, q22_4, q13_4]
theorem tw2_4 : chkM wl4 9 (w2 4) = true := by kernel_rfl
noncomputable def qw2_4 : PM := ⟨9, (w2 4), mk _ tw2_4⟩
theorem tw3_4 : chkM wl4 9 (w3 4) = true := by kernel_rfl
noncomputable def qw3_4 : PM := ⟨9, (w3 4), mk _ tw3_4⟩
theorem tw4_4 : chkM wl4 9 (w4 4) = true := by kernel_rfl
noncomputable def qw4_4 : PM := ⟨9, (w4 4), mk _ tw4_4⟩
theorem tw5_4 : chkM wl4 9 (w5 4) = true := by kernel_rfl
noncomputable def qw5_4 : PM := ⟨9, (w5 4), mk _ tw5_4⟩
theorem tw6_4 : chkM wl4 9 (w6 4) = true := by kernel_rfl
noncomputable def qw6_4 : PM := ⟨9, (w6 4), mk _ tw6_4⟩
theorem tw7_4 : chkM wl4 9 (w7 4) = true := by kernel_rfl
noncomputable def qw7_4 : PM := ⟨9, (w7 4), mk _ tw7_4⟩
theorem tw8_4 : chkM wl4 9 (w8 4) = true := by kernel_rfl
noncomputable def qw8_4 : PM := ⟨9, (w8 4), mk _ tw8_4⟩
theorem tw9_4 : chkM wl4 9 (w9 4) = true := by kernel_rfl
noncomputable def qw9_4 : PM := ⟨9, (w9 4), mk _ tw9_4⟩
theorem tw10_4 : chkM wl4 9 (w10 4) = true := by kernel_rfl
noncomputable def qw10_4 : PM := ⟨9, (w10 4), mk _ tw10_4⟩
theorem tw11_4 : chkM wl4 9 (w11 4) = true := by kernel_rfl
noncomputable def qw11_4 : PM := ⟨9, (w11 4), mk _ tw11_4⟩
theorem tw12_4 : chkM wl4 9 (w12 4) = true := by kernel_rfl
noncomputable def qw12_4 : PM := ⟨9, (w12 4), mk _ tw12_4⟩
theorem tw13_4 : chkM wl4 9 (w13 4) = true := by kernel_rfl
noncomputable def qw13_4 : PM := ⟨9, (w13 4), mk _ tw13_4⟩
theorem tw14_4 : chkM wl4 9 (w14 4) = true := by kernel_rfl
noncomputable def qw14_4 : PM := ⟨9, (w14 4), mk _ tw14_4⟩
theorem tw15_4 : chkM wl4 9 (w15 4) = true := by kernel_rfl
noncomputable def qw15_4 : PM := ⟨9, (w15 4), mk _ tw15_4⟩
theorem tw16_4 : chkM wl4 9 (w16 4) = true := by kernel_rfl
noncomputable def qw16_4 : PM := ⟨9, (w16 4), mk _ tw16_4⟩
theorem tw17_4 : chkM wl4 9 (w17 4) = true := by kernel_rfl
noncomputable def qw17_4 : PM := ⟨9, (w17 4), mk _ tw17_4⟩
theorem tw18_4 : chkM wl4 9 (w18 4) = true := by kernel_rfl
noncomputable def qw18_4 : PM := ⟨9, (w18 4), mk _ tw18_4⟩
theorem tw19_4 : chkM wl4 9 (w19 4) = true := by kernel_rfl
noncomputable def qw19_4 : PM := ⟨9, (w19 4), mk _ tw19_4⟩
theorem tw20_4 : chkM wl4 9 (w20 4) = true := by kernel_rfl
noncomputable def qw20_4 : PM := ⟨9, (w20 4), mk _ tw20_4⟩
theorem tw21_4 : chkM wl4 9 (w21 4) = true := by kernel_rfl
noncomputable def qw21_4 : PM := ⟨9, (w21 4), mk _ tw21_4⟩
theorem tw22_4 : chkM wl4 9 (w22 4) = true := by kernel_rfl
noncomputable def qw22_4 : PM := ⟨9, (w22 4), mk _ tw22_4⟩
theorem tw23_4 : chkM wl4 9 (w23 4) = true := by kernel_rfl
noncomputable def qw23_4 : PM := ⟨9, (w23 4), mk _ tw23_4⟩
theorem tw24_4 : chkM wl4 9 (w24 4) = true := by kernel_rfl
noncomputable def qw24_4 : PM := ⟨9, (w24 4), mk _ tw24_4⟩
theorem tw25_4 : chkM wl4 9 (w25 4) = true := by kernel_rfl
noncomputable def qw25_4 : PM := ⟨9, (w25 4), mk _ tw25_4⟩
theorem tw26_4 : chkM wl4 9 (w26 4) = true := by kernel_rfl
noncomputable def qw26_4 : PM := ⟨9, (w26 4), mk _ tw26_4⟩
theorem tw27_4 : chkM wl4 9 (w27 4) = true := by kernel_rfl
noncomputable def qw27_4 : PM := ⟨9, (w27 4), mk _ tw27_4⟩
theorem tw28_4 : chkM wl4 9 (w28 4) = true := by kernel_rfl
noncomputable def qw28_4 : PM := ⟨9, (w28 4), mk _ tw28_4⟩
theorem tw29_4 : chkM wl4 9 (w29 4) = true := by kernel_rfl
noncomputable def qw29_4 : PM := ⟨9, (w29 4), mk _ tw29_4⟩
theorem tw30_4 : chkM wl4 9 (w30 4) = true := by kernel_rfl
noncomputable def qw30_4 : PM := ⟨9, (w30 4), mk _ tw30_4⟩
theorem tw31_4 : chkM wl4 9 (w31 4) = true := by kernel_rfl
noncomputable def qw31_4 : PM := ⟨9, (w31 4), mk _ tw31_4⟩
theorem tw32_4 : chkM wl4 9 (w32 4) = true := by kernel_rfl
noncomputable def qw32_4 : PM := ⟨9, (w32 4), mk _ tw32_4⟩
theorem tw33_4 : chkM wl4 9 (w33 4) = true := by kernel_rfl
noncomputable def qw33_4 : PM := ⟨9, (w33 4), mk _ tw33_4⟩
theorem tw34_4 : chkM wl4 9 (w34 4) = true := by kernel_rfl
noncomputable def qw34_4 : PM := ⟨9, (w34 4), mk _ tw34_4⟩
theorem tw35_4 : chkM wl4 9 (w35 4) = true := by kernel_rfl
noncomputable def qw35_4 : PM := ⟨9, (w35 4), mk _ tw35_4⟩
theorem tw36_4 : chkM wl4 9 (w36 4) = true := by kernel_rfl
noncomputable def qw36_4 : PM := ⟨9, (w36 4), mk _ tw36_4⟩
theorem tw37_4 : chkM wl4 9 (w37 4) = true := by kernel_rfl
noncomputable def qw37_4 : PM := ⟨9, (w37 4), mk _ tw37_4⟩
theorem tw38_4 : chkM wl4 9 (w38 4) = true := by kernel_rfl
noncomputable def qw38_4 : PM := ⟨9, (w38 4), mk _ tw38_4⟩
theorem tw39_4 : chkM wl4 9 (w39 4) = true := by kernel_rfl
noncomputable def qw39_4 : PM := ⟨9, (w39 4), mk _ tw39_4⟩
theorem tw40_4 : chkM wl4 9 (w40 4) = true := by kernel_rfl
noncomputable def qw40_4 : PM := ⟨9, (w40 4), mk _ tw40_4⟩
theorem tw41_4 : chkM wl4 9 (w41 4) = true := by kernel_rfl
noncomputable def qw41_4 : PM := ⟨9, (w41 4), mk _ tw41_4⟩
theorem tw42_4 : chkM wl4 9 (w42 4) = true := by kernel_rfl
noncomputable def qw42_4 : PM := ⟨9, (w42 4), mk _ tw42_4⟩
end Go.Ab.Y

/- For every n and every engine, WorldProgresses returns true: the steps with engine 3. -/
import Derived.Test.YtogmkmomikjmiaaGreatDoorGa
import Derived.Test.YtogmkmomikjmiaaGreatDoorGb
import Derived.Test.YtogmkmomikjmiaaGreatDoorGc
import Derived.Test.YtogmkmomikjmiaaGreatDoorGd
import Derived.Test.YtogmkmomikjmiaaGreatDoorGe
import Derived.Test.YtogmkmomikjmiaaGreatDoorGf
import Derived.Test.YtogmkmomikjmiaaGreatDoorGg
import Derived.Test.YtogmkmomikjmiaaGreatDoorGh
import Derived.Test.YtogmkmomikjmiaaGreatDoorGi
import Derived.KernelRfl
set_option linter.all false
set_option maxRecDepth 1000000
namespace Go.Ab.Y
open Go Go.Ab Go.Ab.Cm Go.Proofs
noncomputable def wl3 : List PM := [q146, q145, q144, q127, q126, q125, q108, q107, q106, q89, q88, q87, q70, q69, q68, q51, q50, q49, q32, q31, q30, q6, q5, q4, q3, q2, q1, q162_3, q155_3, q143_3, q136_3, q124_3, q117_3, q105_3, q98_3, q86_3, q79_3, q67_3, q60_3, q48_3, q41_3, q29_3, q22_3, q13_3]
theorem tw2_3 : chkM wl3 9 (w2 3) = true := by kernel_rfl
noncomputable def qw2_3 : PM := ⟨9, (w2 3), mk _ tw2_3⟩
theorem tw3_3 : chkM wl3 9 (w3 3) = true := by kernel_rfl
noncomputable def qw3_3 : PM := ⟨9, (w3 3), mk _ tw3_3⟩
theorem tw4_3 : chkM wl3 9 (w4 3) = true := by kernel_rfl
noncomputable def qw4_3 : PM := ⟨9, (w4 3), mk _ tw4_3⟩
theorem tw5_3 : chkM wl3 9 (w5 3) = true := by kernel_rfl
noncomputable def qw5_3 : PM := ⟨9, (w5 3), mk _ tw5_3⟩
theorem tw6_3 : chkM wl3 9 (w6 3) = true := by kernel_rfl
noncomputable def qw6_3 : PM := ⟨9, (w6 3), mk _ tw6_3⟩
theorem tw7_3 : chkM wl3 9 (w7 3) = true := by kernel_rfl
noncomputable def qw7_3 : PM := ⟨9, (w7 3), mk _ tw7_3⟩
theorem tw8_3 : chkM wl3 9 (w8 3) = true := by kernel_rfl
noncomputable def qw8_3 : PM := ⟨9, (w8 3), mk _ tw8_3⟩
theorem tw9_3 : chkM wl3 9 (w9 3) = true := by kernel_rfl
noncomputable def qw9_3 : PM := ⟨9, (w9 3), mk _ tw9_3⟩
theorem tw10_3 : chkM wl3 9 (w10 3) = true := by kernel_rfl
noncomputable def qw10_3 : PM := ⟨9, (w10 3), mk _ tw10_3⟩
theorem tw11_3 : chkM wl3 9 (w11 3) = true := by kernel_rfl
noncomputable def qw11_3 : PM := ⟨9, (w11 3), mk _ tw11_3⟩
theorem tw12_3 : chkM wl3 9 (w12 3) = true := by kernel_rfl
noncomputable def qw12_3 : PM := ⟨9, (w12 3), mk _ tw12_3⟩
theorem tw13_3 : chkM wl3 9 (w13 3) = true := by kernel_rfl
noncomputable def qw13_3 : PM := ⟨9, (w13 3), mk _ tw13_3⟩
theorem tw14_3 : chkM wl3 9 (w14 3) = true := by kernel_rfl
noncomputable def qw14_3 : PM := ⟨9, (w14 3), mk _ tw14_3⟩
theorem tw15_3 : chkM wl3 9 (w15 3) = true := by kernel_rfl
noncomputable def qw15_3 : PM := ⟨9, (w15 3), mk _ tw15_3⟩
theorem tw16_3 : chkM wl3 9 (w16 3) = true := by kernel_rfl
noncomputable def qw16_3 : PM := ⟨9, (w16 3), mk _ tw16_3⟩
theorem tw17_3 : chkM wl3 9 (w17 3) = true := by kernel_rfl
noncomputable def qw17_3 : PM := ⟨9, (w17 3), mk _ tw17_3⟩
theorem tw18_3 : chkM wl3 9 (w18 3) = true := by kernel_rfl
noncomputable def qw18_3 : PM := ⟨9, (w18 3), mk _ tw18_3⟩
theorem tw19_3 : chkM wl3 9 (w19 3) = true := by kernel_rfl
noncomputable def qw19_3 : PM := ⟨9, (w19 3), mk _ tw19_3⟩
theorem tw20_3 : chkM wl3 9 (w20 3) = true := by kernel_rfl
noncomputable def qw20_3 : PM := ⟨9, (w20 3), mk _ tw20_3⟩
theorem tw21_3 : chkM wl3 9 (w21 3) = true := by kernel_rfl
noncomputable def qw21_3 : PM := ⟨9, (w21 3), mk _ tw21_3⟩
theorem tw22_3 : chkM wl3 9 (w22 3) = true := by kernel_rfl
noncomputable def qw22_3 : PM := ⟨9, (w22 3), mk _ tw22_3⟩
theorem tw23_3 : chkM wl3 9 (w23 3) = true := by kernel_rfl
noncomputable def qw23_3 : PM := ⟨9, (w23 3), mk _ tw23_3⟩
theorem tw24_3 : chkM wl3 9 (w24 3) = true := by kernel_rfl
noncomputable def qw24_3 : PM := ⟨9, (w24 3), mk _ tw24_3⟩
theorem tw25_3 : chkM wl3 9 (w25 3) = true := by kernel_rfl
noncomputable def qw25_3 : PM := ⟨9, (w25 3), mk _ tw25_3⟩
theorem tw26_3 : chkM wl3 9 (w26 3) = true := by kernel_rfl
noncomputable def qw26_3 : PM := ⟨9, (w26 3), mk _ tw26_3⟩
theorem tw27_3 : chkM wl3 9 (w27 3) = true := by kernel_rfl
noncomputable def qw27_3 : PM := ⟨9, (w27 3), mk _ tw27_3⟩
theorem tw28_3 : chkM wl3 9 (w28 3) = true := by kernel_rfl
noncomputable def qw28_3 : PM := ⟨9, (w28 3), mk _ tw28_3⟩
theorem tw29_3 : chkM wl3 9 (w29 3) = true := by kernel_rfl
noncomputable def qw29_3 : PM := ⟨9, (w29 3), mk _ tw29_3⟩
theorem tw30_3 : chkM wl3 9 (w30 3) = true := by kernel_rfl
noncomputable def qw30_3 : PM := ⟨9, (w30 3), mk _ tw30_3⟩
theorem tw31_3 : chkM wl3 9 (w31 3) = true := by kernel_rfl
noncomputable def qw31_3 : PM := ⟨9, (w31 3), mk _ tw31_3⟩
theorem tw32_3 : chkM wl3 9 (w32 3) = true := by kernel_rfl
noncomputable def qw32_3 : PM := ⟨9, (w32 3), mk _ tw32_3⟩
theorem tw33_3 : chkM wl3 9 (w33 3) = true := by kernel_rfl
noncomputable def qw33_3 : PM := ⟨9, (w33 3), mk _ tw33_3⟩
theorem tw34_3 : chkM wl3 9 (w34 3) = true := by kernel_rfl
noncomputable def qw34_3 : PM := ⟨9, (w34 3), mk _ tw34_3⟩
theorem tw35_3 : chkM wl3 9 (w35 3) = true := by kernel_rfl
noncomputable def qw35_3 : PM := ⟨9, (w35 3), mk _ tw35_3⟩
theorem tw36_3 : chkM wl3 9 (w36 3) = true := by kernel_rfl
noncomputable def qw36_3 : PM := ⟨9, (w36 3), mk _ tw36_3⟩
theorem tw37_3 : chkM wl3 9 (w37 3) = true := by kernel_rfl
noncomputable def qw37_3 : PM := ⟨9, (w37 3), mk _ tw37_3⟩
theorem tw38_3 : chkM wl3 9 (w38 3) = true := by kernel_rfl
noncomputable def qw38_3 : PM := ⟨9, (w38 3), mk _ tw38_3⟩
theorem tw39_3 : chkM wl3 9 (w39 3) = true := by kernel_rfl
noncomputable def qw39_3 : PM := ⟨9, (w39 3), mk _ tw39_3⟩
theorem tw40_3 : chkM wl3 9 (w40 3) = true := by kernel_rfl
noncomputable def qw40_3 : PM := ⟨9, (w40 3), mk _ tw40_3⟩
theorem tw41_3 : chkM wl3 9 (w41 3) = true := by kernel_rfl
noncomputable def qw41_3 : PM := ⟨9, (w41 3), mk _ tw41_3⟩
theorem tw42_3 : chkM wl3 9 (w42 3) = true := by kernel_rfl
noncomputable def qw42_3 : PM := ⟨9, (w42 3), mk _ tw42_3⟩
end Go.Ab.Y

/- For every n and every engine, WorldProgresses returns true: the steps with engine 2. -/
import Derived.Test.YtogmkmomikjmiaaGreatDoorGa
import Derived.Test.YtogmkmomikjmiaaGreatDoorGb
import Derived.Test.YtogmkmomikjmiaaGreatDoorGc
import Derived.Test.YtogmkmomikjmiaaGreatDoorGd
import Derived.Test.YtogmkmomikjmiaaGreatDoorGe
import Derived.Test.YtogmkmomikjmiaaGreatDoorGf
import Derived.Test.YtogmkmomikjmiaaGreatDoorGg
import Derived.Test.YtogmkmomikjmiaaGreatDoorGh
import Derived.Test.YtogmkmomikjmiaaGreatDoorGi
import Derived.KernelRfl
set_option linter.all false
set_option maxRecDepth 1000000
namespace Go.Ab.Y
open Go Go.Ab Go.Ab.Cm Go.Proofs
noncomputable def wl2 : List PM := [q146, q145, q144, q127, q126, q125, q108, q107, q106, q89, q88, q87, q70, q69, q68, q51, q50, q49, q32, q31, q30, q6, q5, q4, q3, q2, q1, q162_2, q155_2, q143_2, q136_2, q124_2, q117_2, q105_2, q98_2, q86_2, q79_2, q67_2, q60_2, q48_2, q41_2, q29_2, q22_2, q13_2]
theorem tw2_2 : chkM wl2 9 (w2 2) = true := by kernel_rfl
noncomputable def qw2_2 : PM := ⟨9, (w2 2), mk _ tw2_2⟩
theorem tw3_2 : chkM wl2 9 (w3 2) = true := by kernel_rfl
noncomputable def qw3_2 : PM := ⟨9, (w3 2), mk _ tw3_2⟩
theorem tw4_2 : chkM wl2 9 (w4 2) = true := by kernel_rfl
noncomputable def qw4_2 : PM := ⟨9, (w4 2), mk _ tw4_2⟩
theorem tw5_2 : chkM wl2 9 (w5 2) = true := by kernel_rfl
noncomputable def qw5_2 : PM := ⟨9, (w5 2), mk _ tw5_2⟩
theorem tw6_2 : chkM wl2 9 (w6 2) = true := by kernel_rfl
noncomputable def qw6_2 : PM := ⟨9, (w6 2), mk _ tw6_2⟩
theorem tw7_2 : chkM wl2 9 (w7 2) = true := by kernel_rfl
noncomputable def qw7_2 : PM := ⟨9, (w7 2), mk _ tw7_2⟩
theorem tw8_2 : chkM wl2 9 (w8 2) = true := by kernel_rfl
noncomputable def qw8_2 : PM := ⟨9, (w8 2), mk _ tw8_2⟩
theorem tw9_2 : chkM wl2 9 (w9 2) = true := by kernel_rfl
noncomputable def qw9_2 : PM := ⟨9, (w9 2), mk _ tw9_2⟩
theorem tw10_2 : chkM wl2 9 (w10 2) = true := by kernel_rfl
noncomputable def qw10_2 : PM := ⟨9, (w10 2), mk _ tw10_2⟩
theorem tw11_2 : chkM wl2 9 (w11 2) = true := by kernel_rfl
noncomputable def qw11_2 : PM := ⟨9, (w11 2), mk _ tw11_2⟩
theorem tw12_2 : chkM wl2 9 (w12 2) = true := by kernel_rfl
noncomputable def qw12_2 : PM := ⟨9, (w12 2), mk _ tw12_2⟩
theorem tw13_2 : chkM wl2 9 (w13 2) = true := by kernel_rfl
noncomputable def qw13_2 : PM := ⟨9, (w13 2), mk _ tw13_2⟩
theorem tw14_2 : chkM wl2 9 (w14 2) = true := by kernel_rfl
noncomputable def qw14_2 : PM := ⟨9, (w14 2), mk _ tw14_2⟩
theorem tw15_2 : chkM wl2 9 (w15 2) = true := by kernel_rfl
noncomputable def qw15_2 : PM := ⟨9, (w15 2), mk _ tw15_2⟩
theorem tw16_2 : chkM wl2 9 (w16 2) = true := by kernel_rfl
noncomputable def qw16_2 : PM := ⟨9, (w16 2), mk _ tw16_2⟩
theorem tw17_2 : chkM wl2 9 (w17 2) = true := by kernel_rfl
noncomputable def qw17_2 : PM := ⟨9, (w17 2), mk _ tw17_2⟩
theorem tw18_2 : chkM wl2 9 (w18 2) = true := by kernel_rfl
noncomputable def qw18_2 : PM := ⟨9, (w18 2), mk _ tw18_2⟩
theorem tw19_2 : chkM wl2 9 (w19 2) = true := by kernel_rfl
noncomputable def qw19_2 : PM := ⟨9, (w19 2), mk _ tw19_2⟩
theorem tw20_2 : chkM wl2 9 (w20 2) = true := by kernel_rfl
noncomputable def qw20_2 : PM := ⟨9, (w20 2), mk _ tw20_2⟩
theorem tw21_2 : chkM wl2 9 (w21 2) = true := by kernel_rfl
noncomputable def qw21_2 : PM := ⟨9, (w21 2), mk _ tw21_2⟩
theorem tw22_2 : chkM wl2 9 (w22 2) = true := by kernel_rfl
noncomputable def qw22_2 : PM := ⟨9, (w22 2), mk _ tw22_2⟩
theorem tw23_2 : chkM wl2 9 (w23 2) = true := by kernel_rfl
noncomputable def qw23_2 : PM := ⟨9, (w23 2), mk _ tw23_2⟩
theorem tw24_2 : chkM wl2 9 (w24 2) = true := by kernel_rfl
noncomputable def qw24_2 : PM := ⟨9, (w24 2), mk _ tw24_2⟩
theorem tw25_2 : chkM wl2 9 (w25 2) = true := by kernel_rfl
noncomputable def qw25_2 : PM := ⟨9, (w25 2), mk _ tw25_2⟩
theorem tw26_2 : chkM wl2 9 (w26 2) = true := by kernel_rfl
noncomputable def qw26_2 : PM := ⟨9, (w26 2), mk _ tw26_2⟩
theorem tw27_2 : chkM wl2 9 (w27 2) = true := by kernel_rfl
noncomputable def qw27_2 : PM := ⟨9, (w27 2), mk _ tw27_2⟩
theorem tw28_2 : chkM wl2 9 (w28 2) = true := by kernel_rfl
noncomputable def qw28_2 : PM := ⟨9, (w28 2), mk _ tw28_2⟩
theorem tw29_2 : chkM wl2 9 (w29 2) = true := by kernel_rfl
noncomputable def qw29_2 : PM := ⟨9, (w29 2), mk _ tw29_2⟩
theorem tw30_2 : chkM wl2 9 (w30 2) = true := by kernel_rfl
noncomputable def qw30_2 : PM := ⟨9, (w30 2), mk _ tw30_2⟩
theorem tw31_2 : chkM wl2 9 (w31 2) = true := by kernel_rfl
noncomputable def qw31_2 : PM := ⟨9, (w31 2), mk _ tw31_2⟩
theorem tw32_2 : chkM wl2 9 (w32 2) = true := by kernel_rfl
noncomputable def qw32_2 : PM := ⟨9, (w32 2), mk _ tw32_2⟩
theorem tw33_2 : chkM wl2 9 (w33 2) = true := by kernel_rfl
noncomputable def qw33_2 : PM := ⟨9, (w33 2), mk _ tw33_2⟩
theorem tw34_2 : chkM wl2 9 (w34 2) = true := by kernel_rfl
noncomputable def qw34_2 : PM := ⟨9, (w34 2), mk _ tw34_2⟩
theorem tw35_2 : chkM wl2 9 (w35 2) = true := by kernel_rfl
noncomputable def qw35_2 : PM := ⟨9, (w35 2), mk _ tw35_2⟩
theorem tw36_2 : chkM wl2 9 (w36 2) = true := by kernel_rfl
noncomputable def qw36_2 : PM := ⟨9, (w36 2), mk _ tw36_2⟩
theorem tw37_2 : chkM wl2 9 (w37 2) = true := by kernel_rfl
noncomputable def qw37_2 : PM := ⟨9, (w37 2), mk _ tw37_2⟩
theorem tw38_2 : chkM wl2 9 (w38 2) = true := by kernel_rfl
noncomputable def qw38_2 : PM := ⟨9, (w38 2), mk _ tw38_2⟩
theorem tw39_2 : chkM wl2 9 (w39 2) = true := by kernel_rfl
noncomputable def qw39_2 : PM := ⟨9, (w39 2), mk _ tw39_2⟩
theorem tw40_2 : chkM wl2 9 (w40 2) = true := by kernel_rfl
noncomputable def qw40_2 : PM := ⟨9, (w40 2), mk _ tw40_2⟩
theorem tw41_2 : chkM wl2 9 (w41 2) = true := by kernel_rfl
noncomputable def qw41_2 : PM := ⟨9, (w41 2), mk _ tw41_2⟩
theorem tw42_2 : chkM wl2 9 (w42 2) = true := by kernel_rfl
noncomputable def qw42_2 : PM := ⟨9, (w42 2), mk _ tw42_2⟩
end Go.Ab.Y

/- For every n and every engine, WorldProgresses returns true: the steps with engine 0. -/
import Derived.Test.YtogmkmomikjmiaaGreatDoorGa
import Derived.Test.YtogmkmomikjmiaaGreatDoorGb
import Derived.Test.YtogmkmomikjmiaaGreatDoorGc
import Derived.Test.YtogmkmomikjmiaaGreatDoorGd
import Derived.Test.YtogmkmomikjmiaaGreatDoorGe
import Derived.Test.YtogmkmomikjmiaaGreatDoorGf
import Derived.Test.YtogmkmomikjmiaaGreatDoorGg
import Derived.Test.YtogmkmomikjmiaaGreatDoorGh
import Derived.Test.YtogmkmomikjmiaaGreatDoorGi
import Derived.KernelRfl
set_option linter.all false
set_option maxRecDepth 1000000
namespace Go.Ab.Y
open Go Go.Ab Go.Ab.Cm Go.Proofs
noncomputable def wl0 : List PM := [q146, q145, q144, q127, q126, q125, q108, q107, q106, q89, q88, q87, q70, q69, q68, q51, q50, q49, q32, q31, q30, q6, q5, q4, q3, q2, q1, q162_0, q155_0, q143_0, q136_0, q124_0, q117_0, q105_0, q98_0, q86_0, q79_0, q67_0, q60_0, q48_0, q41_0, q29_0, q22_0, q13_0]
theorem tw0 : chkM wl0 9 w0 = true := by kernel_rfl
noncomputable def qw0 : PM := ⟨9, w0, mk _ tw0⟩
theorem tw1 : chkM wl0 9 w1 = true := by kernel_rfl
noncomputable def qw1 : PM := ⟨9, w1, mk _ tw1⟩
theorem tw2_0 : chkM wl0 9 (w2 0) = true := by kernel_rfl
noncomputable def qw2_0 : PM := ⟨9, (w2 0), mk _ tw2_0⟩
theorem tw3_0 : chkM wl0 9 (w3 0) = true := by kernel_rfl
noncomputable def qw3_0 : PM := ⟨9, (w3 0), mk _ tw3_0⟩
theorem tw4_0 : chkM wl0 9 (w4 0) = true := by kernel_rfl
noncomputable def qw4_0 : PM := ⟨9, (w4 0), mk _ tw4_0⟩
theorem tw5_0 : chkM wl0 9 (w5 0) = true := by kernel_rfl
noncomputable def qw5_0 : PM := ⟨9, (w5 0), mk _ tw5_0⟩
theorem tw6_0 : chkM wl0 9 (w6 0) = true := by kernel_rfl
noncomputable def qw6_0 : PM := ⟨9, (w6 0), mk _ tw6_0⟩
theorem tw7_0 : chkM wl0 9 (w7 0) = true := by kernel_rfl
noncomputable def qw7_0 : PM := ⟨9, (w7 0), mk _ tw7_0⟩
theorem tw8_0 : chkM wl0 9 (w8 0) = true := by kernel_rfl
noncomputable def qw8_0 : PM := ⟨9, (w8 0), mk _ tw8_0⟩
theorem tw9_0 : chkM wl0 9 (w9 0) = true := by kernel_rfl
noncomputable def qw9_0 : PM := ⟨9, (w9 0), mk _ tw9_0⟩
theorem tw10_0 : chkM wl0 9 (w10 0) = true := by kernel_rfl
noncomputable def qw10_0 : PM := ⟨9, (w10 0), mk _ tw10_0⟩
theorem tw11_0 : chkM wl0 9 (w11 0) = true := by kernel_rfl
noncomputable def qw11_0 : PM := ⟨9, (w11 0), mk _ tw11_0⟩
theorem tw12_0 : chkM wl0 9 (w12 0) = true := by kernel_rfl
noncomputable def qw12_0 : PM := ⟨9, (w12 0), mk _ tw12_0⟩
theorem tw13_0 : chkM wl0 9 (w13 0) = true := by kernel_rfl
noncomputable def qw13_0 : PM := ⟨9, (w13 0), mk _ tw13_0⟩
theorem tw14_0 : chkM wl0 9 (w14 0) = true := by kernel_rfl
noncomputable def qw14_0 : PM := ⟨9, (w14 0), mk _ tw14_0⟩
theorem tw15_0 : chkM wl0 9 (w15 0) = true := by kernel_rfl
noncomputable def qw15_0 : PM := ⟨9, (w15 0), mk _ tw15_0⟩
theorem tw16_0 : chkM wl0 9 (w16 0) = true := by kernel_rfl
noncomputable def qw16_0 : PM := ⟨9, (w16 0), mk _ tw16_0⟩
theorem tw17_0 : chkM wl0 9 (w17 0) = true := by kernel_rfl
noncomputable def qw17_0 : PM := ⟨9, (w17 0), mk _ tw17_0⟩
theorem tw18_0 : chkM wl0 9 (w18 0) = true := by kernel_rfl
noncomputable def qw18_0 : PM := ⟨9, (w18 0), mk _ tw18_0⟩
theorem tw19_0 : chkM wl0 9 (w19 0) = true := by kernel_rfl
noncomputable def qw19_0 : PM := ⟨9, (w19 0), mk _ tw19_0⟩
theorem tw20_0 : chkM wl0 9 (w20 0) = true := by kernel_rfl
noncomputable def qw20_0 : PM := ⟨9, (w20 0), mk _ tw20_0⟩
theorem tw21_0 : chkM wl0 9 (w21 0) = true := by kernel_rfl
noncomputable def qw21_0 : PM := ⟨9, (w21 0), mk _ tw21_0⟩
theorem tw22_0 : chkM wl0 9 (w22 0) = true := by kernel_rfl
noncomputable def qw22_0 : PM := ⟨9, (w22 0), mk _ tw22_0⟩
theorem tw23_0 : chkM wl0 9 (w23 0) = true := by kernel_rfl
noncomputable def qw23_0 : PM := ⟨9, (w23 0), mk _ tw23_0⟩
theorem tw24_0 : chkM wl0 9 (w24 0) = true := by kernel_rfl
noncomputable def qw24_0 : PM := ⟨9, (w24 0), mk _ tw24_0⟩
theorem tw25_0 : chkM wl0 9 (w25 0) = true := by kernel_rfl
noncomputable def qw25_0 : PM := ⟨9, (w25 0), mk _ tw25_0⟩
theorem tw26_0 : chkM wl0 9 (w26 0) = true := by kernel_rfl
noncomputable def qw26_0 : PM := ⟨9, (w26 0), mk _ tw26_0⟩
theorem tw27_0 : chkM wl0 9 (w27 0) = true := by kernel_rfl
noncomputable def qw27_0 : PM := ⟨9, (w27 0), mk _ tw27_0⟩
theorem tw28_0 : chkM wl0 9 (w28 0) = true := by kernel_rfl
noncomputable def qw28_0 : PM := ⟨9, (w28 0), mk _ tw28_0⟩
theorem tw29_0 : chkM wl0 9 (w29 0) = true := by kernel_rfl
noncomputable def qw29_0 : PM := ⟨9, (w29 0), mk _ tw29_0⟩
theorem tw30_0 : chkM wl0 9 (w30 0) = true := by kernel_rfl
noncomputable def qw30_0 : PM := ⟨9, (w30 0), mk _ tw30_0⟩
theorem tw31_0 : chkM wl0 9 (w31 0) = true := by kernel_rfl
noncomputable def qw31_0 : PM := ⟨9, (w31 0), mk _ tw31_0⟩
theorem tw32_0 : chkM wl0 9 (w32 0) = true := by kernel_rfl
noncomputable def qw32_0 : PM := ⟨9, (w32 0), mk _ tw32_0⟩
theorem tw33_0 : chkM wl0 9 (w33 0) = true := by kernel_rfl
noncomputable def qw33_0 : PM := ⟨9, (w33 0), mk _ tw33_0⟩
theorem tw34_0 : chkM wl0 9 (w34 0) = true := by kernel_rfl
noncomputable def qw34_0 : PM := ⟨9, (w34 0), mk _ tw34_0⟩
theorem tw35_0 : chkM wl0 9 (w35 0) = true := by kernel_rfl
noncomputable def qw35_0 : PM := ⟨9, (w35 0), mk _ tw35_0⟩
theorem tw36_0 : chkM wl0 9 (w36 0) = true := by kernel_rfl
noncomputable def qw36_0 : PM := ⟨9, (w36 0), mk _ tw36_0⟩
theorem tw37_0 : chkM wl0 9 (w37 0) = true := by kernel_rfl
noncomputable def qw37_0 : PM := ⟨9, (w37 0), mk _ tw37_0⟩
theorem tw38_0 : chkM wl0 9 (w38 0) = true := by kernel_rfl
noncomputable def qw38_0 : PM := ⟨9, (w38 0), mk _ tw38_0⟩
theorem tw39_0 : chkM wl0 9 (w39 0) = true := by kernel_rfl
noncomputable def qw39_0 : PM := ⟨9, (w39 0), mk _ tw39_0⟩
theorem tw40_0 : chkM wl0 9 (w40 0) = true := by kernel_rfl
noncomputable def qw40_0 : PM := ⟨9, (w40 0), mk _ tw40_0⟩
theorem tw41_0 : chkM wl0 9 (w41 0) = true := by kernel_rfl
noncomputable def qw41_0 : PM := ⟨9, (w41 0), mk _ tw41_0⟩
theorem tw42_0 : chkM wl0 9 (w42 0) = true := by kernel_rfl
noncomputable def qw42_0 : PM := ⟨9, (w42 0), mk _ tw42_0⟩
end Go.Ab.Y

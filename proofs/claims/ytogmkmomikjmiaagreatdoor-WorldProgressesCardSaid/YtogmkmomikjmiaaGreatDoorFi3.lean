/- For every n and every engine, WorldProgresses returns true: the runs with engine 3. -/
import Derived.Test.YtogmkmomikjmiaaGreatDoorWd3
import Derived.Test.YtogmkmomikjmiaaGreatDoorWd0
import Derived.Test.YtogmkmomikjmiaaGreatDoorFin
import Derived.Test.YtogmkmomikjmiaaGreatDoorGz
import Derived.KernelRfl
set_option linter.all false
set_option maxRecDepth 1000000
namespace Go.Ab.Y
open Go Go.Ab Go.Ab.Cm Go.Proofs
noncomputable def fl3 : List PM := [q0, qx5, qw0, qw1, qw2_3, qw3_3, qw4_3, qw5_3, qw6_3, qw7_3, qw8_3, qw9_3, qw10_3, qw11_3, qw12_3, qw13_3, qw14_3, qw15_3, qw16_3, qw17_3, qw18_3, qw19_3, qw20_3, qw21_3, qw22_3, qw23_3, qw24_3, qw25_3, qw26_3, qw27_3, qw28_3, qw29_3, qw30_3, qw31_3, qw32_3, qw33_3, qw34_3, qw35_3, qw36_3, qw37_3, qw38_3, qw39_3, qw40_3, qw41_3, qw42_3]
theorem z0_3 : okR (ev fl3 95 k4 (sE 0 3).s) = true := by kernel_rfl
theorem z1_3 : okR (ev fl3 95 k4 (sE 1 3).s) = true := by kernel_rfl
theorem z2_3 : okR (ev fl3 95 k4 (sE 2 3).s) = true := by kernel_rfl
theorem z3_3 : okR (ev fl3 95 k4 (sE 3 3).s) = true := by kernel_rfl
theorem z4_3 : okR (ev fl3 95 k4 (sE 4 3).s) = true := by kernel_rfl
theorem z5_3 : okR (ev fl3 95 k4 (sE 5 3).s) = true := by kernel_rfl
theorem z6_3 : okR (ev fl3 95 k4 (sE 6 3).s) = true := by kernel_rfl
theorem z7_3 : okR (ev fl3 95 k4 (sE 7 3).s) = true := by kernel_rfl
theorem z8_3 : okR (ev fl3 95 k4 (sE 8 3).s) = true := by kernel_rfl
theorem fi3 : ∀ c, c < 9 → ∃ s2, SndP PP 95 k4 (sE c 3).s (.ret s2) ∧ s2.env.at' 4 = some (.bool true)
  | 0, _ => fin_of fl3 z0_3
  | 1, _ => fin_of fl3 z1_3
  | 2, _ => fin_of fl3 z2_3
  | 3, _ => fin_of fl3 z3_3
  | 4, _ => fin_of fl3 z4_3
  | 5, _ => fin_of fl3 z5_3
  | 6, _ => fin_of fl3 z6_3
  | 7, _ => fin_of fl3 z7_3
  | 8, _ => fin_of fl3 z8_3
  | c + 9, h => absurd h (by omega)
end Go.Ab.Y

/- For every n and every engine, WorldProgresses returns true: the runs with engine 2. -/
import Derived.Test.YtogmkmomikjmiaaGreatDoorWd2
import Derived.Test.YtogmkmomikjmiaaGreatDoorWd0
import Derived.Test.YtogmkmomikjmiaaGreatDoorFin
import Derived.Test.YtogmkmomikjmiaaGreatDoorGz
import Derived.KernelRfl
set_option linter.all false
set_option maxRecDepth 1000000
namespace Go.Ab.Y
open Go Go.Ab Go.Ab.Cm Go.Proofs
noncomputable def fl2 : List PM := [q0, qx5, qw0, qw1, qw2_2, qw3_2, qw4_2, qw5_2, qw6_2, qw7_2, qw8_2, qw9_2, qw10_2, qw11_2, qw12_2, qw13_2, qw14_2, qw15_2, qw16_2, qw17_2, qw18_2, qw19_2, qw20_2, qw21_2, qw22_2, qw23_2, qw24_2, qw25_2, qw26_2, qw27_2, qw28_2, qw29_2, qw30_2, qw31_2, qw32_2, qw33_2, qw34_2, qw35_2, qw36_2, qw37_2, qw38_2, qw39_2, qw40_2, qw41_2, qw42_2]
theorem z0_2 : okR (ev fl2 95 k4 (sE 0 2).s) = true := by kernel_rfl
theorem z1_2 : okR (ev fl2 95 k4 (sE 1 2).s) = true := by kernel_rfl
theorem z2_2 : okR (ev fl2 95 k4 (sE 2 2).s) = true := by kernel_rfl
theorem z3_2 : okR (ev fl2 95 k4 (sE 3 2).s) = true := by kernel_rfl
theorem z4_2 : okR (ev fl2 95 k4 (sE 4 2).s) = true := by kernel_rfl
theorem z5_2 : okR (ev fl2 95 k4 (sE 5 2).s) = true := by kernel_rfl
theorem z6_2 : okR (ev fl2 95 k4 (sE 6 2).s) = true := by kernel_rfl
theorem z7_2 : okR (ev fl2 95 k4 (sE 7 2).s) = true := by kernel_rfl
theorem z8_2 : okR (ev fl2 95 k4 (sE 8 2).s) = true := by kernel_rfl
theorem fi2 : ∀ c, c < 9 → ∃ s2, SndP PP 95 k4 (sE c 2).s (.ret s2) ∧ s2.env.at' 4 = some (.bool true)
  | 0, _ => fin_of fl2 z0_2
  | 1, _ => fin_of fl2 z1_2
  | 2, _ => fin_of fl2 z2_2
  | 3, _ => fin_of fl2 z3_2
  | 4, _ => fin_of fl2 z4_2
  | 5, _ => fin_of fl2 z5_2
  | 6, _ => fin_of fl2 z6_2
  | 7, _ => fin_of fl2 z7_2
  | 8, _ => fin_of fl2 z8_2
  | c + 9, h => absurd h (by omega)
end Go.Ab.Y

/- For every n and every engine, WorldProgresses returns true: the runs with engine 1. -/
import Derived.Test.YtogmkmomikjmiaaGreatDoorWd1
import Derived.Test.YtogmkmomikjmiaaGreatDoorWd0
import Derived.Test.YtogmkmomikjmiaaGreatDoorFin
import Derived.Test.YtogmkmomikjmiaaGreatDoorGz
import Derived.KernelRfl
set_option linter.all false
set_option maxRecDepth 1000000
namespace Go.Ab.Y
open Go Go.Ab Go.Ab.Cm Go.Proofs
noncomputable def fl1 : List PM := [q0, qx5, qw0, qw1, qw2_1, qw3_1, qw4_1, qw5_1, qw6_1, qw7_1, qw8_1, qw9_1, qw10_1, qw11_1, qw12_1, qw13_1, qw14_1, qw15_1, qw16_1, qw17_1, qw18_1, qw19_1, qw20_1, qw21_1, qw22_1, qw23_1, qw24_1, qw25_1, qw26_1, qw27_1, qw28_1, qw29_1, qw30_1, qw31_1, qw32_1, qw33_1, qw34_1, qw35_1, qw36_1, qw37_1, qw38_1, qw39_1, qw40_1, qw41_1, qw42_1]
theorem z0_1 : okR (ev fl1 95 k4 (sE 0 1).s) = true := by kernel_rfl
theorem z1_1 : okR (ev fl1 95 k4 (sE 1 1).s) = true := by kernel_rfl
theorem z2_1 : okR (ev fl1 95 k4 (sE 2 1).s) = true := by kernel_rfl
theorem z3_1 : okR (ev fl1 95 k4 (sE 3 1).s) = true := by kernel_rfl
theorem z4_1 : okR (ev fl1 95 k4 (sE 4 1).s) = true := by kernel_rfl
theorem z5_1 : okR (ev fl1 95 k4 (sE 5 1).s) = true := by kernel_rfl
theorem z6_1 : okR (ev fl1 95 k4 (sE 6 1).s) = true := by kernel_rfl
theorem z7_1 : okR (ev fl1 95 k4 (sE 7 1).s) = true := by kernel_rfl
theorem z8_1 : okR (ev fl1 95 k4 (sE 8 1).s) = true := by kernel_rfl
theorem fi1 : ∀ c, c < 9 → ∃ s2, SndP PP 95 k4 (sE c 1).s (.ret s2) ∧ s2.env.at' 4 = some (.bool true)
  | 0, _ => fin_of fl1 z0_1
  | 1, _ => fin_of fl1 z1_1
  | 2, _ => fin_of fl1 z2_1
  | 3, _ => fin_of fl1 z3_1
  | 4, _ => fin_of fl1 z4_1
  | 5, _ => fin_of fl1 z5_1
  | 6, _ => fin_of fl1 z6_1
  | 7, _ => fin_of fl1 z7_1
  | 8, _ => fin_of fl1 z8_1
  | c + 9, h => absurd h (by omega)
end Go.Ab.Y

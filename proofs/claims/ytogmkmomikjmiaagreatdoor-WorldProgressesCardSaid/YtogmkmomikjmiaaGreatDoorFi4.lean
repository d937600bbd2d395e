/- For every n and every engine, WorldProgresses returns true: the runs with engine 4. -/
import Derived.Test.YtogmkmomikjmiaaGreatDoorWd4
import Derived.Test.YtogmkmomikjmiaaGreatDoorWd0
import Derived.Test.YtogmkmomikjmiaaGreatDoorFin
import Derived.Test.YtogmkmomikjmiaaGreatDoorGz
import Derived.KernelRfl
set_option linter.all false
set_option maxRecDepth 1000000
namespace Go.Ab.Y
open Go Go.Ab Go.Ab.Cm Go.Proofs
noncomputable def fl4 : List PM := [q0, qx5, qw0, qw1, qw2_4, qw3_4, qw4_4, qw5_4, qw6_4, qw7_4, qw8_4, qw9_4, qw10_4, qw11_4, qw12_4, qw13_4, qw14_4, qw15_4, qw16_4, qw17_4, qw18_4, qw19_4, qw20_4, qw21_4, qw22_4, qw23_4, qw24_4, qw25_4, qw26_4, qw27_4, qw28_4, qw29_4, qw30_4, qw31_4, qw32_4, qw33_4, qw34_4, qw35_4, qw36_4, qw37_4, qw38_4, qw39_4, qw40_4, qw41_4, qw42_4]
theorem z0_4 : okR (ev fl4 95 k4 (sE 0 4).s) = true := by kernel_rfl
theorem z1_4 : okR (ev fl4 95 k4 (sE 1 4).s) = true := by kernel_rfl
theorem z2_4 : okR (ev fl4 95 k4 (sE 2 4).s) = true := by kernel_rfl
theorem z3_4 : okR (ev fl4 95 k4 (sE 3 4).s) = true := by kernel_rfl
theorem z4_4 : okR (ev fl4 95 k4 (sE 4 4).s) = true := by kernel_rfl
theorem z5_4 : okR (ev fl4 95 k4 (sE 5 4).s) = true := by kernel_rfl
theorem z6_4 : okR (ev fl4 95 k4 (sE 6 4).s) = true := by kernel_rfl
theorem z7_4 : okR (ev fl4 95 k4 (sE 7 4).s) = true := by kernel_rfl
theorem z8_4 : okR (ev fl4 95 k4 (sE 8 4).s) = true := by kernel_rfl
theorem fi4 : ∀ c, c < 9 → ∃ s2, SndP PP 95 k4 (sE c 4).s (.ret s2) ∧ s2.env.at' 4 = some (.bool true)
  | 0, _ => fin_of fl4 z0_4
  | 1, _ => fin_of fl4 z1_4
  | 2, _ => fin_of fl4 z2_4
  | 3, _ => fin_of fl4 z3_4
  | 4, _ => fin_of fl4 z4_4
  | 5, _ => fin_of fl4 z5_4
  | 6, _ => fin_of fl4 z6_4
  | 7, _ => fin_of fl4 z7_4
  | 8, _ => fin_of fl4 z8_4
  | c + 9, h => absurd h (by omega)
end Go.Ab.Y

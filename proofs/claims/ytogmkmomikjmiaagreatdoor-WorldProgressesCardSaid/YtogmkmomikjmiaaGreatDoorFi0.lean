/- For every n and every engine, WorldProgresses returns true: the runs with engine 0. -/
import Derived.Test.YtogmkmomikjmiaaGreatDoorWd0
import Derived.Test.YtogmkmomikjmiaaGreatDoorFin
import Derived.Test.YtogmkmomikjmiaaGreatDoorGz
import Derived.KernelRfl
set_option linter.all false
set_option maxRecDepth 1000000
namespace Go.Ab.Y
open Go Go.Ab Go.Ab.Cm Go.Proofs
noncomputable def fl0 : List PM := [q0, qx5, qw0, qw1, qw2_0, qw3_0, qw4_0, qw5_0, qw6_0, qw7_0, qw8_0, qw9_0, qw10_0, qw11_0, qw12_0, qw13_0, qw14_0, qw15_0, qw16_0, qw17_0, qw18_0, qw19_0, qw20_0, qw21_0, qw22_0, qw23_0, qw24_0, qw25_0, qw26_0, qw27_0, qw28_0, qw29_0, qw30_0, qw31_0, qw32_0, qw33_0, qw34_0, qw35_0, qw36_0, qw37_0, qw38_0, qw39_0, qw40_0, qw41_0, qw42_0]
theorem z0_0 : okR (ev fl0 95 k4 (sE 0 0).s) = true := by kernel_rfl
theorem z1_0 : okR (ev fl0 95 k4 (sE 1 0).s) = true := by kernel_rfl
theorem z2_0 : okR (ev fl0 95 k4 (sE 2 0).s) = true := by kernel_rfl
theorem z3_0 : okR (ev fl0 95 k4 (sE 3 0).s) = true := by kernel_rfl
theorem z4_0 : okR (ev fl0 95 k4 (sE 4 0).s) = true := by kernel_rfl
theorem z5_0 : okR (ev fl0 95 k4 (sE 5 0).s) = true := by kernel_rfl
theorem z6_0 : okR (ev fl0 95 k4 (sE 6 0).s) = true := by kernel_rfl
theorem z7_0 : okR (ev fl0 95 k4 (sE 7 0).s) = true := by kernel_rfl
theorem z8_0 : okR (ev fl0 95 k4 (sE 8 0).s) = true := by kernel_rfl
theorem fi0 : ∀ c, c < 9 → ∃ s2, SndP PP 95 k4 (sE c 0).s (.ret s2) ∧ s2.env.at' 4 = some (.bool true)
  | 0, _ => fin_of fl0 z0_0
  | 1, _ => fin_of fl0 z1_0
  | 2, _ => fin_of fl0 z2_0
  | 3, _ => fin_of fl0 z3_0
  | 4, _ => fin_of fl0 z4_0
  | 5, _ => fin_of fl0 z5_0
  | 6, _ => fin_of fl0 z6_0
  | 7, _ => fin_of fl0 z7_0
  | 8, _ => fin_of fl0 z8_0
  | c + 9, h => absurd h (by omega)
end Go.Ab.Y

/- For every n and every engine, WorldProgresses returns true: the law. -/
import Derived.Test.YtogmkmomikjmiaaGreatDoorFi0
import Derived.Test.YtogmkmomikjmiaaGreatDoorFi1
import Derived.Test.YtogmkmomikjmiaaGreatDoorFi2
import Derived.Test.YtogmkmomikjmiaaGreatDoorFi3
import Derived.Test.YtogmkmomikjmiaaGreatDoorFi4
import Derived.KernelRfl
set_option linter.all false
set_option maxRecDepth 1000000
namespace Go.Ab.Y
open Go Go.Ab Go.Ab.Cm Go.Proofs
theorem fin : ∀ c d, c < 9 → d < 5 → ∃ s2, SndP PP 95 k4 (sE c d).s (.ret s2) ∧ s2.env.at' 4 = some (.bool true)
  | c, 0, h, _ => fi0 c h
  | c, 1, h, _ => fi1 c h
  | c, 2, h, _ => fi2 c h
  | c, 3, h, _ => fi3 c h
  | c, 4, h, _ => fi4 c h
  | c, d + 5, _, h => absurd h (by omega)
theorem law44 {n e : Nat} (hn : n < 256) (he : e < 256) : ∃ x, CCalls PP 3 [u8 n, u8 e] .e 0 x ∧ x.v = .bool true :=
  let ⟨_, h1, h2⟩ := fin (n % 9) (e % 5) (Nat.mod_lt _ (by decide)) (Nat.mod_lt _ (by decide))
  ⟨_, whole hn he h1 h2, rfl⟩
end Go.Ab.Y

/- For every n and every engine, WorldProgresses returns true: the end of a run. -/
import Derived.Test.YtogmkmomikjmiaaGreatDoorBase
import Derived.KernelRfl
set_option linter.all false
set_option maxRecDepth 1000000
namespace Go.Ab.Y
open Go Go.Ab Go.Ab.Cm Go.Proofs
noncomputable def okR (r : R) : Bool := match r with
  | .ret s => (match s.env.at' 4 with | some (.bool b) => b | _ => false)
  | _ => false
theorem fin_of (l : List PM) {c d : Nat} (h : okR (ev l 95 k4 (sE c d).s) = true) : ∃ s2, SndP PP 95 k4 (sE c d).s (.ret s2) ∧ s2.env.at' 4 = some (.bool true) := by
  generalize hr : ev l 95 k4 (sE c d).s = r at h
  unfold okR at h
  split at h
  case h_2 => cases h
  rename_i s
  split at h
  case h_2 => cases h
  rename_i b hb
  subst h
  exact ⟨s, snd_ev (hev l) hr (by simp), hb⟩
end Go.Ab.Y

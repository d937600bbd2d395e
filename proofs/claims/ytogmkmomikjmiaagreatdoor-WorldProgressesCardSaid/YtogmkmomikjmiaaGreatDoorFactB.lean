/- For every n and every engine, WorldProgresses returns true: closed facts of the program. -/
import Derived.Test.YtogmkmomikjmiaaGreatDoorCards
import Derived.Deep.DeepHandedRow
import Derived.LaidByTextLater
import Derived.SevenTiedAt
namespace Go.Proofs.YtogmkmomikjmiaaGreatDoor.FB
open Go Go.ChangeShapes
set_option maxRecDepth 1000000
set_option linter.all false
theorem cut {p : Nat → Bool} {a m n : Nat} (h : (List.range' a m).all p = true) (k : (List.range' (a + m) n).all p = true) : (List.range' a (m + n)).all p = true := by
  rw [← List.range'_append_1, List.all_append, h, k]; rfl
theorem a0 : (List.range' 0 200).all (rowFine Tryz.prog) = true := by kernel_rfl
theorem a1 : (List.range' 200 200).all (rowFine Tryz.prog) = true := by kernel_rfl
theorem a2 : (List.range' 400 200).all (rowFine Tryz.prog) = true := by kernel_rfl
theorem a3 : (List.range' 600 200).all (rowFine Tryz.prog) = true := by kernel_rfl
theorem a4 : (List.range' 800 171).all (rowFine Tryz.prog) = true := by kernel_rfl
theorem sz : Tryz.prog.types.size = 971 := by kernel_rfl
theorem j1 : laidOutB Tryz.prog = true := by
  unfold laidOutB
  rw [← Array.all_toList, ← Array.all_toList, List.range_eq_range', sz, cut (m := 200) a0 (cut (m := 200) a1 (cut (m := 200) a2 (cut (m := 200) a3 a4)))]
  have h1 : Tryz.prog.globals.toList.all (fun g => decide (g.type < 971)) = true := by kernel_rfl
  have h2 : Tryz.prog.funcs.toList.all (fun f => f.params.all fun t => decide (t < 971)) = true := by kernel_rfl
  rw [h1, h2]; rfl
theorem b0 : (List.range' 0 243).all (fun t => match Tryz.prog.underlying t with | some (.map _ e) => decide (e < Tryz.prog.types.size) | _ => true) = true := by kernel_rfl
theorem b1 : (List.range' 243 243).all (fun t => match Tryz.prog.underlying t with | some (.map _ e) => decide (e < Tryz.prog.types.size) | _ => true) = true := by kernel_rfl
theorem b2 : (List.range' 486 243).all (fun t => match Tryz.prog.underlying t with | some (.map _ e) => decide (e < Tryz.prog.types.size) | _ => true) = true := by kernel_rfl
theorem b3 : (List.range' 729 242).all (fun t => match Tryz.prog.underlying t with | some (.map _ e) => decide (e < Tryz.prog.types.size) | _ => true) = true := by kernel_rfl
theorem c0 : (List.range' 0 243).all (fun t => match Tryz.prog.underlying t with | some (.map k _) => (match Tryz.prog.underlying k with | some (.array _ _) | some (.struct _) => false | _ => true) | _ => true) = true := by kernel_rfl
theorem c1 : (List.range' 243 243).all (fun t => match Tryz.prog.underlying t with | some (.map k _) => (match Tryz.prog.underlying k with | some (.array _ _) | some (.struct _) => false | _ => true) | _ => true) = true := by kernel_rfl
theorem c2 : (List.range' 486 243).all (fun t => match Tryz.prog.underlying t with | some (.map k _) => (match Tryz.prog.underlying k with | some (.array _ _) | some (.struct _) => false | _ => true) | _ => true) = true := by kernel_rfl
theorem c3 : (List.range' 729 242).all (fun t => match Tryz.prog.underlying t with | some (.map k _) => (match Tryz.prog.underlying k with | some (.array _ _) | some (.struct _) => false | _ => true) | _ => true) = true := by kernel_rfl
theorem j2 : mapsRowed Tryz.prog = true := by
  have h := cut (m := 243) b0 (cut (m := 243) b1 (cut (m := 243) b2 b3))
  unfold mapsRowed
  rw [List.range_eq_range', sz]
  exact h
theorem pk : Tryz.prog.plainKeys = true := by
  have h := cut (m := 243) c0 (cut (m := 243) c1 (cut (m := 243) c2 c3))
  unfold Program.plainKeys
  rw [List.range_eq_range', sz]
  exact h
theorem j22 : (Rows.worldProgressesRow.plainKeys == Tryz.prog.plainKeys) = true := by rw [pk]; rfl
end Go.Proofs.YtogmkmomikjmiaaGreatDoor.FB

/- The types of this claim, and the contracts that were written by hand. -/
import Derived.Test.YtenhknjlgfakfaaGreatDoorProg
import Derived.WalkKit
import Derived.Lib.Builder
import Derived.Lib.UnsafeStr
import Derived.Laws.Externs
import Derived.Shelf.RegionOpenPlain
import Derived.Lib.Join
import Derived.Lib.AppendIntMem
import Derived.Lib.ParseIntBCases
import Derived.Lib.AtoiErrMem
import Derived.Test.YtenhknjlgfakfaaGreatDoorShelf
namespace Go.Ab.Y
open Go Go.Proofs

def wordB (c : UInt8) : Bool := decide ((97 ≤ c.toNat ∧ c.toNat ≤ 122) ∨ (48 ≤ c.toNat ∧ c.toNat ≤ 57) ∨ c.toNat = 95)
def wordLen (s : List UInt8) : Nat := (s.takeWhile wordB).length

theorem take_len {s : List UInt8} {k : Nat} (hk : k ≤ s.length) (h : ∀ (j : Nat) c, j < k → s[j]? = some c → wordB c = true) (he : ∀ c, s[k]? = some c → wordB c = false) : wordLen s = k := by
  unfold wordLen
  induction s generalizing k with
  | nil => simp at hk ⊢; omega
  | cons c s ih =>
    cases k with
    | zero =>
      have := he c rfl
      simp [List.takeWhile, this]
    | succ k =>
      have h0 := h 0 c (by omega) rfl
      simp only [List.takeWhile, h0, List.length_cons]
      rw [ih (by simpa using hk) (fun j c hj hc => h (j + 1) c (by omega) (by simpa using hc)) (fun c hc => he c (by simpa using hc))]

theorem get_list (s : ByteArray) (k : Nat) (h : k < s.size) : s.data.toList[k]? = some (s[k]'h) := by
  have : k < s.data.toList.length := by simpa using h
  rw [List.getElem?_eq_getElem this]
  rfl

def InWord (s : ByteArray) (k : Nat) : Prop := ∀ (j : Nat) c, j < k → s.data.toList[j]? = some c → wordB c = true
theorem InWord.succ {s : ByteArray} {k : Nat} (h : InWord s k) (hk : k < s.size) (hc : wordB (s[k]'hk) = true) : InWord s (k + 1) := by
  intro j c hj hc'
  by_cases e : j = k
  · subst e; rw [get_list s j hk] at hc'; cases hc'; exact hc
  · exact h j c (by omega) hc'

set_option maxRecDepth 100000 in
theorem word_walk (s : ByteArray) (w : World) (hs : s.size ≤ 140737488351232) :
    Calls Tryz.prog 104 #[.string s] w fun e w' => e = .returned (.int .i64 (wordLen s.data.toList)) ∧ ∃ pos, w' = w.iter s pos := by
  go_enter Tryz.func104, Tryz.ntmps104
  go_wp2
  go_loopw [] (fun w' => ∃ k : Nat, w' = w.iter s k ∧ k ≤ s.size ∧ InWord s k) (fun w' => s.size - w'.iterPos w.heap.size)
  case atStart => exact ⟨0, rfl, by omega, fun j c hj => by omega⟩
  case round =>
    obtain ⟨k, rfl, hk, hin⟩ := hrel
    by_cases hp : k < s.size
    · by_cases ha : (s[k]'hp).toNat < 128
      · have hnx : ∀ ty, (Instr.next (.pointer (some ⟨w.heap.size, 0, none⟩)) true ty).run Tryz.prog (w.iter s k) = _ := fun ty => run_next_ascii w s k ty hp ha
        cases hw : wordB (s[k]'hp)
        · have hlen := take_len (s := s.data.toList) (k := k) (by simpa using hk) hin (fun c hc => by rw [get_list s k hp] at hc; cases hc; exact hw)
          have hc := of_decide_eq_false hw
          clear hw
          go_wp2
          all_goals first
            | (exfalso; simp at *; omega)
            | (go_ret; exact ⟨by first | rfl | (rw [hlen]; rfl), _, rfl⟩)
        · have hc := of_decide_eq_true hw
          have hin2 := hin.succ hp hw
          clear hw hin
          go_wp2
          all_goals first
            | (exfalso; simp at *; omega)
            | (go_roundw
               case rel => exact ⟨k + 1, rfl, hp, hin2⟩
               case measure => simp; omega)
      · have hnx : ∀ ty, (Instr.next (.pointer (some ⟨w.heap.size, 0, none⟩)) true ty).run Tryz.prog (w.iter s k) = _ := fun ty => run_next_any w s k ty hp
        have hd := (decode_high s k hp (by omega)).1
        have hle := decode_le s k
        have hlen := take_len (s := s.data.toList) (k := k) (by simpa using hk) hin (fun c hc => by
          rw [get_list s k hp] at hc; cases hc
          exact decide_eq_false (by omega))
        generalize Utf8.decode s k = d at hnx hd hle
        go_wp2
        all_goals first
          | (exfalso; simp at *; omega)
          | (go_ret; exact ⟨by first | rfl | (rw [hlen]; rfl), _, rfl⟩)
    · have hnx : ∀ ty, (Instr.next (.pointer (some ⟨w.heap.size, 0, none⟩)) true ty).run Tryz.prog (w.iter s k) = _ := fun ty => run_next_end w s k ty hp
      have hlen := take_len (s := s.data.toList) (k := k) (by simpa using hk) hin (fun c hc => by
        have := (List.getElem?_eq_some_iff.1 hc).1
        simp at this; omega)
      obtain rfl : k = s.size := by omega
      go_wp2
      go_ret
      exact ⟨by first | rfl | (rw [hlen]; rfl), _, rfl⟩
end Go.Ab.Y

namespace Go.Ab.Y
open Go Go.Proofs Go.RowKit

theorem szB : (Tryz.prog.info? 90).map (·.size) = some 2 := by kernel_rfl
set_option maxHeartbeats 1000000 in
set_option maxRecDepth 100000 in
theorem copyCheck_used (b : Nat) (w : World) (h0 : w.cell? ⟨b, 0, none⟩ = some (.pointer (some ⟨b, 0, none⟩))) :
    Calls Tryz.prog 119 #[.pointer (some ⟨b, 0, none⟩)] w fun e w' => e = .returned (.tuple #[]) ∧ w' = w := by
  obtain ⟨j, hj, _⟩ := Option.map_eq_some_iff.1 szB
  go_enter Tryz.func119, Tryz.ntmps119
  go_wp2
  rw [Lib.run_neq_ptr_same w _ Tryz.underlying87 hj]
  go_wp2
  go_end0
  exact ⟨rfl, rfl⟩
set_option maxHeartbeats 1000000 in
set_option maxRecDepth 100000 in
theorem copyCheck_fresh (b : Nat) (w : World) (T : TypeId) (k : Nat) (h0 : w.cell? ⟨b, 0, none⟩ = some (.pointer none)) (hsh : w.shape? b = some (T, k)) (hk : 0 < k) (hlies : liesAt Tryz.prog Tryz.prog.depth T (k / Tryz.prog.cellsOf T) 0 90 1 = true) (hfz : w.frozen? ⟨b, 0, none⟩ = false) :
    Calls Tryz.prog 119 #[.pointer (some ⟨b, 0, none⟩)] w fun e w' => e = .returned (.tuple #[]) ∧ w' = w.setCell ⟨b, 0, none⟩ (.pointer (some ⟨b, 0, none⟩)) := by
  obtain ⟨j, hj, hjs⟩ := Option.map_eq_some_iff.1 szB
  go_enter Tryz.func119, Tryz.ntmps119
  go_wp2
  rw [Lib.run_to_unsafe w ⟨b, 0, none⟩ Tryz.underlying87 Tryz.underlying181 hj (by rw [hjs]; decide) hsh hk]
  simp only [Result.andThen]
  rw [Oper.upon_value]
  go_wp2
  rw [run_callFunc_extern Tryz.func158 (by kernel_rfl) (by kernel_rfl) (by kernel_rfl) (e := Extern.AbiNoEscape.same) (by kernel_rfl)]
  rw [Lib.run_noEscape]
  simp only [Result.andThen]
  rw [Oper.upon_value]
  go_wp2
  rw [Lib.run_from_unsafe w ⟨b, 0, none⟩ Tryz.underlying181 Tryz.underlying87 hj hsh hlies]
  simp only [Result.andThen]
  rw [Oper.upon_value]
  go_wp2
  go_end0
  exact ⟨rfl, rfl⟩
end Go.Ab.Y

namespace Go.Ab.Y
open Go Go.Proofs Go.RowKit

theorem cellsByte : Tryz.prog.cellsOf 5 = 1 := by kernel_rfl
set_option maxHeartbeats 2000000 in
set_option maxRecDepth 100000 in
theorem bstr_nil (b : Nat) (w : World) (h : w.cell? ⟨b, 1, none⟩ = some (.slice none 0 0)) :
    Calls Tryz.prog 60 #[.pointer (some ⟨b, 0, none⟩)] w fun e w' => e = .returned (.string ⟨#[]⟩) ∧ w' = w.drew := by
  have hUS : (Builtin.unsafeString_ #[157, 3] 9 #[.pointer none, .int .i64 0]).run Tryz.prog w.drew = .ok (.string .empty) w.drew := Lib.run_unsafeString_none w.drew _ _ _ none
  have c1 : w.drew.cell? ⟨b, 1, none⟩ = some (.slice none 0 0) := h
  have hSD : (Builtin.unsafeSliceData_ #[88] 157 #[.slice none 0 0]).run Tryz.prog w.drew = .ok (.pointer none) w.drew := rfl
  have mixed : Tryz.prog.follows .mixedOrders = true := by kernel_rfl
  go_enter Tryz.func60, Tryz.ntmps60
  go_wp2
  go_region_o
  all_goals (go_wp2; go_ret; exact ⟨rfl, rfl⟩)
set_option maxHeartbeats 2000000 in
set_option maxRecDepth 100000 in
theorem bstr_room (b g cap : Nat) (w : World) (hc0 : cap ≠ 0) (h : w.cell? ⟨b, 1, none⟩ = some (.slice (some ⟨g, 0, none⟩) 0 cap)) :
    Calls Tryz.prog 60 #[.pointer (some ⟨b, 0, none⟩)] w fun e w' => e = .returned (.string ⟨#[]⟩) ∧ w' = w.drew := by
  have hUS : (Builtin.unsafeString_ #[157, 3] 9 #[.pointer (some ⟨g, 0, none⟩), .int .i64 0]).run Tryz.prog w.drew = .ok (.string .empty) w.drew := Lib.run_unsafeString_none w.drew _ _ _ _
  have c1 : w.drew.cell? ⟨b, 1, none⟩ = some (.slice (some ⟨g, 0, none⟩) 0 cap) := h
  have hSD : (Builtin.unsafeSliceData_ #[88] 157 #[.slice (some ⟨g, 0, none⟩) 0 cap]).run Tryz.prog w.drew = .ok (.pointer (some ⟨g, 0, none⟩)) w.drew := Lib.run_unsafeSliceData_row _ _ _ _ _ _ hc0
  clear hc0
  have mixed : Tryz.prog.follows .mixedOrders = true := by kernel_rfl
  go_enter Tryz.func60, Tryz.ntmps60
  go_wp2
  go_region_o
  all_goals (go_wp2; go_ret; exact ⟨rfl, rfl⟩)
set_option maxHeartbeats 2000000 in
set_option maxRecDepth 100000 in
theorem bstr_noroom (b g : Nat) (w : World) (vs : List Value) (h : w.cell? ⟨b, 1, none⟩ = some (.slice (some ⟨g, 0, none⟩) 0 0)) (hb : b < w.heap.size) (hg : w.heap[g]? = some (.cells ⟨vs⟩ 5 (0, 0))) :
    Calls Tryz.prog 60 #[.pointer (some ⟨b, 0, none⟩)] w fun e w' => e = .returned (.string ⟨#[]⟩) ∧ w' = (w.drew.alloc (.view ⟨g, 0, none⟩ 5)) := by
  have hUS : ∀ (q : Option Addr) (W : World), (Builtin.unsafeString_ #[157, 3] 9 #[.pointer q, .int .i64 0]).run Tryz.prog W = .ok (.string .empty) W := fun q W => Lib.run_unsafeString_none W _ _ _ q
  have c1 : w.drew.cell? ⟨b, 1, none⟩ = some (.slice (some ⟨g, 0, none⟩) 0 0) := h
  have hSD : (Builtin.unsafeSliceData_ #[88] 157 #[.slice (some ⟨g, 0, none⟩) 0 0]).run Tryz.prog w.drew = .ok (.pointer (some ⟨w.drew.heap.size, 0, none⟩)) (w.drew.alloc (.view ⟨g, 0, none⟩ 5)) :=
    Lib.run_unsafeSliceData_zero w.drew _ _ 5 Tryz.underlying157 ⟨g, 0, none⟩ 0 (5, vs.length) (by have hg' : w.drew.heap[g]? = some (.cells ⟨vs⟩ 5 (0, 0)) := hg; simp [World.shape?, hg'])
  have c2 : (w.drew.alloc (.view ⟨g, 0, none⟩ 5)).cell? ⟨b, 1, none⟩ = some (.slice (some ⟨g, 0, none⟩) 0 0) := by
    unfold World.cell? at h ⊢
    rw [show (w.drew.alloc (.view ⟨g, 0, none⟩ 5)).heap[b]? = w.heap[b]? from Lib.alloc_old w.drew _ b hb]; exact h
  have c3 : (w.alloc (.view ⟨g, 0, none⟩ 5)).drew.cell? ⟨b, 1, none⟩ = some (.slice (some ⟨g, 0, none⟩) 0 0) := c2
  have mixed : Tryz.prog.follows .mixedOrders = true := by kernel_rfl
  go_enter Tryz.func60, Tryz.ntmps60
  go_wp2
  go_region_o
  all_goals (go_wp2; go_ret; exact ⟨rfl, rfl⟩)
set_option maxHeartbeats 2000000 in
set_option maxRecDepth 100000 in
theorem bstr_some (b g cap : Nat) (w : World) (vs : List Value) (l : List UInt8) (h0 : l ≠ []) (h : w.cell? ⟨b, 1, none⟩ = some (.slice (some ⟨g, 0, none⟩) l.length cap)) (hg : w.heap[g]? = some (.cells ⟨vs⟩ 5 (0, 0)))
    (hn : l.length ≤ cap) (hcap : cap ≤ vs.length) (h63 : l.length ≤ 9223372036854775807) (hc : ∀ (j : Nat) (x : UInt8), l[j]? = some x → vs[j]? = some (Value.int .u8 x.toNat)) :
    Calls Tryz.prog 60 #[.pointer (some ⟨b, 0, none⟩)] w fun e w' => e = .returned (.string ⟨l.toArray⟩) ∧ w' = w.drew.freeze ⟨g, 0, none⟩ l.length := by
  have hl0 : l.length ≠ 0 := by simpa using h0
  have c1 : w.drew.cell? ⟨b, 1, none⟩ = some (.slice (some ⟨g, 0, none⟩) l.length cap) := h
  have hg' : w.drew.heap[g]? = some (.cells ⟨vs⟩ 5 (0, 0)) := hg
  have hSD : (Builtin.unsafeSliceData_ #[88] 157 #[.slice (some ⟨g, 0, none⟩) l.length cap]).run Tryz.prog w.drew = .ok (.pointer (some ⟨g, 0, none⟩)) w.drew := Lib.run_unsafeSliceData_row _ _ _ _ _ _ (by omega)
  have hUS : (Builtin.unsafeString_ #[157, 3] 9 #[.pointer (some ⟨g, 0, none⟩), .int .i64 l.length]).run Tryz.prog w.drew = .ok (.string ⟨l.toArray⟩) (w.drew.freeze ⟨g, 0, none⟩ l.length) :=
    Lib.run_unsafeString_row w.drew 157 3 9 5 Tryz.underlying157 cellsByte g vs.length (by simp [World.shape?, hg']) l h0 (by omega) h63 (fun j x hx => by
      have := hc j x hx
      rw [show (⟨g, 0, none⟩ : Addr).add j = ⟨g, j, none⟩ by unfold Addr.add; split <;> simp_all, Go.Ab.cell_of_heap hg', this])
  have mixed : Tryz.prog.follows .mixedOrders = true := by kernel_rfl
  go_enter Tryz.func60, Tryz.ntmps60
  go_wp2
  go_region_o
  all_goals (go_wp2; go_ret; exact ⟨rfl, rfl⟩)
end Go.Ab.Y

/- Printed by gen.py: the types. -/
namespace Go.Ab.Y
open Go Go.Ab Go.Proofs
abbrev e_i32 (x : Int) : V := .int .i32 x
abbrev e_i64 (x : Int) : V := .int .i64 x
abbrev e_u32 (x : Int) : V := .int .u32 x
abbrev e_u64 (x : Int) : V := .int .u64 x
abbrev e_u8 (x : Int) : V := .int .u8 x
theorem sm_l {α β γ : Type} {a : α} {f : α → γ} {g : β → γ} {r : γ} (h : Sm.on (.inl a) f g = r) : f a = r := h
theorem sm_r {α β γ : Type} {b : β} {f : α → γ} {g : β → γ} {r : γ} (h : Sm.on (.inr b) f g = r) : g b = r := h
abbrev e_bool (x : Bool) : V := .bool x
abbrev e_str (x : List UInt8) : V := .str x
structure Expr where
  Op : Int
  N : Int
  S : List UInt8
  Args : List Expr
instance : Inhabited Expr := ⟨⟨0, 0, ([] : List UInt8), ([] : List Expr)⟩⟩
mutual
def enc_Expr : Expr → V
  | ⟨Op, N, S, Args⟩ => .agg [.int .i64 Op, .int .i64 N, .str S, .slc 4 Args.length fun i => (encs_Expr Args).getD i .nilp]
def encs_Expr : List Expr → List V
  | [] => []
  | x :: l => enc_Expr x :: encs_Expr l
end
theorem encs_eq_Expr : ∀ l : List Expr, encs_Expr l = l.map enc_Expr
  | [] => rfl
  | x :: l => by rw [encs_Expr, encs_eq_Expr l]; rfl
theorem encs_at_Expr (l : List Expr) (i : Nat) (h : i < l.length) : (encs_Expr l).getD i .nilp = enc_Expr (l.getD i default) := by
  rw [encs_eq_Expr]; simp [List.getD, List.getElem?_eq_getElem h]
theorem enc_cells_Expr (x : Expr) : VL (enc_Expr x).cells [.int .i64 x.Op, .int .i64 x.N, .str x.S, encL 4 enc_Expr x.Args] := by
  cases x; exact .cons (vimp_refl _) (.cons (vimp_refl _) (.cons (vimp_refl _) (.cons (vimp_slc fun i hi => encs_at_Expr _ i hi) (VL.nil))))
theorem rev_Expr (x : Expr) : VL [.int .i64 x.Op, .int .i64 x.N, .str x.S, encL 4 enc_Expr x.Args] (enc_Expr x).cells := by
  cases x; exact .cons (vimp_refl _) (.cons (vimp_refl _) (.cons (vimp_refl _) (.cons (vimp_slc fun i hi => (encs_at_Expr _ i hi).symm) (VL.nil))))
theorem enc_vimp_Expr (x : Expr) : VImp (enc_Expr x) (.agg [.int .i64 x.Op, .int .i64 x.N, .str x.S, encL 4 enc_Expr x.Args]) := by
  have h := enc_cells_Expr x; cases x; exact vimp_agg h
structure Param where
  Name : List UInt8
  Type_ : Int
instance : Inhabited Param := ⟨⟨([] : List UInt8), 0⟩⟩
def enc_Param (x : Param) : V := .agg [.str x.Name, .int .i64 x.Type_]
structure Stmt where
  Op : Int
  Name : List UInt8
  Max : Int
  A : Expr
  B : Expr
  Body : List Stmt
  Else : List Stmt
instance : Inhabited Stmt := ⟨⟨0, ([] : List UInt8), 0, (⟨0, 0, ([] : List UInt8), ([] : List Expr)⟩ : Expr), (⟨0, 0, ([] : List UInt8), ([] : List Expr)⟩ : Expr), ([] : List Stmt), ([] : List Stmt)⟩⟩
mutual
def enc_Stmt : Stmt → V
  | ⟨Op, Name, Max, A, B, Body, Else⟩ => .agg [.int .i64 Op, .str Name, .int .i64 Max, .int .i64 A.Op, .int .i64 A.N, .str A.S, encL 4 enc_Expr A.Args, .int .i64 B.Op, .int .i64 B.N, .str B.S, encL 4 enc_Expr B.Args, .slc 13 Body.length fun i => (encs_Stmt Body).getD i .nilp, .slc 13 Else.length fun i => (encs_Stmt Else).getD i .nilp]
def encs_Stmt : List Stmt → List V
  | [] => []
  | x :: l => enc_Stmt x :: encs_Stmt l
end
theorem encs_eq_Stmt : ∀ l : List Stmt, encs_Stmt l = l.map enc_Stmt
  | [] => rfl
  | x :: l => by rw [encs_Stmt, encs_eq_Stmt l]; rfl
theorem encs_at_Stmt (l : List Stmt) (i : Nat) (h : i < l.length) : (encs_Stmt l).getD i .nilp = enc_Stmt (l.getD i default) := by
  rw [encs_eq_Stmt]; simp [List.getD, List.getElem?_eq_getElem h]
theorem enc_cells_Stmt (x : Stmt) : VL (enc_Stmt x).cells [.int .i64 x.Op, .str x.Name, .int .i64 x.Max, .int .i64 x.A.Op, .int .i64 x.A.N, .str x.A.S, encL 4 enc_Expr x.A.Args, .int .i64 x.B.Op, .int .i64 x.B.N, .str x.B.S, encL 4 enc_Expr x.B.Args, encL 13 enc_Stmt x.Body, encL 13 enc_Stmt x.Else] := by
  cases x; exact .cons (vimp_refl _) (.cons (vimp_refl _) (.cons (vimp_refl _) (.cons (vimp_refl _) (.cons (vimp_refl _) (.cons (vimp_refl _) (.cons (vimp_refl _) (.cons (vimp_refl _) (.cons (vimp_refl _) (.cons (vimp_refl _) (.cons (vimp_refl _) (.cons (vimp_slc fun i hi => encs_at_Stmt _ i hi) (.cons (vimp_slc fun i hi => encs_at_Stmt _ i hi) (VL.nil)))))))))))))
theorem rev_Stmt (x : Stmt) : VL [.int .i64 x.Op, .str x.Name, .int .i64 x.Max, .int .i64 x.A.Op, .int .i64 x.A.N, .str x.A.S, encL 4 enc_Expr x.A.Args, .int .i64 x.B.Op, .int .i64 x.B.N, .str x.B.S, encL 4 enc_Expr x.B.Args, encL 13 enc_Stmt x.Body, encL 13 enc_Stmt x.Else] (enc_Stmt x).cells := by
  cases x; exact .cons (vimp_refl _) (.cons (vimp_refl _) (.cons (vimp_refl _) (.cons (vimp_refl _) (.cons (vimp_refl _) (.cons (vimp_refl _) (.cons (vimp_refl _) (.cons (vimp_refl _) (.cons (vimp_refl _) (.cons (vimp_refl _) (.cons (vimp_refl _) (.cons (vimp_slc fun i hi => (encs_at_Stmt _ i hi).symm) (.cons (vimp_slc fun i hi => (encs_at_Stmt _ i hi).symm) (VL.nil)))))))))))))
theorem enc_vimp_Stmt (x : Stmt) : VImp (enc_Stmt x) (.agg [.int .i64 x.Op, .str x.Name, .int .i64 x.Max, .int .i64 x.A.Op, .int .i64 x.A.N, .str x.A.S, encL 4 enc_Expr x.A.Args, .int .i64 x.B.Op, .int .i64 x.B.N, .str x.B.S, encL 4 enc_Expr x.B.Args, encL 13 enc_Stmt x.Body, encL 13 enc_Stmt x.Else]) := by
  have h := enc_cells_Stmt x; cases x; exact vimp_agg h
structure Proc where
  Name : List UInt8
  Params : List Param
  Body : List Stmt
instance : Inhabited Proc := ⟨⟨([] : List UInt8), ([] : List Param), ([] : List Stmt)⟩⟩
def enc_Proc (x : Proc) : V := .agg [.str x.Name, encL 2 enc_Param x.Params, encL 13 enc_Stmt x.Body]
structure Token where
  Kind : Int
  Text : List UInt8
  N : Int
  Line : Int
instance : Inhabited Token := ⟨⟨0, ([] : List UInt8), 0, 0⟩⟩
def enc_Token (x : Token) : V := .agg [.int .i64 x.Kind, .str x.Text, .int .i64 x.N, .int .i64 x.Line]
structure PPz where
  tokens : List Token
  at_ : Int
instance : Inhabited PPz := ⟨⟨([] : List Token), 0⟩⟩
def enc_PPz (x : PPz) : V := .agg [encL 4 enc_Token x.tokens, .int .i64 x.at_]
structure Vz8 where
  IsStmt : Bool
  Stmt : Stmt
  Depth : Int
  Expr : Expr
  Root : Bool
instance : Inhabited Vz8 := ⟨⟨false, (⟨0, ([] : List UInt8), 0, (⟨0, 0, ([] : List UInt8), ([] : List Expr)⟩ : Expr), (⟨0, 0, ([] : List UInt8), ([] : List Expr)⟩ : Expr), ([] : List Stmt), ([] : List Stmt)⟩ : Stmt), 0, (⟨0, 0, ([] : List UInt8), ([] : List Expr)⟩ : Expr), false⟩⟩
def enc_Vz8 (x : Vz8) : V := .agg [.bool x.IsStmt, .int .i64 x.Stmt.Op, .str x.Stmt.Name, .int .i64 x.Stmt.Max, .int .i64 x.Stmt.A.Op, .int .i64 x.Stmt.A.N, .str x.Stmt.A.S, encL 4 enc_Expr x.Stmt.A.Args, .int .i64 x.Stmt.B.Op, .int .i64 x.Stmt.B.N, .str x.Stmt.B.S, encL 4 enc_Expr x.Stmt.B.Args, encL 13 enc_Stmt x.Stmt.Body, encL 13 enc_Stmt x.Stmt.Else, .int .i64 x.Depth, .int .i64 x.Expr.Op, .int .i64 x.Expr.N, .str x.Expr.S, encL 4 enc_Expr x.Expr.Args, .bool x.Root]
structure parser_failure where
  line : Int
  code : Int
instance : Inhabited parser_failure := ⟨⟨0, 0⟩⟩
def enc_parser_failure (x : parser_failure) : V := .agg [.int .i64 x.line, .int .i64 x.code]
structure ast_uses where
  name : Bool
  a : Bool
  b : Bool
  max : Bool
  body : Bool
  other : Bool
instance : Inhabited ast_uses := ⟨⟨false, false, false, false, false, false⟩⟩
def enc_ast_uses (x : ast_uses) : V := .agg [.bool x.name, .bool x.a, .bool x.b, .bool x.max, .bool x.body, .bool x.other]
def tt : TT := [
  (1, ⟨.fnc, 1, 8, [.nilf], []⟩),
  (2, ⟨.int .i64, 1, 8, [.int .i64 0], []⟩),
  (3, ⟨.int .i64, 1, 8, [.int .i64 0], []⟩),
  (4, ⟨.bool, 1, 1, [.bool false], []⟩),
  (5, ⟨.int .u8, 1, 1, [.int .u8 0], []⟩),
  (6, ⟨.int .u8, 1, 1, [.int .u8 0], []⟩),
  (7, ⟨.strct [(0, 2, 1), (1, 3, 1), (2, 4, 1), (3, 6, 1)], 4, 24, [.int .i64 0, .int .i64 0, .bool false, .int .u8 0], []⟩),
  (8, ⟨.strct [(0, 2, 1), (1, 3, 1), (2, 4, 1), (3, 6, 1)], 4, 24, [.int .i64 0, .int .i64 0, .bool false, .int .u8 0], []⟩),
  (9, ⟨.str, 1, 16, [.str ([] : List UInt8)], []⟩),
  (10, ⟨.str, 1, 16, [.str ([] : List UInt8)], []⟩),
  (11, ⟨.str, 1, 16, [.str ([] : List UInt8)], []⟩),
  (12, ⟨.int .u64, 1, 8, [.int .u64 0], []⟩),
  (13, ⟨.strct [(0, 9, 1), (1, 12, 1)], 2, 24, [.str ([] : List UInt8), .int .u64 0], []⟩),
  (14, ⟨.strct [(0, 9, 1), (1, 12, 1)], 2, 24, [.str ([] : List UInt8), .int .u64 0], []⟩),
  (15, ⟨.ptr, 1, 8, [.nilp], []⟩),
  (16, ⟨.ptr, 1, 8, [.nilp], []⟩),
  (17, ⟨.ptr, 1, 8, [.nilp], []⟩),
  (18, ⟨.strct [(0, 17, 1)], 1, 8, [.nilp], []⟩),
  (19, ⟨.strct [(0, 17, 1)], 1, 8, [.nilp], []⟩),
  (20, ⟨.ifc, 1, 16, [.nili], []⟩),
  (21, ⟨.int .i32, 1, 4, [.int .i32 0], []⟩),
  (22, ⟨.fnc, 1, 8, [.nilf], []⟩),
  (23, ⟨.fnc, 1, 8, [.nilf], []⟩),
  (24, ⟨.slc 26, 1, 24, [encL 4 enc_Expr ([] : List Expr)], []⟩),
  (25, ⟨.strct [(0, 3, 1), (1, 2, 1), (2, 9, 1), (3, 24, 1)], 4, 56, [.int .i64 0, .int .i64 0, .str ([] : List UInt8), encL 4 enc_Expr ([] : List Expr)], []⟩),
  (26, ⟨.strct [(0, 3, 1), (1, 2, 1), (2, 9, 1), (3, 24, 1)], 4, 56, [.int .i64 0, .int .i64 0, .str ([] : List UInt8), encL 4 enc_Expr ([] : List Expr)], []⟩),
  (27, ⟨.int .i64, 1, 8, [.int .i64 0], []⟩),
  (29, ⟨.fnc, 1, 8, [.nilf], []⟩),
  (30, ⟨.fnc, 1, 8, [.nilf], []⟩),
  (31, ⟨.slc 68, 1, 24, [encL 2 enc_Param ([] : List Param)], []⟩),
  (32, ⟨.slc 79, 1, 24, [encL 13 enc_Stmt ([] : List Stmt)], []⟩),
  (33, ⟨.strct [(0, 9, 1), (1, 31, 1), (2, 32, 1)], 3, 64, [.str ([] : List UInt8), encL 2 enc_Param ([] : List Param), encL 13 enc_Stmt ([] : List Stmt)], []⟩),
  (34, ⟨.strct [(0, 9, 1), (1, 31, 1), (2, 32, 1)], 3, 64, [.str ([] : List UInt8), encL 2 enc_Param ([] : List Param), encL 13 enc_Stmt ([] : List Stmt)], []⟩),
  (36, ⟨.fnc, 1, 8, [.nilf], []⟩),
  (37, ⟨.fnc, 1, 8, [.nilf], []⟩),
  (38, ⟨.slc 34, 1, 24, [encL 3 enc_Proc ([] : List Proc)], []⟩),
  (40, ⟨.fnc, 1, 8, [.nilf], []⟩),
  (41, ⟨.fnc, 1, 8, [.nilf], []⟩),
  (42, ⟨.fnc, 1, 8, [.nilf], []⟩),
  (43, ⟨.fnc, 1, 8, [.nilf], []⟩),
  (44, ⟨.fnc, 1, 8, [.nilf], []⟩),
  (45, ⟨.fnc, 1, 8, [.nilf], []⟩),
  (46, ⟨.fnc, 1, 8, [.nilf], []⟩),
  (47, ⟨.fnc, 1, 8, [.nilf], []⟩),
  (48, ⟨.fnc, 1, 8, [.nilf], []⟩),
  (49, ⟨.fnc, 1, 8, [.nilf], []⟩),
  (50, ⟨.fnc, 1, 8, [.nilf], []⟩),
  (51, ⟨.fnc, 1, 8, [.nilf], []⟩),
  (52, ⟨.slc 100, 1, 24, [encL 4 enc_Token ([] : List Token)], []⟩),
  (54, ⟨.fnc, 1, 8, [.nilf], []⟩),
  (56, ⟨.fnc, 1, 8, [.nilf], []⟩),
  (58, ⟨.fnc, 1, 8, [.nilf], []⟩),
  (59, ⟨.ptr, 1, 8, [.nilp], []⟩),
  (60, ⟨.fnc, 1, 8, [.nilf], []⟩),
  (61, ⟨.fnc, 1, 8, [.nilf], []⟩),
  (62, ⟨.fnc, 1, 8, [.nilf], []⟩),
  (63, ⟨.fnc, 1, 8, [.nilf], []⟩),
  (64, ⟨.fnc, 1, 8, [.nilf], []⟩),
  (65, ⟨.fnc, 1, 8, [.nilf], []⟩),
  (66, ⟨.fnc, 1, 8, [.nilf], []⟩),
  (67, ⟨.strct [(0, 9, 1), (1, 3, 1)], 2, 24, [.str ([] : List UInt8), .int .i64 0], []⟩),
  (68, ⟨.strct [(0, 9, 1), (1, 3, 1)], 2, 24, [.str ([] : List UInt8), .int .i64 0], []⟩),
  (69, ⟨.fnc, 1, 8, [.nilf], []⟩),
  (70, ⟨.strct [(0, 52, 1), (1, 3, 1)], 2, 32, [encL 4 enc_Token ([] : List Token), .int .i64 0], []⟩),
  (71, ⟨.strct [(0, 52, 1), (1, 3, 1)], 2, 32, [encL 4 enc_Token ([] : List Token), .int .i64 0], []⟩),
  (72, ⟨.fnc, 1, 8, [.nilf], []⟩),
  (73, ⟨.fnc, 1, 8, [.nilf], []⟩),
  (74, ⟨.fnc, 1, 8, [.nilf], []⟩),
  (75, ⟨.fnc, 1, 8, [.nilf], []⟩),
  (76, ⟨.fnc, 1, 8, [.nilf], []⟩),
  (77, ⟨.fnc, 1, 8, [.nilf], []⟩),
  (78, ⟨.strct [(0, 3, 1), (1, 9, 1), (2, 3, 1), (3, 26, 4), (7, 26, 4), (11, 32, 1), (12, 32, 1)], 13, 192, [.int .i64 0, .str ([] : List UInt8), .int .i64 0, .int .i64 0, .int .i64 0, .str ([] : List UInt8), encL 4 enc_Expr ([] : List Expr), .int .i64 0, .int .i64 0, .str ([] : List UInt8), encL 4 enc_Expr ([] : List Expr), encL 13 enc_Stmt ([] : List Stmt), encL 13 enc_Stmt ([] : List Stmt)], []⟩),
  (79, ⟨.strct [(0, 3, 1), (1, 9, 1), (2, 3, 1), (3, 26, 4), (7, 26, 4), (11, 32, 1), (12, 32, 1)], 13, 192, [.int .i64 0, .str ([] : List UInt8), .int .i64 0, .int .i64 0, .int .i64 0, .str ([] : List UInt8), encL 4 enc_Expr ([] : List Expr), .int .i64 0, .int .i64 0, .str ([] : List UInt8), encL 4 enc_Expr ([] : List Expr), encL 13 enc_Stmt ([] : List Stmt), encL 13 enc_Stmt ([] : List Stmt)], []⟩),
  (80, ⟨.fnc, 1, 8, [.nilf], []⟩),
  (81, ⟨.fnc, 1, 8, [.nilf], []⟩),
  (82, ⟨.fnc, 1, 8, [.nilf], []⟩),
  (83, ⟨.slc 9, 1, 24, [encL 1 e_str ([] : List (List UInt8))], []⟩),
  (84, ⟨.fnc, 1, 8, [.nilf], []⟩),
  (85, ⟨.fnc, 1, 8, [.nilf], []⟩),
  (86, ⟨.ptr, 1, 8, [.nilp], []⟩),
  (87, ⟨.ptr, 1, 8, [.nilp], []⟩),
  (88, ⟨.slc 5, 1, 24, [encL 1 e_u8 ([] : List Int)], []⟩),
  (89, ⟨.strct [(0, 87, 1), (1, 88, 1)], 2, 32, [.nilp, encL 1 e_u8 ([] : List Int)], []⟩),
  (90, ⟨.strct [(0, 87, 1), (1, 88, 1)], 2, 32, [.nilp, encL 1 e_u8 ([] : List Int)], [(0, 90)]⟩),
  (91, ⟨.strct [(0, 90, 2), (2, 3, 1)], 3, 40, [.nilp, encL 1 e_u8 ([] : List Int), .int .i64 0], [(0, 90)]⟩),
  (92, ⟨.strct [(0, 90, 2), (2, 3, 1)], 3, 40, [.nilp, encL 1 e_u8 ([] : List Int), .int .i64 0], [(0, 90)]⟩),
  (93, ⟨.fnc, 1, 8, [.nilf], []⟩),
  (94, ⟨.fnc, 1, 8, [.nilf], []⟩),
  (95, ⟨.fnc, 1, 8, [.nilf], []⟩),
  (96, ⟨.fnc, 1, 8, [.nilf], []⟩),
  (97, ⟨.fnc, 1, 8, [.nilf], []⟩),
  (98, ⟨.fnc, 1, 8, [.nilf], []⟩),
  (99, ⟨.strct [(0, 3, 1), (1, 9, 1), (2, 2, 1), (3, 3, 1)], 4, 40, [.int .i64 0, .str ([] : List UInt8), .int .i64 0, .int .i64 0], []⟩),
  (100, ⟨.strct [(0, 3, 1), (1, 9, 1), (2, 2, 1), (3, 3, 1)], 4, 40, [.int .i64 0, .str ([] : List UInt8), .int .i64 0, .int .i64 0], []⟩),
  (102, ⟨.fnc, 1, 8, [.nilf], []⟩),
  (103, ⟨.fnc, 1, 8, [.nilf], []⟩),
  (104, ⟨.fnc, 1, 8, [.nilf], []⟩),
  (105, ⟨.ifc, 1, 16, [.nili], []⟩),
  (106, ⟨.ifc, 1, 16, [.nili], []⟩),
  (107, ⟨.fnc, 1, 8, [.nilf], []⟩),
  (109, ⟨.fnc, 1, 8, [.nilf], []⟩),
  (110, ⟨.fnc, 1, 8, [.nilf], []⟩),
  (111, ⟨.fnc, 1, 8, [.nilf], []⟩),
  (112, ⟨.fnc, 1, 8, [.nilf], []⟩),
  (113, ⟨.strct [(0, 3, 1), (1, 27, 1)], 2, 16, [.int .i64 0, .int .i64 0], []⟩),
  (114, ⟨.strct [(0, 3, 1), (1, 27, 1)], 2, 16, [.int .i64 0, .int .i64 0], []⟩),
  (116, ⟨.fnc, 1, 8, [.nilf], []⟩),
  (117, ⟨.fnc, 1, 8, [.nilf], []⟩),
  (118, ⟨.fnc, 1, 8, [.nilf], []⟩),
  (120, ⟨.fnc, 1, 8, [.nilf], []⟩),
  (121, ⟨.fnc, 1, 8, [.nilf], []⟩),
  (122, ⟨.fnc, 1, 8, [.nilf], []⟩),
  (123, ⟨.fnc, 1, 8, [.nilf], []⟩),
  (124, ⟨.fnc, 1, 8, [.nilf], []⟩),
  (125, ⟨.fnc, 1, 8, [.nilf], []⟩),
  (126, ⟨.fnc, 1, 8, [.nilf], []⟩),
  (127, ⟨.fnc, 1, 8, [.nilf], []⟩),
  (128, ⟨.fnc, 1, 8, [.nilf], []⟩),
  (129, ⟨.fnc, 1, 8, [.nilf], []⟩),
  (130, ⟨.fnc, 1, 8, [.nilf], []⟩),
  (132, ⟨.fnc, 1, 8, [.nilf], []⟩),
  (134, ⟨.fnc, 1, 8, [.nilf], []⟩),
  (135, ⟨.slc 138, 1, 24, [encL 20 enc_Vz8 ([] : List Vz8)], []⟩),
  (136, ⟨.fnc, 1, 8, [.nilf], []⟩),
  (137, ⟨.strct [(0, 4, 1), (1, 79, 13), (14, 3, 1), (15, 26, 4), (19, 4, 1)], 20, 272, [.bool false, .int .i64 0, .str ([] : List UInt8), .int .i64 0, .int .i64 0, .int .i64 0, .str ([] : List UInt8), encL 4 enc_Expr ([] : List Expr), .int .i64 0, .int .i64 0, .str ([] : List UInt8), encL 4 enc_Expr ([] : List Expr), encL 13 enc_Stmt ([] : List Stmt), encL 13 enc_Stmt ([] : List Stmt), .int .i64 0, .int .i64 0, .int .i64 0, .str ([] : List UInt8), encL 4 enc_Expr ([] : List Expr), .bool false], []⟩),
  (138, ⟨.strct [(0, 4, 1), (1, 79, 13), (14, 3, 1), (15, 26, 4), (19, 4, 1)], 20, 272, [.bool false, .int .i64 0, .str ([] : List UInt8), .int .i64 0, .int .i64 0, .int .i64 0, .str ([] : List UInt8), encL 4 enc_Expr ([] : List Expr), .int .i64 0, .int .i64 0, .str ([] : List UInt8), encL 4 enc_Expr ([] : List Expr), encL 13 enc_Stmt ([] : List Stmt), encL 13 enc_Stmt ([] : List Stmt), .int .i64 0, .int .i64 0, .int .i64 0, .str ([] : List UInt8), encL 4 enc_Expr ([] : List Expr), .bool false], []⟩),
  (139, ⟨.fnc, 1, 8, [.nilf], []⟩),
  (140, ⟨.fnc, 1, 8, [.nilf], []⟩),
  (141, ⟨.fnc, 1, 8, [.nilf], []⟩),
  (142, ⟨.fnc, 1, 8, [.nilf], []⟩),
  (143, ⟨.fnc, 1, 8, [.nilf], []⟩),
  (144, ⟨.fnc, 1, 8, [.nilf], []⟩),
  (145, ⟨.ptr, 1, 8, [.nilp], []⟩),
  (146, ⟨.strct [(0, 3, 1), (1, 81, 1), (2, 82, 1)], 3, 24, [.int .i64 0, .nilf, .nilf], []⟩),
  (147, ⟨.strct [(0, 3, 1), (1, 81, 1), (2, 82, 1)], 3, 24, [.int .i64 0, .nilf, .nilf], []⟩),
  (148, ⟨.fnc, 1, 8, [.nilf], []⟩),
  (149, ⟨.strct [(0, 4, 1), (1, 4, 1), (2, 4, 1), (3, 4, 1), (4, 4, 1), (5, 4, 1)], 6, 6, [.bool false, .bool false, .bool false, .bool false, .bool false, .bool false], []⟩),
  (150, ⟨.strct [(0, 4, 1), (1, 4, 1), (2, 4, 1), (3, 4, 1), (4, 4, 1), (5, 4, 1)], 6, 6, [.bool false, .bool false, .bool false, .bool false, .bool false, .bool false], []⟩),
  (152, ⟨.fnc, 1, 8, [.nilf], []⟩),
  (153, ⟨.fnc, 1, 8, [.nilf], []⟩),
  (154, ⟨.fnc, 1, 8, [.nilf], []⟩),
  (155, ⟨.fnc, 1, 8, [.nilf], []⟩),
  (156, ⟨.fnc, 1, 8, [.nilf], []⟩),
  (157, ⟨.ptr, 1, 8, [.nilp], []⟩),
  (159, ⟨.fnc, 1, 8, [.nilf], []⟩),
  (161, ⟨.fnc, 1, 8, [.nilf], []⟩),
  (162, ⟨.fnc, 1, 8, [.nilf], []⟩),
  (163, ⟨.fnc, 1, 8, [.nilf], []⟩),
  (164, ⟨.fnc, 1, 8, [.nilf], []⟩),
  (165, ⟨.fnc, 1, 8, [.nilf], []⟩),
  (166, ⟨.fnc, 1, 8, [.nilf], []⟩),
  (167, ⟨.fnc, 1, 8, [.nilf], []⟩),
  (168, ⟨.slc 3, 1, 24, [encL 1 e_i64 ([] : List Int)], []⟩),
  (169, ⟨.fnc, 1, 8, [.nilf], []⟩),
  (171, ⟨.fnc, 1, 8, [.nilf], []⟩),
  (172, ⟨.fnc, 1, 8, [.nilf], []⟩),
  (174, ⟨.fnc, 1, 8, [.nilf], []⟩),
  (175, ⟨.fnc, 1, 8, [.nilf], []⟩),
  (176, ⟨.fnc, 1, 8, [.nilf], []⟩),
  (177, ⟨.fnc, 1, 8, [.nilf], []⟩),
  (179, ⟨.fnc, 1, 8, [.nilf], []⟩),
  (180, ⟨.fnc, 1, 8, [.nilf], []⟩),
  (182, ⟨.fnc, 1, 8, [.nilf], []⟩),
  (183, ⟨.fnc, 1, 8, [.nilf], []⟩),
  (184, ⟨.fnc, 1, 8, [.nilf], []⟩),
  (185, ⟨.fnc, 1, 8, [.nilf], []⟩),
  (186, ⟨.fnc, 1, 8, [.nilf], []⟩),
  (187, ⟨.fnc, 1, 8, [.nilf], []⟩),
  (189, ⟨.fnc, 1, 8, [.nilf], []⟩),
  (191, ⟨.int .u64, 1, 8, [.int .u64 0], []⟩),
  (192, ⟨.fnc, 1, 8, [.nilf], []⟩),
  (193, ⟨.fnc, 1, 8, [.nilf], []⟩),
  (195, ⟨.fnc, 1, 8, [.nilf], []⟩),
  (196, ⟨.fnc, 1, 8, [.nilf], []⟩),
  (197, ⟨.fnc, 1, 8, [.nilf], []⟩),
  (199, ⟨.int .u32, 1, 4, [.int .u32 0], []⟩),
  (201, ⟨.fnc, 1, 8, [.nilf], []⟩),
  (202, ⟨.int .u64, 1, 8, [.int .u64 0], []⟩),
  (203, ⟨.fnc, 1, 8, [.nilf], []⟩),
  (204, ⟨.int .i64, 1, 8, [.int .i64 0], []⟩),
  (206, ⟨.fnc, 1, 8, [.nilf], []⟩),
  (207, ⟨.ptr, 1, 8, [.nilp], []⟩),
  (208, ⟨.fnc, 1, 8, [.nilf], []⟩),
  (209, ⟨.fnc, 1, 8, [.nilf], []⟩),
  (210, ⟨.fnc, 1, 8, [.nilf], []⟩),
  (211, ⟨.fnc, 1, 8, [.nilf], []⟩),
  (212, ⟨.strct [(0, 9, 1), (1, 9, 1), (2, 106, 1)], 3, 48, [.str ([] : List UInt8), .str ([] : List UInt8), .nili], []⟩),
  (213, ⟨.strct [(0, 9, 1), (1, 9, 1), (2, 106, 1)], 3, 48, [.str ([] : List UInt8), .str ([] : List UInt8), .nili], []⟩),
  (214, ⟨.fnc, 1, 8, [.nilf], []⟩),
  (217, ⟨.ptr, 1, 8, [.nilp], []⟩),
  (218, ⟨.strct [(0, 9, 1)], 1, 16, [.str ([] : List UInt8)], []⟩),
  (219, ⟨.strct [(0, 9, 1)], 1, 16, [.str ([] : List UInt8)], []⟩),
  (220, ⟨.strct [(0, 17, 1), (1, 17, 1), (2, 17, 1), (3, 9, 1)], 4, 40, [.nilp, .nilp, .nilp, .str ([] : List UInt8)], []⟩),
  (221, ⟨.strct [(0, 17, 1), (1, 17, 1), (2, 17, 1), (3, 9, 1)], 4, 40, [.nilp, .nilp, .nilp, .str ([] : List UInt8)], []⟩),
  (225, ⟨.int .u8, 1, 1, [.int .u8 0], []⟩),
  (226, ⟨.int .u8, 1, 1, [.int .u8 0], []⟩),
  (227, ⟨.fnc, 1, 8, [.nilf], []⟩),
  (228, ⟨.int .i32, 1, 4, [.int .i32 0], []⟩),
  (229, ⟨.int .i32, 1, 4, [.int .i32 0], []⟩),
  (230, ⟨.strct [(0, 12, 1), (1, 12, 1), (2, 199, 1), (3, 225, 1), (4, 5, 1), (5, 5, 1), (6, 226, 1), (7, 227, 1), (8, 157, 1), (9, 228, 1), (10, 229, 1)], 11, 48, [.int .u64 0, .int .u64 0, .int .u32 0, .int .u8 0, .int .u8 0, .int .u8 0, .int .u8 0, .nilf, .nilp, .int .i32 0, .int .i32 0], []⟩),
  (231, ⟨.strct [(0, 12, 1), (1, 12, 1), (2, 199, 1), (3, 225, 1), (4, 5, 1), (5, 5, 1), (6, 226, 1), (7, 227, 1), (8, 157, 1), (9, 228, 1), (10, 229, 1)], 11, 48, [.int .u64 0, .int .u64 0, .int .u32 0, .int .u8 0, .int .u8 0, .int .u8 0, .int .u8 0, .nilf, .nilp, .int .i32 0, .int .i32 0], []⟩)]
theorem tt_ok : TTok Tryz.prog tt = true := by kernel_rfl
theorem mo_ok : Tryz.prog.follows .mixedOrders = true := by kernel_rfl
end Go.Ab.Y

/- Steps of the contracts. Printed by a program. -/
namespace Go.Ab.Y.T
open Go Go.Ab Go.Proofs
set_option linter.unusedVariables false
structure Con (f : FuncId) (args : List D) (ow : List (Nat × TypeId)) (H : List (List Ent)) {ρ : Type} (F : Option ρ) (out : ρ → Out) (H2 : ρ → List (List Ent)) : Prop where
  of : ∀ {r : ρ}, F = some r → saysOf Tryz.prog f args ow H (out r) (H2 r)
def postC (E : Nat) (rs : List ResultVar) {ρ : Type} (out : ρ → Out) (H2 : ρ → List (List Ent)) (r : ρ) : AE → St → Prop := postF tt E rs fun o H' => o = out r ∧ H' = H2 r
def rs0 (s st : St) : Option St := restr (s.env.map (·.1)) (s.H.map (·.1)) s.nxt st.env st.H st.nxt
noncomputable abbrev R0 (N : Nat) (ops : Array Oper) (rs : List RS) (st : St) := run0 (saysC Tryz.prog) tt N ops.toList rs st
noncomputable abbrev RD (N : Nat) (ops : Array Oper) (rs : List (Nat × List RS)) (st : St) := runD0 (saysC Tryz.prog) tt N ops.toList (spread ops.toList.length 0 rs) st
noncomputable abbrev RPD (N : Nat) (ops : Array Oper) (kp : Nat) (rs : List (Nat × List RS)) (st : St) := runDP (saysC Tryz.prog) tt N ops.toList kp (st.nxt + ops.toList.length) (spread ops.toList.length 0 rs) st
abbrev eI (x : Int) : Ent := ⟨.v (.int .i64 x), none⟩
abbrev eB (x : Bool) : Ent := ⟨.v (.bool x), none⟩
abbrev eS (x : List UInt8) : Ent := ⟨.v (.str x), none⟩
abbrev eL {α : Type} [Inhabited α] (k : Nat) (e : α → V) (l : List α) : Ent := ⟨.v (encL k e l), none⟩
abbrev eP (r o : Nat) : Ent := ⟨.ptr r o, none⟩
abbrev eV (x : V) : Ent := ⟨.v x, none⟩
abbrev vI (x : Int) : D := .v (.int .i64 x)
abbrev vB (x : Bool) : D := .v (.bool x)
abbrev vS (x : List UInt8) : D := .v (.str x)
abbrev vL {α : Type} [Inhabited α] (k : Nat) (e : α → V) (l : List α) : D := .v (encL k e l)
abbrev oR (d : D) : Out := .ret d none
abbrev Z_ := all_nil
theorem A_ {p : Prop} {l : List Prop} (h : p) (hl : AllP l) : AllP (p :: l) := ⟨h, hl⟩
section
variable {N E : Nat} {st : St} {Q : AE → St → Prop} {next : St → Prop} {x y : Code} {id i j : Nat} {ops : Array Oper}
theorem tn_ (h : next st) : AE.then next Q .normal st := h
theorem tx_ (h : Q (.exit i) st) : AE.then next Q (.exit i) st := h
theorem tr_ (h : Q .ret st) : AE.then next Q .ret st := h
theorem tp_ {x : V} (h : Q (.pan x) st) : AE.then next Q (.pan x) st := h
theorem bn_ (h : Q .normal st) : AE.inBlock i Q .normal st := h
theorem bh_ (h : Q .normal st) : AE.inBlock i Q (.exit i) st := AE.block_hit h
theorem bm_ (h : Q (.exit j) st) (hne : Nat.beq j i = false := by kernel_rfl) : AE.inBlock i Q (.exit j) st := AE.block_miss hne h
theorem br_ (h : Q .ret st) : AE.inBlock i Q .ret st := h
theorem bp_ {x : V} (h : Q (.pan x) st) : AE.inBlock i Q (.pan x) st := h
theorem Sq (h : AWp Tryz.prog N E x (AE.then (AWp Tryz.prog N E y Q) Q) st) : AWp Tryz.prog N E (.seq x y) Q st := AWp.seq h
theorem Sk (h : Q .normal st) : AWp Tryz.prog N E .skip Q st := AWp.skip h
theorem Lb {l : Nat} (h : Q .normal st) : AWp Tryz.prog N E (.label l) Q st := AWp.label h
theorem Ex (h : Q (.exit i) st) : AWp Tryz.prog N E (.exit i) Q st := AWp.exit h
theorem Rt (h : Q .ret st) : AWp Tryz.prog N E .ret Q st := AWp.ret h
theorem Sc (h : AWp Tryz.prog N E x Q st) : AWp Tryz.prog N E (.scope x) Q st := AWp.scope h
theorem Bk (h : AWp Tryz.prog N E x (AE.inBlock i Q) st) : AWp Tryz.prog N E (.block i x) Q st := AWp.block h
theorem Ro (rs : List RS) {ps : List Prop} (hob : AllP ps) (hQ : Q .normal (stOf (R0 N ops rs st))) (hr : obOf (R0 N ops rs st) = some ps := by kernel_rfl) : AWp Tryz.prog N E (.region id ops false) Q st := AWp.rg tt_ok rs hr hob hQ
theorem Rk (hQ : Q .normal (stOf (R0 N ops [] st))) (hr : obOf (R0 N ops [] st) = some [] := by kernel_rfl) : AWp Tryz.prog N E (.region id ops false) Q st := Ro [] Z_ hQ hr
theorem G (hQ : AWp Tryz.prog N E y Q (stOf (R0 N ops [] st))) (hr : obOf (R0 N ops [] st) = some [] := by kernel_rfl) : AWp Tryz.prog N E (.seq (.region id ops false) y) Q st := Sq (Rk (Q := AE.then (AWp Tryz.prog N E y Q) Q) hQ hr)
theorem Ho (rs : List RS) {ps : List Prop} (hob : AllP ps) (hQ : AWp Tryz.prog N E y Q (stOf (R0 N ops rs st))) (hr : obOf (R0 N ops rs st) = some ps := by kernel_rfl) : AWp Tryz.prog N E (.seq (.region id ops false) y) Q st := Sq (Ro (Q := AE.then (AWp Tryz.prog N E y Q) Q) rs hob hQ hr)
section
variable {f : FuncId} {args : List D} {ow : List (Nat × TypeId)} {H H2 : List (List Ent)} {out : Out}
theorem Rn (p : saysOf Tryz.prog f args ow H out H2) (hQ : Q .normal (stOf (R0 N ops [orn p []] st))) (hr : obOf (R0 N ops [orn p []] st) = some [saysOf Tryz.prog f args ow H out H2] := by kernel_rfl) : AWp Tryz.prog N E (.region id ops false) Q st := Ro [orn p []] (A_ p Z_) hQ hr
theorem Rw (p : saysOf Tryz.prog f args ow H out H2) (hQ : Q .normal (stOf (R0 N ops [orc p []] st))) (hr : obOf (R0 N ops [orc p []] st) = some [saysOf Tryz.prog f args ow H out H2] := by kernel_rfl) : AWp Tryz.prog N E (.region id ops false) Q st := Ro [orc p []] (A_ p Z_) hQ hr
theorem Gn (p : saysOf Tryz.prog f args ow H out H2) (hQ : AWp Tryz.prog N E y Q (stOf (R0 N ops [orn p []] st))) (hr : obOf (R0 N ops [orn p []] st) = some [saysOf Tryz.prog f args ow H out H2] := by kernel_rfl) : AWp Tryz.prog N E (.seq (.region id ops false) y) Q st := Ho [orn p []] (A_ p Z_) hQ hr
theorem Gw (p : saysOf Tryz.prog f args ow H out H2) (hQ : AWp Tryz.prog N E y Q (stOf (R0 N ops [orc p []] st))) (hr : obOf (R0 N ops [orc p []] st) = some [saysOf Tryz.prog f args ow H out H2] := by kernel_rfl) : AWp Tryz.prog N E (.seq (.region id ops false) y) Q st := Ho [orc p []] (A_ p Z_) hQ hr
end
theorem Rd (rs : List (Nat × List RS)) {ps : List Prop} (hob : AllP ps) (hQ : Q .normal (stOf (RD N ops rs st))) (hr : obOf (RD N ops rs st) = some ps := by kernel_rfl) : AWp Tryz.prog N E (.region id ops true) Q st := AWp.rgD tt_ok mo_ok rs hr hob hQ
theorem Hd (rs : List (Nat × List RS)) {ps : List Prop} (hob : AllP ps) (hQ : AWp Tryz.prog N E y Q (stOf (RD N ops rs st))) (hr : obOf (RD N ops rs st) = some ps := by kernel_rfl) : AWp Tryz.prog N E (.seq (.region id ops true) y) Q st := Sq (Rd (Q := AE.then (AWp Tryz.prog N E y Q) Q) rs hob hQ hr)
theorem RP (x : V) (rs : List RS) {ps : List Prop} (hob : AllP ps) (hQ : Q (.pan x) (stOf (R0 N ops rs st))) (hr : panOf (R0 N ops rs st) = some (x, ps) := by kernel_rfl) : AWp Tryz.prog N E (.region id ops false) Q st := AWp.rgP tt_ok rs hr hob hQ
theorem RDP (kp : Nat) (x : V) (rs : List (Nat × List RS)) {ps : List Prop} (hob : AllP ps) (hQ : ∀ n, Q (.pan x) { env := [], H := panH (RPD N ops kp rs st), nxt := n }) (hr : panDP (RPD N ops kp rs st) = some (x, ps) := by kernel_rfl) : AWp Tryz.prog N E (.region id ops true) Q st := AWp.rgDP tt_ok mo_ok kp rs hr hob hQ
theorem C {α : Type} {b : Bool} {p q : Option α} {r : α} {c : Nat} (h : (bif b then p else q) = some r) (ht : p = some r → AWp Tryz.prog N E x Q st) (hf : q = some r → AWp Tryz.prog N E y Q st) (hc : (look st.env c).map (·.d) = some (.v (.bool b)) := by kernel_rfl) : AWp Tryz.prog N E (.cond (.tmp c) x y) Q st := AWp.cnd h hc ht hf
section
variable {ρ : Type} {a r : ρ} {out : ρ → Out} {H2 : ρ → List (List Ent)} {rs : List ResultVar}
theorem Pr (h : some a = some r) (hl : leave tt E rs st = some (out a, H2 a) := by kernel_rfl) : postC E rs out H2 r .ret st := by
  obtain rfl := Option.some.inj h; exact post_ret hl
theorem Pm (h : some a = some r) (hl : leave tt E rs st = some (out a, H2 a) := by kernel_rfl) : postC E rs out H2 r .normal st := by
  obtain rfl := Option.some.inj h; exact post_normal hl
theorem Pp {x : V} (h : some a = some r) (hl : (leaveP E st.H).map eraB = some (H2 a) := by kernel_rfl) (hx : out a = .pan x := by kernel_rfl) : postC E rs out H2 r (.pan x) st := by
  obtain rfl := Option.some.inj h
  show postF tt E rs _ _ _
  rw [hx]; exact post_pan hl
end
theorem Fw {f : FuncId} {fn : Func} {c : Code} {args : List D} {ow : List (Nat × TypeId)} {H : List (List Ent)} {ρ : Type} {F : Option ρ} {out : ρ → Out} {H2 : ρ → List (List Ent)} (hf : Tryz.prog.funcs[f]? = some fn) (hb : fn.body = some c)
    (h : ∀ {r : ρ}, F = some r → AWp Tryz.prog fn.ntmps H.length c (postC H.length fn.results.toList out H2 r) { env := envOf args ow, H := enumFrom' 0 H, nxt := H.length }) (hname : decide (fn.name = "runtime.NumGoroutine") = false := by rfl) (ha : Nat.ble args.length fn.ntmps = true := by rfl) : Con f args ow H F out H2 :=
  ⟨fun h0 => sw_ tt_ok hf hb hname ha (h h0)⟩
end
section
variable {α β γ δ : Type} {p : Prop}
theorem Hv {q : Prop} (a : p) (k : p → q) : q := k a
theorem Sv {τ : Type} {X : Option τ} (c : α ⊕ β → τ) {x : α ⊕ β} {f : α → Option γ} {g : β → Option γ} {r : γ} (q : X = some (c x)) (h : Sm.on x f g = some r) (k1 : ∀ a, X = some (c (.inl a)) → f a = some r → p) (k2 : ∀ b, X = some (c (.inr b)) → g b = some r → p) : p :=
  match x, q, h with
  | .inl a, q, h => k1 a q h
  | .inr b, q, h => k2 b q h
theorem no_ {r : α} (h : none = some r) : p := by cases h
theorem As {b : Bool} {x : Option α} {r : α} (h : ass b x = some r) (k : b = true → x = some r → p) : p := k (ass_some h).1 (ass_some h).2
theorem Bd {x : Option α} {f : α → Option β} {r : β} (h : Option.bind x f = some r) (k : ∀ a, x = some a → f a = some r → p) : p := let ⟨a, h1, h2⟩ := bind_some h; k a h1 h2
theorem Bp {x : Option (Pn α β)} {f : α → β → Option γ} {g : V → β → Option γ} {r : γ} (h : Option.bind x (fun z => Pn.on z f g) = some r) (k1 : ∀ a b, x = some (.ret a b) → f a b = some r → p) (k2 : ∀ y b, x = some (.pan y b) → g y b = some r → p) : p :=
  let ⟨z, h1, h2⟩ := bind_some h
  match z, h1, h2 with
  | .ret a b, h1, h2 => k1 a b h1 h2
  | .pan y b, h1, h2 => k2 y b h1 h2
end
section
variable {ρ : Type} {r : ρ} {N E : Nat} {st : St} {Q : AE → St → Prop} {x y : Code}
theorem E0 {sh : St} {f : Option ρ} (h : f = some r) (hr : rs0 (sh) st = some (sh) := by kernel_rfl) : AE.then (fun st' => rs0 (sh) st' = some (sh) ∧ f = some r) Q .normal st := ⟨hr, h⟩
theorem K0 (sh : St) (f : Option ρ) (h1 : AWp Tryz.prog N E x (AE.then (fun st' => rs0 (sh) st' = some (sh) ∧ f = some r) Q) st) (h2 : f = some r → AWp Tryz.prog N E y Q (sh)) (hE : Nat.ble E (sh).nxt = true := by intros; kernel_rfl) : AWp Tryz.prog N E (.seq x y) Q st :=
  AWp.cut _ h1 fun st' ⟨hr, h⟩ => AWp.drop _ _ _ hr (hE) (h2 h)
end
section
variable {α : Type} {ρ : Type} {r : ρ} {N E : Nat} {st : St} {Q : AE → St → Prop} {x y : Code}
theorem E1 {sh : α → St} {f : α → Option ρ} {a0 : _} (h : f a0 = some r) (hr : rs0 (sh a0) st = some (sh a0) := by kernel_rfl) : AE.then (fun st' => ∃ a0, rs0 (sh a0) st' = some (sh a0) ∧ f a0 = some r) Q .normal st := ⟨a0, hr, h⟩
theorem K1 (sh : α → St) (f : α → Option ρ) (h1 : AWp Tryz.prog N E x (AE.then (fun st' => ∃ a0, rs0 (sh a0) st' = some (sh a0) ∧ f a0 = some r) Q) st) (h2 : ∀ a0, f a0 = some r → AWp Tryz.prog N E y Q (sh a0)) (hE : ∀ a0, Nat.ble E (sh a0).nxt = true := by intros; kernel_rfl) : AWp Tryz.prog N E (.seq x y) Q st :=
  AWp.cut _ h1 fun st' ⟨a0, hr, h⟩ => AWp.drop _ _ _ hr (hE a0) (h2 a0 h)
theorem L1 (sh : α → St) (F : Nat → α → Option ρ) (B : (α → Option ρ) → α → Option ρ) {n : Nat} {a0 : _} (h : F n a0 = some r) (body : ∀ k a0, B k a0 = some r → AWp Tryz.prog N E x (AE.then (fun st' => ∃ a0, rs0 (sh a0) st' = some (sh a0) ∧ k a0 = some r) Q) (sh a0)) (hi : rs0 (sh a0) st = some (sh a0) := by kernel_rfl) (hE : ∀ a0, Nat.ble E (sh a0).nxt = true := by intros; kernel_rfl) (h0 : ∀ a0, F 0 a0 = none := by intros; rfl) (hs : ∀ m a0, F (m + 1) a0 = B (F m) a0 := by intros; rfl) : AWp Tryz.prog N E (.loop x) Q st := by
  refine AWp.loop (σ := α) (fun m (s : α) st => rs0 (sh s) st = some (sh s) ∧ F m s = some r) ?_ (n := n) (s := a0) ⟨hi, h⟩
  rintro m a0 st' ⟨hr, h⟩
  cases m with
  | zero => have h2 := (h0 a0).symm.trans h; cases h2
  | succ m =>
    refine ⟨m, rfl, AWp.drop _ _ _ hr (hE a0) ((body (F m) a0 ((hs m a0).symm.trans h)).mono ?_)⟩
    intro ae st2 hq
    cases ae with
    | normal => obtain ⟨a0, g1, g2⟩ := hq; exact ⟨a0, g1, g2⟩
    | exit i => exact hq
    | ret => exact hq
    | pan x => exact hq
end
section
variable {α β : Type} {ρ : Type} {r : ρ} {N E : Nat} {st : St} {Q : AE → St → Prop} {x y : Code}
theorem E2 {sh : α → β → St} {f : α → β → Option ρ} {a0 a1 : _} (h : f a0 a1 = some r) (hr : rs0 (sh a0 a1) st = some (sh a0 a1) := by kernel_rfl) : AE.then (fun st' => ∃ a0 a1, rs0 (sh a0 a1) st' = some (sh a0 a1) ∧ f a0 a1 = some r) Q .normal st := ⟨a0, a1, hr, h⟩
theorem K2 (sh : α → β → St) (f : α → β → Option ρ) (h1 : AWp Tryz.prog N E x (AE.then (fun st' => ∃ a0 a1, rs0 (sh a0 a1) st' = some (sh a0 a1) ∧ f a0 a1 = some r) Q) st) (h2 : ∀ a0 a1, f a0 a1 = some r → AWp Tryz.prog N E y Q (sh a0 a1)) (hE : ∀ a0 a1, Nat.ble E (sh a0 a1).nxt = true := by intros; kernel_rfl) : AWp Tryz.prog N E (.seq x y) Q st :=
  AWp.cut _ h1 fun st' ⟨a0, a1, hr, h⟩ => AWp.drop _ _ _ hr (hE a0 a1) (h2 a0 a1 h)
theorem L2 (sh : α → β → St) (F : Nat → α → β → Option ρ) (B : (α → β → Option ρ) → α → β → Option ρ) {n : Nat} {a0 a1 : _} (h : F n a0 a1 = some r) (body : ∀ k a0 a1, B k a0 a1 = some r → AWp Tryz.prog N E x (AE.then (fun st' => ∃ a0 a1, rs0 (sh a0 a1) st' = some (sh a0 a1) ∧ k a0 a1 = some r) Q) (sh a0 a1)) (hi : rs0 (sh a0 a1) st = some (sh a0 a1) := by kernel_rfl) (hE : ∀ a0 a1, Nat.ble E (sh a0 a1).nxt = true := by intros; kernel_rfl) (h0 : ∀ a0 a1, F 0 a0 a1 = none := by intros; rfl) (hs : ∀ m a0 a1, F (m + 1) a0 a1 = B (F m) a0 a1 := by intros; rfl) : AWp Tryz.prog N E (.loop x) Q st := by
  refine AWp.loop (σ := α × β) (fun m (s : α × β) st => rs0 (sh s.1 s.2) st = some (sh s.1 s.2) ∧ F m s.1 s.2 = some r) ?_ (n := n) (s := (a0, a1)) ⟨hi, h⟩
  rintro m ⟨a0, a1⟩ st' ⟨hr, h⟩
  cases m with
  | zero => have h2 := (h0 a0 a1).symm.trans h; cases h2
  | succ m =>
    refine ⟨m, rfl, AWp.drop _ _ _ hr (hE a0 a1) ((body (F m) a0 a1 ((hs m a0 a1).symm.trans h)).mono ?_)⟩
    intro ae st2 hq
    cases ae with
    | normal => obtain ⟨a0, a1, g1, g2⟩ := hq; exact ⟨(a0, a1), g1, g2⟩
    | exit i => exact hq
    | ret => exact hq
    | pan x => exact hq
end
section
variable {α β γ : Type} {ρ : Type} {r : ρ} {N E : Nat} {st : St} {Q : AE → St → Prop} {x y : Code}
theorem E3 {sh : α → β → γ → St} {f : α → β → γ → Option ρ} {a0 a1 a2 : _} (h : f a0 a1 a2 = some r) (hr : rs0 (sh a0 a1 a2) st = some (sh a0 a1 a2) := by kernel_rfl) : AE.then (fun st' => ∃ a0 a1 a2, rs0 (sh a0 a1 a2) st' = some (sh a0 a1 a2) ∧ f a0 a1 a2 = some r) Q .normal st := ⟨a0, a1, a2, hr, h⟩
theorem L3 (sh : α → β → γ → St) (F : Nat → α → β → γ → Option ρ) (B : (α → β → γ → Option ρ) → α → β → γ → Option ρ) {n : Nat} {a0 a1 a2 : _} (h : F n a0 a1 a2 = some r) (body : ∀ k a0 a1 a2, B k a0 a1 a2 = some r → AWp Tryz.prog N E x (AE.then (fun st' => ∃ a0 a1 a2, rs0 (sh a0 a1 a2) st' = some (sh a0 a1 a2) ∧ k a0 a1 a2 = some r) Q) (sh a0 a1 a2)) (hi : rs0 (sh a0 a1 a2) st = some (sh a0 a1 a2) := by kernel_rfl) (hE : ∀ a0 a1 a2, Nat.ble E (sh a0 a1 a2).nxt = true := by intros; kernel_rfl) (h0 : ∀ a0 a1 a2, F 0 a0 a1 a2 = none := by intros; rfl) (hs : ∀ m a0 a1 a2, F (m + 1) a0 a1 a2 = B (F m) a0 a1 a2 := by intros; rfl) : AWp Tryz.prog N E (.loop x) Q st := by
  refine AWp.loop (σ := α × β × γ) (fun m (s : α × β × γ) st => rs0 (sh s.1 s.2.1 s.2.2) st = some (sh s.1 s.2.1 s.2.2) ∧ F m s.1 s.2.1 s.2.2 = some r) ?_ (n := n) (s := (a0, a1, a2)) ⟨hi, h⟩
  rintro m ⟨a0, a1, a2⟩ st' ⟨hr, h⟩
  cases m with
  | zero => have h2 := (h0 a0 a1 a2).symm.trans h; cases h2
  | succ m =>
    refine ⟨m, rfl, AWp.drop _ _ _ hr (hE a0 a1 a2) ((body (F m) a0 a1 a2 ((hs m a0 a1 a2).symm.trans h)).mono ?_)⟩
    intro ae st2 hq
    cases ae with
    | normal => obtain ⟨a0, a1, a2, g1, g2⟩ := hq; exact ⟨(a0, a1, a2), g1, g2⟩
    | exit i => exact hq
    | ret => exact hq
    | pan x => exact hq
end
section
variable {α β γ δ ε : Type} {ρ : Type} {r : ρ} {N E : Nat} {st : St} {Q : AE → St → Prop} {x y : Code}
theorem E5 {sh : α → β → γ → δ → ε → St} {f : α → β → γ → δ → ε → Option ρ} {a0 a1 a2 a3 a4 : _} (h : f a0 a1 a2 a3 a4 = some r) (hr : rs0 (sh a0 a1 a2 a3 a4) st = some (sh a0 a1 a2 a3 a4) := by kernel_rfl) : AE.then (fun st' => ∃ a0 a1 a2 a3 a4, rs0 (sh a0 a1 a2 a3 a4) st' = some (sh a0 a1 a2 a3 a4) ∧ f a0 a1 a2 a3 a4 = some r) Q .normal st := ⟨a0, a1, a2, a3, a4, hr, h⟩
theorem L5 (sh : α → β → γ → δ → ε → St) (F : Nat → α → β → γ → δ → ε → Option ρ) (B : (α → β → γ → δ → ε → Option ρ) → α → β → γ → δ → ε → Option ρ) {n : Nat} {a0 a1 a2 a3 a4 : _} (h : F n a0 a1 a2 a3 a4 = some r) (body : ∀ k a0 a1 a2 a3 a4, B k a0 a1 a2 a3 a4 = some r → AWp Tryz.prog N E x (AE.then (fun st' => ∃ a0 a1 a2 a3 a4, rs0 (sh a0 a1 a2 a3 a4) st' = some (sh a0 a1 a2 a3 a4) ∧ k a0 a1 a2 a3 a4 = some r) Q) (sh a0 a1 a2 a3 a4)) (hi : rs0 (sh a0 a1 a2 a3 a4) st = some (sh a0 a1 a2 a3 a4) := by kernel_rfl) (hE : ∀ a0 a1 a2 a3 a4, Nat.ble E (sh a0 a1 a2 a3 a4).nxt = true := by intros; kernel_rfl) (h0 : ∀ a0 a1 a2 a3 a4, F 0 a0 a1 a2 a3 a4 = none := by intros; rfl) (hs : ∀ m a0 a1 a2 a3 a4, F (m + 1) a0 a1 a2 a3 a4 = B (F m) a0 a1 a2 a3 a4 := by intros; rfl) : AWp Tryz.prog N E (.loop x) Q st := by
  refine AWp.loop (σ := α × β × γ × δ × ε) (fun m (s : α × β × γ × δ × ε) st => rs0 (sh s.1 s.2.1 s.2.2.1 s.2.2.2.1 s.2.2.2.2) st = some (sh s.1 s.2.1 s.2.2.1 s.2.2.2.1 s.2.2.2.2) ∧ F m s.1 s.2.1 s.2.2.1 s.2.2.2.1 s.2.2.2.2 = some r) ?_ (n := n) (s := (a0, a1, a2, a3, a4)) ⟨hi, h⟩
  rintro m ⟨a0, a1, a2, a3, a4⟩ st' ⟨hr, h⟩
  cases m with
  | zero => have h2 := (h0 a0 a1 a2 a3 a4).symm.trans h; cases h2
  | succ m =>
    refine ⟨m, rfl, AWp.drop _ _ _ hr (hE a0 a1 a2 a3 a4) ((body (F m) a0 a1 a2 a3 a4 ((hs m a0 a1 a2 a3 a4).symm.trans h)).mono ?_)⟩
    intro ae st2 hq
    cases ae with
    | normal => obtain ⟨a0, a1, a2, a3, a4, g1, g2⟩ := hq; exact ⟨(a0, a1, a2, a3, a4), g1, g2⟩
    | exit i => exact hq
    | ret => exact hq
    | pan x => exact hq
end
section
variable {α β γ δ ε ζ : Type} {ρ : Type} {r : ρ} {N E : Nat} {st : St} {Q : AE → St → Prop} {x y : Code}
end
end Go.Ab.Y.T

namespace Go.Ab.Y
open Go Go.Ab Go.Proofs
set_option linter.unusedVariables false
def F_cg0 (n : Nat) (s : List UInt8) : Option (List UInt8) := ass (decide (s.length ≤ 281474976710656)) <| some s
theorem c_cg0 {n : Nat} {s : List UInt8} {r : (List UInt8)} (h : F_cg0 n s = some r) : saysOf Tryz.prog 117 [.v (.str s)] [] [] (.ret (.v (.str r)) none) [] := by
  unfold F_cg0 at h
  obtain ⟨g, h⟩ := ass_some h
  obtain rfl := Option.some.inj h
  refine says_of_calls (fd := Tryz.f117) Tryz.func117 rfl rfl (vsOf := fun vs => vs = [.string ⟨⟨s⟩⟩]) (fun M β vs hl hr => ?_) (fun vs w hv hg => ?_)
  · match vs, hl with
    | [v], _ =>
      have := inv_str (hr 0 v _ rfl rfl)
      rw [this]
  · subst hv
    refine (Tryz.stringslite_Clone ⟨⟨s⟩⟩ w (show s.length ≤ 281474976710656 from of_decide_eq_true g)).mono ?_
    rintro e w' ⟨rfl, hb⟩
    refine ⟨_, rfl, fun M β => .v _ _ (.str _), fun b ob h => ?_, by rw [hb.os, hb.output]⟩
    rw [hb.block b (Array.getElem?_eq_some_iff.1 h).1]; exact h
def F_bx0 (n : Nat) (s : List UInt8) (c : Int) : Option Int := some (Lib.indexByte s c.toNat.toUInt8)
theorem c_bx0 {n : Nat} {s : List UInt8} {c : Int} {r : Int} (h : F_bx0 n s c = some r) : saysOf Tryz.prog 175 [.v (.str s), .v (.int .u8 c)] [] [] (.ret (.v (.int .i64 r)) none) [] := by
  unfold F_bx0 at h
  obtain rfl := Option.some.inj h
  refine says_of_calls (fd := Tryz.f175) Tryz.func175 rfl rfl (vsOf := fun vs => vs = [.string ⟨⟨s⟩⟩, .int .u8 c]) (fun M β vs hl hr => ?_) (fun vs w hv hg => ?_)
  · match vs, hl with
    | [v, u], _ =>
      have h1 := inv_str (hr 0 v _ rfl rfl)
      have h2 := inv_int (hr 1 u _ rfl rfl)
      rw [h1, h2]
  · subst hv
    refine (Tryz.stringslite_IndexByte ⟨⟨s⟩⟩ c w).mono ?_
    rintro e w' ⟨rfl, rfl⟩
    exact ⟨_, rfl, fun M β => .v _ _ (.int _ _), fun b ob h => h, rfl⟩
def F_ea0 (n : Nat) (s : List UInt8) : Option Int := ass (decide (s.length ≤ 140737488351232)) <| some (wordLen s)
theorem c_ea0 {n : Nat} {s : List UInt8} {r : Int} (h : F_ea0 n s = some r) : saysOf Tryz.prog 104 [.v (.str s)] [] [] (.ret (.v (.int .i64 r)) none) [] := by
  unfold F_ea0 at h
  obtain ⟨g, h⟩ := ass_some h
  obtain rfl := Option.some.inj h
  refine says_of_calls (fd := Tryz.f104) Tryz.func104 rfl rfl (vsOf := fun vs => vs = [.string ⟨⟨s⟩⟩]) (fun M β vs hl hr => ?_) (fun vs w hv hg => ?_)
  · match vs, hl with
    | [v], _ =>
      have := inv_str (hr 0 v _ rfl rfl)
      rw [this]
  · subst hv
    refine (word_walk ⟨⟨s⟩⟩ w (show s.length ≤ 140737488351232 from of_decide_eq_true g)).mono ?_
    rintro e w' ⟨rfl, pos, rfl⟩
    refine ⟨_, rfl, fun M β => .v _ _ (.int _ _), fun b ob h => ?_, rfl⟩
    rw [World.iter, Go.RowKit.Below.heap_alloc w _ b (Array.getElem?_eq_some_iff.1 h).1]; exact h
def pint (s : List UInt8) : Int ⊕ Int :=
  match Lib.parseIntB 64 s with
  | .ok v => .inl v
  | .range => .inr (Lib.intSat 64 s)
  | _ => .inr 0
theorem bytesWorld_oo (w : World) (e : TypeId) (t : ByteArray) : ((Lib.bytesWorld w e t).os, (Lib.bytesWorld w e t).output) = (w.os, w.output) := by
  rw [(Lib.bytesWorld_below w e t).os, (Lib.bytesWorld_below w e t).output]
def F_cq0 (n : Nat) (s : List UInt8) (base : Int) (bitSize : Int) : Option (Int ⊕ Int) :=
  ass (decide (base = 10 ∧ bitSize = 64 ∧ s.length ≤ 281474976710656)) <| some (pint s)
theorem good_vars : goodVars Tryz.prog = [2, 3] := by kernel_rfl
theorem c_cq0 {n : Nat} {s : List UInt8} {base : Int} {bitSize : Int} {r : (Int ⊕ Int)} (h : F_cq0 n s base bitSize = some r) : saysOf Tryz.prog 174 [.v (.str s), .v (.int .i64 base), .v (.int .i64 bitSize)] [] [] (Sm.on r (fun zy0 => .ret (.tup [.v (.int .i64 zy0), .v (.nili)]) none) (fun zy1 => .ret (.tup [.v (.int .i64 zy1), .v ((.iface 207 .any))]) none)) [] := by
  unfold F_cq0 at h
  obtain ⟨g, h⟩ := ass_some h
  obtain rfl := Option.some.inj h
  obtain ⟨rfl, rfl, hl⟩ := of_decide_eq_true g
  have hargs : ∀ (M : Mem) (β : Nat → Option Nat) (vs : List Value), vs.length = 3 → (∀ (i : Nat) v a, vs[i]? = some v → [D.v (.str s), .v (.int .i64 10), .v (.int .i64 64)][i]? = some a → RepD M β v a) → vs = [.string ⟨⟨s⟩⟩, .int .i64 10, .int .i64 64] := by
    intro M β vs hl hr
    match vs, hl with
    | [v, u, t], _ =>
      have h1 := inv_str (hr 0 v _ rfl rfl)
      have h2 := inv_int (hr 1 u _ rfl rfl)
      have h3 := inv_int (hr 2 t _ rfl rfl)
      rw [h1, h2, h3]
  unfold pint
  rcases hp : Lib.parseIntB 64 s with v | _ | _
  ·
    refine says_of_calls (fd := Tryz.f174) Tryz.func174 rfl rfl (vsOf := fun vs => vs = [.string ⟨⟨s⟩⟩, .int .i64 10, .int .i64 64]) (fun M β vs hl hr => hargs M β vs hl hr) (fun vs w hv hg => ?_)
    subst hv
    refine (Tryz.strconv_ParseInt_10_at64_ok ⟨⟨s⟩⟩ (show s.length ≤ 9223372036854775806 by omega) v hp w).mono ?_
    rintro e w' ⟨rfl, hw⟩
    refine ⟨_, rfl, fun M β => .tup [_, _] _ rfl fun i v c hi hc => ?_, fun b ob h => ?_, by rcases hw with rfl | ⟨t, rfl⟩; rfl; exact bytesWorld_oo _ _ _⟩
    · match i with
      | 0 => cases hi; cases hc; exact .v _ _ (.int _ _)
      | 1 => cases hi; cases hc; exact .v _ _ .nili
      | i + 2 => simp at hi
    · rcases hw with rfl | ⟨t, rfl⟩
      · exact h
      · rw [Lib.bytesWorld_at_old _ _ _ _ (Array.getElem?_eq_some_iff.1 h).1]; exact h
  ·
    refine says_of_calls (fd := Tryz.f174) Tryz.func174 rfl rfl (vsOf := fun vs => vs = [.string ⟨⟨s⟩⟩, .int .i64 10, .int .i64 64]) (fun M β vs hl hr => hargs M β vs hl hr) (fun vs w hv hg => ?_)
    subst hv
    obtain ⟨ev, h1, h2⟩ := hg.1 2 (by rw [good_vars]; simp)
    refine (Tryz.strconv_ParseInt_10_at64_syntax ⟨⟨s⟩⟩ hl (by constructor; intro v; rw [show Lib.parseIntB 64 (⟨⟨s⟩⟩ : ByteArray).data.toList = _ from hp]; intro e; cases e; rw [show Lib.parseIntB 64 (⟨⟨s⟩⟩ : ByteArray).data.toList = _ from hp]; intro e; cases e) ev w h1 h2).mono ?_
    rintro e w' ⟨N, rfl, hN, hcell, hb⟩
    refine ⟨_, rfl, fun M β => .tup [_, _] _ rfl fun i v c hi hc => ?_, fun b ob h => ?_, by rw [hb.os, hb.output]⟩
    · match i with
      | 0 => cases hi; cases hc; exact .v _ _ (.int _ _)
      | 1 => cases hi; cases hc; exact .v _ _ (.iface _ _ _ (.any _ rfl))
      | i + 2 => simp at hi
    · rw [hb.block b (Array.getElem?_eq_some_iff.1 h).1]; exact h
  ·
    refine says_of_calls (fd := Tryz.f174) Tryz.func174 rfl rfl (vsOf := fun vs => vs = [.string ⟨⟨s⟩⟩, .int .i64 10, .int .i64 64]) (fun M β vs hl hr => hargs M β vs hl hr) (fun vs w hv hg => ?_)
    subst hv
    obtain ⟨ev, h1, h2⟩ := hg.1 3 (by rw [good_vars]; simp)
    refine (Tryz.strconv_ParseInt_10_at64_range ⟨⟨s⟩⟩ hl hp ev w h1 h2).mono ?_
    rintro e w' ⟨N, rfl, hN, hcell, hb⟩
    refine ⟨_, rfl, fun M β => .tup [_, _] _ rfl fun i v c hi hc => ?_, fun b ob h => ?_, by rw [hb.os, hb.output]⟩
    · match i with
      | 0 => cases hi; cases hc; exact .v _ _ (.int _ _)
      | 1 => cases hi; cases hc; exact .v _ _ (.iface _ _ _ (.any _ rfl))
      | i + 2 => simp at hi
    · rw [hb.block b (Array.getElem?_eq_some_iff.1 h).1]; exact h
theorem gtab : Tryz.prog.globalNamed "internal/strconv.uint64pow10" = some 1 := by kernel_rfl
theorem tab_eq : (Lib.pow10Tab.map fun z => Value.int .u64 z).toArray = pow10V := by kernel_rfl
theorem tabIs {w : World} (h : GoodW Tryz.prog w) : Lib.TabIs Tryz.prog w "internal/strconv.uint64pow10" .u64 Lib.pow10Tab := by
  obtain ⟨t, fr, h1⟩ := h.2 1 gtab
  unfold Lib.TabIs World.var?
  rw [gtab, Option.bind_some, h1, tab_eq]
def F_cu0 (n : Nat) (i : Int) (base : Int) : Option (List UInt8) := ass (decide (base = 10 ∧ -9223372036854775808 ≤ i ∧ i ≤ 9223372036854775807)) <| some (Lib.itoa i)
theorem c_cu0 {n : Nat} {i : Int} {base : Int} {r : (List UInt8)} (h : F_cu0 n i base = some r) : saysOf Tryz.prog 120 [.v (.int .i64 i), .v (.int .i64 base)] [] [] (.ret (.v (.str r)) none) [] := by
  unfold F_cu0 at h
  obtain ⟨g, h⟩ := ass_some h
  obtain rfl := Option.some.inj h
  obtain ⟨rfl, h0, h1⟩ := of_decide_eq_true g
  refine says_of_calls (fd := Tryz.f120) Tryz.func120 rfl rfl (vsOf := fun vs => vs = [.int .i64 i, .int .i64 10]) (fun M β vs hl hr => ?_) (fun vs w hv hg => ?_)
  · match vs, hl with
    | [v, u], _ =>
      have g1 := inv_int (hr 0 v _ rfl rfl)
      have g2 := inv_int (hr 1 u _ rfl rfl)
      rw [g1, g2]
  · subst hv
    refine (Tryz.strconv_FormatInt_10 i h0 h1 w (tabIs hg)).mono ?_
    rintro e w' ⟨rfl, k, os, rfl⟩
    exact ⟨_, rfl, fun M β => .v _ _ (.str _), fun b ob h => (Lib.heap_grow_old w k os b (Array.getElem?_eq_some_iff.1 h).1).trans h, rfl⟩
def F_ef0 (n : Nat) (i : Int) (base : Int) : Option (List UInt8) := F_cu0 n i base
theorem c_ef0 {n : Nat} {i : Int} {base : Int} {r : (List UInt8)} (h : F_ef0 n i base = some r) : saysOf Tryz.prog 120 [.v (.int .i64 i), .v (.int .i64 base)] [] [] (.ret (.v (.str r)) none) [] := c_cu0 h
theorem bld_get {b : List Int} (g : (bytesOk b && decide (b.length ≤ 9223372036854775807)) = true) : b.length = (toB b).length ∧ ∀ i, i < (toB b).length → (fun i => e_u8 (b.getD i default)) i = .int .u8 (((toB b).getD i 0).toNat : Int) := by
  simp only [Bool.and_eq_true] at g
  obtain ⟨h1, h2⟩ := toB_ok g.1
  exact ⟨h1.symm, fun i hi => h2 i (by omega)⟩
theorem bld_len {b : List Int} (g : (bytesOk b && decide (b.length ≤ 9223372036854775807)) = true) : (toB b).length ≤ 9223372036854775807 := by
  simp only [Bool.and_eq_true, decide_eq_true_eq] at g
  rw [(toB_ok g.1).1]; exact g.2
theorem extraJ : Go.Proofs.Builder.Extra Tryz.prog Tryz.lays156_ren where
  sizeBuilder := by kernel_rfl
  liesBuilder := by kernel_rfl
  t5 := Tryz.underlying5
  a5 := Tryz.isAgg5
  z5 := Tryz.sizeOf5
  v5 := Tryz.zeroValue5
  infoByte := by kernel_rfl
  cellsByte := by kernel_rfl
  sizeByte := by kernel_rfl
  neB5 := by decide
def F_ec0 (n : Nat) (elems : List (List UInt8)) (sep : List UInt8) : Option (List UInt8) := ass (decide (elems.length ≤ 140737488355328 ∧ (Lib.join elems sep).length ≤ 140737488355328)) <| some (Lib.join elems sep)
theorem c_ec0 {n : Nat} {elems : List (List UInt8)} {sep : List UInt8} {r : (List UInt8)} (h : F_ec0 n elems sep = some r) : saysOf Tryz.prog 56 [.v (encL 1 e_str elems), .v (.str sep)] [] [] (.ret (.v (.str r)) none) [] := by
  unfold F_ec0 at h
  obtain ⟨g, h⟩ := ass_some h
  obtain rfl := Option.some.inj h
  obtain ⟨hN, hL⟩ := of_decide_eq_true g
  have hmap : (elems.map fun s => (⟨⟨s⟩⟩ : ByteArray)).map (·.data.toList) = elems := by
    rw [List.map_map]; conv => rhs; rw [← List.map_id elems]
    rfl
  refine says_of_callsM (fd := Tryz.f56) Tryz.func56 rfl rfl (vsOf := fun w vs => (∃ a, vs = [.slice a 0 0, .string ⟨⟨sep⟩⟩] ∧ elems = []) ∨ ∃ bk o c, vs = [.slice (some ⟨bk, o, none⟩) elems.length c, .string ⟨⟨sep⟩⟩] ∧ elems.length ≤ c ∧ ∀ (j : Nat) x, elems[j]? = some x → w.cell? ⟨bk, o + j, none⟩ = some (.string ⟨⟨x⟩⟩)) (fun w M β vs hm hl hr => ?_) (fun vs w hv hg => ?_)
  · match vs, hl with
    | [v, u], _ =>
      have g2 := inv_str (hr 1 u _ rfl rfl)
      have g1 := hr 0 v _ rfl rfl
      rw [g2]
      rcases inv_slc (k := 1) (n := elems.length) (get := fun i => e_str (elems.getD i default)) g1 with ⟨h1, h2⟩ | ⟨b, off, cap, val, h1, hc, hk, hM, hone, hrep⟩
      · rcases h1 with h1 | ⟨a, h1⟩
        · exact .inl ⟨none, by rw [h1], List.eq_nil_of_length_eq_zero h2⟩
        · exact .inl ⟨some a, by rw [h1], List.eq_nil_of_length_eq_zero h2⟩
      · refine .inr ⟨b, off, cap, by rw [h1], hc, fun j x hx => ?_⟩
        have hj : j < elems.length := (List.getElem?_eq_some_iff.1 hx).1
        have e1 := hm _ _ _ (hM j 0 hj (by omega))
        have e2 := hrep j 0 (.str x) hj (by
          have : elems.getD j default = x := by simp [List.getD, hx]
          rw [this]; rfl)
        rw [show off + j * 1 + 0 = off + j by omega] at e1
        rw [e1]
        generalize val j 0 = y at e2 ⊢
        cases e2; rfl
  · rcases hv with ⟨a, rfl, rfl⟩ | ⟨bk, o, c, rfl, hc, hcells⟩
    · refine (Any.strings_Join_none Tryz.lays156 extraJ a 0 ⟨⟨sep⟩⟩ w).mono ?_
      rintro e w' ⟨rfl, rfl⟩
      exact ⟨_, rfl, fun M β => .v _ _ (.str _), fun b ob h => h, rfl⟩
    · cases elems with
      | nil =>
        refine (Any.strings_Join_none Tryz.lays156 extraJ (some ⟨bk, o, none⟩) c ⟨⟨sep⟩⟩ w).mono ?_
        rintro e w' ⟨rfl, rfl⟩
        exact ⟨_, rfl, fun M β => .v _ _ (.str _), fun b ob h => h, rfl⟩
      | cons x0 xs0 =>
        have hbk : bk < w.heap.size := lt_of_cell (hcells 0 x0 rfl)
        have hj := Any.strings_Join Tryz.lays156 extraJ bk o c ((x0 :: xs0).map fun s => (⟨⟨s⟩⟩ : ByteArray)) ⟨⟨sep⟩⟩ w (fun j x hx => by
          rw [List.getElem?_map, Option.map_eq_some_iff] at hx
          obtain ⟨y, hy, rfl⟩ := hx
          exact hcells j y hy) hbk (by simpa using hN) (by simpa using hc) (by rw [hmap]; exact hL)
        rw [List.length_map] at hj
        refine hj.mono ?_
        rintro e w' ⟨rfl, hb⟩
        refine ⟨_, rfl, fun M β => ?_, fun b ob h => ?_, by rw [hb.os, hb.output]⟩
        · rw [hmap]; exact .v _ _ (.str _)
        · rw [hb.block b (Array.getElem?_eq_some_iff.1 h).1]; exact h
end Go.Ab.Y

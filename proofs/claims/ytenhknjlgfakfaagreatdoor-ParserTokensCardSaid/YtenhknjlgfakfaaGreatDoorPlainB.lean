/- The plain law: what the functions compute answers as the statement says. -/
import Derived.Lib.ItoaNum
import Derived.Lib.ItoaLen
import Derived.Test.YtenhknjlgfakfaaGreatDoorPlainA
set_option linter.unusedSimpArgs false
set_option linter.unusedVariables false
namespace Go.Ab.Y
open Go Go.Ab Go.Proofs

theorem ast_shape (n : Nat) (s : Stmt) (u : ast_uses) : F_es0 n s u = some (!misS s u && maxS s) := by
 have hm : (bif decide (s.Op = 6) then some (bif decide (1 ≤ s.Max) then decide (s.Max ≤ 16) else false) else bif decide (s.Op = 8) then some (bif decide (0 ≤ s.Max) then decide (s.Max ≤ 999) else false) else some true) = some (maxS s) := by
  unfold maxS
  by_cases h6 : s.Op = 6
  ·simp only [h6, decide_true, cond_true, if_true, cond_and]
  ·by_cases h8 : s.Op = 8
   ·simp only [h8, show ¬ (8 : Int) = 6 by omega, decide_true, decide_false, cond_true, cond_false, if_true, if_false, cond_and]
   ·simp only [h6, h8, decide_false, cond_false, if_false]
 unfold F_es0 misS
 rw [hm]
 simp only [ast_absent, eta_E, cond_and, cond_or, lit_lt]
 generalize decide (s.Name = []) = x
 generalize abS s.A = y
 generalize abS s.B = z
 generalize decide (s.Max = 0) = w
 generalize decide (0 < s.Body.length) = p
 generalize decide (0 < s.Else.length) = q
 generalize maxS s = r
 obtain ⟨nm, a, b, mx, bd, ot⟩ := u
 cases nm <;> cases x <;> cases a <;> cases y <;> cases b <;> cases z <;> simp only [Bool.not_true, Bool.not_false, Bool.and_true, Bool.and_false, Bool.true_and, Bool.false_and, Bool.or_true, Bool.or_false, Bool.true_or, Bool.false_or, cond_true, cond_false, bind_s] <;> (cases ((!mx && !w) || (!bd && p) || (!ot && q)) <;> simp_all)
theorem ast_statement {n : Nat} (s : Stmt) (d : Int) (hA : fu s.A ≤ n) (hB : fu s.B ≤ n) (hA2 : fu s.A ≤ 140737488351232) (hB2 : fu s.B ≤ 140737488351232) (hN : s.Name.length ≤ 140737488351232) : F_bu0 n s d = some (stS s d) := by
  unfold F_bu0 F_bu0_j1 F_bu0_j2 stS
  simp only [ast_usesOf, bind_s, eta_E, eta_S, ast_shape, lexer_IsName n s.Name hN, ast_ValidExpr s.A hA hA2, ast_ValidExpr s.B hB hB2]
  generalize (uS s.Op) = U
  obtain ⟨u, kn⟩ := U
  obtain ⟨nm, a, b, mx, bd, ot⟩ := u
  simp only
  generalize misS s ⟨nm, a, b, mx, bd, ot⟩ = m
  generalize maxS s = r
  cases kn
  · simp
  · cases m
    · cases r
      · simp
      · generalize nameS s.Name = x
        simp only [Bool.not_true, Bool.not_false, cond_true, cond_false, bind_s, Bool.true_and, Bool.and_true, Bool.true_eq_false, Bool.false_eq_true, or_self, if_false]
        cases nm
        · simp only [cond_false, bind_s, Bool.false_eq_true, false_and, if_false]
          cases a
          · simp only [cond_false, Bool.false_eq_true, false_and, if_false]
            cases b
            · by_cases h12 : 12 < d <;> simp [h12]
            · by_cases hb : vaS s.B 1 = 0 <;> by_cases h12 : 12 < d <;> simp [hb, h12]
          · by_cases ha : vaS s.A 1 = 0
            · cases b
              · by_cases h12 : 12 < d <;> simp [ha, h12]
              · by_cases hb : vaS s.B 1 = 0 <;> by_cases h12 : 12 < d <;> simp [ha, hb, h12]
            · simp [ha]
        · cases x
          · simp
          · simp only [cond_true, bind_s, Bool.not_true, cond_false, Bool.true_eq_false, and_false, if_false]
            cases a
            · simp only [cond_false, Bool.false_eq_true, false_and, if_false]
              cases b
              · by_cases h12 : 12 < d <;> simp [h12]
              · by_cases hb : vaS s.B 1 = 0 <;> by_cases h12 : 12 < d <;> simp [hb, h12]
            · by_cases ha : vaS s.A 1 = 0
              · cases b
                · by_cases h12 : 12 < d <;> simp [ha, h12]
                · by_cases hb : vaS s.B 1 = 0 <;> by_cases h12 : 12 < d <;> simp [ha, hb, h12]
              · simp [ha]
    · simp
theorem maxS_not (s : Stmt) : ((decide (s.Op = 6) && (decide (s.Max < 1) || decide (16 < s.Max))) || (decide (s.Op = 8) && (decide (s.Max < 0) || decide (999 < s.Max)))) = !maxS s := by
  unfold maxS
  by_cases h6 : s.Op = 6
  · simp only [h6, if_true, decide_true, Bool.true_and, show ¬ (6 : Int) = 8 by omega, decide_false, Bool.false_and, Bool.or_false]
    by_cases h1 : s.Max < 1
    · simp only [h1, show ¬ 1 ≤ s.Max by omega, decide_true, decide_false, Bool.true_or, Bool.false_and, Bool.not_false]
    · by_cases h2 : 16 < s.Max
      · simp only [h1, h2, show ¬ s.Max ≤ 16 by omega, decide_true, decide_false, Bool.or_true, Bool.and_false, Bool.not_false]
      · simp only [h1, h2, show s.Max ≤ 16 by omega, show 1 ≤ s.Max by omega, decide_true, decide_false, Bool.or_self, Bool.and_self, Bool.not_true]
  · by_cases h8 : s.Op = 8
    · simp only [h8, show ¬ (8 : Int) = 6 by omega, if_true, if_false, decide_true, decide_false, Bool.true_and, Bool.false_and, Bool.false_or]
      by_cases h1 : s.Max < 0
      · simp only [h1, show ¬ 0 ≤ s.Max by omega, decide_true, decide_false, Bool.true_or, Bool.false_and, Bool.not_false]
      · by_cases h2 : 999 < s.Max
        · simp only [h1, h2, show ¬ s.Max ≤ 999 by omega, decide_true, decide_false, Bool.or_true, Bool.and_false, Bool.not_false]
        · simp only [h1, h2, show s.Max ≤ 999 by omega, show 0 ≤ s.Max by omega, decide_true, decide_false, Bool.or_self, Bool.and_self, Bool.not_true]
    · simp only [h6, h8, if_false, decide_false, Bool.false_and, Bool.or_self, Bool.not_true]
theorem boolL (a y b z pre P Q : Bool) (G : Bool → Option Int) :
  (Option.bind (bif (!pre && !a) then some y else some default) fun r2 => Option.bind (bif (!(pre || (!a && !r2)) && !b) then some z else some default) fun r3 => G ((((pre || (!a && !r2)) || (!b && !r3)) || P) || Q)) = G ((((pre || (!a && !y)) || (!b && !z)) || P) || Q) := by
 cases pre <;> cases a <;> cases y <;> cases b <;> cases z <;> rfl
theorem ref08_stmt {n : Nat} (s : Stmt) (d : Int) (hn : 25 < n) (hA : fu s.A ≤ n) (hB : fu s.B ≤ n) (hA2 : fu s.A ≤ 140737488351232) (hB2 : fu s.B ≤ 140737488351232) (hN : s.Name.length < n) (hN2 : s.Name.length ≤ 140737488351232) : F_dk0 n s d = some (stS s d) := by
  unfold F_dk0 F_dk0_j1 F_dk0_j2 stS
  by_cases hop : 1 ≤ s.Op ∧ s.Op ≤ 8
  · have hkn : (uS s.Op).2 = true := by
      have : s.Op = 1 ∨ s.Op = 2 ∨ s.Op = 3 ∨ s.Op = 4 ∨ s.Op = 5 ∨ s.Op = 6 ∨ s.Op = 7 ∨ s.Op = 8 := by omega
      rcases this with e | e | e | e | e | e | e | e <;> rw [e] <;> rfl
    simp only [ref08_uses n s.Op hop, bind_s, eta_E, eta_S, ref08_Absent, ref07_IsName s.Name hN hn (by omega), ref08_ValidExpr s.A hA hA2, ref08_ValidExpr s.B hB hB2, hkn, show ¬ s.Op < 1 by omega, show ¬ 8 < s.Op by omega, decide_false, cond_false, cond_and, cond_or, Bool.or_self, Bool.false_or, maxS_not, lit_lt]
    generalize maxS s = r
    unfold misS
    generalize (uS s.Op).1 = u
    generalize decide (s.Name = []) = x0
    generalize abS s.A = y
    generalize abS s.B = z
    generalize decide (s.Max = 0) = w
    generalize decide (0 < s.Body.length) = p
    generalize decide (0 < s.Else.length) = q
    generalize nameS s.Name = x
    obtain ⟨nm, a, b, mx, bd, ot⟩ := u
    simp only
    have hm : ((!nm && !x0) || (!a && !y) || (!b && !z) || (!mx && !w) || (!bd && p) || (!ot && q)) = ((((((!nm && !x0) || (!mx && !w)) || (!a && !y)) || (!b && !z)) || (!bd && p)) || (!ot && q)) := by
      generalize (!nm && !x0) = c1
      generalize (!mx && !w) = c2
      generalize (!a && !y) = c3
      generalize (!b && !z) = c4
      cases c1 <;> cases c2 <;> cases c3 <;> cases c4 <;> rfl
    rw [hm]
    clear hm
    generalize ((!nm && !x0) || (!mx && !w)) = pre
    generalize (!bd && p) = c1
    generalize (!ot && q) = c2
    refine (boolL a y b z pre c1 c2 (fun c => bif c then some 1 else bif !r then some 1 else Option.bind (bif nm then some x else some default) fun r6 => bif (nm && !r6) then some 7 else
      bif a then (bif !decide (vaS s.A 1 = 0) then some (vaS s.A 1) else bif b then (bif !decide (vaS s.B 1 = 0) then some (vaS s.B 1) else bif decide (12 < d) then some 2 else some 0) else bif decide (12 < d) then some 2 else some 0)
      else bif b then (bif !decide (vaS s.B 1 = 0) then some (vaS s.B 1) else bif decide (12 < d) then some 2 else some 0) else bif decide (12 < d) then some 2 else some 0)).trans ?_
    generalize ((((pre || (!a && !y)) || (!b && !z)) || c1) || c2) = m
    cases m
    · cases r
      · simp
      · simp only [Bool.not_true, Bool.not_false, cond_true, cond_false, bind_s, Bool.true_and, Bool.and_true, Bool.true_eq_false, Bool.false_eq_true, or_self, if_false]
        cases nm
        · simp only [cond_false, bind_s, Bool.false_eq_true, false_and, if_false, Bool.false_and]
          cases a
          · simp only [cond_false, Bool.false_eq_true, false_and, if_false]
            cases b
            · by_cases h12 : 12 < d <;> simp [h12]
            · by_cases hb : vaS s.B 1 = 0 <;> by_cases h12 : 12 < d <;> simp [hb, h12]
          · by_cases ha : vaS s.A 1 = 0
            · cases b
              · by_cases h12 : 12 < d <;> simp [ha, h12]
              · by_cases hb : vaS s.B 1 = 0 <;> by_cases h12 : 12 < d <;> simp [ha, hb, h12]
            · simp [ha]
        · cases x
          · simp
          · simp only [cond_true, bind_s, Bool.not_true, cond_false, Bool.true_eq_false, and_false, if_false, Bool.and_false]
            cases a
            · simp only [cond_false, Bool.false_eq_true, false_and, if_false]
              cases b
              · by_cases h12 : 12 < d <;> simp [h12]
              · by_cases hb : vaS s.B 1 = 0 <;> by_cases h12 : 12 < d <;> simp [hb, h12]
            · by_cases ha : vaS s.A 1 = 0
              · cases b
                · by_cases h12 : 12 < d <;> simp [ha, h12]
                · by_cases hb : vaS s.B 1 = 0 <;> by_cases h12 : 12 < d <;> simp [ha, hb, h12]
              · simp [ha]
    · simp
  · have hkn : (uS s.Op).2 = false := by
      unfold uS
      rw [if_neg (by omega), if_neg (by omega), if_neg (by omega), if_neg (by omega), if_neg (by omega), if_neg (by omega)]
    have hb : (decide (s.Op < 1) || decide (8 < s.Op)) = true := by
      by_cases h1 : s.Op < 1
      · rw [decide_eq_true h1]; rfl
      · rw [decide_eq_true (show 8 < s.Op by omega)]; simp
    simp only [ref08_uses_bad n s.Op hop, bind_s, hkn, hb, cond_or, cond_and, Bool.true_or, Bool.not_true, Bool.false_and, cond_false, cond_true, true_or, if_true]
end Go.Ab.Y

namespace Go.Ab.Y
open Go Go.Ab Go.Proofs

def paS (before : List Param) : List Param → Int
 | [] => 0
 | x :: l => if nameS x.Name = false then 7 else if x.Type_ < 1 ∨ 3 < x.Type_ then 10 else if (before.any fun y => decide (y.Name = x.Name)) = true then 8 else paS (before ++ [x]) l
theorem index_l2 (n : Nat) (s : List Param) (b : Param) (hs : s.length ≤ 4611686018427387904) : ∀ m i, s.length < i + m → i ≤ s.length →
  ∃ r, F_ao0_l2 n s b m (i : Int) = some r ∧ (decide (0 ≤ r) = (s.drop i).any fun y => decide (y.Name = b.Name)) := by
 intro m
 induction m with
 | zero => intro i h h2; omega
 | succ m ih =>
  intro i hm hi
  simp only [F_ao0_l2, F_ao0_b2, F_ao0_j1, F_ei0]
  by_cases h : i < s.length
  ·obtain ⟨r, h1, h2⟩ := ih (i + 1) (by omega) (by omega)
   rw [drop_get s i default h, wr_s (by omega), Int.toNat_natCast, h1]
   generalize s.getD i default = c
   simp only [h, inB_n h, Int.ofNat_lt, decide_true, cond_true, ass_t, bind_s, List.any_cons]
   by_cases hc : c.Name = b.Name
   ·simp only [hc, decide_true, cond_true, Bool.true_or]
    exact ⟨_, rfl, decide_eq_true (by omega)⟩
   ·simp only [hc, decide_false, cond_false, Bool.false_or]
    exact ⟨r, rfl, h2⟩
  ·rw [drop_end s i h]
   simp only [h, Int.ofNat_lt, decide_false, cond_false]
   exact ⟨-1, rfl, rfl⟩
theorem contains_p {n : Nat} (s : List Param) (b : Param) (hs : s.length ≤ 4611686018427387904) (hn : s.length < n) : F_cc0 n s b = some (s.any fun y => decide (y.Name = b.Name)) := by
 unfold F_cc0 F_ao0
 obtain ⟨r, h1, h2⟩ := index_l2 n s b hs n 0 (by omega) (by omega)
 rw [show F_ao0_l2 n s b n 0 = _ from h1, bind_s, h2, List.drop_zero]
theorem take_s {α : Type} [Inhabited α] (l : List α) (i : Nat) (h : i < l.length) : l.take (i + 1) = l.take i ++ [l.getD i default] := by
 rw [List.take_add, drop_get l i default h, List.take_succ_cons, List.take_zero]
theorem fps_get : ∀ (l : List Param) (i : Nat), i < l.length → (l.getD i default).Name.length < fps l
 | [], i, h => by simp at h
 | x :: l, 0, h => by simp only [fps, List.getD_cons_zero]; omega
 | x :: l, i + 1, h => by have := fps_get l i (by simpa using h); simp only [fps, List.getD_cons_succ]; omega
theorem ast_params_l2 (n : Nat) (l : List Param) (hf : fps l < n) (hf2 : fps l ≤ 140737488351232) : ∀ m i, l.length < i + m → i ≤ l.length → F_bv0_l2 n l m (i : Int) = some (paS (l.take i) (l.drop i)) := by
  have hlen := fps_len l
  intro m
  induction m with
  | zero => intro i h h2; omega
  | succ m ih =>
    intro i hm hi
    simp only [F_bv0_l2, F_bv0_b2, F_bv0_j1]
    by_cases h : i < l.length
    · have hg := fps_get l i h
      rw [drop_get l i default h, wr_s (by omega), Int.toNat_natCast, ih (i + 1) (by omega) (by omega), take_s l i h]
      generalize l.getD i default = c at hg
      rw [lexer_IsName n c.Name (by omega), contains_p (l.take i) c (by simp; omega) (by simp; omega)]
      simp only [h, inB_n h, Int.ofNat_lt, decide_true, cond_true, ass_t, bind_s, upB_n hi, cond_or, paS]
      cases nameS c.Name
      · simp
      · by_cases ht : c.Type_ < 1 ∨ 3 < c.Type_
        · have : (decide (c.Type_ < 1) || decide (3 < c.Type_)) = true := by rcases ht with ht | ht <;> rw [decide_eq_true ht] <;> simp
          simp [this, ht]
        · have : (decide (c.Type_ < 1) || decide (3 < c.Type_)) = false := by rw [decide_eq_false (fun e => ht (Or.inl e)), decide_eq_false (fun e => ht (Or.inr e))]; rfl
          rw [this]
          simp only [Bool.not_true, cond_false, Bool.true_eq_false, if_false, ht]
          cases ((l.take i).any fun y => decide (y.Name = c.Name)) <;> rfl
    · rw [drop_end l i h]
      simp only [h, Int.ofNat_lt, decide_false, cond_false]
      rfl
theorem ref08_params_l4 (n : Nat) (k2 : Int → Option Int) (l : List Param) (i : Nat) (h : i < l.length) (hs : l.length ≤ 4611686018427387904) : ∀ m k, i < k + m → k ≤ i →
  F_au0_l4 n k2 l (i : Int) m (k : Int) = if (((l.take i).drop k).any fun y => decide (y.Name = (l.getD i default).Name)) = true then some 8 else k2 ((i + 1 : Nat) : Int) := by
 intro m
 induction m with
 | zero => intro k h1 h2; omega
 | succ m ih =>
  intro k hm hk
  simp only [F_au0_l4, F_au0_b4, F_au0_j3]
  by_cases hki : k < i
  ·have e : (l.take i).drop k = l.getD k default :: (l.take i).drop (k + 1) := by
    rw [drop_get (l.take i) k default (by simp; omega)]
    congr 1
    simp [List.getD, hki]
   rw [e, wr_s (by omega), ih (k + 1) (by omega) (by omega), Int.toNat_natCast, Int.toNat_natCast]
   generalize l.getD k default = c
   simp only [hki, inB_n h, inB_n (show k < l.length by omega), Int.ofNat_lt, decide_true, cond_true, ass_t, List.any_cons]
   by_cases hc : c.Name = (l.getD i default).Name
   ·simp only [hc, decide_true, cond_true, Bool.true_or, if_true]
   ·simp only [hc, decide_false, cond_false, Bool.false_or]
  ·obtain rfl : k = i := by omega
   rw [drop_end (l.take k) k (by simp; omega), wr_s (by omega)]
   simp only [Int.ofNat_lt, Nat.lt_irrefl, decide_false, cond_false, List.any_nil, Bool.false_eq_true, if_false]
theorem ref08_params_l2 (n : Nat) (l : List Param) (hn : 25 < n) (hf : fps l < n) (hf2 : fps l ≤ 140737488351232) : ∀ m i, l.length < i + m → i ≤ l.length → F_au0_l2 n l m (i : Int) = some (paS (l.take i) (l.drop i)) := by
  have hlen := fps_len l
  intro m
  induction m with
  | zero => intro i h h2; omega
  | succ m ih =>
    intro i hm hi
    simp only [F_au0_l2, F_au0_b2, F_au0_j1]
    by_cases h : i < l.length
    · have hg := fps_get l i h
      have h4 := ref08_params_l4 n (F_au0_l2 n l m) l i h (by omega) n 0 (by omega) (by omega)
      rw [show F_au0_l4 n (F_au0_l2 n l m) l (i : Int) n 0 = _ from h4, List.drop_zero]
      rw [drop_get l i default h, Int.toNat_natCast, ih (i + 1) (by omega) (by omega), take_s l i h]
      generalize l.getD i default = c at hg
      rw [ref07_IsName c.Name (by omega) hn (by omega)]
      simp only [h, inB_n h, Int.ofNat_lt, decide_true, cond_true, ass_t, bind_s, Bool.or_true, cond_or, paS]
      cases nameS c.Name
      · simp
      · by_cases ht : c.Type_ < 1 ∨ 3 < c.Type_
        · have : (decide (c.Type_ < 1) || decide (3 < c.Type_)) = true := by rcases ht with ht | ht <;> rw [decide_eq_true ht] <;> simp
          simp [this, ht]
        · have : (decide (c.Type_ < 1) || decide (3 < c.Type_)) = false := by rw [decide_eq_false (fun e => ht (Or.inl e)), decide_eq_false (fun e => ht (Or.inr e))]; rfl
          rw [this]
          simp only [Bool.not_true, cond_false, Bool.true_eq_false, if_false, ht]
          cases ((l.take i).any fun y => decide (y.Name = c.Name)) <;> rfl
    · rw [drop_end l i h]
      simp only [h, Int.ofNat_lt, decide_false, cond_false]
      rfl
def parsS (l : List Param) : Int := if 6 < l.length then 2 else paS [] l
theorem ast_params {n : Nat} (l : List Param) (hf : fps l < n) (hf2 : fps l ≤ 140737488351232) : F_bv0 n l = some (parsS l) := by
 have hlen := fps_len l
 unfold F_bv0 parsS
 have := ast_params_l2 n l hf hf2 n 0 (by omega) (by omega)
 rw [show F_bv0_l2 n l n 0 = _ from this]
 simp only [lit_lt]
 by_cases h : 6 < l.length
 ·simp only [h, decide_true, cond_true, if_true]
 ·simp only [h, decide_false, cond_false, if_false, List.take_zero, List.drop_zero]
theorem ref08_params {n : Nat} (l : List Param) (hn : 25 < n) (hf : fps l < n) (hf2 : fps l ≤ 140737488351232) : F_au0 n l = some (parsS l) := by
 have hlen := fps_len l
 unfold F_au0 parsS
 have := ref08_params_l2 n l hn hf hf2 n 0 (by omega) (by omega)
 rw [show F_au0_l2 n l n 0 = _ from this]
 simp only [lit_lt]
 by_cases h : 6 < l.length
 ·simp only [h, decide_true, cond_true, if_true]
 ·simp only [h, decide_false, cond_false, if_false, List.take_zero, List.drop_zero]
end Go.Ab.Y

namespace Go.Ab.Y
open Go Go.Ab Go.Proofs

mutual
def weS : Expr → Nat → Nat
 | ⟨_, _, _, Args⟩, k => if k = 0 then 0 else wesS Args (k - 1)
def wesS : List Expr → Nat → Nat
 | [], k => k
 | x :: l, k => wesS l (weS x k)
end
theorem weS_eq (e : Expr) (k : Nat) : weS e k = if k = 0 then 0 else wesS e.Args (k - 1) := by cases e; rfl
mutual
theorem weS_le : ∀ (e : Expr) (k : Nat), weS e k ≤ k
 | ⟨_, _, _, Args⟩, k => by
  have := wesS_le Args (k - 1)
  simp only [weS]; split <;> omega
theorem wesS_le : ∀ (l : List Expr) (k : Nat), wesS l k ≤ k
 | [], k => Nat.le_refl _
 | x :: l, k => by
  have h1 := weS_le x k
  have h2 := wesS_le l (weS x k)
  simp only [wesS]; omega
end
def wfS (e : Expr) (k : Nat) : Nat := if k = 0 ∨ abS e = true then k else weS e k
theorem wfS_le (e : Expr) (k : Nat) : wfS e k ≤ k := by unfold wfS; split; exact Nat.le_refl _; exact weS_le e k
mutual
def wsS : Stmt → Int → Nat × Int → Nat × Int
 | ⟨Op, Name, Max, A, B, Body, Else⟩, d, r =>
  wbS Else (IntKind.i64.wrap (d + 1)) (wbS Body (IntKind.i64.wrap (d + 1)) (wfS B (wfS A (r.1 - 1)), if r.2 = 0 then stS ⟨Op, Name, Max, A, B, Body, Else⟩ d else r.2))
def wbS : List Stmt → Int → Nat × Int → Nat × Int
 | [], d, r => r
 | s :: l, d, r => if r.1 = 0 then r else wbS l d (wsS s d r)
end
theorem wsS_eq (s : Stmt) (d : Int) (r : Nat × Int) : wsS s d r = wbS s.Else (IntKind.i64.wrap (d + 1)) (wbS s.Body (IntKind.i64.wrap (d + 1)) (wfS s.B (wfS s.A (r.1 - 1)), if r.2 = 0 then stS s d else r.2)) := by cases s; rfl
mutual
theorem wsS_le : ∀ (s : Stmt) (d : Int) (r : Nat × Int), (wsS s d r).1 ≤ r.1
 | ⟨Op, Name, Max, A, B, Body, Else⟩, d, r => by
  have h1 := wfS_le A (r.1 - 1)
  have h2 := wfS_le B (wfS A (r.1 - 1))
  have h3 := wbS_le Body (IntKind.i64.wrap (d + 1)) (wfS B (wfS A (r.1 - 1)), if r.2 = 0 then stS ⟨Op, Name, Max, A, B, Body, Else⟩ d else r.2)
  have h4 := wbS_le Else (IntKind.i64.wrap (d + 1)) (wbS Body (IntKind.i64.wrap (d + 1)) (wfS B (wfS A (r.1 - 1)), if r.2 = 0 then stS ⟨Op, Name, Max, A, B, Body, Else⟩ d else r.2))
  simp only [wsS] at *; omega
theorem wbS_le : ∀ (l : List Stmt) (d : Int) (r : Nat × Int), (wbS l d r).1 ≤ r.1
 | [], d, r => Nat.le_refl _
 | s :: l, d, r => by
  have h1 := wsS_le s d r
  have h2 := wbS_le l d (wsS s d r)
  simp only [wbS]; split
  ·exact Nat.le_refl _
  ·omega
end
theorem walker_expr : ∀ (n : Nat) (e : Expr) (k : Nat) (b : Int), fu e ≤ n → fu e ≤ 140737488351232 → k ≤ 1000 → F_ad0 n e (k : Int) b = some ((weS e k : Nat) : Int) := by
 intro n
 induction n with
 | zero => intro e k b h; rw [fu_eq] at h; omega
 | succ n ih =>
  intro e k b h hl hk
  have hfe := fu_eq e
  have hal := fus_len e.Args
  simp only [F_ad0, B_ad0, eq_lit]
  rw [weS_eq]
  by_cases h0 : k = 0
  ·rw [if_pos h0]; simp only [h0, decide_true, cond_true]
  ·rw [if_neg h0]
   simp only [h0, decide_false, cond_false]
   have hloop : ∀ m i k, e.Args.length < i + m → i ≤ e.Args.length → k ≤ 1000 → F_ad0_l1 n (F_ad0 n) e b m ((k : Nat) : Int) (i : Int) = some ((wesS (e.Args.drop i) k : Nat) : Int) := by
    intro m
    induction m with
    | zero => intro i k h1 h2; omega
    | succ m ihm =>
     intro i k h1 h2 hk
     simp only [F_ad0_l1, F_ad0_b1]
     by_cases hi : i < e.Args.length
     ·have hg := fus_get e.Args i hi
      have hle := weS_le (e.Args.getD i default) k
      rw [drop_get e.Args i default hi, wr_s (by omega), Int.toNat_natCast, ih _ k b (by omega) (by omega) hk]
      simp only [hi, inB_n hi, Int.ofNat_lt, decide_true, cond_true, ass_t, bind_s, wesS]
      exact ihm (i + 1) _ (by omega) (by omega) (by omega)
     ·rw [drop_end e.Args i hi]
      simp only [hi, Int.ofNat_lt, decide_false, cond_false, wesS]
   rw [show IntKind.i64.wrap ((k : Int) - 1) = ((k - 1 : Nat) : Int) by rw [wr] <;> omega]
   exact hloop n 0 (k - 1) (by omega) (by omega) (by omega)
theorem walker_first {n : Nat} (e : Expr) (k : Nat) (b : Int) (h : fu e ≤ n) (hl : fu e ≤ 140737488351232) (hk : k ≤ 1000) : F_cw0 n e (k : Int) b = some ((wfS e k : Nat) : Int) := by
 unfold F_cw0 wfS F_ep0
 simp only [ast_absent, eq_lit, walker_expr n e k b h hl hk, bind_s]
 by_cases h0 : k = 0
 ·simp [h0]
 ·cases abS e <;> simp [h0]
end Go.Ab.Y

namespace Go.Ab.Y
open Go Go.Ab Go.Proofs

theorem fss_get : ∀ (l : List Stmt) (i : Nat), i < l.length → fst (l.getD i default) < fss l
 | [], i, h => by simp at h
 | x :: l, 0, h => by simp only [fss, List.getD_cons_zero]; omega
 | x :: l, i + 1, h => by have := fss_get l i (by simpa using h); simp only [fss, List.getD_cons_succ]; omega
theorem pair_eta {α β : Type} (x : α × β) : (x.1, x.2) = x := rfl
theorem walker_block : ∀ (n : Nat) (l : List Stmt) (d : Int) (k : Nat) (e : Int), fss l + 2 ≤ n → fss l ≤ 140737488351232 → k ≤ 1000 →
  F_ab0 n l d (k : Int) e = some ((((wbS l d (k, e)).1 : Nat) : Int), (wbS l d (k, e)).2) := by
 intro n
 induction n with
 | zero => intro l d k e h; omega
 | succ n ih =>
  intro l d k e h hl hk
  have hal := fss_len l
  simp only [F_ab0, B_ab0]
  have hloop : ∀ m i k e, l.length < i + m → i ≤ l.length → k ≤ 1000 → F_ab0_l1 n (F_ab0 n) d l m ((k : Nat) : Int) e (i : Int) = some ((((wbS (l.drop i) d (k, e)).1 : Nat) : Int), (wbS (l.drop i) d (k, e)).2) := by
   intro m
   induction m with
   | zero => intro i k e h1 h2; omega
   | succ m ihm =>
    intro i k e h1 h2 hk
    simp only [F_ab0_l1, F_ab0_b1, eta_E, eta_S]
    by_cases hi : i < l.length
    ·have hg := fss_get l i hi
     rw [drop_get l i default hi, Int.toNat_natCast]
     generalize l.getD i default = s at hg
     have hfs := fst_eq s
     rw [wr_s (by omega)]
     simp only [hi, inB_n hi, Int.ofNat_lt, decide_true, cond_true, ass_t, eq_lit, wbS]
     by_cases h0 : k = 0
     ·simp only [h0, decide_true, cond_true, if_true]
     ·simp only [h0, decide_false, cond_false, if_false]
      have hv : F_dt0 n s d e = some (if e = 0 then stS s d else e) := by
       unfold F_dt0
       simp only [eta_E, eta_S, ast_statement s d (show fu s.A ≤ n by omega) (show fu s.B ≤ n by omega) (by omega) (by omega) (by omega), bind_s]
       by_cases he : e = 0
       ·simp only [he, decide_true, cond_true, if_true]
       ·simp only [he, decide_false, cond_false, if_false]
      rw [hv, bind_s, show IntKind.i64.wrap ((k : Int) - 1) = ((k - 1 : Nat) : Int) by rw [wr] <;> omega]
      have hl1 := wfS_le s.A (k - 1)
      have hl2 := wfS_le s.B (wfS s.A (k - 1))
      rw [walker_first s.A (k - 1) _ (by omega) (by omega) (by omega), bind_s, walker_first s.B _ _ (by omega) (by omega) (by omega), bind_s]
      have hl3 := wbS_le s.Body (IntKind.i64.wrap (d + 1)) (wfS s.B (wfS s.A (k - 1)), if e = 0 then stS s d else e)
      rw [ih s.Body _ _ _ (by omega) (by omega) (by omega), bind_s]
      simp only [pair_eta] at hl3 ⊢
      have hl4 := wbS_le s.Else (IntKind.i64.wrap (d + 1)) (wbS s.Body (IntKind.i64.wrap (d + 1)) (wfS s.B (wfS s.A (k - 1)), if e = 0 then stS s d else e))
      rw [ih s.Else _ _ _ (by omega) (by omega) (by omega), bind_s]
      simp only [pair_eta]
      rw [ihm (i + 1) _ _ (by omega) (by omega) (by omega), wsS_eq]
    ·rw [drop_end l i hi]
     simp only [hi, Int.ofNat_lt, decide_false, cond_false, wbS]
  exact hloop n 0 k e (by omega) (by omega) hk
end Go.Ab.Y

namespace Go.Ab.Y
open Go Go.Ab Go.Proofs

abbrev Vis := Vz8
def errS : Int → List Vis → Int
 | e, [] => e
 | e, v :: l => errS (if e = 0 ∧ v.IsStmt = true then stS v.Stmt v.Depth else e) l
theorem errS_app : ∀ (l m : List Vis) (e : Int), errS e (l ++ m) = errS (errS e l) m
 | [], m, e => rfl
 | v :: l, m, e => by rw [List.cons_append, errS, errS, errS_app l m]
theorem errS_noStmt : ∀ (l : List Vis) (e : Int), (∀ v, v ∈ l → v.IsStmt = false) → errS e l = e
 | [], e, h => rfl
 | v :: l, e, h => by
  rw [errS, h v (List.mem_cons_self), errS_noStmt l _ fun w hw => h w (List.mem_cons_of_mem _ hw)]
  simp
theorem room272 {k : Nat} (h : k ≤ 100000) : room k 272 = true := by simp [room]; omega
theorem walkExpr_S : ∀ (n : Nat) (e : Expr) (out : List Vis) (root : Bool), fu e ≤ n → fu e ≤ 140737488351232 → out.length ≤ 401 →
  ∃ ext, F_aq0 n out e root = some (out ++ ext) ∧ (out ++ ext).length ≤ 401 ∧ 401 - (out ++ ext).length = weS e (401 - out.length) ∧ ∀ v, v ∈ ext → v.IsStmt = false := by
 intro n
 induction n with
 | zero => intro e out root h; rw [fu_eq] at h; omega
 | succ n ih =>
  intro e out root h hl ho
  have hfe := fu_eq e
  have hal := fus_len e.Args
  simp only [F_aq0, B_aq0, lit_lt]
  rw [weS_eq]
  by_cases h0 : 400 < out.length
  ·simp only [h0, decide_true, cond_true]
   rw [if_pos (by omega)]
   exact ⟨[], by simp, by simpa using ho, by simp; omega, fun v hv => by cases hv⟩
  ·simp only [h0, decide_false, cond_false, List.length_cons, List.length_nil, room272 (show out.length + (0 + 1) ≤ 100000 by omega), ass_t]
   rw [if_neg (by omega)]
   have hloop : ∀ m i (out : List Vis), e.Args.length < i + m → i ≤ e.Args.length → out.length ≤ 401 →
     ∃ ext, F_aq0_l2 n (F_aq0 n) e m out (i : Int) = some (out ++ ext) ∧ (out ++ ext).length ≤ 401 ∧ 401 - (out ++ ext).length = wesS (e.Args.drop i) (401 - out.length) ∧ ∀ v, v ∈ ext → v.IsStmt = false := by
    intro m
    induction m with
    | zero => intro i out h1 h2; omega
    | succ m ihm =>
     intro i out h1 h2 ho
     simp only [F_aq0_l2, F_aq0_b2, F_aq0_j1]
     by_cases hi : i < e.Args.length
     ·have hg := fus_get e.Args i hi
      rw [drop_get e.Args i default hi, Int.toNat_natCast]
      generalize e.Args.getD i default = a at hg
      rw [wr_s (by omega)]
      simp only [hi, inB_n hi, Int.ofNat_lt, decide_true, cond_true, ass_t, le_lit, wesS]
      by_cases h400 : out.length ≤ 400
      ·simp only [h400, decide_true, cond_true]
       obtain ⟨x1, e1, e2, e3, e4⟩ := ih a out false (by omega) (by omega) ho
       obtain ⟨x2, f1, f2, f3, f4⟩ := ihm (i + 1) (out ++ x1) (by omega) (by omega) e2
       rw [e1, bind_s, f1]
       refine ⟨x1 ++ x2, by rw [List.append_assoc], by rw [← List.append_assoc]; exact f2, by rw [← List.append_assoc, f3, e3], fun v hv => ?_⟩
       rcases List.mem_append.1 hv with hv | hv
       ·exact e4 v hv
       ·exact f4 v hv
      ·simp only [h400, decide_false, cond_false]
       have hz : 401 - out.length = 0 := by omega
       have hw0 := weS_le a 0
       have hw1 := wesS_le (e.Args.drop (i + 1)) (weS a 0)
       exact ⟨[], by simp, by simpa using ho, by rw [hz]; simp; omega, fun v hv => by cases hv⟩
     ·rw [drop_end e.Args i hi]
      simp only [hi, Int.ofNat_lt, decide_false, cond_false, wesS]
      exact ⟨[], by simp, by simpa using ho, by simp, fun v hv => by cases hv⟩
   obtain ⟨x, e1, e2, e3, e4⟩ := hloop n 0 (out ++ [⟨false, ⟨0, [], 0, ⟨0, 0, [], []⟩, ⟨0, 0, [], []⟩, [], []⟩, 0, e, root⟩]) (by omega) (by omega) (by simp; omega)
   refine ⟨⟨false, ⟨0, [], 0, ⟨0, 0, [], []⟩, ⟨0, 0, [], []⟩, [], []⟩, 0, e, root⟩ :: x, ?_, ?_, ?_, ?_⟩
   ·exact e1.trans (by simp)
   ·simpa using e2
   ·have : 401 - (out ++ [(⟨false, ⟨0, [], 0, ⟨0, 0, [], []⟩, ⟨0, 0, [], []⟩, [], []⟩, 0, e, root⟩ : Vis)]).length = 401 - out.length - 1 := by simp; omega
    rw [this, List.drop_zero] at e3
    simpa using e3
   ·intro v hv
    rcases List.mem_cons.1 hv with rfl | hv
    ·rfl
    ·exact e4 v hv
end Go.Ab.Y

namespace Go.Ab.Y
open Go Go.Ab Go.Proofs

theorem walkAbs {α : Type} {n : Nat} (e : Expr) (out : List Vis) (G : List Vis → Option α) (h : fu e ≤ n) (hl : fu e ≤ 140737488351232) (ho : out.length ≤ 401) :
  ∃ ext, (Option.bind (F_dw0 n e) fun r => bif !r then Option.bind (F_aq0 n out e true) G else G out) = G (out ++ ext) ∧ (out ++ ext).length ≤ 401 ∧ 401 - (out ++ ext).length = wfS e (401 - out.length) ∧ ∀ v, v ∈ ext → v.IsStmt = false := by
 rw [ref08_Absent, bind_s]
 unfold wfS
 cases hab : abS e
 ·obtain ⟨x, e1, e2, e3, e4⟩ := walkExpr_S n e out true h hl ho
  refine ⟨x, ?_, e2, ?_, e4⟩
  ·rw [e1]; rfl
  ·rw [e3]
   by_cases h0 : 401 - out.length = 0
   ·rw [if_pos (Or.inl h0), h0]
    have := weS_le e 0
    omega
   ·rw [if_neg (by simp [h0])]
 ·refine ⟨[], by simp, by simpa using ho, ?_, fun v hv => by cases hv⟩
  rw [if_pos (Or.inr rfl)]; simp
theorem walkBody_S : ∀ (n : Nat) (l : List Stmt) (d : Int) (out : List Vis) (e : Int), fss l + 2 ≤ n → fss l ≤ 140737488351232 → out.length ≤ 401 →
  ∃ ext, F_v0 n out l d = some (out ++ ext) ∧ (out ++ ext).length ≤ 401 ∧ (401 - (out ++ ext).length, errS e ext) = wbS l d (401 - out.length, e) ∧ ∀ v, v ∈ ext → v.IsStmt = true → fst v.Stmt < fss l := by
 intro n
 induction n with
 | zero => intro l d out e h; omega
 | succ n ih =>
  intro l d out e h hl ho
  have hal := fss_len l
  simp only [F_v0, B_v0]
  have hloop : ∀ m i (out : List Vis) (e : Int), l.length < i + m → i ≤ l.length → out.length ≤ 401 →
    ∃ ext, F_v0_l2 n (F_v0 n) l d m out (i : Int) = some (out ++ ext) ∧ (out ++ ext).length ≤ 401 ∧ (401 - (out ++ ext).length, errS e ext) = wbS (l.drop i) d (401 - out.length, e) ∧ ∀ v, v ∈ ext → v.IsStmt = true → fst v.Stmt < fss l := by
   intro m
   induction m with
   | zero => intro i out e h1 h2; omega
   | succ m ihm =>
    intro i out e h1 h2 ho
    simp only [F_v0_l2, F_v0_b2, F_v0_j1, F_v0_j4, F_v0_j5, F_v0_j3, eta_E, eta_S]
    by_cases hi : i < l.length
    ·have hg := fss_get l i hi
     rw [drop_get l i default hi, Int.toNat_natCast]
     generalize l.getD i default = s at hg
     have hfs := fst_eq s
     rw [wr_s (by omega)]
     simp only [hi, inB_n hi, Int.ofNat_lt, decide_true, cond_true, ass_t, le_lit, wbS]
     by_cases h400 : out.length ≤ 400
     ·rw [if_neg (by omega)]
      simp only [h400, decide_true, cond_true, List.length_cons, List.length_nil, room272 (show out.length + (0 + 1) ≤ 100000 by omega), ass_t]
      obtain ⟨x1, a1, a2, a3, a4⟩ := walkAbs (n := n) s.A (out ++ [(⟨true, s, d, ⟨0, 0, [], []⟩, false⟩ : Vis)]) (fun v28 => Option.bind (F_dw0 n s.B) fun r30 => bif !r30 then Option.bind (F_aq0 n v28 s.B true) fun r32 =>
        Option.bind (F_v0 n r32 s.Body (IntKind.i64.wrap (d + 1))) fun r35 => Option.bind (F_v0 n r35 s.Else (IntKind.i64.wrap (d + 1))) fun r37 => F_v0_l2 n (F_v0 n) l d m r37 ((i + 1 : Nat) : Int)
       else Option.bind (F_v0 n v28 s.Body (IntKind.i64.wrap (d + 1))) fun r35 => Option.bind (F_v0 n r35 s.Else (IntKind.i64.wrap (d + 1))) fun r37 => F_v0_l2 n (F_v0 n) l d m r37 ((i + 1 : Nat) : Int)) (by omega) (by omega) (by simp; omega)
      rw [a1]
      obtain ⟨x2, b1, b2, b3, b4⟩ := walkAbs (n := n) s.B (out ++ [(⟨true, s, d, ⟨0, 0, [], []⟩, false⟩ : Vis)] ++ x1) (fun v => Option.bind (F_v0 n v s.Body (IntKind.i64.wrap (d + 1))) fun r35 => Option.bind (F_v0 n r35 s.Else (IntKind.i64.wrap (d + 1))) fun r37 => F_v0_l2 n (F_v0 n) l d m r37 ((i + 1 : Nat) : Int)) (by omega) (by omega) a2
      rw [b1]
      obtain ⟨x3, c1, c2, c3, c4⟩ := ih s.Body (IntKind.i64.wrap (d + 1)) _ (if e = 0 then stS s d else e) (by omega) (by omega) b2
      rw [c1, bind_s]
      obtain ⟨x4, d1, d2, d3, d4⟩ := ih s.Else (IntKind.i64.wrap (d + 1)) _ (errS (if e = 0 then stS s d else e) x3) (by omega) (by omega) c2
      rw [d1, bind_s]
      obtain ⟨x5, f1, f2, f3, f4⟩ := ihm (i + 1) _ (errS (errS (if e = 0 then stS s d else e) x3) x4) (by omega) (by omega) d2
      rw [f1]
      have hlen1 : 401 - (out ++ [(⟨true, s, d, ⟨0, 0, [], []⟩, false⟩ : Vis)]).length = 401 - out.length - 1 := by simp; omega
      refine ⟨(⟨true, s, d, ⟨0, 0, [], []⟩, false⟩ : Vis) :: (x1 ++ (x2 ++ (x3 ++ (x4 ++ x5)))), ?_, ?_, ?_, ?_⟩
      ·simp
      ·simpa using f2
      ·have e1 : errS e ((⟨true, s, d, ⟨0, 0, [], []⟩, false⟩ : Vis) :: (x1 ++ (x2 ++ (x3 ++ (x4 ++ x5))))) = errS (errS (errS (if e = 0 then stS s d else e) x3) x4) x5 := by
        simp only [errS, and_true, errS_app]
        rw [errS_noStmt x1 _ a4, errS_noStmt x2 _ b4]
       have e2 : (out ++ (⟨true, s, d, ⟨0, 0, [], []⟩, false⟩ : Vis) :: (x1 ++ (x2 ++ (x3 ++ (x4 ++ x5))))).length = (out ++ [(⟨true, s, d, ⟨0, 0, [], []⟩, false⟩ : Vis)] ++ x1 ++ x2 ++ x3 ++ x4 ++ x5).length := by simp
       rw [e1, e2, f3]
       congr 1
       rw [wsS_eq]
       simp only
       rw [d3, c3, b3, a3, hlen1]
      ·intro v hv hst
       simp only [List.mem_cons, List.mem_append] at hv
       rcases hv with rfl | hv | hv | hv | hv | hv
       ·exact hg
       ·rw [a4 v hv] at hst; cases hst
       ·rw [b4 v hv] at hst; cases hst
       ·have := c4 v hv hst; omega
       ·have := d4 v hv hst; omega
       ·exact f4 v hv hst
     ·rw [if_pos (by omega)]
      simp only [h400, decide_false, cond_false]
      exact ⟨[], by simp, by simpa using ho, by simp [errS], fun v hv => by cases hv⟩
    ·rw [drop_end l i hi]
     simp only [hi, Int.ofNat_lt, decide_false, cond_false, wbS]
     exact ⟨[], by simp, by simpa using ho, by simp [errS], fun v hv => by cases hv⟩
  exact hloop n 0 out e (by omega) (by omega) ho
end Go.Ab.Y

namespace Go.Ab.Y
open Go Go.Ab Go.Proofs

def vpS (p : Proc) : Int :=
 if nameS p.Name = false then 7 else if parsS p.Params ≠ 0 then parsS p.Params
 else if (wbS p.Body 1 (401, 0)).2 = 0 ∧ (wbS p.Body 1 (401, 0)).1 = 0 then 2 else (wbS p.Body 1 (401, 0)).2
theorem ast_Validate {n : Nat} (p : Proc) (hN : p.Name.length ≤ 140737488351232) (hP : fps p.Params < n) (hP2 : fps p.Params ≤ 140737488351232) (hB : fss p.Body + 2 ≤ n) (hB2 : fss p.Body ≤ 140737488351232) : F_bw0 n p = some (vpS p) := by
 unfold F_bw0 F_ew0 vpS
 rw [lexer_IsName n p.Name hN, ast_params p.Params hP hP2]
 simp only [bind_s]
 cases nameS p.Name
 ·rfl
 ·simp only [Bool.not_true, cond_false, Bool.true_eq_false, if_false]
  by_cases h : parsS p.Params = 0
  ·simp only [h, decide_true, Bool.not_true, cond_false, ne_eq, not_true, if_false]
   have := walker_block n p.Body 1 401 0 hB hB2 (by omega)
   rw [show F_ab0 n p.Body 1 401 0 = _ from this]
   have hle := wbS_le p.Body 1 (401, 0)
   simp only at hle
   generalize wbS p.Body 1 (401, 0) = r at hle
   obtain ⟨k, e⟩ := r
   simp only [bind_s]
   simp only at hle
   rw [show IntKind.i64.wrap (401 - ((k : Nat) : Int)) = 401 - ((k : Nat) : Int) by rw [wr] <;> omega]
   by_cases he : e = 0
   ·by_cases hk : k = 0
    ·subst hk; subst he; rfl
    ·simp only [he, hk, decide_true, cond_true, and_false, if_false, show ¬ (400 : Int) < 401 - ((k : Nat) : Int) by omega, decide_false, cond_false]
   ·simp only [he, decide_false, cond_false, false_and, if_false]
  ·simp only [h, decide_false, Bool.not_false, cond_true, ne_eq, not_false_iff, if_true]
theorem errS_ne : ∀ (l : List Vis) (e : Int), e ≠ 0 → errS e l = e
 | [], e, h => rfl
 | v :: l, e, h => by rw [errS, if_neg (fun x => h x.1), errS_ne l e h]
theorem ref08_Validate_l2 (n : Nat) (l : List Vis) (hn : 25 < n) (B : Nat) (hB : B ≤ n) (hB2 : B ≤ 140737488351232) (hl : l.length ≤ 401) (hs : ∀ v, v ∈ l → v.IsStmt = true → fst v.Stmt < B) : ∀ m i, l.length < i + m → i ≤ l.length →
  F_bd0_l2 n l m (i : Int) = some (if errS 0 (l.drop i) ≠ 0 then errS 0 (l.drop i) else if 400 < l.length then 2 else 0) := by
 intro m
 induction m with
 | zero => intro i h h2; omega
 | succ m ih =>
  intro i hm hi
  simp only [F_bd0_l2, F_bd0_b2, F_bd0_j1, F_bd0_j3]
  by_cases h : i < l.length
  ·have hv : l.getD i default ∈ l := by
    have e : l.getD i default = l[i] := by simp [List.getD, h]
    rw [e]; exact List.getElem_mem h
   have hst := hs _ hv
   rw [drop_get l i default h, wr_s (by omega), Int.toNat_natCast, ih (i + 1) (by omega) (by omega)]
   generalize l.getD i default = v at hst
   simp only [h, inB_n h, Int.ofNat_lt, decide_true, cond_true, ass_t, errS]
   cases hq : v.IsStmt
   ·simp only [cond_false, Bool.false_eq_true, and_false, if_false]
   ·have hf := hst hq
    have hfe := fst_eq v.Stmt
    rw [ref08_stmt v.Stmt v.Depth hn (by omega) (by omega) (by omega) (by omega) (by omega) (by omega)]
    simp only [cond_true, bind_s, and_self, if_true]
    by_cases he : stS v.Stmt v.Depth = 0
    ·simp only [he, decide_true, Bool.not_true, cond_false]
    ·simp only [he, decide_false, Bool.not_false, cond_true]
     rw [errS_ne _ _ he, if_pos he]
  ·rw [drop_end l i h]
   simp only [h, Int.ofNat_lt, decide_false, cond_false, errS, lit_lt, ne_eq, not_true, if_false]
   by_cases h4 : 400 < l.length
   ·simp only [h4, decide_true, cond_true, if_true]
   ·simp only [h4, decide_false, cond_false, if_false]
theorem ref08_Validate {n : Nat} (p : Proc) (hn : 500 < n) (hN : p.Name.length < n) (hN2 : p.Name.length ≤ 140737488351232) (hP : fps p.Params < n) (hP2 : fps p.Params ≤ 140737488351232) (hB : fss p.Body + 2 ≤ n) (hB2 : fss p.Body ≤ 140737488351232) : F_bd0 n p = some (vpS p) := by
 unfold F_bd0 F_ff0 vpS
 rw [ref07_IsName p.Name hN (by omega) (by omega), ref08_params p.Params (by omega) hP hP2]
 simp only [bind_s]
 cases nameS p.Name
 ·rfl
 ·simp only [Bool.not_true, cond_false, Bool.true_eq_false, if_false]
  by_cases h : parsS p.Params = 0
  ·simp only [h, decide_true, Bool.not_true, cond_false, ne_eq, not_true, if_false]
   obtain ⟨ext, e1, e2, e3, e4⟩ := walkBody_S n p.Body 1 [] 0 hB hB2 (by simp)
   rw [List.nil_append] at e1 e2 e3
   rw [e1]
   simp only [bind_s]
   have := ref08_Validate_l2 n ext (by omega) (fss p.Body) (by omega) hB2 e2 e4 n 0 (by omega) (by omega)
   rw [show F_bd0_l2 n ext n 0 = _ from this, List.drop_zero, List.length_nil] at *
   rw [show 401 - 0 = 401 from rfl] at e3
   rw [← e3]
   simp only
   by_cases he : errS 0 ext = 0
   ·simp only [he, ne_eq, not_true, if_false, true_and]
    by_cases h4 : 400 < ext.length
    ·rw [if_pos h4, if_pos (by omega)]
    ·rw [if_neg h4, if_neg (by omega)]
   ·rw [if_pos he, if_neg (fun x => he x.1)]
  ·simp only [h, decide_false, Bool.not_false, cond_true, ne_eq, not_false_iff, if_true]
end Go.Ab.Y

namespace Go.Ab.Y
open Go Go.Ab Go.Proofs

theorem eta_P (p : Proc) : (⟨p.Name, p.Params, p.Body⟩ : Proc) = p := rfl
theorem procs_eq {n : Nat} (src : List UInt8) (hs : src.length ≤ 800 ∨ 16384 < src.length) (hn : 900000 ≤ n) :
  ∃ r, F_am0 n src = some r ∧ F_fg0 n src = some r ∧ wtP r.1 ≤ 100000 := by
 have h30 : wtP (⟨[], [], []⟩ : Proc) ≤ 100000 := by simp [wtP, fps, fss]
 obtain ⟨⟨l, ln, e⟩, t1, t2, t3⟩ := tokenize_both (fun t => t.Kind = 5 → t.Text ∈ marks) (fun s ln h1 h2 => tokS_mark s ln h1 h2) (n := n) src (by omega) (by omega)
 unfold F_am0 F_bt0 F_fg0
 rw [t1, t2]
 simp only [bind_s]
 by_cases he : e = 0
 ·obtain ⟨h1, h2, h3⟩ := t3 he
  simp only at h1 h3
  subst he
  have hg : GoodT l := h3
  have hlen := tw_len l
  have hll : l.length ≤ 1000 := by omega
  have hpl : pw l l.length = tw l := by unfold pw; rw [List.take_length]
  have hE := proc_both (l := l) (by omega) hg (i := 0) (n1 := n) (n2 := n) (by omega) (by omega) (by omega)
  simp only [decide_true, Bool.not_true, cond_false]
  unfold F_dq0
  rcases hE with ⟨a, k, e1, e2, hk1, hk2, hk3⟩ | ⟨k, c, z, a, e1, e2, hc, hk⟩
  ·have e1 : F_k0 n ⟨l, 0⟩ = some (Pn.ret a ((k : Nat) : Int)) := e1
   have e2 : F_et0 n l 0 = some (a, ((k : Nat) : Int), 0) := e2
   have hpm := pw_mono l k l.length hk2
   rw [e1, e2]
   simp only [bind_s, Pn.on, Int.ofNat_lt, F_fc0, decide_true, cond_true]
   by_cases hkl : k < l.length
   ·simp only [hkl, decide_true, cond_true, p_fail n l k 5 (by omega), bind_s, Pn.on, asFail_fl, show ¬ (5 : Int) = 0 by omega, decide_false, Bool.not_false, r_line n l k (by omega) hk2]
    have : wrC l k 5 = 5 := if_pos hkl
    simp only [this, show ¬ (5 : Int) = 0 by omega, decide_false, cond_false, F_am0_j1, Bool.not_false, cond_true]
    exact ⟨_, rfl, rfl, h30⟩
   ·simp only [hkl, decide_false, cond_false, bind_s, decide_true, Bool.not_true, cond_true, eta_P]
    have hw : wtP a ≤ 50000 := by omega
    have hw2 : a.Name.length + fps a.Params + fss a.Body ≤ 50000 := hw
    rw [ast_Validate (n := n) a (by omega) (by omega) (by omega) (by omega) (by omega), ref08_Validate (n := n) a (by omega) (by omega) (by omega) (by omega) (by omega) (by omega) (by omega)]
    simp only [bind_s, F_am0_j1]
    by_cases hr : vpS a = 0
    ·simp only [hr, decide_true, Bool.not_true, cond_false, eta_P]
     exact ⟨_, rfl, rfl, by simp only; omega⟩
    ·simp only [hr, decide_false, Bool.not_false, cond_true]
     exact ⟨_, rfl, rfl, h30⟩
  ·have e1 : F_k0 n ⟨l, 0⟩ = some (Pn.pan (fl l k c) z) := e1
   have e2 : F_et0 n l 0 = some (a, ((k : Nat) : Int), c) := e2
   rw [e1, e2]
   simp only [bind_s, Pn.on, asFail_fl, F_fc0, hc, decide_false, cond_false, Bool.not_false, cond_true, r_line n l k (by omega) hk, F_am0_j1]
   exact ⟨_, rfl, rfl, h30⟩
 ·simp only [he, decide_false, Bool.not_false, cond_true, bind_s, cond_false, F_am0_j1]
  exact ⟨_, rfl, rfl, h30⟩
end Go.Ab.Y

namespace Go.Ab.Y
open Go Go.Ab Go.Proofs

end Go.Ab.Y

namespace Go.Ab.Y
open Go Go.Ab Go.Proofs

section
variable {l : List Token}
end
end Go.Ab.Y

namespace Go.Ab.Y
open Go Go.Ab Go.Proofs

def er (t : Token) : Token := ⟨t.Kind, t.Text, t.N, 0⟩
inductive Tk : List UInt8 → List Token → Prop
 | nil : Tk [] []
 | sp {c : UInt8} {s : List UInt8} {T : List Token} : (c.toNat = 10 ∨ c.toNat = 32) → Tk s T → Tk (c :: s) T
 | tok {c : UInt8} {w s : List UInt8} {t : Token} {T : List Token} : c.toNat ≠ 10 → c.toNat ≠ 32 → c.toNat ≠ 9 → c.toNat ≠ 35 → tokS (c :: (w ++ s)) = (t, w.length + 1, 0) → t.Line = 0 → Tk s T → Tk (c :: (w ++ s)) (t :: T)
theorem drop_cons {src s : List UInt8} {c : UInt8} {i : Nat} (h : src.drop i = c :: s) : i < src.length ∧ src.getD i 0 = c ∧ src.drop (i + 1) = s := by
 have hi : i < src.length := by
  by_cases hi : i < src.length
  ·exact hi
  ·rw [drop_end src i hi] at h; cases h
 rw [drop_get src i 0 hi] at h
 injection h with h1 h2
 exact ⟨hi, h1, h2⟩
theorem tk_l2 (n : Nat) (src : List UInt8) (hs : src.length ≤ 1000000000) (hn : src.length < n) (hn2 : 100 < n) {s : List UInt8} {T : List Token} (h : Tk s T) :
  ∀ (i m : Nat) (out : List Token) (ln : Nat), src.drop i = s → i ≤ src.length → src.length < i + m → tw out ≤ 61 * i → 1 ≤ ln → ln ≤ i + 1 →
  ∃ l, F_p0_l2 n src m out (ln : Int) (i : Int) = some (out ++ l, 0, 0) ∧ l.map er = T ∧ ∀ t, t ∈ l → 1 ≤ t.Line := by
 induction h with
 | nil =>
  intro i m out ln hd hi hm hw h1 h2
  obtain ⟨m, rfl⟩ : ∃ j, m = j + 1 := ⟨m - 1, by omega⟩
  have h : ¬ i < src.length := fun h => by rw [drop_get src i 0 h] at hd; cases hd
  simp only [F_p0_l2, F_p0_b2, F_p0_j1, h, Int.ofNat_lt, decide_false, cond_false]
  exact ⟨[], by simp, rfl, fun t ht => by cases ht⟩
 | @sp c s T hc hT ih =>
  intro i m out ln hd hi hm hw h1 h2
  obtain ⟨m, rfl⟩ : ∃ j, m = j + 1 := ⟨m - 1, by omega⟩
  obtain ⟨h, hg, hd2⟩ := drop_cons hd
  simp only [F_p0_l2, F_p0_b2, F_p0_j1, F_p0_j4, F_p0_j3]
  rw [wr_s (by omega), wr_s (by omega), Int.toNat_natCast, hg]
  simp only [h, inB_n h, Int.ofNat_lt, decide_true, cond_true, ass_t, eq_lit]
  rcases hc with hc | hc
  ·simp only [hc, decide_true, cond_true]
   exact ih (i + 1) m out (ln + 1) hd2 (by omega) (by omega) (by omega) (by omega) (by omega)
  ·simp only [hc, show ¬ (32 = 10) by omega, decide_false, decide_true, cond_true, cond_false]
   exact ih (i + 1) m out ln hd2 (by omega) (by omega) (by omega) (by omega) (by omega)
 | @tok c w s t T c10 c32 c9 c35 ht hl hT ih =>
  intro i m out ln hd hi hm hw h1 h2
  obtain ⟨m, rfl⟩ : ∃ j, m = j + 1 := ⟨m - 1, by omega⟩
  obtain ⟨h, hg, hd2⟩ := drop_cons hd
  have hlen : (src.drop i).length = src.length - i := List.length_drop
  have hlen2 : w.length + s.length + 1 = src.length - i := by rw [← hlen, hd]; simp
  have hok := tokS_ok (c :: (w ++ s)) (by simp) (by rw [ht])
  rw [ht] at hok
  simp only at hok
  have hf : F_di0 n (src.drop i) = some (t, ((w.length + 1 : Nat) : Int), 0) := by
   rw [hd, lexer_first c (w ++ s) (by simp; omega) (by simp; omega), ht]
  simp only [F_p0_l2, F_p0_b2, F_p0_j1, F_p0_j4, F_p0_j3]
  rw [Int.toNat_natCast, hg, hf]
  have hol := tw_len out
  simp only [h, inB_n h, Int.ofNat_lt, decide_true, cond_true, ass_t, eq_lit, c10, c32, c9, c35, decide_false, cond_false, upB_n hi, bind_s, Bool.not_true, clone (show t.Text.length ≤ 281474976710656 by omega), List.length_cons, List.length_nil, room40 (show out.length + (0 + 1) ≤ 1000000000000 by omega)]
  rw [show IntKind.i64.wrap ((i : Int) + ((w.length + 1 : Nat) : Int)) = ((i + (w.length + 1) : Nat) : Int) by rw [wr] <;> omega]
  obtain ⟨l, e1, e2, e3⟩ := ih (i + (w.length + 1)) m (out ++ [⟨t.Kind, t.Text, t.N, (ln : Int)⟩]) ln (by
   rw [← List.drop_drop, hd, List.drop_succ_cons, List.drop_left]) (by omega) (by omega) (by rw [tw_app]; simp only [tw]; omega) h1 (by omega)
  refine ⟨⟨t.Kind, t.Text, t.N, (ln : Int)⟩ :: l, by rw [e1]; simp, ?_, ?_⟩
  ·rw [List.map_cons, e2]
   congr 1
   unfold er
   rw [← hl]
  ·intro t' ht'
   rcases List.mem_cons.1 ht' with rfl | ht'
   ·simp only; omega
   ·exact e3 t' ht'
theorem tokenize_Tk {n : Nat} {s : List UInt8} {T : List Token} (h : Tk s T) (hs : s.length ≤ 16384) (hn : s.length < n) (hn2 : 100 < n) :
  ∃ l, F_p0 n s = some (l, 0, 0) ∧ l.map er = T ∧ (∀ t, t ∈ l → 1 ≤ t.Line) ∧ GoodT l ∧ tw l ≤ 61 * s.length := by
 obtain ⟨l, e1, e2, e3⟩ := tk_l2 n s (by omega) hn hn2 h 0 n [] 1 rfl (by omega) (by omega) (by simp [tw]) (by omega) (by omega)
 have e : F_p0 n s = some (l, 0, 0) := by
  unfold F_p0
  simp only [lit_lt, show ¬ 16384 < s.length by omega, decide_false, cond_false]
  exact e1
 obtain ⟨r, t1, t2, t3⟩ := tokenize_both (fun t => t.Kind = 5 → t.Text ∈ marks) (fun s ln h1 h2 => tokS_mark s ln h1 h2) (n := n) s (by omega) (by omega)
 rw [e] at t1
 obtain rfl := Option.some.inj t1
 obtain ⟨g1, g2, g3⟩ := t3 rfl
 exact ⟨l, e, e2, e3, g3, g1⟩
end Go.Ab.Y

namespace Go.Ab.Y
open Go Go.Ab Go.Proofs

theorem dec_eq (u : Nat) : Lib.decDigits u = if u < 10 then [UInt8.ofNat (48 + u)] else Lib.decDigits (u / 10) ++ [UInt8.ofNat (48 + u % 10)] := by
 rw [Lib.decDigits]; split <;> rfl
theorem toNat_dig {k : Nat} (h : k < 10) : (UInt8.ofNat (48 + k)).toNat = 48 + k := by
 rw [UInt8.toNat_ofNat']; omega
theorem val_app (u : Nat) (l m : List UInt8) : val u (l ++ m) = val (val u l) m := by unfold val; rw [List.foldl_append]
theorem dec_all : ∀ (u : Nat), (Lib.decDigits u).all digB = true ∧ val 0 (Lib.decDigits u) = u ∧ (∃ c l, Lib.decDigits u = c :: l ∧ (c = 48 → u = 0)) ∧ (u < 10 → (Lib.decDigits u).length = 1) := by
 intro u
 induction u using Nat.strongRecOn with
 | _ u ih =>
  rw [dec_eq]
  by_cases h : u < 10
  ·rw [if_pos h]
   have e := toNat_dig h
   refine ⟨?_, ?_, ⟨_, _, rfl, fun h0 => ?_⟩, fun _ => rfl⟩
   ·simp only [List.all_cons, List.all_nil, Bool.and_true, digB_iff, e]; omega
   ·rw [val_cons, val_nil, e]; omega
   ·rw [h0] at e
    have : (48 : UInt8).toNat = 48 := rfl
    omega
  ·rw [if_neg h]
   obtain ⟨h1, h2, ⟨c, l, h3, h4⟩, h5⟩ := ih (u / 10) (by omega)
   have e := toNat_dig (show u % 10 < 10 by omega)
   refine ⟨?_, ?_, ⟨c, l ++ [UInt8.ofNat (48 + u % 10)], by rw [h3]; rfl, fun h0 => ?_⟩, fun h0 => absurd h0 h⟩
   ·rw [List.all_append, h1]
    simp only [List.all_cons, List.all_nil, Bool.and_true, Bool.true_and, digB_iff, e]; omega
   ·rw [val_app, h2, val_cons, val_nil, e]; omega
   ·have := h4 h0; omega
theorem numS_dec (u : Nat) (h : u ≤ 9223372036854775807) : numS (Lib.decDigits u) = ((u : Int), 0) := by
 obtain ⟨h1, h2, ⟨c, l, h3, h4⟩, h5⟩ := dec_all u
 unfold numS
 rw [if_pos, h2, if_pos h]
 refine ⟨h1, ?_⟩
 by_cases hc : c = 48
 ·exact Or.inr (h5 (by have := h4 hc; omega))
 ·left; rw [h3]; simpa using hc
theorem dig_word {c : UInt8} (h : digB c = true) : wordB c = true := by
 rw [digB_iff] at h; unfold wordB; exact decide_eq_true (by omega)
theorem let_word {c : UInt8} (h : letB c = true) : wordB c = true := by
 unfold letB at h; simp only [Bool.and_eq_true, decide_eq_true_eq] at h; unfold wordB; exact decide_eq_true (by omega)
theorem all_mono {α : Type} {p q : α → Bool} (h : ∀ a, p a = true → q a = true) {l : List α} (hl : l.all p = true) : l.all q = true := by
 rw [List.all_eq_true] at hl ⊢; exact fun a ha => h a (hl a ha)

def brk (r : List UInt8) : Prop := ∀ c, r.head? = some c → wordB c = false
theorem wordLen_app {w r : List UInt8} (hw : w.all wordB = true) (hr : brk r) : wordLen (w ++ r) = w.length := by
 induction w with
 | nil =>
  cases r with
  | nil => rfl
  | cons c r => rw [List.nil_append, wordLen_cons, hr c rfl]; rfl
 | cons c w ih =>
  simp only [List.all_cons, Bool.and_eq_true] at hw
  rw [List.cons_append, wordLen_cons, hw.1, ih hw.2]; rfl
theorem tokS_word {c : UInt8} {w r : List UInt8} (hw : (c :: w).all wordB = true) (hr : brk r) (h0 : (wordT (c :: w)).2 = 0) : tokS (c :: (w ++ r)) = ((wordT (c :: w)).1, w.length + 1, 0) := by
 have hc : wordB c = true := by simp only [List.all_cons, Bool.and_eq_true] at hw; exact hw.1
 have hl := wordLen_app hw hr
 have ht : (c :: (w ++ r)).take (w.length + 1) = c :: w := by simp
 rw [List.cons_append] at hl
 unfold tokS
 simp only [hc, if_true, hl, List.length_cons, ht, h0]
theorem kws_word {w : List UInt8} (h : w ∈ kws) : ∃ c l, w = c :: l ∧ letB c = true ∧ w.all wordB = true := by
 simp only [kws, List.mem_cons, List.not_mem_nil, or_false] at h
 rcases h with rfl | rfl | rfl | rfl | rfl | rfl | rfl | rfl | rfl | rfl | rfl | rfl | rfl | rfl | rfl | rfl | rfl | rfl | rfl | rfl | rfl | rfl | rfl | rfl | rfl <;> exact ⟨_, _, rfl, rfl, rfl⟩
theorem wordLen_all {w : List UInt8} : wordLen w = w.length → w.all wordB = true := by
 induction w with
 | nil => intro; rfl
 | cons c w ih =>
  intro h
  rw [wordLen_cons] at h
  cases hc : wordB c
  ·rw [hc] at h; simp at h
  ·rw [hc] at h
   simp only [cond_true, List.length_cons] at h
   rw [List.all_cons, hc, ih (by omega)]; rfl
theorem name_word {w : List UInt8} (h : nameS w = true) : ∃ c l, w = c :: l ∧ letB c = true ∧ w.all wordB = true ∧ kwS w = false ∧ w.length ≤ 16 := by
 cases w with
 | nil => cases h
 | cons c l =>
  simp only [nameS, Bool.and_eq_true, decide_eq_true_eq, Bool.not_eq_true'] at h
  obtain ⟨⟨⟨h1, h2⟩, h3⟩, h4⟩ := h
  exact ⟨c, l, rfl, h2, wordLen_all (by simpa using h3), h4, by simp; omega⟩
def escS : List UInt8 → List UInt8
 | [] => []
 | c :: l => if c.toNat = 34 ∨ c.toNat = 92 then 92 :: c :: escS l else c :: escS l
def quo (s : List UInt8) : List UInt8 := 34 :: (escS s ++ [34])
theorem litS_esc : ∀ (s acc r : List UInt8), s.all okB = true → acc.length + s.length ≤ 64 → litS (escS s ++ 34 :: r) acc = .inr (acc ++ s, (escS s).length + 1)
 | [], acc, r, h, hl => by
  simp only [escS, List.nil_append, List.append_nil, List.length_nil]
  rw [litS_cons 34 r acc (by decide), if_pos (by decide)]
 | c :: s, acc, r, h, hl => by
  simp only [List.all_cons, Bool.and_eq_true] at h
  simp only [List.length_cons] at hl
  have ih := litS_esc s (acc ++ [c]) r h.2 (by simp; omega)
  simp only [escS]
  by_cases hc : c.toNat = 34 ∨ c.toNat = 92
  ·rw [if_pos hc, List.cons_append, List.cons_append]
   simp only [litS]
   rw [if_neg (by decide), if_pos (by decide), if_neg (by omega), if_neg (by omega), ih]
   simp only [up, List.length_cons, List.append_assoc, List.singleton_append]
  ·rw [if_neg hc, List.cons_append, litS_cons c _ acc (fun e => hc (Or.inr e)), if_neg (fun e => hc (Or.inl e)), if_neg (by rw [h.1]; decide), if_neg (by omega), ih]
   simp only [up, List.length_cons, List.append_assoc, List.singleton_append]
def spell (t : Token) : List UInt8 := if t.Kind = 3 then Lib.decDigits t.N.toNat else if t.Kind = 4 then quo t.Text else t.Text
def vT (t : Token) : Prop :=
 t.Line = 0 ∧ ((t.Kind = 1 ∧ nameS t.Text = true ∧ t.N = 0) ∨ (t.Kind = 2 ∧ t.Text ∈ kws ∧ t.N = 0) ∨ (t.Kind = 3 ∧ t.Text = [] ∧ 0 ≤ t.N ∧ t.N ≤ 9223372036854775807) ∨
  (t.Kind = 4 ∧ plainS t.Text = true ∧ t.N = 0) ∨ (t.Kind = 5 ∧ t.Text ∈ marks ∧ t.N = 0))
def bh (t : Token) (r : List UInt8) : Prop := (t.Kind < 4 → brk r) ∧ (t.Kind = 5 → ∀ c d, t.Text = [c] → r.head? = some d → [c, d] ∉ two)
theorem marks_cases {w : List UInt8} (h : w ∈ marks) : (w ∈ two ∧ ∃ a b, w = [a, b]) ∨ ∃ c, w = [c] ∧ c ∈ ones := by
 unfold marks at h
 rcases List.mem_append.1 h with h | h
 ·left
  refine ⟨h, ?_⟩
  simp only [two, List.mem_cons, List.not_mem_nil, or_false] at h
  rcases h with rfl | rfl | rfl | rfl | rfl <;> exact ⟨_, _, rfl⟩
 ·right
  obtain ⟨c, hc, rfl⟩ := List.mem_map.1 h
  exact ⟨c, rfl, hc⟩
theorem ones_bytes {c : UInt8} (h : c ∈ ones) : wordB c = false ∧ c.toNat ≠ 34 ∧ c.toNat ≠ 10 ∧ c.toNat ≠ 32 ∧ c.toNat ≠ 9 ∧ c.toNat ≠ 35 := by
 simp only [ones, List.mem_cons, List.not_mem_nil, or_false] at h
 rcases h with rfl | rfl | rfl | rfl | rfl | rfl | rfl | rfl | rfl | rfl | rfl | rfl | rfl | rfl | rfl <;> exact ⟨rfl, by decide, by decide, by decide, by decide, by decide⟩
theorem two_bytes {a b : UInt8} (h : [a, b] ∈ two) : wordB a = false ∧ a.toNat ≠ 34 ∧ a.toNat ≠ 10 ∧ a.toNat ≠ 32 ∧ a.toNat ≠ 9 ∧ a.toNat ≠ 35 := by
 simp only [two, List.mem_cons, List.not_mem_nil, or_false, List.cons.injEq, and_true] at h
 rcases h with ⟨rfl, rfl⟩ | ⟨rfl, rfl⟩ | ⟨rfl, rfl⟩ | ⟨rfl, rfl⟩ | ⟨rfl, rfl⟩ <;> exact ⟨rfl, by decide, by decide, by decide, by decide, by decide⟩
theorem word_bytes {c : UInt8} (h : wordB c = true) : c.toNat ≠ 10 ∧ c.toNat ≠ 32 ∧ c.toNat ≠ 9 ∧ c.toNat ≠ 35 := by
 unfold wordB at h
 have := of_decide_eq_true h
 omega
theorem tokS_spell (t : Token) (r : List UInt8) (hv : vT t) (hb : bh t r) : ∃ c w, spell t = c :: w ∧ tokS (c :: (w ++ r)) = (t, w.length + 1, 0) ∧ c.toNat ≠ 10 ∧ c.toNat ≠ 32 ∧ c.toNat ≠ 9 ∧ c.toNat ≠ 35 := by
 obtain ⟨k, x, N, ln⟩ := t
 obtain ⟨rfl, hv⟩ := hv
 simp only at hv
 rcases hv with ⟨rfl, h1, rfl⟩ | ⟨rfl, h1, rfl⟩ | ⟨rfl, rfl, h1, h2⟩ | ⟨rfl, h1, rfl⟩ | ⟨rfl, h1, rfl⟩
 ·obtain ⟨c, l, rfl, h2, h3, h4, h5⟩ := name_word h1
  have hw : wordT (c :: l) = (⟨1, c :: l, 0, 0⟩, 0) := by simp only [wordT, h2, h4, h1, if_true]; rfl
  have := word_bytes (let_word h2)
  exact ⟨c, l, rfl, by rw [tokS_word h3 (hb.1 (by simp only; omega)) (by rw [hw]), hw], this.1, this.2.1, this.2.2.1, this.2.2.2⟩
 ·obtain ⟨c, l, rfl, h2, h3⟩ := kws_word h1
  have hw : wordT (c :: l) = (⟨2, c :: l, 0, 0⟩, 0) := by simp only [wordT, h2, kwS, h1, decide_true, if_true]
  have := word_bytes (let_word h2)
  exact ⟨c, l, rfl, by rw [tokS_word h3 (hb.1 (by simp only; omega)) (by rw [hw]), hw], this.1, this.2.1, this.2.2.1, this.2.2.2⟩
 ·obtain ⟨u, rfl⟩ : ∃ u : Nat, N = u := ⟨N.toNat, by omega⟩
  obtain ⟨g1, g2, ⟨c, l, g3, g4⟩, g5⟩ := dec_all u
  have hsp : spell ⟨3, [], (u : Int), 0⟩ = c :: l := by simp only [spell, if_true, Int.toNat_natCast]; exact g3
  have hall : (c :: l).all digB = true := by rw [← g3]; exact g1
  have hcd : digB c = true := by simp only [List.all_cons, Bool.and_eq_true] at hall; exact hall.1
  have hlet : letB c = false := by
   rw [digB_iff] at hcd
   unfold letB
   rw [decide_eq_false (show ¬ 97 ≤ c.toNat by omega)]; rfl
  have hn : numS (c :: l) = ((u : Int), 0) := by rw [← g3]; exact numS_dec u (by omega)
  have hw : wordT (c :: l) = (⟨3, [], (u : Int), 0⟩, 0) := by simp only [wordT, hlet, hn, if_true]; rfl
  have := word_bytes (dig_word hcd)
  exact ⟨c, l, hsp, by rw [tokS_word (all_mono (fun _ => dig_word) hall) (hb.1 (by simp only; omega)) (by rw [hw]), hw], this.1, this.2.1, this.2.2.1, this.2.2.2⟩
 ·unfold plainS at h1
  simp only [Bool.and_eq_true, decide_eq_true_eq] at h1
  refine ⟨34, escS x ++ [34], rfl, ?_, by decide, by decide, by decide, by decide⟩
  have := litS_esc x [] r h1.1 (by simp; omega)
  unfold tokS
  rw [List.append_assoc, List.singleton_append]
  simp only [show wordB 34 = false from rfl, Bool.false_eq_true, if_false, show (34 : UInt8).toNat = 34 from rfl, if_true, this, litT, List.nil_append, List.length_append, List.length_cons, List.length_nil]
 ·rcases marks_cases h1 with ⟨h2, a, b, rfl⟩ | ⟨c, rfl, h2⟩
  ·obtain ⟨g0, g1, g2, g3, g4, g5⟩ := two_bytes h2
   refine ⟨a, [b], rfl, ?_, g2, g3, g4, g5⟩
   have hm : markS (a :: b :: r) = [a, b] := by rw [markS_cons2, if_pos h2]
   unfold tokS
   simp only [List.singleton_append, g0, Bool.false_eq_true, if_false, g1, hm, reduceCtorEq, List.length_cons, List.length_nil]
  ·obtain ⟨g0, g1, g2, g3, g4, g5⟩ := ones_bytes h2
   refine ⟨c, [], rfl, ?_, g2, g3, g4, g5⟩
   have hm : markS (c :: r) = [c] := by
    cases r with
    | nil => rw [markS_cons1, if_pos h2]
    | cons d r => rw [markS_cons2, if_neg (hb.2 rfl c d rfl rfl), if_pos h2]
   unfold tokS
   simp only [List.nil_append, g0, Bool.false_eq_true, if_false, g1, hm, reduceCtorEq, List.length_cons, List.length_nil]
theorem Tk_spell {t : Token} {r : List UInt8} {T : List Token} (hv : vT t) (hb : bh t r) (h : Tk r T) : Tk (spell t ++ r) (t :: T) := by
 obtain ⟨c, w, e, h1, h2, h3, h4, h5⟩ := tokS_spell t r hv hb
 rw [e]
 exact Tk.tok h2 h3 h4 h5 h1 hv.1 h
theorem Tk_sp {r : List UInt8} {T : List Token} (h : Tk r T) : Tk (32 :: r) T := Tk.sp (Or.inr rfl) h
theorem Tk_nl {r : List UInt8} {T : List Token} (h : Tk r T) : Tk (10 :: r) T := Tk.sp (Or.inl rfl) h
end Go.Ab.Y

namespace Go.Ab.Y
open Go Go.Ab Go.Proofs

abbrev Pc := List (Option Token)
def flat : Pc → List UInt8
 | [] => []
 | some t :: l => spell t ++ flat l
 | none :: l => 32 :: flat l
def toks : Pc → List Token
 | [] => []
 | some t :: l => t :: toks l
 | none :: l => toks l
theorem flat_app : ∀ l m : Pc, flat (l ++ m) = flat l ++ flat m
 | [], m => rfl
 | some t :: l, m => by simp only [List.cons_append, flat, flat_app l m, List.append_assoc]
 | none :: l, m => by simp only [List.cons_append, flat, flat_app l m]
theorem toks_app : ∀ l m : Pc, toks (l ++ m) = toks l ++ toks m
 | [], m => rfl
 | some t :: l, m => by simp only [List.cons_append, toks, toks_app l m]
 | none :: l, m => by simp only [List.cons_append, toks, toks_app l m]
def kwT (w : List UInt8) : Token := ⟨2, w, 0, 0⟩
def mkT (w : List UInt8) : Token := ⟨5, w, 0, 0⟩
def nmT (w : List UInt8) : Token := ⟨1, w, 0, 0⟩
def inT (n : Int) : Token := ⟨3, [], n, 0⟩
def stT (w : List UInt8) : Token := ⟨4, w, 0, 0⟩
def lvN (op : Int) : Nat := if op = 17 then 1 else if op = 16 then 2 else if op = 18 then 3 else if 10 ≤ op ∧ op ≤ 15 then 4 else if op = 19 then 5 else if op = 4 ∨ op = 5 then 6 else if 6 ≤ op ∧ op ≤ 8 then 7 else if op = 9 then 8 else 9
def sgT (op : Int) : Token :=
 if op = 17 then kwT [111, 114] else if op = 16 then kwT [97, 110, 100] else if op = 10 then mkT [61, 61] else if op = 11 then mkT [33, 61] else if op = 12 then mkT [60] else if op = 13 then mkT [60, 61]
 else if op = 14 then mkT [62] else if op = 15 then mkT [62, 61] else if op = 19 then mkT [43, 43] else if op = 4 then mkT [43] else if op = 5 then mkT [45] else if op = 6 then mkT [42] else if op = 7 then mkT [47] else mkT [37]
def wdT (op : Int) : Token :=
 if op = 20 then kwT [116, 101, 120, 116] else if op = 21 then kwT [108, 101, 110] else if op = 22 then kwT [103, 101, 116, 105, 110, 116] else if op = 23 then kwT [103, 101, 116, 115, 116, 114] else if op = 24 then kwT [104, 97, 115]
 else if op = 25 then kwT [110, 111, 119] else if op = 26 then kwT [114, 97, 110, 100, 111, 109] else kwT [110, 111, 100, 101]
def pcA (op : Int) (p : Pc) (least : Nat) : Pc := if lvN op < least then some (mkT [40]) :: (p ++ [some (mkT [41])]) else p
def pcO (Op N : Int) (S : List UInt8) (L : List (Int × Pc)) : Pc :=
 if Op = 1 then [some (inT N)] else if Op = 2 then [some (stT S)] else if Op = 3 then [some (nmT S)]
 else match L with
  | [] => [some (wdT Op), some (mkT [40]), some (mkT [41])]
  | [a] => if Op = 18 then some (kwT [110, 111, 116]) :: none :: pcA a.1 a.2 3 else if Op = 9 then some (mkT [45]) :: pcA a.1 a.2 8 else some (wdT Op) :: some (mkT [40]) :: (a.2 ++ [some (mkT [41])])
  | a :: b :: _ => pcA a.1 a.2 (if lvN Op = 4 then 5 else lvN Op) ++ none :: some (sgT Op) :: none :: pcA b.1 b.2 (lvN Op + 1)
mutual
def pcs : Expr → Pc
 | ⟨Op, N, S, Args⟩ => pcO Op N S (pcss Args)
def pcss : List Expr → List (Int × Pc)
 | [] => []
 | x :: l => (x.Op, pcs x) :: pcss l
end
def okN (op : Int) (n : Nat) : Prop := (1 ≤ op ∧ op ≤ 27) ∧ (n : Int) = arS op
mutual
def okE : Expr → Prop
 | ⟨Op, N, S, Args⟩ => okN Op Args.length ∧ (Op = 1 → 0 ≤ N ∧ N ≤ 9223372036854775807) ∧ (Op ≠ 1 → N = 0) ∧ (Op ≠ 2 ∧ Op ≠ 3 → S = []) ∧ (Op = 2 → plainS S = true) ∧ (Op = 3 → nameS S = true) ∧ okEs Args
def okEs : List Expr → Prop
 | [] => True
 | x :: l => okE x ∧ okEs l
end
mutual
def hgt : Expr → Nat
 | ⟨_, _, _, Args⟩ => 1 + hgts Args
def hgts : List Expr → Nat
 | [] => 0
 | x :: l => max (hgt x) (hgts l)
end
theorem okE_eq (e : Expr) : okE e ↔ okN e.Op e.Args.length ∧ (e.Op = 1 → 0 ≤ e.N ∧ e.N ≤ 9223372036854775807) ∧ (e.Op ≠ 1 → e.N = 0) ∧ (e.Op ≠ 2 ∧ e.Op ≠ 3 → e.S = []) ∧ (e.Op = 2 → plainS e.S = true) ∧ (e.Op = 3 → nameS e.S = true) ∧ okEs e.Args := by cases e; rfl
theorem hgt_eq (e : Expr) : hgt e = 1 + hgts e.Args := by cases e; rfl

def OkP (p : Pc) : Prop := ∀ r T, brk r → Tk r T → Tk (flat p ++ r) (toks p ++ T)
theorem brk_c {c : UInt8} {r : List UInt8} (h : wordB c = false) : brk (c :: r) := fun d hd => by cases hd; exact h
theorem bh_brk {t : Token} {r : List UInt8} (h5 : t.Kind ≠ 5) (h : brk r) : bh t r := ⟨fun _ => h, fun e => absurd e h5⟩
theorem bh_sp {t : Token} {r : List UInt8} : bh t (32 :: r) := ⟨fun _ => brk_c rfl, fun _ c d hc hd => by
 cases hd; simp [two]⟩
theorem bh_nl {t : Token} {r : List UInt8} : bh t (10 :: r) := ⟨fun _ => brk_c rfl, fun _ c d hc hd => by
 cases hd; simp [two]⟩
theorem bh_mark {c : UInt8} {r : List UInt8} (h : c ≠ 61 ∧ c ≠ 33 ∧ c ≠ 60 ∧ c ≠ 62 ∧ c ≠ 43) : bh (mkT [c]) r := ⟨fun e => by simp [mkT] at e, fun _ a d ha hd => by
 simp only [mkT, List.cons.injEq, and_true] at ha
 subst ha
 simp [two, h]⟩
theorem vT_kw {w : List UInt8} (h : w ∈ kws) : vT (kwT w) := ⟨rfl, Or.inr (Or.inl ⟨rfl, h, rfl⟩)⟩
theorem vT_mk {w : List UInt8} (h : w ∈ marks) : vT (mkT w) := ⟨rfl, Or.inr (Or.inr (Or.inr (Or.inr ⟨rfl, h, rfl⟩)))⟩
theorem vT_nm {w : List UInt8} (h : nameS w = true) : vT (nmT w) := ⟨rfl, Or.inl ⟨rfl, h, rfl⟩⟩
theorem vT_in {n : Int} (h : 0 ≤ n) (h2 : n ≤ 9223372036854775807) : vT (inT n) := ⟨rfl, Or.inr (Or.inr (Or.inl ⟨rfl, rfl, h, h2⟩))⟩
theorem vT_st {w : List UInt8} (h : plainS w = true) : vT (stT w) := ⟨rfl, Or.inr (Or.inr (Or.inr (Or.inl ⟨rfl, h, rfl⟩)))⟩
theorem OkP_one {t : Token} (h : vT t) (h5 : t.Kind ≠ 5) : OkP [some t] := fun r T hb hT => by
 simp only [flat, toks, List.append_nil]
 exact Tk_spell h (bh_brk h5 hb) hT
theorem Tk_rp {r : List UInt8} {T : List Token} (h : Tk r T) : Tk (41 :: r) (mkT [41] :: T) := Tk_spell (t := mkT [41]) (vT_mk (by decide)) (bh_mark (by decide)) h
theorem Tk_lp {r : List UInt8} {T : List Token} (h : Tk r T) : Tk (40 :: r) (mkT [40] :: T) := Tk_spell (t := mkT [40]) (vT_mk (by decide)) (bh_mark (by decide)) h
theorem OkP_paren {p : Pc} (h : OkP p) : OkP (some (mkT [40]) :: (p ++ [some (mkT [41])])) := fun r T hb hT => by
 have e : flat (some (mkT [40]) :: (p ++ [some (mkT [41])])) ++ r = 40 :: (flat p ++ 41 :: r) := by
  simp only [flat, flat_app, spell, mkT]; simp
 have e2 : toks (some (mkT [40]) :: (p ++ [some (mkT [41])])) ++ T = mkT [40] :: (toks p ++ mkT [41] :: T) := by
  simp only [toks, toks_app]; simp
 rw [e, e2]
 exact Tk_lp (h _ _ (brk_c rfl) (Tk_rp hT))
theorem OkP_A {op : Int} {p : Pc} (h : OkP p) (k : Nat) : OkP (pcA op p k) := by
 unfold pcA; split
 ·exact OkP_paren h
 ·exact h
theorem vT_ite {c : Prop} [Decidable c] {a b : Token} (ha : vT a) (hb : vT b) : vT (if c then a else b) := by
 by_cases h : c
 ·rw [if_pos h]; exact ha
 ·rw [if_neg h]; exact hb
theorem kind_ite {c : Prop} [Decidable c] {a b : Token} {k : Int} (ha : a.Kind = k) (hb : b.Kind = k) : (if c then a else b).Kind = k := by
 by_cases h : c
 ·rw [if_pos h]; exact ha
 ·rw [if_neg h]; exact hb
theorem sgT_ok (op : Int) : vT (sgT op) := by
 unfold sgT
 refine vT_ite (vT_kw (by decide)) (vT_ite (vT_kw (by decide)) ?_)
 repeat refine vT_ite (vT_mk (by decide)) ?_
 exact vT_mk (by decide)
theorem wdT_ok (op : Int) : vT (wdT op) ∧ (wdT op).Kind = 2 := by
 unfold wdT
 constructor
 ·repeat refine vT_ite (vT_kw (by decide)) ?_
  exact vT_kw (by decide)
 ·repeat refine kind_ite rfl ?_
  rfl
theorem OkP_bin {p q : Pc} {t : Token} (ht : vT t) (hp : OkP p) (hq : OkP q) : OkP (p ++ none :: some t :: none :: q) := fun r T hb hT => by
 have e : flat (p ++ none :: some t :: none :: q) ++ r = flat p ++ 32 :: (spell t ++ 32 :: (flat q ++ r)) := by
  simp only [flat, flat_app]; simp
 have e2 : toks (p ++ none :: some t :: none :: q) ++ T = toks p ++ t :: (toks q ++ T) := by
  simp only [toks, toks_app]; simp
 rw [e, e2]
 exact hp _ _ (brk_c rfl) (Tk_sp (Tk_spell ht bh_sp (Tk_sp (hq r T hb hT))))
theorem OkP_not {p : Pc} {t : Token} (ht : vT t) (hp : OkP p) : OkP (some t :: none :: p) := fun r T hb hT => by
 have e : flat (some t :: none :: p) ++ r = spell t ++ 32 :: (flat p ++ r) := by simp only [flat]; simp
 have e2 : toks (some t :: none :: p) ++ T = t :: (toks p ++ T) := by simp only [toks]; simp
 rw [e, e2]
 exact Tk_spell ht bh_sp (Tk_sp (hp r T hb hT))
theorem OkP_neg {p : Pc} (hp : OkP p) : OkP (some (mkT [45]) :: p) := fun r T hb hT => by
 have e : flat (some (mkT [45]) :: p) ++ r = spell (mkT [45]) ++ (flat p ++ r) := by simp only [flat]; simp
 have e2 : toks (some (mkT [45]) :: p) ++ T = mkT [45] :: (toks p ++ T) := by simp only [toks]; simp
 rw [e, e2]
 exact Tk_spell (vT_mk (by decide)) (bh_mark (by decide)) (hp r T hb hT)
theorem OkP_call {p : Pc} {t : Token} (ht : vT t) (h5 : t.Kind = 2) (hp : ∀ r T, Tk r T → Tk (flat p ++ 41 :: r) (toks p ++ mkT [41] :: T)) : OkP (some t :: some (mkT [40]) :: (p ++ [some (mkT [41])])) := fun r T hb hT => by
 have e : flat (some t :: some (mkT [40]) :: (p ++ [some (mkT [41])])) ++ r = spell t ++ 40 :: (flat p ++ 41 :: r) := by simp only [flat, flat_app, spell, mkT]; simp
 have e2 : toks (some t :: some (mkT [40]) :: (p ++ [some (mkT [41])])) ++ T = t :: mkT [40] :: (toks p ++ mkT [41] :: T) := by simp only [toks, toks_app]; simp
 rw [e, e2]
 exact Tk_spell ht (bh_brk (by omega) (brk_c rfl)) (Tk_lp (hp r T hT))
theorem arS_cases {op : Int} (h : 1 ≤ op ∧ op ≤ 27) : arS op = 0 ∧ (op ≤ 3 ∨ 25 ≤ op) ∨ arS op = 1 ∧ (op = 9 ∨ op = 18 ∨ 20 ≤ op ∧ op ≤ 24) ∨ arS op = 2 ∧ (4 ≤ op ∧ op ≤ 8 ∨ 10 ≤ op ∧ op ≤ 17 ∨ op = 19) := by
 obtain rfl | rfl | rfl | rfl | rfl | rfl | rfl | rfl | rfl | rfl | rfl | rfl | rfl | rfl | rfl | rfl | rfl | rfl | rfl | rfl | rfl | rfl | rfl | rfl | rfl | rfl | rfl : op = 1 ∨ op = 2 ∨ op = 3 ∨ op = 4 ∨ op = 5 ∨ op = 6 ∨ op = 7 ∨ op = 8 ∨ op = 9 ∨ op = 10 ∨ op = 11 ∨ op = 12 ∨ op = 13 ∨ op = 14 ∨ op = 15 ∨ op = 16 ∨ op = 17 ∨ op = 18 ∨ op = 19 ∨ op = 20 ∨ op = 21 ∨ op = 22 ∨ op = 23 ∨ op = 24 ∨ op = 25 ∨ op = 26 ∨ op = 27 := by omega
 all_goals first | exact Or.inl ⟨rfl, by omega⟩ | exact Or.inr (Or.inl ⟨rfl, by omega⟩) | exact Or.inr (Or.inr ⟨rfl, by omega⟩)
mutual
theorem OkP_pcs : ∀ e : Expr, okE e → OkP (pcs e)
 | ⟨Op, N, S, Args⟩, h => by
  obtain ⟨⟨h1, h2⟩, h3, h4, h5, h6, h7, h8⟩ := h
  have ih := OkP_pcss Args h8
  unfold pcs
  unfold pcO
  by_cases e1 : Op = 1
  ·rw [if_pos e1]; exact OkP_one (vT_in (h3 e1).1 (h3 e1).2) (by simp [inT])
  by_cases e2 : Op = 2
  ·rw [if_neg e1, if_pos e2]; exact OkP_one (vT_st (h6 e2)) (by simp [stT])
  by_cases e3 : Op = 3
  ·rw [if_neg e1, if_neg e2, if_pos e3]; exact OkP_one (vT_nm (h7 e3)) (by simp [nmT])
  rw [if_neg e1, if_neg e2, if_neg e3]
  match Args, ih with
  | [], _ => exact OkP_call (p := []) (wdT_ok Op).1 (wdT_ok Op).2 (fun r T hT => Tk_rp hT)
  | [a], ih =>
   have ha := ih (a.Op, pcs a) (by simp [pcss])
   simp only [pcss]
   by_cases e18 : Op = 18
   ·rw [if_pos e18]; exact OkP_not (vT_kw (by decide)) (OkP_A ha 3)
   ·rw [if_neg e18]
    by_cases e9 : Op = 9
    ·rw [if_pos e9]; exact OkP_neg (OkP_A ha 8)
    ·rw [if_neg e9]; exact OkP_call (wdT_ok Op).1 (wdT_ok Op).2 (fun r T hT => ha _ _ (brk_c rfl) (Tk_rp hT))
  | a :: b :: _, ih =>
   have ha := ih (a.Op, pcs a) (by simp [pcss])
   have hb := ih (b.Op, pcs b) (by simp [pcss])
   simp only [pcss]
   exact OkP_bin (sgT_ok Op) (OkP_A ha _) (OkP_A hb _)
theorem OkP_pcss : ∀ l : List Expr, okEs l → ∀ x, x ∈ pcss l → OkP x.2
 | [], h, x, hx => by simp [pcss] at hx
 | e :: l, h, x, hx => by
  rcases List.mem_cons.1 hx with rfl | hx
  ·exact OkP_pcs e h.1
  ·exact OkP_pcss l h.2 x hx
end
end Go.Ab.Y

namespace Go.Ab.Y
open Go Go.Ab Go.Proofs

def At (l : List Token) (i : Nat) (T R : List Token) : Prop := (l.map er).drop i = T ++ R
def isH (R : List Token) (w : List UInt8) : Bool :=
 match R with
 | [] => false
 | t :: _ => (decide (t.Kind = 2) || decide (t.Kind = 5)) && decide (t.Text = w)
theorem isT_dr (l : List Token) (i : Nat) (w : List UInt8) : isT l i w = isH ((l.map er).drop i) w := by
 unfold isT
 by_cases h : i < l.length
 ·rw [drop_get (l.map er) i default (by simpa using h)]
  have : (l.map er).getD i default = er (l.getD i default) := by simp [List.getD, h]
  rw [this]
  generalize l.getD i default = t
  simp only [isH, h, er, decide_true, Bool.true_and]
  congr
 ·rw [drop_end (l.map er) i (by simpa using h)]
  simp [isH, h]
theorem At.is {l T R : List Token} {i : Nat} (h : At l i T R) (w : List UInt8) : isT l i w = isH (T ++ R) w := by rw [isT_dr, h]
theorem At.lev {l T R : List Token} {i : Nat} (h : At l i T R) : levS l i = lev2 (tbl.find? fun r => isH (T ++ R) r.1) := by
 unfold levS
 congr 2
 funext r
 exact h.is r.1
theorem At.call {l T R : List Token} {i : Nat} (h : At l i T R) : callS l i = call2 (callT.find? fun r => isH (T ++ R) r.1) := by
 unfold callS
 congr 2
 funext r
 exact h.is r.1
theorem At.lt {l T R : List Token} {t : Token} {i : Nat} (h : At l i (t :: T) R) : i < l.length := by
 by_cases hi : i < l.length
 ·exact hi
 ·unfold At at h
  rw [drop_end (l.map er) i (by simpa using hi)] at h
  cases h
theorem At.hd {l T R : List Token} {t : Token} {i : Nat} (h : At l i (t :: T) R) : er (l.getD i default) = t := by
 have hi := h.lt
 unfold At at h
 rw [drop_get (l.map er) i default (by simpa using hi), List.cons_append] at h
 injection h with h1 h2
 rw [← h1]
 simp [List.getD, hi]
theorem At.tl {l T U R : List Token} {i : Nat} (h : At l i (T ++ U) R) : At l (i + T.length) U R := by
 unfold At at *
 rw [← List.drop_drop, h, List.append_assoc, List.drop_left]
theorem At.tl1 {l T R : List Token} {t : Token} {i : Nat} (h : At l i (t :: T) R) : At l (i + 1) T R := At.tl (T := [t]) (U := T) h
theorem At.asc {l T U R : List Token} {i : Nat} (h : At l i (T ++ U) R) : At l i T (U ++ R) := by
 unfold At at *
 rw [h, List.append_assoc]
theorem At.le {l T R : List Token} {i : Nat} (h : At l i T R) (hT : T ≠ []) : i + T.length ≤ l.length := by
 have := congrArg List.length h
 simp only [List.length_drop, List.length_map, List.length_append] at this
 have : 0 < T.length := List.length_pos_iff.2 hT
 omega
def levH (R : List Token) : Int := (lev2 (tbl.find? fun r => isH R r.1)).1
theorem lev_sg (op : Int) (R : List Token) (h : 4 ≤ op ∧ op ≤ 8 ∨ 10 ≤ op ∧ op ≤ 17 ∨ op = 19) : lev2 (tbl.find? fun r => isH (sgT op :: R) r.1) = (((lvN op : Nat) : Int), op) := by
 have : op = 4 ∨ op = 5 ∨ op = 6 ∨ op = 7 ∨ op = 8 ∨ op = 10 ∨ op = 11 ∨ op = 12 ∨ op = 13 ∨ op = 14 ∨ op = 15 ∨ op = 16 ∨ op = 17 ∨ op = 19 := by omega
 rcases this with rfl | rfl | rfl | rfl | rfl | rfl | rfl | rfl | rfl | rfl | rfl | rfl | rfl | rfl <;> rfl
theorem call_wd (op : Int) (R : List Token) (h : 20 ≤ op ∧ op ≤ 27) : call2 (callT.find? fun r => isH (wdT op :: R) r.1) = op := by
 have : op = 20 ∨ op = 21 ∨ op = 22 ∨ op = 23 ∨ op = 24 ∨ op = 25 ∨ op = 26 ∨ op = 27 := by omega
 rcases this with rfl | rfl | rfl | rfl | rfl | rfl | rfl | rfl <;> rfl
theorem call_lp (R : List Token) : call2 (callT.find? fun r => isH (mkT [40] :: R) r.1) = 0 := rfl
section
variable {l : List Token}
def Rd (l : List Token) (i d lv : Nat) (e : Expr) (k B : Nat) : Prop := ∀ n, B ≤ n → F_a0 n (lv : Int) (d : Int) ⟨l, (i : Int)⟩ = some (.ret e (k : Int))
def RdU (l : List Token) (i d : Nat) (e : Expr) (k B : Nat) : Prop := ∀ n, B ≤ n → F_b0 n (d : Int) ⟨l, (i : Int)⟩ = some (.ret e (k : Int))
def RdI (l : List Token) (i d : Nat) (e : Expr) (k B : Nat) : Prop := ∀ n, B ≤ n → F_d0 n (d : Int) ⟨l, (i : Int)⟩ = some (.ret e (k : Int))
theorem Rd.mono {i d lv : Nat} {e : Expr} {k B B' : Nat} (h : Rd l i d lv e k B) (hB : B ≤ B') : Rd l i d lv e k B' := fun n hn => h n (by omega)
theorem e_S (e : Expr) : (⟨e.Op, e.N, e.S, e.Args⟩ : Expr) = e := by cases e; rfl
theorem Rd.down {i d lv : Nat} {e : Expr} {k B : Nat} (h : Rd l i d (lv + 1) e k B) (hlv : 1 ≤ lv) (hlv2 : lv ≤ 7) (hs : (levS l k).1 ≠ (lv : Int)) (h3 : lv = 3 → isT l i [110, 111, 116] = false) : Rd l i d lv e k (B + 2) := by
 intro n hn
 obtain ⟨n, rfl⟩ : ∃ j, n = j + 1 := ⟨n - 1, by omega⟩
 have he := h n (by omega)
 rw [pe_s]
 unfold B_a0
 simp only [eq_lit, p_is, bind_s]
 by_cases e3 : lv = 3
 ·subst e3
  rw [h3 rfl]
  simp only [decide_true, cond_true, cond_false]
  rw [show F_a0 n 4 (d : Int) ⟨l, (i : Int)⟩ = _ from he]
  rfl
 ·simp only [e3, show ¬ lv = 8 by omega, decide_false, cond_false]
  rw [wr_s (by omega), he]
  obtain ⟨m, hm⟩ : ∃ j, n = j + 1 := ⟨n - 1, by omega⟩
  simp only [bind_s, Pn.on]
  conv => lhs; arg 9; rw [hm]
  simp only [F_a0_l1, F_a0_b1, p_level, bind_s, hs, decide_false, Bool.not_false, cond_true, e_S]
theorem RdU.down {i d : Nat} {e : Expr} {k B : Nat} (h : RdU l i d e k B) (h8 : isT l i [45] = false) : Rd l i d 8 e k (B + 1) := by
 intro n hn
 obtain ⟨n, rfl⟩ : ∃ j, n = j + 1 := ⟨n - 1, by omega⟩
 rw [pe_s]
 unfold B_a0
 simp only [eq_lit, p_is, bind_s, show ¬ 8 = 3 by omega, decide_true, decide_false, cond_true, cond_false, h8]
 rw [h n (by omega)]
 rfl
theorem Rd.downs {i d lv : Nat} {e : Expr} {k B : Nat} : ∀ (x : Nat), Rd l i d (lv + x) e k B → 1 ≤ lv → lv + x ≤ 8 → (levS l k).1 < (lv : Int) → (lv ≤ 3 → 3 < lv + x → isT l i [110, 111, 116] = false) → Rd l i d lv e k (B + 2 * x)
 | 0, h, h1, h2, hs, h3 => h.mono (by omega)
 | x + 1, h, h1, h2, hs, h3 => by
  have h' : Rd l i d (lv + x) e k (B + 2) := Rd.down (lv := lv + x) h (by omega) (by omega) (by omega) (fun e3 => h3 (by omega) (by omega))
  exact (Rd.downs x h' h1 (by omega) hs (fun a b => h3 a (by omega))).mono (by omega)
theorem RdI.of {i d : Nat} {e : Expr} {k B : Nat} (hl : l.length ≤ 1000000000) (hi : isT l i [40] = true) (h : Rd l (i + 1) d 1 e k B) (hk : isT l k [41] = true) : RdI l i d e (k + 1) (B + 1) := by
 intro n hn
 obtain ⟨n, rfl⟩ : ∃ j, n = j + 1 := ⟨n - 1, by omega⟩
 have h1 := isT_lt hi
 have h2 := isT_lt hk
 rw [pi_s]
 unfold B_d0
 rw [p_expect n l i _ (by omega) (by omega), hi]
 simp only [bind_s, cond_true, Pn.on]
 rw [show F_a0 n 1 (d : Int) ⟨l, ((i + 1 : Nat) : Int)⟩ = _ from h n (by omega)]
 simp only [bind_s, Pn.on]
 rw [p_expect n l k _ (by omega) (by omega), hk]
 rfl
theorem unit_at {n i d : Nat} (hl : l.length ≤ 1000000000) (h : i < l.length) : F_b0 (n + 1) (d : Int) ⟨l, (i : Int)⟩ =
    if (l.getD i default).Kind = 3 then some (.ret ⟨1, (l.getD i default).N, [], []⟩ ((i + 1 : Nat) : Int)) else if (l.getD i default).Kind = 4 then some (.ret ⟨2, 0, (l.getD i default).Text, []⟩ ((i + 1 : Nat) : Int))
    else if (l.getD i default).Kind = 1 then some (.ret ⟨3, 0, (l.getD i default).Text, []⟩ ((i + 1 : Nat) : Int)) else F_b0_j1 n (F_a0 n) (F_e0 n) (F_b0 n) (F_d0 n) (d : Int) ⟨l, (i : Int)⟩ (i : Int) := by
  rw [pu_s]
  unfold B_b0
  rw [wr_s (by omega), Int.toNat_natCast, wr_pm (by omega)]
  simp only [Int.ofNat_lt, h, decide_true, cond_true, inB_n h, ass_t]
  by_cases h3 : (l.getD i default).Kind = 3
  · simp only [h3, decide_true, cond_true, if_true]
  · by_cases h4 : (l.getD i default).Kind = 4
    · simp only [h4, show ¬ (4 : Int) = 3 by omega, decide_true, decide_false, cond_true, cond_false, if_true, if_false]
    · by_cases h5 : (l.getD i default).Kind = 1
      · simp only [h5, show ¬ (1 : Int) = 3 by omega, show ¬ (1 : Int) = 4 by omega, decide_true, decide_false, cond_true, cond_false, if_true, if_false]
      · simp only [h3, h4, h5, decide_false, cond_false, if_false]
theorem RdU.paren {i d : Nat} {e : Expr} {k B : Nat} (hl : l.length ≤ 1000000000) (hg : GoodT l) {T R : List Token} (hA : At l i (mkT [40] :: T) R) (hd : d ≤ 23) (h : RdI l i (d + 1) e k B) : RdU l i d e k (B + 1) := by
 intro n hn
 obtain ⟨n, rfl⟩ : ∃ j, n = j + 1 := ⟨n - 1, by omega⟩
 have hlt := hA.lt
 have hh := hA.hd
 have hk : (l.getD i default).Kind = 5 := by have := congrArg Token.Kind hh; exact this
 rw [unit_at hl hlt, hk, if_neg (by decide), if_neg (by decide), if_neg (by decide)]
 unfold F_b0_j1 F_b0_j3
 rw [p_call n l i hg, hA.call, List.cons_append, call_lp, p_is, hA.is, List.cons_append, p_nest n l i d (by omega) (by omega), if_neg (by omega)]
 simp only [bind_s, decide_true, cond_true, show isH (mkT [40] :: (T ++ R)) [40] = true from rfl, Bool.not_true, cond_false, Pn.on]
 rw [h n (by omega)]
 rfl
theorem RdU.word {i d : Nat} {e : Expr} {k B : Nat} {op : Int} (hop : 20 ≤ op ∧ op ≤ 24) (hl : l.length ≤ 1000000000) (hg : GoodT l) {T R : List Token} (hA : At l i (wdT op :: T) R) (hd : d ≤ 23) (h : RdI l (i + 1) (d + 1) e k B) : RdU l i d ⟨op, 0, [], [e]⟩ k (B + 1) := by
 intro n hn
 obtain ⟨n, rfl⟩ : ∃ j, n = j + 1 := ⟨n - 1, by omega⟩
 have hlt := hA.lt
 have hh := hA.hd
 have hk : (l.getD i default).Kind = 2 := by have := congrArg Token.Kind hh; exact this.trans (wdT_ok op).2
 rw [unit_at hl hlt, hk, if_neg (by decide), if_neg (by decide), if_neg (by decide)]
 unfold F_b0_j1 F_b0_j4 F_b0_j2
 rw [p_call n l i hg, hA.call, List.cons_append, call_wd op _ (by omega), p_nest n l i d (by omega) (by omega), if_neg (by omega)]
 simp only [bind_s, show ¬ op = 0 by omega, show ¬ op = 25 by omega, show ¬ op = 26 by omega, show ¬ op = 27 by omega, decide_false, cond_false, Pn.on]
 rw [wr_s (by omega), h n (by omega)]
 rfl
theorem RdU.word0 {i d : Nat} {op : Int} (hop : 25 ≤ op ∧ op ≤ 27) (hl : l.length ≤ 1000000000) (hg : GoodT l) {R : List Token} (hA : At l i [wdT op, mkT [40], mkT [41]] R) : RdU l i d ⟨op, 0, [], []⟩ (i + 3) 1 := by
  intro n hn
  obtain ⟨n, rfl⟩ : ∃ j, n = j + 1 := ⟨n - 1, by omega⟩
  have hlt := hA.lt
  have hh := hA.hd
  have h1 := hA.tl1.is [40]
  have h2 := hA.tl1.tl1.is [41]
  have hk : (l.getD i default).Kind = 2 := by have := congrArg Token.Kind hh; exact this.trans (wdT_ok op).2
  rw [unit_at hl hlt, hk, if_neg (by decide), if_neg (by decide), if_neg (by decide)]
  unfold F_b0_j1 F_b0_j4
  rw [p_call n l i hg, hA.call, List.cons_append, call_wd op _ (by omega), wr_s (by omega), p_expect n l (i + 1) _ (by omega) (by omega), h1]
  simp only [bind_s, show ¬ op = 0 by omega, decide_false, cond_false, show isH ([mkT [40], mkT [41]] ++ R) [40] = true from rfl, cond_true, Pn.on]
  rw [p_expect n l (i + 1 + 1) _ (by omega) (by omega), h2]
  simp only [bind_s, show isH ([mkT [41]] ++ R) [41] = true from rfl, cond_true, Pn.on]
  by_cases h5 : op = 25
  · simp only [h5, decide_true, cond_true]
  · by_cases h6 : op = 26
    · simp only [h6, show ¬ (26 : Int) = 25 by omega, decide_true, decide_false, cond_true, cond_false]
    · obtain rfl : op = 27 := by omega
      simp only [show ¬ (27 : Int) = 25 by omega, show ¬ (27 : Int) = 26 by omega, decide_true, decide_false, cond_true, cond_false]
theorem Rd.pfx {i d lv : Nat} {e : Expr} {k B : Nat} {op : Int} {w : List UInt8} (ho : (lv = 3 ∧ w = [110, 111, 116] ∧ op = 18) ∨ (lv = 8 ∧ w = [45] ∧ op = 9)) (hl : l.length ≤ 1000000000) (hi : isT l i w = true) (hd : d ≤ 23) (h : Rd l (i + 1) (d + 1) lv e k B) : Rd l i d lv ⟨op, 0, [], [e]⟩ k (B + 2) := by
 intro n hn
 obtain ⟨n, rfl⟩ : ∃ j, n = j + 1 := ⟨n - 1, by omega⟩
 obtain ⟨n, rfl⟩ : ∃ j, n = j + 1 := ⟨n - 1, by omega⟩
 have hlt := isT_lt hi
 have hp : F_e0 (n + 1) op (lv : Int) (d : Int) ⟨l, (i : Int)⟩ = some (.ret ⟨op, 0, [], [e]⟩ (k : Int)) := by
  rw [pp_s]
  unfold B_e0
  rw [p_nest n l i d (by omega) (by omega), if_neg (by omega)]
  simp only [bind_s, Pn.on]
  rw [wr_s (by omega), h n (by omega)]
  rfl
 rw [pe_s]
 unfold B_a0
 rcases ho with ⟨rfl, rfl, rfl⟩ | ⟨rfl, rfl, rfl⟩
 ·simp only [eq_lit, p_is, bind_s, hi, decide_true, cond_true, hp, Pn.on]
 ·simp only [eq_lit, p_is, bind_s, hi, show ¬ 8 = 3 by omega, decide_true, decide_false, cond_true, cond_false, hp, Pn.on]
end
end Go.Ab.Y

namespace Go.Ab.Y
open Go Go.Ab Go.Proofs

theorem isH_paren {op : Int} {p : Pc} {k : Nat} {R : List Token} {w : List UInt8} (hw : w ≠ [40]) (h : lvN op < k) : isH (toks (pcA op p k) ++ R) w = false := by
 unfold pcA
 rw [if_pos h]
 simp only [toks, List.cons_append, isH, mkT, decide_eq_false (show ¬ ([40] : List UInt8) = w from fun e => hw e.symm), Bool.and_false]
theorem arg_two {l : List Expr} {n : Int} (h : (l.length : Int) = n) (h2 : n = 2) : ∃ a b, l = [a, b] := by
 match l, h with
 | [a, b], _ => exact ⟨a, b, rfl⟩
 | [], h => simp at h; omega
 | [a], h => simp at h; omega
 | a :: b :: c :: l, h => simp at h; omega
theorem arg_one {l : List Expr} {n : Int} (h : (l.length : Int) = n) (h2 : n = 1) : ∃ a, l = [a] := by
 match l, h with
 | [a], _ => exact ⟨a, rfl⟩
 | [], h => simp at h; omega
 | a :: b :: l, h => simp at h; omega
theorem arg_none {l : List Expr} {n : Int} (h : (l.length : Int) = n) (h2 : n = 0) : l = [] := by
 match l, h with
 | [], _ => rfl
 | a :: l, h => simp at h; omega
theorem okE_cases (e : Expr) (h : okE e) :
    (e.Op = 1 ∧ e = ⟨1, e.N, [], []⟩) ∨ (e.Op = 2 ∧ e = ⟨2, 0, e.S, []⟩) ∨ (e.Op = 3 ∧ e = ⟨3, 0, e.S, []⟩) ∨ ((25 ≤ e.Op ∧ e.Op ≤ 27) ∧ e = ⟨e.Op, 0, [], []⟩) ∨
    (∃ a, e = ⟨e.Op, 0, [], [a]⟩ ∧ okE a ∧ hgt e = 1 + hgt a ∧ (e.Op = 9 ∨ e.Op = 18 ∨ 20 ≤ e.Op ∧ e.Op ≤ 24)) ∨
    (∃ a b, e = ⟨e.Op, 0, [], [a, b]⟩ ∧ okE a ∧ okE b ∧ hgt e = 1 + max (hgt a) (hgt b) ∧ (4 ≤ e.Op ∧ e.Op ≤ 8 ∨ 10 ≤ e.Op ∧ e.Op ≤ 17 ∨ e.Op = 19)) := by
  obtain ⟨Op, N, S, Args⟩ := e
  obtain ⟨⟨h1, h2⟩, h3, h4, h5, h6, h7, h8⟩ := h
  rcases arS_cases h1 with ⟨ha, hb⟩ | ⟨ha, hb⟩ | ⟨ha, hb⟩
  · obtain rfl := arg_none h2 ha
    by_cases e1 : Op = 1
    · subst e1; obtain rfl := h5 (by omega); exact Or.inl ⟨rfl, rfl⟩
    · obtain rfl := h4 e1
      by_cases e2 : Op = 2
      · subst e2; exact Or.inr (Or.inl ⟨rfl, rfl⟩)
      · by_cases e3 : Op = 3
        · subst e3; exact Or.inr (Or.inr (Or.inl ⟨rfl, rfl⟩))
        · obtain rfl := h5 ⟨e2, e3⟩
          exact Or.inr (Or.inr (Or.inr (Or.inl ⟨⟨by simp only; omega, by simp only; omega⟩, rfl⟩)))
  · obtain ⟨a, rfl⟩ := arg_one h2 ha
    obtain rfl := h4 (by omega)
    obtain rfl := h5 (by omega)
    exact Or.inr (Or.inr (Or.inr (Or.inr (Or.inl ⟨a, rfl, h8.1, by simp [hgt, hgts], hb⟩))))
  · obtain ⟨a, b, rfl⟩ := arg_two h2 ha
    obtain rfl := h4 (by omega)
    obtain rfl := h5 (by omega)
    exact Or.inr (Or.inr (Or.inr (Or.inr (Or.inr ⟨a, b, rfl, h8.1, h8.2.1, by simp [hgt, hgts], hb⟩))))
theorem pcs_bin {op : Int} {a b : Expr} (h : 4 ≤ op ∧ op ≤ 8 ∨ 10 ≤ op ∧ op ≤ 17 ∨ op = 19) : pcs ⟨op, 0, [], [a, b]⟩ = pcA a.Op (pcs a) (if lvN op = 4 then 5 else lvN op) ++ none :: some (sgT op) :: none :: pcA b.Op (pcs b) (lvN op + 1) := by
 simp only [pcs, pcss, pcO]
 rw [if_neg (by omega), if_neg (by omega), if_neg (by omega)]
theorem tok_bin {op : Int} {a b : Expr} (h : 4 ≤ op ∧ op ≤ 8 ∨ 10 ≤ op ∧ op ≤ 17 ∨ op = 19) : toks (pcs ⟨op, 0, [], [a, b]⟩) = toks (pcA a.Op (pcs a) (if lvN op = 4 then 5 else lvN op)) ++ sgT op :: toks (pcA b.Op (pcs b) (lvN op + 1)) := by
 rw [pcs_bin h, toks_app]; rfl
theorem lv_bin {op : Int} (h : 4 ≤ op ∧ op ≤ 8 ∨ 10 ≤ op ∧ op ≤ 17 ∨ op = 19) : lvN op = 1 ∨ lvN op = 2 ∨ lvN op = 4 ∨ lvN op = 5 ∨ lvN op = 6 ∨ lvN op = 7 := by
 have : op = 4 ∨ op = 5 ∨ op = 6 ∨ op = 7 ∨ op = 8 ∨ op = 10 ∨ op = 11 ∨ op = 12 ∨ op = 13 ∨ op = 14 ∨ op = 15 ∨ op = 16 ∨ op = 17 ∨ op = 19 := by omega
 rcases this with rfl | rfl | rfl | rfl | rfl | rfl | rfl | rfl | rfl | rfl | rfl | rfl | rfl | rfl <;> decide
theorem lvN_ge (op : Int) : 1 ≤ lvN op ∧ lvN op ≤ 9 := by
 unfold lvN
 by_cases h1 : op = 17
 ·rw [if_pos h1]; omega
 by_cases h2 : op = 16
 ·rw [if_neg h1, if_pos h2]; omega
 by_cases h3 : op = 18
 ·rw [if_neg h1, if_neg h2, if_pos h3]; omega
 by_cases h4 : 10 ≤ op ∧ op ≤ 15
 ·rw [if_neg h1, if_neg h2, if_neg h3, if_pos h4]; omega
 by_cases h5 : op = 19
 ·rw [if_neg h1, if_neg h2, if_neg h3, if_neg h4, if_pos h5]; omega
 by_cases h6 : op = 4 ∨ op = 5
 ·rw [if_neg h1, if_neg h2, if_neg h3, if_neg h4, if_neg h5, if_pos h6]; omega
 by_cases h7 : 6 ≤ op ∧ op ≤ 8
 ·rw [if_neg h1, if_neg h2, if_neg h3, if_neg h4, if_neg h5, if_neg h6, if_pos h7]; omega
 by_cases h8 : op = 9
 ·rw [if_neg h1, if_neg h2, if_neg h3, if_neg h4, if_neg h5, if_neg h6, if_neg h7, if_pos h8]; omega
 rw [if_neg h1, if_neg h2, if_neg h3, if_neg h4, if_neg h5, if_neg h6, if_neg h7, if_neg h8]; omega
theorem isH_ite {c : Prop} [Decidable c] {a b : Token} {R : List Token} {w : List UInt8} (ha : isH (a :: R) w = false) (hb : isH (b :: R) w = false) : isH ((if c then a else b) :: R) w = false := by
 by_cases h : c
 ·rw [if_pos h]; exact ha
 ·rw [if_neg h]; exact hb
theorem wdT_isH (op : Int) (R : List Token) : isH (wdT op :: R) [110, 111, 116] = false ∧ isH (wdT op :: R) [45] = false := by
 unfold wdT
 constructor
 ·repeat refine isH_ite rfl ?_
  rfl
 ·repeat refine isH_ite rfl ?_
  rfl
theorem first_not : ∀ (h : Nat) (e : Expr), hgt e ≤ h → okE e → 3 < lvN e.Op → ∀ R, isH (toks (pcs e) ++ R) [110, 111, 116] = false := by
 intro h
 induction h with
 | zero => intro e he; rw [hgt_eq] at he; omega
 | succ h ih =>
  intro e he hok hlv R
  rcases okE_cases e hok with ⟨_, hq⟩ | ⟨_, hq⟩ | ⟨_, hq⟩ | ⟨hr, hq⟩ | ⟨a, hq, ha, hh, hop⟩ | ⟨a, b, hq, ha, hb, hh, hop⟩
  ·rw [hq]; rfl
  ·rw [hq]; rfl
  ·rw [hq]; rfl
  ·generalize e.Op = op at hr hq
   rw [hq]
   simp only [pcs, pcss, pcO]
   rw [if_neg (by omega), if_neg (by omega), if_neg (by omega)]
   exact (wdT_isH _ _).1
  ·generalize e.Op = op at hlv hq hop
   rw [hq]
   simp only [pcs, pcss, pcO]
   rw [if_neg (by omega), if_neg (by omega), if_neg (by omega)]
   by_cases h18 : op = 18
   ·rw [h18] at hlv; exact absurd hlv (by decide)
   ·rw [if_neg h18]
    by_cases h9 : op = 9
    ·rw [if_pos h9]; rfl
    ·rw [if_neg h9]; exact (wdT_isH _ _).1
  ·generalize e.Op = op at hlv hq hop
   rw [hq, tok_bin hop, List.append_assoc]
   by_cases hp : lvN a.Op < (if lvN op = 4 then 5 else lvN op)
   ·exact isH_paren (by decide) hp
   ·unfold pcA
    rw [if_neg hp]
    refine ih a (by omega) ha ?_ _
    split at hp <;> omega
theorem first_min (e : Expr) (hok : okE e) (hlv : 8 < lvN e.Op) (R : List Token) : isH (toks (pcs e) ++ R) [45] = false := by
 rcases okE_cases e hok with ⟨_, hq⟩ | ⟨_, hq⟩ | ⟨_, hq⟩ | ⟨hr, hq⟩ | ⟨a, hq, ha, hh, hop⟩ | ⟨a, b, hq, ha, hb, hh, hop⟩
 ·rw [hq]; rfl
 ·rw [hq]; rfl
 ·rw [hq]; rfl
 ·generalize e.Op = op at hr hq
  rw [hq]
  simp only [pcs, pcss, pcO]
  rw [if_neg (by omega), if_neg (by omega), if_neg (by omega)]
  exact (wdT_isH _ _).2
 ·generalize e.Op = op at hlv hq hop
  rw [hq]
  simp only [pcs, pcss, pcO]
  rw [if_neg (by omega), if_neg (by omega), if_neg (by omega)]
  by_cases h18 : op = 18
  ·rw [h18] at hlv; exact absurd hlv (by decide)
  ·rw [if_neg h18]
   by_cases h9 : op = 9
   ·rw [h9] at hlv; exact absurd hlv (by decide)
   ·rw [if_neg h9]; exact (wdT_isH _ _).2
 ·have := lv_bin hop; omega
section
variable {l : List Token}
abbrev tkA (e : Expr) (lv : Nat) : List Token := toks (pcA e.Op (pcs e) lv)
def PE (l : List Token) (e : Expr) : Prop := ∀ (lv i d : Nat) (R : List Token), 1 ≤ lv → lv ≤ 8 → At l i (tkA e lv) R → levH R < (lv : Int) → d + 2 * hgt e ≤ 25 ∨ (lv ≤ lvN e.Op ∧ d + 2 * hgt e ≤ 26) →
 Rd l i d lv e (i + (tkA e lv).length) (24 * (tkA e lv).length + 40 - 2 * lv)
def PL (l : List Token) (e : Expr) : Prop := ∀ (L i d : Nat) (R : List Token), (L = 1 ∨ L = 2 ∨ L = 5 ∨ L = 6 ∨ L = 7) → At l i (tkA e L) R → levH R ≤ (L : Int) → d + 2 * hgt e ≤ 25 → ∀ n, 24 * (tkA e L).length + 40 ≤ n + 2 * L + 1 →
 ∃ j, j ≤ (tkA e L).length ∧ F_a0 (n + 1) (L : Int) (d : Int) ⟨l, (i : Int)⟩ = F_a0_l1 n (F_a0 n) (F_e0 n) (F_b0 n) (F_d0 n) (L : Int) (d : Int) ⟨l, (i : Int)⟩ (n - j) ((i + (tkA e L).length : Nat) : Int) e.Op e.N e.S e.Args
theorem At.levN {T R : List Token} {i : Nat} (h : At l i T R) (hT : T ≠ []) : (levS l (i + T.length)).1 = levH R := by
 have h2 : At l (i + T.length) [] R := by
  unfold At at *
  rw [← List.drop_drop, h, List.drop_left]; rfl
 rw [h2.lev]; rfl
theorem loop_step {n i d L k m : Nat} {op : Int} {a b : Expr} (hl : l.length ≤ 1000000000) (hop : 4 ≤ op ∧ op ≤ 8 ∨ 10 ≤ op ∧ op ≤ 17 ∨ op = 19) (hL : L = lvN op) (hb : PE l b) {R : List Token}
  (hA : At l k (sgT op :: tkA b (L + 1)) R) (hR : levH R ≤ (L : Int)) (hd : d + 2 * hgt b ≤ 25) (hn : 24 * (tkA b (L + 1)).length + 40 ≤ n + 2 * (L + 1)) :
  F_a0_l1 n (F_a0 n) (F_e0 n) (F_b0 n) (F_d0 n) (L : Int) (d : Int) ⟨l, (i : Int)⟩ (m + 1) (k : Int) a.Op a.N a.S a.Args =
   if L = 4 then some (.ret ⟨op, 0, [], [a, b]⟩ ((k + 1 + (tkA b (L + 1)).length : Nat) : Int)) else
   F_a0_l1 n (F_a0 n) (F_e0 n) (F_b0 n) (F_d0 n) (L : Int) (d : Int) ⟨l, (i : Int)⟩ m ((k + 1 + (tkA b (L + 1)).length : Nat) : Int) op 0 [] [a, b] := by
 have hlv := lv_bin hop
 have hk := hA.lt
 have hlev : levS l k = ((L : Int), op) := by rw [hA.lev, List.cons_append, lev_sg op _ hop, hL]
 have hB := hb (L + 1) (k + 1) d R (by omega) (by omega) hA.tl1 (by omega) (Or.inl hd) n (by omega)
 simp only [F_a0_l1, F_a0_b1]
 rw [p_level, hlev]
 simp only [bind_s, decide_true, Bool.not_true, cond_false]
 rw [wr_s (by omega), wr_s (by omega), hB]
 simp only [bind_s, Pn.on, eq_lit, e_S]
 by_cases h4 : L = 4
 ·simp only [h4, decide_true, cond_true, if_true]
 ·simp only [h4, decide_false, cond_false, if_false]
theorem tkA_ne (e : Expr) (lv : Nat) (h : okE e) : tkA e lv ≠ [] := by
 unfold tkA pcA
 split
 ·simp [toks]
 ·rcases okE_cases e h with ⟨_, hq⟩ | ⟨_, hq⟩ | ⟨_, hq⟩ | ⟨hr, hq⟩ | ⟨a, hq, ha, hh, hop⟩ | ⟨a, b, hq, ha, hb, hh, hop⟩
  ·rw [hq]; simp [pcs, pcO, toks]
  ·rw [hq]; simp [pcs, pcO, toks]
  ·rw [hq]; simp [pcs, pcO, toks]
  ·generalize e.Op = op at hr hq
   rw [hq]
   simp only [pcs, pcss, pcO]
   rw [if_neg (by omega), if_neg (by omega), if_neg (by omega)]
   simp [toks]
  ·generalize e.Op = op at hop hq
   rw [hq]
   simp only [pcs, pcss, pcO]
   rw [if_neg (by omega), if_neg (by omega), if_neg (by omega)]
   split
   ·simp [toks]
   ·split <;> simp [toks]
  ·generalize e.Op = op at hop hq
   rw [hq, tok_bin hop]; simp
theorem bin_step {i d n : Nat} {op : Int} {a b : Expr} (hl : l.length ≤ 1000000000) (hop : 4 ≤ op ∧ op ≤ 8 ∨ 10 ≤ op ∧ op ≤ 17 ∨ op = 19) (hL4 : lvN op ≠ 4) (hoa : okE a) (ha : PL l a) (hb : PE l b) {R : List Token}
  (hA : At l i (toks (pcs ⟨op, 0, [], [a, b]⟩)) R) (hR : levH R ≤ (lvN op : Int)) (hda : d + 2 * hgt a ≤ 25) (hdb : d + 2 * hgt b ≤ 25) (hn : 24 * (toks (pcs ⟨op, 0, [], [a, b]⟩)).length + 40 ≤ n + 2 * lvN op + 1) :
  ∃ j, j ≤ (toks (pcs ⟨op, 0, [], [a, b]⟩)).length ∧ F_a0 (n + 1) (lvN op : Int) (d : Int) ⟨l, (i : Int)⟩ =
   F_a0_l1 n (F_a0 n) (F_e0 n) (F_b0 n) (F_d0 n) (lvN op : Int) (d : Int) ⟨l, (i : Int)⟩ (n - j) ((i + (toks (pcs ⟨op, 0, [], [a, b]⟩)).length : Nat) : Int) op 0 [] [a, b] := by
 have hlv := lv_bin hop
 have ht := tok_bin (a := a) (b := b) hop
 rw [if_neg hL4] at ht
 rw [ht] at hA hn ⊢
 have e0 : toks (pcA a.Op (pcs a) (lvN op)) = tkA a (lvN op) := rfl
 have e1 : toks (pcA b.Op (pcs b) (lvN op + 1)) = tkA b (lvN op + 1) := rfl
 rw [e0, e1] at hA hn ⊢
 have hAa := hA.asc
 simp only [List.length_append, List.length_cons] at hn ⊢
 obtain ⟨j, hj, hjj⟩ := ha (lvN op) i d _ (by omega) hAa (by unfold levH; rw [List.cons_append, lev_sg op _ hop]; exact Int.le_refl _) hda n (by omega)
 refine ⟨j + 1, by omega, ?_⟩
 rw [hjj]
 obtain ⟨m, hm⟩ : ∃ m, n - j = m + 1 := ⟨n - j - 1, by omega⟩
 rw [hm, loop_step hl hop rfl hb hA.tl hR hdb (by omega), if_neg hL4]
 rw [show n - (j + 1) = m by omega, show i + (tkA a (lvN op)).length + 1 + (tkA b (lvN op + 1)).length = i + ((tkA a (lvN op)).length + ((tkA b (lvN op + 1)).length + 1)) by omega]
end
end Go.Ab.Y

namespace Go.Ab.Y
open Go Go.Ab Go.Proofs
section
variable {l : List Token}
def PC (l : List Token) (e : Expr) : Prop := ∀ (i d : Nat) (R : List Token), At l i (toks (pcs e)) R → levH R < (lvN e.Op : Int) → d + 2 * hgt e ≤ 26 →
 if lvN e.Op = 9 then RdU l i d e (i + (toks (pcs e)).length) (24 * (toks (pcs e)).length + 20) else Rd l i d (lvN e.Op) e (i + (toks (pcs e)).length) (24 * (toks (pcs e)).length + 40 - 2 * lvN e.Op)
theorem pc_atom (hl : l.length ≤ 1000000000) (e : Expr) (t : Token) (h9 : lvN e.Op = 9) (ht : toks (pcs e) = [t]) (hu : ∀ n i d, i < l.length → er (l.getD i default) = t → F_b0 (n + 1) ((d : Nat) : Int) ⟨l, (i : Int)⟩ = some (.ret e ((i + 1 : Nat) : Int))) : PC l e := by
 intro i d R hA hR hd
 rw [if_pos h9]
 intro n hn
 obtain ⟨n, rfl⟩ : ∃ j, n = j + 1 := ⟨n - 1, by omega⟩
 rw [ht] at hA ⊢
 exact hu n i d hA.lt hA.hd
theorem er_proj {t u : Token} (h : er t = u) : t.Kind = u.Kind ∧ t.Text = u.Text ∧ t.N = u.N := by subst h; exact ⟨rfl, rfl, rfl⟩
theorem PE_of (hl : l.length ≤ 1000000000) (hg : GoodT l) {e : Expr} (hok : okE e) (h : PC l e) : PE l e := by
 have hge := lvN_ge e.Op
 have hne : toks (pcs e) ≠ [] := by
  have := tkA_ne e 0 hok
  unfold tkA pcA at this
  rwa [if_neg (by omega)] at this
 have hpos : 0 < (toks (pcs e)).length := List.length_pos_iff.2 hne
 -- without parentheses, from any level below
 have core : ∀ (lv i d : Nat) (R : List Token), 1 ≤ lv → lv ≤ 8 → lv ≤ lvN e.Op → At l i (toks (pcs e)) R → levH R < (lv : Int) → d + 2 * hgt e ≤ 26 → Rd l i d lv e (i + (toks (pcs e)).length) (24 * (toks (pcs e)).length + 40 - 2 * lv) := by
  intro lv i d R h1 h8 hlv hA hR hd
  have hR2 := hA.levN hne
  have hc := h i d R hA (by omega) hd
  by_cases h9 : lvN e.Op = 9
  ·rw [if_pos h9] at hc
   have h1' := hc.down (by rw [hA.is]; exact first_min e hok (by omega) R)
   have := Rd.downs (lv := lv) (8 - lv) (by rw [show lv + (8 - lv) = 8 by omega]; exact h1') h1 (by omega) (by rw [hR2]; exact hR) (fun _ _ => by rw [hA.is]; exact first_not (hgt e) e (Nat.le_refl _) hok (by omega) R)
   exact this.mono (by omega)
  ·rw [if_neg h9] at hc
   have := Rd.downs (lv := lv) (lvN e.Op - lv) (by rw [show lv + (lvN e.Op - lv) = lvN e.Op by omega]; exact hc) h1 (by omega) (by rw [hR2]; exact hR) (fun _ _ => by rw [hA.is]; exact first_not (hgt e) e (Nat.le_refl _) hok (by omega) R)
   exact this.mono (by omega)
 intro lv i d R h1 h8 hA hR hd
 by_cases hp : lvN e.Op < lv
 ·have hd25 : d + 2 * hgt e ≤ 25 := by rcases hd with h | h <;> omega
  have hh := hgt_eq e
  have et : tkA e lv = mkT [40] :: (toks (pcs e) ++ [mkT [41]]) := by
   unfold tkA pcA; rw [if_pos hp]; simp only [toks, toks_app]
  have hR2 := hA.levN (tkA_ne e lv hok)
  rw [et] at hA hR2 ⊢
  simp only [List.length_cons, List.length_append, List.length_nil] at hR2 ⊢
  have hA1 := hA.tl1
  have hA2 := hA1.tl
  have hin := core 1 (i + 1) (d + 1) _ (by omega) (by omega) (by omega) hA1.asc (by show levH (mkT [41] :: R) < 1; rw [show levH (mkT [41] :: R) = 0 from rfl]; omega) (by omega)
  have hI := RdI.of hl (by rw [hA.is]; rfl) hin (by rw [hA2.is]; rfl)
  have hU := RdU.paren hl hg hA (by omega) hI
  have h1' := hU.down (by rw [hA.is]; rfl)
  have := Rd.downs (lv := lv) (8 - lv) (by rw [show lv + (8 - lv) = 8 by omega]; exact h1') h1 (by omega) (by rw [show i + 1 + (toks (pcs e)).length + 1 = i + ((toks (pcs e)).length + (0 + 1) + 1) by omega, hR2]; exact hR) (fun _ _ => by rw [hA.is]; rfl)
  rw [show i + 1 + (toks (pcs e)).length + 1 = i + ((toks (pcs e)).length + (0 + 1) + 1) by omega] at this
  exact this.mono (by omega)
 ·have et : tkA e lv = toks (pcs e) := by unfold tkA pcA; rw [if_neg hp]
  rw [et] at hA ⊢
  exact core lv i d R h1 h8 (by omega) hA hR (by rcases hd with h | h <;> omega)
theorem PL_of {e : Expr} (hok : okE e) (hE : PE l e)
  (hbin : lvN e.Op = 1 ∨ lvN e.Op = 2 ∨ lvN e.Op = 5 ∨ lvN e.Op = 6 ∨ lvN e.Op = 7 → ∀ (i d n : Nat) (R : List Token), At l i (toks (pcs e)) R → levH R ≤ (lvN e.Op : Int) → d + 2 * hgt e ≤ 26 → 24 * (toks (pcs e)).length + 40 ≤ n + 2 * lvN e.Op + 1 →
   ∃ j, j ≤ (toks (pcs e)).length ∧ F_a0 (n + 1) (lvN e.Op : Int) (d : Int) ⟨l, (i : Int)⟩ = F_a0_l1 n (F_a0 n) (F_e0 n) (F_b0 n) (F_d0 n) (lvN e.Op : Int) (d : Int) ⟨l, (i : Int)⟩ (n - j) ((i + (toks (pcs e)).length : Nat) : Int) e.Op e.N e.S e.Args) : PL l e := by
 intro L i d R hL hA hR hd n hn
 by_cases hp : lvN e.Op = L
 ·have et : tkA e L = toks (pcs e) := by unfold tkA pcA; rw [if_neg (by omega)]
  rw [et] at hA hn ⊢
  subst hp
  exact hbin hL i d n R hA hR (by omega) hn
 ·have et : tkA e (L + 1) = tkA e L := by
   unfold tkA pcA
   by_cases h : lvN e.Op < L
   ·rw [if_pos h, if_pos (by omega)]
   ·rw [if_neg h, if_neg (by omega)]
  have h := hE (L + 1) i d R (by omega) (by omega) (by rw [et]; exact hA) (by omega) (Or.inl hd) n (by rw [et]; omega)
  rw [et] at h
  refine ⟨0, by omega, ?_⟩
  rw [pe_s]
  unfold B_a0
  simp only [eq_lit, show ¬ L = 3 by omega, show ¬ L = 8 by omega, decide_false, cond_false]
  rw [wr_s (by omega), h]
  simp only [bind_s, Pn.on, Nat.sub_zero]
theorem rd_all (hl : l.length ≤ 1000000000) (hg : GoodT l) : ∀ (h : Nat) (e : Expr), hgt e ≤ h → okE e → PE l e ∧ PL l e := by
  intro h
  induction h with
  | zero => intro e he; rw [hgt_eq] at he; omega
  | succ h ih =>
    intro e he hok
    rcases okE_cases e hok with ⟨h1, hq⟩ | ⟨h1, hq⟩ | ⟨h1, hq⟩ | ⟨hr, hq⟩ | ⟨a, hq, ha, hh, hop⟩ | ⟨a, b, hq, ha, hb, hh, hop⟩
    · have hE : PE l e := PE_of hl hg hok (by
        rw [hq]
        refine pc_atom hl _ (inT e.N) rfl rfl fun n i d hi ht => ?_
        obtain ⟨h1, h2, h3⟩ := er_proj ht
        rw [unit_at hl hi, h1, h3]; rfl)
      exact ⟨hE, PL_of hok hE (fun hc => by rw [h1] at hc; exact absurd hc (by decide))⟩
    · have hE : PE l e := PE_of hl hg hok (by
        rw [hq]
        refine pc_atom hl _ (stT e.S) rfl rfl fun n i d hi ht => ?_
        obtain ⟨h1, h2, h3⟩ := er_proj ht
        rw [unit_at hl hi, h1, h2]; rfl)
      exact ⟨hE, PL_of hok hE (fun hc => by rw [h1] at hc; exact absurd hc (by decide))⟩
    · have hE : PE l e := PE_of hl hg hok (by
        rw [hq]
        refine pc_atom hl _ (nmT e.S) rfl rfl fun n i d hi ht => ?_
        obtain ⟨h1, h2, h3⟩ := er_proj ht
        rw [unit_at hl hi, h1, h2]; rfl)
      exact ⟨hE, PL_of hok hE (fun hc => by rw [h1] at hc; exact absurd hc (by decide))⟩
    · have hlv : lvN e.Op = 9 := by
        have : e.Op = 25 ∨ e.Op = 26 ∨ e.Op = 27 := by omega
        rcases this with h | h | h <;> rw [h] <;> decide
      have hE : PE l e := PE_of hl hg hok (by
        intro i d R hA hR hd
        rw [if_pos hlv]
        generalize e.Op = op at hr hq
        have ht : toks (pcs e) = [wdT op, mkT [40], mkT [41]] := by
          rw [hq]
          simp only [pcs, pcss, pcO]
          rw [if_neg (by omega), if_neg (by omega), if_neg (by omega)]; rfl
        rw [ht] at hA ⊢
        rw [hq]
        exact fun n hn => RdU.word0 hr hl hg hA n (by simp only [List.length_cons, List.length_nil] at hn; omega))
      exact ⟨hE, PL_of hok hE (fun hc => by omega)⟩
    · obtain ⟨hEa, hLa⟩ := ih a (by omega) ha
      have hlv : lvN e.Op = 9 ∨ lvN e.Op = 3 ∨ lvN e.Op = 8 := by
        have : e.Op = 9 ∨ e.Op = 18 ∨ e.Op = 20 ∨ e.Op = 21 ∨ e.Op = 22 ∨ e.Op = 23 ∨ e.Op = 24 := by omega
        rcases this with h | h | h | h | h | h | h <;> rw [h] <;> decide
      have hE : PE l e := PE_of hl hg hok (by
        intro i d R hA hR hd
        rw [hh] at hd
        have hha := hgt_eq a
        generalize e.Op = op at hop hq hlv hR
        have hne := tkA_ne a 3 ha
        by_cases h18 : op = 18
        · subst h18
          have ht : toks (pcs e) = kwT [110, 111, 116] :: tkA a 3 := by rw [hq]; rfl
          rw [if_neg (show ¬ lvN 18 = 9 by decide)]
          rw [ht] at hA ⊢
          have := hEa 3 (i + 1) (d + 1) R (by omega) (by omega) hA.tl1 hR (Or.inl (by omega))
          have h2 := Rd.pfx (op := 18) (Or.inl ⟨rfl, rfl, rfl⟩) hl (by rw [hA.is]; rfl) (by omega) this
          rw [hq]
          simp only [List.length_cons]
          rw [show i + ((tkA a 3).length + 1) = i + 1 + (tkA a 3).length by omega]
          exact h2.mono (by rw [show lvN 18 = 3 from rfl]; omega)
        · by_cases h9 : op = 9
          · subst h9
            have ht : toks (pcs e) = mkT [45] :: tkA a 8 := by rw [hq]; rfl
            rw [if_neg (show ¬ lvN 9 = 9 by decide)]
            rw [ht] at hA ⊢
            have := hEa 8 (i + 1) (d + 1) R (by omega) (by omega) hA.tl1 hR (Or.inl (by omega))
            have h2 := Rd.pfx (op := 9) (Or.inr ⟨rfl, rfl, rfl⟩) hl (by rw [hA.is]; rfl) (by omega) this
            rw [hq]
            simp only [List.length_cons]
            rw [show i + ((tkA a 8).length + 1) = i + 1 + (tkA a 8).length by omega]
            exact h2.mono (by rw [show lvN 9 = 8 from rfl]; omega)
          · have hop2 : 20 ≤ op ∧ op ≤ 24 := by omega
            have hlv9 : lvN op = 9 := by
              have : op = 20 ∨ op = 21 ∨ op = 22 ∨ op = 23 ∨ op = 24 := by omega
              rcases this with h | h | h | h | h <;> rw [h] <;> decide
            have e1 : tkA a 1 = toks (pcs a) := by unfold tkA pcA; rw [if_neg (by have := lvN_ge a.Op; omega)]
            have ht : toks (pcs e) = wdT op :: mkT [40] :: (tkA a 1 ++ [mkT [41]]) := by
              rw [hq, e1]
              simp only [pcs, pcss, pcO]
              rw [if_neg (by omega), if_neg (by omega), if_neg (by omega), if_neg h18, if_neg h9]
              simp only [toks, toks_app]
            rw [if_pos hlv9]
            rw [ht] at hA ⊢
            have hA2 := hA.tl1.tl1
            have hA3 := hA2.tl
            have := hEa 1 (i + 1 + 1) (d + 1) _ (by omega) (by omega) hA2.asc (by show levH (mkT [41] :: R) < 1; rw [show levH (mkT [41] :: R) = 0 from rfl]; omega) (Or.inl (by omega))
            have hI := RdI.of hl (by rw [hA.tl1.is]; rfl) this (by rw [hA3.is]; rfl)
            have hU := RdU.word hop2 hl hg hA (by omega) hI
            rw [hq]
            simp only [List.length_cons, List.length_append, List.length_nil]
            rw [show i + ((tkA a 1).length + (0 + 1) + 1 + 1) = i + 1 + 1 + (tkA a 1).length + 1 by omega]
            exact fun n hn => hU n (by omega))
      exact ⟨hE, PL_of hok hE (fun hc => by omega)⟩
    · obtain ⟨hEa, hLa⟩ := ih a (by omega) ha
      obtain ⟨hEb, hLb⟩ := ih b (by omega) hb
      have hlv := lv_bin hop
      have hE : PE l e := PE_of hl hg hok (by
        intro i d R hA hR hd
        rw [hh] at hd
        generalize e.Op = op at hop hq hlv hR
        rw [if_neg (by omega)]
        rw [hq] at hA ⊢
        intro n hn
        obtain ⟨n, rfl⟩ : ∃ j, n = j + 1 := ⟨n - 1, by omega⟩
        by_cases h4 : lvN op = 4
        · have ht := tok_bin (a := a) (b := b) hop
          rw [if_pos h4] at ht
          have e0 : toks (pcA a.Op (pcs a) 5) = tkA a 5 := rfl
          have e1 : toks (pcA b.Op (pcs b) (lvN op + 1)) = tkA b (4 + 1) := by rw [h4]
          rw [e0, e1] at ht
          rw [ht] at hA hn ⊢
          rw [h4] at hR hn ⊢
          simp only [List.length_append, List.length_cons] at hn ⊢
          have := hEa 5 i d _ (by omega) (by omega) hA.asc (by unfold levH; rw [List.cons_append, lev_sg op _ hop, h4]; show ((4 : Nat) : Int) < ((5 : Nat) : Int); omega) (Or.inl (by omega)) n (by omega)
          rw [pe_s]
          unfold B_a0
          simp only [eq_lit, show ¬ 4 = 3 by omega, show ¬ 4 = 8 by omega, decide_false, cond_false]
          rw [wr_s (by omega), this]
          simp only [bind_s, Pn.on]
          obtain ⟨m, hm⟩ : ∃ j, n = j + 1 := ⟨n - 1, by omega⟩
          conv => lhs; arg 9; rw [hm]
          rw [loop_step hl hop h4.symm hEb hA.tl (by omega) (by omega) (by omega), if_pos rfl]
          rw [show i + (tkA a 5).length + 1 + (tkA b (4 + 1)).length = i + ((tkA a 5).length + ((tkA b (4 + 1)).length + 1)) by omega]
        · obtain ⟨j, hj, hjj⟩ := bin_step (i := i) (d := d) (n := n) hl hop h4 ha hLa hEb hA (by omega) (by omega) (by omega) (by omega)
          rw [hjj]
          have hne : toks (pcs ⟨op, 0, [], [a, b]⟩) ≠ [] := by rw [tok_bin hop]; simp
          have hR2 := hA.levN hne
          obtain ⟨m, hm⟩ : ∃ m, n - j = m + 1 := ⟨n - j - 1, by omega⟩
          rw [hm]
          simp only [F_a0_l1, F_a0_b1]
          rw [p_level]
          simp only [bind_s]
          rw [decide_eq_false (show ¬ (levS l (i + (toks (pcs ⟨op, 0, [], [a, b]⟩)).length)).1 = (lvN op : Int) by rw [hR2]; omega)]
          simp only [Bool.not_false, cond_true])
      refine ⟨hE, PL_of hok hE (fun hc i d n R hA hR hd hn => ?_)⟩
      rw [hh] at hd
      generalize e.Op = op at hop hq hlv hR hc hn
      rw [hq] at hA hn ⊢
      exact bin_step (i := i) (d := d) (n := n) hl hop (by omega) ha hLa hEb hA hR (by omega) (by omega) hn
end
end Go.Ab.Y

namespace Go.Ab.Y
open Go Go.Ab Go.Proofs

theorem strRoom_lt {k : Nat} (h : k ≤ 1000000000000) : strRoom k = true := strRoom_n (by omega)
theorem room1' {k : Nat} (h : k ≤ 1000000000000) : room k 1 = true := by simp [room]; omega
theorem printer_level (n : Nat) (op : Int) : F_ar0 n op = some ((lvN op : Nat) : Int) := by
 by_cases h : 1 ≤ op ∧ op ≤ 27
 ·obtain rfl | rfl | rfl | rfl | rfl | rfl | rfl | rfl | rfl | rfl | rfl | rfl | rfl | rfl | rfl | rfl | rfl | rfl | rfl | rfl | rfl | rfl | rfl | rfl | rfl | rfl | rfl : op = 1 ∨ op = 2 ∨ op = 3 ∨ op = 4 ∨ op = 5 ∨ op = 6 ∨ op = 7 ∨ op = 8 ∨ op = 9 ∨ op = 10 ∨ op = 11 ∨ op = 12 ∨ op = 13 ∨ op = 14 ∨ op = 15 ∨ op = 16 ∨ op = 17 ∨ op = 18 ∨ op = 19 ∨ op = 20 ∨ op = 21 ∨ op = 22 ∨ op = 23 ∨ op = 24 ∨ op = 25 ∨ op = 26 ∨ op = 27 := by omega
  all_goals rfl
 ·have e : lvN op = 9 := by
   unfold lvN
   rw [if_neg (by omega), if_neg (by omega), if_neg (by omega), if_neg (by omega), if_neg (by omega), if_neg (by omega), if_neg (by omega), if_neg (by omega)]
  rw [e]
  simp only [F_ar0, F_ar0_j2, F_ar0_j3, F_ar0_j4, F_ar0_j1, show ¬ op = 17 by omega, show ¬ op = 16 by omega, show ¬ op = 18 by omega, show ¬ op = 10 by omega, show ¬ op = 11 by omega, show ¬ op = 12 by omega, show ¬ op = 13 by omega, show ¬ op = 14 by omega, show ¬ op = 15 by omega, show ¬ op = 19 by omega, show ¬ op = 4 by omega, show ¬ op = 5 by omega, show ¬ op = 6 by omega, show ¬ op = 7 by omega, show ¬ op = 8 by omega, show ¬ op = 9 by omega, decide_false, cond_false]
  rfl
theorem printer_word (n : Nat) (op : Int) (h : 20 ≤ op ∧ op ≤ 27) : F_dn0 n op = some (spell (wdT op)) := by
 obtain rfl | rfl | rfl | rfl | rfl | rfl | rfl | rfl : op = 20 ∨ op = 21 ∨ op = 22 ∨ op = 23 ∨ op = 24 ∨ op = 25 ∨ op = 26 ∨ op = 27 := by omega
 all_goals rfl
theorem printer_sign (n : Nat) (op : Int) (h : 4 ≤ op ∧ op ≤ 8 ∨ 10 ≤ op ∧ op ≤ 17 ∨ op = 19) : F_dm0 n op = some (spell (sgT op)) := by
 have : op = 4 ∨ op = 5 ∨ op = 6 ∨ op = 7 ∨ op = 8 ∨ op = 10 ∨ op = 11 ∨ op = 12 ∨ op = 13 ∨ op = 14 ∨ op = 15 ∨ op = 16 ∨ op = 17 ∨ op = 19 := by omega
 rcases this with rfl | rfl | rfl | rfl | rfl | rfl | rfl | rfl | rfl | rfl | rfl | rfl | rfl | rfl <;> rfl
theorem num_Format (n : Nat) (i : Int) (h0 : 0 ≤ i) (h1 : i ≤ 9223372036854775807) : F_eb0 n i = some (Lib.decDigits i.toNat) := by
 unfold F_eb0 F_cu0
 rw [decide_eq_true (show (10 : Int) = 10 ∧ -9223372036854775808 ≤ i ∧ i ≤ 9223372036854775807 from ⟨rfl, by omega, h1⟩)]
 simp only [ass_t, bind_s]
 unfold Lib.itoa
 rw [if_neg (by omega)]
theorem dec_len (i : Int) (h0 : 0 ≤ i) (h1 : i ≤ 9223372036854775807) : (Lib.decDigits i.toNat).length ≤ 21 := by
 have := Lib.itoa_length_le i (by omega) h1
 unfold Lib.itoa at this
 rwa [if_neg (by omega)] at this
theorem writeByte (n : Nat) (c : UInt8) (b : List UInt8) (h : b.length ≤ 100000000) : F_ak0 n ((c.toNat : Nat) : Int) (b2i b) = some (b2i (b ++ [c])) := by
 unfold F_ak0 F_bj0
 simp only [bind_s, b2i_len, List.length_cons, List.length_nil, room1' (show b.length + (0 + 1) ≤ 1000000000000 by omega), ass_t, b2i_app]
theorem lexer_plain_l2 (n : Nat) (s : List UInt8) (hs : s.length ≤ 4611686018427387904) : ∀ m i, s.length < i + m → i ≤ s.length → F_bm0_l2 n s m (i : Int) = some ((s.drop i).all okB) := by
 intro m
 induction m with
 | zero => intro i h h2; omega
 | succ m ih =>
  intro i hm hi
  simp only [F_bm0_l2, F_bm0_b2, F_bm0_j1]
  by_cases h : i < s.length
  ·rw [drop_get s i 0 h, wr_s (by omega), ih (i + 1) (by omega) (by omega)]
   simp only [h, inB_n h, Int.toNat_natCast, Int.ofNat_lt, decide_true, cond_true, ass_t, Bool.or_true, List.all_cons, lt_lit, lit_lt, cond_or, okB_not]
   cases okB (s.getD i 0) <;> simp
  ·rw [drop_end s i h]
   simp [h]
theorem lexer_plain {n : Nat} (s : List UInt8) (h : s.length < n) (hs : s.length ≤ 4611686018427387904) : F_bm0 n s = some (s.all okB) := by
 have := lexer_plain_l2 n s hs n 0 (by omega) (by omega)
 rw [List.drop_zero] at this
 exact this
theorem escS_len : ∀ s : List UInt8, (escS s).length ≤ 2 * s.length
 | [] => Nat.le_refl _
 | c :: s => by
  have := escS_len s
  simp only [escS]
  split <;> simp only [List.length_cons] <;> omega
theorem escS_app (s : List UInt8) (c : UInt8) : escS (s ++ [c]) = escS s ++ escS [c] := by
 induction s with
 | nil => rfl
 | cons d s ih => simp only [List.cons_append, escS, ih]; split <;> rfl
theorem quote_l2 (n : Nat) (s : List UInt8) (hs : s.length ≤ 64) : ∀ m i, s.length < i + m → i ≤ s.length → F_av0_l2 n s m (b2i (34 :: escS (s.take i))) (i : Int) = some (quo s, 0) := by
 intro m
 induction m with
 | zero => intro i h h2; omega
 | succ m ih =>
  intro i hm hi
  simp only [F_av0_l2, F_av0_b2, F_av0_j1, F_av0_j3, F_av0_j4]
  have hlen := escS_len (s.take i)
  have htl : (s.take i).length ≤ i := by simp; omega
  by_cases h : i < s.length
  ·rw [wr_s (by omega), Int.toNat_natCast]
   have hn := ih (i + 1) (by omega) (by omega)
   have ht : s.take (i + 1) = s.take i ++ [s.getD i 0] := by
    rw [List.take_add, drop_get s i 0 h, List.take_succ_cons, List.take_zero]
   rw [ht, escS_app] at hn
   generalize s.getD i 0 = c at hn
   simp only [h, inB_n h, Int.ofNat_lt, decide_true, cond_true, ass_t, Bool.or_true, eq_lit, cond_or]
   by_cases hc : c.toNat = 34 ∨ c.toNat = 92
   ·have hb : (decide (c.toNat = 34) || decide (c.toNat = 92)) = true := by rcases hc with hc | hc <;> rw [decide_eq_true hc] <;> simp
    have e1 := writeByte n 92 (34 :: escS (s.take i)) (by simp only [List.length_cons]; omega)
    have e2 := writeByte n c (34 :: escS (s.take i) ++ [92]) (by simp only [List.length_append, List.length_cons, List.length_nil]; omega)
    rw [hb]
    simp only [cond_true]
    rw [show F_ak0 n 92 _ = _ from e1]
    simp only [bind_s]
    rw [e2]
    simp only [bind_s]
    rw [show (34 :: escS (s.take i) ++ [92] ++ [c]) = 34 :: (escS (s.take i) ++ escS [c]) by simp only [escS]; rw [if_pos hc]; simp]
    exact hn
   ·have hb : (decide (c.toNat = 34) || decide (c.toNat = 92)) = false := by rw [decide_eq_false (fun e => hc (Or.inl e)), decide_eq_false (fun e => hc (Or.inr e))]; rfl
    have e2 := writeByte n c (34 :: escS (s.take i)) (by simp only [List.length_cons]; omega)
    rw [hb]
    simp only [cond_false]
    rw [e2]
    simp only [bind_s]
    rw [show (34 :: escS (s.take i) ++ [c]) = 34 :: (escS (s.take i) ++ escS [c]) by simp only [escS]; rw [if_neg hc]; simp]
    exact hn
  ·have hii : i = s.length := by omega
   subst hii
   simp only [Int.ofNat_lt, Nat.lt_irrefl, decide_false, cond_false, List.take_length]
   have e1 := writeByte n 34 (34 :: escS s) (by have := escS_len s; simp only [List.length_cons]; omega)
   rw [show F_ak0 n 34 _ = _ from e1]
   have hl := escS_len s
   have hl2 : (b2i (34 :: escS s ++ [34])).length ≤ 9223372036854775807 := by rw [b2i_len]; simp only [List.length_append, List.length_cons, List.length_nil]; omega
   simp only [bind_s, F_bo0, bytesOk_b2i, toB_b2i, hl2, decide_true, Bool.and_self, ass_t]
   rfl
theorem lexer_Quote {n : Nat} (s : List UInt8) (h : plainS s = true) (hn : 100 < n) : F_av0 n s = some (quo s, 0) := by
 unfold plainS at h
 simp only [Bool.and_eq_true, decide_eq_true_eq] at h
 unfold F_av0
 simp only [lit_lt, show ¬ 64 < s.length by omega, decide_false, cond_false, lexer_plain s (show s.length < n by omega) (by omega), bind_s, h.1, Bool.not_true]
 have e1 := writeByte n 34 [] (by simp)
 rw [show F_ak0 n 34 [] = _ from e1]
 exact quote_l2 n s (by omega) n 0 (by omega) (by omega)
theorem quo_len (s : List UInt8) : (quo s).length ≤ 2 * s.length + 2 := by
 have := escS_len s
 simp only [quo, List.length_cons, List.length_append, List.length_nil]; omega
theorem sp_ite {c : Prop} [Decidable c] {a b : Token} {k : Nat} (ha : (spell a).length ≤ k) (hb : (spell b).length ≤ k) : (spell (if c then a else b)).length ≤ k := by
 by_cases h : c
 ·rw [if_pos h]; exact ha
 ·rw [if_neg h]; exact hb
theorem sgT_len (op : Int) : (spell (sgT op)).length ≤ 3 := by
 unfold sgT
 repeat refine sp_ite (by decide) ?_
 decide
theorem wdT_len (op : Int) : (spell (wdT op)).length ≤ 6 := by
 unfold wdT
 repeat refine sp_ite (by decide) ?_
 decide
theorem pcA_len (op : Int) (p : Pc) (k : Nat) : (flat (pcA op p k)).length ≤ (flat p).length + 2 := by
 unfold pcA
 split
 ·simp only [flat, flat_app, spell, mkT, List.length_append, List.length_cons]; simp; omega
 ·omega
theorem name_len {w : List UInt8} (h : nameS w = true) : w.length ≤ 16 := by
 obtain ⟨c, l, _, _, _, _, h5⟩ := name_word h
 exact h5
theorem flat_len : ∀ (h : Nat) (e : Expr), hgt e ≤ h → okE e → (flat (pcs e)).length ≤ 4 * fu e := by
 intro h
 induction h with
 | zero => intro e he; rw [hgt_eq] at he; omega
 | succ h ih =>
  intro e he hok
  have hoe := (okE_eq e).1 hok
  have hfe := fu_eq e
  rcases okE_cases e hok with ⟨h1, hq⟩ | ⟨h1, hq⟩ | ⟨h1, hq⟩ | ⟨hr, hq⟩ | ⟨a, hq, ha, hh, hop⟩ | ⟨a, b, hq, ha, hb, hh, hop⟩
  ·have := dec_len e.N (hoe.2.1 h1).1 (hoe.2.1 h1).2
   have e2 : flat (pcs e) = Lib.decDigits e.N.toNat ++ [] := by rw [hq]; rfl
   rw [e2, List.append_nil]; omega
  ·have := quo_len e.S
   have e2 : flat (pcs e) = quo e.S ++ [] := by rw [hq]; rfl
   rw [e2, List.append_nil]; omega
  ·have := name_len (hoe.2.2.2.2.2.1 h1)
   have e2 : flat (pcs e) = e.S ++ [] := by rw [hq]; rfl
   rw [e2, List.append_nil]; omega
  ·have := wdT_len e.Op
   generalize e.Op = op at hr hq this
   have e2 : flat (pcs e) = spell (wdT op) ++ ([40] ++ ([41] ++ [])) := by
    rw [hq]
    simp only [pcs, pcss, pcO]
    rw [if_neg (by omega), if_neg (by omega), if_neg (by omega)]; rfl
   rw [e2]; simp only [List.length_append, List.length_cons, List.length_nil]; omega
  ·have hla := ih a (by omega) ha
   have hfa : fu e = 30 + (fu a + 1) := by rw [hq]; simp [fu, fus]
   have := wdT_len e.Op
   have h3 := pcA_len a.Op (pcs a) 3
   have h8 := pcA_len a.Op (pcs a) 8
   generalize e.Op = op at hop hq this
   have e2 : pcs e = if op = 18 then some (kwT [110, 111, 116]) :: none :: pcA a.Op (pcs a) 3 else if op = 9 then some (mkT [45]) :: pcA a.Op (pcs a) 8 else some (wdT op) :: some (mkT [40]) :: (pcs a ++ [some (mkT [41])]) := by
    rw [hq]
    simp only [pcs, pcss, pcO]
    rw [if_neg (by omega), if_neg (by omega), if_neg (by omega)]
   rw [e2]
   split
   ·simp only [flat, spell, kwT, List.length_append, List.length_cons]; simp; omega
   ·split
    ·simp only [flat, spell, mkT, List.length_append, List.length_cons]; simp; omega
    ·simp only [flat, flat_app, List.length_append]
     have e3 : (spell (mkT [40])).length = 1 := rfl
     have e4 : (spell (mkT [41])).length = 1 := rfl
     simp only [List.length_nil]; omega
  ·have hla := ih a (by omega) ha
   have hlb := ih b (by omega) hb
   have hfa : fu e = 30 + (fu a + 1 + (fu b + 1)) := by rw [hq]; simp [fu, fus]
   have := sgT_len e.Op
   have h3 := pcA_len a.Op (pcs a) (if lvN e.Op = 4 then 5 else lvN e.Op)
   have h8 := pcA_len b.Op (pcs b) (lvN e.Op + 1)
   generalize e.Op = op at hop hq this h3 h8
   have e2 : pcs e = pcA a.Op (pcs a) (if lvN op = 4 then 5 else lvN op) ++ none :: some (sgT op) :: none :: pcA b.Op (pcs b) (lvN op + 1) := by rw [hq, pcs_bin hop]
   rw [e2]
   simp only [flat_app, flat, List.length_append, List.length_cons]; omega
end Go.Ab.Y

namespace Go.Ab.Y
open Go Go.Ab Go.Proofs

theorem pt_s (n : Nat) : F_s0 (n + 1) = B_s0 n (F_s0 n) (F_an0 n) := rfl
theorem pa_s (n : Nat) : F_an0 (n + 1) = B_an0 n (F_s0 n) (F_an0 n) := rfl
theorem printer_at {n : Nat} {e : Expr} {k : Nat} (h : F_s0 n e = some (flat (pcs e))) (hl : (flat (pcs e)).length ≤ 100000000) : F_an0 (n + 1) e (k : Int) = some (flat (pcA e.Op (pcs e) k)) := by
 rw [pa_s]
 unfold B_an0 pcA
 rw [printer_level, h]
 simp only [bind_s, Int.ofNat_lt]
 by_cases hk : lvN e.Op < k
 ·simp only [hk, decide_true, cond_true, if_true]
  rw [strRoom_lt (by simp; omega), strRoom_lt (by simp; omega)]
  simp only [ass_t, flat, flat_app, spell, mkT]
  simp
 ·simp only [hk, decide_false, cond_false, if_false]
theorem printer_text : ∀ (h : Nat) (e : Expr) (n : Nat), hgt e ≤ h → okE e → 2 * h + 200 ≤ n → fu e ≤ 1000000 → F_s0 n e = some (flat (pcs e)) := by
  intro h
  induction h with
  | zero => intro e n he; rw [hgt_eq] at he; omega
  | succ h ih =>
    intro e n he hok hn hfu
    obtain ⟨n, rfl⟩ : ∃ j, n = j + 1 := ⟨n - 1, by omega⟩
    obtain ⟨n, rfl⟩ : ∃ j, n = j + 1 := ⟨n - 1, by omega⟩
    have hoe := (okE_eq e).1 hok
    have hfe := fu_eq e
    rw [pt_s]
    unfold B_s0
    rw [printer_level]
    simp only [bind_s]
    rcases okE_cases e hok with ⟨h1, hq⟩ | ⟨h1, hq⟩ | ⟨h1, hq⟩ | ⟨hr, hq⟩ | ⟨a, hq, ha, hh, hop⟩ | ⟨a, b, hq, ha, hb, hh, hop⟩
    · have e2 : flat (pcs e) = Lib.decDigits e.N.toNat ++ [] := by rw [hq]; rfl
      rw [num_Format _ e.N (hoe.2.1 h1).1 (hoe.2.1 h1).2, e2, List.append_nil]
      simp only [h1, decide_true, cond_true, bind_s]
    · have e2 : flat (pcs e) = quo e.S ++ [] := by rw [hq]; rfl
      rw [lexer_Quote e.S (hoe.2.2.2.2.1 h1) (by omega), e2, List.append_nil]
      simp only [h1, show ¬ (2 : Int) = 1 by omega, decide_true, decide_false, cond_true, cond_false, bind_s]
    · have e2 : flat (pcs e) = e.S ++ [] := by rw [hq]; rfl
      rw [e2, List.append_nil]
      simp only [h1, show ¬ (3 : Int) = 1 by omega, show ¬ (3 : Int) = 2 by omega, decide_true, decide_false, cond_true, cond_false]
    · have hw := wdT_len e.Op
      have hwd := printer_word (n + 1) e.Op (by omega)
      have hlv : lvN e.Op = 9 := by
        have : e.Op = 25 ∨ e.Op = 26 ∨ e.Op = 27 := by omega
        rcases this with h | h | h <;> rw [h] <;> decide
      have hargs : e.Args = [] := by rw [hq]
      have e2 : flat (pcs e) = spell (wdT e.Op) ++ ([40] ++ ([41] ++ [])) := by
        generalize e.Op = op at hr hq
        rw [hq]
        simp only [pcs, pcss, pcO]
        rw [if_neg (by omega), if_neg (by omega), if_neg (by omega)]; rfl
      rw [hwd, e2]
      simp only [bind_s]
      rw [strRoom_lt (show (spell (wdT e.Op)).length + ([40, 41] : List UInt8).length ≤ 1000000000000 by simp; omega)]
      simp only [hlv, hargs, show ¬ e.Op = 1 by omega, show ¬ e.Op = 2 by omega, show ¬ e.Op = 3 by omega, show ¬ e.Op = 18 by omega, show ¬ e.Op = 9 by omega, decide_false, cond_false, List.length_nil, eq_lit, decide_true, cond_true, ass_t]
      simp
    · have hfa : fu e = 30 + (fu a + 1) := by rw [hq]; simp [fu, fus]
      have hta := ih a n (by omega) ha (by omega) (by omega)
      have hta2 := ih a (n + 1) (by omega) ha (by omega) (by omega)
      have hla := flat_len (hgt a) a (Nat.le_refl _) ha
      have hargs : e.Args = [a] := by rw [hq]
      have h3 := pcA_len a.Op (pcs a) 3
      have h8 := pcA_len a.Op (pcs a) 8
      have e2 : pcs e = if e.Op = 18 then some (kwT [110, 111, 116]) :: none :: pcA a.Op (pcs a) 3 else if e.Op = 9 then some (mkT [45]) :: pcA a.Op (pcs a) 8 else some (wdT e.Op) :: some (mkT [40]) :: (pcs a ++ [some (mkT [41])]) := by
        generalize e.Op = op at hop hq
        rw [hq]
        simp only [pcs, pcss, pcO]
        rw [if_neg (by omega), if_neg (by omega), if_neg (by omega)]
      rw [e2, hargs]
      simp only [List.length_cons, List.length_nil, inB_0 (show 0 < 0 + 1 by omega), ass_t, List.getD_cons_zero, show ¬ e.Op = 1 by omega, show ¬ e.Op = 2 by omega, show ¬ e.Op = 3 by omega, decide_false, cond_false]
      by_cases h18 : e.Op = 18
      · have := printer_at (k := 3) hta (by omega)
        rw [h18]
        simp only [decide_true, cond_true, if_true, show lvN 18 = 3 from rfl]
        rw [this]
        simp only [bind_s]
        rw [strRoom_lt (by simp; omega)]
        rfl
      · by_cases h9 : e.Op = 9
        · have := printer_at (k := 8) hta (by omega)
          rw [h9]
          simp only [show ¬ (9 : Int) = 18 by omega, decide_true, decide_false, cond_true, cond_false, if_true, if_false, show lvN 9 = 8 from rfl]
          rw [this]
          simp only [bind_s]
          rw [strRoom_lt (by simp; omega)]
          rfl
        · have hop2 : 20 ≤ e.Op ∧ e.Op ≤ 24 := by omega
          have hlv : lvN e.Op = 9 := by
            have : e.Op = 20 ∨ e.Op = 21 ∨ e.Op = 22 ∨ e.Op = 23 ∨ e.Op = 24 := by omega
            rcases this with h | h | h | h | h <;> rw [h] <;> decide
          have hw := wdT_len e.Op
          rw [printer_word (n + 1) e.Op (by omega), hta2, if_neg h18, if_neg h9]
          have e3 : flat (some (wdT e.Op) :: some (mkT [40]) :: (pcs a ++ [some (mkT [41])])) = spell (wdT e.Op) ++ ([40] ++ (flat (pcs a) ++ ([41] ++ []))) := by
            simp only [flat, flat_app]; rfl
          rw [e3]
          generalize spell (wdT e.Op) = W at hw
          simp only [h18, h9, hlv, decide_false, decide_true, cond_false, cond_true, bind_s]
          rw [strRoom_lt (show W.length + (0 + 1) ≤ 1000000000000 by omega), strRoom_lt (show (W ++ ([40] : List UInt8)).length + (flat (pcs a)).length ≤ 1000000000000 by simp; omega), strRoom_lt (show ((W ++ ([40] : List UInt8)) ++ flat (pcs a)).length + (0 + 1) ≤ 1000000000000 by simp; omega)]
          simp only [show ((0 + 1 : Nat) : Int) = 1 from rfl, show ¬ (1 : Int) = 0 by omega, show ((9 : Nat) : Int) = 9 from rfl, decide_true, decide_false, cond_true, cond_false, ass_t]
          simp
    · have hfa : fu e = 30 + (fu a + 1 + (fu b + 1)) := by rw [hq]; simp [fu, fus]
      have hta := ih a n (by omega) ha (by omega) (by omega)
      have htb := ih b n (by omega) hb (by omega) (by omega)
      have hla := flat_len (hgt a) a (Nat.le_refl _) ha
      have hlb := flat_len (hgt b) b (Nat.le_refl _) hb
      have hargs : e.Args = [a, b] := by rw [hq]
      have hlv := lv_bin hop
      have hsg := sgT_len e.Op
      have e2 : pcs e = pcA a.Op (pcs a) (if lvN e.Op = 4 then 5 else lvN e.Op) ++ none :: some (sgT e.Op) :: none :: pcA b.Op (pcs b) (lvN e.Op + 1) := by
        generalize e.Op = op at hop hq
        rw [hq, pcs_bin hop]
      have h3 := pcA_len a.Op (pcs a) (if lvN e.Op = 4 then 5 else lvN e.Op)
      have h8 := pcA_len b.Op (pcs b) (lvN e.Op + 1)
      have hpb := printer_at (k := lvN e.Op + 1) htb (by omega)
      rw [e2, hargs, printer_sign (n + 1) e.Op hop]
      simp only [List.length_cons, List.length_nil, inB_0 (show 0 < 0 + 1 + 1 by omega), ass_t, List.getD_cons_zero, List.getD_cons_succ, show ¬ e.Op = 1 by omega, show ¬ e.Op = 2 by omega, show ¬ e.Op = 3 by omega, show ¬ e.Op = 18 by omega, show ¬ e.Op = 9 by omega, decide_false, cond_false, eq_lit, show ¬ lvN e.Op = 9 by omega, show inB 1 (0 + 1 + 1) = true from rfl]
      by_cases h4 : lvN e.Op = 4
      · have hpa := printer_at (k := 5) hta (by omega)
        rw [h4] at hpb ⊢
        rw [if_pos rfl]
        rw [if_pos h4] at h3
        simp only [decide_true, cond_true]
        rw [show F_an0 (n + 1) a 5 = _ from hpa, show F_an0 (n + 1) b 5 = _ from hpb]
        simp only [bind_s]
        rw [h4] at h8
        rw [strRoom_lt (by simp; omega), strRoom_lt (by simp; omega), strRoom_lt (by simp; omega), strRoom_lt (by simp only [List.length_append, List.length_cons, List.length_nil]; omega)]
        simp only [ass_t, flat_app, flat]
        simp
      · have hpa := printer_at (k := lvN e.Op) hta (by omega)
        rw [if_neg h4] at h3 ⊢
        simp only [h4, decide_false, cond_false]
        rw [hpa, wr_s (by omega), hpb]
        simp only [bind_s]
        rw [strRoom_lt (by simp; omega), strRoom_lt (by simp; omega), strRoom_lt (by simp; omega), strRoom_lt (by simp only [List.length_append, List.length_cons, List.length_nil]; omega)]
        simp only [ass_t, flat_app, flat]
        simp
end Go.Ab.Y

namespace Go.Ab.Y
open Go Go.Ab Go.Proofs

mutual
def inE : Expr → Prop
 | ⟨Op, N, S, Args⟩ => N ≤ 9223372036854775807 ∧ S.length ≤ 9223372036854775807 ∧ Args.length ≤ 9223372036854775807 ∧ inEs Args
def inEs : List Expr → Prop
 | [] => True
 | x :: l => inE x ∧ inEs l
end
theorem inE_eq (e : Expr) : inE e ↔ e.N ≤ 9223372036854775807 ∧ e.S.length ≤ 9223372036854775807 ∧ e.Args.length ≤ 9223372036854775807 ∧ inEs e.Args := by cases e; rfl
theorem vaS_ok : ∀ (h : Nat) (e : Expr) (d : Nat), hgt e ≤ h → inE e → vaS e (d : Int) = 0 → d ≤ 1000 → okE e ∧ d + hgt e ≤ 13 := by
 intro h
 induction h with
 | zero => intro e d he; rw [hgt_eq] at he; omega
 | succ h ih =>
  intro e d he hi hv hd
  obtain ⟨i1, i2, i3, i4⟩ := (inE_eq e).1 hi
  rw [vaS_eq] at hv
  have hn0 : nodeS e (d : Int) = 0 := by
   by_cases h0 : nodeS e (d : Int) = 0
   ·exact h0
   ·rw [if_neg h0] at hv; exact absurd hv h0
  rw [if_pos hn0] at hv
  unfold nodeS at hn0
  split at hn0
  ·omega
  rename_i g1
  split at hn0
  ·omega
  rename_i g2
  split at hn0
  ·omega
  rename_i g3
  split at hn0
  ·omega
  rename_i g4
  simp only [not_or, not_and, Bool.not_eq_false] at g1 g2 g3
  obtain ⟨a1, a2, a3⟩ := g1
  obtain ⟨b1, b2, b3⟩ := g3
  have hop : 1 ≤ e.Op ∧ e.Op ≤ 27 := by
   unfold arS at a1
   by_cases h1 : e.Op < 1
   ·simp [h1] at a1
   ·by_cases h2 : 27 < e.Op
    ·simp [h2] at a1
    ·omega
  rw [show IntKind.i64.wrap ((d : Int) + 1) = ((d + 1 : Nat) : Int) by rw [wr] <;> omega] at hv
  have hl : ∀ l : List Expr, hgts l ≤ h → inEs l → vasS l ((d + 1 : Nat) : Int) = 0 → okEs l ∧ (d + 1 + hgts l ≤ 13 ∨ l = []) := by
   intro l
   induction l with
   | nil => intro _ _ _; exact ⟨trivial, Or.inr rfl⟩
   | cons x l ihl =>
    intro hh hin hva
    simp only [hgts] at hh
    simp only [vasS] at hva
    have hx : vaS x ((d + 1 : Nat) : Int) = 0 := by
     by_cases h0 : vaS x ((d + 1 : Nat) : Int) = 0
     ·exact h0
     ·rw [if_neg h0] at hva; exact absurd hva h0
    rw [if_pos hx] at hva
    obtain ⟨p1, p2⟩ := ih x (d + 1) (by omega) hin.1 hx (by omega)
    obtain ⟨q1, q2⟩ := ihl (by omega) hin.2 hva
    refine ⟨⟨p1, q1⟩, Or.inl ?_⟩
    simp only [hgts]
    rcases q2 with q2 | rfl
    ·omega
    ·simp only [hgts]; omega
  have hhe := hgt_eq e
  obtain ⟨k1, k2⟩ := hl e.Args (by omega) i4 hv
  refine ⟨(okE_eq e).2 ⟨⟨hop, ?_⟩, fun h1 => ⟨by omega, i1⟩, fun h1 => ?_, fun h1 => ?_, fun h1 => ?_, fun h1 => ?_, k1⟩, ?_⟩
  ·by_cases hc : (e.Args.length : Int) = arS e.Op
   ·exact hc
   ·exact absurd hc b3
  ·by_cases hc : e.N = 0
   ·exact hc
   ·exact absurd hc (a2 h1)
  ·by_cases hc : e.S = []
   ·exact hc
   ·exact absurd hc (a3 h1.1 h1.2)
  ·exact b2 h1
  ·exact g2 h1
  ·rcases k2 with k2 | k2
   ·omega
   ·rw [k2] at hhe; simp only [hgts] at hhe; omega
end Go.Ab.Y

namespace Go.Ab.Y
open Go Go.Ab Go.Proofs

theorem At_whole {l T : List Token} (h : l.map er = T) : At l 0 T [] := by
 unfold At; rw [List.drop_zero, h, List.append_nil]
theorem map_len {l T : List Token} (h : l.map er = T) : l.length = T.length := by rw [← h, List.length_map]
end Go.Ab.Y

namespace Go.Ab.Y
open Go Go.Ab Go.Proofs

mutual
def inS : Stmt → Prop
 | ⟨_, Name, Max, A, B, Body, Else⟩ => (-9223372036854775808 ≤ Max ∧ Max ≤ 9223372036854775807) ∧ Name.length ≤ 9223372036854775807 ∧ inE A ∧ inE B ∧ inSs Body ∧ inSs Else
def inSs : List Stmt → Prop
 | [] => True
 | x :: l => inS x ∧ inSs l
end
theorem inS_eq (s : Stmt) : inS s ↔ (-9223372036854775808 ≤ s.Max ∧ s.Max ≤ 9223372036854775807) ∧ s.Name.length ≤ 9223372036854775807 ∧ inE s.A ∧ inE s.B ∧ inSs s.Body ∧ inSs s.Else := by cases s; rfl
def inP (p : Proc) : Prop := p.Name.length ≤ 9223372036854775807 ∧ p.Params.length ≤ 9223372036854775807 ∧ (∀ i, i < p.Params.length → (p.Params.getD i default).Name.length ≤ 9223372036854775807) ∧ inSs p.Body
end Go.Ab.Y

namespace Go.Ab.Y
open Go Go.Ab Go.Proofs

abbrev zE : Expr := ⟨0, 0, [], []⟩
def okT (e : Expr) : Prop := okE e ∧ hgt e ≤ 12
def shS (s : Stmt) : Prop :=
 ((s.Op = 1 ∨ s.Op = 2) ∧ s = ⟨s.Op, s.Name, 0, s.A, zE, [], []⟩ ∧ nameS s.Name = true ∧ okT s.A) ∨
 (s = ⟨3, [], 0, s.A, s.B, [], []⟩ ∧ okT s.A ∧ okT s.B) ∨
 ((s.Op = 4 ∨ s.Op = 7) ∧ s = ⟨s.Op, [], 0, s.A, zE, [], []⟩ ∧ okT s.A) ∨
 (s = ⟨5, [], 0, s.A, zE, s.Body, s.Else⟩ ∧ okT s.A) ∨
 (s = ⟨6, s.Name, s.Max, s.A, s.B, s.Body, []⟩ ∧ nameS s.Name = true ∧ (1 ≤ s.Max ∧ s.Max ≤ 16) ∧ okT s.A ∧ okT s.B) ∨
 (s = ⟨8, [], s.Max, zE, zE, [], []⟩ ∧ 0 ≤ s.Max ∧ s.Max ≤ 999)
mutual
def okSt : Stmt → Nat → Prop
 | ⟨Op, Name, Max, A, B, Body, Else⟩, d => d ≤ 12 ∧ shS ⟨Op, Name, Max, A, B, Body, Else⟩ ∧ okBl Body (d + 1) ∧ okBl Else (d + 1)
def okBl : List Stmt → Nat → Prop
 | [], _ => True
 | s :: l, d => okSt s d ∧ okBl l d
end
theorem okSt_eq (s : Stmt) (d : Nat) : okSt s d ↔ d ≤ 12 ∧ shS s ∧ okBl s.Body (d + 1) ∧ okBl s.Else (d + 1) := by cases s; rfl
theorem abS_z {e : Expr} (h : abS e = true) : e = zE := by
 obtain ⟨a, b, c, l⟩ := e
 unfold abS at h
 simp only [Bool.and_eq_true, decide_eq_true_eq] at h
 obtain ⟨⟨⟨rfl, rfl⟩, rfl⟩, h⟩ := h
 rw [List.length_eq_zero_iff] at h
 subst h; rfl
theorem okT_of {e : Expr} (hi : inE e) (h : vaS e 1 = 0) : okT e := by
 obtain ⟨h1, h2⟩ := vaS_ok (hgt e) e 1 (Nat.le_refl _) hi h (by omega)
 exact ⟨h1, by omega⟩
theorem stS_ok {s : Stmt} {d : Int} (hi : inS s) (h : stS s d = 0) : d ≤ 12 ∧ shS s := by
 obtain ⟨i1, i2, i3, i4, i5, i6⟩ := (inS_eq s).1 hi
 unfold stS at h
 split at h
 ·omega
 rename_i g1
 split at h
 ·omega
 rename_i g2
 split at h
 ·rename_i g; exact absurd h g.2
 rename_i g3
 split at h
 ·rename_i g; exact absurd h g.2
 rename_i g4
 split at h
 ·omega
 rename_i g5
 refine ⟨by omega, ?_⟩
 simp only [not_or, not_and, Bool.not_eq_false, Bool.not_eq_true, Decidable.not_not] at g1 g2 g3 g4
 obtain ⟨a1, a2, a3⟩ := g1
 have hop : 1 ≤ s.Op ∧ s.Op ≤ 8 := by
  by_cases hh : 1 ≤ s.Op ∧ s.Op ≤ 8
  ·exact hh
  ·rw [show uS s.Op = (⟨false, false, false, false, false, false⟩, false) by
    unfold uS
    rw [if_neg (by omega), if_neg (by omega), if_neg (by omega), if_neg (by omega), if_neg (by omega), if_neg (by omega)]] at a1
   cases a1
 obtain ⟨Op, Name, Max, A, B, Body, Else⟩ := s
 simp only at *
 obtain rfl | rfl | rfl | rfl | rfl | rfl | rfl | rfl : Op = 1 ∨ Op = 2 ∨ Op = 3 ∨ Op = 4 ∨ Op = 5 ∨ Op = 6 ∨ Op = 7 ∨ Op = 8 := by omega
 all_goals
  simp only [misS, maxS, uS] at a2 a3 g2 g3 g4
  simp [-List.length_eq_zero_iff] at a2 a3 g2 g3 g4
 all_goals unfold shS; simp only []
 ·obtain ⟨⟨⟨hB, rfl⟩, h1⟩, h2⟩ := a2
  obtain rfl := abS_z hB; obtain rfl := List.eq_nil_of_length_eq_zero h1; obtain rfl := List.eq_nil_of_length_eq_zero h2
  exact Or.inl ⟨Or.inl trivial, rfl, g2, okT_of i3 g3⟩
 ·obtain ⟨⟨⟨hB, rfl⟩, h1⟩, h2⟩ := a2
  obtain rfl := abS_z hB; obtain rfl := List.eq_nil_of_length_eq_zero h1; obtain rfl := List.eq_nil_of_length_eq_zero h2
  exact Or.inl ⟨Or.inr trivial, rfl, g2, okT_of i3 g3⟩
 ·obtain ⟨⟨⟨rfl, rfl⟩, h1⟩, h2⟩ := a2
  obtain rfl := List.eq_nil_of_length_eq_zero h1; obtain rfl := List.eq_nil_of_length_eq_zero h2
  exact Or.inr (Or.inl ⟨rfl, okT_of i3 g3, okT_of i4 g4⟩)
 ·obtain ⟨⟨⟨⟨rfl, hB⟩, rfl⟩, h1⟩, h2⟩ := a2
  obtain rfl := abS_z hB; obtain rfl := List.eq_nil_of_length_eq_zero h1; obtain rfl := List.eq_nil_of_length_eq_zero h2
  exact Or.inr (Or.inr (Or.inl ⟨Or.inl trivial, rfl, okT_of i3 g3⟩))
 ·obtain ⟨⟨rfl, hB⟩, rfl⟩ := a2
  obtain rfl := abS_z hB
  exact Or.inr (Or.inr (Or.inr (Or.inl ⟨rfl, okT_of i3 g3⟩)))
 ·obtain rfl := List.eq_nil_of_length_eq_zero a2
  exact Or.inr (Or.inr (Or.inr (Or.inr (Or.inl ⟨rfl, g2, a3, okT_of i3 g3, okT_of i4 g4⟩))))
 ·obtain ⟨⟨⟨⟨rfl, hB⟩, rfl⟩, h1⟩, h2⟩ := a2
  obtain rfl := abS_z hB; obtain rfl := List.eq_nil_of_length_eq_zero h1; obtain rfl := List.eq_nil_of_length_eq_zero h2
  exact Or.inr (Or.inr (Or.inl ⟨Or.inr trivial, rfl, okT_of i3 g3⟩))
 ·obtain ⟨⟨⟨⟨rfl, hA⟩, hB⟩, h1⟩, h2⟩ := a2
  obtain rfl := abS_z hA; obtain rfl := abS_z hB; obtain rfl := List.eq_nil_of_length_eq_zero h1; obtain rfl := List.eq_nil_of_length_eq_zero h2
  exact Or.inr (Or.inr (Or.inr (Or.inr (Or.inr ⟨rfl, a3⟩))))
mutual
theorem ws_err : ∀ (s : Stmt) (d : Int) (r : Nat × Int), (wsS s d r).2 = 0 → r.2 = 0 ∧ stS s d = 0
 | ⟨Op, Name, Max, A, B, Body, Else⟩, d, r, h => by
  simp only [wsS] at h
  have h1 := wb_err Body _ _ (wb_err Else _ _ h)
  simp only at h1
  by_cases h0 : r.2 = 0
  ·rw [if_pos h0] at h1; exact ⟨h0, h1⟩
  ·rw [if_neg h0] at h1; exact absurd h1 h0
theorem wb_err : ∀ (l : List Stmt) (d : Int) (r : Nat × Int), (wbS l d r).2 = 0 → r.2 = 0
 | [], d, r, h => h
 | s :: l, d, r, h => by
  simp only [wbS] at h
  split at h
  ·exact h
  ·exact (ws_err s d r (wb_err l d _ h)).1
end
mutual
theorem ws_ok : ∀ (s : Stmt) (d : Nat) (r : Nat × Int), inS s → (wsS s (d : Int) r).1 ≠ 0 → (wsS s (d : Int) r).2 = 0 → okSt s d
 | ⟨Op, Name, Max, A, B, Body, Else⟩, d, r, hi, h1, h2 => by
  have hs := stS_ok hi (ws_err _ _ _ h2).2
  obtain ⟨i1, i2, i3, i4, i5, i6⟩ := (inS_eq _).1 hi
  have hd : IntKind.i64.wrap ((d : Int) + 1) = ((d + 1 : Nat) : Int) := by rw [wr] <;> omega
  simp only [wsS, hd] at h1 h2
  have k1 := wb_err _ _ _ h2
  have k2 := wbS_le Else ((d + 1 : Nat) : Int) (wbS Body ((d + 1 : Nat) : Int) (wfS B (wfS A (r.1 - 1)), if r.2 = 0 then stS ⟨Op, Name, Max, A, B, Body, Else⟩ d else r.2))
  exact ⟨by omega, hs.2, wb_ok Body (d + 1) _ i5 (by omega) k1, wb_ok Else (d + 1) _ i6 h1 h2⟩
theorem wb_ok : ∀ (l : List Stmt) (d : Nat) (r : Nat × Int), inSs l → (wbS l (d : Int) r).1 ≠ 0 → (wbS l (d : Int) r).2 = 0 → okBl l d
 | [], d, r, _, _, _ => trivial
 | s :: l, d, r, hi, h1, h2 => by
  simp only [wbS] at h1 h2
  split at h1
  ·rename_i h; exact absurd h h1
  ·rename_i h
   rw [if_neg h] at h2
   have k := wbS_le l (d : Int) (wsS s (d : Int) r)
   exact ⟨ws_ok s d r hi.1 (by omega) (wb_err _ _ _ h2), wb_ok l d _ hi.2 h1 h2⟩
end
def okP (p : Proc) : Prop := nameS p.Name = true ∧ parsS p.Params = 0 ∧ okBl p.Body 1
theorem vpS_ok {p : Proc} (hi : inP p) (h : vpS p = 0) : okP p := by
 unfold vpS at h
 split at h
 ·omega
 rename_i g1
 split at h
 ·rename_i g; exact absurd h g
 rename_i g2
 split at h
 ·omega
 rename_i g3
 simp only [Bool.not_eq_false, Decidable.not_not] at g1 g2
 exact ⟨g1, g2, wb_ok p.Body 1 (401, 0) hi.2.2.2 (fun e => g3 ⟨h, e⟩) h⟩
end Go.Ab.Y

namespace Go.Ab.Y
open Go Go.Ab Go.Proofs

def ind : Nat → List UInt8
 | 0 => []
 | d + 1 => 32 :: 32 :: 32 :: 32 :: ind d
def cat : List (List UInt8) → List UInt8
 | [] => []
 | x :: l => x ++ cat l
def lnX (d : Nat) (l : List (List UInt8)) : List UInt8 := ind d ++ (cat l ++ [10])
abbrev tE (e : Expr) : List UInt8 := flat (pcs e)
abbrev kE (e : Expr) : List Token := toks (pcs e)
mutual
def stX : Stmt → Nat → List UInt8
 | ⟨Op, Name, Max, A, B, Body, Else⟩, d =>
  if Op = 1 then lnX d [[108, 101, 116, 32], Name, [32, 61, 32], tE A, [59]]
  else if Op = 2 then lnX d [Name, [32, 61, 32], tE A, [59]]
  else if Op = 3 then lnX d [[112, 117, 116, 32], tE A, [32, 61, 32], tE B, [59]]
  else if Op = 4 then lnX d [[100, 101, 108, 101, 116, 101, 32], tE A, [59]]
  else if Op = 5 then lnX d [[105, 102, 32], tE A, [32, 123]] ++ (blX Body (d + 1) ++ ((if Else.length = 0 then [] else lnX d [[125, 32, 101, 108, 115, 101, 32, 123]] ++ blX Else (d + 1)) ++ lnX d [[125]]))
  else if Op = 6 then lnX d [[102, 111, 114, 32], Name, [32, 61, 32], tE A, [32, 116, 111, 32], tE B, [32, 109, 97, 120, 32], Lib.decDigits Max.toNat, [32, 123]] ++ (blX Body (d + 1) ++ lnX d [[125]])
  else if Op = 7 then lnX d [[101, 109, 105, 116, 32], tE A, [59]]
  else lnX d [[97, 98, 111, 114, 116, 32], Lib.decDigits Max.toNat, [59]]
def blX : List Stmt → Nat → List UInt8
 | [], _ => []
 | s :: l, d => stX s d ++ blX l d
end
mutual
def stK : Stmt → List Token
 | ⟨Op, Name, Max, A, B, Body, Else⟩ =>
  if Op = 1 then kwT [108, 101, 116] :: nmT Name :: mkT [61] :: (kE A ++ [mkT [59]])
  else if Op = 2 then nmT Name :: mkT [61] :: (kE A ++ [mkT [59]])
  else if Op = 3 then kwT [112, 117, 116] :: (kE A ++ mkT [61] :: (kE B ++ [mkT [59]]))
  else if Op = 4 then kwT [100, 101, 108, 101, 116, 101] :: (kE A ++ [mkT [59]])
  else if Op = 5 then kwT [105, 102] :: (kE A ++ mkT [123] :: (blK Body ++ mkT [125] :: (if Else.length = 0 then [] else kwT [101, 108, 115, 101] :: mkT [123] :: (blK Else ++ [mkT [125]]))))
  else if Op = 6 then kwT [102, 111, 114] :: nmT Name :: mkT [61] :: (kE A ++ kwT [116, 111] :: (kE B ++ kwT [109, 97, 120] :: inT Max :: mkT [123] :: (blK Body ++ [mkT [125]])))
  else if Op = 7 then kwT [101, 109, 105, 116] :: (kE A ++ [mkT [59]])
  else [kwT [97, 98, 111, 114, 116], inT Max, mkT [59]]
def blK : List Stmt → List Token
 | [] => []
 | s :: l => stK s ++ blK l
end
theorem Tk_ind {r : List UInt8} {T : List Token} (h : Tk r T) : ∀ d, Tk (ind d ++ r) T
 | 0 => h
 | d + 1 => Tk_sp (Tk_sp (Tk_sp (Tk_sp (Tk_ind h d))))
theorem Tk_kw {w r : List UInt8} {T : List Token} (hw : w ∈ kws) (h : Tk r T) : Tk (w ++ 32 :: r) (kwT w :: T) := Tk_spell (t := kwT w) (vT_kw hw) bh_sp (Tk_sp h)
theorem Tk_nm {w r : List UInt8} {T : List Token} (hw : nameS w = true) (hb : brk r) (h : Tk r T) : Tk (w ++ r) (nmT w :: T) := Tk_spell (t := nmT w) (vT_nm hw) (bh_brk (by simp [nmT, inT]) hb) h
theorem Tk_in {n : Int} {r : List UInt8} {T : List Token} (h0 : 0 ≤ n) (h1 : n ≤ 9223372036854775807) (hb : brk r) (h : Tk r T) : Tk (Lib.decDigits n.toNat ++ r) (inT n :: T) := Tk_spell (t := inT n) (vT_in h0 h1) (bh_brk (by simp [nmT, inT]) hb) h
theorem Tk_eq {r : List UInt8} {T : List Token} (h : Tk r T) : Tk (32 :: 61 :: 32 :: r) (mkT [61] :: T) := Tk_sp (Tk_spell (t := mkT [61]) (vT_mk (by decide)) bh_sp (Tk_sp h))
theorem Tk_semi {r : List UInt8} {T : List Token} (h : Tk r T) : Tk (59 :: 10 :: r) (mkT [59] :: T) := Tk_spell (t := mkT [59]) (vT_mk (by decide)) bh_nl (Tk_nl h)
theorem Tk_open {r : List UInt8} {T : List Token} (h : Tk r T) : Tk (32 :: 123 :: 10 :: r) (mkT [123] :: T) := Tk_sp (Tk_spell (t := mkT [123]) (vT_mk (by decide)) bh_nl (Tk_nl h))
theorem Tk_shut {r : List UInt8} {T : List Token} (d : Nat) (h : Tk r T) : Tk (lnX d [[125]] ++ r) (mkT [125] :: T) := by
 have e : lnX d [[125]] ++ r = ind d ++ (125 :: 10 :: r) := by simp [lnX, cat]
 rw [e]
 exact Tk_ind (Tk_spell (t := mkT [125]) (vT_mk (by decide)) bh_nl (Tk_nl h)) d
theorem Tk_E {e : Expr} {r : List UInt8} {T : List Token} (he : okE e) (hb : brk r) (h : Tk r T) : Tk (tE e ++ r) (kE e ++ T) := OkP_pcs e he r T hb h
mutual
theorem Tk_st : ∀ (s : Stmt) (d d' : Nat), okSt s d' → ∀ (r : List UInt8) (T : List Token), Tk r T → Tk (stX s d ++ r) (stK s ++ T)
 | ⟨Op, Name, Max, A, B, Body, Else⟩, d, d', h, r, T, hT => by
  obtain ⟨_, hs, hb1, hb2⟩ := (okSt_eq _ _).1 h
  have ihB := Tk_bl Body (d + 1) _ hb1
  have ihE := Tk_bl Else (d + 1) _ hb2
  rcases hs with ⟨ho, hq, hn, hA⟩ | ⟨hq, hA, hB⟩ | ⟨ho, hq, hA⟩ | ⟨hq, hA⟩ | ⟨hq, hn, hm, hA, hB⟩ | ⟨hq, hm⟩
  ·simp only [Stmt.mk.injEq, true_and, and_true] at hq ho
   obtain ⟨rfl, rfl, rfl, rfl⟩ := hq
   rcases ho with rfl | rfl
   ·have e : stX ⟨1, Name, 0, A, zE, [], []⟩ d ++ r = ind d ++ ([108, 101, 116] ++ 32 :: (Name ++ 32 :: 61 :: 32 :: (tE A ++ 59 :: 10 :: r))) := by simp [stX, lnX, cat]
    have e2 : stK ⟨1, Name, 0, A, zE, [], []⟩ ++ T = kwT [108, 101, 116] :: nmT Name :: mkT [61] :: (kE A ++ mkT [59] :: T) := by simp [stK]
    rw [e, e2]
    exact Tk_ind (Tk_kw (by decide) (Tk_nm hn (brk_c rfl) (Tk_eq (Tk_E hA.1 (brk_c rfl) (Tk_semi hT))))) d
   ·have e : stX ⟨2, Name, 0, A, zE, [], []⟩ d ++ r = ind d ++ (Name ++ 32 :: 61 :: 32 :: (tE A ++ 59 :: 10 :: r)) := by simp [stX, lnX, cat]
    have e2 : stK ⟨2, Name, 0, A, zE, [], []⟩ ++ T = nmT Name :: mkT [61] :: (kE A ++ mkT [59] :: T) := by simp [stK]
    rw [e, e2]
    exact Tk_ind (Tk_nm hn (brk_c rfl) (Tk_eq (Tk_E hA.1 (brk_c rfl) (Tk_semi hT)))) d
  ·simp only [Stmt.mk.injEq, true_and, and_true] at hq
   obtain ⟨rfl, rfl, rfl, rfl, rfl⟩ := hq
   have e : stX ⟨3, [], 0, A, B, [], []⟩ d ++ r = ind d ++ ([112, 117, 116] ++ 32 :: (tE A ++ 32 :: 61 :: 32 :: (tE B ++ 59 :: 10 :: r))) := by simp [stX, lnX, cat]
   have e2 : stK ⟨3, [], 0, A, B, [], []⟩ ++ T = kwT [112, 117, 116] :: (kE A ++ mkT [61] :: (kE B ++ mkT [59] :: T)) := by simp [stK]
   rw [e, e2]
   exact Tk_ind (Tk_kw (by decide) (Tk_E hA.1 (brk_c rfl) (Tk_eq (Tk_E hB.1 (brk_c rfl) (Tk_semi hT))))) d
  ·simp only [Stmt.mk.injEq, true_and, and_true] at hq ho
   obtain ⟨rfl, rfl, rfl, rfl, rfl⟩ := hq
   rcases ho with rfl | rfl
   ·have e : stX ⟨4, [], 0, A, zE, [], []⟩ d ++ r = ind d ++ ([100, 101, 108, 101, 116, 101] ++ 32 :: (tE A ++ 59 :: 10 :: r)) := by simp [stX, lnX, cat]
    have e2 : stK ⟨4, [], 0, A, zE, [], []⟩ ++ T = kwT [100, 101, 108, 101, 116, 101] :: (kE A ++ mkT [59] :: T) := by simp [stK]
    rw [e, e2]
    exact Tk_ind (Tk_kw (by decide) (Tk_E hA.1 (brk_c rfl) (Tk_semi hT))) d
   ·have e : stX ⟨7, [], 0, A, zE, [], []⟩ d ++ r = ind d ++ ([101, 109, 105, 116] ++ 32 :: (tE A ++ 59 :: 10 :: r)) := by simp [stX, lnX, cat]
    have e2 : stK ⟨7, [], 0, A, zE, [], []⟩ ++ T = kwT [101, 109, 105, 116] :: (kE A ++ mkT [59] :: T) := by simp [stK]
    rw [e, e2]
    exact Tk_ind (Tk_kw (by decide) (Tk_E hA.1 (brk_c rfl) (Tk_semi hT))) d
  ·simp only [Stmt.mk.injEq, true_and, and_true] at hq
   obtain ⟨rfl, rfl, rfl, rfl⟩ := hq
   by_cases hl : Else.length = 0
   ·have e : stX ⟨5, [], 0, A, zE, Body, Else⟩ d ++ r = ind d ++ ([105, 102] ++ 32 :: (tE A ++ 32 :: 123 :: 10 :: (blX Body (d + 1) ++ (lnX d [[125]] ++ r)))) := by
     simp only [stX, hl]; simp [lnX, cat]
    have e2 : stK ⟨5, [], 0, A, zE, Body, Else⟩ ++ T = kwT [105, 102] :: (kE A ++ mkT [123] :: (blK Body ++ mkT [125] :: T)) := by simp only [stK, hl]; simp
    rw [e, e2]
    exact Tk_ind (Tk_kw (by decide) (Tk_E hA.1 (brk_c rfl) (Tk_open (ihB _ _ (Tk_shut d hT))))) d
   ·have e : stX ⟨5, [], 0, A, zE, Body, Else⟩ d ++ r = ind d ++ ([105, 102] ++ 32 :: (tE A ++ 32 :: 123 :: 10 :: (blX Body (d + 1) ++ (ind d ++ (125 :: 32 :: ([101, 108, 115, 101] ++ 32 :: 123 :: 10 :: (blX Else (d + 1) ++ (lnX d [[125]] ++ r)))))))) := by
     simp only [stX, hl]; simp [lnX, cat]
    have e2 : stK ⟨5, [], 0, A, zE, Body, Else⟩ ++ T = kwT [105, 102] :: (kE A ++ mkT [123] :: (blK Body ++ mkT [125] :: kwT [101, 108, 115, 101] :: mkT [123] :: (blK Else ++ mkT [125] :: T))) := by simp only [stK, hl]; simp
    rw [e, e2]
    exact Tk_ind (Tk_kw (by decide) (Tk_E hA.1 (brk_c rfl) (Tk_open (ihB _ _ (Tk_ind (Tk_spell (t := mkT [125]) (vT_mk (by decide)) bh_sp (Tk_sp (Tk_spell (t := kwT [101, 108, 115, 101]) (vT_kw (by decide)) bh_sp (Tk_open (ihE _ _ (Tk_shut d hT)))))) d))))) d
  ·simp only [Stmt.mk.injEq, true_and, and_true] at hq
   obtain ⟨rfl, rfl⟩ := hq
   have hm : 1 ≤ Max ∧ Max ≤ 16 := hm
   have e : stX ⟨6, Name, Max, A, B, Body, []⟩ d ++ r = ind d ++ ([102, 111, 114] ++ 32 :: (Name ++ 32 :: 61 :: 32 :: (tE A ++ 32 :: ([116, 111] ++ 32 :: (tE B ++ 32 :: ([109, 97, 120] ++ 32 :: (Lib.decDigits Max.toNat ++ 32 :: 123 :: 10 :: (blX Body (d + 1) ++ (lnX d [[125]] ++ r))))))))) := by
    simp [stX, lnX, cat]
   have e2 : stK ⟨6, Name, Max, A, B, Body, []⟩ ++ T = kwT [102, 111, 114] :: nmT Name :: mkT [61] :: (kE A ++ kwT [116, 111] :: (kE B ++ kwT [109, 97, 120] :: inT Max :: mkT [123] :: (blK Body ++ mkT [125] :: T))) := by simp [stK]
   rw [e, e2]
   exact Tk_ind (Tk_kw (by decide) (Tk_nm hn (brk_c rfl) (Tk_eq (Tk_E hA.1 (brk_c rfl) (Tk_sp (Tk_kw (by decide) (Tk_E hB.1 (brk_c rfl) (Tk_sp (Tk_kw (by decide) (Tk_in (by omega) (by omega) (brk_c rfl) (Tk_open (ihB _ _ (Tk_shut d hT))))))))))))) d
  ·simp only [Stmt.mk.injEq, true_and, and_true] at hq
   obtain ⟨rfl, rfl, rfl, rfl, rfl, rfl⟩ := hq
   have hm : 0 ≤ Max ∧ Max ≤ 999 := hm
   have e : stX ⟨8, [], Max, zE, zE, [], []⟩ d ++ r = ind d ++ ([97, 98, 111, 114, 116] ++ 32 :: (Lib.decDigits Max.toNat ++ 59 :: 10 :: r)) := by simp [stX, lnX, cat]
   have e2 : stK ⟨8, [], Max, zE, zE, [], []⟩ ++ T = kwT [97, 98, 111, 114, 116] :: inT Max :: mkT [59] :: T := by simp [stK]
   rw [e, e2]
   exact Tk_ind (Tk_kw (by decide) (Tk_in (by omega) (by omega) (brk_c rfl) (Tk_semi hT))) d
theorem Tk_bl : ∀ (l : List Stmt) (d d' : Nat), okBl l d' → ∀ (r : List UInt8) (T : List Token), Tk r T → Tk (blX l d ++ r) (blK l ++ T)
 | [], d, d', h, r, T, hT => hT
 | s :: l, d, d', h, r, T, hT => by
  have := Tk_st s d d' h.1 _ _ (Tk_bl l d d' h.2 r T hT)
  simp only [blX, blK, List.append_assoc]
  exact this
end
end Go.Ab.Y

namespace Go.Ab.Y
open Go Go.Ab Go.Proofs

theorem wstr (n : Nat) (s b : List UInt8) (x : Int) (h : b.length + s.length ≤ 1000000000) : F_bk0 n s (b2i b) x = some (((s.length : Nat) : Int), b2i (b ++ s)) := by
 unfold F_bk0 F_bf0
 rw [show (b2i b).length + s.length = b.length + s.length by simp [b2i], room1' (by omega)]
 simp [b2i, bind_s, ass_t]
theorem wbyte (n : Nat) (b : List UInt8) (x : Int) (h : b.length ≤ 1000000000) : F_cf0 n 10 (b2i b) x = some (b2i (b ++ [10])) := by
 unfold F_cf0 F_bf0
 rw [show (b2i b).length + ([10] : List Int).length = b.length + 1 by simp [b2i], room1' (by omega)]
 simp [b2i, bind_s, ass_t]
theorem cat_app : ∀ l m : List (List UInt8), cat (l ++ m) = cat l ++ cat m
 | [], m => rfl
 | x :: l, m => by simp only [List.cons_append, cat, cat_app l m, List.append_assoc]
theorem ind_s : ∀ d, ind (d + 1) = ind d ++ [32, 32, 32, 32]
 | 0 => rfl
 | d + 1 => by
  show 32 :: 32 :: 32 :: 32 :: ind (d + 1) = (32 :: 32 :: 32 :: 32 :: ind d) ++ [32, 32, 32, 32]
  rw [ind_s d]; rfl
theorem ind_len : ∀ d, (ind d).length = 4 * d
 | 0 => rfl
 | d + 1 => by simp only [ind, List.length_cons, ind_len d]; omega
theorem line_l3 (n : Nat) (parts : List (List UInt8)) (d : Nat) (b : List UInt8) (hl : b.length + (cat parts).length ≤ 1000000000) (hp : parts.length ≤ 1000) : ∀ m i, parts.length < i + m → i ≤ parts.length →
  F_j0_l3 n parts (d : Int) m (b2i (b ++ cat (parts.take i))) (i : Int) = some (b2i (b ++ (cat parts ++ [10]))) := by
 intro m
 induction m with
 | zero => intro i h1 h2; omega
 | succ m ih =>
  intro i h1 h2
  have hc : cat parts = cat (parts.take i) ++ cat (parts.drop i) := by rw [← cat_app, List.take_append_drop]
  have hcl : (cat parts).length = (cat (parts.take i)).length + (cat (parts.drop i)).length := by rw [hc, List.length_append]
  simp only [F_j0_l3, F_j0_b3, F_j0_j2, Int.ofNat_lt, Int.toNat_natCast]
  by_cases hi : i < parts.length
  ·rw [drop_get parts i default hi] at hcl
   simp only [cat, List.length_append] at hcl
   simp only [hi, decide_true, cond_true, inB_n hi, ass_t]
   rw [wstr n _ _ _ (by rw [List.length_append]; omega), wr_s (by omega)]
   simp only [bind_s]
   have := ih (i + 1) (by omega) (by omega)
   rw [take_s parts i hi, cat_app] at this
   simp only [cat, List.append_nil] at this
   rw [List.append_assoc]
   exact this
  ·simp only [hi, decide_false, cond_false]
   obtain rfl : i = parts.length := by omega
   rw [List.take_length, wbyte n _ _ (by rw [List.length_append]; omega)]
   simp only [bind_s, List.append_assoc]
theorem line_S {n : Nat} (parts : List (List UInt8)) (d : Nat) (b : List UInt8) (hl : b.length + (cat parts).length ≤ 900000000) (hp : parts.length ≤ 10) (hd : d ≤ 100) (hn : 200 ≤ n) :
  F_j0 n parts (b2i b) (d : Int) = some (b2i (b ++ lnX d parts)) := by
 have hloop : ∀ m i, d < i + m → i ≤ d → F_j0_l4 n parts (d : Int) m (b2i (b ++ ind i)) (i : Int) = some (b2i (b ++ lnX d parts)) := by
  intro m
  induction m with
  | zero => intro i h1 h2; omega
  | succ m ih =>
   intro i h1 h2
   have hil := ind_len i
   simp only [F_j0_l4, F_j0_b4, F_j0_j1, Int.ofNat_lt]
   by_cases hi : i < d
   ·simp only [hi, decide_true, cond_true]
    rw [wstr n _ _ _ (by simp only [List.length_append, List.length_cons, List.length_nil]; omega), wr_s (by omega)]
    simp only [bind_s]
    have := ih (i + 1) (by omega) (by omega)
    rw [ind_s] at this
    rw [List.append_assoc]
    exact this
   ·simp only [hi, decide_false, cond_false]
    obtain rfl : i = d := by omega
    have := line_l3 n parts i (b ++ ind i) (by rw [List.length_append]; omega) (by omega) n 0 (by omega) (by omega)
    simp only [List.take_zero, cat, List.append_nil] at this
    rw [show ((0 : Nat) : Int) = 0 from rfl] at this
    rw [this, lnX, List.append_assoc]
 have := hloop n 0 (by omega) (by omega)
 simp only [ind, List.append_nil] at this
 exact this
theorem lnX_len (d : Nat) (l : List (List UInt8)) : (lnX d l).length = 4 * d + (cat l).length + 1 := by
 unfold lnX; simp only [List.length_append, ind_len, List.length_cons, List.length_nil]; omega
theorem tE_len {e : Expr} (h : okT e) : (tE e).length ≤ 4 * fu e := flat_len (hgt e) e (Nat.le_refl _) h.1
mutual
theorem stX_len : ∀ (s : Stmt) (d : Nat), okSt s d → (stX s d).length ≤ 4 * fst s
 | ⟨Op, Name, Max, A, B, Body, Else⟩, d, h => by
  obtain ⟨hd, hs, hb1, hb2⟩ := (okSt_eq _ _).1 h
  have ihB := blX_len Body (d + 1) hb1
  have ihE := blX_len Else (d + 1) hb2
  rcases hs with ⟨ho, hq, hn, hA⟩ | ⟨hq, hA, hB⟩ | ⟨ho, hq, hA⟩ | ⟨hq, hA⟩ | ⟨hq, hn, hm, hA, hB⟩ | ⟨hq, hm⟩
  ·simp only [Stmt.mk.injEq, true_and, and_true] at hq ho
   obtain ⟨rfl, rfl, rfl, rfl⟩ := hq
   have h1 := tE_len hA
   have h2 := name_len hn
   simp only at h1 h2
   rcases ho with rfl | rfl
   ·rw [show stX ⟨1, Name, 0, A, zE, [], []⟩ d = lnX d [[108, 101, 116, 32], Name, [32, 61, 32], tE A, [59]] by simp [stX], lnX_len]
    simp only [cat, fst, List.length_append, List.length_cons, List.length_nil]; omega
   ·rw [show stX ⟨2, Name, 0, A, zE, [], []⟩ d = lnX d [Name, [32, 61, 32], tE A, [59]] by simp [stX], lnX_len]
    simp only [cat, fst, List.length_append, List.length_cons, List.length_nil]; omega
  ·simp only [Stmt.mk.injEq, true_and, and_true] at hq
   obtain ⟨rfl, rfl, rfl, rfl, rfl⟩ := hq
   have h1 := tE_len hA
   have h2 := tE_len hB
   simp only at h1 h2
   rw [show stX ⟨3, [], 0, A, B, [], []⟩ d = lnX d [[112, 117, 116, 32], tE A, [32, 61, 32], tE B, [59]] by simp [stX], lnX_len]
   simp only [cat, fst, List.length_append, List.length_cons, List.length_nil]; omega
  ·simp only [Stmt.mk.injEq, true_and, and_true] at hq ho
   obtain ⟨rfl, rfl, rfl, rfl, rfl⟩ := hq
   have h1 := tE_len hA
   simp only at h1
   rcases ho with rfl | rfl
   ·rw [show stX ⟨4, [], 0, A, zE, [], []⟩ d = lnX d [[100, 101, 108, 101, 116, 101, 32], tE A, [59]] by simp [stX], lnX_len]
    simp only [cat, fst, List.length_append, List.length_cons, List.length_nil]; omega
   ·rw [show stX ⟨7, [], 0, A, zE, [], []⟩ d = lnX d [[101, 109, 105, 116, 32], tE A, [59]] by simp [stX], lnX_len]
    simp only [cat, fst, List.length_append, List.length_cons, List.length_nil]; omega
  ·simp only [Stmt.mk.injEq, true_and, and_true] at hq
   obtain ⟨rfl, rfl, rfl, rfl⟩ := hq
   have h1 := tE_len hA
   simp only at h1
   have h2 : (stX ⟨5, [], 0, A, zE, Body, Else⟩ d).length ≤ (lnX d [[105, 102, 32], tE A, [32, 123]]).length + ((blX Body (d + 1)).length + (((lnX d [[125, 32, 101, 108, 115, 101, 32, 123]]).length + (blX Else (d + 1)).length) + (lnX d [[125]]).length)) := by
    by_cases hl : Else.length = 0
    ·simp [stX, hl]
    ·simp [stX, hl]; omega
   simp only [lnX_len, cat, List.length_append, List.length_cons, List.length_nil] at h2
   simp only [fst]; omega
  ·simp only [Stmt.mk.injEq, true_and, and_true] at hq
   obtain ⟨rfl, rfl⟩ := hq
   have hm : 1 ≤ Max ∧ Max ≤ 16 := hm
   have h1 := tE_len hA
   have h2 := tE_len hB
   have h3 := name_len hn
   have h4 := dec_len Max (by omega) (by omega)
   simp only at h1 h2 h3
   have h5 : stX ⟨6, Name, Max, A, B, Body, []⟩ d = lnX d [[102, 111, 114, 32], Name, [32, 61, 32], tE A, [32, 116, 111, 32], tE B, [32, 109, 97, 120, 32], Lib.decDigits Max.toNat, [32, 123]] ++ (blX Body (d + 1) ++ lnX d [[125]]) := by simp [stX]
   rw [h5]
   simp only [lnX_len, cat, fst, List.length_append, List.length_cons, List.length_nil]; omega
  ·simp only [Stmt.mk.injEq, true_and, and_true] at hq
   obtain ⟨rfl, rfl, rfl, rfl, rfl, rfl⟩ := hq
   have hm : 0 ≤ Max ∧ Max ≤ 999 := hm
   have h4 := dec_len Max (by omega) (by omega)
   rw [show stX ⟨8, [], Max, zE, zE, [], []⟩ d = lnX d [[97, 98, 111, 114, 116, 32], Lib.decDigits Max.toNat, [59]] by simp [stX], lnX_len]
   simp only [cat, fst, List.length_append, List.length_cons, List.length_nil]; omega
theorem blX_len : ∀ (l : List Stmt) (d : Nat), okBl l d → (blX l d).length ≤ 4 * fss l
 | [], d, h => Nat.le_refl _
 | s :: l, d, h => by
  have h1 := stX_len s d h.1
  have h2 := blX_len l d h.2
  simp only [blX, fss, List.length_append]; omega
end
theorem num_Format2 (n : Nat) (i : Int) (h0 : 0 ≤ i) (h1 : i ≤ 9223372036854775807) : F_do0 n i = some (Lib.decDigits i.toNat) := num_Format n i h0 h1
end Go.Ab.Y

namespace Go.Ab.Y
open Go Go.Ab Go.Proofs

theorem wb_s (n : Nat) : F_f0 (n + 1) = B_f0 n (F_f0 n) (F_n0 n) (F_q0 n) := rfl
theorem wr_b (n : Nat) : F_n0 (n + 1) = B_n0 n (F_f0 n) (F_n0 n) (F_q0 n) := rfl
theorem wl_s (n : Nat) : F_q0 (n + 1) = B_q0 n (F_f0 n) (F_n0 n) (F_q0 n) := rfl
theorem text_T {n : Nat} {e : Expr} (h : okT e) (hn : 300 ≤ n) (hf : fu e ≤ 1000000) : F_s0 n e = some (tE e) := printer_text (hgt e) e n (Nat.le_refl _) h.1 (by have := h.2; omega) hf
def PrB (n : Nat) (l : List Stmt) (d : Nat) (b : List UInt8) : Prop := F_f0 n l (b2i b) (d : Int) = some (b2i (b ++ blX l (d + 1)), (d : Int))
theorem pr_branch {n d : Nat} {b : List UInt8} {A : Expr} {Body Else : List Stmt} (hA : okT A) (hf : fu A ≤ 100000) (hd : d ≤ 12) (hn : 400 ≤ n) (hb : b.length ≤ 10000000) (hl1 : (blX Body (d + 1)).length ≤ 10000000) (hl2 : (blX Else (d + 1)).length ≤ 10000000)
  (hB : ∀ b' : List UInt8, b'.length ≤ b.length + 4 * fu A + 100 → PrB n Body d b') (hE : ∀ b' : List UInt8, b'.length ≤ b.length + 4 * fu A + 200 + (blX Body (d + 1)).length → PrB n Else d b') :
  F_n0 (n + 1) ⟨5, [], 0, A, zE, Body, Else⟩ (b2i b) (d : Int) = some (b2i (b ++ stX ⟨5, [], 0, A, zE, Body, Else⟩ d), (d : Int)) := by
 have h1 := tE_len hA
 rw [wr_b]
 simp only [B_n0, F_n0_j1, eta_E]
 rw [text_T hA (by omega) (by omega)]
 simp only [bind_s]
 rw [line_S _ d b (by simp only [cat, List.length_append, List.length_cons, List.length_nil]; omega) (by simp) (by omega) (by omega)]
 simp only [bind_s]
 have e1 := hB (b ++ lnX d [[105, 102, 32], tE A, [32, 123]]) (by simp only [List.length_append, lnX_len, cat, List.length_cons, List.length_nil]; omega)
 unfold PrB at e1
 rw [e1]
 simp only [bind_s]
 by_cases hl : Else.length = 0
 ·rw [show decide (0 < ((Else.length : Nat) : Int)) = false from decide_eq_false (by omega)]
  simp only [cond_false]
  rw [line_S _ d _ (by simp only [List.length_append, lnX_len, cat, List.length_cons, List.length_nil]; omega) (by simp) (by omega) (by omega)]
  simp only [bind_s]
  have : stX ⟨5, [], 0, A, zE, Body, Else⟩ d = lnX d [[105, 102, 32], tE A, [32, 123]] ++ (blX Body (d + 1) ++ lnX d [[125]]) := by simp [stX, hl]
  rw [this]
  simp only [List.append_assoc]
 ·rw [show decide (0 < ((Else.length : Nat) : Int)) = true from decide_eq_true (by omega)]
  simp only [cond_true]
  rw [line_S _ d _ (by simp only [List.length_append, lnX_len, cat, List.length_cons, List.length_nil]; omega) (by simp) (by omega) (by omega)]
  simp only [bind_s]
  have e2 := hE (b ++ lnX d [[105, 102, 32], tE A, [32, 123]] ++ blX Body (d + 1) ++ lnX d [[125, 32, 101, 108, 115, 101, 32, 123]]) (by simp only [List.length_append, lnX_len, cat, List.length_cons, List.length_nil]; omega)
  unfold PrB at e2
  rw [e2]
  simp only [bind_s]
  rw [line_S _ d _ (by simp only [List.length_append, lnX_len, cat, List.length_cons, List.length_nil]; omega) (by simp) (by omega) (by omega)]
  simp only [bind_s]
  have : stX ⟨5, [], 0, A, zE, Body, Else⟩ d = lnX d [[105, 102, 32], tE A, [32, 123]] ++ (blX Body (d + 1) ++ ((lnX d [[125, 32, 101, 108, 115, 101, 32, 123]] ++ blX Else (d + 1)) ++ lnX d [[125]])) := by simp [stX, hl]
  rw [this]
  simp only [List.append_assoc]
theorem pr_loop {n d : Nat} {b : List UInt8} {Name : List UInt8} {Max : Int} {A B : Expr} {Body : List Stmt} (hA : okT A) (hB' : okT B) (hf : fu A ≤ 100000) (hf2 : fu B ≤ 100000) (hN : nameS Name = true) (hm : 1 ≤ Max ∧ Max ≤ 16) (hd : d ≤ 12) (hn : 400 ≤ n) (hb : b.length ≤ 10000000) (hl1 : (blX Body (d + 1)).length ≤ 10000000)
  (hB : ∀ b' : List UInt8, b'.length ≤ b.length + 4 * fu A + 4 * fu B + 120 → PrB n Body d b') :
  F_q0 (n + 1) ⟨6, Name, Max, A, B, Body, []⟩ (b2i b) (d : Int) = some (b2i (b ++ stX ⟨6, Name, Max, A, B, Body, []⟩ d), (d : Int)) := by
 have h1 := tE_len hA
 have h2 := tE_len hB'
 have h3 := name_len hN
 have h4 := dec_len Max (by omega) (by omega)
 rw [wl_s]
 simp only [B_q0, eta_E]
 rw [text_T hA (by omega) (by omega), text_T hB' (by omega) (by omega), num_Format2 n Max (by omega) (by omega)]
 simp only [bind_s]
 rw [line_S _ d b (by simp only [cat, List.length_append, List.length_cons, List.length_nil]; omega) (by simp) (by omega) (by omega)]
 simp only [bind_s]
 have e1 := hB (b ++ lnX d [[102, 111, 114, 32], Name, [32, 61, 32], tE A, [32, 116, 111, 32], tE B, [32, 109, 97, 120, 32], Lib.decDigits Max.toNat, [32, 123]]) (by simp only [List.length_append, lnX_len, cat, List.length_cons, List.length_nil]; omega)
 unfold PrB at e1
 rw [e1]
 simp only [bind_s]
 rw [line_S _ d _ (by simp only [List.length_append, lnX_len, cat, List.length_cons, List.length_nil]; omega) (by simp) (by omega) (by omega)]
 simp only [bind_s]
 have : stX ⟨6, Name, Max, A, B, Body, []⟩ d = lnX d [[102, 111, 114, 32], Name, [32, 61, 32], tE A, [32, 116, 111, 32], tE B, [32, 109, 97, 120, 32], Lib.decDigits Max.toNat, [32, 123]] ++ (blX Body (d + 1) ++ lnX d [[125]]) := by simp [stX]
 rw [this]
 simp only [List.append_assoc]
theorem okBl_get : ∀ (l : List Stmt) (i d : Nat), i < l.length → okBl l d → okSt (l.getD i default) d
 | [], i, d, h, _ => by simp at h
 | x :: l, 0, d, h, hl => hl.1
 | x :: l, i + 1, d, h, hl => by simp only [List.getD_cons_succ]; exact okBl_get l i d (by simpa using h) hl.2
theorem okBl_app : ∀ (l m : List Stmt) (d : Nat), okBl (l ++ m) d ↔ okBl l d ∧ okBl m d
 | [], m, d => by simp [okBl]
 | x :: l, m, d => by simp only [List.cons_append, okBl, okBl_app l m d, and_assoc]
theorem blX_app : ∀ (l m : List Stmt) (d : Nat), blX (l ++ m) d = blX l d ++ blX m d
 | [], m, d => rfl
 | x :: l, m, d => by simp only [List.cons_append, blX, blX_app l m d, List.append_assoc]
theorem pr_block : ∀ (n : Nat) (l : List Stmt) (d : Nat) (b : List UInt8), okBl l (d + 1) → d ≤ 12 → fss l ≤ 100000 → 2 * fss l + 500 ≤ n → b.length + 4 * fss l ≤ 5000000 → PrB n l d b := by
 intro n
 induction n using Nat.strongRecOn with
 | _ n ih =>
  intro l d b hok hd hf hn hb
  obtain ⟨n, rfl⟩ : ∃ k, n = k + 2 := ⟨n - 2, by omega⟩
  have hlen := fss_len l
  unfold PrB
  rw [wb_s]
  unfold B_f0
  rw [wr_s (by omega)]
  have hloop : ∀ m i, l.length < i + m → i ≤ l.length → F_f0_l2 (n + 1) (F_f0 (n + 1)) (F_n0 (n + 1)) (F_q0 (n + 1)) l m (b2i (b ++ blX (l.take i) (d + 1))) ((d + 1 : Nat) : Int) (i : Int) = some (b2i (b ++ blX l (d + 1)), (d : Int)) := by
   intro m
   induction m with
   | zero => intro i h1 h2; omega
   | succ m ihm =>
    intro i h1 h2
    simp only [F_f0_l2, F_f0_b2, F_f0_j1, Int.ofNat_lt, Int.toNat_natCast, eta_E, eta_S]
    by_cases hi : i < l.length
    ·simp only [hi, decide_true, cond_true, inB_n hi, ass_t]
     have hst := okBl_get l i (d + 1) hi hok
     have htk : okBl (l.take i) (d + 1) := ((okBl_app (l.take i) (l.drop i) (d + 1)).1 (by rw [List.take_append_drop]; exact hok)).1
     have hs1 := blX_len _ _ htk
     have hs2 : fss l = fss (l.take i) + (fst (l.getD i default) + 1 + fss (l.drop (i + 1))) := by
      have : fss l = fss (l.take i ++ l.drop i) := by rw [List.take_append_drop]
      rw [fss_app, drop_get l i default hi] at this
      simpa only [fss] using this
     have hnext := ihm (i + 1) (by omega) (by omega)
     rw [take_s l i hi, blX_app, ← List.append_assoc] at hnext
     simp only [blX, List.append_nil] at hnext
     have hbl : (b ++ blX (l.take i) (d + 1)).length ≤ b.length + 4 * fss (l.take i) := by rw [List.length_append]; omega
     generalize b ++ blX (l.take i) (d + 1) = B0 at hnext hbl
     rw [wr_s (by omega)]
     generalize l.getD i default = s at hst hs2 hnext
     have hfs := fst_eq s
     obtain ⟨hd2, hs, hb1, hb2⟩ := (okSt_eq _ _).1 hst
     obtain ⟨Op, Name, Max, A, B, Body, Else⟩ := s
     simp only at hfs hb1 hb2
     rcases hs with ⟨ho, hq, hN, hA⟩ | ⟨hq, hA, hB⟩ | ⟨ho, hq, hA⟩ | ⟨hq, hA⟩ | ⟨hq, hN, hm, hA, hB⟩ | ⟨hq, hm⟩
     ·simp only [Stmt.mk.injEq, true_and, and_true] at hq ho
      obtain ⟨rfl, rfl, rfl, rfl⟩ := hq
      have h3 := tE_len hA
      have h4 := name_len hN
      simp only at h3 h4
      rcases ho with rfl | rfl
      ·simp only [show F_bp0 (n + 1) 1 = some (.inl ()) from rfl, bind_s, Sm.on, F_dc0, eta_E]
       rw [text_T hA (by omega) (by show fu A ≤ _; omega)]
       simp only [bind_s]
       rw [line_S _ (d + 1) B0 (by simp only [cat, List.length_append, List.length_cons, List.length_nil]; omega) (by simp) (by omega) (by omega)]
       simp only [bind_s]
       rw [show stX ⟨1, Name, 0, A, zE, [], []⟩ (d + 1) = lnX (d + 1) [[108, 101, 116, 32], Name, [32, 61, 32], tE A, [59]] by simp [stX]] at hnext
       exact hnext
      ·simp only [show F_bp0 (n + 1) 2 = some (.inr (.inl ())) from rfl, bind_s, Sm.on, F_dg0, eta_E]
       rw [text_T hA (by omega) (by show fu A ≤ _; omega)]
       simp only [bind_s]
       rw [line_S _ (d + 1) B0 (by simp only [cat, List.length_append, List.length_cons, List.length_nil]; omega) (by simp) (by omega) (by omega)]
       simp only [bind_s]
       rw [show stX ⟨2, Name, 0, A, zE, [], []⟩ (d + 1) = lnX (d + 1) [Name, [32, 61, 32], tE A, [59]] by simp [stX]] at hnext
       exact hnext
     ·simp only [Stmt.mk.injEq, true_and, and_true] at hq
      obtain ⟨rfl, rfl, rfl, rfl, rfl⟩ := hq
      have h3 := tE_len hA
      have h4 := tE_len hB
      simp only at h3 h4
      simp only [show F_bp0 (n + 1) 3 = some (.inr (.inr (.inl ()))) from rfl, bind_s, Sm.on, F_dx0, eta_E]
      rw [text_T hA (by omega) (by show fu A ≤ _; omega), text_T hB (by omega) (by show fu B ≤ _; omega)]
      simp only [bind_s]
      rw [line_S _ (d + 1) B0 (by simp only [cat, List.length_append, List.length_cons, List.length_nil]; omega) (by simp) (by omega) (by omega)]
      simp only [bind_s]
      rw [show stX ⟨3, [], 0, A, B, [], []⟩ (d + 1) = lnX (d + 1) [[112, 117, 116, 32], tE A, [32, 61, 32], tE B, [59]] by simp [stX]] at hnext
      exact hnext
     ·simp only [Stmt.mk.injEq, true_and, and_true] at hq ho
      obtain ⟨rfl, rfl, rfl, rfl, rfl⟩ := hq
      have h3 := tE_len hA
      simp only at h3
      rcases ho with rfl | rfl
      ·simp only [show F_bp0 (n + 1) 4 = some (.inr (.inr (.inr (.inl ())))) from rfl, bind_s, Sm.on, F_dh0, eta_E]
       rw [text_T hA (by omega) (by show fu A ≤ _; omega)]
       simp only [bind_s]
       rw [line_S _ (d + 1) B0 (by simp only [cat, List.length_append, List.length_cons, List.length_nil]; omega) (by simp) (by omega) (by omega)]
       simp only [bind_s]
       rw [show stX ⟨4, [], 0, A, zE, [], []⟩ (d + 1) = lnX (d + 1) [[100, 101, 108, 101, 116, 101, 32], tE A, [59]] by simp [stX]] at hnext
       exact hnext
      ·simp only [show F_bp0 (n + 1) 7 = some (.inr (.inr (.inr (.inr (.inr (.inr (.inl ()))))))) from rfl, bind_s, Sm.on, F_dr0, eta_E]
       rw [text_T hA (by omega) (by show fu A ≤ _; omega)]
       simp only [bind_s]
       rw [line_S _ (d + 1) B0 (by simp only [cat, List.length_append, List.length_cons, List.length_nil]; omega) (by simp) (by omega) (by omega)]
       simp only [bind_s]
       rw [show stX ⟨7, [], 0, A, zE, [], []⟩ (d + 1) = lnX (d + 1) [[101, 109, 105, 116, 32], tE A, [59]] by simp [stX]] at hnext
       exact hnext
     ·simp only [Stmt.mk.injEq, true_and, and_true] at hq
      obtain ⟨rfl, rfl, rfl, rfl⟩ := hq
      have hl1 := blX_len _ _ hb1
      have hl2 := blX_len _ _ hb2
      simp only [show F_bp0 (n + 1) 5 = some (.inr (.inr (.inr (.inr (.inl ()))))) from rfl, bind_s, Sm.on]
      rw [pr_branch (A := A) hA (by show fu A ≤ _; omega) (by omega) (by omega) (by omega) (by omega) (by omega)
       (fun b' hb' => ih n (by omega) Body (d + 1) b' hb1 (by omega) (by omega) (by omega) (by omega)) (fun b' hb' => ih n (by omega) Else (d + 1) b' hb2 (by omega) (by omega) (by omega) (by omega))]
      exact hnext
     ·simp only [Stmt.mk.injEq, true_and, and_true] at hq
      obtain ⟨rfl, rfl⟩ := hq
      have hl1 := blX_len _ _ hb1
      simp only [show F_bp0 (n + 1) 6 = some (.inr (.inr (.inr (.inr (.inr (.inl ())))))) from rfl, bind_s, Sm.on]
      rw [pr_loop (A := A) (B := B) hA hB (by show fu A ≤ _; omega) (by show fu B ≤ _; omega) hN hm (by omega) (by omega) (by omega) (by omega)
       (fun b' hb' => ih n (by omega) Body (d + 1) b' hb1 (by omega) (by omega) (by omega) (by omega))]
      exact hnext
     ·simp only [Stmt.mk.injEq, true_and, and_true] at hq
      obtain ⟨rfl, rfl, rfl, rfl, rfl, rfl⟩ := hq
      have hm : 0 ≤ Max ∧ Max ≤ 999 := hm
      have h4 := dec_len Max (by omega) (by omega)
      simp only [show F_bp0 (n + 1) 8 = some (.inr (.inr (.inr (.inr (.inr (.inr (.inr ()))))))) from rfl, bind_s, Sm.on, F_dp0, eta_E]
      rw [num_Format2 _ Max (by omega) (by omega)]
      simp only [bind_s]
      rw [line_S _ (d + 1) B0 (by simp only [cat, List.length_append, List.length_cons, List.length_nil]; omega) (by simp) (by omega) (by omega)]
      simp only [bind_s]
      rw [show stX ⟨8, [], Max, zE, zE, [], []⟩ (d + 1) = lnX (d + 1) [[97, 98, 111, 114, 116, 32], Lib.decDigits Max.toNat, [59]] by simp [stX]] at hnext
      exact hnext
    ·simp only [hi, decide_false, cond_false]
     obtain rfl : i = l.length := by omega
     rw [List.take_length, show IntKind.i64.wrap (((d + 1 : Nat) : Int) - 1) = (d : Int) by rw [wr] <;> omega]
  have := hloop (n + 1) 0 (by omega) (by omega)
  simp only [List.take_zero, blX, List.append_nil] at this
  exact this
end Go.Ab.Y

namespace Go.Ab.Y
open Go Go.Ab Go.Proofs

section
variable {l : List Token}
theorem acc_yes {i n : Nat} {t : Token} {T R : List Token} {w : List UInt8} (hl : l.length ≤ 1000000000) (hA : At l i (t :: T) R) (h : isH [t] w = true) : F_w0 n w ⟨l, (i : Int)⟩ = some (true, ((i + 1 : Nat) : Int)) := by
 have := hA.lt
 rw [p_accept n l i w (by omega), hA.is, show isH ((t :: T) ++ R) w = true from h]; rfl
theorem acc_no {i n : Nat} {t : Token} {T R : List Token} {w : List UInt8} (hl : l.length ≤ 1000000000) (hA : At l i (t :: T) R) (h : isH [t] w = false) : F_w0 n w ⟨l, (i : Int)⟩ = some (false, ((i : Nat) : Int)) := by
 have := hA.lt
 rw [p_accept n l i w (by omega), hA.is, show isH ((t :: T) ++ R) w = false from h]; rfl
theorem exp_yes {i n : Nat} {t : Token} {T R : List Token} {w : List UInt8} (hl : l.length ≤ 1000000000) (hA : At l i (t :: T) R) (h : isH [t] w = true) : F_g0 n w ⟨l, (i : Int)⟩ = some (.ret () ((i + 1 : Nat) : Int)) := by
 have := hA.lt
 rw [p_expect n l i w (by omega) (by omega), hA.is, show isH ((t :: T) ++ R) w = true from h]; rfl
theorem end_yes {i n : Nat} {T R : List Token} {s : Stmt} (hl : l.length ≤ 1000000000) (hA : At l i (mkT [59] :: T) R) : F_y0 n s ⟨l, (i : Int)⟩ = some (.ret s ((i + 1 : Nat) : Int)) := by
 have := hA.lt
 rw [p_end n s l i (by omega) (by omega), hA.is]; rfl
theorem take_yes {i n : Nat} {t : Token} {T R : List Token} {kd : Int} (hl : l.length ≤ 1000000000) (hA : At l i (t :: T) R) (h : t.Kind = kd) : ∃ u : Token, F_r0 n kd ⟨l, (i : Int)⟩ = some (.ret u ((i + 1 : Nat) : Int)) ∧ u.Text = t.Text ∧ u.N = t.N := by
 have := hA.lt
 obtain ⟨h1, h2, h3⟩ := er_proj hA.hd
 refine ⟨l.getD i default, ?_, h2, h3⟩
 rw [p_take n l i kd hl (by omega), if_pos ⟨this, by rw [h1, h]⟩]
theorem ex_yes {i n : Nat} {e : Expr} {R : List Token} (hl : l.length ≤ 1000000000) (hg : GoodT l) (he : okT e) (hA : At l i (kE e) R) (hR : levH R < 1) (hn : 24 * l.length + 100 ≤ n) :
  F_a0 n 1 0 ⟨l, (i : Int)⟩ = some (.ret e ((i + (kE e).length : Nat) : Int)) := by
 have hge := lvN_ge e.Op
 have e1 : tkA e 1 = kE e := by unfold tkA pcA; rw [if_neg (by omega)]
 have hne := tkA_ne e 1 he.1
 have hE := (rd_all hl hg (hgt e) e (Nat.le_refl _) he.1).1 1 i 0 R (by omega) (by omega) (by rw [e1]; exact hA) hR (Or.inl (by have := he.2; omega))
 rw [e1] at hE hne
 have := hA.le hne
 exact hE n (by omega)
theorem retk {α : Type} {x : α} {a b : Nat} (h : a = b) : (some (.ret x (a : Int)) : Option (Pn α Int)) = some (.ret x (b : Int)) := by rw [h]
theorem stK_first {s : Stmt} {d : Nat} (h : okSt s d) (R : List Token) : isH (stK s ++ R) [125] = false ∧ isH (stK s ++ R) [101, 108, 115, 101] = false := by
 obtain ⟨_, hs, _, _⟩ := (okSt_eq _ _).1 h
 obtain ⟨Op, Name, Max, A, B, Body, Else⟩ := s
 rcases hs with ⟨ho, hq, hn, hA⟩ | ⟨hq, hA, hB⟩ | ⟨ho, hq, hA⟩ | ⟨hq, hA⟩ | ⟨hq, hn, hm, hA, hB⟩ | ⟨hq, hm⟩
 ·simp only at ho
  rcases ho with rfl | rfl <;> simp [stK, isH, kwT, nmT]
 ·simp only [Stmt.mk.injEq, true_and, and_true] at hq
  obtain ⟨rfl, rfl, rfl, rfl, rfl⟩ := hq
  simp [stK, isH, kwT, nmT]
 ·simp only at ho
  rcases ho with rfl | rfl <;> simp [stK, isH, kwT, nmT]
 ·simp only [Stmt.mk.injEq, true_and, and_true] at hq
  obtain ⟨rfl, rfl, rfl, rfl⟩ := hq
  simp [stK, isH, kwT, nmT]
 ·simp only [Stmt.mk.injEq, true_and, and_true] at hq
  obtain ⟨rfl, rfl⟩ := hq
  simp [stK, isH, kwT, nmT]
 ·simp only [Stmt.mk.injEq, true_and, and_true] at hq
  obtain ⟨rfl, rfl, rfl, rfl, rfl, rfl⟩ := hq
  simp [stK, isH, kwT, nmT]
theorem lev_semi (R : List Token) : levH (mkT [59] :: R) < 1 := by have : levH (mkT [59] :: R) = 0 := rfl; omega
theorem lev_eq (R : List Token) : levH (mkT [61] :: R) < 1 := by have : levH (mkT [61] :: R) = 0 := rfl; omega
theorem lev_open (R : List Token) : levH (mkT [123] :: R) < 1 := by have : levH (mkT [123] :: R) = 0 := rfl; omega
theorem lev_to (R : List Token) : levH (kwT [116, 111] :: R) < 1 := by have : levH (kwT [116, 111] :: R) = 0 := rfl; omega
theorem lev_max (R : List Token) : levH (kwT [109, 97, 120] :: R) < 1 := by have : levH (kwT [109, 97, 120] :: R) = 0 := rfl; omega
def PS (l : List Token) (n d i : Nat) (s : Stmt) : Prop := F_h0 n (d : Int) ⟨l, (i : Int)⟩ = some (.ret s ((i + (stK s).length : Nat) : Int))
def PB (l : List Token) (n d i : Nat) (b : List Stmt) : Prop := F_c0 n (d : Int) ⟨l, (i : Int)⟩ = some (.ret b ((i + (blK b).length + 2 : Nat) : Int))
theorem ps_let {i n d : Nat} {Name : List UInt8} {A : Expr} {R : List Token} (hl : l.length ≤ 1000000000) (hg : GoodT l) (hT : okT A) (hA : At l i (stK ⟨1, Name, 0, A, zE, [], []⟩) R) (hn : 24 * l.length + 100 ≤ n) : PS l (n + 1) d i ⟨1, Name, 0, A, zE, [], []⟩ := by
 have e : stK ⟨1, Name, 0, A, zE, [], []⟩ = kwT [108, 101, 116] :: nmT Name :: mkT [61] :: (kE A ++ [mkT [59]]) := by simp [stK]
 unfold PS
 rw [e] at hA ⊢
 have h1 := hA.tl1
 have h2 := h1.tl1
 have h3 := h2.tl1
 obtain ⟨u, t1, t2, t3⟩ := take_yes (n := n) (kd := 1) hl h1 rfl
 rw [ps_s]
 unfold B_h0
 rw [acc_yes hl hA rfl]
 simp only [bind_s, cond_true]
 rw [t1]
 simp only [bind_s, Pn.on]
 rw [exp_yes hl h2 rfl]
 simp only [bind_s, Pn.on]
 rw [ex_yes hl hg hT h3.asc (lev_semi _) hn]
 simp only [bind_s, Pn.on]
 rw [end_yes hl h3.tl]
 simp only [bind_s, Pn.on, eta_E, eta_S, t2]
 exact retk (by simp only [List.length_cons, List.length_append, List.length_nil]; omega)
theorem ps_set {i n d : Nat} {Name : List UInt8} {A : Expr} {R : List Token} (hl : l.length ≤ 1000000000) (hg : GoodT l) (hT : okT A) (hA : At l i (stK ⟨2, Name, 0, A, zE, [], []⟩) R) (hn : 24 * l.length + 100 ≤ n) : PS l (n + 1) d i ⟨2, Name, 0, A, zE, [], []⟩ := by
 have e : stK ⟨2, Name, 0, A, zE, [], []⟩ = nmT Name :: mkT [61] :: (kE A ++ [mkT [59]]) := by simp [stK]
 unfold PS
 rw [e] at hA ⊢
 have h2 := hA.tl1
 have h3 := h2.tl1
 obtain ⟨u, t1, t2, t3⟩ := take_yes (n := n) (kd := 1) hl hA rfl
 rw [ps_s]
 unfold B_h0
 simp only [acc_no hl hA (show isH [nmT Name] _ = false from rfl), bind_s, cond_false]
 rw [t1]
 simp only [bind_s, Pn.on]
 rw [exp_yes hl h2 rfl]
 simp only [bind_s, Pn.on]
 rw [ex_yes hl hg hT h3.asc (lev_semi _) hn]
 simp only [bind_s, Pn.on]
 rw [end_yes hl h3.tl]
 simp only [bind_s, Pn.on, eta_E, eta_S, t2]
 exact retk (by simp only [List.length_cons, List.length_append, List.length_nil]; omega)
theorem ps_put {i n d : Nat} {A B : Expr} {R : List Token} (hl : l.length ≤ 1000000000) (hg : GoodT l) (hT : okT A) (hU : okT B) (hA : At l i (stK ⟨3, [], 0, A, B, [], []⟩) R) (hn : 24 * l.length + 100 ≤ n) : PS l (n + 1) d i ⟨3, [], 0, A, B, [], []⟩ := by
 have e : stK ⟨3, [], 0, A, B, [], []⟩ = kwT [112, 117, 116] :: (kE A ++ mkT [61] :: (kE B ++ [mkT [59]])) := by simp [stK]
 unfold PS
 rw [e] at hA ⊢
 have h1 := hA.tl1
 have h2 := h1.tl
 have h3 := h2.tl1
 rw [ps_s]
 unfold B_h0
 rw [acc_no hl hA rfl]
 simp only [bind_s, cond_false]
 rw [acc_yes hl hA rfl]
 simp only [bind_s, cond_true]
 rw [ex_yes hl hg hT h1.asc (lev_eq _) hn]
 simp only [bind_s, Pn.on]
 rw [exp_yes hl h2 rfl]
 simp only [bind_s, Pn.on]
 rw [ex_yes hl hg hU h3.asc (lev_semi _) hn]
 simp only [bind_s, Pn.on]
 rw [end_yes hl h3.tl]
 simp only [bind_s, Pn.on, eta_E, eta_S]
 exact retk (by simp only [List.length_cons, List.length_append, List.length_nil]; omega)
theorem ps_del {i n d : Nat} {A : Expr} {R : List Token} (hl : l.length ≤ 1000000000) (hg : GoodT l) (hT : okT A) (hA : At l i (stK ⟨4, [], 0, A, zE, [], []⟩) R) (hn : 24 * l.length + 100 ≤ n) : PS l (n + 1) d i ⟨4, [], 0, A, zE, [], []⟩ := by
 have e : stK ⟨4, [], 0, A, zE, [], []⟩ = kwT [100, 101, 108, 101, 116, 101] :: (kE A ++ [mkT [59]]) := by simp [stK]
 unfold PS
 rw [e] at hA ⊢
 have h1 := hA.tl1
 rw [ps_s]
 unfold B_h0
 rw [acc_no hl hA rfl]
 simp only [bind_s, cond_false]
 rw [acc_no hl hA rfl]
 simp only [bind_s, cond_false]
 rw [acc_yes hl hA rfl]
 simp only [bind_s, cond_true]
 rw [ex_yes hl hg hT h1.asc (lev_semi _) hn]
 simp only [bind_s, Pn.on]
 rw [end_yes hl h1.tl]
 simp only [bind_s, Pn.on, eta_E, eta_S]
 exact retk (by simp only [List.length_cons, List.length_append, List.length_nil]; omega)
theorem ps_emit {i n d : Nat} {A : Expr} {R : List Token} (hl : l.length ≤ 1000000000) (hg : GoodT l) (hT : okT A) (hA : At l i (stK ⟨7, [], 0, A, zE, [], []⟩) R) (hn : 24 * l.length + 100 ≤ n) : PS l (n + 1) d i ⟨7, [], 0, A, zE, [], []⟩ := by
 have e : stK ⟨7, [], 0, A, zE, [], []⟩ = kwT [101, 109, 105, 116] :: (kE A ++ [mkT [59]]) := by simp [stK]
 unfold PS
 rw [e] at hA ⊢
 have h1 := hA.tl1
 rw [ps_s]
 unfold B_h0
 rw [acc_no hl hA rfl]
 simp only [bind_s, cond_false]
 rw [acc_no hl hA rfl]
 simp only [bind_s, cond_false]
 rw [acc_no hl hA rfl]
 simp only [bind_s, cond_false]
 rw [acc_yes hl hA rfl]
 simp only [bind_s, cond_true]
 rw [ex_yes hl hg hT h1.asc (lev_semi _) hn]
 simp only [bind_s, Pn.on]
 rw [end_yes hl h1.tl]
 simp only [bind_s, Pn.on, eta_E, eta_S]
 exact retk (by simp only [List.length_cons, List.length_append, List.length_nil]; omega)
theorem ps_abort {i n d : Nat} {Max : Int} {R : List Token} (hl : l.length ≤ 1000000000) (hA : At l i (stK ⟨8, [], Max, zE, zE, [], []⟩) R) : PS l (n + 1) d i ⟨8, [], Max, zE, zE, [], []⟩ := by
 have e : stK ⟨8, [], Max, zE, zE, [], []⟩ = [kwT [97, 98, 111, 114, 116], inT Max, mkT [59]] := by simp [stK]
 unfold PS
 rw [e] at hA ⊢
 have h1 := hA.tl1
 have h2 := h1.tl1
 obtain ⟨u, t1, t2, t3⟩ := take_yes (n := n) (kd := 3) hl h1 rfl
 rw [ps_s]
 unfold B_h0
 rw [acc_no hl hA rfl]
 simp only [bind_s, cond_false]
 rw [acc_no hl hA rfl]
 simp only [bind_s, cond_false]
 rw [acc_no hl hA rfl]
 simp only [bind_s, cond_false]
 rw [acc_no hl hA rfl]
 simp only [bind_s, cond_false]
 rw [acc_yes hl hA rfl]
 simp only [bind_s, cond_true]
 rw [t1]
 simp only [bind_s, Pn.on]
 rw [end_yes hl h2]
 simp only [bind_s, Pn.on, eta_E, eta_S, t3]
 exact retk (by simp only [List.length_cons, List.length_append, List.length_nil])
end
end Go.Ab.Y

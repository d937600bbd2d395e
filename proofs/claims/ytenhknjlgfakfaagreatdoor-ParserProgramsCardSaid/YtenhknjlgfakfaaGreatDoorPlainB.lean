/- The plain law: what the functions compute answers as the statement says. -/
import Derived.Test.YtenhknjlgfakfaaGreatDoorPlainA
namespace Go.Ab.Y
open Go Go.Ab Go.Proofs
set_option linter.unusedVariables false
set_option linter.unusedSimpArgs false

theorem ast_shape (n : Nat) (s : Stmt) (u : ast_uses) : F_do0 n s u = some (!misS s u && maxS s) := by
  have hm : (bif decide (s.Op = 6) then some (bif decide (1 ≤ s.Max) then decide (s.Max ≤ 16) else false) else bif decide (s.Op = 8) then some (bif decide (0 ≤ s.Max) then decide (s.Max ≤ 999) else false) else some true) = some (maxS s) := by
    unfold maxS
    by_cases h6 : s.Op = 6
    · simp only [h6, decide_true, cond_true, if_true, cond_and]
    · by_cases h8 : s.Op = 8
      · simp only [h8, show ¬ (8 : Int) = 6 by omega, decide_true, decide_false, cond_true, cond_false, if_true, if_false, cond_and]
      · simp only [h6, h8, decide_false, cond_false, if_false]
  unfold F_do0 misS
  rw [hm]
  simp only [ast_absent, eta_E, cond_and, cond_or, lit_lt]
  generalize decide (s.Name = []) = x
  generalize abS s.A = y
  generalize abS s.B = z
  generalize decide (s.Max = 0) = w
  generalize decide (0 < s.Body.length) = p
  generalize decide (0 < s.Else.length) = q
  generalize maxS s = r
  obtain ⟨nm, a, b, mx, bd, ot⟩ := u
  cases nm <;> cases x <;> cases a <;> cases y <;> cases b <;> cases z <;> simp only [Bool.not_true, Bool.not_false, Bool.and_true, Bool.and_false, Bool.true_and, Bool.false_and, Bool.or_true, Bool.or_false, Bool.true_or, Bool.false_or, cond_true, cond_false, bind_s] <;> (cases ((!mx && !w) || (!bd && p) || (!ot && q)) <;> simp_all)
theorem ast_statement {n : Nat} (s : Stmt) (d : Int) (hA : fu s.A ≤ n) (hB : fu s.B ≤ n) (hA2 : fu s.A ≤ 140737488351232) (hB2 : fu s.B ≤ 140737488351232) (hN : s.Name.length ≤ 140737488351232) : F_bg0 n s d = some (stS s d) := by
  unfold F_bg0 F_bg0_j1 F_bg0_j2 stS
  simp only [ast_usesOf, bind_s, eta_E, eta_S, ast_shape, lexer_IsName n s.Name hN, ast_ValidExpr s.A hA hA2, ast_ValidExpr s.B hB hB2]
  generalize (uS s.Op) = U
  obtain ⟨u, kn⟩ := U
  obtain ⟨nm, a, b, mx, bd, ot⟩ := u
  simp only
  generalize misS s ⟨nm, a, b, mx, bd, ot⟩ = m
  generalize maxS s = r
  cases kn
  · simp
  · cases m
    · cases r
      · simp
      · generalize nameS s.Name = x
        simp only [Bool.not_true, Bool.not_false, cond_true, cond_false, bind_s, Bool.true_and, Bool.and_true, Bool.true_eq_false, Bool.false_eq_true, or_self, if_false]
        cases nm
        · simp only [cond_false, bind_s, Bool.false_eq_true, false_and, if_false]
          cases a
          · simp only [cond_false, Bool.false_eq_true, false_and, if_false]
            cases b
            · by_cases h12 : 12 < d <;> simp [h12]
            · by_cases hb : vaS s.B 1 = 0 <;> by_cases h12 : 12 < d <;> simp [hb, h12]
          · by_cases ha : vaS s.A 1 = 0
            · cases b
              · by_cases h12 : 12 < d <;> simp [ha, h12]
              · by_cases hb : vaS s.B 1 = 0 <;> by_cases h12 : 12 < d <;> simp [ha, hb, h12]
            · simp [ha]
        · cases x
          · simp
          · simp only [cond_true, bind_s, Bool.not_true, cond_false, Bool.true_eq_false, and_false, if_false]
            cases a
            · simp only [cond_false, Bool.false_eq_true, false_and, if_false]
              cases b
              · by_cases h12 : 12 < d <;> simp [h12]
              · by_cases hb : vaS s.B 1 = 0 <;> by_cases h12 : 12 < d <;> simp [hb, h12]
            · by_cases ha : vaS s.A 1 = 0
              · cases b
                · by_cases h12 : 12 < d <;> simp [ha, h12]
                · by_cases hb : vaS s.B 1 = 0 <;> by_cases h12 : 12 < d <;> simp [ha, hb, h12]
              · simp [ha]
    · simp
theorem maxS_not (s : Stmt) : ((decide (s.Op = 6) && (decide (s.Max < 1) || decide (16 < s.Max))) || (decide (s.Op = 8) && (decide (s.Max < 0) || decide (999 < s.Max)))) = !maxS s := by
  unfold maxS
  by_cases h6 : s.Op = 6
  · simp only [h6, if_true, decide_true, Bool.true_and, show ¬ (6 : Int) = 8 by omega, decide_false, Bool.false_and, Bool.or_false]
    by_cases h1 : s.Max < 1
    · simp only [h1, show ¬ 1 ≤ s.Max by omega, decide_true, decide_false, Bool.true_or, Bool.false_and, Bool.not_false]
    · by_cases h2 : 16 < s.Max
      · simp only [h1, h2, show ¬ s.Max ≤ 16 by omega, decide_true, decide_false, Bool.or_true, Bool.and_false, Bool.not_false]
      · simp only [h1, h2, show s.Max ≤ 16 by omega, show 1 ≤ s.Max by omega, decide_true, decide_false, Bool.or_self, Bool.and_self, Bool.not_true]
  · by_cases h8 : s.Op = 8
    · simp only [h8, show ¬ (8 : Int) = 6 by omega, if_true, if_false, decide_true, decide_false, Bool.true_and, Bool.false_and, Bool.false_or]
      by_cases h1 : s.Max < 0
      · simp only [h1, show ¬ 0 ≤ s.Max by omega, decide_true, decide_false, Bool.true_or, Bool.false_and, Bool.not_false]
      · by_cases h2 : 999 < s.Max
        · simp only [h1, h2, show ¬ s.Max ≤ 999 by omega, decide_true, decide_false, Bool.or_true, Bool.and_false, Bool.not_false]
        · simp only [h1, h2, show s.Max ≤ 999 by omega, show 0 ≤ s.Max by omega, decide_true, decide_false, Bool.or_self, Bool.and_self, Bool.not_true]
    · simp only [h6, h8, if_false, decide_false, Bool.false_and, Bool.or_self, Bool.not_true]
theorem boolL (a y b z pre P Q : Bool) (G : Bool → Option Int) :
    (Option.bind (bif (!pre && !a) then some y else some default) fun r2 => Option.bind (bif (!(pre || (!a && !r2)) && !b) then some z else some default) fun r3 => G ((((pre || (!a && !r2)) || (!b && !r3)) || P) || Q)) = G ((((pre || (!a && !y)) || (!b && !z)) || P) || Q) := by
  cases pre <;> cases a <;> cases y <;> cases b <;> cases z <;> rfl
theorem ref08_stmt {n : Nat} (s : Stmt) (d : Int) (hn : 25 < n) (hA : fu s.A ≤ n) (hB : fu s.B ≤ n) (hA2 : fu s.A ≤ 140737488351232) (hB2 : fu s.B ≤ 140737488351232) (hN : s.Name.length < n) (hN2 : s.Name.length ≤ 140737488351232) : F_bu0 n s d = some (stS s d) := by
  unfold F_bu0 F_bu0_j1 F_bu0_j2 stS
  by_cases hop : 1 ≤ s.Op ∧ s.Op ≤ 8
  · have hkn : (uS s.Op).2 = true := by
      have : s.Op = 1 ∨ s.Op = 2 ∨ s.Op = 3 ∨ s.Op = 4 ∨ s.Op = 5 ∨ s.Op = 6 ∨ s.Op = 7 ∨ s.Op = 8 := by omega
      rcases this with e | e | e | e | e | e | e | e <;> rw [e] <;> rfl
    simp only [ref08_uses n s.Op hop, bind_s, eta_E, eta_S, ref08_Absent, ref07_IsName s.Name hN hn (by omega), ref08_ValidExpr s.A hA hA2, ref08_ValidExpr s.B hB hB2, hkn, show ¬ s.Op < 1 by omega, show ¬ 8 < s.Op by omega, decide_false, cond_false, cond_and, cond_or, Bool.or_self, Bool.false_or, maxS_not, lit_lt]
    generalize maxS s = r
    unfold misS
    generalize (uS s.Op).1 = u
    generalize decide (s.Name = []) = x0
    generalize abS s.A = y
    generalize abS s.B = z
    generalize decide (s.Max = 0) = w
    generalize decide (0 < s.Body.length) = p
    generalize decide (0 < s.Else.length) = q
    generalize nameS s.Name = x
    obtain ⟨nm, a, b, mx, bd, ot⟩ := u
    simp only
    have hm : ((!nm && !x0) || (!a && !y) || (!b && !z) || (!mx && !w) || (!bd && p) || (!ot && q)) = ((((((!nm && !x0) || (!mx && !w)) || (!a && !y)) || (!b && !z)) || (!bd && p)) || (!ot && q)) := by
      generalize (!nm && !x0) = c1
      generalize (!mx && !w) = c2
      generalize (!a && !y) = c3
      generalize (!b && !z) = c4
      cases c1 <;> cases c2 <;> cases c3 <;> cases c4 <;> rfl
    rw [hm]
    clear hm
    generalize ((!nm && !x0) || (!mx && !w)) = pre
    generalize (!bd && p) = c1
    generalize (!ot && q) = c2
    refine (boolL a y b z pre c1 c2 (fun c => bif c then some 1 else bif !r then some 1 else Option.bind (bif nm then some x else some default) fun r6 => bif (nm && !r6) then some 7 else
      bif a then (bif !decide (vaS s.A 1 = 0) then some (vaS s.A 1) else bif b then (bif !decide (vaS s.B 1 = 0) then some (vaS s.B 1) else bif decide (12 < d) then some 2 else some 0) else bif decide (12 < d) then some 2 else some 0)
      else bif b then (bif !decide (vaS s.B 1 = 0) then some (vaS s.B 1) else bif decide (12 < d) then some 2 else some 0) else bif decide (12 < d) then some 2 else some 0)).trans ?_
    generalize ((((pre || (!a && !y)) || (!b && !z)) || c1) || c2) = m
    cases m
    · cases r
      · simp
      · simp only [Bool.not_true, Bool.not_false, cond_true, cond_false, bind_s, Bool.true_and, Bool.and_true, Bool.true_eq_false, Bool.false_eq_true, or_self, if_false]
        cases nm
        · simp only [cond_false, bind_s, Bool.false_eq_true, false_and, if_false, Bool.false_and]
          cases a
          · simp only [cond_false, Bool.false_eq_true, false_and, if_false]
            cases b
            · by_cases h12 : 12 < d <;> simp [h12]
            · by_cases hb : vaS s.B 1 = 0 <;> by_cases h12 : 12 < d <;> simp [hb, h12]
          · by_cases ha : vaS s.A 1 = 0
            · cases b
              · by_cases h12 : 12 < d <;> simp [ha, h12]
              · by_cases hb : vaS s.B 1 = 0 <;> by_cases h12 : 12 < d <;> simp [ha, hb, h12]
            · simp [ha]
        · cases x
          · simp
          · simp only [cond_true, bind_s, Bool.not_true, cond_false, Bool.true_eq_false, and_false, if_false, Bool.and_false]
            cases a
            · simp only [cond_false, Bool.false_eq_true, false_and, if_false]
              cases b
              · by_cases h12 : 12 < d <;> simp [h12]
              · by_cases hb : vaS s.B 1 = 0 <;> by_cases h12 : 12 < d <;> simp [hb, h12]
            · by_cases ha : vaS s.A 1 = 0
              · cases b
                · by_cases h12 : 12 < d <;> simp [ha, h12]
                · by_cases hb : vaS s.B 1 = 0 <;> by_cases h12 : 12 < d <;> simp [ha, hb, h12]
              · simp [ha]
    · simp
  · have hkn : (uS s.Op).2 = false := by
      unfold uS
      rw [if_neg (by omega), if_neg (by omega), if_neg (by omega), if_neg (by omega), if_neg (by omega), if_neg (by omega)]
    have hb : (decide (s.Op < 1) || decide (8 < s.Op)) = true := by
      by_cases h1 : s.Op < 1
      · rw [decide_eq_true h1]; rfl
      · rw [decide_eq_true (show 8 < s.Op by omega)]; simp
    simp only [ref08_uses_bad n s.Op hop, bind_s, hkn, hb, cond_or, cond_and, Bool.true_or, Bool.not_true, Bool.false_and, cond_false, cond_true, true_or, if_true]
end Go.Ab.Y

namespace Go.Ab.Y
open Go Go.Ab Go.Proofs
set_option linter.unusedVariables false
set_option linter.unusedSimpArgs false

/-- The error of parameters behind those that are read. -/
def paS (before : List Param) : List Param → Int
  | [] => 0
  | x :: l => if nameS x.Name = false then 7 else if x.Type_ < 1 ∨ 3 < x.Type_ then 10 else if (before.any fun y => decide (y.Name = x.Name)) = true then 8 else paS (before ++ [x]) l
theorem index_l2 (n : Nat) (s : List Param) (b : Param) (hs : s.length ≤ 4611686018427387904) : ∀ m i, s.length < i + m → i ≤ s.length →
    ∃ r, F_ag0_l2 n s b m (i : Int) = some r ∧ (decide (0 ≤ r) = (s.drop i).any fun y => decide (y.Name = b.Name)) := by
  intro m
  induction m with
  | zero => intro i h h2; omega
  | succ m ih =>
    intro i hm hi
    simp only [F_ag0_l2, F_ag0_b2, F_ag0_j1, F_df0]
    by_cases h : i < s.length
    · obtain ⟨r, h1, h2⟩ := ih (i + 1) (by omega) (by omega)
      rw [drop_get s i default h, wr_s (by omega), Int.toNat_natCast, h1]
      generalize s.getD i default = c
      simp only [h, inB_n h, Int.ofNat_lt, decide_true, cond_true, ass_t, bind_s, List.any_cons]
      by_cases hc : c.Name = b.Name
      · simp only [hc, decide_true, cond_true, Bool.true_or]
        exact ⟨_, rfl, decide_eq_true (by omega)⟩
      · simp only [hc, decide_false, cond_false, Bool.false_or]
        exact ⟨r, rfl, h2⟩
    · rw [drop_end s i h]
      simp only [h, Int.ofNat_lt, decide_false, cond_false]
      exact ⟨-1, rfl, rfl⟩
theorem contains_p {n : Nat} (s : List Param) (b : Param) (hs : s.length ≤ 4611686018427387904) (hn : s.length < n) : F_bt0 n s b = some (s.any fun y => decide (y.Name = b.Name)) := by
  unfold F_bt0 F_ag0
  obtain ⟨r, h1, h2⟩ := index_l2 n s b hs n 0 (by omega) (by omega)
  rw [show F_ag0_l2 n s b n 0 = _ from h1, bind_s, h2, List.drop_zero]
theorem take_s {α : Type} [Inhabited α] (l : List α) (i : Nat) (h : i < l.length) : l.take (i + 1) = l.take i ++ [l.getD i default] := by
  rw [List.take_add, drop_get l i default h, List.take_succ_cons, List.take_zero]
theorem fps_get : ∀ (l : List Param) (i : Nat), i < l.length → (l.getD i default).Name.length < fps l
  | [], i, h => by simp at h
  | x :: l, 0, h => by simp only [fps, List.getD_cons_zero]; omega
  | x :: l, i + 1, h => by have := fps_get l i (by simpa using h); simp only [fps, List.getD_cons_succ]; omega
theorem ast_params_l2 (n : Nat) (l : List Param) (hf : fps l < n) (hf2 : fps l ≤ 140737488351232) : ∀ m i, l.length < i + m → i ≤ l.length → F_bf0_l2 n l m (i : Int) = some (paS (l.take i) (l.drop i)) := by
  have hlen := fps_len l
  intro m
  induction m with
  | zero => intro i h h2; omega
  | succ m ih =>
    intro i hm hi
    simp only [F_bf0_l2, F_bf0_b2, F_bf0_j1]
    by_cases h : i < l.length
    · have hg := fps_get l i h
      rw [drop_get l i default h, wr_s (by omega), Int.toNat_natCast, ih (i + 1) (by omega) (by omega), take_s l i h]
      generalize l.getD i default = c at hg
      rw [lexer_IsName n c.Name (by omega), contains_p (l.take i) c (by simp; omega) (by simp; omega)]
      simp only [h, inB_n h, Int.ofNat_lt, decide_true, cond_true, ass_t, bind_s, upB_n hi, cond_or, paS]
      cases nameS c.Name
      · simp
      · by_cases ht : c.Type_ < 1 ∨ 3 < c.Type_
        · have : (decide (c.Type_ < 1) || decide (3 < c.Type_)) = true := by rcases ht with ht | ht <;> rw [decide_eq_true ht] <;> simp
          simp [this, ht]
        · have : (decide (c.Type_ < 1) || decide (3 < c.Type_)) = false := by rw [decide_eq_false (fun e => ht (Or.inl e)), decide_eq_false (fun e => ht (Or.inr e))]; rfl
          rw [this]
          simp only [Bool.not_true, cond_false, Bool.true_eq_false, if_false, ht]
          cases ((l.take i).any fun y => decide (y.Name = c.Name)) <;> rfl
    · rw [drop_end l i h]
      simp only [h, Int.ofNat_lt, decide_false, cond_false]
      rfl
theorem ref08_params_l4 (n : Nat) (k2 : Int → Option Int) (l : List Param) (i : Nat) (h : i < l.length) (hs : l.length ≤ 4611686018427387904) : ∀ m k, i < k + m → k ≤ i →
    F_ad0_l4 n k2 l (i : Int) m (k : Int) = if (((l.take i).drop k).any fun y => decide (y.Name = (l.getD i default).Name)) = true then some 8 else k2 ((i + 1 : Nat) : Int) := by
  intro m
  induction m with
  | zero => intro k h1 h2; omega
  | succ m ih =>
    intro k hm hk
    simp only [F_ad0_l4, F_ad0_b4, F_ad0_j3]
    by_cases hki : k < i
    · have e : (l.take i).drop k = l.getD k default :: (l.take i).drop (k + 1) := by
        rw [drop_get (l.take i) k default (by simp; omega)]
        congr 1
        simp [List.getD, hki]
      rw [e, wr_s (by omega), ih (k + 1) (by omega) (by omega), Int.toNat_natCast, Int.toNat_natCast]
      generalize l.getD k default = c
      simp only [hki, inB_n h, inB_n (show k < l.length by omega), Int.ofNat_lt, decide_true, cond_true, ass_t, List.any_cons]
      by_cases hc : c.Name = (l.getD i default).Name
      · simp only [hc, decide_true, cond_true, Bool.true_or, if_true]
      · simp only [hc, decide_false, cond_false, Bool.false_or]
    · obtain rfl : k = i := by omega
      rw [drop_end (l.take k) k (by simp; omega), wr_s (by omega)]
      simp only [Int.ofNat_lt, Nat.lt_irrefl, decide_false, cond_false, List.any_nil, Bool.false_eq_true, if_false]
theorem ref08_params_l2 (n : Nat) (l : List Param) (hn : 25 < n) (hf : fps l < n) (hf2 : fps l ≤ 140737488351232) : ∀ m i, l.length < i + m → i ≤ l.length → F_ad0_l2 n l m (i : Int) = some (paS (l.take i) (l.drop i)) := by
  have hlen := fps_len l
  intro m
  induction m with
  | zero => intro i h h2; omega
  | succ m ih =>
    intro i hm hi
    simp only [F_ad0_l2, F_ad0_b2, F_ad0_j1]
    by_cases h : i < l.length
    · have hg := fps_get l i h
      have h4 := ref08_params_l4 n (F_ad0_l2 n l m) l i h (by omega) n 0 (by omega) (by omega)
      rw [show F_ad0_l4 n (F_ad0_l2 n l m) l (i : Int) n 0 = _ from h4, List.drop_zero]
      rw [drop_get l i default h, Int.toNat_natCast, ih (i + 1) (by omega) (by omega), take_s l i h]
      generalize l.getD i default = c at hg
      rw [ref07_IsName c.Name (by omega) hn (by omega)]
      simp only [h, inB_n h, Int.ofNat_lt, decide_true, cond_true, ass_t, bind_s, Bool.or_true, cond_or, paS]
      cases nameS c.Name
      · simp
      · by_cases ht : c.Type_ < 1 ∨ 3 < c.Type_
        · have : (decide (c.Type_ < 1) || decide (3 < c.Type_)) = true := by rcases ht with ht | ht <;> rw [decide_eq_true ht] <;> simp
          simp [this, ht]
        · have : (decide (c.Type_ < 1) || decide (3 < c.Type_)) = false := by rw [decide_eq_false (fun e => ht (Or.inl e)), decide_eq_false (fun e => ht (Or.inr e))]; rfl
          rw [this]
          simp only [Bool.not_true, cond_false, Bool.true_eq_false, if_false, ht]
          cases ((l.take i).any fun y => decide (y.Name = c.Name)) <;> rfl
    · rw [drop_end l i h]
      simp only [h, Int.ofNat_lt, decide_false, cond_false]
      rfl
/-- The error of a list of parameters. -/
def parsS (l : List Param) : Int := if 6 < l.length then 2 else paS [] l
theorem ast_params {n : Nat} (l : List Param) (hf : fps l < n) (hf2 : fps l ≤ 140737488351232) : F_bf0 n l = some (parsS l) := by
  have hlen := fps_len l
  unfold F_bf0 parsS
  have := ast_params_l2 n l hf hf2 n 0 (by omega) (by omega)
  rw [show F_bf0_l2 n l n 0 = _ from this]
  simp only [lit_lt]
  by_cases h : 6 < l.length
  · simp only [h, decide_true, cond_true, if_true]
  · simp only [h, decide_false, cond_false, if_false, List.take_zero, List.drop_zero]
theorem ref08_params {n : Nat} (l : List Param) (hn : 25 < n) (hf : fps l < n) (hf2 : fps l ≤ 140737488351232) : F_ad0 n l = some (parsS l) := by
  have hlen := fps_len l
  unfold F_ad0 parsS
  have := ref08_params_l2 n l hn hf hf2 n 0 (by omega) (by omega)
  rw [show F_ad0_l2 n l n 0 = _ from this]
  simp only [lit_lt]
  by_cases h : 6 < l.length
  · simp only [h, decide_true, cond_true, if_true]
  · simp only [h, decide_false, cond_false, if_false, List.take_zero, List.drop_zero]
end Go.Ab.Y

namespace Go.Ab.Y
open Go Go.Ab Go.Proofs
set_option linter.unusedVariables false
set_option linter.unusedSimpArgs false

mutual
/-- How many nodes may still be visited behind a tree. -/
def weS : Expr → Nat → Nat
  | ⟨_, _, _, Args⟩, k => if k = 0 then 0 else wesS Args (k - 1)
def wesS : List Expr → Nat → Nat
  | [], k => k
  | x :: l, k => wesS l (weS x k)
end
theorem weS_eq (e : Expr) (k : Nat) : weS e k = if k = 0 then 0 else wesS e.Args (k - 1) := by cases e; rfl
mutual
theorem weS_le : ∀ (e : Expr) (k : Nat), weS e k ≤ k
  | ⟨_, _, _, Args⟩, k => by
    have := wesS_le Args (k - 1)
    simp only [weS]; split <;> omega
theorem wesS_le : ∀ (l : List Expr) (k : Nat), wesS l k ≤ k
  | [], k => Nat.le_refl _
  | x :: l, k => by
    have h1 := weS_le x k
    have h2 := wesS_le l (weS x k)
    simp only [wesS]; omega
end
def wfS (e : Expr) (k : Nat) : Nat := if k = 0 ∨ abS e = true then k else weS e k
theorem wfS_le (e : Expr) (k : Nat) : wfS e k ≤ k := by unfold wfS; split; exact Nat.le_refl _; exact weS_le e k
mutual
/-- The walk over statements: how many nodes are left, and the first error. -/
def wsS : Stmt → Int → Nat × Int → Nat × Int
  | ⟨Op, Name, Max, A, B, Body, Else⟩, d, r =>
    wbS Else (IntKind.i64.wrap (d + 1)) (wbS Body (IntKind.i64.wrap (d + 1)) (wfS B (wfS A (r.1 - 1)), if r.2 = 0 then stS ⟨Op, Name, Max, A, B, Body, Else⟩ d else r.2))
def wbS : List Stmt → Int → Nat × Int → Nat × Int
  | [], d, r => r
  | s :: l, d, r => if r.1 = 0 then r else wbS l d (wsS s d r)
end
theorem wsS_eq (s : Stmt) (d : Int) (r : Nat × Int) : wsS s d r = wbS s.Else (IntKind.i64.wrap (d + 1)) (wbS s.Body (IntKind.i64.wrap (d + 1)) (wfS s.B (wfS s.A (r.1 - 1)), if r.2 = 0 then stS s d else r.2)) := by cases s; rfl
mutual
theorem wsS_le : ∀ (s : Stmt) (d : Int) (r : Nat × Int), (wsS s d r).1 ≤ r.1
  | ⟨Op, Name, Max, A, B, Body, Else⟩, d, r => by
    have h1 := wfS_le A (r.1 - 1)
    have h2 := wfS_le B (wfS A (r.1 - 1))
    have h3 := wbS_le Body (IntKind.i64.wrap (d + 1)) (wfS B (wfS A (r.1 - 1)), if r.2 = 0 then stS ⟨Op, Name, Max, A, B, Body, Else⟩ d else r.2)
    have h4 := wbS_le Else (IntKind.i64.wrap (d + 1)) (wbS Body (IntKind.i64.wrap (d + 1)) (wfS B (wfS A (r.1 - 1)), if r.2 = 0 then stS ⟨Op, Name, Max, A, B, Body, Else⟩ d else r.2))
    simp only [wsS] at *; omega
theorem wbS_le : ∀ (l : List Stmt) (d : Int) (r : Nat × Int), (wbS l d r).1 ≤ r.1
  | [], d, r => Nat.le_refl _
  | s :: l, d, r => by
    have h1 := wsS_le s d r
    have h2 := wbS_le l d (wsS s d r)
    simp only [wbS]; split
    · exact Nat.le_refl _
    · omega
end
theorem walker_expr : ∀ (n : Nat) (e : Expr) (k : Nat) (b : Int), fu e ≤ n → fu e ≤ 140737488351232 → k ≤ 1000 → F_ab0 n e (k : Int) b = some ((weS e k : Nat) : Int) := by
  intro n
  induction n with
  | zero => intro e k b h; rw [fu_eq] at h; omega
  | succ n ih =>
    intro e k b h hl hk
    have hfe := fu_eq e
    have hal := fus_len e.Args
    simp only [F_ab0, B_ab0, eq_lit]
    rw [weS_eq]
    by_cases h0 : k = 0
    · rw [if_pos h0]; simp only [h0, decide_true, cond_true]
    · rw [if_neg h0]
      simp only [h0, decide_false, cond_false]
      have hloop : ∀ m i k, e.Args.length < i + m → i ≤ e.Args.length → k ≤ 1000 → F_ab0_l1 n (F_ab0 n) e b m ((k : Nat) : Int) (i : Int) = some ((wesS (e.Args.drop i) k : Nat) : Int) := by
        intro m
        induction m with
        | zero => intro i k h1 h2; omega
        | succ m ihm =>
          intro i k h1 h2 hk
          simp only [F_ab0_l1, F_ab0_b1]
          by_cases hi : i < e.Args.length
          · have hg := fus_get e.Args i hi
            have hle := weS_le (e.Args.getD i default) k
            rw [drop_get e.Args i default hi, wr_s (by omega), Int.toNat_natCast, ih _ k b (by omega) (by omega) hk]
            simp only [hi, inB_n hi, Int.ofNat_lt, decide_true, cond_true, ass_t, bind_s, wesS]
            exact ihm (i + 1) _ (by omega) (by omega) (by omega)
          · rw [drop_end e.Args i hi]
            simp only [hi, Int.ofNat_lt, decide_false, cond_false, wesS]
      rw [show IntKind.i64.wrap ((k : Int) - 1) = ((k - 1 : Nat) : Int) by rw [wr] <;> omega]
      exact hloop n 0 (k - 1) (by omega) (by omega) (by omega)
theorem walker_first {n : Nat} (e : Expr) (k : Nat) (b : Int) (h : fu e ≤ n) (hl : fu e ≤ 140737488351232) (hk : k ≤ 1000) : F_cf0 n e (k : Int) b = some ((wfS e k : Nat) : Int) := by
  unfold F_cf0 wfS F_dp0
  simp only [ast_absent, eq_lit, walker_expr n e k b h hl hk, bind_s]
  by_cases h0 : k = 0
  · simp [h0]
  · cases abS e <;> simp [h0]
end Go.Ab.Y

namespace Go.Ab.Y
open Go Go.Ab Go.Proofs
set_option linter.unusedVariables false
set_option linter.unusedSimpArgs false

theorem fss_get : ∀ (l : List Stmt) (i : Nat), i < l.length → fst (l.getD i default) < fss l
  | [], i, h => by simp at h
  | x :: l, 0, h => by simp only [fss, List.getD_cons_zero]; omega
  | x :: l, i + 1, h => by have := fss_get l i (by simpa using h); simp only [fss, List.getD_cons_succ]; omega
theorem pair_eta {α β : Type} (x : α × β) : (x.1, x.2) = x := rfl
theorem walker_block : ∀ (n : Nat) (l : List Stmt) (d : Int) (k : Nat) (e : Int), fss l + 2 ≤ n → fss l ≤ 140737488351232 → k ≤ 1000 →
    F_w0 n l d (k : Int) e = some ((((wbS l d (k, e)).1 : Nat) : Int), (wbS l d (k, e)).2) := by
  intro n
  induction n with
  | zero => intro l d k e h; omega
  | succ n ih =>
    intro l d k e h hl hk
    have hal := fss_len l
    simp only [F_w0, B_w0]
    have hloop : ∀ m i k e, l.length < i + m → i ≤ l.length → k ≤ 1000 → F_w0_l1 n (F_w0 n) d l m ((k : Nat) : Int) e (i : Int) = some ((((wbS (l.drop i) d (k, e)).1 : Nat) : Int), (wbS (l.drop i) d (k, e)).2) := by
      intro m
      induction m with
      | zero => intro i k e h1 h2; omega
      | succ m ihm =>
        intro i k e h1 h2 hk
        simp only [F_w0_l1, F_w0_b1, eta_E, eta_S]
        by_cases hi : i < l.length
        · have hg := fss_get l i hi
          rw [drop_get l i default hi, Int.toNat_natCast]
          generalize l.getD i default = s at hg
          have hfs := fst_eq s
          rw [wr_s (by omega)]
          simp only [hi, inB_n hi, Int.ofNat_lt, decide_true, cond_true, ass_t, eq_lit, wbS]
          by_cases h0 : k = 0
          · simp only [h0, decide_true, cond_true, if_true]
          · simp only [h0, decide_false, cond_false, if_false]
            have hv : F_cv0 n s d e = some (if e = 0 then stS s d else e) := by
              unfold F_cv0
              simp only [eta_E, eta_S, ast_statement s d (show fu s.A ≤ n by omega) (show fu s.B ≤ n by omega) (by omega) (by omega) (by omega), bind_s]
              by_cases he : e = 0
              · simp only [he, decide_true, cond_true, if_true]
              · simp only [he, decide_false, cond_false, if_false]
            rw [hv, bind_s, show IntKind.i64.wrap ((k : Int) - 1) = ((k - 1 : Nat) : Int) by rw [wr] <;> omega]
            have hl1 := wfS_le s.A (k - 1)
            have hl2 := wfS_le s.B (wfS s.A (k - 1))
            rw [walker_first s.A (k - 1) _ (by omega) (by omega) (by omega), bind_s, walker_first s.B _ _ (by omega) (by omega) (by omega), bind_s]
            have hl3 := wbS_le s.Body (IntKind.i64.wrap (d + 1)) (wfS s.B (wfS s.A (k - 1)), if e = 0 then stS s d else e)
            rw [ih s.Body _ _ _ (by omega) (by omega) (by omega), bind_s]
            simp only [pair_eta] at hl3 ⊢
            have hl4 := wbS_le s.Else (IntKind.i64.wrap (d + 1)) (wbS s.Body (IntKind.i64.wrap (d + 1)) (wfS s.B (wfS s.A (k - 1)), if e = 0 then stS s d else e))
            rw [ih s.Else _ _ _ (by omega) (by omega) (by omega), bind_s]
            simp only [pair_eta]
            rw [ihm (i + 1) _ _ (by omega) (by omega) (by omega), wsS_eq]
        · rw [drop_end l i hi]
          simp only [hi, Int.ofNat_lt, decide_false, cond_false, wbS]
    exact hloop n 0 k e (by omega) (by omega) hk
end Go.Ab.Y

namespace Go.Ab.Y
open Go Go.Ab Go.Proofs
set_option linter.unusedVariables false
set_option linter.unusedSimpArgs false

abbrev Vis := Vz8
/-- The first error among the statements that are visited, behind an earlier one. -/
def errS : Int → List Vis → Int
  | e, [] => e
  | e, v :: l => errS (if e = 0 ∧ v.IsStmt = true then stS v.Stmt v.Depth else e) l
theorem errS_app : ∀ (l m : List Vis) (e : Int), errS e (l ++ m) = errS (errS e l) m
  | [], m, e => rfl
  | v :: l, m, e => by rw [List.cons_append, errS, errS, errS_app l m]
theorem errS_noStmt : ∀ (l : List Vis) (e : Int), (∀ v, v ∈ l → v.IsStmt = false) → errS e l = e
  | [], e, h => rfl
  | v :: l, e, h => by
    rw [errS, h v (List.mem_cons_self), errS_noStmt l _ fun w hw => h w (List.mem_cons_of_mem _ hw)]
    simp
theorem room272 {k : Nat} (h : k ≤ 100000) : room k 272 = true := by simp [room]; omega
theorem walkExpr_S : ∀ (n : Nat) (e : Expr) (out : List Vis) (root : Bool), fu e ≤ n → fu e ≤ 140737488351232 → out.length ≤ 401 →
    ∃ ext, F_t0 n out e root = some (out ++ ext) ∧ (out ++ ext).length ≤ 401 ∧ 401 - (out ++ ext).length = weS e (401 - out.length) ∧ ∀ v, v ∈ ext → v.IsStmt = false := by
  intro n
  induction n with
  | zero => intro e out root h; rw [fu_eq] at h; omega
  | succ n ih =>
    intro e out root h hl ho
    have hfe := fu_eq e
    have hal := fus_len e.Args
    simp only [F_t0, B_t0, lit_lt]
    rw [weS_eq]
    by_cases h0 : 400 < out.length
    · simp only [h0, decide_true, cond_true]
      rw [if_pos (by omega)]
      exact ⟨[], by simp, by simpa using ho, by simp; omega, fun v hv => by cases hv⟩
    · simp only [h0, decide_false, cond_false, List.length_cons, List.length_nil, room272 (show out.length + (0 + 1) ≤ 100000 by omega), ass_t]
      rw [if_neg (by omega)]
      have hloop : ∀ m i (out : List Vis), e.Args.length < i + m → i ≤ e.Args.length → out.length ≤ 401 →
          ∃ ext, F_t0_l2 n (F_t0 n) e m out (i : Int) = some (out ++ ext) ∧ (out ++ ext).length ≤ 401 ∧ 401 - (out ++ ext).length = wesS (e.Args.drop i) (401 - out.length) ∧ ∀ v, v ∈ ext → v.IsStmt = false := by
        intro m
        induction m with
        | zero => intro i out h1 h2; omega
        | succ m ihm =>
          intro i out h1 h2 ho
          simp only [F_t0_l2, F_t0_b2, F_t0_j1]
          by_cases hi : i < e.Args.length
          · have hg := fus_get e.Args i hi
            rw [drop_get e.Args i default hi, Int.toNat_natCast]
            generalize e.Args.getD i default = a at hg
            rw [wr_s (by omega)]
            simp only [hi, inB_n hi, Int.ofNat_lt, decide_true, cond_true, ass_t, le_lit, wesS]
            by_cases h400 : out.length ≤ 400
            · simp only [h400, decide_true, cond_true]
              obtain ⟨x1, e1, e2, e3, e4⟩ := ih a out false (by omega) (by omega) ho
              obtain ⟨x2, f1, f2, f3, f4⟩ := ihm (i + 1) (out ++ x1) (by omega) (by omega) e2
              rw [e1, bind_s, f1]
              refine ⟨x1 ++ x2, by rw [List.append_assoc], by rw [← List.append_assoc]; exact f2, by rw [← List.append_assoc, f3, e3], fun v hv => ?_⟩
              rcases List.mem_append.1 hv with hv | hv
              · exact e4 v hv
              · exact f4 v hv
            · simp only [h400, decide_false, cond_false]
              have hz : 401 - out.length = 0 := by omega
              have hw0 := weS_le a 0
              have hw1 := wesS_le (e.Args.drop (i + 1)) (weS a 0)
              exact ⟨[], by simp, by simpa using ho, by rw [hz]; simp; omega, fun v hv => by cases hv⟩
          · rw [drop_end e.Args i hi]
            simp only [hi, Int.ofNat_lt, decide_false, cond_false, wesS]
            exact ⟨[], by simp, by simpa using ho, by simp, fun v hv => by cases hv⟩
      obtain ⟨x, e1, e2, e3, e4⟩ := hloop n 0 (out ++ [⟨false, ⟨0, [], 0, ⟨0, 0, [], []⟩, ⟨0, 0, [], []⟩, [], []⟩, 0, e, root⟩]) (by omega) (by omega) (by simp; omega)
      refine ⟨⟨false, ⟨0, [], 0, ⟨0, 0, [], []⟩, ⟨0, 0, [], []⟩, [], []⟩, 0, e, root⟩ :: x, ?_, ?_, ?_, ?_⟩
      · exact e1.trans (by simp)
      · simpa using e2
      · have : 401 - (out ++ [(⟨false, ⟨0, [], 0, ⟨0, 0, [], []⟩, ⟨0, 0, [], []⟩, [], []⟩, 0, e, root⟩ : Vis)]).length = 401 - out.length - 1 := by simp; omega
        rw [this, List.drop_zero] at e3
        simpa using e3
      · intro v hv
        rcases List.mem_cons.1 hv with rfl | hv
        · rfl
        · exact e4 v hv
end Go.Ab.Y

namespace Go.Ab.Y
open Go Go.Ab Go.Proofs
set_option linter.unusedVariables false
set_option linter.unusedSimpArgs false

theorem walkAbs {α : Type} {n : Nat} (e : Expr) (out : List Vis) (G : List Vis → Option α) (h : fu e ≤ n) (hl : fu e ≤ 140737488351232) (ho : out.length ≤ 401) :
    ∃ ext, (Option.bind (F_bx0 n e) fun r => bif !r then Option.bind (F_t0 n out e true) G else G out) = G (out ++ ext) ∧ (out ++ ext).length ≤ 401 ∧ 401 - (out ++ ext).length = wfS e (401 - out.length) ∧ ∀ v, v ∈ ext → v.IsStmt = false := by
  rw [ref08_Absent, bind_s]
  unfold wfS
  cases hab : abS e
  · obtain ⟨x, e1, e2, e3, e4⟩ := walkExpr_S n e out true h hl ho
    refine ⟨x, ?_, e2, ?_, e4⟩
    · rw [e1]; rfl
    · rw [e3]
      by_cases h0 : 401 - out.length = 0
      · rw [if_pos (Or.inl h0), h0]
        have := weS_le e 0
        omega
      · rw [if_neg (by simp [h0])]
  · refine ⟨[], by simp, by simpa using ho, ?_, fun v hv => by cases hv⟩
    rw [if_pos (Or.inr rfl)]; simp
theorem walkBody_S : ∀ (n : Nat) (l : List Stmt) (d : Int) (out : List Vis) (e : Int), fss l + 2 ≤ n → fss l ≤ 140737488351232 → out.length ≤ 401 →
    ∃ ext, F_g0 n out l d = some (out ++ ext) ∧ (out ++ ext).length ≤ 401 ∧ (401 - (out ++ ext).length, errS e ext) = wbS l d (401 - out.length, e) ∧ ∀ v, v ∈ ext → v.IsStmt = true → fst v.Stmt < fss l := by
  intro n
  induction n with
  | zero => intro l d out e h; omega
  | succ n ih =>
    intro l d out e h hl ho
    have hal := fss_len l
    simp only [F_g0, B_g0]
    have hloop : ∀ m i (out : List Vis) (e : Int), l.length < i + m → i ≤ l.length → out.length ≤ 401 →
        ∃ ext, F_g0_l2 n (F_g0 n) l d m out (i : Int) = some (out ++ ext) ∧ (out ++ ext).length ≤ 401 ∧ (401 - (out ++ ext).length, errS e ext) = wbS (l.drop i) d (401 - out.length, e) ∧ ∀ v, v ∈ ext → v.IsStmt = true → fst v.Stmt < fss l := by
      intro m
      induction m with
      | zero => intro i out e h1 h2; omega
      | succ m ihm =>
        intro i out e h1 h2 ho
        simp only [F_g0_l2, F_g0_b2, F_g0_j1, F_g0_j4, F_g0_j5, F_g0_j3, eta_E, eta_S]
        by_cases hi : i < l.length
        · have hg := fss_get l i hi
          rw [drop_get l i default hi, Int.toNat_natCast]
          generalize l.getD i default = s at hg
          have hfs := fst_eq s
          rw [wr_s (by omega)]
          simp only [hi, inB_n hi, Int.ofNat_lt, decide_true, cond_true, ass_t, le_lit, wbS]
          by_cases h400 : out.length ≤ 400
          · rw [if_neg (by omega)]
            simp only [h400, decide_true, cond_true, List.length_cons, List.length_nil, room272 (show out.length + (0 + 1) ≤ 100000 by omega), ass_t]
            obtain ⟨x1, a1, a2, a3, a4⟩ := walkAbs (n := n) s.A (out ++ [(⟨true, s, d, ⟨0, 0, [], []⟩, false⟩ : Vis)]) (fun v28 => Option.bind (F_bx0 n s.B) fun r30 => bif !r30 then Option.bind (F_t0 n v28 s.B true) fun r32 =>
                Option.bind (F_g0 n r32 s.Body (IntKind.i64.wrap (d + 1))) fun r35 => Option.bind (F_g0 n r35 s.Else (IntKind.i64.wrap (d + 1))) fun r37 => F_g0_l2 n (F_g0 n) l d m r37 ((i + 1 : Nat) : Int)
              else Option.bind (F_g0 n v28 s.Body (IntKind.i64.wrap (d + 1))) fun r35 => Option.bind (F_g0 n r35 s.Else (IntKind.i64.wrap (d + 1))) fun r37 => F_g0_l2 n (F_g0 n) l d m r37 ((i + 1 : Nat) : Int)) (by omega) (by omega) (by simp; omega)
            rw [a1]
            obtain ⟨x2, b1, b2, b3, b4⟩ := walkAbs (n := n) s.B (out ++ [(⟨true, s, d, ⟨0, 0, [], []⟩, false⟩ : Vis)] ++ x1) (fun v => Option.bind (F_g0 n v s.Body (IntKind.i64.wrap (d + 1))) fun r35 => Option.bind (F_g0 n r35 s.Else (IntKind.i64.wrap (d + 1))) fun r37 => F_g0_l2 n (F_g0 n) l d m r37 ((i + 1 : Nat) : Int)) (by omega) (by omega) a2
            rw [b1]
            obtain ⟨x3, c1, c2, c3, c4⟩ := ih s.Body (IntKind.i64.wrap (d + 1)) _ (if e = 0 then stS s d else e) (by omega) (by omega) b2
            rw [c1, bind_s]
            obtain ⟨x4, d1, d2, d3, d4⟩ := ih s.Else (IntKind.i64.wrap (d + 1)) _ (errS (if e = 0 then stS s d else e) x3) (by omega) (by omega) c2
            rw [d1, bind_s]
            obtain ⟨x5, f1, f2, f3, f4⟩ := ihm (i + 1) _ (errS (errS (if e = 0 then stS s d else e) x3) x4) (by omega) (by omega) d2
            rw [f1]
            have hlen1 : 401 - (out ++ [(⟨true, s, d, ⟨0, 0, [], []⟩, false⟩ : Vis)]).length = 401 - out.length - 1 := by simp; omega
            refine ⟨(⟨true, s, d, ⟨0, 0, [], []⟩, false⟩ : Vis) :: (x1 ++ (x2 ++ (x3 ++ (x4 ++ x5)))), ?_, ?_, ?_, ?_⟩
            · simp
            · simpa using f2
            · have e1 : errS e ((⟨true, s, d, ⟨0, 0, [], []⟩, false⟩ : Vis) :: (x1 ++ (x2 ++ (x3 ++ (x4 ++ x5))))) = errS (errS (errS (if e = 0 then stS s d else e) x3) x4) x5 := by
                simp only [errS, and_true, errS_app]
                rw [errS_noStmt x1 _ a4, errS_noStmt x2 _ b4]
              have e2 : (out ++ (⟨true, s, d, ⟨0, 0, [], []⟩, false⟩ : Vis) :: (x1 ++ (x2 ++ (x3 ++ (x4 ++ x5))))).length = (out ++ [(⟨true, s, d, ⟨0, 0, [], []⟩, false⟩ : Vis)] ++ x1 ++ x2 ++ x3 ++ x4 ++ x5).length := by simp
              rw [e1, e2, f3]
              congr 1
              rw [wsS_eq]
              simp only
              rw [d3, c3, b3, a3, hlen1]
            · intro v hv hst
              simp only [List.mem_cons, List.mem_append] at hv
              rcases hv with rfl | hv | hv | hv | hv | hv
              · exact hg
              · rw [a4 v hv] at hst; cases hst
              · rw [b4 v hv] at hst; cases hst
              · have := c4 v hv hst; omega
              · have := d4 v hv hst; omega
              · exact f4 v hv hst
          · rw [if_pos (by omega)]
            simp only [h400, decide_false, cond_false]
            exact ⟨[], by simp, by simpa using ho, by simp [errS], fun v hv => by cases hv⟩
        · rw [drop_end l i hi]
          simp only [hi, Int.ofNat_lt, decide_false, cond_false, wbS]
          exact ⟨[], by simp, by simpa using ho, by simp [errS], fun v hv => by cases hv⟩
    exact hloop n 0 out e (by omega) (by omega) ho
end Go.Ab.Y

namespace Go.Ab.Y
open Go Go.Ab Go.Proofs
set_option linter.unusedVariables false
set_option linter.unusedSimpArgs false

/-- The error of a procedure. -/
def vpS (p : Proc) : Int :=
  if nameS p.Name = false then 7 else if parsS p.Params ≠ 0 then parsS p.Params
  else if (wbS p.Body 1 (401, 0)).2 = 0 ∧ (wbS p.Body 1 (401, 0)).1 = 0 then 2 else (wbS p.Body 1 (401, 0)).2
theorem ast_Validate {n : Nat} (p : Proc) (hN : p.Name.length ≤ 140737488351232) (hP : fps p.Params < n) (hP2 : fps p.Params ≤ 140737488351232) (hB : fss p.Body + 2 ≤ n) (hB2 : fss p.Body ≤ 140737488351232) : F_cr0 n p = some (vpS p) := by
  unfold F_cr0 F_ds0 vpS
  rw [lexer_IsName n p.Name hN, ast_params p.Params hP hP2]
  simp only [bind_s]
  cases nameS p.Name
  · rfl
  · simp only [Bool.not_true, cond_false, Bool.true_eq_false, if_false]
    by_cases h : parsS p.Params = 0
    · simp only [h, decide_true, Bool.not_true, cond_false, ne_eq, not_true, if_false]
      have := walker_block n p.Body 1 401 0 hB hB2 (by omega)
      rw [show F_w0 n p.Body 1 401 0 = _ from this]
      have hle := wbS_le p.Body 1 (401, 0)
      simp only at hle
      generalize wbS p.Body 1 (401, 0) = r at hle
      obtain ⟨k, e⟩ := r
      simp only [bind_s]
      simp only at hle
      rw [show IntKind.i64.wrap (401 - ((k : Nat) : Int)) = 401 - ((k : Nat) : Int) by rw [wr] <;> omega]
      by_cases he : e = 0
      · by_cases hk : k = 0
        · subst hk; subst he; rfl
        · simp only [he, hk, decide_true, cond_true, and_false, if_false, show ¬ (400 : Int) < 401 - ((k : Nat) : Int) by omega, decide_false, cond_false]
      · simp only [he, decide_false, cond_false, false_and, if_false]
    · simp only [h, decide_false, Bool.not_false, cond_true, ne_eq, not_false_iff, if_true]
theorem errS_ne : ∀ (l : List Vis) (e : Int), e ≠ 0 → errS e l = e
  | [], e, h => rfl
  | v :: l, e, h => by rw [errS, if_neg (fun x => h x.1), errS_ne l e h]
theorem ref08_Validate_l2 (n : Nat) (l : List Vis) (hn : 25 < n) (B : Nat) (hB : B ≤ n) (hB2 : B ≤ 140737488351232) (hl : l.length ≤ 401) (hs : ∀ v, v ∈ l → v.IsStmt = true → fst v.Stmt < B) : ∀ m i, l.length < i + m → i ≤ l.length →
    F_ak0_l2 n l m (i : Int) = some (if errS 0 (l.drop i) ≠ 0 then errS 0 (l.drop i) else if 400 < l.length then 2 else 0) := by
  intro m
  induction m with
  | zero => intro i h h2; omega
  | succ m ih =>
    intro i hm hi
    simp only [F_ak0_l2, F_ak0_b2, F_ak0_j1, F_ak0_j3]
    by_cases h : i < l.length
    · have hv : l.getD i default ∈ l := by
        have e : l.getD i default = l[i] := by simp [List.getD, h]
        rw [e]; exact List.getElem_mem h
      have hst := hs _ hv
      rw [drop_get l i default h, wr_s (by omega), Int.toNat_natCast, ih (i + 1) (by omega) (by omega)]
      generalize l.getD i default = v at hst
      simp only [h, inB_n h, Int.ofNat_lt, decide_true, cond_true, ass_t, errS]
      cases hq : v.IsStmt
      · simp only [cond_false, Bool.false_eq_true, and_false, if_false]
      · have hf := hst hq
        have hfe := fst_eq v.Stmt
        rw [ref08_stmt v.Stmt v.Depth hn (by omega) (by omega) (by omega) (by omega) (by omega) (by omega)]
        simp only [cond_true, bind_s, and_self, if_true]
        by_cases he : stS v.Stmt v.Depth = 0
        · simp only [he, decide_true, Bool.not_true, cond_false]
        · simp only [he, decide_false, Bool.not_false, cond_true]
          rw [errS_ne _ _ he, if_pos he]
    · rw [drop_end l i h]
      simp only [h, Int.ofNat_lt, decide_false, cond_false, errS, lit_lt, ne_eq, not_true, if_false]
      by_cases h4 : 400 < l.length
      · simp only [h4, decide_true, cond_true, if_true]
      · simp only [h4, decide_false, cond_false, if_false]
theorem ref08_Validate {n : Nat} (p : Proc) (hn : 500 < n) (hN : p.Name.length < n) (hN2 : p.Name.length ≤ 140737488351232) (hP : fps p.Params < n) (hP2 : fps p.Params ≤ 140737488351232) (hB : fss p.Body + 2 ≤ n) (hB2 : fss p.Body ≤ 140737488351232) : F_ak0 n p = some (vpS p) := by
  unfold F_ak0 F_dq0 vpS
  rw [ref07_IsName p.Name hN (by omega) (by omega), ref08_params p.Params (by omega) hP hP2]
  simp only [bind_s]
  cases nameS p.Name
  · rfl
  · simp only [Bool.not_true, cond_false, Bool.true_eq_false, if_false]
    by_cases h : parsS p.Params = 0
    · simp only [h, decide_true, Bool.not_true, cond_false, ne_eq, not_true, if_false]
      obtain ⟨ext, e1, e2, e3, e4⟩ := walkBody_S n p.Body 1 [] 0 hB hB2 (by simp)
      rw [List.nil_append] at e1 e2 e3
      rw [e1]
      simp only [bind_s]
      have := ref08_Validate_l2 n ext (by omega) (fss p.Body) (by omega) hB2 e2 e4 n 0 (by omega) (by omega)
      rw [show F_ak0_l2 n ext n 0 = _ from this, List.drop_zero, List.length_nil] at *
      rw [show 401 - 0 = 401 from rfl] at e3
      rw [← e3]
      simp only
      by_cases he : errS 0 ext = 0
      · simp only [he, ne_eq, not_true, if_false, true_and]
        by_cases h4 : 400 < ext.length
        · rw [if_pos h4, if_pos (by omega)]
        · rw [if_neg h4, if_neg (by omega)]
      · rw [if_pos he, if_neg (fun x => he x.1)]
    · simp only [h, decide_false, Bool.not_false, cond_true, ne_eq, not_false_iff, if_true]
/-- A procedure equals itself. -/
theorem equalBody_self : ∀ (n : Nat) (l : List Stmt), fss l + 2 ≤ n → fss l ≤ 140737488351232 → F_s0 n l l = some true := by
  intro n
  induction n with
  | zero => intro l h; omega
  | succ n ih =>
    intro l h hl
    have hal := fss_len l
    simp only [F_s0, B_s0, decide_true, Bool.not_true, cond_false]
    have hloop : ∀ m i, l.length < i + m → i ≤ l.length → F_s0_l2 n (F_s0 n) l l m (i : Int) = some true := by
      intro m
      induction m with
      | zero => intro i h1 h2; omega
      | succ m ihm =>
        intro i h1 h2
        simp only [F_s0_l2, F_s0_b2, F_s0_j1, eta_E, eta_S]
        by_cases hi : i < l.length
        · have hg := fss_get l i hi
          rw [wr_s (by omega), ihm (i + 1) (by omega) (by omega), Int.toNat_natCast]
          generalize l.getD i default = s at hg
          have hfs := fst_eq s
          simp only [hi, inB_n hi, Int.ofNat_lt, decide_true, Bool.not_true, cond_true, cond_false, ass_t, equalExpr_self n s.A (by omega) (by omega), equalExpr_self n s.B (by omega) (by omega), ih s.Body (by omega) (by omega), ih s.Else (by omega) (by omega), bind_s]
          rfl
        · simp only [hi, Int.ofNat_lt, decide_false, cond_false]
    exact hloop n 0 (by omega) (by omega)
theorem equal_self {n : Nat} (p : Proc) (hP : p.Params.length < n) (hP2 : p.Params.length ≤ 140737488351232) (hB : fss p.Body + 2 ≤ n) (hB2 : fss p.Body ≤ 140737488351232) : F_bd0 n p p = some true := by
  unfold F_bd0
  simp only [decide_true, Bool.not_true, cond_false]
  have hloop : ∀ m i, p.Params.length < i + m → i ≤ p.Params.length → F_bd0_l2 n p p m (i : Int) = some true := by
    intro m
    induction m with
    | zero => intro i h1 h2; omega
    | succ m ihm =>
      intro i h1 h2
      simp only [F_bd0_l2, F_bd0_b2, F_bd0_j1]
      by_cases hi : i < p.Params.length
      · rw [wr_s (by omega), ihm (i + 1) (by omega) (by omega)]
        simp only [hi, inB_n hi, Int.ofNat_lt, decide_true, Bool.and_self, Bool.not_true, cond_true, cond_false, ass_t]
      · simp only [hi, Int.ofNat_lt, decide_false, cond_false, equalBody_self n p.Body hB hB2, bind_s]
  exact hloop n 0 (by omega) (by omega)
end Go.Ab.Y

namespace Go.Ab.Y
open Go Go.Ab Go.Proofs
set_option linter.unusedVariables false
set_option linter.unusedSimpArgs false

end Go.Ab.Y

namespace Go.Ab.Y
open Go Go.Ab Go.Proofs
set_option linter.unusedVariables false
set_option linter.unusedSimpArgs false

/-- The weight of procedures. -/
def wts : List Proc → Nat
  | [] => 0
  | x :: l => 1 + wtP x + wts l
theorem wts_app : ∀ l m : List Proc, wts (l ++ m) = wts l + wts m
  | [], m => by simp [wts]
  | t :: l, m => by rw [List.cons_append, wts, wts, wts_app l m]; omega
theorem wts_len : ∀ l : List Proc, l.length ≤ wts l
  | [] => Nat.le_refl _
  | t :: l => by have := wts_len l; simp only [wts, List.length_cons]; omega
theorem wts_get : ∀ (l : List Proc) (i : Nat), i < l.length → wtP (l.getD i default) + 1 ≤ wts l
  | [], i, h => by simp at h
  | x :: l, 0, h => by simp only [wts, List.getD_cons_zero]; omega
  | x :: l, i + 1, h => by have := wts_get l i (by simpa using h); simp only [wts, List.getD_cons_succ]; omega
/-- The error of procedures behind those that are read. -/
def ckS (before : List Proc) : List Proc → Int
  | [] => 0
  | x :: l => if vpS x ≠ 0 then vpS x else if (before.any fun y => decide (y.Name = x.Name)) = true then 8 else ckS (before ++ [x]) l
theorem vp_both {n : Nat} (p : Proc) (h : wtP p ≤ 200000) (hn : 900000 ≤ n) : F_cr0 n p = some (vpS p) ∧ F_ak0 n p = some (vpS p) := by
  have h : p.Name.length + fps p.Params + fss p.Body ≤ 200000 := h
  exact ⟨ast_Validate p (by omega) (by omega) (by omega) (by omega) (by omega), ref08_Validate p (by omega) (by omega) (by omega) (by omega) (by omega) (by omega) (by omega)⟩
theorem check_l4 (n : Nat) (k2 : Int → Option Int) (l : List Proc) (i : Nat) (h : i < l.length) (hs : l.length ≤ 4611686018427387904) : ∀ m k, i < k + m → k ≤ i →
    F_ac0_l4 n k2 l (i : Int) m (k : Int) = if (((l.take i).drop k).any fun y => decide (y.Name = (l.getD i default).Name)) = true then some 8 else k2 ((i + 1 : Nat) : Int) := by
  intro m
  induction m with
  | zero => intro k h1 h2; omega
  | succ m ih =>
    intro k hm hk
    simp only [F_ac0_l4, F_ac0_b4, F_ac0_j3]
    have hlt : (l.take i).length = i := by simp; omega
    rw [Int.toNat_natCast, hlt]
    by_cases hki : k < i
    · rw [drop_get (l.take i) k default (by omega), wr_s (by omega), ih (k + 1) (by omega) (by omega), Int.toNat_natCast]
      generalize (l.take i).getD k default = c
      simp only [hki, inB_n hki, Int.ofNat_lt, decide_true, cond_true, ass_t, List.any_cons]
      by_cases hc : c.Name = (l.getD i default).Name
      · simp only [hc, decide_true, cond_true, Bool.true_or, if_true]
      · simp only [hc, decide_false, cond_false, Bool.false_or]
    · obtain rfl : k = i := by omega
      rw [drop_end (l.take k) k (by omega), wr_s (by omega)]
      simp only [Int.ofNat_lt, Nat.lt_irrefl, decide_false, cond_false, List.any_nil, Bool.false_eq_true, if_false]
theorem check_l2 (n : Nat) (l : List Proc) (hn : 900000 ≤ n) (hw : wts l ≤ 200000) : ∀ m i, l.length < i + m → i ≤ l.length → F_ac0_l2 n l m (i : Int) = some (ckS (l.take i) (l.drop i)) := by
  have hlen := wts_len l
  intro m
  induction m with
  | zero => intro i h h2; omega
  | succ m ih =>
    intro i hm hi
    simp only [F_ac0_l2, F_ac0_b2, F_ac0_j1]
    by_cases h : i < l.length
    · have hg := wts_get l i h
      have h4 := check_l4 n (F_ac0_l2 n l m) l i h (by omega) n 0 (by omega) (by omega)
      rw [show F_ac0_l4 n (F_ac0_l2 n l m) l (i : Int) n 0 = _ from h4, List.drop_zero]
      rw [drop_get l i default h, Int.toNat_natCast, ih (i + 1) (by omega) (by omega), take_s l i h]
      generalize l.getD i default = c at hg
      rw [(vp_both c (by omega) hn).1]
      simp only [h, inB_n h, Int.ofNat_lt, decide_true, cond_true, ass_t, bind_s, upB_n hi, ckS]
      by_cases hv : vpS c = 0
      · simp only [hv, decide_true, Bool.not_true, cond_false, ne_eq, not_true, if_false]
        cases ((l.take i).any fun y => decide (y.Name = c.Name)) <;> rfl
      · simp only [hv, decide_false, Bool.not_false, cond_true, ne_eq, not_false_iff, if_true]
    · rw [drop_end l i h]
      simp only [h, Int.ofNat_lt, decide_false, cond_false]
      rfl
theorem ref_l5 (n : Nat) (k3 : Int → Option ((List Proc) × Int × Int)) (l : List Proc) (i : Nat) (h : i < l.length) (hs : l.length ≤ 4611686018427387904) : ∀ m k, i < k + m → k ≤ i →
    F_o0_l5 n k3 l (i : Int) m (k : Int) = if (((l.take i).drop k).any fun y => decide (y.Name = (l.getD i default).Name)) = true then some ([], 0, 8) else k3 ((i + 1 : Nat) : Int) := by
  intro m
  induction m with
  | zero => intro k h1 h2; omega
  | succ m ih =>
    intro k hm hk
    simp only [F_o0_l5, F_o0_b5, F_o0_j4]
    by_cases hki : k < i
    · have e : (l.take i).drop k = l.getD k default :: (l.take i).drop (k + 1) := by
        rw [drop_get (l.take i) k default (by simp; omega)]
        congr 1
        simp [List.getD, hki]
      rw [e, wr_s (by omega), ih (k + 1) (by omega) (by omega), Int.toNat_natCast, Int.toNat_natCast]
      generalize l.getD k default = c
      simp only [hki, inB_n h, inB_n (show k < l.length by omega), Int.ofNat_lt, decide_true, cond_true, ass_t, List.any_cons]
      by_cases hc : c.Name = (l.getD i default).Name
      · simp only [hc, decide_true, cond_true, Bool.true_or, if_true]
      · simp only [hc, decide_false, cond_false, Bool.false_or]
    · obtain rfl : k = i := by omega
      rw [drop_end (l.take k) k (by simp; omega), wr_s (by omega)]
      simp only [Int.ofNat_lt, Nat.lt_irrefl, decide_false, cond_false, List.any_nil, Bool.false_eq_true, if_false]
theorem ref_l3 (n : Nat) (l : List Proc) (hn : 900000 ≤ n) (hw : wts l ≤ 200000) : ∀ m i, l.length < i + m → i ≤ l.length → F_o0_l3 n l m (i : Int) = some (if ckS (l.take i) (l.drop i) = 0 then (l, 0, 0) else ([], 0, ckS (l.take i) (l.drop i))) := by
  have hlen := wts_len l
  intro m
  induction m with
  | zero => intro i h h2; omega
  | succ m ih =>
    intro i hm hi
    simp only [F_o0_l3, F_o0_b3, F_o0_j2]
    by_cases h : i < l.length
    · have hg := wts_get l i h
      have h4 := ref_l5 n (F_o0_l3 n l m) l i h (by omega) n 0 (by omega) (by omega)
      rw [show F_o0_l5 n (F_o0_l3 n l m) l (i : Int) n 0 = _ from h4, List.drop_zero]
      rw [drop_get l i default h, Int.toNat_natCast, ih (i + 1) (by omega) (by omega), take_s l i h]
      generalize l.getD i default = c at hg
      rw [(vp_both c (by omega) hn).2]
      simp only [h, inB_n h, Int.ofNat_lt, decide_true, cond_true, ass_t, bind_s, ckS]
      by_cases hv : vpS c = 0
      · simp only [hv, decide_true, Bool.not_true, cond_false, ne_eq, not_true, if_false]
        cases ((l.take i).any fun y => decide (y.Name = c.Name)) <;> rfl
      · simp only [hv, decide_false, Bool.not_false, cond_true, ne_eq, not_false_iff, if_true, if_false]
    · rw [drop_end l i h]
      simp only [h, Int.ofNat_lt, decide_false, cond_false]
      rfl
/-- The error of a program. -/
def progS (l : List Proc) : Int := if 16 < l.length then 2 else ckS [] l
theorem parser_check {n : Nat} (l : List Proc) (hn : 900000 ≤ n) (hw : wts l ≤ 200000) : F_ac0 n l = some (progS l) := by
  have hlen := wts_len l
  unfold F_ac0 progS
  have := check_l2 n l hn hw n 0 (by omega) (by omega)
  rw [show F_ac0_l2 n l n 0 = _ from this]
  simp only [lit_lt]
  by_cases h : 16 < l.length
  · simp only [h, decide_true, cond_true, if_true]
  · simp only [h, decide_false, cond_false, if_false, List.take_zero, List.drop_zero]
theorem ref_j1 {n : Nat} (l : List Proc) (hn : 900000 ≤ n) (hw : wts l ≤ 200000) : F_o0_j1 n l = some (if progS l = 0 then (l, 0, 0) else ([], 0, progS l)) := by
  have hlen := wts_len l
  unfold F_o0_j1 progS
  have := ref_l3 n l hn hw n 0 (by omega) (by omega)
  rw [show F_o0_l3 n l n 0 = _ from this]
  simp only [lit_lt]
  by_cases h : 16 < l.length
  · simp only [h, decide_true, cond_true, if_true]; rfl
  · simp only [h, decide_false, cond_false, if_false, List.take_zero, List.drop_zero]
theorem same_self {n : Nat} (l : List Proc) (hn : 900000 ≤ n) (hw : wts l ≤ 200000) : F_bn0 n l l = some true := by
  have hlen := wts_len l
  unfold F_bn0
  simp only [decide_true, Bool.not_true, cond_false]
  have hloop : ∀ m i, l.length < i + m → i ≤ l.length → F_bn0_l2 n l l m (i : Int) = some true := by
    intro m
    induction m with
    | zero => intro i h1 h2; omega
    | succ m ihm =>
      intro i h1 h2
      simp only [F_bn0_l2, F_bn0_b2, F_bn0_j1]
      by_cases hi : i < l.length
      · have hg := wts_get l i hi
        rw [wr_s (by omega), ihm (i + 1) (by omega) (by omega), Int.toNat_natCast]
        generalize l.getD i default = p at hg
        have hw2 : p.Name.length + fps p.Params + fss p.Body + 1 ≤ wts l := hg
        have := fps_len p.Params
        simp only [hi, inB_n hi, Int.ofNat_lt, decide_true, Bool.not_true, cond_true, cond_false, ass_t, equal_self (n := n) p (by omega) (by omega) (by omega) (by omega), bind_s]
      · simp only [hi, Int.ofNat_lt, decide_false, cond_false]
  exact hloop n 0 (by omega) (by omega)
end Go.Ab.Y

namespace Go.Ab.Y
open Go Go.Ab Go.Proofs
set_option linter.unusedVariables false
set_option linter.unusedSimpArgs false

theorem room64 {k : Nat} (h : k ≤ 100000000000) : room k 64 = true := by simp [room]; omega
section
variable {l : List Token}
theorem prog_loop {n : Nat} (ln : Int) (hl : tw l ≤ 1000000000) (hg : GoodT l) (hn : 60 * l.length + 300 ≤ n) : ∀ (m1 m2 k : Nat) (acc : List Proc), l.length - k < m1 → l.length - k < m2 → k ≤ l.length → wts acc ≤ pw l k + k →
    (∃ acc', F_au0_l1 n ⟨l, 0⟩ m1 (k : Int) acc = some (.ret () ((l.length : Nat), acc')) ∧ F_o0_l6 n (l, ln, 0) m2 acc (k : Int) = F_o0_j1 n acc' ∧ wts acc' ≤ tw l + l.length) ∨
    (∃ k' c z acc', F_au0_l1 n ⟨l, 0⟩ m1 (k : Int) acc = some (.pan (fl l k' c) (z, acc')) ∧ F_o0_l6 n (l, ln, 0) m2 acc (k : Int) = some ([], lineAt l k', c) ∧ c ≠ 0) := by
  have hll := tw_len l
  have hpl : pw l l.length = tw l := by unfold pw; rw [List.take_length]
  intro m1
  induction m1 with
  | zero => intro m2 k acc h; omega
  | succ m1 ih =>
    intro m2 k acc hm1 hm2 hk ha
    obtain ⟨m2, rfl⟩ : ∃ j, m2 = j + 1 := ⟨m2 - 1, by omega⟩
    have hpk := pw_mono l k l.length hk
    have hal := wts_len acc
    simp only [F_au0_l1, F_au0_b1, F_o0_l6, F_o0_b6]
    by_cases h : k < l.length
    · simp only [h, Int.ofNat_lt, decide_true, cond_true]
      rcases proc_both hl hg hk hn hn with ⟨a, k', e1, e2, hk1, hk2, hk3⟩ | ⟨k', c, z, a, e1, e2, hc, hk'⟩
      · rw [e1, e2]
        have hroom : room (acc.length + ([a] : List Proc).length) 64 = true := room64 (by simp; omega)
        simp only [bind_s, Pn.on, decide_true, Bool.not_true, cond_false, hroom, ass_t]
        exact ih m2 k' (acc ++ [a]) (by omega) (by omega) hk2 (by
          rw [wts_app]; simp only [wts]; omega)
      · rw [e1, e2]
        simp only [bind_s, Pn.on, hc, decide_false, Bool.not_false, cond_true, r_line n l k' (by omega) hk']
        exact Or.inr ⟨k', c, _, _, rfl, rfl, hc⟩
    · obtain rfl : k = l.length := by omega
      simp only [h, Int.ofNat_lt, decide_false, cond_false]
      exact Or.inl ⟨acc, rfl, rfl, by omega⟩
end
theorem programs_eq {n : Nat} (src : List UInt8) (hs : src.length ≤ 1600 ∨ 16384 < src.length) (hn : 900000 ≤ n) :
    ∃ r, F_bk0 n src = some r ∧ F_o0 n src = some r ∧ wts r.1 ≤ 100000 := by
  have h30 : wts [] ≤ 100000 := by simp [wts]
  obtain ⟨⟨l, ln, e⟩, t1, t2, t3⟩ := tokenize_both (fun t => t.Kind = 5 → t.Text ∈ marks) (fun s ln h1 h2 => tokS_mark s ln h1 h2) (n := n) src (by omega) (by omega)
  unfold F_bk0 F_cc0 F_o0
  rw [t1, t2]
  simp only [bind_s]
  by_cases he : e = 0
  · obtain ⟨h1, h2, h3⟩ := t3 he
    simp only at h1 h3
    subst he
    have hg : GoodT l := h3
    have hlen := tw_len l
    have hll : l.length ≤ 1700 := by omega
    simp only [decide_true, Bool.not_true, cond_false]
    unfold F_au0
    rcases prog_loop (l := l) (n := n) ln (by omega) hg (by omega) n n 0 [] (by omega) (by omega) (by omega) (by simp [wts]) with ⟨acc, e1, e2, hw⟩ | ⟨k, c, z, acc, e1, e2, hc⟩
    · rw [show F_au0_l1 n ⟨l, 0⟩ n 0 [] = _ from e1, show F_o0_l6 n (l, ln, 0) n [] 0 = _ from e2, ref_j1 acc hn (by omega)]
      simp only [bind_s, Pn.on, Int.lt_irrefl, decide_false, cond_false, decide_true, cond_true]
      rw [parser_check acc hn (by omega)]
      simp only [bind_s, F_bk0_j1]
      by_cases hr : progS acc = 0
      · simp only [hr, decide_true, Bool.not_true, cond_false, if_true]
        exact ⟨_, rfl, rfl, by simp only; omega⟩
      · simp only [hr, decide_false, Bool.not_false, cond_true, if_false]
        exact ⟨_, rfl, rfl, h30⟩
    · rw [show F_au0_l1 n ⟨l, 0⟩ n 0 [] = _ from e1, show F_o0_l6 n (l, ln, 0) n [] 0 = _ from e2]
      simp only [bind_s, Pn.on, asFail_fl, hc, decide_false, cond_false, Bool.not_false, cond_true, F_bk0_j1]
      exact ⟨_, rfl, rfl, h30⟩
  · simp only [he, decide_false, Bool.not_false, cond_true, bind_s, cond_false, F_bk0_j1]
    exact ⟨_, rfl, rfl, h30⟩
theorem law_ParserPrograms (src : List UInt8) : F_cp0 1000000 src = some true := by
  unfold F_cp0
  simp only [bind_s, le_lit, lit_lt, cond_and, lives_N]
  by_cases h : 1600 < src.length ∧ src.length ≤ 16384
  · have hb : (decide (1600 < src.length) && decide (src.length ≤ 16384)) = true := by rw [decide_eq_true h.1, decide_eq_true h.2]; rfl
    rw [hb]; rfl
  · have hb : (decide (1600 < src.length) && decide (src.length ≤ 16384)) = false := by
      by_cases h1 : 1600 < src.length
      · rw [decide_eq_false (show ¬ src.length ≤ 16384 by omega)]; simp
      · rw [decide_eq_false h1]; rfl
    obtain ⟨r, h1, h2, h3⟩ := programs_eq (n := 1000000) src (by omega) (by omega)
    rw [hb, h1, h2]
    simp only [cond_false, bind_s]
    rw [same_self (n := 1000000) r.1 (by omega) (by omega)]
    simp only [bind_s, decide_true, Bool.and_self, cond_true]
end Go.Ab.Y

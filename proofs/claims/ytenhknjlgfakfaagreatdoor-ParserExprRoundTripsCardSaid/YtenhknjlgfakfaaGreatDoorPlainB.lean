/- The plain law: what the functions compute answers as the statement says. -/
import Derived.Test.YtenhknjlgfakfaaGreatDoorPlainA
namespace Go.Ab.Y
open Go Go.Ab Go.Proofs
set_option linter.unusedVariables false
set_option linter.unusedSimpArgs false

theorem pt_s (n : Nat) : F_s0 (n + 1) = B_s0 n (F_s0 n) (F_ae0 n) := rfl
theorem pa_s (n : Nat) : F_ae0 (n + 1) = B_ae0 n (F_s0 n) (F_ae0 n) := rfl
theorem printer_at {n : Nat} {e : Expr} {k : Nat} (h : F_s0 n e = some (flat (pcs e))) (hl : (flat (pcs e)).length ≤ 100000000) : F_ae0 (n + 1) e (k : Int) = some (flat (pcA e.Op (pcs e) k)) := by
  rw [pa_s]
  unfold B_ae0 pcA
  rw [printer_level, h]
  simp only [bind_s, Int.ofNat_lt]
  by_cases hk : lvN e.Op < k
  · simp only [hk, decide_true, cond_true, if_true]
    rw [strRoom_lt (by simp; omega), strRoom_lt (by simp; omega)]
    simp only [ass_t, flat, flat_app, spell, mkT]
    simp
  · simp only [hk, decide_false, cond_false, if_false]
/-- The text of a tree. -/
theorem printer_text : ∀ (h : Nat) (e : Expr) (n : Nat), hgt e ≤ h → okE e → 2 * h + 200 ≤ n → fu e ≤ 1000000 → F_s0 n e = some (flat (pcs e)) := by
  intro h
  induction h with
  | zero => intro e n he; rw [hgt_eq] at he; omega
  | succ h ih =>
    intro e n he hok hn hfu
    obtain ⟨n, rfl⟩ : ∃ j, n = j + 1 := ⟨n - 1, by omega⟩
    obtain ⟨n, rfl⟩ : ∃ j, n = j + 1 := ⟨n - 1, by omega⟩
    have hoe := (okE_eq e).1 hok
    have hfe := fu_eq e
    rw [pt_s]
    unfold B_s0
    rw [printer_level]
    simp only [bind_s]
    rcases okE_cases e hok with ⟨h1, hq⟩ | ⟨h1, hq⟩ | ⟨h1, hq⟩ | ⟨hr, hq⟩ | ⟨a, hq, ha, hh, hop⟩ | ⟨a, b, hq, ha, hb, hh, hop⟩
    · have e2 : flat (pcs e) = Lib.decDigits e.N.toNat ++ [] := by rw [hq]; rfl
      rw [num_Format _ e.N (hoe.2.1 h1).1 (hoe.2.1 h1).2, e2, List.append_nil]
      simp only [h1, decide_true, cond_true, bind_s]
    · have e2 : flat (pcs e) = quo e.S ++ [] := by rw [hq]; rfl
      rw [lexer_Quote e.S (hoe.2.2.2.2.1 h1) (by omega), e2, List.append_nil]
      simp only [h1, show ¬ (2 : Int) = 1 by omega, decide_true, decide_false, cond_true, cond_false, bind_s]
    · have e2 : flat (pcs e) = e.S ++ [] := by rw [hq]; rfl
      rw [e2, List.append_nil]
      simp only [h1, show ¬ (3 : Int) = 1 by omega, show ¬ (3 : Int) = 2 by omega, decide_true, decide_false, cond_true, cond_false]
    · have hw := wdT_len e.Op
      have hwd := printer_word (n + 1) e.Op (by omega)
      have hlv : lvN e.Op = 9 := by
        have : e.Op = 25 ∨ e.Op = 26 ∨ e.Op = 27 := by omega
        rcases this with h | h | h <;> rw [h] <;> decide
      have hargs : e.Args = [] := by rw [hq]
      have e2 : flat (pcs e) = spell (wdT e.Op) ++ ([40] ++ ([41] ++ [])) := by
        generalize e.Op = op at hr hq
        rw [hq]
        simp only [pcs, pcss, pcO]
        rw [if_neg (by omega), if_neg (by omega), if_neg (by omega)]; rfl
      rw [hwd, e2]
      simp only [bind_s]
      rw [strRoom_lt (show (spell (wdT e.Op)).length + ([40, 41] : List UInt8).length ≤ 1000000000000 by simp; omega)]
      simp only [hlv, hargs, show ¬ e.Op = 1 by omega, show ¬ e.Op = 2 by omega, show ¬ e.Op = 3 by omega, show ¬ e.Op = 18 by omega, show ¬ e.Op = 9 by omega, decide_false, cond_false, List.length_nil, eq_lit, decide_true, cond_true, ass_t]
      simp
    · have hfa : fu e = 30 + (fu a + 1) := by rw [hq]; simp [fu, fus]
      have hta := ih a n (by omega) ha (by omega) (by omega)
      have hta2 := ih a (n + 1) (by omega) ha (by omega) (by omega)
      have hla := flat_len (hgt a) a (Nat.le_refl _) ha
      have hargs : e.Args = [a] := by rw [hq]
      have h3 := pcA_len a.Op (pcs a) 3
      have h8 := pcA_len a.Op (pcs a) 8
      have e2 : pcs e = if e.Op = 18 then some (kwT [110, 111, 116]) :: none :: pcA a.Op (pcs a) 3 else if e.Op = 9 then some (mkT [45]) :: pcA a.Op (pcs a) 8 else some (wdT e.Op) :: some (mkT [40]) :: (pcs a ++ [some (mkT [41])]) := by
        generalize e.Op = op at hop hq
        rw [hq]
        simp only [pcs, pcss, pcO]
        rw [if_neg (by omega), if_neg (by omega), if_neg (by omega)]
      rw [e2, hargs]
      simp only [List.length_cons, List.length_nil, inB_0 (show 0 < 0 + 1 by omega), ass_t, List.getD_cons_zero, show ¬ e.Op = 1 by omega, show ¬ e.Op = 2 by omega, show ¬ e.Op = 3 by omega, decide_false, cond_false]
      by_cases h18 : e.Op = 18
      · have := printer_at (k := 3) hta (by omega)
        rw [h18]
        simp only [decide_true, cond_true, if_true, show lvN 18 = 3 from rfl]
        rw [this]
        simp only [bind_s]
        rw [strRoom_lt (by simp; omega)]
        rfl
      · by_cases h9 : e.Op = 9
        · have := printer_at (k := 8) hta (by omega)
          rw [h9]
          simp only [show ¬ (9 : Int) = 18 by omega, decide_true, decide_false, cond_true, cond_false, if_true, if_false, show lvN 9 = 8 from rfl]
          rw [this]
          simp only [bind_s]
          rw [strRoom_lt (by simp; omega)]
          rfl
        · have hop2 : 20 ≤ e.Op ∧ e.Op ≤ 24 := by omega
          have hlv : lvN e.Op = 9 := by
            have : e.Op = 20 ∨ e.Op = 21 ∨ e.Op = 22 ∨ e.Op = 23 ∨ e.Op = 24 := by omega
            rcases this with h | h | h | h | h <;> rw [h] <;> decide
          have hw := wdT_len e.Op
          rw [printer_word (n + 1) e.Op (by omega), hta2, if_neg h18, if_neg h9]
          have e3 : flat (some (wdT e.Op) :: some (mkT [40]) :: (pcs a ++ [some (mkT [41])])) = spell (wdT e.Op) ++ ([40] ++ (flat (pcs a) ++ ([41] ++ []))) := by
            simp only [flat, flat_app]; rfl
          rw [e3]
          generalize spell (wdT e.Op) = W at hw
          simp only [h18, h9, hlv, decide_false, decide_true, cond_false, cond_true, bind_s]
          rw [strRoom_lt (show W.length + (0 + 1) ≤ 1000000000000 by omega), strRoom_lt (show (W ++ ([40] : List UInt8)).length + (flat (pcs a)).length ≤ 1000000000000 by simp; omega), strRoom_lt (show ((W ++ ([40] : List UInt8)) ++ flat (pcs a)).length + (0 + 1) ≤ 1000000000000 by simp; omega)]
          simp only [show ((0 + 1 : Nat) : Int) = 1 from rfl, show ¬ (1 : Int) = 0 by omega, show ((9 : Nat) : Int) = 9 from rfl, decide_true, decide_false, cond_true, cond_false, ass_t]
          simp
    · have hfa : fu e = 30 + (fu a + 1 + (fu b + 1)) := by rw [hq]; simp [fu, fus]
      have hta := ih a n (by omega) ha (by omega) (by omega)
      have htb := ih b n (by omega) hb (by omega) (by omega)
      have hla := flat_len (hgt a) a (Nat.le_refl _) ha
      have hlb := flat_len (hgt b) b (Nat.le_refl _) hb
      have hargs : e.Args = [a, b] := by rw [hq]
      have hlv := lv_bin hop
      have hsg := sgT_len e.Op
      have e2 : pcs e = pcA a.Op (pcs a) (if lvN e.Op = 4 then 5 else lvN e.Op) ++ none :: some (sgT e.Op) :: none :: pcA b.Op (pcs b) (lvN e.Op + 1) := by
        generalize e.Op = op at hop hq
        rw [hq, pcs_bin hop]
      have h3 := pcA_len a.Op (pcs a) (if lvN e.Op = 4 then 5 else lvN e.Op)
      have h8 := pcA_len b.Op (pcs b) (lvN e.Op + 1)
      have hpb := printer_at (k := lvN e.Op + 1) htb (by omega)
      rw [e2, hargs, printer_sign (n + 1) e.Op hop]
      simp only [List.length_cons, List.length_nil, inB_0 (show 0 < 0 + 1 + 1 by omega), ass_t, List.getD_cons_zero, List.getD_cons_succ, show ¬ e.Op = 1 by omega, show ¬ e.Op = 2 by omega, show ¬ e.Op = 3 by omega, show ¬ e.Op = 18 by omega, show ¬ e.Op = 9 by omega, decide_false, cond_false, eq_lit, show ¬ lvN e.Op = 9 by omega, show inB 1 (0 + 1 + 1) = true from rfl]
      by_cases h4 : lvN e.Op = 4
      · have hpa := printer_at (k := 5) hta (by omega)
        rw [h4] at hpb ⊢
        rw [if_pos rfl]
        rw [if_pos h4] at h3
        simp only [decide_true, cond_true]
        rw [show F_ae0 (n + 1) a 5 = _ from hpa, show F_ae0 (n + 1) b 5 = _ from hpb]
        simp only [bind_s]
        rw [h4] at h8
        rw [strRoom_lt (by simp; omega), strRoom_lt (by simp; omega), strRoom_lt (by simp; omega), strRoom_lt (by simp only [List.length_append, List.length_cons, List.length_nil]; omega)]
        simp only [ass_t, flat_app, flat]
        simp
      · have hpa := printer_at (k := lvN e.Op) hta (by omega)
        rw [if_neg h4] at h3 ⊢
        simp only [h4, decide_false, cond_false]
        rw [hpa, wr_s (by omega), hpb]
        simp only [bind_s]
        rw [strRoom_lt (by simp; omega), strRoom_lt (by simp; omega), strRoom_lt (by simp; omega), strRoom_lt (by simp only [List.length_append, List.length_cons, List.length_nil]; omega)]
        simp only [ass_t, flat_app, flat]
        simp
end Go.Ab.Y

namespace Go.Ab.Y
open Go Go.Ab Go.Proofs
set_option linter.unusedVariables false
set_option linter.unusedSimpArgs false

mutual
/-- A tree as memory can hold it. -/
def inE : Expr → Prop
  | ⟨Op, N, S, Args⟩ => N ≤ 9223372036854775807 ∧ S.length ≤ 9223372036854775807 ∧ Args.length ≤ 9223372036854775807 ∧ inEs Args
def inEs : List Expr → Prop
  | [] => True
  | x :: l => inE x ∧ inEs l
end
theorem inE_eq (e : Expr) : inE e ↔ e.N ≤ 9223372036854775807 ∧ e.S.length ≤ 9223372036854775807 ∧ e.Args.length ≤ 9223372036854775807 ∧ inEs e.Args := by cases e; rfl
theorem inEs_get : ∀ (l : List Expr) (i : Nat), i < l.length → inEs l → inE (l.getD i default)
  | [], i, h, _ => by simp at h
  | x :: l, 0, h, hl => hl.1
  | x :: l, i + 1, h, hl => by simp only [List.getD_cons_succ]; exact inEs_get l i (by simpa using h) hl.2
mutual
/-- The number of nodes, a long string counted more. -/
def cnE : Expr → Nat
  | ⟨_, _, S, Args⟩ => 1 + S.length / 64 + cnEs Args
def cnEs : List Expr → Nat
  | [] => 0
  | x :: l => cnE x + cnEs l
end
theorem cnE_eq (e : Expr) : cnE e = 1 + e.S.length / 64 + cnEs e.Args := by cases e; rfl
mutual
theorem fu_cn : ∀ e : Expr, fu e + 1 ≤ 95 * cnE e
  | ⟨Op, N, S, Args⟩ => by
    have := fus_cn Args
    simp only [fu, cnE]; omega
theorem fus_cn : ∀ l : List Expr, fus l ≤ 95 * cnEs l
  | [] => Nat.le_refl _
  | x :: l => by
    have h1 := fu_cn x
    have h2 := fus_cn l
    simp only [fus, cnEs]; omega
end
theorem tdiv64 (k : Nat) : Int.tdiv ((k : Nat) : Int) 64 = ((k / 64 : Nat) : Int) := by
  rw [Int.tdiv_eq_ediv_of_nonneg (by omega)]; rfl
/-- The count is exact if it is not more than the most. -/
theorem count_S : ∀ (n : Nat) (e : Expr) (m : Nat), m ≤ 1000 → m + 3 ≤ n → inE e →
    ∃ r : Nat, F_k0 n e (m : Int) = some (r : Int) ∧ 1 ≤ r ∧ r ≤ m + 144115188075855873 ∧ (r ≤ m → r = cnE e) := by
  intro n
  induction n with
  | zero => intro e m h h2; omega
  | succ n ih =>
    intro e m hm hn he
    obtain ⟨h1, h2, h3, h4⟩ := (inE_eq e).1 he
    simp only [F_k0, B_k0]
    rw [tdiv64]
    rw [show IntKind.i64.wrap ((e.S.length / 64 : Nat) : Int) = ((e.S.length / 64 : Nat) : Int) by rw [wr] <;> omega]
    rw [show IntKind.i64.wrap (1 + ((e.S.length / 64 : Nat) : Int)) = ((1 + e.S.length / 64 : Nat) : Int) by rw [wr] <;> omega]
    have hloop : ∀ k i v, m + 2 ≤ v + k → i ≤ e.Args.length → i ≤ v → 1 ≤ v → v ≤ m + 144115188075855873 → 1 ≤ k →
        ∃ r : Nat, F_k0_l2 n (F_k0 n) (m : Int) e k (v : Int) (i : Int) = some (r : Int) ∧ v ≤ r ∧ r ≤ m + 144115188075855873 ∧ (r ≤ m → r = v + cnEs (e.Args.drop i)) := by
      intro k
      induction k with
      | zero => intro i v h1 h2 h0 h3 h4 h5; omega
      | succ k ihk =>
        intro i v g1 g2 g0 g3 g4 g5
        simp only [F_k0_l2, F_k0_b2, F_k0_j1, cond_and, Int.ofNat_lt, Int.ofNat_le]
        by_cases hi : i < e.Args.length
        · by_cases hv : v ≤ m
          · obtain ⟨r1, e1, e2, e3, e4⟩ := ih (e.Args.getD i default) (m - v) (by omega) (by omega) (inEs_get _ _ hi h4)
            rw [show IntKind.i64.wrap ((m : Int) - (v : Int)) = ((m - v : Nat) : Int) by rw [wr] <;> omega, wr_s (by omega), Int.toNat_natCast, e1]
            simp only [hi, hv, decide_true, Bool.and_self, cond_true, inB_n hi, ass_t, bind_s]
            rw [show IntKind.i64.wrap ((v : Int) + (r1 : Int)) = ((v + r1 : Nat) : Int) by rw [wr] <;> omega]
            obtain ⟨r, f1, f2, f3, f4⟩ := ihk (i + 1) (v + r1) (by omega) (by omega) (by omega) (by omega) (by omega) (by omega)
            refine ⟨r, f1, by omega, f3, fun hr => ?_⟩
            have := f4 hr
            have hr1 := e4 (by omega)
            rw [drop_get e.Args i default hi]
            simp only [cnEs]; omega
          · simp only [hi, hv, decide_true, decide_false, Bool.and_false, cond_false]
            exact ⟨v, rfl, Nat.le_refl _, g4, fun h => absurd h hv⟩
        · rw [drop_end e.Args i hi]
          simp only [hi, decide_false, Bool.false_and, cond_false]
          exact ⟨v, rfl, Nat.le_refl _, g4, fun h => rfl⟩
    obtain ⟨r, f1, f2, f3, f4⟩ := hloop n 0 (1 + e.S.length / 64) (by omega) (by omega) (by omega) (by omega) (by omega) (by omega)
    exact ⟨r, f1, by omega, f3, fun hr => by rw [f4 hr, cnE_eq, List.drop_zero]⟩
theorem small_S {n : Nat} (e : Expr) (m : Nat) (hm : m ≤ 1000) (hn : 1003 ≤ n) (he : inE e) : ∃ b, F_cc0 n e (m : Int) = some b ∧ (b = true → cnE e ≤ m) := by
  obtain ⟨r, h1, h2, h3, h4⟩ := count_S n e m hm (by omega) he
  unfold F_cc0
  rw [h1]
  exact ⟨_, rfl, fun hb => by
    have := of_decide_eq_true hb
    have hr : r ≤ m := by omega
    rw [← h4 hr]; exact hr⟩
/-- A tree without errors is valid, and not high. -/
theorem vaS_ok : ∀ (h : Nat) (e : Expr) (d : Nat), hgt e ≤ h → inE e → vaS e (d : Int) = 0 → d ≤ 1000 → okE e ∧ d + hgt e ≤ 13 := by
  intro h
  induction h with
  | zero => intro e d he; rw [hgt_eq] at he; omega
  | succ h ih =>
    intro e d he hi hv hd
    obtain ⟨i1, i2, i3, i4⟩ := (inE_eq e).1 hi
    rw [vaS_eq] at hv
    have hn0 : nodeS e (d : Int) = 0 := by
      by_cases h0 : nodeS e (d : Int) = 0
      · exact h0
      · rw [if_neg h0] at hv; exact absurd hv h0
    rw [if_pos hn0] at hv
    unfold nodeS at hn0
    split at hn0
    · omega
    rename_i g1
    split at hn0
    · omega
    rename_i g2
    split at hn0
    · omega
    rename_i g3
    split at hn0
    · omega
    rename_i g4
    simp only [not_or, not_and, Bool.not_eq_false] at g1 g2 g3
    obtain ⟨a1, a2, a3⟩ := g1
    obtain ⟨b1, b2, b3⟩ := g3
    have hop : 1 ≤ e.Op ∧ e.Op ≤ 27 := by
      unfold arS at a1
      by_cases h1 : e.Op < 1
      · simp [h1] at a1
      · by_cases h2 : 27 < e.Op
        · simp [h2] at a1
        · omega
    rw [show IntKind.i64.wrap ((d : Int) + 1) = ((d + 1 : Nat) : Int) by rw [wr] <;> omega] at hv
    have hl : ∀ l : List Expr, hgts l ≤ h → inEs l → vasS l ((d + 1 : Nat) : Int) = 0 → okEs l ∧ (d + 1 + hgts l ≤ 13 ∨ l = []) := by
      intro l
      induction l with
      | nil => intro _ _ _; exact ⟨trivial, Or.inr rfl⟩
      | cons x l ihl =>
        intro hh hin hva
        simp only [hgts] at hh
        simp only [vasS] at hva
        have hx : vaS x ((d + 1 : Nat) : Int) = 0 := by
          by_cases h0 : vaS x ((d + 1 : Nat) : Int) = 0
          · exact h0
          · rw [if_neg h0] at hva; exact absurd hva h0
        rw [if_pos hx] at hva
        obtain ⟨p1, p2⟩ := ih x (d + 1) (by omega) hin.1 hx (by omega)
        obtain ⟨q1, q2⟩ := ihl (by omega) hin.2 hva
        refine ⟨⟨p1, q1⟩, Or.inl ?_⟩
        simp only [hgts]
        rcases q2 with q2 | rfl
        · omega
        · simp only [hgts]; omega
    have hhe := hgt_eq e
    obtain ⟨k1, k2⟩ := hl e.Args (by omega) i4 hv
    refine ⟨(okE_eq e).2 ⟨⟨hop, ?_⟩, fun h1 => ⟨by omega, i1⟩, fun h1 => ?_, fun h1 => ?_, fun h1 => ?_, fun h1 => ?_, k1⟩, ?_⟩
    · by_cases hc : (e.Args.length : Int) = arS e.Op
      · exact hc
      · exact absurd hc b3
    · by_cases hc : e.N = 0
      · exact hc
      · exact absurd hc (a2 h1)
    · by_cases hc : e.S = []
      · exact hc
      · exact absurd hc (a3 h1.1 h1.2)
    · exact b2 h1
    · exact g2 h1
    · rcases k2 with k2 | k2
      · omega
      · rw [k2] at hhe; simp only [hgts] at hhe; omega
end Go.Ab.Y

namespace Go.Ab.Y
open Go Go.Ab Go.Proofs
set_option linter.unusedVariables false
set_option linter.unusedSimpArgs false

theorem Tk_one {p : Pc} (h : OkP p) : Tk (flat p) (toks p) := by
  have := h [] [] (fun c hc => by cases hc) Tk.nil
  rwa [List.append_nil, List.append_nil] at this
theorem At_whole {l T : List Token} (h : l.map er = T) : At l 0 T [] := by
  unfold At; rw [List.drop_zero, h, List.append_nil]
/-- A text whose tokens are read as a valid tree, all of them. -/
theorem parser_Expr_of {n : Nat} {s : List UInt8} {T : List Token} {e : Expr} (hT : Tk s T) (hs : s.length ≤ 16384) (hn : 900000 ≤ n) (hv : vaS e 1 = 0) (hfu : fu e ≤ 100000)
    (hr : ∀ l : List Token, l.map er = T → GoodT l → l.length ≤ 1000000000 → F_a0 n 1 0 ⟨l, 0⟩ = some (.ret e ((l.length : Nat) : Int))) : F_an0 n s = some (e, 0, 0) := by
  obtain ⟨l, h1, h2, h3, h4, h5⟩ := tokenize_Tk hT hs (n := n) (by omega) (by omega)
  have hlen := tw_len l
  unfold F_an0 F_by0 F_cu0
  rw [h1]
  simp only [bind_s, decide_true, Bool.not_true, cond_false]
  rw [hr l h2 h4 (by omega)]
  simp only [bind_s, Pn.on, Int.lt_irrefl, decide_false, cond_false, decide_true, cond_true, eta_E]
  rw [ast_ValidExpr e (by omega) (by omega), hv]
  simp only [bind_s, F_an0_j1, decide_true, Bool.not_true, cond_false, eta_E]
theorem map_len {l T : List Token} (h : l.map er = T) : l.length = T.length := by rw [← h, List.length_map]
theorem roundtrip {n : Nat} (e : Expr) (hn : 900000 ≤ n) (hi : inE e) (hv : vaS e 1 = 0) (hfu : fu e ≤ 10000) (hlen : (flat (pcs e)).length ≤ 16382) :
    F_an0 n (flat (pcs e)) = some (e, 0, 0) ∧ F_an0 n (([40] ++ flat (pcs e)) ++ [41]) = some (e, 0, 0) := by
  obtain ⟨hok, hh⟩ := vaS_ok (hgt e) e 1 (Nat.le_refl _) hi hv (by omega)
  have hP := OkP_pcs e hok
  have hge := lvN_ge e.Op
  have e1 : tkA e 1 = toks (pcs e) := by unfold tkA pcA; rw [if_neg (by omega)]
  have htl : ∀ l : List Token, l.map er = toks (pcs e) → l.length ≤ 100000000 := fun l h => by
    obtain ⟨l', _, h2, _, _, h5⟩ := tokenize_Tk (Tk_one hP) (by omega) (n := n) (by omega) (by omega)
    have := tw_len l'
    rw [map_len h, ← map_len h2]; omega
  constructor
  · refine parser_Expr_of (Tk_one hP) (by omega) hn hv (by omega) fun l hl hg hll => ?_
    have hE := (rd_all hll hg (hgt e) e (Nat.le_refl _) hok).1 1 0 0 [] (by omega) (by omega) (by rw [e1]; exact At_whole hl) (by show levH [] < 1; decide) (Or.inl (by omega))
    rw [e1] at hE
    have h16 := tokenize_Tk (Tk_one hP) (by omega) (n := n) (by omega) (by omega)
    obtain ⟨l', _, h2, _, _, h5⟩ := h16
    have htw := tw_len l'
    have hll2 : (toks (pcs e)).length ≤ 20000 := by rw [← map_len h2]; omega
    have := hE n (by omega)
    rw [map_len hl]
    rw [Nat.zero_add] at this
    exact this
  · have hb : ([40] ++ flat (pcs e)) ++ [41] = flat (some (mkT [40]) :: (pcs e ++ [some (mkT [41])])) := by
      simp only [flat, flat_app, spell, mkT]; simp
    have hP2 := OkP_paren hP
    have e2 : toks (some (mkT [40]) :: (pcs e ++ [some (mkT [41])])) = mkT [40] :: (toks (pcs e) ++ [mkT [41]]) := by simp only [toks, toks_app]
    rw [hb]
    have hT2 := Tk_one hP2
    rw [e2] at hT2
    have hl2 : (flat (some (mkT [40]) :: (pcs e ++ [some (mkT [41])]))).length ≤ 16384 := by rw [← hb]; simp; omega
    refine parser_Expr_of hT2 hl2 hn hv (by omega) fun l hl hg hll => ?_
    obtain ⟨l', _, h2, _, _, h5⟩ := tokenize_Tk hT2 hl2 (n := n) (by omega) (by omega)
    have htw := tw_len l'
    have hlen2 := map_len h2
    simp only [List.length_cons, List.length_append, List.length_nil] at hlen2
    have hA := At_whole hl
    have hA1 := hA.tl1
    have hA2 := hA1.tl
    have hE := (rd_all hll hg (hgt e) e (Nat.le_refl _) hok).1 1 1 1 [mkT [41]] (by omega) (by omega) (by rw [e1]; exact hA1.asc) (by show levH [mkT [41]] < 1; rw [show levH [mkT [41]] = 0 from rfl]; omega) (Or.inr ⟨by omega, by omega⟩)
    rw [e1] at hE
    have hI := RdI.of hll (by rw [hA.is]; rfl) hE (by rw [hA2.is]; rfl)
    have hU := RdU.paren hll hg hA (by omega) hI
    have h1' := hU.down (by rw [hA.is]; rfl)
    have hend : At l (0 + (mkT [40] :: (toks (pcs e) ++ [mkT [41]])).length) [] [] := by
      have := At.tl (T := mkT [40] :: (toks (pcs e) ++ [mkT [41]])) (U := []) (by rw [List.append_nil]; exact hA)
      exact this
    have hk : 1 + (toks (pcs e)).length + 1 = l.length := by rw [map_len hl]; simp; omega
    have hlv : (levS l (1 + (toks (pcs e)).length + 1)).1 < ((1 : Nat) : Int) := by
      rw [show 1 + (toks (pcs e)).length + 1 = 0 + (mkT [40] :: (toks (pcs e) ++ [mkT [41]])).length by simp; omega, hend.lev]; decide
    have hR := Rd.downs (lv := 1) 7 h1' (by omega) (by omega) hlv (fun _ _ => by rw [hA.is]; rfl)
    have := hR n (by omega)
    rw [hk] at this
    exact this
theorem law_ParserExprRoundTrips (e : Expr) (hi : inE e) : F_bj0 1000000 e = some true := by
  unfold F_bj0
  obtain ⟨b, h1, h2⟩ := small_S (n := 1000000) e 100 (by omega) (by omega) hi
  rw [show F_cc0 1000000 e 100 = _ from h1]
  simp only [bind_s, lives_N]
  cases b
  · rfl
  · have hcn := h2 rfl
    have hfc := fu_cn e
    rw [ast_ValidExpr e (by omega) (by omega)]
    simp only [Bool.not_true, Bool.not_false, cond_true, cond_false, bind_s]
    by_cases hv : vaS e 1 = 0
    · obtain ⟨hok, hh⟩ := vaS_ok (hgt e) e 1 (Nat.le_refl _) hi hv (by omega)
      have hpt := printer_text (hgt e) e 1000000 (Nat.le_refl _) hok (by omega) (by omega)
      simp only [hv, decide_true, Bool.not_true, cond_false]
      unfold F_cy0
      rw [ast_ValidExpr e (by omega) (by omega), hv, hpt]
      simp only [bind_s, decide_true, Bool.not_true, cond_false, lit_lt]
      by_cases hl : 16382 < (flat (pcs e)).length
      · simp only [hl, decide_true, cond_true]
      · obtain ⟨r1, r2⟩ := roundtrip (n := 1000000) e (by omega) hi hv (by omega) (by omega)
        simp only [hl, decide_false, cond_false]
        rw [r1, r2]
        simp only [bind_s]
        rw [equalExpr_self 1000000 e (by omega) (by omega)]
        simp only [bind_s, decide_true, Bool.not_true, cond_false, cond_true]
        rw [strRoom_lt (by simp; omega), strRoom_lt (by simp; omega)]
        rfl
    · simp only [hv, decide_false, Bool.not_false, cond_true]
end Go.Ab.Y

namespace Go.Ab.Y
open Go Go.Ab Go.Proofs
set_option linter.unusedVariables false
theorem list4 {α : Type} : ∀ (l : List α), l.length = 4 → ∃ a b c d, l = [a, b, c, d]
  | [a, b, c, d], _ => ⟨a, b, c, d, rfl⟩
  | [], h => by simp at h
  | [_], h => by simp at h
  | [_, _], h => by simp at h
  | [_, _, _], h => by simp at h
  | _ :: _ :: _ :: _ :: _ :: _, h => by simp at h
section
variable {H : Type} {enc : TypeId × Value → H} {W : World}
theorem cells26 : Tryz.prog.cellsOf 26 = 4 := by kernel_rfl
theorem cells3 : Tryz.prog.cellsOf 3 = 1 := by kernel_rfl
theorem cells2 : Tryz.prog.cellsOf 2 = 1 := by kernel_rfl
theorem cells9 : Tryz.prog.cellsOf 9 = 1 := by kernel_rfl
theorem cells24 : Tryz.prog.cellsOf 24 = 1 := by kernel_rfl
theorem inEs_of : ∀ l : List Expr, (∀ i, i < l.length → inE (l.getD i default)) → inEs l
  | [], h => trivial
  | x :: l, h => ⟨h 0 (by simp), inEs_of l fun i hi => by have := h (i + 1) (by simpa using hi); simpa using this⟩
/-- A tree that is handed to a law. -/
theorem read_Expr : ∀ (fuel : Nat) (cs : List Value) (x : DataW H × List MemPlace), DataW.trod enc Tryz.prog W 0 (fun _ => true) true fuel 26 cs = some x → ∃ e : Expr, inE e ∧ RC W cs (enc_Expr e).cells := by
  intro fuel
  induction fuel using Nat.strongRecOn with
  | _ fuel ih =>
    intro cs x h
    obtain ⟨xs, n, hn, _, hl, hxl, hf⟩ := DataW.trod_struct Tryz.underlying26 h
    rw [cells26] at hl
    obtain ⟨c0, c1, c2, c3, rfl⟩ := list4 cs hl
    obtain ⟨x0, x1, x2, x3, rfl⟩ := list4 xs hxl
    have h0 : DataW.trod enc Tryz.prog W 0 (fun _ => true) true n 3 (List.take (Tryz.prog.cellsOf 3) [c0, c1, c2, c3]) = some x0 := hf 0 _ rfl
    have h1 : DataW.trod enc Tryz.prog W 0 (fun _ => true) true n 2 (List.take (Tryz.prog.cellsOf 2) [c1, c2, c3]) = some x1 := hf 1 _ rfl
    have h2 : DataW.trod enc Tryz.prog W 0 (fun _ => true) true n 9 (List.take (Tryz.prog.cellsOf 9) [c2, c3]) = some x2 := hf 2 _ rfl
    have h3 : DataW.trod enc Tryz.prog W 0 (fun _ => true) true n 24 (List.take (Tryz.prog.cellsOf 24) [c3]) = some x3 := hf 3 _ rfl
    rw [cells3] at h0
    rw [cells2] at h1
    rw [cells9] at h2
    rw [cells24] at h3
    obtain ⟨Op, _, r0⟩ := read_int (k := .i64) Tryz.underlying3 h0
    obtain ⟨N, hN, r1⟩ := read_int (k := .i64) Tryz.underlying2 h1
    obtain ⟨S, hS, r2⟩ := read_str Tryz.underlying9 h2
    obtain ⟨A, hA, hok, r3⟩ := read_slice (encA := enc_Expr) (ok := inE) Tryz.underlying24 cells26 (by omega) h3 (fun m cs' x' hm hx => ih m (by omega) cs' x' hx)
    refine ⟨⟨Op, N, S, A⟩, ⟨hN.2, hS, hA, inEs_of A hok⟩, ?_⟩
    have := ((r0.app r1).app r2).app r3
    exact this.vl (rev_Expr ⟨Op, N, S, A⟩)
theorem flat_Expr {cs : List Value} {e : Expr} (h : RC W cs (enc_Expr e).cells) : RepV (memOf W) (.agg ⟨cs⟩) (.agg [.int .i64 e.Op, .int .i64 e.N, .str e.S, encL 4 enc_Expr e.Args]) := (h.vl (enc_cells_Expr e)).agg
end
end Go.Ab.Y

/- The plain law: what the functions compute answers as the statement says. -/
import Derived.Test.YtenhknjlgfakfaaGreatDoorPlainB
set_option linter.unusedSimpArgs false
set_option linter.unusedVariables false
namespace Go.Ab.Y
open Go Go.Ab Go.Proofs

section
variable {l : List Token}
def PBl (l : List Token) (n d k : Nat) (b : List Stmt) : Prop := ∀ (i m : Nat) (acc : List Stmt), b.length < m → acc.length + b.length ≤ 1000000 →
 F_c0_l3 n (F_c0 n) (F_h0 n) (F_m0 n) (d : Int) ⟨l, (i : Int)⟩ m (k : Int) acc = some (.ret (acc ++ b) ((k + (blK b).length + 1 : Nat) : Int))
theorem pb_of {n d i : Nat} {b : List Stmt} {T R : List Token} (hl : l.length ≤ 1000000000) (hA : At l i (mkT [123] :: T) R) (hd : d ≤ 12) (hn : b.length < n) (hb : b.length ≤ 1000000) (h : PBl l n d (i + 1) b) : PB l (n + 1) d i b := by
 unfold PB
 have := hA.lt
 rw [pb_s]
 unfold B_c0 F_c0_j1
 rw [p_is, bind_s, show decide ((12 : Int) < (d : Int)) = false from decide_eq_false (by omega)]
 have e : (bif (bif isT l i [123] then false else false) then (true : Bool) else false) = false := by cases isT l i [123] <;> rfl
 have e2 : (bif isT l i [123] then false else false) = false := by cases isT l i [123] <;> rfl
 rw [e2]
 simp only [cond_false]
 rw [exp_yes hl hA rfl]
 simp only [bind_s, Pn.on]
 rw [h i n [] hn (by simp; omega)]
 exact retk (by omega)
theorem ps_if {i n d : Nat} {A : Expr} {Body Else : List Stmt} {R : List Token} (hl : l.length ≤ 1000000000) (hg : GoodT l) (hT : okT A) (hR : isH R [101, 108, 115, 101] = false) (hA : At l i (stK ⟨5, [], 0, A, zE, Body, Else⟩) R) (hn : 24 * l.length + 100 ≤ n)
  (hB : ∀ T' R', At l (i + 1 + (kE A).length) (mkT [123] :: (blK Body ++ mkT [125] :: T')) R' → PB l n d (i + 1 + (kE A).length) Body)
  (hE : ∀ k R', Else.length ≠ 0 → At l k (mkT [123] :: (blK Else ++ [mkT [125]])) R' → PB l n d k Else) : PS l (n + 1) d i ⟨5, [], 0, A, zE, Body, Else⟩ := by
 unfold PS
 by_cases h0 : Else.length = 0
 ·have e : stK ⟨5, [], 0, A, zE, Body, Else⟩ = kwT [105, 102] :: (kE A ++ mkT [123] :: (blK Body ++ mkT [125] :: [])) := by simp only [stK, h0]; simp
  obtain rfl := List.eq_nil_of_length_eq_zero h0
  rw [e] at hA ⊢
  have h1 := hA.tl1
  have h2 := h1.tl
  have hb := hB [] R h2
  unfold PB at hb
  have h3 := (show At l (i + 1 + (kE A).length) ((mkT [123] :: (blK Body ++ [mkT [125]])) ++ []) R by rw [List.append_nil]; exact h2).tl
  have hi3 := h2.le (by simp)
  simp only [List.length_cons, List.length_append, List.length_nil] at h3 hi3
  rw [ps_s]
  unfold B_h0 F_h0_j1
  rw [acc_no hl hA rfl]
  simp only [bind_s, cond_false]
  rw [acc_no hl hA rfl]
  simp only [bind_s, cond_false]
  rw [acc_no hl hA rfl]
  simp only [bind_s, cond_false]
  rw [acc_no hl hA rfl]
  simp only [bind_s, cond_false]
  rw [acc_no hl hA rfl]
  simp only [bind_s, cond_false]
  rw [acc_yes hl hA rfl]
  simp only [bind_s, cond_true]
  rw [ex_yes hl hg hT h1.asc (lev_open _) hn]
  simp only [bind_s, Pn.on]
  rw [hb]
  simp only [bind_s, Pn.on]
  rw [p_accept n l _ _ (by omega), show i + 1 + (kE A).length + (blK Body).length + 2 = i + 1 + (kE A).length + ((blK Body).length + (0 + 1) + 1) by omega, h3.is, show isH ([] ++ R) [101, 108, 115, 101] = false from hR]
  simp only [bind_s, cond_false]
  exact retk (by simp only [List.length_cons, List.length_append, List.length_nil]; omega)
 ·have e : stK ⟨5, [], 0, A, zE, Body, Else⟩ = kwT [105, 102] :: (kE A ++ mkT [123] :: (blK Body ++ mkT [125] :: (kwT [101, 108, 115, 101] :: mkT [123] :: (blK Else ++ [mkT [125]])))) := by simp only [stK, h0]; simp
  rw [e] at hA ⊢
  have h1 := hA.tl1
  have h2 := h1.tl
  have hb := hB _ R h2
  unfold PB at hb
  have h3 := (show At l (i + 1 + (kE A).length) ((mkT [123] :: (blK Body ++ [mkT [125]])) ++ (kwT [101, 108, 115, 101] :: mkT [123] :: (blK Else ++ [mkT [125]]))) R by simpa using h2).tl
  simp only [List.length_cons, List.length_append, List.length_nil] at h3
  rw [show i + 1 + (kE A).length + ((blK Body).length + (0 + 1) + 1) = i + 1 + (kE A).length + (blK Body).length + 2 by omega] at h3
  have h4 := h3.tl1
  have he := hE _ R h0 h4
  unfold PB at he
  rw [ps_s]
  unfold B_h0 F_h0_j1
  rw [acc_no hl hA rfl]
  simp only [bind_s, cond_false]
  rw [acc_no hl hA rfl]
  simp only [bind_s, cond_false]
  rw [acc_no hl hA rfl]
  simp only [bind_s, cond_false]
  rw [acc_no hl hA rfl]
  simp only [bind_s, cond_false]
  rw [acc_no hl hA rfl]
  simp only [bind_s, cond_false]
  rw [acc_yes hl hA rfl]
  simp only [bind_s, cond_true]
  rw [ex_yes hl hg hT h1.asc (lev_open _) hn]
  simp only [bind_s, Pn.on]
  rw [hb]
  simp only [bind_s, Pn.on]
  rw [acc_yes hl h3 rfl]
  simp only [bind_s, cond_true]
  rw [he]
  simp only [bind_s, Pn.on]
  exact retk (by simp only [List.length_cons, List.length_append, List.length_nil]; omega)
theorem ps_for {i n d : Nat} {Name : List UInt8} {Max : Int} {A B : Expr} {Body : List Stmt} {R : List Token} (hl : l.length ≤ 1000000000) (hg : GoodT l) (hT : okT A) (hU : okT B) (hA : At l i (stK ⟨6, Name, Max, A, B, Body, []⟩) R) (hn : 24 * l.length + 100 ≤ n)
  (hB : ∀ k R', At l k (mkT [123] :: (blK Body ++ [mkT [125]])) R' → PB l n d k Body) : PS l (n + 2) d i ⟨6, Name, Max, A, B, Body, []⟩ := by
 have e : stK ⟨6, Name, Max, A, B, Body, []⟩ = kwT [102, 111, 114] :: nmT Name :: mkT [61] :: (kE A ++ kwT [116, 111] :: (kE B ++ kwT [109, 97, 120] :: inT Max :: mkT [123] :: (blK Body ++ [mkT [125]]))) := by simp [stK]
 unfold PS
 rw [e] at hA ⊢
 have h1 := hA.tl1
 have h2 := h1.tl1
 have h3 := h2.tl1
 have h4 := h3.tl
 have h5 := h4.tl1
 have h6 := h5.tl
 have h7 := h6.tl1
 have h8 := h7.tl1
 have hb := hB _ _ h8
 unfold PB at hb
 obtain ⟨u, t1, t2, t3⟩ := take_yes (n := n) (kd := 1) hl h1 rfl
 obtain ⟨v, v1, v2, v3⟩ := take_yes (n := n) (kd := 3) hl h7 rfl
 rw [ps_s]
 unfold B_h0
 rw [acc_no hl hA rfl]
 simp only [bind_s, cond_false]
 rw [acc_no hl hA rfl]
 simp only [bind_s, cond_false]
 rw [acc_no hl hA rfl]
 simp only [bind_s, cond_false]
 rw [acc_no hl hA rfl]
 simp only [bind_s, cond_false]
 rw [acc_no hl hA rfl]
 simp only [bind_s, cond_false]
 rw [acc_no hl hA rfl]
 simp only [bind_s, cond_false]
 rw [acc_yes hl hA rfl]
 simp only [bind_s, cond_true]
 rw [pl_s]
 unfold B_m0
 rw [t1]
 simp only [bind_s, Pn.on]
 rw [exp_yes hl h2 rfl]
 simp only [bind_s, Pn.on]
 rw [ex_yes hl hg hT h3.asc (lev_to _) hn]
 simp only [bind_s, Pn.on]
 rw [exp_yes hl h4 rfl]
 simp only [bind_s, Pn.on]
 rw [ex_yes hl hg hU h5.asc (lev_max _) hn]
 simp only [bind_s, Pn.on]
 rw [exp_yes hl h6 rfl]
 simp only [bind_s, Pn.on]
 rw [v1]
 simp only [bind_s, Pn.on]
 rw [hb]
 simp only [bind_s, Pn.on, eta_E, eta_S, t2, v3]
 exact retk (by simp only [List.length_cons, List.length_append, List.length_nil]; omega)
mutual
theorem p_st (hl : l.length ≤ 1000000000) (hg : GoodT l) : ∀ (s : Stmt) (d i n : Nat) (R : List Token), okSt s d → isH R [101, 108, 115, 101] = false → At l i (stK s) R → fst s ≤ 1000000 → 24 * l.length + 200 + 3 * fst s ≤ n → PS l n d i s
 | ⟨Op, Name, Max, A, B, Body, Else⟩, d, i, n, R, hok, hR, hA, hf, hn => by
  obtain ⟨hd, hs, hb1, hb2⟩ := (okSt_eq _ _).1 hok
  have hfs : fst ⟨Op, Name, Max, A, B, Body, Else⟩ = 80 + Name.length + fu A + fu B + fss Body + fss Else := rfl
  have hlB := fss_len Body
  have hlE := fss_len Else
  have ihB := fun k n R => p_bl hl hg Body d k n R hb1
  have ihE := fun k n R => p_bl hl hg Else d k n R hb2
  obtain ⟨n, rfl⟩ : ∃ k, n = k + 3 := ⟨n - 3, by omega⟩
  rcases hs with ⟨ho, hq, hN, hT⟩ | ⟨hq, hT, hU⟩ | ⟨ho, hq, hT⟩ | ⟨hq, hT⟩ | ⟨hq, hN, hm, hT, hU⟩ | ⟨hq, hm⟩
  ·simp only [Stmt.mk.injEq, true_and, and_true] at hq ho
   obtain ⟨rfl, rfl, rfl, rfl⟩ := hq
   rcases ho with rfl | rfl
   ·exact ps_let hl hg hT hA (by omega)
   ·exact ps_set hl hg hT hA (by omega)
  ·simp only [Stmt.mk.injEq, true_and, and_true] at hq
   obtain ⟨rfl, rfl, rfl, rfl, rfl⟩ := hq
   exact ps_put hl hg hT hU hA (by omega)
  ·simp only [Stmt.mk.injEq, true_and, and_true] at hq ho
   obtain ⟨rfl, rfl, rfl, rfl, rfl⟩ := hq
   rcases ho with rfl | rfl
   ·exact ps_del hl hg hT hA (by omega)
   ·exact ps_emit hl hg hT hA (by omega)
  ·simp only [Stmt.mk.injEq, true_and, and_true] at hq
   obtain ⟨rfl, rfl, rfl, rfl⟩ := hq
   refine ps_if (A := A) hl hg hT hR hA (by omega) (fun T' R' h => ?_) (fun k R' h0 h => ?_)
   ·refine pb_of hl h hd (by omega) (by omega) (ihB _ (n + 1) (T' ++ R') ?_ (by omega) (by omega))
    have := h.tl1
    rw [show blK Body ++ mkT [125] :: T' = (blK Body ++ [mkT [125]]) ++ T' by simp] at this
    exact this.asc
   ·exact pb_of hl h hd (by omega) (by omega) (ihE _ (n + 1) R' h.tl1 (by omega) (by omega))
  ·simp only [Stmt.mk.injEq, true_and, and_true] at hq
   obtain ⟨rfl, rfl⟩ := hq
   refine ps_for (A := A) (B := B) hl hg hT hU hA (by omega) (fun k R' h => ?_)
   exact pb_of hl h hd (by omega) (by omega) (ihB _ n R' h.tl1 (by omega) (by omega))
  ·simp only [Stmt.mk.injEq, true_and, and_true] at hq
   obtain ⟨rfl, rfl, rfl, rfl, rfl, rfl⟩ := hq
   exact ps_abort hl hA
theorem p_bl (hl : l.length ≤ 1000000000) (hg : GoodT l) : ∀ (b : List Stmt) (d k n : Nat) (R : List Token), okBl b (d + 1) → At l k (blK b ++ [mkT [125]]) R → fss b ≤ 1000000 → 24 * l.length + 200 + 3 * fss b ≤ n → PBl l n d k b
 | [], d, k, n, R, hok, hA, hf, hn => by
  intro i m acc hm ha
  obtain ⟨m, rfl⟩ : ∃ j, m = j + 1 := ⟨m - 1, by simp at hm; omega⟩
  simp only [F_c0_l3, F_c0_b3, F_c0_j2]
  rw [acc_yes hl (show At l k (mkT [125] :: []) R from hA) rfl]
  simp only [bind_s, Bool.not_true, cond_false, List.append_nil]
  exact retk rfl
 | s :: b, d, k, n, R, hok, hA, hf, hn => by
  intro i m acc hm ha
  simp only [List.length_cons] at hm ha
  obtain ⟨m, rfl⟩ : ∃ j, m = j + 1 := ⟨m - 1, by omega⟩
  have hfs : fss (s :: b) = fst s + 1 + fss b := rfl
  simp only [blK, List.append_assoc] at hA
  have hR : isH ((blK b ++ [mkT [125]]) ++ R) [101, 108, 115, 101] = false := by
   cases b with
   | nil => rfl
   | cons x b => simp only [blK, List.append_assoc]; exact (stK_first hok.2.1 _).2
  have h1 := p_st hl hg s (d + 1) k n _ hok.1 hR hA.asc (by omega) (by omega)
  have h2 := p_bl hl hg b d (k + (stK s).length) n R hok.2 hA.tl (by omega) (by omega) i m (acc ++ [s]) (by omega) (by simp only [List.length_append, List.length_cons, List.length_nil]; omega)
  unfold PS at h1
  have hk : k < l.length := by
   by_cases hk : k < l.length
   ·exact hk
   ·unfold At at hA
    have := congrArg List.length hA
    simp only [List.length_drop, List.length_map, List.length_append, List.length_cons, List.length_nil] at this
    omega
  simp only [F_c0_l3, F_c0_b3]
  rw [p_accept n l k _ (by omega), hA.is, List.append_assoc, (stK_first hok.1 _).1]
  simp only [bind_s, Bool.not_false, cond_true, cond_false]
  rw [wr_s (by have := ((okSt_eq _ _).1 hok.1).1; omega), h1]
  simp only [bind_s, Pn.on]
  rw [show (acc.length + ([s] : List Stmt).length) = acc.length + 1 from rfl, room192 (by omega)]
  simp only [ass_t]
  rw [h2]
  simp only [blK, List.append_assoc, List.cons_append, List.nil_append, List.length_append]
  exact retk (by omega)
end
end
end Go.Ab.Y

namespace Go.Ab.Y
open Go Go.Ab Go.Proofs

def tyW (t : Int) : List UInt8 := if t = 1 then [105, 110, 116] else if t = 2 then [115, 116, 114] else [98, 111, 111, 108]
def paX (x : Param) : List UInt8 := (x.Name ++ [58, 32]) ++ tyW x.Type_
def pa1 (x : Param) : List Token := [nmT x.Name, mkT [58], kwT (tyW x.Type_)]
def paR : List Param → List Token
 | [] => []
 | x :: l => mkT [44] :: (pa1 x ++ paR l)
def paK : List Param → List Token
 | [] => []
 | x :: l => pa1 x ++ paR l
def okPa (x : Param) : Prop := nameS x.Name = true ∧ 1 ≤ x.Type_ ∧ x.Type_ ≤ 3
theorem paS_ok : ∀ (l b : List Param), paS b l = 0 → ∀ x, x ∈ l → okPa x
 | [], b, h, x, hx => by cases hx
 | y :: l, b, h, x, hx => by
  unfold paS at h
  split at h
  ·omega
  rename_i g1
  split at h
  ·omega
  rename_i g2
  split at h
  ·omega
  rename_i g3
  rcases List.mem_cons.1 hx with rfl | hx
  ·exact ⟨by simpa using g1, by omega, by omega⟩
  ·exact paS_ok l _ h x hx
theorem parsS_ok {l : List Param} (h : parsS l = 0) : l.length ≤ 6 ∧ ∀ x, x ∈ l → okPa x := by
 unfold parsS at h
 split at h
 ·omega
 ·exact ⟨by omega, paS_ok l [] h⟩
def paJ (l : List Param) : List UInt8 := Lib.join (l.map paX) [44, 32]
def prX (p : Proc) : List UInt8 := lnX 0 [[112, 114, 111, 99, 32], p.Name, [40], paJ p.Params, [41, 32, 123]] ++ (blX p.Body 1 ++ lnX 0 [[125]])
def prK (p : Proc) : List Token := kwT [112, 114, 111, 99] :: nmT p.Name :: mkT [40] :: (paK p.Params ++ mkT [41] :: mkT [123] :: (blK p.Body ++ [mkT [125]]))
theorem tyW_kws (t : Int) : tyW t ∈ kws := by
 unfold tyW
 by_cases h1 : t = 1
 ·rw [if_pos h1]; decide
 ·rw [if_neg h1]
  by_cases h2 : t = 2
  ·rw [if_pos h2]; decide
  ·rw [if_neg h2]; decide
theorem tyW_len (t : Int) : (tyW t).length ≤ 4 := by
 unfold tyW; split
 ·simp
 ·split <;> simp
theorem typeWord (n : Nat) (t : Int) : F_dd0 n t = some (tyW t) := by
 unfold F_dd0 tyW
 by_cases h1 : t = 1
 ·simp [h1]
 ·by_cases h2 : t = 2
  ·simp [h2]
  ·simp [h1, h2]
theorem Tk_pa1 {x : Param} {r : List UInt8} {T : List Token} (hx : okPa x) (hb : brk r) (h : Tk r T) : Tk (paX x ++ r) (pa1 x ++ T) := by
 have e : paX x ++ r = x.Name ++ 58 :: 32 :: (tyW x.Type_ ++ r) := by simp [paX]
 rw [e]
 exact Tk_nm hx.1 (brk_c rfl) (Tk_spell (t := mkT [58]) (vT_mk (by decide)) (bh_mark (by decide)) (Tk_sp (Tk_spell (t := kwT (tyW x.Type_)) (vT_kw (tyW_kws _)) (bh_brk (by simp [kwT]) hb) h)))
theorem joinT_cons (x : List UInt8) (l : List (List UInt8)) : Lib.joinTail [44, 32] (x :: l) = 44 :: 32 :: (x ++ Lib.joinTail [44, 32] l) := by simp [Lib.joinTail]
theorem brk_tail {l : List Param} {r : List UInt8} (hb : brk r) : brk (Lib.joinTail [44, 32] (l.map paX) ++ r) := by
 cases l with
 | nil => exact hb
 | cons x l => rw [List.map_cons, joinT_cons]; exact brk_c rfl
theorem Tk_paR {r : List UInt8} {T : List Token} (hb : brk r) (h : Tk r T) : ∀ l : List Param, (∀ x, x ∈ l → okPa x) → Tk (Lib.joinTail [44, 32] (l.map paX) ++ r) (paR l ++ T)
 | [], _ => h
 | x :: l, hl => by
  rw [List.map_cons, joinT_cons]
  have := Tk_pa1 (hl x (by simp)) (brk_tail (l := l) hb) (Tk_paR hb h l fun y hy => hl y (by simp [hy]))
  simp only [List.cons_append, List.append_assoc, paR]
  exact Tk_spell (t := mkT [44]) (vT_mk (by decide)) (bh_mark (by decide)) (Tk_sp this)
theorem Tk_paK {r : List UInt8} {T : List Token} (hb : brk r) (h : Tk r T) (l : List Param) (hl : ∀ x, x ∈ l → okPa x) : Tk (paJ l ++ r) (paK l ++ T) := by
 unfold paJ
 cases l with
 | nil => exact h
 | cons x l =>
  rw [List.map_cons, Lib.join_cons]
  simp only [List.append_assoc, paK]
  exact Tk_pa1 (hl x (by simp)) (brk_tail (l := l) hb) (Tk_paR hb h l fun y hy => hl y (by simp [hy]))
theorem Tk_pr {p : Proc} (hp : okP p) {r : List UInt8} {T : List Token} (h : Tk r T) : Tk (prX p ++ r) (prK p ++ T) := by
 obtain ⟨h1, h2, h3⟩ := hp
 have e : prX p ++ r = [112, 114, 111, 99] ++ 32 :: (p.Name ++ 40 :: (paJ p.Params ++ 41 :: 32 :: 123 :: 10 :: (blX p.Body 1 ++ (lnX 0 [[125]] ++ r)))) := by simp [prX, lnX, ind, cat]
 have e2 : prK p ++ T = kwT [112, 114, 111, 99] :: nmT p.Name :: mkT [40] :: (paK p.Params ++ mkT [41] :: mkT [123] :: (blK p.Body ++ mkT [125] :: T)) := by simp [prK]
 rw [e, e2]
 exact Tk_kw (by decide) (Tk_nm h1 (brk_c rfl) (Tk_lp (Tk_paK (brk_c rfl) (Tk_rp (Tk_open (Tk_bl p.Body 1 1 h3 _ _ (Tk_shut 0 h)))) p.Params (parsS_ok h2).2)))
theorem paX_len {x : Param} (h : okPa x) : (paX x).length ≤ 22 := by
 have := name_len h.1
 have := tyW_len x.Type_
 unfold paX; simp only [List.length_append, List.length_cons, List.length_nil]; omega
theorem joinT_len : ∀ l : List Param, (∀ x, x ∈ l → okPa x) → (Lib.joinTail [44, 32] (l.map paX)).length ≤ 24 * l.length
 | [], _ => Nat.le_refl _
 | x :: l, h => by
  have h1 := joinT_len l fun y hy => h y (by simp [hy])
  have h2 := paX_len (h x (by simp))
  rw [List.map_cons, joinT_cons]
  simp only [List.length_append, List.length_cons]; omega
theorem paJ_len {l : List Param} (hl : ∀ x, x ∈ l → okPa x) : (paJ l).length ≤ 24 * l.length := by
 unfold paJ
 cases l with
 | nil => exact Nat.le_refl _
 | cons x l =>
  have h1 := joinT_len l fun y hy => hl y (by simp [hy])
  have h2 := paX_len (hl x (by simp))
  rw [List.map_cons, Lib.join_cons]
  simp only [List.length_append, List.length_cons]; omega
theorem prX_len {p : Proc} (hp : okP p) : (prX p).length ≤ 4 * fss p.Body + 300 := by
 obtain ⟨h1, h2, h3⟩ := hp
 obtain ⟨h4, h5⟩ := parsS_ok h2
 have h6 := paJ_len h5
 have h7 := name_len h1
 have h8 := blX_len p.Body 1 h3
 unfold prX
 simp only [List.length_append, lnX_len, cat, List.length_cons, List.length_nil]; omega
theorem printer_Proc {n : Nat} (p : Proc) (hi : inP p) (hv : vpS p = 0) (hn : 700000 ≤ n) (hf : fps p.Params ≤ 100000) (hB : fss p.Body ≤ 100000) : F_bg0 n p = some (prX p) := by
 have hp := vpS_ok hi hv
 have hp' := hp
 obtain ⟨h1, h2, h3⟩ := hp
 obtain ⟨h4, h5⟩ := parsS_ok h2
 have h6 := paJ_len h5
 have h7 := name_len h1
 have h8 := blX_len p.Body 1 h3
 have h9 : (blX p.Body (0 + 1)).length ≤ 4 * fss p.Body := h8
 unfold F_bg0
 rw [ast_Validate p (by omega) (by omega) (by omega) (by omega) (by omega), hv]
 simp only [bind_s, decide_true, Bool.not_true, cond_false]
 have hloop : ∀ m i, p.Params.length < i + m → i ≤ p.Params.length → F_bg0_l2 n p m (i : Int) ((p.Params.take i).map paX) = some (prX p) := by
  intro m
  induction m with
  | zero => intro i g1 g2; omega
  | succ m ih =>
   intro i g1 g2
   simp only [F_bg0_l2, F_bg0_b2, Int.ofNat_lt, Int.toNat_natCast]
   by_cases hi : i < p.Params.length
   ·have hx := h5 (p.Params.getD i default) (by rw [List.getD_eq_getElem?_getD, List.getElem?_eq_getElem hi]; exact List.getElem_mem hi)
    have hnx := name_len hx.1
    have htx := tyW_len (p.Params.getD i default).Type_
    have := ih (i + 1) (by omega) (by omega)
    rw [take_s p.Params i hi, List.map_append] at this
    simp only [List.map_cons, List.map_nil] at this
    simp only [hi, decide_true, cond_true, inB_n hi, ass_t]
    rw [strRoom_lt (by simp only [List.length_cons, List.length_nil]; omega), typeWord]
    simp only [ass_t, bind_s]
    rw [strRoom_lt (by simp only [List.length_append, List.length_cons, List.length_nil]; omega)]
    simp only [ass_t]
    rw [show room ((List.map paX (p.Params.take i)).length + ([(p.Params.getD i default).Name ++ [58, 32] ++ tyW (p.Params.getD i default).Type_] : List (List UInt8)).length) 16 = true by
     simp [room]; omega]
    simp only [ass_t]
    rw [wr_s (by omega)]
    exact this
   ·simp only [hi, decide_false, cond_false]
    obtain rfl : i = p.Params.length := by omega
    unfold F_bg0_j1
    rw [List.take_length]
    unfold F_ec0
    rw [show decide ((p.Params.map paX).length ≤ 140737488355328 ∧ (Lib.join (p.Params.map paX) [44, 32]).length ≤ 140737488355328) = true from decide_eq_true ⟨by rw [List.length_map]; omega, by show (paJ p.Params).length ≤ _; omega⟩]
    simp only [ass_t, bind_s]
    have hl := line_S (n := n) [[112, 114, 111, 99, 32], p.Name, [40], paJ p.Params, [41, 32, 123]] 0 [] (by simp only [cat, List.length_append, List.length_cons, List.length_nil]; omega) (by simp) (by omega) (by omega)
    have hl : F_j0 n [[112, 114, 111, 99, 32], p.Name, [40], Lib.join (p.Params.map paX) [44, 32], [41, 32, 123]] [] 0 = _ := hl
    rw [hl]
    simp only [bind_s, List.nil_append]
    have hb := pr_block n p.Body 0 (lnX 0 [[112, 114, 111, 99, 32], p.Name, [40], paJ p.Params, [41, 32, 123]]) h3 (by omega) (by omega) (by omega) (by simp only [lnX_len, cat, List.length_append, List.length_cons, List.length_nil]; omega)
    unfold PrB at hb
    rw [show F_f0 n p.Body (b2i (lnX 0 [[112, 114, 111, 99, 32], p.Name, [40], paJ p.Params, [41, 32, 123]])) 0 = _ from hb]
    simp only [bind_s]
    rw [line_S _ 0 _ (by simp only [cat, List.length_append, lnX_len, List.length_cons, List.length_nil]; omega) (by simp) (by omega) (by omega)]
    simp only [bind_s]
    unfold F_ct0
    rw [bytesOk_b2i, toB_b2i]
    have hlen := prX_len hp'
    have hpx : lnX 0 [[112, 114, 111, 99, 32], p.Name, [40], paJ p.Params, [41, 32, 123]] ++ blX p.Body (0 + 1) ++ lnX 0 [[125]] = prX p := by unfold prX; rw [List.append_assoc]
    rw [hpx]
    rw [show decide ((b2i (prX p)).length ≤ 9223372036854775807) = true from decide_eq_true (by rw [show (b2i (prX p)).length = (prX p).length by simp [b2i]]; omega)]
    rfl
 exact hloop n 0 (by omega) (by omega)
end Go.Ab.Y

namespace Go.Ab.Y
open Go Go.Ab Go.Proofs

section
variable {l : List Token}
theorem param_yes {i n : Nat} {x : Param} {R : List Token} (hl : l.length ≤ 1000000000) (hx : okPa x) (hA : At l i (pa1 x) R) : F_af0 n ⟨l, (i : Int)⟩ = some (.ret x ((i + 3 : Nat) : Int)) := by
 have hA : At l i (nmT x.Name :: mkT [58] :: kwT (tyW x.Type_) :: []) R := hA
 have h1 := hA.tl1
 have h2 := h1.tl1
 obtain ⟨u, t1, t2, t3⟩ := take_yes (n := n) (kd := 1) hl hA rfl
 obtain ⟨nm, ty⟩ := x
 unfold F_af0 F_af0_j1
 rw [t1]
 simp only [bind_s, Pn.on]
 rw [exp_yes hl h1 rfl]
 simp only [bind_s, Pn.on]
 obtain ⟨_, g1, g2⟩ := hx
 simp only at g1 g2
 have : ty = 1 ∨ ty = 2 ∨ ty = 3 := by omega
 rcases this with rfl | rfl | rfl
 ·rw [acc_yes hl h2 rfl]
  simp only [bind_s, cond_true, t2]
  exact retk rfl
 ·rw [acc_no hl h2 rfl]
  simp only [bind_s, cond_false]
  rw [acc_yes hl h2 rfl]
  simp only [bind_s, cond_true, t2]
  exact retk rfl
 ·rw [acc_no hl h2 rfl]
  simp only [bind_s, cond_false]
  rw [acc_no hl h2 rfl]
  simp only [bind_s, cond_false]
  rw [acc_yes hl h2 rfl]
  simp only [bind_s, cond_true, t2]
  exact retk rfl
theorem params_loop {n : Nat} {b : Int} {t : Token} (hl : l.length ≤ 1000000000) : ∀ (ps acc : List Param) (k m : Nat) (T R : List Token), (∀ x, x ∈ ps → okPa x) → At l k (paR ps ++ mkT [41] :: T) R → ps.length < m → acc.length + ps.length ≤ 1000 →
  F_k0_l3 n ⟨l, b⟩ t m (k : Int) acc = F_k0_j2 n ⟨l, b⟩ t ((k + (paR ps).length : Nat) : Int) (acc ++ ps)
 | [], acc, k, m, T, R, hx, hA, hm, ha => by
  obtain ⟨m, rfl⟩ : ∃ j, m = j + 1 := ⟨m - 1, by simp at hm; omega⟩
  simp only [F_k0_l3, F_k0_b3]
  rw [acc_no hl (show At l k (mkT [41] :: T) R from hA) rfl]
  simp only [bind_s, cond_false, List.append_nil]
  rfl
 | x :: ps, acc, k, m, T, R, hx, hA, hm, ha => by
  simp only [List.length_cons] at hm ha
  obtain ⟨m, rfl⟩ : ∃ j, m = j + 1 := ⟨m - 1, by omega⟩
  have hA : At l k (mkT [44] :: (pa1 x ++ paR ps ++ mkT [41] :: T)) R := hA
  have h1 := hA.tl1
  rw [List.append_assoc] at h1
  have h2 := params_loop (n := n) (b := b) (t := t) hl ps (acc ++ [x]) (k + 1 + (pa1 x).length) m T R (fun y hy => hx y (by simp [hy])) h1.tl (by omega) (by simp only [List.length_append, List.length_cons, List.length_nil]; omega)
  simp only [F_k0_l3, F_k0_b3]
  rw [acc_yes hl hA rfl]
  simp only [bind_s, cond_true]
  rw [param_yes hl (hx x (by simp)) h1.asc]
  simp only [bind_s, Pn.on]
  rw [show acc.length + ([x] : List Param).length = acc.length + 1 from rfl, room24 (by omega)]
  simp only [ass_t]
  have e3 : (pa1 x).length = 3 := rfl
  rw [e3] at h2
  rw [h2, List.append_assoc, show k + 1 + 3 + (paR ps).length = k + (paR (x :: ps)).length by simp only [paR, List.length_cons, List.length_append, e3]; omega]
  rfl
theorem proc_tl {n i k : Nat} {b : Int} {t : Token} {ps : List Param} {Body : List Stmt} {R : List Token} (hl : l.length ≤ 1000000000) (hg : GoodT l) (hok : okBl Body 1) (hf : fss Body ≤ 1000000) (hn : 24 * l.length + 201 + 3 * fss Body ≤ n) (hA : At l k (mkT [123] :: (blK Body ++ [mkT [125]])) R) :
  F_k0_j1 n ⟨l, b⟩ t (k : Int) ps = some (.ret ⟨t.Text, ps, Body⟩ ((k + (blK Body).length + 2 : Nat) : Int)) := by
 have hlB := fss_len Body
 obtain ⟨n, rfl⟩ : ∃ j, n = j + 1 := ⟨n - 1, by omega⟩
 have h1 := p_bl hl hg Body 0 (k + 1) n R hok hA.tl1 hf (by omega)
 have h2 := pb_of hl hA (by omega) (by omega) (by omega) h1
 unfold PB at h2
 unfold F_k0_j1
 rw [show F_c0 (n + 1) 0 ⟨l, (k : Int)⟩ = _ from h2]
 simp only [bind_s, Pn.on]
theorem proc_yes {n i : Nat} {p : Proc} {R : List Token} (hl : l.length ≤ 1000000000) (hg : GoodT l) (hp : okP p) (hf : fss p.Body ≤ 1000000) (hn : 24 * l.length + 201 + 3 * fss p.Body ≤ n) (hA : At l i (prK p) R) :
  F_k0 n ⟨l, (i : Int)⟩ = some (.ret p ((i + (prK p).length : Nat) : Int)) := by
 obtain ⟨nm, ps, bd⟩ := p
 obtain ⟨g1, g2, g3⟩ := hp
 obtain ⟨g4, g5⟩ := parsS_ok g2
 simp only at g1 g4 g5 g3 hf hn
 have hA : At l i (kwT [112, 114, 111, 99] :: nmT nm :: mkT [40] :: (paK ps ++ mkT [41] :: mkT [123] :: (blK bd ++ [mkT [125]]))) R := hA
 have h1 := hA.tl1
 have h2 := h1.tl1
 have h3 := h2.tl1
 obtain ⟨u, t1, t2, t3⟩ := take_yes (n := n) (kd := 1) hl h1 rfl
 have t2 : u.Text = nm := t2
 unfold F_k0
 rw [exp_yes hl hA rfl]
 simp only [bind_s, Pn.on]
 rw [t1]
 simp only [bind_s, Pn.on]
 rw [exp_yes hl h2 rfl]
 simp only [bind_s, Pn.on]
 cases ps with
 | nil =>
  have h3 : At l (i + 1 + 1 + 1) (mkT [41] :: mkT [123] :: (blK bd ++ [mkT [125]])) R := h3
  rw [acc_yes hl h3 rfl]
  simp only [bind_s, Bool.not_true, cond_false]
  rw [proc_tl (i := 0) hl hg g3 hf hn h3.tl1, t2]
  exact retk (by simp only [prK, paK, List.length_cons, List.length_append, List.length_nil]; omega)
 | cons x ps =>
  have e3 : (pa1 x).length = 3 := rfl
  simp only [paK, List.append_assoc] at h3
  have h4 := h3.tl
  rw [e3] at h4
  have h5 := h4.tl
  rw [acc_no hl (show At l (i + 1 + 1 + 1) (nmT x.Name :: (mkT [58] :: kwT (tyW x.Type_) :: (paR ps ++ mkT [41] :: mkT [123] :: (blK bd ++ [mkT [125]])))) R from h3) rfl]
  simp only [bind_s, Bool.not_false, cond_true]
  rw [param_yes hl (g5 x (by simp)) h3.asc]
  simp only [bind_s, Pn.on]
  rw [show (([] : List Param).length + ([x] : List Param).length) = 1 from rfl, room24 (by omega)]
  simp only [ass_t, List.nil_append]
  simp only [List.length_cons] at g4
  rw [params_loop hl ps [x] _ n _ R (fun y hy => g5 y (by simp [hy])) h4 (by omega) (by simp; omega)]
  unfold F_k0_j2
  rw [exp_yes hl h5 rfl]
  simp only [bind_s, Pn.on]
  rw [proc_tl (i := 0) hl hg g3 hf hn h5.tl1, t2]
  exact retk (by simp only [prK, paK, e3, List.length_cons, List.length_append, List.length_nil]; omega)
end
theorem parser_Proc_of {n : Nat} {p : Proc} (hi : inP p) (hv : vpS p = 0) (hn : 900000 ≤ n) (hf : fps p.Params ≤ 100000) (hB : fss p.Body ≤ 100000) (hs : (prX p).length ≤ 16384) : F_am0 n (prX p) = some (p, 0, 0) := by
 have hp := vpS_ok hi hv
 have hT : Tk (prX p) (prK p) := by
  have := Tk_pr hp Tk.nil
  rwa [List.append_nil, List.append_nil] at this
 have hN := name_len hp.1
 obtain ⟨l, h1, h2, h3, h4, h5⟩ := tokenize_Tk hT hs (n := n) (by omega) (by omega)
 have hlen := tw_len l
 have hml := map_len h2
 unfold F_am0 F_bt0 F_dq0
 rw [h1]
 simp only [bind_s, decide_true, Bool.not_true, cond_false]
 have hpy := proc_yes (l := l) (i := 0) (n := n) (by omega) h4 hp (by omega) (by omega) (At_whole h2)
 rw [show F_k0 n ⟨l, 0⟩ = _ from hpy]
 simp only [bind_s, Pn.on, hml, Nat.zero_add, Int.lt_irrefl, decide_false, cond_false, decide_true, cond_true, eta_P]
 rw [ast_Validate p (by omega) (by omega) (by omega) (by omega) (by omega), hv]
 simp only [bind_s, F_am0_j1, decide_true, Bool.not_true, cond_false, eta_P]
end Go.Ab.Y

namespace Go.Ab.Y
open Go Go.Ab Go.Proofs

theorem ae_s (n : Nat) : F_z0 (n + 1) = B_z0 n (F_z0 n) (F_o0 n) := rfl
theorem aes_s (n : Nat) : F_o0 (n + 1) = B_o0 n (F_z0 n) (F_o0 n) := rfl
theorem as_s (n : Nat) : F_aj0 (n + 1) = B_aj0 n (F_i0 n) (F_aj0 n) := rfl
theorem ass_s (n : Nat) : F_i0 (n + 1) = B_i0 n (F_i0 n) (F_aj0 n) := rfl
theorem ast_equalExpr_self : ∀ (n : Nat) (e : Expr), 2 * fu e ≤ n → fu e ≤ 140737488351232 → F_z0 n e e = some true := by
 intro n
 induction n using Nat.strongRecOn with
 | _ n ih =>
  intro e h hl
  have hfe := fu_eq e
  obtain ⟨n, rfl⟩ : ∃ k, n = k + 2 := ⟨n - 2, by omega⟩
  have hal := fus_len e.Args
  rw [ae_s]
  unfold B_z0
  simp only [decide_true, cond_true]
  rw [aes_s]
  unfold B_o0
  simp only [decide_true, Bool.not_true, cond_false]
  have hloop : ∀ m i, e.Args.length < i + m → i ≤ e.Args.length → F_o0_l2 n (F_z0 n) (F_o0 n) e.Args e.Args m (i : Int) = some true := by
   intro m
   induction m with
   | zero => intro i h1 h2; omega
   | succ m ihm =>
    intro i h1 h2
    simp only [F_o0_l2, F_o0_b2, F_o0_j1]
    by_cases hi : i < e.Args.length
    ·have hg := fus_get e.Args i hi
     rw [wr_s (by omega), ihm (i + 1) (by omega) (by omega), Int.toNat_natCast]
     simp only [hi, inB_n hi, Int.ofNat_lt, decide_true, cond_true, ass_t]
     rw [ih n (by omega) _ (by omega) (by omega)]
     rfl
    ·simp only [hi, Int.ofNat_lt, decide_false, cond_false]
  rw [show F_o0_l2 n (F_z0 n) (F_o0 n) e.Args e.Args n 0 = _ from hloop n 0 (by omega) (by omega)]
  rfl
theorem ast_equalBody_self : ∀ (n : Nat) (l : List Stmt), 2 * fss l + 3 ≤ n → fss l ≤ 140737488351232 → F_i0 n l l = some true := by
 intro n
 induction n using Nat.strongRecOn with
 | _ n ih =>
  intro l h hl
  obtain ⟨n, rfl⟩ : ∃ k, n = k + 2 := ⟨n - 2, by omega⟩
  have hal := fss_len l
  rw [ass_s]
  unfold B_i0
  simp only [decide_true, Bool.not_true, cond_false]
  have hloop : ∀ m i, l.length < i + m → i ≤ l.length → F_i0_l2 (n + 1) (F_i0 (n + 1)) (F_aj0 (n + 1)) l l m (i : Int) = some true := by
   intro m
   induction m with
   | zero => intro i h1 h2; omega
   | succ m ihm =>
    intro i h1 h2
    simp only [F_i0_l2, F_i0_b2, F_i0_j1, eta_E, eta_S]
    by_cases hi : i < l.length
    ·have hg := fss_get l i hi
     rw [wr_s (by omega), ihm (i + 1) (by omega) (by omega), Int.toNat_natCast]
     generalize l.getD i default = s at hg
     have hfs := fst_eq s
     simp only [hi, inB_n hi, Int.ofNat_lt, decide_true, cond_true, ass_t]
     rw [as_s]
     unfold B_aj0
     simp only [decide_true, cond_true, eta_E]
     rw [ast_equalExpr_self n s.A (by omega) (by omega), ast_equalExpr_self n s.B (by omega) (by omega), ih n (by omega) s.Body (by omega) (by omega), ih n (by omega) s.Else (by omega) (by omega)]
     rfl
    ·simp only [hi, Int.ofNat_lt, decide_false, cond_false]
  exact hloop (n + 1) 0 (by omega) (by omega)
theorem ast_Equal_self {n : Nat} (p : Proc) (hP : p.Params.length < n) (hP2 : p.Params.length ≤ 140737488351232) (hB : 2 * fss p.Body + 3 ≤ n) (hB2 : fss p.Body ≤ 140737488351232) : F_ej0 n p p = some true := by
 unfold F_ej0 F_at0
 simp only [decide_true, Bool.not_true, cond_false, cond_true]
 have hloop : ∀ m i, p.Params.length < i + m → i ≤ p.Params.length → F_at0_l2 n p.Params p.Params m (i : Int) = some true := by
  intro m
  induction m with
  | zero => intro i h1 h2; omega
  | succ m ihm =>
   intro i h1 h2
   simp only [F_at0_l2, F_at0_b2, F_at0_j1]
   by_cases hi : i < p.Params.length
   ·rw [wr_s (by omega), ihm (i + 1) (by omega) (by omega)]
    simp only [hi, inB_n hi, Int.ofNat_lt, decide_true, cond_true, ass_t, Bool.and_self, Bool.not_true, cond_false]
   ·simp only [hi, Int.ofNat_lt, decide_false, cond_false]
 rw [show F_at0_l2 n p.Params p.Params n 0 = _ from hloop n 0 (by omega) (by omega)]
 simp only [bind_s, cond_true]
 rw [ast_equalBody_self n p.Body hB hB2]
 rfl
end Go.Ab.Y

namespace Go.Ab.Y
open Go Go.Ab Go.Proofs

theorem mem_getD {α : Type} [Inhabited α] {l : List α} {i : Nat} (h : i < l.length) : l.getD i default ∈ l := by
 rw [List.getD_eq_getElem?_getD, List.getElem?_eq_getElem h]; exact List.getElem_mem h
end Go.Ab.Y

namespace Go.Ab.Y
open Go Go.Ab Go.Proofs

theorem val_lt : ∀ (l : List UInt8) (u : Nat), l.all digB = true → val u l < (u + 1) * 10 ^ l.length
 | [], u, _ => by simp [val_nil]
 | c :: l, u, h => by
  simp only [List.all_cons, Bool.and_eq_true, digB_iff] at h
  have := val_lt l (u * 10 + (c.toNat - 48)) h.2
  rw [val_cons, List.length_cons, Nat.pow_succ]
  have h2 : (u * 10 + (c.toNat - 48) + 1) * 10 ^ l.length ≤ ((u + 1) * 10) * 10 ^ l.length := Nat.mul_le_mul_right _ (by omega)
  rw [Nat.mul_assoc, Nat.mul_comm 10] at h2
  omega
theorem dec_le : ∀ (k u : Nat), u < 10 ^ (k + 1) → (Lib.decDigits u).length ≤ k + 1
 | 0, u, h => by
  rw [dec_eq, if_pos (by simpa using h)]; simp
 | k + 1, u, h => by
  rw [dec_eq]
  by_cases hu : u < 10
  ·rw [if_pos hu]; simp
  ·rw [if_neg hu]
   have := dec_le k (u / 10) (by rw [Nat.pow_succ] at h; omega)
   simp only [List.length_append, List.length_cons, List.length_nil]; omega
theorem litS_sp : ∀ (l acc : List UInt8) (p : List UInt8 × Nat), litS l acc = .inr p → acc.all okB = true → acc.length ≤ 64 → p.1.all okB = true ∧ p.1.length ≤ 64 ∧ (escS p.1).length + 1 ≤ (escS acc).length + p.2
 | [], acc, p, h, _, _ => by simp only [litS, reduceCtorEq] at h
 | [c], acc, p, h, ha, hl => by
  simp only [litS] at h
  split at h
  ·obtain rfl := Sum.inr.inj h; exact ⟨ha, hl, Nat.le_refl _⟩
  ·(repeat' split at h) <;> cases h
 | c :: d :: l, acc, p, h, ha, hl => by
  simp only [litS] at h
  split at h
  ·obtain rfl := Sum.inr.inj h; exact ⟨ha, hl, Nat.le_refl _⟩
  ·rename_i h34
   split at h
   ·rename_i h92
    split at h
    ·cases h
    ·rename_i hd
     split at h
     ·cases h
     ·rename_i h64
      cases hq : litS l (acc ++ [d]) with
      | inl e => rw [hq] at h; cases h
      | inr q =>
       rw [hq] at h
       obtain rfl := Sum.inr.inj h
       have hd' : d.toNat = 34 ∨ d.toNat = 92 := by omega
       have hdo : okB d = true := by
        unfold okB
        rcases hd' with e | e <;> rw [e] <;> rfl
       obtain ⟨h1, h2, h3⟩ := litS_sp l (acc ++ [d]) q hq (by simp [ha, hdo]) (by simp; omega)
       refine ⟨h1, h2, ?_⟩
       rw [escS_app, List.length_append] at h3
       have : (escS [d]).length = 2 := by simp only [escS]; rw [if_pos hd']; rfl
       simp only; omega
   ·rename_i h92
    split at h
    ·cases h
    ·rename_i hok
     split at h
     ·cases h
     ·rename_i h64
      cases hq : litS (d :: l) (acc ++ [c]) with
      | inl e => rw [hq] at h; cases h
      | inr q =>
       rw [hq] at h
       obtain rfl := Sum.inr.inj h
       obtain ⟨h1, h2, h3⟩ := litS_sp (d :: l) (acc ++ [c]) q hq (by simp [ha]; simpa using hok) (by simp; omega)
       refine ⟨h1, h2, ?_⟩
       rw [escS_app, List.length_append] at h3
       have : (escS [c]).length = 1 := by simp only [escS]; rw [if_neg (by omega)]; rfl
       simp only; omega
termination_by l => l.length
theorem tokS_vT (s : List UInt8) (hs : s ≠ []) (h : (tokS s).2.2 = 0) : vT (tokS s).1 ∧ (spell (tokS s).1).length ≤ (tokS s).2.1 := by
 have hm := tokS_mark s 0 hs h
 cases s with
 | nil => exact absurd rfl hs
 | cons c t =>
  unfold tokS at h hm ⊢
  simp only at h hm ⊢
  split at h
  ·rename_i hw
   rw [if_pos hw] at hm ⊢
   have hwl : 1 ≤ wordLen (c :: t) ∧ wordLen (c :: t) ≤ (c :: t).length := by
    unfold wordLen
    rw [List.takeWhile_cons_of_pos hw]
    have := (List.takeWhile_sublist (p := wordB) (l := t)).length_le
    simp only [List.length_cons]; omega
   have hlen : ((c :: t).take (wordLen (c :: t))).length = wordLen (c :: t) := by rw [List.length_take]; omega
   simp only at h ⊢
   generalize (c :: t).take (wordLen (c :: t)) = w at h hlen
   cases w with
   | nil => simp at hlen; omega
   | cons d w =>
    unfold wordT at h ⊢
    simp only at h ⊢
    split at h
    ·rename_i hlt
     rw [if_pos hlt]
     split at h
     ·rename_i hk
      rw [if_pos hk]
      exact ⟨⟨rfl, Or.inr (Or.inl ⟨rfl, of_decide_eq_true hk, rfl⟩)⟩, by show (d :: w).length ≤ _; omega⟩
     ·rename_i hk
      rw [if_neg hk]
      split at h
      ·rename_i hn
       rw [if_pos hn]
       exact ⟨⟨rfl, Or.inl ⟨rfl, hn, rfl⟩⟩, by show (d :: w).length ≤ _; omega⟩
      ·simp at h
    ·rename_i hlt
     rw [if_neg hlt]
     split at h
     ·rename_i hn
      rw [if_pos hn]
      unfold numS at hn ⊢
      split at hn
      ·rename_i hd
       rw [if_pos hd]
       split at hn
       ·rename_i hv
        rw [if_pos hv]
        refine ⟨⟨rfl, Or.inr (Or.inr (Or.inl ⟨rfl, rfl, by simp, by simp only; omega⟩))⟩, ?_⟩
        show (Lib.decDigits (Int.toNat ((val 0 (d :: w) : Nat) : Int))).length ≤ _
        rw [Int.toNat_natCast]
        have hv2 := val_lt (d :: w) 0 hd.1
        have := dec_le w.length (val 0 (d :: w)) (by simpa using hv2)
        simp only [List.length_cons] at hlen
        omega
       ·simp at hn
      ·simp at hn
     ·rename_i hn
      simp only at h
      exact absurd h hn
  ·rename_i hw
   rw [if_neg hw] at hm ⊢
   split at h
   ·rename_i h34
    rw [if_pos h34] at hm ⊢
    cases hq : litS t [] with
    | inl e =>
     rw [hq] at h
     exact absurd h (litS_inl _ _ _ hq)
    | inr p =>
     obtain ⟨h1, h2, h3⟩ := litS_sp t [] p hq rfl (by simp)
     refine ⟨⟨rfl, Or.inr (Or.inr (Or.inr (Or.inl ⟨rfl, by
      show plainS p.1 = true
      unfold plainS; rw [h1, decide_eq_true h2]; rfl, rfl⟩)))⟩, ?_⟩
     show (quo p.1).length ≤ p.2 + 1
     unfold quo
     simp only [escS, List.length_nil] at h3
     simp only [List.length_cons, List.length_append, List.length_nil]; omega
   ·rename_i h34
    rw [if_neg h34] at hm ⊢
    split at h
    ·simp at h
    ·rename_i hmk
     rw [if_neg hmk] at hm ⊢
     exact ⟨⟨rfl, Or.inr (Or.inr (Or.inr (Or.inr ⟨rfl, hm rfl, rfl⟩)))⟩, Nat.le_refl _⟩
end Go.Ab.Y

namespace Go.Ab.Y
open Go Go.Ab Go.Proofs

def sl : List Token → Nat
 | [] => 0
 | t :: l => (spell t).length + sl l
theorem tok_low (n : Nat) (src : List UInt8) (hs : src.length ≤ 1000000000) (hn : src.length < n) (hn2 : 100 < n) : ∀ (k i m : Nat) (out : List Token) (ln : Nat), src.length - i = k → i ≤ src.length → src.length < i + m → tw out ≤ 61 * i → 1 ≤ ln → ln ≤ i + 1 →
  ∃ r, F_p0_l2 n src m out (ln : Int) (i : Int) = some r ∧ (r.2.2 ≠ 0 ∨ ∃ l, r = (out ++ l, 0, 0) ∧ (∀ t, t ∈ l → 1 ≤ t.Line ∧ vT (er t)) ∧ sl l ≤ src.length - i) := by
 intro k
 induction k using Nat.strongRecOn with
 | _ k IH =>
  intro i m out ln hk hi hm hw hl1 hl2
  cases m with
  | zero => omega
  | succ m =>
   simp only [F_p0_l2, F_p0_b2, F_p0_j1]
   by_cases h : i < src.length
   ·have hd := drop_get src i 0 h
    simp only [F_p0_j4, F_p0_j3]
    rw [tok_l6 n src _ out _ (by omega) n i (by omega) hi, wr_s (by omega), wr_s (by omega), Int.toNat_natCast]
    have hcl := cm_le (src.drop i)
    have hIH : ∀ (j ln' : Nat), i < j → j ≤ src.length → 1 ≤ ln' → ln' ≤ j + 1 → _ := fun j ln' hj hj2 a b => IH (src.length - j) (by omega) j m out ln' rfl hj2 (by omega) (by omega) a b
    have hst : ∀ (j ln' : Nat), i < j → j ≤ src.length → 1 ≤ ln' → ln' ≤ j + 1 → ∃ r, F_p0_l2 n src m out (ln' : Int) (j : Int) = some r ∧ (r.2.2 ≠ 0 ∨ ∃ l, r = (out ++ l, 0, 0) ∧ (∀ t, t ∈ l → 1 ≤ t.Line ∧ vT (er t)) ∧ sl l ≤ src.length - i) := by
     intro j ln' hj hj2 a b
     obtain ⟨r, h1, h2⟩ := hIH j ln' hj hj2 a b
     refine ⟨r, h1, ?_⟩
     rcases h2 with h2 | ⟨l, q1, q2, q3⟩
     ·exact Or.inl h2
     ·exact Or.inr ⟨l, q1, q2, by omega⟩
    generalize hc : src.getD i 0 = c at hd
    simp only [h, inB_n h, Int.ofNat_lt, decide_true, cond_true, ass_t, eq_lit]
    by_cases h10 : c.toNat = 10
    ·simp only [h10, decide_true, cond_true]
     exact hst (i + 1) (ln + 1) (by omega) (by omega) (by omega) (by omega)
    ·simp only [h10, decide_false, cond_false]
     by_cases hb : c.toNat = 32 ∨ c.toNat = 9
     ·rcases hb with hb | hb
      ·simp only [hb, decide_true, cond_true]
       exact hst (i + 1) ln (by omega) (by omega) (by omega) (by omega)
      ·simp only [hb, show ¬ (9 = 32) by omega, decide_false, decide_true, cond_true, cond_false]
       exact hst (i + 1) ln (by omega) (by omega) (by omega) (by omega)
     ·have hb1 : ¬ c.toNat = 32 := fun e => hb (Or.inl e)
      have hb2 : ¬ c.toNat = 9 := fun e => hb (Or.inr e)
      simp only [hb1, hb2, decide_false, cond_false]
      by_cases h35 : c.toNat = 35
      ·simp only [h35, decide_true, cond_true]
       have e : cm (src.drop i) = 1 + cm (src.drop (i + 1)) := by rw [hd]; simp only [cm, h10, if_false]
       exact hst (i + cm (src.drop i)) ln (by omega) (by simp only [List.length_drop] at hcl; omega) (by omega) (by omega)
      ·simp only [h35, decide_false, cond_false, upB_n (Nat.le_of_lt h), ass_t]
       have hne : src.drop i ≠ [] := by rw [hd]; simp
       have htl : (src.drop (i + 1)).length = src.length - (i + 1) := List.length_drop
       have hf : F_di0 n (src.drop i) = some ((tokS (src.drop i)).1, (((tokS (src.drop i)).2.1 : Nat) : Int), (tokS (src.drop i)).2.2) := by
        rw [hd]; exact lexer_first c (src.drop (i + 1)) (by omega) (by omega)
       rw [hf]
       simp only [bind_s]
       by_cases he : (tokS (src.drop i)).2.2 = 0
       ·have hok := tokS_ok _ hne he
        have hvt := tokS_vT _ hne he
        have hdl : (src.drop i).length = src.length - i := List.length_drop
        generalize tokS (src.drop i) = T at he hok hvt
        obtain ⟨t, kk, e⟩ := T
        simp only at he hok hvt
        subst he
        have hol := tw_len out
        simp only [decide_true, Bool.not_true, cond_false, clone (show t.Text.length ≤ 281474976710656 by omega), bind_s, List.length_cons, List.length_nil, room40 (show out.length + (0 + 1) ≤ 1000000000000 by omega), ass_t]
        rw [show IntKind.i64.wrap ((i : Int) + ((kk : Nat) : Int)) = ((i + kk : Nat) : Int) by rw [wr] <;> omega]
        obtain ⟨r, h1, h2⟩ := IH (src.length - (i + kk)) (by omega) (i + kk) m (out ++ [⟨t.Kind, t.Text, t.N, (ln : Int)⟩]) ln rfl (by omega) (by omega) (by rw [tw_app]; simp only [tw]; omega) hl1 (by omega)
        refine ⟨r, h1, ?_⟩
        rcases h2 with h2 | ⟨l, q1, q2, q3⟩
        ·exact Or.inl h2
        ·refine Or.inr ⟨⟨t.Kind, t.Text, t.N, (ln : Int)⟩ :: l, by rw [q1]; simp, fun t' ht' => ?_, ?_⟩
         ·rcases List.mem_cons.1 ht' with rfl | ht'
          ·refine ⟨by simp only; omega, ?_⟩
           have hv := hvt.1
           exact ⟨rfl, hv.2⟩
          ·exact q2 t' ht'
         ·have : (spell ⟨t.Kind, t.Text, t.N, (ln : Int)⟩).length ≤ kk := hvt.2
          simp only [sl]; omega
       ·simp only [he, decide_false, Bool.not_false, cond_true]
        exact ⟨_, rfl, Or.inl he⟩
   ·simp only [h, Int.ofNat_lt, decide_false, cond_false]
    exact ⟨_, rfl, Or.inr ⟨[], by simp, fun t ht => (by cases ht), Nat.zero_le _⟩⟩
theorem tokenize_low {n : Nat} (src : List UInt8) (hs : src.length ≤ 800) (hn : 900000 ≤ n) :
  ∃ r, F_p0 n src = some r ∧ (r.2.2 ≠ 0 ∨ ∃ l, r = (l, 0, 0) ∧ (∀ t, t ∈ l → 1 ≤ t.Line ∧ vT (er t)) ∧ sl l ≤ src.length) := by
 obtain ⟨r, h1, h2⟩ := tok_low n src (by omega) (by omega) (by omega) src.length 0 n [] 1 (by omega) (by omega) (by omega) (by simp [tw]) (by omega) (by omega)
 refine ⟨r, ?_, ?_⟩
 ·unfold F_p0
  simp only [lit_lt, show ¬ 16384 < src.length by omega, decide_false, cond_false]
  exact h1
 ·rcases h2 with h2 | ⟨l, q1, q2, q3⟩
  ·exact Or.inl h2
  ·exact Or.inr ⟨l, by simpa using q1, q2, by omega⟩
end Go.Ab.Y

namespace Go.Ab.Y
open Go Go.Ab Go.Proofs

theorem lexer_valid {n : Nat} (t : Token) (hn : 900000 ≤ n) (h : vT (er t)) : F_ek0 n t = some true := by
 obtain ⟨k, x, N, ln⟩ := t
 obtain ⟨_, h⟩ := h
 simp only [er] at h
 unfold F_ek0
 rcases h with ⟨rfl, h1, rfl⟩ | ⟨rfl, h1, rfl⟩ | ⟨rfl, rfl, h1, h2⟩ | ⟨rfl, h1, rfl⟩ | ⟨rfl, h1, rfl⟩
 ·have := name_len h1
  simp only [decide_true, cond_true, lexer_IsName n x (by omega), h1, bind_s]
 ·simp only [show ¬ (2 : Int) = 1 by omega, decide_true, decide_false, cond_true, cond_false, lexer_IsKeyword, bind_s]
  unfold kwS
  rw [decide_eq_true h1]; rfl
 ·simp only [show ¬ (3 : Int) = 1 by omega, show ¬ (3 : Int) = 2 by omega, decide_true, decide_false, cond_true, cond_false]
  rw [decide_eq_true h1]
 ·unfold plainS at h1
  simp only [Bool.and_eq_true, decide_eq_true_eq] at h1
  simp only [show ¬ (4 : Int) = 1 by omega, show ¬ (4 : Int) = 2 by omega, show ¬ (4 : Int) = 3 by omega, decide_true, decide_false, cond_true, cond_false, le_lit, lit_le, h1.2, lexer_plain x (show x.length < n by omega) (by omega), bind_s, h1.1]
 ·simp only [show ¬ (5 : Int) = 1 by omega, show ¬ (5 : Int) = 2 by omega, show ¬ (5 : Int) = 3 by omega, show ¬ (5 : Int) = 4 by omega, decide_true, decide_false, cond_true, cond_false]
  have hx : x ≠ [] ∧ markS x = x ∧ x.length ≤ 2 := by
   have hall : ∀ w, w ∈ marks → w ≠ [] ∧ markS w = w ∧ w.length ≤ 2 := by decide
   exact hall x h1
  simp only [hx.1, decide_false, Bool.not_false, cond_true]
  cases x with
  | nil => exact absurd rfl hx.1
  | cons a w =>
   rw [lexer_mark n a w, hx.2.1]
   simp only [bind_s, decide_true, cond_true]
def jnT : List Token → List UInt8
 | [] => []
 | t :: l => 32 :: (spell t ++ jnT l)
def jn : List Token → List UInt8
 | [] => []
 | t :: l => spell t ++ jnT l
theorem spell_pos {t : Token} (h : vT (er t)) : 1 ≤ (spell t).length := by
 obtain ⟨c, w, e, _⟩ := tokS_spell (er t) [32] h bh_sp
 have e : spell t = c :: w := e
 rw [e]; simp
theorem jnT_len : ∀ l : List Token, (jnT l).length = sl l + l.length
 | [] => rfl
 | t :: l => by have := jnT_len l; simp only [jnT, sl, List.length_cons, List.length_append]; omega
theorem jn_len (l : List Token) : (jn l).length ≤ sl l + l.length := by
 cases l with
 | nil => exact Nat.le_refl _
 | cons t l => have := jnT_len l; simp only [jn, sl, List.length_cons, List.length_append]; omega
theorem sl_len : ∀ l : List Token, (∀ t, t ∈ l → vT (er t)) → l.length ≤ sl l
 | [], _ => Nat.le_refl _
 | t :: l, h => by
  have h1 := sl_len l fun u hu => h u (by simp [hu])
  have h2 := spell_pos (h t (by simp))
  simp only [sl, List.length_cons]; omega
theorem bh_nil {t : Token} : bh t [] := ⟨fun _ c hc => by simp at hc, fun _ c d hc hd => by simp at hd⟩
theorem Tk_jnT : ∀ l : List Token, (∀ t, t ∈ l → vT (er t)) → Tk (jnT l) (l.map er) ∧ ∀ t, bh t (jnT l)
 | [], _ => ⟨Tk.nil, fun t => bh_nil⟩
 | t :: l, h => by
  obtain ⟨h1, h2⟩ := Tk_jnT l fun u hu => h u (by simp [hu])
  exact ⟨Tk_sp (Tk_spell (t := er t) (h t (by simp)) (h2 _) h1), fun u => bh_sp⟩
theorem Tk_jn (l : List Token) (h : ∀ t, t ∈ l → vT (er t)) : Tk (jn l) (l.map er) := by
 cases l with
 | nil => exact Tk.nil
 | cons t l =>
  obtain ⟨h1, h2⟩ := Tk_jnT l fun u hu => h u (by simp [hu])
  exact Tk_spell (t := er t) (h t (by simp)) (h2 _) h1
theorem jnT_app : ∀ l m : List Token, jnT (l ++ m) = jnT l ++ jnT m
 | [], m => rfl
 | t :: l, m => by simp only [List.cons_append, jnT, jnT_app l m, List.append_assoc]
theorem sl_app : ∀ l m : List Token, sl (l ++ m) = sl l + sl m
 | [], m => by simp [sl]
 | t :: l, m => by simp only [List.cons_append, sl, sl_app l m]; omega
theorem wstr2 (n : Nat) (s b : List UInt8) (h : b.length + s.length ≤ 1000000000) : F_ax0 n s (b2i b) = some (((s.length : Nat) : Int), b2i (b ++ s)) := by
 unfold F_ax0 F_bj0
 rw [show (b2i b).length + s.length = b.length + s.length by simp [b2i], room1' (by omega)]
 simp [b2i, bind_s, ass_t]
theorem join_j5 {n : Nat} (l : List Token) (k3 : List Int → Int → Option (List UInt8 × Int)) (b : List UInt8) (i : Nat) (hi : i < l.length) (hn : 900000 ≤ n) (hv : vT (er (l.getD i default))) (hi2 : l.length ≤ 1000) (hb : b.length + (spell (l.getD i default)).length ≤ 16000) :
    F_ah0_j5 n k3 l (i : Int) (b2i b) = k3 (b2i (b ++ spell (l.getD i default))) ((i + 1 : Nat) : Int) := by
  unfold F_ah0_j5 F_ah0_j6 F_ah0_j4 F_ds0
  rw [Int.toNat_natCast, wr_s (by omega)]
  generalize l.getD i default = t at hv hb
  have hl : ∀ s : List UInt8, (b2i s).length = s.length := fun s => by simp [b2i]
  by_cases h3 : t.Kind = 3
  · have hs : spell t = Lib.decDigits t.N.toNat := by unfold spell; rw [if_pos h3]
    have hN : 0 ≤ t.N ∧ t.N ≤ 9223372036854775807 := by
      obtain ⟨_, h⟩ := hv
      simp only [er] at h
      rcases h with ⟨h, _⟩ | ⟨h, _⟩ | ⟨_, _, h1, h2⟩ | ⟨h, _⟩ | ⟨h, _⟩
      · omega
      · omega
      · exact ⟨h1, h2⟩
      · omega
      · omega
    rw [hs] at hb
    simp only [h3, decide_true, cond_true]
    rw [num_Format n t.N hN.1 hN.2]
    simp only [bind_s]
    rw [wstr2 n _ b (by omega)]
    simp only [bind_s, hl, List.length_append, lit_lt, hs, show ¬ 16384 < b.length + (Lib.decDigits t.N.toNat).length by omega, decide_false, cond_false]
  · by_cases h4 : t.Kind = 4
    · have hs : spell t = quo t.Text := by unfold spell; rw [if_neg h3, if_pos h4]
      have hp : plainS t.Text = true := by
        obtain ⟨_, h⟩ := hv
        simp only [er] at h
        rcases h with ⟨h, _⟩ | ⟨h, _⟩ | ⟨h, _⟩ | ⟨_, h1, h2⟩ | ⟨h, _⟩
        · omega
        · omega
        · omega
        · exact h1
        · omega
      rw [hs] at hb
      simp only [h3, h4, show ¬ (4 : Int) = 3 by omega, decide_true, decide_false, cond_true, cond_false]
      rw [lexer_Quote t.Text hp (by omega)]
      simp only [bind_s]
      rw [wstr2 n _ b (by omega)]
      simp only [bind_s, hl, List.length_append, lit_lt, hs, show ¬ 16384 < b.length + (quo t.Text).length by omega, decide_false, cond_false]
    · have hs : spell t = t.Text := by unfold spell; rw [if_neg h3, if_neg h4]
      rw [hs] at hb
      simp only [h3, h4, decide_false, cond_false]
      rw [wstr2 n _ b (by omega)]
      simp only [bind_s, hl, List.length_append, lit_lt, hs, show ¬ 16384 < b.length + t.Text.length by omega, decide_false, cond_false]
theorem lexer_Join {n : Nat} (l : List Token) (hn : 900000 ≤ n) (hl : sl l ≤ 800) (h : ∀ t, t ∈ l → vT (er t)) : F_ah0 n l = some (jn l, 0) := by
 have hlen := sl_len l h
 have hget : ∀ i, i < l.length → vT (er (l.getD i default)) := fun i hi => h _ (mem_getD hi)
 have h7 : ∀ m i, l.length < i + m → i ≤ l.length → F_ah0_l7 n l m (i : Int) = F_ah0_j1 n l := by
  intro m
  induction m with
  | zero => intro i g1 g2; omega
  | succ m ih =>
   intro i g1 g2
   simp only [F_ah0_l7, F_ah0_b7, Int.ofNat_lt, Int.toNat_natCast]
   by_cases hi : i < l.length
   ·simp only [hi, decide_true, cond_true, inB_n hi, ass_t]
    rw [lexer_valid _ hn (hget i hi)]
    simp only [bind_s, Bool.not_true, cond_false]
    rw [wr_s (by omega)]
    exact ih (i + 1) (by omega) (by omega)
   ·simp only [hi, decide_false, cond_false]
 have h3 : ∀ m i, l.length < i + m → i ≤ l.length → F_ah0_l3 n l m (b2i (jn (l.take i))) (i : Int) = some (jn l, 0) := by
  intro m
  induction m with
  | zero => intro i g1 g2; omega
  | succ m ih =>
   intro i g1 g2
   simp only [F_ah0_l3, F_ah0_b3, F_ah0_j2, Int.ofNat_lt, Int.toNat_natCast]
   by_cases hi : i < l.length
   ·have hv := hget i hi
    have hsp : sl (l.take i) + (spell (l.getD i default)).length ≤ sl l := by
     have : sl l = sl (l.take (i + 1) ++ l.drop (i + 1)) := by rw [List.take_append_drop]
     rw [this, sl_app, take_s l i hi, sl_app]; simp only [sl]; omega
    have hjl := jn_len (l.take i)
    have htl : (l.take i).length ≤ i := by rw [List.length_take]; omega
    have hnx := ih (i + 1) (by omega) (by omega)
    simp only [hi, decide_true, cond_true, inB_n hi, ass_t]
    by_cases h0 : 0 < i
    ·have hjn : jn (l.take (i + 1)) = (jn (l.take i) ++ [32]) ++ spell (l.getD i default) := by
      rw [take_s l i hi]
      cases hq : l.take i with
      | nil =>
       have := congrArg List.length hq
       simp only [List.length_take, List.length_nil] at this; omega
      | cons t r => simp only [List.cons_append, jn, jnT_app, jnT, List.append_assoc, List.append_nil, List.nil_append]
     rw [show decide ((0 : Int) < (i : Int)) = true from decide_eq_true (by omega)]
     simp only [cond_true]
     rw [show F_ak0 n 32 (b2i (jn (l.take i))) = some (b2i (jn (l.take i) ++ [32])) from writeByte n 32 (jn (l.take i)) (by omega)]
     simp only [bind_s]
     rw [join_j5 l _ _ i hi hn hv (by omega) (by simp only [List.length_append, List.length_cons, List.length_nil]; omega)]
     rw [hjn] at hnx
     exact hnx
    ·obtain rfl : i = 0 := by omega
     have hjn : jn (l.take (0 + 1)) = jn (l.take 0) ++ spell (l.getD 0 default) := by
      rw [take_s l 0 hi]; simp [jn, jnT]
     rw [show decide ((0 : Int) < ((0 : Nat) : Int)) = false from rfl]
     simp only [cond_false]
     rw [join_j5 l _ _ 0 hi hn hv (by omega) (by omega)]
     rw [hjn] at hnx
     exact hnx
   ·simp only [hi, decide_false, cond_false]
    obtain rfl : i = l.length := by omega
    rw [List.take_length]
    unfold F_bo0
    rw [bytesOk_b2i, toB_b2i]
    have := jn_len l
    rw [show decide ((b2i (jn l)).length ≤ 9223372036854775807) = true from decide_eq_true (by rw [show (b2i (jn l)).length = (jn l).length by simp [b2i]]; omega)]
    rfl
 unfold F_ah0
 rw [show F_ah0_l7 n l n 0 = _ from h7 n 0 (by omega) (by omega)]
 unfold F_ah0_j1
 exact h3 n 0 (by omega) (by omega)
end Go.Ab.Y

namespace Go.Ab.Y
open Go Go.Ab Go.Proofs

structure LE (l l' : List Token) : Prop where
 er : l.map er = l'.map er
 l1 : ∀ t, t ∈ l → 1 ≤ t.Line
 l2 : ∀ t, t ∈ l' → 1 ≤ t.Line
section
variable {l l' : List Token}
theorem LE.len (h : LE l l') : l.length = l'.length := by have := congrArg List.length h.er; simpa using this
theorem LE.get (h : LE l l') (j : Nat) : Y.er (l.getD j default) = Y.er (l'.getD j default) := by
 have := congrArg (fun m => m[j]?) h.er
 simp only [List.getElem?_map] at this
 rw [List.getD_eq_getElem?_getD, List.getD_eq_getElem?_getD]
 cases h1 : l[j]? with
 | none =>
  rw [h1] at this
  cases h2 : l'[j]? with
  | none => rfl
  | some u => rw [h2] at this; cases this
 | some t =>
  rw [h1] at this
  cases h2 : l'[j]? with
  | none => rw [h2] at this; cases this
  | some u => rw [h2] at this; exact Option.some.inj this
theorem LE.k (h : LE l l') (j : Nat) : (l.getD j default).Kind = (l'.getD j default).Kind := (er_proj (u := Y.er (l'.getD j default)) (h.get j)).1
theorem LE.t (h : LE l l') (j : Nat) : (l.getD j default).Text = (l'.getD j default).Text := (er_proj (u := Y.er (l'.getD j default)) (h.get j)).2.1
theorem LE.n (h : LE l l') (j : Nat) : (l.getD j default).N = (l'.getD j default).N := (er_proj (u := Y.er (l'.getD j default)) (h.get j)).2.2
def PanR (x x' : V) : Prop := ∃ ln ln' c : Int, x = .iface 114 (.agg [.int .i64 ln, .int .i64 c]) ∧ x' = .iface 114 (.agg [.int .i64 ln', .int .i64 c]) ∧ 1 ≤ ln ∧ 1 ≤ ln'
inductive Sim {α β : Type} (V' : α → α → Prop) : Option (Pn α β) → Option (Pn α β) → Prop
 | none : Sim V' none none
 | ret {a a' : α} {z : β} : V' a a' → Sim V' (some (.ret a z)) (some (.ret a' z))
 | pan {x x' : V} {z : β} : PanR x x' → Sim V' (some (.pan x z)) (some (.pan x' z))
theorem Sim.bind {α β γ δ : Type} {V' : α → α → Prop} {W : γ → γ → Prop} {p q : Option (Pn α β)} {f g : α → β → Option (Pn γ δ)} {h k : V → β → Option (Pn γ δ)} (hp : Sim V' p q) (hf : ∀ a a' z, V' a a' → Sim W (f a z) (g a' z)) (hh : ∀ x x' z, PanR x x' → Sim W (h x z) (k x' z)) :
  Sim W (Option.bind p fun r => Pn.on r f h) (Option.bind q fun r => Pn.on r g k) := by
 cases hp with
 | none => exact .none
 | ret h1 => exact hf _ _ _ h1
 | pan h1 => exact hh _ _ _ h1
theorem Sim.bindE {α β γ δ : Type} {W : γ → γ → Prop} {p q : Option (Pn α β)} {f g : α → β → Option (Pn γ δ)} {h k : V → β → Option (Pn γ δ)} (hp : Sim Eq p q) (hf : ∀ a z, Sim W (f a z) (g a z)) (hh : ∀ x x' z, PanR x x' → Sim W (h x z) (k x' z)) :
  Sim W (Option.bind p fun r => Pn.on r f h) (Option.bind q fun r => Pn.on r g k) := hp.bind (fun a a' z e => by subst e; exact hf a z) hh
theorem Sim.bindQ {α γ δ : Type} {W : γ → γ → Prop} {p q : Option α} {f g : α → Option (Pn γ δ)} (hp : p = q) (hf : ∀ a, Sim W (f a) (g a)) : Sim W (Option.bind p f) (Option.bind q g) := by
 subst hp
 cases p with
 | none => exact .none
 | some a => exact hf a
theorem Sim.bif {γ δ : Type} {W : γ → γ → Prop} {c : Bool} {p q p' q' : Option (Pn γ δ)} (h1 : Sim W p q) (h2 : Sim W p' q') : Sim W (bif c then p else p') (bif c then q else q') := by cases c; exact h2; exact h1
theorem Sim.ass {γ δ : Type} {W : γ → γ → Prop} {c c' : Bool} (hc : c = c') {p q : Option (Pn γ δ)} (h1 : Sim W p q) : Sim W (Go.Ab.ass c p) (Go.Ab.ass c' q) := by subst hc; cases c; exact .none; exact h1
theorem is_eq (h : LE l l') (n : Nat) (w : List UInt8) (i : Int) : F_bc0 n w ⟨l, i⟩ = F_bc0 n w ⟨l', i⟩ := by
 unfold F_bc0; simp only [h.len, h.k, h.t]
theorem level_eq (h : LE l l') (n : Nat) (i : Int) : F_ce0 n ⟨l, i⟩ = F_ce0 n ⟨l', i⟩ := by
 unfold F_ce0; simp only [h.len, h.k, h.t]
theorem call_eq (h : LE l l') (n : Nat) (i : Int) : F_cj0 n ⟨l, i⟩ = F_cj0 n ⟨l', i⟩ := by
 unfold F_cj0; simp only [h.len, h.k, h.t]
theorem accept_eq (h : LE l l') (n : Nat) (w : List UInt8) (i : Int) : F_w0 n w ⟨l, i⟩ = F_w0 n w ⟨l', i⟩ := by
 unfold F_w0; rw [is_eq h]
theorem line_get (h : ∀ t, t ∈ l → 1 ≤ t.Line) {i : Int} (hi : inB i l.length = true) : 1 ≤ (l.getD i.toNat default).Line := by
 unfold inB at hi
 simp only [Bool.and_eq_true, decide_eq_true_eq] at hi
 exact h _ (mem_getD (by omega))
theorem fail_sim (h : LE l l') (n : Nat) (c i : Int) : Sim Eq (F_t0 n c ⟨l, i⟩) (F_t0 n c ⟨l', i⟩) := by
 unfold F_t0 F_t0_j1 F_t0_j2
 have hA : ∀ j c, Sim (α := Unit) (β := Unit) Eq (ass (inB j l.length) (some (.pan (.iface 114 (.agg [.int .i64 (l.getD j.toNat default).Line, .int .i64 c])) ()))) (ass (inB j l'.length) (some (.pan (.iface 114 (.agg [.int .i64 (l'.getD j.toNat default).Line, .int .i64 c])) ()))) := by
  intro j c
  have hl := h.len
  by_cases hj : inB j l.length = true
  ·have hj' : inB j l'.length = true := by rw [← hl]; exact hj
   rw [hj, hj']
   exact .pan ⟨_, _, c, rfl, rfl, line_get h.l1 hj, line_get h.l2 hj'⟩
  ·have hj : inB j l.length = false := by simpa using hj
   have hj' : inB j l'.length = false := by rw [← hl]; exact hj
   rw [hj, hj']; exact .none
 simp only [h.len]
 have hA' := fun j c => hA j c
 rw [h.len] at hA'
 refine Sim.bif (hA' _ _) (Sim.bif (.pan ⟨1, 1, 6, rfl, rfl, by omega, by omega⟩) (hA' _ _))
theorem expect_sim (h : LE l l') (n : Nat) (w : List UInt8) (i : Int) : Sim Eq (F_g0 n w ⟨l, i⟩) (F_g0 n w ⟨l', i⟩) := by
 unfold F_g0
 exact Sim.bindQ (accept_eq h n w i) fun a => Sim.bif (Sim.bindE (fail_sim h _ _ _) (fun a z => .ret rfl) (fun x x' z hx => .pan hx)) (.ret rfl)
def TokR (a a' : Token) : Prop := a.Kind = a'.Kind ∧ a.Text = a'.Text ∧ a.N = a'.N
theorem take_sim (h : LE l l') (n : Nat) (kd i : Int) : Sim TokR (F_r0 n kd ⟨l, i⟩) (F_r0 n kd ⟨l', i⟩) := by
 unfold F_r0 F_r0_j1
 have hj : ∀ z : Int, Sim TokR (ass (inB (IntKind.i64.wrap (IntKind.i64.wrap (i + 1) - 1)) l.length) (some (.ret (l.getD (IntKind.i64.wrap (IntKind.i64.wrap (i + 1) - 1)).toNat default) z))) (ass (inB (IntKind.i64.wrap (IntKind.i64.wrap (i + 1) - 1)) l'.length) (some (.ret (l'.getD (IntKind.i64.wrap (IntKind.i64.wrap (i + 1) - 1)).toNat default) z))) := fun z => Sim.ass (congrArg (inB _) h.len) (.ret ⟨h.k _, h.t _, h.n _⟩)
 refine Sim.ass (by simp only [h.len]) ?_
 simp only [h.k, show decide (((l.length : Nat) : Int) ≤ i) = decide (((l'.length : Nat) : Int) ≤ i) by rw [h.len]]
 exact Sim.bif (Sim.bindE (fail_sim h _ _ _) (fun a z => hj _) (fun x x' z hx => .pan hx)) (hj _)
theorem end_sim (h : LE l l') (n : Nat) (s : Stmt) (i : Int) : Sim Eq (F_y0 n s ⟨l, i⟩) (F_y0 n s ⟨l', i⟩) := by
 unfold F_y0
 exact Sim.bindE (expect_sim h _ _ _) (fun a z => .ret rfl) (fun x x' z hx => .pan hx)
theorem nest_sim (h : LE l l') (n : Nat) (d i : Int) : Sim Eq (F_ae0 n d ⟨l, i⟩) (F_ae0 n d ⟨l', i⟩) := by
 unfold F_ae0 F_ae0_j1
 exact Sim.bif (Sim.bindE (fail_sim h _ _ _) (fun a z => .ret rfl) (fun x x' z hx => .pan hx)) (.ret rfl)
end
end Go.Ab.Y

namespace Go.Ab.Y
open Go Go.Ab Go.Proofs

section
variable {l l' : List Token}
theorem expr_sim (h : LE l l') : ∀ n : Nat, (∀ lv d i, Sim Eq (F_a0 n lv d ⟨l, i⟩) (F_a0 n lv d ⟨l', i⟩)) ∧ (∀ op lv d i, Sim Eq (F_e0 n op lv d ⟨l, i⟩) (F_e0 n op lv d ⟨l', i⟩)) ∧
  (∀ d i, Sim Eq (F_b0 n d ⟨l, i⟩) (F_b0 n d ⟨l', i⟩)) ∧ (∀ d i, Sim Eq (F_d0 n d ⟨l, i⟩) (F_d0 n d ⟨l', i⟩)) := by
 intro n
 induction n with
 | zero => exact ⟨fun _ _ _ => .none, fun _ _ _ _ => .none, fun _ _ => .none, fun _ _ => .none⟩
 | succ n ih =>
  obtain ⟨he, hp, hu, hi⟩ := ih
  have hloop : ∀ lv d i m k op N S A, Sim Eq (F_a0_l1 n (F_a0 n) (F_e0 n) (F_b0 n) (F_d0 n) lv d ⟨l, i⟩ m k op N S A) (F_a0_l1 n (F_a0 n) (F_e0 n) (F_b0 n) (F_d0 n) lv d ⟨l', i⟩ m k op N S A) := by
   intro lv d i m
   induction m with
   | zero => intro k op N S A; exact .none
   | succ m ihm =>
    intro k op N S A
    simp only [F_a0_l1, F_a0_b1]
    refine Sim.bindQ (level_eq h _ _) fun a => Sim.bif (.ret rfl) (Sim.bindE (he _ _ _) (fun a z => Sim.bif (.ret rfl) (ihm _ _ _ _ _)) (fun x x' z hx => .pan hx))
  refine ⟨fun lv d i => ?_, fun op lv d i => ?_, fun d i => ?_, fun d i => ?_⟩
  ·show Sim Eq (B_a0 n (F_a0 n) (F_e0 n) (F_b0 n) (F_d0 n) lv d ⟨l, i⟩) (B_a0 n (F_a0 n) (F_e0 n) (F_b0 n) (F_d0 n) lv d ⟨l', i⟩)
   unfold B_a0
   repeat' first
    | exact Sim.none
    | exact Sim.ret rfl
    | exact Sim.pan (by assumption)
    | exact hloop _ _ _ _ _ _ _ _ _
    | refine Sim.bindE (he _ _ _) (fun a z => ?_) (fun x x' z hx => ?_)
    | refine Sim.bindE (hp _ _ _ _) (fun a z => ?_) (fun x x' z hx => ?_)
    | refine Sim.bindE (hu _ _) (fun a z => ?_) (fun x x' z hx => ?_)
    | refine Sim.bindQ (is_eq h _ _ _) (fun a => ?_)
    | refine Sim.bif ?_ ?_
  ·show Sim Eq (B_e0 n (F_a0 n) (F_e0 n) (F_b0 n) (F_d0 n) op lv d ⟨l, i⟩) (B_e0 n (F_a0 n) (F_e0 n) (F_b0 n) (F_d0 n) op lv d ⟨l', i⟩)
   unfold B_e0
   repeat' first
    | exact Sim.none
    | exact Sim.ret rfl
    | exact Sim.pan (by assumption)
    | refine Sim.bindE (nest_sim h _ _ _) (fun a z => ?_) (fun x x' z hx => ?_)
    | refine Sim.bindE (he _ _ _) (fun a z => ?_) (fun x x' z hx => ?_)
  ·show Sim Eq (B_b0 n (F_a0 n) (F_e0 n) (F_b0 n) (F_d0 n) d ⟨l, i⟩) (B_b0 n (F_a0 n) (F_e0 n) (F_b0 n) (F_d0 n) d ⟨l', i⟩)
   simp only [B_b0, F_b0_j1, F_b0_j2, F_b0_j3, F_b0_j4, h.len, h.k, h.t, h.n]
   repeat' first
    | exact Sim.none
    | exact Sim.ret rfl
    | exact Sim.pan (by assumption)
    | refine Sim.bindE (nest_sim h _ _ _) (fun a z => ?_) (fun x x' z hx => ?_)
    | refine Sim.bindE (expect_sim h _ _ _) (fun a z => ?_) (fun x x' z hx => ?_)
    | refine Sim.bindE (fail_sim h _ _ _) (fun a z => ?_) (fun x x' z hx => ?_)
    | refine Sim.bindE (hi _ _) (fun a z => ?_) (fun x x' z hx => ?_)
    | refine Sim.bindQ (is_eq h _ _ _) (fun a => ?_)
    | refine Sim.bindQ (call_eq h _ _) (fun a => ?_)
    | refine Sim.bindQ (accept_eq h _ _ _) (fun a => ?_)
    | refine Sim.bif ?_ ?_
    | refine Sim.ass rfl ?_
  ·show Sim Eq (B_d0 n (F_a0 n) (F_e0 n) (F_b0 n) (F_d0 n) d ⟨l, i⟩) (B_d0 n (F_a0 n) (F_e0 n) (F_b0 n) (F_d0 n) d ⟨l', i⟩)
   unfold B_d0
   repeat' first
    | exact Sim.none
    | exact Sim.ret rfl
    | exact Sim.pan (by assumption)
    | refine Sim.bindE (expect_sim h _ _ _) (fun a z => ?_) (fun x x' z hx => ?_)
    | refine Sim.bindE (he _ _ _) (fun a z => ?_) (fun x x' z hx => ?_)
end
end Go.Ab.Y

namespace Go.Ab.Y
open Go Go.Ab Go.Proofs

section
variable {l l' : List Token}
theorem Sim.bindT {β γ δ : Type} {W : γ → γ → Prop} {p q : Option (Pn Token β)} {f g : Token → β → Option (Pn γ δ)} {h k : V → β → Option (Pn γ δ)} (hp : Sim TokR p q) (hf : ∀ a a' z, a.Text = a'.Text → a.N = a'.N → Sim W (f a z) (g a' z)) (hh : ∀ x x' z, PanR x x' → Sim W (h x z) (k x' z)) :
  Sim W (Option.bind p fun r => Pn.on r f h) (Option.bind q fun r => Pn.on r g k) := hp.bind (fun a a' z e => hf a a' z e.2.1 e.2.2) hh
theorem end_simE (h : LE l l') {s s' : Stmt} (hs : s = s') (n : Nat) (i : Int) : Sim Eq (F_y0 n s ⟨l, i⟩) (F_y0 n s' ⟨l', i⟩) := by subst hs; exact end_sim h n s i
theorem block_sim (h : LE l l') : ∀ n : Nat, (∀ d i, Sim Eq (F_c0 n d ⟨l, i⟩) (F_c0 n d ⟨l', i⟩)) ∧ (∀ d i, Sim Eq (F_h0 n d ⟨l, i⟩) (F_h0 n d ⟨l', i⟩)) ∧ (∀ d i, Sim Eq (F_m0 n d ⟨l, i⟩) (F_m0 n d ⟨l', i⟩)) := by
 intro n
 induction n with
 | zero => exact ⟨fun _ _ => .none, fun _ _ => .none, fun _ _ => .none⟩
 | succ n ih =>
  obtain ⟨hb, hs, hl⟩ := ih
  have he := (expr_sim h n).1
  have hloop : ∀ d i m k acc, Sim Eq (F_c0_l3 n (F_c0 n) (F_h0 n) (F_m0 n) d ⟨l, i⟩ m k acc) (F_c0_l3 n (F_c0 n) (F_h0 n) (F_m0 n) d ⟨l', i⟩ m k acc) := by
   intro d i m
   induction m with
   | zero => intro k acc; exact .none
   | succ m ihm =>
    intro k acc
    simp only [F_c0_l3, F_c0_b3, F_c0_j2]
    exact Sim.bindQ (accept_eq h _ _ _) fun a => Sim.bif (Sim.bindE (hs _ _) (fun a z => Sim.ass rfl (ihm _ _)) (fun x x' z hx => .pan hx)) (.ret rfl)
  refine ⟨fun d i => ?_, fun d i => ?_, fun d i => ?_⟩
  ·rw [pb_s]
   simp only [B_c0, F_c0_j1]
   repeat' first
    | exact Sim.none
    | exact Sim.ret rfl
    | exact Sim.pan (by assumption)
    | exact hloop _ _ _ _ _
    | refine Sim.bindE (expect_sim h _ _ _) (fun a z => ?_) (fun x x' z hx => ?_)
    | refine Sim.bindE (fail_sim h _ _ _) (fun a z => ?_) (fun x x' z hx => ?_)
    | refine Sim.bindQ (is_eq h _ _ _) (fun a => ?_)
    | refine Sim.bif ?_ ?_
  ·rw [ps_s]
   simp only [B_h0, F_h0_j1]
   repeat' first
    | exact Sim.none
    | exact Sim.ret rfl
    | exact Sim.pan (by assumption)
    | refine Sim.bindT (take_sim h _ _ _) (fun a a' z ht hN => ?_) (fun x x' z hx => ?_)
    | refine Sim.bindE (expect_sim h _ _ _) (fun a z => ?_) (fun x x' z hx => ?_)
    | refine Sim.bindE (he _ _ _) (fun a z => ?_) (fun x x' z hx => ?_)
    | refine Sim.bindE (end_sim h _ _ _) (fun a z => ?_) (fun x x' z hx => ?_)
    | refine Sim.bindE (hb _ _) (fun a z => ?_) (fun x x' z hx => ?_)
    | refine Sim.bindE (hl _ _) (fun a z => ?_) (fun x x' z hx => ?_)
    | refine Sim.bindE (end_simE h (by rw [ht]) _ _) (fun a z => ?_) (fun x x' z hx => ?_)
    | refine Sim.bindE (end_simE h (by rw [hN]) _ _) (fun a z => ?_) (fun x x' z hx => ?_)
    | refine Sim.bindQ (accept_eq h _ _ _) (fun a => ?_)
    | refine Sim.bif ?_ ?_
  ·rw [pl_s]
   simp only [B_m0]
   refine Sim.bindT (take_sim h _ _ _) (fun a a' z ht hN => ?_) (fun x x' z hx => .pan hx)
   refine Sim.bindE (expect_sim h _ _ _) (fun _ z => ?_) (fun x x' z hx => .pan hx)
   refine Sim.bindE (he _ _ _) (fun _ z => ?_) (fun x x' z hx => .pan hx)
   refine Sim.bindE (expect_sim h _ _ _) (fun _ z => ?_) (fun x x' z hx => .pan hx)
   refine Sim.bindE (he _ _ _) (fun _ z => ?_) (fun x x' z hx => .pan hx)
   refine Sim.bindE (expect_sim h _ _ _) (fun _ z => ?_) (fun x x' z hx => .pan hx)
   refine Sim.bindT (take_sim h _ _ _) (fun b b' z ht2 hN2 => ?_) (fun x x' z hx => .pan hx)
   refine Sim.bindE (hb _ _) (fun _ z => ?_) (fun x x' z hx => .pan hx)
   rw [ht, hN2]
   exact .ret rfl
end
end Go.Ab.Y

namespace Go.Ab.Y
open Go Go.Ab Go.Proofs

section
variable {l l' : List Token}
theorem param_sim (h : LE l l') (n : Nat) (i : Int) : Sim Eq (F_af0 n ⟨l, i⟩) (F_af0 n ⟨l', i⟩) := by
 simp only [F_af0, F_af0_j1]
 refine Sim.bindT (take_sim h _ _ _) (fun a a' z ht hN => ?_) (fun x x' z hx => .pan hx)
 rw [ht]
 repeat' first
  | exact Sim.none
  | exact Sim.ret rfl
  | exact Sim.pan (by assumption)
  | refine Sim.bindE (expect_sim h _ _ _) (fun a z => ?_) (fun x x' z hx => ?_)
  | refine Sim.bindE (fail_sim h _ _ _) (fun a z => ?_) (fun x x' z hx => ?_)
  | refine Sim.bindQ (accept_eq h _ _ _) (fun a => ?_)
  | refine Sim.bif ?_ ?_
theorem proc_sim (h : LE l l') (n : Nat) (i : Int) : Sim Eq (F_k0 n ⟨l, i⟩) (F_k0 n ⟨l', i⟩) := by
 have hj1 : ∀ (a a' : Token) z acc, a.Text = a'.Text → Sim Eq (F_k0_j1 n ⟨l, i⟩ a z acc) (F_k0_j1 n ⟨l', i⟩ a' z acc) := by
  intro a a' z acc ht
  unfold F_k0_j1
  rw [ht]
  exact Sim.bindE ((block_sim h n).1 _ _) (fun _ _ => .ret rfl) (fun x x' z hx => .pan hx)
 have hl3 : ∀ (a a' : Token) m z acc, a.Text = a'.Text → Sim Eq (F_k0_l3 n ⟨l, i⟩ a m z acc) (F_k0_l3 n ⟨l', i⟩ a' m z acc) := by
  intro a a' m
  induction m with
  | zero => intro z acc ht; exact .none
  | succ m ih =>
   intro z acc ht
   simp only [F_k0_l3, F_k0_b3, F_k0_j2]
   refine Sim.bindQ (accept_eq h _ _ _) fun b => Sim.bif (Sim.bindE (param_sim h _ _) (fun _ _ => Sim.ass rfl (ih _ _ ht)) (fun x x' z hx => .pan hx)) ?_
   exact Sim.bindE (expect_sim h _ _ _) (fun _ _ => hj1 _ _ _ _ ht) (fun x x' z hx => .pan hx)
 unfold F_k0
 refine Sim.bindE (expect_sim h _ _ _) (fun _ _ => ?_) (fun x x' z hx => .pan hx)
 refine Sim.bindT (take_sim h _ _ _) (fun a a' z ht hN => ?_) (fun x x' z hx => .pan hx)
 refine Sim.bindE (expect_sim h _ _ _) (fun _ _ => ?_) (fun x x' z hx => .pan hx)
 refine Sim.bindQ (accept_eq h _ _ _) fun b => Sim.bif (Sim.bindE (param_sim h _ _) (fun _ _ => Sim.ass rfl (hl3 _ _ _ _ _ ht)) (fun x x' z hx => .pan hx)) (hj1 _ _ _ _ ht)
end
theorem proc_fin {n : Nat} {ln1 ln2 c : Int} {X : List UInt8 × List Param × List Stmt} {p : Proc} {ln e : Int} (g1 : 1 ≤ ln1) (g2 : 1 ≤ ln2)
  (hr : (bif decide (c = 0) then Option.bind (F_bw0 n ⟨X.1, X.2.1, X.2.2⟩) fun r2 => F_am0_j1 n (ln1, c, X) r2 else F_am0_j1 n (ln1, c, X) c) = some (p, ln, e)) :
  ∃ ln', (bif decide (c = 0) then Option.bind (F_bw0 n ⟨X.1, X.2.1, X.2.2⟩) fun r2 => F_am0_j1 n (ln2, c, X) r2 else F_am0_j1 n (ln2, c, X) c) = some (p, ln', e) ∧ (ln = 0 ↔ ln' = 0) := by
 have hj : ∀ v, F_am0_j1 n (ln1, c, X) v = some (p, ln, e) → ∃ ln', F_am0_j1 n (ln2, c, X) v = some (p, ln', e) ∧ (ln = 0 ↔ ln' = 0) := by
  intro v hv
  unfold F_am0_j1 at hv ⊢
  by_cases h0 : v = 0
  ·rw [decide_eq_true h0] at hv ⊢
   exact ⟨ln, hv, Iff.rfl⟩
  ·rw [decide_eq_false h0] at hv ⊢
   simp only [Bool.not_false, cond_true, Option.some.injEq, Prod.mk.injEq] at hv ⊢
   obtain ⟨rfl, rfl, rfl⟩ := hv
   exact ⟨ln2, ⟨rfl, rfl, rfl⟩, by omega⟩
 by_cases hc : c = 0
 ·rw [decide_eq_true hc] at hr ⊢
  simp only [cond_true] at hr ⊢
  cases hv : F_bw0 n ⟨X.1, X.2.1, X.2.2⟩ with
  | none => rw [hv] at hr; cases hr
  | some v =>
   rw [hv] at hr
   exact hj v hr
 ·rw [decide_eq_false hc] at hr ⊢
  exact hj c hr
theorem parser_Proc_sim {n : Nat} {s s' : List UInt8} {l l' : List Token} (h1 : F_p0 n s = some (l, 0, 0)) (h2 : F_p0 n s' = some (l', 0, 0)) (h : LE l l') {p : Proc} {ln e : Int} (hr : F_am0 n s = some (p, ln, e)) :
  ∃ ln', F_am0 n s' = some (p, ln', e) ∧ (ln = 0 ↔ ln' = 0) := by
 have hs := proc_sim h n 0
 unfold F_am0 F_bt0 F_dq0 at hr ⊢
 rw [h1] at hr
 rw [h2]
 simp only [bind_s, decide_true, Bool.not_true, cond_false] at hr ⊢
 generalize F_k0 n ⟨l, 0⟩ = P at hr hs
 generalize F_k0 n ⟨l', 0⟩ = Q at hs
 cases hs with
 | none => cases hr
 | @ret a a' z e1 =>
  subst e1
  simp only [bind_s, Pn.on] at hr ⊢
  rw [← h.len]
  by_cases hz : z < ((l.length : Nat) : Int)
  ·rw [decide_eq_true hz] at hr ⊢
   simp only [cond_true] at hr ⊢
   have hf := fail_sim h n 5 z
   generalize F_t0 n 5 ⟨l, z⟩ = P at hr hf
   generalize F_t0 n 5 ⟨l', z⟩ = Q at hf
   cases hf with
   | none => cases hr
   | @ret a a' z e1 => cases hr
   | @pan x x' z hx =>
    obtain ⟨ln1, ln2, c, rfl, rfl, g1, g2⟩ := hx
    simp only [bind_s, Pn.on] at hr ⊢
    exact proc_fin (X := (a.Name, a.Params, a.Body)) g1 g2 hr
  ·rw [decide_eq_false hz] at hr ⊢
   simp only [cond_false, bind_s, decide_true, cond_true] at hr ⊢
   cases hv : F_bw0 n ⟨a.Name, a.Params, a.Body⟩ with
   | none => rw [hv] at hr; cases hr
   | some v =>
    rw [hv] at hr
    simp only [bind_s] at hr ⊢
    exact ⟨ln, hr, Iff.rfl⟩
 | @pan x x' z hx =>
  obtain ⟨ln1, ln2, c, rfl, rfl, g1, g2⟩ := hx
  simp only [bind_s, Pn.on] at hr ⊢
  exact proc_fin (X := ([], [], [])) g1 g2 hr
end Go.Ab.Y

namespace Go.Ab.Y
open Go Go.Ab Go.Proofs

def ps (l : List Token) (i : Nat) : Nat := sl (l.take i)
def Post {α β : Type} (Q : α → β → Prop) (p : Option (Pn α β)) : Prop := ∀ a z, p = some (.ret a z) → Q a z
theorem Post.ret {α β : Type} {Q : α → β → Prop} {a : α} {z : β} (h : Q a z) : Post Q (some (.ret a z)) := fun a' z' e => by cases e; exact h
theorem Post.pan {α β : Type} {Q : α → β → Prop} {x : V} {z : β} : Post Q (some (.pan x z)) := fun a' z' e => by cases e
theorem Post.none {α β : Type} {Q : α → β → Prop} : Post Q none := fun a' z' e => by cases e
theorem Post.bind {α β γ δ : Type} {Q : α → β → Prop} {R : γ → δ → Prop} {p : Option (Pn α β)} {f : α → β → Option (Pn γ δ)} {h : V → β → Option (Pn γ δ)} (hp : Post Q p) (hf : ∀ a z, Q a z → Post R (f a z)) (hh : ∀ x z, Post R (h x z)) :
  Post R (Option.bind p fun r => Pn.on r f h) := by
 match p, hp with
 | .none, _ => exact .none
 | some (.ret a z), hp => exact hf a z (hp a z rfl)
 | some (.pan x z), _ => exact hh x z
theorem Post.bif {γ δ : Type} {R : γ → δ → Prop} {c : Bool} {p q : Option (Pn γ δ)} (h1 : c = true → Post R p) (h2 : c = false → Post R q) : Post R (bif c then p else q) := by cases c; exact h2 rfl; exact h1 rfl
theorem Post.ass {γ δ : Type} {R : γ → δ → Prop} {c : Bool} {p : Option (Pn γ δ)} (h1 : Post R p) : Post R (Go.Ab.ass c p) := by cases c; exact .none; exact h1
section
variable {l : List Token}
theorem psl_s (i : Nat) (h : i < l.length) : ps l (i + 1) = ps l i + (spell (l.getD i default)).length := by
 unfold ps; rw [take_s l i h, sl_app]; simp [sl]
theorem ps_T {i : Nat} {w : List UInt8} (h : isT l i w = true) : i < l.length ∧ ps l (i + 1) = ps l i + w.length := by
 have hi := isT_lt h
 refine ⟨hi, ?_⟩
 unfold isT at h
 simp only [Bool.and_eq_true, Bool.or_eq_true, decide_eq_true_eq] at h
 rw [psl_s i hi]
 unfold spell
 rw [if_neg (by omega), if_neg (by omega), h.2.2]
theorem fail_post (n : Nat) (c : Int) (i : Nat) (hl : l.length ≤ 1000000000) : Post (fun _ _ => False) (F_t0 n c ⟨l, (i : Int)⟩) := by
 rw [p_fail n l i c (by omega)]; exact .pan
theorem exp_post (n : Nat) (w : List UInt8) (i : Nat) (hl : l.length ≤ 1000000000) (hi : i ≤ l.length) : Post (fun _ z => z = ((i + 1 : Nat) : Int) ∧ isT l i w = true) (F_g0 n w ⟨l, (i : Int)⟩) := by
 rw [p_expect n l i w (by omega) (by omega)]
 cases h : isT l i w
 ·exact .pan
 ·exact .ret ⟨rfl, rfl⟩
theorem nest_post (n : Nat) (d : Int) (b : PPz) : Post (fun _ _ => True) (F_ae0 n d b) := fun _ _ _ => trivial
theorem take_post (n : Nat) (kd : Int) (i : Nat) (hl : l.length ≤ 1000000000) (hi : i ≤ l.length) : Post (fun t z => z = ((i + 1 : Nat) : Int) ∧ i < l.length ∧ t = l.getD i default ∧ t.Kind = kd) (F_r0 n kd ⟨l, (i : Int)⟩) := by
 rw [p_take n l i kd hl hi]
 split
 ·rename_i h; exact .ret ⟨rfl, h.1, rfl, h.2⟩
 ·exact .pan
theorem lev_post {i : Nat} (h : (levS l i).1 ≠ 0) : isT l i (spell (sgT (levS l i).2)) = true ∧ ((lvN (levS l i).2 : Nat) : Int) = (levS l i).1 ∧ (4 ≤ (levS l i).2 ∧ (levS l i).2 ≤ 8 ∨ 10 ≤ (levS l i).2 ∧ (levS l i).2 ≤ 17 ∨ (levS l i).2 = 19) := by
 have hall : ∀ r, r ∈ tbl → spell (sgT r.2.2) = r.1 ∧ ((lvN r.2.2 : Nat) : Int) = r.2.1 ∧ (4 ≤ r.2.2 ∧ r.2.2 ≤ 8 ∨ 10 ≤ r.2.2 ∧ r.2.2 ≤ 17 ∨ r.2.2 = 19) := by decide
 unfold levS at h ⊢
 cases hq : tbl.find? (fun r => isT l i r.1) with
 | none => rw [hq] at h; exact absurd rfl h
 | some r =>
  have h1 := hall r (List.mem_of_find?_eq_some hq)
  have h2 := List.find?_some hq
  simp only [lev2]
  exact ⟨by rw [h1.1]; exact h2, h1.2⟩
theorem call_post {i : Nat} (h : callS l i ≠ 0) : isT l i (spell (wdT (callS l i))) = true ∧ 20 ≤ callS l i ∧ callS l i ≤ 27 := by
 have hall : ∀ r, r ∈ callT → spell (wdT r.2) = r.1 ∧ 20 ≤ r.2 ∧ r.2 ≤ 27 := by decide
 unfold callS at h ⊢
 cases hq : callT.find? (fun r => isT l i r.1) with
 | none => rw [hq] at h; exact absurd rfl h
 | some r =>
  have h1 := hall r (List.mem_of_find?_eq_some hq)
  have h2 := List.find?_some hq
  simp only [call2]
  exact ⟨by rw [h1.1]; exact h2, h1.2⟩
theorem tkA_sl (e : Expr) (k : Nat) : sl (tkA e k) = sl (kE e) + if lvN e.Op < k then 2 else 0 := by
 unfold tkA pcA
 split
 ·have h1 : (spell (mkT [40])).length = 1 := rfl
  have h2 : (spell (mkT [41])).length = 1 := rfl
  have h3 : sl (kE e) = sl (toks (pcs e)) := rfl
  simp only [toks, toks_app, sl, sl_app, h1, h2, h3]; omega
 ·rfl
theorem tkA_mono (e : Expr) {j k : Nat} (h : j ≤ k) : sl (tkA e j) ≤ sl (tkA e k) := by
 rw [tkA_sl, tkA_sl]
 split <;> split <;> omega
def XQ (l : List Token) (i lv : Nat) (e : Expr) (z : Int) : Prop := ∃ k : Nat, z = (k : Int) ∧ i ≤ k ∧ k ≤ l.length ∧ inE e ∧ ps l i + sl (tkA e lv) ≤ ps l k
theorem XQ.mono {i j lv lv' : Nat} {e : Expr} {z : Int} (h : XQ l j lv e z) (hi : i ≤ j) (hp : ps l i ≤ ps l j) (hlv : lv' ≤ lv) : XQ l i lv' e z := by
 obtain ⟨k, h1, h2, h3, h4, h5⟩ := h
 have := tkA_mono e hlv
 exact ⟨k, h1, by omega, h3, h4, by omega⟩
end
end Go.Ab.Y

namespace Go.Ab.Y
open Go Go.Ab Go.Proofs

section
variable {l : List Token}
theorem kE_bin {op : Int} {a b : Expr} {lv : Nat} (hlv : lvN op = lv) (h : 4 ≤ op ∧ op ≤ 8 ∨ 10 ≤ op ∧ op ≤ 17 ∨ op = 19) : sl (kE ⟨op, 0, [], [a, b]⟩) = sl (tkA a (if lv = 4 then 5 else lv)) + (spell (sgT op)).length + sl (tkA b (lv + 1)) := by
 unfold kE
 rw [tok_bin h, sl_app, hlv]
 have h1 : sl (sgT op :: tkA b (lv + 1)) = (spell (sgT op)).length + sl (tkA b (lv + 1)) := rfl
 show sl (tkA a (if lv = 4 then 5 else lv)) + sl (sgT op :: tkA b (lv + 1)) = _
 omega
def IQ (l : List Token) (i : Nat) (e : Expr) (z : Int) : Prop := ∃ k : Nat, z = (k : Int) ∧ i ≤ k ∧ k ≤ l.length ∧ inE e ∧ ps l i + (2 + sl (kE e)) ≤ ps l k
theorem expr_post (hl : l.length ≤ 1000000000) (hg : GoodT l) (hv : ∀ t, t ∈ l → vT (er t)) : ∀ n : Nat, (∀ (lv : Nat) (d : Int) (i : Nat), 1 ≤ lv → lv ≤ 8 → i ≤ l.length → Post (XQ l i lv) (F_a0 n (lv : Int) d ⟨l, (i : Int)⟩)) ∧
  (∀ (op : Int) (lv : Nat) (d : Int) (i : Nat), (op = 18 ∧ lv = 3 ∧ isT l i [110, 111, 116] = true ∨ op = 9 ∧ lv = 8 ∧ isT l i [45] = true) → Post (XQ l i lv) (F_e0 n op (lv : Int) d ⟨l, (i : Int)⟩)) ∧
  (∀ (d : Int) (i : Nat), i ≤ l.length → Post (XQ l i 9) (F_b0 n d ⟨l, (i : Int)⟩)) ∧ (∀ (d : Int) (i : Nat), i ≤ l.length → Post (IQ l i) (F_d0 n d ⟨l, (i : Int)⟩)) := by
 intro n
 induction n with
 | zero => exact ⟨fun _ _ _ _ _ _ => .none, fun _ _ _ _ _ => .none, fun _ _ _ => .none, fun _ _ _ => .none⟩
 | succ n ih =>
  obtain ⟨he, hp, hu, hi⟩ := ih
  have hloop : ∀ (lv : Nat) (d : Int) (i0 : Int) (i m k : Nat) (op N : Int) (S : List UInt8) (A : List Expr), 1 ≤ lv → lv ≤ 7 → i ≤ k → k ≤ l.length → inE ⟨op, N, S, A⟩ → ps l i + sl (tkA ⟨op, N, S, A⟩ (if lv = 4 then 5 else lv)) ≤ ps l k →
    Post (XQ l i lv) (F_a0_l1 n (F_a0 n) (F_e0 n) (F_b0 n) (F_d0 n) (lv : Int) d ⟨l, i0⟩ m (k : Int) op N S A) := by
   intro lv d i0 i m
   induction m with
   | zero => intro k op N S A _ _ _ _ _ _; exact .none
   | succ m ihm =>
    intro k op N S A h1 h2 h3 h4 h5 h6
    simp only [F_a0_l1, F_a0_b1]
    rw [p_level n l k]
    simp only [bind_s]
    refine Post.bif (fun _ => .ret ⟨k, rfl, h3, h4, h5, ?_⟩) (fun hc => ?_)
    ·have := tkA_mono ⟨op, N, S, A⟩ (show lv ≤ if lv = 4 then 5 else lv by split <;> omega)
     omega
    ·have hc : (levS l k).1 = (lv : Int) := by simpa using hc
     obtain ⟨g1, g2, g3⟩ := lev_post (l := l) (i := k) (by omega)
     obtain ⟨g4, g5⟩ := ps_T g1
     have hlv : lvN (levS l k).2 = lv := by omega
     rw [wr_s (by omega), wr_s (by omega)]
     refine Post.bind (he (lv + 1) d (k + 1) (by omega) (by omega) (by omega)) (fun b z hb => ?_) (fun x z => .pan)
     obtain ⟨k', rfl, q1, q2, q3, q4⟩ := hb
     have hk := kE_bin (a := ⟨op, N, S, A⟩) (b := b) hlv g3
     have hin : inE ⟨(levS l k).2, 0, [], [⟨op, N, S, A⟩, b]⟩ := ⟨by omega, by simp, by simp, h5, q3, trivial⟩
     have hacc : ps l i + sl (kE ⟨(levS l k).2, 0, [], [⟨op, N, S, A⟩, b]⟩) ≤ ps l k' := by rw [hk]; omega
     have htk : ∀ j, j ≤ lv → sl (tkA ⟨(levS l k).2, 0, [], [⟨op, N, S, A⟩, b]⟩ j) = sl (kE ⟨(levS l k).2, 0, [], [⟨op, N, S, A⟩, b]⟩) := fun j hj => by rw [tkA_sl, if_neg (by simp only; omega)]; rfl
     refine Post.bif (fun _ => .ret ⟨k', rfl, by omega, q2, hin, by rw [htk lv (by omega)]; exact hacc⟩) (fun h4c => ?_)
     have h4n : lv ≠ 4 := by
      intro e
      subst e
      simp at h4c
     exact ihm k' _ 0 [] _ h1 h2 (by omega) q2 hin (by rw [if_neg h4n, htk lv (by omega)]; exact hacc)
  refine ⟨fun lv d i h1 h2 h3 => ?_, fun op lv d i hop => ?_, fun d i h3 => ?_, fun d i h3 => ?_⟩
  ·rw [pe_s]
   unfold B_a0
   rw [p_is, p_is]
   simp only [bind_s]
   refine Post.bif (fun hc => ?_) (fun hc => Post.bif (fun hc2 => ?_) (fun hc2 => ?_))
   ·obtain rfl : lv = 3 := by have := of_decide_eq_true hc; omega
    refine Post.bif (fun hn => ?_) (fun hn => ?_)
    ·exact Post.bind (hp 18 3 d i (Or.inl ⟨rfl, rfl, hn⟩)) (fun a z hq => .ret hq) (fun x z => .pan)
    ·exact Post.bind (he 4 d i (by omega) (by omega) h3) (fun a z hq => .ret (hq.mono (Nat.le_refl _) (Nat.le_refl _) (by omega))) (fun x z => .pan)
   ·obtain rfl : lv = 8 := by have := of_decide_eq_true hc2; omega
    refine Post.bif (fun hn => ?_) (fun hn => ?_)
    ·exact Post.bind (hp 9 8 d i (Or.inr ⟨rfl, rfl, hn⟩)) (fun a z hq => .ret hq) (fun x z => .pan)
    ·exact Post.bind (hu d i h3) (fun a z hq => .ret (hq.mono (Nat.le_refl _) (Nat.le_refl _) (by omega))) (fun x z => .pan)
   ·have hlv : lv ≠ 8 := by intro e; subst e; simp at hc2
    rw [wr_s (by omega)]
    refine Post.bind (he (lv + 1) d i (by omega) (by omega) h3) (fun a z hq => ?_) (fun x z => .pan)
    obtain ⟨k, rfl, q1, q2, q3, q4⟩ := hq
    refine hloop lv d (i : Int) i n k a.Op a.N a.S a.Args h1 (by omega) q1 q2 (by rw [eta_E]; exact q3) ?_
    rw [eta_E]
    have := tkA_mono a (show (if lv = 4 then 5 else lv) ≤ lv + 1 by split <;> omega)
    omega
  ·have hT : ∃ w, isT l i w = true ∧ (spell (if op = 18 then kwT [110, 111, 116] else mkT [45])).length = w.length := by
    rcases hop with ⟨rfl, rfl, h⟩ | ⟨rfl, rfl, h⟩
    ·exact ⟨_, h, rfl⟩
    ·exact ⟨_, h, rfl⟩
   obtain ⟨w, hw, hwl⟩ := hT
   obtain ⟨g4, g5⟩ := ps_T hw
   show Post (XQ l i lv) (B_e0 n (F_a0 n) (F_e0 n) (F_b0 n) (F_d0 n) op (lv : Int) d ⟨l, (i : Int)⟩)
   unfold B_e0
   refine Post.bind (nest_post n d _) (fun d' z _ => ?_) (fun x z => .pan)
   rw [wr_s (by omega)]
   refine Post.bind (he lv d' (i + 1) (by omega) (by omega) (by omega)) (fun a z hq => .ret ?_) (fun x z => .pan)
   obtain ⟨k, rfl, q1, q2, q3, q4⟩ := hq
   refine ⟨k, rfl, by omega, q2, ⟨by omega, by simp, by simp, q3, trivial⟩, ?_⟩
   rcases hop with ⟨rfl, rfl, h⟩ | ⟨rfl, rfl, h⟩
   ·have h1 : sl (tkA ⟨18, 0, [], [a]⟩ 3) = (spell (kwT [110, 111, 116])).length + sl (tkA a 3) := rfl
    rw [if_pos rfl] at hwl
    omega
   ·have h1 : sl (tkA ⟨9, 0, [], [a]⟩ 8) = (spell (mkT [45])).length + sl (tkA a 8) := rfl
    rw [if_neg (by omega)] at hwl
    omega
  ·have hj1 : ∀ b : Int, Post (XQ l i 9) (F_b0_j1 n (F_a0 n) (F_e0 n) (F_b0 n) (F_d0 n) d ⟨l, b⟩ (i : Int)) := by
    intro b
    simp only [F_b0_j1, F_b0_j2, F_b0_j3, F_b0_j4]
    rw [p_call n l i hg, p_is]
    simp only [bind_s]
    have hj3 : Post (XQ l i 9) (Option.bind (F_ae0 n d ⟨l, (i : Int)⟩) fun r9 => Pn.on r9 (fun r10 r11 => Option.bind (F_d0 n r10 ⟨l, (i : Int)⟩) fun r13 => Pn.on r13 (fun r14 r15 => some (.ret r14 r15)) (fun x16 r15 => some (.pan x16 r15))) (fun x12 r11 => some (.pan x12 (i : Int)))) := by
     refine Post.bind (nest_post n d _) (fun d' z _ => ?_) (fun x z => .pan)
     refine Post.bind (hi d' i h3) (fun a z hq => .ret ?_) (fun x z => .pan)
     obtain ⟨k, rfl, q1, q2, q3, q4⟩ := hq
     refine ⟨k, rfl, q1, q2, q3, ?_⟩
     rw [tkA_sl]; split <;> omega
    refine Post.bif (fun hc => ?_) (fun hc => ?_)
    ·exact Post.bif (fun _ => Post.bind (fail_post n 5 i hl) (fun _ _ hf => hf.elim) (fun x z => .pan)) (fun _ => hj3)
    ·have hc : callS l i ≠ 0 := of_decide_eq_false hc
     obtain ⟨c1, c2, c3⟩ := call_post hc
     obtain ⟨c4, c5⟩ := ps_T c1
     generalize callS l i = op at hc c1 c2 c3 c4 c5
     have hj2 : op ≤ 24 → Post (XQ l i 9) (Option.bind (F_ae0 n d ⟨l, (i : Int)⟩) fun r26 => Pn.on r26 (fun r27 r28 => Option.bind (F_d0 n r27 ⟨l, IntKind.i64.wrap ((i : Int) + 1)⟩) fun r30 => Pn.on r30 (fun r31 r32 => some (.ret (⟨op, 0, [], [r31]⟩ : Expr) r32)) (fun x33 r32 => some (.pan x33 r32))) (fun x29 r28 => some (.pan x29 (i : Int)))) := by
      intro hop
      refine Post.bind (nest_post n d _) (fun d' z _ => ?_) (fun x z => .pan)
      rw [wr_s (by omega)]
      refine Post.bind (hi d' (i + 1) (by omega)) (fun a z hq => .ret ?_) (fun x z => .pan)
      obtain ⟨k, rfl, q1, q2, q3, q4⟩ := hq
      refine ⟨k, rfl, by omega, q2, ⟨by omega, by simp, by simp, q3, trivial⟩, ?_⟩
      have hlv : lvN op = 9 := by
       have : op = 20 ∨ op = 21 ∨ op = 22 ∨ op = 23 ∨ op = 24 := by omega
       rcases this with rfl | rfl | rfl | rfl | rfl <;> rfl
      rw [tkA_sl, if_neg (by simp only [hlv]; omega)]
      have hk : kE ⟨op, 0, [], [a]⟩ = wdT op :: mkT [40] :: (kE a ++ [mkT [41]]) := by
       have : op = 20 ∨ op = 21 ∨ op = 22 ∨ op = 23 ∨ op = 24 := by omega
       rcases this with rfl | rfl | rfl | rfl | rfl <;> simp [kE, pcs, pcss, pcO, toks, toks_app]
      rw [hk]
      have s1 : (spell (mkT [40])).length = 1 := rfl
      have s2 : (spell (mkT [41])).length = 1 := rfl
      simp only [sl, sl_app, s1, s2]
      omega
     have hj4 : 25 ≤ op → Post (XQ l i 9) (Option.bind (F_g0 n [40] ⟨l, IntKind.i64.wrap ((i : Int) + 1)⟩) fun r18 => Pn.on r18 (fun r19 r20 => Option.bind (F_g0 n [41] ⟨l, r20⟩) fun r22 => Pn.on r22 (fun r23 r24 => some (.ret (⟨op, 0, [], []⟩ : Expr) r24)) (fun x25 r24 => some (.pan x25 r24))) (fun x21 r20 => some (.pan x21 r20))) := by
      intro hop
      rw [wr_s (by omega)]
      refine Post.bind (exp_post n _ (i + 1) hl (by omega)) (fun _ z hz => ?_) (fun x z => .pan)
      obtain ⟨rfl, hz⟩ := hz
      obtain ⟨e1, e2⟩ := ps_T hz
      refine Post.bind (exp_post n _ (i + 1 + 1) hl (by omega)) (fun _ z hz => .ret ?_) (fun x z => .pan)
      obtain ⟨rfl, hz⟩ := hz
      obtain ⟨e3, e4⟩ := ps_T (l := l) hz
      refine ⟨i + 1 + 1 + 1, rfl, by omega, by omega, ⟨by simp, by simp, by simp, trivial⟩, ?_⟩
      have : op = 25 ∨ op = 26 ∨ op = 27 := by omega
      simp only [List.length_cons, List.length_nil] at e2 e4
      rcases this with rfl | rfl | rfl
      ·have : sl (tkA ⟨25, 0, [], []⟩ 9) = (spell (wdT 25)).length + 2 := rfl
       omega
      ·have : sl (tkA ⟨26, 0, [], []⟩ 9) = (spell (wdT 26)).length + 2 := rfl
       omega
      ·have : sl (tkA ⟨27, 0, [], []⟩ 9) = (spell (wdT 27)).length + 2 := rfl
       omega
     refine Post.bif (fun h25 => ?_) (fun h25 => Post.bif (fun h26 => ?_) (fun h26 => Post.bif (fun h27 => ?_) (fun h27 => ?_)))
     ·have : op = 25 := of_decide_eq_true h25
      exact Post.bif (fun _ => hj4 (by omega)) (fun h => by rw [h25] at h; cases h)
     ·have : op = 26 := of_decide_eq_true h26
      exact Post.bif (fun _ => hj4 (by omega)) (fun h => by rw [h26] at h; cases h)
     ·have : op = 27 := of_decide_eq_true h27
      exact hj4 (by omega)
     ·have g1 : op ≠ 25 := of_decide_eq_false h25
      have g2 : op ≠ 26 := of_decide_eq_false h26
      have g3 : op ≠ 27 := of_decide_eq_false h27
      exact hj2 (by omega)
   show Post (XQ l i 9) (B_b0 n (F_a0 n) (F_e0 n) (F_b0 n) (F_d0 n) d ⟨l, (i : Int)⟩)
   unfold B_b0
   simp only [Int.toNat_natCast, Int.ofNat_lt]
   refine Post.bif (fun hc => Post.ass ?_) (fun _ => hj1 _)
   have hc : i < l.length := of_decide_eq_true hc
   have hvt := hv _ (mem_getD hc)
   have hps := psl_s i hc
   rw [wr_s (by omega), show IntKind.i64.wrap (((i + 1 : Nat) : Int) - 1) = (i : Int) by rw [wr] <;> omega]
   obtain ⟨_, hvt⟩ := hvt
   simp only [er] at hvt
   refine Post.bif (fun h => ?_) (fun _ => Post.bif (fun h => ?_) (fun _ => Post.bif (fun h => ?_) (fun _ => hj1 _)))
   ·have h : (l.getD i default).Kind = 3 := of_decide_eq_true h
    refine .ret ⟨i + 1, rfl, by omega, by omega, ⟨?_, by simp, by simp, trivial⟩, ?_⟩
    ·rcases hvt with ⟨g, _⟩ | ⟨g, _⟩ | ⟨_, _, g1, g2⟩ | ⟨g, _⟩ | ⟨g, _⟩
     ·omega
     ·omega
     ·exact g2
     ·omega
     ·omega
    ·have h1 : sl (tkA ⟨1, (l.getD i default).N, [], []⟩ 9) = (Lib.decDigits (l.getD i default).N.toNat).length := rfl
     have h2 : spell (l.getD i default) = Lib.decDigits (l.getD i default).N.toNat := by unfold spell; rw [if_pos h]
     rw [h2] at hps; omega
   ·have h : (l.getD i default).Kind = 4 := of_decide_eq_true h
    have h2 : spell (l.getD i default) = quo (l.getD i default).Text := by unfold spell; rw [if_neg (by omega), if_pos h]
    refine .ret ⟨i + 1, rfl, by omega, by omega, ⟨by omega, ?_, by simp, trivial⟩, ?_⟩
    ·rcases hvt with ⟨g, _⟩ | ⟨g, _⟩ | ⟨g, _⟩ | ⟨_, g, _⟩ | ⟨g, _⟩
     ·omega
     ·omega
     ·omega
     ·unfold plainS at g
      simp only [Bool.and_eq_true, decide_eq_true_eq] at g
      omega
     ·omega
    ·have h1 : sl (tkA ⟨2, 0, (l.getD i default).Text, []⟩ 9) = (quo (l.getD i default).Text).length := rfl
     rw [h2] at hps; omega
   ·have h : (l.getD i default).Kind = 1 := of_decide_eq_true h
    have h2 : spell (l.getD i default) = (l.getD i default).Text := by unfold spell; rw [if_neg (by omega), if_neg (by omega)]
    refine .ret ⟨i + 1, rfl, by omega, by omega, ⟨by omega, ?_, by simp, trivial⟩, ?_⟩
    ·rcases hvt with ⟨_, g, _⟩ | ⟨g, _⟩ | ⟨g, _⟩ | ⟨g, _⟩ | ⟨g, _⟩
     ·have := name_len g
      omega
     ·omega
     ·omega
     ·omega
     ·omega
    ·have h1 : sl (tkA ⟨3, 0, (l.getD i default).Text, []⟩ 9) = (l.getD i default).Text.length := rfl
     rw [h2] at hps; omega
  ·show Post (IQ l i) (B_d0 n (F_a0 n) (F_e0 n) (F_b0 n) (F_d0 n) d ⟨l, (i : Int)⟩)
   unfold B_d0
   refine Post.bind (exp_post n _ i hl h3) (fun _ z hz => ?_) (fun x z => .pan)
   obtain ⟨rfl, hz⟩ := hz
   obtain ⟨g1, g2⟩ := ps_T hz
   refine Post.bind (he 1 d (i + 1) (by omega) (by omega) (by omega)) (fun a z hq => ?_) (fun x z => .pan)
   obtain ⟨k, rfl, q1, q2, q3, q4⟩ := hq
   refine Post.bind (exp_post n _ k hl q2) (fun _ z hz => ?_) (fun x z => .pan)
   obtain ⟨rfl, hz⟩ := hz
   obtain ⟨g3, g4⟩ := ps_T (l := l) hz
   have h1 := tkA_sl a 1
   exact .ret ⟨k + 1, rfl, by omega, by omega, q3, by simp only [List.length_cons, List.length_nil] at g2 g4; omega⟩
end
end Go.Ab.Y

namespace Go.Ab.Y
open Go Go.Ab Go.Proofs

section
variable {l : List Token}
def SQ (l : List Token) (i : Nat) (s : Stmt) (z : Int) : Prop := ∃ k : Nat, z = (k : Int) ∧ i ≤ k ∧ k ≤ l.length ∧ inS s ∧ ps l i + sl (stK s) ≤ ps l k
def BQ (l : List Token) (i : Nat) (b : List Stmt) (z : Int) : Prop := ∃ k : Nat, z = (k : Int) ∧ i ≤ k ∧ k ≤ l.length ∧ inSs b ∧ ps l i + (2 + sl (blK b)) ≤ ps l k
theorem inSs_app : ∀ l m : List Stmt, inSs (l ++ m) ↔ inSs l ∧ inSs m
 | [], m => by simp [inSs]
 | x :: l, m => by simp only [List.cons_append, inSs, inSs_app l m, and_assoc]
theorem blK_app : ∀ l m : List Stmt, blK (l ++ m) = blK l ++ blK m
 | [], m => rfl
 | x :: l, m => by simp only [List.cons_append, blK, blK_app l m, List.append_assoc]
theorem inE_z : inE zE := ⟨by simp, by simp, by simp, trivial⟩
theorem tok_post {t : Token} (h : vT (er t)) : (t.Kind = 1 → spell t = t.Text ∧ t.Text.length ≤ 16) ∧ (t.Kind = 3 → spell t = Lib.decDigits t.N.toNat ∧ 0 ≤ t.N ∧ t.N ≤ 9223372036854775807) := by
 obtain ⟨_, h⟩ := h
 simp only [er] at h
 refine ⟨fun hk => ⟨by unfold spell; rw [if_neg (by omega), if_neg (by omega)], ?_⟩, fun hk => ⟨by unfold spell; rw [if_pos hk], ?_⟩⟩
 ·rcases h with ⟨_, g, _⟩ | ⟨g, _⟩ | ⟨g, _⟩ | ⟨g, _⟩ | ⟨g, _⟩
  ·exact name_len g
  ·omega
  ·omega
  ·omega
  ·omega
 ·rcases h with ⟨g, _⟩ | ⟨g, _⟩ | ⟨_, _, g1, g2⟩ | ⟨g, _⟩ | ⟨g, _⟩
  ·omega
  ·omega
  ·exact ⟨g1, g2⟩
  ·omega
  ·omega
theorem end_post (n : Nat) (s : Stmt) (i : Nat) (hl : l.length ≤ 1000000000) (hi : i ≤ l.length) : Post (fun s' z => s' = s ∧ z = ((i + 1 : Nat) : Int) ∧ isT l i [59] = true) (F_y0 n s ⟨l, (i : Int)⟩) := by
 rw [p_end n s l i (by omega) (by omega)]
 cases h : isT l i [59]
 ·exact .pan
 ·exact .ret ⟨rfl, rfl, rfl⟩
theorem kE_tkA (e : Expr) : sl (tkA e 1) = sl (kE e) := by
 have := lvN_ge e.Op
 rw [tkA_sl, if_neg (by omega)]; rfl
theorem ex_post (hl : l.length ≤ 1000000000) (hg : GoodT l) (hv : ∀ t, t ∈ l → vT (er t)) (n i : Nat) (hi : i ≤ l.length) : Post (fun e z => ∃ k : Nat, z = (k : Int) ∧ i ≤ k ∧ k ≤ l.length ∧ inE e ∧ ps l i + sl (kE e) ≤ ps l k) (F_a0 n 1 0 ⟨l, (i : Int)⟩) := by
 have := (expr_post hl hg hv n).1 1 0 i (by omega) (by omega) hi
 intro e z h
 obtain ⟨k, h1, h2, h3, h4, h5⟩ := this e z h
 rw [kE_tkA] at h5
 exact ⟨k, h1, h2, h3, h4, h5⟩
end
end Go.Ab.Y

namespace Go.Ab.Y
open Go Go.Ab Go.Proofs

section
variable {l : List Token}
theorem fin_post {n i k : Nat} {s : Stmt} (hl : l.length ≤ 1000000000) (hi : i ≤ k) (hk : k ≤ l.length) (hs : inS s) (hw : ps l i + sl (stK s) ≤ ps l k + 1) :
  Post (SQ l i) (Option.bind (F_y0 n s ⟨l, (k : Int)⟩) fun r => Pn.on r (fun r16 r17 => some (.ret (⟨r16.Op, r16.Name, r16.Max, (⟨r16.A.Op, r16.A.N, r16.A.S, r16.A.Args⟩ : Expr), (⟨r16.B.Op, r16.B.N, r16.B.S, r16.B.Args⟩ : Expr), r16.Body, r16.Else⟩ : Stmt) r17)) (fun x18 r17 => some (.pan x18 r17))) := by
 refine Post.bind (end_post n s k hl hk) (fun a z hq => ?_) (fun x z => .pan)
 obtain ⟨rfl, rfl, hT⟩ := hq
 obtain ⟨g1, g2⟩ := ps_T (l := l) hT
 simp only [eta_E, eta_S]
 simp only [List.length_cons, List.length_nil] at g2
 exact .ret ⟨k + 1, rfl, by omega, by omega, hs, by omega⟩
theorem block_post (hl : l.length ≤ 1000000000) (hg : GoodT l) (hv : ∀ t, t ∈ l → vT (er t)) : ∀ n : Nat, (∀ (d : Int) (i : Nat), i ≤ l.length → Post (BQ l i) (F_c0 n d ⟨l, (i : Int)⟩)) ∧ (∀ (d : Int) (i : Nat), i ≤ l.length → Post (SQ l i) (F_h0 n d ⟨l, (i : Int)⟩)) ∧
  (∀ (d : Int) (i : Nat), i ≤ l.length → Post (fun s z => ∃ k : Nat, z = (k : Int) ∧ i ≤ k ∧ k ≤ l.length ∧ inS s ∧ ps l i + sl (stK s) ≤ ps l k + 3) (F_m0 n d ⟨l, (i : Int)⟩)) := by
 intro n
 induction n with
 | zero => exact ⟨fun _ _ _ => .none, fun _ _ _ => .none, fun _ _ _ => .none⟩
 | succ n ih =>
  obtain ⟨hb, hs, hlp⟩ := ih
  have hE := fun i hi => ex_post hl hg hv n i hi
  have hloop : ∀ (d i0 : Int) (i m k : Nat) (acc : List Stmt), i ≤ k → k ≤ l.length → inSs acc → ps l i + (1 + sl (blK acc)) ≤ ps l k → Post (BQ l i) (F_c0_l3 n (F_c0 n) (F_h0 n) (F_m0 n) d ⟨l, i0⟩ m (k : Int) acc) := by
   intro d i0 i m
   induction m with
   | zero => intro k acc _ _ _ _; exact .none
   | succ m ihm =>
    intro k acc h1 h2 h3 h4
    simp only [F_c0_l3, F_c0_b3, F_c0_j2]
    rw [p_accept n l k _ (by omega)]
    simp only [bind_s]
    refine Post.bif (fun hc => ?_) (fun hc => ?_)
    ·have hc : isT l k [125] = false := by simpa using hc
     rw [hc]
     refine Post.bind (hs _ k h2) (fun s z hq => Post.ass ?_) (fun x z => .pan)
     obtain ⟨k', rfl, q1, q2, q3, q4⟩ := hq
     refine ihm k' _ (by omega) q2 ((inSs_app _ _).2 ⟨h3, q3, trivial⟩) ?_
     have : sl (blK (acc ++ [s])) = sl (blK acc) + sl (stK s) := by rw [blK_app, sl_app]; simp [blK]
     rw [this]; omega
    ·have hc : isT l k [125] = true := by simpa using hc
     obtain ⟨g1, g2⟩ := ps_T hc
     rw [hc]
     simp only [List.length_cons, List.length_nil] at g2
     exact .ret ⟨k + 1, rfl, by omega, by omega, h3, by omega⟩
  refine ⟨fun d i hi => ?_, fun d i hi => ?_, fun d i hi => ?_⟩
  ·rw [pb_s]
   simp only [B_c0, F_c0_j1]
   rw [p_is]
   simp only [bind_s]
   have hj : Post (BQ l i) (Option.bind (F_g0 n [123] ⟨l, (i : Int)⟩) fun r6 => Pn.on r6 (fun r7 r8 => F_c0_l3 n (F_c0 n) (F_h0 n) (F_m0 n) d ⟨l, (i : Int)⟩ n r8 []) (fun x9 r8 => some (.pan x9 r8))) := by
    refine Post.bind (exp_post (l := l) n _ i hl hi) (fun _ z hq => ?_) (fun x z => .pan)
    obtain ⟨rfl, hT⟩ := hq
    obtain ⟨g1, g2⟩ := ps_T (l := l) hT
    simp only [List.length_cons, List.length_nil] at g2
    exact hloop d _ i n (i + 1) [] (by omega) (by omega) trivial (by simp [blK, sl]; omega)
   exact Post.bif (fun _ => Post.bind (fail_post n 2 i hl) (fun _ _ hf => hf.elim) (fun x z => .pan)) (fun _ => hj)
  ·rw [ps_s]
   simp only [B_h0, F_h0_j1]
   have acc : ∀ w, F_w0 n w ⟨l, (i : Int)⟩ = some (isT l i w, (((bif isT l i w then i + 1 else i) : Nat) : Int)) := fun w => p_accept n l i w (by omega)
   have w3 : (spell (mkT [61])).length = 1 := rfl
   have w9 : (spell (mkT [59])).length = 1 := rfl
   have one : ∀ (op : Int) (w : List UInt8), isT l i w = true → (∀ A : Expr, sl (stK ⟨op, [], 0, A, zE, [], []⟩) = w.length + (sl (kE A) + 1)) →
     Post (SQ l i) (Option.bind (F_a0 n 1 0 ⟨l, ((i + 1 : Nat) : Int)⟩) fun r39 => Pn.on r39 (fun r40 r41 => Option.bind (F_y0 n (⟨op, [], 0, r40, zE, [], []⟩ : Stmt) ⟨l, r41⟩) fun r => Pn.on r (fun r16 r17 => some (.ret (⟨r16.Op, r16.Name, r16.Max, (⟨r16.A.Op, r16.A.N, r16.A.S, r16.A.Args⟩ : Expr), (⟨r16.B.Op, r16.B.N, r16.B.S, r16.B.Args⟩ : Expr), r16.Body, r16.Else⟩ : Stmt) r17)) (fun x18 r17 => some (.pan x18 r17))) (fun x42 r41 => some (.pan x42 r41))) := by
    intro op w hT hw
    obtain ⟨g1, g2⟩ := ps_T (l := l) hT
    refine Post.bind (hE (i + 1) (by omega)) (fun A z hq => ?_) (fun x z => .pan)
    obtain ⟨k1, rfl, a1, a2, a3, a4⟩ := hq
    exact fin_post hl (by omega) a2 ⟨by omega, by simp, a3, inE_z, trivial, trivial⟩ (by rw [hw]; omega)
   rw [acc]; simp only [bind_s]
   refine Post.bif (fun hT => ?_) (fun hf => ?_)
   ·rw [hT]
    obtain ⟨g1, g2⟩ := ps_T (l := l) hT
    refine Post.bind (take_post (l := l) n 1 (i + 1) hl (by omega)) (fun t z hq => ?_) (fun x z => .pan)
    obtain ⟨rfl, hlt, ht, hk⟩ := hq
    have hps := psl_s (l := l) (i + 1) hlt
    rw [← ht] at hps
    obtain ⟨q1, q2⟩ := (tok_post (t := t) (by rw [ht]; exact hv _ (mem_getD hlt))).1 hk
    rw [q1] at hps
    refine Post.bind (exp_post (l := l) n _ (i + 1 + 1) hl (by omega)) (fun _ z hq => ?_) (fun x z => .pan)
    obtain ⟨rfl, hT2⟩ := hq
    obtain ⟨g3, g4⟩ := ps_T (l := l) hT2
    refine Post.bind (hE (i + 1 + 1 + 1) (by omega)) (fun A z hq => ?_) (fun x z => .pan)
    obtain ⟨k1, rfl, a1, a2, a3, a4⟩ := hq
    refine fin_post hl (by omega) a2 ⟨by omega, by omega, a3, inE_z, trivial, trivial⟩ ?_
    have e : stK ⟨1, t.Text, 0, A, zE, [], []⟩ = kwT [108, 101, 116] :: nmT t.Text :: mkT [61] :: (kE A ++ [mkT [59]]) := by simp [stK]
    have w1 : (spell (kwT [108, 101, 116])).length = 3 := rfl
    have w2 : (spell (nmT t.Text)).length = t.Text.length := rfl
    show ps l i + sl (stK ⟨1, t.Text, 0, A, zE, [], []⟩) ≤ ps l k1 + 1
    rw [e]
    simp only [List.length_cons, List.length_nil] at g2 g4
    simp only [sl, sl_app, w1, w2, w3, w9]
    omega
   rw [hf, show (bif false then i + 1 else i) = i from rfl, acc]; simp only [bind_s]
   refine Post.bif (fun hT => ?_) (fun hf => ?_)
   ·rw [hT]
    obtain ⟨g1, g2⟩ := ps_T (l := l) hT
    refine Post.bind (hE (i + 1) (by omega)) (fun A z hq => ?_) (fun x z => .pan)
    obtain ⟨k1, rfl, a1, a2, a3, a4⟩ := hq
    refine Post.bind (exp_post (l := l) n _ k1 hl (by omega)) (fun _ z hq => ?_) (fun x z => .pan)
    obtain ⟨rfl, hT2⟩ := hq
    obtain ⟨g3, g4⟩ := ps_T (l := l) hT2
    refine Post.bind (hE (k1 + 1) (by omega)) (fun B z hq => ?_) (fun x z => .pan)
    obtain ⟨k2, rfl, b1, b2, b3, b4⟩ := hq
    refine fin_post hl (by omega) b2 ⟨by omega, by simp, a3, b3, trivial, trivial⟩ ?_
    have e : stK ⟨3, [], 0, A, B, [], []⟩ = kwT [112, 117, 116] :: (kE A ++ mkT [61] :: (kE B ++ [mkT [59]])) := by simp [stK]
    have w1 : (spell (kwT [112, 117, 116])).length = 3 := rfl
    rw [e]
    simp only [List.length_cons, List.length_nil] at g2 g4
    simp only [sl, sl_app, w1, w3, w9]
    omega
   rw [hf, show (bif false then i + 1 else i) = i from rfl, acc]; simp only [bind_s]
   refine Post.bif (fun hT => ?_) (fun hf => ?_)
   ·rw [hT]
    exact one 4 _ hT (fun A => by simp [stK, sl, sl_app, w9]; rfl)
   rw [hf, show (bif false then i + 1 else i) = i from rfl, acc]; simp only [bind_s]
   refine Post.bif (fun hT => ?_) (fun hf => ?_)
   ·rw [hT]
    exact one 7 _ hT (fun A => by simp [stK, sl, sl_app, w9]; rfl)
   rw [hf, show (bif false then i + 1 else i) = i from rfl, acc]; simp only [bind_s]
   refine Post.bif (fun hT => ?_) (fun hf => ?_)
   ·rw [hT]
    obtain ⟨g1, g2⟩ := ps_T (l := l) hT
    refine Post.bind (take_post (l := l) n 3 (i + 1) hl (by omega)) (fun t z hq => ?_) (fun x z => .pan)
    obtain ⟨rfl, hlt, ht, hk⟩ := hq
    have hps := psl_s (l := l) (i + 1) hlt
    rw [← ht] at hps
    obtain ⟨q1, q2, q3⟩ := (tok_post (t := t) (by rw [ht]; exact hv _ (mem_getD hlt))).2 hk
    rw [q1] at hps
    refine fin_post hl (by omega) (by omega) ⟨by omega, by simp, inE_z, inE_z, trivial, trivial⟩ ?_
    have e : stK ⟨8, [], t.N, zE, zE, [], []⟩ = [kwT [97, 98, 111, 114, 116], inT t.N, mkT [59]] := by simp [stK]
    have w1 : (spell (kwT [97, 98, 111, 114, 116])).length = 5 := rfl
    have w2 : (spell (inT t.N)).length = (Lib.decDigits t.N.toNat).length := rfl
    show ps l i + sl (stK ⟨8, [], t.N, zE, zE, [], []⟩) ≤ ps l (i + 1 + 1) + 1
    rw [e]
    simp only [List.length_cons, List.length_nil] at g2
    simp only [sl, w1, w2, w9]
    omega
   rw [hf, show (bif false then i + 1 else i) = i from rfl, acc]; simp only [bind_s]
   refine Post.bif (fun hT => ?_) (fun hf => ?_)
   ·rw [hT]
    obtain ⟨g1, g2⟩ := ps_T (l := l) hT
    simp only [List.length_cons, List.length_nil] at g2
    refine Post.bind (hE (i + 1) (by omega)) (fun A z hq => ?_) (fun x z => .pan)
    obtain ⟨k1, rfl, a1, a2, a3, a4⟩ := hq
    refine Post.bind (hb d k1 a2) (fun bd z hq => ?_) (fun x z => .pan)
    obtain ⟨k2, rfl, b1, b2, b3, b4⟩ := hq
    have w1 : (spell (kwT [105, 102])).length = 2 := rfl
    have w4 : (spell (kwT [101, 108, 115, 101])).length = 4 := rfl
    have w5 : (spell (mkT [123])).length = 1 := rfl
    have w6 : (spell (mkT [125])).length = 1 := rfl
    have hsl : ∀ el : List Stmt, sl (stK ⟨5, [], 0, A, zE, bd, el⟩) ≤ 2 + (sl (kE A) + (2 + sl (blK bd))) + (if el.length = 0 then 0 else 6 + sl (blK el)) := by
     intro el
     by_cases h0 : el.length = 0
     ·have e : stK ⟨5, [], 0, A, zE, bd, el⟩ = kwT [105, 102] :: (kE A ++ mkT [123] :: (blK bd ++ mkT [125] :: [])) := by simp only [stK, h0]; simp
      rw [e, if_pos h0]
      simp only [sl, sl_app, w1, w5, w6]; omega
     ·have e : stK ⟨5, [], 0, A, zE, bd, el⟩ = kwT [105, 102] :: (kE A ++ mkT [123] :: (blK bd ++ mkT [125] :: (kwT [101, 108, 115, 101] :: mkT [123] :: (blK el ++ [mkT [125]])))) := by simp only [stK, h0]; simp
      rw [e, if_neg h0]
      simp only [sl, sl_app, w1, w4, w5, w6]; omega
    rw [p_accept n l k2 _ (by omega)]
    simp only [bind_s]
    refine Post.bif (fun hT2 => ?_) (fun hf2 => ?_)
    ·rw [hT2]
     obtain ⟨g3, g4⟩ := ps_T (l := l) hT2
     simp only [List.length_cons, List.length_nil] at g4
     refine Post.bind (hb d (k2 + 1) (by omega)) (fun el z hq => .ret ?_) (fun x z => .pan)
     obtain ⟨k3, rfl, c1, c2, c3, c4⟩ := hq
     have := hsl el
     exact ⟨k3, rfl, by omega, c2, ⟨by omega, by simp, a3, inE_z, b3, c3⟩, by
      show ps l i + sl (stK ⟨5, [], 0, A, zE, bd, el⟩) ≤ ps l k3
      split at this <;> omega⟩
    ·rw [hf2]
     have := hsl []
     exact .ret ⟨k2, rfl, by omega, b2, ⟨by omega, by simp, a3, inE_z, b3, trivial⟩, by
      show ps l i + sl (stK ⟨5, [], 0, A, zE, bd, []⟩) ≤ ps l k2
      simp only [List.length_nil, if_true] at this; omega⟩
   rw [hf, show (bif false then i + 1 else i) = i from rfl, acc]; simp only [bind_s]
   refine Post.bif (fun hT => ?_) (fun hf => ?_)
   ·rw [hT]
    obtain ⟨g1, g2⟩ := ps_T (l := l) hT
    refine Post.bind (hlp d (i + 1) (by omega)) (fun s z hq => ?_) (fun x z => .pan)
    obtain ⟨k, rfl, a1, a2, a3, a4⟩ := hq
    simp only [eta_E, eta_S]
    simp only [List.length_cons, List.length_nil] at g2
    exact .ret ⟨k, rfl, by omega, a2, a3, by omega⟩
   rw [hf, show (bif false then i + 1 else i) = i from rfl]
   refine Post.bind (take_post (l := l) n 1 i hl hi) (fun t z hq => ?_) (fun x z => .pan)
   obtain ⟨rfl, hlt, ht, hk⟩ := hq
   have hps := psl_s (l := l) i hlt
   rw [← ht] at hps
   obtain ⟨q1, q2⟩ := (tok_post (t := t) (by rw [ht]; exact hv _ (mem_getD hlt))).1 hk
   rw [q1] at hps
   refine Post.bind (exp_post (l := l) n _ (i + 1) hl (by omega)) (fun _ z hq => ?_) (fun x z => .pan)
   obtain ⟨rfl, hT2⟩ := hq
   obtain ⟨g3, g4⟩ := ps_T (l := l) hT2
   refine Post.bind (hE (i + 1 + 1) (by omega)) (fun A z hq => ?_) (fun x z => .pan)
   obtain ⟨k1, rfl, a1, a2, a3, a4⟩ := hq
   refine fin_post hl (by omega) a2 ⟨by omega, by omega, a3, inE_z, trivial, trivial⟩ ?_
   have e : stK ⟨2, t.Text, 0, A, zE, [], []⟩ = nmT t.Text :: mkT [61] :: (kE A ++ [mkT [59]]) := by simp [stK]
   have w2 : (spell (nmT t.Text)).length = t.Text.length := rfl
   show ps l i + sl (stK ⟨2, t.Text, 0, A, zE, [], []⟩) ≤ ps l k1 + 1
   rw [e]
   simp only [List.length_cons, List.length_nil] at g4
   simp only [sl, sl_app, w2, w3, w9]
   omega
  ·rw [pl_s]
   unfold B_m0
   refine Post.bind (take_post (l := l) n 1 i hl hi) (fun t z hq => ?_) (fun x z => .pan)
   obtain ⟨rfl, hlt, ht, hk⟩ := hq
   have hps := psl_s (l := l) i hlt
   rw [← ht] at hps
   obtain ⟨q1, q2⟩ := (tok_post (t := t) (by rw [ht]; exact hv _ (mem_getD hlt))).1 hk
   rw [q1] at hps
   refine Post.bind (exp_post (l := l) n _ (i + 1) hl (by omega)) (fun _ z hq => ?_) (fun x z => .pan)
   obtain ⟨rfl, hT⟩ := hq
   obtain ⟨g1, g2⟩ := ps_T (l := l) hT
   refine Post.bind (hE (i + 1 + 1) (by omega)) (fun A z hq => ?_) (fun x z => .pan)
   obtain ⟨k1, rfl, a1, a2, a3, a4⟩ := hq
   refine Post.bind (exp_post (l := l) n _ k1 hl a2) (fun _ z hq => ?_) (fun x z => .pan)
   obtain ⟨rfl, hT⟩ := hq
   obtain ⟨g3, g4⟩ := ps_T (l := l) hT
   refine Post.bind (hE (k1 + 1) (by omega)) (fun B z hq => ?_) (fun x z => .pan)
   obtain ⟨k2, rfl, b1, b2, b3, b4⟩ := hq
   refine Post.bind (exp_post (l := l) n _ k2 hl b2) (fun _ z hq => ?_) (fun x z => .pan)
   obtain ⟨rfl, hT⟩ := hq
   obtain ⟨g5, g6⟩ := ps_T (l := l) hT
   refine Post.bind (take_post (l := l) n 3 (k2 + 1) hl (by omega)) (fun u z hq => ?_) (fun x z => .pan)
   obtain ⟨rfl, hlt2, hu, hk2⟩ := hq
   have hps2 := psl_s (l := l) (k2 + 1) hlt2
   rw [← hu] at hps2
   obtain ⟨q3, q4, q5⟩ := (tok_post (t := u) (by rw [hu]; exact hv _ (mem_getD hlt2))).2 hk2
   rw [q3] at hps2
   refine Post.bind (hb d (k2 + 1 + 1) (by omega)) (fun bd z hq => .ret ?_) (fun x z => .pan)
   obtain ⟨k3, rfl, c1, c2, c3, c4⟩ := hq
   have e : stK ⟨6, t.Text, u.N, A, B, bd, []⟩ = kwT [102, 111, 114] :: nmT t.Text :: mkT [61] :: (kE A ++ kwT [116, 111] :: (kE B ++ kwT [109, 97, 120] :: inT u.N :: mkT [123] :: (blK bd ++ [mkT [125]]))) := by simp [stK]
   have w1 : (spell (kwT [102, 111, 114])).length = 3 := rfl
   have w2 : (spell (nmT t.Text)).length = t.Text.length := rfl
   have w3 : (spell (mkT [61])).length = 1 := rfl
   have w4 : (spell (kwT [116, 111])).length = 2 := rfl
   have w5 : (spell (kwT [109, 97, 120])).length = 3 := rfl
   have w6 : (spell (inT u.N)).length = (Lib.decDigits u.N.toNat).length := rfl
   have w7 : (spell (mkT [123])).length = 1 := rfl
   have w8 : (spell (mkT [125])).length = 1 := rfl
   refine ⟨k3, rfl, by omega, c2, ⟨by omega, by omega, a3, b3, c3, trivial⟩, ?_⟩
   rw [e]
   simp only [List.length_cons, List.length_nil] at g2 g4 g6
   simp only [sl, sl_app, w1, w2, w3, w4, w5, w6, w7, w8]
   omega
end
end Go.Ab.Y

namespace Go.Ab.Y
open Go Go.Ab Go.Proofs

section
variable {l : List Token}
theorem parR_post (hv : ∀ t, t ∈ l → vT (er t)) {k : Nat} {p : Param} (h : parR l k = .inl p) : k + 3 ≤ l.length ∧ p.Name.length ≤ 16 ∧ ps l k + sl (pa1 p) ≤ ps l (k + 3) := by
 unfold parR at h
 split at h
 ·rename_i h1
  have hps := psl_s (l := l) k h1.1
  have hvt := hv _ (mem_getD h1.1)
  generalize l.getD k default = t at h h1 hps hvt
  obtain ⟨q1, q2⟩ := (tok_post hvt).1 h1.2
  rw [q1] at hps
  cases h2 : isT l (k + 1) [58]
  ·rw [h2] at h; cases h
  ·rw [h2] at h
   simp only [cond_true] at h
   obtain ⟨g1, g2⟩ := ps_T h2
   simp only [List.length_cons, List.length_nil] at g2
   have w2 : (spell (mkT [58])).length = 1 := rfl
   have fin : ∀ (ty : Int) (w : List UInt8), isT l (k + 2) w = true → tyW ty = w → p = ⟨t.Text, ty⟩ → k + 3 ≤ l.length ∧ p.Name.length ≤ 16 ∧ ps l k + sl (pa1 p) ≤ ps l (k + 3) := by
    intro ty w hw ht hp
    obtain ⟨g3, g4⟩ := ps_T hw
    subst hp
    have w1 : (spell (nmT t.Text)).length = t.Text.length := rfl
    have w3 : (spell (kwT (tyW ty))).length = w.length := by rw [ht]; rfl
    refine ⟨by omega, q2, ?_⟩
    have e4 : ps l (k + 3) = _ := g4
    have e5 : ps l (k + 2) = _ := g2
    simp only [pa1, sl, w1, w2, w3]
    omega
   cases h4 : isT l (k + 2) [105, 110, 116]
   ·cases h5 : isT l (k + 2) [115, 116, 114]
    ·cases h6 : isT l (k + 2) [98, 111, 111, 108]
     ·rw [h4, h5, h6] at h; cases h
     ·rw [h4, h5, h6] at h; simp only [cond_true, cond_false, Sum.inl.injEq] at h
      exact fin 3 _ h6 rfl h.symm
    ·rw [h4, h5] at h; simp only [cond_true, cond_false, Sum.inl.injEq] at h
     exact fin 2 _ h5 rfl h.symm
   ·rw [h4] at h; simp only [cond_true, Sum.inl.injEq] at h
    exact fin 1 _ h4 rfl h.symm
 ·cases h
theorem param_post (hl : l.length ≤ 1000000000) (hv : ∀ t, t ∈ l → vT (er t)) (n i : Nat) (hi : i ≤ l.length) : Post (fun x z => z = ((i + 3 : Nat) : Int) ∧ i + 3 ≤ l.length ∧ x.Name.length ≤ 16 ∧ ps l i + sl (pa1 x) ≤ ps l (i + 3)) (F_af0 n ⟨l, (i : Int)⟩) := by
 rw [p_param n i hl hi]
 cases h : parR l i with
 | inl p =>
  obtain ⟨h1, h2, h3⟩ := parR_post hv h
  exact .ret ⟨rfl, h1, h2, h3⟩
 | inr e => exact .pan
theorem paR_snoc : ∀ (a : List Param) (x : Param), sl (paR (a ++ [x])) = sl (paR a) + 1 + sl (pa1 x)
 | [], x => by
  have w : (spell (mkT [44])).length = 1 := rfl
  simp only [List.nil_append, paR, sl, sl_app, w]; omega
 | y :: a, x => by
  have := paR_snoc a x
  simp only [List.cons_append, paR, sl, sl_app]; omega
theorem paK_snoc {a : List Param} (x : Param) (h : a ≠ []) : sl (paK (a ++ [x])) = sl (paK a) + 1 + sl (pa1 x) := by
 cases a with
 | nil => exact absurd rfl h
 | cons y a =>
  have := paR_snoc a x
  simp only [List.cons_append, paK, sl_app]; omega
def PQ (l : List Token) (i : Nat) (p : Proc) (z : Int) : Prop := ∃ k : Nat, z = (k : Int) ∧ k ≤ l.length ∧ inP p ∧ ps l i + sl (prK p) ≤ ps l k
theorem proc_post (hl : l.length ≤ 1000000000) (hg : GoodT l) (hv : ∀ t, t ∈ l → vT (er t)) (n i : Nat) (hi : i ≤ l.length) : Post (PQ l i) (F_k0 n ⟨l, (i : Int)⟩) := by
 have w4 : (spell (kwT [112, 114, 111, 99])).length = 4 := rfl
 have wlp : (spell (mkT [40])).length = 1 := rfl
 have wrp : (spell (mkT [41])).length = 1 := rfl
 have wlb : (spell (mkT [123])).length = 1 := rfl
 have wrb : (spell (mkT [125])).length = 1 := rfl
 have hj1 : ∀ (b : Int) (t : Token) (k : Nat) (acc : List Param), k ≤ l.length → t.Text.length ≤ 16 → acc.length ≤ k → (∀ x, x ∈ acc → x.Name.length ≤ 16) → ps l i + (4 + t.Text.length + 1 + sl (paK acc) + 1) ≤ ps l k →
   Post (PQ l i) (F_k0_j1 n ⟨l, b⟩ t (k : Int) acc) := by
  intro b t k acc hk ht hac hx hp
  unfold F_k0_j1
  refine Post.bind ((block_post hl hg hv n).1 0 k hk) (fun bd z hq => .ret ?_) (fun x z => .pan)
  obtain ⟨k', rfl, b1, b2, b3, b4⟩ := hq
  refine ⟨k', rfl, b2, ⟨by show t.Text.length ≤ _; omega, by show acc.length ≤ _; omega, fun j hj => ?_, b3⟩, ?_⟩
  ·have := hx _ (mem_getD hj)
   show (acc.getD j default).Name.length ≤ _
   omega
  ·have wn : (spell (nmT t.Text)).length = t.Text.length := rfl
   simp only [prK, sl, sl_app, w4, wlp, wrp, wlb, wrb, wn]
   omega
 have hl3 : ∀ (b : Int) (t : Token) (m k : Nat) (acc : List Param), k ≤ l.length → t.Text.length ≤ 16 → acc ≠ [] → acc.length ≤ k → (∀ x, x ∈ acc → x.Name.length ≤ 16) → ps l i + (4 + t.Text.length + 1 + sl (paK acc)) ≤ ps l k →
   Post (PQ l i) (F_k0_l3 n ⟨l, b⟩ t m (k : Int) acc) := by
  intro b t m
  induction m with
  | zero => intro k acc _ _ _ _ _ _; exact .none
  | succ m ih =>
   intro k acc hk ht h0 hac hx hp
   simp only [F_k0_l3, F_k0_b3, F_k0_j2]
   rw [p_accept n l k _ (by omega)]
   simp only [bind_s]
   refine Post.bif (fun hT => ?_) (fun hf => ?_)
   ·rw [hT]
    obtain ⟨g1, g2⟩ := ps_T (l := l) hT
    simp only [List.length_cons, List.length_nil] at g2
    refine Post.bind (param_post hl hv n (k + 1) (by omega)) (fun x z hq => .ass ?_) (fun x z => .pan)
    obtain ⟨rfl, q1, q2, q3⟩ := hq
    refine ih (k + 1 + 3) (acc ++ [x]) (by omega) ht (by simp) (by simp only [List.length_append, List.length_cons, List.length_nil]; omega) (fun y hy => ?_) ?_
    ·rcases List.mem_append.1 hy with hy | hy
     ·exact hx y hy
     ·rw [List.mem_singleton.1 hy]; exact q2
    ·rw [paK_snoc x h0]; omega
   ·rw [hf]
    refine Post.bind (exp_post (l := l) n _ k hl hk) (fun _ z hq => ?_) (fun x z => .pan)
    obtain ⟨rfl, hT⟩ := hq
    obtain ⟨g1, g2⟩ := ps_T (l := l) hT
    simp only [List.length_cons, List.length_nil] at g2
    exact hj1 b t (k + 1) acc (by omega) ht (by omega) hx (by omega)
 unfold F_k0
 refine Post.bind (exp_post (l := l) n _ i hl hi) (fun _ z hq => ?_) (fun x z => .pan)
 obtain ⟨rfl, hT⟩ := hq
 obtain ⟨g1, g2⟩ := ps_T (l := l) hT
 simp only [List.length_cons, List.length_nil] at g2
 refine Post.bind (take_post (l := l) n 1 (i + 1) hl (by omega)) (fun t z hq => ?_) (fun x z => .pan)
 obtain ⟨rfl, hlt, ht, hk⟩ := hq
 have hps := psl_s (l := l) (i + 1) hlt
 rw [← ht] at hps
 obtain ⟨q1, q2⟩ := (tok_post (t := t) (by rw [ht]; exact hv _ (mem_getD hlt))).1 hk
 rw [q1] at hps
 refine Post.bind (exp_post (l := l) n _ (i + 1 + 1) hl (by omega)) (fun _ z hq => ?_) (fun x z => .pan)
 obtain ⟨rfl, hT2⟩ := hq
 obtain ⟨g3, g4⟩ := ps_T (l := l) hT2
 simp only [List.length_cons, List.length_nil] at g4
 rw [p_accept n l (i + 1 + 1 + 1) _ (by omega)]
 simp only [bind_s]
 cases hT3 : isT l (i + 1 + 1 + 1) [41]
 ·simp only [Bool.not_false, cond_true, cond_false]
  refine Post.bind (param_post hl hv n (i + 1 + 1 + 1) (by omega)) (fun x z hq => .ass ?_) (fun x z => .pan)
  obtain ⟨rfl, p1, p2, p3⟩ := hq
  refine hl3 _ t n (i + 1 + 1 + 1 + 3) [x] (by omega) q2 (by simp) (by simp) (fun y hy => by rw [List.mem_singleton.1 hy]; exact p2) ?_
  simp only [paK, paR, List.append_nil]
  omega
 ·obtain ⟨g5, g6⟩ := ps_T (l := l) hT3
  simp only [List.length_cons, List.length_nil] at g6
  simp only [Bool.not_true, cond_true, cond_false]
  exact hj1 _ t (i + 1 + 1 + 1 + 1) [] (by omega) q2 (by simp) (fun y hy => by cases hy) (by simp only [paK, sl]; omega)
end
end Go.Ab.Y

namespace Go.Ab.Y
open Go Go.Ab Go.Proofs

theorem pcA_2 {op : Int} {p : Pc} (k : Nat) (h : (flat p).length + 1 ≤ 2 * sl (toks p)) : (flat (pcA op p k)).length + 1 ≤ 2 * sl (toks (pcA op p k)) := by
 unfold pcA
 split
 ·have w1 : (spell (mkT [40])).length = 1 := rfl
  have w2 : (spell (mkT [41])).length = 1 := rfl
  simp only [flat, flat_app, toks, toks_app, sl, sl_app, List.length_append, w1, w2, List.length_nil]; omega
 ·exact h
theorem er_of {t : Token} (h : vT t) : vT (er t) := by
 have e : er t = t := by
  have := h.1
  unfold er
  obtain ⟨a, b, c, d⟩ := t
  simp only at this
  rw [this]
 rw [e]; exact h
theorem one_len {t : Token} (h : vT t) : (flat [some t]).length + 1 ≤ 2 * sl (toks [some t]) := by
 have := spell_pos (er_of h)
 simp only [flat, toks, sl, List.length_append, List.length_nil]; omega
mutual
theorem pcs_2 : ∀ e : Expr, okE e → (flat (pcs e)).length + 1 ≤ 2 * sl (toks (pcs e))
 | ⟨Op, N, S, Args⟩, h => by
  obtain ⟨⟨h1, h2⟩, h3, h4, h5, h6, h7, h8⟩ := h
  have ih := pcss_2 Args h8
  unfold pcs
  unfold pcO
  by_cases e1 : Op = 1
  ·rw [if_pos e1]; exact one_len (vT_in (h3 e1).1 (h3 e1).2)
  by_cases e2 : Op = 2
  ·rw [if_neg e1, if_pos e2]; exact one_len (vT_st (h6 e2))
  by_cases e3 : Op = 3
  ·rw [if_neg e1, if_neg e2, if_pos e3]; exact one_len (vT_nm (h7 e3))
  rw [if_neg e1, if_neg e2, if_neg e3]
  have w1 : (spell (mkT [40])).length = 1 := rfl
  have w2 : (spell (mkT [41])).length = 1 := rfl
  have w3 : (spell (mkT [45])).length = 1 := rfl
  have w4 : (spell (kwT [110, 111, 116])).length = 3 := rfl
  match Args, ih with
  | [], _ => simp only [pcss, flat, toks, sl, List.length_append, List.length_nil, w1, w2]; omega
  | [a], ih =>
   have ha := ih (a.Op, pcs a) (by simp [pcss])
   simp only at ha
   simp only [pcss]
   by_cases e18 : Op = 18
   ·rw [if_pos e18]
    have := pcA_2 (op := a.Op) 3 ha
    simp only [flat, toks, sl, List.length_append, List.length_cons, w4]; omega
   ·rw [if_neg e18]
    by_cases e9 : Op = 9
    ·rw [if_pos e9]
     have := pcA_2 (op := a.Op) 8 ha
     simp only [flat, toks, sl, List.length_append, List.length_cons, w3]; omega
    ·rw [if_neg e9]
     simp only [flat, flat_app, toks, toks_app, sl, sl_app, List.length_append, List.length_cons, List.length_nil, w1, w2]; omega
  | a :: b :: _, ih =>
   have ha := pcA_2 (op := a.Op) (if lvN Op = 4 then 5 else lvN Op) (ih (a.Op, pcs a) (by simp [pcss]))
   have hb := pcA_2 (op := b.Op) (lvN Op + 1) (ih (b.Op, pcs b) (by simp [pcss]))
   have hs := spell_pos (er_of (sgT_ok Op))
   have hs : 1 ≤ (spell (sgT Op)).length := hs
   simp only at ha hb
   simp only [pcss]
   simp only [flat, flat_app, toks, toks_app, sl, sl_app, List.length_append, List.length_cons, List.length_nil]; omega
theorem pcss_2 : ∀ l : List Expr, okEs l → ∀ x, x ∈ pcss l → (flat x.2).length + 1 ≤ 2 * sl (toks x.2)
 | [], _, x, hx => by simp [pcss] at hx
 | e :: l, h, x, hx => by
  rcases List.mem_cons.1 hx with rfl | hx
  ·exact pcs_2 e h.1
  ·exact pcss_2 l h.2 x hx
end
def sv (d : Nat) : Nat := (12 - d) * (52 - 4 * d)
def BD (d t s : Nat) : Prop := t ≤ 20 * s ∨ t + sv d ≤ 21 * s
theorem BD.le {d t s : Nat} (h : BD d t s) : t ≤ 21 * s := by
 unfold BD at h; omega
theorem sv_s {d : Nat} (h : d ≤ 11) : sv d + 8 * d = sv (d + 1) + 96 := by
 have hall : ∀ d, d < 12 → sv d + 8 * d = sv (d + 1) + 96 := by decide
 exact hall d (by omega)
theorem BD.blk {d o so tb sb te se : Nat} (hd : d ≤ 12) (ho : d ≤ 11 → o ≤ 20 * so) (ho2 : o + 96 ≤ 21 * so + 8 * d) (hb : BD (d + 1) tb sb) (he : BD (d + 1) te se) : BD d (o + (tb + te)) (so + (sb + se)) := by
 have h1 := hb.le
 have h2 := he.le
 by_cases h12 : d = 12
 ·subst h12
  right
  have : sv 12 = 0 := by decide
  omega
 ·have := sv_s (d := d) (by omega)
  have := ho (by omega)
  unfold BD at hb he ⊢
  omega
theorem BD.add {d t s t' s' : Nat} (h : BD d t s) (h' : BD d t' s') : BD d (t + t') (s + s') := by
 unfold BD at *; omega
theorem BD.zero (d : Nat) : BD d 0 0 := Or.inl (by omega)
mutual
theorem st_bd : ∀ (s : Stmt) (d : Nat), okSt s d → BD d (stX s d).length (sl (stK s))
 | ⟨Op, Name, Max, A, B, Body, Else⟩, d, h => by
  obtain ⟨hd, hs, hb1, hb2⟩ := (okSt_eq _ _).1 h
  have ihB := bl_bd Body (d + 1) hb1
  have ihE := bl_bd Else (d + 1) hb2
  have w1 : (spell (mkT [61])).length = 1 := rfl
  have w2 : (spell (mkT [59])).length = 1 := rfl
  have w3 : (spell (mkT [123])).length = 1 := rfl
  have w4 : (spell (mkT [125])).length = 1 := rfl
  rcases hs with ⟨ho, hq, hn, hA⟩ | ⟨hq, hA, hB⟩ | ⟨ho, hq, hA⟩ | ⟨hq, hA⟩ | ⟨hq, hn, hm, hA, hB⟩ | ⟨hq, hm⟩
  ·simp only [Stmt.mk.injEq, true_and, and_true] at hq ho
   obtain ⟨rfl, rfl, rfl, rfl⟩ := hq
   have h1 : (tE A).length + 1 ≤ 2 * sl (kE A) := pcs_2 A hA.1
   have w5 : (spell (nmT Name)).length = Name.length := rfl
   have w6 : (spell (kwT [108, 101, 116])).length = 3 := rfl
   rcases ho with rfl | rfl
   ·rw [show stX ⟨1, Name, 0, A, zE, [], []⟩ d = lnX d [[108, 101, 116, 32], Name, [32, 61, 32], tE A, [59]] by simp [stX], lnX_len,
     show stK ⟨1, Name, 0, A, zE, [], []⟩ = kwT [108, 101, 116] :: nmT Name :: mkT [61] :: (kE A ++ [mkT [59]]) by simp [stK]]
    simp only [cat, sl, sl_app, List.length_append, List.length_cons, List.length_nil, w1, w2, w5, w6]
    left; omega
   ·rw [show stX ⟨2, Name, 0, A, zE, [], []⟩ d = lnX d [Name, [32, 61, 32], tE A, [59]] by simp [stX], lnX_len,
     show stK ⟨2, Name, 0, A, zE, [], []⟩ = nmT Name :: mkT [61] :: (kE A ++ [mkT [59]]) by simp [stK]]
    simp only [cat, sl, sl_app, List.length_append, List.length_cons, List.length_nil, w1, w2, w5]
    left; omega
  ·simp only [Stmt.mk.injEq, true_and, and_true] at hq
   obtain ⟨rfl, rfl, rfl, rfl, rfl⟩ := hq
   have h1 : (tE A).length + 1 ≤ 2 * sl (kE A) := pcs_2 A hA.1
   have h2 : (tE B).length + 1 ≤ 2 * sl (kE B) := pcs_2 B hB.1
   have w6 : (spell (kwT [112, 117, 116])).length = 3 := rfl
   rw [show stX ⟨3, [], 0, A, B, [], []⟩ d = lnX d [[112, 117, 116, 32], tE A, [32, 61, 32], tE B, [59]] by simp [stX], lnX_len,
    show stK ⟨3, [], 0, A, B, [], []⟩ = kwT [112, 117, 116] :: (kE A ++ mkT [61] :: (kE B ++ [mkT [59]])) by simp [stK]]
   simp only [cat, sl, sl_app, List.length_append, List.length_cons, List.length_nil, w1, w2, w6]
   left; omega
  ·simp only [Stmt.mk.injEq, true_and, and_true] at hq ho
   obtain ⟨rfl, rfl, rfl, rfl, rfl⟩ := hq
   have h1 : (tE A).length + 1 ≤ 2 * sl (kE A) := pcs_2 A hA.1
   have w6 : (spell (kwT [100, 101, 108, 101, 116, 101])).length = 6 := rfl
   have w7 : (spell (kwT [101, 109, 105, 116])).length = 4 := rfl
   rcases ho with rfl | rfl
   ·rw [show stX ⟨4, [], 0, A, zE, [], []⟩ d = lnX d [[100, 101, 108, 101, 116, 101, 32], tE A, [59]] by simp [stX], lnX_len,
     show stK ⟨4, [], 0, A, zE, [], []⟩ = kwT [100, 101, 108, 101, 116, 101] :: (kE A ++ [mkT [59]]) by simp [stK]]
    simp only [cat, sl, sl_app, List.length_append, List.length_cons, List.length_nil, w1, w2, w6]
    left; omega
   ·rw [show stX ⟨7, [], 0, A, zE, [], []⟩ d = lnX d [[101, 109, 105, 116, 32], tE A, [59]] by simp [stX], lnX_len,
     show stK ⟨7, [], 0, A, zE, [], []⟩ = kwT [101, 109, 105, 116] :: (kE A ++ [mkT [59]]) by simp [stK]]
    simp only [cat, sl, sl_app, List.length_append, List.length_cons, List.length_nil, w1, w2, w7]
    left; omega
  ·simp only [Stmt.mk.injEq, true_and, and_true] at hq
   obtain ⟨rfl, rfl, rfl, rfl⟩ := hq
   have h1 : (tE A).length + 1 ≤ 2 * sl (kE A) := pcs_2 A hA.1
   have w5 : (spell (kwT [105, 102])).length = 2 := rfl
   have w6 : (spell (kwT [101, 108, 115, 101])).length = 4 := rfl
   by_cases hl : Else.length = 0
   ·have e : stX ⟨5, [], 0, A, zE, Body, Else⟩ d = lnX d [[105, 102, 32], tE A, [32, 123]] ++ (blX Body (d + 1) ++ lnX d [[125]]) := by simp [stX, hl]
    have e2 : stK ⟨5, [], 0, A, zE, Body, Else⟩ = kwT [105, 102] :: (kE A ++ mkT [123] :: (blK Body ++ mkT [125] :: [])) := by simp only [stK, hl]; simp
    have := BD.blk (d := d) (o := 8 * d + 8 + (tE A).length) (so := 4 + sl (kE A)) hd (fun _ => by omega) (by omega) ihB (BD.zero (d + 1))
    rw [e, e2]
    simp only [cat, sl, sl_app, lnX_len, List.length_append, List.length_cons, List.length_nil, w3, w4, w5]
    unfold BD at this ⊢
    omega
   ·have e : stX ⟨5, [], 0, A, zE, Body, Else⟩ d = lnX d [[105, 102, 32], tE A, [32, 123]] ++ (blX Body (d + 1) ++ ((lnX d [[125, 32, 101, 108, 115, 101, 32, 123]] ++ blX Else (d + 1)) ++ lnX d [[125]])) := by simp [stX, hl]
    have e2 : stK ⟨5, [], 0, A, zE, Body, Else⟩ = kwT [105, 102] :: (kE A ++ mkT [123] :: (blK Body ++ mkT [125] :: (kwT [101, 108, 115, 101] :: mkT [123] :: (blK Else ++ [mkT [125]])))) := by simp only [stK, hl]; simp
    have := BD.blk (d := d) (o := 12 * d + 17 + (tE A).length) (so := 10 + sl (kE A)) hd (fun _ => by omega) (by omega) ihB ihE
    rw [e, e2]
    simp only [cat, sl, sl_app, lnX_len, List.length_append, List.length_cons, List.length_nil, w3, w4, w5, w6]
    unfold BD at this ⊢
    omega
  ·simp only [Stmt.mk.injEq, true_and, and_true] at hq
   obtain ⟨rfl, rfl⟩ := hq
   have h1 : (tE A).length + 1 ≤ 2 * sl (kE A) := pcs_2 A hA.1
   have h2 : (tE B).length + 1 ≤ 2 * sl (kE B) := pcs_2 B hB.1
   have e : stX ⟨6, Name, Max, A, B, Body, []⟩ d = lnX d [[102, 111, 114, 32], Name, [32, 61, 32], tE A, [32, 116, 111, 32], tE B, [32, 109, 97, 120, 32], Lib.decDigits Max.toNat, [32, 123]] ++ (blX Body (d + 1) ++ lnX d [[125]]) := by simp [stX]
   have e2 : stK ⟨6, Name, Max, A, B, Body, []⟩ = kwT [102, 111, 114] :: nmT Name :: mkT [61] :: (kE A ++ kwT [116, 111] :: (kE B ++ kwT [109, 97, 120] :: inT Max :: mkT [123] :: (blK Body ++ [mkT [125]]))) := by simp [stK]
   have w5 : (spell (kwT [102, 111, 114])).length = 3 := rfl
   have w6 : (spell (nmT Name)).length = Name.length := rfl
   have w7 : (spell (kwT [116, 111])).length = 2 := rfl
   have w8 : (spell (kwT [109, 97, 120])).length = 3 := rfl
   have w9 : (spell (inT Max)).length = (Lib.decDigits Max.toNat).length := rfl
   have := BD.blk (d := d) (o := 8 * d + 21 + Name.length + (tE A).length + (tE B).length + (Lib.decDigits Max.toNat).length) (so := 11 + Name.length + sl (kE A) + sl (kE B) + (Lib.decDigits Max.toNat).length) hd (fun _ => by omega) (by omega) ihB (BD.zero (d + 1))
   rw [e, e2]
   simp only [cat, sl, sl_app, lnX_len, List.length_append, List.length_cons, List.length_nil, w1, w3, w4, w5, w6, w7, w8, w9]
   unfold BD at this ⊢
   omega
  ·simp only [Stmt.mk.injEq, true_and, and_true] at hq
   obtain ⟨rfl, rfl, rfl, rfl, rfl, rfl⟩ := hq
   have w5 : (spell (kwT [97, 98, 111, 114, 116])).length = 5 := rfl
   have w9 : (spell (inT Max)).length = (Lib.decDigits Max.toNat).length := rfl
   rw [show stX ⟨8, [], Max, zE, zE, [], []⟩ d = lnX d [[97, 98, 111, 114, 116, 32], Lib.decDigits Max.toNat, [59]] by simp [stX], lnX_len,
    show stK ⟨8, [], Max, zE, zE, [], []⟩ = [kwT [97, 98, 111, 114, 116], inT Max, mkT [59]] by simp [stK]]
   simp only [cat, sl, sl_app, List.length_append, List.length_cons, List.length_nil, w2, w5, w9]
   left; omega
theorem bl_bd : ∀ (l : List Stmt) (d : Nat), okBl l d → BD d (blX l d).length (sl (blK l))
 | [], d, h => BD.zero d
 | s :: l, d, h => by
  have := (st_bd s d h.1).add (bl_bd l d h.2)
  simp only [blX, blK, List.length_append, sl_app]
  exact this
end
theorem pa1_sl (x : Param) : (paX x).length + 2 ≤ 2 * sl (pa1 x) := by
 have w1 : (spell (nmT x.Name)).length = x.Name.length := rfl
 have w2 : (spell (mkT [58])).length = 1 := rfl
 have w3 : (spell (kwT (tyW x.Type_))).length = (tyW x.Type_).length := rfl
 have h : 3 ≤ (tyW x.Type_).length := by
  unfold tyW
  split
  ·decide
  ·split <;> decide
 simp only [paX, pa1, sl, List.length_append, List.length_cons, List.length_nil, w1, w2, w3]; omega
theorem paR_sl : ∀ l : List Param, (Lib.joinTail [44, 32] (l.map paX)).length ≤ 2 * sl (paR l)
 | [] => Nat.zero_le _
 | x :: l => by
  have h1 := paR_sl l
  have h2 := pa1_sl x
  have w : (spell (mkT [44])).length = 1 := rfl
  rw [List.map_cons, joinT_cons]
  simp only [paR, sl, sl_app, List.length_append, List.length_cons, w]; omega
theorem paK_sl (l : List Param) : (paJ l).length ≤ 2 * sl (paK l) := by
 unfold paJ
 cases l with
 | nil => exact Nat.zero_le _
 | cons x l =>
  have h1 := paR_sl l
  have h2 := pa1_sl x
  rw [List.map_cons, Lib.join_cons]
  simp only [paK, sl_app, List.length_append]; omega
theorem pr_bd {p : Proc} (hp : okP p) (h : sl (prK p) ≤ 800) : (prX p).length ≤ 16384 := by
 obtain ⟨h1, h2, h3⟩ := hp
 have hB := bl_bd p.Body 1 h3
 have hJ := paK_sl p.Params
 have w1 : (spell (kwT [112, 114, 111, 99])).length = 4 := rfl
 have w2 : (spell (nmT p.Name)).length = p.Name.length := rfl
 have w3 : (spell (mkT [40])).length = 1 := rfl
 have w4 : (spell (mkT [41])).length = 1 := rfl
 have w5 : (spell (mkT [123])).length = 1 := rfl
 have w6 : (spell (mkT [125])).length = 1 := rfl
 have hs : sv 1 = 528 := by decide
 simp only [prK, sl, sl_app, w1, w2, w3, w4, w5, w6] at h
 unfold BD at hB
 unfold prX
 simp only [lnX_len, cat, List.length_append, List.length_cons, List.length_nil]
 omega
end Go.Ab.Y

namespace Go.Ab.Y
open Go Go.Ab Go.Proofs

theorem tokens_post {n : Nat} {src : List UInt8} {l : List Token} (hn : 900000 ≤ n) (ht : F_p0 n src = some (l, 0, 0)) (htw : tw l ≤ 48800) (hg : GoodT l) (hv : ∀ t, t ∈ l → vT (er t)) {p : Proc} {ln : Int} (hr : F_am0 n src = some (p, ln, 0)) :
  inP p ∧ vpS p = 0 ∧ sl (prK p) ≤ sl l := by
 have hlen := tw_len l
 have hll : l.length ≤ 1000 := by omega
 have hpl : pw l l.length = tw l := by unfold pw; rw [List.take_length]
 have hpo := proc_post (l := l) (by omega) hg hv n 0 (by omega)
 have hE := proc_both (l := l) (by omega) hg (i := 0) (n1 := n) (n2 := n) (by omega) (by omega) (by omega)
 unfold F_am0 F_bt0 F_dq0 at hr
 rw [ht] at hr
 simp only [bind_s, decide_true, Bool.not_true, cond_false] at hr
 rcases hE with ⟨a, k, e1, e2, hk1, hk2, hk3⟩ | ⟨k, c, z, a, e1, e2, hc, hk⟩
 ·have e1 : F_k0 n ⟨l, 0⟩ = some (Pn.ret a ((k : Nat) : Int)) := e1
  have hpm := pw_mono l k l.length hk2
  obtain ⟨k', q1, q2, q3, q4⟩ := hpo a _ e1
  rw [e1] at hr
  simp only [bind_s, Pn.on, Int.ofNat_lt, decide_true, cond_true] at hr
  by_cases hkl : k < l.length
  ·simp only [hkl, decide_true, cond_true, p_fail n l k 5 (by omega), bind_s, Pn.on, asFail_fl, show ¬ (5 : Int) = 0 by omega, decide_false, Bool.not_false, cond_false, F_am0_j1, Option.some.injEq, Prod.mk.injEq] at hr
   have hw5 : wrC l k 5 = 5 := if_pos hkl
   simp only [hw5, show ¬ (5 : Int) = 0 by omega, decide_false, Bool.not_false, cond_true, cond_false, Option.some.injEq, Prod.mk.injEq] at hr
   exact hr.2.2.elim
  ·have hw : wtP a ≤ 50000 := by omega
   have hw2 : a.Name.length + fps a.Params + fss a.Body ≤ 50000 := hw
   simp only [hkl, decide_false, cond_false, bind_s, decide_true, Bool.not_true, cond_true, eta_P] at hr
   rw [ast_Validate (n := n) a (by omega) (by omega) (by omega) (by omega) (by omega)] at hr
   simp only [bind_s, F_am0_j1] at hr
   by_cases hv0 : vpS a = 0
   ·simp only [hv0, decide_true, Bool.not_true, cond_false, eta_P, Option.some.injEq, Prod.mk.injEq] at hr
    obtain ⟨rfl, _⟩ := hr
    refine ⟨q3, hv0, ?_⟩
    have h0 : ps l 0 = 0 := rfl
    have h1 : sl l = ps l k' + sl (l.drop k') := by
     have : sl l = sl (l.take k' ++ l.drop k') := by rw [List.take_append_drop]
     rw [this, sl_app]; rfl
    omega
   ·simp only [hv0, decide_false, Bool.not_false, cond_true, Option.some.injEq, Prod.mk.injEq] at hr
    exact hr.2.2.elim
 ·have e1 : F_k0 n ⟨l, 0⟩ = some (Pn.pan (fl l k c) z) := e1
  rw [e1] at hr
  simp only [bind_s, Pn.on, asFail_fl, hc, decide_false, cond_false, Bool.not_false, cond_true, F_am0_j1, Option.some.injEq, Prod.mk.injEq] at hr
  exact hr.2.2.elim
theorem law_ParserTokens (src : List UInt8) : F_dy0 1000000 src = some true := by
 unfold F_dy0
 simp only [lit_lt, lives_N, bind_s]
 by_cases h : 800 < src.length
 ·simp only [h, decide_true, cond_true]
 ·simp only [h, decide_false, cond_false]
  obtain ⟨r, t1, t2⟩ := tokenize_low (n := 1000000) src (by omega) (by omega)
  obtain ⟨r2, b1, b2, b3⟩ := tokenize_both (fun t => t.Kind = 5 → t.Text ∈ marks) (fun s ln h1 h2 => tokS_mark s ln h1 h2) (n := 1000000) src (by omega) (by omega)
  rw [t1] at b1
  obtain rfl := Option.some.inj b1
  obtain ⟨⟨p, lp, ep⟩, p1, p2, p3⟩ := procs_eq (n := 1000000) src (Or.inl (by omega)) (by omega)
  have p3 : p.Name.length + fps p.Params + fss p.Body ≤ 100000 := p3
  have hfl := fps_len p.Params
  rw [t1, p1]
  simp only [bind_s]
  rcases t2 with t2 | ⟨l, rfl, t3, t4⟩
  ·obtain ⟨l, ln, e⟩ := r
   simp only at t2
   unfold F_am0 F_bt0 at p1
   rw [t1] at p1
   simp only [bind_s, t2, decide_false, Bool.not_false, cond_true, cond_false, F_am0_j1, Option.some.injEq, Prod.mk.injEq] at p1
   obtain ⟨_, rfl, rfl⟩ := p1
   simp only [t2, decide_false, decide_true, Bool.not_false, cond_true, bind_s]
  ·obtain ⟨g1, g2, g3⟩ := b3 rfl
   simp only at g1
   have hv : ∀ t, t ∈ l → vT (er t) := fun t ht => (t3 t ht).2
   have hjl := jn_len l
   have hsl := sl_len l hv
   obtain ⟨l', c1, c2, c3, c4, c5⟩ := tokenize_Tk (Tk_jn l hv) (n := 1000000) (by omega) (by omega) (by omega)
   obtain ⟨ln', d1, d2⟩ := parser_Proc_sim t1 c1 ⟨c2.symm, fun t ht => (t3 t ht).1, c3⟩ p1
   simp only [decide_true, Bool.not_true, cond_false]
   rw [lexer_Join l (by omega) (by omega) hv]
   simp only [bind_s, decide_true, Bool.not_true, cond_false]
   rw [d1]
   simp only [bind_s]
   rw [ast_Equal_self p (by omega) (by omega) (by omega) (by omega)]
   have hz : (decide (lp = 0) == decide (ln' = 0)) = true := by
    by_cases h0 : lp = 0
    ·rw [decide_eq_true h0, decide_eq_true (d2.1 h0)]; rfl
    ·rw [decide_eq_false h0, decide_eq_false (fun e => h0 (d2.2 e))]; rfl
   simp only [bind_s, hz, decide_true, Bool.not_true, cond_false]
   by_cases he : ep = 0
   ·subst he
    obtain ⟨i1, i2, i3⟩ := tokens_post (n := 1000000) (by omega) t1 (by omega) g3 hv p1
    simp only [decide_true, Bool.not_true, cond_false]
    rw [printer_Proc p i1 i2 (by omega) (by omega) (by omega)]
    simp only [bind_s]
    rw [parser_Proc_of i1 i2 (by omega) (by omega) (by omega) (pr_bd (vpS_ok i1 i2) (by omega)), ast_Validate p (by omega) (by omega) (by omega) (by omega) (by omega), i2]
    simp only [bind_s, decide_true, cond_true]
    rw [ast_Equal_self p (by omega) (by omega) (by omega) (by omega)]
    simp only [bind_s, decide_true, cond_true]
   ·simp only [he, decide_false, Bool.not_false, cond_true]
end Go.Ab.Y

/- The abstract machine: a step of code over plain data, proved against the model. -/
import Derived.Laws.Build
import Derived.Laws.IdiomStrings
import Derived.Test.YtenhknjlgfakfaaGreatDoorMachA
/-
 AN ABSTRACT MACHINE OVER PURE STATES, part 11: append.
-/
namespace Go.Ab
section
variable {P : Program} {K : Ctx} {N : Nat} {M : Mem} {β : Nat → Option Nat} {g : Rg} {tmps : Array Value} {w : World} {o : Oper} {f : Eff} {p : Path} {tt : TT} {says : CallSays} {ops : List Oper}

structure Elems (M : Mem) (k m : Nat) (get : Nat → V) (news : List Value) : Prop where
 len : news.length = m * k
 hk : ∀ i, i < m → (get i).cells.length = k
 one : ∀ u, u ∈ news → u.oneCell' = true
 rep : ∀ (i j : Nat) c u, i < m → (get i).cells[j]? = some c → news[i * k + j]? = some u → RepV M u c

def flat (k m : Nat) (val : Nat → Nat → Value) : List Value := (List.range (m * k)).map fun q => val (q / k) (q % k)

theorem flat_len (k m : Nat) (val : Nat → Nat → Value) : (flat k m val).length = m * k := by simp [flat]
theorem flat_get {k m : Nat} {val : Nat → Nat → Value} {i j : Nat} (hi : i < m) (hj : j < k) : (flat k m val)[i * k + j]? = some (val i j) := by
 have hlt : i * k + j < m * k := by
  have h1 : (i + 1) * k ≤ m * k := Nat.mul_le_mul_right k hi
  rw [Nat.add_mul] at h1; omega
 have h1 : (i * k + j) / k = i := by rw [Nat.mul_comm, Nat.mul_add_div (by omega), Nat.div_eq_of_lt hj]; omega
 have h2 : (i * k + j) % k = j := by rw [Nat.mul_comm, Nat.mul_add_mod, Nat.mod_eq_of_lt hj]
 simp [flat, hlt, h1, h2]
theorem flat_inv {k m : Nat} {val : Nat → Nat → Value} {q : Nat} {u : Value} (h : (flat k m val)[q]? = some u) : q / k < m ∧ q % k < k ∧ q = q / k * k + q % k ∧ u = val (q / k) (q % k) := by
  have hq : q < m * k := by have := (List.getElem?_eq_some_iff.1 h).1; rwa [flat_len] at this
  have hk : 0 < k := by rcases Nat.eq_zero_or_pos k with rfl | h; · simp at hq
                        · exact h
  refine ⟨(Nat.div_lt_iff_lt_mul hk).2 hq, Nat.mod_lt _ hk, (Nat.div_add_mod' q k).symm, ?_⟩
  simp [flat, hq] at h
  exact h.symm

theorem slc_elems {v : Value} {k n : Nat} {get : Nat → V} (h : RepD M β v (.v (.slc k n get))) : ((v = .slice none 0 0 ∨ ∃ a, v = .slice (some a) 0 0) ∧ n = 0) ∨
  ∃ (b off cap : Nat) (olds : List Value), v = .slice (some ⟨b, off, none⟩) n cap ∧ n ≤ cap ∧ Elems M k n get olds ∧ ∀ (q : Nat) u, olds[q]? = some u → M b (off + q) = some u := by
 rcases inv_slc h with h | ⟨b, off, cap, val, rfl, hc, hk, hM, h1, hr⟩
 ·exact .inl h
 ·refine .inr ⟨b, off, cap, flat k n val, rfl, hc, ⟨flat_len k n val, hk, ?_, ?_⟩, ?_⟩
  ·refine one_of_get fun q u hu => ?_
   obtain ⟨h2, h3, _, rfl⟩ := flat_inv hu
   exact h1 _ _ h2 h3
  ·intro i j c u hi hc hu
   have hj : j < k := by rw [← hk i hi]; exact (List.getElem?_eq_some_iff.1 hc).1
   rw [flat_get hi hj] at hu
   cases hu
   exact hr i j c hi hc
  ·intro q u hu
   obtain ⟨h2, h3, h4, rfl⟩ := flat_inv hu
   have := hM _ _ h2 h3
   rwa [Nat.add_assoc, ← h4] at this

theorem nil_elems (k : Nat) (get : Nat → V) : Elems M k 0 get [] := ⟨by simp, by simp, by simp, by simp⟩

theorem Elems.app {k n m : Nat} {get get2 : Nat → V} {olds news : List Value} (h : Elems M k n get olds) (h2 : Elems M k m get2 news) : Elems M k (n + m) (fun i => bif Nat.blt i n then get i else get2 (i - n)) (olds ++ news) := by
 have hb : ∀ i, (bif Nat.blt i n then get i else get2 (i - n)) = if i < n then get i else get2 (i - n) := by
  intro i
  by_cases hi : i < n
  ·have : Nat.blt i n = true := by simpa using hi
   simp [this, hi]
  ·have : Nat.blt i n = false := by rw [Bool.eq_false_iff]; simpa using hi
   simp [this, hi]
 refine ⟨by simp [h.len, h2.len, Nat.add_mul], fun i hi => ?_, fun u hu => ?_, fun i j c u hi hc hu => ?_⟩
 ·rw [hb]
  split
  ·exact h.hk i (by assumption)
  ·exact h2.hk _ (by omega)
 ·rcases List.mem_append.1 hu with hu | hu
  ·exact h.one u hu
  ·exact h2.one u hu
 ·rw [hb] at hc
  by_cases hin : i < n
  ·rw [if_pos hin] at hc
   have hj : j < k := by rw [← h.hk i hin]; exact (List.getElem?_eq_some_iff.1 hc).1
   have hlt : i * k + j < olds.length := by
    rw [h.len]
    have h1 : (i + 1) * k ≤ n * k := Nat.mul_le_mul_right k hin
    rw [Nat.add_mul] at h1; omega
   rw [List.getElem?_append_left hlt] at hu
   exact h.rep i j c u hin hc hu
  ·rw [if_neg hin] at hc
   have hge : n * k ≤ i * k := Nat.mul_le_mul_right k (by omega)
   rw [List.getElem?_append_right (by rw [h.len]; omega), h.len] at hu
   have : i * k + j - n * k = (i - n) * k + j := by rw [Nat.sub_mul]; omega
   rw [this] at hu
   exact h2.rep (i - n) j c u (by omega) hc hu

theorem Elems.mono {M' : Mem} (hM : M.le M') {k n : Nat} {get : Nat → V} {olds : List Value} (h : Elems M k n get olds) : Elems M' k n get olds :=
 ⟨h.len, h.hk, h.one, fun i j c u hi hc hu => (h.rep i j c u hi hc hu).mono hM⟩

theorem Elems.slc {k n cap b off : Nat} {get : Nat → V} {olds : List Value} (h : Elems M k n get olds) (hc : n ≤ cap) (hM : ∀ (q : Nat) u, olds[q]? = some u → M b (off + q) = some u) :
  RepV M (.slice (some ⟨b, off, none⟩) n cap) (.slc k n get) := by
 have hin : ∀ i j, i < n → j < k → olds[i * k + j]? = some (olds.getD (i * k + j) undef) := fun i j hi hj => elems_cell h.len hi hj
 refine .slc b off k n cap get (fun i j => olds.getD (i * k + j) undef) hc h.hk (fun i j hi hj => ?_) (fun i j hi hj => one_get h.one (hin i j hi hj)) (fun i j c hi hcc => ?_)
 ·rw [Nat.add_assoc]; exact hM _ _ (hin i j hi hj)
 ·have hj : j < k := by rw [← h.hk i hi]; exact (List.getElem?_eq_some_iff.1 hcc).1
  exact h.rep i j c _ hi hcc (hin i j hi hj)

theorem run_append_room1 (t tx ty e : TypeId) (i : TypeInfo) (ht : P.underlying t = some (.slice e)) (hi : P.info? e = some i) (b sLen sCap : Nat) (x : Value) (n : Nat) (news : List Value) (hs : Src P i.size tx x n news w)
  (hroom : sLen + n ≤ sCap) {vs : List Value} {T : TypeId} (hh : w.heap[b]? = some (.cells ⟨vs⟩ T (0, 0))) (hle : sLen * i.size + news.length ≤ vs.length) :
  (Builtin.append_ #[t, tx] ty #[.slice (some ⟨b, 0, none⟩) sLen sCap, x]).run P w = .ok (.slice (some ⟨b, 0, none⟩) (sLen + n) sCap) (w.setRow b (vs.take (sLen * i.size) ++ news ++ vs.drop (sLen * i.size + news.length)).toArray) := by
 have hst := run_storeCells_at P b (sLen * i.size) T news 0 ⟨vs⟩ w hh (by simpa using hle) hs.one
 simp only [Nat.add_zero] at hst
 rcases hs.kind with ⟨e', hk⟩ | hk <;> simp [Builtin.append_, run_underlying ht, run_underlying hk, sizeOf, typeInfo, hi, hs.len, hroom, hs.cells, addr_add, hst]

theorem run_append_nil0 (t tx ty e : TypeId) (i : TypeInfo) (ht : P.underlying t = some (.slice e)) (hi : P.info? e = some i) (x : Value) (news : List Value) (hs : Src P i.size tx x 0 news w) :
  (Builtin.append_ #[t, tx] ty #[.slice none 0 0, x]).run P w = .ok (.slice none 0 0) w := by
 rcases hs.kind with ⟨e', hk⟩ | hk <;> simp [Builtin.append_, run_underlying ht, run_underlying hk, sizeOf, typeInfo, hi, hs.len, hs.cells]

theorem exec_append {t tx : TypeId} {a x : Operand} {c : Call} (ho : o.op = .call c) (hc : c.callee = .builtin .append) (hargs : c.args.toList = [a, x]) (hty : c.argTypes.toList[0]? = some t) (hty2 : c.argTypes.toList[1]? = some tx)
  {va vx : Value} (ha : (⟨tmps, []⟩ : Act).eval a = va) (hx : (⟨tmps, []⟩ : Act).eval x = vx) {v : Value} {w' : World}
  (h : ∀ ty, (Builtin.append_ #[t, tx] ty #[va, vx]).run P w = .ok v w') :
  (execOp (Act.eval ⟨tmps, []⟩) o).run P w = .ok (.value v) w' := by
 have hargs' : c.args = #[a, x] := by apply Array.ext'; simpa using hargs
 have happ : ∀ ty, (Builtin.append_ c.argTypes ty #[va, vx]).run P w = .ok v w' := by
  intro ty
  have h0 : c.argTypes[0]? = some t := by simpa using hty
  have h1 : c.argTypes[1]? = some tx := by simpa using hty2
  have := h ty
  simp only [Builtin.append_, h0, h1] at this ⊢
  exact this
 simp only [execOp, ho, resolve, hc, hargs', Sem.run_bind, Sem.run_pure, Result.andThen_ok, invoke, builtin, List.map_toArray, List.map_cons, List.map_nil, ha, hx]
 simp [happ]

theorem ok_append (h : SimG P K N M β g tmps w) (hp : PC tmps p) (htt : TTok P tt = true) {t tx e : TypeId} {ti te : TI} (hl : look tt t = some ti) (hk : ti.k = .slc e) (hl2 : look tt e = some te) {s : Nat} {x : Operand} {c : Call}
    (ho : o.op = .call c) (hc : c.callee = .builtin .append) (hargs : c.args.toList = [.tmp s, x]) (hty : c.argTypes.toList[0]? = some t) (hty2 : c.argTypes.toList[1]? = some tx)
    {n m : Nat} {get get2 : Nat → V} (hs : rd g.env g.cenv p tt o.type (.tmp s) = some (.v (.slc te.size n get))) {ent : Ent} (hent : look g.env s = some ent) (hown : ent.own = some e) (hbytes : 1 ≤ te.bytes)
    {news : List Value} (hsrc : Src P te.size tx ((⟨tmps, []⟩ : Act).eval x) m news w) (hel : Elems M te.size m get2 news) (hroom : (n + m) * te.bytes ≤ 140737488355328)
    {y : V} (hy : VImp (.slc te.size (n + m) fun i => bif Nat.blt i n then get i else get2 (i - n)) y) {rs : List RS} {ob : List Prop} :
    Yields P K M β g { e := some { d := .v y, own := some e }, clr := [s], rs, ob } o tmps w := by
  obtain ⟨r⟩ := tt_row htt hl
  obtain ⟨re⟩ := tt_row htt hl2
  have hclr := h.sim.clr [s]
  have hrs := rd_rep (ds := []) h hp hs
  have hut : P.underlying t = some (.slice e) := by rw [r.hd, desc_slc r hk]
  have hdec : (⟨tmps, []⟩ : Act).eval (.tmp s) = tmps.getD s undef := rfl
  rw [hdec] at hrs
  have hO := h.sim.own (.slot s) ent e hent hown
  simp only [valAt] at hO
  have hhand := h.sim.hand hent hown
  -- the row that is grown
  have grows : ∀ (base : Option Addr) (sCap : Nat) (olds : List Value), tmps.getD s undef = .slice base n sCap → Elems M te.size n get olds →
      (∀ w' : World, w'.heap = w.heap → (Builtin.firstCells te.size n (.slice base n sCap)).run P w' = .ok olds.toArray w') → sCap < n + m →
      Yields P K M β g { e := some { d := .v y, own := some e }, clr := [s], rs, ob } o tmps w := by
    intro base sCap olds hv holds hfirst hlt
    have hn63 : ((n + m : Nat) : Int) ≤ 9223372036854775807 := by
      have : n + m ≤ (n + m) * te.bytes := Nat.le_mul_of_pos_right _ hbytes
      omega
    have hfit := growslice_fits (need := n + m) (old := sCap) (bytes := te.bytes) hlt hroom
    have hcap := grownCap_ge w (n + m) sCap e
    have hel2 := holds.app hel
    have hzl : re.z.cells.size = te.size := by
      obtain ⟨h1', _⟩ := zerosFit_rep (M := M) re.zfit
      have := re.zlen
      simp at h1'; omega
    generalize hzs : (Builtin.zeroCells re.z.cells (grownCap w (n + m) sCap e - (n + m))).toList = zs
    have hzs' : Builtin.zeroCells re.z.cells (grownCap w (n + m) sCap e - (n + m)) = zs.toArray := by rw [← hzs]
    have hzlen : zs.length = (grownCap w (n + m) sCap e - (n + m)) * te.size := by
      rw [← hzs]; simp [Builtin.zeroCells, hzl]
    have hrun : ∀ ty, (Builtin.append_ #[t, tx] ty #[tmps.getD s undef, (⟨tmps, []⟩ : Act).eval x]).run P w =
        .ok (.slice (some ⟨w.heap.size, 0, none⟩) (n + m) (grownCap w (n + m) sCap e)) (w.drew.alloc (.cells ⟨olds ++ news ++ zs⟩ e (0, 0))) := by
      intro ty
      have := run_append_grow_src (P := P) w t tx ty e re.info re.z hut re.hi re.hz base n sCap olds (by rw [re.size]; exact hfirst w.drew rfl) _ m news (by rw [re.size]; exact hsrc) hlt hn63 (by rw [re.bytes]; exact hfit)
      rw [hv, this, hzs']
      simp
    have hw' : (w.drew.alloc (.cells ⟨olds ++ news ++ zs⟩ e (0, 0))).heap = w.heap.push (.cells ⟨olds ++ news ++ zs⟩ e (0, 0)) := rfl
    have htot : (olds ++ news ++ zs).length = grownCap w (n + m) sCap e * te.size := by
      rw [List.length_append, hel2.len, hzlen, ← Nat.add_mul]; congr 1; omega
    obtain ⟨hsim, hle⟩ := hclr.newRow (vs := olds ++ news ++ zs) (T := e) (n := (n + m) * te.size) hw'
    have htake : (olds ++ news ++ zs).take ((n + m) * te.size) = olds ++ news := by
      rw [List.take_append_of_le_length (by rw [hel2.len]; exact Nat.le_refl _), List.take_of_length_le (by rw [hel2.len]; exact Nat.le_refl _)]
    refine .inl ⟨_, _, exec_append ho hc hargs hty hty2 hdec rfl hrun, _, β, hle, fun _ _ h => h, fun _ _ h => .inl h, hsim, fun e1 he => ?_⟩
    cases he
    refine ⟨.v _ _ (hy _ _ ((hel2.mono hle).slc hcap fun q u hu => ?_)), fun T l0 hT => ?_⟩
    · rw [htake]; exact commit_at hu
    · cases hT
      have := newOwn_fresh (l0 := l0) (T := e) hclr (vs := olds ++ news ++ zs) (T' := e) (n := n + m) (cap := grownCap w (n + m) sCap e) rfl hw' hcap (by rw [re.cellsOf, htot]; exact Nat.le_refl _)
      rw [re.cellsOf] at this
      exact this
  have hE : (tmps.getD s undef = .slice none 0 0 ∧ n = 0) ∨ ∃ (b off cap : Nat) (olds : List Value), tmps.getD s undef = .slice (some ⟨b, off, none⟩) n cap ∧ n ≤ cap ∧ Elems M te.size n get olds ∧ ∀ (q : Nat) u, olds[q]? = some u → M b (off + q) = some u := by
    rcases slc_elems hrs with ⟨hv | ⟨a, hv⟩, hn0⟩ | hx
    · exact .inl ⟨hv, hn0⟩
    · subst hn0
      rcases hO with h0 | ⟨b', n', cap', vs, T', h1, _⟩
      · exact .inl ⟨h0, rfl⟩
      · rw [hv] at h1
        simp only [Value.slice.injEq, Option.some.injEq] at h1
        obtain ⟨rfl, rfl, rfl⟩ := h1
        exact .inr ⟨b', 0, 0, [], hv, Nat.le_refl _, nil_elems _ _, fun q u hu => by simp at hu⟩
    · exact .inr hx
  rcases hE with ⟨hv, hn0⟩ | ⟨b, off, cap, olds, hv, hcap, holds, hold⟩
  · subst hn0
    by_cases hm : m = 0
    · subst hm
      refine .inl ⟨_, _, exec_append ho hc hargs hty hty2 (hdec.trans hv) rfl (fun ty => run_append_nil0 (w := w) t tx ty e re.info hut re.hi _ news (by rw [re.size]; exact hsrc)), M, β, Mem.le_refl _, fun _ _ h => h, fun _ _ h => .inl h, hclr, fun e1 he => ?_⟩
      cases he
      exact ⟨.v _ _ (hy _ _ (.slc0 _ _)), fun T l0 _ => newOwn_nil l0 T⟩
    · refine grows none 0 [] hv (nil_elems _ _) (fun w' _ => run_firstCells_none w' te.size 0 0 0) (by omega)
  · by_cases hlt : cap < n + m
    · refine grows (some ⟨b, off, none⟩) cap olds hv holds (fun w' hw' => ?_) hlt
      refine run_firstCells_some (P := P) w' te.size n ⟨b, off, none⟩ n cap olds (by rw [holds.len]) (fun j u hj => ?_)
      rw [addr_add, cell_congr (w := w) (by rw [hw'])]
      exact h.sim.mem _ _ _ (hold j u hj)
    · -- there is room
      rcases hO with h0 | ⟨b', n', cap', vs, T', h1, hcap', hh, hvs, hfree, hF, hTT⟩
      · rw [hv] at h0; simp at h0
      · rw [hv] at h1
        simp only [Value.slice.injEq, Option.some.injEq, Addr.mk.injEq, and_true] at h1
        obtain ⟨⟨rfl, rfl⟩, rfl, rfl⟩ := h1
        rw [re.cellsOf] at hvs hfree
        have hlen : n * te.size + news.length ≤ vs.length := by
          rw [hel.len, ← Nat.add_mul]
          exact Nat.le_trans (Nat.mul_le_mul_right _ (by omega)) hvs
        have hrun : ∀ ty, (Builtin.append_ #[t, tx] ty #[tmps.getD s undef, (⟨tmps, []⟩ : Act).eval x]).run P w =
            .ok (.slice (some ⟨b, 0, none⟩) (n + m) cap) (w.setRow b (vs.take (n * te.size) ++ news ++ vs.drop (n * te.size + news.length)).toArray) := by
          intro ty
          have := run_append_room1 (P := P) (w := w) t tx ty e re.info hut re.hi b n cap _ m news (by rw [re.size]; exact hsrc) (by omega) hh (by rw [re.size]; exact hlen)
          rw [re.size] at this
          rw [hv, this]
        generalize hvs' : vs.take (n * te.size) ++ news ++ vs.drop (n * te.size + news.length) = vs' at hrun
        have hlen' : vs'.length = vs.length := by rw [← hvs', splice_len hlen]
        have hheap : (w.setRow b vs'.toArray).heap[b]? = some (.cells ⟨vs'⟩ T' (0, 0)) := setRow_heap w b _ _ T' (0, 0) hh
        have hle : M.le (commit M b (n * te.size) news) := commit_le hfree
        have hblk : blockOf (tmps.getD s undef) = some b := by rw [hv]; rfl
        have hsim : SimAt P K (commit M b (n * te.size) news) β { env := clrEnv [s] g.env, H := g.H, nxt := g.nxt } tmps (w.setRow b vs'.toArray) := by
          refine hclr.free b hF (fun r cs hr hb => (hhand (.slot s)).unbox b r cs hblk hr hb) (fun l e1 T1 hl1 hT1 => ?_) (fun b' hne _ => setRow_other w b b' _ hne) hle (fun b' o' hne => ?_) (fun o' v' hv' => ?_)
          · by_cases hls : l = .slot s
            · subst hls
              simp only [St.at, look_clrEnv, List.mem_singleton, if_true, Option.map_eq_some_iff] at hl1
              obtain ⟨_, _, rfl⟩ := hl1
              simp at hT1
            · exact (hhand (.slot s)).apart l e1 T1 b hl1 hT1 hls hblk
          · simp [commit, hne]
          · rw [cell_of_heap hheap, ← hvs', splice_get hlen]
            unfold commit at hv'
            split at hv'
            · rename_i hc'; rw [if_pos ⟨hc'.2.1, hc'.2.2⟩]; exact hv'
            · rename_i hc'
              rw [if_neg (fun hh' => hc' ⟨rfl, hh'.1, hh'.2⟩)]
              have := h.sim.mem _ _ _ hv'
              rwa [cell_of_heap hh] at this
        refine .inl ⟨_, _, exec_append ho hc hargs hty hty2 hdec rfl hrun, _, β, hle, fun _ _ h => h, fun _ _ h => .inl h, hsim, fun e1 he => ?_⟩
        cases he
        refine ⟨.v _ _ (hy _ _ (((holds.app hel).mono hle).slc (by omega) fun q u hu => ?_)), fun T l0 hT => ?_⟩
        · by_cases hq : q < olds.length
          · rw [List.getElem?_append_left hq] at hu
            exact hle _ _ _ (hold q u hu)
          · rw [List.getElem?_append_right (by omega)] at hu
            have := commit_at (M := M) (b := b) (lo := n * te.size) hu
            rw [holds.len] at this
            rw [Nat.zero_add]
            have hq' : n * te.size + (q - n * te.size) = q := by rw [holds.len] at hq; omega
            rwa [hq'] at this
        · cases hT
          refine ⟨.inr ⟨b, n + m, cap, vs', T', rfl, by omega, hheap, by rw [re.cellsOf, hlen']; exact hvs, fun o' ho' => ?_, hF, hTT⟩, fun l e1 T1 b1 hl1 hT1 _ hb1 => ?_, fun b1 r cs hb1 hr => ?_⟩
          · rw [re.cellsOf, Nat.add_mul] at ho'
            unfold commit
            rw [if_neg (fun hh' => by rw [hel.len] at hh'; omega)]
            exact hfree o' (by omega)
          · simp [blockOf] at hb1
            subst hb1
            have hls : l ≠ .slot s := by
              rintro rfl
              simp only [after, St.at, look_clrEnv, List.mem_singleton, if_true, Option.map_eq_some_iff] at hl1
              obtain ⟨_, _, rfl⟩ := hl1
              simp at hT1
            have hold1 : valAt tmps (w.setRow b vs'.toArray) β l = valAt tmps w β l := by
              cases l with
              | slot s' => rfl
              | cell r i =>
                have hl2 := hl1
                simp only [after, St.at] at hl2
                cases hr : look g.H r with
                | none => simp [hr] at hl2
                | some cs =>
                  obtain ⟨b2, vs2, T2, hb2, hh2, _⟩ := h.sim.box r cs hr
                  have hne : b2 ≠ b := by rintro rfl; exact (hhand (.slot s)).unbox b2 r cs hblk hr hb2
                  simp only [valAt, hb2]
                  rw [cell_congr (w := w) (setRow_other w b b2 _ hne)]
            rw [hold1]
            exact (hhand (.slot s)).apart l e1 T1 b hl1 hT1 hls hblk
          · simp [blockOf] at hb1
            subst hb1
            exact (hhand (.slot s)).unbox b r cs hblk hr

theorem src_slice (h : SimAt P K M β { env := g.env, H := g.H, nxt := g.nxt } tmps w) (htt : TTok P tt = true) {tx e2 : TypeId} {ti : TI} (hl : look tt tx = some ti) (hk : ti.k = .slc e2) {v : Value} {k m : Nat} {get : Nat → V}
  (hv : RepD M β v (.v (.slc k m get))) : ∃ news, Src P k tx v m news w ∧ Elems M k m get news := by
 obtain ⟨r⟩ := tt_row htt hl
 have hu : P.underlying tx = some (.slice e2) := by rw [r.hd, desc_slc r hk]
 rcases slc_elems hv with ⟨rfl | ⟨a, rfl⟩, rfl⟩ | ⟨b, off, cap, olds, rfl, _, hel, hold⟩
 ·exact ⟨[], Src.ofNil w hu 0, nil_elems _ _⟩
 ·exact ⟨[], Src.ofSlice w hu a 0 0 [] (by simp) (fun j u hj => by simp at hj) (by simp), nil_elems _ _⟩
 ·have hc : ∀ (j : Nat) u, olds[j]? = some u → w.cell? ((⟨b, off, none⟩ : Addr).add j) = some u := fun j u hj => by rw [addr_add]; exact h.mem _ _ _ (hold j u hj)
  exact ⟨olds, Src.ofSlice w hu _ m cap olds hel.len hc hel.one, hel⟩

theorem src_string (htt : TTok P tt = true) {tx : TypeId} {ti : TI} (hl : look tt tx = some ti) (hk : ti.k = .str) (l : List UInt8) (M : Mem) :
  ∃ news, Src P 1 tx (.string ⟨⟨l⟩⟩) l.length news w ∧ Elems M 1 l.length (fun i => .int .u8 (l.getD i 0).toNat) news := by
 obtain ⟨r⟩ := tt_row htt hl
 have hu : P.underlying tx = some .string := by rw [r.hd, desc_str r hk]
 refine ⟨byteCells ⟨⟨l⟩⟩, Src.ofString w hu ⟨⟨l⟩⟩, ⟨by simp [byteCells], fun i _ => rfl, fun u hu => ?_, fun i j c u hi hc hu => ?_⟩⟩
 ·obtain ⟨_, _, rfl⟩ := List.mem_map.1 hu; rfl
 ·cases j with
  | succ j => simp [V.cells] at hc
  | zero =>
   simp [V.cells] at hc
   subst hc
   simp only [byteCells, Nat.mul_one, Nat.add_zero, List.getElem?_map, Option.map_eq_some_iff] at hu
   obtain ⟨a, ha, rfl⟩ := hu
   have : l[i]? = some a := ha
   simp [this]
   exact .int _ _
end
end Go.Ab

/-
 AN ABSTRACT MACHINE OVER PURE STATES, part 12: contracts, and calls.
-/
namespace Go.Ab

def withOwn : Nat → List D → List (Nat × TypeId) → List Ent
 | _, [], _ => []
 | i, d :: l, ow => { d, own := look ow i } :: withOwn (i + 1) l ow
def envOf (args : List D) (ow : List (Nat × TypeId)) : List (Nat × Ent) := enumFrom' 0 (withOwn 0 args ow)
theorem withOwn_get : ∀ (l : List D) (k i : Nat) (ow : List (Nat × TypeId)), (withOwn k l ow)[i]? = (l[i]?).map fun d => ({ d, own := look ow (k + i) } : Ent)
 | [], k, i, ow => by simp [withOwn]
 | d :: l, k, i, ow => by
  cases i with
  | zero => simp [withOwn]
  | succ i =>
   simp only [withOwn, List.getElem?_cons_succ, withOwn_get l (k + 1) i ow]
   rw [show k + 1 + i = k + (i + 1) by omega]
def resEnv : Out → List (Nat × Ent)
 | .ret d own => [(0, { d, own })]
 | .pan x => [(0, { d := .v x })]
def endOf : Out → Value → Ending
 | .ret _ _, v => .returned v
 | .pan _, v => .panicked [{ v, recovered := false }]

def ACalls (P : Program) (f : FuncId) (args : List D) (ow : List (Nat × TypeId)) (H : List (List Ent)) (R : Out → List (List Ent) → Prop) : Prop :=
 (∃ fd, P.funcs[f]? = some fd ∧ fd.body.isSome = true ∧ fd.name ≠ "runtime.NumGoroutine") ∧
 ∀ (K : Ctx) (w : World) (vs : List Value) (M : Mem) (β : Nat → Option Nat), vs.length = args.length →
  SimAt P K M β { env := envOf args ow, H := enumFrom' 0 H, nxt := H.length } ⟨vs⟩ w → (∀ r b, β r = some b → K.β0 r = some b) →
  Calls P f ⟨vs⟩ w fun e w' => ∃ o H' v M' β', R o H' ∧ e = endOf o v ∧ SimAt P K M' β' { env := resEnv o, H := enumFrom' 0 H', nxt := H.length } #[v] w'

theorem ACalls.mono {P : Program} {f : FuncId} {args : List D} {ow : List (Nat × TypeId)} {H : List (List Ent)} {R R' : Out → List (List Ent) → Prop} (h : ACalls P f args ow H R) (hr : ∀ o H', R o H' → R' o H') : ACalls P f args ow H R' :=
 ⟨h.1, fun K w vs M β hl hs hb => (h.2 K w vs M β hl hs hb).mono fun _ _ ⟨o, H', v, M', β', h1, h2, h3⟩ => ⟨o, H', v, M', β', hr _ _ h1, h2, h3⟩⟩

def saysOf (P : Program) (f : FuncId) (args : List D) (ow : List (Nat × TypeId)) (H : List (List Ent)) (o : Out) (H2 : List (List Ent)) : Prop := ACalls P f args ow H fun o' H' => o' = o ∧ H' = H2
def saysC (P : Program) : CallSays := { call := saysOf P, eq := eqOk P }

theorem look_enum {α : Type} : ∀ (l : List α) (n i : Nat), look (enumFrom' n l) i = if n ≤ i then l[i - n]? else none
 | [], n, i => by simp [enumFrom', look]
 | x :: l, n, i => by
  simp only [enumFrom', look_cons, look_enum l (n + 1) i]
  by_cases h1 : n = i
  ·subst h1; simp
  ·rw [if_neg h1]
   by_cases h2 : n ≤ i
   ·rw [if_pos (by omega), if_pos h2]
    obtain ⟨j, rfl⟩ : ∃ j, i = n + 1 + j := ⟨i - (n + 1), by omega⟩
    rw [show n + 1 + j - (n + 1) = j by omega, show n + 1 + j - n = j + 1 by omega]
    simp
   ·rw [if_neg (by omega), if_neg h2]

theorem look_enum0 {α : Type} (l : List α) (i : Nat) : look (enumFrom' 0 l) i = l[i]? := by simp [look_enum]

theorem idx_get : ∀ {ρ : List Nat} {r j : Nat}, idx ρ r = some j → ρ[j]? = some r
 | [], _, _, h => by simp [idx] at h
 | x :: l, r, j, h => by
  simp only [idx] at h
  rw [Bool.cond_eq_ite] at h
  split at h
  ·rename_i hb; cases h; simp at hb; simp [hb]
  ·simp only [Option.map_eq_some_iff] at h
   obtain ⟨k, hk, rfl⟩ := h
   simpa using idx_get hk

theorem nodupB_spec : ∀ {l : List Nat}, nodupB l = true → ∀ (i j : Nat) r, l[i]? = some r → l[j]? = some r → i = j
 | [], _, i, _, _, h, _ => by simp at h
 | x :: l, h, i, j, r, hi, hj => by
  simp only [nodupB, Bool.and_eq_true, Bool.not_eq_true', List.any_eq_false] at h
  have hx : ∀ k, l[k]? = some x → False := fun k hk => by have := h.1 x (List.mem_of_getElem? hk); simp at this
  cases i <;> cases j
  ·rfl
  ·simp at hi hj; subst hi; exact (hx _ hj).elim
  ·simp at hi hj; subst hj; exact (hx _ hi).elim
  ·simp at hi hj; rw [nodupB_spec h.2 _ _ r hi hj]

theorem boxes_get {H : List (Nat × List Ent)} : ∀ {ρ : List Nat} {bs : List (List Ent)}, boxes H ρ = some bs → bs.length = ρ.length ∧ ∀ (j r : Nat), ρ[j]? = some r → look H r = bs[j]? ∧ (bs[j]?).isSome = true
 | [], bs, h => by simp [boxes] at h; subst h; simp
 | x :: ρ, bs, h => by
  simp only [boxes] at h
  split at h
  case h_2 => cases h
  rename_i b bs' hb hbs
  cases h
  obtain ⟨h1, h2⟩ := boxes_get hbs
  refine ⟨by simp [h1], fun j r hj => ?_⟩
  cases j with
  | zero => simp at hj; subst hj; simp [hb]
  | succ j => simp at hj; simpa using h2 j r hj

theorem renEs_get {f : Nat → Option Nat} : ∀ {b b' : List Ent}, renEs f b = some b' → b'.length = b.length ∧ ∀ (i : Nat) e', b'[i]? = some e' → ∃ e, b[i]? = some e ∧ ren f e.d = some e'.d ∧ e'.own = e.own
 | [], b', h => by simp [renEs] at h; subst h; simp
 | e :: l, b', h => by
  simp only [renEs] at h
  split at h
  case h_2 => cases h
  rename_i e1 l1 he hl
  cases h
  obtain ⟨h1, h2⟩ := renEs_get hl
  refine ⟨by simp [h1], fun i e' hi => ?_⟩
  cases i with
  | zero =>
   simp at hi; subst hi
   simp only [renE, Option.map_eq_some_iff] at he
   obtain ⟨d, hd, rfl⟩ := he
   exact ⟨e, by simp, hd, rfl⟩
  | succ i => simp at hi; simpa using h2 i e' hi

theorem ren_sptr {f : Nat → Option Nat} {d : D} {r off : Nat} {u : TypeId} (h : ren f d = some (.sptr r off u)) : ∃ r0, d = .sptr r0 off u := by
 cases d with
 | sptr r0 off0 u0 =>
  simp only [ren, Option.map_eq_some_iff] at h
  obtain ⟨s, _, h2⟩ := h
  cases h2; exact ⟨r0, rfl⟩
 | v x => simp [ren] at h
 | pin x => simp [ren] at h
 | ptr r0 o => simp [ren] at h
 | fn g c => simp [ren] at h
 | agg c => simp [ren] at h
 | tup c => simp [ren] at h
theorem Lies.ren {P : Program} {T : TypeId} {n : Nat} {f : Nat → Option Nat} {b b' : List Ent} (h : Lies P T n b) (hr : renEs f b = some b') : Lies P T n b' := fun e he r off u hd => by
 obtain ⟨i, hi, rfl⟩ := List.getElem_of_mem he
 obtain ⟨e0, h1, h2, _⟩ := (renEs_get hr).2 i _ (List.getElem?_eq_getElem hi)
 rw [hd] at h2
 obtain ⟨r0, h3⟩ := ren_sptr h2
 exact h e0 (List.mem_of_getElem? h1) r0 off u h3
theorem renBoxes_get {f : Nat → Option Nat} : ∀ {bs bs' : List (List Ent)}, renBoxes f bs = some bs' → bs'.length = bs.length ∧ ∀ (j : Nat) b', bs'[j]? = some b' → ∃ b, bs[j]? = some b ∧ renEs f b = some b'
 | [], bs', h => by simp [renBoxes] at h; subst h; simp
 | b :: l, bs', h => by
  simp only [renBoxes] at h
  split at h
  case h_2 => cases h
  rename_i b1 l1 hb hl
  cases h
  obtain ⟨h1, h2⟩ := renBoxes_get hl
  refine ⟨by simp [h1], fun j b' hj => ?_⟩
  cases j with
  | zero => simp at hj; subst hj; exact ⟨b, by simp, hb⟩
  | succ j => simp at hj; simpa using h2 j b' hj

theorem look_zipR {H : List (Nat × List Ent)} : ∀ {ρ : List Nat} {bs : List (List Ent)}, bs.length = ρ.length → nodupB ρ = true → ∀ r,
    (∀ (j : Nat), ρ[j]? = some r → look (zipR ρ bs ++ H) r = bs[j]?) ∧ ((∀ (j : Nat), ρ[j]? ≠ some r) → look (zipR ρ bs ++ H) r = look H r)
  | [], bs, _, _, r => by simp [zipR]
  | x :: ρ, [], h, _, _ => by simp at h
  | x :: ρ, b :: bs, h, hn, r => by
    have hn' : nodupB ρ = true := by simp [nodupB] at hn; exact hn.2
    obtain ⟨h1, h2⟩ := look_zipR (H := H) (ρ := ρ) (bs := bs) (by simpa using h) hn' r
    simp only [zipR, List.cons_append, look_cons]
    refine ⟨fun j hj => ?_, fun hj => ?_⟩
    · by_cases hx : x = r
      · have : j = 0 := nodupB_spec hn j 0 r hj (by simp [hx])
        subst this; simp [hx]
      · cases j with
        | zero => simp at hj; exact (hx hj).elim
        | succ j => simp at hj; rw [if_neg hx]; simpa using h1 j hj
    · have hx : x ≠ r := fun e => hj 0 (by simp [e])
      rw [if_neg hx]; exact h2 fun j => by simpa using hj (j + 1)

section
variable {P : Program} {K : Ctx} {N : Nat} {M : Mem} {β : Nat → Option Nat} {st : St} {g : Rg} {tmps : Array Value} {w : World} {o : Oper} {f : Eff} {p : Path} {tt : TT} {says : CallSays} {ops : List Oper}

def handL (ρ os : List Nat) : Loc → Prop
 | .cell r _ => r ∈ ρ
 | .slot t => t ∈ os
def passed (st : St) (tmps : Array Value) (w : World) (β : Nat → Option Nat) (ρ os : List Nat) (b : Nat) : Prop :=
 (∃ r, r ∈ ρ ∧ β r = some b) ∨ ∃ l e T, handL ρ os l ∧ st.at l = some e ∧ e.own = some T ∧ blockOf (valAt tmps w β l) = some b

open Classical in
noncomputable def callCtx (M : Mem) (β : Nat → Option Nat) (st : St) (tmps : Array Value) (w : World) (ρ os : List Nat) : Ctx :=
 { M0 := M, F := fun b => if passed st tmps w β ρ os b then none else w.heap[b]?, β0 := fun j => (ρ[j]?).bind β, oo := (w.os, w.output) }

structure Handed (st : St) (tmps : Array Value) (vs : List Value) (hd : List (Nat × Option Nat × TypeId)) : Prop where
 some : ∀ i t T, (i, Option.some t, T) ∈ hd → ∃ e, st.at (.slot t) = Option.some e ∧ e.own = Option.some T ∧ vs[i]? = Option.some (tmps.getD t undef)
 none : ∀ i T, (i, Option.none, T) ∈ hd → vs[i]? = Option.some (.slice Option.none 0 0)
 inj : ∀ i j t T T', (i, Option.some t, T) ∈ hd → (j, Option.some t, T') ∈ hd → i = j
def hdOw (hd : List (Nat × Option Nat × TypeId)) : List (Nat × TypeId) := hd.map fun x => (x.1, x.2.2)
def hdClr (hd : List (Nat × Option Nat × TypeId)) : List Nat := hd.filterMap fun x => x.2.1
theorem hdOw_mem {hd : List (Nat × Option Nat × TypeId)} {i : Nat} {T : TypeId} (h : look (hdOw hd) i = some T) : ∃ o, (i, o, T) ∈ hd := by
 have := look_mem h
 simp only [hdOw, List.mem_map] at this
 obtain ⟨⟨a, o, T'⟩, h1, h2⟩ := this
 cases h2
 exact ⟨o, h1⟩
theorem hdClr_mem {hd : List (Nat × Option Nat × TypeId)} {i t : Nat} {T : TypeId} (h : (i, some t, T) ∈ hd) : t ∈ hdClr hd := by
 simp only [hdClr, List.mem_filterMap]
 exact ⟨_, h, rfl⟩

def twin (ρ : List Nat) (hd : List (Nat × Option Nat × TypeId)) (T : TypeId) : Loc → Loc → Prop
 | .cell j i, .cell r i' => i = i' ∧ ρ[j]? = some r
 | .slot s, .slot t => (s, some t, T) ∈ hd
 | _, _ => False

theorem callee_sim (h : SimAt P K M β st tmps w) {ρ : List Nat} {bs H1 : List (List Ent)} (hn : nodupB ρ = true) (hbs : boxes st.H ρ = some bs) (hH1 : renBoxes (idx ρ) bs = some H1) {ds args' : List D} {vs : List Value}
  (hlen : vs.length = ds.length) (hv : ∀ (i : Nat) v d, vs[i]? = some v → ds[i]? = some d → RepD M β v d) (hargs : renL (idx ρ) ds = some args') {hd : List (Nat × Option Nat × TypeId)} (hhd : Handed st tmps vs hd) :
  SimAt P (callCtx M β st tmps w ρ (hdClr hd)) M (fun j => (ρ[j]?).bind β) { env := envOf args' (hdOw hd), H := enumFrom' 0 H1, nxt := H1.length } ⟨vs⟩ w := by
 obtain ⟨hb1, hb2⟩ := boxes_get hbs
 obtain ⟨hr1, hr2⟩ := renBoxes_get hH1
 obtain ⟨ha1, ha2⟩ := renL_get hargs
 have hren : ∀ {v d d'}, RepD M β v d → ren (idx ρ) d = some d' → RepD M (fun j => (ρ[j]?).bind β) v d' := by
  intro v d d' hd hd'
  exact hd.ren (fun r s b hs hb => by rw [idx_get hs]; simpa using hb) hd'
 -- a cell of the callee's is a cell of ours
 have hcell : ∀ j i e', ({ env := envOf args' (hdOw hd), H := enumFrom' 0 H1, nxt := H1.length } : St).at (.cell j i) = some e' → ∃ (r : Nat) (e : Ent), ρ[j]? = some r ∧ st.at (.cell r i) = some e ∧ ren (idx ρ) e.d = some e'.d ∧ e'.own = e.own ∧
   valAt ⟨vs⟩ w (fun j => (ρ[j]?).bind β) (.cell j i) = valAt tmps w β (.cell r i) := by
  intro j i e' he
  simp only [St.at, look_enum0] at he
  cases hj : H1[j]? with
  | none => simp [hj] at he
  | some b' =>
   simp only [hj, Option.bind_some] at he
   obtain ⟨b, hb, hre⟩ := hr2 j b' hj
   have hjl : j < ρ.length := by have := (List.getElem?_eq_some_iff.1 hb).1; omega
   have hρ : ρ[j]? = some ρ[j] := List.getElem?_eq_getElem hjl
   obtain ⟨hl, _⟩ := hb2 j _ hρ
   obtain ⟨_, hre2⟩ := renEs_get hre
   obtain ⟨e, he1, he2, he3⟩ := hre2 i e' he
   exact ⟨_, e, hρ, by simp [St.at, hl, hb, he1], he2, he3, by simp [valAt, hρ]⟩
 have hslot : ∀ s e', ({ env := envOf args' (hdOw hd), H := enumFrom' 0 H1, nxt := H1.length } : St).at (.slot s) = some e' → e'.own = look (hdOw hd) s ∧ ∃ v d, vs[s]? = some v ∧ ds[s]? = some d ∧ ren (idx ρ) d = some e'.d := by
  intro s e' he
  simp only [St.at, envOf, look_enum0, withOwn_get, Option.map_eq_some_iff] at he
  obtain ⟨d', hd', rfl⟩ := he
  have hs : s < args'.length := (List.getElem?_eq_some_iff.1 hd').1
  have hds : ds[s]? = some ds[s] := List.getElem?_eq_getElem (by omega)
  obtain ⟨d1, hd1, hren1⟩ := ha2 s _ hds
  rw [hd'] at hd1; cases hd1
  exact ⟨by simp, _, _, List.getElem?_eq_getElem (by omega), hds, hren1⟩
 -- an 'own' place of the callee's is one of ours
 have hplace : ∀ l' e' T, ({ env := envOf args' (hdOw hd), H := enumFrom' 0 H1, nxt := H1.length } : St).at l' = some e' → e'.own = some T →
   valAt ⟨vs⟩ w (fun j => (ρ[j]?).bind β) l' = .slice none 0 0 ∨ ∃ l e, twin ρ hd T l' l ∧ handL ρ (hdClr hd) l ∧ st.at l = some e ∧ e.own = some T ∧ valAt ⟨vs⟩ w (fun j => (ρ[j]?).bind β) l' = valAt tmps w β l := by
  intro l' e' T hl hT
  cases l' with
  | slot s =>
   obtain ⟨ho, v, d, h1, h2, h3⟩ := hslot s e' hl
   rw [ho] at hT
   obtain ⟨o, hm⟩ := hdOw_mem hT
   have hval : valAt (⟨vs⟩ : Array Value) w (fun j => (ρ[j]?).bind β) (.slot s) = v := by simp [valAt, h1]
   cases o with
   | none =>
    have := hhd.none s T hm
    rw [h1] at this; cases this
    exact .inl hval
   | some t =>
    obtain ⟨e, h4, h5, h6⟩ := hhd.some s t T hm
    rw [h1] at h6; cases h6
    exact .inr ⟨.slot t, e, hm, hdClr_mem hm, h4, h5, hval⟩
  | cell j i =>
   obtain ⟨r, e, hρ, he, _, hown, hval⟩ := hcell j i e' hl
   exact .inr ⟨.cell r i, e, ⟨rfl, hρ⟩, List.mem_of_getElem? hρ, he, by rw [← hown, hT], hval⟩
 have htwin : ∀ T T' l1 l2 l, twin ρ hd T l1 l → twin ρ hd T' l2 l → l1 = l2 := by
  intro T T' l1 l2 l h1 h2
  cases l1 <;> cases l2 <;> cases l <;> simp only [twin] at h1 h2
  ·rw [hhd.inj _ _ _ _ _ h1 h2]
  ·obtain ⟨rfl, h3⟩ := h1
   obtain ⟨rfl, h4⟩ := h2
   rw [nodupB_spec hn _ _ _ h3 h4]
 have hlook : ∀ j cs', look (enumFrom' 0 H1) j = some cs' → ∃ (r : Nat) (cs : List Ent), ρ[j]? = some r ∧ look st.H r = some cs ∧ cs.length = cs'.length ∧ ∃ f, renEs f cs = some cs' := by
  intro j cs' hj
  rw [look_enum0] at hj
  obtain ⟨b, hb, hre⟩ := hr2 j cs' hj
  have hjl : j < ρ.length := by have := (List.getElem?_eq_some_iff.1 hb).1; omega
  have hρ : ρ[j]? = some ρ[j] := List.getElem?_eq_getElem hjl
  obtain ⟨hl, _⟩ := hb2 j _ hρ
  exact ⟨_, b, hρ, by rw [hl, hb], (renEs_get hre).1.symm, _, hre⟩
 constructor
 ·intro l e' hl
  cases l with
  | slot s =>
   obtain ⟨_, v, d, h1, h2, h3⟩ := hslot s e' hl
   have := hren (hv s v d h1 h2) h3
   simpa [valAt, h1] using this
  | cell j i =>
   obtain ⟨r, e, hρ, he, hre, _, hval⟩ := hcell j i e' hl
   rw [hval]
   exact hren (h.ents _ e he) hre
 ·intro l' e' T hl hT
  rcases hplace l' e' T hl hT with h0 | ⟨l, e, _, hh, he, hT', hval⟩
  ·rw [h0]; exact .inl rfl
  ·rw [hval]
   rcases h.own _ e T he hT' with h0 | ⟨b, n, cap, vs1, T', h1, h2, h3, h4, h5, h6, hTT⟩
   ·exact .inl h0
   ·refine .inr ⟨b, n, cap, vs1, T', h1, h2, h3, h4, h5, ?_, hTT⟩
    simp only [callCtx]
    rw [if_pos]
    exact .inr ⟨l, e, T, hh, he, hT', by rw [h1]; rfl⟩
 ·intro l1 l2 e1 e2 T T' b hl hT hl' hT' hb hb'
  rcases hplace l1 e1 T hl hT with h0 | ⟨l, e, ht, hh, he, hTo, hval⟩
  ·rw [h0] at hb; cases hb
  rcases hplace l2 e2 T' hl' hT' with h0 | ⟨l', e', ht', hh', he', hTo', hval'⟩
  ·rw [h0] at hb'; cases hb'
  rw [hval] at hb; rw [hval'] at hb'
  have := h.uniq _ _ e e' T T' b he hTo he' hTo' hb hb'
  subst this
  exact htwin _ _ _ _ _ ht ht'
 ·intro l' e' T b j cs' hl hT hb hj
  rcases hplace l' e' T hl hT with h0 | ⟨l, e, ht, hh, he, hTo, hval⟩
  ·rw [h0] at hb; cases hb
  rw [hval] at hb
  obtain ⟨r2, cs, hρ2, hcs, _⟩ := hlook j cs' hj
  have := h.unbox _ e T b r2 cs he hTo hb hcs
  simpa [hρ2] using this
 ·intro j cs' hj
  obtain ⟨r, cs, hρ, hcs, hl, f, hrf⟩ := hlook j cs' hj
  obtain ⟨b, vs1, T, h1, h2, h3, h4, h5, h6⟩ := h.box r cs hcs
  refine ⟨b, vs1, T, by simp [hρ, h1], h2, by omega, h4, ?_, h6.1, h6.2.ren hrf⟩
  simp only [callCtx]
  rw [if_pos]
  exact .inl ⟨r, List.mem_of_getElem? hρ, h1⟩
 ·intro j j' b c c' hj hj' hb hb'
  obtain ⟨r, cs, hρ, hcs, _⟩ := hlook j c hj
  obtain ⟨r', cs', hρ', hcs', _⟩ := hlook j' c' hj'
  have : r = r' := h.inj r r' b cs cs' hcs hcs' (by simpa [hρ] using hb) (by simpa [hρ'] using hb')
  subst this
  exact nodupB_spec hn j j' r hρ hρ'
 ·intro j b hb
  simp only [Option.bind_eq_some_iff] at hb
  obtain ⟨r, hr, _⟩ := hb
  have := (List.getElem?_eq_some_iff.1 hr).1
  show j < H1.length
  omega
 ·exact h.mem
 ·exact Mem.le_refl _
 ·intro b ob hb
  simp only [callCtx] at hb
  split at hb
  ·cases hb
  ·exact ⟨hb, fun _ => rfl⟩
 ·intro j b hb; exact hb
 ·refine h.good.mono fun b ob hF => ?_
  have hnp : ¬ passed st tmps w β ρ (hdClr hd) b := by
   rintro (⟨r, hr, hbr⟩ | ⟨l, e, T, hr, he, hT, hblk⟩)
   ·obtain ⟨j, hj⟩ := List.getElem?_of_mem hr
    obtain ⟨hl, hsome⟩ := hb2 j r hj
    obtain ⟨cs, hcs⟩ := Option.isSome_iff_exists.1 hsome
    obtain ⟨b2, _, _, h3, _, _, _, h4, _⟩ := h.box r cs (by rw [hl, hcs])
    rw [hbr] at h3; cases h3; rw [h4] at hF; cases hF
   ·rw [(h.own _ e T he hT).free hblk] at hF; cases hF
  simp only [callCtx]
  rw [if_neg hnp]
  exact (h.frame b ob hF).1
 ·rfl

theorem clr_look {ρ os : List Nat} {st : St} {H : List (Nat × List Ent)} {n s : Nat} {e : Ent} (hl : ({ env := clrEnv os st.env, H := H, nxt := n } : St).at (.slot s) = some e) :
  ∃ e0, st.at (.slot s) = some e0 ∧ e0.d = e.d ∧ (∀ T, e.own = some T → e0.own = some T) ∧ ∀ T, e.own = some T → ¬ handL ρ os (.slot s) := by
 simp only [St.at, look_clrEnv] at hl
 by_cases hs : s ∈ os
 ·rw [if_pos hs, Option.map_eq_some_iff] at hl
  obtain ⟨e0, h1, h2⟩ := hl
  subst h2
  exact ⟨e0, h1, rfl, (fun T hT => by cases hT), (fun T hT => by cases hT)⟩
 ·rw [if_neg hs] at hl
  exact ⟨e, hl, rfl, (fun T hT => hT), (fun T _ => hs)⟩

theorem caller_sim (h : SimAt P K M β st tmps w) {ρ : List Nat} {bs H2 H2' : List (List Ent)} (hn : nodupB ρ = true) (hbs : boxes st.H ρ = some bs) (hH2 : renBoxes (fun j => ρ[j]?) H2 = some H2') (hl2 : H2.length = ρ.length)
  {os : List Nat} {out : Out} {v : Value} {w' : World} {M' : Mem} {β' : Nat → Option Nat} (hpost : SimAt P (callCtx M β st tmps w ρ os) M' β' { env := resEnv out, H := enumFrom' 0 H2, nxt := ρ.length } #[v] w') :
  M.le M' ∧ SimAt P K M' β { env := clrEnv os st.env, H := zipR ρ H2' ++ st.H, nxt := st.nxt } tmps w' ∧
  (∀ d own, out = .ret d own → ∀ d', ren (fun j => ρ[j]?) d = some d' → RepD M' β v d' ∧ ∀ T l0, own = some T → NewOwn P K M' β { env := clrEnv os st.env, H := zipR ρ H2' ++ st.H, nxt := st.nxt } tmps w' l0 v T) ∧
  (∀ x, out = .pan x → RepV M' v x) := by
 obtain ⟨hb1, hb2⟩ := boxes_get hbs
 obtain ⟨hr1, hr2⟩ := renBoxes_get hH2
 have hM : M.le M' := hpost.m0
 have hβ : ∀ (j r b : Nat), ρ[j]? = some r → β r = some b → β' j = some b := fun j r b hj hb => hpost.beta0 j b (by simp [callCtx, hj, hb])
 have hdom : ∀ (j r : Nat), ρ[j]? = some r → ∃ cs b, look st.H r = some cs ∧ β r = some b ∧ β' j = some b := by
  intro j r hj
  obtain ⟨h1, h2⟩ := hb2 j r hj
  obtain ⟨cs, hcs⟩ := Option.isSome_iff_exists.1 h2
  rw [hcs] at h1
  obtain ⟨b, _, _, hb, _⟩ := h.box r cs h1
  exact ⟨cs, b, h1, hb, hβ j r b hj hb⟩
 have hrenb : ∀ {v d d'}, RepD M' β' v d → ren (fun j => ρ[j]?) d = some d' → RepD M' β v d' := by
  intro v d d' hd hd'
  refine hd.ren (fun j r b hj hb => ?_) hd'
  obtain ⟨_, b1, _, h1, h2⟩ := hdom j r hj
  rw [hb] at h2; cases h2; exact h1
 -- what is not passed is kept
 have hkeep : ∀ b, ¬ passed st tmps w β ρ os b → b < w.heap.size → w'.heap[b]? = w.heap[b]? ∧ ∀ o, M' b o = M b o := by
  intro b hb hlt
  have hF : (callCtx M β st tmps w ρ os).F b = some w.heap[b] := by
   simp only [callCtx]; rw [if_neg hb]; exact Array.getElem?_eq_getElem hlt
  obtain ⟨h1, h2⟩ := hpost.frame b _ hF
  exact ⟨by rw [h1, Array.getElem?_eq_getElem hlt], h2⟩
 have hFK : ∀ b, (callCtx M β st tmps w ρ os).F b = none → K.F b = none := by
  intro b hb
  simp only [callCtx] at hb
  split at hb
  ·rename_i hp
   rcases hp with ⟨r, hr, hbr⟩ | ⟨l, e, T, hr, he, hT, hblk⟩
   ·obtain ⟨j, hj⟩ := List.getElem?_of_mem hr
    obtain ⟨cs, b1, hcs, hb1, _⟩ := hdom j r hj
    obtain ⟨b2, _, _, h1, _, _, _, h2, _⟩ := h.box r cs hcs
    rw [hbr] at h1; cases h1; exact h2
   ·exact (h.own _ e T he hT).free hblk
  ·cases hF : K.F b with
   | none => rfl
   | some ob => have := (h.frame b ob hF).1; rw [hb] at this; cases this
 have hold : ∀ b, (callCtx M β st tmps w ρ os).F b = none → b < w.heap.size → passed st tmps w β ρ os b := by
  intro b hb hlt
  simp only [callCtx] at hb
  split at hb
  ·assumption
  ·rw [Array.getElem?_eq_getElem hlt] at hb; cases hb
 -- our own boxes that are not handed on
 have hbox_np : ∀ r cs b, look st.H r = some cs → (∀ (j : Nat), ρ[j]? ≠ some r) → β r = some b → ¬ passed st tmps w β ρ os b := by
  intro r cs b hr hnr hb hp
  rcases hp with ⟨r', hr', hb'⟩ | ⟨l, e, T, hr', he, hT, hblk⟩
  ·obtain ⟨j, hj⟩ := List.getElem?_of_mem hr'
   obtain ⟨cs', _, hcs', _⟩ := hdom j r' hj
   have := h.inj r r' b cs cs' hr hcs' hb hb'
   subst this; exact hnr j hj
  ·exact h.unbox _ e T b r cs he hT hblk hr hb
 have hlookz : ∀ r, (∃ (j : Nat), ρ[j]? = some r ∧ look (zipR ρ H2' ++ st.H) r = H2'[j]?) ∨ ((∀ (j : Nat), ρ[j]? ≠ some r) ∧ look (zipR ρ H2' ++ st.H) r = look st.H r) := by
  intro r
  obtain ⟨h1, h2⟩ := look_zipR (H := st.H) (ρ := ρ) (bs := H2') (by omega) hn r
  by_cases hj : ∃ (j : Nat), ρ[j]? = some r
  ·obtain ⟨j, hj⟩ := hj; exact .inl ⟨j, hj, h1 j hj⟩
  ·have : ∀ (j : Nat), ρ[j]? ≠ some r := fun j hh => hj ⟨j, hh⟩
   exact .inr ⟨this, h2 this⟩
 -- a place of the new state: the callee's, or kept
 have hat : ∀ l e, ({ env := clrEnv os st.env, H := zipR ρ H2' ++ st.H, nxt := st.nxt } : St).at l = some e →
   (∃ (j r i : Nat) (e' : Ent), l = .cell r i ∧ ρ[j]? = some r ∧ ({ env := resEnv out, H := enumFrom' 0 H2, nxt := ρ.length } : St).at (.cell j i) = some e' ∧ ren (fun j => ρ[j]?) e'.d = some e.d ∧ e.own = e'.own ∧ valAt tmps w' β l = valAt #[v] w' β' (.cell j i)) ∨
   (∃ e0, st.at l = some e0 ∧ e0.d = e.d ∧ (∀ T, e.own = some T → e0.own = some T) ∧ valAt tmps w' β l = valAt tmps w β l ∧ (∀ T, e.own = some T → ¬ handL ρ os l)) := by
  intro l e hl
  cases l with
  | slot s =>
   obtain ⟨e0, h1, h2, h3, h4⟩ := clr_look hl
   exact .inr ⟨e0, h1, h2, h3, rfl, h4⟩
  | cell r i =>
   rcases hlookz r with ⟨j, hj, hlk⟩ | ⟨hnr, hlk⟩
   ·simp only [St.at, hlk] at hl
    cases hh : H2'[j]? with
    | none => simp [hh] at hl
    | some b' =>
     simp only [hh, Option.bind_some] at hl
     obtain ⟨b, hb, hre⟩ := hr2 j b' hh
     obtain ⟨_, hre2⟩ := renEs_get hre
     obtain ⟨e', he1, he2, he3⟩ := hre2 i e hl
     obtain ⟨_, b1, _, hb1, hb1'⟩ := hdom j r hj
     exact .inl ⟨j, r, i, e', rfl, hj, by simp [St.at, look_enum0, hb, he1], he2, he3, by simp [valAt, hb1, hb1']⟩
   ·simp only [St.at, hlk] at hl
    refine .inr ⟨e, hl, rfl, fun _ h => h, ?_, fun T _ hh => by obtain ⟨j, hj⟩ := List.getElem?_of_mem hh; exact hnr j hj⟩
    cases hr : look st.H r with
    | none => simp [hr] at hl
    | some cs =>
     obtain ⟨b, _, _, hb, hh, _⟩ := h.box r cs hr
     simp only [valAt, hb]
     rw [cell_congr (w := w) (hkeep b (hbox_np r cs b hr hnr hb) (lt_of_heap hh)).1]
 -- a kept 'own' place's block is not passed
 have hown_np : ∀ l e T b, st.at l = some e → e.own = some T → ¬ handL ρ os l → blockOf (valAt tmps w β l) = some b → ¬ passed st tmps w β ρ os b := by
  intro l e T b hl hT hnr hb hp
  rcases hp with ⟨r', hr', hb'⟩ | ⟨l', e', T', hr', he, hT', hblk⟩
  ·obtain ⟨j, hj⟩ := List.getElem?_of_mem hr'
   obtain ⟨cs', _, hcs', _⟩ := hdom j r' hj
   exact h.unbox l e T b r' cs' hl hT hb hcs' hb'
  ·have := h.uniq l _ e e' T T' b hl hT he hT' hb hblk
   subst this
   exact hnr hr'
 -- the callee's 'own' blocks against ours
 have hfree_np : ∀ T u b, OwnAt P (callCtx M β st tmps w ρ os).F M' w' T u → blockOf u = some b → ∀ b', b' = b → b' < w.heap.size → passed st tmps w β ρ os b' := by
  intro T u b ho hb b' hbb hlt
  subst hbb
  exact hold b' (ho.free hb) hlt
 have hlook_old : ∀ r cs, look (zipR ρ H2' ++ st.H) r = some cs → ∃ cs0, look st.H r = some cs0 := by
  intro r cs hr
  rcases hlookz r with ⟨j, hj, _⟩ | ⟨_, hlk⟩
  ·obtain ⟨cs0, _, h1, _⟩ := hdom j r hj; exact ⟨cs0, h1⟩
  ·exact ⟨cs, by rw [← hlk]; exact hr⟩
 have hsim : SimAt P K M' β { env := clrEnv os st.env, H := zipR ρ H2' ++ st.H, nxt := st.nxt } tmps w' := by
  constructor
  ·intro l e hl
   rcases hat l e hl with ⟨j, r, i, e', rfl, hj, he', hre, _, hval⟩ | ⟨e0, ho, hd0, hT0, hval, _⟩
   ·rw [hval]; exact hrenb (hpost.ents _ e' he') hre
   ·rw [hval, ← hd0]; exact (h.ents l e0 ho).mono hM
  ·intro l e T hl hT
   rcases hat l e hl with ⟨j, r, i, e', rfl, hj, he', _, hown, hval⟩ | ⟨e0, ho, hd0, hT0, hval, hnr⟩
   ·rw [hval]; rw [hown] at hT
    rcases hpost.own _ e' T he' hT with h0 | ⟨b, n, cap, vs1, T', h1, h2, h3, h4, h5, h6, hTT⟩
    ·exact .inl h0
    ·exact .inr ⟨b, n, cap, vs1, T', h1, h2, h3, h4, h5, hFK b h6, hTT⟩
   ·rw [hval]
    have hnr := hnr T hT
    have hT := hT0 T hT
    refine (h.own l e0 T ho hT).congr (fun b hb => ?_) (fun b o' hb => ?_)
    ·exact (hkeep b (hown_np l e0 T b ho hT hnr hb) ((h.own l e0 T ho hT).lt hb)).1
    ·exact (hkeep b (hown_np l e0 T b ho hT hnr hb) ((h.own l e0 T ho hT).lt hb)).2 o'
  ·intro l l' e1 e2 T T' b hl hT hl' hT' hb hb'
   rcases hat l e1 hl with ⟨j, r, i, x, rfl, hj, hx, _, hown, hval⟩ | ⟨e0, ho, hd0, hT0, hval, hnr⟩ <;>
    rcases hat l' e2 hl' with ⟨j', r', i', x', rfl, hj', hx', _, hown', hval'⟩ | ⟨e0', ho', hd0', hT0', hval', hnr'⟩
   ·rw [hval] at hb; rw [hval'] at hb'; rw [hown] at hT; rw [hown'] at hT'
    have := hpost.uniq _ _ x x' T T' b hx hT hx' hT' hb hb'
    cases this
    rw [hj] at hj'; cases hj'; rfl
   ·rw [hval] at hb; rw [hval'] at hb'; rw [hown] at hT
    have hnr' := hnr' T' hT'
    have hT' := hT0' T' hT'
    exact (hown_np l' e0' T' b ho' hT' hnr' hb' (hfree_np T _ b (hpost.own _ x T hx hT) hb b rfl ((h.own l' e0' T' ho' hT').lt hb'))).elim
   ·rw [hval] at hb; rw [hval'] at hb'; rw [hown'] at hT'
    have hnr := hnr T hT
    have hT := hT0 T hT
    exact (hown_np l e0 T b ho hT hnr hb (hfree_np T' _ b (hpost.own _ x' T' hx' hT') hb' b rfl ((h.own l e0 T ho hT).lt hb))).elim
   ·rw [hval] at hb; rw [hval'] at hb'
    exact h.uniq l l' e0 e0' T T' b ho (hT0 T hT) ho' (hT0' T' hT') hb hb'
  ·intro l e T b r cs hl hT hb hr hbr
   obtain ⟨cs0, hr0⟩ := hlook_old r cs hr
   rcases hat l e hl with ⟨j, r1, i, x, rfl, hj, hx, _, hown, hval⟩ | ⟨e0, ho, hd0, hT0, hval, hnr⟩
   ·rw [hval] at hb; rw [hown] at hT
    rcases hlookz r with ⟨j2, hj2, hlk⟩ | ⟨hnr2, _⟩
    ·have h2 : ∃ c2, look (enumFrom' 0 H2) j2 = some c2 := by
      rw [look_enum0]
      exact ⟨_, List.getElem?_eq_getElem (by have := (List.getElem?_eq_some_iff.1 hj2).1; omega)⟩
     obtain ⟨c2, hc2⟩ := h2
     exact hpost.unbox _ x T b j2 c2 hx hT hb hc2 (hβ j2 r b hj2 hbr)
    ·obtain ⟨b1, _, _, hb1, hh, _⟩ := h.box r cs0 hr0
     rw [hbr] at hb1; cases hb1
     exact hbox_np r cs0 b hr0 hnr2 hbr (hfree_np T _ b (hpost.own _ x T hx hT) hb b rfl (lt_of_heap hh))
   ·rw [hval] at hb; exact h.unbox l e0 T b r cs0 ho (hT0 T hT) hb hr0 hbr
  ·intro r cs hr
   rcases hlookz r with ⟨j, hj, hlk⟩ | ⟨hnr, hlk⟩
   ·rw [hlk] at hr
    obtain ⟨c2, hc2, hre⟩ := hr2 j cs hr
    obtain ⟨cs0, b0, hcs0, hb0, hb0'⟩ := hdom j r hj
    obtain ⟨b, vs1, T, h1, h2, h3, h4, h5, h6⟩ := hpost.box j c2 (by rw [look_enum0]; exact hc2)
    rw [hb0'] at h1; cases h1
    obtain ⟨b2, _, _, h7, _, _, _, h8, _⟩ := h.box r cs0 hcs0
    rw [hb0] at h7; cases h7
    exact ⟨b0, vs1, T, hb0, h2, by rw [h3, (renEs_get hre).1], h4, h8, h6.1, h6.2.ren hre⟩
   ·rw [hlk] at hr
    obtain ⟨b, vs1, T, h1, h2, h3, h4, h5, h6⟩ := h.box r cs hr
    have hk := hkeep b (hbox_np r cs b hr hnr h1) (lt_of_heap h2)
    exact ⟨b, vs1, T, h1, hk.1.trans h2, h3, fun o' => (hk.2 o').trans (h4 o'), h5, h6⟩
  ·intro r r' b c c' hr hr' hb hb'
   obtain ⟨c0, hr0⟩ := hlook_old r c hr
   obtain ⟨c0', hr0'⟩ := hlook_old r' c' hr'
   exact h.inj r r' b c0 c0' hr0 hr0' hb hb'
  ·exact h.lt
  ·exact hpost.mem
  ·exact Mem.le_trans h.m0 hM
  ·intro b ob hF
   obtain ⟨h1, h2⟩ := h.frame b ob hF
   have hnp : ¬ passed st tmps w β ρ os b := by
    rintro (⟨r, hr, hbr⟩ | ⟨l, e, T, hr, he, hT, hblk⟩)
    ·obtain ⟨j, hj⟩ := List.getElem?_of_mem hr
     obtain ⟨cs, _, hcs, _⟩ := hdom j r hj
     obtain ⟨b2, _, _, h3, _, _, _, h4, _⟩ := h.box r cs hcs
     rw [hbr] at h3; cases h3; rw [h4] at hF; cases hF
    ·rw [(h.own _ e T he hT).free hblk] at hF; cases hF
   have hk := hkeep b hnp (lt_of_heap h1)
   exact ⟨hk.1.trans h1, fun o' => (hk.2 o').trans (h2 o')⟩
  ·exact h.beta0
  ·exact h.good
  ·exact Eq.trans (show (w'.os, w'.output) = (w.os, w.output) from hpost.oo) h.oo
 refine ⟨hM, hsim, fun d own hout d' hd' => ?_, fun x hout => ?_⟩
 ·subst hout
  have hres := hpost.ents (.slot 0) { d, own } (by simp [St.at, resEnv, look])
  refine ⟨hrenb (by simpa [valAt] using hres) hd', fun T l0 hT => ?_⟩
  have ho := hpost.own (.slot 0) { d, own } T (by simp [St.at, resEnv, look]) hT
  simp only [valAt] at ho
  have ho' : OwnAt P (callCtx M β st tmps w ρ os).F M' w' T v := by simpa using ho
  refine ⟨?_, fun l e T' b hl hT' _ hb hb' => ?_, fun b r cs hb hr hbr => ?_⟩
  ·rcases ho' with h0 | ⟨b, n, cap, vs1, T', h1, h2, h3, h4, h5, h6, hTT⟩
   ·exact .inl h0
   ·exact .inr ⟨b, n, cap, vs1, T', h1, h2, h3, h4, h5, hFK b h6, hTT⟩
  ·rcases hat l e hl with ⟨j, r, i, x, rfl, hj, hx, _, hown, hval⟩ | ⟨e0, hol, hd0, hT0, hval, hnr⟩
   ·rw [hval] at hb'; rw [hown] at hT'
    have := hpost.uniq (.slot 0) (.cell j i) { d, own } x T T' b (by simp [St.at, resEnv, look]) hT hx hT' (by simpa [valAt] using hb) hb'
    cases this
   ·rw [hval] at hb'
    have hnr := hnr T' hT'
    have hT' := hT0 T' hT'
    exact hown_np l e0 T' b hol hT' hnr hb' (hfree_np T v b ho' hb b rfl ((h.own l e0 T' hol hT').lt hb'))
  ·obtain ⟨cs0, hr0⟩ := hlook_old r cs hr
   rcases hlookz r with ⟨j2, hj2, hlk⟩ | ⟨hnr2, _⟩
   ·have h2 : ∃ c2, look (enumFrom' 0 H2) j2 = some c2 := by
     rw [look_enum0]
     exact ⟨_, List.getElem?_eq_getElem (by have := (List.getElem?_eq_some_iff.1 hj2).1; omega)⟩
    obtain ⟨c2, hc2⟩ := h2
    exact hpost.unbox (.slot 0) { d, own } T b j2 c2 (by simp [St.at, resEnv, look]) hT (by simpa [valAt] using hb) hc2 (hβ j2 r b hj2 hbr)
   ·obtain ⟨b1, _, _, hb1, hh, _⟩ := h.box r cs0 hr0
    rw [hbr] at hb1; cases hb1
    exact hbox_np r cs0 b hr0 hnr2 hbr (hfree_np T v b ho' hb b rfl (lt_of_heap hh))
 ·subst hout
  have hres := hpost.ents (.slot 0) { d := .v x } (by simp [St.at, resEnv, look])
  have := inv_v hres
  simpa [valAt] using this
end
end Go.Ab

/-
 AN ABSTRACT MACHINE OVER PURE STATES, part 13: one operation, whatever it is.
-/
namespace Go.Ab
theorem inB_spec {i : Int} {n : Nat} (h : inB i n = true) : 0 ≤ i ∧ i < n := by simpa [inB] using h
theorem upB_spec {i : Int} {n : Nat} (h : upB i n = true) : 0 ≤ i ∧ i ≤ n := by simpa [upB] using h
theorem loB_spec {a b : Int} {n : Nat} (h : loB a b n = true) : 0 ≤ a ∧ a ≤ b ∧ b ≤ n := by simpa [loB] using h
theorem nzB_spec {a : Int} (h : nzB a = true) : a ≠ 0 := by simpa [nzB] using h
theorem room_spec {n b : Nat} (h : room n b = true) : n * b ≤ 140737488355328 := by simpa [room] using h
theorem strRoom_spec {n : Nat} (h : strRoom n = true) : n ≤ 9223372036854775807 := by simpa [strRoom] using h
section
variable {P : Program} {K : Ctx} {N : Nat} {M : Mem} {β : Nat → Option Nat} {st : St} {g : Rg} {tmps : Array Value} {w : World} {o : Oper} {f : Eff} {p : Path} {tt : TT} {says : CallSays} {ops : List Oper}

theorem look_noOwn : ∀ (l : List (Nat × Ent)) (s : Nat), look (noOwn l) s = (look l s).map fun e => ({ d := e.d } : Ent)
 | [], s => rfl
 | (t, e) :: l, s => by
  simp only [noOwn, look_cons]
  by_cases h : t = s
  ·simp [h]
  ·simp only [h, if_false]; exact look_noOwn l s
theorem SimAt.noOwn {st : St} (h : SimAt P K M β st tmps w) {env : List (Nat × Ent)} (he : ∀ s e, look env s = some e → ∃ e0, look st.env s = some e0 ∧ e0.d = e.d) : SimAt P K M β { env := Ab.noOwn env, H := st.H, nxt := st.nxt } tmps w :=
 h.sub rfl (fun l e hl => by
  cases l with
  | slot s =>
   simp only [St.at, look_noOwn, Option.map_eq_some_iff] at hl
   obtain ⟨e1, h1, rfl⟩ := hl
   obtain ⟨e0, h2, h3⟩ := he s e1 h1
   exact ⟨e0, h2, h3, fun _ h => by cases h⟩
  | cell r i => exact ⟨e, hl, rfl, fun _ h => h⟩) (fun r cs hr => ⟨cs, hr, rfl⟩)

def Panics (P : Program) (K : Ctx) (M : Mem) (β : Nat → Option Nat) (g : Rg) (x : V) (hs : List (Nat × List Ent)) (o : Oper) (tmps : Array Value) (w : World) : Prop :=
 (∃ v, (execOp (Act.eval ⟨tmps, []⟩) o).run P w = .halt (.panic v) w ∧ RepV M v x ∧ hs = []) ∨
 (∃ fn vs, (execOp (Act.eval ⟨tmps, []⟩) o).run P w = .ok (.enter fn vs) w ∧ Calls P fn vs w fun e w' => ∃ v M' , e = .panicked [{ v, recovered := false }] ∧ RepV M' v x ∧
  SimAt P K M' β { env := noOwn g.env, H := hs ++ g.H, nxt := g.nxt } tmps w')

theorem binInt_run {op : BinOp} {k : IntKind} {a b : Int} {x : V} {ob : List Prop} (h : binInt op k a b = some (x, ob)) (hob : ∀ q, q ∈ ob → q) (t : TypeId) :
  ∃ v, (binOp op t (.int k a) (.int k b)).run P w = .ok v w ∧ RepV M v x := by
 have fin : ∀ {s : Sem Value} {v : Value}, s.run P w = .ok v w → RepV M v x → ∃ v, s.run P w = .ok v w ∧ RepV M v x := fun h1 h2 => ⟨_, h1, h2⟩
 cases op <;> simp only [binInt, Option.some.injEq, Prod.mk.injEq, reduceCtorEq] at h <;> obtain ⟨rfl, rfl⟩ := h
 case quo =>
  have hb := nzB_spec (hob _ (List.mem_singleton.2 rfl))
  refine fin (v := .int k (k.wrap (a.tdiv b))) ?_ (.int _ _)
  simp [binOp, Op.intDiv, hb]
 case rem =>
  have hb := nzB_spec (hob _ (List.mem_singleton.2 rfl))
  refine fin (v := .int k (a.tmod b)) ?_ (.int _ _)
  simp [binOp, Op.intDiv, hb]
 case add => exact fin (v := .int k (k.wrap (a + b))) (by simp [binOp, Op.intArith]) (.int _ _)
 case sub => exact fin (v := .int k (k.wrap (a - b))) (by simp [binOp, Op.intArith]) (.int _ _)
 case mul => exact fin (v := .int k (k.wrap (a * b))) (by simp [binOp, Op.intArith]) (.int _ _)
 case eql => exact fin (v := .bool (decide (a = b))) (by simp [binOp, Op.intCmp]; rfl) (.bool _)
 case neq => exact fin (v := .bool (!decide (a = b))) (by simp [binOp, Op.intCmp]; rfl) (.bool _)
 case lss => exact fin (v := .bool (decide (a < b))) (by simp [binOp, Op.intCmp]) (.bool _)
 case leq => exact fin (v := .bool (decide (a ≤ b))) (by simp [binOp, Op.intCmp]) (.bool _)
 case gtr => exact fin (v := .bool (decide (b < a))) (by simp [binOp, Op.intCmp]) (.bool _)
 case geq => exact fin (v := .bool (decide (b ≤ a))) (by simp [binOp, Op.intCmp]) (.bool _)

theorem binStr_run {op : BinOp} {a b : List UInt8} {x : V} {ob : List Prop} (h : binStr op a b = some (x, ob)) (hob : ∀ q, q ∈ ob → q) (t : TypeId) :
  ∃ v, (binOp op t (.string ⟨⟨a⟩⟩) (.string ⟨⟨b⟩⟩)).run P w = .ok v w ∧ RepV M v x := by
 have fin : ∀ {s : Sem Value} {v : Value}, s.run P w = .ok v w → RepV M v x → ∃ v, s.run P w = .ok v w ∧ RepV M v x := fun h1 h2 => ⟨_, h1, h2⟩
 have ea := bytes_toList a
 have eb := bytes_toList b
 have he : (a == b) = decide (a = b) := by by_cases hab : a = b <;> simp [hab]
 cases op <;> simp only [binStr, Option.some.injEq, Prod.mk.injEq, reduceCtorEq] at h <;> obtain ⟨rfl, rfl⟩ := h
 case add =>
  have hb := strRoom_spec (hob _ (List.mem_singleton.2 rfl))
  refine fin (v := .string ⟨⟨a ++ b⟩⟩) ?_ (.str _)
  have hsz : ¬ ((((⟨⟨a⟩⟩ : ByteArray).size + (⟨⟨b⟩⟩ : ByteArray).size : Nat) : Int) > IntKind.i64.max) := by
   have h1 : (⟨⟨a⟩⟩ : ByteArray).size = a.length := rfl
   have h2 : (⟨⟨b⟩⟩ : ByteArray).size = b.length := rfl
   have h3 : IntKind.i64.max = 9223372036854775807 := by decide
   rw [h1, h2, h3]; omega
  simp only [binOp, Op.stringOp]
  rw [if_neg hsz]
  simp
  apply ByteArray.ext
  simp
 case eql => exact fin (v := .bool (decide (a = b))) (by simp [binOp, Op.stringOp, ea, eb, he]) (.bool _)
 case neq => exact fin (v := .bool (!decide (a = b))) (by simp [binOp, Op.stringOp, ea, eb, he]) (.bool _)
 case lss => exact fin (v := .bool (Op.bytesLess a b)) (by simp [binOp, Op.stringOp, ea, eb]) (.bool _)
 case leq => exact fin (v := .bool (Op.bytesLess a b || decide (a = b))) (by simp [binOp, Op.stringOp, ea, eb, he]) (.bool _)
 case gtr => exact fin (v := .bool (!(Op.bytesLess a b || decide (a = b)))) (by simp [binOp, Op.stringOp, ea, eb, he]) (.bool _)
 case geq => exact fin (v := .bool (!Op.bytesLess a b)) (by simp [binOp, Op.stringOp, ea, eb]) (.bool _)

theorem desc_ptr {t : TypeId} {ti : TI} (r : Row P t ti) (hk : ti.k = .ptr) : ∃ e, r.desc = .pointer e := by
 have := r.hk
 rw [hk] at this
 cases hd : r.desc <;> simp [hd, tkOf] at this; exact ⟨_, rfl⟩
theorem desc_ifc {t : TypeId} {ti : TI} (r : Row P t ti) (hk : ti.k = .ifc) : ∃ e, r.desc = .interface e := by
 have := r.hk
 rw [hk] at this
 cases hd : r.desc <;> simp [hd, tkOf] at this; exact ⟨_, rfl⟩
theorem desc_fnc {t : TypeId} {ti : TI} (r : Row P t ti) (hk : ti.k = .fnc) : ∃ a b c, r.desc = .func a b c := by
 have := r.hk
 rw [hk] at this
 cases hd : r.desc <;> simp [hd, tkOf] at this; exact ⟨_, _, _, rfl⟩
theorem desc_bool {t : TypeId} {ti : TI} (r : Row P t ti) (hk : ti.k = .bool) : r.desc = .bool := by
 have := r.hk
 rw [hk] at this
 cases hd : r.desc <;> simp [hd, tkOf] at this; rfl

theorem equal_run {t : TypeId} {ti : TI} (r : Row P t ti) {va vb : Value} {a b : D} {res : Bool} (ha : RepD M β va a) (hb : RepD M β vb b) (hl : litNil ti.k b = true) (hn : isNil ti.k a = some res) :
  (Op.equal t va vb).run P w = .ok res w ∧ (∀ op, (binOp op t va vb) = match op with | .eql => (do pure (.bool (← Op.equal t va vb))) | .neq => (do pure (.bool (!(← Op.equal t va vb)))) | _ => binOp op t va vb) := by
 obtain ⟨dep, hm⟩ : ∃ d, Op.maxDepth = d + 1 := ⟨9999, rfl⟩
 unfold litNil at hl
 split at hl <;> try cases hl
 ·rename_i hk
  cases inv_v hb
  obtain ⟨e, hd⟩ := desc_ptr r hk
  rw [hk] at hn
  unfold isNil at hn
  split at hn <;> simp_all
  ·cases inv_v ha
   refine ⟨?_, fun op => by cases op <;> rfl⟩
   rw [Op.equal, hm, Op.equalIn]
   simp [r.run_underlying, hd]
  ·obtain ⟨b', _, rfl⟩ := inv_ptr ha
   subst hn
   refine ⟨?_, fun op => by cases op <;> rfl⟩
   rw [Op.equal, hm, Op.equalIn]
   simp [r.run_underlying, hd]
  ·obtain ⟨b', off, val, rfl, _⟩ := inv_pin ha
   subst hn
   refine ⟨?_, fun op => by cases op <;> rfl⟩
   rw [Op.equal, hm, Op.equalIn]
   simp [r.run_underlying, hd]
 ·rename_i hk
  cases inv_v hb
  obtain ⟨e, hd⟩ := desc_ifc r hk
  rw [hk] at hn
  unfold isNil at hn
  split at hn <;> simp_all
  ·cases inv_v ha
   refine ⟨?_, fun op => by cases op <;> rfl⟩
   rw [Op.equal, hm, Op.equalIn]
   simp [r.run_underlying, hd]
  ·obtain ⟨u, rfl, _⟩ := inv_iface ha
   subst hn
   refine ⟨?_, fun op => by cases op <;> rfl⟩
   rw [Op.equal, hm, Op.equalIn]
   simp [r.run_underlying, hd]
 ·rename_i hk
  cases inv_v hb
  obtain ⟨e1, e2, e3, hd⟩ := desc_fnc r hk
  rw [hk] at hn
  unfold isNil at hn
  split at hn <;> simp_all
  ·cases inv_v ha
   refine ⟨?_, fun op => by cases op <;> rfl⟩
   rw [Op.equal, hm, Op.equalIn]
   simp [r.run_underlying, hd]
  ·obtain ⟨u, rfl, _⟩ := inv_fn ha
   subst hn
   refine ⟨?_, fun op => by cases op <;> rfl⟩
   rw [Op.equal, hm, Op.equalIn]
   simp [r.run_underlying, hd]
end
end Go.Ab

/-
 AN ABSTRACT MACHINE OVER PURE STATES, part 14: one operation, case by case.
-/
namespace Go.Ab
section
variable {P : Program} {K : Ctx} {N : Nat} {M : Mem} {β : Nat → Option Nat} {st : St} {g : Rg} {tmps : Array Value} {w : World} {o : Oper} {f : Eff} {p : Path} {tt : TT} {says : CallSays} {ops : List Oper}

structure Hyp (P : Program) (K : Ctx) (N : Nat) (M : Mem) (β : Nat → Option Nat) (g : Rg) (tmps : Array Value) (w : World) (p : Path) (tt : TT) : Prop where
 sim : SimG P K N M β g tmps w
 pc : PC tmps p
 tt : TTok P tt = true

theorem st_move (h : Hyp P K N M β g tmps w p tt) {x : Operand} (ho : o.op = .move x) (hs : step1 says tt ops g p o = some (.go f)) : Yields P K M β g f o tmps w := by
 simp only [step1, ho] at hs
 split at hs
 case h_2 => cases hs
 rename_i d hd
 repeat' (first | (split at hs) | (rw [Bool.cond_eq_ite] at hs))
 all_goals first
  | (cases hs; done)
  | (cases hs; exact ok_take h.sim h.pc (.inl ho) hd (by assumption))
  | (cases hs; exact ok_move h.sim h.pc (.inl ho) hd)

theorem st_assign (h : Hyp P K N M β g tmps w p tt) {x : Operand} (ho : o.op = .assign x) (hs : step1 says tt ops g p o = some (.go f)) : Yields P K M β g f o tmps w := by
 simp only [step1, ho] at hs
 split at hs
 case h_2 => cases hs
 rename_i d hd
 split at hs
 ·rename_i e t hown
  rw [Bool.cond_eq_ite] at hs
  split at hs <;> cases hs
  ·exact ok_take h.sim h.pc (.inr ho) hd hown
  ·exact ok_move h.sim h.pc (.inr ho) hd
 ·split at hs
  ·rw [Bool.cond_eq_ite] at hs
   split at hs <;> cases hs
   ·exact ok_nil h.sim h.pc ho hd _
   ·exact ok_move h.sim h.pc (.inr ho) hd
  ·cases hs
 ·cases hs; exact ok_move h.sim h.pc (.inr ho) hd

theorem st_pick (h : Hyp P K N M β g tmps w p tt) {c : Nat} {a b : Operand} (ho : o.op = .pick (.tmp c) a b) (hs : step1 says tt ops g p o = some (.go f)) : Yields P K M β g f o tmps w := by
 simp only [step1, ho] at hs
 split at hs
 case h_2 => cases hs
 rename_i bc ba bb h1 h2 h3
 cases hs
 exact ok_pick h.sim h.pc ho h1 h2 h3

theorem st_alloc (h : Hyp P K N M β g tmps w p tt) {t : TypeId} (ho : o.op = .alloc t) (hs : step1 says tt ops g p o = some (.go f)) : Yields P K M β g f o tmps w := by
 simp only [step1, ho] at hs
 split at hs
 case h_2 => cases hs
 rename_i id nx hid
 split at hs
 case h_2 => cases hs
 rename_i z hz
 cases hs
 exact ok_alloc h.sim h.tt ho hz hid

theorem st_box (h : Hyp P K N M β g tmps w p tt) {t : TypeId} {x : Operand} (ho : o.op = .box t x) (hs : step1 says tt ops g p o = some (.go f)) : Yields P K M β g f o tmps w := by
 simp only [step1, ho] at hs
 split at hs
 case h_2 => cases hs
 rename_i d id nx ti hd hid hl
 rw [Bool.cond_eq_ite] at hs
 split at hs <;> cases hs
 rename_i hnt
 simp only [Bool.or_eq_true, Bool.not_eq_true', not_or, Bool.not_eq_true, Bool.not_eq_false, Nat.beq_eq] at hnt
 exact ok_box h.sim h.pc ho hd hnt.1.1 hnt.1.2 h.tt hl hnt.2 hid

theorem st_build (h : Hyp P K N M β g tmps w p tt) {t : TypeId} {parts : Array (Nat × Operand)} (ho : o.op = .build t parts) (hs : step1 says tt ops g p o = some (.go f)) : Yields P K M β g f o tmps w := by
 simp only [step1, ho] at hs
 split at hs
 ·rename_i fs sz by_ zero _ ps hl hps
  rw [Bool.cond_eq_ite] at hs
  split at hs
  case isFalse => cases hs
  rename_i hfs
  split at hs
  ·simp only [Option.map_eq_some_iff] at hs
   obtain ⟨d, ⟨cs, hcs, rfl⟩, hs⟩ := hs
   cases hs
   exact ok_build_struct h.sim h.pc h.tt hl rfl hfs ho hps (fun r => r.zcells') hcs
  ·simp only [Option.map_eq_some_iff] at hs
   obtain ⟨d, ⟨cs, hcs, rfl⟩, hs⟩ := hs
   cases hs
   exact ok_build_struct h.sim h.pc h.tt hl rfl hfs ho hps (fun r => r.zcells) hcs
 ·rename_i n e sz by_ zero _ ps hl hps
  split at hs
  case h_2 => cases hs
  rename_i k2 size2 by2 z2 hl2
  simp only [Option.map_eq_some_iff] at hs
  obtain ⟨d, ⟨cs, hcs, rfl⟩, hs⟩ := hs
  cases hs
  exact ok_build_array h.sim h.pc h.tt hl rfl hl2 ho hps hcs
 ·cases hs

theorem st_buildSlice (h : Hyp P K N M β g tmps w p tt) {t : TypeId} {len : Nat} {parts : Array (Nat × Operand)} (ho : o.op = .buildSlice t len parts) (hs : step1 says tt ops g p o = some (.go f)) (hob : ∀ q, q ∈ f.ob → q) : Yields P K M β g f o tmps w := by
 simp only [step1, ho] at hs
 split at hs
 case h_2 => cases hs
 rename_i e sz by_ zero _ ps hl hps
 split at hs
 case h_2 => cases hs
 rename_i k2 size2 by2 z2 hl2
 split at hs
 case h_2 => cases hs
 rename_i xs x rs hx hrs
 rw [Bool.cond_eq_ite] at hs
 split at hs
 case isFalse => cases hs
 rename_i hc
 simp only [Bool.and_eq_true, Nat.ble_eq, Nat.beq_eq] at hc
 cases hs
 exact ok_buildSlice h.sim h.pc h.tt hl rfl hl2 ho hps hx hc.2 hc.1.2 hc.1.1 (hob _ (List.mem_singleton.2 rfl))

theorem st_load (h : Hyp P K N M β g tmps w p tt) {t : TypeId} {a : Operand} (ho : o.op = .load t a) (hs : step1 says tt ops g p o = some (.go f)) : Yields P K M β g f o tmps w := by
 simp only [step1, ho] at hs
 split at hs
 ·rename_i q off ti ha hl
  split at hs
  case h_2 => cases hs
  rename_i cs hq
  rw [Bool.cond_eq_ite] at hs
  split at hs
  ·rename_i hag
   rw [Bool.cond_eq_ite] at hs
   split at hs
   case isFalse => cases hs
   rename_i hle
   cases hs
   exact ok_load_agg h.sim h.pc h.tt hl ho ha hq hag (by simpa using hle)
  ·rename_i hag
   split at hs
   case h_2 => cases hs
   rename_i e he
   split at hs
   ·rename_i s rs hs' hrs
    rw [Bool.cond_eq_ite] at hs
    split at hs <;> cases hs
    exact ok_load_take h.sim h.pc h.tt hl ho ha hq (by simpa using hag) he hs'
   ·cases hs
    exact ok_load_cell h.sim h.pc h.tt hl ho ha hq (by simpa using hag) he
 ·rename_i x ti ha hl
  rw [Bool.cond_eq_ite] at hs
  split at hs
  case isFalse => cases hs
  rename_i hc
  simp only [Bool.and_eq_true, beq_iff_eq, Nat.beq_eq] at hc
  cases hs
  exact ok_load_pin h.sim h.pc h.tt hl ho ha hc.1 hc.2
 ·cases hs

theorem st_store (h : Hyp P K N M β g tmps w p tt) {t : TypeId} {a x : Operand} (ho : o.op = .store t a x) (hs : step1 says tt ops g p o = some (.go f)) : Yields P K M β g f o tmps w := by
 simp only [step1, ho] at hs
 split at hs
 case h_2 => cases hs
 rename_i q off d ti ha hx hl
 split at hs
 case h_2 => cases hs
 rename_i cs hq
 rw [Bool.cond_eq_ite] at hs
 split at hs
 case isFalse => cases hs
 rename_i hc
 simp only [Bool.and_eq_true, Nat.beq_eq, Nat.ble_eq, Bool.not_eq_true'] at hc
 obtain ⟨⟨⟨⟨hc1, hc2⟩, _⟩, hc3⟩, hc4⟩ := hc
 split at hs
 ·rename_i u s k n get hown
  cases hs
  simp only [ownAt, Option.bind_eq_some_iff] at hown
  obtain ⟨e, he, hT⟩ := hown
  have hsz : ti.size = 1 := by rw [← hc1]; rfl
  exact ok_store_own h.sim h.pc h.tt hl ho ha hq hx hsz hc2 (l := [u]) (h.sim.sim.hand he hT (.cell q off))
 ·split at hs
  ·cases hs
   have hxx := hx
   simp only [rd] at hxx
   split at hxx
   ·cases hxx
    have hsz : ti.size = 1 := by rw [← hc1]; rfl
    exact ok_store_own h.sim h.pc h.tt hl ho ha hq hx hsz hc2 (l := []) (newOwn_nil _ _)
   ·cases hxx
  ·cases hs
 ·cases hs
  exact ok_storeN h.sim h.pc h.tt hl ho ha hq hx hc3 hc4 hc1 hc2 _

theorem st_nilCheck (h : Hyp P K N M β g tmps w p tt) {x : Operand} (ho : o.op = .nilCheck x) (hs : step1 says tt ops g p o = some (.go f)) : Yields P K M β g f o tmps w := by
 simp only [step1, ho] at hs
 split at hs
 ·rename_i q off hd
  cases hs
  have hr := rd_rep (ds := []) h.sim h.pc hd
  obtain ⟨b, _, hv⟩ := inv_ptr hr
  refine yields_pure h.sim (v := (⟨tmps, []⟩ : Act).eval x) ?_ hr
  simp [execOp, ho, hv]
 ·rename_i y hd
  cases hs
  have hr := rd_rep (ds := []) h.sim h.pc hd
  obtain ⟨b, off, val, hv, _⟩ := inv_pin hr
  refine yields_pure h.sim (v := (⟨tmps, []⟩ : Act).eval x) ?_ hr
  simp [execOp, ho, hv]
 ·cases hs

theorem st_unOp (h : Hyp P K N M β g tmps w p tt) {op : UnOp} {t : TypeId} {x : Operand} (ho : o.op = .unOp op t x) (hs : step1 says tt ops g p o = some (.go f)) : Yields P K M β g f o tmps w := by
 simp only [step1, ho] at hs
 split at hs
 case h_2 => cases hs
 rename_i a ha
 simp only [Option.map_eq_some_iff] at hs
 obtain ⟨d, ⟨x', hx', rfl⟩, hs⟩ := hs
 cases hs
 have hr := rd_rep (ds := []) h.sim h.pc ha
 unfold unV at hx'
 split at hx' <;> cases hx'
 ·have := inv_bool hr
  refine yields_pure h.sim (v := .bool _) ?_ (.v _ _ (.bool _))
  simp [execOp, ho, this, Op.unary]
 ·have := inv_int hr
  refine yields_pure h.sim (v := .int _ _) ?_ (.v _ _ (.int _ _))
  simp [execOp, ho, this, Op.unary, Op.intArith]

theorem st_convert (h : Hyp P K N M β g tmps w p tt) {s t : TypeId} {x : Operand} (ho : o.op = .convert s t x) (hs : step1 says tt ops g p o = some (.go f)) (hob : ∀ q, q ∈ f.ob → q) : Yields P K M β g f o tmps w := by
 simp only [step1, ho] at hs
 split at hs
 ·rename_i k1 _ _ _ _ k _ _ _ _ k3 n hl1 hl2 hd
  cases hs
  obtain ⟨r1⟩ := tt_row h.tt hl1
  obtain ⟨r2⟩ := tt_row h.tt hl2
  have hr := inv_int (rd_rep (ds := []) h.sim h.pc hd)
  refine yields_pure h.sim (v := .int k (k.wrap n)) ?_ (.v _ _ (.int _ _))
  simp only [execOp, ho, hr]
  refine runv _ ?_
  simp [convert, r1.run_underlying, r2.run_underlying, desc_int r1 rfl, desc_int r2 rfl, Conv.intToInt]
 ·rename_i _ _ _ _ _ _ _ _ l hl1 hl2 hd
  cases hs
  obtain ⟨r1⟩ := tt_row h.tt hl1
  obtain ⟨r2⟩ := tt_row h.tt hl2
  have hr := inv_str (rd_rep (ds := []) h.sim h.pc hd)
  refine yields_pure h.sim (v := .string ⟨⟨l⟩⟩) ?_ (.v _ _ (.str _))
  simp only [execOp, ho, hr]
  refine runv _ ?_
  simp [convert, r1.run_underlying, r2.run_underlying, desc_str r1 rfl, desc_str r2 rfl]
 ·rename_i e _ _ _ _ _ _ _ _ n get hl1 hl2 hd
  split at hs
  case h_2 => cases hs
  rename_i l rs hl3 hrs
  cases hs
  obtain ⟨r1⟩ := tt_row h.tt hl1
  obtain ⟨r2⟩ := tt_row h.tt hl2
  obtain ⟨r3⟩ := tt_row h.tt hl3
  obtain ⟨hlen, hget⟩ := hob _ (List.mem_singleton.2 rfl)
  have hr := rd_rep (ds := []) h.sim h.pc hd
  refine yields_pure h.sim (v := .string ⟨⟨l⟩⟩) ?_ (.v _ _ (.str _))
  simp only [execOp, ho]
  refine runv _ ?_
  rcases inv_slc hr with ⟨hn | ⟨a, hn⟩, hv⟩ | ⟨b, off, cap, val, hv, hc, hk, hM, h1, hrep⟩
  ·have hl0 : l = [] := List.eq_nil_of_length_eq_zero (hlen.trans hv)
   rw [hn, hl0]
   simp [convert, r1.run_underlying, r2.run_underlying, r3.run_underlying, desc_slc r1 rfl, desc_str r2 rfl, desc_int r3 rfl, Conv.bytesToString]
   rfl
  ·have hl0 : l = [] := List.eq_nil_of_length_eq_zero (hlen.trans hv)
   rw [hn, hl0]
   exact run_convert_bytes_back w s t e a 0 [] (by rw [r1.hd, desc_slc r1 rfl]) (by rw [r3.hd, desc_int r3 rfl]) (by rw [r2.hd, desc_str r2 rfl]) (fun j hj => by simp at hj)
  ·rw [hv, ← hlen]
   have hcell : ∀ j (hj : j < l.length), w.cell? ((⟨b, off, none⟩ : Addr).add j) = some (.int .u8 (l[j].toNat : Int)) := by
    intro j hj
    have hjn : j < n := by omega
    have e1 := hget j hjn
    have e2 := hrep j 0 (.int .u8 ((l.getD j 0).toNat : Int)) hjn (by rw [e1]; rfl)
    have e3 : val j 0 = .int .u8 ((l.getD j 0).toNat : Int) := by generalize val j 0 = u at e2 ⊢; cases e2; rfl
    have e4 := h.sim.sim.mem _ _ _ (hM j 0 hjn (by omega))
    rw [addr_add]
    have e5 : off + j * 1 + 0 = off + j := by omega
    rw [e5, e3] at e4
    rw [e4]
    simp [List.getD, List.getElem?_eq_getElem hj]
   exact run_convert_bytes_back w s t e ⟨b, off, none⟩ cap l (by rw [r1.hd, desc_slc r1 rfl]) (by rw [r3.hd, desc_int r3 rfl]) (by rw [r2.hd, desc_str r2 rfl]) hcell
 ·cases hs

theorem st_makeInterface (h : Hyp P K N M β g tmps w p tt) {t : TypeId} {x : Operand} (ho : o.op = .makeInterface t x) (hs : step1 says tt ops g p o = some (.go f)) : Yields P K M β g f o tmps w := by
 simp only [step1, ho] at hs
 split at hs
 case h_2 => cases hs
 rename_i y k sz by_ z _ hd hl
 obtain ⟨r⟩ := tt_row h.tt hl
 have hr := rd_rep (ds := []) h.sim h.pc hd
 have hc : P.concrete t = true ∨ k = .ifc := by
  have hk := r.hk
  cases hdd : r.desc <;> simp [hdd, tkOf] at hk
  all_goals first
   | exact .inr hk.symm
   | (left; simp [Program.concrete, r.hd, hdd])
 split at hs
 ·cases hs
 ·rename_i hk
  cases hs
  rcases hc with hc | hc
  ·refine yields_pure h.sim (v := .iface t ((⟨tmps, []⟩ : Act).eval x)) ?_ (.v _ _ (.iface t _ _ (inv_v hr)))
   simp only [execOp, ho]
   exact runv _ (run_makeInterface w t _ hc)
  ·exact absurd hc hk

theorem st_makeFunc (h : Hyp P K N M β g tmps w p tt) {fn : FuncId} {first caps : Array Operand} (ho : o.op = .makeFunc (.func fn) first caps) (hs : step1 says tt ops g p o = some (.go f)) : Yields P K M β g f o tmps w := by
 simp only [step1, ho] at hs
 rw [Bool.cond_eq_ite] at hs
 split at hs
 case isFalse => cases hs
 rename_i he
 simp only [Option.map_eq_some_iff] at hs
 obtain ⟨ds, hds, hs⟩ := hs
 cases hs
 obtain ⟨h1, h2⟩ := mapM'_get hds
 have hfirst : first = #[] := by simpa using he
 subst hfirst
 refine yields_pure h.sim (v := .func (.func fn) #[] (caps.map (⟨tmps, []⟩ : Act).eval)) ?_ ?_
 ·simp [execOp, ho, Instr.makeFunc]
 ·have : caps.map (⟨tmps, []⟩ : Act).eval = ⟨caps.toList.map (⟨tmps, []⟩ : Act).eval⟩ := by apply Array.ext'; simp
  rw [this]
  refine .fn fn _ ds (by simp [h1]) fun i v c hv hc => ?_
  simp only [List.getElem?_map, Option.map_eq_some_iff] at hv
  obtain ⟨y, hy, rfl⟩ := hv
  exact rd_rep h.sim h.pc (h2 i y c hy hc)

theorem st_extract (h : Hyp P K N M β g tmps w p tt) {x : Operand} {i : Nat} (ho : o.op = .extract x i) (hs : step1 says tt ops g p o = some (.go f)) : Yields P K M β g f o tmps w := by
 simp only [step1, ho] at hs
 split at hs
 case h_2 => cases hs
 rename_i ds hd
 simp only [Option.map_eq_some_iff] at hs
 obtain ⟨d, hdi, hs⟩ := hs
 cases hs
 obtain ⟨vs, hv, hlen, hr⟩ := inv_tup (rd_rep (ds := []) h.sim h.pc hd)
 have hi : i < ds.length := (List.getElem?_eq_some_iff.1 hdi).1
 have hvi : vs[i]? = some vs[i] := List.getElem?_eq_getElem (by omega)
 refine yields_pure h.sim (v := vs[i]) ?_ (hr i _ d hvi hdi)
 simp only [execOp, ho, hv]
 refine runv _ ?_
 simp [Instr.extract, hvi]
end
end Go.Ab

/-
 AN ABSTRACT MACHINE OVER PURE STATES, part 15: one operation, case by case (2).
-/
namespace Go.Ab
section
variable {P : Program} {K : Ctx} {N : Nat} {M : Mem} {β : Nat → Option Nat} {st : St} {g : Rg} {tmps : Array Value} {w : World} {o : Oper} {f : Eff} {p : Path} {tt : TT} {says : CallSays} {ops : List Oper}

theorem exec_binOp {op : BinOp} {t t2 : TypeId} {x y : Operand} (ho : o.op = .binOp op t x y t2) {a b v : Value} (hx : (⟨tmps, []⟩ : Act).eval x = a) (hy : (⟨tmps, []⟩ : Act).eval y = b)
  (hg : (eqGuard op t x y a b).run P w = .ok () w) (h : (binOp op t a b).run P w = .ok v w) : (execOp (Act.eval ⟨tmps, []⟩) o).run P w = .ok (.value v) w := by
 simp only [execOp, ho, hx, hy]
 refine runv _ ?_
 simp only [Sem.run_bind, hg, Result.andThen_ok, h]

theorem eqGuard_plain {op : BinOp} {t : TypeId} {x y : Operand} {a b : Value} (h : ∀ cs ds, ¬ (a = .agg cs ∧ b = .agg ds)) (h2 : a = .nilIface → b = .nilIface → isConst y = true) : (eqGuard op t x y a b).run P w = .ok () w := by
 unfold eqGuard
 cases op <;> try rfl
 all_goals
  simp only
  cases a <;> cases b <;> first
   | rfl
   | (exact absurd ⟨rfl, rfl⟩ (h _ _))
   | (have := h2 rfl rfl; cases y <;> simp [isConst] at this; simp)

theorem eqFields_run (htt : TTok P tt = true) {d : Nat} : ∀ {fs : List Field} {i : Nat} {xs ys : List V} {vs us : List Value} {r : Bool}, flatFs P i fs = true → eqVs (fs.map fun f => (look tt f.type).map (·.k)) xs ys = some r →
  (∀ (j : Nat) v x, vs[i + j]? = some v → xs[j]? = some x → RepV M v x) → (∀ (j : Nat) v x, us[i + j]? = some v → ys[j]? = some x → RepV M v x) → i + xs.length ≤ vs.length → i + ys.length ≤ us.length →
  (Op.eqFields (d + 1) ⟨vs⟩ ⟨us⟩ fs).run P w = .ok r w
 | [], i, xs, ys, vs, us, r, _, he, _, _, _, _ => by
  cases xs <;> cases ys <;> simp [eqVs] at he
  subst he
  simp [Op.eqFields]
 | f :: fs, i, xs, ys, vs, us, r, hf, he, hv, hu, hlv, hlu => by
  cases xs with
  | nil => simp [eqVs] at he
  | cons x xs =>
   cases ys with
   | nil => simp [eqVs] at he
   | cons y ys =>
    simp only [flatFs, Bool.and_eq_true, Nat.beq_eq, Bool.not_eq_true', decide_eq_false_iff_not] at hf
    obtain ⟨⟨⟨hoff, hname⟩, hty⟩, hrest⟩ := hf
    simp only [List.length_cons] at hlv hlu
    obtain ⟨va, hvi⟩ : ∃ va, vs[i]? = some va := ⟨_, List.getElem?_eq_getElem (by omega)⟩
    obtain ⟨ua, hui⟩ : ∃ ua, us[i]? = some ua := ⟨_, List.getElem?_eq_getElem (by omega)⟩
    have hrv := hv 0 va x hvi rfl
    have hru := hu 0 ua y hui rfl
    have hag : (isAgg f.type).run P w = .ok false w := by
     simp only [isAgg, Sem.run_bind]
     split at hty
     ·rename_i k hk; rw [Go.run_underlying hk]; rfl
     ·rename_i hk; rw [Go.run_underlying hk]; rfl
     ·rename_i hk; rw [Go.run_underlying hk]; rfl
     ·cases hty
    have hpart : ∀ {zs : List Value} {z : Value}, zs[i]? = some z → (part f.type ⟨zs⟩ f.offset).run P w = .ok z w := by
     intro zs z hz
     have : (⟨zs⟩ : Array Value)[f.offset]? = some z := by rw [hoff]; simpa using hz
     simp only [part, Sem.run_bind, hag, Result.andThen_ok, this]
     rfl
    have ih := fun (q : Bool) (hq : eqVs (fs.map fun f => (look tt f.type).map (·.k)) xs ys = some q) => eqFields_run htt (d := d) (fs := fs) (i := i + 1) (xs := xs) (ys := ys) (vs := vs) (us := us) (r := q) hrest hq
     (fun j v z h1 h2 => hv (j + 1) v z (by rw [← h1]; congr 1; omega) (by simpa using h2)) (fun j v z h1 h2 => hu (j + 1) v z (by rw [← h1]; congr 1; omega) (by simpa using h2)) (by omega) (by omega)
    have fin : ∀ {c : Bool} {q : Bool}, (Op.equalIn (d + 1) f.type va ua).run P w = .ok c w → eqVs (fs.map fun f => (look tt f.type).map (·.k)) xs ys = some q → (c && q) = r → (Op.eqFields (d + 1) ⟨vs⟩ ⟨us⟩ (f :: fs)).run P w = .ok r w := by
     intro c q h1 h2 h3
     simp only [Op.eqFields]
     rw [if_pos hname]
     simp only [Sem.run_bind, hpart hvi, hpart hui, Result.andThen_ok, h1]
     cases c
     ·simp [← h3]
     ·simp [← h3, ih q h2]
    cases hl : look tt f.type with
    | none => simp [hl, eqVs] at he
    | some ti =>
     obtain ⟨row⟩ := tt_row htt hl
     have hund := row.hd
     simp only [List.map_cons, hl, Option.map_some] at he
     unfold eqVs at he
     split at he <;> simp only [List.cons.injEq, reduceCtorEq] at *
     case h_2 ks kk k a l k' b m e1 e2 e3 =>
      obtain ⟨e1, rfl⟩ := e1
      obtain ⟨rfl, rfl⟩ := e2
      obtain ⟨rfl, rfl⟩ := e3
      cases hrv; cases hru
      rw [Bool.cond_eq_ite] at he
      split at he
      case isFalse => cases he
      rename_i hk
      simp only [decide_eq_true_eq] at hk
      subst hk
      simp only [Option.map_eq_some_iff] at he
      obtain ⟨q, hq, hr⟩ := he
      refine fin (c := decide (a = b)) ?_ hq hr
      have : ∃ k0, row.desc = .int k0 := by
       have := row.hk
       rw [Option.some.inj e1] at this
       cases hd : row.desc <;> simp [hd, tkOf] at this; exact ⟨_, rfl⟩
      obtain ⟨k0, hk0⟩ := this
      rw [hk0] at hund
      rw [run_equalIn_int w d f.type k k0 a b hund]
      rfl
     case h_3 ks a l b m e1 e2 e3 =>
      obtain ⟨e1, rfl⟩ := e1
      obtain ⟨rfl, rfl⟩ := e2
      obtain ⟨rfl, rfl⟩ := e3
      cases hrv; cases hru
      simp only [Option.map_eq_some_iff] at he
      obtain ⟨q, hq, hr⟩ := he
      refine fin (c := decide (a = b)) ?_ hq hr
      have : row.desc = .string := desc_str row (Option.some.inj e1)
      rw [this] at hund
      rw [run_equalIn_string w d f.type _ _ hund, bytes_toList, bytes_toList]
      by_cases hab : a = b <;> simp [hab]
     case h_4 ks a l b m e1 e2 e3 =>
      obtain ⟨e1, rfl⟩ := e1
      obtain ⟨rfl, rfl⟩ := e2
      obtain ⟨rfl, rfl⟩ := e3
      cases hrv; cases hru
      simp only [Option.map_eq_some_iff] at he
      obtain ⟨q, hq, hr⟩ := he
      refine fin (c := (a == b)) ?_ hq hr
      have : row.desc = .bool := desc_bool row (Option.some.inj e1)
      rw [this] at hund
      rw [run_equalIn_bool' w d f.type _ _ hund]

theorem eq_run (htt : TTok P tt = true) {t : TypeId} {fs : List (Nat × TypeId × Nat)} {sz by_ : Nat} {z : List V} {bd : List (Nat × TypeId)} (hl : look tt t = some { k := .strct fs, size := sz, bytes := by_, zero := z, bld := bd }) (he : eqOk P t = true) {xs ys : List V} {r : Bool} (hr : eqVs (fs.map fun f => (look tt f.2.1).map (·.k)) xs ys = some r)
  {va ua : Value} (hv : RepV M va (.agg xs)) (hu : RepV M ua (.agg ys)) : ∃ vs us, va = .agg ⟨vs⟩ ∧ ua = .agg ⟨us⟩ ∧ (Op.equalIn 10000 t (.agg ⟨vs⟩) (.agg ⟨us⟩)).run P w = .ok r w ∧ ∀ op a b, (eqGuard op t a b (.agg ⟨vs⟩) (.agg ⟨us⟩)).run P w = .ok () w := by
 obtain ⟨row⟩ := tt_row htt hl
 cases hv with
 | agg vs _ hn h1 hrep =>
  cases hu with
  | agg us _ hn' h1' hrep' =>
   refine ⟨vs, us, rfl, rfl, ?_⟩
   unfold eqOk at he
   split at he
   case h_2 => cases he
   rename_i fs0 hund
   simp only [Bool.and_eq_true, Bool.not_eq_true'] at he
   obtain ⟨⟨h2, h3⟩, h4⟩ := he
   have hf0 : P.fieldsOf t = fs0 := by simp [Program.fieldsOf, hund]
   have hdesc : row.desc = .struct fs0 := Option.some.inj (row.hd.symm.trans hund)
   have hfs : fs = fs0.toList.map fun f => (f.offset, f.type, P.cellsOf f.type) := by
    have := row.hk
    rw [hdesc] at this
    simp [tkOf] at this
    exact this.symm
   refine ⟨?_, fun op a b => run_eqGuard_agg w op t a b _ _ h3⟩
   rw [run_equalIn_agg w 9999 t _ _ (by rw [hf0]; exact hund) h2, hf0]
   refine eqFields_run htt (d := 9998) (i := 0) (xs := xs) (ys := ys) h4 (by rw [hfs] at hr; simpa [Function.comp_def] using hr) (fun j v x h5 h6 => hrep j v x (by simpa using h5) h6) (fun j v x h5 h6 => hrep' j v x (by simpa using h5) h6) (by omega) (by omega)

theorem st_binOp (h : Hyp P K N M β g tmps w p tt) {op : BinOp} {t t2 : TypeId} {x y : Operand} (ho : o.op = .binOp op t x y t2) (hs : step1 (saysC P) tt ops g p o = some (.go f)) (hob : ∀ q, q ∈ f.ob → q) : Yields P K M β g f o tmps w := by
 simp only [step1, ho] at hs
 split at hs
 case h_3 => cases hs
 case h_1 =>
  rename_i xs ys ha hb
  have hra := inv_v (rd_rep (ds := []) h.sim h.pc ha)
  have hrb := inv_v (rd_rep (ds := []) h.sim h.pc hb)
  split at hs
  case h_2 => cases hs
  rename_i fs sz by_ z _ hl
  rw [Bool.cond_eq_ite] at hs
  split at hs
  case isFalse => cases hs
  rename_i he
  split at hs
  ·rename_i r hr
   cases hs
   obtain ⟨vs, us, e1, e2, h1, h2⟩ := eq_run (w := w) (M := M) h.tt hl he hr hra hrb
   exact yields_pure h.sim (exec_binOp ho e1 e2 (h2 _ _ _) (by rw [run_eql_struct, h1]; rfl)) (.v _ _ (.bool _))
  ·rename_i r hr
   cases hs
   obtain ⟨vs, us, e1, e2, h1, h2⟩ := eq_run (w := w) (M := M) h.tt hl he hr hra hrb
   exact yields_pure h.sim (exec_binOp ho e1 e2 (h2 _ _ _) (by rw [run_neq_struct, h1]; rfl)) (.v _ _ (.bool _))
  ·cases hs
 rename_i a b ha hb
 simp only [Option.map_eq_some_iff] at hs
 obtain ⟨⟨z, ob⟩, hz, hs⟩ := hs
 cases hs
 have hra := rd_rep (ds := []) h.sim h.pc ha
 have hrb := rd_rep (ds := []) h.sim h.pc hb
 unfold binV at hz
 split at hz
 ·rename_i k1 m k2 n
  rw [Bool.cond_eq_ite] at hz
  split at hz
  case isFalse => cases hz
  rename_i hk
  simp only [decide_eq_true_eq] at hk
  subst hk
  have e1 := inv_int hra
  have e2 := inv_int hrb
  obtain ⟨v, hv, hr⟩ := binInt_run (P := P) (w := w) (M := M) hz hob t
  exact yields_pure h.sim (exec_binOp ho e1 e2 (eqGuard_plain (by simp) (by simp)) hv) (.v _ _ hr)
 ·have e1 := inv_str hra
  have e2 := inv_str hrb
  obtain ⟨v, hv, hr⟩ := binStr_run (P := P) (w := w) (M := M) hz hob t
  exact yields_pure h.sim (exec_binOp ho e1 e2 (eqGuard_plain (by simp) (by simp)) hv) (.v _ _ hr)
 ·rename_i b1 b2
  have e1 := inv_bool hra
  have e2 := inv_bool hrb
  obtain ⟨dep, hm⟩ : ∃ d, Op.maxDepth = d + 1 := ⟨9999, rfl⟩
  cases hl : look tt t with
  | none => rw [hl] at hz; simp at hz
  | some ti =>
   rw [hl] at hz
   obtain ⟨r⟩ := tt_row h.tt hl
   split at hz <;> cases hz
   ·rename_i hk
    simp at hk
    refine yields_pure h.sim (v := .bool (b1 == b2)) (exec_binOp ho e1 e2 (eqGuard_plain (by simp) (by simp)) ?_) (.v _ _ (.bool _))
    simp only [binOp, Sem.run_bind]
    rw [Op.equal, hm, Op.equalIn]
    simp [r.run_underlying, desc_bool r hk]
   ·rename_i hk
    simp at hk
    refine yields_pure h.sim (v := .bool (!(b1 == b2))) (exec_binOp ho e1 e2 (eqGuard_plain (by simp) (by simp)) ?_) (.v _ _ (.bool _))
    simp only [binOp, Sem.run_bind]
    rw [Op.equal, hm, Op.equalIn]
    simp [r.run_underlying, desc_bool r hk]
 ·cases hl : look tt t with
  | none => rw [hl] at hz; simp at hz
  | some ti =>
   rw [hl] at hz
   simp only [Option.map_some] at hz
   obtain ⟨r⟩ := tt_row h.tt hl
   rw [Bool.cond_eq_ite] at hz
   split at hz
   case isFalse => cases hz
   rename_i hc
   simp only [Bool.and_eq_true] at hc
   have hguard : (eqGuard op t x y ((⟨tmps, []⟩ : Act).eval x) ((⟨tmps, []⟩ : Act).eval y)).run P w = .ok () w := by
    refine eqGuard_plain ?_ (fun _ _ => hc.2)
    rintro cs ds ⟨_, hb'⟩
    rw [hb'] at hrb
    have hln := hc.1
    unfold litNil at hln
    split at hln <;> first | (cases inv_v hrb; done) | (cases hln; done)
   split at hz <;> cases hz
   ·rename_i res hn
    obtain ⟨h1, h2⟩ := equal_run (w := w) r hra hrb hc.1 hn
    refine yields_pure h.sim (v := .bool res) (exec_binOp ho rfl rfl hguard ?_) (.v _ _ (.bool _))
    rw [h2 .eql]; simp [h1]
   ·rename_i res hn
    obtain ⟨h1, h2⟩ := equal_run (w := w) r hra hrb hc.1 hn
    refine yields_pure h.sim (v := .bool (!res)) (exec_binOp ho rfl rfl hguard ?_) (.v _ _ (.bool _))
    rw [h2 .neq]; simp [h1]

theorem st_fieldAddr (h : Hyp P K N M β g tmps w p tt) {s : TypeId} {x : Operand} {i : Nat} (ho : o.op = .fieldAddr s x i) (hs : step1 says tt ops g p o = some (.go f)) : Yields P K M β g f o tmps w := by
 simp only [step1, ho] at hs
 split at hs
 ·rename_i q off fs sz by_ z _ hd hl
  obtain ⟨r⟩ := tt_row h.tt hl
  split at hs
  case h_2 => cases hs
  rename_i o1 ft fsz hf
  rw [Bool.cond_eq_ite] at hs
  split at hs
  case isFalse => cases hs
  rename_i hc
  cases hs
  obtain ⟨b, hb, hv⟩ := inv_ptr (rd_rep (ds := []) h.sim h.pc hd)
  refine yields_pure h.sim (v := .pointer (some ⟨b, off + o1, none⟩)) ?_ (.ptr _ _ _ hb)
  simp only [execOp, ho, hv]
  exact runv _ (run_fieldAddr r rfl hf (by simpa using hc) b off)
 ·rename_i cs fs sz by_ z _ hd hl
  obtain ⟨r⟩ := tt_row h.tt hl
  split at hs
  case h_2 => cases hs
  rename_i o1 ft fsz hf
  split at hs
  case h_2 => cases hs
  rename_i fti hlf
  rw [Bool.cond_eq_ite] at hs
  split at hs
  case isFalse => cases hs
  rename_i hc
  simp only [Bool.and_eq_true, Nat.ble_eq] at hc
  obtain ⟨b, off, val, hv, hM, h1, hr⟩ := inv_pin (rd_rep (ds := []) h.sim h.pc hd)
  have hrun : (execOp (Act.eval ⟨tmps, []⟩) o).run P w = .ok (.value (.pointer (some ⟨b, off + o1, none⟩))) w := by
   simp only [execOp, ho, hv]
   exact runv _ (run_fieldAddr r rfl hf hc.1 b off)
  simp only [V.cells] at hM h1 hr
  rw [Bool.cond_eq_ite] at hs
  split at hs
  ·cases hs
   have hlen : ((cs.drop o1).take fsz).length = fsz := by simp; omega
   refine yields_pure h.sim hrun (.pin b (off + o1) _ (fun j => val (o1 + j)) (fun j hj => ?_) (fun j hj => ?_) (fun j c hj => ?_))
   ·simp only [V.cells, hlen] at hj
    rw [Nat.add_assoc]; exact hM _ (by omega)
   ·simp only [V.cells, hlen] at hj
    exact h1 _ (by omega)
   ·simp only [V.cells] at hj
    rw [List.getElem?_take] at hj
    split at hj
    ·rw [List.getElem?_drop] at hj; exact hr _ c hj
    ·cases hj
  ·rw [Bool.cond_eq_ite] at hs
   split at hs
   case isFalse => cases hs
   rename_i hsz
   split at hs
   case h_2 => cases hs
   rename_i c hc1
   rw [Bool.cond_eq_ite] at hs
   split at hs
   ·cases hs
   ·rename_i hna
    cases hs
    have hcc := cells_one (x := c) (by simpa using hna)
    refine yields_pure h.sim hrun (.pin b (off + o1) c (fun j => val (o1 + j)) (fun j hj => ?_) (fun j hj => ?_) (fun j c' hj => ?_))
    ·rw [hcc] at hj
     rw [Nat.add_assoc]; exact hM _ (by have := (List.getElem?_eq_some_iff.1 hc1).1; simp at hj; omega)
    ·rw [hcc] at hj
     exact h1 _ (by have := (List.getElem?_eq_some_iff.1 hc1).1; simp at hj; omega)
    ·rw [hcc] at hj
     cases j with
     | zero => simp at hj; subst hj; exact hr _ _ hc1
     | succ j => simp at hj
 ·cases hs

theorem st_field (h : Hyp P K N M β g tmps w p tt) {s : TypeId} {x : Operand} {i : Nat} (ho : o.op = .field s x i) (hs : step1 says tt ops g p o = some (.go f)) : Yields P K M β g f o tmps w := by
 simp only [step1, ho] at hs
 split at hs
 case h_2 => cases hs
 rename_i cs fs sz by_ z _ hd hl
 obtain ⟨r⟩ := tt_row h.tt hl
 split at hs
 case h_2 => cases hs
 rename_i o1 ft fsz hf
 split at hs
 case h_2 => cases hs
 rename_i fti hlf
 obtain ⟨rf⟩ := tt_row h.tt hlf
 rw [Bool.cond_eq_ite] at hs
 split at hs
 case isFalse => cases hs
 rename_i hc
 simp only [Nat.ble_eq] at hc
 obtain ⟨vs, hv, hlen, h1, hr⟩ := inv_agg (rd_rep (ds := []) h.sim h.pc hd)
 obtain ⟨ha, hb⟩ := run_field (w := w) r rfl hf rf vs (by omega)
 rw [Bool.cond_eq_ite] at hs
 split at hs
 ·rename_i hag
  cases hs
  refine yields_pure h.sim (v := .agg ⟨(vs.drop o1).take fsz⟩) ?_ (.v _ _ (.agg _ _ (by simp; omega) (fun v hv => h1 v (List.mem_of_mem_drop (List.mem_of_mem_take hv))) (fun j v c hv hc' => ?_)))
  ·simp only [execOp, ho, hv]; exact runv _ (ha hag)
  ·rw [List.getElem?_take] at hv hc'
   split at hv
   ·rename_i hj
    rw [if_pos hj, List.getElem?_drop] at hc'
    rw [List.getElem?_drop] at hv
    exact hr _ v c hv hc'
   ·cases hv
 ·rename_i hag
  split at hs
  case h_2 => cases hs
  rename_i c hc1
  cases hs
  have hlt : o1 < cs.length := (List.getElem?_eq_some_iff.1 hc1).1
  have hvi : vs[o1]? = some vs[o1] := List.getElem?_eq_getElem (by omega)
  refine yields_pure h.sim (v := vs[o1]) ?_ (.v _ _ (hr _ _ c hvi hc1))
  simp only [execOp, ho, hv]; exact runv _ (hb (by simpa using hag) _ hvi)

theorem pin_imp {x y : V} (hv : VImp x y) {k b off : Nat} {val : Nat → Value} (hk : x.cells.length = k) (hM : ∀ q, q < k → M b (off + q) = some (val q)) (h1 : ∀ q, q < k → (val q).oneCell' = true)
  (hr : ∀ (q : Nat) c, x.cells[q]? = some c → RepV M (val q) c) : RepD M β (.pointer (some ⟨b, off, none⟩)) (.pin y) := by
 subst hk
 have hy := hv M _ (repV_of_cells h1 hr)
 cases hx : x.isAgg with
 | true =>
  rw [hx] at hy
  simp only [cond_true] at hy
  cases hy with
  | agg vs cs hn h1' hr' =>
   have hlen : cs.length = x.cells.length := by simpa using hn.symm
   refine .pin b off _ val (fun j hj => hM j (by simp only [V.cells] at hj; omega)) (fun j hj => h1 j (by simp only [V.cells] at hj; omega)) (fun j c hj => ?_)
   simp only [V.cells] at hj
   have hjl : j < x.cells.length := by have := (List.getElem?_eq_some_iff.1 hj).1; omega
   exact hr' j (val j) c (by simp [hjl]) hj
  | any _ h1' => simp [Value.oneCell'] at h1'
 | false =>
  rw [hx] at hy
  simp only [cond_false] at hy
  have hcx := cells_one hx
  have hone := h1 0 (by rw [hcx]; simp)
  have hya : y.isAgg = false := by
   cases y <;> first | rfl | skip
   exfalso
   generalize val 0 = u at hy hone
   cases hy
   simp [Value.oneCell'] at hone
  have hcy := cells_one hya
  refine .pin b off y val (fun j hj => hM j (by rw [hcx]; rw [hcy] at hj; exact hj)) (fun j hj => h1 j (by rw [hcx]; rw [hcy] at hj; exact hj)) (fun j c hj => ?_)
  rw [hcy] at hj
  cases j with
  | zero => simp at hj; subst hj; exact hy
  | succ j => simp at hj

theorem st_indexAddr (h : Hyp P K N M β g tmps w p tt) {t : TypeId} {x i : Operand} (ho : o.op = .indexAddr t x i) (hs : step1 says tt ops g p o = some (.go f)) (hob : ∀ q, q ∈ f.ob → q) : Yields P K M β g f o tmps w := by
 simp only [step1, ho] at hs
 split at hs
 case h_2 => cases hs
 rename_i k n get kk j e sz by_ z _ hx hi hl
 obtain ⟨r⟩ := tt_row h.tt hl
 split at hs
 case h_2 => cases hs
 rename_i k2 size by2 z2 hl2
 obtain ⟨re⟩ := tt_row h.tt hl2
 rw [Bool.cond_eq_ite] at hs
 split at hs
 case isFalse => cases hs
 rename_i hc
 simp only [Bool.and_eq_true, Nat.beq_eq, Nat.ble_eq] at hc
 obtain ⟨rfl, hpos⟩ := hc
 have hor : ∃ (y : V) (rs : List RS) (ob : List Prop), f = { e := some { d := .pin y }, rs, ob } ∧ VImp (get j.toNat) y ∧ inB j n = true := by
  split at hs
  ·rename_i y rs hrs
   cases hs
   exact ⟨_, _, _, rfl, hob _ (by simp), hob (inB j n = true) (by simp)⟩
  ·cases hs
   exact ⟨_, _, _, rfl, fun _ _ h => h, hob (inB j n = true) (by simp)⟩
  ·cases hs
 obtain ⟨y, rs, ob, rfl, hb1, hb2⟩ := hor
 have hb2 := inB_spec hb2
 have ei := inv_int (rd_rep (ds := []) h.sim h.pc hi)
 rcases inv_slc (rd_rep (ds := []) h.sim h.pc hx) with ⟨_, hn0⟩ | ⟨b, off, cap, val, hv, _, hk, hM, h1, hr⟩
 ·omega
 ·have hlt : j.toNat < n := by omega
  have hy : RepD M β (.pointer (some ⟨b, off + j.toNat * k, none⟩)) (.pin y) :=
   pin_imp hb1 (hk _ hlt) (fun q hq => hM _ q hlt hq) (fun q hq => h1 _ q hlt hq) (fun q c hq => hr _ q c hlt hq)
  refine yields_pure h.sim (v := .pointer (some ⟨b, off + j.toNat * k, none⟩)) ?_ hy
  simp only [execOp, ho, hv, ei]
  exact runv _ (run_indexAddr r rfl re hb2.1 hb2.2)

theorem st_index (h : Hyp P K N M β g tmps w p tt) {t : TypeId} {x i : Operand} (ho : o.op = .index t x i) (hs : step1 says tt ops g p o = some (.go f)) (hob : ∀ q, q ∈ f.ob → q) : Yields P K M β g f o tmps w := by
 simp only [step1, ho] at hs
 split at hs
 case h_2 => cases hs
 rename_i l kk j sz by_ z _ hx hi hl
 obtain ⟨r⟩ := tt_row h.tt hl
 cases hs
 have hb := inB_spec (hob (inB j l.length = true) (by simp))
 have ex := inv_str (rd_rep (ds := []) h.sim h.pc hx)
 have ei := inv_int (rd_rep (ds := []) h.sim h.pc hi)
 refine yields_pure h.sim (v := .int .u8 (l.getD j.toNat 0).toNat) ?_ (.v _ _ (.int _ _))
 simp only [execOp, ho, ex, ei]
 exact runv _ (run_index_str r rfl hb.1 hb.2)

theorem cells_drop {k n m : Nat} {get : Nat → V} {a : Nat} {b off cap : Nat}
  {val : Nat → Nat → Value} (hk : ∀ i, i < n → (get i).cells.length = k) (hM : ∀ i j, i < n → j < k → M b (off + i * k + j) = some (val i j)) (h1 : ∀ i j, i < n → j < k → (val i j).oneCell' = true)
  (hr : ∀ (i j : Nat) c, i < n → (get i).cells[j]? = some c → RepV M (val i j) c) (hm : a + m ≤ n) (hc : m ≤ cap) :
  RepV M (.slice (some ⟨b, off + a * k, none⟩) m cap) (.slc k m fun i => get (a + i)) := by
 refine .slc b (off + a * k) k m cap _ (fun i j => val (a + i) j) hc (fun i hi => hk _ (by omega)) (fun i j hi hj => ?_) (fun i j hi hj => h1 _ _ (by omega) hj) (fun i j c hi hcc => hr _ _ _ (by omega) hcc)
 have := hM (a + i) j (by omega) hj
 rw [Nat.add_mul] at this
 rwa [show off + a * k + i * k + j = off + (a * k + i * k) + j by omega]

theorem run_slice_slc {t e : TypeId} {ti te : TI} (r : Row P t ti) (hk : ti.k = .slc e) (re : Row P e te) {base : Option Addr} {n cap : Nat} {lo hi : Option Value} {a b : Nat}
  (hlo : lo = none ∧ a = 0 ∨ ∃ k, lo = some (.int k a)) (hhi : hi = none ∧ b = n ∨ ∃ k, hi = some (.int k b)) (hab : a ≤ b) (hbn : b ≤ n) (hnc : n ≤ cap) :
  (Instr.sliceAt t (.slice base n cap) lo hi none).run P w = .ok (.slice (if cap = a then base else base.map (·.add (a * te.size))) (b - a) (cap - a)) w := by
 have hu := r.run_underlying w
 rw [desc_slc r hk] at hu
 have hbc : b ≤ cap := by omega
 rcases hlo with ⟨rfl, rfl⟩ | ⟨k1, rfl⟩ <;> rcases hhi with ⟨rfl, rfl⟩ | ⟨k2, rfl⟩
 ·simp [Instr.sliceAt, hu, Instr.slice, Instr.sliceBounds, re.run_sizeOf]
 ·simp [Instr.sliceAt, hu, Instr.slice, Instr.sliceBounds, Instr.sliceBound, asIntOf, re.run_sizeOf, hbc]
 ·simp [Instr.sliceAt, hu, Instr.slice, Instr.sliceBounds, Instr.sliceBound, asIntOf, re.run_sizeOf, hab]
 ·simp [Instr.sliceAt, hu, Instr.slice, Instr.sliceBounds, Instr.sliceBound, asIntOf, re.run_sizeOf, hbc, hab]
end
end Go.Ab

/-
 AN ABSTRACT MACHINE OVER PURE STATES, part 16: one operation, case by case (3).
-/
namespace Go.Ab
section
variable {P : Program} {K : Ctx} {N : Nat} {M : Mem} {β : Nat → Option Nat} {st : St} {g : Rg} {tmps : Array Value} {w : World} {o : Oper} {f : Eff} {p : Path} {tt : TT} {says : CallSays} {ops : List Oper}

theorem exec_slice {t : TypeId} {x : Operand} {lo hi mx : Option Operand} (ho : o.op = .slice t x lo hi mx) {v u : Value} (hx : (⟨tmps, []⟩ : Act).eval x = v) {a b : Option Value} (ha : lo.map (⟨tmps, []⟩ : Act).eval = a) (hb : hi.map (⟨tmps, []⟩ : Act).eval = b) (hm : mx = none)
  (h : (Instr.sliceAt t v a b none).run P w = .ok u w) : (execOp (Act.eval ⟨tmps, []⟩) o).run P w = .ok (.value u) w := by
 simp only [execOp, ho, hx, ha, hb, hm, Option.map_none]
 exact runv _ h

theorem run_slice_str {t : TypeId} {ti : TI} (r : Row P t ti) (hk : ti.k = .str) {l : List UInt8} {lo hi : Option Value} {a b : Nat}
  (hlo : lo = none ∧ a = 0 ∨ ∃ k, lo = some (.int k a)) (hhi : hi = none ∧ b = l.length ∨ ∃ k, hi = some (.int k b)) (hab : a ≤ b) (hbn : b ≤ l.length) :
  (Instr.sliceAt t (.string ⟨⟨l⟩⟩) lo hi none).run P w = .ok (.string ⟨⟨(l.take b).drop a⟩⟩) w := by
 have hu := r.run_underlying w
 rw [desc_str r hk] at hu
 have hs : (⟨⟨l⟩⟩ : ByteArray).size = l.length := rfl
 have hx : (⟨⟨l⟩⟩ : ByteArray).extract a b = ⟨⟨(l.take b).drop a⟩⟩ := by
  have := ByteArray.extract_mk l a b
  rw [List.drop_take]
  exact this
 rcases hlo with ⟨rfl, rfl⟩ | ⟨k1, rfl⟩ <;> rcases hhi with ⟨rfl, rfl⟩ | ⟨k2, rfl⟩
 ·simp [Instr.sliceAt, hu, Instr.slice, Instr.sliceBounds]
 ·simp [Instr.sliceAt, hu, Instr.slice, Instr.sliceBounds, Instr.sliceBound, asIntOf, hbn, hs, hx]
 ·simp [Instr.sliceAt, hu, Instr.slice, Instr.sliceBounds, Instr.sliceBound, asIntOf, hab, hs, hx]
 ·simp [Instr.sliceAt, hu, Instr.slice, Instr.sliceBounds, Instr.sliceBound, asIntOf, hbn, hab, hs, hx]

theorem slc_cut {v : Value} {k n : Nat} {get : Nat → V} (hv : RepD M β v (.v (.slc k n get))) {a b : Nat} (hab : a ≤ b) (hbn : b ≤ n) {base : Option Addr} {cap : Nat} (hvv : v = .slice base n cap) (hnc : n ≤ cap) :
  RepV M (.slice (if cap = a then base else base.map (·.add (a * k))) (b - a) (cap - a)) (.slc k (b - a) fun i => get (a + i)) := by
 rcases inv_slc hv with ⟨h1 | ⟨a0, h1⟩, h2⟩ | ⟨b0, off, cap', val, h1, hc, hk, hM, h1', hr⟩
 ·rw [hvv] at h1; cases h1
  have : b = 0 := by omega
  subst this
  have : a = 0 := by omega
  subst this
  exact .slc0 _ _
 ·rw [hvv] at h1; cases h1
  have : b = 0 := by omega
  subst this
  have : a = 0 := by omega
  subst this
  exact .slcz _ _ _
 ·rw [hvv] at h1; cases h1
  by_cases hca : cap = a
  ·rw [if_pos hca]
   have : b - a = 0 := by omega
   rw [this]
   exact .slc b0 off k 0 _ _ (fun _ _ => undef) (Nat.zero_le _) (by simp) (by simp) (by simp) (by simp)
  ·rw [if_neg hca]
   simp only [Option.map_some, addr_add]
   exact cells_drop hk hM h1' hr (by omega) (by omega)

theorem st_slice (h : Hyp P K N M β g tmps w p tt) {t : TypeId} {x : Operand} {lo hi mx : Option Operand} (ho : o.op = .slice t x lo hi mx) (hs : step1 says tt ops g p o = some (.go f)) (hob : ∀ q, q ∈ f.ob → q) : Yields P K M β g f o tmps w := by
 have ev : ∀ {y : Option Operand} {kk : IntKind} {n : Int}, y.map (fun y => rd g.env g.cenv p tt o.type y) = some (some (.v (.int kk n))) → y.map (⟨tmps, []⟩ : Act).eval = some (.int kk n) := by
  intro y kk n hy
  cases y with
  | none => simp at hy
  | some y =>
   simp at hy
   simp [inv_int (rd_rep (ds := []) h.sim h.pc hy)]
 have evn : ∀ {y : Option Operand}, y.map (fun y => rd g.env g.cenv p tt o.type y) = none → y.map (⟨tmps, []⟩ : Act).eval = none := by
  intro y hy; simp at hy; simp [hy]
 simp only [step1, ho] at hs
 split at hs
 ·rename_i sz by_ z _ hl
  obtain ⟨r⟩ := tt_row h.tt hl
  split at hs
  ·rename_i l hx hlo hhi
   cases hs
   have ex := inv_str (rd_rep (ds := []) h.sim h.pc hx)
   have := run_slice_str (w := w) r rfl (l := l) (lo := none) (hi := none) (a := 0) (b := l.length) (.inl ⟨rfl, rfl⟩) (.inl ⟨rfl, rfl⟩) (by omega) (by omega)
   simp at this
   exact yields_pure h.sim (exec_slice ho ex (evn hlo) (evn hhi) rfl this) (.v _ _ (.str _))
  ·rename_i l k1 a hx hlo hhi
   cases hs
   have ex := inv_str (rd_rep (ds := []) h.sim h.pc hx)
   have hb := upB_spec (hob (upB a l.length = true) (by simp))
   obtain ⟨a', rfl⟩ := Int.eq_ofNat_of_zero_le hb.1
   have := run_slice_str (w := w) r rfl (l := l) (lo := some (.int k1 a')) (hi := none) (a := a') (b := l.length) (.inr ⟨_, rfl⟩) (.inl ⟨rfl, rfl⟩) (by omega) (by omega)
   simp at this
   exact yields_pure h.sim (exec_slice ho ex (ev hlo) (evn hhi) rfl this) (.v _ _ (.str _))
  ·rename_i l k2 b hx hlo hhi
   cases hs
   have ex := inv_str (rd_rep (ds := []) h.sim h.pc hx)
   have hb := upB_spec (hob (upB b l.length = true) (by simp))
   obtain ⟨b', rfl⟩ := Int.eq_ofNat_of_zero_le hb.1
   have := run_slice_str (w := w) r rfl (l := l) (lo := none) (hi := some (.int k2 b')) (a := 0) (b := b') (.inl ⟨rfl, rfl⟩) (.inr ⟨_, rfl⟩) (by omega) (by omega)
   simp at this
   exact yields_pure h.sim (exec_slice ho ex (evn hlo) (ev hhi) rfl this) (.v _ _ (.str _))
  ·rename_i l k1 a k2 b hx hlo hhi
   cases hs
   have ex := inv_str (rd_rep (ds := []) h.sim h.pc hx)
   have hb := loB_spec (hob (loB a b l.length = true) (by simp))
   obtain ⟨a', rfl⟩ := Int.eq_ofNat_of_zero_le hb.1
   obtain ⟨b', rfl⟩ := Int.eq_ofNat_of_zero_le (a := b) (by omega)
   have := run_slice_str (w := w) r rfl (l := l) (lo := some (.int k1 a')) (hi := some (.int k2 b')) (a := a') (b := b') (.inr ⟨_, rfl⟩) (.inr ⟨_, rfl⟩) (by omega) (by omega)
   exact yields_pure h.sim (exec_slice ho ex (ev hlo) (ev hhi) rfl this) (.v _ _ (.str _))
  ·cases hs
 ·rename_i e sz by_ z _ hl
  obtain ⟨r⟩ := tt_row h.tt hl
  split at hs
  ·rename_i k1 size by1 z1 k n get k2 a hl2 hx hlo hhi
   obtain ⟨re⟩ := tt_row h.tt hl2
   rw [Bool.cond_eq_ite] at hs
   split at hs
   case isFalse => cases hs
   rename_i hkk
   simp only [Nat.beq_eq] at hkk
   subst hkk
   have hor : ∃ (y : V) (rs : List RS) (ob : List Prop), f = { e := some { d := .v y }, rs, ob } ∧ VImp (.slc k (n - a.toNat) fun i => get (a.toNat + i)) y ∧ upB a n = true := by
    split at hs
    ·rename_i y rs hrs
     cases hs
     exact ⟨_, _, _, rfl, hob _ (by simp), hob (upB a n = true) (by simp)⟩
    ·cases hs
     exact ⟨_, _, _, rfl, fun _ _ h => h, hob (upB a n = true) (by simp)⟩
    ·cases hs
   obtain ⟨y, rs, ob, rfl, hv, hb⟩ := hor
   have hb := upB_spec hb
   obtain ⟨a', rfl⟩ := Int.eq_ofNat_of_zero_le hb.1
   have hrx := rd_rep (ds := []) h.sim h.pc hx
   obtain ⟨base, cap, ex, hnc⟩ := slc_shape hrx
   have := run_slice_slc (w := w) r rfl re (base := base) (n := n) (cap := cap) (lo := some (.int k2 a')) (hi := none) (a := a') (b := n) (.inr ⟨_, rfl⟩) (.inl ⟨rfl, rfl⟩) (by omega) (by omega) hnc
   refine yields_pure h.sim (exec_slice ho ex (ev hlo) (evn hhi) rfl this) (.v _ _ (hv _ _ ?_))
   have := slc_cut hrx (a := a') (b := n) (by omega) (by omega) ex hnc
   simpa using this
  ·rename_i k1 size by1 z1 k n get k2 b hl2 hx hlo hhi
   obtain ⟨re⟩ := tt_row h.tt hl2
   rw [Bool.cond_eq_ite] at hs
   split at hs
   case isFalse => cases hs
   rename_i hkk
   simp only [Nat.beq_eq] at hkk
   subst hkk
   have hor : ∃ (y : V) (rs : List RS) (ob : List Prop), f = { e := some { d := .v y }, rs, ob } ∧ VImp (.slc k b.toNat get) y ∧ upB b n = true := by
    split at hs
    ·rename_i y rs hrs
     cases hs
     exact ⟨_, _, _, rfl, hob _ (by simp), hob (upB b n = true) (by simp)⟩
    ·cases hs
     exact ⟨_, _, _, rfl, fun _ _ h => h, hob (upB b n = true) (by simp)⟩
    ·cases hs
   obtain ⟨y, rs, ob, rfl, hv, hb⟩ := hor
   have hb := upB_spec hb
   obtain ⟨b', rfl⟩ := Int.eq_ofNat_of_zero_le hb.1
   have hrx := rd_rep (ds := []) h.sim h.pc hx
   obtain ⟨base, cap, ex, hnc⟩ := slc_shape hrx
   have := run_slice_slc (w := w) r rfl re (base := base) (n := n) (cap := cap) (lo := none) (hi := some (.int k2 b')) (a := 0) (b := b') (.inl ⟨rfl, rfl⟩) (.inr ⟨_, rfl⟩) (by omega) (by omega) hnc
   refine yields_pure h.sim (exec_slice ho ex (evn hlo) (ev hhi) rfl this) (.v _ _ (hv _ _ ?_))
   have := slc_cut hrx (a := 0) (b := b') (by omega) (by omega) ex hnc
   simpa using this
  ·rename_i k1 size by1 z1 k n get k2 a k3 b hl2 hx hlo hhi
   obtain ⟨re⟩ := tt_row h.tt hl2
   rw [Bool.cond_eq_ite] at hs
   split at hs
   case isFalse => cases hs
   rename_i hkk
   simp only [Nat.beq_eq] at hkk
   subst hkk
   have hor : ∃ (y : V) (rs : List RS) (ob : List Prop), f = { e := some { d := .v y }, rs, ob } ∧ VImp (.slc k (b.toNat - a.toNat) fun i => get (a.toNat + i)) y ∧ loB a b n = true := by
    split at hs
    ·rename_i y rs hrs
     cases hs
     exact ⟨_, _, _, rfl, hob _ (by simp), hob (loB a b n = true) (by simp)⟩
    ·cases hs
     exact ⟨_, _, _, rfl, fun _ _ h => h, hob (loB a b n = true) (by simp)⟩
    ·cases hs
   obtain ⟨y, rs, ob, rfl, hv, hb⟩ := hor
   have hb := loB_spec hb
   obtain ⟨a', rfl⟩ := Int.eq_ofNat_of_zero_le hb.1
   obtain ⟨b', rfl⟩ := Int.eq_ofNat_of_zero_le (a := b) (by omega)
   have hrx := rd_rep (ds := []) h.sim h.pc hx
   obtain ⟨base, cap, ex, hnc⟩ := slc_shape hrx
   have := run_slice_slc (w := w) r rfl re (base := base) (n := n) (cap := cap) (lo := some (.int k2 a')) (hi := some (.int k3 b')) (a := a') (b := b') (.inr ⟨_, rfl⟩) (.inr ⟨_, rfl⟩) (by omega) (by omega) hnc
   refine yields_pure h.sim (exec_slice ho ex (ev hlo) (ev hhi) rfl this) (.v _ _ (hv _ _ ?_))
   have := slc_cut hrx (a := a') (b := b') (by omega) (by omega) ex hnc
   simpa using this
  ·rename_i k1 size by1 z1 k n get hl2 hx hlo hhi
   obtain ⟨re⟩ := tt_row h.tt hl2
   rw [Bool.cond_eq_ite] at hs
   split at hs
   case isFalse => cases hs
   rename_i hkk
   simp only [Nat.beq_eq] at hkk
   subst hkk
   cases hs
   have hrx := rd_rep (ds := []) h.sim h.pc hx
   obtain ⟨base, cap, ex, hnc⟩ := slc_shape hrx
   have := run_slice_slc (w := w) r rfl re (base := base) (n := n) (cap := cap) (lo := none) (hi := none) (a := 0) (b := n) (.inl ⟨rfl, rfl⟩) (.inl ⟨rfl, rfl⟩) (by omega) (by omega) hnc
   refine yields_pure h.sim (exec_slice ho ex (evn hlo) (evn hhi) rfl this) (.v _ _ ?_)
   have := slc_cut hrx (a := 0) (b := n) (by omega) (by omega) ex hnc
   simpa using this
  ·cases hs
 ·cases hs

theorem exec_len {c : Call} (ho : o.op = .call c) (hc : c.callee = .builtin .len) {a : Operand} (hargs : c.args.toList = [a]) {t : TypeId} (hty : c.argTypes.toList[0]? = some t) {va v : Value} (ha : (⟨tmps, []⟩ : Act).eval a = va)
  (h : ∀ ty, (Builtin.len_ #[t] ty #[va]).run P w = .ok v w) : (execOp (Act.eval ⟨tmps, []⟩) o).run P w = .ok (.value v) w := by
 have hargs' : c.args = #[a] := by apply Array.ext'; simpa using hargs
 have happ : ∀ ty, (Builtin.len_ c.argTypes ty #[va]).run P w = .ok v w := by
  intro ty
  have h0 : c.argTypes[0]? = some t := by simpa using hty
  have := h ty
  simp only [Builtin.len_, h0] at this ⊢
  exact this
 simp only [execOp, ho, resolve, hc, hargs', Sem.run_bind, Sem.run_pure, Result.andThen_ok, invoke, builtin, List.map_toArray, List.map_cons, List.map_nil, ha]
 simp [happ]

theorem renL_len {F : Nat → Option Nat} {l l' : List D} (h : renL F l = some l') : l'.length = l.length := (renL_get h).1.symm

theorem exec_call {c : Call} (ho : o.op = .call c) {x : Operand} (hc : c.callee = .value x) {fn : FuncId} {vs : List Value} (hx : (⟨tmps, []⟩ : Act).eval x = .func (.func fn) #[] ⟨vs⟩) {fd : Func} (hf : P.funcs[fn]? = some fd) (hb : fd.body.isSome = true) (hn : fd.name ≠ "runtime.NumGoroutine") :
  (execOp (Act.eval ⟨tmps, []⟩) o).run P w = .ok (.enter fn ⟨c.args.toList.map (⟨tmps, []⟩ : Act).eval ++ vs⟩) w := by
 have hbn : fd.body ≠ none := by intro hh; rw [hh] at hb; cases hb
 simp [execOp, ho, resolve, hc, hx, Deferred.ofValue, invoke, callFunc, hf, hbn, hn]

theorem rdL_get {F : TypeId → Operand → Option D} : ∀ {xs : List Operand} {ts : List TypeId} {ds : List D}, rdL F xs ts = some ds → ds.length = xs.length ∧ ∀ (i : Nat) x d, xs[i]? = some x → ds[i]? = some d → ∃ t, F t x = some d
 | [], ts, ds, h => by simp [rdL] at h; subst h; simp
 | x :: xs, [], ds, h => by simp [rdL] at h
 | x :: xs, t :: ts, ds, h => by
  simp only [rdL] at h
  split at h
  case h_2 => cases h
  rename_i d ds' hd hds
  cases h
  obtain ⟨h1, h2⟩ := rdL_get hds
  refine ⟨by simp [h1], fun i y e hy he => ?_⟩
  cases i with
  | zero => simp at hy he; subst hy; subst he; exact ⟨t, hd⟩
  | succ i => simp at hy he; exact h2 i y e hy he

mutual
theorem ren_back {ρ : List Nat} : ∀ (d : D) {d' : D}, ren (idx ρ) d = some d' → ren (fun j => ρ[j]?) d' = some d
 | .v x, d', h => by simp [ren] at h; subst h; simp [ren]
 | .ptr r off, d', h => by
  simp only [ren, Option.map_eq_some_iff] at h
  obtain ⟨j, hj, rfl⟩ := h
  simp [ren, idx_get hj]
 | .sptr r off u, d', h => by
  simp only [ren, Option.map_eq_some_iff] at h
  obtain ⟨j, hj, rfl⟩ := h
  simp [ren, idx_get hj]
 | .pin x, d', h => by simp [ren] at h; subst h; simp [ren]
 | .fn g caps, d', h => by
  simp only [ren, Option.map_eq_some_iff] at h
  obtain ⟨l, hl, rfl⟩ := h
  simp [ren, renL_back caps hl]
 | .agg cs, d', h => by
  simp only [ren, Option.map_eq_some_iff] at h
  obtain ⟨l, hl, rfl⟩ := h
  simp [ren, renL_back cs hl]
 | .tup cs, d', h => by
  simp only [ren, Option.map_eq_some_iff] at h
  obtain ⟨l, hl, rfl⟩ := h
  simp [ren, renL_back cs hl]
theorem renL_back {ρ : List Nat} : ∀ (l : List D) {l' : List D}, renL (idx ρ) l = some l' → renL (fun j => ρ[j]?) l' = some l
 | [], l', h => by simp [renL] at h; subst h; simp [renL]
 | d :: l, l', h => by
  simp only [renL] at h
  split at h
  case h_2 => cases h
  rename_i d1 l1 hd hl
  cases h
  simp [renL, ren_back d hd, renL_back l hl]
end
theorem renEs_back {ρ : List Nat} : ∀ {b b' : List Ent}, renEs (idx ρ) b = some b' → renEs (fun j => ρ[j]?) b' = some b
 | [], b', h => by simp [renEs] at h; subst h; simp [renEs]
 | e :: l, b', h => by
  simp only [renEs] at h
  split at h
  case h_2 => cases h
  rename_i e1 l1 he hl
  cases h
  simp only [renE, Option.map_eq_some_iff] at he
  obtain ⟨d, hd, rfl⟩ := he
  simp [renEs, renE, ren_back _ hd, renEs_back hl]
theorem renBoxes_back {ρ : List Nat} : ∀ {bs bs' : List (List Ent)}, renBoxes (idx ρ) bs = some bs' → renBoxes (fun j => ρ[j]?) bs' = some bs
 | [], bs', h => by simp [renBoxes] at h; subst h; simp [renBoxes]
 | b :: l, bs', h => by
  simp only [renBoxes] at h
  split at h
  case h_2 => cases h
  rename_i b1 l1 hb hl
  cases h
  simp [renBoxes, renEs_back hb, renBoxes_back hl]

theorem caller_sim0 {st : St} (h : SimAt P K M β st tmps w) {ρ : List Nat} {bs H1 : List (List Ent)} (hn : nodupB ρ = true) (hbs : boxes st.H ρ = some bs) (hH1 : renBoxes (idx ρ) bs = some H1)
  {os : List Nat} {out : Out} {v : Value} {w' : World} {M' : Mem} {β' : Nat → Option Nat} (hpost : SimAt P (callCtx M β st tmps w ρ os) M' β' { env := resEnv out, H := enumFrom' 0 H1, nxt := ρ.length } #[v] w') :
  M.le M' ∧ SimAt P K M' β { st with env := clrEnv os st.env } tmps w' ∧
  (∀ d own, out = .ret d own → ∀ d', ren (fun j => ρ[j]?) d = some d' → RepD M' β v d' ∧ ∀ T l0, own = some T → NewOwn P K M' β { st with env := clrEnv os st.env } tmps w' l0 v T) ∧
  (∀ x, out = .pan x → RepV M' v x) := by
 obtain ⟨hb1, hb2⟩ := boxes_get hbs
 have hl1 : H1.length = ρ.length := by rw [(renBoxes_get hH1).1, hb1]
 obtain ⟨h1, h2, h3, h4⟩ := caller_sim h hn hbs (renBoxes_back hH1) hl1 hpost
 have hlook : ∀ r, look (zipR ρ bs ++ st.H) r = look st.H r := by
  intro r
  obtain ⟨h5, h6⟩ := look_zipR (H := st.H) (ρ := ρ) (bs := bs) hb1 hn r
  by_cases hj : ∃ (j : Nat), ρ[j]? = some r
  ·obtain ⟨j, hj⟩ := hj; rw [h5 j hj, (hb2 j r hj).1]
  ·exact h6 fun j hh => hj ⟨j, hh⟩
 have hat : ∀ l, ({ env := clrEnv os st.env, H := zipR ρ bs ++ st.H, nxt := st.nxt } : St).at l = ({ st with env := clrEnv os st.env } : St).at l := by
  intro l
  cases l with
  | slot s => rfl
  | cell r i => simp only [St.at, hlook]
 refine ⟨h1, h2.sub rfl (fun l e hl => ⟨e, by rw [hat]; exact hl, rfl, fun _ h => h⟩) (fun r cs hr => ⟨cs, by rw [← hr]; exact hlook r, rfl⟩), fun d own hd d' hd' => ?_, h4⟩
 obtain ⟨h5, h6⟩ := h3 d own hd d' hd'
 refine ⟨h5, fun T l0 hT => ?_⟩
 obtain ⟨h7, h8, h9⟩ := h6 T l0 hT
 exact ⟨h7, fun l e T' b hl => h8 l e T' b (by rw [hat]; exact hl), fun b r cs hb hr => h9 b r cs hb (by rw [← hr]; exact hlook r)⟩

def CallRes (P : Program) (K : Ctx) (M : Mem) (β : Nat → Option Nat) (g : Rg) (s : Stp) (o : Oper) (tmps : Array Value) (w : World) : Prop :=
 match s with
 | .go f => (∀ q, q ∈ f.ob → q) → Yields P K M β g f o tmps w
 | .pan x hs ob => (∀ q, q ∈ ob → q) → Panics P K M β g x hs o tmps w

theorem clr_env {os : List Nat} {env : List (Nat × Ent)} {s : Nat} {e : Ent} (h : look env s = some e) : ∃ e0, look (clrEnv os env) s = some e0 ∧ e0.d = e.d := by
 rw [look_clrEnv, h]
 split
 ·exact ⟨_, rfl, rfl⟩
 ·exact ⟨_, rfl, rfl⟩
theorem handed_ok {g : Rg} (h : SimG P K N M β g tmps w) {xs : List Operand} {ts : List TypeId} : ∀ {os : List Nat} {hd : List (Nat × Option Nat × TypeId)}, handed tt g xs ts os = some hd → ∀ {vs : List Value},
  (∀ (i : Nat) t, xs[i]? = some (.tmp t) → vs[i]? = some (tmps.getD t undef)) → (∀ (i : Nat), xs[i]? = some (.const (.slice none 0 0)) → vs[i]? = some (.slice none 0 0)) →
  Handed { env := g.env, H := g.H, nxt := g.nxt } tmps vs hd
 | [], hd, hh, vs, _, _ => by
  simp [handed] at hh
  subst hh
  exact ⟨by simp, by simp, by simp⟩
 | i :: os, hd, hh, vs, h1, h2 => by
  simp only [handed] at hh
  split at hh
  ·rename_i t l hx hl
   have ih := handed_ok h hl h1 h2
   split at hh
   case h_2 => cases hh
   rename_i d e he
   rw [Bool.cond_eq_ite] at hh
   split at hh
   case isFalse => cases hh
   rename_i hc
   simp only [Bool.and_eq_true, List.all_eq_true, Bool.not_eq_true'] at hc
   cases hh
   refine ⟨fun i' t' T hm => ?_, fun i' T hm => ?_, fun i' j' t' T T' hm hm' => ?_⟩
   ·rcases List.mem_cons.1 hm with hm | hm
    ·cases hm
     exact ⟨_, he, rfl, h1 i t hx⟩
    ·exact ih.some i' t' T hm
   ·rcases List.mem_cons.1 hm with hm | hm
    ·cases hm
    ·exact ih.none i' T hm
   ·rcases List.mem_cons.1 hm with hm | hm <;> rcases List.mem_cons.1 hm' with hm' | hm'
    ·cases hm; cases hm'; rfl
    ·cases hm
     have := (hc.2 _ hm').1
     simp at this
    ·cases hm'
     have := (hc.2 _ hm).1
     simp at this
    ·exact ih.inj i' j' t' T T' hm hm'
  ·rename_i l hx hl
   have ih := handed_ok h hl h1 h2
   split at hh
   case h_2 => cases hh
   rename_i e sz by_ z _ he
   rw [Bool.cond_eq_ite] at hh
   split at hh
   case isFalse => cases hh
   cases hh
   refine ⟨fun i' t' T hm => ?_, fun i' T hm => ?_, fun i' j' t' T T' hm hm' => ?_⟩
   ·rcases List.mem_cons.1 hm with hm | hm
    ·cases hm
    ·exact ih.some i' t' T hm
   ·rcases List.mem_cons.1 hm with hm | hm
    ·cases hm; exact h2 i hx
    ·exact ih.none i' T hm
   ·rcases List.mem_cons.1 hm with hm | hm <;> rcases List.mem_cons.1 hm' with hm' | hm'
    ·cases hm
    ·cases hm
    ·cases hm'
    ·exact ih.inj i' j' t' T T' hm hm'
  ·cases hh

theorem call_go (h : Hyp P K N M β g tmps w p tt) {c : Call} (ho : o.op = .call c) {x : Operand} (hc : c.callee = .value x) {fn : FuncId} {caps ds : List D} (hx : rd g.env g.cenv p tt o.type x = some (.fn fn caps))
  (hds : rdL (rd g.env g.cenv p tt) c.args.toList c.argTypes.toList = some ds) {s : Stp} (hs : callStep (saysC P) tt g p c.args.toList c.argTypes.toList fn (ds ++ caps) = some s) :
  CallRes P K M β g s o tmps w := by
 obtain ⟨vs, hv, hlen, hr⟩ := inv_fn (rd_rep (ds := []) h.sim h.pc hx)
 obtain ⟨hd1, hd2⟩ := rdL_get hds
 have hargs : ∀ (i : Nat) v d, (c.args.toList.map (⟨tmps, []⟩ : Act).eval ++ vs)[i]? = some v → (ds ++ caps)[i]? = some d → RepD M β v d := by
  intro i v d hvi hdi
  by_cases hi : i < c.args.toList.length
  ·rw [List.getElem?_append_left (by simpa using hi), List.getElem?_map, Option.map_eq_some_iff] at hvi
   obtain ⟨y, hy, rfl⟩ := hvi
   rw [List.getElem?_append_left (by omega)] at hdi
   obtain ⟨ty, hty⟩ := hd2 i y d hy hdi
   exact rd_rep h.sim h.pc hty
  ·rw [List.getElem?_append_right (by simp; simp at hi; omega)] at hvi
   rw [List.getElem?_append_right (by omega)] at hdi
   refine hr _ v d hvi ?_
   rw [hd1] at hdi
   simpa using hdi
 have hlen2 : (c.args.toList.map (⟨tmps, []⟩ : Act).eval ++ vs).length = (ds ++ caps).length := by simp at hd1 ⊢; omega
 unfold callStep at hs
 dsimp only at hs
 generalize hρ : refsClosed g.H 2 (dedup ((ds ++ caps).flatMap refs)) = ρ at hs
 split at hs
 case h_2 => cases hs
 rename_i out H2 os rs hrs
 split at hs
 case h_2 => cases hs
 rename_i args' H1 hd ha' hH1 hhd
 rw [Option.bind_eq_some_iff] at hH1
 obtain ⟨bs, hbs, hH1⟩ := hH1
 rw [Bool.cond_eq_ite] at hs
 split at hs
 ·cases hs
 rename_i hnd
 have hn : nodupB ρ = true := by
  have : (!nodupB ρ || !(List.isEmpty p || List.isEmpty os)) = false := by simpa using hnd
  simp only [Bool.or_eq_false_iff, Bool.not_eq_false'] at this
  exact this.1
 have hH := handed_ok h.sim hhd (vs := c.args.toList.map (⟨tmps, []⟩ : Act).eval ++ vs) (fun i t ht => by
  rw [List.getElem?_append_left (by simpa using (List.getElem?_eq_some_iff.1 ht).1), List.getElem?_map, ht]; rfl) (fun i ht => by
  rw [List.getElem?_append_left (by simpa using (List.getElem?_eq_some_iff.1 ht).1), List.getElem?_map, ht]; rfl)
 have hcs := callee_sim (st := { env := g.env, H := g.H, nxt := g.nxt }) h.sim.sim hn hbs hH1 hlen2 hargs ha' hH
 have hl1 : H1.length = ρ.length := by rw [(renBoxes_get hH1).1, (boxes_get hbs).1]
 -- what the contract gives, whatever the boxes behind it
 have key : ∀ {Hx : List (List Ent)}, saysOf P fn args' (hdOw hd) H1 out Hx → (execOp (Act.eval ⟨tmps, []⟩) o).run P w = .ok (.enter fn ⟨c.args.toList.map (⟨tmps, []⟩ : Act).eval ++ vs⟩) w ∧
   Calls P fn ⟨c.args.toList.map (⟨tmps, []⟩ : Act).eval ++ vs⟩ w fun e w' => ∃ v M' β', e = endOf out v ∧
    SimAt P (callCtx M β { env := g.env, H := g.H, nxt := g.nxt } tmps w ρ (hdClr hd)) M' β' { env := resEnv out, H := enumFrom' 0 Hx, nxt := ρ.length } #[v] w' := by
  intro Hx hsay
  obtain ⟨⟨fd, hfd, hbody, hname⟩, hcon⟩ := hsay
  refine ⟨exec_call ho hc hv hfd hbody hname, (hcon _ w _ M _ (by rw [hlen2, renL_len ha']) hcs (fun r b hb => hb)).mono ?_⟩
  rintro e w' ⟨o', H', v, M', β', ⟨rfl, rfl⟩, he, hsim⟩
  rw [hl1] at hsim
  exact ⟨v, M', β', he, hsim⟩
 -- the boxes as they were, named anew and back
 have back : ∀ {Hx Hx' : List (List Ent)}, renBoxes (fun j => ρ[j]?) Hx = some Hx' → Hx.length = ρ.length → ∀ {v : Value} {w' : World} {M' : Mem} {β' : Nat → Option Nat},
   SimAt P (callCtx M β { env := g.env, H := g.H, nxt := g.nxt } tmps w ρ (hdClr hd)) M' β' { env := resEnv out, H := enumFrom' 0 Hx, nxt := ρ.length } #[v] w' → _ :=
  fun hx hl _ _ _ _ hp => caller_sim (st := { env := g.env, H := g.H, nxt := g.nxt }) h.sim.sim hn hbs hx hl hp
 have back0 : ∀ {v : Value} {w' : World} {M' : Mem} {β' : Nat → Option Nat},
   SimAt P (callCtx M β { env := g.env, H := g.H, nxt := g.nxt } tmps w ρ (hdClr hd)) M' β' { env := resEnv out, H := enumFrom' 0 H1, nxt := ρ.length } #[v] w' →
   M.le M' ∧ SimAt P K M' β { env := clrEnv (hdClr hd) g.env, H := g.H, nxt := g.nxt } tmps w' ∧
   (∀ d own, out = .ret d own → ∀ d', ren (fun j => ρ[j]?) d = some d' → RepD M' β v d' ∧ ∀ T l0, own = some T → NewOwn P K M' β { env := clrEnv (hdClr hd) g.env, H := g.H, nxt := g.nxt } tmps w' l0 v T) ∧
   (∀ x, out = .pan x → RepV M' v x) := by
  intro v w' M' β' hp
  exact caller_sim0 (st := { env := g.env, H := g.H, nxt := g.nxt }) h.sim.sim hn hbs hH1 hp
 cases out with
 | ret d own =>
  cases H2 with
  | none =>
   simp only [Option.map_eq_some_iff] at hs
   obtain ⟨d', hd', rfl⟩ := hs
   intro hob
   obtain ⟨h1, h2⟩ := key (hob _ (List.mem_singleton.2 rfl))
   refine .inr (.inr ⟨fn, _, h1, h2.mono ?_⟩)
   rintro e w' ⟨v, M', β', he, hp⟩
   obtain ⟨hM, hsim, hret, _⟩ := back0 hp
   refine ⟨v, he, M', β, hM, fun _ _ h => h, fun _ _ h => .inl h, hsim, fun e1 he1 => ?_⟩
   cases he1
   exact hret d own rfl d' hd'
  | some H2 =>
   dsimp only at hs
   split at hs
   case h_2 => cases hs
   rename_i d' H2' hd' hH2
   rw [Bool.cond_eq_ite] at hs
   split at hs
   case isFalse => cases hs
   rename_i hl
   cases hs
   intro hob
   obtain ⟨h1, h2⟩ := key (hob _ (List.mem_singleton.2 rfl))
   refine .inr (.inr ⟨fn, _, h1, h2.mono ?_⟩)
   rintro e w' ⟨v, M', β', he, hp⟩
   obtain ⟨hM, hsim, hret, _⟩ := back hH2 (by simpa using hl) hp
   refine ⟨v, he, M', β, hM, fun _ _ h => h, fun _ _ h => .inl h, hsim, fun e1 he1 => ?_⟩
   cases he1
   exact hret d own rfl d' hd'
 | pan x =>
  cases H2 with
  | none =>
   cases hs
   intro hob
   obtain ⟨h1, h2⟩ := key (hob _ (List.mem_singleton.2 rfl))
   refine .inr ⟨fn, _, h1, h2.mono ?_⟩
   rintro e w' ⟨v, M', β', he, hp⟩
   obtain ⟨hM, hsim, _, hpan⟩ := back0 hp
   exact ⟨v, M', he, hpan x rfl, hsim.noOwn fun s e he => clr_env he⟩
  | some H2 =>
   dsimp only at hs
   split at hs
   case h_2 => cases hs
   rename_i H2' hH2
   rw [Bool.cond_eq_ite] at hs
   split at hs
   case isFalse => cases hs
   rename_i hl
   cases hs
   intro hob
   obtain ⟨h1, h2⟩ := key (hob _ (List.mem_singleton.2 rfl))
   refine .inr ⟨fn, _, h1, h2.mono ?_⟩
   rintro e w' ⟨v, M', β', he, hp⟩
   obtain ⟨hM, hsim, _, hpan⟩ := back hH2 (by simpa using hl) hp
   exact ⟨v, M', he, hpan x rfl, hsim.noOwn fun s e he => clr_env he⟩
end
end Go.Ab

/-
 AN ABSTRACT MACHINE OVER PURE STATES, part 17: the run of a region is sound.
-/
namespace Go.Ab
section
variable {P : Program} {K : Ctx} {N : Nat} {M : Mem} {β : Nat → Option Nat} {st : St} {g : Rg} {tmps : Array Value} {w : World} {o : Oper} {f : Eff} {p : Path} {tt : TT} {ops : List Oper}

theorem st_len (h : Hyp P K N M β g tmps w p tt) {c : Call} (ho : o.op = .call c) (hc : c.callee = .builtin .len) {d : D} (hd : mapM' (fun y => rd g.env g.cenv p tt o.type y) c.args.toList = some [d]) {ti : TI}
  (hl : (c.argTypes.toList[0]?).bind (look tt) = some ti) {n : Nat} (hk : (∃ l, d = .v (.str l) ∧ ti.k = .str ∧ n = l.length) ∨ (∃ k get e, d = .v (.slc k n get) ∧ ti.k = .slc e)) :
  Yields P K M β g { e := some { d := .v (.int .i64 n) }, rs := g.rs } o tmps w := by
 obtain ⟨hd1, hd2⟩ := mapM'_get hd
 rw [Option.bind_eq_some_iff] at hl
 obtain ⟨t, ht, hl⟩ := hl
 obtain ⟨r⟩ := tt_row h.tt hl
 obtain ⟨a, ha⟩ : ∃ a, c.args.toList = [a] := by
  cases hcl : c.args.toList with
  | nil => rw [hcl] at hd1; simp at hd1
  | cons a l =>
   rw [hcl] at hd1
   simp at hd1
   exact ⟨a, by rw [hd1]⟩
 have hra := rd_rep (ds := []) h.sim h.pc (hd2 0 a d (by rw [ha]; rfl) rfl)
 rcases hk with ⟨l, rfl, hk, rfl⟩ | ⟨k, get, e, rfl, hk⟩
 ·have ea := inv_str hra
  refine yields_pure h.sim (exec_len ho hc ha ht ea (fun ty => ?_)) (.v _ _ (.int _ _))
  have hs : (⟨⟨l⟩⟩ : ByteArray).size = l.length := rfl
  simp [Builtin.len_, r.run_underlying, desc_str r hk, goInt, hs]
 ·obtain ⟨base, cap, ea, _⟩ := slc_shape hra
  refine yields_pure h.sim (exec_len ho hc ha ht ea (fun ty => ?_)) (.v _ _ (.int _ _))
  simp [Builtin.len_, r.run_underlying, desc_slc r hk, goInt]

theorem st_min (h : Hyp P K N M β g tmps w p tt) {c : Call} (ho : o.op = .call c) (hc : c.callee = .builtin .min) {k : IntKind} {a b : Int} (hd : mapM' (fun y => rd g.env g.cenv p tt o.type y) c.args.toList = some [.v (.int k a), .v (.int k b)]) :
  Yields P K M β g { e := some { d := .v (.int k (bif decide (b < a) then b else a)) }, rs := g.rs } o tmps w := by
 obtain ⟨hd1, hd2⟩ := mapM'_get hd
 obtain ⟨x, y, hxy⟩ : ∃ x y, c.args.toList = [x, y] := by
  cases hcl : c.args.toList with
  | nil => rw [hcl] at hd1; simp at hd1
  | cons x l =>
   cases l with
   | nil => rw [hcl] at hd1; simp at hd1
   | cons y l =>
    rw [hcl] at hd1
    simp at hd1
    exact ⟨x, y, by rw [hd1]⟩
 have ex := inv_int (rd_rep (ds := []) h.sim h.pc (hd2 0 x _ (by rw [hxy]; rfl) rfl))
 have ey := inv_int (rd_rep (ds := []) h.sim h.pc (hd2 1 y _ (by rw [hxy]; rfl) rfl))
 have hargs' : c.args = #[x, y] := by apply Array.ext'; simpa using hxy
 refine yields_pure h.sim (v := .int k (bif decide (b < a) then b else a)) ?_ (.v _ _ (.int _ _))
 simp only [execOp, ho, resolve, hc, hargs', Sem.run_bind, Sem.run_pure, Result.andThen_ok, invoke, builtin, List.map_toArray, List.map_cons, List.map_nil, ex, ey]
 by_cases hab : b < a <;> simp [Builtin.min_, Builtin.min2, hab]

theorem st_max (h : Hyp P K N M β g tmps w p tt) {c : Call} (ho : o.op = .call c) (hc : c.callee = .builtin .max) {k : IntKind} {a b : Int} (hd : mapM' (fun y => rd g.env g.cenv p tt o.type y) c.args.toList = some [.v (.int k a), .v (.int k b)]) :
  Yields P K M β g { e := some { d := .v (.int k (bif decide (a < b) then b else a)) }, rs := g.rs } o tmps w := by
 obtain ⟨hd1, hd2⟩ := mapM'_get hd
 obtain ⟨x, y, hxy⟩ : ∃ x y, c.args.toList = [x, y] := by
  cases hcl : c.args.toList with
  | nil => rw [hcl] at hd1; simp at hd1
  | cons x l =>
   cases l with
   | nil => rw [hcl] at hd1; simp at hd1
   | cons y l =>
    rw [hcl] at hd1
    simp at hd1
    exact ⟨x, y, by rw [hd1]⟩
 have ex := inv_int (rd_rep (ds := []) h.sim h.pc (hd2 0 x _ (by rw [hxy]; rfl) rfl))
 have ey := inv_int (rd_rep (ds := []) h.sim h.pc (hd2 1 y _ (by rw [hxy]; rfl) rfl))
 have hargs' : c.args = #[x, y] := by apply Array.ext'; simpa using hxy
 refine yields_pure h.sim (v := .int k (bif decide (a < b) then b else a)) ?_ (.v _ _ (.int _ _))
 simp only [execOp, ho, resolve, hc, hargs', Sem.run_bind, Sem.run_pure, Result.andThen_ok, invoke, builtin, List.map_toArray, List.map_cons, List.map_nil, ex, ey]
 by_cases hab : a < b <;> simp [Builtin.max_, Builtin.max2, hab]

theorem st_typeAssert (h : Hyp P K N M β g tmps w p tt) {says : CallSays} {x : Operand} {s t : TypeId} {ok : Bool} (ho : o.op = .typeAssert x s t ok) (hs : step1 says tt ops g p o = some (.go f)) : Yields P K M β g f o tmps w := by
 simp only [step1, ho] at hs
 split at hs
 case h_2 => cases hs
 rename_i t' y k sz by_ z _ hx hl
 obtain ⟨r⟩ := tt_row h.tt hl
 have hr := rd_rep (ds := []) h.sim h.pc hx
 obtain ⟨u, hv, hu⟩ := inv_iface hr
 have hni : k ≠ .ifc := by rintro rfl; simp at hs
 have hdesc : ∀ i, r.desc ≠ .interface i := by
  intro i hd
  have := r.hk
  rw [hd] at this
  simp [tkOf] at this
  exact hni this.symm
 have hs' : (bif Nat.beq t' t then (some (Stp.go { e := some { d := (bif ok then .tup [.v y, .v (.bool true)] else .v y) }, rs := g.rs })) else none) = some (.go f) := by
  cases k <;> first | exact (hni rfl).elim | exact hs
 rw [Bool.cond_eq_ite] at hs'
 split at hs'
 case isFalse => cases hs'
 rename_i hb
 have hb' : t' = t := by simpa using hb
 subst hb'
 cases hs'
 have hrun : (Instr.typeAssert (.iface t' u) s t' ok).run P w = .ok (bif ok then .tuple #[u, .bool true] else u) w := by
  unfold Instr.typeAssert
  simp only [Sem.run_bind, r.run_underlying, Result.andThen_ok]
  cases hd : r.desc <;> first | exact (hdesc _ hd).elim | (cases ok <;> simp)
 refine yields_pure h.sim (v := bif ok then .tuple #[u, .bool true] else u) ?_ ?_
 ·simp only [execOp, ho, hv]; exact runv _ hrun
 ·cases ok
  ·exact .v _ _ hu
  ·refine .tup [u, .bool true] _ rfl fun i v c hv hc => ?_
   match i with
   | 0 => simp at hv hc; subst hv; subst hc; exact .v _ _ hu
   | 1 => simp at hv hc; subst hv; subst hc; exact .v _ _ (.bool _)
   | i + 2 => simp at hv

theorem step_ok (h : Hyp P K N M β g tmps w p tt) {s : Stp} (hs : step1 (saysC P) tt ops g p o = some s) : CallRes P K M β g s o tmps w := by
 cases ho : o.op with
 | move x => cases s with
  | go f => exact fun _ => st_move h ho hs
  | pan x hs' ob => simp only [step1, ho] at hs; repeat' (first | (split at hs) | (rw [Bool.cond_eq_ite] at hs) | (cases hs; done))
 | assign x => cases s with
  | go f => exact fun _ => st_assign h ho hs
  | pan x hs' ob => simp only [step1, ho] at hs; repeat' (first | (split at hs) | (rw [Bool.cond_eq_ite] at hs) | (cases hs; done))
 | pick c a b =>
  cases c with
  | tmp c => cases s with
   | go f => exact fun _ => st_pick h ho hs
   | pan x hs' ob => simp only [step1, ho] at hs; repeat' (first | (split at hs) | (simp at hs; done))
  | _ => simp [step1, ho] at hs
 | alloc t => cases s with
  | go f => exact fun _ => st_alloc h ho hs
  | pan x hs' ob => simp only [step1, ho] at hs; repeat' (first | (split at hs) | (cases hs; done))
 | box t x => cases s with
  | go f => exact fun _ => st_box h ho hs
  | pan x hs' ob => simp only [step1, ho] at hs; repeat' (first | (split at hs) | (rw [Bool.cond_eq_ite] at hs) | (cases hs; done))
 | build t parts => cases s with
  | go f => exact fun _ => st_build h ho hs
  | pan x hs' ob => simp only [step1, ho] at hs; repeat' (first | (split at hs) | (rw [Bool.cond_eq_ite] at hs) | (simp at hs; done) | (cases hs; done))
 | buildSlice t len parts => cases s with
  | go f => exact fun hob => st_buildSlice h ho hs hob
  | pan x hs' ob => simp only [step1, ho] at hs; repeat' (first | (split at hs) | (rw [Bool.cond_eq_ite] at hs) | (cases hs; done))
 | load t a => cases s with
  | go f => exact fun _ => st_load h ho hs
  | pan x hs' ob => simp only [step1, ho] at hs; repeat' (first | (split at hs) | (rw [Bool.cond_eq_ite] at hs) | (simp at hs; done) | (cases hs; done))
 | store t a x => cases s with
  | go f => exact fun _ => st_store h ho hs
  | pan x hs' ob => simp only [step1, ho] at hs; repeat' (first | (split at hs) | (rw [Bool.cond_eq_ite] at hs) | (cases hs; done))
 | nilCheck x => cases s with
  | go f => exact fun _ => st_nilCheck h ho hs
  | pan x hs' ob => simp only [step1, ho] at hs; repeat' (first | (split at hs) | (simp at hs; done))
 | binOp op t x y t2 => cases s with
  | go f => exact fun hob => st_binOp h ho hs hob
  | pan x hs' ob => simp only [step1, ho] at hs; repeat' (first | (split at hs) | (rw [Bool.cond_eq_ite] at hs) | (simp at hs; done))
 | unOp op t x => cases s with
  | go f => exact fun _ => st_unOp h ho hs
  | pan x hs' ob => simp only [step1, ho] at hs; repeat' (first | (split at hs) | (simp at hs; done))
 | convert a b x => cases s with
  | go f => exact fun hob => st_convert h ho hs hob
  | pan x hs' ob => simp only [step1, ho] at hs; repeat' (first | (split at hs) | (simp at hs; done))
 | makeInterface t x => cases s with
  | go f => exact fun _ => st_makeInterface h ho hs
  | pan x hs' ob => simp only [step1, ho] at hs; repeat' (first | (split at hs) | (simp at hs; done))
 | makeFunc fn first caps =>
  cases fn with
  | func fn => cases s with
   | go f => exact fun _ => st_makeFunc h ho hs
   | pan x hs' ob => simp only [step1, ho] at hs; rw [Bool.cond_eq_ite] at hs; split at hs <;> simp at hs
  | _ => simp [step1, ho] at hs
 | slice t x lo hi mx => cases s with
  | go f => exact fun hob => st_slice h ho hs hob
  | pan x hs' ob => simp only [step1, ho] at hs; repeat' (first | (split at hs) | (rw [Bool.cond_eq_ite] at hs) | (simp at hs; done))
 | fieldAddr a x i => cases s with
  | go f => exact fun _ => st_fieldAddr h ho hs
  | pan x hs' ob => simp only [step1, ho] at hs; repeat' (first | (split at hs) | (rw [Bool.cond_eq_ite] at hs) | (simp at hs; done))
 | field a x i => cases s with
  | go f => exact fun _ => st_field h ho hs
  | pan x hs' ob => simp only [step1, ho] at hs; repeat' (first | (split at hs) | (rw [Bool.cond_eq_ite] at hs) | (simp at hs; done))
 | indexAddr t x i => cases s with
  | go f => exact fun hob => st_indexAddr h ho hs hob
  | pan x hs' ob => simp only [step1, ho] at hs; repeat' (first | (split at hs) | (rw [Bool.cond_eq_ite] at hs) | (simp at hs; done))
 | index t x i => cases s with
  | go f => exact fun hob => st_index h ho hs hob
  | pan x hs' ob => simp only [step1, ho] at hs; repeat' (first | (split at hs) | (simp at hs; done))
 | typeAssert x a t ok => cases s with
  | go f => exact fun _ => st_typeAssert h ho hs
  | pan x hs' ob => simp only [step1, ho] at hs; repeat' (first | (split at hs) | (rw [Bool.cond_eq_ite] at hs) | (simp at hs; done) | (cases hs; done))
 | extract x i => cases s with
  | go f => exact fun _ => st_extract h ho hs
  | pan x hs' ob => simp only [step1, ho] at hs; repeat' (first | (split at hs) | (simp at hs; done))
 | call c =>
  simp only [step1, ho] at hs
  split at hs
  ·rename_i x hcal
   split at hs
   case h_2 => cases hs
   rename_i fn caps ds hx hds
   exact call_go h ho hcal hx hds hs
  ·rename_i hcal
   split at hs
   ·rename_i l _ _ _ _ hd hl
    cases hs
    exact fun _ => st_len h ho hcal hd hl (.inl ⟨l, rfl, rfl, rfl⟩)
   ·rename_i k n get _ _ _ _ _ hd hl
    cases hs
    exact fun _ => st_len h ho hcal hd hl (.inr ⟨k, get, _, rfl, rfl⟩)
   ·cases hs
  ·rename_i hcal
   split at hs
   case h_2 => cases hs
   rename_i t x e sz1 by1 z1 _ t2 hargs hl1 hl2
   split at hs
   case h_2 => cases hs
   rename_i te k n get d2 dd e' y rs hle hs1 hd2 hent hrs
   rw [Bool.cond_eq_ite] at hs
   split at hs
   case isFalse => cases hs
   rename_i hc
   simp only [Bool.and_eq_true, Nat.beq_eq, Nat.ble_eq] at hc
   obtain ⟨⟨⟨⟨rfl, rfl⟩, hp1⟩, hp2⟩, hpe⟩ := hc
   rw [Option.bind_eq_some_iff] at hl1 hl2
   obtain ⟨ty1, hty1, hl1⟩ := hl1
   obtain ⟨ty2, hty2, hl2⟩ := hl2
   have hr2 := rd_rep (ds := []) h.sim h.pc hd2
   split at hs
   ·rename_i k2 m get2 e2 hk2
    rw [Bool.cond_eq_ite] at hs
    split at hs
    case isFalse => cases hs
    rename_i hkk
    simp only [Nat.beq_eq] at hkk
    subst hkk
    cases hs
    intro hob
    obtain ⟨news, hsrc, hel⟩ := src_slice h.sim.sim h.tt hl2 hk2 hr2
    exact ok_append h.sim h.pc h.tt hl1 rfl hle ho hcal hargs hty1 hty2 hs1 hent rfl hp2 hsrc hel (room_spec (hob (room (n + m) te.bytes = true) (by simp))) (hob (VImp _ y) (by simp))
   ·rename_i l hk2
    rw [Bool.cond_eq_ite] at hs
    split at hs
    case isFalse => cases hs
    rename_i hkk
    simp only [Nat.beq_eq] at hkk
    cases hs
    intro hob
    have hr3 := inv_str hr2
    obtain ⟨news, hsrc, hel⟩ := src_string (P := P) (w := w) h.tt hl2 hk2 l M
    rw [← hr3, ← hkk] at hsrc
    rw [← hkk] at hel
    exact ok_append h.sim h.pc h.tt hl1 rfl hle ho hcal hargs hty1 hty2 hs1 hent rfl hp2 hsrc hel (room_spec (hob (room (n + l.length) te.bytes = true) (by simp))) (hob (VImp _ y) (by simp))
   ·cases hs
  ·rename_i hcal
   split at hs
   ·rename_i k a k2 b hd
    rw [Bool.cond_eq_ite] at hs
    split at hs
    case isFalse => cases hs
    rename_i hk
    have hk' : k = k2 := by simpa using hk
    subst hk'
    cases hs
    exact fun _ => st_min h ho hcal hd
   ·cases hs
  ·rename_i hcal
   split at hs
   ·rename_i k a k2 b hd
    rw [Bool.cond_eq_ite] at hs
    split at hs
    case isFalse => cases hs
    rename_i hk
    have hk' : k = k2 := by simpa using hk
    subst hk'
    cases hs
    exact fun _ => st_max h ho hcal hd
   ·cases hs
  ·cases hs
 | panic x => cases s with
  | go f => simp only [step1, ho] at hs; repeat' (first | (split at hs) | (simp at hs; done))
  | pan y hs' ob =>
   simp only [step1, ho] at hs
   split at hs
   case h_2 => cases hs
   rename_i t z hd
   cases hs
   intro _
   have hr := rd_rep (ds := []) h.sim h.pc hd
   obtain ⟨u, hv, hu⟩ := inv_iface hr
   refine .inl ⟨.iface t u, ?_, .iface t u z hu, rfl⟩
   simp [execOp, ho, hv, Instr.panic]
 | _ => simp [step1, ho] at hs
end
end Go.Ab

/-
 AN ABSTRACT MACHINE OVER PURE STATES, part 18: the run of a region in the text's order is sound.
-/
namespace Go.Ab

inductive AE where
 | normal
 | exit (id : Nat)
 | ret
 | pan (x : V)

def SimE (P : Program) (K : Ctx) (N : Nat) (ae : AE) (st : St) (e : Exit) (a : Act) (w : World) : Prop :=
 match ae with
 | .normal => e = .normal ∧ a.defers = K.ds ∧ a.tmps.size = N ∧ ∃ M β, SimAt P K M β st a.tmps w
 | .exit id => e = .exit id ∧ a.defers = K.ds ∧ a.tmps.size = N ∧ ∃ M β, SimAt P K M β st a.tmps w
 | .ret => e = .ret ∧ a.defers = K.ds ∧ a.tmps.size = N ∧ ∃ M β, SimAt P K M β st a.tmps w
 | .pan x => ∃ v, e = .panic [{ v, recovered := false }] ∧ a.defers = K.ds ∧ ∃ M β, RepV M v x ∧ SimAt P K M β st a.tmps w

section
variable {P : Program} {K : Ctx} {N : Nat} {M : Mem} {β : Nat → Option Nat} {st : St} {g g' : Rg} {tmps : Array Value} {w : World} {o : Oper} {f : Eff} {p : Path} {tt : TT} {ops : List Oper}

theorem SimAt.noEnv (h : SimAt P K M β st tmps w) (tmps' : Array Value) : SimAt P K M β { env := [], H := st.H, nxt := st.nxt } tmps' w := by
 have h1 : SimAt P K M β { env := [], H := st.H, nxt := st.nxt } tmps w := h.sub rfl (fun l e hl => by
  cases l with
  | slot s => simp [St.at, look] at hl
  | cell r i => exact ⟨e, hl, rfl, fun _ h => h⟩) (fun r cs hr => ⟨cs, hr, rfl⟩)
 have hv : ∀ l e, ({ env := [], H := st.H, nxt := st.nxt } : St).at l = some e → valAt tmps' w β l = valAt tmps w β l := by
  intro l e hl
  cases l with
  | slot s => simp [St.at, look] at hl
  | cell r i => rfl
 constructor
 ·intro l e hl; rw [hv l e hl]; exact h1.ents l e hl
 ·intro l e T hl hT; rw [hv l e hl]; exact h1.own l e T hl hT
 ·intro l l' e e' T T' b hl hT hl' hT' hb hb'
  rw [hv l e hl] at hb; rw [hv l' e' hl'] at hb'; exact h1.uniq l l' e e' T T' b hl hT hl' hT' hb hb'
 ·intro l e T b r cs hl hT hb hr; rw [hv l e hl] at hb; exact h1.unbox l e T b r cs hl hT hb hr
 ·exact h1.box
 ·exact h1.inj
 ·exact h1.lt
 ·exact h1.mem
 ·exact h1.m0
 ·exact h1.frame
 ·exact h1.beta0
 ·exact h1.good
 ·exact h1.oo

theorem under_pc (h : SimG P K N M β g tmps w) : ∀ {p : Path} {q : Prop}, PC tmps p → under g p q → q
 | [], _, _, hq => hq
 | (t, b0) :: p, q, hp, hq => by
  have ht : tmps.getD t undef = .bool b0 := hp (t, b0) (by simp)
  have hp' : PC tmps p := fun x hx => hp x (by simp [hx])
  simp only [under] at hq
  split at hq
  ·rename_i b hb
   refine under_pc h hp' (hq ?_)
   unfold boolAt at hb
   split at hb
   ·rename_i q' b' hc
    cases hb
    by_cases hpc : PC tmps q'
    ·have := inv_bool ((h.cond t _ _ hc).1 hpc)
     rw [ht] at this; cases this; rfl
    ·have := (h.cond t _ _ hc).2 hpc
     rw [ht] at this; cases this
   ·cases hb
   ·split at hb
    ·rename_i b' own he
     cases hb
     have := inv_bool (h.sim.ents (.slot t) _ he)
     simp only [valAt] at this
     rw [ht] at this; cases this; rfl
    ·cases hb
  ·exact under_pc h hp' hq

theorem wanted_pc (h : SimG P K N M β g tmps w) {opsA : Array Oper} (hops : opsA.toList = ops) (hp : guardPath ops g o = some p) : Region.wanted o (yielded opsA tmps) = true ↔ PC tmps p := by
  unfold guardPath at hp
  split at hp
  · rename_i hg
    cases hp
    simp [Region.wanted, hg, PC]
  · rename_i j b0 hg
    split at hp
    case h_2 => cases hp
    rename_i t ht
    have hy : yielded opsA tmps j = some b0 ↔ tmps.getD t undef = .bool b0 := by
      unfold yielded
      have : opsA[j]? = ops[j]? := by rw [← hops]; simp
      rw [this, ht]
      simp only [Option.bind_some, Array.getD_eq_getD_getElem?]
      cases hh : tmps[t]? with
      | none => simp [undef]
      | some v => cases v <;> simp
    have hw : Region.wanted o (yielded opsA tmps) = true ↔ tmps.getD t undef = .bool b0 := by
      rw [← hy]; simp [Region.wanted, hg]
    split at hp
    · rename_i q b hc
      cases hp
      rw [hw]
      constructor
      · intro ht2 x hx
        rcases List.mem_append.1 hx with hx | hx
        · by_cases hpc : PC tmps q
          · exact hpc x hx
          · have := (h.cond t _ _ hc).2 hpc
            rw [ht2] at this; cases this
        · simp at hx; subst hx; exact ht2
      · intro hpc; exact hpc (t, b0) (by simp)
    · cases hp
    · split at hp
      · cases hp
        rw [hw]
        exact ⟨fun h x hx => by simp at hx; subst hx; exact h, fun h => h (t, b0) (by simp)⟩
      · cases hp

theorem PC_set {t : Nat} {v : Value} {q : Path} (hq : ∀ x, x ∈ q → x.1 ≠ t) : PC (tmps.setIfInBounds t v) q ↔ PC tmps q := by
 unfold PC
 constructor <;> intro h x hx
 ·have := h x hx
  rwa [Array.getD_eq_getD_getElem?, Array.getElem?_setIfInBounds_ne (Ne.symm (hq x hx)), ← Array.getD_eq_getD_getElem?] at this
 ·have := h x hx
  rwa [Array.getD_eq_getD_getElem?, Array.getElem?_setIfInBounds_ne (Ne.symm (hq x hx)), ← Array.getD_eq_getD_getElem?]

theorem getD_set {t s : Nat} {v : Value} (h : s ≠ t) : (tmps.setIfInBounds t v).getD s undef = tmps.getD s undef := by
 rw [Array.getD_eq_getD_getElem?, Array.getElem?_setIfInBounds_ne (Ne.symm h), ← Array.getD_eq_getD_getElem?]

theorem freeOf_spec {cenv : List (Nat × Path × D)} {t : Nat} (h : freeOf cenv t = true) {s : Nat} {q : Path} {d : D} (hc : look cenv s = some (q, d)) (hs : s ≠ t) : ∀ x, x ∈ q → x.1 ≠ t := by
 unfold freeOf at h
 rw [List.all_eq_true] at h
 have := h _ (look_mem hc)
 simp only [Bool.or_eq_true, Nat.beq_eq, List.all_eq_true, Bool.not_eq_true'] at this
 rcases this with h1 | h1
 ·exact absurd h1 hs
 ·intro x hx e
  have := h1 x hx
  rw [e] at this
  simp at this

theorem cond_set (h : ∀ t q d, look g.cenv t = some (q, d) → (PC tmps q → RepD M β (tmps.getD t undef) d) ∧ (¬ PC tmps q → tmps.getD t undef = undef)) {t : Nat} {v : Value} (hf : freeOf g.cenv t = true) {M' : Mem} {β' : Nat → Option Nat}
  (hM : M.le M') (hβ : ∀ r b, β r = some b → β' r = some b) :
  ∀ s q d, look (del g.cenv t) s = some (q, d) → (PC (tmps.setIfInBounds t v) q → RepD M' β' ((tmps.setIfInBounds t v).getD s undef) d) ∧ (¬ PC (tmps.setIfInBounds t v) q → (tmps.setIfInBounds t v).getD s undef = undef) := by
 intro s q d hc
 rw [look_del] at hc
 by_cases hs : t = s
 ·simp [hs] at hc
 ·rw [if_neg hs] at hc
  rw [PC_set (freeOf_spec hf hc (Ne.symm hs)), getD_set (Ne.symm hs)]
  exact ⟨fun hpc => (((h s q d hc).1 hpc).mono hM).mono' hβ, (h s q d hc).2⟩

theorem eval_ds (ds : List Deferred) : Act.eval ⟨tmps, ds⟩ = Act.eval ⟨tmps, []⟩ := by
 funext x; cases x <;> rfl

theorem look_app {α : Type} : ∀ (a b : List (Nat × α)) (q : Nat), look (a ++ b) q = none → look a q = none ∧ look b q = none
 | [], b, q, h => ⟨rfl, h⟩
 | (j, x) :: a, b, q, h => by
  simp only [List.cons_append, look_cons] at h ⊢
  by_cases hj : j = q
  ·simp [hj] at h
  ·simp only [hj, if_false] at h ⊢
   exact look_app a b q h
theorem SimG.fresh_step (h : SimG P K N M β g tmps w) {β' : Nat → Option Nat} {hs : List (Nat × List Ent)} (hβ' : ∀ r b, β' r = some b → β r = some b ∨ (look hs r).isSome = true) :
  ∀ s id, look g.ids s = some id → look (hs ++ g.H) id = none → ∀ b, β' id ≠ some b := by
 intro s id hid hl b hb
 obtain ⟨h1, h2⟩ := look_app _ _ _ hl
 rcases hβ' id b hb with h3 | h3
 ·exact h.fresh s id hid h2 b h3
 ·rw [h1] at h3; cases h3

theorem opStep_go (h : SimG P K N M β g tmps w) (htt : TTok P tt = true) {opsA : Array Oper} (hops : opsA.toList = ops) (hs : opStep (saysC P) tt N ops g o = some (.go g')) (hob : ∀ q, q ∈ g'.ob → q) {Q : Exit → Act → World → Prop} {next : Act → World → Prop}
    (hnext : ∀ tmps' w' M' β', SimG P K N M' β' g' tmps' w' → next ⟨tmps', K.ds⟩ w') :
    if Region.wanted o (yielded opsA tmps) then o.wp P ⟨tmps, K.ds⟩ w next Q ∨ (o.asks P ⟨tmps, K.ds⟩ w ∧ LetsOut Q) else next ((⟨tmps, K.ds⟩ : Act).put o.dst undef) w := by
  unfold opStep at hs
  split at hs
  case h_1 => cases hs
  rename_i p hp
  have hw := wanted_pc h hops hp
  split at hs
  · cases hs
  · rw [Bool.cond_eq_ite] at hs; split at hs <;> cases hs
  rename_i f hf
  dsimp only at hs
  by_cases hpc : PC tmps p
  · rw [if_pos (hw.2 hpc)]
    refine .inl ?_
    have hres := step_ok (g := g) (ops := ops) ⟨h, hpc, htt⟩ hf
    -- what follows once the value is there
    have main : (∀ q, q ∈ f.ob → q) ∧ ∀ v w', Post P K M β g f tmps v w' → next ((⟨tmps, K.ds⟩ : Act).put o.dst v) w' := by
      split at hs
      · rename_i hdst
        rw [Bool.cond_eq_ite] at hs
        split at hs
        case isFalse => cases hs
        rename_i hpe
        have hp0 : p = [] := by simpa using hpe
        subst hp0
        cases hs
        refine ⟨fun q hq => under_pc h hpc (hob _ (List.mem_append_left _ (List.mem_map.2 ⟨q, hq, rfl⟩))), ?_⟩
        rintro v w' ⟨M', β', hM, hβ, hβ', hsim, _⟩
        rw [hdst]
        exact hnext tmps w' M' β' ⟨hsim, h.size, h.fresh_step hβ', fun s q d hc => ⟨fun hpc => (((h.cond s q d hc).1 hpc).mono hM).mono' hβ, (h.cond s q d hc).2⟩⟩
      · rename_i t hdst
        rw [Bool.cond_eq_ite] at hs
        split at hs
        case isFalse => cases hs
        rename_i hc
        simp only [Bool.and_eq_true, Nat.blt_eq] at hc
        have hlt : t < tmps.size := by rw [h.size]; exact hc.1
        rcases p with _ | ⟨x, p'⟩ <;> dsimp only at hs
        · cases hs
          refine ⟨fun q hq => under_pc h hpc (hob _ (List.mem_append_left _ (List.mem_map.2 ⟨q, hq, rfl⟩))), ?_⟩
          rintro v w' ⟨M', β', hM, hβ, hβ', hsim, hres⟩
          rw [hdst]
          refine hnext _ w' M' β' ⟨?_, by simpa using h.size, h.fresh_step hβ', cond_set h.cond hc.2 hM hβ⟩
          cases he : f.e with
          | none => exact hsim.drop
          | some e =>
            obtain ⟨h1, h2⟩ := hres e he
            exact hsim.put hlt h1 (fun T hT => h2 T _ hT)
        · split at hs
          · rename_i e he hhs hclr
            rw [Bool.cond_eq_ite] at hs
            split at hs
            case isFalse => cases hs
            rename_i hc2
            simp only [Bool.and_eq_true, List.all_eq_true, Nat.beq_eq, Bool.not_eq_true'] at hc2
            cases hs
            refine ⟨fun q hq => under_pc h hpc (hob _ (List.mem_append_left _ (List.mem_map.2 ⟨q, hq, rfl⟩))), ?_⟩
            rintro v w' ⟨M', β', hM, hβ, hβ', hsim, hres⟩
            rw [hdst]
            obtain ⟨h1, _⟩ := hres e he
            have hfree : ∀ y, y ∈ x :: p' → y.1 ≠ t := fun y hy e => by
              have := hc2.1 y hy
              rw [e] at this
              simp at this
            refine hnext _ w' M' β' ⟨?_, by simpa using h.size, by have := h.fresh_step hβ'; rw [hhs] at this; exact this, fun s q d hcs => ?_⟩
            · have : after g f = { env := g.env, H := g.H, nxt := g.nxt } := by unfold after; rw [hclr, hhs, hc2.2]; rfl
              rw [this] at hsim
              exact hsim.drop
            · rw [look_cons] at hcs
              by_cases hts : t = s
              · rw [if_pos hts] at hcs
                cases hcs
                subst hts
                rw [PC_set hfree]
                refine ⟨fun _ => ?_, fun hn => absurd hpc hn⟩
                have : (tmps.setIfInBounds t v).getD t undef = v := by simp [hlt]
                rw [this]; exact h1
              · rw [if_neg hts] at hcs
                exact cond_set h.cond hc.2 hM hβ s q d hcs
          · cases hs
    obtain ⟨hobf, hpost⟩ := main
    rcases hres hobf with ⟨v, w', hrun, hP⟩ | ⟨he, w', hrun, hP⟩ | ⟨fn, vs, hrun, hcalls⟩
    · unfold Oper.wp
      rw [eval_ds, hrun]
      exact hpost v w' hP
    · unfold Oper.wp
      rw [eval_ds, hrun]
      exact hpost undef w' hP
    · unfold Oper.wp
      rw [eval_ds, hrun]
      refine hcalls.mono ?_
      rintro e w' ⟨v, rfl, hP⟩
      exact hpost v w' hP
  · have hwn : Region.wanted o (yielded opsA tmps) = false := by
      rw [Bool.eq_false_iff]; exact fun hh => hpc (hw.1 hh)
    rw [hwn]
    simp only [Bool.false_eq_true, if_false]
    split at hs
    · rename_i hdst
      rw [Bool.cond_eq_ite] at hs
      split at hs
      case isFalse => cases hs
      rename_i hpe
      have hp0 : p = [] := by simpa using hpe
      subst hp0
      exact absurd (fun x hx => by cases hx) hpc
    · rename_i t hdst
      rw [Bool.cond_eq_ite] at hs
      split at hs
      case isFalse => cases hs
      rename_i hc
      simp only [Bool.and_eq_true, Nat.blt_eq] at hc
      rcases p with _ | ⟨x, p'⟩ <;> dsimp only at hs
      · exact absurd (fun x hx => by cases hx) hpc
      · split at hs
        · rename_i e he hhs hclr
          rw [Bool.cond_eq_ite] at hs
          split at hs
          case isFalse => cases hs
          rename_i hc2
          simp only [Bool.and_eq_true, List.all_eq_true, Nat.beq_eq, Bool.not_eq_true'] at hc2
          cases hs
          rw [hdst]
          have hfree : ∀ y, y ∈ x :: p' → y.1 ≠ t := fun y hy e => by
            have := hc2.1 y hy
            rw [e] at this
            simp at this
          refine hnext _ w M β ⟨h.sim.drop, by simpa using h.size, h.fresh, fun s q d hcs => ?_⟩
          rw [look_cons] at hcs
          by_cases hts : t = s
          · rw [if_pos hts] at hcs
            cases hcs
            subst hts
            rw [PC_set hfree]
            refine ⟨fun hh => absurd hh hpc, fun _ => ?_⟩
            have hlt : t < tmps.size := by rw [h.size]; exact hc.1
            simp [hlt]
          · rw [if_neg hts] at hcs
            exact cond_set h.cond hc.2 (Mem.le_refl _) (fun _ _ h => h) s q d hcs
        · cases hs
end
end Go.Ab

/-
 AN ABSTRACT MACHINE OVER PURE STATES, part 19: the rules.
-/
namespace Go.Ab
section
variable {P : Program} {K : Ctx} {N E : Nat} {M : Mem} {β : Nat → Option Nat} {st : St} {g g' : Rg} {tmps : Array Value} {w : World} {o : Oper} {f : Eff} {p : Path} {tt : TT} {ops : List Oper}

theorem opStep_pan (h : SimG P K N M β g tmps w) (htt : TTok P tt = true) {opsA : Array Oper} (hops : opsA.toList = ops) {x : V} {st : St} {ob : List Prop} (hs : opStep (saysC P) tt N ops g o = some (.pan x st ob)) (hob : ∀ q, q ∈ ob → q) {Q : Exit → Act → World → Prop} {next : Act → World → Prop}
  (hnext : ∀ e a' w', SimE P K N (.pan x) st e a' w' → Q e a' w') :
  if Region.wanted o (yielded opsA tmps) then o.wp P ⟨tmps, K.ds⟩ w next Q ∨ (o.asks P ⟨tmps, K.ds⟩ w ∧ LetsOut Q) else next ((⟨tmps, K.ds⟩ : Act).put o.dst undef) w := by
 unfold opStep at hs
 split at hs
 case h_1 => cases hs
 rename_i p hp
 have hw := wanted_pc h hops hp
 split at hs
 ·cases hs
 ·rename_i y hs' ob' hst
  rw [Bool.cond_eq_ite] at hs
  split at hs
  case isFalse => cases hs
  rename_i hpe
  have hp0 : p = [] := by simpa using hpe
  subst hp0
  cases hs
  have hpc : PC tmps [] := fun x hx => by cases hx
  rw [if_pos (hw.2 hpc)]
  refine .inl ?_
  have hres := step_ok (g := g) (ops := ops) ⟨h, hpc, htt⟩ hst
  rcases hres (fun q hq => hob q (List.mem_append_left _ hq)) with ⟨v, hrun, hr, rfl⟩ | ⟨fn, vs, hrun, hcalls⟩
  ·unfold Oper.wp
   rw [eval_ds, hrun]
   exact hnext _ _ _ ⟨v, rfl, rfl, M, β, hr, h.sim.noOwn fun s e he => ⟨e, he, rfl⟩⟩
  ·unfold Oper.wp
   rw [eval_ds, hrun]
   refine hcalls.mono ?_
   rintro e w' ⟨v, M', rfl, hr, hsim⟩
   exact hnext _ _ _ ⟨v, rfl, rfl, M', β, hr, hsim⟩
 ·dsimp only at hs
  repeat' (first | (split at hs) | (rw [Bool.cond_eq_ite] at hs) | (cases hs; done))

theorem opStep_ob {says : CallSays} (hs : opStep says tt N ops g o = some (.go g')) : ∀ q, q ∈ g.ob → q ∈ g'.ob := by
 intro q hq
 unfold opStep at hs
 split at hs
 case h_1 => cases hs
 split at hs
 ·cases hs
 ·rw [Bool.cond_eq_ite] at hs; split at hs <;> cases hs
 ·dsimp only at hs
  repeat' (first | (split at hs) | (rw [Bool.cond_eq_ite] at hs) | (cases hs; exact List.mem_append_right _ hq) | (cases hs; done))
theorem opStep_ob_pan {says : CallSays} {x : V} {st : St} {ob : List Prop} (hs : opStep says tt N ops g o = some (.pan x st ob)) : ∀ q, q ∈ g.ob → q ∈ ob := by
 intro q hq
 unfold opStep at hs
 split at hs
 case h_1 => cases hs
 split at hs
 ·cases hs
 ·rw [Bool.cond_eq_ite] at hs; split at hs <;> cases hs
  exact List.mem_append_right _ hq
 ·dsimp only at hs
  repeat' (first | (split at hs) | (rw [Bool.cond_eq_ite] at hs) | (cases hs; done))
def finOb : Fin' → List Prop
 | .go g => g.ob
 | .pan _ _ ob => ob

theorem runOps_ob {says : CallSays} : ∀ {l : List Oper} {g : Rg} {fin : Fin'}, runOps says tt N ops l g = some fin → ∀ q, q ∈ g.ob → q ∈ finOb fin
 | [], g, fin, h, q, hq => by simp [runOps] at h; subst h; exact hq
 | o :: l, g, fin, h, q, hq => by
  simp only [runOps] at h
  split at h
  ·rename_i g' hs
   exact runOps_ob h q (opStep_ob hs q hq)
  ·cases fin with
   | go g' => exact absurd h (by intro hh; rename_i hne; exact hne _ hh)
   | pan x st ob => exact opStep_ob_pan h q hq

theorem runOps_wp (htt : TTok P tt = true) {opsA : Array Oper} (hops : opsA.toList = ops) {Q : Exit → Act → World → Prop} {fin : Fin'} (hfin : ∀ q, q ∈ finOb fin → q)
  (hQ : match fin with
   | .go g' => ∀ tmps' w' M' β', SimG P K N M' β' g' tmps' w' → Q .normal ⟨tmps', K.ds⟩ w'
   | .pan x st _ => ∀ e a' w', SimE P K N (.pan x) st e a' w' → Q e a' w') :
  ∀ (l : List Oper) (k : Nat) (g : Rg) (tmps : Array Value) (w : World) (M : Mem) (β : Nat → Option Nat), (∀ j, l[j]? = ops[k + j]?) → SimG P K N M β g tmps w → runOps (saysC P) tt N ops l g = some fin →
   wpOps P opsA Q (List.range' k l.length) ⟨tmps, K.ds⟩ w
 | [], k, g, tmps, w, M, β, _, h, hr => by
  simp [runOps] at hr
  subst hr
  exact hQ tmps w M β h
 | o :: l, k, g, tmps, w, M, β, hl, h, hr => by
  have hk : opsA[k]? = some o := by
   have := hl 0
   simp at this
   rw [← Array.getElem?_toList, hops]; exact this.symm
  simp only [List.length_cons, List.range'_succ, wpOps, hk]
  simp only [runOps] at hr
  split at hr
  ·rename_i g' hs
   refine opStep_go h htt hops hs (fun q hq => hfin q (runOps_ob hr q hq)) (fun tmps' w' M' β' h' => ?_)
   exact runOps_wp htt hops hfin hQ l (k + 1) g' tmps' w' M' β' (fun j => by have := hl (j + 1); simpa [Nat.add_assoc, Nat.add_comm 1 j] using this) h' hr
  ·cases fin with
   | go g' => exact absurd hr (by intro hh; rename_i hne; exact hne _ hh)
   | pan x st ob => exact opStep_pan h htt hops hr hfin (fun e a' w' hE => hQ e a' w' hE)

def AWp (P : Program) (N E : Nat) (c : Code) (Q : AE → St → Prop) (st : St) : Prop :=
 ∀ (K : Ctx), (∀ r b, K.β0 r = some b → r < E) → ∀ (a : Act) (w : World), SimE P K N .normal st .normal a w → c.wp P (fun e a' w' => ∃ ae st', SimE P K N ae st' e a' w' ∧ Q ae st') a w

theorem AWp.mono {c : Code} {Q Q' : AE → St → Prop} (h : AWp P N E c Q st) (hq : ∀ ae st', Q ae st' → Q' ae st') : AWp P N E c Q' st :=
 fun K hK a w hs => wp_mono (h K hK a w hs) fun _ _ _ ⟨ae, st', h1, h2⟩ => ⟨ae, st', h1, hq _ _ h2⟩

def AE.then (next : St → Prop) (Q : AE → St → Prop) : AE → St → Prop
 | .normal, st => next st
 | e, st => Q e st
def AE.inBlock (id : Nat) (Q : AE → St → Prop) : AE → St → Prop
 | .exit i, st => if i = id then Q .normal st else Q (.exit i) st
 | e, st => Q e st

theorem AWp.seq {x y : Code} {Q : AE → St → Prop} (h : AWp P N E x (AE.then (AWp P N E y Q) Q) st) : AWp P N E (.seq x y) Q st := by
 intro K hK a w hs
 refine wp_seq (wp_mono (h K hK a w hs) ?_)
 rintro e a' w' ⟨ae, st', h1, h2⟩
 cases ae with
 | normal =>
  obtain ⟨rfl, h3⟩ := h1
  exact h2 K hK a' w' ⟨rfl, h3⟩
 | exit i => obtain ⟨rfl, h3⟩ := h1; exact ⟨.exit i, st', ⟨rfl, h3⟩, h2⟩
 | ret => obtain ⟨rfl, h3⟩ := h1; exact ⟨.ret, st', ⟨rfl, h3⟩, h2⟩
 | pan x => obtain ⟨v, rfl, h3⟩ := h1; exact ⟨.pan x, st', ⟨v, rfl, h3⟩, h2⟩

theorem AWp.skip {Q : AE → St → Prop} (h : Q .normal st) : AWp P N E .skip Q st := fun _ _ _ _ hs => wp_skip ⟨.normal, st, hs, h⟩
theorem AWp.label {l : Nat} {Q : AE → St → Prop} (h : Q .normal st) : AWp P N E (.label l) Q st := fun _ _ _ _ hs => wp_label ⟨.normal, st, hs, h⟩
theorem AWp.exit {id : Nat} {Q : AE → St → Prop} (h : Q (.exit id) st) : AWp P N E (.exit id) Q st := fun _ _ _ _ hs => wp_exit ⟨.exit id, st, ⟨rfl, hs.2⟩, h⟩
theorem AWp.ret {Q : AE → St → Prop} (h : Q .ret st) : AWp P N E .ret Q st := fun _ _ _ _ hs => wp_ret ⟨.ret, st, ⟨rfl, hs.2⟩, h⟩

theorem AWp.block {id : Nat} {c : Code} {Q : AE → St → Prop} (h : AWp P N E c (AE.inBlock id Q) st) : AWp P N E (.block id c) Q st := by
 intro K hK a w hs
 refine wp_block (wp_mono (h K hK a w hs) ?_)
 rintro e a' w' ⟨ae, st', h1, h2⟩
 cases ae with
 | normal => obtain ⟨rfl, h3⟩ := h1; exact ⟨.normal, st', ⟨rfl, h3⟩, h2⟩
 | exit i =>
  obtain ⟨rfl, h3⟩ := h1
  by_cases hi : i = id
  ·simp only [AE.inBlock, hi, if_true] at h2
   simp only [Exit.inBlock, hi, if_true]
   exact ⟨.normal, st', ⟨rfl, h3⟩, h2⟩
  ·simp only [AE.inBlock, hi, if_false] at h2
   simp only [Exit.inBlock, hi, if_false]
   exact ⟨.exit i, st', ⟨rfl, h3⟩, h2⟩
 | ret => obtain ⟨rfl, h3⟩ := h1; exact ⟨.ret, st', ⟨rfl, h3⟩, h2⟩
 | pan x => obtain ⟨v, rfl, h3⟩ := h1; exact ⟨.pan x, st', ⟨v, rfl, h3⟩, h2⟩

theorem AWp.cond {c : Nat} {x y : Code} {Q : AE → St → Prop} (b : Bool) (own : Option TypeId) (hc : look st.env c = some ⟨.v (.bool b), own⟩) (ht : b = true → AWp P N E x Q st) (hf : b = false → AWp P N E y Q st) : AWp P N E (.cond (.tmp c) x y) Q st := by
 intro K hK a w hs
 obtain ⟨_, _, _, M, β, hsim⟩ := id hs
 have hv : a.eval (.tmp c) = .bool b := inv_bool (hsim.ents (.slot c) _ hc)
 exact wp_cond_split hv (fun hb => ht hb K hK a w hs) (fun hb => hf hb K hK a w hs)

theorem AWp.loop {c : Code} {Q : AE → St → Prop} {σ : Type} (I : Nat → σ → St → Prop) (hround : ∀ n s st, I n s st → ∃ m, n = m + 1 ∧ AWp P N E c (AE.then (fun st' => ∃ s', I m s' st') Q) st)
  {n : Nat} {s : σ} {st : St} (h0 : I n s st) : AWp P N E (.loop c) Q st := by
 intro K hK a w hs b k cs
 have key : ∀ n s st a w, I n s st → SimE P K N .normal st .normal a w →
   ∃ e a' w', (∃ ae st', SimE P K N ae st' e a' w' ∧ Q ae st') ∧ Arrives P (lone (b.at a (.code c :: .inLoop c :: k)) cs w) b k cs e a' w' := by
  intro n
  induction n with
  | zero =>
   intro s st a w hI _
   obtain ⟨m, hm, _⟩ := hround 0 s st hI
   omega
  | succ n ih =>
   intro s st a w hI hs
   obtain ⟨m, hm, hbody⟩ := hround (n + 1) s st hI
   have : m = n := by omega
   subst this
   obtain ⟨e, a₁, w₁, ⟨ae, st', h1, h2⟩, harr⟩ := hbody K hK a w hs b (.inLoop c :: k) cs
   cases ae with
   | normal =>
    obtain ⟨rfl, h3⟩ := h1
    obtain ⟨s', hI'⟩ := h2
    obtain ⟨e₂, a₂, w₂, hq₂, harr₂⟩ := ih s' st' a₁ w₁ hI' ⟨rfl, h3⟩
    exact ⟨e₂, a₂, w₂, hq₂, .of_steps (Steps.trans harr (.one step_inLoop)) harr₂⟩
   | exit i => obtain ⟨rfl, h3⟩ := h1; exact ⟨_, a₁, w₁, ⟨.exit i, st', ⟨rfl, h3⟩, h2⟩, .pass (x := .inLoop c) rfl (fun _ _ => .inl (by simp)) harr⟩
   | ret => obtain ⟨rfl, h3⟩ := h1; exact ⟨_, a₁, w₁, ⟨.ret, st', ⟨rfl, h3⟩, h2⟩, .pass (x := .inLoop c) rfl (fun _ _ => .inl (by simp)) harr⟩
   | pan x => obtain ⟨v, rfl, h3⟩ := h1; exact ⟨_, a₁, w₁, ⟨.pan x, st', ⟨v, rfl, h3⟩, h2⟩, .pass (x := .inLoop c) rfl (fun _ _ => .inl (by simp)) harr⟩
 obtain ⟨e, a', w', hq, harr⟩ := key n s st a w h0 hs
 exact ⟨e, a', w', hq, .of_steps (.one step_loop) harr⟩
end
end Go.Ab

/- The abstract machine: a step of code over plain data, proved against the model. -/
import Derived.Orders
import Derived.Scope
import Derived.Recover
import Derived.Lib.Builder
import Derived.Lib.UnsafeStr
import Derived.ChangeSame
import Derived.OpenShut
import Derived.ReadAgain
import Derived.Test.YtenhknjlgfakfaaGreatDoorMachB
/-
 AN ABSTRACT MACHINE OVER PURE STATES, part 20: functions.
-/
namespace Go.Ab

def resD (tt : TT) (st : St) : ResultVar → Option D
 | .tmp t => (look st.env t).map (·.d)
 | .cell a t => match look st.env a, look tt t with
  | some ⟨.ptr r off, _⟩, some ti => match look st.H r with
   | some cs => bif ti.k.isAgg then (bif Nat.ble (off + ti.size) cs.length then some (mkAgg (((cs.drop off).take ti.size).map (·.d))) else none) else (cs[off]?).map (·.d)
   | none => none
  | _, _ => none

def resOf (tt : TT) (st : St) : List ResultVar → Option (D × Option TypeId)
 | [.tmp t] => (look st.env t).map fun e => (e.d, e.own)
 | [x] => (resD tt st x).map (·, none)
 | xs => (mapM' (resD tt st) xs).map fun ds => (.tup ds, none)

def leave (tt : TT) (E : Nat) (rs : List ResultVar) (st : St) : Option (Out × List (List Ent)) :=
 match resOf tt st rs, boxes st.H (List.range E) with
 | some (d, own), some H' => bif below E d && H'.all (belowEs E) then some (.ret d own, H') else none
 | _, _ => none
def leaveP (E : Nat) (H : List (Nat × List Ent)) : Option (List (List Ent)) :=
 match boxes H (List.range E) with
 | some H' => bif H'.all (belowEs E) then some H' else none
 | none => none

def eraB (H : List (List Ent)) : List (List Ent) := H.map fun b => b.map fun e => { d := e.d }
def postF (tt : TT) (E : Nat) (rs : List ResultVar) (R : Out → List (List Ent) → Prop) : AE → St → Prop
 | .normal, st => ∃ o H', leave tt E rs st = some (o, H') ∧ R o H'
 | .ret, st => ∃ o H', leave tt E rs st = some (o, H') ∧ R o H'
 | .pan x, st => ∃ H', leaveP E st.H = some H' ∧ R (.pan x) (eraB H')
 | .exit _, _ => False

section
variable {P : Program} {K : Ctx} {N E : Nat} {M : Mem} {β : Nat → Option Nat} {st : St} {tmps : Array Value} {w : World} {tt : TT}

def resRead (tmps : Array Value) : ResultVar → Sem Value
 | .tmp t => pure (tmps.getD t undef)
 | .cell a t => do loadVar t (← asAddr (tmps.getD a undef))

theorem resD_run (h : SimAt P K M β st tmps w) (htt : TTok P tt = true) {x : ResultVar} {d : D} (hx : resD tt st x = some d) :
  ∃ v, (resRead tmps x).run P w = .ok v w ∧ RepD M β v d := by
 cases x with
 | tmp t =>
  simp only [resD, Option.map_eq_some_iff] at hx
  obtain ⟨e, he, rfl⟩ := hx
  exact ⟨_, rfl, h.ents (.slot t) e he⟩
 | cell a t =>
  simp only [resD] at hx
  split at hx
  case h_2 => cases hx
  rename_i r off own ti ha hl
  obtain ⟨row⟩ := tt_row htt hl
  split at hx
  case h_2 => cases hx
  rename_i cs hr
  obtain ⟨b, hb, hv⟩ := inv_ptr (h.ents (.slot a) _ ha)
  simp only [valAt] at hv
  obtain ⟨b', vs, T, hb', hh, hlen, _, _, hone, hli⟩ := h.box r cs hr
  rw [hb] at hb'; cases hb'
  have hrunv : ∀ {u : Value}, (Instr.loadAt t (.pointer (some ⟨b, off, none⟩))).run P w = .ok u w → (do loadVar t (← asAddr (tmps.getD a undef)) : Sem Value).run P w = .ok u w := by
   intro u hu
   rw [hv]
   simpa [Instr.loadAt, Instr.sureAddr, asAddr] using hu
  rw [Bool.cond_eq_ite] at hx
  split at hx
  ·rename_i hag
   rw [Bool.cond_eq_ite] at hx
   split at hx
   case isFalse => cases hx
   rename_i hle
   simp only [Nat.ble_eq] at hle
   cases hx
   refine ⟨_, hrunv (run_load_box (P := P) row (off := off) hh (by omega) hag), ?_⟩
   refine mkAgg_rep (by simp; omega) (fun v hv => hone v (List.mem_of_mem_drop (List.mem_of_mem_take hv))) (fun i v c hv hc => ?_)
   rw [List.getElem?_map, Option.map_eq_some_iff] at hc
   obtain ⟨e, he, rfl⟩ := hc
   rw [List.getElem?_take] at hv he
   split at hv
   ·rename_i hi
    rw [if_pos hi, List.getElem?_drop] at he
    rw [List.getElem?_drop] at hv
    have := h.ents (.cell r (off + i)) e (by simp [St.at, hr, he])
    simpa [valAt, hb, cell_of_heap hh, hv] using this
   ·cases hv
  ·rename_i hag
   simp only [Option.map_eq_some_iff] at hx
   obtain ⟨e, he, rfl⟩ := hx
   obtain ⟨b2, vs2, T2, v, hb2, hh2, hvi, hval⟩ := cell_heap h hr he
   rw [hb] at hb2; cases hb2
   refine ⟨v, hrunv (run_load_cell (P := P) row (by rw [cell_of_heap hh2, hvi]) (by simpa using hag)), ?_⟩
   have := h.ents (.cell r off) e (by simp [St.at, hr, he])
   rwa [hval] at this

theorem resDs_run (h : SimAt P K M β st tmps w) (htt : TTok P tt = true) : ∀ {xs : List ResultVar} {ds : List D}, mapM' (resD tt st) xs = some ds →
  ∃ vs : List Value, (xs.mapM (resRead tmps)).run P w = .ok vs w ∧ vs.length = ds.length ∧
   ∀ (i : Nat) v d, vs[i]? = some v → ds[i]? = some d → RepD M β v d
 | [], ds, hx => by simp [mapM'] at hx; subst hx; exact ⟨[], rfl, rfl, by simp⟩
 | x :: xs, ds, hx => by
  simp only [mapM'] at hx
  split at hx
  case h_2 => cases hx
  rename_i d ds' hd hds
  cases hx
  obtain ⟨v, hv, hrep⟩ := resD_run h htt hd
  obtain ⟨vs, hvs, hl, hr⟩ := resDs_run h htt hds
  refine ⟨v :: vs, ?_, by simp [hl], fun i u c hu hc => ?_⟩
  ·simp only [List.mapM_cons, Sem.run_bind, hv, Result.andThen_ok, hvs, Sem.run_pure]
  ·cases i with
   | zero => simp at hu hc; subst hu; subst hc; exact hrep
   | succ i => simp at hu hc; exact hr i u c hu hc

theorem boxes_range {H : List (Nat × List Ent)} {E : Nat} {H' : List (List Ent)} (h : boxes H (List.range E) = some H') : H'.length = E ∧ ∀ r, r < E → look H r = H'[r]? ∧ (H'[r]?).isSome = true := by
 obtain ⟨h1, h2⟩ := boxes_get h
 exact ⟨by simpa using h1, fun r hr => h2 r r (by simp [hr])⟩

theorem SimAt.leave (h : SimAt P K M β st tmps w) {H' : List (List Ent)} (hbx : boxes st.H (List.range E) = some H') (hbe : H'.all (belowEs E) = true) (hK : ∀ r b, K.β0 r = some b → r < E) {v : Value} {d : D} {own : Option TypeId}
  (hv : RepD M β v d) (hd : below E d = true) (hown : ∀ T, own = some T → ∃ l, NewOwn P K M β { env := clrEnv l st.env, H := st.H, nxt := st.nxt } tmps w (.slot 0) v T ∧ True) :
  ∃ β', SimAt P K M β' { env := [(0, { d, own })], H := enumFrom' 0 H', nxt := E } #[v] w := by
 obtain ⟨hl, hlk⟩ := boxes_range hbx
 have h1 := h.noEnv #[undef]
 have hlook : ∀ r cs, look (enumFrom' 0 H') r = some cs → r < E ∧ look st.H r = some cs := by
  intro r cs hr
  rw [look_enum0] at hr
  have hlt : r < E := by have := (List.getElem?_eq_some_iff.1 hr).1; omega
  exact ⟨hlt, by rw [(hlk r hlt).1]; exact hr⟩
 have hle : E ≤ st.nxt ∨ E = 0 := by
  by_cases h0 : E = 0
  ·exact .inr h0
  ·obtain ⟨h2, h3⟩ := hlk (E - 1) (by omega)
   obtain ⟨cs, hcs⟩ := Option.isSome_iff_exists.1 h3
   rw [hcs] at h2
   obtain ⟨b, _, _, hb, _⟩ := h.box _ cs h2
   have := h.lt _ b hb
   exact .inl (by omega)
 have h2 : SimAt P K M β { env := [], H := enumFrom' 0 H', nxt := st.nxt } #[undef] w := by
  refine h1.sub rfl (fun l e hl => ?_) (fun r cs hr => ⟨cs, (hlook r cs hr).2, rfl⟩)
  cases l with
  | slot s => simp [St.at, look] at hl
  | cell r i =>
   simp only [St.at] at hl ⊢
   cases hr : look (enumFrom' 0 H') r with
   | none => simp [hr] at hl
   | some cs => simp [hr] at hl; exact ⟨e, by simp [(hlook r cs hr).2, hl], rfl, fun _ h => h⟩
 -- the slot
 have h3 : SimAt P K M β { env := [(0, { d, own })], H := enumFrom' 0 H', nxt := st.nxt } #[v] w := by
  have hput := h2.put (t := 0) (v := v) (e := { d, own }) (by simp) hv (fun T hT => ?_)
  ·simpa using hput
  ·obtain ⟨l, hn, _⟩ := hown T hT
   refine ⟨hn.own, fun l1 e T' b hl1 hT' _ hb hb' => ?_, fun b r cs hb hr => hn.unbox b r cs hb (hlook r cs hr).2⟩
   cases l1 with
   | slot s => simp [St.at, look] at hl1
   | cell r i =>
    simp only [St.at] at hl1
    cases hr : look (enumFrom' 0 H') r with
    | none => simp [hr] at hl1
    | some cs =>
     simp [hr] at hl1
     exact hn.apart (.cell r i) e T' b (by simp [St.at, (hlook r cs hr).2, hl1]) hT' (by simp) hb hb'
 refine ⟨fun r => if r < E then β r else none, ?_⟩
 have hval : ∀ l e, ({ env := [(0, { d, own })], H := enumFrom' 0 H', nxt := st.nxt } : St).at l = some e → valAt #[v] w (fun r => if r < E then β r else none) l = valAt #[v] w β l := by
  intro l e hl
  cases l with
  | slot s => rfl
  | cell r i =>
   simp only [St.at] at hl
   cases hr : look (enumFrom' 0 H') r with
   | none => simp [hr] at hl
   | some cs => simp [valAt, (hlook r cs hr).1]
 have hbl : ∀ l e, ({ env := [(0, { d, own })], H := enumFrom' 0 H', nxt := st.nxt } : St).at l = some e → below E e.d = true := by
  intro l e hl
  cases l with
  | slot s =>
   simp only [St.at, look_cons] at hl
   split at hl
   ·cases hl; exact hd
   ·simp [look] at hl
  | cell r i =>
   simp only [St.at] at hl
   cases hr : look (enumFrom' 0 H') r with
   | none => simp [hr] at hl
   | some cs =>
    simp [hr] at hl
    rw [look_enum0] at hr
    rw [List.all_eq_true] at hbe
    exact belowEs_get (hbe cs (List.mem_of_getElem? hr)) hl
 constructor
 ·intro l e hl
  rw [hval l e hl]
  exact (h3.ents l e hl).keep (fun r hr => by simp [hr]) (hbl l e hl)
 ·intro l e T hl hT; rw [hval l e hl]; exact h3.own l e T hl hT
 ·intro l l' e e' T T' b hl hT hl' hT' hb hb'
  rw [hval l e hl] at hb; rw [hval l' e' hl'] at hb'
  exact h3.uniq l l' e e' T T' b hl hT hl' hT' hb hb'
 ·intro l e T b r cs hl hT hb hr
  rw [hval l e hl] at hb
  have := h3.unbox l e T b r cs hl hT hb hr
  simpa [(hlook r cs hr).1] using this
 ·intro r cs hr
  obtain ⟨b, vs, T, h4, h5⟩ := h3.box r cs hr
  exact ⟨b, vs, T, by simpa [(hlook r cs hr).1] using h4, h5⟩
 ·intro r r' b cs cs' hr hr' hb hb'
  exact h3.inj r r' b cs cs' hr hr' (by simpa [(hlook r cs hr).1] using hb) (by simpa [(hlook r' cs' hr').1] using hb')
 ·intro r b hb
  by_cases hlt : r < E
  ·exact hlt
  ·simp [hlt] at hb
 ·exact h3.mem
 ·exact h3.m0
 ·exact h3.frame
 ·intro r b hb; simp [hK r b hb, h3.beta0 r b hb]
 ·exact h3.good
 ·exact h3.oo

theorem SimAt.era {env : List (Nat × Ent)} {H : List (List Ent)} {n : Nat} (h : SimAt P K M β { env := env, H := enumFrom' 0 H, nxt := n } tmps w) : SimAt P K M β { env := env, H := enumFrom' 0 (eraB H), nxt := n } tmps w := by
 refine h.sub rfl (fun l e hl => ?_) (fun r cs hr => ?_)
 ·cases l with
  | slot s => exact ⟨e, hl, rfl, fun _ h => h⟩
  | cell r i =>
   simp only [St.at, look_enum0, eraB, List.getElem?_map] at hl ⊢
   cases hb : H[r]? with
   | none => simp [hb] at hl
   | some b =>
    simp only [hb, Option.map_some, Option.bind_some, List.getElem?_map, Option.map_eq_some_iff] at hl
    obtain ⟨e0, h0, rfl⟩ := hl
    exact ⟨e0, by simpa using h0, rfl, fun T hT => by cases hT⟩
 ·simp only [look_enum0, eraB, List.getElem?_map, Option.map_eq_some_iff] at hr ⊢
  obtain ⟨b, hb, rfl⟩ := hr
  exact ⟨b, hb, by simp⟩

theorem fin_leave {fn : Func} {E : Nat} {tmps' : Array Value} {w' : World} {st' : St} {M' : Mem} {β' : Nat → Option Nat} {o : Out} {H' : List (List Ent)} (htt : TTok P tt = true) (hK : ∀ r b, K.β0 r = some b → r < E) (hs : SimAt P K M' β' st' tmps' w')
  (hl : Ab.leave tt E fn.results.toList st' = some (o, H')) :
  ∃ v, (results fn tmps').run P w' = .ok v w' ∧ ∃ v' M' β', Ending.returned v = endOf o v' ∧ SimAt P K M' β' { env := resEnv o, H := enumFrom' 0 H', nxt := E } #[v'] w' := by
 unfold Ab.leave at hl
 split at hl
 case h_2 => cases hl
 rename_i d own H1 hres hbx
 rw [Bool.cond_eq_ite] at hl
 split at hl
 case isFalse => cases hl
 rename_i hc
 simp only [Bool.and_eq_true] at hc
 cases hl
 -- the value of the results
 have hval : ∃ v, (results fn tmps').run P w' = .ok v w' ∧ RepD M' β' v d ∧ ∀ T, own = some T → ∃ l, NewOwn P K M' β' { env := clrEnv l st'.env, H := st'.H, nxt := st'.nxt } tmps' w' (.slot 0) v T ∧ True := by
  have hm : ∀ {vs : List Value}, (fn.results.toList.mapM (resRead tmps')).run P w' = .ok vs w' →
    (results fn tmps').run P w' = .ok (if h : vs.length = 1 then vs[0] else .tuple ⟨vs⟩) w' := by
   intro vs hvs
   have hres : results fn tmps' = (do let vs ← fn.results.mapM (resRead tmps'); pure (if h : vs.size = 1 then vs[0] else .tuple vs)) := by
    unfold results
    congr 2
   rw [hres, show fn.results = ⟨fn.results.toList⟩ from rfl, List.mapM_toArray]
   simp only [Sem.run_bind, Sem.run_map, hvs, Result.andThen_ok, Sem.run_pure]
   simp
  unfold resOf at hres
  split at hres
  ·rename_i t ht
   simp only [Option.map_eq_some_iff, Prod.mk.injEq] at hres
   obtain ⟨e, he, rfl, rfl⟩ := hres
   have hr1 := hs.ents (.slot t) e he
   refine ⟨tmps'.getD t undef, ?_, hr1, fun T hT => ⟨[t], hs.hand he hT (.slot 0), trivial⟩⟩
   have := hm (vs := [tmps'.getD t undef]) (by rw [ht]; rfl)
   simpa using this
  ·rename_i x hne hx
   simp only [Option.map_eq_some_iff, Prod.mk.injEq] at hres
   obtain ⟨d', hd', rfl, rfl⟩ := hres
   obtain ⟨v, hv, hrep⟩ := resD_run hs htt hd'
   refine ⟨v, ?_, hrep, by simp⟩
   have := hm (vs := [v]) (by rw [hx]; simp only [List.mapM_cons, List.mapM_nil, Sem.run_bind, hv, Result.andThen_ok, Sem.run_pure])
   simpa using this
  ·simp only [Option.map_eq_some_iff, Prod.mk.injEq] at hres
   obtain ⟨ds, hds, rfl, rfl⟩ := hres
   obtain ⟨vs', hvs, hl, hrep⟩ := resDs_run hs htt hds
   refine ⟨.tuple ⟨vs'⟩, ?_, .tup vs' ds hl hrep, by simp⟩
   have hne : vs'.length ≠ 1 := by
    rename_i h1 h2
    rw [hl, (mapM'_get hds).1]
    intro hh
    obtain ⟨x, hx⟩ := List.length_eq_one_iff.1 hh
    exact h2 x hx
   have := hm hvs
   simpa [hne] using this
 obtain ⟨v, hrun, hrep, hown⟩ := hval
 obtain ⟨β'', hfin⟩ := hs.leave hbx hc.2 hK hrep hc.1 hown
 exact ⟨v, hrun, v, M', β'', rfl, hfin⟩

theorem SimAt.setDs {P : Program} {K : Ctx} {M : Mem} {β : Nat → Option Nat} {st : St} {tmps : Array Value} {w : World} (h : SimAt P K M β st tmps w) (ds : List Deferred) : SimAt P { K with ds := ds } M β st tmps w :=
 ⟨h.ents, h.own, h.uniq, h.unbox, h.box, h.inj, h.lt, h.mem, h.m0, h.frame, h.beta0, h.good, h.oo⟩

theorem start_sim {args : List D} {ow : List (Nat × TypeId)} {H : List (List Ent)} {vs : List Value} {n : Nat} (hlen : vs.length = args.length) (hsim : SimAt P K M β { env := envOf args ow, H := enumFrom' 0 H, nxt := H.length } ⟨vs⟩ w) :
  SimAt P K M β { env := envOf args ow, H := enumFrom' 0 H, nxt := H.length } ((⟨vs⟩ : Array Value) ++ Array.replicate n undef) w := by
 have hv : ∀ l e, ({ env := envOf args ow, H := enumFrom' 0 H, nxt := H.length } : St).at l = some e → valAt ((⟨vs⟩ : Array Value) ++ Array.replicate (n) undef) w β l = valAt ⟨vs⟩ w β l := by
  intro l e hl
  cases l with
  | slot s =>
   simp only [St.at, envOf, look_enum0, withOwn_get, Option.map_eq_some_iff] at hl
   obtain ⟨d, hd, _⟩ := hl
   have hs : s < vs.length := by have := (List.getElem?_eq_some_iff.1 hd).1; omega
   simp only [valAt, Array.getD_eq_getD_getElem?]
   rw [Array.getElem?_append_left (by simpa using hs)]
  | cell r i => rfl
 constructor
 ·intro l e hl; rw [hv l e hl]; exact hsim.ents l e hl
 ·intro l e T hl hT; rw [hv l e hl]; exact hsim.own l e T hl hT
 ·intro l l' e e' T T' b hl hT hl' hT' hb hb'
  rw [hv l e hl] at hb; rw [hv l' e' hl'] at hb'; exact hsim.uniq l l' e e' T T' b hl hT hl' hT' hb hb'
 ·intro l e T b r cs hl hT hb hr; rw [hv l e hl] at hb; exact hsim.unbox l e T b r cs hl hT hb hr
 ·exact hsim.box
 ·exact hsim.inj
 ·exact hsim.lt
 ·exact hsim.mem
 ·exact hsim.m0
 ·exact hsim.frame
 ·exact hsim.beta0
 ·exact hsim.good
 ·exact hsim.oo

theorem ACalls.of_wp {f : FuncId} {fn : Func} {c : Code} {args : List D} {ow : List (Nat × TypeId)} {H : List (List Ent)} {R : Out → List (List Ent) → Prop} (htt : TTok P tt = true) (hf : P.funcs[f]? = some fn) (hb : fn.body = some c) (hname : decide (fn.name = "runtime.NumGoroutine") = false)
  (hargs : Nat.ble args.length fn.ntmps = true) (h : AWp P fn.ntmps H.length c (postF tt H.length fn.results.toList R) { env := envOf args ow, H := enumFrom' 0 H, nxt := H.length }) : ACalls P f args ow H R := by
 refine ⟨⟨fn, hf, by rw [hb]; rfl, by simpa using hname⟩, ?_⟩
 intro K0 w vs M β hlen hsim0 hβ0
 suffices key : ∀ K : Ctx, K.ds = [] → SimAt P K M β { env := envOf args ow, H := enumFrom' 0 H, nxt := H.length } ⟨vs⟩ w → (∀ r b, β r = some b → K.β0 r = some b) →
   Calls P f ⟨vs⟩ w fun e w' => ∃ o H' v M' β', R o H' ∧ e = endOf o v ∧ SimAt P K M' β' { env := resEnv o, H := enumFrom' 0 H', nxt := H.length } #[v] w' from
  (key { K0 with ds := [] } rfl (hsim0.setDs []) hβ0).mono fun e w' ⟨o, H', v, M', β', h1, h2, h3⟩ => ⟨o, H', v, M', β', h1, h2, h3.setDs K0.ds⟩
 intro K hds hsim hβ
 have hK : ∀ r b, K.β0 r = some b → r < H.length := fun r b hb => hsim.lt r b (hsim.beta0 r b hb)
 simp only [Nat.ble_eq] at hargs
 have hstart := start_sim (n := fn.ntmps - (⟨vs⟩ : Array Value).size) hlen hsim
 have hwp := h K hK { tmps := (⟨vs⟩ : Array Value) ++ Array.replicate (fn.ntmps - (⟨vs⟩ : Array Value).size) undef, defers := [] } w ⟨rfl, hds.symm, by simp; omega, M, β, hstart⟩
 refine calls_of_wp hf hb (wp_mono hwp ?_)
 have fin : ∀ (a' : Act) (w' : World) (st' : St) M' β', SimAt P K M' β' st' a'.tmps w' → (∃ o H', Ab.leave tt H.length fn.results.toList st' = some (o, H') ∧ R o H') →
   ∃ v, (results fn a'.tmps).run P w' = .ok v w' ∧ ∃ o H' v' M' β', R o H' ∧ Ending.returned v = endOf o v' ∧ SimAt P K M' β' { env := resEnv o, H := enumFrom' 0 H', nxt := H.length } #[v'] w' := by
  intro a' w' st' M' β' hs ⟨o, H', hl, hR⟩
  obtain ⟨v, h1, v', M1, β1, h2, h3⟩ := fin_leave htt hK hs hl
  exact ⟨v, h1, o, H', v', M1, β1, hR, h2, h3⟩
 rintro e a' w' ⟨ae, st', h1, h2⟩
 cases ae with
 | normal =>
  obtain ⟨rfl, hd, _, M', β', hs⟩ := h1
  exact ⟨hd.trans hds, fin a' w' st' M' β' hs h2⟩
 | ret =>
  obtain ⟨rfl, hd, _, M', β', hs⟩ := h1
  exact ⟨hd.trans hds, fin a' w' st' M' β' hs h2⟩
 | exit i => exact h2.elim
 | pan x =>
  obtain ⟨v, rfl, hd, M', β', hrep, hs⟩ := h1
  obtain ⟨H1, hl, hR⟩ := h2
  unfold leaveP at hl
  split at hl
  case h_2 => cases hl
  rename_i H2 hbx
  rw [Bool.cond_eq_ite] at hl
  split at hl
  case isFalse => cases hl
  rename_i hc
  cases hl
  obtain ⟨β'', hfin⟩ := hs.leave (own := none) hbx hc hK (.v v x hrep) rfl (by simp)
  exact ⟨hd.trans hds, .pan x, eraB H1, v, M', β'', hR, rfl, hfin.era⟩
end
end Go.Ab

/-
 AN ABSTRACT MACHINE OVER PURE STATES, part 21: words for the printed proofs.
-/
namespace Go.Ab

def AllP : List Prop → Prop
 | [] => True
 | p :: l => p ∧ AllP l
theorem AllP.mem : ∀ {l : List Prop}, AllP l → ∀ q, q ∈ l → q
 | [], _, q, h => by cases h
 | p :: l, hp, q, h => by
  rcases List.mem_cons.1 h with rfl | h
  ·exact hp.1
  ·exact AllP.mem hp.2 q h

section
variable {P : Program} {N E : Nat} {st : St} {tt : TT}

theorem AWp.cut {x y : Code} {Q : AE → St → Prop} (J : St → Prop) (h1 : AWp P N E x (AE.then J Q) st) (h2 : ∀ st', J st' → AWp P N E y Q st') : AWp P N E (.seq x y) Q st :=
 AWp.seq (h1.mono fun ae st' h => by cases ae <;> first | exact h2 st' h | exact h)

theorem AE.then_normal {next : St → Prop} {Q : AE → St → Prop} (h : next st) : AE.then next Q .normal st := h
theorem AE.then_pan {next : St → Prop} {Q : AE → St → Prop} {x : V} (h : Q (.pan x) st) : AE.then next Q (.pan x) st := h
theorem AE.block_hit {Q : AE → St → Prop} {i : Nat} (h : Q .normal st) : AE.inBlock i Q (.exit i) st := by simpa [AE.inBlock] using h
theorem AE.block_miss {Q : AE → St → Prop} {i j : Nat} (hne : Nat.beq j i = false) (h : Q (.exit j) st) : AE.inBlock i Q (.exit j) st := by
 have : j ≠ i := by rintro rfl; simp at hne
 simpa [AE.inBlock, this] using h
theorem sw_ {f : FuncId} {fn : Func} {c : Code} {args : List D} {ow : List (Nat × TypeId)} {H H2 : List (List Ent)} {out : Out} (htt : TTok P tt = true) (hf : P.funcs[f]? = some fn) (hb : fn.body = some c) (hname : decide (fn.name = "runtime.NumGoroutine") = false)
  (hargs : Nat.ble args.length fn.ntmps = true) (h : AWp P fn.ntmps H.length c (postF tt H.length fn.results.toList fun o H' => o = out ∧ H' = H2) { env := envOf args ow, H := enumFrom' 0 H, nxt := H.length }) : saysOf P f args ow H out H2 :=
 ACalls.of_wp htt hf hb hname hargs h

theorem post_ret {rs : List ResultVar} {out : Out} {H2 : List (List Ent)} (h : leave tt E rs st = some (out, H2)) : postF tt E rs (fun o H' => o = out ∧ H' = H2) .ret st := ⟨out, H2, h, rfl, rfl⟩
theorem post_normal {rs : List ResultVar} {out : Out} {H2 : List (List Ent)} (h : leave tt E rs st = some (out, H2)) : postF tt E rs (fun o H' => o = out ∧ H' = H2) .normal st := ⟨out, H2, h, rfl, rfl⟩
theorem post_pan {rs : List ResultVar} {x : V} {H2 : List (List Ent)} (h : (leaveP E st.H).map eraB = some H2) : postF tt E rs (fun o H' => o = .pan x ∧ H' = H2) (.pan x) st := by
 rw [Option.map_eq_some_iff] at h
 obtain ⟨H', h1, h2⟩ := h
 exact ⟨H', h1, rfl, h2⟩
end

/-! The words of the printed functions. -/

def ass {α : Type} (b : Bool) (x : Option α) : Option α := bif b then x else none
theorem ass_some {α : Type} {b : Bool} {x : Option α} {r : α} (h : ass b x = some r) : b = true ∧ x = some r := by
 cases b
 ·cases h
 ·exact ⟨rfl, h⟩
theorem bind_some {α β : Type} {x : Option α} {f : α → Option β} {r : β} (h : Option.bind x f = some r) : ∃ a, x = some a ∧ f a = some r := Option.bind_eq_some_iff.1 h
theorem cond_t {α : Type} {b : Bool} {x y z : α} (hb : b = true) (h : (bif b then x else y) = z) : x = z := by subst hb; exact h
theorem orT {c x : Bool} (h : (!c || x) = true) (hc : c = true) : x = true := by subst hc; simpa using h
theorem orF {c x : Bool} (h : (c || x) = true) (hc : c = false) : x = true := by subst hc; simpa using h

def encL {α : Type} [Inhabited α] (k : Nat) (e : α → V) (l : List α) : V := .slc k l.length fun i => e (l.getD i default)

theorem vimp_refl (x : V) : VImp x x := fun _ _ h => h
theorem vimp_slc {k n : Nat} {g g' : Nat → V} (h : ∀ i, i < n → g i = g' i) : VImp (.slc k n g) (.slc k n g') := by
 intro M v hv
 cases hv with
 | slc0 => exact .slc0 _ _
 | slcz => exact .slcz _ _ _
 | slc b off k n cap g val hc hk hM h1 hr =>
  exact .slc b off k n cap g' val hc (fun i hi => by rw [← h i hi]; exact hk i hi) hM h1 (fun i j c hi hcc => hr i j c hi (by rw [h i hi]; exact hcc))

theorem vimp_lit {α : Type} [Inhabited α] {k : Nat} {e : α → V} {xs : List V} {l : List α} (h : xs = l.map e) (n : Nat) (hn : n = l.length) : VImp (.slc k n fun i => xs.getD i .nilp) (encL k e l) := by
 subst h; subst hn
 refine vimp_slc fun i hi => ?_
 simp [List.getD, List.getElem?_eq_getElem hi]

theorem vimp_app {α : Type} [Inhabited α] {k : Nat} {e : α → V} (l l2 : List α) : VImp (.slc k (l.length + l2.length) fun i => bif Nat.blt i l.length then e (l.getD i default) else e (l2.getD (i - l.length) default)) (encL k e (l ++ l2)) := by
 rw [encL, List.length_append]
 refine vimp_slc fun i hi => ?_
 by_cases h : i < l.length
 ·have hb : Nat.blt i l.length = true := by simpa using h
  simp [hb, List.getD, List.getElem?_append_left h]
 ·have hb : Nat.blt i l.length = false := by rw [Bool.eq_false_iff]; simpa using h
  simp [hb, List.getD, List.getElem?_append_right (Nat.le_of_not_lt h)]

theorem vimp_app_str (l : List Int) (s : List UInt8) : VImp (.slc 1 (l.length + s.length) fun i => bif Nat.blt i l.length then .int .u8 (l.getD i default) else .int .u8 (s.getD (i - l.length) 0).toNat) (encL 1 (fun x => .int .u8 x) (l ++ s.map fun b => (b.toNat : Int))) := by
 have hl : (l ++ s.map fun b => (b.toNat : Int)).length = l.length + s.length := by simp
 rw [encL, hl]
 refine vimp_slc fun i hi => ?_
 by_cases h : i < l.length
 ·have hb : Nat.blt i l.length = true := by simpa using h
  simp [hb, List.getD, List.getElem?_append_left h]
 ·have hb : Nat.blt i l.length = false := by rw [Bool.eq_false_iff]; simpa using h
  have h2 : i - l.length < s.length := by omega
  simp [hb, List.getD, List.getElem?_append_right (Nat.le_of_not_lt h), h2]

theorem vimp_take {α : Type} [Inhabited α] {k : Nat} {e : α → V} (l : List α) (b : Int) (h : 0 ≤ b ∧ b ≤ l.length) : VImp (.slc k b.toNat fun i => e (l.getD i default)) (encL k e (l.take b.toNat)) := by
 have : (l.take b.toNat).length = b.toNat := by simp; omega
 rw [encL, this]
 exact vimp_slc fun i hi => by simp [List.getD, hi]
end Go.Ab

/-
 AN ABSTRACT MACHINE OVER PURE STATES, part 22: more words for the printed proofs.
-/
namespace Go.Ab

section
variable {P : Program} {N E : Nat} {st st' : St}
theorem AWp.drop {c : Code} {Q : AE → St → Prop} (live bx : List Nat) (n : Nat) (hr : restr live bx n st.env st.H st.nxt = some st') (hE : Nat.ble E n = true) (h : AWp P N E c Q st') : AWp P N E c Q st := by
 rintro K hK a w ⟨he, hd, hsz, M, β, hsim⟩
 obtain ⟨β'', hs⟩ := hsim.restr hr (fun r b hb => Nat.lt_of_lt_of_le (hK r b hb) (by simpa using hE))
 exact h K hK a w ⟨he, hd, hsz, M, β'', hs⟩
end

theorem all_nil : AllP [] := trivial
theorem all_cons {p : Prop} {l : List Prop} (h : p) (hl : AllP l) : AllP (p :: l) := ⟨h, hl⟩

inductive Pn (α β : Type) where
 | ret (a : α) (b : β)
 | pan (x : V) (b : β)
def Pn.on {α β γ : Type} (x : Pn α β) (f : α → β → γ) (g : V → β → γ) : γ :=
 match x with
 | .ret a b => f a b
 | .pan x b => g x b

theorem not_t {b : Bool} (h : b = false) : (!b) = true := by subst h; rfl
theorem and_t {a b : Bool} (h : a = true) (h2 : b = true) : (a && b) = true := by subst h; subst h2; rfl

inductive VL : List V → List V → Prop where
 | nil : VL [] []
 | cons {x y : V} {xs ys : List V} (h : VImp x y) (hl : VL xs ys) : VL (x :: xs) (y :: ys)
theorem VL.len : ∀ {xs ys : List V}, VL xs ys → xs.length = ys.length
 | _, _, .nil => rfl
 | _, _, .cons _ hl => by simp [hl.len]
theorem VL.at : ∀ {xs ys : List V}, VL xs ys → ∀ (i : Nat) {y : V}, ys[i]? = some y → ∃ x, xs[i]? = some x ∧ VImp x y
 | _, _, .nil, i, y, h => by simp at h
 | _, _, .cons h hl, i, y, hy => by
  cases i with
  | zero => simp at hy; subst hy; exact ⟨_, rfl, h⟩
  | succ i => simp at hy; simpa using hl.at i hy
theorem vimp_agg {xs ys : List V} (h : VL xs ys) : VImp (.agg xs) (.agg ys) := by
 intro M v hv
 cases hv with
 | agg vs cs hn h1 hr =>
  refine .agg vs ys (hn.trans h.len) h1 (fun i v c hv hc => ?_)
  obtain ⟨x, hx, hi⟩ := h.at i hc
  exact hi M v (hr i v x hv hx)
theorem vimp_slc2 {k n : Nat} {g g' : Nat → V} (h : ∀ i, i < n → VL (g i).cells (g' i).cells) : VImp (.slc k n g) (.slc k n g') := by
 intro M v hv
 cases hv with
 | slc0 => exact .slc0 _ _
 | slcz => exact .slcz _ _ _
 | slc b off k n cap g val hc hk hM h1 hr =>
  refine .slc b off k n cap g' val hc (fun i hi => by rw [← (h i hi).len]; exact hk i hi) hM h1 (fun i j c hi hcc => ?_)
  obtain ⟨x, hx, him⟩ := (h i hi).at j hcc
  exact him M _ (hr i j x hi hx)
inductive AllV {α : Type} (e : α → V) : List V → List α → Prop where
 | nil : AllV e [] []
 | cons {x : V} {y : α} {xs : List V} {ys : List α} (h : VL x.cells (e y).cells) (hl : AllV e xs ys) : AllV e (x :: xs) (y :: ys)
theorem AllV.len {α : Type} {e : α → V} : ∀ {xs : List V} {ys : List α}, AllV e xs ys → xs.length = ys.length
 | _, _, .nil => rfl
 | _, _, .cons _ hl => by simp [hl.len]
theorem AllV.at {α : Type} [Inhabited α] {e : α → V} : ∀ {xs : List V} {ys : List α}, AllV e xs ys → ∀ (i : Nat), i < ys.length → VL (xs.getD i .nilp).cells (e (ys.getD i default)).cells
 | _, _, .nil, i, h => by simp at h
 | _, _, .cons h hl, i, hy => by
  cases i with
  | zero => simpa using h
  | succ i => simpa using hl.at i (by simpa using hy)
theorem vimp_lit2 {α : Type} [Inhabited α] {k : Nat} {e : α → V} {xs : List V} {l : List α} (h : AllV e xs l) (n : Nat) (hn : n = l.length) : VImp (.slc k n fun i => xs.getD i .nilp) (encL k e l) := by
 subst hn
 exact vimp_slc2 fun i hi => h.at i hi
end Go.Ab

/-
 AN ABSTRACT MACHINE OVER PURE STATES, part 23: what an operation looks at.
-/
namespace Go.Ab

section
variable {tt : TT} {g1 g2 : Rg} {p : Path} {o : Oper} {ops : List Oper} {says : CallSays}

theorem rd_congr {x : Operand} (h : ∀ t, x = .tmp t → look g1.env t = look g2.env t ∧ look g1.cenv t = look g2.cenv t) (p : Path) (ty : TypeId) : rd g1.env g1.cenv p tt ty x = rd g2.env g2.cenv p tt ty x := by
 cases x with
 | tmp t =>
  obtain ⟨h1, h2⟩ := h t rfl
  simp only [rd, h1, h2]
 | const v => cases v with
  | slice a n c => cases a <;> cases n <;> cases c <;> rfl
  | _ => rfl
 | global _ => rfl
 | func _ => rfl

theorem ownAt_congr {x : Operand} (h : ∀ t, x = .tmp t → look g1.env t = look g2.env t) : ownAt g1 x = ownAt g2 x := by
 cases x with
 | tmp t => simp only [ownAt, h t rfl]
 | _ => rfl

theorem mapM'_congr {α β : Type} {f f' : α → Option β} : ∀ {l : List α}, (∀ x, x ∈ l → f x = f' x) → mapM' f l = mapM' f' l
 | [], _ => rfl
 | x :: l, h => by simp only [mapM', h x (by simp), mapM'_congr (l := l) fun y hy => h y (by simp [hy])]
theorem rdL_congr {f f' : TypeId → Operand → Option D} : ∀ {l : List Operand} {ts : List TypeId}, (∀ x, x ∈ l → ∀ t, f t x = f' t x) → rdL f l ts = rdL f' l ts
 | [], _, _ => by simp [rdL]
 | x :: l, [], _ => by simp [rdL]
 | x :: l, t :: ts, h => by simp only [rdL, h x (by simp) t, rdL_congr (l := l) (ts := ts) fun y hy => h y (by simp [hy])]

def readsH (tt : TT) (g : Rg) (p : Path) (o : Oper) : List Nat :=
 match o.op with
 | .alloc _ | .box _ _ => match o.dst.bind (look g.ids) with | some id => [id] | none => []
 | .load _ a => match rd g.env g.cenv p tt o.type a with | some (.ptr q _) => [q] | _ => []
 | .store _ a _ => match rd g.env g.cenv p tt o.type a with | some (.ptr q _) => [q] | _ => []
 | .call c => match c.callee with
  | .value x => match rd g.env g.cenv p tt o.type x, rdL (rd g.env g.cenv p tt) c.args.toList c.argTypes.toList with
   | some (.fn _ caps), some ds => refsClosed g.H 2 (dedup ((ds ++ caps).flatMap refs))
   | _, _ => []
  | _ => []
 | _ => []

theorem mem_dedup {x : Nat} : ∀ {l : List Nat}, x ∈ l → x ∈ dedup l
 | y :: l, h => by
  simp only [dedup]
  rw [Bool.cond_eq_ite]
  split
  ·rename_i hy
   rcases List.mem_cons.1 h with rfl | h
   ·obtain ⟨z, hz, hzx⟩ := List.any_eq_true.1 hy
    have : x = z := by simpa using hzx
    subst this; exact hz
   ·exact mem_dedup h
  ·rcases List.mem_cons.1 h with rfl | h
   ·simp
   ·exact List.mem_cons_of_mem _ (mem_dedup h)

theorem refsClosed_sub {H : List (Nat × List Ent)} : ∀ {n : Nat} {l : List Nat} {x : Nat}, x ∈ l → x ∈ refsClosed H n l
 | 0, _, _, h => h
 | n + 1, _, _, h => refsClosed_sub (n := n) (mem_dedup (List.mem_append_left _ h))

theorem flatMap_congr' {α β : Type} {f f' : α → List β} : ∀ {l : List α}, (∀ x, x ∈ l → f x = f' x) → l.flatMap f = l.flatMap f'
 | [], _ => rfl
 | x :: l, h => by simp only [List.flatMap_cons, h x (by simp), flatMap_congr' (l := l) fun y hy => h y (by simp [hy])]

theorem refsClosed_congr {H1 H2 : List (Nat × List Ent)} : ∀ {n : Nat} {l : List Nat}, (∀ q, q ∈ refsClosed H1 n l → look H1 q = look H2 q) → refsClosed H1 n l = refsClosed H2 n l
 | 0, _, _ => rfl
 | n + 1, l, h => by
  simp only [refsClosed] at h ⊢
  have : (l.flatMap fun r => ((look H1 r).getD []).flatMap fun e => refs e.d) = l.flatMap fun r => ((look H2 r).getD []).flatMap fun e => refs e.d :=
   flatMap_congr' fun r hr => by rw [h r (refsClosed_sub (mem_dedup (List.mem_append_left _ hr)))]
  rw [← this]
  exact refsClosed_congr h

theorem boxes_congr {H1 H2 : List (Nat × List Ent)} : ∀ {l : List Nat}, (∀ q, q ∈ l → look H1 q = look H2 q) → boxes H1 l = boxes H2 l
 | [], _ => rfl
 | r :: l, h => by simp only [boxes, h r (by simp), boxes_congr (l := l) fun q hq => h q (by simp [hq])]

theorem handed_congr {xs : List Operand} {ts : List TypeId} (hs : ∀ t, Operand.tmp t ∈ xs → look g1.env t = look g2.env t ∧ look g1.cenv t = look g2.cenv t) : ∀ os : List Nat, handed tt g1 xs ts os = handed tt g2 xs ts os
 | [] => rfl
 | i :: os => by
  simp only [handed, handed_congr hs os]
  split
  ·rename_i t l hx hl
   obtain ⟨h1, h2⟩ := hs t (List.mem_of_getElem? hx)
   rw [h1, h2]
  ·rfl
  ·rfl
theorem callStep_congr {xs : List Operand} {ts : List TypeId} {f : FuncId} {args : List D} (hs : ∀ t, Operand.tmp t ∈ xs → look g1.env t = look g2.env t ∧ look g1.cenv t = look g2.cenv t) (hrs : g1.rs = g2.rs) (hH : ∀ q, q ∈ refsClosed g1.H 2 (dedup (args.flatMap refs)) → look g1.H q = look g2.H q) : callStep says tt g1 p xs ts f args = callStep says tt g2 p xs ts f args := by
 have h1 : refsClosed g1.H 2 (dedup (args.flatMap refs)) = refsClosed g2.H 2 (dedup (args.flatMap refs)) := refsClosed_congr hH
 unfold callStep
 simp only [← h1, ← hrs, ← boxes_congr hH, ← fun os => handed_congr (tt := tt) (ts := ts) hs os]

def makesBox (o : Oper) : Bool :=
 match o.op with
 | .alloc _ | .box _ _ => true
 | _ => false

theorem newId_congr (hids : g1.ids = g2.ids) (hn : g1.nxt = g2.nxt) (hH : ∀ id, o.dst.bind (look g1.ids) = some id → look g1.H id = look g2.H id) : newId g1 o = newId g2 o := by
 unfold newId
 rw [← hids, ← hn]
 split
 ·rename_i id h
  rw [hH id h]
 ·rfl

theorem step1_congr (hs : ∀ x, x ∈ o.op.operands.toList → ∀ t, x = .tmp t → look g1.env t = look g2.env t ∧ look g1.cenv t = look g2.cenv t) (hrs : g1.rs = g2.rs) (hids : g1.ids = g2.ids)
  (hn : makesBox o = true → g1.nxt = g2.nxt) (hH : ∀ q, q ∈ readsH tt g1 p o → look g1.H q = look g2.H q) : step1 says tt ops g1 p o = step1 says tt ops g2 p o := by
 have R : ∀ x, x ∈ o.op.operands.toList → ∀ p ty, rd g1.env g1.cenv p tt ty x = rd g2.env g2.cenv p tt ty x := fun x hx p ty => rd_congr (hs x hx) p ty
 have O : ∀ x, x ∈ o.op.operands.toList → ownAt g1 x = ownAt g2 x := fun x hx => ownAt_congr fun t ht => (hs x hx t ht).1
 cases ho : o.op with
 | move x => simp only [ho, Op.operands] at R O; simp only [step1, ho, R x (by simp), O x (by simp), hrs]
 | assign x => simp only [ho, Op.operands] at R O; simp only [step1, ho, R x (by simp), O x (by simp), hrs]
 | pick c a b =>
  simp only [ho, Op.operands] at R O
  cases c with
  | tmp c => simp only [step1, ho, R (.tmp c) (by simp), R a (by simp), R b (by simp), hrs]
  | _ => simp only [step1, ho]
 | alloc t =>
  have hi : newId g1 o = newId g2 o := newId_congr hids (hn (by simp [makesBox, ho])) fun id hid => hH id (by simp [readsH, ho, hid])
  simp only [step1, ho, hrs, hi]
 | box t x =>
  have hi : newId g1 o = newId g2 o := newId_congr hids (hn (by simp [makesBox, ho])) fun id hid => hH id (by simp [readsH, ho, hid])
  simp only [ho, Op.operands] at R O; simp only [step1, ho, R x (by simp), hrs, hi]
 | build t parts =>
  simp only [ho, Op.operands] at R O
  have : mapM' (fun (i, x) => (rd g1.env g1.cenv p tt (partTy tt t i) x).map fun d => (i, d)) parts.toList = mapM' (fun (i, x) => (rd g2.env g2.cenv p tt (partTy tt t i) x).map fun d => (i, d)) parts.toList :=
   mapM'_congr fun y hy => by
    obtain ⟨i, x⟩ := y
    simp only [R x (List.mem_map.2 ⟨(i, x), hy, rfl⟩)]
  simp only [step1, ho, this, hrs]
 | buildSlice t len parts =>
  simp only [ho, Op.operands] at R O
  have : mapM' (fun (i, x) => (rd g1.env g1.cenv p tt (partTy tt t i) x).map fun d => (i, d)) parts.toList = mapM' (fun (i, x) => (rd g2.env g2.cenv p tt (partTy tt t i) x).map fun d => (i, d)) parts.toList :=
   mapM'_congr fun y hy => by
    obtain ⟨i, x⟩ := y
    simp only [R x (List.mem_map.2 ⟨(i, x), hy, rfl⟩)]
  simp only [step1, ho, this, hrs]
 | load t a =>
  simp only [ho, Op.operands] at R O
  simp only [readsH, ho, R a (by simp)] at hH
  simp only [step1, ho, R a (by simp), hrs]
  split
  ·rename_i q off ti ha hti
   simp only [ha] at hH
   simp only [hH q (by simp)]
  ·rfl
  ·rfl
 | store t a x =>
  simp only [ho, Op.operands] at R O
  simp only [readsH, ho, R a (by simp)] at hH
  simp only [step1, ho, R a (by simp), R x (by simp), O x (by simp), hrs]
  split
  ·rename_i q off d ti ha hd hti
   simp only [ha] at hH
   simp only [hH q (by simp)]
  ·rfl
 | nilCheck x => simp only [ho, Op.operands] at R O; simp only [step1, ho, R x (by simp), hrs]
 | binOp op t x y t2 => simp only [ho, Op.operands] at R O; simp only [step1, ho, R x (by simp), R y (by simp), hrs]
 | unOp op t x => simp only [ho, Op.operands] at R O; simp only [step1, ho, R x (by simp), hrs]
 | convert s t x => simp only [ho, Op.operands] at R O; simp only [step1, ho, R x (by simp), hrs]
 | makeInterface t x => simp only [ho, Op.operands] at R O; simp only [step1, ho, R x (by simp), hrs]
 | makeFunc fn first caps =>
  simp only [ho, Op.operands] at R O
  cases fn with
  | func f =>
   have : mapM' (rd g1.env g1.cenv p tt o.type) caps.toList = mapM' (rd g2.env g2.cenv p tt o.type) caps.toList := mapM'_congr fun x hx => R x (by rw [Array.toList_append]; exact List.mem_append_right _ hx) _ _
   simp only [step1, ho, this, hrs]
  | _ => simp only [step1, ho]
 | slice t x lo hi mx =>
  simp only [ho, Op.operands] at R O
  have hlo : lo.map (rd g1.env g1.cenv p tt o.type) = lo.map (rd g2.env g2.cenv p tt o.type) := by
   cases lo with
   | none => rfl
   | some l => simp [R l (by simp)]
  have hhi : hi.map (rd g1.env g1.cenv p tt o.type) = hi.map (rd g2.env g2.cenv p tt o.type) := by
   cases hi with
   | none => rfl
   | some l => simp [R l (by simp)]
  simp only [step1, ho, R x (by simp), hlo, hhi, hrs]
 | fieldAddr s x f => simp only [ho, Op.operands] at R O; simp only [step1, ho, R x (by simp), hrs]
 | field s x f => simp only [ho, Op.operands] at R O; simp only [step1, ho, R x (by simp), hrs]
 | indexAddr t x i => simp only [ho, Op.operands] at R O; simp only [step1, ho, R x (by simp), R i (by simp), hrs]
 | index t x i => simp only [ho, Op.operands] at R O; simp only [step1, ho, R x (by simp), R i (by simp), hrs]
 | typeAssert x a t ok => simp only [ho, Op.operands] at R O; simp only [step1, ho, R x (by simp), hrs]
 | extract x i => simp only [ho, Op.operands] at R O; simp only [step1, ho, R x (by simp), hrs]
 | panic x => simp only [ho, Op.operands] at R O; simp only [step1, ho, R x (by simp)]
 | call c =>
  simp only [ho, Op.operands, Call.operands] at R O hs
  cases hc : c.callee with
  | value x =>
   have hx := R x (by simp [hc])
   have ha : rdL (rd g1.env g1.cenv p tt) c.args.toList c.argTypes.toList = rdL (rd g2.env g2.cenv p tt) c.args.toList c.argTypes.toList := rdL_congr fun y hy t => R y (by rw [Array.toList_append]; exact List.mem_append_right _ hy) p t
   simp only [readsH, ho, hc, hx, ha] at hH
   simp only [step1, ho, hc, hx, ha]
   split
   ·rename_i f caps ds h1 h2
    simp only [h1, h2] at hH
    exact callStep_congr (fun t ht => hs (.tmp t) (by rw [Array.toList_append]; exact List.mem_append_right _ ht) t rfl) hrs hH
   ·rfl
  | invoke x m => simp only [step1, ho, hc]
  | builtin b =>
   have ha : mapM' (fun y => rd g1.env g1.cenv p tt o.type y) c.args.toList = mapM' (fun y => rd g2.env g2.cenv p tt o.type y) c.args.toList := mapM'_congr fun x hx => R x (by rw [Array.toList_append]; exact List.mem_append_right _ hx) _ _
   cases b with
   | len => simp only [step1, ho, hc, ha, hrs]
   | min => simp only [step1, ho, hc, ha, hrs]
   | max => simp only [step1, ho, hc, ha, hrs]
   | append =>
    simp only [step1, ho, hc, hrs]
    split
    ·rename_i t x e sz by' zr _ t2 hl _ _
     have hm : ∀ y, y ∈ [Operand.tmp t, x] → y ∈ (match c.callee with | .value f => #[f] | .invoke r _ => #[r] | .builtin _ => #[] : Array Operand).toList ++ c.args.toList := fun y hy => by rw [hl]; exact List.mem_append_right _ hy
     have hm' : ∀ y, y ∈ [Operand.tmp t, x] → y ∈ ((match c.callee with | .value f => #[f] | .invoke r _ => #[r] | .builtin _ => #[] : Array Operand) ++ c.args).toList := fun y hy => by rw [Array.toList_append]; exact hm y hy
     simp only [R (.tmp t) (hm' _ (by simp)), R x (hm' _ (by simp)), (hs (.tmp t) (hm' _ (by simp)) t rfl).1]
    ·rfl
   | _ => simp only [step1, ho, hc]
 | _ => simp only [step1, ho]
end
end Go.Ab

/-
 AN ABSTRACT MACHINE OVER PURE STATES, part 24: effects that commute.
-/
namespace Go.Ab

structure EffD where
 dst : Option Nat
 p : Path
 f : Eff
 rb : List Nat
 rsl : List Nat
 mb : Bool
 rs : List RS
 kd : Nat := 0
 px : V := .nilp
 ph : List (Nat × List Ent) := []
 fH : List (Nat × List Ent) := []

def opSlots (ops : List Oper) (o : Oper) : List Nat :=
 (o.op.operands.toList.filterMap fun | .tmp t => some t | _ => none) ++ (match o.guard with
  | some (j, _) => ((ops[j]?).bind (·.dst)).toList
  | none => [])

def apD (E : EffD) (g : Rg) : Rg :=
 match E.dst with
 | none => { g with env := clrEnv E.f.clr g.env, H := E.f.hs ++ g.H, nxt := g.nxt + E.f.nx }
 | some t => match E.p with
  | [] => { g with
    env := match E.f.e with | some e => (t, e) :: clrEnv E.f.clr g.env | none => del (clrEnv E.f.clr g.env) t
    cenv := del g.cenv t, H := E.f.hs ++ g.H, nxt := g.nxt + E.f.nx }
  | _ :: _ => match E.f.e with
   | some e => { g with env := del g.env t, cenv := (t, E.p, e.d) :: del g.cenv t }
   | none => g

def wS (E : EffD) : List Nat := E.dst.toList ++ E.f.clr
def wB (E : EffD) : List Nat := E.f.hs.map (·.1)

theorem look_append' {α : Type} : ∀ (a b : List (Nat × α)) (q : Nat), look (a ++ b) q = (match look a q with | some x => some x | none => look b q)
 | [], _, _ => rfl
 | (j, x) :: a, b, q => by
  simp only [List.cons_append, look_cons, look_append' a b q]
  by_cases h : j = q <;> simp [h]
theorem look_none_of {α : Type} : ∀ {a : List (Nat × α)} {q : Nat}, q ∉ a.map (·.1) → look a q = none
 | [], _, _ => rfl
 | (j, x) :: a, q, h => by
  simp only [List.map_cons, List.mem_cons, not_or] at h
  rw [look_cons, if_neg (Ne.symm h.1)]
  exact look_none_of h.2

section
variable {E : EffD} {g g1 g2 : Rg}

def SlotEq (g1 g2 : Rg) (t : Nat) : Prop := look g1.env t = look g2.env t ∧ look g1.cenv t = look g2.cenv t
def BoxEq (g1 g2 : Rg) (q : Nat) : Prop := look g1.H q = look g2.H q

theorem apD_slot {t : Nat} (h : t ∉ wS E) : SlotEq (apD E g) g t := by
 simp only [wS, List.mem_append, not_or] at h
 unfold SlotEq apD
 cases hd : E.dst with
 | none => simp only [look_clrEnv, if_neg h.2, and_self]
 | some u =>
  have hu : u ≠ t := by rintro rfl; simp [hd] at h
  cases hp : E.p with
  | nil =>
   dsimp only
   cases he : E.f.e with
   | some e => simp only [look_cons, if_neg hu, look_clrEnv, if_neg h.2, look_del, and_self]
   | none => simp only [look_clrEnv, if_neg h.2, look_del, if_neg hu, and_self]
  | cons x p =>
   dsimp only
   cases he : E.f.e with
   | some e => simp only [look_cons, if_neg hu, look_del, and_self]
   | none => exact ⟨rfl, rfl⟩
theorem apD_slot_congr {t : Nat} (h : SlotEq g1 g2 t) : SlotEq (apD E g1) (apD E g2) t := by
 obtain ⟨h1, h2⟩ := h
 unfold SlotEq apD
 cases hd : E.dst with
 | none => simp only [look_clrEnv, h1, h2, and_self]
 | some u =>
  cases hp : E.p with
  | nil =>
   dsimp only
   cases he : E.f.e with
   | some e => simp only [look_cons, look_clrEnv, h1, h2, look_del, and_self]
   | none => simp only [look_clrEnv, look_del, h1, h2, and_self]
  | cons x p =>
   dsimp only
   cases he : E.f.e with
   | some e => simp only [look_cons, look_del, h1, h2, and_self]
   | none => exact ⟨h1, h2⟩
theorem apD_H : (apD E g).H = E.f.hs ++ g.H ∨ (apD E g).H = g.H := by
 unfold apD
 cases E.dst with
 | none => exact .inl rfl
 | some u =>
  cases E.p with
  | nil => exact .inl rfl
  | cons x p => dsimp only; cases E.f.e <;> exact .inr rfl
theorem apD_box {q : Nat} (h : q ∉ wB E) : BoxEq (apD E g) g q := by
 unfold BoxEq
 rcases apD_H (E := E) (g := g) with h1 | h1 <;> rw [h1]
 rw [look_append', look_none_of h]
theorem apD_box_congr {q : Nat} (h : BoxEq g1 g2 q) : BoxEq (apD E g1) (apD E g2) q := by
 unfold BoxEq at *
 unfold apD
 cases E.dst with
 | none => simp only [look_append', h]
 | some u =>
  cases E.p with
  | nil => simp only [look_append', h]
  | cons x p => dsimp only; cases E.f.e <;> exact h
def dn (E : EffD) : Nat :=
 match E.dst with
 | none => E.f.nx
 | some _ => match E.p with
  | [] => E.f.nx
  | _ :: _ => 0
theorem apD_nxt : (apD E g).nxt = g.nxt + dn E := by
 unfold apD dn
 cases E.dst with
 | none => rfl
 | some u =>
  cases E.p with
  | nil => rfl
  | cons x p => dsimp only; cases E.f.e <;> rfl

structure Alike (g1 g2 : Rg) : Prop where
 slot : ∀ t, SlotEq g1 g2 t
 box : ∀ q, BoxEq g1 g2 q
 nxt : g1.nxt = g2.nxt
 ids : g1.ids = g2.ids
theorem apD_ids : (apD E g).ids = g.ids := by
 unfold apD
 cases E.dst with
 | none => rfl
 | some u =>
  cases E.p with
  | nil => rfl
  | cons x p => dsimp only; cases E.f.e <;> rfl
theorem Alike.refl : Alike g g := ⟨fun _ => ⟨rfl, rfl⟩, fun _ => rfl, rfl, rfl⟩
theorem Alike.symm (h : Alike g1 g2) : Alike g2 g1 := ⟨fun t => ⟨(h.slot t).1.symm, (h.slot t).2.symm⟩, fun q => (h.box q).symm, h.nxt.symm, h.ids.symm⟩
theorem Alike.trans {g3 : Rg} (h : Alike g1 g2) (h' : Alike g2 g3) : Alike g1 g3 := ⟨fun t => ⟨(h.slot t).1.trans (h'.slot t).1, (h.slot t).2.trans (h'.slot t).2⟩, fun q => (h.box q).trans (h'.box q), h.nxt.trans h'.nxt, h.ids.trans h'.ids⟩
theorem Alike.ap (h : Alike g1 g2) : Alike (apD E g1) (apD E g2) :=
 ⟨fun t => apD_slot_congr (h.slot t), fun q => apD_box_congr (h.box q), (by simp only [apD_nxt, h.nxt]), by simp only [apD_ids, h.ids]⟩

def sep (a b : List Nat) : Bool := a.all fun x => !b.any (Nat.beq x)
theorem sep_spec {a b : List Nat} (h : sep a b = true) {x : Nat} (ha : x ∈ a) : x ∉ b := by
 intro hb
 have := List.all_eq_true.1 h x ha
 simp only [Bool.not_eq_true', List.any_eq_false] at this
 exact this x hb (by simp)

def disj (E E' : EffD) : Bool :=
 sep (wS E) E'.rsl && sep (wS E) (wS E') && sep (wS E') E.rsl && sep (wB E) E'.rb && sep (wB E) (wB E') && sep (wB E') E.rb && (!E.mb || Nat.beq (dn E') 0) && (!E'.mb || Nat.beq (dn E) 0)

theorem ap_comm {E E' : EffD} (h1 : sep (wS E) (wS E') = true) (h2 : sep (wB E) (wB E') = true) : Alike (apD E (apD E' g)) (apD E' (apD E g)) := by
  refine ⟨fun t => ?_, fun q => ?_, ?_, by simp only [apD_ids]⟩
  · by_cases ht : t ∈ wS E
    · have ht' := sep_spec h1 ht
      have a : SlotEq (apD E (apD E' g)) (apD E g) t := apD_slot_congr (apD_slot ht')
      have b : SlotEq (apD E' (apD E g)) (apD E g) t := apD_slot ht'
      exact ⟨a.1.trans b.1.symm, a.2.trans b.2.symm⟩
    · have a : SlotEq (apD E (apD E' g)) (apD E' g) t := apD_slot ht
      have b : SlotEq (apD E' (apD E g)) (apD E' g) t := apD_slot_congr (apD_slot ht)
      exact ⟨a.1.trans b.1.symm, a.2.trans b.2.symm⟩
  · by_cases ht : q ∈ wB E
    · have ht' := sep_spec h2 ht
      exact (apD_box_congr (E := E) (apD_box (E := E') (g := g) ht')).trans (apD_box (E := E') (g := apD E g) ht').symm
    · exact (apD_box (E := E) (g := apD E' g) ht).trans (apD_box_congr (E := E') (apD_box (E := E) (g := g) ht)).symm
  · simp only [apD_nxt]; omega
end

section
variable {tt : TT} {ops : List Oper} {says : CallSays} {o : Oper} {E : EffD} {g g1 g2 : Rg}

theorem guardPath_congr (h : ∀ t, t ∈ opSlots ops o → SlotEq g1 g2 t) : guardPath ops g1 o = guardPath ops g2 o := by
 unfold guardPath
 split
 ·rfl
 ·rename_i j w hg
  cases ht : (ops[j]?).bind (·.dst) with
  | none => rfl
  | some t =>
   have := h t (by simp [opSlots, hg, ht])
   simp only [this.1, this.2]

theorem under_congr : ∀ {p : Path} {q : Prop}, (∀ x, x ∈ p → SlotEq g1 g2 x.1) → under g1 p q = under g2 p q
 | [], _, _ => rfl
 | (t, w) :: p, q, h => by
  have ht := h (t, w) (by simp)
  have ih := under_congr (p := p) (q := q) fun x hx => h x (by simp [hx])
  have : boolAt g1.env g1.cenv t = boolAt g2.env g2.cenv t := by unfold boolAt; rw [ht.1, ht.2]
  simp only [under, this, ih]

theorem readsH_congr {p : Path} (hs : ∀ x, x ∈ o.op.operands.toList → ∀ t, x = .tmp t → look g1.env t = look g2.env t ∧ look g1.cenv t = look g2.cenv t) (hids : g1.ids = g2.ids) (hH : ∀ q, q ∈ readsH tt g1 p o → look g1.H q = look g2.H q) : readsH tt g1 p o = readsH tt g2 p o := by
 have R : ∀ x, x ∈ o.op.operands.toList → ∀ p ty, rd g1.env g1.cenv p tt ty x = rd g2.env g2.cenv p tt ty x := fun x hx p ty => rd_congr (hs x hx) p ty
 cases ho : o.op with
 | alloc t => simp only [readsH, ho, hids]
 | box t x => simp only [readsH, ho, hids]
 | load t a => simp only [ho, Op.operands] at R; simp only [readsH, ho, R a (by simp)]
 | store t a x => simp only [ho, Op.operands] at R; simp only [readsH, ho, R a (by simp)]
 | call c =>
  simp only [ho, Op.operands, Call.operands] at R
  cases hc : c.callee with
  | value x =>
   have hx := R x (by simp [hc])
   have ha : rdL (rd g1.env g1.cenv p tt) c.args.toList c.argTypes.toList = rdL (rd g2.env g2.cenv p tt) c.args.toList c.argTypes.toList := rdL_congr fun y hy t => R y (by rw [Array.toList_append]; exact List.mem_append_right _ hy) p t
   simp only [readsH, ho, hc, hx, ha] at hH ⊢
   split
   ·rename_i f caps ds h1 h2
    simp only [h1, h2] at hH
    exact refsClosed_congr hH
   ·rfl
  | _ => simp only [readsH, ho, hc]
 | _ => simp only [readsH, ho]

structure Can1 (says : CallSays) (tt : TT) (ops : List Oper) (o : Oper) (E : EffD) (g : Rg) : Prop where
 gp : guardPath ops g o = some E.p
 st : step1 says tt ops { g with rs := E.rs } E.p o = some (bif Nat.beq E.kd 0 then .go E.f else .pan E.px E.ph E.f.ob)
 ob : ∀ q, q ∈ E.f.ob → under g E.p q
 rb : ∀ q, q ∈ readsH tt g E.p o → q ∈ E.rb
 fin : E.kd = 1 → ∀ q, q ∈ E.rb → look g.H q = look E.fH q
def Can (says : CallSays) (tt : TT) (ops : List Oper) (o : Oper) (E : EffD) (g : Rg) : Prop := E.kd = 2 ∨ Can1 says tt ops o E g

theorem Can.congr (h : Can says tt ops o E g1) (hrsl : ∀ t, t ∈ opSlots ops o ++ E.p.map (·.1) → t ∈ E.rsl) (hmk : makesBox o = E.mb) (hs : ∀ t, t ∈ E.rsl → SlotEq g1 g2 t) (hb : ∀ q, q ∈ E.rb → BoxEq g1 g2 q) (hn : E.mb = true → g1.nxt = g2.nxt) (hids : g1.ids = g2.ids) : Can says tt ops o E g2 := by
 rcases h with h | h
 ·exact .inl h
 right
 have hop : ∀ x, x ∈ o.op.operands.toList → ∀ t, x = .tmp t → look g1.env t = look g2.env t ∧ look g1.cenv t = look g2.cenv t := by
  rintro x hx t rfl
  exact hs t (hrsl t (List.mem_append_left _ (by simp only [opSlots, List.mem_append, List.mem_filterMap]; exact .inl ⟨_, hx, rfl⟩)))
 have hrd : readsH tt g1 E.p o = readsH tt g2 E.p o := readsH_congr hop hids (fun q hq => hb q (h.rb q hq))
 refine ⟨?_, ?_, fun q hq => ?_, (by rw [← hrd]; exact h.rb), fun hk q hq => (hb q hq).symm.trans (h.fin hk q hq)⟩
 ·rw [← guardPath_congr (g1 := g1) (g2 := g2) fun t ht => hs t (hrsl t (List.mem_append_left _ ht))]; exact h.gp
 ·rw [← h.st]
  refine (step1_congr (g1 := { g1 with rs := E.rs }) (g2 := { g2 with rs := E.rs }) hop rfl hids (fun hm => hn (by rw [← hmk]; exact hm)) (fun q hq => hb q ?_)).symm
  exact h.rb q hq
 ·rw [← under_congr (g1 := g1) (g2 := g2) fun x hx => hs x.1 (hrsl _ (List.mem_append_right _ (List.mem_map.2 ⟨x, hx, rfl⟩)))]
  exact h.ob q hq
end
end Go.Ab

/-
 AN ABSTRACT MACHINE OVER PURE STATES, part 25: regions that draw an order.
-/
namespace Go.Ab

def okE (ops : List Oper) (o : Oper) (E : EffD) : Bool := sep' (opSlots ops o ++ E.p.map (·.1)) E.rsl && (makesBox o == E.mb) && decide (E.dst = o.dst) && (match E.f.rs with | [] => true | _ => false)
where sep' (a b : List Nat) : Bool := a.all fun x => b.any (Nat.beq x)

theorem okE_spec {ops : List Oper} {o : Oper} {E : EffD} (h : okE ops o E = true) : (∀ t, t ∈ opSlots ops o ++ E.p.map (·.1) → t ∈ E.rsl) ∧ makesBox o = E.mb ∧ E.dst = o.dst ∧ E.f.rs = [] := by
 simp only [okE, Bool.and_eq_true, beq_iff_eq, decide_eq_true_eq] at h
 obtain ⟨⟨⟨h1, h2⟩, h3⟩, h4⟩ := h
 refine ⟨fun t ht => ?_, h2, h3, ?_⟩
 ·obtain ⟨y, hy, hty⟩ := List.any_eq_true.1 (List.all_eq_true.1 h1 t ht)
  have : t = y := by simpa using hty
  rw [this]; exact hy
 ·split at h4
  ·assumption
  ·cases h4

def waits (ops : List Oper) (i : Nat) : Nat → Nat → Bool
 | 0, _ => false
 | n + 1, j => match ops[j]? with
  | some o => o.after.toList.any fun e => Region.binds .any e && (Nat.beq e.on i || waits ops i n e.on)
  | none => false

def ClosedL (opsA : Array Oper) (listed : Array Bool) : Prop := ∀ (j : Nat) o, opsA[j]? = some o → listed.getD j false = true → ∀ e, e ∈ o.after → Region.binds .any e = true → listed.getD e.on false = true
theorem waits_closed {opsA : Array Oper} {listed : Array Bool} (hc : ClosedL opsA listed) {i : Nat} : ∀ {n j : Nat}, waits opsA.toList i n j = true → listed.getD j false = true → listed.getD i false = true
 | 0, _, h, _ => by simp [waits] at h
 | n + 1, j, h, hj => by
  simp only [waits] at h
  split at h
  ·rename_i o ho
   obtain ⟨e, he, hb⟩ := List.any_eq_true.1 h
   simp only [Bool.and_eq_true, Bool.or_eq_true, Nat.beq_eq] at hb
   have h1 := hc j o (by simpa using ho) hj e (by simpa using he) hb.1
   rcases hb.2 with rfl | h2
   ·exact h1
   ·exact waits_closed hc h2 h1
  ·cases h
theorem ClosedL.set {opsA : Array Oper} {listed : Array Bool} (hc : ClosedL opsA listed) {i : Nat} (hr : i ∈ Region.ready .any opsA listed) : ClosedL opsA (listed.setIfInBounds i true) := by
 intro j o ho hj e he hb
 by_cases hji : i = j
 ·subst hji
  obtain ⟨_, o', ho', hall⟩ := mem_ready.1 hr
  rw [ho] at ho'; cases ho'
  exact getD_set_true (hall e he hb)
 ·rw [getD_set_ne false hji] at hj
  exact getD_set_true (hc j o ho hj e he hb)

section
variable {says : CallSays} {tt : TT} {opsA : Array Oper} {Es : List EffD} {Fi : Rg → Prop} {g g1 g2 : Rg}

def AnyD (says : CallSays) (tt : TT) (opsA : Array Oper) (Es : List EffD) (Fi : Rg → Prop) : Nat → Array Bool → Rg → Prop
 | 0, listed, g => Region.ready .any opsA listed = [] ∧ Fi g
 | n + 1, listed, g => (Region.ready .any opsA listed = [] → Fi g) ∧ ∀ i, i ∈ Region.ready .any opsA listed → ∃ o E, opsA[i]? = some o ∧ Es[i]? = some E ∧ Can says tt opsA.toList o E g ∧
   AnyD says tt opsA Es Fi n (listed.setIfInBounds i true) (apD E g)

theorem AnyD.alike (hok : ∀ (i : Nat) o E, opsA[i]? = some o → Es[i]? = some E → okE opsA.toList o E = true) (hF : ∀ g1 g2, Alike g1 g2 → Fi g1 → Fi g2) : ∀ {n : Nat} {listed : Array Bool} {g1 g2 : Rg}, Alike g1 g2 → AnyD says tt opsA Es Fi n listed g1 → AnyD says tt opsA Es Fi n listed g2
 | 0, _, _, _, ha, h => ⟨h.1, hF _ _ ha h.2⟩
 | n + 1, _, _, _, ha, h => ⟨fun hr => hF _ _ ha (h.1 hr), fun i hi => by
   obtain ⟨o, E, ho, hE, hC, hn⟩ := h.2 i hi
   obtain ⟨k1, k2, _, _⟩ := okE_spec (hok i o E ho hE)
   exact ⟨o, E, ho, hE, hC.congr k1 k2 (fun t _ => ha.slot t) (fun q _ => ha.box q) (fun _ => ha.nxt) ha.ids, AnyD.alike hok hF ha.ap hn⟩⟩

theorem disj_spec {E E' : EffD} (h : disj E E' = true) : sep (wS E) E'.rsl = true ∧ sep (wS E) (wS E') = true ∧ sep (wS E') E.rsl = true ∧ sep (wB E) E'.rb = true ∧ sep (wB E) (wB E') = true ∧ sep (wB E') E.rb = true ∧ (E.mb = true → dn E' = 0) ∧ (E'.mb = true → dn E = 0) := by
 simp only [disj, Bool.and_eq_true, Bool.or_eq_true, Bool.not_eq_true', Nat.beq_eq] at h
 obtain ⟨⟨⟨⟨⟨⟨⟨h1, h2⟩, h3⟩, h4⟩, h5⟩, h6⟩, h7⟩, h8⟩ := h
 exact ⟨h1, h2, h3, h4, h5, h6, fun hm => h7.resolve_left (by simp [hm]), fun hm => h8.resolve_left (by simp [hm])⟩

theorem AnyD.first (hok : ∀ (i : Nat) o E, opsA[i]? = some o → Es[i]? = some E → okE opsA.toList o E = true) (hF : ∀ g1 g2, Alike g1 g2 → Fi g1 → Fi g2) {i : Nat} {o : Oper} {E : EffD} (hi : opsA[i]? = some o) (hE : Es[i]? = some E) :
  ∀ (fuel : Nat) (listed : Array Bool) (g : Rg),
   (∀ (j : Nat) oj Ej, opsA[j]? = some oj → Es[j]? = some Ej → j ≠ i → listed.getD j true = false → waits opsA.toList i 3 j = false → disj E Ej = true) → ClosedL opsA listed →
   i ∈ Region.ready .any opsA listed → Can says tt opsA.toList o E g → AnyD says tt opsA Es Fi fuel (listed.setIfInBounds i true) (apD E g) → AnyD says tt opsA Es Fi (fuel + 1) listed g := by
 intro fuel
 induction fuel with
 | zero =>
  intro listed g _ _ hr hC H
  refine ⟨fun h => (by rw [h] at hr; cases hr), fun j hj => ?_⟩
  by_cases hji : j = i
  ·subst hji; exact ⟨o, E, hi, hE, hC, H⟩
  ·have := ready_mono hj hji
   rw [H.1] at this
   cases this
 | succ fuel ih =>
  intro listed g hfree hcl hr hC H
  refine ⟨fun h => (by rw [h] at hr; cases hr), fun j hj => ?_⟩
  by_cases hji : j = i
  ·subst hji; exact ⟨o, E, hi, hE, hC, H⟩
  obtain ⟨oj, Ej, hoj, hEj, hCj, Hj⟩ := H.2 j (ready_mono hj hji)
  obtain ⟨hjun, oj', hoj', hall⟩ := mem_ready.1 hj
  rw [hoj] at hoj'; cases hoj'
  have hun : listed.getD i false = false := by
   have h0 := (mem_ready.1 hr).1
   rcases Nat.lt_or_ge i listed.size with h' | h'
   ·simpa [Array.getD_eq_getD_getElem?, h'] using h0
   ·simp [Array.getD_eq_getD_getElem?, Array.getElem?_eq_none h']
  have hnot : waits opsA.toList i 3 j = false := by
   rw [Bool.eq_false_iff]
   intro hw
   rw [waits] at hw
   have hl : opsA.toList[j]? = some oj := by simpa using hoj
   simp only [hl] at hw
   obtain ⟨e, he, hb⟩ := List.any_eq_true.1 hw
   simp only [Bool.and_eq_true, Bool.or_eq_true, Nat.beq_eq] at hb
   have h1 := hall e (by simpa using he) hb.1
   rcases hb.2 with rfl | h2
   ·rw [hun] at h1; cases h1
   ·rw [waits_closed hcl h2 h1] at hun; cases hun
  obtain ⟨d1, d2, d3, d4, d5, d6, d7, d8⟩ := disj_spec (hfree j oj Ej hoj hEj hji hjun hnot)
  obtain ⟨k1, k2, _, _⟩ := okE_spec (hok i o E hi hE)
  obtain ⟨l1, l2, _, _⟩ := okE_spec (hok j oj Ej hoj hEj)
  have c1 : Can says tt opsA.toList oj Ej g := hCj.congr l1 l2 (fun t ht => apD_slot fun hw => sep_spec d1 hw ht) (fun q hq => apD_box fun hw => sep_spec d4 hw hq) (fun hm => by rw [apD_nxt, d8 hm]; rfl) apD_ids
  have c2 : Can says tt opsA.toList o E (apD Ej g) := hC.congr k1 k2
   (fun t ht => by have := apD_slot (E := Ej) (g := g) (t := t) fun hw => sep_spec d3 hw ht; exact ⟨this.1.symm, this.2.symm⟩)
   (fun q hq => (apD_box (E := Ej) (g := g) (q := q) fun hw => sep_spec d6 hw hq).symm) (fun hm => by rw [apD_nxt, d7 hm]; rfl) apD_ids.symm
  refine ⟨oj, Ej, hoj, hEj, c1, ih (listed.setIfInBounds j true) (apD Ej g) ?_ (hcl.set hj) (ready_mono hr (Ne.symm hji)) c2 ?_⟩
  ·intro k ok Ek hk hEk hki hun hno
   refine hfree k ok Ek hk hEk hki ?_ hno
   by_cases hjk : j = k
   ·subst hjk; exact hjun
   ·rw [getD_set_ne true hjk] at hun; exact hun
  ·rw [Array.setIfInBounds_comm _ _ hji]
   exact AnyD.alike hok hF (ap_comm d2 d5).symm Hj

structure Lst (n k : Nat) (listed : Array Bool) : Prop where
 size : listed.size = n
 at' : ∀ j, j < n → listed[j]? = some (decide (j < k))

theorem Lst.set {n k : Nat} {listed : Array Bool} (h : Lst n k listed) : Lst n (k + 1) (listed.setIfInBounds k true) := by
 refine ⟨by simp [h.size], fun j hj => ?_⟩
 by_cases hjk : k = j
 ·subst hjk
  simp [h.size, hj]
 ·rw [Array.getElem?_setIfInBounds_ne hjk, h.at' j hj]
  congr 1
  have : (j < k) = (j < k + 1) := by apply propext; omega
  simp [this]

def readyAt (o : Oper) (k : Nat) : Bool := o.after.toList.all fun e => !Region.binds .any e || Nat.blt e.on k
def freeAt (ops : List Oper) (E : EffD) (k : Nat) : Nat → List (Oper × EffD) → Bool
 | _, [] => true
 | j, (_, E') :: l => (disj E E' || waits ops k 3 j) && freeAt ops E k (j + 1) l
def lexD (ops : List Oper) : Nat → List (Oper × EffD) → Bool
 | _, [] => true
 | k, (o, E) :: l => readyAt o k && freeAt ops E k (k + 1) l && lexD ops (k + 1) l
def ChainD (says : CallSays) (tt : TT) (ops : List Oper) (Fi : Rg → Prop) : List (Oper × EffD) → Rg → Prop
 | [], g => Fi g
 | (o, E) :: l, g => Can says tt ops o E g ∧ ChainD says tt ops Fi l (apD E g)

theorem freeAt_spec {ops : List Oper} {E : EffD} {k : Nat} : ∀ {l : List (Oper × EffD)} {n : Nat}, freeAt ops E k n l = true → ∀ (j : Nat) o E', l[j]? = some (o, E') → waits ops k 3 (n + j) = false → disj E E' = true
 | [], _, _, j, o, E', hj, _ => by simp at hj
 | (o1, E1) :: l, n, h, j, o, E', hj, hno => by
  simp only [freeAt, Bool.and_eq_true, Bool.or_eq_true] at h
  cases j with
  | zero =>
   simp at hj
   obtain ⟨rfl, rfl⟩ := hj
   exact h.1.resolve_right (by rw [Nat.add_zero] at hno; rw [hno]; simp)
  | succ j => exact freeAt_spec h.2 j o E' (by simpa using hj) (by rwa [show n + 1 + j = n + (j + 1) by omega])

theorem AnyD.text (hok : ∀ (i : Nat) o E, opsA[i]? = some o → Es[i]? = some E → okE opsA.toList o E = true) (hF : ∀ g1 g2, Alike g1 g2 → Fi g1 → Fi g2) :
  ∀ (l : List (Oper × EffD)) (k : Nat) (listed : Array Bool) (g : Rg), (∀ j : Nat, (l[j]?).map (·.1) = opsA[k + j]?) → (∀ j : Nat, (l[j]?).map (·.2) = Es[k + j]?) → Lst opsA.size k listed → ClosedL opsA listed → lexD opsA.toList k l = true → ChainD says tt opsA.toList Fi l g →
   AnyD says tt opsA Es Fi l.length listed g
 | [], k, listed, g, h1, _, hL, _, _, hc => by
  refine ⟨?_, hc⟩
  have hk : opsA[k]? = none := by have := h1 0; simpa using this.symm
  have hk' : opsA.size ≤ k := by simpa using hk
  refine List.eq_nil_iff_forall_not_mem.2 fun j hj => ?_
  obtain ⟨hu, o, ho, _⟩ := mem_ready.1 hj
  have hlt : j < opsA.size := (Array.getElem?_eq_some_iff.1 ho).1
  have := hL.at' j hlt
  rw [Array.getD_eq_getD_getElem?, this] at hu
  have hjk : j < k := by omega
  simp [hjk] at hu
 | (o, E) :: l, k, listed, g, h1, h2, hL, hcl, hx, hc => by
  have ho : opsA[k]? = some o := by have := h1 0; simpa using this.symm
  have hE : Es[k]? = some E := by have := h2 0; simpa using this.symm
  have hlt : k < opsA.size := (Array.getElem?_eq_some_iff.1 ho).1
  simp only [lexD, Bool.and_eq_true] at hx
  obtain ⟨⟨hr, hf⟩, hx⟩ := hx
  have hrdy : k ∈ Region.ready .any opsA listed := by
   refine mem_ready.2 ⟨?_, o, ho, fun e he hb => ?_⟩
   ·rw [Array.getD_eq_getD_getElem?, hL.at' k hlt]; simp
   ·have := List.all_eq_true.1 hr e (by simpa using he)
    simp only [hb, Bool.not_true, Bool.false_or, Nat.blt_eq] at this
    rw [Array.getD_eq_getD_getElem?, hL.at' e.on (by omega)]
    simp [this]
  refine AnyD.first hok hF ho hE l.length listed g ?_ hcl hrdy hc.1 (AnyD.text hok hF l (k + 1) _ _ (fun j => ?_) (fun j => ?_) hL.set (hcl.set hrdy) hx hc.2)
  ·intro j oj Ej hoj hEj hne hun hno
   have hjl : j < opsA.size := (Array.getElem?_eq_some_iff.1 hoj).1
   have hjk : k < j := by
    rw [Array.getD_eq_getD_getElem?, hL.at' j hjl] at hun
    simp at hun
    omega
   have e1 := h1 (j - k)
   have e2 := h2 (j - k)
   have ejk : k + (j - k) = j := by omega
   rw [ejk, hoj] at e1
   rw [ejk, hEj] at e2
   have e3 : (((o, E) :: l)[j - k]?) = l[j - k - 1]? := by
    have : j - k = (j - k - 1) + 1 := by omega
    rw [this]; simp
   rw [e3] at e1 e2
   cases hl : l[j - k - 1]? with
   | none => rw [hl] at e1; simp at e1
   | some x =>
    rw [hl] at e1 e2
    simp at e1 e2
    obtain ⟨x1, x2⟩ := x
    simp only at e1 e2
    subst e1; subst e2
    exact freeAt_spec hf _ _ _ hl (by rwa [show k + 1 + (j - k - 1) = j by omega])
  ·have := h1 (j + 1); simpa [Nat.add_assoc, Nat.add_comm 1 j] using this
  ·have := h2 (j + 1); simpa [Nat.add_assoc, Nat.add_comm 1 j] using this
end
end Go.Ab

/-
 AN ABSTRACT MACHINE OVER PURE STATES, part 26: regions that draw an order are sound.
-/
namespace Go.Ab

def okN (N : Nat) (E : EffD) : Bool :=
 match E.dst with
 | none => E.p.isEmpty
 | some t => Nat.blt t N && match E.p with
  | [] => true
  | p => E.f.e.isSome && E.f.hs.isEmpty && E.f.clr.isEmpty && p.all (fun y => !Nat.beq y.1 t) && Nat.beq E.f.nx 0

def freeAll2 (ops : List Oper) (i : Nat) (t : Nat) : Nat → List EffD → Bool
 | _, [] => true
 | j, E' :: l => (match E'.p with
  | [] => true
  | p => (match E'.dst with | some t' => Nat.beq t' t | none => false) || p.all (fun y => !Nat.beq y.1 t) || waits ops i 3 j) && freeAll2 ops i t (j + 1) l
def freeAll1 (ops : List Oper) (Es : List EffD) : Nat → List EffD → Bool
 | _, [] => true
 | i, E :: l => (match E.dst with
  | none => true
  | some t => freeAll2 ops i t 0 Es) && freeAll1 ops Es (i + 1) l
def freeAll (ops : List Oper) (Es : List EffD) : Bool := freeAll1 ops Es 0 Es

theorem freeAll2_spec {ops : List Oper} {i t : Nat} : ∀ {l : List EffD} {k : Nat}, freeAll2 ops i t k l = true → ∀ (j : Nat) (E' : EffD), l[j]? = some E' → E'.p ≠ [] →
  ((match E'.dst with | some t' => Nat.beq t' t | none => false) || E'.p.all (fun y => !Nat.beq y.1 t)) = true ∨ waits ops i 3 (k + j) = true
 | [], _, _, j, E', h, _ => by simp at h
 | E1 :: l, k, h, j, E', hj, hne => by
  simp only [freeAll2, Bool.and_eq_true] at h
  cases j with
  | zero =>
   simp at hj
   subst hj
   have h1 := h.1
   split at h1
   ·rename_i hnil; exact absurd hnil hne
   ·rw [Bool.or_eq_true] at h1; exact h1
  | succ j =>
   have := freeAll2_spec h.2 j E' (by simpa using hj) hne
   rwa [show k + (j + 1) = k + 1 + j by omega]
theorem freeAll1_spec {ops : List Oper} {Es : List EffD} : ∀ {l : List EffD} {k : Nat}, freeAll1 ops Es k l = true → ∀ (i : Nat) (E : EffD) (t : Nat), l[i]? = some E → E.dst = some t → freeAll2 ops (k + i) t 0 Es = true
 | [], _, _, i, E, t, h, _ => by simp at h
 | E1 :: l, k, h, i, E, t, hi, hd => by
  simp only [freeAll1, Bool.and_eq_true] at h
  cases i with
  | zero =>
   simp at hi
   subst hi
   have h1 := h.1
   rw [hd] at h1
   exact h1
  | succ i =>
   have := freeAll1_spec h.2 i E t (by simpa using hi) hd
   rwa [show k + (i + 1) = k + 1 + i by omega]

section
variable {P : Program} {K : Ctx} {N : Nat} {M : Mem} {β : Nat → Option Nat} {tt : TT} {opsA : Array Oper} {Es : List EffD} {g : Rg} {w : World} {tmps : Array Value}

def SubC (Es : List EffD) (listed : Array Bool) (g : Rg) : Prop := ∀ x, x ∈ g.cenv → ∃ (i : Nat) (E : EffD), Es[i]? = some E ∧ listed.getD i false = true ∧ E.dst = some x.1 ∧ E.p = x.2.1 ∧ E.p ≠ []

theorem mem_del {α : Type} : ∀ {l : List (Nat × α)} {t : Nat} {x : Nat × α}, x ∈ del l t → x ∈ l
 | [], _, _, h => by simp [del] at h
 | (j, y) :: l, t, x, h => by
  simp only [del] at h
  rw [Bool.cond_eq_ite] at h
  split at h
  ·exact List.mem_cons_of_mem _ (mem_del h)
  ·rcases List.mem_cons.1 h with rfl | h
   ·simp
   ·exact List.mem_cons_of_mem _ (mem_del h)

theorem SubC.ap {listed : Array Bool} {i : Nat} {E : EffD} (hE : Es[i]? = some E) (hi : i < listed.size) (h : SubC Es listed g) : SubC Es (listed.setIfInBounds i true) (apD E g) := by
 have h' : SubC Es (listed.setIfInBounds i true) g := fun x hx => by
  obtain ⟨j, E', h1, h2, h3⟩ := h x hx
  exact ⟨j, E', h1, getD_set_true h2, h3⟩
 intro x hx
 unfold apD at hx
 cases hd : E.dst with
 | none => simp only [hd] at hx; exact h' x hx
 | some t =>
  simp only [hd] at hx
  cases hp : E.p with
  | nil => simp only [hp] at hx; exact h' x (mem_del hx)
  | cons y p =>
   simp only [hp] at hx
   cases he : E.f.e with
   | none => simp only [he] at hx; exact h' x hx
   | some e =>
    simp only [he] at hx
    rcases List.mem_cons.1 hx with rfl | hx
    ·exact ⟨i, E, hE, by simp [hi], by simp [hd], by simp [hp], by simp [hp]⟩
    ·exact h' x (mem_del hx)

theorem freeOf_of {listed : Array Bool} {i : Nat} {E : EffD} {t : Nat} (hfree : freeAll opsA.toList Es = true) (hE : Es[i]? = some E) (hd : E.dst = some t) (hc : ClosedL opsA listed) (hi : listed.getD i false = false) (h : SubC Es listed g) : freeOf g.cenv t = true := by
 unfold freeOf
 rw [List.all_eq_true]
 intro x hx
 obtain ⟨j, E', hE', hl, hd', hp', hne⟩ := h x hx
 have h1 := freeAll1_spec hfree i E t hE hd
 rw [Nat.zero_add] at h1
 rcases freeAll2_spec h1 j E' hE' hne with h2 | h2
 ·rw [hd', hp'] at h2
  exact h2
 ·rw [Nat.zero_add] at h2
  have := waits_closed hc h2 hl
  rw [hi] at this; cases this

theorem opStep_of {listed : Array Bool} {says : CallSays} {o : Oper} {E : EffD} {i : Nat} (hk0 : E.kd = 0) (hC : Can1 says tt opsA.toList o E g) (hE : Es[i]? = some E) (hok : okE opsA.toList o E = true) (hN : okN N E = true) (hfree : freeAll opsA.toList Es = true) (hc : ClosedL opsA listed) (hi : listed.getD i false = false) (hsub : SubC Es listed g) :
  opStep says tt N opsA.toList { g with rs := E.rs, ob := [] } o = some (.go { apD E g with rs := [], ob := E.f.ob.map (under g E.p) }) := by
 obtain ⟨_, _, k3, k4⟩ := okE_spec hok
 have hg : guardPath opsA.toList { g with rs := E.rs, ob := [] } o = some E.p := hC.gp
 have hs : step1 says tt opsA.toList { g with rs := E.rs, ob := [] } E.p o = some (.go E.f) := by
  have hst := hC.st
  rw [hk0] at hst
  refine Eq.trans ?_ hst
  exact step1_congr (g1 := { g with rs := E.rs, ob := [] }) (g2 := { g with rs := E.rs }) (fun _ _ _ _ => ⟨rfl, rfl⟩) rfl rfl (fun _ => rfl) (fun _ _ => rfl)
 have hu : ∀ q, under { g with rs := E.rs, ob := [] } E.p q = under g E.p q := fun q => under_congr fun _ _ => ⟨rfl, rfl⟩
 unfold opStep
 rw [hg]
 dsimp only
 rw [hs]
 dsimp only
 rw [← k3]
 have hob : E.f.ob.map (under { g with rs := E.rs, ob := [] } E.p) ++ [] = E.f.ob.map (under g E.p) := by rw [List.append_nil]; exact List.map_congr_left fun q _ => hu q
 rw [hob, k4]
 unfold okN at hN
 unfold apD
 cases hd : E.dst with
 | none =>
  rw [hd] at hN
  dsimp only at hN ⊢
  rw [hN]
  rfl
 | some t =>
  rw [hd] at hN
  have hf := freeOf_of hfree hE hd hc hi hsub
  simp only [Bool.and_eq_true] at hN
  obtain ⟨hlt, hN⟩ := hN
  dsimp only
  rw [hlt, hf]
  cases hp : E.p with
  | nil => rfl
  | cons x p =>
   rw [hp] at hN
   simp only [Bool.and_eq_true, List.isEmpty_iff, Nat.beq_eq, Option.isSome_iff_exists] at hN
   obtain ⟨⟨⟨⟨⟨e, he⟩, hh⟩, hc⟩, hall⟩, hn⟩ := hN
   simp only [he, hh, hc, hn, hall]
   rfl

theorem AnyD.sound (htt : TTok P tt = true) (hk0 : ∀ (i : Nat) E, Es[i]? = some E → E.kd = 0) (hok : ∀ (i : Nat) o E, opsA[i]? = some o → Es[i]? = some E → okE opsA.toList o E = true) (hN : ∀ (i : Nat) E, Es[i]? = some E → okN N E = true) (hfree : freeAll opsA.toList Es = true) {Fi : Rg → Prop} {Q : Exit → Act → World → Prop}
  (hQ : ∀ g tmps' w' M' β', Fi g → SimG P K N M' β' g tmps' w' → Q .normal ⟨tmps', K.ds⟩ w') :
  ∀ (n : Nat) (listed : Array Bool) (g : Rg) (tmps : Array Value) (w : World) (M : Mem) (β : Nat → Option Nat), AnyD (saysC P) tt opsA Es Fi n listed g → listed.size = opsA.size → ClosedL opsA listed → SubC Es listed g → SimG P K N M β g tmps w → wpAny P .any opsA Q n listed ⟨tmps, K.ds⟩ w
 | 0, _, g, tmps, w, M, β, h, _, _, _, hs => ⟨h.1, hQ g tmps w M β h.2 hs⟩
 | n + 1, listed, g, tmps, w, M, β, h, hsz, hcl, hsub, hs => by
  refine ⟨fun hr => hQ g tmps w M β (h.1 hr) hs, fun i hi => ?_⟩
  obtain ⟨o, E, ho, hE, hC0, hn⟩ := h.2 i hi
  have hC := hC0.resolve_left (by rw [hk0 i E hE]; simp)
  have hlt : i < listed.size := by rw [hsz]; exact (Array.getElem?_eq_some_iff.1 ho).1
  have hun : listed.getD i false = false := by have := (mem_ready.1 hi).1; simpa [Array.getD_eq_getD_getElem?, hlt] using this
  have hstep := opStep_of (N := N) (hk0 i E hE) hC hE (hok i o E ho hE) (hN i E hE) hfree hcl hun hsub
  have hs' : SimG P K N M β { g with rs := E.rs, ob := [] } tmps w := ⟨hs.sim, hs.size, hs.fresh, hs.cond⟩
  unfold wpOp
  simp only [ho]
  refine opStep_go hs' htt (opsA := opsA) rfl hstep (fun q hq => ?_) (fun tmps' w' M' β' h' => ?_)
  ·obtain ⟨q', hq', rfl⟩ := List.mem_map.1 hq
   exact hC.ob q' hq'
  ·exact AnyD.sound htt hk0 hok hN hfree hQ n _ (apD E g) tmps' w' M' β' hn (by simpa using hsz) (hcl.set hi) (hsub.ap hE hlt) ⟨h'.sim, h'.size, h'.fresh, h'.cond⟩
end

def findD (says : CallSays) (tt : TT) (ops : List Oper) (g : Rg) (o : Oper) (rs : List RS) : Option EffD :=
 match guardPath ops g o with
 | none => none
 | some p => match step1 says tt ops { g with rs := rs } p o with
  | some (.go f) => some { dst := o.dst, p, f, rb := readsH tt g p o, rsl := opSlots ops o ++ p.map (·.1), mb := makesBox o, rs }
  | _ => none

def runDs (says : CallSays) (tt : TT) (ops : List Oper) : List Oper → List (List RS) → Rg → Option (List EffD × Rg × List Prop)
 | [], [], g => some ([], g, [])
 | o :: l, rs :: rss, g => match findD says tt ops g o rs with
  | some E => match runDs says tt ops l rss (apD E g) with
   | some (Es, g', ob) => some (E :: Es, g', ob ++ E.f.ob.map (under g E.p))
   | none => none
  | none => none
 | _, _, _ => none

def zip' : List Oper → List EffD → List (Oper × EffD)
 | o :: l, E :: m => (o, E) :: zip' l m
 | _, _ => []

def checkD (N : Nat) (ops : List Oper) (Es : List EffD) : Bool :=
 (zip' ops Es).all (fun x => okE ops x.1 x.2) && Es.all (okN N) && freeAll ops Es && lexD ops 0 (zip' ops Es)

section
variable {says : CallSays} {tt : TT} {ops : List Oper}
theorem runDs_spec {Fi : Rg → Prop} : ∀ {l : List Oper} {rss : List (List RS)} {g : Rg} {Es : List EffD} {g' : Rg} {ob : List Prop}, runDs says tt ops l rss g = some (Es, g', ob) → (∀ q, q ∈ ob → q) → Fi g' →
  Es.length = l.length ∧ (∀ E, E ∈ Es → E.kd = 0) ∧ ChainD says tt ops Fi (zip' l Es) g
 | [], [], g, Es, g', ob, h, _, hF => by
  simp only [runDs, Option.some.injEq, Prod.mk.injEq] at h
  obtain ⟨rfl, rfl, rfl⟩ := h
  exact ⟨rfl, by simp, hF⟩
 | o :: l, rs :: rss, g, Es, g', ob, h, hob, hF => by
  simp only [runDs] at h
  split at h
  case h_2 => cases h
  rename_i E hE
  split at h
  case h_2 => cases h
  rename_i Es1 g1 ob1 h1
  simp only [Option.some.injEq, Prod.mk.injEq] at h
  obtain ⟨rfl, rfl, rfl⟩ := h
  obtain ⟨h2, h20, h3⟩ := runDs_spec h1 (fun q hq => hob q (List.mem_append_left _ hq)) hF
  have hkd : E.kd = 0 := by
   unfold findD at hE
   split at hE
   ·cases hE
   split at hE
   ·cases hE; rfl
   ·cases hE
  refine ⟨by simp [h2], fun E' hE' => ?_, ?_, h3⟩
  ·rcases List.mem_cons.1 hE' with rfl | hE'
   ·exact hkd
   ·exact h20 E' hE'
  have hob' : ∀ q, q ∈ E.f.ob → under g E.p q := fun q hq => hob _ (List.mem_append_right _ (List.mem_map.2 ⟨q, hq, rfl⟩))
  unfold findD at hE
  split at hE
  ·cases hE
  rename_i p hp
  split at hE
  ·rename_i f hf
   cases hE
   exact .inr ⟨hp, hf, hob', fun _ h => h, fun h => by cases h⟩
  ·cases hE
 | [], _ :: _, _, _, _, _, h, _, _ => by simp [runDs] at h
 | _ :: _, [], _, _, _, _, h, _, _ => by simp [runDs] at h

theorem zip'_at : ∀ {l : List Oper} {m : List EffD}, m.length = l.length → ∀ (j : Nat), ((zip' l m)[j]?).map (·.1) = l[j]? ∧ ((zip' l m)[j]?).map (·.2) = m[j]?
 | [], [], _, j => by simp [zip']
 | o :: l, E :: m, h, j => by
  cases j with
  | zero => simp [zip']
  | succ j => simpa [zip'] using zip'_at (by simpa using h) j
 | [], _ :: _, h, _ => by simp at h
 | _ :: _, [], h, _ => by simp at h
theorem zip'_len : ∀ {l : List Oper} {m : List EffD}, m.length = l.length → (zip' l m).length = l.length
 | [], [], _ => rfl
 | _ :: l, _ :: m, h => by simp [zip', zip'_len (l := l) (m := m) (by simpa using h)]
 | [], _ :: _, h => by simp at h
 | _ :: _, [], h => by simp at h
end

section
variable {P : Program} {N E : Nat} {st : St} {tt : TT}

theorem Alike.sim {K : Ctx} {M : Mem} {β : Nat → Option Nat} {g1 g2 : Rg} {tmps : Array Value} {w : World} (ha : Alike g1 g2) (h : SimAt P K M β { env := g1.env, H := g1.H, nxt := g1.nxt } tmps w) : SimAt P K M β { env := g2.env, H := g2.H, nxt := g2.nxt } tmps w := by
 have hat : ∀ l, ({ env := g2.env, H := g2.H, nxt := g2.nxt } : St).at l = ({ env := g1.env, H := g1.H, nxt := g1.nxt } : St).at l := by
  intro l
  cases l with
  | slot s => exact (ha.slot s).1.symm
  | cell r i => simp only [St.at]; rw [← ha.box r]
 have hb : ∀ r, look g2.H r = look g1.H r := fun r => (ha.box r).symm
 constructor
 ·intro l e hl; rw [hat] at hl; exact h.ents l e hl
 ·intro l e T hl; rw [hat] at hl; exact h.own l e T hl
 ·intro l l' e e' T T' b hl hT hl'; rw [hat] at hl hl'; exact h.uniq l l' e e' T T' b hl hT hl'
 ·intro l e T b r cs hl hT hbl hr; rw [hat] at hl; exact h.unbox l e T b r cs hl hT hbl (by rw [← hb r]; exact hr)
 ·intro r cs hr; exact h.box r cs (by rw [← hb r]; exact hr)
 ·intro r r' b cs cs' hr hr'; exact h.inj r r' b cs cs' (by rw [← hb r]; exact hr) (by rw [← hb r']; exact hr')
 ·intro r b hr; exact (by have := h.lt r b hr; simpa [ha.nxt] using this)
 ·exact h.mem
 ·exact h.m0
 ·exact h.frame
 ·exact h.beta0
 ·exact h.good
 ·exact h.oo

theorem SimAt.drew {K : Ctx} {M : Mem} {β : Nat → Option Nat} {tmps : Array Value} {w : World} (h : SimAt P K M β st tmps w) (k : Nat) : SimAt P K M β st tmps { w with drawn := k } :=
 ⟨h.ents, h.own, h.uniq, h.unbox, h.box, h.inj, h.lt, h.mem, h.m0, h.frame, h.beta0, h.good, h.oo⟩

end
end Go.Ab

/-
 AN ABSTRACT MACHINE OVER PURE STATES, part 27: scopes.
-/
namespace Go.Ab

theorem AWp.scope {P : Program} {N E : Nat} {c : Code} {Q : AE → St → Prop} {st : St} (h : AWp P N E c Q st) : AWp P N E (.scope c) Q st := by
 intro K hK a w hs
 refine wp_scope_straight (wp_mono (h K hK a w hs) ?_)
 rintro e a' w' ⟨ae, st', h1, h2⟩
 cases ae with
 | normal => obtain ⟨rfl, h3⟩ := h1; exact ⟨.normal, st', ⟨rfl, h3⟩, h2⟩
 | exit i => obtain ⟨rfl, h3⟩ := h1; exact ⟨.exit i, st', ⟨rfl, h3⟩, h2⟩
 | ret => obtain ⟨rfl, h3⟩ := h1; exact ⟨.ret, st', ⟨rfl, h3⟩, h2⟩
 | pan x => obtain ⟨v, rfl, h3⟩ := h1; exact ⟨.pan x, st', ⟨v, rfl, h3⟩, h2⟩

def Sm.on {α β γ : Type} (x : α ⊕ β) (f : α → γ) (g : β → γ) : γ :=
 match x with
 | .inl a => f a
 | .inr b => g b
def Pr.on {α β γ : Type} (x : α × β) (f : α → β → γ) : γ := f x.1 x.2
end Go.Ab

/-
 AN ABSTRACT MACHINE OVER PURE STATES, part 28: contracts proved elsewhere.
-/
namespace Go.Ab

def GoodW (P : Program) (w : World) : Prop := (∀ g, g ∈ goodVars P → ∃ ev, w.cell? ⟨g, 0, none⟩ = some ev ∧ (ev = .nilIface ∨ ∃ te pe, ev = .iface te pe)) ∧
 ∀ g, P.globalNamed "internal/strconv.uint64pow10" = some g → ∃ t fr, w.heap[g]? = some (.cells pow10V t fr)

section
variable {P : Program}
theorem SimAt.goodW {K : Ctx} {M : Mem} {β : Nat → Option Nat} {st : St} {tmps : Array Value} {w : World} (h : SimAt P K M β st tmps w) : GoodW P w := ⟨fun g hg => by
 obtain ⟨cs, t, fr, ev, h1, h2, h3⟩ := h.good.1 g hg
 refine ⟨ev, ?_, h3⟩
 have := (h.frame g _ h1).1
 unfold World.cell?
 rw [this]
 exact h2, fun g hg => by
 obtain ⟨t, fr, h1⟩ := h.good.2 g hg
 exact ⟨t, fr, (h.frame g _ h1).1⟩⟩

theorem says_of_callsM {f : FuncId} {args : List D} {vsOf : World → List Value → Prop} {d : D} {fd : Func} (hfd : P.funcs[f]? = some fd) (hb : fd.body.isSome = true) (hn : decide (fd.name = "runtime.NumGoroutine") = false)
  (hargs : ∀ (w : World) (M : Mem) (β : Nat → Option Nat) (vs : List Value), (∀ b o v, M b o = some v → w.cell? ⟨b, o, none⟩ = some v) → vs.length = args.length → (∀ (i : Nat) v a, vs[i]? = some v → args[i]? = some a → RepD M β v a) → vsOf w vs)
  (hcalls : ∀ (vs : List Value) (w : World), vsOf w vs → GoodW P w → Calls P f ⟨vs⟩ w fun e w' => ∃ v, e = .returned v ∧ (∀ M β, RepD M β v d) ∧ (∀ (b : Nat) (ob : Obj), w.heap[b]? = some ob → w'.heap[b]? = some ob) ∧ (w'.os, w'.output) = (w.os, w.output)) :
  saysOf P f args [] [] (.ret d none) [] := by
 refine ⟨⟨fd, hfd, hb, by simpa using hn⟩, fun K w vs M β hlen hs hβ => ?_⟩
 have hv : vsOf w vs := hargs w M β vs hs.mem hlen fun i v a hi ha => by
  have h1 := hs.ents (.slot i) ⟨a, none⟩ (by
   simp only [St.at, envOf, look_enum0, withOwn_get, ha, Option.map_some, look])
  have h2 : valAt (⟨vs⟩ : Array Value) w β (.slot i) = v := by
   simp [valAt, hi]
  rw [h2] at h1
  exact h1
 refine (hcalls vs w hv hs.goodW).mono ?_
 rintro e w' ⟨v, rfl, hrep, hheap, hoo⟩
 refine ⟨.ret d none, [], v, M, β, ⟨rfl, rfl⟩, rfl, ?_⟩
 have hcell : ∀ b o v, w.cell? ⟨b, o, none⟩ = some v → w'.cell? ⟨b, o, none⟩ = some v := by
  intro b o v h
  unfold World.cell? at h ⊢
  cases hb : w.heap[b]? with
  | none => simp [hb] at h
  | some ob => rw [hheap b ob hb]; rw [hb] at h; exact h
 constructor
 ·intro l e hl
  cases l with
  | slot s =>
   simp only [St.at, resEnv, look_cons] at hl
   split at hl
   ·rename_i h0; subst h0; cases hl
    exact hrep M β
   ·simp [look] at hl
  | cell r i => simp [St.at, enumFrom', look] at hl
 ·intro l e T hl hT
  cases l with
  | slot s =>
   simp only [St.at, resEnv, look_cons] at hl
   split at hl
   ·cases hl; cases hT
   ·simp [look] at hl
  | cell r i => simp [St.at, enumFrom', look] at hl
 ·intro l l' e e' T T' b hl hT
  cases l with
  | slot s =>
   simp only [St.at, resEnv, look_cons] at hl
   split at hl
   ·cases hl; cases hT
   ·simp [look] at hl
  | cell r i => simp [St.at, enumFrom', look] at hl
 ·intro l e T b r cs hl hT hb hr; simp [enumFrom', look] at hr
 ·intro r cs hr; simp [enumFrom', look] at hr
 ·intro r r' b cs cs' hr; simp [enumFrom', look] at hr
 ·exact hs.lt
 ·exact fun b o v h => hcell b o v (hs.mem b o v h)
 ·exact hs.m0
 ·exact fun b ob h => ⟨hheap b ob (hs.frame b ob h).1, (hs.frame b ob h).2⟩
 ·exact hs.beta0
 ·exact hs.good
 ·exact hoo.trans hs.oo
theorem says_of_calls {f : FuncId} {args : List D} {vsOf : List Value → Prop} {d : D} {fd : Func} (hfd : P.funcs[f]? = some fd) (hb : fd.body.isSome = true) (hn : decide (fd.name = "runtime.NumGoroutine") = false)
  (hargs : ∀ (M : Mem) (β : Nat → Option Nat) (vs : List Value), vs.length = args.length → (∀ (i : Nat) v a, vs[i]? = some v → args[i]? = some a → RepD M β v a) → vsOf vs)
  (hcalls : ∀ (vs : List Value) (w : World), vsOf vs → GoodW P w → Calls P f ⟨vs⟩ w fun e w' => ∃ v, e = .returned v ∧ (∀ M β, RepD M β v d) ∧ (∀ (b : Nat) (ob : Obj), w.heap[b]? = some ob → w'.heap[b]? = some ob) ∧ (w'.os, w'.output) = (w.os, w.output)) :
  saysOf P f args [] [] (.ret d none) [] :=
 says_of_callsM (vsOf := fun _ vs => vsOf vs) hfd hb hn (fun _ M β vs _ => hargs M β vs) hcalls
end
end Go.Ab

/-
 AN ABSTRACT MACHINE OVER PURE STATES, part 29: short words for printed proofs: the state behind a region is named by its run.
-/
namespace Go.Ab

def run0 (says : CallSays) (tt : TT) (N : Nat) (ops : List Oper) (rs : List RS) (st : St) : Option Fin :=
 match runOps says tt N ops ops { env := st.env, cenv := [], H := st.H, nxt := st.nxt, rs, ob := [] } with
 | some (.go g) => match g.rs with
  | [] => some (.go { env := g.env, H := g.H, nxt := g.nxt } g.ob)
  | _ => none
 | some (.pan x st ob) => some (.pan x st ob)
 | none => none
def idsOf : List Oper → Nat → List (Nat × Nat)
 | [], _ => []
 | o :: l, n => match makesBox o, o.dst with
  | true, some t => (t, n) :: idsOf l (n + 1)
  | _, _ => idsOf l n
def startD (ops : List Oper) (st : St) : Rg :=
 { env := st.env, cenv := [], H := st.H, nxt := st.nxt + (idsOf ops st.nxt).length, rs := [], ob := [], ids := idsOf ops st.nxt }
def runD0 (says : CallSays) (tt : TT) (N : Nat) (ops : List Oper) (rss : List (List RS)) (st : St) : Option Fin :=
 match runDs says tt ops ops rss (startD ops st) with
 | some (Es, g, ob) => bif checkD N ops Es then some (.go { env := g.env, H := g.H, nxt := g.nxt } ob) else none
 | none => none
def stOf : Option Fin → St
 | some (.go st _) => st
 | some (.pan _ st _) => st
 | none => { env := [], H := [], nxt := 0 }
def obOf : Option Fin → Option (List Prop)
 | some (.go _ ob) => some ob
 | _ => none
def panOf : Option Fin → Option (V × List Prop)
 | some (.pan x _ ob) => some (x, ob)
 | _ => none
def spread : Nat → Nat → List (Nat × List RS) → List (List RS)
 | 0, _, _ => []
 | n + 1, i, l => (look l i).getD [] :: spread n (i + 1) l

theorem idsOf_ge : ∀ (l : List Oper) (n : Nat) (x : Nat × Nat), x ∈ idsOf l n → n ≤ x.2 ∧ True
 | [], n, x, h => by simp [idsOf] at h
 | o :: l, n, x, h => by
  unfold idsOf at h
  split at h
  ·rcases List.mem_cons.1 h with h | h
   ·subst h; exact ⟨Nat.le_refl _, trivial⟩
   ·have := (idsOf_ge l (n + 1) x h).1; exact ⟨by omega, trivial⟩
  ·exact idsOf_ge l n x h
theorem SimAt.up {P : Program} {K : Ctx} {M : Mem} {β : Nat → Option Nat} {st : St} {tmps : Array Value} {w : World} (h : SimAt P K M β st tmps w) (k : Nat) : SimAt P K M β { env := st.env, H := st.H, nxt := st.nxt + k } tmps w :=
 ⟨h.ents, h.own, h.uniq, h.unbox, h.box, h.inj, (fun r b hb => Nat.lt_of_lt_of_le (h.lt r b hb) (Nat.le_add_right _ _)), h.mem, h.m0, h.frame, h.beta0, h.good, h.oo⟩

section
variable {P : Program} {N E : Nat} {st : St} {tt : TT}

theorem AWp.rg {id : Nat} {opsA : Array Oper} {Q : AE → St → Prop} (htt : TTok P tt = true) (rs : List RS) {ps : List Prop} (hr : obOf (run0 (saysC P) tt N opsA.toList rs st) = some ps) (hob : AllP ps)
  (hQ : Q .normal (stOf (run0 (saysC P) tt N opsA.toList rs st))) : AWp P N E (.region id opsA false) Q st := by
 rintro K hK a w ⟨_, hd, hsz, M, β, hsim⟩
 obtain ⟨tmps, ds⟩ := a
 simp only at hd hsz
 subst hd
 have hG : SimG P K N M β { env := st.env, cenv := [], H := st.H, nxt := st.nxt, rs := rs, ob := [] } tmps w := ⟨hsim, hsz, (fun _ _ h => by simp [look] at h), fun _ _ _ h => by simp [look] at h⟩
 refine wp_region ?_
 unfold run0 at hr hQ
 have hlen : List.range opsA.size = List.range' 0 opsA.toList.length := by rw [List.range_eq_range']; simp
 rw [hlen]
 split at hr
 ·rename_i g hrun
  split at hr
  case h_2 => cases hr
  rename_i hrs
  simp only [obOf, Option.some.injEq] at hr
  subst hr
  rw [hrun] at hQ
  simp only [hrs, stOf] at hQ
  refine runOps_wp htt rfl (fin := .go g) hob.mem ?_ opsA.toList 0 _ tmps w M β (fun j => by simp) hG hrun
  intro tmps' w' M' β' h'
  exact ⟨.normal, _, ⟨rfl, rfl, h'.size, M', β', h'.sim⟩, hQ⟩
 ·cases hr
 ·cases hr

theorem AWp.rgP {id : Nat} {opsA : Array Oper} {Q : AE → St → Prop} (htt : TTok P tt = true) (rs : List RS) {x : V} {ps : List Prop} (hr : panOf (run0 (saysC P) tt N opsA.toList rs st) = some (x, ps)) (hob : AllP ps)
  (hQ : Q (.pan x) (stOf (run0 (saysC P) tt N opsA.toList rs st))) : AWp P N E (.region id opsA false) Q st := by
 rintro K hK a w ⟨_, hd, hsz, M, β, hsim⟩
 obtain ⟨tmps, ds⟩ := a
 simp only at hd hsz
 subst hd
 have hG : SimG P K N M β { env := st.env, cenv := [], H := st.H, nxt := st.nxt, rs := rs, ob := [] } tmps w := ⟨hsim, hsz, (fun _ _ h => by simp [look] at h), fun _ _ _ h => by simp [look] at h⟩
 refine wp_region ?_
 unfold run0 at hr hQ
 have hlen : List.range opsA.size = List.range' 0 opsA.toList.length := by rw [List.range_eq_range']; simp
 rw [hlen]
 split at hr
 ·split at hr <;> cases hr
 ·rename_i y st' ob hrun
  simp only [panOf, Option.some.injEq, Prod.mk.injEq] at hr
  obtain ⟨rfl, rfl⟩ := hr
  rw [hrun] at hQ
  refine runOps_wp htt rfl (fin := .pan y st' ob) hob.mem ?_ opsA.toList 0 _ tmps w M β (fun j => by simp) hG hrun
  intro e a' w' h'
  exact ⟨.pan y, _, h', hQ⟩
 ·cases hr

theorem AWp.rgD {id : Nat} {opsA : Array Oper} {Q : AE → St → Prop} (htt : TTok P tt = true) (hm : P.follows .mixedOrders = true) (rss : List (Nat × List RS)) {ps : List Prop} (hr : obOf (runD0 (saysC P) tt N opsA.toList (spread opsA.toList.length 0 rss) st) = some ps) (hob : AllP ps)
  (hQ : Q .normal (stOf (runD0 (saysC P) tt N opsA.toList (spread opsA.toList.length 0 rss) st))) : AWp P N E (.region id opsA true) Q st := by
 rintro K hK a w ⟨_, hd, hsz, M, β, hsim⟩
 obtain ⟨tmps, ds⟩ := a
 simp only at hd hsz
 subst hd
 refine wp_region_any hm ?_
 unfold runD0 at hr hQ
 split at hr
 case h_2 => cases hr
 rename_i Es g ob' hrun
 rw [hrun] at hQ
 dsimp only at hQ
 rw [Bool.cond_eq_ite] at hr hQ
 split at hr
 case isFalse => cases hr
 rename_i hc
 rw [if_pos hc] at hQ
 simp only [obOf, Option.some.injEq] at hr
 subst hr
 simp only [stOf] at hQ
 obtain ⟨hlen, hk0, hch⟩ := runDs_spec (Fi := fun g1 => Alike g g1) hrun hob.mem Alike.refl
 simp only [checkD, Bool.and_eq_true] at hc
 obtain ⟨⟨⟨c1, c2⟩, c3⟩, c4⟩ := hc
 have hok : ∀ (i : Nat) o E, opsA[i]? = some o → Es[i]? = some E → okE opsA.toList o E = true := by
  intro i o E ho hE
  obtain ⟨z1, z2⟩ := zip'_at hlen i
  have ho' : opsA.toList[i]? = some o := by simpa using ho
  rw [ho'] at z1; rw [hE] at z2
  cases hz : (zip' opsA.toList Es)[i]? with
  | none => rw [hz] at z1; simp at z1
  | some x =>
   rw [hz] at z1 z2
   simp at z1 z2
   subst z1; subst z2
   exact List.all_eq_true.1 c1 x (List.mem_of_getElem? hz)
 have hN : ∀ (i : Nat) E, Es[i]? = some E → okN N E = true := fun i E hE => List.all_eq_true.1 c2 E (List.mem_of_getElem? hE)
 have hcl0 : ClosedL opsA (Array.replicate opsA.size false) := fun j o ho hj => by have hlt : j < opsA.size := (Array.getElem?_eq_some_iff.1 ho).1; simp [Array.getD_eq_getD_getElem?, hlt] at hj
 have hany := AnyD.text hok (fun g1 g2 h12 h1 => Alike.trans h1 h12) (zip' opsA.toList Es) 0 (Array.replicate opsA.size false) _ (fun j => by have := (zip'_at hlen j).1; simpa using this) (fun j => by have := (zip'_at hlen j).2; simpa using this)
  ⟨by simp, fun j hj => by simp [hj]⟩ hcl0 c4 hch
 have hzl : (zip' opsA.toList Es).length = opsA.size := by rw [zip'_len hlen]; simp
 rw [hzl] at hany
 refine AnyD.sound (K := K) htt (fun i E hE => hk0 E (List.mem_of_getElem? hE)) hok hN c3 ?_ _ _ _ tmps _ M β hany (by simp) hcl0 (fun x hx => by cases hx) ⟨(hsim.drew _).up _, hsz, (fun s id h _ b hb => by have h1 := hsim.lt _ _ hb; have h2 := (idsOf_ge _ _ _ (look_mem h)).1; simp only at h2; omega), fun _ _ _ h => by simp [startD, look] at h⟩
 intro g1 tmps' w' M' β' hg1 h'
 exact ⟨.normal, _, ⟨rfl, rfl, h'.size, M', β', Alike.sim hg1.symm h'.sim⟩, hQ⟩

theorem AWp.cnd {α : Type} {b : Bool} {x y : Option α} {r : Option α} (h : (bif b then x else y) = r) {c : Nat} {cx cy : Code} {Q : AE → St → Prop} (hc : (look st.env c).map (·.d) = some (.v (.bool b)))
  (ht : x = r → AWp P N E cx Q st) (hf : y = r → AWp P N E cy Q st) : AWp P N E (.cond (.tmp c) cx cy) Q st := by
 simp only [Option.map_eq_some_iff] at hc
 obtain ⟨⟨d, own⟩, he, rfl⟩ := hc
 exact AWp.cond b own he (fun hb => ht (by subst hb; exact h)) (fun hb => hf (by subst hb; exact h))
theorem AWp.cndT {c : Nat} {cx cy : Code} {Q : AE → St → Prop} (hc : (look st.env c).map (·.d) = some (.v (.bool true))) (ht : AWp P N E cx Q st) : AWp P N E (.cond (.tmp c) cx cy) Q st := by
 simp only [Option.map_eq_some_iff] at hc
 obtain ⟨⟨d, own⟩, he, rfl⟩ := hc
 exact AWp.cond true own he (fun _ => ht) (fun hb => by cases hb)
theorem AWp.cndF {c : Nat} {cx cy : Code} {Q : AE → St → Prop} (hc : (look st.env c).map (·.d) = some (.v (.bool false))) (hf : AWp P N E cy Q st) : AWp P N E (.cond (.tmp c) cx cy) Q st := by
 simp only [Option.map_eq_some_iff] at hc
 obtain ⟨⟨d, own⟩, he, rfl⟩ := hc
 exact AWp.cond false own he (fun hb => by cases hb) (fun _ => hf)
end

def orc {P : Program} {f : FuncId} {args : List D} {ow : List (Nat × TypeId)} {H H2 : List (List Ent)} {out : Out} (_ : saysOf P f args ow H out H2) (os : List Nat) : RS := .call out (some H2) os
def orn {P : Program} {f : FuncId} {args : List D} {ow : List (Nat × TypeId)} {H H2 : List (List Ent)} {out : Out} (_ : saysOf P f args ow H out H2) (os : List Nat) : RS := .call out none os
def orn1 {c : Prop} {P : Program} {f : FuncId} {args : List D} {ow : List (Nat × TypeId)} {H H2 : List (List Ent)} {out : Out} (_ : c → saysOf P f args ow H out H2) : RS := .call out none []
def orn2 {c c2 : Prop} {P : Program} {f : FuncId} {args : List D} {ow : List (Nat × TypeId)} {H H2 : List (List Ent)} {out : Out} (_ : c → c2 → saysOf P f args ow H out H2) : RS := .call out none []
def orv {raw x : V} (_ : VImp raw x) : RS := .val x

theorem vimp_litm {α : Type} [Inhabited α] {k : Nat} {e : α → V} (l : List α) : VImp (.slc k l.length fun i => (l.map e).getD i .nilp) (encL k e l) := vimp_lit rfl _ rfl

def bytesOk (l : List Int) : Bool := l.all fun x => decide (0 ≤ x) && decide (x < 256)
def toB (l : List Int) : List UInt8 := l.map fun x => UInt8.ofNat x.toNat
theorem toB_ok {l : List Int} (h : bytesOk l = true) : (toB l).length = l.length ∧ ∀ i, i < l.length → V.int .u8 (l.getD i default) = .int .u8 (((toB l).getD i 0).toNat : Int) := by
 refine ⟨by simp [toB], fun i hi => ?_⟩
 unfold bytesOk at h
 rw [List.all_eq_true] at h
 have := h l[i] (List.getElem_mem hi)
 simp only [Bool.and_eq_true, decide_eq_true_eq] at this
 simp only [toB, List.getD, List.getElem?_map, List.getElem?_eq_getElem hi, Option.getD_some, Option.map_some, UInt8.toNat_ofNat']
 rw [Nat.mod_eq_of_lt (by omega)]
 congr 1
 omega
end Go.Ab

/-
 AN ABSTRACT MACHINE OVER PURE STATES, part 30: a function that defers one call, and recovers.
-/
namespace Go.Ab

def asFail (T : TypeId) : V → Option (Int × Int)
 | .iface t (.agg [.int .i64 a, .int .i64 b]) => bif Nat.beq t T then some (a, b) else none
 | _ => none
theorem asFail_some {T : TypeId} {x : V} {r : Int × Int} (h : asFail T x = some r) : x = .iface T (.agg [.int .i64 r.1, .int .i64 r.2]) := by
 unfold asFail at h
 split at h
 ·rw [Bool.cond_eq_ite] at h
  split at h
  ·rename_i hb
   cases h
   rw [Nat.beq_eq] at hb
   subst hb; rfl
  ·cases h
 ·cases h

def ModeIs (M : Mem) : Option V → FrameMode → Prop
 | none, m => m = .returning
 | some x, m => ∃ v, m = .panicking [{ v, recovered := false }] ∧ RepV M v x

def DCalls (P : Program) (fd : FuncId) (args : List D) (H : List (List Ent)) (x : Option V) (R : List (List Ent) → Prop) : Prop :=
 ∀ (K : Ctx) (w : World) (vs : List Value) (M : Mem) (β : Nat → Option Nat) (mode : FrameMode), vs.length = args.length →
  SimAt P K M β { env := envOf args [], H := enumFrom' 0 H, nxt := H.length } ⟨vs⟩ w → (∀ r b, β r = some b → K.β0 r = some b) → ModeIs M x mode →
  CallsD P fd ⟨vs⟩ mode w fun e u' w' => ∃ v H' M' β', e = .returned v ∧ settle u' = .returning ∧ R H' ∧ SimAt P K M' β' { env := resEnv (.ret (.tup []) none), H := enumFrom' 0 H', nxt := H.length } #[v] w'

section
variable {P : Program} {K : Ctx} {M : Mem} {β : Nat → Option Nat} {st : St} {tmps : Array Value} {w : World} {tt : TT}

theorem ModeIs.not_run {x : Option V} {m : FrameMode} (h : ModeIs M x m) : m ≠ .run := by
 cases x with
 | none => intro hm; rw [hm] at h; cases h
 | some x => obtain ⟨v, h1, _⟩ := h; intro hm; rw [hm] at h1; cases h1
theorem ModeIs.mono {M' : Mem} (hM : M.le M') {x : Option V} {m : FrameMode} (h : ModeIs M x m) : ModeIs M' x m := by
 cases x with
 | none => exact h
 | some x => obtain ⟨v, h1, h2⟩ := h; exact ⟨v, h1, h2.mono hM⟩

def Fin1 (P : Program) (tt : TT) (E : Nat) (rs : List ResultVar) (fd : FuncId) (ds : List D) (R : Out → List (List Ent) → Prop) (x : Option V) (st : St) : Prop :=
 ∃ (ρ : List Nat) (bs H1 : List (List Ent)) (args' : List D) (RH : List (List Ent) → Prop), nodupB ρ = true ∧ boxes st.H ρ = some bs ∧ renBoxes (idx ρ) bs = some H1 ∧ renL (idx ρ) ds = some args' ∧ DCalls P fd args' H1 x RH ∧
  ∀ H2, RH H2 → ∃ H2' o H', H2.length = ρ.length ∧ renBoxes (fun j => ρ[j]?) H2 = some H2' ∧ Ab.leave tt E rs { env := st.env, H := zipR ρ H2' ++ st.H, nxt := st.nxt } = some (o, H') ∧ R o (eraB H')

theorem leaves_of {fn : Func} {E : Nat} (htt : TTok P tt = true) (hK : ∀ r b, K.β0 r = some b → r < E) (hs : SimAt P K M β st tmps w) {fd : FuncId} {ds : List D} {vs : List Value} (hlen : vs.length = ds.length) (hv : ∀ (i : Nat) v d, vs[i]? = some v → ds[i]? = some d → RepD M β v d)
  {x : Option V} {mode : FrameMode} (hm : ModeIs M x mode) {f : Func} (hf : P.funcs[fd]? = some f) (hb : f.body.isSome = true) (hname : decide (f.name = "runtime.NumGoroutine") = false) {R : Out → List (List Ent) → Prop} (hfin : Fin1 P tt E fn.results.toList fd ds R x st) :
  Leaves P fn tmps (fun e w' => ∃ o H' v M' β', R o H' ∧ e = endOf o v ∧ SimAt P K M' β' { env := resEnv o, H := enumFrom' 0 H', nxt := E } #[v] w') [{ target := .fn (.func fd) ⟨vs⟩, args := #[] }] mode w := by
 obtain ⟨ρ, bs, H1, args', RH, hn, hbs, hH1, hargs, hd, hR⟩ := hfin
 have hbn : f.body ≠ none := by intro hh; rw [hh] at hb; cases hb
 have hnm : f.name ≠ "runtime.NumGoroutine" := by simpa using hname
 refine leaves_cons (f := fd) (args := ⟨vs⟩) hm.not_run (by simp [invoke, callFunc, hf, hbn, hnm]) ?_
 have hc := callee_sim (hd := []) hs hn hbs hH1 hlen hv hargs ⟨by simp, by simp, by simp⟩
 have hl1 : H1.length = ρ.length := by rw [(renBoxes_get hH1).1, (boxes_get hbs).1]
 refine (hd (callCtx M β st tmps w ρ []) w vs M _ mode (by rw [hlen, renL_len hargs]) hc (fun r b h => h) hm).mono ?_
 rintro e u' w' ⟨v, H', M', β', rfl, hu, hRH, hsim⟩
 obtain ⟨H2', o, H3, h1, h2, h3, h4⟩ := hR H' hRH
 rw [hl1] at hsim
 obtain ⟨hM, hsim2, _, _⟩ := caller_sim hs hn hbs h2 h1 hsim
 dsimp only
 rw [hu]
 obtain ⟨v2, h5, v', M2, β2, h6, h7⟩ := fin_leave htt hK hsim2 h3
 exact ⟨v2, h5, o, eraB H3, v', M2, β2, h4, h6, h7.era⟩

def DWp (P : Program) (_tt : TT) (fn : Func) (E : Nat) (c : Code) (R : Out → List (List Ent) → Prop) (st : St) : Prop :=
 ∀ (K : Ctx), K.ds = [] → (∀ r b, K.β0 r = some b → r < E) → ∀ (a : Act) (w : World), SimE P K fn.ntmps .normal st .normal a w →
  c.wp P (bodyPostD P fn fun e w' => ∃ o H' v M' β', R o H' ∧ e = endOf o v ∧ SimAt P K M' β' { env := resEnv o, H := enumFrom' 0 H', nxt := E } #[v] w') a w

def DPost (P : Program) (tt : TT) (fn : Func) (E : Nat) (y : Code) (R : Out → List (List Ent) → Prop) : AE → St → Prop
 | .normal, st => DWp P tt fn E y R st
 | .ret, st => ∃ o H', Ab.leave tt E fn.results.toList st = some (o, H') ∧ R o (eraB H')
 | _, _ => False

theorem DWp.seq {fn : Func} {E : Nat} {x y : Code} {R : Out → List (List Ent) → Prop} (htt : TTok P tt = true) (h : AWp P fn.ntmps E x (DPost P tt fn E y R) st) : DWp P tt fn E (.seq x y) R st := by
 intro K hds hK a w hs
 refine wp_seq (wp_mono (h K hK a w hs) ?_)
 rintro e a' w' ⟨ae, st', h1, h2⟩
 cases ae with
 | normal => obtain ⟨rfl, h3⟩ := h1; exact h2 K hds hK a' w' ⟨rfl, h3⟩
 | ret =>
  obtain ⟨rfl, hd, _, M', β', hsim⟩ := h1
  obtain ⟨o, H', h3, h4⟩ := h2
  obtain ⟨v, h5, v', M2, β2, h6, h7⟩ := fin_leave htt hK hsim h3
  show Leaves P fn a'.tmps _ a'.defers .returning w'
  rw [hd, hds]
  exact ⟨v, h5, o, eraB H', v', M2, β2, h4, h6, h7.era⟩
 | exit i => exact h2.elim
 | pan x => exact h2.elim

def LPost (P : Program) (tt : TT) (E : Nat) (rs : List ResultVar) (fd : FuncId) (ds : List D) (R : Out → List (List Ent) → Prop) : AE → St → Prop
 | .normal, st | .ret, st => Fin1 P tt E rs fd ds R none st
 | .pan x, st => Fin1 P tt E rs fd ds R (some x) st
 | .exit _, _ => False

theorem DWp.defer {fn : Func} {E : Nat} {id : Nat} {opsA : Array Oper} {o1 o2 : Oper} {y : Code} {R : Out → List (List Ent) → Prop} (htt : TTok P tt = true) (hops : opsA = #[o1, o2]) {t : Nat} {fd : FuncId} {caps : Array Operand} {c : Call}
  (h1 : o1.op = .makeFunc (.func fd) #[] caps) (h2 : o1.dst = some t) (h3 : o1.guard = none) (h4 : o2.op = .defer c) (h5 : o2.dst = none) (h6 : o2.guard = none) (h7 : c.callee = .value (.tmp t)) (h8 : c.args = #[]) (ht : Nat.blt t fn.ntmps = true)
  {ds : List D} (hcaps : mapM' (rd st.env [] [] tt 0) caps.toList = some ds) (_hE : Nat.ble E st.nxt = true) {f : Func} (hf : P.funcs[fd]? = some f) (hb : f.body.isSome = true) (hname : decide (f.name = "runtime.NumGoroutine") = false)
  (hds : belowL st.nxt ds = true)
  (h : AWp P fn.ntmps st.nxt y (LPost P tt E fn.results.toList fd ds R) { env := del st.env t, H := st.H, nxt := st.nxt }) : DWp P tt fn E (.seq (.region id opsA false) y) R st := by
 rintro K hKds hK a w ⟨_, hd, hsz, M, β, hsim⟩
 obtain ⟨tmps, defers⟩ := a
 simp only at hd hsz
 rw [hKds] at hd
 subst hd
 have hlt : t < tmps.size := by rw [hsz]; simpa using ht
 -- the captured values
 obtain ⟨hl1, hl2⟩ := mapM'_get hcaps
 have hG : SimG P K fn.ntmps M β { env := st.env, cenv := [], H := st.H, nxt := st.nxt, rs := [], ob := [] } tmps w := ⟨hsim, hsz, (fun _ _ h => by simp [look] at h), fun _ _ _ h => by simp [look] at h⟩
 have hvs : ∀ (i : Nat) v d, (caps.toList.map (⟨tmps, []⟩ : Act).eval)[i]? = some v → ds[i]? = some d → RepD M β v d := by
  intro i v d hv hd
  rw [List.getElem?_map, Option.map_eq_some_iff] at hv
  obtain ⟨x, hx, rfl⟩ := hv
  exact rd_rep (ds := []) (p := []) hG (fun x hx => by cases hx) (hl2 i x d hx hd)
 have hlen : (caps.toList.map (⟨tmps, []⟩ : Act).eval).length = ds.length := by simp at hl1 ⊢; omega
 -- the frame behind the region
 have hsim1 : SimAt P K M β { env := del st.env t, H := st.H, nxt := st.nxt } (tmps.setIfInBounds t (.func (.func fd) #[] ⟨caps.toList.map (⟨tmps, []⟩ : Act).eval⟩)) w := hsim.drop
 let K' : Ctx := { M0 := M, F := K.F, β0 := fun r => if r < st.nxt then β r else none, oo := K.oo, ds := [{ target := .fn (.func fd) ⟨caps.toList.map (⟨tmps, []⟩ : Act).eval⟩, args := #[] }] }
 have hsim2 : SimAt P K' M β { env := del st.env t, H := st.H, nxt := st.nxt } (tmps.setIfInBounds t (.func (.func fd) #[] ⟨caps.toList.map (⟨tmps, []⟩ : Act).eval⟩)) w :=
  ⟨hsim1.ents, hsim1.own, hsim1.uniq, hsim1.unbox, hsim1.box, hsim1.inj, hsim1.lt, hsim1.mem, Mem.le_refl _, (fun b ob hF => ⟨(hsim1.frame b ob hF).1, fun _ => rfl⟩), (fun r b hb => by
   simp only [K'] at hb; split at hb
   ·exact hb
   ·cases hb), hsim1.good, hsim1.oo⟩
 have hback : ∀ {M' : Mem} {β' : Nat → Option Nat} {st' : St} {tmps' : Array Value} {w' : World}, SimAt P K' M' β' st' tmps' w' → SimAt P K M' β' st' tmps' w' := by
  intro M' β' st' tmps' w' h'
  exact ⟨h'.ents, h'.own, h'.uniq, h'.unbox, h'.box, h'.inj, h'.lt, h'.mem, Mem.le_trans hsim.m0 h'.m0, (fun b ob hF => ⟨(h'.frame b ob hF).1, fun o => ((h'.frame b ob hF).2 o).trans ((hsim.frame b ob hF).2 o)⟩), (fun r b hb => h'.beta0 r b (by
   have h9 := hsim.beta0 r b hb
   have h10 := hsim.lt r b h9
   simp only [K']; rw [if_pos h10]; exact h9)), h'.good, h'.oo⟩
 have hβ : ∀ {M' : Mem} {β' : Nat → Option Nat} {st' : St} {tmps' : Array Value} {w' : World}, SimAt P K' M' β' st' tmps' w' → ∀ r, r < st.nxt → ∀ b, β r = some b → β' r = some b := fun h' r hr b hb => h'.beta0 r b (by simp only [K']; rw [if_pos hr]; exact hb)
 refine wp_seq (wp_region ?_)
 subst hops
 have e1 : (execOp (Act.eval ⟨tmps, []⟩) o1).run P w = .ok (.value (.func (.func fd) #[] ⟨caps.toList.map (⟨tmps, []⟩ : Act).eval⟩)) w := by
  simp only [execOp, h1, Instr.makeFunc]
  refine runv _ ?_
  simp
  congr 1
  apply Array.ext'
  simp
 have e2 : (execOp (Act.eval ⟨tmps.setIfInBounds t (.func (.func fd) #[] ⟨caps.toList.map (⟨tmps, []⟩ : Act).eval⟩), []⟩) o2).run P w = .ok (.defer { target := .fn (.func fd) ⟨caps.toList.map (⟨tmps, []⟩ : Act).eval⟩, args := #[] }) w := by
  simp [execOp, h4, resolve, h7, h8, Deferred.ofValue, Act.eval, hlt]
 show wpOps P #[o1, o2] _ (List.range 2) ⟨tmps, []⟩ w
 simp only [List.range, List.range.loop, wpOps]
 have hw1 : ∀ tm, Region.wanted o1 (yielded #[o1, o2] tm) = true := fun tm => by simp [Region.wanted, h3]
 have hw2 : ∀ tm, Region.wanted o2 (yielded #[o1, o2] tm) = true := fun tm => by simp [Region.wanted, h6]
 simp only [show (#[o1, o2] : Array Oper)[0]? = some o1 from rfl, show (#[o1, o2] : Array Oper)[1]? = some o2 from rfl, hw1, hw2, if_true]
 refine .inl ?_
 unfold Oper.wp
 rw [e1, Oper.upon_value, h2]
 refine .inl ?_
 have e2' : (execOp ((⟨tmps, []⟩ : Act).put (some t) (.func (.func fd) #[] ⟨caps.toList.map (⟨tmps, []⟩ : Act).eval⟩)).eval o2).run P w = .ok (.defer { target := .fn (.func fd) ⟨caps.toList.map (⟨tmps, []⟩ : Act).eval⟩, args := #[] }) w := e2
 rw [e2', Oper.upon_defer, h5]
 show y.wp P _ ⟨tmps.setIfInBounds t _, [_]⟩ w
 have hE' : ∀ r b, K'.β0 r = some b → r < st.nxt := by
  intro r b hb
  simp only [K'] at hb
  split at hb
  ·assumption
  ·cases hb
 refine wp_mono (h K' hE' _ w ⟨rfl, rfl, by simpa using hsz, M, β, hsim2⟩) ?_
 rintro e a' w' ⟨ae, st', g1, g2⟩
 have hv' : ∀ {M' : Mem} {β' : Nat → Option Nat} {st' : St} {tmps' : Array Value} {w' : World}, SimAt P K' M' β' st' tmps' w' → ∀ (i : Nat) v d, (caps.toList.map (⟨tmps, []⟩ : Act).eval)[i]? = some v → ds[i]? = some d → RepD M' β' v d := by
  intro M' β' st' tmps' w' h' i v d hv hd
  have hM : M.le M' := h'.m0
  exact ((hvs i v d hv hd).mono hM).keep' (fun r hr b hb => hβ h' r hr b hb) (belowL_get hds hd)
 cases ae with
 | normal =>
  obtain ⟨rfl, hd, _, M', β', hs⟩ := g1
  show Leaves P fn a'.tmps _ a'.defers .returning w'
  rw [hd]
  exact leaves_of htt hK (hback hs) hlen (hv' hs) (x := none) rfl hf hb hname g2
 | ret =>
  obtain ⟨rfl, hd, _, M', β', hs⟩ := g1
  show Leaves P fn a'.tmps _ a'.defers .returning w'
  rw [hd]
  exact leaves_of htt hK (hback hs) hlen (hv' hs) (x := none) rfl hf hb hname g2
 | exit i => exact g2.elim
 | pan x =>
  obtain ⟨v, rfl, hd, M', β', hrep, hs⟩ := g1
  show Leaves P fn a'.tmps _ a'.defers (.panicking _) w'
  rw [hd]
  exact leaves_of htt hK (hback hs) hlen (hv' hs) (x := some x) ⟨v, rfl, hrep⟩ hf hb hname g2

theorem ACalls.of_dwp {f : FuncId} {fn : Func} {c : Code} {args : List D} {ow : List (Nat × TypeId)} {H : List (List Ent)} {R : Out → List (List Ent) → Prop} (hf : P.funcs[f]? = some fn) (hb : fn.body = some c) (hname : decide (fn.name = "runtime.NumGoroutine") = false)
  (hargs : Nat.ble args.length fn.ntmps = true) (h : DWp P tt fn H.length c R { env := envOf args ow, H := enumFrom' 0 H, nxt := H.length }) : ACalls P f args ow H R := by
 refine ⟨⟨fn, hf, by rw [hb]; rfl, by simpa using hname⟩, ?_⟩
 intro K0 w vs M β hlen hsim0 hβ0
 suffices key : ∀ K : Ctx, K.ds = [] → SimAt P K M β { env := envOf args ow, H := enumFrom' 0 H, nxt := H.length } ⟨vs⟩ w → (∀ r b, β r = some b → K.β0 r = some b) →
   Calls P f ⟨vs⟩ w fun e w' => ∃ o H' v M' β', R o H' ∧ e = endOf o v ∧ SimAt P K M' β' { env := resEnv o, H := enumFrom' 0 H', nxt := H.length } #[v] w' from
  (key { K0 with ds := [] } rfl (hsim0.setDs []) hβ0).mono fun e w' ⟨o, H', v, M', β', h1, h2, h3⟩ => ⟨o, H', v, M', β', h1, h2, h3.setDs K0.ds⟩
 intro K hds hsim hβ
 have hK : ∀ r b, K.β0 r = some b → r < H.length := fun r b hb => hsim.lt r b (hsim.beta0 r b hb)
 simp only [Nat.ble_eq] at hargs
 exact calls_of_wp_defers hf hb (h K hds hK { tmps := (⟨vs⟩ : Array Value) ++ Array.replicate (fn.ntmps - (⟨vs⟩ : Array Value).size) undef, defers := [] } w ⟨rfl, hds.symm, by simp; omega, M, β, start_sim hlen hsim⟩)

theorem DCalls.of_recover {fd : FuncId} {fn : Func} {i0 : Nat} {opsA : Array Oper} {o1 o2 : Oper} {rest : Code} {r t2 : Nat} {c : Call} (htt : TTok P tt = true) (hf : P.funcs[fd]? = some fn) (hb : fn.body = some (.seq (.region i0 opsA false) rest)) (hops : opsA = #[o1, o2])
  (h1 : o1.op = .call c) (h2 : o1.dst = some r) (h3 : o1.guard = none) (h4 : c.callee = .builtin .recover) (h5 : c.args = #[]) (h6 : o2.op = .assign (.tmp r)) (h7 : o2.dst = some t2) (h8 : o2.guard = none)
  {args : List D} {H : List (List Ent)} {x : Option V} {R : List (List Ent) → Prop} (hr : Nat.blt r fn.ntmps = true) (ht2 : Nat.blt t2 fn.ntmps = true) (hargs : Nat.ble args.length fn.ntmps = true)
  (h : AWp P fn.ntmps H.length rest (postF tt H.length fn.results.toList fun o H' => o = .ret (.tup []) none ∧ R H') { env := (t2, { d := .v (x.getD .nili) }) :: del (envOf args []) r, H := enumFrom' 0 H, nxt := H.length }) : DCalls P fd args H x R := by
 intro K w vs M β mode hlen hsim hβ hm
 have hK : ∀ r b, K.β0 r = some b → r < H.length := fun r b hb => hsim.lt r b (hsim.beta0 r b hb)
 simp only [Nat.ble_eq] at hargs
 simp only [Nat.blt_eq] at hr ht2
 refine callsD_of_wpS hf hb fun c₀ cs hu => ?_
 apply wpS_seq
 apply wpS_region
 subst hops
 have hw1 : ∀ tm, Region.wanted o1 (yielded #[o1, o2] tm) = true := fun tm => by simp [Region.wanted, h3]
 have hw2 : ∀ tm, Region.wanted o2 (yielded #[o1, o2] tm) = true := fun tm => by simp [Region.wanted, h8]
 have e1 : ∀ a : Act, (execOp a.eval o1).run P w = .ok .recover w := fun a => by
  simp [execOp, h1, resolve, h4, h5, invoke, builtin]
 have hst := start_sim (n := fn.ntmps - (⟨vs⟩ : Array Value).size) hlen hsim
 -- what 'recover' gives
 have key : ∃ (v : Value) (u' : FrameMode), RepV M v (x.getD .nili) ∧ settle u' = .returning ∧ (recoverD (c₀ :: cs) = some (v, { c₀ with mode := u' } :: cs) ∨ (recoverD (c₀ :: cs) = none ∧ v = .nilIface ∧ ({ c₀ with mode := u' } : Frame) = c₀)) := by
  cases x with
  | none =>
   have hm' : mode = .returning := hm
   subst hm'
   exact ⟨.nilIface, .returning, .nili, rfl, .inr ⟨by simp [recoverD, hu], rfl, by rw [← hu]⟩⟩
  | some y =>
   obtain ⟨v, hm', hv⟩ := hm
   subst hm'
   exact ⟨v, .panicking [{ v, recovered := true }], hv, by simp [settle], .inl (by simp [recoverD, hu])⟩
 obtain ⟨v, u', hv, hset, hrec⟩ := key
 show wpOpsS P #[o1, o2] _ (List.range 2) _ (c₀ :: cs) w
 simp only [List.range, List.range.loop, wpOpsS, show (#[o1, o2] : Array Oper)[0]? = some o1 from rfl, show (#[o1, o2] : Array Oper)[1]? = some o2 from rfl, hw1, hw2, if_true, e1]
 have e2 : ∀ tm : Array Value, r < tm.size → (execOp (Act.eval ⟨tm.setIfInBounds r v, []⟩) o2).run P w = .ok (.value v) w := fun tm ht => by
  simp [execOp, h6, Act.eval, ht]
 have hsz : ((⟨vs⟩ : Array Value) ++ Array.replicate (fn.ntmps - (⟨vs⟩ : Array Value).size) undef).size = fn.ntmps := by simp; omega
 generalize htm : (⟨vs⟩ : Array Value) ++ Array.replicate (fn.ntmps - (⟨vs⟩ : Array Value).size) undef = tm at hst hsz
 have hfin : ∀ cs', cs' = { c₀ with mode := u' } :: cs → rest.wpS P (bodyPostS P fn c₀ cs fun e u' w' => ∃ v H' M' β', e = .returned v ∧ settle u' = .returning ∧ R H' ∧ SimAt P K M' β' { env := resEnv (.ret (.tup []) none), H := enumFrom' 0 H', nxt := H.length } #[v] w')
   ⟨(tm.setIfInBounds r v).setIfInBounds t2 v, []⟩ cs' w := by
  intro cs' hcs
  have hs2 : SimAt P { K with ds := [] } M β { env := (t2, { d := .v (x.getD .nili) }) :: del (envOf args []) r, H := enumFrom' 0 H, nxt := H.length } ((tm.setIfInBounds r v).setIfInBounds t2 v) w :=
   ((hst.drop (t := r) (v := v)).put (t := t2) (v := v) (e := { d := .v (x.getD .nili) }) (by rw [Array.size_setIfInBounds, hsz]; exact ht2) (.v _ _ hv) (fun T hT => by cases hT)).setDs []
  refine wpS_of_wp (wp_mono (h { K with ds := [] } hK _ w ⟨rfl, rfl, by simpa using hsz, M, β, hs2⟩) ?_)
  rintro e a' w' ⟨ae, st', g1, g2⟩
  cases ae with
  | normal =>
   obtain ⟨rfl, hd, _, M', β', hs⟩ := g1
   obtain ⟨o, H', g3, rfl, g4⟩ := g2
   obtain ⟨v2, g5, v', M2, β2, g6, g7⟩ := fin_leave htt (K := { K with ds := [] }) hK hs g3
   cases g6
   exact ⟨hd, u', hcs, v2, g5, v2, H', M2, β2, rfl, hset, g4, g7.setDs K.ds⟩
  | ret =>
   obtain ⟨rfl, hd, _, M', β', hs⟩ := g1
   obtain ⟨o, H', g3, rfl, g4⟩ := g2
   obtain ⟨v2, g5, v', M2, β2, g6, g7⟩ := fin_leave htt (K := { K with ds := [] }) hK hs g3
   cases g6
   exact ⟨hd, u', hcs, v2, g5, v2, H', M2, β2, rfl, hset, g4, g7.setDs K.ds⟩
  | exit i => exact g2.elim
  | pan y =>
   obtain ⟨H', _, g4, _⟩ := g2
   cases g4
 have e3 : (execOp ((({ tmps := tm, defers := [] } : Act).put o1.dst v).eval) o2).run P w = .ok (.value v) w := by
  rw [h2]; exact e2 tm (by omega)
 rcases hrec with hrec | ⟨hrec, rfl, hc0⟩
 ·simp only [hrec, e3]
  rw [Oper.upon_value, h2, h7]
  exact hfin _ rfl
 ·simp only [hrec, e3]
  rw [Oper.upon_value, h2, h7]
  exact hfin _ (by rw [hc0])
end
end Go.Ab

/-
 AN ABSTRACT MACHINE OVER PURE STATES, part 31: a region that draws an order, and panics.
-/
namespace Go.Ab

def keepR (H : List (Nat × List Ent)) : Nat → List (Nat × List Ent)
 | 0 => []
 | n + 1 => match look H n with
  | some cs => (n, cs) :: keepR H n
  | none => keepR H n
theorem keepR_at {H : List (Nat × List Ent)} : ∀ {n q : Nat} {cs : List Ent}, look (keepR H n) q = some cs → q < n ∧ look H q = some cs
 | 0, q, cs, h => by simp [keepR, look] at h
 | n + 1, q, cs, h => by
  unfold keepR at h
  split at h
  ·rename_i c hc
   rw [look_cons] at h
   split at h
   ·rename_i hq; subst hq; cases h; exact ⟨by omega, hc⟩
   ·obtain ⟨h1, h2⟩ := keepR_at h; exact ⟨by omega, h2⟩
  ·obtain ⟨h1, h2⟩ := keepR_at h; exact ⟨by omega, h2⟩
def effP (mk : Nat) (ops : List Oper) (o : Oper) (x : V) (hs : List (Nat × List Ent)) (ob : List Prop) (rb : List Nat) (rs : List RS) (fH : List (Nat × List Ent)) : EffD :=
 { dst := o.dst, p := [], f := { e := none, rs := [], hs := [(mk, [])], ob }, rb, rsl := opSlots ops o, mb := makesBox o, rs, kd := 1, px := x, ph := hs, fH }
def effDead (ops : List Oper) (o : Oper) : EffD :=
 { dst := o.dst, p := [], f := { e := none, rs := [] }, rb := [], rsl := opSlots ops o, mb := makesBox o, rs := [], kd := 2 }
def runPs (says : CallSays) (tt : TT) (ops : List Oper) (kp mk : Nat) : Nat → List Oper → List (List RS) → Rg → Option (List EffD × Rg × List Prop × List (V × List (Nat × List Ent)))
 | _, [], [], g => some ([], g, [], [])
 | i, o :: l, rs :: rss, g => bif Nat.beq i kp then match guardPath ops g o with
   | some [] => match step1 says tt ops { g with rs := rs } [] o with
    | some (.pan x hs ob) => match runPs says tt ops kp mk (i + 1) l rss (apD (effP mk ops o x hs ob (readsH tt g [] o ++ List.range mk) rs g.H) g) with
     | some (Es, g', ob', xs) => some (effP mk ops o x hs ob (readsH tt g [] o ++ List.range mk) rs g.H :: Es, g', ob' ++ ob, (x, hs ++ keepR g.H mk) :: xs)
     | none => none
    | _ => none
   | _ => none
  else bif waits ops kp 3 i then match runPs says tt ops kp mk (i + 1) l rss (apD (effDead ops o) g) with
   | some (Es, g', ob', xs) => some (effDead ops o :: Es, g', ob', xs)
   | none => none
  else match findD says tt ops g o rs with
   | some E => bif E.f.hs.all (fun y => !Nat.beq y.1 mk) then match runPs says tt ops kp mk (i + 1) l rss (apD E g) with
     | some (Es, g', ob', xs) => some (E :: Es, g', ob' ++ E.f.ob.map (under g E.p), xs)
     | none => none
    else none
   | none => none
 | _, _, _, _ => none

def runDP (says : CallSays) (tt : TT) (N : Nat) (ops : List Oper) (kp mk : Nat) (rss : List (List RS)) (st : St) : Option (V × List (Nat × List Ent) × List Prop) :=
 match runPs says tt ops kp mk 0 ops rss (startD ops st) with
 | some (Es, g, ob, [(x, hs)]) => bif checkD N ops Es && (look g.H mk).isSome && (look st.H mk).isNone then some (x, hs, ob) else none
 | _ => none

def panDP : Option (V × List (Nat × List Ent) × List Prop) → Option (V × List Prop)
 | some (x, _, ps) => some (x, ps)
 | none => none
def panH : Option (V × List (Nat × List Ent) × List Prop) → List (Nat × List Ent)
 | some (_, H, _) => H
 | none => []

section
variable {P : Program} {K : Ctx} {N E : Nat} {st : St} {tt : TT} {opsA : Array Oper} {says : CallSays}

structure PanEs (opsA : Array Oper) (Es : List EffD) (kp mk : Nat) (x : V) (hs : List (Nat × List Ent)) : Prop where
 dead : ∀ (i : Nat) E, Es[i]? = some E → E.kd = 2 → waits opsA.toList kp 3 i = true
 pan : ∀ (i : Nat) E, Es[i]? = some E → E.kd = 1 → E.p = [] ∧ E.px = x ∧ E.ph ++ keepR E.fH mk = hs ∧ ∀ q, q < mk → q ∈ E.rb
 go : ∀ (i : Nat) E, Es[i]? = some E → E.kd = 0 → i ≠ kp ∧ (E.f.hs.all (fun y => !Nat.beq y.1 mk)) = true
 kd : ∀ (i : Nat) E, Es[i]? = some E → E.kd = 0 ∨ E.kd = 1 ∨ E.kd = 2

theorem ready_waits {listed : Array Bool} (hcl : ClosedL opsA listed) {i kp : Nat} (hi : i ∈ Region.ready .any opsA listed) {n : Nat} (hw : waits opsA.toList kp n i = true) : listed.getD kp false = true := by
 cases n with
 | zero => simp [waits] at hw
 | succ n =>
  obtain ⟨_, o, ho, hall⟩ := mem_ready.1 hi
  rw [waits] at hw
  have hl : opsA.toList[i]? = some o := by simpa using ho
  simp only [hl] at hw
  obtain ⟨e, he, hb⟩ := List.any_eq_true.1 hw
  simp only [Bool.and_eq_true, Bool.or_eq_true, Nat.beq_eq] at hb
  have h1 := hall e (by simpa using he) hb.1
  rcases hb.2 with rfl | h2
  ·exact h1
  ·exact waits_closed hcl h2 h1

theorem look_off {mk : Nat} : ∀ {l H : List (Nat × List Ent)}, (l.all fun y => !Nat.beq y.1 mk) = true → look H mk = none → look (l ++ H) mk = none
 | [], _, _, h => h
 | (a, b) :: l, H, hl, h => by
  simp only [List.all_cons, Bool.and_eq_true, Bool.not_eq_true'] at hl
  rw [List.cons_append, look_cons]
  have : a ≠ mk := by intro e; subst e; simp at hl
  rw [if_neg this]
  exact look_off hl.2 h
theorem apD_mk {E : EffD} {g : Rg} {mk : Nat} (h : (E.f.hs.all fun y => !Nat.beq y.1 mk) = true) (hg : look g.H mk = none) : look (apD E g).H mk = none := by
 unfold apD
 cases E.dst with
 | none => exact look_off h hg
 | some t =>
  cases E.p with
  | nil => exact look_off h hg
  | cons x p => dsimp only; cases E.f.e <;> exact hg

theorem AnyD.soundP (htt : TTok P tt = true) {Es : List EffD} {kp mk : Nat} {x : V} {hs : List (Nat × List Ent)} (hP : PanEs opsA Es kp mk x hs) (hok : ∀ (i : Nat) o E, opsA[i]? = some o → Es[i]? = some E → okE opsA.toList o E = true) (hN : ∀ (i : Nat) E, Es[i]? = some E → okN N E = true) (hfree : freeAll opsA.toList Es = true) {Q : Exit → Act → World → Prop}
  (hQ : ∀ n e a' w', SimE P K N (.pan x) { env := [], H := hs, nxt := n } e a' w' → Q e a' w') :
  ∀ (n : Nat) (listed : Array Bool) (g : Rg) (tmps : Array Value) (w : World) (M : Mem) (β : Nat → Option Nat), AnyD (saysC P) tt opsA Es (fun g => (look g.H mk).isSome = true) n listed g → listed.size = opsA.size → ClosedL opsA listed → SubC Es listed g → listed.getD kp false = false → look g.H mk = none → SimG P K N M β g tmps w → wpAny P .any opsA Q n listed ⟨tmps, K.ds⟩ w
 | 0, _, g, tmps, w, M, β, h, _, _, _, _, hH, _ => by have : (look g.H mk).isSome = true := h.2; rw [hH] at this; cases this
 | n + 1, listed, g, tmps, w, M, β, h, hsz, hcl, hsub, hkp, hH, hs' => by
  refine ⟨(fun hr => by have : (look g.H mk).isSome = true := h.1 hr; rw [hH] at this; cases this), fun i hi => ?_⟩
  obtain ⟨o, E, ho, hE, hC0, hn⟩ := h.2 i hi
  have hlt : i < listed.size := by rw [hsz]; exact (Array.getElem?_eq_some_iff.1 ho).1
  have hun : listed.getD i false = false := by have := (mem_ready.1 hi).1; simpa [Array.getD_eq_getD_getElem?, hlt] using this
  have hs1 : SimG P K N M β { g with rs := E.rs, ob := [] } tmps w := ⟨hs'.sim, hs'.size, hs'.fresh, hs'.cond⟩
  unfold wpOp
  simp only [ho]
  rcases hP.kd i E hE with hk | hk | hk
  ·have hC := hC0.resolve_left (by rw [hk]; simp)
   obtain ⟨hik, hhs⟩ := hP.go i E hE hk
   have hstep := opStep_of (N := N) hk hC hE (hok i o E ho hE) (hN i E hE) hfree hcl hun hsub
   refine opStep_go hs1 htt (opsA := opsA) rfl hstep (fun q hq => ?_) (fun tmps' w' M' β' h' => ?_)
   ·obtain ⟨q', hq', rfl⟩ := List.mem_map.1 hq
    exact hC.ob q' hq'
   ·exact AnyD.soundP htt hP hok hN hfree hQ n _ (apD E g) tmps' w' M' β' hn (by simpa using hsz) (hcl.set hi) (hsub.ap hE hlt) (by rw [getD_set_ne false hik]; exact hkp) (apD_mk hhs hH) ⟨h'.sim, h'.size, h'.fresh, h'.cond⟩
  ·have hC := hC0.resolve_left (by rw [hk]; simp)
   obtain ⟨hp, hx, hph, hrb⟩ := hP.pan i E hE hk
   have hst : step1 (saysC P) tt opsA.toList { g with rs := E.rs, ob := [] } [] o = some (.pan x E.ph E.f.ob) := by
    have h1 := hC.st
    rw [hk, hp, hx] at h1
    refine Eq.trans ?_ h1
    exact step1_congr (g1 := { g with rs := E.rs, ob := [] }) (g2 := { g with rs := E.rs }) (fun _ _ _ _ => ⟨rfl, rfl⟩) rfl rfl (fun _ => rfl) (fun _ _ => rfl)
   have hgp : guardPath opsA.toList { g with rs := E.rs, ob := [] } o = some [] := by rw [← hp]; exact hC.gp
   have hos : opStep (saysC P) tt N opsA.toList { g with rs := E.rs, ob := [] } o = some (.pan x { env := noOwn g.env, H := E.ph ++ g.H, nxt := g.nxt } (E.f.ob ++ [])) := by
    unfold opStep
    rw [hgp]
    dsimp only
    rw [hst]
    rfl
   refine opStep_pan hs1 htt (opsA := opsA) rfl hos (fun q hq => ?_) (fun e a' w' hE' => ?_)
   ·rw [List.append_nil] at hq
    have := hC.ob q hq
    rw [hp] at this
    exact this
   ·obtain ⟨v, h1, h2, M1, β1, h3, h4⟩ := hE'
    have hfin := hC.fin hk
    have hlk : ∀ q cs, look hs q = some cs → look (E.ph ++ g.H) q = some cs := by
     intro q cs hq
     rw [← hph, look_append'] at hq
     rw [look_append']
     cases hl : look E.ph q with
     | some c => rw [hl] at hq; exact hq
     | none =>
      rw [hl] at hq
      obtain ⟨h5, h6⟩ := keepR_at hq
      rw [← h6]
      exact hfin q (hrb q h5)
    refine hQ g.nxt e a' w' ⟨v, h1, h2, M1, β1, h3, (h4.noEnv _).sub rfl (fun l e' hl => ?_) (fun q cs hq => ⟨cs, hlk q cs hq, rfl⟩)⟩
    cases l with
    | slot s => simp [St.at, look] at hl
    | cell q i =>
     simp only [St.at] at hl ⊢
     cases hq : look hs q with
     | none => rw [hq] at hl; simp at hl
     | some cs =>
      rw [hq] at hl
      rw [hlk q cs hq]
      exact ⟨e', hl, rfl, fun _ h => h⟩
  ·have := ready_waits hcl hi (hP.dead i E hE hk)
   rw [hkp] at this
   cases this

theorem runPs_spec {ops : List Oper} {kp mk : Nat} {Fi : Rg → Prop} : ∀ {l : List Oper} {i : Nat} {rss : List (List RS)} {g : Rg} {Es : List EffD} {g' : Rg} {ob : List Prop} {xs : List (V × List (Nat × List Ent))}, runPs says tt ops kp mk i l rss g = some (Es, g', ob, xs) → (∀ q, q ∈ ob → q) → Fi g' →
  Es.length = l.length ∧ ChainD says tt ops Fi (zip' l Es) g ∧
  (∀ (j : Nat) E, Es[j]? = some E → (E.kd = 0 ∧ i + j ≠ kp ∧ (E.f.hs.all (fun y => !Nat.beq y.1 mk)) = true) ∨ (E.kd = 1 ∧ E.p = [] ∧ (E.px, E.ph ++ keepR E.fH mk) ∈ xs ∧ ∀ q, q < mk → q ∈ E.rb) ∨ (E.kd = 2 ∧ waits ops kp 3 (i + j) = true))
 | [], i, [], g, Es, g', ob, xs, h, _, hF => by
  simp only [runPs, Option.some.injEq, Prod.mk.injEq] at h
  obtain ⟨rfl, rfl, rfl, rfl⟩ := h
  exact ⟨rfl, hF, by simp⟩
 | [], _, _ :: _, _, _, _, _, _, h, _, _ => by simp [runPs] at h
 | _ :: _, _, [], _, _, _, _, _, h, _, _ => by simp [runPs] at h
 | o :: l, i, rs :: rss, g, Es, g', ob, xs, h, hob, hF => by
  have next : ∀ {E : EffD} {Es1 : List EffD} {xs1 : List (V × List (Nat × List Ent))}, (∀ (j : Nat) E, Es1[j]? = some E → (E.kd = 0 ∧ i + 1 + j ≠ kp ∧ (E.f.hs.all (fun y => !Nat.beq y.1 mk)) = true) ∨ (E.kd = 1 ∧ E.p = [] ∧ (E.px, E.ph ++ keepR E.fH mk) ∈ xs1 ∧ ∀ q, q < mk → q ∈ E.rb) ∨ (E.kd = 2 ∧ waits ops kp 3 (i + 1 + j) = true)) → (∀ z, z ∈ xs1 → z ∈ xs) →
    ((E.kd = 0 ∧ i ≠ kp ∧ (E.f.hs.all (fun y => !Nat.beq y.1 mk)) = true) ∨ (E.kd = 1 ∧ E.p = [] ∧ (E.px, E.ph ++ keepR E.fH mk) ∈ xs ∧ ∀ q, q < mk → q ∈ E.rb) ∨ (E.kd = 2 ∧ waits ops kp 3 i = true)) →
    ∀ (j : Nat) E', (E :: Es1)[j]? = some E' → (E'.kd = 0 ∧ i + j ≠ kp ∧ (E'.f.hs.all (fun y => !Nat.beq y.1 mk)) = true) ∨ (E'.kd = 1 ∧ E'.p = [] ∧ (E'.px, E'.ph ++ keepR E'.fH mk) ∈ xs ∧ ∀ q, q < mk → q ∈ E'.rb) ∨ (E'.kd = 2 ∧ waits ops kp 3 (i + j) = true) := by
   intro E Es1 xs1 h1 hx h2 j E' hj
   cases j with
   | zero => simp at hj; subst hj; exact h2
   | succ j =>
    have := h1 j E' (by simpa using hj)
    rw [show i + 1 + j = i + (j + 1) by omega] at this
    rcases this with h3 | ⟨h3, h4, h5, h6⟩ | h3
    ·exact .inl h3
    ·exact .inr (.inl ⟨h3, h4, hx _ h5, h6⟩)
    ·exact .inr (.inr h3)
  simp only [runPs] at h
  rw [Bool.cond_eq_ite] at h
  split at h
  ·rename_i hik
   split at h
   case h_2 => cases h
   rename_i hgp
   split at h
   case h_2 => cases h
   rename_i x hs ob1 hst
   split at h
   case h_2 => cases h
   rename_i Es1 g1 ob2 xs1 h1
   simp only [Option.some.injEq, Prod.mk.injEq] at h
   obtain ⟨rfl, rfl, rfl, rfl⟩ := h
   obtain ⟨h2, h3, h4⟩ := runPs_spec h1 (fun q hq => hob q (List.mem_append_left _ hq)) hF
   refine ⟨by simp [h2], ⟨.inr ⟨hgp, hst, (fun q hq => hob q (List.mem_append_right _ hq)), (fun q hq => List.mem_append_left _ hq), fun _ q _ => rfl⟩, h3⟩, next h4 (fun z hz => List.mem_cons_of_mem _ hz) (.inr (.inl ⟨rfl, rfl, List.mem_cons_self .., fun q hq => List.mem_append_right _ (List.mem_range.2 hq)⟩))⟩
  ·rename_i hik
   rw [Bool.cond_eq_ite] at h
   split at h
   ·rename_i hw
    split at h
    case h_2 => cases h
    rename_i Es1 g1 ob2 xs1 h1
    simp only [Option.some.injEq, Prod.mk.injEq] at h
    obtain ⟨rfl, rfl, rfl, rfl⟩ := h
    obtain ⟨h2, h3, h4⟩ := runPs_spec h1 hob hF
    exact ⟨by simp [h2], ⟨.inl rfl, h3⟩, next h4 (fun z hz => hz) (.inr (.inr ⟨rfl, hw⟩))⟩
   ·split at h
    case h_2 => cases h
    rename_i E hE
    rw [Bool.cond_eq_ite] at h
    split at h
    case isFalse => cases h
    rename_i hnil
    split at h
    case h_2 => cases h
    rename_i Es1 g1 ob2 xs1 h1
    simp only [Option.some.injEq, Prod.mk.injEq] at h
    obtain ⟨rfl, rfl, rfl, rfl⟩ := h
    obtain ⟨h2, h3, h4⟩ := runPs_spec h1 (fun q hq => hob q (List.mem_append_left _ hq)) hF
    have hob' : ∀ q, q ∈ E.f.ob → under g E.p q := fun q hq => hob _ (List.mem_append_right _ (List.mem_map.2 ⟨q, hq, rfl⟩))
    have hhs := hnil
    unfold findD at hE
    split at hE
    ·cases hE
    rename_i p hp
    split at hE
    ·rename_i f hf
     cases hE
     exact ⟨by simp [h2], ⟨.inr ⟨hp, hf, hob', fun _ h => h, fun h => by cases h⟩, h3⟩, next h4 (fun z hz => hz) (.inl ⟨rfl, (by simpa using hik), hhs⟩)⟩
    ·cases hE

theorem AWp.rgDP {id : Nat} {Q : AE → St → Prop} (htt : TTok P tt = true) (hm : P.follows .mixedOrders = true) (kp : Nat) (rss : List (Nat × List RS)) {x : V} {ps : List Prop} (hr : panDP (runDP (saysC P) tt N opsA.toList kp (st.nxt + opsA.toList.length) (spread opsA.toList.length 0 rss) st) = some (x, ps)) (hob : AllP ps)
  (hQ : ∀ n, Q (.pan x) { env := [], H := panH (runDP (saysC P) tt N opsA.toList kp (st.nxt + opsA.toList.length) (spread opsA.toList.length 0 rss) st), nxt := n }) : AWp P N E (.region id opsA true) Q st := by
 rintro K hK a w ⟨_, hd, hsz, M, β, hsim⟩
 obtain ⟨tmps, ds⟩ := a
 simp only at hd hsz
 subst hd
 refine wp_region_any hm ?_
 cases hrd : runDP (saysC P) tt N opsA.toList kp (st.nxt + opsA.toList.length) (spread opsA.toList.length 0 rss) st with
 | none => rw [hrd] at hr; cases hr
 | some res =>
 obtain ⟨x0, hs0, ob0⟩ := res
 rw [hrd] at hr hQ
 simp only [panDP, Option.some.injEq, Prod.mk.injEq] at hr
 obtain ⟨rfl, rfl⟩ := hr
 simp only [panH] at hQ
 unfold runDP at hrd
 split at hrd
 case h_2 => cases hrd
 rename_i Es g ob' x' hs' hrun
 rw [Bool.cond_eq_ite] at hrd
 split at hrd
 case isFalse => cases hrd
 rename_i hc
 simp only [Option.some.injEq, Prod.mk.injEq] at hrd
 obtain ⟨rfl, rfl, rfl⟩ := hrd
 simp only [Bool.and_eq_true, Option.isNone_iff_eq_none] at hc
 obtain ⟨⟨hc, hmk⟩, hmk0⟩ := hc
 generalize hmkk : st.nxt + opsA.toList.length = mk at hrun hmk hmk0
 obtain ⟨hlen, hch, hkinds⟩ := runPs_spec (Fi := fun g => (look g.H mk).isSome = true) hrun hob.mem hmk
 simp only [checkD, Bool.and_eq_true] at hc
 obtain ⟨⟨⟨c1, c2⟩, c3⟩, c4⟩ := hc
 have hok : ∀ (i : Nat) o E, opsA[i]? = some o → Es[i]? = some E → okE opsA.toList o E = true := by
  intro i o E ho hE
  obtain ⟨z1, z2⟩ := zip'_at hlen i
  have ho' : opsA.toList[i]? = some o := by simpa using ho
  rw [ho'] at z1; rw [hE] at z2
  cases hz : (zip' opsA.toList Es)[i]? with
  | none => rw [hz] at z1; simp at z1
  | some x =>
   rw [hz] at z1 z2
   simp at z1 z2
   subst z1; subst z2
   exact List.all_eq_true.1 c1 x (List.mem_of_getElem? hz)
 have hN : ∀ (i : Nat) E, Es[i]? = some E → okN N E = true := fun i E hE => List.all_eq_true.1 c2 E (List.mem_of_getElem? hE)
 have hcl0 : ClosedL opsA (Array.replicate opsA.size false) := fun j o ho hj => by have hlt : j < opsA.size := (Array.getElem?_eq_some_iff.1 ho).1; simp [Array.getD_eq_getD_getElem?, hlt] at hj
 have hany := AnyD.text hok (fun g1 g2 h12 h1 => by rw [← h12.box mk]; exact h1) (zip' opsA.toList Es) 0 (Array.replicate opsA.size false) _ (fun j => by have := (zip'_at hlen j).1; simpa using this) (fun j => by have := (zip'_at hlen j).2; simpa using this)
  ⟨by simp, fun j hj => by simp [hj]⟩ hcl0 c4 hch
 have hzl : (zip' opsA.toList Es).length = opsA.size := by rw [zip'_len hlen]; simp
 rw [hzl] at hany
 have hP : PanEs opsA Es kp mk x' hs' := by
  constructor
  ·intro i E hE hk
   rcases hkinds i E hE with ⟨h1, _⟩ | ⟨h1, _⟩ | ⟨_, h1⟩
   ·omega
   ·omega
   ·simpa using h1
  ·intro i E hE hk
   rcases hkinds i E hE with ⟨h1, _⟩ | ⟨_, h1, h2, h3⟩ | ⟨h1, _⟩
   ·omega
   ·simp only [List.mem_singleton, Prod.mk.injEq] at h2
    exact ⟨h1, h2.1, h2.2, h3⟩
   ·omega
  ·intro i E hE hk
   rcases hkinds i E hE with ⟨_, h1, h2⟩ | ⟨h1, _⟩ | ⟨h1, _⟩
   ·exact ⟨by simpa using h1, h2⟩
   ·omega
   ·omega
  ·intro i E hE
   rcases hkinds i E hE with ⟨h1, _⟩ | ⟨h1, _⟩ | ⟨h1, _⟩
   ·exact .inl h1
   ·exact .inr (.inl h1)
   ·exact .inr (.inr h1)
 refine AnyD.soundP (K := K) (mk := mk) htt hP hok hN c3 (fun n e a' w' h' => ⟨_, _, h', hQ n⟩) _ _ _ tmps _ M β hany (by simp) hcl0 (fun x hx => by cases hx) ?_ hmk0 ⟨(hsim.drew _).up _, hsz, (fun s id h _ b hb => by have h1 := hsim.lt _ _ hb; have h2 := (idsOf_ge _ _ _ (look_mem h)).1; simp only at h2; omega), fun _ _ _ h => by simp [startD, look] at h⟩
 rw [Array.getD_eq_getD_getElem?]
 by_cases hkl : kp < opsA.size
 ·simp [hkl]
 ·simp [hkl]
end

section
variable {P : Program} {tt : TT} {fn : Func} {E : Nat} {st : St}
theorem DPost_normal {y : Code} {R : Out → List (List Ent) → Prop} (h : DWp P tt fn E y R st) : DPost P tt fn E y R .normal st := h
theorem DPost_ret {y : Code} {out : Out} {Hf : List (List Ent)} (h : (Ab.leave tt E fn.results.toList st).map (fun x => (x.1, eraB x.2)) = some (out, Hf)) : DPost P tt fn E y (fun o H' => o = out ∧ H' = Hf) .ret st := by
 rw [Option.map_eq_some_iff] at h
 obtain ⟨⟨o, H'⟩, h1, h2⟩ := h
 cases h2
 exact ⟨o, H', h1, rfl, rfl⟩

def finC (tt : TT) (E : Nat) (rs : List ResultVar) (ds : List D) (ρ : List Nat) (H2 : List (List Ent)) (st : St) : Option (List (List Ent) × List D × Out × List (List Ent)) :=
 bif !nodupB ρ then none else match boxes st.H ρ, renL (idx ρ) ds, renBoxes (fun j => ρ[j]?) H2 with
  | some bs, some args', some H2' => bif Nat.beq H2.length ρ.length then match renBoxes (idx ρ) bs, Ab.leave tt E rs { env := st.env, H := zipR ρ H2' ++ st.H, nxt := st.nxt } with
    | some H1, some (o, H') => some (H1, args', o, eraB H')
    | _, _ => none
   else none
  | _, _, _ => none
theorem Fin1.of {rs : List ResultVar} {fd : FuncId} {ds args' : List D} {x : Option V} (ρ : List Nat) {H1 H2 Hf : List (List Ent)} {o : Out} (d : DCalls P fd args' H1 x fun H' => H' = H2) (hc : finC tt E rs ds ρ H2 st = some (H1, args', o, Hf)) :
  Fin1 P tt E rs fd ds (fun o' H' => o' = o ∧ H' = Hf) x st := by
 unfold finC at hc
 rw [Bool.cond_eq_ite] at hc
 split at hc
 ·cases hc
 rename_i hn
 split at hc
 case h_2 => cases hc
 rename_i bs a H2' hbs ha hH2
 rw [Bool.cond_eq_ite] at hc
 split at hc
 case isFalse => cases hc
 rename_i hl
 split at hc
 case h_2 => cases hc
 rename_i H1' o' H' hH1 hlv
 simp only [Option.some.injEq, Prod.mk.injEq] at hc
 obtain ⟨rfl, rfl, rfl, rfl⟩ := hc
 refine ⟨ρ, bs, H1', a, _, (by simpa using hn), hbs, hH1, ha, d, fun H3 h3 => ?_⟩
 subst h3
 exact ⟨H2', o', H', (by simpa using hl), hH2, hlv, rfl, rfl⟩
theorem LPost_ret {rs : List ResultVar} {fd : FuncId} {ds : List D} {R : Out → List (List Ent) → Prop} (h : Fin1 P tt E rs fd ds R none st) : LPost P tt E rs fd ds R .ret st := h
theorem LPost_pan {rs : List ResultVar} {fd : FuncId} {ds : List D} {R : Out → List (List Ent) → Prop} {x : V} (h : Fin1 P tt E rs fd ds R (some x) st) : LPost P tt E rs fd ds R (.pan x) st := h
end
end Go.Ab

/-
 AN ABSTRACT MACHINE OVER PURE STATES, part 32: builders of strings.
-/
namespace Go.Ab
section
variable {P : Program}
theorem setCell_heap {w : World} {b off : Nat} {vs : List Value} {T : TypeId} {fz : Nat × Nat} (h : w.heap[b]? = some (.cells ⟨vs⟩ T fz)) (u : Value) :
  (w.setCell ⟨b, off, none⟩ u).heap[b]? = some (.cells ⟨vs.set off u⟩ T fz) := by
 have hlt := lt_of_heap h
 have h' : w.heap[b] = .cells ⟨vs⟩ T fz := by simpa [Array.getElem?_eq_getElem hlt] using h
 show (w.heap.modify b _)[b]? = _
 rw [Array.getElem?_eq_getElem (by simpa using hlt), Array.getElem_modify_self, h']
 simp
theorem setCell_other {w : World} {b off : Nat} {u : Value} (k : Nat) (h : k ≠ b) : (w.setCell ⟨b, off, none⟩ u).heap[k]? = w.heap[k]? := Go.RowKit.Below.heap_setCell w ⟨b, off, none⟩ u k h
theorem says_copyCheck {f : FuncId} {fd : Func} {off : Nat} {u : TypeId} (hfd : P.funcs[f]? = some fd) (hbd : fd.body.isSome = true) (hn : decide (fd.name = "runtime.NumGoroutine") = false)
  (hused : ∀ (b : Nat) (w : World), w.cell? ⟨b, off, none⟩ = some (.pointer (some ⟨b, off, none⟩)) → Calls P f #[.pointer (some ⟨b, off, none⟩)] w fun e w' => e = .returned (.tuple #[]) ∧ w' = w)
  (hfresh : ∀ (b : Nat) (w : World) (T : TypeId) (k : Nat), w.cell? ⟨b, off, none⟩ = some (.pointer none) → w.shape? b = some (T, k) → off < k → liesAt P P.depth T (k / P.cellsOf T) off u 1 = true → w.frozen? ⟨b, off, none⟩ = false →
   Calls P f #[.pointer (some ⟨b, off, none⟩)] w fun e w' => e = .returned (.tuple #[]) ∧ w' = w.setCell ⟨b, off, none⟩ (.pointer (some ⟨b, off, none⟩)))
  {cs : List Ent} (hcs : cs[off]? = some ⟨.sptr 0 off u, none⟩) : saysOf P f [.ptr 0 off] [] [cs] (.ret (.tup []) none) [cs] := by
 refine ⟨⟨fd, hfd, hbd, by simpa using hn⟩, fun K w vs M β hlen hs hβ => ?_⟩
 obtain ⟨v, rfl⟩ : ∃ v, vs = [v] := by
  match vs, hlen with
  | [v], _ => exact ⟨v, rfl⟩
 have hv0 := hs.ents (.slot 0) ⟨.ptr 0 off, none⟩ (by simp [St.at, envOf, withOwn, enumFrom', look])
 have hvv : valAt (⟨[v]⟩ : Array Value) w β (.slot 0) = v := by simp [valAt]
 rw [hvv] at hv0
 obtain ⟨b, hb, rfl⟩ : ∃ b, β 0 = some b ∧ v = .pointer (some ⟨b, off, none⟩) := by cases hv0 with | ptr r o b h => exact ⟨b, h, rfl⟩
 have hl0 : look (enumFrom' 0 [cs]) 0 = some cs := by simp [enumFrom', look]
 obtain ⟨b', ws, T, hb', hh, hlw, hMn, hFn, hone, hlies⟩ := hs.box 0 cs hl0
 rw [hb] at hb'; cases hb'
 have hoff : off < cs.length := (List.getElem?_eq_some_iff.1 hcs).1
 have hwo : ws[off]? = some ws[off] := List.getElem?_eq_getElem (by omega)
 have hcell : w.cell? ⟨b, off, none⟩ = some ws[off] := by rw [cell_of_heap hh, hwo]
 have hrep := hs.ents (.cell 0 off) ⟨.sptr 0 off u, none⟩ (by simp [St.at, hl0, hcs])
 have hval : valAt (⟨[.pointer (some ⟨b, off, none⟩)]⟩ : Array Value) w β (.cell 0 off) = ws[off] := by simp [valAt, hb, hcell]
 rw [hval] at hrep
 have fin : ∀ w', SimAt P K M β { env := [], H := enumFrom' 0 [cs], nxt := [cs].length } #[.tuple #[]] w' → SimAt P K M β { env := resEnv (.ret (.tup []) none), H := enumFrom' 0 [cs], nxt := [cs].length } #[.tuple #[]] w' := fun w' h => by
  have := h.put (t := 0) (v := .tuple #[]) (e := ⟨.tup [], none⟩) (by simp) (.tup [] [] rfl fun i v c hv => by simp at hv) (fun T hT => by cases hT)
  exact this
 generalize hx : ws[off] = x at hcell hrep hwo
 cases hrep with
 | snil r o u' =>
  have hsh : w.shape? b = some (T, ws.length) := by simp [World.shape?, hh]
  have hfz : w.frozen? ⟨b, off, none⟩ = false := by simp [World.frozen?, hh]
  have hli := hlies _ (List.mem_of_getElem? hcs) 0 off u rfl
  refine (hfresh b w T ws.length hcell hsh (by omega) hli hfz).mono ?_
  rintro e w' ⟨rfl, rfl⟩
  refine ⟨_, _, .tuple #[], M, β, ⟨rfl, rfl⟩, rfl, fin _ ?_⟩
  have h1 := (hs.noEnv #[.tuple #[]]).setBox (r := 0) (b := b) (cs := cs) (w' := w.setCell ⟨b, off, none⟩ (.pointer (some ⟨b, off, none⟩))) hl0 hb hh (vs' := ws.set off (.pointer (some ⟨b, off, none⟩))) (cs' := cs) (by simpa using hlw)
   (fun y hy => by
    rcases List.mem_or_eq_of_mem_set hy with h | rfl
    ·exact hone y h
    ·rfl) (fun h => by rw [List.length_set]; exact h) rfl (setCell_heap hh _) (fun k hk => setCell_other k hk) cs.length (fun i y e hy he => by
    by_cases hi : off = i
    ·subst hi
     rw [List.getElem?_set_self (by omega)] at hy
     cases hy
     rw [hcs] at he; cases he
     exact ⟨.sptr 0 off b u hb, fun T hT => by cases hT⟩
    ·rw [List.getElem?_set_ne hi] at hy
     have hil := (List.getElem?_eq_some_iff.1 he).1
     refine ⟨?_, fun T hT => .inl ⟨by omega, ⟨e, he, hT⟩, hy⟩⟩
     have := hs.ents (.cell 0 i) e (by simp [St.at, hl0, he])
     simpa [valAt, hb, cell_of_heap hh, hy] using this)
  refine h1.sub rfl (fun l e hl => ⟨e, ?_, rfl, fun _ h => h⟩) (fun r c hr => ⟨c, ?_, rfl⟩)
  ·cases l with
   | slot s => exact hl
   | cell r i =>
    simp only [St.at, look_cons] at hl ⊢
    by_cases hr : r = 0
    ·subst hr; rw [hl0] at hl; simpa using hl
    ·simp [enumFrom', look_cons, Ne.symm hr, look] at hl
  ·simp only [look_cons] at hr ⊢
   by_cases hr0 : r = 0
   ·subst hr0; rw [hl0] at hr; simpa using hr
   ·simp [enumFrom', look_cons, Ne.symm hr0, look] at hr
 | sptr r o b2 u' hb2 =>
  rw [hb] at hb2; cases hb2
  refine (hused b w hcell).mono ?_
  rintro e w' ⟨rfl, rfl⟩
  exact ⟨_, _, .tuple #[], M, β, ⟨rfl, rfl⟩, rfl, fin _ (hs.noEnv _)⟩
end
end Go.Ab

/-
 AN ABSTRACT MACHINE OVER PURE STATES, part 33: a builder's string.
-/
namespace Go.Ab
section
variable {P : Program}
theorem says_builderString {f : FuncId} {fd : Func} {T5 : TypeId} (hfd : P.funcs[f]? = some fd) (hbd : fd.body.isSome = true) (hn : decide (fd.name = "runtime.NumGoroutine") = false) (hT5 : P.cellsOf T5 = 1)
  (hnil : ∀ (b : Nat) (w : World), w.cell? ⟨b, 1, none⟩ = some (.slice none 0 0) → Calls P f #[.pointer (some ⟨b, 0, none⟩)] w fun e w' => e = .returned (.string ⟨#[]⟩) ∧ w' = w.drew)
  (hroom : ∀ (b g cap : Nat) (w : World), cap ≠ 0 → w.cell? ⟨b, 1, none⟩ = some (.slice (some ⟨g, 0, none⟩) 0 cap) → Calls P f #[.pointer (some ⟨b, 0, none⟩)] w fun e w' => e = .returned (.string ⟨#[]⟩) ∧ w' = w.drew)
  (hnoroom : ∀ (b g : Nat) (w : World) (vs : List Value), w.cell? ⟨b, 1, none⟩ = some (.slice (some ⟨g, 0, none⟩) 0 0) → b < w.heap.size → w.heap[g]? = some (.cells ⟨vs⟩ T5 (0, 0)) →
   Calls P f #[.pointer (some ⟨b, 0, none⟩)] w fun e w' => e = .returned (.string ⟨#[]⟩) ∧ w' = (w.drew.alloc (.view ⟨g, 0, none⟩ T5)))
  (hsome : ∀ (b g cap : Nat) (w : World) (vs : List Value) (l : List UInt8), l ≠ [] → w.cell? ⟨b, 1, none⟩ = some (.slice (some ⟨g, 0, none⟩) l.length cap) → w.heap[g]? = some (.cells ⟨vs⟩ T5 (0, 0)) →
   l.length ≤ cap → cap ≤ vs.length → l.length ≤ 9223372036854775807 → (∀ (j : Nat) (x : UInt8), l[j]? = some x → vs[j]? = some (Value.int .u8 x.toNat)) →
   Calls P f #[.pointer (some ⟨b, 0, none⟩)] w fun e w' => e = .returned (.string ⟨l.toArray⟩) ∧ w' = w.drew.freeze ⟨g, 0, none⟩ l.length)
  {d0 : Ent} {cs : List Ent} {l : List UInt8} {n : Nat} {get : Nat → V} (hget : n = l.length ∧ ∀ i, i < l.length → get i = .int .u8 ((l.getD i 0).toNat : Int)) (h63 : l.length ≤ 9223372036854775807) :
  saysOf P f [.ptr 0 0] [] [d0 :: ⟨.v (.slc 1 n get), some T5⟩ :: cs] (.ret (.v (.str l)) none) [d0 :: ⟨.v (.slc 1 n get), none⟩ :: cs] := by
 obtain ⟨rfl, hget⟩ := hget
 refine ⟨⟨fd, hfd, hbd, by simpa using hn⟩, fun K w vs M β hlen hs hβ => ?_⟩
 obtain ⟨v, rfl⟩ : ∃ v, vs = [v] := by
  match vs, hlen with
  | [v], _ => exact ⟨v, rfl⟩
 have hv0 := hs.ents (.slot 0) ⟨.ptr 0 0, none⟩ (by simp [St.at, envOf, withOwn, enumFrom', look])
 have hvv : valAt (⟨[v]⟩ : Array Value) w β (.slot 0) = v := by simp [valAt]
 rw [hvv] at hv0
 obtain ⟨b, hb, rfl⟩ : ∃ b, β 0 = some b ∧ v = .pointer (some ⟨b, 0, none⟩) := by cases hv0 with | ptr r o b h => exact ⟨b, h, rfl⟩
 generalize hcc : d0 :: (⟨.v (.slc 1 l.length get), some T5⟩ : Ent) :: cs = cc at hs
 have hc1 : cc[1]? = some ⟨.v (.slc 1 l.length get), some T5⟩ := by rw [← hcc]; rfl
 have hl0 : look (enumFrom' 0 [cc]) 0 = some cc := by simp [enumFrom', look]
 obtain ⟨b', ws, T, hb', hh, hlw, hMn, hFn, hone⟩ := hs.box 0 cc hl0
 rw [hb] at hb'; cases hb'
 have hoff : 1 < cc.length := (List.getElem?_eq_some_iff.1 hc1).1
 have hwo : ws[1]? = some ws[1] := List.getElem?_eq_getElem (by omega)
 have hcell : w.cell? ⟨b, 1, none⟩ = some ws[1] := by rw [cell_of_heap hh, hwo]
 have hat1 : ({ env := envOf [.ptr 0 0] [], H := enumFrom' 0 [cc], nxt := [cc].length } : St).at (.cell 0 1) = some ⟨.v (.slc 1 l.length get), some T5⟩ := by simp [St.at, hl0, hc1]
 have hrep := hs.ents _ _ hat1
 have hown := hs.own _ _ T5 hat1 rfl
 have hval : valAt (⟨[.pointer (some ⟨b, 0, none⟩)]⟩ : Array Value) w β (.cell 0 1) = ws[1] := by simp [valAt, hb, hcell]
 rw [hval] at hrep hown
 -- the state behind it
 have hcs' : ∀ (j : Nat) e', (d0 :: (⟨.v (.slc 1 l.length get), none⟩ : Ent) :: cs)[j]? = some e' → ∃ e0, cc[j]? = some e0 ∧ e0.d = e'.d ∧ (∀ T, e'.own = some T → e0.own = some T ∧ j ≠ 1) := by
  intro j e' hj
  rw [← hcc]
  match j with
  | 0 => simp only [List.getElem?_cons_zero, Option.some.injEq] at hj ⊢; subst hj; exact ⟨_, rfl, rfl, fun T hT => ⟨hT, by omega⟩⟩
  | 1 => simp only [List.getElem?_cons_succ, List.getElem?_cons_zero, Option.some.injEq] at hj ⊢; subst hj; exact ⟨_, rfl, rfl, fun T hT => by cases hT⟩
  | j + 2 => simp only [List.getElem?_cons_succ] at hj ⊢; exact ⟨e', hj, rfl, fun T hT => ⟨hT, by omega⟩⟩
 obtain ⟨hs1, hno⟩ := hs.handCell (r := 0) (i := 1) (cs' := d0 :: ⟨.v (.slc 1 l.length get), none⟩ :: cs) hl0 hc1 rfl (by rw [← hcc]; rfl) hcs' (.slot 0)
 rw [hval] at hno
 have fin : ∀ w' M', SimAt P K M' β { env := envOf [.ptr 0 0] [], H := (0, d0 :: ⟨.v (.slc 1 l.length get), none⟩ :: cs) :: enumFrom' 0 [cc], nxt := [cc].length } ⟨[.pointer (some ⟨b, 0, none⟩)]⟩ w' →
   SimAt P K M' β { env := resEnv (.ret (.v (.str l)) none), H := enumFrom' 0 [d0 :: ⟨.v (.slc 1 l.length get), none⟩ :: cs], nxt := [cc].length } #[.string ⟨⟨l⟩⟩] w' := fun w' M' h => by
  have h1 := (h.noEnv #[.string ⟨⟨l⟩⟩]).put (t := 0) (v := .string ⟨⟨l⟩⟩) (e := ⟨.v (.str l), none⟩) (by simp) (.v _ _ (.str l)) (fun T hT => by cases hT)
  refine h1.sub rfl (fun q e hq => ⟨e, ?_, rfl, fun _ h => h⟩) (fun r c hr => ⟨c, ?_, rfl⟩)
  ·cases q with
   | slot s => exact hq
   | cell r i =>
    simp only [St.at, look_cons] at hq ⊢
    by_cases hr : r = 0
    ·subst hr; simpa [enumFrom', look] using hq
    ·simp [enumFrom', look_cons, Ne.symm hr, look] at hq
  ·simp only [look_cons] at hr ⊢
   by_cases hr0 : r = 0
   ·subst hr0; simpa [enumFrom', look] using hr
   ·simp [enumFrom', look_cons, Ne.symm hr0, look] at hr
 have hblt : b < w.heap.size := lt_of_heap hh
 have hdrew : SimAt P K M β { env := envOf [.ptr 0 0] [], H := (0, d0 :: ⟨.v (.slc 1 l.length get), none⟩ :: cs) :: enumFrom' 0 [cc], nxt := [cc].length } ⟨[.pointer (some ⟨b, 0, none⟩)]⟩ w.drew := hs1.drew _
 have hlen1 : [cc].length = 1 := rfl
 generalize hx : ws[1] = x at hcell hrep hown hno hwo
 rcases hown with h0 | ⟨g, n, cap, us, T', h1, h2, h3, h4, h5, h6, h7⟩
 ·subst h0
  obtain ⟨_, hl⟩ | ⟨_, _, _, _, h, _⟩ := inv_slc hrep
  ·obtain rfl := List.eq_nil_of_length_eq_zero hl
   refine (hnil b w hcell).mono ?_
   rintro e w' ⟨rfl, rfl⟩
   exact ⟨_, _, _, M, β, ⟨rfl, rfl⟩, rfl, fin _ M hdrew⟩
  ·cases h
 ·subst h7
  have hEE : ∃ (b off cap : Nat) (val : Nat → Nat → Value), x = .slice (some ⟨b, off, none⟩) l.length cap ∧ l.length ≤ cap ∧ (∀ i, i < l.length → (get i).cells.length = 1) ∧ (∀ i j, i < l.length → j < 1 → M b (off + i * 1 + j) = some (val i j)) ∧
   (∀ i j, i < l.length → j < 1 → (val i j).oneCell' = true) ∧ (∀ (i j : Nat) c, i < l.length → (get i).cells[j]? = some c → RepV M (val i j) c) := by
   rcases inv_slc hrep with ⟨h | ⟨a, h⟩, hz⟩ | hx
   ·rw [h1] at h; cases h
   ·rw [h1] at h
    simp only [Value.slice.injEq, Option.some.injEq] at h
    obtain ⟨rfl, rfl, rfl⟩ := h
    exact ⟨g, 0, 0, fun _ _ => undef, h1.trans (by rw [hz]), by omega, fun i hi => by omega, fun i j hi => by omega, fun i j hi => by omega, fun i j c hi => by omega⟩
   ·exact hx
  obtain ⟨g2, off, cap2, val, hv, hc, hk, hM, hone1, hr1⟩ := hEE
  focus
  ·rw [h1] at hv
   simp only [Value.slice.injEq, Option.some.injEq, Addr.mk.injEq, and_true] at hv
   obtain ⟨⟨rfl, rfl⟩, rfl, rfl⟩ := hv
   rw [hT5, Nat.mul_one] at h4
   subst h1
   by_cases hl : l = []
   ·subst hl
    by_cases hcap : cap = 0
    ·subst hcap
     refine (hnoroom b g w us hcell hblt h3).mono ?_
     rintro e w' ⟨rfl, rfl⟩
     refine ⟨_, _, _, M, β, ⟨rfl, rfl⟩, rfl, fin _ M (hdrew.grow (fun k hk => ?_))⟩
     exact Go.Lib.alloc_old _ _ k hk
    ·refine (hroom b g cap w hcap hcell).mono ?_
     rintro e w' ⟨rfl, rfl⟩
     exact ⟨_, _, _, M, β, ⟨rfl, rfl⟩, rfl, fin _ M hdrew⟩
   ·have hbytes : ∀ (j : Nat) (x : UInt8), l[j]? = some x → us[j]? = some (Value.int .u8 x.toNat) := by
     intro j x hx
     have hj : j < l.length := (List.getElem?_eq_some_iff.1 hx).1
     have e1 := hs.mem _ _ _ (hM j 0 hj (by omega))
     have e2 := hget j hj
     have e3 := hr1 j 0 (.int .u8 ((l.getD j 0).toNat : Int)) hj (by rw [e2]; rfl)
     rw [cell_of_heap h3, show 0 + j * 1 + 0 = j by omega] at e1
     rw [e1]
     generalize val j 0 = y at e3 ⊢
     cases e3
     simp [List.getD, hx]
    refine (hsome b g cap w us l hl hcell h3 hc h4 h63 hbytes).mono ?_
    rintro e w' ⟨rfl, rfl⟩
    refine ⟨_, _, .string ⟨⟨l⟩⟩, M, β, ⟨rfl, rfl⟩, rfl, fin _ M ?_⟩
    have hfz : (w.drew.freeze ⟨g, 0, none⟩ l.length).os = w.drew.os ∧ (w.drew.freeze ⟨g, 0, none⟩ l.length).output = w.drew.output ∧ (∀ k, k ≠ g → (w.drew.freeze ⟨g, 0, none⟩ l.length).heap[k]? = w.drew.heap[k]?) ∧ ∃ fz, (w.drew.freeze ⟨g, 0, none⟩ l.length).heap[g]? = some (.cells ⟨us⟩ T' fz) := by
     have hg' : w.drew.heap[g]? = some (.cells ⟨us⟩ T' (0, 0)) := h3
     have hlt := lt_of_heap hg'
     have h' : w.drew.heap[g] = .cells ⟨us⟩ T' (0, 0) := by simpa [Array.getElem?_eq_getElem hlt] using hg'
     unfold World.freeze
     split
     ·exact ⟨rfl, rfl, fun _ _ => rfl, _, hg'⟩
     ·refine ⟨rfl, rfl, fun k hk => ?_, ?_⟩
      ·simp only [Array.getElem?_modify]; rw [if_neg (by simpa using (Ne.symm hk))]
      ·simp only [Array.getElem?_modify]
       rw [if_pos trivial, hg']
       exact ⟨_, rfl⟩
    obtain ⟨f1, f2, f3, fz, f4⟩ := hfz
    refine hdrew.free g h6 (fun r c hr hbr => hno.unbox g r c rfl hr hbr) (fun q e T1 hq hT1 hbq => ?_) (fun k hk _ => f3 k hk) (Mem.le_refl _) (fun _ _ _ => rfl) (fun o v hv => ?_) (by rw [f1, f2])
    ·refine hno.apart q e T1 g hq hT1 ?_ rfl hbq
     rintro rfl
     simp only [St.at, envOf, withOwn, enumFrom', look] at hq
     simp at hq; subst hq; cases hT1
    ·have := hs.mem _ _ _ hv
     rw [cell_of_heap h3] at this
     rw [cell_of_heap f4, this]
end
end Go.Ab

/-
 AN ABSTRACT MACHINE OVER PURE STATES, part 34: what is handed to a law, read out of a world.
-/
namespace Go.Ab

def memOf (w : World) : Mem := fun b o => w.cell? ⟨b, o, none⟩
def RC (w : World) (vs : List Value) (cs : List V) : Prop :=
 vs.length = cs.length ∧ (∀ v, v ∈ vs → v.oneCell' = true) ∧ ∀ (i : Nat) v c, vs[i]? = some v → cs[i]? = some c → RepV (memOf w) v c
theorem RC.nil {w : World} : RC w [] [] := ⟨rfl, (fun v h => by cases h), fun i v c h => by simp at h⟩
theorem RC.one {w : World} {v : Value} {c : V} (h1 : v.oneCell' = true) (h : RepV (memOf w) v c) : RC w [v] [c] :=
 ⟨rfl, (fun u hu => by obtain rfl := List.mem_singleton.1 hu; exact h1), fun i u d hu hd => by
  match i with
  | 0 => cases hu; cases hd; exact h
  | i + 1 => simp at hu⟩
theorem RC.app {w : World} {vs us : List Value} {cs ds : List V} (h : RC w vs cs) (h' : RC w us ds) : RC w (vs ++ us) (cs ++ ds) := by
  refine ⟨by simp [h.1, h'.1], fun v hv => ?_, fun i v c hv hc => ?_⟩
  · rcases List.mem_append.1 hv with hv | hv
    · exact h.2.1 v hv
    · exact h'.2.1 v hv
  · by_cases hi : i < vs.length
    · rw [List.getElem?_append_left hi] at hv
      rw [List.getElem?_append_left (by rw [← h.1]; exact hi)] at hc
      exact h.2.2 i v c hv hc
    · rw [List.getElem?_append_right (by omega)] at hv
      rw [List.getElem?_append_right (by rw [← h.1]; omega), ← h.1] at hc
      exact h'.2.2 _ v c hv hc
theorem RC.agg {w : World} {vs : List Value} {cs : List V} (h : RC w vs cs) : RepV (memOf w) (.agg ⟨vs⟩) (.agg cs) := .agg vs cs h.1 h.2.1 h.2.2
section
variable {H : Type} {enc : TypeId × Value → H} {P : Program} {w : World}
end
end Go.Ab

/- For every n and every engine, WorldProgresses returns true: the world that the listed variables ask for. -/
import Derived.Test.YtogmkmomikjmiaaGreatDoorBase
import Derived.Test.YtogmkmomikjmiaaGreatDoorCards
import Derived.Deep.DeepHandedRow
import Derived.Lib.LaidTab
import Derived.Lib.ItoaNum
import Derived.ChangeSame
import Derived.OpenShut
import Derived.ProofKit
import Derived.RowKit3
set_option linter.all false
namespace Go.Ab
open Go.RowKit

/-- Every block that there was stands as it stood; the system and the output are as they were. -/
def Still (W W' : World) : Prop := W'.os = W.os ∧ W'.output = W.output ∧ ∀ (b : Nat) (ob : Obj), W.heap[b]? = some ob → W'.heap[b]? = some ob
theorem Still.kept {W W' : World} (h : Still W W') (may : MemPlace → Prop) : W.keptBut W' may := by
  have e : ∀ i, i < W.heap.size → W'.heap[i]? = W.heap[i]? := fun i hi => by
    have : W.heap[i]? = some W.heap[i] := Array.getElem?_eq_getElem hi
    rw [this]; exact h.2.2 i _ this
  have hr := World.keptBut_refl W may
  refine ⟨h.1, h.2.1, fun i hi => ?_⟩
  rw [e i hi]
  exact hr.2.2 i hi
section
variable {H : Type} {enc : TypeId × Value → H} {P : Program}
/-- What a law's claim asks behind the call: its arguments read as they read. -/
theorem post_of_still {f : Func} {s : ChangeSpec} {apart fresh handsOn : Bool} {W W' : World} {args : Array Value} {v : Value} {ds gs : List (DataW H)} {before pa pv : List MemPlace}
    (hW : DataW.Whole enc P f.params.toList s.vars apart W args.toList ds gs before)
    (hres : ∀ (b : Nat) (sp : Nat → Bool) (hd : Bool), DataW.TrodAll enc P W' b sp hd f.resultTypes.toList (v.resultList f.resultTypes.size) (s.fn H (ds ++ gs)).results [])
    (hargs : ∀ sp : Nat → Bool, (∀ p ∈ before, sp p.block = true) → DataW.TrodAll enc P W' 0 sp true f.params.toList args.toList (s.fn H (ds ++ gs)).args pa)
    (hvars : ∀ sp : Nat → Bool, (∀ p ∈ before, sp p.block = true) → DataW.TrodVars enc P W' sp s.vars (s.fn H (ds ++ gs)).vars pv)
    (hps : before = pa ++ pv) (hk : Still W W') :
    s.post enc P f apart fresh handsOn false W args v W' := by
  have hold : ∀ p ∈ before, (fun b => decide (b < W.heap.size)) p.block = true := fun p hp => by simpa using hW.lt p hp
  refine ⟨ds, gs, before, [], pa, pv, hW, hres _ _ _, hargs _ hold, hvars _ hold, World.keptBut_mono (fun p hp => ⟨hp, ?_⟩) (hk.kept (· ∈ before)), fun h => by cases h⟩
  rw [hps, List.mem_append] at hp
  exact Or.inr hp
end
/-- What was read before is read behind it. -/
theorem args_still {H : Type} {enc : TypeId × Value → H} {P : Program} {T : TypeId → Prop} (K : Kids P T) (hz : ∀ t e, T t → P.underlying t = some (.slice e) → 0 < P.cellsOf e) {W W' : World} {ts : List TypeId} {vs : List Value} {ds : List (DataW H)} {ps : List MemPlace}
    (hT : ∀ t ∈ ts, T t) (h : DataW.TrodAll enc P W 0 (fun _ => true) true ts vs ds ps) (hk : Still W W') (sp : Nat → Bool) (hs : ∀ p ∈ ps, sp p.block = true) : DataW.TrodAll enc P W' 0 sp true ts vs ds ps := by
  have hlt := h.lt
  have hsame : ∀ p ∈ ps, W.sameAt W' p := by
    intro p hp
    have hb := hlt p hp
    cases p with
    | cell b off =>
      have hb : b < W.heap.size := hb
      have e := hk.2.2 b _ (Array.getElem?_eq_getElem hb)
      unfold World.sameAt World.cell?
      simp only [e, Array.getElem?_eq_getElem hb]
    | map b =>
      have hb : b < W.heap.size := hb
      exact (hk.2.2 b _ (Array.getElem?_eq_getElem hb)).trans (Array.getElem?_eq_getElem hb).symm
  have carry : ∀ {ts : List TypeId} {vs : List Value} {ds : List (DataW H)} {ps : List MemPlace}, DataW.TrodAll enc P W 0 (fun _ => true) true ts vs ds ps → (∀ p ∈ ps, W.sameAt W' p) → DataW.TrodAll enc P W' 0 (fun _ => true) true ts vs ds ps := by
    intro ts
    induction ts with
    | nil => intro vs ds ps h _; obtain ⟨rfl, rfl, rfl⟩ := Go.ChangeShapes.trodAll_nil h; exact rfl
    | cons t ts ih =>
      intro vs ds ps h hs
      obtain ⟨v, vs1, d, ds1, a, b, rfl, rfl, rfl, ⟨n, h1⟩, h2⟩ := Go.ChangeShapes.trodAll_cons h
      exact ⟨a, b, ⟨n, DataW.trod_carry n _ _ _ h1 fun p hp => hs p (List.mem_append_left _ hp)⟩, ih h2 fun p hp => hs p (List.mem_append_right _ hp), rfl⟩
  exact (carry h hsame).respare K hz hT hs
/-- From a contract over the machine to a call over the model. -/
theorem law_on {P : Program} {f : FuncId} {vs : List Value} {ds : List D} {W : World} (h : saysOf P f ds [] [] (.ret (.v (.bool true)) none) []) (hg : Gd P fun b => W.heap[b]?) (hlen : vs.length = ds.length)
    (hr : ∀ (i : Nat) v d, vs[i]? = some v → ds[i]? = some d → RepD (memOf W) (fun _ => none) v d) :
    Calls P f ⟨vs⟩ W fun e W' => e = .returned (.bool true) ∧ Still W W' := by
  let K : Ctx := { M0 := memOf W, F := fun b => W.heap[b]?, β0 := fun _ => none, oo := (W.os, W.output) }
  have hs : SimAt P K (memOf W) (fun _ => none) { env := envOf ds [], H := enumFrom' 0 [], nxt := ([] : List (List Ent)).length } (⟨vs⟩ : Array Value) W := by
    have hat : ∀ l e, ({ env := envOf ds [], H := enumFrom' 0 [], nxt := ([] : List (List Ent)).length } : St).at l = some e → ∃ i d, l = .slot i ∧ ds[i]? = some d ∧ e = ⟨d, none⟩ := by
      intro l e hl
      cases l with
      | cell r i => simp [St.at, enumFrom', look] at hl
      | slot i =>
        simp only [St.at, envOf, look_enum0, withOwn_get, Option.map_eq_some_iff, look] at hl
        obtain ⟨d, hd, rfl⟩ := hl
        exact ⟨i, d, rfl, hd, rfl⟩
    constructor
    · intro l e hl
      obtain ⟨i, d, rfl, hd, rfl⟩ := hat l e hl
      have hi : i < vs.length := by rw [hlen]; exact (List.getElem?_eq_some_iff.1 hd).1
      have hv : vs[i]? = some vs[i] := List.getElem?_eq_getElem hi
      have : valAt (⟨vs⟩ : Array Value) W (fun _ => none) (.slot i) = vs[i] := by simp [valAt, hv]
      rw [this]
      exact hr i _ d hv hd
    · intro l e T hl hT; obtain ⟨i, d, rfl, hd, rfl⟩ := hat l e hl; cases hT
    · intro l l' e e' T T' b hl hT; obtain ⟨i, d, rfl, hd, rfl⟩ := hat l e hl; cases hT
    · intro l e T b r cs hl hT; obtain ⟨i, d, rfl, hd, rfl⟩ := hat l e hl; cases hT
    · intro r cs hr; simp [enumFrom', look] at hr
    · intro r r' b cs cs' hr; simp [enumFrom', look] at hr
    · intro r b hb; cases hb
    · intro b o v hv; exact hv
    · exact Mem.le_refl _
    · intro b ob hb; exact ⟨hb, fun _ => rfl⟩
    · intro r b hb; cases hb
    · exact hg
    · rfl
  refine (h.2 K W vs (memOf W) (fun _ => none) hlen hs (fun r b hb => by cases hb)).mono ?_
  rintro e W' ⟨o, H', v, M', β', ⟨rfl, rfl⟩, he, hsim⟩
  have hv : v = .bool true := by
    have h1 := hsim.ents (.slot 0) ⟨.v (.bool true), none⟩ (by simp [St.at, resEnv, look_cons])
    have h2 : valAt (#[v] : Array Value) W' β' (.slot 0) = v := by simp [valAt]
    rw [h2] at h1
    cases h1 with | v u x h => cases h; rfl
  subst hv
  refine ⟨he, ?_⟩
  have hoo : (W'.os, W'.output) = (W.os, W.output) := hsim.oo
  exact ⟨congrArg Prod.fst hoo, congrArg Prod.snd hoo, fun b ob hb => (hsim.frame b ob hb).1⟩
theorem law_on_text {P : Program} {f : FuncId} {s : ByteArray} {W : World} (h : saysOf P f [.v (.str s.data.toList)] [] [] (.ret (.v (.bool true)) none) []) (hg : Gd P fun b => W.heap[b]?) :
    Calls P f #[.string s] W fun e W' => e = .returned (.bool true) ∧ Still W W' :=
  law_on (vs := [.string s]) h hg rfl fun i v d hv hd => by
    match i with
    | 0 => cases hv; cases hd; exact .v _ _ (.str _)
    | i + 1 => simp at hv

/-- A listed variable of an interface type, that reads as an interface value, holds one. -/
theorem iface_of_laid {P : Program} {W : World} {n : String} {u : String} {d : DataW Unit} {g t : Nat} {ms : Array (String × TypeId)} {rest : List (String × DataW Unit)} {ps : List MemPlace}
    (h : DataW.LaidVars P W ((n, .iface u d) :: rest) ps) (hg : P.globalNamed n = some g) (hty : (P.globals[g]?).map (·.type) = some t) (ht : P.underlying t = some (.interface ms)) :
    (∃ cs t fr ev, W.heap[g]? = some (.cells cs t fr) ∧ cs[0]? = some ev ∧ (ev = .nilIface ∨ ∃ te pe, ev = .iface te pe)) ∧ ∃ q, DataW.LaidVars P W rest q := by
  obtain ⟨g', t', cs, fuel, p, q, hg', ht', hvar, hd, hr, _⟩ := h
  obtain rfl := Option.some.inj (hg.symm.trans hg')
  obtain rfl := Option.some.inj (hty.symm.trans ht')
  refine ⟨?_, q, hr⟩
  unfold World.var? at hvar
  rw [hg, Option.bind_some] at hvar
  cases hh : W.heap[g]? with
  | none => rw [hh] at hvar; cases hvar
  | some ob =>
    rw [hh] at hvar
    cases ob with
    | cells cs' t' fr =>
      simp only [Option.some.injEq] at hvar
      subst hvar
      cases fuel with
      | zero => simp [DataW.trod] at hd
      | succ fuel =>
        unfold DataW.trod at hd
        rw [ht] at hd
        split at hd <;> simp_all
        rename_i e1
        rw [← Array.getElem?_toList, e1]
        exact ⟨_, rfl, Or.inr ⟨_, _, rfl⟩⟩
    | _ => simp at hvar
theorem laid_rest {P : Program} {W : World} {x : String × DataW Unit} {rest : List (String × DataW Unit)} {ps : List MemPlace} (h : DataW.LaidVars P W (x :: rest) ps) : ∃ q, DataW.LaidVars P W rest q := by
  obtain ⟨g', t', cs, fuel, p, q, hg', ht', hvar, hd, hr, _⟩ := h
  exact ⟨q, hr⟩
end Go.Ab
namespace Go.Proofs.YtogmkmomikjmiaaGreatDoor
open Go.ChangeShapes Go.WideShapes Go.ChangeAt Go.RowKit
open Go.ChangeMaps (open_string shut_string)
open Go.Ab (Still Gd)

theorem own : ownKnob Tryz.prog.godebug = none := by kernel_rfl
theorem gRange : Tryz.prog.globalNamed "strconv.ErrRange" = some 3 := by kernel_rfl
theorem gSyntax : Tryz.prog.globalNamed "strconv.ErrSyntax" = some 2 := by kernel_rfl
theorem gRangeT : (Tryz.prog.globals[3]?).map (·.type) = some 421 := by kernel_rfl
theorem gSyntaxT : (Tryz.prog.globals[2]?).map (·.type) = some 421 := by kernel_rfl
def theLaid : List (String × DataW Unit) := Rows.worldProgressesRow.laid
theorem tab_of_laid {P : Program} {W : World} {name : String} {k : IntKind} {zs : List Int} {rest : List (String × DataW Unit)} {ps : List MemPlace} {g : Nat} {t e : TypeId} {n : Nat}
    (hg : P.globalNamed name = some g) (hty : (P.globals[g]?).map (·.type) = some t) (ht : P.underlying t = some (.array n e)) (he : P.underlying e = some (.int k)) (hce : P.cellsOf e = 1) (hct : P.cellsOf t = n)
    (h : DataW.LaidVars P W ((name, Lib.tabData k zs) :: rest) ps) : (∃ t fr, W.heap[g]? = some (.cells (zs.map fun z => Value.int k z).toArray t fr)) ∧ ∃ q, DataW.LaidVars P W rest q := by
  obtain ⟨g', t', cs, fuel, p, q, hg', ht', hvar, hd, hr, _⟩ := h
  obtain rfl := Option.some.inj (hg.symm.trans hg')
  obtain rfl := Option.some.inj (hty.symm.trans ht')
  have hc := Lib.cells_of_tab ht he hce hct hd
  refine ⟨?_, q, hr⟩
  have hcs : cs = (zs.map fun z => Value.int k z).toArray := by rw [← hc]
  subst hcs
  unfold World.var? at hvar
  rw [hg, Option.bind_some] at hvar
  cases hh : W.heap[g]? with
  | none => rw [hh] at hvar; cases hvar
  | some ob =>
    rw [hh] at hvar
    cases ob with
    | cells cs' t2 fr => simp only [Option.some.injEq] at hvar; subst hvar; exact ⟨_, _, rfl⟩
    | _ => simp at hvar
theorem gTabT : (Tryz.prog.globals[1]?).map (·.type) = some 946 := by kernel_rfl
theorem gtab : Tryz.prog.globalNamed "internal/strconv.uint64pow10" = some 1 := by kernel_rfl
theorem good_vars : Ab.goodVars Tryz.prog = [2, 3] := by kernel_rfl
theorem tab_eq : (Lib.pow10Tab.map fun z => Value.int .u64 z).toArray = Ab.pow10V := by kernel_rfl
theorem good_laid {W : World} (h : laidMet Tryz.prog theLaid W) : Gd Tryz.prog fun b => W.heap[b]? := by
  obtain ⟨ps, h1, _⟩ := h
  obtain ⟨h2, q1, h1⟩ := Ab.iface_of_laid h1 gSyntax gSyntaxT Tryz.underlying421
  obtain ⟨h3, q2, h1⟩ := Ab.iface_of_laid h1 gRange gRangeT Tryz.underlying421
  obtain ⟨h0, q3, h1⟩ := tab_of_laid (zs := Lib.pow10Tab) gtab gTabT Tryz.underlying946 Tryz.underlying89 (by kernel_rfl) (by kernel_rfl) h1
  refine ⟨fun g hg => ?_, fun g hg => ?_⟩
  · rw [good_vars] at hg
    simp only [List.mem_cons, List.not_mem_nil, or_false] at hg
    rcases hg with rfl | rfl
    · exact h2
    · exact h3
  · obtain rfl := Option.some.inj (gtab.symm.trans hg)
    rw [← tab_eq]; exact h0
def vals : DataW Unit → Array Value
  | .agg l => (l.map fun | .lit (.int k n) => Value.int k n | _ => .nilIface).toArray
  | _ => #[]
noncomputable def low : Nat := (World.holding Tryz.prog default ⟨#[], #[], []⟩).heap.size
/-- THE WITNESS: the settled world, the listed variables holding what their initialisers lay. -/
noncomputable def laidWorld (os : Os) : World :=
  let w0 := World.holding Tryz.prog os ⟨#[.cells #[.string ⟨#[118, 97, 108, 117, 101, 32, 111, 117, 116, 32, 111, 102, 32, 114, 97, 110, 103, 101]⟩] 957, .cells #[.string ⟨#[105, 110, 118, 97, 108, 105, 100, 32, 115, 121, 110, 116, 97, 120]⟩] 957], #[], []⟩
  let put (h : Array Obj) (g : Nat) (cs : Array Value) : Array Obj := h.modify g fun
    | .cells _ t frozen => .cells cs t frozen
    | o => o
  let h1 := put w0.heap 4 (vals Rows.laid_math_bits_deBruijn32tab)
  let h2 := put h1 5 (vals Rows.laid_math_bits_deBruijn64tab)
  let h3 := put h2 1 (vals Rows.laid_internal_strconv_uint64pow10)
  let h4 := put h3 3 #[.iface 955 (.pointer (some ⟨low, 0, none⟩))]
  let h5 := put h4 2 #[.iface 955 (.pointer (some ⟨low + 1, 0, none⟩))]
  { w0 with heap := h5 }
end Go.Proofs.YtogmkmomikjmiaaGreatDoor

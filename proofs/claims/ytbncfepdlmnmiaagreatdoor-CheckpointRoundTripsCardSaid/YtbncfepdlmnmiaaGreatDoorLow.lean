/- The reach of the row, and the world it starts in. -/
import Derived.ChangeSame
import Derived.OpenShut
import Derived.ProofKit
import Derived.RowKit3
import Derived.Test.YtbncfepdlmnmiaaGreatDoorCards
import Derived.Test.YtbncfepdlmnmiaaGreatDoorTie
import Derived.Deep.DeepHandedRow
import Derived.Lib.LaidTab
import Derived.Test.YtbncfepdlmnmiaaGreatDoorHand
namespace Go.Ab
open Go.RowKit

/-- Every block that there was stands as it stood; the system and the output are as they were. -/
def Still(W hG:World):Prop:=hG.os=W.os∧hG.output=W.output∧∀(b:Nat) (a8:Obj),W.heap[b]? = some a8→hG.heap[b]? = some a8
theorem Still.kept{W hG:World}(h:Still W hG)(may:MemPlace→Prop):W.keptBut hG may:=by
  have e:∀i,i<W.heap.size→hG.heap[i]? = W.heap[i]? := λi hi=>by
    have:W.heap[i]? = some W.heap[i]:=Array.getElem?_eq_getElem hi
    rw [this];exact h.2.2 i _ this
  have ai:=World.keptBut_refl W may
  refine⟨h.1,h.2.1,λi hi=>?_⟩
  rw [e i hi]
  exact ai.2.2 i hi
section
variable {H:Type} {enc:TypeId×Value→H} {P:Program}
/-- What a law's claim asks behind the call: its arguments read as they read. -/
theorem post_of_still{f:Func}{s:ChangeSpec}{apart fresh handsOn:Bool}{W hG:World}{args:Array Value}{v:Value}{ds gs:List (DataW H)}{before pa pv:List MemPlace}
    (qT:DataW.Whole enc P f.params.toList s.vars apart W args.toList ds gs before)
    (hS:∀(b:Nat) (sp:Nat→Bool) (hd:Bool),DataW.TrodAll enc P hG b sp hd f.resultTypes.toList (v.resultList f.resultTypes.size) (s.fn H (ds++gs)).results [])
    (e5:∀sp:Nat→Bool,(∀p∈before,sp p.block=true)→DataW.TrodAll enc P hG 0 sp true f.params.toList args.toList (s.fn H (ds++gs)).args pa)
    (as3:∀sp:Nat→Bool,(∀p∈before,sp p.block=true)→DataW.TrodVars enc P hG sp s.vars (s.fn H (ds++gs)).vars pv)
    (gt:before=pa++pv) (hk:Still W hG):
    s.post enc P f apart fresh handsOn false W args v hG:=by
  have hold:∀p∈before,(λb=>decide (b<W.heap.size)) p.block=true:=λp hp=>by simpa using qT.lt p hp
  refine⟨ds,gs,before,[],pa,pv,qT,hS _ _ _,e5 _ hold,as3 _ hold,World.keptBut_mono (λp hp=>⟨hp,?_⟩) (hk.kept (· ∈ before)),λh=>by cases h⟩
  rw [gt,List.mem_append]at hp
  exact Or.inr hp
end
/-- What was read before is read behind it. -/
theorem args_still{H:Type}{enc:TypeId×Value→H}{P:Program}{T:TypeId→Prop}(K:Kids P T)(cY:∀t e,T t→P.underlying t=some (.slice e)→0<P.cellsOf e){W hG:World}{ts:List TypeId}{vs:List Value}{ds:List (DataW H)}{bu:List MemPlace}
    (aD:∀t∈ts,T t) (h:DataW.TrodAll enc P W 0 (λ_=>true) true ts vs ds bu) (hk:Still W hG) (sp:Nat→Bool) (hs:∀p∈bu,sp p.block=true):DataW.TrodAll enc P hG 0 sp true ts vs ds bu:=by
  have bw:=h.lt
  have as4:∀p∈bu,W.sameAt hG p:=by
    intro p hp
    have hb:=bw p hp
    cases p with
    |cell b off=>
      have hb:b<W.heap.size:=hb
      have e:=hk.2.2 b _ (Array.getElem?_eq_getElem hb)
      unfold World.sameAt World.cell?
      simp only [e,Array.getElem?_eq_getElem hb]
    |map b=>
      have hb:b<W.heap.size:=hb
      exact(hk.2.2 b _ (Array.getElem?_eq_getElem hb)).trans (Array.getElem?_eq_getElem hb).symm
  have carry:∀{ts:List TypeId} {vs:List Value} {ds:List (DataW H)} {bu:List MemPlace},DataW.TrodAll enc P W 0 (λ_=>true) true ts vs ds bu→(∀p∈bu,W.sameAt hG p)→DataW.TrodAll enc P hG 0 (λ_=>true) true ts vs ds bu:=by
    intro ts
    induction ts with
    |nil=>intro vs ds bu h _;obtain⟨rfl,rfl,rfl⟩:=Go.ChangeShapes.trodAll_nil h;exact rfl
    |cons t ts aM=>
      intro vs ds bu h hs
      obtain⟨v,ot,d,auP,a,b,rfl,rfl,rfl,⟨n,Z⟩,aa⟩:=Go.ChangeShapes.trodAll_cons h
      exact⟨a,b,⟨n,DataW.trod_carry n _ _ _ Z λp hp=>hs p (List.mem_append_left _ hp)⟩,aM aa λp hp=>hs p (List.mem_append_right _ hp),rfl⟩
  exact(carry h as4).respare K cY aD hs
/-- From a contract over the machine to a call over the model. -/
theorem law_on{P:Program}{f:FuncId}{vs:List Value}{ds:List D}{W:World}(h:gL P f ds [] [] (.ret (.v (.bool true)) none) [])(hg:sf P λb=>W.heap[b]?)(hlen:vs.length=ds.length)
    (ai:∀(i:Nat) v d,vs[i]? = some v→ds[i]? = some d→cv (wH W) (λ_=>none) v d):
    Calls P f ⟨vs⟩ W λe hG=>e = .returned (.bool true)∧Still W hG:=by
  let K:Ctx:={vF:=wH W,F:=λb=>W.heap[b]?,j':=λ_=>none,h3:=(W.os,W.output)}
  have hs:bI P K (wH W) (λ_=>none) {env:=h7 ds [],H:=cX 0 [],aX:=([]:List (List aW)).length} (⟨vs⟩:Array Value) W:=by
    have fo:∀l e,({env:=h7 ds [],H:=cX 0 [],aX:=([]:List (List aW)).length}:aH).at l=some e→∃i d,l = .slot i∧ds[i]? = some d∧e=⟨d,none⟩:=by
      intro l e ab
      cases l with
      |cell r i=>simp [aH.at,cX,look]at ab
      |slot i=>
        simp only [aH.at,h7,nz,BX,Option.map_eq_some_iff,look]at ab
        obtain⟨d,hd,rfl⟩:=ab
        exact⟨i,d,rfl,hd,rfl⟩
    constructor
    · intro l e ab
      obtain⟨i,d,rfl,hd,rfl⟩:=fo l e ab
      have hi:i<vs.length:=by rw [hlen];exact(List.getElem?_eq_some_iff.1 hd).1
      have au:vs[i]? = some vs[i]:=List.getElem?_eq_getElem hi
      have:ce (⟨vs⟩:Array Value) W (λ_=>none) (.slot i)=vs[i]:=by simp [ce,au]
      rw [this]
      exact ai i _ d au hd
    · intro l e T ab aD;obtain⟨i,d,rfl,hd,rfl⟩:=fo l e ab;cases aD
    · intro l cH e aY T T' b ab aD;obtain⟨i,d,rfl,hd,rfl⟩:=fo l e ab;cases aD
    · intro l e T b r cs ab aD;obtain⟨i,d,rfl,hd,rfl⟩:=fo l e ab;cases aD
    · intro r cs ai;simp [cX,look]at ai
    · intro r cI b cs cs' ai;simp [cX,look]at ai
    · intro r b hb;cases hb
    · intro b o v au;exact au
    · exact Mem.le_refl _
    · intro b a8 hb;exact⟨hb,λ_=>rfl⟩
    · intro r b hb;cases hb
    · exact hg
    · rfl
  refine(h.2 K W vs (wH W) (λ_=>none) hlen hs (λr b hb=>by cases hb)).mono ?_
  rintro e hG ⟨o,H',v,M',β',⟨rfl,rfl⟩,he,cT⟩
  have au:v = .bool true:=by
    have Z:=cT.e4 (.slot 0) ⟨.v (.bool true),none⟩ (by simp [aH.at,ih,dC])
    have aa:ce (#[v]:Array Value) hG β' (.slot 0)=v:=by simp [ce]
    rw [aa]at Z
    cases Z with|v u x h=>cases h;rfl
  subst au
  refine⟨he,?_⟩
  have pj:(hG.os,hG.output)=(W.os,W.output):=cT.h3
  exact⟨congrArg Prod.fst pj,congrArg Prod.snd pj,λb a8 hb=>(cT.frame b a8 hb).1⟩
theorem law_on_text{P:Program}{f:FuncId}{s:ByteArray}{W:World}(h:gL P f [.v (.str s.data.toList)] [] [] (.ret (.v (.bool true)) none) [])(hg:sf P λb=>W.heap[b]?):
    Calls P f #[.string s] W λe hG=>e = .returned (.bool true)∧Still W hG:=
  law_on (vs:=[.string s]) h hg rfl λi v d au hd=>by
    match i with
    | 0=>cases au;cases hd;exact .v _ _ (.str _)
    |i+1=>simp at au

/-- A listed variable of an interface type, that reads as an interface value, holds one. -/
theorem iface_of_laid{P:Program}{W:World}{n:String}{u:String}{d:DataW Unit}{g t:Nat}{ms:Array (String×TypeId)}{rest:List (String×DataW Unit)}{bu:List MemPlace}
    (h:DataW.LaidVars P W ((n,.iface u d)::rest) bu) (hg:P.globalNamed n=some g) (hl:(P.globals[g]?).map (·.type)=some t) (aF:P.underlying t=some (.interface ms)):
    (∃cs t ld fQ,W.heap[g]? = some (.cells cs t ld)∧cs[0]? = some fQ∧(fQ = .nilIface∨∃cm sg,fQ = .iface cm sg))∧∃q,DataW.LaidVars P W rest q:=by
  obtain⟨e0,bX,cs,fuel,p,q,hg',e6,l3,hd,ai,_⟩:=h
  obtain rfl:=Option.some.inj (hg.symm.trans hg')
  obtain rfl:=Option.some.inj (hl.symm.trans e6)
  refine⟨?_,q,ai⟩
  unfold World.var? at l3
  rw [hg,Option.bind_some]at l3
  cases bn:W.heap[g]? with
  |none=>rw [bn]at l3;cases l3
  |some a8=>
    rw [bn]at l3
    cases a8 with
    |cells cs' bX ld=>
      simp only [Option.some.injEq]at l3
      subst l3
      cases fuel with
      |zero=>simp [DataW.trod]at hd
      |succ fuel=>
        unfold DataW.trod at hd
        rw [aF]at hd
        split at hd<;>simp_all
        rename_i e1
        rw [←Array.getElem?_toList,e1]
        exact⟨_,rfl,Or.inr ⟨_,_,rfl⟩⟩
    |_=>simp at l3
theorem laid_rest{P:Program}{W:World}{x:String×DataW Unit}{rest:List (String×DataW Unit)}{bu:List MemPlace}(h:DataW.LaidVars P W (x::rest) bu):∃q,DataW.LaidVars P W rest q:=by
  obtain⟨e0,bX,cs,fuel,p,q,hg',e6,l3,hd,ai,_⟩:=h
  exact⟨q,ai⟩
end Go.Ab

namespace Go.Proofs.YtbncfepdlmnmiaaGreatDoor
open Go.ChangeShapes Go.WideShapes Go.ChangeAt Go.RowKit
open Go.ChangeMaps (open_string shut_string)
open Go.Ab (Still sf)

theorem own:ownKnob Tryz.prog.godebug=none:=by kernel_rfl
theorem gRange : Tryz.prog.globalNamed "strconv.ErrRange" = some 5 := by kernel_rfl
theorem gSyntax : Tryz.prog.globalNamed "strconv.ErrSyntax" = some 4 := by kernel_rfl
theorem gRangeT:(Tryz.prog.globals[5]?).map (·.type)=some 108:=by kernel_rfl
theorem gSyntaxT:(Tryz.prog.globals[4]?).map (·.type)=some 108:=by kernel_rfl
def theLaid : List (String × DataW Unit) := [("math/bits.deBruijn32tab", Rows.laid_math_bits_deBruijn32tab), ("math/bits.deBruijn64tab", Rows.laid_math_bits_deBruijn64tab), ("internal/strconv.uint64pow10", Rows.laid_internal_strconv_uint64pow10), ("strconv.ErrRange", Rows.laid_strconv_ErrRange), ("strconv.ErrSyntax", Rows.laid_strconv_ErrSyntax)]
theorem tab_of_laid{P:Program}{W:World}{name:String}{k:IntKind}{zs:List Int}{rest:List (String×DataW Unit)}{bu:List MemPlace}{g:Nat}{t e:TypeId}{n:Nat}
    (hg:P.globalNamed name=some g) (hl:(P.globals[g]?).map (·.type)=some t) (aF:P.underlying t=some (.array n e)) (he:P.underlying e=some (.int k)) (MJ:P.cellsOf e=1) (as5:P.cellsOf t=n)
    (h:DataW.LaidVars P W ((name,Lib.tabData k zs)::rest) bu):(∃t ld,W.heap[g]? = some (.cells (zs.map λz=>Value.int k z).toArray t ld))∧∃q,DataW.LaidVars P W rest q:=by
  obtain⟨e0,bX,cs,fuel,p,q,hg',e6,l3,hd,ai,_⟩:=h
  obtain rfl:=Option.some.inj (hg.symm.trans hg')
  obtain rfl:=Option.some.inj (hl.symm.trans e6)
  have hc:=Lib.cells_of_tab aF he MJ as5 hd
  refine⟨?_,q,ai⟩
  have ej:cs=(zs.map λz=>Value.int k z).toArray:=by rw [←hc]
  subst ej
  unfold World.var? at l3
  rw [hg,Option.bind_some]at l3
  cases bn:W.heap[g]? with
  |none=>rw [bn]at l3;cases l3
  |some a8=>
    rw [bn]at l3
    cases a8 with
    |cells cs' t2 ld=>simp only [Option.some.injEq]at l3;subst l3;exact⟨_,_,rfl⟩
    |_=>simp at l3
theorem gTabT:(Tryz.prog.globals[1]?).map (·.type)=some 427:=by kernel_rfl
theorem good_laid{W:World}(h:laidMet Tryz.prog theLaid W):sf Tryz.prog λb=>W.heap[b]? := by
  obtain⟨bu,Z,_⟩:=h
  obtain⟨aG,Z⟩:=Ab.laid_rest Z
  obtain⟨bf,Z⟩:=Ab.laid_rest Z
  obtain⟨h0,bW,Z⟩:=tab_of_laid (zs:=Lib.pow10Tab) Ab.Y.HF gTabT Tryz.underlying427 Tryz.underlying32 (by kernel_rfl) (by kernel_rfl) Z
  obtain⟨am,da,Z⟩:=Ab.iface_of_laid Z gRange gRangeT Tryz.underlying108
  obtain⟨aa,dX,Z⟩:=Ab.iface_of_laid Z gSyntax gSyntaxT Tryz.underlying108
  refine⟨λg hg=>?_,λg hg=>?_⟩
  · rw [Ab.Y.Oy]at hg
    simp only [List.mem_cons,List.not_mem_nil,or_false]at hg
    rcases hg with rfl|rfl
    · exact aa
    · exact am
  · obtain rfl:=Option.some.inj (Ab.Y.HF.symm.trans hg)
    rw [←Ab.Y.X3];exact h0
def vals:DataW Unit→Array Value
  |.agg l=>(l.map fun |.lit (.int k n)=>Value.int k n |_=>.nilIface).toArray
  |_ => #[]
noncomputable def low:Nat:=(World.holding Tryz.prog default ⟨#[],#[],[]⟩).heap.size
/-- THE WITNESS: the settled world, the listed variables holding what their initialisers lay. -/
noncomputable def laidWorld(os:Os):World:=
  let Us:=World.holding Tryz.prog os ⟨#[.cells #[.string ⟨#[118,97,108,117,101,32,111,117,116,32,111,102,32,114,97,110,103,101]⟩] 447,.cells #[.string ⟨#[105,110,118,97,108,105,100,32,115,121,110,116,97,120]⟩] 447],#[],[]⟩
  let put (h:Array Obj) (g:Nat) (cs:Array Value):Array Obj:=h.modify g fun
    |.cells _ t frozen=>.cells cs t frozen
    |o=>o
  let Z:=put Us.heap 2 (vals Rows.laid_math_bits_deBruijn32tab)
  let aa:=put Z 3 (vals Rows.laid_math_bits_deBruijn64tab)
  let am:=put aa 1 (vals Rows.laid_internal_strconv_uint64pow10)
  let aK:=put am 5 #[.iface 445 (.pointer (some ⟨low,0,none⟩))]
  let bd:=put aK 4 #[.iface 445 (.pointer (some ⟨low+1,0,none⟩))]
  {Us with heap:=bd}
theorem laid_met(os:Os):laidMet Tryz.prog theLaid ((laidWorld os).forCall (λ_ _=>0) ⟨#[],#[.string ⟨#[]⟩],[]⟩).memory:=
  laidMet_of_run' 8 (by kernel_rfl) (by kernel_rfl)
theorem fnum : Tryz.prog.funcNamed "clockwork/clockworklaw49.CheckpointBegins" = some 3 := by kernel_rfl
end Go.Proofs.YtbncfepdlmnmiaaGreatDoor

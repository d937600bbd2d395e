/- The reach of the row, and the world it starts in. -/
import Derived.ChangeSame
import Derived.OpenShut
import Derived.ProofKit
import Derived.RowKit3
import Derived.Test.YtcjbfnojhpfchaaGreatDoorCards
import Derived.Test.YtcjbfnojhpfchaaGreatDoorTie
import Derived.Deep.DeepHandedRow
import Derived.Lib.LaidTab
import Derived.Test.YtcjbfnojhpfchaaGreatDoorHand
namespace Go.Ab
open Go.RowKit

/-- Every block that there was stands as it stood; the system and the output are as they were. -/
def Still(W hB:World):Prop:=hB.os=W.os∧hB.output=W.output∧∀(b:Nat) (a7:Obj),W.heap[b]? = some a7→hB.heap[b]? = some a7
theorem Still.kept{W hB:World}(h:Still W hB)(may:MemPlace→Prop):W.keptBut hB may:=by
  have e:∀i,i<W.heap.size→hB.heap[i]? = W.heap[i]? := λi hi=>by
    have:W.heap[i]? = some W.heap[i]:=Array.getElem?_eq_getElem hi
    rw [this];exact h.2.2 i _ this
  have ai:=World.keptBut_refl W may
  refine⟨h.1,h.2.1,λi hi=>?_⟩
  rw [e i hi]
  exact ai.2.2 i hi
section
variable {H:Type} {enc:TypeId×Value→H} {P:Program}
/-- What a law's claim asks behind the call: its arguments read as they read. -/
theorem post_of_still{f:Func}{s:ChangeSpec}{apart fresh handsOn:Bool}{W hB:World}{args:Array Value}{v:Value}{ds gs:List (DataW H)}{before pa pv:List MemPlace}
    (yd:DataW.Whole enc P f.params.toList s.vars apart W args.toList ds gs before)
    (js:∀(b:Nat) (sp:Nat→Bool) (hd:Bool),DataW.TrodAll enc P hB b sp hd f.resultTypes.toList (v.resultList f.resultTypes.size) (s.fn H (ds++gs)).results [])
    (e7:∀sp:Nat→Bool,(∀p∈before,sp p.block=true)→DataW.TrodAll enc P hB 0 sp true f.params.toList args.toList (s.fn H (ds++gs)).args pa)
    (aqp:∀sp:Nat→Bool,(∀p∈before,sp p.block=true)→DataW.TrodVars enc P hB sp s.vars (s.fn H (ds++gs)).vars pv)
    (gv:before=pa++pv) (hk:Still W hB):
    s.post enc P f apart fresh handsOn false W args v hB:=by
  have hold:∀p∈before,(λb=>decide (b<W.heap.size)) p.block=true:=λp hp=>by simpa using yd.lt p hp
  refine⟨ds,gs,before,[],pa,pv,yd,js _ _ _,e7 _ hold,aqp _ hold,World.keptBut_mono (λp hp=>⟨hp,?_⟩) (hk.kept (· ∈ before)),λh=>by cases h⟩
  rw [gv,List.mem_append]at hp
  exact Or.inr hp
end
/-- What was read before is read behind it. -/
theorem args_still{H:Type}{enc:TypeId×Value→H}{P:Program}{T:TypeId→Prop}(K:Kids P T)(cX:∀t e,T t→P.underlying t=some (.slice e)→0<P.cellsOf e){W hB:World}{ts:List TypeId}{vs:List Value}{ds:List (DataW H)}{bI:List MemPlace}
    (aL:∀t∈ts,T t) (h:DataW.TrodAll enc P W 0 (λ_=>true) true ts vs ds bI) (hk:Still W hB) (sp:Nat→Bool) (hs:∀p∈bI,sp p.block=true):DataW.TrodAll enc P hB 0 sp true ts vs ds bI:=by
  have bO:=h.lt
  have aqq:∀p∈bI,W.sameAt hB p:=by
    intro p hp
    have hb:=bO p hp
    cases p with
    |cell b off=>
      have hb:b<W.heap.size:=hb
      have e:=hk.2.2 b _ (Array.getElem?_eq_getElem hb)
      unfold World.sameAt World.cell?
      simp only [e,Array.getElem?_eq_getElem hb]
    |map b=>
      have hb:b<W.heap.size:=hb
      exact(hk.2.2 b _ (Array.getElem?_eq_getElem hb)).trans (Array.getElem?_eq_getElem hb).symm
  have carry:∀{ts:List TypeId} {vs:List Value} {ds:List (DataW H)} {bI:List MemPlace},DataW.TrodAll enc P W 0 (λ_=>true) true ts vs ds bI→(∀p∈bI,W.sameAt hB p)→DataW.TrodAll enc P hB 0 (λ_=>true) true ts vs ds bI:=by
    intro ts
    induction ts with
    |nil=>intro vs ds bI h _;obtain⟨rfl,rfl,rfl⟩:=Go.ChangeShapes.trodAll_nil h;exact rfl
    |cons t ts aR=>
      intro vs ds bI h hs
      obtain⟨v,lb,d,arD,a,b,rfl,rfl,rfl,⟨n,Z⟩,ab⟩:=Go.ChangeShapes.trodAll_cons h
      exact⟨a,b,⟨n,DataW.trod_carry n _ _ _ Z λp hp=>hs p (List.mem_append_left _ hp)⟩,aR ab λp hp=>hs p (List.mem_append_right _ hp),rfl⟩
  exact(carry h aqq).respare K cX aL hs
/-- From a contract over the machine to a call over the model. -/
theorem law_on{P:Program}{f:FuncId}{vs:List Value}{ds:List D}{W:World}(h:hq P f ds [] [] (.ret (.v (.bool true)) none) [])(hg:rX P λb=>W.heap[b]?)(hlen:vs.length=ds.length)
    (ai:∀(i:Nat) v d,vs[i]? = some v→ds[i]? = some d→cE (wx W) (λ_=>none) v d):
    Calls P f ⟨vs⟩ W λe hB=>e = .returned (.bool true)∧Still W hB:=by
  let K:Ctx:={BK:=wx W,F:=λb=>W.heap[b]?,lK:=λ_=>none,h_:=(W.os,W.output)}
  have hs:bV P K (wx W) (λ_=>none) {env:=h2 ds [],H:=cZ 0 [],aZ:=([]:List (List a')).length} (⟨vs⟩:Array Value) W:=by
    have gu:∀l e,({env:=h2 ds [],H:=cZ 0 [],aZ:=([]:List (List a')).length}:aO).at l=some e→∃i d,l = .slot i∧ds[i]? = some d∧e=⟨d,none⟩:=by
      intro l e ae
      cases l with
      |cell r i=>simp [aO.at,cZ,look]at ae
      |slot i=>
        simp only [aO.at,h2,nn,B1,Option.map_eq_some_iff,look]at ae
        obtain⟨d,hd,rfl⟩:=ae
        exact⟨i,d,rfl,hd,rfl⟩
    constructor
    · intro l e ae
      obtain⟨i,d,rfl,hd,rfl⟩:=gu l e ae
      have hi:i<vs.length:=by rw [hlen];exact(List.getElem?_eq_some_iff.1 hd).1
      have ax:vs[i]? = some vs[i]:=List.getElem?_eq_getElem hi
      have:cB (⟨vs⟩:Array Value) W (λ_=>none) (.slot i)=vs[i]:=by simp [cB,ax]
      rw [this]
      exact ai i _ d ax hd
    · intro l e T ae aL;obtain⟨i,d,rfl,hd,rfl⟩:=gu l e ae;cases aL
    · intro l cQ e bp T T' b ae aL;obtain⟨i,d,rfl,hd,rfl⟩:=gu l e ae;cases aL
    · intro l e T b r cs ae aL;obtain⟨i,d,rfl,hd,rfl⟩:=gu l e ae;cases aL
    · intro r cs ai;simp [cZ,look]at ai
    · intro r dL b cs cs' ai;simp [cZ,look]at ai
    · intro r b hb;cases hb
    · intro b o v ax;exact ax
    · exact Mem.le_refl _
    · intro b a7 hb;exact⟨hb,λ_=>rfl⟩
    · intro r b hb;cases hb
    · exact hg
    · rfl
  refine(h.2 K W vs (wx W) (λ_=>none) hlen hs (λr b hb=>by cases hb)).mono ?_
  rintro e hB ⟨o,b0,v,M',β',⟨rfl,rfl⟩,he,cT⟩
  have ax:v = .bool true:=by
    have Z:=cT.fC (.slot 0) ⟨.v (.bool true),none⟩ (by simp [aO.at,iH,ee])
    have ab:cB (#[v]:Array Value) hB β' (.slot 0)=v:=by simp [cB]
    rw [ab]at Z
    cases Z with|v u x h=>cases h;rfl
  subst ax
  refine⟨he,?_⟩
  have o1:(hB.os,hB.output)=(W.os,W.output):=cT.h_
  exact⟨congrArg Prod.fst o1,congrArg Prod.snd o1,λb a7 hb=>(cT.frame b a7 hb).1⟩
theorem law_on_text{P:Program}{f:FuncId}{s:ByteArray}{W:World}(h:hq P f [.v (.str s.data.toList)] [] [] (.ret (.v (.bool true)) none) [])(hg:rX P λb=>W.heap[b]?):
    Calls P f #[.string s] W λe hB=>e = .returned (.bool true)∧Still W hB:=
  law_on (vs:=[.string s]) h hg rfl λi v d ax hd=>by
    match i with
    | 0=>cases ax;cases hd;exact .v _ _ (.str _)
    |i+1=>simp at ax

/-- A listed variable of an interface type, that reads as an interface value, holds one. -/
theorem iface_of_laid{P:Program}{W:World}{n:String}{u:String}{d:DataW Unit}{g t:Nat}{ms:Array (String×TypeId)}{rest:List (String×DataW Unit)}{bI:List MemPlace}
    (h:DataW.LaidVars P W ((n,.iface u d)::rest) bI) (hg:P.globalNamed n=some g) (ho:(P.globals[g]?).map (·.type)=some t) (aA:P.underlying t=some (.interface ms)):
    (∃cs t k_ fR,W.heap[g]? = some (.cells cs t k_)∧cs[0]? = some fR∧(fR = .nilIface∨∃cr rY,fR = .iface cr rY))∧∃q,DataW.LaidVars P W rest q:=by
  obtain⟨e6,bq,cs,fuel,p,q,hg',dd,l4,hd,ai,_⟩:=h
  obtain rfl:=Option.some.inj (hg.symm.trans hg')
  obtain rfl:=Option.some.inj (ho.symm.trans dd)
  refine⟨?_,q,ai⟩
  unfold World.var? at l4
  rw [hg,Option.bind_some]at l4
  cases bJ:W.heap[g]? with
  |none=>rw [bJ]at l4;cases l4
  |some a7=>
    rw [bJ]at l4
    cases a7 with
    |cells cs' bq k_=>
      simp only [Option.some.injEq]at l4
      subst l4
      cases fuel with
      |zero=>simp [DataW.trod]at hd
      |succ fuel=>
        unfold DataW.trod at hd
        rw [aA]at hd
        split at hd<;>simp_all
        rename_i e1
        rw [←Array.getElem?_toList,e1]
        exact⟨_,rfl,Or.inr ⟨_,_,rfl⟩⟩
    |_=>simp at l4
theorem laid_rest{P:Program}{W:World}{x:String×DataW Unit}{rest:List (String×DataW Unit)}{bI:List MemPlace}(h:DataW.LaidVars P W (x::rest) bI):∃q,DataW.LaidVars P W rest q:=by
  obtain⟨e6,bq,cs,fuel,p,q,hg',dd,l4,hd,ai,_⟩:=h
  exact⟨q,ai⟩
end Go.Ab

namespace Go.Proofs.YtcjbfnojhpfchaaGreatDoor
open Go.ChangeShapes Go.WideShapes Go.ChangeAt Go.RowKit
open Go.ChangeMaps (open_string shut_string)
open Go.Ab (Still rX)

theorem own:ownKnob Tryz.prog.godebug=none:=by kernel_rfl
theorem gRange : Tryz.prog.globalNamed "strconv.ErrRange" = some 5 := by kernel_rfl
theorem gSyntax : Tryz.prog.globalNamed "strconv.ErrSyntax" = some 4 := by kernel_rfl
theorem gRangeT:(Tryz.prog.globals[5]?).map (·.type)=some 122:=by kernel_rfl
theorem gSyntaxT:(Tryz.prog.globals[4]?).map (·.type)=some 122:=by kernel_rfl
def theLaid : List (String × DataW Unit) := [("math/bits.deBruijn32tab", Rows.laid_math_bits_deBruijn32tab), ("math/bits.deBruijn64tab", Rows.laid_math_bits_deBruijn64tab), ("internal/strconv.uint64pow10", Rows.laid_internal_strconv_uint64pow10), ("strconv.ErrRange", Rows.laid_strconv_ErrRange), ("strconv.ErrSyntax", Rows.laid_strconv_ErrSyntax)]
theorem tab_of_laid{P:Program}{W:World}{name:String}{k:IntKind}{zs:List Int}{rest:List (String×DataW Unit)}{bI:List MemPlace}{g:Nat}{t e:TypeId}{n:Nat}
    (hg:P.globalNamed name=some g) (ho:(P.globals[g]?).map (·.type)=some t) (aA:P.underlying t=some (.array n e)) (he:P.underlying e=some (.int k)) (Nw:P.cellsOf e=1) (aqr:P.cellsOf t=n)
    (h:DataW.LaidVars P W ((name,Lib.tabData k zs)::rest) bI):(∃t k_,W.heap[g]? = some (.cells (zs.map λz=>Value.int k z).toArray t k_))∧∃q,DataW.LaidVars P W rest q:=by
  obtain⟨e6,bq,cs,fuel,p,q,hg',dd,l4,hd,ai,_⟩:=h
  obtain rfl:=Option.some.inj (hg.symm.trans hg')
  obtain rfl:=Option.some.inj (ho.symm.trans dd)
  have hc:=Lib.cells_of_tab aA he Nw aqr hd
  refine⟨?_,q,ai⟩
  have ev:cs=(zs.map λz=>Value.int k z).toArray:=by rw [←hc]
  subst ev
  unfold World.var? at l4
  rw [hg,Option.bind_some]at l4
  cases bJ:W.heap[g]? with
  |none=>rw [bJ]at l4;cases l4
  |some a7=>
    rw [bJ]at l4
    cases a7 with
    |cells cs' t2 k_=>simp only [Option.some.injEq]at l4;subst l4;exact⟨_,_,rfl⟩
    |_=>simp at l4
theorem gTabT:(Tryz.prog.globals[1]?).map (·.type)=some 384:=by kernel_rfl
theorem good_laid{W:World}(h:laidMet Tryz.prog theLaid W):rX Tryz.prog λb=>W.heap[b]? := by
  obtain⟨bI,Z,_⟩:=h
  obtain⟨aD,Z⟩:=Ab.laid_rest Z
  obtain⟨bm,Z⟩:=Ab.laid_rest Z
  obtain⟨h0,bM,Z⟩:=tab_of_laid (zs:=Lib.pow10Tab) Ab.Y.HX gTabT Tryz.underlying384 Tryz.underlying32 (by kernel_rfl) (by kernel_rfl) Z
  obtain⟨aq,db,Z⟩:=Ab.iface_of_laid Z gRange gRangeT Tryz.underlying122
  obtain⟨ab,cW,Z⟩:=Ab.iface_of_laid Z gSyntax gSyntaxT Tryz.underlying122
  refine⟨λg hg=>?_,λg hg=>?_⟩
  · rw [Ab.Y.Pa]at hg
    simp only [List.mem_cons,List.not_mem_nil,or_false]at hg
    rcases hg with rfl|rfl
    · exact ab
    · exact aq
  · obtain rfl:=Option.some.inj (Ab.Y.HX.symm.trans hg)
    rw [←Ab.Y.Yb];exact h0
def vals:DataW Unit→Array Value
  |.agg l=>(l.map fun |.lit (.int k n)=>Value.int k n |_=>.nilIface).toArray
  |_ => #[]
noncomputable def low:Nat:=(World.holding Tryz.prog default ⟨#[],#[],[]⟩).heap.size
/-- THE WITNESS: the settled world, the listed variables holding what their initialisers lay. -/
noncomputable def laidWorld(os:Os):World:=
  let UV:=World.holding Tryz.prog os ⟨#[.cells #[.string ⟨#[118,97,108,117,101,32,111,117,116,32,111,102,32,114,97,110,103,101]⟩] 404,.cells #[.string ⟨#[105,110,118,97,108,105,100,32,115,121,110,116,97,120]⟩] 404],#[],[]⟩
  let put (h:Array Obj) (g:Nat) (cs:Array Value):Array Obj:=h.modify g fun
    |.cells _ t frozen=>.cells cs t frozen
    |o=>o
  let Z:=put UV.heap 2 (vals Rows.laid_math_bits_deBruijn32tab)
  let ab:=put Z 3 (vals Rows.laid_math_bits_deBruijn64tab)
  let aq:=put ab 1 (vals Rows.laid_internal_strconv_uint64pow10)
  let aN:=put aq 5 #[.iface 402 (.pointer (some ⟨low,0,none⟩))]
  let bn:=put aN 4 #[.iface 402 (.pointer (some ⟨low+1,0,none⟩))]
  {UV with heap:=bn}
theorem laid_met(os:Os):laidMet Tryz.prog theLaid ((laidWorld os).forCall (λ_ _=>0) ⟨#[],#[.string ⟨#[]⟩],[]⟩).memory:=
  laidMet_of_run' 8 (by kernel_rfl) (by kernel_rfl)
theorem fnum : Tryz.prog.funcNamed "clockwork/clockworklaw48.ImageEncodes" = some 3 := by kernel_rfl
end Go.Proofs.YtcjbfnojhpfchaaGreatDoor

/- The reach of the row, and the world it starts in. -/
import Derived.ChangeSame
import Derived.OpenShut
import Derived.ProofKit
import Derived.RowKit3
import Derived.Test.YtcjbfnojhpfchaaGreatDoorCards
import Derived.Test.YtcjbfnojhpfchaaGreatDoorTie
import Derived.Deep.DeepHandedRow
import Derived.Lib.LaidTab
import Derived.Test.YtcjbfnojhpfchaaGreatDoorHand
namespace Go.Ab
open Go.RowKit

/-- Every block that there was stands as it stood; the system and the output are as they were. -/
def Still(W gB:World):Prop:=gB.os=W.os∧gB.output=W.output∧∀(b:Nat) (aZ:Obj),W.heap[b]? = some aZ→gB.heap[b]? = some aZ
theorem Still.kept{W gB:World}(h:Still W gB)(may:MemPlace→Prop):W.keptBut gB may:=by
  have e:∀i,i<W.heap.size→gB.heap[i]? = W.heap[i]? := λi hi=>by
    have:W.heap[i]? = some W.heap[i]:=Array.getElem?_eq_getElem hi
    rw [this];exact h.2.2 i _ this
  have ak:=World.keptBut_refl W may
  refine⟨h.1,h.2.1,λi hi=>?_⟩
  rw [e i hi]
  exact ak.2.2 i hi
section
variable {H:Type} {enc:TypeId×Value→H} {P:Program}
/-- What a law's claim asks behind the call: its arguments read as they read. -/
theorem post_of_still{f:Func}{s:ChangeSpec}{apart fresh handsOn:Bool}{W gB:World}{args:Array Value}{v:Value}{ds gs:List (DataW H)}{before pa pv:List MemPlace}
    (uF:DataW.Whole enc P f.params.toList s.vars apart W args.toList ds gs before)
    (iq:∀(b:Nat) (sp:Nat→Bool) (hd:Bool),DataW.TrodAll enc P gB b sp hd f.resultTypes.toList (v.resultList f.resultTypes.size) (s.fn H (ds++gs)).results [])
    (eJ:∀sp:Nat→Bool,(∀p∈before,sp p.block=true)→DataW.TrodAll enc P gB 0 sp true f.params.toList args.toList (s.fn H (ds++gs)).args pa)
    (aki:∀sp:Nat→Bool,(∀p∈before,sp p.block=true)→DataW.TrodVars enc P gB sp s.vars (s.fn H (ds++gs)).vars pv)
    (k_:before=pa++pv) (hk:Still W gB):
    s.post enc P f apart fresh handsOn false W args v gB:=by
  have hold:∀p∈before,(λb=>decide (b<W.heap.size)) p.block=true:=λp hp=>by simpa using uF.lt p hp
  refine⟨ds,gs,before,[],pa,pv,uF,iq _ _ _,eJ _ hold,aki _ hold,World.keptBut_mono (λp hp=>⟨hp,?_⟩) (hk.kept (· ∈ before)),λh=>by cases h⟩
  rw [k_,List.mem_append]at hp
  exact Or.inr hp
end
/-- What was read before is read behind it. -/
theorem args_still{H:Type}{enc:TypeId×Value→H}{P:Program}{T:TypeId→Prop}(K:Kids P T)(dE:∀t e,T t→P.underlying t=some (.slice e)→0<P.cellsOf e){W gB:World}{ts:List TypeId}{vs:List Value}{ds:List (DataW H)}{cy:List MemPlace}
    (aS:∀t∈ts,T t) (h:DataW.TrodAll enc P W 0 (λ_=>true) true ts vs ds cy) (hk:Still W gB) (sp:Nat→Bool) (hs:∀p∈cy,sp p.block=true):DataW.TrodAll enc P gB 0 sp true ts vs ds cy:=by
  have c8:=h.lt
  have akj:∀p∈cy,W.sameAt gB p:=by
    intro p hp
    have hb:=c8 p hp
    cases p with
    |cell b off=>
      have hb:b<W.heap.size:=hb
      have e:=hk.2.2 b _ (Array.getElem?_eq_getElem hb)
      unfold World.sameAt World.cell?
      simp only [e,Array.getElem?_eq_getElem hb]
    |map b=>
      have hb:b<W.heap.size:=hb
      exact(hk.2.2 b _ (Array.getElem?_eq_getElem hb)).trans (Array.getElem?_eq_getElem hb).symm
  have carry:∀{ts:List TypeId} {vs:List Value} {ds:List (DataW H)} {cy:List MemPlace},DataW.TrodAll enc P W 0 (λ_=>true) true ts vs ds cy→(∀p∈cy,W.sameAt gB p)→DataW.TrodAll enc P gB 0 (λ_=>true) true ts vs ds cy:=by
    intro ts
    induction ts with
    |nil=>intro vs ds cy h _;obtain⟨rfl,rfl,rfl⟩:=Go.ChangeShapes.trodAll_nil h;exact rfl
    |cons t ts a7=>
      intro vs ds cy h hs
      obtain⟨v,jT,d,alL,a,b,rfl,rfl,rfl,⟨n,Z⟩,ae⟩:=Go.ChangeShapes.trodAll_cons h
      exact⟨a,b,⟨n,DataW.trod_carry n _ _ _ Z λp hp=>hs p (List.mem_append_left _ hp)⟩,a7 ae λp hp=>hs p (List.mem_append_right _ hp),rfl⟩
  exact(carry h akj).respare K dE aS hs
/-- From a contract over the machine to a call over the model. -/
theorem law_on{P:Program}{f:FuncId}{vs:List Value}{ds:List D}{W:World}(h:gk P f ds [] [] (.ret (.v (.bool true)) none) [])(hg:p' P λb=>W.heap[b]?)(hlen:vs.length=ds.length)
    (ak:∀(i:Nat) v d,vs[i]? = some v→ds[i]? = some d→ct (rq W) (λ_=>none) v d):
    Calls P f ⟨vs⟩ W λe gB=>e = .returned (.bool true)∧Still W gB:=by
  let K:Ctx:={xF:=rq W,F:=λb=>W.heap[b]?,kr:=λ_=>none,gZ:=(W.os,W.output)}
  have hs:bH P K (rq W) (λ_=>none) {env:=gU ds [],H:=cK 0 [],aW:=([]:List (List a1)).length} (⟨vs⟩:Array Value) W:=by
    have fQ:∀l e,({env:=gU ds [],H:=cK 0 [],aW:=([]:List (List a1)).length}:aI).at l=some e→∃i d,l = .slot i∧ds[i]? = some d∧e=⟨d,none⟩:=by
      intro l e af
      cases l with
      |cell r i=>simp [aI.at,cK,look]at af
      |slot i=>
        simp only [aI.at,gU,l',xW,Option.map_eq_some_iff,look]at af
        obtain⟨d,hd,rfl⟩:=af
        exact⟨i,d,rfl,hd,rfl⟩
    constructor
    · intro l e af
      obtain⟨i,d,rfl,hd,rfl⟩:=fQ l e af
      have hi:i<vs.length:=by rw [hlen];exact(List.getElem?_eq_some_iff.1 hd).1
      have ay:vs[i]? = some vs[i]:=List.getElem?_eq_getElem hi
      have:cp (⟨vs⟩:Array Value) W (λ_=>none) (.slot i)=vs[i]:=by simp [cp,ay]
      rw [this]
      exact ak i _ d ay hd
    · intro l e T af aS;obtain⟨i,d,rfl,hd,rfl⟩:=fQ l e af;cases aS
    · intro l cD e bf T T' b af aS;obtain⟨i,d,rfl,hd,rfl⟩:=fQ l e af;cases aS
    · intro l e T b r cs af aS;obtain⟨i,d,rfl,hd,rfl⟩:=fQ l e af;cases aS
    · intro r cs ak;simp [cK,look]at ak
    · intro r dl b cs cs' ak;simp [cK,look]at ak
    · intro r b hb;cases hb
    · intro b o v ay;exact ay
    · exact Mem.le_refl _
    · intro b aZ hb;exact⟨hb,λ_=>rfl⟩
    · intro r b hb;cases hb
    · exact hg
    · rfl
  refine(h.2 K W vs (rq W) (λ_=>none) hlen hs (λr b hb=>by cases hb)).mono ?_
  rintro e gB ⟨o,bM,v,M',β',⟨rfl,rfl⟩,he,cG⟩
  have ay:v = .bool true:=by
    have Z:=cG.e_ (.slot 0) ⟨.v (.bool true),none⟩ (by simp [aI.at,hJ,dP])
    have ae:cp (#[v]:Array Value) gB β' (.slot 0)=v:=by simp [cp]
    rw [ae]at Z
    cases Z with|v u x h=>cases h;rfl
  subst ay
  refine⟨he,?_⟩
  have np:(gB.os,gB.output)=(W.os,W.output):=cG.gZ
  exact⟨congrArg Prod.fst np,congrArg Prod.snd np,λb aZ hb=>(cG.frame b aZ hb).1⟩
theorem law_on_text{P:Program}{f:FuncId}{s:ByteArray}{W:World}(h:gk P f [.v (.str s.data.toList)] [] [] (.ret (.v (.bool true)) none) [])(hg:p' P λb=>W.heap[b]?):
    Calls P f #[.string s] W λe gB=>e = .returned (.bool true)∧Still W gB:=
  law_on (vs:=[.string s]) h hg rfl λi v d ay hd=>by
    match i with
    | 0=>cases ay;cases hd;exact .v _ _ (.str _)
    |i+1=>simp at ay

/-- A listed variable of an interface type, that reads as an interface value, holds one. -/
theorem iface_of_laid{P:Program}{W:World}{n:String}{u:String}{d:DataW Unit}{g t:Nat}{ms:Array (String×TypeId)}{rest:List (String×DataW Unit)}{cy:List MemPlace}
    (h:DataW.LaidVars P W ((n,.iface u d)::rest) cy) (hg:P.globalNamed n=some g) (gj:(P.globals[g]?).map (·.type)=some t) (bS:P.underlying t=some (.interface ms)):
    (∃cs t jR fr,W.heap[g]? = some (.cells cs t jR)∧cs[0]? = some fr∧(fr = .nilIface∨∃b8 p_,fr = .iface b8 p_))∧∃q,DataW.LaidVars P W rest q:=by
  obtain⟨eR,iV,cs,fuel,p,q,hg',nu,kQ,hd,ak,_⟩:=h
  obtain rfl:=Option.some.inj (hg.symm.trans hg')
  obtain rfl:=Option.some.inj (gj.symm.trans nu)
  refine⟨?_,q,ak⟩
  unfold World.var? at kQ
  rw [hg,Option.bind_some]at kQ
  cases bx:W.heap[g]? with
  |none=>rw [bx]at kQ;cases kQ
  |some aZ=>
    rw [bx]at kQ
    cases aZ with
    |cells cs' iV jR=>
      simp only [Option.some.injEq]at kQ
      subst kQ
      cases fuel with
      |zero=>simp [DataW.trod]at hd
      |succ fuel=>
        unfold DataW.trod at hd
        rw [bS]at hd
        split at hd<;>simp_all
        rename_i e1
        rw [←Array.getElem?_toList,e1]
        exact⟨_,rfl,Or.inr ⟨_,_,rfl⟩⟩
    |_=>simp at kQ
theorem laid_rest{P:Program}{W:World}{x:String×DataW Unit}{rest:List (String×DataW Unit)}{cy:List MemPlace}(h:DataW.LaidVars P W (x::rest) cy):∃q,DataW.LaidVars P W rest q:=by
  obtain⟨eR,iV,cs,fuel,p,q,hg',nu,kQ,hd,ak,_⟩:=h
  exact⟨q,ak⟩
end Go.Ab

namespace Go.Proofs.YtcjbfnojhpfchaaGreatDoor
open Go.ChangeShapes Go.WideShapes Go.ChangeAt Go.RowKit
open Go.ChangeMaps (open_string shut_string)
open Go.Ab (Still p')

theorem own:ownKnob Tryz.prog.godebug=none:=by kernel_rfl
theorem gRange : Tryz.prog.globalNamed "strconv.ErrRange" = some 5 := by kernel_rfl
theorem gSyntax : Tryz.prog.globalNamed "strconv.ErrSyntax" = some 4 := by kernel_rfl
theorem gRangeT:(Tryz.prog.globals[5]?).map (·.type)=some 122:=by kernel_rfl
theorem gSyntaxT:(Tryz.prog.globals[4]?).map (·.type)=some 122:=by kernel_rfl
def theLaid : List (String × DataW Unit) := [("math/bits.deBruijn32tab", Rows.laid_math_bits_deBruijn32tab), ("math/bits.deBruijn64tab", Rows.laid_math_bits_deBruijn64tab), ("internal/strconv.uint64pow10", Rows.laid_internal_strconv_uint64pow10), ("strconv.ErrRange", Rows.laid_strconv_ErrRange), ("strconv.ErrSyntax", Rows.laid_strconv_ErrSyntax)]
theorem tab_of_laid{P:Program}{W:World}{name:String}{k:IntKind}{zs:List Int}{rest:List (String×DataW Unit)}{cy:List MemPlace}{g:Nat}{t e:TypeId}{n:Nat}
    (hg:P.globalNamed name=some g) (gj:(P.globals[g]?).map (·.type)=some t) (bS:P.underlying t=some (.array n e)) (he:P.underlying e=some (.int k)) (Hi:P.cellsOf e=1) (akk:P.cellsOf t=n)
    (h:DataW.LaidVars P W ((name,Lib.tabData k zs)::rest) cy):(∃t jR,W.heap[g]? = some (.cells (zs.map λz=>Value.int k z).toArray t jR))∧∃q,DataW.LaidVars P W rest q:=by
  obtain⟨eR,iV,cs,fuel,p,q,hg',nu,kQ,hd,ak,_⟩:=h
  obtain rfl:=Option.some.inj (hg.symm.trans hg')
  obtain rfl:=Option.some.inj (gj.symm.trans nu)
  have hc:=Lib.cells_of_tab bS he Hi akk hd
  refine⟨?_,q,ak⟩
  have ei:cs=(zs.map λz=>Value.int k z).toArray:=by rw [←hc]
  subst ei
  unfold World.var? at kQ
  rw [hg,Option.bind_some]at kQ
  cases bx:W.heap[g]? with
  |none=>rw [bx]at kQ;cases kQ
  |some aZ=>
    rw [bx]at kQ
    cases aZ with
    |cells cs' t2 jR=>simp only [Option.some.injEq]at kQ;subst kQ;exact⟨_,_,rfl⟩
    |_=>simp at kQ
theorem gTabT:(Tryz.prog.globals[1]?).map (·.type)=some 384:=by kernel_rfl
theorem good_laid{W:World}(h:laidMet Tryz.prog theLaid W):p' Tryz.prog λb=>W.heap[b]? := by
  obtain⟨cy,Z,_⟩:=h
  obtain⟨aH,Z⟩:=Ab.laid_rest Z
  obtain⟨bk,Z⟩:=Ab.laid_rest Z
  obtain⟨h0,b1,Z⟩:=tab_of_laid (zs:=Lib.pow10Tab) Ab.Y.CX gTabT Tryz.underlying384 Tryz.underlying32 (by kernel_rfl) (by kernel_rfl) Z
  obtain⟨ar,dp,Z⟩:=Ab.iface_of_laid Z gRange gRangeT Tryz.underlying122
  obtain⟨ae,dC,Z⟩:=Ab.iface_of_laid Z gSyntax gSyntaxT Tryz.underlying122
  refine⟨λg hg=>?_,λg hg=>?_⟩
  · rw [Ab.Y.I2]at hg
    simp only [List.mem_cons,List.not_mem_nil,or_false]at hg
    rcases hg with rfl|rfl
    · exact ae
    · exact ar
  · obtain rfl:=Option.some.inj (Ab.Y.CX.symm.trans hg)
    rw [←Ab.Y.Sl];exact h0
def vals:DataW Unit→Array Value
  |.agg l=>(l.map fun |.lit (.int k n)=>Value.int k n |_=>.nilIface).toArray
  |_ => #[]
noncomputable def low:Nat:=(World.holding Tryz.prog default ⟨#[],#[],[]⟩).heap.size
/-- THE WITNESS: the settled world, the listed variables holding what their initialisers lay. -/
noncomputable def laidWorld(os:Os):World:=
  let Bm:=World.holding Tryz.prog os ⟨#[.cells #[.string ⟨#[118,97,108,117,101,32,111,117,116,32,111,102,32,114,97,110,103,101]⟩] 404,.cells #[.string ⟨#[105,110,118,97,108,105,100,32,115,121,110,116,97,120]⟩] 404],#[],[]⟩
  let put (h:Array Obj) (g:Nat) (cs:Array Value):Array Obj:=h.modify g fun
    |.cells _ t frozen=>.cells cs t frozen
    |o=>o
  let Z:=put Bm.heap 2 (vals Rows.laid_math_bits_deBruijn32tab)
  let ae:=put Z 3 (vals Rows.laid_math_bits_deBruijn64tab)
  let ar:=put ae 1 (vals Rows.laid_internal_strconv_uint64pow10)
  let aK:=put ar 5 #[.iface 402 (.pointer (some ⟨low,0,none⟩))]
  let bc:=put aK 4 #[.iface 402 (.pointer (some ⟨low+1,0,none⟩))]
  {Bm with heap:=bc}
theorem laid_met(os:Os):laidMet Tryz.prog theLaid ((laidWorld os).forCall (λ_ _=>0) ⟨#[],#[.string ⟨#[]⟩],[]⟩).memory:=
  laidMet_of_run' 8 (by kernel_rfl) (by kernel_rfl)
theorem fnum : Tryz.prog.funcNamed "clockwork/clockworklaw48.ImageEncodes" = some 3 := by kernel_rfl
end Go.Proofs.YtcjbfnojhpfchaaGreatDoor

/- The reach of the row, and the world it starts in. -/
import Derived.ChangeSame
import Derived.OpenShut
import Derived.ProofKit
import Derived.RowKit3
import Derived.Test.YtcjbfnojhpfchaaGreatDoorCards
import Derived.Test.YtcjbfnojhpfchaaGreatDoorTie
import Derived.Deep.DeepHandedRow
import Derived.Lib.LaidTab
import Derived.Test.YtcjbfnojhpfchaaGreatDoorHand
namespace Go.Ab
open Go.RowKit

/-- Every block that there was stands as it stood; the system and the output are as they were. -/
def Still(W hC:World):Prop:=hC.os=W.os∧hC.output=W.output∧∀(b:Nat) (a6:Obj),W.heap[b]? = some a6→hC.heap[b]? = some a6
theorem Still.kept{W hC:World}(h:Still W hC)(may:MemPlace→Prop):W.keptBut hC may:=by
  have e:∀i,i<W.heap.size→hC.heap[i]? = W.heap[i]? := λi hi=>by
    have:W.heap[i]? = some W.heap[i]:=Array.getElem?_eq_getElem hi
    rw [this];exact h.2.2 i _ this
  have ai:=World.keptBut_refl W may
  refine⟨h.1,h.2.1,λi hi=>?_⟩
  rw [e i hi]
  exact ai.2.2 i hi
section
variable {H:Type} {enc:TypeId×Value→H} {P:Program}
/-- What a law's claim asks behind the call: its arguments read as they read. -/
theorem post_of_still{f:Func}{s:ChangeSpec}{apart fresh handsOn:Bool}{W hC:World}{args:Array Value}{v:Value}{ds gs:List (DataW H)}{before pa pv:List MemPlace}
    (yh:DataW.Whole enc P f.params.toList s.vars apart W args.toList ds gs before)
    (jn:∀(b:Nat) (sp:Nat→Bool) (hd:Bool),DataW.TrodAll enc P hC b sp hd f.resultTypes.toList (v.resultList f.resultTypes.size) (s.fn H (ds++gs)).results [])
    (e8:∀sp:Nat→Bool,(∀p∈before,sp p.block=true)→DataW.TrodAll enc P hC 0 sp true f.params.toList args.toList (s.fn H (ds++gs)).args pa)
    (asy:∀sp:Nat→Bool,(∀p∈before,sp p.block=true)→DataW.TrodVars enc P hC sp s.vars (s.fn H (ds++gs)).vars pv)
    (mn:before=pa++pv) (hk:Still W hC):
    s.post enc P f apart fresh handsOn false W args v hC:=by
  have hold:∀p∈before,(λb=>decide (b<W.heap.size)) p.block=true:=λp hp=>by simpa using yh.lt p hp
  refine⟨ds,gs,before,[],pa,pv,yh,jn _ _ _,e8 _ hold,asy _ hold,World.keptBut_mono (λp hp=>⟨hp,?_⟩) (hk.kept (· ∈ before)),λh=>by cases h⟩
  rw [mn,List.mem_append]at hp
  exact Or.inr hp
end
/-- What was read before is read behind it. -/
theorem args_still{H:Type}{enc:TypeId×Value→H}{P:Program}{T:TypeId→Prop}(K:Kids P T)(dx:∀t e,T t→P.underlying t=some (.slice e)→0<P.cellsOf e){W hC:World}{ts:List TypeId}{vs:List Value}{ds:List (DataW H)}{b8:List MemPlace}
    (aH:∀t∈ts,T t) (h:DataW.TrodAll enc P W 0 (λ_=>true) true ts vs ds b8) (hk:Still W hC) (sp:Nat→Bool) (hs:∀p∈b8,sp p.block=true):DataW.TrodAll enc P hC 0 sp true ts vs ds b8:=by
  have cZ:=h.lt
  have asz:∀p∈b8,W.sameAt hC p:=by
    intro p hp
    have hb:=cZ p hp
    cases p with
    |cell b off=>
      have hb:b<W.heap.size:=hb
      have e:=hk.2.2 b _ (Array.getElem?_eq_getElem hb)
      unfold World.sameAt World.cell?
      simp only [e,Array.getElem?_eq_getElem hb]
    |map b=>
      have hb:b<W.heap.size:=hb
      exact(hk.2.2 b _ (Array.getElem?_eq_getElem hb)).trans (Array.getElem?_eq_getElem hb).symm
  have carry:∀{ts:List TypeId} {vs:List Value} {ds:List (DataW H)} {b8:List MemPlace},DataW.TrodAll enc P W 0 (λ_=>true) true ts vs ds b8→(∀p∈b8,W.sameAt hC p)→DataW.TrodAll enc P hC 0 (λ_=>true) true ts vs ds b8:=by
    intro ts
    induction ts with
    |nil=>intro vs ds b8 h _;obtain⟨rfl,rfl,rfl⟩:=Go.ChangeShapes.trodAll_nil h;exact rfl
    |cons t ts aG=>
      intro vs ds b8 h hs
      obtain⟨v,kx,d,asA,a,b,rfl,rfl,rfl,⟨n,Z⟩,ab⟩:=Go.ChangeShapes.trodAll_cons h
      exact⟨a,b,⟨n,DataW.trod_carry n _ _ _ Z λp hp=>hs p (List.mem_append_left _ hp)⟩,aG ab λp hp=>hs p (List.mem_append_right _ hp),rfl⟩
  exact(carry h asz).respare K dx aH hs
/-- From a contract over the machine to a call over the model. -/
theorem law_on{P:Program}{f:FuncId}{vs:List Value}{ds:List D}{W:World}(h:gY P f ds [] [] (.ret (.v (.bool true)) none) [])(hg:sq P λb=>W.heap[b]?)(hlen:vs.length=ds.length)
    (ai:∀(i:Nat) v d,vs[i]? = some v→ds[i]? = some d→cy (ur W) (λ_=>none) v d):
    Calls P f ⟨vs⟩ W λe hC=>e = .returned (.bool true)∧Still W hC:=by
  let K:Ctx:={Cj:=ur W,F:=λb=>W.heap[b]?,ls:=λ_=>none,h9:=(W.os,W.output)}
  have hs:bN P K (ur W) (λ_=>none) {env:=hX ds [],H:=cS 0 [],aW:=([]:List (List a7)).length} (⟨vs⟩:Array Value) W:=by
    have gl:∀l e,({env:=hX ds [],H:=cS 0 [],aW:=([]:List (List a7)).length}:aM).at l=some e→∃i d,l = .slot i∧ds[i]? = some d∧e=⟨d,none⟩:=by
      intro l e aa
      cases l with
      |cell r i=>simp [aM.at,cS,look]at aa
      |slot i=>
        simp only [aM.at,hX,nx,CB,Option.map_eq_some_iff,look]at aa
        obtain⟨d,hd,rfl⟩:=aa
        exact⟨i,d,rfl,hd,rfl⟩
    constructor
    · intro l e aa
      obtain⟨i,d,rfl,hd,rfl⟩:=gl l e aa
      have hi:i<vs.length:=by rw [hlen];exact(List.getElem?_eq_some_iff.1 hd).1
      have av:vs[i]? = some vs[i]:=List.getElem?_eq_getElem hi
      have:cv (⟨vs⟩:Array Value) W (λ_=>none) (.slot i)=vs[i]:=by simp [cv,av]
      rw [this]
      exact ai i _ d av hd
    · intro l e T aa aH;obtain⟨i,d,rfl,hd,rfl⟩:=gl l e aa;cases aH
    · intro l cI e bg T T' b aa aH;obtain⟨i,d,rfl,hd,rfl⟩:=gl l e aa;cases aH
    · intro l e T b r cs aa aH;obtain⟨i,d,rfl,hd,rfl⟩:=gl l e aa;cases aH
    · intro r cs ai;simp [cS,look]at ai
    · intro r dw b cs cs' ai;simp [cS,look]at ai
    · intro r b hb;cases hb
    · intro b o v av;exact av
    · exact Mem.le_refl _
    · intro b a6 hb;exact⟨hb,λ_=>rfl⟩
    · intro r b hb;cases hb
    · exact hg
    · rfl
  refine(h.2 K W vs (ur W) (λ_=>none) hlen hs (λr b hb=>by cases hb)).mono ?_
  rintro e hC ⟨o,bQ,v,M',β',⟨rfl,rfl⟩,he,cP⟩
  have av:v = .bool true:=by
    have Z:=cP.fw (.slot 0) ⟨.v (.bool true),none⟩ (by simp [aM.at,iy,dZ])
    have ab:cv (#[v]:Array Value) hC β' (.slot 0)=v:=by simp [cv]
    rw [ab]at Z
    cases Z with|v u x h=>cases h;rfl
  subst av
  refine⟨he,?_⟩
  have o4:(hC.os,hC.output)=(W.os,W.output):=cP.h9
  exact⟨congrArg Prod.fst o4,congrArg Prod.snd o4,λb a6 hb=>(cP.frame b a6 hb).1⟩
theorem law_on_text{P:Program}{f:FuncId}{s:ByteArray}{W:World}(h:gY P f [.v (.str s.data.toList)] [] [] (.ret (.v (.bool true)) none) [])(hg:sq P λb=>W.heap[b]?):
    Calls P f #[.string s] W λe hC=>e = .returned (.bool true)∧Still W hC:=
  law_on (vs:=[.string s]) h hg rfl λi v d av hd=>by
    match i with
    | 0=>cases av;cases hd;exact .v _ _ (.str _)
    |i+1=>simp at av

/-- A listed variable of an interface type, that reads as an interface value, holds one. -/
theorem iface_of_laid{P:Program}{W:World}{n:String}{u:String}{d:DataW Unit}{g t:Nat}{ms:Array (String×TypeId)}{rest:List (String×DataW Unit)}{b8:List MemPlace}
    (h:DataW.LaidVars P W ((n,.iface u d)::rest) b8) (hg:P.globalNamed n=some g) (gX:(P.globals[g]?).map (·.type)=some t) (aF:P.underlying t=some (.interface ms)):
    (∃cs t kW fN,W.heap[g]? = some (.cells cs t kW)∧cs[0]? = some fN∧(fN = .nilIface∨∃ci sr,fN = .iface ci sr))∧∃q,DataW.LaidVars P W rest q:=by
  obtain⟨e4,bS,cs,fuel,p,q,hg',eM,lV,hd,ai,_⟩:=h
  obtain rfl:=Option.some.inj (hg.symm.trans hg')
  obtain rfl:=Option.some.inj (gX.symm.trans eM)
  refine⟨?_,q,ai⟩
  unfold World.var? at lV
  rw [hg,Option.bind_some]at lV
  cases bn:W.heap[g]? with
  |none=>rw [bn]at lV;cases lV
  |some a6=>
    rw [bn]at lV
    cases a6 with
    |cells cs' bS kW=>
      simp only [Option.some.injEq]at lV
      subst lV
      cases fuel with
      |zero=>simp [DataW.trod]at hd
      |succ fuel=>
        unfold DataW.trod at hd
        rw [aF]at hd
        split at hd<;>simp_all
        rename_i e1
        rw [←Array.getElem?_toList,e1]
        exact⟨_,rfl,Or.inr ⟨_,_,rfl⟩⟩
    |_=>simp at lV
theorem laid_rest{P:Program}{W:World}{x:String×DataW Unit}{rest:List (String×DataW Unit)}{b8:List MemPlace}(h:DataW.LaidVars P W (x::rest) b8):∃q,DataW.LaidVars P W rest q:=by
  obtain⟨e4,bS,cs,fuel,p,q,hg',eM,lV,hd,ai,_⟩:=h
  exact⟨q,ai⟩
end Go.Ab

namespace Go.Proofs.YtcjbfnojhpfchaaGreatDoor
open Go.ChangeShapes Go.WideShapes Go.ChangeAt Go.RowKit
open Go.ChangeMaps (open_string shut_string)
open Go.Ab (Still sq)

theorem own:ownKnob Tryz.prog.godebug=none:=by kernel_rfl
theorem gRange : Tryz.prog.globalNamed "strconv.ErrRange" = some 5 := by kernel_rfl
theorem gSyntax : Tryz.prog.globalNamed "strconv.ErrSyntax" = some 4 := by kernel_rfl
theorem gRangeT:(Tryz.prog.globals[5]?).map (·.type)=some 122:=by kernel_rfl
theorem gSyntaxT:(Tryz.prog.globals[4]?).map (·.type)=some 122:=by kernel_rfl
def theLaid : List (String × DataW Unit) := [("math/bits.deBruijn32tab", Rows.laid_math_bits_deBruijn32tab), ("math/bits.deBruijn64tab", Rows.laid_math_bits_deBruijn64tab), ("internal/strconv.uint64pow10", Rows.laid_internal_strconv_uint64pow10), ("strconv.ErrRange", Rows.laid_strconv_ErrRange), ("strconv.ErrSyntax", Rows.laid_strconv_ErrSyntax)]
theorem tab_of_laid{P:Program}{W:World}{name:String}{k:IntKind}{zs:List Int}{rest:List (String×DataW Unit)}{b8:List MemPlace}{g:Nat}{t e:TypeId}{n:Nat}
    (hg:P.globalNamed name=some g) (gX:(P.globals[g]?).map (·.type)=some t) (aF:P.underlying t=some (.array n e)) (he:P.underlying e=some (.int k)) (NF:P.cellsOf e=1) (asB:P.cellsOf t=n)
    (h:DataW.LaidVars P W ((name,Lib.tabData k zs)::rest) b8):(∃t kW,W.heap[g]? = some (.cells (zs.map λz=>Value.int k z).toArray t kW))∧∃q,DataW.LaidVars P W rest q:=by
  obtain⟨e4,bS,cs,fuel,p,q,hg',eM,lV,hd,ai,_⟩:=h
  obtain rfl:=Option.some.inj (hg.symm.trans hg')
  obtain rfl:=Option.some.inj (gX.symm.trans eM)
  have hc:=Lib.cells_of_tab aF he NF asB hd
  refine⟨?_,q,ai⟩
  have eu:cs=(zs.map λz=>Value.int k z).toArray:=by rw [←hc]
  subst eu
  unfold World.var? at lV
  rw [hg,Option.bind_some]at lV
  cases bn:W.heap[g]? with
  |none=>rw [bn]at lV;cases lV
  |some a6=>
    rw [bn]at lV
    cases a6 with
    |cells cs' t2 kW=>simp only [Option.some.injEq]at lV;subst lV;exact⟨_,_,rfl⟩
    |_=>simp at lV
theorem gTabT:(Tryz.prog.globals[1]?).map (·.type)=some 384:=by kernel_rfl
theorem good_laid{W:World}(h:laidMet Tryz.prog theLaid W):sq Tryz.prog λb=>W.heap[b]? := by
  obtain⟨b8,Z,_⟩:=h
  obtain⟨aN,Z⟩:=Ab.laid_rest Z
  obtain⟨bp,Z⟩:=Ab.laid_rest Z
  obtain⟨h0,cn,Z⟩:=tab_of_laid (zs:=Lib.pow10Tab) Ab.Y.H2 gTabT Tryz.underlying384 Tryz.underlying32 (by kernel_rfl) (by kernel_rfl) Z
  obtain⟨aj,dL,Z⟩:=Ab.iface_of_laid Z gRange gRangeT Tryz.underlying122
  obtain⟨ab,dV,Z⟩:=Ab.iface_of_laid Z gSyntax gSyntaxT Tryz.underlying122
  refine⟨λg hg=>?_,λg hg=>?_⟩
  · rw [Ab.Y.Pl]at hg
    simp only [List.mem_cons,List.not_mem_nil,or_false]at hg
    rcases hg with rfl|rfl
    · exact ab
    · exact aj
  · obtain rfl:=Option.some.inj (Ab.Y.H2.symm.trans hg)
    rw [←Ab.Y.Yk];exact h0
def vals:DataW Unit→Array Value
  |.agg l=>(l.map fun |.lit (.int k n)=>Value.int k n |_=>.nilIface).toArray
  |_ => #[]
noncomputable def low:Nat:=(World.holding Tryz.prog default ⟨#[],#[],[]⟩).heap.size
/-- THE WITNESS: the settled world, the listed variables holding what their initialisers lay. -/
noncomputable def laidWorld(os:Os):World:=
  let Gi:=World.holding Tryz.prog os ⟨#[.cells #[.string ⟨#[118,97,108,117,101,32,111,117,116,32,111,102,32,114,97,110,103,101]⟩] 404,.cells #[.string ⟨#[105,110,118,97,108,105,100,32,115,121,110,116,97,120]⟩] 404],#[],[]⟩
  let put (h:Array Obj) (g:Nat) (cs:Array Value):Array Obj:=h.modify g fun
    |.cells _ t frozen=>.cells cs t frozen
    |o=>o
  let Z:=put Gi.heap 2 (vals Rows.laid_math_bits_deBruijn32tab)
  let ab:=put Z 3 (vals Rows.laid_math_bits_deBruijn64tab)
  let aj:=put ab 1 (vals Rows.laid_internal_strconv_uint64pow10)
  let aC:=put aj 5 #[.iface 402 (.pointer (some ⟨low,0,none⟩))]
  let aT:=put aC 4 #[.iface 402 (.pointer (some ⟨low+1,0,none⟩))]
  {Gi with heap:=aT}
theorem laid_met(os:Os):laidMet Tryz.prog theLaid ((laidWorld os).forCall (λ_ _=>0) ⟨#[],#[.string ⟨#[]⟩],[]⟩).memory:=
  laidMet_of_run' 8 (by kernel_rfl) (by kernel_rfl)
theorem fnum : Tryz.prog.funcNamed "clockwork/clockworklaw48.ImageEncodes" = some 3 := by kernel_rfl
end Go.Proofs.YtcjbfnojhpfchaaGreatDoor

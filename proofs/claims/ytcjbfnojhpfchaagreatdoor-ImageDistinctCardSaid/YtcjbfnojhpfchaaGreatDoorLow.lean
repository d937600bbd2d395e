/- The reach of the row, and the world it starts in. -/
import Derived.ChangeSame
import Derived.OpenShut
import Derived.ProofKit
import Derived.RowKit3
import Derived.Test.YtcjbfnojhpfchaaGreatDoorCards
import Derived.Test.YtcjbfnojhpfchaaGreatDoorTie
import Derived.Deep.DeepHandedRow
import Derived.Lib.LaidTab
import Derived.Test.YtcjbfnojhpfchaaGreatDoorHand
namespace Go.Ab
open Go.RowKit

/-- Every block that there was stands as it stood; the system and the output are as they were. -/
def Still(W fW:World):Prop:=fW.os=W.os∧fW.output=W.output∧∀(b:Nat) (aL:Obj),W.heap[b]? = some aL→fW.heap[b]? = some aL
theorem Still.kept{W fW:World}(h:Still W fW)(may:MemPlace→Prop):W.keptBut fW may:=by
  have e:∀i,i<W.heap.size→fW.heap[i]? = W.heap[i]? := λi hi=>by
    have:W.heap[i]? = some W.heap[i]:=Array.getElem?_eq_getElem hi
    rw [this];exact h.2.2 i _ this
  have ai:=World.keptBut_refl W may
  refine⟨h.1,h.2.1,λi hi=>?_⟩
  rw [e i hi]
  exact ai.2.2 i hi
section
variable {H:Type} {enc:TypeId×Value→H} {P:Program}
/-- What a law's claim asks behind the call: its arguments read as they read. -/
theorem post_of_still{f:Func}{s:ChangeSpec}{apart fresh handsOn:Bool}{W fW:World}{args:Array Value}{v:Value}{ds gs:List (DataW H)}{before pa pv:List MemPlace}
    (sK:DataW.Whole enc P f.params.toList s.vars apart W args.toList ds gs before)
    (hC:∀(b:Nat) (sp:Nat→Bool) (hd:Bool),DataW.TrodAll enc P fW b sp hd f.resultTypes.toList (v.resultList f.resultTypes.size) (s.fn H (ds++gs)).results [])
    (eJ:∀sp:Nat→Bool,(∀p∈before,sp p.block=true)→DataW.TrodAll enc P fW 0 sp true f.params.toList args.toList (s.fn H (ds++gs)).args pa)
    (adb:∀sp:Nat→Bool,(∀p∈before,sp p.block=true)→DataW.TrodVars enc P fW sp s.vars (s.fn H (ds++gs)).vars pv)
    (kf:before=pa++pv) (hk:Still W fW):
    s.post enc P f apart fresh handsOn false W args v fW:=by
  have hold:∀p∈before,(λb=>decide (b<W.heap.size)) p.block=true:=λp hp=>by simpa using sK.lt p hp
  refine⟨ds,gs,before,[],pa,pv,sK,hC _ _ _,eJ _ hold,adb _ hold,World.keptBut_mono (λp hp=>⟨hp,?_⟩) (hk.kept (· ∈ before)),λh=>by cases h⟩
  rw [kf,List.mem_append]at hp
  exact Or.inr hp
end
/-- What was read before is read behind it. -/
theorem args_still{H:Type}{enc:TypeId×Value→H}{P:Program}{T:TypeId→Prop}(K:Kids P T)(dM:∀t e,T t→P.underlying t=some (.slice e)→0<P.cellsOf e){W fW:World}{ts:List TypeId}{vs:List Value}{ds:List (DataW H)}{b9:List MemPlace}
    (aG:∀t∈ts,T t) (h:DataW.TrodAll enc P W 0 (λ_=>true) true ts vs ds b9) (hk:Still W fW) (sp:Nat→Bool) (hs:∀p∈b9,sp p.block=true):DataW.TrodAll enc P fW 0 sp true ts vs ds b9:=by
  have cB:=h.lt
  have adc:∀p∈b9,W.sameAt fW p:=by
    intro p hp
    have hb:=cB p hp
    cases p with
    |cell b off=>
      have hb:b<W.heap.size:=hb
      have e:=hk.2.2 b _ (Array.getElem?_eq_getElem hb)
      unfold World.sameAt World.cell?
      simp only [e,Array.getElem?_eq_getElem hb]
    |map b=>
      have hb:b<W.heap.size:=hb
      exact(hk.2.2 b _ (Array.getElem?_eq_getElem hb)).trans (Array.getElem?_eq_getElem hb).symm
  have carry:∀{ts:List TypeId} {vs:List Value} {ds:List (DataW H)} {b9:List MemPlace},DataW.TrodAll enc P W 0 (λ_=>true) true ts vs ds b9→(∀p∈b9,W.sameAt fW p)→DataW.TrodAll enc P fW 0 (λ_=>true) true ts vs ds b9:=by
    intro ts
    induction ts with
    |nil=>intro vs ds b9 h _;obtain⟨rfl,rfl,rfl⟩:=Go.ChangeShapes.trodAll_nil h;exact rfl
    |cons t ts a'=>
      intro vs ds b9 h hs
      obtain⟨v,iz,d,ade,a,b,rfl,rfl,rfl,⟨n,Z⟩,ad⟩:=Go.ChangeShapes.trodAll_cons h
      exact⟨a,b,⟨n,DataW.trod_carry n _ _ _ Z λp hp=>hs p (List.mem_append_left _ hp)⟩,a' ad λp hp=>hs p (List.mem_append_right _ hp),rfl⟩
  exact(carry h adc).respare K dM aG hs
/-- From a contract over the machine to a call over the model. -/
theorem law_on{P:Program}{f:FuncId}{vs:List Value}{ds:List D}{W:World}(h:fK P f ds [] [] (.ret (.v (.bool true)) none) [])(hg:oF P λb=>W.heap[b]?)(hlen:vs.length=ds.length)
    (ai:∀(i:Nat) v d,vs[i]? = some v→ds[i]? = some d→b3 (pT W) (λ_=>none) v d):
    Calls P f ⟨vs⟩ W λe fW=>e = .returned (.bool true)∧Still W fW:=by
  let K:Ctx:={vb:=pT W,F:=λb=>W.heap[b]?,jl:=λ_=>none,gn:=(W.os,W.output)}
  have hs:bo P K (pT W) (λ_=>none) {env:=gj ds [],H:=cl 0 [],aJ:=([]:List (List aM)).length} (⟨vs⟩:Array Value) W:=by
    have fk:∀l e,({env:=gj ds [],H:=cl 0 [],aJ:=([]:List (List aM)).length}:az).at l=some e→∃i d,l = .slot i∧ds[i]? = some d∧e=⟨d,none⟩:=by
      intro l e ab
      cases l with
      |cell r i=>simp [az.at,cl,look]at ab
      |slot i=>
        simp only [az.at,gj,k_,vv,Option.map_eq_some_iff,look]at ab
        obtain⟨d,hd,rfl⟩:=ab
        exact⟨i,d,rfl,hd,rfl⟩
    constructor
    · intro l e ab
      obtain⟨i,d,rfl,hd,rfl⟩:=fk l e ab
      have hi:i<vs.length:=by rw [hlen];exact(List.getElem?_eq_some_iff.1 hd).1
      have ar:vs[i]? = some vs[i]:=List.getElem?_eq_getElem hi
      have:b0 (⟨vs⟩:Array Value) W (λ_=>none) (.slot i)=vs[i]:=by simp [b0,ar]
      rw [this]
      exact ai i _ d ar hd
    · intro l e T ab aG;obtain⟨i,d,rfl,hd,rfl⟩:=fk l e ab;cases aG
    · intro l cd e a1 T T' b ab aG;obtain⟨i,d,rfl,hd,rfl⟩:=fk l e ab;cases aG
    · intro l e T b r cs ab aG;obtain⟨i,d,rfl,hd,rfl⟩:=fk l e ab;cases aG
    · intro r cs ai;simp [cl,look]at ai
    · intro r cS b cs cs' ai;simp [cl,look]at ai
    · intro r b hb;cases hb
    · intro b o v ar;exact ar
    · exact Mem.le_refl _
    · intro b aL hb;exact⟨hb,λ_=>rfl⟩
    · intro r b hb;cases hb
    · exact hg
    · rfl
  refine(h.2 K W vs (pT W) (λ_=>none) hlen hs (λr b hb=>by cases hb)).mono ?_
  rintro e fW ⟨o,bq,v,M',β',⟨rfl,rfl⟩,he,ci⟩
  have ar:v = .bool true:=by
    have Z:=ci.eE (.slot 0) ⟨.v (.bool true),none⟩ (by simp [az.at,gG,de])
    have ad:b0 (#[v]:Array Value) fW β' (.slot 0)=v:=by simp [b0]
    rw [ad]at Z
    cases Z with|v u x h=>cases h;rfl
  subst ar
  refine⟨he,?_⟩
  have mi:(fW.os,fW.output)=(W.os,W.output):=ci.gn
  exact⟨congrArg Prod.fst mi,congrArg Prod.snd mi,λb aL hb=>(ci.frame b aL hb).1⟩
theorem law_on_text{P:Program}{f:FuncId}{s:ByteArray}{W:World}(h:fK P f [.v (.str s.data.toList)] [] [] (.ret (.v (.bool true)) none) [])(hg:oF P λb=>W.heap[b]?):
    Calls P f #[.string s] W λe fW=>e = .returned (.bool true)∧Still W fW:=
  law_on (vs:=[.string s]) h hg rfl λi v d ar hd=>by
    match i with
    | 0=>cases ar;cases hd;exact .v _ _ (.str _)
    |i+1=>simp at ar

/-- A listed variable of an interface type, that reads as an interface value, holds one. -/
theorem iface_of_laid{P:Program}{W:World}{n:String}{u:String}{d:DataW Unit}{g t:Nat}{ms:Array (String×TypeId)}{rest:List (String×DataW Unit)}{b9:List MemPlace}
    (h:DataW.LaidVars P W ((n,.iface u d)::rest) b9) (hg:P.globalNamed n=some g) (fJ:(P.globals[g]?).map (·.type)=some t) (bH:P.underlying t=some (.interface ms)):
    (∃cs t iU eP,W.heap[g]? = some (.cells cs t iU)∧cs[0]? = some eP∧(eP = .nilIface∨∃bN oG,eP = .iface bN oG))∧∃q,DataW.LaidVars P W rest q:=by
  obtain⟨es,h2,cs,fuel,p,q,hg',mn,jJ,hd,ai,_⟩:=h
  obtain rfl:=Option.some.inj (hg.symm.trans hg')
  obtain rfl:=Option.some.inj (fJ.symm.trans mn)
  refine⟨?_,q,ai⟩
  unfold World.var? at jJ
  rw [hg,Option.bind_some]at jJ
  cases bf:W.heap[g]? with
  |none=>rw [bf]at jJ;cases jJ
  |some aL=>
    rw [bf]at jJ
    cases aL with
    |cells cs' h2 iU=>
      simp only [Option.some.injEq]at jJ
      subst jJ
      cases fuel with
      |zero=>simp [DataW.trod]at hd
      |succ fuel=>
        unfold DataW.trod at hd
        rw [bH]at hd
        split at hd<;>simp_all
        rename_i e1
        rw [←Array.getElem?_toList,e1]
        exact⟨_,rfl,Or.inr ⟨_,_,rfl⟩⟩
    |_=>simp at jJ
theorem laid_rest{P:Program}{W:World}{x:String×DataW Unit}{rest:List (String×DataW Unit)}{b9:List MemPlace}(h:DataW.LaidVars P W (x::rest) b9):∃q,DataW.LaidVars P W rest q:=by
  obtain⟨es,h2,cs,fuel,p,q,hg',mn,jJ,hd,ai,_⟩:=h
  exact⟨q,ai⟩
end Go.Ab

namespace Go.Proofs.YtcjbfnojhpfchaaGreatDoor
open Go.ChangeShapes Go.WideShapes Go.ChangeAt Go.RowKit
open Go.ChangeMaps (open_string shut_string)
open Go.Ab (Still oF)

theorem own:ownKnob Tryz.prog.godebug=none:=by kernel_rfl
theorem gRange : Tryz.prog.globalNamed "strconv.ErrRange" = some 5 := by kernel_rfl
theorem gSyntax : Tryz.prog.globalNamed "strconv.ErrSyntax" = some 4 := by kernel_rfl
theorem gRangeT:(Tryz.prog.globals[5]?).map (·.type)=some 122:=by kernel_rfl
theorem gSyntaxT:(Tryz.prog.globals[4]?).map (·.type)=some 122:=by kernel_rfl
def theLaid : List (String × DataW Unit) := [("math/bits.deBruijn32tab", Rows.laid_math_bits_deBruijn32tab), ("math/bits.deBruijn64tab", Rows.laid_math_bits_deBruijn64tab), ("internal/strconv.uint64pow10", Rows.laid_internal_strconv_uint64pow10), ("strconv.ErrRange", Rows.laid_strconv_ErrRange), ("strconv.ErrSyntax", Rows.laid_strconv_ErrSyntax)]
theorem tab_of_laid{P:Program}{W:World}{name:String}{k:IntKind}{zs:List Int}{rest:List (String×DataW Unit)}{b9:List MemPlace}{g:Nat}{t e:TypeId}{n:Nat}
    (hg:P.globalNamed name=some g) (fJ:(P.globals[g]?).map (·.type)=some t) (bH:P.underlying t=some (.array n e)) (he:P.underlying e=some (.int k)) (C':P.cellsOf e=1) (adf:P.cellsOf t=n)
    (h:DataW.LaidVars P W ((name,Lib.tabData k zs)::rest) b9):(∃t iU,W.heap[g]? = some (.cells (zs.map λz=>Value.int k z).toArray t iU))∧∃q,DataW.LaidVars P W rest q:=by
  obtain⟨es,h2,cs,fuel,p,q,hg',mn,jJ,hd,ai,_⟩:=h
  obtain rfl:=Option.some.inj (hg.symm.trans hg')
  obtain rfl:=Option.some.inj (fJ.symm.trans mn)
  have hc:=Lib.cells_of_tab bH he C' adf hd
  refine⟨?_,q,ai⟩
  have dy:cs=(zs.map λz=>Value.int k z).toArray:=by rw [←hc]
  subst dy
  unfold World.var? at jJ
  rw [hg,Option.bind_some]at jJ
  cases bf:W.heap[g]? with
  |none=>rw [bf]at jJ;cases jJ
  |some aL=>
    rw [bf]at jJ
    cases aL with
    |cells cs' t2 iU=>simp only [Option.some.injEq]at jJ;subst jJ;exact⟨_,_,rfl⟩
    |_=>simp at jJ
theorem gTabT:(Tryz.prog.globals[1]?).map (·.type)=some 384:=by kernel_rfl
theorem good_laid{W:World}(h:laidMet Tryz.prog theLaid W):oF Tryz.prog λb=>W.heap[b]? := by
  obtain⟨b9,Z,_⟩:=h
  obtain⟨aO,Z⟩:=Ab.laid_rest Z
  obtain⟨bj,Z⟩:=Ab.laid_rest Z
  obtain⟨h0,cA,Z⟩:=tab_of_laid (zs:=Lib.pow10Tab) Ab.Y.zO gTabT Tryz.underlying384 Tryz.underlying32 (by kernel_rfl) (by kernel_rfl) Z
  obtain⟨al,dv,Z⟩:=Ab.iface_of_laid Z gRange gRangeT Tryz.underlying122
  obtain⟨ad,dH,Z⟩:=Ab.iface_of_laid Z gSyntax gSyntaxT Tryz.underlying122
  refine⟨λg hg=>?_,λg hg=>?_⟩
  · rw [Ab.Y.EV]at hg
    simp only [List.mem_cons,List.not_mem_nil,or_false]at hg
    rcases hg with rfl|rfl
    · exact ad
    · exact al
  · obtain rfl:=Option.some.inj (Ab.Y.zO.symm.trans hg)
    rw [←Ab.Y.MD];exact h0
def vals:DataW Unit→Array Value
  |.agg l=>(l.map fun |.lit (.int k n)=>Value.int k n |_=>.nilIface).toArray
  |_ => #[]
noncomputable def low:Nat:=(World.holding Tryz.prog default ⟨#[],#[],[]⟩).heap.size
/-- THE WITNESS: the settled world, the listed variables holding what their initialisers lay. -/
noncomputable def laidWorld(os:Os):World:=
  let x':=World.holding Tryz.prog os ⟨#[.cells #[.string ⟨#[118,97,108,117,101,32,111,117,116,32,111,102,32,114,97,110,103,101]⟩] 404,.cells #[.string ⟨#[105,110,118,97,108,105,100,32,115,121,110,116,97,120]⟩] 404],#[],[]⟩
  let put (h:Array Obj) (g:Nat) (cs:Array Value):Array Obj:=h.modify g fun
    |.cells _ t frozen=>.cells cs t frozen
    |o=>o
  let Z:=put x'.heap 2 (vals Rows.laid_math_bits_deBruijn32tab)
  let ad:=put Z 3 (vals Rows.laid_math_bits_deBruijn64tab)
  let al:=put ad 1 (vals Rows.laid_internal_strconv_uint64pow10)
  let aH:=put al 5 #[.iface 402 (.pointer (some ⟨low,0,none⟩))]
  let a6:=put aH 4 #[.iface 402 (.pointer (some ⟨low+1,0,none⟩))]
  {x' with heap:=a6}
theorem laid_met(os:Os):laidMet Tryz.prog theLaid ((laidWorld os).forCall (λ_ _=>0) ⟨#[],#[.string ⟨#[]⟩],[]⟩).memory:=
  laidMet_of_run' 8 (by kernel_rfl) (by kernel_rfl)
theorem fnum : Tryz.prog.funcNamed "clockwork/clockworklaw48.ImageEncodes" = some 3 := by kernel_rfl
end Go.Proofs.YtcjbfnojhpfchaaGreatDoor

/- The reach of the row, and the world it starts in. -/
import Derived.ChangeSame
import Derived.OpenShut
import Derived.ProofKit
import Derived.RowKit3
import Derived.Test.YtcjbfnojhpfchaaGreatDoorCards
import Derived.Test.YtcjbfnojhpfchaaGreatDoorTie
import Derived.Deep.DeepHandedRow
import Derived.Lib.LaidTab
import Derived.Test.YtcjbfnojhpfchaaGreatDoorHand
namespace Go.Ab
open Go.RowKit

/-- Every block that there was stands as it stood; the system and the output are as they were. -/
def Still(W gL:World):Prop:=gL.os=W.os∧gL.output=W.output∧∀(b:Nat) (aO:Obj),W.heap[b]? = some aO→gL.heap[b]? = some aO
theorem Still.kept{W gL:World}(h:Still W gL)(may:MemPlace→Prop):W.keptBut gL may:=by
  have e:∀i,i<W.heap.size→gL.heap[i]? = W.heap[i]? := λi hi=>by
    have:W.heap[i]? = some W.heap[i]:=Array.getElem?_eq_getElem hi
    rw [this];exact h.2.2 i _ this
  have ah:=World.keptBut_refl W may
  refine⟨h.1,h.2.1,λi hi=>?_⟩
  rw [e i hi]
  exact ah.2.2 i hi
section
variable {H:Type} {enc:TypeId×Value→H} {P:Program}
/-- What a law's claim asks behind the call: its arguments read as they read. -/
theorem post_of_still{f:Func}{s:ChangeSpec}{apart fresh handsOn:Bool}{W gL:World}{args:Array Value}{v:Value}{ds gs:List (DataW H)}{before pa pv:List MemPlace}
    (w0:DataW.Whole enc P f.params.toList s.vars apart W args.toList ds gs before)
    (iM:∀(b:Nat) (sp:Nat→Bool) (hd:Bool),DataW.TrodAll enc P gL b sp hd f.resultTypes.toList (v.resultList f.resultTypes.size) (s.fn H (ds++gs)).results [])
    (ey:∀sp:Nat→Bool,(∀p∈before,sp p.block=true)→DataW.TrodAll enc P gL 0 sp true f.params.toList args.toList (s.fn H (ds++gs)).args pa)
    (alO:∀sp:Nat→Bool,(∀p∈before,sp p.block=true)→DataW.TrodVars enc P gL sp s.vars (s.fn H (ds++gs)).vars pv)
    (fY:before=pa++pv) (hk:Still W gL):
    s.post enc P f apart fresh handsOn false W args v gL:=by
  have hold:∀p∈before,(λb=>decide (b<W.heap.size)) p.block=true:=λp hp=>by simpa using w0.lt p hp
  refine⟨ds,gs,before,[],pa,pv,w0,iM _ _ _,ey _ hold,alO _ hold,World.keptBut_mono (λp hp=>⟨hp,?_⟩) (hk.kept (· ∈ before)),λh=>by cases h⟩
  rw [fY,List.mem_append]at hp
  exact Or.inr hp
end
/-- What was read before is read behind it. -/
theorem args_still{H:Type}{enc:TypeId×Value→H}{P:Program}{T:TypeId→Prop}(K:Kids P T)(cx:∀t e,T t→P.underlying t=some (.slice e)→0<P.cellsOf e){W gL:World}{ts:List TypeId}{vs:List Value}{ds:List (DataW H)}{bi:List MemPlace}
    (aA:∀t∈ts,T t) (h:DataW.TrodAll enc P W 0 (λ_=>true) true ts vs ds bi) (hk:Still W gL) (sp:Nat→Bool) (hs:∀p∈bi,sp p.block=true):DataW.TrodAll enc P gL 0 sp true ts vs ds bi:=by
  have bm:=h.lt
  have alP:∀p∈bi,W.sameAt gL p:=by
    intro p hp
    have hb:=bm p hp
    cases p with
    |cell b off=>
      have hb:b<W.heap.size:=hb
      have e:=hk.2.2 b _ (Array.getElem?_eq_getElem hb)
      unfold World.sameAt World.cell?
      simp only [e,Array.getElem?_eq_getElem hb]
    |map b=>
      have hb:b<W.heap.size:=hb
      exact(hk.2.2 b _ (Array.getElem?_eq_getElem hb)).trans (Array.getElem?_eq_getElem hb).symm
  have carry:∀{ts:List TypeId} {vs:List Value} {ds:List (DataW H)} {bi:List MemPlace},DataW.TrodAll enc P W 0 (λ_=>true) true ts vs ds bi→(∀p∈bi,W.sameAt gL p)→DataW.TrodAll enc P gL 0 (λ_=>true) true ts vs ds bi:=by
    intro ts
    induction ts with
    |nil=>intro vs ds bi h _;obtain⟨rfl,rfl,rfl⟩:=Go.ChangeShapes.trodAll_nil h;exact rfl
    |cons t ts aF=>
      intro vs ds bi h hs
      obtain⟨v,kz,d,am4,a,b,rfl,rfl,rfl,⟨n,Z⟩,aa⟩:=Go.ChangeShapes.trodAll_cons h
      exact⟨a,b,⟨n,DataW.trod_carry n _ _ _ Z λp hp=>hs p (List.mem_append_left _ hp)⟩,aF aa λp hp=>hs p (List.mem_append_right _ hp),rfl⟩
  exact(carry h alP).respare K cx aA hs
/-- From a contract over the machine to a call over the model. -/
theorem law_on{P:Program}{f:FuncId}{vs:List Value}{ds:List D}{W:World}(h:gA P f ds [] [] (.ret (.v (.bool true)) none) [])(hg:rb P λb=>W.heap[b]?)(hlen:vs.length=ds.length)
    (ah:∀(i:Nat) v d,vs[i]? = some v→ds[i]? = some d→ce (vk W) (λ_=>none) v d):
    Calls P f ⟨vs⟩ W λe gL=>e = .returned (.bool true)∧Still W gL:=by
  let K:Ctx:={z7:=vk W,F:=λb=>W.heap[b]?,kU:=λ_=>none,hG:=(W.os,W.output)}
  have hs:bw P K (vk W) (λ_=>none) {env:=hv ds [],H:=cy 0 [],aK:=([]:List (List aP)).length} (⟨vs⟩:Array Value) W:=by
    have fX:∀l e,({env:=hv ds [],H:=cy 0 [],aK:=([]:List (List aP)).length}:aC).at l=some e→∃i d,l = .slot i∧ds[i]? = some d∧e=⟨d,none⟩:=by
      intro l e ab
      cases l with
      |cell r i=>simp [aC.at,cy,look]at ab
      |slot i=>
        simp only [aC.at,hv,mV,Ap,Option.map_eq_some_iff,look]at ab
        obtain⟨d,hd,rfl⟩:=ab
        exact⟨i,d,rfl,hd,rfl⟩
    constructor
    · intro l e ab
      obtain⟨i,d,rfl,hd,rfl⟩:=fX l e ab
      have hi:i<vs.length:=by rw [hlen];exact(List.getElem?_eq_some_iff.1 hd).1
      have am:vs[i]? = some vs[i]:=List.getElem?_eq_getElem hi
      have:cc (⟨vs⟩:Array Value) W (λ_=>none) (.slot i)=vs[i]:=by simp [cc,am]
      rw [this]
      exact ah i _ d am hd
    · intro l e T ab aA;obtain⟨i,d,rfl,hd,rfl⟩:=fX l e ab;cases aA
    · intro l cr e aX T T' b ab aA;obtain⟨i,d,rfl,hd,rfl⟩:=fX l e ab;cases aA
    · intro l e T b r cs ab aA;obtain⟨i,d,rfl,hd,rfl⟩:=fX l e ab;cases aA
    · intro r cs ah;simp [cy,look]at ah
    · intro r df b cs cs' ah;simp [cy,look]at ah
    · intro r b hb;cases hb
    · intro b o v am;exact am
    · exact Mem.le_refl _
    · intro b aO hb;exact⟨hb,λ_=>rfl⟩
    · intro r b hb;cases hb
    · exact hg
    · rfl
  refine(h.2 K W vs (vk W) (λ_=>none) hlen hs (λr b hb=>by cases hb)).mono ?_
  rintro e gL ⟨o,bB,v,M',β',⟨rfl,rfl⟩,he,cw⟩
  have am:v = .bool true:=by
    have Z:=cw.e7 (.slot 0) ⟨.v (.bool true),none⟩ (by simp [aC.at,h_,dC])
    have aa:cc (#[v]:Array Value) gL β' (.slot 0)=v:=by simp [cc]
    rw [aa]at Z
    cases Z with|v u x h=>cases h;rfl
  subst am
  refine⟨he,?_⟩
  have ov:(gL.os,gL.output)=(W.os,W.output):=cw.hG
  exact⟨congrArg Prod.fst ov,congrArg Prod.snd ov,λb aO hb=>(cw.frame b aO hb).1⟩
theorem law_on_text{P:Program}{f:FuncId}{s:ByteArray}{W:World}(h:gA P f [.v (.str s.data.toList)] [] [] (.ret (.v (.bool true)) none) [])(hg:rb P λb=>W.heap[b]?):
    Calls P f #[.string s] W λe gL=>e = .returned (.bool true)∧Still W gL:=
  law_on (vs:=[.string s]) h hg rfl λi v d am hd=>by
    match i with
    | 0=>cases am;cases hd;exact .v _ _ (.str _)
    |i+1=>simp at am

/-- A listed variable of an interface type, that reads as an interface value, holds one. -/
theorem iface_of_laid{P:Program}{W:World}{n:String}{u:String}{d:DataW Unit}{g t:Nat}{ms:Array (String×TypeId)}{rest:List (String×DataW Unit)}{bi:List MemPlace}
    (h:DataW.LaidVars P W ((n,.iface u d)::rest) bi) (hg:P.globalNamed n=some g) (gy:(P.globals[g]?).map (·.type)=some t) (aB:P.underlying t=some (.interface ms)):
    (∃cs t kx fk,W.heap[g]? = some (.cells cs t kx)∧cs[0]? = some fk∧(fk = .nilIface∨∃b1 rc,fk = .iface b1 rc))∧∃q,DataW.LaidVars P W rest q:=by
  obtain⟨ew,bE,cs,fuel,p,q,hg',ez,ll,hd,ah,_⟩:=h
  obtain rfl:=Option.some.inj (hg.symm.trans hg')
  obtain rfl:=Option.some.inj (gy.symm.trans ez)
  refine⟨?_,q,ah⟩
  unfold World.var? at ll
  rw [hg,Option.bind_some]at ll
  cases bh:W.heap[g]? with
  |none=>rw [bh]at ll;cases ll
  |some aO=>
    rw [bh]at ll
    cases aO with
    |cells cs' bE kx=>
      simp only [Option.some.injEq]at ll
      subst ll
      cases fuel with
      |zero=>simp [DataW.trod]at hd
      |succ fuel=>
        unfold DataW.trod at hd
        rw [aB]at hd
        split at hd<;>simp_all
        rename_i e1
        rw [←Array.getElem?_toList,e1]
        exact⟨_,rfl,Or.inr ⟨_,_,rfl⟩⟩
    |_=>simp at ll
theorem laid_rest{P:Program}{W:World}{x:String×DataW Unit}{rest:List (String×DataW Unit)}{bi:List MemPlace}(h:DataW.LaidVars P W (x::rest) bi):∃q,DataW.LaidVars P W rest q:=by
  obtain⟨ew,bE,cs,fuel,p,q,hg',ez,ll,hd,ah,_⟩:=h
  exact⟨q,ah⟩
end Go.Ab

namespace Go.Proofs.YtcjbfnojhpfchaaGreatDoor
open Go.ChangeShapes Go.WideShapes Go.ChangeAt Go.RowKit
open Go.ChangeMaps (open_string shut_string)
open Go.Ab (Still rb)

theorem own:ownKnob Tryz.prog.godebug=none:=by kernel_rfl
theorem gRange : Tryz.prog.globalNamed "strconv.ErrRange" = some 5 := by kernel_rfl
theorem gSyntax : Tryz.prog.globalNamed "strconv.ErrSyntax" = some 4 := by kernel_rfl
theorem gRangeT:(Tryz.prog.globals[5]?).map (·.type)=some 122:=by kernel_rfl
theorem gSyntaxT:(Tryz.prog.globals[4]?).map (·.type)=some 122:=by kernel_rfl
def theLaid : List (String × DataW Unit) := [("math/bits.deBruijn32tab", Rows.laid_math_bits_deBruijn32tab), ("math/bits.deBruijn64tab", Rows.laid_math_bits_deBruijn64tab), ("internal/strconv.uint64pow10", Rows.laid_internal_strconv_uint64pow10), ("strconv.ErrRange", Rows.laid_strconv_ErrRange), ("strconv.ErrSyntax", Rows.laid_strconv_ErrSyntax)]
theorem tab_of_laid{P:Program}{W:World}{name:String}{k:IntKind}{zs:List Int}{rest:List (String×DataW Unit)}{bi:List MemPlace}{g:Nat}{t e:TypeId}{n:Nat}
    (hg:P.globalNamed name=some g) (gy:(P.globals[g]?).map (·.type)=some t) (aB:P.underlying t=some (.array n e)) (he:P.underlying e=some (.int k)) (Kf:P.cellsOf e=1) (alQ:P.cellsOf t=n)
    (h:DataW.LaidVars P W ((name,Lib.tabData k zs)::rest) bi):(∃t kx,W.heap[g]? = some (.cells (zs.map λz=>Value.int k z).toArray t kx))∧∃q,DataW.LaidVars P W rest q:=by
  obtain⟨ew,bE,cs,fuel,p,q,hg',ez,ll,hd,ah,_⟩:=h
  obtain rfl:=Option.some.inj (hg.symm.trans hg')
  obtain rfl:=Option.some.inj (gy.symm.trans ez)
  have hc:=Lib.cells_of_tab aB he Kf alQ hd
  refine⟨?_,q,ah⟩
  have dQ:cs=(zs.map λz=>Value.int k z).toArray:=by rw [←hc]
  subst dQ
  unfold World.var? at ll
  rw [hg,Option.bind_some]at ll
  cases bh:W.heap[g]? with
  |none=>rw [bh]at ll;cases ll
  |some aO=>
    rw [bh]at ll
    cases aO with
    |cells cs' t2 kx=>simp only [Option.some.injEq]at ll;subst ll;exact⟨_,_,rfl⟩
    |_=>simp at ll
theorem gTabT:(Tryz.prog.globals[1]?).map (·.type)=some 384:=by kernel_rfl
theorem good_laid{W:World}(h:laidMet Tryz.prog theLaid W):rb Tryz.prog λb=>W.heap[b]? := by
  obtain⟨bi,Z,_⟩:=h
  obtain⟨aL,Z⟩:=Ab.laid_rest Z
  obtain⟨a',Z⟩:=Ab.laid_rest Z
  obtain⟨h0,b5,Z⟩:=tab_of_laid (zs:=Lib.pow10Tab) Ab.Y.FA gTabT Tryz.underlying384 Tryz.underlying32 (by kernel_rfl) (by kernel_rfl) Z
  obtain⟨aj,dp,Z⟩:=Ab.iface_of_laid Z gRange gRangeT Tryz.underlying122
  obtain⟨aa,dO,Z⟩:=Ab.iface_of_laid Z gSyntax gSyntaxT Tryz.underlying122
  refine⟨λg hg=>?_,λg hg=>?_⟩
  · rw [Ab.Y.LT]at hg
    simp only [List.mem_cons,List.not_mem_nil,or_false]at hg
    rcases hg with rfl|rfl
    · exact aa
    · exact aj
  · obtain rfl:=Option.some.inj (Ab.Y.FA.symm.trans hg)
    rw [←Ab.Y.Uk];exact h0
def vals:DataW Unit→Array Value
  |.agg l=>(l.map fun |.lit (.int k n)=>Value.int k n |_=>.nilIface).toArray
  |_ => #[]
noncomputable def low:Nat:=(World.holding Tryz.prog default ⟨#[],#[],[]⟩).heap.size
/-- THE WITNESS: the settled world, the listed variables holding what their initialisers lay. -/
noncomputable def laidWorld(os:Os):World:=
  let QT:=World.holding Tryz.prog os ⟨#[.cells #[.string ⟨#[118,97,108,117,101,32,111,117,116,32,111,102,32,114,97,110,103,101]⟩] 404,.cells #[.string ⟨#[105,110,118,97,108,105,100,32,115,121,110,116,97,120]⟩] 404],#[],[]⟩
  let put (h:Array Obj) (g:Nat) (cs:Array Value):Array Obj:=h.modify g fun
    |.cells _ t frozen=>.cells cs t frozen
    |o=>o
  let Z:=put QT.heap 2 (vals Rows.laid_math_bits_deBruijn32tab)
  let aa:=put Z 3 (vals Rows.laid_math_bits_deBruijn64tab)
  let aj:=put aa 1 (vals Rows.laid_internal_strconv_uint64pow10)
  let aD:=put aj 5 #[.iface 402 (.pointer (some ⟨low,0,none⟩))]
  let aV:=put aD 4 #[.iface 402 (.pointer (some ⟨low+1,0,none⟩))]
  {QT with heap:=aV}
theorem laid_met(os:Os):laidMet Tryz.prog theLaid ((laidWorld os).forCall (λ_ _=>0) ⟨#[],#[.string ⟨#[]⟩],[]⟩).memory:=
  laidMet_of_run' 8 (by kernel_rfl) (by kernel_rfl)
theorem fnum : Tryz.prog.funcNamed "clockwork/clockworklaw48.ImageEncodes" = some 3 := by kernel_rfl
end Go.Proofs.YtcjbfnojhpfchaaGreatDoor

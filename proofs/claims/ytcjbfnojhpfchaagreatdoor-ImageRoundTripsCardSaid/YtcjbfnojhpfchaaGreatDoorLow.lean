/- The reach of the row, and the world it starts in. -/
import Derived.ChangeSame
import Derived.OpenShut
import Derived.ProofKit
import Derived.RowKit3
import Derived.Test.YtcjbfnojhpfchaaGreatDoorCards
import Derived.Test.YtcjbfnojhpfchaaGreatDoorTie
import Derived.Deep.DeepHandedRow
import Derived.Lib.LaidTab
import Derived.Test.YtcjbfnojhpfchaaGreatDoorHand
namespace Go.Ab
open Go.RowKit

/-- Every block that there was stands as it stood; the system and the output are as they were. -/
def Still(W gK:World):Prop:=gK.os=W.os∧gK.output=W.output∧∀(b:Nat) (aO:Obj),W.heap[b]? = some aO→gK.heap[b]? = some aO
theorem Still.kept{W gK:World}(h:Still W gK)(may:MemPlace→Prop):W.keptBut gK may:=by
  have e:∀i,i<W.heap.size→gK.heap[i]? = W.heap[i]? := λi hi=>by
    have:W.heap[i]? = some W.heap[i]:=Array.getElem?_eq_getElem hi
    rw [this];exact h.2.2 i _ this
  have ah:=World.keptBut_refl W may
  refine⟨h.1,h.2.1,λi hi=>?_⟩
  rw [e i hi]
  exact ah.2.2 i hi
section
variable {H:Type} {enc:TypeId×Value→H} {P:Program}
/-- What a law's claim asks behind the call: its arguments read as they read. -/
theorem post_of_still{f:Func}{s:ChangeSpec}{apart fresh handsOn:Bool}{W gK:World}{args:Array Value}{v:Value}{ds gs:List (DataW H)}{before pa pv:List MemPlace}
    (wy:DataW.Whole enc P f.params.toList s.vars apart W args.toList ds gs before)
    (iJ:∀(b:Nat) (sp:Nat→Bool) (hd:Bool),DataW.TrodAll enc P gK b sp hd f.resultTypes.toList (v.resultList f.resultTypes.size) (s.fn H (ds++gs)).results [])
    (ff:∀sp:Nat→Bool,(∀p∈before,sp p.block=true)→DataW.TrodAll enc P gK 0 sp true f.params.toList args.toList (s.fn H (ds++gs)).args pa)
    (alT:∀sp:Nat→Bool,(∀p∈before,sp p.block=true)→DataW.TrodVars enc P gK sp s.vars (s.fn H (ds++gs)).vars pv)
    (lI:before=pa++pv) (hk:Still W gK):
    s.post enc P f apart fresh handsOn false W args v gK:=by
  have hold:∀p∈before,(λb=>decide (b<W.heap.size)) p.block=true:=λp hp=>by simpa using wy.lt p hp
  refine⟨ds,gs,before,[],pa,pv,wy,iJ _ _ _,ff _ hold,alT _ hold,World.keptBut_mono (λp hp=>⟨hp,?_⟩) (hk.kept (· ∈ before)),λh=>by cases h⟩
  rw [lI,List.mem_append]at hp
  exact Or.inr hp
end
/-- What was read before is read behind it. -/
theorem args_still{H:Type}{enc:TypeId×Value→H}{P:Program}{T:TypeId→Prop}(K:Kids P T)(dJ:∀t e,T t→P.underlying t=some (.slice e)→0<P.cellsOf e){W gK:World}{ts:List TypeId}{vs:List Value}{ds:List (DataW H)}{bM:List MemPlace}
    (az:∀t∈ts,T t) (h:DataW.TrodAll enc P W 0 (λ_=>true) true ts vs ds bM) (hk:Still W gK) (sp:Nat→Bool) (hs:∀p∈bM,sp p.block=true):DataW.TrodAll enc P gK 0 sp true ts vs ds bM:=by
  have cK:=h.lt
  have alU:∀p∈bM,W.sameAt gK p:=by
    intro p hp
    have hb:=cK p hp
    cases p with
    |cell b off=>
      have hb:b<W.heap.size:=hb
      have e:=hk.2.2 b _ (Array.getElem?_eq_getElem hb)
      unfold World.sameAt World.cell?
      simp only [e,Array.getElem?_eq_getElem hb]
    |map b=>
      have hb:b<W.heap.size:=hb
      exact(hk.2.2 b _ (Array.getElem?_eq_getElem hb)).trans (Array.getElem?_eq_getElem hb).symm
  have carry:∀{ts:List TypeId} {vs:List Value} {ds:List (DataW H)} {bM:List MemPlace},DataW.TrodAll enc P W 0 (λ_=>true) true ts vs ds bM→(∀p∈bM,W.sameAt gK p)→DataW.TrodAll enc P gK 0 (λ_=>true) true ts vs ds bM:=by
    intro ts
    induction ts with
    |nil=>intro vs ds bM h _;obtain⟨rfl,rfl,rfl⟩:=Go.ChangeShapes.trodAll_nil h;exact rfl
    |cons t ts aG=>
      intro vs ds bM h hs
      obtain⟨v,kf,d,anz,a,b,rfl,rfl,rfl,⟨n,Z⟩,aa⟩:=Go.ChangeShapes.trodAll_cons h
      exact⟨a,b,⟨n,DataW.trod_carry n _ _ _ Z λp hp=>hs p (List.mem_append_left _ hp)⟩,aG aa λp hp=>hs p (List.mem_append_right _ hp),rfl⟩
  exact(carry h alU).respare K dJ az hs
/-- From a contract over the machine to a call over the model. -/
theorem law_on{P:Program}{f:FuncId}{vs:List Value}{ds:List D}{W:World}(h:gw P f ds [] [] (.ret (.v (.bool true)) none) [])(hg:q2 P λb=>W.heap[b]?)(hlen:vs.length=ds.length)
    (ah:∀(i:Nat) v d,vs[i]? = some v→ds[i]? = some d→ce (sC W) (λ_=>none) v d):
    Calls P f ⟨vs⟩ W λe gK=>e = .returned (.bool true)∧Still W gK:=by
  let K:Ctx:={zQ:=sC W,F:=λb=>W.heap[b]?,kH:=λ_=>none,hE:=(W.os,W.output)}
  have hs:bv P K (sC W) (λ_=>none) {env:=hy ds [],H:=cB 0 [],aL:=([]:List (List aP)).length} (⟨vs⟩:Array Value) W:=by
    have f0:∀l e,({env:=hy ds [],H:=cB 0 [],aL:=([]:List (List aP)).length}:aD).at l=some e→∃i d,l = .slot i∧ds[i]? = some d∧e=⟨d,none⟩:=by
      intro l e ab
      cases l with
      |cell r i=>simp [aD.at,cB,look]at ab
      |slot i=>
        simp only [aD.at,hy,mE,Af,Option.map_eq_some_iff,look]at ab
        obtain⟨d,hd,rfl⟩:=ab
        exact⟨i,d,rfl,hd,rfl⟩
    constructor
    · intro l e ab
      obtain⟨i,d,rfl,hd,rfl⟩:=f0 l e ab
      have hi:i<vs.length:=by rw [hlen];exact(List.getElem?_eq_some_iff.1 hd).1
      have an:vs[i]? = some vs[i]:=List.getElem?_eq_getElem hi
      have:cb (⟨vs⟩:Array Value) W (λ_=>none) (.slot i)=vs[i]:=by simp [cb,an]
      rw [this]
      exact ah i _ d an hd
    · intro l e T ab az;obtain⟨i,d,rfl,hd,rfl⟩:=f0 l e ab;cases az
    · intro l co e a' T T' b ab az;obtain⟨i,d,rfl,hd,rfl⟩:=f0 l e ab;cases az
    · intro l e T b r cs ab az;obtain⟨i,d,rfl,hd,rfl⟩:=f0 l e ab;cases az
    · intro r cs ah;simp [cB,look]at ah
    · intro r dd b cs cs' ah;simp [cB,look]at ah
    · intro r b hb;cases hb
    · intro b o v an;exact an
    · exact Mem.le_refl _
    · intro b aO hb;exact⟨hb,λ_=>rfl⟩
    · intro r b hb;cases hb
    · exact hg
    · rfl
  refine(h.2 K W vs (sC W) (λ_=>none) hlen hs (λr b hb=>by cases hb)).mono ?_
  rintro e gK ⟨o,bA,v,M',β',⟨rfl,rfl⟩,he,cw⟩
  have an:v = .bool true:=by
    have Z:=cw.e9 (.slot 0) ⟨.v (.bool true),none⟩ (by simp [aD.at,hZ,dB])
    have aa:cb (#[v]:Array Value) gK β' (.slot 0)=v:=by simp [cb]
    rw [aa]at Z
    cases Z with|v u x h=>cases h;rfl
  subst an
  refine⟨he,?_⟩
  have n3:(gK.os,gK.output)=(W.os,W.output):=cw.hE
  exact⟨congrArg Prod.fst n3,congrArg Prod.snd n3,λb aO hb=>(cw.frame b aO hb).1⟩
theorem law_on_text{P:Program}{f:FuncId}{s:ByteArray}{W:World}(h:gw P f [.v (.str s.data.toList)] [] [] (.ret (.v (.bool true)) none) [])(hg:q2 P λb=>W.heap[b]?):
    Calls P f #[.string s] W λe gK=>e = .returned (.bool true)∧Still W gK:=
  law_on (vs:=[.string s]) h hg rfl λi v d an hd=>by
    match i with
    | 0=>cases an;cases hd;exact .v _ _ (.str _)
    |i+1=>simp at an

/-- A listed variable of an interface type, that reads as an interface value, holds one. -/
theorem iface_of_laid{P:Program}{W:World}{n:String}{u:String}{d:DataW Unit}{g t:Nat}{ms:Array (String×TypeId)}{rest:List (String×DataW Unit)}{bM:List MemPlace}
    (h:DataW.LaidVars P W ((n,.iface u d)::rest) bM) (hg:P.globalNamed n=some g) (gv:(P.globals[g]?).map (·.type)=some t) (aC:P.underlying t=some (.interface ms)):
    (∃cs t kc fk,W.heap[g]? = some (.cells cs t kc)∧cs[0]? = some fk∧(fk = .nilIface∨∃b1 q3,fk = .iface b1 q3))∧∃q,DataW.LaidVars P W rest q:=by
  obtain⟨eG,bC,cs,fuel,p,q,hg',en,la,hd,ah,_⟩:=h
  obtain rfl:=Option.some.inj (hg.symm.trans hg')
  obtain rfl:=Option.some.inj (gv.symm.trans en)
  refine⟨?_,q,ah⟩
  unfold World.var? at la
  rw [hg,Option.bind_some]at la
  cases bf:W.heap[g]? with
  |none=>rw [bf]at la;cases la
  |some aO=>
    rw [bf]at la
    cases aO with
    |cells cs' bC kc=>
      simp only [Option.some.injEq]at la
      subst la
      cases fuel with
      |zero=>simp [DataW.trod]at hd
      |succ fuel=>
        unfold DataW.trod at hd
        rw [aC]at hd
        split at hd<;>simp_all
        rename_i e1
        rw [←Array.getElem?_toList,e1]
        exact⟨_,rfl,Or.inr ⟨_,_,rfl⟩⟩
    |_=>simp at la
theorem laid_rest{P:Program}{W:World}{x:String×DataW Unit}{rest:List (String×DataW Unit)}{bM:List MemPlace}(h:DataW.LaidVars P W (x::rest) bM):∃q,DataW.LaidVars P W rest q:=by
  obtain⟨eG,bC,cs,fuel,p,q,hg',en,la,hd,ah,_⟩:=h
  exact⟨q,ah⟩
end Go.Ab

namespace Go.Proofs.YtcjbfnojhpfchaaGreatDoor
open Go.ChangeShapes Go.WideShapes Go.ChangeAt Go.RowKit
open Go.ChangeMaps (open_string shut_string)
open Go.Ab (Still q2)

theorem own:ownKnob Tryz.prog.godebug=none:=by kernel_rfl
theorem gRange : Tryz.prog.globalNamed "strconv.ErrRange" = some 5 := by kernel_rfl
theorem gSyntax : Tryz.prog.globalNamed "strconv.ErrSyntax" = some 4 := by kernel_rfl
theorem gRangeT:(Tryz.prog.globals[5]?).map (·.type)=some 122:=by kernel_rfl
theorem gSyntaxT:(Tryz.prog.globals[4]?).map (·.type)=some 122:=by kernel_rfl
def theLaid : List (String × DataW Unit) := [("math/bits.deBruijn32tab", Rows.laid_math_bits_deBruijn32tab), ("math/bits.deBruijn64tab", Rows.laid_math_bits_deBruijn64tab), ("internal/strconv.uint64pow10", Rows.laid_internal_strconv_uint64pow10), ("strconv.ErrRange", Rows.laid_strconv_ErrRange), ("strconv.ErrSyntax", Rows.laid_strconv_ErrSyntax)]
theorem tab_of_laid{P:Program}{W:World}{name:String}{k:IntKind}{zs:List Int}{rest:List (String×DataW Unit)}{bM:List MemPlace}{g:Nat}{t e:TypeId}{n:Nat}
    (hg:P.globalNamed name=some g) (gv:(P.globals[g]?).map (·.type)=some t) (aC:P.underlying t=some (.array n e)) (he:P.underlying e=some (.int k)) (JT:P.cellsOf e=1) (alV:P.cellsOf t=n)
    (h:DataW.LaidVars P W ((name,Lib.tabData k zs)::rest) bM):(∃t kc,W.heap[g]? = some (.cells (zs.map λz=>Value.int k z).toArray t kc))∧∃q,DataW.LaidVars P W rest q:=by
  obtain⟨eG,bC,cs,fuel,p,q,hg',en,la,hd,ah,_⟩:=h
  obtain rfl:=Option.some.inj (hg.symm.trans hg')
  obtain rfl:=Option.some.inj (gv.symm.trans en)
  have hc:=Lib.cells_of_tab aC he JT alV hd
  refine⟨?_,q,ah⟩
  have dV:cs=(zs.map λz=>Value.int k z).toArray:=by rw [←hc]
  subst dV
  unfold World.var? at la
  rw [hg,Option.bind_some]at la
  cases bf:W.heap[g]? with
  |none=>rw [bf]at la;cases la
  |some aO=>
    rw [bf]at la
    cases aO with
    |cells cs' t2 kc=>simp only [Option.some.injEq]at la;subst la;exact⟨_,_,rfl⟩
    |_=>simp at la
theorem gTabT:(Tryz.prog.globals[1]?).map (·.type)=some 384:=by kernel_rfl
theorem good_laid{W:World}(h:laidMet Tryz.prog theLaid W):q2 Tryz.prog λb=>W.heap[b]? := by
  obtain⟨bM,Z,_⟩:=h
  obtain⟨aS,Z⟩:=Ab.laid_rest Z
  obtain⟨bo,Z⟩:=Ab.laid_rest Z
  obtain⟨h0,cH,Z⟩:=tab_of_laid (zs:=Lib.pow10Tab) Ab.Y.E2 gTabT Tryz.underlying384 Tryz.underlying32 (by kernel_rfl) (by kernel_rfl) Z
  obtain⟨ai,dF,Z⟩:=Ab.iface_of_laid Z gRange gRangeT Tryz.underlying122
  obtain⟨aa,ef,Z⟩:=Ab.iface_of_laid Z gSyntax gSyntaxT Tryz.underlying122
  refine⟨λg hg=>?_,λg hg=>?_⟩
  · rw [Ab.Y.Ly]at hg
    simp only [List.mem_cons,List.not_mem_nil,or_false]at hg
    rcases hg with rfl|rfl
    · exact aa
    · exact ai
  · obtain rfl:=Option.some.inj (Ab.Y.E2.symm.trans hg)
    rw [←Ab.Y.TE];exact h0
def vals:DataW Unit→Array Value
  |.agg l=>(l.map fun |.lit (.int k n)=>Value.int k n |_=>.nilIface).toArray
  |_ => #[]
noncomputable def low:Nat:=(World.holding Tryz.prog default ⟨#[],#[],[]⟩).heap.size
/-- THE WITNESS: the settled world, the listed variables holding what their initialisers lay. -/
noncomputable def laidWorld(os:Os):World:=
  let Dc:=World.holding Tryz.prog os ⟨#[.cells #[.string ⟨#[118,97,108,117,101,32,111,117,116,32,111,102,32,114,97,110,103,101]⟩] 404,.cells #[.string ⟨#[105,110,118,97,108,105,100,32,115,121,110,116,97,120]⟩] 404],#[],[]⟩
  let put (h:Array Obj) (g:Nat) (cs:Array Value):Array Obj:=h.modify g fun
    |.cells _ t frozen=>.cells cs t frozen
    |o=>o
  let Z:=put Dc.heap 2 (vals Rows.laid_math_bits_deBruijn32tab)
  let aa:=put Z 3 (vals Rows.laid_math_bits_deBruijn64tab)
  let ai:=put aa 1 (vals Rows.laid_internal_strconv_uint64pow10)
  let ay:=put ai 5 #[.iface 402 (.pointer (some ⟨low,0,none⟩))]
  let aJ:=put ay 4 #[.iface 402 (.pointer (some ⟨low+1,0,none⟩))]
  {Dc with heap:=aJ}
theorem laid_met(os:Os):laidMet Tryz.prog theLaid ((laidWorld os).forCall (λ_ _=>0) ⟨#[],#[.string ⟨#[]⟩],[]⟩).memory:=
  laidMet_of_run' 8 (by kernel_rfl) (by kernel_rfl)
theorem fnum : Tryz.prog.funcNamed "clockwork/clockworklaw48.ImageEncodes" = some 3 := by kernel_rfl
end Go.Proofs.YtcjbfnojhpfchaaGreatDoor

/- The reach of the row, and the world it starts in. -/
import Derived.ChangeSame
import Derived.OpenShut
import Derived.ProofKit
import Derived.RowKit3
import Derived.Test.YtbncfepdlmnmiaaGreatDoorCards
import Derived.Test.YtbncfepdlmnmiaaGreatDoorTie
import Derived.Deep.DeepHandedRow
import Derived.Lib.LaidTab
import Derived.Test.YtbncfepdlmnmiaaGreatDoorHand
namespace Go.Ab
open Go.RowKit

/-- Every block that there was stands as it stood; the system and the output are as they were. -/
def Still(W gO:World):Prop:=gO.os=W.os∧gO.output=W.output∧∀(b:Nat) (bb:Obj),W.heap[b]? = some bb→gO.heap[b]? = some bb
theorem Still.kept{W gO:World}(h:Still W gO)(may:MemPlace→Prop):W.keptBut gO may:=by
  have e:∀i,i<W.heap.size→gO.heap[i]? = W.heap[i]? := λi hi=>by
    have:W.heap[i]? = some W.heap[i]:=Array.getElem?_eq_getElem hi
    rw [this];exact h.2.2 i _ this
  have ak:=World.keptBut_refl W may
  refine⟨h.1,h.2.1,λi hi=>?_⟩
  rw [e i hi]
  exact ak.2.2 i hi
section
variable {H:Type} {enc:TypeId×Value→H} {P:Program}
/-- What a law's claim asks behind the call: its arguments read as they read. -/
theorem post_of_still{f:Func}{s:ChangeSpec}{apart fresh handsOn:Bool}{W gO:World}{args:Array Value}{v:Value}{ds gs:List (DataW H)}{before pa pv:List MemPlace}
    (vz:DataW.Whole enc P f.params.toList s.vars apart W args.toList ds gs before)
    (hH:∀(b:Nat) (sp:Nat→Bool) (hd:Bool),DataW.TrodAll enc P gO b sp hd f.resultTypes.toList (v.resultList f.resultTypes.size) (s.fn H (ds++gs)).results [])
    (eZ:∀sp:Nat→Bool,(∀p∈before,sp p.block=true)→DataW.TrodAll enc P gO 0 sp true f.params.toList args.toList (s.fn H (ds++gs)).args pa)
    (aoa:∀sp:Nat→Bool,(∀p∈before,sp p.block=true)→DataW.TrodVars enc P gO sp s.vars (s.fn H (ds++gs)).vars pv)
    (lA:before=pa++pv) (hk:Still W gO):
    s.post enc P f apart fresh handsOn false W args v gO:=by
  have hold:∀p∈before,(λb=>decide (b<W.heap.size)) p.block=true:=λp hp=>by simpa using vz.lt p hp
  refine⟨ds,gs,before,[],pa,pv,vz,hH _ _ _,eZ _ hold,aoa _ hold,World.keptBut_mono (λp hp=>⟨hp,?_⟩) (hk.kept (· ∈ before)),λh=>by cases h⟩
  rw [lA,List.mem_append]at hp
  exact Or.inr hp
end
/-- What was read before is read behind it. -/
theorem args_still{H:Type}{enc:TypeId×Value→H}{P:Program}{T:TypeId→Prop}(K:Kids P T)(dQ:∀t e,T t→P.underlying t=some (.slice e)→0<P.cellsOf e){W gO:World}{ts:List TypeId}{vs:List Value}{ds:List (DataW H)}{cJ:List MemPlace}
    (aS:∀t∈ts,T t) (h:DataW.TrodAll enc P W 0 (λ_=>true) true ts vs ds cJ) (hk:Still W gO) (sp:Nat→Bool) (hs:∀p∈cJ,sp p.block=true):DataW.TrodAll enc P gO 0 sp true ts vs ds cJ:=by
  have c':=h.lt
  have aob:∀p∈cJ,W.sameAt gO p:=by
    intro p hp
    have hb:=c' p hp
    cases p with
    |cell b off=>
      have hb:b<W.heap.size:=hb
      have e:=hk.2.2 b _ (Array.getElem?_eq_getElem hb)
      unfold World.sameAt World.cell?
      simp only [e,Array.getElem?_eq_getElem hb]
    |map b=>
      have hb:b<W.heap.size:=hb
      exact(hk.2.2 b _ (Array.getElem?_eq_getElem hb)).trans (Array.getElem?_eq_getElem hb).symm
  have carry:∀{ts:List TypeId} {vs:List Value} {ds:List (DataW H)} {cJ:List MemPlace},DataW.TrodAll enc P W 0 (λ_=>true) true ts vs ds cJ→(∀p∈cJ,W.sameAt gO p)→DataW.TrodAll enc P gO 0 (λ_=>true) true ts vs ds cJ:=by
    intro ts
    induction ts with
    |nil=>intro vs ds cJ h _;obtain⟨rfl,rfl,rfl⟩:=Go.ChangeShapes.trodAll_nil h;exact rfl
    |cons t ts bc=>
      intro vs ds cJ h hs
      obtain⟨v,m9,d,apG,a,b,rfl,rfl,rfl,⟨n,Z⟩,af⟩:=Go.ChangeShapes.trodAll_cons h
      exact⟨a,b,⟨n,DataW.trod_carry n _ _ _ Z λp hp=>hs p (List.mem_append_left _ hp)⟩,bc af λp hp=>hs p (List.mem_append_right _ hp),rfl⟩
  exact(carry h aob).respare K dQ aS hs
/-- From a contract over the machine to a call over the model. -/
theorem law_on{P:Program}{f:FuncId}{vs:List Value}{ds:List D}{W:World}(h:gl P f ds [] [] (.ret (.v (.bool true)) none) [])(hg:qI P λb=>W.heap[b]?)(hlen:vs.length=ds.length)
    (ak:∀(i:Nat) v d,vs[i]? = some v→ds[i]? = some d→cz (r9 W) (λ_=>none) v d):
    Calls P f ⟨vs⟩ W λe gO=>e = .returned (.bool true)∧Still W gO:=by
  let K:Ctx:={s7:=r9 W,F:=λb=>W.heap[b]?,jg:=λ_=>none,hq:=(W.os,W.output)}
  have hs:bN P K (r9 W) (λ_=>none) {env:=hA ds [],H:=c8 0 [],a8:=([]:List (List aZ)).length} (⟨vs⟩:Array Value) W:=by
    have ff:∀l e,({env:=hA ds [],H:=c8 0 [],a8:=([]:List (List aZ)).length}:aJ).at l=some e→∃i d,l = .slot i∧ds[i]? = some d∧e=⟨d,none⟩:=by
      intro l e ag
      cases l with
      |cell r i=>simp [aJ.at,c8,look]at ag
      |slot i=>
        simp only [aJ.at,hA,mz,y0,Option.map_eq_some_iff,look]at ag
        obtain⟨d,hd,rfl⟩:=ag
        exact⟨i,d,rfl,hd,rfl⟩
    constructor
    · intro l e ag
      obtain⟨i,d,rfl,hd,rfl⟩:=ff l e ag
      have hi:i<vs.length:=by rw [hlen];exact(List.getElem?_eq_some_iff.1 hd).1
      have ay:vs[i]? = some vs[i]:=List.getElem?_eq_getElem hi
      have:ci (⟨vs⟩:Array Value) W (λ_=>none) (.slot i)=vs[i]:=by simp [ci,ay]
      rw [this]
      exact ak i _ d ay hd
    · intro l e T ag aS;obtain⟨i,d,rfl,hd,rfl⟩:=ff l e ag;cases aS
    · intro l cL e a_ T T' b ag aS;obtain⟨i,d,rfl,hd,rfl⟩:=ff l e ag;cases aS
    · intro l e T b r cs ag aS;obtain⟨i,d,rfl,hd,rfl⟩:=ff l e ag;cases aS
    · intro r cs ak;simp [c8,look]at ak
    · intro r cM b cs cs' ak;simp [c8,look]at ak
    · intro r b hb;cases hb
    · intro b o v ay;exact ay
    · exact Mem.le_refl _
    · intro b bb hb;exact⟨hb,λ_=>rfl⟩
    · intro r b hb;cases hb
    · exact hg
    · rfl
  refine(h.2 K W vs (r9 W) (λ_=>none) hlen hs (λr b hb=>by cases hb)).mono ?_
  rintro e gO ⟨o,H',v,M',β',⟨rfl,rfl⟩,he,cW⟩
  have ay:v = .bool true:=by
    have Z:=cW.eW (.slot 0) ⟨.v (.bool true),none⟩ (by simp [aJ.at,hF,dv])
    have af:ci (#[v]:Array Value) gO β' (.slot 0)=v:=by simp [ci]
    rw [af]at Z
    cases Z with|v u x h=>cases h;rfl
  subst ay
  refine⟨he,?_⟩
  have nP:(gO.os,gO.output)=(W.os,W.output):=cW.hq
  exact⟨congrArg Prod.fst nP,congrArg Prod.snd nP,λb bb hb=>(cW.frame b bb hb).1⟩
theorem law_on_text{P:Program}{f:FuncId}{s:ByteArray}{W:World}(h:gl P f [.v (.str s.data.toList)] [] [] (.ret (.v (.bool true)) none) [])(hg:qI P λb=>W.heap[b]?):
    Calls P f #[.string s] W λe gO=>e = .returned (.bool true)∧Still W gO:=
  law_on (vs:=[.string s]) h hg rfl λi v d ay hd=>by
    match i with
    | 0=>cases ay;cases hd;exact .v _ _ (.str _)
    |i+1=>simp at ay

/-- A listed variable of an interface type, that reads as an interface value, holds one. -/
theorem iface_of_laid{P:Program}{W:World}{n:String}{u:String}{d:DataW Unit}{g t:Nat}{ms:Array (String×TypeId)}{rest:List (String×DataW Unit)}{cJ:List MemPlace}
    (h:DataW.LaidVars P W ((n,.iface u d)::rest) cJ) (hg:P.globalNamed n=some g) (gC:(P.globals[g]?).map (·.type)=some t) (bU:P.underlying t=some (.interface ms)):
    (∃cs t kq fF,W.heap[g]? = some (.cells cs t kq)∧cs[0]? = some fF∧(fF = .nilIface∨∃ct qJ,fF = .iface ct qJ))∧∃q,DataW.LaidVars P W rest q:=by
  obtain⟨fe,jf,cs,fuel,p,q,hg',nV,k_,hd,ak,_⟩:=h
  obtain rfl:=Option.some.inj (hg.symm.trans hg')
  obtain rfl:=Option.some.inj (gC.symm.trans nV)
  refine⟨?_,q,ak⟩
  unfold World.var? at k_
  rw [hg,Option.bind_some]at k_
  cases bz:W.heap[g]? with
  |none=>rw [bz]at k_;cases k_
  |some bb=>
    rw [bz]at k_
    cases bb with
    |cells cs' jf kq=>
      simp only [Option.some.injEq]at k_
      subst k_
      cases fuel with
      |zero=>simp [DataW.trod]at hd
      |succ fuel=>
        unfold DataW.trod at hd
        rw [bU]at hd
        split at hd<;>simp_all
        rename_i e1
        rw [←Array.getElem?_toList,e1]
        exact⟨_,rfl,Or.inr ⟨_,_,rfl⟩⟩
    |_=>simp at k_
theorem laid_rest{P:Program}{W:World}{x:String×DataW Unit}{rest:List (String×DataW Unit)}{cJ:List MemPlace}(h:DataW.LaidVars P W (x::rest) cJ):∃q,DataW.LaidVars P W rest q:=by
  obtain⟨fe,jf,cs,fuel,p,q,hg',nV,k_,hd,ak,_⟩:=h
  exact⟨q,ak⟩
end Go.Ab

namespace Go.Proofs.YtbncfepdlmnmiaaGreatDoor
open Go.ChangeShapes Go.WideShapes Go.ChangeAt Go.RowKit
open Go.ChangeMaps (open_string shut_string)
open Go.Ab (Still qI)

theorem own:ownKnob Tryz.prog.godebug=none:=by kernel_rfl
theorem gRange : Tryz.prog.globalNamed "strconv.ErrRange" = some 5 := by kernel_rfl
theorem gSyntax : Tryz.prog.globalNamed "strconv.ErrSyntax" = some 4 := by kernel_rfl
theorem gRangeT:(Tryz.prog.globals[5]?).map (·.type)=some 108:=by kernel_rfl
theorem gSyntaxT:(Tryz.prog.globals[4]?).map (·.type)=some 108:=by kernel_rfl
def theLaid : List (String × DataW Unit) := [("math/bits.deBruijn32tab", Rows.laid_math_bits_deBruijn32tab), ("math/bits.deBruijn64tab", Rows.laid_math_bits_deBruijn64tab), ("internal/strconv.uint64pow10", Rows.laid_internal_strconv_uint64pow10), ("strconv.ErrRange", Rows.laid_strconv_ErrRange), ("strconv.ErrSyntax", Rows.laid_strconv_ErrSyntax)]
theorem tab_of_laid{P:Program}{W:World}{name:String}{k:IntKind}{zs:List Int}{rest:List (String×DataW Unit)}{cJ:List MemPlace}{g:Nat}{t e:TypeId}{n:Nat}
    (hg:P.globalNamed name=some g) (gC:(P.globals[g]?).map (·.type)=some t) (bU:P.underlying t=some (.array n e)) (he:P.underlying e=some (.int k)) (IY:P.cellsOf e=1) (aoc:P.cellsOf t=n)
    (h:DataW.LaidVars P W ((name,Lib.tabData k zs)::rest) cJ):(∃t kq,W.heap[g]? = some (.cells (zs.map λz=>Value.int k z).toArray t kq))∧∃q,DataW.LaidVars P W rest q:=by
  obtain⟨fe,jf,cs,fuel,p,q,hg',nV,k_,hd,ak,_⟩:=h
  obtain rfl:=Option.some.inj (hg.symm.trans hg')
  obtain rfl:=Option.some.inj (gC.symm.trans nV)
  have hc:=Lib.cells_of_tab bU he IY aoc hd
  refine⟨?_,q,ak⟩
  have ee:cs=(zs.map λz=>Value.int k z).toArray:=by rw [←hc]
  subst ee
  unfold World.var? at k_
  rw [hg,Option.bind_some]at k_
  cases bz:W.heap[g]? with
  |none=>rw [bz]at k_;cases k_
  |some bb=>
    rw [bz]at k_
    cases bb with
    |cells cs' t2 kq=>simp only [Option.some.injEq]at k_;subst k_;exact⟨_,_,rfl⟩
    |_=>simp at k_
theorem gTabT:(Tryz.prog.globals[1]?).map (·.type)=some 427:=by kernel_rfl
theorem good_laid{W:World}(h:laidMet Tryz.prog theLaid W):qI Tryz.prog λb=>W.heap[b]? := by
  obtain⟨cJ,Z,_⟩:=h
  obtain⟨aH,Z⟩:=Ab.laid_rest Z
  obtain⟨bn,Z⟩:=Ab.laid_rest Z
  obtain⟨h0,b8,Z⟩:=tab_of_laid (zs:=Lib.pow10Tab) Ab.Y.Ee gTabT Tryz.underlying427 Tryz.underlying32 (by kernel_rfl) (by kernel_rfl) Z
  obtain⟨au,dd,Z⟩:=Ab.iface_of_laid Z gRange gRangeT Tryz.underlying108
  obtain⟨af,dL,Z⟩:=Ab.iface_of_laid Z gSyntax gSyntaxT Tryz.underlying108
  refine⟨λg hg=>?_,λg hg=>?_⟩
  · rw [Ab.Y.KN]at hg
    simp only [List.mem_cons,List.not_mem_nil,or_false]at hg
    rcases hg with rfl|rfl
    · exact af
    · exact au
  · obtain rfl:=Option.some.inj (Ab.Y.Ee.symm.trans hg)
    rw [←Ab.Y.U3];exact h0
def vals:DataW Unit→Array Value
  |.agg l=>(l.map fun |.lit (.int k n)=>Value.int k n |_=>.nilIface).toArray
  |_ => #[]
noncomputable def low:Nat:=(World.holding Tryz.prog default ⟨#[],#[],[]⟩).heap.size
/-- THE WITNESS: the settled world, the listed variables holding what their initialisers lay. -/
noncomputable def laidWorld(os:Os):World:=
  let Cs:=World.holding Tryz.prog os ⟨#[.cells #[.string ⟨#[118,97,108,117,101,32,111,117,116,32,111,102,32,114,97,110,103,101]⟩] 447,.cells #[.string ⟨#[105,110,118,97,108,105,100,32,115,121,110,116,97,120]⟩] 447],#[],[]⟩
  let put (h:Array Obj) (g:Nat) (cs:Array Value):Array Obj:=h.modify g fun
    |.cells _ t frozen=>.cells cs t frozen
    |o=>o
  let Z:=put Cs.heap 2 (vals Rows.laid_math_bits_deBruijn32tab)
  let af:=put Z 3 (vals Rows.laid_math_bits_deBruijn64tab)
  let au:=put af 1 (vals Rows.laid_internal_strconv_uint64pow10)
  let aQ:=put au 5 #[.iface 445 (.pointer (some ⟨low,0,none⟩))]
  let bj:=put aQ 4 #[.iface 445 (.pointer (some ⟨low+1,0,none⟩))]
  {Cs with heap:=bj}
theorem laid_met(os:Os):laidMet Tryz.prog theLaid ((laidWorld os).forCall (λ_ _=>0) ⟨#[],#[.string ⟨#[]⟩],[]⟩).memory:=
  laidMet_of_run' 8 (by kernel_rfl) (by kernel_rfl)
theorem fnum : Tryz.prog.funcNamed "clockwork/clockworklaw49.CheckpointBegins" = some 3 := by kernel_rfl
end Go.Proofs.YtbncfepdlmnmiaaGreatDoor

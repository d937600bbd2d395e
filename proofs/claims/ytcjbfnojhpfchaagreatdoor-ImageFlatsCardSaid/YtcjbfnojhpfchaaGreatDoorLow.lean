/- The reach of the row, and the world it starts in. -/
import Derived.ChangeSame
import Derived.OpenShut
import Derived.ProofKit
import Derived.RowKit3
import Derived.Test.YtcjbfnojhpfchaaGreatDoorCards
import Derived.Test.YtcjbfnojhpfchaaGreatDoorTie
import Derived.Deep.DeepHandedRow
import Derived.Lib.LaidTab
import Derived.Test.YtcjbfnojhpfchaaGreatDoorHand
namespace Go.Ab
open Go.RowKit

/-- Every block that there was stands as it stood; the system and the output are as they were. -/
def Still(W hz:World):Prop:=hz.os=W.os∧hz.output=W.output∧∀(b:Nat) (a6:Obj),W.heap[b]? = some a6→hz.heap[b]? = some a6
theorem Still.kept{W hz:World}(h:Still W hz)(may:MemPlace→Prop):W.keptBut hz may:=by
  have e:∀i,i<W.heap.size→hz.heap[i]? = W.heap[i]? := λi hi=>by
    have:W.heap[i]? = some W.heap[i]:=Array.getElem?_eq_getElem hi
    rw [this];exact h.2.2 i _ this
  have ai:=World.keptBut_refl W may
  refine⟨h.1,h.2.1,λi hi=>?_⟩
  rw [e i hi]
  exact ai.2.2 i hi
section
variable {H:Type} {enc:TypeId×Value→H} {P:Program}
/-- What a law's claim asks behind the call: its arguments read as they read. -/
theorem post_of_still{f:Func}{s:ChangeSpec}{apart fresh handsOn:Bool}{W hz:World}{args:Array Value}{v:Value}{ds gs:List (DataW H)}{before pa pv:List MemPlace}
    (xK:DataW.Whole enc P f.params.toList s.vars apart W args.toList ds gs before)
    (jl:∀(b:Nat) (sp:Nat→Bool) (hd:Bool),DataW.TrodAll enc P hz b sp hd f.resultTypes.toList (v.resultList f.resultTypes.size) (s.fn H (ds++gs)).results [])
    (e7:∀sp:Nat→Bool,(∀p∈before,sp p.block=true)→DataW.TrodAll enc P hz 0 sp true f.params.toList args.toList (s.fn H (ds++gs)).args pa)
    (ar1:∀sp:Nat→Bool,(∀p∈before,sp p.block=true)→DataW.TrodVars enc P hz sp s.vars (s.fn H (ds++gs)).vars pv)
    (mi:before=pa++pv) (hk:Still W hz):
    s.post enc P f apart fresh handsOn false W args v hz:=by
  have hold:∀p∈before,(λb=>decide (b<W.heap.size)) p.block=true:=λp hp=>by simpa using xK.lt p hp
  refine⟨ds,gs,before,[],pa,pv,xK,jl _ _ _,e7 _ hold,ar1 _ hold,World.keptBut_mono (λp hp=>⟨hp,?_⟩) (hk.kept (· ∈ before)),λh=>by cases h⟩
  rw [mi,List.mem_append]at hp
  exact Or.inr hp
end
/-- What was read before is read behind it. -/
theorem args_still{H:Type}{enc:TypeId×Value→H}{P:Program}{T:TypeId→Prop}(K:Kids P T)(dw:∀t e,T t→P.underlying t=some (.slice e)→0<P.cellsOf e){W hz:World}{ts:List TypeId}{vs:List Value}{ds:List (DataW H)}{b6:List MemPlace}
    (aG:∀t∈ts,T t) (h:DataW.TrodAll enc P W 0 (λ_=>true) true ts vs ds b6) (hk:Still W hz) (sp:Nat→Bool) (hs:∀p∈b6,sp p.block=true):DataW.TrodAll enc P hz 0 sp true ts vs ds b6:=by
  have cX:=h.lt
  have ar2:∀p∈b6,W.sameAt hz p:=by
    intro p hp
    have hb:=cX p hp
    cases p with
    |cell b off=>
      have hb:b<W.heap.size:=hb
      have e:=hk.2.2 b _ (Array.getElem?_eq_getElem hb)
      unfold World.sameAt World.cell?
      simp only [e,Array.getElem?_eq_getElem hb]
    |map b=>
      have hb:b<W.heap.size:=hb
      exact(hk.2.2 b _ (Array.getElem?_eq_getElem hb)).trans (Array.getElem?_eq_getElem hb).symm
  have carry:∀{ts:List TypeId} {vs:List Value} {ds:List (DataW H)} {b6:List MemPlace},DataW.TrodAll enc P W 0 (λ_=>true) true ts vs ds b6→(∀p∈b6,W.sameAt hz p)→DataW.TrodAll enc P hz 0 (λ_=>true) true ts vs ds b6:=by
    intro ts
    induction ts with
    |nil=>intro vs ds b6 h _;obtain⟨rfl,rfl,rfl⟩:=Go.ChangeShapes.trodAll_nil h;exact rfl
    |cons t ts aH=>
      intro vs ds b6 h hs
      obtain⟨v,kU,d,atC,a,b,rfl,rfl,rfl,⟨n,Z⟩,aa⟩:=Go.ChangeShapes.trodAll_cons h
      exact⟨a,b,⟨n,DataW.trod_carry n _ _ _ Z λp hp=>hs p (List.mem_append_left _ hp)⟩,aH aa λp hp=>hs p (List.mem_append_right _ hp),rfl⟩
  exact(carry h ar2).respare K dw aG hs
/-- From a contract over the machine to a call over the model. -/
theorem law_on{P:Program}{f:FuncId}{vs:List Value}{ds:List D}{W:World}(h:gW P f ds [] [] (.ret (.v (.bool true)) none) [])(hg:r_ P λb=>W.heap[b]?)(hlen:vs.length=ds.length)
    (ai:∀(i:Nat) v d,vs[i]? = some v→ds[i]? = some d→cy (tW W) (λ_=>none) v d):
    Calls P f ⟨vs⟩ W λe hz=>e = .returned (.bool true)∧Still W hz:=by
  let K:Ctx:={BD:=tW W,F:=λb=>W.heap[b]?,lq:=λ_=>none,h7:=(W.os,W.output)}
  have hs:bN P K (tW W) (λ_=>none) {env:=hV ds [],H:=cQ 0 [],aX:=([]:List (List a7)).length} (⟨vs⟩:Array Value) W:=by
    have gl:∀l e,({env:=hV ds [],H:=cQ 0 [],aX:=([]:List (List a7)).length}:aK).at l=some e→∃i d,l = .slot i∧ds[i]? = some d∧e=⟨d,none⟩:=by
      intro l e ab
      cases l with
      |cell r i=>simp [aK.at,cQ,look]at ab
      |slot i=>
        simp only [aK.at,hV,nr,BV,Option.map_eq_some_iff,look]at ab
        obtain⟨d,hd,rfl⟩:=ab
        exact⟨i,d,rfl,hd,rfl⟩
    constructor
    · intro l e ab
      obtain⟨i,d,rfl,hd,rfl⟩:=gl l e ab
      have hi:i<vs.length:=by rw [hlen];exact(List.getElem?_eq_some_iff.1 hd).1
      have aw:vs[i]? = some vs[i]:=List.getElem?_eq_getElem hi
      have:cu (⟨vs⟩:Array Value) W (λ_=>none) (.slot i)=vs[i]:=by simp [cu,aw]
      rw [this]
      exact ai i _ d aw hd
    · intro l e T ab aG;obtain⟨i,d,rfl,hd,rfl⟩:=gl l e ab;cases aG
    · intro l cG e bg T T' b ab aG;obtain⟨i,d,rfl,hd,rfl⟩:=gl l e ab;cases aG
    · intro l e T b r cs ab aG;obtain⟨i,d,rfl,hd,rfl⟩:=gl l e ab;cases aG
    · intro r cs ai;simp [cQ,look]at ai
    · intro r dv b cs cs' ai;simp [cQ,look]at ai
    · intro r b hb;cases hb
    · intro b o v aw;exact aw
    · exact Mem.le_refl _
    · intro b a6 hb;exact⟨hb,λ_=>rfl⟩
    · intro r b hb;cases hb
    · exact hg
    · rfl
  refine(h.2 K W vs (tW W) (λ_=>none) hlen hs (λr b hb=>by cases hb)).mono ?_
  rintro e hz ⟨o,bP,v,M',β',⟨rfl,rfl⟩,he,cN⟩
  have aw:v = .bool true:=by
    have Z:=cN.fv (.slot 0) ⟨.v (.bool true),none⟩ (by simp [aK.at,iv,dX])
    have aa:cu (#[v]:Array Value) hz β' (.slot 0)=v:=by simp [cu]
    rw [aa]at Z
    cases Z with|v u x h=>cases h;rfl
  subst aw
  refine⟨he,?_⟩
  have oS:(hz.os,hz.output)=(W.os,W.output):=cN.h7
  exact⟨congrArg Prod.fst oS,congrArg Prod.snd oS,λb a6 hb=>(cN.frame b a6 hb).1⟩
theorem law_on_text{P:Program}{f:FuncId}{s:ByteArray}{W:World}(h:gW P f [.v (.str s.data.toList)] [] [] (.ret (.v (.bool true)) none) [])(hg:r_ P λb=>W.heap[b]?):
    Calls P f #[.string s] W λe hz=>e = .returned (.bool true)∧Still W hz:=
  law_on (vs:=[.string s]) h hg rfl λi v d aw hd=>by
    match i with
    | 0=>cases aw;cases hd;exact .v _ _ (.str _)
    |i+1=>simp at aw

/-- A listed variable of an interface type, that reads as an interface value, holds one. -/
theorem iface_of_laid{P:Program}{W:World}{n:String}{u:String}{d:DataW Unit}{g t:Nat}{ms:Array (String×TypeId)}{rest:List (String×DataW Unit)}{b6:List MemPlace}
    (h:DataW.LaidVars P W ((n,.iface u d)::rest) b6) (hg:P.globalNamed n=some g) (gV:(P.globals[g]?).map (·.type)=some t) (aF:P.underlying t=some (.interface ms)):
    (∃cs t kS fM,W.heap[g]? = some (.cells cs t kS)∧cs[0]? = some fM∧(fM = .nilIface∨∃cf sa,fM = .iface cf sa))∧∃q,DataW.LaidVars P W rest q:=by
  obtain⟨e0,bS,cs,fuel,p,q,hg',eK,lT,hd,ai,_⟩:=h
  obtain rfl:=Option.some.inj (hg.symm.trans hg')
  obtain rfl:=Option.some.inj (gV.symm.trans eK)
  refine⟨?_,q,ai⟩
  unfold World.var? at lT
  rw [hg,Option.bind_some]at lT
  cases bm:W.heap[g]? with
  |none=>rw [bm]at lT;cases lT
  |some a6=>
    rw [bm]at lT
    cases a6 with
    |cells cs' bS kS=>
      simp only [Option.some.injEq]at lT
      subst lT
      cases fuel with
      |zero=>simp [DataW.trod]at hd
      |succ fuel=>
        unfold DataW.trod at hd
        rw [aF]at hd
        split at hd<;>simp_all
        rename_i e1
        rw [←Array.getElem?_toList,e1]
        exact⟨_,rfl,Or.inr ⟨_,_,rfl⟩⟩
    |_=>simp at lT
theorem laid_rest{P:Program}{W:World}{x:String×DataW Unit}{rest:List (String×DataW Unit)}{b6:List MemPlace}(h:DataW.LaidVars P W (x::rest) b6):∃q,DataW.LaidVars P W rest q:=by
  obtain⟨e0,bS,cs,fuel,p,q,hg',eK,lT,hd,ai,_⟩:=h
  exact⟨q,ai⟩
end Go.Ab

namespace Go.Proofs.YtcjbfnojhpfchaaGreatDoor
open Go.ChangeShapes Go.WideShapes Go.ChangeAt Go.RowKit
open Go.ChangeMaps (open_string shut_string)
open Go.Ab (Still r_)

theorem own:ownKnob Tryz.prog.godebug=none:=by kernel_rfl
theorem gRange : Tryz.prog.globalNamed "strconv.ErrRange" = some 5 := by kernel_rfl
theorem gSyntax : Tryz.prog.globalNamed "strconv.ErrSyntax" = some 4 := by kernel_rfl
theorem gRangeT:(Tryz.prog.globals[5]?).map (·.type)=some 122:=by kernel_rfl
theorem gSyntaxT:(Tryz.prog.globals[4]?).map (·.type)=some 122:=by kernel_rfl
def theLaid : List (String × DataW Unit) := [("math/bits.deBruijn32tab", Rows.laid_math_bits_deBruijn32tab), ("math/bits.deBruijn64tab", Rows.laid_math_bits_deBruijn64tab), ("internal/strconv.uint64pow10", Rows.laid_internal_strconv_uint64pow10), ("strconv.ErrRange", Rows.laid_strconv_ErrRange), ("strconv.ErrSyntax", Rows.laid_strconv_ErrSyntax)]
theorem tab_of_laid{P:Program}{W:World}{name:String}{k:IntKind}{zs:List Int}{rest:List (String×DataW Unit)}{b6:List MemPlace}{g:Nat}{t e:TypeId}{n:Nat}
    (hg:P.globalNamed name=some g) (gV:(P.globals[g]?).map (·.type)=some t) (aF:P.underlying t=some (.array n e)) (he:P.underlying e=some (.int k)) (M6:P.cellsOf e=1) (ar3:P.cellsOf t=n)
    (h:DataW.LaidVars P W ((name,Lib.tabData k zs)::rest) b6):(∃t kS,W.heap[g]? = some (.cells (zs.map λz=>Value.int k z).toArray t kS))∧∃q,DataW.LaidVars P W rest q:=by
  obtain⟨e0,bS,cs,fuel,p,q,hg',eK,lT,hd,ai,_⟩:=h
  obtain rfl:=Option.some.inj (hg.symm.trans hg')
  obtain rfl:=Option.some.inj (gV.symm.trans eK)
  have hc:=Lib.cells_of_tab aF he M6 ar3 hd
  refine⟨?_,q,ai⟩
  have et:cs=(zs.map λz=>Value.int k z).toArray:=by rw [←hc]
  subst et
  unfold World.var? at lT
  rw [hg,Option.bind_some]at lT
  cases bm:W.heap[g]? with
  |none=>rw [bm]at lT;cases lT
  |some a6=>
    rw [bm]at lT
    cases a6 with
    |cells cs' t2 kS=>simp only [Option.some.injEq]at lT;subst lT;exact⟨_,_,rfl⟩
    |_=>simp at lT
theorem gTabT:(Tryz.prog.globals[1]?).map (·.type)=some 384:=by kernel_rfl
theorem good_laid{W:World}(h:laidMet Tryz.prog theLaid W):r_ Tryz.prog λb=>W.heap[b]? := by
  obtain⟨b6,Z,_⟩:=h
  obtain⟨aM,Z⟩:=Ab.laid_rest Z
  obtain⟨bu,Z⟩:=Ab.laid_rest Z
  obtain⟨h0,ci,Z⟩:=tab_of_laid (zs:=Lib.pow10Tab) Ab.Y.Hr gTabT Tryz.underlying384 Tryz.underlying32 (by kernel_rfl) (by kernel_rfl) Z
  obtain⟨aj,dC,Z⟩:=Ab.iface_of_laid Z gRange gRangeT Tryz.underlying122
  obtain⟨aa,dW,Z⟩:=Ab.iface_of_laid Z gSyntax gSyntaxT Tryz.underlying122
  refine⟨λg hg=>?_,λg hg=>?_⟩
  · rw [Ab.Y.OO]at hg
    simp only [List.mem_cons,List.not_mem_nil,or_false]at hg
    rcases hg with rfl|rfl
    · exact aa
    · exact aj
  · obtain rfl:=Option.some.inj (Ab.Y.Hr.symm.trans hg)
    rw [←Ab.Y.X7];exact h0
def vals:DataW Unit→Array Value
  |.agg l=>(l.map fun |.lit (.int k n)=>Value.int k n |_=>.nilIface).toArray
  |_ => #[]
noncomputable def low:Nat:=(World.holding Tryz.prog default ⟨#[],#[],[]⟩).heap.size
/-- THE WITNESS: the settled world, the listed variables holding what their initialisers lay. -/
noncomputable def laidWorld(os:Os):World:=
  let FE:=World.holding Tryz.prog os ⟨#[.cells #[.string ⟨#[118,97,108,117,101,32,111,117,116,32,111,102,32,114,97,110,103,101]⟩] 404,.cells #[.string ⟨#[105,110,118,97,108,105,100,32,115,121,110,116,97,120]⟩] 404],#[],[]⟩
  let put (h:Array Obj) (g:Nat) (cs:Array Value):Array Obj:=h.modify g fun
    |.cells _ t frozen=>.cells cs t frozen
    |o=>o
  let Z:=put FE.heap 2 (vals Rows.laid_math_bits_deBruijn32tab)
  let aa:=put Z 3 (vals Rows.laid_math_bits_deBruijn64tab)
  let aj:=put aa 1 (vals Rows.laid_internal_strconv_uint64pow10)
  let aC:=put aj 5 #[.iface 402 (.pointer (some ⟨low,0,none⟩))]
  let aT:=put aC 4 #[.iface 402 (.pointer (some ⟨low+1,0,none⟩))]
  {FE with heap:=aT}
theorem laid_met(os:Os):laidMet Tryz.prog theLaid ((laidWorld os).forCall (λ_ _=>0) ⟨#[],#[.string ⟨#[]⟩],[]⟩).memory:=
  laidMet_of_run' 8 (by kernel_rfl) (by kernel_rfl)
theorem fnum : Tryz.prog.funcNamed "clockwork/clockworklaw48.ImageEncodes" = some 3 := by kernel_rfl
end Go.Proofs.YtcjbfnojhpfchaaGreatDoor

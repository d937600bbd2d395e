/- The reach of the row, and the world it starts in. -/
import Derived.ChangeSame
import Derived.OpenShut
import Derived.ProofKit
import Derived.RowKit3
import Derived.Test.YtbncfepdlmnmiaaGreatDoorCards
import Derived.Test.YtbncfepdlmnmiaaGreatDoorTie
import Derived.Deep.DeepHandedRow
import Derived.Lib.LaidTab
import Derived.Test.YtbncfepdlmnmiaaGreatDoorHand
namespace Go.Ab
open Go.RowKit

/-- Every block that there was stands as it stood; the system and the output are as they were. -/
def Still(W ga:World):Prop:=ga.os=W.os∧ga.output=W.output∧∀(b:Nat) (a6:Obj),W.heap[b]? = some a6→ga.heap[b]? = some a6
theorem Still.kept{W ga:World}(h:Still W ga)(may:MemPlace→Prop):W.keptBut ga may:=by
  have e:∀i,i<W.heap.size→ga.heap[i]? = W.heap[i]? := λi hi=>by
    have:W.heap[i]? = some W.heap[i]:=Array.getElem?_eq_getElem hi
    rw [this];exact h.2.2 i _ this
  have aj:=World.keptBut_refl W may
  refine⟨h.1,h.2.1,λi hi=>?_⟩
  rw [e i hi]
  exact aj.2.2 i hi
section
variable {H:Type} {enc:TypeId×Value→H} {P:Program}
/-- What a law's claim asks behind the call: its arguments read as they read. -/
theorem post_of_still{f:Func}{s:ChangeSpec}{apart fresh handsOn:Bool}{W ga:World}{args:Array Value}{v:Value}{ds gs:List (DataW H)}{before pa pv:List MemPlace}
    (kn:DataW.Whole enc P f.params.toList s.vars apart W args.toList ds gs before)
    (gz:∀(b:Nat) (sp:Nat→Bool) (hd:Bool),DataW.TrodAll enc P ga b sp hd f.resultTypes.toList (v.resultList f.resultTypes.size) (s.fn H (ds++gs)).results [])
    (fA:∀sp:Nat→Bool,(∀p∈before,sp p.block=true)→DataW.TrodAll enc P ga 0 sp true f.params.toList args.toList (s.fn H (ds++gs)).args pa)
    (afm:∀sp:Nat→Bool,(∀p∈before,sp p.block=true)→DataW.TrodVars enc P ga sp s.vars (s.fn H (ds++gs)).vars pv)
    (j':before=pa++pv) (hk:Still W ga):
    s.post enc P f apart fresh handsOn false W args v ga:=by
  have hold:∀p∈before,(λb=>decide (b<W.heap.size)) p.block=true:=λp hp=>by simpa using kn.lt p hp
  refine⟨ds,gs,before,[],pa,pv,kn,gz _ _ _,fA _ hold,afm _ hold,World.keptBut_mono (λp hp=>⟨hp,?_⟩) (hk.kept (· ∈ before)),λh=>by cases h⟩
  rw [j',List.mem_append]at hp
  exact Or.inr hp
end
/-- What was read before is read behind it. -/
theorem args_still{H:Type}{enc:TypeId×Value→H}{P:Program}{T:TypeId→Prop}(K:Kids P T)(dQ:∀t e,T t→P.underlying t=some (.slice e)→0<P.cellsOf e){W ga:World}{ts:List TypeId}{vs:List Value}{ds:List (DataW H)}{cp:List MemPlace}
    (aO:∀t∈ts,T t) (h:DataW.TrodAll enc P W 0 (λ_=>true) true ts vs ds cp) (hk:Still W ga) (sp:Nat→Bool) (hs:∀p∈cp,sp p.block=true):DataW.TrodAll enc P ga 0 sp true ts vs ds cp:=by
  have cJ:=h.lt
  have afn:∀p∈cp,W.sameAt ga p:=by
    intro p hp
    have hb:=cJ p hp
    cases p with
    |cell b off=>
      have hb:b<W.heap.size:=hb
      have e:=hk.2.2 b _ (Array.getElem?_eq_getElem hb)
      unfold World.sameAt World.cell?
      simp only [e,Array.getElem?_eq_getElem hb]
    |map b=>
      have hb:b<W.heap.size:=hb
      exact(hk.2.2 b _ (Array.getElem?_eq_getElem hb)).trans (Array.getElem?_eq_getElem hb).symm
  have carry:∀{ts:List TypeId} {vs:List Value} {ds:List (DataW H)} {cp:List MemPlace},DataW.TrodAll enc P W 0 (λ_=>true) true ts vs ds cp→(∀p∈cp,W.sameAt ga p)→DataW.TrodAll enc P ga 0 (λ_=>true) true ts vs ds cp:=by
    intro ts
    induction ts with
    |nil=>intro vs ds cp h _;obtain⟨rfl,rfl,rfl⟩:=Go.ChangeShapes.trodAll_nil h;exact rfl
    |cons t ts bD=>
      intro vs ds cp h hs
      obtain⟨v,kN,d,afo,a,b,rfl,rfl,rfl,⟨n,ab⟩,ah⟩:=Go.ChangeShapes.trodAll_cons h
      exact⟨a,b,⟨n,DataW.trod_carry n _ _ _ ab λp hp=>hs p (List.mem_append_left _ hp)⟩,bD ah λp hp=>hs p (List.mem_append_right _ hp),rfl⟩
  exact(carry h afn).respare K dQ aO hs
/-- From a contract over the machine to a call over the model. -/
theorem law_on{P:Program}{f:FuncId}{vs:List Value}{ds:List D}{W:World}(h:fP P f ds [] [] (.ret (.v (.bool true)) none) [])(hg:ot P λb=>W.heap[b]?)(hlen:vs.length=ds.length)
    (aj:∀(i:Nat) v d,vs[i]? = some v→ds[i]? = some d→ce (nY W) (λ_=>none) v d):
    Calls P f ⟨vs⟩ W λe ga=>e = .returned (.bool true)∧Still W ga:=by
  let K:Ctx:={qe:=nY W,F:=λb=>W.heap[b]?,h5:=λ_=>none,gn:=(W.os,W.output)}
  have hs:bB P K (nY W) (λ_=>none) {env:=gu ds [],H:=cH 0 [],aT:=([]:List (List aR)).length} (⟨vs⟩:Array Value) W:=by
    have eQ:∀l e,({env:=gu ds [],H:=cH 0 [],aT:=([]:List (List aR)).length}:aF).at l=some e→∃i d,l = .slot i∧ds[i]? = some d∧e=⟨d,none⟩:=by
      intro l e ag
      cases l with
      |cell r i=>simp [aF.at,cH,look]at ag
      |slot i=>
        simp only [aF.at,gu,kR,uk,Option.map_eq_some_iff,look]at ag
        obtain⟨d,hd,rfl⟩:=ag
        exact⟨i,d,rfl,hd,rfl⟩
    constructor
    · intro l e ag
      obtain⟨i,d,rfl,hd,rfl⟩:=eQ l e ag
      have hi:i<vs.length:=by rw [hlen];exact(List.getElem?_eq_some_iff.1 hd).1
      have az:vs[i]? = some vs[i]:=List.getElem?_eq_getElem hi
      have:bZ (⟨vs⟩:Array Value) W (λ_=>none) (.slot i)=vs[i]:=by simp [bZ,az]
      rw [this]
      exact aj i _ d az hd
    · intro l e T ag aO;obtain⟨i,d,rfl,hd,rfl⟩:=eQ l e ag;cases aO
    · intro l cr e aZ T T' b ag aO;obtain⟨i,d,rfl,hd,rfl⟩:=eQ l e ag;cases aO
    · intro l e T b r cs ag aO;obtain⟨i,d,rfl,hd,rfl⟩:=eQ l e ag;cases aO
    · intro r cs aj;simp [cH,look]at aj
    · intro r ct b cs cs' aj;simp [cH,look]at aj
    · intro r b hb;cases hb
    · intro b o v az;exact az
    · exact Mem.le_refl _
    · intro b a6 hb;exact⟨hb,λ_=>rfl⟩
    · intro r b hb;cases hb
    · exact hg
    · rfl
  refine(h.2 K W vs (nY W) (λ_=>none) hlen hs (λr b hb=>by cases hb)).mono ?_
  rintro e ga ⟨o,H',v,M',β',⟨rfl,rfl⟩,he,cD⟩
  have az:v = .bool true:=by
    have ab:=cD.ew (.slot 0) ⟨.v (.bool true),none⟩ (by simp [aF.at,gx,dd])
    have ah:bZ (#[v]:Array Value) ga β' (.slot 0)=v:=by simp [bZ]
    rw [ah]at ab
    cases ab with|v u x h=>cases h;rfl
  subst az
  refine⟨he,?_⟩
  have md:(ga.os,ga.output)=(W.os,W.output):=cD.gn
  exact⟨congrArg Prod.fst md,congrArg Prod.snd md,λb a6 hb=>(cD.frame b a6 hb).1⟩
theorem law_on_text{P:Program}{f:FuncId}{s:ByteArray}{W:World}(h:fP P f [.v (.str s.data.toList)] [] [] (.ret (.v (.bool true)) none) [])(hg:ot P λb=>W.heap[b]?):
    Calls P f #[.string s] W λe ga=>e = .returned (.bool true)∧Still W ga:=
  law_on (vs:=[.string s]) h hg rfl λi v d az hd=>by
    match i with
    | 0=>cases az;cases hd;exact .v _ _ (.str _)
    |i+1=>simp at az

/-- A listed variable of an interface type, that reads as an interface value, holds one. -/
theorem iface_of_laid{P:Program}{W:World}{n:String}{u:String}{d:DataW Unit}{g t:Nat}{ms:Array (String×TypeId)}{rest:List (String×DataW Unit)}{cp:List MemPlace}
    (h:DataW.LaidVars P W ((n,.iface u d)::rest) cp) (hg:P.globalNamed n=some g) (fZ:(P.globals[g]?).map (·.type)=some t) (cc:P.underlying t=some (.interface ms)):
    (∃cs t iW e_,W.heap[g]? = some (.cells cs t iW)∧cs[0]? = some e_∧(e_ = .nilIface∨∃b7 ou,e_ = .iface b7 ou))∧∃q,DataW.LaidVars P W rest q:=by
  obtain⟨eP,h4,cs,fuel,p,q,hg',mo,jH,hd,aj,_⟩:=h
  obtain rfl:=Option.some.inj (hg.symm.trans hg')
  obtain rfl:=Option.some.inj (fZ.symm.trans mo)
  refine⟨?_,q,aj⟩
  unfold World.var? at jH
  rw [hg,Option.bind_some]at jH
  cases bu:W.heap[g]? with
  |none=>rw [bu]at jH;cases jH
  |some a6=>
    rw [bu]at jH
    cases a6 with
    |cells cs' h4 iW=>
      simp only [Option.some.injEq]at jH
      subst jH
      cases fuel with
      |zero=>simp [DataW.trod]at hd
      |succ fuel=>
        unfold DataW.trod at hd
        rw [cc]at hd
        split at hd<;>simp_all
        rename_i e1
        rw [←Array.getElem?_toList,e1]
        exact⟨_,rfl,Or.inr ⟨_,_,rfl⟩⟩
    |_=>simp at jH
theorem laid_rest{P:Program}{W:World}{x:String×DataW Unit}{rest:List (String×DataW Unit)}{cp:List MemPlace}(h:DataW.LaidVars P W (x::rest) cp):∃q,DataW.LaidVars P W rest q:=by
  obtain⟨eP,h4,cs,fuel,p,q,hg',mo,jH,hd,aj,_⟩:=h
  exact⟨q,aj⟩
end Go.Ab

namespace Go.Proofs.YtbncfepdlmnmiaaGreatDoor
open Go.ChangeShapes Go.WideShapes Go.ChangeAt Go.RowKit
open Go.ChangeMaps (open_string shut_string)
open Go.Ab (Still ot)

theorem own:ownKnob Tryz.prog.godebug=none:=by kernel_rfl
theorem gRange : Tryz.prog.globalNamed "strconv.ErrRange" = some 5 := by kernel_rfl
theorem gSyntax : Tryz.prog.globalNamed "strconv.ErrSyntax" = some 4 := by kernel_rfl
theorem gRangeT:(Tryz.prog.globals[5]?).map (·.type)=some 108:=by kernel_rfl
theorem gSyntaxT:(Tryz.prog.globals[4]?).map (·.type)=some 108:=by kernel_rfl
def theLaid : List (String × DataW Unit) := [("math/bits.deBruijn32tab", Rows.laid_math_bits_deBruijn32tab), ("math/bits.deBruijn64tab", Rows.laid_math_bits_deBruijn64tab), ("internal/strconv.uint64pow10", Rows.laid_internal_strconv_uint64pow10), ("strconv.ErrRange", Rows.laid_strconv_ErrRange), ("strconv.ErrSyntax", Rows.laid_strconv_ErrSyntax)]
theorem tab_of_laid{P:Program}{W:World}{name:String}{k:IntKind}{zs:List Int}{rest:List (String×DataW Unit)}{cp:List MemPlace}{g:Nat}{t e:TypeId}{n:Nat}
    (hg:P.globalNamed name=some g) (fZ:(P.globals[g]?).map (·.type)=some t) (cc:P.underlying t=some (.array n e)) (he:P.underlying e=some (.int k)) (A2:P.cellsOf e=1) (afp:P.cellsOf t=n)
    (h:DataW.LaidVars P W ((name,Lib.tabData k zs)::rest) cp):(∃t iW,W.heap[g]? = some (.cells (zs.map λz=>Value.int k z).toArray t iW))∧∃q,DataW.LaidVars P W rest q:=by
  obtain⟨eP,h4,cs,fuel,p,q,hg',mo,jH,hd,aj,_⟩:=h
  obtain rfl:=Option.some.inj (hg.symm.trans hg')
  obtain rfl:=Option.some.inj (fZ.symm.trans mo)
  have hc:=Lib.cells_of_tab cc he A2 afp hd
  refine⟨?_,q,aj⟩
  have dE:cs=(zs.map λz=>Value.int k z).toArray:=by rw [←hc]
  subst dE
  unfold World.var? at jH
  rw [hg,Option.bind_some]at jH
  cases bu:W.heap[g]? with
  |none=>rw [bu]at jH;cases jH
  |some a6=>
    rw [bu]at jH
    cases a6 with
    |cells cs' t2 iW=>simp only [Option.some.injEq]at jH;subst jH;exact⟨_,_,rfl⟩
    |_=>simp at jH
theorem gTabT:(Tryz.prog.globals[1]?).map (·.type)=some 427:=by kernel_rfl
theorem good_laid{W:World}(h:laidMet Tryz.prog theLaid W):ot Tryz.prog λb=>W.heap[b]? := by
  obtain⟨cp,ab,_⟩:=h
  obtain⟨aH,ab⟩:=Ab.laid_rest ab
  obtain⟨bi,ab⟩:=Ab.laid_rest ab
  obtain⟨h0,b',ab⟩:=tab_of_laid (zs:=Lib.pow10Tab) Ab.Y.yx gTabT Tryz.underlying427 Tryz.underlying32 (by kernel_rfl) (by kernel_rfl) ab
  obtain⟨ay,c7,ab⟩:=Ab.iface_of_laid ab gRange gRangeT Tryz.underlying108
  obtain⟨ah,dw,ab⟩:=Ab.iface_of_laid ab gSyntax gSyntaxT Tryz.underlying108
  refine⟨λg hg=>?_,λg hg=>?_⟩
  · rw [Ab.Y.CU]at hg
    simp only [List.mem_cons,List.not_mem_nil,or_false]at hg
    rcases hg with rfl|rfl
    · exact ah
    · exact ay
  · obtain rfl:=Option.some.inj (Ab.Y.yx.symm.trans hg)
    rw [←Ab.Y.LZ];exact h0
def vals:DataW Unit→Array Value
  |.agg l=>(l.map fun |.lit (.int k n)=>Value.int k n |_=>.nilIface).toArray
  |_ => #[]
noncomputable def low:Nat:=(World.holding Tryz.prog default ⟨#[],#[],[]⟩).heap.size
/-- THE WITNESS: the settled world, the listed variables holding what their initialisers lay. -/
noncomputable def laidWorld(os:Os):World:=
  let wM:=World.holding Tryz.prog os ⟨#[.cells #[.string ⟨#[118,97,108,117,101,32,111,117,116,32,111,102,32,114,97,110,103,101]⟩] 447,.cells #[.string ⟨#[105,110,118,97,108,105,100,32,115,121,110,116,97,120]⟩] 447],#[],[]⟩
  let put (h:Array Obj) (g:Nat) (cs:Array Value):Array Obj:=h.modify g fun
    |.cells _ t frozen=>.cells cs t frozen
    |o=>o
  let ab:=put wM.heap 2 (vals Rows.laid_math_bits_deBruijn32tab)
  let ah:=put ab 3 (vals Rows.laid_math_bits_deBruijn64tab)
  let ay:=put ah 1 (vals Rows.laid_internal_strconv_uint64pow10)
  let bl:=put ay 5 #[.iface 445 (.pointer (some ⟨low,0,none⟩))]
  let bQ:=put bl 4 #[.iface 445 (.pointer (some ⟨low+1,0,none⟩))]
  {wM with heap:=bQ}
theorem laid_met(os:Os):laidMet Tryz.prog theLaid ((laidWorld os).forCall (λ_ _=>0) ⟨#[],#[.string ⟨#[]⟩],[]⟩).memory:=
  laidMet_of_run' 8 (by kernel_rfl) (by kernel_rfl)
theorem fnum : Tryz.prog.funcNamed "clockwork/clockworklaw49.CheckpointBegins" = some 3 := by kernel_rfl
end Go.Proofs.YtbncfepdlmnmiaaGreatDoor

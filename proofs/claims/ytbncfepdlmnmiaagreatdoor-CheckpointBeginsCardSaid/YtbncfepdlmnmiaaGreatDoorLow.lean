/- The reach of the row, and the world it starts in. -/
import Derived.ChangeSame
import Derived.OpenShut
import Derived.ProofKit
import Derived.RowKit3
import Derived.Test.YtbncfepdlmnmiaaGreatDoorCards
import Derived.Test.YtbncfepdlmnmiaaGreatDoorTie
import Derived.Deep.DeepHandedRow
import Derived.Lib.LaidTab
import Derived.Test.YtbncfepdlmnmiaaGreatDoorHand
namespace Go.Ab
open Go.RowKit

/-- Every block that there was stands as it stood; the system and the output are as they were. -/
def Still(W hX:World):Prop:=hX.os=W.os∧hX.output=W.output∧∀(b:Nat) (a':Obj),W.heap[b]? = some a'→hX.heap[b]? = some a'
theorem Still.kept{W hX:World}(h:Still W hX)(may:MemPlace→Prop):W.keptBut hX may:=by
  have e:∀i,i<W.heap.size→hX.heap[i]? = W.heap[i]? := λi hi=>by
    have:W.heap[i]? = some W.heap[i]:=Array.getElem?_eq_getElem hi
    rw [this];exact h.2.2 i _ this
  have ai:=World.keptBut_refl W may
  refine⟨h.1,h.2.1,λi hi=>?_⟩
  rw [e i hi]
  exact ai.2.2 i hi
section
variable {H:Type} {enc:TypeId×Value→H} {P:Program}
/-- What a law's claim asks behind the call: its arguments read as they read. -/
theorem post_of_still{f:Func}{s:ChangeSpec}{apart fresh handsOn:Bool}{W hX:World}{args:Array Value}{v:Value}{ds gs:List (DataW H)}{before pa pv:List MemPlace}
    (x4:DataW.Whole enc P f.params.toList s.vars apart W args.toList ds gs before)
    (ic:∀(b:Nat) (sp:Nat→Bool) (hd:Bool),DataW.TrodAll enc P hX b sp hd f.resultTypes.toList (v.resultList f.resultTypes.size) (s.fn H (ds++gs)).results [])
    (e9:∀sp:Nat→Bool,(∀p∈before,sp p.block=true)→DataW.TrodAll enc P hX 0 sp true f.params.toList args.toList (s.fn H (ds++gs)).args pa)
    (at2:∀sp:Nat→Bool,(∀p∈before,sp p.block=true)→DataW.TrodVars enc P hX sp s.vars (s.fn H (ds++gs)).vars pv)
    (mt:before=pa++pv) (hk:Still W hX):
    s.post enc P f apart fresh handsOn false W args v hX:=by
  have hold:∀p∈before,(λb=>decide (b<W.heap.size)) p.block=true:=λp hp=>by simpa using x4.lt p hp
  refine⟨ds,gs,before,[],pa,pv,x4,ic _ _ _,e9 _ hold,at2 _ hold,World.keptBut_mono (λp hp=>⟨hp,?_⟩) (hk.kept (· ∈ before)),λh=>by cases h⟩
  rw [mt,List.mem_append]at hp
  exact Or.inr hp
end
/-- What was read before is read behind it. -/
theorem args_still{H:Type}{enc:TypeId×Value→H}{P:Program}{T:TypeId→Prop}(K:Kids P T)(dG:∀t e,T t→P.underlying t=some (.slice e)→0<P.cellsOf e){W hX:World}{ts:List TypeId}{vs:List Value}{ds:List (DataW H)}{ca:List MemPlace}
    (aC:∀t∈ts,T t) (h:DataW.TrodAll enc P W 0 (λ_=>true) true ts vs ds ca) (hk:Still W hX) (sp:Nat→Bool) (hs:∀p∈ca,sp p.block=true):DataW.TrodAll enc P hX 0 sp true ts vs ds ca:=by
  have cO:=h.lt
  have at3:∀p∈ca,W.sameAt hX p:=by
    intro p hp
    have hb:=cO p hp
    cases p with
    |cell b off=>
      have hb:b<W.heap.size:=hb
      have e:=hk.2.2 b _ (Array.getElem?_eq_getElem hb)
      unfold World.sameAt World.cell?
      simp only [e,Array.getElem?_eq_getElem hb]
    |map b=>
      have hb:b<W.heap.size:=hb
      exact(hk.2.2 b _ (Array.getElem?_eq_getElem hb)).trans (Array.getElem?_eq_getElem hb).symm
  have carry:∀{ts:List TypeId} {vs:List Value} {ds:List (DataW H)} {ca:List MemPlace},DataW.TrodAll enc P W 0 (λ_=>true) true ts vs ds ca→(∀p∈ca,W.sameAt hX p)→DataW.TrodAll enc P hX 0 (λ_=>true) true ts vs ds ca:=by
    intro ts
    induction ts with
    |nil=>intro vs ds ca h _;obtain⟨rfl,rfl,rfl⟩:=Go.ChangeShapes.trodAll_nil h;exact rfl
    |cons t ts aJ=>
      intro vs ds ca h hs
      obtain⟨v,oe,d,avJ,a,b,rfl,rfl,rfl,⟨n,Z⟩,ab⟩:=Go.ChangeShapes.trodAll_cons h
      exact⟨a,b,⟨n,DataW.trod_carry n _ _ _ Z λp hp=>hs p (List.mem_append_left _ hp)⟩,aJ ab λp hp=>hs p (List.mem_append_right _ hp),rfl⟩
  exact(carry h at3).respare K dG aC hs
/-- From a contract over the machine to a call over the model. -/
theorem law_on{P:Program}{f:FuncId}{vs:List Value}{ds:List D}{W:World}(h:gX P f ds [] [] (.ret (.v (.bool true)) none) [])(hg:tF P λb=>W.heap[b]?)(hlen:vs.length=ds.length)
    (ai:∀(i:Nat) v d,vs[i]? = some v→ds[i]? = some d→cw (ub W) (λ_=>none) v d):
    Calls P f ⟨vs⟩ W λe hX=>e = .returned (.bool true)∧Still W hX:=by
  let K:Ctx:={vl:=ub W,F:=λb=>W.heap[b]?,jO:=λ_=>none,hY:=(W.os,W.output)}
  have hs:bL P K (ub W) (λ_=>none) {env:=h3 ds [],H:=cY 0 [],aY:=([]:List (List aW)).length} (⟨vs⟩:Array Value) W:=by
    have fr:∀l e,({env:=h3 ds [],H:=cY 0 [],aY:=([]:List (List aW)).length}:aI).at l=some e→∃i d,l = .slot i∧ds[i]? = some d∧e=⟨d,none⟩:=by
      intro l e aa
      cases l with
      |cell r i=>simp [aI.at,cY,look]at aa
      |slot i=>
        simp only [aI.at,h3,ny,Cg,Option.map_eq_some_iff,look]at aa
        obtain⟨d,hd,rfl⟩:=aa
        exact⟨i,d,rfl,hd,rfl⟩
    constructor
    · intro l e aa
      obtain⟨i,d,rfl,hd,rfl⟩:=fr l e aa
      have hi:i<vs.length:=by rw [hlen];exact(List.getElem?_eq_some_iff.1 hd).1
      have av:vs[i]? = some vs[i]:=List.getElem?_eq_getElem hi
      have:ce (⟨vs⟩:Array Value) W (λ_=>none) (.slot i)=vs[i]:=by simp [ce,av]
      rw [this]
      exact ai i _ d av hd
    · intro l e T aa aC;obtain⟨i,d,rfl,hd,rfl⟩:=fr l e aa;cases aC
    · intro l cI e aZ T T' b aa aC;obtain⟨i,d,rfl,hd,rfl⟩:=fr l e aa;cases aC
    · intro l e T b r cs aa aC;obtain⟨i,d,rfl,hd,rfl⟩:=fr l e aa;cases aC
    · intro r cs ai;simp [cY,look]at ai
    · intro r cJ b cs cs' ai;simp [cY,look]at ai
    · intro r b hb;cases hb
    · intro b o v av;exact av
    · exact Mem.le_refl _
    · intro b a' hb;exact⟨hb,λ_=>rfl⟩
    · intro r b hb;cases hb
    · exact hg
    · rfl
  refine(h.2 K W vs (ub W) (λ_=>none) hlen hs (λr b hb=>by cases hb)).mono ?_
  rintro e hX ⟨o,H',v,M',β',⟨rfl,rfl⟩,he,cT⟩
  have av:v = .bool true:=by
    have Z:=cT.e5 (.slot 0) ⟨.v (.bool true),none⟩ (by simp [aI.at,ia,dy])
    have ab:ce (#[v]:Array Value) hX β' (.slot 0)=v:=by simp [ce]
    rw [ab]at Z
    cases Z with|v u x h=>cases h;rfl
  subst av
  refine⟨he,?_⟩
  have oY:(hX.os,hX.output)=(W.os,W.output):=cT.hY
  exact⟨congrArg Prod.fst oY,congrArg Prod.snd oY,λb a' hb=>(cT.frame b a' hb).1⟩
/-- A listed variable of an interface type, that reads as an interface value, holds one. -/
theorem iface_of_laid{P:Program}{W:World}{n:String}{u:String}{d:DataW Unit}{g t:Nat}{ms:Array (String×TypeId)}{rest:List (String×DataW Unit)}{ca:List MemPlace}
    (h:DataW.LaidVars P W ((n,.iface u d)::rest) ca) (hg:P.globalNamed n=some g) (hl:(P.globals[g]?).map (·.type)=some t) (aF:P.underlying t=some (.interface ms)):
    (∃cs t k1 fR,W.heap[g]? = some (.cells cs t k1)∧cs[0]? = some fR∧(fR = .nilIface∨∃co sj,fR = .iface co sj))∧∃q,DataW.LaidVars P W rest q:=by
  obtain⟨e4,bY,cs,fuel,p,q,hg',eO,l4,hd,ai,_⟩:=h
  obtain rfl:=Option.some.inj (hg.symm.trans hg')
  obtain rfl:=Option.some.inj (hl.symm.trans eO)
  refine⟨?_,q,ai⟩
  unfold World.var? at l4
  rw [hg,Option.bind_some]at l4
  cases bm:W.heap[g]? with
  |none=>rw [bm]at l4;cases l4
  |some a'=>
    rw [bm]at l4
    cases a' with
    |cells cs' bY k1=>
      simp only [Option.some.injEq]at l4
      subst l4
      cases fuel with
      |zero=>simp [DataW.trod]at hd
      |succ fuel=>
        unfold DataW.trod at hd
        rw [aF]at hd
        split at hd<;>simp_all
        rename_i e1
        rw [←Array.getElem?_toList,e1]
        exact⟨_,rfl,Or.inr ⟨_,_,rfl⟩⟩
    |_=>simp at l4
theorem laid_rest{P:Program}{W:World}{x:String×DataW Unit}{rest:List (String×DataW Unit)}{ca:List MemPlace}(h:DataW.LaidVars P W (x::rest) ca):∃q,DataW.LaidVars P W rest q:=by
  obtain⟨e4,bY,cs,fuel,p,q,hg',eO,l4,hd,ai,_⟩:=h
  exact⟨q,ai⟩
end Go.Ab

namespace Go.Proofs.YtbncfepdlmnmiaaGreatDoor
open Go.ChangeShapes Go.WideShapes Go.ChangeAt Go.RowKit
open Go.ChangeMaps (open_string shut_string)
open Go.Ab (Still tF)

theorem own:ownKnob Tryz.prog.godebug=none:=by kernel_rfl
theorem gRange : Tryz.prog.globalNamed "strconv.ErrRange" = some 5 := by kernel_rfl
theorem gSyntax : Tryz.prog.globalNamed "strconv.ErrSyntax" = some 4 := by kernel_rfl
theorem gRangeT:(Tryz.prog.globals[5]?).map (·.type)=some 108:=by kernel_rfl
theorem gSyntaxT:(Tryz.prog.globals[4]?).map (·.type)=some 108:=by kernel_rfl
def theLaid : List (String × DataW Unit) := [("math/bits.deBruijn32tab", Rows.laid_math_bits_deBruijn32tab), ("math/bits.deBruijn64tab", Rows.laid_math_bits_deBruijn64tab), ("internal/strconv.uint64pow10", Rows.laid_internal_strconv_uint64pow10), ("strconv.ErrRange", Rows.laid_strconv_ErrRange), ("strconv.ErrSyntax", Rows.laid_strconv_ErrSyntax)]
theorem tab_of_laid{P:Program}{W:World}{name:String}{k:IntKind}{zs:List Int}{rest:List (String×DataW Unit)}{ca:List MemPlace}{g:Nat}{t e:TypeId}{n:Nat}
    (hg:P.globalNamed name=some g) (hl:(P.globals[g]?).map (·.type)=some t) (aF:P.underlying t=some (.array n e)) (he:P.underlying e=some (.int k)) (No:P.cellsOf e=1) (at4:P.cellsOf t=n)
    (h:DataW.LaidVars P W ((name,Lib.tabData k zs)::rest) ca):(∃t k1,W.heap[g]? = some (.cells (zs.map λz=>Value.int k z).toArray t k1))∧∃q,DataW.LaidVars P W rest q:=by
  obtain⟨e4,bY,cs,fuel,p,q,hg',eO,l4,hd,ai,_⟩:=h
  obtain rfl:=Option.some.inj (hg.symm.trans hg')
  obtain rfl:=Option.some.inj (hl.symm.trans eO)
  have hc:=Lib.cells_of_tab aF he No at4 hd
  refine⟨?_,q,ai⟩
  have ei:cs=(zs.map λz=>Value.int k z).toArray:=by rw [←hc]
  subst ei
  unfold World.var? at l4
  rw [hg,Option.bind_some]at l4
  cases bm:W.heap[g]? with
  |none=>rw [bm]at l4;cases l4
  |some a'=>
    rw [bm]at l4
    cases a' with
    |cells cs' t2 k1=>simp only [Option.some.injEq]at l4;subst l4;exact⟨_,_,rfl⟩
    |_=>simp at l4
theorem gTabT:(Tryz.prog.globals[1]?).map (·.type)=some 427:=by kernel_rfl
theorem good_laid{W:World}(h:laidMet Tryz.prog theLaid W):tF Tryz.prog λb=>W.heap[b]? := by
  obtain⟨ca,Z,_⟩:=h
  obtain⟨aL,Z⟩:=Ab.laid_rest Z
  obtain⟨bo,Z⟩:=Ab.laid_rest Z
  obtain⟨h0,ch,Z⟩:=tab_of_laid (zs:=Lib.pow10Tab) Ab.Y.HM gTabT Tryz.underlying427 Tryz.underlying32 (by kernel_rfl) (by kernel_rfl) Z
  obtain⟨aj,dw,Z⟩:=Ab.iface_of_laid Z gRange gRangeT Tryz.underlying108
  obtain⟨ab,dZ,Z⟩:=Ab.iface_of_laid Z gSyntax gSyntaxT Tryz.underlying108
  refine⟨λg hg=>?_,λg hg=>?_⟩
  · rw [Ab.Y.Pj]at hg
    simp only [List.mem_cons,List.not_mem_nil,or_false]at hg
    rcases hg with rfl|rfl
    · exact ab
    · exact aj
  · obtain rfl:=Option.some.inj (Ab.Y.HM.symm.trans hg)
    rw [←Ab.Y.Zs];exact h0
def vals:DataW Unit→Array Value
  |.agg l=>(l.map fun |.lit (.int k n)=>Value.int k n |_=>.nilIface).toArray
  |_ => #[]
noncomputable def low:Nat:=(World.holding Tryz.prog default ⟨#[],#[],[]⟩).heap.size
/-- THE WITNESS: the settled world, the listed variables holding what their initialisers lay. -/
noncomputable def laidWorld(os:Os):World:=
  let FU:=World.holding Tryz.prog os ⟨#[.cells #[.string ⟨#[118,97,108,117,101,32,111,117,116,32,111,102,32,114,97,110,103,101]⟩] 447,.cells #[.string ⟨#[105,110,118,97,108,105,100,32,115,121,110,116,97,120]⟩] 447],#[],[]⟩
  let put (h:Array Obj) (g:Nat) (cs:Array Value):Array Obj:=h.modify g fun
    |.cells _ t frozen=>.cells cs t frozen
    |o=>o
  let Z:=put FU.heap 2 (vals Rows.laid_math_bits_deBruijn32tab)
  let ab:=put Z 3 (vals Rows.laid_math_bits_deBruijn64tab)
  let aj:=put ab 1 (vals Rows.laid_internal_strconv_uint64pow10)
  let aD:=put aj 5 #[.iface 445 (.pointer (some ⟨low,0,none⟩))]
  let aX:=put aD 4 #[.iface 445 (.pointer (some ⟨low+1,0,none⟩))]
  {FU with heap:=aX}
end Go.Proofs.YtbncfepdlmnmiaaGreatDoor

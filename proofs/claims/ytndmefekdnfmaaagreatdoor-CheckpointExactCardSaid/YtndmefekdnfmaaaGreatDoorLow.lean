/- The reach of the row, and the world it starts in. -/
import Derived.ProofKit
import Derived.Test.YtndmefekdnfmaaaGreatDoorCards
import Derived.Test.YtndmefekdnfmaaaGreatDoorTie
import Derived.Deep.DeepHandedRow
import Derived.Test.YtndmefekdnfmaaaGreatDoorHand
namespace Go.Ab
open Go.RowKit

/-- Every block that there was stands as it stood; the system and the output are as they were. -/
def Still(W a:World):Prop:=a.os=W.os/\a.output=W.output/\∀(b:Nat) (c:Obj),W.heap[b]? = some c->a.heap[b]? = some c
theorem Still.kept{W c:World}(h:Still W c)(a:MemPlace->Prop):W.keptBut c a:=by
  have e:∀i,i<W.heap.size->c.heap[i]? = W.heap[i]? := λi b=>by
    have:W.heap[i]? = some W.heap[i]:=Array.getElem?_eq_getElem b
    rw[this];exact h.2.2 i _ this
  have d:=World.keptBut_refl W a
  refine⟨h.1,h.2.1,λi b=>?_⟩
  rw[e i b]
  exact d.2.2 i b
section
variable {H:Type} {enc:TypeId×Value->H} {P:Program}
/-- What a law's claim asks behind the call: its arguments read as they read. -/
theorem post_of_still{f:Func}{s:ChangeSpec}{apart fresh handsOn:Bool}{W a:World}{args:Array Value}{v:Value}{ds d:List (DataW H)}{before pa pv:List MemPlace}
    (g:DataW.Whole enc P f.params.toList s.vars apart W args.toList ds d before)
    (j:∀(b:Nat) (sp:Nat->Bool) (hd:Bool),DataW.TrodAll enc P a b sp hd f.resultTypes.toList (v.resultList f.resultTypes.size) (s.fn H<|ds++d).results [])
    (k:∀sp:Nat->Bool,(∀p∈before,sp p.block=true)->DataW.TrodAll enc P a 0 sp true f.params.toList args.toList (s.fn H<|ds++d).args pa)
    (e:∀sp:Nat->Bool,(∀p∈before,sp p.block=true)->DataW.TrodVars enc P a sp s.vars (s.fn H<|ds++d).vars pv)
    (i:before=pa++pv) (hk:Still W a):
    s.post enc P f apart fresh handsOn false W args v a:=by
  have hold:∀p∈before,(λb=>decide<|b<W.heap.size) p.block=true:=λp c=>by simpa using g.lt p c
  refine⟨ds,d,before,[],pa,pv,g,j _ _ _,k _ hold,e _ hold,World.keptBut_mono (λp c=>⟨c,?_⟩)<|hk.kept (· ∈ before),λh=>by cases h⟩
  rw[i,List.mem_append]at c
  exact Or.inr c
end
/-- What was read before is read behind it. -/
theorem args_still{H:Type}{enc:TypeId×Value->H}{P:Program}{T:TypeId->Prop}(K:Kids P T)(q:∀t e,T t->P.underlying t=some (.slice e)->0<P.cellsOf e){W f:World}{ts:List TypeId}{vs:List Value}{ds:List (DataW H)}{ps:List MemPlace}
    (s:∀t∈ts,T t) (h:DataW.TrodAll enc P W 0 (λ_=>true) true ts vs ds ps) (k:Still W f) (sp:Nat->Bool) (i:∀p∈ps,sp p.block=true):DataW.TrodAll enc P f 0 sp true ts vs ds ps:=by
  have r:=h.lt
  have j:∀p∈ps,W.sameAt f p:=by
    intro p g
    have c:=r p g
    cases p with
    |cell b l=>
      have c:b<W.heap.size:=c
      have e:=k.2.2 b _<|Array.getElem?_eq_getElem c
      unfold World.sameAt World.cell?
      simp only[e,Array.getElem?_eq_getElem c]
    |map b=>
      have c:b<W.heap.size:=c
      exact(k.2.2 b _<|Array.getElem?_eq_getElem c).trans (Array.getElem?_eq_getElem c).symm
  have carry:∀{ts:List TypeId} {vs:List Value} {ds:List (DataW H)} {ps:List MemPlace},DataW.TrodAll enc P W 0 (λ_=>true) true ts vs ds ps->(∀p∈ps,W.sameAt f p)->DataW.TrodAll enc P f 0 (λ_=>true) true ts vs ds ps:=by
    intro ts
    induction ts with
    |nil=>intro vs ds ps h _;obtain⟨rfl,rfl,rfl⟩:=Go.ChangeShapes.trodAll_nil h;exact rfl
    |cons t ts u=>
      intro vs ds ps h i
      obtain⟨v,x,d,w,a,b,rfl,rfl,rfl,⟨n,o⟩,m⟩:=Go.ChangeShapes.trodAll_cons h
      exact⟨a,b,⟨n,DataW.trod_carry n _ _ _ o λp g=>i p<|List.mem_append_left _ g⟩,u m λp g=>i p<|List.mem_append_right _ g,rfl⟩
  exact(carry h j).respare K q s i
/-- From a contract over the machine to a call over the model. -/
theorem law_on{P:Program}{f:FuncId}{vs:List Value}{ds:List D}{W:World}(h:gn P f ds [] [] (.ret (.v<|.bool true) none) [])(B:ta P λb=>W.heap[b]?)(hlen:vs.length=ds.length)
    (m:∀(i:Nat) v d,vs[i]? = some v->ds[i]? = some d->cg (vk W) (λ_=>none) v d):
    Calls P f ⟨vs⟩ W λe j=>e = .returned (.bool true)/\Still W j:=by
  let K:Ctx:={s_:=vk W,F:=λb=>W.heap[b]?,hE:=λ_=>none,gz:=(W.os,W.output)}
  have z:bh P K (vk W) (λ_=>none) {env:=iW ds [],H:=dm 0 [],aD:=([]:List<|List aS).length} (⟨vs⟩:Array Value) W:=by
    have n:∀l e,({env:=iW ds [],H:=dm 0 [],aD:=([]:List<|List aS).length}:aA).at l=some e->∃i d,l = .slot i/\ds[i]? = some d/\e=⟨d,none⟩:=by
      intro l e a
      cases l with
      |cell r i=>simp[aA.at,dm,look]at a
      |slot i=>
        simp only[aA.at,iW,o8,F4,Option.map_eq_some_iff,look]at a
        obtain⟨d,hd,rfl⟩:=a
        exact⟨i,d,rfl,hd,rfl⟩
    constructor
    · intro l e a
      obtain⟨i,d,rfl,hd,rfl⟩:=n l e a
      have A:i<vs.length:=by rw[hlen];exact(List.getElem?_eq_some_iff.1 hd).1
      have g:vs[i]? = some vs[i]:=List.getElem?_eq_getElem A
      have:ch (⟨vs⟩:Array Value) W (λ_=>none) (.slot i)=vs[i]:=by simp[ch,g]
      rw[this]
      exact m i _ d g hd
    · intro l e T a k;obtain⟨i,d,rfl,hd,rfl⟩:=n l e a;cases k
    · intro l L e N T O b a k;obtain⟨i,d,rfl,hd,rfl⟩:=n l e a;cases k
    · intro l e T b r w a k;obtain⟨i,d,rfl,hd,rfl⟩:=n l e a;cases k
    · intro r w m;simp[dm,look]at m
    · intro r M b w J m;simp[dm,look]at m
    · intro r b c;cases c
    · intro b o v g;exact g
    · exact Mem.le_refl _
    · intro b y c;exact⟨c,λ_=>rfl⟩
    · intro r b c;cases c
    · exact B
    · rfl
  refine(h.2 K W vs (vk W) (λ_=>none) hlen z<|λr b c=>by cases c).mono ?_
  rintro e j ⟨o,R,v,Q,p,⟨rfl,rfl⟩,E,q⟩
  have g:v = .bool true:=by
    have t:=q.dp (.slot 0) ⟨.v<|.bool true,none⟩ (by simp[aA.at,je,du])
    have I:ch (#[v]:Array Value) j p (.slot 0)=v:=by simp[ch]
    rw[I]at t
    cases t with|v u x h=>cases h;rfl
  subst g
  refine⟨E,?_⟩
  have s:(j.os,j.output)=(W.os,W.output):=q.gz
  exact⟨congrArg Prod.fst s,congrArg Prod.snd s,λb y c=>(q.frame b y c).1⟩
/-- A listed variable of an interface type, that reads as an interface value, holds one. -/
theorem iface_of_laid{P:Program}{W:World}{n:String}{u:String}{d:DataW Unit}{g t:Nat}{k:Array (String×TypeId)}{rest:List (String×DataW Unit)}{ps:List MemPlace}
    (h:DataW.LaidVars P W ((n,.iface u d)::rest) ps) (hg:P.globalNamed n=some g) (ic:(P.globals[g]?).map (·.type)=some t) (w:P.underlying t=some (.interface k)):
    (∃f t i e,W.heap[g]? = some (.cells f t i)/\f[0]? = some e/\(e = .nilIface\/∃r j,e = .iface r j))/\∃q,DataW.LaidVars P W rest q:=by
  let⟨z,s,f,b,p,q,c,l,a,hd,x,_⟩:=h
  obtain rfl:=Option.some.inj<|hg.symm.trans c
  obtain rfl:=Option.some.inj<|ic.symm.trans l
  refine⟨?_,q,x⟩
  unfold World.var? at a
  rw[hg,Option.bind_some]at a
  cases bf:W.heap[g]? with
  |none=>rw[bf]at a;cases a
  |some y=>
    rw[bf]at a
    cases y with
    |cells o s i=>
      simp only[Option.some.injEq]at a
      subst a
      cases b with
      |zero=>simp[DataW.trod]at hd
      |succ b=>
        unfold DataW.trod at hd
        rw[w]at hd
        split at hd<;>simp_all
        rename_i m
        rw[<-Array.getElem?_toList,m]
        exact⟨_,rfl,Or.inr ⟨_,_,rfl⟩⟩
    |_=>simp at a
theorem laid_rest{P:Program}{W:World}{x:String×DataW Unit}{rest:List (String×DataW Unit)}{ps:List MemPlace}(h:DataW.LaidVars P W (x::rest) ps):∃q,DataW.LaidVars P W rest q:=by
  let⟨e,i,g,a,p,q,b,f,d,hd,c,_⟩:=h
  exact⟨q,c⟩
end Go.Ab

namespace Go.Proofs.YtndmefekdnfmaaaGreatDoor
open Go.ChangeShapes Go.WideShapes Go.ChangeAt Go.RowKit
open Go.ChangeMaps (open_string shut_string)
open Go.Ab (Still ta)

theorem own:ownKnob Tryz.prog.godebug=none:=by kernel_rfl
theorem gRange : Tryz.prog.globalNamed "strconv.ErrRange" = some 5 := by kernel_rfl
theorem gSyntax : Tryz.prog.globalNamed "strconv.ErrSyntax" = some 4 := by kernel_rfl
theorem gRangeT:(Tryz.prog.globals[5]?).map (·.type)=some 111:=by kernel_rfl
theorem gSyntaxT:(Tryz.prog.globals[4]?).map (·.type)=some 111:=by kernel_rfl
def theLaid : List (String × DataW Unit) := [("math/bits.deBruijn32tab", Rows.laid_math_bits_deBruijn32tab), ("math/bits.deBruijn64tab", Rows.laid_math_bits_deBruijn64tab), ("internal/strconv.uint64pow10", Rows.laid_internal_strconv_uint64pow10), ("strconv.ErrRange", Rows.laid_strconv_ErrRange), ("strconv.ErrSyntax", Rows.laid_strconv_ErrSyntax)]
theorem tab_of_laid{P:Program}{W:World}{name:String}{k:IntKind}{zs:List Int}{rest:List (String×DataW Unit)}{ps:List MemPlace}{g:Nat}{t e:TypeId}{n:Nat}
    (hg:P.globalNamed name=some g) (ic:(P.globals[g]?).map (·.type)=some t) (s:P.underlying t=some (.array n e)) (i:P.underlying e=some (.int k)) (x:P.cellsOf e=1) (c:P.cellsOf t=n)
    (h:DataW.LaidVars P W ((name,Lib.tabData k zs)::rest) ps):(∃t d,W.heap[g]? = some (.cells (zs.map λz=>Value.int k z).toArray t d))/\∃q,DataW.LaidVars P W rest q:=by
  let⟨A,B,r,f,p,q,b,l,a,hd,u,_⟩:=h
  obtain rfl:=Option.some.inj<|hg.symm.trans b
  obtain rfl:=Option.some.inj<|ic.symm.trans l
  have j:=Lib.cells_of_tab s i x c hd
  refine⟨?_,q,u⟩
  have m:r=(zs.map λz=>Value.int k z).toArray:=by rw[<-j]
  subst m
  unfold World.var? at a
  rw[hg,Option.bind_some]at a
  cases bf:W.heap[g]? with
  |none=>rw[bf]at a;cases a
  |some w=>
    rw[bf]at a
    cases w with
    |cells o y d=>simp only[Option.some.injEq]at a;subst a;exact⟨_,_,rfl⟩
    |_=>simp at a
theorem gTabT:(Tryz.prog.globals[1]?).map (·.type)=some 385:=by kernel_rfl
theorem good_laid{W:World}(h:laidMet Tryz.prog theLaid W):ta Tryz.prog λb=>W.heap[b]? := by
  let⟨i,a,_⟩:=h
  let⟨m,a⟩:=Ab.laid_rest a
  let⟨n,a⟩:=Ab.laid_rest a
  let⟨e,l,a⟩:=tab_of_laid (zs:=Lib.pow10Tab) Ab.Y.MF gTabT Tryz.underlying385 Tryz.underlying32 (by kernel_rfl) (by kernel_rfl) a
  let⟨f,k,a⟩:=Ab.iface_of_laid a gRange gRangeT Tryz.underlying111
  let⟨d,j,a⟩:=Ab.iface_of_laid a gSyntax gSyntaxT Tryz.underlying111
  refine⟨λg c=>?_,λg c=>?_⟩
  · rw[Ab.Y.UH]at c
    simp only[List.mem_cons,List.not_mem_nil,or_false]at c
    rcases c with rfl|rfl
    · exact d
    · exact f
  · obtain rfl:=Option.some.inj (Ab.Y.MF.symm.trans c)
    rw[<-Ab.Y.aft];exact e
def U8:DataW Unit->Array Value
  |.agg l=>(l.map fun |.lit (.int k n)=>Value.int k n |_=>.nilIface).toArray
  |_ => #[]
noncomputable def low:Nat:=(World.holding Tryz.prog default ⟨#[],#[],[]⟩).heap.size
/-- THE WITNESS: the settled world, the listed variables holding what their initialisers lay. -/
noncomputable def laidWorld(b:Os):World:=
  let a:=World.holding Tryz.prog b ⟨#[.cells #[.string ⟨#[118,97,108,117,101,32,111,117,116,32,111,102,32,114,97,110,103,101]⟩] 405,.cells #[.string ⟨#[105,110,118,97,108,105,100,32,115,121,110,116,97,120]⟩] 405],#[],[]⟩
  let put (h:Array Obj) (g:Nat) (cs:Array Value):Array Obj:=h.modify g fun
    |.cells _ t frozen=>.cells cs t frozen
    |o=>o
  let d:=put a.heap 2<|U8 Rows.laid_math_bits_deBruijn32tab
  let c:=put d 3<|U8 Rows.laid_math_bits_deBruijn64tab
  let f:=put c 1<|U8 Rows.laid_internal_strconv_uint64pow10
  let e:=put f 5 #[.iface 403<|.pointer<|some ⟨low,0,none⟩]
  let i:=put e 4 #[.iface 403<|.pointer<|some ⟨low+1,0,none⟩]
  {a with heap:=i}
end Go.Proofs.YtndmefekdnfmaaaGreatDoor

/- The reach of the row, and the world it starts in. -/
import Derived.ChangeSame
import Derived.OpenShut
import Derived.ProofKit
import Derived.RowKit3
import Derived.Test.YtbncfepdlmnmiaaGreatDoorCards
import Derived.Test.YtbncfepdlmnmiaaGreatDoorTie
import Derived.Deep.DeepHandedRow
import Derived.Lib.LaidTab
import Derived.Test.YtbncfepdlmnmiaaGreatDoorHand
namespace Go.Ab
open Go.RowKit

/-- Every block that there was stands as it stood; the system and the output are as they were. -/
def Still(W f9:World):Prop:=f9.os=W.os∧f9.output=W.output∧∀(b:Nat) (a6:Obj),W.heap[b]? = some a6→f9.heap[b]? = some a6
theorem Still.kept{W f9:World}(h:Still W f9)(may:MemPlace→Prop):W.keptBut f9 may:=by
  have e:∀i,i<W.heap.size→f9.heap[i]? = W.heap[i]? := λi hi=>by
    have:W.heap[i]? = some W.heap[i]:=Array.getElem?_eq_getElem hi
    rw [this];exact h.2.2 i _ this
  have ak:=World.keptBut_refl W may
  refine⟨h.1,h.2.1,λi hi=>?_⟩
  rw [e i hi]
  exact ak.2.2 i hi
section
variable {H:Type} {enc:TypeId×Value→H} {P:Program}
/-- What a law's claim asks behind the call: its arguments read as they read. -/
theorem post_of_still{f:Func}{s:ChangeSpec}{apart fresh handsOn:Bool}{W f9:World}{args:Array Value}{v:Value}{ds gs:List (DataW H)}{before pa pv:List MemPlace}
    (r1:DataW.Whole enc P f.params.toList s.vars apart W args.toList ds gs before)
    (gx:∀(b:Nat) (sp:Nat→Bool) (hd:Bool),DataW.TrodAll enc P f9 b sp hd f.resultTypes.toList (v.resultList f.resultTypes.size) (s.fn H (ds++gs)).results [])
    (fz:∀sp:Nat→Bool,(∀p∈before,sp p.block=true)→DataW.TrodAll enc P f9 0 sp true f.params.toList args.toList (s.fn H (ds++gs)).args pa)
    (ahK:∀sp:Nat→Bool,(∀p∈before,sp p.block=true)→DataW.TrodVars enc P f9 sp s.vars (s.fn H (ds++gs)).vars pv)
    (j':before=pa++pv) (hk:Still W f9):
    s.post enc P f apart fresh handsOn false W args v f9:=by
  have hold:∀p∈before,(λb=>decide (b<W.heap.size)) p.block=true:=λp hp=>by simpa using r1.lt p hp
  refine⟨ds,gs,before,[],pa,pv,r1,gx _ _ _,fz _ hold,ahK _ hold,World.keptBut_mono (λp hp=>⟨hp,?_⟩) (hk.kept (· ∈ before)),λh=>by cases h⟩
  rw [j',List.mem_append]at hp
  exact Or.inr hp
end
/-- What was read before is read behind it. -/
theorem args_still{H:Type}{enc:TypeId×Value→H}{P:Program}{T:TypeId→Prop}(K:Kids P T)(ek:∀t e,T t→P.underlying t=some (.slice e)→0<P.cellsOf e){W f9:World}{ts:List TypeId}{vs:List Value}{ds:List (DataW H)}{cx:List MemPlace}
    (aN:∀t∈ts,T t) (h:DataW.TrodAll enc P W 0 (λ_=>true) true ts vs ds cx) (hk:Still W f9) (sp:Nat→Bool) (hs:∀p∈cx,sp p.block=true):DataW.TrodAll enc P f9 0 sp true ts vs ds cx:=by
  have cV:=h.lt
  have ahL:∀p∈cx,W.sameAt f9 p:=by
    intro p hp
    have hb:=cV p hp
    cases p with
    |cell b off=>
      have hb:b<W.heap.size:=hb
      have e:=hk.2.2 b _ (Array.getElem?_eq_getElem hb)
      unfold World.sameAt World.cell?
      simp only [e,Array.getElem?_eq_getElem hb]
    |map b=>
      have hb:b<W.heap.size:=hb
      exact(hk.2.2 b _ (Array.getElem?_eq_getElem hb)).trans (Array.getElem?_eq_getElem hb).symm
  have carry:∀{ts:List TypeId} {vs:List Value} {ds:List (DataW H)} {cx:List MemPlace},DataW.TrodAll enc P W 0 (λ_=>true) true ts vs ds cx→(∀p∈cx,W.sameAt f9 p)→DataW.TrodAll enc P f9 0 (λ_=>true) true ts vs ds cx:=by
    intro ts
    induction ts with
    |nil=>intro vs ds cx h _;obtain⟨rfl,rfl,rfl⟩:=Go.ChangeShapes.trodAll_nil h;exact rfl
    |cons t ts bv=>
      intro vs ds cx h hs
      obtain⟨v,kL,d,ahM,a,b,rfl,rfl,rfl,⟨n,ab⟩,ai⟩:=Go.ChangeShapes.trodAll_cons h
      exact⟨a,b,⟨n,DataW.trod_carry n _ _ _ ab λp hp=>hs p (List.mem_append_left _ hp)⟩,bv ai λp hp=>hs p (List.mem_append_right _ hp),rfl⟩
  exact(carry h ahL).respare K ek aN hs
/-- From a contract over the machine to a call over the model. -/
theorem law_on{P:Program}{f:FuncId}{vs:List Value}{ds:List D}{W:World}(h:fS P f ds [] [] (.ret (.v (.bool true)) none) [])(hg:n9 P λb=>W.heap[b]?)(hlen:vs.length=ds.length)
    (ak:∀(i:Nat) v d,vs[i]? = some v→ds[i]? = some d→co (oz W) (λ_=>none) v d):
    Calls P f ⟨vs⟩ W λe f9=>e = .returned (.bool true)∧Still W f9:=by
  let K:Ctx:={p9:=oz W,F:=λb=>W.heap[b]?,h5:=λ_=>none,gj:=(W.os,W.output)}
  have hs:bE P K (oz W) (λ_=>none) {env:=gp ds [],H:=cQ 0 [],aU:=([]:List (List aS)).length} (⟨vs⟩:Array Value) W:=by
    have eM:∀l e,({env:=gp ds [],H:=cQ 0 [],aU:=([]:List (List aS)).length}:aF).at l=some e→∃i d,l = .slot i∧ds[i]? = some d∧e=⟨d,none⟩:=by
      intro l e ah
      cases l with
      |cell r i=>simp [aF.at,cQ,look]at ah
      |slot i=>
        simp only [aF.at,gp,kP,uB,Option.map_eq_some_iff,look]at ah
        obtain⟨d,hd,rfl⟩:=ah
        exact⟨i,d,rfl,hd,rfl⟩
    constructor
    · intro l e ah
      obtain⟨i,d,rfl,hd,rfl⟩:=eM l e ah
      have hi:i<vs.length:=by rw [hlen];exact(List.getElem?_eq_some_iff.1 hd).1
      have aA:vs[i]? = some vs[i]:=List.getElem?_eq_getElem hi
      have:b9 (⟨vs⟩:Array Value) W (λ_=>none) (.slot i)=vs[i]:=by simp [b9,aA]
      rw [this]
      exact ak i _ d aA hd
    · intro l e T ah aN;obtain⟨i,d,rfl,hd,rfl⟩:=eM l e ah;cases aN
    · intro l cz e aZ T T' b ah aN;obtain⟨i,d,rfl,hd,rfl⟩:=eM l e ah;cases aN
    · intro l e T b r cs ah aN;obtain⟨i,d,rfl,hd,rfl⟩:=eM l e ah;cases aN
    · intro r cs ak;simp [cQ,look]at ak
    · intro r cA b cs cs' ak;simp [cQ,look]at ak
    · intro r b hb;cases hb
    · intro b o v aA;exact aA
    · exact Mem.le_refl _
    · intro b a6 hb;exact⟨hb,λ_=>rfl⟩
    · intro r b hb;cases hb
    · exact hg
    · rfl
  refine(h.2 K W vs (oz W) (λ_=>none) hlen hs (λr b hb=>by cases hb)).mono ?_
  rintro e f9 ⟨o,H',v,M',β',⟨rfl,rfl⟩,he,cK⟩
  have aA:v = .bool true:=by
    have ab:=cK.ez (.slot 0) ⟨.v (.bool true),none⟩ (by simp [aF.at,gv,dn])
    have ai:b9 (#[v]:Array Value) f9 β' (.slot 0)=v:=by simp [b9]
    rw [ai]at ab
    cases ab with|v u x h=>cases h;rfl
  subst aA
  refine⟨he,?_⟩
  have lZ:(f9.os,f9.output)=(W.os,W.output):=cK.gj
  exact⟨congrArg Prod.fst lZ,congrArg Prod.snd lZ,λb a6 hb=>(cK.frame b a6 hb).1⟩
theorem law_on_text{P:Program}{f:FuncId}{s:ByteArray}{W:World}(h:fS P f [.v (.str s.data.toList)] [] [] (.ret (.v (.bool true)) none) [])(hg:n9 P λb=>W.heap[b]?):
    Calls P f #[.string s] W λe f9=>e = .returned (.bool true)∧Still W f9:=
  law_on (vs:=[.string s]) h hg rfl λi v d aA hd=>by
    match i with
    | 0=>cases aA;cases hd;exact .v _ _ (.str _)
    |i+1=>simp at aA

/-- A listed variable of an interface type, that reads as an interface value, holds one. -/
theorem iface_of_laid{P:Program}{W:World}{n:String}{u:String}{d:DataW Unit}{g t:Nat}{ms:Array (String×TypeId)}{rest:List (String×DataW Unit)}{cx:List MemPlace}
    (h:DataW.LaidVars P W ((n,.iface u d)::rest) cx) (hg:P.globalNamed n=some g) (fY:(P.globals[g]?).map (·.type)=some t) (ce:P.underlying t=some (.interface ms)):
    (∃cs t iW fc,W.heap[g]? = some (.cells cs t iW)∧cs[0]? = some fc∧(fc = .nilIface∨∃cg n_,fc = .iface cg n_))∧∃q,DataW.LaidVars P W rest q:=by
  obtain⟨eL,h4,cs,fuel,p,q,hg',l8,jI,hd,ak,_⟩:=h
  obtain rfl:=Option.some.inj (hg.symm.trans hg')
  obtain rfl:=Option.some.inj (fY.symm.trans l8)
  refine⟨?_,q,ak⟩
  unfold World.var? at jI
  rw [hg,Option.bind_some]at jI
  cases bz:W.heap[g]? with
  |none=>rw [bz]at jI;cases jI
  |some a6=>
    rw [bz]at jI
    cases a6 with
    |cells cs' h4 iW=>
      simp only [Option.some.injEq]at jI
      subst jI
      cases fuel with
      |zero=>simp [DataW.trod]at hd
      |succ fuel=>
        unfold DataW.trod at hd
        rw [ce]at hd
        split at hd<;>simp_all
        rename_i e1
        rw [←Array.getElem?_toList,e1]
        exact⟨_,rfl,Or.inr ⟨_,_,rfl⟩⟩
    |_=>simp at jI
theorem laid_rest{P:Program}{W:World}{x:String×DataW Unit}{rest:List (String×DataW Unit)}{cx:List MemPlace}(h:DataW.LaidVars P W (x::rest) cx):∃q,DataW.LaidVars P W rest q:=by
  obtain⟨eL,h4,cs,fuel,p,q,hg',l8,jI,hd,ak,_⟩:=h
  exact⟨q,ak⟩
end Go.Ab

namespace Go.Proofs.YtbncfepdlmnmiaaGreatDoor
open Go.ChangeShapes Go.WideShapes Go.ChangeAt Go.RowKit
open Go.ChangeMaps (open_string shut_string)
open Go.Ab (Still n9)

theorem own:ownKnob Tryz.prog.godebug=none:=by kernel_rfl
theorem gRange : Tryz.prog.globalNamed "strconv.ErrRange" = some 5 := by kernel_rfl
theorem gSyntax : Tryz.prog.globalNamed "strconv.ErrSyntax" = some 4 := by kernel_rfl
theorem gRangeT:(Tryz.prog.globals[5]?).map (·.type)=some 108:=by kernel_rfl
theorem gSyntaxT:(Tryz.prog.globals[4]?).map (·.type)=some 108:=by kernel_rfl
def theLaid : List (String × DataW Unit) := [("math/bits.deBruijn32tab", Rows.laid_math_bits_deBruijn32tab), ("math/bits.deBruijn64tab", Rows.laid_math_bits_deBruijn64tab), ("internal/strconv.uint64pow10", Rows.laid_internal_strconv_uint64pow10), ("strconv.ErrRange", Rows.laid_strconv_ErrRange), ("strconv.ErrSyntax", Rows.laid_strconv_ErrSyntax)]
theorem tab_of_laid{P:Program}{W:World}{name:String}{k:IntKind}{zs:List Int}{rest:List (String×DataW Unit)}{cx:List MemPlace}{g:Nat}{t e:TypeId}{n:Nat}
    (hg:P.globalNamed name=some g) (fY:(P.globals[g]?).map (·.type)=some t) (ce:P.underlying t=some (.array n e)) (he:P.underlying e=some (.int k)) (B7:P.cellsOf e=1) (ahN:P.cellsOf t=n)
    (h:DataW.LaidVars P W ((name,Lib.tabData k zs)::rest) cx):(∃t iW,W.heap[g]? = some (.cells (zs.map λz=>Value.int k z).toArray t iW))∧∃q,DataW.LaidVars P W rest q:=by
  obtain⟨eL,h4,cs,fuel,p,q,hg',l8,jI,hd,ak,_⟩:=h
  obtain rfl:=Option.some.inj (hg.symm.trans hg')
  obtain rfl:=Option.some.inj (fY.symm.trans l8)
  have hc:=Lib.cells_of_tab ce he B7 ahN hd
  refine⟨?_,q,ak⟩
  have dP:cs=(zs.map λz=>Value.int k z).toArray:=by rw [←hc]
  subst dP
  unfold World.var? at jI
  rw [hg,Option.bind_some]at jI
  cases bz:W.heap[g]? with
  |none=>rw [bz]at jI;cases jI
  |some a6=>
    rw [bz]at jI
    cases a6 with
    |cells cs' t2 iW=>simp only [Option.some.injEq]at jI;subst jI;exact⟨_,_,rfl⟩
    |_=>simp at jI
theorem gTabT:(Tryz.prog.globals[1]?).map (·.type)=some 427:=by kernel_rfl
theorem good_laid{W:World}(h:laidMet Tryz.prog theLaid W):n9 Tryz.prog λb=>W.heap[b]? := by
  obtain⟨cx,ab,_⟩:=h
  obtain⟨aG,ab⟩:=Ab.laid_rest ab
  obtain⟨bl,ab⟩:=Ab.laid_rest ab
  obtain⟨h0,ci,ab⟩:=tab_of_laid (zs:=Lib.pow10Tab) Ab.Y.y4 gTabT Tryz.underlying427 Tryz.underlying32 (by kernel_rfl) (by kernel_rfl) ab
  obtain⟨ay,dj,ab⟩:=Ab.iface_of_laid ab gRange gRangeT Tryz.underlying108
  obtain⟨ai,dB,ab⟩:=Ab.iface_of_laid ab gSyntax gSyntaxT Tryz.underlying108
  refine⟨λg hg=>?_,λg hg=>?_⟩
  · rw [Ab.Y.DY]at hg
    simp only [List.mem_cons,List.not_mem_nil,or_false]at hg
    rcases hg with rfl|rfl
    · exact ai
    · exact ay
  · obtain rfl:=Option.some.inj (Ab.Y.y4.symm.trans hg)
    rw [←Ab.Y.Nv];exact h0
def vals:DataW Unit→Array Value
  |.agg l=>(l.map fun |.lit (.int k n)=>Value.int k n |_=>.nilIface).toArray
  |_ => #[]
noncomputable def low:Nat:=(World.holding Tryz.prog default ⟨#[],#[],[]⟩).heap.size
/-- THE WITNESS: the settled world, the listed variables holding what their initialisers lay. -/
noncomputable def laidWorld(os:Os):World:=
  let xg:=World.holding Tryz.prog os ⟨#[.cells #[.string ⟨#[118,97,108,117,101,32,111,117,116,32,111,102,32,114,97,110,103,101]⟩] 447,.cells #[.string ⟨#[105,110,118,97,108,105,100,32,115,121,110,116,97,120]⟩] 447],#[],[]⟩
  let put (h:Array Obj) (g:Nat) (cs:Array Value):Array Obj:=h.modify g fun
    |.cells _ t frozen=>.cells cs t frozen
    |o=>o
  let ab:=put xg.heap 2 (vals Rows.laid_math_bits_deBruijn32tab)
  let ai:=put ab 3 (vals Rows.laid_math_bits_deBruijn64tab)
  let ay:=put ai 1 (vals Rows.laid_internal_strconv_uint64pow10)
  let bg:=put ay 5 #[.iface 445 (.pointer (some ⟨low,0,none⟩))]
  let bQ:=put bg 4 #[.iface 445 (.pointer (some ⟨low+1,0,none⟩))]
  {xg with heap:=bQ}
theorem laid_met(os:Os):laidMet Tryz.prog theLaid ((laidWorld os).forCall (λ_ _=>0) ⟨#[],#[.string ⟨#[]⟩],[]⟩).memory:=
  laidMet_of_run' 8 (by kernel_rfl) (by kernel_rfl)
theorem fnum : Tryz.prog.funcNamed "clockwork/clockworklaw49.CheckpointBegins" = some 3 := by kernel_rfl
end Go.Proofs.YtbncfepdlmnmiaaGreatDoor

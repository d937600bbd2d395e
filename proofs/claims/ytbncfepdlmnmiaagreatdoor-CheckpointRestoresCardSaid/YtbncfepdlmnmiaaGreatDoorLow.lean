/- The reach of the row, and the world it starts in. -/
import Derived.ChangeSame
import Derived.OpenShut
import Derived.ProofKit
import Derived.RowKit3
import Derived.Test.YtbncfepdlmnmiaaGreatDoorCards
import Derived.Test.YtbncfepdlmnmiaaGreatDoorTie
import Derived.Deep.DeepHandedRow
import Derived.Lib.LaidTab
import Derived.Test.YtbncfepdlmnmiaaGreatDoorHand
namespace Go.Ab
open Go.RowKit

/-- Every block that there was stands as it stood; the system and the output are as they were. -/
def Still(W i7:World):Prop:=i7.os=W.os∧i7.output=W.output∧∀(b:Nat) (bc:Obj),W.heap[b]? = some bc→i7.heap[b]? = some bc
theorem Still.kept{W i7:World}(h:Still W i7)(may:MemPlace→Prop):W.keptBut i7 may:=by
  have e:∀i,i<W.heap.size→i7.heap[i]? = W.heap[i]? := λi hi=>by
    have:W.heap[i]? = some W.heap[i]:=Array.getElem?_eq_getElem hi
    rw [this];exact h.2.2 i _ this
  have ah:=World.keptBut_refl W may
  refine⟨h.1,h.2.1,λi hi=>?_⟩
  rw [e i hi]
  exact ah.2.2 i hi
section
variable {H:Type} {enc:TypeId×Value→H} {P:Program}
/-- What a law's claim asks behind the call: its arguments read as they read. -/
theorem post_of_still{f:Func}{s:ChangeSpec}{apart fresh handsOn:Bool}{W i7:World}{args:Array Value}{v:Value}{ds gs:List (DataW H)}{before pa pv:List MemPlace}
    (yk:DataW.Whole enc P f.params.toList s.vars apart W args.toList ds gs before)
    (il:∀(b:Nat) (sp:Nat→Bool) (hd:Bool),DataW.TrodAll enc P i7 b sp hd f.resultTypes.toList (v.resultList f.resultTypes.size) (s.fn H (ds++gs)).results [])
    (fc:∀sp:Nat→Bool,(∀p∈before,sp p.block=true)→DataW.TrodAll enc P i7 0 sp true f.params.toList args.toList (s.fn H (ds++gs)).args pa)
    (asI:∀sp:Nat→Bool,(∀p∈before,sp p.block=true)→DataW.TrodVars enc P i7 sp s.vars (s.fn H (ds++gs)).vars pv)
    (mz:before=pa++pv) (hk:Still W i7):
    s.post enc P f apart fresh handsOn false W args v i7:=by
  have hold:∀p∈before,(λb=>decide (b<W.heap.size)) p.block=true:=λp hp=>by simpa using yk.lt p hp
  refine⟨ds,gs,before,[],pa,pv,yk,il _ _ _,fc _ hold,asI _ hold,World.keptBut_mono (λp hp=>⟨hp,?_⟩) (hk.kept (· ∈ before)),λh=>by cases h⟩
  rw [mz,List.mem_append]at hp
  exact Or.inr hp
end
/-- From a contract over the machine to a call over the model. -/
theorem law_on{P:Program}{f:FuncId}{vs:List Value}{ds:List D}{W:World}(h:gj P f ds [] [] (.ret (.v (.bool true)) none) [])(hg:sm P λb=>W.heap[b]?)(hlen:vs.length=ds.length)
    (ah:∀(i:Nat) v d,vs[i]? = some v→ds[i]? = some d→cE (wz W) (λ_=>none) v d):
    Calls P f ⟨vs⟩ W λe i7=>e = .returned (.bool true)∧Still W i7:=by
  let K:Ctx:={vr:=wz W,F:=λb=>W.heap[b]?,j':=λ_=>none,h1:=(W.os,W.output)}
  have hs:bR P K (wz W) (λ_=>none) {env:=h5 ds [],H:=da 0 [],a1:=([]:List (List aZ)).length} (⟨vs⟩:Array Value) W:=by
    have fr:∀l e,({env:=h5 ds [],H:=da 0 [],a1:=([]:List (List aZ)).length}:aK).at l=some e→∃i d,l = .slot i∧ds[i]? = some d∧e=⟨d,none⟩:=by
      intro l e ae
      cases l with
      |cell r i=>simp [aK.at,da,look]at ae
      |slot i=>
        simp only [aK.at,h5,nv,Cp,Option.map_eq_some_iff,look]at ae
        obtain⟨d,hd,rfl⟩:=ae
        exact⟨i,d,rfl,hd,rfl⟩
    constructor
    · intro l e ae
      obtain⟨i,d,rfl,hd,rfl⟩:=fr l e ae
      have hi:i<vs.length:=by rw [hlen];exact(List.getElem?_eq_some_iff.1 hd).1
      have ao:vs[i]? = some vs[i]:=List.getElem?_eq_getElem hi
      have:cn (⟨vs⟩:Array Value) W (λ_=>none) (.slot i)=vs[i]:=by simp [cn,ao]
      rw [this]
      exact ah i _ d ao hd
    · intro l e T ae aT;obtain⟨i,d,rfl,hd,rfl⟩:=fr l e ae;cases aT
    · intro l cR e a7 T T' b ae aT;obtain⟨i,d,rfl,hd,rfl⟩:=fr l e ae;cases aT
    · intro l e T b r cs ae aT;obtain⟨i,d,rfl,hd,rfl⟩:=fr l e ae;cases aT
    · intro r cs ah;simp [da,look]at ah
    · intro r cT b cs cs' ah;simp [da,look]at ah
    · intro r b hb;cases hb
    · intro b o v ao;exact ao
    · exact Mem.le_refl _
    · intro b bc hb;exact⟨hb,λ_=>rfl⟩
    · intro r b hb;cases hb
    · exact hg
    · rfl
  refine(h.2 K W vs (wz W) (λ_=>none) hlen hs (λr b hb=>by cases hb)).mono ?_
  rintro e i7 ⟨o,H',v,M',β',⟨rfl,rfl⟩,he,c'⟩
  have ao:v = .bool true:=by
    have Z:=c'.fb (.slot 0) ⟨.v (.bool true),none⟩ (by simp [aK.at,ij,dN])
    have ad:cn (#[v]:Array Value) i7 β' (.slot 0)=v:=by simp [cn]
    rw [ad]at Z
    cases Z with|v u x h=>cases h;rfl
  subst ao
  refine⟨he,?_⟩
  have o7:(i7.os,i7.output)=(W.os,W.output):=c'.h1
  exact⟨congrArg Prod.fst o7,congrArg Prod.snd o7,λb bc hb=>(c'.frame b bc hb).1⟩
theorem law_on_text{P:Program}{f:FuncId}{s:ByteArray}{W:World}(h:gj P f [.v (.str s.data.toList)] [] [] (.ret (.v (.bool true)) none) [])(hg:sm P λb=>W.heap[b]?):
    Calls P f #[.string s] W λe i7=>e = .returned (.bool true)∧Still W i7:=
  law_on (vs:=[.string s]) h hg rfl λi v d ao hd=>by
    match i with
    | 0=>cases ao;cases hd;exact .v _ _ (.str _)
    |i+1=>simp at ao

/-- A listed variable of an interface type, that reads as an interface value, holds one. -/
theorem iface_of_laid{P:Program}{W:World}{n:String}{u:String}{d:DataW Unit}{g t:Nat}{ms:Array (String×TypeId)}{rest:List (String×DataW Unit)}{cS:List MemPlace}
    (h:DataW.LaidVars P W ((n,.iface u d)::rest) cS) (hg:P.globalNamed n=some g) (ht:(P.globals[g]?).map (·.type)=some t) (ax:P.underlying t=some (.interface ms)):
    (∃cs t lf fU,W.heap[g]? = some (.cells cs t lf)∧cs[0]? = some fU∧(fU = .nilIface∨∃cA sn,fU = .iface cA sn))∧∃q,DataW.LaidVars P W rest q:=by
  obtain⟨fa,bp,cs,fuel,p,q,hg',dm,l7,hd,ah,_⟩:=h
  obtain rfl:=Option.some.inj (hg.symm.trans hg')
  obtain rfl:=Option.some.inj (ht.symm.trans dm)
  refine⟨?_,q,ah⟩
  unfold World.var? at l7
  rw [hg,Option.bind_some]at l7
  cases bB:W.heap[g]? with
  |none=>rw [bB]at l7;cases l7
  |some bc=>
    rw [bB]at l7
    cases bc with
    |cells cs' bp lf=>
      simp only [Option.some.injEq]at l7
      subst l7
      cases fuel with
      |zero=>simp [DataW.trod]at hd
      |succ fuel=>
        unfold DataW.trod at hd
        rw [ax]at hd
        split at hd<;>simp_all
        rename_i e1
        rw [←Array.getElem?_toList,e1]
        exact⟨_,rfl,Or.inr ⟨_,_,rfl⟩⟩
    |_=>simp at l7
theorem laid_rest{P:Program}{W:World}{x:String×DataW Unit}{rest:List (String×DataW Unit)}{cS:List MemPlace}(h:DataW.LaidVars P W (x::rest) cS):∃q,DataW.LaidVars P W rest q:=by
  obtain⟨fa,bp,cs,fuel,p,q,hg',dm,l7,hd,ah,_⟩:=h
  exact⟨q,ah⟩
end Go.Ab

namespace Go.Proofs.YtbncfepdlmnmiaaGreatDoor
open Go.ChangeShapes Go.WideShapes Go.ChangeAt Go.RowKit
open Go.ChangeMaps (open_string shut_string)
open Go.Ab (Still sm)

theorem own:ownKnob Tryz.prog.godebug=none:=by kernel_rfl
theorem gRange : Tryz.prog.globalNamed "strconv.ErrRange" = some 5 := by kernel_rfl
theorem gSyntax : Tryz.prog.globalNamed "strconv.ErrSyntax" = some 4 := by kernel_rfl
theorem gRangeT:(Tryz.prog.globals[5]?).map (·.type)=some 108:=by kernel_rfl
theorem gSyntaxT:(Tryz.prog.globals[4]?).map (·.type)=some 108:=by kernel_rfl
def theLaid : List (String × DataW Unit) := [("math/bits.deBruijn32tab", Rows.laid_math_bits_deBruijn32tab), ("math/bits.deBruijn64tab", Rows.laid_math_bits_deBruijn64tab), ("internal/strconv.uint64pow10", Rows.laid_internal_strconv_uint64pow10), ("strconv.ErrRange", Rows.laid_strconv_ErrRange), ("strconv.ErrSyntax", Rows.laid_strconv_ErrSyntax)]
theorem tab_of_laid{P:Program}{W:World}{name:String}{k:IntKind}{zs:List Int}{rest:List (String×DataW Unit)}{cS:List MemPlace}{g:Nat}{t e:TypeId}{n:Nat}
    (hg:P.globalNamed name=some g) (ht:(P.globals[g]?).map (·.type)=some t) (ax:P.underlying t=some (.array n e)) (he:P.underlying e=some (.int k)) (NM:P.cellsOf e=1) (asJ:P.cellsOf t=n)
    (h:DataW.LaidVars P W ((name,Lib.tabData k zs)::rest) cS):(∃t lf,W.heap[g]? = some (.cells (zs.map λz=>Value.int k z).toArray t lf))∧∃q,DataW.LaidVars P W rest q:=by
  obtain⟨fa,bp,cs,fuel,p,q,hg',dm,l7,hd,ah,_⟩:=h
  obtain rfl:=Option.some.inj (hg.symm.trans hg')
  obtain rfl:=Option.some.inj (ht.symm.trans dm)
  have hc:=Lib.cells_of_tab ax he NM asJ hd
  refine⟨?_,q,ah⟩
  have ev:cs=(zs.map λz=>Value.int k z).toArray:=by rw [←hc]
  subst ev
  unfold World.var? at l7
  rw [hg,Option.bind_some]at l7
  cases bB:W.heap[g]? with
  |none=>rw [bB]at l7;cases l7
  |some bc=>
    rw [bB]at l7
    cases bc with
    |cells cs' t2 lf=>simp only [Option.some.injEq]at l7;subst l7;exact⟨_,_,rfl⟩
    |_=>simp at l7
theorem gTabT:(Tryz.prog.globals[1]?).map (·.type)=some 427:=by kernel_rfl
theorem good_laid{W:World}(h:laidMet Tryz.prog theLaid W):sm Tryz.prog λb=>W.heap[b]? := by
  obtain⟨cS,Z,_⟩:=h
  obtain⟨bD,Z⟩:=Ab.laid_rest Z
  obtain⟨bJ,Z⟩:=Ab.laid_rest Z
  obtain⟨h0,dX,Z⟩:=tab_of_laid (zs:=Lib.pow10Tab) Ab.Y.If gTabT Tryz.underlying427 Tryz.underlying32 (by kernel_rfl) (by kernel_rfl) Z
  obtain⟨am,eO,Z⟩:=Ab.iface_of_laid Z gRange gRangeT Tryz.underlying108
  obtain⟨ad,ez,Z⟩:=Ab.iface_of_laid Z gSyntax gSyntaxT Tryz.underlying108
  refine⟨λg hg=>?_,λg hg=>?_⟩
  · rw [Ab.Y.PD]at hg
    simp only [List.mem_cons,List.not_mem_nil,or_false]at hg
    rcases hg with rfl|rfl
    · exact ad
    · exact am
  · obtain rfl:=Option.some.inj (Ab.Y.If.symm.trans hg)
    rw [←Ab.Y.Zp];exact h0
def vals:DataW Unit→Array Value
  |.agg l=>(l.map fun |.lit (.int k n)=>Value.int k n |_=>.nilIface).toArray
  |_ => #[]
noncomputable def low:Nat:=(World.holding Tryz.prog default ⟨#[],#[],[]⟩).heap.size
/-- THE WITNESS: the settled world, the listed variables holding what their initialisers lay. -/
noncomputable def laidWorld(os:Os):World:=
  let VP:=World.holding Tryz.prog os ⟨#[.cells #[.string ⟨#[118,97,108,117,101,32,111,117,116,32,111,102,32,114,97,110,103,101]⟩] 447,.cells #[.string ⟨#[105,110,118,97,108,105,100,32,115,121,110,116,97,120]⟩] 447],#[],[]⟩
  let put (h:Array Obj) (g:Nat) (cs:Array Value):Array Obj:=h.modify g fun
    |.cells _ t frozen=>.cells cs t frozen
    |o=>o
  let Z:=put VP.heap 2 (vals Rows.laid_math_bits_deBruijn32tab)
  let ad:=put Z 3 (vals Rows.laid_math_bits_deBruijn64tab)
  let am:=put ad 1 (vals Rows.laid_internal_strconv_uint64pow10)
  let aR:=put am 5 #[.iface 445 (.pointer (some ⟨low,0,none⟩))]
  let bv:=put aR 4 #[.iface 445 (.pointer (some ⟨low+1,0,none⟩))]
  {VP with heap:=bv}
theorem laid_met(os:Os):laidMet Tryz.prog theLaid ((laidWorld os).forCall (λ_ _=>0) ⟨#[],#[.string ⟨#[]⟩],[]⟩).memory:=
  laidMet_of_run' 8 (by kernel_rfl) (by kernel_rfl)
end Go.Proofs.YtbncfepdlmnmiaaGreatDoor

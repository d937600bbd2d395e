/- For every store, position and list of sizes, CheckpointSizes returns true and its arguments read as they did; the listed variables hold what the program lays into them. -/
import Derived.Test.YtbncfepdlmnmiaaGreatDoorPlainA
import Derived.Test.YtbncfepdlmnmiaaGreatDoorLow
import Derived.Test.YtbncfepdlmnmiaaGreatDoorFactA
import Derived.Test.YtbncfepdlmnmiaaGreatDoorFactB
import Derived.Test.YtbncfepdlmnmiaaGreatDoorFactC
import Derived.Test.YtbncfepdlmnmiaaGreatDoorFactD
import Derived.Test.YtbncfepdlmnmiaaGreatDoorFactE
namespace Go.Proofs.YtbncfepdlmnmiaaGreatDoor.CheckpointSizes
open Go.ChangeShapes Go.WideShapes Go.ChangeAt Go.RowKit
open Go.ChangeMaps (open_string shut_string)
open Go.Ab (Still ot)

theorem law(bI:Ab.Y.ar)(hI:Ab.Y.wY bI)(c0:List Value)(e1:Int)(v1:Value)(e2:List Int)(v2:Value)(W:World)(eZ:Ab.ic W c0 (Ab.Y.LE bI).cells)(af:Ab.cT (Ab.nY W) v1 (.int .i64 e1))(aq:Ab.cT (Ab.nY W) v2 (Ab.ad 1 Ab.Y.ra e2))(kV:laidMet Tryz.prog theLaid W):Calls Tryz.prog 7 #[.agg ⟨c0⟩,v1,v2] W λe ga=>e = .returned (.bool true)∧Still W ga:=
  Ab.law_on (vs:=[.agg ⟨c0⟩,v1,v2]) (Ab.Y.acF.of (Ab.Y.afl bI e1 e2 hI)) (good_laid kV) rfl λi v d az hd=>by
    match i with
    | 0=>cases az;cases hd;exact .v _ _ (Ab.ic.agg eZ)
    | 1=>cases az;cases hd;exact .v _ _ af
    | 2=>cases az;cases hd;exact .v _ _ aq
    |i+3=>simp at az
theorem kids:Kids Tryz.prog (· < Tryz.prog.types.size):=kids_rows (by kernel_rfl) (by kernel_rfl)
theorem full:∀t e,t<Tryz.prog.types.size→Tryz.prog.underlying t=some (.slice e)→0<Tryz.prog.cellsOf e:=slices_full_of Tryz.prog (by kernel_rfl)
set_option maxRecDepth 100000 in
theorem contract(H:Type)(enc:TypeId×Value→H)(W:World)(base:Nat)(args:Array Value)(ds gs:List (DataW H))(before:List MemPlace)
    (bY:∀(j:Nat) t v,Tryz.f7.params[j]? = some t→args[j]? = some v→Value.okWide Tryz.prog W .any base t v)
    (kn:DataW.Whole enc Tryz.prog Tryz.f7.params.toList Rows.checkpointSizesSpec.vars false W args.toList ds gs before) (kV:laidMetH Tryz.prog Rows.checkpointSizesRow.laid W):
    Calls Tryz.prog 7 args W λe ga=>∃v,e = .returned v∧Rows.checkpointSizesSpec.post enc Tryz.prog Tryz.f7 false true false false W args v ga:=by
  have Vh:=kn
  obtain⟨p,q,Vi,afq,rfl,hfz,Ki⟩:=kn
  have iT:DataW.TrodAll enc Tryz.prog W 0 (λ_=>true) true Tryz.f7.params.toList args.toList ds p:=Vi
  rw [Tryz.params7]at iT bY
  obtain⟨v0,ag7,d0,ag8,afr,X2,g0,rfl,rfl,h0,wM⟩:=trodAll_cons iT
  obtain⟨v1,kN,d1,afo,e',aH,g1,rfl,rfl,ab,afs⟩:=trodAll_cons wM
  obtain⟨v2,JC,d2,ag9,dY,bi,g2,rfl,rfl,ah,Lv⟩:=trodAll_cons afs
  obtain⟨rfl,rfl,rfl⟩:=trodAll_nil Lv
  obtain rfl:args = #[v0,v1,v2]:=by cases args;simp_all
  obtain⟨rfl,rfl⟩:=trodVars_none afq
  have oA:∃cs:Array Value,v0 = .agg cs:=by
    have h:=bY 0 24 v0 rfl rfl
    unfold Value.okWide at h
    rw [Tryz.underlying24]at h
    obtain⟨cs,h,_⟩:=h
    exact⟨cs,h⟩
  obtain⟨⟨c0⟩,rfl⟩:=oA
  obtain⟨aft,uC⟩:=h0
  obtain⟨bI,hI,eZ⟩:=Ab.Y.aey aft c0 _ uC
  obtain⟨iI,rfl⟩:=okWide_int Tryz.underlying2 (bY 1 2 _ rfl rfl)
  obtain⟨ag',pj⟩:=ab
  obtain⟨e1,ed,af⟩:=Ab.q_ (k:=.i64) Tryz.underlying2 pj
  obtain⟨ag_,z2,uO,rfl⟩:=okWide_slice Tryz.underlying57 (bY 2 57 _ rfl rfl)
  obtain⟨aha,qr⟩:=ah
  obtain⟨e2,ao,_,aq⟩:=Ab.CE (encA:=Ab.Y.ra) (k:=1) (ok:=λ_=>True) Tryz.underlying57 (by kernel_rfl) (by omega) qr (λm cs x _ hx=>by obtain⟨a,_,r⟩:=Ab.q_ (k:=.i64) Tryz.underlying3 hx;exact⟨a,trivial,r⟩)
  clear Vi
  simp only [List.append_nil]at Vh
  refine(law bI hI c0 e1 _ e2 _ W eZ (af.2.2 0 _ _ rfl rfl) (aq.2.2 0 _ _ rfl rfl) kV).mono λe ga ⟨he,hg⟩=>?_
  subst he
  refine⟨_,rfl,Ab.post_of_still (pa:=afr++(e'++dY)) (pv:=[]) Vh (λ_ _ _=>trodAll_cons_mk (shut_bool Tryz.underlying4 _) trodAll_mk0) (λsp hs=>?_) (λ_ _=>rfl) (by simp) hg⟩
  have h:=Ab.args_still kids full (ts:=[24,2,57]) (by decide +kernel) iT hg sp (by simpa using hs)
  simp only [List.append_nil]at h
  rw [Tryz.params7]
  exact h
def theArg0:Value:=.agg ⟨[.int .i64 0,.int .i64 0,.slice none 0 0]⟩
def theArg1:Value:=.int .i64 0
def theArg2:Value:=.slice none 0 0
theorem laid_met8(os:Os):laidMet Tryz.prog theLaid ((laidWorld os).forCall (λ_ _=>0) ⟨#[],#[theArg0,theArg1,theArg2],[]⟩).memory:=
  laidMet_of_run' 8 (by kernel_rfl) (by kernel_rfl)
theorem reads(os:Os){H:Type}(enc:TypeId×Value→H):∃ds places,DataW.whole enc Tryz.prog ((laidWorld os).forCall (λ_ _=>0) ⟨#[],#[theArg0,theArg1,theArg2],[]⟩).memory Tryz.f7.params.toList Rows.checkpointSizesSpec.vars false #[theArg0,theArg1,theArg2].toList 8=some (ds,[],places):=
  ⟨[.agg [.lit (.int .i64 0),.lit (.int .i64 0),.nil],.lit (.int .i64 0),.nil],[],by kernel_rfl⟩
set_option maxRecDepth 100000 in
theorem lifted(os:Os)(started:os.Started)(H:Type)(enc:TypeId×Value→H)(F:Stop.Interp):
    ReturnsInHanded {} Tryz.checked os 7 .any ((OpenSpec.ofChange Rows.checkpointSizesSpec).preRow enc Tryz.prog Tryz.f7 Rows.checkpointSizesRow.domain false Rows.checkpointSizesRow.laid) (((OpenSpec.ofChange Rows.checkpointSizesSpec).at F).post enc Tryz.prog Tryz.f7 false true false false):=by
  obtain⟨ds,places,hx⟩:=reads os enc
  refine returnsInHanded_of_row (C:=Tryz.checked) (s:=OpenSpec.ofChange Rows.checkpointSizesSpec) own started (by kernel_rfl) Tryz.func7
    (witness_row_at (enc:=enc) (C:=Tryz.checked) false (laidWorld os) #[theArg0,theArg1,theArg2] rfl (by kernel_rfl) (by kernel_rfl) (by kernel_rfl)
      (OpenSpec.preRow_of_cond 8 hx (by kernel_rfl) (λk hk=>by cases hk) (by kernel_rfl) (laid_met8 os))) ?_
  intro W base args ds gs before bY kn _ _ _ kV _ _
  exact contract H enc W base args ds gs before bY kn kV
theorem bt{a b:Bool}(h:a=true)(k:b=true):(a&&b)=true:=by rw [h,k];rfl
set_option maxRecDepth 100000 in
theorem closed:joinedFacts Tryz.pinned.checked.prog 7 Tryz.f7 (OpenSpec.ofChange Rows.checkpointSizesSpec).bare Rows.checkpointSizesRow=true:=bt (bt (bt (bt (bt (bt (bt (bt (bt (bt (bt (bt (bt (bt (bt (bt (bt (bt (bt (bt (bt (bt (bt (bt (bt (bt (bt (bt (bt (bt (bt j0 j1) j2) j3) j4) j5) j6) j7) j8) j9) j10) j11) j12) j13) j14) j15) j16) j17) j18) j19) j20) j21) j22) j23) j24) j25) j26) j27) j28) j29) j30) j31
theorem said:Rows.CheckpointSizesSaid:=
  OpenClaim.holds_of_cond 7 Tryz.f7 rfl rfl rfl rfl rfl rfl rfl ⟨rfl,rfl,rfl,rfl,rfl⟩ rfl rfl rfl rfl rfl (by kernel_rfl) Tryz.func7 closed
    (of_decide_eq_true (by kernel_rfl)) (by unfold Func.isWrapper;first|(rw [if_pos (by decide +kernel)];kernel_rfl)|(rw [if_neg (by decide +kernel)];exact⟨rfl,rfl⟩))
    (λos started H enc _ F=>by rw [OpenClaim.pre_eq_preRow];exact lifted os started H enc F)
theorem plain (f : FuncId) (fn : Func) (b2 : Tryz.pinned.checked.prog.funcNamed "clockwork/clockworklaw49.CheckpointSizes" = some f) (afu : Tryz.pinned.checked.prog.funcs[f]? = some fn) :
    true=Tryz.pinned.checked.prog.looks []∧∀(j:Nat) t,fn.params[j]? = some t→Tryz.pinned.checked.prog.wantsStandIn t=false:=by
  obtain rfl : f = 7 := Option.some.inj ((show Tryz.prog.funcNamed "clockwork/clockworklaw49.CheckpointSizes" = some 7 by kernel_rfl).symm.trans b2) |>.symm
  obtain rfl:fn=Tryz.f7:=(Option.some.inj (Tryz.func7.symm.trans afu)).symm
  refine⟨j33,λj t cc=>?_⟩
  rw [Tryz.params7]at cc
  have cc:t∈[24,2,57]:=by simpa using Array.mem_of_getElem? cc
  simp only [List.mem_cons,List.not_mem_nil,or_false]at cc
  rcases cc with rfl|rfl|rfl
  · exact(show Tryz.prog.wantsStandIn 24=false by kernel_rfl)
  · exact(show Tryz.prog.wantsStandIn 2=false by kernel_rfl)
  · exact(show Tryz.prog.wantsStandIn 57=false by kernel_rfl)
theorem card:Rows.CheckpointSizesCardSaid:=
  Claim7.holds_tied_plain_at .later [] _ _ _ _ said (λ_ h=>by cases h) (by kernel_rfl) (λ_ h=>by cases h) checkpointSizes_row_tie rfl ⟨rfl,rfl⟩ (by kernel_rfl) rfl plain j32
end Go.Proofs.YtbncfepdlmnmiaaGreatDoor.CheckpointSizes

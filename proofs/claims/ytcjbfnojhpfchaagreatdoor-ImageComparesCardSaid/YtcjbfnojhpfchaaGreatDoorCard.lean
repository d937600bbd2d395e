/- For every replica, ImageCompares returns true and its arguments read as they did; the listed variables hold what the program lays into them. -/
import Derived.Test.YtcjbfnojhpfchaaGreatDoorPlainD
import Derived.Test.YtcjbfnojhpfchaaGreatDoorLow
import Derived.Test.YtcjbfnojhpfchaaGreatDoorFactA
import Derived.Test.YtcjbfnojhpfchaaGreatDoorFactB
import Derived.Test.YtcjbfnojhpfchaaGreatDoorFactC
import Derived.Test.YtcjbfnojhpfchaaGreatDoorFactD
import Derived.Test.YtcjbfnojhpfchaaGreatDoorFactE
namespace Go.Proofs.YtcjbfnojhpfchaaGreatDoor.ImageCompares
open Go.ChangeShapes Go.WideShapes Go.ChangeAt Go.RowKit
open Go.ChangeMaps (open_string shut_string)
open Go.Ab (Still sq)

theorem law(b4:Ab.Y.bU)(fo:Ab.Y.n_ b4)(c0:List Value)(e1:Ab.Y.bU)(cC:Ab.Y.n_ e1)(c1:List Value)(W:World)(dF:Ab.f0 W c0 (Ab.Y.Pi b4).cells)(r1:Ab.f0 W c1 (Ab.Y.Pi e1).cells)(c8:laidMet Tryz.prog theLaid W):Calls Tryz.prog 5 #[.agg ⟨c0⟩,.agg ⟨c1⟩] W λe hC=>e = .returned (.bool true)∧Still W hC:=
  Ab.law_on (vs:=[.agg ⟨c0⟩,.agg ⟨c1⟩]) (Ab.Y.aln.of (Ab.Y.asx b4 e1 fo cC)) (good_laid c8) rfl λi v d av hd=>by
    match i with
    | 0=>cases av;cases hd;exact .v _ _ (Ab.f0.agg dF)
    | 1=>cases av;cases hd;exact .v _ _ (Ab.f0.agg r1)
    |i+2=>simp at av
theorem kids:Kids Tryz.prog (· < Tryz.prog.types.size):=kids_rows (by kernel_rfl) (by kernel_rfl)
theorem full:∀t e,t<Tryz.prog.types.size→Tryz.prog.underlying t=some (.slice e)→0<Tryz.prog.cellsOf e:=slices_full_of Tryz.prog (by kernel_rfl)
set_option maxRecDepth 100000 in
theorem contract(H:Type)(enc:TypeId×Value→H)(W:World)(base:Nat)(args:Array Value)(ds gs:List (DataW H))(before:List MemPlace)
    (cj:∀(j:Nat) t v,Tryz.f5.params[j]? = some t→args[j]? = some v→Value.okWide Tryz.prog W .any base t v)
    (yh:DataW.Whole enc Tryz.prog Tryz.f5.params.toList Rows.imageComparesSpec.vars false W args.toList ds gs before) (c8:laidMetH Tryz.prog Rows.imageComparesRow.laid W):
    Calls Tryz.prog 5 args W λe hC=>∃v,e = .returned v∧Rows.imageComparesSpec.post enc Tryz.prog Tryz.f5 false true false false W args v hC:=by
  have aes:=yh
  obtain⟨p,q,aet,asC,rfl,hfz,WS⟩:=yh
  have aO:DataW.TrodAll enc Tryz.prog W 0 (λ_=>true) true Tryz.f5.params.toList args.toList ds p:=aet
  rw [Tryz.params5]at aO cj
  obtain⟨v0,aue,d0,auf,asD,agY,g0,rfl,rfl,h0,Gi⟩:=trodAll_cons aO
  obtain⟨v1,kx,d1,asA,fy,aN,g1,rfl,rfl,Z,asE⟩:=trodAll_cons Gi
  obtain⟨rfl,rfl,rfl⟩:=trodAll_nil asE
  obtain rfl:args = #[v0,v1]:=by cases args;simp_all
  obtain⟨rfl,rfl⟩:=trodVars_none asC
  have sB:∃cs:Array Value,v0 = .agg cs:=by
    have h:=cj 0 34 v0 rfl rfl
    unfold Value.okWide at h
    rw [Tryz.underlying34]at h
    obtain⟨cs,h,_⟩:=h
    exact⟨cs,h⟩
  obtain⟨⟨c0⟩,rfl⟩:=sB
  obtain⟨asF,CO⟩:=h0
  obtain⟨b4,fo,dF⟩:=Ab.Y.aec asF c0 _ CO
  have q7:∃cs:Array Value,v1 = .agg cs:=by
    have h:=cj 1 34 v1 rfl rfl
    unfold Value.okWide at h
    rw [Tryz.underlying34]at h
    obtain⟨cs,h,_⟩:=h
    exact⟨cs,h⟩
  obtain⟨⟨c1⟩,rfl⟩:=q7
  obtain⟨asG,tX⟩:=Z
  obtain⟨e1,cC,r1⟩:=Ab.Y.aec asG c1 _ tX
  clear aet
  simp only [List.append_nil]at aes
  refine(law b4 fo c0 e1 cC c1 W dF r1 c8).mono λe hC ⟨he,hg⟩=>?_
  subst he
  refine⟨_,rfl,Ab.post_of_still (pa:=asD++fy) (pv:=[]) aes (λ_ _ _=>trodAll_cons_mk (shut_bool Tryz.underlying4 _) trodAll_mk0) (λsp hs=>?_) (λ_ _=>rfl) (by simp) hg⟩
  have h:=Ab.args_still kids full (ts:=[34,34]) (by decide +kernel) aO hg sp (by simpa using hs)
  simp only [List.append_nil]at h
  rw [Tryz.params5]
  exact h
def theArg:Value:=.agg ⟨[.int .i64 0,.int .i64 0,.int .i64 0,.slice none 0 0,.slice none 0 0,.slice none 0 0,.int .i64 0,.slice none 0 0,.slice none 0 0,.slice none 0 0,.int .u64 0]⟩
theorem laid_met8(os:Os):laidMet Tryz.prog theLaid ((laidWorld os).forCall (λ_ _=>0) ⟨#[],#[theArg,theArg],[]⟩).memory:=
  laidMet_of_run' 8 (by kernel_rfl) (by kernel_rfl)
theorem reads(os:Os){H:Type}(enc:TypeId×Value→H):∃ds places,DataW.whole enc Tryz.prog ((laidWorld os).forCall (λ_ _=>0) ⟨#[],#[theArg,theArg],[]⟩).memory Tryz.f5.params.toList Rows.imageComparesSpec.vars false #[theArg,theArg].toList 8=some (ds,[],places):=
  ⟨[.agg [.lit (.int .i64 0),.agg [.lit (.int .i64 0),.lit (.int .i64 0),.nil],.nil,.nil,.agg [.lit (.int .i64 0),.nil],.nil,.nil,.lit (.int .u64 0)],.agg [.lit (.int .i64 0),.agg [.lit (.int .i64 0),.lit (.int .i64 0),.nil],.nil,.nil,.agg [.lit (.int .i64 0),.nil],.nil,.nil,.lit (.int .u64 0)]],[],by kernel_rfl⟩
set_option maxRecDepth 100000 in
theorem lifted(os:Os)(started:os.Started)(H:Type)(enc:TypeId×Value→H)(F:Stop.Interp):
    ReturnsInHanded {} Tryz.checked os 5 .any ((OpenSpec.ofChange Rows.imageComparesSpec).preRow enc Tryz.prog Tryz.f5 Rows.imageComparesRow.domain false Rows.imageComparesRow.laid) (((OpenSpec.ofChange Rows.imageComparesSpec).at F).post enc Tryz.prog Tryz.f5 false true false false):=by
  obtain⟨ds,places,hx⟩:=reads os enc
  refine returnsInHanded_of_row (C:=Tryz.checked) (s:=OpenSpec.ofChange Rows.imageComparesSpec) own started (by kernel_rfl) Tryz.func5
    (witness_row_at (enc:=enc) (C:=Tryz.checked) false (laidWorld os) #[theArg,theArg] rfl (by kernel_rfl) (by kernel_rfl) (by kernel_rfl)
      (OpenSpec.preRow_of_cond 8 hx (by kernel_rfl) (λk hk=>by cases hk) (by kernel_rfl) (laid_met8 os))) ?_
  intro W base args ds gs before cj yh _ _ _ c8 _ _
  exact contract H enc W base args ds gs before cj yh c8
theorem bt{a b:Bool}(h:a=true)(k:b=true):(a&&b)=true:=by rw [h,k];rfl
set_option maxRecDepth 100000 in
theorem closed:joinedFacts Tryz.pinned.checked.prog 5 Tryz.f5 (OpenSpec.ofChange Rows.imageComparesSpec).bare Rows.imageComparesRow=true:=bt (bt (bt (bt (bt (bt (bt (bt (bt (bt (bt (bt (bt (bt (bt (bt (bt (bt (bt (bt (bt (bt (bt (bt (bt (bt (bt (bt (bt (bt (bt j0 j1) j2) j3) j4) j5) j6) j7) j8) j9) j10) j11) j12) j13) j14) j15) j16) j17) j18) j19) j20) j21) j22) j23) j24) j25) j26) j27) j28) j29) j30) j31
theorem said:Rows.ImageComparesSaid:=
  OpenClaim.holds_of_cond 5 Tryz.f5 rfl rfl rfl rfl rfl rfl rfl ⟨rfl,rfl,rfl,rfl,rfl⟩ rfl rfl rfl rfl rfl (by kernel_rfl) Tryz.func5 closed
    (of_decide_eq_true (by kernel_rfl)) (by unfold Func.isWrapper;first|(rw [if_pos (by decide +kernel)];kernel_rfl)|(rw [if_neg (by decide +kernel)];exact⟨rfl,rfl⟩))
    (λos started H enc _ F=>by rw [OpenClaim.pre_eq_preRow];exact lifted os started H enc F)
theorem plain (f : FuncId) (fn : Func) (aY : Tryz.pinned.checked.prog.funcNamed "clockwork/clockworklaw48.ImageCompares" = some f) (asH : Tryz.pinned.checked.prog.funcs[f]? = some fn) :
    true=Tryz.pinned.checked.prog.looks []∧∀(j:Nat) t,fn.params[j]? = some t→Tryz.pinned.checked.prog.wantsStandIn t=false:=by
  obtain rfl : f = 5 := Option.some.inj ((show Tryz.prog.funcNamed "clockwork/clockworklaw48.ImageCompares" = some 5 by kernel_rfl).symm.trans aY) |>.symm
  obtain rfl:fn=Tryz.f5:=(Option.some.inj (Tryz.func5.symm.trans asH)).symm
  refine⟨j33,λj t aF=>?_⟩
  rw [Tryz.params5]at aF
  obtain rfl:t=34:=by simpa using Array.mem_of_getElem? aF
  exact(show Tryz.prog.wantsStandIn 34=false by kernel_rfl)
theorem card:Rows.ImageComparesCardSaid:=
  Claim7.holds_tied_plain_at .later [] _ _ _ _ said (λ_ h=>by cases h) (by kernel_rfl) (λ_ h=>by cases h) imageCompares_row_tie rfl ⟨rfl,rfl⟩ (by kernel_rfl) rfl plain j32
end Go.Proofs.YtcjbfnojhpfchaaGreatDoor.ImageCompares

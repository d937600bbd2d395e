/- For every capture, store and number, CheckpointSteps returns true and its arguments read as they did; the listed variables hold what the program lays into them. -/
import Derived.Test.YtbncfepdlmnmiaaGreatDoorPlainB
import Derived.Test.YtbncfepdlmnmiaaGreatDoorLow
import Derived.Test.YtbncfepdlmnmiaaGreatDoorFactA
import Derived.Test.YtbncfepdlmnmiaaGreatDoorFactB
import Derived.Test.YtbncfepdlmnmiaaGreatDoorFactC
import Derived.Test.YtbncfepdlmnmiaaGreatDoorFactD
import Derived.Test.YtbncfepdlmnmiaaGreatDoorFactE
namespace Go.Proofs.YtbncfepdlmnmiaaGreatDoor.CheckpointSteps
open Go.ChangeShapes Go.WideShapes Go.ChangeAt Go.RowKit
open Go.ChangeMaps (open_string shut_string)
open Go.Ab (Still n9)

theorem law(bP:Ab.Y.de)(eu:Ab.Y.BB bP)(c0:List Value)(e1:Ab.Y.ao)(c6:Ab.Y.xr e1)(c1:List Value)(e2:Int)(v2:Value)(W:World)(dt:Ab.e7 W c0 (Ab.Y.Nd bP).cells)(ae:Ab.e7 W c1 (Ab.Y.M9 e1).cells)(an:Ab.dc (Ab.oz W) v2 (.int .i64 e2))(kT:laidMet Tryz.prog theLaid W):Calls Tryz.prog 4 #[.agg ⟨c0⟩,.agg ⟨c1⟩,v2] W λe f9=>e = .returned (.bool true)∧Still W f9:=
  Ab.law_on (vs:=[.agg ⟨c0⟩,.agg ⟨c1⟩,v2]) (Ab.Y.aeq.of (Ab.Y.ahJ bP e1 e2 eu c6)) (good_laid kT) rfl λi v d aA hd=>by
    match i with
    | 0=>cases aA;cases hd;exact .v _ _ (Ab.e7.agg dt)
    | 1=>cases aA;cases hd;exact .v _ _ (Ab.e7.agg ae)
    | 2=>cases aA;cases hd;exact .v _ _ an
    |i+3=>simp at aA
theorem kids:Kids Tryz.prog (· < Tryz.prog.types.size):=kids_rows (by kernel_rfl) (by kernel_rfl)
theorem full:∀t e,t<Tryz.prog.types.size→Tryz.prog.underlying t=some (.slice e)→0<Tryz.prog.cellsOf e:=slices_full_of Tryz.prog (by kernel_rfl)
set_option maxRecDepth 100000 in
theorem contract(H:Type)(enc:TypeId×Value→H)(W:World)(base:Nat)(args:Array Value)(ds gs:List (DataW H))(before:List MemPlace)
    (b8:∀(j:Nat) t v,Tryz.f4.params[j]? = some t→args[j]? = some v→Value.okWide Tryz.prog W .any base t v)
    (r1:DataW.Whole enc Tryz.prog Tryz.f4.params.toList Rows.checkpointStepsSpec.vars false W args.toList ds gs before) (kT:laidMetH Tryz.prog Rows.checkpointStepsRow.laid W):
    Calls Tryz.prog 4 args W λe f9=>∃v,e = .returned v∧Rows.checkpointStepsSpec.post enc Tryz.prog Tryz.f4 false true false false W args v f9:=by
  have WG:=r1
  obtain⟨p,q,WH,ahO,rfl,hfz,LM⟩:=r1
  have nh:DataW.TrodAll enc Tryz.prog W 0 (λ_=>true) true Tryz.f4.params.toList args.toList ds p:=WH
  rw [Tryz.params4]at nh b8
  obtain⟨v0,ajp,d0,ajq,ahP,Zk,g0,rfl,rfl,h0,xg⟩:=trodAll_cons nh
  obtain⟨v1,kL,d1,ahM,ey,aG,g1,rfl,rfl,ab,ahQ⟩:=trodAll_cons xg
  obtain⟨v2,K5,d2,ajr,dz,bl,g2,rfl,rfl,ai,MZ⟩:=trodAll_cons ahQ
  obtain⟨rfl,rfl,rfl⟩:=trodAll_nil MZ
  obtain rfl:args = #[v0,v1,v2]:=by cases args;simp_all
  obtain⟨rfl,rfl⟩:=trodVars_none ahO
  have og:∃cs:Array Value,v0 = .agg cs:=by
    have h:=b8 0 40 v0 rfl rfl
    unfold Value.okWide at h
    rw [Tryz.underlying40]at h
    obtain⟨cs,h,_⟩:=h
    exact⟨cs,h⟩
  obtain⟨⟨c0⟩,rfl⟩:=og
  obtain⟨ahR,uQ⟩:=h0
  obtain⟨bP,eu,dt⟩:=Ab.Y.ahd ahR c0 _ uQ
  have nA:∃cs:Array Value,v1 = .agg cs:=by
    have h:=b8 1 24 v1 rfl rfl
    unfold Value.okWide at h
    rw [Tryz.underlying24]at h
    obtain⟨cs,h,_⟩:=h
    exact⟨cs,h⟩
  obtain⟨⟨c1⟩,rfl⟩:=nA
  obtain⟨ahS,o_⟩:=ab
  obtain⟨e1,c6,ae⟩:=Ab.Y.Wo ahS c1 _ o_
  obtain⟨z2,rfl⟩:=okWide_int Tryz.underlying3 (b8 2 3 _ rfl rfl)
  obtain⟨ajs,qj⟩:=ai
  obtain⟨e2,ar,an⟩:=Ab.gJ (k:=.i64) Tryz.underlying3 qj
  clear WH
  simp only [List.append_nil]at WG
  refine(law bP eu c0 e1 c6 c1 e2 _ W dt ae (an.2.2 0 _ _ rfl rfl) kT).mono λe f9 ⟨he,hg⟩=>?_
  subst he
  refine⟨_,rfl,Ab.post_of_still (pa:=ahP++(ey++dz)) (pv:=[]) WG (λ_ _ _=>trodAll_cons_mk (shut_bool Tryz.underlying4 _) trodAll_mk0) (λsp hs=>?_) (λ_ _=>rfl) (by simp) hg⟩
  have h:=Ab.args_still kids full (ts:=[40,24,3]) (by decide +kernel) nh hg sp (by simpa using hs)
  simp only [List.append_nil]at h
  rw [Tryz.params4]
  exact h
def theArg0:Value:=.agg ⟨[.int .i64 0,.int .i64 0,.int .i64 0,.int .i64 0,.slice none 0 0,.slice none 0 0,.slice none 0 0,.int .i64 0,.slice none 0 0,.slice none 0 0,.slice none 0 0,.int .u64 0,.string ⟨#[]⟩,.bool false,.slice none 0 0,.slice none 0 0]⟩
def theArg1:Value:=.agg ⟨[.int .i64 0,.int .i64 0,.slice none 0 0]⟩
def theArg2:Value:=.int .i64 0
theorem laid_met8(os:Os):laidMet Tryz.prog theLaid ((laidWorld os).forCall (λ_ _=>0) ⟨#[],#[theArg0,theArg1,theArg2],[]⟩).memory:=
  laidMet_of_run' 8 (by kernel_rfl) (by kernel_rfl)
theorem reads(os:Os){H:Type}(enc:TypeId×Value→H):∃ds places,DataW.whole enc Tryz.prog ((laidWorld os).forCall (λ_ _=>0) ⟨#[],#[theArg0,theArg1,theArg2],[]⟩).memory Tryz.f4.params.toList Rows.checkpointStepsSpec.vars false #[theArg0,theArg1,theArg2].toList 8=some (ds,[],places):=
  ⟨[.agg [.lit (.int .i64 0),.agg [.lit (.int .i64 0),.agg [.lit (.int .i64 0),.lit (.int .i64 0),.nil],.nil,.nil,.agg [.lit (.int .i64 0),.nil],.nil,.nil,.lit (.int .u64 0)],.lit (.string []),.lit (.bool false),.nil,.nil],.agg [.lit (.int .i64 0),.lit (.int .i64 0),.nil],.lit (.int .i64 0)],[],by kernel_rfl⟩
set_option maxRecDepth 100000 in
theorem lifted(os:Os)(started:os.Started)(H:Type)(enc:TypeId×Value→H)(F:Stop.Interp):
    ReturnsInHanded {} Tryz.checked os 4 .any ((OpenSpec.ofChange Rows.checkpointStepsSpec).preRow enc Tryz.prog Tryz.f4 Rows.checkpointStepsRow.domain false Rows.checkpointStepsRow.laid) (((OpenSpec.ofChange Rows.checkpointStepsSpec).at F).post enc Tryz.prog Tryz.f4 false true false false):=by
  obtain⟨ds,places,hx⟩:=reads os enc
  refine returnsInHanded_of_row (C:=Tryz.checked) (s:=OpenSpec.ofChange Rows.checkpointStepsSpec) own started (by kernel_rfl) Tryz.func4
    (witness_row_at (enc:=enc) (C:=Tryz.checked) false (laidWorld os) #[theArg0,theArg1,theArg2] rfl (by kernel_rfl) (by kernel_rfl) (by kernel_rfl)
      (OpenSpec.preRow_of_cond 8 hx (by kernel_rfl) (λk hk=>by cases hk) (by kernel_rfl) (laid_met8 os))) ?_
  intro W base args ds gs before b8 r1 _ _ _ kT _ _
  exact contract H enc W base args ds gs before b8 r1 kT
theorem bt{a b:Bool}(h:a=true)(k:b=true):(a&&b)=true:=by rw [h,k];rfl
set_option maxRecDepth 100000 in
theorem closed:joinedFacts Tryz.pinned.checked.prog 4 Tryz.f4 (OpenSpec.ofChange Rows.checkpointStepsSpec).bare Rows.checkpointStepsRow=true:=bt (bt (bt (bt (bt (bt (bt (bt (bt (bt (bt (bt (bt (bt (bt (bt (bt (bt (bt (bt (bt (bt (bt (bt (bt (bt (bt (bt (bt (bt (bt j0 j1) j2) j3) j4) j5) j6) j7) j8) j9) j10) j11) j12) j13) j14) j15) j16) j17) j18) j19) j20) j21) j22) j23) j24) j25) j26) j27) j28) j29) j30) j31
theorem said:Rows.CheckpointStepsSaid:=
  OpenClaim.holds_of_cond 4 Tryz.f4 rfl rfl rfl rfl rfl rfl rfl ⟨rfl,rfl,rfl,rfl,rfl⟩ rfl rfl rfl rfl rfl (by kernel_rfl) Tryz.func4 closed
    (of_decide_eq_true (by kernel_rfl)) (by unfold Func.isWrapper;first|(rw [if_pos (by decide +kernel)];kernel_rfl)|(rw [if_neg (by decide +kernel)];exact⟨rfl,rfl⟩))
    (λos started H enc _ F=>by rw [OpenClaim.pre_eq_preRow];exact lifted os started H enc F)
theorem plain (f : FuncId) (fn : Func) (bh : Tryz.pinned.checked.prog.funcNamed "clockwork/clockworklaw49.CheckpointSteps" = some f) (ahT : Tryz.pinned.checked.prog.funcs[f]? = some fn) :
    true=Tryz.pinned.checked.prog.looks []∧∀(j:Nat) t,fn.params[j]? = some t→Tryz.pinned.checked.prog.wantsStandIn t=false:=by
  obtain rfl : f = 4 := Option.some.inj ((show Tryz.prog.funcNamed "clockwork/clockworklaw49.CheckpointSteps" = some 4 by kernel_rfl).symm.trans bh) |>.symm
  obtain rfl:fn=Tryz.f4:=(Option.some.inj (Tryz.func4.symm.trans ahT)).symm
  refine⟨j33,λj t ce=>?_⟩
  rw [Tryz.params4]at ce
  have ce:t∈[40,24,3]:=by simpa using Array.mem_of_getElem? ce
  simp only [List.mem_cons,List.not_mem_nil,or_false]at ce
  rcases ce with rfl|rfl|rfl
  · exact(show Tryz.prog.wantsStandIn 40=false by kernel_rfl)
  · exact(show Tryz.prog.wantsStandIn 24=false by kernel_rfl)
  · exact(show Tryz.prog.wantsStandIn 3=false by kernel_rfl)
theorem card:Rows.CheckpointStepsCardSaid:=
  Claim7.holds_tied_plain_at .later [] _ _ _ _ said (λ_ h=>by cases h) (by kernel_rfl) (λ_ h=>by cases h) checkpointSteps_row_tie rfl ⟨rfl,rfl⟩ (by kernel_rfl) rfl plain j32
end Go.Proofs.YtbncfepdlmnmiaaGreatDoor.CheckpointSteps

/- For every capture, CheckpointFinishes returns true and its arguments read as they did; the listed variables hold what the program lays into them. -/
import Derived.Test.YtbncfepdlmnmiaaGreatDoorPlainC
import Derived.Test.YtbncfepdlmnmiaaGreatDoorLow
import Derived.Test.YtbncfepdlmnmiaaGreatDoorFactA
import Derived.Test.YtbncfepdlmnmiaaGreatDoorFactB
import Derived.Test.YtbncfepdlmnmiaaGreatDoorFactC
import Derived.Test.YtbncfepdlmnmiaaGreatDoorFactD
import Derived.Test.YtbncfepdlmnmiaaGreatDoorFactE
namespace Go.Proofs.YtbncfepdlmnmiaaGreatDoor.CheckpointFinishes
open Go.ChangeShapes Go.WideShapes Go.ChangeAt Go.RowKit
open Go.ChangeMaps (open_string shut_string)
open Go.Ab (Still qI)

theorem law(bR:Ab.Y.dY)(eT:Ab.Y.CG bR)(c0:List Value)(W:World)(dy:Ab.fO W c0 (Ab.Y.UP bR).cells)(mC:laidMet Tryz.prog theLaid W):Calls Tryz.prog 5 #[.agg ⟨c0⟩] W λe gO=>e = .returned (.bool true)∧Still W gO:=
  Ab.law_on (vs:=[.agg ⟨c0⟩]) (Ab.Y.ajB.of (Ab.Y.an_ bR eT)) (good_laid mC) rfl λi v d ay hd=>by
    match i with
    | 0=>cases ay;cases hd;exact .v _ _ (Ab.fO.agg dy)
    |i+1=>simp at ay
theorem kids:Kids Tryz.prog (· < Tryz.prog.types.size):=kids_rows (by kernel_rfl) (by kernel_rfl)
theorem full:∀t e,t<Tryz.prog.types.size→Tryz.prog.underlying t=some (.slice e)→0<Tryz.prog.cellsOf e:=slices_full_of Tryz.prog (by kernel_rfl)
set_option maxRecDepth 100000 in
theorem contract(H:Type)(enc:TypeId×Value→H)(W:World)(base:Nat)(args:Array Value)(ds gs:List (DataW H))(before:List MemPlace)
    (ck:∀(j:Nat) t v,Tryz.f5.params[j]? = some t→args[j]? = some v→Value.okWide Tryz.prog W .any base t v)
    (vz:DataW.Whole enc Tryz.prog Tryz.f5.params.toList Rows.checkpointFinishesSpec.vars false W args.toList ds gs before) (mC:laidMetH Tryz.prog Rows.checkpointFinishesRow.laid W):
    Calls Tryz.prog 5 args W λe gO=>∃v,e = .returned v∧Rows.checkpointFinishesSpec.post enc Tryz.prog Tryz.f5 false true false false W args v gO:=by
  have ab7:=vz
  obtain⟨p,q,ab8,aod,rfl,hfz,To⟩:=vz
  have d9:DataW.TrodAll enc Tryz.prog W 0 (λ_=>true) true Tryz.f5.params.toList args.toList ds p:=ab8
  rw [Tryz.params5]at d9 ck
  obtain⟨v0,apH,d0,apI,aoe,aeK,g0,rfl,rfl,h0,Cs⟩:=trodAll_cons d9
  obtain⟨rfl,rfl,rfl⟩:=trodAll_nil Cs
  obtain rfl:args = #[v0]:=by cases args;simp_all
  obtain⟨rfl,rfl⟩:=trodVars_none aod
  have qQ:∃cs:Array Value,v0 = .agg cs:=by
    have h:=ck 0 40 v0 rfl rfl
    unfold Value.okWide at h
    rw [Tryz.underlying40]at h
    obtain⟨cs,h,_⟩:=h
    exact⟨cs,h⟩
  obtain⟨⟨c0⟩,rfl⟩:=qQ
  obtain⟨aof,zd⟩:=h0
  obtain⟨bR,eT,dy⟩:=Ab.Y.anF aof c0 _ zd
  clear ab8
  simp only [List.append_nil]at ab7
  refine(law bR eT c0 W dy mC).mono λe gO ⟨he,hg⟩=>?_
  subst he
  refine⟨_,rfl,Ab.post_of_still (pa:=aoe) (pv:=[]) ab7 (λ_ _ _=>trodAll_cons_mk (shut_bool Tryz.underlying4 _) trodAll_mk0) (λsp hs=>?_) (λ_ _=>rfl) (by simp) hg⟩
  have h:=Ab.args_still kids full (ts:=[40]) (by decide +kernel) d9 hg sp (by simpa using hs)
  simp only [List.append_nil]at h
  rw [Tryz.params5]
  exact h
def theArg0:Value:=.agg ⟨[.int .i64 0,.int .i64 0,.int .i64 0,.int .i64 0,.slice none 0 0,.slice none 0 0,.slice none 0 0,.int .i64 0,.slice none 0 0,.slice none 0 0,.slice none 0 0,.int .u64 0,.string ⟨#[]⟩,.bool false,.slice none 0 0,.slice none 0 0]⟩
theorem laid_met8(os:Os):laidMet Tryz.prog theLaid ((laidWorld os).forCall (λ_ _=>0) ⟨#[],#[theArg0],[]⟩).memory:=
  laidMet_of_run' 8 (by kernel_rfl) (by kernel_rfl)
theorem reads(os:Os){H:Type}(enc:TypeId×Value→H):∃ds places,DataW.whole enc Tryz.prog ((laidWorld os).forCall (λ_ _=>0) ⟨#[],#[theArg0],[]⟩).memory Tryz.f5.params.toList Rows.checkpointFinishesSpec.vars false #[theArg0].toList 8=some (ds,[],places):=
  ⟨[.agg [.lit (.int .i64 0),.agg [.lit (.int .i64 0),.agg [.lit (.int .i64 0),.lit (.int .i64 0),.nil],.nil,.nil,.agg [.lit (.int .i64 0),.nil],.nil,.nil,.lit (.int .u64 0)],.lit (.string []),.lit (.bool false),.nil,.nil]],[],by kernel_rfl⟩
set_option maxRecDepth 100000 in
theorem lifted(os:Os)(started:os.Started)(H:Type)(enc:TypeId×Value→H)(F:Stop.Interp):
    ReturnsInHanded {} Tryz.checked os 5 .any ((OpenSpec.ofChange Rows.checkpointFinishesSpec).preRow enc Tryz.prog Tryz.f5 Rows.checkpointFinishesRow.domain false Rows.checkpointFinishesRow.laid) (((OpenSpec.ofChange Rows.checkpointFinishesSpec).at F).post enc Tryz.prog Tryz.f5 false true false false):=by
  obtain⟨ds,places,hx⟩:=reads os enc
  refine returnsInHanded_of_row (C:=Tryz.checked) (s:=OpenSpec.ofChange Rows.checkpointFinishesSpec) own started (by kernel_rfl) Tryz.func5
    (witness_row_at (enc:=enc) (C:=Tryz.checked) false (laidWorld os) #[theArg0] rfl (by kernel_rfl) (by kernel_rfl) (by kernel_rfl)
      (OpenSpec.preRow_of_cond 8 hx (by kernel_rfl) (λk hk=>by cases hk) (by kernel_rfl) (laid_met8 os))) ?_
  intro W base args ds gs before ck vz _ _ _ mC _ _
  exact contract H enc W base args ds gs before ck vz mC
theorem bt{a b:Bool}(h:a=true)(k:b=true):(a&&b)=true:=by rw [h,k];rfl
set_option maxRecDepth 100000 in
theorem closed:joinedFacts Tryz.pinned.checked.prog 5 Tryz.f5 (OpenSpec.ofChange Rows.checkpointFinishesSpec).bare Rows.checkpointFinishesRow=true:=bt (bt (bt (bt (bt (bt (bt (bt (bt (bt (bt (bt (bt (bt (bt (bt (bt (bt (bt (bt (bt (bt (bt (bt (bt (bt (bt (bt (bt (bt (bt j0 j1) j2) j3) j4) j5) j6) j7) j8) j9) j10) j11) j12) j13) j14) j15) j16) j17) j18) j19) j20) j21) j22) j23) j24) j25) j26) j27) j28) j29) j30) j31
theorem said:Rows.CheckpointFinishesSaid:=
  OpenClaim.holds_of_cond 5 Tryz.f5 rfl rfl rfl rfl rfl rfl rfl ⟨rfl,rfl,rfl,rfl,rfl⟩ rfl rfl rfl rfl rfl (by kernel_rfl) Tryz.func5 closed
    (of_decide_eq_true (by kernel_rfl)) (by unfold Func.isWrapper;first|(rw [if_pos (by decide +kernel)];kernel_rfl)|(rw [if_neg (by decide +kernel)];exact⟨rfl,rfl⟩))
    (λos started H enc _ F=>by rw [OpenClaim.pre_eq_preRow];exact lifted os started H enc F)
theorem plain (f : FuncId) (fn : Func) (a' : Tryz.pinned.checked.prog.funcNamed "clockwork/clockworklaw49.CheckpointFinishes" = some f) (aog : Tryz.pinned.checked.prog.funcs[f]? = some fn) :
    true=Tryz.pinned.checked.prog.looks []∧∀(j:Nat) t,fn.params[j]? = some t→Tryz.pinned.checked.prog.wantsStandIn t=false:=by
  obtain rfl : f = 5 := Option.some.inj ((show Tryz.prog.funcNamed "clockwork/clockworklaw49.CheckpointFinishes" = some 5 by kernel_rfl).symm.trans a') |>.symm
  obtain rfl:fn=Tryz.f5:=(Option.some.inj (Tryz.func5.symm.trans aog)).symm
  refine⟨j33,λj t bU=>?_⟩
  rw [Tryz.params5]at bU
  obtain rfl:t=40:=by simpa using Array.mem_of_getElem? bU
  exact(show Tryz.prog.wantsStandIn 40=false by kernel_rfl)
theorem card:Rows.CheckpointFinishesCardSaid:=
  Claim7.holds_tied_plain_at .later [] _ _ _ _ said (λ_ h=>by cases h) (by kernel_rfl) (λ_ h=>by cases h) checkpointFinishes_row_tie rfl ⟨rfl,rfl⟩ (by kernel_rfl) rfl plain j32
end Go.Proofs.YtbncfepdlmnmiaaGreatDoor.CheckpointFinishes

/- For every replica, CheckpointBegins returns true and its arguments read as they did; the listed variables hold what the program lays into them. -/
import Derived.Test.YtbncfepdlmnmiaaGreatDoorPlainD
import Derived.Test.YtbncfepdlmnmiaaGreatDoorLow
import Derived.Test.YtbncfepdlmnmiaaGreatDoorFactA
import Derived.Test.YtbncfepdlmnmiaaGreatDoorFactB
import Derived.Test.YtbncfepdlmnmiaaGreatDoorFactC
import Derived.Test.YtbncfepdlmnmiaaGreatDoorFactD
import Derived.Test.YtbncfepdlmnmiaaGreatDoorFactE
namespace Go.Proofs.YtbncfepdlmnmiaaGreatDoor.CheckpointBegins
open Go.ChangeShapes Go.WideShapes Go.ChangeAt Go.RowKit
open Go.ChangeMaps (open_string shut_string)
open Go.Ab (Still tF)

theorem law(bG:Ab.Y.bC)(gB:Ab.Y.tx bG)(c0:List Value)(W:World)(dM:Ab.hz W c0 (Ab.Y.Zb bG).cells)(dc:laidMet Tryz.prog theLaid W):Calls Tryz.prog 3 #[.agg ⟨c0⟩] W λe hX=>e = .returned (.bool true)∧Still W hX:=
  Ab.law_on (vs:=[.agg ⟨c0⟩]) (Ab.Y.ani.of (Ab.Y.at1 bG gB)) (good_laid dc) rfl λi v d av hd=>by
    match i with
    | 0=>cases av;cases hd;exact .v _ _ (Ab.hz.agg dM)
    |i+1=>simp at av
theorem kids:Kids Tryz.prog (· < Tryz.prog.types.size):=kids_rows (by kernel_rfl) (by kernel_rfl)
theorem full:∀t e,t<Tryz.prog.types.size→Tryz.prog.underlying t=some (.slice e)→0<Tryz.prog.cellsOf e:=slices_full_of Tryz.prog (by kernel_rfl)
set_option maxRecDepth 100000 in
theorem contract(H:Type)(enc:TypeId×Value→H)(W:World)(base:Nat)(args:Array Value)(ds gs:List (DataW H))(before:List MemPlace)
    (ci:∀(j:Nat) t v,Tryz.f3.params[j]? = some t→args[j]? = some v→Value.okWide Tryz.prog W .any base t v)
    (x4:DataW.Whole enc Tryz.prog Tryz.f3.params.toList Rows.checkpointBeginsSpec.vars false W args.toList ds gs before) (dc:laidMetH Tryz.prog Rows.checkpointBeginsRow.laid W):
    Calls Tryz.prog 3 args W λe hX=>∃v,e = .returned v∧Rows.checkpointBeginsSpec.post enc Tryz.prog Tryz.f3 false true false false W args v hX:=by
  have af6:=x4
  obtain⟨p,q,af7,at5,rfl,hfz,XP⟩:=x4
  have aS:DataW.TrodAll enc Tryz.prog W 0 (λ_=>true) true Tryz.f3.params.toList args.toList ds p:=af7
  rw [Tryz.params3]at aS ci
  obtain⟨v0,avK,d0,avL,at6,aiH,g0,rfl,rfl,h0,FU⟩:=trodAll_cons aS
  obtain⟨rfl,rfl,rfl⟩:=trodAll_nil FU
  obtain rfl:args = #[v0]:=by cases args;simp_all
  obtain⟨rfl,rfl⟩:=trodVars_none at5
  have sr:∃cs:Array Value,v0 = .agg cs:=by
    have h:=ci 0 34 v0 rfl rfl
    unfold Value.okWide at h
    rw [Tryz.underlying34]at h
    obtain⟨cs,h,_⟩:=h
    exact⟨cs,h⟩
  obtain⟨⟨c0⟩,rfl⟩:=sr
  obtain⟨at7,Ct⟩:=h0
  obtain⟨bG,gB,dM⟩:=Ab.Y.ats at7 c0 _ Ct
  clear af7
  simp only [List.append_nil]at af6
  refine(law bG gB c0 W dM dc).mono λe hX ⟨he,hg⟩=>?_
  subst he
  refine⟨_,rfl,Ab.post_of_still (pa:=at6) (pv:=[]) af6 (λ_ _ _=>trodAll_cons_mk (shut_bool Tryz.underlying4 _) trodAll_mk0) (λsp hs=>?_) (λ_ _=>rfl) (by simp) hg⟩
  have h:=Ab.args_still kids full (ts:=[34]) (by decide +kernel) aS hg sp (by simpa using hs)
  simp only [List.append_nil]at h
  rw [Tryz.params3]
  exact h
def theArg:Value:=.agg ⟨[.int .i64 0,.int .i64 0,.int .i64 0,.slice none 0 0,.slice none 0 0,.slice none 0 0,.int .i64 0,.slice none 0 0,.slice none 0 0,.slice none 0 0,.int .u64 0]⟩
theorem laid_met8(os:Os):laidMet Tryz.prog theLaid ((laidWorld os).forCall (λ_ _=>0) ⟨#[],#[theArg],[]⟩).memory:=
  laidMet_of_run' 8 (by kernel_rfl) (by kernel_rfl)
theorem reads(os:Os){H:Type}(enc:TypeId×Value→H):∃ds places,DataW.whole enc Tryz.prog ((laidWorld os).forCall (λ_ _=>0) ⟨#[],#[theArg],[]⟩).memory Tryz.f3.params.toList Rows.checkpointBeginsSpec.vars false #[theArg].toList 8=some (ds,[],places):=
  ⟨[.agg [.lit (.int .i64 0),.agg [.lit (.int .i64 0),.lit (.int .i64 0),.nil],.nil,.nil,.agg [.lit (.int .i64 0),.nil],.nil,.nil,.lit (.int .u64 0)]],[],by kernel_rfl⟩
set_option maxRecDepth 100000 in
theorem lifted(os:Os)(started:os.Started)(H:Type)(enc:TypeId×Value→H)(F:Stop.Interp):
    ReturnsInHanded {} Tryz.checked os 3 .any ((OpenSpec.ofChange Rows.checkpointBeginsSpec).preRow enc Tryz.prog Tryz.f3 Rows.checkpointBeginsRow.domain false Rows.checkpointBeginsRow.laid) (((OpenSpec.ofChange Rows.checkpointBeginsSpec).at F).post enc Tryz.prog Tryz.f3 false true false false):=by
  obtain⟨ds,places,hx⟩:=reads os enc
  refine returnsInHanded_of_row (C:=Tryz.checked) (s:=OpenSpec.ofChange Rows.checkpointBeginsSpec) own started (by kernel_rfl) Tryz.func3
    (witness_row_at (enc:=enc) (C:=Tryz.checked) false (laidWorld os) #[theArg] rfl (by kernel_rfl) (by kernel_rfl) (by kernel_rfl)
      (OpenSpec.preRow_of_cond 8 hx (by kernel_rfl) (λk hk=>by cases hk) (by kernel_rfl) (laid_met8 os))) ?_
  intro W base args ds gs before ci x4 _ _ _ dc _ _
  exact contract H enc W base args ds gs before ci x4 dc
theorem bt{a b:Bool}(h:a=true)(k:b=true):(a&&b)=true:=by rw [h,k];rfl
set_option maxRecDepth 100000 in
theorem closed:joinedFacts Tryz.pinned.checked.prog 3 Tryz.f3 (OpenSpec.ofChange Rows.checkpointBeginsSpec).bare Rows.checkpointBeginsRow=true:=bt (bt (bt (bt (bt (bt (bt (bt (bt (bt (bt (bt (bt (bt (bt (bt (bt (bt (bt (bt (bt (bt (bt (bt (bt (bt (bt (bt (bt (bt (bt j0 j1) j2) j3) j4) j5) j6) j7) j8) j9) j10) j11) j12) j13) j14) j15) j16) j17) j18) j19) j20) j21) j22) j23) j24) j25) j26) j27) j28) j29) j30) j31
theorem said:Rows.CheckpointBeginsSaid:=
  OpenClaim.holds_of_cond 3 Tryz.f3 rfl rfl rfl rfl rfl rfl rfl ⟨rfl,rfl,rfl,rfl,rfl⟩ rfl rfl rfl rfl rfl (by kernel_rfl) Tryz.func3 closed
    (of_decide_eq_true (by kernel_rfl)) (by unfold Func.isWrapper;first|(rw [if_pos (by decide +kernel)];kernel_rfl)|(rw [if_neg (by decide +kernel)];exact⟨rfl,rfl⟩))
    (λos started H enc _ F=>by rw [OpenClaim.pre_eq_preRow];exact lifted os started H enc F)
theorem plain (f : FuncId) (fn : Func) (ba : Tryz.pinned.checked.prog.funcNamed "clockwork/clockworklaw49.CheckpointBegins" = some f) (at8 : Tryz.pinned.checked.prog.funcs[f]? = some fn) :
    true=Tryz.pinned.checked.prog.looks []∧∀(j:Nat) t,fn.params[j]? = some t→Tryz.pinned.checked.prog.wantsStandIn t=false:=by
  obtain rfl : f = 3 := Option.some.inj ((show Tryz.prog.funcNamed "clockwork/clockworklaw49.CheckpointBegins" = some 3 by kernel_rfl).symm.trans ba) |>.symm
  obtain rfl:fn=Tryz.f3:=(Option.some.inj (Tryz.func3.symm.trans at8)).symm
  refine⟨j33,λj t aF=>?_⟩
  rw [Tryz.params3]at aF
  obtain rfl:t=34:=by simpa using Array.mem_of_getElem? aF
  exact(show Tryz.prog.wantsStandIn 34=false by kernel_rfl)
theorem card:Rows.CheckpointBeginsCardSaid:=
  Claim7.holds_tied_plain_at .later [] _ _ _ _ said (λ_ h=>by cases h) (by kernel_rfl) (λ_ h=>by cases h) checkpointBegins_row_tie rfl ⟨rfl,rfl⟩ (by kernel_rfl) rfl plain j32
end Go.Proofs.YtbncfepdlmnmiaaGreatDoor.CheckpointBegins

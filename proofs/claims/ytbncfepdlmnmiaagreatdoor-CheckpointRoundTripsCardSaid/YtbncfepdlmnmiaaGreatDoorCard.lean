/- For every string, CheckpointRoundTrips returns true and its arguments read as they did; the listed variables hold what the program lays into them. -/
import Derived.Test.YtbncfepdlmnmiaaGreatDoorPlainD
import Derived.Test.YtbncfepdlmnmiaaGreatDoorLow
import Derived.Test.YtbncfepdlmnmiaaGreatDoorFactA
import Derived.Test.YtbncfepdlmnmiaaGreatDoorFactB
import Derived.Test.YtbncfepdlmnmiaaGreatDoorFactC
import Derived.Test.YtbncfepdlmnmiaaGreatDoorFactD
import Derived.Test.YtbncfepdlmnmiaaGreatDoorFactE
namespace Go.Proofs.YtbncfepdlmnmiaaGreatDoor.CheckpointRoundTrips
open Go.ChangeShapes Go.WideShapes Go.ChangeAt Go.RowKit
open Go.ChangeMaps (open_string shut_string)
open Go.Ab (Still sf)

theorem law(s:ByteArray)(W:World)(dm:laidMet Tryz.prog theLaid W):Calls Tryz.prog 8 #[.string s] W λe hG=>e = .returned (.bool true)∧Still W hG:=
  Ab.law_on_text (Ab.Y.amq.of (Ab.Y.asY _)) (good_laid dm)
set_option maxRecDepth 100000 in
theorem contract(H:Type)(enc:TypeId×Value→H)(W:World)(base:Nat)(args:Array Value)(ds gs:List (DataW H))(before:List MemPlace)
    (co:∀(j:Nat) t v,Tryz.f8.params[j]? = some t→args[j]? = some v→Value.okWide Tryz.prog W .any base t v)
    (qT:DataW.Whole enc Tryz.prog Tryz.f8.params.toList Rows.checkpointRoundTripsSpec.vars false W args.toList ds gs before) (dm:laidMetH Tryz.prog Rows.checkpointRoundTripsRow.laid W):
    Calls Tryz.prog 8 args W λe hG=>∃v,e = .returned v∧Rows.checkpointRoundTripsSpec.post enc Tryz.prog Tryz.f8 false true false false W args v hG:=by
  have afc:=qT
  obtain⟨p,q,afd,as6,rfl,hfz,Wx⟩:=qT
  have eA:DataW.TrodAll enc Tryz.prog W 0 (λ_=>true) true Tryz.f8.params.toList args.toList ds p:=afd
  rw [Tryz.params8]at eA co
  obtain⟨v0,auQ,d0,auR,auS,ahO,e5,rfl,rfl,h0,gV⟩:=trodAll_cons eA
  obtain⟨rfl,rfl,rfl⟩:=trodAll_nil gV
  obtain rfl:args = #[v0]:=by cases args;simp_all
  obtain⟨rfl,rfl⟩:=trodVars_none as6
  obtain⟨s,rfl,rfl,rfl,ws⟩:=open_string Tryz.underlying9 (co 0 9 v0 rfl rfl) h0
  clear afd
  simp only [List.append_nil]at afc
  refine(law s W dm).mono λe hG ⟨he,hg⟩=>?_
  subst he
  exact⟨_,rfl,Ab.post_of_still (pa:=[]) (pv:=[]) afc (λ_ _ _=>trodAll_cons_mk (shut_bool Tryz.underlying4 _) trodAll_mk0) (λ_ _=>trodAll_cons_mk (shut_string Tryz.underlying9 ws) trodAll_mk0) (λ_ _=>rfl) rfl hg⟩
theorem reads(os:Os){H:Type}(enc:TypeId×Value→H):∃places,DataW.whole enc Tryz.prog ((laidWorld os).forCall (λ_ _=>0) ⟨#[],#[.string ⟨#[]⟩],[]⟩).memory Tryz.f8.params.toList Rows.checkpointRoundTripsSpec.vars false #[Value.string ⟨#[]⟩].toList 8=some ([.lit (.string [])],[],places):=
  ⟨[],by kernel_rfl⟩
set_option maxRecDepth 100000 in
theorem lifted(os:Os)(started:os.Started)(H:Type)(enc:TypeId×Value→H)(F:Stop.Interp):
    ReturnsInHanded {} Tryz.checked os 8 .any ((OpenSpec.ofChange Rows.checkpointRoundTripsSpec).preRow enc Tryz.prog Tryz.f8 Rows.checkpointRoundTripsRow.domain false Rows.checkpointRoundTripsRow.laid) (((OpenSpec.ofChange Rows.checkpointRoundTripsSpec).at F).post enc Tryz.prog Tryz.f8 false true false false):=by
  obtain⟨places,hx⟩:=reads os enc
  refine returnsInHanded_of_row (C:=Tryz.checked) (s:=OpenSpec.ofChange Rows.checkpointRoundTripsSpec) own started (by kernel_rfl) Tryz.func8
    (witness_row_at (enc:=enc) (C:=Tryz.checked) false (laidWorld os) #[.string ⟨#[]⟩] rfl (by kernel_rfl) (by kernel_rfl) (by kernel_rfl)
      (OpenSpec.preRow_of_cond 8 hx (by kernel_rfl) (λk hk=>by cases hk) (by kernel_rfl) (laid_met os))) ?_
  intro W base args ds gs before co qT _ _ _ dm _ _
  exact contract H enc W base args ds gs before co qT dm
theorem bt{a b:Bool}(h:a=true)(k:b=true):(a&&b)=true:=by rw [h,k];rfl
set_option maxRecDepth 100000 in
theorem closed:joinedFacts Tryz.pinned.checked.prog 8 Tryz.f8 (OpenSpec.ofChange Rows.checkpointRoundTripsSpec).bare Rows.checkpointRoundTripsRow=true:=bt (bt (bt (bt (bt (bt (bt (bt (bt (bt (bt (bt (bt (bt (bt (bt (bt (bt (bt (bt (bt (bt (bt (bt (bt (bt (bt (bt (bt (bt (bt j0 j1) j2) j3) j4) j5) j6) j7) j8) j9) j10) j11) j12) j13) j14) j15) j16) j17) j18) j19) j20) j21) j22) j23) j24) j25) j26) j27) j28) j29) j30) j31
theorem said:Rows.CheckpointRoundTripsSaid:=
  OpenClaim.holds_of_cond 8 Tryz.f8 rfl rfl rfl rfl rfl rfl rfl ⟨rfl,rfl,rfl,rfl,rfl⟩ rfl rfl rfl rfl rfl (by kernel_rfl) Tryz.func8 closed
    (of_decide_eq_true (by kernel_rfl)) (by unfold Func.isWrapper;first|(rw [if_pos (by decide +kernel)];kernel_rfl)|(rw [if_neg (by decide +kernel)];exact⟨rfl,rfl⟩))
    (λos started H enc _ F=>by rw [OpenClaim.pre_eq_preRow];exact lifted os started H enc F)
theorem plain (f : FuncId) (fn : Func) (bP : Tryz.pinned.checked.prog.funcNamed "clockwork/clockworklaw49.CheckpointRoundTrips" = some f) (as7 : Tryz.pinned.checked.prog.funcs[f]? = some fn) :
    true=Tryz.pinned.checked.prog.looks []∧∀(j:Nat) t,fn.params[j]? = some t→Tryz.pinned.checked.prog.wantsStandIn t=false:=by
  obtain rfl : f = 8 := Option.some.inj ((show Tryz.prog.funcNamed "clockwork/clockworklaw49.CheckpointRoundTrips" = some 8 by kernel_rfl).symm.trans bP) |>.symm
  obtain rfl:fn=Tryz.f8:=(Option.some.inj (Tryz.func8.symm.trans as7)).symm
  refine⟨j33,λj t aF=>?_⟩
  rw [Tryz.params8]at aF
  obtain rfl:t=9:=by simpa using Array.mem_of_getElem? aF
  exact(show Tryz.prog.wantsStandIn 9=false by kernel_rfl)
theorem card:Rows.CheckpointRoundTripsCardSaid:=
  Claim7.holds_tied_plain_at .later [] _ _ _ _ said (λ_ h=>by cases h) (by kernel_rfl) (λ_ h=>by cases h) checkpointRoundTrips_row_tie rfl ⟨rfl,rfl⟩ (by kernel_rfl) rfl plain j32
end Go.Proofs.YtbncfepdlmnmiaaGreatDoor.CheckpointRoundTrips

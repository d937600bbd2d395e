/- For every string, CheckpointRestores returns true and its arguments read as they did; the listed variables hold what the program lays into them. -/
import Derived.Test.YtbncfepdlmnmiaaGreatDoorPlainD
import Derived.Test.YtbncfepdlmnmiaaGreatDoorLow
import Derived.Test.YtbncfepdlmnmiaaGreatDoorFactA
import Derived.Test.YtbncfepdlmnmiaaGreatDoorFactB
import Derived.Test.YtbncfepdlmnmiaaGreatDoorFactC
import Derived.Test.YtbncfepdlmnmiaaGreatDoorFactD
import Derived.Test.YtbncfepdlmnmiaaGreatDoorFactE
namespace Go.Proofs.YtbncfepdlmnmiaaGreatDoor.CheckpointRestores
open Go.ChangeShapes Go.WideShapes Go.ChangeAt Go.RowKit
open Go.ChangeMaps (open_string shut_string)
open Go.Ab (Still sm)

theorem law(s:ByteArray)(W:World)(c7:laidMet Tryz.prog theLaid W):Calls Tryz.prog 6 #[.string s] W λe i7=>e = .returned (.bool true)∧Still W i7:=
  Ab.law_on_text (Ab.Y.am4.of (Ab.Y.asH _)) (good_laid c7)
set_option maxRecDepth 100000 in
theorem contract(H:Type)(enc:TypeId×Value→H)(W:World)(base:Nat)(args:Array Value)(ds gs:List (DataW H))(before:List MemPlace)
    (cB:∀(j:Nat) t v,Tryz.f6.params[j]? = some t→args[j]? = some v→Value.okWide Tryz.prog W .any base t v)
    (yk:DataW.Whole enc Tryz.prog Tryz.f6.params.toList Rows.checkpointRestoresSpec.vars false W args.toList ds gs before) (c7:laidMetH Tryz.prog Rows.checkpointRestoresRow.laid W):
    Calls Tryz.prog 6 args W λe i7=>∃v,e = .returned v∧Rows.checkpointRestoresSpec.post enc Tryz.prog Tryz.f6 false true false false W args v i7:=by
  have afG:=yk
  obtain⟨p,q,afH,asK,rfl,hfz,XP⟩:=yk
  have e4:DataW.TrodAll enc Tryz.prog W 0 (λ_=>true) true Tryz.f6.params.toList args.toList ds p:=afH
  rw [Tryz.params6]at e4 cB
  obtain⟨v0,aup,d0,auq,aur,aij,fc,rfl,rfl,h0,gY⟩:=trodAll_cons e4
  obtain⟨rfl,rfl,rfl⟩:=trodAll_nil gY
  obtain rfl:args = #[v0]:=by cases args;simp_all
  obtain⟨rfl,rfl⟩:=trodVars_none asK
  obtain⟨s,rfl,rfl,rfl,ws⟩:=open_string Tryz.underlying9 (cB 0 9 v0 rfl rfl) h0
  clear afH
  simp only [List.append_nil]at afG
  refine(law s W c7).mono λe i7 ⟨he,hg⟩=>?_
  subst he
  exact⟨_,rfl,Ab.post_of_still (pa:=[]) (pv:=[]) afG (λ_ _ _=>trodAll_cons_mk (shut_bool Tryz.underlying4 _) trodAll_mk0) (λ_ _=>trodAll_cons_mk (shut_string Tryz.underlying9 ws) trodAll_mk0) (λ_ _=>rfl) rfl hg⟩
theorem reads(os:Os){H:Type}(enc:TypeId×Value→H):∃places,DataW.whole enc Tryz.prog ((laidWorld os).forCall (λ_ _=>0) ⟨#[],#[.string ⟨#[]⟩],[]⟩).memory Tryz.f6.params.toList Rows.checkpointRestoresSpec.vars false #[Value.string ⟨#[]⟩].toList 8=some ([.lit (.string [])],[],places):=
  ⟨[],by kernel_rfl⟩
set_option maxRecDepth 100000 in
theorem lifted(os:Os)(started:os.Started)(H:Type)(enc:TypeId×Value→H)(F:Stop.Interp):
    ReturnsInHanded {} Tryz.checked os 6 .any ((OpenSpec.ofChange Rows.checkpointRestoresSpec).preRow enc Tryz.prog Tryz.f6 Rows.checkpointRestoresRow.domain false Rows.checkpointRestoresRow.laid) (((OpenSpec.ofChange Rows.checkpointRestoresSpec).at F).post enc Tryz.prog Tryz.f6 false true false false):=by
  obtain⟨places,hx⟩:=reads os enc
  refine returnsInHanded_of_row (C:=Tryz.checked) (s:=OpenSpec.ofChange Rows.checkpointRestoresSpec) own started (by kernel_rfl) Tryz.func6
    (witness_row_at (enc:=enc) (C:=Tryz.checked) false (laidWorld os) #[.string ⟨#[]⟩] rfl (by kernel_rfl) (by kernel_rfl) (by kernel_rfl)
      (OpenSpec.preRow_of_cond 8 hx (by kernel_rfl) (λk hk=>by cases hk) (by kernel_rfl) (laid_met os))) ?_
  intro W base args ds gs before cB yk _ _ _ c7 _ _
  exact contract H enc W base args ds gs before cB yk c7
theorem bt{a b:Bool}(h:a=true)(k:b=true):(a&&b)=true:=by rw [h,k];rfl
set_option maxRecDepth 100000 in
theorem closed:joinedFacts Tryz.pinned.checked.prog 6 Tryz.f6 (OpenSpec.ofChange Rows.checkpointRestoresSpec).bare Rows.checkpointRestoresRow=true:=bt (bt (bt (bt (bt (bt (bt (bt (bt (bt (bt (bt (bt (bt (bt (bt (bt (bt (bt (bt (bt (bt (bt (bt (bt (bt (bt (bt (bt (bt (bt j0 j1) j2) j3) j4) j5) j6) j7) j8) j9) j10) j11) j12) j13) j14) j15) j16) j17) j18) j19) j20) j21) j22) j23) j24) j25) j26) j27) j28) j29) j30) j31
theorem said:Rows.CheckpointRestoresSaid:=
  OpenClaim.holds_of_cond 6 Tryz.f6 rfl rfl rfl rfl rfl rfl rfl ⟨rfl,rfl,rfl,rfl,rfl⟩ rfl rfl rfl rfl rfl (by kernel_rfl) Tryz.func6 closed
    (of_decide_eq_true (by kernel_rfl)) (by unfold Func.isWrapper;first|(rw [if_pos (by decide +kernel)];kernel_rfl)|(rw [if_neg (by decide +kernel)];exact⟨rfl,rfl⟩))
    (λos started H enc _ F=>by rw [OpenClaim.pre_eq_preRow];exact lifted os started H enc F)
theorem plain (f : FuncId) (fn : Func) (cc : Tryz.pinned.checked.prog.funcNamed "clockwork/clockworklaw49.CheckpointRestores" = some f) (asL : Tryz.pinned.checked.prog.funcs[f]? = some fn) :
    true=Tryz.pinned.checked.prog.looks []∧∀(j:Nat) t,fn.params[j]? = some t→Tryz.pinned.checked.prog.wantsStandIn t=false:=by
  obtain rfl : f = 6 := Option.some.inj ((show Tryz.prog.funcNamed "clockwork/clockworklaw49.CheckpointRestores" = some 6 by kernel_rfl).symm.trans cc) |>.symm
  obtain rfl:fn=Tryz.f6:=(Option.some.inj (Tryz.func6.symm.trans asL)).symm
  refine⟨j33,λj t ax=>?_⟩
  rw [Tryz.params6]at ax
  obtain rfl:t=9:=by simpa using Array.mem_of_getElem? ax
  exact(show Tryz.prog.wantsStandIn 9=false by kernel_rfl)
theorem card:Rows.CheckpointRestoresCardSaid:=
  Claim7.holds_tied_plain_at .later [] _ _ _ _ said (λ_ h=>by cases h) (by kernel_rfl) (λ_ h=>by cases h) checkpointRestores_row_tie rfl ⟨rfl,rfl⟩ (by kernel_rfl) rfl plain j32
end Go.Proofs.YtbncfepdlmnmiaaGreatDoor.CheckpointRestores

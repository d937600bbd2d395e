/- For every text, ImageDecodes returns true and the text reads as it did; the listed variables hold what the program lays into them. -/
import Derived.Test.YtcjbfnojhpfchaaGreatDoorPlainD
import Derived.Test.YtcjbfnojhpfchaaGreatDoorLow
import Derived.Test.YtcjbfnojhpfchaaGreatDoorFactA
import Derived.Test.YtcjbfnojhpfchaaGreatDoorFactB
import Derived.Test.YtcjbfnojhpfchaaGreatDoorFactC
import Derived.Test.YtcjbfnojhpfchaaGreatDoorFactD
import Derived.Test.YtcjbfnojhpfchaaGreatDoorFactE
namespace Go.Proofs.YtcjbfnojhpfchaaGreatDoor.ImageDecodes
open Go.ChangeShapes Go.WideShapes Go.ChangeAt Go.RowKit
open Go.ChangeMaps (open_string shut_string)
open Go.Ab (Still rX)

theorem law(s:ByteArray)(W:World)(cO:laidMet Tryz.prog theLaid W):Calls Tryz.prog 4 #[.string s] W λe hB=>e = .returned (.bool true)∧Still W hB:=
  Ab.law_on_text (Ab.Y.ak1.of (Ab.Y.aqo _)) (good_laid cO)
set_option maxRecDepth 100000 in
theorem contract(H:Type)(enc:TypeId×Value→H)(W:World)(base:Nat)(args:Array Value)(ds gs:List (DataW H))(before:List MemPlace)
    (cx:∀(j:Nat) t v,Tryz.f4.params[j]? = some t→args[j]? = some v→Value.okWide Tryz.prog W .any base t v)
    (yd:DataW.Whole enc Tryz.prog Tryz.f4.params.toList Rows.imageDecodesSpec.vars false W args.toList ds gs before) (cO:laidMetH Tryz.prog Rows.imageDecodesRow.laid W):
    Calls Tryz.prog 4 args W λe hB=>∃v,e = .returned v∧Rows.imageDecodesSpec.post enc Tryz.prog Tryz.f4 false true false false W args v hB:=by
  have adP:=yd
  obtain⟨p,q,adQ,aqs,rfl,hfz,WO⟩:=yd
  have eW:DataW.TrodAll enc Tryz.prog W 0 (λ_=>true) true Tryz.f4.params.toList args.toList ds p:=adQ
  rw [Tryz.params4]at eW cx
  obtain⟨v0,arE,d0,arF,arG,agk,e7,rfl,rfl,h0,gY⟩:=trodAll_cons eW
  obtain⟨rfl,rfl,rfl⟩:=trodAll_nil gY
  obtain rfl:args = #[v0]:=by cases args;simp_all
  obtain⟨rfl,rfl⟩:=trodVars_none aqs
  obtain⟨s,rfl,rfl,rfl,ws⟩:=open_string Tryz.underlying9 (cx 0 9 v0 rfl rfl) h0
  clear adQ
  simp only [List.append_nil]at adP
  refine(law s W cO).mono λe hB ⟨he,hg⟩=>?_
  subst he
  exact⟨_,rfl,Ab.post_of_still (pa:=[]) (pv:=[]) adP (λ_ _ _=>trodAll_cons_mk (shut_bool Tryz.underlying4 _) trodAll_mk0) (λ_ _=>trodAll_cons_mk (shut_string Tryz.underlying9 ws) trodAll_mk0) (λ_ _=>rfl) rfl hg⟩
theorem reads(os:Os){H:Type}(enc:TypeId×Value→H):∃places,DataW.whole enc Tryz.prog ((laidWorld os).forCall (λ_ _=>0) ⟨#[],#[.string ⟨#[]⟩],[]⟩).memory Tryz.f4.params.toList Rows.imageDecodesSpec.vars false #[Value.string ⟨#[]⟩].toList 8=some ([.lit (.string [])],[],places):=
  ⟨[],by kernel_rfl⟩
set_option maxRecDepth 100000 in
theorem lifted(os:Os)(started:os.Started)(H:Type)(enc:TypeId×Value→H)(F:Stop.Interp):
    ReturnsInHanded {} Tryz.checked os 4 .any ((OpenSpec.ofChange Rows.imageDecodesSpec).preRow enc Tryz.prog Tryz.f4 Rows.imageDecodesRow.domain false Rows.imageDecodesRow.laid) (((OpenSpec.ofChange Rows.imageDecodesSpec).at F).post enc Tryz.prog Tryz.f4 false true false false):=by
  obtain⟨places,hx⟩:=reads os enc
  refine returnsInHanded_of_row (C:=Tryz.checked) (s:=OpenSpec.ofChange Rows.imageDecodesSpec) own started (by kernel_rfl) Tryz.func4
    (witness_row_at (enc:=enc) (C:=Tryz.checked) false (laidWorld os) #[.string ⟨#[]⟩] rfl (by kernel_rfl) (by kernel_rfl) (by kernel_rfl)
      (OpenSpec.preRow_of_cond 8 hx (by kernel_rfl) (λk hk=>by cases hk) (by kernel_rfl) (laid_met os))) ?_
  intro W base args ds gs before cx yd _ _ _ cO _ _
  exact contract H enc W base args ds gs before cx yd cO
theorem bt{a b:Bool}(h:a=true)(k:b=true):(a&&b)=true:=by rw [h,k];rfl
set_option maxRecDepth 100000 in
theorem closed:joinedFacts Tryz.pinned.checked.prog 4 Tryz.f4 (OpenSpec.ofChange Rows.imageDecodesSpec).bare Rows.imageDecodesRow=true:=bt (bt (bt (bt (bt (bt (bt (bt (bt (bt (bt (bt (bt (bt (bt (bt (bt (bt (bt (bt (bt (bt (bt (bt (bt (bt (bt (bt (bt (bt (bt j0 j1) j2) j3) j4) j5) j6) j7) j8) j9) j10) j11) j12) j13) j14) j15) j16) j17) j18) j19) j20) j21) j22) j23) j24) j25) j26) j27) j28) j29) j30) j31
theorem said:Rows.ImageDecodesSaid:=
  OpenClaim.holds_of_cond 4 Tryz.f4 rfl rfl rfl rfl rfl rfl rfl ⟨rfl,rfl,rfl,rfl,rfl⟩ rfl rfl rfl rfl rfl (by kernel_rfl) Tryz.func4 closed
    (of_decide_eq_true (by kernel_rfl)) (by unfold Func.isWrapper;first|(rw [if_pos (by decide +kernel)];kernel_rfl)|(rw [if_neg (by decide +kernel)];exact⟨rfl,rfl⟩))
    (λos started H enc _ F=>by rw [OpenClaim.pre_eq_preRow];exact lifted os started H enc F)
theorem plain (f : FuncId) (fn : Func) (b5 : Tryz.pinned.checked.prog.funcNamed "clockwork/clockworklaw48.ImageDecodes" = some f) (aqt : Tryz.pinned.checked.prog.funcs[f]? = some fn) :
    true=Tryz.pinned.checked.prog.looks []∧∀(j:Nat) t,fn.params[j]? = some t→Tryz.pinned.checked.prog.wantsStandIn t=false:=by
  obtain rfl : f = 4 := Option.some.inj ((show Tryz.prog.funcNamed "clockwork/clockworklaw48.ImageDecodes" = some 4 by kernel_rfl).symm.trans b5) |>.symm
  obtain rfl:fn=Tryz.f4:=(Option.some.inj (Tryz.func4.symm.trans aqt)).symm
  refine⟨j33,λj t aA=>?_⟩
  rw [Tryz.params4]at aA
  obtain rfl:t=9:=by simpa using Array.mem_of_getElem? aA
  exact(show Tryz.prog.wantsStandIn 9=false by kernel_rfl)
theorem card:Rows.ImageDecodesCardSaid:=
  Claim7.holds_tied_plain_at .later [] _ _ _ _ said (λ_ h=>by cases h) (by kernel_rfl) (λ_ h=>by cases h) imageDecodes_row_tie rfl ⟨rfl,rfl⟩ (by kernel_rfl) rfl plain j32
end Go.Proofs.YtcjbfnojhpfchaaGreatDoor.ImageDecodes

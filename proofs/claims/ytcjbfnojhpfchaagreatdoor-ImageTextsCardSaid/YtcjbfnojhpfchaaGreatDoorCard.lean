/- For every text, ImageTexts returns true and the text reads as it did; the listed variables hold what the program lays into them. -/
import Derived.Test.YtcjbfnojhpfchaaGreatDoorPlainD
import Derived.Test.YtcjbfnojhpfchaaGreatDoorLow
import Derived.Test.YtcjbfnojhpfchaaGreatDoorFactA
import Derived.Test.YtcjbfnojhpfchaaGreatDoorFactB
import Derived.Test.YtcjbfnojhpfchaaGreatDoorFactC
import Derived.Test.YtcjbfnojhpfchaaGreatDoorFactD
import Derived.Test.YtcjbfnojhpfchaaGreatDoorFactE
namespace Go.Proofs.YtcjbfnojhpfchaaGreatDoor.ImageTexts
open Go.ChangeShapes Go.WideShapes Go.ChangeAt Go.RowKit
open Go.ChangeMaps (open_string shut_string)
open Go.Ab (Still rb)

theorem law(s:ByteArray)(W:World)(cT:laidMet Tryz.prog theLaid W):Calls Tryz.prog 9 #[.string s] W λe gL=>e = .returned (.bool true)∧Still W gL:=
  Ab.law_on_text (Ab.Y.afZ.of (Ab.Y.alL _)) (good_laid cT)
set_option maxRecDepth 100000 in
theorem contract(H:Type)(enc:TypeId×Value→H)(W:World)(base:Nat)(args:Array Value)(ds gs:List (DataW H))(before:List MemPlace)
    (b':∀(j:Nat) t v,Tryz.f9.params[j]? = some t→args[j]? = some v→Value.okWide Tryz.prog W .any base t v)
    (w0:DataW.Whole enc Tryz.prog Tryz.f9.params.toList Rows.imageTextsSpec.vars false W args.toList ds gs before) (cT:laidMetH Tryz.prog Rows.imageTextsRow.laid W):
    Calls Tryz.prog 9 args W λe gL=>∃v,e = .returned v∧Rows.imageTextsSpec.post enc Tryz.prog Tryz.f9 false true false false W args v gL:=by
  have ZW:=w0
  obtain⟨p,q,ZX,alR,rfl,hfz,SW⟩:=w0
  have ev:DataW.TrodAll enc Tryz.prog W 0 (λ_=>true) true Tryz.f9.params.toList args.toList ds p:=ZX
  rw [Tryz.params9]at ev b'
  obtain⟨v0,am5,d0,am6,am7,acr,ey,rfl,rfl,h0,gr⟩:=trodAll_cons ev
  obtain⟨rfl,rfl,rfl⟩:=trodAll_nil gr
  obtain rfl:args = #[v0]:=by cases args;simp_all
  obtain⟨rfl,rfl⟩:=trodVars_none alR
  obtain⟨s,rfl,rfl,rfl,ws⟩:=open_string Tryz.underlying9 (b' 0 9 v0 rfl rfl) h0
  clear ZX
  simp only [List.append_nil]at ZW
  refine(law s W cT).mono λe gL ⟨he,hg⟩=>?_
  subst he
  exact⟨_,rfl,Ab.post_of_still (pa:=[]) (pv:=[]) ZW (λ_ _ _=>trodAll_cons_mk (shut_bool Tryz.underlying4 _) trodAll_mk0) (λ_ _=>trodAll_cons_mk (shut_string Tryz.underlying9 ws) trodAll_mk0) (λ_ _=>rfl) rfl hg⟩
theorem reads(os:Os){H:Type}(enc:TypeId×Value→H):∃places,DataW.whole enc Tryz.prog ((laidWorld os).forCall (λ_ _=>0) ⟨#[],#[.string ⟨#[]⟩],[]⟩).memory Tryz.f9.params.toList Rows.imageTextsSpec.vars false #[Value.string ⟨#[]⟩].toList 8=some ([.lit (.string [])],[],places):=
  ⟨[],by kernel_rfl⟩
set_option maxRecDepth 100000 in
theorem lifted(os:Os)(started:os.Started)(H:Type)(enc:TypeId×Value→H)(F:Stop.Interp):
    ReturnsInHanded {} Tryz.checked os 9 .any ((OpenSpec.ofChange Rows.imageTextsSpec).preRow enc Tryz.prog Tryz.f9 Rows.imageTextsRow.domain false Rows.imageTextsRow.laid) (((OpenSpec.ofChange Rows.imageTextsSpec).at F).post enc Tryz.prog Tryz.f9 false true false false):=by
  obtain⟨places,hx⟩:=reads os enc
  refine returnsInHanded_of_row (C:=Tryz.checked) (s:=OpenSpec.ofChange Rows.imageTextsSpec) own started (by kernel_rfl) Tryz.func9
    (witness_row_at (enc:=enc) (C:=Tryz.checked) false (laidWorld os) #[.string ⟨#[]⟩] rfl (by kernel_rfl) (by kernel_rfl) (by kernel_rfl)
      (OpenSpec.preRow_of_cond 8 hx (by kernel_rfl) (λk hk=>by cases hk) (by kernel_rfl) (laid_met os))) ?_
  intro W base args ds gs before b' w0 _ _ _ cT _ _
  exact contract H enc W base args ds gs before b' w0 cT
theorem bt{a b:Bool}(h:a=true)(k:b=true):(a&&b)=true:=by rw [h,k];rfl
set_option maxRecDepth 100000 in
theorem closed:joinedFacts Tryz.pinned.checked.prog 9 Tryz.f9 (OpenSpec.ofChange Rows.imageTextsSpec).bare Rows.imageTextsRow=true:=bt (bt (bt (bt (bt (bt (bt (bt (bt (bt (bt (bt (bt (bt (bt (bt (bt (bt (bt (bt (bt (bt (bt (bt (bt (bt (bt (bt (bt (bt (bt j0 j1) j2) j3) j4) j5) j6) j7) j8) j9) j10) j11) j12) j13) j14) j15) j16) j17) j18) j19) j20) j21) j22) j23) j24) j25) j26) j27) j28) j29) j30) j31
theorem said:Rows.ImageTextsSaid:=
  OpenClaim.holds_of_cond 9 Tryz.f9 rfl rfl rfl rfl rfl rfl rfl ⟨rfl,rfl,rfl,rfl,rfl⟩ rfl rfl rfl rfl rfl (by kernel_rfl) Tryz.func9 closed
    (of_decide_eq_true (by kernel_rfl)) (by unfold Func.isWrapper;first|(rw [if_pos (by decide +kernel)];kernel_rfl)|(rw [if_neg (by decide +kernel)];exact⟨rfl,rfl⟩))
    (λos started H enc _ F=>by rw [OpenClaim.pre_eq_preRow];exact lifted os started H enc F)
theorem plain (f : FuncId) (fn : Func) (bJ : Tryz.pinned.checked.prog.funcNamed "clockwork/clockworklaw48.ImageTexts" = some f) (alS : Tryz.pinned.checked.prog.funcs[f]? = some fn) :
    true=Tryz.pinned.checked.prog.looks []∧∀(j:Nat) t,fn.params[j]? = some t→Tryz.pinned.checked.prog.wantsStandIn t=false:=by
  obtain rfl : f = 9 := Option.some.inj ((show Tryz.prog.funcNamed "clockwork/clockworklaw48.ImageTexts" = some 9 by kernel_rfl).symm.trans bJ) |>.symm
  obtain rfl:fn=Tryz.f9:=(Option.some.inj (Tryz.func9.symm.trans alS)).symm
  refine⟨j33,λj t aB=>?_⟩
  rw [Tryz.params9]at aB
  obtain rfl:t=9:=by simpa using Array.mem_of_getElem? aB
  exact(show Tryz.prog.wantsStandIn 9=false by kernel_rfl)
theorem card:Rows.ImageTextsCardSaid:=
  Claim7.holds_tied_plain_at .later [] _ _ _ _ said (λ_ h=>by cases h) (by kernel_rfl) (λ_ h=>by cases h) imageTexts_row_tie rfl ⟨rfl,rfl⟩ (by kernel_rfl) rfl plain j32
end Go.Proofs.YtcjbfnojhpfchaaGreatDoor.ImageTexts

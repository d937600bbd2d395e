/- For every replica, ImageFlats returns true and its arguments read as they did; the listed variables hold what the program lays into them. -/
import Derived.Test.YtcjbfnojhpfchaaGreatDoorPlainD
import Derived.Test.YtcjbfnojhpfchaaGreatDoorLow
import Derived.Test.YtcjbfnojhpfchaaGreatDoorFactA
import Derived.Test.YtcjbfnojhpfchaaGreatDoorFactB
import Derived.Test.YtcjbfnojhpfchaaGreatDoorFactC
import Derived.Test.YtcjbfnojhpfchaaGreatDoorFactD
import Derived.Test.YtcjbfnojhpfchaaGreatDoorFactE
namespace Go.Proofs.YtcjbfnojhpfchaaGreatDoor.ImageFlats
open Go.ChangeShapes Go.WideShapes Go.ChangeAt Go.RowKit
open Go.ChangeMaps (open_string shut_string)
open Go.Ab (Still r_)

theorem law(b3:Ab.Y.b7)(fl:Ab.Y.tk b3)(c0:List Value)(W:World)(dG:Ab.gg W c0 (Ab.Y.XW b3).cells)(cZ:laidMet Tryz.prog theLaid W):Calls Tryz.prog 8 #[.agg ⟨c0⟩] W λe hz=>e = .returned (.bool true)∧Still W hz:=
  Ab.law_on (vs:=[.agg ⟨c0⟩]) (Ab.Y.ak1.of (Ab.Y.ar0 b3 fl)) (good_laid cZ) rfl λi v d aw hd=>by
    match i with
    | 0=>cases aw;cases hd;exact .v _ _ (Ab.gg.agg dG)
    |i+1=>simp at aw
theorem kids:Kids Tryz.prog (· < Tryz.prog.types.size):=kids_rows (by kernel_rfl) (by kernel_rfl)
theorem full:∀t e,t<Tryz.prog.types.size→Tryz.prog.underlying t=some (.slice e)→0<Tryz.prog.cellsOf e:=slices_full_of Tryz.prog (by kernel_rfl)
set_option maxRecDepth 100000 in
theorem contract(H:Type)(enc:TypeId×Value→H)(W:World)(base:Nat)(args:Array Value)(ds gs:List (DataW H))(before:List MemPlace)
    (cj:∀(j:Nat) t v,Tryz.f8.params[j]? = some t→args[j]? = some v→Value.okWide Tryz.prog W .any base t v)
    (xK:DataW.Whole enc Tryz.prog Tryz.f8.params.toList Rows.imageFlatsSpec.vars false W args.toList ds gs before) (cZ:laidMetH Tryz.prog Rows.imageFlatsRow.laid W):
    Calls Tryz.prog 8 args W λe hz=>∃v,e = .returned v∧Rows.imageFlatsSpec.post enc Tryz.prog Tryz.f8 false true false false W args v hz:=by
  have ad5:=xK
  obtain⟨p,q,ad6,ar4,rfl,hfz,WC⟩:=xK
  have aN:DataW.TrodAll enc Tryz.prog W 0 (λ_=>true) true Tryz.f8.params.toList args.toList ds p:=ad6
  rw [Tryz.params8]at aN cj
  obtain⟨v0,atD,d0,atE,ar5,agz,g0,rfl,rfl,h0,FE⟩:=trodAll_cons aN
  obtain⟨rfl,rfl,rfl⟩:=trodAll_nil FE
  obtain rfl:args = #[v0]:=by cases args;simp_all
  obtain⟨rfl,rfl⟩:=trodVars_none ar4
  have sj:∃cs:Array Value,v0 = .agg cs:=by
    have h:=cj 0 34 v0 rfl rfl
    unfold Value.okWide at h
    rw [Tryz.underlying34]at h
    obtain⟨cs,h,_⟩:=h
    exact⟨cs,h⟩
  obtain⟨⟨c0⟩,rfl⟩:=sj
  obtain⟨ar6,B8⟩:=h0
  obtain⟨b3,fl,dG⟩:=Ab.Y.arx ar6 c0 _ B8
  clear ad6
  simp only [List.append_nil]at ad5
  refine(law b3 fl c0 W dG cZ).mono λe hz ⟨he,hg⟩=>?_
  subst he
  refine⟨_,rfl,Ab.post_of_still (pa:=ar5) (pv:=[]) ad5 (λ_ _ _=>trodAll_cons_mk (shut_bool Tryz.underlying4 _) trodAll_mk0) (λsp hs=>?_) (λ_ _=>rfl) (by simp) hg⟩
  have h:=Ab.args_still kids full (ts:=[34]) (by decide +kernel) aN hg sp (by simpa using hs)
  simp only [List.append_nil]at h
  rw [Tryz.params8]
  exact h
def theArg:Value:=.agg ⟨[.int .i64 0,.int .i64 0,.int .i64 0,.slice none 0 0,.slice none 0 0,.slice none 0 0,.int .i64 0,.slice none 0 0,.slice none 0 0,.slice none 0 0,.int .u64 0]⟩
theorem laid_met8(os:Os):laidMet Tryz.prog theLaid ((laidWorld os).forCall (λ_ _=>0) ⟨#[],#[theArg],[]⟩).memory:=
  laidMet_of_run' 8 (by kernel_rfl) (by kernel_rfl)
theorem reads(os:Os){H:Type}(enc:TypeId×Value→H):∃ds places,DataW.whole enc Tryz.prog ((laidWorld os).forCall (λ_ _=>0) ⟨#[],#[theArg],[]⟩).memory Tryz.f8.params.toList Rows.imageFlatsSpec.vars false #[theArg].toList 8=some (ds,[],places):=
  ⟨[.agg [.lit (.int .i64 0),.agg [.lit (.int .i64 0),.lit (.int .i64 0),.nil],.nil,.nil,.agg [.lit (.int .i64 0),.nil],.nil,.nil,.lit (.int .u64 0)]],[],by kernel_rfl⟩
set_option maxRecDepth 100000 in
theorem lifted(os:Os)(started:os.Started)(H:Type)(enc:TypeId×Value→H)(F:Stop.Interp):
    ReturnsInHanded {} Tryz.checked os 8 .any ((OpenSpec.ofChange Rows.imageFlatsSpec).preRow enc Tryz.prog Tryz.f8 Rows.imageFlatsRow.domain false Rows.imageFlatsRow.laid) (((OpenSpec.ofChange Rows.imageFlatsSpec).at F).post enc Tryz.prog Tryz.f8 false true false false):=by
  obtain⟨ds,places,hx⟩:=reads os enc
  refine returnsInHanded_of_row (C:=Tryz.checked) (s:=OpenSpec.ofChange Rows.imageFlatsSpec) own started (by kernel_rfl) Tryz.func8
    (witness_row_at (enc:=enc) (C:=Tryz.checked) false (laidWorld os) #[theArg] rfl (by kernel_rfl) (by kernel_rfl) (by kernel_rfl)
      (OpenSpec.preRow_of_cond 8 hx (by kernel_rfl) (λk hk=>by cases hk) (by kernel_rfl) (laid_met8 os))) ?_
  intro W base args ds gs before cj xK _ _ _ cZ _ _
  exact contract H enc W base args ds gs before cj xK cZ
theorem bt{a b:Bool}(h:a=true)(k:b=true):(a&&b)=true:=by rw [h,k];rfl
set_option maxRecDepth 100000 in
theorem closed:joinedFacts Tryz.pinned.checked.prog 8 Tryz.f8 (OpenSpec.ofChange Rows.imageFlatsSpec).bare Rows.imageFlatsRow=true:=bt (bt (bt (bt (bt (bt (bt (bt (bt (bt (bt (bt (bt (bt (bt (bt (bt (bt (bt (bt (bt (bt (bt (bt (bt (bt (bt (bt (bt (bt (bt j0 j1) j2) j3) j4) j5) j6) j7) j8) j9) j10) j11) j12) j13) j14) j15) j16) j17) j18) j19) j20) j21) j22) j23) j24) j25) j26) j27) j28) j29) j30) j31
theorem said:Rows.ImageFlatsSaid:=
  OpenClaim.holds_of_cond 8 Tryz.f8 rfl rfl rfl rfl rfl rfl rfl ⟨rfl,rfl,rfl,rfl,rfl⟩ rfl rfl rfl rfl rfl (by kernel_rfl) Tryz.func8 closed
    (of_decide_eq_true (by kernel_rfl)) (by unfold Func.isWrapper;first|(rw [if_pos (by decide +kernel)];kernel_rfl)|(rw [if_neg (by decide +kernel)];exact⟨rfl,rfl⟩))
    (λos started H enc _ F=>by rw [OpenClaim.pre_eq_preRow];exact lifted os started H enc F)
theorem plain (f : FuncId) (fn : Func) (aW : Tryz.pinned.checked.prog.funcNamed "clockwork/clockworklaw48.ImageFlats" = some f) (ar7 : Tryz.pinned.checked.prog.funcs[f]? = some fn) :
    true=Tryz.pinned.checked.prog.looks []∧∀(j:Nat) t,fn.params[j]? = some t→Tryz.pinned.checked.prog.wantsStandIn t=false:=by
  obtain rfl : f = 8 := Option.some.inj ((show Tryz.prog.funcNamed "clockwork/clockworklaw48.ImageFlats" = some 8 by kernel_rfl).symm.trans aW) |>.symm
  obtain rfl:fn=Tryz.f8:=(Option.some.inj (Tryz.func8.symm.trans ar7)).symm
  refine⟨j33,λj t aF=>?_⟩
  rw [Tryz.params8]at aF
  obtain rfl:t=34:=by simpa using Array.mem_of_getElem? aF
  exact(show Tryz.prog.wantsStandIn 34=false by kernel_rfl)
theorem card:Rows.ImageFlatsCardSaid:=
  Claim7.holds_tied_plain_at .later [] _ _ _ _ said (λ_ h=>by cases h) (by kernel_rfl) (λ_ h=>by cases h) imageFlats_row_tie rfl ⟨rfl,rfl⟩ (by kernel_rfl) rfl plain j32
end Go.Proofs.YtcjbfnojhpfchaaGreatDoor.ImageFlats

/- For every replica, ImageRoundTrips returns true and its arguments read as they did; the listed variables hold what the program lays into them. -/
import Derived.Test.YtcjbfnojhpfchaaGreatDoorPlainD
import Derived.Test.YtcjbfnojhpfchaaGreatDoorLow
import Derived.Test.YtcjbfnojhpfchaaGreatDoorFactA
import Derived.Test.YtcjbfnojhpfchaaGreatDoorFactB
import Derived.Test.YtcjbfnojhpfchaaGreatDoorFactC
import Derived.Test.YtcjbfnojhpfchaaGreatDoorFactD
import Derived.Test.YtcjbfnojhpfchaaGreatDoorFactE
namespace Go.Proofs.YtcjbfnojhpfchaaGreatDoor.ImageRoundTrips
open Go.ChangeShapes Go.WideShapes Go.ChangeAt Go.RowKit
open Go.ChangeMaps (open_string shut_string)
open Go.Ab (Still q2)

theorem law(bN:Ab.Y.bP)(e4:Ab.Y.tJ bN)(c0:List Value)(W:World)(dk:Ab.fP W c0 (Ab.Y.Tt bN).cells)(cL:laidMet Tryz.prog theLaid W):Calls Tryz.prog 7 #[.agg ⟨c0⟩] W λe gK=>e = .returned (.bool true)∧Still W gK:=
  Ab.law_on (vs:=[.agg ⟨c0⟩]) (Ab.Y.afr.of (Ab.Y.alR bN e4)) (good_laid cL) rfl λi v d an hd=>by
    match i with
    | 0=>cases an;cases hd;exact .v _ _ (Ab.fP.agg dk)
    |i+1=>simp at an
theorem kids:Kids Tryz.prog (· < Tryz.prog.types.size):=kids_rows (by kernel_rfl) (by kernel_rfl)
theorem full:∀t e,t<Tryz.prog.types.size→Tryz.prog.underlying t=some (.slice e)→0<Tryz.prog.cellsOf e:=slices_full_of Tryz.prog (by kernel_rfl)
set_option maxRecDepth 100000 in
theorem contract(H:Type)(enc:TypeId×Value→H)(W:World)(base:Nat)(args:Array Value)(ds gs:List (DataW H))(before:List MemPlace)
    (b6:∀(j:Nat) t v,Tryz.f7.params[j]? = some t→args[j]? = some v→Value.okWide Tryz.prog W .any base t v)
    (wy:DataW.Whole enc Tryz.prog Tryz.f7.params.toList Rows.imageRoundTripsSpec.vars false W args.toList ds gs before) (cL:laidMetH Tryz.prog Rows.imageRoundTripsRow.laid W):
    Calls Tryz.prog 7 args W λe gK=>∃v,e = .returned v∧Rows.imageRoundTripsSpec.post enc Tryz.prog Tryz.f7 false true false false W args v gK:=by
  have Ze:=wy
  obtain⟨p,q,Zf,alW,rfl,hfz,Sa⟩:=wy
  have aI:DataW.TrodAll enc Tryz.prog W 0 (λ_=>true) true Tryz.f7.params.toList args.toList ds p:=Zf
  rw [Tryz.params7]at aI b6
  obtain⟨v0,anA,d0,anB,alX,abK,g0,rfl,rfl,h0,Dc⟩:=trodAll_cons aI
  obtain⟨rfl,rfl,rfl⟩:=trodAll_nil Dc
  obtain rfl:args = #[v0]:=by cases args;simp_all
  obtain⟨rfl,rfl⟩:=trodVars_none alW
  have ra:∃cs:Array Value,v0 = .agg cs:=by
    have h:=b6 0 34 v0 rfl rfl
    unfold Value.okWide at h
    rw [Tryz.underlying34]at h
    obtain⟨cs,h,_⟩:=h
    exact⟨cs,h⟩
  obtain⟨⟨c0⟩,rfl⟩:=ra
  obtain⟨alY,At⟩:=h0
  obtain⟨bN,e4,dk⟩:=Ab.Y.alk alY c0 _ At
  clear Zf
  simp only [List.append_nil]at Ze
  refine(law bN e4 c0 W dk cL).mono λe gK ⟨he,hg⟩=>?_
  subst he
  refine⟨_,rfl,Ab.post_of_still (pa:=alX) (pv:=[]) Ze (λ_ _ _=>trodAll_cons_mk (shut_bool Tryz.underlying4 _) trodAll_mk0) (λsp hs=>?_) (λ_ _=>rfl) (by simp) hg⟩
  have h:=Ab.args_still kids full (ts:=[34]) (by decide +kernel) aI hg sp (by simpa using hs)
  simp only [List.append_nil]at h
  rw [Tryz.params7]
  exact h
def theArg:Value:=.agg ⟨[.int .i64 0,.int .i64 0,.int .i64 0,.slice none 0 0,.slice none 0 0,.slice none 0 0,.int .i64 0,.slice none 0 0,.slice none 0 0,.slice none 0 0,.int .u64 0]⟩
theorem laid_met8(os:Os):laidMet Tryz.prog theLaid ((laidWorld os).forCall (λ_ _=>0) ⟨#[],#[theArg],[]⟩).memory:=
  laidMet_of_run' 8 (by kernel_rfl) (by kernel_rfl)
theorem reads(os:Os){H:Type}(enc:TypeId×Value→H):∃ds places,DataW.whole enc Tryz.prog ((laidWorld os).forCall (λ_ _=>0) ⟨#[],#[theArg],[]⟩).memory Tryz.f7.params.toList Rows.imageRoundTripsSpec.vars false #[theArg].toList 8=some (ds,[],places):=
  ⟨[.agg [.lit (.int .i64 0),.agg [.lit (.int .i64 0),.lit (.int .i64 0),.nil],.nil,.nil,.agg [.lit (.int .i64 0),.nil],.nil,.nil,.lit (.int .u64 0)]],[],by kernel_rfl⟩
set_option maxRecDepth 100000 in
theorem lifted(os:Os)(started:os.Started)(H:Type)(enc:TypeId×Value→H)(F:Stop.Interp):
    ReturnsInHanded {} Tryz.checked os 7 .any ((OpenSpec.ofChange Rows.imageRoundTripsSpec).preRow enc Tryz.prog Tryz.f7 Rows.imageRoundTripsRow.domain false Rows.imageRoundTripsRow.laid) (((OpenSpec.ofChange Rows.imageRoundTripsSpec).at F).post enc Tryz.prog Tryz.f7 false true false false):=by
  obtain⟨ds,places,hx⟩:=reads os enc
  refine returnsInHanded_of_row (C:=Tryz.checked) (s:=OpenSpec.ofChange Rows.imageRoundTripsSpec) own started (by kernel_rfl) Tryz.func7
    (witness_row_at (enc:=enc) (C:=Tryz.checked) false (laidWorld os) #[theArg] rfl (by kernel_rfl) (by kernel_rfl) (by kernel_rfl)
      (OpenSpec.preRow_of_cond 8 hx (by kernel_rfl) (λk hk=>by cases hk) (by kernel_rfl) (laid_met8 os))) ?_
  intro W base args ds gs before b6 wy _ _ _ cL _ _
  exact contract H enc W base args ds gs before b6 wy cL
theorem bt{a b:Bool}(h:a=true)(k:b=true):(a&&b)=true:=by rw [h,k];rfl
set_option maxRecDepth 100000 in
theorem closed:joinedFacts Tryz.pinned.checked.prog 7 Tryz.f7 (OpenSpec.ofChange Rows.imageRoundTripsSpec).bare Rows.imageRoundTripsRow=true:=bt (bt (bt (bt (bt (bt (bt (bt (bt (bt (bt (bt (bt (bt (bt (bt (bt (bt (bt (bt (bt (bt (bt (bt (bt (bt (bt (bt (bt (bt (bt j0 j1) j2) j3) j4) j5) j6) j7) j8) j9) j10) j11) j12) j13) j14) j15) j16) j17) j18) j19) j20) j21) j22) j23) j24) j25) j26) j27) j28) j29) j30) j31
theorem said:Rows.ImageRoundTripsSaid:=
  OpenClaim.holds_of_cond 7 Tryz.f7 rfl rfl rfl rfl rfl rfl rfl ⟨rfl,rfl,rfl,rfl,rfl⟩ rfl rfl rfl rfl rfl (by kernel_rfl) Tryz.func7 closed
    (of_decide_eq_true (by kernel_rfl)) (by unfold Func.isWrapper;first|(rw [if_pos (by decide +kernel)];kernel_rfl)|(rw [if_neg (by decide +kernel)];exact⟨rfl,rfl⟩))
    (λos started H enc _ F=>by rw [OpenClaim.pre_eq_preRow];exact lifted os started H enc F)
theorem plain (f : FuncId) (fn : Func) (aN : Tryz.pinned.checked.prog.funcNamed "clockwork/clockworklaw48.ImageRoundTrips" = some f) (alZ : Tryz.pinned.checked.prog.funcs[f]? = some fn) :
    true=Tryz.pinned.checked.prog.looks []∧∀(j:Nat) t,fn.params[j]? = some t→Tryz.pinned.checked.prog.wantsStandIn t=false:=by
  obtain rfl : f = 7 := Option.some.inj ((show Tryz.prog.funcNamed "clockwork/clockworklaw48.ImageRoundTrips" = some 7 by kernel_rfl).symm.trans aN) |>.symm
  obtain rfl:fn=Tryz.f7:=(Option.some.inj (Tryz.func7.symm.trans alZ)).symm
  refine⟨j33,λj t aC=>?_⟩
  rw [Tryz.params7]at aC
  obtain rfl:t=34:=by simpa using Array.mem_of_getElem? aC
  exact(show Tryz.prog.wantsStandIn 34=false by kernel_rfl)
theorem card:Rows.ImageRoundTripsCardSaid:=
  Claim7.holds_tied_plain_at .later [] _ _ _ _ said (λ_ h=>by cases h) (by kernel_rfl) (λ_ h=>by cases h) imageRoundTrips_row_tie rfl ⟨rfl,rfl⟩ (by kernel_rfl) rfl plain j32
end Go.Proofs.YtcjbfnojhpfchaaGreatDoor.ImageRoundTrips

/- For every replica, ImageDistinct returns true and its arguments read as they did; the listed variables hold what the program lays into them. -/
import Derived.Test.YtcjbfnojhpfchaaGreatDoorPlainB
import Derived.Test.YtcjbfnojhpfchaaGreatDoorLow
import Derived.Test.YtcjbfnojhpfchaaGreatDoorFactA
import Derived.Test.YtcjbfnojhpfchaaGreatDoorFactB
import Derived.Test.YtcjbfnojhpfchaaGreatDoorFactC
import Derived.Test.YtcjbfnojhpfchaaGreatDoorFactD
import Derived.Test.YtcjbfnojhpfchaaGreatDoorFactE
namespace Go.Proofs.YtcjbfnojhpfchaaGreatDoor.ImageDistinct
open Go.ChangeShapes Go.WideShapes Go.ChangeAt Go.RowKit
open Go.ChangeMaps (open_string shut_string)
open Go.Ab (Still oF)

theorem law(bW:Ab.Y.b_)(ez:Ab.Y.ow bW)(c0:List Value)(e1:Ab.Y.b_)(cq:Ab.Y.ow e1)(c1:List Value)(W:World)(cZ:Ab.eY W c0 (Ab.Y.EO bW).cells)(ah:Ab.eY W c1 (Ab.Y.EO e1).cells)(lh:laidMet Tryz.prog theLaid W):Calls Tryz.prog 6 #[.agg ⟨c0⟩,.agg ⟨c1⟩] W λe fW=>e = .returned (.bool true)∧Still W fW:=
  Ab.law_on (vs:=[.agg ⟨c0⟩,.agg ⟨c1⟩]) (Ab.Y.Zf.of (Ab.Y.ada bW e1 ez cq)) (good_laid lh) rfl λi v d ar hd=>by
    match i with
    | 0=>cases ar;cases hd;exact .v _ _ (Ab.eY.agg cZ)
    | 1=>cases ar;cases hd;exact .v _ _ (Ab.eY.agg ah)
    |i+2=>simp at ar
theorem kids:Kids Tryz.prog (· < Tryz.prog.types.size):=kids_rows (by kernel_rfl) (by kernel_rfl)
theorem full:∀t e,t<Tryz.prog.types.size→Tryz.prog.underlying t=some (.slice e)→0<Tryz.prog.cellsOf e:=slices_full_of Tryz.prog (by kernel_rfl)
set_option maxRecDepth 100000 in
theorem contract(H:Type)(enc:TypeId×Value→H)(W:World)(base:Nat)(args:Array Value)(ds gs:List (DataW H))(before:List MemPlace)
    (bO:∀(j:Nat) t v,Tryz.f6.params[j]? = some t→args[j]? = some v→Value.okWide Tryz.prog W .any base t v)
    (sK:DataW.Whole enc Tryz.prog Tryz.f6.params.toList Rows.imageDistinctSpec.vars false W args.toList ds gs before) (lh:laidMetH Tryz.prog Rows.imageDistinctRow.laid W):
    Calls Tryz.prog 6 args W λe fW=>∃v,e = .returned v∧Rows.imageDistinctSpec.post enc Tryz.prog Tryz.f6 false true false false W args v fW:=by
  have SX:=sK
  obtain⟨p,q,SY,adg,rfl,hfz,K'⟩:=sK
  have ei:DataW.TrodAll enc Tryz.prog W 0 (λ_=>true) true Tryz.f6.params.toList args.toList ds p:=SY
  rw [Tryz.params6]at ei bO
  obtain⟨v0,aeO,d0,aeP,adh,Vu,g0,rfl,rfl,h0,x'⟩:=trodAll_cons ei
  obtain⟨v1,iz,d1,ade,fg,aO,g1,rfl,rfl,Z,adi⟩:=trodAll_cons x'
  obtain⟨rfl,rfl,rfl⟩:=trodAll_nil adi
  obtain rfl:args = #[v0,v1]:=by cases args;simp_all
  obtain⟨rfl,rfl⟩:=trodVars_none adg
  have oP:∃cs:Array Value,v0 = .agg cs:=by
    have h:=bO 0 34 v0 rfl rfl
    unfold Value.okWide at h
    rw [Tryz.underlying34]at h
    obtain⟨cs,h,_⟩:=h
    exact⟨cs,h⟩
  obtain⟨⟨c0⟩,rfl⟩:=oP
  obtain⟨adj,vK⟩:=h0
  obtain⟨bW,ez,cZ⟩:=Ab.Y.SQ adj c0 _ vK
  have nI:∃cs:Array Value,v1 = .agg cs:=by
    have h:=bO 1 34 v1 rfl rfl
    unfold Value.okWide at h
    rw [Tryz.underlying34]at h
    obtain⟨cs,h,_⟩:=h
    exact⟨cs,h⟩
  obtain⟨⟨c1⟩,rfl⟩:=nI
  obtain⟨adk,py⟩:=Z
  obtain⟨e1,cq,ah⟩:=Ab.Y.SQ adk c1 _ py
  clear SY
  simp only [List.append_nil]at SX
  refine(law bW ez c0 e1 cq c1 W cZ ah lh).mono λe fW ⟨he,hg⟩=>?_
  subst he
  refine⟨_,rfl,Ab.post_of_still (pa:=adh++fg) (pv:=[]) SX (λ_ _ _=>trodAll_cons_mk (shut_bool Tryz.underlying4 _) trodAll_mk0) (λsp hs=>?_) (λ_ _=>rfl) (by simp) hg⟩
  have h:=Ab.args_still kids full (ts:=[34,34]) (by decide +kernel) ei hg sp (by simpa using hs)
  simp only [List.append_nil]at h
  rw [Tryz.params6]
  exact h
def theArg:Value:=.agg ⟨[.int .i64 0,.int .i64 0,.int .i64 0,.slice none 0 0,.slice none 0 0,.slice none 0 0,.int .i64 0,.slice none 0 0,.slice none 0 0,.slice none 0 0,.int .u64 0]⟩
theorem laid_met8(os:Os):laidMet Tryz.prog theLaid ((laidWorld os).forCall (λ_ _=>0) ⟨#[],#[theArg,theArg],[]⟩).memory:=
  laidMet_of_run' 8 (by kernel_rfl) (by kernel_rfl)
theorem reads(os:Os){H:Type}(enc:TypeId×Value→H):∃ds places,DataW.whole enc Tryz.prog ((laidWorld os).forCall (λ_ _=>0) ⟨#[],#[theArg,theArg],[]⟩).memory Tryz.f6.params.toList Rows.imageDistinctSpec.vars false #[theArg,theArg].toList 8=some (ds,[],places):=
  ⟨[.agg [.lit (.int .i64 0),.agg [.lit (.int .i64 0),.lit (.int .i64 0),.nil],.nil,.nil,.agg [.lit (.int .i64 0),.nil],.nil,.nil,.lit (.int .u64 0)],.agg [.lit (.int .i64 0),.agg [.lit (.int .i64 0),.lit (.int .i64 0),.nil],.nil,.nil,.agg [.lit (.int .i64 0),.nil],.nil,.nil,.lit (.int .u64 0)]],[],by kernel_rfl⟩
set_option maxRecDepth 100000 in
theorem lifted(os:Os)(started:os.Started)(H:Type)(enc:TypeId×Value→H)(F:Stop.Interp):
    ReturnsInHanded {} Tryz.checked os 6 .any ((OpenSpec.ofChange Rows.imageDistinctSpec).preRow enc Tryz.prog Tryz.f6 Rows.imageDistinctRow.domain false Rows.imageDistinctRow.laid) (((OpenSpec.ofChange Rows.imageDistinctSpec).at F).post enc Tryz.prog Tryz.f6 false true false false):=by
  obtain⟨ds,places,hx⟩:=reads os enc
  refine returnsInHanded_of_row (C:=Tryz.checked) (s:=OpenSpec.ofChange Rows.imageDistinctSpec) own started (by kernel_rfl) Tryz.func6
    (witness_row_at (enc:=enc) (C:=Tryz.checked) false (laidWorld os) #[theArg,theArg] rfl (by kernel_rfl) (by kernel_rfl) (by kernel_rfl)
      (OpenSpec.preRow_of_cond 8 hx (by kernel_rfl) (λk hk=>by cases hk) (by kernel_rfl) (laid_met8 os))) ?_
  intro W base args ds gs before bO sK _ _ _ lh _ _
  exact contract H enc W base args ds gs before bO sK lh
theorem bt{a b:Bool}(h:a=true)(k:b=true):(a&&b)=true:=by rw [h,k];rfl
set_option maxRecDepth 100000 in
theorem closed:joinedFacts Tryz.pinned.checked.prog 6 Tryz.f6 (OpenSpec.ofChange Rows.imageDistinctSpec).bare Rows.imageDistinctRow=true:=bt (bt (bt (bt (bt (bt (bt (bt (bt (bt (bt (bt (bt (bt (bt (bt (bt (bt (bt (bt (bt (bt (bt (bt (bt (bt (bt (bt (bt (bt (bt j0 j1) j2) j3) j4) j5) j6) j7) j8) j9) j10) j11) j12) j13) j14) j15) j16) j17) j18) j19) j20) j21) j22) j23) j24) j25) j26) j27) j28) j29) j30) j31
theorem said:Rows.ImageDistinctSaid:=
  OpenClaim.holds_of_cond 6 Tryz.f6 rfl rfl rfl rfl rfl rfl rfl ⟨rfl,rfl,rfl,rfl,rfl⟩ rfl rfl rfl rfl rfl (by kernel_rfl) Tryz.func6 closed
    (of_decide_eq_true (by kernel_rfl)) (by unfold Func.isWrapper;first|(rw [if_pos (by decide +kernel)];kernel_rfl)|(rw [if_neg (by decide +kernel)];exact⟨rfl,rfl⟩))
    (λos started H enc _ F=>by rw [OpenClaim.pre_eq_preRow];exact lifted os started H enc F)
theorem plain (f : FuncId) (fn : Func) (a7 : Tryz.pinned.checked.prog.funcNamed "clockwork/clockworklaw48.ImageDistinct" = some f) (adl : Tryz.pinned.checked.prog.funcs[f]? = some fn) :
    true=Tryz.pinned.checked.prog.looks []∧∀(j:Nat) t,fn.params[j]? = some t→Tryz.pinned.checked.prog.wantsStandIn t=false:=by
  obtain rfl : f = 6 := Option.some.inj ((show Tryz.prog.funcNamed "clockwork/clockworklaw48.ImageDistinct" = some 6 by kernel_rfl).symm.trans a7) |>.symm
  obtain rfl:fn=Tryz.f6:=(Option.some.inj (Tryz.func6.symm.trans adl)).symm
  refine⟨j33,λj t bH=>?_⟩
  rw [Tryz.params6]at bH
  obtain rfl:t=34:=by simpa using Array.mem_of_getElem? bH
  exact(show Tryz.prog.wantsStandIn 34=false by kernel_rfl)
theorem card:Rows.ImageDistinctCardSaid:=
  Claim7.holds_tied_plain_at .later [] _ _ _ _ said (λ_ h=>by cases h) (by kernel_rfl) (λ_ h=>by cases h) imageDistinct_row_tie rfl ⟨rfl,rfl⟩ (by kernel_rfl) rfl plain j32
end Go.Proofs.YtcjbfnojhpfchaaGreatDoor.ImageDistinct

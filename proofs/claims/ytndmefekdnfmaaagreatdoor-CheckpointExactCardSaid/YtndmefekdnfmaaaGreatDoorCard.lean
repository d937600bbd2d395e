/- For every replica and every list of operations, CheckpointExact returns true and its arguments read as they did; the listed variables hold what the program lays into them. -/
import Derived.Test.YtndmefekdnfmaaaGreatDoorPlainE
import Derived.Test.YtndmefekdnfmaaaGreatDoorLow
import Derived.Test.YtndmefekdnfmaaaGreatDoorFactA
import Derived.Test.YtndmefekdnfmaaaGreatDoorFactB
import Derived.Test.YtndmefekdnfmaaaGreatDoorFactC
import Derived.Test.YtndmefekdnfmaaaGreatDoorFactD
import Derived.Test.YtndmefekdnfmaaaGreatDoorFactE
namespace Go.Proofs.YtndmefekdnfmaaaGreatDoor.CheckpointExact
open Go.ChangeShapes Go.WideShapes Go.ChangeAt Go.RowKit
open Go.ChangeMaps (open_string shut_string)
open Go.Ab (Still ta)

theorem law(bN:Ab.Y.bK)(gO:Ab.Y.oX bN)(c0:List Value)(e1:List Ab.Y.qY)(df:e1.length<=9223372036854775807/\∀i,i<e1.length->Ab.Y.KU (e1.getD i default))(v1:Value)(W:World)(dX:Ab.iu W c0 (Ab.Y.afd bN).cells)(r1:Ab.cY (Ab.vk W) v1<|Ab.ai 3 Ab.Y.zh e1)(dz:laidMet Tryz.prog theLaid W):Calls Tryz.prog 3 #[.agg ⟨c0⟩,v1] W λe iU=>e = .returned (.bool true)/\Still W iU:=
  Ab.law_on (vs:=[.agg ⟨c0⟩,v1]) (Ab.Y.atm.of<|Ab.Y.aB5 bN e1 gO df) (good_laid dz) rfl λi v d hv hd=>by
    match i with
    | 0=>cases hv;cases hd;exact .v _ _<|Ab.iu.agg dX
    | 1=>cases hv;cases hd;exact .v _ _ r1
    |i+2=>simp at hv
theorem kids:Kids Tryz.prog (· < Tryz.prog.types.size):=kids_rows (by kernel_rfl) (by kernel_rfl)
theorem full:∀t e,t<Tryz.prog.types.size->Tryz.prog.underlying t=some (.slice e)->0<Tryz.prog.cellsOf e:=slices_full_of Tryz.prog (by kernel_rfl)
set_option maxRecDepth 100000 in
theorem contract(H:Type)(enc:TypeId×Value->H)(W:World)(base:Nat)(args:Array Value)(ds gs:List<|DataW H)(before:List MemPlace)
    (cz:∀(j:Nat) t v,Tryz.f3.params[j]? = some t->args[j]? = some v->Value.okWide Tryz.prog W .any base t v)
    (hW:DataW.Whole enc Tryz.prog Tryz.f3.params.toList Rows.checkpointExactSpec.vars false W args.toList ds gs before) (dz:laidMetH Tryz.prog Rows.checkpointExactRow.laid W):
    Calls Tryz.prog 3 args W λe iU=>∃v,e = .returned v/\Rows.checkpointExactSpec.post enc Tryz.prog Tryz.f3 false true false false W args v iU:=by
  have ams:=hW
  obtain⟨p,q,amt,hV,rfl,hfz,adM⟩:=hW
  have aT:DataW.TrodAll enc Tryz.prog W 0 (λ_=>true) true Tryz.f3.params.toList args.toList ds p:=amt
  rw[Tryz.params3]at aT cz
  obtain⟨v0,ZD,d0,aD7,aB',aoV,g0,rfl,rfl,h0,KC⟩:=trodAll_cons aT
  obtain⟨v1,hP,d1,aB8,fX,bz,g1,rfl,rfl,h1,l1⟩:=trodAll_cons KC
  obtain⟨rfl,rfl,rfl⟩:=trodAll_nil l1
  obtain rfl:args = #[v0,v1]:=by cases args;simp_all
  obtain⟨rfl,rfl⟩:=trodVars_none hV
  have tj:∃cs:Array Value,v0 = .agg cs:=by
    have h:=cz 0 34 v0 rfl rfl
    unfold Value.okWide at h
    rw[Tryz.underlying34]at h
    let⟨cs,h,_⟩:=h
    exact⟨cs,h⟩
  obtain⟨⟨c0⟩,rfl⟩:=tj
  let⟨aB_,Gg⟩:=h0
  let⟨bN,gO,dX⟩:=Ab.Y.aAD aB_ c0 _ Gg
  obtain⟨at1,jr,dZ,rfl⟩:=okWide_slice Tryz.underlying35<|cz 1 35 _ rfl rfl
  let⟨aD8,wI⟩:=h1
  let⟨e1,df,j1,r1⟩:=Ab.za (encA:=Ab.Y.zh) (k:=3) (ok:=Ab.Y.KU) Tryz.underlying35 (by kernel_rfl) (by omega) wI<|λm cs x _ hx=>Ab.Y.aAF m cs _ hx
  clear amt
  simp only[List.append_nil]at ams
  refine(law bN gO c0 e1 ⟨df,j1⟩ _ W dX (r1.2.2 0 _ _ rfl rfl) dz).mono λe iU ⟨he,hg⟩=>?_
  subst he
  refine⟨_,rfl,Ab.post_of_still (pa:=aB'++fX) (pv:=[]) ams (λ_ _ _=>trodAll_cons_mk (shut_bool Tryz.underlying4 _) trodAll_mk0) (λsp hs=>?_) (λ_ _=>rfl) (by simp) hg⟩
  have h:=Ab.args_still kids full (ts:=[34,35]) (by decide +kernel) aT hg sp (by simpa using hs)
  simp only[List.append_nil]at h
  rw[Tryz.params3]
  exact h
def theArg0:Value:=.agg ⟨[.int .i64 0,.int .i64 0,.int .i64 0,.slice none 0 0,.slice none 0 0,.slice none 0 0,.int .i64 0,.slice none 0 0,.slice none 0 0,.slice none 0 0,.int .u64 0]⟩
def theArg1:Value:=.slice none 0 0
theorem laid_met8(os:Os):laidMet Tryz.prog theLaid ((laidWorld os).forCall (λ_ _=>0) ⟨#[],#[theArg0,theArg1],[]⟩).memory:=
  laidMet_of_run' 8 (by kernel_rfl) (by kernel_rfl)
theorem reads(os:Os){H:Type}(enc:TypeId×Value->H):∃ds places,DataW.whole enc Tryz.prog ((laidWorld os).forCall (λ_ _=>0) ⟨#[],#[theArg0,theArg1],[]⟩).memory Tryz.f3.params.toList Rows.checkpointExactSpec.vars false #[theArg0,theArg1].toList 8=some (ds,[],places):=
  ⟨[.agg [.lit<|.int .i64 0,.agg [.lit<|.int .i64 0,.lit<|.int .i64 0,.nil],.nil,.nil,.agg [.lit<|.int .i64 0,.nil],.nil,.nil,.lit<|.int .u64 0],.nil],[],by kernel_rfl⟩
set_option maxRecDepth 100000 in
theorem lifted(os:Os)(started:os.Started)(H:Type)(enc:TypeId×Value->H)(F:Stop.Interp):
    ReturnsInHanded {} Tryz.checked os 3 .any ((OpenSpec.ofChange Rows.checkpointExactSpec).preRow enc Tryz.prog Tryz.f3 Rows.checkpointExactRow.domain false Rows.checkpointExactRow.laid) (((OpenSpec.ofChange Rows.checkpointExactSpec).at F).post enc Tryz.prog Tryz.f3 false true false false):=by
  let⟨ds,places,hx⟩:=reads os enc
  refine returnsInHanded_of_row (C:=Tryz.checked) (s:=OpenSpec.ofChange Rows.checkpointExactSpec) own started (by kernel_rfl) Tryz.func3
    (witness_row_at (enc:=enc) (C:=Tryz.checked) false (laidWorld os) #[theArg0,theArg1] rfl (by kernel_rfl) (by kernel_rfl) (by kernel_rfl)
      (OpenSpec.preRow_of_cond 8 hx (by kernel_rfl) (λk hk=>by cases hk) (by kernel_rfl)<|laid_met8 os)) ?_
  intro W base args ds gs before cz hW _ _ _ dz _ _
  exact contract H enc W base args ds gs before cz hW dz
theorem bt{a b:Bool}(h:a=true)(k:b=true):(a&&b)=true:=by rw[h,k];rfl
set_option maxRecDepth 100000 in
theorem closed:joinedFacts Tryz.pinned.checked.prog 3 Tryz.f3 (OpenSpec.ofChange Rows.checkpointExactSpec).bare Rows.checkpointExactRow=true:=bt (bt (bt (bt (bt (bt (bt (bt (bt (bt (bt (bt (bt (bt (bt (bt (bt (bt (bt (bt (bt (bt (bt (bt (bt (bt (bt (bt (bt (bt (bt j0 j1) j2) j3) j4) j5) j6) j7) j8) j9) j10) j11) j12) j13) j14) j15) j16) j17) j18) j19) j20) j21) j22) j23) j24) j25) j26) j27) j28) j29) j30) j31
theorem said:Rows.CheckpointExactSaid:=
  OpenClaim.holds_of_cond 3 Tryz.f3 rfl rfl rfl rfl rfl rfl rfl ⟨rfl,rfl,rfl,rfl,rfl⟩ rfl rfl rfl rfl rfl (by kernel_rfl) Tryz.func3 closed
    (of_decide_eq_true<|by kernel_rfl) (by unfold Func.isWrapper;first|(rw[if_pos<|by decide +kernel];kernel_rfl)|(rw[if_neg<|by decide +kernel];exact⟨rfl,rfl⟩))
    (λos started H enc _ F=>by rw[OpenClaim.pre_eq_preRow];exact lifted os started H enc F)
theorem plain (f : FuncId) (fn : Func) (aB : Tryz.pinned.checked.prog.funcNamed "clockwork/clockworklaw49.CheckpointExact" = some f) (aCa : Tryz.pinned.checked.prog.funcs[f]? = some fn) :
    true=Tryz.pinned.checked.prog.looks []/\∀(j:Nat) t,fn.params[j]? = some t->Tryz.pinned.checked.prog.wantsStandIn t=false:=by
  obtain rfl : f = 3 := Option.some.inj ((show Tryz.prog.funcNamed "clockwork/clockworklaw49.CheckpointExact" = some 3 by kernel_rfl).symm.trans aB) |>.symm
  obtain rfl:fn=Tryz.f3:=(Option.some.inj<|Tryz.func3.symm.trans aCa).symm
  refine⟨j33,λj t az=>?_⟩
  rw[Tryz.params3]at az
  have az:t∈[34,35]:=by simpa using Array.mem_of_getElem? az
  simp only[List.mem_cons,List.not_mem_nil,or_false]at az
  rcases az with rfl|rfl
  · exact(show Tryz.prog.wantsStandIn 34=false by kernel_rfl)
  · exact(show Tryz.prog.wantsStandIn 35=false by kernel_rfl)
theorem card:Rows.CheckpointExactCardSaid:=
  Claim7.holds_tied_plain_at .later [] _ _ _ _ said (λ_ h=>by cases h) (by kernel_rfl) (λ_ h=>by cases h) checkpointExact_row_tie rfl ⟨rfl,rfl⟩ (by kernel_rfl) rfl plain j32
end Go.Proofs.YtndmefekdnfmaaaGreatDoor.CheckpointExact

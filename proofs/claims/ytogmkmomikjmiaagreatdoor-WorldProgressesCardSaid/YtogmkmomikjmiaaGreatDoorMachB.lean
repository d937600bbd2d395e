/- For every n and every engine, WorldProgresses returns true: part MachB of the proof. -/
import Derived.Orders
import Derived.Scope
import Derived.Recover
import Derived.Lib.Builder
import Derived.Lib.UnsafeStr
import Derived.ChangeSame
import Derived.OpenShut
import Derived.ReadAgain
import Derived.Lib.SliceRun
import Derived.Test.YtogmkmomikjmiaaGreatDoorMachA
set_option linter.all false
namespace Go.Ab
section
variable {P:Program} {K:Ctx} {N:Nat} {M:Mem} {β:Nat→Option Nat} {st:St} {g:Rg} {tmps:Array Value} {w:World} {o:Oper} {f:Eff} {p:Path} {tt:TT} {says:CallSays} {ops:List Oper}
theorem exec_binOp{op:BinOp}{t t2:TypeId}{x y:Operand}(ho:o.op = .binOp op t x y t2){a b v:Value}(hx:(⟨tmps,[]⟩:Act).eval x=a)(hy:(⟨tmps,[]⟩:Act).eval y=b)
    (hg:(eqGuard op t x y a b).run P w = .ok () w) (h:(binOp op t a b).run P w = .ok v w):(execOp (Act.eval ⟨tmps,[]⟩) o).run P w = .ok (.value v) w:=by
  simp only [execOp,ho,hx,hy]
  refine runv _ ?_
  simp only [Sem.run_bind,hg,Result.andThen_ok,h]
theorem eqGuard_plain{op:BinOp}{t:TypeId}{x y:Operand}{a b:Value}(h:∀cs ds,¬ (a = .agg cs∧b = .agg ds))(h2:a = .nilIface→b = .nilIface→isConst y=true):(eqGuard op t x y a b).run P w = .ok () w:=by
 unfold eqGuard
 cases op<;>try rfl
 all_goals
  simp only
  cases a<;>cases b<;>first
   |rfl
   |(exact absurd ⟨rfl,rfl⟩ (h _ _))
   |(have:=h2 rfl rfl;cases y<;>simp [isConst]at this;simp)
theorem eqCell(htt:TTok P tt=true){d:Nat}{ft:TypeId}{ks0:List (Option TK)}{x y:V}{xs ys:List V}{va ua:Value}{r:Bool}
    (he:eqVs ((look tt ft).map (·.k)::ks0) (x::xs) (y::ys)=some r) (hrv:RepV M va x) (hru:RepV M ua y):∃c q,(Op.equalIn (d+1) ft va ua).run P w = .ok c w∧eqVs ks0 xs ys=some q∧(c&&q)=r:=by
  cases hl:look tt ft with
  |none=>simp [hl,eqVs]at he
  |some ti=>
    obtain⟨row⟩:=tt_row htt hl
    have hund:=row.hd
    simp only [hl,Option.map_some]at he
    unfold eqVs at he
    split at he<;>simp only [List.cons.injEq,reduceCtorEq]at *
    case h_2 ks kk k a l k' b m e1 e2 e3=>
      obtain⟨e1,rfl⟩:=e1
      obtain⟨rfl,rfl⟩:=e2
      obtain⟨rfl,rfl⟩:=e3
      cases hrv;cases hru
      rw [Bool.cond_eq_ite]at he
      split at he
      case isFalse=>cases he
      rename_i hk
      simp only [decide_eq_true_eq]at hk
      subst hk
      simp only [Option.map_eq_some_iff]at he
      obtain⟨q,hq,hr⟩:=he
      refine⟨decide (a=b),q,?_,hq,hr⟩
      have:∃k0,row.desc = .int k0:=by
        have:=row.hk
        rw [Option.some.inj e1]at this
        cases hd:row.desc<;>simp [hd,tkOf]at this;exact⟨_,rfl⟩
      obtain⟨k0,hk0⟩:=this
      rw [hk0]at hund
      rw [run_equalIn_int w d ft k k0 a b hund]
      rfl
    case h_3 ks a l b m e1 e2 e3=>
      obtain⟨e1,rfl⟩:=e1
      obtain⟨rfl,rfl⟩:=e2
      obtain⟨rfl,rfl⟩:=e3
      cases hrv;cases hru
      simp only [Option.map_eq_some_iff]at he
      obtain⟨q,hq,hr⟩:=he
      refine⟨decide (a=b),q,?_,hq,hr⟩
      have:row.desc = .string:=desc_str row (Option.some.inj e1)
      rw [this]at hund
      rw [run_equalIn_string w d ft _ _ hund,bytes_toList,bytes_toList]
      by_cases hab:a=b<;>simp [hab]
    case h_4 ks a l b m e1 e2 e3=>
      obtain⟨e1,rfl⟩:=e1
      obtain⟨rfl,rfl⟩:=e2
      obtain⟨rfl,rfl⟩:=e3
      cases hrv;cases hru
      simp only [Option.map_eq_some_iff]at he
      obtain⟨q,hq,hr⟩:=he
      refine⟨(a == b),q,?_,hq,hr⟩
      have:row.desc = .bool:=desc_bool row (Option.some.inj e1)
      rw [this]at hund
      rw [run_equalIn_bool' w d ft _ _ hund]
def mpF(P:Program)(fs:List Field):List (Nat×TypeId×Nat):=fs.map fun f=>(f.offset,f.type,P.cellsOf f.type)
theorem eqVs_app:∀{k1 k2:List (Option TK)} {xs ys:List V} {r:Bool},eqVs (k1++k2) xs ys=some r→
    ∃r1 r2,eqVs k1 (xs.take k1.length) (ys.take k1.length)=some r1∧eqVs k2 (xs.drop k1.length) (ys.drop k1.length)=some r2∧(r1&&r2)=r∧k1.length≤xs.length∧k1.length≤ys.length∧∀k,k∈k1→k.isSome=true
  |[],k2,xs,ys,r,h=>⟨true,r,by simp [eqVs],by simpa using h,rfl,Nat.zero_le _,Nat.zero_le _,fun k hk=>by cases hk⟩
  |k::k1,k2,xs,ys,r,h=>by
    simp only [List.cons_append]at h
    unfold eqVs at h
    split at h<;>simp only [List.cons.injEq,reduceCtorEq]at *
    · rename_i ks kk k' a l k'' b m e1
      obtain⟨rfl,rfl⟩:=e1
      rw [Bool.cond_eq_ite]at h
      split at h
      case isFalse=>cases h
      rename_i hk
      simp only [Option.map_eq_some_iff]at h
      obtain⟨q,hq,rfl⟩:=h
      obtain⟨r1,r2,h1,h2,h3,h4,h5,h6⟩:=eqVs_app hq
      refine⟨decide (a=b)&&r1,r2,?_,h2,by rw [Bool.and_assoc,h3],by simpa using h4,by simpa using h5,fun k0 hk0=>?_⟩
      · simp only [List.length_cons,List.take_succ_cons,eqVs,hk,cond_true,h1,Option.map_some]
      · rcases List.mem_cons.1 hk0 with rfl|hk0
        · rfl
        · exact h6 k0 hk0
    · rename_i ks a l b m e1
      obtain⟨rfl,rfl⟩:=e1
      simp only [Option.map_eq_some_iff]at h
      obtain⟨q,hq,rfl⟩:=h
      obtain⟨r1,r2,h1,h2,h3,h4,h5,h6⟩:=eqVs_app hq
      refine⟨decide (a=b)&&r1,r2,?_,h2,by rw [Bool.and_assoc,h3],by simpa using h4,by simpa using h5,fun k0 hk0=>?_⟩
      · simp only [List.length_cons,List.take_succ_cons,eqVs,h1,Option.map_some]
      · rcases List.mem_cons.1 hk0 with rfl|hk0
        · rfl
        · exact h6 k0 hk0
    · rename_i ks a l b m e1
      obtain⟨rfl,rfl⟩:=e1
      simp only [Option.map_eq_some_iff]at h
      obtain⟨q,hq,rfl⟩:=h
      obtain⟨r1,r2,h1,h2,h3,h4,h5,h6⟩:=eqVs_app hq
      refine⟨(a == b)&&r1,r2,?_,h2,by rw [Bool.and_assoc,h3],by simpa using h4,by simpa using h5,fun k0 hk0=>?_⟩
      · simp only [List.length_cons,List.take_succ_cons,eqVs,h1,Option.map_some]
      · rcases List.mem_cons.1 hk0 with rfl|hk0
        · rfl
        · exact h6 k0 hk0
def ksHd(tt:TT)(ft:TypeId):Nat→List (Option TK)
 | 0=>[(look tt ft).map (·.k)]
 |q+1=>match look tt ft with
  |some {k:=.strct gs,..}=>ksOf tt q gs
  |o=>[o.map (·.k)]
theorem ks_cons(q:Nat)(f:Field)(fs:List Field):ksOf tt q (mpF P (f::fs))=ksHd tt f.type q++ksOf tt q (mpF P fs):=by
 cases q with
 |zero=>rfl
 |succ q=>
  simp only [ksOf,mpF,List.map_cons,List.flatMap_cons,ksHd]
  rfl
theorem strct_of_row{t:TypeId}{ti:TI}(r:Row P t ti){gs:Array Field}(h:P.underlying t=some (.struct gs)):ti.k = .strct (mpF P gs.toList):=by
 have hd:r.desc = .struct gs:=Option.some.inj (r.hd.symm.trans h)
 have:=r.hk
 rw [hd]at this
 simp [tkOf]at this
 exact this.symm
theorem struct_of_tk{t:TypeId}{ti:TI}(r:Row P t ti){gs:List (Nat×TypeId×Nat)}(h:ti.k = .strct gs):∃fs:Array Field,P.underlying t=some (.struct fs)∧gs=mpF P fs.toList:=by
 have h1:=r.hk
 rw [h]at h1
 cases hd:r.desc<;>simp [hd,tkOf]at h1
 rename_i fs
 refine⟨fs,?_,h1.symm⟩
 rw [r.hd,hd]
theorem ksHd_flat(htt:TTok P tt=true){ft:TypeId}(h:∀gs,P.underlying ft≠some (.struct gs))(q:Nat):ksHd tt ft q=[(look tt ft).map (·.k)]:=by
 cases q with
 |zero=>rfl
 |succ q=>
  simp only [ksHd]
  split
  ·rename_i gs _ _ _ _ hl
   obtain⟨row⟩:=tt_row htt hl
   obtain⟨fs,h1,_⟩:=struct_of_tk row rfl
   exact absurd h1 (h fs)
  ·rfl
theorem ks_cnt(htt:TTok P tt=true):∀(q:Nat) (fs:List Field),(∀k,k∈ksOf tt q (mpF P fs)→k.isSome=true)→(ksOf tt q (mpF P fs)).length=cntFs P q fs
 | 0,fs,_=>by simp [ksOf,mpF,cntFs]
 |q+1,[],_=>by simp [ksOf,mpF,cntFs]
 |q+1,f::fs,h=>by
  rw [ks_cons]at h ⊢
  have ih:=ks_cnt htt (q+1) fs fun k hk=>h k (List.mem_append_right _ hk)
  have hc:cntFs P (q+1) (f::fs)=(match P.underlying f.type with|some (.struct gs)=>cntFs P q gs.toList|_=>1)+cntFs P (q+1) fs:=by
   simp only [cntFs,List.map_cons,List.sum_cons]
   rfl
  rw [List.length_append,ih,hc]
  congr 1
  simp only [ksHd]at h ⊢
  split
  ·rename_i gs _ _ _ _ hl
   obtain⟨row⟩:=tt_row htt hl
   obtain⟨fs0,h1,rfl⟩:=struct_of_tk row rfl
   rw [h1]
   refine ks_cnt htt q fs0.toList fun k hk=>h k (List.mem_append_left _ ?_)
   rw [hl];exact hk
  ·rename_i o hno
   cases ho:look tt f.type with
   |none=>
    have:=h none (List.mem_append_left _ (by rw [ho];simp))
    cases this
   |some ti=>
    obtain⟨row⟩:=tt_row htt ho
    split
    ·rename_i gs hu
     have:=strct_of_row row hu
     obtain⟨k,s,b,z,bd⟩:=ti
     simp only at this
     subst this
     exact absurd ho (hno _ _ _ _ _)
    ·rfl
theorem eqStep (htt : TTok P tt = true) {d : Nat} {f : Field} {fs : List Field} {i : Nat} {ks0 : List (Option TK)} {xs ys : List V} {vs us : List Value} {r : Bool} (hoff : f.offset = i) (hname : ¬ f.name = "_") (hag : (isAgg f.type).run P w = .ok false w)
    (he:eqVs ((look tt f.type).map (·.k)::ks0) xs ys=some r)
    (hv:∀(j:Nat) v x,vs[i+j]? = some v→xs[j]? = some x→RepV M v x) (hu:∀(j:Nat) v x,us[i+j]? = some v→ys[j]? = some x→RepV M v x) (hlv:i+xs.length≤vs.length) (hlu:i+ys.length≤us.length)
    (ih:∀(q:Bool),∀{xs' ys':List V},eqVs ks0 xs' ys'=some q→(∀(j:Nat) v x,vs[i+1+j]? = some v→xs'[j]? = some x→RepV M v x)→(∀(j:Nat) v x,us[i+1+j]? = some v→ys'[j]? = some x→RepV M v x)→i+1+xs'.length≤vs.length→i+1+ys'.length≤us.length→(Op.eqFields (d+1) ⟨vs⟩ ⟨us⟩ fs).run P w = .ok q w):
    (Op.eqFields (d+1) ⟨vs⟩ ⟨us⟩ (f::fs)).run P w = .ok r w:=by
  cases xs with
  |nil=>simp [eqVs]at he
  |cons x xs=>
    cases ys with
    |nil=>simp [eqVs]at he
    |cons y ys=>
      simp only [List.length_cons]at hlv hlu
      obtain⟨va,hvi⟩:∃va,vs[i]? = some va:=⟨_,List.getElem?_eq_getElem (by omega)⟩
      obtain⟨ua,hui⟩:∃ua,us[i]? = some ua:=⟨_,List.getElem?_eq_getElem (by omega)⟩
      have hrv:=hv 0 va x hvi rfl
      have hru:=hu 0 ua y hui rfl
      have hpart:∀{zs:List Value} {z:Value},zs[i]? = some z→(part f.type ⟨zs⟩ f.offset).run P w = .ok z w:=by
        intro zs z hz
        have:(⟨zs⟩:Array Value)[f.offset]? = some z:=by rw [hoff];simpa using hz
        simp only [part,Sem.run_bind,hag,Result.andThen_ok,this]
        rfl
      obtain⟨c,q,h1,h2,h3⟩:=eqCell (P:=P) (w:=w) (M:=M) htt (d:=d) he hrv hru
      have h4:=ih q h2 (fun j v z h1 h2=>hv (j+1) v z (by rw [←h1];congr 1;omega) (by simpa using h2)) (fun j v z h1 h2=>hu (j+1) v z (by rw [←h1];congr 1;omega) (by simpa using h2)) (by omega) (by omega)
      simp only [Op.eqFields]
      rw [if_pos hname]
      simp only [Sem.run_bind,hpart hvi,hpart hui,Result.andThen_ok,h1]
      cases c
      · simp [←h3]
      · simp [←h3,h4]
theorem eqFields_run(htt:TTok P tt=true):∀(q:Nat) {d:Nat} {fs:List Field} {i:Nat} {xs ys:List V} {vs us:List Value} {r:Bool},flatFs P q i fs=true→eqVs (ksOf tt q (mpF P fs)) xs ys=some r→
    (∀(j:Nat) v x,vs[i+j]? = some v→xs[j]? = some x→RepV M v x)→(∀(j:Nat) v x,us[i+j]? = some v→ys[j]? = some x→RepV M v x)→i+xs.length≤vs.length→i+ys.length≤us.length→
    (Op.eqFields (d+q+1) ⟨vs⟩ ⟨us⟩ fs).run P w = .ok r w:=by
  intro q
  induction q with
  |zero=>
    intro d fs
    induction fs with
    |nil=>intro i xs ys vs us r _ he _ _ _ _;cases xs<;>cases ys<;>simp [ksOf,mpF,eqVs]at he;subst he;simp [Op.eqFields]
    |cons f fs ih=>
      intro i xs ys vs us r hf he hv hu hlv hlu
      simp only [flatFs,flatWith,Bool.and_eq_true,Nat.beq_eq,Bool.not_eq_true',decide_eq_false_iff_not]at hf
      obtain⟨⟨hoff,hname⟩,hty⟩:=hf
      have hsc:(∀gs,P.underlying f.type≠some (.struct gs))∧flatFs P 0 (i+1) fs=true∧(isAgg f.type).run P w = .ok false w:=by
        simp only [isAgg,Sem.run_bind]
        split at hty
        · rename_i k hk;refine⟨fun gs h=>(by rw [hk]at h;cases h),hty,?_⟩;rw [Go.run_underlying hk];rfl
        · rename_i hk;refine⟨fun gs h=>(by rw [hk]at h;cases h),hty,?_⟩;rw [Go.run_underlying hk];rfl
        · rename_i hk;refine⟨fun gs h=>(by rw [hk]at h;cases h),hty,?_⟩;rw [Go.run_underlying hk];rfl
        · simp at hty
        · cases hty
      exact eqStep htt hoff hname hsc.2.2 (by rw [ks_cons,ksHd_flat htt hsc.1]at he;exact he) hv hu hlv hlu fun q' xs' ys' hq' hv' hu' h1 h2=>ih hsc.2.1 hq' hv' hu' h1 h2
  |succ q ihq=>
    intro d fs
    induction fs with
    |nil=>intro i xs ys vs us r _ he _ _ _ _;cases xs<;>cases ys<;>simp [ksOf,mpF,eqVs]at he;subst he;simp [Op.eqFields]
    |cons f fs ih=>
      intro i xs ys vs us r hf he hv hu hlv hlu
      have hf0:=hf
      simp only [flatFs,flatWith,Bool.and_eq_true,Nat.beq_eq,Bool.not_eq_true',decide_eq_false_iff_not]at hf
      obtain⟨⟨hoff,hname⟩,hty⟩:=hf
      by_cases hst:∃gs,P.underlying f.type=some (.struct gs)
      · obtain⟨gs,hgs⟩:=hst
        rw [hgs]at hty
        simp only [Bool.and_eq_true,Bool.not_eq_true',Nat.beq_eq]at hty
        obtain⟨⟨⟨hheld,hcnt⟩,hflat⟩,hrest⟩:=hty
        rw [ks_cons]at he
        obtain⟨r1,r2,e1,e2,e3,l1,l2,hsome⟩:=eqVs_app he
        have hlook:∃ti,look tt f.type=some ti:=by
          cases hl:look tt f.type with
          |none=>have:=hsome none (by simp [ksHd,hl]);cases this
          |some ti=>exact⟨ti,rfl⟩
        obtain⟨ti,hti⟩:=hlook
        obtain⟨row⟩:=tt_row htt hti
        have hk:=strct_of_row row hgs
        have hhd:ksHd tt f.type (q+1)=ksOf tt q (mpF P gs.toList):=by
          obtain⟨k,s,b,z,bd⟩:=ti
          simp only at hk
          subst hk
          simp only [ksHd,hti]
        rw [hhd]at e1 e2 l1 l2 hsome
        have hn:=ks_cnt htt q gs.toList hsome
        rw [hn,←hcnt]at e1 e2 l1 l2
        generalize hN:P.cellsOf f.type=n at e1 e2 l1 l2
        obtain⟨info,hinfo⟩:=info_of_underlying hgs
        have hpart:∀zs:List Value,(part f.type ⟨zs⟩ f.offset).run P w = .ok (.agg ⟨(zs.drop i).take n⟩) w:=by
          intro zs
          have:(⟨zs⟩:Array Value).extract i (i+n)=⟨(zs.drop i).take n⟩:=by
            apply Array.ext'
            rw [Array.toList_extract]
            simp [List.extract]
          simp only [part,isAgg,Sem.run_bind,run_underlying hgs,run_sizeOf w hinfo,Result.andThen_ok,Sem.run_pure,hoff,hN]
          simp [this,run_sizeOf w hinfo,hN]
        have hsub:∀{zs:List Value} {cs:List V},(∀(j:Nat) v x,zs[i+j]? = some v→cs[j]? = some x→RepV M v x)→∀(j:Nat) v x,((zs.drop i).take n)[0+j]? = some v→(cs.take n)[j]? = some x→RepV M v x:=by
          intro zs cs h j v x h1 h2
          rw [Nat.zero_add,List.getElem?_take]at h1
          rw [List.getElem?_take]at h2
          split at h1
          · rename_i hj
            rw [if_pos hj]at h2
            rw [List.getElem?_drop]at h1
            exact h j v x h1 h2
          · cases h1
        have hf1:P.fieldsOf f.type=gs:=by simp [Program.fieldsOf,hgs]
        have hin:(Op.equalIn (d+(q+1)+1) f.type (.agg ⟨(vs.drop i).take n⟩) (.agg ⟨(us.drop i).take n⟩)).run P w = .ok r1 w:=by
          rw [run_equalIn_agg w (d+(q+1)) f.type _ _ (by rw [hf1];exact hgs) hheld,hf1]
          exact ihq (d:=d) (i:=0) hflat e1 (hsub hv) (hsub hu) (by simp;omega) (by simp;omega)
        have hshift:∀{zs:List Value} {cs:List V},(∀(j:Nat) v x,zs[i+j]? = some v→cs[j]? = some x→RepV M v x)→∀(j:Nat) v x,zs[i+n+j]? = some v→(cs.drop n)[j]? = some x→RepV M v x:=by
          intro zs cs h j v x h1 h2
          rw [List.getElem?_drop]at h2
          exact h (n+j) v x (by rw [←Nat.add_assoc];exact h1) h2
        rw [hN]at hrest
        have hr2:=ih (i:=i+n) hrest e2 (hshift hv) (hshift hu) (by simp;omega) (by simp;omega)
        simp only [Op.eqFields]
        rw [if_pos hname]
        simp only [Sem.run_bind,hpart,Result.andThen_ok,hin]
        cases r1
        · simp [←e3]
        · simp [←e3,hr2]
      · have hsc:flatFs P (q+1) (i+1) fs=true∧(isAgg f.type).run P w = .ok false w:=by
          simp only [isAgg,Sem.run_bind]
          split at hty
          · rename_i k hk;refine⟨hty,?_⟩;rw [Go.run_underlying hk];rfl
          · rename_i hk;refine⟨hty,?_⟩;rw [Go.run_underlying hk];rfl
          · rename_i hk;refine⟨hty,?_⟩;rw [Go.run_underlying hk];rfl
          · rename_i gs hk;exact absurd ⟨gs,hk⟩ hst
          · cases hty
        exact eqStep htt hoff hname hsc.2 (by rw [ks_cons,ksHd_flat htt (fun gs h=>hst ⟨gs,h⟩)]at he;exact he) hv hu hlv hlu fun q' xs' ys' hq' hv' hu' h1 h2=>ih hsc.1 hq' hv' hu' h1 h2
theorem eq_run(htt:TTok P tt=true){t:TypeId}{fs:List (Nat×TypeId×Nat)}{sz by_:Nat}{z:List V}{bd:List (Nat×TypeId)}(hl:look tt t=some {k:=.strct fs,size:=sz,bytes:=by_,zero:=z,bld:=bd})(he:eqOk P t=true){xs ys:List V}{r:Bool}(hr:eqVs (ksOf tt 4 fs) xs ys=some r)
    {va ua:Value} (hv:RepV M va (.agg xs)) (hu:RepV M ua (.agg ys)):∃vs us,va = .agg ⟨vs⟩∧ua = .agg ⟨us⟩∧(Op.equalIn 10000 t (.agg ⟨vs⟩) (.agg ⟨us⟩)).run P w = .ok r w∧∀op a b,(eqGuard op t a b (.agg ⟨vs⟩) (.agg ⟨us⟩)).run P w = .ok () w:=by
  obtain⟨row⟩:=tt_row htt hl
  cases hv with
  |agg vs _ hn h1 hrep=>
    cases hu with
    |agg us _ hn' h1' hrep'=>
      refine⟨vs,us,rfl,rfl,?_⟩
      unfold eqOk at he
      split at he
      case h_2=>cases he
      rename_i fs0 hund
      simp only [Bool.and_eq_true,Bool.not_eq_true']at he
      obtain⟨⟨h2,h3⟩,h4⟩:=he
      have hf0:P.fieldsOf t=fs0:=by simp [Program.fieldsOf,hund]
      have hdesc:row.desc = .struct fs0:=Option.some.inj (row.hd.symm.trans hund)
      have hfs:fs=fs0.toList.map fun f=>(f.offset,f.type,P.cellsOf f.type):=by
        have:=row.hk
        rw [hdesc]at this
        simp [tkOf]at this
        exact this.symm
      refine⟨?_,fun op a b=>run_eqGuard_agg w op t a b _ _ h3⟩
      rw [run_equalIn_agg w 9999 t _ _ (by rw [hf0];exact hund) h2,hf0]
      refine eqFields_run htt 4 (d:=9994) (i:=0) (xs:=xs) (ys:=ys) h4 (by rw [hfs]at hr;exact hr) (fun j v x h5 h6=>hrep j v x (by simpa using h5) h6) (fun j v x h5 h6=>hrep' j v x (by simpa using h5) h6) (by omega) (by omega)
theorem st_binOp(h:Hyp P K N M β g tmps w p tt){op:BinOp}{t t2:TypeId}{x y:Operand}(ho:o.op = .binOp op t x y t2)(hs:step1 (saysC P) tt ops g p o=some (.go f))(hob:∀q,q∈f.ob→q):Yields P K M β g f o tmps w:=by
 simp only [step1,ho]at hs
 split at hs
 case h_3=>cases hs
 case h_1=>
  rename_i xs ys ha hb
  have hra:=inv_v (rd_rep (ds:=[]) h.sim h.pc ha)
  have hrb:=inv_v (rd_rep (ds:=[]) h.sim h.pc hb)
  split at hs
  case h_2=>cases hs
  rename_i fs sz by_ z _ hl
  rw [Bool.cond_eq_ite]at hs
  split at hs
  case isFalse=>cases hs
  rename_i he
  split at hs
  ·rename_i r hr
   cases hs
   obtain⟨vs,us,e1,e2,h1,h2⟩:=eq_run (w:=w) (M:=M) h.tt hl he hr hra hrb
   exact yields_pure h.sim (exec_binOp ho e1 e2 (h2 _ _ _) (by rw [run_eql_struct,h1];rfl)) (.v _ _ (.bool _))
  ·rename_i r hr
   cases hs
   obtain⟨vs,us,e1,e2,h1,h2⟩:=eq_run (w:=w) (M:=M) h.tt hl he hr hra hrb
   exact yields_pure h.sim (exec_binOp ho e1 e2 (h2 _ _ _) (by rw [run_neq_struct,h1];rfl)) (.v _ _ (.bool _))
  ·cases hs
 rename_i a b ha hb
 simp only [Option.map_eq_some_iff]at hs
 obtain⟨⟨z,ob⟩,hz,hs⟩:=hs
 cases hs
 have hra:=rd_rep (ds:=[]) h.sim h.pc ha
 have hrb:=rd_rep (ds:=[]) h.sim h.pc hb
 unfold binV at hz
 split at hz
 ·rename_i k1 m k2 n
  have e1:=inv_int hra
  have e2:=inv_int hrb
  split at hz
  ·rename_i z0 hsh
   cases hz
   obtain⟨v,hv,hr⟩:=shiftV_run (P:=P) (w:=w) (M:=M) (k':=k2) hsh hob t
   exact yields_pure h.sim (exec_binOp ho e1 e2 (eqGuard_plain (by simp) (by simp)) hv) (.v _ _ hr)
  rw [Bool.cond_eq_ite]at hz
  split at hz
  case isFalse=>cases hz
  rename_i hk
  simp only [decide_eq_true_eq]at hk
  subst hk
  obtain⟨v,hv,hr⟩:=binInt_run (P:=P) (w:=w) (M:=M) hz hob t
  exact yields_pure h.sim (exec_binOp ho e1 e2 (eqGuard_plain (by simp) (by simp)) hv) (.v _ _ hr)
 ·have e1:=inv_str hra
  have e2:=inv_str hrb
  obtain⟨v,hv,hr⟩:=binStr_run (P:=P) (w:=w) (M:=M) hz hob t
  exact yields_pure h.sim (exec_binOp ho e1 e2 (eqGuard_plain (by simp) (by simp)) hv) (.v _ _ hr)
 ·rename_i b1 b2
  have e1:=inv_bool hra
  have e2:=inv_bool hrb
  obtain⟨dep,hm⟩:∃d,Op.maxDepth=d+1:=⟨9999,rfl⟩
  cases hl:look tt t with
  |none=>rw [hl]at hz;simp at hz
  |some ti=>
   rw [hl]at hz
   obtain⟨r⟩:=tt_row h.tt hl
   split at hz<;>cases hz
   ·rename_i hk
    simp at hk
    refine yields_pure h.sim (v:=.bool (b1 == b2)) (exec_binOp ho e1 e2 (eqGuard_plain (by simp) (by simp)) ?_) (.v _ _ (.bool _))
    simp only [binOp,Sem.run_bind]
    rw [Op.equal,hm,Op.equalIn]
    simp [r.run_underlying,desc_bool r hk]
   ·rename_i hk
    simp at hk
    refine yields_pure h.sim (v:=.bool (!(b1 == b2))) (exec_binOp ho e1 e2 (eqGuard_plain (by simp) (by simp)) ?_) (.v _ _ (.bool _))
    simp only [binOp,Sem.run_bind]
    rw [Op.equal,hm,Op.equalIn]
    simp [r.run_underlying,desc_bool r hk]
 ·cases hl:look tt t with
  |none=>rw [hl]at hz;simp at hz
  |some ti=>
   rw [hl]at hz
   simp only [Option.map_some]at hz
   obtain⟨r⟩:=tt_row h.tt hl
   rw [Bool.cond_eq_ite]at hz
   split at hz
   case isFalse=>cases hz
   rename_i hc
   simp only [Bool.and_eq_true]at hc
   have hguard:(eqGuard op t x y ((⟨tmps,[]⟩:Act).eval x) ((⟨tmps,[]⟩:Act).eval y)).run P w = .ok () w:=by
    refine eqGuard_plain ?_ (fun _ _=>hc.2)
    rintro cs ds ⟨_,hb'⟩
    rw [hb']at hrb
    have hln:=hc.1
    unfold litNil at hln
    split at hln<;>first|(cases inv_v hrb;done)|(cases hln;done)
   split at hz<;>cases hz
   ·rename_i res hn
    obtain⟨h1,h2⟩:=equal_run (w:=w) r hra hrb hc.1 hn
    refine yields_pure h.sim (v:=.bool res) (exec_binOp ho rfl rfl hguard ?_) (.v _ _ (.bool _))
    rw [h2 .eql];simp [h1]
   ·rename_i res hn
    obtain⟨h1,h2⟩:=equal_run (w:=w) r hra hrb hc.1 hn
    refine yields_pure h.sim (v:=.bool (!res)) (exec_binOp ho rfl rfl hguard ?_) (.v _ _ (.bool _))
    rw [h2 .neq];simp [h1]
theorem st_fieldAddr(h:Hyp P K N M β g tmps w p tt){s:TypeId}{x:Operand}{i:Nat}(ho:o.op = .fieldAddr s x i)(hs:step1 says tt ops g p o=some (.go f)):Yields P K M β g f o tmps w:=by
 simp only [step1,ho]at hs
 split at hs
 ·rename_i q off fs sz by_ z _ hd hl
  obtain⟨r⟩:=tt_row h.tt hl
  split at hs
  case h_2=>cases hs
  rename_i o1 ft fsz hf
  rw [Bool.cond_eq_ite]at hs
  split at hs
  case isFalse=>cases hs
  rename_i hc
  cases hs
  obtain⟨b,hb,hv⟩:=inv_ptr (rd_rep (ds:=[]) h.sim h.pc hd)
  refine yields_pure h.sim (v:=.pointer (some ⟨b,off+o1,none⟩)) ?_ (.ptr _ _ _ hb)
  simp only [execOp,ho,hv]
  exact runv _ (run_fieldAddr r rfl hf (by simpa using hc) b off)
 ·rename_i cs fs sz by_ z _ hd hl
  obtain⟨r⟩:=tt_row h.tt hl
  split at hs
  case h_2=>cases hs
  rename_i o1 ft fsz hf
  split at hs
  case h_2=>cases hs
  rename_i fti hlf
  rw [Bool.cond_eq_ite]at hs
  split at hs
  case isFalse=>cases hs
  rename_i hc
  simp only [Bool.and_eq_true,Nat.ble_eq]at hc
  obtain⟨b,off,val,hv,hM,h1,hr⟩:=inv_pin (rd_rep (ds:=[]) h.sim h.pc hd)
  have hrun:(execOp (Act.eval ⟨tmps,[]⟩) o).run P w = .ok (.value (.pointer (some ⟨b,off+o1,none⟩))) w:=by
   simp only [execOp,ho,hv]
   exact runv _ (run_fieldAddr r rfl hf hc.1 b off)
  simp only [V.cells]at hM h1 hr
  rw [Bool.cond_eq_ite]at hs
  split at hs
  ·cases hs
   have hlen:((cs.drop o1).take fsz).length=fsz:=by simp;omega
   refine yields_pure h.sim hrun (.pin b (off+o1) _ (fun j=>val (o1+j)) (fun j hj=>?_) (fun j hj=>?_) (fun j c hj=>?_))
   ·simp only [V.cells,hlen]at hj
    rw [Nat.add_assoc];exact hM _ (by omega)
   ·simp only [V.cells,hlen]at hj
    exact h1 _ (by omega)
   ·simp only [V.cells]at hj
    rw [List.getElem?_take]at hj
    split at hj
    ·rw [List.getElem?_drop]at hj;exact hr _ c hj
    ·cases hj
  ·rw [Bool.cond_eq_ite]at hs
   split at hs
   case isFalse=>cases hs
   rename_i hsz
   split at hs
   case h_2=>cases hs
   rename_i c hc1
   rw [Bool.cond_eq_ite]at hs
   split at hs
   ·cases hs
   ·rename_i hna
    cases hs
    have hcc:=cells_one (x:=c) (by simpa using hna)
    refine yields_pure h.sim hrun (.pin b (off+o1) c (fun j=>val (o1+j)) (fun j hj=>?_) (fun j hj=>?_) (fun j c' hj=>?_))
    ·rw [hcc]at hj
     rw [Nat.add_assoc];exact hM _ (by have:=(List.getElem?_eq_some_iff.1 hc1).1;simp at hj;omega)
    ·rw [hcc]at hj
     exact h1 _ (by have:=(List.getElem?_eq_some_iff.1 hc1).1;simp at hj;omega)
    ·rw [hcc]at hj
     cases j with
     |zero=>simp at hj;subst hj;exact hr _ _ hc1
     |succ j=>simp at hj
 ·cases hs
theorem st_field(h:Hyp P K N M β g tmps w p tt){s:TypeId}{x:Operand}{i:Nat}(ho:o.op = .field s x i)(hs:step1 says tt ops g p o=some (.go f)):Yields P K M β g f o tmps w:=by
 simp only [step1,ho]at hs
 split at hs
 case h_3=>cases hs
 case h_2=>
  rename_i cs fs sz by_ z _ hd hl
  obtain⟨r⟩:=tt_row h.tt hl
  split at hs
  case h_2=>cases hs
  rename_i o1 ft fsz hf
  split at hs
  case h_2=>cases hs
  rename_i fti c hlf hc1
  obtain⟨rf⟩:=tt_row h.tt hlf
  rw [Bool.cond_eq_ite]at hs
  split at hs
  ·cases hs
  rename_i hc
  simp only [Bool.or_eq_true,not_or,Bool.not_eq_true,Bool.not_eq_true',Bool.not_eq_false,Nat.beq_eq]at hc
  cases hs
  have hrd:=rd_rep (ds:=[]) h.sim h.pc hd
  generalize hva:(⟨tmps,[]⟩:Act).eval x=va at hrd
  cases hrd with
  |agg vs _ hn h1 hr=>
   have hlt:o1<cs.length:=(List.getElem?_eq_some_iff.1 hc1).1
   have hvi:vs[o1]? = some vs[o1]:=List.getElem?_eq_getElem (by omega)
   obtain⟨ha,hb⟩:=run_field (w:=w) r rfl hf rf vs (by omega)
   refine yields_pure h.sim (v:=vs[o1]) ?_ (hr _ _ c hvi hc1)
   simp only [execOp,ho,hva];exact runv _ (hb hc.1.1 _ hvi)
 rename_i cs fs sz by_ z _ hd hl
 obtain⟨r⟩:=tt_row h.tt hl
 split at hs
 case h_2=>cases hs
 rename_i o1 ft fsz hf
 split at hs
 case h_2=>cases hs
 rename_i fti hlf
 obtain⟨rf⟩:=tt_row h.tt hlf
 rw [Bool.cond_eq_ite]at hs
 split at hs
 case isFalse=>cases hs
 rename_i hc
 simp only [Nat.ble_eq]at hc
 obtain⟨vs,hv,hlen,h1,hr⟩:=inv_agg (rd_rep (ds:=[]) h.sim h.pc hd)
 obtain⟨ha,hb⟩:=run_field (w:=w) r rfl hf rf vs (by omega)
 rw [Bool.cond_eq_ite]at hs
 split at hs
 ·rename_i hag
  cases hs
  refine yields_pure h.sim (v:=.agg ⟨(vs.drop o1).take fsz⟩) ?_ (.v _ _ (.agg _ _ (by simp;omega) (fun v hv=>h1 v (List.mem_of_mem_drop (List.mem_of_mem_take hv))) (fun j v c hv hc'=>?_)))
  ·simp only [execOp,ho,hv];exact runv _ (ha hag)
  ·rw [List.getElem?_take]at hv hc'
   split at hv
   ·rename_i hj
    rw [if_pos hj,List.getElem?_drop]at hc'
    rw [List.getElem?_drop]at hv
    exact hr _ v c hv hc'
   ·cases hv
 ·rename_i hag
  split at hs
  case h_2=>cases hs
  rename_i c hc1
  cases hs
  have hlt:o1<cs.length:=(List.getElem?_eq_some_iff.1 hc1).1
  have hvi:vs[o1]? = some vs[o1]:=List.getElem?_eq_getElem (by omega)
  refine yields_pure h.sim (v:=vs[o1]) ?_ (.v _ _ (hr _ _ c hvi hc1))
  simp only [execOp,ho,hv];exact runv _ (hb (by simpa using hag) _ hvi)
theorem pin_imp{x y:V}(hv:VImp x y){k b off:Nat}{val:Nat→Value}(hk:x.cells.length=k)(hM:∀q,q<k→M b (off+q)=some (val q))(h1:∀q,q<k→(val q).oneCell'=true)
    (hr:∀(q:Nat) c,x.cells[q]? = some c→RepV M (val q) c):RepD M β (.pointer (some ⟨b,off,none⟩)) (.pin y):=by
  subst hk
  have hy:=hv M _ (repV_of_cells h1 hr)
  cases hx:x.isAgg with
  |true=>
    rw [hx]at hy
    simp only [cond_true]at hy
    cases hy with
    |agg vs cs hn h1' hr'=>
      have hlen:cs.length=x.cells.length:=by simpa using hn.symm
      refine .pin b off _ val (fun j hj=>hM j (by simp only [V.cells]at hj;omega)) (fun j hj=>h1 j (by simp only [V.cells]at hj;omega)) (fun j c hj=>?_)
      simp only [V.cells]at hj
      have hjl:j<x.cells.length:=by have:=(List.getElem?_eq_some_iff.1 hj).1;omega
      exact hr' j (val j) c (by simp [hjl]) hj
    |any _ h1'=>simp [Value.oneCell']at h1'
  |false=>
    rw [hx]at hy
    simp only [cond_false]at hy
    have hcx:=cells_one hx
    have hone:=h1 0 (by rw [hcx];simp)
    have hya:y.isAgg=false:=by
      cases y<;>first|rfl|skip
      exfalso
      generalize val 0=u at hy hone
      cases hy
      simp [Value.oneCell']at hone
    have hcy:=cells_one hya
    refine .pin b off y val (fun j hj=>hM j (by rw [hcx];rw [hcy]at hj;exact hj)) (fun j hj=>h1 j (by rw [hcx];rw [hcy]at hj;exact hj)) (fun j c hj=>?_)
    rw [hcy]at hj
    cases j with
    |zero=>simp at hj;subst hj;exact hy
    |succ j=>simp at hj
theorem st_indexAddr(h:Hyp P K N M β g tmps w p tt){t:TypeId}{x i:Operand}(ho:o.op = .indexAddr t x i)(hs:step1 says tt ops g p o=some (.go f))(hob:∀q,q∈f.ob→q):Yields P K M β g f o tmps w:=by
 simp only [step1,ho]at hs
 split at hs
 case h_2=>cases hs
 rename_i k n get kk j e sz by_ z _ hx hi hl
 obtain⟨r⟩:=tt_row h.tt hl
 split at hs
 case h_2=>cases hs
 rename_i k2 size by2 z2 hl2
 obtain⟨re⟩:=tt_row h.tt hl2
 rw [Bool.cond_eq_ite]at hs
 split at hs
 case isFalse=>cases hs
 rename_i hc
 simp only [Bool.and_eq_true,Nat.beq_eq,Nat.ble_eq]at hc
 obtain⟨rfl,hpos⟩:=hc
 have hor:∃(y:V) (rs:List RS) (ob:List Prop),f={e:=some {d:=.pin y},rs,ob}∧VImp (get j.toNat) y∧inB j n=true:=by
  split at hs
  ·rename_i y rs hrs
   cases hs
   exact⟨_,_,_,rfl,hob _ (by simp),hob (inB j n=true) (by simp)⟩
  ·cases hs
   exact⟨_,_,_,rfl,fun _ _ h=>h,hob (inB j n=true) (by simp)⟩
  ·cases hs
 obtain⟨y,rs,ob,rfl,hb1,hb2⟩:=hor
 have hb2:=inB_spec hb2
 have ei:=inv_int (rd_rep (ds:=[]) h.sim h.pc hi)
 rcases inv_slc (rd_rep (ds:=[]) h.sim h.pc hx) with⟨_,hn0⟩|⟨b,off,cap,val,hv,_,hk,hM,h1,hr⟩
 ·omega
 ·have hlt:j.toNat<n:=by omega
  have hy:RepD M β (.pointer (some ⟨b,off+j.toNat*k,none⟩)) (.pin y):=
   pin_imp hb1 (hk _ hlt) (fun q hq=>hM _ q hlt hq) (fun q hq=>h1 _ q hlt hq) (fun q c hq=>hr _ q c hlt hq)
  refine yields_pure h.sim (v:=.pointer (some ⟨b,off+j.toNat*k,none⟩)) ?_ hy
  simp only [execOp,ho,hv,ei]
  exact runv _ (run_indexAddr r rfl re hb2.1 hb2.2)
theorem st_index(h:Hyp P K N M β g tmps w p tt){t:TypeId}{x i:Operand}(ho:o.op = .index t x i)(hs:step1 says tt ops g p o=some (.go f))(hob:∀q,q∈f.ob→q):Yields P K M β g f o tmps w:=by
 simp only [step1,ho]at hs
 split at hs
 case h_2=>cases hs
 rename_i l kk j sz by_ z _ hx hi hl
 obtain⟨r⟩:=tt_row h.tt hl
 cases hs
 have hb:=inB_spec (hob (inB j l.length=true) (by simp))
 have ex:=inv_str (rd_rep (ds:=[]) h.sim h.pc hx)
 have ei:=inv_int (rd_rep (ds:=[]) h.sim h.pc hi)
 refine yields_pure h.sim (v:=.int .u8 (l.getD j.toNat 0).toNat) ?_ (.v _ _ (.int _ _))
 simp only [execOp,ho,ex,ei]
 exact runv _ (run_index_str r rfl hb.1 hb.2)
theorem cells_drop{k n m:Nat}{get:Nat→V}{a:Nat}{b off cap:Nat}
    {val:Nat→Nat→Value} (hk:∀i,i<n→(get i).cells.length=k) (hM:∀i j,i<n→j<k→M b (off+i*k+j)=some (val i j)) (h1:∀i j,i<n→j<k→(val i j).oneCell'=true)
    (hr:∀(i j:Nat) c,i<n→(get i).cells[j]? = some c→RepV M (val i j) c) (hm:a+m≤n) (hc:m≤cap):
    RepV M (.slice (some ⟨b,off+a*k,none⟩) m cap) (.slc k m fun i=>get (a+i)):=by
  refine .slc b (off+a*k) k m cap _ (fun i j=>val (a+i) j) hc (fun i hi=>hk _ (by omega)) (fun i j hi hj=>?_) (fun i j hi hj=>h1 _ _ (by omega) hj) (fun i j c hi hcc=>hr _ _ _ (by omega) hcc)
  have:=hM (a+i) j (by omega) hj
  rw [Nat.add_mul]at this
  rwa [show off+a*k+i*k+j=off+(a*k+i*k)+j by omega]
theorem run_slice_slc{t e:TypeId}{ti te:TI}(r:Row P t ti)(hk:ti.k = .slc e)(re:Row P e te){base:Option Addr}{n cap:Nat}{lo hi:Option Value}{a b:Nat}
    (hlo:lo=none∧a=0∨∃k,lo=some (.int k a)) (hhi:hi=none∧b=n∨∃k,hi=some (.int k b)) (hab:a≤b) (hbn:b≤n) (hnc:n≤cap):
    (Instr.sliceAt t (.slice base n cap) lo hi none).run P w = .ok (.slice (if cap=a then base else base.map (·.add (a*te.size))) (b-a) (cap-a)) w:=by
  have hu:=r.run_underlying w
  rw [desc_slc r hk]at hu
  have hbc:b≤cap:=by omega
  rcases hlo with⟨rfl,rfl⟩|⟨k1,rfl⟩<;>rcases hhi with⟨rfl,rfl⟩|⟨k2,rfl⟩
  · simp [Instr.sliceAt,hu,Instr.slice,Instr.sliceBounds,re.run_sizeOf]
  · simp [Instr.sliceAt,hu,Instr.slice,Instr.sliceBounds,Instr.sliceBound,asIntOf,re.run_sizeOf,hbc]
  · simp [Instr.sliceAt,hu,Instr.slice,Instr.sliceBounds,Instr.sliceBound,asIntOf,re.run_sizeOf,hab]
  · simp [Instr.sliceAt,hu,Instr.slice,Instr.sliceBounds,Instr.sliceBound,asIntOf,re.run_sizeOf,hbc,hab]
end
end Go.Ab
namespace Go.Ab
section
variable {P:Program} {K:Ctx} {N:Nat} {M:Mem} {β:Nat→Option Nat} {st:St} {g:Rg} {tmps:Array Value} {w:World} {o:Oper} {f:Eff} {p:Path} {tt:TT} {says:CallSays} {ops:List Oper}
theorem exec_slice{t:TypeId}{x:Operand}{lo hi mx:Option Operand}(ho:o.op = .slice t x lo hi mx){v u:Value}(hx:(⟨tmps,[]⟩:Act).eval x=v){a b:Option Value}(ha:lo.map (⟨tmps,[]⟩:Act).eval=a)(hb:hi.map (⟨tmps,[]⟩:Act).eval=b){c:Option Value}(hm:mx.map (⟨tmps,[]⟩:Act).eval=c)
    (h:(Instr.sliceAt t v a b c).run P w = .ok u w):(execOp (Act.eval ⟨tmps,[]⟩) o).run P w = .ok (.value u) w:=by
  simp only [execOp,ho,hx,ha,hb,hm]
  exact runv _ h
theorem run_slice_str{t:TypeId}{ti:TI}(r:Row P t ti)(hk:ti.k = .str){l:List UInt8}{lo hi:Option Value}{a b:Nat}
    (hlo:lo=none∧a=0∨∃k,lo=some (.int k a)) (hhi:hi=none∧b=l.length∨∃k,hi=some (.int k b)) (hab:a≤b) (hbn:b≤l.length):
    (Instr.sliceAt t (.string ⟨⟨l⟩⟩) lo hi none).run P w = .ok (.string ⟨⟨(l.take b).drop a⟩⟩) w:=by
  have hu:=r.run_underlying w
  rw [desc_str r hk]at hu
  have hs:(⟨⟨l⟩⟩:ByteArray).size=l.length:=rfl
  have hx:(⟨⟨l⟩⟩:ByteArray).extract a b=⟨⟨(l.take b).drop a⟩⟩:=by
    have:=ByteArray.extract_mk l a b
    rw [List.drop_take]
    exact this
  rcases hlo with⟨rfl,rfl⟩|⟨k1,rfl⟩<;>rcases hhi with⟨rfl,rfl⟩|⟨k2,rfl⟩
  · simp [Instr.sliceAt,hu,Instr.slice,Instr.sliceBounds]
  · simp [Instr.sliceAt,hu,Instr.slice,Instr.sliceBounds,Instr.sliceBound,asIntOf,hbn,hs,hx]
  · simp [Instr.sliceAt,hu,Instr.slice,Instr.sliceBounds,Instr.sliceBound,asIntOf,hab,hs,hx]
  · simp [Instr.sliceAt,hu,Instr.slice,Instr.sliceBounds,Instr.sliceBound,asIntOf,hbn,hab,hs,hx]
theorem slc_cut{v:Value}{k n:Nat}{get:Nat→V}(hv:RepD M β v (.v (.slc k n get))){a b:Nat}(hab:a≤b)(hbn:b≤n){base:Option Addr}{cap:Nat}(hvv:v = .slice base n cap)(hnc:n≤cap):
    RepV M (.slice (if cap=a then base else base.map (·.add (a*k))) (b-a) (cap-a)) (.slc k (b-a) fun i=>get (a+i)):=by
  rcases inv_slc hv with⟨h1|⟨a0,h1⟩,h2⟩|⟨b0,off,cap',val,h1,hc,hk,hM,h1',hr⟩
  · rw [hvv]at h1;cases h1
    have:b=0:=by omega
    subst this
    have:a=0:=by omega
    subst this
    exact .slc0 _ _
  · rw [hvv]at h1;cases h1
    have:b=0:=by omega
    subst this
    have:a=0:=by omega
    subst this
    exact .slcz _ _ _
  · rw [hvv]at h1;cases h1
    by_cases hca:cap=a
    · rw [if_pos hca]
      have:b-a=0:=by omega
      rw [this]
      exact .slc b0 off k 0 _ _ (fun _ _=>undef) (Nat.zero_le _) (by simp) (by simp) (by simp) (by simp)
    · rw [if_neg hca]
      simp only [Option.map_some,addr_add]
      exact cells_drop hk hM h1' hr (by omega) (by omega)
theorem st_slice(h:Hyp P K N M β g tmps w p tt){t:TypeId}{x:Operand}{lo hi mx:Option Operand}(ho:o.op = .slice t x lo hi mx)(hs:step1 says tt ops g p o=some (.go f))(hob:∀q,q∈f.ob→q):Yields P K M β g f o tmps w:=by
 have ev:∀{y:Option Operand} {kk:IntKind} {n:Int},y.map (fun y=>rd g.env g.cenv p tt o.type y)=some (some (.v (.int kk n)))→y.map (⟨tmps,[]⟩:Act).eval=some (.int kk n):=by
  intro y kk n hy
  cases y with
  |none=>simp at hy
  |some y=>
   simp at hy
   simp [inv_int (rd_rep (ds:=[]) h.sim h.pc hy)]
 have evn:∀{y:Option Operand},y.map (fun y=>rd g.env g.cenv p tt o.type y)=none→y.map (⟨tmps,[]⟩:Act).eval=none:=by
  intro y hy;simp at hy;simp [hy]
 simp only [step1,ho]at hs
 split at hs
 ·rename_i sz by_ z _ hl
  obtain⟨r⟩:=tt_row h.tt hl
  split at hs
  ·rename_i l hx hlo hhi
   cases hs
   have ex:=inv_str (rd_rep (ds:=[]) h.sim h.pc hx)
   have:=run_slice_str (w:=w) r rfl (l:=l) (lo:=none) (hi:=none) (a:=0) (b:=l.length) (.inl ⟨rfl,rfl⟩) (.inl ⟨rfl,rfl⟩) (by omega) (by omega)
   simp at this
   exact yields_pure h.sim (exec_slice ho ex (evn hlo) (evn hhi) rfl this) (.v _ _ (.str _))
  ·rename_i l k1 a hx hlo hhi
   cases hs
   have ex:=inv_str (rd_rep (ds:=[]) h.sim h.pc hx)
   have hb:=upB_spec (hob (upB a l.length=true) (by simp))
   obtain⟨a',rfl⟩:=Int.eq_ofNat_of_zero_le hb.1
   have:=run_slice_str (w:=w) r rfl (l:=l) (lo:=some (.int k1 a')) (hi:=none) (a:=a') (b:=l.length) (.inr ⟨_,rfl⟩) (.inl ⟨rfl,rfl⟩) (by omega) (by omega)
   simp at this
   exact yields_pure h.sim (exec_slice ho ex (ev hlo) (evn hhi) rfl this) (.v _ _ (.str _))
  ·rename_i l k2 b hx hlo hhi
   cases hs
   have ex:=inv_str (rd_rep (ds:=[]) h.sim h.pc hx)
   have hb:=upB_spec (hob (upB b l.length=true) (by simp))
   obtain⟨b',rfl⟩:=Int.eq_ofNat_of_zero_le hb.1
   have:=run_slice_str (w:=w) r rfl (l:=l) (lo:=none) (hi:=some (.int k2 b')) (a:=0) (b:=b') (.inl ⟨rfl,rfl⟩) (.inr ⟨_,rfl⟩) (by omega) (by omega)
   simp at this
   exact yields_pure h.sim (exec_slice ho ex (evn hlo) (ev hhi) rfl this) (.v _ _ (.str _))
  ·rename_i l k1 a k2 b hx hlo hhi
   cases hs
   have ex:=inv_str (rd_rep (ds:=[]) h.sim h.pc hx)
   have hb:=loB_spec (hob (loB a b l.length=true) (by simp))
   obtain⟨a',rfl⟩:=Int.eq_ofNat_of_zero_le hb.1
   obtain⟨b',rfl⟩:=Int.eq_ofNat_of_zero_le (a:=b) (by omega)
   have:=run_slice_str (w:=w) r rfl (l:=l) (lo:=some (.int k1 a')) (hi:=some (.int k2 b')) (a:=a') (b:=b') (.inr ⟨_,rfl⟩) (.inr ⟨_,rfl⟩) (by omega) (by omega)
   exact yields_pure h.sim (exec_slice ho ex (ev hlo) (ev hhi) rfl this) (.v _ _ (.str _))
  ·cases hs
 ·rename_i e sz by_ z _ hl
  obtain⟨r⟩:=tt_row h.tt hl
  split at hs
  ·rename_i k1 size by1 z1 k n get k2 a hl2 hx hlo hhi
   obtain⟨re⟩:=tt_row h.tt hl2
   rw [Bool.cond_eq_ite]at hs
   split at hs
   case isFalse=>cases hs
   rename_i hkk
   simp only [Nat.beq_eq]at hkk
   subst hkk
   have hor:∃(y:V) (rs:List RS) (ob:List Prop),f={e:=some {d:=.v y},rs,ob}∧VImp (.slc k (n-a.toNat) fun i=>get (a.toNat+i)) y∧upB a n=true:=by
    split at hs
    ·rename_i y rs hrs
     cases hs
     exact⟨_,_,_,rfl,hob _ (by simp),hob (upB a n=true) (by simp)⟩
    ·cases hs
     exact⟨_,_,_,rfl,fun _ _ h=>h,hob (upB a n=true) (by simp)⟩
    ·cases hs
   obtain⟨y,rs,ob,rfl,hv,hb⟩:=hor
   have hb:=upB_spec hb
   obtain⟨a',rfl⟩:=Int.eq_ofNat_of_zero_le hb.1
   have hrx:=rd_rep (ds:=[]) h.sim h.pc hx
   obtain⟨base,cap,ex,hnc⟩:=slc_shape hrx
   have:=run_slice_slc (w:=w) r rfl re (base:=base) (n:=n) (cap:=cap) (lo:=some (.int k2 a')) (hi:=none) (a:=a') (b:=n) (.inr ⟨_,rfl⟩) (.inl ⟨rfl,rfl⟩) (by omega) (by omega) hnc
   refine yields_pure h.sim (exec_slice ho ex (ev hlo) (evn hhi) rfl this) (.v _ _ (hv _ _ ?_))
   have:=slc_cut hrx (a:=a') (b:=n) (by omega) (by omega) ex hnc
   simpa using this
  ·rename_i k1 size by1 z1 k n get k2 b hl2 hx hlo hhi
   obtain⟨re⟩:=tt_row h.tt hl2
   rw [Bool.cond_eq_ite]at hs
   split at hs
   case isFalse=>cases hs
   rename_i hkk
   simp only [Nat.beq_eq]at hkk
   subst hkk
   have hor:∃(y:V) (rs:List RS) (ob:List Prop),f={e:=some {d:=.v y},rs,ob}∧VImp (.slc k b.toNat get) y∧upB b n=true:=by
    split at hs
    ·rename_i y rs hrs
     cases hs
     exact⟨_,_,_,rfl,hob _ (by simp),hob (upB b n=true) (by simp)⟩
    ·cases hs
     exact⟨_,_,_,rfl,fun _ _ h=>h,hob (upB b n=true) (by simp)⟩
    ·cases hs
   obtain⟨y,rs,ob,rfl,hv,hb⟩:=hor
   have hb:=upB_spec hb
   obtain⟨b',rfl⟩:=Int.eq_ofNat_of_zero_le hb.1
   have hrx:=rd_rep (ds:=[]) h.sim h.pc hx
   obtain⟨base,cap,ex,hnc⟩:=slc_shape hrx
   have:=run_slice_slc (w:=w) r rfl re (base:=base) (n:=n) (cap:=cap) (lo:=none) (hi:=some (.int k2 b')) (a:=0) (b:=b') (.inl ⟨rfl,rfl⟩) (.inr ⟨_,rfl⟩) (by omega) (by omega) hnc
   refine yields_pure h.sim (exec_slice ho ex (evn hlo) (ev hhi) rfl this) (.v _ _ (hv _ _ ?_))
   have:=slc_cut hrx (a:=0) (b:=b') (by omega) (by omega) ex hnc
   simpa using this
  ·rename_i k1 size by1 z1 k n get k2 a k3 b hl2 hx hlo hhi
   obtain⟨re⟩:=tt_row h.tt hl2
   rw [Bool.cond_eq_ite]at hs
   split at hs
   case isFalse=>cases hs
   rename_i hkk
   simp only [Nat.beq_eq]at hkk
   subst hkk
   have hor:∃(y:V) (rs:List RS) (ob:List Prop),f={e:=some {d:=.v y},rs,ob}∧VImp (.slc k (b.toNat-a.toNat) fun i=>get (a.toNat+i)) y∧loB a b n=true:=by
    split at hs
    ·rename_i y rs hrs
     cases hs
     exact⟨_,_,_,rfl,hob _ (by simp),hob (loB a b n=true) (by simp)⟩
    ·cases hs
     exact⟨_,_,_,rfl,fun _ _ h=>h,hob (loB a b n=true) (by simp)⟩
    ·cases hs
   obtain⟨y,rs,ob,rfl,hv,hb⟩:=hor
   have hb:=loB_spec hb
   obtain⟨a',rfl⟩:=Int.eq_ofNat_of_zero_le hb.1
   obtain⟨b',rfl⟩:=Int.eq_ofNat_of_zero_le (a:=b) (by omega)
   have hrx:=rd_rep (ds:=[]) h.sim h.pc hx
   obtain⟨base,cap,ex,hnc⟩:=slc_shape hrx
   have:=run_slice_slc (w:=w) r rfl re (base:=base) (n:=n) (cap:=cap) (lo:=some (.int k2 a')) (hi:=some (.int k3 b')) (a:=a') (b:=b') (.inr ⟨_,rfl⟩) (.inr ⟨_,rfl⟩) (by omega) (by omega) hnc
   refine yields_pure h.sim (exec_slice ho ex (ev hlo) (ev hhi) rfl this) (.v _ _ (hv _ _ ?_))
   have:=slc_cut hrx (a:=a') (b:=b') (by omega) (by omega) ex hnc
   simpa using this
  ·rename_i k1 size by1 z1 k n get hl2 hx hlo hhi
   obtain⟨re⟩:=tt_row h.tt hl2
   rw [Bool.cond_eq_ite]at hs
   split at hs
   case isFalse=>cases hs
   rename_i hkk
   simp only [Nat.beq_eq]at hkk
   subst hkk
   cases hs
   have hrx:=rd_rep (ds:=[]) h.sim h.pc hx
   obtain⟨base,cap,ex,hnc⟩:=slc_shape hrx
   have:=run_slice_slc (w:=w) r rfl re (base:=base) (n:=n) (cap:=cap) (lo:=none) (hi:=none) (a:=0) (b:=n) (.inl ⟨rfl,rfl⟩) (.inl ⟨rfl,rfl⟩) (by omega) (by omega) hnc
   refine yields_pure h.sim (exec_slice ho ex (evn hlo) (evn hhi) rfl this) (.v _ _ ?_)
   have:=slc_cut hrx (a:=0) (b:=n) (by omega) (by omega) ex hnc
   simpa using this
  ·cases hs
 ·rename_i m e sz by_ z _ hl
  obtain⟨r⟩:=tt_row h.tt hl
  split at hs
  case h_2=>cases hs
  rename_i size by1 z1 k n get k2 b k3 c hl2 hx hhi hm
  obtain⟨re⟩:=tt_row h.tt hl2
  rw [Bool.cond_eq_ite]at hs
  split at hs
  case isFalse=>cases hs
  rename_i hkk
  simp only [Nat.beq_eq]at hkk
  subst hkk
  cases hs
  have hbc:=hob (b=c) (by simp)
  subst hbc
  have hb:=upB_spec (hob (upB b n=true) (by simp))
  obtain⟨b',rfl⟩:=Int.eq_ofNat_of_zero_le hb.1
  have hrx:=rd_rep (ds:=[]) h.sim h.pc hx
  obtain⟨base,cap,ex,hnc⟩:=slc_shape hrx
  have hbn:b'≤n:=by omega
  have hu:=r.run_underlying w
  rw [desc_slc r rfl]at hu
  have hrun:(Instr.sliceAt t (.slice base n cap) none (some (.int k2 b')) (some (.int k3 b'))).run P w = .ok (.slice (if b'=0 then base else base.map (·.add (0*k))) b' b') w:=by
   have h1:b'≤cap:=by omega
   simp [Instr.sliceAt,hu,Instr.slice,Instr.sliceBounds,Instr.sliceBound,asIntOf,re.run_sizeOf,h1]
  have hbase:(if b'=0 then base else base.map (·.add (0*k)))=base:=by
   split
   ·rfl
   ·cases base with
    |none=>rfl
    |some a=>simp [Addr.add]
  rw [hbase]at hrun
  have em:(some m).map (⟨tmps,[]⟩:Act).eval=some (.int k3 b'):=ev (y:=some m) hm
  refine yields_pure h.sim (exec_slice ho ex rfl (ev hhi) em hrun) (.full base k _ get ?_)
  have hcut:=slc_cut hrx (a:=0) (b:=b') (by omega) hbn ex hnc
  simp only [Nat.sub_zero]at hcut ⊢
  have hcut':RepV M (.slice (if cap=0 then base else base.map (·.add (0*k))) b' cap) (.slc k b' get):=by simpa using hcut
  have hb2:(if cap=0 then base else base.map (·.add (0*k)))=base:=by
   split
   ·rfl
   ·cases base with
    |none=>rfl
    |some a=>simp [Addr.add]
  rw [hb2]at hcut'
  cases hcut' with
  |slc0=>exact .slc0 _ _
  |slcz a=>exact .slcz _ _ _
  |slc bb off k n cap get val hc hk hM h1 h=>exact .slc bb off k _ _ get val (Nat.le_refl _) hk hM h1 h
 ·cases hs
theorem exec_len{c:Call}(ho:o.op = .call c)(hc:c.callee = .builtin .len){a:Operand}(hargs:c.args.toList=[a]){t:TypeId}(hty:c.argTypes.toList[0]? = some t){va v:Value}(ha:(⟨tmps,[]⟩:Act).eval a=va)
    (h:∀ty,(Builtin.len_ #[t] ty #[va]).run P w = .ok v w):(execOp (Act.eval ⟨tmps,[]⟩) o).run P w = .ok (.value v) w:=by
  have hargs':c.args = #[a]:=by apply Array.ext';simpa using hargs
  have happ:∀ty,(Builtin.len_ c.argTypes ty #[va]).run P w = .ok v w:=by
    intro ty
    have h0:c.argTypes[0]? = some t:=by simpa using hty
    have:=h ty
    simp only [Builtin.len_,h0]at this ⊢
    exact this
  simp only [execOp,ho,resolve,hc,hargs',Sem.run_bind,Sem.run_pure,Result.andThen_ok,invoke,builtin,List.map_toArray,List.map_cons,List.map_nil,ha]
  simp [happ]
theorem renL_len{F:Nat→Option Nat}{l l':List D}(h:renL F l=some l'):l'.length=l.length:=(renL_get h).1.symm
theorem exec_call {c : Call} (ho : o.op = .call c) {x : Operand} (hc : c.callee = .value x) {fn : FuncId} {vs : List Value} (hx : (⟨tmps, []⟩ : Act).eval x = .func (.func fn) #[] ⟨vs⟩) {fd : Func} (hf : P.funcs[fn]? = some fd) (hb : fd.body.isSome = true) (hn : fd.name ≠ "runtime.NumGoroutine") :
    (execOp (Act.eval ⟨tmps,[]⟩) o).run P w = .ok (.enter fn ⟨c.args.toList.map (⟨tmps,[]⟩:Act).eval++vs⟩) w:=by
  have hbn:fd.body≠none:=by intro hh;rw [hh]at hb;cases hb
  simp [execOp,ho,resolve,hc,hx,Deferred.ofValue,invoke,callFunc,hf,hbn,hn]
theorem rdL_get{F:TypeId→Operand→Option D}:∀{xs:List Operand} {ts:List TypeId} {ds:List D},rdL F xs ts=some ds→ds.length=xs.length∧∀(i:Nat) x d,xs[i]? = some x→ds[i]? = some d→∃t,F t x=some d
 |[],ts,ds,h=>by simp [rdL]at h;subst h;simp
 |x::xs,[],ds,h=>by simp [rdL]at h
 |x::xs,t::ts,ds,h=>by
  simp only [rdL]at h
  split at h
  case h_2=>cases h
  rename_i d ds' hd hds
  cases h
  obtain⟨h1,h2⟩:=rdL_get hds
  refine⟨by simp [h1],fun i y e hy he=>?_⟩
  cases i with
  |zero=>simp at hy he;subst hy;subst he;exact⟨t,hd⟩
  |succ i=>simp at hy he;exact h2 i y e hy he
mutual
theorem ren_back{ρ:List Nat}:∀(d:D) {d':D},ren (idx ρ) d=some d'→ren (fun j=>ρ[j]?) d'=some d
 |.v x,d',h=>by simp [ren]at h;subst h;simp [ren]
 |.ptr r off,d',h=>by
  simp only [ren,Option.map_eq_some_iff]at h
  obtain⟨j,hj,rfl⟩:=h
  simp [ren,idx_get hj]
 |.sptr r off u,d',h=>by
  simp only [ren,Option.map_eq_some_iff]at h
  obtain⟨j,hj,rfl⟩:=h
  simp [ren,idx_get hj]
 |.pin x,d',h=>by simp [ren]at h;subst h;simp [ren]
 |.full k n get,d',h=>by simp [ren]at h;subst h;simp [ren]
 |.ex u x,d',h=>by simp [ren]at h;subst h;simp [ren]
 |.fn g caps,d',h=>by
  simp only [ren,Option.map_eq_some_iff]at h
  obtain⟨l,hl,rfl⟩:=h
  simp [ren,renL_back caps hl]
 |.agg cs,d',h=>by
  simp only [ren,Option.map_eq_some_iff]at h
  obtain⟨l,hl,rfl⟩:=h
  simp [ren,renL_back cs hl]
 |.tup cs,d',h=>by
  simp only [ren,Option.map_eq_some_iff]at h
  obtain⟨l,hl,rfl⟩:=h
  simp [ren,renL_back cs hl]
theorem renL_back{ρ:List Nat}:∀(l:List D) {l':List D},renL (idx ρ) l=some l'→renL (fun j=>ρ[j]?) l'=some l
 |[],l',h=>by simp [renL]at h;subst h;simp [renL]
 |d::l,l',h=>by
  simp only [renL]at h
  split at h
  case h_2=>cases h
  rename_i d1 l1 hd hl
  cases h
  simp [renL,ren_back d hd,renL_back l hl]
end
theorem renEs_back{ρ:List Nat}:∀{b b':List Ent},renEs (idx ρ) b=some b'→renEs (fun j=>ρ[j]?) b'=some b
 |[],b',h=>by simp [renEs]at h;subst h;simp [renEs]
 |e::l,b',h=>by
  simp only [renEs]at h
  split at h
  case h_2=>cases h
  rename_i e1 l1 he hl
  cases h
  simp only [renE,Option.map_eq_some_iff]at he
  obtain⟨d,hd,rfl⟩:=he
  simp [renEs,renE,ren_back _ hd,renEs_back hl]
theorem renBoxes_back{ρ:List Nat}:∀{bs bs':List (List Ent)},renBoxes (idx ρ) bs=some bs'→renBoxes (fun j=>ρ[j]?) bs'=some bs
 |[],bs',h=>by simp [renBoxes]at h;subst h;simp [renBoxes]
 |b::l,bs',h=>by
  simp only [renBoxes]at h
  split at h
  case h_2=>cases h
  rename_i b1 l1 hb hl
  cases h
  simp [renBoxes,renEs_back hb,renBoxes_back hl]
theorem caller_sim0{st:St}(h:SimAt P K M β st tmps w){ρ:List Nat}{bs H1:List (List Ent)}(hn:nodupB ρ=true)(hbs:boxes st.H ρ=some bs)(hH1:renBoxes (idx ρ) bs=some H1)
    {os:List Nat} {out:Out} {v:Value} {w':World} {M':Mem} {β':Nat→Option Nat} (hpost:SimAt P (callCtx M β st tmps w ρ os) M' β' {env:=resEnv out,H:=enumFrom' 0 H1,nxt:=ρ.length} #[v] w'):
    M.le M'∧SimAt P K M' β {st with env:=clrEnv os st.env} tmps w'∧
    (∀d own,out = .ret d own→∀d',ren (fun j=>ρ[j]?) d=some d'→RepD M' β v d'∧∀T l0,own=some T→NewOwn P K M' β {st with env:=clrEnv os st.env} tmps w' l0 v T)∧
    (∀x,out = .pan x→RepV M' v x):=by
  obtain⟨hb1,hb2⟩:=boxes_get hbs
  have hl1:H1.length=ρ.length:=by rw [(renBoxes_get hH1).1,hb1]
  obtain⟨h1,h2,h3,h4⟩:=caller_sim h hn hbs (renBoxes_back hH1) hl1 hpost
  have hlook:∀r,look (zipR ρ bs++st.H) r=look st.H r:=by
    intro r
    obtain⟨h5,h6⟩:=look_zipR (H:=st.H) (ρ:=ρ) (bs:=bs) hb1 hn r
    by_cases hj:∃(j:Nat),ρ[j]? = some r
    · obtain⟨j,hj⟩:=hj;rw [h5 j hj,(hb2 j r hj).1]
    · exact h6 fun j hh=>hj ⟨j,hh⟩
  have hat:∀l,({env:=clrEnv os st.env,H:=zipR ρ bs++st.H,nxt:=st.nxt}:St).at l=({st with env:=clrEnv os st.env}:St).at l:=by
    intro l
    cases l with
    |slot s=>rfl
    |cell r i=>simp only [St.at,hlook]
  refine⟨h1,h2.sub rfl (fun l e hl=>⟨e,by rw [hat];exact hl,rfl,fun _ h=>h⟩) (fun r cs hr=>⟨cs,by rw [←hr];exact hlook r,rfl⟩),fun d own hd d' hd'=>?_,h4⟩
  obtain⟨h5,h6⟩:=h3 d own hd d' hd'
  refine⟨h5,fun T l0 hT=>?_⟩
  obtain⟨h7,h8,h9⟩:=h6 T l0 hT
  exact⟨h7,fun l e T' b hl=>h8 l e T' b (by rw [hat];exact hl),fun b r cs hb hr=>h9 b r cs hb (by rw [←hr];exact hlook r)⟩
def CallRes(P:Program)(K:Ctx)(M:Mem)(β:Nat→Option Nat)(g:Rg)(s:Stp)(o:Oper)(tmps:Array Value)(w:World):Prop:=
 match s with
 |.go f=>(∀q,q∈f.ob→q)→Yields P K M β g f o tmps w
 |.pan x hs ob=>(∀q,q∈ob→q)→Panics P K M β g x hs o tmps w
theorem clr_env{os:List Nat}{env:List (Nat×Ent)}{s:Nat}{e:Ent}(h:look env s=some e):∃e0,look (clrEnv os env) s=some e0∧e0.d=e.d:=by
 rw [look_clrEnv,h]
 split
 ·exact⟨_,rfl,rfl⟩
 ·exact⟨_,rfl,rfl⟩
theorem handed_ok{g:Rg}(h:SimG P K N M β g tmps w){xs:List Operand}{ts:List TypeId}:∀{os:List Nat} {hd:List (Nat×Option Nat×TypeId)},handed tt g xs ts os=some hd→∀{vs:List Value},
    (∀(i:Nat) t,xs[i]? = some (.tmp t)→vs[i]? = some (tmps.getD t undef))→(∀(i:Nat),xs[i]? = some (.const (.slice none 0 0))→vs[i]? = some (.slice none 0 0))→
    Handed {env:=g.env,H:=g.H,nxt:=g.nxt} tmps vs hd
  |[],hd,hh,vs,_,_=>by
    simp [handed]at hh
    subst hh
    exact⟨by simp,by simp,by simp⟩
  |i::os,hd,hh,vs,h1,h2=>by
    simp only [handed]at hh
    split at hh
    · rename_i t l hx hl
      have ih:=handed_ok h hl h1 h2
      split at hh
      case h_2=>cases hh
      rename_i d e he
      rw [Bool.cond_eq_ite]at hh
      split at hh
      case isFalse=>cases hh
      rename_i hc
      simp only [Bool.and_eq_true,List.all_eq_true,Bool.not_eq_true']at hc
      cases hh
      refine⟨fun i' t' T hm=>?_,fun i' T hm=>?_,fun i' j' t' T T' hm hm'=>?_⟩
      · rcases List.mem_cons.1 hm with hm|hm
        · cases hm
          exact⟨_,he,rfl,h1 i t hx⟩
        · exact ih.some i' t' T hm
      · rcases List.mem_cons.1 hm with hm|hm
        · cases hm
        · exact ih.none i' T hm
      · rcases List.mem_cons.1 hm with hm|hm<;>rcases List.mem_cons.1 hm' with hm'|hm'
        · cases hm;cases hm';rfl
        · cases hm
          have:=(hc.2 _ hm').1
          simp at this
        · cases hm'
          have:=(hc.2 _ hm).1
          simp at this
        · exact ih.inj i' j' t' T T' hm hm'
    · rename_i l hx hl
      have ih:=handed_ok h hl h1 h2
      split at hh
      case h_2=>cases hh
      rename_i e sz by_ z _ he
      rw [Bool.cond_eq_ite]at hh
      split at hh
      case isFalse=>cases hh
      cases hh
      refine⟨fun i' t' T hm=>?_,fun i' T hm=>?_,fun i' j' t' T T' hm hm'=>?_⟩
      · rcases List.mem_cons.1 hm with hm|hm
        · cases hm
        · exact ih.some i' t' T hm
      · rcases List.mem_cons.1 hm with hm|hm
        · cases hm;exact h2 i hx
        · exact ih.none i' T hm
      · rcases List.mem_cons.1 hm with hm|hm<;>rcases List.mem_cons.1 hm' with hm'|hm'
        · cases hm
        · cases hm
        · cases hm'
        · exact ih.inj i' j' t' T T' hm hm'
    · cases hh
theorem call_go(h:Hyp P K N M β g tmps w p tt){c:Call}(ho:o.op = .call c){x:Operand}(hc:c.callee = .value x){fn:FuncId}{caps ds:List D}(hx:rd g.env g.cenv p tt o.type x=some (.fn fn caps))
    (hds:rdL (rd g.env g.cenv p tt) c.args.toList c.argTypes.toList=some ds) {s:Stp} (hs:callStep (saysC P) tt g p c.args.toList c.argTypes.toList fn (ds++caps)=some s):
    CallRes P K M β g s o tmps w:=by
  obtain⟨vs,hv,hlen,hr⟩:=inv_fn (rd_rep (ds:=[]) h.sim h.pc hx)
  obtain⟨hd1,hd2⟩:=rdL_get hds
  have hargs:∀(i:Nat) v d,(c.args.toList.map (⟨tmps,[]⟩:Act).eval++vs)[i]? = some v→(ds++caps)[i]? = some d→RepD M β v d:=by
    intro i v d hvi hdi
    by_cases hi:i<c.args.toList.length
    · rw [List.getElem?_append_left (by simpa using hi),List.getElem?_map,Option.map_eq_some_iff]at hvi
      obtain⟨y,hy,rfl⟩:=hvi
      rw [List.getElem?_append_left (by omega)]at hdi
      obtain⟨ty,hty⟩:=hd2 i y d hy hdi
      exact rd_rep h.sim h.pc hty
    · rw [List.getElem?_append_right (by simp;simp at hi;omega)]at hvi
      rw [List.getElem?_append_right (by omega)]at hdi
      refine hr _ v d hvi ?_
      rw [hd1]at hdi
      simpa using hdi
  have hlen2:(c.args.toList.map (⟨tmps,[]⟩:Act).eval++vs).length=(ds++caps).length:=by simp at hd1 ⊢;omega
  unfold callStep at hs
  dsimp only at hs
  generalize hρ:refsClosed g.H 2 (dedup ((ds++caps).flatMap refs))=ρ at hs
  split at hs
  case h_2=>cases hs
  rename_i out H2 os rs hrs
  split at hs
  case h_2=>cases hs
  rename_i args' H1 hd ha' hH1 hhd
  rw [Option.bind_eq_some_iff]at hH1
  obtain⟨bs,hbs,hH1⟩:=hH1
  rw [Bool.cond_eq_ite]at hs
  split at hs
  · cases hs
  rename_i hnd
  have hn:nodupB ρ=true:=by
    have:(!nodupB ρ || !(List.isEmpty p||List.isEmpty os))=false:=by simpa using hnd
    simp only [Bool.or_eq_false_iff,Bool.not_eq_false']at this
    exact this.1
  have hH:=handed_ok h.sim hhd (vs:=c.args.toList.map (⟨tmps,[]⟩:Act).eval++vs) (fun i t ht=>by
    rw [List.getElem?_append_left (by simpa using(List.getElem?_eq_some_iff.1 ht).1),List.getElem?_map,ht];rfl) (fun i ht=>by
    rw [List.getElem?_append_left (by simpa using(List.getElem?_eq_some_iff.1 ht).1),List.getElem?_map,ht];rfl)
  have hcs:=callee_sim (st:={env:=g.env,H:=g.H,nxt:=g.nxt}) h.sim.sim hn hbs hH1 hlen2 hargs ha' hH
  have hl1:H1.length=ρ.length:=by rw [(renBoxes_get hH1).1,(boxes_get hbs).1]
  -- what the contract gives, whatever the boxes behind it
  have key:∀{Hx:List (List Ent)},saysOf P fn args' (hdOw hd) H1 out Hx→(execOp (Act.eval ⟨tmps,[]⟩) o).run P w = .ok (.enter fn ⟨c.args.toList.map (⟨tmps,[]⟩:Act).eval++vs⟩) w∧
      Calls P fn ⟨c.args.toList.map (⟨tmps,[]⟩:Act).eval++vs⟩ w fun e w'=>∃v M' β',e=endOf out v∧
        SimAt P (callCtx M β {env:=g.env,H:=g.H,nxt:=g.nxt} tmps w ρ (hdClr hd)) M' β' {env:=resEnv out,H:=enumFrom' 0 Hx,nxt:=ρ.length} #[v] w':=by
    intro Hx hsay
    obtain⟨⟨fd,hfd,hbody,hname⟩,hcon⟩:=hsay
    refine⟨exec_call ho hc hv hfd hbody hname,(hcon _ w _ M _ (by rw [hlen2,renL_len ha']) hcs (fun r b hb=>hb)).mono ?_⟩
    rintro e w' ⟨o',H',v,M',β',⟨rfl,rfl⟩,he,hsim⟩
    rw [hl1]at hsim
    exact⟨v,M',β',he,hsim⟩
  -- the boxes as they were, named anew and back
  have back:∀{Hx Hx':List (List Ent)},renBoxes (fun j=>ρ[j]?) Hx=some Hx'→Hx.length=ρ.length→∀{v:Value} {w':World} {M':Mem} {β':Nat→Option Nat},
      SimAt P (callCtx M β {env:=g.env,H:=g.H,nxt:=g.nxt} tmps w ρ (hdClr hd)) M' β' {env:=resEnv out,H:=enumFrom' 0 Hx,nxt:=ρ.length} #[v] w'→_:=
    fun hx hl _ _ _ _ hp=>caller_sim (st:={env:=g.env,H:=g.H,nxt:=g.nxt}) h.sim.sim hn hbs hx hl hp
  have back0:∀{v:Value} {w':World} {M':Mem} {β':Nat→Option Nat},
      SimAt P (callCtx M β {env:=g.env,H:=g.H,nxt:=g.nxt} tmps w ρ (hdClr hd)) M' β' {env:=resEnv out,H:=enumFrom' 0 H1,nxt:=ρ.length} #[v] w'→
      M.le M'∧SimAt P K M' β {env:=clrEnv (hdClr hd) g.env,H:=g.H,nxt:=g.nxt} tmps w'∧
      (∀d own,out = .ret d own→∀d',ren (fun j=>ρ[j]?) d=some d'→RepD M' β v d'∧∀T l0,own=some T→NewOwn P K M' β {env:=clrEnv (hdClr hd) g.env,H:=g.H,nxt:=g.nxt} tmps w' l0 v T)∧
      (∀x,out = .pan x→RepV M' v x):=by
    intro v w' M' β' hp
    exact caller_sim0 (st:={env:=g.env,H:=g.H,nxt:=g.nxt}) h.sim.sim hn hbs hH1 hp
  cases out with
  |ret d own=>
    cases H2 with
    |none=>
      simp only [Option.map_eq_some_iff]at hs
      obtain⟨d',hd',rfl⟩:=hs
      intro hob
      obtain⟨h1,h2⟩:=key (hob _ (List.mem_singleton.2 rfl))
      refine .inr (.inr ⟨fn,_,h1,h2.mono ?_⟩)
      rintro e w' ⟨v,M',β',he,hp⟩
      obtain⟨hM,hsim,hret,_⟩:=back0 hp
      refine⟨v,he,M',β,hM,fun _ _ h=>h,fun _ _ h=>.inl h,hsim,fun e1 he1=>?_⟩
      cases he1
      exact hret d own rfl d' hd'
    |some H2=>
      dsimp only at hs
      split at hs
      case h_2=>cases hs
      rename_i d' H2' hd' hH2
      rw [Bool.cond_eq_ite]at hs
      split at hs
      case isFalse=>cases hs
      rename_i hl
      cases hs
      intro hob
      obtain⟨h1,h2⟩:=key (hob _ (List.mem_singleton.2 rfl))
      refine .inr (.inr ⟨fn,_,h1,h2.mono ?_⟩)
      rintro e w' ⟨v,M',β',he,hp⟩
      obtain⟨hM,hsim,hret,_⟩:=back hH2 (by simpa using hl) hp
      refine⟨v,he,M',β,hM,fun _ _ h=>h,fun _ _ h=>.inl h,hsim,fun e1 he1=>?_⟩
      cases he1
      exact hret d own rfl d' hd'
  |pan x=>
    cases H2 with
    |none=>
      cases hs
      intro hob
      obtain⟨h1,h2⟩:=key (hob _ (List.mem_singleton.2 rfl))
      refine .inr ⟨fn,_,h1,h2.mono ?_⟩
      rintro e w' ⟨v,M',β',he,hp⟩
      obtain⟨hM,hsim,_,hpan⟩:=back0 hp
      exact⟨v,M',he,hpan x rfl,hsim.noOwn fun s e he=>clr_env he⟩
    |some H2=>
      dsimp only at hs
      split at hs
      case h_2=>cases hs
      rename_i H2' hH2
      rw [Bool.cond_eq_ite]at hs
      split at hs
      case isFalse=>cases hs
      rename_i hl
      cases hs
      intro hob
      obtain⟨h1,h2⟩:=key (hob _ (List.mem_singleton.2 rfl))
      refine .inr ⟨fn,_,h1,h2.mono ?_⟩
      rintro e w' ⟨v,M',β',he,hp⟩
      obtain⟨hM,hsim,_,hpan⟩:=back hH2 (by simpa using hl) hp
      exact⟨v,M',he,hpan x rfl,hsim.noOwn fun s e he=>clr_env he⟩
end
end Go.Ab
namespace Go.Ab
section
variable {P:Program} {K:Ctx} {N:Nat} {M:Mem} {β:Nat→Option Nat} {st:St} {g:Rg} {tmps:Array Value} {w:World} {o:Oper} {f:Eff} {p:Path} {tt:TT} {ops:List Oper}
theorem st_len(h:Hyp P K N M β g tmps w p tt){c:Call}(ho:o.op = .call c)(hc:c.callee = .builtin .len){d:D}(hd:mapM' (fun y=>rd g.env g.cenv p tt o.type y) c.args.toList=some [d]){ti:TI}
    (hl:(c.argTypes.toList[0]?).bind (look tt)=some ti) {n:Nat} (hk:(∃l,d = .v (.str l)∧ti.k = .str∧n=l.length)∨(∃k get e,d = .v (.slc k n get)∧ti.k = .slc e)):
    Yields P K M β g {e:=some {d:=.v (.int .i64 n)},rs:=g.rs} o tmps w:=by
  obtain⟨hd1,hd2⟩:=mapM'_get hd
  rw [Option.bind_eq_some_iff]at hl
  obtain⟨t,ht,hl⟩:=hl
  obtain⟨r⟩:=tt_row h.tt hl
  obtain⟨a,ha⟩:∃a,c.args.toList=[a]:=by
    cases hcl:c.args.toList with
    |nil=>rw [hcl]at hd1;simp at hd1
    |cons a l=>
      rw [hcl]at hd1
      simp at hd1
      exact⟨a,by rw [hd1]⟩
  have hra:=rd_rep (ds:=[]) h.sim h.pc (hd2 0 a d (by rw [ha];rfl) rfl)
  rcases hk with⟨l,rfl,hk,rfl⟩|⟨k,get,e,rfl,hk⟩
  · have ea:=inv_str hra
    refine yields_pure h.sim (exec_len ho hc ha ht ea (fun ty=>?_)) (.v _ _ (.int _ _))
    have hs:(⟨⟨l⟩⟩:ByteArray).size=l.length:=rfl
    simp [Builtin.len_,r.run_underlying,desc_str r hk,goInt,hs]
  · obtain⟨base,cap,ea,_⟩:=slc_shape hra
    refine yields_pure h.sim (exec_len ho hc ha ht ea (fun ty=>?_)) (.v _ _ (.int _ _))
    simp [Builtin.len_,r.run_underlying,desc_slc r hk,goInt]
theorem st_min(h:Hyp P K N M β g tmps w p tt){c:Call}(ho:o.op = .call c)(hc:c.callee = .builtin .min){k:IntKind}{a b:Int}(hd:mapM' (fun y=>rd g.env g.cenv p tt o.type y) c.args.toList=some [.v (.int k a),.v (.int k b)]):
    Yields P K M β g {e:=some {d:=.v (.int k (bif decide (b<a)then b else a))},rs:=g.rs} o tmps w:=by
  obtain⟨hd1,hd2⟩:=mapM'_get hd
  obtain⟨x,y,hxy⟩:∃x y,c.args.toList=[x,y]:=by
    cases hcl:c.args.toList with
    |nil=>rw [hcl]at hd1;simp at hd1
    |cons x l=>
      cases l with
      |nil=>rw [hcl]at hd1;simp at hd1
      |cons y l=>
        rw [hcl]at hd1
        simp at hd1
        exact⟨x,y,by rw [hd1]⟩
  have ex:=inv_int (rd_rep (ds:=[]) h.sim h.pc (hd2 0 x _ (by rw [hxy];rfl) rfl))
  have ey:=inv_int (rd_rep (ds:=[]) h.sim h.pc (hd2 1 y _ (by rw [hxy];rfl) rfl))
  have hargs':c.args = #[x,y]:=by apply Array.ext';simpa using hxy
  refine yields_pure h.sim (v:=.int k (bif decide (b<a)then b else a)) ?_ (.v _ _ (.int _ _))
  simp only [execOp,ho,resolve,hc,hargs',Sem.run_bind,Sem.run_pure,Result.andThen_ok,invoke,builtin,List.map_toArray,List.map_cons,List.map_nil,ex,ey]
  by_cases hab:b<a<;>simp [Builtin.min_,Builtin.min2,hab]
theorem st_max(h:Hyp P K N M β g tmps w p tt){c:Call}(ho:o.op = .call c)(hc:c.callee = .builtin .max){k:IntKind}{a b:Int}(hd:mapM' (fun y=>rd g.env g.cenv p tt o.type y) c.args.toList=some [.v (.int k a),.v (.int k b)]):
    Yields P K M β g {e:=some {d:=.v (.int k (bif decide (a<b)then b else a))},rs:=g.rs} o tmps w:=by
  obtain⟨hd1,hd2⟩:=mapM'_get hd
  obtain⟨x,y,hxy⟩:∃x y,c.args.toList=[x,y]:=by
    cases hcl:c.args.toList with
    |nil=>rw [hcl]at hd1;simp at hd1
    |cons x l=>
      cases l with
      |nil=>rw [hcl]at hd1;simp at hd1
      |cons y l=>
        rw [hcl]at hd1
        simp at hd1
        exact⟨x,y,by rw [hd1]⟩
  have ex:=inv_int (rd_rep (ds:=[]) h.sim h.pc (hd2 0 x _ (by rw [hxy];rfl) rfl))
  have ey:=inv_int (rd_rep (ds:=[]) h.sim h.pc (hd2 1 y _ (by rw [hxy];rfl) rfl))
  have hargs':c.args = #[x,y]:=by apply Array.ext';simpa using hxy
  refine yields_pure h.sim (v:=.int k (bif decide (a<b)then b else a)) ?_ (.v _ _ (.int _ _))
  simp only [execOp,ho,resolve,hc,hargs',Sem.run_bind,Sem.run_pure,Result.andThen_ok,invoke,builtin,List.map_toArray,List.map_cons,List.map_nil,ex,ey]
  by_cases hab:a<b<;>simp [Builtin.max_,Builtin.max2,hab]
theorem st_typeAssert(h:Hyp P K N M β g tmps w p tt){says:CallSays}{x:Operand}{s t:TypeId}{ok:Bool}(ho:o.op = .typeAssert x s t ok)(hs:step1 says tt ops g p o=some (.go f)):Yields P K M β g f o tmps w:=by
 simp only [step1,ho]at hs
 split at hs
 case h_2=>cases hs
 rename_i t' y k sz by_ z _ hx hl
 obtain⟨r⟩:=tt_row h.tt hl
 have hr:=rd_rep (ds:=[]) h.sim h.pc hx
 obtain⟨u,hv,hu⟩:=inv_iface hr
 have hni:k ≠ .ifc:=by rintro rfl;simp at hs
 have hdesc:∀i,r.desc ≠ .interface i:=by
  intro i hd
  have:=r.hk
  rw [hd]at this
  simp [tkOf]at this
  exact hni this.symm
 have hs':(bif Nat.beq t' t then(some (Stp.go {e:=some {d:=(bif ok then .tup [.v y,.v (.bool true)]else .v y)},rs:=g.rs}))else none)=some (.go f):=by
  cases k<;>first|exact(hni rfl).elim|exact hs
 rw [Bool.cond_eq_ite]at hs'
 split at hs'
 case isFalse=>cases hs'
 rename_i hb
 have hb':t'=t:=by simpa using hb
 subst hb'
 cases hs'
 have hrun:(Instr.typeAssert (.iface t' u) s t' ok).run P w = .ok (bif ok then .tuple #[u,.bool true]else u) w:=by
  unfold Instr.typeAssert
  simp only [Sem.run_bind,r.run_underlying,Result.andThen_ok]
  cases hd:r.desc<;>first|exact(hdesc _ hd).elim|(cases ok<;>simp)
 refine yields_pure h.sim (v:=bif ok then .tuple #[u,.bool true]else u) ?_ ?_
 ·simp only [execOp,ho,hv];exact runv _ hrun
 ·cases ok
  ·exact .v _ _ hu
  ·refine .tup [u,.bool true] _ rfl fun i v c hv hc=>?_
   match i with
   | 0=>simp at hv hc;subst hv;subst hc;exact .v _ _ hu
   | 1=>simp at hv hc;subst hv;subst hc;exact .v _ _ (.bool _)
   |i+2=>simp at hv
theorem step_ok(h:Hyp P K N M β g tmps w p tt){s:Stp}(hs:step1 (saysC P) tt ops g p o=some s):CallRes P K M β g s o tmps w:=by
 cases ho:o.op with
 |move x=>cases s with
  |go f=>exact fun _=>st_move h ho hs
  |pan x hs' ob=>simp only [step1,ho]at hs;repeat' (first |(split at hs) |(rw [Bool.cond_eq_ite]at hs) |(cases hs;done))
 |assign x=>cases s with
  |go f=>exact fun _=>st_assign h ho hs
  |pan x hs' ob=>simp only [step1,ho]at hs;repeat' (first |(split at hs) |(rw [Bool.cond_eq_ite]at hs) |(cases hs;done))
 |pick c a b=>
  cases c with
  |tmp c=>cases s with
   |go f=>exact fun _=>st_pick h ho hs
   |pan x hs' ob=>simp only [step1,ho]at hs;repeat' (first |(split at hs) |(simp at hs;done))
  |_=>simp [step1,ho]at hs
 |alloc t=>cases s with
  |go f=>exact fun _=>st_alloc h ho hs
  |pan x hs' ob=>simp only [step1,ho]at hs;repeat' (first |(split at hs) |(cases hs;done))
 |box t x=>cases s with
  |go f=>exact fun _=>st_box h ho hs
  |pan x hs' ob=>simp only [step1,ho]at hs;repeat' (first |(split at hs) |(rw [Bool.cond_eq_ite]at hs) |(cases hs;done))
 |build t parts=>cases s with
  |go f=>exact fun _=>st_build h ho hs
  |pan x hs' ob=>simp only [step1,ho]at hs;repeat' (first |(split at hs) |(rw [Bool.cond_eq_ite]at hs) |(simp at hs;done) |(cases hs;done))
 |buildSlice t len parts=>cases s with
  |go f=>exact fun hob=>st_buildSlice h ho hs hob
  |pan x hs' ob=>simp only [step1,ho]at hs;repeat' (first |(split at hs) |(rw [Bool.cond_eq_ite]at hs) |(cases hs;done))
 |load t a=>cases s with
  |go f=>exact fun _=>st_load h ho hs
  |pan x hs' ob=>simp only [step1,ho]at hs;repeat' (first |(split at hs) |(rw [Bool.cond_eq_ite]at hs) |(simp at hs;done) |(cases hs;done))
 |store t a x=>cases s with
  |go f=>exact fun _=>st_store h ho hs
  |pan x hs' ob=>simp only [step1,ho]at hs;repeat' (first |(split at hs) |(rw [Bool.cond_eq_ite]at hs) |(cases hs;done))
 |nilCheck x=>cases s with
  |go f=>exact fun _=>st_nilCheck h ho hs
  |pan x hs' ob=>simp only [step1,ho]at hs;repeat' (first |(split at hs) |(simp at hs;done))
 |binOp op t x y t2=>cases s with
  |go f=>exact fun hob=>st_binOp h ho hs hob
  |pan x hs' ob=>simp only [step1,ho]at hs;repeat' (first |(split at hs) |(rw [Bool.cond_eq_ite]at hs) |(simp at hs;done))
 |unOp op t x=>cases s with
  |go f=>exact fun _=>st_unOp h ho hs
  |pan x hs' ob=>simp only [step1,ho]at hs;repeat' (first |(split at hs) |(simp at hs;done))
 |convert a b x=>cases s with
  |go f=>exact fun hob=>st_convert h ho hs hob
  |pan x hs' ob=>simp only [step1,ho]at hs;repeat' (first |(split at hs) |(simp at hs;done))
 |makeInterface t x=>cases s with
  |go f=>exact fun _=>st_makeInterface h ho hs
  |pan x hs' ob=>simp only [step1,ho]at hs;repeat' (first |(split at hs) |(simp at hs;done))
 |makeFunc fn first caps=>
  cases fn with
  |func fn=>cases s with
   |go f=>exact fun _=>st_makeFunc h ho hs
   |pan x hs' ob=>simp only [step1,ho]at hs;rw [Bool.cond_eq_ite]at hs;split at hs<;>simp at hs
  |_=>simp [step1,ho]at hs
 |slice t x lo hi mx=>cases s with
  |go f=>exact fun hob=>st_slice h ho hs hob
  |pan x hs' ob=>simp only [step1,ho]at hs;repeat' (first |(split at hs) |(rw [Bool.cond_eq_ite]at hs) |(simp at hs;done))
 |fieldAddr a x i=>cases s with
  |go f=>exact fun _=>st_fieldAddr h ho hs
  |pan x hs' ob=>simp only [step1,ho]at hs;repeat' (first |(split at hs) |(rw [Bool.cond_eq_ite]at hs) |(simp at hs;done))
 |field a x i=>cases s with
  |go f=>exact fun _=>st_field h ho hs
  |pan x hs' ob=>simp only [step1,ho]at hs;repeat' (first |(split at hs) |(rw [Bool.cond_eq_ite]at hs) |(simp at hs;done))
 |indexAddr t x i=>cases s with
  |go f=>exact fun hob=>st_indexAddr h ho hs hob
  |pan x hs' ob=>simp only [step1,ho]at hs;repeat' (first |(split at hs) |(rw [Bool.cond_eq_ite]at hs) |(simp at hs;done))
 |index t x i=>cases s with
  |go f=>exact fun hob=>st_index h ho hs hob
  |pan x hs' ob=>simp only [step1,ho]at hs;repeat' (first |(split at hs) |(simp at hs;done))
 |typeAssert x a t ok=>cases s with
  |go f=>exact fun _=>st_typeAssert h ho hs
  |pan x hs' ob=>simp only [step1,ho]at hs;repeat' (first |(split at hs) |(rw [Bool.cond_eq_ite]at hs) |(simp at hs;done) |(cases hs;done))
 |extract x i=>cases s with
  |go f=>exact fun _=>st_extract h ho hs
  |pan x hs' ob=>simp only [step1,ho]at hs;repeat' (first |(split at hs) |(simp at hs;done))
 |call c=>
  simp only [step1,ho]at hs
  split at hs
  ·rename_i x hcal
   split at hs
   case h_2=>cases hs
   rename_i fn caps ds hx hds
   exact call_go h ho hcal hx hds hs
  ·rename_i hcal
   split at hs
   ·rename_i l _ _ _ _ hd hl
    cases hs
    exact fun _=>st_len h ho hcal hd hl (.inl ⟨l,rfl,rfl,rfl⟩)
   ·rename_i k n get _ _ _ _ _ hd hl
    cases hs
    exact fun _=>st_len h ho hcal hd hl (.inr ⟨k,get,_,rfl,rfl⟩)
   ·cases hs
  ·rename_i hcal
   split at hs
   case h_2=>cases hs
   rename_i t x e sz1 by1 z1 _ t2 hargs hl1 hl2
   split at hs
   case h_3=>cases hs
   case h_2=>
    rename_i te k n get d2 y rs hle hs1 hd2 hrs
    rw [Bool.cond_eq_ite]at hs
    split at hs
    case isFalse=>cases hs
    rename_i hc
    simp only [Bool.and_eq_true,Nat.beq_eq,Nat.ble_eq]at hc
    obtain⟨⟨⟨rfl,hp1⟩,hp2⟩,hpe⟩:=hc
    rw [Option.bind_eq_some_iff]at hl1 hl2
    obtain⟨ty1,hty1,hl1⟩:=hl1
    obtain⟨ty2,hty2,hl2⟩:=hl2
    have hr2:=rd_rep (ds:=[]) h.sim h.pc hd2
    split at hs
    case h_2=>cases hs
    rename_i k2 m get2 e2 hk2
    rw [Bool.cond_eq_ite]at hs
    split at hs
    case isFalse=>cases hs
    rename_i hkk
    simp only [Bool.and_eq_true,Nat.beq_eq,Nat.ble_eq]at hkk
    obtain⟨rfl,hm⟩:=hkk
    cases hs
    intro hob
    obtain⟨news,hsrc,hel⟩:=src_slice h.sim.sim h.tt hl2 hk2 hr2
    exact ok_append_full h.sim h.pc h.tt hl1 rfl hle ho hcal hargs hty1 hty2 hs1 hp2 hm hsrc hel (room_spec (hob (room (n+m) te.bytes=true) (by simp))) (hob (VImp _ y) (by simp))
   rename_i te k n get d2 dd e' y rs hle hs1 hd2 hent hrs
   rw [Bool.cond_eq_ite]at hs
   split at hs
   case isFalse=>cases hs
   rename_i hc
   simp only [Bool.and_eq_true,Nat.beq_eq,Nat.ble_eq]at hc
   obtain⟨⟨⟨⟨rfl,rfl⟩,hp1⟩,hp2⟩,hpe⟩:=hc
   rw [Option.bind_eq_some_iff]at hl1 hl2
   obtain⟨ty1,hty1,hl1⟩:=hl1
   obtain⟨ty2,hty2,hl2⟩:=hl2
   have hr2:=rd_rep (ds:=[]) h.sim h.pc hd2
   split at hs
   ·rename_i k2 m get2 e2 hk2
    rw [Bool.cond_eq_ite]at hs
    split at hs
    case isFalse=>cases hs
    rename_i hkk
    simp only [Nat.beq_eq]at hkk
    subst hkk
    cases hs
    intro hob
    obtain⟨news,hsrc,hel⟩:=src_slice h.sim.sim h.tt hl2 hk2 hr2
    exact ok_append h.sim h.pc h.tt hl1 rfl hle ho hcal hargs hty1 hty2 hs1 hent rfl hp2 hsrc hel (room_spec (hob (room (n+m) te.bytes=true) (by simp))) (hob (VImp _ y) (by simp))
   ·rename_i l hk2
    rw [Bool.cond_eq_ite]at hs
    split at hs
    case isFalse=>cases hs
    rename_i hkk
    simp only [Nat.beq_eq]at hkk
    cases hs
    intro hob
    have hr3:=inv_str hr2
    obtain⟨news,hsrc,hel⟩:=src_string (P:=P) (w:=w) h.tt hl2 hk2 l M
    rw [←hr3,←hkk]at hsrc
    rw [←hkk]at hel
    exact ok_append h.sim h.pc h.tt hl1 rfl hle ho hcal hargs hty1 hty2 hs1 hent rfl hp2 hsrc hel (room_spec (hob (room (n+l.length) te.bytes=true) (by simp))) (hob (VImp _ y) (by simp))
   ·cases hs
  ·rename_i hcal
   split at hs
   ·rename_i k a k2 b hd
    rw [Bool.cond_eq_ite]at hs
    split at hs
    case isFalse=>cases hs
    rename_i hk
    have hk':k=k2:=by simpa using hk
    subst hk'
    cases hs
    exact fun _=>st_min h ho hcal hd
   ·cases hs
  ·rename_i hcal
   split at hs
   ·rename_i k a k2 b hd
    rw [Bool.cond_eq_ite]at hs
    split at hs
    case isFalse=>cases hs
    rename_i hk
    have hk':k=k2:=by simpa using hk
    subst hk'
    cases hs
    exact fun _=>st_max h ho hcal hd
   ·cases hs
  ·cases hs
 |panic x=>cases s with
  |go f=>simp only [step1,ho]at hs;repeat' (first |(split at hs) |(simp at hs;done))
  |pan y hs' ob=>
   simp only [step1,ho]at hs
   split at hs
   case h_2=>cases hs
   rename_i t z hd
   cases hs
   intro _
   have hr:=rd_rep (ds:=[]) h.sim h.pc hd
   obtain⟨u,hv,hu⟩:=inv_iface hr
   refine .inl ⟨.iface t u,?_,.iface t u z hu,rfl⟩
   simp [execOp,ho,hv,Instr.panic]
 |_=>simp [step1,ho]at hs
end
end Go.Ab
namespace Go.Ab
inductive AE where
 |normal
 |exit (id:Nat)
 |ret
 |pan (x:V)
def SimE(P:Program)(K:Ctx)(N:Nat)(ae:AE)(st:St)(e:Exit)(a:Act)(w:World):Prop:=
 match ae with
 |.normal=>e = .normal∧a.defers=K.ds∧a.tmps.size=N∧∃M β,SimAt P K M β st a.tmps w
 |.exit id=>e = .exit id∧a.defers=K.ds∧a.tmps.size=N∧∃M β,SimAt P K M β st a.tmps w
 |.ret=>e = .ret∧a.defers=K.ds∧a.tmps.size=N∧∃M β,SimAt P K M β st a.tmps w
 |.pan x=>∃v,e = .panic [{v,recovered:=false}]∧a.defers=K.ds∧∃M β,RepV M v x∧SimAt P K M β st a.tmps w
section
variable {P:Program} {K:Ctx} {N:Nat} {M:Mem} {β:Nat→Option Nat} {st:St} {g g':Rg} {tmps:Array Value} {w:World} {o:Oper} {f:Eff} {p:Path} {tt:TT} {ops:List Oper}
theorem SimAt.noEnv(h:SimAt P K M β st tmps w)(tmps':Array Value):SimAt P K M β {env:=[],H:=st.H,nxt:=st.nxt} tmps' w:=by
 have h1:SimAt P K M β {env:=[],H:=st.H,nxt:=st.nxt} tmps w:=h.sub rfl (fun l e hl=>by
  cases l with
  |slot s=>simp [St.at,look]at hl
  |cell r i=>exact⟨e,hl,rfl,fun _ h=>h⟩) (fun r cs hr=>⟨cs,hr,rfl⟩)
 have hv:∀l e,({env:=[],H:=st.H,nxt:=st.nxt}:St).at l=some e→valAt tmps' w β l=valAt tmps w β l:=by
  intro l e hl
  cases l with
  |slot s=>simp [St.at,look]at hl
  |cell r i=>rfl
 constructor
 ·intro l e hl;rw [hv l e hl];exact h1.ents l e hl
 ·intro l e T hl hT;rw [hv l e hl];exact h1.own l e T hl hT
 ·intro l l' e e' T T' b hl hT hl' hT' hb hb'
  rw [hv l e hl]at hb;rw [hv l' e' hl']at hb';exact h1.uniq l l' e e' T T' b hl hT hl' hT' hb hb'
 ·intro l e T b r cs hl hT hb hr;rw [hv l e hl]at hb;exact h1.unbox l e T b r cs hl hT hb hr
 ·exact h1.box
 ·exact h1.inj
 ·exact h1.lt
 ·exact h1.mem
 ·exact h1.m0
 ·exact h1.frame
 ·exact h1.beta0
 ·exact h1.good
 ·exact h1.oo
theorem under_pc(h:SimG P K N M β g tmps w):∀{p:Path} {q:Prop},PC tmps p→under g p q→q
 |[],_,_,hq=>hq
 |(t,b0)::p,q,hp,hq=>by
  have ht:tmps.getD t undef = .bool b0:=hp (t,b0) (by simp)
  have hp':PC tmps p:=fun x hx=>hp x (by simp [hx])
  simp only [under]at hq
  split at hq
  ·rename_i b hb
   refine under_pc h hp' (hq ?_)
   unfold boolAt at hb
   split at hb
   ·rename_i q' b' hc
    cases hb
    by_cases hpc:PC tmps q'
    ·have:=inv_bool ((h.cond t _ _ hc).1 hpc)
     rw [ht]at this;cases this;rfl
    ·have:=(h.cond t _ _ hc).2 hpc
     rw [ht]at this;cases this
   ·cases hb
   ·split at hb
    ·rename_i b' own he
     cases hb
     have:=inv_bool (h.sim.ents (.slot t) _ he)
     simp only [valAt]at this
     rw [ht]at this;cases this;rfl
    ·cases hb
  ·exact under_pc h hp' hq
theorem wanted_pc(h:SimG P K N M β g tmps w){opsA:Array Oper}(hops:opsA.toList=ops)(hp:guardPath ops g o=some p):Region.wanted o (yielded opsA tmps)=true↔PC tmps p:=by
 unfold guardPath at hp
 split at hp
 ·rename_i hg
  cases hp
  simp [Region.wanted,hg,PC]
 ·rename_i j b0 hg
  split at hp
  case h_2=>cases hp
  rename_i t ht
  have hy:yielded opsA tmps j=some b0↔tmps.getD t undef = .bool b0:=by
   unfold yielded
   have:opsA[j]? = ops[j]? := by rw [←hops];simp
   rw [this,ht]
   simp only [Option.bind_some,Array.getD_eq_getD_getElem?]
   cases hh:tmps[t]? with
   |none=>simp [undef]
   |some v=>cases v<;>simp
  have hw:Region.wanted o (yielded opsA tmps)=true↔tmps.getD t undef = .bool b0:=by
   rw [←hy];simp [Region.wanted,hg]
  split at hp
  ·rename_i q b hc
   cases hp
   rw [hw]
   constructor
   ·intro ht2 x hx
    rcases List.mem_append.1 hx with hx|hx
    ·by_cases hpc:PC tmps q
     ·exact hpc x hx
     ·have:=(h.cond t _ _ hc).2 hpc
      rw [ht2]at this;cases this
    ·simp at hx;subst hx;exact ht2
   ·intro hpc;exact hpc (t,b0) (by simp)
  ·cases hp
  ·split at hp
   ·cases hp
    rw [hw]
    exact⟨fun h x hx=>by simp at hx;subst hx;exact h,fun h=>h (t,b0) (by simp)⟩
   ·cases hp
theorem PC_set{t:Nat}{v:Value}{q:Path}(hq:∀x,x∈q→x.1≠t):PC (tmps.setIfInBounds t v) q↔PC tmps q:=by
 unfold PC
 constructor<;>intro h x hx
 ·have:=h x hx
  rwa [Array.getD_eq_getD_getElem?,Array.getElem?_setIfInBounds_ne (Ne.symm (hq x hx)),←Array.getD_eq_getD_getElem?]at this
 ·have:=h x hx
  rwa [Array.getD_eq_getD_getElem?,Array.getElem?_setIfInBounds_ne (Ne.symm (hq x hx)),←Array.getD_eq_getD_getElem?]
theorem getD_set{t s:Nat}{v:Value}(h:s≠t):(tmps.setIfInBounds t v).getD s undef=tmps.getD s undef:=by
 rw [Array.getD_eq_getD_getElem?,Array.getElem?_setIfInBounds_ne (Ne.symm h),←Array.getD_eq_getD_getElem?]
theorem freeOf_spec{cenv:List (Nat×Path×D)}{t:Nat}(h:freeOf cenv t=true){s:Nat}{q:Path}{d:D}(hc:look cenv s=some (q,d))(hs:s≠t):∀x,x∈q→x.1≠t:=by
 unfold freeOf at h
 rw [List.all_eq_true]at h
 have:=h _ (look_mem hc)
 simp only [Bool.or_eq_true,Nat.beq_eq,List.all_eq_true,Bool.not_eq_true']at this
 rcases this with h1|h1
 ·exact absurd h1 hs
 ·intro x hx e
  have:=h1 x hx
  rw [e]at this
  simp at this
theorem cond_set(h:∀t q d,look g.cenv t=some (q,d)→(PC tmps q→RepD M β (tmps.getD t undef) d)∧(¬ PC tmps q→tmps.getD t undef=undef)){t:Nat}{v:Value}(hf:freeOf g.cenv t=true){M':Mem}{β':Nat→Option Nat}
    (hM:M.le M') (hβ:∀r b,β r=some b→β' r=some b):
    ∀s q d,look (del g.cenv t) s=some (q,d)→(PC (tmps.setIfInBounds t v) q→RepD M' β' ((tmps.setIfInBounds t v).getD s undef) d)∧(¬ PC (tmps.setIfInBounds t v) q→(tmps.setIfInBounds t v).getD s undef=undef):=by
  intro s q d hc
  rw [look_del]at hc
  by_cases hs:t=s
  · simp [hs]at hc
  · rw [if_neg hs]at hc
    rw [PC_set (freeOf_spec hf hc (Ne.symm hs)),getD_set (Ne.symm hs)]
    exact⟨fun hpc=>(((h s q d hc).1 hpc).mono hM).mono' hβ,(h s q d hc).2⟩
theorem eval_ds(ds:List Deferred):Act.eval ⟨tmps,ds⟩=Act.eval ⟨tmps,[]⟩:=by
 funext x;cases x<;>rfl
theorem look_app{α:Type}:∀(a b:List (Nat×α)) (q:Nat),look (a++b) q=none→look a q=none∧look b q=none
 |[],b,q,h=>⟨rfl,h⟩
 |(j,x)::a,b,q,h=>by
  simp only [List.cons_append,look_cons]at h ⊢
  by_cases hj:j=q
  ·simp [hj]at h
  ·simp only [hj,if_false]at h ⊢
   exact look_app a b q h
theorem SimG.fresh_step(h:SimG P K N M β g tmps w){β':Nat→Option Nat}{hs:List (Nat×List Ent)}(hβ':∀r b,β' r=some b→β r=some b∨(look hs r).isSome=true):
    ∀s id,look g.ids s=some id→look (hs++g.H) id=none→∀b,β' id≠some b:=by
  intro s id hid hl b hb
  obtain⟨h1,h2⟩:=look_app _ _ _ hl
  rcases hβ' id b hb with h3|h3
  · exact h.fresh s id hid h2 b h3
  · rw [h1]at h3;cases h3
theorem opStep_go(h:SimG P K N M β g tmps w)(htt:TTok P tt=true){opsA:Array Oper}(hops:opsA.toList=ops)(hs:opStep (saysC P) tt N ops g o=some (.go g'))(hob:∀q,q∈g'.ob→q){Q:Exit→Act→World→Prop}{next:Act→World→Prop}
    (hnext:∀tmps' w' M' β',SimG P K N M' β' g' tmps' w'→next ⟨tmps',K.ds⟩ w'):
    if Region.wanted o (yielded opsA tmps)then o.wp P ⟨tmps,K.ds⟩ w next Q∨(o.asks P ⟨tmps,K.ds⟩ w∧LetsOut Q)else next ((⟨tmps,K.ds⟩:Act).put o.dst undef) w:=by
  unfold opStep at hs
  split at hs
  case h_1=>cases hs
  rename_i p hp
  have hw:=wanted_pc h hops hp
  split at hs
  · cases hs
  · rw [Bool.cond_eq_ite]at hs;split at hs<;>cases hs
  rename_i f hf
  dsimp only at hs
  by_cases hpc:PC tmps p
  · rw [if_pos (
                hw.2 hpc)]
    refine .inl ?_
    have hres:=step_ok (g:=g) (ops:=ops) ⟨h,hpc,htt⟩ hf
    -- what follows once the value is there
    have main:(∀q,q∈f.ob→q)∧∀v w',Post P K M β g f tmps v w'→next ((⟨tmps,K.ds⟩:Act).put o.dst v) w':=by
      split at hs
      · rename_i hdst
        rw [Bool.cond_eq_ite]at hs
        split at hs
        case isFalse=>cases hs
        rename_i hpe
        have hp0:p=[]:=by simpa using hpe
        subst hp0
        cases hs
        refine⟨fun q hq=>under_pc h hpc (hob _ (List.mem_append_left _ (List.mem_map.2 ⟨q,hq,rfl⟩))),?_⟩
        rintro v w' ⟨M',β',hM,hβ,hβ',hsim,_⟩
        rw [hdst]
        exact hnext tmps w' M' β' ⟨hsim,h.size,h.fresh_step hβ',fun s q d hc=>⟨fun hpc=>(((h.cond s q d hc).1 hpc).mono hM).mono' hβ,(h.cond s q d hc).2⟩⟩
      · rename_i t hdst
        rw [Bool.cond_eq_ite]at hs
        split at hs
        case isFalse=>cases hs
        rename_i hc
        simp only [Bool.and_eq_true,Nat.blt_eq]at hc
        have hlt:t<tmps.size:=by rw [h.size];exact hc.1
        rcases p with _|⟨x,p'⟩<;>dsimp only at hs
        · cases hs
          refine⟨fun q hq=>under_pc h hpc (hob _ (List.mem_append_left _ (List.mem_map.2 ⟨q,hq,rfl⟩))),?_⟩
          rintro v w' ⟨M',β',hM,hβ,hβ',hsim,hres⟩
          rw [hdst]
          refine hnext _ w' M' β' ⟨?_,by simpa using h.size,h.fresh_step hβ',cond_set h.cond hc.2 hM hβ⟩
          cases he:f.e with
          |none=>exact hsim.drop
          |some e=>
            obtain⟨h1,h2⟩:=hres e he
            exact hsim.put hlt h1 (fun T hT=>h2 T _ hT)
        · split at hs
          · rename_i e he hhs hclr
            rw [Bool.cond_eq_ite]at hs
            split at hs
            case isFalse=>cases hs
            rename_i hc2
            simp only [Bool.and_eq_true,List.all_eq_true,Nat.beq_eq,Bool.not_eq_true']at hc2
            cases hs
            refine⟨fun q hq=>under_pc h hpc (hob _ (List.mem_append_left _ (List.mem_map.2 ⟨q,hq,rfl⟩))),?_⟩
            rintro v w' ⟨M',β',hM,hβ,hβ',hsim,hres⟩
            rw [hdst]
            obtain⟨h1,_⟩:=hres e he
            have hfree:∀y,y∈x::p'→y.1≠t:=fun y hy e=>by
              have:=hc2.1 y hy
              rw [e]at this
              simp at this
            refine hnext _ w' M' β' ⟨?_,by simpa using h.size,by have:=h.fresh_step hβ';rw [hhs]at this;exact this,fun s q d hcs=>?_⟩
            · have:after g f={env:=g.env,H:=g.H,nxt:=g.nxt}:=by unfold after;rw [hclr,hhs,hc2.2];rfl
              rw [this]at hsim
              exact hsim.drop
            · rw [look_cons]at hcs
              by_cases hts:t=s
              · rw [if_pos hts]at hcs
                cases hcs
                subst hts
                rw [PC_set hfree]
                refine⟨fun _=>?_,fun hn=>absurd hpc hn⟩
                have:(tmps.setIfInBounds t v).getD t undef=v:=by simp [hlt]
                rw [this];exact h1
              · rw [if_neg hts]at hcs
                exact cond_set h.cond hc.2 hM hβ s q d hcs
          · cases hs
    obtain⟨hobf,hpost⟩:=main
    rcases hres hobf with⟨v,w',hrun,hP⟩|⟨he,w',hrun,hP⟩|⟨fn,vs,hrun,hcalls⟩
    · unfold Oper.wp
      rw [eval_ds,hrun]
      exact hpost v w' hP
    · unfold Oper.wp
      rw [eval_ds,hrun]
      exact hpost undef w' hP
    · unfold Oper.wp
      rw [eval_ds,hrun]
      refine hcalls.mono ?_
      rintro e w' ⟨v,rfl,hP⟩
      exact hpost v w' hP
  · have hwn:Region.wanted o (yielded opsA tmps)=false:=by
      rw [Bool.eq_false_iff];exact fun hh=>hpc (hw.1 hh)
    rw [hwn]
    simp only [Bool.false_eq_true,if_false]
    split at hs
    · rename_i hdst
      rw [Bool.cond_eq_ite]at hs
      split at hs
      case isFalse=>cases hs
      rename_i hpe
      have hp0:p=[]:=by simpa using hpe
      subst hp0
      exact absurd (fun x hx=>by cases hx) hpc
    · rename_i t hdst
      rw [Bool.cond_eq_ite]at hs
      split at hs
      case isFalse=>cases hs
      rename_i hc
      simp only [Bool.and_eq_true,Nat.blt_eq]at hc
      rcases p with _|⟨x,p'⟩<;>dsimp only at hs
      · exact absurd (fun x hx=>by cases hx) hpc
      · split at hs
        · rename_i e he hhs hclr
          rw [Bool.cond_eq_ite]at hs
          split at hs
          case isFalse=>cases hs
          rename_i hc2
          simp only [Bool.and_eq_true,List.all_eq_true,Nat.beq_eq,Bool.not_eq_true']at hc2
          cases hs
          rw [hdst]
          have hfree:∀y,y∈x::p'→y.1≠t:=fun y hy e=>by
            have:=hc2.1 y hy
            rw [e]at this
            simp at this
          refine hnext _ w M β ⟨h.sim.drop,by simpa using h.size,h.fresh,fun s q d hcs=>?_⟩
          rw [look_cons]at hcs
          by_cases hts:t=s
          · rw [if_pos hts]at hcs
            cases hcs
            subst hts
            rw [PC_set hfree]
            refine⟨fun hh=>absurd hh hpc,fun _=>?_⟩
            have hlt:t<tmps.size:=by rw [h.size];exact hc.1
            simp [hlt]
          · rw [if_neg hts]at hcs
            exact cond_set h.cond hc.2 (Mem.le_refl _) (fun _ _ h=>h) s q d hcs
        · cases hs
end
end Go.Ab
namespace Go.Ab
section
variable {P:Program} {K:Ctx} {N E:Nat} {M:Mem} {β:Nat→Option Nat} {st:St} {g g':Rg} {tmps:Array Value} {w:World} {o:Oper} {f:Eff} {p:Path} {tt:TT} {ops:List Oper}
theorem opStep_pan(h:SimG P K N M β g tmps w)(htt:TTok P tt=true){opsA:Array Oper}(hops:opsA.toList=ops){x:V}{st:St}{ob:List Prop}(hs:opStep (saysC P) tt N ops g o=some (.pan x st ob))(hob:∀q,q∈ob→q){Q:Exit→Act→World→Prop}{next:Act→World→Prop}
    (hnext:∀e a' w',SimE P K N (.pan x) st e a' w'→Q e a' w'):
    if Region.wanted o (yielded opsA tmps)then o.wp P ⟨tmps,K.ds⟩ w next Q∨(o.asks P ⟨tmps,K.ds⟩ w∧LetsOut Q)else next ((⟨tmps,K.ds⟩:Act).put o.dst undef) w:=by
  unfold opStep at hs
  split at hs
  case h_1=>cases hs
  rename_i p hp
  have hw:=wanted_pc h hops hp
  split at hs
  · cases hs
  · rename_i y hs' ob' hst
    rw [Bool.cond_eq_ite]at hs
    split at hs
    case isFalse=>cases hs
    rename_i hpe
    have hp0:p=[]:=by simpa using hpe
    subst hp0
    cases hs
    have hpc:PC tmps []:=fun x hx=>by cases hx
    rw [if_pos (hw.2 hpc)]
    refine .inl ?_
    have hres:=step_ok (g:=g) (ops:=ops) ⟨h,hpc,htt⟩ hst
    rcases hres (fun q hq=>hob q (List.mem_append_left _ hq)) with⟨v,hrun,hr,rfl⟩|⟨fn,vs,hrun,hcalls⟩
    · unfold Oper.wp
      rw [eval_ds,hrun]
      exact hnext _ _ _ ⟨v,rfl,rfl,M,β,hr,h.sim.noOwn fun s e he=>⟨e,he,rfl⟩⟩
    · unfold Oper.wp
      rw [eval_ds,hrun]
      refine hcalls.mono ?_
      rintro e w' ⟨v,M',rfl,hr,hsim⟩
      exact hnext _ _ _ ⟨v,rfl,rfl,M',β,hr,hsim⟩
  · dsimp only at hs
    repeat' (first|(split at hs)|(rw [Bool.cond_eq_ite]at hs)|(cases hs;done))
theorem opStep_ob{says:CallSays}(hs:opStep says tt N ops g o=some (.go g')):∀q,q∈g.ob→q∈g'.ob:=by
 intro q hq
 unfold opStep at hs
 split at hs
 case h_1=>cases hs
 split at hs
 ·cases hs
 ·rw [Bool.cond_eq_ite]at hs;split at hs<;>cases hs
 ·dsimp only at hs
  repeat' (first|(split at hs)|(rw [Bool.cond_eq_ite]at hs)|(cases hs;exact List.mem_append_right _ hq)|(cases hs;done))
theorem opStep_ob_pan{says:CallSays}{x:V}{st:St}{ob:List Prop}(hs:opStep says tt N ops g o=some (.pan x st ob)):∀q,q∈g.ob→q∈ob:=by
 intro q hq
 unfold opStep at hs
 split at hs
 case h_1=>cases hs
 split at hs
 ·cases hs
 ·rw [Bool.cond_eq_ite]at hs;split at hs<;>cases hs
  exact List.mem_append_right _ hq
 ·dsimp only at hs
  repeat' (first|(split at hs)|(rw [Bool.cond_eq_ite]at hs)|(cases hs;done))
def finOb:Fin'→List Prop
 |.go g=>g.ob
 |.pan _ _ ob=>ob
theorem runOps_ob{says:CallSays}:∀{l:List Oper} {g:Rg} {fin:Fin'},runOps says tt N ops l g=some fin→∀q,q∈g.ob→q∈finOb fin
 |[],g,fin,h,q,hq=>by simp [runOps]at h;subst h;exact hq
 |o::l,g,fin,h,q,hq=>by
  simp only [runOps]at h
  split at h
  ·rename_i g' hs
   exact runOps_ob h q (opStep_ob hs q hq)
  ·cases fin with
   |go g'=>exact absurd h (by intro hh;rename_i hne;exact hne _ hh)
   |pan x st ob=>exact opStep_ob_pan h q hq
theorem runOps_wp(htt:TTok P tt=true){opsA:Array Oper}(hops:opsA.toList=ops){Q:Exit→Act→World→Prop}{fin:Fin'}(hfin:∀q,q∈finOb fin→q)
    (hQ:match fin with
      |.go g'=>∀tmps' w' M' β',SimG P K N M' β' g' tmps' w'→Q .normal ⟨tmps',K.ds⟩ w'
      |.pan x st _=>∀e a' w',SimE P K N (.pan x) st e a' w'→Q e a' w'):
    ∀(l:List Oper) (k:Nat) (g:Rg) (tmps:Array Value) (w:World) (M:Mem) (β:Nat→Option Nat),(∀j,l[j]? = ops[k+j]?)→SimG P K N M β g tmps w→runOps (saysC P) tt N ops l g=some fin→
      wpOps P opsA Q (List.range' k l.length) ⟨tmps,K.ds⟩ w
  |[],k,g,tmps,w,M,β,_,h,hr=>by
    simp [runOps]at hr
    subst hr
    exact hQ tmps w M β h
  |o::l,k,g,tmps,w,M,β,hl,h,hr=>by
    have hk:opsA[k]? = some o:=by
      have:=hl 0
      simp at this
      rw [←Array.getElem?_toList,hops];exact this.symm
    simp only [List.length_cons,List.range'_succ,wpOps,hk]
    simp only [runOps]at hr
    split at hr
    · rename_i g' hs
      refine opStep_go h htt hops hs (fun q hq=>hfin q (runOps_ob hr q hq)) (fun tmps' w' M' β' h'=>?_)
      exact runOps_wp htt hops hfin hQ l (k+1) g' tmps' w' M' β' (fun j=>by have:=hl (j+1);simpa [Nat.add_assoc,Nat.add_comm 1 j]using this) h' hr
    · cases fin with
      |go g'=>exact absurd hr (by intro hh;rename_i hne;exact hne _ hh)
      |pan x st ob=>exact opStep_pan h htt hops hr hfin (fun e a' w' hE=>hQ e a' w' hE)
def AWp(P:Program)(N E:Nat)(c:Code)(Q:AE→St→Prop)(st:St):Prop:=
 ∀(K:Ctx),(∀r b,K.β0 r=some b→r<E)→∀(a:Act) (w:World),SimE P K N .normal st .normal a w→c.wp P (fun e a' w'=>∃ae st',SimE P K N ae st' e a' w'∧Q ae st') a w
theorem AWp.mono{c:Code}{Q Q':AE→St→Prop}(h:AWp P N E c Q st)(hq:∀ae st',Q ae st'→Q' ae st'):AWp P N E c Q' st:=
 fun K hK a w hs=>wp_mono (h K hK a w hs) fun _ _ _ ⟨ae,st',h1,h2⟩=>⟨ae,st',h1,hq _ _ h2⟩
@[reducible] def AE.then (next : St → Prop) (Q : AE → St → Prop) : AE → St → Prop
 |.normal,st=>next st
 |e,st=>Q e st
@[reducible] def AE.inBlock (id : Nat) (Q : AE → St → Prop) : AE → St → Prop
 |.exit i,st=>if i=id then Q .normal st else Q (.exit i) st
 |e,st=>Q e st
theorem AWp.seq{x y:Code}{Q:AE→St→Prop}(h:AWp P N E x (AE.then (AWp P N E y Q) Q) st):AWp P N E (.seq x y) Q st:=by
 intro K hK a w hs
 refine wp_seq (wp_mono (h K hK a w hs) ?_)
 rintro e a' w' ⟨ae,st',h1,h2⟩
 cases ae with
 |normal=>
  obtain⟨rfl,h3⟩:=h1
  exact h2 K hK a' w' ⟨rfl,h3⟩
 |exit i=>obtain⟨rfl,h3⟩:=h1;exact⟨.exit i,st',⟨rfl,h3⟩,h2⟩
 |ret=>obtain⟨rfl,h3⟩:=h1;exact⟨.ret,st',⟨rfl,h3⟩,h2⟩
 |pan x=>obtain⟨v,rfl,h3⟩:=h1;exact⟨.pan x,st',⟨v,rfl,h3⟩,h2⟩
theorem AWp.skip{Q:AE→St→Prop}(h:Q .normal st):AWp P N E .skip Q st:=fun _ _ _ _ hs=>wp_skip ⟨.normal,st,hs,h⟩
theorem AWp.label{l:Nat}{Q:AE→St→Prop}(h:Q .normal st):AWp P N E (.label l) Q st:=fun _ _ _ _ hs=>wp_label ⟨.normal,st,hs,h⟩
theorem AWp.exit{id:Nat}{Q:AE→St→Prop}(h:Q (.exit id) st):AWp P N E (.exit id) Q st:=fun _ _ _ _ hs=>wp_exit ⟨.exit id,st,⟨rfl,hs.2⟩,h⟩
theorem AWp.ret{Q:AE→St→Prop}(h:Q .ret st):AWp P N E .ret Q st:=fun _ _ _ _ hs=>wp_ret ⟨.ret,st,⟨rfl,hs.2⟩,h⟩
theorem AWp.block{id:Nat}{c:Code}{Q:AE→St→Prop}(h:AWp P N E c (AE.inBlock id Q) st):AWp P N E (.block id c) Q st:=by
 intro K hK a w hs
 refine wp_block (wp_mono (h K hK a w hs) ?_)
 rintro e a' w' ⟨ae,st',h1,h2⟩
 cases ae with
 |normal=>obtain⟨rfl,h3⟩:=h1;exact⟨.normal,st',⟨rfl,h3⟩,h2⟩
 |exit i=>
  obtain⟨rfl,h3⟩:=h1
  by_cases hi:i=id
  ·simp only [AE.inBlock,hi,if_true]at h2
   simp only [Exit.inBlock,hi,if_true]
   exact⟨.normal,st',⟨rfl,h3⟩,h2⟩
  ·simp only [AE.inBlock,hi,if_false]at h2
   simp only [Exit.inBlock,hi,if_false]
   exact⟨.exit i,st',⟨rfl,h3⟩,h2⟩
 |ret=>obtain⟨rfl,h3⟩:=h1;exact⟨.ret,st',⟨rfl,h3⟩,h2⟩
 |pan x=>obtain⟨v,rfl,h3⟩:=h1;exact⟨.pan x,st',⟨v,rfl,h3⟩,h2⟩
theorem AWp.cond{c:Nat}{x y:Code}{Q:AE→St→Prop}(b:Bool)(own:Option TypeId)(hc:look st.env c=some ⟨.v (.bool b),own⟩)(ht:b=true→AWp P N E x Q st)(hf:b=false→AWp P N E y Q st):AWp P N E (.cond (.tmp c) x y) Q st:=by
 intro K hK a w hs
 obtain⟨_,_,_,M,β,hsim⟩:=id hs
 have hv:a.eval (.tmp c) = .bool b:=inv_bool (hsim.ents (.slot c) _ hc)
 exact wp_cond_split hv (fun hb=>ht hb K hK a w hs) (fun hb=>hf hb K hK a w hs)
theorem AWp.loop{c:Code}{Q:AE→St→Prop}{σ:Type}(I:Nat→σ→St→Prop)(hround:∀n s st,I n s st→∃m,n=m+1∧AWp P N E c (AE.then (fun st'=>∃s',I m s' st') Q) st)
    {n:Nat} {s:σ} {st:St} (h0:I n s st):AWp P N E (.loop c) Q st:=by
  intro K hK a w hs b k cs
  have key:∀n s st a w,I n s st→SimE P K N .normal st .normal a w→
      ∃e a' w',(∃ae st',SimE P K N ae st' e a' w'∧Q ae st')∧Arrives P (lone (b.at a (.code c :: .inLoop c::k)) cs w) b k cs e a' w':=by
    intro n
    induction n with
    |zero=>
      intro s st a w hI _
      obtain⟨m,hm,_⟩:=hround 0 s st hI
      omega
    |succ n ih=>
      intro s st a w hI hs
      obtain⟨m,hm,hbody⟩:=hround (n+1) s st hI
      have:m=n:=by omega
      subst this
      obtain⟨e,a₁,w₁,⟨ae,st',h1,h2⟩,harr⟩:=hbody K hK a w hs b (.inLoop c::k) cs
      cases ae with
      |normal=>
        obtain⟨rfl,h3⟩:=h1
        obtain⟨s',hI'⟩:=h2
        obtain⟨e₂,a₂,w₂,hq₂,harr₂⟩:=ih s' st' a₁ w₁ hI' ⟨rfl,h3⟩
        exact⟨e₂,a₂,w₂,hq₂,.of_steps (Steps.trans harr (.one step_inLoop)) harr₂⟩
      |exit i=>obtain⟨rfl,h3⟩:=h1;exact⟨_,a₁,w₁,⟨.exit i,st',⟨rfl,h3⟩,h2⟩,.pass (x:=.inLoop c) rfl (fun _ _=>.inl (by simp)) harr⟩
      |ret=>obtain⟨rfl,h3⟩:=h1;exact⟨_,a₁,w₁,⟨.ret,st',⟨rfl,h3⟩,h2⟩,.pass (x:=.inLoop c) rfl (fun _ _=>.inl (by simp)) harr⟩
      |pan x=>obtain⟨v,rfl,h3⟩:=h1;exact⟨_,a₁,w₁,⟨.pan x,st',⟨v,rfl,h3⟩,h2⟩,.pass (x:=.inLoop c) rfl (fun _ _=>.inl (by simp)) harr⟩
  obtain⟨e,a',w',hq,harr⟩:=key n s st a w h0 hs
  exact⟨e,a',w',hq,.of_steps (.one step_loop) harr⟩
end
end Go.Ab
namespace Go.Ab
def resD(tt:TT)(st:St):ResultVar→Option D
 |.tmp t=>(look st.env t).map (·.d)
 |.cell a t=>match look st.env a,look tt t with
  |some ⟨.ptr r off,_⟩,some ti=>match look st.H r with
   |some cs=>bif ti.k.isAgg then(bif Nat.ble (off+ti.size) cs.length then some (mkAgg (((cs.drop off).take ti.size).map (·.d)))else none) else(cs[off]?).map (·.d)
   |none=>none
  |_,_=>none
def resOf(tt:TT)(st:St):List ResultVar→Option (D×Option TypeId)
 |[.tmp t]=>(look st.env t).map fun e=>(e.d,e.own)
 |[x]=>(resD tt st x).map (·,none)
 |xs=>(mapM' (resD tt st) xs).map fun ds=>(.tup ds,none)
def leave(tt:TT)(E:Nat)(rs:List ResultVar)(st:St):Option (Out×List (List Ent)):=
 match resOf tt st rs,boxes st.H (List.range E) with
 |some (d,own),some H'=>bif below E d&&H'.all (belowEs E)then some (.ret d own,H')else none
 |_,_=>none
def leaveP(E:Nat)(H:List (Nat×List Ent)):Option (List (List Ent)):=
 match boxes H (List.range E) with
 |some H'=>bif H'.all (belowEs E)then some H' else none
 |none=>none
def leaveM(tt:TT)(E c:Nat):List ResultVar→St→Option (Out×List (List Ent))
 |[.cell a t],st=>match look st.env a,look tt t with
  |some ⟨.ptr r off,_⟩,some ti=>match look st.H r,boxes st.H (List.range E) with
   |some cs,some H'=>
    bif (((((ti.k.isAgg&&Nat.ble (off+ti.size) cs.length)&&eqMarks (marks c) (marksOf 0 ((cs.drop off).take ti.size)))&&Nat.ble E r)&&below E (mkAgg (((cs.drop off).take ti.size).map (·.d))))&&H'.all (belowEs E)) then
     some (.ret (mkAgg (((cs.drop off).take ti.size).map (·.d))) (some c),H')else none
   |_,_=>none
  |_,_=>none
 |_,_=>none
def eraB(H:List (List Ent)):List (List Ent):=H.map fun b=>b.map fun e=>{d:=e.d}
def postF(tt:TT)(E:Nat)(rs:List ResultVar)(R:Out→List (List Ent)→Prop):AE→St→Prop
 |.normal,st=>∃o H',(leave tt E rs st=some (o,H')∨∃c,leaveM tt E c rs st=some (o,H'))∧R o H'
 |.ret,st=>∃o H',(leave tt E rs st=some (o,H')∨∃c,leaveM tt E c rs st=some (o,H'))∧R o H'
 |.pan x,st=>∃H',leaveP E st.H=some H'∧R (.pan x) (eraB H')
 |.exit _,_=>False
section
variable {P:Program} {K:Ctx} {N E:Nat} {M:Mem} {β:Nat→Option Nat} {st:St} {tmps:Array Value} {w:World} {tt:TT}
def resRead(tmps:Array Value):ResultVar→Sem Value
 |.tmp t=>pure (tmps.getD t undef)
 |.cell a t=>do loadVar t (←asAddr (tmps.getD a undef))
theorem resD_run(h:SimAt P K M β st tmps w)(htt:TTok P tt=true){x:ResultVar}{d:D}(hx:resD tt st x=some d):
    ∃v,(resRead tmps x).run P w = .ok v w∧RepD M β v d:=by
  cases x with
  |tmp t=>
    simp only [resD,Option.map_eq_some_iff]at hx
    obtain⟨e,he,rfl⟩:=hx
    exact⟨_,rfl,h.ents (.slot t) e he⟩
  |cell a t=>
    simp only [resD]at hx
    split at hx
    case h_2=>cases hx
    rename_i r off own ti ha hl
    obtain⟨row⟩:=tt_row htt hl
    split at hx
    case h_2=>cases hx
    rename_i cs hr
    obtain⟨b,hb,hv⟩:=inv_ptr (h.ents (.slot a) _ ha)
    simp only [valAt]at hv
    obtain⟨b',vs,T,hb',hh,hlen,_,_,hone,hli⟩:=h.box r cs hr
    rw [hb]at hb';cases hb'
    have hrunv:∀{u:Value},(Instr.loadAt t (.pointer (some ⟨b,off,none⟩))).run P w = .ok u w→(do loadVar t (←asAddr (tmps.getD a undef)):Sem Value).run P w = .ok u w:=by
      intro u hu
      rw [hv]
      simpa [Instr.loadAt,Instr.sureAddr,asAddr]using hu
    rw [Bool.cond_eq_ite]at hx
    split at hx
    · rename_i hag
      rw [Bool.cond_eq_ite]at hx
      split at hx
      case isFalse=>cases hx
      rename_i hle
      simp only [Nat.ble_eq]at hle
      cases hx
      refine⟨_,hrunv (run_load_box (P:=P) row (off:=off) hh (by omega) hag),?_⟩
      refine mkAgg_rep (by simp;omega) (fun v hv=>hone v (List.mem_of_mem_drop (List.mem_of_mem_take hv))) (fun i v c hv hc=>?_)
      rw [List.getElem?_map,Option.map_eq_some_iff]at hc
      obtain⟨e,he,rfl⟩:=hc
      rw [List.getElem?_take]at hv he
      split at hv
      · rename_i hi
        rw [if_pos hi,List.getElem?_drop]at he
        rw [List.getElem?_drop]at hv
        have:=h.ents (.cell r (off+i)) e (by simp [St.at,hr,he])
        simpa [valAt,hb,cell_of_heap hh,hv]using this
      · cases hv
    · rename_i hag
      simp only [Option.map_eq_some_iff]at hx
      obtain⟨e,he,rfl⟩:=hx
      obtain⟨b2,vs2,T2,v,hb2,hh2,hvi,hval⟩:=cell_heap h hr he
      rw [hb]at hb2;cases hb2
      refine⟨v,hrunv (run_load_cell (P:=P) row (by rw [cell_of_heap hh2,hvi]) (by simpa using hag)),?_⟩
      have:=h.ents (.cell r off) e (by simp [St.at,hr,he])
      rwa [hval]at this
theorem resDs_run(h:SimAt P K M β st tmps w)(htt:TTok P tt=true):∀{xs:List ResultVar} {ds:List D},mapM' (resD tt st) xs=some ds→
    ∃vs:List Value,(xs.mapM (resRead tmps)).run P w = .ok vs w∧vs.length=ds.length∧
      ∀(i:Nat) v d,vs[i]? = some v→ds[i]? = some d→RepD M β v d
  |[],ds,hx=>by simp [mapM']at hx;subst hx;exact⟨[],rfl,rfl,by simp⟩
  |x::xs,ds,hx=>by
    simp only [mapM']at hx
    split at hx
    case h_2=>cases hx
    rename_i d ds' hd hds
    cases hx
    obtain⟨v,hv,hrep⟩:=resD_run h htt hd
    obtain⟨vs,hvs,hl,hr⟩:=resDs_run h htt hds
    refine⟨v::vs,?_,by simp [hl],fun i u c hu hc=>?_⟩
    · simp only [List.mapM_cons,Sem.run_bind,hv,Result.andThen_ok,hvs,Sem.run_pure]
    · cases i with
      |zero=>simp at hu hc;subst hu;subst hc;exact hrep
      |succ i=>simp at hu hc;exact hr i u c hu hc
theorem boxes_range{H:List (Nat×List Ent)}{E:Nat}{H':List (List Ent)}(h:boxes H (List.range E)=some H'):H'.length=E∧∀r,r<E→look H r=H'[r]? ∧ (H'[r]?).isSome=true:=by
 obtain⟨h1,h2⟩:=boxes_get h
 exact⟨by simpa using h1,fun r hr=>h2 r r (by simp [hr])⟩
theorem SimAt.leave(h:SimAt P K M β st tmps w){H':List (List Ent)}(hbx:boxes st.H (List.range E)=some H')(hbe:H'.all (belowEs E)=true)(hK:∀r b,K.β0 r=some b→r<E){v:Value}{d:D}{own:Option TypeId}
    (hv:RepD M β v d) (hd:below E d=true) (hown:∀T,own=some T→∃l,NewOwn P K M β {env:=clrEnv l st.env,H:=st.H,nxt:=st.nxt} tmps w (.slot 0) v T∧True):
    ∃ β',SimAt P K M β' {env:=[(0,{d,own})],H:=enumFrom' 0 H',nxt:=E} #[v] w:=by
  obtain⟨hl,hlk⟩:=boxes_range hbx
  have h1:=h.noEnv #[undef]
  have hlook:∀r cs,look (enumFrom' 0 H') r=some cs→r<E∧look st.H r=some cs:=by
    intro r cs hr
    rw [look_enum0]at hr
    have hlt:r<E:=by have:=(List.getElem?_eq_some_iff.1 hr).1;omega
    exact⟨hlt,by rw [(hlk r hlt).1];exact hr⟩
  have hle:E≤st.nxt∨E=0:=by
    by_cases h0:E=0
    · exact .inr h0
    · obtain⟨h2,h3⟩:=hlk (E-1) (by omega)
      obtain⟨cs,hcs⟩:=Option.isSome_iff_exists.1 h3
      rw [hcs]at h2
      obtain⟨b,_,_,hb,_⟩:=h.box _ cs h2
      have:=h.lt _ b hb
      exact .inl (by omega)
  have h2:SimAt P K M β {env:=[],H:=enumFrom' 0 H',nxt:=st.nxt} #[undef] w:=by
    refine h1.sub rfl (fun l e hl=>?_) (fun r cs hr=>⟨cs,(hlook r cs hr).2,rfl⟩)
    cases l with
    |slot s=>simp [St.at,look]at hl
    |cell r i=>
      simp only [St.at]at hl ⊢
      cases hr:look (enumFrom' 0 H') r with
      |none=>simp [hr]at hl
      |some cs=>simp [hr]at hl;exact⟨e,by simp [(hlook r cs hr).2,hl],rfl,fun _ h=>h⟩
  -- the slot
  have h3:SimAt P K M β {env:=[(0,{d,own})],H:=enumFrom' 0 H',nxt:=st.nxt} #[v] w:=by
    have hput:=h2.put (t:=0) (v:=v) (e:={d,own}) (by simp) hv (fun T hT=>?_)
    · simpa using hput
    · obtain⟨l,hn,_⟩:=hown T hT
      refine⟨hn.own,fun l1 e T' b hl1 hT' _ hb hb'=>?_,fun b r cs hb hr=>hn.unbox b r cs hb (hlook r cs hr).2⟩
      cases l1 with
      |slot s=>simp [St.at,look]at hl1
      |cell r i=>
        simp only [St.at]at hl1
        cases hr:look (enumFrom' 0 H') r with
        |none=>simp [hr]at hl1
        |some cs=>
          simp [hr]at hl1
          exact hn.apart (.cell r i) e T' b (by simp [St.at,(hlook r cs hr).2,hl1]) hT' (by simp) hb hb'
  refine⟨fun r=>if r<E then β r else none,?_⟩
  have hval:∀l e,({env:=[(0,{d,own})],H:=enumFrom' 0 H',nxt:=st.nxt}:St).at l=some e→valAt #[v] w (fun r=>if r<E then β r else none) l=valAt #[v] w β l:=by
    intro l e hl
    cases l with
    |slot s=>rfl
    |cell r i=>
      simp only [St.at]at hl
      cases hr:look (enumFrom' 0 H') r with
      |none=>simp [hr]at hl
      |some cs=>simp [valAt,(hlook r cs hr).1]
  have hbl:∀l e,({env:=[(0,{d,own})],H:=enumFrom' 0 H',nxt:=st.nxt}:St).at l=some e→below E e.d=true:=by
    intro l e hl
    cases l with
    |slot s=>
      simp only [St.at,look_cons]at hl
      split at hl
      · cases hl;exact hd
      · simp [look]at hl
    |cell r i=>
      simp only [St.at]at hl
      cases hr:look (enumFrom' 0 H') r with
      |none=>simp [hr]at hl
      |some cs=>
        simp [hr]at hl
        rw [look_enum0]at hr
        rw [List.all_eq_true]at hbe
        exact belowEs_get (hbe cs (List.mem_of_getElem? hr)) hl
  constructor
  · intro l e hl
    rw [hval l e hl]
    exact(h3.ents l e hl).keep (fun r hr=>by simp [hr]) (hbl l e hl)
  · intro l e T hl hT;rw [hval l e hl];exact h3.own l e T hl hT
  · intro l l' e e' T T' b hl hT hl' hT' hb hb'
    rw [hval l e hl]at hb;rw [hval l' e' hl']at hb'
    exact h3.uniq l l' e e' T T' b hl hT hl' hT' hb hb'
  · intro l e T b r cs hl hT hb hr
    rw [hval l e hl]at hb
    have:=h3.unbox l e T b r cs hl hT hb hr
    simpa [(hlook r cs hr).1]using this
  · intro r cs hr
    obtain⟨b,vs,T,h4,h5⟩:=h3.box r cs hr
    exact⟨b,vs,T,by simpa [(hlook r cs hr).1]using h4,h5⟩
  · intro r r' b cs cs' hr hr' hb hb'
    exact h3.inj r r' b cs cs' hr hr' (by simpa [(hlook r cs hr).1]using hb) (by simpa [(hlook r' cs' hr').1]using hb')
  · intro r b hb
    by_cases hlt:r<E
    · exact hlt
    · simp [hlt]at hb
  · exact h3.mem
  · exact h3.m0
  · exact h3.frame
  · intro r b hb;simp [hK r b hb,h3.beta0 r b hb]
  · exact h3.good
  · exact h3.oo
theorem SimAt.era{env:List (Nat×Ent)}{H:List (List Ent)}{n:Nat}(h:SimAt P K M β {env:=env,H:=enumFrom' 0 H,nxt:=n} tmps w):SimAt P K M β {env:=env,H:=enumFrom' 0 (eraB H),nxt:=n} tmps w:=by
 refine h.sub rfl (fun l e hl=>?_) (fun r cs hr=>?_)
 ·cases l with
  |slot s=>exact⟨e,hl,rfl,fun _ h=>h⟩
  |cell r i=>
   simp only [St.at,look_enum0,eraB,List.getElem?_map]at hl ⊢
   cases hb:H[r]? with
   |none=>simp [hb]at hl
   |some b=>
    simp only [hb,Option.map_some,Option.bind_some,List.getElem?_map,Option.map_eq_some_iff]at hl
    obtain⟨e0,h0,rfl⟩:=hl
    exact⟨e0,by simpa using h0,rfl,fun T hT=>by cases hT⟩
 ·simp only [look_enum0,eraB,List.getElem?_map,Option.map_eq_some_iff]at hr ⊢
  obtain⟨b,hb,rfl⟩:=hr
  exact⟨b,hb,by simp⟩
theorem fin_leave{fn:Func}{E:Nat}{tmps':Array Value}{w':World}{st':St}{M':Mem}{β':Nat→Option Nat}{o:Out}{H':List (List Ent)}(htt:TTok P tt=true)(hK:∀r b,K.β0 r=some b→r<E)(hs:SimAt P K M' β' st' tmps' w')
    (hl:Ab.leave tt E fn.results.toList st'=some (o,H')):
    ∃v,(results fn tmps').run P w' = .ok v w'∧∃v' M' β',Ending.returned v=endOf o v'∧SimAt P K M' β' {env:=resEnv o,H:=enumFrom' 0 H',nxt:=E} #[v'] w':=by
  unfold Ab.leave at hl
  split at hl
  case h_2=>cases hl
  rename_i d own H1 hres hbx
  rw [Bool.cond_eq_ite]at hl
  split at hl
  case isFalse=>cases hl
  rename_i hc
  simp only [Bool.and_eq_true]at hc
  cases hl
  -- the value of the results
  have hval:∃v,(results fn tmps').run P w' = .ok v w'∧RepD M' β' v d∧∀T,own=some T→∃l,NewOwn P K M' β' {env:=clrEnv l st'.env,H:=st'.H,nxt:=st'.nxt} tmps' w' (.slot 0) v T∧True:=by
    have hm:∀{vs:List Value},(fn.results.toList.mapM (resRead tmps')).run P w' = .ok vs w'→
        (results fn tmps').run P w' = .ok (if h:vs.length=1 then vs[0]else .tuple ⟨vs⟩) w':=by
      intro vs hvs
      have hres:results fn tmps'=(do let vs ←fn.results.mapM (resRead tmps');pure (if h:vs.size=1 then vs[0]else .tuple vs)):=by
        unfold results
        congr 2
      rw [hres,show fn.results=⟨fn.results.toList⟩from rfl,List.mapM_toArray]
      simp only [Sem.run_bind,Sem.run_map,hvs,Result.andThen_ok,Sem.run_pure]
      simp
    unfold resOf at hres
    split at hres
    · rename_i t ht
      simp only [Option.map_eq_some_iff,Prod.mk.injEq]at hres
      obtain⟨e,he,rfl,rfl⟩:=hres
      have hr1:=hs.ents (.slot t) e he
      refine⟨tmps'.getD t undef,?_,hr1,fun T hT=>⟨[t],hs.hand he hT (.slot 0),trivial⟩⟩
      have:=hm (vs:=[tmps'.getD t undef]) (by rw [ht];rfl)
      simpa using this
    · rename_i x hne hx
      simp only [Option.map_eq_some_iff,Prod.mk.injEq]at hres
      obtain⟨d',hd',rfl,rfl⟩:=hres
      obtain⟨v,hv,hrep⟩:=resD_run hs htt hd'
      refine⟨v,?_,hrep,by simp⟩
      have:=hm (vs:=[v]) (by rw [hx];simp only [List.mapM_cons,List.mapM_nil,Sem.run_bind,hv,Result.andThen_ok,Sem.run_pure])
      simpa using this
    · simp only [Option.map_eq_some_iff,Prod.mk.injEq]at hres
      obtain⟨ds,hds,rfl,rfl⟩:=hres
      obtain⟨vs',hvs,hl,hrep⟩:=resDs_run hs htt hds
      refine⟨.tuple ⟨vs'⟩,?_,.tup vs' ds hl hrep,by simp⟩
      have hne:vs'.length≠1:=by
        rename_i h1 h2
        rw [hl,(mapM'_get hds).1]
        intro hh
        obtain⟨x,hx⟩:=List.length_eq_one_iff.1 hh
        exact h2 x hx
      have:=hm hvs
      simpa [hne]using this
  obtain⟨v,hrun,hrep,hown⟩:=hval
  obtain⟨β'',hfin⟩:=hs.leave hbx hc.2 hK hrep hc.1 hown
  exact⟨v,hrun,v,M',β'',rfl,hfin⟩
theorem boxes_skip{H:List (Nat×List Ent)}{r:Nat}{cs:List Ent}:∀{l:List Nat},(∀x,x∈l→x≠r)→boxes ((r,cs)::H) l=boxes H l
 |[],_=>rfl
 |x::l,h=>by
  have ih:=boxes_skip (H:=H) (cs:=cs) (l:=l) fun y hy=>h y (by simp [hy])
  have hx:=h x (by simp)
  simp only [boxes,ih,look_cons,if_neg (Ne.symm hx)]
theorem fin_leaveM{fn:Func}{E:Nat}{tmps':Array Value}{w':World}{st':St}{M':Mem}{β':Nat→Option Nat}{o:Out}{H':List (List Ent)}(htt:TTok P tt=true)(hK:∀r b,K.β0 r=some b→r<E)(hs:SimAt P K M' β' st' tmps' w')
    {c:Nat} (hl:Ab.leaveM tt E c fn.results.toList st'=some (o,H')):
    ∃v,(results fn tmps').run P w' = .ok v w'∧∃v' M' β',Ending.returned v=endOf o v'∧SimAt P K M' β' {env:=resEnv o,H:=enumFrom' 0 H',nxt:=E} #[v'] w':=by
  unfold Ab.leaveM at hl
  split at hl
  case h_2=>cases hl
  rename_i a t ht
  split at hl
  case h_2=>cases hl
  rename_i r off ow ti ha htl
  split at hl
  case h_2=>cases hl
  rename_i cs H1 hr hbx
  rw [Bool.cond_eq_ite]at hl
  split at hl
  case isFalse=>cases hl
  rename_i hc
  simp only [Bool.and_eq_true,Nat.ble_eq]at hc
  obtain⟨⟨⟨⟨⟨hag,hle⟩,hm⟩,hEr⟩,hbel⟩,hall⟩:=hc
  cases hl
  obtain⟨row⟩:=tt_row htt htl
  obtain⟨b,hb,hv⟩:=inv_ptr (hs.ents (.slot a) _ ha)
  simp only [valAt]at hv
  obtain⟨b',vs,T,hb',hh,hlen,_,_,hone,hli⟩:=hs.box r cs hr
  rw [hb]at hb';cases hb'
  have hmk:=eqMarks_eq hm
  have hpl:((cs.drop off).take ti.size).length=ti.size:=by simp;omega
  have hset:=setAt_spec cs off (((cs.drop off).take ti.size).map fun e=>({d:=e.d}:Ent)) (by rw [List.length_map,hpl];exact hle)
  have hpart:∀j,j<ti.size→((cs.drop off).take ti.size)[j]? = cs[off+j]? := fun j hj=>by rw [List.getElem?_take,if_pos hj,List.getElem?_drop]
  obtain⟨hsub,hnew⟩:=hs.handAgg (T:=c) (size:=ti.size) (off:=off) hr hb hh hone hlen (cs':=setAt cs off (((cs.drop off).take ti.size).map fun e=>{d:=e.d})) (fun x hx=>by
      rw [hmk]at hx
      obtain⟨_,e,h2,h3⟩:=marksOf_mem _ 0 x hx
      rw [Nat.sub_zero]at h2
      have hlt:x.1<ti.size:=by rw [←hpl];exact(List.getElem?_eq_some_iff.1 h2).1
      exact⟨hlt,e,by rw [←hpart x.1 hlt];exact h2,h3⟩) hset.1 (fun j e' hj=>by
      rw [hset.2]at hj
      rw [List.length_map,hpl]at hj
      by_cases hi:off≤j∧j<off+ti.size
      · rw [if_pos hi,List.getElem?_map,Option.map_eq_some_iff]at hj
        obtain⟨e0,h1,rfl⟩:=hj
        rw [hpart _ (by omega),show off+(j-off)=j by omega]at h1
        exact⟨e0,h1,rfl,fun U hU=>by cases hU⟩
      · rw [if_neg hi]at hj
        refine⟨e',hj,rfl,fun U hU=>⟨hU,fun x hx hjx=>?_⟩⟩
        rw [hmk]at hx
        obtain⟨_,e,h2,_⟩:=marksOf_mem _ 0 x hx
        rw [Nat.sub_zero]at h2
        have hlt:x.1<ti.size:=by rw [←hpl];exact(List.getElem?_eq_some_iff.1 h2).1
        omega) (.slot 0)
  have hrun:(resRead tmps' (.cell a t)).run P w' = .ok (.agg ⟨(vs.drop off).take ti.size⟩) w':=by
    have hu:=run_load_box (P:=P) (w:=w') row (off:=off) hh (by omega) hag
    show(do loadVar t (←asAddr (tmps'.getD a undef)):Sem Value).run P w'=_
    rw [hv]
    simpa [Instr.loadAt,Instr.sureAddr,asAddr]using hu
  have hrep:RepD M' β' (.agg ⟨(vs.drop off).take ti.size⟩) (mkAgg (((cs.drop off).take ti.size).map (·.d))):=by
    refine mkAgg_rep (by simp;omega) (fun v hv=>hone v (List.mem_of_mem_drop (List.mem_of_mem_take hv))) (fun i v c hv hc=>?_)
    rw [List.getElem?_map,Option.map_eq_some_iff]at hc
    obtain⟨e,he,rfl⟩:=hc
    rw [List.getElem?_take]at hv he
    split at hv
    · rename_i hi
      rw [if_pos hi,List.getElem?_drop]at he
      rw [List.getElem?_drop]at hv
      have:=hs.ents (.cell r (off+i)) e (by simp [St.at,hr,he])
      simpa [valAt,hb,cell_of_heap hh,hv]using this
    · cases hv
  have hres:(results fn tmps').run P w' = .ok (.agg ⟨(vs.drop off).take ti.size⟩) w':=by
    have hres:results fn tmps'=(do let vs ←fn.results.mapM (resRead tmps');pure (if h:vs.size=1 then vs[0]else .tuple vs)):=by
      unfold results
      congr 2
    rw [hres,show fn.results=⟨fn.results.toList⟩from rfl,List.mapM_toArray,ht]
    simp only [List.mapM_cons,List.mapM_nil,Sem.run_bind,Sem.run_map,hrun,Result.andThen_ok,Sem.run_pure]
    simp
  obtain⟨β1,hfin⟩:=hsub.leave (H':=H') (own:=some c) (by
      rw [boxes_skip (fun x hx=>by have:=List.mem_range.1 hx;omega)];exact hbx) hall hK hrep hbel (fun T hT=>by cases hT;exact⟨[],hnew,trivial⟩)
  exact⟨_,hres,_,M',β1,rfl,hfin⟩
theorem SimAt.setDs{P:Program}{K:Ctx}{M:Mem}{β:Nat→Option Nat}{st:St}{tmps:Array Value}{w:World}(h:SimAt P K M β st tmps w)(ds:List Deferred):SimAt P {K with ds:=ds} M β st tmps w:=
 ⟨h.ents,h.own,h.uniq,h.unbox,h.box,h.inj,h.lt,h.mem,h.m0,h.frame,h.beta0,h.good,h.oo⟩
theorem start_sim{args:List D}{ow:List (Nat×TypeId)}{H:List (List Ent)}{vs:List Value}{n:Nat}(hlen:vs.length=args.length)(hsim:SimAt P K M β {env:=envOf args ow,H:=enumFrom' 0 H,nxt:=H.length} ⟨vs⟩ w):
    SimAt P K M β {env:=envOf args ow,H:=enumFrom' 0 H,nxt:=H.length} ((⟨vs⟩:Array Value)++Array.replicate n undef) w:=by
  have hv:∀l e,({env:=envOf args ow,H:=enumFrom' 0 H,nxt:=H.length}:St).at l=some e→valAt ((⟨vs⟩:Array Value)++Array.replicate (n) undef) w β l=valAt ⟨vs⟩ w β l:=by
    intro l e hl
    cases l with
    |slot s=>
      simp only [St.at,envOf,look_enum0,withOwn_get,Option.map_eq_some_iff]at hl
      obtain⟨d,hd,_⟩:=hl
      have hs:s<vs.length:=by have:=(List.getElem?_eq_some_iff.1 hd).1;omega
      simp only [valAt,Array.getD_eq_getD_getElem?]
      rw [Array.getElem?_append_left (by simpa using hs)]
    |cell r i=>rfl
  constructor
  · intro l e hl;rw [hv l e hl];exact hsim.ents l e hl
  · intro l e T hl hT;rw [hv l e hl];exact hsim.own l e T hl hT
  · intro l l' e e' T T' b hl hT hl' hT' hb hb'
    rw [hv l e hl]at hb;rw [hv l' e' hl']at hb';exact hsim.uniq l l' e e' T T' b hl hT hl' hT' hb hb'
  · intro l e T b r cs hl hT hb hr;rw [hv l e hl]at hb;exact hsim.unbox l e T b r cs hl hT hb hr
  · exact hsim.box
  · exact hsim.inj
  · exact hsim.lt
  · exact hsim.mem
  · exact hsim.m0
  · exact hsim.frame
  · exact hsim.beta0
  · exact hsim.good
  · exact hsim.oo
theorem ACalls.of_wp {f : FuncId} {fn : Func} {c : Code} {args : List D} {ow : List (Nat × TypeId)} {H : List (List Ent)} {R : Out → List (List Ent) → Prop} (htt : TTok P tt = true) (hf : P.funcs[f]? = some fn) (hb : fn.body = some c) (hname : decide (fn.name = "runtime.NumGoroutine") = false)
    (hargs:Nat.ble args.length fn.ntmps=true) (h:AWp P fn.ntmps H.length c (postF tt H.length fn.results.toList R) {env:=envOf args ow,H:=enumFrom' 0 H,nxt:=H.length}):ACalls P f args ow H R:=by
  refine⟨⟨fn,hf,by rw [hb];rfl,by simpa using hname⟩,?_⟩
  intro K0 w vs M β hlen hsim0 hβ0
  suffices key:∀K:Ctx,K.ds=[]→SimAt P K M β {env:=envOf args ow,H:=enumFrom' 0 H,nxt:=H.length} ⟨vs⟩ w→(∀r b,β r=some b→K.β0 r=some b)→
      Calls P f ⟨vs⟩ w fun e w'=>∃o H' v M' β',R o H'∧e=endOf o v∧SimAt P K M' β' {env:=resEnv o,H:=enumFrom' 0 H',nxt:=H.length} #[v] w' from
    (key {K0 with ds:=[]} rfl (hsim0.setDs []) hβ0).mono fun e w' ⟨o,H',v,M',β',h1,h2,h3⟩=>⟨o,H',v,M',β',h1,h2,h3.setDs K0.ds⟩
  intro K hds hsim hβ
  have hK:∀r b,K.β0 r=some b→r<H.length:=fun r b hb=>hsim.lt r b (hsim.beta0 r b hb)
  simp only [Nat.ble_eq]at hargs
  have hstart:=start_sim (n:=fn.ntmps-(⟨vs⟩:Array Value).size) hlen hsim
  have hwp:=h K hK {tmps:=(⟨vs⟩:Array Value)++Array.replicate (fn.ntmps-(⟨vs⟩:Array Value).size) undef,defers:=[]} w ⟨rfl,hds.symm,by simp;omega,M,β,hstart⟩
  refine calls_of_wp hf hb (wp_mono hwp ?_)
  have fin:∀(a':Act) (w':World) (st':St) M' β',SimAt P K M' β' st' a'.tmps w'→(∃o H',(Ab.leave tt H.length fn.results.toList st'=some (o,H')∨∃c,Ab.leaveM tt H.length c fn.results.toList st'=some (o,H'))∧R o H')→
      ∃v,(results fn a'.tmps).run P w' = .ok v w'∧∃o H' v' M' β',R o H'∧Ending.returned v=endOf o v'∧SimAt P K M' β' {env:=resEnv o,H:=enumFrom' 0 H',nxt:=H.length} #[v'] w':=by
    intro a' w' st' M' β' hs ⟨o,H',hl,hR⟩
    rcases hl with hl|⟨_,hl⟩
    · obtain⟨v,h1,v',M1,β1,h2,h3⟩:=fin_leave htt hK hs hl
      exact⟨v,h1,o,H',v',M1,β1,hR,h2,h3⟩
    · obtain⟨v,h1,v',M1,β1,h2,h3⟩:=fin_leaveM htt hK hs hl
      exact⟨v,h1,o,H',v',M1,β1,hR,h2,h3⟩
  rintro e a' w' ⟨ae,st',h1,h2⟩
  cases ae with
  |normal=>
    obtain⟨rfl,hd,_,M',β',hs⟩:=h1
    exact⟨hd.trans hds,fin a' w' st' M' β' hs h2⟩
  |ret=>
    obtain⟨rfl,hd,_,M',β',hs⟩:=h1
    exact⟨hd.trans hds,fin a' w' st' M' β' hs h2⟩
  |exit i=>exact h2.elim
  |pan x=>
    obtain⟨v,rfl,hd,M',β',hrep,hs⟩:=h1
    obtain⟨H1,hl,hR⟩:=h2
    unfold leaveP at hl
    split at hl
    case h_2=>cases hl
    rename_i H2 hbx
    rw [Bool.cond_eq_ite]at hl
    split at hl
    case isFalse=>cases hl
    rename_i hc
    cases hl
    obtain⟨β'',hfin⟩:=hs.leave (own:=none) hbx hc hK (.v v x hrep) rfl (by simp)
    exact⟨hd.trans hds,.pan x,eraB H1,v,M',β'',hR,rfl,hfin.era⟩
end
end Go.Ab
namespace Go.Ab
def AllP:List Prop→Prop
 |[]=>True
 |p::l=>p∧AllP l
theorem AllP.mem:∀{l:List Prop},AllP l→∀q,q∈l→q
 |[],_,q,h=>by cases h
 |p::l,hp,q,h=>by
  rcases List.mem_cons.1 h with rfl|h
  ·exact hp.1
  ·exact AllP.mem hp.2 q h
section
variable {P:Program} {N E:Nat} {st:St} {tt:TT}
theorem AWp.cut{x y:Code}{Q:AE→St→Prop}(J:St→Prop)(h1:AWp P N E x (AE.then J Q) st)(h2:∀st',J st'→AWp P N E y Q st'):AWp P N E (.seq x y) Q st:=
 AWp.seq (h1.mono fun ae st' h=>by cases ae<;>first|exact h2 st' h|exact h)
theorem AE.block_hit{Q:AE→St→Prop}{i:Nat}(h:Q .normal st):AE.inBlock i Q (.exit i) st:=by simpa [AE.inBlock]using h
theorem says_of_wp {f : FuncId} {fn : Func} {c : Code} {args : List D} {ow : List (Nat × TypeId)} {H H2 : List (List Ent)} {out : Out} (htt : TTok P tt = true) (hf : P.funcs[f]? = some fn) (hb : fn.body = some c) (hname : decide (fn.name = "runtime.NumGoroutine") = false)
    (hargs:Nat.ble args.length fn.ntmps=true) (h:AWp P fn.ntmps H.length c (postF tt H.length fn.results.toList fun o H'=>o=out∧H'=H2) {env:=envOf args ow,H:=enumFrom' 0 H,nxt:=H.length}):saysOf P f args ow H out H2:=
  ACalls.of_wp htt hf hb hname hargs h
theorem post_ret{rs:List ResultVar}{out:Out}{H2:List (List Ent)}(h:leave tt E rs st=some (out,H2)):postF tt E rs (fun o H'=>o=out∧H'=H2) .ret st:=⟨out,H2,.inl h,rfl,rfl⟩
end
def ass{α:Type}(b:Bool)(x:Option α):Option α:=bif b then x else none
theorem ass_some{α:Type}{b:Bool}{x:Option α}{r:α}(h:ass b x=some r):b=true∧x=some r:=by
 cases b
 ·cases h
 ·exact⟨rfl,h⟩
theorem ass_of{α:Type}{b:Bool}{x:Option α}(h:b=true):ass b x=x:=by subst h;rfl
theorem bind_some{α β:Type}{x:Option α}{f:α→Option β}{r:β}(h:Option.bind x f=some r):∃a,x=some a∧f a=some r:=Option.bind_eq_some_iff.1 h
def encL{α:Type}[Inhabited α](k:Nat)(e:α→V)(l:List α):V:=.slc k l.length fun i=>e (l.getD i default)
end Go.Ab
namespace Go.Ab
section
variable {P:Program} {N E:Nat} {st st':St}
theorem AWp.drop{c:Code}{Q:AE→St→Prop}(live bx:List Nat)(n:Nat)(hr:restr live bx n st.env st.H st.nxt=some st')(hE:Nat.ble E n=true)(h:AWp P N E c Q st'):AWp P N E c Q st:=by
 rintro K hK a w ⟨he,hd,hsz,M,β,hsim⟩
 obtain⟨β'',hs⟩:=hsim.restr hr (fun r b hb=>Nat.lt_of_lt_of_le (hK r b hb) (by simpa using hE))
 exact h K hK a w ⟨he,hd,hsz,M,β'',hs⟩
end
theorem all_nil:AllP []:=trivial
inductive Pn(α β:Type) where
 |ret (a:α) (b:β)
 |pan (x:V) (b:β)
def Pn.on{α β γ:Type}(x:Pn α β)(f:α→β→γ)(g:V→β→γ):γ:=
 match x with
 |.ret a b=>f a b
 |.pan x b=>g x b
inductive VL:List V→List V→Prop where
 |nil:VL [] []
 |cons {x y:V} {xs ys:List V} (h:VImp x y) (hl:VL xs ys):VL (x::xs) (y::ys)
theorem VL.len:∀{xs ys:List V},VL xs ys→xs.length=ys.length
 |_,_,.nil=>rfl
 |_,_,.cons _ hl=>by simp [hl.len]
theorem VL.at:∀{xs ys:List V},VL xs ys→∀(i:Nat) {y:V},ys[i]? = some y→∃x,xs[i]? = some x∧VImp x y
 |_,_,.nil,i,y,h=>by simp at h
 |_,_,.cons h hl,i,y,hy=>by
  cases i with
  |zero=>simp at hy;subst hy;exact⟨_,rfl,h⟩
  |succ i=>simp at hy;simpa using hl.at i hy
inductive AllV{α:Type}(e:α→V):List V→List α→Prop where
 |nil:AllV e [] []
 |cons {x:V} {y:α} {xs:List V} {ys:List α} (h:VL x.cells (e y).cells) (hl:AllV e xs ys):AllV e (x::xs) (y::ys)
theorem AllV.len{α:Type}{e:α→V}:∀{xs:List V} {ys:List α},AllV e xs ys→xs.length=ys.length
 |_,_,.nil=>rfl
 |_,_,.cons _ hl=>by simp [hl.len]
theorem AllV.at{α:Type}[Inhabited α]{e:α→V}:∀{xs:List V} {ys:List α},AllV e xs ys→∀(i:Nat),i<ys.length→VL (xs.getD i .nilp).cells (e (ys.getD i default)).cells
 |_,_,.nil,i,h=>by simp at h
 |_,_,.cons h hl,i,hy=>by
  cases i with
  |zero=>simpa using h
  |succ i=>simpa using hl.at i (by simpa using hy)
end Go.Ab
namespace Go.Ab
section
variable {tt:TT} {g1 g2:Rg} {p:Path} {o:Oper} {ops:List Oper} {says:CallSays}
theorem rd_congr{x:Operand}(h:∀t,x = .tmp t→look g1.env t=look g2.env t∧look g1.cenv t=look g2.cenv t)(p:Path)(ty:TypeId):rd g1.env g1.cenv p tt ty x=rd g2.env g2.cenv p tt ty x:=by
 cases x with
 |tmp t=>
  obtain⟨h1,h2⟩:=h t rfl
  simp only [rd,h1,h2]
 |const v=>cases v with
  |slice a n c=>cases a<;>cases n<;>cases c<;>rfl
  |_=>rfl
 |global _=>rfl
 |func _=>rfl
theorem ownAt_congr{x:Operand}(h:∀t,x = .tmp t→look g1.env t=look g2.env t):ownAt g1 x=ownAt g2 x:=by
 cases x with
 |tmp t=>simp only [ownAt,h t rfl]
 |_=>rfl
theorem mapM'_congr{α β:Type}{f f':α→Option β}:∀{l:List α},(∀x,x∈l→f x=f' x)→mapM' f l=mapM' f' l
 |[],_=>rfl
 |x::l,h=>by simp only [mapM',h x (by simp),mapM'_congr (l:=l) fun y hy=>h y (by simp [hy])]
theorem rdL_congr{f f':TypeId→Operand→Option D}:∀{l:List Operand} {ts:List TypeId},(∀x,x∈l→∀t,f t x=f' t x)→rdL f l ts=rdL f' l ts
 |[],_,_=>by simp [rdL]
 |x::l,[],_=>by simp [rdL]
 |x::l,t::ts,h=>by simp only [rdL,h x (by simp) t,rdL_congr (l:=l) (ts:=ts) fun y hy=>h y (by simp [hy])]
def readsH(tt:TT)(g:Rg)(p:Path)(o:Oper):List Nat:=
 match o.op with
 |.alloc _ |.box _ _=>match o.dst.bind (look g.ids)with |some id=>[id] |none=>[]
 |.load _ a=>match rd g.env g.cenv p tt o.type a with |some (.ptr q _)=>[q] |_=>[]
 |.store _ a _=>match rd g.env g.cenv p tt o.type a with |some (.ptr q _)=>[q] |_=>[]
 |.call c=>match c.callee with
  |.value x=>match rd g.env g.cenv p tt o.type x,rdL (rd g.env g.cenv p tt) c.args.toList c.argTypes.toList with
   |some (.fn _ caps),some ds=>refsClosed g.H 2 (dedup ((ds++caps).flatMap refs))
   |_,_=>[]
  |_=>[]
 |_=>[]
theorem mem_dedup{x:Nat}:∀{l:List Nat},x∈l→x∈dedup l
 |y::l,h=>by
  simp only [dedup]
  rw [Bool.cond_eq_ite]
  split
  ·rename_i hy
   rcases List.mem_cons.1 h with rfl|h
   ·obtain⟨z,hz,hzx⟩:=List.any_eq_true.1 hy
    have:x=z:=by simpa using hzx
    subst this;exact hz
   ·exact mem_dedup h
  ·rcases List.mem_cons.1 h with rfl|h
   ·simp
   ·exact List.mem_cons_of_mem _ (mem_dedup h)
theorem refsClosed_sub{H:List (Nat×List Ent)}:∀{n:Nat} {l:List Nat} {x:Nat},x∈l→x∈refsClosed H n l
 | 0,_,_,h=>h
 |n+1,_,_,h=>refsClosed_sub (n:=n) (mem_dedup (List.mem_append_left _ h))
theorem flatMap_congr'{α β:Type}{f f':α→List β}:∀{l:List α},(∀x,x∈l→f x=f' x)→l.flatMap f=l.flatMap f'
 |[],_=>rfl
 |x::l,h=>by simp only [List.flatMap_cons,h x (by simp),flatMap_congr' (l:=l) fun y hy=>h y (by simp [hy])]
theorem refsClosed_congr{H1 H2:List (Nat×List Ent)}:∀{n:Nat} {l:List Nat},(∀q,q∈refsClosed H1 n l→look H1 q=look H2 q)→refsClosed H1 n l=refsClosed H2 n l
 | 0,_,_=>rfl
 |n+1,l,h=>by
  simp only [refsClosed]at h ⊢
  have:(l.flatMap fun r=>((look H1 r).getD []).flatMap fun e=>refs e.d)=l.flatMap fun r=>((look H2 r).getD []).flatMap fun e=>refs e.d:=
   flatMap_congr' fun r hr=>by rw [h r (refsClosed_sub (mem_dedup (List.mem_append_left _ hr)))]
  rw [←this]
  exact refsClosed_congr h
theorem boxes_congr{H1 H2:List (Nat×List Ent)}:∀{l:List Nat},(∀q,q∈l→look H1 q=look H2 q)→boxes H1 l=boxes H2 l
 |[],_=>rfl
 |r::l,h=>by simp only [boxes,h r (by simp),boxes_congr (l:=l) fun q hq=>h q (by simp [hq])]
theorem handed_congr{xs:List Operand}{ts:List TypeId}(hs:∀t,Operand.tmp t∈xs→look g1.env t=look g2.env t∧look g1.cenv t=look g2.cenv t):∀os:List Nat,handed tt g1 xs ts os=handed tt g2 xs ts os
 |[]=>rfl
 |i::os=>by
  simp only [handed,handed_congr hs os]
  split
  ·rename_i t l hx hl
   obtain⟨h1,h2⟩:=hs t (List.mem_of_getElem? hx)
   rw [h1,h2]
  ·rfl
  ·rfl
theorem callStep_congr{xs:List Operand}{ts:List TypeId}{f:FuncId}{args:List D}(hs:∀t,Operand.tmp t∈xs→look g1.env t=look g2.env t∧look g1.cenv t=look g2.cenv t)(hrs:g1.rs=g2.rs)(hH:∀q,q∈refsClosed g1.H 2 (dedup (args.flatMap refs))→look g1.H q=look g2.H q):callStep says tt g1 p xs ts f args=callStep says tt g2 p xs ts f args:=by
 have h1:refsClosed g1.H 2 (dedup (args.flatMap refs))=refsClosed g2.H 2 (dedup (args.flatMap refs)):=refsClosed_congr hH
 unfold callStep
 simp only [←h1,←hrs,←boxes_congr hH,←fun os=>handed_congr (tt:=tt) (ts:=ts) hs os]
def makesBox(o:Oper):Bool:=
 match o.op with
 |.alloc _ |.box _ _=>true
 |_=>false
theorem newId_congr(hids:g1.ids=g2.ids)(hn:g1.nxt=g2.nxt)(hH:∀id,o.dst.bind (look g1.ids)=some id→look g1.H id=look g2.H id):newId g1 o=newId g2 o:=by
 unfold newId
 rw [←hids,←hn]
 split
 ·rename_i id h
  rw [hH id h]
 ·rfl
theorem step1_congr(hs:∀x,x∈o.op.operands.toList→∀t,x = .tmp t→look g1.env t=look g2.env t∧look g1.cenv t=look g2.cenv t)(hrs:g1.rs=g2.rs)(hids:g1.ids=g2.ids)
    (hn:makesBox o=true→g1.nxt=g2.nxt) (hH:∀q,q∈readsH tt g1 p o→look g1.H q=look g2.H q):step1 says tt ops g1 p o=step1 says tt ops g2 p o:=by
  have R:∀x,x∈o.op.operands.toList→∀p ty,rd g1.env g1.cenv p tt ty x=rd g2.env g2.cenv p tt ty x:=fun x hx p ty=>rd_congr (hs x hx) p ty
  have O:∀x,x∈o.op.operands.toList→ownAt g1 x=ownAt g2 x:=fun x hx=>ownAt_congr fun t ht=>(hs x hx t ht).1
  cases ho:o.op with
  |move x=>simp only [ho,Op.operands]at R O;simp only [step1,ho,R x (by simp),O x (by simp),hrs]
  |assign x=>simp only [ho,Op.operands]at R O;simp only [step1,ho,R x (by simp),O x (by simp),hrs]
  |pick c a b=>
    simp only [ho,Op.operands]at R O
    cases c with
    |tmp c=>simp only [step1,ho,R (.tmp c) (by simp),R a (by simp),R b (by simp),hrs]
    |_=>simp only [step1,ho]
  |alloc t=>
    have hi:newId g1 o=newId g2 o:=newId_congr hids (hn (by simp [makesBox,ho])) fun id hid=>hH id (by simp [readsH,ho,hid])
    simp only [step1,ho,hrs,hi]
  |box t x=>
    have hi:newId g1 o=newId g2 o:=newId_congr hids (hn (by simp [makesBox,ho])) fun id hid=>hH id (by simp [readsH,ho,hid])
    simp only [ho,Op.operands]at R O;simp only [step1,ho,R x (by simp),hrs,hi]
  |build t parts=>
    simp only [ho,Op.operands]at R O
    have:mapM' (fun(i,x)=>(rd g1.env g1.cenv p tt (partTy tt t i) x).map fun d=>(i,d)) parts.toList=mapM' (fun(i,x)=>(rd g2.env g2.cenv p tt (partTy tt t i) x).map fun d=>(i,d)) parts.toList:=
      mapM'_congr fun y hy=>by
        obtain⟨i,x⟩:=y
        simp only [R x (List.mem_map.2 ⟨(i,x),hy,rfl⟩)]
    simp only [step1,ho,this,hrs]
  |buildSlice t len parts=>
    simp only [ho,Op.operands]at R O
    have:mapM' (fun(i,x)=>(rd g1.env g1.cenv p tt (partTy tt t i) x).map fun d=>(i,d)) parts.toList=mapM' (fun(i,x)=>(rd g2.env g2.cenv p tt (partTy tt t i) x).map fun d=>(i,d)) parts.toList:=
      mapM'_congr fun y hy=>by
        obtain⟨i,x⟩:=y
        simp only [R x (List.mem_map.2 ⟨(i,x),hy,rfl⟩)]
    simp only [step1,ho,this,hrs]
  |load t a=>
    simp only [ho,Op.operands]at R O
    simp only [readsH,ho,R a (by simp)]at hH
    simp only [step1,ho,R a (by simp),hrs]
    split
    · rename_i q off ti ha hti
      simp only [ha]at hH
      simp only [hH q (by simp)]
    · rfl
    · rfl
  |store t a x=>
    simp only [ho,Op.operands]at R O
    simp only [readsH,ho,R a (by simp)]at hH
    simp only [step1,ho,R a (by simp),R x (by simp),O x (by simp),hrs]
    split
    · rename_i q off d ti ha hd hti
      simp only [ha]at hH
      simp only [hH q (by simp)]
    · rfl
  |nilCheck x=>simp only [ho,Op.operands]at R O;simp only [step1,ho,R x (by simp),hrs]
  |binOp op t x y t2=>simp only [ho,Op.operands]at R O;simp only [step1,ho,R x (by simp),R y (by simp),hrs]
  |unOp op t x=>simp only [ho,Op.operands]at R O;simp only [step1,ho,R x (by simp),hrs]
  |convert s t x=>simp only [ho,Op.operands]at R O;simp only [step1,ho,R x (by simp),hrs]
  |makeInterface t x=>simp only [ho,Op.operands]at R O;simp only [step1,ho,R x (by simp),hrs]
  |makeFunc fn first caps=>
    simp only [ho,Op.operands]at R O
    cases fn with
    |func f=>
      have:mapM' (rd g1.env g1.cenv p tt o.type) caps.toList=mapM' (rd g2.env g2.cenv p tt o.type) caps.toList:=mapM'_congr fun x hx=>R x (by rw [Array.toList_append];exact List.mem_append_right _ hx) _ _
      simp only [step1,ho,this,hrs]
    |_=>simp only [step1,ho]
  |slice t x lo hi mx=>
    simp only [ho,Op.operands]at R O
    have hlo:lo.map (rd g1.env g1.cenv p tt o.type)=lo.map (rd g2.env g2.cenv p tt o.type):=by
      cases lo with
      |none=>rfl
      |some l=>simp [R l (by simp)]
    have hhi:hi.map (rd g1.env g1.cenv p tt o.type)=hi.map (rd g2.env g2.cenv p tt o.type):=by
      cases hi with
      |none=>rfl
      |some l=>simp [R l (by simp)]
    have hmx:mx.map (rd g1.env g1.cenv p tt o.type)=mx.map (rd g2.env g2.cenv p tt o.type):=by
      cases mx with
      |none=>rfl
      |some m=>simp [R m (by simp)]
    simp only [step1,ho,R x (by simp),hlo,hhi,hmx,hrs]
  |fieldAddr s x f=>simp only [ho,Op.operands]at R O;simp only [step1,ho,R x (by simp),hrs]
  |field s x f=>simp only [ho,Op.operands]at R O;simp only [step1,ho,R x (by simp),hrs]
  |indexAddr t x i=>simp only [ho,Op.operands]at R O;simp only [step1,ho,R x (by simp),R i (by simp),hrs]
  |index t x i=>simp only [ho,Op.operands]at R O;simp only [step1,ho,R x (by simp),R i (by simp),hrs]
  |typeAssert x a t ok=>simp only [ho,Op.operands]at R O;simp only [step1,ho,R x (by simp),hrs]
  |extract x i=>simp only [ho,Op.operands]at R O;simp only [step1,ho,R x (by simp),hrs]
  |panic x=>simp only [ho,Op.operands]at R O;simp only [step1,ho,R x (by simp)]
  |call c=>
    simp only [ho,Op.operands,Call.operands]at R O hs
    cases hc:c.callee with
    |value x=>
      have hx:=R x (by simp [hc])
      have ha:rdL (rd g1.env g1.cenv p tt) c.args.toList c.argTypes.toList=rdL (rd g2.env g2.cenv p tt) c.args.toList c.argTypes.toList:=rdL_congr fun y hy t=>R y (by rw [Array.toList_append];exact List.mem_append_right _ hy) p t
      simp only [readsH,ho,hc,hx,ha]at hH
      simp only [step1,ho,hc,hx,ha]
      split
      · rename_i f caps ds h1 h2
        simp only [h1,h2]at hH
        exact callStep_congr (fun t ht=>hs (.tmp t) (by rw [Array.toList_append];exact List.mem_append_right _ ht) t rfl) hrs hH
      · rfl
    |invoke x m=>simp only [step1,ho,hc]
    |builtin b=>
      have ha:mapM' (fun y=>rd g1.env g1.cenv p tt o.type y) c.args.toList=mapM' (fun y=>rd g2.env g2.cenv p tt o.type y) c.args.toList:=mapM'_congr fun x hx=>R x (by rw [Array.toList_append];exact List.mem_append_right _ hx) _ _
      cases b with
      |len=>simp only [step1,ho,hc,ha,hrs]
      |min=>simp only [step1,ho,hc,ha,hrs]
      |max=>simp only [step1,ho,hc,ha,hrs]
      |append=>
        simp only [step1,ho,hc,hrs]
        split
        · rename_i t x e sz by' zr _ t2 hl _ _
          have hm:∀y,y∈[Operand.tmp t,x]→y∈(match c.callee with|.value f => #[f] |.invoke r _ => #[r] |.builtin _ => #[]:Array Operand).toList++c.args.toList:=fun y hy=>by rw [hl];exact List.mem_append_right _ hy
          have hm':∀y,y∈[Operand.tmp t,x]→y∈((match c.callee with|.value f => #[f] |.invoke r _ => #[r] |.builtin _ => #[]:Array Operand)++c.args).toList:=fun y hy=>by rw [Array.toList_append];exact hm y hy
          simp only [R (.tmp t) (hm' _ (by simp)),R x (hm' _ (by simp)),(hs (.tmp t) (hm' _ (by simp)) t rfl).1]
        · rfl
      |_=>simp only [step1,ho,hc]
  |_=>simp only [step1,ho]
end
end Go.Ab
namespace Go.Ab
structure EffD where
 dst:Option Nat
 p:Path
 f:Eff
 rb:List Nat
 rsl:List Nat
 mb:Bool
 rs:List RS
 kd:Nat:=0
 px:V:=.nilp
 ph:List (Nat×List Ent):=[]
 fH:List (Nat×List Ent):=[]
 ld:Nat:=0
def opSlots(ops:List Oper)(o:Oper):List Nat:=
 (o.op.operands.toList.filterMap fun|.tmp t=>some t|_=>none)++(match o.guard with
  |some (j,_)=>((ops[j]?).bind (·.dst)).toList
  |none=>[])
def apD(E:EffD)(g:Rg):Rg:=
 match E.dst with
 |none=>{g with env:=clrEnv E.f.clr g.env,H:=E.f.hs++g.H,nxt:=g.nxt+E.f.nx}
 |some t=>match E.p with
  |[]=>{g with
   env:=match E.f.e with|some e=>(t,e)::clrEnv E.f.clr g.env|none=>del (clrEnv E.f.clr g.env) t
   cenv:=del g.cenv t,H:=E.f.hs++g.H,nxt:=g.nxt+E.f.nx}
  |_::_=>match E.f.e with
   |some e=>{g with env:=del g.env t,cenv:=(t,E.p,e.d)::del g.cenv t}
   |none=>g
def wS(E:EffD):List Nat:=E.dst.toList++E.f.clr
def wB(E:EffD):List Nat:=E.f.hs.map (·.1)
theorem look_append'{α:Type}:∀(a b:List (Nat×α)) (q:Nat),look (a++b) q=(match look a q with|some x=>some x|none=>look b q)
 |[],_,_=>rfl
 |(j,x)::a,b,q=>by
  simp only [List.cons_append,look_cons,look_append' a b q]
  by_cases h:j=q<;>simp [h]
theorem look_none_of{α:Type}:∀{a:List (Nat×α)} {q:Nat},q∉a.map (·.1)→look a q=none
 |[],_,_=>rfl
 |(j,x)::a,q,h=>by
  simp only [List.map_cons,List.mem_cons,not_or]at h
  rw [look_cons,if_neg (Ne.symm h.1)]
  exact look_none_of h.2
section
variable {E:EffD} {g g1 g2:Rg}
def SlotEq(g1 g2:Rg)(t:Nat):Prop:=look g1.env t=look g2.env t∧look g1.cenv t=look g2.cenv t
def BoxEq(g1 g2:Rg)(q:Nat):Prop:=look g1.H q=look g2.H q
theorem apD_slot{t:Nat}(h:t∉wS E):SlotEq (apD E g) g t:=by
 simp only [wS,List.mem_append,not_or]at h
 unfold SlotEq apD
 cases hd:E.dst with
 |none=>simp only [look_clrEnv,if_neg h.2,and_self]
 |some u=>
  have hu:u≠t:=by rintro rfl;simp [hd]at h
  cases hp:E.p with
  |nil=>
   dsimp only
   cases he:E.f.e with
   |some e=>simp only [look_cons,if_neg hu,look_clrEnv,if_neg h.2,look_del,and_self]
   |none=>simp only [look_clrEnv,if_neg h.2,look_del,if_neg hu,and_self]
  |cons x p=>
   dsimp only
   cases he:E.f.e with
   |some e=>simp only [look_cons,if_neg hu,look_del,and_self]
   |none=>exact⟨rfl,rfl⟩
theorem apD_slot_congr{t:Nat}(h:SlotEq g1 g2 t):SlotEq (apD E g1) (apD E g2) t:=by
 obtain⟨h1,h2⟩:=h
 unfold SlotEq apD
 cases hd:E.dst with
 |none=>simp only [look_clrEnv,h1,h2,and_self]
 |some u=>
  cases hp:E.p with
  |nil=>
   dsimp only
   cases he:E.f.e with
   |some e=>simp only [look_cons,look_clrEnv,h1,h2,look_del,and_self]
   |none=>simp only [look_clrEnv,look_del,h1,h2,and_self]
  |cons x p=>
   dsimp only
   cases he:E.f.e with
   |some e=>simp only [look_cons,look_del,h1,h2,and_self]
   |none=>exact⟨h1,h2⟩
theorem apD_H:(apD E g).H=E.f.hs++g.H∨(apD E g).H=g.H:=by
 unfold apD
 cases E.dst with
 |none=>exact .inl rfl
 |some u=>
  cases E.p with
  |nil=>exact .inl rfl
  |cons x p=>dsimp only;cases E.f.e<;>exact .inr rfl
theorem apD_box{q:Nat}(h:q∉wB E):BoxEq (apD E g) g q:=by
 unfold BoxEq
 rcases apD_H (E:=E) (g:=g)with h1|h1<;>rw [h1]
 rw [look_append',look_none_of h]
theorem apD_box_congr{q:Nat}(h:BoxEq g1 g2 q):BoxEq (apD E g1) (apD E g2) q:=by
 unfold BoxEq at *
 unfold apD
 cases E.dst with
 |none=>simp only [look_append',h]
 |some u=>
  cases E.p with
  |nil=>simp only [look_append',h]
  |cons x p=>dsimp only;cases E.f.e<;>exact h
def dn(E:EffD):Nat:=
 match E.dst with
 |none=>E.f.nx
 |some _=>match E.p with
  |[]=>E.f.nx
  |_::_=>0
theorem apD_nxt:(apD E g).nxt=g.nxt+dn E:=by
 unfold apD dn
 cases E.dst with
 |none=>rfl
 |some u=>
  cases E.p with
  |nil=>rfl
  |cons x p=>dsimp only;cases E.f.e<;>rfl
structure Alike(g1 g2:Rg):Prop where
 slot:∀t,SlotEq g1 g2 t
 box:∀q,BoxEq g1 g2 q
 nxt:g1.nxt=g2.nxt
 ids:g1.ids=g2.ids
theorem apD_ids:(apD E g).ids=g.ids:=by
 unfold apD
 cases E.dst with
 |none=>rfl
 |some u=>
  cases E.p with
  |nil=>rfl
  |cons x p=>dsimp only;cases E.f.e<;>rfl
theorem Alike.refl:Alike g g:=⟨fun _=>⟨rfl,rfl⟩,fun _=>rfl,rfl,rfl⟩
theorem Alike.symm(h:Alike g1 g2):Alike g2 g1:=⟨fun t=>⟨(h.slot t).1.symm,(h.slot t).2.symm⟩,fun q=>(h.box q).symm,h.nxt.symm,h.ids.symm⟩
theorem Alike.trans{g3:Rg}(h:Alike g1 g2)(h':Alike g2 g3):Alike g1 g3:=⟨fun t=>⟨(h.slot t).1.trans (h'.slot t).1,(h.slot t).2.trans (h'.slot t).2⟩,fun q=>(h.box q).trans (h'.box q),h.nxt.trans h'.nxt,h.ids.trans h'.ids⟩
theorem Alike.ap(h:Alike g1 g2):Alike (apD E g1) (apD E g2):=
 ⟨fun t=>apD_slot_congr (h.slot t),fun q=>apD_box_congr (h.box q),(by simp only [apD_nxt,h.nxt]),by simp only [apD_ids,h.ids]⟩
def sep(a b:List Nat):Bool:=a.all fun x=>!b.any (Nat.beq x)
theorem sep_spec{a b:List Nat}(h:sep a b=true){x:Nat}(ha:x∈a):x∉b:=by
 intro hb
 have:=List.all_eq_true.1 h x ha
 simp only [Bool.not_eq_true',List.any_eq_false]at this
 exact this x hb (by simp)
def disj(E E':EffD):Bool:=
 sep (wS E) E'.rsl&&sep (wS E) (wS E')&&sep (wS E') E.rsl&&(sep (wB E) E'.rb||Nat.beq E.ld 2&&Nat.beq E'.ld 1)&&sep (wB E) (wB E')&&(sep (wB E') E.rb||Nat.beq E'.ld 2&&Nat.beq E.ld 1)&&(!E.mb||Nat.beq (dn E') 0)&&(!E'.mb||Nat.beq (dn E) 0)
theorem ap_comm{E E':EffD}(h1:sep (wS E) (wS E')=true)(h2:sep (wB E) (wB E')=true):Alike (apD E (apD E' g)) (apD E' (apD E g)):=by
 refine⟨fun t=>?_,fun q=>?_,?_,by simp only [apD_ids]⟩
 ·by_cases ht:t∈wS E
  ·have ht':=sep_spec h1 ht
   have a:SlotEq (apD E (apD E' g)) (apD E g) t:=apD_slot_congr (apD_slot ht')
   have b:SlotEq (apD E' (apD E g)) (apD E g) t:=apD_slot ht'
   exact⟨a.1.trans b.1.symm,a.2.trans b.2.symm⟩
  ·have a:SlotEq (apD E (apD E' g)) (apD E' g) t:=apD_slot ht
   have b:SlotEq (apD E' (apD E g)) (apD E' g) t:=apD_slot_congr (apD_slot ht)
   exact⟨a.1.trans b.1.symm,a.2.trans b.2.symm⟩
 ·by_cases ht:q∈wB E
  ·have ht':=sep_spec h2 ht
   exact(apD_box_congr (E:=E) (apD_box (E:=E') (g:=g) ht')).trans (apD_box (E:=E') (g:=apD E g) ht').symm
  ·exact(apD_box (E:=E) (g:=apD E' g) ht).trans (apD_box_congr (E:=E') (apD_box (E:=E) (g:=g) ht)).symm
 ·simp only [apD_nxt];omega
end
section
variable {tt:TT} {ops:List Oper} {says:CallSays} {o:Oper} {E:EffD} {g g1 g2:Rg}
theorem guardPath_congr(h:∀t,t∈opSlots ops o→SlotEq g1 g2 t):guardPath ops g1 o=guardPath ops g2 o:=by
 unfold guardPath
 split
 ·rfl
 ·rename_i j w hg
  cases ht:(ops[j]?).bind (·.dst) with
  |none=>rfl
  |some t=>
   have:=h t (by simp [opSlots,hg,ht])
   simp only [this.1,this.2]
theorem under_congr:∀{p:Path} {q:Prop},(∀x,x∈p→SlotEq g1 g2 x.1)→under g1 p q=under g2 p q
 |[],_,_=>rfl
 |(t,w)::p,q,h=>by
  have ht:=h (t,w) (by simp)
  have ih:=under_congr (p:=p) (q:=q) fun x hx=>h x (by simp [hx])
  have:boolAt g1.env g1.cenv t=boolAt g2.env g2.cenv t:=by unfold boolAt;rw [ht.1,ht.2]
  simp only [under,this,ih]
theorem readsH_congr{p:Path}(hs:∀x,x∈o.op.operands.toList→∀t,x = .tmp t→look g1.env t=look g2.env t∧look g1.cenv t=look g2.cenv t)(hids:g1.ids=g2.ids)(hH:∀q,q∈readsH tt g1 p o→look g1.H q=look g2.H q):readsH tt g1 p o=readsH tt g2 p o:=by
 have R:∀x,x∈o.op.operands.toList→∀p ty,rd g1.env g1.cenv p tt ty x=rd g2.env g2.cenv p tt ty x:=fun x hx p ty=>rd_congr (hs x hx) p ty
 cases ho:o.op with
 |alloc t=>simp only [readsH,ho,hids]
 |box t x=>simp only [readsH,ho,hids]
 |load t a=>simp only [ho,Op.operands]at R;simp only [readsH,ho,R a (by simp)]
 |store t a x=>simp only [ho,Op.operands]at R;simp only [readsH,ho,R a (by simp)]
 |call c=>
  simp only [ho,Op.operands,Call.operands]at R
  cases hc:c.callee with
  |value x=>
   have hx:=R x (by simp [hc])
   have ha:rdL (rd g1.env g1.cenv p tt) c.args.toList c.argTypes.toList=rdL (rd g2.env g2.cenv p tt) c.args.toList c.argTypes.toList:=rdL_congr fun y hy t=>R y (by rw [Array.toList_append];exact List.mem_append_right _ hy) p t
   simp only [readsH,ho,hc,hx,ha]at hH ⊢
   split
   ·rename_i f caps ds h1 h2
    simp only [h1,h2]at hH
    exact refsClosed_congr hH
   ·rfl
  |_=>simp only [readsH,ho,hc]
 |_=>simp only [readsH,ho]
structure Can1(says:CallSays)(tt:TT)(ops:List Oper)(o:Oper)(E:EffD)(g:Rg):Prop where
 gp:guardPath ops g o=some E.p
 st:step1 says tt ops {g with rs:=E.rs} E.p o=some (bif Nat.beq E.kd 0 then .go E.f else .pan E.px E.ph E.f.ob)
 ob:∀q,q∈E.f.ob→under g E.p q
 rb:∀q,q∈readsH tt g E.p o→q∈E.rb
 fin:E.kd=1→∀q,q∈E.rb→look g.H q=look E.fH q
def Can(says:CallSays)(tt:TT)(ops:List Oper)(o:Oper)(E:EffD)(g:Rg):Prop:=E.kd=2∨Can1 says tt ops o E g
theorem Can.congr(h:Can says tt ops o E g1)(hrsl:∀t,t∈opSlots ops o++E.p.map (·.1)→t∈E.rsl)(hmk:makesBox o=E.mb)(hs:∀t,t∈E.rsl→SlotEq g1 g2 t)(hb:∀q,q∈E.rb→BoxEq g1 g2 q)(hn:E.mb=true→g1.nxt=g2.nxt)(hids:g1.ids=g2.ids):Can says tt ops o E g2:=by
 rcases h with h|h
 ·exact .inl h
 right
 have hop:∀x,x∈o.op.operands.toList→∀t,x = .tmp t→look g1.env t=look g2.env t∧look g1.cenv t=look g2.cenv t:=by
  rintro x hx t rfl
  exact hs t (hrsl t (List.mem_append_left _ (by simp only [opSlots,List.mem_append,List.mem_filterMap];exact .inl ⟨_,hx,rfl⟩)))
 have hrd:readsH tt g1 E.p o=readsH tt g2 E.p o:=readsH_congr hop hids (fun q hq=>hb q (h.rb q hq))
 refine⟨?_,?_,fun q hq=>?_,(by rw [←hrd];exact h.rb),fun hk q hq=>(hb q hq).symm.trans (h.fin hk q hq)⟩
 ·rw [←guardPath_congr (g1:=g1) (g2:=g2) fun t ht=>hs t (hrsl t (List.mem_append_left _ ht))];exact h.gp
 ·rw [←h.st]
  refine(step1_congr (g1:={g1 with rs:=E.rs}) (g2:={g2 with rs:=E.rs}) hop rfl hids (fun hm=>hn (by rw [←hmk];exact hm)) (fun q hq=>hb q ?_)).symm
  exact h.rb q hq
 ·rw [←under_congr (g1:=g1) (g2:=g2) fun x hx=>hs x.1 (hrsl _ (List.mem_append_right _ (List.mem_map.2 ⟨x,hx,rfl⟩)))]
  exact h.ob q hq
def ldOf(o:Oper)(rs:List RS):Nat:=
 match o.op with
 |.load _ _=>match rs with
  |.own::_=>2
  |.marks _::_=>0
  |_=>1
 |_=>0
def DataEq(g1 g2:Rg)(q:Nat):Prop:=(look g1.H q).map (·.map (·.d))=(look g2.H q).map (·.map (·.d))
theorem setAt_d:∀(cs:List Ent) (off:Nat) (e:Ent),cs[off]? = some e→(setAt cs off [{d:=e.d}]).map (·.d)=cs.map (·.d)
 |[],off,e,h=>by simp at h
 |c::cs,0,e,h=>by
  simp only [List.getElem?_cons_zero,Option.some.injEq]at h
  subst h
  simp [setAt]
 |c::cs,off+1,e,h=>by
  simp only [List.getElem?_cons_succ]at h
  simp only [setAt,List.map_cons,setAt_d cs off e h]
theorem ownload_data(h:Can1 says tt ops o E g)(hl:ldOf o E.rs=2)(hk:E.kd=0)(q:Nat):DataEq (apD E g) g q:=by
 have hst:=h.st
 rw [hk]at hst
 unfold ldOf at hl
 split at hl
 case h_2=>cases hl
 rename_i t a ho
 simp only [step1,ho,show Nat.beq 0 0=true from rfl,cond_true]at hst
 have nil:E.f.hs=[]→DataEq (apD E g) g q:=by
  intro hh
  unfold DataEq
  rcases apD_H (E:=E) (g:=g)with h1|h1<;>rw [h1]
  rw [hh];rfl
 split at hst
 ·rename_i q0 off ti hr hlt
  split at hst
  ·rename_i cs hcs
   rw [Bool.cond_eq_ite]at hst
   split at hst
   ·rw [Bool.cond_eq_ite]at hst
    split at hst
    ·split at hst
     ·rename_i hrs
      rw [hrs]at hl;cases hl
     ·simp only [Option.map_some,Option.some.injEq,Stp.go.injEq]at hst
      exact nil (by rw [←hst])
    ·cases hst
   ·split at hst
    ·rename_i e he
     split at hst
     ·rw [Bool.cond_eq_ite]at hst
      split at hst
      ·simp only [Option.some.injEq,Stp.go.injEq]at hst
       unfold DataEq
       rcases apD_H (E:=E) (g:=g)with h1|h1<;>rw [h1]
       rw [←hst]
       simp only [List.cons_append,List.nil_append,look_cons]
       split
       ·rename_i hq
        subst hq
        rw [hcs]
        simp only [Option.map_some,setAt_d cs off e he]
       ·rfl
      ·cases hst
     ·simp only [Option.map_some,Option.some.injEq,Stp.go.injEq]at hst
      exact nil (by rw [←hst])
    ·cases hst
  ·cases hst
 ·rename_i x ti hr hlt
  rw [Bool.cond_eq_ite]at hst
  split at hst
  ·simp only [Option.map_some,Option.some.injEq,Stp.go.injEq]at hst
   exact nil (by rw [←hst])
  ·cases hst
 ·cases hst
theorem load_congr{p:Path}{rs:List RS}{t:TypeId}{a:Operand}(ho:o.op = .load t a)(hrs:∀l,rs ≠ .own::l)(hrm:∀c l,rs ≠ .marks c::l)(R:rd g1.env g1.cenv p tt o.type a=rd g2.env g2.cenv p tt o.type a)(hD:∀q off,rd g2.env g2.cenv p tt o.type a=some (.ptr q off)→DataEq g1 g2 q):
    step1 says tt ops {g1 with rs:=rs} p o=step1 says tt ops {g2 with rs:=rs} p o:=by
  simp only [step1,ho,R]
  split
  · rename_i q off ti hr hlt
    have hd:=hD q off hr
    unfold DataEq at hd
    cases h1:look g1.H q with
    |none=>
      rw [h1]at hd
      cases h2:look g2.H q with
      |none=>rfl
      |some c2=>rw [h2]at hd;cases hd
    |some c1=>
      rw [h1]at hd
      cases h2:look g2.H q with
      |none=>rw [h2]at hd;cases hd
      |some c2=>
        rw [h2]at hd
        simp only [Option.map_some,Option.some.injEq]at hd
        have hlen:c1.length=c2.length:=by have:=congrArg List.length hd;simpa using this
        have hdt:((c1.drop off).take ti.size).map (·.d)=((c2.drop off).take ti.size).map (·.d):=by rw [List.map_take,List.map_drop,hd,←List.map_drop,←List.map_take]
        have hget:(c1[off]?).map (·.d)=(c2[off]?).map (·.d):=by rw [←List.getElem?_map,hd,List.getElem?_map]
        simp only [hlen,hdt]
        cases ti.k.isAgg with
        |true=>
          cases rs with
          |nil=>rfl
          |cons x l=>
            cases x with
            |marks=>exact absurd rfl (hrm _ l)
            |_=>rfl
        |false=>
          simp only [cond_false]
          cases g1':c1[off]? with
          |none=>
            rw [g1']at hget
            cases g2':c2[off]? with
            |none=>rfl
            |some e2=>rw [g2']at hget;cases hget
          |some e1=>
            rw [g1']at hget
            cases g2':c2[off]? with
            |none=>rw [g2']at hget;cases hget
            |some e2=>
              rw [g2']at hget
              simp only [Option.map_some,Option.some.injEq]at hget
              cases rs with
              |nil=>cases e1.own<;>cases e2.own<;>simp [hget]
              |cons r l=>
                cases r with
                |own=>exact absurd rfl (hrs l)
                |val x=>cases e1.own<;>cases e2.own<;>simp [hget]
                |raw=>cases e1.own<;>cases e2.own<;>simp [hget]
                |marks=>exact absurd rfl (hrm _ l)
                |call u v z=>cases e1.own<;>cases e2.own<;>simp [hget]
  · rfl
  · rfl
theorem Can.congrD(h:Can says tt ops o E g1)(hl:ldOf o E.rs=1)(hk:E.kd=0)(hrsl:∀t,t∈opSlots ops o++E.p.map (·.1)→t∈E.rsl)(hs:∀t,t∈E.rsl→SlotEq g1 g2 t)(hb:∀q,DataEq g1 g2 q):Can says tt ops o E g2:=by
 rcases h with h|h
 ·exact .inl h
 right
 have hop:∀x,x∈o.op.operands.toList→∀t,x = .tmp t→look g1.env t=look g2.env t∧look g1.cenv t=look g2.cenv t:=by
  rintro x hx t rfl
  exact hs t (hrsl t (List.mem_append_left _ (by simp only [opSlots,List.mem_append,List.mem_filterMap];exact .inl ⟨_,hx,rfl⟩)))
 unfold ldOf at hl
 split at hl
 case h_2=>cases hl
 rename_i t a ho
 have hrs:∀l,E.rs ≠ .own::l:=by
  intro l e
  rw [e]at hl
  cases hl
 have hrm:∀c l,E.rs ≠ .marks c::l:=by
  intro c l e
  rw [e]at hl
  cases hl
 have R:rd g1.env g1.cenv E.p tt o.type a=rd g2.env g2.cenv E.p tt o.type a:=rd_congr (hop a (by simp [ho,Op.operands])) _ _
 have hrd:readsH tt g1 E.p o=readsH tt g2 E.p o:=by simp only [readsH,ho,R]
 refine⟨?_,?_,fun q hq=>?_,(by rw [←hrd];exact h.rb),fun hk'=>by rw [hk]at hk';cases hk'⟩
 ·rw [←guardPath_congr (g1:=g1) (g2:=g2) fun t ht=>hs t (hrsl t (List.mem_append_left _ ht))];exact h.gp
 ·rw [←h.st]
  exact(load_congr ho hrs hrm R fun q off _=>hb q).symm
 ·rw [←under_congr (g1:=g1) (g2:=g2) fun x hx=>hs x.1 (hrsl _ (List.mem_append_right _ (List.mem_map.2 ⟨x,hx,rfl⟩)))]
  exact h.ob q hq
end
end Go.Ab
namespace Go.Ab
def okE(ops:List Oper)(o:Oper)(E:EffD):Bool:=sep' (opSlots ops o++E.p.map (·.1)) E.rsl&&(makesBox o == E.mb)&&decide (E.dst=o.dst)&&(match E.f.rs with|[]=>true|_=>false)&&(Nat.beq E.ld 0||Nat.beq E.ld (ldOf o E.rs)&&Nat.beq E.kd 0)
where sep' (a b:List Nat):Bool:=a.all fun x=>b.any (Nat.beq x)
theorem okE_spec{ops:List Oper}{o:Oper}{E:EffD}(h:okE ops o E=true):(∀t,t∈opSlots ops o++E.p.map (·.1)→t∈E.rsl)∧makesBox o=E.mb∧E.dst=o.dst∧E.f.rs=[]:=by
 simp only [okE,Bool.and_eq_true,beq_iff_eq,decide_eq_true_eq]at h
 obtain⟨⟨⟨⟨h1,h2⟩,h3⟩,h4⟩,_⟩:=h
 refine⟨fun t ht=>?_,h2,h3,?_⟩
 ·obtain⟨y,hy,hty⟩:=List.any_eq_true.1 (List.all_eq_true.1 h1 t ht)
  have:t=y:=by simpa using hty
  rw [this];exact hy
 ·split at h4
  ·assumption
  ·cases h4
def waits(ops:List Oper)(i:Nat):Nat→Nat→Bool
 | 0,_=>false
 |n+1,j=>match ops[j]? with
  |some o=>o.after.toList.any fun e=>Region.binds .any e&&(Nat.beq e.on i||waits ops i n e.on)
  |none=>false
def ClosedL(opsA:Array Oper)(listed:Array Bool):Prop:=∀(j:Nat) o,opsA[j]? = some o→listed.getD j false=true→∀e,e∈o.after→Region.binds .any e=true→listed.getD e.on false=true
theorem waits_closed{opsA:Array Oper}{listed:Array Bool}(hc:ClosedL opsA listed){i:Nat}:∀{n j:Nat},waits opsA.toList i n j=true→listed.getD j false=true→listed.getD i false=true
 | 0,_,h,_=>by simp [waits]at h
 |n+1,j,h,hj=>by
  simp only [waits]at h
  split at h
  ·rename_i o ho
   obtain⟨e,he,hb⟩:=List.any_eq_true.1 h
   simp only [Bool.and_eq_true,Bool.or_eq_true,Nat.beq_eq]at hb
   have h1:=hc j o (by simpa using ho) hj e (by simpa using he) hb.1
   rcases hb.2 with rfl|h2
   ·exact h1
   ·exact waits_closed hc h2 h1
  ·cases h
theorem ClosedL.set{opsA:Array Oper}{listed:Array Bool}(hc:ClosedL opsA listed){i:Nat}(hr:i∈Region.ready .any opsA listed):ClosedL opsA (listed.setIfInBounds i true):=by
 intro j o ho hj e he hb
 by_cases hji:i=j
 ·subst hji
  obtain⟨_,o',ho',hall⟩:=mem_ready.1 hr
  rw [ho]at ho';cases ho'
  exact getD_set_true (hall e he hb)
 ·rw [getD_set_ne false hji]at hj
  exact getD_set_true (hc j o ho hj e he hb)
section
variable {says:CallSays} {tt:TT} {opsA:Array Oper} {Es:List EffD} {Fi:Rg→Prop} {g g1 g2:Rg}
def AnyD(says:CallSays)(tt:TT)(opsA:Array Oper)(Es:List EffD)(Fi:Rg→Prop):Nat→Array Bool→Rg→Prop
 | 0,listed,g=>Region.ready .any opsA listed=[]∧Fi g
 |n+1,listed,g=>(Region.ready .any opsA listed=[]→Fi g)∧∀i,i∈Region.ready .any opsA listed→∃o E,opsA[i]? = some o∧Es[i]? = some E∧Can says tt opsA.toList o E g∧
  AnyD says tt opsA Es Fi n (listed.setIfInBounds i true) (apD E g)
theorem AnyD.alike(hok:∀(i:Nat) o E,opsA[i]? = some o→Es[i]? = some E→okE opsA.toList o E=true)(hF:∀g1 g2,Alike g1 g2→Fi g1→Fi g2):∀{n:Nat} {listed:Array Bool} {g1 g2:Rg},Alike g1 g2→AnyD says tt opsA Es Fi n listed g1→AnyD says tt opsA Es Fi n listed g2
 | 0,_,_,_,ha,h=>⟨h.1,hF _ _ ha h.2⟩
 |n+1,_,_,_,ha,h=>⟨fun hr=>hF _ _ ha (h.1 hr),fun i hi=>by
  obtain⟨o,E,ho,hE,hC,hn⟩:=h.2 i hi
  obtain⟨k1,k2,_,_⟩:=okE_spec (hok i o E ho hE)
  exact⟨o,E,ho,hE,hC.congr k1 k2 (fun t _=>ha.slot t) (fun q _=>ha.box q) (fun _=>ha.nxt) ha.ids,AnyD.alike hok hF ha.ap hn⟩⟩
theorem okE_ld{ops:List Oper}{o:Oper}{E:EffD}{n:Nat}(h:okE ops o E=true)(hl:E.ld=n+1):ldOf o E.rs=n+1∧E.kd=0:=by
 simp only [okE,Bool.and_eq_true,Bool.or_eq_true,Nat.beq_eq]at h
 rcases h.2 with h|h
 ·rw [hl]at h;cases h
 ·exact⟨h.1.symm.trans hl,h.2⟩
theorem Can.data{says:CallSays}{tt:TT}{ops:List Oper}{o:Oper}{E:EffD}{g:Rg}(h:Can says tt ops o E g)(hok:okE ops o E=true)(hl:E.ld=2)(q:Nat):DataEq (apD E g) g q:=by
 obtain⟨h1,h2⟩:=okE_ld hok hl
 rcases h with h|h
 ·rw [h2]at h;cases h
 ·exact ownload_data h h1 h2 q
theorem disj_spec{E E':EffD}(h:disj E E'=true):sep (wS E) E'.rsl=true∧sep (wS E) (wS E')=true∧sep (wS E') E.rsl=true∧(sep (wB E) E'.rb=true∨E.ld=2∧E'.ld=1)∧sep (wB E) (wB E')=true∧(sep (wB E') E.rb=true∨E'.ld=2∧E.ld=1)∧(E.mb=true→dn E'=0)∧(E'.mb=true→dn E=0):=by
 simp only [disj,Bool.and_eq_true,Bool.or_eq_true,Bool.not_eq_true',Nat.beq_eq]at h
 obtain⟨⟨⟨⟨⟨⟨⟨h1,h2⟩,h3⟩,h4⟩,h5⟩,h6⟩,h7⟩,h8⟩:=h
 exact⟨h1,h2,h3,h4,h5,h6,fun hm=>h7.resolve_left (by simp [hm]),fun hm=>h8.resolve_left (by simp [hm])⟩
theorem AnyD.first(hok:∀(i:Nat) o E,opsA[i]? = some o→Es[i]? = some E→okE opsA.toList o E=true)(hF:∀g1 g2,Alike g1 g2→Fi g1→Fi g2){i:Nat}{o:Oper}{E:EffD}(hi:opsA[i]? = some o)(hE:Es[i]? = some E):
    ∀(fuel:Nat) (listed:Array Bool) (g:Rg),
      (∀(j:Nat) oj Ej,opsA[j]? = some oj→Es[j]? = some Ej→j≠i→listed.getD j true=false→waits opsA.toList i 3 j=false→disj E Ej=true)→ClosedL opsA listed→
      i∈Region.ready .any opsA listed→Can says tt opsA.toList o E g→AnyD says tt opsA Es Fi fuel (listed.setIfInBounds i true) (apD E g)→AnyD says tt opsA Es Fi (fuel+1) listed g:=by
  intro fuel
  induction fuel with
  |zero=>
    intro listed g _ _ hr hC H
    refine⟨fun h=>(by rw [h]at hr;cases hr),fun j hj=>?_⟩
    by_cases hji:j=i
    · subst hji;exact⟨o,E,hi,hE,hC,H⟩
    · have:=ready_mono hj hji
      rw [H.1]at this
      cases this
  |succ fuel ih=>
    intro listed g hfree hcl hr hC H
    refine⟨fun h=>(by rw [h]at hr;cases hr),fun j hj=>?_⟩
    by_cases hji:j=i
    · subst hji;exact⟨o,E,hi,hE,hC,H⟩
    obtain⟨oj,Ej,hoj,hEj,hCj,Hj⟩:=H.2 j (ready_mono hj hji)
    obtain⟨hjun,oj',hoj',hall⟩:=mem_ready.1 hj
    rw [hoj]at hoj';cases hoj'
    have hun:listed.getD i false=false:=by
      have h0:=(mem_ready.1 hr).1
      rcases Nat.lt_or_ge i listed.size with h'|h'
      · simpa [Array.getD_eq_getD_getElem?,h']using h0
      · simp [Array.getD_eq_getD_getElem?,Array.getElem?_eq_none h']
    have hnot:waits opsA.toList i 3 j=false:=by
      rw [Bool.eq_false_iff]
      intro hw
      rw [waits]at hw
      have hl:opsA.toList[j]? = some oj:=by simpa using hoj
      simp only [hl]at hw
      obtain⟨e,he,hb⟩:=List.any_eq_true.1 hw
      simp only [Bool.and_eq_true,Bool.or_eq_true,Nat.beq_eq]at hb
      have h1:=hall e (by simpa using he) hb.1
      rcases hb.2 with rfl|h2
      · rw [hun]at h1;cases h1
      · rw [waits_closed hcl h2 h1]at hun;cases hun
    obtain⟨d1,d2,d3,d4,d5,d6,d7,d8⟩:=disj_spec (hfree j oj Ej hoj hEj hji hjun hnot)
    obtain⟨k1,k2,_,_⟩:=okE_spec (hok i o E hi hE)
    obtain⟨l1,l2,_,_⟩:=okE_spec (hok j oj Ej hoj hEj)
    have c1:Can says tt opsA.toList oj Ej g:=by
      rcases d4 with d4|⟨e1,e2⟩
      · exact hCj.congr l1 l2 (fun t ht=>apD_slot fun hw=>sep_spec d1 hw ht) (fun q hq=>apD_box fun hw=>sep_spec d4 hw hq) (fun hm=>by rw [apD_nxt,d8 hm];rfl) apD_ids
      · exact hCj.congrD (okE_ld (hok j oj Ej hoj hEj) e2).1 (okE_ld (hok j oj Ej hoj hEj) e2).2 l1 (fun t ht=>apD_slot fun hw=>sep_spec d1 hw ht) (hC.data (hok i o E hi hE) e1)
    have c2:Can says tt opsA.toList o E (apD Ej g):=by
      have hsl:∀t,t∈E.rsl→SlotEq g (apD Ej g) t:=fun t ht=>by have:=apD_slot (E:=Ej) (g:=g) (t:=t) fun hw=>sep_spec d3 hw ht;exact⟨this.1.symm,this.2.symm⟩
      rcases d6 with d6|⟨e1,e2⟩
      · exact hC.congr k1 k2 hsl (fun q hq=>(apD_box (E:=Ej) (g:=g) (q:=q) fun hw=>sep_spec d6 hw hq).symm) (fun hm=>by rw [apD_nxt,d7 hm];rfl) apD_ids.symm
      · exact hC.congrD (okE_ld (hok i o E hi hE) e2).1 (okE_ld (hok i o E hi hE) e2).2 k1 hsl (fun q=>(c1.data (hok j oj Ej hoj hEj) e1 q).symm)
    refine⟨oj,Ej,hoj,hEj,c1,ih (listed.setIfInBounds j true) (apD Ej g) ?_ (hcl.set hj) (ready_mono hr (Ne.symm hji)) c2 ?_⟩
    · intro k ok Ek hk hEk hki hun hno
      refine hfree k ok Ek hk hEk hki ?_ hno
      by_cases hjk:j=k
      · subst hjk;exact hjun
      · rw [getD_set_ne true hjk]at hun;exact hun
    · rw [Array.setIfInBounds_comm _ _ hji]
      exact AnyD.alike hok hF (ap_comm d2 d5).symm Hj
structure Lst(n k:Nat)(listed:Array Bool):Prop where
 size:listed.size=n
 at':∀j,j<n→listed[j]? = some (decide (j<k))
theorem Lst.set{n k:Nat}{listed:Array Bool}(h:Lst n k listed):Lst n (k+1) (listed.setIfInBounds k true):=by
 refine⟨by simp [h.size],fun j hj=>?_⟩
 by_cases hjk:k=j
 ·subst hjk
  simp [h.size,hj]
 ·rw [Array.getElem?_setIfInBounds_ne hjk,h.at' j hj]
  congr 1
  have:(j<k)=(j<k+1):=by apply propext;omega
  simp [this]
end
end Go.Ab
namespace Go.Ab
section
variable {P:Program} {K:Ctx} {N:Nat} {M:Mem} {β:Nat→Option Nat} {tt:TT} {opsA:Array Oper} {Es:List EffD} {g:Rg} {w:World} {tmps:Array Value}
def SubC(Es:List EffD)(listed:Array Bool)(g:Rg):Prop:=∀x,x∈g.cenv→∃(i:Nat) (E:EffD),Es[i]? = some E∧listed.getD i false=true∧E.dst=some x.1∧E.p=x.2.1∧E.p≠[]
theorem mem_del{α:Type}:∀{l:List (Nat×α)} {t:Nat} {x:Nat×α},x∈del l t→x∈l
 |[],_,_,h=>by simp [del]at h
 |(j,y)::l,t,x,h=>by
  simp only [del]at h
  rw [Bool.cond_eq_ite]at h
  split at h
  ·exact List.mem_cons_of_mem _ (mem_del h)
  ·rcases List.mem_cons.1 h with rfl|h
   ·simp
   ·exact List.mem_cons_of_mem _ (mem_del h)
theorem SubC.ap{listed:Array Bool}{i:Nat}{E:EffD}(hE:Es[i]? = some E)(hi:i<listed.size)(h:SubC Es listed g):SubC Es (listed.setIfInBounds i true) (apD E g):=by
 have h':SubC Es (listed.setIfInBounds i true) g:=fun x hx=>by
  obtain⟨j,E',h1,h2,h3⟩:=h x hx
  exact⟨j,E',h1,getD_set_true h2,h3⟩
 intro x hx
 unfold apD at hx
 cases hd:E.dst with
 |none=>simp only [hd]at hx;exact h' x hx
 |some t=>
  simp only [hd]at hx
  cases hp:E.p with
  |nil=>simp only [hp]at hx;exact h' x (mem_del hx)
  |cons y p=>
   simp only [hp]at hx
   cases he:E.f.e with
   |none=>simp only [he]at hx;exact h' x hx
   |some e=>
    simp only [he]at hx
    rcases List.mem_cons.1 hx with rfl|hx
    ·exact⟨i,E,hE,by simp [hi],by simp [hd],by simp [hp],by simp [hp]⟩
    ·exact h' x (mem_del hx)
end
def findD(says:CallSays)(tt:TT)(ops:List Oper)(g:Rg)(o:Oper)(rs:List RS):Option EffD:=
 match guardPath ops g o with
 |none=>none
 |some p=>match step1 says tt ops {g with rs:=rs} p o with
  |some (.go f)=>some {dst:=o.dst,p,f,rb:=readsH tt g p o,rsl:=opSlots ops o++p.map (·.1),mb:=makesBox o,rs,ld:=ldOf o rs}
  |_=>none
def runDs(says:CallSays)(tt:TT)(ops:List Oper):List Oper→List (List RS)→Rg→Option (List EffD×Rg×List Prop)
 |[],[],g=>some ([],g,[])
 |o::l,rs::rss,g=>match findD says tt ops g o rs with
  |some E=>match runDs says tt ops l rss (apD E g) with
   |some (Es,g',ob)=>some (E::Es,g',ob++E.f.ob.map (under g E.p))
   |none=>none
  |none=>none
 |_,_,_=>none
section
variable {says:CallSays} {tt:TT} {ops:List Oper}
end
section
variable {P:Program} {N E:Nat} {st:St} {tt:TT}
theorem Alike.sim{K:Ctx}{M:Mem}{β:Nat→Option Nat}{g1 g2:Rg}{tmps:Array Value}{w:World}(ha:Alike g1 g2)(h:SimAt P K M β {env:=g1.env,H:=g1.H,nxt:=g1.nxt} tmps w):SimAt P K M β {env:=g2.env,H:=g2.H,nxt:=g2.nxt} tmps w:=by
 have hat:∀l,({env:=g2.env,H:=g2.H,nxt:=g2.nxt}:St).at l=({env:=g1.env,H:=g1.H,nxt:=g1.nxt}:St).at l:=by
  intro l
  cases l with
  |slot s=>exact(ha.slot s).1.symm
  |cell r i=>simp only [St.at];rw [←ha.box r]
 have hb:∀r,look g2.H r=look g1.H r:=fun r=>(ha.box r).symm
 constructor
 ·intro l e hl;rw [hat]at hl;exact h.ents l e hl
 ·intro l e T hl;rw [hat]at hl;exact h.own l e T hl
 ·intro l l' e e' T T' b hl hT hl';rw [hat]at hl hl';exact h.uniq l l' e e' T T' b hl hT hl'
 ·intro l e T b r cs hl hT hbl hr;rw [hat]at hl;exact h.unbox l e T b r cs hl hT hbl (by rw [←hb r];exact hr)
 ·intro r cs hr;exact h.box r cs (by rw [←hb r];exact hr)
 ·intro r r' b cs cs' hr hr';exact h.inj r r' b cs cs' (by rw [←hb r];exact hr) (by rw [←hb r'];exact hr')
 ·intro r b hr;exact(by have:=h.lt r b hr;simpa [ha.nxt]using this)
 ·exact h.mem
 ·exact h.m0
 ·exact h.frame
 ·exact h.beta0
 ·exact h.good
 ·exact h.oo
theorem SimAt.drew{K:Ctx}{M:Mem}{β:Nat→Option Nat}{tmps:Array Value}{w:World}(h:SimAt P K M β st tmps w)(k:Nat):SimAt P K M β st tmps {w with drawn:=k}:=
 ⟨h.ents,h.own,h.uniq,h.unbox,h.box,h.inj,h.lt,h.mem,h.m0,h.frame,h.beta0,h.good,h.oo⟩
end
end Go.Ab
namespace Go.Ab
theorem AWp.scope{P:Program}{N E:Nat}{c:Code}{Q:AE→St→Prop}{st:St}(h:AWp P N E c Q st):AWp P N E (.scope c) Q st:=by
 intro K hK a w hs
 refine wp_scope_straight (wp_mono (h K hK a w hs) ?_)
 rintro e a' w' ⟨ae,st',h1,h2⟩
 cases ae with
 |normal=>obtain⟨rfl,h3⟩:=h1;exact⟨.normal,st',⟨rfl,h3⟩,h2⟩
 |exit i=>obtain⟨rfl,h3⟩:=h1;exact⟨.exit i,st',⟨rfl,h3⟩,h2⟩
 |ret=>obtain⟨rfl,h3⟩:=h1;exact⟨.ret,st',⟨rfl,h3⟩,h2⟩
 |pan x=>obtain⟨v,rfl,h3⟩:=h1;exact⟨.pan x,st',⟨v,rfl,h3⟩,h2⟩
def Sm.on{α β γ:Type}(x:α ⊕ β)(f:α→γ)(g:β→γ):γ:=
 match x with
 |.inl a=>f a
 |.inr b=>g b
def Pr.on{α β γ:Type}(x:α×β)(f:α→β→γ):γ:=f x.1 x.2
end Go.Ab
namespace Go.Ab
def GoodW(P:Program)(w:World):Prop:=(∀g,g∈goodVars P→∃ev,w.cell? ⟨g,0,none⟩=some ev∧(ev = .nilIface∨∃te pe,ev = .iface te pe))∧
 ∀ g, P.globalNamed "internal/strconv.uint64pow10" = some g → ∃ t fr, w.heap[g]? = some (.cells pow10V t fr)
section
variable {P:Program}
theorem SimAt.goodW{K:Ctx}{M:Mem}{β:Nat→Option Nat}{st:St}{tmps:Array Value}{w:World}(h:SimAt P K M β st tmps w):GoodW P w:=⟨fun g hg=>by
 obtain⟨cs,t,fr,ev,h1,h2,h3⟩:=h.good.1 g hg
 refine⟨ev,?_,h3⟩
 have:=(h.frame g _ h1).1
 unfold World.cell?
 rw [this]
 exact h2,fun g hg=>by
 obtain⟨t,fr,h1⟩:=h.good.2 g hg
 exact⟨t,fr,(h.frame g _ h1).1⟩⟩
theorem says_of_callsM {f : FuncId} {args : List D} {vsOf : World → List Value → Prop} {d : D} {fd : Func} (hfd : P.funcs[f]? = some fd) (hb : fd.body.isSome = true) (hn : decide (fd.name = "runtime.NumGoroutine") = false)
    (hargs:∀(w:World) (M:Mem) (β:Nat→Option Nat) (vs:List Value),(∀b o v,M b o=some v→w.cell? ⟨b,o,none⟩=some v)→vs.length=args.length→(∀(i:Nat) v a,vs[i]? = some v→args[i]? = some a→RepD M β v a)→vsOf w vs)
    (hcalls:∀(vs:List Value) (w:World),vsOf w vs→GoodW P w→Calls P f ⟨vs⟩ w fun e w'=>∃v,e = .returned v∧(∀M β,RepD M β v d)∧(∀(b:Nat) (ob:Obj),w.heap[b]? = some ob→w'.heap[b]? = some ob)∧(w'.os,w'.output)=(w.os,w.output)):
    saysOf P f args [] [] (.ret d none) []:=by
  refine⟨⟨fd,hfd,hb,by simpa using hn⟩,fun K w vs M β hlen hs hβ=>?_⟩
  have hv:vsOf w vs:=hargs w M β vs hs.mem hlen fun i v a hi ha=>by
    have h1:=hs.ents (.slot i) ⟨a,none⟩ (by
      simp only [St.at,envOf,look_enum0,withOwn_get,ha,Option.map_some,look])
    have h2:valAt (⟨vs⟩:Array Value) w β (.slot i)=v:=by
      simp [valAt,hi]
    rw [h2]at h1
    exact h1
  refine(hcalls vs w hv hs.goodW).mono ?_
  rintro e w' ⟨v,rfl,hrep,hheap,hoo⟩
  refine⟨.ret d none,[],v,M,β,⟨rfl,rfl⟩,rfl,?_⟩
  have hcell:∀b o v,w.cell? ⟨b,o,none⟩=some v→w'.cell? ⟨b,o,none⟩=some v:=by
    intro b o v h
    unfold World.cell? at h ⊢
    cases hb:w.heap[b]? with
    |none=>simp [hb]at h
    |some ob=>rw [hheap b ob hb];rw [hb]at h;exact h
  constructor
  · intro l e hl
    cases l with
    |slot s=>
      simp only [St.at,resEnv,look_cons]at hl
      split at hl
      · rename_i h0;subst h0;cases hl
        exact hrep M β
      · simp [look]at hl
    |cell r i=>simp [St.at,enumFrom',look]at hl
  · intro l e T hl hT
    cases l with
    |slot s=>
      simp only [St.at,resEnv,look_cons]at hl
      split at hl
      · cases hl;cases hT
      · simp [look]at hl
    |cell r i=>simp [St.at,enumFrom',look]at hl
  · intro l l' e e' T T' b hl hT
    cases l with
    |slot s=>
      simp only [St.at,resEnv,look_cons]at hl
      split at hl
      · cases hl;cases hT
      · simp [look]at hl
    |cell r i=>simp [St.at,enumFrom',look]at hl
  · intro l e T b r cs hl hT hb hr;simp [enumFrom',look]at hr
  · intro r cs hr;simp [enumFrom',look]at hr
  · intro r r' b cs cs' hr;simp [enumFrom',look]at hr
  · exact hs.lt
  · exact fun b o v h=>hcell b o v (hs.mem b o v h)
  · exact hs.m0
  · exact fun b ob h=>⟨hheap b ob (hs.frame b ob h).1,(hs.frame b ob h).2⟩
  · exact hs.beta0
  · exact hs.good
  · exact hoo.trans hs.oo
theorem says_of_calls {f : FuncId} {args : List D} {vsOf : List Value → Prop} {d : D} {fd : Func} (hfd : P.funcs[f]? = some fd) (hb : fd.body.isSome = true) (hn : decide (fd.name = "runtime.NumGoroutine") = false)
    (hargs:∀(M:Mem) (β:Nat→Option Nat) (vs:List Value),vs.length=args.length→(∀(i:Nat) v a,vs[i]? = some v→args[i]? = some a→RepD M β v a)→vsOf vs)
    (hcalls:∀(vs:List Value) (w:World),vsOf vs→GoodW P w→Calls P f ⟨vs⟩ w fun e w'=>∃v,e = .returned v∧(∀M β,RepD M β v d)∧(∀(b:Nat) (ob:Obj),w.heap[b]? = some ob→w'.heap[b]? = some ob)∧(w'.os,w'.output)=(w.os,w.output)):
    saysOf P f args [] [] (.ret d none) []:=
  says_of_callsM (vsOf:=fun _ vs=>vsOf vs) hfd hb hn (fun _ M β vs _=>hargs M β vs) hcalls
end
end Go.Ab
namespace Go.Ab
def run0(says:CallSays)(tt:TT)(N:Nat)(ops:List Oper)(rs:List RS)(st:St):Option Fin:=
 match runOps says tt N ops ops {env:=st.env,cenv:=[],H:=st.H,nxt:=st.nxt,rs,ob:=[]} with
 |some (.go g)=>match g.rs with
  |[]=>some (.go {env:=g.env,H:=g.H,nxt:=g.nxt} g.ob)
  |_=>none
 |some (.pan x st ob)=>some (.pan x st ob)
 |none=>none
def stOf:Option Fin→St
 |some (.go st _)=>st
 |some (.pan _ st _)=>st
 |none=>{env:=[],H:=[],nxt:=0}
def obOf:Option Fin→Option (List Prop)
 |some (.go _ ob)=>some ob
 |_=>none
theorem SimAt.up{P:Program}{K:Ctx}{M:Mem}{β:Nat→Option Nat}{st:St}{tmps:Array Value}{w:World}(h:SimAt P K M β st tmps w)(k:Nat):SimAt P K M β {env:=st.env,H:=st.H,nxt:=st.nxt+k} tmps w:=
 ⟨h.ents,h.own,h.uniq,h.unbox,h.box,h.inj,(fun r b hb=>Nat.lt_of_lt_of_le (h.lt r b hb) (Nat.le_add_right _ _)),h.mem,h.m0,h.frame,h.beta0,h.good,h.oo⟩
section
variable {P:Program} {N E:Nat} {st:St} {tt:TT}
theorem AWp.rg{id:Nat}{opsA:Array Oper}{Q:AE→St→Prop}(htt:TTok P tt=true)(rs:List RS){ps:List Prop}(hr:obOf (run0 (saysC P) tt N opsA.toList rs st)=some ps)(hob:AllP ps)
    (hQ:Q .normal (stOf (run0 (saysC P) tt N opsA.toList rs st))):AWp P N E (.region id opsA false) Q st:=by
  rintro K hK a w ⟨_,hd,hsz,M,β,hsim⟩
  obtain⟨tmps,ds⟩:=a
  simp only at hd hsz
  subst hd
  have hG:SimG P K N M β {env:=st.env,cenv:=[],H:=st.H,nxt:=st.nxt,rs:=rs,ob:=[]} tmps w:=⟨hsim,hsz,(fun _ _ h=>by simp [look]at h),fun _ _ _ h=>by simp [look]at h⟩
  refine wp_region ?_
  unfold run0 at hr hQ
  have hlen:List.range opsA.size=List.range' 0 opsA.toList.length:=by rw [List.range_eq_range'];simp
  rw [hlen]
  split at hr
  · rename_i g hrun
    split at hr
    case h_2=>cases hr
    rename_i hrs
    simp only [obOf,Option.some.injEq]at hr
    subst hr
    rw [hrun]at hQ
    simp only [hrs,stOf]at hQ
    refine runOps_wp htt rfl (fin:=.go g) hob.mem ?_ opsA.toList 0 _ tmps w M β (fun j=>by simp) hG hrun
    intro tmps' w' M' β' h'
    exact⟨.normal,_,⟨rfl,rfl,h'.size,M',β',h'.sim⟩,hQ⟩
  · cases hr
  · cases hr
theorem AWp.cnd{α:Type}{b:Bool}{x y:Option α}{r:Option α}(h:(bif b then x else y)=r){c:Nat}{cx cy:Code}{Q:AE→St→Prop}(hc:(look st.env c).map (·.d)=some (.v (.bool b)))
    (ht:x=r→AWp P N E cx Q st) (hf:y=r→AWp P N E cy Q st):AWp P N E (.cond (.tmp c) cx cy) Q st:=by
  simp only [Option.map_eq_some_iff]at hc
  obtain⟨⟨d,own⟩,he,rfl⟩:=hc
  exact AWp.cond b own he (fun hb=>ht (by subst hb;exact h)) (fun hb=>hf (by subst hb;exact h))
end
end Go.Ab
namespace Go.Ab
def ModeIs(M:Mem):Option V→FrameMode→Prop
 |none,m=>m = .returning
 |some x,m=>∃v,m = .panicking [{v,recovered:=false}]∧RepV M v x
def DCalls(P:Program)(fd:FuncId)(args:List D)(H:List (List Ent))(x:Option V)(R:List (List Ent)→Prop):Prop:=
 ∀(K:Ctx) (w:World) (vs:List Value) (M:Mem) (β:Nat→Option Nat) (mode:FrameMode),vs.length=args.length→
  SimAt P K M β {env:=envOf args [],H:=enumFrom' 0 H,nxt:=H.length} ⟨vs⟩ w→(∀r b,β r=some b→K.β0 r=some b)→ModeIs M x mode→
  CallsD P fd ⟨vs⟩ mode w fun e u' w'=>∃v H' M' β',e = .returned v∧settle u' = .returning∧R H'∧SimAt P K M' β' {env:=resEnv (.ret (.tup []) none),H:=enumFrom' 0 H',nxt:=H.length} #[v] w'
section
variable {P:Program} {K:Ctx} {M:Mem} {β:Nat→Option Nat} {st:St} {tmps:Array Value} {w:World} {tt:TT}
theorem ModeIs.not_run{x:Option V}{m:FrameMode}(h:ModeIs M x m):m ≠ .run:=by
 cases x with
 |none=>intro hm;rw [hm]at h;cases h
 |some x=>obtain⟨v,h1,_⟩:=h;intro hm;rw [hm]at h1;cases h1
theorem ModeIs.mono{M':Mem}(hM:M.le M'){x:Option V}{m:FrameMode}(h:ModeIs M x m):ModeIs M' x m:=by
 cases x with
 |none=>exact h
 |some x=>obtain⟨v,h1,h2⟩:=h;exact⟨v,h1,h2.mono hM⟩
def Fin1(P:Program)(tt:TT)(E:Nat)(rs:List ResultVar)(fd:FuncId)(ds:List D)(R:Out→List (List Ent)→Prop)(x:Option V)(st:St):Prop:=
 ∃(ρ:List Nat) (bs H1:List (List Ent)) (args':List D) (RH:List (List Ent)→Prop),nodupB ρ=true∧boxes st.H ρ=some bs∧renBoxes (idx ρ) bs=some H1∧renL (idx ρ) ds=some args'∧DCalls P fd args' H1 x RH∧
  ∀H2,RH H2→∃H2' o H',H2.length=ρ.length∧renBoxes (fun j=>ρ[j]?) H2=some H2'∧Ab.leave tt E rs {env:=st.env,H:=zipR ρ H2'++st.H,nxt:=st.nxt}=some (o,H')∧R o (eraB H')
theorem leaves_of{fn:Func}{E:Nat}(htt:TTok P tt=true)(hK:∀r b,K.β0 r=some b→r<E)(hs:SimAt P K M β st tmps w){fd:FuncId}{ds:List D}{vs:List Value}(hlen:vs.length=ds.length)(hv:∀(i:Nat) v d,vs[i]? = some v→ds[i]? = some d→RepD M β v d)
    {x : Option V} {mode : FrameMode} (hm : ModeIs M x mode) {f : Func} (hf : P.funcs[fd]? = some f) (hb : f.body.isSome = true) (hname : decide (f.name = "runtime.NumGoroutine") = false) {R : Out → List (List Ent) → Prop} (hfin : Fin1 P tt E fn.results.toList fd ds R x st) :
    Leaves P fn tmps (fun e w'=>∃o H' v M' β',R o H'∧e=endOf o v∧SimAt P K M' β' {env:=resEnv o,H:=enumFrom' 0 H',nxt:=E} #[v] w') [{target:=.fn (.func fd) ⟨vs⟩,args := #[]}] mode w:=by
  obtain⟨ρ,bs,H1,args',RH,hn,hbs,hH1,hargs,hd,hR⟩:=hfin
  have hbn:f.body≠none:=by intro hh;rw [hh]at hb;cases hb
  have hnm : f.name ≠ "runtime.NumGoroutine" := by simpa using hname
  refine leaves_cons (f:=fd) (args:=⟨vs⟩) hm.not_run (by simp [invoke,callFunc,hf,hbn,hnm]) ?_
  have hc:=callee_sim (hd:=[]) hs hn hbs hH1 hlen hv hargs ⟨by simp,by simp,by simp⟩
  have hl1:H1.length=ρ.length:=by rw [(renBoxes_get hH1).1,(boxes_get hbs).1]
  refine(hd (callCtx M β st tmps w ρ []) w vs M _ mode (by rw [hlen,renL_len hargs]) hc (fun r b h=>h) hm).mono ?_
  rintro e u' w' ⟨v,H',M',β',rfl,hu,hRH,hsim⟩
  obtain⟨H2',o,H3,h1,h2,h3,h4⟩:=hR H' hRH
  rw [hl1]at hsim
  obtain⟨hM,hsim2,_,_⟩:=caller_sim hs hn hbs h2 h1 hsim
  dsimp only
  rw [hu]
  obtain⟨v2,h5,v',M2,β2,h6,h7⟩:=fin_leave htt hK hsim2 h3
  exact⟨v2,h5,o,eraB H3,v',M2,β2,h4,h6,h7.era⟩
def DWp(P:Program)(_tt:TT)(fn:Func)(E:Nat)(c:Code)(R:Out→List (List Ent)→Prop)(st:St):Prop:=
 ∀(K:Ctx),K.ds=[]→(∀r b,K.β0 r=some b→r<E)→∀(a:Act) (w:World),SimE P K fn.ntmps .normal st .normal a w→
  c.wp P (bodyPostD P fn fun e w'=>∃o H' v M' β',R o H'∧e=endOf o v∧SimAt P K M' β' {env:=resEnv o,H:=enumFrom' 0 H',nxt:=E} #[v] w') a w
def DPost(P:Program)(tt:TT)(fn:Func)(E:Nat)(y:Code)(R:Out→List (List Ent)→Prop):AE→St→Prop
 |.normal,st=>DWp P tt fn E y R st
 |.ret,st=>∃o H',Ab.leave tt E fn.results.toList st=some (o,H')∧R o (eraB H')
 |_,_=>False
theorem DWp.seq{fn:Func}{E:Nat}{x y:Code}{R:Out→List (List Ent)→Prop}(htt:TTok P tt=true)(h:AWp P fn.ntmps E x (DPost P tt fn E y R) st):DWp P tt fn E (.seq x y) R st:=by
 intro K hds hK a w hs
 refine wp_seq (wp_mono (h K hK a w hs) ?_)
 rintro e a' w' ⟨ae,st',h1,h2⟩
 cases ae with
 |normal=>obtain⟨rfl,h3⟩:=h1;exact h2 K hds hK a' w' ⟨rfl,h3⟩
 |ret=>
  obtain⟨rfl,hd,_,M',β',hsim⟩:=h1
  obtain⟨o,H',h3,h4⟩:=h2
  obtain⟨v,h5,v',M2,β2,h6,h7⟩:=fin_leave htt hK hsim h3
  show Leaves P fn a'.tmps _ a'.defers .returning w'
  rw [hd,hds]
  exact⟨v,h5,o,eraB H',v',M2,β2,h4,h6,h7.era⟩
 |exit i=>exact h2.elim
 |pan x=>exact h2.elim
def LPost(P:Program)(tt:TT)(E:Nat)(rs:List ResultVar)(fd:FuncId)(ds:List D)(R:Out→List (List Ent)→Prop):AE→St→Prop
 |.normal,st |.ret,st=>Fin1 P tt E rs fd ds R none st
 |.pan x,st=>Fin1 P tt E rs fd ds R (some x) st
 |.exit _,_=>False
theorem DWp.defer{fn:Func}{E:Nat}{id:Nat}{opsA:Array Oper}{o1 o2:Oper}{y:Code}{R:Out→List (List Ent)→Prop}(htt:TTok P tt=true)(hops:opsA = #[o1,o2]){t:Nat}{fd:FuncId}{caps:Array Operand}{c:Call}
    (h1:o1.op = .makeFunc (.func fd) #[] caps) (h2:o1.dst=some t) (h3:o1.guard=none) (h4:o2.op = .defer c) (h5:o2.dst=none) (h6:o2.guard=none) (h7:c.callee = .value (.tmp t)) (h8:c.args = #[]) (ht:Nat.blt t fn.ntmps=true)
    {ds : List D} (hcaps : mapM' (rd st.env [] [] tt 0) caps.toList = some ds) (_hE : Nat.ble E st.nxt = true) {f : Func} (hf : P.funcs[fd]? = some f) (hb : f.body.isSome = true) (hname : decide (f.name = "runtime.NumGoroutine") = false)
    (hds:belowL st.nxt ds=true)
    (h:AWp P fn.ntmps st.nxt y (LPost P tt E fn.results.toList fd ds R) {env:=del st.env t,H:=st.H,nxt:=st.nxt}):DWp P tt fn E (.seq (.region id opsA false) y) R st:=by
  rintro K hKds hK a w ⟨_,hd,hsz,M,β,hsim⟩
  obtain⟨tmps,defers⟩:=a
  simp only at hd hsz
  rw [hKds]at hd
  subst hd
  have hlt:t<tmps.size:=by rw [hsz];simpa using ht
  -- the captured values
  obtain⟨hl1,hl2⟩:=mapM'_get hcaps
  have hG:SimG P K fn.ntmps M β {env:=st.env,cenv:=[],H:=st.H,nxt:=st.nxt,rs:=[],ob:=[]} tmps w:=⟨hsim,hsz,(fun _ _ h=>by simp [look]at h),fun _ _ _ h=>by simp [look]at h⟩
  have hvs:∀(i:Nat) v d,(caps.toList.map (⟨tmps,[]⟩:Act).eval)[i]? = some v→ds[i]? = some d→RepD M β v d:=by
    intro i v d hv hd
    rw [List.getElem?_map,Option.map_eq_some_iff]at hv
    obtain⟨x,hx,rfl⟩:=hv
    exact rd_rep (ds:=[]) (p:=[]) hG (fun x hx=>by cases hx) (hl2 i x d hx hd)
  have hlen:(caps.toList.map (⟨tmps,[]⟩:Act).eval).length=ds.length:=by simp at hl1 ⊢;omega
  -- the frame behind the region
  have hsim1:SimAt P K M β {env:=del st.env t,H:=st.H,nxt:=st.nxt} (tmps.setIfInBounds t (.func (.func fd) #[] ⟨caps.toList.map (⟨tmps,[]⟩:Act).eval⟩)) w:=hsim.drop
  let K':Ctx:={M0:=M,F:=K.F,β0:=fun r=>if r<st.nxt then β r else none,oo:=K.oo,ds:=[{target:=.fn (.func fd) ⟨caps.toList.map (⟨tmps,[]⟩:Act).eval⟩,args := #[]}]}
  have hsim2:SimAt P K' M β {env:=del st.env t,H:=st.H,nxt:=st.nxt} (tmps.setIfInBounds t (.func (.func fd) #[] ⟨caps.toList.map (⟨tmps,[]⟩:Act).eval⟩)) w:=
    ⟨hsim1.ents,hsim1.own,hsim1.uniq,hsim1.unbox,hsim1.box,hsim1.inj,hsim1.lt,hsim1.mem,Mem.le_refl _,(fun b ob hF=>⟨(hsim1.frame b ob hF).1,fun _=>rfl⟩),(fun r b hb=>by
      simp only [K']at hb;split at hb
      · exact hb
      · cases hb),hsim1.good,hsim1.oo⟩
  have hback:∀{M':Mem} {β':Nat→Option Nat} {st':St} {tmps':Array Value} {w':World},SimAt P K' M' β' st' tmps' w'→SimAt P K M' β' st' tmps' w':=by
    intro M' β' st' tmps' w' h'
    exact⟨h'.ents,h'.own,h'.uniq,h'.unbox,h'.box,h'.inj,h'.lt,h'.mem,Mem.le_trans hsim.m0 h'.m0,(fun b ob hF=>⟨(h'.frame b ob hF).1,fun o=>((h'.frame b ob hF).2 o).trans ((hsim.frame b ob hF).2 o)⟩),(fun r b hb=>h'.beta0 r b (by
      have h9:=hsim.beta0 r b hb
      have h10:=hsim.lt r b h9
      simp only [K'];rw [if_pos h10];exact h9)),h'.good,h'.oo⟩
  have hβ:∀{M':Mem} {β':Nat→Option Nat} {st':St} {tmps':Array Value} {w':World},SimAt P K' M' β' st' tmps' w'→∀r,r<st.nxt→∀b,β r=some b→β' r=some b:=fun h' r hr b hb=>h'.beta0 r b (by simp only [K'];rw [if_pos hr];exact hb)
  refine wp_seq (wp_region ?_)
  subst hops
  have e1:(execOp (Act.eval ⟨tmps,[]⟩) o1).run P w = .ok (.value (.func (.func fd) #[] ⟨caps.toList.map (⟨tmps,[]⟩:Act).eval⟩)) w:=by
    simp only [execOp,h1,Instr.makeFunc]
    refine runv _ ?_
    simp
    congr 1
    apply Array.ext'
    simp
  have e2:(execOp (Act.eval ⟨tmps.setIfInBounds t (.func (.func fd) #[] ⟨caps.toList.map (⟨tmps,[]⟩:Act).eval⟩),[]⟩) o2).run P w = .ok (.defer {target:=.fn (.func fd) ⟨caps.toList.map (⟨tmps,[]⟩:Act).eval⟩,args := #[]}) w:=by
    simp [execOp,h4,resolve,h7,h8,Deferred.ofValue,Act.eval,hlt]
  show wpOps P #[o1,o2] _ (List.range 2) ⟨tmps,[]⟩ w
  simp only [List.range,List.range.loop,wpOps]
  have hw1:∀tm,Region.wanted o1 (yielded #[o1,o2] tm)=true:=fun tm=>by simp [Region.wanted,h3]
  have hw2:∀tm,Region.wanted o2 (yielded #[o1,o2] tm)=true:=fun tm=>by simp [Region.wanted,h6]
  simp only [show(#[o1,o2]:Array Oper)[0]? = some o1 from rfl,show(#[o1,o2]:Array Oper)[1]? = some o2 from rfl,hw1,hw2,if_true]
  refine .inl ?_
  unfold Oper.wp
  rw [e1,Oper.upon_value,h2]
  refine .inl ?_
  have e2':(execOp ((⟨tmps,[]⟩:Act).put (some t) (.func (.func fd) #[] ⟨caps.toList.map (⟨tmps,[]⟩:Act).eval⟩)).eval o2).run P w = .ok (.defer {target:=.fn (.func fd) ⟨caps.toList.map (⟨tmps,[]⟩:Act).eval⟩,args := #[]}) w:=e2
  rw [e2',Oper.upon_defer,h5]
  show y.wp P _ ⟨tmps.setIfInBounds t _,[_]⟩ w
  have hE':∀r b,K'.β0 r=some b→r<st.nxt:=by
    intro r b hb
    simp only [K']at hb
    split at hb
    · assumption
    · cases hb
  refine wp_mono (h K' hE' _ w ⟨rfl,rfl,by simpa using hsz,M,β,hsim2⟩) ?_
  rintro e a' w' ⟨ae,st',g1,g2⟩
  have hv':∀{M':Mem} {β':Nat→Option Nat} {st':St} {tmps':Array Value} {w':World},SimAt P K' M' β' st' tmps' w'→∀(i:Nat) v d,(caps.toList.map (⟨tmps,[]⟩:Act).eval)[i]? = some v→ds[i]? = some d→RepD M' β' v d:=by
    intro M' β' st' tmps' w' h' i v d hv hd
    have hM:M.le M':=h'.m0
    exact((hvs i v d hv hd).mono hM).keep' (fun r hr b hb=>hβ h' r hr b hb) (belowL_get hds hd)
  cases ae with
  |normal=>
    obtain⟨rfl,hd,_,M',β',hs⟩:=g1
    show Leaves P fn a'.tmps _ a'.defers .returning w'
    rw [hd]
    exact leaves_of htt hK (hback hs) hlen (hv' hs) (x:=none) rfl hf hb hname g2
  |ret=>
    obtain⟨rfl,hd,_,M',β',hs⟩:=g1
    show Leaves P fn a'.tmps _ a'.defers .returning w'
    rw [hd]
    exact leaves_of htt hK (hback hs) hlen (hv' hs) (x:=none) rfl hf hb hname g2
  |exit i=>exact g2.elim
  |pan x=>
    obtain⟨v,rfl,hd,M',β',hrep,hs⟩:=g1
    show Leaves P fn a'.tmps _ a'.defers (.panicking _) w'
    rw [hd]
    exact leaves_of htt hK (hback hs) hlen (hv' hs) (x:=some x) ⟨v,rfl,hrep⟩ hf hb hname g2
end
end Go.Ab
namespace Go.Ab
section
variable {P:Program} {K:Ctx} {N E:Nat} {st:St} {tt:TT} {opsA:Array Oper} {says:CallSays}
end
section
variable {P:Program} {tt:TT} {fn:Func} {E:Nat} {st:St}
def finC(tt:TT)(E:Nat)(rs:List ResultVar)(ds:List D)(ρ:List Nat)(H2:List (List Ent))(st:St):Option (List (List Ent)×List D×Out×List (List Ent)):=
  bif !nodupB ρ then none else match boxes st.H ρ,renL (idx ρ) ds,renBoxes (fun j=>ρ[j]?) H2 with
    |some bs,some args',some H2'=>bif Nat.beq H2.length ρ.length then match renBoxes (idx ρ) bs,Ab.leave tt E rs {env:=st.env,H:=zipR ρ H2'++st.H,nxt:=st.nxt} with
        |some H1,some (o,H')=>some (H1,args',o,eraB H')
        |_,_=>none
      else none
    |_,_,_=>none
theorem Fin1.of{rs:List ResultVar}{fd:FuncId}{ds args':List D}{x:Option V}(ρ:List Nat){H1 H2 Hf:List (List Ent)}{o:Out}(d:DCalls P fd args' H1 x fun H'=>H'=H2)(hc:finC tt E rs ds ρ H2 st=some (H1,args',o,Hf)):
    Fin1 P tt E rs fd ds (fun o' H'=>o'=o∧H'=Hf) x st:=by
  unfold finC at hc
  rw [Bool.cond_eq_ite]at hc
  split at hc
  · cases hc
  rename_i hn
  split at hc
  case h_2=>cases hc
  rename_i bs a H2' hbs ha hH2
  rw [Bool.cond_eq_ite]at hc
  split at hc
  case isFalse=>cases hc
  rename_i hl
  split at hc
  case h_2=>cases hc
  rename_i H1' o' H' hH1 hlv
  simp only [Option.some.injEq,Prod.mk.injEq]at hc
  obtain⟨rfl,rfl,rfl,rfl⟩:=hc
  refine⟨ρ,bs,H1',a,_,(by simpa using hn),hbs,hH1,ha,d,fun H3 h3=>?_⟩
  subst h3
  exact⟨H2',o',H',(by simpa using hl),hH2,hlv,rfl,rfl⟩
end
end Go.Ab
namespace Go.Ab
section
variable {P:Program}
theorem setCell_heap{w:World}{b off:Nat}{vs:List Value}{T:TypeId}{fz:Nat×Nat}(h:w.heap[b]? = some (.cells ⟨vs⟩ T fz))(u:Value):
    (w.setCell ⟨b,off,none⟩ u).heap[b]? = some (.cells ⟨vs.set off u⟩ T fz):=by
  have hlt:=lt_of_heap h
  have h':w.heap[b] = .cells ⟨vs⟩ T fz:=by simpa [Array.getElem?_eq_getElem hlt]using h
  show(w.heap.modify b _)[b]? = _
  rw [Array.getElem?_eq_getElem (by simpa using hlt),Array.getElem_modify_self,h']
  simp
theorem setCell_other{w:World}{b off:Nat}{u:Value}(k:Nat)(h:k≠b):(w.setCell ⟨b,off,none⟩ u).heap[k]? = w.heap[k]? := Go.RowKit.Below.heap_setCell w ⟨b,off,none⟩ u k h
end
end Go.Ab
namespace Go.Ab
section
variable {P:Program}
end
end Go.Ab
namespace Go.Ab
def memOf(w:World):Mem:=fun b o=>w.cell? ⟨b,o,none⟩
def RC(w:World)(vs:List Value)(cs:List V):Prop:=
 vs.length=cs.length∧(∀v,v∈vs→v.oneCell'=true)∧∀(i:Nat) v c,vs[i]? = some v→cs[i]? = some c→RepV (memOf w) v c
theorem RC.nil{w:World}:RC w [] []:=⟨rfl,(fun v h=>by cases h),fun i v c h=>by simp at h⟩
theorem RC.one{w:World}{v:Value}{c:V}(h1:v.oneCell'=true)(h:RepV (memOf w) v c):RC w [v] [c]:=
 ⟨rfl,(fun u hu=>by obtain rfl:=List.mem_singleton.1 hu;exact h1),fun i u d hu hd=>by
  match i with
  | 0=>cases hu;cases hd;exact h
  |i+1=>simp at hu⟩
theorem RC.app{w:World}{vs us:List Value}{cs ds:List V}(h:RC w vs cs)(h':RC w us ds):RC w (vs++us) (cs++ds):=by
 refine⟨by simp [h.1,h'.1],fun v hv=>?_,fun i v c hv hc=>?_⟩
 ·rcases List.mem_append.1 hv with hv|hv
  ·exact h.2.1 v hv
  ·exact h'.2.1 v hv
 ·by_cases hi:i<vs.length
  ·rw [List.getElem?_append_left hi]at hv
   rw [List.getElem?_append_left (by rw [←h.1];exact hi)]at hc
   exact h.2.2 i v c hv hc
  ·rw [List.getElem?_append_right (by omega)]at hv
   rw [List.getElem?_append_right (by rw [←h.1];omega),←h.1]at hc
   exact h'.2.2 _ v c hv hc
theorem RC.agg{w:World}{vs:List Value}{cs:List V}(h:RC w vs cs):RepV (memOf w) (.agg ⟨vs⟩) (.agg cs):=.agg vs cs h.1 h.2.1 h.2.2
section
variable {H:Type} {enc:TypeId×Value→H} {P:Program} {w:World}
end
end Go.Ab
namespace Go.Ab
section
variable {P:Program} {K:Ctx} {N E:Nat} {M:Mem} {β:Nat→Option Nat} {st st':St} {tmps:Array Value} {w:World}
mutual
def fzD(r:Nat)(x:V):D→D
 |.v y=>.v y
 |.ptr q off=>bif Nat.beq q r&&Nat.beq off 0 then .pin x else .ptr q off
 |.sptr q off u=>.sptr q off u
 |.pin y=>.pin y
 |.full k n g=>.full k n g
 |.ex u x=>.ex u x
 |.fn f cs=>.fn f (fzL r x cs)
 |.agg cs=>.agg (fzL r x cs)
 |.tup cs=>.tup (fzL r x cs)
def fzL(r:Nat)(x:V):List D→List D
 |[]=>[]
 |d::l=>fzD r x d::fzL r x l
end
theorem fzL_get(r:Nat)(x:V):∀(l:List D) (i:Nat),(fzL r x l)[i]? = (l[i]?).map (fzD r x)
 |[],i=>by simp [fzL]
 |d::l,0=>by simp [fzL]
 |d::l,i+1=>by simp only [fzL,List.getElem?_cons_succ];exact fzL_get r x l i
theorem fzL_len(r:Nat)(x:V):∀l:List D,(fzL r x l).length=l.length
 |[]=>rfl
 |d::l=>by simp only [fzL,List.length_cons,fzL_len r x l]
theorem RepD.fz{M':Mem}(hM:M.le M'){r b:Nat}{x:V}{u:Value}(hb:β r=some b)(hx:x.isAgg=false)(hu:M' b 0=some u)(h1:u.oneCell'=true)(hr:RepV M' u x){v:Value}{d:D}(h:RepD M β v d):RepD M' β v (fzD r x d):=by
 induction h with
 |v u x h=>exact .v u x (h.mono hM)
 |ptr q off b' h=>
  simp only [fzD]
  cases hc:Nat.beq q r&&Nat.beq off 0 with
  |false=>exact .ptr q off b' h
  |true=>
   simp only [Bool.and_eq_true,Nat.beq_eq]at hc
   obtain⟨rfl,rfl⟩:=hc
   rw [hb]at h
   cases h
   have hcx:=cells_one hx
   refine .pin b 0 x (fun _=>u) (fun j hj=>?_) (fun j hj=>h1) (fun j c hc=>?_)
   ·rw [hcx]at hj
    simp at hj
    subst hj
    exact hu
   ·rw [hcx]at hc
    cases j with
    |zero=>simp at hc;subst hc;exact hr
    |succ j=>simp at hc
 |snil q off t=>exact .snil q off t
 |sptr q off b' t h=>exact .sptr q off b' t h
 |pin b off x val hm h1 h=>exact .pin b off x val (fun j hj=>hM _ _ _ (hm j hj)) h1 (fun j c hc=>(h j c hc).mono hM)
 |full base k n get h=>exact .full base k n get (h.mono hM)
 |ex u x h hx=>exact .ex u x (h.mono hM) hx
 |fn f vs cs hn _ ih=>
  simp only [fzD]
  refine .fn f vs _ (by rw [fzL_len];exact hn) fun i v c hv hc=>?_
  rw [fzL_get]at hc
  simp only [Option.map_eq_some_iff]at hc
  obtain⟨c0,h0,rfl⟩:=hc
  exact ih i v c0 hv h0
 |agg vs cs hn h1 _ ih=>
  simp only [fzD]
  refine .agg vs _ (by rw [fzL_len];exact hn) h1 fun i v c hv hc=>?_
  rw [fzL_get]at hc
  simp only [Option.map_eq_some_iff]at hc
  obtain⟨c0,h0,rfl⟩:=hc
  exact ih i v c0 hv h0
 |tup vs cs hn _ ih=>
  simp only [fzD]
  refine .tup vs _ (by rw [fzL_len];exact hn) fun i v c hv hc=>?_
  rw [fzL_get]at hc
  simp only [Option.map_eq_some_iff]at hc
  obtain⟨c0,h0,rfl⟩:=hc
  exact ih i v c0 hv h0
def fzE(r:Nat)(x:V)(e:Ent):Ent:={d:=fzD r x e.d,own:=e.own}
def fzEnv(r:Nat)(x:V):List (Nat×Ent)→List (Nat×Ent)
 |[]=>[]
 |(t,e)::l=>(t,fzE r x e)::fzEnv r x l
def fzH(r:Nat)(x:V):List (Nat×List Ent)→List (Nat×List Ent)
 |[]=>[]
 |(t,cs)::l=>(t,cs.map (fzE r x))::fzH r x l
theorem look_fzEnv(r:Nat)(x:V):∀(l:List (Nat×Ent)) (s:Nat),look (fzEnv r x l) s=(look l s).map (fzE r x)
 |[],s=>rfl
 |(t,e)::l,s=>by
  simp only [fzEnv,look_cons]
  by_cases h:t=s
  ·simp [h]
  ·simp only [h,if_false];exact look_fzEnv r x l s
theorem look_fzH(r:Nat)(x:V):∀(l:List (Nat×List Ent)) (s:Nat),look (fzH r x l) s=(look l s).map fun cs=>cs.map (fzE r x)
 |[],s=>rfl
 |(t,cs)::l,s=>by
  simp only [fzH,look_cons]
  by_cases h:t=s
  ·simp [h]
  ·simp only [h,if_false];exact look_fzH r x l s
def frz(r:Nat)(x:V)(st:St):St:={env:=fzEnv r x st.env,H:=fzH r x (del st.H r),nxt:=st.nxt}
theorem frz_at{r:Nat}{x:V}{l:Loc}{e':Ent}(h:(frz r x st).at l=some e'):∃e,St.at {env:=st.env,H:=del st.H r,nxt:=st.nxt} l=some e∧e'=fzE r x e:=by
 cases l with
 |slot s=>
  simp only [St.at,frz,look_fzEnv,Option.map_eq_some_iff]at h ⊢
  obtain⟨e,h1,h2⟩:=h
  exact⟨e,h1,h2.symm⟩
 |cell q i=>
  simp only [St.at,frz,look_fzH,Option.bind_eq_some_iff,Option.map_eq_some_iff]at h ⊢
  obtain⟨cs,⟨cs0,h1,rfl⟩,h2⟩:=h
  rw [List.getElem?_map,Option.map_eq_some_iff]at h2
  obtain⟨e,h3,h4⟩:=h2
  exact⟨e,⟨cs0,h1,h3⟩,h4.symm⟩
theorem fzD_sptr{r:Nat}{x:V}{d:D}{q off:Nat}{u:TypeId}(h:fzD r x d = .sptr q off u):d = .sptr q off u:=by
 cases d<;>simp only [fzD]at h
 case ptr q' o'=>cases hc:Nat.beq q' r&&Nat.beq o' 0<;>rw [hc]at h<;>cases h
 all_goals first|exact h|cases h
theorem SimAt.freeze(h:SimAt P K M β st tmps w){r:Nat}{x:V}{own:Option TypeId}(hr:look st.H r=some [⟨.v x,own⟩])(hx:x.isAgg=false):∃M',SimAt P K M' β (frz r x st) tmps w:=by
 obtain⟨b,vs,T,hb,hh,hlen,hnone,hF,hone,hlies⟩:=h.box r _ hr
 obtain⟨u,rfl⟩:∃u,vs=[u]:=by
  match vs,hlen with
  |[u],_=>exact⟨u,rfl⟩
 have hdel:∀q cs,look (del st.H r) q=some cs→q≠r∧look st.H q=some cs:=by
  intro q cs hq
  rw [look_del]at hq
  split at hq
  ·cases hq
  ·rename_i hne;exact⟨fun e=>hne e.symm,hq⟩
 have h1:SimAt P K M β {env:=st.env,H:=del st.H r,nxt:=st.nxt} tmps w:=h.sub rfl (fun l e hl=>by
  cases l with
  |slot s=>exact⟨e,hl,rfl,fun _ h=>h⟩
  |cell q i=>
   simp only [St.at,Option.bind_eq_some_iff]at hl ⊢
   obtain⟨cs,h2,h3⟩:=hl
   exact⟨e,⟨cs,(hdel _ _ h2).2,h3⟩,rfl,fun _ h=>h⟩) (fun q cs hq=>⟨cs,(hdel _ _ hq).2,rfl⟩)
 have hle:M.le (commit M b 0 [u]):=commit_le fun o _=>hnone o
 have hcell:commit M b 0 [u] b 0=some u:=by simp [commit]
 have h2:SimAt P K (commit M b 0 [u]) β {env:=st.env,H:=del st.H r,nxt:=st.nxt} tmps w:=by
  refine h1.free b hF (fun q cs hq hqb=>?_) (fun l e T' hl hT hbl=>?_) (fun _ _ _=>rfl) hle (fun b' o hne=>by simp [commit,hne]) (fun o v hv=>?_)
  ·obtain⟨h3,h4⟩:=hdel _ _ hq
   exact h3 (h.inj q r b _ _ h4 hr hqb hb)
  ·have hl0:∃e0,st.at l=some e0∧e0.own=some T':=by
    cases l with
    |slot s=>exact⟨e,hl,hT⟩
    |cell q i=>
     simp only [St.at,Option.bind_eq_some_iff]at hl ⊢
     obtain⟨cs,h3,h4⟩:=hl
     exact⟨e,⟨cs,(hdel _ _ h3).2,h4⟩,hT⟩
   obtain⟨e0,h3,h4⟩:=hl0
   exact h.unbox l e0 T' b r _ h3 h4 hbl hr hb
  ·rw [cell_of_heap hh]
   unfold commit at hv
   split at hv
   ·rename_i hc
    simpa using hv
   ·rw [hnone o]at hv;cases hv
 have hrep:RepV (commit M b 0 [u]) u x:=by
  have h3:=h.ents (.cell r 0) ⟨.v x,own⟩ (by rw [St.at_of hr];rfl)
  have h4:valAt tmps w β (.cell r 0)=u:=by simp only [valAt,hb,cell_of_heap hh];simp
  rw [h4]at h3
  cases h3 with
  |v _ _ h5=>exact h5.mono hle
 refine⟨commit M b 0 [u],?_⟩
 have hbox:∀q cs',look (frz r x st).H q=some cs'→∃cs,look (del st.H r) q=some cs∧cs'=cs.map (fzE r x):=by
  intro q cs' hq
  simp only [frz,look_fzH,Option.map_eq_some_iff]at hq
  obtain⟨cs,h3,h4⟩:=hq
  exact⟨cs,h3,h4.symm⟩
 constructor
 ·intro l e' hl
  obtain⟨e,h3,rfl⟩:=frz_at hl
  exact(h2.ents l e h3).fz (Mem.le_refl _) hb hx hcell (hone u (by simp)) hrep
 ·intro l e' T' hl hT
  obtain⟨e,h3,rfl⟩:=frz_at hl
  exact h2.own l e T' h3 hT
 ·intro l l' e e' T' T'' b' hl hT hl' hT'
  obtain⟨e1,h3,rfl⟩:=frz_at hl
  obtain⟨e2,h4,rfl⟩:=frz_at hl'
  exact h2.uniq l l' e1 e2 T' T'' b' h3 hT h4 hT'
 ·intro l e T' b' q cs hl hT hbl hq
  obtain⟨e1,h3,rfl⟩:=frz_at hl
  obtain⟨cs0,h4,_⟩:=hbox q cs hq
  exact h2.unbox l e1 T' b' q cs0 h3 hT hbl h4
 ·intro q cs hq
  obtain⟨cs0,h4,rfl⟩:=hbox q cs hq
  obtain⟨b',vs',T',g1,g2,g3,g4,g5,g6,g7⟩:=h2.box q cs0 h4
  refine⟨b',vs',T',g1,g2,by simpa using g3,g4,g5,g6,fun e he q' off t hd=>?_⟩
  obtain⟨e0,he0,rfl⟩:=List.mem_map.1 he
  exact g7 e0 he0 q' off t (fzD_sptr hd)
 ·intro q q' b' cs cs' hq hq' hb1 hb2
  obtain⟨c1,h3,_⟩:=hbox q cs hq
  obtain⟨c2,h4,_⟩:=hbox q' cs' hq'
  exact h2.inj q q' b' c1 c2 h3 h4 hb1 hb2
 ·exact h2.lt
 ·exact h2.mem
 ·exact h2.m0
 ·exact h2.frame
 ·exact h2.beta0
 ·exact h2.good
 ·exact h2.oo
def oneV(H:List (Nat×List Ent))(r:Nat):Option V:=
 match look H r with
 |some [⟨.v x,_⟩]=>bif x.isAgg then none else some x
 |_=>none
theorem AWp.freeze{c:Code}{Q:AE→St→Prop}(r:Nat)(x:V)(hr:oneV st.H r=some x)(h:AWp P N E c Q (frz r x st)):AWp P N E c Q st:=by
 rintro K hK a w ⟨he,hd,hsz,M,β,hsim⟩
 unfold oneV at hr
 split at hr
 ·rename_i y own hl
  rw [Bool.cond_eq_ite]at hr
  split at hr
  ·cases hr
  ·rename_i hx
   cases hr
   obtain⟨M',hs⟩:=hsim.freeze hl (by simpa using hx)
   exact h K hK a w ⟨he,hd,hsz,M',β,hs⟩
 ·cases hr
def fzs(r:Nat)(st:St):St:=match oneV st.H r with
 |some x=>frz r x st
 |none=>st
def fzQ(r:Nat)(Q:AE→St→Prop):AE→St→Prop
 |.normal,st=>Q .normal (fzs r st)
 |.ret,st=>Q .ret (fzs r st)
 |e,st=>Q e st
theorem sim_fzs{K:Ctx}{M:Mem}{β:Nat→Option Nat}{tmps:Array Value}{w:World}(r:Nat)(h:SimAt P K M β st tmps w):∃M',SimAt P K M' β (fzs r st) tmps w:=by
 unfold fzs
 cases hx:oneV st.H r with
 |none=>exact⟨M,h⟩
 |some x=>
  unfold oneV at hx
  split at hx
  ·rename_i y own hl
   rw [Bool.cond_eq_ite]at hx
   split at hx
   ·cases hx
   ·rename_i hxa
    cases hx
    exact h.freeze hl (by simpa using hxa)
  ·cases hx
theorem AWp.fz{x:Code}{Q:AE→St→Prop}(r:Nat)(h:AWp P N E x (fzQ r Q) st):AWp P N E x Q st:=by
 intro K hK a w hs
 refine wp_mono (h K hK a w hs) ?_
 rintro e a' w' ⟨ae,st',h1,h2⟩
 cases ae with
 |normal=>
  obtain⟨g1,g2,g3,M,β,g4⟩:=h1
  obtain⟨M',g5⟩:=sim_fzs r g4
  exact⟨.normal,_,⟨g1,g2,g3,M',β,g5⟩,h2⟩
 |ret=>
  obtain⟨g1,g2,g3,M,β,g4⟩:=h1
  obtain⟨M',g5⟩:=sim_fzs r g4
  exact⟨.ret,_,⟨g1,g2,g3,M',β,g5⟩,h2⟩
 |exit i=>exact⟨.exit i,st',h1,h2⟩
 |pan x=>exact⟨.pan x,st',h1,h2⟩
def fitE(s e:Ent):Ent:=match s.own with|none=>{d:=e.d} |some _=>e
def fitEnv:List (Nat×Ent)→List (Nat×Ent)→List (Nat×Ent)
 |(_,s)::l,(t,e)::m=>(t,fitE s e)::fitEnv l m
 |_,m=>m
def fitEs:List Ent→List Ent→List Ent
 |s::l,e::m=>fitE s e::fitEs l m
 |_,m=>m
def fitH:List (Nat×List Ent)→List (Nat×List Ent)→List (Nat×List Ent)
 |(_,s)::l,(t,cs)::m=>(t,fitEs s cs)::fitH l m
 |_,m=>m
def fit(s st:St):St:={env:=fitEnv s.env st.env,H:=fitH s.H st.H,nxt:=st.nxt}
theorem fitE_spec(s e:Ent):(fitE s e).d=e.d∧∀T,(fitE s e).own=some T→e.own=some T:=by
 unfold fitE
 split
 ·exact⟨rfl,fun T h=>by cases h⟩
 ·exact⟨rfl,fun T h=>h⟩
theorem fitEnv_look:∀(l m:List (Nat×Ent)) (t:Nat) (e':Ent),look (fitEnv l m) t=some e'→∃e,look m t=some e∧e.d=e'.d∧∀T,e'.own=some T→e.own=some T
 |[],m,t,e',h=>⟨e',by simpa [fitEnv]using h,rfl,fun _ h=>h⟩
 |(a,s)::l,[],t,e',h=>by simp [fitEnv,look]at h
 |(a,s)::l,(q,e)::m,t,e',h=>by
  simp only [fitEnv,look_cons]at h ⊢
  split at h
  ·rename_i hq
   rw [if_pos hq]
   cases h
   exact⟨e,rfl,(fitE_spec s e).1.symm,(fitE_spec s e).2⟩
  ·rename_i hq
   rw [if_neg hq]
   exact fitEnv_look l m t e' h
theorem fitEs_get:∀(l m:List Ent) (i:Nat) (e':Ent),(fitEs l m)[i]? = some e'→∃e,m[i]? = some e∧e.d=e'.d∧∀T,e'.own=some T→e.own=some T
 |[],m,i,e',h=>⟨e',by simpa [fitEs]using h,rfl,fun _ h=>h⟩
 |s::l,[],i,e',h=>by simp [fitEs]at h
 |s::l,e::m,0,e',h=>by
  simp only [fitEs,List.getElem?_cons_zero,Option.some.injEq]at h
  subst h
  exact⟨e,rfl,(fitE_spec s e).1.symm,(fitE_spec s e).2⟩
 |s::l,e::m,i+1,e',h=>by
  simp only [fitEs,List.getElem?_cons_succ]at h ⊢
  exact fitEs_get l m i e' h
theorem fitEs_len:∀l m:List Ent,(fitEs l m).length=m.length
 |[],m=>by simp [fitEs]
 |s::l,[]=>by simp [fitEs]
 |s::l,e::m=>by simp only [fitEs,List.length_cons,fitEs_len l m]
theorem fitH_look:∀(l m:List (Nat×List Ent)) (t:Nat) (cs':List Ent),look (fitH l m) t=some cs'→∃cs s,look m t=some cs∧cs'=fitEs s cs
 |[],m,t,cs',h=>⟨cs',[],by simpa [fitH]using h,by simp [fitEs]⟩
 |(a,s)::l,[],t,cs',h=>by simp [fitH,look]at h
 |(a,s)::l,(q,cs)::m,t,cs',h=>by
  simp only [fitH,look_cons]at h ⊢
  split at h
  ·rename_i hq
   rw [if_pos hq]
   cases h
   exact⟨cs,s,rfl,rfl⟩
  ·rename_i hq
   rw [if_neg hq]
   exact fitH_look l m t cs' h
theorem SimAt.fit(h:SimAt P K M β st tmps w)(s:St):SimAt P K M β (fit s st) tmps w:=
 h.sub rfl (fun l e' hl=>by
  cases l with
  |slot t=>exact fitEnv_look _ _ _ _ hl
  |cell q i=>
   simp only [St.at,Ab.fit,Option.bind_eq_some_iff]at hl
   obtain⟨cs',h1,h2⟩:=hl
   obtain⟨cs,z,h3,rfl⟩:=fitH_look _ _ _ _ h1
   obtain⟨e,h4,h5⟩:=fitEs_get _ _ _ _ h2
   exact⟨e,by simp only [St.at,h3,Option.bind_some];exact h4,h5⟩) (fun q cs' hq=>by
   obtain⟨cs,z,h3,rfl⟩:=fitH_look _ _ _ _ hq
   exact⟨cs,h3,(fitEs_len _ _).symm⟩)
theorem AWp.fit{c:Code}{Q:AE→St→Prop}(s:St)(h:AWp P N E c Q (Ab.fit s st)):AWp P N E c Q st:=by
 rintro K hK a w ⟨he,hd,hsz,M,β,hsim⟩
 exact h K hK a w ⟨he,hd,hsz,M,β,hsim.fit s⟩
theorem AWp.dropF{c:Code}{Q:AE→St→Prop}(s:St)(live bx:List Nat)(n:Nat)(hr:(restr live bx n st.env st.H st.nxt).map (Ab.fit s)=some st')(hE:Nat.ble E n=true)(h:AWp P N E c Q st'):AWp P N E c Q st:=by
 simp only [Option.map_eq_some_iff]at hr
 obtain⟨st1,h1,rfl⟩:=hr
 exact AWp.drop live bx n h1 hE (h.fit s)
end
end Go.Ab
namespace Go.Ab
section
variable {P:Program} {N E:Nat} {st:St} {tt:TT}
end
end Go.Ab

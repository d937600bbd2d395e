/- The abstract machine: a step of code over plain data, proved against the model. -/
import Derived.Laws.Build
import Derived.Laws.IdiomStrings
import Derived.Test.YtcjbfnojhpfchaaGreatDoorMachA
set_option linter.all false
namespace Go.Ab
def rr:Nat→List D→List (Nat×TypeId)→List aP
 |_,[],_=>[]
 |i,d::l,dN=>{d,own:=look dN i}::rr (i+1) l dN
def hv(args:List D)(dN:List (Nat×TypeId)):List (Nat×aP):=cy 0 (rr 0 args dN)
def Ap:∀(l:List D) (k i:Nat) (dN:List (Nat×TypeId)),(rr k l dN)[i]? = (l[i]?).map λd=>({d,own:=look dN (k+i)}:aP)
 |[],k,i,dN=>by simp [rr]
 |d::l,k,i,dN=>by
  cases i with
  |zero=>simp [rr]
  |succ i=>
   simp only [rr,List.getElem?_cons_succ,Ap l (k+1) i dN];rw [show k+1+i=k+(i+1)by omega]
def h_:Out→List (Nat×aP)
 |.ret d own=>[(0,{d,own})]
 |.az x=>[(0,{d:=.v x})]
def sK:Out→Value→Ending
 |.ret _ _,v=>.returned v
 |.az _,v=>.panicked [{v,recovered:=false}]
def qc(P:Program)(f:FuncId)(args:List D)(dN:List (Nat×TypeId))(H:List (List aP))(R:Out→List (List aP)→Prop):Prop:=
 (∃ fd, P.funcs[f]? = some fd ∧ fd.body.isSome = true ∧ fd.name ≠ "runtime.NumGoroutine") ∧
 ∀(K:Ctx) (w:World) (vs:List Value) (M:Mem) (β:Nat→Option Nat),vs.length=args.length→
  bw P K M β {env:=hv args dN,H:=cy 0 H,aK:=H.length} ⟨vs⟩ w→(∀r b,β r=some b→K.kU r=some b)→
  Calls P f ⟨vs⟩ w λe w'=>∃o bB v M' β',R o bB∧e=sK o v∧bw P K M' β' {env:=h_ o,H:=cy 0 bB,aK:=H.length} #[v] w'
def qc.mono{P:Program}{f:FuncId}{args:List D}{dN:List (Nat×TypeId)}{H:List (List aP)}{R Sk:Out→List (List aP)→Prop}(h:qc P f args dN H R)(ah:∀o bB,R o bB→Sk o bB):qc P f args dN H Sk:=
 ⟨h.1,λK w vs M β ab hs hb=>(h.2 K w vs M β ab hs hb).mono λ_ _ ⟨o,bB,v,M',β',Z,aa,aj⟩=>⟨o,bB,v,M',β',ah _ _ Z,aa,aj⟩⟩
def gA(P:Program)(f:FuncId)(args:List D)(dN:List (Nat×TypeId))(H:List (List aP))(o:Out)(cu:List (List aP)):Prop:=qc P f args dN H λo' bB=>o'=o∧bB=cu
def jq(P:Program):ge:={call:=gA P,eq:=J8 P}
def Sl{α:Type}:∀(l:List α) (n i:Nat),look (cy n l) i=if n≤i then l[i-n]? else none
 |[],n,i=>by simp [cy,look]
 |x::l,n,i=>by
  simp only [cy,dC,Sl l (n+1) i];by_cases Z:n=i
  ·subst Z;simp
  ·rw [if_neg Z];by_cases aa:n≤i
   ·rw [if_pos (by omega),if_pos aa]
    obtain⟨j,rfl⟩:∃j,i=n+1+j:=⟨i-(n+1),by omega⟩
    rw [show n+1+j-(n+1)=j by omega,show n+1+j-n=j+1 by omega]
    simp
   ·rw [if_neg (by omega),if_neg aa]
def mV{α:Type}(l:List α)(i:Nat):look (cy 0 l) i=l[i]? := by simp [Sl]
def Eu:∀{ρ:List Nat} {r j:Nat},idx ρ r=some j→ρ[j]? = some r
 |[],_,_,h=>by simp [idx]at h
 |x::l,r,j,h=>by
  simp only [idx]at h;rw [Bool.cond_eq_ite]at h;split at h
  ·rename_i hb;cases h;simp at hb;simp [hb]
  ·simp only [Option.map_eq_some_iff]at h;obtain⟨k,hk,rfl⟩:=h;simpa using Eu hk
def Ev:∀{l:List Nat},mP l=true→∀(i j:Nat) r,l[i]? = some r→l[j]? = some r→i=j
 |[],_,i,_,_,h,_=>by simp at h
 |x::l,h,i,j,r,hi,hj=>by
  simp only [mP,Bool.and_eq_true,Bool.not_eq_true',List.any_eq_false]at h;have hx:∀k,l[k]? = some x→False:=λk hk=>by have:=h.1 x (List.mem_of_getElem? hk);simp at this
  cases i<;>cases j
  ·rfl
  ·simp at hi hj;subst hi;exact(hx _ hj).elim
  ·simp at hi hj;subst hj;exact(hx _ hi).elim
  ·simp at hi hj;rw [Ev h.2 _ _ r hi hj]
def uO{H:List (Nat×List aP)}:∀{ρ:List Nat} {bs:List (List aP)},boxes H ρ=some bs→bs.length=ρ.length∧∀(j r:Nat),ρ[j]? = some r→look H r=bs[j]? ∧ (bs[j]?).isSome=true
 |[],bs,h=>by simp [boxes]at h;subst h;simp
 |x::ρ,bs,h=>by
  simp only [boxes]at h;split at h
  case h_2=>cases h
  rename_i b pj hb kB;cases h;obtain⟨Z,aa⟩:=uO kB;refine⟨by simp [Z],λj r hj=>?_⟩
  cases j with
  |zero=>simp at hj;subst hj;simp [hb]
  |succ j=>simp at hj;simpa using aa j r hj
def xg{f:Nat→Option Nat}:∀{b bo:List aP},mO f b=some bo→bo.length=b.length∧∀(i:Nat) aX,bo[i]? = some aX→∃e,b[i]? = some e∧dX f e.d=some aX.d∧aX.own=e.own
 |[],bo,h=>by simp [mO]at h;subst h;simp
 |e::l,bo,h=>by
  simp only [mO]at h;split at h
  case h_2=>cases h
  rename_i e1 g' he ab;cases h;obtain⟨Z,aa⟩:=xg ab;refine⟨by simp [Z],λi aX hi=>?_⟩
  cases i with
  |zero=>
   simp at hi;subst hi
   simp only [D',Option.map_eq_some_iff]at he;obtain⟨d,hd,rfl⟩:=he;exact⟨e,by simp,hd,rfl⟩
  |succ i=>simp at hi;simpa using aa i aX hi
def aaP{f:Nat→Option Nat}{d:D}{r off:Nat}{u:TypeId}(h:dX f d=some (.cb r off u)):∃gr,d = .cb gr off u:=by
 cases d with
 |cb gr al2 nI=>
  simp only [dX,Option.map_eq_some_iff]at h;obtain⟨s,_,aa⟩:=h;cases aa;exact⟨gr,rfl⟩
 |v x=>simp [dX]at h
 |eE x=>simp [dX]at h
 |full k n get=>simp [dX]at h
 |ptr gr o=>simp [dX]at h
 |fn g c=>simp [dX]at h
 |agg c=>simp [dX]at h
 |cn c=>simp [dX]at h
def kV.dX{P:Program}{T:TypeId}{n:Nat}{f:Nat→Option Nat}{b bo:List aP}(h:kV P T n b)(ah:mO f b=some bo):kV P T n bo:=λe he r off u hd=>by
 obtain⟨i,hi,rfl⟩:=List.getElem_of_mem he;obtain⟨bU,Z,aa,_⟩:=(xg ah).2 i _ (List.getElem?_eq_getElem hi);rw [hd]at aa;obtain⟨gr,aj⟩:=aaP aa;exact h bU (List.mem_of_getElem? Z) gr off u aj
def xh{f:Nat→Option Nat}:∀{bs pj:List (List aP)},jE f bs=some pj→pj.length=bs.length∧∀(j:Nat) bo,pj[j]? = some bo→∃b,bs[j]? = some b∧mO f b=some bo
 |[],pj,h=>by simp [jE]at h;subst h;simp
 |b::l,pj,h=>by
  simp only [jE]at h;split at h
  case h_2=>cases h
  rename_i cG g' hb ab;cases h;obtain⟨Z,aa⟩:=xh ab;refine⟨by simp [Z],λj bo hj=>?_⟩
  cases j with
  |zero=>simp at hj;subst hj;exact⟨b,by simp,hb⟩
  |succ j=>simp at hj;simpa using aa j bo hj
def KC{H:List (Nat×List aP)}:∀{ρ:List Nat} {bs:List (List aP)},bs.length=ρ.length→mP ρ=true→∀r,
 (∀(j:Nat),ρ[j]? = some r→look (kT ρ bs++H) r=bs[j]?)∧((∀(j:Nat),ρ[j]? ≠ some r)→look (kT ρ bs++H) r=look H r)
 |[],bs,_,_,r=>by simp [kT]
 |x::ρ,[],h,_,_=>by simp at h
 |x::ρ,b::bs,h,hn,r=>by
  have Eg:mP ρ=true:=by simp [mP]at hn;exact hn.2
  obtain⟨Z,aa⟩:=KC (H:=H) (ρ:=ρ) (bs:=bs) (by simpa using h) Eg r
  simp only [kT,List.cons_append,dC];refine⟨λj hj=>?_,λhj=>?_⟩
  ·by_cases hx:x=r
   ·have:j=0:=Ev hn j 0 r hj (by simp [hx])
    subst this;simp [hx]
   ·cases j with
    |zero=>simp at hj;exact(hx hj).elim
    |succ j=>simp at hj;rw [if_neg hx];simpa using Z j hj
  ·have hx:x≠r:=λe=>hj 0 (by simp [e])
   rw [if_neg hx];exact aa λj=>by simpa using hj (j+1)
section
variable {P:Program} {K:Ctx} {N:Nat} {M:Mem} {β:Nat→Option Nat} {st:aC} {g:c8} {tmps:Array Value} {w:World} {o:Oper} {f:kR} {p:Path} {tt:dq} {bZ:ge} {ops:List Oper}
def Aq(ρ os:List Nat):Loc→Prop
 |.cell r _=>r∈ρ
 |.slot t=>t∈os
def qd(st:aC)(tmps:Array Value)(w:World)(β:Nat→Option Nat)(ρ os:List Nat)(b:Nat):Prop:=
 (∃r,r∈ρ∧β r=some b)∨∃l e T,Aq ρ os l∧st.at l=some e∧e.own=some T∧hH (cc tmps w β l)=some b
open Classical in
noncomputable def kc(M:Mem)(β:Nat→Option Nat)(st:aC)(tmps:Array Value)(w:World)(ρ os:List Nat):Ctx:=
 {z7:=M,F:=λb=>if qd st tmps w β ρ os b then none else w.heap[b]?,kU:=λj=>(ρ[j]?).bind β,hG:=(w.os,w.output)}
structure Handed(st:aC)(tmps:Array Value)(vs:List Value)(hd:List (Nat×Option Nat×TypeId)):Prop where
 some:∀i t T,(i,Option.some t,T)∈hd→∃e,st.at (.slot t)=Option.some e∧e.own=Option.some T∧vs[i]? = Option.some (tmps.getD t undef)
 none:∀i T,(i,Option.none,T)∈hd→vs[i]? = Option.some (.slice Option.none 0 0)
 inj:∀i j t T T',(i,Option.some t,T)∈hd→(j,Option.some t,T')∈hd→i=j
def sL(hd:List (Nat×Option Nat×TypeId)):List (Nat×TypeId):=hd.map λx=>(x.1,x.2.2)
def qe(hd:List (Nat×Option Nat×TypeId)):List Nat:=hd.filterMap λx=>x.2.1
def aaQ{hd:List (Nat×Option Nat×TypeId)}{i:Nat}{T:TypeId}(h:look (sL hd) i=some T):∃o,(i,o,T)∈hd:=by
 have:=rf h
 simp only [sL,List.mem_map]at this;obtain⟨⟨a,o,T'⟩,Z,aa⟩:=this;cases aa;exact⟨o,Z⟩
def aaR{hd:List (Nat×Option Nat×TypeId)}{i t:Nat}{T:TypeId}(h:(i,some t,T)∈hd):t∈qe hd:=by
 simp only [qe,List.mem_filterMap];exact⟨_,h,rfl⟩
def Ew(ρ:List Nat)(hd:List (Nat×Option Nat×TypeId))(T:TypeId):Loc→Loc→Prop
 |.cell j i,.cell r mn=>i=mn∧ρ[j]? = some r
 |.slot s,.slot t=>(s,some t,T)∈hd
 |_,_=>False
def Sm(h:bw P K M β st tmps w){ρ:List Nat}{bs H1:List (List aP)}(hn:mP ρ=true)(kB:boxes st.H ρ=some bs)(lS:jE (idx ρ) bs=some H1){ds jm:List D}{vs:List Value}
 (hlen:vs.length=ds.length) (am:∀(i:Nat) v d,vs[i]? = some v→ds[i]? = some d→ce M β v d) (ey:kS (idx ρ) ds=some jm) {hd:List (Nat×Option Nat×TypeId)} (uP:Handed st tmps vs hd):
 bw P (kc M β st tmps w ρ (qe hd)) M (λj=>(ρ[j]?).bind β) {env:=hv jm (sL hd),H:=cy 0 H1,aK:=H1.length} ⟨vs⟩ w:=by
 obtain⟨cZ,fA⟩:=uO kB;obtain⟨iZ,i7⟩:=xh lS;obtain⟨al3,aaS⟩:=w4 ey
 have Sn:∀{v d dv},ce M β v d→dX (idx ρ) d=some dv→ce M (λj=>(ρ[j]?).bind β) v dv:=by
  intro v d dv hd iY;exact hd.dX (λr s b hs hb=>by rw [Eu hs];simpa using hb) iY
 -- a cell of lu KD is a cell of ours
 have hY:∀j i aX,({env:=hv jm (sL hd),H:=cy 0 H1,aK:=H1.length}:aC).at (.cell j i)=some aX→∃(r:Nat) (e:aP),ρ[j]? = some r∧st.at (.cell r i)=some e∧dX (idx ρ) e.d=some aX.d∧aX.own=e.own∧
  cc ⟨vs⟩ w (λj=>(ρ[j]?).bind β) (.cell j i)=cc tmps w β (.cell r i):=by
  intro j i aX he;simp only [aC.at,mV]at he;cases hj:H1[j]? with
  |none=>simp [hj]at he
  |some bo=>
   simp only [hj,Option.bind_some]at he;obtain⟨b,hb,nJ⟩:=i7 j bo hj;have uQ:j<ρ.length:=by have:=(List.getElem?_eq_some_iff.1 hb).1;omega
   have lv:ρ[j]? = some ρ[j]:=List.getElem?_eq_getElem uQ;obtain⟨ab,_⟩:=fA j _ lv;obtain⟨_,KE⟩:=xg nJ;obtain⟨e,rp,KF,KG⟩:=KE i aX he;exact⟨_,e,lv,by simp [aC.at,ab,hb,rp],KF,KG,by simp [cc,lv]⟩
 have So:∀s aX,({env:=hv jm (sL hd),H:=cy 0 H1,aK:=H1.length}:aC).at (.slot s)=some aX→aX.own=look (sL hd) s∧∃v d,vs[s]? = some v∧ds[s]? = some d∧dX (idx ρ) d=some aX.d:=by
  intro s aX he;simp only [aC.at,hv,mV,Ap,Option.map_eq_some_iff]at he;obtain⟨dv,iY,rfl⟩:=he;have hs:s<jm.length:=(List.getElem?_eq_some_iff.1 iY).1;have hJ:ds[s]? = some ds[s]:=List.getElem?_eq_getElem (by omega)
  obtain⟨d1,gf,aaT⟩:=aaS s _ hJ;rw [iY]at gf;cases gf;exact⟨by simp,_,_,List.getElem?_eq_getElem (by omega),hJ,aaT⟩
 -- al4 'own' place of lu KD is one of ours
 have Ex:∀cr aX T,({env:=hv jm (sL hd),H:=cy 0 H1,aK:=H1.length}:aC).at cr=some aX→aX.own=some T→
  cc ⟨vs⟩ w (λj=>(ρ[j]?).bind β) cr = .slice none 0 0∨∃l e,Ew ρ hd T cr l∧Aq ρ (qe hd) l∧st.at l=some e∧e.own=some T∧cc ⟨vs⟩ w (λj=>(ρ[j]?).bind β) cr=cc tmps w β l:=by
  intro cr aX T ab aA;cases cr with
  |slot s=>
   obtain⟨an,v,d,Z,aa,aj⟩:=So s aX ab;rw [an]at aA;obtain⟨o,hm⟩:=aaQ aA;have b':cc (⟨vs⟩:Array Value) w (λj=>(ρ[j]?).bind β) (.slot s)=v:=by simp [cc,Z]
   cases o with
   |none=>
    have:=uP.none s T hm
    rw [Z]at this;cases this;exact .inl b'
   |some t=>
    obtain⟨e,aD,aV,bP⟩:=uP.some s t T hm;rw [Z]at bP;cases bP;exact .inr ⟨.slot t,e,hm,aaR hm,aD,aV,b'⟩
  |cell j i=>
   obtain⟨r,e,lv,he,_,fW,b'⟩:=hY j i aX ab;exact .inr ⟨.cell r i,e,⟨rfl,lv⟩,List.mem_of_getElem? lv,he,by rw [←fW,aA],b'⟩
 have aaU:∀T T' g' jK l,Ew ρ hd T g' l→Ew ρ hd T' jK l→g'=jK:=by
  intro T T' g' jK l Z aa;cases g'<;>cases jK<;>cases l<;>simp only [Ew]at Z aa
  ·rw [uP.inj _ _ _ _ _ Z aa]
  ·obtain⟨rfl,aj⟩:=Z;obtain⟨rfl,aD⟩:=aa;rw [Ev hn _ _ _ aj aD]
 have kd:∀j cs',look (cy 0 H1) j=some cs'→∃(r:Nat) (cs:List aP),ρ[j]? = some r∧look st.H r=some cs∧cs.length=cs'.length∧∃f,mO f cs=some cs':=by
  intro j cs' hj;rw [mV]at hj;obtain⟨b,hb,nJ⟩:=i7 j cs' hj;have uQ:j<ρ.length:=by have:=(List.getElem?_eq_some_iff.1 hb).1;omega
  have lv:ρ[j]? = some ρ[j]:=List.getElem?_eq_getElem uQ;obtain⟨ab,_⟩:=fA j _ lv;exact⟨_,b,lv,by rw [ab,hb],(xg nJ).1.symm,_,nJ⟩
 constructor
 ·intro l aX ab;cases l with
  |slot s=>
   obtain⟨_,v,d,Z,aa,aj⟩:=So s aX ab;have:=Sn (am s v d Z aa) aj
   simpa [cc,Z]using this
  |cell j i=>
   obtain⟨r,e,lv,he,nJ,_,b'⟩:=hY j i aX ab;rw [b'];exact Sn (h.e7 _ e he) nJ
 ·intro cr aX T ab aA;rcases Ex cr aX T ab aA with h0|⟨l,e,_,bh,he,dJ,b'⟩
  ·rw [h0];exact .inl rfl
  ·rw [b'];rcases h.own _ e T he dJ with h0|⟨b,n,cap,kz,T',Z,aa,aj,aD,aV,bP,rm⟩
   ·exact .inl h0
   ·refine .inr ⟨b,n,cap,kz,T',Z,aa,aj,aD,aV,?_,rm⟩;simp only [kc];rw [if_pos];exact .inr ⟨l,e,T,bh,he,dJ,by rw [Z];rfl⟩
 ·intro g' jK e1 e2 T T' b ab aA dk dJ hb bI;rcases Ex g' e1 T ab aA with h0|⟨l,e,aB,bh,he,KH,b'⟩
  ·rw [h0]at hb;cases hb
  rcases Ex jK e2 T' dk dJ with h0|⟨cr,aX,ez,Ao,ru,aaV,p8⟩
  ·rw [h0]at bI;cases bI
  rw [b']at hb;rw [p8]at bI;have:=h.uniq _ _ e aX T T' b he KH ru aaV hb bI
  subst this;exact aaU _ _ _ _ _ aB ez
 ·intro cr aX T b j cs' ab aA hb hj;rcases Ex cr aX T ab aA with h0|⟨l,e,aB,bh,he,KH,b'⟩
  ·rw [h0]at hb;cases hb
  rw [b']at hb;obtain⟨r2,cs,aaW,dQ,_⟩:=kd j cs' hj;have:=h.unbox _ e T b r2 cs he KH hb dQ
  simpa [aaW]using this
 ·intro j cs' hj;obtain⟨r,cs,lv,dQ,ab,f,aaX⟩:=kd j cs' hj;obtain⟨b,kz,T,Z,aa,aj,aD,aV,bP⟩:=h.box r cs dQ;refine⟨b,kz,T,by simp [lv,Z],aa,by omega,aD,?_,bP.1,bP.2.dX aaX⟩
  simp only [kc];rw [if_pos];exact .inl ⟨r,List.mem_of_getElem? lv,Z⟩
 ·intro j uR b c lQ hj Ey hb bI;obtain⟨r,cs,lv,dQ,_⟩:=kd j c hj;obtain⟨df,cs',Sp,uS,_⟩:=kd uR lQ Ey;have:r=df:=h.inj r df b cs cs' dQ uS (by simpa [lv]using hb) (by simpa [Sp]using bI)
  subst this;exact Ev hn j uR r lv Sp
 ·intro j b hb;simp only [Option.bind_eq_some_iff]at hb;obtain⟨r,ah,_⟩:=hb;have:=(List.getElem?_eq_some_iff.1 ah).1
  show j<H1.length
  omega
 ·exact h.mem
 ·exact Mem.le_refl _
 ·intro b aO hb;simp only [kc]at hb;split at hb
  ·cases hb
  ·exact⟨hb,λ_=>rfl⟩
 ·intro j b hb;exact hb
 ·refine h.iX.mono λb aO du=>?_
  have KI:¬ qd st tmps w β ρ (qe hd) b:=by
   rintro (⟨r,ah,lT⟩|⟨l,e,T,ah,he,aA,j'⟩)
   ·obtain⟨j,hj⟩:=List.getElem?_of_mem ah;obtain⟨ab,uT⟩:=fA j r hj;obtain⟨cs,dQ⟩:=Option.isSome_iff_exists.1 uT;obtain⟨gz,_,_,aj,_,_,_,aD,_⟩:=h.box r cs (by rw [ab,dQ])
    rw [lT]at aj;cases aj;rw [aD]at du;cases du
   ·rw [(h.own _ e T he aA).free j']at du;cases du
  simp only [kc];rw [if_neg KI];exact(h.frame b aO du).1
 ·rfl
def aaY{ρ os:List Nat}{st:aC}{H:List (Nat×List aP)}{n s:Nat}{e:aP}(ab:({env:=gN os st.env,H:=H,aK:=n}:aC).at (.slot s)=some e):
 ∃bU,st.at (.slot s)=some bU∧bU.d=e.d∧(∀T,e.own=some T→bU.own=some T)∧∀T,e.own=some T→¬ Aq ρ os (.slot s):=by
 simp only [aC.at,nG]at ab;by_cases hs:s∈os
 ·rw [if_pos hs,Option.map_eq_some_iff]at ab;obtain⟨bU,Z,aa⟩:=ab;subst aa;exact⟨bU,Z,rfl,(λT aA=>by cases aA),(λT aA=>by cases aA)⟩
 ·rw [if_neg hs]at ab;exact⟨e,ab,rfl,(λT aA=>aA),(λT _=>hs)⟩
def KJ(h:bw P K M β st tmps w){ρ:List Nat}{bs cu iu:List (List aP)}(hn:mP ρ=true)(kB:boxes st.H ρ=some bs)(uU:jE (λj=>ρ[j]?) cu=some iu)(ep:cu.length=ρ.length)
 {os:List Nat} {out:Out} {v:Value} {w':World} {M':Mem} {β':Nat→Option Nat} (iL:bw P (kc M β st tmps w ρ os) M' β' {env:=h_ out,H:=cy 0 cu,aK:=ρ.length} #[v] w'):
 M.le M'∧bw P K M' β {env:=gN os st.env,H:=kT ρ iu++st.H,aK:=st.aK} tmps w'∧
 (∀d own,out = .ret d own→∀dv,dX (λj=>ρ[j]?) d=some dv→ce M' β v dv∧∀T l0,own=some T→mR P K M' β {env:=gN os st.env,H:=kT ρ iu++st.H,aK:=st.aK} tmps w' l0 v T)∧
 (∀x,out = .az x→cP M' v x):=by
 obtain⟨cZ,fA⟩:=uO kB;obtain⟨iZ,i7⟩:=xh uU;have cF:M.le M':=iL.m0;have gO:∀(j r b:Nat),ρ[j]? = some r→β r=some b→β' j=some b:=λj r b hj hb=>iL.iv j b (by simp [kc,hj,hb])
 have sM:∀(j r:Nat),ρ[j]? = some r→∃cs b,look st.H r=some cs∧β r=some b∧β' j=some b:=by
  intro j r hj;obtain⟨Z,aa⟩:=fA j r hj;obtain⟨cs,dQ⟩:=Option.isSome_iff_exists.1 aa;rw [dQ]at Z;obtain⟨b,_,_,hb,_⟩:=h.box r cs Z;exact⟨cs,b,Z,hb,gO j r b hj hb⟩
 have Sq:∀{v d dv},ce M' β' v d→dX (λj=>ρ[j]?) d=some dv→ce M' β v dv:=by
  intro v d dv hd iY;refine hd.dX (λj r b hj hb=>?_) iY
  obtain⟨_,cG,_,Z,aa⟩:=sM j r hj;rw [hb]at aa;cases aa;exact Z
 -- KK is not qd is kept
 have Ar:∀b,¬ qd st tmps w β ρ os b→b<w.heap.size→w'.heap[b]? = w.heap[b]? ∧ ∀o,M' b o=M b o:=by
  intro b hb bm
  have du:(kc M β st tmps w ρ os).F b=some w.heap[b]:=by
   simp only [kc];rw [if_neg hb];exact Array.getElem?_eq_getElem bm
  obtain⟨Z,aa⟩:=iL.frame b _ du;exact⟨by rw [Z,Array.getElem?_eq_getElem bm],aa⟩
 have Sr:∀b,(kc M β st tmps w ρ os).F b=none→K.F b=none:=by
  intro b hb;simp only [kc]at hb;split at hb
  ·rename_i hp;rcases hp with⟨r,ah,lT⟩|⟨l,e,T,ah,he,aA,j'⟩
   ·obtain⟨j,hj⟩:=List.getElem?_of_mem ah;obtain⟨cs,cG,dQ,cZ,_⟩:=sM j r hj;obtain⟨gz,_,_,Z,_,_,_,aa,_⟩:=h.box r cs dQ;rw [lT]at Z;cases Z;exact aa
   ·exact(h.own _ e T he aA).free j'
  ·cases du:K.F b with
   |none=>rfl
   |some aO=>have:=(h.frame b aO du).1;rw [hb]at this;cases this
 have hold:∀b,(kc M β st tmps w ρ os).F b=none→b<w.heap.size→qd st tmps w β ρ os b:=by
  intro b hb bm;simp only [kc]at hb;split at hb
  ·assumption
  ·rw [Array.getElem?_eq_getElem bm]at hb;cases hb
 -- al5 own boxes aaK al6 not handed on
 have Ez:∀r cs b,look st.H r=some cs→(∀(j:Nat),ρ[j]? ≠ some r)→β r=some b→¬ qd st tmps w β ρ os b:=by
  intro r cs b ah iw hb hp;rcases hp with⟨df,fJ,bI⟩|⟨l,e,T,fJ,he,aA,j'⟩
  ·obtain⟨j,hj⟩:=List.getElem?_of_mem fJ;obtain⟨cs',_,uS,_⟩:=sM j df hj;have:=h.inj r df b cs cs' ah uS hb bI
   subst this;exact iw j hj
  ·exact h.unbox _ e T b r cs he aA j' ah hb
 have As:∀r,(∃(j:Nat),ρ[j]? = some r∧look (kT ρ iu++st.H) r=iu[j]?)∨((∀(j:Nat),ρ[j]? ≠ some r)∧look (kT ρ iu++st.H) r=look st.H r):=by
  intro r;obtain⟨Z,aa⟩:=KC (H:=st.H) (ρ:=ρ) (bs:=iu) (by omega) hn r
  by_cases hj:∃(j:Nat),ρ[j]? = some r
  ·obtain⟨j,hj⟩:=hj;exact .inl ⟨j,hj,Z j hj⟩
  ·have:∀(j:Nat),ρ[j]? ≠ some r:=λj bh=>hj ⟨j,bh⟩
   exact .inr ⟨this,aa this⟩
 -- a place of lu new state: lu KD, or kept
 have fX:∀l e,({env:=gN os st.env,H:=kT ρ iu++st.H,aK:=st.aK}:aC).at l=some e→
  (∃(j r i:Nat) (aX:aP),l = .cell r i∧ρ[j]? = some r∧({env:=h_ out,H:=cy 0 cu,aK:=ρ.length}:aC).at (.cell j i)=some aX∧dX (λj=>ρ[j]?) aX.d=some e.d∧e.own=aX.own∧cc tmps w' β l=cc #[v] w' β' (.cell j i))∨
  (∃bU,st.at l=some bU∧bU.d=e.d∧(∀T,e.own=some T→bU.own=some T)∧cc tmps w' β l=cc tmps w β l∧(∀T,e.own=some T→¬ Aq ρ os l)):=by
  intro l e ab;cases l with
  |slot s=>
   obtain⟨bU,Z,aa,aj,aD⟩:=aaY ab;exact .inr ⟨bU,Z,aa,aj,rfl,aD⟩
  |cell r i=>
   rcases As r with⟨j,hj,lw⟩|⟨iw,lw⟩
   ·simp only [aC.at,lw]at ab;cases bh:iu[j]? with
    |none=>simp [bh]at ab
    |some bo=>
     simp only [bh,Option.bind_some]at ab;obtain⟨b,hb,nJ⟩:=i7 j bo bh;obtain⟨_,KE⟩:=xg nJ;obtain⟨aX,rp,KF,KG⟩:=KE i e ab;obtain⟨_,cG,_,cZ,uz⟩:=sM j r hj;exact .inl ⟨j,r,i,aX,rfl,hj,by simp [aC.at,mV,hb,rp],KF,KG,by simp [cc,cZ,uz]⟩
   ·simp only [aC.at,lw]at ab;refine .inr ⟨e,ab,rfl,λ_ h=>h,?_,λT _ bh=>by obtain⟨j,hj⟩:=List.getElem?_of_mem bh;exact iw j hj⟩
    cases ah:look st.H r with
    |none=>simp [ah]at ab
    |some cs=>
     obtain⟨b,_,_,hb,bh,_⟩:=h.box r cs ah;simp only [cc,hb];rw [re (w:=w) (Ar b (Ez r cs b ah iw hb) (lt_of_heap bh)).1]
 -- a kept 'own' al7 block is not qd
 have At:∀l e T b,st.at l=some e→e.own=some T→¬ Aq ρ os l→hH (cc tmps w β l)=some b→¬ qd st tmps w β ρ os b:=by
  intro l e T b ab aA iw hb hp;rcases hp with⟨df,fJ,bI⟩|⟨cr,aX,T',fJ,he,dJ,j'⟩
  ·obtain⟨j,hj⟩:=List.getElem?_of_mem fJ;obtain⟨cs',_,uS,_⟩:=sM j df hj;exact h.unbox l e T b df cs' ab aA hb uS bI
  ·have:=h.uniq l _ e aX T T' b ab aA he dJ hb j'
   subst this;exact iw fJ
 -- lu KD 'own' blocks al8 ours
 have Au:∀T u b,pb P (kc M β st tmps w ρ os).F M' w' T u→hH u=some b→∀bo,bo=b→bo<w.heap.size→qd st tmps w β ρ os bo:=by
  intro T u b an hb bo p9 bm;subst p9;exact hold bo (an.free hb) bm
 have EA:∀r cs,look (kT ρ iu++st.H) r=some cs→∃k1,look st.H r=some k1:=by
  intro r cs ah;rcases As r with⟨j,hj,_⟩|⟨_,lw⟩
  ·obtain⟨k1,_,Z,_⟩:=sM j r hj;exact⟨k1,Z⟩
  ·exact⟨cs,by rw [←lw];exact ah⟩
 have cw:bw P K M' β {env:=gN os st.env,H:=kT ρ iu++st.H,aK:=st.aK} tmps w':=by
  constructor
  ·intro l e ab;rcases fX l e ab with⟨j,r,i,aX,rfl,hj,ru,nJ,_,b'⟩|⟨bU,an,Av,kA,b',_⟩
   ·rw [b'];exact Sq (iL.e7 _ aX ru) nJ
   ·rw [b',←Av];exact(h.e7 l bU an).mono cF
  ·intro l e T ab aA;rcases fX l e ab with⟨j,r,i,aX,rfl,hj,ru,_,fW,b'⟩|⟨bU,an,Av,kA,b',iw⟩
   ·rw [b'];rw [fW]at aA;rcases iL.own _ aX T ru aA with h0|⟨b,n,cap,kz,T',Z,aa,aj,aD,aV,bP,rm⟩
    ·exact .inl h0
    ·exact .inr ⟨b,n,cap,kz,T',Z,aa,aj,aD,aV,Sr b bP,rm⟩
   ·rw [b'];have iw:=iw T aA;have aA:=kA T aA;refine(h.own l bU T an aA).congr (λb hb=>?_) (λb o' hb=>?_)
    ·exact(Ar b (At l bU T b an aA iw hb) ((h.own l bU T an aA).lt hb)).1
    ·exact(Ar b (At l bU T b an aA iw hb) ((h.own l bU T an aA).lt hb)).2 o'
  ·intro l cr e1 e2 T T' b ab aA dk dJ hb bI
   rcases fX l e1 ab with⟨j,r,i,x,rfl,hj,hx,_,fW,b'⟩|⟨bU,an,Av,kA,b',iw⟩ <;>
    rcases fX cr e2 dk with⟨uR,df,mn,Aw,rfl,Ey,xi,_,Ss,p8⟩|⟨w7,ky,al9,z_,p8,KL⟩
   ·rw [b']at hb;rw [p8]at bI;rw [fW]at aA;rw [Ss]at dJ;have:=iL.uniq _ _ x Aw T T' b hx aA xi dJ hb bI
    cases this;rw [hj]at Ey;cases Ey;rfl
   ·rw [b']at hb;rw [p8]at bI;rw [fW]at aA;have KL:=KL T' dJ;have dJ:=z_ T' dJ;exact(At cr w7 T' b ky dJ KL bI (Au T _ b (iL.own _ x T hx aA) hb b rfl ((h.own cr w7 T' ky dJ).lt bI))).elim
   ·rw [b']at hb;rw [p8]at bI;rw [Ss]at dJ;have iw:=iw T aA;have aA:=kA T aA;exact(At l bU T b an aA iw hb (Au T' _ b (iL.own _ Aw T' xi dJ) bI b rfl ((h.own l bU T an aA).lt hb))).elim
   ·rw [b']at hb;rw [p8]at bI;exact h.uniq l cr bU w7 T T' b an (kA T aA) ky (z_ T' dJ) hb bI
  ·intro l e T b r cs ab aA hb ah lT;obtain⟨k1,lP⟩:=EA r cs ah;rcases fX l e ab with⟨j,r1,i,x,rfl,hj,hx,_,fW,b'⟩|⟨bU,an,Av,kA,b',iw⟩
   ·rw [b']at hb;rw [fW]at aA;rcases As r with⟨j2,rv,lw⟩|⟨KM,_⟩
    ·have aa:∃c2,look (cy 0 cu) j2=some c2:=by
      rw [mV];exact⟨_,List.getElem?_eq_getElem (by have:=(List.getElem?_eq_some_iff.1 rv).1;omega)⟩
     obtain⟨c2,jr⟩:=aa;exact iL.unbox _ x T b j2 c2 hx aA hb jr (gO j2 r b rv lT)
    ·obtain⟨cG,_,_,cZ,bh,_⟩:=h.box r k1 lP;rw [lT]at cZ;cases cZ;exact Ez r k1 b lP KM lT (Au T _ b (iL.own _ x T hx aA) hb b rfl (lt_of_heap bh))
   ·rw [b']at hb;exact h.unbox l bU T b r k1 an (kA T aA) hb lP lT
  ·intro r cs ah;rcases As r with⟨j,hj,lw⟩|⟨iw,lw⟩
   ·rw [lw]at ah;obtain⟨c2,jr,nJ⟩:=i7 j cs ah;obtain⟨k1,oA,aaZ,St,aa0⟩:=sM j r hj;obtain⟨b,kz,T,Z,aa,aj,aD,aV,bP⟩:=iL.box j c2 (by rw [mV];exact jr)
    rw [aa0]at Z;cases Z;obtain⟨gz,_,_,dF,_,_,_,dI,_⟩:=h.box r k1 aaZ;rw [St]at dF;cases dF;exact⟨oA,kz,T,St,aa,by rw [aj,(xg nJ).1],aD,dI,bP.1,bP.2.dX nJ⟩
   ·rw [lw]at ah;obtain⟨b,kz,T,Z,aa,aj,aD,aV,bP⟩:=h.box r cs ah;have hk:=Ar b (Ez r cs b ah iw Z) (lt_of_heap aa);exact⟨b,kz,T,Z,hk.1.trans aa,aj,λo'=>(hk.2 o').trans (aD o'),aV,bP⟩
  ·intro r df b c lQ ah fJ hb bI;obtain⟨c0,lP⟩:=EA r c ah;obtain⟨aa1,aa2⟩:=EA df lQ fJ;exact h.inj r df b c0 aa1 lP aa2 hb bI
  ·exact h.lt
  ·exact iL.mem
  ·exact Mem.le_trans h.m0 cF
  ·intro b aO du;obtain⟨Z,aa⟩:=h.frame b aO du
   have KI:¬ qd st tmps w β ρ os b:=by
    rintro (⟨r,ah,lT⟩|⟨l,e,T,ah,he,aA,j'⟩)
    ·obtain⟨j,hj⟩:=List.getElem?_of_mem ah;obtain⟨cs,_,dQ,_⟩:=sM j r hj;obtain⟨gz,_,_,aj,_,_,_,aD,_⟩:=h.box r cs dQ;rw [lT]at aj;cases aj;rw [aD]at du;cases du
    ·rw [(h.own _ e T he aA).free j']at du;cases du
   have hk:=Ar b KI (lt_of_heap Z);exact⟨hk.1.trans Z,λo'=>(hk.2 o').trans (aa o')⟩
  ·exact h.iv
  ·exact h.iX
  ·exact Eq.trans (show(w'.os,w'.output)=(w.os,w.output)from iL.hG) h.hG
 refine⟨cF,cw,λd own KN dv iY=>?_,λx KN=>?_⟩
 ·subst KN;have iM:=iL.e7 (.slot 0) {d,own} (by simp [aC.at,h_,look])
  refine⟨Sq (by simpa [cc]using iM) iY,λT l0 aA=>?_⟩
  have an:=iL.own (.slot 0) {d,own} T (by simp [aC.at,h_,look]) aA
  simp only [cc]at an;have ky:pb P (kc M β st tmps w ρ os).F M' w' T v:=by simpa using an
  refine⟨?_,λl e T' b ab dJ _ hb bI=>?_,λb r cs hb ah lT=>?_⟩
  ·rcases ky with h0|⟨b,n,cap,kz,T',Z,aa,aj,aD,aV,bP,rm⟩
   ·exact .inl h0
   ·exact .inr ⟨b,n,cap,kz,T',Z,aa,aj,aD,aV,Sr b bP,rm⟩
  ·rcases fX l e ab with⟨j,r,i,x,rfl,hj,hx,_,fW,b'⟩|⟨bU,KO,Av,kA,b',iw⟩
   ·rw [b']at bI;rw [fW]at dJ;have:=iL.uniq (.slot 0) (.cell j i) {d,own} x T T' b (by simp [aC.at,h_,look]) aA hx dJ (by simpa [cc]using hb) bI
    cases this
   ·rw [b']at bI;have iw:=iw T' dJ;have dJ:=kA T' dJ;exact At l bU T' b KO dJ iw bI (Au T v b ky hb b rfl ((h.own l bU T' KO dJ).lt bI))
  ·obtain⟨k1,lP⟩:=EA r cs ah;rcases As r with⟨j2,rv,lw⟩|⟨KM,_⟩
   ·have aa:∃c2,look (cy 0 cu) j2=some c2:=by
     rw [mV];exact⟨_,List.getElem?_eq_getElem (by have:=(List.getElem?_eq_some_iff.1 rv).1;omega)⟩
    obtain⟨c2,jr⟩:=aa;exact iL.unbox (.slot 0) {d,own} T b j2 c2 (by simp [aC.at,h_,look]) aA (by simpa [cc]using hb) jr (gO j2 r b rv lT)
   ·obtain⟨cG,_,_,cZ,bh,_⟩:=h.box r k1 lP;rw [lT]at cZ;cases cZ;exact Ez r k1 b lP KM lT (Au T v b ky hb b rfl (lt_of_heap bh))
 ·subst KN;have iM:=iL.e7 (.slot 0) {d:=.v x} (by simp [aC.at,h_,look])
  have:=nH iM
  simpa [cc]using this
end
def Su{i:Int}{n:Nat}(h:aH i n=true):0≤i∧i<n:=by simpa [aH]using h
def uV{i:Int}{n:Nat}(h:gG i n=true):0≤i∧i≤n:=by simpa [gG]using h
def aa3{i:Int}{n:Nat}(h:0≤i∧i≤n):gG i n=true:=by simpa [gG]using h
def Sv{a b:Int}{n:Nat}(h:lm a b n=true):0≤a∧a≤b∧b≤n:=by simpa [lm]using h
def Sw{a:Int}(h:D8 a=true):a≠0:=by simpa [D8]using h
def KP{n b:Nat}(h:room n b=true):n*b≤140737488355328:=by simpa [room]using h
def aa4{n:Nat}(h:bM n=true):n≤9223372036854775807:=by simpa [bM]using h
section
variable {P:Program} {K:Ctx} {N:Nat} {M:Mem} {β:Nat→Option Nat} {st:aC} {g:c8} {tmps:Array Value} {w:World} {o:Oper} {f:kR} {p:Path} {tt:dq} {bZ:ge} {ops:List Oper}
def Sx:∀(l:List (Nat×aP)) (s:Nat),look (o9 l) s=(look l s).map λe=>({d:=e.d}:aP)
 |[],s=>rfl
 |(t,e)::l,s=>by
  simp only [o9,dC];by_cases h:t=s
  ·simp [h]
  ·simp only [h,if_false];exact Sx l s
def bw.o9{st:aC}(h:bw P K M β st tmps w){env:List (Nat×aP)}(he:∀s e,look env s=some e→∃bU,look st.env s=some bU∧bU.d=e.d):bw P K M β {env:=Ab.o9 env,H:=st.H,aK:=st.aK} tmps w:=
 h.sub rfl (λl e ab=>by
  cases l with
  |slot s=>
   simp only [aC.at,Sx,Option.map_eq_some_iff]at ab;obtain⟨e1,Z,rfl⟩:=ab;obtain⟨bU,aa,aj⟩:=he s e1 Z;exact⟨bU,aa,aj,λ_ h=>by cases h⟩
  |cell r i=>exact⟨e,ab,rfl,λ_ h=>h⟩) (λr cs ah=>⟨cs,ah,rfl⟩)
def aa5(P:Program)(K:Ctx)(M:Mem)(β:Nat→Option Nat)(g:c8)(x:V)(hs:List (Nat×List aP))(o:Oper)(tmps:Array Value)(w:World):Prop:=
 (∃v,(execOp (Act.eval ⟨tmps,[]⟩) o).run P w = .halt (.panic v) w∧cP M v x∧hs=[])∨
 (∃fn vs,(execOp (Act.eval ⟨tmps,[]⟩) o).run P w = .ok (.enter fn vs) w∧Calls P fn vs w λe w'=>∃v M' ,e = .panicked [{v,recovered:=false}]∧cP M' v x∧
  bw P K M' β {env:=o9 g.env,H:=hs++g.H,aK:=g.aK} tmps w')
def aa6{op:BinOp}{k:IntKind}{a b:Int}{x:V}{aO:List Prop}(h:JS op k a b=some (x,aO))(b7:∀q,q∈aO→q)(t:TypeId):
 ∃v,(binOp op t (.int k a) (.int k b)).run P w = .ok v w∧cP M v x:=by
 have fin:∀{s:Sem Value} {v:Value},s.run P w = .ok v w→cP M v x→∃v,s.run P w = .ok v w∧cP M v x:=λZ aa=>⟨_,Z,aa⟩
 cases op<;>simp only [JS,Option.some.injEq,Prod.mk.injEq,reduceCtorEq]at h<;>obtain⟨rfl,rfl⟩:=h
 case quo=>
  have hb:=Sw (b7 _ (List.mem_singleton.2 rfl));refine fin (v:=.int k (k.wrap (a.tdiv b))) ?_ (.int _ _);simp [binOp,Op.intDiv,hb]
 case rem=>
  have hb:=Sw (b7 _ (List.mem_singleton.2 rfl));refine fin (v:=.int k (a.tmod b)) ?_ (.int _ _);simp [binOp,Op.intDiv,hb]
 case add=>exact fin (v:=.int k (k.wrap (a+b))) (by simp [binOp,Op.intArith]) (.int _ _)
 case sub=>exact fin (v:=.int k (k.wrap (a-b))) (by simp [binOp,Op.intArith]) (.int _ _)
 case mul=>exact fin (v:=.int k (k.wrap (a*b))) (by simp [binOp,Op.intArith]) (.int _ _)
 case eql=>exact fin (v:=.bool (decide (a=b))) (by simp [binOp,Op.intCmp];rfl) (.bool _)
 case neq=>exact fin (v:=.bool (!decide (a=b))) (by simp [binOp,Op.intCmp];rfl) (.bool _)
 case lss=>exact fin (v:=.bool (decide (a<b))) (by simp [binOp,Op.intCmp]) (.bool _)
 case leq=>exact fin (v:=.bool (decide (a≤b))) (by simp [binOp,Op.intCmp]) (.bool _)
 case gtr=>exact fin (v:=.bool (decide (b<a))) (by simp [binOp,Op.intCmp]) (.bool _)
 case geq=>exact fin (v:=.bool (decide (b≤a))) (by simp [binOp,Op.intCmp]) (.bool _)
 case and=>exact fin (v:=.int k (o7 k a b)) (by simp [binOp,Op.intBits,o7]) (.int _ _)
 case or=>exact fin (v:=.int k (p3 k a b)) (by simp [binOp,Op.intBits,p3]) (.int _ _)
 case xor=>exact fin (v:=.int k (mi k a b)) (by simp [binOp,Op.intBits,mi]) (.int _ _)
 case andNot=>exact fin (v:=.int k (JQ k a b)) (by simp [binOp,Op.intBits,JQ]) (.int _ _)
def aa7{op:BinOp}{k k':IntKind}{a b:Int}{x:V}{aO:List Prop}(h:JR op k a b=some (x,aO))(b7:∀q,q∈aO→q)(t:TypeId):
 ∃v,(binOp op t (.int k a) (.int k' b)).run P w = .ok v w∧cP M v x:=by
 unfold JR at h;split at h
 ·simp only [Option.some.injEq,Prod.mk.injEq]at h;obtain⟨rfl,rfl⟩:=h;have hb:0≤b:=by simpa [nA]using b7 (nA b=true) (by simp)
  exact⟨.int k (oq k a b),by simp [binOp,Op.shift,show¬ b<0 by omega,oq],.int _ _⟩
 ·simp only [Option.some.injEq,Prod.mk.injEq]at h;obtain⟨rfl,rfl⟩:=h;have hb:0≤b:=by simpa [nA]using b7 (nA b=true) (by simp)
  exact⟨.int k (mN k a b),by simp [binOp,Op.shift,show¬ b<0 by omega,mN],.int _ _⟩
 ·cases h
def aa8{op:BinOp}{a b:ano}{x:V}{aO:List Prop}(h:JT op a b=some (x,aO))(b7:∀q,q∈aO→q)(t:TypeId):
 ∃v,(binOp op t (.string ⟨⟨a⟩⟩) (.string ⟨⟨b⟩⟩)).run P w = .ok v w∧cP M v x:=by
 have fin:∀{s:Sem Value} {v:Value},s.run P w = .ok v w→cP M v x→∃v,s.run P w = .ok v w∧cP M v x:=λZ aa=>⟨_,Z,aa⟩
 have qf:=Em a;have xj:=Em b;have he:(a == b)=decide (a=b):=by by_cases mu:a=b<;>simp [mu]
 cases op<;>simp only [JT,Option.some.injEq,Prod.mk.injEq,reduceCtorEq]at h<;>obtain⟨rfl,rfl⟩:=h
 case add=>
  have hb:=aa4 (b7 _ (List.mem_singleton.2 rfl));refine fin (v:=.string ⟨⟨a++b⟩⟩) ?_ (.str _)
  have dR:¬ ((((⟨⟨a⟩⟩:ByteArray).size+(⟨⟨b⟩⟩:ByteArray).size:Nat):Int) > IntKind.i64.max):=by
   have Z:(⟨⟨a⟩⟩:ByteArray).size=a.length:=rfl;have aa:(⟨⟨b⟩⟩:ByteArray).size=b.length:=rfl;have aj:IntKind.i64.max=9223372036854775807:=by decide
   rw [Z,aa,aj];omega
  simp only [binOp,Op.stringOp];rw [if_neg dR];simp;apply ByteArray.ext;simp
 case eql=>exact fin (v:=.bool (decide (a=b))) (by simp [binOp,Op.stringOp,qf,xj,he]) (.bool _)
 case neq=>exact fin (v:=.bool (!decide (a=b))) (by simp [binOp,Op.stringOp,qf,xj,he]) (.bool _)
 case lss=>exact fin (v:=.bool (Op.bytesLess a b)) (by simp [binOp,Op.stringOp,qf,xj]) (.bool _)
 case leq=>exact fin (v:=.bool (Op.bytesLess a b||decide (a=b))) (by simp [binOp,Op.stringOp,qf,xj,he]) (.bool _)
 case gtr=>exact fin (v:=.bool (!(Op.bytesLess a b||decide (a=b)))) (by simp [binOp,Op.stringOp,qf,xj,he]) (.bool _)
 case geq=>exact fin (v:=.bool (!Op.bytesLess a b)) (by simp [binOp,Op.stringOp,qf,xj]) (.bool _)
def aa9{t:TypeId}{aE:en}(r:Row P t aE)(hk:aE.k = .ptr):∃e,r.desc = .pointer e:=by
 have:=r.hk
 rw [hk]at this;cases hd:r.desc<;>simp [hd,kY]at this;exact⟨_,rfl⟩
def aa'{t:TypeId}{aE:en}(r:Row P t aE)(hk:aE.k = .oo):∃e,r.desc = .interface e:=by
 have:=r.hk
 rw [hk]at this;cases hd:r.desc<;>simp [hd,kY]at this;exact⟨_,rfl⟩
def aa_{t:TypeId}{aE:en}(r:Row P t aE)(hk:aE.k = .aS):∃a b c,r.desc = .func a b c:=by
 have:=r.hk
 rw [hk]at this;cases hd:r.desc<;>simp [hd,kY]at this;exact⟨_,_,_,rfl⟩
def KQ{t:TypeId}{aE:en}(r:Row P t aE)(hk:aE.k = .bool):r.desc = .bool:=by
 have:=r.hk
 rw [hk]at this;cases hd:r.desc<;>simp [hd,kY]at this;rfl
def Sy{t:TypeId}{aE:en}(r:Row P t aE){ht xk:Value}{a b:D}{res:Bool}(ha:ce M β ht a)(hb:ce M β xk b)(ab:D9 aE.k b=true)(hn:isNil aE.k a=some res):
 (Op.equal t ht xk).run P w = .ok res w∧(∀op,(binOp op t ht xk)=match op with|.eql=>(do pure (.bool (←Op.equal t ht xk)))|.neq=>(do pure (.bool (!(←Op.equal t ht xk))))|_=>binOp op t ht xk):=by
 obtain⟨dep,hm⟩:∃d,Op.maxDepth=d+1:=⟨9999,rfl⟩;unfold D9 at ab;split at ab<;>try cases ab
 ·rename_i hk;cases nH hb
  obtain⟨e,hd⟩:=aa9 r hk;rw [hk]at hn;unfold isNil at hn;split at hn<;>simp_all
  ·cases nH ha
   refine⟨?_,λop=>by cases op<;>rfl⟩
   rw [Op.equal,hm,Op.equalIn];simp [r.run_underlying,hd]
  ·obtain⟨bo,_,rfl⟩:=ri ha;subst hn;refine⟨?_,λop=>by cases op<;>rfl⟩
   rw [Op.equal,hm,Op.equalIn];simp [r.run_underlying,hd]
  ·obtain⟨bo,off,val,rfl,_⟩:=Ej ha;subst hn;refine⟨?_,λop=>by cases op<;>rfl⟩
   rw [Op.equal,hm,Op.equalIn];simp [r.run_underlying,hd]
 ·rename_i hk;cases nH hb
  obtain⟨e,hd⟩:=aa' r hk;rw [hk]at hn;unfold isNil at hn;split at hn<;>simp_all
  ·cases nH ha
   refine⟨?_,λop=>by cases op<;>rfl⟩
   rw [Op.equal,hm,Op.equalIn];simp [r.run_underlying,hd]
  ·obtain⟨u,rfl,_⟩:=J_ ha;subst hn;refine⟨?_,λop=>by cases op<;>rfl⟩
   rw [Op.equal,hm,Op.equalIn];simp [r.run_underlying,hd]
 ·rename_i hk;cases nH hb
  obtain⟨e1,e2,e3,hd⟩:=aa_ r hk;rw [hk]at hn;unfold isNil at hn;split at hn<;>simp_all
  ·cases nH ha
   refine⟨?_,λop=>by cases op<;>rfl⟩
   rw [Op.equal,hm,Op.equalIn];simp [r.run_underlying,hd]
  ·obtain⟨u,rfl,_⟩:=RO ha;subst hn;refine⟨?_,λop=>by cases op<;>rfl⟩
   rw [Op.equal,hm,Op.equalIn];simp [r.run_underlying,hd]
end
section
variable {P:Program} {K:Ctx} {N:Nat} {M:Mem} {β:Nat→Option Nat} {st:aC} {g:c8} {tmps:Array Value} {w:World} {o:Oper} {f:kR} {p:Path} {tt:dq} {bZ:ge} {ops:List Oper}
structure Hyp(P:Program)(K:Ctx)(N:Nat)(M:Mem)(β:Nat→Option Nat)(g:c8)(tmps:Array Value)(w:World)(p:Path)(tt:dq):Prop where
 bd:ft P K N M β g tmps w
 dB:fB tmps p
 tt:e_ P tt=true
def aba(h:Hyp P K N M β g tmps w p tt){x:Operand}(an:o.op = .move x)(hs:step1 bZ tt ops g p o=some (.go f)):Yields P K M β g f o tmps w:=by
 simp only [step1,an]at hs;split at hs
 case h_2=>cases hs
 rename_i d hd
 repeat' (first|(split at hs)|(rw [Bool.cond_eq_ite]at hs))
 all_goals first
  |(cases hs;done)
  |(cases hs;exact RT h.bd h.dB (.inl an) hd (by assumption))
  |(cases hs;exact En h.bd h.dB (.inl an) hd)
def abb(h:Hyp P K N M β g tmps w p tt){x:Operand}(an:o.op = .assign x)(hs:step1 bZ tt ops g p o=some (.go f)):Yields P K M β g f o tmps w:=by
 simp only [step1,an]at hs;split at hs
 case h_2=>cases hs
 rename_i d hd;split at hs
 ·rename_i e t fW;rw [Bool.cond_eq_ite]at hs;split at hs<;>cases hs
  ·exact RT h.bd h.dB (.inr an) hd fW
  ·exact En h.bd h.dB (.inr an) hd
 ·split at hs
  ·rw [Bool.cond_eq_ite]at hs;split at hs<;>cases hs
   ·exact aam h.bd h.dB an hd _
   ·exact En h.bd h.dB (.inr an) hd
  ·cases hs
 ·cases hs;exact En h.bd h.dB (.inr an) hd
def abc(h:Hyp P K N M β g tmps w p tt){c:Nat}{a b:Operand}(an:o.op = .pick (.tmp c) a b)(hs:step1 bZ tt ops g p o=some (.go f)):Yields P K M β g f o tmps w:=by
 simp only [step1,an]at hs;split at hs
 case h_2=>cases hs
 rename_i sz zY p6 Z aa aj;cases hs;exact aan h.bd h.dB an Z aa aj
def abd(h:Hyp P K N M β g tmps w p tt){t:TypeId}(an:o.op = .alloc t)(hs:step1 bZ tt ops g p o=some (.go f)):Yields P K M β g f o tmps w:=by
 simp only [step1,an]at hs;split at hs
 case h_2=>cases hs
 rename_i id eZ hid;split at hs
 case h_2=>cases hs
 rename_i z cx;cases hs;exact aap h.bd h.tt an cx hid
def abe(h:Hyp P K N M β g tmps w p tt){t:TypeId}{x:Operand}(an:o.op = .box t x)(hs:step1 bZ tt ops g p o=some (.go f)):Yields P K M β g f o tmps w:=by
 simp only [step1,an]at hs;split at hs
 case h_2=>cases hs
 rename_i d id eZ aE hd hid ab;rw [Bool.cond_eq_ite]at hs;split at hs<;>cases hs
 rename_i EB;simp only [Bool.or_eq_true,Bool.not_eq_true',not_or,Bool.not_eq_true,Bool.not_eq_false,Nat.beq_eq]at EB;exact aaq h.bd h.dB an hd EB.1.1 EB.1.2 h.tt ab EB.2 hid
def abf(h:Hyp P K N M β g tmps w p tt){t:TypeId}{parts:Array (Nat×Operand)}(an:o.op = .build t parts)(hs:step1 bZ tt ops g p o=some (.go f)):Yields P K M β g f o tmps w:=by
 simp only [step1,an]at hs;split at hs
 ·rename_i cd e0 j_ zero _ bi ab fY;rw [Bool.cond_eq_ite]at hs;split at hs
  case isFalse=>cases hs
  rename_i mT;split at hs
  ·simp only [Option.map_eq_some_iff]at hs;obtain⟨d,⟨cs,dQ,rfl⟩,hs⟩:=hs;cases hs;exact R4 h.bd h.dB h.tt ab rfl mT an fY (λr=>r.aat) dQ
  ·simp only [Option.map_eq_some_iff]at hs;obtain⟨d,⟨cs,dQ,rfl⟩,hs⟩:=hs;cases hs;exact R4 h.bd h.dB h.tt ab rfl mT an fY (λr=>r.R3) dQ
 ·rename_i n e e0 j_ zero _ bi ab fY;split at hs
  case h_2=>cases hs
  rename_i al abg Sz z2 ep;simp only [Option.map_eq_some_iff]at hs;obtain⟨d,⟨cs,dQ,rfl⟩,hs⟩:=hs;cases hs;exact aav h.bd h.dB h.tt ab rfl ep an fY dQ
 ·cases hs
def abh(h:Hyp P K N M β g tmps w p tt){t:TypeId}{len:Nat}{parts:Array (Nat×Operand)}(an:o.op = .buildSlice t len parts)(hs:step1 bZ tt ops g p o=some (.go f))(b7:∀q,q∈f.aO→q):Yields P K M β g f o tmps w:=by
 simp only [step1,an]at hs;split at hs
 case h_2=>cases hs
 rename_i e e0 j_ zero _ bi ab fY;split at hs
 case h_2=>cases hs
 rename_i al abg Sz z2 ep;split at hs
 case h_2=>cases hs
 rename_i xs x rs hx eu;rw [Bool.cond_eq_ite]at hs;split at hs
 case isFalse=>cases hs
 rename_i hc;simp only [Bool.and_eq_true,Nat.ble_eq,Nat.beq_eq]at hc;cases hs;exact aax h.bd h.dB h.tt ab rfl ep an fY hx hc.2 hc.1.2 hc.1.1 (b7 _ (List.mem_singleton.2 rfl))
def abi(h:Hyp P K N M β g tmps w p tt){t:TypeId}{a:Operand}(an:o.op = .load t a)(hs:step1 bZ tt ops g p o=some (.go f)):Yields P K M β g f o tmps w:=by
 simp only [step1,an]at hs;split at hs
 ·rename_i q off aE ha ab;split at hs
  case h_2=>cases hs
  rename_i cs ak;rw [Bool.cond_eq_ite]at hs;split at hs
  ·rename_i jp;rw [Bool.cond_eq_ite]at hs;split at hs
   case isFalse=>cases hs
   rename_i hle;cases hs;exact aaA h.bd h.dB h.tt ab an ha ak jp (by simpa using hle)
  ·rename_i jp;split at hs
   case h_2=>cases hs
   rename_i e he;split at hs
   ·rename_i s rs fK eu;rw [Bool.cond_eq_ite]at hs;split at hs<;>cases hs
    exact aaC h.bd h.dB h.tt ab an ha ak (by simpa using jp) he fK
   ·cases hs;exact aaB h.bd h.dB h.tt ab an ha ak (by simpa using jp) he
 ·rename_i x aE ha ab;rw [Bool.cond_eq_ite]at hs;split at hs
  case isFalse=>cases hs
  rename_i hc;simp only [Bool.and_eq_true,beq_iff_eq,Nat.beq_eq]at hc;cases hs;exact aaD h.bd h.dB h.tt ab an ha hc.1 hc.2
 ·cases hs
def abj(h:Hyp P K N M β g tmps w p tt){t:TypeId}{a x:Operand}(an:o.op = .store t a x)(hs:step1 bZ tt ops g p o=some (.go f)):Yields P K M β g f o tmps w:=by
 simp only [step1,an]at hs;split at hs
 case h_2=>cases hs
 rename_i q off d aE ha hx ab;split at hs
 case h_2=>cases hs
 rename_i cs ak;rw [Bool.cond_eq_ite]at hs;split at hs
 case isFalse=>cases hs
 rename_i hc;simp only [Bool.and_eq_true,Nat.beq_eq,Nat.ble_eq,Bool.not_eq_true']at hc;obtain⟨⟨⟨⟨jI,jr⟩,_⟩,abk⟩,abl⟩:=hc;split at hs
 ·rename_i u s k n get fW;cases hs;simp only [o8,Option.bind_eq_some_iff]at fW;obtain⟨e,he,aA⟩:=fW;have dR:aE.size=1:=by rw [←jI];rfl
  exact Sc h.bd h.dB h.tt ab an ha ak hx dR jr (l:=[u]) (h.bd.bd.hand he aA (.cell q off))
 ·split at hs
  ·cases hs;have mq:=hx;simp only [rd]at mq;split at mq
   ·cases mq;have dR:aE.size=1:=by rw [←jI];rfl
    exact Sc h.bd h.dB h.tt ab an ha ak hx dR jr (l:=[]) (J5 _ _)
   ·cases mq
  ·cases hs
 ·cases hs;exact aaF h.bd h.dB h.tt ab an ha ak hx abk abl jI jr _
def abm(h:Hyp P K N M β g tmps w p tt){x:Operand}(an:o.op = .nilCheck x)(hs:step1 bZ tt ops g p o=some (.go f)):Yields P K M β g f o tmps w:=by
 simp only [step1,an]at hs;split at hs
 ·rename_i q off hd;cases hs;have ah:=dK (ds:=[]) h.bd h.dB hd;obtain⟨b,_,am⟩:=ri ah;refine eI h.bd (v:=(⟨tmps,[]⟩:Act).eval x) ?_ ah;simp [execOp,an,am]
 ·rename_i y hd;cases hs;have ah:=dK (ds:=[]) h.bd h.dB hd;obtain⟨b,off,val,am,_⟩:=Ej ah;refine eI h.bd (v:=(⟨tmps,[]⟩:Act).eval x) ?_ ah;simp [execOp,an,am]
 ·cases hs
def abn(h:Hyp P K N M β g tmps w p tt){op:UnOp}{t:TypeId}{x:Operand}(an:o.op = .unOp op t x)(hs:step1 bZ tt ops g p o=some (.go f)):Yields P K M β g f o tmps w:=by
 simp only [step1,an]at hs;split at hs
 case h_2=>cases hs
 rename_i a ha;simp only [Option.map_eq_some_iff]at hs;obtain⟨d,⟨Aw,xi,rfl⟩,hs⟩:=hs;cases hs;have ah:=dK (ds:=[]) h.bd h.dB ha;unfold RC at xi;split at xi<;>cases xi
 ·have:=uD ah
  refine eI h.bd (v:=.bool _) ?_ (.v _ _ (.bool _));simp [execOp,an,this,Op.unary]
 ·have:=lR ah
  refine eI h.bd (v:=.int _ _) ?_ (.v _ _ (.int _ _));simp [execOp,an,this,Op.unary,Op.intArith]
def abo(h:Hyp P K N M β g tmps w p tt){s t:TypeId}{x:Operand}(an:o.op = .convert s t x)(hs:step1 bZ tt ops g p o=some (.go f))(b7:∀q,q∈f.aO→q):Yields P K M β g f o tmps w:=by
 simp only [step1,an]at hs;split at hs
 ·rename_i db _ _ _ _ k _ _ _ _ e4 n eJ ep hd;cases hs;obtain⟨r1⟩:=ee h.tt eJ;obtain⟨r2⟩:=ee h.tt ep;have ah:=lR (dK (ds:=[]) h.bd h.dB hd);refine eI h.bd (v:=.int k (k.wrap n)) ?_ (.v _ _ (.int _ _));simp only [execOp,an,ah];refine i8 _ ?_;simp [convert,r1.run_underlying,r2.run_underlying,Ac r1 rfl,Ac r2 rfl,Conv.intToInt]
 ·rename_i _ _ _ _ _ _ _ _ l eJ ep hd;cases hs;obtain⟨r1⟩:=ee h.tt eJ;obtain⟨r2⟩:=ee h.tt ep;have ah:=mo (dK (ds:=[]) h.bd h.dB hd);refine eI h.bd (v:=.string ⟨⟨l⟩⟩) ?_ (.v _ _ (.str _));simp only [execOp,an,ah];refine i8 _ ?_;simp [convert,r1.run_underlying,r2.run_underlying,p' r1 rfl,p' r2 rfl]
 ·rename_i e _ _ _ _ _ _ _ _ n get eJ ep hd;split at hs
  case h_2=>cases hs
  rename_i l rs Ax eu;cases hs;obtain⟨r1⟩:=ee h.tt eJ;obtain⟨r2⟩:=ee h.tt ep;obtain⟨r3⟩:=ee h.tt Ax;obtain⟨hlen,ix⟩:=b7 _ (List.mem_singleton.2 rfl);have ah:=dK (ds:=[]) h.bd h.dB hd;refine eI h.bd (v:=.string ⟨⟨l⟩⟩) ?_ (.v _ _ (.str _));simp only [execOp,an];refine i8 _ ?_;rcases sF ah with⟨hn|⟨a,hn⟩,am⟩|⟨b,off,cap,val,am,hc,hk,cF,Z,gj⟩
  ·have hl0:l=[]:=List.eq_nil_of_length_eq_zero (hlen.trans am);rw [hn,hl0];simp [convert,r1.run_underlying,r2.run_underlying,r3.run_underlying,pf r1 rfl,p' r2 rfl,Ac r3 rfl,Conv.bytesToString];rfl
  ·have hl0:l=[]:=List.eq_nil_of_length_eq_zero (hlen.trans am);rw [hn,hl0];exact run_convert_bytes_back w s t e a 0 [] (by rw [r1.hd,pf r1 rfl]) (by rw [r3.hd,Ac r3 rfl]) (by rw [r2.hd,p' r2 rfl]) (λj hj=>by simp at hj)
  ·rw [am,←hlen]
   have hY:∀j (hj:j<l.length),w.cell? ((⟨b,off,none⟩:Addr).add j)=some (.int .u8 (l[j].toNat:Int)):=by
    intro j hj;have KR:j<n:=by omega
    have e1:=ix j KR;have e2:=gj j 0 (.int .u8 ((l.getD j 0).toNat:Int)) KR (by rw [e1];rfl)
    have e3:val j 0 = .int .u8 ((l.getD j 0).toNat:Int):=by generalize val j 0=u at e2 ⊢;cases e2;rfl
    have gk:=h.bd.bd.mem _ _ _ (cF j 0 KR (by omega))
    rw [addr_add];have lU:off+j*1+0=off+j:=by omega
    rw [lU,e3]at gk;rw [gk];simp [List.getD,List.getElem?_eq_getElem hj]
   exact run_convert_bytes_back w s t e ⟨b,off,none⟩ cap l (by rw [r1.hd,pf r1 rfl]) (by rw [r3.hd,Ac r3 rfl]) (by rw [r2.hd,p' r2 rfl]) hY
 ·cases hs
def abp(h:Hyp P K N M β g tmps w p tt){t:TypeId}{x:Operand}(an:o.op = .makeInterface t x)(hs:step1 bZ tt ops g p o=some (.go f)):Yields P K M β g f o tmps w:=by
 simp only [step1,an]at hs;split at hs
 case h_2=>cases hs
 rename_i y k e0 j_ z _ hd ab;obtain⟨r⟩:=ee h.tt ab;have ah:=dK (ds:=[]) h.bd h.dB hd
 have hc:P.concrete t=true∨k = .oo:=by
  have hk:=r.hk;cases SA:r.desc<;>simp [SA,kY]at hk
  all_goals first
   |exact .inr hk.symm
   |(left;simp [Program.concrete,r.hd,SA])
 split at hs
 ·cases hs
 ·rename_i hk;cases hs;rcases hc with hc|hc
  ·refine eI h.bd (v:=.iface t ((⟨tmps,[]⟩:Act).eval x)) ?_ (.v _ _ (.iface t _ _ (nH ah)));simp only [execOp,an];exact i8 _ (run_makeInterface w t _ hc)
  ·exact absurd hc hk
def abq(h:Hyp P K N M β g tmps w p tt){fn:FuncId}{first eN:Array Operand}(an:o.op = .makeFunc (.func fn) first eN)(hs:step1 bZ tt ops g p o=some (.go f)):Yields P K M β g f o tmps w:=by
 simp only [step1,an]at hs;rw [Bool.cond_eq_ite]at hs;split at hs
 case isFalse=>cases hs
 rename_i he;simp only [Option.map_eq_some_iff]at hs;obtain⟨ds,hJ,hs⟩:=hs;cases hs;obtain⟨Z,aa⟩:=sH hJ;have uM:first = #[]:=by simpa using he
 subst uM;refine eI h.bd (v:=.func (.func fn) #[] (eN.map (⟨tmps,[]⟩:Act).eval)) ?_ ?_
 ·simp [execOp,an,Instr.makeFunc]
 ·have:eN.map (⟨tmps,[]⟩:Act).eval=⟨eN.toList.map (⟨tmps,[]⟩:Act).eval⟩:=by apply Array.ext';simp
  rw [this];refine .fn fn _ ds (by simp [Z]) λi v c am hc=>?_
  simp only [List.getElem?_map,Option.map_eq_some_iff]at am;obtain⟨y,bV,rfl⟩:=am;exact dK h.bd h.dB (aa i y c bV hc)
def abr(h:Hyp P K N M β g tmps w p tt){x:Operand}{i:Nat}(an:o.op = .extract x i)(hs:step1 bZ tt ops g p o=some (.go f)):Yields P K M β g f o tmps w:=by
 simp only [step1,an]at hs;split at hs
 case h_2=>cases hs
 rename_i ds hd;simp only [Option.map_eq_some_iff]at hs;obtain⟨d,sN,hs⟩:=hs;cases hs;obtain⟨vs,am,hlen,ah⟩:=aah (dK (ds:=[]) h.bd h.dB hd);have hi:i<ds.length:=(List.getElem?_eq_some_iff.1 sN).1;have eH:vs[i]? = some vs[i]:=List.getElem?_eq_getElem (by omega)
 refine eI h.bd (v:=vs[i]) ?_ (ah i _ d eH sN);simp only [execOp,an,am];refine i8 _ ?_;simp [Instr.extract,eH]
end
section
variable {P:Program} {K:Ctx} {N:Nat} {M:Mem} {β:Nat→Option Nat} {st:aC} {g:c8} {tmps:Array Value} {w:World} {o:Oper} {f:kR} {p:Path} {tt:dq} {bZ:ge} {ops:List Oper}
def rx{op:BinOp}{t t2:TypeId}{x y:Operand}(an:o.op = .binOp op t x y t2){a b v:Value}(hx:(⟨tmps,[]⟩:Act).eval x=a)(bV:(⟨tmps,[]⟩:Act).eval y=b)
 (hg:(eqGuard op t x y a b).run P w = .ok () w) (h:(binOp op t a b).run P w = .ok v w):(execOp (Act.eval ⟨tmps,[]⟩) o).run P w = .ok (.value v) w:=by
 simp only [execOp,an,hx,bV];refine i8 _ ?_;simp only [Sem.run_bind,hg,Result.andThen_ok,h]
def xl{op:BinOp}{t:TypeId}{x y:Operand}{a b:Value}(h:∀cs ds,¬ (a = .agg cs∧b = .agg ds))(aa:a = .nilIface→b = .nilIface→isConst y=true):(eqGuard op t x y a b).run P w = .ok () w:=by
 unfold eqGuard;cases op<;>try rfl
 all_goals
  simp only
  cases a<;>cases b<;>first
   |rfl
   |(exact absurd ⟨rfl,rfl⟩ (h _ _))
   |(have:=aa rfl rfl;cases y<;>simp [isConst]at this;simp)
def abs(cf:e_ P tt=true){d:Nat}{hF:TypeId}{Ay:List (Option lN)}{x y:V}{xs ys:List V}{ht ry:Value}{r:Bool}
 (he:iI ((look tt hF).map (·.k)::Ay) (x::xs) (y::ys)=some r) (Az:cP M ht x) (AA:cP M ry y):∃c q,(Op.equalIn (d+1) hF ht ry).run P w = .ok c w∧iI Ay xs ys=some q∧(c&&q)=r:=by
 cases ab:look tt hF with
 |none=>simp [ab,iI]at he
 |some aE=>
  obtain⟨row⟩:=ee cf ab;have qg:=row.hd;simp only [ab,Option.map_some]at he;unfold iI at he;split at he<;>simp only [List.cons.injEq,reduceCtorEq]at *
  case h_2 ks kk k a l k' b m e1 e2 e3=>
   obtain⟨e1,rfl⟩:=e1;obtain⟨rfl,rfl⟩:=e2;obtain⟨rfl,rfl⟩:=e3;cases Az;cases AA
   rw [Bool.cond_eq_ite]at he;split at he
   case isFalse=>cases he
   rename_i hk;simp only [decide_eq_true_eq]at hk;subst hk;simp only [Option.map_eq_some_iff]at he;obtain⟨q,ak,ah⟩:=he;refine⟨decide (a=b),q,?_,ak,ah⟩
   have:∃rz,row.desc = .int rz:=by
    have:=row.hk
    rw [Option.some.inj e1]at this;cases hd:row.desc<;>simp [hd,kY]at this;exact⟨_,rfl⟩
   obtain⟨rz,jL⟩:=this;rw [jL]at qg;rw [run_equalIn_int w d hF k rz a b qg];rfl
  case h_3 ks a l b m e1 e2 e3=>
   obtain⟨e1,rfl⟩:=e1;obtain⟨rfl,rfl⟩:=e2;obtain⟨rfl,rfl⟩:=e3;cases Az;cases AA
   simp only [Option.map_eq_some_iff]at he;obtain⟨q,ak,ah⟩:=he;refine⟨decide (a=b),q,?_,ak,ah⟩
   have:row.desc = .string:=p' row (Option.some.inj e1)
   rw [this]at qg;rw [run_equalIn_string w d hF _ _ qg,Em,Em];by_cases mu:a=b<;>simp [mu]
  case h_4 ks a l b m e1 e2 e3=>
   obtain⟨e1,rfl⟩:=e1;obtain⟨rfl,rfl⟩:=e2;obtain⟨rfl,rfl⟩:=e3;cases Az;cases AA
   simp only [Option.map_eq_some_iff]at he;obtain⟨q,ak,ah⟩:=he;refine⟨(a == b),q,?_,ak,ah⟩
   have:row.desc = .bool:=KQ row (Option.some.inj e1)
   rw [this]at qg;rw [run_equalIn_bool' w d hF _ _ qg]
def nK(P:Program)(cd:List Field):List (Nat×TypeId×Nat):=cd.map λf=>(f.offset,f.type,P.cellsOf f.type)
def EC:∀{db al:List (Option lN)} {xs ys:List V} {r:Bool},iI (db++al) xs ys=some r→
 ∃r1 r2,iI db (xs.take db.length) (ys.take db.length)=some r1∧iI al (xs.drop db.length) (ys.drop db.length)=some r2∧(r1&&r2)=r∧db.length≤xs.length∧db.length≤ys.length∧∀k,k∈db→k.isSome=true
 |[],al,xs,ys,r,h=>⟨true,r,by simp [iI],by simpa using h,rfl,Nat.zero_le _,Nat.zero_le _,λk hk=>by cases hk⟩
 |k::db,al,xs,ys,r,h=>by
  simp only [List.cons_append]at h;unfold iI at h;split at h<;>simp only [List.cons.injEq,reduceCtorEq]at *
  ·rename_i ks kk k' a l al' b m e1;obtain⟨rfl,rfl⟩:=e1;rw [Bool.cond_eq_ite]at h;split at h
   case isFalse=>cases h
   rename_i hk;simp only [Option.map_eq_some_iff]at h;obtain⟨q,ak,rfl⟩:=h;obtain⟨r1,r2,Z,aa,aj,aD,aV,bP⟩:=EC ak;refine⟨decide (a=b)&&r1,r2,?_,aa,by rw [Bool.and_assoc,aj],by simpa using aD,by simpa using aV,λrz jL=>?_⟩
   ·simp only [List.length_cons,List.take_succ_cons,iI,hk,cond_true,Z,Option.map_some]
   ·rcases List.mem_cons.1 jL with rfl|jL
    ·rfl
    ·exact bP rz jL
  ·rename_i ks a l b m e1;obtain⟨rfl,rfl⟩:=e1;simp only [Option.map_eq_some_iff]at h;obtain⟨q,ak,rfl⟩:=h;obtain⟨r1,r2,Z,aa,aj,aD,aV,bP⟩:=EC ak;refine⟨decide (a=b)&&r1,r2,?_,aa,by rw [Bool.and_assoc,aj],by simpa using aD,by simpa using aV,λrz jL=>?_⟩
   ·simp only [List.length_cons,List.take_succ_cons,iI,Z,Option.map_some]
   ·rcases List.mem_cons.1 jL with rfl|jL
    ·rfl
    ·exact bP rz jL
  ·rename_i ks a l b m e1;obtain⟨rfl,rfl⟩:=e1;simp only [Option.map_eq_some_iff]at h;obtain⟨q,ak,rfl⟩:=h;obtain⟨r1,r2,Z,aa,aj,aD,aV,bP⟩:=EC ak;refine⟨(a == b)&&r1,r2,?_,aa,by rw [Bool.and_assoc,aj],by simpa using aD,by simpa using aV,λrz jL=>?_⟩
   ·simp only [List.length_cons,List.take_succ_cons,iI,Z,Option.map_some]
   ·rcases List.mem_cons.1 jL with rfl|jL
    ·rfl
    ·exact bP rz jL
def sO(tt:dq)(hF:TypeId):Nat→List (Option lN)
 | 0=>[(look tt hF).map (·.k)]
 |q+1=>match look tt hF with
  |some {k:=.bT gs,..}=>mj tt q gs
  |o=>[o.map (·.k)]
def ED(q:Nat)(f:Field)(cd:List Field):mj tt q (nK P (f::cd))=sO tt f.type q++mj tt q (nK P cd):=by
 cases q with
 |zero=>rfl
 |succ q=>
  simp only [mj,nK,List.map_cons,List.flatMap_cons,sO];rfl
def SB{t:TypeId}{aE:en}(r:Row P t aE){gs:Array Field}(h:P.underlying t=some (.struct gs)):aE.k = .bT (nK P gs.toList):=by
 have hd:r.desc = .struct gs:=Option.some.inj (r.hd.symm.trans h);have:=r.hk
 rw [hd]at this;simp [kY]at this;exact this.symm
def SC{t:TypeId}{aE:en}(r:Row P t aE){gs:List (Nat×TypeId×Nat)}(h:aE.k = .bT gs):∃cd:Array Field,P.underlying t=some (.struct cd)∧gs=nK P cd.toList:=by
 have Z:=r.hk;rw [h]at Z;cases hd:r.desc<;>simp [hd,kY]at Z
 rename_i cd;refine⟨cd,?_,Z.symm⟩
 rw [r.hd,hd]
def SD(cf:e_ P tt=true){hF:TypeId}(h:∀gs,P.underlying hF≠some (.struct gs))(q:Nat):sO tt hF q=[(look tt hF).map (·.k)]:=by
 cases q with
 |zero=>rfl
 |succ q=>
  simp only [sO];split
  ·rename_i gs _ _ _ _ ab;obtain⟨row⟩:=ee cf ab;obtain⟨cd,Z,_⟩:=SC row rfl;exact absurd Z (h cd)
  ·rfl
def KS(cf:e_ P tt=true):∀(q:Nat) (cd:List Field),(∀k,k∈mj tt q (nK P cd)→k.isSome=true)→(mj tt q (nK P cd)).length=rh P q cd
 | 0,cd,_=>by simp [mj,nK,rh]
 |q+1,[],_=>by simp [mj,nK,rh]
 |q+1,f::cd,h=>by
  rw [ED]at h ⊢;have aF:=KS cf (q+1) cd λk hk=>h k (List.mem_append_right _ hk)
  have hc:rh P (q+1) (f::cd)=(match P.underlying f.type with|some (.struct gs)=>rh P q gs.toList|_=>1)+rh P (q+1) cd:=by
   simp only [rh,List.map_cons,List.sum_cons];rfl
  rw [List.length_append,aF,hc]
  congr 1
  simp only [sO]at h ⊢;split
  ·rename_i gs _ _ _ _ ab;obtain⟨row⟩:=ee cf ab;obtain⟨AB,Z,rfl⟩:=SC row rfl;rw [Z];refine KS cf q AB.toList λk hk=>h k (List.mem_append_left _ ?_)
   rw [ab];exact hk
  ·rename_i o oB;cases an:look tt f.type with
   |none=>
    have:=h none (List.mem_append_left _ (by rw [an];simp))
    cases this
   |some aE=>
    obtain⟨row⟩:=ee cf an;split
    ·rename_i gs hu;have:=SB row hu
     obtain⟨k,s,b,z,hI⟩:=aE;simp only at this
     subst this;exact absurd an (oB _ _ _ _ _)
    ·rfl
def SE (cf : e_ P tt = true) {d : Nat} {f : Field} {cd : List Field} {i : Nat} {Ay : List (Option lN)} {xs ys : List V} {vs us : List Value} {r : Bool} (sP : f.offset = i) (js : ¬ f.name = "_") (jp : (isAgg f.type).run P w = .ok false w)
 (he:iI ((look tt f.type).map (·.k)::Ay) xs ys=some r)
 (am:∀(j:Nat) v x,vs[i+j]? = some v→xs[j]? = some x→cP M v x) (hu:∀(j:Nat) v x,us[i+j]? = some v→ys[j]? = some x→cP M v x) (gQ:i+xs.length≤vs.length) (uH:i+ys.length≤us.length)
 (aF:∀(q:Bool),∀{AC AD:List V},iI Ay AC AD=some q→(∀(j:Nat) v x,vs[i+1+j]? = some v→AC[j]? = some x→cP M v x)→(∀(j:Nat) v x,us[i+1+j]? = some v→AD[j]? = some x→cP M v x)→i+1+AC.length≤vs.length→i+1+AD.length≤us.length→(Op.eqFields (d+1) ⟨vs⟩ ⟨us⟩ cd).run P w = .ok q w):
 (Op.eqFields (d+1) ⟨vs⟩ ⟨us⟩ (f::cd)).run P w = .ok r w:=by
 cases xs with
 |nil=>simp [iI]at he
 |cons x xs=>
  cases ys with
  |nil=>simp [iI]at he
  |cons y ys=>
   simp only [List.length_cons]at gQ uH;obtain⟨ht,eH⟩:∃ht,vs[i]? = some ht:=⟨_,List.getElem?_eq_getElem (by omega)⟩
   obtain⟨ry,SF⟩:∃ry,us[i]? = some ry:=⟨_,List.getElem?_eq_getElem (by omega)⟩
   have Az:=am 0 ht x eH rfl;have AA:=hu 0 ry y SF rfl
   have EE:∀{zs:List Value} {z:Value},zs[i]? = some z→(part f.type ⟨zs⟩ f.offset).run P w = .ok z w:=by
    intro zs z cx;have:(⟨zs⟩:Array Value)[f.offset]? = some z:=by rw [sP];simpa using cx
    simp only [part,Sem.run_bind,jp,Result.andThen_ok,this];rfl
   obtain⟨c,q,Z,aa,aj⟩:=abs (P:=P) (w:=w) (M:=M) cf (d:=d) he Az AA;have aD:=aF q aa (λj v z Z aa=>am (j+1) v z (by rw [←Z];congr 1;omega) (by simpa using aa)) (λj v z Z aa=>hu (j+1) v z (by rw [←Z];congr 1;omega) (by simpa using aa)) (by omega) (by omega)
   simp only [Op.eqFields];rw [if_pos js];simp only [Sem.run_bind,EE eH,EE SF,Result.andThen_ok,Z];cases c
   ·simp [←aj]
   ·simp [←aj,aD]
def abt(cf:e_ P tt=true):∀(q:Nat) {d:Nat} {cd:List Field} {i:Nat} {xs ys:List V} {vs us:List Value} {r:Bool},uC P q i cd=true→iI (mj tt q (nK P cd)) xs ys=some r→
 (∀(j:Nat) v x,vs[i+j]? = some v→xs[j]? = some x→cP M v x)→(∀(j:Nat) v x,us[i+j]? = some v→ys[j]? = some x→cP M v x)→i+xs.length≤vs.length→i+ys.length≤us.length→
 (Op.eqFields (d+q+1) ⟨vs⟩ ⟨us⟩ cd).run P w = .ok r w:=by
 intro q;induction q with
 |zero=>
  intro d cd;induction cd with
  |nil=>intro i xs ys vs us r _ he _ _ _ _;cases xs<;>cases ys<;>simp [mj,nK,iI]at he;subst he;simp [Op.eqFields]
  |cons f cd aF=>
   intro i xs ys vs us r bJ he am hu gQ uH;simp only [uC,w9,Bool.and_eq_true,Nat.beq_eq,Bool.not_eq_true',decide_eq_false_iff_not]at bJ;obtain⟨⟨sP,js⟩,gy⟩:=bJ
   have xm:(∀gs,P.underlying f.type≠some (.struct gs))∧uC P 0 (i+1) cd=true∧(isAgg f.type).run P w = .ok false w:=by
    simp only [isAgg,Sem.run_bind];split at gy
    ·rename_i k hk;refine⟨λgs h=>(by rw [hk]at h;cases h),gy,?_⟩;rw [Go.run_underlying hk];rfl
    ·rename_i hk;refine⟨λgs h=>(by rw [hk]at h;cases h),gy,?_⟩;rw [Go.run_underlying hk];rfl
    ·rename_i hk;refine⟨λgs h=>(by rw [hk]at h;cases h),gy,?_⟩;rw [Go.run_underlying hk];rfl
    ·simp at gy
    ·cases gy
   exact SE cf sP js xm.2.2 (by rw [ED,SD cf xm.1]at he;exact he) am hu gQ uH λq' AC AD pi oz KT Z aa=>aF xm.2.1 pi oz KT Z aa
 |succ q abu=>
  intro d cd;induction cd with
  |nil=>intro i xs ys vs us r _ he _ _ _ _;cases xs<;>cases ys<;>simp [mj,nK,iI]at he;subst he;simp [Op.eqFields]
  |cons f cd aF=>
   intro i xs ys vs us r bJ he am hu gQ uH;have KU:=bJ;simp only [uC,w9,Bool.and_eq_true,Nat.beq_eq,Bool.not_eq_true',decide_eq_false_iff_not]at bJ;obtain⟨⟨sP,js⟩,gy⟩:=bJ;by_cases cS:∃gs,P.underlying f.type=some (.struct gs)
   ·obtain⟨gs,xn⟩:=cS;rw [xn]at gy;simp only [Bool.and_eq_true,Bool.not_eq_true',Nat.beq_eq]at gy;obtain⟨⟨⟨abv,abw⟩,abx⟩,SG⟩:=gy;rw [ED]at he;obtain⟨r1,r2,e1,e2,e3,g',jK,uT⟩:=EC he
    have kd:∃aE,look tt f.type=some aE:=by
     cases ab:look tt f.type with
     |none=>have:=uT none (by simp [sO,ab]);cases this
     |some aE=>exact⟨aE,rfl⟩
    obtain⟨aE,EF⟩:=kd;obtain⟨row⟩:=ee cf EF;have hk:=SB row xn
    have uP:sO tt f.type (q+1)=mj tt q (nK P gs.toList):=by
     obtain⟨k,s,b,z,hI⟩:=aE;simp only at hk
     subst hk;simp only [sO,EF]
    rw [uP]at e1 e2 g' jK uT;have hn:=KS cf q gs.toList uT;rw [hn,←abw]at e1 e2 g' jK;generalize aU:P.cellsOf f.type=n at e1 e2 g' jK
    obtain⟨info,Ep⟩:=info_of_underlying xn
    have EE:∀zs:List Value,(part f.type ⟨zs⟩ f.offset).run P w = .ok (.agg ⟨(zs.drop i).take n⟩) w:=by
     intro zs
     have:(⟨zs⟩:Array Value).extract i (i+n)=⟨(zs.drop i).take n⟩:=by
      apply Array.ext';rw [Array.toList_extract];simp [List.extract]
     simp only [part,isAgg,Sem.run_bind,run_underlying xn,run_sizeOf w Ep,Result.andThen_ok,Sem.run_pure,sP,aU];simp [this,run_sizeOf w Ep,aU]
    have mm:∀{zs:List Value} {cs:List V},(∀(j:Nat) v x,zs[i+j]? = some v→cs[j]? = some x→cP M v x)→∀(j:Nat) v x,((zs.drop i).take n)[0+j]? = some v→(cs.take n)[j]? = some x→cP M v x:=by
     intro zs cs h j v x Z aa;rw [Nat.zero_add,List.getElem?_take]at Z;rw [List.getElem?_take]at aa;split at Z
     ·rename_i hj;rw [if_pos hj]at aa;rw [List.getElem?_drop]at Z;exact h j v x Z aa
     ·cases Z
    have xd:P.fieldsOf f.type=gs:=by simp [Program.fieldsOf,xn]
    have hin:(Op.equalIn (d+(q+1)+1) f.type (.agg ⟨(vs.drop i).take n⟩) (.agg ⟨(us.drop i).take n⟩)).run P w = .ok r1 w:=by
     rw [run_equalIn_agg w (d+(q+1)) f.type _ _ (by rw [xd];exact xn) abv,xd]
     exact abu (d:=d) (i:=0) abx e1 (mm am) (mm hu) (by simp;omega) (by simp;omega)
    have SH:∀{zs:List Value} {cs:List V},(∀(j:Nat) v x,zs[i+j]? = some v→cs[j]? = some x→cP M v x)→∀(j:Nat) v x,zs[i+n+j]? = some v→(cs.drop n)[j]? = some x→cP M v x:=by
     intro zs cs h j v x Z aa;rw [List.getElem?_drop]at aa;exact h (n+j) v x (by rw [←Nat.add_assoc];exact Z) aa
    rw [aU]at SG;have i7:=aF (i:=i+n) SG e2 (SH am) (SH hu) (by simp;omega) (by simp;omega)
    simp only [Op.eqFields];rw [if_pos js];simp only [Sem.run_bind,EE,Result.andThen_ok,hin];cases r1
    ·simp [←e3]
    ·simp [←e3,i7]
   ·have xm:uC P (q+1) (i+1) cd=true∧(isAgg f.type).run P w = .ok false w:=by
     simp only [isAgg,Sem.run_bind];split at gy
     ·rename_i k hk;refine⟨gy,?_⟩;rw [Go.run_underlying hk];rfl
     ·rename_i hk;refine⟨gy,?_⟩;rw [Go.run_underlying hk];rfl
     ·rename_i hk;refine⟨gy,?_⟩;rw [Go.run_underlying hk];rfl
     ·rename_i gs hk;exact absurd ⟨gs,hk⟩ cS
     ·cases gy
    exact SE cf sP js xm.2 (by rw [ED,SD cf (λgs h=>cS ⟨gs,h⟩)]at he;exact he) am hu gQ uH λq' AC AD pi oz KT Z aa=>aF xm.1 pi oz KT Z aa
def SI(cf:e_ P tt=true){t:TypeId}{cd:List (Nat×TypeId×Nat)}{e0 j_:Nat}{z:List V}{hI:List (Nat×TypeId)}(ab:look tt t=some {k:=.bT cd,size:=e0,bytes:=j_,zero:=z,jl:=hI})(he:J8 P t=true){xs ys:List V}{r:Bool}(ah:iI (mj tt 4 cd) xs ys=some r)
 {ht ry:Value} (am:cP M ht (.agg xs)) (hu:cP M ry (.agg ys)):∃vs us,ht = .agg ⟨vs⟩∧ry = .agg ⟨us⟩∧(Op.equalIn 10000 t (.agg ⟨vs⟩) (.agg ⟨us⟩)).run P w = .ok r w∧∀op a b,(eqGuard op t a b (.agg ⟨vs⟩) (.agg ⟨us⟩)).run P w = .ok () w:=by
 obtain⟨row⟩:=ee cf ab;cases am with
 |agg vs _ hn Z gj=>
  cases hu with
  |agg us _ Eg mQ aby=>
   refine⟨vs,us,rfl,rfl,?_⟩
   unfold J8 at he;split at he
   case h_2=>cases he
   rename_i AB qg;simp only [Bool.and_eq_true,Bool.not_eq_true']at he;obtain⟨⟨aa,aj⟩,aD⟩:=he;have KU:P.fieldsOf t=AB:=by simp [Program.fieldsOf,qg]
   have KV:row.desc = .struct AB:=Option.some.inj (row.hd.symm.trans qg)
   have mT:cd=AB.toList.map λf=>(f.offset,f.type,P.cellsOf f.type):=by
    have:=row.hk
    rw [KV]at this;simp [kY]at this;exact this.symm
   refine⟨?_,λop a b=>run_eqGuard_agg w op t a b _ _ aj⟩
   rw [run_equalIn_agg w 9999 t _ _ (by rw [KU];exact qg) aa,KU]
   refine abt cf 4 (d:=9994) (i:=0) (xs:=xs) (ys:=ys) aD (by rw [mT]at ah;exact ah) (λj v x aV bP=>gj j v x (by simpa using aV) bP) (λj v x aV bP=>aby j v x (by simpa using aV) bP) (by omega) (by omega)
def abz(h:Hyp P K N M β g tmps w p tt){op:BinOp}{t t2:TypeId}{x y:Operand}(an:o.op = .binOp op t x y t2)(hs:step1 (jq P) tt ops g p o=some (.go f))(b7:∀q,q∈f.aO→q):Yields P K M β g f o tmps w:=by
 simp only [step1,an]at hs;split at hs
 case h_3=>cases hs
 case h_1=>
  rename_i xs ys ha hb;have pk:=nH (dK (ds:=[]) h.bd h.dB ha);have oC:=nH (dK (ds:=[]) h.bd h.dB hb);split at hs
  case h_2=>cases hs
  rename_i cd e0 j_ z _ ab;rw [Bool.cond_eq_ite]at hs;split at hs
  case isFalse=>cases hs
  rename_i he;split at hs
  ·rename_i r ah;cases hs;obtain⟨vs,us,e1,e2,Z,aa⟩:=SI (w:=w) (M:=M) h.tt ab he ah pk oC;exact eI h.bd (rx an e1 e2 (aa _ _ _) (by rw [run_eql_struct,Z];rfl)) (.v _ _ (.bool _))
  ·rename_i r ah;cases hs;obtain⟨vs,us,e1,e2,Z,aa⟩:=SI (w:=w) (M:=M) h.tt ab he ah pk oC;exact eI h.bd (rx an e1 e2 (aa _ _ _) (by rw [run_neq_struct,Z];rfl)) (.v _ _ (.bool _))
  ·cases hs
 rename_i a b ha hb;simp only [Option.map_eq_some_iff]at hs;obtain⟨⟨z,aO⟩,cx,hs⟩:=hs;cases hs;have pk:=dK (ds:=[]) h.bd h.dB ha;have oC:=dK (ds:=[]) h.bd h.dB hb;unfold RB at cx;split at cx
 ·rename_i db m al n;have e1:=lR pk;have e2:=lR oC;split at cx
  ·rename_i z0 hsh;cases cx;obtain⟨v,am,ah⟩:=aa7 (P:=P) (w:=w) (M:=M) (k':=al) hsh b7 t;exact eI h.bd (rx an e1 e2 (xl (by simp) (by simp)) am) (.v _ _ ah)
  rw [Bool.cond_eq_ite]at cx;split at cx
  case isFalse=>cases cx
  rename_i hk;simp only [decide_eq_true_eq]at hk;subst hk;obtain⟨v,am,ah⟩:=aa6 (P:=P) (w:=w) (M:=M) cx b7 t;exact eI h.bd (rx an e1 e2 (xl (by simp) (by simp)) am) (.v _ _ ah)
 ·have e1:=mo pk;have e2:=mo oC;obtain⟨v,am,ah⟩:=aa8 (P:=P) (w:=w) (M:=M) cx b7 t;exact eI h.bd (rx an e1 e2 (xl (by simp) (by simp)) am) (.v _ _ ah)
 ·rename_i cG gz;have e1:=uD pk;have e2:=uD oC;obtain⟨dep,hm⟩:∃d,Op.maxDepth=d+1:=⟨9999,rfl⟩;cases ab:look tt t with
  |none=>rw [ab]at cx;simp at cx
  |some aE=>
   rw [ab]at cx;obtain⟨r⟩:=ee h.tt ab;split at cx<;>cases cx
   ·rename_i hk;simp at hk
    refine eI h.bd (v:=.bool (cG == gz)) (rx an e1 e2 (xl (by simp) (by simp)) ?_) (.v _ _ (.bool _))
    simp only [binOp,Sem.run_bind];rw [Op.equal,hm,Op.equalIn];simp [r.run_underlying,KQ r hk]
   ·rename_i hk;simp at hk
    refine eI h.bd (v:=.bool (!(cG == gz))) (rx an e1 e2 (xl (by simp) (by simp)) ?_) (.v _ _ (.bool _))
    simp only [binOp,Sem.run_bind];rw [Op.equal,hm,Op.equalIn];simp [r.run_underlying,KQ r hk]
 ·cases ab:look tt t with
  |none=>rw [ab]at cx;simp at cx
  |some aE=>
   rw [ab]at cx;simp only [Option.map_some]at cx;obtain⟨r⟩:=ee h.tt ab;rw [Bool.cond_eq_ite]at cx;split at cx
   case isFalse=>cases cx
   rename_i hc;simp only [Bool.and_eq_true]at hc
   have SJ:(eqGuard op t x y ((⟨tmps,[]⟩:Act).eval x) ((⟨tmps,[]⟩:Act).eval y)).run P w = .ok () w:=by
    refine xl ?_ (λ_ _=>hc.2)
    rintro cs ds ⟨_,bI⟩
    rw [bI]at oC;have KW:=hc.1;unfold D9 at KW;split at KW<;>first|(cases nH oC;done)|(cases KW;done)
   split at cx<;>cases cx
   ·rename_i res hn;obtain⟨Z,aa⟩:=Sy (w:=w) r pk oC hc.1 hn;refine eI h.bd (v:=.bool res) (rx an rfl rfl SJ ?_) (.v _ _ (.bool _));rw [aa .eql];simp [Z]
   ·rename_i res hn;obtain⟨Z,aa⟩:=Sy (w:=w) r pk oC hc.1 hn;refine eI h.bd (v:=.bool (!res)) (rx an rfl rfl SJ ?_) (.v _ _ (.bool _));rw [aa .neq];simp [Z]
def abA(h:Hyp P K N M β g tmps w p tt){s:TypeId}{x:Operand}{i:Nat}(an:o.op = .fieldAddr s x i)(hs:step1 bZ tt ops g p o=some (.go f)):Yields P K M β g f o tmps w:=by
 simp only [step1,an]at hs;split at hs
 ·rename_i q off cd e0 j_ z _ hd ab;obtain⟨r⟩:=ee h.tt ab;split at hs
  case h_2=>cases hs
  rename_i dr hF xo bJ;rw [Bool.cond_eq_ite]at hs;split at hs
  case isFalse=>cases hs
  rename_i hc;cases hs;obtain⟨b,hb,am⟩:=ri (dK (ds:=[]) h.bd h.dB hd);refine eI h.bd (v:=.pointer (some ⟨b,off+dr,none⟩)) ?_ (.ptr _ _ _ hb);simp only [execOp,an,am];exact i8 _ (RR r rfl bJ (by simpa using hc) b off)
 ·rename_i cs cd e0 j_ z _ hd ab;obtain⟨r⟩:=ee h.tt ab;split at hs
  case h_2=>cases hs
  rename_i dr hF xo bJ;split at hs
  case h_2=>cases hs
  rename_i xc EG;rw [Bool.cond_eq_ite]at hs;split at hs
  case isFalse=>cases hs
  rename_i hc;simp only [Bool.and_eq_true,Nat.ble_eq]at hc;obtain⟨b,off,val,am,cF,Z,ah⟩:=Ej (dK (ds:=[]) h.bd h.dB hd)
  have eO:(execOp (Act.eval ⟨tmps,[]⟩) o).run P w = .ok (.value (.pointer (some ⟨b,off+dr,none⟩))) w:=by
   simp only [execOp,an,am];exact i8 _ (RR r rfl bJ hc.1 b off)
  simp only [V.cells]at cF Z ah;rw [Bool.cond_eq_ite]at hs;split at hs
  ·cases hs;have hlen:((cs.drop dr).take xo).length=xo:=by simp;omega
   refine eI h.bd eO (.eE b (off+dr) _ (λj=>val (dr+j)) (λj hj=>?_) (λj hj=>?_) (λj c hj=>?_))
   ·simp only [V.cells,hlen]at hj;rw [Nat.add_assoc];exact cF _ (by omega)
   ·simp only [V.cells,hlen]at hj;exact Z _ (by omega)
   ·simp only [V.cells]at hj;rw [List.getElem?_take]at hj;split at hj
    ·rw [List.getElem?_drop]at hj;exact ah _ c hj
    ·cases hj
  ·rw [Bool.cond_eq_ite]at hs;split at hs
   case isFalse=>cases hs
   rename_i dR;split at hs
   case h_2=>cases hs
   rename_i c jI;rw [Bool.cond_eq_ite]at hs;split at hs
   ·cases hs
   ·rename_i abB;cases hs;have lq:=xb (x:=c) (by simpa using abB)
    refine eI h.bd eO (.eE b (off+dr) c (λj=>val (dr+j)) (λj hj=>?_) (λj hj=>?_) (λj lQ hj=>?_))
    ·rw [lq]at hj;rw [Nat.add_assoc];exact cF _ (by have:=(List.getElem?_eq_some_iff.1 jI).1;simp at hj;omega)
    ·rw [lq]at hj;exact Z _ (by have:=(List.getElem?_eq_some_iff.1 jI).1;simp at hj;omega)
    ·rw [lq]at hj;cases j with
     |zero=>simp at hj;subst hj;exact ah _ _ jI
     |succ j=>simp at hj
 ·cases hs
def abC(h:Hyp P K N M β g tmps w p tt){s:TypeId}{x:Operand}{i:Nat}(an:o.op = .field s x i)(hs:step1 bZ tt ops g p o=some (.go f)):Yields P K M β g f o tmps w:=by
 simp only [step1,an]at hs;split at hs
 case h_3=>cases hs
 case h_2=>
  rename_i cs cd e0 j_ z _ hd ab;obtain⟨r⟩:=ee h.tt ab;split at hs
  case h_2=>cases hs
  rename_i dr hF xo bJ;split at hs
  case h_2=>cases hs
  rename_i xc c EG jI;obtain⟨KX⟩:=ee h.tt EG;rw [Bool.cond_eq_ite]at hs;split at hs
  ·cases hs
  rename_i hc;simp only [Bool.or_eq_true,not_or,Bool.not_eq_true,Bool.not_eq_true',Bool.not_eq_false,Nat.beq_eq]at hc;cases hs;have lx:=dK (ds:=[]) h.bd h.dB hd;generalize uW:(⟨tmps,[]⟩:Act).eval x=ht at lx
  cases lx with
  |agg vs _ hn Z ah=>
   have bm:dr<cs.length:=(List.getElem?_eq_some_iff.1 jI).1;have eH:vs[dr]? = some vs[dr]:=List.getElem?_eq_getElem (by omega)
   obtain⟨ha,hb⟩:=RS (w:=w) r rfl bJ KX vs (by omega)
   refine eI h.bd (v:=vs[dr]) ?_ (ah _ _ c eH jI);simp only [execOp,an,uW];exact i8 _ (hb hc.1.1 _ eH)
 rename_i cs cd e0 j_ z _ hd ab;obtain⟨r⟩:=ee h.tt ab;split at hs
 case h_2=>cases hs
 rename_i dr hF xo bJ;split at hs
 case h_2=>cases hs
 rename_i xc EG;obtain⟨KX⟩:=ee h.tt EG;rw [Bool.cond_eq_ite]at hs;split at hs
 case isFalse=>cases hs
 rename_i hc;simp only [Nat.ble_eq]at hc;obtain⟨vs,am,hlen,Z,ah⟩:=aag (dK (ds:=[]) h.bd h.dB hd);obtain⟨ha,hb⟩:=RS (w:=w) r rfl bJ KX vs (by omega)
 rw [Bool.cond_eq_ite]at hs;split at hs
 ·rename_i jp;cases hs;refine eI h.bd (v:=.agg ⟨(vs.drop dr).take xo⟩) ?_ (.v _ _ (.agg _ _ (by simp;omega) (λv am=>Z v (List.mem_of_mem_drop (List.mem_of_mem_take am))) (λj v c am jG=>?_)))
  ·simp only [execOp,an,am];exact i8 _ (ha jp)
  ·rw [List.getElem?_take]at am jG;split at am
   ·rename_i hj;rw [if_pos hj,List.getElem?_drop]at jG;rw [List.getElem?_drop]at am;exact ah _ v c am jG
   ·cases am
 ·rename_i jp;split at hs
  case h_2=>cases hs
  rename_i c jI;cases hs;have bm:dr<cs.length:=(List.getElem?_eq_some_iff.1 jI).1;have eH:vs[dr]? = some vs[dr]:=List.getElem?_eq_getElem (by omega)
  refine eI h.bd (v:=vs[dr]) ?_ (.v _ _ (ah _ _ c eH jI));simp only [execOp,an,am];exact i8 _ (hb (by simpa using jp) _ eH)
def abD{x y:V}(am:gM x y){k b off:Nat}{val:Nat→Value}(hk:x.cells.length=k)(cF:∀q,q<k→M b (off+q)=some (val q))(Z:∀q,q<k→(val q).oneCell'=true)
 (ah:∀(q:Nat) c,x.cells[q]? = some c→cP M (val q) c):ce M β (.pointer (some ⟨b,off,none⟩)) (.eE y):=by
 subst hk;have bV:=am M _ (RP Z ah);cases hx:x.isAgg with
 |true=>
  rw [hx]at bV;simp only [cond_true]at bV;cases bV with
  |agg vs cs hn mQ fJ=>
   have hlen:cs.length=x.cells.length:=by simpa using hn.symm
   refine .eE b off _ val (λj hj=>cF j (by simp only [V.cells]at hj;omega)) (λj hj=>Z j (by simp only [V.cells]at hj;omega)) (λj c hj=>?_)
   simp only [V.cells]at hj;have uQ:j<x.cells.length:=by have:=(List.getElem?_eq_some_iff.1 hj).1;omega
   exact fJ j (val j) c (by simp [uQ]) hj
  |any _ mQ=>simp [Value.oneCell']at mQ
 |false=>
  rw [hx]at bV;simp only [cond_false]at bV;have xp:=xb hx;have iJ:=Z 0 (by rw [xp];simp)
  have abE:y.isAgg=false:=by
   cases y<;>first|rfl|skip
   exfalso
   generalize val 0=u at bV iJ
   cases bV;simp [Value.oneCell']at iJ
  have KY:=xb abE;refine .eE b off y val (λj hj=>cF j (by rw [xp];rw [KY]at hj;exact hj)) (λj hj=>Z j (by rw [xp];rw [KY]at hj;exact hj)) (λj c hj=>?_)
  rw [KY]at hj;cases j with
  |zero=>simp at hj;subst hj;exact bV
  |succ j=>simp at hj
def abF(h:Hyp P K N M β g tmps w p tt){t:TypeId}{x i:Operand}(an:o.op = .indexAddr t x i)(hs:step1 bZ tt ops g p o=some (.go f))(b7:∀q,q∈f.aO→q):Yields P K M β g f o tmps w:=by
 simp only [step1,an]at hs;split at hs
 case h_2=>cases hs
 rename_i k n get kk j e e0 j_ z _ hx hi ab;obtain⟨r⟩:=ee h.tt ab;split at hs
 case h_2=>cases hs
 rename_i al size Sz z2 ep;obtain⟨dy⟩:=ee h.tt ep;rw [Bool.cond_eq_ite]at hs;split at hs
 case isFalse=>cases hs
 rename_i hc;simp only [Bool.and_eq_true,Nat.beq_eq,Nat.ble_eq]at hc;obtain⟨rfl,abG⟩:=hc
 have kC:∃(y:V) (rs:List e6) (aO:List Prop),f={e:=some {d:=.eE y},rs,aO}∧gM (get j.toNat) y∧aH j n=true:=by
  split at hs
  ·rename_i y rs eu;cases hs;exact⟨_,_,_,rfl,b7 _ (by simp),b7 (aH j n=true) (by simp)⟩
  ·cases hs;exact⟨_,_,_,rfl,λ_ _ h=>h,b7 (aH j n=true) (by simp)⟩
  ·cases hs
 obtain⟨y,rs,aO,rfl,cZ,fA⟩:=kC;have fA:=Su fA;have KZ:=lR (dK (ds:=[]) h.bd h.dB hi);rcases sF (dK (ds:=[]) h.bd h.dB hx) with⟨_,jJ⟩|⟨b,off,cap,val,am,_,hk,cF,Z,ah⟩
 ·omega
 ·have bm:j.toNat<n:=by omega
  have bV:ce M β (.pointer (some ⟨b,off+j.toNat*k,none⟩)) (.eE y):=
   abD cZ (hk _ bm) (λq ak=>cF _ q bm ak) (λq ak=>Z _ q bm ak) (λq c ak=>ah _ q c bm ak)
  refine eI h.bd (v:=.pointer (some ⟨b,off+j.toNat*k,none⟩)) ?_ bV;simp only [execOp,an,am,KZ];exact i8 _ (aak r rfl dy fA.1 fA.2)
def abH(h:Hyp P K N M β g tmps w p tt){t:TypeId}{x i:Operand}(an:o.op = .index t x i)(hs:step1 bZ tt ops g p o=some (.go f))(b7:∀q,q∈f.aO→q):Yields P K M β g f o tmps w:=by
 simp only [step1,an]at hs;split at hs
 case h_2=>cases hs
 rename_i l kk j e0 j_ z _ hx hi ab;obtain⟨r⟩:=ee h.tt ab;cases hs;have hb:=Su (b7 (aH j l.length=true) (by simp))
 have ex:=mo (dK (ds:=[]) h.bd h.dB hx);have KZ:=lR (dK (ds:=[]) h.bd h.dB hi);refine eI h.bd (v:=.int .u8 (l.getD j.toNat 0).toNat) ?_ (.v _ _ (.int _ _));simp only [execOp,an,ex,KZ];exact i8 _ (aal r rfl hb.1 hb.2)
def abI{k n m:Nat}{get:Nat→V}{a:Nat}{b off cap:Nat}
 {val:Nat→Nat→Value} (hk:∀i,i<n→(get i).cells.length=k) (cF:∀i j,i<n→j<k→M b (off+i*k+j)=some (val i j)) (Z:∀i j,i<n→j<k→(val i j).oneCell'=true)
 (ah:∀(i j:Nat) c,i<n→(get i).cells[j]? = some c→cP M (val i j) c) (hm:a+m≤n) (hc:m≤cap):
 cP M (.slice (some ⟨b,off+a*k,none⟩) m cap) (.bq k m λi=>get (a+i)):=by
 refine .bq b (off+a*k) k m cap _ (λi j=>val (a+i) j) hc (λi hi=>hk _ (by omega)) (λi j hi hj=>?_) (λi j hi hj=>Z _ _ (by omega) hj) (λi j c hi lq=>ah _ _ _ (by omega) lq)
 have:=cF (a+i) j (by omega) hj
 rw [Nat.add_mul]at this
 rwa [show off+a*k+i*k+j=off+(a*k+i*k)+j by omega]
def EH{t e:TypeId}{aE b1:en}(r:Row P t aE)(hk:aE.k = .bq e)(dy:Row P e b1){base:Option Addr}{n cap:Nat}{lo hi:Option Value}{a b:Nat}
 (jM:lo=none∧a=0∨∃k,lo=some (.int k a)) (i':hi=none∧b=n∨∃k,hi=some (.int k b)) (mu:a≤b) (qh:b≤n) (mv:n≤cap):
 (Instr.sliceAt t (.slice base n cap) lo hi none).run P w = .ok (.slice (if cap=a then base else base.map (·.add (a*b1.size))) (b-a) (cap-a)) w:=by
 have hu:=r.run_underlying w;rw [pf r hk]at hu;have EI:b≤cap:=by omega
 rcases jM with⟨rfl,rfl⟩|⟨db,rfl⟩<;>rcases i' with⟨rfl,rfl⟩|⟨al,rfl⟩
 ·simp [Instr.sliceAt,hu,Instr.slice,Instr.sliceBounds,dy.run_sizeOf]
 ·simp [Instr.sliceAt,hu,Instr.slice,Instr.sliceBounds,Instr.sliceBound,asIntOf,dy.run_sizeOf,EI]
 ·simp [Instr.sliceAt,hu,Instr.slice,Instr.sliceBounds,Instr.sliceBound,asIntOf,dy.run_sizeOf,mu]
 ·simp [Instr.sliceAt,hu,Instr.slice,Instr.sliceBounds,Instr.sliceBound,asIntOf,dy.run_sizeOf,EI,mu]
end
section
variable {P:Program} {K:Ctx} {N:Nat} {M:Mem} {β:Nat→Option Nat} {st:aC} {g:c8} {tmps:Array Value} {w:World} {o:Oper} {f:kR} {p:Path} {tt:dq} {bZ:ge} {ops:List Oper}
def rA{t:TypeId}{x:Operand}{lo hi jF:Option Operand}(an:o.op = .slice t x lo hi jF){v u:Value}(hx:(⟨tmps,[]⟩:Act).eval x=v){a b:Option Value}(ha:lo.map (⟨tmps,[]⟩:Act).eval=a)(hb:hi.map (⟨tmps,[]⟩:Act).eval=b){c:Option Value}(hm:jF.map (⟨tmps,[]⟩:Act).eval=c)
 (h:(Instr.sliceAt t v a b c).run P w = .ok u w):(execOp (Act.eval ⟨tmps,[]⟩) o).run P w = .ok (.value u) w:=by
 simp only [execOp,an,hx,ha,hb,hm];exact i8 _ h
def EJ{t:TypeId}{aE:en}(r:Row P t aE)(hk:aE.k = .str){l:ano}{lo hi:Option Value}{a b:Nat}
 (jM:lo=none∧a=0∨∃k,lo=some (.int k a)) (i':hi=none∧b=l.length∨∃k,hi=some (.int k b)) (mu:a≤b) (qh:b≤l.length):
 (Instr.sliceAt t (.string ⟨⟨l⟩⟩) lo hi none).run P w = .ok (.string ⟨⟨(l.take b).drop a⟩⟩) w:=by
 have hu:=r.run_underlying w;rw [p' r hk]at hu;have hs:(⟨⟨l⟩⟩:ByteArray).size=l.length:=rfl
 have hx:(⟨⟨l⟩⟩:ByteArray).extract a b=⟨⟨(l.take b).drop a⟩⟩:=by
  have:=ByteArray.extract_mk l a b
  rw [List.drop_take];exact this
 rcases jM with⟨rfl,rfl⟩|⟨db,rfl⟩<;>rcases i' with⟨rfl,rfl⟩|⟨al,rfl⟩
 ·simp [Instr.sliceAt,hu,Instr.slice,Instr.sliceBounds]
 ·simp [Instr.sliceAt,hu,Instr.slice,Instr.sliceBounds,Instr.sliceBound,asIntOf,qh,hs,hx]
 ·simp [Instr.sliceAt,hu,Instr.slice,Instr.sliceBounds,Instr.sliceBound,asIntOf,mu,hs,hx]
 ·simp [Instr.sliceAt,hu,Instr.slice,Instr.sliceBounds,Instr.sliceBound,asIntOf,qh,mu,hs,hx]
def AE{v:Value}{k n:Nat}{get:Nat→V}(am:ce M β v (.v (.bq k n get))){a b:Nat}(mu:a≤b)(qh:b≤n){base:Option Addr}{cap:Nat}(uX:v = .slice base n cap)(mv:n≤cap):
 cP M (.slice (if cap=a then base else base.map (·.add (a*k))) (b-a) (cap-a)) (.bq k (b-a) λi=>get (a+i)):=by
 rcases sF am with⟨Z|⟨a0,Z⟩,aa⟩|⟨oA,off,Sg,val,Z,hc,hk,cF,mQ,ah⟩
 ·rw [uX]at Z;cases Z;have:b=0:=by omega
  subst this;have:a=0:=by omega
  subst this;exact .mh _ _
 ·rw [uX]at Z;cases Z;have:b=0:=by omega
  subst this;have:a=0:=by omega
  subst this;exact .p2 _ _ _
 ·rw [uX]at Z;cases Z;by_cases SK:cap=a
  ·rw [if_pos SK];have:b-a=0:=by omega
   rw [this];exact .bq oA off k 0 _ _ (λ_ _=>undef) (Nat.zero_le _) (by simp) (by simp) (by simp) (by simp)
  ·rw [if_neg SK];simp only [Option.map_some,addr_add];exact abI hk cF mQ ah (by omega) (by omega)
def abJ(h:Hyp P K N M β g tmps w p tt){t:TypeId}{x:Operand}{lo hi jF:Option Operand}(an:o.op = .slice t x lo hi jF)(hs:step1 bZ tt ops g p o=some (.go f))(b7:∀q,q∈f.aO→q):Yields P K M β g f o tmps w:=by
 have fk:∀{y:Option Operand} {kk:IntKind} {n:Int},y.map (λy=>rd g.env g.bO p tt o.type y)=some (some (.v (.int kk n)))→y.map (⟨tmps,[]⟩:Act).eval=some (.int kk n):=by
  intro y kk n bV;cases y with
  |none=>simp at bV
  |some y=>
   simp at bV
   simp [lR (dK (ds:=[]) h.bd h.dB bV)]
 have sQ:∀{y:Option Operand},y.map (λy=>rd g.env g.bO p tt o.type y)=none→y.map (⟨tmps,[]⟩:Act).eval=none:=by
  intro y bV;simp at bV;simp [bV]
 simp only [step1,an]at hs;split at hs
 ·rename_i e0 j_ z _ ab;obtain⟨r⟩:=ee h.tt ab;split at hs
  ·rename_i l hx jM i';cases hs;have ex:=mo (dK (ds:=[]) h.bd h.dB hx);have:=EJ (w:=w) r rfl (l:=l) (lo:=none) (hi:=none) (a:=0) (b:=l.length) (.inl ⟨rfl,rfl⟩) (.inl ⟨rfl,rfl⟩) (by omega) (by omega)
   simp at this
   exact eI h.bd (rA an ex (sQ jM) (sQ i') rfl this) (.v _ _ (.str _))
  ·rename_i l db a hx jM i';cases hs;have ex:=mo (dK (ds:=[]) h.bd h.dB hx);have hb:=uV (b7 (gG a l.length=true) (by simp))
   obtain⟨dc,rfl⟩:=Int.eq_ofNat_of_zero_le hb.1;have:=EJ (w:=w) r rfl (l:=l) (lo:=some (.int db dc)) (hi:=none) (a:=dc) (b:=l.length) (.inr ⟨_,rfl⟩) (.inl ⟨rfl,rfl⟩) (by omega) (by omega)
   simp at this
   exact eI h.bd (rA an ex (fk jM) (sQ i') rfl this) (.v _ _ (.str _))
  ·rename_i l al b hx jM i';cases hs;have ex:=mo (dK (ds:=[]) h.bd h.dB hx);have hb:=uV (b7 (gG b l.length=true) (by simp))
   obtain⟨bo,rfl⟩:=Int.eq_ofNat_of_zero_le hb.1;have:=EJ (w:=w) r rfl (l:=l) (lo:=none) (hi:=some (.int al bo)) (a:=0) (b:=bo) (.inl ⟨rfl,rfl⟩) (.inr ⟨_,rfl⟩) (by omega) (by omega)
   simp at this
   exact eI h.bd (rA an ex (sQ jM) (fk i') rfl this) (.v _ _ (.str _))
  ·rename_i l db a al b hx jM i';cases hs;have ex:=mo (dK (ds:=[]) h.bd h.dB hx);have hb:=Sv (b7 (lm a b l.length=true) (by simp))
   obtain⟨dc,rfl⟩:=Int.eq_ofNat_of_zero_le hb.1;obtain⟨bo,rfl⟩:=Int.eq_ofNat_of_zero_le (a:=b) (by omega)
   have:=EJ (w:=w) r rfl (l:=l) (lo:=some (.int db dc)) (hi:=some (.int al bo)) (a:=dc) (b:=bo) (.inr ⟨_,rfl⟩) (.inr ⟨_,rfl⟩) (by omega) (by omega)
   exact eI h.bd (rA an ex (fk jM) (fk i') rfl this) (.v _ _ (.str _))
  ·cases hs
 ·rename_i e e0 j_ z _ ab;obtain⟨r⟩:=ee h.tt ab;split at hs
  ·rename_i db size AF kD k n get al a ep hx jM i';obtain⟨dy⟩:=ee h.tt ep;rw [Bool.cond_eq_ite]at hs;split at hs
   case isFalse=>cases hs
   rename_i hK;simp only [Nat.beq_eq]at hK;subst hK
   have kC:∃(y:V) (rs:List e6) (aO:List Prop),f={e:=some {d:=.v y},rs,aO}∧gM (.bq k (n-a.toNat) λi=>get (a.toNat+i)) y∧gG a n=true:=by
    split at hs
    ·rename_i y rs eu;cases hs;exact⟨_,_,_,rfl,b7 _ (by simp),b7 (gG a n=true) (by simp)⟩
    ·cases hs;exact⟨_,_,_,rfl,λ_ _ h=>h,b7 (gG a n=true) (by simp)⟩
    ·cases hs
   obtain⟨y,rs,aO,rfl,am,hb⟩:=kC;have hb:=uV hb;obtain⟨dc,rfl⟩:=Int.eq_ofNat_of_zero_le hb.1;have kZ:=dK (ds:=[]) h.bd h.dB hx;obtain⟨base,cap,ex,mv⟩:=uE kZ;have:=EH (w:=w) r rfl dy (base:=base) (n:=n) (cap:=cap) (lo:=some (.int al dc)) (hi:=none) (a:=dc) (b:=n) (.inr ⟨_,rfl⟩) (.inl ⟨rfl,rfl⟩) (by omega) (by omega) mv
   refine eI h.bd (rA an ex (fk jM) (sQ i') rfl this) (.v _ _ (am _ _ ?_));have:=AE kZ (a:=dc) (b:=n) (by omega) (by omega) ex mv
   simpa using this
  ·rename_i db size AF kD k n get al b ep hx jM i';obtain⟨dy⟩:=ee h.tt ep;rw [Bool.cond_eq_ite]at hs;split at hs
   case isFalse=>cases hs
   rename_i hK;simp only [Nat.beq_eq]at hK;subst hK
   have kC:∃(y:V) (rs:List e6) (aO:List Prop),f={e:=some {d:=.v y},rs,aO}∧gM (.bq k b.toNat get) y∧gG b n=true:=by
    split at hs
    ·rename_i y rs eu;cases hs;exact⟨_,_,_,rfl,b7 _ (by simp),b7 (gG b n=true) (by simp)⟩
    ·cases hs;exact⟨_,_,_,rfl,λ_ _ h=>h,b7 (gG b n=true) (by simp)⟩
    ·cases hs
   obtain⟨y,rs,aO,rfl,am,hb⟩:=kC;have hb:=uV hb;obtain⟨bo,rfl⟩:=Int.eq_ofNat_of_zero_le hb.1;have kZ:=dK (ds:=[]) h.bd h.dB hx;obtain⟨base,cap,ex,mv⟩:=uE kZ;have:=EH (w:=w) r rfl dy (base:=base) (n:=n) (cap:=cap) (lo:=none) (hi:=some (.int al bo)) (a:=0) (b:=bo) (.inl ⟨rfl,rfl⟩) (.inr ⟨_,rfl⟩) (by omega) (by omega) mv
   refine eI h.bd (rA an ex (sQ jM) (fk i') rfl this) (.v _ _ (am _ _ ?_));have:=AE kZ (a:=0) (b:=bo) (by omega) (by omega) ex mv
   simpa using this
  ·rename_i db size AF kD k n get al a e4 b ep hx jM i';obtain⟨dy⟩:=ee h.tt ep;rw [Bool.cond_eq_ite]at hs;split at hs
   case isFalse=>cases hs
   rename_i hK;simp only [Nat.beq_eq]at hK;subst hK
   have kC:∃(y:V) (rs:List e6) (aO:List Prop),f={e:=some {d:=.v y},rs,aO}∧gM (.bq k (b.toNat-a.toNat) λi=>get (a.toNat+i)) y∧lm a b n=true:=by
    split at hs
    ·rename_i y rs eu;cases hs;exact⟨_,_,_,rfl,b7 _ (by simp),b7 (lm a b n=true) (by simp)⟩
    ·cases hs;exact⟨_,_,_,rfl,λ_ _ h=>h,b7 (lm a b n=true) (by simp)⟩
    ·cases hs
   obtain⟨y,rs,aO,rfl,am,hb⟩:=kC;have hb:=Sv hb;obtain⟨dc,rfl⟩:=Int.eq_ofNat_of_zero_le hb.1;obtain⟨bo,rfl⟩:=Int.eq_ofNat_of_zero_le (a:=b) (by omega)
   have kZ:=dK (ds:=[]) h.bd h.dB hx;obtain⟨base,cap,ex,mv⟩:=uE kZ;have:=EH (w:=w) r rfl dy (base:=base) (n:=n) (cap:=cap) (lo:=some (.int al dc)) (hi:=some (.int e4 bo)) (a:=dc) (b:=bo) (.inr ⟨_,rfl⟩) (.inr ⟨_,rfl⟩) (by omega) (by omega) mv
   refine eI h.bd (rA an ex (fk jM) (fk i') rfl this) (.v _ _ (am _ _ ?_));have:=AE kZ (a:=dc) (b:=bo) (by omega) (by omega) ex mv
   simpa using this
  ·rename_i db size AF kD k n get ep hx jM i';obtain⟨dy⟩:=ee h.tt ep;rw [Bool.cond_eq_ite]at hs;split at hs
   case isFalse=>cases hs
   rename_i hK;simp only [Nat.beq_eq]at hK;subst hK;cases hs;have kZ:=dK (ds:=[]) h.bd h.dB hx;obtain⟨base,cap,ex,mv⟩:=uE kZ;have:=EH (w:=w) r rfl dy (base:=base) (n:=n) (cap:=cap) (lo:=none) (hi:=none) (a:=0) (b:=n) (.inl ⟨rfl,rfl⟩) (.inl ⟨rfl,rfl⟩) (by omega) (by omega) mv
   refine eI h.bd (rA an ex (sQ jM) (sQ i') rfl this) (.v _ _ ?_);have:=AE kZ (a:=0) (b:=n) (by omega) (by omega) ex mv
   simpa using this
  ·cases hs
 ·rename_i m e e0 j_ z _ ab;obtain⟨r⟩:=ee h.tt ab;split at hs
  case h_2=>cases hs
  rename_i size AF kD k n get al b e4 c ep hx i' hm;obtain⟨dy⟩:=ee h.tt ep;rw [Bool.cond_eq_ite]at hs;split at hs
  case isFalse=>cases hs
  rename_i hK;simp only [Nat.beq_eq]at hK;subst hK;cases hs;have EI:=b7 (b=c) (by simp)
  subst EI;have hb:=uV (b7 (gG b n=true) (by simp))
  obtain⟨bo,rfl⟩:=Int.eq_ofNat_of_zero_le hb.1;have kZ:=dK (ds:=[]) h.bd h.dB hx;obtain⟨base,cap,ex,mv⟩:=uE kZ;have qh:bo≤n:=by omega
  have hu:=r.run_underlying w;rw [pf r rfl]at hu
  have eO:(Instr.sliceAt t (.slice base n cap) none (some (.int al bo)) (some (.int e4 bo))).run P w = .ok (.slice (if bo=0 then base else base.map (·.add (0*k))) bo bo) w:=by
   have Z:bo≤cap:=by omega
   simp [Instr.sliceAt,hu,Instr.slice,Instr.sliceBounds,Instr.sliceBound,asIntOf,dy.run_sizeOf,Z]
  have abK:(if bo=0 then base else base.map (·.add (0*k)))=base:=by
   split
   ·rfl
   ·cases base with
    |none=>rfl
    |some a=>simp [Addr.add]
  rw [abK]at eO;have em:(some m).map (⟨tmps,[]⟩:Act).eval=some (.int e4 bo):=fk (y:=some m) hm;refine eI h.bd (rA an ex rfl (fk i') em eO) (.full base k _ get ?_);have SL:=AE kZ (a:=0) (b:=bo) (by omega) qh ex mv
  simp only [Nat.sub_zero]at SL ⊢;have SM:cP M (.slice (if cap=0 then base else base.map (·.add (0*k))) bo cap) (.bq k bo get):=by simpa using SL
  have fA:(if cap=0 then base else base.map (·.add (0*k)))=base:=by
   split
   ·rfl
   ·cases base with
    |none=>rfl
    |some a=>simp [Addr.add]
  rw [fA]at SM;cases SM with
  |mh=>exact .mh _ _
  |p2 a=>exact .p2 _ _ _
  |bq p6 off k n cap get val hc hk cF Z h=>exact .bq p6 off k _ _ get val (Nat.le_refl _) hk cF Z h
 ·cases hs
def SN{c:Call}(an:o.op = .call c)(hc:c.callee = .builtin .len){a:Operand}(ey:c.args.toList=[a]){t:TypeId}(gy:c.argTypes.toList[0]? = some t){ht v:Value}(ha:(⟨tmps,[]⟩:Act).eval a=ht)
 (h:∀ty,(Builtin.len_ #[t] ty #[ht]).run P w = .ok v w):(execOp (Act.eval ⟨tmps,[]⟩) o).run P w = .ok (.value v) w:=by
 have uK:c.args = #[a]:=by apply Array.ext';simpa using ey
 have Ku:∀ty,(Builtin.len_ c.argTypes ty #[ht]).run P w = .ok v w:=by
  intro ty;have h0:c.argTypes[0]? = some t:=by simpa using gy
  have:=h ty
  simp only [Builtin.len_,h0]at this ⊢;exact this
 simp only [execOp,an,resolve,hc,uK,Sem.run_bind,Sem.run_pure,Result.andThen_ok,invoke,builtin,List.map_toArray,List.map_cons,List.map_nil,ha];simp [Ku]
def SO{F:Nat→Option Nat}{l cr:List D}(h:kS F l=some cr):cr.length=l.length:=(w4 h).1.symm
def abL {c : Call} (an : o.op = .call c) {x : Operand} (hc : c.callee = .value x) {fn : FuncId} {vs : List Value} (hx : (⟨tmps, []⟩ : Act).eval x = .func (.func fn) #[] ⟨vs⟩) {fd : Func} (bJ : P.funcs[fn]? = some fd) (hb : fd.body.isSome = true) (hn : fd.name ≠ "runtime.NumGoroutine") :
 (execOp (Act.eval ⟨tmps,[]⟩) o).run P w = .ok (.enter fn ⟨c.args.toList.map (⟨tmps,[]⟩:Act).eval++vs⟩) w:=by
 have qh:fd.body≠none:=by intro bh;rw [bh]at hb;cases hb
 simp [execOp,an,resolve,hc,hx,Deferred.ofValue,invoke,callFunc,bJ,qh,hn]
def SP{F:TypeId→Operand→Option D}:∀{xs:List Operand} {ts:List TypeId} {ds:List D},ln F xs ts=some ds→ds.length=xs.length∧∀(i:Nat) x d,xs[i]? = some x→ds[i]? = some d→∃t,F t x=some d
 |[],ts,ds,h=>by simp [ln]at h;subst h;simp
 |x::xs,[],ds,h=>by simp [ln]at h
 |x::xs,t::ts,ds,h=>by
  simp only [ln]at h;split at h
  case h_2=>cases h
  rename_i d abM hd hJ;cases h;obtain⟨Z,aa⟩:=SP hJ;refine⟨by simp [Z],λi y e bV he=>?_⟩
  cases i with
  |zero=>simp at bV he;subst bV;subst he;exact⟨t,hd⟩
  |succ i=>simp at bV he;exact aa i y e bV he
mutual
def SQ{ρ:List Nat}:∀(d:D) {dv:D},dX (idx ρ) d=some dv→dX (λj=>ρ[j]?) dv=some d
 |.v x,dv,h=>by simp [dX]at h;subst h;simp [dX]
 |.ptr r off,dv,h=>by
  simp only [dX,Option.map_eq_some_iff]at h;obtain⟨j,hj,rfl⟩:=h;simp [dX,Eu hj]
 |.cb r off u,dv,h=>by
  simp only [dX,Option.map_eq_some_iff]at h;obtain⟨j,hj,rfl⟩:=h;simp [dX,Eu hj]
 |.eE x,dv,h=>by simp [dX]at h;subst h;simp [dX]
 |.full k n get,dv,h=>by simp [dX]at h;subst h;simp [dX]
 |.fn g eN,dv,h=>by
  simp only [dX,Option.map_eq_some_iff]at h;obtain⟨l,ab,rfl⟩:=h;simp [dX,EK eN ab]
 |.agg cs,dv,h=>by
  simp only [dX,Option.map_eq_some_iff]at h;obtain⟨l,ab,rfl⟩:=h;simp [dX,EK cs ab]
 |.cn cs,dv,h=>by
  simp only [dX,Option.map_eq_some_iff]at h;obtain⟨l,ab,rfl⟩:=h;simp [dX,EK cs ab]
def EK{ρ:List Nat}:∀(l:List D) {cr:List D},kS (idx ρ) l=some cr→kS (λj=>ρ[j]?) cr=some l
 |[],cr,h=>by simp [kS]at h;subst h;simp [kS]
 |d::l,cr,h=>by
  simp only [kS]at h;split at h
  case h_2=>cases h
  rename_i d1 g' hd ab;cases h;simp [kS,SQ d hd,EK l ab]
end
def SR{ρ:List Nat}:∀{b bo:List aP},mO (idx ρ) b=some bo→mO (λj=>ρ[j]?) bo=some b
 |[],bo,h=>by simp [mO]at h;subst h;simp [mO]
 |e::l,bo,h=>by
  simp only [mO]at h;split at h
  case h_2=>cases h
  rename_i e1 g' he ab;cases h;simp only [D',Option.map_eq_some_iff]at he;obtain⟨d,hd,rfl⟩:=he;simp [mO,D',SQ _ hd,SR ab]
def SS{ρ:List Nat}:∀{bs pj:List (List aP)},jE (idx ρ) bs=some pj→jE (λj=>ρ[j]?) pj=some bs
 |[],pj,h=>by simp [jE]at h;subst h;simp [jE]
 |b::l,pj,h=>by
  simp only [jE]at h;split at h
  case h_2=>cases h
  rename_i cG g' hb ab;cases h;simp [jE,SR hb,SS ab]
def abN{st:aC}(h:bw P K M β st tmps w){ρ:List Nat}{bs H1:List (List aP)}(hn:mP ρ=true)(kB:boxes st.H ρ=some bs)(lS:jE (idx ρ) bs=some H1)
 {os:List Nat} {out:Out} {v:Value} {w':World} {M':Mem} {β':Nat→Option Nat} (iL:bw P (kc M β st tmps w ρ os) M' β' {env:=h_ out,H:=cy 0 H1,aK:=ρ.length} #[v] w'):
 M.le M'∧bw P K M' β {st with env:=gN os st.env} tmps w'∧
 (∀d own,out = .ret d own→∀dv,dX (λj=>ρ[j]?) d=some dv→ce M' β v dv∧∀T l0,own=some T→mR P K M' β {st with env:=gN os st.env} tmps w' l0 v T)∧
 (∀x,out = .az x→cP M' v x):=by
 obtain⟨cZ,fA⟩:=uO kB;have eJ:H1.length=ρ.length:=by rw [(xh lS).1,cZ]
 obtain⟨Z,aa,aj,aD⟩:=KJ h hn kB (SS lS) eJ iL
 have kd:∀r,look (kT ρ bs++st.H) r=look st.H r:=by
  intro r;obtain⟨aV,bP⟩:=KC (H:=st.H) (ρ:=ρ) (bs:=bs) cZ hn r;by_cases hj:∃(j:Nat),ρ[j]? = some r
  ·obtain⟨j,hj⟩:=hj;rw [aV j hj,(fA j r hj).1]
  ·exact bP λj bh=>hj ⟨j,bh⟩
 have fX:∀l,({env:=gN os st.env,H:=kT ρ bs++st.H,aK:=st.aK}:aC).at l=({st with env:=gN os st.env}:aC).at l:=by
  intro l;cases l with
  |slot s=>rfl
  |cell r i=>simp only [aC.at,kd]
 refine⟨Z,aa.sub rfl (λl e ab=>⟨e,by rw [fX];exact ab,rfl,λ_ h=>h⟩) (λr cs ah=>⟨cs,by rw [←ah];exact kd r,rfl⟩),λd own hd dv iY=>?_,aD⟩
 obtain⟨aV,bP⟩:=aj d own hd dv iY;refine⟨aV,λT l0 aA=>?_⟩
 obtain⟨dF,dI,h'⟩:=bP T l0 aA;exact⟨dF,λl e T' b ab=>dI l e T' b (by rw [fX];exact ab),λb r cs hb ah=>h' b r cs hb (by rw [←ah];exact kd r)⟩
def ST(P:Program)(K:Ctx)(M:Mem)(β:Nat→Option Nat)(g:c8)(s:nB)(o:Oper)(tmps:Array Value)(w:World):Prop:=
 match s with
 |.go f=>(∀q,q∈f.aO→q)→Yields P K M β g f o tmps w
 |.az x hs aO=>(∀q,q∈aO→q)→aa5 P K M β g x hs o tmps w
def SU{os:List Nat}{env:List (Nat×aP)}{s:Nat}{e:aP}(h:look env s=some e):∃bU,look (gN os env) s=some bU∧bU.d=e.d:=by
 rw [nG,h];split
 ·exact⟨_,rfl,rfl⟩
 ·exact⟨_,rfl,rfl⟩
def K0{g:c8}(h:ft P K N M β g tmps w){xs:List Operand}{ts:List TypeId}:∀{os:List Nat} {hd:List (Nat×Option Nat×TypeId)},handed tt g xs ts os=some hd→∀{vs:List Value},
 (∀(i:Nat) t,xs[i]? = some (.tmp t)→vs[i]? = some (tmps.getD t undef))→(∀(i:Nat),xs[i]? = some (.const (.slice none 0 0))→vs[i]? = some (.slice none 0 0))→
 Handed {env:=g.env,H:=g.H,aK:=g.aK} tmps vs hd
 |[],hd,bh,vs,_,_=>by
  simp [handed]at bh;subst bh;exact⟨by simp,by simp,by simp⟩
 |i::os,hd,bh,vs,Z,aa=>by
  simp only [handed]at bh;split at bh
  ·rename_i t l hx ab;have aF:=K0 h ab Z aa;split at bh
   case h_2=>cases bh
   rename_i d e he;rw [Bool.cond_eq_ite]at bh;split at bh
   case isFalse=>cases bh
   rename_i hc;simp only [Bool.and_eq_true,List.all_eq_true,Bool.not_eq_true']at hc;cases bh;refine⟨λmn bE T hm=>?_,λmn T hm=>?_,λmn uR bE T T' hm jN=>?_⟩
   ·rcases List.mem_cons.1 hm with hm|hm
    ·cases hm;exact⟨_,he,rfl,Z i t hx⟩
    ·exact aF.some mn bE T hm
   ·rcases List.mem_cons.1 hm with hm|hm
    ·cases hm
    ·exact aF.none mn T hm
   ·rcases List.mem_cons.1 hm with hm|hm<;>rcases List.mem_cons.1 jN with jN|jN
    ·cases hm;cases jN;rfl
    ·cases hm;have:=(hc.2 _ jN).1
     simp at this
    ·cases jN;have:=(hc.2 _ hm).1
     simp at this
    ·exact aF.inj mn uR bE T T' hm jN
  ·rename_i l hx ab;have aF:=K0 h ab Z aa;split at bh
   case h_2=>cases bh
   rename_i e e0 j_ z _ he;rw [Bool.cond_eq_ite]at bh;split at bh
   case isFalse=>cases bh
   cases bh;refine⟨λmn bE T hm=>?_,λmn T hm=>?_,λmn uR bE T T' hm jN=>?_⟩
   ·rcases List.mem_cons.1 hm with hm|hm
    ·cases hm
    ·exact aF.some mn bE T hm
   ·rcases List.mem_cons.1 hm with hm|hm
    ·cases hm;exact aa i hx
    ·exact aF.none mn T hm
   ·rcases List.mem_cons.1 hm with hm|hm<;>rcases List.mem_cons.1 jN with jN|jN
    ·cases hm
    ·cases hm
    ·cases jN
    ·exact aF.inj mn uR bE T T' hm jN
  ·cases bh
def abO(h:Hyp P K N M β g tmps w p tt){c:Call}(an:o.op = .call c){x:Operand}(hc:c.callee = .value x){fn:FuncId}{eN ds:List D}(hx:rd g.env g.bO p tt o.type x=some (.fn fn eN))
 (hJ:ln (rd g.env g.bO p tt) c.args.toList c.argTypes.toList=some ds) {s:nB} (hs:w1 (jq P) tt g p c.args.toList c.argTypes.toList fn (ds++eN)=some s):
 ST P K M β g s o tmps w:=by
 obtain⟨vs,am,hlen,ah⟩:=RO (dK (ds:=[]) h.bd h.dB hx);obtain⟨gf,ka⟩:=SP hJ
 have ey:∀(i:Nat) v d,(c.args.toList.map (⟨tmps,[]⟩:Act).eval++vs)[i]? = some v→(ds++eN)[i]? = some d→ce M β v d:=by
  intro i v d eH sN;by_cases hi:i<c.args.toList.length
  ·rw [List.getElem?_append_left (by simpa using hi),List.getElem?_map,Option.map_eq_some_iff]at eH
   obtain⟨y,bV,rfl⟩:=eH;rw [List.getElem?_append_left (by omega)]at sN
   obtain⟨ty,gy⟩:=ka i y d bV sN;exact dK h.bd h.dB gy
  ·rw [List.getElem?_append_right (by simp;simp at hi;omega)]at eH
   rw [List.getElem?_append_right (by omega)]at sN
   refine ah _ v d eH ?_;rw [gf]at sN;simpa using sN
 have SV:(c.args.toList.map (⟨tmps,[]⟩:Act).eval++vs).length=(ds++eN).length:=by simp at gf ⊢;omega
 unfold w1 at hs
 dsimp only at hs
 generalize lv:ot g.H 2 (dedup ((ds++eN).flatMap refs))=ρ at hs
 split at hs
 case h_2=>cases hs
 rename_i out cu os rs eu;split at hs
 case h_2=>cases hs
 rename_i jm H1 hd sR lS uP;rw [Option.bind_eq_some_iff]at lS;obtain⟨bs,kB,lS⟩:=lS;rw [Bool.cond_eq_ite]at hs;split at hs
 ·cases hs
 rename_i SW
 have hn:mP ρ=true:=by
  have:(!mP ρ || !(List.isEmpty p||List.isEmpty os))=false:=by simpa using SW
  simp only [Bool.or_eq_false_iff,Bool.not_eq_false']at this;exact this.1
 have eU:=K0 h.bd uP (vs:=c.args.toList.map (⟨tmps,[]⟩:Act).eval++vs) (λi t aB=>by
  rw [List.getElem?_append_left (by simpa using(List.getElem?_eq_some_iff.1 aB).1),List.getElem?_map,aB];rfl) (λi aB=>by
  rw [List.getElem?_append_left (by simpa using(List.getElem?_eq_some_iff.1 aB).1),List.getElem?_map,aB];rfl)
 have dQ:=Sm (st:={env:=g.env,H:=g.H,aK:=g.aK}) h.bd.bd hn kB lS SV ey sR eU;have eJ:H1.length=ρ.length:=by rw [(xh lS).1,(uO kB).1]
 -- KK lu contract abP, al_ lu boxes behind it
 have key:∀{uY:List (List aP)},gA P fn jm (sL hd) H1 out uY→(execOp (Act.eval ⟨tmps,[]⟩) o).run P w = .ok (.enter fn ⟨c.args.toList.map (⟨tmps,[]⟩:Act).eval++vs⟩) w∧
  Calls P fn ⟨c.args.toList.map (⟨tmps,[]⟩:Act).eval++vs⟩ w λe w'=>∃v M' β',e=sK out v∧
   bw P (kc M β {env:=g.env,H:=g.H,aK:=g.aK} tmps w ρ (qe hd)) M' β' {env:=h_ out,H:=cy 0 uY,aK:=ρ.length} #[v] w':=by
  intro uY abQ;obtain⟨⟨fd,jH,K1,js⟩,abR⟩:=abQ;refine⟨abL an hc am jH K1 js,(abR _ w _ M _ (by rw [SV,SO sR]) dQ (λr b hb=>hb)).mono ?_⟩
  rintro e w' ⟨o',bB,v,M',β',⟨rfl,rfl⟩,he,cw⟩
  rw [eJ]at cw;exact⟨v,M',β',he,cw⟩
 -- lu boxes as ama amb, named amc and back
 have back:∀{uY abS:List (List aP)},jE (λj=>ρ[j]?) uY=some abS→uY.length=ρ.length→∀{v:Value} {w':World} {M':Mem} {β':Nat→Option Nat},
  bw P (kc M β {env:=g.env,H:=g.H,aK:=g.aK} tmps w ρ (qe hd)) M' β' {env:=h_ out,H:=cy 0 uY,aK:=ρ.length} #[v] w'→_:=
  λhx ab _ _ _ _ hp=>KJ (st:={env:=g.env,H:=g.H,aK:=g.aK}) h.bd.bd hn kB hx ab hp
 have SX:∀{v:Value} {w':World} {M':Mem} {β':Nat→Option Nat},
  bw P (kc M β {env:=g.env,H:=g.H,aK:=g.aK} tmps w ρ (qe hd)) M' β' {env:=h_ out,H:=cy 0 H1,aK:=ρ.length} #[v] w'→
  M.le M'∧bw P K M' β {env:=gN (qe hd) g.env,H:=g.H,aK:=g.aK} tmps w'∧
  (∀d own,out = .ret d own→∀dv,dX (λj=>ρ[j]?) d=some dv→ce M' β v dv∧∀T l0,own=some T→mR P K M' β {env:=gN (qe hd) g.env,H:=g.H,aK:=g.aK} tmps w' l0 v T)∧
  (∀x,out = .az x→cP M' v x):=by
  intro v w' M' β' hp;exact abN (st:={env:=g.env,H:=g.H,aK:=g.aK}) h.bd.bd hn kB lS hp
 cases out with
 |ret d own=>
  cases cu with
  |none=>
   simp only [Option.map_eq_some_iff]at hs;obtain⟨dv,iY,rfl⟩:=hs;intro b7;obtain⟨Z,aa⟩:=key (b7 _ (List.mem_singleton.2 rfl));refine .inr (.inr ⟨fn,_,Z,aa.mono ?_⟩)
   rintro e w' ⟨v,M',β',he,hp⟩
   obtain⟨cF,cw,K2,_⟩:=SX hp;refine⟨v,he,M',β,cF,λ_ _ h=>h,λ_ _ h=>.inl h,cw,λe1 rp=>?_⟩
   cases rp;exact K2 d own rfl dv iY
  |some cu=>
   dsimp only at hs
   split at hs
   case h_2=>cases hs
   rename_i dv iu iY uU;rw [Bool.cond_eq_ite]at hs;split at hs
   case isFalse=>cases hs
   rename_i ab;cases hs;intro b7;obtain⟨Z,aa⟩:=key (b7 _ (List.mem_singleton.2 rfl));refine .inr (.inr ⟨fn,_,Z,aa.mono ?_⟩)
   rintro e w' ⟨v,M',β',he,hp⟩
   obtain⟨cF,cw,K2,_⟩:=back uU (by simpa using ab) hp
   refine⟨v,he,M',β,cF,λ_ _ h=>h,λ_ _ h=>.inl h,cw,λe1 rp=>?_⟩
   cases rp;exact K2 d own rfl dv iY
 |az x=>
  cases cu with
  |none=>
   cases hs;intro b7;obtain⟨Z,aa⟩:=key (b7 _ (List.mem_singleton.2 rfl));refine .inr ⟨fn,_,Z,aa.mono ?_⟩
   rintro e w' ⟨v,M',β',he,hp⟩
   obtain⟨cF,cw,_,K3⟩:=SX hp;exact⟨v,M',he,K3 x rfl,cw.o9 λs e he=>SU he⟩
  |some cu=>
   dsimp only at hs
   split at hs
   case h_2=>cases hs
   rename_i iu uU;rw [Bool.cond_eq_ite]at hs;split at hs
   case isFalse=>cases hs
   rename_i ab;cases hs;intro b7;obtain⟨Z,aa⟩:=key (b7 _ (List.mem_singleton.2 rfl));refine .inr ⟨fn,_,Z,aa.mono ?_⟩
   rintro e w' ⟨v,M',β',he,hp⟩
   obtain⟨cF,cw,_,K3⟩:=back uU (by simpa using ab) hp
   exact⟨v,M',he,K3 x rfl,cw.o9 λs e he=>SU he⟩
end
section
variable {P:Program} {K:Ctx} {N:Nat} {M:Mem} {β:Nat→Option Nat} {st:aC} {g:c8} {tmps:Array Value} {w:World} {o:Oper} {f:kR} {p:Path} {tt:dq} {ops:List Oper}
def SY(h:Hyp P K N M β g tmps w p tt){c:Call}(an:o.op = .call c)(hc:c.callee = .builtin .len){d:D}(hd:mapM' (λy=>rd g.env g.bO p tt o.type y) c.args.toList=some [d]){aE:en}
 (ab:(c.argTypes.toList[0]?).bind (look tt)=some aE) {n:Nat} (hk:(∃l,d = .v (.str l)∧aE.k = .str∧n=l.length)∨(∃k get e,d = .v (.bq k n get)∧aE.k = .bq e)):
 Yields P K M β g {e:=some {d:=.v (.int .i64 n)},rs:=g.rs} o tmps w:=by
 obtain⟨gf,ka⟩:=sH hd;rw [Option.bind_eq_some_iff]at ab;obtain⟨t,aB,ab⟩:=ab;obtain⟨r⟩:=ee h.tt ab
 obtain⟨a,ha⟩:∃a,c.args.toList=[a]:=by
  cases gl:c.args.toList with
  |nil=>rw [gl]at gf;simp at gf
  |cons a l=>
   rw [gl]at gf;simp at gf
   exact⟨a,by rw [gf]⟩
 have pk:=dK (ds:=[]) h.bd h.dB (ka 0 a d (by rw [ha];rfl) rfl)
 rcases hk with⟨l,rfl,hk,rfl⟩|⟨k,get,e,rfl,hk⟩
 ·have qf:=mo pk;refine eI h.bd (SN an hc ha aB qf (λty=>?_)) (.v _ _ (.int _ _))
  have hs:(⟨⟨l⟩⟩:ByteArray).size=l.length:=rfl;simp [Builtin.len_,r.run_underlying,p' r hk,goInt,hs]
 ·obtain⟨base,cap,qf,_⟩:=uE pk;refine eI h.bd (SN an hc ha aB qf (λty=>?_)) (.v _ _ (.int _ _))
  simp [Builtin.len_,r.run_underlying,pf r hk,goInt]
def abT(h:Hyp P K N M β g tmps w p tt){c:Call}(an:o.op = .call c)(hc:c.callee = .builtin .min){k:IntKind}{a b:Int}(hd:mapM' (λy=>rd g.env g.bO p tt o.type y) c.args.toList=some [.v (.int k a),.v (.int k b)]):
 Yields P K M β g {e:=some {d:=.v (.int k (bif decide (b<a)then b else a))},rs:=g.rs} o tmps w:=by
 obtain⟨gf,ka⟩:=sH hd
 obtain⟨x,y,pe⟩:∃x y,c.args.toList=[x,y]:=by
  cases gl:c.args.toList with
  |nil=>rw [gl]at gf;simp at gf
  |cons x l=>
   cases l with
   |nil=>rw [gl]at gf;simp at gf
   |cons y l=>
    rw [gl]at gf;simp at gf
    exact⟨x,y,by rw [gf]⟩
 have ex:=lR (dK (ds:=[]) h.bd h.dB (ka 0 x _ (by rw [pe];rfl) rfl))
 have K4:=lR (dK (ds:=[]) h.bd h.dB (ka 1 y _ (by rw [pe];rfl) rfl))
 have uK:c.args = #[x,y]:=by apply Array.ext';simpa using pe
 refine eI h.bd (v:=.int k (bif decide (b<a)then b else a)) ?_ (.v _ _ (.int _ _))
 simp only [execOp,an,resolve,hc,uK,Sem.run_bind,Sem.run_pure,Result.andThen_ok,invoke,builtin,List.map_toArray,List.map_cons,List.map_nil,ex,K4];by_cases mu:b<a<;>simp [Builtin.min_,Builtin.min2,mu]
def abU(h:Hyp P K N M β g tmps w p tt){c:Call}(an:o.op = .call c)(hc:c.callee = .builtin .max){k:IntKind}{a b:Int}(hd:mapM' (λy=>rd g.env g.bO p tt o.type y) c.args.toList=some [.v (.int k a),.v (.int k b)]):
 Yields P K M β g {e:=some {d:=.v (.int k (bif decide (a<b)then b else a))},rs:=g.rs} o tmps w:=by
 obtain⟨gf,ka⟩:=sH hd
 obtain⟨x,y,pe⟩:∃x y,c.args.toList=[x,y]:=by
  cases gl:c.args.toList with
  |nil=>rw [gl]at gf;simp at gf
  |cons x l=>
   cases l with
   |nil=>rw [gl]at gf;simp at gf
   |cons y l=>
    rw [gl]at gf;simp at gf
    exact⟨x,y,by rw [gf]⟩
 have ex:=lR (dK (ds:=[]) h.bd h.dB (ka 0 x _ (by rw [pe];rfl) rfl))
 have K4:=lR (dK (ds:=[]) h.bd h.dB (ka 1 y _ (by rw [pe];rfl) rfl))
 have uK:c.args = #[x,y]:=by apply Array.ext';simpa using pe
 refine eI h.bd (v:=.int k (bif decide (a<b)then b else a)) ?_ (.v _ _ (.int _ _))
 simp only [execOp,an,resolve,hc,uK,Sem.run_bind,Sem.run_pure,Result.andThen_ok,invoke,builtin,List.map_toArray,List.map_cons,List.map_nil,ex,K4];by_cases mu:a<b<;>simp [Builtin.max_,Builtin.max2,mu]
def abV(h:Hyp P K N M β g tmps w p tt){bZ:ge}{x:Operand}{s t:TypeId}{ok:Bool}(an:o.op = .typeAssert x s t ok)(hs:step1 bZ tt ops g p o=some (.go f)):Yields P K M β g f o tmps w:=by
 simp only [step1,an]at hs;split at hs
 case h_2=>cases hs
 rename_i bE y k e0 j_ z _ hx ab;obtain⟨r⟩:=ee h.tt ab;have ah:=dK (ds:=[]) h.bd h.dB hx;obtain⟨u,am,hu⟩:=J_ ah;have SZ:k ≠ .oo:=by rintro rfl;simp at hs
 have KV:∀i,r.desc ≠ .interface i:=by
  intro i hd;have:=r.hk
  rw [hd]at this;simp [kY]at this;exact SZ this.symm
 have fK:(bif Nat.beq bE t then(some (nB.go {e:=some {d:=(bif ok then .cn [.v y,.v (.bool true)]else .v y)},rs:=g.rs}))else none)=some (.go f):=by
  cases k<;>first|exact(SZ rfl).elim|exact hs
 rw [Bool.cond_eq_ite]at fK;split at fK
 case isFalse=>cases fK
 rename_i hb;have bI:bE=t:=by simpa using hb
 subst bI;cases fK
 have eO:(Instr.typeAssert (.iface bE u) s bE ok).run P w = .ok (bif ok then .tuple #[u,.bool true]else u) w:=by
  unfold Instr.typeAssert;simp only [Sem.run_bind,r.run_underlying,Result.andThen_ok];cases hd:r.desc<;>first|exact(KV _ hd).elim|(cases ok<;>simp)
 refine eI h.bd (v:=bif ok then .tuple #[u,.bool true]else u) ?_ ?_
 ·simp only [execOp,an,am];exact i8 _ eO
 ·cases ok
  ·exact .v _ _ hu
  ·refine .cn [u,.bool true] _ rfl λi v c am hc=>?_
   match i with
   | 0=>simp at am hc;subst am;subst hc;exact .v _ _ hu
   | 1=>simp at am hc;subst am;subst hc;exact .v _ _ (.bool _)
   |i+2=>simp at am
def S0(h:Hyp P K N M β g tmps w p tt){s:nB}(hs:step1 (jq P) tt ops g p o=some s):ST P K M β g s o tmps w:=by
 cases an:o.op with
 |move x=>cases s with
  |go f=>exact λ_=>aba h an hs
  |az x fK aO=>simp only [step1,an]at hs;repeat' (first |(split at hs) |(rw [Bool.cond_eq_ite]at hs) |(cases hs;done))
 |assign x=>cases s with
  |go f=>exact λ_=>abb h an hs
  |az x fK aO=>simp only [step1,an]at hs;repeat' (first |(split at hs) |(rw [Bool.cond_eq_ite]at hs) |(cases hs;done))
 |pick c a b=>
  cases c with
  |tmp c=>cases s with
   |go f=>exact λ_=>abc h an hs
   |az x fK aO=>simp only [step1,an]at hs;repeat' (first |(split at hs) |(simp at hs;done))
  |_=>simp [step1,an]at hs
 |alloc t=>cases s with
  |go f=>exact λ_=>abd h an hs
  |az x fK aO=>simp only [step1,an]at hs;repeat' (first |(split at hs) |(cases hs;done))
 |box t x=>cases s with
  |go f=>exact λ_=>abe h an hs
  |az x fK aO=>simp only [step1,an]at hs;repeat' (first |(split at hs) |(rw [Bool.cond_eq_ite]at hs) |(cases hs;done))
 |build t parts=>cases s with
  |go f=>exact λ_=>abf h an hs
  |az x fK aO=>simp only [step1,an]at hs;repeat' (first |(split at hs) |(rw [Bool.cond_eq_ite]at hs) |(simp at hs;done) |(cases hs;done))
 |buildSlice t len parts=>cases s with
  |go f=>exact λb7=>abh h an hs b7
  |az x fK aO=>simp only [step1,an]at hs;repeat' (first |(split at hs) |(rw [Bool.cond_eq_ite]at hs) |(cases hs;done))
 |load t a=>cases s with
  |go f=>exact λ_=>abi h an hs
  |az x fK aO=>simp only [step1,an]at hs;repeat' (first |(split at hs) |(rw [Bool.cond_eq_ite]at hs) |(simp at hs;done) |(cases hs;done))
 |store t a x=>cases s with
  |go f=>exact λ_=>abj h an hs
  |az x fK aO=>simp only [step1,an]at hs;repeat' (first |(split at hs) |(rw [Bool.cond_eq_ite]at hs) |(cases hs;done))
 |nilCheck x=>cases s with
  |go f=>exact λ_=>abm h an hs
  |az x fK aO=>simp only [step1,an]at hs;repeat' (first |(split at hs) |(simp at hs;done))
 |binOp op t x y t2=>cases s with
  |go f=>exact λb7=>abz h an hs b7
  |az x fK aO=>simp only [step1,an]at hs;repeat' (first |(split at hs) |(rw [Bool.cond_eq_ite]at hs) |(simp at hs;done))
 |unOp op t x=>cases s with
  |go f=>exact λ_=>abn h an hs
  |az x fK aO=>simp only [step1,an]at hs;repeat' (first |(split at hs) |(simp at hs;done))
 |convert a b x=>cases s with
  |go f=>exact λb7=>abo h an hs b7
  |az x fK aO=>simp only [step1,an]at hs;repeat' (first |(split at hs) |(simp at hs;done))
 |makeInterface t x=>cases s with
  |go f=>exact λ_=>abp h an hs
  |az x fK aO=>simp only [step1,an]at hs;repeat' (first |(split at hs) |(simp at hs;done))
 |makeFunc fn first eN=>
  cases fn with
  |func fn=>cases s with
   |go f=>exact λ_=>abq h an hs
   |az x fK aO=>simp only [step1,an]at hs;rw [Bool.cond_eq_ite]at hs;split at hs<;>simp at hs
  |_=>simp [step1,an]at hs
 |slice t x lo hi jF=>cases s with
  |go f=>exact λb7=>abJ h an hs b7
  |az x fK aO=>simp only [step1,an]at hs;repeat' (first |(split at hs) |(rw [Bool.cond_eq_ite]at hs) |(simp at hs;done))
 |fieldAddr a x i=>cases s with
  |go f=>exact λ_=>abA h an hs
  |az x fK aO=>simp only [step1,an]at hs;repeat' (first |(split at hs) |(rw [Bool.cond_eq_ite]at hs) |(simp at hs;done))
 |field a x i=>cases s with
  |go f=>exact λ_=>abC h an hs
  |az x fK aO=>simp only [step1,an]at hs;repeat' (first |(split at hs) |(rw [Bool.cond_eq_ite]at hs) |(simp at hs;done))
 |indexAddr t x i=>cases s with
  |go f=>exact λb7=>abF h an hs b7
  |az x fK aO=>simp only [step1,an]at hs;repeat' (first |(split at hs) |(rw [Bool.cond_eq_ite]at hs) |(simp at hs;done))
 |index t x i=>cases s with
  |go f=>exact λb7=>abH h an hs b7
  |az x fK aO=>simp only [step1,an]at hs;repeat' (first |(split at hs) |(simp at hs;done))
 |typeAssert x a t ok=>cases s with
  |go f=>exact λ_=>abV h an hs
  |az x fK aO=>simp only [step1,an]at hs;repeat' (first |(split at hs) |(rw [Bool.cond_eq_ite]at hs) |(simp at hs;done) |(cases hs;done))
 |extract x i=>cases s with
  |go f=>exact λ_=>abr h an hs
  |az x fK aO=>simp only [step1,an]at hs;repeat' (first |(split at hs) |(simp at hs;done))
 |call c=>
  simp only [step1,an]at hs;split at hs
  ·rename_i x oD;split at hs
   case h_2=>cases hs
   rename_i fn eN ds hx hJ;exact abO h an oD hx hJ hs
  ·rename_i oD;split at hs
   ·rename_i l _ _ _ _ hd ab;cases hs;exact λ_=>SY h an oD hd ab (.inl ⟨l,rfl,rfl,rfl⟩)
   ·rename_i k n get _ _ _ _ _ hd ab;cases hs;exact λ_=>SY h an oD hd ab (.inr ⟨k,get,_,rfl,rfl⟩)
   ·cases hs
  ·rename_i oD;split at hs
   case h_2=>cases hs
   rename_i t x e amd AF kD _ t2 ey eJ ep;split at hs
   case h_3=>cases hs
   case h_2=>
    rename_i b1 k n get d2 y rs hle pm ka eu;rw [Bool.cond_eq_ite]at hs;split at hs
    case isFalse=>cases hs
    rename_i hc;simp only [Bool.and_eq_true,Nat.beq_eq,Nat.ble_eq]at hc;obtain⟨⟨⟨rfl,EL⟩,EM⟩,uZ⟩:=hc;rw [Option.bind_eq_some_iff]at eJ ep;obtain⟨abW,EN,eJ⟩:=eJ;obtain⟨abX,oy,ep⟩:=ep;have i7:=dK (ds:=[]) h.bd h.dB ka;split at hs
    case h_2=>cases hs
    rename_i al m lO e2 eV;rw [Bool.cond_eq_ite]at hs;split at hs
    case isFalse=>cases hs
    rename_i hK;simp only [Bool.and_eq_true,Nat.beq_eq,Nat.ble_eq]at hK;obtain⟨rfl,hm⟩:=hK;cases hs;intro b7;obtain⟨news,iy,ls⟩:=Sj h.bd.bd h.tt ep eV i7;exact aaJ h.bd h.dB h.tt eJ rfl hle an oD ey EN oy pm EM hm iy ls (KP (b7 (room (n+m) b1.bytes=true) (by simp))) (b7 (gM _ y) (by simp))
   rename_i b1 k n get d2 ame aX y rs hle pm ka Am eu;rw [Bool.cond_eq_ite]at hs;split at hs
   case isFalse=>cases hs
   rename_i hc;simp only [Bool.and_eq_true,Nat.beq_eq,Nat.ble_eq]at hc;obtain⟨⟨⟨⟨rfl,rfl⟩,EL⟩,EM⟩,uZ⟩:=hc;rw [Option.bind_eq_some_iff]at eJ ep;obtain⟨abW,EN,eJ⟩:=eJ;obtain⟨abX,oy,ep⟩:=ep;have i7:=dK (ds:=[]) h.bd h.dB ka;split at hs
   ·rename_i al m lO e2 eV;rw [Bool.cond_eq_ite]at hs;split at hs
    case isFalse=>cases hs
    rename_i hK;simp only [Nat.beq_eq]at hK;subst hK;cases hs;intro b7;obtain⟨news,iy,ls⟩:=Sj h.bd.bd h.tt ep eV i7;exact Se h.bd h.dB h.tt eJ rfl hle an oD ey EN oy pm Am rfl EM iy ls (KP (b7 (room (n+m) b1.bytes=true) (by simp))) (b7 (gM _ y) (by simp))
   ·rename_i l eV;rw [Bool.cond_eq_ite]at hs;split at hs
    case isFalse=>cases hs
    rename_i hK;simp only [Nat.beq_eq]at hK;cases hs;intro b7;have K5:=mo i7;obtain⟨news,iy,ls⟩:=aaO (P:=P) (w:=w) h.tt ep eV l M;rw [←K5,←hK]at iy;rw [←hK]at ls;exact Se h.bd h.dB h.tt eJ rfl hle an oD ey EN oy pm Am rfl EM iy ls (KP (b7 (room (n+l.length) b1.bytes=true) (by simp))) (b7 (gM _ y) (by simp))
   ·cases hs
  ·rename_i oD;split at hs
   ·rename_i k a al b hd;rw [Bool.cond_eq_ite]at hs;split at hs
    case isFalse=>cases hs
    rename_i hk;have kE:k=al:=by simpa using hk
    subst kE;cases hs;exact λ_=>abT h an oD hd
   ·cases hs
  ·rename_i oD;split at hs
   ·rename_i k a al b hd;rw [Bool.cond_eq_ite]at hs;split at hs
    case isFalse=>cases hs
    rename_i hk;have kE:k=al:=by simpa using hk
    subst kE;cases hs;exact λ_=>abU h an oD hd
   ·cases hs
  ·cases hs
 |panic x=>cases s with
  |go f=>simp only [step1,an]at hs;repeat' (first |(split at hs) |(simp at hs;done))
  |az y fK aO=>
   simp only [step1,an]at hs;split at hs
   case h_2=>cases hs
   rename_i t z hd;cases hs;intro _;have ah:=dK (ds:=[]) h.bd h.dB hd;obtain⟨u,am,hu⟩:=J_ ah;refine .inl ⟨.iface t u,?_,.iface t u z hu,rfl⟩;simp [execOp,an,am,Instr.panic]
 |_=>simp [step1,an]at hs
end
inductive b_ where
 |normal
 |exit (id:Nat)
 |ret
 |az (x:V)
def sS(P:Program)(K:Ctx)(N:Nat)(fl:b_)(st:aC)(e:Exit)(a:Act)(w:World):Prop:=
 match fl with
 |.normal=>e = .normal∧a.defers=K.ds∧a.tmps.size=N∧∃M β,bw P K M β st a.tmps w
 |.exit id=>e = .exit id∧a.defers=K.ds∧a.tmps.size=N∧∃M β,bw P K M β st a.tmps w
 |.ret=>e = .ret∧a.defers=K.ds∧a.tmps.size=N∧∃M β,bw P K M β st a.tmps w
 |.az x=>∃v,e = .panic [{v,recovered:=false}]∧a.defers=K.ds∧∃M β,cP M v x∧bw P K M β st a.tmps w
section
variable {P:Program} {K:Ctx} {N:Nat} {M:Mem} {β:Nat→Option Nat} {st:aC} {g ew:c8} {tmps:Array Value} {w:World} {o:Oper} {f:kR} {p:Path} {tt:dq} {ops:List Oper}
def bw.AG(h:bw P K M β st tmps w)(fs:Array Value):bw P K M β {env:=[],H:=st.H,aK:=st.aK} fs w:=by
 have Z:bw P K M β {env:=[],H:=st.H,aK:=st.aK} tmps w:=h.sub rfl (λl e ab=>by
  cases l with
  |slot s=>simp [aC.at,look]at ab
  |cell r i=>exact⟨e,ab,rfl,λ_ h=>h⟩) (λr cs ah=>⟨cs,ah,rfl⟩)
 have am:∀l e,({env:=[],H:=st.H,aK:=st.aK}:aC).at l=some e→cc fs w β l=cc tmps w β l:=by
  intro l e ab;cases l with
  |slot s=>simp [aC.at,look]at ab
  |cell r i=>rfl
 constructor
 ·intro l e ab;rw [am l e ab];exact Z.e7 l e ab
 ·intro l e T ab aA;rw [am l e ab];exact Z.own l e T ab aA
 ·intro l cr e aX T T' b ab aA dk dJ hb bI;rw [am l e ab]at hb;rw [am cr aX dk]at bI;exact Z.uniq l cr e aX T T' b ab aA dk dJ hb bI
 ·intro l e T b r cs ab aA hb ah;rw [am l e ab]at hb;exact Z.unbox l e T b r cs ab aA hb ah
 ·exact Z.box
 ·exact Z.inj
 ·exact Z.lt
 ·exact Z.mem
 ·exact Z.m0
 ·exact Z.frame
 ·exact Z.iv
 ·exact Z.iX
 ·exact Z.hG
def AH(h:ft P K N M β g tmps w):∀{p:Path} {q:Prop},fB tmps p→under g p q→q
 |[],_,_,ak=>ak
 |(t,oA)::p,q,hp,ak=>by
  have aB:tmps.getD t undef = .bool oA:=hp (t,oA) (by simp)
  have xq:fB tmps p:=λx hx=>hp x (by simp [hx])
  simp only [under]at ak;split at ak
  ·rename_i b hb;refine AH h xq (ak ?_);unfold zV at hb;split at hb
   ·rename_i q' bo hc;cases hb;by_cases iz:fB tmps q'
    ·have:=uD ((h.cond t _ _ hc).1 iz)
     rw [aB]at this;cases this;rfl
    ·have:=(h.cond t _ _ hc).2 iz
     rw [aB]at this;cases this
   ·cases hb
   ·split at hb
    ·rename_i bo own he;cases hb;have:=uD (h.bd.e7 (.slot t) _ he)
     simp only [cc]at this;rw [aB]at this;cases this;rfl
    ·cases hb
  ·exact AH h xq ak
def S1(h:ft P K N M β g tmps w){opsA:Array Oper}(mW:opsA.toList=ops)(hp:o_ ops g o=some p):Region.wanted o (yielded opsA tmps)=true↔fB tmps p:=by
 unfold o_ at hp;split at hp
 ·rename_i hg;cases hp;simp [Region.wanted,hg,fB]
 ·rename_i j oA hg;split at hp
  case h_2=>cases hp
  rename_i t aB
  have bV:yielded opsA tmps j=some oA↔tmps.getD t undef = .bool oA:=by
   unfold yielded;have:opsA[j]? = ops[j]? := by rw [←mW];simp
   rw [this,aB];simp only [Option.bind_some,Array.getD_eq_getD_getElem?];cases bh:tmps[t]? with
   |none=>simp [undef]
   |some v=>cases v<;>simp
  have hw:Region.wanted o (yielded opsA tmps)=true↔tmps.getD t undef = .bool oA:=by
   rw [←bV];simp [Region.wanted,hg]
  split at hp
  ·rename_i q b hc;cases hp;rw [hw];constructor
   ·intro jt x hx;rcases List.mem_append.1 hx with hx|hx
    ·by_cases iz:fB tmps q
     ·exact iz x hx
     ·have:=(h.cond t _ _ hc).2 iz
      rw [jt]at this;cases this
    ·simp at hx;subst hx;exact jt
   ·intro iz;exact iz (t,oA) (by simp)
  ·cases hp
  ·split at hp
   ·cases hp;rw [hw];exact⟨λh x hx=>by simp at hx;subst hx;exact h,λh=>h (t,oA) (by simp)⟩
   ·cases hp
def K6{t:Nat}{v:Value}{q:Path}(ak:∀x,x∈q→x.1≠t):fB (tmps.setIfInBounds t v) q↔fB tmps q:=by
 unfold fB;constructor<;>intro h x hx
 ·have:=h x hx
  rwa [Array.getD_eq_getD_getElem?,Array.getElem?_setIfInBounds_ne (Ne.symm (ak x hx)),←Array.getD_eq_getD_getElem?]at this
 ·have:=h x hx
  rwa [Array.getD_eq_getD_getElem?,Array.getElem?_setIfInBounds_ne (Ne.symm (ak x hx)),←Array.getD_eq_getD_getElem?]
def abY{t s:Nat}{v:Value}(h:s≠t):(tmps.setIfInBounds t v).getD s undef=tmps.getD s undef:=by
 rw [Array.getD_eq_getD_getElem?,Array.getElem?_setIfInBounds_ne (Ne.symm h),←Array.getD_eq_getD_getElem?]
def abZ{bO:List (Nat×Path×D)}{t:Nat}(h:w3 bO t=true){s:Nat}{q:Path}{d:D}(hc:look bO s=some (q,d))(hs:s≠t):∀x,x∈q→x.1≠t:=by
 unfold w3 at h;rw [List.all_eq_true]at h;have:=h _ (rf hc)
 simp only [Bool.or_eq_true,Nat.beq_eq,List.all_eq_true,Bool.not_eq_true']at this;rcases this with Z|Z
 ·exact absurd Z hs
 ·intro x hx e;have:=Z x hx
  rw [e]at this;simp at this
def K7(h:∀t q d,look g.bO t=some (q,d)→(fB tmps q→ce M β (tmps.getD t undef) d)∧(¬ fB tmps q→tmps.getD t undef=undef)){t:Nat}{v:Value}(bJ:w3 g.bO t=true){M':Mem}{β':Nat→Option Nat}
 (cF:M.le M') (gO:∀r b,β r=some b→β' r=some b):
 ∀s q d,look (del g.bO t) s=some (q,d)→(fB (tmps.setIfInBounds t v) q→ce M' β' ((tmps.setIfInBounds t v).getD s undef) d)∧(¬ fB (tmps.setIfInBounds t v) q→(tmps.setIfInBounds t v).getD s undef=undef):=by
 intro s q d hc;rw [p7]at hc;by_cases hs:t=s
 ·simp [hs]at hc
 ·rw [if_neg hs]at hc;rw [K6 (abZ bJ hc (Ne.symm hs)),abY (Ne.symm hs)];exact⟨λiz=>(((h s q d hc).1 iz).mono cF).JW gO,(h s q d hc).2⟩
def AI(ds:List Deferred):Act.eval ⟨tmps,ds⟩=Act.eval ⟨tmps,[]⟩:=by
 funext x;cases x<;>rfl
def S2{α:Type}:∀(a b:List (Nat×α)) (q:Nat),look (a++b) q=none→look a q=none∧look b q=none
 |[],b,q,h=>⟨rfl,h⟩
 |(j,x)::a,b,q,h=>by
  simp only [List.cons_append,dC]at h ⊢;by_cases hj:j=q
  ·simp [hj]at h
  ·simp only [hj,if_false]at h ⊢;exact S2 a b q h
def ft.K8(h:ft P K N M β g tmps w){β':Nat→Option Nat}{hs:List (Nat×List aP)}(u0:∀r b,β' r=some b→β r=some b∨(look hs r).isSome=true):
 ∀s id,look g.ids s=some id→look (hs++g.H) id=none→∀b,β' id≠some b:=by
 intro s id hid ab b hb;obtain⟨Z,aa⟩:=S2 _ _ _ ab;rcases u0 id b hb with aj|aj
 ·exact h.fresh s id hid aa b aj
 ·rw [Z]at aj;cases aj
def K9(h:ft P K N M β g tmps w)(cf:e_ P tt=true){opsA:Array Oper}(mW:opsA.toList=ops)(hs:nD (jq P) tt N ops g o=some (.go ew))(b7:∀q,q∈ew.aO→q){Q:Exit→Act→World→Prop}{next:Act→World→Prop}
 (f0:∀fs w' M' β',ft P K N M' β' ew fs w'→next ⟨fs,K.ds⟩ w'):
 if Region.wanted o (yielded opsA tmps)then o.wp P ⟨tmps,K.ds⟩ w next Q∨(o.asks P ⟨tmps,K.ds⟩ w∧LetsOut Q)else next ((⟨tmps,K.ds⟩:Act).put o.dst undef) w:=by
 unfold nD at hs;split at hs
 case h_1=>cases hs
 rename_i p hp;have hw:=S1 h mW hp;split at hs
 ·cases hs
 ·rw [Bool.cond_eq_ite]at hs;split at hs<;>cases hs
 rename_i f bJ
 dsimp only at hs
 by_cases iz:fB tmps p
 ·rw [if_pos (
   hw.2 iz)]
  refine .inl ?_;have iM:=S0 (g:=g) (ops:=ops) ⟨h,iz,cf⟩ bJ
  -- KK follows once lu value is there
  have main:(∀q,q∈f.aO→q)∧∀v w',bA P K M β g f tmps v w'→next ((⟨tmps,K.ds⟩:Act).put o.dst v) w':=by
   split at hs
   ·rename_i u1;rw [Bool.cond_eq_ite]at hs;split at hs
    case isFalse=>cases hs
    rename_i uZ;have AJ:p=[]:=by simpa using uZ
    subst AJ;cases hs;refine⟨λq ak=>AH h iz (b7 _ (List.mem_append_left _ (List.mem_map.2 ⟨q,ak,rfl⟩))),?_⟩
    rintro v w' ⟨M',β',cF,gO,u0,cw,_⟩
    rw [u1];exact f0 tmps w' M' β' ⟨cw,h.size,h.K8 u0,λs q d hc=>⟨λiz=>(((h.cond s q d hc).1 iz).mono cF).JW gO,(h.cond s q d hc).2⟩⟩
   ·rename_i t u1;rw [Bool.cond_eq_ite]at hs;split at hs
    case isFalse=>cases hs
    rename_i hc;simp only [Bool.and_eq_true,Nat.blt_eq]at hc;have bm:t<tmps.size:=by rw [h.size];exact hc.1
    rcases p with _|⟨x,K'⟩<;>dsimp only at hs
    ·cases hs;refine⟨λq ak=>AH h iz (b7 _ (List.mem_append_left _ (List.mem_map.2 ⟨q,ak,rfl⟩))),?_⟩
     rintro v w' ⟨M',β',cF,gO,u0,cw,iM⟩
     rw [u1];refine f0 _ w' M' β' ⟨?_,by simpa using h.size,h.K8 u0,K7 h.cond hc.2 cF gO⟩
     cases he:f.e with
     |none=>exact cw.drop
     |some e=>
      obtain⟨Z,aa⟩:=iM e he;exact cw.put bm Z (λT aA=>aa T _ aA)
    ·split at hs
     ·rename_i e he u2 ox;rw [Bool.cond_eq_ite]at hs;split at hs
      case isFalse=>cases hs
      rename_i jr;simp only [Bool.and_eq_true,List.all_eq_true,Nat.beq_eq,Bool.not_eq_true']at jr;cases hs;refine⟨λq ak=>AH h iz (b7 _ (List.mem_append_left _ (List.mem_map.2 ⟨q,ak,rfl⟩))),?_⟩
      rintro v w' ⟨M',β',cF,gO,u0,cw,iM⟩
      rw [u1];obtain⟨Z,_⟩:=iM e he
      have kb:∀y,y∈x::K'→y.1≠t:=λy bV e=>by
       have:=jr.1 y bV
       rw [e]at this;simp at this
      refine f0 _ w' M' β' ⟨?_,by simpa using h.size,by have:=h.K8 u0;rw [u2]at this;exact this,λs q d dQ=>?_⟩
      ·have:after g f={env:=g.env,H:=g.H,aK:=g.aK}:=by unfold after;rw [ox,u2,jr.2];rfl
       rw [this]at cw;exact cw.drop
      ·rw [dC]at dQ;by_cases kX:t=s
       ·rw [if_pos kX]at dQ;cases dQ;subst kX;rw [K6 kb];refine⟨λ_=>?_,λhn=>absurd iz hn⟩
        have:(tmps.setIfInBounds t v).getD t undef=v:=by simp [bm]
        rw [this];exact Z
       ·rw [if_neg kX]at dQ;exact K7 h.cond hc.2 cF gO s q d dQ
     ·cases hs
  obtain⟨ab0,iL⟩:=main;rcases iM ab0 with⟨v,w',eO,k2⟩|⟨he,w',eO,k2⟩|⟨fn,vs,eO,u3⟩
  ·unfold Oper.wp;rw [AI,eO];exact iL v w' k2
  ·unfold Oper.wp;rw [AI,eO];exact iL undef w' k2
  ·unfold Oper.wp;rw [AI,eO];refine u3.mono ?_
   rintro e w' ⟨v,rfl,k2⟩
   exact iL v w' k2
 ·have ab1:Region.wanted o (yielded opsA tmps)=false:=by
   rw [Bool.eq_false_iff];exact λbh=>iz (hw.1 bh)
  rw [ab1];simp only [Bool.false_eq_true,if_false];split at hs
  ·rename_i u1;rw [Bool.cond_eq_ite]at hs;split at hs
   case isFalse=>cases hs
   rename_i uZ;have AJ:p=[]:=by simpa using uZ
   subst AJ;exact absurd (λx hx=>by cases hx) iz
  ·rename_i t u1;rw [Bool.cond_eq_ite]at hs;split at hs
   case isFalse=>cases hs
   rename_i hc;simp only [Bool.and_eq_true,Nat.blt_eq]at hc;rcases p with _|⟨x,K'⟩<;>dsimp only at hs
   ·exact absurd (λx hx=>by cases hx) iz
   ·split at hs
    ·rename_i e he u2 ox;rw [Bool.cond_eq_ite]at hs;split at hs
     case isFalse=>cases hs
     rename_i jr;simp only [Bool.and_eq_true,List.all_eq_true,Nat.beq_eq,Bool.not_eq_true']at jr;cases hs;rw [u1]
     have kb:∀y,y∈x::K'→y.1≠t:=λy bV e=>by
      have:=jr.1 y bV
      rw [e]at this;simp at this
     refine f0 _ w M β ⟨h.bd.drop,by simpa using h.size,h.fresh,λs q d dQ=>?_⟩
     rw [dC]at dQ;by_cases kX:t=s
     ·rw [if_pos kX]at dQ;cases dQ;subst kX;rw [K6 kb];refine⟨λbh=>absurd bh iz,λ_=>?_⟩
      have bm:t<tmps.size:=by rw [h.size];exact hc.1
      simp [bm]
     ·rw [if_neg kX]at dQ;exact K7 h.cond hc.2 (Mem.le_refl _) (λ_ _ h=>h) s q d dQ
    ·cases hs
end
section
variable {P:Program} {K:Ctx} {N E:Nat} {M:Mem} {β:Nat→Option Nat} {st:aC} {g ew:c8} {tmps:Array Value} {w:World} {o:Oper} {f:kR} {p:Path} {tt:dq} {ops:List Oper}
def S3(h:ft P K N M β g tmps w)(cf:e_ P tt=true){opsA:Array Oper}(mW:opsA.toList=ops){x:V}{st:aC}{aO:List Prop}(hs:nD (jq P) tt N ops g o=some (.az x st aO))(b7:∀q,q∈aO→q){Q:Exit→Act→World→Prop}{next:Act→World→Prop}
 (f0:∀e dc w',sS P K N (.az x) st e dc w'→Q e dc w'):
 if Region.wanted o (yielded opsA tmps)then o.wp P ⟨tmps,K.ds⟩ w next Q∨(o.asks P ⟨tmps,K.ds⟩ w∧LetsOut Q)else next ((⟨tmps,K.ds⟩:Act).put o.dst undef) w:=by
 unfold nD at hs;split at hs
 case h_1=>cases hs
 rename_i p hp;have hw:=S1 h mW hp;split at hs
 ·cases hs
 ·rename_i y fK sT cS;rw [Bool.cond_eq_ite]at hs;split at hs
  case isFalse=>cases hs
  rename_i uZ;have AJ:p=[]:=by simpa using uZ
  subst AJ;cases hs;have iz:fB tmps []:=λx hx=>by cases hx
  rw [if_pos (hw.2 iz)];refine .inl ?_;have iM:=S0 (g:=g) (ops:=ops) ⟨h,iz,cf⟩ cS;rcases iM (λq ak=>b7 q (List.mem_append_left _ ak)) with⟨v,eO,ah,rfl⟩|⟨fn,vs,eO,u3⟩
  ·unfold Oper.wp;rw [AI,eO];exact f0 _ _ _ ⟨v,rfl,rfl,M,β,ah,h.bd.o9 λs e he=>⟨e,he,rfl⟩⟩
  ·unfold Oper.wp;rw [AI,eO];refine u3.mono ?_
   rintro e w' ⟨v,M',rfl,ah,cw⟩
   exact f0 _ _ _ ⟨v,rfl,rfl,M',β,ah,cw⟩
 ·dsimp only at hs
  repeat' (first|(split at hs)|(rw [Bool.cond_eq_ite]at hs)|(cases hs;done))
def ab2{bZ:ge}(hs:nD bZ tt N ops g o=some (.go ew)):∀q,q∈g.aO→q∈ew.aO:=by
 intro q ak;unfold nD at hs;split at hs
 case h_1=>cases hs
 split at hs
 ·cases hs
 ·rw [Bool.cond_eq_ite]at hs;split at hs<;>cases hs
 ·dsimp only at hs
  repeat' (first|(split at hs)|(rw [Bool.cond_eq_ite]at hs)|(cases hs;exact List.mem_append_right _ ak)|(cases hs;done))
def ab3{bZ:ge}{x:V}{st:aC}{aO:List Prop}(hs:nD bZ tt N ops g o=some (.az x st aO)):∀q,q∈g.aO→q∈aO:=by
 intro q ak;unfold nD at hs;split at hs
 case h_1=>cases hs
 split at hs
 ·cases hs
 ·rw [Bool.cond_eq_ite]at hs;split at hs<;>cases hs;exact List.mem_append_right _ ak
 ·dsimp only at hs
  repeat' (first|(split at hs)|(rw [Bool.cond_eq_ite]at hs)|(cases hs;done))
def S4:zZ→List Prop
 |.go g=>g.aO
 |.az _ _ aO=>aO
def S5{bZ:ge}:∀{l:List Oper} {g:c8} {fin:zZ},sA bZ tt N ops l g=some fin→∀q,q∈g.aO→q∈S4 fin
 |[],g,fin,h,q,ak=>by simp [sA]at h;subst h;exact ak
 |o::l,g,fin,h,q,ak=>by
  simp only [sA]at h;split at h
  ·rename_i ew hs;exact S5 h q (ab2 hs q ak)
  ·cases fin with
   |go ew=>exact absurd h (by intro bh;rename_i dj;exact dj _ bh)
   |az x st aO=>exact ab3 h q ak
def K_(cf:e_ P tt=true){opsA:Array Oper}(mW:opsA.toList=ops){Q:Exit→Act→World→Prop}{fin:zZ}(mX:∀q,q∈S4 fin→q)
 (eg:match fin with
  |.go ew=>∀fs w' M' β',ft P K N M' β' ew fs w'→Q .normal ⟨fs,K.ds⟩ w'
  |.az x st _=>∀e dc w',sS P K N (.az x) st e dc w'→Q e dc w'):
 ∀(l:List Oper) (k:Nat) (g:c8) (tmps:Array Value) (w:World) (M:Mem) (β:Nat→Option Nat),(∀j,l[j]? = ops[k+j]?)→ft P K N M β g tmps w→sA (jq P) tt N ops l g=some fin→
  wpOps P opsA Q (List.range' k l.length) ⟨tmps,K.ds⟩ w
 |[],k,g,tmps,w,M,β,_,h,ah=>by
  simp [sA]at ah;subst ah;exact eg tmps w M β h
 |o::l,k,g,tmps,w,M,β,ab,h,ah=>by
  have hk:opsA[k]? = some o:=by
   have:=ab 0
   simp at this
   rw [←Array.getElem?_toList,mW];exact this.symm
  simp only [List.length_cons,List.range'_succ,wpOps,hk];simp only [sA]at ah;split at ah
  ·rename_i ew hs;refine K9 h cf mW hs (λq ak=>mX q (S5 ah q ak)) (λfs w' M' β' cq=>?_)
   exact K_ cf mW mX eg l (k+1) ew fs w' M' β' (λj=>by have:=ab (j+1);simpa [Nat.add_assoc,Nat.add_comm 1 j]using this) cq ah
  ·cases fin with
   |go ew=>exact absurd ah (by intro bh;rename_i dj;exact dj _ bh)
   |az x st aO=>exact S3 h cf mW ah mX (λe dc w' bK=>eg e dc w' bK)
def aT(P:Program)(N E:Nat)(c:Code)(Q:b_→aC→Prop)(st:aC):Prop:=
 ∀(K:Ctx),(∀r b,K.kU r=some b→r<E)→∀(a:Act) (w:World),sS P K N .normal st .normal a w→c.wp P (λe dc w'=>∃fl bR,sS P K N fl bR e dc w'∧Q fl bR) a w
def aT.mono{c:Code}{Q S6:b_→aC→Prop}(h:aT P N E c Q st)(ak:∀fl bR,Q fl bR→S6 fl bR):aT P N E c S6 st:=
 λK d9 a w hs=>wp_mono (h K d9 a w hs) λ_ _ _ ⟨fl,bR,Z,aa⟩=>⟨fl,bR,Z,ak _ _ aa⟩
@[reducible] def b_.then (next : aC → Prop) (Q : b_ → aC → Prop) : b_ → aC → Prop
 |.normal,st=>next st
 |e,st=>Q e st
@[reducible] def b_.inBlock (id : Nat) (Q : b_ → aC → Prop) : b_ → aC → Prop
 |.exit i,st=>if i=id then Q .normal st else Q (.exit i) st
 |e,st=>Q e st
def aT.seq{x y:Code}{Q:b_→aC→Prop}(h:aT P N E x (b_.then (aT P N E y Q) Q) st):aT P N E (.seq x y) Q st:=by
 intro K d9 a w hs;refine wp_seq (wp_mono (h K d9 a w hs) ?_)
 rintro e dc w' ⟨fl,bR,Z,aa⟩
 cases fl with
 |normal=>
  obtain⟨rfl,aj⟩:=Z;exact aa K d9 dc w' ⟨rfl,aj⟩
 |exit i=>obtain⟨rfl,aj⟩:=Z;exact⟨.exit i,bR,⟨rfl,aj⟩,aa⟩
 |ret=>obtain⟨rfl,aj⟩:=Z;exact⟨.ret,bR,⟨rfl,aj⟩,aa⟩
 |az x=>obtain⟨v,rfl,aj⟩:=Z;exact⟨.az x,bR,⟨v,rfl,aj⟩,aa⟩
def aT.skip{Q:b_→aC→Prop}(h:Q .normal st):aT P N E .skip Q st:=λ_ _ _ _ hs=>wp_skip ⟨.normal,st,hs,h⟩
def aT.label{l:Nat}{Q:b_→aC→Prop}(h:Q .normal st):aT P N E (.label l) Q st:=λ_ _ _ _ hs=>wp_label ⟨.normal,st,hs,h⟩
def aT.exit{id:Nat}{Q:b_→aC→Prop}(h:Q (.exit id) st):aT P N E (.exit id) Q st:=λ_ _ _ _ hs=>wp_exit ⟨.exit id,st,⟨rfl,hs.2⟩,h⟩
def aT.ret{Q:b_→aC→Prop}(h:Q .ret st):aT P N E .ret Q st:=λ_ _ _ _ hs=>wp_ret ⟨.ret,st,⟨rfl,hs.2⟩,h⟩
def aT.block{id:Nat}{c:Code}{Q:b_→aC→Prop}(h:aT P N E c (b_.inBlock id Q) st):aT P N E (.block id c) Q st:=by
 intro K d9 a w hs;refine wp_block (wp_mono (h K d9 a w hs) ?_)
 rintro e dc w' ⟨fl,bR,Z,aa⟩
 cases fl with
 |normal=>obtain⟨rfl,aj⟩:=Z;exact⟨.normal,bR,⟨rfl,aj⟩,aa⟩
 |exit i=>
  obtain⟨rfl,aj⟩:=Z;by_cases hi:i=id
  ·simp only [b_.inBlock,hi,if_true]at aa;simp only [Exit.inBlock,hi,if_true];exact⟨.normal,bR,⟨rfl,aj⟩,aa⟩
  ·simp only [b_.inBlock,hi,if_false]at aa;simp only [Exit.inBlock,hi,if_false];exact⟨.exit i,bR,⟨rfl,aj⟩,aa⟩
 |ret=>obtain⟨rfl,aj⟩:=Z;exact⟨.ret,bR,⟨rfl,aj⟩,aa⟩
 |az x=>obtain⟨v,rfl,aj⟩:=Z;exact⟨.az x,bR,⟨v,rfl,aj⟩,aa⟩
def aT.cond{c:Nat}{x y:Code}{Q:b_→aC→Prop}(b:Bool)(own:Option TypeId)(hc:look st.env c=some ⟨.v (.bool b),own⟩)(aB:b=true→aT P N E x Q st)(bJ:b=false→aT P N E y Q st):aT P N E (.cond (.tmp c) x y) Q st:=by
 intro K d9 a w hs;obtain⟨_,_,_,M,β,cw⟩:=id hs;have am:a.eval (.tmp c) = .bool b:=uD (cw.e7 (.slot c) _ hc);exact wp_cond_split am (λhb=>aB hb K d9 a w hs) (λhb=>bJ hb K d9 a w hs)
def aT.loop{c:Code}{Q:b_→aC→Prop}{σ:Type}(I:Nat→σ→aC→Prop)(S7:∀n s st,I n s st→∃m,n=m+1∧aT P N E c (b_.then (λbR=>∃sE,I m sE bR) Q) st)
 {n:Nat} {s:σ} {st:aC} (h0:I n s st):aT P N E (.loop c) Q st:=by
 intro K d9 a w hs b k cs
 have key:∀n s st a w,I n s st→sS P K N .normal st .normal a w→
  ∃e dc w',(∃fl bR,sS P K N fl bR e dc w'∧Q fl bR)∧Arrives P (lone (b.at a (.code c :: .inLoop c::k)) cs w) b k cs e dc w':=by
  intro n;induction n with
  |zero=>
   intro s st a w ly _;obtain⟨m,hm,_⟩:=S7 0 s st ly;omega
  |succ n aF=>
   intro s st a w ly hs;obtain⟨m,hm,K1⟩:=S7 (n+1) s st ly;have:m=n:=by omega
   subst this;obtain⟨e,EO,EP,⟨fl,bR,Z,aa⟩,xr⟩:=K1 K d9 a w hs b (.inLoop c::k) cs;cases fl with
   |normal=>
    obtain⟨rfl,aj⟩:=Z;obtain⟨sE,ab4⟩:=aa;obtain⟨ab5,ab6,ab7,ab8,ab9⟩:=aF sE bR EO EP ab4 ⟨rfl,aj⟩;exact⟨ab5,ab6,ab7,ab8,.of_steps (Steps.trans xr (.one step_inLoop)) ab9⟩
   |exit i=>obtain⟨rfl,aj⟩:=Z;exact⟨_,EO,EP,⟨.exit i,bR,⟨rfl,aj⟩,aa⟩,.pass (x:=.inLoop c) rfl (λ_ _=>.inl (by simp)) xr⟩
   |ret=>obtain⟨rfl,aj⟩:=Z;exact⟨_,EO,EP,⟨.ret,bR,⟨rfl,aj⟩,aa⟩,.pass (x:=.inLoop c) rfl (λ_ _=>.inl (by simp)) xr⟩
   |az x=>obtain⟨v,rfl,aj⟩:=Z;exact⟨_,EO,EP,⟨.az x,bR,⟨v,rfl,aj⟩,aa⟩,.pass (x:=.inLoop c) rfl (λ_ _=>.inl (by simp)) xr⟩
 obtain⟨e,dc,w',ak,xr⟩:=key n s st a w h0 hs;exact⟨e,dc,w',ak,.of_steps (.one step_loop) xr⟩
end
def xt(tt:dq)(st:aC):ResultVar→Option D
 |.tmp t=>(look st.env t).map (·.d)
 |.cell a t=>match look st.env a,look tt t with
  |some ⟨.ptr r off,_⟩,some aE=>match look st.H r with
   |some cs=>bif aE.k.isAgg then(bif Nat.ble (off+aE.size) cs.length then some (p1 (((cs.drop off).take aE.size).map (·.d)))else none) else(cs[off]?).map (·.d)
   |none=>none
  |_,_=>none
def S8(tt:dq)(st:aC):List ResultVar→Option (D×Option TypeId)
 |[.tmp t]=>(look st.env t).map λe=>(e.d,e.own)
 |[x]=>(xt tt st x).map (·,none)
 |xs=>(mapM' (xt tt st) xs).map λds=>(.cn ds,none)
def leave(tt:dq)(E:Nat)(rs:List ResultVar)(st:aC):Option (Out×List (List aP)):=
 match S8 tt st rs,boxes st.H (List.range E) with
 |some (d,own),some bB=>bif below E d&&bB.all (sB E)then some (.ret d own,bB)else none
 |_,_=>none
def EQ(E:Nat)(H:List (Nat×List aP)):Option (List (List aP)):=
 match boxes H (List.range E) with
 |some bB=>bif bB.all (sB E)then some bB else none
 |none=>none
def nL(H:List (List aP)):List (List aP):=H.map λb=>b.map λe=>{d:=e.d}
def sU(tt:dq)(E:Nat)(rs:List ResultVar)(R:Out→List (List aP)→Prop):b_→aC→Prop
 |.normal,st=>∃o bB,leave tt E rs st=some (o,bB)∧R o bB
 |.ret,st=>∃o bB,leave tt E rs st=some (o,bB)∧R o bB
 |.az x,st=>∃bB,EQ E st.H=some bB∧R (.az x) (nL bB)
 |.exit _,_=>False
section
variable {P:Program} {K:Ctx} {N E:Nat} {M:Mem} {β:Nat→Option Nat} {st:aC} {tmps:Array Value} {w:World} {tt:dq}
def ER(tmps:Array Value):ResultVar→Sem Value
 |.tmp t=>pure (tmps.getD t undef)
 |.cell a t=>do loadVar t (←asAddr (tmps.getD a undef))
def S9(h:bw P K M β st tmps w)(cf:e_ P tt=true){x:ResultVar}{d:D}(hx:xt tt st x=some d):
 ∃v,(ER tmps x).run P w = .ok v w∧ce M β v d:=by
 cases x with
 |tmp t=>
  simp only [xt,Option.map_eq_some_iff]at hx;obtain⟨e,he,rfl⟩:=hx;exact⟨_,rfl,h.e7 (.slot t) e he⟩
 |cell a t=>
  simp only [xt]at hx;split at hx
  case h_2=>cases hx
  rename_i r off own aE ha ab;obtain⟨row⟩:=ee cf ab;split at hx
  case h_2=>cases hx
  rename_i cs ah;obtain⟨b,hb,am⟩:=ri (h.e7 (.slot a) _ ha);simp only [cc]at am;obtain⟨bo,vs,T,bI,bh,hlen,_,_,iJ,ml⟩:=h.box r cs ah;rw [hb]at bI;cases bI
  have S':∀{u:Value},(Instr.loadAt t (.pointer (some ⟨b,off,none⟩))).run P w = .ok u w→(do loadVar t (←asAddr (tmps.getD a undef)):Sem Value).run P w = .ok u w:=by
   intro u hu;rw [am];simpa [Instr.loadAt,Instr.sureAddr,asAddr]using hu
  rw [Bool.cond_eq_ite]at hx;split at hx
  ·rename_i jp;rw [Bool.cond_eq_ite]at hx;split at hx
   case isFalse=>cases hx
   rename_i hle;simp only [Nat.ble_eq]at hle;cases hx;refine⟨_,S' (RQ (P:=P) row (off:=off) bh (by omega) jp),?_⟩
   refine Ei (by simp;omega) (λv am=>iJ v (List.mem_of_mem_drop (List.mem_of_mem_take am))) (λi v c am hc=>?_)
   rw [List.getElem?_map,Option.map_eq_some_iff]at hc;obtain⟨e,he,rfl⟩:=hc;rw [List.getElem?_take]at am he;split at am
   ·rename_i hi;rw [if_pos hi,List.getElem?_drop]at he;rw [List.getElem?_drop]at am;have:=h.e7 (.cell r (off+i)) e (by simp [aC.at,ah,he])
    simpa [cc,hb,cell_of_heap bh,am]using this
   ·cases am
  ·rename_i jp;simp only [Option.map_eq_some_iff]at hx;obtain⟨e,he,rfl⟩:=hx;obtain⟨gz,aaN,pd,v,fA,Si,eH,b'⟩:=J0 h ah he;rw [hb]at fA;cases fA;refine⟨v,S' (Ka (P:=P) row (by rw [cell_of_heap Si,eH]) (by simpa using jp)),?_⟩
   have:=h.e7 (.cell r off) e (by simp [aC.at,ah,he])
   rwa [b']at this
def S_(h:bw P K M β st tmps w)(cf:e_ P tt=true):∀{xs:List ResultVar} {ds:List D},mapM' (xt tt st) xs=some ds→
 ∃vs:List Value,(xs.mapM (ER tmps)).run P w = .ok vs w∧vs.length=ds.length∧
  ∀(i:Nat) v d,vs[i]? = some v→ds[i]? = some d→ce M β v d
 |[],ds,hx=>by simp [mapM']at hx;subst hx;exact⟨[],rfl,rfl,by simp⟩
 |x::xs,ds,hx=>by
  simp only [mapM']at hx;split at hx
  case h_2=>cases hx
  rename_i d abM hd hJ;cases hx;obtain⟨v,am,gj⟩:=S9 h cf hd;obtain⟨vs,mU,ab,ah⟩:=S_ h cf hJ;refine⟨v::vs,?_,by simp [ab],λi u c hu hc=>?_⟩
  ·simp only [List.mapM_cons,Sem.run_bind,am,Result.andThen_ok,mU,Sem.run_pure]
  ·cases i with
   |zero=>simp at hu hc;subst hu;subst hc;exact gj
   |succ i=>simp at hu hc;exact ah i u c hu hc
def ab'{H:List (Nat×List aP)}{E:Nat}{bB:List (List aP)}(h:boxes H (List.range E)=some bB):bB.length=E∧∀r,r<E→look H r=bB[r]? ∧ (bB[r]?).isSome=true:=by
 obtain⟨Z,aa⟩:=uO h;exact⟨by simpa using Z,λr ah=>aa r r (by simp [ah])⟩
def bw.leave(h:bw P K M β st tmps w){bB:List (List aP)}(AK:boxes st.H (List.range E)=some bB)(Ta:bB.all (sB E)=true)(d9:∀r b,K.kU r=some b→r<E){v:Value}{d:D}{own:Option TypeId}
 (am:ce M β v d) (hd:below E d=true) (fW:∀T,own=some T→∃l,mR P K M β {env:=gN l st.env,H:=st.H,aK:=st.aK} tmps w (.slot 0) v T∧True):
 ∃ β',bw P K M β' {env:=[(0,{d,own})],H:=cy 0 bB,aK:=E} #[v] w:=by
 obtain⟨ab,lw⟩:=ab' AK;have Z:=h.AG #[undef]
 have kd:∀r cs,look (cy 0 bB) r=some cs→r<E∧look st.H r=some cs:=by
  intro r cs ah;rw [mV]at ah;have bm:r<E:=by have:=(List.getElem?_eq_some_iff.1 ah).1;omega
  exact⟨bm,by rw [(lw r bm).1];exact ah⟩
 have hle:E≤st.aK∨E=0:=by
  by_cases h0:E=0
  ·exact .inr h0
  ·obtain⟨aa,aj⟩:=lw (E-1) (by omega)
   obtain⟨cs,dQ⟩:=Option.isSome_iff_exists.1 aj;rw [dQ]at aa;obtain⟨b,_,_,hb,_⟩:=h.box _ cs aa;have:=h.lt _ b hb
   exact .inl (by omega)
 have aa:bw P K M β {env:=[],H:=cy 0 bB,aK:=st.aK} #[undef] w:=by
  refine Z.sub rfl (λl e ab=>?_) (λr cs ah=>⟨cs,(kd r cs ah).2,rfl⟩)
  cases l with
  |slot s=>simp [aC.at,look]at ab
  |cell r i=>
   simp only [aC.at]at ab ⊢;cases ah:look (cy 0 bB) r with
   |none=>simp [ah]at ab
   |some cs=>simp [ah]at ab;exact⟨e,by simp [(kd r cs ah).2,ab],rfl,λ_ h=>h⟩
 -- lu slot
 have aj:bw P K M β {env:=[(0,{d,own})],H:=cy 0 bB,aK:=st.aK} #[v] w:=by
  have ab_:=aa.put (t:=0) (v:=v) (e:={d,own}) (by simp) am (λT aA=>?_)
  ·simpa using ab_
  ·obtain⟨l,hn,_⟩:=fW T aA;refine⟨hn.own,λg' e T' b eJ dJ _ hb bI=>?_,λb r cs hb ah=>hn.unbox b r cs hb (kd r cs ah).2⟩
   cases g' with
   |slot s=>simp [aC.at,look]at eJ
   |cell r i=>
    simp only [aC.at]at eJ;cases ah:look (cy 0 bB) r with
    |none=>simp [ah]at eJ
    |some cs=>
     simp [ah]at eJ;exact hn.apart (.cell r i) e T' b (by simp [aC.at,(kd r cs ah).2,eJ]) dJ (by simp) hb bI
 refine⟨λr=>if r<E then β r else none,?_⟩
 have b':∀l e,({env:=[(0,{d,own})],H:=cy 0 bB,aK:=st.aK}:aC).at l=some e→cc #[v] w (λr=>if r<E then β r else none) l=cc #[v] w β l:=by
  intro l e ab;cases l with
  |slot s=>rfl
  |cell r i=>
   simp only [aC.at]at ab;cases ah:look (cy 0 bB) r with
   |none=>simp [ah]at ab
   |some cs=>simp [cc,(kd r cs ah).1]
 have mS:∀l e,({env:=[(0,{d,own})],H:=cy 0 bB,aK:=st.aK}:aC).at l=some e→below E e.d=true:=by
  intro l e ab;cases l with
  |slot s=>
   simp only [aC.at,dC]at ab;split at ab
   ·cases ab;exact hd
   ·simp [look]at ab
  |cell r i=>
   simp only [aC.at]at ab;cases ah:look (cy 0 bB) r with
   |none=>simp [ah]at ab
   |some cs=>
    simp [ah]at ab;rw [mV]at ah;rw [List.all_eq_true]at Ta;exact J7 (Ta cs (List.mem_of_getElem? ah)) ab
 constructor
 ·intro l e ab;rw [b' l e ab];exact(aj.e7 l e ab).RF (λr ah=>by simp [ah]) (mS l e ab)
 ·intro l e T ab aA;rw [b' l e ab];exact aj.own l e T ab aA
 ·intro l cr e aX T T' b ab aA dk dJ hb bI;rw [b' l e ab]at hb;rw [b' cr aX dk]at bI;exact aj.uniq l cr e aX T T' b ab aA dk dJ hb bI
 ·intro l e T b r cs ab aA hb ah;rw [b' l e ab]at hb;have:=aj.unbox l e T b r cs ab aA hb ah
  simpa [(kd r cs ah).1]using this
 ·intro r cs ah;obtain⟨b,vs,T,aD,aV⟩:=aj.box r cs ah;exact⟨b,vs,T,by simpa [(kd r cs ah).1]using aD,aV⟩
 ·intro r df b cs cs' ah fJ hb bI;exact aj.inj r df b cs cs' ah fJ (by simpa [(kd r cs ah).1]using hb) (by simpa [(kd df cs' fJ).1]using bI)
 ·intro r b hb;by_cases bm:r<E
  ·exact bm
  ·simp [bm]at hb
 ·exact aj.mem
 ·exact aj.m0
 ·exact aj.frame
 ·intro r b hb;simp [d9 r b hb,aj.iv r b hb]
 ·exact aj.iX
 ·exact aj.hG
def bw.era{env:List (Nat×aP)}{H:List (List aP)}{n:Nat}(h:bw P K M β {env:=env,H:=cy 0 H,aK:=n} tmps w):bw P K M β {env:=env,H:=cy 0 (nL H),aK:=n} tmps w:=by
 refine h.sub rfl (λl e ab=>?_) (λr cs ah=>?_)
 ·cases l with
  |slot s=>exact⟨e,ab,rfl,λ_ h=>h⟩
  |cell r i=>
   simp only [aC.at,mV,nL,List.getElem?_map]at ab ⊢;cases hb:H[r]? with
   |none=>simp [hb]at ab
   |some b=>
    simp only [hb,Option.map_some,Option.bind_some,List.getElem?_map,Option.map_eq_some_iff]at ab;obtain⟨bU,h0,rfl⟩:=ab;exact⟨bU,by simpa using h0,rfl,λT aA=>by cases aA⟩
 ·simp only [mV,nL,List.getElem?_map,Option.map_eq_some_iff]at ah ⊢;obtain⟨b,hb,rfl⟩:=ah;exact⟨b,hb,by simp⟩
def AL{fn:Func}{E:Nat}{fs:Array Value}{w':World}{bR:aC}{M':Mem}{β':Nat→Option Nat}{o:Out}{bB:List (List aP)}(cf:e_ P tt=true)(d9:∀r b,K.kU r=some b→r<E)(hs:bw P K M' β' bR fs w')
 (ab:Ab.leave tt E fn.results.toList bR=some (o,bB)):
 ∃v,(results fn fs).run P w' = .ok v w'∧∃mt M' β',Ending.returned v=sK o mt∧bw P K M' β' {env:=h_ o,H:=cy 0 bB,aK:=E} #[mt] w':=by
 unfold Ab.leave at ab;split at ab
 case h_2=>cases ab
 rename_i d own H1 iM AK;rw [Bool.cond_eq_ite]at ab;split at ab
 case isFalse=>cases ab
 rename_i hc;simp only [Bool.and_eq_true]at hc;cases ab
 -- lu value of lu results
 have b':∃v,(results fn fs).run P w' = .ok v w'∧ce M' β' v d∧∀T,own=some T→∃l,mR P K M' β' {env:=gN l bR.env,H:=bR.H,aK:=bR.aK} fs w' (.slot 0) v T∧True:=by
  have hm:∀{vs:List Value},(fn.results.toList.mapM (ER fs)).run P w' = .ok vs w'→
   (results fn fs).run P w' = .ok (if h:vs.length=1 then vs[0]else .tuple ⟨vs⟩) w':=by
   intro vs mU
   have iM:results fn fs=(do let vs ←fn.results.mapM (ER fs);pure (if h:vs.size=1 then vs[0]else .tuple vs)):=by
    unfold results
    congr 2
   rw [iM,show fn.results=⟨fn.results.toList⟩from rfl,List.mapM_toArray]
   simp only [Sem.run_bind,Sem.run_map,mU,Result.andThen_ok,Sem.run_pure];simp
  unfold S8 at iM;split at iM
  ·rename_i t aB;simp only [Option.map_eq_some_iff,Prod.mk.injEq]at iM;obtain⟨e,he,rfl,rfl⟩:=iM;have iZ:=hs.e7 (.slot t) e he;refine⟨fs.getD t undef,?_,iZ,λT aA=>⟨[t],hs.hand he aA (.slot 0),trivial⟩⟩
   have:=hm (vs:=[fs.getD t undef]) (by rw [aB];rfl)
   simpa using this
  ·rename_i x dj hx;simp only [Option.map_eq_some_iff,Prod.mk.injEq]at iM;obtain⟨dv,iY,rfl,rfl⟩:=iM;obtain⟨v,am,gj⟩:=S9 hs cf iY;refine⟨v,?_,gj,by simp⟩
   have:=hm (vs:=[v]) (by rw [hx];simp only [List.mapM_cons,List.mapM_nil,Sem.run_bind,am,Result.andThen_ok,Sem.run_pure])
   simpa using this
  ·simp only [Option.map_eq_some_iff,Prod.mk.injEq]at iM;obtain⟨ds,hJ,rfl,rfl⟩:=iM;obtain⟨vs',mU,ab,gj⟩:=S_ hs cf hJ;refine⟨.tuple ⟨vs'⟩,?_,.cn vs' ds ab gj,by simp⟩
   have dj:vs'.length≠1:=by
    rename_i Z aa;rw [ab,(sH hJ).1];intro bh;obtain⟨x,hx⟩:=List.length_eq_one_iff.1 bh;exact aa x hx
   have:=hm mU
   simpa [dj]using this
 obtain⟨v,eO,gj,fW⟩:=b';obtain⟨AM,mX⟩:=hs.leave AK hc.2 d9 gj hc.1 fW;exact⟨v,eO,v,M',AM,rfl,mX⟩
def bw.u4{P:Program}{K:Ctx}{M:Mem}{β:Nat→Option Nat}{st:aC}{tmps:Array Value}{w:World}(h:bw P K M β st tmps w)(ds:List Deferred):bw P {K with ds:=ds} M β st tmps w:=
 ⟨h.e7,h.own,h.uniq,h.unbox,h.box,h.inj,h.lt,h.mem,h.m0,h.frame,h.iv,h.iX,h.hG⟩
def La{args:List D}{dN:List (Nat×TypeId)}{H:List (List aP)}{vs:List Value}{n:Nat}(hlen:vs.length=args.length)(cw:bw P K M β {env:=hv args dN,H:=cy 0 H,aK:=H.length} ⟨vs⟩ w):
 bw P K M β {env:=hv args dN,H:=cy 0 H,aK:=H.length} ((⟨vs⟩:Array Value)++Array.replicate n undef) w:=by
 have am:∀l e,({env:=hv args dN,H:=cy 0 H,aK:=H.length}:aC).at l=some e→cc ((⟨vs⟩:Array Value)++Array.replicate (n) undef) w β l=cc ⟨vs⟩ w β l:=by
  intro l e ab;cases l with
  |slot s=>
   simp only [aC.at,hv,mV,Ap,Option.map_eq_some_iff]at ab;obtain⟨d,hd,_⟩:=ab;have hs:s<vs.length:=by have:=(List.getElem?_eq_some_iff.1 hd).1;omega
   simp only [cc,Array.getD_eq_getD_getElem?];rw [Array.getElem?_append_left (by simpa using hs)]
  |cell r i=>rfl
 constructor
 ·intro l e ab;rw [am l e ab];exact cw.e7 l e ab
 ·intro l e T ab aA;rw [am l e ab];exact cw.own l e T ab aA
 ·intro l cr e aX T T' b ab aA dk dJ hb bI;rw [am l e ab]at hb;rw [am cr aX dk]at bI;exact cw.uniq l cr e aX T T' b ab aA dk dJ hb bI
 ·intro l e T b r cs ab aA hb ah;rw [am l e ab]at hb;exact cw.unbox l e T b r cs ab aA hb ah
 ·exact cw.box
 ·exact cw.inj
 ·exact cw.lt
 ·exact cw.mem
 ·exact cw.m0
 ·exact cw.frame
 ·exact cw.iv
 ·exact cw.iX
 ·exact cw.hG
def qc.of_wp {f : FuncId} {fn : Func} {c : Code} {args : List D} {dN : List (Nat × TypeId)} {H : List (List aP)} {R : Out → List (List aP) → Prop} (cf : e_ P tt = true) (bJ : P.funcs[f]? = some fn) (hb : fn.body = some c) (js : decide (fn.name = "runtime.NumGoroutine") = false)
 (ey:Nat.ble args.length fn.ntmps=true) (h:aT P fn.ntmps H.length c (sU tt H.length fn.results.toList R) {env:=hv args dN,H:=cy 0 H,aK:=H.length}):qc P f args dN H R:=by
 refine⟨⟨fn,bJ,by rw [hb];rfl,by simpa using js⟩,?_⟩
 intro dL w vs M β hlen Lb Lc
 suffices key:∀K:Ctx,K.ds=[]→bw P K M β {env:=hv args dN,H:=cy 0 H,aK:=H.length} ⟨vs⟩ w→(∀r b,β r=some b→K.kU r=some b)→
  Calls P f ⟨vs⟩ w λe w'=>∃o bB v M' β',R o bB∧e=sK o v∧bw P K M' β' {env:=h_ o,H:=cy 0 bB,aK:=H.length} #[v] w' from
  (key {dL with ds:=[]} rfl (Lb.u4 []) Lc).mono λe w' ⟨o,bB,v,M',β',Z,aa,aj⟩=>⟨o,bB,v,M',β',Z,aa,aj.u4 dL.ds⟩
 intro K hJ cw gO;have d9:∀r b,K.kU r=some b→r<H.length:=λr b hb=>cw.lt r b (cw.iv r b hb)
 simp only [Nat.ble_eq]at ey;have aca:=La (n:=fn.ntmps-(⟨vs⟩:Array Value).size) hlen cw;have acb:=h K d9 {tmps:=(⟨vs⟩:Array Value)++Array.replicate (fn.ntmps-(⟨vs⟩:Array Value).size) undef,defers:=[]} w ⟨rfl,hJ.symm,by simp;omega,M,β,aca⟩
 refine calls_of_wp bJ hb (wp_mono acb ?_)
 have fin:∀(dc:Act) (w':World) (bR:aC) M' β',bw P K M' β' bR dc.tmps w'→(∃o bB,Ab.leave tt H.length fn.results.toList bR=some (o,bB)∧R o bB)→
  ∃v,(results fn dc.tmps).run P w' = .ok v w'∧∃o bB mt M' β',R o bB∧Ending.returned v=sK o mt∧bw P K M' β' {env:=h_ o,H:=cy 0 bB,aK:=H.length} #[mt] w':=by
  intro dc w' bR M' β' hs ⟨o,bB,ab,sV⟩;obtain⟨v,Z,mt,Ah,Ai,aa,aj⟩:=AL cf d9 hs ab;exact⟨v,Z,o,bB,mt,Ah,Ai,sV,aa,aj⟩
 rintro e dc w' ⟨fl,bR,Z,aa⟩
 cases fl with
 |normal=>
  obtain⟨rfl,hd,_,M',β',hs⟩:=Z;exact⟨hd.trans hJ,fin dc w' bR M' β' hs aa⟩
 |ret=>
  obtain⟨rfl,hd,_,M',β',hs⟩:=Z;exact⟨hd.trans hJ,fin dc w' bR M' β' hs aa⟩
 |exit i=>exact aa.elim
 |az x=>
  obtain⟨v,rfl,hd,M',β',gj,hs⟩:=Z;obtain⟨H1,ab,sV⟩:=aa;unfold EQ at ab;split at ab
  case h_2=>cases ab
  rename_i cu AK;rw [Bool.cond_eq_ite]at ab;split at ab
  case isFalse=>cases ab
  rename_i hc;cases ab;obtain⟨AM,mX⟩:=hs.leave (own:=none) AK hc d9 (.v v x gj) rfl (by simp)
  exact⟨hd.trans hJ,.az x,nL H1,v,M',AM,sV,rfl,mX.era⟩
end
end Go.Ab

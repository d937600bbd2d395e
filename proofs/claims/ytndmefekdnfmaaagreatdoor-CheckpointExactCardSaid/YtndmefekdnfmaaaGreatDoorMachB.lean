/- The abstract machine: a step of code over plain data, proved against the model. -/
import Derived.Laws.Build
import Derived.Laws.IdiomStrings
import Derived.Test.YtndmefekdnfmaaaGreatDoorMachA
set_option linter.all false
namespace Go.Ab
def u7:Nat->List D->List (Nat×TypeId)->List aS
 |_,[],_=>[]
 |i,d::l,a=>{d,own:=look a i}::u7 (i+1) l a
def iW(args:List D)(a:List<|Nat×TypeId):List (Nat×aS):=dm 0 (u7 0 args a)
def F4:∀(l:List D) (k i:Nat) (a:List<|Nat×TypeId),(u7 k l a)[i]? = (l[i]?).map λd=>({d,own:=look a (k+i)}:aS)
 |[],k,i,a=>by simp[u7]
 |d::l,k,i,a=>by
  cases i with
  |zero=>simp[u7]
  |succ i=>
   simp only[u7,kW,F4 l (k+1) i a];rw[show k+1+i=k+(i+1)by omega]
def je:Out->List (Nat×aS)
 |.ret d own=>[(0,{d,own})]
 |.bv x=>[(0,{d:=.v x})]
def tk:Out->Value->Ending
 |.ret _ _,v=>.returned v
 |.bv _,v=>.panicked [{v,recovered:=false}]
def tl(P:Program)(f:FuncId)(args:List D)(g:List<|Nat×TypeId)(H:List<|List aS)(R:Out->List (List aS)->Prop):Prop:=
 (∃ fd, P.funcs[f]? = some fd /\ fd.body.isSome = true /\ fd.name ≠ "runtime.NumGoroutine") /\
 ∀(K:Ctx) (w:World) (vs:List Value) (M:Mem) (β:Nat->Option Nat),vs.length=args.length->
  bh P K M β {env:=iW args g,H:=dm 0 H,aD:=H.length} ⟨vs⟩ w->(∀r b,β r=some b->K.hE r=some b)->
  Calls P f ⟨vs⟩ w λe d=>∃o c v h a,R o c/\e=tk o v/\bh P K h a {env:=je o,H:=dm 0 c,aD:=H.length} #[v] d
def tl.mono{P:Program}{f:FuncId}{args:List D}{b:List (Nat×TypeId)}{H:List (List aS)}{R R':Out->List (List aS)->Prop}(h:tl P f args b H R)(k:∀o H',R o H'->R' o H'):tl P f args b H R':=
 ⟨h.1,λK w c M β l d e=>(h.2 K w c M β l d e).mono λ_ _ ⟨o,H',v,m,a,i,g,j⟩=>⟨o,H',v,m,a,k _ _ i,g,j⟩⟩
def gn(P:Program)(f:FuncId)(args:List D)(b:List<|Nat×TypeId)(H:List<|List aS)(o:Out)(H2:List<|List aS):Prop:=tl P f args b H λa c=>a=o/\c=H2
def e0(P:Program):hC:={call:=gn P,eq:=Su P}
def adb{α:Type}:∀(l:List α) (n i:Nat),look (dm n l) i=if n<=i then l[i-n]? else none
 |[],n,i=>by simp[dm,look]
 |x::l,n,i=>by
  simp only[dm,du,adb l (n+1) i];by_cases b:n=i
  ·subst b;simp
  ·rw[de b];by_cases a:n<=i
   ·rw[eI<|by omega,eI a]
    obtain⟨j,rfl⟩:∃j,i=n+1+j:=⟨i-(n+1),by omega⟩
    rw[show n+1+j-(n+1)=j by omega,show n+1+j-n=j+1 by omega]
    simp
   ·rw[de<|by omega,de a]
def o8{α:Type}(l:List α)(i:Nat):look (dm 0 l) i=l[i]? := by simp[adb]
def Lp:∀{ρ:List Nat} {r j:Nat},idx ρ r=some j->ρ[j]? = some r
 |[],_,_,h=>by simp[idx]at h
 |x::l,r,j,h=>by
  simp only[idx]at h;rw[fe]at h;split at h
  ·rename_i a;cases h;simp at a;simp[a]
  ·simp only[dC]at h;obtain⟨k,b,rfl⟩:=h;simpa using Lp b
def Lq:∀{l:List Nat},o3 l=true->∀(i j:Nat) r,l[i]? = some r->l[j]? = some r->i=j
 |[],_,i,_,_,h,_=>by simp at h
 |x::l,h,i,j,r,b,a=>by
  simp only[o3,cb,hh,List.any_eq_false]at h;have c:∀k,l[k]? = some x->False:=λk d=>by have:=h.1 x<|hA d;simp at this
  cases i<;>cases j
  ·rfl
  ·simp at b a;subst b;exact(c _ a).elim
  ·simp at b a;subst a;exact(c _ b).elim
  ·simp at b a;rw[Lq h.2 _ _ r b a]
def yD{H:List (Nat×List aS)}:∀{ρ:List Nat} {bs:List (List aS)},boxes H ρ=some bs->bs.length=ρ.length/\∀(j r:Nat),ρ[j]? = some r->look H r=bs[j]? /\ (bs[j]?).isSome=true
 |[],bs,h=>by simp[boxes]at h;subst h;simp
 |x::ρ,bs,h=>by
  simp only[boxes]at h;split at h
  case h_2=>cases h
  rename_i b g d c;cases h;let⟨f,e⟩:=yD c;refine⟨by simp[f],λj r a=>?_⟩
  cases j with
  |zero=>simp at a;subst a;simp[d]
  |succ j=>simp at a;simpa using e j r a
def BT{f:Nat->Option Nat}:∀{b a:List aS},o2 f b=some a->a.length=b.length/\∀(i:Nat) c,a[i]? = some c->∃e,b[i]? = some e/\eJ f e.d=some c.d/\c.own=e.own
 |[],a,h=>by simp[o2]at h;subst h;simp
 |e::l,a,h=>by
  simp only[o2]at h;split at h
  case h_2=>cases h
  rename_i p o j n;cases h;let⟨m,k⟩:=BT n;refine⟨by simp[m],λi c g=>?_⟩
  cases i with
  |zero=>
   simp at g;subst g
   simp only[K3,dC]at j;obtain⟨d,hd,rfl⟩:=j;exact⟨e,by simp,hd,rfl⟩
  |succ i=>simp at g;simpa using k i c g
def anl{f:Nat->Option Nat}{d:D}{r off:Nat}{u:TypeId}(h:eJ f d=some (.cn r off u)):∃a,d = .cn a off u:=by
 cases d with
 |cn a i j=>
  simp only[eJ,dC]at h;let⟨s,_,b⟩:=h;cases b;exact⟨a,rfl⟩
 |v x=>simp[eJ]at h
 |fD x=>simp[eJ]at h
 |full k n e=>simp[eJ]at h
 |ex u x=>simp[eJ]at h
 |ptr a o=>simp[eJ]at h
 |fn g c=>simp[eJ]at h
 |agg c=>simp[eJ]at h
 |cw c=>simp[eJ]at h
def mR.eJ{P:Program}{T:TypeId}{n:Nat}{f:Nat->Option Nat}{b d:List aS}(h:mR P T n b)(p:o2 f b=some d):mR P T n d:=λe j r a u hd=>by
 obtain⟨i,g,rfl⟩:=qN j;let⟨m,k,c,_⟩:=(BT p).2 i _<|ed g;rw[hd]at c;let⟨l,o⟩:=anl c;exact h m (hA k) l a u o
def BU{f:Nat->Option Nat}:∀{bs a:List (List aS)},lf f bs=some a->a.length=bs.length/\∀(j:Nat) d,a[j]? = some d->∃b,bs[j]? = some b/\o2 f b=some d
 |[],a,h=>by simp[lf]at h;subst h;simp
 |b::l,a,h=>by
  simp only[lf]at h;split at h
  case h_2=>cases h
  rename_i n m e k;cases h;let⟨i,g⟩:=BU k;refine⟨by simp[i],λj d c=>?_⟩
  cases j with
  |zero=>simp at c;subst c;exact⟨b,by simp,e⟩
  |succ j=>simp at c;simpa using g j d c
def S4{H:List (Nat×List aS)}:∀{ρ:List Nat} {bs:List (List aS)},bs.length=ρ.length->o3 ρ=true->∀r,
 (∀(j:Nat),ρ[j]? = some r->look (mQ ρ bs++H) r=bs[j]?)/\((∀(j:Nat),ρ[j]? ≠ some r)->look (mQ ρ bs++H) r=look H r)
 |[],bs,_,_,r=>by simp[mQ]
 |x::ρ,[],h,_,_=>by simp at h
 |x::ρ,b::bs,h,d,r=>by
  have i:o3 ρ=true:=by simp[o3]at d;exact d.2
  let⟨g,f⟩:=S4 (H:=H) (ρ:=ρ) (bs:=bs) (by simpa using h) i r
  simp only[mQ,gk,du];refine⟨λj a=>?_,λa=>?_⟩
  ·by_cases c:x=r
   ·have:j=0:=Lq d j 0 r a (by simp[c])
    subst this;simp[c]
   ·cases j with
    |zero=>simp at a;exact(c a).elim
    |succ j=>simp at a;rw[de c];simpa using g j a
  ·have c:x≠r:=λe=>a 0 (by simp[e])
   rw[de c];exact f λj=>by simpa using a (j+1)
section
variable {P:Program} {K:Ctx} {N:Nat} {M:Mem} {β:Nat->Option Nat} {st:aA} {g:dt} {k:Array Value} {w:World} {o:Oper} {f:mO} {p:Path} {tt:dI} {m:hC} {ops:List Oper}
def F5(ρ a:List Nat):Loc->Prop
 |.cell r _=>r∈ρ
 |.slot t=>t∈a
def tm(st:aA)(k:Array Value)(w:World)(β:Nat->Option Nat)(ρ a:List Nat)(b:Nat):Prop:=
 (∃r,r∈ρ/\β r=some b)\/∃l e T,F5 ρ a l/\st.at l=some e/\e.own=some T/\km T (ch k w β l) b
open Classical in
noncomputable def lU(M:Mem)(β:Nat->Option Nat)(st:aA)(k:Array Value)(w:World)(ρ a:List Nat):Ctx:=
 {s_:=M,F:=λb=>if tm st k w β ρ a b then none else w.heap[b]?,hE:=λj=>(ρ[j]?).bind β,gz:=(w.os,w.output)}
structure Handed(st:aA)(k:Array Value)(vs:List Value)(hd:List<|Nat×Option Nat×TypeId):Prop where
 some:∀i t T,(i,Option.some t,T)∈hd->∃e,st.at (.slot t)=Option.some e/\e.own=Option.some T/\vs[i]? = Option.some (k.getD t undef)
 none:∀i T,(i,Option.none,T)∈hd->vs[i]? = Option.some (.slice Option.none 0 0)
 inj:∀i j t T T',(i,Option.some t,T)∈hd->(j,Option.some t,T')∈hd->i=j
def wL(hd:List<|Nat×Option Nat×TypeId):List (Nat×TypeId):=hd.map λx=>(x.1,x.2.2)
def tn(hd:List<|Nat×Option Nat×TypeId):List Nat:=hd.filterMap λx=>x.2.1
def anm{hd:List (Nat×Option Nat×TypeId)}{i:Nat}{T:TypeId}(h:look (wL hd) i=some T):∃o,(i,o,T)∈hd:=by
 have:=nT h
 simp only[wL,jk]at this;let⟨⟨a,o,d⟩,c,b⟩:=this;cases b;exact⟨o,c⟩
def ann{hd:List (Nat×Option Nat×TypeId)}{i t:Nat}{T:TypeId}(h:(i,some t,T)∈hd):t∈tn hd:=by
 simp only[tn,Az];exact⟨_,h,rfl⟩
def Lr(ρ:List Nat)(hd:List<|Nat×Option Nat×TypeId)(T:TypeId):Loc->Loc->Prop
 |.cell j i,.cell r a=>i=a/\ρ[j]? = some r
 |.slot s,.slot t=>(s,some t,T)∈hd
 |_,_=>False
def adc(h:bh P K M β st k w){ρ:List Nat}{bs H1:List (List aS)}(hn:o3 ρ=true)(mv:boxes st.H ρ=some bs)(nW:lf (idx ρ) bs=some H1){ds U:List D}{vs:List Value}
 (hlen:vs.length=ds.length) (hv:∀(i:Nat) v d,vs[i]? = some v->ds[i]? = some d->cg M β v d) (fE:mP (idx ρ) ds=some U) {hd:List (Nat×Option Nat×TypeId)} (yE:Handed st k vs hd):
 bh P (lU M β st k w ρ<|tn hd) M (λj=>(ρ[j]?).bind β) {env:=iW U<|wL hd,H:=dm 0 H1,aD:=H1.length} ⟨vs⟩ w:=by
 let⟨hb1,O⟩:=yD mv;let⟨im,iV⟩:=BU nW;let⟨aCi,ano⟩:=BB fE
 have ade:∀{v d dY},cg M β v d->eJ (idx ρ) d=some dY->cg M (λj=>(ρ[j]?).bind β) v dY:=by
  intro v d dY hd lO;exact hd.eJ (λr s b hs n=>by rw[Lp hs];simpa using n) lO
 -- a cell of jX S5 is a cell of ours
 have jp:∀j i q,({env:=iW U<|wL hd,H:=dm 0 H1,aD:=H1.length}:aA).at (.cell j i)=some q->∃(r:Nat) (e:aS),ρ[j]? = some r/\st.at (.cell r i)=some e/\eJ (idx ρ) e.d=some q.d/\q.own=e.own/\
  ch ⟨vs⟩ w (λj=>(ρ[j]?).bind β) (.cell j i)=ch k w β (.cell r i):=by
  intro j i q x;simp only[aA.at,o8]at x;cases A:H1[j]? with
  |none=>simp[A]at x
  |some bc=>
   simp only[A,sO]at x;let⟨b,n,S⟩:=iV j bc A;have yF:j<ρ.length:=by have:=(eR.1 n).1;omega
   have z:ρ[j]? = some ρ[j]:=ed yF;let⟨y,_⟩:=O j _ z;let⟨_,S6⟩:=BT S;let⟨e,pQ,F6,S7⟩:=S6 i q x;exact⟨_,e,z,by simp[aA.at,y,n,pQ],F6,S7,by simp[ch,z]⟩
 have adf:∀s q,({env:=iW U<|wL hd,H:=dm 0 H1,aD:=H1.length}:aA).at (.slot s)=some q->q.own=look (wL hd) s/\∃v d,vs[s]? = some v/\ds[s]? = some d/\eJ (idx ρ) d=some q.d:=by
  intro s q x;simp only[aA.at,iW,o8,F4,dC]at x;obtain⟨dY,lO,rfl⟩:=x;have hs:s<U.length:=(eR.1 lO).1;have ga:ds[s]? = some ds[s]:=ed (by omega)
  let⟨d1,hD,anp⟩:=ano s _ ga;rw[lO]at hD;cases hD;exact⟨by simp,_,_,ed<|by omega,ga,anp⟩
 -- aCj 'own' place of jX S5 is one of ours
 have Ls:∀F q T,({env:=iW U<|wL hd,H:=dm 0 H1,aD:=H1.length}:aA).at F=some q->q.own=some T->
  ch ⟨vs⟩ w (λj=>(ρ[j]?).bind β) F = .slice none 0 0\/∃l e,Lr ρ hd T F l/\F5 ρ (tn hd) l/\st.at l=some e/\e.own=some T/\ch ⟨vs⟩ w (λj=>(ρ[j]?).bind β) F=ch k w β l:=by
  intro F q T y I;cases F with
  |slot s=>
   let⟨an,v,d,B,J,L⟩:=adf s q y;rw[an]at I;let⟨o,hm⟩:=anm I;have E:ch ⟨vs⟩ w (λj=>(ρ[j]?).bind β) (.slot s)=v:=by simp[ch,B]
   cases o with
   |none=>
    have:=yE.none s T hm
    rw[B]at this;cases this;exact .inl E
   |some t=>
    let⟨e,R,aO,bG⟩:=yE.some s t T hm;rw[B]at bG;cases bG;exact .inr ⟨.slot t,e,hm,ann hm,R,aO,E⟩
  |cell j i=>
   let⟨r,e,z,x,_,gA,E⟩:=jp j i q y;exact .inr ⟨.cell r i,e,⟨rfl,z⟩,hA z,x,by rw[<-gA,I],E⟩
 have anq:∀T T' X W l,Lr ρ hd T X l->Lr ρ hd T' W l->X=W:=by
  intro T T' X W l B J;cases X<;>cases W<;>cases l<;>simp only[Lr]at B J
  ·rw[yE.inj _ _ _ _ _ B J]
  ·obtain⟨rfl,L⟩:=B;obtain⟨rfl,R⟩:=J;rw[Lq hn _ _ _ L R]
 have lV:∀j u,look (dm 0 H1) j=some u->∃(r:Nat) (cs:List aS),ρ[j]? = some r/\look st.H r=some cs/\cs.length=u.length/\∃f,o2 f cs=some u:=by
  intro j u A;rw[o8]at A;let⟨b,n,S⟩:=iV j u A;have yF:j<ρ.length:=by have:=(eR.1 n).1;omega
  have z:ρ[j]? = some ρ[j]:=ed yF;let⟨y,_⟩:=O j _ z;exact⟨_,b,z,by rw[y,n],(BT S).1.symm,_,S⟩
 constructor
 ·intro l q y;cases l with
  |slot s=>
   let⟨_,v,d,B,J,L⟩:=adf s q y;have:=ade (hv s v d B J) L
   simpa[ch,B]using this
  |cell j i=>
   let⟨r,e,z,x,S,_,E⟩:=jp j i q y;rw[E];exact ade (h.dp _ e x) S
 ·intro F q T y I;rcases Ls F q T y I with h0|⟨l,e,_,bf,x,ey,E⟩
  ·rw[h0];exact .inl rfl
  ·rw[E];refine(h.own _ e T x ey).BC λb n _=>?_
   simp only[lU];rw[eI];exact .inr ⟨l,e,T,bf,x,ey,n⟩
 ·intro X W e1 e2 T T' b y I da ey n Y;rcases Ls X e1 T y I with h0|⟨l,e,az,bf,x,S8,E⟩
  ·rw[h0]at n;cases n
  rcases Ls W e2 T' da ey with h0|⟨F,q,fs,F3,u9,anr,td⟩
  ·rw[h0]at Y;cases Y
  rw[E]at n;rw[td]at Y;have:=h.uniq _ _ e q T T' b x S8 u9 anr n Y
  subst this;exact anq _ _ _ _ _ az fs
 ·intro F q T b j u y I n A;rcases Ls F q T y I with h0|⟨l,e,az,bf,x,S8,E⟩
  ·rw[h0]at n;cases n
  rw[E]at n;let⟨r2,cs,ans,Q,_⟩:=lV j u A;have:=h.unbox _ e T b r2 cs x S8 n Q
  simpa[ans]using this
 ·intro j u A;let⟨r,cs,z,Q,y,f,ant⟩:=lV j u A;let⟨b,hP,T,B,J,L,R,aO,bG⟩:=h.box r cs Q;refine⟨b,hP,T,by simp[z,B],J,by omega,R,?_,bG.1,bG.2.eJ ant⟩
  simp only[lU];rw[eI];exact .inl ⟨r,hA z,B⟩
 ·intro j yG b c gU A Lt n Y;let⟨r,cs,z,Q,_⟩:=lV j c A;let⟨cI,u,adg,yH,_⟩:=lV yG gU Lt;have:r=cI:=h.inj r cI b cs u Q yH (by simpa[z]using n) (by simpa[adg]using Y)
  subst this;exact Lq hn j yG r z adg
 ·intro j b n;simp only[jM]at n;let⟨r,af,_⟩:=n;have:=(eR.1 af).1
  show j<H1.length
  omega
 ·exact h.mem
 ·exact Mem.le_refl _
 ·intro b aC n;simp only[lU]at n;split at n
  ·cases n
  ·exact⟨n,λ_=>rfl⟩
 ·intro j b n;exact n
 ·refine h.il.mono λb aC Z=>?_
  have S9:¬ tm st k w β ρ (tn hd) b:=by
   rintro (⟨r,af,mw⟩|⟨l,e,T,af,x,I,lP⟩)
   ·let⟨j,A⟩:=qh af;let⟨y,yI⟩:=O j r A;let⟨cs,Q⟩:=ve.1 yI;let⟨jq,_,_,L,_,_,_,R,_⟩:=h.box r cs (by rw[y,Q])
    rw[mw]at L;cases L;rw[R]at Z;cases Z
   ·rw[(h.own _ e T x I).free lP]at Z;cases Z
  simp only[lU];rw[de S9];exact(h.frame b aC Z).1
 ·rfl
def anu{ρ h:List Nat}{st:aA}{H:List (Nat×List aS)}{n s:Nat}{e:aS}(c:({env:=hX h st.env,H:=H,aD:=n}:aA).at (.slot s)=some e):
 ∃a,st.at (.slot s)=some a/\a.d=e.d/\(∀T,e.own=some T->a.own=some T)/\∀T,e.own=some T->¬ F5 ρ h (.slot s):=by
 simp only[aA.at,o6]at c;by_cases i:s∈h
 ·rw[eI i,dC]at c;let⟨a,l,j⟩:=c;subst j;exact⟨a,l,rfl,(λT b=>by cases b),(λT b=>by cases b)⟩
 ·rw[de i]at c;exact⟨e,c,rfl,(λT b=>b),(λT _=>i)⟩
def S'(h:bh P K M β st k w){ρ:List Nat}{bs H2 jU:List (List aS)}(hn:o3 ρ=true)(mv:boxes st.H ρ=some bs)(yJ:lf (λj=>ρ[j]?) H2=some jU)(hl2:H2.length=ρ.length)
 {R:List Nat} {out:Out} {v:Value} {w':World} {M':Mem} {β':Nat->Option Nat} (S:bh P (lU M β st k w ρ R) M' β' {env:=je out,H:=dm 0 H2,aD:=ρ.length} #[v] w'):
 M.le M'/\bh P K M' β {env:=hX R st.env,H:=mQ ρ jU++st.H,aD:=st.aD} k w'/\
 (∀d own,out = .ret d own->∀dY,eJ (λj=>ρ[j]?) d=some dY->cg M' β v dY/\∀T l0,own=some T->oA P K M' β {env:=hX R st.env,H:=mQ ρ jU++st.H,aD:=st.aD} k w' l0 v T)/\
 (∀x,out = .bv x->cY M' v x):=by
 obtain⟨Q,hb2⟩:=yD mv;obtain⟨im,iV⟩:=BU yJ;have cR:M.le M':=S.m0;have hY:∀(j r b:Nat),ρ[j]? = some r->β r=some b->β' j=some b:=λj r b t n=>S.ia j b (by simp[lU,t,n])
 have wM:∀(j r:Nat),ρ[j]? = some r->∃y b,look st.H r=some y/\β r=some b/\β' j=some b:=by
  intro j r t;obtain⟨A,h2⟩:=hb2 j r t;obtain⟨y,er⟩:=ve.1 h2;rw[er]at A;obtain⟨b,_,_,n,_⟩:=h.box r y A;exact⟨y,b,A,n,hY j r b t n⟩
 have adh:∀{v d dY},cg M' β' v d->eJ (λj=>ρ[j]?) d=some dY->cg M' β v dY:=by
  intro v d dY hd lO;refine hd.eJ (λj r b t n=>?_) lO
  obtain⟨_,bj,_,A,h2⟩:=wM j r t;rw[n]at h2;cases h2;exact A
 -- Lh is not tm is kept
 have F7:∀b,¬ tm st k w β ρ R b->b<w.heap.size->w'.heap[b]? = w.heap[b]? /\ ∀o,M' b o=M b o:=by
  intro b n b1
  have dS:(lU M β st k w ρ R).F b=some w.heap[b]:=by
   simp only[lU];rw[de n];exact kt b1
  obtain⟨A,h2⟩:=S.frame b _ dS;exact⟨by rw[A,kt b1],h2⟩
 have adi:∀b,(lU M β st k w ρ R).F b=none->K.F b=none:=by
  intro b n;simp only[lU]at n;split at n
  ·rename_i hp;rcases hp with⟨r,z,Y⟩|⟨l,e,T,z,he,q,lP⟩
   ·obtain⟨j,t⟩:=qh z;obtain⟨y,bj,er,Q,_⟩:=wM j r t;obtain⟨jq,_,_,A,_,_,_,h2,_⟩:=h.box r y er;rw[Y]at A;cases A;exact h2
   ·exact(h.own _ e T he q).free lP
  ·cases dS:K.F b with
   |none=>rfl
   |some aC=>have:=(h.frame b aC dS).1;rw[n]at this;cases this
 have hold:∀b,(lU M β st k w ρ R).F b=none->b<w.heap.size->tm st k w β ρ R b:=by
  intro b n b1;simp only[lU]at n;split at n
  ·assumption
  ·rw[kt b1]at n;cases n
 -- aCk own boxes ac8 aCl not handed on
 have Lu:∀r y b,look st.H r=some y->(∀(j:Nat),ρ[j]? ≠ some r)->β r=some b->¬ tm st k w β ρ R b:=by
  intro r y b z B n hp;rcases hp with⟨cI,fr,J⟩|⟨l,e,T,fr,he,q,lP⟩
  ·obtain⟨j,t⟩:=qh fr;obtain⟨U0,_,yH,_⟩:=wM j cI t;have:=h.inj r cI b y U0 z yH n J
   subst this;exact B j t
  ·exact h.unbox _ e T b r y he q lP z n
 have F8:∀r,(∃(j:Nat),ρ[j]? = some r/\look (mQ ρ jU++st.H) r=jU[j]?)\/((∀(j:Nat),ρ[j]? ≠ some r)/\look (mQ ρ jU++st.H) r=look st.H r):=by
  intro r;obtain⟨A,h2⟩:=S4 (H:=st.H) (ρ:=ρ) (bs:=jU) (by omega) hn r
  by_cases t:∃(j:Nat),ρ[j]? = some r
  ·obtain⟨j,t⟩:=t;exact .inl ⟨j,t,A j t⟩
  ·have:∀(j:Nat),ρ[j]? ≠ some r:=λj X=>t ⟨j,X⟩
   exact .inr ⟨this,h2 this⟩
 -- a place of jX new state: jX S5, or kept
 have fA:∀l e,({env:=hX R st.env,H:=mQ ρ jU++st.H,aD:=st.aD}:aA).at l=some e->
  (∃(j r i:Nat) (a7:aS),l = .cell r i/\ρ[j]? = some r/\({env:=je out,H:=dm 0 H2,aD:=ρ.length}:aA).at (.cell j i)=some a7/\eJ (λj=>ρ[j]?) a7.d=some e.d/\e.own=a7.own/\ch k w' β l=ch #[v] w' β' (.cell j i))\/
  (∃E,st.at l=some E/\E.d=e.d/\(∀T,e.own=some T->E.own=some T)/\ch k w' β l=ch k w β l/\(∀T,e.own=some T->¬ F5 ρ R l)):=by
  intro l e L;cases l with
  |slot s=>
   obtain⟨E,A,h2,ah,ay⟩:=anu L;exact .inr ⟨E,A,h2,ah,rfl,ay⟩
  |cell r i=>
   rcases F8 r with⟨j,t,nu⟩|⟨B,nu⟩
   ·simp only[aA.at,nu]at L;cases X:jU[j]? with
    |none=>simp[X]at L
    |some bc=>
     simp only[X,sO]at L;obtain⟨b,n,pV⟩:=iV j bc X;obtain⟨_,S6⟩:=BT pV;obtain⟨a7,pQ,F6,S7⟩:=S6 i e L;obtain⟨_,bj,_,Q,yq⟩:=wM j r t;exact .inl ⟨j,r,i,a7,rfl,t,by simp[aA.at,o8,n,pQ],F6,S7,by simp[ch,Q,yq]⟩
   ·simp only[aA.at,nu]at L;refine .inr ⟨e,L,rfl,λ_ h=>h,?_,λT _ X=>by obtain⟨j,t⟩:=qh X;exact B j t⟩
    cases z:look st.H r with
    |none=>simp[z]at L
    |some y=>
     obtain⟨b,_,_,n,X,_⟩:=h.box r y z;simp only[ch,n];rw[uZ (w:=w) (F7 b (Lu r y b z B n)<|lt_of_heap X).1]
 -- a kept 'own' aCm block is not tm
 have F9:∀l e T b,st.at l=some e->e.own=some T->¬ F5 ρ R l->km T (ch k w β l) b->¬ tm st k w β ρ R b:=by
  intro l e T b L q B n hp;rcases hp with⟨cI,fr,J⟩|⟨cl,a7,W,fr,he,O,lP⟩
  ·obtain⟨j,t⟩:=qh fr;obtain⟨U0,_,yH,_⟩:=wM j cI t;exact h.unbox l e T b cI U0 L q n yH J
  ·have:=h.uniq l _ e a7 T W b L q he O n lP
   subst this;exact B fr
 -- jX S5 'own' blocks aCn ours
 have F':∀T u b,lk P (lU M β st k w ρ R).F M' w' T u->km T u b->∀bc,bc=b->bc<w.heap.size->tm st k w β ρ R bc:=by
  intro T u b U n bc o5 b1;subst o5;exact hold bc (U.free n) b1
 have Lv:∀r y,look (mQ ρ jU++st.H) r=some y->∃Z,look st.H r=some Z:=by
  intro r y z;rcases F8 r with⟨j,t,_⟩|⟨_,nu⟩
  ·obtain⟨Z,_,A,_⟩:=wM j r t;exact⟨Z,A⟩
  ·exact⟨y,by rw[<-nu];exact z⟩
 have dc:bh P K M' β {env:=hX R st.env,H:=mQ ρ jU++st.H,aD:=st.aD} k w':=by
  constructor
  ·intro l e L;rcases fA l e L with⟨j,r,i,a7,rfl,t,u9,pV,_,I⟩|⟨E,U,F_,mt,I,_⟩
   ·rw[I];exact adh (S.dp _ a7 u9) pV
   ·rw[I,<-F_];exact(h.dp l E U).mono cR
  ·intro l e T L q;rcases fA l e L with⟨j,r,i,a7,rfl,t,u9,_,gA,I⟩|⟨E,U,F_,mt,I,B⟩
   ·rw[I];rw[gA]at q;exact(S.own _ a7 T u9 q).BC λb _ bG=>adi b bG
   ·rw[I];have B:=B T q;have q:=mt T q;refine(h.own l E T U q).congr (λb n=>?_)<|λb o' n=>?_
    ·exact(F7 b (F9 l E T b U q B n)<|(h.own l E T U q).lt n).1
    ·exact(F7 b (F9 l E T b U q B n)<|(h.own l E T U q).lt n).2 o'
  ·intro l cl e1 e2 T W b L q da O n J
   rcases fA l e1 L with⟨j,r,i,x,rfl,t,hx,_,gA,I⟩|⟨E,U,F_,mt,I,B⟩ <;>
    rcases fA cl e2 da with⟨yG,cI,oB,mY,rfl,Lt,BV,_,adj,td⟩|⟨BF,lm,aCo,FP,td,S_⟩
   ·rw[I]at n;rw[td]at J;rw[gA]at q;rw[adj]at O;have:=S.uniq _ _ x mY T W b hx q BV O n J
    cases this;rw[t]at Lt;cases Lt;rfl
   ·rw[I]at n;rw[td]at J;rw[gA]at q;have S_:=S_ W O;have O:=FP W O;exact(F9 cl BF W b lm O S_ J<|F' T _ b (S.own _ x T hx q) n b rfl<|(h.own cl BF W lm O).lt J).elim
   ·rw[I]at n;rw[td]at J;rw[adj]at O;have B:=B T q;have q:=mt T q;exact(F9 l E T b U q B n<|F' W _ b (S.own _ mY W BV O) J b rfl<|(h.own l E T U q).lt n).elim
   ·rw[I]at n;rw[td]at J;exact h.uniq l cl E BF T W b U (mt T q) lm (FP W O) n J
  ·intro l e T b r y L q n z Y;obtain⟨Z,nR⟩:=Lv r y z;rcases fA l e L with⟨j,r1,i,x,rfl,t,hx,_,gA,I⟩|⟨E,U,F_,mt,I,B⟩
   ·rw[I]at n;rw[gA]at q;rcases F8 r with⟨j2,wN,nu⟩|⟨Ta,_⟩
    ·have h2:∃c2,look (dm 0 H2) j2=some c2:=by
      rw[o8];exact⟨_,ed (by have:=(eR.1 wN).1;omega)⟩
     obtain⟨c2,mZ⟩:=h2;exact S.unbox _ x T b j2 c2 hx q n mZ<|hY j2 r b wN Y
    ·obtain⟨bj,_,_,Q,X,_⟩:=h.box r Z nR;rw[Y]at Q;cases Q;exact Lu r Z b nR Ta Y<|F' T _ b (S.own _ x T hx q) n b rfl<|lt_of_heap X
   ·rw[I]at n;exact h.unbox l E T b r Z U (mt T q) n nR Y
  ·intro r y z;rcases F8 r with⟨j,t,nu⟩|⟨B,nu⟩
   ·rw[nu]at z;obtain⟨c2,mZ,pV⟩:=iV j y z;obtain⟨Z,qL,anv,u',anw⟩:=wM j r t;obtain⟨b,hP,T,A,h2,ah,ay,aO,bG⟩:=S.box j c2 (by rw[o8];exact mZ)
    rw[anw]at A;cases A;obtain⟨jq,_,_,cG,_,_,_,dk,_⟩:=h.box r Z anv;rw[u']at cG;cases cG;exact⟨qL,hP,T,u',h2,by rw[ah,(BT pV).1],ay,dk,bG.1,bG.2.eJ pV⟩
   ·rw[nu]at z;obtain⟨b,hP,T,A,h2,ah,ay,aO,bG⟩:=h.box r y z;have hk:=F7 b (Lu r y b z B A)<|lt_of_heap h2;exact⟨b,hP,T,A,hk.1.trans h2,ah,λo'=>(hk.2 o').trans<|ay o',aO,bG⟩
  ·intro r cI b c gU z fr n J;obtain⟨c0,nR⟩:=Lv r c z;obtain⟨anx,anz⟩:=Lv cI gU fr;exact h.inj r cI b c0 anx nR anz n J
  ·exact h.lt
  ·exact S.mem
  ·exact Mem.le_trans h.m0 cR
  ·intro b aC dS;obtain⟨A,h2⟩:=h.frame b aC dS
   have S9:¬ tm st k w β ρ R b:=by
    rintro (⟨r,z,Y⟩|⟨l,e,T,z,he,q,lP⟩)
    ·obtain⟨j,t⟩:=qh z;obtain⟨y,_,er,_⟩:=wM j r t;obtain⟨jq,_,_,ah,_,_,_,ay,_⟩:=h.box r y er;rw[Y]at ah;cases ah;rw[ay]at dS;cases dS
    ·rw[(h.own _ e T he q).free lP]at dS;cases dS
   have hk:=F7 b S9<|lt_of_heap A;exact⟨hk.1.trans A,λo'=>(hk.2 o').trans<|h2 o'⟩
  ·exact h.ia
  ·exact h.il
  ·exact Eq.trans (show(w'.os,w'.output)=(w.os,w.output)from S.gz) h.gz
 refine⟨cR,dc,λd own Tb dY lO=>?_,λx Tb=>?_⟩
 ·subst Tb;have jf:=S.dp (.slot 0) {d,own} (by simp[aA.at,je,look])
  refine⟨adh (by simpa[ch]using jf) lO,λT l0 q=>?_⟩
  have U:=S.own (.slot 0) {d,own} T (by simp[aA.at,je,look]) q
  simp only[ch]at U;have lm:lk P (lU M β st k w ρ R).F M' w' T v:=by simpa using U
  refine⟨?_,λl e W b L O _ n J=>?_,λb r y n z Y=>?_⟩
  ·exact lm.BC λb _ bG=>adi b bG
  ·rcases fA l e L with⟨j,r,i,x,rfl,t,hx,_,gA,I⟩|⟨E,Tc,F_,mt,I,B⟩
   ·rw[I]at J;rw[gA]at O;have:=S.uniq (.slot 0) (.cell j i) {d,own} x T W b (by simp[aA.at,je,look]) q hx O (by simpa[ch]using n) J
    cases this
   ·rw[I]at J;have B:=B W O;have O:=mt W O;exact F9 l E W b Tc O B J<|F' T v b lm n b rfl<|(h.own l E W Tc O).lt J
  ·obtain⟨Z,nR⟩:=Lv r y z;rcases F8 r with⟨j2,wN,nu⟩|⟨Ta,_⟩
   ·have h2:∃c2,look (dm 0 H2) j2=some c2:=by
     rw[o8];exact⟨_,ed (by have:=(eR.1 wN).1;omega)⟩
    obtain⟨c2,mZ⟩:=h2;exact S.unbox (.slot 0) {d,own} T b j2 c2 (by simp[aA.at,je,look]) q (by simpa[ch]using n) mZ<|hY j2 r b wN Y
   ·obtain⟨bj,_,_,Q,X,_⟩:=h.box r Z nR;rw[Y]at Q;cases Q;exact Lu r Z b nR Ta Y<|F' T v b lm n b rfl<|lt_of_heap X
 ·subst Tb;have jf:=S.dp (.slot 0) {d:=.v x} (by simp[aA.at,je,look])
  have:=nn jf
  simpa[ch]using this
end
def Td{i:Int}{n:Nat}(h:aP i n=true):0<=i/\i<n:=by simpa[aP]using h
def adk{i:Int}{n:Nat}(h:0<=i/\i<n):aP i n=true:=by simpa[aP]using h
def u_{i:Int}{n:Nat}(h:hB i n=true):0<=i/\i<=n:=by simpa[hB]using h
def anA{i:Int}{n:Nat}(h:0<=i/\i<=n):hB i n=true:=by simpa[hB]using h
def adl{a b:Int}{n:Nat}(h:oY a b n=true):0<=a/\a<=b/\b<=n:=by simpa[oY]using h
def adm{a:Int}(h:s7 a=true):a≠0:=by simpa[s7]using h
def BW{n b:Nat}(h:room n b=true):n*b<=140737488355328:=by simpa[room]using h
def adn{n:Nat}(h:bF n=true):n<=9223372036854775807:=by simpa[bF]using h
section
variable {P:Program} {K:Ctx} {N:Nat} {M:Mem} {β:Nat->Option Nat} {st:aA} {g:dt} {j:Array Value} {w:World} {o:Oper} {f:mO} {p:Path} {tt:dI} {m:hC} {ops:List Oper}
def ado:∀(l:List<|Nat×aS) (s:Nat),look (rM l) s=(look l s).map λe=>({d:=e.d}:aS)
 |[],s=>rfl
 |(t,e)::l,s=>by
  simp only[rM,du];by_cases h:t=s
  ·simp[h]
  ·simp only[h,nE];exact ado l s
def bh.rM{st:aA}(h:bh P K M β st j w){env:List (Nat×aS)}(c:∀s e,look env s=some e->∃a,look st.env s=some a/\a.d=e.d):bh P K M β {env:=Ab.rM env,H:=st.H,aD:=st.aD} j w:=
 h.sub rfl (λl e b=>by
  cases l with
  |slot s=>
   simp only[aA.at,ado,dC]at b;obtain⟨q,n,rfl⟩:=b;let⟨a,k,u⟩:=c s q n;exact⟨a,k,u,λ_ h=>by cases h⟩
  |cell r i=>exact⟨e,b,rfl,λ_ h=>h⟩) (λr t x=>⟨t,x,rfl⟩)
def anB(P:Program)(K:Ctx)(M:Mem)(β:Nat->Option Nat)(g:dt)(x:V)(b:List<|Nat×List aS)(o:Oper)(j:Array Value)(w:World):Prop:=
 (∃v,(execOp (Act.eval ⟨j,[]⟩) o).run P w = .halt (.panic v) w/\cY M v x/\b=[])\/
 (∃fn a,(execOp (Act.eval ⟨j,[]⟩) o).run P w = .ok (.enter fn a) w/\Calls P fn a w λe d=>∃v c ,e = .panicked [{v,recovered:=false}]/\cY c v x/\
  bh P K c β {env:=rM g.env,H:=b++g.H,aD:=g.aD} j d)
def anC{op:BinOp}{k:IntKind}{a b:Int}{x:V}{e:List Prop}(h:Sh op k a b=some (x,e))(ca:∀q,q∈e->q)(t:TypeId):
 ∃v,(binOp op t (.int k a)<|.int k b).run P w = .ok v w/\cY M v x:=by
 have c:∀{s:Sem Value} {v:Value},s.run P w = .ok v w->cY M v x->∃v,s.run P w = .ok v w/\cY M v x:=λl i=>⟨_,l,i⟩
 cases op<;>simp only[Sh,hL,ll,reduceCtorEq]at h<;>obtain⟨rfl,rfl⟩:=h
 case quo=>
  have d:=adm<|ca _<|lZ.2 rfl;refine c (v:=.int k<|k.wrap<|a.tdiv b) ?_<|.int _ _;simp[binOp,Op.intDiv,d]
 case rem=>
  have d:=adm<|ca _<|lZ.2 rfl;refine c (v:=.int k<|a.tmod b) ?_<|.int _ _;simp[binOp,Op.intDiv,d]
 case add=>exact c (v:=.int k<|k.wrap<|a+b) (by simp[binOp,Op.intArith]) (.int _ _)
 case sub=>exact c (v:=.int k<|k.wrap<|a-b) (by simp[binOp,Op.intArith]) (.int _ _)
 case mul=>exact c (v:=.int k<|k.wrap<|a*b) (by simp[binOp,Op.intArith]) (.int _ _)
 case eql=>exact c (v:=.bool<|decide<|a=b) (by simp[binOp,Op.intCmp];rfl) (.bool _)
 case neq=>exact c (v:=.bool<|!decide (a=b)) (by simp[binOp,Op.intCmp];rfl) (.bool _)
 case lss=>exact c (v:=.bool<|decide<|a<b) (by simp[binOp,Op.intCmp]) (.bool _)
 case leq=>exact c (v:=.bool<|decide<|a<=b) (by simp[binOp,Op.intCmp]) (.bool _)
 case gtr=>exact c (v:=.bool<|decide<|b<a) (by simp[binOp,Op.intCmp]) (.bool _)
 case geq=>exact c (v:=.bool<|decide<|b<=a) (by simp[binOp,Op.intCmp]) (.bool _)
 case and=>exact c (v:=.int k<|rJ k a b) (by simp[binOp,Op.intBits,rJ]) (.int _ _)
 case or=>exact c (v:=.int k<|s9 k a b) (by simp[binOp,Op.intBits,s9]) (.int _ _)
 case xor=>exact c (v:=.int k<|oy k a b) (by simp[binOp,Op.intBits,oy]) (.int _ _)
 case andNot=>exact c (v:=.int k<|Sf k a b) (by simp[binOp,Op.intBits,Sf]) (.int _ _)
def anD{op:BinOp}{k k':IntKind}{a b:Int}{x:V}{d:List Prop}(h:Sg op k a b=some (x,d))(c:∀q,q∈d->q)(t:TypeId):
 ∃v,(binOp op t (.int k a)<|.int k' b).run P w = .ok v w/\cY M v x:=by
 unfold Sg at h;split at h
 ·simp only[hL,ll]at h;obtain⟨rfl,rfl⟩:=h;have e:0<=b:=by simpa[o0]using c (o0 b=true) (by simp)
  exact⟨.int k<|qA k a b,by simp[binOp,Op.shift,show¬ b<0 by omega,qA],.int _ _⟩
 ·simp only[hL,ll]at h;obtain⟨rfl,rfl⟩:=h;have e:0<=b:=by simpa[o0]using c (o0 b=true) (by simp)
  exact⟨.int k<|mq k a b,by simp[binOp,Op.shift,show¬ b<0 by omega,mq],.int _ _⟩
 ·cases h
def anE{op:BinOp}{a b:UB}{x:V}{n:List Prop}(h:Si op a b=some (x,n))(ca:∀q,q∈n->q)(t:TypeId):
 ∃v,(binOp op t (.string ⟨⟨a⟩⟩)<|.string ⟨⟨b⟩⟩).run P w = .ok v w/\cY M v x:=by
 have c:∀{s:Sem Value} {v:Value},s.run P w = .ok v w->cY M v x->∃v,s.run P w = .ok v w/\cY M v x:=λl k=>⟨_,l,k⟩
 have e:=Lb a;have d:=Lb b;have i:(a == b)=decide (a=b):=by by_cases r:a=b<;>simp[r]
 cases op<;>simp only[Si,hL,ll,reduceCtorEq]at h<;>obtain⟨rfl,rfl⟩:=h
 case add=>
  have z:=adn<|ca _<|lZ.2 rfl;refine c (v:=.string ⟨⟨a++b⟩⟩) ?_<|.str _
  have u:¬ ((((⟨⟨a⟩⟩:ByteArray).size+(⟨⟨b⟩⟩:ByteArray).size:Nat):Int) > IntKind.i64.max):=by
   have l:(⟨⟨a⟩⟩:ByteArray).size=a.length:=rfl;have k:(⟨⟨b⟩⟩:ByteArray).size=b.length:=rfl;have y:IntKind.i64.max=9223372036854775807:=by decide
   rw[l,k,y];omega
  simp only[binOp,Op.stringOp];rw[de u];simp;apply ByteArray.ext;simp
 case eql=>exact c (v:=.bool<|decide<|a=b) (by simp[binOp,Op.stringOp,e,d,i]) (.bool _)
 case neq=>exact c (v:=.bool<|!decide (a=b)) (by simp[binOp,Op.stringOp,e,d,i]) (.bool _)
 case lss=>exact c (v:=.bool<|Op.bytesLess a b) (by simp[binOp,Op.stringOp,e,d]) (.bool _)
 case leq=>exact c (v:=.bool (Op.bytesLess a b||decide (a=b))) (by simp[binOp,Op.stringOp,e,d,i]) (.bool _)
 case gtr=>exact c (v:=.bool<|!(Op.bytesLess a b||decide (a=b))) (by simp[binOp,Op.stringOp,e,d,i]) (.bool _)
 case geq=>exact c (v:=.bool<|!Op.bytesLess a b) (by simp[binOp,Op.stringOp,e,d]) (.bool _)
def anF{t:TypeId}{a:ep}(r:Row P t a)(b:a.k = .ptr):∃e,r.desc = .pointer e:=by
 have:=r.hk
 rw[b]at this;cases hd:r.desc<;>simp[hd,mT]at this;exact⟨_,rfl⟩
def anG{t:TypeId}{a:ep}(r:Row P t a)(b:a.k = .rI):∃e,r.desc = .interface e:=by
 have:=r.hk
 rw[b]at this;cases hd:r.desc<;>simp[hd,mT]at this;exact⟨_,rfl⟩
def anH{t:TypeId}{d:ep}(r:Row P t d)(e:d.k = .Bv):∃a b c,r.desc = .func a b c:=by
 have:=r.hk
 rw[e]at this;cases hd:r.desc<;>simp[hd,mT]at this;exact⟨_,_,_,rfl⟩
def Te{t:TypeId}{a:ep}(r:Row P t a)(b:a.k = .bool):r.desc = .bool:=by
 have:=r.hk
 rw[b]at this;cases hd:r.desc<;>simp[hd,mT]at this;rfl
def adp{t:TypeId}{x:ep}(r:Row P t x){n vb:Value}{a b:D}{res:Bool}(l:cg M β n a)(q:cg M β vb b)(s:K2 x.k b=true)(h:isNil x.k a=some res):
 (Op.equal t n vb).run P w = .ok res w/\(∀c,(binOp c t n vb)=match c with|.eql=>(do pure (.bool<|<-Op.equal t n vb))|.neq=>(do pure (.bool<|!(<-Op.equal t n vb)))|_=>binOp c t n vb):=by
 obtain⟨dep,hm⟩:∃d,Op.maxDepth=d+1:=⟨9999,rfl⟩;unfold K2 at s;split at s<;>try cases s
 ·rename_i i;cases nn q
  let⟨e,hd⟩:=anF r i;rw[i]at h;unfold isNil at h;split at h<;>simp_all
  ·cases nn l
   refine⟨?_,λc=>by cases c<;>rfl⟩
   rw[Op.equal,hm,Op.equalIn];simp[r.run_underlying,hd]
  ·obtain⟨z,_,rfl⟩:=qF l;subst h;refine⟨?_,λc=>by cases c<;>rfl⟩
   rw[Op.equal,hm,Op.equalIn];simp[r.run_underlying,hd]
  ·obtain⟨z,y,val,rfl,_⟩:=K' l;subst h;refine⟨?_,λc=>by cases c<;>rfl⟩
   rw[Op.equal,hm,Op.equalIn];simp[r.run_underlying,hd]
 ·rename_i i;cases nn q
  let⟨e,hd⟩:=anG r i;rw[i]at h;unfold isNil at h;split at h<;>simp_all
  ·cases nn l
   refine⟨?_,λc=>by cases c<;>rfl⟩
   rw[Op.equal,hm,Op.equalIn];simp[r.run_underlying,hd]
  ·obtain⟨u,rfl,_⟩:=Sx l;subst h;refine⟨?_,λc=>by cases c<;>rfl⟩
   rw[Op.equal,hm,Op.equalIn];simp[r.run_underlying,hd]
 ·rename_i i;cases nn q
  let⟨E,B,A,hd⟩:=anH r i;rw[i]at h;unfold isNil at h;split at h<;>simp_all
  ·cases nn l
   refine⟨?_,λc=>by cases c<;>rfl⟩
   rw[Op.equal,hm,Op.equalIn];simp[r.run_underlying,hd]
  ·obtain⟨u,rfl,_⟩:=acD l;subst h;refine⟨?_,λc=>by cases c<;>rfl⟩
   rw[Op.equal,hm,Op.equalIn];simp[r.run_underlying,hd]
end
section
variable {P:Program} {K:Ctx} {N:Nat} {M:Mem} {β:Nat->Option Nat} {st:aA} {g:dt} {m:Array Value} {w:World} {o:Oper} {f:mO} {p:Path} {tt:dI} {A:hC} {ops:List Oper}
structure Hyp(P:Program)(K:Ctx)(N:Nat)(M:Mem)(β:Nat->Option Nat)(g:dt)(m:Array Value)(w:World)(p:Path)(tt:dI):Prop where
 bB:fP P K N M β g m w
 ef:f_ m p
 tt:eP P tt=true
def anI(h:Hyp P K N M β g m w p tt){x:Operand}(b:o.op = .move x)(a:step1 A tt ops g p o=some (.go f)):Yields P K M β g f o m w:=by
 simp only[step1,b]at a;split at a
 case h_2=>cases a
 rename_i d hd
 repeat' (first|(split at a)|(rw[fe]at a))
 all_goals first
  |(cases a;done)
  |(cases a;exact acG h.bB h.ef (.inl b) hd<|by assumption)
  |(cases a;exact Lc h.bB h.ef (.inl b) hd)
def anJ(h:Hyp P K N M β g m w p tt){x:Operand}(b:o.op = .assign x)(a:step1 A tt ops g p o=some (.go f)):Yields P K M β g f o m w:=by
 simp only[step1,b]at a;split at a
 case h_2=>cases a
 rename_i d hd;split at a
 ·rename_i e t c;rw[fe]at a;split at a<;>cases a
  ·exact acG h.bB h.ef (.inr b) hd c
  ·exact Lc h.bB h.ef (.inr b) hd
 ·split at a
  ·rw[fe]at a;split at a<;>cases a
   ·exact amO h.bB h.ef b hd _
   ·exact Lc h.bB h.ef (.inr b) hd
  ·cases a
 ·cases a;exact Lc h.bB h.ef (.inr b) hd
def anK(h:Hyp P K N M β g m w p tt){c:Nat}{a b:Operand}(e:o.op = .pick (.tmp c) a b)(d:step1 A tt ops g p o=some (.go f)):Yields P K M β g f o m w:=by
 simp only[step1,e]at d;split at d
 case h_2=>cases d
 rename_i n q l j i k;cases d;exact amP h.bB h.ef e j i k
def anL(h:Hyp P K N M β g m w p tt){t:TypeId}(c:o.op = .alloc t)(a:step1 A tt ops g p o=some (.go f)):Yields P K M β g f o m w:=by
 simp only[step1,c]at a;split at a
 case h_2=>cases a
 rename_i id e b;split at a
 case h_2=>cases a
 rename_i z d;cases a;exact amR h.bB h.tt c d b
def anM(h:Hyp P K N M β g m w p tt){t:TypeId}{x:Operand}(e:o.op = .box t x)(a:step1 A tt ops g p o=some (.go f)):Yields P K M β g f o m w:=by
 simp only[step1,e]at a;split at a
 case h_2=>cases a
 rename_i d id j k hd c i;rw[fe]at a;split at a<;>cases a
 rename_i b;simp only[mu,hh,xn,Bool.not_eq_true,vT,kb]at b;exact amS h.bB h.ef e hd b.1.1 b.1.2 h.tt i b.2 c
def anN(h:Hyp P K N M β g m w p tt){t:TypeId}{parts:Array (Nat×Operand)}(i:o.op = .build t parts)(a:step1 A tt ops g p o=some (.go f)):Yields P K M β g f o m w:=by
 simp only[step1,i]at a;split at a
 ·rename_i B sz u zero _ s j c;let⟨l,a⟩:=U5 a;split at a
  ·simp only[dC]at a;obtain⟨d,⟨q,b,rfl⟩,a⟩:=a;cases a;exact acR h.bB h.ef h.tt j rfl l i c (λr=>r.amV) b
  ·simp only[dC]at a;obtain⟨d,⟨q,b,rfl⟩,a⟩:=a;cases a;exact acR h.bB h.ef h.tt j rfl l i c (λr=>r.acQ) b
 ·rename_i n e sz u zero _ s j c;split at a
  case h_2=>cases a
  rename_i E x y z k;simp only[dC]at a;obtain⟨d,⟨q,b,rfl⟩,a⟩:=a;cases a;exact amX h.bB h.ef h.tt j rfl k i c b
 ·cases a
def anP(h:Hyp P K N M β g m w p tt){t:TypeId}{len:Nat}{parts:Array (Nat×Operand)}(d:o.op = .buildSlice t len parts)(a:step1 A tt ops g p o=some (.go f))(k:∀q,q∈f.aC->q):Yields P K M β g f o m w:=by
 simp only[step1,d]at a;split at a
 case h_2=>cases a
 rename_i e sz B zero _ z r i;split at a
 case h_2=>cases a
 rename_i F l n s c;split at a
 case h_2=>cases a
 rename_i u x y j E;let⟨b,a⟩:=U5 a;simp only[cb,pn,kb]at b;cases a;exact amZ h.bB h.ef h.tt r rfl c d i j b.2 b.1.2 b.1.1 (k _<|lZ.2 rfl)
def anQ(h:Hyp P K N M β g m w p tt){t:TypeId}{a:Operand}(d:o.op = .load t a)(b:step1 A tt ops g p o=some (.go f)):Yields P K M β g f o m w:=by
 simp only[step1,d]at b;split at b
 ·rename_i q z F c i;split at b
  case h_2=>cases b
  rename_i H l;rw[fe]at b;split at b
  ·rename_i k;let⟨j,b⟩:=U5 b;split at b
   ·rename_i y E;let⟨r,b⟩:=U5 b;cases b;simp only[cb]at r;exact am' h.bB h.ef h.tt i d c l k (by simpa using j) r.2
   ·cases b;exact am2 h.bB h.ef h.tt i d c l k (by simpa using j)
  ·rename_i k;split at b
   case h_2=>cases b
   rename_i e u;split at b
   ·rename_i s y B E;rw[fe]at b;split at b<;>cases b
    exact am4 h.bB h.ef h.tt i d c l (by simpa using k) u B
   ·cases b;exact am3 h.bB h.ef h.tt i d c l (by simpa using k) u
 ·rename_i x F c i;let⟨n,b⟩:=U5 b;simp only[cb,beq_iff_eq,kb]at n;cases b;exact am5 h.bB h.ef h.tt i d c n.1 n.2
 ·cases b
def anR(h:Hyp P K N M β g m w p tt){t:TypeId}{a x:Operand}(i:o.op = .store t a x)(b:step1 A tt ops g p o=some (.go f)):Yields P K M β g f o m w:=by
 simp only[step1,i]at b;split at b
 case h_2=>cases b
 rename_i q H d T y c E;split at b
 case h_2=>cases b
 rename_i W B;rw[fe]at b;split at b
 case isFalse=>cases b
 rename_i S;simp only[cb,kb,pn,hh]at S;obtain⟨⟨⟨⟨r,j⟩,_⟩,R⟩,Q⟩:=S;split at b
 ·rename_i u s k n U z;cases b;simp only[qB,jM]at z;obtain⟨e,J,O⟩:=z;have L:T.size=1:=by rw[<-r];rfl
  exact acY h.bB h.ef h.tt E i y B c L j (l:=[u])<|h.bB.bB.hand J O<|.cell q H
 ·split at b
  ·cases b;have F:=c;simp only[rd]at F;split at F
   ·cases F;have L:T.size=1:=by rw[<-r];rfl
    exact acY h.bB h.ef h.tt E i y B c L j (l:=[])<|Sr _ _
   ·cases F
  ·cases b
 ·rename_i u s z;split at b
  ·rw[fe]at b;split at b
   case isFalse=>cases b
   rename_i I;cases b;simp only[cb,gK,ph]at I;simp only[qB,jM]at z;obtain⟨e,J,O⟩:=z;exact ana h.bB h.ef h.tt E i y B c R Q r j I.1 J O I.2
  ·cases b;exact acX h.bB h.ef h.tt E i y B c R Q r j _
 ·cases b;exact acX h.bB h.ef h.tt E i y B c R Q r j _
def anS(h:Hyp P K N M β g m w p tt){x:Operand}(i:o.op = .nilCheck x)(a:step1 A tt ops g p o=some (.go f)):Yields P K M β g f o m w:=by
 simp only[step1,i]at a;split at a
 ·rename_i q d hd;cases a;have c:=ez (ds:=[]) h.bB h.ef hd;let⟨b,_,e⟩:=qF c;refine fI h.bB (v:=(⟨m,[]⟩:Act).eval x) ?_ c;simp[execOp,i,e]
 ·rename_i y hd;cases a;have c:=ez (ds:=[]) h.bB h.ef hd;let⟨b,d,val,e,_⟩:=K' c;refine fI h.bB (v:=(⟨m,[]⟩:Act).eval x) ?_ c;simp[execOp,i,e]
 ·cases a
def anT(h:Hyp P K N M β g m w p tt){op:UnOp}{t:TypeId}{x:Operand}(c:o.op = .unOp op t x)(b:step1 A tt ops g p o=some (.go f)):Yields P K M β g f o m w:=by
 simp only[step1,c]at b;split at b
 case h_2=>cases b
 rename_i a j;simp only[dC]at b;obtain⟨d,⟨k,e,rfl⟩,b⟩:=b;cases b;have i:=ez (ds:=[]) h.bB h.ef j;unfold aco at e;split at e<;>cases e
 ·have:=rT i
  refine fI h.bB (v:=.bool _) ?_<|.v _ _<|.bool _;simp[execOp,c,this,Op.unary]
 ·have:=jC i
  refine fI h.bB (v:=.int _ _) ?_<|.v _ _<|.int _ _;simp[execOp,c,this,Op.unary,Op.intArith]
def anU(h:Hyp P K N M β g m w p tt){s t:TypeId}{x:Operand}(J:o.op = .convert s t x)(y:step1 A tt ops g p o=some (.go f))(ca:∀q,q∈f.aC->q):Yields P K M β g f o m w:=by
 simp only[step1,J]at y;split at y
 ·rename_i df _ _ _ _ k _ _ _ _ ff n E i hd;cases y;let⟨d⟩:=et h.tt E;let⟨c⟩:=et h.tt i;have F:=jC<|ez (ds:=[]) h.bB h.ef hd;refine fI h.bB (v:=.int k<|k.wrap n) ?_<|.v _ _<|.int _ _;simp only[execOp,J,F];refine ko _ ?_;simp[convert,d.run_underlying,c.run_underlying,FSb d rfl,FSb c rfl,Conv.intToInt]
 ·rename_i _ _ _ _ _ _ _ _ l E i hd;cases y;let⟨d⟩:=et h.tt E;let⟨c⟩:=et h.tt i;have F:=np<|ez (ds:=[]) h.bB h.ef hd;refine fI h.bB (v:=.string ⟨⟨l⟩⟩) ?_<|.v _ _<|.str _;simp only[execOp,J,F];refine ko _ ?_;simp[convert,d.run_underlying,c.run_underlying,te d rfl,te c rfl]
 ·rename_i e _ _ _ _ _ _ _ _ n X E i hd;split at y
  case h_2=>cases y
  rename_i l rs Th fa;cases y;let⟨d⟩:=et h.tt E;let⟨c⟩:=et h.tt i;let⟨B⟩:=et h.tt Th;let⟨hlen,W⟩:=ca _<|lZ.2 rfl;have F:=ez (ds:=[]) h.bB h.ef hd;refine fI h.bB (v:=.string ⟨⟨l⟩⟩) ?_<|.v _ _<|.str _;simp only[execOp,J];refine ko _ ?_;rcases u1 F with⟨L|⟨a,L⟩,H⟩|⟨b,r,O,val,H,hc,hk,cR,h1,Y⟩
  ·have z:l=[]:=gQ<|hlen.trans H;rw[L,z];simp[convert,d.run_underlying,c.run_underlying,B.run_underlying,qG d rfl,te c rfl,FSb B rfl,Conv.bytesToString];rfl
  ·have z:l=[]:=gQ<|hlen.trans H;rw[L,z];exact run_convert_bytes_back w s t e a 0 [] (by rw[d.hd,qG d rfl]) (by rw[B.hd,FSb B rfl]) (by rw[c.hd,te c rfl]) (λj I=>by simp at I)
  ·rw[H,<-hlen]
   have U:∀j (I:j<l.length),w.cell? ((⟨b,r,none⟩:Addr).add j)=some (.int .u8 (l[j].toNat:Int)):=by
    intro j I;have Q:j<n:=by omega
    have e1:=W j Q;have S:=Y j 0 (.int .u8 ((l.getD j 0).toNat:Int)) Q (by rw[e1];rfl)
    have Z:val j 0 = .int .u8 ((l.getD j 0).toNat:Int):=by generalize val j 0=u at S ⊢;cases S;rfl
    have R:=h.bB.bB.mem _ _ _<|cR j 0 Q<|by omega
    rw[addr_add];have T:r+j*1+0=r+j:=by omega
    rw[T,Z]at R;rw[R];simp[List.getD,ed I]
   exact run_convert_bytes_back w s t e ⟨b,r,none⟩ O l (by rw[d.hd,qG d rfl]) (by rw[B.hd,FSb B rfl]) (by rw[c.hd,te c rfl]) U
 ·cases y
def anV(h:Hyp P K N M β g m w p tt){t:TypeId}{x:Operand}(c:o.op = .makeInterface t x)(a:step1 A tt ops g p o=some (.go f)):Yields P K M β g f o m w:=by
 simp only[step1,c]at a;split at a
 case h_2=>cases a
 rename_i y k sz i z _ hd e;let⟨r⟩:=et h.tt e;have d:=ez (ds:=[]) h.bB h.ef hd
 have hc:P.concrete t=true\/k = .rI:=by
  have b:=r.hk;cases adr:r.desc<;>simp[adr,mT]at b
  all_goals first
   |exact .inr b.symm
   |(left;simp[Program.concrete,r.hd,adr])
 split at a
 ·cases a
 ·rename_i b;cases a;rcases hc with hc|hc
  ·refine fI h.bB (v:=.iface t<|(⟨m,[]⟩:Act).eval x) ?_<|.v _ _<|.iface t _ _<|nn d;simp only[execOp,c];exact ko _<|run_makeInterface w t _ hc
  ·exact absurd hc b
def anW(h:Hyp P K N M β g m w p tt){fn:FuncId}{first fM:Array Operand}(d:o.op = .makeFunc (.func fn) first fM)(a:step1 A tt ops g p o=some (.go f)):Yields P K M β g f o m w:=by
 simp only[step1,d]at a;let⟨j,a⟩:=U5 a;simp only[dC]at a;let⟨r,q,a⟩:=a;cases a;let⟨n,l⟩:=wH q;have e:first = #[]:=by simpa using j
 subst e;refine fI h.bB (v:=.func (.func fn) #[]<|fM.map (⟨m,[]⟩:Act).eval) ?_ ?_
 ·simp[execOp,d,Instr.makeFunc]
 ·have:fM.map (⟨m,[]⟩:Act).eval=⟨fM.toList.map (⟨m,[]⟩:Act).eval⟩:=by apply va;simp
  rw[this];refine .fn fn _ r (by simp[n]) λi v c b k=>?_
  simp only[gV,dC]at b;obtain⟨y,s,rfl⟩:=b;exact ez h.bB h.ef (l i y c s k)
def anX(h:Hyp P K N M β g m w p tt){x:Operand}{i:Nat}(j:o.op = .extract x i)(a:step1 A tt ops g p o=some (.go f)):Yields P K M β g f o m w:=by
 simp only[step1,j]at a;split at a
 case h_2=>cases a
 rename_i ds hd;simp only[dC]at a;let⟨d,c,a⟩:=a;cases a;let⟨b,k,hlen,af⟩:=amJ<|ez (ds:=[]) h.bB h.ef hd;have l:i<ds.length:=(eR.1 c).1;have e:b[i]? = some b[i]:=ed (by omega)
 refine fI h.bB (v:=b[i]) ?_<|af i _ d e c;simp only[execOp,j,k];refine ko _ ?_;simp[Instr.extract,e]
end
section
variable {P:Program} {K:Ctx} {N:Nat} {M:Mem} {β:Nat->Option Nat} {st:aA} {g:dt} {A:Array Value} {w:World} {o:Oper} {f:mO} {p:Path} {tt:dI} {B:hC} {ops:List Oper}
def tp{op:BinOp}{t c:TypeId}{x y:Operand}(j:o.op = .binOp op t x y c){a b v:Value}(d:(⟨A,[]⟩:Act).eval x=a)(i:(⟨A,[]⟩:Act).eval y=b)
 (e:(eqGuard op t x y a b).run P w = .ok () w) (h:(binOp op t a b).run P w = .ok v w):(execOp (Act.eval ⟨A,[]⟩) o).run P w = .ok (.value v) w:=by
 simp only[execOp,j,d,i];refine ko _ ?_;simp only[Sem.run_bind,e,Result.andThen_ok,h]
def yK{op:BinOp}{t:TypeId}{x y:Operand}{a b:Value}(h:∀cs ds,¬ (a = .agg cs/\b = .agg ds))(c:a = .nilIface->b = .nilIface->isConst y=true):(eqGuard op t x y a b).run P w = .ok () w:=by
 unfold eqGuard;cases op<;>try rfl
 all_goals
  simp only
  cases a<;>cases b<;>first
   |rfl
   |(exact absurd ⟨rfl,rfl⟩ (h _ _))
   |(have:=c rfl rfl;cases y<;>simp[isConst]at this;simp)
def anY(O:eP P tt=true){d:Nat}{ft:TypeId}{I:List (Option nP)}{x y:V}{xs ys:List V}{H E:Value}{r:Bool}
 (h:kl ((look tt ft).map (·.k)::I) (x::xs) (y::ys)=some r) (z:cY M H x) (u:cY M E y):∃c q,(Op.equalIn (d+1) ft H E).run P w = .ok c w/\kl I xs ys=some q/\(c&&q)=r:=by
 cases aa:look tt ft with
 |none=>simp[aa,kl]at h
 |some Q=>
  obtain⟨e⟩:=et O aa;have j:=e.hd;simp only[aa,lC]at h;unfold kl at h;split at h<;>simp only[wY,reduceCtorEq]at *
  case h_2 ks kk k a l k' b m i e2 e3=>
   obtain⟨i,rfl⟩:=i;obtain⟨rfl,rfl⟩:=e2;obtain⟨rfl,rfl⟩:=e3;cases z;cases u
   rw[fe]at h;split at h
   case isFalse=>cases h
   rename_i F;simp only[fx]at F;subst F;simp only[dC]at h;obtain⟨q,n,s⟩:=h;refine⟨decide<|a=b,q,?_,n,s⟩
   have:∃t,e.desc = .int t:=by
    have:=e.hk
    rw[ju i]at this;cases hd:e.desc<;>simp[hd,mT]at this;exact⟨_,rfl⟩
   obtain⟨t,L⟩:=this;rw[L]at j;rw[run_equalIn_int w d ft k t a b j];rfl
  case h_3 ks a l b m i e2 e3=>
   obtain⟨i,rfl⟩:=i;obtain⟨rfl,rfl⟩:=e2;obtain⟨rfl,rfl⟩:=e3;cases z;cases u
   simp only[dC]at h;obtain⟨q,n,s⟩:=h;refine⟨decide<|a=b,q,?_,n,s⟩
   have:e.desc = .string:=te e<|ju i
   rw[this]at j;rw[run_equalIn_string w d ft _ _ j,Lb,Lb];by_cases J:a=b<;>simp[J]
  case h_4 ks a l b m i e2 e3=>
   obtain⟨i,rfl⟩:=i;obtain⟨rfl,rfl⟩:=e2;obtain⟨rfl,rfl⟩:=e3;cases z;cases u
   simp only[dC]at h;obtain⟨q,n,s⟩:=h;refine⟨(a == b),q,?_,n,s⟩
   have:e.desc = .bool:=Te e<|ju i
   rw[this]at j;rw[run_equalIn_bool' w d ft _ _ j]
def pW(P:Program)(a:List Field):List (Nat×TypeId×Nat):=a.map λf=>(f.offset,f.type,P.cellsOf f.type)
def Lx:∀{c E:List (Option nP)} {xs ys:List V} {r:Bool},kl (c++E) xs ys=some r->
 ∃e d,kl c (xs.take c.length) (ys.take c.length)=some e/\kl E (xs.drop c.length) (ys.drop c.length)=some d/\(e&&d)=r/\c.length<=xs.length/\c.length<=ys.length/\∀k,k∈c->k.isSome=true
 |[],E,xs,ys,r,h=>⟨true,r,by simp[kl],by simpa using h,rfl,rZ _,rZ _,λk F=>by cases F⟩
 |k::c,E,xs,ys,r,h=>by
  simp only[gk]at h;unfold kl at h;split at h<;>simp only[wY,reduceCtorEq]at *
  ·rename_i H J L a l I b m s;obtain⟨rfl,rfl⟩:=s;let⟨F,h⟩:=U5 h;simp only[dC]at h;obtain⟨q,x,rfl⟩:=h;let⟨e,d,j,i,y,u,z,t⟩:=Lx x;refine⟨decide (a=b)&&e,d,?_,i,by rw[Bool.and_assoc,y],by simpa using u,by simpa using z,λn iq=>?_⟩
   ·simp only[mX,pk,kl,F,oK,j,lC]
   ·rcases gh.1 iq with rfl|iq
    ·rfl
    ·exact t n iq
  ·rename_i H a l b m s;obtain⟨rfl,rfl⟩:=s;simp only[dC]at h;obtain⟨q,x,rfl⟩:=h;let⟨e,d,j,i,y,u,z,t⟩:=Lx x;refine⟨decide (a=b)&&e,d,?_,i,by rw[Bool.and_assoc,y],by simpa using u,by simpa using z,λn iq=>?_⟩
   ·simp only[mX,pk,kl,j,lC]
   ·rcases gh.1 iq with rfl|iq
    ·rfl
    ·exact t n iq
  ·rename_i H a l b m s;obtain⟨rfl,rfl⟩:=s;simp only[dC]at h;obtain⟨q,x,rfl⟩:=h;let⟨e,d,j,i,y,u,z,t⟩:=Lx x;refine⟨(a == b)&&e,d,?_,i,by rw[Bool.and_assoc,y],by simpa using u,by simpa using z,λn iq=>?_⟩
   ·simp only[mX,pk,kl,j,lC]
   ·rcases gh.1 iq with rfl|iq
    ·rfl
    ·exact t n iq
def wP(tt:dI)(ft:TypeId):Nat->List (Option nP)
 | 0=>[(look tt ft).map (·.k)]
 |q+1=>match look tt ft with
  |some {k:=.eh a,..}=>oz tt q a
  |o=>[o.map (·.k)]
def Ly(q:Nat)(f:Field)(a:List Field):oz tt q (pW P<|f::a)=wP tt f.type q++oz tt q (pW P a):=by
 cases q with
 |zero=>rfl
 |succ q=>
  simp only[oz,pW,kz,List.flatMap_cons,wP];rfl
def ads{t:TypeId}{b:ep}(r:Row P t b){a:Array Field}(h:P.underlying t=some (.struct a)):b.k = .eh (pW P a.toList):=by
 have hd:r.desc = .struct a:=ju<|r.hd.symm.trans h;have:=r.hk
 rw[hd]at this;simp[mT]at this;exact this.symm
def adt{t:TypeId}{d:ep}(r:Row P t d){c:List (Nat×TypeId×Nat)}(h:d.k = .eh c):∃a:Array Field,P.underlying t=some (.struct a)/\c=pW P a.toList:=by
 have b:=r.hk;rw[h]at b;cases hd:r.desc<;>simp[hd,mT]at b
 rename_i a;refine⟨a,?_,b.symm⟩
 rw[r.hd,hd]
def adu(e:eP P tt=true){ft:TypeId}(h:∀b,P.underlying ft≠some (.struct b))(q:Nat):wP tt ft q=[(look tt ft).map (·.k)]:=by
 cases q with
 |zero=>rfl
 |succ q=>
  simp only[wP];split
  ·rename_i b _ _ _ _ i;let⟨a⟩:=et e i;let⟨d,c,_⟩:=adt a rfl;exact absurd c<|h d
  ·rfl
def Tj(d:eP P tt=true):∀(q:Nat) (a:List Field),(∀k,k∈oz tt q (pW P a)->k.isSome=true)->(oz tt q<|pW P a).length=u0 P q a
 | 0,a,_=>by simp[oz,pW,u0]
 |q+1,[],_=>by simp[oz,pW,u0]
 |q+1,f::a,h=>by
  rw[Ly]at h ⊢;have t:=Tj d (q+1) a λk e=>h k<|kF _ e
  have m:u0 P (q+1) (f::a)=(match P.underlying f.type with|some (.struct i)=>u0 P q i.toList|_=>1)+u0 P (q+1) a:=by
   simp only[u0,kz,List.sum_cons];rfl
  rw[kv,t,m]
  congr 1
  simp only[wP]at h ⊢;split
  ·rename_i i _ _ _ _ j;let⟨c⟩:=et d j;obtain⟨u,n,rfl⟩:=adt c rfl;rw[n];refine Tj d q u.toList λk e=>h k<|kA _ ?_
   rw[j];exact e
  ·rename_i o fJ;cases an:look tt f.type with
   |none=>
    have:=h none<|kA _ (by rw[an];simp)
    cases this
   |some r=>
    let⟨c⟩:=et d an;split
    ·rename_i i l;have:=ads c l
     let⟨k,s,b,z,iH⟩:=r;simp only at this
     subst this;exact absurd an<|fJ _ _ _ _ _
    ·rfl
def adv (S : eP P tt = true) {d : Nat} {f : Field} {E : List Field} {i : Nat} {H : List (Option nP)} {xs ys : List V} {vs us : List Value} {r : Bool} (I : f.offset = i) (L : ¬ f.name = "_") (O : (isAgg f.type).run P w = .ok false w)
 (h:kl ((look tt f.type).map (·.k)::H) xs ys=some r)
 (t:∀(j:Nat) v x,vs[i+j]? = some v->xs[j]? = some x->cY M v x) (u:∀(j:Nat) v x,us[i+j]? = some v->ys[j]? = some x->cY M v x) (Q:i+xs.length<=vs.length) (J:i+ys.length<=us.length)
 (U:∀(q:Bool),∀{n m:List V},kl H n m=some q->(∀(j:Nat) v x,vs[i+1+j]? = some v->n[j]? = some x->cY M v x)->(∀(j:Nat) v x,us[i+1+j]? = some v->m[j]? = some x->cY M v x)->i+1+n.length<=vs.length->i+1+m.length<=us.length->(Op.eqFields (d+1) ⟨vs⟩ ⟨us⟩ E).run P w = .ok q w):
 (Op.eqFields (d+1) ⟨vs⟩ ⟨us⟩<|f::E).run P w = .ok r w:=by
 cases xs with
 |nil=>simp[kl]at h
 |cons x xs=>
  cases ys with
  |nil=>simp[kl]at h
  |cons y ys=>
   simp only[mX]at Q J;obtain⟨l,e_⟩:∃l,vs[i]? = some l:=⟨_,ed<|by omega⟩
   obtain⟨e,adw⟩:∃e,us[i]? = some e:=⟨_,ed<|by omega⟩
   have X:=t 0 l x e_ rfl;have W:=u 0 e y adw rfl
   have s:∀{zs:List Value} {z:Value},zs[i]? = some z->(part f.type ⟨zs⟩ f.offset).run P w = .ok z w:=by
    intro zs z R;have:(⟨zs⟩:Array Value)[f.offset]? = some z:=by rw[I];simpa using R
    simp only[part,Sem.run_bind,O,Result.andThen_ok,this];rfl
   let⟨c,q,b,a,F⟩:=anY (P:=P) (w:=w) (M:=M) S (d:=d) h X W;have T:=U q a (λj v z b a=>t (j+1) v z (by rw[<-b];congr 1;omega)<|by simpa using a) (λj v z b a=>u (j+1) v z (by rw[<-b];congr 1;omega)<|by simpa using a) (by omega) (by omega)
   simp only[Op.eqFields];rw[eI L];simp only[Sem.run_bind,s e_,s adw,Result.andThen_ok,b];cases c
   ·simp[<-F]
   ·simp[<-F,T]
def anZ(y:eP P tt=true):∀(q:Nat) {d:Nat} {t:List Field} {i:Nat} {xs ys:List V} {vs us:List Value} {r:Bool},yu P q i t=true->kl (oz tt q<|pW P t) xs ys=some r->
 (∀(j:Nat) v x,vs[i+j]? = some v->xs[j]? = some x->cY M v x)->(∀(j:Nat) v x,us[i+j]? = some v->ys[j]? = some x->cY M v x)->i+xs.length<=vs.length->i+ys.length<=us.length->
 (Op.eqFields (d+q+1) ⟨vs⟩ ⟨us⟩ t).run P w = .ok r w:=by
 intro q;induction q with
 |zero=>
  intro d t;induction t with
  |nil=>intro i xs ys vs us r _ l _ _ _ _;cases xs<;>cases ys<;>simp[oz,pW,kl]at l;subst l;simp[Op.eqFields]
  |cons f t U=>
   intro i xs ys vs us r E l I J gH X;simp only[yu,BH,cb,kb,hh,iv]at E;let⟨⟨Q,R⟩,c⟩:=E
   have H:(∀e,P.underlying f.type≠some (.struct e))/\yu P 0 (i+1) t=true/\(isAgg f.type).run P w = .ok false w:=by
    simp only[isAgg,Sem.run_bind];split at c
    ·rename_i k a;refine⟨λe h=>(by rw[a]at h;cases h),c,?_⟩;rw[Go.run_underlying a];rfl
    ·rename_i a;refine⟨λe h=>(by rw[a]at h;cases h),c,?_⟩;rw[Go.run_underlying a];rfl
    ·rename_i a;refine⟨λe h=>(by rw[a]at h;cases h),c,?_⟩;rw[Go.run_underlying a];rfl
    ·simp at c
    ·cases c
   exact adv y Q R H.2.2 (by rw[Ly,adu y H.1]at l;exact l) I J gH X λq' Ge Gf Z qK oE m u=>U H.2.1 Z qK oE m u
 |succ q an0=>
  intro d t;induction t with
  |nil=>intro i xs ys vs us r _ l _ _ _ _;cases xs<;>cases ys<;>simp[oz,pW,kl]at l;subst l;simp[Op.eqFields]
  |cons f t U=>
   intro i xs ys vs us r E l I J gH X;have Gg:=E;simp only[yu,BH,cb,kb,hh,iv]at E;let⟨⟨Q,R⟩,c⟩:=E;by_cases c8:∃e,P.underlying f.type=some (.struct e)
   ·let⟨e,F⟩:=c8;rw[F]at c;simp only[cb,hh,kb]at c;let⟨⟨⟨an1,an2⟩,an3⟩,Lz⟩:=c;rw[Ly]at l;let⟨r1,r2,T,S,e3,h3,jY,W⟩:=Lx l
    have lV:∃O,look tt f.type=some O:=by
     cases aa:look tt f.type with
     |none=>have:=W none (by simp[wP,aa]);cases this
     |some O=>exact⟨O,rfl⟩
    let⟨O,LA⟩:=lV;let⟨Y⟩:=et y LA;have a:=ads Y F
    have yE:wP tt f.type (q+1)=oz tt q (pW P e.toList):=by
     let⟨k,s,b,z,iH⟩:=O;simp only at a
     subst a;simp only[wP,LA]
    rw[yE]at T S h3 jY W;have hn:=Tj y q e.toList W;rw[hn,<-an2]at T S h3 jY;generalize aH:P.cellsOf f.type=n at T S h3 jY
    let⟨info,Lf⟩:=info_of_underlying F
    have th:∀zs:List Value,(part f.type ⟨zs⟩ f.offset).run P w = .ok (.agg ⟨(zs.drop i).take n⟩) w:=by
     intro zs
     have:(⟨zs⟩:Array Value).extract i (i+n)=⟨(zs.drop i).take n⟩:=by
      apply va;rw[Array.toList_extract];simp[List.extract]
     simp only[part,isAgg,Sem.run_bind,run_underlying F,run_sizeOf w Lf,Result.andThen_ok,Sem.run_pure,Q,aH];simp[this,run_sizeOf w Lf,aH]
    have kn:∀{zs:List Value} {cs:List V},(∀(j:Nat) v x,zs[i+j]? = some v->cs[j]? = some x->cY M v x)->∀(j:Nat) v x,((zs.drop i).take n)[0+j]? = some v->(cs.take n)[j]? = some x->cY M v x:=by
     intro zs cs h j v x m u;rw[mE,ix]at m;rw[ix]at u;split at m
     ·rename_i hj;rw[eI hj]at u;rw[jl]at m;exact h j v x m u
     ·cases m
    have wI:P.fieldsOf f.type=e:=by simp[Program.fieldsOf,F]
    have hin:(Op.equalIn (d+(q+1)+1) f.type (.agg ⟨(vs.drop i).take n⟩)<|.agg ⟨(us.drop i).take n⟩).run P w = .ok r1 w:=by
     rw[run_equalIn_agg w (d+(q+1)) f.type _ _ (by rw[wI];exact F) an1,wI]
     exact an0 (d:=d) (i:=0) an3 T (kn I) (kn J) (by simp;omega) (by simp;omega)
    have L:∀{zs:List Value} {cs:List V},(∀(j:Nat) v x,zs[i+j]? = some v->cs[j]? = some x->cY M v x)->∀(j:Nat) v x,zs[i+n+j]? = some v->(cs.drop n)[j]? = some x->cY M v x:=by
     intro zs cs h j v x m u;rw[jl]at u;exact h (n+j) v x (by rw[<-pR];exact m) u
    rw[aH]at Lz;have iV:=U (i:=i+n) Lz S (L I) (L J) (by simp;omega) (by simp;omega)
    simp only[Op.eqFields];rw[eI R];simp only[Sem.run_bind,th,Result.andThen_ok,hin];cases r1
    ·simp[<-e3]
    ·simp[<-e3,iV]
   ·have H:yu P (q+1) (i+1) t=true/\(isAgg f.type).run P w = .ok false w:=by
     simp only[isAgg,Sem.run_bind];split at c
     ·rename_i k a;refine⟨c,?_⟩;rw[Go.run_underlying a];rfl
     ·rename_i a;refine⟨c,?_⟩;rw[Go.run_underlying a];rfl
     ·rename_i a;refine⟨c,?_⟩;rw[Go.run_underlying a];rfl
     ·rename_i e a;exact absurd ⟨e,a⟩ c8
     ·cases c
    exact adv y Q R H.2 (by rw[Ly,adu y<|λe h=>c8 ⟨e,h⟩]at l;exact l) I J gH X λq' Ge Gf Z qK oE m u=>U H.1 Z qK oE m u
def ady(H:eP P tt=true){t:TypeId}{n:List (Nat×TypeId×Nat)}{sz O:Nat}{z:List V}{iH:List (Nat×TypeId)}(X:look tt t=some {k:=.eh n,size:=sz,bytes:=O,zero:=z,kU:=iH})(h:Su P t=true){xs ys:List V}{r:Bool}(I:kl (oz tt 4 n) xs ys=some r)
 {F E:Value} (Q:cY M F<|.agg xs) (R:cY M E<|.agg ys):∃c e,F = .agg ⟨c⟩/\E = .agg ⟨e⟩/\(Op.equalIn 10000 t (.agg ⟨c⟩)<|.agg ⟨e⟩).run P w = .ok r w/\∀m a b,(eqGuard m t a b (.agg ⟨c⟩)<|.agg ⟨e⟩).run P w = .ok () w:=by
 let⟨row⟩:=et H X;cases Q with
 |agg c _ hn h1 T=>
  cases R with
  |agg e _ K9 Z s=>
   refine⟨c,e,rfl,rfl,?_⟩
   unfold Su at h;split at h
   case h_2=>cases h
   rename_i y l;simp only[cb,hh]at h;let⟨⟨S,W⟩,U⟩:=h;have J:P.fieldsOf t=y:=by simp[Program.fieldsOf,l]
   have Y:row.desc = .struct y:=ju<|row.hd.symm.trans l
   have L:n=y.toList.map λf=>(f.offset,f.type,P.cellsOf f.type):=by
    have:=row.hk
    rw[Y]at this;simp[mT]at this;exact this.symm
   refine⟨?_,λm a b=>run_eqGuard_agg w m t a b _ _ W⟩
   rw[run_equalIn_agg w 9999 t _ _ (by rw[J];exact l) S,J]
   refine anZ H 4 (d:=9994) (i:=0) (xs:=xs) (ys:=ys) U (by rw[L]at I;exact I) (λj v x u q=>T j v x (by simpa using u) q) (λj v x u q=>s j v x (by simpa using u) q) (by omega) (by omega)
def an5(h:Hyp P K N M β g A w p tt){op:BinOp}{t t2:TypeId}{x y:Operand}(l:o.op = .binOp op t x y t2)(e:step1 (e0 P) tt ops g p o=some (.go f))(U:∀q,q∈f.aC->q):Yields P K M β g f o A w:=by
 simp only[step1,l]at e;split at e
 case h_3=>cases e
 case h_1=>
  rename_i xs ys T S;have E:=nn<|ez (ds:=[]) h.bB h.ef T;have k:=nn<|ez (ds:=[]) h.bB h.ef S;split at e
  case h_2=>cases e
  rename_i cT sz lQ z _ s;rw[fe]at e;split at e
  case isFalse=>cases e
  rename_i Y;split at e
  ·rename_i r u;cases e;obtain⟨Z,us,j,i,I,H⟩:=ady (w:=w) (M:=M) h.tt s Y u E k;exact fI h.bB (tp l j i (H _ _ _) (by rw[run_eql_struct,I];rfl))<|.v _ _<|.bool _
  ·rename_i r u;cases e;obtain⟨Z,us,j,i,I,H⟩:=ady (w:=w) (M:=M) h.tt s Y u E k;exact fI h.bB (tp l j i (H _ _ _) (by rw[run_neq_struct,I];rfl))<|.v _ _<|.bool _
  ·cases e
 rename_i a b T S;simp only[dC]at e;obtain⟨⟨z,aC⟩,c,e⟩:=e;cases e;have E:=ez (ds:=[]) h.bB h.ef T;have k:=ez (ds:=[]) h.bB h.ef S;unfold acn at c;split at c
 ·rename_i df m ak n;have j:=jC E;have i:=jC k;split at c
  ·rename_i z0 Q;cases c;obtain⟨v,J,u⟩:=anD (P:=P) (w:=w) (M:=M) (k':=ak) Q U t;exact fI h.bB (tp l j i (yK (by simp)<|by simp) J)<|.v _ _ u
  rw[fe]at c;split at c
  case isFalse=>cases c
  rename_i F;simp only[fx]at F;subst F;obtain⟨v,J,u⟩:=anC (P:=P) (w:=w) (M:=M) c U t;exact fI h.bB (tp l j i (yK (by simp)<|by simp) J)<|.v _ _ u
 ·have j:=np E;have i:=np k;obtain⟨v,J,u⟩:=anE (P:=P) (w:=w) (M:=M) c U t;exact fI h.bB (tp l j i (yK (by simp)<|by simp) J)<|.v _ _ u
 ·rename_i bj X;have j:=rT E;have i:=rT k;obtain⟨dep,hm⟩:∃d,Op.maxDepth=d+1:=⟨9999,rfl⟩;cases s:look tt t with
  |none=>rw[s]at c;simp at c
  |some aK=>
   rw[s]at c;obtain⟨r⟩:=et h.tt s;split at c<;>cases c
   ·rename_i F;simp at F
    refine fI h.bB (v:=.bool<|bj == X) (tp l j i (yK (by simp)<|by simp) ?_)<|.v _ _<|.bool _
    simp only[binOp,Sem.run_bind];rw[Op.equal,hm,Op.equalIn];simp[r.run_underlying,Te r F]
   ·rename_i F;simp at F
    refine fI h.bB (v:=.bool<|!(bj == X)) (tp l j i (yK (by simp)<|by simp) ?_)<|.v _ _<|.bool _
    simp only[binOp,Sem.run_bind];rw[Op.equal,hm,Op.equalIn];simp[r.run_underlying,Te r F]
 ·cases s:look tt t with
  |none=>rw[s]at c;simp at c
  |some aK=>
   rw[s]at c;simp only[lC]at c;obtain⟨r⟩:=et h.tt s;rw[fe]at c;split at c
   case isFalse=>cases c
   rename_i L;simp only[cb]at L
   have O:(eqGuard op t x y ((⟨A,[]⟩:Act).eval x)<|(⟨A,[]⟩:Act).eval y).run P w = .ok () w:=by
    refine yK ?_<|λ_ _=>L.2
    rintro cs ds ⟨_,bV⟩
    rw[bV]at k;have W:=L.1;unfold K2 at W;split at W<;>first|(cases nn k;done)|(cases W;done)
   split at c<;>cases c
   ·rename_i res R;obtain⟨I,H⟩:=adp (w:=w) r E k L.1 R;refine fI h.bB (v:=.bool res) (tp l rfl rfl O ?_)<|.v _ _<|.bool _;rw[H .eql];simp[I]
   ·rename_i res R;obtain⟨I,H⟩:=adp (w:=w) r E k L.1 R;refine fI h.bB (v:=.bool<|!res) (tp l rfl rfl O ?_)<|.v _ _<|.bool _;rw[H .neq];simp[I]
def an6(h:Hyp P K N M β g A w p tt){s:TypeId}{x:Operand}{i:Nat}(F:o.op = .fieldAddr s x i)(a:step1 B tt ops g p o=some (.go f)):Yields P K M β g f o A w:=by
 simp only[step1,F]at a;split at a
 ·rename_i q e T sz O z _ hd I;let⟨r⟩:=et h.tt I;split at a
  case h_2=>cases a
  rename_i o1 R L J;let⟨l,a⟩:=U5 a;cases a;let⟨b,Q,t⟩:=qF<|ez (ds:=[]) h.bB h.ef hd;refine fI h.bB (v:=.pointer<|some ⟨b,e+o1,none⟩) ?_<|.ptr _ _ _ Q;simp only[execOp,F,t];exact ko _<|SB r rfl J (by simpa using l) b e
 ·rename_i S T sz O z _ hd I;let⟨r⟩:=et h.tt I;split at a
  case h_2=>cases a
  rename_i o1 R L J;split at a
  case h_2=>cases a
  rename_i Y X;let⟨l,a⟩:=U5 a;simp only[cb,pn]at l;let⟨b,e,val,t,y,u,H⟩:=K'<|ez (ds:=[]) h.bB h.ef hd
  have k:(execOp (Act.eval ⟨A,[]⟩) o).run P w = .ok (.value<|.pointer<|some ⟨b,e+o1,none⟩) w:=by
   simp only[execOp,F,t];exact ko _<|SB r rfl J l.1 b e
  simp only[V.cells]at y u H;rw[fe]at a;split at a
  ·cases a;have hlen:((S.drop o1).take L).length=L:=by simp;omega
   refine fI h.bB k<|.fD b (e+o1) _ (λj=>val<|o1+j) (λj d=>?_) (λj d=>?_)<|λj c d=>?_
   ·simp only[V.cells,hlen]at d;rw[pR];exact y _ (by omega)
   ·simp only[V.cells,hlen]at d;exact u _ (by omega)
   ·simp only[V.cells]at d;rw[ix]at d;split at d
    ·rw[jl]at d;exact H _ c d
    ·cases d
  ·let⟨W,a⟩:=U5 a;split at a
   case h_2=>cases a
   rename_i c n;rw[fe]at a;split at a
   ·cases a
   ·rename_i E;cases a;have m:=BL (x:=c) (by simpa using E)
    refine fI h.bB k<|.fD b (e+o1) c (λj=>val<|o1+j) (λj d=>?_) (λj d=>?_)<|λj U d=>?_
    ·rw[m]at d;rw[pR];exact y _ (by have:=(eR.1 n).1;simp at d;omega)
    ·rw[m]at d;exact u _ (by have:=(eR.1 n).1;simp at d;omega)
    ·rw[m]at d;cases j with
     |zero=>simp at d;subst d;exact H _ _ n
     |succ j=>simp at d
 ·cases a
def an8(h:Hyp P K N M β g A w p tt){s:TypeId}{x:Operand}{i:Nat}(n:o.op = .field s x i)(a:step1 B tt ops g p o=some (.go f)):Yields P K M β g f o A w:=by
 simp only[step1,n]at a;split at a
 case h_3=>cases a
 case h_2=>
  rename_i u T sz Q z _ hd y;let⟨r⟩:=et h.tt y;split at a
  case h_2=>cases a
  rename_i d S L E;split at a
  case h_2=>cases a
  rename_i W c H k;let⟨F⟩:=et h.tt H;rw[fe]at a;split at a
  ·cases a
  rename_i m;simp only[mu,xn,Bool.not_eq_true,hh,vT,kb]at m;cases a;have I:=ez (ds:=[]) h.bB h.ef hd;generalize O:(⟨A,[]⟩:Act).eval x=fZ at I
  cases I with
  |agg b _ X J af=>
   have U:d<u.length:=(eR.1 k).1;have l:b[d]? = some b[d]:=ed (by omega)
   let⟨ha,hb⟩:=acF (w:=w) r rfl E F b (by omega)
   refine fI h.bB (v:=b[d]) ?_<|af _ _ c l k;simp only[execOp,n,O];exact ko _<|hb m.1.1 _ l
 rename_i u T sz Q z _ hd y;let⟨r⟩:=et h.tt y;split at a
 case h_2=>cases a
 rename_i d S L E;split at a
 case h_2=>cases a
 rename_i W H;let⟨F⟩:=et h.tt H;let⟨m,a⟩:=U5 a;simp only[pn]at m;let⟨b,e,hlen,J,af⟩:=Sy<|ez (ds:=[]) h.bB h.ef hd;let⟨ha,hb⟩:=acF (w:=w) r rfl E F b (by omega)
 rw[fe]at a;split at a
 ·rename_i t;cases a;refine fI h.bB (v:=.agg ⟨(b.drop d).take L⟩) ?_<|.v _ _<|.agg _ _ (by simp;omega) (λv e=>J v<|lE<|mI e)<|λj v c e q=>?_
  ·simp only[execOp,n,e];exact ko _<|ha t
  ·rw[ix]at e q;split at e
   ·rename_i R;rw[eI R,jl]at q;rw[jl]at e;exact af _ v c e q
   ·cases e
 ·rename_i t;split at a
  case h_2=>cases a
  rename_i c k;cases a;have U:d<u.length:=(eR.1 k).1;have l:b[d]? = some b[d]:=ed (by omega)
  refine fI h.bB (v:=b[d]) ?_<|.v _ _<|af _ _ c l k;simp only[execOp,n,e];exact ko _ (hb (by simpa using t) _ l)
def an9{x y:V}(t:ij x y){k b off:Nat}{val:Nat->Value}(E:x.cells.length=k)(r:∀q,q<k->M b (off+q)=some (val q))(e:∀q,q<k->(val q).oneCell'=true)
 (I:∀(q:Nat) c,x.cells[q]? = some c->cY M (val q) c):cg M β (.pointer<|some ⟨b,off,none⟩) (.fD y):=by
 subst E;have d:=t M _<|acE e I;cases hx:x.isAgg with
 |true=>
  rw[hx]at d;simp only[oK]at d;cases d with
  |agg J H z m F=>
   have hlen:H.length=x.cells.length:=by simpa using z.symm
   refine .fD b off _ val (λj a=>r j (by simp only[V.cells]at a;omega)) (λj a=>e j (by simp only[V.cells]at a;omega))<|λj c a=>?_
   simp only[V.cells]at a;have s:j<x.cells.length:=by have:=(eR.1 a).1;omega
   exact F j (val j) c (by simp[s]) a
  |any _ m=>simp[Value.oneCell']at m
 |false=>
  rw[hx]at d;simp only[qe]at d;have l:=BL hx;have n:=e 0 (by rw[l];simp)
  have h:y.isAgg=false:=by
   cases y<;>first|rfl|skip
   exfalso
   generalize val 0=u at d n
   cases d;simp[Value.oneCell']at n
  have i:=BL h;refine .fD b off y val (λj a=>r j (by rw[l];rw[i]at a;exact a)) (λj a=>e j (by rw[l];rw[i]at a;exact a))<|λj c a=>?_
  rw[i]at a;cases j with
  |zero=>simp at a;subst a;exact d
  |succ j=>simp at a
def an_(h:Hyp P K N M β g A w p tt){t:TypeId}{x i:Operand}(an:o.op = .indexAddr t x i)(hs:step1 B tt ops g p o=some (.go f))(ca:∀q,q∈f.aC->q):Yields P K M β g f o A w:=by
 simp only[step1,an]at hs;split at hs
 case h_2=>cases hs
 rename_i k n get kk j e sz lQ z _ hx hi aa;obtain⟨r⟩:=et h.tt aa;split at hs
 case h_2=>cases hs
 rename_i ak size adq z2 hl2;obtain⟨d_⟩:=et h.tt hl2;rw[fe]at hs;split at hs
 case isFalse=>cases hs
 rename_i hc;simp only[cb,kb,pn]at hc;obtain⟨rfl,yL⟩:=hc
 have yM:∃(y:V) (rs:List eT) (aC:List Prop),f={e:=some {d:=.fD y},rs,aC}/\ij (get j.toNat) y/\aP j n=true:=by
  split at hs
  ·rename_i y rs fa;cases hs;exact⟨_,_,_,rfl,ca _<|by simp,ca (aP j n=true)<|by simp⟩
  ·cases hs;exact⟨_,_,_,rfl,λ_ _ h=>h,ca (aP j n=true)<|by simp⟩
  ·cases hs
 obtain⟨y,rs,aC,rfl,hb1,hb2⟩:=yM;have hb2:=Td hb2;have Tn:=jC<|ez (ds:=[]) h.bB h.ef hi;rcases u1 (ez (ds:=[]) h.bB h.ef hx) with⟨_,iC⟩|⟨b,off,cap,val,hv,_,hk,cR,h1,af⟩
 ·omega
 ·have b1:j.toNat<n:=by omega
  have b9:cg M β (.pointer<|some ⟨b,off+j.toNat*k,none⟩) (.fD y):=
   an9 hb1 (hk _ b1) (λq am=>cR _ q b1 am) (λq am=>h1 _ q b1 am) (λq c am=>af _ q c b1 am)
  refine fI h.bB (v:=.pointer<|some ⟨b,off+j.toNat*k,none⟩) ?_ b9;simp only[execOp,an,hv,Tn];exact ko _ (SC r rfl d_ hb2.1 hb2.2)
def aoa(h:Hyp P K N M β g A w p tt){t:TypeId}{x i:Operand}(c:o.op = .index t x i)(a:step1 B tt ops g p o=some (.go f))(ca:∀q,q∈f.aC->q):Yields P K M β g f o A w:=by
 simp only[step1,c]at a;split at a
 case h_2=>cases a
 rename_i l s j sz n z _ d e k;let⟨r⟩:=et h.tt k;cases a;have b:=Td<|ca (aP j l.length=true)<|by simp
 have ex:=np<|ez (ds:=[]) h.bB h.ef d;have m:=jC<|ez (ds:=[]) h.bB h.ef e;refine fI h.bB (v:=.int .u8 (l.getD j.toNat 0).toNat) ?_<|.v _ _<|.int _ _;simp only[execOp,c,ex,m];exact ko _ (amM r rfl b.1 b.2)
def aob{k n m:Nat}{get:Nat->V}{a b off cap:Nat}
 {val:Nat->Nat->Value} (l:∀i,i<n->(get i).cells.length=k) (s:∀i j,i<n->j<k->M b (off+i*k+j)=some (val i j)) (r:∀i j,i<n->j<k->(val i j).oneCell'=true)
 (t:∀(i j:Nat) c,i<n->(get i).cells[j]? = some c->cY M (val i j) c) (u:a+m<=n) (q:m<=cap):
 cY M (.slice (some ⟨b,off+a*k,none⟩) m cap) (.bP k m λi=>get<|a+i):=by
 refine .bP b (off+a*k) k m cap _ (λi j=>val (a+i) j) q (λi e=>l _<|by omega) (λi j e d=>?_) (λi j e d=>r _ _ (by omega) d)<|λi j c e h=>t _ _ _ (by omega) h
 have:=s (a+i) j (by omega) d
 rw[qQ]at this
 rwa [show off+a*k+i*k+j=off+(a*k+i*k)+j by omega]
def LD{t e:TypeId}{i h:ep}(r:Row P t i)(q:i.k = .bP e)(d_:Row P e h){base:Option Addr}{n cap:Nat}{lo hi:Option Value}{a b:Nat}
 (j:lo=none/\a=0\/∃k,lo=some (.int k a)) (l:hi=none/\b=n\/∃k,hi=some (.int k b)) (d:a<=b) (s:b<=n) (m:n<=cap):
 (Instr.sliceAt t (.slice base n cap) lo hi none).run P w = .ok (.slice (if cap=a then base else base.map (·.add<|a*h.size)) (b-a)<|cap-a) w:=by
 have c:=r.run_underlying w;rw[qG r q]at c;have LE:b<=cap:=by omega
 rcases j with⟨rfl,rfl⟩|⟨u,rfl⟩<;>rcases l with⟨rfl,rfl⟩|⟨x,rfl⟩
 ·simp[Instr.sliceAt,c,Instr.slice,Instr.sliceBounds,d_.run_sizeOf]
 ·simp[Instr.sliceAt,c,Instr.slice,Instr.sliceBounds,Instr.sliceBound,asIntOf,d_.run_sizeOf,LE]
 ·simp[Instr.sliceAt,c,Instr.slice,Instr.sliceBounds,Instr.sliceBound,asIntOf,d_.run_sizeOf,d]
 ·simp[Instr.sliceAt,c,Instr.slice,Instr.sliceBounds,Instr.sliceBound,asIntOf,d_.run_sizeOf,LE,d]
end
section
variable {P:Program} {K:Ctx} {N:Nat} {M:Mem} {β:Nat->Option Nat} {st:aA} {g:dt} {A:Array Value} {w:World} {o:Oper} {f:mO} {p:Path} {tt:dI} {B:hC} {ops:List Oper}
def vd{t:TypeId}{x:Operand}{lo hi d:Option Operand}(l:o.op = .slice t x lo hi d){v u:Value}(e:(⟨A,[]⟩:Act).eval x=v){a b:Option Value}(k:lo.map (⟨A,[]⟩:Act).eval=a)(j:hi.map (⟨A,[]⟩:Act).eval=b){c:Option Value}(i:d.map (⟨A,[]⟩:Act).eval=c)
 (h:(Instr.sliceAt t v a b c).run P w = .ok u w):(execOp (Act.eval ⟨A,[]⟩) o).run P w = .ok (.value u) w:=by
 simp only[execOp,l,e,k,j,i];exact ko _ h
def LF{t:TypeId}{j:ep}(r:Row P t j)(q:j.k = .str){l:UB}{lo hi:Option Value}{a b:Nat}
 (m:lo=none/\a=0\/∃k,lo=some (.int k a)) (n:hi=none/\b=l.length\/∃k,hi=some (.int k b)) (i:a<=b) (h:b<=l.length):
 (Instr.sliceAt t (.string ⟨⟨l⟩⟩) lo hi none).run P w = .ok (.string ⟨⟨(l.take b).drop a⟩⟩) w:=by
 have c:=r.run_underlying w;rw[te r q]at c;have e:(⟨⟨l⟩⟩:ByteArray).size=l.length:=rfl
 have d:(⟨⟨l⟩⟩:ByteArray).extract a b=⟨⟨(l.take b).drop a⟩⟩:=by
  have:=ByteArray.extract_mk l a b
  rw[Ay];exact this
 rcases m with⟨rfl,rfl⟩|⟨s,rfl⟩<;>rcases n with⟨rfl,rfl⟩|⟨u,rfl⟩
 ·simp[Instr.sliceAt,c,Instr.slice,Instr.sliceBounds]
 ·simp[Instr.sliceAt,c,Instr.slice,Instr.sliceBounds,Instr.sliceBound,asIntOf,h,e,d]
 ·simp[Instr.sliceAt,c,Instr.slice,Instr.sliceBounds,Instr.sliceBound,asIntOf,i,e,d]
 ·simp[Instr.sliceAt,c,Instr.slice,Instr.sliceBounds,Instr.sliceBound,asIntOf,h,i,e,d]
def Gh{v:Value}{k n:Nat}{get:Nat->V}(q:cg M β v<|.v<|.bP k n get){a b:Nat}(y:a<=b)(x:b<=n){base:Option Addr}{cap:Nat}(e:v = .slice base n cap)(r:n<=cap):
 cY M (.slice (if cap=a then base else base.map (·.add<|a*k)) (b-a)<|cap-a) (.bP k (b-a) λi=>get<|a+i):=by
 rcases u1 q with⟨c|⟨F,c⟩,E⟩|⟨l,h,j,val,c,z,s,t,m,u⟩
 ·rw[e]at c;cases c;have:b=0:=by omega
  subst this;have:a=0:=by omega
  subst this;exact .mp _ _
 ·rw[e]at c;cases c;have:b=0:=by omega
  subst this;have:a=0:=by omega
  subst this;exact .oZ _ _ _
 ·rw[e]at c;cases c;by_cases d:cap=a
  ·rw[eI d];have:b-a=0:=by omega
   rw[this];exact .bP l h k 0 _ _ (λ_ _=>undef) (rZ _) (by simp) (by simp) (by simp) (by simp)
  ·rw[de d];simp only[lC,addr_add];exact aob s t m u (by omega) (by omega)
def aoc(h:Hyp P K N M β g A w p tt){t:TypeId}{x:Operand}{lo hi lg:Option Operand}(an:o.op = .slice t x lo hi lg)(hs:step1 B tt ops g p o=some (.go f))(ca:∀q,q∈f.aC->q):Yields P K M β g f o A w:=by
 have gm:∀{y:Option Operand} {kk:IntKind} {n:Int},y.map (λy=>rd g.env g.cf p tt o.type y)=some (some<|.v<|.int kk n)->y.map (⟨A,[]⟩:Act).eval=some (.int kk n):=by
  intro y kk n b9;cases y with
  |none=>simp at b9
  |some y=>
   simp at b9
   simp[jC<|ez (ds:=[]) h.bB h.ef b9]
 have wR:∀{y:Option Operand},y.map (λy=>rd g.env g.cf p tt o.type y)=none->y.map (⟨A,[]⟩:Act).eval=none:=by
  intro y b9;simp at b9;simp[b9]
 simp only[step1,an]at hs;split at hs
 ·rename_i sz lQ z _ aa;obtain⟨r⟩:=et h.tt aa;split at hs
  ·rename_i l hx lu kG;cases hs;have ex:=np<|ez (ds:=[]) h.bB h.ef hx;have:=LF (w:=w) r rfl (l:=l) (lo:=none) (hi:=none) (a:=0) (b:=l.length) (.inl ⟨rfl,rfl⟩) (.inl ⟨rfl,rfl⟩) (by omega) (by omega)
   simp at this
   exact fI h.bB (vd an ex (wR lu) (wR kG) rfl this)<|.v _ _<|.str _
  ·rename_i l df a hx lu kG;cases hs;have ex:=np<|ez (ds:=[]) h.bB h.ef hx;have hb:=u_<|ca (hB a l.length=true)<|by simp
   obtain⟨eA,rfl⟩:=lJ hb.1;have:=LF (w:=w) r rfl (l:=l) (lo:=some<|.int df eA) (hi:=none) (a:=eA) (b:=l.length) (.inr ⟨_,rfl⟩) (.inl ⟨rfl,rfl⟩) (by omega) (by omega)
   simp at this
   exact fI h.bB (vd an ex (gm lu) (wR kG) rfl this)<|.v _ _<|.str _
  ·rename_i l ak b hx lu kG;cases hs;have ex:=np<|ez (ds:=[]) h.bB h.ef hx;have hb:=u_<|ca (hB b l.length=true)<|by simp
   obtain⟨bc,rfl⟩:=lJ hb.1;have:=LF (w:=w) r rfl (l:=l) (lo:=none) (hi:=some<|.int ak bc) (a:=0) (b:=bc) (.inl ⟨rfl,rfl⟩) (.inr ⟨_,rfl⟩) (by omega) (by omega)
   simp at this
   exact fI h.bB (vd an ex (wR lu) (gm kG) rfl this)<|.v _ _<|.str _
  ·rename_i l df a ak b hx lu kG;cases hs;have ex:=np<|ez (ds:=[]) h.bB h.ef hx;have hb:=adl<|ca (oY a b l.length=true)<|by simp
   obtain⟨eA,rfl⟩:=lJ hb.1;obtain⟨bc,rfl⟩:=lJ (a:=b) (by omega)
   have:=LF (w:=w) r rfl (l:=l) (lo:=some<|.int df eA) (hi:=some<|.int ak bc) (a:=eA) (b:=bc) (.inr ⟨_,rfl⟩) (.inr ⟨_,rfl⟩) (by omega) (by omega)
   exact fI h.bB (vd an ex (gm lu) (gm kG) rfl this)<|.v _ _<|.str _
  ·cases hs
 ·rename_i e sz lQ z _ aa;obtain⟨r⟩:=et h.tt aa;split at hs
  ·rename_i df size Gi jr k n get ak a hl2 hx lu kG;obtain⟨d_⟩:=et h.tt hl2;rw[fe]at hs;split at hs
   case isFalse=>cases hs
   rename_i hkk;simp only[kb]at hkk;subst hkk
   have yM:∃(y:V) (rs:List eT) (aC:List Prop),f={e:=some {d:=.v y},rs,aC}/\ij (.bP k (n-a.toNat) λi=>get<|a.toNat+i) y/\hB a n=true:=by
    split at hs
    ·rename_i y rs fa;cases hs;exact⟨_,_,_,rfl,ca _<|by simp,ca (hB a n=true)<|by simp⟩
    ·cases hs;exact⟨_,_,_,rfl,λ_ _ h=>h,ca (hB a n=true)<|by simp⟩
    ·cases hs
   obtain⟨y,rs,aC,rfl,hv,hb⟩:=yM;have hb:=u_ hb;obtain⟨eA,rfl⟩:=lJ hb.1;have mU:=ez (ds:=[]) h.bB h.ef hx;obtain⟨base,cap,ex,hnc⟩:=yv mU;have:=LD (w:=w) r rfl d_ (base:=base) (n:=n) (cap:=cap) (lo:=some<|.int ak eA) (hi:=none) (a:=eA) (b:=n) (.inr ⟨_,rfl⟩) (.inl ⟨rfl,rfl⟩) (by omega) (by omega) hnc
   refine fI h.bB (vd an ex (gm lu) (wR kG) rfl this)<|.v _ _<|hv _ _ ?_;have:=Gh mU (a:=eA) (b:=n) (by omega) (by omega) ex hnc
   simpa using this
  ·rename_i df size Gi jr k n get ak b hl2 hx lu kG;obtain⟨d_⟩:=et h.tt hl2;rw[fe]at hs;split at hs
   case isFalse=>cases hs
   rename_i hkk;simp only[kb]at hkk;subst hkk
   have yM:∃(y:V) (rs:List eT) (aC:List Prop),f={e:=some {d:=.v y},rs,aC}/\ij (.bP k b.toNat get) y/\hB b n=true:=by
    split at hs
    ·rename_i y rs fa;cases hs;exact⟨_,_,_,rfl,ca _<|by simp,ca (hB b n=true)<|by simp⟩
    ·cases hs;exact⟨_,_,_,rfl,λ_ _ h=>h,ca (hB b n=true)<|by simp⟩
    ·cases hs
   obtain⟨y,rs,aC,rfl,hv,hb⟩:=yM;have hb:=u_ hb;obtain⟨bc,rfl⟩:=lJ hb.1;have mU:=ez (ds:=[]) h.bB h.ef hx;obtain⟨base,cap,ex,hnc⟩:=yv mU;have:=LD (w:=w) r rfl d_ (base:=base) (n:=n) (cap:=cap) (lo:=none) (hi:=some<|.int ak bc) (a:=0) (b:=bc) (.inl ⟨rfl,rfl⟩) (.inr ⟨_,rfl⟩) (by omega) (by omega) hnc
   refine fI h.bB (vd an ex (wR lu) (gm kG) rfl this)<|.v _ _<|hv _ _ ?_;have:=Gh mU (a:=0) (b:=bc) (by omega) (by omega) ex hnc
   simpa using this
  ·rename_i df size Gi jr k n get ak a ff b hl2 hx lu kG;obtain⟨d_⟩:=et h.tt hl2;rw[fe]at hs;split at hs
   case isFalse=>cases hs
   rename_i hkk;simp only[kb]at hkk;subst hkk
   have yM:∃(y:V) (rs:List eT) (aC:List Prop),f={e:=some {d:=.v y},rs,aC}/\ij (.bP k (b.toNat-a.toNat) λi=>get<|a.toNat+i) y/\oY a b n=true:=by
    split at hs
    ·rename_i y rs fa;cases hs;exact⟨_,_,_,rfl,ca _<|by simp,ca (oY a b n=true)<|by simp⟩
    ·cases hs;exact⟨_,_,_,rfl,λ_ _ h=>h,ca (oY a b n=true)<|by simp⟩
    ·cases hs
   obtain⟨y,rs,aC,rfl,hv,hb⟩:=yM;have hb:=adl hb;obtain⟨eA,rfl⟩:=lJ hb.1;obtain⟨bc,rfl⟩:=lJ (a:=b) (by omega)
   have mU:=ez (ds:=[]) h.bB h.ef hx;obtain⟨base,cap,ex,hnc⟩:=yv mU;have:=LD (w:=w) r rfl d_ (base:=base) (n:=n) (cap:=cap) (lo:=some<|.int ak eA) (hi:=some<|.int ff bc) (a:=eA) (b:=bc) (.inr ⟨_,rfl⟩) (.inr ⟨_,rfl⟩) (by omega) (by omega) hnc
   refine fI h.bB (vd an ex (gm lu) (gm kG) rfl this)<|.v _ _<|hv _ _ ?_;have:=Gh mU (a:=eA) (b:=bc) (by omega) (by omega) ex hnc
   simpa using this
  ·rename_i df size Gi jr k n get hl2 hx lu kG;obtain⟨d_⟩:=et h.tt hl2;rw[fe]at hs;split at hs
   case isFalse=>cases hs
   rename_i hkk;simp only[kb]at hkk;subst hkk;cases hs;have mU:=ez (ds:=[]) h.bB h.ef hx;obtain⟨base,cap,ex,hnc⟩:=yv mU;have:=LD (w:=w) r rfl d_ (base:=base) (n:=n) (cap:=cap) (lo:=none) (hi:=none) (a:=0) (b:=n) (.inl ⟨rfl,rfl⟩) (.inl ⟨rfl,rfl⟩) (by omega) (by omega) hnc
   refine fI h.bB (vd an ex (wR lu) (wR kG) rfl this)<|.v _ _ ?_;have:=Gh mU (a:=0) (b:=n) (by omega) (by omega) ex hnc
   simpa using this
  ·cases hs
 ·rename_i m e sz lQ z _ aa;obtain⟨r⟩:=et h.tt aa;split at hs
  case h_2=>cases hs
  rename_i size Gi jr k n get ak b ff c hl2 hx kG hm;obtain⟨d_⟩:=et h.tt hl2;rw[fe]at hs;split at hs
  case isFalse=>cases hs
  rename_i hkk;simp only[kb]at hkk;subst hkk;cases hs;have LE:=ca (b=c) (by simp)
  subst LE;have hb:=u_<|ca (hB b n=true)<|by simp
  obtain⟨bc,rfl⟩:=lJ hb.1;have mU:=ez (ds:=[]) h.bB h.ef hx;obtain⟨base,cap,ex,hnc⟩:=yv mU;have qP:bc<=n:=by omega
  have hu:=r.run_underlying w;rw[qG r rfl]at hu
  have hrun:(Instr.sliceAt t (.slice base n cap) none (some<|.int ak bc)<|some<|.int ff bc).run P w = .ok (.slice (if bc=0 then base else base.map (·.add<|0*k)) bc bc) w:=by
   have h1:bc<=cap:=by omega
   simp[Instr.sliceAt,hu,Instr.slice,Instr.sliceBounds,Instr.sliceBound,asIntOf,d_.run_sizeOf,h1]
  have aod:(if bc=0 then base else base.map (·.add<|0*k))=base:=by
   split
   ·rfl
   ·cases base with
    |none=>rfl
    |some a=>simp[Addr.add]
  rw[aod]at hrun;have em:(some m).map (⟨A,[]⟩:Act).eval=some (.int ff bc):=gm (y:=some m) hm;refine fI h.bB (vd an ex rfl (gm kG) em hrun)<|.full base k _ get ?_;have adB:=Gh mU (a:=0) (b:=bc) (by omega) qP ex hnc
  simp only[pN]at adB ⊢;have adC:cY M (.slice (if cap=0 then base else base.map (·.add<|0*k)) bc cap) (.bP k bc get):=by simpa using adB
  have hb2:(if cap=0 then base else base.map (·.add<|0*k))=base:=by
   split
   ·rfl
   ·cases base with
    |none=>rfl
    |some a=>simp[Addr.add]
  rw[hb2]at adC;cases adC with
  |mp=>exact .mp _ _
  |oZ a=>exact .oZ _ _ _
  |bP yl off k n cap get val hc hk cR h1 h=>exact .bP yl off k _ _ get val (fS _) hk cR h1 h
 ·cases hs
def adD{c:Call}(n:o.op = .call c)(j:c.callee = .builtin .len){a:Operand}(m:c.args.toList=[a]){t:TypeId}(i:c.argTypes.toList[0]? = some t){d v:Value}(k:(⟨A,[]⟩:Act).eval a=d)
 (h:∀b,(Builtin.len_ #[t] b #[d]).run P w = .ok v w):(execOp (Act.eval ⟨A,[]⟩) o).run P w = .ok (.value v) w:=by
 have e:c.args = #[a]:=by apply va;simpa using m
 have q:∀b,(Builtin.len_ c.argTypes b #[d]).run P w = .ok v w:=by
  intro b;have l:c.argTypes[0]? = some t:=by simpa using i
  have:=h b
  simp only[Builtin.len_,l]at this ⊢;exact this
 simp only[execOp,n,resolve,j,e,Sem.run_bind,Sem.run_pure,Result.andThen_ok,invoke,builtin,xS,kz,rf,k];simp[q]
def adE{F:Nat->Option Nat}{l a:List D}(h:mP F l=some a):a.length=l.length:=(BB h).1.symm
def aoe {c : Call} (j : o.op = .call c) {x : Operand} (h : c.callee = .value x) {fn : FuncId} {vs : List Value} (d : (⟨A, []⟩ : Act).eval x = .func (.func fn) #[] ⟨vs⟩) {fd : Func} (k : P.funcs[fn]? = some fd) (a : fd.body.isSome = true) (e : fd.name ≠ "runtime.NumGoroutine") :
 (execOp (Act.eval ⟨A,[]⟩) o).run P w = .ok (.enter fn ⟨c.args.toList.map (⟨A,[]⟩:Act).eval++vs⟩) w:=by
 have b:fd.body≠none:=by intro i;rw[i]at a;cases a
 simp[execOp,j,resolve,h,d,Deferred.ofValue,invoke,callFunc,k,b,e]
def adF{F:TypeId->Operand->Option D}:∀{xs:List Operand} {ts:List TypeId} {ds:List D},nk F xs ts=some ds->ds.length=xs.length/\∀(i:Nat) x d,xs[i]? = some x->ds[i]? = some d->∃t,F t x=some d
 |[],ts,ds,h=>by simp[nk]at h;subst h;simp
 |x::xs,[],ds,h=>by simp[nk]at h
 |x::xs,t::ts,ds,h=>by
  simp only[nk]at h;split at h
  case h_2=>cases h
  rename_i d l hd k;cases h;let⟨j,c⟩:=adF k;refine⟨by simp[j],λi y e b a=>?_⟩
  cases i with
  |zero=>simp at b a;subst b;subst a;exact⟨t,hd⟩
  |succ i=>simp at b a;exact c i y e b a
mutual
def adG{ρ:List Nat}:∀(d:D) {a:D},eJ (idx ρ) d=some a->eJ (λj=>ρ[j]?) a=some d
 |.v x,a,h=>by simp[eJ]at h;subst h;simp[eJ]
 |.ptr r c,a,h=>by
  simp only[eJ,dC]at h;obtain⟨j,e,rfl⟩:=h;simp[eJ,Lp e]
 |.cn r c u,a,h=>by
  simp only[eJ,dC]at h;obtain⟨j,e,rfl⟩:=h;simp[eJ,Lp e]
 |.fD x,a,h=>by simp[eJ]at h;subst h;simp[eJ]
 |.full k n m,a,h=>by simp[eJ]at h;subst h;simp[eJ]
 |.ex u x,a,h=>by simp[eJ]at h;subst h;simp[eJ]
 |.fn g q,a,h=>by
  simp only[eJ,dC]at h;obtain⟨l,b,rfl⟩:=h;simp[eJ,LG q b]
 |.agg i,a,h=>by
  simp only[eJ,dC]at h;obtain⟨l,b,rfl⟩:=h;simp[eJ,LG i b]
 |.cw i,a,h=>by
  simp only[eJ,dC]at h;obtain⟨l,b,rfl⟩:=h;simp[eJ,LG i b]
def LG{ρ:List Nat}:∀(l:List D) {a:List D},mP (idx ρ) l=some a->mP (λj=>ρ[j]?) a=some l
 |[],a,h=>by simp[mP]at h;subst h;simp[mP]
 |d::l,a,h=>by
  simp only[mP]at h;split at h
  case h_2=>cases h
  rename_i e c hd b;cases h;simp[mP,adG d hd,LG l b]
end
def adH{ρ:List Nat}:∀{b a:List aS},o2 (idx ρ) b=some a->o2 (λj=>ρ[j]?) a=some b
 |[],a,h=>by simp[o2]at h;subst h;simp[o2]
 |e::l,a,h=>by
  simp only[o2]at h;split at h
  case h_2=>cases h
  rename_i m k c i;cases h;simp only[K3,dC]at c;obtain⟨d,hd,rfl⟩:=c;simp[o2,K3,adG _ hd,adH i]
def adI{ρ:List Nat}:∀{bs a:List (List aS)},lf (idx ρ) bs=some a->lf (λj=>ρ[j]?) a=some bs
 |[],a,h=>by simp[lf]at h;subst h;simp[lf]
 |b::l,a,h=>by
  simp only[lf]at h;split at h
  case h_2=>cases h
  rename_i i e c d;cases h;simp[lf,adH c,adI d]
def aof{st:aA}(h:bh P K M β st A w){ρ:List Nat}{bs H1:List (List aS)}(L:o3 ρ=true)(J:boxes st.H ρ=some bs)(I:lf (idx ρ) bs=some H1)
 {a:List Nat} {out:Out} {v:Value} {w':World} {M':Mem} {β':Nat->Option Nat} (R:bh P (lU M β st A w ρ a) M' β' {env:=je out,H:=dm 0 H1,aD:=ρ.length} #[v] w'):
 M.le M'/\bh P K M' β {st with env:=hX a st.env} A w'/\
 (∀d own,out = .ret d own->∀m,eJ (λj=>ρ[j]?) d=some m->cg M' β v m/\∀T q,own=some T->oA P K M' β {st with env:=hX a st.env} A w' q v T)/\
 (∀x,out = .bv x->cY M' v x):=by
 let⟨k,t⟩:=yD J;have X:H1.length=ρ.length:=by rw[(BU I).1,k]
 let⟨W,U,ah,ay⟩:=S' h L J (adI I) X R
 have n:∀r,look (mQ ρ bs++st.H) r=look st.H r:=by
  intro r;let⟨F,y⟩:=S4 (H:=st.H) (ρ:=ρ) (bs:=bs) k L r;by_cases c:∃(j:Nat),ρ[j]? = some r
  ·let⟨j,c⟩:=c;rw[F j c,(t j r c).1]
  ·exact y λj bf=>c ⟨j,bf⟩
 have O:∀l,({env:=hX a st.env,H:=mQ ρ bs++st.H,aD:=st.aD}:aA).at l=({st with env:=hX a st.env}:aA).at l:=by
  intro l;cases l with
  |slot s=>rfl
  |cell r i=>simp only[aA.at,n]
 refine⟨W,U.sub rfl (λl e E=>⟨e,by rw[O];exact E,rfl,λ_ h=>h⟩)<|λr u z=>⟨u,by rw[<-z];exact n r,rfl⟩,λd own hd m Q=>?_,ay⟩
 let⟨F,y⟩:=ah d own hd m Q;refine⟨F,λT q av=>?_⟩
 let⟨cG,Z,Y⟩:=y T q av;exact⟨cG,λl e T' b E=>Z l e T' b (by rw[O];exact E),λb r u S z=>Y b r u S (by rw[<-z];exact n r)⟩
def adJ(P:Program)(K:Ctx)(M:Mem)(β:Nat->Option Nat)(g:dt)(s:pL)(o:Oper)(A:Array Value)(w:World):Prop:=
 match s with
 |.go f=>(∀q,q∈f.aC->q)->Yields P K M β g f o A w
 |.bv x a b=>(∀q,q∈b->q)->anB P K M β g x a o A w
def adK{c:List Nat}{a:List (Nat×aS)}{s:Nat}{e:aS}(h:look a s=some e):∃b,look (hX c a) s=some b/\b.d=e.d:=by
 rw[o6,h];split
 ·exact⟨_,rfl,rfl⟩
 ·exact⟨_,rfl,rfl⟩
def To{g:dt}(h:fP P K N M β g A w){xs:List Operand}{ts:List TypeId}:∀{x:List Nat} {hd:List (Nat×Option Nat×TypeId)},handed tt g xs ts x=some hd->∀{vs:List Value},
 (∀(i:Nat) t,xs[i]? = some (.tmp t)->vs[i]? = some (A.getD t undef))->(∀(i:Nat),xs[i]? = some (.const<|.slice none 0 0)->vs[i]? = some (.slice none 0 0))->
 Handed {env:=g.env,H:=g.H,aD:=g.aD} A vs hd
 |[],hd,a,vs,_,_=>by
  simp[handed]at a;subst a;exact⟨by simp,by simp,by simp⟩
 |i::x,hd,a,vs,r,q=>by
  simp only[handed]at a;split at a
  ·rename_i t l m s;have j:=To h s r q;split at a
   case h_2=>cases a
   rename_i d e y;let⟨n,a⟩:=U5 a;simp only[cb,gK,hh]at n;cases a;refine⟨λb c T hm=>?_,λb T hm=>?_,λb k c T u hm lw=>?_⟩
   ·rcases gh.1 hm with hm|hm
    ·cases hm;exact⟨_,y,rfl,r i t m⟩
    ·exact j.some b c T hm
   ·rcases gh.1 hm with hm|hm
    ·cases hm
    ·exact j.none b T hm
   ·rcases gh.1 hm with hm|hm<;>rcases gh.1 lw with lw|lw
    ·cases hm;cases lw;rfl
    ·cases hm;have:=(n.2 _ lw).1
     simp at this
    ·cases lw;have:=(n.2 _ hm).1
     simp at this
    ·exact j.inj b k c T u hm lw
  ·rename_i l m s;have j:=To h s r q;split at a
   case h_2=>cases a
   rename_i e sz E z _ y;rw[fe]at a;split at a
   case isFalse=>cases a
   cases a;refine⟨λb c T hm=>?_,λb T hm=>?_,λb k c T u hm lw=>?_⟩
   ·rcases gh.1 hm with hm|hm
    ·cases hm
    ·exact j.some b c T hm
   ·rcases gh.1 hm with hm|hm
    ·cases hm;exact q i m
    ·exact j.none b T hm
   ·rcases gh.1 hm with hm|hm<;>rcases gh.1 lw with lw|lw
    ·cases hm
    ·cases hm
    ·cases lw
    ·exact j.inj b k c T u hm lw
  ·cases a
def aog(h:Hyp P K N M β g A w p tt){c:Call}(an:o.op = .call c){x:Operand}(hc:c.callee = .value x){fn:FuncId}{J ds:List D}(hx:rd g.env g.cf p tt o.type x=some (.fn fn J))
 (ga:nk (rd g.env g.cf p tt) c.args.toList c.argTypes.toList=some ds) {s:pL} (a:Bx (e0 P) tt g p c.args.toList c.argTypes.toList fn (ds++J)=some s):
 adJ P K M β g s o A w:=by
 let⟨vs,hv,hlen,af⟩:=acD<|ez (ds:=[]) h.bB h.ef hx;let⟨hD,kp⟩:=adF ga
 have fE:∀(i:Nat) v d,(c.args.toList.map (⟨A,[]⟩:Act).eval++vs)[i]? = some v->(ds++J)[i]? = some d->cg M β v d:=by
  intro i v d W I;by_cases hi:i<c.args.toList.length
  ·rw[iw<|by simpa using hi,gV,dC]at W
   obtain⟨y,b9,rfl⟩:=W;rw[iw<|by omega]at I
   let⟨ty,ic⟩:=kp i y d b9 I;exact ez h.bB h.ef ic
  ·rw[jE (by simp;simp at hi;omega)]at W
   rw[jE<|by omega]at I
   refine af _ v d W ?_;rw[hD]at I;simpa using I
 have Tp:(c.args.toList.map (⟨A,[]⟩:Act).eval++vs).length=(ds++J).length:=by simp at hD ⊢;omega
 unfold Bx at a
 dsimp only at a
 generalize nt:qC g.H 2 (dedup<|(ds++J).flatMap refs)=ρ at a
 split at a
 case h_2=>cases a
 rename_i k X os rs fa;split at a
 case h_2=>cases a
 rename_i kV H1 hd R E yE;rw[jM]at E;let⟨bs,U,E⟩:=E;rw[fe]at a;split at a
 ·cases a
 rename_i adM
 have hn:o3 ρ=true:=by
  have:(!o3 ρ || !(List.isEmpty p||List.isEmpty os))=false:=by simpa using adM
  simp only[lG,rX]at this;exact this.1
 have dT:=To h.bB yE (vs:=c.args.toList.map (⟨A,[]⟩:Act).eval++vs) (λi t O=>by
  rw[iw<|by simpa using(eR.1 O).1,gV,O];rfl) (λi O=>by
  rw[iw<|by simpa using(eR.1 O).1,gV,O];rfl)
 have er:=adc (st:={env:=g.env,H:=g.H,aD:=g.aD}) h.bB.bB hn U E Tp fE R dT;have fC:H1.length=ρ.length:=by rw[(BU E).1,(yD U).1]
 -- Lh jX contract aoh, aCq jX boxes behind it
 have q:∀{Hx:List (List aS)},gn P fn kV (wL hd) H1 k Hx->(execOp (Act.eval ⟨A,[]⟩) o).run P w = .ok (.enter fn ⟨c.args.toList.map (⟨A,[]⟩:Act).eval++vs⟩) w/\
  Calls P fn ⟨c.args.toList.map (⟨A,[]⟩:Act).eval++vs⟩ w λe w'=>∃v M' β',e=tk k v/\
   bh P (lU M β {env:=g.env,H:=g.H,aD:=g.aD} A w ρ<|tn hd) M' β' {env:=je k,H:=dm 0 Hx,aD:=ρ.length} #[v] w':=by
  intro Hx aoi;let⟨⟨fd,kX,Tq,kZ⟩,aoj⟩:=aoi;refine⟨aoe an hc hv kX Tq kZ,(aoj _ w _ M _ (by rw[Tp,adE R]) er<|λr b hb=>hb).mono ?_⟩
  rintro e w' ⟨o',H',v,M',β',⟨rfl,rfl⟩,l,n⟩
  rw[fC]at n;exact⟨v,M',β',l,n⟩
 -- jX boxes as aCr aCs, named aCt and back
 have back:∀{Hx aok:List (List aS)},lf (λj=>ρ[j]?) Hx=some aok->Hx.length=ρ.length->∀{v:Value} {w':World} {M':Mem} {β':Nat->Option Nat},
  bh P (lU M β {env:=g.env,H:=g.H,aD:=g.aD} A w ρ<|tn hd) M' β' {env:=je k,H:=dm 0 Hx,aD:=ρ.length} #[v] w'->_:=
  λhx S _ _ _ _ m=>S' (st:={env:=g.env,H:=g.H,aD:=g.aD}) h.bB.bB hn U hx S m
 have Q:∀{v:Value} {w':World} {M':Mem} {β':Nat->Option Nat},
  bh P (lU M β {env:=g.env,H:=g.H,aD:=g.aD} A w ρ<|tn hd) M' β' {env:=je k,H:=dm 0 H1,aD:=ρ.length} #[v] w'->
  M.le M'/\bh P K M' β {env:=hX (tn hd) g.env,H:=g.H,aD:=g.aD} A w'/\
  (∀d own,k = .ret d own->∀F,eJ (λj=>ρ[j]?) d=some F->cg M' β v F/\∀T l0,own=some T->oA P K M' β {env:=hX (tn hd) g.env,H:=g.H,aD:=g.aD} A w' l0 v T)/\
  (∀x,k = .bv x->cY M' v x):=by
  intro v w' M' β' m;exact aof (st:={env:=g.env,H:=g.H,aD:=g.aD}) h.bB.bB hn U E m
 cases k with
 |ret d own=>
  cases X with
  |none=>
   simp only[dC]at a;obtain⟨F,lO,rfl⟩:=a;intro ca;let⟨z,u⟩:=q<|ca _<|lZ.2 rfl;refine .inr<|.inr ⟨fn,_,z,u.mono ?_⟩
   rintro e w' ⟨v,M',β',l,m⟩
   let⟨L,n,Tr,_⟩:=Q m;refine⟨v,l,M',β,L,λ_ _ h=>h,λ_ _ h=>.inl h,n,λe1 Z=>?_⟩
   cases Z;exact Tr d own rfl F lO
  |some X=>
   dsimp only at a
   split at a
   case h_2=>cases a
   rename_i F jU lO Y;let⟨S,a⟩:=U5 a;cases a;intro ca;let⟨z,u⟩:=q<|ca _<|lZ.2 rfl;refine .inr<|.inr ⟨fn,_,z,u.mono ?_⟩
   rintro e w' ⟨v,M',β',l,m⟩
   let⟨L,n,Tr,_⟩:=back Y (by simpa using S) m
   refine⟨v,l,M',β,L,λ_ _ h=>h,λ_ _ h=>.inl h,n,λe1 Z=>?_⟩
   cases Z;exact Tr d own rfl F lO
 |bv x=>
  cases X with
  |none=>
   cases a;intro ca;let⟨z,u⟩:=q<|ca _<|lZ.2 rfl;refine .inr ⟨fn,_,z,u.mono ?_⟩
   rintro e w' ⟨v,M',β',l,m⟩
   let⟨L,n,_,Ts⟩:=Q m;exact⟨v,M',l,Ts x rfl,n.rM λs e l=>adK l⟩
  |some X=>
   dsimp only at a
   split at a
   case h_2=>cases a
   rename_i jU Y;let⟨S,a⟩:=U5 a;cases a;intro ca;let⟨z,u⟩:=q<|ca _<|lZ.2 rfl;refine .inr ⟨fn,_,z,u.mono ?_⟩
   rintro e w' ⟨v,M',β',l,m⟩
   let⟨L,n,_,Ts⟩:=back Y (by simpa using S) m
   exact⟨v,M',l,Ts x rfl,n.rM λs e l=>adK l⟩
end
section
variable {P:Program} {K:Ctx} {N:Nat} {M:Mem} {β:Nat->Option Nat} {st:aA} {g:dt} {j:Array Value} {w:World} {o:Oper} {f:mO} {p:Path} {tt:dI} {ops:List Oper}
def adO(h:Hyp P K N M β g j w p tt){c:Call}(B:o.op = .call c)(z:c.callee = .builtin .len){d:D}(hd:mapM' (λy=>rd g.env g.cf p tt o.type y) c.args.toList=some [d]){u:ep}
 (q:(c.argTypes.toList[0]?).bind (look tt)=some u) {n:Nat} (b:(∃l,d = .v (.str l)/\u.k = .str/\n=l.length)\/(∃k m e,d = .v (.bP k n m)/\u.k = .bP e)):
 Yields P K M β g {e:=some {d:=.v (.int .i64 n)},rs:=g.rs} o j w:=by
 let⟨i,kp⟩:=wH hd;rw[jM]at q;let⟨t,A,q⟩:=q;let⟨r⟩:=et h.tt q
 obtain⟨a,ha⟩:∃a,c.args.toList=[a]:=by
  cases hcl:c.args.toList with
  |nil=>rw[hcl]at i;simp at i
  |cons a l=>
   rw[hcl]at i;simp at i
   exact⟨a,by rw[i]⟩
 have x:=ez (ds:=[]) h.bB h.ef<|kp 0 a d (by rw[ha];rfl) rfl
 rcases b with⟨l,rfl,b,rfl⟩|⟨k,m,e,rfl,b⟩
 ·have s:=np x;refine fI h.bB (adD B z ha A s<|λE=>?_)<|.v _ _<|.int _ _
  have F:(⟨⟨l⟩⟩:ByteArray).size=l.length:=rfl;simp[Builtin.len_,r.run_underlying,te r b,goInt,F]
 ·let⟨base,H,s,_⟩:=yv x;refine fI h.bB (adD B z ha A s<|λE=>?_)<|.v _ _<|.int _ _
  simp[Builtin.len_,r.run_underlying,qG r b,goInt]
def aol(h:Hyp P K N M β g j w p tt){c:Call}(r:o.op = .call c)(q:c.callee = .builtin .min){k:IntKind}{a b:Int}(hd:mapM' (λy=>rd g.env g.cf p tt o.type y) c.args.toList=some [.v<|.int k a,.v<|.int k b]):
 Yields P K M β g {e:=some {d:=.v (.int k<|bif decide (b<a)then b else a)},rs:=g.rs} o j w:=by
 let⟨i,kp⟩:=wH hd
 obtain⟨x,y,oC⟩:∃x y,c.args.toList=[x,y]:=by
  cases hcl:c.args.toList with
  |nil=>rw[hcl]at i;simp at i
  |cons x l=>
   cases l with
   |nil=>rw[hcl]at i;simp at i
   |cons y l=>
    rw[hcl]at i;simp at i
    exact⟨x,y,by rw[i]⟩
 have ex:=jC<|ez (ds:=[]) h.bB h.ef<|kp 0 x _ (by rw[oC];rfl) rfl
 have s:=jC<|ez (ds:=[]) h.bB h.ef<|kp 1 y _ (by rw[oC];rfl) rfl
 have m:c.args = #[x,y]:=by apply va;simpa using oC
 refine fI h.bB (v:=.int k<|bif decide (b<a)then b else a) ?_<|.v _ _<|.int _ _
 simp only[execOp,r,resolve,q,m,Sem.run_bind,Sem.run_pure,Result.andThen_ok,invoke,builtin,xS,kz,rf,ex,s];by_cases n:b<a<;>simp[Builtin.min_,Builtin.min2,n]
def aom(h:Hyp P K N M β g j w p tt){c:Call}(r:o.op = .call c)(q:c.callee = .builtin .max){k:IntKind}{a b:Int}(hd:mapM' (λy=>rd g.env g.cf p tt o.type y) c.args.toList=some [.v<|.int k a,.v<|.int k b]):
 Yields P K M β g {e:=some {d:=.v (.int k<|bif decide (a<b)then b else a)},rs:=g.rs} o j w:=by
 let⟨i,kp⟩:=wH hd
 obtain⟨x,y,oC⟩:∃x y,c.args.toList=[x,y]:=by
  cases hcl:c.args.toList with
  |nil=>rw[hcl]at i;simp at i
  |cons x l=>
   cases l with
   |nil=>rw[hcl]at i;simp at i
   |cons y l=>
    rw[hcl]at i;simp at i
    exact⟨x,y,by rw[i]⟩
 have ex:=jC<|ez (ds:=[]) h.bB h.ef<|kp 0 x _ (by rw[oC];rfl) rfl
 have s:=jC<|ez (ds:=[]) h.bB h.ef<|kp 1 y _ (by rw[oC];rfl) rfl
 have m:c.args = #[x,y]:=by apply va;simpa using oC
 refine fI h.bB (v:=.int k<|bif decide (a<b)then b else a) ?_<|.v _ _<|.int _ _
 simp only[execOp,r,resolve,q,m,Sem.run_bind,Sem.run_pure,Result.andThen_ok,invoke,builtin,xS,kz,rf,ex,s];by_cases n:a<b<;>simp[Builtin.max_,Builtin.max2,n]
def aon(h:Hyp P K N M β g j w p tt){I:hC}{x:Operand}{s t:TypeId}{ok:Bool}(B:o.op = .typeAssert x s t ok)(b:step1 I tt ops g p o=some (.go f)):Yields P K M β g f o j w:=by
 simp only[step1,B]at b;split at b
 case h_2=>cases b
 rename_i q y k sz R z _ F O;obtain⟨r⟩:=et h.tt O;have L:=ez (ds:=[]) h.bB h.ef F;obtain⟨u,a,A⟩:=Sx L;have E:k ≠ .rI:=by rintro rfl;simp at b
 have Q:∀i,r.desc ≠ .interface i:=by
  intro i hd;have:=r.hk
  rw[hd]at this;simp[mT]at this;exact E this.symm
 have n:(bif Nat.beq q t then(some<|pL.go {e:=some {d:=(bif ok then .cw [.v y,.v<|.bool true]else .v y)},rs:=g.rs})else none)=some (.go f):=by
  cases k<;>first|exact(E rfl).elim|exact b
 rw[fe]at n;split at n
 case isFalse=>cases n
 rename_i H;have J:q=t:=by simpa using H
 subst J;cases n
 have l:(Instr.typeAssert (.iface q u) s q ok).run P w = .ok (bif ok then .tuple #[u,.bool true]else u) w:=by
  unfold Instr.typeAssert;simp only[Sem.run_bind,r.run_underlying,Result.andThen_ok];cases hd:r.desc<;>first|exact(Q _ hd).elim|(cases ok<;>simp)
 refine fI h.bB (v:=bif ok then .tuple #[u,.bool true]else u) ?_ ?_
 ·simp only[execOp,B,a];exact ko _ l
 ·cases ok
  ·exact .v _ _ A
  ·refine .cw [u,.bool true] _ rfl λi v c a m=>?_
   match i with
   | 0=>simp at a m;subst a;subst m;exact .v _ _ A
   | 1=>simp at a m;subst a;subst m;exact .v _ _<|.bool _
   |i+2=>simp at a
def adP(h:Hyp P K N M β g j w p tt){s:pL}(d:step1 (e0 P) tt ops g p o=some s):adJ P K M β g s o j w:=by
 cases an:o.op with
 |move x=>cases s with
  |go f=>exact λ_=>anI h an d
  |bv x q r=>simp only[step1,an]at d;repeat' (first |(split at d) |(rw[fe]at d) |(cases d;done))
 |assign x=>cases s with
  |go f=>exact λ_=>anJ h an d
  |bv x q r=>simp only[step1,an]at d;repeat' (first |(split at d) |(rw[fe]at d) |(cases d;done))
 |pick c a b=>
  cases c with
  |tmp c=>cases s with
   |go f=>exact λ_=>anK h an d
   |bv x q r=>simp only[step1,an]at d;repeat' (first |(split at d) |(simp at d;done))
  |_=>simp[step1,an]at d
 |alloc t=>cases s with
  |go f=>exact λ_=>anL h an d
  |bv x q r=>simp only[step1,an]at d;repeat' (first |(split at d) |(cases d;done))
 |box t x=>cases s with
  |go f=>exact λ_=>anM h an d
  |bv x q r=>simp only[step1,an]at d;repeat' (first |(split at d) |(rw[fe]at d) |(cases d;done))
 |build t parts=>cases s with
  |go f=>exact λ_=>anN h an d
  |bv x q r=>simp only[step1,an]at d;repeat' (first |(split at d) |(rw[fe]at d) |(simp at d;done) |(cases d;done))
 |buildSlice t len parts=>cases s with
  |go f=>exact λca=>anP h an d ca
  |bv x q r=>simp only[step1,an]at d;repeat' (first |(split at d) |(rw[fe]at d) |(cases d;done))
 |load t a=>cases s with
  |go f=>exact λ_=>anQ h an d
  |bv x q r=>simp only[step1,an]at d;repeat' (first |(split at d) |(rw[fe]at d) |(simp at d;done) |(cases d;done))
 |store t a x=>cases s with
  |go f=>exact λ_=>anR h an d
  |bv x q r=>simp only[step1,an]at d;repeat' (first |(split at d) |(rw[fe]at d) |(cases d;done))
 |nilCheck x=>cases s with
  |go f=>exact λ_=>anS h an d
  |bv x q r=>simp only[step1,an]at d;repeat' (first |(split at d) |(simp at d;done))
 |binOp op t x y t2=>cases s with
  |go f=>exact λca=>an5 h an d ca
  |bv x q r=>simp only[step1,an]at d;repeat' (first |(split at d) |(rw[fe]at d) |(simp at d;done))
 |unOp op t x=>cases s with
  |go f=>exact λ_=>anT h an d
  |bv x q r=>simp only[step1,an]at d;repeat' (first |(split at d) |(simp at d;done))
 |convert a b x=>cases s with
  |go f=>exact λca=>anU h an d ca
  |bv x q r=>simp only[step1,an]at d;repeat' (first |(split at d) |(simp at d;done))
 |makeInterface t x=>cases s with
  |go f=>exact λ_=>anV h an d
  |bv x q r=>simp only[step1,an]at d;repeat' (first |(split at d) |(simp at d;done))
 |makeFunc fn first fM=>
  cases fn with
  |func fn=>cases s with
   |go f=>exact λ_=>anW h an d
   |bv x q r=>simp only[step1,an]at d;rw[fe]at d;split at d<;>simp at d
  |_=>simp[step1,an]at d
 |slice t x lo hi lg=>cases s with
  |go f=>exact λca=>aoc h an d ca
  |bv x q r=>simp only[step1,an]at d;repeat' (first |(split at d) |(rw[fe]at d) |(simp at d;done))
 |fieldAddr a x i=>cases s with
  |go f=>exact λ_=>an6 h an d
  |bv x q r=>simp only[step1,an]at d;repeat' (first |(split at d) |(rw[fe]at d) |(simp at d;done))
 |field a x i=>cases s with
  |go f=>exact λ_=>an8 h an d
  |bv x q r=>simp only[step1,an]at d;repeat' (first |(split at d) |(rw[fe]at d) |(simp at d;done))
 |indexAddr t x i=>cases s with
  |go f=>exact λca=>an_ h an d ca
  |bv x q r=>simp only[step1,an]at d;repeat' (first |(split at d) |(rw[fe]at d) |(simp at d;done))
 |index t x i=>cases s with
  |go f=>exact λca=>aoa h an d ca
  |bv x q r=>simp only[step1,an]at d;repeat' (first |(split at d) |(simp at d;done))
 |typeAssert x a t ok=>cases s with
  |go f=>exact λ_=>aon h an d
  |bv x q r=>simp only[step1,an]at d;repeat' (first |(split at d) |(rw[fe]at d) |(simp at d;done) |(cases d;done))
 |extract x i=>cases s with
  |go f=>exact λ_=>anX h an d
  |bv x q r=>simp only[step1,an]at d;repeat' (first |(split at d) |(simp at d;done))
 |call c=>
  simp only[step1,an]at d;split at d
  ·rename_i x E;split at d
   case h_2=>cases d
   rename_i fn fM ds hx ga;exact aog h an E hx ga d
  ·rename_i E;split at d
   ·rename_i l _ _ _ _ hd aa;cases d;exact λ_=>adO h an E hd aa<|.inl ⟨l,rfl,rfl,rfl⟩
   ·rename_i k n I _ _ _ _ _ hd aa;cases d;exact λ_=>adO h an E hd aa<|.inr ⟨k,I,_,rfl,rfl⟩
   ·cases d
  ·rename_i E;split at d
   case h_2=>cases d
   rename_i t x e aCu Gi jr _ t2 fE H A;split at d
   case h_3=>cases d
   case h_2=>
    rename_i W k n I d2 y rs F S kp fa;rw[fe]at d;split at d
    case isFalse=>cases d
    rename_i Q;simp only[cb,kb,pn]at Q;obtain⟨⟨⟨rfl,LH⟩,Y⟩,yO⟩:=Q;rw[jM]at H A;obtain⟨aoo,X,H⟩:=H;obtain⟨Tv,T,A⟩:=A;have U:=ez (ds:=[]) h.bB h.ef kp;split at d
    case h_2=>cases d
    rename_i R m nQ e2 O;rw[fe]at d;split at d
    case isFalse=>cases d
    rename_i B;simp only[cb,kb,pn]at B;obtain⟨rfl,hm⟩:=B;cases d;intro ca;obtain⟨news,L,J⟩:=ada h.bB.bB h.tt A O U;exact anh h.bB h.ef h.tt H rfl F an E fE X T S Y hm L J (BW<|ca (room (n+m) W.bytes=true)<|by simp)<|ca (ij _ y)<|by simp
   rename_i W k n I d2 aCv a7 y rs F S kp yz fa;rw[fe]at d;split at d
   case isFalse=>cases d
   rename_i Q;simp only[cb,kb,pn]at Q;obtain⟨⟨⟨⟨rfl,rfl⟩,LH⟩,Y⟩,yO⟩:=Q;rw[jM]at H A;obtain⟨aoo,X,H⟩:=H;obtain⟨Tv,T,A⟩:=A;have U:=ez (ds:=[]) h.bB h.ef kp;split at d
   ·rename_i R m nQ e2 O;rw[fe]at d;split at d
    case isFalse=>cases d
    rename_i B;simp only[kb]at B;subst B;cases d;intro ca;obtain⟨news,L,J⟩:=ada h.bB.bB h.tt A O U;exact ac7 h.bB h.ef h.tt H rfl F an E fE X T S yz rfl Y L J (BW<|ca (room (n+m) W.bytes=true)<|by simp)<|ca (ij _ y)<|by simp
   ·rename_i l O;rw[fe]at d;split at d
    case isFalse=>cases d
    rename_i B;simp only[kb]at B;cases d;intro ca;have Tw:=np U;obtain⟨news,L,J⟩:=ank (P:=P) (w:=w) h.tt A O l M;rw[<-Tw,<-B]at L;rw[<-B]at J;exact ac7 h.bB h.ef h.tt H rfl F an E fE X T S yz rfl Y L J (BW<|ca (room (n+l.length) W.bytes=true)<|by simp)<|ca (ij _ y)<|by simp
   ·cases d
  ·rename_i E;split at d
   ·rename_i k a R b hd;rw[fe]at d;split at d
    case isFalse=>cases d
    rename_i hk;have Z:k=R:=by simpa using hk
    subst Z;cases d;exact λ_=>aol h an E hd
   ·cases d
  ·rename_i E;split at d
   ·rename_i k a R b hd;rw[fe]at d;split at d
    case isFalse=>cases d
    rename_i hk;have Z:k=R:=by simpa using hk
    subst Z;cases d;exact λ_=>aom h an E hd
   ·cases d
  ·cases d
 |panic x=>cases s with
  |go f=>simp only[step1,an]at d;repeat' (first |(split at d) |(simp at d;done))
  |bv y q r=>
   simp only[step1,an]at d;split at d
   case h_2=>cases d
   rename_i t z hd;cases d;intro _;have af:=ez (ds:=[]) h.bB h.ef hd;obtain⟨u,hv,hu⟩:=Sx af;refine .inl ⟨.iface t u,?_,.iface t u z hu,rfl⟩;simp[execOp,an,hv,Instr.panic]
 |_=>simp[step1,an]at d
end
inductive cA where
 |normal
 |exit (id:Nat)
 |ret
 |bv (x:V)
def tq(P:Program)(K:Ctx)(N:Nat)(b:cA)(st:aA)(e:Exit)(a:Act)(w:World):Prop:=
 match b with
 |.normal=>e = .normal/\a.defers=K.ds/\a.tmps.size=N/\∃M β,bh P K M β st a.tmps w
 |.exit id=>e = .exit id/\a.defers=K.ds/\a.tmps.size=N/\∃M β,bh P K M β st a.tmps w
 |.ret=>e = .ret/\a.defers=K.ds/\a.tmps.size=N/\∃M β,bh P K M β st a.tmps w
 |.bv x=>∃v,e = .panic [{v,recovered:=false}]/\a.defers=K.ds/\∃M β,cY M v x/\bh P K M β st a.tmps w
section
variable {P:Program} {K:Ctx} {N:Nat} {M:Mem} {β:Nat->Option Nat} {st:aA} {g g':dt} {c:Array Value} {w:World} {o:Oper} {f:mO} {p:Path} {tt:dI} {ops:List Oper}
def bh.Gj(h:bh P K M β st c w)(x:Array Value):bh P K M β {env:=[],H:=st.H,aD:=st.aD} x w:=by
 have d:bh P K M β {env:=[],H:=st.H,aD:=st.aD} c w:=h.sub rfl (λl e a=>by
  cases l with
  |slot s=>simp[aA.at,look]at a
  |cell r i=>exact⟨e,a,rfl,λ_ h=>h⟩)<|λr n q=>⟨n,q,rfl⟩
 have j:∀l e,({env:=[],H:=st.H,aD:=st.aD}:aA).at l=some e->ch x w β l=ch c w β l:=by
  intro l e a;cases l with
  |slot s=>simp[aA.at,look]at a
  |cell r i=>rfl
 constructor
 ·intro l e a;rw[j l e a];exact d.dp l e a
 ·intro l e T a m;rw[j l e a];exact d.own l e T a m
 ·intro l u e z T B b a m t A k y;rw[j l e a]at k;rw[j u z t]at y;exact d.uniq l u e z T B b a m t A k y
 ·intro l e T b r n a m k q;rw[j l e a]at k;exact d.unbox l e T b r n a m k q
 ·exact d.box
 ·exact d.inj
 ·exact d.lt
 ·exact d.mem
 ·exact d.m0
 ·exact d.frame
 ·exact d.ia
 ·exact d.il
 ·exact d.gz
def Gk(h:fP P K N M β g c w):∀{p:Path} {q:Prop},f_ c p->under g p q->q
 |[],_,_,am=>am
 |(t,e)::p,q,j,am=>by
  have d:c.getD t undef = .bool e:=j (t,e) (by simp)
  have l:f_ c p:=λx n=>j x (by simp[n])
  simp only[under]at am;split at am
  ·rename_i b a;refine Gk h l<|am ?_;unfold FF at a;split at a
   ·rename_i m s k;cases a;by_cases i:f_ c m
    ·have:=rT<|(h.cond t _ _ k).1 i
     rw[d]at this;cases this;rfl
    ·have:=(h.cond t _ _ k).2 i
     rw[d]at this;cases this
   ·cases a
   ·split at a
    ·rename_i s own r;cases a;have:=rT<|h.bB.dp (.slot t) _ r
     simp only[ch]at this;rw[d]at this;cases this;rfl
    ·cases a
  ·exact Gk h l am
def adQ(h:fP P K N M β g c w){UJ:Array Oper}(m:UJ.toList=ops)(a:rN ops g o=some p):Region.wanted o (yielded UJ c)=true↔f_ c p:=by
 unfold rN at a;split at a
 ·rename_i i;cases a;simp[Region.wanted,i,f_]
 ·rename_i j d i;split at a
  case h_2=>cases a
  rename_i t s
  have r:yielded UJ c j=some d↔c.getD t undef = .bool d:=by
   unfold yielded;have:UJ[j]? = ops[j]? := by rw[<-m];simp
   rw[this,s];simp only[sO,fi];cases bf:c[t]? with
   |none=>simp[undef]
   |some v=>cases v<;>simp
  have l:Region.wanted o (yielded UJ c)=true↔c.getD t undef = .bool d:=by
   rw[<-r];simp[Region.wanted,i]
  split at a
  ·rename_i q b n;cases a;rw[l];constructor
   ·intro k x hx;rcases jN.1 hx with hx|hx
    ·by_cases e:f_ c q
     ·exact e x hx
     ·have:=(h.cond t _ _ n).2 e
      rw[k]at this;cases this
    ·simp at hx;subst hx;exact k
   ·intro e;exact e (t,d) (by simp)
  ·cases a
  ·split at a
   ·cases a;rw[l];exact⟨λh x hx=>by simp at hx;subst hx;exact h,λh=>h (t,d)<|by simp⟩
   ·cases a
def Tx{t:Nat}{v:Value}{q:Path}(am:∀x,x∈q->x.1≠t):f_ (c.setIfInBounds t v) q↔f_ c q:=by
 unfold f_;constructor<;>intro h x a
 ·have:=h x a
  rwa [fi,oH<|Ne.symm<|am x a,<-fi]at this
 ·have:=h x a
  rwa [fi,oH<|Ne.symm<|am x a,<-fi]
def aop{t s:Nat}{v:Value}(h:s≠t):(c.setIfInBounds t v).getD s undef=c.getD s undef:=by
 rw[fi,oH<|Ne.symm h,<-fi]
def aoq{a:List (Nat×Path×D)}{t:Nat}(h:BA a t=true){s:Nat}{q:Path}{d:D}(j:look a s=some (q,d))(i:s≠t):∀x,x∈q->x.1≠t:=by
 unfold BA at h;rw[gK]at h;have:=h _<|nT j
 simp only[mu,kb,gK,hh]at this;rcases this with h1|h1
 ·exact absurd h1 i
 ·intro x b e;have:=h1 x b
  rw[e]at this;simp at this
def Ty(h:∀t q d,look g.cf t=some (q,d)->(f_ c q->cg M β (c.getD t undef) d)/\(¬ f_ c q->c.getD t undef=undef)){t:Nat}{v:Value}(l:BA g.cf t=true){M':Mem}{β':Nat->Option Nat}
 (k:M.le M') (j:∀r b,β r=some b->β' r=some b):
 ∀s q d,look (del g.cf t) s=some (q,d)->(f_ (c.setIfInBounds t v) q->cg M' β' ((c.setIfInBounds t v).getD s undef) d)/\(¬ f_ (c.setIfInBounds t v) q->(c.setIfInBounds t v).getD s undef=undef):=by
 intro s q d a;rw[tb]at a;by_cases e:t=s
 ·simp[e]at a
 ·rw[de e]at a;rw[Tx<|aoq l a<|Ne.symm e,aop<|Ne.symm e];exact⟨λi=>(((h s q d a).1 i).mono k).Sl j,(h s q d a).2⟩
def B2(ds:List Deferred):Act.eval ⟨c,ds⟩=Act.eval ⟨c,[]⟩:=by
 funext x;cases x<;>rfl
def adR{α:Type}:∀(a b:List<|Nat×α) (q:Nat),look (a++b) q=none->look a q=none/\look b q=none
 |[],b,q,h=>⟨rfl,h⟩
 |(j,x)::a,b,q,h=>by
  simp only[gk,du]at h ⊢;by_cases d:j=q
  ·simp[d]at h
  ·simp only[d,nE]at h ⊢;exact adR a b q h
def fP.Tz(h:fP P K N M β g c w){β':Nat->Option Nat}{d:List (Nat×List aS)}(e:∀r b,β' r=some b->β r=some b\/(look d r).isSome=true):
 ∀s id,look g.ids s=some id->look (d++g.H) id=none->∀b,β' id≠some b:=by
 intro s id a l b i;let⟨k,j⟩:=adR _ _ _ l;rcases e id b i with ah|ah
 ·exact h.fresh s id a j b ah
 ·rw[k]at ah;cases ah
def B3(h:fP P K N M β g c w)(b2:eP P tt=true){UJ:Array Oper}(m4:UJ.toList=ops)(a:lh (e0 P) tt N ops g o=some (.go g'))(ca:∀q,q∈g'.aC->q){Q:Exit->Act->World->Prop}{next:Act->World->Prop}
 (R:∀b_ b z j,fP P K N z j g' b_ b->next ⟨b_,K.ds⟩ b):
 if Region.wanted o (yielded UJ c)then o.wp P ⟨c,K.ds⟩ w next Q\/(o.asks P ⟨c,K.ds⟩ w/\LetsOut Q)else next ((⟨c,K.ds⟩:Act).put o.dst undef) w:=by
 unfold lh at a;split at a
 case h_1=>cases a
 rename_i p hp;have hw:=adQ h m4 hp;split at a
 ·cases a
 ·rw[fe]at a;split at a<;>cases a
 rename_i f aB
 dsimp only at a
 by_cases k:f_ c p
 ·rw[eI (
   hw.2 k)]
  refine .inl ?_;have F:=adP (g:=g) (ops:=ops) ⟨h,k,b2⟩ aB
  -- Lh follows once jX value is there
  have main:(∀q,q∈f.aC->q)/\∀v b,BN P K M β g f c v b->next ((⟨c,K.ds⟩:Act).put o.dst v) b:=by
   split at a
   ·rename_i n;let⟨W,a⟩:=U5 a;have Gl:p=[]:=by simpa using W
    subst Gl;cases a;refine⟨λq O=>Gk h k<|ca _<|kA _<|jk.2 ⟨q,O,rfl⟩,?_⟩
    rintro v b ⟨z,j,L,J,B,u,_⟩
    rw[n];exact R c b z j ⟨u,h.size,h.Tz B,λs q d l=>⟨λk=>(((h.cond s q d l).1 k).mono L).Sl J,(h.cond s q d l).2⟩⟩
   ·rename_i t n;let⟨l,a⟩:=U5 a;simp only[cb,ph]at l;have S:t<c.size:=by rw[h.size];exact l.1
    rcases p with _|⟨x,TA⟩<;>dsimp only at a
    ·cases a;refine⟨λq O=>Gk h k<|ca _<|kA _<|jk.2 ⟨q,O,rfl⟩,?_⟩
     rintro v b ⟨z,j,L,J,B,u,F⟩
     rw[n];refine R _ b z j ⟨?_,by simpa using h.size,h.Tz B,Ty h.cond l.2 L J⟩
     cases I:f.e with
     |none=>exact u.drop
     |some e=>
      let⟨h1,h2⟩:=F e I;exact u.put S h1<|λT av=>h2 T _ av
    ·split at a
     ·rename_i e I U qI;let⟨A,a⟩:=U5 a;simp only[cb,gK,kb,hh]at A;cases a;refine⟨λq O=>Gk h k<|ca _<|kA _<|jk.2 ⟨q,O,rfl⟩,?_⟩
      rintro v b ⟨z,j,L,J,B,u,F⟩
      rw[n];let⟨h1,_⟩:=F e I
      have X:∀y,y∈x::TA->y.1≠t:=λy b9 e=>by
       have:=A.1 y b9
       rw[e]at this;simp at this
      refine R _ b z j ⟨?_,by simpa using h.size,by have:=h.Tz B;rw[U]at this;exact this,λs q d m=>?_⟩
      ·have:after g f={env:=g.env,H:=g.H,aD:=g.aD}:=by unfold after;rw[qI,U,A.2];rfl
       rw[this]at u;exact u.drop
      ·rw[du]at m;by_cases r:t=s
       ·rw[eI r]at m;cases m;subst r;rw[Tx X];refine⟨λ_=>?_,λhn=>absurd k hn⟩
        have:(c.setIfInBounds t v).getD t undef=v:=by simp[S]
        rw[this];exact h1
       ·rw[de r]at m;exact Ty h.cond l.2 L J s q d m
     ·cases a
  let⟨aor,Y⟩:=main;rcases F aor with⟨v,b,i,E⟩|⟨I,b,i,E⟩|⟨fn,vs,i,yS⟩
  ·unfold Oper.wp;rw[B2,i];exact Y v b E
  ·unfold Oper.wp;rw[B2,i];exact Y undef b E
  ·unfold Oper.wp;rw[B2,i];refine yS.mono ?_
   rintro e b ⟨v,rfl,E⟩
   exact Y v b E
 ·have aos:Region.wanted o (yielded UJ c)=false:=by
   rw[sw];exact λbf=>k<|hw.1 bf
  rw[aos];simp only[iO,nE];split at a
  ·rename_i n;let⟨W,a⟩:=U5 a;have Gl:p=[]:=by simpa using W
   subst Gl;exact absurd (λx Z=>by cases Z) k
  ·rename_i t n;let⟨l,a⟩:=U5 a;simp only[cb,ph]at l;rcases p with _|⟨x,TA⟩<;>dsimp only at a
   ·exact absurd (λx Z=>by cases Z) k
   ·split at a
    ·rename_i e I U qI;let⟨A,a⟩:=U5 a;simp only[cb,gK,kb,hh]at A;cases a;rw[n]
     have X:∀y,y∈x::TA->y.1≠t:=λy b9 e=>by
      have:=A.1 y b9
      rw[e]at this;simp at this
     refine R _ w M β ⟨h.bB.drop,by simpa using h.size,h.fresh,λs q d m=>?_⟩
     rw[du]at m;by_cases r:t=s
     ·rw[eI r]at m;cases m;subst r;rw[Tx X];refine⟨λbf=>absurd bf k,λ_=>?_⟩
      have S:t<c.size:=by rw[h.size];exact l.1
      simp[S]
     ·rw[de r]at m;exact Ty h.cond l.2 (Mem.le_refl _) (λ_ _ h=>h) s q d m
    ·cases a
end
section
variable {P:Program} {K:Ctx} {N E:Nat} {M:Mem} {β:Nat->Option Nat} {st:aA} {g g':dt} {d:Array Value} {w:World} {o:Oper} {f:mO} {p:Path} {tt:dI} {ops:List Oper}
def adS(h:fP P K N M β g d w)(J:eP P tt=true){UJ:Array Oper}(t:UJ.toList=ops){x:V}{st:aA}{m:List Prop}(a:lh (e0 P) tt N ops g o=some (.bv x st m))(H:∀q,q∈m->q){Q:Exit->Act->World->Prop}{next:Act->World->Prop}
 (k:∀e l c,tq P K N (.bv x) st e l c->Q e l c):
 if Region.wanted o (yielded UJ d)then o.wp P ⟨d,K.ds⟩ w next Q\/(o.asks P ⟨d,K.ds⟩ w/\LetsOut Q)else next ((⟨d,K.ds⟩:Act).put o.dst undef) w:=by
 unfold lh at a;split at a
 case h_1=>cases a
 rename_i p A;have hw:=adQ h t A;split at a
 ·cases a
 ·rename_i y U T I;let⟨r,a⟩:=U5 a;have R:p=[]:=by simpa using r
  subst R;cases a;have j:f_ d []:=λx z=>by cases z
  rw[eI<|hw.2 j];refine .inl ?_;have u:=adP (g:=g) (ops:=ops) ⟨h,j,J⟩ I;rcases u (λq L=>H q<|kA _ L) with⟨v,b,i,rfl⟩|⟨fn,S,b,n⟩
  ·unfold Oper.wp;rw[B2,b];exact k _ _ _ ⟨v,rfl,rfl,M,β,i,h.bB.rM λs e B=>⟨e,B,rfl⟩⟩
  ·unfold Oper.wp;rw[B2,b];refine n.mono ?_
   rintro e c ⟨v,O,rfl,i,F⟩
   exact k _ _ _ ⟨v,rfl,rfl,O,β,i,F⟩
 ·dsimp only at a
  repeat' (first|(split at a)|(rw[fe]at a)|(cases a;done))
def aot{b:hC}(a:lh b tt N ops g o=some (.go g')):∀q,q∈g.aC->q∈g'.aC:=by
 intro q c;unfold lh at a;split at a
 case h_1=>cases a
 split at a
 ·cases a
 ·rw[fe]at a;split at a<;>cases a
 ·dsimp only at a
  repeat' (first|(split at a)|(rw[fe]at a)|(cases a;exact kF _ c)|(cases a;done))
def aou{c:hC}{x:V}{st:aA}{b:List Prop}(a:lh c tt N ops g o=some (.bv x st b)):∀q,q∈g.aC->q∈b:=by
 intro q e;unfold lh at a;split at a
 case h_1=>cases a
 split at a
 ·cases a
 ·rw[fe]at a;split at a<;>cases a;exact kF _ e
 ·dsimp only at a
  repeat' (first|(split at a)|(rw[fe]at a)|(cases a;done))
def adT:uV->List Prop
 |.go g=>g.aC
 |.bv _ _ a=>a
def TB{e:hC}:∀{l:List Oper} {g:dt} {fin:uV},li e tt N ops l g=some fin->∀q,q∈g.aC->q∈adT fin
 |[],g,fin,h,q,a=>by simp[li]at h;subst h;exact a
 |o::l,g,fin,h,q,a=>by
  simp only[li]at h;split at h
  ·rename_i g' c;exact TB h q<|aot c q a
  ·cases fin with
   |go g'=>exact absurd h (by intro i;rename_i b;exact b _ i)
   |bv x st j=>exact aou h q a
def TC(u:eP P tt=true){UJ:Array Oper}(m:UJ.toList=ops){Q:Exit->Act->World->Prop}{fin:uV}(a:∀q,q∈adT fin->q)
 (t:match fin with
  |.go g'=>∀r b y i,fP P K N y i g' r b->Q .normal ⟨r,K.ds⟩ b
  |.bv x st _=>∀e n b,tq P K N (.bv x) st e n b->Q e n b):
 ∀(l:List Oper) (k:Nat) (g:dt) (d:Array Value) (w:World) (M:Mem) (β:Nat->Option Nat),(∀j,l[j]? = ops[k+j]?)->fP P K N M β g d w->li (e0 P) tt N ops l g=some fin->
  wpOps P UJ Q (List.range' k l.length) ⟨d,K.ds⟩ w
 |[],k,g,d,w,M,β,_,h,c=>by
  simp[li]at c;subst c;exact t d w M β h
 |o::l,k,g,d,w,M,β,z,h,c=>by
  have B:UJ[k]? = some o:=by
   have:=z 0
   simp at this
   rw[<-tY,m];exact this.symm
  simp only[mX,vo,wpOps,B];simp only[li]at c;split at c
  ·rename_i g' A;refine B3 h u m A (λq J=>a q<|TB c q J)<|λr b y i I=>?_
   exact TC u m a t l (k+1) g' r b y i (λj=>by have:=z<|j+1;simpa[pR,wa 1 j]using this) I c
  ·cases fin with
   |go g'=>exact absurd c (by intro F;rename_i s;exact s _ F)
   |bv x st L=>exact adS h u m c a (λe n b H=>t e n b H)
def a8(P:Program)(N E:Nat)(c:Code)(Q:cA->aA->Prop)(st:aA):Prop:=
 ∀(K:Ctx),(∀r b,K.hE r=some b->r<E)->∀(a:Act) (w:World),tq P K N .normal st .normal a w->c.wp P (λe k j=>∃i h,tq P K N i h e k j/\Q i h) a w
def a8.mono{c:Code}{Q e:cA->aA->Prop}(h:a8 P N E c Q st)(m:∀b st',Q b st'->e b st'):a8 P N E c e st:=
 λK l a w i=>wp_mono (h K l a w i) λ_ _ _ ⟨b,st',k,j⟩=>⟨b,st',k,m _ _ j⟩
@[reducible] def cA.then (next : aA -> Prop) (Q : cA -> aA -> Prop) : cA -> aA -> Prop
 |.normal,st=>next st
 |e,st=>Q e st
@[reducible] def cA.inBlock (id : Nat) (Q : cA -> aA -> Prop) : cA -> aA -> Prop
 |.exit i,st=>if i=id then Q .normal st else Q (.exit i) st
 |e,st=>Q e st
def a8.seq{x y:Code}{Q:cA->aA->Prop}(h:a8 P N E x (cA.then (a8 P N E y Q) Q) st):a8 P N E (.seq x y) Q st:=by
 intro K l a w n;refine wp_seq<|wp_mono (h K l a w n) ?_
 rintro e q m ⟨r,b,k,j⟩
 cases r with
 |normal=>
  obtain⟨rfl,c⟩:=k;exact j K l q m ⟨rfl,c⟩
 |exit i=>obtain⟨rfl,c⟩:=k;exact⟨.exit i,b,⟨rfl,c⟩,j⟩
 |ret=>obtain⟨rfl,c⟩:=k;exact⟨.ret,b,⟨rfl,c⟩,j⟩
 |bv x=>obtain⟨v,rfl,c⟩:=k;exact⟨.bv x,b,⟨v,rfl,c⟩,j⟩
def a8.skip{Q:cA->aA->Prop}(h:Q .normal st):a8 P N E .skip Q st:=λ_ _ _ _ a=>wp_skip ⟨.normal,st,a,h⟩
def a8.label{l:Nat}{Q:cA->aA->Prop}(h:Q .normal st):a8 P N E (.label l) Q st:=λ_ _ _ _ a=>wp_label ⟨.normal,st,a,h⟩
def a8.exit{id:Nat}{Q:cA->aA->Prop}(h:Q (.exit id) st):a8 P N E (.exit id) Q st:=λ_ _ _ _ a=>wp_exit ⟨.exit id,st,⟨rfl,a.2⟩,h⟩
def a8.ret{Q:cA->aA->Prop}(h:Q .ret st):a8 P N E .ret Q st:=λ_ _ _ _ a=>wp_ret ⟨.ret,st,⟨rfl,a.2⟩,h⟩
def a8.block{id:Nat}{c:Code}{Q:cA->aA->Prop}(h:a8 P N E c (cA.inBlock id Q) st):a8 P N E (.block id c) Q st:=by
 intro K r a w n;refine wp_block<|wp_mono (h K r a w n) ?_
 rintro e t s ⟨q,b,m,k⟩
 cases q with
 |normal=>obtain⟨rfl,j⟩:=m;exact⟨.normal,b,⟨rfl,j⟩,k⟩
 |exit i=>
  obtain⟨rfl,j⟩:=m;by_cases l:i=id
  ·simp only[cA.inBlock,l,nY]at k;simp only[Exit.inBlock,l,nY];exact⟨.normal,b,⟨rfl,j⟩,k⟩
  ·simp only[cA.inBlock,l,nE]at k;simp only[Exit.inBlock,l,nE];exact⟨.exit i,b,⟨rfl,j⟩,k⟩
 |ret=>obtain⟨rfl,j⟩:=m;exact⟨.ret,b,⟨rfl,j⟩,k⟩
 |bv x=>obtain⟨v,rfl,j⟩:=m;exact⟨.bv x,b,⟨v,rfl,j⟩,k⟩
def a8.cond{c:Nat}{x y:Code}{Q:cA->aA->Prop}(b:Bool)(own:Option TypeId)(k:look st.env c=some ⟨.v<|.bool b,own⟩)(l:b=true->a8 P N E x Q st)(m:b=false->a8 P N E y Q st):a8 P N E (.cond (.tmp c) x y) Q st:=by
 intro K i a w e;let⟨_,_,_,M,β,dc⟩:=id e;have j:a.eval (.tmp c) = .bool b:=rT<|dc.dp (.slot c) _ k;exact wp_cond_split j (λh=>l h K i a w e) (λh=>m h K i a w e)
def a8.loop{c:Code}{Q:cA->aA->Prop}{σ:Type}(I:Nat->σ->aA->Prop)(q:∀n s st,I n s st->∃m,n=m+1/\a8 P N E c (cA.then (λh=>∃F,I m F h) Q) st)
 {n:Nat} {s:σ} {st:aA} (Z:I n s st):a8 P N E (.loop c) Q st:=by
 intro K dJ a w L b k O
 have J:∀n s st a w,I n s st->tq P K N .normal st .normal a w->
  ∃e y r,(∃z h,tq P K N z h e y r/\Q z h)/\Arrives P (lone (b.at a (.code c :: .inLoop c::k)) O w) b k O e y r:=by
  intro n;induction n with
  |zero=>
   intro s st a w H _;let⟨m,Y,_⟩:=q 0 s st H;omega
  |succ n aE=>
   intro s st a w H L;let⟨m,Y,Tq⟩:=q (n+1) s st H;have:m=n:=by omega
   subst this;let⟨e,B,A,⟨z,h,u,t⟩,l⟩:=Tq K dJ a w L b (.inLoop c::k) O;cases z with
   |normal=>
    obtain⟨rfl,j⟩:=u;let⟨F,W⟩:=t;let⟨U,T,S,R,X⟩:=aE F h B A W ⟨rfl,j⟩;exact⟨U,T,S,R,.of_steps (Steps.trans l<|.one step_inLoop) X⟩
   |exit i=>obtain⟨rfl,j⟩:=u;exact⟨_,B,A,⟨.exit i,h,⟨rfl,j⟩,t⟩,.pass (x:=.inLoop c) rfl (λ_ _=>.inl<|by simp) l⟩
   |ret=>obtain⟨rfl,j⟩:=u;exact⟨_,B,A,⟨.ret,h,⟨rfl,j⟩,t⟩,.pass (x:=.inLoop c) rfl (λ_ _=>.inl<|by simp) l⟩
   |bv x=>obtain⟨v,rfl,j⟩:=u;exact⟨_,B,A,⟨.bv x,h,⟨v,rfl,j⟩,t⟩,.pass (x:=.inLoop c) rfl (λ_ _=>.inl<|by simp) l⟩
 let⟨e,y,r,am,l⟩:=J n s st a w Z L;exact⟨e,y,r,am,.of_steps (.one step_loop) l⟩
end
def B5(tt:dI)(st:aA):ResultVar->Option D
 |.tmp t=>(look st.env t).map (·.d)
 |.cell a t=>match look st.env a,look tt t with
  |some ⟨.ptr r b,_⟩,some e=>match look st.H r with
   |some c=>bif e.k.isAgg then(bif Nat.ble (b+e.size) c.length then some (ox<|((c.drop b).take e.size).map (·.d))else none) else(c[b]?).map (·.d)
   |none=>none
  |_,_=>none
def adV(tt:dI)(st:aA):List ResultVar->Option (D×Option TypeId)
 |[.tmp t]=>(look st.env t).map λe=>(e.d,e.own)
 |[x]=>(B5 tt st x).map (·,none)
 |xs=>(mapM' (B5 tt st) xs).map λa=>(.cw a,none)
def leave(tt:dI)(E:Nat)(b:List ResultVar)(st:aA):Option (Out×List (List aS)):=
 match adV tt st b,boxes st.H (List.range E) with
 |some (d,own),some a=>bif below E d&&a.all (uW E)then some (.ret d own,a)else none
 |_,_=>none
def LM(E:Nat)(H:List<|Nat×List aS):Option (List<|List aS):=
 match boxes H (List.range E) with
 |some a=>bif a.all (uW E)then some a else none
 |none=>none
def vg(tt:dI)(E c:Nat):List ResultVar->aA->Option (Out×List (List aS))
 |[.cell a t],g=>match look g.env a,look tt t with
  |some ⟨.ptr r b,_⟩,some e=>match look g.H r,boxes g.H (List.range E) with
   |some f,some h=>
    bif (((((e.k.isAgg&&Nat.ble (b+e.size) f.length)&&wB (marks c) (marksOf 0<|(f.drop b).take e.size))&&Nat.ble E r)&&below E (ox<|((f.drop b).take e.size).map (·.d)))&&h.all (uW E)) then
     some (.ret (ox<|((f.drop b).take e.size).map (·.d))<|some c,h)else none
   |_,_=>none
  |_,_=>none
 |_,_=>none
def pX(H:List<|List aS):List (List aS):=H.map λb=>b.map λe=>{d:=e.d}
def vh(tt:dI)(E:Nat)(d:List ResultVar)(R:Out->List (List aS)->Prop):cA->aA->Prop
 |.normal,b=>∃o a,(leave tt E d b=some (o,a)\/∃c,vg tt E c d b=some (o,a))/\R o a
 |.ret,b=>∃o a,(leave tt E d b=some (o,a)\/∃c,vg tt E c d b=some (o,a))/\R o a
 |.bv x,b=>∃a,LM E b.H=some a/\R (.bv x) (pX a)
 |.exit _,_=>False
section
variable {P:Program} {K:Ctx} {N E:Nat} {M:Mem} {β:Nat->Option Nat} {st:aA} {g:Array Value} {w:World} {tt:dI}
def B6(g:Array Value):ResultVar->Sem Value
 |.tmp t=>pure<|g.getD t undef
 |.cell a t=>do loadVar t (<-asAddr (g.getD a undef))
def adW(h:bh P K M β st g w)(R:eP P tt=true){x:ResultVar}{d:D}(f:B5 tt st x=some d):
 ∃v,(B6 g x).run P w = .ok v w/\cg M β v d:=by
 cases x with
 |tmp t=>
  simp only[B5,dC]at f;obtain⟨e,k,rfl⟩:=f;exact⟨_,rfl,h.dp (.slot t) e k⟩
 |cell a t=>
  simp only[B5]at f;split at f
  case h_2=>cases f
  rename_i r off own aK I U;let⟨l⟩:=et R U;split at f
  case h_2=>cases f
  rename_i Q o;let⟨b,q,j⟩:=qF<|h.dp (.slot a) _ I;simp only[ch]at j;let⟨bc,W,T,B,A,hlen,_,_,J,Y⟩:=h.box r Q o;rw[q]at B;cases B
  have n:∀{u:Value},(Instr.loadAt t<|.pointer<|some ⟨b,off,none⟩).run P w = .ok u w->(do loadVar t (<-asAddr (g.getD a undef)):Sem Value).run P w = .ok u w:=by
   intro u F;rw[j];simpa[Instr.loadAt,Instr.sureAddr,asAddr]using F
  rw[fe]at f;split at f
  ·rename_i s;let⟨p,f⟩:=U5 f;simp only[pn]at p;cases f;refine⟨_,n<|K_ (P:=P) l (off:=off) A (by omega) s,?_⟩
   refine BK (by simp;omega) (λv j=>J v<|lE<|mI j)<|λi v c j z=>?_
   rw[gV,dC]at z;obtain⟨e,k,rfl⟩:=z;rw[ix]at j k;split at j
   ·rename_i H;rw[eI H,jl]at k;rw[jl]at j;have:=h.dp (.cell r<|off+i) e (by simp[aA.at,o,k])
    simpa[ch,q,cell_of_heap A,j]using this
   ·cases j
  ·rename_i s;simp only[dC]at f;obtain⟨e,k,rfl⟩:=f;let⟨Z,S,X,v,m,y,L,O⟩:=Sp h o k;rw[q]at m;cases m;refine⟨v,n<|Sz (P:=P) l (by rw[cell_of_heap y,L])<|by simpa using s,?_⟩
   have:=h.dp (.cell r off) e (by simp[aA.at,o,k])
   rwa [O]at this
def adY(h:bh P K M β st g w)(k:eP P tt=true):∀{xs:List ResultVar} {ds:List D},mapM' (B5 tt st) xs=some ds->
 ∃b:List Value,(xs.mapM<|B6 g).run P w = .ok b w/\b.length=ds.length/\
  ∀(i:Nat) v d,b[i]? = some v->ds[i]? = some d->cg M β v d
 |[],ds,a=>by simp[mapM']at a;subst a;exact⟨[],rfl,rfl,by simp⟩
 |x::xs,ds,a=>by
  simp only[mapM']at a;split at a
  case h_2=>cases a
  rename_i d q hd m;cases a;let⟨v,l,n⟩:=adW h k hd;let⟨b,j,p,o⟩:=adY h k m;refine⟨v::b,?_,by simp[p],λi u c e f=>?_⟩
  ·simp only[Aw,Sem.run_bind,l,Result.andThen_ok,j,Sem.run_pure]
  ·cases i with
   |zero=>simp at e f;subst e;subst f;exact n
   |succ i=>simp at e f;exact o i u c e f
def aoB{H:List (Nat×List aS)}{E:Nat}{H':List (List aS)}(h:boxes H (List.range E)=some H'):H'.length=E/\∀r,r<E->look H r=H'[r]? /\ (H'[r]?).isSome=true:=by
 let⟨b,a⟩:=yD h;exact⟨by simpa using b,λr c=>a r r<|by simp[c]⟩
def bh.leave(h:bh P K M β st g w){H':List (List aS)}(X:boxes st.H (List.range E)=some H')(U:H'.all (uW E)=true)(dJ:∀r b,K.hE r=some b->r<E){v:Value}{d:D}{own:Option TypeId}
 (Y:cg M β v d) (hd:below E d=true) (gA:∀T,own=some T->∃l,oA P K M β {env:=hX l st.env,H:=st.H,aD:=st.aD} g w (.slot 0) v T/\True):
 ∃ z,bh P K M z {env:=[(0,{d,own})],H:=dm 0 H',aD:=E} #[v] w:=by
 let⟨c,J⟩:=aoB X;have h1:=h.Gj #[undef]
 have m:∀r f,look (dm 0 H') r=some f->r<E/\look st.H r=some f:=by
  intro r f a;rw[o8]at a;have x:r<E:=by have:=(eR.1 a).1;omega
  exact⟨x,by rw[(J r x).1];exact a⟩
 have Z:E<=st.aD\/E=0:=by
  by_cases h0:E=0
  ·exact .inr h0
  ·let⟨y,k⟩:=J (E-1) (by omega)
   let⟨f,er⟩:=ve.1 k;rw[er]at y;let⟨b,_,_,j,_⟩:=h.box _ f y;have:=h.lt _ b j
   exact .inl (by omega)
 have y:bh P K M β {env:=[],H:=dm 0 H',aD:=st.aD} #[undef] w:=by
  refine h1.sub rfl (λl e c=>?_)<|λr f a=>⟨f,(m r f a).2,rfl⟩
  cases l with
  |slot s=>simp[aA.at,look]at c
  |cell r i=>
   simp only[aA.at]at c ⊢;cases a:look (dm 0 H') r with
   |none=>simp[a]at c
   |some f=>simp[a]at c;exact⟨e,by simp[(m r f a).2,c],rfl,λ_ h=>h⟩
 -- jX slot
 have k:bh P K M β {env:=[(0,{d,own})],H:=dm 0 H',aD:=st.aD} #[v] w:=by
  have F:=y.put (t:=0) (v:=v) (e:={d,own}) (by simp) Y<|λT n=>?_
  ·simpa using F
  ·let⟨l,A,_⟩:=gA T n;refine⟨A.own,λh3 e I b p B _ j o=>?_,λb r f j a=>A.unbox b r f j (m r f a).2⟩
   cases h3 with
   |slot s=>simp[aA.at,look]at p
   |cell r i=>
    simp only[aA.at]at p;cases a:look (dm 0 H') r with
    |none=>simp[a]at p
    |some f=>
     simp[a]at p;exact A.apart (.cell r i) e I b (by simp[aA.at,(m r f a).2,p]) B (by simp) j o
 refine⟨λr=>if r<E then β r else none,?_⟩
 have q:∀l e,({env:=[(0,{d,own})],H:=dm 0 H',aD:=st.aD}:aA).at l=some e->ch #[v] w (λr=>if r<E then β r else none) l=ch #[v] w β l:=by
  intro l e c;cases l with
  |slot s=>rfl
  |cell r i=>
   simp only[aA.at]at c;cases a:look (dm 0 H') r with
   |none=>simp[a]at c
   |some f=>simp[ch,(m r f a).1]
 have hbl:∀l e,({env:=[(0,{d,own})],H:=dm 0 H',aD:=st.aD}:aA).at l=some e->below E e.d=true:=by
  intro l e c;cases l with
  |slot s=>
   simp only[aA.at,du]at c;split at c
   ·cases c;exact hd
   ·simp[look]at c
  |cell r i=>
   simp only[aA.at]at c;cases a:look (dm 0 H') r with
   |none=>simp[a]at c
   |some f=>
    simp[a]at c;rw[o8]at a;rw[gK]at U;exact St (U f<|hA a) c
 constructor
 ·intro l e c;rw[q l e c];exact(k.dp l e c).acs (λr a=>by simp[a])<|hbl l e c
 ·intro l e T c n;rw[q l e c];exact k.own l e T c n
 ·intro l Q e S T I b c n O B j o;rw[q l e c]at j;rw[q Q S O]at o;exact k.uniq l Q e S T I b c n O B j o
 ·intro l e T b r f c n j a;rw[q l e c]at j;have:=k.unbox l e T b r f c n j a
  simpa[(m r f a).1]using this
 ·intro r f a;let⟨b,W,T,ay,aO⟩:=k.box r f a;exact⟨b,W,T,by simpa[(m r f a).1]using ay,aO⟩
 ·intro r R b f u a L j o;exact k.inj r R b f u a L (by simpa[(m r f a).1]using j) (by simpa[(m R u L).1]using o)
 ·intro r b j;by_cases x:r<E
  ·exact x
  ·simp[x]at j
 ·exact k.mem
 ·exact k.m0
 ·exact k.frame
 ·intro r b j;simp[dJ r b j,k.ia r b j]
 ·exact k.il
 ·exact k.gz
def bh.era{env:List (Nat×aS)}{H:List (List aS)}{n:Nat}(h:bh P K M β {env:=env,H:=dm 0 H,aD:=n} g w):bh P K M β {env:=env,H:=dm 0<|pX H,aD:=n} g w:=by
 refine h.sub rfl (λl e a=>?_)<|λr m d=>?_
 ·cases l with
  |slot s=>exact⟨e,a,rfl,λ_ h=>h⟩
  |cell r i=>
   simp only[aA.at,o8,pX,gV]at a ⊢;cases c:H[r]? with
   |none=>simp[c]at a
   |some b=>
    simp only[c,lC,sO,gV,dC]at a;obtain⟨j,f,rfl⟩:=a;exact⟨j,by simpa using f,rfl,λT k=>by cases k⟩
 ·simp only[o8,pX,gV,dC]at d ⊢;obtain⟨b,c,rfl⟩:=d;exact⟨b,c,by simp⟩
def Gp{fn:Func}{E:Nat}{c:Array Value}{w':World}{st':aA}{M':Mem}{β':Nat->Option Nat}{o:Out}{H':List (List aS)}(F:eP P tt=true)(U:∀r b,K.hE r=some b->r<E)(k:bh P K M' β' st' c w')
 (f:Ab.leave tt E fn.results.toList st'=some (o,H')):
 ∃v,(results fn c).run P w' = .ok v w'/\∃z M' β',Ending.returned v=tk o z/\bh P K M' β' {env:=je o,H:=dm 0 H',aD:=E} #[z] w':=by
 unfold Ab.leave at f;split at f
 case h_2=>cases f
 rename_i d own H1 a I;rw[fe]at f;split at f
 case isFalse=>cases f
 rename_i y;simp only[cb]at y;cases f
 -- jX value of jX results
 have W:∃v,(results fn c).run P w' = .ok v w'/\cg M' β' v d/\∀T,own=some T->∃l,oA P K M' β' {env:=hX l st'.env,H:=st'.H,aD:=st'.aD} c w' (.slot 0) v T/\True:=by
  have u:∀{vs:List Value},(fn.results.toList.mapM<|B6 c).run P w' = .ok vs w'->
   (results fn c).run P w' = .ok (if h:vs.length=1 then vs[0]else .tuple ⟨vs⟩) w':=by
   intro vs j
   have a:results fn c=(do let vs <-fn.results.mapM (B6 c);pure (if h:vs.size=1 then vs[0]else .tuple vs)):=by
    unfold results
    congr 2
   rw[a,show fn.results=⟨fn.results.toList⟩from rfl,AA]
   simp only[Sem.run_bind,Sem.run_map,j,Result.andThen_ok,Sem.run_pure];simp
  unfold adV at a;split at a
  ·rename_i t Y;simp only[dC,ll]at a;obtain⟨e,A,rfl,rfl⟩:=a;have L:=k.dp (.slot t) e A;refine⟨c.getD t undef,?_,L,λT Z=>⟨[t],k.hand A Z<|.slot 0,trivial⟩⟩
   have:=u (vs:=[c.getD t undef]) (by rw[Y];rfl)
   simpa using this
  ·rename_i x n s;simp only[dC,ll]at a;obtain⟨dY,J,rfl,rfl⟩:=a;obtain⟨v,O,q⟩:=adW k F J;refine⟨v,?_,q,by simp⟩
   have:=u (vs:=[v]) (by rw[s];simp only[Aw,List.mapM_nil,Sem.run_bind,O,Result.andThen_ok,Sem.run_pure])
   simpa using this
  ·simp only[dC,ll]at a;obtain⟨S,B,rfl,rfl⟩:=a;obtain⟨i,j,f,q⟩:=adY k F B;refine⟨.tuple ⟨i⟩,?_,.cw i S f q,by simp⟩
   have n:i.length≠1:=by
    rename_i h1 Q;rw[f,(wH B).1];intro X;obtain⟨x,s⟩:=List.length_eq_one_iff.1 X;exact Q x s
   have:=u j
   simpa[n]using this
 obtain⟨v,m,q,R⟩:=W;obtain⟨Gq,p⟩:=k.leave I y.2 U q y.1 R;exact⟨v,m,v,M',Gq,rfl,p⟩
def adZ{H:List (Nat×List aS)}{r:Nat}{cs:List aS}:∀{l:List Nat},(∀x,x∈l->x≠r)->boxes ((r,cs)::H) l=boxes H l
 |[],_=>rfl
 |x::l,h=>by
  have c:=adZ (H:=H) (cs:=cs) (l:=l) λy b=>h y (by simp[b])
  have a:=h x (by simp)
  simp only[boxes,c,du,de<|Ne.symm a]
def ad0{fn:Func}{E:Nat}{s:Array Value}{w':World}{st':aA}{M':Mem}{β':Nat->Option Nat}{o:Out}{H':List (List aS)}(b2:eP P tt=true)(dJ:∀r b,K.hE r=some b->r<E)(hs:bh P K M' β' st' s w')
 {c:Nat} (l:Ab.vg tt E c fn.results.toList st'=some (o,H')):
 ∃v,(results fn s).run P w' = .ok v w'/\∃ku M' β',Ending.returned v=tk o ku/\bh P K M' β' {env:=je o,H:=dm 0 H',aD:=E} #[ku] w':=by
 unfold Ab.vg at l;split at l
 case h_2=>cases l
 rename_i a t az;split at l
 case h_2=>cases l
 rename_i r off ec f ha yT;split at l
 case h_2=>cases l
 rename_i m H1 Y lx;let⟨A,l⟩:=U5 l;simp only[cb,pn]at A;let⟨⟨⟨⟨⟨hG,L⟩,hm⟩,aCw⟩,X⟩,nV⟩:=A;cases l;let⟨I⟩:=et b2 yT;let⟨b,Q,k⟩:=qF<|hs.dp (.slot a) _ ha;simp only[ch]at k;let⟨bc,p,T,bV,S,hlen,_,_,hF,mr⟩:=hs.box r m Y;rw[Q]at bV;cases bV;have pS:=SU hm;have B:((m.drop off).take f.size).length=f.size:=by simp;omega
 have lS:=pP m off (((m.drop off).take f.size).map λe=>({d:=e.d}:aS)) (by rw[jz,B];exact L)
 have Z:∀j,j<f.size->((m.drop off).take f.size)[j]? = m[off+j]? := λj n=>by rw[ix,eI n,jl]
 let⟨kn,r4⟩:=hs.acZ (T:=c) (size:=f.size) (off:=off) Y Q S hF hlen (U0:=setAt m off<|((m.drop off).take f.size).map λe=>{d:=e.d}) (λx q=>by
  rw[pS]at q;let⟨_,e,u,ah⟩:=FY _ 0 x q;rw[pN]at u;have W:x.1<f.size:=by rw[<-B];exact(eR.1 u).1
  exact⟨W,e,by rw[<-Z x.1 W];exact u,ah⟩) lS.1 (λj a7 n=>by
  rw[lS.2]at n;rw[jz,B]at n;by_cases F:off<=j/\j<off+f.size
  ·rw[eI F,gV,dC]at n;obtain⟨bN,h1,rfl⟩:=n;rw[Z _<|by omega,show off+(j-off)=j by omega]at h1
   exact⟨bN,h1,rfl,λU R=>by cases R⟩
  ·rw[de F]at n;refine⟨a7,n,rfl,λU R=>⟨R,λx q am_=>?_⟩⟩
   rw[pS]at q;let⟨_,e,u,_⟩:=FY _ 0 x q;rw[pN]at u;have W:x.1<f.size:=by rw[<-B];exact(eR.1 u).1
   omega)<|.slot 0
 have y:(B6 s<|.cell a t).run P w' = .ok (.agg ⟨(p.drop off).take f.size⟩) w':=by
  have hu:=K_ (P:=P) (w:=w') I (off:=off) S (by omega) hG
  show(do loadVar t (<-asAddr (s.getD a undef)):Sem Value).run P w'=_
  rw[k];simpa[Instr.loadAt,Instr.sureAddr,asAddr]using hu
 have f':cg M' β' (.agg ⟨(p.drop off).take f.size⟩) (ox<|((m.drop off).take f.size).map (·.d)):=by
  refine BK (by simp;omega) (λv k=>hF v<|lE<|mI k)<|λi v c k A=>?_
  rw[gV,dC]at A;obtain⟨e,O,rfl⟩:=A;rw[ix]at k O;split at k
  ·rename_i F;rw[eI F,jl]at O;rw[jl]at k;have:=hs.dp (.cell r<|off+i) e (by simp[aA.at,Y,O])
   simpa[ch,Q,cell_of_heap S,k]using this
  ·cases k
 have J:(results fn s).run P w' = .ok (.agg ⟨(p.drop off).take f.size⟩) w':=by
  have J:results fn s=(do let p <-fn.results.mapM (B6 s);pure (if h:p.size=1 then p[0]else .tuple p)):=by
   unfold results
   congr 2
  rw[J,show fn.results=⟨fn.results.toList⟩from rfl,AA,az]
  simp only[Aw,List.mapM_nil,Sem.run_bind,Sem.run_map,y,Result.andThen_ok,Sem.run_pure];simp
 let⟨o7,z⟩:=kn.leave (H':=H') (own:=some c) (by
  rw[adZ (λx q=>by have:=xv.1 q;omega)];exact lx) nV dJ f' X (λT av=>by cases av;exact⟨[],r4,trivial⟩)
 exact⟨_,J,_,M',o7,rfl,z⟩
def ad1{fn:Func}{E:Nat}{f:Array Value}{w':World}{st':aA}{M':Mem}{β':Nat->Option Nat}{o:Out}{H':List (List aS)}(i:eP P tt=true)(e:∀r b,K.hE r=some b->r<E)(d:bh P K M' β' st' f w')
 (j:Ab.leave tt E fn.results.toList st'=some (o,H')\/∃c,Ab.vg tt E c fn.results.toList st'=some (o,H')):
 ∃v,(results fn f).run P w' = .ok v w'/\∃a M' β',Ending.returned v=tk o a/\bh P K M' β' {env:=je o,H:=dm 0 H',aD:=E} #[a] w':=
 j.elim (Gp i e d) fun⟨_,h⟩=>ad0 i e d h
def bh.yU{P:Program}{K:Ctx}{M:Mem}{β:Nat->Option Nat}{st:aA}{g:Array Value}{w:World}(h:bh P K M β st g w)(ds:List Deferred):bh P {K with ds:=ds} M β st g w:=
 ⟨h.dp,h.own,h.uniq,h.unbox,h.box,h.inj,h.lt,h.mem,h.m0,h.frame,h.ia,h.il,h.gz⟩
def TD{args:List D}{k:List (Nat×TypeId)}{H:List (List aS)}{vs:List Value}{n:Nat}(hlen:vs.length=args.length)(c:bh P K M β {env:=iW args k,H:=dm 0 H,aD:=H.length} ⟨vs⟩ w):
 bh P K M β {env:=iW args k,H:=dm 0 H,aD:=H.length} (⟨vs⟩++Array.replicate n undef) w:=by
 have f:∀l e,({env:=iW args k,H:=dm 0 H,aD:=H.length}:aA).at l=some e->ch (⟨vs⟩++Array.replicate (n) undef) w β l=ch ⟨vs⟩ w β l:=by
  intro l e a;cases l with
  |slot s=>
   simp only[aA.at,iW,o8,F4,dC]at a;let⟨d,hd,_⟩:=a;have t:s<vs.length:=by have:=(eR.1 hd).1;omega
   simp only[ch,fi];rw[Array.getElem?_append_left<|by simpa using t]
  |cell r i=>rfl
 constructor
 ·intro l e a;rw[f l e a];exact c.dp l e a
 ·intro l e T a j;rw[f l e a];exact c.own l e T a j
 ·intro l o e q T z b a j m u h p;rw[f l e a]at h;rw[f o q m]at p;exact c.uniq l o e q T z b a j m u h p
 ·intro l e T b r x a j h y;rw[f l e a]at h;exact c.unbox l e T b r x a j h y
 ·exact c.box
 ·exact c.inj
 ·exact c.lt
 ·exact c.mem
 ·exact c.m0
 ·exact c.frame
 ·exact c.ia
 ·exact c.il
 ·exact c.gz
def tl.of_wp {f : FuncId} {fn : Func} {c : Code} {args : List D} {O : List (Nat × TypeId)} {H : List (List aS)} {R : Out -> List (List aS) -> Prop} (T : eP P tt = true) (U : P.funcs[f]? = some fn) (A : fn.body = some c) (X : decide (fn.name = "runtime.NumGoroutine") = false)
 (Z:Nat.ble args.length fn.ntmps=true) (h:a8 P fn.ntmps H.length c (vh tt H.length fn.results.toList R) {env:=iW args O,H:=dm 0 H,aD:=H.length}):tl P f args O H R:=by
 refine⟨⟨fn,U,by rw[A];rfl,by simpa using X⟩,?_⟩
 intro co w t M β hlen TE TF
 suffices key:∀K:Ctx,K.ds=[]->bh P K M β {env:=iW args O,H:=dm 0 H,aD:=H.length} ⟨t⟩ w->(∀r b,β r=some b->K.hE r=some b)->
  Calls P f ⟨t⟩ w λe w'=>∃o j v d a,R o j/\e=tk o v/\bh P K d a {env:=je o,H:=dm 0 j,aD:=H.length} #[v] w' from
  (key {co with ds:=[]} rfl (TE.yU []) TF).mono λe w' ⟨o,j,v,d,a,m,l,z⟩=>⟨o,j,v,d,a,m,l,z.yU co.ds⟩
 intro K B dc hY;have I:∀r b,K.hE r=some b->r<H.length:=λr b A=>dc.lt r b<|dc.ia r b A
 simp only[pn]at Z;have S:=TD (n:=fn.ntmps-(⟨t⟩:Array Value).size) hlen dc;have Q:=h K I {tmps:=⟨t⟩++Array.replicate (fn.ntmps-(⟨t⟩:Array Value).size) undef,defers:=[]} w ⟨rfl,B.symm,by simp;omega,M,β,S⟩
 refine calls_of_wp U A<|wp_mono Q ?_
 have y:∀(s:Act) (w':World) (st':aA) d a,bh P K d a st' s.tmps w'->(∃o j,(Ab.leave tt H.length fn.results.toList st'=some (o,j)\/∃c,Ab.vg tt H.length c fn.results.toList st'=some (o,j))/\R o j)->
  ∃v,(results fn s.tmps).run P w' = .ok v w'/\∃o j q d a,R o j/\Ending.returned v=tk o q/\bh P K d a {env:=je o,H:=dm 0 j,aD:=H.length} #[q] w':=by
  intro s w' st' d a p ⟨o,j,k,F⟩;rcases k with k|⟨_,k⟩
  ·let⟨v,m,q,L,J,l,z⟩:=Gp T I p k;exact⟨v,m,o,j,q,L,J,F,l,z⟩
  ·let⟨v,m,q,L,J,l,z⟩:=ad0 T I p k;exact⟨v,m,o,j,q,L,J,F,l,z⟩
 rintro e s w' ⟨e4,st',m,l⟩
 cases e4 with
 |normal=>
  obtain⟨rfl,hd,_,d,a,p⟩:=m;exact⟨hd.trans B,y s w' st' d a p l⟩
 |ret=>
  obtain⟨rfl,hd,_,d,a,p⟩:=m;exact⟨hd.trans B,y s w' st' d a p l⟩
 |exit i=>exact l.elim
 |bv x=>
  obtain⟨v,rfl,hd,d,a,f',p⟩:=m;let⟨H1,k,F⟩:=l;unfold LM at k;split at k
  case h_2=>cases k
  rename_i H2 W;let⟨Y,k⟩:=U5 k;cases k;let⟨Gq,u⟩:=p.leave (own:=none) W Y I (.v v x f') rfl (by simp)
  exact⟨hd.trans B,.bv x,pX H1,v,d,Gq,F,rfl,u.era⟩
end
def iX:List Prop->Prop
 |[]=>True
 |p::l=>p/\iX l
def iX.mem:∀{l:List Prop},iX l->∀q,q∈l->q
 |[],_,q,h=>by cases h
 |p::l,a,q,h=>by
  rcases gh.1 h with rfl|h
  ·exact a.1
  ·exact iX.mem a.2 q h
section
variable {P:Program} {N E:Nat} {st:aA} {tt:dI}
def a8.cut{x y:Code}{Q:cA->aA->Prop}(J:aA->Prop)(b:a8 P N E x (cA.then J Q) st)(a:∀st',J st'->a8 P N E y Q st'):a8 P N E (.seq x y) Q st:=
 a8.seq (b.mono λc st' h=>by cases c<;>first|exact a st' h|exact h)
def cA.qS{next:aA->Prop}{Q:cA->aA->Prop}(h:next st):cA.then next Q .normal st:=h
def cA.ad2{next:aA->Prop}{Q:cA->aA->Prop}{x:V}(h:Q (.bv x) st):cA.then next Q (.bv x) st:=h
def cA.aoG{Q:cA->aA->Prop}{i:Nat}(h:Q .normal st):cA.inBlock i Q (.exit i) st:=by simpa[cA.inBlock]using h
def cA.aoH{Q:cA->aA->Prop}{i j:Nat}(a:Nat.beq j i=false)(h:Q (.exit j) st):cA.inBlock i Q (.exit j) st:=by
 have:j≠i:=by rintro rfl;simp at a
 simpa[cA.inBlock,this]using h
def aoI {f : FuncId} {fn : Func} {c : Code} {args : List D} {a : List (Nat × TypeId)} {H H2 : List (List aS)} {out : Out} (g : eP P tt = true) (i : P.funcs[f]? = some fn) (d : fn.body = some c) (b : decide (fn.name = "runtime.NumGoroutine") = false)
 (e:Nat.ble args.length fn.ntmps=true) (h:a8 P fn.ntmps H.length c (vh tt H.length fn.results.toList λo j=>o=out/\j=H2) {env:=iW args a,H:=dm 0 H,aD:=H.length}):gn P f args a H out H2:=
 tl.of_wp g i d b e h
def ad3{a:List ResultVar}{out:Out}{H2:List (List aS)}(h:leave tt E a st=some (out,H2)):vh tt E a (λo b=>o=out/\b=H2) .ret st:=⟨out,H2,.inl h,rfl,rfl⟩
def TG{a:List ResultVar}{out:Out}{H2:List (List aS)}(h:leave tt E a st=some (out,H2)):vh tt E a (λo b=>o=out/\b=H2) .normal st:=⟨out,H2,.inl h,rfl,rfl⟩
def aoJ{a:List ResultVar}{out:Out}{H2:List (List aS)}{c:Nat}(h:vg tt E c a st=some (out,H2)):vh tt E a (λo b=>o=out/\b=H2) .ret st:=⟨out,H2,.inr ⟨c,h⟩,rfl,rfl⟩
def aoK{b:List ResultVar}{x:V}{H2:List (List aS)}(h:(LM E st.H).map pX=some H2):vh tt E b (λo a=>o = .bv x/\a=H2) (.bv x) st:=by
 rw[dC]at h;let⟨a,d,c⟩:=h;exact⟨a,d,rfl,c⟩
end
def ao{α:Type}(b:Bool)(x:Option α):Option α:=bif b then x else none
def mx{α:Type}{b:Bool}{x:Option α}{r:α}(h:ao b x=some r):b=true/\x=some r:=by
 cases b
 ·cases h
 ·exact⟨rfl,h⟩
def bind_some{α β:Type}{x:Option α}{f:α->Option β}{r:β}(h:Option.bind x f=some r):∃a,x=some a/\f a=some r:=jM.1 h
def dy{α:Type}{b:Bool}{x y z:α}(a:b=true)(h:(bif b then x else y)=z):x=z:=by subst a;exact h
def gZ{c x:Bool}(h:(!c||x)=true)(a:c=true):x=true:=by subst a;simpa using h
def fu{c x:Bool}(h:(c||x)=true)(a:c=false):x=true:=by subst a;simpa using h
def ai{α:Type}[Inhabited α](k:Nat)(e:α->V)(l:List α):V:=.bP k l.length λi=>e (l.getD i default)
def jg(x:V):ij x x:=λ_ _ h=>h
def r5{k n:Nat}{g g':Nat->V}(h:∀i,i<n->g i=g' i):ij (.bP k n g) (.bP k n g'):=by
 intro M v l;cases l with
 |mp=>exact .mp _ _
 |oZ=>exact .oZ _ _ _
 |bP b d k n e g val o m q p r=>
  exact .bP b d k n e g' val o (λi a=>by rw[<-h i a];exact m i a) q p (λi j c a f=>r i j c a (by rw[h i a];exact f))
def aoL{α:Type}[Inhabited α]{k:Nat}{e:α->V}{xs:List V}{l:List α}(h:xs=l.map e)(n:Nat)(a:n=l.length):ij (.bP k n λi=>xs.getD i .hO) (ai k e l):=by
 subst h;subst a;refine r5 λi b=>?_
 simp[List.getD,ed b]
def gp{α:Type}[Inhabited α]{k:Nat}{e:α->V}(l a:List α):ij (.bP k (l.length+a.length) λi=>bif Nat.blt i l.length then e (l.getD i default)else e (a.getD (i-l.length) default)) (ai k e<|l++a):=by
 rw[ai,kv];refine r5 λi c=>?_
 by_cases h:i<l.length
 ·have b:Nat.blt i l.length=true:=by simpa using h
  simp[b,List.getD,iw h]
 ·have b:Nat.blt i l.length=false:=by rw[sw];simpa using h
  simp[b,List.getD,jE<|Nat.le_of_not_lt h]
def ad4(l:List Int)(s:UB):ij (.bP 1 (l.length+s.length) λi=>bif Nat.blt i l.length then .int .u8 (l.getD i default)else .int .u8 (s.getD (i-l.length) 0).toNat) (ai 1 (λx=>.int .u8 x)<|l++s.map λb=>(b.toNat:Int)):=by
 have d:(l++s.map λb=>(b.toNat:Int)).length=l.length+s.length:=by simp
 rw[ai,d];refine r5 λi e=>?_
 by_cases h:i<l.length
 ·have a:Nat.blt i l.length=true:=by simpa using h
  simp[a,List.getD,iw h]
 ·have a:Nat.blt i l.length=false:=by rw[sw];simpa using h
  have c:i-l.length<s.length:=by omega
  simp[a,List.getD,jE<|Nat.le_of_not_lt h,c]
def aoM{α:Type}[Inhabited α]{k:Nat}{e:α->V}(l:List α)(a:Int):ij (.bP k (l.length-a.toNat) λi=>e<|l.getD (a.toNat+i) default) (ai k e<|l.drop a.toNat):=by
 rw[ai,od];exact r5 λi b=>by simp[List.getD]
def aEx{α:Type}[Inhabited α]{k:Nat}{e:α->V}(l:List α)(b:Int)(h:0<=b/\b<=l.length):ij (.bP k b.toNat λi=>e<|l.getD i default) (ai k e<|l.take b.toNat):=by
 have:(l.take b.toNat).length=b.toNat:=by simp;omega
 rw[ai,this];exact r5 λi a=>by simp[List.getD,a]
section
variable {P:Program} {N E:Nat} {st st':aA}
def a8.drop{c:Code}{Q:cA->aA->Prop}(live o:List Nat)(n:Nat)(l:uX live o n st.env st.H st.aD=some st')(k:Nat.ble E n=true)(h:a8 P N E c Q st'):a8 P N E c Q st:=by
 rintro K d a w ⟨f,hd,j,M,β,i⟩
 let⟨m,e⟩:=i.uX l<|λr b g=>pb (d r b g)<|by simpa using k
 exact h K d a w ⟨f,hd,j,M,m,e⟩
end
def all_nil:iX []:=trivial
def all_cons{p:Prop}{l:List Prop}(h:p)(a:iX l):iX (p::l):=⟨h,a⟩
inductive aG(α β:Type) where
 |ret (a:α) (b:β)
 |bv (x:V) (b:β)
def aG.on{α β c:Type}(x:aG α β)(f:α->β->c)(g:V->β->c):c:=
 match x with
 |.ret a b=>f a b
 |.bv x b=>g x b
def gb{b:Bool}(h:b=false):(!b)=true:=by subst h;rfl
def B7{a b:Bool}(h:a=true)(c:b=true):(a&&b)=true:=by subst h;subst c;rfl
inductive lX:List V->List V->Prop where
 |nil:lX [] []
 |cons {x y:V} {xs ys:List V} (h:ij x y) (aa:lX xs ys):lX (x::xs) (y::ys)
def lX.len:∀{xs ys:List V},lX xs ys->xs.length=ys.length
 |_,_,.nil=>rfl
 |_,_,.cons _ a=>by simp[a.len]
def lX.at:∀{xs ys:List V},lX xs ys->∀(i:Nat) {y:V},ys[i]? = some y->∃x,xs[i]? = some x/\ij x y
 |_,_,.nil,i,y,h=>by simp at h
 |_,_,.cons h b,i,y,a=>by
  cases i with
  |zero=>simp at a;subst a;exact⟨_,rfl,h⟩
  |succ i=>simp at a;simpa using b.at i a
def ad5{xs ys:List V}(h:lX xs ys):ij (.agg xs) (.agg ys):=by
 intro M v a;cases a with
 |agg b l e j k=>
  refine .agg b ys (e.trans h.len) j<|λi v c a g=>?_
  let⟨x,d,f⟩:=h.at i g;exact f M v (k i v x a d)
def aoN{k n:Nat}{g g':Nat->V}(h:∀i,i<n->lX (g i).cells (g' i).cells):ij (.bP k n g) (.bP k n g'):=by
 intro M v o;cases o with
 |mp=>exact .mp _ _
 |oZ=>exact .oZ _ _ _
 |bP b d k n e g val q p s r t=>
  refine .bP b d k n e g' val q (λi a=>by rw[<-(h i a).len];exact p i a) s r<|λi j c a l=>?_
  let⟨x,m,f⟩:=(h i a).at j l;exact f M _ (t i j x a m)
inductive nw{α:Type}(e:α->V):List V->List α->Prop where
 |nil:nw e [] []
 |cons {x:V} {y:α} {xs:List V} {ys:List α} (h:lX x.cells (e y).cells) (aa:nw e xs ys):nw e (x::xs) (y::ys)
def nw.len{α:Type}{e:α->V}:∀{xs:List V} {ys:List α},nw e xs ys->xs.length=ys.length
 |_,_,.nil=>rfl
 |_,_,.cons _ a=>by simp[a.len]
def nw.at{α:Type}[Inhabited α]{e:α->V}:∀{xs:List V} {ys:List α},nw e xs ys->∀(i:Nat),i<ys.length->lX (xs.getD i .hO).cells (e<|ys.getD i default).cells
 |_,_,.nil,i,h=>by simp at h
 |_,_,.cons h b,i,a=>by
  cases i with
  |zero=>simpa using h
  |succ i=>simpa using b.at i (by simpa using a)
def LN{α:Type}[Inhabited α]{k:Nat}{e:α->V}{xs:List V}{l:List α}(h:nw e xs l)(n:Nat)(a:n=l.length):ij (.bP k n λi=>xs.getD i .hO) (ai k e l):=by
 subst a;exact aoN λi b=>h.at i b
section
variable {tt:dI} {g1 g2:dt} {p:Path} {o:Oper} {ops:List Oper} {j:hC}
def TI{x:Operand}(h:∀t,x = .tmp t->look g1.env t=look g2.env t/\look g1.cf t=look g2.cf t)(p:Path)(ty:TypeId):rd g1.env g1.cf p tt ty x=rd g2.env g2.cf p tt ty x:=by
 cases x with
 |tmp t=>
  let⟨d,b⟩:=h t rfl;simp only[rd,d,b]
 |const v=>cases v with
  |slice a n c=>cases a<;>cases n<;>cases c<;>rfl
  |_=>rfl
 |global _=>rfl
 |func _=>rfl
def aoP{x:Operand}(h:∀t,x = .tmp t->look g1.env t=look g2.env t):qB g1 x=qB g2 x:=by
 cases x with
 |tmp t=>simp only[qB,h t rfl]
 |_=>rfl
def Gr{α β:Type}{f a:α->Option β}:∀{l:List α},(∀x,x∈l->f x=a x)->mapM' f l=mapM' a l
 |[],_=>rfl
 |x::l,h=>by simp only[mapM',h x<|by simp,Gr (l:=l) λy b=>h y<|by simp[b]]
def TJ{f a:TypeId->Operand->Option D}:∀{l:List Operand} {ts:List TypeId},(∀x,x∈l->∀t,f t x=a t x)->nk f l ts=nk a l ts
 |[],_,_=>by simp[nk]
 |x::l,[],_=>by simp[nk]
 |x::l,t::ts,h=>by simp only[nk,h x (by simp) t,TJ (l:=l) (ts:=ts) λy b=>h y<|by simp[b]]
def jZ(tt:dI)(g:dt)(p:Path)(o:Oper):List Nat:=
 match o.op with
 |.alloc _ |.box _ _=>match o.dst.bind (look g.ids)with |some id=>[id] |none=>[]
 |.load _ a=>match rd g.env g.cf p tt o.type a with |some (.ptr q _)=>[q] |_=>[]
 |.store _ a _=>match rd g.env g.cf p tt o.type a with |some (.ptr q _)=>[q] |_=>[]
 |.call c=>match c.callee with
  |.value x=>match rd g.env g.cf p tt o.type x,nk (rd g.env g.cf p tt) c.args.toList c.argTypes.toList with
   |some (.fn _ b),some d=>qC g.H 2<|dedup<|(d++b).flatMap refs
   |_,_=>[]
  |_=>[]
 |_=>[]
def LO{x:Nat}:∀{l:List Nat},x∈l->x∈dedup l
 |y::l,h=>by
  simp only[dedup];rw[fe];split
  ·rename_i c;rcases gh.1 h with rfl|h
   ·let⟨z,b,a⟩:=tr.1 c;have:x=z:=by simpa using a
    subst this;exact b
   ·exact LO h
  ·rcases gh.1 h with rfl|h
   ·simp
   ·exact qg _ (LO h)
def ad6{H:List (Nat×List aS)}:∀{n:Nat} {l:List Nat} {x:Nat},x∈l->x∈qC H n l
 | 0,_,_,h=>h
 |n+1,_,_,h=>ad6 (n:=n) (LO<|kA _ h)
def ad7{α β:Type}{f a:α->List β}:∀{l:List α},(∀x,x∈l->f x=a x)->l.flatMap f=l.flatMap a
 |[],_=>rfl
 |x::l,h=>by simp only[List.flatMap_cons,h x<|by simp,ad7 (l:=l) λy b=>h y<|by simp[b]]
def TK{H1 H2:List (Nat×List aS)}:∀{n:Nat} {l:List Nat},(∀q,q∈qC H1 n l->look H1 q=look H2 q)->qC H1 n l=qC H2 n l
 | 0,_,_=>rfl
 |n+1,l,h=>by
  simp only[qC]at h ⊢
  have:(l.flatMap λr=>((look H1 r).getD []).flatMap λe=>refs e.d)=l.flatMap λr=>((look H2 r).getD []).flatMap λe=>refs e.d:=
   ad7 λr a=>by rw[h r<|ad6<|LO<|kA _ a]
  rw[<-this];exact TK h
def ad8{H1 H2:List (Nat×List aS)}:∀{l:List Nat},(∀q,q∈l->look H1 q=look H2 q)->boxes H1 l=boxes H2 l
 |[],_=>rfl
 |r::l,h=>by simp only[boxes,h r<|by simp,ad8 (l:=l) λq a=>h q<|by simp[a]]
def ad9{xs:List Operand}{ts:List TypeId}(b:∀t,Operand.tmp t∈xs->look g1.env t=look g2.env t/\look g1.cf t=look g2.cf t):∀a:List Nat,handed tt g1 xs ts a=handed tt g2 xs ts a
 |[]=>rfl
 |i::a=>by
  simp only[handed,ad9 b a];split
  ·rename_i t l c f;let⟨e,d⟩:=b t<|hA c;rw[e,d]
  ·rfl
  ·rfl
def aoR{xs:List Operand}{ts:List TypeId}{f:FuncId}{args:List D}(c:∀t,Operand.tmp t∈xs->look g1.env t=look g2.env t/\look g1.cf t=look g2.cf t)(e:g1.rs=g2.rs)(a:∀q,q∈qC g1.H 2 (dedup<|args.flatMap refs)->look g1.H q=look g2.H q):Bx j tt g1 p xs ts f args=Bx j tt g2 p xs ts f args:=by
 have d:qC g1.H 2 (dedup<|args.flatMap refs)=qC g2.H 2 (dedup<|args.flatMap refs):=TK a;unfold Bx;simp only[<-d,<-e,<-ad8 a,<-λb=>ad9 (tt:=tt) (ts:=ts) c b]
def tu(o:Oper):Bool:=
 match o.op with
 |.alloc _ |.box _ _=>true
 |_=>false
def ad'(a:g1.ids=g2.ids)(b:g1.aD=g2.aD)(c:∀id,o.dst.bind (look g1.ids)=some id->look g1.H id=look g2.H id):pM g1 o=pM g2 o:=by
 unfold pM;rw[<-a,<-b];split
 ·rename_i id h;rw[c id h]
 ·rfl
def TL(B:∀x,x∈o.op.operands.toList->∀t,x = .tmp t->look g1.env t=look g2.env t/\look g1.cf t=look g2.cf t)(h:g1.rs=g2.rs)(M:g1.ids=g2.ids)
 (N:tu o=true->g1.aD=g2.aD) (k:∀q,q∈jZ tt g1 p o->look g1.H q=look g2.H q):step1 j tt ops g1 p o=step1 j tt ops g2 p o:=by
 have R:∀x,x∈o.op.operands.toList->∀p E,rd g1.env g1.cf p tt E x=rd g2.env g2.cf p tt E x:=λx n p E=>TI (B x n) p E
 have O:∀x,x∈o.op.operands.toList->qB g1 x=qB g2 x:=λx n=>aoP λt L=>(B x n t L).1
 cases g:o.op with
 |move x=>simp only[g,Op.operands]at R O;simp only[step1,g,R x<|by simp,O x<|by simp,h]
 |assign x=>simp only[g,Op.operands]at R O;simp only[step1,g,R x<|by simp,O x<|by simp,h]
 |pick c a b=>
  simp only[g,Op.operands]at R O;cases c with
  |tmp c=>simp only[step1,g,R (.tmp c)<|by simp,R a<|by simp,R b<|by simp,h]
  |_=>simp only[step1,g]
 |alloc t=>
  have A:pM g1 o=pM g2 o:=ad' M (N<|by simp[tu,g]) λid z=>k id (by simp[jZ,g,z])
  simp only[step1,g,h,A]
 |box t x=>
  have A:pM g1 o=pM g2 o:=ad' M (N<|by simp[tu,g]) λid z=>k id (by simp[jZ,g,z])
  simp only[g,Op.operands]at R O;simp only[step1,g,R x<|by simp,h,A]
 |build t parts=>
  simp only[g,Op.operands]at R O
  have:mapM' (fun(i,x)=>(rd g1.env g1.cf p tt (uU tt t i) x).map λd=>(i,d)) parts.toList=mapM' (fun(i,x)=>(rd g2.env g2.cf p tt (uU tt t i) x).map λd=>(i,d)) parts.toList:=
   Gr λy w=>by
    let⟨i,x⟩:=y;simp only[R x<|jk.2 ⟨(i,x),w,rfl⟩]
  simp only[step1,g,this,h]
 |buildSlice t len parts=>
  simp only[g,Op.operands]at R O
  have:mapM' (fun(i,x)=>(rd g1.env g1.cf p tt (uU tt t i) x).map λd=>(i,d)) parts.toList=mapM' (fun(i,x)=>(rd g2.env g2.cf p tt (uU tt t i) x).map λd=>(i,d)) parts.toList:=
   Gr λy w=>by
    let⟨i,x⟩:=y;simp only[R x<|jk.2 ⟨(i,x),w,rfl⟩]
  simp only[step1,g,this,h]
 |load t a=>
  simp only[g,Op.operands]at R O;simp only[jZ,g,R a<|by simp]at k
  simp only[step1,g,R a<|by simp,h]
  split
  ·rename_i q F Z u LA;simp only[u]at k;simp only[k q<|by simp]
  ·rfl
  ·rfl
 |store t a x=>
  simp only[g,Op.operands]at R O;simp only[jZ,g,R a<|by simp]at k
  simp only[step1,g,R a<|by simp,R x<|by simp,O x<|by simp,h]
  split
  ·rename_i q F d Z u hd LA;simp only[u]at k;simp only[k q<|by simp]
  ·rfl
 |nilCheck x=>simp only[g,Op.operands]at R O;simp only[step1,g,R x<|by simp,h]
 |binOp Q t x y P=>simp only[g,Op.operands]at R O;simp only[step1,g,R x<|by simp,R y<|by simp,h]
 |unOp Q t x=>simp only[g,Op.operands]at R O;simp only[step1,g,R x<|by simp,h]
 |convert s t x=>simp only[g,Op.operands]at R O;simp only[step1,g,R x<|by simp,h]
 |makeInterface t x=>simp only[g,Op.operands]at R O;simp only[step1,g,R x<|by simp,h]
 |makeFunc fn first K=>
  simp only[g,Op.operands]at R O;cases fn with
  |func f=>
   have:mapM' (rd g1.env g1.cf p tt o.type) K.toList=mapM' (rd g2.env g2.cf p tt o.type) K.toList:=Gr λx n=>R x (by rw[sB];exact kF _ n) _ _
   simp only[step1,g,this,h]
  |_=>simp only[step1,g]
 |slice t x I A J=>
  simp only[g,Op.operands]at R O
  have S:I.map (rd g1.env g1.cf p tt o.type)=I.map (rd g2.env g2.cf p tt o.type):=by
   cases I with
   |none=>rfl
   |some l=>simp[R l<|by simp]
  have T:A.map (rd g1.env g1.cf p tt o.type)=A.map (rd g2.env g2.cf p tt o.type):=by
   cases A with
   |none=>rfl
   |some l=>simp[R l<|by simp]
  have TM:J.map (rd g1.env g1.cf p tt o.type)=J.map (rd g2.env g2.cf p tt o.type):=by
   cases J with
   |none=>rfl
   |some m=>simp[R m<|by simp]
  simp only[step1,g,R x<|by simp,S,T,TM,h]
 |fieldAddr s x f=>simp only[g,Op.operands]at R O;simp only[step1,g,R x<|by simp,h]
 |field s x f=>simp only[g,Op.operands]at R O;simp only[step1,g,R x<|by simp,h]
 |indexAddr t x i=>simp only[g,Op.operands]at R O;simp only[step1,g,R x<|by simp,R i<|by simp,h]
 |index t x i=>simp only[g,Op.operands]at R O;simp only[step1,g,R x<|by simp,R i<|by simp,h]
 |typeAssert x a t ok=>simp only[g,Op.operands]at R O;simp only[step1,g,R x<|by simp,h]
 |extract x i=>simp only[g,Op.operands]at R O;simp only[step1,g,R x<|by simp,h]
 |panic x=>simp only[g,Op.operands]at R O;simp only[step1,g,R x<|by simp]
 |call c=>
  simp only[g,Op.operands,Call.operands]at R O B;cases hc:c.callee with
  |value x=>
   have n:=R x (by simp[hc])
   have u:nk (rd g1.env g1.cf p tt) c.args.toList c.argTypes.toList=nk (rd g2.env g2.cf p tt) c.args.toList c.argTypes.toList:=TJ λy w t=>R y (by rw[sB];exact kF _ w) p t
   simp only[jZ,g,hc,n,u]at k;simp only[step1,g,hc,n,u];split
   ·rename_i f K ds X W;simp only[X,W]at k;exact aoR (λt L=>B (.tmp t) (by rw[sB];exact kF _ L) t rfl) h k
   ·rfl
  |invoke x m=>simp only[step1,g,hc]
  |builtin b=>
   have u:mapM' (λy=>rd g1.env g1.cf p tt o.type y) c.args.toList=mapM' (λy=>rd g2.env g2.cf p tt o.type y) c.args.toList:=Gr λx n=>R x (by rw[sB];exact kF _ n) _ _
   cases b with
   |len=>simp only[step1,g,hc,u,h]
   |min=>simp only[step1,g,hc,u,h]
   |max=>simp only[step1,g,hc,u,h]
   |append=>
    simp only[step1,g,hc,h];split
    ·rename_i t x e sz aCx aCy _ P Y _ _;have U:∀y,y∈[Operand.tmp t,x]->y∈(match c.callee with|.value f => #[f] |.invoke r _ => #[r] |.builtin _ => #[]:Array Operand).toList++c.args.toList:=λy w=>by rw[Y];exact kF _ w
     have lw:∀y,y∈[Operand.tmp t,x]->y∈((match c.callee with|.value f => #[f] |.invoke r _ => #[r] |.builtin _ => #[]:Array Operand)++c.args).toList:=λy w=>by rw[sB];exact U y w
     simp only[R (.tmp t)<|lw _<|by simp,R x<|lw _<|by simp,(B (.tmp t) (lw _<|by simp) t rfl).1]
    ·rfl
   |_=>simp only[step1,g,hc]
 |_=>simp only[step1,g]
end
structure eW where
 dst:Option Nat
 p:Path
 f:mO
 ly:List Nat
 o9:List Nat
 r6:Bool
 rs:List eT
 kd:Nat:=0
 yV:V:=.hO
 r7:List (Nat×List aS):=[]
 wS:List (Nat×List aS):=[]
 pY:Nat:=0
def r8(ops:List Oper)(o:Oper):List Nat:=
 (o.op.operands.toList.filterMap fun|.tmp t=>some t|_=>none)++(match o.guard with
  |some (j,_)=>((ops[j]?).bind (·.dst)).toList
  |none=>[])
def e5(E:eW)(g:dt):dt:=
 match E.dst with
 |none=>{g with env:=hX E.f.ik g.env,H:=E.f.hs++g.H,aD:=g.aD+E.f.fj}
 |some t=>match E.p with
  |[]=>{g with
   env:=match E.f.e with|some e=>(t,e)::hX E.f.ik g.env|none=>del (hX E.f.ik g.env) t
   cf:=del g.cf t,H:=E.f.hs++g.H,aD:=g.aD+E.f.fj}
  |_::_=>match E.f.e with
   |some e=>{g with env:=del g.env t,cf:=(t,E.p,e.d)::del g.cf t}
   |none=>g
def pZ(E:eW):List Nat:=E.dst.toList++E.f.ik
def qT(E:eW):List Nat:=E.f.hs.map (·.1)
def B8{α:Type}:∀(a b:List<|Nat×α) (q:Nat),look (a++b) q=(match look a q with|some x=>some x|none=>look b q)
 |[],_,_=>rfl
 |(j,x)::a,b,q=>by
  simp only[gk,du,B8 a b q];by_cases h:j=q<;>simp[h]
def ad_{α:Type}:∀{a:List (Nat×α)} {q:Nat},q∉a.map (·.1)->look a q=none
 |[],_,_=>rfl
 |(j,x)::a,q,h=>by
  simp only[kz,gh,xn]at h;rw[du,de<|Ne.symm h.1];exact ad_ h.2
section
variable {E:eW} {g g1 g2:dt}
def oF(g1 g2:dt)(t:Nat):Prop:=look g1.env t=look g2.env t/\look g1.cf t=look g2.cf t
def yW(g1 g2:dt)(q:Nat):Prop:=look g1.H q=look g2.H q
def yX{t:Nat}(h:t∉pZ E):oF (e5 E g) g t:=by
 simp only[pZ,jN,xn]at h;unfold oF e5;cases hd:E.dst with
 |none=>simp only[o6,de h.2,tz]
 |some u=>
  have a:u≠t:=by rintro rfl;simp[hd]at h
  cases hp:E.p with
  |nil=>
   dsimp only
   cases he:E.f.e with
   |some e=>simp only[du,de a,o6,de h.2,tb,tz]
   |none=>simp only[o6,de h.2,tb,de a,tz]
  |cons x p=>
   dsimp only
   cases he:E.f.e with
   |some e=>simp only[du,de a,tb,tz]
   |none=>exact⟨rfl,rfl⟩
def TN{t:Nat}(h:oF g1 g2 t):oF (e5 E g1) (e5 E g2) t:=by
 let⟨b,a⟩:=h;unfold oF e5;cases hd:E.dst with
 |none=>simp only[o6,b,a,tz]
 |some u=>
  cases hp:E.p with
  |nil=>
   dsimp only
   cases he:E.f.e with
   |some e=>simp only[du,o6,b,a,tb,tz]
   |none=>simp only[o6,tb,b,a,tz]
  |cons x p=>
   dsimp only
   cases he:E.f.e with
   |some e=>simp only[du,tb,b,a,tz]
   |none=>exact⟨b,a⟩
def TO:(e5 E g).H=E.f.hs++g.H\/(e5 E g).H=g.H:=by
 unfold e5;cases E.dst with
 |none=>exact .inl rfl
 |some u=>
  cases E.p with
  |nil=>exact .inl rfl
  |cons x p=>dsimp only;cases E.f.e<;>exact .inr rfl
def B9{q:Nat}(h:q∉qT E):yW (e5 E g) g q:=by
 unfold yW;rcases TO (E:=E) (g:=g)with h1|h1<;>rw[h1]
 rw[B8,ad_ h]
def TP{q:Nat}(h:yW g1 g2 q):yW (e5 E g1) (e5 E g2) q:=by
 unfold yW at *;unfold e5;cases E.dst with
 |none=>simp only[B8,h]
 |some u=>
  cases E.p with
  |nil=>simp only[B8,h]
  |cons x p=>dsimp only;cases E.f.e<;>exact h
def B'(E:eW):Nat:=
 match E.dst with
 |none=>E.f.fj
 |some _=>match E.p with
  |[]=>E.f.fj
  |_::_=>0
def LP:(e5 E g).aD=g.aD+B' E:=by
 unfold e5 B';cases E.dst with
 |none=>rfl
 |some u=>
  cases E.p with
  |nil=>rfl
  |cons x p=>dsimp only;cases E.f.e<;>rfl
structure Alike(g1 g2:dt):Prop where
 slot:∀t,oF g1 g2 t
 box:∀q,yW g1 g2 q
 aD:g1.aD=g2.aD
 ids:g1.ids=g2.ids
def LQ:(e5 E g).ids=g.ids:=by
 unfold e5;cases E.dst with
 |none=>rfl
 |some u=>
  cases E.p with
  |nil=>rfl
  |cons x p=>dsimp only;cases E.f.e<;>rfl
def Alike.refl:Alike g g:=⟨λ_=>⟨rfl,rfl⟩,λ_=>rfl,rfl,rfl⟩
def Alike.symm(h:Alike g1 g2):Alike g2 g1:=⟨λt=>⟨(h.slot t).1.symm,(h.slot t).2.symm⟩,λq=>(h.box q).symm,h.aD.symm,h.ids.symm⟩
def Alike.trans{a:dt}(h:Alike g1 g2)(b':Alike g2 a):Alike g1 a:=⟨λt=>⟨(h.slot t).1.trans (b'.slot t).1,(h.slot t).2.trans (b'.slot t).2⟩,λq=>(h.box q).trans<|b'.box q,h.aD.trans b'.aD,h.ids.trans b'.ids⟩
def Alike.ap(h:Alike g1 g2):Alike (e5 E g1) (e5 E g2):=
 ⟨λt=>TN<|h.slot t,λq=>TP<|h.box q,(by simp only[LP,h.aD]),by simp only[LQ,h.ids]⟩
def sep(a b:List Nat):Bool:=a.all λx=>!b.any (Nat.beq x)
def yY{a b:List Nat}(h:sep a b=true){x:Nat}(d:x∈a):x∉b:=by
 intro c;have:=gK.1 h x d
 simp only[hh,List.any_eq_false]at this;exact this x c (by simp)
def Gs(E dE:eW):Bool:=
 sep (pZ E) dE.o9&&sep (pZ E) (pZ dE)&&sep (pZ dE) E.o9&&(sep (qT E) dE.ly||Nat.beq E.pY 2&&Nat.beq dE.pY 1)&&sep (qT E) (qT dE)&&(sep (qT dE) E.ly||Nat.beq dE.pY 2&&Nat.beq E.pY 1)&&(!E.r6||Nat.beq (B' dE) 0)&&(!dE.r6||Nat.beq (B' E) 0)
def aoS{E c:eW}(h:sep (pZ E) (pZ c)=true)(f:sep (qT E) (qT c)=true):Alike (e5 E<|e5 c g) (e5 c<|e5 E g):=by
 refine⟨λt=>?_,λq=>?_,?_,by simp only[LQ]⟩
 ·by_cases d:t∈pZ E
  ·have e:=yY h d;have a:oF (e5 E<|e5 c g) (e5 E g) t:=TN<|yX e;have b:oF (e5 c<|e5 E g) (e5 E g) t:=yX e;exact⟨a.1.trans b.1.symm,a.2.trans b.2.symm⟩
  ·have a:oF (e5 E<|e5 c g) (e5 c g) t:=yX d;have b:oF (e5 c<|e5 E g) (e5 c g) t:=TN<|yX d;exact⟨a.1.trans b.1.symm,a.2.trans b.2.symm⟩
 ·by_cases d:q∈qT E
  ·have e:=yY f d;exact(TP (E:=E)<|B9 (E:=c) (g:=g) e).trans (B9 (E:=c) (g:=e5 E g) e).symm
  ·exact(B9 (E:=E) (g:=e5 c g) d).trans (TP (E:=c)<|B9 (E:=E) (g:=g) d).symm
 ·simp only[LP];omega
end
section
variable {tt:dI} {ops:List Oper} {b:hC} {o:Oper} {E:eW} {g g1 g2:dt}
def aea(h:∀t,t∈r8 ops o->oF g1 g2 t):rN ops g1 o=rN ops g2 o:=by
 unfold rN;split
 ·rfl
 ·rename_i j w a;cases az:(ops[j]?).bind (·.dst) with
  |none=>rfl
  |some t=>
   have:=h t (by simp[r8,a,az])
   simp only[this.1,this.2]
def LR:∀{p:Path} {q:Prop},(∀x,x∈p->oF g1 g2 x.1)->under g1 p q=under g2 p q
 |[],_,_=>rfl
 |(t,w)::p,q,h=>by
  have a:=h (t,w) (by simp)
  have d:=LR (p:=p) (q:=q) λx c=>h x (by simp[c])
  have:FF g1.env g1.cf t=FF g2.env g2.cf t:=by unfold FF;rw[a.1,a.2]
  simp only[under,this,d]
def aoT{p:Path}(j:∀x,x∈o.op.operands.toList->∀t,x = .tmp t->look g1.env t=look g2.env t/\look g1.cf t=look g2.cf t)(i:g1.ids=g2.ids)(h:∀q,q∈jZ tt g1 p o->look g1.H q=look g2.H q):jZ tt g1 p o=jZ tt g2 p o:=by
 have R:∀x,x∈o.op.operands.toList->∀p d,rd g1.env g1.cf p tt d x=rd g2.env g2.cf p tt d x:=λx e p d=>TI (j x e) p d
 cases an:o.op with
 |alloc t=>simp only[jZ,an,i]
 |box t x=>simp only[jZ,an,i]
 |load t a=>simp only[an,Op.operands]at R;simp only[jZ,an,R a<|by simp]
 |store t a x=>simp only[an,Op.operands]at R;simp only[jZ,an,R a<|by simp]
 |call c=>
  simp only[an,Op.operands,Call.operands]at R;cases hc:c.callee with
  |value x=>
   have e:=R x (by simp[hc])
   have k:nk (rd g1.env g1.cf p tt) c.args.toList c.argTypes.toList=nk (rd g2.env g2.cf p tt) c.args.toList c.argTypes.toList:=TJ λy n t=>R y (by rw[sB];exact kF _ n) p t
   simp only[jZ,an,hc,e,k]at h ⊢;split
   ·rename_i f r s m l;simp only[m,l]at h;exact TK h
   ·rfl
  |_=>simp only[jZ,an,hc]
 |_=>simp only[jZ,an]
structure TQ(b:hC)(tt:dI)(ops:List Oper)(o:Oper)(E:eW)(g:dt):Prop where
 LS:rN ops g o=some E.p
 st:step1 b tt ops {g with rs:=E.rs} E.p o=some (bif Nat.beq E.kd 0 then .go E.f else .bv E.yV E.r7 E.f.aC)
 aC:∀q,q∈E.f.aC->under g E.p q
 ly:∀q,q∈jZ tt g E.p o->q∈E.ly
 fin:E.kd=1->∀q,q∈E.ly->look g.H q=look E.wS q
def Can(b:hC)(tt:dI)(ops:List Oper)(o:Oper)(E:eW)(g:dt):Prop:=E.kd=2\/TQ b tt ops o E g
def Can.congr(h:Can b tt ops o E g1)(yZ:∀t,t∈r8 ops o++E.p.map (·.1)->t∈E.o9)(j:tu o=E.r6)(d:∀t,t∈E.o9->oF g1 g2 t)(e:∀q,q∈E.ly->yW g1 g2 q)(l:E.r6=true->g1.aD=g2.aD)(f:g1.ids=g2.ids):Can b tt ops o E g2:=by
 rcases h with h|h
 ·exact .inl h
 right
 have i:∀x,x∈o.op.operands.toList->∀t,x = .tmp t->look g1.env t=look g2.env t/\look g1.cf t=look g2.cf t:=by
  rintro x c t rfl
  exact d t<|yZ t<|kA _ (by simp only[r8,jN,Az];exact .inl ⟨_,c,rfl⟩)
 have k:jZ tt g1 E.p o=jZ tt g2 E.p o:=aoT i f<|λq a=>e q<|h.ly q a
 refine⟨?_,?_,λq a=>?_,(by rw[<-k];exact h.ly),λn q a=>(e q a).symm.trans<|h.fin n q a⟩
 ·rw[<-aea (g1:=g1) (g2:=g2) λt r=>d t<|yZ t<|kA _ r];exact h.LS
 ·rw[<-h.st];refine(TL (g1:={g1 with rs:=E.rs}) (g2:={g2 with rs:=E.rs}) i rfl f (λm=>l (by rw[<-j];exact m))<|λq a=>e q ?_).symm
  exact h.ly q a
 ·rw[<-LR (g1:=g1) (g2:=g2) λx c=>d x.1<|yZ _<|kF _<|jk.2 ⟨x,c,rfl⟩]
  exact h.aC q a
def y0(o:Oper)(a:List eT):Nat:=
 match o.op with
 |.load _ _=>match a with
  |.own::_=>2
  |.marks _::_=>0
  |_=>1
 |_=>0
def wT(g1 g2:dt)(q:Nat):Prop:=(look g1.H q).map (·.map (·.d))=(look g2.H q).map (·.map (·.d))
def aeb:∀(cs:List aS) (off:Nat) (e:aS),cs[off]? = some e->(setAt cs off [{d:=e.d}]).map (·.d)=cs.map (·.d)
 |[],off,e,h=>by simp at h
 |c::cs,0,e,h=>by
  simp only[sy,hL]at h;subst h;simp[setAt]
 |c::cs,off+1,e,h=>by
  simp only[kW]at h;simp only[setAt,kz,aeb cs off e h]
def aoU(h:TQ b tt ops o E g)(d:y0 o E.rs=2)(j:E.kd=0)(q:Nat):wT (e5 E g) g q:=by
 have c:=h.st;rw[j]at c;unfold y0 at d;split at d
 case h_2=>cases d
 rename_i t a u;simp only[step1,u,show Nat.beq 0 0=true from rfl,oK]at c
 have nil:E.f.hs=[]->wT (e5 E g) g q:=by
  intro p;unfold wT;rcases TO (E:=E) (g:=g)with h1|h1<;>rw[h1]
  rw[p];rfl
 split at c
 ·rename_i s i z y r;split at c
  ·rename_i n m;rw[fe]at c;split at c
   ·rw[fe]at c;split at c
    ·split at c
     ·rename_i l;rw[l]at d;cases d
     ·simp only[lC,hL,pL.go.injEq]at c;exact nil (by rw[<-c])
    ·cases c
   ·split at c
    ·rename_i e k;split at c
     ·rw[fe]at c;split at c
      ·simp only[hL,pL.go.injEq]at c;unfold wT;rcases TO (E:=E) (g:=g)with h1|h1<;>rw[h1]
       rw[<-c];simp only[gk,iK,du];split
       ·rename_i w;subst w;rw[m];simp only[lC,aeb n i e k]
       ·rfl
      ·cases c
     ·simp only[lC,hL,pL.go.injEq]at c;exact nil (by rw[<-c])
    ·cases c
  ·cases c
 ·rename_i x z y r;rw[fe]at c;split at c
  ·simp only[lC,hL,pL.go.injEq]at c;exact nil (by rw[<-c])
  ·cases c
 ·cases c
def aoW{p:Path}{rs:List eT}{t:TypeId}{a:Operand}(an:o.op = .load t a)(fa:∀l,rs ≠ .own::l)(B_:∀c l,rs ≠ .marks c::l)(R:rd g1.env g1.cf p tt o.type a=rd g2.env g2.cf p tt o.type a)(TR:∀q off,rd g2.env g2.cf p tt o.type a=some (.ptr q off)->wT g1 g2 q):
 step1 b tt ops {g1 with rs:=rs} p o=step1 b tt ops {g2 with rs:=rs} p o:=by
 simp only[step1,an,R];split
 ·rename_i q off aK af b1;have hd:=TR q off af;unfold wT at hd;cases h1:look g1.H q with
  |none=>
   rw[h1]at hd;cases h2:look g2.H q with
   |none=>rfl
   |some c2=>rw[h2]at hd;cases hd
  |some c1=>
   rw[h1]at hd;cases h2:look g2.H q with
   |none=>rw[h2]at hd;cases hd
   |some c2=>
    rw[h2]at hd;simp only[lC,hL]at hd;have hlen:c1.length=c2.length:=by have:=congrArg List.length hd;simpa using this
    have aoX:((c1.drop off).take aK.size).map (·.d)=((c2.drop off).take aK.size).map (·.d):=by rw[List.map_take,List.map_drop,hd,<-List.map_drop,<-List.map_take]
    have jW:(c1[off]?).map (·.d)=(c2[off]?).map (·.d):=by rw[<-gV,hd,gV]
    simp only[hlen,aoX];cases aK.k.isAgg with
    |true=>
     cases rs with
     |nil=>rfl
     |cons x l=>
      cases x with
      |marks=>exact absurd rfl (B_ _ l)
      |_=>rfl
    |false=>
     simp only[qe];cases aec:c1[off]? with
     |none=>
      rw[aec]at jW;cases LT:c2[off]? with
      |none=>rfl
      |some e2=>rw[LT]at jW;cases jW
     |some e1=>
      rw[aec]at jW;cases LT:c2[off]? with
      |none=>rw[LT]at jW;cases jW
      |some e2=>
       rw[LT]at jW;simp only[lC,hL]at jW;cases rs with
       |nil=>cases e1.own<;>cases e2.own<;>simp[jW]
       |cons r l=>
        cases r with
        |own=>exact absurd rfl (fa l)
        |val x=>cases e1.own<;>cases e2.own<;>simp[jW]
        |raw=>cases e1.own<;>cases e2.own<;>simp[jW]
        |marks=>exact absurd rfl (B_ _ l)
        |call u v z=>cases e1.own<;>cases e2.own<;>simp[jW]
 ·rfl
 ·rfl
def Can.aed(h:Can b tt ops o E g1)(aa:y0 o E.rs=1)(hk:E.kd=0)(yZ:∀t,t∈r8 ops o++E.p.map (·.1)->t∈E.o9)(hs:∀t,t∈E.o9->oF g1 g2 t)(hb:∀q,wT g1 g2 q):Can b tt ops o E g2:=by
 rcases h with h|h
 ·exact .inl h
 right
 have ei:∀x,x∈o.op.operands.toList->∀t,x = .tmp t->look g1.env t=look g2.env t/\look g1.cf t=look g2.cf t:=by
  rintro x hx t rfl
  exact hs t<|yZ t<|kA _ (by simp only[r8,jN,Az];exact .inl ⟨_,hx,rfl⟩)
 unfold y0 at aa;split at aa
 case h_2=>cases aa
 rename_i t a an
 have fa:∀l,E.rs ≠ .own::l:=by
  intro l e;rw[e]at aa;cases aa
 have B_:∀c l,E.rs ≠ .marks c::l:=by
  intro c l e;rw[e]at aa;cases aa
 have R:rd g1.env g1.cf E.p tt o.type a=rd g2.env g2.cf E.p tt o.type a:=TI (ei a<|by simp[an,Op.operands]) _ _
 have nv:jZ tt g1 E.p o=jZ tt g2 E.p o:=by simp only[jZ,an,R]
 refine⟨?_,?_,λq am=>?_,(by rw[<-nv];exact h.ly),λqR=>by rw[hk]at qR;cases qR⟩
 ·rw[<-aea (g1:=g1) (g2:=g2) λt az=>hs t<|yZ t<|kA _ az];exact h.LS
 ·rw[<-h.st];exact(aoW an fa B_ R λq off _=>hb q).symm
 ·rw[<-LR (g1:=g1) (g2:=g2) λx hx=>hs x.1<|yZ _<|kF _<|jk.2 ⟨x,hx,rfl⟩]
  exact h.aC q am
end
end Go.Ab

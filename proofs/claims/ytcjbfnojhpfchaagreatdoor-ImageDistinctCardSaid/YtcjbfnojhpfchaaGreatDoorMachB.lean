/- The abstract machine: a step of code over plain data, proved against the model. -/
import Derived.Laws.Build
import Derived.Laws.IdiomStrings
import Derived.Test.YtcjbfnojhpfchaaGreatDoorMachA
set_option linter.all false
namespace Go.Ab
def oR:Nat→List D→List (Nat×TypeId)→List aM
 |_,[],_=>[]
 |i,d::l,dw=>{d,own:=look dw i}::oR (i+1) l dw
def gj(args:List D)(dw:List (Nat×TypeId)):List (Nat×aM):=cl 0 (oR 0 args dw)
def vv:∀(l:List D) (k i:Nat) (dw:List (Nat×TypeId)),(oR k l dw)[i]? = (l[i]?).map λd=>({d,own:=look dw (k+i)}:aM)
 |[],k,i,dw=>by simp [oR]
 |d::l,k,i,dw=>by
  cases i with
  |zero=>simp [oR]
  |succ i=>
   simp only [oR,List.getElem?_cons_succ,vv l (k+1) i dw];rw [show k+1+i=k+(i+1)by omega]
def gG:Out→List (Nat×aM)
 |.ret d own=>[(0,{d,own})]
 |.aW x=>[(0,{d:=.v x})]
def pB:Out→Value→Ending
 |.ret _ _,v=>.returned v
 |.aW _,v=>.panicked [{v,recovered:=false}]
def nJ(P:Program)(f:FuncId)(args:List D)(dw:List (Nat×TypeId))(H:List (List aM))(R:Out→List (List aM)→Prop):Prop:=
 (∃ fd, P.funcs[f]? = some fd ∧ fd.body.isSome = true ∧ fd.name ≠ "runtime.NumGoroutine") ∧
 ∀(K:Ctx) (w:World) (vs:List Value) (M:Mem) (β:Nat→Option Nat),vs.length=args.length→
  bo P K M β {env:=gj args dw,H:=cl 0 H,aJ:=H.length} ⟨vs⟩ w→(∀r b,β r=some b→K.jl r=some b)→
  Calls P f ⟨vs⟩ w λe w'=>∃o bq v M' β',R o bq∧e=pB o v∧bo P K M' β' {env:=gG o,H:=cl 0 bq,aJ:=H.length} #[v] w'
def nJ.mono{P:Program}{f:FuncId}{args:List D}{dw:List (Nat×TypeId)}{H:List (List aM)}{R Ku:Out→List (List aM)→Prop}(h:nJ P f args dw H R)(ai:∀o bq,R o bq→Ku o bq):nJ P f args dw H Ku:=
 ⟨h.1,λK w vs M β ab hs hb=>(h.2 K w vs M β ab hs hb).mono λ_ _ ⟨o,bq,v,M',β',Z,ad,al⟩=>⟨o,bq,v,M',β',ai _ _ Z,ad,al⟩⟩
def fK(P:Program)(f:FuncId)(args:List D)(dw:List (Nat×TypeId))(H:List (List aM))(o:Out)(ch:List (List aM)):Prop:=nJ P f args dw H λo' bq=>o'=o∧bq=ch
def h6(P:Program):fw:={call:=fK P,eq:=C1 P}
def Kv{α:Type}:∀(l:List α) (n i:Nat),look (cl n l) i=if n≤i then l[i-n]? else none
 |[],n,i=>by simp [cl,look]
 |x::l,n,i=>by
  simp only [cl,de,Kv l (n+1) i];by_cases Z:n=i
  ·subst Z;simp
  ·rw [if_neg Z];by_cases ad:n≤i
   ·rw [if_pos (by omega),if_pos ad]
    obtain⟨j,rfl⟩:∃j,i=n+1+j:=⟨i-(n+1),by omega⟩
    rw [show n+1+j-(n+1)=j by omega,show n+1+j-n=j+1 by omega]
    simp
   ·rw [if_neg (by omega),if_neg ad]
def k_{α:Type}(l:List α)(i:Nat):look (cl 0 l) i=l[i]? := by simp [Kv]
def yL:∀{ρ:List Nat} {r j:Nat},idx ρ r=some j→ρ[j]? = some r
 |[],_,_,h=>by simp [idx]at h
 |x::l,r,j,h=>by
  simp only [idx]at h;rw [Bool.cond_eq_ite]at h;split at h
  ·rename_i hb;cases h;simp at hb;simp [hb]
  ·simp only [Option.map_eq_some_iff]at h;obtain⟨k,hk,rfl⟩:=h;simpa using yL hk
def yM:∀{l:List Nat},k3 l=true→∀(i j:Nat) r,l[i]? = some r→l[j]? = some r→i=j
 |[],_,i,_,_,h,_=>by simp at h
 |x::l,h,i,j,r,hi,hj=>by
  simp only [k3,Bool.and_eq_true,Bool.not_eq_true',List.any_eq_false]at h;have hx:∀k,l[k]? = some x→False:=λk hk=>by have:=h.1 x (List.mem_of_getElem? hk);simp at this
  cases i<;>cases j
  ·rfl
  ·simp at hi hj;subst hi;exact(hx _ hj).elim
  ·simp at hi hj;subst hj;exact(hx _ hi).elim
  ·simp at hi hj;rw [yM h.2 _ _ r hi hj]
def qZ{H:List (Nat×List aM)}:∀{ρ:List Nat} {bs:List (List aM)},boxes H ρ=some bs→bs.length=ρ.length∧∀(j r:Nat),ρ[j]? = some r→look H r=bs[j]? ∧ (bs[j]?).isSome=true
 |[],bs,h=>by simp [boxes]at h;subst h;simp
 |x::ρ,bs,h=>by
  simp only [boxes]at h;split at h
  case h_2=>cases h
  rename_i b m6 hb iY;cases h;obtain⟨Z,ad⟩:=qZ iY;refine⟨by simp [Z],λj r hj=>?_⟩
  cases j with
  |zero=>simp at hj;subst hj;simp [hb]
  |succ j=>simp at hj;simpa using ad j r hj
def s6{f:Nat→Option Nat}:∀{b bl:List aM},k2 f b=some bl→bl.length=b.length∧∀(i:Nat) a1,bl[i]? = some a1→∃e,b[i]? = some e∧dE f e.d=some a1.d∧a1.own=e.own
 |[],bl,h=>by simp [k2]at h;subst h;simp
 |e::l,bl,h=>by
  simp only [k2]at h;split at h
  case h_2=>cases h
  rename_i e1 ga he ab;cases h;obtain⟨Z,ad⟩:=s6 ab;refine⟨by simp [Z],λi a1 hi=>?_⟩
  cases i with
  |zero=>
   simp at hi;subst hi
   simp only [yo,Option.map_eq_some_iff]at he;obtain⟨d,hd,rfl⟩:=he;exact⟨e,by simp,hd,rfl⟩
  |succ i=>simp at hi;simpa using ad i a1 hi
def TQ{f:Nat→Option Nat}{d:D}{r off:Nat}{u:TypeId}(h:dE f d=some (.bZ r off u)):∃cZ,d = .bZ cZ off u:=by
 cases d with
 |bZ cZ adv Kw=>
  simp only [dE,Option.map_eq_some_iff]at h;obtain⟨s,_,ad⟩:=h;cases ad;exact⟨cZ,rfl⟩
 |v x=>simp [dE]at h
 |eg x=>simp [dE]at h
 |full k n get=>simp [dE]at h
 |ptr cZ o=>simp [dE]at h
 |fn g c=>simp [dE]at h
 |agg c=>simp [dE]at h
 |cc c=>simp [dE]at h
def jm.dE{P:Program}{T:TypeId}{n:Nat}{f:Nat→Option Nat}{b bl:List aM}(h:jm P T n b)(ai:k2 f b=some bl):jm P T n bl:=λe he r off u hd=>by
 obtain⟨i,hi,rfl⟩:=List.getElem_of_mem he;obtain⟨bW,Z,ad,_⟩:=(s6 ai).2 i _ (List.getElem?_eq_getElem hi);rw [hd]at ad;obtain⟨cZ,al⟩:=TQ ad;exact h bW (List.mem_of_getElem? Z) cZ off u al
def s7{f:Nat→Option Nat}:∀{bs m6:List (List aM)},ig f bs=some m6→m6.length=bs.length∧∀(j:Nat) bl,m6[j]? = some bl→∃b,bs[j]? = some b∧k2 f b=some bl
 |[],m6,h=>by simp [ig]at h;subst h;simp
 |b::l,m6,h=>by
  simp only [ig]at h;split at h
  case h_2=>cases h
  rename_i cH ga hb ab;cases h;obtain⟨Z,ad⟩:=s7 ab;refine⟨by simp [Z],λj bl hj=>?_⟩
  cases j with
  |zero=>simp at hj;subst hj;exact⟨b,by simp,hb⟩
  |succ j=>simp at hj;simpa using ad j bl hj
def Dw{H:List (Nat×List aM)}:∀{ρ:List Nat} {bs:List (List aM)},bs.length=ρ.length→k3 ρ=true→∀r,
 (∀(j:Nat),ρ[j]? = some r→look (jk ρ bs++H) r=bs[j]?)∧((∀(j:Nat),ρ[j]? ≠ some r)→look (jk ρ bs++H) r=look H r)
 |[],bs,_,_,r=>by simp [jk]
 |x::ρ,[],h,_,_=>by simp at h
 |x::ρ,b::bs,h,hn,r=>by
  have yy:k3 ρ=true:=by simp [k3]at hn;exact hn.2
  obtain⟨Z,ad⟩:=Dw (H:=H) (ρ:=ρ) (bs:=bs) (by simpa using h) yy r
  simp only [jk,List.cons_append,de];refine⟨λj hj=>?_,λhj=>?_⟩
  ·by_cases hx:x=r
   ·have:j=0:=yM hn j 0 r hj (by simp [hx])
    subst this;simp [hx]
   ·cases j with
    |zero=>simp at hj;exact(hx hj).elim
    |succ j=>simp at hj;rw [if_neg hx];simpa using Z j hj
  ·have hx:x≠r:=λe=>hj 0 (by simp [e])
   rw [if_neg hx];exact ad λj=>by simpa using hj (j+1)
section
variable {P:Program} {K:Ctx} {N:Nat} {M:Mem} {β:Nat→Option Nat} {st:az} {g:cG} {tmps:Array Value} {w:World} {o:Oper} {f:ji} {p:Path} {tt:c7} {bL:fw} {ops:List Oper}
def vw(ρ os:List Nat):Loc→Prop
 |.cell r _=>r∈ρ
 |.slot t=>t∈os
def nK(st:az)(tmps:Array Value)(w:World)(β:Nat→Option Nat)(ρ os:List Nat)(b:Nat):Prop:=
 (∃r,r∈ρ∧β r=some b)∨∃l e T,vw ρ os l∧st.at l=some e∧e.own=some T∧gp (b0 tmps w β l)=some b
open Classical in
noncomputable def iE(M:Mem)(β:Nat→Option Nat)(st:az)(tmps:Array Value)(w:World)(ρ os:List Nat):Ctx:=
 {vb:=M,F:=λb=>if nK st tmps w β ρ os b then none else w.heap[b]?,jl:=λj=>(ρ[j]?).bind β,gn:=(w.os,w.output)}
structure Handed(st:az)(tmps:Array Value)(vs:List Value)(hd:List (Nat×Option Nat×TypeId)):Prop where
 some:∀i t T,(i,Option.some t,T)∈hd→∃e,st.at (.slot t)=Option.some e∧e.own=Option.some T∧vs[i]? = Option.some (tmps.getD t undef)
 none:∀i T,(i,Option.none,T)∈hd→vs[i]? = Option.some (.slice Option.none 0 0)
 inj:∀i j t T T',(i,Option.some t,T)∈hd→(j,Option.some t,T')∈hd→i=j
def pC(hd:List (Nat×Option Nat×TypeId)):List (Nat×TypeId):=hd.map λx=>(x.1,x.2.2)
def nL(hd:List (Nat×Option Nat×TypeId)):List Nat:=hd.filterMap λx=>x.2.1
def TR{hd:List (Nat×Option Nat×TypeId)}{i:Nat}{T:TypeId}(h:look (pC hd) i=some T):∃o,(i,o,T)∈hd:=by
 have:=oI h
 simp only [pC,List.mem_map]at this;obtain⟨⟨a,o,T'⟩,Z,ad⟩:=this;cases ad;exact⟨o,Z⟩
def TS{hd:List (Nat×Option Nat×TypeId)}{i t:Nat}{T:TypeId}(h:(i,some t,T)∈hd):t∈nL hd:=by
 simp only [nL,List.mem_filterMap];exact⟨_,h,rfl⟩
def yN(ρ:List Nat)(hd:List (Nat×Option Nat×TypeId))(T:TypeId):Loc→Loc→Prop
 |.cell j i,.cell r kF=>i=kF∧ρ[j]? = some r
 |.slot s,.slot t=>(s,some t,T)∈hd
 |_,_=>False
def Kx(h:bo P K M β st tmps w){ρ:List Nat}{bs H1:List (List aM)}(hn:k3 ρ=true)(iY:boxes st.H ρ=some bs)(ki:ig (idx ρ) bs=some H1){ds h1:List D}{vs:List Value}
 (hlen:vs.length=ds.length) (ar:∀(i:Nat) v d,vs[i]? = some v→ds[i]? = some d→b3 M β v d) (eJ:jj (idx ρ) ds=some h1) {hd:List (Nat×Option Nat×TypeId)} (q0:Handed st tmps vs hd):
 bo P (iE M β st tmps w ρ (nL hd)) M (λj=>(ρ[j]?).bind β) {env:=gj h1 (pC hd),H:=cl 0 H1,aJ:=H1.length} ⟨vs⟩ w:=by
 obtain⟨cK,fl⟩:=qZ iY;obtain⟨hy,hM⟩:=s7 ki;obtain⟨adw,TT⟩:=sQ eJ
 have Ky:∀{v d dm},b3 M β v d→dE (idx ρ) d=some dm→b3 M (λj=>(ρ[j]?).bind β) v dm:=by
  intro v d dm hd ix;exact hd.dE (λr s b hs hb=>by rw [yL hs];simpa using hb) ix
 -- a cell of kh Dx is a cell of ours
 have gz:∀j i a1,({env:=gj h1 (pC hd),H:=cl 0 H1,aJ:=H1.length}:az).at (.cell j i)=some a1→∃(r:Nat) (e:aM),ρ[j]? = some r∧st.at (.cell r i)=some e∧dE (idx ρ) e.d=some a1.d∧a1.own=e.own∧
  b0 ⟨vs⟩ w (λj=>(ρ[j]?).bind β) (.cell j i)=b0 tmps w β (.cell r i):=by
  intro j i a1 he;simp only [az.at,k_]at he;cases hj:H1[j]? with
  |none=>simp [hj]at he
  |some bl=>
   simp only [hj,Option.bind_some]at he;obtain⟨b,hb,lT⟩:=hM j bl hj;have q1:j<ρ.length:=by have:=(List.getElem?_eq_some_iff.1 hb).1;omega
   have jN:ρ[j]? = some ρ[j]:=List.getElem?_eq_getElem q1;obtain⟨ab,_⟩:=fl j _ jN;obtain⟨_,Dy⟩:=s6 lT;obtain⟨e,oO,Dz,DA⟩:=Dy i a1 he;exact⟨_,e,jN,by simp [az.at,ab,hb,oO],Dz,DA,by simp [b0,jN]⟩
 have Kz:∀s a1,({env:=gj h1 (pC hd),H:=cl 0 H1,aJ:=H1.length}:az).at (.slot s)=some a1→a1.own=look (pC hd) s∧∃v d,vs[s]? = some v∧ds[s]? = some d∧dE (idx ρ) d=some a1.d:=by
  intro s a1 he;simp only [az.at,gj,k_,vv,Option.map_eq_some_iff]at he;obtain⟨dm,ix,rfl⟩:=he;have hs:s<h1.length:=(List.getElem?_eq_some_iff.1 ix).1;have gq:ds[s]? = some ds[s]:=List.getElem?_eq_getElem (by omega)
  obtain⟨d1,fx,TU⟩:=TT s _ gq;rw [ix]at fx;cases fx;exact⟨by simp,_,_,List.getElem?_eq_getElem (by omega),gq,TU⟩
 -- adx 'own' place of kh Dx is one of ours
 have yO:∀cd a1 T,({env:=gj h1 (pC hd),H:=cl 0 H1,aJ:=H1.length}:az).at cd=some a1→a1.own=some T→
  b0 ⟨vs⟩ w (λj=>(ρ[j]?).bind β) cd = .slice none 0 0∨∃l e,yN ρ hd T cd l∧vw ρ (nL hd) l∧st.at l=some e∧e.own=some T∧b0 ⟨vs⟩ w (λj=>(ρ[j]?).bind β) cd=b0 tmps w β l:=by
  intro cd a1 T ab aG;cases cd with
  |slot s=>
   obtain⟨am,v,d,Z,ad,al⟩:=Kz s a1 ab;rw [am]at aG;obtain⟨o,hm⟩:=TR aG;have bO:b0 (⟨vs⟩:Array Value) w (λj=>(ρ[j]?).bind β) (.slot s)=v:=by simp [b0,Z]
   cases o with
   |none=>
    have:=q0.none s T hm
    rw [Z]at this;cases this;exact .inl bO
   |some t=>
    obtain⟨e,aH,a6,bT⟩:=q0.some s t T hm;rw [Z]at bT;cases bT;exact .inr ⟨.slot t,e,hm,TS hm,aH,a6,bO⟩
  |cell j i=>
   obtain⟨r,e,jN,he,_,fj,bO⟩:=gz j i a1 ab;exact .inr ⟨.cell r i,e,⟨rfl,jN⟩,List.mem_of_getElem? jN,he,by rw [←fj,aG],bO⟩
 have TV:∀T T' ga ii l,yN ρ hd T ga l→yN ρ hd T' ii l→ga=ii:=by
  intro T T' ga ii l Z ad;cases ga<;>cases ii<;>cases l<;>simp only [yN]at Z ad
  ·rw [q0.inj _ _ _ _ _ Z ad]
  ·obtain⟨rfl,al⟩:=Z;obtain⟨rfl,aH⟩:=ad;rw [yM hn _ _ _ al aH]
 have iF:∀j cs',look (cl 0 H1) j=some cs'→∃(r:Nat) (cs:List aM),ρ[j]? = some r∧look st.H r=some cs∧cs.length=cs'.length∧∃f,k2 f cs=some cs':=by
  intro j cs' hj;rw [k_]at hj;obtain⟨b,hb,lT⟩:=hM j cs' hj;have q1:j<ρ.length:=by have:=(List.getElem?_eq_some_iff.1 hb).1;omega
  have jN:ρ[j]? = some ρ[j]:=List.getElem?_eq_getElem q1;obtain⟨ab,_⟩:=fl j _ jN;exact⟨_,b,jN,by rw [ab,hb],(s6 lT).1.symm,_,lT⟩
 constructor
 ·intro l a1 ab;cases l with
  |slot s=>
   obtain⟨_,v,d,Z,ad,al⟩:=Kz s a1 ab;have:=Ky (ar s v d Z ad) al
   simpa [b0,Z]using this
  |cell j i=>
   obtain⟨r,e,jN,he,lT,_,bO⟩:=gz j i a1 ab;rw [bO];exact Ky (h.eE _ e he) lT
 ·intro cd a1 T ab aG;rcases yO cd a1 T ab aG with h0|⟨l,e,_,bf,he,dn,bO⟩
  ·rw [h0];exact .inl rfl
  ·rw [bO];rcases h.own _ e T he dn with h0|⟨b,n,cap,iz,T',Z,ad,al,aH,a6,bT,oM⟩
   ·exact .inl h0
   ·refine .inr ⟨b,n,cap,iz,T',Z,ad,al,aH,a6,?_,oM⟩;simp only [iE];rw [if_pos];exact .inr ⟨l,e,T,bf,he,dn,by rw [Z];rfl⟩
 ·intro ga ii e1 e2 T T' b ab aG cY dn hb bw;rcases yO ga e1 T ab aG with h0|⟨l,e,bH,bf,he,DB,bO⟩
  ·rw [h0]at hb;cases hb
  rcases yO ii e2 T' cY dn with h0|⟨cd,a1,mn,vu,vx,TW,nF⟩
  ·rw [h0]at bw;cases bw
  rw [bO]at hb;rw [nF]at bw;have:=h.uniq _ _ e a1 T T' b he DB vx TW hb bw
  subst this;exact TV _ _ _ _ _ bH mn
 ·intro cd a1 T b j cs' ab aG hb hj;rcases yO cd a1 T ab aG with h0|⟨l,e,bH,bf,he,DB,bO⟩
  ·rw [h0]at hb;cases hb
  rw [bO]at hb;obtain⟨ak,cs,TX,dy,_⟩:=iF j cs' hj;have:=h.unbox _ e T b ak cs he DB hb dy
  simpa [TX]using this
 ·intro j cs' hj;obtain⟨r,cs,jN,dy,ab,f,TY⟩:=iF j cs' hj;obtain⟨b,iz,T,Z,ad,al,aH,a6,bT⟩:=h.box r cs dy;refine⟨b,iz,T,by simp [jN,Z],ad,by omega,aH,?_,bT.1,bT.2.dE TY⟩
  simp only [iE];rw [if_pos];exact .inl ⟨r,List.mem_of_getElem? jN,Z⟩
 ·intro j q2 b c kd hj yP hb bw;obtain⟨r,cs,jN,dy,_⟩:=iF j c hj;obtain⟨cS,cs',KA,q3,_⟩:=iF q2 kd yP;have:r=cS:=h.inj r cS b cs cs' dy q3 (by simpa [jN]using hb) (by simpa [KA]using bw)
  subst this;exact yM hn j q2 r jN KA
 ·intro j b hb;simp only [Option.bind_eq_some_iff]at hb;obtain⟨r,ai,_⟩:=hb;have:=(List.getElem?_eq_some_iff.1 ai).1
  show j<H1.length
  omega
 ·exact h.mem
 ·exact Mem.le_refl _
 ·intro b aL hb;simp only [iE]at hb;split at hb
  ·cases hb
  ·exact⟨hb,λ_=>rfl⟩
 ·intro j b hb;exact hb
 ·refine h.hL.mono λb aL da=>?_
  have DC:¬ nK st tmps w β ρ (nL hd) b:=by
   rintro (⟨r,ai,kj⟩|⟨l,e,T,ai,he,aG,iy⟩)
   ·obtain⟨j,hj⟩:=List.getElem?_of_mem ai;obtain⟨ab,q4⟩:=fl j r hj;obtain⟨cs,dy⟩:=Option.isSome_iff_exists.1 q4;obtain⟨iD,_,_,al,_,_,_,aH,_⟩:=h.box r cs (by rw [ab,dy])
    rw [kj]at al;cases al;rw [aH]at da;cases da
   ·rw [(h.own _ e T he aG).free iy]at da;cases da
  simp only [iE];rw [if_neg DC];exact(h.frame b aL da).1
 ·rfl
def TZ{ρ os:List Nat}{st:az}{H:List (Nat×List aM)}{n s:Nat}{e:aM}(ab:({env:=fY os st.env,H:=H,aJ:=n}:az).at (.slot s)=some e):
 ∃bW,st.at (.slot s)=some bW∧bW.d=e.d∧(∀T,e.own=some T→bW.own=some T)∧∀T,e.own=some T→¬ vw ρ os (.slot s):=by
 simp only [az.at,lQ]at ab;by_cases hs:s∈os
 ·rw [if_pos hs,Option.map_eq_some_iff]at ab;obtain⟨bW,Z,ad⟩:=ab;subst ad;exact⟨bW,Z,rfl,(λT aG=>by cases aG),(λT aG=>by cases aG)⟩
 ·rw [if_neg hs]at ab;exact⟨e,ab,rfl,(λT aG=>aG),(λT _=>hs)⟩
def DD(h:bo P K M β st tmps w){ρ:List Nat}{bs ch gS:List (List aM)}(hn:k3 ρ=true)(iY:boxes st.H ρ=some bs)(q5:ig (λj=>ρ[j]?) ch=some gS)(d9:ch.length=ρ.length)
 {os:List Nat} {out:Out} {v:Value} {w':World} {M':Mem} {β':Nat→Option Nat} (hB:bo P (iE M β st tmps w ρ os) M' β' {env:=gG out,H:=cl 0 ch,aJ:=ρ.length} #[v] w'):
 M.le M'∧bo P K M' β {env:=fY os st.env,H:=jk ρ gS++st.H,aJ:=st.aJ} tmps w'∧
 (∀d own,out = .ret d own→∀dm,dE (λj=>ρ[j]?) d=some dm→b3 M' β v dm∧∀T l0,own=some T→k5 P K M' β {env:=fY os st.env,H:=jk ρ gS++st.H,aJ:=st.aJ} tmps w' l0 v T)∧
 (∀x,out = .aW x→cw M' v x):=by
 obtain⟨cK,fl⟩:=qZ iY;obtain⟨hy,hM⟩:=s7 q5;have cr:M.le M':=hB.m0;have fZ:∀(j r b:Nat),ρ[j]? = some r→β r=some b→β' j=some b:=λj r b hj hb=>hB.gT j b (by simp [iE,hj,hb])
 have pD:∀(j r:Nat),ρ[j]? = some r→∃cs b,look st.H r=some cs∧β r=some b∧β' j=some b:=by
  intro j r hj;obtain⟨Z,ad⟩:=fl j r hj;obtain⟨cs,dy⟩:=Option.isSome_iff_exists.1 ad;rw [dy]at Z;obtain⟨b,_,_,hb,_⟩:=h.box r cs Z;exact⟨cs,b,Z,hb,fZ j r b hj hb⟩
 have KB:∀{v d dm},b3 M' β' v d→dE (λj=>ρ[j]?) d=some dm→b3 M' β v dm:=by
  intro v d dm hd ix;refine hd.dE (λj r b hj hb=>?_) ix
  obtain⟨_,cH,_,Z,ad⟩:=pD j r hj;rw [hb]at ad;cases ad;exact Z
 -- DE is not nK is kept
 have vy:∀b,¬ nK st tmps w β ρ os b→b<w.heap.size→w'.heap[b]? = w.heap[b]? ∧ ∀o,M' b o=M b o:=by
  intro b hb cB
  have da:(iE M β st tmps w ρ os).F b=some w.heap[b]:=by
   simp only [iE];rw [if_neg hb];exact Array.getElem?_eq_getElem cB
  obtain⟨Z,ad⟩:=hB.frame b _ da;exact⟨by rw [Z,Array.getElem?_eq_getElem cB],ad⟩
 have KC:∀b,(iE M β st tmps w ρ os).F b=none→K.F b=none:=by
  intro b hb;simp only [iE]at hb;split at hb
  ·rename_i hp;rcases hp with⟨r,ai,kj⟩|⟨l,e,T,ai,he,aG,iy⟩
   ·obtain⟨j,hj⟩:=List.getElem?_of_mem ai;obtain⟨cs,cH,dy,cK,_⟩:=pD j r hj;obtain⟨iD,_,_,Z,_,_,_,ad,_⟩:=h.box r cs dy;rw [kj]at Z;cases Z;exact ad
   ·exact(h.own _ e T he aG).free iy
  ·cases da:K.F b with
   |none=>rfl
   |some aL=>have:=(h.frame b aL da).1;rw [hb]at this;cases this
 have hold:∀b,(iE M β st tmps w ρ os).F b=none→b<w.heap.size→nK st tmps w β ρ os b:=by
  intro b hb cB;simp only [iE]at hb;split at hb
  ·assumption
  ·rw [Array.getElem?_eq_getElem cB]at hb;cases hb
 -- ady own boxes TL adz not handed on
 have yQ:∀r cs b,look st.H r=some cs→(∀(j:Nat),ρ[j]? ≠ some r)→β r=some b→¬ nK st tmps w β ρ os b:=by
  intro r cs b ai gU hb hp;rcases hp with⟨cS,e_,bw⟩|⟨l,e,T,e_,he,aG,iy⟩
  ·obtain⟨j,hj⟩:=List.getElem?_of_mem e_;obtain⟨cs',_,q3,_⟩:=pD j cS hj;have:=h.inj r cS b cs cs' ai q3 hb bw
   subst this;exact gU j hj
  ·exact h.unbox _ e T b r cs he aG iy ai hb
 have vz:∀r,(∃(j:Nat),ρ[j]? = some r∧look (jk ρ gS++st.H) r=gS[j]?)∨((∀(j:Nat),ρ[j]? ≠ some r)∧look (jk ρ gS++st.H) r=look st.H r):=by
  intro r;obtain⟨Z,ad⟩:=Dw (H:=st.H) (ρ:=ρ) (bs:=gS) (by omega) hn r
  by_cases hj:∃(j:Nat),ρ[j]? = some r
  ·obtain⟨j,hj⟩:=hj;exact .inl ⟨j,hj,Z j hj⟩
  ·have:∀(j:Nat),ρ[j]? ≠ some r:=λj bf=>hj ⟨j,bf⟩
   exact .inr ⟨this,ad this⟩
 -- a place of kh new state: kh Dx, or kept
 have fk:∀l e,({env:=fY os st.env,H:=jk ρ gS++st.H,aJ:=st.aJ}:az).at l=some e→
  (∃(j r i:Nat) (a1:aM),l = .cell r i∧ρ[j]? = some r∧({env:=gG out,H:=cl 0 ch,aJ:=ρ.length}:az).at (.cell j i)=some a1∧dE (λj=>ρ[j]?) a1.d=some e.d∧e.own=a1.own∧b0 tmps w' β l=b0 #[v] w' β' (.cell j i))∨
  (∃bW,st.at l=some bW∧bW.d=e.d∧(∀T,e.own=some T→bW.own=some T)∧b0 tmps w' β l=b0 tmps w β l∧(∀T,e.own=some T→¬ vw ρ os l)):=by
  intro l e ab;cases l with
  |slot s=>
   obtain⟨bW,Z,ad,al,aH⟩:=TZ ab;exact .inr ⟨bW,Z,ad,al,rfl,aH⟩
  |cell r i=>
   rcases vz r with⟨j,hj,jO⟩|⟨gU,jO⟩
   ·simp only [az.at,jO]at ab;cases bf:gS[j]? with
    |none=>simp [bf]at ab
    |some bl=>
     simp only [bf,Option.bind_some]at ab;obtain⟨b,hb,lT⟩:=hM j bl bf;obtain⟨_,Dy⟩:=s6 lT;obtain⟨a1,oO,Dz,DA⟩:=Dy i e ab;obtain⟨_,cH,_,cK,qI⟩:=pD j r hj;exact .inl ⟨j,r,i,a1,rfl,hj,by simp [az.at,k_,hb,oO],Dz,DA,by simp [b0,cK,qI]⟩
   ·simp only [az.at,jO]at ab;refine .inr ⟨e,ab,rfl,λ_ h=>h,?_,λT _ bf=>by obtain⟨j,hj⟩:=List.getElem?_of_mem bf;exact gU j hj⟩
    cases ai:look st.H r with
    |none=>simp [ai]at ab
    |some cs=>
     obtain⟨b,_,_,hb,bf,_⟩:=h.box r cs ai;simp only [b0,hb];rw [oH (w:=w) (vy b (yQ r cs b ai gU hb) (lt_of_heap bf)).1]
 -- a kept 'own' adA block is not nK
 have vA:∀l e T b,st.at l=some e→e.own=some T→¬ vw ρ os l→gp (b0 tmps w β l)=some b→¬ nK st tmps w β ρ os b:=by
  intro l e T b ab aG gU hb hp;rcases hp with⟨cS,e_,bw⟩|⟨cd,a1,T',e_,he,dn,iy⟩
  ·obtain⟨j,hj⟩:=List.getElem?_of_mem e_;obtain⟨cs',_,q3,_⟩:=pD j cS hj;exact h.unbox l e T b cS cs' ab aG hb q3 bw
  ·have:=h.uniq l _ e a1 T T' b ab aG he dn hb iy
   subst this;exact gU e_
 -- kh Dx 'own' blocks adB ours
 have vB:∀T u b,mU P (iE M β st tmps w ρ os).F M' w' T u→gp u=some b→∀bl,bl=b→bl<w.heap.size→nK st tmps w β ρ os bl:=by
  intro T u b am hb bl sT cB;subst sT;exact hold bl (am.free hb) cB
 have yR:∀r cs,look (jk ρ gS++st.H) r=some cs→∃jt,look st.H r=some jt:=by
  intro r cs ai;rcases vz r with⟨j,hj,_⟩|⟨_,jO⟩
  ·obtain⟨jt,_,Z,_⟩:=pD j r hj;exact⟨jt,Z⟩
  ·exact⟨cs,by rw [←jO];exact ai⟩
 have ci:bo P K M' β {env:=fY os st.env,H:=jk ρ gS++st.H,aJ:=st.aJ} tmps w':=by
  constructor
  ·intro l e ab;rcases fk l e ab with⟨j,r,i,a1,rfl,hj,vx,lT,_,bO⟩|⟨bW,am,vC,iW,bO,_⟩
   ·rw [bO];exact KB (hB.eE _ a1 vx) lT
   ·rw [bO,←vC];exact(h.eE l bW am).mono cr
  ·intro l e T ab aG;rcases fk l e ab with⟨j,r,i,a1,rfl,hj,vx,_,fj,bO⟩|⟨bW,am,vC,iW,bO,gU⟩
   ·rw [bO];rw [fj]at aG;rcases hB.own _ a1 T vx aG with h0|⟨b,n,cap,iz,T',Z,ad,al,aH,a6,bT,oM⟩
    ·exact .inl h0
    ·exact .inr ⟨b,n,cap,iz,T',Z,ad,al,aH,a6,KC b bT,oM⟩
   ·rw [bO];have gU:=gU T aG;have aG:=iW T aG;refine(h.own l bW T am aG).congr (λb hb=>?_) (λb o' hb=>?_)
    ·exact(vy b (vA l bW T b am aG gU hb) ((h.own l bW T am aG).lt hb)).1
    ·exact(vy b (vA l bW T b am aG gU hb) ((h.own l bW T am aG).lt hb)).2 o'
  ·intro l cd e1 e2 T T' b ab aG cY dn hb bw
   rcases fk l e1 ab with⟨j,r,i,x,rfl,hj,hx,_,fj,bO⟩|⟨bW,am,vC,iW,bO,gU⟩ <;>
    rcases fk cd e2 cY with⟨q2,cS,kF,fa,rfl,yP,s8,_,KD,nF⟩|⟨sS,iV,adC,ve,nF,DF⟩
   ·rw [bO]at hb;rw [nF]at bw;rw [fj]at aG;rw [KD]at dn;have:=hB.uniq _ _ x fa T T' b hx aG s8 dn hb bw
    cases this;rw [hj]at yP;cases yP;rfl
   ·rw [bO]at hb;rw [nF]at bw;rw [fj]at aG;have DF:=DF T' dn;have dn:=ve T' dn;exact(vA cd sS T' b iV dn DF bw (vB T _ b (hB.own _ x T hx aG) hb b rfl ((h.own cd sS T' iV dn).lt bw))).elim
   ·rw [bO]at hb;rw [nF]at bw;rw [KD]at dn;have gU:=gU T aG;have aG:=iW T aG;exact(vA l bW T b am aG gU hb (vB T' _ b (hB.own _ fa T' s8 dn) bw b rfl ((h.own l bW T am aG).lt hb))).elim
   ·rw [bO]at hb;rw [nF]at bw;exact h.uniq l cd bW sS T T' b am (iW T aG) iV (ve T' dn) hb bw
  ·intro l e T b r cs ab aG hb ai kj;obtain⟨jt,kc⟩:=yR r cs ai;rcases fk l e ab with⟨j,ah,i,x,rfl,hj,hx,_,fj,bO⟩|⟨bW,am,vC,iW,bO,gU⟩
   ·rw [bO]at hb;rw [fj]at aG;rcases vz r with⟨j2,vD,jO⟩|⟨DG,_⟩
    ·have ad:∃c2,look (cl 0 ch) j2=some c2:=by
      rw [k_];exact⟨_,List.getElem?_eq_getElem (by have:=(List.getElem?_eq_some_iff.1 vD).1;omega)⟩
     obtain⟨c2,kl⟩:=ad;exact hB.unbox _ x T b j2 c2 hx aG hb kl (fZ j2 r b vD kj)
    ·obtain⟨cH,_,_,cK,bf,_⟩:=h.box r jt kc;rw [kj]at cK;cases cK;exact yQ r jt b kc DG kj (vB T _ b (hB.own _ x T hx aG) hb b rfl (lt_of_heap bf))
   ·rw [bO]at hb;exact h.unbox l bW T b r jt am (iW T aG) hb kc kj
  ·intro r cs ai;rcases vz r with⟨j,hj,jO⟩|⟨gU,jO⟩
   ·rw [jO]at ai;obtain⟨c2,kl,lT⟩:=hM j cs ai;obtain⟨jt,mo,T0,KE,T1⟩:=pD j r hj;obtain⟨b,iz,T,Z,ad,al,aH,a6,bT⟩:=hB.box j c2 (by rw [k_];exact kl)
    rw [T1]at Z;cases Z;obtain⟨iD,_,_,cI,_,_,_,dO,_⟩:=h.box r jt T0;rw [KE]at cI;cases cI;exact⟨mo,iz,T,KE,ad,by rw [al,(s6 lT).1],aH,dO,bT.1,bT.2.dE lT⟩
   ·rw [jO]at ai;obtain⟨b,iz,T,Z,ad,al,aH,a6,bT⟩:=h.box r cs ai;have hk:=vy b (yQ r cs b ai gU Z) (lt_of_heap ad);exact⟨b,iz,T,Z,hk.1.trans ad,al,λo'=>(hk.2 o').trans (aH o'),a6,bT⟩
  ·intro r cS b c kd ai e_ hb bw;obtain⟨c0,kc⟩:=yR r c ai;obtain⟨T2,T3⟩:=yR cS kd e_;exact h.inj r cS b c0 T2 kc T3 hb bw
  ·exact h.lt
  ·exact hB.mem
  ·exact Mem.le_trans h.m0 cr
  ·intro b aL da;obtain⟨Z,ad⟩:=h.frame b aL da
   have DC:¬ nK st tmps w β ρ os b:=by
    rintro (⟨r,ai,kj⟩|⟨l,e,T,ai,he,aG,iy⟩)
    ·obtain⟨j,hj⟩:=List.getElem?_of_mem ai;obtain⟨cs,_,dy,_⟩:=pD j r hj;obtain⟨iD,_,_,al,_,_,_,aH,_⟩:=h.box r cs dy;rw [kj]at al;cases al;rw [aH]at da;cases da
    ·rw [(h.own _ e T he aG).free iy]at da;cases da
   have hk:=vy b DC (lt_of_heap Z);exact⟨hk.1.trans Z,λo'=>(hk.2 o').trans (ad o')⟩
  ·exact h.gT
  ·exact h.hL
  ·exact Eq.trans (show(w'.os,w'.output)=(w.os,w.output)from hB.gn) h.gn
 refine⟨cr,ci,λd own DH dm ix=>?_,λx DH=>?_⟩
 ·subst DH;have hC:=hB.eE (.slot 0) {d,own} (by simp [az.at,gG,look])
  refine⟨KB (by simpa [b0]using hC) ix,λT l0 aG=>?_⟩
  have am:=hB.own (.slot 0) {d,own} T (by simp [az.at,gG,look]) aG
  simp only [b0]at am;have iV:mU P (iE M β st tmps w ρ os).F M' w' T v:=by simpa using am
  refine⟨?_,λl e T' b ab dn _ hb bw=>?_,λb r cs hb ai kj=>?_⟩
  ·rcases iV with h0|⟨b,n,cap,iz,T',Z,ad,al,aH,a6,bT,oM⟩
   ·exact .inl h0
   ·exact .inr ⟨b,n,cap,iz,T',Z,ad,al,aH,a6,KC b bT,oM⟩
  ·rcases fk l e ab with⟨j,r,i,x,rfl,hj,hx,_,fj,bO⟩|⟨bW,KF,vC,iW,bO,gU⟩
   ·rw [bO]at bw;rw [fj]at dn;have:=hB.uniq (.slot 0) (.cell j i) {d,own} x T T' b (by simp [az.at,gG,look]) aG hx dn (by simpa [b0]using hb) bw
    cases this
   ·rw [bO]at bw;have gU:=gU T' dn;have dn:=iW T' dn;exact vA l bW T' b KF dn gU bw (vB T v b iV hb b rfl ((h.own l bW T' KF dn).lt bw))
  ·obtain⟨jt,kc⟩:=yR r cs ai;rcases vz r with⟨j2,vD,jO⟩|⟨DG,_⟩
   ·have ad:∃c2,look (cl 0 ch) j2=some c2:=by
     rw [k_];exact⟨_,List.getElem?_eq_getElem (by have:=(List.getElem?_eq_some_iff.1 vD).1;omega)⟩
    obtain⟨c2,kl⟩:=ad;exact hB.unbox (.slot 0) {d,own} T b j2 c2 (by simp [az.at,gG,look]) aG (by simpa [b0]using hb) kl (fZ j2 r b vD kj)
   ·obtain⟨cH,_,_,cK,bf,_⟩:=h.box r jt kc;rw [kj]at cK;cases cK;exact yQ r jt b kc DG kj (vB T v b iV hb b rfl (lt_of_heap bf))
 ·subst DH;have hC:=hB.eE (.slot 0) {d:=.v x} (by simp [az.at,gG,look])
  have:=lR hC
  simpa [b0]using this
end
def KG{i:Int}{n:Nat}(h:a_ i n=true):0≤i∧i<n:=by simpa [a_]using h
def q6{i:Int}{n:Nat}(h:gh i n=true):0≤i∧i≤n:=by simpa [gh]using h
def T4{i:Int}{n:Nat}(h:0≤i∧i≤n):gh i n=true:=by simpa [gh]using h
def KH{a b:Int}{n:Nat}(h:oA a b n=true):0≤a∧a≤b∧b≤n:=by simpa [oA]using h
def KI{a:Int}(h:sL a=true):a≠0:=by simpa [sL]using h
def DI{n b:Nat}(h:room n b=true):n*b≤140737488355328:=by simpa [room]using h
def T6{n:Nat}(h:ew n=true):n≤9223372036854775807:=by simpa [ew]using h
section
variable {P:Program} {K:Ctx} {N:Nat} {M:Mem} {β:Nat→Option Nat} {st:az} {g:cG} {tmps:Array Value} {w:World} {o:Oper} {f:ji} {p:Path} {tt:c7} {bL:fw} {ops:List Oper}
def KJ:∀(l:List (Nat×aM)) (s:Nat),look (mS l) s=(look l s).map λe=>({d:=e.d}:aM)
 |[],s=>rfl
 |(t,e)::l,s=>by
  simp only [mS,de];by_cases h:t=s
  ·simp [h]
  ·simp only [h,if_false];exact KJ l s
def bo.mS{st:az}(h:bo P K M β st tmps w){env:List (Nat×aM)}(he:∀s e,look env s=some e→∃bW,look st.env s=some bW∧bW.d=e.d):bo P K M β {env:=Ab.mS env,H:=st.H,aJ:=st.aJ} tmps w:=
 h.sub rfl (λl e ab=>by
  cases l with
  |slot s=>
   simp only [az.at,KJ,Option.map_eq_some_iff]at ab;obtain⟨e1,Z,rfl⟩:=ab;obtain⟨bW,ad,al⟩:=he s e1 Z;exact⟨bW,ad,al,λ_ h=>by cases h⟩
  |cell r i=>exact⟨e,ab,rfl,λ_ h=>h⟩) (λr cs ai=>⟨cs,ai,rfl⟩)
def T7(P:Program)(K:Ctx)(M:Mem)(β:Nat→Option Nat)(g:cG)(x:V)(hs:List (Nat×List aM))(o:Oper)(tmps:Array Value)(w:World):Prop:=
 (∃v,(execOp (Act.eval ⟨tmps,[]⟩) o).run P w = .halt (.panic v) w∧cw M v x∧hs=[])∨
 (∃fn vs,(execOp (Act.eval ⟨tmps,[]⟩) o).run P w = .ok (.enter fn vs) w∧Calls P fn vs w λe w'=>∃v M' ,e = .panicked [{v,recovered:=false}]∧cw M' v x∧
  bo P K M' β {env:=mS g.env,H:=hs++g.H,aJ:=g.aJ} tmps w')
def T8{op:BinOp}{k:IntKind}{a b:Int}{x:V}{aL:List Prop}(h:CL op k a b=some (x,aL))(b5:∀q,q∈aL→q)(t:TypeId):
 ∃v,(binOp op t (.int k a) (.int k b)).run P w = .ok v w∧cw M v x:=by
 have fin:∀{s:Sem Value} {v:Value},s.run P w = .ok v w→cw M v x→∃v,s.run P w = .ok v w∧cw M v x:=λZ ad=>⟨_,Z,ad⟩
 cases op<;>simp only [CL,Option.some.injEq,Prod.mk.injEq,reduceCtorEq]at h<;>obtain⟨rfl,rfl⟩:=h
 case quo=>
  have hb:=KI (b5 _ (List.mem_singleton.2 rfl));refine fin (v:=.int k (k.wrap (a.tdiv b))) ?_ (.int _ _);simp [binOp,Op.intDiv,hb]
 case rem=>
  have hb:=KI (b5 _ (List.mem_singleton.2 rfl));refine fin (v:=.int k (a.tmod b)) ?_ (.int _ _);simp [binOp,Op.intDiv,hb]
 case add=>exact fin (v:=.int k (k.wrap (a+b))) (by simp [binOp,Op.intArith]) (.int _ _)
 case sub=>exact fin (v:=.int k (k.wrap (a-b))) (by simp [binOp,Op.intArith]) (.int _ _)
 case mul=>exact fin (v:=.int k (k.wrap (a*b))) (by simp [binOp,Op.intArith]) (.int _ _)
 case eql=>exact fin (v:=.bool (decide (a=b))) (by simp [binOp,Op.intCmp];rfl) (.bool _)
 case neq=>exact fin (v:=.bool (!decide (a=b))) (by simp [binOp,Op.intCmp];rfl) (.bool _)
 case lss=>exact fin (v:=.bool (decide (a<b))) (by simp [binOp,Op.intCmp]) (.bool _)
 case leq=>exact fin (v:=.bool (decide (a≤b))) (by simp [binOp,Op.intCmp]) (.bool _)
 case gtr=>exact fin (v:=.bool (decide (b<a))) (by simp [binOp,Op.intCmp]) (.bool _)
 case geq=>exact fin (v:=.bool (decide (b≤a))) (by simp [binOp,Op.intCmp]) (.bool _)
 case and=>exact fin (v:=.int k (sM k a b)) (by simp [binOp,Op.intBits,sM]) (.int _ _)
 case or=>exact fin (v:=.int k (qC k a b)) (by simp [binOp,Op.intBits,qC]) (.int _ _)
 case xor=>exact fin (v:=.int k (nB k a b)) (by simp [binOp,Op.intBits,nB]) (.int _ _)
 case andNot=>exact fin (v:=.int k (CJ k a b)) (by simp [binOp,Op.intBits,CJ]) (.int _ _)
def T9{op:BinOp}{k k':IntKind}{a b:Int}{x:V}{aL:List Prop}(h:CK op k a b=some (x,aL))(b5:∀q,q∈aL→q)(t:TypeId):
 ∃v,(binOp op t (.int k a) (.int k' b)).run P w = .ok v w∧cw M v x:=by
 unfold CK at h;split at h
 ·simp only [Option.some.injEq,Prod.mk.injEq]at h;obtain⟨rfl,rfl⟩:=h;have hb:0≤b:=by simpa [mQ]using b5 (mQ b=true) (by simp)
  exact⟨.int k (oD k a b),by simp [binOp,Op.shift,show¬ b<0 by omega,oD],.int _ _⟩
 ·simp only [Option.some.injEq,Prod.mk.injEq]at h;obtain⟨rfl,rfl⟩:=h;have hb:0≤b:=by simpa [mQ]using b5 (mQ b=true) (by simp)
  exact⟨.int k (mP k a b),by simp [binOp,Op.shift,show¬ b<0 by omega,mP],.int _ _⟩
 ·cases h
def T_{op:BinOp}{a b:ae7}{x:V}{aL:List Prop}(h:CM op a b=some (x,aL))(b5:∀q,q∈aL→q)(t:TypeId):
 ∃v,(binOp op t (.string ⟨⟨a⟩⟩) (.string ⟨⟨b⟩⟩)).run P w = .ok v w∧cw M v x:=by
 have fin:∀{s:Sem Value} {v:Value},s.run P w = .ok v w→cw M v x→∃v,s.run P w = .ok v w∧cw M v x:=λZ ad=>⟨_,Z,ad⟩
 have nM:=yD a;have s9:=yD b;have he:(a == b)=decide (a=b):=by by_cases la:a=b<;>simp [la]
 cases op<;>simp only [CM,Option.some.injEq,Prod.mk.injEq,reduceCtorEq]at h<;>obtain⟨rfl,rfl⟩:=h
 case add=>
  have hb:=T6 (b5 _ (List.mem_singleton.2 rfl));refine fin (v:=.string ⟨⟨a++b⟩⟩) ?_ (.str _)
  have dz:¬ ((((⟨⟨a⟩⟩:ByteArray).size+(⟨⟨b⟩⟩:ByteArray).size:Nat):Int) > IntKind.i64.max):=by
   have Z:(⟨⟨a⟩⟩:ByteArray).size=a.length:=rfl;have ad:(⟨⟨b⟩⟩:ByteArray).size=b.length:=rfl;have al:IntKind.i64.max=9223372036854775807:=by decide
   rw [Z,ad,al];omega
  simp only [binOp,Op.stringOp];rw [if_neg dz];simp;apply ByteArray.ext;simp
 case eql=>exact fin (v:=.bool (decide (a=b))) (by simp [binOp,Op.stringOp,nM,s9,he]) (.bool _)
 case neq=>exact fin (v:=.bool (!decide (a=b))) (by simp [binOp,Op.stringOp,nM,s9,he]) (.bool _)
 case lss=>exact fin (v:=.bool (Op.bytesLess a b)) (by simp [binOp,Op.stringOp,nM,s9]) (.bool _)
 case leq=>exact fin (v:=.bool (Op.bytesLess a b||decide (a=b))) (by simp [binOp,Op.stringOp,nM,s9,he]) (.bool _)
 case gtr=>exact fin (v:=.bool (!(Op.bytesLess a b||decide (a=b)))) (by simp [binOp,Op.stringOp,nM,s9,he]) (.bool _)
 case geq=>exact fin (v:=.bool (!Op.bytesLess a b)) (by simp [binOp,Op.stringOp,nM,s9]) (.bool _)
def Ua{t:TypeId}{aB:dS}(r:Row P t aB)(hk:aB.k = .ptr):∃e,r.desc = .pointer e:=by
 have:=r.hk
 rw [hk]at this;cases hd:r.desc<;>simp [hd,jp]at this;exact⟨_,rfl⟩
def Ub{t:TypeId}{aB:dS}(r:Row P t aB)(hk:aB.k = .mf):∃e,r.desc = .interface e:=by
 have:=r.hk
 rw [hk]at this;cases hd:r.desc<;>simp [hd,jp]at this;exact⟨_,rfl⟩
def Uc{t:TypeId}{aB:dS}(r:Row P t aB)(hk:aB.k = .aQ):∃a b c,r.desc = .func a b c:=by
 have:=r.hk
 rw [hk]at this;cases hd:r.desc<;>simp [hd,jp]at this;exact⟨_,_,_,rfl⟩
def DJ{t:TypeId}{aB:dS}(r:Row P t aB)(hk:aB.k = .bool):r.desc = .bool:=by
 have:=r.hk
 rw [hk]at this;cases hd:r.desc<;>simp [hd,jp]at this;rfl
def KK{t:TypeId}{aB:dS}(r:Row P t aB){gi s':Value}{a b:D}{res:Bool}(ha:b3 M β gi a)(hb:b3 M β s' b)(ab:yn aB.k b=true)(hn:isNil aB.k a=some res):
 (Op.equal t gi s').run P w = .ok res w∧(∀op,(binOp op t gi s')=match op with|.eql=>(do pure (.bool (←Op.equal t gi s')))|.neq=>(do pure (.bool (!(←Op.equal t gi s'))))|_=>binOp op t gi s'):=by
 obtain⟨dep,hm⟩:∃d,Op.maxDepth=d+1:=⟨9999,rfl⟩;unfold yn at ab;split at ab<;>try cases ab
 ·rename_i hk;cases lR hb
  obtain⟨e,hd⟩:=Ua r hk;rw [hk]at hn;unfold isNil at hn;split at hn<;>simp_all
  ·cases lR ha
   refine⟨?_,λop=>by cases op<;>rfl⟩
   rw [Op.equal,hm,Op.equalIn];simp [r.run_underlying,hd]
  ·obtain⟨bl,_,rfl⟩:=oK ha;subst hn;refine⟨?_,λop=>by cases op<;>rfl⟩
   rw [Op.equal,hm,Op.equalIn];simp [r.run_underlying,hd]
  ·obtain⟨bl,off,val,rfl,_⟩:=yB ha;subst hn;refine⟨?_,λop=>by cases op<;>rfl⟩
   rw [Op.equal,hm,Op.equalIn];simp [r.run_underlying,hd]
 ·rename_i hk;cases lR hb
  obtain⟨e,hd⟩:=Ub r hk;rw [hk]at hn;unfold isNil at hn;split at hn<;>simp_all
  ·cases lR ha
   refine⟨?_,λop=>by cases op<;>rfl⟩
   rw [Op.equal,hm,Op.equalIn];simp [r.run_underlying,hd]
  ·obtain⟨u,rfl,_⟩:=C4 ha;subst hn;refine⟨?_,λop=>by cases op<;>rfl⟩
   rw [Op.equal,hm,Op.equalIn];simp [r.run_underlying,hd]
 ·rename_i hk;cases lR hb
  obtain⟨e1,e2,e3,hd⟩:=Uc r hk;rw [hk]at hn;unfold isNil at hn;split at hn<;>simp_all
  ·cases lR ha
   refine⟨?_,λop=>by cases op<;>rfl⟩
   rw [Op.equal,hm,Op.equalIn];simp [r.run_underlying,hd]
  ·obtain⟨u,rfl,_⟩:=JZ ha;subst hn;refine⟨?_,λop=>by cases op<;>rfl⟩
   rw [Op.equal,hm,Op.equalIn];simp [r.run_underlying,hd]
end
section
variable {P:Program} {K:Ctx} {N:Nat} {M:Mem} {β:Nat→Option Nat} {st:az} {g:cG} {tmps:Array Value} {w:World} {o:Oper} {f:ji} {p:Path} {tt:c7} {bL:fw} {ops:List Oper}
structure Hyp(P:Program)(K:Ctx)(N:Nat)(M:Mem)(β:Nat→Option Nat)(g:cG)(tmps:Array Value)(w:World)(p:Path)(tt:c7):Prop where
 bd:eW P K N M β g tmps w
 dd:e7 tmps p
 tt:eI P tt=true
def Ud(h:Hyp P K N M β g tmps w p tt){x:Operand}(am:o.op = .move x)(hs:step1 bL tt ops g p o=some (.go f)):Yields P K M β g f o tmps w:=by
 simp only [step1,am]at hs;split at hs
 case h_2=>cases hs
 rename_i d hd
 repeat' (first|(split at hs)|(rw [Bool.cond_eq_ite]at hs))
 all_goals first
  |(cases hs;done)
  |(cases hs;exact J4 h.bd h.dd (.inl am) hd (by assumption))
  |(cases hs;exact yE h.bd h.dd (.inl am) hd)
def Ue(h:Hyp P K N M β g tmps w p tt){x:Operand}(am:o.op = .assign x)(hs:step1 bL tt ops g p o=some (.go f)):Yields P K M β g f o tmps w:=by
 simp only [step1,am]at hs;split at hs
 case h_2=>cases hs
 rename_i d hd;split at hs
 ·rename_i e t fj;rw [Bool.cond_eq_ite]at hs;split at hs<;>cases hs
  ·exact J4 h.bd h.dd (.inr am) hd fj
  ·exact yE h.bd h.dd (.inr am) hd
 ·split at hs
  ·rw [Bool.cond_eq_ite]at hs;split at hs<;>cases hs
   ·exact Tn h.bd h.dd am hd _
   ·exact yE h.bd h.dd (.inr am) hd
  ·cases hs
 ·cases hs;exact yE h.bd h.dd (.inr am) hd
def Uf(h:Hyp P K N M β g tmps w p tt){c:Nat}{a b:Operand}(am:o.op = .pick (.tmp c) a b)(hs:step1 bL tt ops g p o=some (.go f)):Yields P K M β g f o tmps w:=by
 simp only [step1,am]at hs;split at hs
 case h_2=>cases hs
 rename_i pp u9 qD Z ad al;cases hs;exact To h.bd h.dd am Z ad al
def Ug(h:Hyp P K N M β g tmps w p tt){t:TypeId}(am:o.op = .alloc t)(hs:step1 bL tt ops g p o=some (.go f)):Yields P K M β g f o tmps w:=by
 simp only [step1,am]at hs;split at hs
 case h_2=>cases hs
 rename_i id e6 hid;split at hs
 case h_2=>cases hs
 rename_i z dM;cases hs;exact Tq h.bd h.tt am dM hid
def Uh(h:Hyp P K N M β g tmps w p tt){t:TypeId}{x:Operand}(am:o.op = .box t x)(hs:step1 bL tt ops g p o=some (.go f)):Yields P K M β g f o tmps w:=by
 simp only [step1,am]at hs;split at hs
 case h_2=>cases hs
 rename_i d id e6 aB hd hid ab;rw [Bool.cond_eq_ite]at hs;split at hs<;>cases hs
 rename_i yS;simp only [Bool.or_eq_true,Bool.not_eq_true',not_or,Bool.not_eq_true,Bool.not_eq_false,Nat.beq_eq]at yS;exact Tr h.bd h.dd am hd yS.1.1 yS.1.2 h.tt ab yS.2 hid
def Ui(h:Hyp P K N M β g tmps w p tt){t:TypeId}{parts:Array (Nat×Operand)}(am:o.op = .build t parts)(hs:step1 bL tt ops g p o=some (.go f)):Yields P K M β g f o tmps w:=by
 simp only [step1,am]at hs;split at hs
 ·rename_i b2 eU iA zero _ b9 ab kf;rw [Bool.cond_eq_ite]at hs;split at hs
  case isFalse=>cases hs
  rename_i nH;split at hs
  ·simp only [Option.map_eq_some_iff]at hs;obtain⟨d,⟨cs,dy,rfl⟩,hs⟩:=hs;cases hs;exact Ke h.bd h.dd h.tt ab rfl nH am kf (λr=>r.Tu) dy
  ·simp only [Option.map_eq_some_iff]at hs;obtain⟨d,⟨cs,dy,rfl⟩,hs⟩:=hs;cases hs;exact Ke h.bd h.dd h.tt ab rfl nH am kf (λr=>r.Kd) dy
 ·rename_i n e eU iA zero _ b9 ab kf;split at hs
  case h_2=>cases hs
  rename_i aq Uj KL z2 d9;simp only [Option.map_eq_some_iff]at hs;obtain⟨d,⟨cs,dy,rfl⟩,hs⟩:=hs;cases hs;exact Tw h.bd h.dd h.tt ab rfl d9 am kf dy
 ·cases hs
def Uk(h:Hyp P K N M β g tmps w p tt){t:TypeId}{len:Nat}{parts:Array (Nat×Operand)}(am:o.op = .buildSlice t len parts)(hs:step1 bL tt ops g p o=some (.go f))(b5:∀q,q∈f.aL→q):Yields P K M β g f o tmps w:=by
 simp only [step1,am]at hs;split at hs
 case h_2=>cases hs
 rename_i e eU iA zero _ b9 ab kf;split at hs
 case h_2=>cases hs
 rename_i aq Uj KL z2 d9;split at hs
 case h_2=>cases hs
 rename_i xs x rs hx d';rw [Bool.cond_eq_ite]at hs;split at hs
 case isFalse=>cases hs
 rename_i hc;simp only [Bool.and_eq_true,Nat.ble_eq,Nat.beq_eq]at hc;cases hs;exact Ty h.bd h.dd h.tt ab rfl d9 am kf hx hc.2 hc.1.2 hc.1.1 (b5 _ (List.mem_singleton.2 rfl))
def Ul(h:Hyp P K N M β g tmps w p tt){t:TypeId}{a:Operand}(am:o.op = .load t a)(hs:step1 bL tt ops g p o=some (.go f)):Yields P K M β g f o tmps w:=by
 simp only [step1,am]at hs;split at hs
 ·rename_i q off aB ha ab;split at hs
  case h_2=>cases hs
  rename_i cs ax;rw [Bool.cond_eq_ite]at hs;split at hs
  ·rename_i h5;rw [Bool.cond_eq_ite]at hs;split at hs
   case isFalse=>cases hs
   rename_i hle;cases hs;exact TB h.bd h.dd h.tt ab am ha ax h5 (by simpa using hle)
  ·rename_i h5;split at hs
   case h_2=>cases hs
   rename_i e he;split at hs
   ·rename_i s rs fb d';rw [Bool.cond_eq_ite]at hs;split at hs<;>cases hs
    exact TD h.bd h.dd h.tt ab am ha ax (by simpa using h5) he fb
   ·cases hs;exact TC h.bd h.dd h.tt ab am ha ax (by simpa using h5) he
 ·rename_i x aB ha ab;rw [Bool.cond_eq_ite]at hs;split at hs
  case isFalse=>cases hs
  rename_i hc;simp only [Bool.and_eq_true,beq_iff_eq,Nat.beq_eq]at hc;cases hs;exact TE h.bd h.dd h.tt ab am ha hc.1 hc.2
 ·cases hs
def Um(h:Hyp P K N M β g tmps w p tt){t:TypeId}{a x:Operand}(am:o.op = .store t a x)(hs:step1 bL tt ops g p o=some (.go f)):Yields P K M β g f o tmps w:=by
 simp only [step1,am]at hs;split at hs
 case h_2=>cases hs
 rename_i q off d aB ha hx ab;split at hs
 case h_2=>cases hs
 rename_i cs ax;rw [Bool.cond_eq_ite]at hs;split at hs
 case isFalse=>cases hs
 rename_i hc;simp only [Bool.and_eq_true,Nat.beq_eq,Nat.ble_eq,Bool.not_eq_true']at hc;obtain⟨⟨⟨⟨iX,kl⟩,_⟩,Un⟩,Uo⟩:=hc;split at hs
 ·rename_i u s k n get fj;cases hs;simp only [mR,Option.bind_eq_some_iff]at fj;obtain⟨e,he,aG⟩:=fj;have dz:aB.size=1:=by rw [←iX];rfl
  exact Kn h.bd h.dd h.tt ab am ha ax hx dz kl (l:=[u]) (h.bd.bd.hand he aG (.cell q off))
 ·split at hs
  ·cases hs;have k8:=hx;simp only [rd]at k8;split at k8
   ·cases k8;have dz:aB.size=1:=by rw [←iX];rfl
    exact Kn h.bd h.dd h.tt ab am ha ax hx dz kl (l:=[]) (CY _ _)
   ·cases k8
  ·cases hs
 ·cases hs;exact TG h.bd h.dd h.tt ab am ha ax hx Un Uo iX kl _
def Up(h:Hyp P K N M β g tmps w p tt){x:Operand}(am:o.op = .nilCheck x)(hs:step1 bL tt ops g p o=some (.go f)):Yields P K M β g f o tmps w:=by
 simp only [step1,am]at hs;split at hs
 ·rename_i q off hd;cases hs;have ai:=dp (ds:=[]) h.bd h.dd hd;obtain⟨b,_,ar⟩:=oK ai;refine el h.bd (v:=(⟨tmps,[]⟩:Act).eval x) ?_ ai;simp [execOp,am,ar]
 ·rename_i y hd;cases hs;have ai:=dp (ds:=[]) h.bd h.dd hd;obtain⟨b,off,val,ar,_⟩:=yB ai;refine el h.bd (v:=(⟨tmps,[]⟩:Act).eval x) ?_ ai;simp [execOp,am,ar]
 ·cases hs
def Uq(h:Hyp P K N M β g tmps w p tt){op:UnOp}{t:TypeId}{x:Operand}(am:o.op = .unOp op t x)(hs:step1 bL tt ops g p o=some (.go f)):Yields P K M β g f o tmps w:=by
 simp only [step1,am]at hs;split at hs
 case h_2=>cases hs
 rename_i a ha;simp only [Option.map_eq_some_iff]at hs;obtain⟨d,⟨fa,s8,rfl⟩,hs⟩:=hs;cases hs;have ai:=dp (ds:=[]) h.bd h.dd ha;unfold JL at s8;split at s8<;>cases s8
 ·have:=qM ai
  refine el h.bd (v:=.bool _) ?_ (.v _ _ (.bool _));simp [execOp,am,this,Op.unary]
 ·have:=ke ai
  refine el h.bd (v:=.int _ _) ?_ (.v _ _ (.int _ _));simp [execOp,am,this,Op.unary,Op.intArith]
def Ur(h:Hyp P K N M β g tmps w p tt){s t:TypeId}{x:Operand}(am:o.op = .convert s t x)(hs:step1 bL tt ops g p o=some (.go f))(b5:∀q,q∈f.aL→q):Yields P K M β g f o tmps w:=by
 simp only [step1,am]at hs;split at hs
 ·rename_i cq _ _ _ _ k _ _ _ _ dX n eM d9 hd;cases hs;obtain⟨ah⟩:=dN h.tt eM;obtain⟨ak⟩:=dN h.tt d9;have ai:=ke (dp (ds:=[]) h.bd h.dd hd);refine el h.bd (v:=.int k (k.wrap n)) ?_ (.v _ _ (.int _ _));simp only [execOp,am,ai];refine hN _ ?_;simp [convert,ah.run_underlying,ak.run_underlying,vg ah rfl,vg ak rfl,Conv.intToInt]
 ·rename_i _ _ _ _ _ _ _ _ l eM d9 hd;cases hs;obtain⟨ah⟩:=dN h.tt eM;obtain⟨ak⟩:=dN h.tt d9;have ai:=kG (dp (ds:=[]) h.bd h.dd hd);refine el h.bd (v:=.string ⟨⟨l⟩⟩) ?_ (.v _ _ (.str _));simp only [execOp,am,ai];refine hN _ ?_;simp [convert,ah.run_underlying,ak.run_underlying,nG ah rfl,nG ak rfl]
 ·rename_i e _ _ _ _ _ _ _ _ n get eM d9 hd;split at hs
  case h_2=>cases hs
  rename_i l rs DK d';cases hs;obtain⟨ah⟩:=dN h.tt eM;obtain⟨ak⟩:=dN h.tt d9;obtain⟨aE⟩:=dN h.tt DK;obtain⟨hlen,gW⟩:=b5 _ (List.mem_singleton.2 rfl);have ai:=dp (ds:=[]) h.bd h.dd hd;refine el h.bd (v:=.string ⟨⟨l⟩⟩) ?_ (.v _ _ (.str _));simp only [execOp,am];refine hN _ ?_;rcases pu ai with⟨hn|⟨a,hn⟩,ar⟩|⟨b,off,cap,val,ar,hc,hk,cr,Z,fA⟩
  ·have hl0:l=[]:=List.eq_nil_of_length_eq_zero (hlen.trans ar);rw [hn,hl0];simp [convert,ah.run_underlying,ak.run_underlying,aE.run_underlying,mY ah rfl,nG ak rfl,vg aE rfl,Conv.bytesToString];rfl
  ·have hl0:l=[]:=List.eq_nil_of_length_eq_zero (hlen.trans ar);rw [hn,hl0];exact run_convert_bytes_back w s t e a 0 [] (by rw [ah.hd,mY ah rfl]) (by rw [aE.hd,vg aE rfl]) (by rw [ak.hd,nG ak rfl]) (λj hj=>by simp at hj)
  ·rw [ar,←hlen]
   have gz:∀j (hj:j<l.length),w.cell? ((⟨b,off,none⟩:Addr).add j)=some (.int .u8 (l[j].toNat:Int)):=by
    intro j hj;have DL:j<n:=by omega
    have e1:=gW j DL;have e2:=fA j 0 (.int .u8 ((l.getD j 0).toNat:Int)) DL (by rw [e1];rfl)
    have e3:val j 0 = .int .u8 ((l.getD j 0).toNat:Int):=by generalize val j 0=u at e2 ⊢;cases e2;rfl
    have oS:=h.bd.bd.mem _ _ _ (cr j 0 DL (by omega))
    rw [addr_add];have Us:off+j*1+0=off+j:=by omega
    rw [Us,e3]at oS;rw [oS];simp [List.getD,List.getElem?_eq_getElem hj]
   exact run_convert_bytes_back w s t e ⟨b,off,none⟩ cap l (by rw [ah.hd,mY ah rfl]) (by rw [aE.hd,vg aE rfl]) (by rw [ak.hd,nG ak rfl]) gz
 ·cases hs
def Ut(h:Hyp P K N M β g tmps w p tt){t:TypeId}{x:Operand}(am:o.op = .makeInterface t x)(hs:step1 bL tt ops g p o=some (.go f)):Yields P K M β g f o tmps w:=by
 simp only [step1,am]at hs;split at hs
 case h_2=>cases hs
 rename_i y k eU iA z _ hd ab;obtain⟨r⟩:=dN h.tt ab;have ai:=dp (ds:=[]) h.bd h.dd hd
 have hc:P.concrete t=true∨k = .mf:=by
  have hk:=r.hk;cases KM:r.desc<;>simp [KM,jp]at hk
  all_goals first
   |exact .inr hk.symm
   |(left;simp [Program.concrete,r.hd,KM])
 split at hs
 ·cases hs
 ·rename_i hk;cases hs;rcases hc with hc|hc
  ·refine el h.bd (v:=.iface t ((⟨tmps,[]⟩:Act).eval x)) ?_ (.v _ _ (.iface t _ _ (lR ai)));simp only [execOp,am];exact hN _ (run_makeInterface w t _ hc)
  ·exact absurd hc hk
def Uu(h:Hyp P K N M β g tmps w p tt){fn:FuncId}{first er:Array Operand}(am:o.op = .makeFunc (.func fn) first er)(hs:step1 bL tt ops g p o=some (.go f)):Yields P K M β g f o tmps w:=by
 simp only [step1,am]at hs;rw [Bool.cond_eq_ite]at hs;split at hs
 case isFalse=>cases hs
 rename_i he;simp only [Option.map_eq_some_iff]at hs;obtain⟨ds,gq,hs⟩:=hs;cases hs;obtain⟨Z,ad⟩:=px gq;have qX:first = #[]:=by simpa using he
 subst qX;refine el h.bd (v:=.func (.func fn) #[] (er.map (⟨tmps,[]⟩:Act).eval)) ?_ ?_
 ·simp [execOp,am,Instr.makeFunc]
 ·have:er.map (⟨tmps,[]⟩:Act).eval=⟨er.toList.map (⟨tmps,[]⟩:Act).eval⟩:=by apply Array.ext';simp
  rw [this];refine .fn fn _ ds (by simp [Z]) λi v c ar hc=>?_
  simp only [List.getElem?_map,Option.map_eq_some_iff]at ar;obtain⟨y,bX,rfl⟩:=ar;exact dp h.bd h.dd (ad i y c bX hc)
def Uv(h:Hyp P K N M β g tmps w p tt){x:Operand}{i:Nat}(am:o.op = .extract x i)(hs:step1 bL tt ops g p o=some (.go f)):Yields P K M β g f o tmps w:=by
 simp only [step1,am]at hs;split at hs
 case h_2=>cases hs
 rename_i ds hd;simp only [Option.map_eq_some_iff]at hs;obtain⟨d,pE,hs⟩:=hs;cases hs;obtain⟨vs,ar,hlen,ai⟩:=Th (dp (ds:=[]) h.bd h.dd hd);have hi:i<ds.length:=(List.getElem?_eq_some_iff.1 pE).1;have ek:vs[i]? = some vs[i]:=List.getElem?_eq_getElem (by omega)
 refine el h.bd (v:=vs[i]) ?_ (ai i _ d ek pE);simp only [execOp,am,ar];refine hN _ ?_;simp [Instr.extract,ek]
end
section
variable {P:Program} {K:Ctx} {N:Nat} {M:Mem} {β:Nat→Option Nat} {st:az} {g:cG} {tmps:Array Value} {w:World} {o:Oper} {f:ji} {p:Path} {tt:c7} {bL:fw} {ops:List Oper}
def oT{op:BinOp}{t t2:TypeId}{x y:Operand}(am:o.op = .binOp op t x y t2){a b v:Value}(hx:(⟨tmps,[]⟩:Act).eval x=a)(bX:(⟨tmps,[]⟩:Act).eval y=b)
 (hg:(eqGuard op t x y a b).run P w = .ok () w) (h:(binOp op t a b).run P w = .ok v w):(execOp (Act.eval ⟨tmps,[]⟩) o).run P w = .ok (.value v) w:=by
 simp only [execOp,am,hx,bX];refine hN _ ?_;simp only [Sem.run_bind,hg,Result.andThen_ok,h]
def s_{op:BinOp}{t:TypeId}{x y:Operand}{a b:Value}(h:∀cs ds,¬ (a = .agg cs∧b = .agg ds))(ad:a = .nilIface→b = .nilIface→isConst y=true):(eqGuard op t x y a b).run P w = .ok () w:=by
 unfold eqGuard;cases op<;>try rfl
 all_goals
  simp only
  cases a<;>cases b<;>first
   |rfl
   |(exact absurd ⟨rfl,rfl⟩ (h _ _))
   |(have:=ad rfl rfl;cases y<;>simp [isConst]at this;simp)
def Uw(b4:eI P tt=true){d:Nat}{gm:TypeId}{vE:List (Option j')}{x y:V}{xs ys:List V}{gi oU:Value}{r:Bool}
 (he:hv ((look tt gm).map (·.k)::vE) (x::xs) (y::ys)=some r) (vF:cw M gi x) (vG:cw M oU y):∃c q,(Op.equalIn (d+1) gm gi oU).run P w = .ok c w∧hv vE xs ys=some q∧(c&&q)=r:=by
 cases ab:look tt gm with
 |none=>simp [ab,hv]at he
 |some aB=>
  obtain⟨row⟩:=dN b4 ab;have nN:=row.hd;simp only [ab,Option.map_some]at he;unfold hv at he;split at he<;>simp only [List.cons.injEq,reduceCtorEq]at *
  case h_2 ks kk k a l k' b m e1 e2 e3=>
   obtain⟨e1,rfl⟩:=e1;obtain⟨rfl,rfl⟩:=e2;obtain⟨rfl,rfl⟩:=e3;cases vF;cases vG
   rw [Bool.cond_eq_ite]at he;split at he
   case isFalse=>cases he
   rename_i hk;simp only [decide_eq_true_eq]at hk;subst hk;simp only [Option.map_eq_some_iff]at he;obtain⟨q,ax,ai⟩:=he;refine⟨decide (a=b),q,?_,ax,ai⟩
   have:∃ez,row.desc = .int ez:=by
    have:=row.hk
    rw [Option.some.inj e1]at this;cases hd:row.desc<;>simp [hd,jp]at this;exact⟨_,rfl⟩
   obtain⟨ez,hD⟩:=this;rw [hD]at nN;rw [run_equalIn_int w d gm k ez a b nN];rfl
  case h_3 ks a l b m e1 e2 e3=>
   obtain⟨e1,rfl⟩:=e1;obtain⟨rfl,rfl⟩:=e2;obtain⟨rfl,rfl⟩:=e3;cases vF;cases vG
   simp only [Option.map_eq_some_iff]at he;obtain⟨q,ax,ai⟩:=he;refine⟨decide (a=b),q,?_,ax,ai⟩
   have:row.desc = .string:=nG row (Option.some.inj e1)
   rw [this]at nN;rw [run_equalIn_string w d gm _ _ nN,yD,yD];by_cases la:a=b<;>simp [la]
  case h_4 ks a l b m e1 e2 e3=>
   obtain⟨e1,rfl⟩:=e1;obtain⟨rfl,rfl⟩:=e2;obtain⟨rfl,rfl⟩:=e3;cases vF;cases vG
   simp only [Option.map_eq_some_iff]at he;obtain⟨q,ax,ai⟩:=he;refine⟨(a == b),q,?_,ax,ai⟩
   have:row.desc = .bool:=DJ row (Option.some.inj e1)
   rw [this]at nN;rw [run_equalIn_bool' w d gm _ _ nN]
def lU(P:Program)(b2:List Field):List (Nat×TypeId×Nat):=b2.map λf=>(f.offset,f.type,P.cellsOf f.type)
def yT:∀{cq aq:List (Option j')} {xs ys:List V} {r:Bool},hv (cq++aq) xs ys=some r→
 ∃ah ak,hv cq (xs.take cq.length) (ys.take cq.length)=some ah∧hv aq (xs.drop cq.length) (ys.drop cq.length)=some ak∧(ah&&ak)=r∧cq.length≤xs.length∧cq.length≤ys.length∧∀k,k∈cq→k.isSome=true
 |[],aq,xs,ys,r,h=>⟨true,r,by simp [hv],by simpa using h,rfl,Nat.zero_le _,Nat.zero_le _,λk hk=>by cases hk⟩
 |k::cq,aq,xs,ys,r,h=>by
  simp only [List.cons_append]at h;unfold hv at h;split at h<;>simp only [List.cons.injEq,reduceCtorEq]at *
  ·rename_i ks kk k' a l adD b m e1;obtain⟨rfl,rfl⟩:=e1;rw [Bool.cond_eq_ite]at h;split at h
   case isFalse=>cases h
   rename_i hk;simp only [Option.map_eq_some_iff]at h;obtain⟨q,ax,rfl⟩:=h;obtain⟨ah,ak,Z,ad,al,aH,a6,bT⟩:=yT ax;refine⟨decide (a=b)&&ah,ak,?_,ad,by rw [Bool.and_assoc,al],by simpa using aH,by simpa using a6,λez hD=>?_⟩
   ·simp only [List.length_cons,List.take_succ_cons,hv,hk,cond_true,Z,Option.map_some]
   ·rcases List.mem_cons.1 hD with rfl|hD
    ·rfl
    ·exact bT ez hD
  ·rename_i ks a l b m e1;obtain⟨rfl,rfl⟩:=e1;simp only [Option.map_eq_some_iff]at h;obtain⟨q,ax,rfl⟩:=h;obtain⟨ah,ak,Z,ad,al,aH,a6,bT⟩:=yT ax;refine⟨decide (a=b)&&ah,ak,?_,ad,by rw [Bool.and_assoc,al],by simpa using aH,by simpa using a6,λez hD=>?_⟩
   ·simp only [List.length_cons,List.take_succ_cons,hv,Z,Option.map_some]
   ·rcases List.mem_cons.1 hD with rfl|hD
    ·rfl
    ·exact bT ez hD
  ·rename_i ks a l b m e1;obtain⟨rfl,rfl⟩:=e1;simp only [Option.map_eq_some_iff]at h;obtain⟨q,ax,rfl⟩:=h;obtain⟨ah,ak,Z,ad,al,aH,a6,bT⟩:=yT ax;refine⟨(a == b)&&ah,ak,?_,ad,by rw [Bool.and_assoc,al],by simpa using aH,by simpa using a6,λez hD=>?_⟩
   ·simp only [List.length_cons,List.take_succ_cons,hv,Z,Option.map_some]
   ·rcases List.mem_cons.1 hD with rfl|hD
    ·rfl
    ·exact bT ez hD
def pF(tt:c7)(gm:TypeId):Nat→List (Option j')
 | 0=>[(look tt gm).map (·.k)]
 |q+1=>match look tt gm with
  |some {k:=.bF gs,..}=>kC tt q gs
  |o=>[o.map (·.k)]
def yU(q:Nat)(f:Field)(b2:List Field):kC tt q (lU P (f::b2))=pF tt f.type q++kC tt q (lU P b2):=by
 cases q with
 |zero=>rfl
 |succ q=>
  simp only [kC,lU,List.map_cons,List.flatMap_cons,pF];rfl
def KN{t:TypeId}{aB:dS}(r:Row P t aB){gs:Array Field}(h:P.underlying t=some (.struct gs)):aB.k = .bF (lU P gs.toList):=by
 have hd:r.desc = .struct gs:=Option.some.inj (r.hd.symm.trans h);have:=r.hk
 rw [hd]at this;simp [jp]at this;exact this.symm
def KO{t:TypeId}{aB:dS}(r:Row P t aB){gs:List (Nat×TypeId×Nat)}(h:aB.k = .bF gs):∃b2:Array Field,P.underlying t=some (.struct b2)∧gs=lU P b2.toList:=by
 have Z:=r.hk;rw [h]at Z;cases hd:r.desc<;>simp [hd,jp]at Z
 rename_i b2;refine⟨b2,?_,Z.symm⟩
 rw [r.hd,hd]
def KP(b4:eI P tt=true){gm:TypeId}(h:∀gs,P.underlying gm≠some (.struct gs))(q:Nat):pF tt gm q=[(look tt gm).map (·.k)]:=by
 cases q with
 |zero=>rfl
 |succ q=>
  simp only [pF];split
  ·rename_i gs _ _ _ _ ab;obtain⟨row⟩:=dN b4 ab;obtain⟨b2,Z,_⟩:=KO row rfl;exact absurd Z (h b2)
  ·rfl
def DM(b4:eI P tt=true):∀(q:Nat) (b2:List Field),(∀k,k∈kC tt q (lU P b2)→k.isSome=true)→(kC tt q (lU P b2)).length=oJ P q b2
 | 0,b2,_=>by simp [kC,lU,oJ]
 |q+1,[],_=>by simp [kC,lU,oJ]
 |q+1,f::b2,h=>by
  rw [yU]at h ⊢;have a':=DM b4 (q+1) b2 λk hk=>h k (List.mem_append_right _ hk)
  have hc:oJ P (q+1) (f::b2)=(match P.underlying f.type with|some (.struct gs)=>oJ P q gs.toList|_=>1)+oJ P (q+1) b2:=by
   simp only [oJ,List.map_cons,List.sum_cons];rfl
  rw [List.length_append,a',hc]
  congr 1
  simp only [pF]at h ⊢;split
  ·rename_i gs _ _ _ _ ab;obtain⟨row⟩:=dN b4 ab;obtain⟨vH,Z,rfl⟩:=KO row rfl;rw [Z];refine DM b4 q vH.toList λk hk=>h k (List.mem_append_left _ ?_)
   rw [ab];exact hk
  ·rename_i o mp;cases am:look tt f.type with
   |none=>
    have:=h none (List.mem_append_left _ (by rw [am];simp))
    cases this
   |some aB=>
    obtain⟨row⟩:=dN b4 am;split
    ·rename_i gs hu;have:=KN row hu
     obtain⟨k,s,b,z,mZ⟩:=aB;simp only at this
     subst this;exact absurd am (mp _ _ _ _ _)
    ·rfl
def KQ (b4 : eI P tt = true) {d : Nat} {f : Field} {b2 : List Field} {i : Nat} {vE : List (Option j')} {xs ys : List V} {vs us : List Value} {r : Bool} (pG : f.offset = i) (h7 : ¬ f.name = "_") (h5 : (isAgg f.type).run P w = .ok false w)
 (he:hv ((look tt f.type).map (·.k)::vE) xs ys=some r)
 (ar:∀(j:Nat) v x,vs[i+j]? = some v→xs[j]? = some x→cw M v x) (hu:∀(j:Nat) v x,us[i+j]? = some v→ys[j]? = some x→cw M v x) (lb:i+xs.length≤vs.length) (qQ:i+ys.length≤us.length)
 (a':∀(q:Bool),∀{vI vJ:List V},hv vE vI vJ=some q→(∀(j:Nat) v x,vs[i+1+j]? = some v→vI[j]? = some x→cw M v x)→(∀(j:Nat) v x,us[i+1+j]? = some v→vJ[j]? = some x→cw M v x)→i+1+vI.length≤vs.length→i+1+vJ.length≤us.length→(Op.eqFields (d+1) ⟨vs⟩ ⟨us⟩ b2).run P w = .ok q w):
 (Op.eqFields (d+1) ⟨vs⟩ ⟨us⟩ (f::b2)).run P w = .ok r w:=by
 cases xs with
 |nil=>simp [hv]at he
 |cons x xs=>
  cases ys with
  |nil=>simp [hv]at he
  |cons y ys=>
   simp only [List.length_cons]at lb qQ;obtain⟨gi,ek⟩:∃gi,vs[i]? = some gi:=⟨_,List.getElem?_eq_getElem (by omega)⟩
   obtain⟨oU,KR⟩:∃oU,us[i]? = some oU:=⟨_,List.getElem?_eq_getElem (by omega)⟩
   have vF:=ar 0 gi x ek rfl;have vG:=hu 0 oU y KR rfl
   have yV:∀{zs:List Value} {z:Value},zs[i]? = some z→(part f.type ⟨zs⟩ f.offset).run P w = .ok z w:=by
    intro zs z dM;have:(⟨zs⟩:Array Value)[f.offset]? = some z:=by rw [pG];simpa using dM
    simp only [part,Sem.run_bind,h5,Result.andThen_ok,this];rfl
   obtain⟨c,q,Z,ad,al⟩:=Uw (P:=P) (w:=w) (M:=M) b4 (d:=d) he vF vG;have aH:=a' q ad (λj v z Z ad=>ar (j+1) v z (by rw [←Z];congr 1;omega) (by simpa using ad)) (λj v z Z ad=>hu (j+1) v z (by rw [←Z];congr 1;omega) (by simpa using ad)) (by omega) (by omega)
   simp only [Op.eqFields];rw [if_pos h7];simp only [Sem.run_bind,yV ek,yV KR,Result.andThen_ok,Z];cases c
   ·simp [←al]
   ·simp [←al,aH]
def Ux(b4:eI P tt=true):∀(q:Nat) {d:Nat} {b2:List Field} {i:Nat} {xs ys:List V} {vs us:List Value} {r:Bool},qL P q i b2=true→hv (kC tt q (lU P b2)) xs ys=some r→
 (∀(j:Nat) v x,vs[i+j]? = some v→xs[j]? = some x→cw M v x)→(∀(j:Nat) v x,us[i+j]? = some v→ys[j]? = some x→cw M v x)→i+xs.length≤vs.length→i+ys.length≤us.length→
 (Op.eqFields (d+q+1) ⟨vs⟩ ⟨us⟩ b2).run P w = .ok r w:=by
 intro q;induction q with
 |zero=>
  intro d b2;induction b2 with
  |nil=>intro i xs ys vs us r _ he _ _ _ _;cases xs<;>cases ys<;>simp [kC,lU,hv]at he;subst he;simp [Op.eqFields]
  |cons f b2 a'=>
   intro i xs ys vs us r a7 he ar hu lb qQ;simp only [qL,sW,Bool.and_eq_true,Nat.beq_eq,Bool.not_eq_true',decide_eq_false_iff_not]at a7;obtain⟨⟨pG,h7⟩,fJ⟩:=a7
   have ta:(∀gs,P.underlying f.type≠some (.struct gs))∧qL P 0 (i+1) b2=true∧(isAgg f.type).run P w = .ok false w:=by
    simp only [isAgg,Sem.run_bind];split at fJ
    ·rename_i k hk;refine⟨λgs h=>(by rw [hk]at h;cases h),fJ,?_⟩;rw [Go.run_underlying hk];rfl
    ·rename_i hk;refine⟨λgs h=>(by rw [hk]at h;cases h),fJ,?_⟩;rw [Go.run_underlying hk];rfl
    ·rename_i hk;refine⟨λgs h=>(by rw [hk]at h;cases h),fJ,?_⟩;rw [Go.run_underlying hk];rfl
    ·simp at fJ
    ·cases fJ
   exact KQ b4 pG h7 ta.2.2 (by rw [yU,KP b4 ta.1]at he;exact he) ar hu lb qQ λq' vI vJ m5 mm DN Z ad=>a' ta.2.1 m5 mm DN Z ad
 |succ q Uy=>
  intro d b2;induction b2 with
  |nil=>intro i xs ys vs us r _ he _ _ _ _;cases xs<;>cases ys<;>simp [kC,lU,hv]at he;subst he;simp [Op.eqFields]
  |cons f b2 a'=>
   intro i xs ys vs us r a7 he ar hu lb qQ;have vK:=a7;simp only [qL,sW,Bool.and_eq_true,Nat.beq_eq,Bool.not_eq_true',decide_eq_false_iff_not]at a7;obtain⟨⟨pG,h7⟩,fJ⟩:=a7;by_cases eh:∃gs,P.underlying f.type=some (.struct gs)
   ·obtain⟨gs,tb⟩:=eh;rw [tb]at fJ;simp only [Bool.and_eq_true,Bool.not_eq_true',Nat.beq_eq]at fJ;obtain⟨⟨⟨Uz,UA⟩,UB⟩,KS⟩:=fJ;rw [yU]at he;obtain⟨ah,ak,e1,e2,e3,ga,ii,q4⟩:=yT he
    have iF:∃aB,look tt f.type=some aB:=by
     cases ab:look tt f.type with
     |none=>have:=q4 none (by simp [pF,ab]);cases this
     |some aB=>exact⟨aB,rfl⟩
    obtain⟨aB,yW⟩:=iF;obtain⟨row⟩:=dN b4 yW;have hk:=KN row tb
    have q0:pF tt f.type (q+1)=kC tt q (lU P gs.toList):=by
     obtain⟨k,s,b,z,mZ⟩:=aB;simp only at hk
     subst hk;simp only [pF,yW]
    rw [q0]at e1 e2 ga ii q4;have hn:=DM b4 q gs.toList q4;rw [hn,←UA]at e1 e2 ga ii;generalize bA:P.cellsOf f.type=n at e1 e2 ga ii
    obtain⟨info,yG⟩:=info_of_underlying tb
    have yV:∀zs:List Value,(part f.type ⟨zs⟩ f.offset).run P w = .ok (.agg ⟨(zs.drop i).take n⟩) w:=by
     intro zs
     have:(⟨zs⟩:Array Value).extract i (i+n)=⟨(zs.drop i).take n⟩:=by
      apply Array.ext';rw [Array.toList_extract];simp [List.extract]
     simp only [part,isAgg,Sem.run_bind,run_underlying tb,run_sizeOf w yG,Result.andThen_ok,Sem.run_pure,pG,bA];simp [this,run_sizeOf w yG,bA]
    have kE:∀{zs:List Value} {cs:List V},(∀(j:Nat) v x,zs[i+j]? = some v→cs[j]? = some x→cw M v x)→∀(j:Nat) v x,((zs.drop i).take n)[0+j]? = some v→(cs.take n)[j]? = some x→cw M v x:=by
     intro zs cs h j v x Z ad;rw [Nat.zero_add,List.getElem?_take]at Z;rw [List.getElem?_take]at ad;split at Z
     ·rename_i hj;rw [if_pos hj]at ad;rw [List.getElem?_drop]at Z;exact h j v x Z ad
     ·cases Z
    have py:P.fieldsOf f.type=gs:=by simp [Program.fieldsOf,tb]
    have hin:(Op.equalIn (d+(q+1)+1) f.type (.agg ⟨(vs.drop i).take n⟩) (.agg ⟨(us.drop i).take n⟩)).run P w = .ok ah w:=by
     rw [run_equalIn_agg w (d+(q+1)) f.type _ _ (by rw [py];exact tb) Uz,py]
     exact Uy (d:=d) (i:=0) UB e1 (kE ar) (kE hu) (by simp;omega) (by simp;omega)
    have KT:∀{zs:List Value} {cs:List V},(∀(j:Nat) v x,zs[i+j]? = some v→cs[j]? = some x→cw M v x)→∀(j:Nat) v x,zs[i+n+j]? = some v→(cs.drop n)[j]? = some x→cw M v x:=by
     intro zs cs h j v x Z ad;rw [List.getElem?_drop]at ad;exact h (n+j) v x (by rw [←Nat.add_assoc];exact Z) ad
    rw [bA]at KS;have hM:=a' (i:=i+n) KS e2 (KT ar) (KT hu) (by simp;omega) (by simp;omega)
    simp only [Op.eqFields];rw [if_pos h7];simp only [Sem.run_bind,yV,Result.andThen_ok,hin];cases ah
    ·simp [←e3]
    ·simp [←e3,hM]
   ·have ta:qL P (q+1) (i+1) b2=true∧(isAgg f.type).run P w = .ok false w:=by
     simp only [isAgg,Sem.run_bind];split at fJ
     ·rename_i k hk;refine⟨fJ,?_⟩;rw [Go.run_underlying hk];rfl
     ·rename_i hk;refine⟨fJ,?_⟩;rw [Go.run_underlying hk];rfl
     ·rename_i hk;refine⟨fJ,?_⟩;rw [Go.run_underlying hk];rfl
     ·rename_i gs hk;exact absurd ⟨gs,hk⟩ eh
     ·cases fJ
    exact KQ b4 pG h7 ta.2 (by rw [yU,KP b4 (λgs h=>eh ⟨gs,h⟩)]at he;exact he) ar hu lb qQ λq' vI vJ m5 mm DN Z ad=>a' ta.1 m5 mm DN Z ad
def KU(b4:eI P tt=true){t:TypeId}{b2:List (Nat×TypeId×Nat)}{eU iA:Nat}{z:List V}{mZ:List (Nat×TypeId)}(ab:look tt t=some {k:=.bF b2,size:=eU,bytes:=iA,zero:=z,hZ:=mZ})(he:C1 P t=true){xs ys:List V}{r:Bool}(ai:hv (kC tt 4 b2) xs ys=some r)
 {gi oU:Value} (ar:cw M gi (.agg xs)) (hu:cw M oU (.agg ys)):∃vs us,gi = .agg ⟨vs⟩∧oU = .agg ⟨us⟩∧(Op.equalIn 10000 t (.agg ⟨vs⟩) (.agg ⟨us⟩)).run P w = .ok r w∧∀op a b,(eqGuard op t a b (.agg ⟨vs⟩) (.agg ⟨us⟩)).run P w = .ok () w:=by
 obtain⟨row⟩:=dN b4 ab;cases ar with
 |agg vs _ hn Z fA=>
  cases hu with
  |agg us _ yy k4 UC=>
   refine⟨vs,us,rfl,rfl,?_⟩
   unfold C1 at he;split at he
   case h_2=>cases he
   rename_i vH nN;simp only [Bool.and_eq_true,Bool.not_eq_true']at he;obtain⟨⟨ad,al⟩,aH⟩:=he;have vK:P.fieldsOf t=vH:=by simp [Program.fieldsOf,nN]
   have DO:row.desc = .struct vH:=Option.some.inj (row.hd.symm.trans nN)
   have nH:b2=vH.toList.map λf=>(f.offset,f.type,P.cellsOf f.type):=by
    have:=row.hk
    rw [DO]at this;simp [jp]at this;exact this.symm
   refine⟨?_,λop a b=>run_eqGuard_agg w op t a b _ _ al⟩
   rw [run_equalIn_agg w 9999 t _ _ (by rw [vK];exact nN) ad,vK]
   refine Ux b4 4 (d:=9994) (i:=0) (xs:=xs) (ys:=ys) aH (by rw [nH]at ai;exact ai) (λj v x a6 bT=>fA j v x (by simpa using a6) bT) (λj v x a6 bT=>UC j v x (by simpa using a6) bT) (by omega) (by omega)
def UD(h:Hyp P K N M β g tmps w p tt){op:BinOp}{t t2:TypeId}{x y:Operand}(am:o.op = .binOp op t x y t2)(hs:step1 (h6 P) tt ops g p o=some (.go f))(b5:∀q,q∈f.aL→q):Yields P K M β g f o tmps w:=by
 simp only [step1,am]at hs;split at hs
 case h_3=>cases hs
 case h_1=>
  rename_i xs ys ha hb;have m7:=lR (dp (ds:=[]) h.bd h.dd ha);have mq:=lR (dp (ds:=[]) h.bd h.dd hb);split at hs
  case h_2=>cases hs
  rename_i b2 eU iA z _ ab;rw [Bool.cond_eq_ite]at hs;split at hs
  case isFalse=>cases hs
  rename_i he;split at hs
  ·rename_i r ai;cases hs;obtain⟨vs,us,e1,e2,Z,ad⟩:=KU (w:=w) (M:=M) h.tt ab he ai m7 mq;exact el h.bd (oT am e1 e2 (ad _ _ _) (by rw [run_eql_struct,Z];rfl)) (.v _ _ (.bool _))
  ·rename_i r ai;cases hs;obtain⟨vs,us,e1,e2,Z,ad⟩:=KU (w:=w) (M:=M) h.tt ab he ai m7 mq;exact el h.bd (oT am e1 e2 (ad _ _ _) (by rw [run_neq_struct,Z];rfl)) (.v _ _ (.bool _))
  ·cases hs
 rename_i a b ha hb;simp only [Option.map_eq_some_iff]at hs;obtain⟨⟨z,aL⟩,dM,hs⟩:=hs;cases hs;have m7:=dp (ds:=[]) h.bd h.dd ha;have mq:=dp (ds:=[]) h.bd h.dd hb;unfold JK at dM;split at dM
 ·rename_i cq m aq n;have e1:=ke m7;have e2:=ke mq;split at dM
  ·rename_i z0 hsh;cases dM;obtain⟨v,ar,ai⟩:=T9 (P:=P) (w:=w) (M:=M) (k':=aq) hsh b5 t;exact el h.bd (oT am e1 e2 (s_ (by simp) (by simp)) ar) (.v _ _ ai)
  rw [Bool.cond_eq_ite]at dM;split at dM
  case isFalse=>cases dM
  rename_i hk;simp only [decide_eq_true_eq]at hk;subst hk;obtain⟨v,ar,ai⟩:=T8 (P:=P) (w:=w) (M:=M) dM b5 t;exact el h.bd (oT am e1 e2 (s_ (by simp) (by simp)) ar) (.v _ _ ai)
 ·have e1:=kG m7;have e2:=kG mq;obtain⟨v,ar,ai⟩:=T_ (P:=P) (w:=w) (M:=M) dM b5 t;exact el h.bd (oT am e1 e2 (s_ (by simp) (by simp)) ar) (.v _ _ ai)
 ·rename_i cH iD;have e1:=qM m7;have e2:=qM mq;obtain⟨dep,hm⟩:∃d,Op.maxDepth=d+1:=⟨9999,rfl⟩;cases ab:look tt t with
  |none=>rw [ab]at dM;simp at dM
  |some aB=>
   rw [ab]at dM;obtain⟨r⟩:=dN h.tt ab;split at dM<;>cases dM
   ·rename_i hk;simp at hk
    refine el h.bd (v:=.bool (cH == iD)) (oT am e1 e2 (s_ (by simp) (by simp)) ?_) (.v _ _ (.bool _))
    simp only [binOp,Sem.run_bind];rw [Op.equal,hm,Op.equalIn];simp [r.run_underlying,DJ r hk]
   ·rename_i hk;simp at hk
    refine el h.bd (v:=.bool (!(cH == iD))) (oT am e1 e2 (s_ (by simp) (by simp)) ?_) (.v _ _ (.bool _))
    simp only [binOp,Sem.run_bind];rw [Op.equal,hm,Op.equalIn];simp [r.run_underlying,DJ r hk]
 ·cases ab:look tt t with
  |none=>rw [ab]at dM;simp at dM
  |some aB=>
   rw [ab]at dM;simp only [Option.map_some]at dM;obtain⟨r⟩:=dN h.tt ab;rw [Bool.cond_eq_ite]at dM;split at dM
   case isFalse=>cases dM
   rename_i hc;simp only [Bool.and_eq_true]at hc
   have KV:(eqGuard op t x y ((⟨tmps,[]⟩:Act).eval x) ((⟨tmps,[]⟩:Act).eval y)).run P w = .ok () w:=by
    refine s_ ?_ (λ_ _=>hc.2)
    rintro cs ds ⟨_,bw⟩
    rw [bw]at mq;have DP:=hc.1;unfold yn at DP;split at DP<;>first|(cases lR mq;done)|(cases DP;done)
   split at dM<;>cases dM
   ·rename_i res hn;obtain⟨Z,ad⟩:=KK (w:=w) r m7 mq hc.1 hn;refine el h.bd (v:=.bool res) (oT am rfl rfl KV ?_) (.v _ _ (.bool _));rw [ad .eql];simp [Z]
   ·rename_i res hn;obtain⟨Z,ad⟩:=KK (w:=w) r m7 mq hc.1 hn;refine el h.bd (v:=.bool (!res)) (oT am rfl rfl KV ?_) (.v _ _ (.bool _));rw [ad .neq];simp [Z]
def UE(h:Hyp P K N M β g tmps w p tt){s:TypeId}{x:Operand}{i:Nat}(am:o.op = .fieldAddr s x i)(hs:step1 bL tt ops g p o=some (.go f)):Yields P K M β g f o tmps w:=by
 simp only [step1,am]at hs;split at hs
 ·rename_i q off b2 eU iA z _ hd ab;obtain⟨r⟩:=dN h.tt ab;split at hs
  case h_2=>cases hs
  rename_i c_ gm tc a7;rw [Bool.cond_eq_ite]at hs;split at hs
  case isFalse=>cases hs
  rename_i hc;cases hs;obtain⟨b,hb,ar⟩:=oK (dp (ds:=[]) h.bd h.dd hd);refine el h.bd (v:=.pointer (some ⟨b,off+c_,none⟩)) ?_ (.ptr _ _ _ hb);simp only [execOp,am,ar];exact hN _ (J2 r rfl a7 (by simpa using hc) b off)
 ·rename_i cs b2 eU iA z _ hd ab;obtain⟨r⟩:=dN h.tt ab;split at hs
  case h_2=>cases hs
  rename_i c_ gm tc a7;split at hs
  case h_2=>cases hs
  rename_i s0 yX;rw [Bool.cond_eq_ite]at hs;split at hs
  case isFalse=>cases hs
  rename_i hc;simp only [Bool.and_eq_true,Nat.ble_eq]at hc;obtain⟨b,off,val,ar,cr,Z,ai⟩:=yB (dp (ds:=[]) h.bd h.dd hd)
  have et:(execOp (Act.eval ⟨tmps,[]⟩) o).run P w = .ok (.value (.pointer (some ⟨b,off+c_,none⟩))) w:=by
   simp only [execOp,am,ar];exact hN _ (J2 r rfl a7 hc.1 b off)
  simp only [V.cells]at cr Z ai;rw [Bool.cond_eq_ite]at hs;split at hs
  ·cases hs;have hlen:((cs.drop c_).take tc).length=tc:=by simp;omega
   refine el h.bd et (.eg b (off+c_) _ (λj=>val (c_+j)) (λj hj=>?_) (λj hj=>?_) (λj c hj=>?_))
   ·simp only [V.cells,hlen]at hj;rw [Nat.add_assoc];exact cr _ (by omega)
   ·simp only [V.cells,hlen]at hj;exact Z _ (by omega)
   ·simp only [V.cells]at hj;rw [List.getElem?_take]at hj;split at hj
    ·rw [List.getElem?_drop]at hj;exact ai _ c hj
    ·cases hj
  ·rw [Bool.cond_eq_ite]at hs;split at hs
   case isFalse=>cases hs
   rename_i dz;split at hs
   case h_2=>cases hs
   rename_i c iX;rw [Bool.cond_eq_ite]at hs;split at hs
   ·cases hs
   ·rename_i UF;cases hs;have kg:=sZ (x:=c) (by simpa using UF)
    refine el h.bd et (.eg b (off+c_) c (λj=>val (c_+j)) (λj hj=>?_) (λj hj=>?_) (λj kd hj=>?_))
    ·rw [kg]at hj;rw [Nat.add_assoc];exact cr _ (by have:=(List.getElem?_eq_some_iff.1 iX).1;simp at hj;omega)
    ·rw [kg]at hj;exact Z _ (by have:=(List.getElem?_eq_some_iff.1 iX).1;simp at hj;omega)
    ·rw [kg]at hj;cases j with
     |zero=>simp at hj;subst hj;exact ai _ _ iX
     |succ j=>simp at hj
 ·cases hs
def UG(h:Hyp P K N M β g tmps w p tt){s:TypeId}{x:Operand}{i:Nat}(am:o.op = .field s x i)(hs:step1 bL tt ops g p o=some (.go f)):Yields P K M β g f o tmps w:=by
 simp only [step1,am]at hs;split at hs
 case h_3=>cases hs
 case h_2=>
  rename_i cs b2 eU iA z _ hd ab;obtain⟨r⟩:=dN h.tt ab;split at hs
  case h_2=>cases hs
  rename_i c_ gm tc a7;split at hs
  case h_2=>cases hs
  rename_i s0 c yX iX;obtain⟨DQ⟩:=dN h.tt yX;rw [Bool.cond_eq_ite]at hs;split at hs
  ·cases hs
  rename_i hc;simp only [Bool.or_eq_true,not_or,Bool.not_eq_true,Bool.not_eq_true',Bool.not_eq_false,Nat.beq_eq]at hc;cases hs;have jP:=dp (ds:=[]) h.bd h.dd hd;generalize q7:(⟨tmps,[]⟩:Act).eval x=gi at jP
  cases jP with
  |agg vs _ hn Z ai=>
   have cB:c_<cs.length:=(List.getElem?_eq_some_iff.1 iX).1;have ek:vs[c_]? = some vs[c_]:=List.getElem?_eq_getElem (by omega)
   obtain⟨ha,hb⟩:=J3 (w:=w) r rfl a7 DQ vs (by omega)
   refine el h.bd (v:=vs[c_]) ?_ (ai _ _ c ek iX);simp only [execOp,am,q7];exact hN _ (hb hc.1.1 _ ek)
 rename_i cs b2 eU iA z _ hd ab;obtain⟨r⟩:=dN h.tt ab;split at hs
 case h_2=>cases hs
 rename_i c_ gm tc a7;split at hs
 case h_2=>cases hs
 rename_i s0 yX;obtain⟨DQ⟩:=dN h.tt yX;rw [Bool.cond_eq_ite]at hs;split at hs
 case isFalse=>cases hs
 rename_i hc;simp only [Nat.ble_eq]at hc;obtain⟨vs,ar,hlen,Z,ai⟩:=Tg (dp (ds:=[]) h.bd h.dd hd);obtain⟨ha,hb⟩:=J3 (w:=w) r rfl a7 DQ vs (by omega)
 rw [Bool.cond_eq_ite]at hs;split at hs
 ·rename_i h5;cases hs;refine el h.bd (v:=.agg ⟨(vs.drop c_).take tc⟩) ?_ (.v _ _ (.agg _ _ (by simp;omega) (λv ar=>Z v (List.mem_of_mem_drop (List.mem_of_mem_take ar))) (λj v c ar ih=>?_)))
  ·simp only [execOp,am,ar];exact hN _ (ha h5)
  ·rw [List.getElem?_take]at ar ih;split at ar
   ·rename_i hj;rw [if_pos hj,List.getElem?_drop]at ih;rw [List.getElem?_drop]at ar;exact ai _ v c ar ih
   ·cases ar
 ·rename_i h5;split at hs
  case h_2=>cases hs
  rename_i c iX;cases hs;have cB:c_<cs.length:=(List.getElem?_eq_some_iff.1 iX).1;have ek:vs[c_]? = some vs[c_]:=List.getElem?_eq_getElem (by omega)
  refine el h.bd (v:=vs[c_]) ?_ (.v _ _ (ai _ _ c ek iX));simp only [execOp,am,ar];exact hN _ (hb (by simpa using h5) _ ek)
def UH{x y:V}(ar:fX x y){k b off:Nat}{val:Nat→Value}(hk:x.cells.length=k)(cr:∀q,q<k→M b (off+q)=some (val q))(Z:∀q,q<k→(val q).oneCell'=true)
 (ai:∀(q:Nat) c,x.cells[q]? = some c→cw M (val q) c):b3 M β (.pointer (some ⟨b,off,none⟩)) (.eg y):=by
 subst hk;have bX:=ar M _ (J0 Z ai);cases hx:x.isAgg with
 |true=>
  rw [hx]at bX;simp only [cond_true]at bX;cases bX with
  |agg vs cs hn k4 e_=>
   have hlen:cs.length=x.cells.length:=by simpa using hn.symm
   refine .eg b off _ val (λj hj=>cr j (by simp only [V.cells]at hj;omega)) (λj hj=>Z j (by simp only [V.cells]at hj;omega)) (λj c hj=>?_)
   simp only [V.cells]at hj;have q1:j<x.cells.length:=by have:=(List.getElem?_eq_some_iff.1 hj).1;omega
   exact e_ j (val j) c (by simp [q1]) hj
  |any _ k4=>simp [Value.oneCell']at k4
 |false=>
  rw [hx]at bX;simp only [cond_false]at bX;have td:=sZ hx;have hz:=Z 0 (by rw [td];simp)
  have UI:y.isAgg=false:=by
   cases y<;>first|rfl|skip
   exfalso
   generalize val 0=u at bX hz
   cases bX;simp [Value.oneCell']at hz
  have DR:=sZ UI;refine .eg b off y val (λj hj=>cr j (by rw [td];rw [DR]at hj;exact hj)) (λj hj=>Z j (by rw [td];rw [DR]at hj;exact hj)) (λj c hj=>?_)
  rw [DR]at hj;cases j with
  |zero=>simp at hj;subst hj;exact bX
  |succ j=>simp at hj
def UJ(h:Hyp P K N M β g tmps w p tt){t:TypeId}{x i:Operand}(am:o.op = .indexAddr t x i)(hs:step1 bL tt ops g p o=some (.go f))(b5:∀q,q∈f.aL→q):Yields P K M β g f o tmps w:=by
 simp only [step1,am]at hs;split at hs
 case h_2=>cases hs
 rename_i k n get kk j e eU iA z _ hx hi ab;obtain⟨r⟩:=dN h.tt ab;split at hs
 case h_2=>cases hs
 rename_i aq size KL z2 d9;obtain⟨db⟩:=dN h.tt d9;rw [Bool.cond_eq_ite]at hs;split at hs
 case isFalse=>cases hs
 rename_i hc;simp only [Bool.and_eq_true,Nat.beq_eq,Nat.ble_eq]at hc;obtain⟨rfl,KW⟩:=hc
 have q8:∃(y:V) (rs:List eD) (aL:List Prop),f={e:=some {d:=.eg y},rs,aL}∧fX (get j.toNat) y∧a_ j n=true:=by
  split at hs
  ·rename_i y rs d';cases hs;exact⟨_,_,_,rfl,b5 _ (by simp),b5 (a_ j n=true) (by simp)⟩
  ·cases hs;exact⟨_,_,_,rfl,λ_ _ h=>h,b5 (a_ j n=true) (by simp)⟩
  ·cases hs
 obtain⟨y,rs,aL,rfl,cK,fl⟩:=q8;have fl:=KG fl;have DS:=ke (dp (ds:=[]) h.bd h.dd hi);rcases pu (dp (ds:=[]) h.bd h.dd hx) with⟨_,lS⟩|⟨b,off,cap,val,ar,_,hk,cr,Z,ai⟩
 ·omega
 ·have cB:j.toNat<n:=by omega
  have bX:b3 M β (.pointer (some ⟨b,off+j.toNat*k,none⟩)) (.eg y):=
   UH cK (hk _ cB) (λq ax=>cr _ q cB ax) (λq ax=>Z _ q cB ax) (λq c ax=>ai _ q c cB ax)
  refine el h.bd (v:=.pointer (some ⟨b,off+j.toNat*k,none⟩)) ?_ bX;simp only [execOp,am,ar,DS];exact hN _ (Tk r rfl db fl.1 fl.2)
def UK(h:Hyp P K N M β g tmps w p tt){t:TypeId}{x i:Operand}(am:o.op = .index t x i)(hs:step1 bL tt ops g p o=some (.go f))(b5:∀q,q∈f.aL→q):Yields P K M β g f o tmps w:=by
 simp only [step1,am]at hs;split at hs
 case h_2=>cases hs
 rename_i l kk j eU iA z _ hx hi ab;obtain⟨r⟩:=dN h.tt ab;cases hs;have hb:=KG (b5 (a_ j l.length=true) (by simp))
 have ex:=kG (dp (ds:=[]) h.bd h.dd hx);have DS:=ke (dp (ds:=[]) h.bd h.dd hi);refine el h.bd (v:=.int .u8 (l.getD j.toNat 0).toNat) ?_ (.v _ _ (.int _ _));simp only [execOp,am,ex,DS];exact hN _ (Tl r rfl hb.1 hb.2)
def UL{k n m:Nat}{get:Nat→V}{a:Nat}{b off cap:Nat}
 {val:Nat→Nat→Value} (hk:∀i,i<n→(get i).cells.length=k) (cr:∀i j,i<n→j<k→M b (off+i*k+j)=some (val i j)) (Z:∀i j,i<n→j<k→(val i j).oneCell'=true)
 (ai:∀(i j:Nat) c,i<n→(get i).cells[j]? = some c→cw M (val i j) c) (hm:a+m≤n) (hc:m≤cap):
 cw M (.slice (some ⟨b,off+a*k,none⟩) m cap) (.bm k m λi=>get (a+i)):=by
 refine .bm b (off+a*k) k m cap _ (λi j=>val (a+i) j) hc (λi hi=>hk _ (by omega)) (λi j hi hj=>?_) (λi j hi hj=>Z _ _ (by omega) hj) (λi j c hi kg=>ai _ _ _ (by omega) kg)
 have:=cr (a+i) j (by omega) hj
 rw [Nat.add_mul]at this
 rwa [show off+a*k+i*k+j=off+(a*k+i*k)+j by omega]
def yY{t e:TypeId}{aB bN:dS}(r:Row P t aB)(hk:aB.k = .bm e)(db:Row P e bN){base:Option Addr}{n cap:Nat}{lo hi:Option Value}{a b:Nat}
 (ij:lo=none∧a=0∨∃k,lo=some (.int k a)) (hO:hi=none∧b=n∨∃k,hi=some (.int k b)) (la:a≤b) (nO:b≤n) (kK:n≤cap):
 (Instr.sliceAt t (.slice base n cap) lo hi none).run P w = .ok (.slice (if cap=a then base else base.map (·.add (a*bN.size))) (b-a) (cap-a)) w:=by
 have hu:=r.run_underlying w;rw [mY r hk]at hu;have yZ:b≤cap:=by omega
 rcases ij with⟨rfl,rfl⟩|⟨cq,rfl⟩<;>rcases hO with⟨rfl,rfl⟩|⟨aq,rfl⟩
 ·simp [Instr.sliceAt,hu,Instr.slice,Instr.sliceBounds,db.run_sizeOf]
 ·simp [Instr.sliceAt,hu,Instr.slice,Instr.sliceBounds,Instr.sliceBound,asIntOf,db.run_sizeOf,yZ]
 ·simp [Instr.sliceAt,hu,Instr.slice,Instr.sliceBounds,Instr.sliceBound,asIntOf,db.run_sizeOf,la]
 ·simp [Instr.sliceAt,hu,Instr.slice,Instr.sliceBounds,Instr.sliceBound,asIntOf,db.run_sizeOf,yZ,la]
end
section
variable {P:Program} {K:Ctx} {N:Nat} {M:Mem} {β:Nat→Option Nat} {st:az} {g:cG} {tmps:Array Value} {w:World} {o:Oper} {f:ji} {p:Path} {tt:c7} {bL:fw} {ops:List Oper}
def oV{t:TypeId}{x:Operand}{lo hi ka:Option Operand}(am:o.op = .slice t x lo hi ka){v u:Value}(hx:(⟨tmps,[]⟩:Act).eval x=v){a b:Option Value}(ha:lo.map (⟨tmps,[]⟩:Act).eval=a)(hb:hi.map (⟨tmps,[]⟩:Act).eval=b){c:Option Value}(hm:ka.map (⟨tmps,[]⟩:Act).eval=c)
 (h:(Instr.sliceAt t v a b c).run P w = .ok u w):(execOp (Act.eval ⟨tmps,[]⟩) o).run P w = .ok (.value u) w:=by
 simp only [execOp,am,hx,ha,hb,hm];exact hN _ h
def y0{t:TypeId}{aB:dS}(r:Row P t aB)(hk:aB.k = .str){l:ae7}{lo hi:Option Value}{a b:Nat}
 (ij:lo=none∧a=0∨∃k,lo=some (.int k a)) (hO:hi=none∧b=l.length∨∃k,hi=some (.int k b)) (la:a≤b) (nO:b≤l.length):
 (Instr.sliceAt t (.string ⟨⟨l⟩⟩) lo hi none).run P w = .ok (.string ⟨⟨(l.take b).drop a⟩⟩) w:=by
 have hu:=r.run_underlying w;rw [nG r hk]at hu;have hs:(⟨⟨l⟩⟩:ByteArray).size=l.length:=rfl
 have hx:(⟨⟨l⟩⟩:ByteArray).extract a b=⟨⟨(l.take b).drop a⟩⟩:=by
  have:=ByteArray.extract_mk l a b
  rw [List.drop_take];exact this
 rcases ij with⟨rfl,rfl⟩|⟨cq,rfl⟩<;>rcases hO with⟨rfl,rfl⟩|⟨aq,rfl⟩
 ·simp [Instr.sliceAt,hu,Instr.slice,Instr.sliceBounds]
 ·simp [Instr.sliceAt,hu,Instr.slice,Instr.sliceBounds,Instr.sliceBound,asIntOf,nO,hs,hx]
 ·simp [Instr.sliceAt,hu,Instr.slice,Instr.sliceBounds,Instr.sliceBound,asIntOf,la,hs,hx]
 ·simp [Instr.sliceAt,hu,Instr.slice,Instr.sliceBounds,Instr.sliceBound,asIntOf,nO,la,hs,hx]
def vL{v:Value}{k n:Nat}{get:Nat→V}(ar:b3 M β v (.v (.bm k n get))){a b:Nat}(la:a≤b)(nO:b≤n){base:Option Addr}{cap:Nat}(q9:v = .slice base n cap)(kK:n≤cap):
 cw M (.slice (if cap=a then base else base.map (·.add (a*k))) (b-a) (cap-a)) (.bm k (b-a) λi=>get (a+i)):=by
 rcases pu ar with⟨Z|⟨a0,Z⟩,ad⟩|⟨mo,off,Kr,val,Z,hc,hk,cr,k4,ai⟩
 ·rw [q9]at Z;cases Z;have:b=0:=by omega
  subst this;have:a=0:=by omega
  subst this;exact .j_ _ _
 ·rw [q9]at Z;cases Z;have:b=0:=by omega
  subst this;have:a=0:=by omega
  subst this;exact .mO _ _ _
 ·rw [q9]at Z;cases Z;by_cases KX:cap=a
  ·rw [if_pos KX];have:b-a=0:=by omega
   rw [this];exact .bm mo off k 0 _ _ (λ_ _=>undef) (Nat.zero_le _) (by simp) (by simp) (by simp) (by simp)
  ·rw [if_neg KX];simp only [Option.map_some,addr_add];exact UL hk cr k4 ai (by omega) (by omega)
def UM(h:Hyp P K N M β g tmps w p tt){t:TypeId}{x:Operand}{lo hi ka:Option Operand}(am:o.op = .slice t x lo hi ka)(hs:step1 bL tt ops g p o=some (.go f))(b5:∀q,q∈f.aL→q):Yields P K M β g f o tmps w:=by
 have eP:∀{y:Option Operand} {kk:IntKind} {n:Int},y.map (λy=>rd g.env g.bB p tt o.type y)=some (some (.v (.int kk n)))→y.map (⟨tmps,[]⟩:Act).eval=some (.int kk n):=by
  intro y kk n bX;cases y with
  |none=>simp at bX
  |some y=>
   simp at bX
   simp [ke (dp (ds:=[]) h.bd h.dd bX)]
 have pH:∀{y:Option Operand},y.map (λy=>rd g.env g.bB p tt o.type y)=none→y.map (⟨tmps,[]⟩:Act).eval=none:=by
  intro y bX;simp at bX;simp [bX]
 simp only [step1,am]at hs;split at hs
 ·rename_i eU iA z _ ab;obtain⟨r⟩:=dN h.tt ab;split at hs
  ·rename_i l hx ij hO;cases hs;have ex:=kG (dp (ds:=[]) h.bd h.dd hx);have:=y0 (w:=w) r rfl (l:=l) (lo:=none) (hi:=none) (a:=0) (b:=l.length) (.inl ⟨rfl,rfl⟩) (.inl ⟨rfl,rfl⟩) (by omega) (by omega)
   simp at this
   exact el h.bd (oV am ex (pH ij) (pH hO) rfl this) (.v _ _ (.str _))
  ·rename_i l cq a hx ij hO;cases hs;have ex:=kG (dp (ds:=[]) h.bd h.dd hx);have hb:=q6 (b5 (gh a l.length=true) (by simp))
   obtain⟨dj,rfl⟩:=Int.eq_ofNat_of_zero_le hb.1;have:=y0 (w:=w) r rfl (l:=l) (lo:=some (.int cq dj)) (hi:=none) (a:=dj) (b:=l.length) (.inr ⟨_,rfl⟩) (.inl ⟨rfl,rfl⟩) (by omega) (by omega)
   simp at this
   exact el h.bd (oV am ex (eP ij) (pH hO) rfl this) (.v _ _ (.str _))
  ·rename_i l aq b hx ij hO;cases hs;have ex:=kG (dp (ds:=[]) h.bd h.dd hx);have hb:=q6 (b5 (gh b l.length=true) (by simp))
   obtain⟨bl,rfl⟩:=Int.eq_ofNat_of_zero_le hb.1;have:=y0 (w:=w) r rfl (l:=l) (lo:=none) (hi:=some (.int aq bl)) (a:=0) (b:=bl) (.inl ⟨rfl,rfl⟩) (.inr ⟨_,rfl⟩) (by omega) (by omega)
   simp at this
   exact el h.bd (oV am ex (pH ij) (eP hO) rfl this) (.v _ _ (.str _))
  ·rename_i l cq a aq b hx ij hO;cases hs;have ex:=kG (dp (ds:=[]) h.bd h.dd hx);have hb:=KH (b5 (oA a b l.length=true) (by simp))
   obtain⟨dj,rfl⟩:=Int.eq_ofNat_of_zero_le hb.1;obtain⟨bl,rfl⟩:=Int.eq_ofNat_of_zero_le (a:=b) (by omega)
   have:=y0 (w:=w) r rfl (l:=l) (lo:=some (.int cq dj)) (hi:=some (.int aq bl)) (a:=dj) (b:=bl) (.inr ⟨_,rfl⟩) (.inr ⟨_,rfl⟩) (by omega) (by omega)
   exact el h.bd (oV am ex (eP ij) (eP hO) rfl this) (.v _ _ (.str _))
  ·cases hs
 ·rename_i e eU iA z _ ab;obtain⟨r⟩:=dN h.tt ab;split at hs
  ·rename_i cq size vM iZ k n get aq a d9 hx ij hO;obtain⟨db⟩:=dN h.tt d9;rw [Bool.cond_eq_ite]at hs;split at hs
   case isFalse=>cases hs
   rename_i hE;simp only [Nat.beq_eq]at hE;subst hE
   have q8:∃(y:V) (rs:List eD) (aL:List Prop),f={e:=some {d:=.v y},rs,aL}∧fX (.bm k (n-a.toNat) λi=>get (a.toNat+i)) y∧gh a n=true:=by
    split at hs
    ·rename_i y rs d';cases hs;exact⟨_,_,_,rfl,b5 _ (by simp),b5 (gh a n=true) (by simp)⟩
    ·cases hs;exact⟨_,_,_,rfl,λ_ _ h=>h,b5 (gh a n=true) (by simp)⟩
    ·cases hs
   obtain⟨y,rs,aL,rfl,ar,hb⟩:=q8;have hb:=q6 hb;obtain⟨dj,rfl⟩:=Int.eq_ofNat_of_zero_le hb.1;have jq:=dp (ds:=[]) h.bd h.dd hx;obtain⟨base,cap,ex,kK⟩:=qN jq;have:=yY (w:=w) r rfl db (base:=base) (n:=n) (cap:=cap) (lo:=some (.int aq dj)) (hi:=none) (a:=dj) (b:=n) (.inr ⟨_,rfl⟩) (.inl ⟨rfl,rfl⟩) (by omega) (by omega) kK
   refine el h.bd (oV am ex (eP ij) (pH hO) rfl this) (.v _ _ (ar _ _ ?_));have:=vL jq (a:=dj) (b:=n) (by omega) (by omega) ex kK
   simpa using this
  ·rename_i cq size vM iZ k n get aq b d9 hx ij hO;obtain⟨db⟩:=dN h.tt d9;rw [Bool.cond_eq_ite]at hs;split at hs
   case isFalse=>cases hs
   rename_i hE;simp only [Nat.beq_eq]at hE;subst hE
   have q8:∃(y:V) (rs:List eD) (aL:List Prop),f={e:=some {d:=.v y},rs,aL}∧fX (.bm k b.toNat get) y∧gh b n=true:=by
    split at hs
    ·rename_i y rs d';cases hs;exact⟨_,_,_,rfl,b5 _ (by simp),b5 (gh b n=true) (by simp)⟩
    ·cases hs;exact⟨_,_,_,rfl,λ_ _ h=>h,b5 (gh b n=true) (by simp)⟩
    ·cases hs
   obtain⟨y,rs,aL,rfl,ar,hb⟩:=q8;have hb:=q6 hb;obtain⟨bl,rfl⟩:=Int.eq_ofNat_of_zero_le hb.1;have jq:=dp (ds:=[]) h.bd h.dd hx;obtain⟨base,cap,ex,kK⟩:=qN jq;have:=yY (w:=w) r rfl db (base:=base) (n:=n) (cap:=cap) (lo:=none) (hi:=some (.int aq bl)) (a:=0) (b:=bl) (.inl ⟨rfl,rfl⟩) (.inr ⟨_,rfl⟩) (by omega) (by omega) kK
   refine el h.bd (oV am ex (pH ij) (eP hO) rfl this) (.v _ _ (ar _ _ ?_));have:=vL jq (a:=0) (b:=bl) (by omega) (by omega) ex kK
   simpa using this
  ·rename_i cq size vM iZ k n get aq a dX b d9 hx ij hO;obtain⟨db⟩:=dN h.tt d9;rw [Bool.cond_eq_ite]at hs;split at hs
   case isFalse=>cases hs
   rename_i hE;simp only [Nat.beq_eq]at hE;subst hE
   have q8:∃(y:V) (rs:List eD) (aL:List Prop),f={e:=some {d:=.v y},rs,aL}∧fX (.bm k (b.toNat-a.toNat) λi=>get (a.toNat+i)) y∧oA a b n=true:=by
    split at hs
    ·rename_i y rs d';cases hs;exact⟨_,_,_,rfl,b5 _ (by simp),b5 (oA a b n=true) (by simp)⟩
    ·cases hs;exact⟨_,_,_,rfl,λ_ _ h=>h,b5 (oA a b n=true) (by simp)⟩
    ·cases hs
   obtain⟨y,rs,aL,rfl,ar,hb⟩:=q8;have hb:=KH hb;obtain⟨dj,rfl⟩:=Int.eq_ofNat_of_zero_le hb.1;obtain⟨bl,rfl⟩:=Int.eq_ofNat_of_zero_le (a:=b) (by omega)
   have jq:=dp (ds:=[]) h.bd h.dd hx;obtain⟨base,cap,ex,kK⟩:=qN jq;have:=yY (w:=w) r rfl db (base:=base) (n:=n) (cap:=cap) (lo:=some (.int aq dj)) (hi:=some (.int dX bl)) (a:=dj) (b:=bl) (.inr ⟨_,rfl⟩) (.inr ⟨_,rfl⟩) (by omega) (by omega) kK
   refine el h.bd (oV am ex (eP ij) (eP hO) rfl this) (.v _ _ (ar _ _ ?_));have:=vL jq (a:=dj) (b:=bl) (by omega) (by omega) ex kK
   simpa using this
  ·rename_i cq size vM iZ k n get d9 hx ij hO;obtain⟨db⟩:=dN h.tt d9;rw [Bool.cond_eq_ite]at hs;split at hs
   case isFalse=>cases hs
   rename_i hE;simp only [Nat.beq_eq]at hE;subst hE;cases hs;have jq:=dp (ds:=[]) h.bd h.dd hx;obtain⟨base,cap,ex,kK⟩:=qN jq;have:=yY (w:=w) r rfl db (base:=base) (n:=n) (cap:=cap) (lo:=none) (hi:=none) (a:=0) (b:=n) (.inl ⟨rfl,rfl⟩) (.inl ⟨rfl,rfl⟩) (by omega) (by omega) kK
   refine el h.bd (oV am ex (pH ij) (pH hO) rfl this) (.v _ _ ?_);have:=vL jq (a:=0) (b:=n) (by omega) (by omega) ex kK
   simpa using this
  ·cases hs
 ·rename_i m e eU iA z _ ab;obtain⟨r⟩:=dN h.tt ab;split at hs
  case h_2=>cases hs
  rename_i size vM iZ k n get aq b dX c d9 hx hO hm;obtain⟨db⟩:=dN h.tt d9;rw [Bool.cond_eq_ite]at hs;split at hs
  case isFalse=>cases hs
  rename_i hE;simp only [Nat.beq_eq]at hE;subst hE;cases hs;have yZ:=b5 (b=c) (by simp)
  subst yZ;have hb:=q6 (b5 (gh b n=true) (by simp))
  obtain⟨bl,rfl⟩:=Int.eq_ofNat_of_zero_le hb.1;have jq:=dp (ds:=[]) h.bd h.dd hx;obtain⟨base,cap,ex,kK⟩:=qN jq;have nO:bl≤n:=by omega
  have hu:=r.run_underlying w;rw [mY r rfl]at hu
  have et:(Instr.sliceAt t (.slice base n cap) none (some (.int aq bl)) (some (.int dX bl))).run P w = .ok (.slice (if bl=0 then base else base.map (·.add (0*k))) bl bl) w:=by
   have Z:bl≤cap:=by omega
   simp [Instr.sliceAt,hu,Instr.slice,Instr.sliceBounds,Instr.sliceBound,asIntOf,db.run_sizeOf,Z]
  have UN:(if bl=0 then base else base.map (·.add (0*k)))=base:=by
   split
   ·rfl
   ·cases base with
    |none=>rfl
    |some a=>simp [Addr.add]
  rw [UN]at et;have em:(some m).map (⟨tmps,[]⟩:Act).eval=some (.int dX bl):=eP (y:=some m) hm;refine el h.bd (oV am ex rfl (eP hO) em et) (.full base k _ get ?_);have KY:=vL jq (a:=0) (b:=bl) (by omega) nO ex kK
  simp only [Nat.sub_zero]at KY ⊢;have KZ:cw M (.slice (if cap=0 then base else base.map (·.add (0*k))) bl cap) (.bm k bl get):=by simpa using KY
  have fl:(if cap=0 then base else base.map (·.add (0*k)))=base:=by
   split
   ·rfl
   ·cases base with
    |none=>rfl
    |some a=>simp [Addr.add]
  rw [fl]at KZ;cases KZ with
  |j_=>exact .j_ _ _
  |mO a=>exact .mO _ _ _
  |bm qD off k n cap get val hc hk cr Z h=>exact .bm qD off k _ _ get val (Nat.le_refl _) hk cr Z h
 ·cases hs
def K0{c:Call}(am:o.op = .call c)(hc:c.callee = .builtin .len){a:Operand}(eJ:c.args.toList=[a]){t:TypeId}(fJ:c.argTypes.toList[0]? = some t){gi v:Value}(ha:(⟨tmps,[]⟩:Act).eval a=gi)
 (h:∀ty,(Builtin.len_ #[t] ty #[gi]).run P w = .ok v w):(execOp (Act.eval ⟨tmps,[]⟩) o).run P w = .ok (.value v) w:=by
 have qV:c.args = #[a]:=by apply Array.ext';simpa using eJ
 have Do:∀ty,(Builtin.len_ c.argTypes ty #[gi]).run P w = .ok v w:=by
  intro ty;have h0:c.argTypes[0]? = some t:=by simpa using fJ
  have:=h ty
  simp only [Builtin.len_,h0]at this ⊢;exact this
 simp only [execOp,am,resolve,hc,qV,Sem.run_bind,Sem.run_pure,Result.andThen_ok,invoke,builtin,List.map_toArray,List.map_cons,List.map_nil,ha];simp [Do]
def K1{F:Nat→Option Nat}{l cd:List D}(h:jj F l=some cd):cd.length=l.length:=(sQ h).1.symm
def UO {c : Call} (am : o.op = .call c) {x : Operand} (hc : c.callee = .value x) {fn : FuncId} {vs : List Value} (hx : (⟨tmps, []⟩ : Act).eval x = .func (.func fn) #[] ⟨vs⟩) {fd : Func} (a7 : P.funcs[fn]? = some fd) (hb : fd.body.isSome = true) (hn : fd.name ≠ "runtime.NumGoroutine") :
 (execOp (Act.eval ⟨tmps,[]⟩) o).run P w = .ok (.enter fn ⟨c.args.toList.map (⟨tmps,[]⟩:Act).eval++vs⟩) w:=by
 have nO:fd.body≠none:=by intro bf;rw [bf]at hb;cases hb
 simp [execOp,am,resolve,hc,hx,Deferred.ofValue,invoke,callFunc,a7,nO,hn]
def K2{F:TypeId→Operand→Option D}:∀{xs:List Operand} {ts:List TypeId} {ds:List D},jK F xs ts=some ds→ds.length=xs.length∧∀(i:Nat) x d,xs[i]? = some x→ds[i]? = some d→∃t,F t x=some d
 |[],ts,ds,h=>by simp [jK]at h;subst h;simp
 |x::xs,[],ds,h=>by simp [jK]at h
 |x::xs,t::ts,ds,h=>by
  simp only [jK]at h;split at h
  case h_2=>cases h
  rename_i d UP hd gq;cases h;obtain⟨Z,ad⟩:=K2 gq;refine⟨by simp [Z],λi y e bX he=>?_⟩
  cases i with
  |zero=>simp at bX he;subst bX;subst he;exact⟨t,hd⟩
  |succ i=>simp at bX he;exact ad i y e bX he
mutual
def K3{ρ:List Nat}:∀(d:D) {dm:D},dE (idx ρ) d=some dm→dE (λj=>ρ[j]?) dm=some d
 |.v x,dm,h=>by simp [dE]at h;subst h;simp [dE]
 |.ptr r off,dm,h=>by
  simp only [dE,Option.map_eq_some_iff]at h;obtain⟨j,hj,rfl⟩:=h;simp [dE,yL hj]
 |.bZ r off u,dm,h=>by
  simp only [dE,Option.map_eq_some_iff]at h;obtain⟨j,hj,rfl⟩:=h;simp [dE,yL hj]
 |.eg x,dm,h=>by simp [dE]at h;subst h;simp [dE]
 |.full k n get,dm,h=>by simp [dE]at h;subst h;simp [dE]
 |.fn g er,dm,h=>by
  simp only [dE,Option.map_eq_some_iff]at h;obtain⟨l,ab,rfl⟩:=h;simp [dE,y1 er ab]
 |.agg cs,dm,h=>by
  simp only [dE,Option.map_eq_some_iff]at h;obtain⟨l,ab,rfl⟩:=h;simp [dE,y1 cs ab]
 |.cc cs,dm,h=>by
  simp only [dE,Option.map_eq_some_iff]at h;obtain⟨l,ab,rfl⟩:=h;simp [dE,y1 cs ab]
def y1{ρ:List Nat}:∀(l:List D) {cd:List D},jj (idx ρ) l=some cd→jj (λj=>ρ[j]?) cd=some l
 |[],cd,h=>by simp [jj]at h;subst h;simp [jj]
 |d::l,cd,h=>by
  simp only [jj]at h;split at h
  case h_2=>cases h
  rename_i d1 ga hd ab;cases h;simp [jj,K3 d hd,y1 l ab]
end
def K4{ρ:List Nat}:∀{b bl:List aM},k2 (idx ρ) b=some bl→k2 (λj=>ρ[j]?) bl=some b
 |[],bl,h=>by simp [k2]at h;subst h;simp [k2]
 |e::l,bl,h=>by
  simp only [k2]at h;split at h
  case h_2=>cases h
  rename_i e1 ga he ab;cases h;simp only [yo,Option.map_eq_some_iff]at he;obtain⟨d,hd,rfl⟩:=he;simp [k2,yo,K3 _ hd,K4 ab]
def K5{ρ:List Nat}:∀{bs m6:List (List aM)},ig (idx ρ) bs=some m6→ig (λj=>ρ[j]?) m6=some bs
 |[],m6,h=>by simp [ig]at h;subst h;simp [ig]
 |b::l,m6,h=>by
  simp only [ig]at h;split at h
  case h_2=>cases h
  rename_i cH ga hb ab;cases h;simp [ig,K4 hb,K5 ab]
def UQ{st:az}(h:bo P K M β st tmps w){ρ:List Nat}{bs H1:List (List aM)}(hn:k3 ρ=true)(iY:boxes st.H ρ=some bs)(ki:ig (idx ρ) bs=some H1)
 {os:List Nat} {out:Out} {v:Value} {w':World} {M':Mem} {β':Nat→Option Nat} (hB:bo P (iE M β st tmps w ρ os) M' β' {env:=gG out,H:=cl 0 H1,aJ:=ρ.length} #[v] w'):
 M.le M'∧bo P K M' β {st with env:=fY os st.env} tmps w'∧
 (∀d own,out = .ret d own→∀dm,dE (λj=>ρ[j]?) d=some dm→b3 M' β v dm∧∀T l0,own=some T→k5 P K M' β {st with env:=fY os st.env} tmps w' l0 v T)∧
 (∀x,out = .aW x→cw M' v x):=by
 obtain⟨cK,fl⟩:=qZ iY;have eM:H1.length=ρ.length:=by rw [(s7 ki).1,cK]
 obtain⟨Z,ad,al,aH⟩:=DD h hn iY (K5 ki) eM hB
 have iF:∀r,look (jk ρ bs++st.H) r=look st.H r:=by
  intro r;obtain⟨a6,bT⟩:=Dw (H:=st.H) (ρ:=ρ) (bs:=bs) cK hn r;by_cases hj:∃(j:Nat),ρ[j]? = some r
  ·obtain⟨j,hj⟩:=hj;rw [a6 j hj,(fl j r hj).1]
  ·exact bT λj bf=>hj ⟨j,bf⟩
 have fk:∀l,({env:=fY os st.env,H:=jk ρ bs++st.H,aJ:=st.aJ}:az).at l=({st with env:=fY os st.env}:az).at l:=by
  intro l;cases l with
  |slot s=>rfl
  |cell r i=>simp only [az.at,iF]
 refine⟨Z,ad.sub rfl (λl e ab=>⟨e,by rw [fk];exact ab,rfl,λ_ h=>h⟩) (λr cs ai=>⟨cs,by rw [←ai];exact iF r,rfl⟩),λd own hd dm ix=>?_,aH⟩
 obtain⟨a6,bT⟩:=al d own hd dm ix;refine⟨a6,λT l0 aG=>?_⟩
 obtain⟨cI,dO,gX⟩:=bT T l0 aG;exact⟨cI,λl e T' b ab=>dO l e T' b (by rw [fk];exact ab),λb r cs hb ai=>gX b r cs hb (by rw [←ai];exact iF r)⟩
def K6(P:Program)(K:Ctx)(M:Mem)(β:Nat→Option Nat)(g:cG)(s:lL)(o:Oper)(tmps:Array Value)(w:World):Prop:=
 match s with
 |.go f=>(∀q,q∈f.aL→q)→Yields P K M β g f o tmps w
 |.aW x hs aL=>(∀q,q∈aL→q)→T7 P K M β g x hs o tmps w
def K7{os:List Nat}{env:List (Nat×aM)}{s:Nat}{e:aM}(h:look env s=some e):∃bW,look (fY os env) s=some bW∧bW.d=e.d:=by
 rw [lQ,h];split
 ·exact⟨_,rfl,rfl⟩
 ·exact⟨_,rfl,rfl⟩
def DT{g:cG}(h:eW P K N M β g tmps w){xs:List Operand}{ts:List TypeId}:∀{os:List Nat} {hd:List (Nat×Option Nat×TypeId)},handed tt g xs ts os=some hd→∀{vs:List Value},
 (∀(i:Nat) t,xs[i]? = some (.tmp t)→vs[i]? = some (tmps.getD t undef))→(∀(i:Nat),xs[i]? = some (.const (.slice none 0 0))→vs[i]? = some (.slice none 0 0))→
 Handed {env:=g.env,H:=g.H,aJ:=g.aJ} tmps vs hd
 |[],hd,bf,vs,_,_=>by
  simp [handed]at bf;subst bf;exact⟨by simp,by simp,by simp⟩
 |i::os,hd,bf,vs,Z,ad=>by
  simp only [handed]at bf;split at bf
  ·rename_i t l hx ab;have a':=DT h ab Z ad;split at bf
   case h_2=>cases bf
   rename_i d e he;rw [Bool.cond_eq_ite]at bf;split at bf
   case isFalse=>cases bf
   rename_i hc;simp only [Bool.and_eq_true,List.all_eq_true,Bool.not_eq_true']at hc;cases bf;refine⟨λkF h2 T hm=>?_,λkF T hm=>?_,λkF q2 h2 T T' hm ik=>?_⟩
   ·rcases List.mem_cons.1 hm with hm|hm
    ·cases hm;exact⟨_,he,rfl,Z i t hx⟩
    ·exact a'.some kF h2 T hm
   ·rcases List.mem_cons.1 hm with hm|hm
    ·cases hm
    ·exact a'.none kF T hm
   ·rcases List.mem_cons.1 hm with hm|hm<;>rcases List.mem_cons.1 ik with ik|ik
    ·cases hm;cases ik;rfl
    ·cases hm;have:=(hc.2 _ ik).1
     simp at this
    ·cases ik;have:=(hc.2 _ hm).1
     simp at this
    ·exact a'.inj kF q2 h2 T T' hm ik
  ·rename_i l hx ab;have a':=DT h ab Z ad;split at bf
   case h_2=>cases bf
   rename_i e eU iA z _ he;rw [Bool.cond_eq_ite]at bf;split at bf
   case isFalse=>cases bf
   cases bf;refine⟨λkF h2 T hm=>?_,λkF T hm=>?_,λkF q2 h2 T T' hm ik=>?_⟩
   ·rcases List.mem_cons.1 hm with hm|hm
    ·cases hm
    ·exact a'.some kF h2 T hm
   ·rcases List.mem_cons.1 hm with hm|hm
    ·cases hm;exact ad i hx
    ·exact a'.none kF T hm
   ·rcases List.mem_cons.1 hm with hm|hm<;>rcases List.mem_cons.1 ik with ik|ik
    ·cases hm
    ·cases hm
    ·cases ik
    ·exact a'.inj kF q2 h2 T T' hm ik
  ·cases bf
def UR(h:Hyp P K N M β g tmps w p tt){c:Call}(am:o.op = .call c){x:Operand}(hc:c.callee = .value x){fn:FuncId}{er ds:List D}(hx:rd g.env g.bB p tt o.type x=some (.fn fn er))
 (gq:jK (rd g.env g.bB p tt) c.args.toList c.argTypes.toList=some ds) {s:lL} (hs:sN (h6 P) tt g p c.args.toList c.argTypes.toList fn (ds++er)=some s):
 K6 P K M β g s o tmps w:=by
 obtain⟨vs,ar,hlen,ai⟩:=JZ (dp (ds:=[]) h.bd h.dd hx);obtain⟨fx,iB⟩:=K2 gq
 have eJ:∀(i:Nat) v d,(c.args.toList.map (⟨tmps,[]⟩:Act).eval++vs)[i]? = some v→(ds++er)[i]? = some d→b3 M β v d:=by
  intro i v d ek pE;by_cases hi:i<c.args.toList.length
  ·rw [List.getElem?_append_left (by simpa using hi),List.getElem?_map,Option.map_eq_some_iff]at ek
   obtain⟨y,bX,rfl⟩:=ek;rw [List.getElem?_append_left (by omega)]at pE
   obtain⟨ty,fJ⟩:=iB i y d bX pE;exact dp h.bd h.dd fJ
  ·rw [List.getElem?_append_right (by simp;simp at hi;omega)]at ek
   rw [List.getElem?_append_right (by omega)]at pE
   refine ai _ v d ek ?_;rw [fx]at pE;simpa using pE
 have K8:(c.args.toList.map (⟨tmps,[]⟩:Act).eval++vs).length=(ds++er).length:=by simp at fx ⊢;omega
 unfold sN at hs
 dsimp only at hs
 generalize jN:mg g.H 2 (dedup ((ds++er).flatMap refs))=ρ at hs
 split at hs
 case h_2=>cases hs
 rename_i out ch os rs d';split at hs
 case h_2=>cases hs
 rename_i h1 H1 hd K9 ki q0;rw [Option.bind_eq_some_iff]at ki;obtain⟨bs,iY,ki⟩:=ki;rw [Bool.cond_eq_ite]at hs;split at hs
 ·cases hs
 rename_i K'
 have hn:k3 ρ=true:=by
  have:(!k3 ρ || !(List.isEmpty p||List.isEmpty os))=false:=by simpa using K'
  simp only [Bool.or_eq_false_iff,Bool.not_eq_false']at this;exact this.1
 have ey:=DT h.bd q0 (vs:=c.args.toList.map (⟨tmps,[]⟩:Act).eval++vs) (λi t bH=>by
  rw [List.getElem?_append_left (by simpa using(List.getElem?_eq_some_iff.1 bH).1),List.getElem?_map,bH];rfl) (λi bH=>by
  rw [List.getElem?_append_left (by simpa using(List.getElem?_eq_some_iff.1 bH).1),List.getElem?_map,bH];rfl)
 have dy:=Kx (st:={env:=g.env,H:=g.H,aJ:=g.aJ}) h.bd.bd hn iY ki K8 eJ K9 ey;have eM:H1.length=ρ.length:=by rw [(s7 ki).1,(qZ iY).1]
 -- DE kh contract US, adE kh boxes behind it
 have key:∀{q_:List (List aM)},fK P fn h1 (pC hd) H1 out q_→(execOp (Act.eval ⟨tmps,[]⟩) o).run P w = .ok (.enter fn ⟨c.args.toList.map (⟨tmps,[]⟩:Act).eval++vs⟩) w∧
  Calls P fn ⟨c.args.toList.map (⟨tmps,[]⟩:Act).eval++vs⟩ w λe w'=>∃v M' β',e=pB out v∧
   bo P (iE M β {env:=g.env,H:=g.H,aJ:=g.aJ} tmps w ρ (nL hd)) M' β' {env:=gG out,H:=cl 0 q_,aJ:=ρ.length} #[v] w':=by
  intro q_ UT;obtain⟨⟨fd,kH,DU,h7⟩,UU⟩:=UT;refine⟨UO am hc ar kH DU h7,(UU _ w _ M _ (by rw [K8,K1 K9]) dy (λr b hb=>hb)).mono ?_⟩
  rintro e w' ⟨o',bq,v,M',β',⟨rfl,rfl⟩,he,ci⟩
  rw [eM]at ci;exact⟨v,M',β',he,ci⟩
 -- kh boxes as adF adG, named adH and back
 have back:∀{q_ UV:List (List aM)},ig (λj=>ρ[j]?) q_=some UV→q_.length=ρ.length→∀{v:Value} {w':World} {M':Mem} {β':Nat→Option Nat},
  bo P (iE M β {env:=g.env,H:=g.H,aJ:=g.aJ} tmps w ρ (nL hd)) M' β' {env:=gG out,H:=cl 0 q_,aJ:=ρ.length} #[v] w'→_:=
  λhx ab _ _ _ _ hp=>DD (st:={env:=g.env,H:=g.H,aJ:=g.aJ}) h.bd.bd hn iY hx ab hp
 have K_:∀{v:Value} {w':World} {M':Mem} {β':Nat→Option Nat},
  bo P (iE M β {env:=g.env,H:=g.H,aJ:=g.aJ} tmps w ρ (nL hd)) M' β' {env:=gG out,H:=cl 0 H1,aJ:=ρ.length} #[v] w'→
  M.le M'∧bo P K M' β {env:=fY (nL hd) g.env,H:=g.H,aJ:=g.aJ} tmps w'∧
  (∀d own,out = .ret d own→∀dm,dE (λj=>ρ[j]?) d=some dm→b3 M' β v dm∧∀T l0,own=some T→k5 P K M' β {env:=fY (nL hd) g.env,H:=g.H,aJ:=g.aJ} tmps w' l0 v T)∧
  (∀x,out = .aW x→cw M' v x):=by
  intro v w' M' β' hp;exact UQ (st:={env:=g.env,H:=g.H,aJ:=g.aJ}) h.bd.bd hn iY ki hp
 cases out with
 |ret d own=>
  cases ch with
  |none=>
   simp only [Option.map_eq_some_iff]at hs;obtain⟨dm,ix,rfl⟩:=hs;intro b5;obtain⟨Z,ad⟩:=key (b5 _ (List.mem_singleton.2 rfl));refine .inr (.inr ⟨fn,_,Z,ad.mono ?_⟩)
   rintro e w' ⟨v,M',β',he,hp⟩
   obtain⟨cr,ci,DV,_⟩:=K_ hp;refine⟨v,he,M',β,cr,λ_ _ h=>h,λ_ _ h=>.inl h,ci,λe1 oO=>?_⟩
   cases oO;exact DV d own rfl dm ix
  |some ch=>
   dsimp only at hs
   split at hs
   case h_2=>cases hs
   rename_i dm gS ix q5;rw [Bool.cond_eq_ite]at hs;split at hs
   case isFalse=>cases hs
   rename_i ab;cases hs;intro b5;obtain⟨Z,ad⟩:=key (b5 _ (List.mem_singleton.2 rfl));refine .inr (.inr ⟨fn,_,Z,ad.mono ?_⟩)
   rintro e w' ⟨v,M',β',he,hp⟩
   obtain⟨cr,ci,DV,_⟩:=back q5 (by simpa using ab) hp
   refine⟨v,he,M',β,cr,λ_ _ h=>h,λ_ _ h=>.inl h,ci,λe1 oO=>?_⟩
   cases oO;exact DV d own rfl dm ix
 |aW x=>
  cases ch with
  |none=>
   cases hs;intro b5;obtain⟨Z,ad⟩:=key (b5 _ (List.mem_singleton.2 rfl));refine .inr ⟨fn,_,Z,ad.mono ?_⟩
   rintro e w' ⟨v,M',β',he,hp⟩
   obtain⟨cr,ci,_,DW⟩:=K_ hp;exact⟨v,M',he,DW x rfl,ci.mS λs e he=>K7 he⟩
  |some ch=>
   dsimp only at hs
   split at hs
   case h_2=>cases hs
   rename_i gS q5;rw [Bool.cond_eq_ite]at hs;split at hs
   case isFalse=>cases hs
   rename_i ab;cases hs;intro b5;obtain⟨Z,ad⟩:=key (b5 _ (List.mem_singleton.2 rfl));refine .inr ⟨fn,_,Z,ad.mono ?_⟩
   rintro e w' ⟨v,M',β',he,hp⟩
   obtain⟨cr,ci,_,DW⟩:=back q5 (by simpa using ab) hp
   exact⟨v,M',he,DW x rfl,ci.mS λs e he=>K7 he⟩
end
section
variable {P:Program} {K:Ctx} {N:Nat} {M:Mem} {β:Nat→Option Nat} {st:az} {g:cG} {tmps:Array Value} {w:World} {o:Oper} {f:ji} {p:Path} {tt:c7} {ops:List Oper}
def La(h:Hyp P K N M β g tmps w p tt){c:Call}(am:o.op = .call c)(hc:c.callee = .builtin .len){d:D}(hd:mapM' (λy=>rd g.env g.bB p tt o.type y) c.args.toList=some [d]){aB:dS}
 (ab:(c.argTypes.toList[0]?).bind (look tt)=some aB) {n:Nat} (hk:(∃l,d = .v (.str l)∧aB.k = .str∧n=l.length)∨(∃k get e,d = .v (.bm k n get)∧aB.k = .bm e)):
 Yields P K M β g {e:=some {d:=.v (.int .i64 n)},rs:=g.rs} o tmps w:=by
 obtain⟨fx,iB⟩:=px hd;rw [Option.bind_eq_some_iff]at ab;obtain⟨t,bH,ab⟩:=ab;obtain⟨r⟩:=dN h.tt ab
 obtain⟨a,ha⟩:∃a,c.args.toList=[a]:=by
  cases gr:c.args.toList with
  |nil=>rw [gr]at fx;simp at fx
  |cons a l=>
   rw [gr]at fx;simp at fx
   exact⟨a,by rw [fx]⟩
 have m7:=dp (ds:=[]) h.bd h.dd (iB 0 a d (by rw [ha];rfl) rfl)
 rcases hk with⟨l,rfl,hk,rfl⟩|⟨k,get,e,rfl,hk⟩
 ·have nM:=kG m7;refine el h.bd (K0 am hc ha bH nM (λty=>?_)) (.v _ _ (.int _ _))
  have hs:(⟨⟨l⟩⟩:ByteArray).size=l.length:=rfl;simp [Builtin.len_,r.run_underlying,nG r hk,goInt,hs]
 ·obtain⟨base,cap,nM,_⟩:=qN m7;refine el h.bd (K0 am hc ha bH nM (λty=>?_)) (.v _ _ (.int _ _))
  simp [Builtin.len_,r.run_underlying,mY r hk,goInt]
def UW(h:Hyp P K N M β g tmps w p tt){c:Call}(am:o.op = .call c)(hc:c.callee = .builtin .min){k:IntKind}{a b:Int}(hd:mapM' (λy=>rd g.env g.bB p tt o.type y) c.args.toList=some [.v (.int k a),.v (.int k b)]):
 Yields P K M β g {e:=some {d:=.v (.int k (bif decide (b<a)then b else a))},rs:=g.rs} o tmps w:=by
 obtain⟨fx,iB⟩:=px hd
 obtain⟨x,y,mX⟩:∃x y,c.args.toList=[x,y]:=by
  cases gr:c.args.toList with
  |nil=>rw [gr]at fx;simp at fx
  |cons x l=>
   cases l with
   |nil=>rw [gr]at fx;simp at fx
   |cons y l=>
    rw [gr]at fx;simp at fx
    exact⟨x,y,by rw [fx]⟩
 have ex:=ke (dp (ds:=[]) h.bd h.dd (iB 0 x _ (by rw [mX];rfl) rfl))
 have DX:=ke (dp (ds:=[]) h.bd h.dd (iB 1 y _ (by rw [mX];rfl) rfl))
 have qV:c.args = #[x,y]:=by apply Array.ext';simpa using mX
 refine el h.bd (v:=.int k (bif decide (b<a)then b else a)) ?_ (.v _ _ (.int _ _))
 simp only [execOp,am,resolve,hc,qV,Sem.run_bind,Sem.run_pure,Result.andThen_ok,invoke,builtin,List.map_toArray,List.map_cons,List.map_nil,ex,DX];by_cases la:b<a<;>simp [Builtin.min_,Builtin.min2,la]
def UX(h:Hyp P K N M β g tmps w p tt){c:Call}(am:o.op = .call c)(hc:c.callee = .builtin .max){k:IntKind}{a b:Int}(hd:mapM' (λy=>rd g.env g.bB p tt o.type y) c.args.toList=some [.v (.int k a),.v (.int k b)]):
 Yields P K M β g {e:=some {d:=.v (.int k (bif decide (a<b)then b else a))},rs:=g.rs} o tmps w:=by
 obtain⟨fx,iB⟩:=px hd
 obtain⟨x,y,mX⟩:∃x y,c.args.toList=[x,y]:=by
  cases gr:c.args.toList with
  |nil=>rw [gr]at fx;simp at fx
  |cons x l=>
   cases l with
   |nil=>rw [gr]at fx;simp at fx
   |cons y l=>
    rw [gr]at fx;simp at fx
    exact⟨x,y,by rw [fx]⟩
 have ex:=ke (dp (ds:=[]) h.bd h.dd (iB 0 x _ (by rw [mX];rfl) rfl))
 have DX:=ke (dp (ds:=[]) h.bd h.dd (iB 1 y _ (by rw [mX];rfl) rfl))
 have qV:c.args = #[x,y]:=by apply Array.ext';simpa using mX
 refine el h.bd (v:=.int k (bif decide (a<b)then b else a)) ?_ (.v _ _ (.int _ _))
 simp only [execOp,am,resolve,hc,qV,Sem.run_bind,Sem.run_pure,Result.andThen_ok,invoke,builtin,List.map_toArray,List.map_cons,List.map_nil,ex,DX];by_cases la:a<b<;>simp [Builtin.max_,Builtin.max2,la]
def UY(h:Hyp P K N M β g tmps w p tt){bL:fw}{x:Operand}{s t:TypeId}{ok:Bool}(am:o.op = .typeAssert x s t ok)(hs:step1 bL tt ops g p o=some (.go f)):Yields P K M β g f o tmps w:=by
 simp only [step1,am]at hs;split at hs
 case h_2=>cases hs
 rename_i h2 y k eU iA z _ hx ab;obtain⟨r⟩:=dN h.tt ab;have ai:=dp (ds:=[]) h.bd h.dd hx;obtain⟨u,ar,hu⟩:=C4 ai;have Lb:k ≠ .mf:=by rintro rfl;simp at hs
 have DO:∀i,r.desc ≠ .interface i:=by
  intro i hd;have:=r.hk
  rw [hd]at this;simp [jp]at this;exact Lb this.symm
 have fb:(bif Nat.beq h2 t then(some (lL.go {e:=some {d:=(bif ok then .cc [.v y,.v (.bool true)]else .v y)},rs:=g.rs}))else none)=some (.go f):=by
  cases k<;>first|exact(Lb rfl).elim|exact hs
 rw [Bool.cond_eq_ite]at fb;split at fb
 case isFalse=>cases fb
 rename_i hb;have bw:h2=t:=by simpa using hb
 subst bw;cases fb
 have et:(Instr.typeAssert (.iface h2 u) s h2 ok).run P w = .ok (bif ok then .tuple #[u,.bool true]else u) w:=by
  unfold Instr.typeAssert;simp only [Sem.run_bind,r.run_underlying,Result.andThen_ok];cases hd:r.desc<;>first|exact(DO _ hd).elim|(cases ok<;>simp)
 refine el h.bd (v:=bif ok then .tuple #[u,.bool true]else u) ?_ ?_
 ·simp only [execOp,am,ar];exact hN _ et
 ·cases ok
  ·exact .v _ _ hu
  ·refine .cc [u,.bool true] _ rfl λi v c ar hc=>?_
   match i with
   | 0=>simp at ar hc;subst ar;subst hc;exact .v _ _ hu
   | 1=>simp at ar hc;subst ar;subst hc;exact .v _ _ (.bool _)
   |i+2=>simp at ar
def Lc(h:Hyp P K N M β g tmps w p tt){s:lL}(hs:step1 (h6 P) tt ops g p o=some s):K6 P K M β g s o tmps w:=by
 cases am:o.op with
 |move x=>cases s with
  |go f=>exact λ_=>Ud h am hs
  |aW x fb aL=>simp only [step1,am]at hs;repeat' (first |(split at hs) |(rw [Bool.cond_eq_ite]at hs) |(cases hs;done))
 |assign x=>cases s with
  |go f=>exact λ_=>Ue h am hs
  |aW x fb aL=>simp only [step1,am]at hs;repeat' (first |(split at hs) |(rw [Bool.cond_eq_ite]at hs) |(cases hs;done))
 |pick c a b=>
  cases c with
  |tmp c=>cases s with
   |go f=>exact λ_=>Uf h am hs
   |aW x fb aL=>simp only [step1,am]at hs;repeat' (first |(split at hs) |(simp at hs;done))
  |_=>simp [step1,am]at hs
 |alloc t=>cases s with
  |go f=>exact λ_=>Ug h am hs
  |aW x fb aL=>simp only [step1,am]at hs;repeat' (first |(split at hs) |(cases hs;done))
 |box t x=>cases s with
  |go f=>exact λ_=>Uh h am hs
  |aW x fb aL=>simp only [step1,am]at hs;repeat' (first |(split at hs) |(rw [Bool.cond_eq_ite]at hs) |(cases hs;done))
 |build t parts=>cases s with
  |go f=>exact λ_=>Ui h am hs
  |aW x fb aL=>simp only [step1,am]at hs;repeat' (first |(split at hs) |(rw [Bool.cond_eq_ite]at hs) |(simp at hs;done) |(cases hs;done))
 |buildSlice t len parts=>cases s with
  |go f=>exact λb5=>Uk h am hs b5
  |aW x fb aL=>simp only [step1,am]at hs;repeat' (first |(split at hs) |(rw [Bool.cond_eq_ite]at hs) |(cases hs;done))
 |load t a=>cases s with
  |go f=>exact λ_=>Ul h am hs
  |aW x fb aL=>simp only [step1,am]at hs;repeat' (first |(split at hs) |(rw [Bool.cond_eq_ite]at hs) |(simp at hs;done) |(cases hs;done))
 |store t a x=>cases s with
  |go f=>exact λ_=>Um h am hs
  |aW x fb aL=>simp only [step1,am]at hs;repeat' (first |(split at hs) |(rw [Bool.cond_eq_ite]at hs) |(cases hs;done))
 |nilCheck x=>cases s with
  |go f=>exact λ_=>Up h am hs
  |aW x fb aL=>simp only [step1,am]at hs;repeat' (first |(split at hs) |(simp at hs;done))
 |binOp op t x y t2=>cases s with
  |go f=>exact λb5=>UD h am hs b5
  |aW x fb aL=>simp only [step1,am]at hs;repeat' (first |(split at hs) |(rw [Bool.cond_eq_ite]at hs) |(simp at hs;done))
 |unOp op t x=>cases s with
  |go f=>exact λ_=>Uq h am hs
  |aW x fb aL=>simp only [step1,am]at hs;repeat' (first |(split at hs) |(simp at hs;done))
 |convert a b x=>cases s with
  |go f=>exact λb5=>Ur h am hs b5
  |aW x fb aL=>simp only [step1,am]at hs;repeat' (first |(split at hs) |(simp at hs;done))
 |makeInterface t x=>cases s with
  |go f=>exact λ_=>Ut h am hs
  |aW x fb aL=>simp only [step1,am]at hs;repeat' (first |(split at hs) |(simp at hs;done))
 |makeFunc fn first er=>
  cases fn with
  |func fn=>cases s with
   |go f=>exact λ_=>Uu h am hs
   |aW x fb aL=>simp only [step1,am]at hs;rw [Bool.cond_eq_ite]at hs;split at hs<;>simp at hs
  |_=>simp [step1,am]at hs
 |slice t x lo hi ka=>cases s with
  |go f=>exact λb5=>UM h am hs b5
  |aW x fb aL=>simp only [step1,am]at hs;repeat' (first |(split at hs) |(rw [Bool.cond_eq_ite]at hs) |(simp at hs;done))
 |fieldAddr a x i=>cases s with
  |go f=>exact λ_=>UE h am hs
  |aW x fb aL=>simp only [step1,am]at hs;repeat' (first |(split at hs) |(rw [Bool.cond_eq_ite]at hs) |(simp at hs;done))
 |field a x i=>cases s with
  |go f=>exact λ_=>UG h am hs
  |aW x fb aL=>simp only [step1,am]at hs;repeat' (first |(split at hs) |(rw [Bool.cond_eq_ite]at hs) |(simp at hs;done))
 |indexAddr t x i=>cases s with
  |go f=>exact λb5=>UJ h am hs b5
  |aW x fb aL=>simp only [step1,am]at hs;repeat' (first |(split at hs) |(rw [Bool.cond_eq_ite]at hs) |(simp at hs;done))
 |index t x i=>cases s with
  |go f=>exact λb5=>UK h am hs b5
  |aW x fb aL=>simp only [step1,am]at hs;repeat' (first |(split at hs) |(simp at hs;done))
 |typeAssert x a t ok=>cases s with
  |go f=>exact λ_=>UY h am hs
  |aW x fb aL=>simp only [step1,am]at hs;repeat' (first |(split at hs) |(rw [Bool.cond_eq_ite]at hs) |(simp at hs;done) |(cases hs;done))
 |extract x i=>cases s with
  |go f=>exact λ_=>Uv h am hs
  |aW x fb aL=>simp only [step1,am]at hs;repeat' (first |(split at hs) |(simp at hs;done))
 |call c=>
  simp only [step1,am]at hs;split at hs
  ·rename_i x mr;split at hs
   case h_2=>cases hs
   rename_i fn er ds hx gq;exact UR h am mr hx gq hs
  ·rename_i mr;split at hs
   ·rename_i l _ _ _ _ hd ab;cases hs;exact λ_=>La h am mr hd ab (.inl ⟨l,rfl,rfl,rfl⟩)
   ·rename_i k n get _ _ _ _ _ hd ab;cases hs;exact λ_=>La h am mr hd ab (.inr ⟨k,get,_,rfl,rfl⟩)
   ·cases hs
  ·rename_i mr;split at hs
   case h_2=>cases hs
   rename_i t x e adI vM iZ _ t2 eJ eM d9;split at hs
   case h_3=>cases hs
   case h_2=>
    rename_i bN k n get d2 y rs hle nP iB d';rw [Bool.cond_eq_ite]at hs;split at hs
    case isFalse=>cases hs
    rename_i hc;simp only [Bool.and_eq_true,Nat.beq_eq,Nat.ble_eq]at hc;obtain⟨⟨⟨rfl,DY⟩,te⟩,ra⟩:=hc;rw [Option.bind_eq_some_iff]at eM d9;obtain⟨UZ,y2,eM⟩:=eM;obtain⟨U0,ml,d9⟩:=d9;have hM:=dp (ds:=[]) h.bd h.dd iB;split at hs
    case h_2=>cases hs
    rename_i aq m kb e2 nQ;rw [Bool.cond_eq_ite]at hs;split at hs
    case isFalse=>cases hs
    rename_i hE;simp only [Bool.and_eq_true,Nat.beq_eq,Nat.ble_eq]at hE;obtain⟨rfl,hm⟩:=hE;cases hs;intro b5;obtain⟨news,kJ,js⟩:=Kt h.bd.bd h.tt d9 nQ hM;exact TK h.bd h.dd h.tt eM rfl hle am mr eJ y2 ml nP te hm kJ js (DI (b5 (room (n+m) bN.bytes=true) (by simp))) (b5 (fX _ y) (by simp))
   rename_i bN k n get d2 adJ a1 y rs hle nP iB vr d';rw [Bool.cond_eq_ite]at hs;split at hs
   case isFalse=>cases hs
   rename_i hc;simp only [Bool.and_eq_true,Nat.beq_eq,Nat.ble_eq]at hc;obtain⟨⟨⟨⟨rfl,rfl⟩,DY⟩,te⟩,ra⟩:=hc;rw [Option.bind_eq_some_iff]at eM d9;obtain⟨UZ,y2,eM⟩:=eM;obtain⟨U0,ml,d9⟩:=d9;have hM:=dp (ds:=[]) h.bd h.dd iB;split at hs
   ·rename_i aq m kb e2 nQ;rw [Bool.cond_eq_ite]at hs;split at hs
    case isFalse=>cases hs
    rename_i hE;simp only [Nat.beq_eq]at hE;subst hE;cases hs;intro b5;obtain⟨news,kJ,js⟩:=Kt h.bd.bd h.tt d9 nQ hM;exact Kp h.bd h.dd h.tt eM rfl hle am mr eJ y2 ml nP vr rfl te kJ js (DI (b5 (room (n+m) bN.bytes=true) (by simp))) (b5 (fX _ y) (by simp))
   ·rename_i l nQ;rw [Bool.cond_eq_ite]at hs;split at hs
    case isFalse=>cases hs
    rename_i hE;simp only [Nat.beq_eq]at hE;cases hs;intro b5;have DZ:=kG hM;obtain⟨news,kJ,js⟩:=TP (P:=P) (w:=w) h.tt d9 nQ l M;rw [←DZ,←hE]at kJ;rw [←hE]at js;exact Kp h.bd h.dd h.tt eM rfl hle am mr eJ y2 ml nP vr rfl te kJ js (DI (b5 (room (n+l.length) bN.bytes=true) (by simp))) (b5 (fX _ y) (by simp))
   ·cases hs
  ·rename_i mr;split at hs
   ·rename_i k a aq b hd;rw [Bool.cond_eq_ite]at hs;split at hs
    case isFalse=>cases hs
    rename_i hk;have rb:k=aq:=by simpa using hk
    subst rb;cases hs;exact λ_=>UW h am mr hd
   ·cases hs
  ·rename_i mr;split at hs
   ·rename_i k a aq b hd;rw [Bool.cond_eq_ite]at hs;split at hs
    case isFalse=>cases hs
    rename_i hk;have rb:k=aq:=by simpa using hk
    subst rb;cases hs;exact λ_=>UX h am mr hd
   ·cases hs
  ·cases hs
 |panic x=>cases s with
  |go f=>simp only [step1,am]at hs;repeat' (first |(split at hs) |(simp at hs;done))
  |aW y fb aL=>
   simp only [step1,am]at hs;split at hs
   case h_2=>cases hs
   rename_i t z hd;cases hs;intro _;have ai:=dp (ds:=[]) h.bd h.dd hd;obtain⟨u,ar,hu⟩:=C4 ai;refine .inl ⟨.iface t u,?_,.iface t u z hu,rfl⟩;simp [execOp,am,ar,Instr.panic]
 |_=>simp [step1,am]at hs
end
inductive bY where
 |normal
 |exit (id:Nat)
 |ret
 |aW (x:V)
def pI(P:Program)(K:Ctx)(N:Nat)(eQ:bY)(st:az)(e:Exit)(a:Act)(w:World):Prop:=
 match eQ with
 |.normal=>e = .normal∧a.defers=K.ds∧a.tmps.size=N∧∃M β,bo P K M β st a.tmps w
 |.exit id=>e = .exit id∧a.defers=K.ds∧a.tmps.size=N∧∃M β,bo P K M β st a.tmps w
 |.ret=>e = .ret∧a.defers=K.ds∧a.tmps.size=N∧∃M β,bo P K M β st a.tmps w
 |.aW x=>∃v,e = .panic [{v,recovered:=false}]∧a.defers=K.ds∧∃M β,cw M v x∧bo P K M β st a.tmps w
section
variable {P:Program} {K:Ctx} {N:Nat} {M:Mem} {β:Nat→Option Nat} {st:az} {g es:cG} {tmps:Array Value} {w:World} {o:Oper} {f:ji} {p:Path} {tt:c7} {ops:List Oper}
def bo.vN(h:bo P K M β st tmps w)(eV:Array Value):bo P K M β {env:=[],H:=st.H,aJ:=st.aJ} eV w:=by
 have Z:bo P K M β {env:=[],H:=st.H,aJ:=st.aJ} tmps w:=h.sub rfl (λl e ab=>by
  cases l with
  |slot s=>simp [az.at,look]at ab
  |cell r i=>exact⟨e,ab,rfl,λ_ h=>h⟩) (λr cs ai=>⟨cs,ai,rfl⟩)
 have ar:∀l e,({env:=[],H:=st.H,aJ:=st.aJ}:az).at l=some e→b0 eV w β l=b0 tmps w β l:=by
  intro l e ab;cases l with
  |slot s=>simp [az.at,look]at ab
  |cell r i=>rfl
 constructor
 ·intro l e ab;rw [ar l e ab];exact Z.eE l e ab
 ·intro l e T ab aG;rw [ar l e ab];exact Z.own l e T ab aG
 ·intro l cd e a1 T T' b ab aG cY dn hb bw;rw [ar l e ab]at hb;rw [ar cd a1 cY]at bw;exact Z.uniq l cd e a1 T T' b ab aG cY dn hb bw
 ·intro l e T b r cs ab aG hb ai;rw [ar l e ab]at hb;exact Z.unbox l e T b r cs ab aG hb ai
 ·exact Z.box
 ·exact Z.inj
 ·exact Z.lt
 ·exact Z.mem
 ·exact Z.m0
 ·exact Z.frame
 ·exact Z.gT
 ·exact Z.hL
 ·exact Z.gn
def vO(h:eW P K N M β g tmps w):∀{p:Path} {q:Prop},e7 tmps p→under g p q→q
 |[],_,_,ax=>ax
 |(t,mo)::p,q,hp,ax=>by
  have bH:tmps.getD t undef = .bool mo:=hp (t,mo) (by simp)
  have tf:e7 tmps p:=λx hx=>hp x (by simp [hx])
  simp only [under]at ax;split at ax
  ·rename_i b hb;refine vO h tf (ax ?_);unfold u5 at hb;split at hb
   ·rename_i q' bl hc;cases hb;by_cases gY:e7 tmps q'
    ·have:=qM ((h.cond t _ _ hc).1 gY)
     rw [bH]at this;cases this;rfl
    ·have:=(h.cond t _ _ hc).2 gY
     rw [bH]at this;cases this
   ·cases hb
   ·split at hb
    ·rename_i bl own he;cases hb;have:=qM (h.bd.eE (.slot t) _ he)
     simp only [b0]at this;rw [bH]at this;cases this;rfl
    ·cases hb
  ·exact vO h tf ax
def Ld(h:eW P K N M β g tmps w){opsA:Array Oper}(ld:opsA.toList=ops)(hp:mT ops g o=some p):Region.wanted o (yielded opsA tmps)=true↔e7 tmps p:=by
 unfold mT at hp;split at hp
 ·rename_i hg;cases hp;simp [Region.wanted,hg,e7]
 ·rename_i j mo hg;split at hp
  case h_2=>cases hp
  rename_i t bH
  have bX:yielded opsA tmps j=some mo↔tmps.getD t undef = .bool mo:=by
   unfold yielded;have:opsA[j]? = ops[j]? := by rw [←ld];simp
   rw [this,bH];simp only [Option.bind_some,Array.getD_eq_getD_getElem?];cases bf:tmps[t]? with
   |none=>simp [undef]
   |some v=>cases v<;>simp
  have hw:Region.wanted o (yielded opsA tmps)=true↔tmps.getD t undef = .bool mo:=by
   rw [←bX];simp [Region.wanted,hg]
  split at hp
  ·rename_i q b hc;cases hp;rw [hw];constructor
   ·intro vP x hx;rcases List.mem_append.1 hx with hx|hx
    ·by_cases gY:e7 tmps q
     ·exact gY x hx
     ·have:=(h.cond t _ _ hc).2 gY
      rw [vP]at this;cases this
    ·simp at hx;subst hx;exact vP
   ·intro gY;exact gY (t,mo) (by simp)
  ·cases hp
  ·split at hp
   ·cases hp;rw [hw];exact⟨λh x hx=>by simp at hx;subst hx;exact h,λh=>h (t,mo) (by simp)⟩
   ·cases hp
def D0{t:Nat}{v:Value}{q:Path}(ax:∀x,x∈q→x.1≠t):e7 (tmps.setIfInBounds t v) q↔e7 tmps q:=by
 unfold e7;constructor<;>intro h x hx
 ·have:=h x hx
  rwa [Array.getD_eq_getD_getElem?,Array.getElem?_setIfInBounds_ne (Ne.symm (ax x hx)),←Array.getD_eq_getD_getElem?]at this
 ·have:=h x hx
  rwa [Array.getD_eq_getD_getElem?,Array.getElem?_setIfInBounds_ne (Ne.symm (ax x hx)),←Array.getD_eq_getD_getElem?]
def U1{t s:Nat}{v:Value}(h:s≠t):(tmps.setIfInBounds t v).getD s undef=tmps.getD s undef:=by
 rw [Array.getD_eq_getD_getElem?,Array.getElem?_setIfInBounds_ne (Ne.symm h),←Array.getD_eq_getD_getElem?]
def U2{bB:List (Nat×Path×D)}{t:Nat}(h:sP bB t=true){s:Nat}{q:Path}{d:D}(hc:look bB s=some (q,d))(hs:s≠t):∀x,x∈q→x.1≠t:=by
 unfold sP at h;rw [List.all_eq_true]at h;have:=h _ (oI hc)
 simp only [Bool.or_eq_true,Nat.beq_eq,List.all_eq_true,Bool.not_eq_true']at this;rcases this with Z|Z
 ·exact absurd Z hs
 ·intro x hx e;have:=Z x hx
  rw [e]at this;simp at this
def D1(h:∀t q d,look g.bB t=some (q,d)→(e7 tmps q→b3 M β (tmps.getD t undef) d)∧(¬ e7 tmps q→tmps.getD t undef=undef)){t:Nat}{v:Value}(a7:sP g.bB t=true){M':Mem}{β':Nat→Option Nat}
 (cr:M.le M') (fZ:∀r b,β r=some b→β' r=some b):
 ∀s q d,look (del g.bB t) s=some (q,d)→(e7 (tmps.setIfInBounds t v) q→b3 M' β' ((tmps.setIfInBounds t v).getD s undef) d)∧(¬ e7 (tmps.setIfInBounds t v) q→(tmps.setIfInBounds t v).getD s undef=undef):=by
 intro s q d hc;rw [nE]at hc;by_cases hs:t=s
 ·simp [hs]at hc
 ·rw [if_neg hs]at hc;rw [D0 (U2 a7 hc (Ne.symm hs)),U1 (Ne.symm hs)];exact⟨λgY=>(((h s q d hc).1 gY).mono cr).CP fZ,(h s q d hc).2⟩
def vQ(ds:List Deferred):Act.eval ⟨tmps,ds⟩=Act.eval ⟨tmps,[]⟩:=by
 funext x;cases x<;>rfl
def Le{α:Type}:∀(a b:List (Nat×α)) (q:Nat),look (a++b) q=none→look a q=none∧look b q=none
 |[],b,q,h=>⟨rfl,h⟩
 |(j,x)::a,b,q,h=>by
  simp only [List.cons_append,de]at h ⊢;by_cases hj:j=q
  ·simp [hj]at h
  ·simp only [hj,if_false]at h ⊢;exact Le a b q h
def eW.D2(h:eW P K N M β g tmps w){β':Nat→Option Nat}{hs:List (Nat×List aM)}(rc:∀r b,β' r=some b→β r=some b∨(look hs r).isSome=true):
 ∀s id,look g.ids s=some id→look (hs++g.H) id=none→∀b,β' id≠some b:=by
 intro s id hid ab b hb;obtain⟨Z,ad⟩:=Le _ _ _ ab;rcases rc id b hb with al|al
 ·exact h.fresh s id hid ad b al
 ·rw [Z]at al;cases al
def D3(h:eW P K N M β g tmps w)(b4:eI P tt=true){opsA:Array Oper}(ld:opsA.toList=ops)(hs:lN (h6 P) tt N ops g o=some (.go es))(b5:∀q,q∈es.aL→q){Q:Exit→Act→World→Prop}{next:Act→World→Prop}
 (gH:∀eV w' M' β',eW P K N M' β' es eV w'→next ⟨eV,K.ds⟩ w'):
 if Region.wanted o (yielded opsA tmps)then o.wp P ⟨tmps,K.ds⟩ w next Q∨(o.asks P ⟨tmps,K.ds⟩ w∧LetsOut Q)else next ((⟨tmps,K.ds⟩:Act).put o.dst undef) w:=by
 unfold lN at hs;split at hs
 case h_1=>cases hs
 rename_i p hp;have hw:=Ld h ld hp;split at hs
 ·cases hs
 ·rw [Bool.cond_eq_ite]at hs;split at hs<;>cases hs
 rename_i f a7
 dsimp only at hs
 by_cases gY:e7 tmps p
 ·rw [if_pos (
   hw.2 gY)]
  refine .inl ?_;have hC:=Lc (g:=g) (ops:=ops) ⟨h,gY,b4⟩ a7
  -- DE follows once kh value is there
  have main:(∀q,q∈f.aL→q)∧∀v w',gV P K M β g f tmps v w'→next ((⟨tmps,K.ds⟩:Act).put o.dst v) w':=by
   split at hs
   ·rename_i re;rw [Bool.cond_eq_ite]at hs;split at hs
    case isFalse=>cases hs
    rename_i ra;have vR:p=[]:=by simpa using ra
    subst vR;cases hs;refine⟨λq ax=>vO h gY (b5 _ (List.mem_append_left _ (List.mem_map.2 ⟨q,ax,rfl⟩))),?_⟩
    rintro v w' ⟨M',β',cr,fZ,rc,ci,_⟩
    rw [re];exact gH tmps w' M' β' ⟨ci,h.size,h.D2 rc,λs q d hc=>⟨λgY=>(((h.cond s q d hc).1 gY).mono cr).CP fZ,(h.cond s q d hc).2⟩⟩
   ·rename_i t re;rw [Bool.cond_eq_ite]at hs;split at hs
    case isFalse=>cases hs
    rename_i hc;simp only [Bool.and_eq_true,Nat.blt_eq]at hc;have cB:t<tmps.size:=by rw [h.size];exact hc.1
    rcases p with _|⟨x,D4⟩<;>dsimp only at hs
    ·cases hs;refine⟨λq ax=>vO h gY (b5 _ (List.mem_append_left _ (List.mem_map.2 ⟨q,ax,rfl⟩))),?_⟩
     rintro v w' ⟨M',β',cr,fZ,rc,ci,hC⟩
     rw [re];refine gH _ w' M' β' ⟨?_,by simpa using h.size,h.D2 rc,D1 h.cond hc.2 cr fZ⟩
     cases he:f.e with
     |none=>exact ci.drop
     |some e=>
      obtain⟨Z,ad⟩:=hC e he;exact ci.put cB Z (λT aG=>ad T _ aG)
    ·split at hs
     ·rename_i e he rf mj;rw [Bool.cond_eq_ite]at hs;split at hs
      case isFalse=>cases hs
      rename_i kl;simp only [Bool.and_eq_true,List.all_eq_true,Nat.beq_eq,Bool.not_eq_true']at kl;cases hs;refine⟨λq ax=>vO h gY (b5 _ (List.mem_append_left _ (List.mem_map.2 ⟨q,ax,rfl⟩))),?_⟩
      rintro v w' ⟨M',β',cr,fZ,rc,ci,hC⟩
      rw [re];obtain⟨Z,_⟩:=hC e he
      have iC:∀y,y∈x::D4→y.1≠t:=λy bX e=>by
       have:=kl.1 y bX
       rw [e]at this;simp at this
      refine gH _ w' M' β' ⟨?_,by simpa using h.size,by have:=h.D2 rc;rw [rf]at this;exact this,λs q d dy=>?_⟩
      ·have:after g f={env:=g.env,H:=g.H,aJ:=g.aJ}:=by unfold after;rw [mj,rf,kl.2];rfl
       rw [this]at ci;exact ci.drop
      ·rw [de]at dy;by_cases jo:t=s
       ·rw [if_pos jo]at dy;cases dy;subst jo;rw [D0 iC];refine⟨λ_=>?_,λhn=>absurd gY hn⟩
        have:(tmps.setIfInBounds t v).getD t undef=v:=by simp [cB]
        rw [this];exact Z
       ·rw [if_neg jo]at dy;exact D1 h.cond hc.2 cr fZ s q d dy
     ·cases hs
  obtain⟨U3,hB⟩:=main;rcases hC U3 with⟨v,w',et,jQ⟩|⟨he,w',et,jQ⟩|⟨fn,vs,et,rh⟩
  ·unfold Oper.wp;rw [vQ,et];exact hB v w' jQ
  ·unfold Oper.wp;rw [vQ,et];exact hB undef w' jQ
  ·unfold Oper.wp;rw [vQ,et];refine rh.mono ?_
   rintro e w' ⟨v,rfl,jQ⟩
   exact hB v w' jQ
 ·have U4:Region.wanted o (yielded opsA tmps)=false:=by
   rw [Bool.eq_false_iff];exact λbf=>gY (hw.1 bf)
  rw [U4];simp only [Bool.false_eq_true,if_false];split at hs
  ·rename_i re;rw [Bool.cond_eq_ite]at hs;split at hs
   case isFalse=>cases hs
   rename_i ra;have vR:p=[]:=by simpa using ra
   subst vR;exact absurd (λx hx=>by cases hx) gY
  ·rename_i t re;rw [Bool.cond_eq_ite]at hs;split at hs
   case isFalse=>cases hs
   rename_i hc;simp only [Bool.and_eq_true,Nat.blt_eq]at hc;rcases p with _|⟨x,D4⟩<;>dsimp only at hs
   ·exact absurd (λx hx=>by cases hx) gY
   ·split at hs
    ·rename_i e he rf mj;rw [Bool.cond_eq_ite]at hs;split at hs
     case isFalse=>cases hs
     rename_i kl;simp only [Bool.and_eq_true,List.all_eq_true,Nat.beq_eq,Bool.not_eq_true']at kl;cases hs;rw [re]
     have iC:∀y,y∈x::D4→y.1≠t:=λy bX e=>by
      have:=kl.1 y bX
      rw [e]at this;simp at this
     refine gH _ w M β ⟨h.bd.drop,by simpa using h.size,h.fresh,λs q d dy=>?_⟩
     rw [de]at dy;by_cases jo:t=s
     ·rw [if_pos jo]at dy;cases dy;subst jo;rw [D0 iC];refine⟨λbf=>absurd bf gY,λ_=>?_⟩
      have cB:t<tmps.size:=by rw [h.size];exact hc.1
      simp [cB]
     ·rw [if_neg jo]at dy;exact D1 h.cond hc.2 (Mem.le_refl _) (λ_ _ h=>h) s q d dy
    ·cases hs
end
section
variable {P:Program} {K:Ctx} {N E:Nat} {M:Mem} {β:Nat→Option Nat} {st:az} {g es:cG} {tmps:Array Value} {w:World} {o:Oper} {f:ji} {p:Path} {tt:c7} {ops:List Oper}
def Lf(h:eW P K N M β g tmps w)(b4:eI P tt=true){opsA:Array Oper}(ld:opsA.toList=ops){x:V}{st:az}{aL:List Prop}(hs:lN (h6 P) tt N ops g o=some (.aW x st aL))(b5:∀q,q∈aL→q){Q:Exit→Act→World→Prop}{next:Act→World→Prop}
 (gH:∀e dj w',pI P K N (.aW x) st e dj w'→Q e dj w'):
 if Region.wanted o (yielded opsA tmps)then o.wp P ⟨tmps,K.ds⟩ w next Q∨(o.asks P ⟨tmps,K.ds⟩ w∧LetsOut Q)else next ((⟨tmps,K.ds⟩:Act).put o.dst undef) w:=by
 unfold lN at hs;split at hs
 case h_1=>cases hs
 rename_i p hp;have hw:=Ld h ld hp;split at hs
 ·cases hs
 ·rename_i y fb pJ eh;rw [Bool.cond_eq_ite]at hs;split at hs
  case isFalse=>cases hs
  rename_i ra;have vR:p=[]:=by simpa using ra
  subst vR;cases hs;have gY:e7 tmps []:=λx hx=>by cases hx
  rw [if_pos (hw.2 gY)];refine .inl ?_;have hC:=Lc (g:=g) (ops:=ops) ⟨h,gY,b4⟩ eh;rcases hC (λq ax=>b5 q (List.mem_append_left _ ax)) with⟨v,et,ai,rfl⟩|⟨fn,vs,et,rh⟩
  ·unfold Oper.wp;rw [vQ,et];exact gH _ _ _ ⟨v,rfl,rfl,M,β,ai,h.bd.mS λs e he=>⟨e,he,rfl⟩⟩
  ·unfold Oper.wp;rw [vQ,et];refine rh.mono ?_
   rintro e w' ⟨v,M',rfl,ai,ci⟩
   exact gH _ _ _ ⟨v,rfl,rfl,M',β,ai,ci⟩
 ·dsimp only at hs
  repeat' (first|(split at hs)|(rw [Bool.cond_eq_ite]at hs)|(cases hs;done))
def U5{bL:fw}(hs:lN bL tt N ops g o=some (.go es)):∀q,q∈g.aL→q∈es.aL:=by
 intro q ax;unfold lN at hs;split at hs
 case h_1=>cases hs
 split at hs
 ·cases hs
 ·rw [Bool.cond_eq_ite]at hs;split at hs<;>cases hs
 ·dsimp only at hs
  repeat' (first|(split at hs)|(rw [Bool.cond_eq_ite]at hs)|(cases hs;exact List.mem_append_right _ ax)|(cases hs;done))
def U6{bL:fw}{x:V}{st:az}{aL:List Prop}(hs:lN bL tt N ops g o=some (.aW x st aL)):∀q,q∈g.aL→q∈aL:=by
 intro q ax;unfold lN at hs;split at hs
 case h_1=>cases hs
 split at hs
 ·cases hs
 ·rw [Bool.cond_eq_ite]at hs;split at hs<;>cases hs;exact List.mem_append_right _ ax
 ·dsimp only at hs
  repeat' (first|(split at hs)|(rw [Bool.cond_eq_ite]at hs)|(cases hs;done))
def Lg:u'→List Prop
 |.go g=>g.aL
 |.aW _ _ aL=>aL
def Lh{bL:fw}:∀{l:List Oper} {g:cG} {fin:u'},pq bL tt N ops l g=some fin→∀q,q∈g.aL→q∈Lg fin
 |[],g,fin,h,q,ax=>by simp [pq]at h;subst h;exact ax
 |o::l,g,fin,h,q,ax=>by
  simp only [pq]at h;split at h
  ·rename_i es hs;exact Lh h q (U5 hs q ax)
  ·cases fin with
   |go es=>exact absurd h (by intro bf;rename_i dt;exact dt _ bf)
   |aW x st aL=>exact U6 h q ax
def D5(b4:eI P tt=true){opsA:Array Oper}(ld:opsA.toList=ops){Q:Exit→Act→World→Prop}{fin:u'}(lf:∀q,q∈Lg fin→q)
 (dq:match fin with
  |.go es=>∀eV w' M' β',eW P K N M' β' es eV w'→Q .normal ⟨eV,K.ds⟩ w'
  |.aW x st _=>∀e dj w',pI P K N (.aW x) st e dj w'→Q e dj w'):
 ∀(l:List Oper) (k:Nat) (g:cG) (tmps:Array Value) (w:World) (M:Mem) (β:Nat→Option Nat),(∀j,l[j]? = ops[k+j]?)→eW P K N M β g tmps w→pq (h6 P) tt N ops l g=some fin→
  wpOps P opsA Q (List.range' k l.length) ⟨tmps,K.ds⟩ w
 |[],k,g,tmps,w,M,β,_,h,ai=>by
  simp [pq]at ai;subst ai;exact dq tmps w M β h
 |o::l,k,g,tmps,w,M,β,ab,h,ai=>by
  have hk:opsA[k]? = some o:=by
   have:=ab 0
   simp at this
   rw [←Array.getElem?_toList,ld];exact this.symm
  simp only [List.length_cons,List.range'_succ,wpOps,hk];simp only [pq]at ai;split at ai
  ·rename_i es hs;refine D3 h b4 ld hs (λq ax=>lf q (Lh ai q ax)) (λeV w' M' β' cL=>?_)
   exact D5 b4 ld lf dq l (k+1) es eV w' M' β' (λj=>by have:=ab (j+1);simpa [Nat.add_assoc,Nat.add_comm 1 j]using this) cL ai
  ·cases fin with
   |go es=>exact absurd ai (by intro bf;rename_i dt;exact dt _ bf)
   |aW x st aL=>exact Lf h b4 ld ai lf (λe dj w' b7=>dq e dj w' b7)
def aS(P:Program)(N E:Nat)(c:Code)(Q:bY→az→Prop)(st:az):Prop:=
 ∀(K:Ctx),(∀r b,K.jl r=some b→r<E)→∀(a:Act) (w:World),pI P K N .normal st .normal a w→c.wp P (λe dj w'=>∃eQ bD,pI P K N eQ bD e dj w'∧Q eQ bD) a w
def aS.mono{c:Code}{Q Li:bY→az→Prop}(h:aS P N E c Q st)(ax:∀eQ bD,Q eQ bD→Li eQ bD):aS P N E c Li st:=
 λK dT a w hs=>wp_mono (h K dT a w hs) λ_ _ _ ⟨eQ,bD,Z,ad⟩=>⟨eQ,bD,Z,ax _ _ ad⟩
@[reducible] def bY.then (next : az → Prop) (Q : bY → az → Prop) : bY → az → Prop
 |.normal,st=>next st
 |e,st=>Q e st
@[reducible] def bY.inBlock (id : Nat) (Q : bY → az → Prop) : bY → az → Prop
 |.exit i,st=>if i=id then Q .normal st else Q (.exit i) st
 |e,st=>Q e st
def aS.seq{x y:Code}{Q:bY→az→Prop}(h:aS P N E x (bY.then (aS P N E y Q) Q) st):aS P N E (.seq x y) Q st:=by
 intro K dT a w hs;refine wp_seq (wp_mono (h K dT a w hs) ?_)
 rintro e dj w' ⟨eQ,bD,Z,ad⟩
 cases eQ with
 |normal=>
  obtain⟨rfl,al⟩:=Z;exact ad K dT dj w' ⟨rfl,al⟩
 |exit i=>obtain⟨rfl,al⟩:=Z;exact⟨.exit i,bD,⟨rfl,al⟩,ad⟩
 |ret=>obtain⟨rfl,al⟩:=Z;exact⟨.ret,bD,⟨rfl,al⟩,ad⟩
 |aW x=>obtain⟨v,rfl,al⟩:=Z;exact⟨.aW x,bD,⟨v,rfl,al⟩,ad⟩
def aS.skip{Q:bY→az→Prop}(h:Q .normal st):aS P N E .skip Q st:=λ_ _ _ _ hs=>wp_skip ⟨.normal,st,hs,h⟩
def aS.label{l:Nat}{Q:bY→az→Prop}(h:Q .normal st):aS P N E (.label l) Q st:=λ_ _ _ _ hs=>wp_label ⟨.normal,st,hs,h⟩
def aS.exit{id:Nat}{Q:bY→az→Prop}(h:Q (.exit id) st):aS P N E (.exit id) Q st:=λ_ _ _ _ hs=>wp_exit ⟨.exit id,st,⟨rfl,hs.2⟩,h⟩
def aS.ret{Q:bY→az→Prop}(h:Q .ret st):aS P N E .ret Q st:=λ_ _ _ _ hs=>wp_ret ⟨.ret,st,⟨rfl,hs.2⟩,h⟩
def aS.block{id:Nat}{c:Code}{Q:bY→az→Prop}(h:aS P N E c (bY.inBlock id Q) st):aS P N E (.block id c) Q st:=by
 intro K dT a w hs;refine wp_block (wp_mono (h K dT a w hs) ?_)
 rintro e dj w' ⟨eQ,bD,Z,ad⟩
 cases eQ with
 |normal=>obtain⟨rfl,al⟩:=Z;exact⟨.normal,bD,⟨rfl,al⟩,ad⟩
 |exit i=>
  obtain⟨rfl,al⟩:=Z;by_cases hi:i=id
  ·simp only [bY.inBlock,hi,if_true]at ad;simp only [Exit.inBlock,hi,if_true];exact⟨.normal,bD,⟨rfl,al⟩,ad⟩
  ·simp only [bY.inBlock,hi,if_false]at ad;simp only [Exit.inBlock,hi,if_false];exact⟨.exit i,bD,⟨rfl,al⟩,ad⟩
 |ret=>obtain⟨rfl,al⟩:=Z;exact⟨.ret,bD,⟨rfl,al⟩,ad⟩
 |aW x=>obtain⟨v,rfl,al⟩:=Z;exact⟨.aW x,bD,⟨v,rfl,al⟩,ad⟩
def aS.cond{c:Nat}{x y:Code}{Q:bY→az→Prop}(b:Bool)(own:Option TypeId)(hc:look st.env c=some ⟨.v (.bool b),own⟩)(bH:b=true→aS P N E x Q st)(a7:b=false→aS P N E y Q st):aS P N E (.cond (.tmp c) x y) Q st:=by
 intro K dT a w hs;obtain⟨_,_,_,M,β,ci⟩:=id hs;have ar:a.eval (.tmp c) = .bool b:=qM (ci.eE (.slot c) _ hc);exact wp_cond_split ar (λhb=>bH hb K dT a w hs) (λhb=>a7 hb K dT a w hs)
def aS.loop{c:Code}{Q:bY→az→Prop}{σ:Type}(I:Nat→σ→az→Prop)(Lj:∀n s st,I n s st→∃m,n=m+1∧aS P N E c (bY.then (λbD=>∃sU,I m sU bD) Q) st)
 {n:Nat} {s:σ} {st:az} (h0:I n s st):aS P N E (.loop c) Q st:=by
 intro K dT a w hs b k cs
 have key:∀n s st a w,I n s st→pI P K N .normal st .normal a w→
  ∃e dj w',(∃eQ bD,pI P K N eQ bD e dj w'∧Q eQ bD)∧Arrives P (lone (b.at a (.code c :: .inLoop c::k)) cs w) b k cs e dj w':=by
  intro n;induction n with
  |zero=>
   intro s st a w D6 _;obtain⟨m,hm,_⟩:=Lj 0 s st D6;omega
  |succ n a'=>
   intro s st a w D6 hs;obtain⟨m,hm,DU⟩:=Lj (n+1) s st D6;have:m=n:=by omega
   subst this;obtain⟨e,y3,y4,⟨eQ,bD,Z,ad⟩,tg⟩:=DU K dT a w hs b (.inLoop c::k) cs;cases eQ with
   |normal=>
    obtain⟨rfl,al⟩:=Z;obtain⟨sU,U7⟩:=ad;obtain⟨U8,U9,U',U_,Va⟩:=a' sU bD y3 y4 U7 ⟨rfl,al⟩;exact⟨U8,U9,U',U_,.of_steps (Steps.trans tg (.one step_inLoop)) Va⟩
   |exit i=>obtain⟨rfl,al⟩:=Z;exact⟨_,y3,y4,⟨.exit i,bD,⟨rfl,al⟩,ad⟩,.pass (x:=.inLoop c) rfl (λ_ _=>.inl (by simp)) tg⟩
   |ret=>obtain⟨rfl,al⟩:=Z;exact⟨_,y3,y4,⟨.ret,bD,⟨rfl,al⟩,ad⟩,.pass (x:=.inLoop c) rfl (λ_ _=>.inl (by simp)) tg⟩
   |aW x=>obtain⟨v,rfl,al⟩:=Z;exact⟨_,y3,y4,⟨.aW x,bD,⟨v,rfl,al⟩,ad⟩,.pass (x:=.inLoop c) rfl (λ_ _=>.inl (by simp)) tg⟩
 obtain⟨e,dj,w',ax,tg⟩:=key n s st a w h0 hs;exact⟨e,dj,w',ax,.of_steps (.one step_loop) tg⟩
end
def th(tt:c7)(st:az):ResultVar→Option D
 |.tmp t=>(look st.env t).map (·.d)
 |.cell a t=>match look st.env a,look tt t with
  |some ⟨.ptr r off,_⟩,some aB=>match look st.H r with
   |some cs=>bif aB.k.isAgg then(bif Nat.ble (off+aB.size) cs.length then some (nA (((cs.drop off).take aB.size).map (·.d)))else none) else(cs[off]?).map (·.d)
   |none=>none
  |_,_=>none
def Lk(tt:c7)(st:az):List ResultVar→Option (D×Option TypeId)
 |[.tmp t]=>(look st.env t).map λe=>(e.d,e.own)
 |[x]=>(th tt st x).map (·,none)
 |xs=>(mapM' (th tt st) xs).map λds=>(.cc ds,none)
def leave(tt:c7)(E:Nat)(rs:List ResultVar)(st:az):Option (Out×List (List aM)):=
 match Lk tt st rs,boxes st.H (List.range E) with
 |some (d,own),some bq=>bif below E d&&bq.all (pr E)then some (.ret d own,bq)else none
 |_,_=>none
def y5(E:Nat)(H:List (Nat×List aM)):Option (List (List aM)):=
 match boxes H (List.range E) with
 |some bq=>bif bq.all (pr E)then some bq else none
 |none=>none
def lV(H:List (List aM)):List (List aM):=H.map λb=>b.map λe=>{d:=e.d}
def pK(tt:c7)(E:Nat)(rs:List ResultVar)(R:Out→List (List aM)→Prop):bY→az→Prop
 |.normal,st=>∃o bq,leave tt E rs st=some (o,bq)∧R o bq
 |.ret,st=>∃o bq,leave tt E rs st=some (o,bq)∧R o bq
 |.aW x,st=>∃bq,y5 E st.H=some bq∧R (.aW x) (lV bq)
 |.exit _,_=>False
section
variable {P:Program} {K:Ctx} {N E:Nat} {M:Mem} {β:Nat→Option Nat} {st:az} {tmps:Array Value} {w:World} {tt:c7}
def y6(tmps:Array Value):ResultVar→Sem Value
 |.tmp t=>pure (tmps.getD t undef)
 |.cell a t=>do loadVar t (←asAddr (tmps.getD a undef))
def Ll(h:bo P K M β st tmps w)(b4:eI P tt=true){x:ResultVar}{d:D}(hx:th tt st x=some d):
 ∃v,(y6 tmps x).run P w = .ok v w∧b3 M β v d:=by
 cases x with
 |tmp t=>
  simp only [th,Option.map_eq_some_iff]at hx;obtain⟨e,he,rfl⟩:=hx;exact⟨_,rfl,h.eE (.slot t) e he⟩
 |cell a t=>
  simp only [th]at hx;split at hx
  case h_2=>cases hx
  rename_i r off own aB ha ab;obtain⟨row⟩:=dN b4 ab;split at hx
  case h_2=>cases hx
  rename_i cs ai;obtain⟨b,hb,ar⟩:=oK (h.eE (.slot a) _ ha);simp only [b0]at ar;obtain⟨bl,vs,T,bw,bf,hlen,_,_,hz,kD⟩:=h.box r cs ai;rw [hb]at bw;cases bw
  have Lm:∀{u:Value},(Instr.loadAt t (.pointer (some ⟨b,off,none⟩))).run P w = .ok u w→(do loadVar t (←asAddr (tmps.getD a undef)):Sem Value).run P w = .ok u w:=by
   intro u hu;rw [ar];simpa [Instr.loadAt,Instr.sureAddr,asAddr]using hu
  rw [Bool.cond_eq_ite]at hx;split at hx
  ·rename_i h5;rw [Bool.cond_eq_ite]at hx;split at hx
   case isFalse=>cases hx
   rename_i hle;simp only [Nat.ble_eq]at hle;cases hx;refine⟨_,Lm (J1 (P:=P) row (off:=off) bf (by omega) h5),?_⟩
   refine yA (by simp;omega) (λv ar=>hz v (List.mem_of_mem_drop (List.mem_of_mem_take ar))) (λi v c ar hc=>?_)
   rw [List.getElem?_map,Option.map_eq_some_iff]at hc;obtain⟨e,he,rfl⟩:=hc;rw [List.getElem?_take]at ar he;split at ar
   ·rename_i hi;rw [if_pos hi,List.getElem?_drop]at he;rw [List.getElem?_drop]at ar;have:=h.eE (.cell r (off+i)) e (by simp [az.at,ai,he])
    simpa [b0,hb,cell_of_heap bf,ar]using this
   ·cases ar
  ·rename_i h5;simp only [Option.map_eq_some_iff]at hx;obtain⟨e,he,rfl⟩:=hx;obtain⟨iD,TO,mW,v,fl,yK,ek,bO⟩:=CT h ai he;rw [hb]at fl;cases fl;refine⟨v,Lm (C5 (P:=P) row (by rw [cell_of_heap yK,ek]) (by simpa using h5)),?_⟩
   have:=h.eE (.cell r off) e (by simp [az.at,ai,he])
   rwa [bO]at this
def Ln(h:bo P K M β st tmps w)(b4:eI P tt=true):∀{xs:List ResultVar} {ds:List D},mapM' (th tt st) xs=some ds→
 ∃vs:List Value,(xs.mapM (y6 tmps)).run P w = .ok vs w∧vs.length=ds.length∧
  ∀(i:Nat) v d,vs[i]? = some v→ds[i]? = some d→b3 M β v d
 |[],ds,hx=>by simp [mapM']at hx;subst hx;exact⟨[],rfl,rfl,by simp⟩
 |x::xs,ds,hx=>by
  simp only [mapM']at hx;split at hx
  case h_2=>cases hx
  rename_i d UP hd gq;cases hx;obtain⟨v,ar,fA⟩:=Ll h b4 hd;obtain⟨vs,k7,ab,ai⟩:=Ln h b4 gq;refine⟨v::vs,?_,by simp [ab],λi u c hu hc=>?_⟩
  ·simp only [List.mapM_cons,Sem.run_bind,ar,Result.andThen_ok,k7,Sem.run_pure]
  ·cases i with
   |zero=>simp at hu hc;subst hu;subst hc;exact fA
   |succ i=>simp at hu hc;exact ai i u c hu hc
def Vb{H:List (Nat×List aM)}{E:Nat}{bq:List (List aM)}(h:boxes H (List.range E)=some bq):bq.length=E∧∀r,r<E→look H r=bq[r]? ∧ (bq[r]?).isSome=true:=by
 obtain⟨Z,ad⟩:=qZ h;exact⟨by simpa using Z,λr ai=>ad r r (by simp [ai])⟩
def bo.leave(h:bo P K M β st tmps w){bq:List (List aM)}(vS:boxes st.H (List.range E)=some bq)(Lo:bq.all (pr E)=true)(dT:∀r b,K.jl r=some b→r<E){v:Value}{d:D}{own:Option TypeId}
 (ar:b3 M β v d) (hd:below E d=true) (fj:∀T,own=some T→∃l,k5 P K M β {env:=fY l st.env,H:=st.H,aJ:=st.aJ} tmps w (.slot 0) v T∧True):
 ∃ β',bo P K M β' {env:=[(0,{d,own})],H:=cl 0 bq,aJ:=E} #[v] w:=by
 obtain⟨ab,jO⟩:=Vb vS;have Z:=h.vN #[undef]
 have iF:∀r cs,look (cl 0 bq) r=some cs→r<E∧look st.H r=some cs:=by
  intro r cs ai;rw [k_]at ai;have cB:r<E:=by have:=(List.getElem?_eq_some_iff.1 ai).1;omega
  exact⟨cB,by rw [(jO r cB).1];exact ai⟩
 have hle:E≤st.aJ∨E=0:=by
  by_cases h0:E=0
  ·exact .inr h0
  ·obtain⟨ad,al⟩:=jO (E-1) (by omega)
   obtain⟨cs,dy⟩:=Option.isSome_iff_exists.1 al;rw [dy]at ad;obtain⟨b,_,_,hb,_⟩:=h.box _ cs ad;have:=h.lt _ b hb
   exact .inl (by omega)
 have ad:bo P K M β {env:=[],H:=cl 0 bq,aJ:=st.aJ} #[undef] w:=by
  refine Z.sub rfl (λl e ab=>?_) (λr cs ai=>⟨cs,(iF r cs ai).2,rfl⟩)
  cases l with
  |slot s=>simp [az.at,look]at ab
  |cell r i=>
   simp only [az.at]at ab ⊢;cases ai:look (cl 0 bq) r with
   |none=>simp [ai]at ab
   |some cs=>simp [ai]at ab;exact⟨e,by simp [(iF r cs ai).2,ab],rfl,λ_ h=>h⟩
 -- kh slot
 have al:bo P K M β {env:=[(0,{d,own})],H:=cl 0 bq,aJ:=st.aJ} #[v] w:=by
  have Vc:=ad.put (t:=0) (v:=v) (e:={d,own}) (by simp) ar (λT aG=>?_)
  ·simpa using Vc
  ·obtain⟨l,hn,_⟩:=fj T aG;refine⟨hn.own,λga e T' b eM dn _ hb bw=>?_,λb r cs hb ai=>hn.unbox b r cs hb (iF r cs ai).2⟩
   cases ga with
   |slot s=>simp [az.at,look]at eM
   |cell r i=>
    simp only [az.at]at eM;cases ai:look (cl 0 bq) r with
    |none=>simp [ai]at eM
    |some cs=>
     simp [ai]at eM;exact hn.apart (.cell r i) e T' b (by simp [az.at,(iF r cs ai).2,eM]) dn (by simp) hb bw
 refine⟨λr=>if r<E then β r else none,?_⟩
 have bO:∀l e,({env:=[(0,{d,own})],H:=cl 0 bq,aJ:=st.aJ}:az).at l=some e→b0 #[v] w (λr=>if r<E then β r else none) l=b0 #[v] w β l:=by
  intro l e ab;cases l with
  |slot s=>rfl
  |cell r i=>
   simp only [az.at]at ab;cases ai:look (cl 0 bq) r with
   |none=>simp [ai]at ab
   |some cs=>simp [b0,(iF r cs ai).1]
 have k6:∀l e,({env:=[(0,{d,own})],H:=cl 0 bq,aJ:=st.aJ}:az).at l=some e→below E e.d=true:=by
  intro l e ab;cases l with
  |slot s=>
   simp only [az.at,de]at ab;split at ab
   ·cases ab;exact hd
   ·simp [look]at ab
  |cell r i=>
   simp only [az.at]at ab;cases ai:look (cl 0 bq) r with
   |none=>simp [ai]at ab
   |some cs=>
    simp [ai]at ab;rw [k_]at ai;rw [List.all_eq_true]at Lo;exact C0 (Lo cs (List.mem_of_getElem? ai)) ab
 constructor
 ·intro l e ab;rw [bO l e ab];exact(al.eE l e ab).JO (λr ai=>by simp [ai]) (k6 l e ab)
 ·intro l e T ab aG;rw [bO l e ab];exact al.own l e T ab aG
 ·intro l cd e a1 T T' b ab aG cY dn hb bw;rw [bO l e ab]at hb;rw [bO cd a1 cY]at bw;exact al.uniq l cd e a1 T T' b ab aG cY dn hb bw
 ·intro l e T b r cs ab aG hb ai;rw [bO l e ab]at hb;have:=al.unbox l e T b r cs ab aG hb ai
  simpa [(iF r cs ai).1]using this
 ·intro r cs ai;obtain⟨b,vs,T,aH,a6⟩:=al.box r cs ai;exact⟨b,vs,T,by simpa [(iF r cs ai).1]using aH,a6⟩
 ·intro r cS b cs cs' ai e_ hb bw;exact al.inj r cS b cs cs' ai e_ (by simpa [(iF r cs ai).1]using hb) (by simpa [(iF cS cs' e_).1]using bw)
 ·intro r b hb;by_cases cB:r<E
  ·exact cB
  ·simp [cB]at hb
 ·exact al.mem
 ·exact al.m0
 ·exact al.frame
 ·intro r b hb;simp [dT r b hb,al.gT r b hb]
 ·exact al.hL
 ·exact al.gn
def bo.era{env:List (Nat×aM)}{H:List (List aM)}{n:Nat}(h:bo P K M β {env:=env,H:=cl 0 H,aJ:=n} tmps w):bo P K M β {env:=env,H:=cl 0 (lV H),aJ:=n} tmps w:=by
 refine h.sub rfl (λl e ab=>?_) (λr cs ai=>?_)
 ·cases l with
  |slot s=>exact⟨e,ab,rfl,λ_ h=>h⟩
  |cell r i=>
   simp only [az.at,k_,lV,List.getElem?_map]at ab ⊢;cases hb:H[r]? with
   |none=>simp [hb]at ab
   |some b=>
    simp only [hb,Option.map_some,Option.bind_some,List.getElem?_map,Option.map_eq_some_iff]at ab;obtain⟨bW,h0,rfl⟩:=ab;exact⟨bW,by simpa using h0,rfl,λT aG=>by cases aG⟩
 ·simp only [k_,lV,List.getElem?_map,Option.map_eq_some_iff]at ai ⊢;obtain⟨b,hb,rfl⟩:=ai;exact⟨b,hb,by simp⟩
def vT{fn:Func}{E:Nat}{eV:Array Value}{w':World}{bD:az}{M':Mem}{β':Nat→Option Nat}{o:Out}{bq:List (List aM)}(b4:eI P tt=true)(dT:∀r b,K.jl r=some b→r<E)(hs:bo P K M' β' bD eV w')
 (ab:Ab.leave tt E fn.results.toList bD=some (o,bq)):
 ∃v,(results fn eV).run P w' = .ok v w'∧∃k9 M' β',Ending.returned v=pB o k9∧bo P K M' β' {env:=gG o,H:=cl 0 bq,aJ:=E} #[k9] w':=by
 unfold Ab.leave at ab;split at ab
 case h_2=>cases ab
 rename_i d own H1 hC vS;rw [Bool.cond_eq_ite]at ab;split at ab
 case isFalse=>cases ab
 rename_i hc;simp only [Bool.and_eq_true]at hc;cases ab
 -- kh value of kh results
 have bO:∃v,(results fn eV).run P w' = .ok v w'∧b3 M' β' v d∧∀T,own=some T→∃l,k5 P K M' β' {env:=fY l bD.env,H:=bD.H,aJ:=bD.aJ} eV w' (.slot 0) v T∧True:=by
  have hm:∀{vs:List Value},(fn.results.toList.mapM (y6 eV)).run P w' = .ok vs w'→
   (results fn eV).run P w' = .ok (if h:vs.length=1 then vs[0]else .tuple ⟨vs⟩) w':=by
   intro vs k7
   have hC:results fn eV=(do let vs ←fn.results.mapM (y6 eV);pure (if h:vs.size=1 then vs[0]else .tuple vs)):=by
    unfold results
    congr 2
   rw [hC,show fn.results=⟨fn.results.toList⟩from rfl,List.mapM_toArray]
   simp only [Sem.run_bind,Sem.run_map,k7,Result.andThen_ok,Sem.run_pure];simp
  unfold Lk at hC;split at hC
  ·rename_i t bH;simp only [Option.map_eq_some_iff,Prod.mk.injEq]at hC;obtain⟨e,he,rfl,rfl⟩:=hC;have hy:=hs.eE (.slot t) e he;refine⟨eV.getD t undef,?_,hy,λT aG=>⟨[t],hs.hand he aG (.slot 0),trivial⟩⟩
   have:=hm (vs:=[eV.getD t undef]) (by rw [bH];rfl)
   simpa using this
  ·rename_i x dt hx;simp only [Option.map_eq_some_iff,Prod.mk.injEq]at hC;obtain⟨dm,ix,rfl,rfl⟩:=hC;obtain⟨v,ar,fA⟩:=Ll hs b4 ix;refine⟨v,?_,fA,by simp⟩
   have:=hm (vs:=[v]) (by rw [hx];simp only [List.mapM_cons,List.mapM_nil,Sem.run_bind,ar,Result.andThen_ok,Sem.run_pure])
   simpa using this
  ·simp only [Option.map_eq_some_iff,Prod.mk.injEq]at hC;obtain⟨ds,gq,rfl,rfl⟩:=hC;obtain⟨vs',k7,ab,fA⟩:=Ln hs b4 gq;refine⟨.tuple ⟨vs'⟩,?_,.cc vs' ds ab fA,by simp⟩
   have dt:vs'.length≠1:=by
    rename_i Z ad;rw [ab,(px gq).1];intro bf;obtain⟨x,hx⟩:=List.length_eq_one_iff.1 bf;exact ad x hx
   have:=hm k7
   simpa [dt]using this
 obtain⟨v,et,fA,fj⟩:=bO;obtain⟨vU,lf⟩:=hs.leave vS hc.2 dT fA hc.1 fj;exact⟨v,et,v,M',vU,rfl,lf⟩
def bo.ri{P:Program}{K:Ctx}{M:Mem}{β:Nat→Option Nat}{st:az}{tmps:Array Value}{w:World}(h:bo P K M β st tmps w)(ds:List Deferred):bo P {K with ds:=ds} M β st tmps w:=
 ⟨h.eE,h.own,h.uniq,h.unbox,h.box,h.inj,h.lt,h.mem,h.m0,h.frame,h.gT,h.hL,h.gn⟩
def D7{args:List D}{dw:List (Nat×TypeId)}{H:List (List aM)}{vs:List Value}{n:Nat}(hlen:vs.length=args.length)(ci:bo P K M β {env:=gj args dw,H:=cl 0 H,aJ:=H.length} ⟨vs⟩ w):
 bo P K M β {env:=gj args dw,H:=cl 0 H,aJ:=H.length} ((⟨vs⟩:Array Value)++Array.replicate n undef) w:=by
 have ar:∀l e,({env:=gj args dw,H:=cl 0 H,aJ:=H.length}:az).at l=some e→b0 ((⟨vs⟩:Array Value)++Array.replicate (n) undef) w β l=b0 ⟨vs⟩ w β l:=by
  intro l e ab;cases l with
  |slot s=>
   simp only [az.at,gj,k_,vv,Option.map_eq_some_iff]at ab;obtain⟨d,hd,_⟩:=ab;have hs:s<vs.length:=by have:=(List.getElem?_eq_some_iff.1 hd).1;omega
   simp only [b0,Array.getD_eq_getD_getElem?];rw [Array.getElem?_append_left (by simpa using hs)]
  |cell r i=>rfl
 constructor
 ·intro l e ab;rw [ar l e ab];exact ci.eE l e ab
 ·intro l e T ab aG;rw [ar l e ab];exact ci.own l e T ab aG
 ·intro l cd e a1 T T' b ab aG cY dn hb bw;rw [ar l e ab]at hb;rw [ar cd a1 cY]at bw;exact ci.uniq l cd e a1 T T' b ab aG cY dn hb bw
 ·intro l e T b r cs ab aG hb ai;rw [ar l e ab]at hb;exact ci.unbox l e T b r cs ab aG hb ai
 ·exact ci.box
 ·exact ci.inj
 ·exact ci.lt
 ·exact ci.mem
 ·exact ci.m0
 ·exact ci.frame
 ·exact ci.gT
 ·exact ci.hL
 ·exact ci.gn
def nJ.of_wp {f : FuncId} {fn : Func} {c : Code} {args : List D} {dw : List (Nat × TypeId)} {H : List (List aM)} {R : Out → List (List aM) → Prop} (b4 : eI P tt = true) (a7 : P.funcs[f]? = some fn) (hb : fn.body = some c) (h7 : decide (fn.name = "runtime.NumGoroutine") = false)
 (eJ:Nat.ble args.length fn.ntmps=true) (h:aS P fn.ntmps H.length c (pK tt H.length fn.results.toList R) {env:=gj args dw,H:=cl 0 H,aJ:=H.length}):nJ P f args dw H R:=by
 refine⟨⟨fn,a7,by rw [hb];rfl,by simpa using h7⟩,?_⟩
 intro cQ w vs M β hlen D8 D9
 suffices key:∀K:Ctx,K.ds=[]→bo P K M β {env:=gj args dw,H:=cl 0 H,aJ:=H.length} ⟨vs⟩ w→(∀r b,β r=some b→K.jl r=some b)→
  Calls P f ⟨vs⟩ w λe w'=>∃o bq v M' β',R o bq∧e=pB o v∧bo P K M' β' {env:=gG o,H:=cl 0 bq,aJ:=H.length} #[v] w' from
  (key {cQ with ds:=[]} rfl (D8.ri []) D9).mono λe w' ⟨o,bq,v,M',β',Z,ad,al⟩=>⟨o,bq,v,M',β',Z,ad,al.ri cQ.ds⟩
 intro K gq ci fZ;have dT:∀r b,K.jl r=some b→r<H.length:=λr b hb=>ci.lt r b (ci.gT r b hb)
 simp only [Nat.ble_eq]at eJ;have Vd:=D7 (n:=fn.ntmps-(⟨vs⟩:Array Value).size) hlen ci;have Ve:=h K dT {tmps:=(⟨vs⟩:Array Value)++Array.replicate (fn.ntmps-(⟨vs⟩:Array Value).size) undef,defers:=[]} w ⟨rfl,gq.symm,by simp;omega,M,β,Vd⟩
 refine calls_of_wp a7 hb (wp_mono Ve ?_)
 have fin:∀(dj:Act) (w':World) (bD:az) M' β',bo P K M' β' bD dj.tmps w'→(∃o bq,Ab.leave tt H.length fn.results.toList bD=some (o,bq)∧R o bq)→
  ∃v,(results fn dj.tmps).run P w' = .ok v w'∧∃o bq k9 M' β',R o bq∧Ending.returned v=pB o k9∧bo P K M' β' {env:=gG o,H:=cl 0 bq,aJ:=H.length} #[k9] w':=by
  intro dj w' bD M' β' hs ⟨o,bq,ab,rj⟩;obtain⟨v,Z,k9,vm,vn,ad,al⟩:=vT b4 dT hs ab;exact⟨v,Z,o,bq,k9,vm,vn,rj,ad,al⟩
 rintro e dj w' ⟨eQ,bD,Z,ad⟩
 cases eQ with
 |normal=>
  obtain⟨rfl,hd,_,M',β',hs⟩:=Z;exact⟨hd.trans gq,fin dj w' bD M' β' hs ad⟩
 |ret=>
  obtain⟨rfl,hd,_,M',β',hs⟩:=Z;exact⟨hd.trans gq,fin dj w' bD M' β' hs ad⟩
 |exit i=>exact ad.elim
 |aW x=>
  obtain⟨v,rfl,hd,M',β',fA,hs⟩:=Z;obtain⟨H1,ab,rj⟩:=ad;unfold y5 at ab;split at ab
  case h_2=>cases ab
  rename_i ch vS;rw [Bool.cond_eq_ite]at ab;split at ab
  case isFalse=>cases ab
  rename_i hc;cases ab;obtain⟨vU,lf⟩:=hs.leave (own:=none) vS hc dT (.v v x fA) rfl (by simp)
  exact⟨hd.trans gq,.aW x,lV H1,v,M',vU,rj,rfl,lf.era⟩
end
def i7:List Prop→Prop
 |[]=>True
 |p::l=>p∧i7 l
def i7.mem:∀{l:List Prop},i7 l→∀q,q∈l→q
 |[],_,q,h=>by cases h
 |p::l,hp,q,h=>by
  rcases List.mem_cons.1 h with rfl|h
  ·exact hp.1
  ·exact i7.mem hp.2 q h
section
variable {P:Program} {N E:Nat} {st:az} {tt:c7}
def aS.cut{x y:Code}{Q:bY→az→Prop}(J:az→Prop)(Z:aS P N E x (bY.then J Q) st)(ad:∀bD,J bD→aS P N E y Q bD):aS P N E (.seq x y) Q st:=
 aS.seq (Z.mono λeQ bD h=>by cases eQ<;>first|exact ad bD h|exact h)
def bY.mt{next:az→Prop}{Q:bY→az→Prop}(h:next st):bY.then next Q .normal st:=h
def bY.Lp{next:az→Prop}{Q:bY→az→Prop}{x:V}(h:Q (.aW x) st):bY.then next Q (.aW x) st:=h
def bY.Vf{Q:bY→az→Prop}{i:Nat}(h:Q .normal st):bY.inBlock i Q (.exit i) st:=by simpa [bY.inBlock]using h
def bY.Vg{Q:bY→az→Prop}{i j:Nat}(dt:Nat.beq j i=false)(h:Q (.exit j) st):bY.inBlock i Q (.exit j) st:=by
 have:j≠i:=by rintro rfl;simp at dt
 simpa [bY.inBlock,this]using h
def Vh {f : FuncId} {fn : Func} {c : Code} {args : List D} {dw : List (Nat × TypeId)} {H ch : List (List aM)} {out : Out} (b4 : eI P tt = true) (a7 : P.funcs[f]? = some fn) (hb : fn.body = some c) (h7 : decide (fn.name = "runtime.NumGoroutine") = false)
 (eJ:Nat.ble args.length fn.ntmps=true) (h:aS P fn.ntmps H.length c (pK tt H.length fn.results.toList λo bq=>o=out∧bq=ch) {env:=gj args dw,H:=cl 0 H,aJ:=H.length}):fK P f args dw H out ch:=
 nJ.of_wp b4 a7 hb h7 eJ h
def Vi{rs:List ResultVar}{out:Out}{ch:List (List aM)}(h:leave tt E rs st=some (out,ch)):pK tt E rs (λo bq=>o=out∧bq=ch) .ret st:=⟨out,ch,h,rfl,rfl⟩
def D'{rs:List ResultVar}{out:Out}{ch:List (List aM)}(h:leave tt E rs st=some (out,ch)):pK tt E rs (λo bq=>o=out∧bq=ch) .normal st:=⟨out,ch,h,rfl,rfl⟩
def Vj{rs:List ResultVar}{x:V}{ch:List (List aM)}(h:(y5 E st.H).map lV=some ch):pK tt E rs (λo bq=>o = .aW x∧bq=ch) (.aW x) st:=by
 rw [Option.map_eq_some_iff]at h;obtain⟨bq,Z,ad⟩:=h;exact⟨bq,Z,rfl,ad⟩
end
def aI{α:Type}(b:Bool)(x:Option α):Option α:=bif b then x else none
def oW{α:Type}{b:Bool}{x:Option α}{r:α}(h:aI b x=some r):b=true∧x=some r:=by
 cases b
 ·cases h
 ·exact⟨rfl,h⟩
def bind_some{α β:Type}{x:Option α}{f:α→Option β}{r:β}(h:Option.bind x f=some r):∃a,x=some a∧f a=some r:=Option.bind_eq_some_iff.1 h
def dA{α:Type}{b:Bool}{x y z:α}(hb:b=true)(h:(bif b then x else y)=z):x=z:=by subst hb;exact h
def kL{c x:Bool}(h:(!c||x)=true)(hc:c=true):x=true:=by subst hc;simpa using h
def gA{c x:Bool}(h:(c||x)=true)(hc:c=false):x=true:=by subst hc;simpa using h
def af{α:Type}[Inhabited α](k:Nat)(e:α→V)(l:List α):V:=.bm k l.length λi=>e (l.getD i default)
def gt(x:V):fX x x:=λ_ _ h=>h
def nR{k n:Nat}{g es:Nat→V}(h:∀i,i<n→g i=es i):fX (.bm k n g) (.bm k n es):=by
 intro M v ar;cases ar with
 |j_=>exact .j_ _ _
 |mO=>exact .mO _ _ _
 |bm b off k n cap g val hc hk cr Z ai=>
  exact .bm b off k n cap es val hc (λi hi=>by rw [←h i hi];exact hk i hi) cr Z (λi j c hi kg=>ai i j c hi (by rw [h i hi];exact kg))
def Vk{α:Type}[Inhabited α]{k:Nat}{e:α→V}{xs:List V}{l:List α}(h:xs=l.map e)(n:Nat)(hn:n=l.length):fX (.bm k n λi=>xs.getD i .dD) (af k e l):=by
 subst h;subst hn;refine nR λi hi=>?_
 simp [List.getD,List.getElem?_eq_getElem hi]
def h8{α:Type}[Inhabited α]{k:Nat}{e:α→V}(l ii:List α):fX (.bm k (l.length+ii.length) λi=>bif Nat.blt i l.length then e (l.getD i default)else e (ii.getD (i-l.length) default)) (af k e (l++ii)):=by
 rw [af,List.length_append];refine nR λi hi=>?_
 by_cases h:i<l.length
 ·have hb:Nat.blt i l.length=true:=by simpa using h
  simp [hb,List.getD,List.getElem?_append_left h]
 ·have hb:Nat.blt i l.length=false:=by rw [Bool.eq_false_iff];simpa using h
  simp [hb,List.getD,List.getElem?_append_right (Nat.le_of_not_lt h)]
def Lq(l:List Int)(s:ae7):fX (.bm 1 (l.length+s.length) λi=>bif Nat.blt i l.length then .int .u8 (l.getD i default)else .int .u8 (s.getD (i-l.length) 0).toNat) (af 1 (λx=>.int .u8 x) (l++s.map λb=>(b.toNat:Int))):=by
 have ab:(l++s.map λb=>(b.toNat:Int)).length=l.length+s.length:=by simp
 rw [af,ab];refine nR λi hi=>?_
 by_cases h:i<l.length
 ·have hb:Nat.blt i l.length=true:=by simpa using h
  simp [hb,List.getD,List.getElem?_append_left h]
 ·have hb:Nat.blt i l.length=false:=by rw [Bool.eq_false_iff];simpa using h
  have ad:i-l.length<s.length:=by omega
  simp [hb,List.getD,List.getElem?_append_right (Nat.le_of_not_lt h),ad]
def Lr{α:Type}[Inhabited α]{k:Nat}{e:α→V}(l:List α)(b:Int)(h:0≤b∧b≤l.length):fX (.bm k b.toNat λi=>e (l.getD i default)) (af k e (l.take b.toNat)):=by
 have:(l.take b.toNat).length=b.toNat:=by simp;omega
 rw [af,this];exact nR λi hi=>by simp [List.getD,hi]
end Go.Ab

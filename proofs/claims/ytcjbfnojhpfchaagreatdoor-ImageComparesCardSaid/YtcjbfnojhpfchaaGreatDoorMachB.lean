/- The abstract machine: a step of code over plain data, proved against the model. -/
import Derived.Laws.Build
import Derived.Laws.IdiomStrings
import Derived.Test.YtcjbfnojhpfchaaGreatDoorMachA
set_option linter.all false
namespace Go.Ab
def sD:Nat→List D→List (Nat×TypeId)→List a7
 |_,[],_=>[]
 |i,d::l,er=>{d,own:=look er i}::sD (i+1) l er
def hX(args:List D)(er:List (Nat×TypeId)):List (Nat×a7):=cS 0 (sD 0 args er)
def CB:∀(l:List D) (k i:Nat) (er:List (Nat×TypeId)),(sD k l er)[i]? = (l[i]?).map λd=>({d,own:=look er (k+i)}:a7)
 |[],k,i,er=>by simp [sD]
 |d::l,k,i,er=>by
  cases i with
  |zero=>simp [sD]
  |succ i=>
   simp only [sD,List.getElem?_cons_succ,CB l (k+1) i er];rw [show k+1+i=k+(i+1)by omega]
def iy:Out→List (Nat×a7)
 |.ret d own=>[(0,{d,own})]
 |.bf x=>[(0,{d:=.v x})]
def t':Out→Value→Ending
 |.ret _ _,v=>.returned v
 |.bf _,v=>.panicked [{v,recovered:=false}]
def q8(P:Program)(f:FuncId)(args:List D)(er:List (Nat×TypeId))(H:List (List a7))(R:Out→List (List a7)→Prop):Prop:=
 (∃ fd, P.funcs[f]? = some fd ∧ fd.body.isSome = true ∧ fd.name ≠ "runtime.NumGoroutine") ∧
 ∀(K:Ctx) (w:World) (vs:List Value) (M:Mem) (β:Nat→Option Nat),vs.length=args.length→
  bN P K M β {env:=hX args er,H:=cS 0 H,aW:=H.length} ⟨vs⟩ w→(∀r b,β r=some b→K.ls r=some b)→
  Calls P f ⟨vs⟩ w λe w'=>∃o bQ v M' β',R o bQ∧e=t' o v∧bN P K M' β' {env:=iy o,H:=cS 0 bQ,aW:=H.length} #[v] w'
def q8.mono{P:Program}{f:FuncId}{args:List D}{er:List (Nat×TypeId)}{H:List (List a7)}{R nw:Out→List (List a7)→Prop}(h:q8 P f args er H R)(ai:∀o bQ,R o bQ→nw o bQ):q8 P f args er H nw:=
 ⟨h.1,λK w vs M β aa hs hb=>(h.2 K w vs M β aa hs hb).mono λ_ _ ⟨o,bQ,v,M',β',Z,ab,aj⟩=>⟨o,bQ,v,M',β',ai _ _ Z,ab,aj⟩⟩
def gY(P:Program)(f:FuncId)(args:List D)(er:List (Nat×TypeId))(H:List (List a7))(o:Out)(cL:List (List a7)):Prop:=q8 P f args er H λo' bQ=>o'=o∧bQ=cL
def jP(P:Program):gE:={call:=gY P,eq:=Nw P}
def Wh{α:Type}:∀(l:List α) (n i:Nat),look (cS n l) i=if n≤i then l[i-n]? else none
 |[],n,i=>by simp [cS,look]
 |x::l,n,i=>by
  simp only [cS,dZ,Wh l (n+1) i];by_cases Z:n=i
  ·subst Z;simp
  ·rw [if_neg Z];by_cases ab:n≤i
   ·rw [if_pos (by omega),if_pos ab]
    obtain⟨j,rfl⟩:∃j,i=n+1+j:=⟨i-(n+1),by omega⟩
    rw [show n+1+j-(n+1)=j by omega,show n+1+j-n=j+1 by omega]
    simp
   ·rw [if_neg (by omega),if_neg ab]
def nx{α:Type}(l:List α)(i:Nat):look (cS 0 l) i=l[i]? := by simp [Wh]
def GU:∀{ρ:List Nat} {r j:Nat},idx ρ r=some j→ρ[j]? = some r
 |[],_,_,h=>by simp [idx]at h
 |x::l,r,j,h=>by
  simp only [idx]at h;rw [Bool.cond_eq_ite]at h;split at h
  ·rename_i hb;cases h;simp at hb;simp [hb]
  ·simp only [Option.map_eq_some_iff]at h;obtain⟨k,hk,rfl⟩:=h;simpa using GU hk
def GV:∀{l:List Nat},ns l=true→∀(i j:Nat) r,l[i]? = some r→l[j]? = some r→i=j
 |[],_,i,_,_,h,_=>by simp at h
 |x::l,h,i,j,r,hi,hj=>by
  simp only [ns,Bool.and_eq_true,Bool.not_eq_true',List.any_eq_false]at h;have hx:∀k,l[k]? = some x→False:=λk hk=>by have:=h.1 x (List.mem_of_getElem? hk);simp at this
  cases i<;>cases j
  ·rfl
  ·simp at hi hj;subst hi;exact(hx _ hj).elim
  ·simp at hi hj;subst hj;exact(hx _ hi).elim
  ·simp at hi hj;rw [GV h.2 _ _ r hi hj]
def vT{H:List (Nat×List a7)}:∀{ρ:List Nat} {bs:List (List a7)},boxes H ρ=some bs→bs.length=ρ.length∧∀(j r:Nat),ρ[j]? = some r→look H r=bs[j]? ∧ (bs[j]?).isSome=true
 |[],bs,h=>by simp [boxes]at h;subst h;simp
 |x::ρ,bs,h=>by
  simp only [boxes]at h;split at h
  case h_2=>cases h
  rename_i b p4 hb k1;cases h;obtain⟨Z,ab⟩:=vT k1;refine⟨by simp [Z],λj r hj=>?_⟩
  cases j with
  |zero=>simp at hj;subst hj;simp [hb]
  |succ j=>simp at hj;simpa using ab j r hj
def yy{f:Nat→Option Nat}:∀{b bH:List a7},nr f b=some bH→bH.length=b.length∧∀(i:Nat) bg,bH[i]? = some bg→∃e,b[i]? = some e∧eD f e.d=some bg.d∧bg.own=e.own
 |[],bH,h=>by simp [nr]at h;subst h;simp
 |e::l,bH,h=>by
  simp only [nr]at h;split at h
  case h_2=>cases h
  rename_i e1 hN he aa;cases h;obtain⟨Z,ab⟩:=yy aa;refine⟨by simp [Z],λi bg hi=>?_⟩
  cases i with
  |zero=>
   simp at hi;subst hi
   simp only [Gy,Option.map_eq_some_iff]at he;obtain⟨d,hd,rfl⟩:=he;exact⟨e,by simp,hd,rfl⟩
  |succ i=>simp at hi;simpa using ab i bg hi
def afl{f:Nat→Option Nat}{d:D}{r off:Nat}{u:TypeId}(h:eD f d=some (.cu r off u)):∃dF,d = .cu dF off u:=by
 cases d with
 |cu dF asP oq=>
  simp only [eD,Option.map_eq_some_iff]at h;obtain⟨s,_,ab⟩:=h;cases ab;exact⟨dF,rfl⟩
 |v x=>simp [eD]at h
 |e7 x=>simp [eD]at h
 |full k n get=>simp [eD]at h
 |ptr dF o=>simp [eD]at h
 |fn g c=>simp [eD]at h
 |agg c=>simp [eD]at h
 |cA c=>simp [eD]at h
def lu.eD{P:Program}{T:TypeId}{n:Nat}{f:Nat→Option Nat}{b bH:List a7}(h:lu P T n b)(ai:nr f b=some bH):lu P T n bH:=λe he r off u hd=>by
 obtain⟨i,hi,rfl⟩:=List.getElem_of_mem he;obtain⟨b4,Z,ab,_⟩:=(yy ai).2 i _ (List.getElem?_eq_getElem hi);rw [hd]at ab;obtain⟨dF,aj⟩:=afl ab;exact h b4 (List.mem_of_getElem? Z) dF off u aj
def yz{f:Nat→Option Nat}:∀{bs p4:List (List a7)},kb f bs=some p4→p4.length=bs.length∧∀(j:Nat) bH,p4[j]? = some bH→∃b,bs[j]? = some b∧nr f b=some bH
 |[],p4,h=>by simp [kb]at h;subst h;simp
 |b::l,p4,h=>by
  simp only [kb]at h;split at h
  case h_2=>cases h
  rename_i c6 hN hb aa;cases h;obtain⟨Z,ab⟩:=yz aa;refine⟨by simp [Z],λj bH hj=>?_⟩
  cases j with
  |zero=>simp at hj;subst hj;exact⟨b,by simp,hb⟩
  |succ j=>simp at hj;simpa using ab j bH hj
def N2{H:List (Nat×List a7)}:∀{ρ:List Nat} {bs:List (List a7)},bs.length=ρ.length→ns ρ=true→∀r,
 (∀(j:Nat),ρ[j]? = some r→look (lr ρ bs++H) r=bs[j]?)∧((∀(j:Nat),ρ[j]? ≠ some r)→look (lr ρ bs++H) r=look H r)
 |[],bs,_,_,r=>by simp [lr]
 |x::ρ,[],h,_,_=>by simp at h
 |x::ρ,b::bs,h,hn,r=>by
  have GH:ns ρ=true:=by simp [ns]at hn;exact hn.2
  obtain⟨Z,ab⟩:=N2 (H:=H) (ρ:=ρ) (bs:=bs) (by simpa using h) GH r
  simp only [lr,List.cons_append,dZ];refine⟨λj hj=>?_,λhj=>?_⟩
  ·by_cases hx:x=r
   ·have:j=0:=GV hn j 0 r hj (by simp [hx])
    subst this;simp [hx]
   ·cases j with
    |zero=>simp at hj;exact(hx hj).elim
    |succ j=>simp at hj;rw [if_neg hx];simpa using Z j hj
  ·have hx:x≠r:=λe=>hj 0 (by simp [e])
   rw [if_neg hx];exact ab λj=>by simpa using hj (j+1)
section
variable {P:Program} {K:Ctx} {N:Nat} {M:Mem} {β:Nat→Option Nat} {st:aM} {g:dm} {tmps:Array Value} {w:World} {o:Oper} {f:lp} {p:Path} {tt:dI} {cf:gE} {ops:List Oper}
def CC(ρ os:List Nat):Loc→Prop
 |.cell r _=>r∈ρ
 |.slot t=>t∈os
def q9(st:aM)(tmps:Array Value)(w:World)(β:Nat→Option Nat)(ρ os:List Nat)(b:Nat):Prop:=
 (∃r,r∈ρ∧β r=some b)∨∃l e T,CC ρ os l∧st.at l=some e∧e.own=some T∧h' (cv tmps w β l)=some b
open Classical in
noncomputable def kB(M:Mem)(β:Nat→Option Nat)(st:aM)(tmps:Array Value)(w:World)(ρ os:List Nat):Ctx:=
 {Cj:=M,F:=λb=>if q9 st tmps w β ρ os b then none else w.heap[b]?,ls:=λj=>(ρ[j]?).bind β,h9:=(w.os,w.output)}
structure Handed(st:aM)(tmps:Array Value)(vs:List Value)(hd:List (Nat×Option Nat×TypeId)):Prop where
 some:∀i t T,(i,Option.some t,T)∈hd→∃e,st.at (.slot t)=Option.some e∧e.own=Option.some T∧vs[i]? = Option.some (tmps.getD t undef)
 none:∀i T,(i,Option.none,T)∈hd→vs[i]? = Option.some (.slice Option.none 0 0)
 inj:∀i j t T T',(i,Option.some t,T)∈hd→(j,Option.some t,T')∈hd→i=j
def t_(hd:List (Nat×Option Nat×TypeId)):List (Nat×TypeId):=hd.map λx=>(x.1,x.2.2)
def q_(hd:List (Nat×Option Nat×TypeId)):List Nat:=hd.filterMap λx=>x.2.1
def afm{hd:List (Nat×Option Nat×TypeId)}{i:Nat}{T:TypeId}(h:look (t_ hd) i=some T):∃o,(i,o,T)∈hd:=by
 have:=su h
 simp only [t_,List.mem_map]at this;obtain⟨⟨a,o,T'⟩,Z,ab⟩:=this;cases ab;exact⟨o,Z⟩
def afn{hd:List (Nat×Option Nat×TypeId)}{i t:Nat}{T:TypeId}(h:(i,some t,T)∈hd):t∈q_ hd:=by
 simp only [q_,List.mem_filterMap];exact⟨_,h,rfl⟩
def GW(ρ:List Nat)(hd:List (Nat×Option Nat×TypeId))(T:TypeId):Loc→Loc→Prop
 |.cell j i,.cell r mY=>i=mY∧ρ[j]? = some r
 |.slot s,.slot t=>(s,some t,T)∈hd
 |_,_=>False
def Wi(h:bN P K M β st tmps w){ρ:List Nat}{bs H1:List (List a7)}(hn:ns ρ=true)(k1:boxes st.H ρ=some bs)(mp:kb (idx ρ) bs=some H1){ds jL:List D}{vs:List Value}
 (hlen:vs.length=ds.length) (av:∀(i:Nat) v d,vs[i]? = some v→ds[i]? = some d→cy M β v d) (e8:lq (idx ρ) ds=some jL) {hd:List (Nat×Option Nat×TypeId)} (vU:Handed st tmps vs hd):
 bN P (kB M β st tmps w ρ (q_ hd)) M (λj=>(ρ[j]?).bind β) {env:=hX jL (t_ hd),H:=cS 0 H1,aW:=H1.length} ⟨vs⟩ w:=by
 obtain⟨dc,fC⟩:=vT k1;obtain⟨ix,iV⟩:=yz mp;obtain⟨asQ,afo⟩:=yl e8
 have Wj:∀{v d dD},cy M β v d→eD (idx ρ) d=some dD→cy M (λj=>(ρ[j]?).bind β) v dD:=by
  intro v d dD hd kv;exact hd.eD (λr s b hs hb=>by rw [GU hs];simpa using hb) kv
 -- a cell of mo N3 is a cell of ours
 have ij:∀j i bg,({env:=hX jL (t_ hd),H:=cS 0 H1,aW:=H1.length}:aM).at (.cell j i)=some bg→∃(r:Nat) (e:a7),ρ[j]? = some r∧st.at (.cell r i)=some e∧eD (idx ρ) e.d=some bg.d∧bg.own=e.own∧
  cv ⟨vs⟩ w (λj=>(ρ[j]?).bind β) (.cell j i)=cv tmps w β (.cell r i):=by
  intro j i bg he;simp only [aM.at,nx]at he;cases hj:H1[j]? with
  |none=>simp [hj]at he
  |some bH=>
   simp only [hj,Option.bind_some]at he;obtain⟨b,hb,ot⟩:=iV j bH hj;have vV:j<ρ.length:=by have:=(List.getElem?_eq_some_iff.1 hb).1;omega
   have l4:ρ[j]? = some ρ[j]:=List.getElem?_eq_getElem vV;obtain⟨aa,_⟩:=fC j _ l4;obtain⟨_,N4⟩:=yy ot;obtain⟨e,sA,N5,N6⟩:=N4 i bg he;exact⟨_,e,l4,by simp [aM.at,aa,hb,sA],N5,N6,by simp [cv,l4]⟩
 have Wk:∀s bg,({env:=hX jL (t_ hd),H:=cS 0 H1,aW:=H1.length}:aM).at (.slot s)=some bg→bg.own=look (t_ hd) s∧∃v d,vs[s]? = some v∧ds[s]? = some d∧eD (idx ρ) d=some bg.d:=by
  intro s bg he;simp only [aM.at,hX,nx,CB,Option.map_eq_some_iff]at he;obtain⟨dD,kv,rfl⟩:=he;have hs:s<jL.length:=(List.getElem?_eq_some_iff.1 kv).1;have h_:ds[s]? = some ds[s]:=List.getElem?_eq_getElem (by omega)
  obtain⟨d1,gF,afp⟩:=afo s _ h_;rw [kv]at gF;cases gF;exact⟨by simp,_,_,List.getElem?_eq_getElem (by omega),h_,afp⟩
 -- asR 'own' place of mo N3 is one of ours
 have GX:∀cI bg T,({env:=hX jL (t_ hd),H:=cS 0 H1,aW:=H1.length}:aM).at cI=some bg→bg.own=some T→
  cv ⟨vs⟩ w (λj=>(ρ[j]?).bind β) cI = .slice none 0 0∨∃l e,GW ρ hd T cI l∧CC ρ (q_ hd) l∧st.at l=some e∧e.own=some T∧cv ⟨vs⟩ w (λj=>(ρ[j]?).bind β) cI=cv tmps w β l:=by
  intro cI bg T aa aH;cases cI with
  |slot s=>
   obtain⟨aw,v,d,Z,ab,aj⟩:=Wk s bg aa;rw [aw]at aH;obtain⟨o,hm⟩:=afm aH;have cj:cv (⟨vs⟩:Array Value) w (λj=>(ρ[j]?).bind β) (.slot s)=v:=by simp [cv,Z]
   cases o with
   |none=>
    have:=vU.none s T hm
    rw [Z]at this;cases this;exact .inl cj
   |some t=>
    obtain⟨e,aC,aT,bP⟩:=vU.some s t T hm;rw [Z]at bP;cases bP;exact .inr ⟨.slot t,e,hm,afn hm,aC,aT,cj⟩
  |cell j i=>
   obtain⟨r,e,l4,he,_,gk,cj⟩:=ij j i bg aa;exact .inr ⟨.cell r i,e,⟨rfl,l4⟩,List.mem_of_getElem? l4,he,by rw [←gk,aH],cj⟩
 have afq:∀T T' hN kh l,GW ρ hd T hN l→GW ρ hd T' kh l→hN=kh:=by
  intro T T' hN kh l Z ab;cases hN<;>cases kh<;>cases l<;>simp only [GW]at Z ab
  ·rw [vU.inj _ _ _ _ _ Z ab]
  ·obtain⟨rfl,aj⟩:=Z;obtain⟨rfl,aC⟩:=ab;rw [GV hn _ _ _ aj aC]
 have kC:∀j cs',look (cS 0 H1) j=some cs'→∃(r:Nat) (cs:List a7),ρ[j]? = some r∧look st.H r=some cs∧cs.length=cs'.length∧∃f,nr f cs=some cs':=by
  intro j cs' hj;rw [nx]at hj;obtain⟨b,hb,ot⟩:=iV j cs' hj;have vV:j<ρ.length:=by have:=(List.getElem?_eq_some_iff.1 hb).1;omega
  have l4:ρ[j]? = some ρ[j]:=List.getElem?_eq_getElem vV;obtain⟨aa,_⟩:=fC j _ l4;exact⟨_,b,l4,by rw [aa,hb],(yy ot).1.symm,_,ot⟩
 constructor
 ·intro l bg aa;cases l with
  |slot s=>
   obtain⟨_,v,d,Z,ab,aj⟩:=Wk s bg aa;have:=Wj (av s v d Z ab) aj
   simpa [cv,Z]using this
  |cell j i=>
   obtain⟨r,e,l4,he,ot,_,cj⟩:=ij j i bg aa;rw [cj];exact Wj (h.fw _ e he) ot
 ·intro cI bg T aa aH;rcases GX cI bg T aa aH with h0|⟨l,e,_,bn,he,eh,cj⟩
  ·rw [h0];exact .inl rfl
  ·rw [cj];rcases h.own _ e T he eh with h0|⟨b,n,cap,kx,T',Z,ab,aj,aC,aT,bP,sy⟩
   ·exact .inl h0
   ·refine .inr ⟨b,n,cap,kx,T',Z,ab,aj,aC,aT,?_,sy⟩;simp only [kB];rw [if_pos];exact .inr ⟨l,e,T,bn,he,eh,by rw [Z];rfl⟩
 ·intro hN kh e1 e2 T T' b aa aH dE eh hb bY;rcases GX hN e1 T aa aH with h0|⟨l,e,aF,bn,he,N7,cj⟩
  ·rw [h0]at hb;cases hb
  rcases GX kh e2 T' dE eh with h0|⟨cI,bg,eM,CA,sE,afr,q2⟩
  ·rw [h0]at bY;cases bY
  rw [cj]at hb;rw [q2]at bY;have:=h.uniq _ _ e bg T T' b he N7 sE afr hb bY
  subst this;exact afq _ _ _ _ _ aF eM
 ·intro cI bg T b j cs' aa aH hb hj;rcases GX cI bg T aa aH with h0|⟨l,e,aF,bn,he,N7,cj⟩
  ·rw [h0]at hb;cases hb
  rw [cj]at hb;obtain⟨r2,cs,afs,eu,_⟩:=kC j cs' hj;have:=h.unbox _ e T b r2 cs he N7 hb eu
  simpa [afs]using this
 ·intro j cs' hj;obtain⟨r,cs,l4,eu,aa,f,aft⟩:=kC j cs' hj;obtain⟨b,kx,T,Z,ab,aj,aC,aT,bP⟩:=h.box r cs eu;refine⟨b,kx,T,by simp [l4,Z],ab,by omega,aC,?_,bP.1,bP.2.eD aft⟩
  simp only [kB];rw [if_pos];exact .inl ⟨r,List.mem_of_getElem? l4,Z⟩
 ·intro j vW b c ml hj GY hb bY;obtain⟨r,cs,l4,eu,_⟩:=kC j c hj;obtain⟨dw,cs',Wl,vX,_⟩:=kC vW ml GY;have:r=dw:=h.inj r dw b cs cs' eu vX (by simpa [l4]using hb) (by simpa [Wl]using bY)
  subst this;exact GV hn j vW r l4 Wl
 ·intro j b hb;simp only [Option.bind_eq_some_iff]at hb;obtain⟨r,ai,_⟩:=hb;have:=(List.getElem?_eq_some_iff.1 ai).1
  show j<H1.length
  omega
 ·exact h.mem
 ·exact Mem.le_refl _
 ·intro b a6 hb;simp only [kB]at hb;split at hb
  ·cases hb
  ·exact⟨hb,λ_=>rfl⟩
 ·intro j b hb;exact hb
 ·refine h.jA.mono λb a6 dP=>?_
  have N8:¬ q9 st tmps w β ρ (q_ hd) b:=by
   rintro (⟨r,ai,mq⟩|⟨l,e,T,ai,he,aH,kw⟩)
   ·obtain⟨j,hj⟩:=List.getElem?_of_mem ai;obtain⟨aa,vY⟩:=fC j r hj;obtain⟨cs,eu⟩:=Option.isSome_iff_exists.1 vY;obtain⟨jl,_,_,aj,_,_,_,aC,_⟩:=h.box r cs (by rw [aa,eu])
    rw [mq]at aj;cases aj;rw [aC]at dP;cases dP
   ·rw [(h.own _ e T he aH).free kw]at dP;cases dP
  simp only [kB];rw [if_neg N8];exact(h.frame b a6 dP).1
 ·rfl
def afu{ρ os:List Nat}{st:aM}{H:List (Nat×List a7)}{n s:Nat}{e:a7}(aa:({env:=hE os st.env,H:=H,aW:=n}:aM).at (.slot s)=some e):
 ∃b4,st.at (.slot s)=some b4∧b4.d=e.d∧(∀T,e.own=some T→b4.own=some T)∧∀T,e.own=some T→¬ CC ρ os (.slot s):=by
 simp only [aM.at,ol]at aa;by_cases hs:s∈os
 ·rw [if_pos hs,Option.map_eq_some_iff]at aa;obtain⟨b4,Z,ab⟩:=aa;subst ab;exact⟨b4,Z,rfl,(λT aH=>by cases aH),(λT aH=>by cases aH)⟩
 ·rw [if_neg hs]at aa;exact⟨e,aa,rfl,(λT aH=>aH),(λT _=>hs)⟩
def N9(h:bN P K M β st tmps w){ρ:List Nat}{bs cL iS:List (List a7)}(hn:ns ρ=true)(k1:boxes st.H ρ=some bs)(vZ:kb (λj=>ρ[j]?) cL=some iS)(eT:cL.length=ρ.length)
 {os:List Nat} {out:Out} {v:Value} {w':World} {M':Mem} {β':Nat→Option Nat} (jm:bN P (kB M β st tmps w ρ os) M' β' {env:=iy out,H:=cS 0 cL,aW:=ρ.length} #[v] w'):
 M.le M'∧bN P K M' β {env:=hE os st.env,H:=lr ρ iS++st.H,aW:=st.aW} tmps w'∧
 (∀d own,out = .ret d own→∀dD,eD (λj=>ρ[j]?) d=some dD→cy M' β v dD∧∀T l0,own=some T→nt P K M' β {env:=hE os st.env,H:=lr ρ iS++st.H,aW:=st.aW} tmps w' l0 v T)∧
 (∀x,out = .bf x→df M' v x):=by
 obtain⟨dc,fC⟩:=vT k1;obtain⟨ix,iV⟩:=yz vZ;have cV:M.le M':=jm.m0;have hF:∀(j r b:Nat),ρ[j]? = some r→β r=some b→β' j=some b:=λj r b hj hb=>jm.iT j b (by simp [kB,hj,hb])
 have ua:∀(j r:Nat),ρ[j]? = some r→∃cs b,look st.H r=some cs∧β r=some b∧β' j=some b:=by
  intro j r hj;obtain⟨Z,ab⟩:=fC j r hj;obtain⟨cs,eu⟩:=Option.isSome_iff_exists.1 ab;rw [eu]at Z;obtain⟨b,_,_,hb,_⟩:=h.box r cs Z;exact⟨cs,b,Z,hb,hF j r b hj hb⟩
 have Wm:∀{v d dD},cy M' β' v d→eD (λj=>ρ[j]?) d=some dD→cy M' β v dD:=by
  intro v d dD hd kv;refine hd.eD (λj r b hj hb=>?_) kv
  obtain⟨_,c6,_,Z,ab⟩:=ua j r hj;rw [hb]at ab;cases ab;exact Z
 -- N' is not q9 is kept
 have CD:∀b,¬ q9 st tmps w β ρ os b→b<w.heap.size→w'.heap[b]? = w.heap[b]? ∧ ∀o,M' b o=M b o:=by
  intro b hb cZ
  have dP:(kB M β st tmps w ρ os).F b=some w.heap[b]:=by
   simp only [kB];rw [if_neg hb];exact Array.getElem?_eq_getElem cZ
  obtain⟨Z,ab⟩:=jm.frame b _ dP;exact⟨by rw [Z,Array.getElem?_eq_getElem cZ],ab⟩
 have Wn:∀b,(kB M β st tmps w ρ os).F b=none→K.F b=none:=by
  intro b hb;simp only [kB]at hb;split at hb
  ·rename_i hp;rcases hp with⟨r,ai,mq⟩|⟨l,e,T,ai,he,aH,kw⟩
   ·obtain⟨j,hj⟩:=List.getElem?_of_mem ai;obtain⟨cs,c6,eu,dc,_⟩:=ua j r hj;obtain⟨jl,_,_,Z,_,_,_,ab,_⟩:=h.box r cs eu;rw [mq]at Z;cases Z;exact ab
   ·exact(h.own _ e T he aH).free kw
  ·cases dP:K.F b with
   |none=>rfl
   |some a6=>have:=(h.frame b a6 dP).1;rw [hb]at this;cases this
 have hold:∀b,(kB M β st tmps w ρ os).F b=none→b<w.heap.size→q9 st tmps w β ρ os b:=by
  intro b hb cZ;simp only [kB]at hb;split at hb
  ·assumption
  ·rw [Array.getElem?_eq_getElem cZ]at hb;cases hb
 -- asS own boxes afg asT not handed on
 have GZ:∀r cs b,look st.H r=some cs→(∀(j:Nat),ρ[j]? ≠ some r)→β r=some b→¬ q9 st tmps w β ρ os b:=by
  intro r cs b ai iU hb hp;rcases hp with⟨dw,ge,bY⟩|⟨l,e,T,ge,he,aH,kw⟩
  ·obtain⟨j,hj⟩:=List.getElem?_of_mem ge;obtain⟨cs',_,vX,_⟩:=ua j dw hj;have:=h.inj r dw b cs cs' ai vX hb bY
   subst this;exact iU j hj
  ·exact h.unbox _ e T b r cs he aH kw ai hb
 have CE:∀r,(∃(j:Nat),ρ[j]? = some r∧look (lr ρ iS++st.H) r=iS[j]?)∨((∀(j:Nat),ρ[j]? ≠ some r)∧look (lr ρ iS++st.H) r=look st.H r):=by
  intro r;obtain⟨Z,ab⟩:=N2 (H:=st.H) (ρ:=ρ) (bs:=iS) (by omega) hn r
  by_cases hj:∃(j:Nat),ρ[j]? = some r
  ·obtain⟨j,hj⟩:=hj;exact .inl ⟨j,hj,Z j hj⟩
  ·have:∀(j:Nat),ρ[j]? ≠ some r:=λj bn=>hj ⟨j,bn⟩
   exact .inr ⟨this,ab this⟩
 -- a place of mo new state: mo N3, or kept
 have gl:∀l e,({env:=hE os st.env,H:=lr ρ iS++st.H,aW:=st.aW}:aM).at l=some e→
  (∃(j r i:Nat) (bg:a7),l = .cell r i∧ρ[j]? = some r∧({env:=iy out,H:=cS 0 cL,aW:=ρ.length}:aM).at (.cell j i)=some bg∧eD (λj=>ρ[j]?) bg.d=some e.d∧e.own=bg.own∧cv tmps w' β l=cv #[v] w' β' (.cell j i))∨
  (∃b4,st.at l=some b4∧b4.d=e.d∧(∀T,e.own=some T→b4.own=some T)∧cv tmps w' β l=cv tmps w β l∧(∀T,e.own=some T→¬ CC ρ os l)):=by
  intro l e aa;cases l with
  |slot s=>
   obtain⟨b4,Z,ab,aj,aC⟩:=afu aa;exact .inr ⟨b4,Z,ab,aj,rfl,aC⟩
  |cell r i=>
   rcases CE r with⟨j,hj,l5⟩|⟨iU,l5⟩
   ·simp only [aM.at,l5]at aa;cases bn:iS[j]? with
    |none=>simp [bn]at aa
    |some bH=>
     simp only [bn,Option.bind_some]at aa;obtain⟨b,hb,ot⟩:=iV j bH bn;obtain⟨_,N4⟩:=yy ot;obtain⟨bg,sA,N5,N6⟩:=N4 i e aa;obtain⟨_,c6,_,dc,vE⟩:=ua j r hj;exact .inl ⟨j,r,i,bg,rfl,hj,by simp [aM.at,nx,hb,sA],N5,N6,by simp [cv,dc,vE]⟩
   ·simp only [aM.at,l5]at aa;refine .inr ⟨e,aa,rfl,λ_ h=>h,?_,λT _ bn=>by obtain⟨j,hj⟩:=List.getElem?_of_mem bn;exact iU j hj⟩
    cases ai:look st.H r with
    |none=>simp [ai]at aa
    |some cs=>
     obtain⟨b,_,_,hb,bn,_⟩:=h.box r cs ai;simp only [cv,hb];rw [ss (w:=w) (CD b (GZ r cs b ai iU hb) (lt_of_heap bn)).1]
 -- a kept 'own' asU block is not q9
 have CF:∀l e T b,st.at l=some e→e.own=some T→¬ CC ρ os l→h' (cv tmps w β l)=some b→¬ q9 st tmps w β ρ os b:=by
  intro l e T b aa aH iU hb hp;rcases hp with⟨dw,ge,bY⟩|⟨cI,bg,T',ge,he,eh,kw⟩
  ·obtain⟨j,hj⟩:=List.getElem?_of_mem ge;obtain⟨cs',_,vX,_⟩:=ua j dw hj;exact h.unbox l e T b dw cs' aa aH hb vX bY
  ·have:=h.uniq l _ e bg T T' b aa aH he eh hb kw
   subst this;exact iU ge
 -- mo N3 'own' blocks asV ours
 have CG:∀T u b,pX P (kB M β st tmps w ρ os).F M' w' T u→h' u=some b→∀bH,bH=b→bH<w.heap.size→q9 st tmps w β ρ os bH:=by
  intro T u b aw hb bH q3 cZ;subst q3;exact hold bH (aw.free hb) cZ
 have G0:∀r cs,look (lr ρ iS++st.H) r=some cs→∃lC,look st.H r=some lC:=by
  intro r cs ai;rcases CE r with⟨j,hj,_⟩|⟨_,l5⟩
  ·obtain⟨lC,_,Z,_⟩:=ua j r hj;exact⟨lC,Z⟩
  ·exact⟨cs,by rw [←l5];exact ai⟩
 have cP:bN P K M' β {env:=hE os st.env,H:=lr ρ iS++st.H,aW:=st.aW} tmps w':=by
  constructor
  ·intro l e aa;rcases gl l e aa with⟨j,r,i,bg,rfl,hj,sE,ot,_,cj⟩|⟨b4,aw,CH,kY,cj,_⟩
   ·rw [cj];exact Wm (jm.fw _ bg sE) ot
   ·rw [cj,←CH];exact(h.fw l b4 aw).mono cV
  ·intro l e T aa aH;rcases gl l e aa with⟨j,r,i,bg,rfl,hj,sE,_,gk,cj⟩|⟨b4,aw,CH,kY,cj,iU⟩
   ·rw [cj];rw [gk]at aH;rcases jm.own _ bg T sE aH with h0|⟨b,n,cap,kx,T',Z,ab,aj,aC,aT,bP,sy⟩
    ·exact .inl h0
    ·exact .inr ⟨b,n,cap,kx,T',Z,ab,aj,aC,aT,Wn b bP,sy⟩
   ·rw [cj];have iU:=iU T aH;have aH:=kY T aH;refine(h.own l b4 T aw aH).congr (λb hb=>?_) (λb o' hb=>?_)
    ·exact(CD b (CF l b4 T b aw aH iU hb) ((h.own l b4 T aw aH).lt hb)).1
    ·exact(CD b (CF l b4 T b aw aH iU hb) ((h.own l b4 T aw aH).lt hb)).2 o'
  ·intro l cI e1 e2 T T' b aa aH dE eh hb bY
   rcases gl l e1 aa with⟨j,r,i,x,rfl,hj,hx,_,gk,cj⟩|⟨b4,aw,CH,kY,cj,iU⟩ <;>
    rcases gl cI e2 dE with⟨vW,dw,mY,gf,rfl,GY,yA,_,Wo,q2⟩|⟨yn,kX,asW,Cm,q2,N_⟩
   ·rw [cj]at hb;rw [q2]at bY;rw [gk]at aH;rw [Wo]at eh;have:=jm.uniq _ _ x gf T T' b hx aH yA eh hb bY
    cases this;rw [hj]at GY;cases GY;rfl
   ·rw [cj]at hb;rw [q2]at bY;rw [gk]at aH;have N_:=N_ T' eh;have eh:=Cm T' eh;exact(CF cI yn T' b kX eh N_ bY (CG T _ b (jm.own _ x T hx aH) hb b rfl ((h.own cI yn T' kX eh).lt bY))).elim
   ·rw [cj]at hb;rw [q2]at bY;rw [Wo]at eh;have iU:=iU T aH;have aH:=kY T aH;exact(CF l b4 T b aw aH iU hb (CG T' _ b (jm.own _ gf T' yA eh) bY b rfl ((h.own l b4 T aw aH).lt hb))).elim
   ·rw [cj]at hb;rw [q2]at bY;exact h.uniq l cI b4 yn T T' b aw (kY T aH) kX (Cm T' eh) hb bY
  ·intro l e T b r cs aa aH hb ai mq;obtain⟨lC,mj⟩:=G0 r cs ai;rcases gl l e aa with⟨j,r1,i,x,rfl,hj,hx,_,gk,cj⟩|⟨b4,aw,CH,kY,cj,iU⟩
   ·rw [cj]at hb;rw [gk]at aH;rcases CE r with⟨j2,v7,l5⟩|⟨Oa,_⟩
    ·have ab:∃c2,look (cS 0 cL) j2=some c2:=by
      rw [nx];exact⟨_,List.getElem?_eq_getElem (by have:=(List.getElem?_eq_some_iff.1 v7).1;omega)⟩
     obtain⟨c2,mr⟩:=ab;exact jm.unbox _ x T b j2 c2 hx aH hb mr (hF j2 r b v7 mq)
    ·obtain⟨c6,_,_,dc,bn,_⟩:=h.box r lC mj;rw [mq]at dc;cases dc;exact GZ r lC b mj Oa mq (CG T _ b (jm.own _ x T hx aH) hb b rfl (lt_of_heap bn))
   ·rw [cj]at hb;exact h.unbox l b4 T b r lC aw (kY T aH) hb mj mq
  ·intro r cs ai;rcases CE r with⟨j,hj,l5⟩|⟨iU,l5⟩
   ·rw [l5]at ai;obtain⟨c2,mr,ot⟩:=iV j cs ai;obtain⟨lC,o8,afv,Wp,afw⟩:=ua j r hj;obtain⟨b,kx,T,Z,ab,aj,aC,aT,bP⟩:=jm.box j c2 (by rw [nx];exact mr)
    rw [afw]at Z;cases Z;obtain⟨jl,_,_,cM,_,_,_,dj,_⟩:=h.box r lC afv;rw [Wp]at cM;cases cM;exact⟨o8,kx,T,Wp,ab,by rw [aj,(yy ot).1],aC,dj,bP.1,bP.2.eD ot⟩
   ·rw [l5]at ai;obtain⟨b,kx,T,Z,ab,aj,aC,aT,bP⟩:=h.box r cs ai;have hk:=CD b (GZ r cs b ai iU Z) (lt_of_heap ab);exact⟨b,kx,T,Z,hk.1.trans ab,aj,λo'=>(hk.2 o').trans (aC o'),aT,bP⟩
  ·intro r dw b c ml ai ge hb bY;obtain⟨c0,mj⟩:=G0 r c ai;obtain⟨afx,afy⟩:=G0 dw ml ge;exact h.inj r dw b c0 afx mj afy hb bY
  ·exact h.lt
  ·exact jm.mem
  ·exact Mem.le_trans h.m0 cV
  ·intro b a6 dP;obtain⟨Z,ab⟩:=h.frame b a6 dP
   have N8:¬ q9 st tmps w β ρ os b:=by
    rintro (⟨r,ai,mq⟩|⟨l,e,T,ai,he,aH,kw⟩)
    ·obtain⟨j,hj⟩:=List.getElem?_of_mem ai;obtain⟨cs,_,eu,_⟩:=ua j r hj;obtain⟨jl,_,_,aj,_,_,_,aC,_⟩:=h.box r cs eu;rw [mq]at aj;cases aj;rw [aC]at dP;cases dP
    ·rw [(h.own _ e T he aH).free kw]at dP;cases dP
   have hk:=CD b N8 (lt_of_heap Z);exact⟨hk.1.trans Z,λo'=>(hk.2 o').trans (ab o')⟩
  ·exact h.iT
  ·exact h.jA
  ·exact Eq.trans (show(w'.os,w'.output)=(w.os,w.output)from jm.h9) h.h9
 refine⟨cV,cP,λd own Ob dD kv=>?_,λx Ob=>?_⟩
 ·subst Ob;have jn:=jm.fw (.slot 0) {d,own} (by simp [aM.at,iy,look])
  refine⟨Wm (by simpa [cv]using jn) kv,λT l0 aH=>?_⟩
  have aw:=jm.own (.slot 0) {d,own} T (by simp [aM.at,iy,look]) aH
  simp only [cv]at aw;have kX:pX P (kB M β st tmps w ρ os).F M' w' T v:=by simpa using aw
  refine⟨?_,λl e T' b aa eh _ hb bY=>?_,λb r cs hb ai mq=>?_⟩
  ·rcases kX with h0|⟨b,n,cap,kx,T',Z,ab,aj,aC,aT,bP,sy⟩
   ·exact .inl h0
   ·exact .inr ⟨b,n,cap,kx,T',Z,ab,aj,aC,aT,Wn b bP,sy⟩
  ·rcases gl l e aa with⟨j,r,i,x,rfl,hj,hx,_,gk,cj⟩|⟨b4,G1,CH,kY,cj,iU⟩
   ·rw [cj]at bY;rw [gk]at eh;have:=jm.uniq (.slot 0) (.cell j i) {d,own} x T T' b (by simp [aM.at,iy,look]) aH hx eh (by simpa [cv]using hb) bY
    cases this
   ·rw [cj]at bY;have iU:=iU T' eh;have eh:=kY T' eh;exact CF l b4 T' b G1 eh iU bY (CG T v b kX hb b rfl ((h.own l b4 T' G1 eh).lt bY))
  ·obtain⟨lC,mj⟩:=G0 r cs ai;rcases CE r with⟨j2,v7,l5⟩|⟨Oa,_⟩
   ·have ab:∃c2,look (cS 0 cL) j2=some c2:=by
     rw [nx];exact⟨_,List.getElem?_eq_getElem (by have:=(List.getElem?_eq_some_iff.1 v7).1;omega)⟩
    obtain⟨c2,mr⟩:=ab;exact jm.unbox (.slot 0) {d,own} T b j2 c2 (by simp [aM.at,iy,look]) aH (by simpa [cv]using hb) mr (hF j2 r b v7 mq)
   ·obtain⟨c6,_,_,dc,bn,_⟩:=h.box r lC mj;rw [mq]at dc;cases dc;exact GZ r lC b mj Oa mq (CG T v b kX hb b rfl (lt_of_heap bn))
 ·subst Ob;have jn:=jm.fw (.slot 0) {d:=.v x} (by simp [aM.at,iy,look])
  have:=om jn
  simpa [cv]using this
end
def Wq{i:Int}{n:Nat}(h:aL i n=true):0≤i∧i<n:=by simpa [aL]using h
def v8{i:Int}{n:Nat}(h:ho i n=true):0≤i∧i≤n:=by simpa [ho]using h
def afz{i:Int}{n:Nat}(h:0≤i∧i≤n):ho i n=true:=by simpa [ho]using h
def Wr{a b:Int}{n:Nat}(h:lW a b n=true):0≤a∧a≤b∧b≤n:=by simpa [lW]using h
def Ws{a:Int}(h:tM a=true):a≠0:=by simpa [tM]using h
def Oc{n b:Nat}(h:room n b=true):n*b≤140737488355328:=by simpa [room]using h
def afA{n:Nat}(h:b0 n=true):n≤9223372036854775807:=by simpa [b0]using h
section
variable {P:Program} {K:Ctx} {N:Nat} {M:Mem} {β:Nat→Option Nat} {st:aM} {g:dm} {tmps:Array Value} {w:World} {o:Oper} {f:lp} {p:Path} {tt:dI} {cf:gE} {ops:List Oper}
def Wt:∀(l:List (Nat×a7)) (s:Nat),look (pV l) s=(look l s).map λe=>({d:=e.d}:a7)
 |[],s=>rfl
 |(t,e)::l,s=>by
  simp only [pV,dZ];by_cases h:t=s
  ·simp [h]
  ·simp only [h,if_false];exact Wt l s
def bN.pV{st:aM}(h:bN P K M β st tmps w){env:List (Nat×a7)}(he:∀s e,look env s=some e→∃b4,look st.env s=some b4∧b4.d=e.d):bN P K M β {env:=Ab.pV env,H:=st.H,aW:=st.aW} tmps w:=
 h.sub rfl (λl e aa=>by
  cases l with
  |slot s=>
   simp only [aM.at,Wt,Option.map_eq_some_iff]at aa;obtain⟨e1,Z,rfl⟩:=aa;obtain⟨b4,ab,aj⟩:=he s e1 Z;exact⟨b4,ab,aj,λ_ h=>by cases h⟩
  |cell r i=>exact⟨e,aa,rfl,λ_ h=>h⟩) (λr cs ai=>⟨cs,ai,rfl⟩)
def afB(P:Program)(K:Ctx)(M:Mem)(β:Nat→Option Nat)(g:dm)(x:V)(hs:List (Nat×List a7))(o:Oper)(tmps:Array Value)(w:World):Prop:=
 (∃v,(execOp (Act.eval ⟨tmps,[]⟩) o).run P w = .halt (.panic v) w∧df M v x∧hs=[])∨
 (∃fn vs,(execOp (Act.eval ⟨tmps,[]⟩) o).run P w = .ok (.enter fn vs) w∧Calls P fn vs w λe w'=>∃v M' ,e = .panicked [{v,recovered:=false}]∧df M' v x∧
  bN P K M' β {env:=pV g.env,H:=hs++g.H,aW:=g.aW} tmps w')
def afC{op:BinOp}{k:IntKind}{a b:Int}{x:V}{a6:List Prop}(h:Nf op k a b=some (x,a6))(cp:∀q,q∈a6→q)(t:TypeId):
 ∃v,(binOp op t (.int k a) (.int k b)).run P w = .ok v w∧df M v x:=by
 have fin:∀{s:Sem Value} {v:Value},s.run P w = .ok v w→df M v x→∃v,s.run P w = .ok v w∧df M v x:=λZ ab=>⟨_,Z,ab⟩
 cases op<;>simp only [Nf,Option.some.injEq,Prod.mk.injEq,reduceCtorEq]at h<;>obtain⟨rfl,rfl⟩:=h
 case quo=>
  have hb:=Ws (cp _ (List.mem_singleton.2 rfl));refine fin (v:=.int k (k.wrap (a.tdiv b))) ?_ (.int _ _);simp [binOp,Op.intDiv,hb]
 case rem=>
  have hb:=Ws (cp _ (List.mem_singleton.2 rfl));refine fin (v:=.int k (a.tmod b)) ?_ (.int _ _);simp [binOp,Op.intDiv,hb]
 case add=>exact fin (v:=.int k (k.wrap (a+b))) (by simp [binOp,Op.intArith]) (.int _ _)
 case sub=>exact fin (v:=.int k (k.wrap (a-b))) (by simp [binOp,Op.intArith]) (.int _ _)
 case mul=>exact fin (v:=.int k (k.wrap (a*b))) (by simp [binOp,Op.intArith]) (.int _ _)
 case eql=>exact fin (v:=.bool (decide (a=b))) (by simp [binOp,Op.intCmp];rfl) (.bool _)
 case neq=>exact fin (v:=.bool (!decide (a=b))) (by simp [binOp,Op.intCmp];rfl) (.bool _)
 case lss=>exact fin (v:=.bool (decide (a<b))) (by simp [binOp,Op.intCmp]) (.bool _)
 case leq=>exact fin (v:=.bool (decide (a≤b))) (by simp [binOp,Op.intCmp]) (.bool _)
 case gtr=>exact fin (v:=.bool (decide (b<a))) (by simp [binOp,Op.intCmp]) (.bool _)
 case geq=>exact fin (v:=.bool (decide (b≤a))) (by simp [binOp,Op.intCmp]) (.bool _)
 case and=>exact fin (v:=.int k (pT k a b)) (by simp [binOp,Op.intBits,pT]) (.int _ _)
 case or=>exact fin (v:=.int k (qY k a b)) (by simp [binOp,Op.intBits,qY]) (.int _ _)
 case xor=>exact fin (v:=.int k (mU k a b)) (by simp [binOp,Op.intBits,mU]) (.int _ _)
 case andNot=>exact fin (v:=.int k (Nc k a b)) (by simp [binOp,Op.intBits,Nc]) (.int _ _)
def afD{op:BinOp}{k k':IntKind}{a b:Int}{x:V}{a6:List Prop}(h:Nd op k a b=some (x,a6))(cp:∀q,q∈a6→q)(t:TypeId):
 ∃v,(binOp op t (.int k a) (.int k' b)).run P w = .ok v w∧df M v x:=by
 unfold Nd at h;split at h
 ·simp only [Option.some.injEq,Prod.mk.injEq]at h;obtain⟨rfl,rfl⟩:=h;have hb:0≤b:=by simpa [od]using cp (od b=true) (by simp)
  exact⟨.int k (o1 k a b),by simp [binOp,Op.shift,show¬ b<0 by omega,o1],.int _ _⟩
 ·simp only [Option.some.injEq,Prod.mk.injEq]at h;obtain⟨rfl,rfl⟩:=h;have hb:0≤b:=by simpa [od]using cp (od b=true) (by simp)
  exact⟨.int k (nq k a b),by simp [binOp,Op.shift,show¬ b<0 by omega,nq],.int _ _⟩
 ·cases h
def afE{op:BinOp}{a b:aux}{x:V}{a6:List Prop}(h:Ng op a b=some (x,a6))(cp:∀q,q∈a6→q)(t:TypeId):
 ∃v,(binOp op t (.string ⟨⟨a⟩⟩) (.string ⟨⟨b⟩⟩)).run P w = .ok v w∧df M v x:=by
 have fin:∀{s:Sem Value} {v:Value},s.run P w = .ok v w→df M v x→∃v,s.run P w = .ok v w∧df M v x:=λZ ab=>⟨_,Z,ab⟩
 have ra:=GM a;have yB:=GM b;have he:(a == b)=decide (a=b):=by by_cases m7:a=b<;>simp [m7]
 cases op<;>simp only [Ng,Option.some.injEq,Prod.mk.injEq,reduceCtorEq]at h<;>obtain⟨rfl,rfl⟩:=h
 case add=>
  have hb:=afA (cp _ (List.mem_singleton.2 rfl));refine fin (v:=.string ⟨⟨a++b⟩⟩) ?_ (.str _)
  have ev:¬ ((((⟨⟨a⟩⟩:ByteArray).size+(⟨⟨b⟩⟩:ByteArray).size:Nat):Int) > IntKind.i64.max):=by
   have Z:(⟨⟨a⟩⟩:ByteArray).size=a.length:=rfl;have ab:(⟨⟨b⟩⟩:ByteArray).size=b.length:=rfl;have aj:IntKind.i64.max=9223372036854775807:=by decide
   rw [Z,ab,aj];omega
  simp only [binOp,Op.stringOp];rw [if_neg ev];simp;apply ByteArray.ext;simp
 case eql=>exact fin (v:=.bool (decide (a=b))) (by simp [binOp,Op.stringOp,ra,yB,he]) (.bool _)
 case neq=>exact fin (v:=.bool (!decide (a=b))) (by simp [binOp,Op.stringOp,ra,yB,he]) (.bool _)
 case lss=>exact fin (v:=.bool (Op.bytesLess a b)) (by simp [binOp,Op.stringOp,ra,yB]) (.bool _)
 case leq=>exact fin (v:=.bool (Op.bytesLess a b||decide (a=b))) (by simp [binOp,Op.stringOp,ra,yB,he]) (.bool _)
 case gtr=>exact fin (v:=.bool (!(Op.bytesLess a b||decide (a=b)))) (by simp [binOp,Op.stringOp,ra,yB,he]) (.bool _)
 case geq=>exact fin (v:=.bool (!Op.bytesLess a b)) (by simp [binOp,Op.stringOp,ra,yB]) (.bool _)
def afF{t:TypeId}{aS:eP}(r:Row P t aS)(hk:aS.k = .ptr):∃e,r.desc = .pointer e:=by
 have:=r.hk
 rw [hk]at this;cases hd:r.desc<;>simp [hd,ly]at this;exact⟨_,rfl⟩
def afG{t:TypeId}{aS:eP}(r:Row P t aS)(hk:aS.k = .o0):∃e,r.desc = .interface e:=by
 have:=r.hk
 rw [hk]at this;cases hd:r.desc<;>simp [hd,ly]at this;exact⟨_,rfl⟩
def afH{t:TypeId}{aS:eP}(r:Row P t aS)(hk:aS.k = .a'):∃a b c,r.desc = .func a b c:=by
 have:=r.hk
 rw [hk]at this;cases hd:r.desc<;>simp [hd,ly]at this;exact⟨_,_,_,rfl⟩
def Od{t:TypeId}{aS:eP}(r:Row P t aS)(hk:aS.k = .bool):r.desc = .bool:=by
 have:=r.hk
 rw [hk]at this;cases hd:r.desc<;>simp [hd,ly]at this;rfl
def Wu{t:TypeId}{aS:eP}(r:Row P t aS){hW yC:Value}{a b:D}{res:Bool}(ha:cy M β hW a)(hb:cy M β yC b)(aa:Gx aS.k b=true)(hn:isNil aS.k a=some res):
 (Op.equal t hW yC).run P w = .ok res w∧(∀op,(binOp op t hW yC)=match op with|.eql=>(do pure (.bool (←Op.equal t hW yC)))|.neq=>(do pure (.bool (!(←Op.equal t hW yC))))|_=>binOp op t hW yC):=by
 obtain⟨dep,hm⟩:∃d,Op.maxDepth=d+1:=⟨9999,rfl⟩;unfold Gx at aa;split at aa<;>try cases aa
 ·rename_i hk;cases om hb
  obtain⟨e,hd⟩:=afF r hk;rw [hk]at hn;unfold isNil at hn;split at hn<;>simp_all
  ·cases om ha
   refine⟨?_,λop=>by cases op<;>rfl⟩
   rw [Op.equal,hm,Op.equalIn];simp [r.run_underlying,hd]
  ·obtain⟨bH,_,rfl⟩:=sw ha;subst hn;refine⟨?_,λop=>by cases op<;>rfl⟩
   rw [Op.equal,hm,Op.equalIn];simp [r.run_underlying,hd]
  ·obtain⟨bH,off,val,rfl,_⟩:=GK ha;subst hn;refine⟨?_,λop=>by cases op<;>rfl⟩
   rw [Op.equal,hm,Op.equalIn];simp [r.run_underlying,hd]
 ·rename_i hk;cases om hb
  obtain⟨e,hd⟩:=afG r hk;rw [hk]at hn;unfold isNil at hn;split at hn<;>simp_all
  ·cases om ha
   refine⟨?_,λop=>by cases op<;>rfl⟩
   rw [Op.equal,hm,Op.equalIn];simp [r.run_underlying,hd]
  ·obtain⟨u,rfl,_⟩:=Nz ha;subst hn;refine⟨?_,λop=>by cases op<;>rfl⟩
   rw [Op.equal,hm,Op.equalIn];simp [r.run_underlying,hd]
 ·rename_i hk;cases om hb
  obtain⟨e1,e2,e3,hd⟩:=afH r hk;rw [hk]at hn;unfold isNil at hn;split at hn<;>simp_all
  ·cases om ha
   refine⟨?_,λop=>by cases op<;>rfl⟩
   rw [Op.equal,hm,Op.equalIn];simp [r.run_underlying,hd]
  ·obtain⟨u,rfl,_⟩:=VL ha;subst hn;refine⟨?_,λop=>by cases op<;>rfl⟩
   rw [Op.equal,hm,Op.equalIn];simp [r.run_underlying,hd]
end
section
variable {P:Program} {K:Ctx} {N:Nat} {M:Mem} {β:Nat→Option Nat} {st:aM} {g:dm} {tmps:Array Value} {w:World} {o:Oper} {f:lp} {p:Path} {tt:dI} {cf:gE} {ops:List Oper}
structure Hyp(P:Program)(K:Ctx)(N:Nat)(M:Mem)(β:Nat→Option Nat)(g:dm)(tmps:Array Value)(w:World)(p:Path)(tt:dI):Prop where
 bA:fY P K N M β g tmps w
 dW:fO tmps p
 tt:fD P tt=true
def afI(h:Hyp P K N M β g tmps w p tt){x:Operand}(aw:o.op = .move x)(hs:step1 cf tt ops g p o=some (.go f)):Yields P K M β g f o tmps w:=by
 simp only [step1,aw]at hs;split at hs
 case h_2=>cases hs
 rename_i d hd
 repeat' (first|(split at hs)|(rw [Bool.cond_eq_ite]at hs))
 all_goals first
  |(cases hs;done)
  |(cases hs;exact VQ h.bA h.dW (.inl aw) hd (by assumption))
  |(cases hs;exact GN h.bA h.dW (.inl aw) hd)
def afJ(h:Hyp P K N M β g tmps w p tt){x:Operand}(aw:o.op = .assign x)(hs:step1 cf tt ops g p o=some (.go f)):Yields P K M β g f o tmps w:=by
 simp only [step1,aw]at hs;split at hs
 case h_2=>cases hs
 rename_i d hd;split at hs
 ·rename_i e t gk;rw [Bool.cond_eq_ite]at hs;split at hs<;>cases hs
  ·exact VQ h.bA h.dW (.inr aw) hd gk
  ·exact GN h.bA h.dW (.inr aw) hd
 ·split at hs
  ·rw [Bool.cond_eq_ite]at hs;split at hs<;>cases hs
   ·exact aeU h.bA h.dW aw hd _
   ·exact GN h.bA h.dW (.inr aw) hd
  ·cases hs
 ·cases hs;exact GN h.bA h.dW (.inr aw) hd
def afK(h:Hyp P K N M β g tmps w p tt){c:Nat}{a b:Operand}(aw:o.op = .pick (.tmp c) a b)(hs:step1 cf tt ops g p o=some (.go f)):Yields P K M β g f o tmps w:=by
 simp only [step1,aw]at hs;split at hs
 case h_2=>cases hs
 rename_i tO Cf vz Z ab aj;cases hs;exact aeV h.bA h.dW aw Z ab aj
def afL(h:Hyp P K N M β g tmps w p tt){t:TypeId}(aw:o.op = .alloc t)(hs:step1 cf tt ops g p o=some (.go f)):Yields P K M β g f o tmps w:=by
 simp only [step1,aw]at hs;split at hs
 case h_2=>cases hs
 rename_i id eS hid;split at hs
 case h_2=>cases hs
 rename_i z dx;cases hs;exact aeX h.bA h.tt aw dx hid
def afM(h:Hyp P K N M β g tmps w p tt){t:TypeId}{x:Operand}(aw:o.op = .box t x)(hs:step1 cf tt ops g p o=some (.go f)):Yields P K M β g f o tmps w:=by
 simp only [step1,aw]at hs;split at hs
 case h_2=>cases hs
 rename_i d id eS aS hd hid aa;rw [Bool.cond_eq_ite]at hs;split at hs<;>cases hs
 rename_i G2;simp only [Bool.or_eq_true,Bool.not_eq_true',not_or,Bool.not_eq_true,Bool.not_eq_false,Nat.beq_eq]at G2;exact aeY h.bA h.dW aw hd G2.1.1 G2.1.2 h.tt aa G2.2 hid
def afN(h:Hyp P K N M β g tmps w p tt){t:TypeId}{parts:Array (Nat×Operand)}(aw:o.op = .build t parts)(hs:step1 cf tt ops g p o=some (.go f)):Yields P K M β g f o tmps w:=by
 simp only [step1,aw]at hs;split at hs
 ·rename_i cx fW kz zero _ b8 aa mn;rw [Bool.cond_eq_ite]at hs;split at hs
  case isFalse=>cases hs
  rename_i lZ;split at hs
  ·simp only [Option.map_eq_some_iff]at hs;obtain⟨d,⟨cs,eu,rfl⟩,hs⟩:=hs;cases hs;exact V2 h.bA h.dW h.tt aa rfl lZ aw mn (λr=>r.ae1) eu
  ·simp only [Option.map_eq_some_iff]at hs;obtain⟨d,⟨cs,eu,rfl⟩,hs⟩:=hs;cases hs;exact V2 h.bA h.dW h.tt aa rfl lZ aw mn (λr=>r.V1) eu
 ·rename_i n e fW kz zero _ b8 aa mn;split at hs
  case h_2=>cases hs
  rename_i al afO Wv z2 eT;simp only [Option.map_eq_some_iff]at hs;obtain⟨d,⟨cs,eu,rfl⟩,hs⟩:=hs;cases hs;exact ae3 h.bA h.dW h.tt aa rfl eT aw mn eu
 ·cases hs
def afP(h:Hyp P K N M β g tmps w p tt){t:TypeId}{len:Nat}{parts:Array (Nat×Operand)}(aw:o.op = .buildSlice t len parts)(hs:step1 cf tt ops g p o=some (.go f))(cp:∀q,q∈f.a6→q):Yields P K M β g f o tmps w:=by
 simp only [step1,aw]at hs;split at hs
 case h_2=>cases hs
 rename_i e fW kz zero _ b8 aa mn;split at hs
 case h_2=>cases hs
 rename_i al afO Wv z2 eT;split at hs
 case h_2=>cases hs
 rename_i xs x rs hx eY;rw [Bool.cond_eq_ite]at hs;split at hs
 case isFalse=>cases hs
 rename_i hc;simp only [Bool.and_eq_true,Nat.ble_eq,Nat.beq_eq]at hc;cases hs;exact ae5 h.bA h.dW h.tt aa rfl eT aw mn hx hc.2 hc.1.2 hc.1.1 (cp _ (List.mem_singleton.2 rfl))
def afQ(h:Hyp P K N M β g tmps w p tt){t:TypeId}{a:Operand}(aw:o.op = .load t a)(hs:step1 cf tt ops g p o=some (.go f)):Yields P K M β g f o tmps w:=by
 simp only [step1,aw]at hs;split at hs
 ·rename_i q off aS ha aa;split at hs
  case h_2=>cases hs
  rename_i cs ao;rw [Bool.cond_eq_ite]at hs;split at hs
  ·rename_i jO;rw [Bool.cond_eq_ite]at hs;split at hs
   case isFalse=>cases hs
   rename_i hle;cases hs;exact ae8 h.bA h.dW h.tt aa aw ha ao jO (by simpa using hle)
  ·rename_i jO;split at hs
   case h_2=>cases hs
   rename_i e he;split at hs
   ·rename_i s rs gg eY;rw [Bool.cond_eq_ite]at hs;split at hs<;>cases hs
    exact ae' h.bA h.dW h.tt aa aw ha ao (by simpa using jO) he gg
   ·cases hs;exact ae9 h.bA h.dW h.tt aa aw ha ao (by simpa using jO) he
 ·rename_i x aS ha aa;rw [Bool.cond_eq_ite]at hs;split at hs
  case isFalse=>cases hs
  rename_i hc;simp only [Bool.and_eq_true,beq_iff_eq,Nat.beq_eq]at hc;cases hs;exact ae_ h.bA h.dW h.tt aa aw ha hc.1 hc.2
 ·cases hs
def afR(h:Hyp P K N M β g tmps w p tt){t:TypeId}{a x:Operand}(aw:o.op = .store t a x)(hs:step1 cf tt ops g p o=some (.go f)):Yields P K M β g f o tmps w:=by
 simp only [step1,aw]at hs;split at hs
 case h_2=>cases hs
 rename_i q off d aS ha hx aa;split at hs
 case h_2=>cases hs
 rename_i cs ao;rw [Bool.cond_eq_ite]at hs;split at hs
 case isFalse=>cases hs
 rename_i hc;simp only [Bool.and_eq_true,Nat.beq_eq,Nat.ble_eq,Bool.not_eq_true']at hc;obtain⟨⟨⟨⟨k0,mr⟩,_⟩,afS⟩,afT⟩:=hc;split at hs
 ·rename_i u s k n get gk;cases hs;simp only [pU,Option.bind_eq_some_iff]at gk;obtain⟨e,he,aH⟩:=gk;have ev:aS.size=1:=by rw [←k0];rfl
  exact V_ h.bA h.dW h.tt aa aw ha ao hx ev mr (l:=[u]) (h.bA.bA.hand he aH (.cell q off))
 ·split at hs
  ·cases hs;have m4:=hx;simp only [rd]at m4;split at m4
   ·cases m4;have ev:aS.size=1:=by rw [←k0];rfl
    exact V_ h.bA h.dW h.tt aa aw ha ao hx ev mr (l:=[]) (Nt _ _)
   ·cases m4
  ·cases hs
 ·cases hs;exact afb h.bA h.dW h.tt aa aw ha ao hx afS afT k0 mr _
def afU(h:Hyp P K N M β g tmps w p tt){x:Operand}(aw:o.op = .nilCheck x)(hs:step1 cf tt ops g p o=some (.go f)):Yields P K M β g f o tmps w:=by
 simp only [step1,aw]at hs;split at hs
 ·rename_i q off hd;cases hs;have ai:=ei (ds:=[]) h.bA h.dW hd;obtain⟨b,_,av⟩:=sw ai;refine fb h.bA (v:=(⟨tmps,[]⟩:Act).eval x) ?_ ai;simp [execOp,aw,av]
 ·rename_i y hd;cases hs;have ai:=ei (ds:=[]) h.bA h.dW hd;obtain⟨b,off,val,av,_⟩:=GK ai;refine fb h.bA (v:=(⟨tmps,[]⟩:Act).eval x) ?_ ai;simp [execOp,aw,av]
 ·cases hs
def afV(h:Hyp P K N M β g tmps w p tt){op:UnOp}{t:TypeId}{x:Operand}(aw:o.op = .unOp op t x)(hs:step1 cf tt ops g p o=some (.go f)):Yields P K M β g f o tmps w:=by
 simp only [step1,aw]at hs;split at hs
 case h_2=>cases hs
 rename_i a ha;simp only [Option.map_eq_some_iff]at hs;obtain⟨d,⟨gf,yA,rfl⟩,hs⟩:=hs;cases hs;have ai:=ei (ds:=[]) h.bA h.dW ha;unfold Vx at yA;split at yA<;>cases yA
 ·have:=vI ai
  refine fb h.bA (v:=.bool _) ?_ (.v _ _ (.bool _));simp [execOp,aw,this,Op.unary]
 ·have:=mm ai
  refine fb h.bA (v:=.int _ _) ?_ (.v _ _ (.int _ _));simp [execOp,aw,this,Op.unary,Op.intArith]
def afW(h:Hyp P K N M β g tmps w p tt){s t:TypeId}{x:Operand}(aw:o.op = .convert s t x)(hs:step1 cf tt ops g p o=some (.go f))(cp:∀q,q∈f.a6→q):Yields P K M β g f o tmps w:=by
 simp only [step1,aw]at hs;split at hs
 ·rename_i cC _ _ _ _ k _ _ _ _ ef n fm eT hd;cases hs;obtain⟨r1⟩:=eK h.tt fm;obtain⟨r2⟩:=eK h.tt eT;have ai:=mm (ei (ds:=[]) h.bA h.dW hd);refine fb h.bA (v:=.int k (k.wrap n)) ?_ (.v _ _ (.int _ _));simp only [execOp,aw,ai];refine jB _ ?_;simp [convert,r1.run_underlying,r2.run_underlying,Co r1 rfl,Co r2 rfl,Conv.intToInt]
 ·rename_i _ _ _ _ _ _ _ _ l fm eT hd;cases hs;obtain⟨r1⟩:=eK h.tt fm;obtain⟨r2⟩:=eK h.tt eT;have ai:=mZ (ei (ds:=[]) h.bA h.dW hd);refine fb h.bA (v:=.string ⟨⟨l⟩⟩) ?_ (.v _ _ (.str _));simp only [execOp,aw,ai];refine jB _ ?_;simp [convert,r1.run_underlying,r2.run_underlying,q4 r1 rfl,q4 r2 rfl]
 ·rename_i e _ _ _ _ _ _ _ _ n get fm eT hd;split at hs
  case h_2=>cases hs
  rename_i l rs Oe eY;cases hs;obtain⟨r1⟩:=eK h.tt fm;obtain⟨r2⟩:=eK h.tt eT;obtain⟨r3⟩:=eK h.tt Oe;obtain⟨hlen,iX⟩:=cp _ (List.mem_singleton.2 rfl);have ai:=ei (ds:=[]) h.bA h.dW hd;refine fb h.bA (v:=.string ⟨⟨l⟩⟩) ?_ (.v _ _ (.str _));simp only [execOp,aw];refine jB _ ?_;rcases tT ai with⟨hn|⟨a,hn⟩,av⟩|⟨b,off,cap,val,av,hc,hk,cV,Z,gM⟩
  ·have hl0:l=[]:=List.eq_nil_of_length_eq_zero (hlen.trans av);rw [hn,hl0];simp [convert,r1.run_underlying,r2.run_underlying,r3.run_underlying,p1 r1 rfl,q4 r2 rfl,Co r3 rfl,Conv.bytesToString];rfl
  ·have hl0:l=[]:=List.eq_nil_of_length_eq_zero (hlen.trans av);rw [hn,hl0];exact run_convert_bytes_back w s t e a 0 [] (by rw [r1.hd,p1 r1 rfl]) (by rw [r3.hd,Co r3 rfl]) (by rw [r2.hd,q4 r2 rfl]) (λj hj=>by simp at hj)
  ·rw [av,←hlen]
   have ij:∀j (hj:j<l.length),w.cell? ((⟨b,off,none⟩:Addr).add j)=some (.int .u8 (l[j].toNat:Int)):=by
    intro j hj;have Of:j<n:=by omega
    have e1:=iX j Of;have e2:=gM j 0 (.int .u8 ((l.getD j 0).toNat:Int)) Of (by rw [e1];rfl)
    have e3:val j 0 = .int .u8 ((l.getD j 0).toNat:Int):=by generalize val j 0=u at e2 ⊢;cases e2;rfl
    have gG:=h.bA.bA.mem _ _ _ (cV j 0 Of (by omega))
    rw [addr_add];have mt:off+j*1+0=off+j:=by omega
    rw [mt,e3]at gG;rw [gG];simp [List.getD,List.getElem?_eq_getElem hj]
   exact run_convert_bytes_back w s t e ⟨b,off,none⟩ cap l (by rw [r1.hd,p1 r1 rfl]) (by rw [r3.hd,Co r3 rfl]) (by rw [r2.hd,q4 r2 rfl]) ij
 ·cases hs
def afX(h:Hyp P K N M β g tmps w p tt){t:TypeId}{x:Operand}(aw:o.op = .makeInterface t x)(hs:step1 cf tt ops g p o=some (.go f)):Yields P K M β g f o tmps w:=by
 simp only [step1,aw]at hs;split at hs
 case h_2=>cases hs
 rename_i y k fW kz z _ hd aa;obtain⟨r⟩:=eK h.tt aa;have ai:=ei (ds:=[]) h.bA h.dW hd
 have hc:P.concrete t=true∨k = .o0:=by
  have hk:=r.hk;cases Ww:r.desc<;>simp [Ww,ly]at hk
  all_goals first
   |exact .inr hk.symm
   |(left;simp [Program.concrete,r.hd,Ww])
 split at hs
 ·cases hs
 ·rename_i hk;cases hs;rcases hc with hc|hc
  ·refine fb h.bA (v:=.iface t ((⟨tmps,[]⟩:Act).eval x)) ?_ (.v _ _ (.iface t _ _ (om ai)));simp only [execOp,aw];exact jB _ (run_makeInterface w t _ hc)
  ·exact absurd hc hk
def afY(h:Hyp P K N M β g tmps w p tt){fn:FuncId}{first ff:Array Operand}(aw:o.op = .makeFunc (.func fn) first ff)(hs:step1 cf tt ops g p o=some (.go f)):Yields P K M β g f o tmps w:=by
 simp only [step1,aw]at hs;rw [Bool.cond_eq_ite]at hs;split at hs
 case isFalse=>cases hs
 rename_i he;simp only [Option.map_eq_some_iff]at hs;obtain⟨ds,h_,hs⟩:=hs;cases hs;obtain⟨Z,ab⟩:=tV h_;have vR:first = #[]:=by simpa using he
 subst vR;refine fb h.bA (v:=.func (.func fn) #[] (ff.map (⟨tmps,[]⟩:Act).eval)) ?_ ?_
 ·simp [execOp,aw,Instr.makeFunc]
 ·have:ff.map (⟨tmps,[]⟩:Act).eval=⟨ff.toList.map (⟨tmps,[]⟩:Act).eval⟩:=by apply Array.ext';simp
  rw [this];refine .fn fn _ ds (by simp [Z]) λi v c av hc=>?_
  simp only [List.getElem?_map,Option.map_eq_some_iff]at av;obtain⟨y,cg,rfl⟩:=av;exact ei h.bA h.dW (ab i y c cg hc)
def afZ(h:Hyp P K N M β g tmps w p tt){x:Operand}{i:Nat}(aw:o.op = .extract x i)(hs:step1 cf tt ops g p o=some (.go f)):Yields P K M β g f o tmps w:=by
 simp only [step1,aw]at hs;split at hs
 case h_2=>cases hs
 rename_i ds hd;simp only [Option.map_eq_some_iff]at hs;obtain⟨d,ub,hs⟩:=hs;cases hs;obtain⟨vs,av,hlen,ai⟩:=aeO (ei (ds:=[]) h.bA h.dW hd);have hi:i<ds.length:=(List.getElem?_eq_some_iff.1 ub).1;have fa:vs[i]? = some vs[i]:=List.getElem?_eq_getElem (by omega)
 refine fb h.bA (v:=vs[i]) ?_ (ai i _ d fa ub);simp only [execOp,aw,av];refine jB _ ?_;simp [Instr.extract,fa]
end
section
variable {P:Program} {K:Ctx} {N:Nat} {M:Mem} {β:Nat→Option Nat} {st:aM} {g:dm} {tmps:Array Value} {w:World} {o:Oper} {f:lp} {p:Path} {tt:dI} {cf:gE} {ops:List Oper}
def sF{op:BinOp}{t t2:TypeId}{x y:Operand}(aw:o.op = .binOp op t x y t2){a b v:Value}(hx:(⟨tmps,[]⟩:Act).eval x=a)(cg:(⟨tmps,[]⟩:Act).eval y=b)
 (hg:(eqGuard op t x y a b).run P w = .ok () w) (h:(binOp op t a b).run P w = .ok v w):(execOp (Act.eval ⟨tmps,[]⟩) o).run P w = .ok (.value v) w:=by
 simp only [execOp,aw,hx,cg];refine jB _ ?_;simp only [Sem.run_bind,hg,Result.andThen_ok,h]
def yD{op:BinOp}{t:TypeId}{x y:Operand}{a b:Value}(h:∀cs ds,¬ (a = .agg cs∧b = .agg ds))(ab:a = .nilIface→b = .nilIface→isConst y=true):(eqGuard op t x y a b).run P w = .ok () w:=by
 unfold eqGuard;cases op<;>try rfl
 all_goals
  simp only
  cases a<;>cases b<;>first
   |rfl
   |(exact absurd ⟨rfl,rfl⟩ (h _ _))
   |(have:=ab rfl rfl;cases y<;>simp [isConst]at this;simp)
def af0(cz:fD P tt=true){d:Nat}{h8:TypeId}{CI:List (Option mg)}{x y:V}{xs ys:List V}{hW sG:Value}{r:Bool}
 (he:jh ((look tt h8).map (·.k)::CI) (x::xs) (y::ys)=some r) (CJ:df M hW x) (CK:df M sG y):∃c q,(Op.equalIn (d+1) h8 hW sG).run P w = .ok c w∧jh CI xs ys=some q∧(c&&q)=r:=by
 cases aa:look tt h8 with
 |none=>simp [aa,jh]at he
 |some aS=>
  obtain⟨row⟩:=eK cz aa;have rb:=row.hd;simp only [aa,Option.map_some]at he;unfold jh at he;split at he<;>simp only [List.cons.injEq,reduceCtorEq]at *
  case h_2 ks kk k a l k' b m e1 e2 e3=>
   obtain⟨e1,rfl⟩:=e1;obtain⟨rfl,rfl⟩:=e2;obtain⟨rfl,rfl⟩:=e3;cases CJ;cases CK
   rw [Bool.cond_eq_ite]at he;split at he
   case isFalse=>cases he
   rename_i hk;simp only [decide_eq_true_eq]at hk;subst hk;simp only [Option.map_eq_some_iff]at he;obtain⟨q,ao,ai⟩:=he;refine⟨decide (a=b),q,?_,ao,ai⟩
   have:∃fo,row.desc = .int fo:=by
    have:=row.hk
    rw [Option.some.inj e1]at this;cases hd:row.desc<;>simp [hd,ly]at this;exact⟨_,rfl⟩
   obtain⟨fo,jo⟩:=this;rw [jo]at rb;rw [run_equalIn_int w d h8 k fo a b rb];rfl
  case h_3 ks a l b m e1 e2 e3=>
   obtain⟨e1,rfl⟩:=e1;obtain⟨rfl,rfl⟩:=e2;obtain⟨rfl,rfl⟩:=e3;cases CJ;cases CK
   simp only [Option.map_eq_some_iff]at he;obtain⟨q,ao,ai⟩:=he;refine⟨decide (a=b),q,?_,ao,ai⟩
   have:row.desc = .string:=q4 row (Option.some.inj e1)
   rw [this]at rb;rw [run_equalIn_string w d h8 _ _ rb,GM,GM];by_cases m7:a=b<;>simp [m7]
  case h_4 ks a l b m e1 e2 e3=>
   obtain⟨e1,rfl⟩:=e1;obtain⟨rfl,rfl⟩:=e2;obtain⟨rfl,rfl⟩:=e3;cases CJ;cases CK
   simp only [Option.map_eq_some_iff]at he;obtain⟨q,ao,ai⟩:=he;refine⟨(a == b),q,?_,ao,ai⟩
   have:row.desc = .bool:=Od row (Option.some.inj e1)
   rw [this]at rb;rw [run_equalIn_bool' w d h8 _ _ rb]
def ou(P:Program)(cx:List Field):List (Nat×TypeId×Nat):=cx.map λf=>(f.offset,f.type,P.cellsOf f.type)
def G3:∀{cC al:List (Option mg)} {xs ys:List V} {r:Bool},jh (cC++al) xs ys=some r→
 ∃r1 r2,jh cC (xs.take cC.length) (ys.take cC.length)=some r1∧jh al (xs.drop cC.length) (ys.drop cC.length)=some r2∧(r1&&r2)=r∧cC.length≤xs.length∧cC.length≤ys.length∧∀k,k∈cC→k.isSome=true
 |[],al,xs,ys,r,h=>⟨true,r,by simp [jh],by simpa using h,rfl,Nat.zero_le _,Nat.zero_le _,λk hk=>by cases hk⟩
 |k::cC,al,xs,ys,r,h=>by
  simp only [List.cons_append]at h;unfold jh at h;split at h<;>simp only [List.cons.injEq,reduceCtorEq]at *
  ·rename_i ks kk k' a l asX b m e1;obtain⟨rfl,rfl⟩:=e1;rw [Bool.cond_eq_ite]at h;split at h
   case isFalse=>cases h
   rename_i hk;simp only [Option.map_eq_some_iff]at h;obtain⟨q,ao,rfl⟩:=h;obtain⟨r1,r2,Z,ab,aj,aC,aT,bP⟩:=G3 ao;refine⟨decide (a=b)&&r1,r2,?_,ab,by rw [Bool.and_assoc,aj],by simpa using aC,by simpa using aT,λfo jo=>?_⟩
   ·simp only [List.length_cons,List.take_succ_cons,jh,hk,cond_true,Z,Option.map_some]
   ·rcases List.mem_cons.1 jo with rfl|jo
    ·rfl
    ·exact bP fo jo
  ·rename_i ks a l b m e1;obtain⟨rfl,rfl⟩:=e1;simp only [Option.map_eq_some_iff]at h;obtain⟨q,ao,rfl⟩:=h;obtain⟨r1,r2,Z,ab,aj,aC,aT,bP⟩:=G3 ao;refine⟨decide (a=b)&&r1,r2,?_,ab,by rw [Bool.and_assoc,aj],by simpa using aC,by simpa using aT,λfo jo=>?_⟩
   ·simp only [List.length_cons,List.take_succ_cons,jh,Z,Option.map_some]
   ·rcases List.mem_cons.1 jo with rfl|jo
    ·rfl
    ·exact bP fo jo
  ·rename_i ks a l b m e1;obtain⟨rfl,rfl⟩:=e1;simp only [Option.map_eq_some_iff]at h;obtain⟨q,ao,rfl⟩:=h;obtain⟨r1,r2,Z,ab,aj,aC,aT,bP⟩:=G3 ao;refine⟨(a == b)&&r1,r2,?_,ab,by rw [Bool.and_assoc,aj],by simpa using aC,by simpa using aT,λfo jo=>?_⟩
   ·simp only [List.length_cons,List.take_succ_cons,jh,Z,Option.map_some]
   ·rcases List.mem_cons.1 jo with rfl|jo
    ·rfl
    ·exact bP fo jo
def uc(tt:dI)(h8:TypeId):Nat→List (Option mg)
 | 0=>[(look tt h8).map (·.k)]
 |q+1=>match look tt h8 with
  |some {k:=.cb gs,..}=>mV tt q gs
  |o=>[o.map (·.k)]
def G4(q:Nat)(f:Field)(cx:List Field):mV tt q (ou P (f::cx))=uc tt f.type q++mV tt q (ou P cx):=by
 cases q with
 |zero=>rfl
 |succ q=>
  simp only [mV,ou,List.map_cons,List.flatMap_cons,uc];rfl
def Wx{t:TypeId}{aS:eP}(r:Row P t aS){gs:Array Field}(h:P.underlying t=some (.struct gs)):aS.k = .cb (ou P gs.toList):=by
 have hd:r.desc = .struct gs:=Option.some.inj (r.hd.symm.trans h);have:=r.hk
 rw [hd]at this;simp [ly]at this;exact this.symm
def Wy{t:TypeId}{aS:eP}(r:Row P t aS){gs:List (Nat×TypeId×Nat)}(h:aS.k = .cb gs):∃cx:Array Field,P.underlying t=some (.struct cx)∧gs=ou P cx.toList:=by
 have Z:=r.hk;rw [h]at Z;cases hd:r.desc<;>simp [hd,ly]at Z
 rename_i cx;refine⟨cx,?_,Z.symm⟩
 rw [r.hd,hd]
def Wz(cz:fD P tt=true){h8:TypeId}(h:∀gs,P.underlying h8≠some (.struct gs))(q:Nat):uc tt h8 q=[(look tt h8).map (·.k)]:=by
 cases q with
 |zero=>rfl
 |succ q=>
  simp only [uc];split
  ·rename_i gs _ _ _ _ aa;obtain⟨row⟩:=eK cz aa;obtain⟨cx,Z,_⟩:=Wy row rfl;exact absurd Z (h cx)
  ·rfl
def Og(cz:fD P tt=true):∀(q:Nat) (cx:List Field),(∀k,k∈mV tt q (ou P cx)→k.isSome=true)→(mV tt q (ou P cx)).length=sv P q cx
 | 0,cx,_=>by simp [mV,ou,sv]
 |q+1,[],_=>by simp [mV,ou,sv]
 |q+1,f::cx,h=>by
  rw [G4]at h ⊢;have aG:=Og cz (q+1) cx λk hk=>h k (List.mem_append_right _ hk)
  have hc:sv P (q+1) (f::cx)=(match P.underlying f.type with|some (.struct gs)=>sv P q gs.toList|_=>1)+sv P (q+1) cx:=by
   simp only [sv,List.map_cons,List.sum_cons];rfl
  rw [List.length_append,aG,hc]
  congr 1
  simp only [uc]at h ⊢;split
  ·rename_i gs _ _ _ _ aa;obtain⟨row⟩:=eK cz aa;obtain⟨CL,Z,rfl⟩:=Wy row rfl;rw [Z];refine Og cz q CL.toList λk hk=>h k (List.mem_append_left _ ?_)
   rw [aa];exact hk
  ·rename_i o o9;cases aw:look tt f.type with
   |none=>
    have:=h none (List.mem_append_left _ (by rw [aw];simp))
    cases this
   |some aS=>
    obtain⟨row⟩:=eK cz aw;split
    ·rename_i gs hu;have:=Wx row hu
     obtain⟨k,s,b,z,kZ⟩:=aS;simp only at this
     subst this;exact absurd aw (o9 _ _ _ _ _)
    ·rfl
def WA (cz : fD P tt = true) {d : Nat} {f : Field} {cx : List Field} {i : Nat} {CI : List (Option mg)} {xs ys : List V} {vs us : List Value} {r : Bool} (ud : f.offset = i) (jQ : ¬ f.name = "_") (jO : (isAgg f.type).run P w = .ok false w)
 (he:jh ((look tt f.type).map (·.k)::CI) xs ys=some r)
 (av:∀(j:Nat) v x,vs[i+j]? = some v→xs[j]? = some x→df M v x) (hu:∀(j:Nat) v x,us[i+j]? = some v→ys[j]? = some x→df M v x) (fZ:i+xs.length≤vs.length) (vM:i+ys.length≤us.length)
 (aG:∀(q:Bool),∀{CM CN:List V},jh CI CM CN=some q→(∀(j:Nat) v x,vs[i+1+j]? = some v→CM[j]? = some x→df M v x)→(∀(j:Nat) v x,us[i+1+j]? = some v→CN[j]? = some x→df M v x)→i+1+CM.length≤vs.length→i+1+CN.length≤us.length→(Op.eqFields (d+1) ⟨vs⟩ ⟨us⟩ cx).run P w = .ok q w):
 (Op.eqFields (d+1) ⟨vs⟩ ⟨us⟩ (f::cx)).run P w = .ok r w:=by
 cases xs with
 |nil=>simp [jh]at he
 |cons x xs=>
  cases ys with
  |nil=>simp [jh]at he
  |cons y ys=>
   simp only [List.length_cons]at fZ vM;obtain⟨hW,fa⟩:∃hW,vs[i]? = some hW:=⟨_,List.getElem?_eq_getElem (by omega)⟩
   obtain⟨sG,WB⟩:∃sG,us[i]? = some sG:=⟨_,List.getElem?_eq_getElem (by omega)⟩
   have CJ:=av 0 hW x fa rfl;have CK:=hu 0 sG y WB rfl
   have G5:∀{zs:List Value} {z:Value},zs[i]? = some z→(part f.type ⟨zs⟩ f.offset).run P w = .ok z w:=by
    intro zs z dx;have:(⟨zs⟩:Array Value)[f.offset]? = some z:=by rw [ud];simpa using dx
    simp only [part,Sem.run_bind,jO,Result.andThen_ok,this];rfl
   obtain⟨c,q,Z,ab,aj⟩:=af0 (P:=P) (w:=w) (M:=M) cz (d:=d) he CJ CK;have aC:=aG q ab (λj v z Z ab=>av (j+1) v z (by rw [←Z];congr 1;omega) (by simpa using ab)) (λj v z Z ab=>hu (j+1) v z (by rw [←Z];congr 1;omega) (by simpa using ab)) (by omega) (by omega)
   simp only [Op.eqFields];rw [if_pos jQ];simp only [Sem.run_bind,G5 fa,G5 WB,Result.andThen_ok,Z];cases c
   ·simp [←aj]
   ·simp [←aj,aC]
def af1(cz:fD P tt=true):∀(q:Nat) {d:Nat} {cx:List Field} {i:Nat} {xs ys:List V} {vs us:List Value} {r:Bool},vH P q i cx=true→jh (mV tt q (ou P cx)) xs ys=some r→
 (∀(j:Nat) v x,vs[i+j]? = some v→xs[j]? = some x→df M v x)→(∀(j:Nat) v x,us[i+j]? = some v→ys[j]? = some x→df M v x)→i+xs.length≤vs.length→i+ys.length≤us.length→
 (Op.eqFields (d+q+1) ⟨vs⟩ ⟨us⟩ cx).run P w = .ok r w:=by
 intro q;induction q with
 |zero=>
  intro d cx;induction cx with
  |nil=>intro i xs ys vs us r _ he _ _ _ _;cases xs<;>cases ys<;>simp [mV,ou,jh]at he;subst he;simp [Op.eqFields]
  |cons f cx aG=>
   intro i xs ys vs us r aY he av hu fZ vM;simp only [vH,yq,Bool.and_eq_true,Nat.beq_eq,Bool.not_eq_true',decide_eq_false_iff_not]at aY;obtain⟨⟨ud,jQ⟩,gX⟩:=aY
   have yE:(∀gs,P.underlying f.type≠some (.struct gs))∧vH P 0 (i+1) cx=true∧(isAgg f.type).run P w = .ok false w:=by
    simp only [isAgg,Sem.run_bind];split at gX
    ·rename_i k hk;refine⟨λgs h=>(by rw [hk]at h;cases h),gX,?_⟩;rw [Go.run_underlying hk];rfl
    ·rename_i hk;refine⟨λgs h=>(by rw [hk]at h;cases h),gX,?_⟩;rw [Go.run_underlying hk];rfl
    ·rename_i hk;refine⟨λgs h=>(by rw [hk]at h;cases h),gX,?_⟩;rw [Go.run_underlying hk];rfl
    ·simp at gX
    ·cases gX
   exact WA cz ud jQ yE.2.2 (by rw [G4,Wz cz yE.1]at he;exact he) av hu fZ vM λq' CM CN p3 o7 Oh Z ab=>aG yE.2.1 p3 o7 Oh Z ab
 |succ q af2=>
  intro d cx;induction cx with
  |nil=>intro i xs ys vs us r _ he _ _ _ _;cases xs<;>cases ys<;>simp [mV,ou,jh]at he;subst he;simp [Op.eqFields]
  |cons f cx aG=>
   intro i xs ys vs us r aY he av hu fZ vM;have CO:=aY;simp only [vH,yq,Bool.and_eq_true,Nat.beq_eq,Bool.not_eq_true',decide_eq_false_iff_not]at aY;obtain⟨⟨ud,jQ⟩,gX⟩:=aY;by_cases dy:∃gs,P.underlying f.type=some (.struct gs)
   ·obtain⟨gs,yF⟩:=dy;rw [yF]at gX;simp only [Bool.and_eq_true,Bool.not_eq_true',Nat.beq_eq]at gX;obtain⟨⟨⟨af3,af4⟩,af5⟩,WC⟩:=gX;rw [G4]at he;obtain⟨r1,r2,e1,e2,e3,hN,kh,vY⟩:=G3 he
    have kC:∃aS,look tt f.type=some aS:=by
     cases aa:look tt f.type with
     |none=>have:=vY none (by simp [uc,aa]);cases this
     |some aS=>exact⟨aS,rfl⟩
    obtain⟨aS,G6⟩:=kC;obtain⟨row⟩:=eK cz G6;have hk:=Wx row yF
    have vU:uc tt f.type (q+1)=mV tt q (ou P gs.toList):=by
     obtain⟨k,s,b,z,kZ⟩:=aS;simp only at hk
     subst hk;simp only [uc,G6]
    rw [vU]at e1 e2 hN kh vY;have hn:=Og cz q gs.toList vY;rw [hn,←af4]at e1 e2 hN kh;generalize aI:P.cellsOf f.type=n at e1 e2 hN kh
    obtain⟨info,GP⟩:=info_of_underlying yF
    have G5:∀zs:List Value,(part f.type ⟨zs⟩ f.offset).run P w = .ok (.agg ⟨(zs.drop i).take n⟩) w:=by
     intro zs
     have:(⟨zs⟩:Array Value).extract i (i+n)=⟨(zs.drop i).take n⟩:=by
      apply Array.ext';rw [Array.toList_extract];simp [List.extract]
     simp only [part,isAgg,Sem.run_bind,run_underlying yF,run_sizeOf w GP,Result.andThen_ok,Sem.run_pure,ud,aI];simp [this,run_sizeOf w GP,aI]
    have mX:∀{zs:List Value} {cs:List V},(∀(j:Nat) v x,zs[i+j]? = some v→cs[j]? = some x→df M v x)→∀(j:Nat) v x,((zs.drop i).take n)[0+j]? = some v→(cs.take n)[j]? = some x→df M v x:=by
     intro zs cs h j v x Z ab;rw [Nat.zero_add,List.getElem?_take]at Z;rw [List.getElem?_take]at ab;split at Z
     ·rename_i hj;rw [if_pos hj]at ab;rw [List.getElem?_drop]at Z;exact h j v x Z ab
     ·cases Z
    have tX:P.fieldsOf f.type=gs:=by simp [Program.fieldsOf,yF]
    have hin:(Op.equalIn (d+(q+1)+1) f.type (.agg ⟨(vs.drop i).take n⟩) (.agg ⟨(us.drop i).take n⟩)).run P w = .ok r1 w:=by
     rw [run_equalIn_agg w (d+(q+1)) f.type _ _ (by rw [tX];exact yF) af3,tX]
     exact af2 (d:=d) (i:=0) af5 e1 (mX av) (mX hu) (by simp;omega) (by simp;omega)
    have WD:∀{zs:List Value} {cs:List V},(∀(j:Nat) v x,zs[i+j]? = some v→cs[j]? = some x→df M v x)→∀(j:Nat) v x,zs[i+n+j]? = some v→(cs.drop n)[j]? = some x→df M v x:=by
     intro zs cs h j v x Z ab;rw [List.getElem?_drop]at ab;exact h (n+j) v x (by rw [←Nat.add_assoc];exact Z) ab
    rw [aI]at WC;have iV:=aG (i:=i+n) WC e2 (WD av) (WD hu) (by simp;omega) (by simp;omega)
    simp only [Op.eqFields];rw [if_pos jQ];simp only [Sem.run_bind,G5,Result.andThen_ok,hin];cases r1
    ·simp [←e3]
    ·simp [←e3,iV]
   ·have yE:vH P (q+1) (i+1) cx=true∧(isAgg f.type).run P w = .ok false w:=by
     simp only [isAgg,Sem.run_bind];split at gX
     ·rename_i k hk;refine⟨gX,?_⟩;rw [Go.run_underlying hk];rfl
     ·rename_i hk;refine⟨gX,?_⟩;rw [Go.run_underlying hk];rfl
     ·rename_i hk;refine⟨gX,?_⟩;rw [Go.run_underlying hk];rfl
     ·rename_i gs hk;exact absurd ⟨gs,hk⟩ dy
     ·cases gX
    exact WA cz ud jQ yE.2 (by rw [G4,Wz cz (λgs h=>dy ⟨gs,h⟩)]at he;exact he) av hu fZ vM λq' CM CN p3 o7 Oh Z ab=>aG yE.1 p3 o7 Oh Z ab
def WE(cz:fD P tt=true){t:TypeId}{cx:List (Nat×TypeId×Nat)}{fW kz:Nat}{z:List V}{kZ:List (Nat×TypeId)}(aa:look tt t=some {k:=.cb cx,size:=fW,bytes:=kz,zero:=z,jK:=kZ})(he:Nw P t=true){xs ys:List V}{r:Bool}(ai:jh (mV tt 4 cx) xs ys=some r)
 {hW sG:Value} (av:df M hW (.agg xs)) (hu:df M sG (.agg ys)):∃vs us,hW = .agg ⟨vs⟩∧sG = .agg ⟨us⟩∧(Op.equalIn 10000 t (.agg ⟨vs⟩) (.agg ⟨us⟩)).run P w = .ok r w∧∀op a b,(eqGuard op t a b (.agg ⟨vs⟩) (.agg ⟨us⟩)).run P w = .ok () w:=by
 obtain⟨row⟩:=eK cz aa;cases av with
 |agg vs _ hn Z gM=>
  cases hu with
  |agg us _ GH lw af6=>
   refine⟨vs,us,rfl,rfl,?_⟩
   unfold Nw at he;split at he
   case h_2=>cases he
   rename_i CL rb;simp only [Bool.and_eq_true,Bool.not_eq_true']at he;obtain⟨⟨ab,aj⟩,aC⟩:=he;have CO:P.fieldsOf t=CL:=by simp [Program.fieldsOf,rb]
   have Oi:row.desc = .struct CL:=Option.some.inj (row.hd.symm.trans rb)
   have lZ:cx=CL.toList.map λf=>(f.offset,f.type,P.cellsOf f.type):=by
    have:=row.hk
    rw [Oi]at this;simp [ly]at this;exact this.symm
   refine⟨?_,λop a b=>run_eqGuard_agg w op t a b _ _ aj⟩
   rw [run_equalIn_agg w 9999 t _ _ (by rw [CO];exact rb) ab,CO]
   refine af1 cz 4 (d:=9994) (i:=0) (xs:=xs) (ys:=ys) aC (by rw [lZ]at ai;exact ai) (λj v x aT bP=>gM j v x (by simpa using aT) bP) (λj v x aT bP=>af6 j v x (by simpa using aT) bP) (by omega) (by omega)
def af7(h:Hyp P K N M β g tmps w p tt){op:BinOp}{t t2:TypeId}{x y:Operand}(aw:o.op = .binOp op t x y t2)(hs:step1 (jP P) tt ops g p o=some (.go f))(cp:∀q,q∈f.a6→q):Yields P K M β g f o tmps w:=by
 simp only [step1,aw]at hs;split at hs
 case h_3=>cases hs
 case h_1=>
  rename_i xs ys ha hb;have p5:=om (ei (ds:=[]) h.bA h.dW ha);have o_:=om (ei (ds:=[]) h.bA h.dW hb);split at hs
  case h_2=>cases hs
  rename_i cx fW kz z _ aa;rw [Bool.cond_eq_ite]at hs;split at hs
  case isFalse=>cases hs
  rename_i he;split at hs
  ·rename_i r ai;cases hs;obtain⟨vs,us,e1,e2,Z,ab⟩:=WE (w:=w) (M:=M) h.tt aa he ai p5 o_;exact fb h.bA (sF aw e1 e2 (ab _ _ _) (by rw [run_eql_struct,Z];rfl)) (.v _ _ (.bool _))
  ·rename_i r ai;cases hs;obtain⟨vs,us,e1,e2,Z,ab⟩:=WE (w:=w) (M:=M) h.tt aa he ai p5 o_;exact fb h.bA (sF aw e1 e2 (ab _ _ _) (by rw [run_neq_struct,Z];rfl)) (.v _ _ (.bool _))
  ·cases hs
 rename_i a b ha hb;simp only [Option.map_eq_some_iff]at hs;obtain⟨⟨z,a6⟩,dx,hs⟩:=hs;cases hs;have p5:=ei (ds:=[]) h.bA h.dW ha;have o_:=ei (ds:=[]) h.bA h.dW hb;unfold Vw at dx;split at dx
 ·rename_i cC m al n;have e1:=mm p5;have e2:=mm o_;split at dx
  ·rename_i z0 hsh;cases dx;obtain⟨v,av,ai⟩:=afD (P:=P) (w:=w) (M:=M) (k':=al) hsh cp t;exact fb h.bA (sF aw e1 e2 (yD (by simp) (by simp)) av) (.v _ _ ai)
  rw [Bool.cond_eq_ite]at dx;split at dx
  case isFalse=>cases dx
  rename_i hk;simp only [decide_eq_true_eq]at hk;subst hk;obtain⟨v,av,ai⟩:=afC (P:=P) (w:=w) (M:=M) dx cp t;exact fb h.bA (sF aw e1 e2 (yD (by simp) (by simp)) av) (.v _ _ ai)
 ·have e1:=mZ p5;have e2:=mZ o_;obtain⟨v,av,ai⟩:=afE (P:=P) (w:=w) (M:=M) dx cp t;exact fb h.bA (sF aw e1 e2 (yD (by simp) (by simp)) av) (.v _ _ ai)
 ·rename_i c6 jl;have e1:=vI p5;have e2:=vI o_;obtain⟨dep,hm⟩:∃d,Op.maxDepth=d+1:=⟨9999,rfl⟩;cases aa:look tt t with
  |none=>rw [aa]at dx;simp at dx
  |some aS=>
   rw [aa]at dx;obtain⟨r⟩:=eK h.tt aa;split at dx<;>cases dx
   ·rename_i hk;simp at hk
    refine fb h.bA (v:=.bool (c6 == jl)) (sF aw e1 e2 (yD (by simp) (by simp)) ?_) (.v _ _ (.bool _))
    simp only [binOp,Sem.run_bind];rw [Op.equal,hm,Op.equalIn];simp [r.run_underlying,Od r hk]
   ·rename_i hk;simp at hk
    refine fb h.bA (v:=.bool (!(c6 == jl))) (sF aw e1 e2 (yD (by simp) (by simp)) ?_) (.v _ _ (.bool _))
    simp only [binOp,Sem.run_bind];rw [Op.equal,hm,Op.equalIn];simp [r.run_underlying,Od r hk]
 ·cases aa:look tt t with
  |none=>rw [aa]at dx;simp at dx
  |some aS=>
   rw [aa]at dx;simp only [Option.map_some]at dx;obtain⟨r⟩:=eK h.tt aa;rw [Bool.cond_eq_ite]at dx;split at dx
   case isFalse=>cases dx
   rename_i hc;simp only [Bool.and_eq_true]at hc
   have WF:(eqGuard op t x y ((⟨tmps,[]⟩:Act).eval x) ((⟨tmps,[]⟩:Act).eval y)).run P w = .ok () w:=by
    refine yD ?_ (λ_ _=>hc.2)
    rintro cs ds ⟨_,bY⟩
    rw [bY]at o_;have Oj:=hc.1;unfold Gx at Oj;split at Oj<;>first|(cases om o_;done)|(cases Oj;done)
   split at dx<;>cases dx
   ·rename_i res hn;obtain⟨Z,ab⟩:=Wu (w:=w) r p5 o_ hc.1 hn;refine fb h.bA (v:=.bool res) (sF aw rfl rfl WF ?_) (.v _ _ (.bool _));rw [ab .eql];simp [Z]
   ·rename_i res hn;obtain⟨Z,ab⟩:=Wu (w:=w) r p5 o_ hc.1 hn;refine fb h.bA (v:=.bool (!res)) (sF aw rfl rfl WF ?_) (.v _ _ (.bool _));rw [ab .neq];simp [Z]
def af8(h:Hyp P K N M β g tmps w p tt){s:TypeId}{x:Operand}{i:Nat}(aw:o.op = .fieldAddr s x i)(hs:step1 cf tt ops g p o=some (.go f)):Yields P K M β g f o tmps w:=by
 simp only [step1,aw]at hs;split at hs
 ·rename_i q off cx fW kz z _ hd aa;obtain⟨r⟩:=eK h.tt aa;split at hs
  case h_2=>cases hs
  rename_i dM h8 yG aY;rw [Bool.cond_eq_ite]at hs;split at hs
  case isFalse=>cases hs
  rename_i hc;cases hs;obtain⟨b,hb,av⟩:=sw (ei (ds:=[]) h.bA h.dW hd);refine fb h.bA (v:=.pointer (some ⟨b,off+dM,none⟩)) ?_ (.ptr _ _ _ hb);simp only [execOp,aw,av];exact jB _ (VO r rfl aY (by simpa using hc) b off)
 ·rename_i cs cx fW kz z _ hd aa;obtain⟨r⟩:=eK h.tt aa;split at hs
  case h_2=>cases hs
  rename_i dM h8 yG aY;split at hs
  case h_2=>cases hs
  rename_i yv G7;rw [Bool.cond_eq_ite]at hs;split at hs
  case isFalse=>cases hs
  rename_i hc;simp only [Bool.and_eq_true,Nat.ble_eq]at hc;obtain⟨b,off,val,av,cV,Z,ai⟩:=GK (ei (ds:=[]) h.bA h.dW hd)
  have fg:(execOp (Act.eval ⟨tmps,[]⟩) o).run P w = .ok (.value (.pointer (some ⟨b,off+dM,none⟩))) w:=by
   simp only [execOp,aw,av];exact jB _ (VO r rfl aY hc.1 b off)
  simp only [V.cells]at cV Z ai;rw [Bool.cond_eq_ite]at hs;split at hs
  ·cases hs;have hlen:((cs.drop dM).take yG).length=yG:=by simp;omega
   refine fb h.bA fg (.e7 b (off+dM) _ (λj=>val (dM+j)) (λj hj=>?_) (λj hj=>?_) (λj c hj=>?_))
   ·simp only [V.cells,hlen]at hj;rw [Nat.add_assoc];exact cV _ (by omega)
   ·simp only [V.cells,hlen]at hj;exact Z _ (by omega)
   ·simp only [V.cells]at hj;rw [List.getElem?_take]at hj;split at hj
    ·rw [List.getElem?_drop]at hj;exact ai _ c hj
    ·cases hj
  ·rw [Bool.cond_eq_ite]at hs;split at hs
   case isFalse=>cases hs
   rename_i ev;split at hs
   case h_2=>cases hs
   rename_i c k0;rw [Bool.cond_eq_ite]at hs;split at hs
   ·cases hs
   ·rename_i af9;cases hs;have l2:=yu (x:=c) (by simpa using af9)
    refine fb h.bA fg (.e7 b (off+dM) c (λj=>val (dM+j)) (λj hj=>?_) (λj hj=>?_) (λj ml hj=>?_))
    ·rw [l2]at hj;rw [Nat.add_assoc];exact cV _ (by have:=(List.getElem?_eq_some_iff.1 k0).1;simp at hj;omega)
    ·rw [l2]at hj;exact Z _ (by have:=(List.getElem?_eq_some_iff.1 k0).1;simp at hj;omega)
    ·rw [l2]at hj;cases j with
     |zero=>simp at hj;subst hj;exact ai _ _ k0
     |succ j=>simp at hj
 ·cases hs
def af'(h:Hyp P K N M β g tmps w p tt){s:TypeId}{x:Operand}{i:Nat}(aw:o.op = .field s x i)(hs:step1 cf tt ops g p o=some (.go f)):Yields P K M β g f o tmps w:=by
 simp only [step1,aw]at hs;split at hs
 case h_3=>cases hs
 case h_2=>
  rename_i cs cx fW kz z _ hd aa;obtain⟨r⟩:=eK h.tt aa;split at hs
  case h_2=>cases hs
  rename_i dM h8 yG aY;split at hs
  case h_2=>cases hs
  rename_i yv c G7 k0;obtain⟨Ok⟩:=eK h.tt G7;rw [Bool.cond_eq_ite]at hs;split at hs
  ·cases hs
  rename_i hc;simp only [Bool.or_eq_true,not_or,Bool.not_eq_true,Bool.not_eq_true',Bool.not_eq_false,Nat.beq_eq]at hc;cases hs;have l6:=ei (ds:=[]) h.bA h.dW hd;generalize v':(⟨tmps,[]⟩:Act).eval x=hW at l6
  cases l6 with
  |agg vs _ hn Z ai=>
   have cZ:dM<cs.length:=(List.getElem?_eq_some_iff.1 k0).1;have fa:vs[dM]? = some vs[dM]:=List.getElem?_eq_getElem (by omega)
   obtain⟨ha,hb⟩:=VP (w:=w) r rfl aY Ok vs (by omega)
   refine fb h.bA (v:=vs[dM]) ?_ (ai _ _ c fa k0);simp only [execOp,aw,v'];exact jB _ (hb hc.1.1 _ fa)
 rename_i cs cx fW kz z _ hd aa;obtain⟨r⟩:=eK h.tt aa;split at hs
 case h_2=>cases hs
 rename_i dM h8 yG aY;split at hs
 case h_2=>cases hs
 rename_i yv G7;obtain⟨Ok⟩:=eK h.tt G7;rw [Bool.cond_eq_ite]at hs;split at hs
 case isFalse=>cases hs
 rename_i hc;simp only [Nat.ble_eq]at hc;obtain⟨vs,av,hlen,Z,ai⟩:=aeN (ei (ds:=[]) h.bA h.dW hd);obtain⟨ha,hb⟩:=VP (w:=w) r rfl aY Ok vs (by omega)
 rw [Bool.cond_eq_ite]at hs;split at hs
 ·rename_i jO;cases hs;refine fb h.bA (v:=.agg ⟨(vs.drop dM).take yG⟩) ?_ (.v _ _ (.agg _ _ (by simp;omega) (λv av=>Z v (List.mem_of_mem_drop (List.mem_of_mem_take av))) (λj v c av ke=>?_)))
  ·simp only [execOp,aw,av];exact jB _ (ha jO)
  ·rw [List.getElem?_take]at av ke;split at av
   ·rename_i hj;rw [if_pos hj,List.getElem?_drop]at ke;rw [List.getElem?_drop]at av;exact ai _ v c av ke
   ·cases av
 ·rename_i jO;split at hs
  case h_2=>cases hs
  rename_i c k0;cases hs;have cZ:dM<cs.length:=(List.getElem?_eq_some_iff.1 k0).1;have fa:vs[dM]? = some vs[dM]:=List.getElem?_eq_getElem (by omega)
  refine fb h.bA (v:=vs[dM]) ?_ (.v _ _ (ai _ _ c fa k0));simp only [execOp,aw,av];exact jB _ (hb (by simpa using jO) _ fa)
def af_{x y:V}(av:hD x y){k b off:Nat}{val:Nat→Value}(hk:x.cells.length=k)(cV:∀q,q<k→M b (off+q)=some (val q))(Z:∀q,q<k→(val q).oneCell'=true)
 (ai:∀(q:Nat) c,x.cells[q]? = some c→df M (val q) c):cy M β (.pointer (some ⟨b,off,none⟩)) (.e7 y):=by
 subst hk;have cg:=av M _ (VM Z ai);cases hx:x.isAgg with
 |true=>
  rw [hx]at cg;simp only [cond_true]at cg;cases cg with
  |agg vs cs hn lw ge=>
   have hlen:cs.length=x.cells.length:=by simpa using hn.symm
   refine .e7 b off _ val (λj hj=>cV j (by simp only [V.cells]at hj;omega)) (λj hj=>Z j (by simp only [V.cells]at hj;omega)) (λj c hj=>?_)
   simp only [V.cells]at hj;have vV:j<x.cells.length:=by have:=(List.getElem?_eq_some_iff.1 hj).1;omega
   exact ge j (val j) c (by simp [vV]) hj
  |any _ lw=>simp [Value.oneCell']at lw
 |false=>
  rw [hx]at cg;simp only [cond_false]at cg;have yH:=yu hx;have ji:=Z 0 (by rw [yH];simp)
  have aga:y.isAgg=false:=by
   cases y<;>first|rfl|skip
   exfalso
   generalize val 0=u at cg ji
   cases cg;simp [Value.oneCell']at ji
  have Ol:=yu aga;refine .e7 b off y val (λj hj=>cV j (by rw [yH];rw [Ol]at hj;exact hj)) (λj hj=>Z j (by rw [yH];rw [Ol]at hj;exact hj)) (λj c hj=>?_)
  rw [Ol]at hj;cases j with
  |zero=>simp at hj;subst hj;exact cg
  |succ j=>simp at hj
def agb(h:Hyp P K N M β g tmps w p tt){t:TypeId}{x i:Operand}(aw:o.op = .indexAddr t x i)(hs:step1 cf tt ops g p o=some (.go f))(cp:∀q,q∈f.a6→q):Yields P K M β g f o tmps w:=by
 simp only [step1,aw]at hs;split at hs
 case h_2=>cases hs
 rename_i k n get kk j e fW kz z _ hx hi aa;obtain⟨r⟩:=eK h.tt aa;split at hs
 case h_2=>cases hs
 rename_i al size Wv z2 eT;obtain⟨dQ⟩:=eK h.tt eT;rw [Bool.cond_eq_ite]at hs;split at hs
 case isFalse=>cases hs
 rename_i hc;simp only [Bool.and_eq_true,Nat.beq_eq,Nat.ble_eq]at hc;obtain⟨rfl,G8⟩:=hc
 have v_:∃(y:V) (rs:List fv) (a6:List Prop),f={e:=some {d:=.e7 y},rs,a6}∧hD (get j.toNat) y∧aL j n=true:=by
  split at hs
  ·rename_i y rs eY;cases hs;exact⟨_,_,_,rfl,cp _ (by simp),cp (aL j n=true) (by simp)⟩
  ·cases hs;exact⟨_,_,_,rfl,λ_ _ h=>h,cp (aL j n=true) (by simp)⟩
  ·cases hs
 obtain⟨y,rs,a6,rfl,dc,fC⟩:=v_;have fC:=Wq fC;have Om:=mm (ei (ds:=[]) h.bA h.dW hi);rcases tT (ei (ds:=[]) h.bA h.dW hx) with⟨_,kg⟩|⟨b,off,cap,val,av,_,hk,cV,Z,ai⟩
 ·omega
 ·have cZ:j.toNat<n:=by omega
  have cg:cy M β (.pointer (some ⟨b,off+j.toNat*k,none⟩)) (.e7 y):=
   af_ dc (hk _ cZ) (λq ao=>cV _ q cZ ao) (λq ao=>Z _ q cZ ao) (λq c ao=>ai _ q c cZ ao)
  refine fb h.bA (v:=.pointer (some ⟨b,off+j.toNat*k,none⟩)) ?_ cg;simp only [execOp,aw,av,Om];exact jB _ (aeR r rfl dQ fC.1 fC.2)
def agc(h:Hyp P K N M β g tmps w p tt){t:TypeId}{x i:Operand}(aw:o.op = .index t x i)(hs:step1 cf tt ops g p o=some (.go f))(cp:∀q,q∈f.a6→q):Yields P K M β g f o tmps w:=by
 simp only [step1,aw]at hs;split at hs
 case h_2=>cases hs
 rename_i l kk j fW kz z _ hx hi aa;obtain⟨r⟩:=eK h.tt aa;cases hs;have hb:=Wq (cp (aL j l.length=true) (by simp))
 have ex:=mZ (ei (ds:=[]) h.bA h.dW hx);have Om:=mm (ei (ds:=[]) h.bA h.dW hi);refine fb h.bA (v:=.int .u8 (l.getD j.toNat 0).toNat) ?_ (.v _ _ (.int _ _));simp only [execOp,aw,ex,Om];exact jB _ (aeS r rfl hb.1 hb.2)
def agd{k n m:Nat}{get:Nat→V}{a:Nat}{b off cap:Nat}
 {val:Nat→Nat→Value} (hk:∀i,i<n→(get i).cells.length=k) (cV:∀i j,i<n→j<k→M b (off+i*k+j)=some (val i j)) (Z:∀i j,i<n→j<k→(val i j).oneCell'=true)
 (ai:∀(i j:Nat) c,i<n→(get i).cells[j]? = some c→df M (val i j) c) (hm:a+m≤n) (hc:m≤cap):
 df M (.slice (some ⟨b,off+a*k,none⟩) m cap) (.bI k m λi=>get (a+i)):=by
 refine .bI b (off+a*k) k m cap _ (λi j=>val (a+i) j) hc (λi hi=>hk _ (by omega)) (λi j hi hj=>?_) (λi j hi hj=>Z _ _ (by omega) hj) (λi j c hi l2=>ai _ _ _ (by omega) l2)
 have:=cV (a+i) j (by omega) hj
 rw [Nat.add_mul]at this
 rwa [show off+a*k+i*k+j=off+(a*k+i*k)+j by omega]
def G9{t e:TypeId}{aS ci:eP}(r:Row P t aS)(hk:aS.k = .bI e)(dQ:Row P e ci){base:Option Addr}{n cap:Nat}{lo hi:Option Value}{a b:Nat}
 (ki:lo=none∧a=0∨∃k,lo=some (.int k a)) (jC:hi=none∧b=n∨∃k,hi=some (.int k b)) (m7:a≤b) (rc:b≤n) (m8:n≤cap):
 (Instr.sliceAt t (.slice base n cap) lo hi none).run P w = .ok (.slice (if cap=a then base else base.map (·.add (a*ci.size))) (b-a) (cap-a)) w:=by
 have hu:=r.run_underlying w;rw [p1 r hk]at hu;have G':b≤cap:=by omega
 rcases ki with⟨rfl,rfl⟩|⟨cC,rfl⟩<;>rcases jC with⟨rfl,rfl⟩|⟨al,rfl⟩
 ·simp [Instr.sliceAt,hu,Instr.slice,Instr.sliceBounds,dQ.run_sizeOf]
 ·simp [Instr.sliceAt,hu,Instr.slice,Instr.sliceBounds,Instr.sliceBound,asIntOf,dQ.run_sizeOf,G']
 ·simp [Instr.sliceAt,hu,Instr.slice,Instr.sliceBounds,Instr.sliceBound,asIntOf,dQ.run_sizeOf,m7]
 ·simp [Instr.sliceAt,hu,Instr.slice,Instr.sliceBounds,Instr.sliceBound,asIntOf,dQ.run_sizeOf,G',m7]
end
section
variable {P:Program} {K:Ctx} {N:Nat} {M:Mem} {β:Nat→Option Nat} {st:aM} {g:dm} {tmps:Array Value} {w:World} {o:Oper} {f:lp} {p:Path} {tt:dI} {cf:gE} {ops:List Oper}
def sH{t:TypeId}{x:Operand}{lo hi kc:Option Operand}(aw:o.op = .slice t x lo hi kc){v u:Value}(hx:(⟨tmps,[]⟩:Act).eval x=v){a b:Option Value}(ha:lo.map (⟨tmps,[]⟩:Act).eval=a)(hb:hi.map (⟨tmps,[]⟩:Act).eval=b){c:Option Value}(hm:kc.map (⟨tmps,[]⟩:Act).eval=c)
 (h:(Instr.sliceAt t v a b c).run P w = .ok u w):(execOp (Act.eval ⟨tmps,[]⟩) o).run P w = .ok (.value u) w:=by
 simp only [execOp,aw,hx,ha,hb,hm];exact jB _ h
def G_{t:TypeId}{aS:eP}(r:Row P t aS)(hk:aS.k = .str){l:aux}{lo hi:Option Value}{a b:Nat}
 (ki:lo=none∧a=0∨∃k,lo=some (.int k a)) (jC:hi=none∧b=l.length∨∃k,hi=some (.int k b)) (m7:a≤b) (rc:b≤l.length):
 (Instr.sliceAt t (.string ⟨⟨l⟩⟩) lo hi none).run P w = .ok (.string ⟨⟨(l.take b).drop a⟩⟩) w:=by
 have hu:=r.run_underlying w;rw [q4 r hk]at hu;have hs:(⟨⟨l⟩⟩:ByteArray).size=l.length:=rfl
 have hx:(⟨⟨l⟩⟩:ByteArray).extract a b=⟨⟨(l.take b).drop a⟩⟩:=by
  have:=ByteArray.extract_mk l a b
  rw [List.drop_take];exact this
 rcases ki with⟨rfl,rfl⟩|⟨cC,rfl⟩<;>rcases jC with⟨rfl,rfl⟩|⟨al,rfl⟩
 ·simp [Instr.sliceAt,hu,Instr.slice,Instr.sliceBounds]
 ·simp [Instr.sliceAt,hu,Instr.slice,Instr.sliceBounds,Instr.sliceBound,asIntOf,rc,hs,hx]
 ·simp [Instr.sliceAt,hu,Instr.slice,Instr.sliceBounds,Instr.sliceBound,asIntOf,m7,hs,hx]
 ·simp [Instr.sliceAt,hu,Instr.slice,Instr.sliceBounds,Instr.sliceBound,asIntOf,rc,m7,hs,hx]
def CP{v:Value}{k n:Nat}{get:Nat→V}(av:cy M β v (.v (.bI k n get))){a b:Nat}(m7:a≤b)(rc:b≤n){base:Option Addr}{cap:Nat}(wa:v = .slice base n cap)(m8:n≤cap):
 df M (.slice (if cap=a then base else base.map (·.add (a*k))) (b-a) (cap-a)) (.bI k (b-a) λi=>get (a+i)):=by
 rcases tT av with⟨Z|⟨a0,Z⟩,ab⟩|⟨o8,off,We,val,Z,hc,hk,cV,lw,ai⟩
 ·rw [wa]at Z;cases Z;have:b=0:=by omega
  subst this;have:a=0:=by omega
  subst this;exact .mh _ _
 ·rw [wa]at Z;cases Z;have:b=0:=by omega
  subst this;have:a=0:=by omega
  subst this;exact .pS _ _ _
 ·rw [wa]at Z;cases Z;by_cases WG:cap=a
  ·rw [if_pos WG];have:b-a=0:=by omega
   rw [this];exact .bI o8 off k 0 _ _ (λ_ _=>undef) (Nat.zero_le _) (by simp) (by simp) (by simp) (by simp)
  ·rw [if_neg WG];simp only [Option.map_some,addr_add];exact agd hk cV lw ai (by omega) (by omega)
def age(h:Hyp P K N M β g tmps w p tt){t:TypeId}{x:Operand}{lo hi kc:Option Operand}(aw:o.op = .slice t x lo hi kc)(hs:step1 cf tt ops g p o=some (.go f))(cp:∀q,q∈f.a6→q):Yields P K M β g f o tmps w:=by
 have fN:∀{y:Option Operand} {kk:IntKind} {n:Int},y.map (λy=>rd g.env g.b6 p tt o.type y)=some (some (.v (.int kk n)))→y.map (⟨tmps,[]⟩:Act).eval=some (.int kk n):=by
  intro y kk n cg;cases y with
  |none=>simp at cg
  |some y=>
   simp at cg
   simp [mm (ei (ds:=[]) h.bA h.dW cg)]
 have ue:∀{y:Option Operand},y.map (λy=>rd g.env g.b6 p tt o.type y)=none→y.map (⟨tmps,[]⟩:Act).eval=none:=by
  intro y cg;simp at cg;simp [cg]
 simp only [step1,aw]at hs;split at hs
 ·rename_i fW kz z _ aa;obtain⟨r⟩:=eK h.tt aa;split at hs
  ·rename_i l hx ki jC;cases hs;have ex:=mZ (ei (ds:=[]) h.bA h.dW hx);have:=G_ (w:=w) r rfl (l:=l) (lo:=none) (hi:=none) (a:=0) (b:=l.length) (.inl ⟨rfl,rfl⟩) (.inl ⟨rfl,rfl⟩) (by omega) (by omega)
   simp at this
   exact fb h.bA (sH aw ex (ue ki) (ue jC) rfl this) (.v _ _ (.str _))
  ·rename_i l cC a hx ki jC;cases hs;have ex:=mZ (ei (ds:=[]) h.bA h.dW hx);have hb:=v8 (cp (ho a l.length=true) (by simp))
   obtain⟨eb,rfl⟩:=Int.eq_ofNat_of_zero_le hb.1;have:=G_ (w:=w) r rfl (l:=l) (lo:=some (.int cC eb)) (hi:=none) (a:=eb) (b:=l.length) (.inr ⟨_,rfl⟩) (.inl ⟨rfl,rfl⟩) (by omega) (by omega)
   simp at this
   exact fb h.bA (sH aw ex (fN ki) (ue jC) rfl this) (.v _ _ (.str _))
  ·rename_i l al b hx ki jC;cases hs;have ex:=mZ (ei (ds:=[]) h.bA h.dW hx);have hb:=v8 (cp (ho b l.length=true) (by simp))
   obtain⟨bH,rfl⟩:=Int.eq_ofNat_of_zero_le hb.1;have:=G_ (w:=w) r rfl (l:=l) (lo:=none) (hi:=some (.int al bH)) (a:=0) (b:=bH) (.inl ⟨rfl,rfl⟩) (.inr ⟨_,rfl⟩) (by omega) (by omega)
   simp at this
   exact fb h.bA (sH aw ex (ue ki) (fN jC) rfl this) (.v _ _ (.str _))
  ·rename_i l cC a al b hx ki jC;cases hs;have ex:=mZ (ei (ds:=[]) h.bA h.dW hx);have hb:=Wr (cp (lW a b l.length=true) (by simp))
   obtain⟨eb,rfl⟩:=Int.eq_ofNat_of_zero_le hb.1;obtain⟨bH,rfl⟩:=Int.eq_ofNat_of_zero_le (a:=b) (by omega)
   have:=G_ (w:=w) r rfl (l:=l) (lo:=some (.int cC eb)) (hi:=some (.int al bH)) (a:=eb) (b:=bH) (.inr ⟨_,rfl⟩) (.inr ⟨_,rfl⟩) (by omega) (by omega)
   exact fb h.bA (sH aw ex (fN ki) (fN jC) rfl this) (.v _ _ (.str _))
  ·cases hs
 ·rename_i e fW kz z _ aa;obtain⟨r⟩:=eK h.tt aa;split at hs
  ·rename_i cC size CQ k2 k n get al a eT hx ki jC;obtain⟨dQ⟩:=eK h.tt eT;rw [Bool.cond_eq_ite]at hs;split at hs
   case isFalse=>cases hs
   rename_i ia;simp only [Nat.beq_eq]at ia;subst ia
   have v_:∃(y:V) (rs:List fv) (a6:List Prop),f={e:=some {d:=.v y},rs,a6}∧hD (.bI k (n-a.toNat) λi=>get (a.toNat+i)) y∧ho a n=true:=by
    split at hs
    ·rename_i y rs eY;cases hs;exact⟨_,_,_,rfl,cp _ (by simp),cp (ho a n=true) (by simp)⟩
    ·cases hs;exact⟨_,_,_,rfl,λ_ _ h=>h,cp (ho a n=true) (by simp)⟩
    ·cases hs
   obtain⟨y,rs,a6,rfl,av,hb⟩:=v_;have hb:=v8 hb;obtain⟨eb,rfl⟩:=Int.eq_ofNat_of_zero_le hb.1;have lz:=ei (ds:=[]) h.bA h.dW hx;obtain⟨base,cap,ex,m8⟩:=vJ lz;have:=G9 (w:=w) r rfl dQ (base:=base) (n:=n) (cap:=cap) (lo:=some (.int al eb)) (hi:=none) (a:=eb) (b:=n) (.inr ⟨_,rfl⟩) (.inl ⟨rfl,rfl⟩) (by omega) (by omega) m8
   refine fb h.bA (sH aw ex (fN ki) (ue jC) rfl this) (.v _ _ (av _ _ ?_));have:=CP lz (a:=eb) (b:=n) (by omega) (by omega) ex m8
   simpa using this
  ·rename_i cC size CQ k2 k n get al b eT hx ki jC;obtain⟨dQ⟩:=eK h.tt eT;rw [Bool.cond_eq_ite]at hs;split at hs
   case isFalse=>cases hs
   rename_i ia;simp only [Nat.beq_eq]at ia;subst ia
   have v_:∃(y:V) (rs:List fv) (a6:List Prop),f={e:=some {d:=.v y},rs,a6}∧hD (.bI k b.toNat get) y∧ho b n=true:=by
    split at hs
    ·rename_i y rs eY;cases hs;exact⟨_,_,_,rfl,cp _ (by simp),cp (ho b n=true) (by simp)⟩
    ·cases hs;exact⟨_,_,_,rfl,λ_ _ h=>h,cp (ho b n=true) (by simp)⟩
    ·cases hs
   obtain⟨y,rs,a6,rfl,av,hb⟩:=v_;have hb:=v8 hb;obtain⟨bH,rfl⟩:=Int.eq_ofNat_of_zero_le hb.1;have lz:=ei (ds:=[]) h.bA h.dW hx;obtain⟨base,cap,ex,m8⟩:=vJ lz;have:=G9 (w:=w) r rfl dQ (base:=base) (n:=n) (cap:=cap) (lo:=none) (hi:=some (.int al bH)) (a:=0) (b:=bH) (.inl ⟨rfl,rfl⟩) (.inr ⟨_,rfl⟩) (by omega) (by omega) m8
   refine fb h.bA (sH aw ex (ue ki) (fN jC) rfl this) (.v _ _ (av _ _ ?_));have:=CP lz (a:=0) (b:=bH) (by omega) (by omega) ex m8
   simpa using this
  ·rename_i cC size CQ k2 k n get al a ef b eT hx ki jC;obtain⟨dQ⟩:=eK h.tt eT;rw [Bool.cond_eq_ite]at hs;split at hs
   case isFalse=>cases hs
   rename_i ia;simp only [Nat.beq_eq]at ia;subst ia
   have v_:∃(y:V) (rs:List fv) (a6:List Prop),f={e:=some {d:=.v y},rs,a6}∧hD (.bI k (b.toNat-a.toNat) λi=>get (a.toNat+i)) y∧lW a b n=true:=by
    split at hs
    ·rename_i y rs eY;cases hs;exact⟨_,_,_,rfl,cp _ (by simp),cp (lW a b n=true) (by simp)⟩
    ·cases hs;exact⟨_,_,_,rfl,λ_ _ h=>h,cp (lW a b n=true) (by simp)⟩
    ·cases hs
   obtain⟨y,rs,a6,rfl,av,hb⟩:=v_;have hb:=Wr hb;obtain⟨eb,rfl⟩:=Int.eq_ofNat_of_zero_le hb.1;obtain⟨bH,rfl⟩:=Int.eq_ofNat_of_zero_le (a:=b) (by omega)
   have lz:=ei (ds:=[]) h.bA h.dW hx;obtain⟨base,cap,ex,m8⟩:=vJ lz;have:=G9 (w:=w) r rfl dQ (base:=base) (n:=n) (cap:=cap) (lo:=some (.int al eb)) (hi:=some (.int ef bH)) (a:=eb) (b:=bH) (.inr ⟨_,rfl⟩) (.inr ⟨_,rfl⟩) (by omega) (by omega) m8
   refine fb h.bA (sH aw ex (fN ki) (fN jC) rfl this) (.v _ _ (av _ _ ?_));have:=CP lz (a:=eb) (b:=bH) (by omega) (by omega) ex m8
   simpa using this
  ·rename_i cC size CQ k2 k n get eT hx ki jC;obtain⟨dQ⟩:=eK h.tt eT;rw [Bool.cond_eq_ite]at hs;split at hs
   case isFalse=>cases hs
   rename_i ia;simp only [Nat.beq_eq]at ia;subst ia;cases hs;have lz:=ei (ds:=[]) h.bA h.dW hx;obtain⟨base,cap,ex,m8⟩:=vJ lz;have:=G9 (w:=w) r rfl dQ (base:=base) (n:=n) (cap:=cap) (lo:=none) (hi:=none) (a:=0) (b:=n) (.inl ⟨rfl,rfl⟩) (.inl ⟨rfl,rfl⟩) (by omega) (by omega) m8
   refine fb h.bA (sH aw ex (ue ki) (ue jC) rfl this) (.v _ _ ?_);have:=CP lz (a:=0) (b:=n) (by omega) (by omega) ex m8
   simpa using this
  ·cases hs
 ·rename_i m e fW kz z _ aa;obtain⟨r⟩:=eK h.tt aa;split at hs
  case h_2=>cases hs
  rename_i size CQ k2 k n get al b ef c eT hx jC hm;obtain⟨dQ⟩:=eK h.tt eT;rw [Bool.cond_eq_ite]at hs;split at hs
  case isFalse=>cases hs
  rename_i ia;simp only [Nat.beq_eq]at ia;subst ia;cases hs;have G':=cp (b=c) (by simp)
  subst G';have hb:=v8 (cp (ho b n=true) (by simp))
  obtain⟨bH,rfl⟩:=Int.eq_ofNat_of_zero_le hb.1;have lz:=ei (ds:=[]) h.bA h.dW hx;obtain⟨base,cap,ex,m8⟩:=vJ lz;have rc:bH≤n:=by omega
  have hu:=r.run_underlying w;rw [p1 r rfl]at hu
  have fg:(Instr.sliceAt t (.slice base n cap) none (some (.int al bH)) (some (.int ef bH))).run P w = .ok (.slice (if bH=0 then base else base.map (·.add (0*k))) bH bH) w:=by
   have Z:bH≤cap:=by omega
   simp [Instr.sliceAt,hu,Instr.slice,Instr.sliceBounds,Instr.sliceBound,asIntOf,dQ.run_sizeOf,Z]
  have agf:(if bH=0 then base else base.map (·.add (0*k)))=base:=by
   split
   ·rfl
   ·cases base with
    |none=>rfl
    |some a=>simp [Addr.add]
  rw [agf]at fg;have em:(some m).map (⟨tmps,[]⟩:Act).eval=some (.int ef bH):=fN (y:=some m) hm;refine fb h.bA (sH aw ex rfl (fN jC) em fg) (.full base k _ get ?_);have WH:=CP lz (a:=0) (b:=bH) (by omega) rc ex m8
  simp only [Nat.sub_zero]at WH ⊢;have WI:df M (.slice (if cap=0 then base else base.map (·.add (0*k))) bH cap) (.bI k bH get):=by simpa using WH
  have fC:(if cap=0 then base else base.map (·.add (0*k)))=base:=by
   split
   ·rfl
   ·cases base with
    |none=>rfl
    |some a=>simp [Addr.add]
  rw [fC]at WI;cases WI with
  |mh=>exact .mh _ _
  |pS a=>exact .pS _ _ _
  |bI vz off k n cap get val hc hk cV Z h=>exact .bI vz off k _ _ get val (Nat.le_refl _) hk cV Z h
 ·cases hs
def WJ{c:Call}(aw:o.op = .call c)(hc:c.callee = .builtin .len){a:Operand}(e8:c.args.toList=[a]){t:TypeId}(gX:c.argTypes.toList[0]? = some t){hW v:Value}(ha:(⟨tmps,[]⟩:Act).eval a=hW)
 (h:∀ty,(Builtin.len_ #[t] ty #[hW]).run P w = .ok v w):(execOp (Act.eval ⟨tmps,[]⟩) o).run P w = .ok (.value v) w:=by
 have vP:c.args = #[a]:=by apply Array.ext';simpa using e8
 have NU:∀ty,(Builtin.len_ c.argTypes ty #[hW]).run P w = .ok v w:=by
  intro ty;have h0:c.argTypes[0]? = some t:=by simpa using gX
  have:=h ty
  simp only [Builtin.len_,h0]at this ⊢;exact this
 simp only [execOp,aw,resolve,hc,vP,Sem.run_bind,Sem.run_pure,Result.andThen_ok,invoke,builtin,List.map_toArray,List.map_cons,List.map_nil,ha];simp [NU]
def WK{F:Nat→Option Nat}{l cI:List D}(h:lq F l=some cI):cI.length=l.length:=(yl h).1.symm
def agh {c : Call} (aw : o.op = .call c) {x : Operand} (hc : c.callee = .value x) {fn : FuncId} {vs : List Value} (hx : (⟨tmps, []⟩ : Act).eval x = .func (.func fn) #[] ⟨vs⟩) {fd : Func} (aY : P.funcs[fn]? = some fd) (hb : fd.body.isSome = true) (hn : fd.name ≠ "runtime.NumGoroutine") :
 (execOp (Act.eval ⟨tmps,[]⟩) o).run P w = .ok (.enter fn ⟨c.args.toList.map (⟨tmps,[]⟩:Act).eval++vs⟩) w:=by
 have rc:fd.body≠none:=by intro bn;rw [bn]at hb;cases hb
 simp [execOp,aw,resolve,hc,hx,Deferred.ofValue,invoke,callFunc,aY,rc,hn]
def WL{F:TypeId→Operand→Option D}:∀{xs:List Operand} {ts:List TypeId} {ds:List D},lX F xs ts=some ds→ds.length=xs.length∧∀(i:Nat) x d,xs[i]? = some x→ds[i]? = some d→∃t,F t x=some d
 |[],ts,ds,h=>by simp [lX]at h;subst h;simp
 |x::xs,[],ds,h=>by simp [lX]at h
 |x::xs,t::ts,ds,h=>by
  simp only [lX]at h;split at h
  case h_2=>cases h
  rename_i d agi hd h_;cases h;obtain⟨Z,ab⟩:=WL h_;refine⟨by simp [Z],λi y e cg he=>?_⟩
  cases i with
  |zero=>simp at cg he;subst cg;subst he;exact⟨t,hd⟩
  |succ i=>simp at cg he;exact ab i y e cg he
mutual
def WM{ρ:List Nat}:∀(d:D) {dD:D},eD (idx ρ) d=some dD→eD (λj=>ρ[j]?) dD=some d
 |.v x,dD,h=>by simp [eD]at h;subst h;simp [eD]
 |.ptr r off,dD,h=>by
  simp only [eD,Option.map_eq_some_iff]at h;obtain⟨j,hj,rfl⟩:=h;simp [eD,GU hj]
 |.cu r off u,dD,h=>by
  simp only [eD,Option.map_eq_some_iff]at h;obtain⟨j,hj,rfl⟩:=h;simp [eD,GU hj]
 |.e7 x,dD,h=>by simp [eD]at h;subst h;simp [eD]
 |.full k n get,dD,h=>by simp [eD]at h;subst h;simp [eD]
 |.fn g ff,dD,h=>by
  simp only [eD,Option.map_eq_some_iff]at h;obtain⟨l,aa,rfl⟩:=h;simp [eD,Ha ff aa]
 |.agg cs,dD,h=>by
  simp only [eD,Option.map_eq_some_iff]at h;obtain⟨l,aa,rfl⟩:=h;simp [eD,Ha cs aa]
 |.cA cs,dD,h=>by
  simp only [eD,Option.map_eq_some_iff]at h;obtain⟨l,aa,rfl⟩:=h;simp [eD,Ha cs aa]
def Ha{ρ:List Nat}:∀(l:List D) {cI:List D},lq (idx ρ) l=some cI→lq (λj=>ρ[j]?) cI=some l
 |[],cI,h=>by simp [lq]at h;subst h;simp [lq]
 |d::l,cI,h=>by
  simp only [lq]at h;split at h
  case h_2=>cases h
  rename_i d1 hN hd aa;cases h;simp [lq,WM d hd,Ha l aa]
end
def WN{ρ:List Nat}:∀{b bH:List a7},nr (idx ρ) b=some bH→nr (λj=>ρ[j]?) bH=some b
 |[],bH,h=>by simp [nr]at h;subst h;simp [nr]
 |e::l,bH,h=>by
  simp only [nr]at h;split at h
  case h_2=>cases h
  rename_i e1 hN he aa;cases h;simp only [Gy,Option.map_eq_some_iff]at he;obtain⟨d,hd,rfl⟩:=he;simp [nr,Gy,WM _ hd,WN aa]
def WO{ρ:List Nat}:∀{bs p4:List (List a7)},kb (idx ρ) bs=some p4→kb (λj=>ρ[j]?) p4=some bs
 |[],p4,h=>by simp [kb]at h;subst h;simp [kb]
 |b::l,p4,h=>by
  simp only [kb]at h;split at h
  case h_2=>cases h
  rename_i c6 hN hb aa;cases h;simp [kb,WN hb,WO aa]
def agj{st:aM}(h:bN P K M β st tmps w){ρ:List Nat}{bs H1:List (List a7)}(hn:ns ρ=true)(k1:boxes st.H ρ=some bs)(mp:kb (idx ρ) bs=some H1)
 {os:List Nat} {out:Out} {v:Value} {w':World} {M':Mem} {β':Nat→Option Nat} (jm:bN P (kB M β st tmps w ρ os) M' β' {env:=iy out,H:=cS 0 H1,aW:=ρ.length} #[v] w'):
 M.le M'∧bN P K M' β {st with env:=hE os st.env} tmps w'∧
 (∀d own,out = .ret d own→∀dD,eD (λj=>ρ[j]?) d=some dD→cy M' β v dD∧∀T l0,own=some T→nt P K M' β {st with env:=hE os st.env} tmps w' l0 v T)∧
 (∀x,out = .bf x→df M' v x):=by
 obtain⟨dc,fC⟩:=vT k1;have fm:H1.length=ρ.length:=by rw [(yz mp).1,dc]
 obtain⟨Z,ab,aj,aC⟩:=N9 h hn k1 (WO mp) fm jm
 have kC:∀r,look (lr ρ bs++st.H) r=look st.H r:=by
  intro r;obtain⟨aT,bP⟩:=N2 (H:=st.H) (ρ:=ρ) (bs:=bs) dc hn r;by_cases hj:∃(j:Nat),ρ[j]? = some r
  ·obtain⟨j,hj⟩:=hj;rw [aT j hj,(fC j r hj).1]
  ·exact bP λj bn=>hj ⟨j,bn⟩
 have gl:∀l,({env:=hE os st.env,H:=lr ρ bs++st.H,aW:=st.aW}:aM).at l=({st with env:=hE os st.env}:aM).at l:=by
  intro l;cases l with
  |slot s=>rfl
  |cell r i=>simp only [aM.at,kC]
 refine⟨Z,ab.sub rfl (λl e aa=>⟨e,by rw [gl];exact aa,rfl,λ_ h=>h⟩) (λr cs ai=>⟨cs,by rw [←ai];exact kC r,rfl⟩),λd own hd dD kv=>?_,aC⟩
 obtain⟨aT,bP⟩:=aj d own hd dD kv;refine⟨aT,λT l0 aH=>?_⟩
 obtain⟨cM,dj,en⟩:=bP T l0 aH;exact⟨cM,λl e T' b aa=>dj l e T' b (by rw [gl];exact aa),λb r cs hb ai=>en b r cs hb (by rw [←ai];exact kC r)⟩
def WP(P:Program)(K:Ctx)(M:Mem)(β:Nat→Option Nat)(g:dm)(s:oe)(o:Oper)(tmps:Array Value)(w:World):Prop:=
 match s with
 |.go f=>(∀q,q∈f.a6→q)→Yields P K M β g f o tmps w
 |.bf x hs a6=>(∀q,q∈a6→q)→afB P K M β g x hs o tmps w
def WQ{os:List Nat}{env:List (Nat×a7)}{s:Nat}{e:a7}(h:look env s=some e):∃b4,look (hE os env) s=some b4∧b4.d=e.d:=by
 rw [ol,h];split
 ·exact⟨_,rfl,rfl⟩
 ·exact⟨_,rfl,rfl⟩
def On{g:dm}(h:fY P K N M β g tmps w){xs:List Operand}{ts:List TypeId}:∀{os:List Nat} {hd:List (Nat×Option Nat×TypeId)},handed tt g xs ts os=some hd→∀{vs:List Value},
 (∀(i:Nat) t,xs[i]? = some (.tmp t)→vs[i]? = some (tmps.getD t undef))→(∀(i:Nat),xs[i]? = some (.const (.slice none 0 0))→vs[i]? = some (.slice none 0 0))→
 Handed {env:=g.env,H:=g.H,aW:=g.aW} tmps vs hd
 |[],hd,bn,vs,_,_=>by
  simp [handed]at bn;subst bn;exact⟨by simp,by simp,by simp⟩
 |i::os,hd,bn,vs,Z,ab=>by
  simp only [handed]at bn;split at bn
  ·rename_i t l hx aa;have aG:=On h aa Z ab;split at bn
   case h_2=>cases bn
   rename_i d e he;rw [Bool.cond_eq_ite]at bn;split at bn
   case isFalse=>cases bn
   rename_i hc;simp only [Bool.and_eq_true,List.all_eq_true,Bool.not_eq_true']at hc;cases bn;refine⟨λmY bS T hm=>?_,λmY T hm=>?_,λmY vW bS T T' hm kj=>?_⟩
   ·rcases List.mem_cons.1 hm with hm|hm
    ·cases hm;exact⟨_,he,rfl,Z i t hx⟩
    ·exact aG.some mY bS T hm
   ·rcases List.mem_cons.1 hm with hm|hm
    ·cases hm
    ·exact aG.none mY T hm
   ·rcases List.mem_cons.1 hm with hm|hm<;>rcases List.mem_cons.1 kj with kj|kj
    ·cases hm;cases kj;rfl
    ·cases hm;have:=(hc.2 _ kj).1
     simp at this
    ·cases kj;have:=(hc.2 _ hm).1
     simp at this
    ·exact aG.inj mY vW bS T T' hm kj
  ·rename_i l hx aa;have aG:=On h aa Z ab;split at bn
   case h_2=>cases bn
   rename_i e fW kz z _ he;rw [Bool.cond_eq_ite]at bn;split at bn
   case isFalse=>cases bn
   cases bn;refine⟨λmY bS T hm=>?_,λmY T hm=>?_,λmY vW bS T T' hm kj=>?_⟩
   ·rcases List.mem_cons.1 hm with hm|hm
    ·cases hm
    ·exact aG.some mY bS T hm
   ·rcases List.mem_cons.1 hm with hm|hm
    ·cases hm;exact ab i hx
    ·exact aG.none mY T hm
   ·rcases List.mem_cons.1 hm with hm|hm<;>rcases List.mem_cons.1 kj with kj|kj
    ·cases hm
    ·cases hm
    ·cases kj
    ·exact aG.inj mY vW bS T T' hm kj
  ·cases bn
def agk(h:Hyp P K N M β g tmps w p tt){c:Call}(aw:o.op = .call c){x:Operand}(hc:c.callee = .value x){fn:FuncId}{ff ds:List D}(hx:rd g.env g.b6 p tt o.type x=some (.fn fn ff))
 (h_:lX (rd g.env g.b6 p tt) c.args.toList c.argTypes.toList=some ds) {s:oe} (hs:yi (jP P) tt g p c.args.toList c.argTypes.toList fn (ds++ff)=some s):
 WP P K M β g s o tmps w:=by
 obtain⟨vs,av,hlen,ai⟩:=VL (ei (ds:=[]) h.bA h.dW hx);obtain⟨gF,jj⟩:=WL h_
 have e8:∀(i:Nat) v d,(c.args.toList.map (⟨tmps,[]⟩:Act).eval++vs)[i]? = some v→(ds++ff)[i]? = some d→cy M β v d:=by
  intro i v d fa ub;by_cases hi:i<c.args.toList.length
  ·rw [List.getElem?_append_left (by simpa using hi),List.getElem?_map,Option.map_eq_some_iff]at fa
   obtain⟨y,cg,rfl⟩:=fa;rw [List.getElem?_append_left (by omega)]at ub
   obtain⟨ty,gX⟩:=jj i y d cg ub;exact ei h.bA h.dW gX
  ·rw [List.getElem?_append_right (by simp;simp at hi;omega)]at fa
   rw [List.getElem?_append_right (by omega)]at ub
   refine ai _ v d fa ?_;rw [gF]at ub;simpa using ub
 have Oo:(c.args.toList.map (⟨tmps,[]⟩:Act).eval++vs).length=(ds++ff).length:=by simp at gF ⊢;omega
 unfold yi at hs
 dsimp only at hs
 generalize l4:o2 g.H 2 (dedup ((ds++ff).flatMap refs))=ρ at hs
 split at hs
 case h_2=>cases hs
 rename_i out cL os rs eY;split at hs
 case h_2=>cases hs
 rename_i jL H1 hd WR mp vU;rw [Option.bind_eq_some_iff]at mp;obtain⟨bs,k1,mp⟩:=mp;rw [Bool.cond_eq_ite]at hs;split at hs
 ·cases hs
 rename_i WS
 have hn:ns ρ=true:=by
  have:(!ns ρ || !(List.isEmpty p||List.isEmpty os))=false:=by simpa using WS
  simp only [Bool.or_eq_false_iff,Bool.not_eq_false']at this;exact this.1
 have fl:=On h.bA vU (vs:=c.args.toList.map (⟨tmps,[]⟩:Act).eval++vs) (λi t aF=>by
  rw [List.getElem?_append_left (by simpa using(List.getElem?_eq_some_iff.1 aF).1),List.getElem?_map,aF];rfl) (λi aF=>by
  rw [List.getElem?_append_left (by simpa using(List.getElem?_eq_some_iff.1 aF).1),List.getElem?_map,aF];rfl)
 have eu:=Wi (st:={env:=g.env,H:=g.H,aW:=g.aW}) h.bA.bA hn k1 mp Oo e8 WR fl;have fm:H1.length=ρ.length:=by rw [(yz mp).1,(vT k1).1]
 -- N' mo contract agl, asY mo boxes behind it
 have key:∀{wb:List (List a7)},gY P fn jL (t_ hd) H1 out wb→(execOp (Act.eval ⟨tmps,[]⟩) o).run P w = .ok (.enter fn ⟨c.args.toList.map (⟨tmps,[]⟩:Act).eval++vs⟩) w∧
  Calls P fn ⟨c.args.toList.map (⟨tmps,[]⟩:Act).eval++vs⟩ w λe w'=>∃v M' β',e=t' out v∧
   bN P (kB M β {env:=g.env,H:=g.H,aW:=g.aW} tmps w ρ (q_ hd)) M' β' {env:=iy out,H:=cS 0 wb,aW:=ρ.length} #[v] w':=by
  intro wb agm;obtain⟨⟨fd,kf,Oq,jQ⟩,agn⟩:=agm;refine⟨agh aw hc av kf Oq jQ,(agn _ w _ M _ (by rw [Oo,WK WR]) eu (λr b hb=>hb)).mono ?_⟩
  rintro e w' ⟨o',bQ,v,M',β',⟨rfl,rfl⟩,he,cP⟩
  rw [fm]at cP;exact⟨v,M',β',he,cP⟩
 -- mo boxes as asZ as0, named as1 and back
 have back:∀{wb ago:List (List a7)},kb (λj=>ρ[j]?) wb=some ago→wb.length=ρ.length→∀{v:Value} {w':World} {M':Mem} {β':Nat→Option Nat},
  bN P (kB M β {env:=g.env,H:=g.H,aW:=g.aW} tmps w ρ (q_ hd)) M' β' {env:=iy out,H:=cS 0 wb,aW:=ρ.length} #[v] w'→_:=
  λhx aa _ _ _ _ hp=>N9 (st:={env:=g.env,H:=g.H,aW:=g.aW}) h.bA.bA hn k1 hx aa hp
 have WT:∀{v:Value} {w':World} {M':Mem} {β':Nat→Option Nat},
  bN P (kB M β {env:=g.env,H:=g.H,aW:=g.aW} tmps w ρ (q_ hd)) M' β' {env:=iy out,H:=cS 0 H1,aW:=ρ.length} #[v] w'→
  M.le M'∧bN P K M' β {env:=hE (q_ hd) g.env,H:=g.H,aW:=g.aW} tmps w'∧
  (∀d own,out = .ret d own→∀dD,eD (λj=>ρ[j]?) d=some dD→cy M' β v dD∧∀T l0,own=some T→nt P K M' β {env:=hE (q_ hd) g.env,H:=g.H,aW:=g.aW} tmps w' l0 v T)∧
  (∀x,out = .bf x→df M' v x):=by
  intro v w' M' β' hp;exact agj (st:={env:=g.env,H:=g.H,aW:=g.aW}) h.bA.bA hn k1 mp hp
 cases out with
 |ret d own=>
  cases cL with
  |none=>
   simp only [Option.map_eq_some_iff]at hs;obtain⟨dD,kv,rfl⟩:=hs;intro cp;obtain⟨Z,ab⟩:=key (cp _ (List.mem_singleton.2 rfl));refine .inr (.inr ⟨fn,_,Z,ab.mono ?_⟩)
   rintro e w' ⟨v,M',β',he,hp⟩
   obtain⟨cV,cP,Ot,_⟩:=WT hp;refine⟨v,he,M',β,cV,λ_ _ h=>h,λ_ _ h=>.inl h,cP,λe1 sA=>?_⟩
   cases sA;exact Ot d own rfl dD kv
  |some cL=>
   dsimp only at hs
   split at hs
   case h_2=>cases hs
   rename_i dD iS kv vZ;rw [Bool.cond_eq_ite]at hs;split at hs
   case isFalse=>cases hs
   rename_i aa;cases hs;intro cp;obtain⟨Z,ab⟩:=key (cp _ (List.mem_singleton.2 rfl));refine .inr (.inr ⟨fn,_,Z,ab.mono ?_⟩)
   rintro e w' ⟨v,M',β',he,hp⟩
   obtain⟨cV,cP,Ot,_⟩:=back vZ (by simpa using aa) hp
   refine⟨v,he,M',β,cV,λ_ _ h=>h,λ_ _ h=>.inl h,cP,λe1 sA=>?_⟩
   cases sA;exact Ot d own rfl dD kv
 |bf x=>
  cases cL with
  |none=>
   cases hs;intro cp;obtain⟨Z,ab⟩:=key (cp _ (List.mem_singleton.2 rfl));refine .inr ⟨fn,_,Z,ab.mono ?_⟩
   rintro e w' ⟨v,M',β',he,hp⟩
   obtain⟨cV,cP,_,Ou⟩:=WT hp;exact⟨v,M',he,Ou x rfl,cP.pV λs e he=>WQ he⟩
  |some cL=>
   dsimp only at hs
   split at hs
   case h_2=>cases hs
   rename_i iS vZ;rw [Bool.cond_eq_ite]at hs;split at hs
   case isFalse=>cases hs
   rename_i aa;cases hs;intro cp;obtain⟨Z,ab⟩:=key (cp _ (List.mem_singleton.2 rfl));refine .inr ⟨fn,_,Z,ab.mono ?_⟩
   rintro e w' ⟨v,M',β',he,hp⟩
   obtain⟨cV,cP,_,Ou⟩:=back vZ (by simpa using aa) hp
   exact⟨v,M',he,Ou x rfl,cP.pV λs e he=>WQ he⟩
end
section
variable {P:Program} {K:Ctx} {N:Nat} {M:Mem} {β:Nat→Option Nat} {st:aM} {g:dm} {tmps:Array Value} {w:World} {o:Oper} {f:lp} {p:Path} {tt:dI} {ops:List Oper}
def WU(h:Hyp P K N M β g tmps w p tt){c:Call}(aw:o.op = .call c)(hc:c.callee = .builtin .len){d:D}(hd:mapM' (λy=>rd g.env g.b6 p tt o.type y) c.args.toList=some [d]){aS:eP}
 (aa:(c.argTypes.toList[0]?).bind (look tt)=some aS) {n:Nat} (hk:(∃l,d = .v (.str l)∧aS.k = .str∧n=l.length)∨(∃k get e,d = .v (.bI k n get)∧aS.k = .bI e)):
 Yields P K M β g {e:=some {d:=.v (.int .i64 n)},rs:=g.rs} o tmps w:=by
 obtain⟨gF,jj⟩:=tV hd;rw [Option.bind_eq_some_iff]at aa;obtain⟨t,aF,aa⟩:=aa;obtain⟨r⟩:=eK h.tt aa
 obtain⟨a,ha⟩:∃a,c.args.toList=[a]:=by
  cases gN:c.args.toList with
  |nil=>rw [gN]at gF;simp at gF
  |cons a l=>
   rw [gN]at gF;simp at gF
   exact⟨a,by rw [gF]⟩
 have p5:=ei (ds:=[]) h.bA h.dW (jj 0 a d (by rw [ha];rfl) rfl)
 rcases hk with⟨l,rfl,hk,rfl⟩|⟨k,get,e,rfl,hk⟩
 ·have ra:=mZ p5;refine fb h.bA (WJ aw hc ha aF ra (λty=>?_)) (.v _ _ (.int _ _))
  have hs:(⟨⟨l⟩⟩:ByteArray).size=l.length:=rfl;simp [Builtin.len_,r.run_underlying,q4 r hk,goInt,hs]
 ·obtain⟨base,cap,ra,_⟩:=vJ p5;refine fb h.bA (WJ aw hc ha aF ra (λty=>?_)) (.v _ _ (.int _ _))
  simp [Builtin.len_,r.run_underlying,p1 r hk,goInt]
def agp(h:Hyp P K N M β g tmps w p tt){c:Call}(aw:o.op = .call c)(hc:c.callee = .builtin .min){k:IntKind}{a b:Int}(hd:mapM' (λy=>rd g.env g.b6 p tt o.type y) c.args.toList=some [.v (.int k a),.v (.int k b)]):
 Yields P K M β g {e:=some {d:=.v (.int k (bif decide (b<a)then b else a))},rs:=g.rs} o tmps w:=by
 obtain⟨gF,jj⟩:=tV hd
 obtain⟨x,y,p0⟩:∃x y,c.args.toList=[x,y]:=by
  cases gN:c.args.toList with
  |nil=>rw [gN]at gF;simp at gF
  |cons x l=>
   cases l with
   |nil=>rw [gN]at gF;simp at gF
   |cons y l=>
    rw [gN]at gF;simp at gF
    exact⟨x,y,by rw [gF]⟩
 have ex:=mm (ei (ds:=[]) h.bA h.dW (jj 0 x _ (by rw [p0];rfl) rfl))
 have Ov:=mm (ei (ds:=[]) h.bA h.dW (jj 1 y _ (by rw [p0];rfl) rfl))
 have vP:c.args = #[x,y]:=by apply Array.ext';simpa using p0
 refine fb h.bA (v:=.int k (bif decide (b<a)then b else a)) ?_ (.v _ _ (.int _ _))
 simp only [execOp,aw,resolve,hc,vP,Sem.run_bind,Sem.run_pure,Result.andThen_ok,invoke,builtin,List.map_toArray,List.map_cons,List.map_nil,ex,Ov];by_cases m7:b<a<;>simp [Builtin.min_,Builtin.min2,m7]
def agq(h:Hyp P K N M β g tmps w p tt){c:Call}(aw:o.op = .call c)(hc:c.callee = .builtin .max){k:IntKind}{a b:Int}(hd:mapM' (λy=>rd g.env g.b6 p tt o.type y) c.args.toList=some [.v (.int k a),.v (.int k b)]):
 Yields P K M β g {e:=some {d:=.v (.int k (bif decide (a<b)then b else a))},rs:=g.rs} o tmps w:=by
 obtain⟨gF,jj⟩:=tV hd
 obtain⟨x,y,p0⟩:∃x y,c.args.toList=[x,y]:=by
  cases gN:c.args.toList with
  |nil=>rw [gN]at gF;simp at gF
  |cons x l=>
   cases l with
   |nil=>rw [gN]at gF;simp at gF
   |cons y l=>
    rw [gN]at gF;simp at gF
    exact⟨x,y,by rw [gF]⟩
 have ex:=mm (ei (ds:=[]) h.bA h.dW (jj 0 x _ (by rw [p0];rfl) rfl))
 have Ov:=mm (ei (ds:=[]) h.bA h.dW (jj 1 y _ (by rw [p0];rfl) rfl))
 have vP:c.args = #[x,y]:=by apply Array.ext';simpa using p0
 refine fb h.bA (v:=.int k (bif decide (a<b)then b else a)) ?_ (.v _ _ (.int _ _))
 simp only [execOp,aw,resolve,hc,vP,Sem.run_bind,Sem.run_pure,Result.andThen_ok,invoke,builtin,List.map_toArray,List.map_cons,List.map_nil,ex,Ov];by_cases m7:a<b<;>simp [Builtin.max_,Builtin.max2,m7]
def agr(h:Hyp P K N M β g tmps w p tt){cf:gE}{x:Operand}{s t:TypeId}{ok:Bool}(aw:o.op = .typeAssert x s t ok)(hs:step1 cf tt ops g p o=some (.go f)):Yields P K M β g f o tmps w:=by
 simp only [step1,aw]at hs;split at hs
 case h_2=>cases hs
 rename_i bS y k fW kz z _ hx aa;obtain⟨r⟩:=eK h.tt aa;have ai:=ei (ds:=[]) h.bA h.dW hx;obtain⟨u,av,hu⟩:=Nz ai;have WV:k ≠ .o0:=by rintro rfl;simp at hs
 have Oi:∀i,r.desc ≠ .interface i:=by
  intro i hd;have:=r.hk
  rw [hd]at this;simp [ly]at this;exact WV this.symm
 have gg:(bif Nat.beq bS t then(some (oe.go {e:=some {d:=(bif ok then .cA [.v y,.v (.bool true)]else .v y)},rs:=g.rs}))else none)=some (.go f):=by
  cases k<;>first|exact(WV rfl).elim|exact hs
 rw [Bool.cond_eq_ite]at gg;split at gg
 case isFalse=>cases gg
 rename_i hb;have bY:bS=t:=by simpa using hb
 subst bY;cases gg
 have fg:(Instr.typeAssert (.iface bS u) s bS ok).run P w = .ok (bif ok then .tuple #[u,.bool true]else u) w:=by
  unfold Instr.typeAssert;simp only [Sem.run_bind,r.run_underlying,Result.andThen_ok];cases hd:r.desc<;>first|exact(Oi _ hd).elim|(cases ok<;>simp)
 refine fb h.bA (v:=bif ok then .tuple #[u,.bool true]else u) ?_ ?_
 ·simp only [execOp,aw,av];exact jB _ fg
 ·cases ok
  ·exact .v _ _ hu
  ·refine .cA [u,.bool true] _ rfl λi v c av hc=>?_
   match i with
   | 0=>simp at av hc;subst av;subst hc;exact .v _ _ hu
   | 1=>simp at av hc;subst av;subst hc;exact .v _ _ (.bool _)
   |i+2=>simp at av
def WW(h:Hyp P K N M β g tmps w p tt){s:oe}(hs:step1 (jP P) tt ops g p o=some s):WP P K M β g s o tmps w:=by
 cases aw:o.op with
 |move x=>cases s with
  |go f=>exact λ_=>afI h aw hs
  |bf x gg a6=>simp only [step1,aw]at hs;repeat' (first |(split at hs) |(rw [Bool.cond_eq_ite]at hs) |(cases hs;done))
 |assign x=>cases s with
  |go f=>exact λ_=>afJ h aw hs
  |bf x gg a6=>simp only [step1,aw]at hs;repeat' (first |(split at hs) |(rw [Bool.cond_eq_ite]at hs) |(cases hs;done))
 |pick c a b=>
  cases c with
  |tmp c=>cases s with
   |go f=>exact λ_=>afK h aw hs
   |bf x gg a6=>simp only [step1,aw]at hs;repeat' (first |(split at hs) |(simp at hs;done))
  |_=>simp [step1,aw]at hs
 |alloc t=>cases s with
  |go f=>exact λ_=>afL h aw hs
  |bf x gg a6=>simp only [step1,aw]at hs;repeat' (first |(split at hs) |(cases hs;done))
 |box t x=>cases s with
  |go f=>exact λ_=>afM h aw hs
  |bf x gg a6=>simp only [step1,aw]at hs;repeat' (first |(split at hs) |(rw [Bool.cond_eq_ite]at hs) |(cases hs;done))
 |build t parts=>cases s with
  |go f=>exact λ_=>afN h aw hs
  |bf x gg a6=>simp only [step1,aw]at hs;repeat' (first |(split at hs) |(rw [Bool.cond_eq_ite]at hs) |(simp at hs;done) |(cases hs;done))
 |buildSlice t len parts=>cases s with
  |go f=>exact λcp=>afP h aw hs cp
  |bf x gg a6=>simp only [step1,aw]at hs;repeat' (first |(split at hs) |(rw [Bool.cond_eq_ite]at hs) |(cases hs;done))
 |load t a=>cases s with
  |go f=>exact λ_=>afQ h aw hs
  |bf x gg a6=>simp only [step1,aw]at hs;repeat' (first |(split at hs) |(rw [Bool.cond_eq_ite]at hs) |(simp at hs;done) |(cases hs;done))
 |store t a x=>cases s with
  |go f=>exact λ_=>afR h aw hs
  |bf x gg a6=>simp only [step1,aw]at hs;repeat' (first |(split at hs) |(rw [Bool.cond_eq_ite]at hs) |(cases hs;done))
 |nilCheck x=>cases s with
  |go f=>exact λ_=>afU h aw hs
  |bf x gg a6=>simp only [step1,aw]at hs;repeat' (first |(split at hs) |(simp at hs;done))
 |binOp op t x y t2=>cases s with
  |go f=>exact λcp=>af7 h aw hs cp
  |bf x gg a6=>simp only [step1,aw]at hs;repeat' (first |(split at hs) |(rw [Bool.cond_eq_ite]at hs) |(simp at hs;done))
 |unOp op t x=>cases s with
  |go f=>exact λ_=>afV h aw hs
  |bf x gg a6=>simp only [step1,aw]at hs;repeat' (first |(split at hs) |(simp at hs;done))
 |convert a b x=>cases s with
  |go f=>exact λcp=>afW h aw hs cp
  |bf x gg a6=>simp only [step1,aw]at hs;repeat' (first |(split at hs) |(simp at hs;done))
 |makeInterface t x=>cases s with
  |go f=>exact λ_=>afX h aw hs
  |bf x gg a6=>simp only [step1,aw]at hs;repeat' (first |(split at hs) |(simp at hs;done))
 |makeFunc fn first ff=>
  cases fn with
  |func fn=>cases s with
   |go f=>exact λ_=>afY h aw hs
   |bf x gg a6=>simp only [step1,aw]at hs;rw [Bool.cond_eq_ite]at hs;split at hs<;>simp at hs
  |_=>simp [step1,aw]at hs
 |slice t x lo hi kc=>cases s with
  |go f=>exact λcp=>age h aw hs cp
  |bf x gg a6=>simp only [step1,aw]at hs;repeat' (first |(split at hs) |(rw [Bool.cond_eq_ite]at hs) |(simp at hs;done))
 |fieldAddr a x i=>cases s with
  |go f=>exact λ_=>af8 h aw hs
  |bf x gg a6=>simp only [step1,aw]at hs;repeat' (first |(split at hs) |(rw [Bool.cond_eq_ite]at hs) |(simp at hs;done))
 |field a x i=>cases s with
  |go f=>exact λ_=>af' h aw hs
  |bf x gg a6=>simp only [step1,aw]at hs;repeat' (first |(split at hs) |(rw [Bool.cond_eq_ite]at hs) |(simp at hs;done))
 |indexAddr t x i=>cases s with
  |go f=>exact λcp=>agb h aw hs cp
  |bf x gg a6=>simp only [step1,aw]at hs;repeat' (first |(split at hs) |(rw [Bool.cond_eq_ite]at hs) |(simp at hs;done))
 |index t x i=>cases s with
  |go f=>exact λcp=>agc h aw hs cp
  |bf x gg a6=>simp only [step1,aw]at hs;repeat' (first |(split at hs) |(simp at hs;done))
 |typeAssert x a t ok=>cases s with
  |go f=>exact λ_=>agr h aw hs
  |bf x gg a6=>simp only [step1,aw]at hs;repeat' (first |(split at hs) |(rw [Bool.cond_eq_ite]at hs) |(simp at hs;done) |(cases hs;done))
 |extract x i=>cases s with
  |go f=>exact λ_=>afZ h aw hs
  |bf x gg a6=>simp only [step1,aw]at hs;repeat' (first |(split at hs) |(simp at hs;done))
 |call c=>
  simp only [step1,aw]at hs;split at hs
  ·rename_i x pb;split at hs
   case h_2=>cases hs
   rename_i fn ff ds hx h_;exact agk h aw pb hx h_ hs
  ·rename_i pb;split at hs
   ·rename_i l _ _ _ _ hd aa;cases hs;exact λ_=>WU h aw pb hd aa (.inl ⟨l,rfl,rfl,rfl⟩)
   ·rename_i k n get _ _ _ _ _ hd aa;cases hs;exact λ_=>WU h aw pb hd aa (.inr ⟨k,get,_,rfl,rfl⟩)
   ·cases hs
  ·rename_i pb;split at hs
   case h_2=>cases hs
   rename_i t x e as2 CQ k2 _ t2 e8 fm eT;split at hs
   case h_3=>cases hs
   case h_2=>
    rename_i ci k n get d2 y rs hle p6 jj eY;rw [Bool.cond_eq_ite]at hs;split at hs
    case isFalse=>cases hs
    rename_i hc;simp only [Bool.and_eq_true,Nat.beq_eq,Nat.ble_eq]at hc;obtain⟨⟨⟨rfl,yI⟩,yJ⟩,wc⟩:=hc;rw [Option.bind_eq_some_iff]at fm eT;obtain⟨ags,Hb,fm⟩:=fm;obtain⟨agt,o6,eT⟩:=eT;have iV:=ei (ds:=[]) h.bA h.dW jj;split at hs
    case h_2=>cases hs
    rename_i al m mi e2 pc;rw [Bool.cond_eq_ite]at hs;split at hs
    case isFalse=>cases hs
    rename_i ia;simp only [Bool.and_eq_true,Nat.beq_eq,Nat.ble_eq]at ia;obtain⟨rfl,hm⟩:=ia;cases hs;intro cp;obtain⟨news,iY,lB⟩:=Wg h.bA.bA h.tt eT pc iV;exact aff h.bA h.dW h.tt fm rfl hle aw pb e8 Hb o6 p6 yJ hm iY lB (Oc (cp (room (n+m) ci.bytes=true) (by simp))) (cp (hD _ y) (by simp))
   rename_i ci k n get d2 as3 bg y rs hle p6 jj Cy eY;rw [Bool.cond_eq_ite]at hs;split at hs
   case isFalse=>cases hs
   rename_i hc;simp only [Bool.and_eq_true,Nat.beq_eq,Nat.ble_eq]at hc;obtain⟨⟨⟨⟨rfl,rfl⟩,yI⟩,yJ⟩,wc⟩:=hc;rw [Option.bind_eq_some_iff]at fm eT;obtain⟨ags,Hb,fm⟩:=fm;obtain⟨agt,o6,eT⟩:=eT;have iV:=ei (ds:=[]) h.bA h.dW jj;split at hs
   ·rename_i al m mi e2 pc;rw [Bool.cond_eq_ite]at hs;split at hs
    case isFalse=>cases hs
    rename_i ia;simp only [Nat.beq_eq]at ia;subst ia;cases hs;intro cp;obtain⟨news,iY,lB⟩:=Wg h.bA.bA h.tt eT pc iV;exact Wc h.bA h.dW h.tt fm rfl hle aw pb e8 Hb o6 p6 Cy rfl yJ iY lB (Oc (cp (room (n+m) ci.bytes=true) (by simp))) (cp (hD _ y) (by simp))
   ·rename_i l pc;rw [Bool.cond_eq_ite]at hs;split at hs
    case isFalse=>cases hs
    rename_i ia;simp only [Nat.beq_eq]at ia;cases hs;intro cp;have Ow:=mZ iV;obtain⟨news,iY,lB⟩:=afk (P:=P) (w:=w) h.tt eT pc l M;rw [←Ow,←ia]at iY;rw [←ia]at lB;exact Wc h.bA h.dW h.tt fm rfl hle aw pb e8 Hb o6 p6 Cy rfl yJ iY lB (Oc (cp (room (n+l.length) ci.bytes=true) (by simp))) (cp (hD _ y) (by simp))
   ·cases hs
  ·rename_i pb;split at hs
   ·rename_i k a al b hd;rw [Bool.cond_eq_ite]at hs;split at hs
    case isFalse=>cases hs
    rename_i hk;have sI:k=al:=by simpa using hk
    subst sI;cases hs;exact λ_=>agp h aw pb hd
   ·cases hs
  ·rename_i pb;split at hs
   ·rename_i k a al b hd;rw [Bool.cond_eq_ite]at hs;split at hs
    case isFalse=>cases hs
    rename_i hk;have sI:k=al:=by simpa using hk
    subst sI;cases hs;exact λ_=>agq h aw pb hd
   ·cases hs
  ·cases hs
 |panic x=>cases s with
  |go f=>simp only [step1,aw]at hs;repeat' (first |(split at hs) |(simp at hs;done))
  |bf y gg a6=>
   simp only [step1,aw]at hs;split at hs
   case h_2=>cases hs
   rename_i t z hd;cases hs;intro _;have ai:=ei (ds:=[]) h.bA h.dW hd;obtain⟨u,av,hu⟩:=Nz ai;refine .inl ⟨.iface t u,?_,.iface t u z hu,rfl⟩;simp [execOp,aw,av,Instr.panic]
 |_=>simp [step1,aw]at hs
end
inductive cr where
 |normal
 |exit (id:Nat)
 |ret
 |bf (x:V)
def uf(P:Program)(K:Ctx)(N:Nat)(fP:cr)(st:aM)(e:Exit)(a:Act)(w:World):Prop:=
 match fP with
 |.normal=>e = .normal∧a.defers=K.ds∧a.tmps.size=N∧∃M β,bN P K M β st a.tmps w
 |.exit id=>e = .exit id∧a.defers=K.ds∧a.tmps.size=N∧∃M β,bN P K M β st a.tmps w
 |.ret=>e = .ret∧a.defers=K.ds∧a.tmps.size=N∧∃M β,bN P K M β st a.tmps w
 |.bf x=>∃v,e = .panic [{v,recovered:=false}]∧a.defers=K.ds∧∃M β,df M v x∧bN P K M β st a.tmps w
section
variable {P:Program} {K:Ctx} {N:Nat} {M:Mem} {β:Nat→Option Nat} {st:aM} {g e4:dm} {tmps:Array Value} {w:World} {o:Oper} {f:lp} {p:Path} {tt:dI} {ops:List Oper}
def bN.CR(h:bN P K M β st tmps w)(fX:Array Value):bN P K M β {env:=[],H:=st.H,aW:=st.aW} fX w:=by
 have Z:bN P K M β {env:=[],H:=st.H,aW:=st.aW} tmps w:=h.sub rfl (λl e aa=>by
  cases l with
  |slot s=>simp [aM.at,look]at aa
  |cell r i=>exact⟨e,aa,rfl,λ_ h=>h⟩) (λr cs ai=>⟨cs,ai,rfl⟩)
 have av:∀l e,({env:=[],H:=st.H,aW:=st.aW}:aM).at l=some e→cv fX w β l=cv tmps w β l:=by
  intro l e aa;cases l with
  |slot s=>simp [aM.at,look]at aa
  |cell r i=>rfl
 constructor
 ·intro l e aa;rw [av l e aa];exact Z.fw l e aa
 ·intro l e T aa aH;rw [av l e aa];exact Z.own l e T aa aH
 ·intro l cI e bg T T' b aa aH dE eh hb bY;rw [av l e aa]at hb;rw [av cI bg dE]at bY;exact Z.uniq l cI e bg T T' b aa aH dE eh hb bY
 ·intro l e T b r cs aa aH hb ai;rw [av l e aa]at hb;exact Z.unbox l e T b r cs aa aH hb ai
 ·exact Z.box
 ·exact Z.inj
 ·exact Z.lt
 ·exact Z.mem
 ·exact Z.m0
 ·exact Z.frame
 ·exact Z.iT
 ·exact Z.jA
 ·exact Z.h9
def CS(h:fY P K N M β g tmps w):∀{p:Path} {q:Prop},fO tmps p→under g p q→q
 |[],_,_,ao=>ao
 |(t,o8)::p,q,hp,ao=>by
  have aF:tmps.getD t undef = .bool o8:=hp (t,o8) (by simp)
  have yK:fO tmps p:=λx hx=>hp x (by simp [hx])
  simp only [under]at ao;split at ao
  ·rename_i b hb;refine CS h yK (ao ?_);unfold Cc at hb;split at hb
   ·rename_i q' bH hc;cases hb;by_cases iZ:fO tmps q'
    ·have:=vI ((h.cond t _ _ hc).1 iZ)
     rw [aF]at this;cases this;rfl
    ·have:=(h.cond t _ _ hc).2 iZ
     rw [aF]at this;cases this
   ·cases hb
   ·split at hb
    ·rename_i bH own he;cases hb;have:=vI (h.bA.fw (.slot t) _ he)
     simp only [cv]at this;rw [aF]at this;cases this;rfl
    ·cases hb
  ·exact CS h yK ao
def WX(h:fY P K N M β g tmps w){opsA:Array Oper}(ny:opsA.toList=ops)(hp:pW ops g o=some p):Region.wanted o (yielded opsA tmps)=true↔fO tmps p:=by
 unfold pW at hp;split at hp
 ·rename_i hg;cases hp;simp [Region.wanted,hg,fO]
 ·rename_i j o8 hg;split at hp
  case h_2=>cases hp
  rename_i t aF
  have cg:yielded opsA tmps j=some o8↔tmps.getD t undef = .bool o8:=by
   unfold yielded;have:opsA[j]? = ops[j]? := by rw [←ny];simp
   rw [this,aF];simp only [Option.bind_some,Array.getD_eq_getD_getElem?];cases bn:tmps[t]? with
   |none=>simp [undef]
   |some v=>cases v<;>simp
  have hw:Region.wanted o (yielded opsA tmps)=true↔tmps.getD t undef = .bool o8:=by
   rw [←cg];simp [Region.wanted,hg]
  split at hp
  ·rename_i q b hc;cases hp;rw [hw];constructor
   ·intro jR x hx;rcases List.mem_append.1 hx with hx|hx
    ·by_cases iZ:fO tmps q
     ·exact iZ x hx
     ·have:=(h.cond t _ _ hc).2 iZ
      rw [jR]at this;cases this
    ·simp at hx;subst hx;exact jR
   ·intro iZ;exact iZ (t,o8) (by simp)
  ·cases hp
  ·split at hp
   ·cases hp;rw [hw];exact⟨λh x hx=>by simp at hx;subst hx;exact h,λh=>h (t,o8) (by simp)⟩
   ·cases hp
def Ox{t:Nat}{v:Value}{q:Path}(ao:∀x,x∈q→x.1≠t):fO (tmps.setIfInBounds t v) q↔fO tmps q:=by
 unfold fO;constructor<;>intro h x hx
 ·have:=h x hx
  rwa [Array.getD_eq_getD_getElem?,Array.getElem?_setIfInBounds_ne (Ne.symm (ao x hx)),←Array.getD_eq_getD_getElem?]at this
 ·have:=h x hx
  rwa [Array.getD_eq_getD_getElem?,Array.getElem?_setIfInBounds_ne (Ne.symm (ao x hx)),←Array.getD_eq_getD_getElem?]
def agu{t s:Nat}{v:Value}(h:s≠t):(tmps.setIfInBounds t v).getD s undef=tmps.getD s undef:=by
 rw [Array.getD_eq_getD_getElem?,Array.getElem?_setIfInBounds_ne (Ne.symm h),←Array.getD_eq_getD_getElem?]
def agv{b6:List (Nat×Path×D)}{t:Nat}(h:yk b6 t=true){s:Nat}{q:Path}{d:D}(hc:look b6 s=some (q,d))(hs:s≠t):∀x,x∈q→x.1≠t:=by
 unfold yk at h;rw [List.all_eq_true]at h;have:=h _ (su hc)
 simp only [Bool.or_eq_true,Nat.beq_eq,List.all_eq_true,Bool.not_eq_true']at this;rcases this with Z|Z
 ·exact absurd Z hs
 ·intro x hx e;have:=Z x hx
  rw [e]at this;simp at this
def Oy(h:∀t q d,look g.b6 t=some (q,d)→(fO tmps q→cy M β (tmps.getD t undef) d)∧(¬ fO tmps q→tmps.getD t undef=undef)){t:Nat}{v:Value}(aY:yk g.b6 t=true){M':Mem}{β':Nat→Option Nat}
 (cV:M.le M') (hF:∀r b,β r=some b→β' r=some b):
 ∀s q d,look (del g.b6 t) s=some (q,d)→(fO (tmps.setIfInBounds t v) q→cy M' β' ((tmps.setIfInBounds t v).getD s undef) d)∧(¬ fO (tmps.setIfInBounds t v) q→(tmps.setIfInBounds t v).getD s undef=undef):=by
 intro s q d hc;rw [q1]at hc;by_cases hs:t=s
 ·simp [hs]at hc
 ·rw [if_neg hs]at hc;rw [Ox (agv aY hc (Ne.symm hs)),agu (Ne.symm hs)];exact⟨λiZ=>(((h s q d hc).1 iZ).mono cV).Nj hF,(h s q d hc).2⟩
def CT(ds:List Deferred):Act.eval ⟨tmps,ds⟩=Act.eval ⟨tmps,[]⟩:=by
 funext x;cases x<;>rfl
def WY{α:Type}:∀(a b:List (Nat×α)) (q:Nat),look (a++b) q=none→look a q=none∧look b q=none
 |[],b,q,h=>⟨rfl,h⟩
 |(j,x)::a,b,q,h=>by
  simp only [List.cons_append,dZ]at h ⊢;by_cases hj:j=q
  ·simp [hj]at h
  ·simp only [hj,if_false]at h ⊢;exact WY a b q h
def fY.Oz(h:fY P K N M β g tmps w){β':Nat→Option Nat}{hs:List (Nat×List a7)}(wd:∀r b,β' r=some b→β r=some b∨(look hs r).isSome=true):
 ∀s id,look g.ids s=some id→look (hs++g.H) id=none→∀b,β' id≠some b:=by
 intro s id hid aa b hb;obtain⟨Z,ab⟩:=WY _ _ _ aa;rcases wd id b hb with aj|aj
 ·exact h.fresh s id hid ab b aj
 ·rw [Z]at aj;cases aj
def OA(h:fY P K N M β g tmps w)(cz:fD P tt=true){opsA:Array Oper}(ny:opsA.toList=ops)(hs:oh (jP P) tt N ops g o=some (.go e4))(cp:∀q,q∈e4.a6→q){Q:Exit→Act→World→Prop}{next:Act→World→Prop}
 (gn:∀fX w' M' β',fY P K N M' β' e4 fX w'→next ⟨fX,K.ds⟩ w'):
 if Region.wanted o (yielded opsA tmps)then o.wp P ⟨tmps,K.ds⟩ w next Q∨(o.asks P ⟨tmps,K.ds⟩ w∧LetsOut Q)else next ((⟨tmps,K.ds⟩:Act).put o.dst undef) w:=by
 unfold oh at hs;split at hs
 case h_1=>cases hs
 rename_i p hp;have hw:=WX h ny hp;split at hs
 ·cases hs
 ·rw [Bool.cond_eq_ite]at hs;split at hs<;>cases hs
 rename_i f aY
 dsimp only at hs
 by_cases iZ:fO tmps p
 ·rw [if_pos (
   hw.2 iZ)]
  refine .inl ?_;have jn:=WW (g:=g) (ops:=ops) ⟨h,iZ,cz⟩ aY
  -- N' follows once mo value is there
  have main:(∀q,q∈f.a6→q)∧∀v w',iW P K M β g f tmps v w'→next ((⟨tmps,K.ds⟩:Act).put o.dst v) w':=by
   split at hs
   ·rename_i we;rw [Bool.cond_eq_ite]at hs;split at hs
    case isFalse=>cases hs
    rename_i wc;have CU:p=[]:=by simpa using wc
    subst CU;cases hs;refine⟨λq ao=>CS h iZ (cp _ (List.mem_append_left _ (List.mem_map.2 ⟨q,ao,rfl⟩))),?_⟩
    rintro v w' ⟨M',β',cV,hF,wd,cP,_⟩
    rw [we];exact gn tmps w' M' β' ⟨cP,h.size,h.Oz wd,λs q d hc=>⟨λiZ=>(((h.cond s q d hc).1 iZ).mono cV).Nj hF,(h.cond s q d hc).2⟩⟩
   ·rename_i t we;rw [Bool.cond_eq_ite]at hs;split at hs
    case isFalse=>cases hs
    rename_i hc;simp only [Bool.and_eq_true,Nat.blt_eq]at hc;have cZ:t<tmps.size:=by rw [h.size];exact hc.1
    rcases p with _|⟨x,OB⟩<;>dsimp only at hs
    ·cases hs;refine⟨λq ao=>CS h iZ (cp _ (List.mem_append_left _ (List.mem_map.2 ⟨q,ao,rfl⟩))),?_⟩
     rintro v w' ⟨M',β',cV,hF,wd,cP,jn⟩
     rw [we];refine gn _ w' M' β' ⟨?_,by simpa using h.size,h.Oz wd,Oy h.cond hc.2 cV hF⟩
     cases he:f.e with
     |none=>exact cP.drop
     |some e=>
      obtain⟨Z,ab⟩:=jn e he;exact cP.put cZ Z (λT aH=>ab T _ aH)
    ·split at hs
     ·rename_i e he wg o5;rw [Bool.cond_eq_ite]at hs;split at hs
      case isFalse=>cases hs
      rename_i mr;simp only [Bool.and_eq_true,List.all_eq_true,Nat.beq_eq,Bool.not_eq_true']at mr;cases hs;refine⟨λq ao=>CS h iZ (cp _ (List.mem_append_left _ (List.mem_map.2 ⟨q,ao,rfl⟩))),?_⟩
      rintro v w' ⟨M',β',cV,hF,wd,cP,jn⟩
      rw [we];obtain⟨Z,_⟩:=jn e he
      have kA:∀y,y∈x::OB→y.1≠t:=λy cg e=>by
       have:=mr.1 y cg
       rw [e]at this;simp at this
      refine gn _ w' M' β' ⟨?_,by simpa using h.size,by have:=h.Oz wd;rw [wg]at this;exact this,λs q d eu=>?_⟩
      ·have:after g f={env:=g.env,H:=g.H,aW:=g.aW}:=by unfold after;rw [o5,wg,mr.2];rfl
       rw [this]at cP;exact cP.drop
      ·rw [dZ]at eu;by_cases ky:t=s
       ·rw [if_pos ky]at eu;cases eu;subst ky;rw [Ox kA];refine⟨λ_=>?_,λhn=>absurd iZ hn⟩
        have:(tmps.setIfInBounds t v).getD t undef=v:=by simp [cZ]
        rw [this];exact Z
       ·rw [if_neg ky]at eu;exact Oy h.cond hc.2 cV hF s q d eu
     ·cases hs
  obtain⟨agw,jm⟩:=main;rcases jn agw with⟨v,w',fg,kD⟩|⟨he,w',fg,kD⟩|⟨fn,vs,fg,wh⟩
  ·unfold Oper.wp;rw [CT,fg];exact jm v w' kD
  ·unfold Oper.wp;rw [CT,fg];exact jm undef w' kD
  ·unfold Oper.wp;rw [CT,fg];refine wh.mono ?_
   rintro e w' ⟨v,rfl,kD⟩
   exact jm v w' kD
 ·have agx:Region.wanted o (yielded opsA tmps)=false:=by
   rw [Bool.eq_false_iff];exact λbn=>iZ (hw.1 bn)
  rw [agx];simp only [Bool.false_eq_true,if_false];split at hs
  ·rename_i we;rw [Bool.cond_eq_ite]at hs;split at hs
   case isFalse=>cases hs
   rename_i wc;have CU:p=[]:=by simpa using wc
   subst CU;exact absurd (λx hx=>by cases hx) iZ
  ·rename_i t we;rw [Bool.cond_eq_ite]at hs;split at hs
   case isFalse=>cases hs
   rename_i hc;simp only [Bool.and_eq_true,Nat.blt_eq]at hc;rcases p with _|⟨x,OB⟩<;>dsimp only at hs
   ·exact absurd (λx hx=>by cases hx) iZ
   ·split at hs
    ·rename_i e he wg o5;rw [Bool.cond_eq_ite]at hs;split at hs
     case isFalse=>cases hs
     rename_i mr;simp only [Bool.and_eq_true,List.all_eq_true,Nat.beq_eq,Bool.not_eq_true']at mr;cases hs;rw [we]
     have kA:∀y,y∈x::OB→y.1≠t:=λy cg e=>by
      have:=mr.1 y cg
      rw [e]at this;simp at this
     refine gn _ w M β ⟨h.bA.drop,by simpa using h.size,h.fresh,λs q d eu=>?_⟩
     rw [dZ]at eu;by_cases ky:t=s
     ·rw [if_pos ky]at eu;cases eu;subst ky;rw [Ox kA];refine⟨λbn=>absurd bn iZ,λ_=>?_⟩
      have cZ:t<tmps.size:=by rw [h.size];exact hc.1
      simp [cZ]
     ·rw [if_neg ky]at eu;exact Oy h.cond hc.2 (Mem.le_refl _) (λ_ _ h=>h) s q d eu
    ·cases hs
end
section
variable {P:Program} {K:Ctx} {N E:Nat} {M:Mem} {β:Nat→Option Nat} {st:aM} {g e4:dm} {tmps:Array Value} {w:World} {o:Oper} {f:lp} {p:Path} {tt:dI} {ops:List Oper}
def WZ(h:fY P K N M β g tmps w)(cz:fD P tt=true){opsA:Array Oper}(ny:opsA.toList=ops){x:V}{st:aM}{a6:List Prop}(hs:oh (jP P) tt N ops g o=some (.bf x st a6))(cp:∀q,q∈a6→q){Q:Exit→Act→World→Prop}{next:Act→World→Prop}
 (gn:∀e eb w',uf P K N (.bf x) st e eb w'→Q e eb w'):
 if Region.wanted o (yielded opsA tmps)then o.wp P ⟨tmps,K.ds⟩ w next Q∨(o.asks P ⟨tmps,K.ds⟩ w∧LetsOut Q)else next ((⟨tmps,K.ds⟩:Act).put o.dst undef) w:=by
 unfold oh at hs;split at hs
 case h_1=>cases hs
 rename_i p hp;have hw:=WX h ny hp;split at hs
 ·cases hs
 ·rename_i y gg ug dy;rw [Bool.cond_eq_ite]at hs;split at hs
  case isFalse=>cases hs
  rename_i wc;have CU:p=[]:=by simpa using wc
  subst CU;cases hs;have iZ:fO tmps []:=λx hx=>by cases hx
  rw [if_pos (hw.2 iZ)];refine .inl ?_;have jn:=WW (g:=g) (ops:=ops) ⟨h,iZ,cz⟩ dy;rcases jn (λq ao=>cp q (List.mem_append_left _ ao)) with⟨v,fg,ai,rfl⟩|⟨fn,vs,fg,wh⟩
  ·unfold Oper.wp;rw [CT,fg];exact gn _ _ _ ⟨v,rfl,rfl,M,β,ai,h.bA.pV λs e he=>⟨e,he,rfl⟩⟩
  ·unfold Oper.wp;rw [CT,fg];refine wh.mono ?_
   rintro e w' ⟨v,M',rfl,ai,cP⟩
   exact gn _ _ _ ⟨v,rfl,rfl,M',β,ai,cP⟩
 ·dsimp only at hs
  repeat' (first|(split at hs)|(rw [Bool.cond_eq_ite]at hs)|(cases hs;done))
def agy{cf:gE}(hs:oh cf tt N ops g o=some (.go e4)):∀q,q∈g.a6→q∈e4.a6:=by
 intro q ao;unfold oh at hs;split at hs
 case h_1=>cases hs
 split at hs
 ·cases hs
 ·rw [Bool.cond_eq_ite]at hs;split at hs<;>cases hs
 ·dsimp only at hs
  repeat' (first|(split at hs)|(rw [Bool.cond_eq_ite]at hs)|(cases hs;exact List.mem_append_right _ ao)|(cases hs;done))
def agz{cf:gE}{x:V}{st:aM}{a6:List Prop}(hs:oh cf tt N ops g o=some (.bf x st a6)):∀q,q∈g.a6→q∈a6:=by
 intro q ao;unfold oh at hs;split at hs
 case h_1=>cases hs
 split at hs
 ·cases hs
 ·rw [Bool.cond_eq_ite]at hs;split at hs<;>cases hs;exact List.mem_append_right _ ao
 ·dsimp only at hs
  repeat' (first|(split at hs)|(rw [Bool.cond_eq_ite]at hs)|(cases hs;done))
def W0:Cg→List Prop
 |.go g=>g.a6
 |.bf _ _ a6=>a6
def W1{cf:gE}:∀{l:List Oper} {g:dm} {fin:Cg},tP cf tt N ops l g=some fin→∀q,q∈g.a6→q∈W0 fin
 |[],g,fin,h,q,ao=>by simp [tP]at h;subst h;exact ao
 |o::l,g,fin,h,q,ao=>by
  simp only [tP]at h;split at h
  ·rename_i e4 hs;exact W1 h q (agy hs q ao)
  ·cases fin with
   |go e4=>exact absurd h (by intro bn;rename_i di;exact di _ bn)
   |bf x st a6=>exact agz h q ao
def OC(cz:fD P tt=true){opsA:Array Oper}(ny:opsA.toList=ops){Q:Exit→Act→World→Prop}{fin:Cg}(nz:∀q,q∈W0 fin→q)
 (ej:match fin with
  |.go e4=>∀fX w' M' β',fY P K N M' β' e4 fX w'→Q .normal ⟨fX,K.ds⟩ w'
  |.bf x st _=>∀e eb w',uf P K N (.bf x) st e eb w'→Q e eb w'):
 ∀(l:List Oper) (k:Nat) (g:dm) (tmps:Array Value) (w:World) (M:Mem) (β:Nat→Option Nat),(∀j,l[j]? = ops[k+j]?)→fY P K N M β g tmps w→tP (jP P) tt N ops l g=some fin→
  wpOps P opsA Q (List.range' k l.length) ⟨tmps,K.ds⟩ w
 |[],k,g,tmps,w,M,β,_,h,ai=>by
  simp [tP]at ai;subst ai;exact ej tmps w M β h
 |o::l,k,g,tmps,w,M,β,aa,h,ai=>by
  have hk:opsA[k]? = some o:=by
   have:=aa 0
   simp at this
   rw [←Array.getElem?_toList,ny];exact this.symm
  simp only [List.length_cons,List.range'_succ,wpOps,hk];simp only [tP]at ai;split at ai
  ·rename_i e4 hs;refine OA h cz ny hs (λq ao=>nz q (W1 ai q ao)) (λfX w' M' β' cO=>?_)
   exact OC cz ny nz ej l (k+1) e4 fX w' M' β' (λj=>by have:=aa (j+1);simpa [Nat.add_assoc,Nat.add_comm 1 j]using this) cO ai
  ·cases fin with
   |go e4=>exact absurd ai (by intro bn;rename_i di;exact di _ bn)
   |bf x st a6=>exact WZ h cz ny ai nz (λe eb w' b1=>ej e eb w' b1)
def a_(P:Program)(N E:Nat)(c:Code)(Q:cr→aM→Prop)(st:aM):Prop:=
 ∀(K:Ctx),(∀r b,K.ls r=some b→r<E)→∀(a:Act) (w:World),uf P K N .normal st .normal a w→c.wp P (λe eb w'=>∃fP b9,uf P K N fP b9 e eb w'∧Q fP b9) a w
def a_.mono{c:Code}{Q W2:cr→aM→Prop}(h:a_ P N E c Q st)(ao:∀fP b9,Q fP b9→W2 fP b9):a_ P N E c W2 st:=
 λK eG a w hs=>wp_mono (h K eG a w hs) λ_ _ _ ⟨fP,b9,Z,ab⟩=>⟨fP,b9,Z,ao _ _ ab⟩
@[reducible] def cr.then (next : aM → Prop) (Q : cr → aM → Prop) : cr → aM → Prop
 |.normal,st=>next st
 |e,st=>Q e st
@[reducible] def cr.inBlock (id : Nat) (Q : cr → aM → Prop) : cr → aM → Prop
 |.exit i,st=>if i=id then Q .normal st else Q (.exit i) st
 |e,st=>Q e st
def a_.seq{x y:Code}{Q:cr→aM→Prop}(h:a_ P N E x (cr.then (a_ P N E y Q) Q) st):a_ P N E (.seq x y) Q st:=by
 intro K eG a w hs;refine wp_seq (wp_mono (h K eG a w hs) ?_)
 rintro e eb w' ⟨fP,b9,Z,ab⟩
 cases fP with
 |normal=>
  obtain⟨rfl,aj⟩:=Z;exact ab K eG eb w' ⟨rfl,aj⟩
 |exit i=>obtain⟨rfl,aj⟩:=Z;exact⟨.exit i,b9,⟨rfl,aj⟩,ab⟩
 |ret=>obtain⟨rfl,aj⟩:=Z;exact⟨.ret,b9,⟨rfl,aj⟩,ab⟩
 |bf x=>obtain⟨v,rfl,aj⟩:=Z;exact⟨.bf x,b9,⟨v,rfl,aj⟩,ab⟩
def a_.skip{Q:cr→aM→Prop}(h:Q .normal st):a_ P N E .skip Q st:=λ_ _ _ _ hs=>wp_skip ⟨.normal,st,hs,h⟩
def a_.label{l:Nat}{Q:cr→aM→Prop}(h:Q .normal st):a_ P N E (.label l) Q st:=λ_ _ _ _ hs=>wp_label ⟨.normal,st,hs,h⟩
def a_.exit{id:Nat}{Q:cr→aM→Prop}(h:Q (.exit id) st):a_ P N E (.exit id) Q st:=λ_ _ _ _ hs=>wp_exit ⟨.exit id,st,⟨rfl,hs.2⟩,h⟩
def a_.ret{Q:cr→aM→Prop}(h:Q .ret st):a_ P N E .ret Q st:=λ_ _ _ _ hs=>wp_ret ⟨.ret,st,⟨rfl,hs.2⟩,h⟩
def a_.block{id:Nat}{c:Code}{Q:cr→aM→Prop}(h:a_ P N E c (cr.inBlock id Q) st):a_ P N E (.block id c) Q st:=by
 intro K eG a w hs;refine wp_block (wp_mono (h K eG a w hs) ?_)
 rintro e eb w' ⟨fP,b9,Z,ab⟩
 cases fP with
 |normal=>obtain⟨rfl,aj⟩:=Z;exact⟨.normal,b9,⟨rfl,aj⟩,ab⟩
 |exit i=>
  obtain⟨rfl,aj⟩:=Z;by_cases hi:i=id
  ·simp only [cr.inBlock,hi,if_true]at ab;simp only [Exit.inBlock,hi,if_true];exact⟨.normal,b9,⟨rfl,aj⟩,ab⟩
  ·simp only [cr.inBlock,hi,if_false]at ab;simp only [Exit.inBlock,hi,if_false];exact⟨.exit i,b9,⟨rfl,aj⟩,ab⟩
 |ret=>obtain⟨rfl,aj⟩:=Z;exact⟨.ret,b9,⟨rfl,aj⟩,ab⟩
 |bf x=>obtain⟨v,rfl,aj⟩:=Z;exact⟨.bf x,b9,⟨v,rfl,aj⟩,ab⟩
def a_.cond{c:Nat}{x y:Code}{Q:cr→aM→Prop}(b:Bool)(own:Option TypeId)(hc:look st.env c=some ⟨.v (.bool b),own⟩)(aF:b=true→a_ P N E x Q st)(aY:b=false→a_ P N E y Q st):a_ P N E (.cond (.tmp c) x y) Q st:=by
 intro K eG a w hs;obtain⟨_,_,_,M,β,cP⟩:=id hs;have av:a.eval (.tmp c) = .bool b:=vI (cP.fw (.slot c) _ hc);exact wp_cond_split av (λhb=>aF hb K eG a w hs) (λhb=>aY hb K eG a w hs)
def a_.loop{c:Code}{Q:cr→aM→Prop}{σ:Type}(I:Nat→σ→aM→Prop)(W3:∀n s st,I n s st→∃m,n=m+1∧a_ P N E c (cr.then (λb9=>∃yo,I m yo b9) Q) st)
 {n:Nat} {s:σ} {st:aM} (h0:I n s st):a_ P N E (.loop c) Q st:=by
 intro K eG a w hs b k cs
 have key:∀n s st a w,I n s st→uf P K N .normal st .normal a w→
  ∃e eb w',(∃fP b9,uf P K N fP b9 e eb w'∧Q fP b9)∧Arrives P (lone (b.at a (.code c :: .inLoop c::k)) cs w) b k cs e eb w':=by
  intro n;induction n with
  |zero=>
   intro s st a w mu _;obtain⟨m,hm,_⟩:=W3 0 s st mu;omega
  |succ n aG=>
   intro s st a w mu hs;obtain⟨m,hm,Oq⟩:=W3 (n+1) s st mu;have:m=n:=by omega
   subst this;obtain⟨e,Hc,Hd,⟨fP,b9,Z,ab⟩,yL⟩:=Oq K eG a w hs b (.inLoop c::k) cs;cases fP with
   |normal=>
    obtain⟨rfl,aj⟩:=Z;obtain⟨yo,agA⟩:=ab;obtain⟨agB,agC,agD,agE,agF⟩:=aG yo b9 Hc Hd agA ⟨rfl,aj⟩;exact⟨agB,agC,agD,agE,.of_steps (Steps.trans yL (.one step_inLoop)) agF⟩
   |exit i=>obtain⟨rfl,aj⟩:=Z;exact⟨_,Hc,Hd,⟨.exit i,b9,⟨rfl,aj⟩,ab⟩,.pass (x:=.inLoop c) rfl (λ_ _=>.inl (by simp)) yL⟩
   |ret=>obtain⟨rfl,aj⟩:=Z;exact⟨_,Hc,Hd,⟨.ret,b9,⟨rfl,aj⟩,ab⟩,.pass (x:=.inLoop c) rfl (λ_ _=>.inl (by simp)) yL⟩
   |bf x=>obtain⟨v,rfl,aj⟩:=Z;exact⟨_,Hc,Hd,⟨.bf x,b9,⟨v,rfl,aj⟩,ab⟩,.pass (x:=.inLoop c) rfl (λ_ _=>.inl (by simp)) yL⟩
 obtain⟨e,eb,w',ao,yL⟩:=key n s st a w h0 hs;exact⟨e,eb,w',ao,.of_steps (.one step_loop) yL⟩
end
def yM(tt:dI)(st:aM):ResultVar→Option D
 |.tmp t=>(look st.env t).map (·.d)
 |.cell a t=>match look st.env a,look tt t with
  |some ⟨.ptr r off,_⟩,some aS=>match look st.H r with
   |some cs=>bif aS.k.isAgg then(bif Nat.ble (off+aS.size) cs.length then some (qX (((cs.drop off).take aS.size).map (·.d)))else none) else(cs[off]?).map (·.d)
   |none=>none
  |_,_=>none
def W4(tt:dI)(st:aM):List ResultVar→Option (D×Option TypeId)
 |[.tmp t]=>(look st.env t).map λe=>(e.d,e.own)
 |[x]=>(yM tt st x).map (·,none)
 |xs=>(mapM' (yM tt st) xs).map λds=>(.cA ds,none)
def leave(tt:dI)(E:Nat)(rs:List ResultVar)(st:aM):Option (Out×List (List a7)):=
 match W4 tt st rs,boxes st.H (List.range E) with
 |some (d,own),some bQ=>bif below E d&&bQ.all (tQ E)then some (.ret d own,bQ)else none
 |_,_=>none
def He(E:Nat)(H:List (Nat×List a7)):Option (List (List a7)):=
 match boxes H (List.range E) with
 |some bQ=>bif bQ.all (tQ E)then some bQ else none
 |none=>none
def ov(H:List (List a7)):List (List a7):=H.map λb=>b.map λe=>{d:=e.d}
def uh(tt:dI)(E:Nat)(rs:List ResultVar)(R:Out→List (List a7)→Prop):cr→aM→Prop
 |.normal,st=>∃o bQ,leave tt E rs st=some (o,bQ)∧R o bQ
 |.ret,st=>∃o bQ,leave tt E rs st=some (o,bQ)∧R o bQ
 |.bf x,st=>∃bQ,He E st.H=some bQ∧R (.bf x) (ov bQ)
 |.exit _,_=>False
section
variable {P:Program} {K:Ctx} {N E:Nat} {M:Mem} {β:Nat→Option Nat} {st:aM} {tmps:Array Value} {w:World} {tt:dI}
def Hf(tmps:Array Value):ResultVar→Sem Value
 |.tmp t=>pure (tmps.getD t undef)
 |.cell a t=>do loadVar t (←asAddr (tmps.getD a undef))
def W5(h:bN P K M β st tmps w)(cz:fD P tt=true){x:ResultVar}{d:D}(hx:yM tt st x=some d):
 ∃v,(Hf tmps x).run P w = .ok v w∧cy M β v d:=by
 cases x with
 |tmp t=>
  simp only [yM,Option.map_eq_some_iff]at hx;obtain⟨e,he,rfl⟩:=hx;exact⟨_,rfl,h.fw (.slot t) e he⟩
 |cell a t=>
  simp only [yM]at hx;split at hx
  case h_2=>cases hx
  rename_i r off own aS ha aa;obtain⟨row⟩:=eK cz aa;split at hx
  case h_2=>cases hx
  rename_i cs ai;obtain⟨b,hb,av⟩:=sw (h.fw (.slot a) _ ha);simp only [cv]at av;obtain⟨bH,vs,T,bY,bn,hlen,_,_,ji,mW⟩:=h.box r cs ai;rw [hb]at bY;cases bY
  have W6:∀{u:Value},(Instr.loadAt t (.pointer (some ⟨b,off,none⟩))).run P w = .ok u w→(do loadVar t (←asAddr (tmps.getD a undef)):Sem Value).run P w = .ok u w:=by
   intro u hu;rw [av];simpa [Instr.loadAt,Instr.sureAddr,asAddr]using hu
  rw [Bool.cond_eq_ite]at hx;split at hx
  ·rename_i jO;rw [Bool.cond_eq_ite]at hx;split at hx
   case isFalse=>cases hx
   rename_i hle;simp only [Nat.ble_eq]at hle;cases hx;refine⟨_,W6 (VN (P:=P) row (off:=off) bn (by omega) jO),?_⟩
   refine GJ (by simp;omega) (λv av=>ji v (List.mem_of_mem_drop (List.mem_of_mem_take av))) (λi v c av hc=>?_)
   rw [List.getElem?_map,Option.map_eq_some_iff]at hc;obtain⟨e,he,rfl⟩:=hc;rw [List.getElem?_take]at av he;split at av
   ·rename_i hi;rw [if_pos hi,List.getElem?_drop]at he;rw [List.getElem?_drop]at av;have:=h.fw (.cell r (off+i)) e (by simp [aM.at,ai,he])
    simpa [cv,hb,cell_of_heap bn,av]using this
   ·cases av
  ·rename_i jO;simp only [Option.map_eq_some_iff]at hx;obtain⟨e,he,rfl⟩:=hx;obtain⟨jl,afj,pZ,v,fC,GT,fa,cj⟩:=No h ai he;rw [hb]at fC;cases fC;refine⟨v,W6 (NA (P:=P) row (by rw [cell_of_heap GT,fa]) (by simpa using jO)),?_⟩
   have:=h.fw (.cell r off) e (by simp [aM.at,ai,he])
   rwa [cj]at this
def W7(h:bN P K M β st tmps w)(cz:fD P tt=true):∀{xs:List ResultVar} {ds:List D},mapM' (yM tt st) xs=some ds→
 ∃vs:List Value,(xs.mapM (Hf tmps)).run P w = .ok vs w∧vs.length=ds.length∧
  ∀(i:Nat) v d,vs[i]? = some v→ds[i]? = some d→cy M β v d
 |[],ds,hx=>by simp [mapM']at hx;subst hx;exact⟨[],rfl,rfl,by simp⟩
 |x::xs,ds,hx=>by
  simp only [mapM']at hx;split at hx
  case h_2=>cases hx
  rename_i d agi hd h_;cases hx;obtain⟨v,av,gM⟩:=W5 h cz hd;obtain⟨vs,nv,aa,ai⟩:=W7 h cz h_;refine⟨v::vs,?_,by simp [aa],λi u c hu hc=>?_⟩
  ·simp only [List.mapM_cons,Sem.run_bind,av,Result.andThen_ok,nv,Sem.run_pure]
  ·cases i with
   |zero=>simp at hu hc;subst hu;subst hc;exact gM
   |succ i=>simp at hu hc;exact ai i u c hu hc
def agG{H:List (Nat×List a7)}{E:Nat}{bQ:List (List a7)}(h:boxes H (List.range E)=some bQ):bQ.length=E∧∀r,r<E→look H r=bQ[r]? ∧ (bQ[r]?).isSome=true:=by
 obtain⟨Z,ab⟩:=vT h;exact⟨by simpa using Z,λr ai=>ab r r (by simp [ai])⟩
def bN.leave(h:bN P K M β st tmps w){bQ:List (List a7)}(CV:boxes st.H (List.range E)=some bQ)(W8:bQ.all (tQ E)=true)(eG:∀r b,K.ls r=some b→r<E){v:Value}{d:D}{own:Option TypeId}
 (av:cy M β v d) (hd:below E d=true) (gk:∀T,own=some T→∃l,nt P K M β {env:=hE l st.env,H:=st.H,aW:=st.aW} tmps w (.slot 0) v T∧True):
 ∃ β',bN P K M β' {env:=[(0,{d,own})],H:=cS 0 bQ,aW:=E} #[v] w:=by
 obtain⟨aa,l5⟩:=agG CV;have Z:=h.CR #[undef]
 have kC:∀r cs,look (cS 0 bQ) r=some cs→r<E∧look st.H r=some cs:=by
  intro r cs ai;rw [nx]at ai;have cZ:r<E:=by have:=(List.getElem?_eq_some_iff.1 ai).1;omega
  exact⟨cZ,by rw [(l5 r cZ).1];exact ai⟩
 have hle:E≤st.aW∨E=0:=by
  by_cases h0:E=0
  ·exact .inr h0
  ·obtain⟨ab,aj⟩:=l5 (E-1) (by omega)
   obtain⟨cs,eu⟩:=Option.isSome_iff_exists.1 aj;rw [eu]at ab;obtain⟨b,_,_,hb,_⟩:=h.box _ cs ab;have:=h.lt _ b hb
   exact .inl (by omega)
 have ab:bN P K M β {env:=[],H:=cS 0 bQ,aW:=st.aW} #[undef] w:=by
  refine Z.sub rfl (λl e aa=>?_) (λr cs ai=>⟨cs,(kC r cs ai).2,rfl⟩)
  cases l with
  |slot s=>simp [aM.at,look]at aa
  |cell r i=>
   simp only [aM.at]at aa ⊢;cases ai:look (cS 0 bQ) r with
   |none=>simp [ai]at aa
   |some cs=>simp [ai]at aa;exact⟨e,by simp [(kC r cs ai).2,aa],rfl,λ_ h=>h⟩
 -- mo slot
 have aj:bN P K M β {env:=[(0,{d,own})],H:=cS 0 bQ,aW:=st.aW} #[v] w:=by
  have agH:=ab.put (t:=0) (v:=v) (e:={d,own}) (by simp) av (λT aH=>?_)
  ·simpa using agH
  ·obtain⟨l,hn,_⟩:=gk T aH;refine⟨hn.own,λhN e T' b fm eh _ hb bY=>?_,λb r cs hb ai=>hn.unbox b r cs hb (kC r cs ai).2⟩
   cases hN with
   |slot s=>simp [aM.at,look]at fm
   |cell r i=>
    simp only [aM.at]at fm;cases ai:look (cS 0 bQ) r with
    |none=>simp [ai]at fm
    |some cs=>
     simp [ai]at fm;exact hn.apart (.cell r i) e T' b (by simp [aM.at,(kC r cs ai).2,fm]) eh (by simp) hb bY
 refine⟨λr=>if r<E then β r else none,?_⟩
 have cj:∀l e,({env:=[(0,{d,own})],H:=cS 0 bQ,aW:=st.aW}:aM).at l=some e→cv #[v] w (λr=>if r<E then β r else none) l=cv #[v] w β l:=by
  intro l e aa;cases l with
  |slot s=>rfl
  |cell r i=>
   simp only [aM.at]at aa;cases ai:look (cS 0 bQ) r with
   |none=>simp [ai]at aa
   |some cs=>simp [cv,(kC r cs ai).1]
 have nu:∀l e,({env:=[(0,{d,own})],H:=cS 0 bQ,aW:=st.aW}:aM).at l=some e→below E e.d=true:=by
  intro l e aa;cases l with
  |slot s=>
   simp only [aM.at,dZ]at aa;split at aa
   ·cases aa;exact hd
   ·simp [look]at aa
  |cell r i=>
   simp only [aM.at]at aa;cases ai:look (cS 0 bQ) r with
   |none=>simp [ai]at aa
   |some cs=>
    simp [ai]at aa;rw [nx]at ai;rw [List.all_eq_true]at W8;exact Nv (W8 cs (List.mem_of_getElem? ai)) aa
 constructor
 ·intro l e aa;rw [cj l e aa];exact(aj.fw l e aa).VA (λr ai=>by simp [ai]) (nu l e aa)
 ·intro l e T aa aH;rw [cj l e aa];exact aj.own l e T aa aH
 ·intro l cI e bg T T' b aa aH dE eh hb bY;rw [cj l e aa]at hb;rw [cj cI bg dE]at bY;exact aj.uniq l cI e bg T T' b aa aH dE eh hb bY
 ·intro l e T b r cs aa aH hb ai;rw [cj l e aa]at hb;have:=aj.unbox l e T b r cs aa aH hb ai
  simpa [(kC r cs ai).1]using this
 ·intro r cs ai;obtain⟨b,vs,T,aC,aT⟩:=aj.box r cs ai;exact⟨b,vs,T,by simpa [(kC r cs ai).1]using aC,aT⟩
 ·intro r dw b cs cs' ai ge hb bY;exact aj.inj r dw b cs cs' ai ge (by simpa [(kC r cs ai).1]using hb) (by simpa [(kC dw cs' ge).1]using bY)
 ·intro r b hb;by_cases cZ:r<E
  ·exact cZ
  ·simp [cZ]at hb
 ·exact aj.mem
 ·exact aj.m0
 ·exact aj.frame
 ·intro r b hb;simp [eG r b hb,aj.iT r b hb]
 ·exact aj.jA
 ·exact aj.h9
def bN.era{env:List (Nat×a7)}{H:List (List a7)}{n:Nat}(h:bN P K M β {env:=env,H:=cS 0 H,aW:=n} tmps w):bN P K M β {env:=env,H:=cS 0 (ov H),aW:=n} tmps w:=by
 refine h.sub rfl (λl e aa=>?_) (λr cs ai=>?_)
 ·cases l with
  |slot s=>exact⟨e,aa,rfl,λ_ h=>h⟩
  |cell r i=>
   simp only [aM.at,nx,ov,List.getElem?_map]at aa ⊢;cases hb:H[r]? with
   |none=>simp [hb]at aa
   |some b=>
    simp only [hb,Option.map_some,Option.bind_some,List.getElem?_map,Option.map_eq_some_iff]at aa;obtain⟨b4,h0,rfl⟩:=aa;exact⟨b4,by simpa using h0,rfl,λT aH=>by cases aH⟩
 ·simp only [nx,ov,List.getElem?_map,Option.map_eq_some_iff]at ai ⊢;obtain⟨b,hb,rfl⟩:=ai;exact⟨b,hb,by simp⟩
def CW{fn:Func}{E:Nat}{fX:Array Value}{w':World}{b9:aM}{M':Mem}{β':Nat→Option Nat}{o:Out}{bQ:List (List a7)}(cz:fD P tt=true)(eG:∀r b,K.ls r=some b→r<E)(hs:bN P K M' β' b9 fX w')
 (aa:Ab.leave tt E fn.results.toList b9=some (o,bQ)):
 ∃v,(results fn fX).run P w' = .ok v w'∧∃m6 M' β',Ending.returned v=t' o m6∧bN P K M' β' {env:=iy o,H:=cS 0 bQ,aW:=E} #[m6] w':=by
 unfold Ab.leave at aa;split at aa
 case h_2=>cases aa
 rename_i d own H1 jn CV;rw [Bool.cond_eq_ite]at aa;split at aa
 case isFalse=>cases aa
 rename_i hc;simp only [Bool.and_eq_true]at hc;cases aa
 -- mo value of mo results
 have cj:∃v,(results fn fX).run P w' = .ok v w'∧cy M' β' v d∧∀T,own=some T→∃l,nt P K M' β' {env:=hE l b9.env,H:=b9.H,aW:=b9.aW} fX w' (.slot 0) v T∧True:=by
  have hm:∀{vs:List Value},(fn.results.toList.mapM (Hf fX)).run P w' = .ok vs w'→
   (results fn fX).run P w' = .ok (if h:vs.length=1 then vs[0]else .tuple ⟨vs⟩) w':=by
   intro vs nv
   have jn:results fn fX=(do let vs ←fn.results.mapM (Hf fX);pure (if h:vs.size=1 then vs[0]else .tuple vs)):=by
    unfold results
    congr 2
   rw [jn,show fn.results=⟨fn.results.toList⟩from rfl,List.mapM_toArray]
   simp only [Sem.run_bind,Sem.run_map,nv,Result.andThen_ok,Sem.run_pure];simp
  unfold W4 at jn;split at jn
  ·rename_i t aF;simp only [Option.map_eq_some_iff,Prod.mk.injEq]at jn;obtain⟨e,he,rfl,rfl⟩:=jn;have ix:=hs.fw (.slot t) e he;refine⟨fX.getD t undef,?_,ix,λT aH=>⟨[t],hs.hand he aH (.slot 0),trivial⟩⟩
   have:=hm (vs:=[fX.getD t undef]) (by rw [aF];rfl)
   simpa using this
  ·rename_i x di hx;simp only [Option.map_eq_some_iff,Prod.mk.injEq]at jn;obtain⟨dD,kv,rfl,rfl⟩:=jn;obtain⟨v,av,gM⟩:=W5 hs cz kv;refine⟨v,?_,gM,by simp⟩
   have:=hm (vs:=[v]) (by rw [hx];simp only [List.mapM_cons,List.mapM_nil,Sem.run_bind,av,Result.andThen_ok,Sem.run_pure])
   simpa using this
  ·simp only [Option.map_eq_some_iff,Prod.mk.injEq]at jn;obtain⟨ds,h_,rfl,rfl⟩:=jn;obtain⟨vs',nv,aa,gM⟩:=W7 hs cz h_;refine⟨.tuple ⟨vs'⟩,?_,.cA vs' ds aa gM,by simp⟩
   have di:vs'.length≠1:=by
    rename_i Z ab;rw [aa,(tV h_).1];intro bn;obtain⟨x,hx⟩:=List.length_eq_one_iff.1 bn;exact ab x hx
   have:=hm nv
   simpa [di]using this
 obtain⟨v,fg,gM,gk⟩:=cj;obtain⟨CX,nz⟩:=hs.leave CV hc.2 eG gM hc.1 gk;exact⟨v,fg,v,M',CX,rfl,nz⟩
def bN.wi{P:Program}{K:Ctx}{M:Mem}{β:Nat→Option Nat}{st:aM}{tmps:Array Value}{w:World}(h:bN P K M β st tmps w)(ds:List Deferred):bN P {K with ds:=ds} M β st tmps w:=
 ⟨h.fw,h.own,h.uniq,h.unbox,h.box,h.inj,h.lt,h.mem,h.m0,h.frame,h.iT,h.jA,h.h9⟩
def OD{args:List D}{er:List (Nat×TypeId)}{H:List (List a7)}{vs:List Value}{n:Nat}(hlen:vs.length=args.length)(cP:bN P K M β {env:=hX args er,H:=cS 0 H,aW:=H.length} ⟨vs⟩ w):
 bN P K M β {env:=hX args er,H:=cS 0 H,aW:=H.length} ((⟨vs⟩:Array Value)++Array.replicate n undef) w:=by
 have av:∀l e,({env:=hX args er,H:=cS 0 H,aW:=H.length}:aM).at l=some e→cv ((⟨vs⟩:Array Value)++Array.replicate (n) undef) w β l=cv ⟨vs⟩ w β l:=by
  intro l e aa;cases l with
  |slot s=>
   simp only [aM.at,hX,nx,CB,Option.map_eq_some_iff]at aa;obtain⟨d,hd,_⟩:=aa;have hs:s<vs.length:=by have:=(List.getElem?_eq_some_iff.1 hd).1;omega
   simp only [cv,Array.getD_eq_getD_getElem?];rw [Array.getElem?_append_left (by simpa using hs)]
  |cell r i=>rfl
 constructor
 ·intro l e aa;rw [av l e aa];exact cP.fw l e aa
 ·intro l e T aa aH;rw [av l e aa];exact cP.own l e T aa aH
 ·intro l cI e bg T T' b aa aH dE eh hb bY;rw [av l e aa]at hb;rw [av cI bg dE]at bY;exact cP.uniq l cI e bg T T' b aa aH dE eh hb bY
 ·intro l e T b r cs aa aH hb ai;rw [av l e aa]at hb;exact cP.unbox l e T b r cs aa aH hb ai
 ·exact cP.box
 ·exact cP.inj
 ·exact cP.lt
 ·exact cP.mem
 ·exact cP.m0
 ·exact cP.frame
 ·exact cP.iT
 ·exact cP.jA
 ·exact cP.h9
def q8.of_wp {f : FuncId} {fn : Func} {c : Code} {args : List D} {er : List (Nat × TypeId)} {H : List (List a7)} {R : Out → List (List a7) → Prop} (cz : fD P tt = true) (aY : P.funcs[f]? = some fn) (hb : fn.body = some c) (jQ : decide (fn.name = "runtime.NumGoroutine") = false)
 (e8:Nat.ble args.length fn.ntmps=true) (h:a_ P fn.ntmps H.length c (uh tt H.length fn.results.toList R) {env:=hX args er,H:=cS 0 H,aW:=H.length}):q8 P f args er H R:=by
 refine⟨⟨fn,aY,by rw [hb];rfl,by simpa using jQ⟩,?_⟩
 intro cq w vs M β hlen OE OF
 suffices key:∀K:Ctx,K.ds=[]→bN P K M β {env:=hX args er,H:=cS 0 H,aW:=H.length} ⟨vs⟩ w→(∀r b,β r=some b→K.ls r=some b)→
  Calls P f ⟨vs⟩ w λe w'=>∃o bQ v M' β',R o bQ∧e=t' o v∧bN P K M' β' {env:=iy o,H:=cS 0 bQ,aW:=H.length} #[v] w' from
  (key {cq with ds:=[]} rfl (OE.wi []) OF).mono λe w' ⟨o,bQ,v,M',β',Z,ab,aj⟩=>⟨o,bQ,v,M',β',Z,ab,aj.wi cq.ds⟩
 intro K h_ cP hF;have eG:∀r b,K.ls r=some b→r<H.length:=λr b hb=>cP.lt r b (cP.iT r b hb)
 simp only [Nat.ble_eq]at e8;have agI:=OD (n:=fn.ntmps-(⟨vs⟩:Array Value).size) hlen cP;have agJ:=h K eG {tmps:=(⟨vs⟩:Array Value)++Array.replicate (fn.ntmps-(⟨vs⟩:Array Value).size) undef,defers:=[]} w ⟨rfl,h_.symm,by simp;omega,M,β,agI⟩
 refine calls_of_wp aY hb (wp_mono agJ ?_)
 have fin:∀(eb:Act) (w':World) (b9:aM) M' β',bN P K M' β' b9 eb.tmps w'→(∃o bQ,Ab.leave tt H.length fn.results.toList b9=some (o,bQ)∧R o bQ)→
  ∃v,(results fn eb.tmps).run P w' = .ok v w'∧∃o bQ m6 M' β',R o bQ∧Ending.returned v=t' o m6∧bN P K M' β' {env:=iy o,H:=cS 0 bQ,aW:=H.length} #[m6] w':=by
  intro eb w' b9 M' β' hs ⟨o,bQ,aa,gp⟩;obtain⟨v,Z,m6,Ct,Cu,ab,aj⟩:=CW cz eG hs aa;exact⟨v,Z,o,bQ,m6,Ct,Cu,gp,ab,aj⟩
 rintro e eb w' ⟨fP,b9,Z,ab⟩
 cases fP with
 |normal=>
  obtain⟨rfl,hd,_,M',β',hs⟩:=Z;exact⟨hd.trans h_,fin eb w' b9 M' β' hs ab⟩
 |ret=>
  obtain⟨rfl,hd,_,M',β',hs⟩:=Z;exact⟨hd.trans h_,fin eb w' b9 M' β' hs ab⟩
 |exit i=>exact ab.elim
 |bf x=>
  obtain⟨v,rfl,hd,M',β',gM,hs⟩:=Z;obtain⟨H1,aa,gp⟩:=ab;unfold He at aa;split at aa
  case h_2=>cases aa
  rename_i cL CV;rw [Bool.cond_eq_ite]at aa;split at aa
  case isFalse=>cases aa
  rename_i hc;cases aa;obtain⟨CX,nz⟩:=hs.leave (own:=none) CV hc eG (.v v x gM) rfl (by simp)
  exact⟨hd.trans h_,.bf x,ov H1,v,M',CX,gp,rfl,nz.era⟩
end
def k3:List Prop→Prop
 |[]=>True
 |p::l=>p∧k3 l
def k3.mem:∀{l:List Prop},k3 l→∀q,q∈l→q
 |[],_,q,h=>by cases h
 |p::l,hp,q,h=>by
  rcases List.mem_cons.1 h with rfl|h
  ·exact hp.1
  ·exact k3.mem hp.2 q h
section
variable {P:Program} {N E:Nat} {st:aM} {tt:dI}
def a_.cut{x y:Code}{Q:cr→aM→Prop}(J:aM→Prop)(Z:a_ P N E x (cr.then J Q) st)(ab:∀b9,J b9→a_ P N E y Q b9):a_ P N E (.seq x y) Q st:=
 a_.seq (Z.mono λfP b9 h=>by cases fP<;>first|exact ab b9 h|exact h)
def cr.pd{next:aM→Prop}{Q:cr→aM→Prop}(h:next st):cr.then next Q .normal st:=h
def cr.W9{next:aM→Prop}{Q:cr→aM→Prop}{x:V}(h:Q (.bf x) st):cr.then next Q (.bf x) st:=h
def cr.agK{Q:cr→aM→Prop}{i:Nat}(h:Q .normal st):cr.inBlock i Q (.exit i) st:=by simpa [cr.inBlock]using h
def cr.agL{Q:cr→aM→Prop}{i j:Nat}(di:Nat.beq j i=false)(h:Q (.exit j) st):cr.inBlock i Q (.exit j) st:=by
 have:j≠i:=by rintro rfl;simp at di
 simpa [cr.inBlock,this]using h
def agM {f : FuncId} {fn : Func} {c : Code} {args : List D} {er : List (Nat × TypeId)} {H cL : List (List a7)} {out : Out} (cz : fD P tt = true) (aY : P.funcs[f]? = some fn) (hb : fn.body = some c) (jQ : decide (fn.name = "runtime.NumGoroutine") = false)
 (e8:Nat.ble args.length fn.ntmps=true) (h:a_ P fn.ntmps H.length c (uh tt H.length fn.results.toList λo bQ=>o=out∧bQ=cL) {env:=hX args er,H:=cS 0 H,aW:=H.length}):gY P f args er H out cL:=
 q8.of_wp cz aY hb jQ e8 h
def agN{rs:List ResultVar}{out:Out}{cL:List (List a7)}(h:leave tt E rs st=some (out,cL)):uh tt E rs (λo bQ=>o=out∧bQ=cL) .ret st:=⟨out,cL,h,rfl,rfl⟩
def OG{rs:List ResultVar}{out:Out}{cL:List (List a7)}(h:leave tt E rs st=some (out,cL)):uh tt E rs (λo bQ=>o=out∧bQ=cL) .normal st:=⟨out,cL,h,rfl,rfl⟩
def agO{rs:List ResultVar}{x:V}{cL:List (List a7)}(h:(He E st.H).map ov=some cL):uh tt E rs (λo bQ=>o = .bf x∧bQ=cL) (.bf x) st:=by
 rw [Option.map_eq_some_iff]at h;obtain⟨bQ,Z,ab⟩:=h;exact⟨bQ,Z,rfl,ab⟩
end
def ax{α:Type}(b:Bool)(x:Option α):Option α:=bif b then x else none
def sJ{α:Type}{b:Bool}{x:Option α}{r:α}(h:ax b x=some r):b=true∧x=some r:=by
 cases b
 ·cases h
 ·exact⟨rfl,h⟩
def bind_some{α β:Type}{x:Option α}{f:α→Option β}{r:β}(h:Option.bind x f=some r):∃a,x=some a∧f a=some r:=Option.bind_eq_some_iff.1 h
def c7{α:Type}{b:Bool}{x y z:α}(hb:b=true)(h:(bif b then x else y)=z):x=z:=by subst hb;exact h
def hq{c x:Bool}(h:(!c||x)=true)(hc:c=true):x=true:=by subst hc;simpa using h
def eU{c x:Bool}(h:(c||x)=true)(hc:c=false):x=true:=by subst hc;simpa using h
def ag{α:Type}[Inhabited α](k:Nat)(e:α→V)(l:List α):V:=.bI k l.length λi=>e (l.getD i default)
def ib(x:V):hD x x:=λ_ _ h=>h
def re{k n:Nat}{g e4:Nat→V}(h:∀i,i<n→g i=e4 i):hD (.bI k n g) (.bI k n e4):=by
 intro M v av;cases av with
 |mh=>exact .mh _ _
 |pS=>exact .pS _ _ _
 |bI b off k n cap g val hc hk cV Z ai=>
  exact .bI b off k n cap e4 val hc (λi hi=>by rw [←h i hi];exact hk i hi) cV Z (λi j c hi l2=>ai i j c hi (by rw [h i hi];exact l2))
def agP{α:Type}[Inhabited α]{k:Nat}{e:α→V}{xs:List V}{l:List α}(h:xs=l.map e)(n:Nat)(hn:n=l.length):hD (.bI k n λi=>xs.getD i .eC) (ag k e l):=by
 subst h;subst hn;refine re λi hi=>?_
 simp [List.getD,List.getElem?_eq_getElem hi]
def iz{α:Type}[Inhabited α]{k:Nat}{e:α→V}(l kh:List α):hD (.bI k (l.length+kh.length) λi=>bif Nat.blt i l.length then e (l.getD i default)else e (kh.getD (i-l.length) default)) (ag k e (l++kh)):=by
 rw [ag,List.length_append];refine re λi hi=>?_
 by_cases h:i<l.length
 ·have hb:Nat.blt i l.length=true:=by simpa using h
  simp [hb,List.getD,List.getElem?_append_left h]
 ·have hb:Nat.blt i l.length=false:=by rw [Bool.eq_false_iff];simpa using h
  simp [hb,List.getD,List.getElem?_append_right (Nat.le_of_not_lt h)]
def W'(l:List Int)(s:aux):hD (.bI 1 (l.length+s.length) λi=>bif Nat.blt i l.length then .int .u8 (l.getD i default)else .int .u8 (s.getD (i-l.length) 0).toNat) (ag 1 (λx=>.int .u8 x) (l++s.map λb=>(b.toNat:Int))):=by
 have aa:(l++s.map λb=>(b.toNat:Int)).length=l.length+s.length:=by simp
 rw [ag,aa];refine re λi hi=>?_
 by_cases h:i<l.length
 ·have hb:Nat.blt i l.length=true:=by simpa using h
  simp [hb,List.getD,List.getElem?_append_left h]
 ·have hb:Nat.blt i l.length=false:=by rw [Bool.eq_false_iff];simpa using h
  have ab:i-l.length<s.length:=by omega
  simp [hb,List.getD,List.getElem?_append_right (Nat.le_of_not_lt h),ab]
def W_{α:Type}[Inhabited α]{k:Nat}{e:α→V}(l:List α)(b:Int)(h:0≤b∧b≤l.length):hD (.bI k b.toNat λi=>e (l.getD i default)) (ag k e (l.take b.toNat)):=by
 have:(l.take b.toNat).length=b.toNat:=by simp;omega
 rw [ag,this];exact re λi hi=>by simp [List.getD,hi]
end Go.Ab

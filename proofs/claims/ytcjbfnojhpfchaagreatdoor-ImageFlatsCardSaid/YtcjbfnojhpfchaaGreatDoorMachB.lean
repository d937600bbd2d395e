/- The abstract machine: a step of code over plain data, proved against the model. -/
import Derived.Laws.Build
import Derived.Laws.IdiomStrings
import Derived.Test.YtcjbfnojhpfchaaGreatDoorMachA
set_option linter.all false
namespace Go.Ab
def sl:Nat→List D→List (Nat×TypeId)→List a7
 |_,[],_=>[]
 |i,d::l,eo=>{d,own:=look eo i}::sl (i+1) l eo
def hV(args:List D)(eo:List (Nat×TypeId)):List (Nat×a7):=cQ 0 (sl 0 args eo)
def BV:∀(l:List D) (k i:Nat) (eo:List (Nat×TypeId)),(sl k l eo)[i]? = (l[i]?).map λd=>({d,own:=look eo (k+i)}:a7)
 |[],k,i,eo=>by simp [sl]
 |d::l,k,i,eo=>by
  cases i with
  |zero=>simp [sl]
  |succ i=>
   simp only [sl,List.getElem?_cons_succ,BV l (k+1) i eo];rw [show k+1+i=k+(i+1)by omega]
def iv:Out→List (Nat×a7)
 |.ret d own=>[(0,{d,own})]
 |.bf x=>[(0,{d:=.v x})]
def tE:Out→Value→Ending
 |.ret _ _,v=>.returned v
 |.bf _,v=>.panicked [{v,recovered:=false}]
def qT(P:Program)(f:FuncId)(args:List D)(eo:List (Nat×TypeId))(H:List (List a7))(R:Out→List (List a7)→Prop):Prop:=
 (∃ fd, P.funcs[f]? = some fd ∧ fd.body.isSome = true ∧ fd.name ≠ "runtime.NumGoroutine") ∧
 ∀(K:Ctx) (w:World) (vs:List Value) (M:Mem) (β:Nat→Option Nat),vs.length=args.length→
  bN P K M β {env:=hV args eo,H:=cQ 0 H,aX:=H.length} ⟨vs⟩ w→(∀r b,β r=some b→K.lq r=some b)→
  Calls P f ⟨vs⟩ w λe w'=>∃o bP v M' β',R o bP∧e=tE o v∧bN P K M' β' {env:=iv o,H:=cQ 0 bP,aX:=H.length} #[v] w'
def qT.mono{P:Program}{f:FuncId}{args:List D}{eo:List (Nat×TypeId)}{H:List (List a7)}{R nq:Out→List (List a7)→Prop}(h:qT P f args eo H R)(ai:∀o bP,R o bP→nq o bP):qT P f args eo H nq:=
 ⟨h.1,λK w vs M β ab hs hb=>(h.2 K w vs M β ab hs hb).mono λ_ _ ⟨o,bP,v,M',β',Z,aa,aj⟩=>⟨o,bP,v,M',β',ai _ _ Z,aa,aj⟩⟩
def gW(P:Program)(f:FuncId)(args:List D)(eo:List (Nat×TypeId))(H:List (List a7))(o:Out)(cJ:List (List a7)):Prop:=qT P f args eo H λo' bP=>o'=o∧bP=cJ
def jL(P:Program):gD:={call:=gW P,eq:=MW P}
def V3{α:Type}:∀(l:List α) (n i:Nat),look (cQ n l) i=if n≤i then l[i-n]? else none
 |[],n,i=>by simp [cQ,look]
 |x::l,n,i=>by
  simp only [cQ,dX,V3 l (n+1) i];by_cases Z:n=i
  ·subst Z;simp
  ·rw [if_neg Z];by_cases aa:n≤i
   ·rw [if_pos (by omega),if_pos aa]
    obtain⟨j,rfl⟩:∃j,i=n+1+j:=⟨i-(n+1),by omega⟩
    rw [show n+1+j-(n+1)=j by omega,show n+1+j-n=j+1 by omega]
    simp
   ·rw [if_neg (by omega),if_neg aa]
def nr{α:Type}(l:List α)(i:Nat):look (cQ 0 l) i=l[i]? := by simp [V3]
def Gj:∀{ρ:List Nat} {r j:Nat},idx ρ r=some j→ρ[j]? = some r
 |[],_,_,h=>by simp [idx]at h
 |x::l,r,j,h=>by
  simp only [idx]at h;rw [Bool.cond_eq_ite]at h;split at h
  ·rename_i hb;cases h;simp at hb;simp [hb]
  ·simp only [Option.map_eq_some_iff]at h;obtain⟨k,hk,rfl⟩:=h;simpa using Gj hk
def Gk:∀{l:List Nat},nl l=true→∀(i j:Nat) r,l[i]? = some r→l[j]? = some r→i=j
 |[],_,i,_,_,h,_=>by simp at h
 |x::l,h,i,j,r,hi,hj=>by
  simp only [nl,Bool.and_eq_true,Bool.not_eq_true',List.any_eq_false]at h;have hx:∀k,l[k]? = some x→False:=λk hk=>by have:=h.1 x (List.mem_of_getElem? hk);simp at this
  cases i<;>cases j
  ·rfl
  ·simp at hi hj;subst hi;exact(hx _ hj).elim
  ·simp at hi hj;subst hj;exact(hx _ hi).elim
  ·simp at hi hj;rw [Gk h.2 _ _ r hi hj]
def vn{H:List (Nat×List a7)}:∀{ρ:List Nat} {bs:List (List a7)},boxes H ρ=some bs→bs.length=ρ.length∧∀(j r:Nat),ρ[j]? = some r→look H r=bs[j]? ∧ (bs[j]?).isSome=true
 |[],bs,h=>by simp [boxes]at h;subst h;simp
 |x::ρ,bs,h=>by
  simp only [boxes]at h;split at h
  case h_2=>cases h
  rename_i b pO hb kY;cases h;obtain⟨Z,aa⟩:=vn kY;refine⟨by simp [Z],λj r hj=>?_⟩
  cases j with
  |zero=>simp at hj;subst hj;simp [hb]
  |succ j=>simp at hj;simpa using aa j r hj
def x1{f:Nat→Option Nat}:∀{b bG:List a7},nk f b=some bG→bG.length=b.length∧∀(i:Nat) bg,bG[i]? = some bg→∃e,b[i]? = some e∧eB f e.d=some bg.d∧bg.own=e.own
 |[],bG,h=>by simp [nk]at h;subst h;simp
 |e::l,bG,h=>by
  simp only [nk]at h;split at h
  case h_2=>cases h
  rename_i e1 hK he ab;cases h;obtain⟨Z,aa⟩:=x1 ab;refine⟨by simp [Z],λi bg hi=>?_⟩
  cases i with
  |zero=>
   simp at hi;subst hi
   simp only [FZ,Option.map_eq_some_iff]at he;obtain⟨d,hd,rfl⟩:=he;exact⟨e,by simp,hd,rfl⟩
  |succ i=>simp at hi;simpa using aa i bg hi
def aeY{f:Nat→Option Nat}{d:D}{r off:Nat}{u:TypeId}(h:eB f d=some (.ct r off u)):∃dG,d = .ct dG off u:=by
 cases d with
 |ct dG asd ob=>
  simp only [eB,Option.map_eq_some_iff]at h;obtain⟨s,_,aa⟩:=h;cases aa;exact⟨dG,rfl⟩
 |v x=>simp [eB]at h
 |e6 x=>simp [eB]at h
 |full k n get=>simp [eB]at h
 |ptr dG o=>simp [eB]at h
 |fn g c=>simp [eB]at h
 |agg c=>simp [eB]at h
 |cw c=>simp [eB]at h
def lr.eB{P:Program}{T:TypeId}{n:Nat}{f:Nat→Option Nat}{b bG:List a7}(h:lr P T n b)(ai:nk f b=some bG):lr P T n bG:=λe he r off u hd=>by
 obtain⟨i,hi,rfl⟩:=List.getElem_of_mem he;obtain⟨b3,Z,aa,_⟩:=(x1 ai).2 i _ (List.getElem?_eq_getElem hi);rw [hd]at aa;obtain⟨dG,aj⟩:=aeY aa;exact h b3 (List.mem_of_getElem? Z) dG off u aj
def x2{f:Nat→Option Nat}:∀{bs pO:List (List a7)},j' f bs=some pO→pO.length=bs.length∧∀(j:Nat) bG,pO[j]? = some bG→∃b,bs[j]? = some b∧nk f b=some bG
 |[],pO,h=>by simp [j']at h;subst h;simp
 |b::l,pO,h=>by
  simp only [j']at h;split at h
  case h_2=>cases h
  rename_i cY hK hb ab;cases h;obtain⟨Z,aa⟩:=x2 ab;refine⟨by simp [Z],λj bG hj=>?_⟩
  cases j with
  |zero=>simp at hj;subst hj;exact⟨b,by simp,hb⟩
  |succ j=>simp at hj;simpa using aa j bG hj
def Nu{H:List (Nat×List a7)}:∀{ρ:List Nat} {bs:List (List a7)},bs.length=ρ.length→nl ρ=true→∀r,
 (∀(j:Nat),ρ[j]? = some r→look (lp ρ bs++H) r=bs[j]?)∧((∀(j:Nat),ρ[j]? ≠ some r)→look (lp ρ bs++H) r=look H r)
 |[],bs,_,_,r=>by simp [lp]
 |x::ρ,[],h,_,_=>by simp at h
 |x::ρ,b::bs,h,hn,r=>by
  have F8:nl ρ=true:=by simp [nl]at hn;exact hn.2
  obtain⟨Z,aa⟩:=Nu (H:=H) (ρ:=ρ) (bs:=bs) (by simpa using h) F8 r
  simp only [lp,List.cons_append,dX];refine⟨λj hj=>?_,λhj=>?_⟩
  ·by_cases hx:x=r
   ·have:j=0:=Gk hn j 0 r hj (by simp [hx])
    subst this;simp [hx]
   ·cases j with
    |zero=>simp at hj;exact(hx hj).elim
    |succ j=>simp at hj;rw [if_neg hx];simpa using Z j hj
  ·have hx:x≠r:=λe=>hj 0 (by simp [e])
   rw [if_neg hx];exact aa λj=>by simpa using hj (j+1)
section
variable {P:Program} {K:Ctx} {N:Nat} {M:Mem} {β:Nat→Option Nat} {st:aK} {g:dk} {tmps:Array Value} {w:World} {o:Oper} {f:lm} {p:Path} {tt:dI} {cd:gD} {ops:List Oper}
def BW(ρ os:List Nat):Loc→Prop
 |.cell r _=>r∈ρ
 |.slot t=>t∈os
def qU(st:aK)(tmps:Array Value)(w:World)(β:Nat→Option Nat)(ρ os:List Nat)(b:Nat):Prop:=
 (∃r,r∈ρ∧β r=some b)∨∃l e T,BW ρ os l∧st.at l=some e∧e.own=some T∧h8 (cu tmps w β l)=some b
open Classical in
noncomputable def ky(M:Mem)(β:Nat→Option Nat)(st:aK)(tmps:Array Value)(w:World)(ρ os:List Nat):Ctx:=
 {BD:=M,F:=λb=>if qU st tmps w β ρ os b then none else w.heap[b]?,lq:=λj=>(ρ[j]?).bind β,h7:=(w.os,w.output)}
structure Handed(st:aK)(tmps:Array Value)(vs:List Value)(hd:List (Nat×Option Nat×TypeId)):Prop where
 some:∀i t T,(i,Option.some t,T)∈hd→∃e,st.at (.slot t)=Option.some e∧e.own=Option.some T∧vs[i]? = Option.some (tmps.getD t undef)
 none:∀i T,(i,Option.none,T)∈hd→vs[i]? = Option.some (.slice Option.none 0 0)
 inj:∀i j t T T',(i,Option.some t,T)∈hd→(j,Option.some t,T')∈hd→i=j
def tF(hd:List (Nat×Option Nat×TypeId)):List (Nat×TypeId):=hd.map λx=>(x.1,x.2.2)
def qV(hd:List (Nat×Option Nat×TypeId)):List Nat:=hd.filterMap λx=>x.2.1
def aeZ{hd:List (Nat×Option Nat×TypeId)}{i:Nat}{T:TypeId}(h:look (tF hd) i=some T):∃o,(i,o,T)∈hd:=by
 have:=sc h
 simp only [tF,List.mem_map]at this;obtain⟨⟨a,o,T'⟩,Z,aa⟩:=this;cases aa;exact⟨o,Z⟩
def ae0{hd:List (Nat×Option Nat×TypeId)}{i t:Nat}{T:TypeId}(h:(i,some t,T)∈hd):t∈qV hd:=by
 simp only [qV,List.mem_filterMap];exact⟨_,h,rfl⟩
def Gl(ρ:List Nat)(hd:List (Nat×Option Nat×TypeId))(T:TypeId):Loc→Loc→Prop
 |.cell j i,.cell r mT=>i=mT∧ρ[j]? = some r
 |.slot s,.slot t=>(s,some t,T)∈hd
 |_,_=>False
def V4(h:bN P K M β st tmps w){ρ:List Nat}{bs H1:List (List a7)}(hn:nl ρ=true)(kY:boxes st.H ρ=some bs)(mm:j' (idx ρ) bs=some H1){ds jH:List D}{vs:List Value}
 (hlen:vs.length=ds.length) (aw:∀(i:Nat) v d,vs[i]? = some v→ds[i]? = some d→cy M β v d) (e7:ln (idx ρ) ds=some jH) {hd:List (Nat×Option Nat×TypeId)} (vo:Handed st tmps vs hd):
 bN P (ky M β st tmps w ρ (qV hd)) M (λj=>(ρ[j]?).bind β) {env:=hV jH (tF hd),H:=cQ 0 H1,aX:=H1.length} ⟨vs⟩ w:=by
 obtain⟨c',fA⟩:=vn kY;obtain⟨iu,iR⟩:=x2 mm;obtain⟨ase,ae1⟩:=xO e7
 have V5:∀{v d dE},cy M β v d→eB (idx ρ) d=some dE→cy M (λj=>(ρ[j]?).bind β) v dE:=by
  intro v d dE hd kt;exact hd.eB (λr s b hs hb=>by rw [Gj hs];simpa using hb) kt
 -- a cell of ml Nv is a cell of ours
 have ih:∀j i bg,({env:=hV jH (tF hd),H:=cQ 0 H1,aX:=H1.length}:aK).at (.cell j i)=some bg→∃(r:Nat) (e:a7),ρ[j]? = some r∧st.at (.cell r i)=some e∧eB (idx ρ) e.d=some bg.d∧bg.own=e.own∧
  cu ⟨vs⟩ w (λj=>(ρ[j]?).bind β) (.cell j i)=cu tmps w β (.cell r i):=by
  intro j i bg he;simp only [aK.at,nr]at he;cases hj:H1[j]? with
  |none=>simp [hj]at he
  |some bG=>
   simp only [hj,Option.bind_some]at he;obtain⟨b,hb,oc⟩:=iR j bG hj;have vp:j<ρ.length:=by have:=(List.getElem?_eq_some_iff.1 hb).1;omega
   have lZ:ρ[j]? = some ρ[j]:=List.getElem?_eq_getElem vp;obtain⟨ab,_⟩:=fA j _ lZ;obtain⟨_,Nw⟩:=x1 oc;obtain⟨e,si,Nx,Ny⟩:=Nw i bg he;exact⟨_,e,lZ,by simp [aK.at,ab,hb,si],Nx,Ny,by simp [cu,lZ]⟩
 have V6:∀s bg,({env:=hV jH (tF hd),H:=cQ 0 H1,aX:=H1.length}:aK).at (.slot s)=some bg→bg.own=look (tF hd) s∧∃v d,vs[s]? = some v∧ds[s]? = some d∧eB (idx ρ) d=some bg.d:=by
  intro s bg he;simp only [aK.at,hV,nr,BV,Option.map_eq_some_iff]at he;obtain⟨dE,kt,rfl⟩:=he;have hs:s<jH.length:=(List.getElem?_eq_some_iff.1 kt).1;have h9:ds[s]? = some ds[s]:=List.getElem?_eq_getElem (by omega)
  obtain⟨d1,gE,ae2⟩:=ae1 s _ h9;rw [kt]at gE;cases gE;exact⟨by simp,_,_,List.getElem?_eq_getElem (by omega),h9,ae2⟩
 -- asf 'own' place of ml Nv is one of ours
 have Gm:∀cG bg T,({env:=hV jH (tF hd),H:=cQ 0 H1,aX:=H1.length}:aK).at cG=some bg→bg.own=some T→
  cu ⟨vs⟩ w (λj=>(ρ[j]?).bind β) cG = .slice none 0 0∨∃l e,Gl ρ hd T cG l∧BW ρ (qV hd) l∧st.at l=some e∧e.own=some T∧cu ⟨vs⟩ w (λj=>(ρ[j]?).bind β) cG=cu tmps w β l:=by
  intro cG bg T ab aG;cases cG with
  |slot s=>
   obtain⟨av,v,d,Z,aa,aj⟩:=V6 s bg ab;rw [av]at aG;obtain⟨o,hm⟩:=aeZ aG;have cj:cu (⟨vs⟩:Array Value) w (λj=>(ρ[j]?).bind β) (.slot s)=v:=by simp [cu,Z]
   cases o with
   |none=>
    have:=vo.none s T hm
    rw [Z]at this;cases this;exact .inl cj
   |some t=>
    obtain⟨e,aC,aT,bQ⟩:=vo.some s t T hm;rw [Z]at bQ;cases bQ;exact .inr ⟨.slot t,e,hm,ae0 hm,aC,aT,cj⟩
  |cell j i=>
   obtain⟨r,e,lZ,he,_,gk,cj⟩:=ih j i bg ab;exact .inr ⟨.cell r i,e,⟨rfl,lZ⟩,List.mem_of_getElem? lZ,he,by rw [←gk,aG],cj⟩
 have ae3:∀T T' hK ke l,Gl ρ hd T hK l→Gl ρ hd T' ke l→hK=ke:=by
  intro T T' hK ke l Z aa;cases hK<;>cases ke<;>cases l<;>simp only [Gl]at Z aa
  ·rw [vo.inj _ _ _ _ _ Z aa]
  ·obtain⟨rfl,aj⟩:=Z;obtain⟨rfl,aC⟩:=aa;rw [Gk hn _ _ _ aj aC]
 have kz:∀j cs',look (cQ 0 H1) j=some cs'→∃(r:Nat) (cs:List a7),ρ[j]? = some r∧look st.H r=some cs∧cs.length=cs'.length∧∃f,nk f cs=some cs':=by
  intro j cs' hj;rw [nr]at hj;obtain⟨b,hb,oc⟩:=iR j cs' hj;have vp:j<ρ.length:=by have:=(List.getElem?_eq_some_iff.1 hb).1;omega
  have lZ:ρ[j]? = some ρ[j]:=List.getElem?_eq_getElem vp;obtain⟨ab,_⟩:=fA j _ lZ;exact⟨_,b,lZ,by rw [ab,hb],(x1 oc).1.symm,_,oc⟩
 constructor
 ·intro l bg ab;cases l with
  |slot s=>
   obtain⟨_,v,d,Z,aa,aj⟩:=V6 s bg ab;have:=V5 (aw s v d Z aa) aj
   simpa [cu,Z]using this
  |cell j i=>
   obtain⟨r,e,lZ,he,oc,_,cj⟩:=ih j i bg ab;rw [cj];exact V5 (h.fv _ e he) oc
 ·intro cG bg T ab aG;rcases Gm cG bg T ab aG with h0|⟨l,e,_,bm,he,eg,cj⟩
  ·rw [h0];exact .inl rfl
  ·rw [cj];rcases h.own _ e T he eg with h0|⟨b,n,cap,kU,T',Z,aa,aj,aC,aT,bQ,sg⟩
   ·exact .inl h0
   ·refine .inr ⟨b,n,cap,kU,T',Z,aa,aj,aC,aT,?_,sg⟩;simp only [ky];rw [if_pos];exact .inr ⟨l,e,T,bm,he,eg,by rw [Z];rfl⟩
 ·intro hK ke e1 e2 T T' b ab aG dF eg hb bY;rcases Gm hK e1 T ab aG with h0|⟨l,e,aF,bm,he,Nz,cj⟩
  ·rw [h0]at hb;cases hb
  rcases Gm ke e2 T' dF eg with h0|⟨cG,bg,eK,BU,sm,ae4,qO⟩
  ·rw [h0]at bY;cases bY
  rw [cj]at hb;rw [qO]at bY;have:=h.uniq _ _ e bg T T' b he Nz sm ae4 hb bY
  subst this;exact ae3 _ _ _ _ _ aF eK
 ·intro cG bg T b j cs' ab aG hb hj;rcases Gm cG bg T ab aG with h0|⟨l,e,aF,bm,he,Nz,cj⟩
  ·rw [h0]at hb;cases hb
  rw [cj]at hb;obtain⟨r2,cs,ae5,et,_⟩:=kz j cs' hj;have:=h.unbox _ e T b r2 cs he Nz hb et
  simpa [ae5]using this
 ·intro j cs' hj;obtain⟨r,cs,lZ,et,ab,f,ae6⟩:=kz j cs' hj;obtain⟨b,kU,T,Z,aa,aj,aC,aT,bQ⟩:=h.box r cs et;refine⟨b,kU,T,by simp [lZ,Z],aa,by omega,aC,?_,bQ.1,bQ.2.eB ae6⟩
  simp only [ky];rw [if_pos];exact .inl ⟨r,List.mem_of_getElem? lZ,Z⟩
 ·intro j vq b c mg hj Gn hb bY;obtain⟨r,cs,lZ,et,_⟩:=kz j c hj;obtain⟨dv,cs',V7,vr,_⟩:=kz vq mg Gn;have:r=dv:=h.inj r dv b cs cs' et vr (by simpa [lZ]using hb) (by simpa [V7]using bY)
  subst this;exact Gk hn j vq r lZ V7
 ·intro j b hb;simp only [Option.bind_eq_some_iff]at hb;obtain⟨r,ai,_⟩:=hb;have:=(List.getElem?_eq_some_iff.1 ai).1
  show j<H1.length
  omega
 ·exact h.mem
 ·exact Mem.le_refl _
 ·intro b a6 hb;simp only [ky]at hb;split at hb
  ·cases hb
  ·exact⟨hb,λ_=>rfl⟩
 ·intro j b hb;exact hb
 ·refine h.jx.mono λb a6 dN=>?_
  have NA:¬ qU st tmps w β ρ (qV hd) b:=by
   rintro (⟨r,ai,mn⟩|⟨l,e,T,ai,he,aG,ku⟩)
   ·obtain⟨j,hj⟩:=List.getElem?_of_mem ai;obtain⟨ab,vt⟩:=fA j r hj;obtain⟨cs,et⟩:=Option.isSome_iff_exists.1 vt;obtain⟨jj,_,_,aj,_,_,_,aC,_⟩:=h.box r cs (by rw [ab,et])
    rw [mn]at aj;cases aj;rw [aC]at dN;cases dN
   ·rw [(h.own _ e T he aG).free ku]at dN;cases dN
  simp only [ky];rw [if_neg NA];exact(h.frame b a6 dN).1
 ·rfl
def ae7{ρ os:List Nat}{st:aK}{H:List (Nat×List a7)}{n s:Nat}{e:a7}(ab:({env:=hB os st.env,H:=H,aX:=n}:aK).at (.slot s)=some e):
 ∃b3,st.at (.slot s)=some b3∧b3.d=e.d∧(∀T,e.own=some T→b3.own=some T)∧∀T,e.own=some T→¬ BW ρ os (.slot s):=by
 simp only [aK.at,n9]at ab;by_cases hs:s∈os
 ·rw [if_pos hs,Option.map_eq_some_iff]at ab;obtain⟨b3,Z,aa⟩:=ab;subst aa;exact⟨b3,Z,rfl,(λT aG=>by cases aG),(λT aG=>by cases aG)⟩
 ·rw [if_neg hs]at ab;exact⟨e,ab,rfl,(λT aG=>aG),(λT _=>hs)⟩
def NB(h:bN P K M β st tmps w){ρ:List Nat}{bs cJ iO:List (List a7)}(hn:nl ρ=true)(kY:boxes st.H ρ=some bs)(vu:j' (λj=>ρ[j]?) cJ=some iO)(eQ:cJ.length=ρ.length)
 {os:List Nat} {out:Out} {v:Value} {w':World} {M':Mem} {β':Nat→Option Nat} (jk:bN P (ky M β st tmps w ρ os) M' β' {env:=iv out,H:=cQ 0 cJ,aX:=ρ.length} #[v] w'):
 M.le M'∧bN P K M' β {env:=hB os st.env,H:=lp ρ iO++st.H,aX:=st.aX} tmps w'∧
 (∀d own,out = .ret d own→∀dE,eB (λj=>ρ[j]?) d=some dE→cy M' β v dE∧∀T l0,own=some T→nm P K M' β {env:=hB os st.env,H:=lp ρ iO++st.H,aX:=st.aX} tmps w' l0 v T)∧
 (∀x,out = .bf x→de M' v x):=by
 obtain⟨c',fA⟩:=vn kY;obtain⟨iu,iR⟩:=x2 vu;have cT:M.le M':=jk.m0;have hC:∀(j r b:Nat),ρ[j]? = some r→β r=some b→β' j=some b:=λj r b hj hb=>jk.iP j b (by simp [ky,hj,hb])
 have tG:∀(j r:Nat),ρ[j]? = some r→∃cs b,look st.H r=some cs∧β r=some b∧β' j=some b:=by
  intro j r hj;obtain⟨Z,aa⟩:=fA j r hj;obtain⟨cs,et⟩:=Option.isSome_iff_exists.1 aa;rw [et]at Z;obtain⟨b,_,_,hb,_⟩:=h.box r cs Z;exact⟨cs,b,Z,hb,hC j r b hj hb⟩
 have V8:∀{v d dE},cy M' β' v d→eB (λj=>ρ[j]?) d=some dE→cy M' β v dE:=by
  intro v d dE hd kt;refine hd.eB (λj r b hj hb=>?_) kt
  obtain⟨_,cY,_,Z,aa⟩:=tG j r hj;rw [hb]at aa;cases aa;exact Z
 -- NC is not qU is kept
 have BX:∀b,¬ qU st tmps w β ρ os b→b<w.heap.size→w'.heap[b]? = w.heap[b]? ∧ ∀o,M' b o=M b o:=by
  intro b hb cX
  have dN:(ky M β st tmps w ρ os).F b=some w.heap[b]:=by
   simp only [ky];rw [if_neg hb];exact Array.getElem?_eq_getElem cX
  obtain⟨Z,aa⟩:=jk.frame b _ dN;exact⟨by rw [Z,Array.getElem?_eq_getElem cX],aa⟩
 have V9:∀b,(ky M β st tmps w ρ os).F b=none→K.F b=none:=by
  intro b hb;simp only [ky]at hb;split at hb
  ·rename_i hp;rcases hp with⟨r,ai,mn⟩|⟨l,e,T,ai,he,aG,ku⟩
   ·obtain⟨j,hj⟩:=List.getElem?_of_mem ai;obtain⟨cs,cY,et,c',_⟩:=tG j r hj;obtain⟨jj,_,_,Z,_,_,_,aa,_⟩:=h.box r cs et;rw [mn]at Z;cases Z;exact aa
   ·exact(h.own _ e T he aG).free ku
  ·cases dN:K.F b with
   |none=>rfl
   |some a6=>have:=(h.frame b a6 dN).1;rw [hb]at this;cases this
 have hold:∀b,(ky M β st tmps w ρ os).F b=none→b<w.heap.size→qU st tmps w β ρ os b:=by
  intro b hb cX;simp only [ky]at hb;split at hb
  ·assumption
  ·rw [Array.getElem?_eq_getElem cX]at hb;cases hb
 -- asg own boxes aeT ash not handed on
 have Gp:∀r cs b,look st.H r=some cs→(∀(j:Nat),ρ[j]? ≠ some r)→β r=some b→¬ qU st tmps w β ρ os b:=by
  intro r cs b ai iQ hb hp;rcases hp with⟨dv,gc,bY⟩|⟨l,e,T,gc,he,aG,ku⟩
  ·obtain⟨j,hj⟩:=List.getElem?_of_mem gc;obtain⟨cs',_,vr,_⟩:=tG j dv hj;have:=h.inj r dv b cs cs' ai vr hb bY
   subst this;exact iQ j hj
  ·exact h.unbox _ e T b r cs he aG ku ai hb
 have BY:∀r,(∃(j:Nat),ρ[j]? = some r∧look (lp ρ iO++st.H) r=iO[j]?)∨((∀(j:Nat),ρ[j]? ≠ some r)∧look (lp ρ iO++st.H) r=look st.H r):=by
  intro r;obtain⟨Z,aa⟩:=Nu (H:=st.H) (ρ:=ρ) (bs:=iO) (by omega) hn r
  by_cases hj:∃(j:Nat),ρ[j]? = some r
  ·obtain⟨j,hj⟩:=hj;exact .inl ⟨j,hj,Z j hj⟩
  ·have:∀(j:Nat),ρ[j]? ≠ some r:=λj bm=>hj ⟨j,bm⟩
   exact .inr ⟨this,aa this⟩
 -- a place of ml new state: ml Nv, or kept
 have gl:∀l e,({env:=hB os st.env,H:=lp ρ iO++st.H,aX:=st.aX}:aK).at l=some e→
  (∃(j r i:Nat) (bg:a7),l = .cell r i∧ρ[j]? = some r∧({env:=iv out,H:=cQ 0 cJ,aX:=ρ.length}:aK).at (.cell j i)=some bg∧eB (λj=>ρ[j]?) bg.d=some e.d∧e.own=bg.own∧cu tmps w' β l=cu #[v] w' β' (.cell j i))∨
  (∃b3,st.at l=some b3∧b3.d=e.d∧(∀T,e.own=some T→b3.own=some T)∧cu tmps w' β l=cu tmps w β l∧(∀T,e.own=some T→¬ BW ρ os l)):=by
  intro l e ab;cases l with
  |slot s=>
   obtain⟨b3,Z,aa,aj,aC⟩:=ae7 ab;exact .inr ⟨b3,Z,aa,aj,rfl,aC⟩
  |cell r i=>
   rcases BY r with⟨j,hj,l1⟩|⟨iQ,l1⟩
   ·simp only [aK.at,l1]at ab;cases bm:iO[j]? with
    |none=>simp [bm]at ab
    |some bG=>
     simp only [bm,Option.bind_some]at ab;obtain⟨b,hb,oc⟩:=iR j bG bm;obtain⟨_,Nw⟩:=x1 oc;obtain⟨bg,si,Nx,Ny⟩:=Nw i e ab;obtain⟨_,cY,_,c',u'⟩:=tG j r hj;exact .inl ⟨j,r,i,bg,rfl,hj,by simp [aK.at,nr,hb,si],Nx,Ny,by simp [cu,c',u']⟩
   ·simp only [aK.at,l1]at ab;refine .inr ⟨e,ab,rfl,λ_ h=>h,?_,λT _ bm=>by obtain⟨j,hj⟩:=List.getElem?_of_mem bm;exact iQ j hj⟩
    cases ai:look st.H r with
    |none=>simp [ai]at ab
    |some cs=>
     obtain⟨b,_,_,hb,bm,_⟩:=h.box r cs ai;simp only [cu,hb];rw [sb (w:=w) (BX b (Gp r cs b ai iQ hb) (lt_of_heap bm)).1]
 -- a kept 'own' asi block is not qU
 have BZ:∀l e T b,st.at l=some e→e.own=some T→¬ BW ρ os l→h8 (cu tmps w β l)=some b→¬ qU st tmps w β ρ os b:=by
  intro l e T b ab aG iQ hb hp;rcases hp with⟨dv,gc,bY⟩|⟨cG,bg,T',gc,he,eg,ku⟩
  ·obtain⟨j,hj⟩:=List.getElem?_of_mem gc;obtain⟨cs',_,vr,_⟩:=tG j dv hj;exact h.unbox l e T b dv cs' ab aG hb vr bY
  ·have:=h.uniq l _ e bg T T' b ab aG he eg hb ku
   subst this;exact iQ gc
 -- ml Nv 'own' blocks asj ours
 have B0:∀T u b,pH P (ky M β st tmps w ρ os).F M' w' T u→h8 u=some b→∀bG,bG=b→bG<w.heap.size→qU st tmps w β ρ os bG:=by
  intro T u b av hb bG qP cX;subst qP;exact hold bG (av.free hb) cX
 have Gq:∀r cs,look (lp ρ iO++st.H) r=some cs→∃lA,look st.H r=some lA:=by
  intro r cs ai;rcases BY r with⟨j,hj,_⟩|⟨_,l1⟩
  ·obtain⟨lA,_,Z,_⟩:=tG j r hj;exact⟨lA,Z⟩
  ·exact⟨cs,by rw [←l1];exact ai⟩
 have cN:bN P K M' β {env:=hB os st.env,H:=lp ρ iO++st.H,aX:=st.aX} tmps w':=by
  constructor
  ·intro l e ab;rcases gl l e ab with⟨j,r,i,bg,rfl,hj,sm,oc,_,cj⟩|⟨b3,av,B1,kV,cj,_⟩
   ·rw [cj];exact V8 (jk.fv _ bg sm) oc
   ·rw [cj,←B1];exact(h.fv l b3 av).mono cT
  ·intro l e T ab aG;rcases gl l e ab with⟨j,r,i,bg,rfl,hj,sm,_,gk,cj⟩|⟨b3,av,B1,kV,cj,iQ⟩
   ·rw [cj];rw [gk]at aG;rcases jk.own _ bg T sm aG with h0|⟨b,n,cap,kU,T',Z,aa,aj,aC,aT,bQ,sg⟩
    ·exact .inl h0
    ·exact .inr ⟨b,n,cap,kU,T',Z,aa,aj,aC,aT,V9 b bQ,sg⟩
   ·rw [cj];have iQ:=iQ T aG;have aG:=kV T aG;refine(h.own l b3 T av aG).congr (λb hb=>?_) (λb o' hb=>?_)
    ·exact(BX b (BZ l b3 T b av aG iQ hb) ((h.own l b3 T av aG).lt hb)).1
    ·exact(BX b (BZ l b3 T b av aG iQ hb) ((h.own l b3 T av aG).lt hb)).2 o'
  ·intro l cG e1 e2 T T' b ab aG dF eg hb bY
   rcases gl l e1 ab with⟨j,r,i,x,rfl,hj,hx,_,gk,cj⟩|⟨b3,av,B1,kV,cj,iQ⟩ <;>
    rcases gl cG e2 dF with⟨vq,dv,mT,gd,rfl,Gn,x3,_,V',qO⟩|⟨xQ,kT,ask,BG,qO,ND⟩
   ·rw [cj]at hb;rw [qO]at bY;rw [gk]at aG;rw [V']at eg;have:=jk.uniq _ _ x gd T T' b hx aG x3 eg hb bY
    cases this;rw [hj]at Gn;cases Gn;rfl
   ·rw [cj]at hb;rw [qO]at bY;rw [gk]at aG;have ND:=ND T' eg;have eg:=BG T' eg;exact(BZ cG xQ T' b kT eg ND bY (B0 T _ b (jk.own _ x T hx aG) hb b rfl ((h.own cG xQ T' kT eg).lt bY))).elim
   ·rw [cj]at hb;rw [qO]at bY;rw [V']at eg;have iQ:=iQ T aG;have aG:=kV T aG;exact(BZ l b3 T b av aG iQ hb (B0 T' _ b (jk.own _ gd T' x3 eg) bY b rfl ((h.own l b3 T av aG).lt hb))).elim
   ·rw [cj]at hb;rw [qO]at bY;exact h.uniq l cG b3 xQ T T' b av (kV T aG) kT (BG T' eg) hb bY
  ·intro l e T b r cs ab aG hb ai mn;obtain⟨lA,mf⟩:=Gq r cs ai;rcases gl l e ab with⟨j,r1,i,x,rfl,hj,hx,_,gk,cj⟩|⟨b3,av,B1,kV,cj,iQ⟩
   ·rw [cj]at hb;rw [gk]at aG;rcases BY r with⟨j2,vv,l1⟩|⟨NE,_⟩
    ·have aa:∃c2,look (cQ 0 cJ) j2=some c2:=by
      rw [nr];exact⟨_,List.getElem?_eq_getElem (by have:=(List.getElem?_eq_some_iff.1 vv).1;omega)⟩
     obtain⟨c2,mo⟩:=aa;exact jk.unbox _ x T b j2 c2 hx aG hb mo (hC j2 r b vv mn)
    ·obtain⟨cY,_,_,c',bm,_⟩:=h.box r lA mf;rw [mn]at c';cases c';exact Gp r lA b mf NE mn (B0 T _ b (jk.own _ x T hx aG) hb b rfl (lt_of_heap bm))
   ·rw [cj]at hb;exact h.unbox l b3 T b r lA av (kV T aG) hb mf mn
  ·intro r cs ai;rcases BY r with⟨j,hj,l1⟩|⟨iQ,l1⟩
   ·rw [l1]at ai;obtain⟨c2,mo,oc⟩:=iR j cs ai;obtain⟨lA,oW,ae8,V_,ae9⟩:=tG j r hj;obtain⟨b,kU,T,Z,aa,aj,aC,aT,bQ⟩:=jk.box j c2 (by rw [nr];exact mo)
    rw [ae9]at Z;cases Z;obtain⟨jj,_,_,cK,_,_,_,di,_⟩:=h.box r lA ae8;rw [V_]at cK;cases cK;exact⟨oW,kU,T,V_,aa,by rw [aj,(x1 oc).1],aC,di,bQ.1,bQ.2.eB oc⟩
   ·rw [l1]at ai;obtain⟨b,kU,T,Z,aa,aj,aC,aT,bQ⟩:=h.box r cs ai;have hk:=BX b (Gp r cs b ai iQ Z) (lt_of_heap aa);exact⟨b,kU,T,Z,hk.1.trans aa,aj,λo'=>(hk.2 o').trans (aC o'),aT,bQ⟩
  ·intro r dv b c mg ai gc hb bY;obtain⟨c0,mf⟩:=Gq r c ai;obtain⟨ae',ae_⟩:=Gq dv mg gc;exact h.inj r dv b c0 ae' mf ae_ hb bY
  ·exact h.lt
  ·exact jk.mem
  ·exact Mem.le_trans h.m0 cT
  ·intro b a6 dN;obtain⟨Z,aa⟩:=h.frame b a6 dN
   have NA:¬ qU st tmps w β ρ os b:=by
    rintro (⟨r,ai,mn⟩|⟨l,e,T,ai,he,aG,ku⟩)
    ·obtain⟨j,hj⟩:=List.getElem?_of_mem ai;obtain⟨cs,_,et,_⟩:=tG j r hj;obtain⟨jj,_,_,aj,_,_,_,aC,_⟩:=h.box r cs et;rw [mn]at aj;cases aj;rw [aC]at dN;cases dN
    ·rw [(h.own _ e T he aG).free ku]at dN;cases dN
   have hk:=BX b NA (lt_of_heap Z);exact⟨hk.1.trans Z,λo'=>(hk.2 o').trans (aa o')⟩
  ·exact h.iP
  ·exact h.jx
  ·exact Eq.trans (show(w'.os,w'.output)=(w.os,w.output)from jk.h7) h.h7
 refine⟨cT,cN,λd own NF dE kt=>?_,λx NF=>?_⟩
 ·subst NF;have jl:=jk.fv (.slot 0) {d,own} (by simp [aK.at,iv,look])
  refine⟨V8 (by simpa [cu]using jl) kt,λT l0 aG=>?_⟩
  have av:=jk.own (.slot 0) {d,own} T (by simp [aK.at,iv,look]) aG
  simp only [cu]at av;have kT:pH P (ky M β st tmps w ρ os).F M' w' T v:=by simpa using av
  refine⟨?_,λl e T' b ab eg _ hb bY=>?_,λb r cs hb ai mn=>?_⟩
  ·rcases kT with h0|⟨b,n,cap,kU,T',Z,aa,aj,aC,aT,bQ,sg⟩
   ·exact .inl h0
   ·exact .inr ⟨b,n,cap,kU,T',Z,aa,aj,aC,aT,V9 b bQ,sg⟩
  ·rcases gl l e ab with⟨j,r,i,x,rfl,hj,hx,_,gk,cj⟩|⟨b3,Gr,B1,kV,cj,iQ⟩
   ·rw [cj]at bY;rw [gk]at eg;have:=jk.uniq (.slot 0) (.cell j i) {d,own} x T T' b (by simp [aK.at,iv,look]) aG hx eg (by simpa [cu]using hb) bY
    cases this
   ·rw [cj]at bY;have iQ:=iQ T' eg;have eg:=kV T' eg;exact BZ l b3 T' b Gr eg iQ bY (B0 T v b kT hb b rfl ((h.own l b3 T' Gr eg).lt bY))
  ·obtain⟨lA,mf⟩:=Gq r cs ai;rcases BY r with⟨j2,vv,l1⟩|⟨NE,_⟩
   ·have aa:∃c2,look (cQ 0 cJ) j2=some c2:=by
     rw [nr];exact⟨_,List.getElem?_eq_getElem (by have:=(List.getElem?_eq_some_iff.1 vv).1;omega)⟩
    obtain⟨c2,mo⟩:=aa;exact jk.unbox (.slot 0) {d,own} T b j2 c2 (by simp [aK.at,iv,look]) aG (by simpa [cu]using hb) mo (hC j2 r b vv mn)
   ·obtain⟨cY,_,_,c',bm,_⟩:=h.box r lA mf;rw [mn]at c';cases c';exact Gp r lA b mf NE mn (B0 T v b kT hb b rfl (lt_of_heap bm))
 ·subst NF;have jl:=jk.fv (.slot 0) {d:=.v x} (by simp [aK.at,iv,look])
  have:=n_ jl
  simpa [cu]using this
end
def Wa{i:Int}{n:Nat}(h:aJ i n=true):0≤i∧i<n:=by simpa [aJ]using h
def vw{i:Int}{n:Nat}(h:hh i n=true):0≤i∧i≤n:=by simpa [hh]using h
def afa{i:Int}{n:Nat}(h:0≤i∧i≤n):hh i n=true:=by simpa [hh]using h
def Wb{a b:Int}{n:Nat}(h:lU a b n=true):0≤a∧a≤b∧b≤n:=by simpa [lU]using h
def Wc{a:Int}(h:tl a=true):a≠0:=by simpa [tl]using h
def NG{n b:Nat}(h:room n b=true):n*b≤140737488355328:=by simpa [room]using h
def afb{n:Nat}(h:b0 n=true):n≤9223372036854775807:=by simpa [b0]using h
section
variable {P:Program} {K:Ctx} {N:Nat} {M:Mem} {β:Nat→Option Nat} {st:aK} {g:dk} {tmps:Array Value} {w:World} {o:Oper} {f:lm} {p:Path} {tt:dI} {cd:gD} {ops:List Oper}
def Wd:∀(l:List (Nat×a7)) (s:Nat),look (pF l) s=(look l s).map λe=>({d:=e.d}:a7)
 |[],s=>rfl
 |(t,e)::l,s=>by
  simp only [pF,dX];by_cases h:t=s
  ·simp [h]
  ·simp only [h,if_false];exact Wd l s
def bN.pF{st:aK}(h:bN P K M β st tmps w){env:List (Nat×a7)}(he:∀s e,look env s=some e→∃b3,look st.env s=some b3∧b3.d=e.d):bN P K M β {env:=Ab.pF env,H:=st.H,aX:=st.aX} tmps w:=
 h.sub rfl (λl e ab=>by
  cases l with
  |slot s=>
   simp only [aK.at,Wd,Option.map_eq_some_iff]at ab;obtain⟨e1,Z,rfl⟩:=ab;obtain⟨b3,aa,aj⟩:=he s e1 Z;exact⟨b3,aa,aj,λ_ h=>by cases h⟩
  |cell r i=>exact⟨e,ab,rfl,λ_ h=>h⟩) (λr cs ai=>⟨cs,ai,rfl⟩)
def afc(P:Program)(K:Ctx)(M:Mem)(β:Nat→Option Nat)(g:dk)(x:V)(hs:List (Nat×List a7))(o:Oper)(tmps:Array Value)(w:World):Prop:=
 (∃v,(execOp (Act.eval ⟨tmps,[]⟩) o).run P w = .halt (.panic v) w∧de M v x∧hs=[])∨
 (∃fn vs,(execOp (Act.eval ⟨tmps,[]⟩) o).run P w = .ok (.enter fn vs) w∧Calls P fn vs w λe w'=>∃v M' ,e = .panicked [{v,recovered:=false}]∧de M' v x∧
  bN P K M' β {env:=pF g.env,H:=hs++g.H,aX:=g.aX} tmps w')
def afd{op:BinOp}{k:IntKind}{a b:Int}{x:V}{a6:List Prop}(h:MG op k a b=some (x,a6))(cn:∀q,q∈a6→q)(t:TypeId):
 ∃v,(binOp op t (.int k a) (.int k b)).run P w = .ok v w∧de M v x:=by
 have fin:∀{s:Sem Value} {v:Value},s.run P w = .ok v w→de M v x→∃v,s.run P w = .ok v w∧de M v x:=λZ aa=>⟨_,Z,aa⟩
 cases op<;>simp only [MG,Option.some.injEq,Prod.mk.injEq,reduceCtorEq]at h<;>obtain⟨rfl,rfl⟩:=h
 case quo=>
  have hb:=Wc (cn _ (List.mem_singleton.2 rfl));refine fin (v:=.int k (k.wrap (a.tdiv b))) ?_ (.int _ _);simp [binOp,Op.intDiv,hb]
 case rem=>
  have hb:=Wc (cn _ (List.mem_singleton.2 rfl));refine fin (v:=.int k (a.tmod b)) ?_ (.int _ _);simp [binOp,Op.intDiv,hb]
 case add=>exact fin (v:=.int k (k.wrap (a+b))) (by simp [binOp,Op.intArith]) (.int _ _)
 case sub=>exact fin (v:=.int k (k.wrap (a-b))) (by simp [binOp,Op.intArith]) (.int _ _)
 case mul=>exact fin (v:=.int k (k.wrap (a*b))) (by simp [binOp,Op.intArith]) (.int _ _)
 case eql=>exact fin (v:=.bool (decide (a=b))) (by simp [binOp,Op.intCmp];rfl) (.bool _)
 case neq=>exact fin (v:=.bool (!decide (a=b))) (by simp [binOp,Op.intCmp];rfl) (.bool _)
 case lss=>exact fin (v:=.bool (decide (a<b))) (by simp [binOp,Op.intCmp]) (.bool _)
 case leq=>exact fin (v:=.bool (decide (a≤b))) (by simp [binOp,Op.intCmp]) (.bool _)
 case gtr=>exact fin (v:=.bool (decide (b<a))) (by simp [binOp,Op.intCmp]) (.bool _)
 case geq=>exact fin (v:=.bool (decide (b≤a))) (by simp [binOp,Op.intCmp]) (.bool _)
 case and=>exact fin (v:=.int k (pD k a b)) (by simp [binOp,Op.intBits,pD]) (.int _ _)
 case or=>exact fin (v:=.int k (qK k a b)) (by simp [binOp,Op.intBits,qK]) (.int _ _)
 case xor=>exact fin (v:=.int k (mP k a b)) (by simp [binOp,Op.intBits,mP]) (.int _ _)
 case andNot=>exact fin (v:=.int k (ME k a b)) (by simp [binOp,Op.intBits,ME]) (.int _ _)
def afe{op:BinOp}{k k':IntKind}{a b:Int}{x:V}{a6:List Prop}(h:MF op k a b=some (x,a6))(cn:∀q,q∈a6→q)(t:TypeId):
 ∃v,(binOp op t (.int k a) (.int k' b)).run P w = .ok v w∧de M v x:=by
 unfold MF at h;split at h
 ·simp only [Option.some.injEq,Prod.mk.injEq]at h;obtain⟨rfl,rfl⟩:=h;have hb:0≤b:=by simpa [n3]using cn (n3 b=true) (by simp)
  exact⟨.int k (oP k a b),by simp [binOp,Op.shift,show¬ b<0 by omega,oP],.int _ _⟩
 ·simp only [Option.some.injEq,Prod.mk.injEq]at h;obtain⟨rfl,rfl⟩:=h;have hb:0≤b:=by simpa [n3]using cn (n3 b=true) (by simp)
  exact⟨.int k (nj k a b),by simp [binOp,Op.shift,show¬ b<0 by omega,nj],.int _ _⟩
 ·cases h
def aff{op:BinOp}{a b:atW}{x:V}{a6:List Prop}(h:MH op a b=some (x,a6))(cn:∀q,q∈a6→q)(t:TypeId):
 ∃v,(binOp op t (.string ⟨⟨a⟩⟩) (.string ⟨⟨b⟩⟩)).run P w = .ok v w∧de M v x:=by
 have fin:∀{s:Sem Value} {v:Value},s.run P w = .ok v w→de M v x→∃v,s.run P w = .ok v w∧de M v x:=λZ aa=>⟨_,Z,aa⟩
 have qW:=Gb a;have x4:=Gb b;have he:(a == b)=decide (a=b):=by by_cases mY:a=b<;>simp [mY]
 cases op<;>simp only [MH,Option.some.injEq,Prod.mk.injEq,reduceCtorEq]at h<;>obtain⟨rfl,rfl⟩:=h
 case add=>
  have hb:=afb (cn _ (List.mem_singleton.2 rfl));refine fin (v:=.string ⟨⟨a++b⟩⟩) ?_ (.str _)
  have eu:¬ ((((⟨⟨a⟩⟩:ByteArray).size+(⟨⟨b⟩⟩:ByteArray).size:Nat):Int) > IntKind.i64.max):=by
   have Z:(⟨⟨a⟩⟩:ByteArray).size=a.length:=rfl;have aa:(⟨⟨b⟩⟩:ByteArray).size=b.length:=rfl;have aj:IntKind.i64.max=9223372036854775807:=by decide
   rw [Z,aa,aj];omega
  simp only [binOp,Op.stringOp];rw [if_neg eu];simp;apply ByteArray.ext;simp
 case eql=>exact fin (v:=.bool (decide (a=b))) (by simp [binOp,Op.stringOp,qW,x4,he]) (.bool _)
 case neq=>exact fin (v:=.bool (!decide (a=b))) (by simp [binOp,Op.stringOp,qW,x4,he]) (.bool _)
 case lss=>exact fin (v:=.bool (Op.bytesLess a b)) (by simp [binOp,Op.stringOp,qW,x4]) (.bool _)
 case leq=>exact fin (v:=.bool (Op.bytesLess a b||decide (a=b))) (by simp [binOp,Op.stringOp,qW,x4,he]) (.bool _)
 case gtr=>exact fin (v:=.bool (!(Op.bytesLess a b||decide (a=b)))) (by simp [binOp,Op.stringOp,qW,x4,he]) (.bool _)
 case geq=>exact fin (v:=.bool (!Op.bytesLess a b)) (by simp [binOp,Op.stringOp,qW,x4]) (.bool _)
def afg{t:TypeId}{aS:eM}(r:Row P t aS)(hk:aS.k = .ptr):∃e,r.desc = .pointer e:=by
 have:=r.hk
 rw [hk]at this;cases hd:r.desc<;>simp [hd,lw]at this;exact⟨_,rfl⟩
def afh{t:TypeId}{aS:eM}(r:Row P t aS)(hk:aS.k = .oO):∃e,r.desc = .interface e:=by
 have:=r.hk
 rw [hk]at this;cases hd:r.desc<;>simp [hd,lw]at this;exact⟨_,rfl⟩
def afi{t:TypeId}{aS:eM}(r:Row P t aS)(hk:aS.k = .a'):∃a b c,r.desc = .func a b c:=by
 have:=r.hk
 rw [hk]at this;cases hd:r.desc<;>simp [hd,lw]at this;exact⟨_,_,_,rfl⟩
def NH{t:TypeId}{aS:eM}(r:Row P t aS)(hk:aS.k = .bool):r.desc = .bool:=by
 have:=r.hk
 rw [hk]at this;cases hd:r.desc<;>simp [hd,lw]at this;rfl
def We{t:TypeId}{aS:eM}(r:Row P t aS){hU x5:Value}{a b:D}{res:Bool}(ha:cy M β hU a)(hb:cy M β x5 b)(ab:FY aS.k b=true)(hn:isNil aS.k a=some res):
 (Op.equal t hU x5).run P w = .ok res w∧(∀op,(binOp op t hU x5)=match op with|.eql=>(do pure (.bool (←Op.equal t hU x5)))|.neq=>(do pure (.bool (!(←Op.equal t hU x5))))|_=>binOp op t hU x5):=by
 obtain⟨dep,hm⟩:∃d,Op.maxDepth=d+1:=⟨9999,rfl⟩;unfold FY at ab;split at ab<;>try cases ab
 ·rename_i hk;cases n_ hb
  obtain⟨e,hd⟩:=afg r hk;rw [hk]at hn;unfold isNil at hn;split at hn<;>simp_all
  ·cases n_ ha
   refine⟨?_,λop=>by cases op<;>rfl⟩
   rw [Op.equal,hm,Op.equalIn];simp [r.run_underlying,hd]
  ·obtain⟨bG,_,rfl⟩:=se ha;subst hn;refine⟨?_,λop=>by cases op<;>rfl⟩
   rw [Op.equal,hm,Op.equalIn];simp [r.run_underlying,hd]
  ·obtain⟨bG,off,val,rfl,_⟩:=F_ ha;subst hn;refine⟨?_,λop=>by cases op<;>rfl⟩
   rw [Op.equal,hm,Op.equalIn];simp [r.run_underlying,hd]
 ·rename_i hk;cases n_ hb
  obtain⟨e,hd⟩:=afh r hk;rw [hk]at hn;unfold isNil at hn;split at hn<;>simp_all
  ·cases n_ ha
   refine⟨?_,λop=>by cases op<;>rfl⟩
   rw [Op.equal,hm,Op.equalIn];simp [r.run_underlying,hd]
  ·obtain⟨u,rfl,_⟩:=MZ ha;subst hn;refine⟨?_,λop=>by cases op<;>rfl⟩
   rw [Op.equal,hm,Op.equalIn];simp [r.run_underlying,hd]
 ·rename_i hk;cases n_ hb
  obtain⟨e1,e2,e3,hd⟩:=afi r hk;rw [hk]at hn;unfold isNil at hn;split at hn<;>simp_all
  ·cases n_ ha
   refine⟨?_,λop=>by cases op<;>rfl⟩
   rw [Op.equal,hm,Op.equalIn];simp [r.run_underlying,hd]
  ·obtain⟨u,rfl,_⟩:=Vu ha;subst hn;refine⟨?_,λop=>by cases op<;>rfl⟩
   rw [Op.equal,hm,Op.equalIn];simp [r.run_underlying,hd]
end
section
variable {P:Program} {K:Ctx} {N:Nat} {M:Mem} {β:Nat→Option Nat} {st:aK} {g:dk} {tmps:Array Value} {w:World} {o:Oper} {f:lm} {p:Path} {tt:dI} {cd:gD} {ops:List Oper}
structure Hyp(P:Program)(K:Ctx)(N:Nat)(M:Mem)(β:Nat→Option Nat)(g:dk)(tmps:Array Value)(w:World)(p:Path)(tt:dI):Prop where
 bw:fX P K N M β g tmps w
 dU:fN tmps p
 tt:fB P tt=true
def afj(h:Hyp P K N M β g tmps w p tt){x:Operand}(av:o.op = .move x)(hs:step1 cd tt ops g p o=some (.go f)):Yields P K M β g f o tmps w:=by
 simp only [step1,av]at hs;split at hs
 case h_2=>cases hs
 rename_i d hd
 repeat' (first|(split at hs)|(rw [Bool.cond_eq_ite]at hs))
 all_goals first
  |(cases hs;done)
  |(cases hs;exact Vz h.bw h.dU (.inl av) hd (by assumption))
  |(cases hs;exact Gc h.bw h.dU (.inl av) hd)
def afk(h:Hyp P K N M β g tmps w p tt){x:Operand}(av:o.op = .assign x)(hs:step1 cd tt ops g p o=some (.go f)):Yields P K M β g f o tmps w:=by
 simp only [step1,av]at hs;split at hs
 case h_2=>cases hs
 rename_i d hd;split at hs
 ·rename_i e t gk;rw [Bool.cond_eq_ite]at hs;split at hs<;>cases hs
  ·exact Vz h.bw h.dU (.inr av) hd gk
  ·exact Gc h.bw h.dU (.inr av) hd
 ·split at hs
  ·rw [Bool.cond_eq_ite]at hs;split at hs<;>cases hs
   ·exact aev h.bw h.dU av hd _
   ·exact Gc h.bw h.dU (.inr av) hd
  ·cases hs
 ·cases hs;exact Gc h.bw h.dU (.inr av) hd
def afl(h:Hyp P K N M β g tmps w p tt){c:Nat}{a b:Operand}(av:o.op = .pick (.tmp c) a b)(hs:step1 cd tt ops g p o=some (.go f)):Yields P K M β g f o tmps w:=by
 simp only [step1,av]at hs;split at hs
 case h_2=>cases hs
 rename_i tn Bz u4 Z aa aj;cases hs;exact aew h.bw h.dU av Z aa aj
def afm(h:Hyp P K N M β g tmps w p tt){t:TypeId}(av:o.op = .alloc t)(hs:step1 cd tt ops g p o=some (.go f)):Yields P K M β g f o tmps w:=by
 simp only [step1,av]at hs;split at hs
 case h_2=>cases hs
 rename_i id eP hid;split at hs
 case h_2=>cases hs
 rename_i z dw;cases hs;exact aey h.bw h.tt av dw hid
def afn(h:Hyp P K N M β g tmps w p tt){t:TypeId}{x:Operand}(av:o.op = .box t x)(hs:step1 cd tt ops g p o=some (.go f)):Yields P K M β g f o tmps w:=by
 simp only [step1,av]at hs;split at hs
 case h_2=>cases hs
 rename_i d id eP aS hd hid ab;rw [Bool.cond_eq_ite]at hs;split at hs<;>cases hs
 rename_i Gs;simp only [Bool.or_eq_true,Bool.not_eq_true',not_or,Bool.not_eq_true,Bool.not_eq_false,Nat.beq_eq]at Gs;exact aez h.bw h.dU av hd Gs.1.1 Gs.1.2 h.tt ab Gs.2 hid
def afo(h:Hyp P K N M β g tmps w p tt){t:TypeId}{parts:Array (Nat×Operand)}(av:o.op = .build t parts)(hs:step1 cd tt ops g p o=some (.go f)):Yields P K M β g f o tmps w:=by
 simp only [step1,av]at hs;split at hs
 ·rename_i cx fV kw zero _ b6 ab mi;rw [Bool.cond_eq_ite]at hs;split at hs
  case isFalse=>cases hs
  rename_i mj;split at hs
  ·simp only [Option.map_eq_some_iff]at hs;obtain⟨d,⟨cs,et,rfl⟩,hs⟩:=hs;cases hs;exact VL h.bw h.dU h.tt ab rfl mj av mi (λr=>r.aeC) et
  ·simp only [Option.map_eq_some_iff]at hs;obtain⟨d,⟨cs,et,rfl⟩,hs⟩:=hs;cases hs;exact VL h.bw h.dU h.tt ab rfl mj av mi (λr=>r.VK) et
 ·rename_i n e fV kw zero _ b6 ab mi;split at hs
  case h_2=>cases hs
  rename_i ak afp Wf z2 eQ;simp only [Option.map_eq_some_iff]at hs;obtain⟨d,⟨cs,et,rfl⟩,hs⟩:=hs;cases hs;exact aeE h.bw h.dU h.tt ab rfl eQ av mi et
 ·cases hs
def afq(h:Hyp P K N M β g tmps w p tt){t:TypeId}{len:Nat}{parts:Array (Nat×Operand)}(av:o.op = .buildSlice t len parts)(hs:step1 cd tt ops g p o=some (.go f))(cn:∀q,q∈f.a6→q):Yields P K M β g f o tmps w:=by
 simp only [step1,av]at hs;split at hs
 case h_2=>cases hs
 rename_i e fV kw zero _ b6 ab mi;split at hs
 case h_2=>cases hs
 rename_i ak afp Wf z2 eQ;split at hs
 case h_2=>cases hs
 rename_i xs x rs hx eX;rw [Bool.cond_eq_ite]at hs;split at hs
 case isFalse=>cases hs
 rename_i hc;simp only [Bool.and_eq_true,Nat.ble_eq,Nat.beq_eq]at hc;cases hs;exact aeG h.bw h.dU h.tt ab rfl eQ av mi hx hc.2 hc.1.2 hc.1.1 (cn _ (List.mem_singleton.2 rfl))
def afr(h:Hyp P K N M β g tmps w p tt){t:TypeId}{a:Operand}(av:o.op = .load t a)(hs:step1 cd tt ops g p o=some (.go f)):Yields P K M β g f o tmps w:=by
 simp only [step1,av]at hs;split at hs
 ·rename_i q off aS ha ab;split at hs
  case h_2=>cases hs
  rename_i cs ao;rw [Bool.cond_eq_ite]at hs;split at hs
  ·rename_i jK;rw [Bool.cond_eq_ite]at hs;split at hs
   case isFalse=>cases hs
   rename_i hle;cases hs;exact aeJ h.bw h.dU h.tt ab av ha ao jK (by simpa using hle)
  ·rename_i jK;split at hs
   case h_2=>cases hs
   rename_i e he;split at hs
   ·rename_i s rs ge eX;rw [Bool.cond_eq_ite]at hs;split at hs<;>cases hs
    exact aeL h.bw h.dU h.tt ab av ha ao (by simpa using jK) he ge
   ·cases hs;exact aeK h.bw h.dU h.tt ab av ha ao (by simpa using jK) he
 ·rename_i x aS ha ab;rw [Bool.cond_eq_ite]at hs;split at hs
  case isFalse=>cases hs
  rename_i hc;simp only [Bool.and_eq_true,beq_iff_eq,Nat.beq_eq]at hc;cases hs;exact aeM h.bw h.dU h.tt ab av ha hc.1 hc.2
 ·cases hs
def afs(h:Hyp P K N M β g tmps w p tt){t:TypeId}{a x:Operand}(av:o.op = .store t a x)(hs:step1 cd tt ops g p o=some (.go f)):Yields P K M β g f o tmps w:=by
 simp only [step1,av]at hs;split at hs
 case h_2=>cases hs
 rename_i q off d aS ha hx ab;split at hs
 case h_2=>cases hs
 rename_i cs ao;rw [Bool.cond_eq_ite]at hs;split at hs
 case isFalse=>cases hs
 rename_i hc;simp only [Bool.and_eq_true,Nat.beq_eq,Nat.ble_eq,Bool.not_eq_true']at hc;obtain⟨⟨⟨⟨kX,mo⟩,_⟩,aft⟩,afu⟩:=hc;split at hs
 ·rename_i u s k n get gk;cases hs;simp only [pE,Option.bind_eq_some_iff]at gk;obtain⟨e,he,aG⟩:=gk;have eu:aS.size=1:=by rw [←kX];rfl
  exact VV h.bw h.dU h.tt ab av ha ao hx eu mo (l:=[u]) (h.bw.bw.hand he aG (.cell q off))
 ·split at hs
  ·cases hs;have mV:=hx;simp only [rd]at mV;split at mV
   ·cases mV;have eu:aS.size=1:=by rw [←kX];rfl
    exact VV h.bw h.dU h.tt ab av ha ao hx eu mo (l:=[]) (MT _ _)
   ·cases mV
  ·cases hs
 ·cases hs;exact aeO h.bw h.dU h.tt ab av ha ao hx aft afu kX mo _
def afv(h:Hyp P K N M β g tmps w p tt){x:Operand}(av:o.op = .nilCheck x)(hs:step1 cd tt ops g p o=some (.go f)):Yields P K M β g f o tmps w:=by
 simp only [step1,av]at hs;split at hs
 ·rename_i q off hd;cases hs;have ai:=eh (ds:=[]) h.bw h.dU hd;obtain⟨b,_,aw⟩:=se ai;refine fa h.bw (v:=(⟨tmps,[]⟩:Act).eval x) ?_ ai;simp [execOp,av,aw]
 ·rename_i y hd;cases hs;have ai:=eh (ds:=[]) h.bw h.dU hd;obtain⟨b,off,val,aw,_⟩:=F_ ai;refine fa h.bw (v:=(⟨tmps,[]⟩:Act).eval x) ?_ ai;simp [execOp,av,aw]
 ·cases hs
def afw(h:Hyp P K N M β g tmps w p tt){op:UnOp}{t:TypeId}{x:Operand}(av:o.op = .unOp op t x)(hs:step1 cd tt ops g p o=some (.go f)):Yields P K M β g f o tmps w:=by
 simp only [step1,av]at hs;split at hs
 case h_2=>cases hs
 rename_i a ha;simp only [Option.map_eq_some_iff]at hs;obtain⟨d,⟨gd,x3,rfl⟩,hs⟩:=hs;cases hs;have ai:=eh (ds:=[]) h.bw h.dU ha;unfold Vg at x3;split at x3<;>cases x3
 ·have:=vc ai
  refine fa h.bw (v:=.bool _) ?_ (.v _ _ (.bool _));simp [execOp,av,this,Op.unary]
 ·have:=mh ai
  refine fa h.bw (v:=.int _ _) ?_ (.v _ _ (.int _ _));simp [execOp,av,this,Op.unary,Op.intArith]
def afx(h:Hyp P K N M β g tmps w p tt){s t:TypeId}{x:Operand}(av:o.op = .convert s t x)(hs:step1 cd tt ops g p o=some (.go f))(cn:∀q,q∈f.a6→q):Yields P K M β g f o tmps w:=by
 simp only [step1,av]at hs;split at hs
 ·rename_i c_ _ _ _ _ k _ _ _ _ eC n fk eQ hd;cases hs;obtain⟨r1⟩:=eI h.tt fk;obtain⟨r2⟩:=eI h.tt eQ;have ai:=mh (eh (ds:=[]) h.bw h.dU hd);refine fa h.bw (v:=.int k (k.wrap n)) ?_ (.v _ _ (.int _ _));simp only [execOp,av,ai];refine jy _ ?_;simp [convert,r1.run_underlying,r2.run_underlying,BI r1 rfl,BI r2 rfl,Conv.intToInt]
 ·rename_i _ _ _ _ _ _ _ _ l fk eQ hd;cases hs;obtain⟨r1⟩:=eI h.tt fk;obtain⟨r2⟩:=eI h.tt eQ;have ai:=mU (eh (ds:=[]) h.bw h.dU hd);refine fa h.bw (v:=.string ⟨⟨l⟩⟩) ?_ (.v _ _ (.str _));simp only [execOp,av,ai];refine jy _ ?_;simp [convert,r1.run_underlying,r2.run_underlying,qQ r1 rfl,qQ r2 rfl]
 ·rename_i e _ _ _ _ _ _ _ _ n get fk eQ hd;split at hs
  case h_2=>cases hs
  rename_i l rs NI eX;cases hs;obtain⟨r1⟩:=eI h.tt fk;obtain⟨r2⟩:=eI h.tt eQ;obtain⟨r3⟩:=eI h.tt NI;obtain⟨hlen,iT⟩:=cn _ (List.mem_singleton.2 rfl);have ai:=eh (ds:=[]) h.bw h.dU hd;refine fa h.bw (v:=.string ⟨⟨l⟩⟩) ?_ (.v _ _ (.str _));simp only [execOp,av];refine jy _ ?_;rcases tv ai with⟨hn|⟨a,hn⟩,aw⟩|⟨b,off,cap,val,aw,hc,hk,cT,Z,gI⟩
  ·have hl0:l=[]:=List.eq_nil_of_length_eq_zero (hlen.trans aw);rw [hn,hl0];simp [convert,r1.run_underlying,r2.run_underlying,r3.run_underlying,pL r1 rfl,qQ r2 rfl,BI r3 rfl,Conv.bytesToString];rfl
  ·have hl0:l=[]:=List.eq_nil_of_length_eq_zero (hlen.trans aw);rw [hn,hl0];exact run_convert_bytes_back w s t e a 0 [] (by rw [r1.hd,pL r1 rfl]) (by rw [r3.hd,BI r3 rfl]) (by rw [r2.hd,qQ r2 rfl]) (λj hj=>by simp at hj)
  ·rw [aw,←hlen]
   have ih:∀j (hj:j<l.length),w.cell? ((⟨b,off,none⟩:Addr).add j)=some (.int .u8 (l[j].toNat:Int)):=by
    intro j hj;have NJ:j<n:=by omega
    have e1:=iT j NJ;have e2:=gI j 0 (.int .u8 ((l.getD j 0).toNat:Int)) NJ (by rw [e1];rfl)
    have e3:val j 0 = .int .u8 ((l.getD j 0).toNat:Int):=by generalize val j 0=u at e2 ⊢;cases e2;rfl
    have h':=h.bw.bw.mem _ _ _ (cT j 0 NJ (by omega))
    rw [addr_add];have pP:off+j*1+0=off+j:=by omega
    rw [pP,e3]at h';rw [h'];simp [List.getD,List.getElem?_eq_getElem hj]
   exact run_convert_bytes_back w s t e ⟨b,off,none⟩ cap l (by rw [r1.hd,pL r1 rfl]) (by rw [r3.hd,BI r3 rfl]) (by rw [r2.hd,qQ r2 rfl]) ih
 ·cases hs
def afy(h:Hyp P K N M β g tmps w p tt){t:TypeId}{x:Operand}(av:o.op = .makeInterface t x)(hs:step1 cd tt ops g p o=some (.go f)):Yields P K M β g f o tmps w:=by
 simp only [step1,av]at hs;split at hs
 case h_2=>cases hs
 rename_i y k fV kw z _ hd ab;obtain⟨r⟩:=eI h.tt ab;have ai:=eh (ds:=[]) h.bw h.dU hd
 have hc:P.concrete t=true∨k = .oO:=by
  have hk:=r.hk;cases Wg:r.desc<;>simp [Wg,lw]at hk
  all_goals first
   |exact .inr hk.symm
   |(left;simp [Program.concrete,r.hd,Wg])
 split at hs
 ·cases hs
 ·rename_i hk;cases hs;rcases hc with hc|hc
  ·refine fa h.bw (v:=.iface t ((⟨tmps,[]⟩:Act).eval x)) ?_ (.v _ _ (.iface t _ _ (n_ ai)));simp only [execOp,av];exact jy _ (run_makeInterface w t _ hc)
  ·exact absurd hc hk
def afz(h:Hyp P K N M β g tmps w p tt){fn:FuncId}{first fc:Array Operand}(av:o.op = .makeFunc (.func fn) first fc)(hs:step1 cd tt ops g p o=some (.go f)):Yields P K M β g f o tmps w:=by
 simp only [step1,av]at hs;rw [Bool.cond_eq_ite]at hs;split at hs
 case isFalse=>cases hs
 rename_i he;simp only [Option.map_eq_some_iff]at hs;obtain⟨ds,h9,hs⟩:=hs;cases hs;obtain⟨Z,aa⟩:=tx h9;have vl:first = #[]:=by simpa using he
 subst vl;refine fa h.bw (v:=.func (.func fn) #[] (fc.map (⟨tmps,[]⟩:Act).eval)) ?_ ?_
 ·simp [execOp,av,Instr.makeFunc]
 ·have:fc.map (⟨tmps,[]⟩:Act).eval=⟨fc.toList.map (⟨tmps,[]⟩:Act).eval⟩:=by apply Array.ext';simp
  rw [this];refine .fn fn _ ds (by simp [Z]) λi v c aw hc=>?_
  simp only [List.getElem?_map,Option.map_eq_some_iff]at aw;obtain⟨y,ce,rfl⟩:=aw;exact eh h.bw h.dU (aa i y c ce hc)
def afA(h:Hyp P K N M β g tmps w p tt){x:Operand}{i:Nat}(av:o.op = .extract x i)(hs:step1 cd tt ops g p o=some (.go f)):Yields P K M β g f o tmps w:=by
 simp only [step1,av]at hs;split at hs
 case h_2=>cases hs
 rename_i ds hd;simp only [Option.map_eq_some_iff]at hs;obtain⟨d,tH,hs⟩:=hs;cases hs;obtain⟨vs,aw,hlen,ai⟩:=aep (eh (ds:=[]) h.bw h.dU hd);have hi:i<ds.length:=(List.getElem?_eq_some_iff.1 tH).1;have e_:vs[i]? = some vs[i]:=List.getElem?_eq_getElem (by omega)
 refine fa h.bw (v:=vs[i]) ?_ (ai i _ d e_ tH);simp only [execOp,av,aw];refine jy _ ?_;simp [Instr.extract,e_]
end
section
variable {P:Program} {K:Ctx} {N:Nat} {M:Mem} {β:Nat→Option Nat} {st:aK} {g:dk} {tmps:Array Value} {w:World} {o:Oper} {f:lm} {p:Path} {tt:dI} {cd:gD} {ops:List Oper}
def sn{op:BinOp}{t t2:TypeId}{x y:Operand}(av:o.op = .binOp op t x y t2){a b v:Value}(hx:(⟨tmps,[]⟩:Act).eval x=a)(ce:(⟨tmps,[]⟩:Act).eval y=b)
 (hg:(eqGuard op t x y a b).run P w = .ok () w) (h:(binOp op t a b).run P w = .ok v w):(execOp (Act.eval ⟨tmps,[]⟩) o).run P w = .ok (.value v) w:=by
 simp only [execOp,av,hx,ce];refine jy _ ?_;simp only [Sem.run_bind,hg,Result.andThen_ok,h]
def x6{op:BinOp}{t:TypeId}{x y:Operand}{a b:Value}(h:∀cs ds,¬ (a = .agg cs∧b = .agg ds))(aa:a = .nilIface→b = .nilIface→isConst y=true):(eqGuard op t x y a b).run P w = .ok () w:=by
 unfold eqGuard;cases op<;>try rfl
 all_goals
  simp only
  cases a<;>cases b<;>first
   |rfl
   |(exact absurd ⟨rfl,rfl⟩ (h _ _))
   |(have:=aa rfl rfl;cases y<;>simp [isConst]at this;simp)
def afB(cz:fB P tt=true){d:Nat}{h6:TypeId}{B2:List (Option mc)}{x y:V}{xs ys:List V}{hU so:Value}{r:Bool}
 (he:jf ((look tt h6).map (·.k)::B2) (x::xs) (y::ys)=some r) (B3:de M hU x) (B4:de M so y):∃c q,(Op.equalIn (d+1) h6 hU so).run P w = .ok c w∧jf B2 xs ys=some q∧(c&&q)=r:=by
 cases ab:look tt h6 with
 |none=>simp [ab,jf]at he
 |some aS=>
  obtain⟨row⟩:=eI cz ab;have qX:=row.hd;simp only [ab,Option.map_some]at he;unfold jf at he;split at he<;>simp only [List.cons.injEq,reduceCtorEq]at *
  case h_2 ks kk k a l k' b m e1 e2 e3=>
   obtain⟨e1,rfl⟩:=e1;obtain⟨rfl,rfl⟩:=e2;obtain⟨rfl,rfl⟩:=e3;cases B3;cases B4
   rw [Bool.cond_eq_ite]at he;split at he
   case isFalse=>cases he
   rename_i hk;simp only [decide_eq_true_eq]at hk;subst hk;simp only [Option.map_eq_some_iff]at he;obtain⟨q,ao,ai⟩:=he;refine⟨decide (a=b),q,?_,ao,ai⟩
   have:∃fl,row.desc = .int fl:=by
    have:=row.hk
    rw [Option.some.inj e1]at this;cases hd:row.desc<;>simp [hd,lw]at this;exact⟨_,rfl⟩
   obtain⟨fl,jm⟩:=this;rw [jm]at qX;rw [run_equalIn_int w d h6 k fl a b qX];rfl
  case h_3 ks a l b m e1 e2 e3=>
   obtain⟨e1,rfl⟩:=e1;obtain⟨rfl,rfl⟩:=e2;obtain⟨rfl,rfl⟩:=e3;cases B3;cases B4
   simp only [Option.map_eq_some_iff]at he;obtain⟨q,ao,ai⟩:=he;refine⟨decide (a=b),q,?_,ao,ai⟩
   have:row.desc = .string:=qQ row (Option.some.inj e1)
   rw [this]at qX;rw [run_equalIn_string w d h6 _ _ qX,Gb,Gb];by_cases mY:a=b<;>simp [mY]
  case h_4 ks a l b m e1 e2 e3=>
   obtain⟨e1,rfl⟩:=e1;obtain⟨rfl,rfl⟩:=e2;obtain⟨rfl,rfl⟩:=e3;cases B3;cases B4
   simp only [Option.map_eq_some_iff]at he;obtain⟨q,ao,ai⟩:=he;refine⟨(a == b),q,?_,ao,ai⟩
   have:row.desc = .bool:=NH row (Option.some.inj e1)
   rw [this]at qX;rw [run_equalIn_bool' w d h6 _ _ qX]
def od(P:Program)(cx:List Field):List (Nat×TypeId×Nat):=cx.map λf=>(f.offset,f.type,P.cellsOf f.type)
def Gt:∀{c_ ak:List (Option mc)} {xs ys:List V} {r:Bool},jf (c_++ak) xs ys=some r→
 ∃r1 r2,jf c_ (xs.take c_.length) (ys.take c_.length)=some r1∧jf ak (xs.drop c_.length) (ys.drop c_.length)=some r2∧(r1&&r2)=r∧c_.length≤xs.length∧c_.length≤ys.length∧∀k,k∈c_→k.isSome=true
 |[],ak,xs,ys,r,h=>⟨true,r,by simp [jf],by simpa using h,rfl,Nat.zero_le _,Nat.zero_le _,λk hk=>by cases hk⟩
 |k::c_,ak,xs,ys,r,h=>by
  simp only [List.cons_append]at h;unfold jf at h;split at h<;>simp only [List.cons.injEq,reduceCtorEq]at *
  ·rename_i ks kk k' a l asl b m e1;obtain⟨rfl,rfl⟩:=e1;rw [Bool.cond_eq_ite]at h;split at h
   case isFalse=>cases h
   rename_i hk;simp only [Option.map_eq_some_iff]at h;obtain⟨q,ao,rfl⟩:=h;obtain⟨r1,r2,Z,aa,aj,aC,aT,bQ⟩:=Gt ao;refine⟨decide (a=b)&&r1,r2,?_,aa,by rw [Bool.and_assoc,aj],by simpa using aC,by simpa using aT,λfl jm=>?_⟩
   ·simp only [List.length_cons,List.take_succ_cons,jf,hk,cond_true,Z,Option.map_some]
   ·rcases List.mem_cons.1 jm with rfl|jm
    ·rfl
    ·exact bQ fl jm
  ·rename_i ks a l b m e1;obtain⟨rfl,rfl⟩:=e1;simp only [Option.map_eq_some_iff]at h;obtain⟨q,ao,rfl⟩:=h;obtain⟨r1,r2,Z,aa,aj,aC,aT,bQ⟩:=Gt ao;refine⟨decide (a=b)&&r1,r2,?_,aa,by rw [Bool.and_assoc,aj],by simpa using aC,by simpa using aT,λfl jm=>?_⟩
   ·simp only [List.length_cons,List.take_succ_cons,jf,Z,Option.map_some]
   ·rcases List.mem_cons.1 jm with rfl|jm
    ·rfl
    ·exact bQ fl jm
  ·rename_i ks a l b m e1;obtain⟨rfl,rfl⟩:=e1;simp only [Option.map_eq_some_iff]at h;obtain⟨q,ao,rfl⟩:=h;obtain⟨r1,r2,Z,aa,aj,aC,aT,bQ⟩:=Gt ao;refine⟨(a == b)&&r1,r2,?_,aa,by rw [Bool.and_assoc,aj],by simpa using aC,by simpa using aT,λfl jm=>?_⟩
   ·simp only [List.length_cons,List.take_succ_cons,jf,Z,Option.map_some]
   ·rcases List.mem_cons.1 jm with rfl|jm
    ·rfl
    ·exact bQ fl jm
def tI(tt:dI)(h6:TypeId):Nat→List (Option mc)
 | 0=>[(look tt h6).map (·.k)]
 |q+1=>match look tt h6 with
  |some {k:=.ca gs,..}=>mQ tt q gs
  |o=>[o.map (·.k)]
def Gu(q:Nat)(f:Field)(cx:List Field):mQ tt q (od P (f::cx))=tI tt f.type q++mQ tt q (od P cx):=by
 cases q with
 |zero=>rfl
 |succ q=>
  simp only [mQ,od,List.map_cons,List.flatMap_cons,tI];rfl
def Wh{t:TypeId}{aS:eM}(r:Row P t aS){gs:Array Field}(h:P.underlying t=some (.struct gs)):aS.k = .ca (od P gs.toList):=by
 have hd:r.desc = .struct gs:=Option.some.inj (r.hd.symm.trans h);have:=r.hk
 rw [hd]at this;simp [lw]at this;exact this.symm
def Wi{t:TypeId}{aS:eM}(r:Row P t aS){gs:List (Nat×TypeId×Nat)}(h:aS.k = .ca gs):∃cx:Array Field,P.underlying t=some (.struct cx)∧gs=od P cx.toList:=by
 have Z:=r.hk;rw [h]at Z;cases hd:r.desc<;>simp [hd,lw]at Z
 rename_i cx;refine⟨cx,?_,Z.symm⟩
 rw [r.hd,hd]
def Wj(cz:fB P tt=true){h6:TypeId}(h:∀gs,P.underlying h6≠some (.struct gs))(q:Nat):tI tt h6 q=[(look tt h6).map (·.k)]:=by
 cases q with
 |zero=>rfl
 |succ q=>
  simp only [tI];split
  ·rename_i gs _ _ _ _ ab;obtain⟨row⟩:=eI cz ab;obtain⟨cx,Z,_⟩:=Wi row rfl;exact absurd Z (h cx)
  ·rfl
def NK(cz:fB P tt=true):∀(q:Nat) (cx:List Field),(∀k,k∈mQ tt q (od P cx)→k.isSome=true)→(mQ tt q (od P cx)).length=sd P q cx
 | 0,cx,_=>by simp [mQ,od,sd]
 |q+1,[],_=>by simp [mQ,od,sd]
 |q+1,f::cx,h=>by
  rw [Gu]at h ⊢;have aH:=NK cz (q+1) cx λk hk=>h k (List.mem_append_right _ hk)
  have hc:sd P (q+1) (f::cx)=(match P.underlying f.type with|some (.struct gs)=>sd P q gs.toList|_=>1)+sd P (q+1) cx:=by
   simp only [sd,List.map_cons,List.sum_cons];rfl
  rw [List.length_append,aH,hc]
  congr 1
  simp only [tI]at h ⊢;split
  ·rename_i gs _ _ _ _ ab;obtain⟨row⟩:=eI cz ab;obtain⟨B5,Z,rfl⟩:=Wi row rfl;rw [Z];refine NK cz q B5.toList λk hk=>h k (List.mem_append_left _ ?_)
   rw [ab];exact hk
  ·rename_i o oX;cases av:look tt f.type with
   |none=>
    have:=h none (List.mem_append_left _ (by rw [av];simp))
    cases this
   |some aS=>
    obtain⟨row⟩:=eI cz av;split
    ·rename_i gs hu;have:=Wh row hu
     obtain⟨k,s,b,z,kW⟩:=aS;simp only at this
     subst this;exact absurd av (oX _ _ _ _ _)
    ·rfl
def Wk (cz : fB P tt = true) {d : Nat} {f : Field} {cx : List Field} {i : Nat} {B2 : List (Option mc)} {xs ys : List V} {vs us : List Value} {r : Bool} (tJ : f.offset = i) (jM : ¬ f.name = "_") (jK : (isAgg f.type).run P w = .ok false w)
 (he:jf ((look tt f.type).map (·.k)::B2) xs ys=some r)
 (aw:∀(j:Nat) v x,vs[i+j]? = some v→xs[j]? = some x→de M v x) (hu:∀(j:Nat) v x,us[i+j]? = some v→ys[j]? = some x→de M v x) (fY:i+xs.length≤vs.length) (vg:i+ys.length≤us.length)
 (aH:∀(q:Bool),∀{B6 B7:List V},jf B2 B6 B7=some q→(∀(j:Nat) v x,vs[i+1+j]? = some v→B6[j]? = some x→de M v x)→(∀(j:Nat) v x,us[i+1+j]? = some v→B7[j]? = some x→de M v x)→i+1+B6.length≤vs.length→i+1+B7.length≤us.length→(Op.eqFields (d+1) ⟨vs⟩ ⟨us⟩ cx).run P w = .ok q w):
 (Op.eqFields (d+1) ⟨vs⟩ ⟨us⟩ (f::cx)).run P w = .ok r w:=by
 cases xs with
 |nil=>simp [jf]at he
 |cons x xs=>
  cases ys with
  |nil=>simp [jf]at he
  |cons y ys=>
   simp only [List.length_cons]at fY vg;obtain⟨hU,e_⟩:∃hU,vs[i]? = some hU:=⟨_,List.getElem?_eq_getElem (by omega)⟩
   obtain⟨so,Wl⟩:∃so,us[i]? = some so:=⟨_,List.getElem?_eq_getElem (by omega)⟩
   have B3:=aw 0 hU x e_ rfl;have B4:=hu 0 so y Wl rfl
   have Gv:∀{zs:List Value} {z:Value},zs[i]? = some z→(part f.type ⟨zs⟩ f.offset).run P w = .ok z w:=by
    intro zs z dw;have:(⟨zs⟩:Array Value)[f.offset]? = some z:=by rw [tJ];simpa using dw
    simp only [part,Sem.run_bind,jK,Result.andThen_ok,this];rfl
   obtain⟨c,q,Z,aa,aj⟩:=afB (P:=P) (w:=w) (M:=M) cz (d:=d) he B3 B4;have aC:=aH q aa (λj v z Z aa=>aw (j+1) v z (by rw [←Z];congr 1;omega) (by simpa using aa)) (λj v z Z aa=>hu (j+1) v z (by rw [←Z];congr 1;omega) (by simpa using aa)) (by omega) (by omega)
   simp only [Op.eqFields];rw [if_pos jM];simp only [Sem.run_bind,Gv e_,Gv Wl,Result.andThen_ok,Z];cases c
   ·simp [←aj]
   ·simp [←aj,aC]
def afC(cz:fB P tt=true):∀(q:Nat) {d:Nat} {cx:List Field} {i:Nat} {xs ys:List V} {vs us:List Value} {r:Bool},vb P q i cx=true→jf (mQ tt q (od P cx)) xs ys=some r→
 (∀(j:Nat) v x,vs[i+j]? = some v→xs[j]? = some x→de M v x)→(∀(j:Nat) v x,us[i+j]? = some v→ys[j]? = some x→de M v x)→i+xs.length≤vs.length→i+ys.length≤us.length→
 (Op.eqFields (d+q+1) ⟨vs⟩ ⟨us⟩ cx).run P w = .ok r w:=by
 intro q;induction q with
 |zero=>
  intro d cx;induction cx with
  |nil=>intro i xs ys vs us r _ he _ _ _ _;cases xs<;>cases ys<;>simp [mQ,od,jf]at he;subst he;simp [Op.eqFields]
  |cons f cx aH=>
   intro i xs ys vs us r aW he aw hu fY vg;simp only [vb,xT,Bool.and_eq_true,Nat.beq_eq,Bool.not_eq_true',decide_eq_false_iff_not]at aW;obtain⟨⟨tJ,jM⟩,gV⟩:=aW
   have x7:(∀gs,P.underlying f.type≠some (.struct gs))∧vb P 0 (i+1) cx=true∧(isAgg f.type).run P w = .ok false w:=by
    simp only [isAgg,Sem.run_bind];split at gV
    ·rename_i k hk;refine⟨λgs h=>(by rw [hk]at h;cases h),gV,?_⟩;rw [Go.run_underlying hk];rfl
    ·rename_i hk;refine⟨λgs h=>(by rw [hk]at h;cases h),gV,?_⟩;rw [Go.run_underlying hk];rfl
    ·rename_i hk;refine⟨λgs h=>(by rw [hk]at h;cases h),gV,?_⟩;rw [Go.run_underlying hk];rfl
    ·simp at gV
    ·cases gV
   exact Wk cz tJ jM x7.2.2 (by rw [Gu,Wj cz x7.1]at he;exact he) aw hu fY vg λq' B6 B7 pN oV NL Z aa=>aH x7.2.1 pN oV NL Z aa
 |succ q afD=>
  intro d cx;induction cx with
  |nil=>intro i xs ys vs us r _ he _ _ _ _;cases xs<;>cases ys<;>simp [mQ,od,jf]at he;subst he;simp [Op.eqFields]
  |cons f cx aH=>
   intro i xs ys vs us r aW he aw hu fY vg;have B8:=aW;simp only [vb,xT,Bool.and_eq_true,Nat.beq_eq,Bool.not_eq_true',decide_eq_false_iff_not]at aW;obtain⟨⟨tJ,jM⟩,gV⟩:=aW;by_cases dx:∃gs,P.underlying f.type=some (.struct gs)
   ·obtain⟨gs,x8⟩:=dx;rw [x8]at gV;simp only [Bool.and_eq_true,Bool.not_eq_true',Nat.beq_eq]at gV;obtain⟨⟨⟨afE,afF⟩,afG⟩,Wm⟩:=gV;rw [Gu]at he;obtain⟨r1,r2,e1,e2,e3,hK,ke,vt⟩:=Gt he
    have kz:∃aS,look tt f.type=some aS:=by
     cases ab:look tt f.type with
     |none=>have:=vt none (by simp [tI,ab]);cases this
     |some aS=>exact⟨aS,rfl⟩
    obtain⟨aS,Gw⟩:=kz;obtain⟨row⟩:=eI cz Gw;have hk:=Wh row x8
    have vo:tI tt f.type (q+1)=mQ tt q (od P gs.toList):=by
     obtain⟨k,s,b,z,kW⟩:=aS;simp only at hk
     subst hk;simp only [tI,Gw]
    rw [vo]at e1 e2 hK ke vt;have hn:=NK cz q gs.toList vt;rw [hn,←afF]at e1 e2 hK ke;generalize aR:P.cellsOf f.type=n at e1 e2 hK ke
    obtain⟨info,Ge⟩:=info_of_underlying x8
    have Gv:∀zs:List Value,(part f.type ⟨zs⟩ f.offset).run P w = .ok (.agg ⟨(zs.drop i).take n⟩) w:=by
     intro zs
     have:(⟨zs⟩:Array Value).extract i (i+n)=⟨(zs.drop i).take n⟩:=by
      apply Array.ext';rw [Array.toList_extract];simp [List.extract]
     simp only [part,isAgg,Sem.run_bind,run_underlying x8,run_sizeOf w Ge,Result.andThen_ok,Sem.run_pure,tJ,aR];simp [this,run_sizeOf w Ge,aR]
    have mS:∀{zs:List Value} {cs:List V},(∀(j:Nat) v x,zs[i+j]? = some v→cs[j]? = some x→de M v x)→∀(j:Nat) v x,((zs.drop i).take n)[0+j]? = some v→(cs.take n)[j]? = some x→de M v x:=by
     intro zs cs h j v x Z aa;rw [Nat.zero_add,List.getElem?_take]at Z;rw [List.getElem?_take]at aa;split at Z
     ·rename_i hj;rw [if_pos hj]at aa;rw [List.getElem?_drop]at Z;exact h j v x Z aa
     ·cases Z
    have xY:P.fieldsOf f.type=gs:=by simp [Program.fieldsOf,x8]
    have hin:(Op.equalIn (d+(q+1)+1) f.type (.agg ⟨(vs.drop i).take n⟩) (.agg ⟨(us.drop i).take n⟩)).run P w = .ok r1 w:=by
     rw [run_equalIn_agg w (d+(q+1)) f.type _ _ (by rw [xY];exact x8) afE,xY]
     exact afD (d:=d) (i:=0) afG e1 (mS aw) (mS hu) (by simp;omega) (by simp;omega)
    have Wn:∀{zs:List Value} {cs:List V},(∀(j:Nat) v x,zs[i+j]? = some v→cs[j]? = some x→de M v x)→∀(j:Nat) v x,zs[i+n+j]? = some v→(cs.drop n)[j]? = some x→de M v x:=by
     intro zs cs h j v x Z aa;rw [List.getElem?_drop]at aa;exact h (n+j) v x (by rw [←Nat.add_assoc];exact Z) aa
    rw [aR]at Wm;have iR:=aH (i:=i+n) Wm e2 (Wn aw) (Wn hu) (by simp;omega) (by simp;omega)
    simp only [Op.eqFields];rw [if_pos jM];simp only [Sem.run_bind,Gv,Result.andThen_ok,hin];cases r1
    ·simp [←e3]
    ·simp [←e3,iR]
   ·have x7:vb P (q+1) (i+1) cx=true∧(isAgg f.type).run P w = .ok false w:=by
     simp only [isAgg,Sem.run_bind];split at gV
     ·rename_i k hk;refine⟨gV,?_⟩;rw [Go.run_underlying hk];rfl
     ·rename_i hk;refine⟨gV,?_⟩;rw [Go.run_underlying hk];rfl
     ·rename_i hk;refine⟨gV,?_⟩;rw [Go.run_underlying hk];rfl
     ·rename_i gs hk;exact absurd ⟨gs,hk⟩ dx
     ·cases gV
    exact Wk cz tJ jM x7.2 (by rw [Gu,Wj cz (λgs h=>dx ⟨gs,h⟩)]at he;exact he) aw hu fY vg λq' B6 B7 pN oV NL Z aa=>aH x7.1 pN oV NL Z aa
def Wo(cz:fB P tt=true){t:TypeId}{cx:List (Nat×TypeId×Nat)}{fV kw:Nat}{z:List V}{kW:List (Nat×TypeId)}(ab:look tt t=some {k:=.ca cx,size:=fV,bytes:=kw,zero:=z,jG:=kW})(he:MW P t=true){xs ys:List V}{r:Bool}(ai:jf (mQ tt 4 cx) xs ys=some r)
 {hU so:Value} (aw:de M hU (.agg xs)) (hu:de M so (.agg ys)):∃vs us,hU = .agg ⟨vs⟩∧so = .agg ⟨us⟩∧(Op.equalIn 10000 t (.agg ⟨vs⟩) (.agg ⟨us⟩)).run P w = .ok r w∧∀op a b,(eqGuard op t a b (.agg ⟨vs⟩) (.agg ⟨us⟩)).run P w = .ok () w:=by
 obtain⟨row⟩:=eI cz ab;cases aw with
 |agg vs _ hn Z gI=>
  cases hu with
  |agg us _ F8 ls afH=>
   refine⟨vs,us,rfl,rfl,?_⟩
   unfold MW at he;split at he
   case h_2=>cases he
   rename_i B5 qX;simp only [Bool.and_eq_true,Bool.not_eq_true']at he;obtain⟨⟨aa,aj⟩,aC⟩:=he;have B8:P.fieldsOf t=B5:=by simp [Program.fieldsOf,qX]
   have NM:row.desc = .struct B5:=Option.some.inj (row.hd.symm.trans qX)
   have mj:cx=B5.toList.map λf=>(f.offset,f.type,P.cellsOf f.type):=by
    have:=row.hk
    rw [NM]at this;simp [lw]at this;exact this.symm
   refine⟨?_,λop a b=>run_eqGuard_agg w op t a b _ _ aj⟩
   rw [run_equalIn_agg w 9999 t _ _ (by rw [B8];exact qX) aa,B8]
   refine afC cz 4 (d:=9994) (i:=0) (xs:=xs) (ys:=ys) aC (by rw [mj]at ai;exact ai) (λj v x aT bQ=>gI j v x (by simpa using aT) bQ) (λj v x aT bQ=>afH j v x (by simpa using aT) bQ) (by omega) (by omega)
def afI(h:Hyp P K N M β g tmps w p tt){op:BinOp}{t t2:TypeId}{x y:Operand}(av:o.op = .binOp op t x y t2)(hs:step1 (jL P) tt ops g p o=some (.go f))(cn:∀q,q∈f.a6→q):Yields P K M β g f o tmps w:=by
 simp only [step1,av]at hs;split at hs
 case h_3=>cases hs
 case h_1=>
  rename_i xs ys ha hb;have pQ:=n_ (eh (ds:=[]) h.bw h.dU ha);have oY:=n_ (eh (ds:=[]) h.bw h.dU hb);split at hs
  case h_2=>cases hs
  rename_i cx fV kw z _ ab;rw [Bool.cond_eq_ite]at hs;split at hs
  case isFalse=>cases hs
  rename_i he;split at hs
  ·rename_i r ai;cases hs;obtain⟨vs,us,e1,e2,Z,aa⟩:=Wo (w:=w) (M:=M) h.tt ab he ai pQ oY;exact fa h.bw (sn av e1 e2 (aa _ _ _) (by rw [run_eql_struct,Z];rfl)) (.v _ _ (.bool _))
  ·rename_i r ai;cases hs;obtain⟨vs,us,e1,e2,Z,aa⟩:=Wo (w:=w) (M:=M) h.tt ab he ai pQ oY;exact fa h.bw (sn av e1 e2 (aa _ _ _) (by rw [run_neq_struct,Z];rfl)) (.v _ _ (.bool _))
  ·cases hs
 rename_i a b ha hb;simp only [Option.map_eq_some_iff]at hs;obtain⟨⟨z,a6⟩,dw,hs⟩:=hs;cases hs;have pQ:=eh (ds:=[]) h.bw h.dU ha;have oY:=eh (ds:=[]) h.bw h.dU hb;unfold Vf at dw;split at dw
 ·rename_i c_ m ak n;have e1:=mh pQ;have e2:=mh oY;split at dw
  ·rename_i z0 hsh;cases dw;obtain⟨v,aw,ai⟩:=afe (P:=P) (w:=w) (M:=M) (k':=ak) hsh cn t;exact fa h.bw (sn av e1 e2 (x6 (by simp) (by simp)) aw) (.v _ _ ai)
  rw [Bool.cond_eq_ite]at dw;split at dw
  case isFalse=>cases dw
  rename_i hk;simp only [decide_eq_true_eq]at hk;subst hk;obtain⟨v,aw,ai⟩:=afd (P:=P) (w:=w) (M:=M) dw cn t;exact fa h.bw (sn av e1 e2 (x6 (by simp) (by simp)) aw) (.v _ _ ai)
 ·have e1:=mU pQ;have e2:=mU oY;obtain⟨v,aw,ai⟩:=aff (P:=P) (w:=w) (M:=M) dw cn t;exact fa h.bw (sn av e1 e2 (x6 (by simp) (by simp)) aw) (.v _ _ ai)
 ·rename_i cY jj;have e1:=vc pQ;have e2:=vc oY;obtain⟨dep,hm⟩:∃d,Op.maxDepth=d+1:=⟨9999,rfl⟩;cases ab:look tt t with
  |none=>rw [ab]at dw;simp at dw
  |some aS=>
   rw [ab]at dw;obtain⟨r⟩:=eI h.tt ab;split at dw<;>cases dw
   ·rename_i hk;simp at hk
    refine fa h.bw (v:=.bool (cY == jj)) (sn av e1 e2 (x6 (by simp) (by simp)) ?_) (.v _ _ (.bool _))
    simp only [binOp,Sem.run_bind];rw [Op.equal,hm,Op.equalIn];simp [r.run_underlying,NH r hk]
   ·rename_i hk;simp at hk
    refine fa h.bw (v:=.bool (!(cY == jj))) (sn av e1 e2 (x6 (by simp) (by simp)) ?_) (.v _ _ (.bool _))
    simp only [binOp,Sem.run_bind];rw [Op.equal,hm,Op.equalIn];simp [r.run_underlying,NH r hk]
 ·cases ab:look tt t with
  |none=>rw [ab]at dw;simp at dw
  |some aS=>
   rw [ab]at dw;simp only [Option.map_some]at dw;obtain⟨r⟩:=eI h.tt ab;rw [Bool.cond_eq_ite]at dw;split at dw
   case isFalse=>cases dw
   rename_i hc;simp only [Bool.and_eq_true]at hc
   have Wp:(eqGuard op t x y ((⟨tmps,[]⟩:Act).eval x) ((⟨tmps,[]⟩:Act).eval y)).run P w = .ok () w:=by
    refine x6 ?_ (λ_ _=>hc.2)
    rintro cs ds ⟨_,bY⟩
    rw [bY]at oY;have NN:=hc.1;unfold FY at NN;split at NN<;>first|(cases n_ oY;done)|(cases NN;done)
   split at dw<;>cases dw
   ·rename_i res hn;obtain⟨Z,aa⟩:=We (w:=w) r pQ oY hc.1 hn;refine fa h.bw (v:=.bool res) (sn av rfl rfl Wp ?_) (.v _ _ (.bool _));rw [aa .eql];simp [Z]
   ·rename_i res hn;obtain⟨Z,aa⟩:=We (w:=w) r pQ oY hc.1 hn;refine fa h.bw (v:=.bool (!res)) (sn av rfl rfl Wp ?_) (.v _ _ (.bool _));rw [aa .neq];simp [Z]
def afJ(h:Hyp P K N M β g tmps w p tt){s:TypeId}{x:Operand}{i:Nat}(av:o.op = .fieldAddr s x i)(hs:step1 cd tt ops g p o=some (.go f)):Yields P K M β g f o tmps w:=by
 simp only [step1,av]at hs;split at hs
 ·rename_i q off cx fV kw z _ hd ab;obtain⟨r⟩:=eI h.tt ab;split at hs
  case h_2=>cases hs
  rename_i dL h6 x9 aW;rw [Bool.cond_eq_ite]at hs;split at hs
  case isFalse=>cases hs
  rename_i hc;cases hs;obtain⟨b,hb,aw⟩:=se (eh (ds:=[]) h.bw h.dU hd);refine fa h.bw (v:=.pointer (some ⟨b,off+dL,none⟩)) ?_ (.ptr _ _ _ hb);simp only [execOp,av,aw];exact jy _ (Vx r rfl aW (by simpa using hc) b off)
 ·rename_i cs cx fV kw z _ hd ab;obtain⟨r⟩:=eI h.tt ab;split at hs
  case h_2=>cases hs
  rename_i dL h6 x9 aW;split at hs
  case h_2=>cases hs
  rename_i xX Gx;rw [Bool.cond_eq_ite]at hs;split at hs
  case isFalse=>cases hs
  rename_i hc;simp only [Bool.and_eq_true,Nat.ble_eq]at hc;obtain⟨b,off,val,aw,cT,Z,ai⟩:=F_ (eh (ds:=[]) h.bw h.dU hd)
  have fe:(execOp (Act.eval ⟨tmps,[]⟩) o).run P w = .ok (.value (.pointer (some ⟨b,off+dL,none⟩))) w:=by
   simp only [execOp,av,aw];exact jy _ (Vx r rfl aW hc.1 b off)
  simp only [V.cells]at cT Z ai;rw [Bool.cond_eq_ite]at hs;split at hs
  ·cases hs;have hlen:((cs.drop dL).take x9).length=x9:=by simp;omega
   refine fa h.bw fe (.e6 b (off+dL) _ (λj=>val (dL+j)) (λj hj=>?_) (λj hj=>?_) (λj c hj=>?_))
   ·simp only [V.cells,hlen]at hj;rw [Nat.add_assoc];exact cT _ (by omega)
   ·simp only [V.cells,hlen]at hj;exact Z _ (by omega)
   ·simp only [V.cells]at hj;rw [List.getElem?_take]at hj;split at hj
    ·rw [List.getElem?_drop]at hj;exact ai _ c hj
    ·cases hj
  ·rw [Bool.cond_eq_ite]at hs;split at hs
   case isFalse=>cases hs
   rename_i eu;split at hs
   case h_2=>cases hs
   rename_i c kX;rw [Bool.cond_eq_ite]at hs;split at hs
   ·cases hs
   ·rename_i afK;cases hs;have lX:=xW (x:=c) (by simpa using afK)
    refine fa h.bw fe (.e6 b (off+dL) c (λj=>val (dL+j)) (λj hj=>?_) (λj hj=>?_) (λj mg hj=>?_))
    ·rw [lX]at hj;rw [Nat.add_assoc];exact cT _ (by have:=(List.getElem?_eq_some_iff.1 kX).1;simp at hj;omega)
    ·rw [lX]at hj;exact Z _ (by have:=(List.getElem?_eq_some_iff.1 kX).1;simp at hj;omega)
    ·rw [lX]at hj;cases j with
     |zero=>simp at hj;subst hj;exact ai _ _ kX
     |succ j=>simp at hj
 ·cases hs
def afL(h:Hyp P K N M β g tmps w p tt){s:TypeId}{x:Operand}{i:Nat}(av:o.op = .field s x i)(hs:step1 cd tt ops g p o=some (.go f)):Yields P K M β g f o tmps w:=by
 simp only [step1,av]at hs;split at hs
 case h_3=>cases hs
 case h_2=>
  rename_i cs cx fV kw z _ hd ab;obtain⟨r⟩:=eI h.tt ab;split at hs
  case h_2=>cases hs
  rename_i dL h6 x9 aW;split at hs
  case h_2=>cases hs
  rename_i xX c Gx kX;obtain⟨NO⟩:=eI h.tt Gx;rw [Bool.cond_eq_ite]at hs;split at hs
  ·cases hs
  rename_i hc;simp only [Bool.or_eq_true,not_or,Bool.not_eq_true,Bool.not_eq_true',Bool.not_eq_false,Nat.beq_eq]at hc;cases hs;have l2:=eh (ds:=[]) h.bw h.dU hd;generalize vx:(⟨tmps,[]⟩:Act).eval x=hU at l2
  cases l2 with
  |agg vs _ hn Z ai=>
   have cX:dL<cs.length:=(List.getElem?_eq_some_iff.1 kX).1;have e_:vs[dL]? = some vs[dL]:=List.getElem?_eq_getElem (by omega)
   obtain⟨ha,hb⟩:=Vy (w:=w) r rfl aW NO vs (by omega)
   refine fa h.bw (v:=vs[dL]) ?_ (ai _ _ c e_ kX);simp only [execOp,av,vx];exact jy _ (hb hc.1.1 _ e_)
 rename_i cs cx fV kw z _ hd ab;obtain⟨r⟩:=eI h.tt ab;split at hs
 case h_2=>cases hs
 rename_i dL h6 x9 aW;split at hs
 case h_2=>cases hs
 rename_i xX Gx;obtain⟨NO⟩:=eI h.tt Gx;rw [Bool.cond_eq_ite]at hs;split at hs
 case isFalse=>cases hs
 rename_i hc;simp only [Nat.ble_eq]at hc;obtain⟨vs,aw,hlen,Z,ai⟩:=aeo (eh (ds:=[]) h.bw h.dU hd);obtain⟨ha,hb⟩:=Vy (w:=w) r rfl aW NO vs (by omega)
 rw [Bool.cond_eq_ite]at hs;split at hs
 ·rename_i jK;cases hs;refine fa h.bw (v:=.agg ⟨(vs.drop dL).take x9⟩) ?_ (.v _ _ (.agg _ _ (by simp;omega) (λv aw=>Z v (List.mem_of_mem_drop (List.mem_of_mem_take aw))) (λj v c aw ka=>?_)))
  ·simp only [execOp,av,aw];exact jy _ (ha jK)
  ·rw [List.getElem?_take]at aw ka;split at aw
   ·rename_i hj;rw [if_pos hj,List.getElem?_drop]at ka;rw [List.getElem?_drop]at aw;exact ai _ v c aw ka
   ·cases aw
 ·rename_i jK;split at hs
  case h_2=>cases hs
  rename_i c kX;cases hs;have cX:dL<cs.length:=(List.getElem?_eq_some_iff.1 kX).1;have e_:vs[dL]? = some vs[dL]:=List.getElem?_eq_getElem (by omega)
  refine fa h.bw (v:=vs[dL]) ?_ (.v _ _ (ai _ _ c e_ kX));simp only [execOp,av,aw];exact jy _ (hb (by simpa using jK) _ e_)
def afM{x y:V}(aw:hA x y){k b off:Nat}{val:Nat→Value}(hk:x.cells.length=k)(cT:∀q,q<k→M b (off+q)=some (val q))(Z:∀q,q<k→(val q).oneCell'=true)
 (ai:∀(q:Nat) c,x.cells[q]? = some c→de M (val q) c):cy M β (.pointer (some ⟨b,off,none⟩)) (.e6 y):=by
 subst hk;have ce:=aw M _ (Vv Z ai);cases hx:x.isAgg with
 |true=>
  rw [hx]at ce;simp only [cond_true]at ce;cases ce with
  |agg vs cs hn ls gc=>
   have hlen:cs.length=x.cells.length:=by simpa using hn.symm
   refine .e6 b off _ val (λj hj=>cT j (by simp only [V.cells]at hj;omega)) (λj hj=>Z j (by simp only [V.cells]at hj;omega)) (λj c hj=>?_)
   simp only [V.cells]at hj;have vp:j<x.cells.length:=by have:=(List.getElem?_eq_some_iff.1 hj).1;omega
   exact gc j (val j) c (by simp [vp]) hj
  |any _ ls=>simp [Value.oneCell']at ls
 |false=>
  rw [hx]at ce;simp only [cond_false]at ce;have x':=xW hx;have jg:=Z 0 (by rw [x'];simp)
  have afN:y.isAgg=false:=by
   cases y<;>first|rfl|skip
   exfalso
   generalize val 0=u at ce jg
   cases ce;simp [Value.oneCell']at jg
  have NP:=xW afN;refine .e6 b off y val (λj hj=>cT j (by rw [x'];rw [NP]at hj;exact hj)) (λj hj=>Z j (by rw [x'];rw [NP]at hj;exact hj)) (λj c hj=>?_)
  rw [NP]at hj;cases j with
  |zero=>simp at hj;subst hj;exact ce
  |succ j=>simp at hj
def afO(h:Hyp P K N M β g tmps w p tt){t:TypeId}{x i:Operand}(av:o.op = .indexAddr t x i)(hs:step1 cd tt ops g p o=some (.go f))(cn:∀q,q∈f.a6→q):Yields P K M β g f o tmps w:=by
 simp only [step1,av]at hs;split at hs
 case h_2=>cases hs
 rename_i k n get kk j e fV kw z _ hx hi ab;obtain⟨r⟩:=eI h.tt ab;split at hs
 case h_2=>cases hs
 rename_i ak size Wf z2 eQ;obtain⟨dO⟩:=eI h.tt eQ;rw [Bool.cond_eq_ite]at hs;split at hs
 case isFalse=>cases hs
 rename_i hc;simp only [Bool.and_eq_true,Nat.beq_eq,Nat.ble_eq]at hc;obtain⟨rfl,Gy⟩:=hc
 have vy:∃(y:V) (rs:List fu) (a6:List Prop),f={e:=some {d:=.e6 y},rs,a6}∧hA (get j.toNat) y∧aJ j n=true:=by
  split at hs
  ·rename_i y rs eX;cases hs;exact⟨_,_,_,rfl,cn _ (by simp),cn (aJ j n=true) (by simp)⟩
  ·cases hs;exact⟨_,_,_,rfl,λ_ _ h=>h,cn (aJ j n=true) (by simp)⟩
  ·cases hs
 obtain⟨y,rs,a6,rfl,c',fA⟩:=vy;have fA:=Wa fA;have NQ:=mh (eh (ds:=[]) h.bw h.dU hi);rcases tv (eh (ds:=[]) h.bw h.dU hx) with⟨_,kc⟩|⟨b,off,cap,val,aw,_,hk,cT,Z,ai⟩
 ·omega
 ·have cX:j.toNat<n:=by omega
  have ce:cy M β (.pointer (some ⟨b,off+j.toNat*k,none⟩)) (.e6 y):=
   afM c' (hk _ cX) (λq ao=>cT _ q cX ao) (λq ao=>Z _ q cX ao) (λq c ao=>ai _ q c cX ao)
  refine fa h.bw (v:=.pointer (some ⟨b,off+j.toNat*k,none⟩)) ?_ ce;simp only [execOp,av,aw,NQ];exact jy _ (aes r rfl dO fA.1 fA.2)
def afP(h:Hyp P K N M β g tmps w p tt){t:TypeId}{x i:Operand}(av:o.op = .index t x i)(hs:step1 cd tt ops g p o=some (.go f))(cn:∀q,q∈f.a6→q):Yields P K M β g f o tmps w:=by
 simp only [step1,av]at hs;split at hs
 case h_2=>cases hs
 rename_i l kk j fV kw z _ hx hi ab;obtain⟨r⟩:=eI h.tt ab;cases hs;have hb:=Wa (cn (aJ j l.length=true) (by simp))
 have ex:=mU (eh (ds:=[]) h.bw h.dU hx);have NQ:=mh (eh (ds:=[]) h.bw h.dU hi);refine fa h.bw (v:=.int .u8 (l.getD j.toNat 0).toNat) ?_ (.v _ _ (.int _ _));simp only [execOp,av,ex,NQ];exact jy _ (aet r rfl hb.1 hb.2)
def afQ{k n m:Nat}{get:Nat→V}{a:Nat}{b off cap:Nat}
 {val:Nat→Nat→Value} (hk:∀i,i<n→(get i).cells.length=k) (cT:∀i j,i<n→j<k→M b (off+i*k+j)=some (val i j)) (Z:∀i j,i<n→j<k→(val i j).oneCell'=true)
 (ai:∀(i j:Nat) c,i<n→(get i).cells[j]? = some c→de M (val i j) c) (hm:a+m≤n) (hc:m≤cap):
 de M (.slice (some ⟨b,off+a*k,none⟩) m cap) (.bH k m λi=>get (a+i)):=by
 refine .bH b (off+a*k) k m cap _ (λi j=>val (a+i) j) hc (λi hi=>hk _ (by omega)) (λi j hi hj=>?_) (λi j hi hj=>Z _ _ (by omega) hj) (λi j c hi lX=>ai _ _ _ (by omega) lX)
 have:=cT (a+i) j (by omega) hj
 rw [Nat.add_mul]at this
 rwa [show off+a*k+i*k+j=off+(a*k+i*k)+j by omega]
def Gz{t e:TypeId}{aS cf:eM}(r:Row P t aS)(hk:aS.k = .bH e)(dO:Row P e cf){base:Option Addr}{n cap:Nat}{lo hi:Option Value}{a b:Nat}
 (kf:lo=none∧a=0∨∃k,lo=some (.int k a)) (jz:hi=none∧b=n∨∃k,hi=some (.int k b)) (mY:a≤b) (qY:b≤n) (mZ:n≤cap):
 (Instr.sliceAt t (.slice base n cap) lo hi none).run P w = .ok (.slice (if cap=a then base else base.map (·.add (a*cf.size))) (b-a) (cap-a)) w:=by
 have hu:=r.run_underlying w;rw [pL r hk]at hu;have GA:b≤cap:=by omega
 rcases kf with⟨rfl,rfl⟩|⟨c_,rfl⟩<;>rcases jz with⟨rfl,rfl⟩|⟨ak,rfl⟩
 ·simp [Instr.sliceAt,hu,Instr.slice,Instr.sliceBounds,dO.run_sizeOf]
 ·simp [Instr.sliceAt,hu,Instr.slice,Instr.sliceBounds,Instr.sliceBound,asIntOf,dO.run_sizeOf,GA]
 ·simp [Instr.sliceAt,hu,Instr.slice,Instr.sliceBounds,Instr.sliceBound,asIntOf,dO.run_sizeOf,mY]
 ·simp [Instr.sliceAt,hu,Instr.slice,Instr.sliceBounds,Instr.sliceBound,asIntOf,dO.run_sizeOf,GA,mY]
end
section
variable {P:Program} {K:Ctx} {N:Nat} {M:Mem} {β:Nat→Option Nat} {st:aK} {g:dk} {tmps:Array Value} {w:World} {o:Oper} {f:lm} {p:Path} {tt:dI} {cd:gD} {ops:List Oper}
def sq{t:TypeId}{x:Operand}{lo hi j_:Option Operand}(av:o.op = .slice t x lo hi j_){v u:Value}(hx:(⟨tmps,[]⟩:Act).eval x=v){a b:Option Value}(ha:lo.map (⟨tmps,[]⟩:Act).eval=a)(hb:hi.map (⟨tmps,[]⟩:Act).eval=b){c:Option Value}(hm:j_.map (⟨tmps,[]⟩:Act).eval=c)
 (h:(Instr.sliceAt t v a b c).run P w = .ok u w):(execOp (Act.eval ⟨tmps,[]⟩) o).run P w = .ok (.value u) w:=by
 simp only [execOp,av,hx,ha,hb,hm];exact jy _ h
def GB{t:TypeId}{aS:eM}(r:Row P t aS)(hk:aS.k = .str){l:atW}{lo hi:Option Value}{a b:Nat}
 (kf:lo=none∧a=0∨∃k,lo=some (.int k a)) (jz:hi=none∧b=l.length∨∃k,hi=some (.int k b)) (mY:a≤b) (qY:b≤l.length):
 (Instr.sliceAt t (.string ⟨⟨l⟩⟩) lo hi none).run P w = .ok (.string ⟨⟨(l.take b).drop a⟩⟩) w:=by
 have hu:=r.run_underlying w;rw [qQ r hk]at hu;have hs:(⟨⟨l⟩⟩:ByteArray).size=l.length:=rfl
 have hx:(⟨⟨l⟩⟩:ByteArray).extract a b=⟨⟨(l.take b).drop a⟩⟩:=by
  have:=ByteArray.extract_mk l a b
  rw [List.drop_take];exact this
 rcases kf with⟨rfl,rfl⟩|⟨c_,rfl⟩<;>rcases jz with⟨rfl,rfl⟩|⟨ak,rfl⟩
 ·simp [Instr.sliceAt,hu,Instr.slice,Instr.sliceBounds]
 ·simp [Instr.sliceAt,hu,Instr.slice,Instr.sliceBounds,Instr.sliceBound,asIntOf,qY,hs,hx]
 ·simp [Instr.sliceAt,hu,Instr.slice,Instr.sliceBounds,Instr.sliceBound,asIntOf,mY,hs,hx]
 ·simp [Instr.sliceAt,hu,Instr.slice,Instr.sliceBounds,Instr.sliceBound,asIntOf,qY,mY,hs,hx]
def B9{v:Value}{k n:Nat}{get:Nat→V}(aw:cy M β v (.v (.bH k n get))){a b:Nat}(mY:a≤b)(qY:b≤n){base:Option Addr}{cap:Nat}(vz:v = .slice base n cap)(mZ:n≤cap):
 de M (.slice (if cap=a then base else base.map (·.add (a*k))) (b-a) (cap-a)) (.bH k (b-a) λi=>get (a+i)):=by
 rcases tv aw with⟨Z|⟨a0,Z⟩,aa⟩|⟨oW,off,V0,val,Z,hc,hk,cT,ls,ai⟩
 ·rw [vz]at Z;cases Z;have:b=0:=by omega
  subst this;have:a=0:=by omega
  subst this;exact .md _ _
 ·rw [vz]at Z;cases Z;have:b=0:=by omega
  subst this;have:a=0:=by omega
  subst this;exact .pC _ _ _
 ·rw [vz]at Z;cases Z;by_cases Wq:cap=a
  ·rw [if_pos Wq];have:b-a=0:=by omega
   rw [this];exact .bH oW off k 0 _ _ (λ_ _=>undef) (Nat.zero_le _) (by simp) (by simp) (by simp) (by simp)
  ·rw [if_neg Wq];simp only [Option.map_some,addr_add];exact afQ hk cT ls ai (by omega) (by omega)
def afR(h:Hyp P K N M β g tmps w p tt){t:TypeId}{x:Operand}{lo hi j_:Option Operand}(av:o.op = .slice t x lo hi j_)(hs:step1 cd tt ops g p o=some (.go f))(cn:∀q,q∈f.a6→q):Yields P K M β g f o tmps w:=by
 have fM:∀{y:Option Operand} {kk:IntKind} {n:Int},y.map (λy=>rd g.env g.b5 p tt o.type y)=some (some (.v (.int kk n)))→y.map (⟨tmps,[]⟩:Act).eval=some (.int kk n):=by
  intro y kk n ce;cases y with
  |none=>simp at ce
  |some y=>
   simp at ce
   simp [mh (eh (ds:=[]) h.bw h.dU ce)]
 have tK:∀{y:Option Operand},y.map (λy=>rd g.env g.b5 p tt o.type y)=none→y.map (⟨tmps,[]⟩:Act).eval=none:=by
  intro y ce;simp at ce;simp [ce]
 simp only [step1,av]at hs;split at hs
 ·rename_i fV kw z _ ab;obtain⟨r⟩:=eI h.tt ab;split at hs
  ·rename_i l hx kf jz;cases hs;have ex:=mU (eh (ds:=[]) h.bw h.dU hx);have:=GB (w:=w) r rfl (l:=l) (lo:=none) (hi:=none) (a:=0) (b:=l.length) (.inl ⟨rfl,rfl⟩) (.inl ⟨rfl,rfl⟩) (by omega) (by omega)
   simp at this
   exact fa h.bw (sq av ex (tK kf) (tK jz) rfl this) (.v _ _ (.str _))
  ·rename_i l c_ a hx kf jz;cases hs;have ex:=mU (eh (ds:=[]) h.bw h.dU hx);have hb:=vw (cn (hh a l.length=true) (by simp))
   obtain⟨d',rfl⟩:=Int.eq_ofNat_of_zero_le hb.1;have:=GB (w:=w) r rfl (l:=l) (lo:=some (.int c_ d')) (hi:=none) (a:=d') (b:=l.length) (.inr ⟨_,rfl⟩) (.inl ⟨rfl,rfl⟩) (by omega) (by omega)
   simp at this
   exact fa h.bw (sq av ex (fM kf) (tK jz) rfl this) (.v _ _ (.str _))
  ·rename_i l ak b hx kf jz;cases hs;have ex:=mU (eh (ds:=[]) h.bw h.dU hx);have hb:=vw (cn (hh b l.length=true) (by simp))
   obtain⟨bG,rfl⟩:=Int.eq_ofNat_of_zero_le hb.1;have:=GB (w:=w) r rfl (l:=l) (lo:=none) (hi:=some (.int ak bG)) (a:=0) (b:=bG) (.inl ⟨rfl,rfl⟩) (.inr ⟨_,rfl⟩) (by omega) (by omega)
   simp at this
   exact fa h.bw (sq av ex (tK kf) (fM jz) rfl this) (.v _ _ (.str _))
  ·rename_i l c_ a ak b hx kf jz;cases hs;have ex:=mU (eh (ds:=[]) h.bw h.dU hx);have hb:=Wb (cn (lU a b l.length=true) (by simp))
   obtain⟨d',rfl⟩:=Int.eq_ofNat_of_zero_le hb.1;obtain⟨bG,rfl⟩:=Int.eq_ofNat_of_zero_le (a:=b) (by omega)
   have:=GB (w:=w) r rfl (l:=l) (lo:=some (.int c_ d')) (hi:=some (.int ak bG)) (a:=d') (b:=bG) (.inr ⟨_,rfl⟩) (.inr ⟨_,rfl⟩) (by omega) (by omega)
   exact fa h.bw (sq av ex (fM kf) (fM jz) rfl this) (.v _ _ (.str _))
  ·cases hs
 ·rename_i e fV kw z _ ab;obtain⟨r⟩:=eI h.tt ab;split at hs
  ·rename_i c_ size B' kZ k n get ak a eQ hx kf jz;obtain⟨dO⟩:=eI h.tt eQ;rw [Bool.cond_eq_ite]at hs;split at hs
   case isFalse=>cases hs
   rename_i h_;simp only [Nat.beq_eq]at h_;subst h_
   have vy:∃(y:V) (rs:List fu) (a6:List Prop),f={e:=some {d:=.v y},rs,a6}∧hA (.bH k (n-a.toNat) λi=>get (a.toNat+i)) y∧hh a n=true:=by
    split at hs
    ·rename_i y rs eX;cases hs;exact⟨_,_,_,rfl,cn _ (by simp),cn (hh a n=true) (by simp)⟩
    ·cases hs;exact⟨_,_,_,rfl,λ_ _ h=>h,cn (hh a n=true) (by simp)⟩
    ·cases hs
   obtain⟨y,rs,a6,rfl,aw,hb⟩:=vy;have hb:=vw hb;obtain⟨d',rfl⟩:=Int.eq_ofNat_of_zero_le hb.1;have lx:=eh (ds:=[]) h.bw h.dU hx;obtain⟨base,cap,ex,mZ⟩:=vd lx;have:=Gz (w:=w) r rfl dO (base:=base) (n:=n) (cap:=cap) (lo:=some (.int ak d')) (hi:=none) (a:=d') (b:=n) (.inr ⟨_,rfl⟩) (.inl ⟨rfl,rfl⟩) (by omega) (by omega) mZ
   refine fa h.bw (sq av ex (fM kf) (tK jz) rfl this) (.v _ _ (aw _ _ ?_));have:=B9 lx (a:=d') (b:=n) (by omega) (by omega) ex mZ
   simpa using this
  ·rename_i c_ size B' kZ k n get ak b eQ hx kf jz;obtain⟨dO⟩:=eI h.tt eQ;rw [Bool.cond_eq_ite]at hs;split at hs
   case isFalse=>cases hs
   rename_i h_;simp only [Nat.beq_eq]at h_;subst h_
   have vy:∃(y:V) (rs:List fu) (a6:List Prop),f={e:=some {d:=.v y},rs,a6}∧hA (.bH k b.toNat get) y∧hh b n=true:=by
    split at hs
    ·rename_i y rs eX;cases hs;exact⟨_,_,_,rfl,cn _ (by simp),cn (hh b n=true) (by simp)⟩
    ·cases hs;exact⟨_,_,_,rfl,λ_ _ h=>h,cn (hh b n=true) (by simp)⟩
    ·cases hs
   obtain⟨y,rs,a6,rfl,aw,hb⟩:=vy;have hb:=vw hb;obtain⟨bG,rfl⟩:=Int.eq_ofNat_of_zero_le hb.1;have lx:=eh (ds:=[]) h.bw h.dU hx;obtain⟨base,cap,ex,mZ⟩:=vd lx;have:=Gz (w:=w) r rfl dO (base:=base) (n:=n) (cap:=cap) (lo:=none) (hi:=some (.int ak bG)) (a:=0) (b:=bG) (.inl ⟨rfl,rfl⟩) (.inr ⟨_,rfl⟩) (by omega) (by omega) mZ
   refine fa h.bw (sq av ex (tK kf) (fM jz) rfl this) (.v _ _ (aw _ _ ?_));have:=B9 lx (a:=0) (b:=bG) (by omega) (by omega) ex mZ
   simpa using this
  ·rename_i c_ size B' kZ k n get ak a eC b eQ hx kf jz;obtain⟨dO⟩:=eI h.tt eQ;rw [Bool.cond_eq_ite]at hs;split at hs
   case isFalse=>cases hs
   rename_i h_;simp only [Nat.beq_eq]at h_;subst h_
   have vy:∃(y:V) (rs:List fu) (a6:List Prop),f={e:=some {d:=.v y},rs,a6}∧hA (.bH k (b.toNat-a.toNat) λi=>get (a.toNat+i)) y∧lU a b n=true:=by
    split at hs
    ·rename_i y rs eX;cases hs;exact⟨_,_,_,rfl,cn _ (by simp),cn (lU a b n=true) (by simp)⟩
    ·cases hs;exact⟨_,_,_,rfl,λ_ _ h=>h,cn (lU a b n=true) (by simp)⟩
    ·cases hs
   obtain⟨y,rs,a6,rfl,aw,hb⟩:=vy;have hb:=Wb hb;obtain⟨d',rfl⟩:=Int.eq_ofNat_of_zero_le hb.1;obtain⟨bG,rfl⟩:=Int.eq_ofNat_of_zero_le (a:=b) (by omega)
   have lx:=eh (ds:=[]) h.bw h.dU hx;obtain⟨base,cap,ex,mZ⟩:=vd lx;have:=Gz (w:=w) r rfl dO (base:=base) (n:=n) (cap:=cap) (lo:=some (.int ak d')) (hi:=some (.int eC bG)) (a:=d') (b:=bG) (.inr ⟨_,rfl⟩) (.inr ⟨_,rfl⟩) (by omega) (by omega) mZ
   refine fa h.bw (sq av ex (fM kf) (fM jz) rfl this) (.v _ _ (aw _ _ ?_));have:=B9 lx (a:=d') (b:=bG) (by omega) (by omega) ex mZ
   simpa using this
  ·rename_i c_ size B' kZ k n get eQ hx kf jz;obtain⟨dO⟩:=eI h.tt eQ;rw [Bool.cond_eq_ite]at hs;split at hs
   case isFalse=>cases hs
   rename_i h_;simp only [Nat.beq_eq]at h_;subst h_;cases hs;have lx:=eh (ds:=[]) h.bw h.dU hx;obtain⟨base,cap,ex,mZ⟩:=vd lx;have:=Gz (w:=w) r rfl dO (base:=base) (n:=n) (cap:=cap) (lo:=none) (hi:=none) (a:=0) (b:=n) (.inl ⟨rfl,rfl⟩) (.inl ⟨rfl,rfl⟩) (by omega) (by omega) mZ
   refine fa h.bw (sq av ex (tK kf) (tK jz) rfl this) (.v _ _ ?_);have:=B9 lx (a:=0) (b:=n) (by omega) (by omega) ex mZ
   simpa using this
  ·cases hs
 ·rename_i m e fV kw z _ ab;obtain⟨r⟩:=eI h.tt ab;split at hs
  case h_2=>cases hs
  rename_i size B' kZ k n get ak b eC c eQ hx jz hm;obtain⟨dO⟩:=eI h.tt eQ;rw [Bool.cond_eq_ite]at hs;split at hs
  case isFalse=>cases hs
  rename_i h_;simp only [Nat.beq_eq]at h_;subst h_;cases hs;have GA:=cn (b=c) (by simp)
  subst GA;have hb:=vw (cn (hh b n=true) (by simp))
  obtain⟨bG,rfl⟩:=Int.eq_ofNat_of_zero_le hb.1;have lx:=eh (ds:=[]) h.bw h.dU hx;obtain⟨base,cap,ex,mZ⟩:=vd lx;have qY:bG≤n:=by omega
  have hu:=r.run_underlying w;rw [pL r rfl]at hu
  have fe:(Instr.sliceAt t (.slice base n cap) none (some (.int ak bG)) (some (.int eC bG))).run P w = .ok (.slice (if bG=0 then base else base.map (·.add (0*k))) bG bG) w:=by
   have Z:bG≤cap:=by omega
   simp [Instr.sliceAt,hu,Instr.slice,Instr.sliceBounds,Instr.sliceBound,asIntOf,dO.run_sizeOf,Z]
  have afS:(if bG=0 then base else base.map (·.add (0*k)))=base:=by
   split
   ·rfl
   ·cases base with
    |none=>rfl
    |some a=>simp [Addr.add]
  rw [afS]at fe;have em:(some m).map (⟨tmps,[]⟩:Act).eval=some (.int eC bG):=fM (y:=some m) hm;refine fa h.bw (sq av ex rfl (fM jz) em fe) (.full base k _ get ?_);have Wr:=B9 lx (a:=0) (b:=bG) (by omega) qY ex mZ
  simp only [Nat.sub_zero]at Wr ⊢;have Ws:de M (.slice (if cap=0 then base else base.map (·.add (0*k))) bG cap) (.bH k bG get):=by simpa using Wr
  have fA:(if cap=0 then base else base.map (·.add (0*k)))=base:=by
   split
   ·rfl
   ·cases base with
    |none=>rfl
    |some a=>simp [Addr.add]
  rw [fA]at Ws;cases Ws with
  |md=>exact .md _ _
  |pC a=>exact .pC _ _ _
  |bH u4 off k n cap get val hc hk cT Z h=>exact .bH u4 off k _ _ get val (Nat.le_refl _) hk cT Z h
 ·cases hs
def Wt{c:Call}(av:o.op = .call c)(hc:c.callee = .builtin .len){a:Operand}(e7:c.args.toList=[a]){t:TypeId}(gV:c.argTypes.toList[0]? = some t){hU v:Value}(ha:(⟨tmps,[]⟩:Act).eval a=hU)
 (h:∀ty,(Builtin.len_ #[t] ty #[hU]).run P w = .ok v w):(execOp (Act.eval ⟨tmps,[]⟩) o).run P w = .ok (.value v) w:=by
 have vj:c.args = #[a]:=by apply Array.ext';simpa using e7
 have Nl:∀ty,(Builtin.len_ c.argTypes ty #[hU]).run P w = .ok v w:=by
  intro ty;have h0:c.argTypes[0]? = some t:=by simpa using gV
  have:=h ty
  simp only [Builtin.len_,h0]at this ⊢;exact this
 simp only [execOp,av,resolve,hc,vj,Sem.run_bind,Sem.run_pure,Result.andThen_ok,invoke,builtin,List.map_toArray,List.map_cons,List.map_nil,ha];simp [Nl]
def Wu{F:Nat→Option Nat}{l cG:List D}(h:ln F l=some cG):cG.length=l.length:=(xO h).1.symm
def afT {c : Call} (av : o.op = .call c) {x : Operand} (hc : c.callee = .value x) {fn : FuncId} {vs : List Value} (hx : (⟨tmps, []⟩ : Act).eval x = .func (.func fn) #[] ⟨vs⟩) {fd : Func} (aW : P.funcs[fn]? = some fd) (hb : fd.body.isSome = true) (hn : fd.name ≠ "runtime.NumGoroutine") :
 (execOp (Act.eval ⟨tmps,[]⟩) o).run P w = .ok (.enter fn ⟨c.args.toList.map (⟨tmps,[]⟩:Act).eval++vs⟩) w:=by
 have qY:fd.body≠none:=by intro bm;rw [bm]at hb;cases hb
 simp [execOp,av,resolve,hc,hx,Deferred.ofValue,invoke,callFunc,aW,qY,hn]
def Wv{F:TypeId→Operand→Option D}:∀{xs:List Operand} {ts:List TypeId} {ds:List D},lV F xs ts=some ds→ds.length=xs.length∧∀(i:Nat) x d,xs[i]? = some x→ds[i]? = some d→∃t,F t x=some d
 |[],ts,ds,h=>by simp [lV]at h;subst h;simp
 |x::xs,[],ds,h=>by simp [lV]at h
 |x::xs,t::ts,ds,h=>by
  simp only [lV]at h;split at h
  case h_2=>cases h
  rename_i d afU hd h9;cases h;obtain⟨Z,aa⟩:=Wv h9;refine⟨by simp [Z],λi y e ce he=>?_⟩
  cases i with
  |zero=>simp at ce he;subst ce;subst he;exact⟨t,hd⟩
  |succ i=>simp at ce he;exact aa i y e ce he
mutual
def Ww{ρ:List Nat}:∀(d:D) {dE:D},eB (idx ρ) d=some dE→eB (λj=>ρ[j]?) dE=some d
 |.v x,dE,h=>by simp [eB]at h;subst h;simp [eB]
 |.ptr r off,dE,h=>by
  simp only [eB,Option.map_eq_some_iff]at h;obtain⟨j,hj,rfl⟩:=h;simp [eB,Gj hj]
 |.ct r off u,dE,h=>by
  simp only [eB,Option.map_eq_some_iff]at h;obtain⟨j,hj,rfl⟩:=h;simp [eB,Gj hj]
 |.e6 x,dE,h=>by simp [eB]at h;subst h;simp [eB]
 |.full k n get,dE,h=>by simp [eB]at h;subst h;simp [eB]
 |.fn g fc,dE,h=>by
  simp only [eB,Option.map_eq_some_iff]at h;obtain⟨l,ab,rfl⟩:=h;simp [eB,GC fc ab]
 |.agg cs,dE,h=>by
  simp only [eB,Option.map_eq_some_iff]at h;obtain⟨l,ab,rfl⟩:=h;simp [eB,GC cs ab]
 |.cw cs,dE,h=>by
  simp only [eB,Option.map_eq_some_iff]at h;obtain⟨l,ab,rfl⟩:=h;simp [eB,GC cs ab]
def GC{ρ:List Nat}:∀(l:List D) {cG:List D},ln (idx ρ) l=some cG→ln (λj=>ρ[j]?) cG=some l
 |[],cG,h=>by simp [ln]at h;subst h;simp [ln]
 |d::l,cG,h=>by
  simp only [ln]at h;split at h
  case h_2=>cases h
  rename_i d1 hK hd ab;cases h;simp [ln,Ww d hd,GC l ab]
end
def Wx{ρ:List Nat}:∀{b bG:List a7},nk (idx ρ) b=some bG→nk (λj=>ρ[j]?) bG=some b
 |[],bG,h=>by simp [nk]at h;subst h;simp [nk]
 |e::l,bG,h=>by
  simp only [nk]at h;split at h
  case h_2=>cases h
  rename_i e1 hK he ab;cases h;simp only [FZ,Option.map_eq_some_iff]at he;obtain⟨d,hd,rfl⟩:=he;simp [nk,FZ,Ww _ hd,Wx ab]
def Wy{ρ:List Nat}:∀{bs pO:List (List a7)},j' (idx ρ) bs=some pO→j' (λj=>ρ[j]?) pO=some bs
 |[],pO,h=>by simp [j']at h;subst h;simp [j']
 |b::l,pO,h=>by
  simp only [j']at h;split at h
  case h_2=>cases h
  rename_i cY hK hb ab;cases h;simp [j',Wx hb,Wy ab]
def afV{st:aK}(h:bN P K M β st tmps w){ρ:List Nat}{bs H1:List (List a7)}(hn:nl ρ=true)(kY:boxes st.H ρ=some bs)(mm:j' (idx ρ) bs=some H1)
 {os:List Nat} {out:Out} {v:Value} {w':World} {M':Mem} {β':Nat→Option Nat} (jk:bN P (ky M β st tmps w ρ os) M' β' {env:=iv out,H:=cQ 0 H1,aX:=ρ.length} #[v] w'):
 M.le M'∧bN P K M' β {st with env:=hB os st.env} tmps w'∧
 (∀d own,out = .ret d own→∀dE,eB (λj=>ρ[j]?) d=some dE→cy M' β v dE∧∀T l0,own=some T→nm P K M' β {st with env:=hB os st.env} tmps w' l0 v T)∧
 (∀x,out = .bf x→de M' v x):=by
 obtain⟨c',fA⟩:=vn kY;have fk:H1.length=ρ.length:=by rw [(x2 mm).1,c']
 obtain⟨Z,aa,aj,aC⟩:=NB h hn kY (Wy mm) fk jk
 have kz:∀r,look (lp ρ bs++st.H) r=look st.H r:=by
  intro r;obtain⟨aT,bQ⟩:=Nu (H:=st.H) (ρ:=ρ) (bs:=bs) c' hn r;by_cases hj:∃(j:Nat),ρ[j]? = some r
  ·obtain⟨j,hj⟩:=hj;rw [aT j hj,(fA j r hj).1]
  ·exact bQ λj bm=>hj ⟨j,bm⟩
 have gl:∀l,({env:=hB os st.env,H:=lp ρ bs++st.H,aX:=st.aX}:aK).at l=({st with env:=hB os st.env}:aK).at l:=by
  intro l;cases l with
  |slot s=>rfl
  |cell r i=>simp only [aK.at,kz]
 refine⟨Z,aa.sub rfl (λl e ab=>⟨e,by rw [gl];exact ab,rfl,λ_ h=>h⟩) (λr cs ai=>⟨cs,by rw [←ai];exact kz r,rfl⟩),λd own hd dE kt=>?_,aC⟩
 obtain⟨aT,bQ⟩:=aj d own hd dE kt;refine⟨aT,λT l0 aG=>?_⟩
 obtain⟨cK,di,el⟩:=bQ T l0 aG;exact⟨cK,λl e T' b ab=>di l e T' b (by rw [gl];exact ab),λb r cs hb ai=>el b r cs hb (by rw [←ai];exact kz r)⟩
def Wz(P:Program)(K:Ctx)(M:Mem)(β:Nat→Option Nat)(g:dk)(s:n4)(o:Oper)(tmps:Array Value)(w:World):Prop:=
 match s with
 |.go f=>(∀q,q∈f.a6→q)→Yields P K M β g f o tmps w
 |.bf x hs a6=>(∀q,q∈a6→q)→afc P K M β g x hs o tmps w
def WA{os:List Nat}{env:List (Nat×a7)}{s:Nat}{e:a7}(h:look env s=some e):∃b3,look (hB os env) s=some b3∧b3.d=e.d:=by
 rw [n9,h];split
 ·exact⟨_,rfl,rfl⟩
 ·exact⟨_,rfl,rfl⟩
def NR{g:dk}(h:fX P K N M β g tmps w){xs:List Operand}{ts:List TypeId}:∀{os:List Nat} {hd:List (Nat×Option Nat×TypeId)},handed tt g xs ts os=some hd→∀{vs:List Value},
 (∀(i:Nat) t,xs[i]? = some (.tmp t)→vs[i]? = some (tmps.getD t undef))→(∀(i:Nat),xs[i]? = some (.const (.slice none 0 0))→vs[i]? = some (.slice none 0 0))→
 Handed {env:=g.env,H:=g.H,aX:=g.aX} tmps vs hd
 |[],hd,bm,vs,_,_=>by
  simp [handed]at bm;subst bm;exact⟨by simp,by simp,by simp⟩
 |i::os,hd,bm,vs,Z,aa=>by
  simp only [handed]at bm;split at bm
  ·rename_i t l hx ab;have aH:=NR h ab Z aa;split at bm
   case h_2=>cases bm
   rename_i d e he;rw [Bool.cond_eq_ite]at bm;split at bm
   case isFalse=>cases bm
   rename_i hc;simp only [Bool.and_eq_true,List.all_eq_true,Bool.not_eq_true']at hc;cases bm;refine⟨λmT bS T hm=>?_,λmT T hm=>?_,λmT vq bS T T' hm kg=>?_⟩
   ·rcases List.mem_cons.1 hm with hm|hm
    ·cases hm;exact⟨_,he,rfl,Z i t hx⟩
    ·exact aH.some mT bS T hm
   ·rcases List.mem_cons.1 hm with hm|hm
    ·cases hm
    ·exact aH.none mT T hm
   ·rcases List.mem_cons.1 hm with hm|hm<;>rcases List.mem_cons.1 kg with kg|kg
    ·cases hm;cases kg;rfl
    ·cases hm;have:=(hc.2 _ kg).1
     simp at this
    ·cases kg;have:=(hc.2 _ hm).1
     simp at this
    ·exact aH.inj mT vq bS T T' hm kg
  ·rename_i l hx ab;have aH:=NR h ab Z aa;split at bm
   case h_2=>cases bm
   rename_i e fV kw z _ he;rw [Bool.cond_eq_ite]at bm;split at bm
   case isFalse=>cases bm
   cases bm;refine⟨λmT bS T hm=>?_,λmT T hm=>?_,λmT vq bS T T' hm kg=>?_⟩
   ·rcases List.mem_cons.1 hm with hm|hm
    ·cases hm
    ·exact aH.some mT bS T hm
   ·rcases List.mem_cons.1 hm with hm|hm
    ·cases hm;exact aa i hx
    ·exact aH.none mT T hm
   ·rcases List.mem_cons.1 hm with hm|hm<;>rcases List.mem_cons.1 kg with kg|kg
    ·cases hm
    ·cases hm
    ·cases kg
    ·exact aH.inj mT vq bS T T' hm kg
  ·cases bm
def afW(h:Hyp P K N M β g tmps w p tt){c:Call}(av:o.op = .call c){x:Operand}(hc:c.callee = .value x){fn:FuncId}{fc ds:List D}(hx:rd g.env g.b5 p tt o.type x=some (.fn fn fc))
 (h9:lV (rd g.env g.b5 p tt) c.args.toList c.argTypes.toList=some ds) {s:n4} (hs:xL (jL P) tt g p c.args.toList c.argTypes.toList fn (ds++fc)=some s):
 Wz P K M β g s o tmps w:=by
 obtain⟨vs,aw,hlen,ai⟩:=Vu (eh (ds:=[]) h.bw h.dU hx);obtain⟨gE,jh⟩:=Wv h9
 have e7:∀(i:Nat) v d,(c.args.toList.map (⟨tmps,[]⟩:Act).eval++vs)[i]? = some v→(ds++fc)[i]? = some d→cy M β v d:=by
  intro i v d e_ tH;by_cases hi:i<c.args.toList.length
  ·rw [List.getElem?_append_left (by simpa using hi),List.getElem?_map,Option.map_eq_some_iff]at e_
   obtain⟨y,ce,rfl⟩:=e_;rw [List.getElem?_append_left (by omega)]at tH
   obtain⟨ty,gV⟩:=jh i y d ce tH;exact eh h.bw h.dU gV
  ·rw [List.getElem?_append_right (by simp;simp at hi;omega)]at e_
   rw [List.getElem?_append_right (by omega)]at tH
   refine ai _ v d e_ ?_;rw [gE]at tH;simpa using tH
 have NS:(c.args.toList.map (⟨tmps,[]⟩:Act).eval++vs).length=(ds++fc).length:=by simp at gE ⊢;omega
 unfold xL at hs
 dsimp only at hs
 generalize lZ:oQ g.H 2 (dedup ((ds++fc).flatMap refs))=ρ at hs
 split at hs
 case h_2=>cases hs
 rename_i out cJ os rs eX;split at hs
 case h_2=>cases hs
 rename_i jH H1 hd WB mm vo;rw [Option.bind_eq_some_iff]at mm;obtain⟨bs,kY,mm⟩:=mm;rw [Bool.cond_eq_ite]at hs;split at hs
 ·cases hs
 rename_i WC
 have hn:nl ρ=true:=by
  have:(!nl ρ || !(List.isEmpty p||List.isEmpty os))=false:=by simpa using WC
  simp only [Bool.or_eq_false_iff,Bool.not_eq_false']at this;exact this.1
 have fj:=NR h.bw vo (vs:=c.args.toList.map (⟨tmps,[]⟩:Act).eval++vs) (λi t aF=>by
  rw [List.getElem?_append_left (by simpa using(List.getElem?_eq_some_iff.1 aF).1),List.getElem?_map,aF];rfl) (λi aF=>by
  rw [List.getElem?_append_left (by simpa using(List.getElem?_eq_some_iff.1 aF).1),List.getElem?_map,aF];rfl)
 have et:=V4 (st:={env:=g.env,H:=g.H,aX:=g.aX}) h.bw.bw hn kY mm NS e7 WB fj;have fk:H1.length=ρ.length:=by rw [(x2 mm).1,(vn kY).1]
 -- NC ml contract afX, asm ml boxes behind it
 have key:∀{vA:List (List a7)},gW P fn jH (tF hd) H1 out vA→(execOp (Act.eval ⟨tmps,[]⟩) o).run P w = .ok (.enter fn ⟨c.args.toList.map (⟨tmps,[]⟩:Act).eval++vs⟩) w∧
  Calls P fn ⟨c.args.toList.map (⟨tmps,[]⟩:Act).eval++vs⟩ w λe w'=>∃v M' β',e=tE out v∧
   bN P (ky M β {env:=g.env,H:=g.H,aX:=g.aX} tmps w ρ (qV hd)) M' β' {env:=iv out,H:=cQ 0 vA,aX:=ρ.length} #[v] w':=by
  intro vA afY;obtain⟨⟨fd,kb,NT,jM⟩,afZ⟩:=afY;refine⟨afT av hc aw kb NT jM,(afZ _ w _ M _ (by rw [NS,Wu WB]) et (λr b hb=>hb)).mono ?_⟩
  rintro e w' ⟨o',bP,v,M',β',⟨rfl,rfl⟩,he,cN⟩
  rw [fk]at cN;exact⟨v,M',β',he,cN⟩
 -- ml boxes as asn aso, named asp and back
 have back:∀{vA af0:List (List a7)},j' (λj=>ρ[j]?) vA=some af0→vA.length=ρ.length→∀{v:Value} {w':World} {M':Mem} {β':Nat→Option Nat},
  bN P (ky M β {env:=g.env,H:=g.H,aX:=g.aX} tmps w ρ (qV hd)) M' β' {env:=iv out,H:=cQ 0 vA,aX:=ρ.length} #[v] w'→_:=
  λhx ab _ _ _ _ hp=>NB (st:={env:=g.env,H:=g.H,aX:=g.aX}) h.bw.bw hn kY hx ab hp
 have WD:∀{v:Value} {w':World} {M':Mem} {β':Nat→Option Nat},
  bN P (ky M β {env:=g.env,H:=g.H,aX:=g.aX} tmps w ρ (qV hd)) M' β' {env:=iv out,H:=cQ 0 H1,aX:=ρ.length} #[v] w'→
  M.le M'∧bN P K M' β {env:=hB (qV hd) g.env,H:=g.H,aX:=g.aX} tmps w'∧
  (∀d own,out = .ret d own→∀dE,eB (λj=>ρ[j]?) d=some dE→cy M' β v dE∧∀T l0,own=some T→nm P K M' β {env:=hB (qV hd) g.env,H:=g.H,aX:=g.aX} tmps w' l0 v T)∧
  (∀x,out = .bf x→de M' v x):=by
  intro v w' M' β' hp;exact afV (st:={env:=g.env,H:=g.H,aX:=g.aX}) h.bw.bw hn kY mm hp
 cases out with
 |ret d own=>
  cases cJ with
  |none=>
   simp only [Option.map_eq_some_iff]at hs;obtain⟨dE,kt,rfl⟩:=hs;intro cn;obtain⟨Z,aa⟩:=key (cn _ (List.mem_singleton.2 rfl));refine .inr (.inr ⟨fn,_,Z,aa.mono ?_⟩)
   rintro e w' ⟨v,M',β',he,hp⟩
   obtain⟨cT,cN,NU,_⟩:=WD hp;refine⟨v,he,M',β,cT,λ_ _ h=>h,λ_ _ h=>.inl h,cN,λe1 si=>?_⟩
   cases si;exact NU d own rfl dE kt
  |some cJ=>
   dsimp only at hs
   split at hs
   case h_2=>cases hs
   rename_i dE iO kt vu;rw [Bool.cond_eq_ite]at hs;split at hs
   case isFalse=>cases hs
   rename_i ab;cases hs;intro cn;obtain⟨Z,aa⟩:=key (cn _ (List.mem_singleton.2 rfl));refine .inr (.inr ⟨fn,_,Z,aa.mono ?_⟩)
   rintro e w' ⟨v,M',β',he,hp⟩
   obtain⟨cT,cN,NU,_⟩:=back vu (by simpa using ab) hp
   refine⟨v,he,M',β,cT,λ_ _ h=>h,λ_ _ h=>.inl h,cN,λe1 si=>?_⟩
   cases si;exact NU d own rfl dE kt
 |bf x=>
  cases cJ with
  |none=>
   cases hs;intro cn;obtain⟨Z,aa⟩:=key (cn _ (List.mem_singleton.2 rfl));refine .inr ⟨fn,_,Z,aa.mono ?_⟩
   rintro e w' ⟨v,M',β',he,hp⟩
   obtain⟨cT,cN,_,NV⟩:=WD hp;exact⟨v,M',he,NV x rfl,cN.pF λs e he=>WA he⟩
  |some cJ=>
   dsimp only at hs
   split at hs
   case h_2=>cases hs
   rename_i iO vu;rw [Bool.cond_eq_ite]at hs;split at hs
   case isFalse=>cases hs
   rename_i ab;cases hs;intro cn;obtain⟨Z,aa⟩:=key (cn _ (List.mem_singleton.2 rfl));refine .inr ⟨fn,_,Z,aa.mono ?_⟩
   rintro e w' ⟨v,M',β',he,hp⟩
   obtain⟨cT,cN,_,NV⟩:=back vu (by simpa using ab) hp
   exact⟨v,M',he,NV x rfl,cN.pF λs e he=>WA he⟩
end
section
variable {P:Program} {K:Ctx} {N:Nat} {M:Mem} {β:Nat→Option Nat} {st:aK} {g:dk} {tmps:Array Value} {w:World} {o:Oper} {f:lm} {p:Path} {tt:dI} {ops:List Oper}
def WE(h:Hyp P K N M β g tmps w p tt){c:Call}(av:o.op = .call c)(hc:c.callee = .builtin .len){d:D}(hd:mapM' (λy=>rd g.env g.b5 p tt o.type y) c.args.toList=some [d]){aS:eM}
 (ab:(c.argTypes.toList[0]?).bind (look tt)=some aS) {n:Nat} (hk:(∃l,d = .v (.str l)∧aS.k = .str∧n=l.length)∨(∃k get e,d = .v (.bH k n get)∧aS.k = .bH e)):
 Yields P K M β g {e:=some {d:=.v (.int .i64 n)},rs:=g.rs} o tmps w:=by
 obtain⟨gE,jh⟩:=tx hd;rw [Option.bind_eq_some_iff]at ab;obtain⟨t,aF,ab⟩:=ab;obtain⟨r⟩:=eI h.tt ab
 obtain⟨a,ha⟩:∃a,c.args.toList=[a]:=by
  cases gJ:c.args.toList with
  |nil=>rw [gJ]at gE;simp at gE
  |cons a l=>
   rw [gJ]at gE;simp at gE
   exact⟨a,by rw [gE]⟩
 have pQ:=eh (ds:=[]) h.bw h.dU (jh 0 a d (by rw [ha];rfl) rfl)
 rcases hk with⟨l,rfl,hk,rfl⟩|⟨k,get,e,rfl,hk⟩
 ·have qW:=mU pQ;refine fa h.bw (Wt av hc ha aF qW (λty=>?_)) (.v _ _ (.int _ _))
  have hs:(⟨⟨l⟩⟩:ByteArray).size=l.length:=rfl;simp [Builtin.len_,r.run_underlying,qQ r hk,goInt,hs]
 ·obtain⟨base,cap,qW,_⟩:=vd pQ;refine fa h.bw (Wt av hc ha aF qW (λty=>?_)) (.v _ _ (.int _ _))
  simp [Builtin.len_,r.run_underlying,pL r hk,goInt]
def af1(h:Hyp P K N M β g tmps w p tt){c:Call}(av:o.op = .call c)(hc:c.callee = .builtin .min){k:IntKind}{a b:Int}(hd:mapM' (λy=>rd g.env g.b5 p tt o.type y) c.args.toList=some [.v (.int k a),.v (.int k b)]):
 Yields P K M β g {e:=some {d:=.v (.int k (bif decide (b<a)then b else a))},rs:=g.rs} o tmps w:=by
 obtain⟨gE,jh⟩:=tx hd
 obtain⟨x,y,pK⟩:∃x y,c.args.toList=[x,y]:=by
  cases gJ:c.args.toList with
  |nil=>rw [gJ]at gE;simp at gE
  |cons x l=>
   cases l with
   |nil=>rw [gJ]at gE;simp at gE
   |cons y l=>
    rw [gJ]at gE;simp at gE
    exact⟨x,y,by rw [gE]⟩
 have ex:=mh (eh (ds:=[]) h.bw h.dU (jh 0 x _ (by rw [pK];rfl) rfl))
 have NW:=mh (eh (ds:=[]) h.bw h.dU (jh 1 y _ (by rw [pK];rfl) rfl))
 have vj:c.args = #[x,y]:=by apply Array.ext';simpa using pK
 refine fa h.bw (v:=.int k (bif decide (b<a)then b else a)) ?_ (.v _ _ (.int _ _))
 simp only [execOp,av,resolve,hc,vj,Sem.run_bind,Sem.run_pure,Result.andThen_ok,invoke,builtin,List.map_toArray,List.map_cons,List.map_nil,ex,NW];by_cases mY:b<a<;>simp [Builtin.min_,Builtin.min2,mY]
def af2(h:Hyp P K N M β g tmps w p tt){c:Call}(av:o.op = .call c)(hc:c.callee = .builtin .max){k:IntKind}{a b:Int}(hd:mapM' (λy=>rd g.env g.b5 p tt o.type y) c.args.toList=some [.v (.int k a),.v (.int k b)]):
 Yields P K M β g {e:=some {d:=.v (.int k (bif decide (a<b)then b else a))},rs:=g.rs} o tmps w:=by
 obtain⟨gE,jh⟩:=tx hd
 obtain⟨x,y,pK⟩:∃x y,c.args.toList=[x,y]:=by
  cases gJ:c.args.toList with
  |nil=>rw [gJ]at gE;simp at gE
  |cons x l=>
   cases l with
   |nil=>rw [gJ]at gE;simp at gE
   |cons y l=>
    rw [gJ]at gE;simp at gE
    exact⟨x,y,by rw [gE]⟩
 have ex:=mh (eh (ds:=[]) h.bw h.dU (jh 0 x _ (by rw [pK];rfl) rfl))
 have NW:=mh (eh (ds:=[]) h.bw h.dU (jh 1 y _ (by rw [pK];rfl) rfl))
 have vj:c.args = #[x,y]:=by apply Array.ext';simpa using pK
 refine fa h.bw (v:=.int k (bif decide (a<b)then b else a)) ?_ (.v _ _ (.int _ _))
 simp only [execOp,av,resolve,hc,vj,Sem.run_bind,Sem.run_pure,Result.andThen_ok,invoke,builtin,List.map_toArray,List.map_cons,List.map_nil,ex,NW];by_cases mY:a<b<;>simp [Builtin.max_,Builtin.max2,mY]
def af3(h:Hyp P K N M β g tmps w p tt){cd:gD}{x:Operand}{s t:TypeId}{ok:Bool}(av:o.op = .typeAssert x s t ok)(hs:step1 cd tt ops g p o=some (.go f)):Yields P K M β g f o tmps w:=by
 simp only [step1,av]at hs;split at hs
 case h_2=>cases hs
 rename_i bS y k fV kw z _ hx ab;obtain⟨r⟩:=eI h.tt ab;have ai:=eh (ds:=[]) h.bw h.dU hx;obtain⟨u,aw,hu⟩:=MZ ai;have WF:k ≠ .oO:=by rintro rfl;simp at hs
 have NM:∀i,r.desc ≠ .interface i:=by
  intro i hd;have:=r.hk
  rw [hd]at this;simp [lw]at this;exact WF this.symm
 have ge:(bif Nat.beq bS t then(some (n4.go {e:=some {d:=(bif ok then .cw [.v y,.v (.bool true)]else .v y)},rs:=g.rs}))else none)=some (.go f):=by
  cases k<;>first|exact(WF rfl).elim|exact hs
 rw [Bool.cond_eq_ite]at ge;split at ge
 case isFalse=>cases ge
 rename_i hb;have bY:bS=t:=by simpa using hb
 subst bY;cases ge
 have fe:(Instr.typeAssert (.iface bS u) s bS ok).run P w = .ok (bif ok then .tuple #[u,.bool true]else u) w:=by
  unfold Instr.typeAssert;simp only [Sem.run_bind,r.run_underlying,Result.andThen_ok];cases hd:r.desc<;>first|exact(NM _ hd).elim|(cases ok<;>simp)
 refine fa h.bw (v:=bif ok then .tuple #[u,.bool true]else u) ?_ ?_
 ·simp only [execOp,av,aw];exact jy _ fe
 ·cases ok
  ·exact .v _ _ hu
  ·refine .cw [u,.bool true] _ rfl λi v c aw hc=>?_
   match i with
   | 0=>simp at aw hc;subst aw;subst hc;exact .v _ _ hu
   | 1=>simp at aw hc;subst aw;subst hc;exact .v _ _ (.bool _)
   |i+2=>simp at aw
def WG(h:Hyp P K N M β g tmps w p tt){s:n4}(hs:step1 (jL P) tt ops g p o=some s):Wz P K M β g s o tmps w:=by
 cases av:o.op with
 |move x=>cases s with
  |go f=>exact λ_=>afj h av hs
  |bf x ge a6=>simp only [step1,av]at hs;repeat' (first |(split at hs) |(rw [Bool.cond_eq_ite]at hs) |(cases hs;done))
 |assign x=>cases s with
  |go f=>exact λ_=>afk h av hs
  |bf x ge a6=>simp only [step1,av]at hs;repeat' (first |(split at hs) |(rw [Bool.cond_eq_ite]at hs) |(cases hs;done))
 |pick c a b=>
  cases c with
  |tmp c=>cases s with
   |go f=>exact λ_=>afl h av hs
   |bf x ge a6=>simp only [step1,av]at hs;repeat' (first |(split at hs) |(simp at hs;done))
  |_=>simp [step1,av]at hs
 |alloc t=>cases s with
  |go f=>exact λ_=>afm h av hs
  |bf x ge a6=>simp only [step1,av]at hs;repeat' (first |(split at hs) |(cases hs;done))
 |box t x=>cases s with
  |go f=>exact λ_=>afn h av hs
  |bf x ge a6=>simp only [step1,av]at hs;repeat' (first |(split at hs) |(rw [Bool.cond_eq_ite]at hs) |(cases hs;done))
 |build t parts=>cases s with
  |go f=>exact λ_=>afo h av hs
  |bf x ge a6=>simp only [step1,av]at hs;repeat' (first |(split at hs) |(rw [Bool.cond_eq_ite]at hs) |(simp at hs;done) |(cases hs;done))
 |buildSlice t len parts=>cases s with
  |go f=>exact λcn=>afq h av hs cn
  |bf x ge a6=>simp only [step1,av]at hs;repeat' (first |(split at hs) |(rw [Bool.cond_eq_ite]at hs) |(cases hs;done))
 |load t a=>cases s with
  |go f=>exact λ_=>afr h av hs
  |bf x ge a6=>simp only [step1,av]at hs;repeat' (first |(split at hs) |(rw [Bool.cond_eq_ite]at hs) |(simp at hs;done) |(cases hs;done))
 |store t a x=>cases s with
  |go f=>exact λ_=>afs h av hs
  |bf x ge a6=>simp only [step1,av]at hs;repeat' (first |(split at hs) |(rw [Bool.cond_eq_ite]at hs) |(cases hs;done))
 |nilCheck x=>cases s with
  |go f=>exact λ_=>afv h av hs
  |bf x ge a6=>simp only [step1,av]at hs;repeat' (first |(split at hs) |(simp at hs;done))
 |binOp op t x y t2=>cases s with
  |go f=>exact λcn=>afI h av hs cn
  |bf x ge a6=>simp only [step1,av]at hs;repeat' (first |(split at hs) |(rw [Bool.cond_eq_ite]at hs) |(simp at hs;done))
 |unOp op t x=>cases s with
  |go f=>exact λ_=>afw h av hs
  |bf x ge a6=>simp only [step1,av]at hs;repeat' (first |(split at hs) |(simp at hs;done))
 |convert a b x=>cases s with
  |go f=>exact λcn=>afx h av hs cn
  |bf x ge a6=>simp only [step1,av]at hs;repeat' (first |(split at hs) |(simp at hs;done))
 |makeInterface t x=>cases s with
  |go f=>exact λ_=>afy h av hs
  |bf x ge a6=>simp only [step1,av]at hs;repeat' (first |(split at hs) |(simp at hs;done))
 |makeFunc fn first fc=>
  cases fn with
  |func fn=>cases s with
   |go f=>exact λ_=>afz h av hs
   |bf x ge a6=>simp only [step1,av]at hs;rw [Bool.cond_eq_ite]at hs;split at hs<;>simp at hs
  |_=>simp [step1,av]at hs
 |slice t x lo hi j_=>cases s with
  |go f=>exact λcn=>afR h av hs cn
  |bf x ge a6=>simp only [step1,av]at hs;repeat' (first |(split at hs) |(rw [Bool.cond_eq_ite]at hs) |(simp at hs;done))
 |fieldAddr a x i=>cases s with
  |go f=>exact λ_=>afJ h av hs
  |bf x ge a6=>simp only [step1,av]at hs;repeat' (first |(split at hs) |(rw [Bool.cond_eq_ite]at hs) |(simp at hs;done))
 |field a x i=>cases s with
  |go f=>exact λ_=>afL h av hs
  |bf x ge a6=>simp only [step1,av]at hs;repeat' (first |(split at hs) |(rw [Bool.cond_eq_ite]at hs) |(simp at hs;done))
 |indexAddr t x i=>cases s with
  |go f=>exact λcn=>afO h av hs cn
  |bf x ge a6=>simp only [step1,av]at hs;repeat' (first |(split at hs) |(rw [Bool.cond_eq_ite]at hs) |(simp at hs;done))
 |index t x i=>cases s with
  |go f=>exact λcn=>afP h av hs cn
  |bf x ge a6=>simp only [step1,av]at hs;repeat' (first |(split at hs) |(simp at hs;done))
 |typeAssert x a t ok=>cases s with
  |go f=>exact λ_=>af3 h av hs
  |bf x ge a6=>simp only [step1,av]at hs;repeat' (first |(split at hs) |(rw [Bool.cond_eq_ite]at hs) |(simp at hs;done) |(cases hs;done))
 |extract x i=>cases s with
  |go f=>exact λ_=>afA h av hs
  |bf x ge a6=>simp only [step1,av]at hs;repeat' (first |(split at hs) |(simp at hs;done))
 |call c=>
  simp only [step1,av]at hs;split at hs
  ·rename_i x oZ;split at hs
   case h_2=>cases hs
   rename_i fn fc ds hx h9;exact afW h av oZ hx h9 hs
  ·rename_i oZ;split at hs
   ·rename_i l _ _ _ _ hd ab;cases hs;exact λ_=>WE h av oZ hd ab (.inl ⟨l,rfl,rfl,rfl⟩)
   ·rename_i k n get _ _ _ _ _ hd ab;cases hs;exact λ_=>WE h av oZ hd ab (.inr ⟨k,get,_,rfl,rfl⟩)
   ·cases hs
  ·rename_i oZ;split at hs
   case h_2=>cases hs
   rename_i t x e asq B' kZ _ t2 e7 fk eQ;split at hs
   case h_3=>cases hs
   case h_2=>
    rename_i cf k n get d2 y rs hle pR jh eX;rw [Bool.cond_eq_ite]at hs;split at hs
    case isFalse=>cases hs
    rename_i hc;simp only [Bool.and_eq_true,Nat.beq_eq,Nat.ble_eq]at hc;obtain⟨⟨⟨rfl,x_⟩,ya⟩,vB⟩:=hc;rw [Option.bind_eq_some_iff]at fk eQ;obtain⟨af4,GD,fk⟩:=fk;obtain⟨af5,oU,eQ⟩:=eQ;have iR:=eh (ds:=[]) h.bw h.dU jh;split at hs
    case h_2=>cases hs
    rename_i ak m me e2 o0;rw [Bool.cond_eq_ite]at hs;split at hs
    case isFalse=>cases hs
    rename_i h_;simp only [Bool.and_eq_true,Nat.beq_eq,Nat.ble_eq]at h_;obtain⟨rfl,hm⟩:=h_;cases hs;intro cn;obtain⟨news,iU,lz⟩:=V2 h.bw.bw h.tt eQ o0 iR;exact aeS h.bw h.dU h.tt fk rfl hle av oZ e7 GD oU pR ya hm iU lz (NG (cn (room (n+m) cf.bytes=true) (by simp))) (cn (hA _ y) (by simp))
   rename_i cf k n get d2 asr bg y rs hle pR jh BS eX;rw [Bool.cond_eq_ite]at hs;split at hs
   case isFalse=>cases hs
   rename_i hc;simp only [Bool.and_eq_true,Nat.beq_eq,Nat.ble_eq]at hc;obtain⟨⟨⟨⟨rfl,rfl⟩,x_⟩,ya⟩,vB⟩:=hc;rw [Option.bind_eq_some_iff]at fk eQ;obtain⟨af4,GD,fk⟩:=fk;obtain⟨af5,oU,eQ⟩:=eQ;have iR:=eh (ds:=[]) h.bw h.dU jh;split at hs
   ·rename_i ak m me e2 o0;rw [Bool.cond_eq_ite]at hs;split at hs
    case isFalse=>cases hs
    rename_i h_;simp only [Nat.beq_eq]at h_;subst h_;cases hs;intro cn;obtain⟨news,iU,lz⟩:=V2 h.bw.bw h.tt eQ o0 iR;exact VY h.bw h.dU h.tt fk rfl hle av oZ e7 GD oU pR BS rfl ya iU lz (NG (cn (room (n+m) cf.bytes=true) (by simp))) (cn (hA _ y) (by simp))
   ·rename_i l o0;rw [Bool.cond_eq_ite]at hs;split at hs
    case isFalse=>cases hs
    rename_i h_;simp only [Nat.beq_eq]at h_;cases hs;intro cn;have NX:=mU iR;obtain⟨news,iU,lz⟩:=aeX (P:=P) (w:=w) h.tt eQ o0 l M;rw [←NX,←h_]at iU;rw [←h_]at lz;exact VY h.bw h.dU h.tt fk rfl hle av oZ e7 GD oU pR BS rfl ya iU lz (NG (cn (room (n+l.length) cf.bytes=true) (by simp))) (cn (hA _ y) (by simp))
   ·cases hs
  ·rename_i oZ;split at hs
   ·rename_i k a ak b hd;rw [Bool.cond_eq_ite]at hs;split at hs
    case isFalse=>cases hs
    rename_i hk;have sr:k=ak:=by simpa using hk
    subst sr;cases hs;exact λ_=>af1 h av oZ hd
   ·cases hs
  ·rename_i oZ;split at hs
   ·rename_i k a ak b hd;rw [Bool.cond_eq_ite]at hs;split at hs
    case isFalse=>cases hs
    rename_i hk;have sr:k=ak:=by simpa using hk
    subst sr;cases hs;exact λ_=>af2 h av oZ hd
   ·cases hs
  ·cases hs
 |panic x=>cases s with
  |go f=>simp only [step1,av]at hs;repeat' (first |(split at hs) |(simp at hs;done))
  |bf y ge a6=>
   simp only [step1,av]at hs;split at hs
   case h_2=>cases hs
   rename_i t z hd;cases hs;intro _;have ai:=eh (ds:=[]) h.bw h.dU hd;obtain⟨u,aw,hu⟩:=MZ ai;refine .inl ⟨.iface t u,?_,.iface t u z hu,rfl⟩;simp [execOp,av,aw,Instr.panic]
 |_=>simp [step1,av]at hs
end
inductive cp where
 |normal
 |exit (id:Nat)
 |ret
 |bf (x:V)
def tL(P:Program)(K:Ctx)(N:Nat)(fO:cp)(st:aK)(e:Exit)(a:Act)(w:World):Prop:=
 match fO with
 |.normal=>e = .normal∧a.defers=K.ds∧a.tmps.size=N∧∃M β,bN P K M β st a.tmps w
 |.exit id=>e = .exit id∧a.defers=K.ds∧a.tmps.size=N∧∃M β,bN P K M β st a.tmps w
 |.ret=>e = .ret∧a.defers=K.ds∧a.tmps.size=N∧∃M β,bN P K M β st a.tmps w
 |.bf x=>∃v,e = .panic [{v,recovered:=false}]∧a.defers=K.ds∧∃M β,de M v x∧bN P K M β st a.tmps w
section
variable {P:Program} {K:Ctx} {N:Nat} {M:Mem} {β:Nat→Option Nat} {st:aK} {g e0:dk} {tmps:Array Value} {w:World} {o:Oper} {f:lm} {p:Path} {tt:dI} {ops:List Oper}
def bN.B_(h:bN P K M β st tmps w)(fW:Array Value):bN P K M β {env:=[],H:=st.H,aX:=st.aX} fW w:=by
 have Z:bN P K M β {env:=[],H:=st.H,aX:=st.aX} tmps w:=h.sub rfl (λl e ab=>by
  cases l with
  |slot s=>simp [aK.at,look]at ab
  |cell r i=>exact⟨e,ab,rfl,λ_ h=>h⟩) (λr cs ai=>⟨cs,ai,rfl⟩)
 have aw:∀l e,({env:=[],H:=st.H,aX:=st.aX}:aK).at l=some e→cu fW w β l=cu tmps w β l:=by
  intro l e ab;cases l with
  |slot s=>simp [aK.at,look]at ab
  |cell r i=>rfl
 constructor
 ·intro l e ab;rw [aw l e ab];exact Z.fv l e ab
 ·intro l e T ab aG;rw [aw l e ab];exact Z.own l e T ab aG
 ·intro l cG e bg T T' b ab aG dF eg hb bY;rw [aw l e ab]at hb;rw [aw cG bg dF]at bY;exact Z.uniq l cG e bg T T' b ab aG dF eg hb bY
 ·intro l e T b r cs ab aG hb ai;rw [aw l e ab]at hb;exact Z.unbox l e T b r cs ab aG hb ai
 ·exact Z.box
 ·exact Z.inj
 ·exact Z.lt
 ·exact Z.mem
 ·exact Z.m0
 ·exact Z.frame
 ·exact Z.iP
 ·exact Z.jx
 ·exact Z.h7
def Ca(h:fX P K N M β g tmps w):∀{p:Path} {q:Prop},fN tmps p→under g p q→q
 |[],_,_,ao=>ao
 |(t,oW)::p,q,hp,ao=>by
  have aF:tmps.getD t undef = .bool oW:=hp (t,oW) (by simp)
  have yb:fN tmps p:=λx hx=>hp x (by simp [hx])
  simp only [under]at ao;split at ao
  ·rename_i b hb;refine Ca h yb (ao ?_);unfold Bw at hb;split at hb
   ·rename_i q' bG hc;cases hb;by_cases iV:fN tmps q'
    ·have:=vc ((h.cond t _ _ hc).1 iV)
     rw [aF]at this;cases this;rfl
    ·have:=(h.cond t _ _ hc).2 iV
     rw [aF]at this;cases this
   ·cases hb
   ·split at hb
    ·rename_i bG own he;cases hb;have:=vc (h.bw.fv (.slot t) _ he)
     simp only [cu]at this;rw [aF]at this;cases this;rfl
    ·cases hb
  ·exact Ca h yb ao
def WH(h:fX P K N M β g tmps w){opsA:Array Oper}(ns:opsA.toList=ops)(hp:pG ops g o=some p):Region.wanted o (yielded opsA tmps)=true↔fN tmps p:=by
 unfold pG at hp;split at hp
 ·rename_i hg;cases hp;simp [Region.wanted,hg,fN]
 ·rename_i j oW hg;split at hp
  case h_2=>cases hp
  rename_i t aF
  have ce:yielded opsA tmps j=some oW↔tmps.getD t undef = .bool oW:=by
   unfold yielded;have:opsA[j]? = ops[j]? := by rw [←ns];simp
   rw [this,aF];simp only [Option.bind_some,Array.getD_eq_getD_getElem?];cases bm:tmps[t]? with
   |none=>simp [undef]
   |some v=>cases v<;>simp
  have hw:Region.wanted o (yielded opsA tmps)=true↔tmps.getD t undef = .bool oW:=by
   rw [←ce];simp [Region.wanted,hg]
  split at hp
  ·rename_i q b hc;cases hp;rw [hw];constructor
   ·intro jN x hx;rcases List.mem_append.1 hx with hx|hx
    ·by_cases iV:fN tmps q
     ·exact iV x hx
     ·have:=(h.cond t _ _ hc).2 iV
      rw [jN]at this;cases this
    ·simp at hx;subst hx;exact jN
   ·intro iV;exact iV (t,oW) (by simp)
  ·cases hp
  ·split at hp
   ·cases hp;rw [hw];exact⟨λh x hx=>by simp at hx;subst hx;exact h,λh=>h (t,oW) (by simp)⟩
   ·cases hp
def NY{t:Nat}{v:Value}{q:Path}(ao:∀x,x∈q→x.1≠t):fN (tmps.setIfInBounds t v) q↔fN tmps q:=by
 unfold fN;constructor<;>intro h x hx
 ·have:=h x hx
  rwa [Array.getD_eq_getD_getElem?,Array.getElem?_setIfInBounds_ne (Ne.symm (ao x hx)),←Array.getD_eq_getD_getElem?]at this
 ·have:=h x hx
  rwa [Array.getD_eq_getD_getElem?,Array.getElem?_setIfInBounds_ne (Ne.symm (ao x hx)),←Array.getD_eq_getD_getElem?]
def af6{t s:Nat}{v:Value}(h:s≠t):(tmps.setIfInBounds t v).getD s undef=tmps.getD s undef:=by
 rw [Array.getD_eq_getD_getElem?,Array.getElem?_setIfInBounds_ne (Ne.symm h),←Array.getD_eq_getD_getElem?]
def af7{b5:List (Nat×Path×D)}{t:Nat}(h:xN b5 t=true){s:Nat}{q:Path}{d:D}(hc:look b5 s=some (q,d))(hs:s≠t):∀x,x∈q→x.1≠t:=by
 unfold xN at h;rw [List.all_eq_true]at h;have:=h _ (sc hc)
 simp only [Bool.or_eq_true,Nat.beq_eq,List.all_eq_true,Bool.not_eq_true']at this;rcases this with Z|Z
 ·exact absurd Z hs
 ·intro x hx e;have:=Z x hx
  rw [e]at this;simp at this
def NZ(h:∀t q d,look g.b5 t=some (q,d)→(fN tmps q→cy M β (tmps.getD t undef) d)∧(¬ fN tmps q→tmps.getD t undef=undef)){t:Nat}{v:Value}(aW:xN g.b5 t=true){M':Mem}{β':Nat→Option Nat}
 (cT:M.le M') (hC:∀r b,β r=some b→β' r=some b):
 ∀s q d,look (del g.b5 t) s=some (q,d)→(fN (tmps.setIfInBounds t v) q→cy M' β' ((tmps.setIfInBounds t v).getD s undef) d)∧(¬ fN (tmps.setIfInBounds t v) q→(tmps.setIfInBounds t v).getD s undef=undef):=by
 intro s q d hc;rw [qN]at hc;by_cases hs:t=s
 ·simp [hs]at hc
 ·rw [if_neg hs]at hc;rw [NY (af7 aW hc (Ne.symm hs)),af6 (Ne.symm hs)];exact⟨λiV=>(((h s q d hc).1 iV).mono cT).MK hC,(h s q d hc).2⟩
def Cb(ds:List Deferred):Act.eval ⟨tmps,ds⟩=Act.eval ⟨tmps,[]⟩:=by
 funext x;cases x<;>rfl
def WI{α:Type}:∀(a b:List (Nat×α)) (q:Nat),look (a++b) q=none→look a q=none∧look b q=none
 |[],b,q,h=>⟨rfl,h⟩
 |(j,x)::a,b,q,h=>by
  simp only [List.cons_append,dX]at h ⊢;by_cases hj:j=q
  ·simp [hj]at h
  ·simp only [hj,if_false]at h ⊢;exact WI a b q h
def fX.N0(h:fX P K N M β g tmps w){β':Nat→Option Nat}{hs:List (Nat×List a7)}(vC:∀r b,β' r=some b→β r=some b∨(look hs r).isSome=true):
 ∀s id,look g.ids s=some id→look (hs++g.H) id=none→∀b,β' id≠some b:=by
 intro s id hid ab b hb;obtain⟨Z,aa⟩:=WI _ _ _ ab;rcases vC id b hb with aj|aj
 ·exact h.fresh s id hid aa b aj
 ·rw [Z]at aj;cases aj
def N1(h:fX P K N M β g tmps w)(cz:fB P tt=true){opsA:Array Oper}(ns:opsA.toList=ops)(hs:n6 (jL P) tt N ops g o=some (.go e0))(cn:∀q,q∈e0.a6→q){Q:Exit→Act→World→Prop}{next:Act→World→Prop}
 (gn:∀fW w' M' β',fX P K N M' β' e0 fW w'→next ⟨fW,K.ds⟩ w'):
 if Region.wanted o (yielded opsA tmps)then o.wp P ⟨tmps,K.ds⟩ w next Q∨(o.asks P ⟨tmps,K.ds⟩ w∧LetsOut Q)else next ((⟨tmps,K.ds⟩:Act).put o.dst undef) w:=by
 unfold n6 at hs;split at hs
 case h_1=>cases hs
 rename_i p hp;have hw:=WH h ns hp;split at hs
 ·cases hs
 ·rw [Bool.cond_eq_ite]at hs;split at hs<;>cases hs
 rename_i f aW
 dsimp only at hs
 by_cases iV:fN tmps p
 ·rw [if_pos (
   hw.2 iV)]
  refine .inl ?_;have jl:=WG (g:=g) (ops:=ops) ⟨h,iV,cz⟩ aW
  -- NC follows once ml value is there
  have main:(∀q,q∈f.a6→q)∧∀v w',iS P K M β g f tmps v w'→next ((⟨tmps,K.ds⟩:Act).put o.dst v) w':=by
   split at hs
   ·rename_i vD;rw [Bool.cond_eq_ite]at hs;split at hs
    case isFalse=>cases hs
    rename_i vB;have Cc:p=[]:=by simpa using vB
    subst Cc;cases hs;refine⟨λq ao=>Ca h iV (cn _ (List.mem_append_left _ (List.mem_map.2 ⟨q,ao,rfl⟩))),?_⟩
    rintro v w' ⟨M',β',cT,hC,vC,cN,_⟩
    rw [vD];exact gn tmps w' M' β' ⟨cN,h.size,h.N0 vC,λs q d hc=>⟨λiV=>(((h.cond s q d hc).1 iV).mono cT).MK hC,(h.cond s q d hc).2⟩⟩
   ·rename_i t vD;rw [Bool.cond_eq_ite]at hs;split at hs
    case isFalse=>cases hs
    rename_i hc;simp only [Bool.and_eq_true,Nat.blt_eq]at hc;have cX:t<tmps.size:=by rw [h.size];exact hc.1
    rcases p with _|⟨x,N2⟩<;>dsimp only at hs
    ·cases hs;refine⟨λq ao=>Ca h iV (cn _ (List.mem_append_left _ (List.mem_map.2 ⟨q,ao,rfl⟩))),?_⟩
     rintro v w' ⟨M',β',cT,hC,vC,cN,jl⟩
     rw [vD];refine gn _ w' M' β' ⟨?_,by simpa using h.size,h.N0 vC,NZ h.cond hc.2 cT hC⟩
     cases he:f.e with
     |none=>exact cN.drop
     |some e=>
      obtain⟨Z,aa⟩:=jl e he;exact cN.put cX Z (λT aG=>aa T _ aG)
    ·split at hs
     ·rename_i e he vE oT;rw [Bool.cond_eq_ite]at hs;split at hs
      case isFalse=>cases hs
      rename_i mo;simp only [Bool.and_eq_true,List.all_eq_true,Nat.beq_eq,Bool.not_eq_true']at mo;cases hs;refine⟨λq ao=>Ca h iV (cn _ (List.mem_append_left _ (List.mem_map.2 ⟨q,ao,rfl⟩))),?_⟩
      rintro v w' ⟨M',β',cT,hC,vC,cN,jl⟩
      rw [vD];obtain⟨Z,_⟩:=jl e he
      have kx:∀y,y∈x::N2→y.1≠t:=λy ce e=>by
       have:=mo.1 y ce
       rw [e]at this;simp at this
      refine gn _ w' M' β' ⟨?_,by simpa using h.size,by have:=h.N0 vC;rw [vE]at this;exact this,λs q d et=>?_⟩
      ·have:after g f={env:=g.env,H:=g.H,aX:=g.aX}:=by unfold after;rw [oT,vE,mo.2];rfl
       rw [this]at cN;exact cN.drop
      ·rw [dX]at et;by_cases kv:t=s
       ·rw [if_pos kv]at et;cases et;subst kv;rw [NY kx];refine⟨λ_=>?_,λhn=>absurd iV hn⟩
        have:(tmps.setIfInBounds t v).getD t undef=v:=by simp [cX]
        rw [this];exact Z
       ·rw [if_neg kv]at et;exact NZ h.cond hc.2 cT hC s q d et
     ·cases hs
  obtain⟨af8,jk⟩:=main;rcases jl af8 with⟨v,w',fe,kA⟩|⟨he,w',fe,kA⟩|⟨fn,vs,fe,vF⟩
  ·unfold Oper.wp;rw [Cb,fe];exact jk v w' kA
  ·unfold Oper.wp;rw [Cb,fe];exact jk undef w' kA
  ·unfold Oper.wp;rw [Cb,fe];refine vF.mono ?_
   rintro e w' ⟨v,rfl,kA⟩
   exact jk v w' kA
 ·have af9:Region.wanted o (yielded opsA tmps)=false:=by
   rw [Bool.eq_false_iff];exact λbm=>iV (hw.1 bm)
  rw [af9];simp only [Bool.false_eq_true,if_false];split at hs
  ·rename_i vD;rw [Bool.cond_eq_ite]at hs;split at hs
   case isFalse=>cases hs
   rename_i vB;have Cc:p=[]:=by simpa using vB
   subst Cc;exact absurd (λx hx=>by cases hx) iV
  ·rename_i t vD;rw [Bool.cond_eq_ite]at hs;split at hs
   case isFalse=>cases hs
   rename_i hc;simp only [Bool.and_eq_true,Nat.blt_eq]at hc;rcases p with _|⟨x,N2⟩<;>dsimp only at hs
   ·exact absurd (λx hx=>by cases hx) iV
   ·split at hs
    ·rename_i e he vE oT;rw [Bool.cond_eq_ite]at hs;split at hs
     case isFalse=>cases hs
     rename_i mo;simp only [Bool.and_eq_true,List.all_eq_true,Nat.beq_eq,Bool.not_eq_true']at mo;cases hs;rw [vD]
     have kx:∀y,y∈x::N2→y.1≠t:=λy ce e=>by
      have:=mo.1 y ce
      rw [e]at this;simp at this
     refine gn _ w M β ⟨h.bw.drop,by simpa using h.size,h.fresh,λs q d et=>?_⟩
     rw [dX]at et;by_cases kv:t=s
     ·rw [if_pos kv]at et;cases et;subst kv;rw [NY kx];refine⟨λbm=>absurd bm iV,λ_=>?_⟩
      have cX:t<tmps.size:=by rw [h.size];exact hc.1
      simp [cX]
     ·rw [if_neg kv]at et;exact NZ h.cond hc.2 (Mem.le_refl _) (λ_ _ h=>h) s q d et
    ·cases hs
end
section
variable {P:Program} {K:Ctx} {N E:Nat} {M:Mem} {β:Nat→Option Nat} {st:aK} {g e0:dk} {tmps:Array Value} {w:World} {o:Oper} {f:lm} {p:Path} {tt:dI} {ops:List Oper}
def WJ(h:fX P K N M β g tmps w)(cz:fB P tt=true){opsA:Array Oper}(ns:opsA.toList=ops){x:V}{st:aK}{a6:List Prop}(hs:n6 (jL P) tt N ops g o=some (.bf x st a6))(cn:∀q,q∈a6→q){Q:Exit→Act→World→Prop}{next:Act→World→Prop}
 (gn:∀e d' w',tL P K N (.bf x) st e d' w'→Q e d' w'):
 if Region.wanted o (yielded opsA tmps)then o.wp P ⟨tmps,K.ds⟩ w next Q∨(o.asks P ⟨tmps,K.ds⟩ w∧LetsOut Q)else next ((⟨tmps,K.ds⟩:Act).put o.dst undef) w:=by
 unfold n6 at hs;split at hs
 case h_1=>cases hs
 rename_i p hp;have hw:=WH h ns hp;split at hs
 ·cases hs
 ·rename_i y ge tM dx;rw [Bool.cond_eq_ite]at hs;split at hs
  case isFalse=>cases hs
  rename_i vB;have Cc:p=[]:=by simpa using vB
  subst Cc;cases hs;have iV:fN tmps []:=λx hx=>by cases hx
  rw [if_pos (hw.2 iV)];refine .inl ?_;have jl:=WG (g:=g) (ops:=ops) ⟨h,iV,cz⟩ dx;rcases jl (λq ao=>cn q (List.mem_append_left _ ao)) with⟨v,fe,ai,rfl⟩|⟨fn,vs,fe,vF⟩
  ·unfold Oper.wp;rw [Cb,fe];exact gn _ _ _ ⟨v,rfl,rfl,M,β,ai,h.bw.pF λs e he=>⟨e,he,rfl⟩⟩
  ·unfold Oper.wp;rw [Cb,fe];refine vF.mono ?_
   rintro e w' ⟨v,M',rfl,ai,cN⟩
   exact gn _ _ _ ⟨v,rfl,rfl,M',β,ai,cN⟩
 ·dsimp only at hs
  repeat' (first|(split at hs)|(rw [Bool.cond_eq_ite]at hs)|(cases hs;done))
def af'{cd:gD}(hs:n6 cd tt N ops g o=some (.go e0)):∀q,q∈g.a6→q∈e0.a6:=by
 intro q ao;unfold n6 at hs;split at hs
 case h_1=>cases hs
 split at hs
 ·cases hs
 ·rw [Bool.cond_eq_ite]at hs;split at hs<;>cases hs
 ·dsimp only at hs
  repeat' (first|(split at hs)|(rw [Bool.cond_eq_ite]at hs)|(cases hs;exact List.mem_append_right _ ao)|(cases hs;done))
def af_{cd:gD}{x:V}{st:aK}{a6:List Prop}(hs:n6 cd tt N ops g o=some (.bf x st a6)):∀q,q∈g.a6→q∈a6:=by
 intro q ao;unfold n6 at hs;split at hs
 case h_1=>cases hs
 split at hs
 ·cases hs
 ·rw [Bool.cond_eq_ite]at hs;split at hs<;>cases hs;exact List.mem_append_right _ ao
 ·dsimp only at hs
  repeat' (first|(split at hs)|(rw [Bool.cond_eq_ite]at hs)|(cases hs;done))
def WK:BA→List Prop
 |.go g=>g.a6
 |.bf _ _ a6=>a6
def WL{cd:gD}:∀{l:List Oper} {g:dk} {fin:BA},tp cd tt N ops l g=some fin→∀q,q∈g.a6→q∈WK fin
 |[],g,fin,h,q,ao=>by simp [tp]at h;subst h;exact ao
 |o::l,g,fin,h,q,ao=>by
  simp only [tp]at h;split at h
  ·rename_i e0 hs;exact WL h q (af' hs q ao)
  ·cases fin with
   |go e0=>exact absurd h (by intro bm;rename_i dh;exact dh _ bm)
   |bf x st a6=>exact af_ h q ao
def N3(cz:fB P tt=true){opsA:Array Oper}(ns:opsA.toList=ops){Q:Exit→Act→World→Prop}{fin:BA}(nt:∀q,q∈WK fin→q)
 (ei:match fin with
  |.go e0=>∀fW w' M' β',fX P K N M' β' e0 fW w'→Q .normal ⟨fW,K.ds⟩ w'
  |.bf x st _=>∀e d' w',tL P K N (.bf x) st e d' w'→Q e d' w'):
 ∀(l:List Oper) (k:Nat) (g:dk) (tmps:Array Value) (w:World) (M:Mem) (β:Nat→Option Nat),(∀j,l[j]? = ops[k+j]?)→fX P K N M β g tmps w→tp (jL P) tt N ops l g=some fin→
  wpOps P opsA Q (List.range' k l.length) ⟨tmps,K.ds⟩ w
 |[],k,g,tmps,w,M,β,_,h,ai=>by
  simp [tp]at ai;subst ai;exact ei tmps w M β h
 |o::l,k,g,tmps,w,M,β,ab,h,ai=>by
  have hk:opsA[k]? = some o:=by
   have:=ab 0
   simp at this
   rw [←Array.getElem?_toList,ns];exact this.symm
  simp only [List.length_cons,List.range'_succ,wpOps,hk];simp only [tp]at ai;split at ai
  ·rename_i e0 hs;refine N1 h cz ns hs (λq ao=>nt q (WL ai q ao)) (λfW w' M' β' cM=>?_)
   exact N3 cz ns nt ei l (k+1) e0 fW w' M' β' (λj=>by have:=ab (j+1);simpa [Nat.add_assoc,Nat.add_comm 1 j]using this) cM ai
  ·cases fin with
   |go e0=>exact absurd ai (by intro bm;rename_i dh;exact dh _ bm)
   |bf x st a6=>exact WJ h cz ns ai nt (λe d' w' b1=>ei e d' w' b1)
def a_(P:Program)(N E:Nat)(c:Code)(Q:cp→aK→Prop)(st:aK):Prop:=
 ∀(K:Ctx),(∀r b,K.lq r=some b→r<E)→∀(a:Act) (w:World),tL P K N .normal st .normal a w→c.wp P (λe d' w'=>∃fO b8,tL P K N fO b8 e d' w'∧Q fO b8) a w
def a_.mono{c:Code}{Q WM:cp→aK→Prop}(h:a_ P N E c Q st)(ao:∀fO b8,Q fO b8→WM fO b8):a_ P N E c WM st:=
 λK eF a w hs=>wp_mono (h K eF a w hs) λ_ _ _ ⟨fO,b8,Z,aa⟩=>⟨fO,b8,Z,ao _ _ aa⟩
@[reducible] def cp.then (next : aK → Prop) (Q : cp → aK → Prop) : cp → aK → Prop
 |.normal,st=>next st
 |e,st=>Q e st
@[reducible] def cp.inBlock (id : Nat) (Q : cp → aK → Prop) : cp → aK → Prop
 |.exit i,st=>if i=id then Q .normal st else Q (.exit i) st
 |e,st=>Q e st
def a_.seq{x y:Code}{Q:cp→aK→Prop}(h:a_ P N E x (cp.then (a_ P N E y Q) Q) st):a_ P N E (.seq x y) Q st:=by
 intro K eF a w hs;refine wp_seq (wp_mono (h K eF a w hs) ?_)
 rintro e d' w' ⟨fO,b8,Z,aa⟩
 cases fO with
 |normal=>
  obtain⟨rfl,aj⟩:=Z;exact aa K eF d' w' ⟨rfl,aj⟩
 |exit i=>obtain⟨rfl,aj⟩:=Z;exact⟨.exit i,b8,⟨rfl,aj⟩,aa⟩
 |ret=>obtain⟨rfl,aj⟩:=Z;exact⟨.ret,b8,⟨rfl,aj⟩,aa⟩
 |bf x=>obtain⟨v,rfl,aj⟩:=Z;exact⟨.bf x,b8,⟨v,rfl,aj⟩,aa⟩
def a_.skip{Q:cp→aK→Prop}(h:Q .normal st):a_ P N E .skip Q st:=λ_ _ _ _ hs=>wp_skip ⟨.normal,st,hs,h⟩
def a_.label{l:Nat}{Q:cp→aK→Prop}(h:Q .normal st):a_ P N E (.label l) Q st:=λ_ _ _ _ hs=>wp_label ⟨.normal,st,hs,h⟩
def a_.exit{id:Nat}{Q:cp→aK→Prop}(h:Q (.exit id) st):a_ P N E (.exit id) Q st:=λ_ _ _ _ hs=>wp_exit ⟨.exit id,st,⟨rfl,hs.2⟩,h⟩
def a_.ret{Q:cp→aK→Prop}(h:Q .ret st):a_ P N E .ret Q st:=λ_ _ _ _ hs=>wp_ret ⟨.ret,st,⟨rfl,hs.2⟩,h⟩
def a_.block{id:Nat}{c:Code}{Q:cp→aK→Prop}(h:a_ P N E c (cp.inBlock id Q) st):a_ P N E (.block id c) Q st:=by
 intro K eF a w hs;refine wp_block (wp_mono (h K eF a w hs) ?_)
 rintro e d' w' ⟨fO,b8,Z,aa⟩
 cases fO with
 |normal=>obtain⟨rfl,aj⟩:=Z;exact⟨.normal,b8,⟨rfl,aj⟩,aa⟩
 |exit i=>
  obtain⟨rfl,aj⟩:=Z;by_cases hi:i=id
  ·simp only [cp.inBlock,hi,if_true]at aa;simp only [Exit.inBlock,hi,if_true];exact⟨.normal,b8,⟨rfl,aj⟩,aa⟩
  ·simp only [cp.inBlock,hi,if_false]at aa;simp only [Exit.inBlock,hi,if_false];exact⟨.exit i,b8,⟨rfl,aj⟩,aa⟩
 |ret=>obtain⟨rfl,aj⟩:=Z;exact⟨.ret,b8,⟨rfl,aj⟩,aa⟩
 |bf x=>obtain⟨v,rfl,aj⟩:=Z;exact⟨.bf x,b8,⟨v,rfl,aj⟩,aa⟩
def a_.cond{c:Nat}{x y:Code}{Q:cp→aK→Prop}(b:Bool)(own:Option TypeId)(hc:look st.env c=some ⟨.v (.bool b),own⟩)(aF:b=true→a_ P N E x Q st)(aW:b=false→a_ P N E y Q st):a_ P N E (.cond (.tmp c) x y) Q st:=by
 intro K eF a w hs;obtain⟨_,_,_,M,β,cN⟩:=id hs;have aw:a.eval (.tmp c) = .bool b:=vc (cN.fv (.slot c) _ hc);exact wp_cond_split aw (λhb=>aF hb K eF a w hs) (λhb=>aW hb K eF a w hs)
def a_.loop{c:Code}{Q:cp→aK→Prop}{σ:Type}(I:Nat→σ→aK→Prop)(WN:∀n s st,I n s st→∃m,n=m+1∧a_ P N E c (cp.then (λb8=>∃xR,I m xR b8) Q) st)
 {n:Nat} {s:σ} {st:aK} (h0:I n s st):a_ P N E (.loop c) Q st:=by
 intro K eF a w hs b k cs
 have key:∀n s st a w,I n s st→tL P K N .normal st .normal a w→
  ∃e d' w',(∃fO b8,tL P K N fO b8 e d' w'∧Q fO b8)∧Arrives P (lone (b.at a (.code c :: .inLoop c::k)) cs w) b k cs e d' w':=by
  intro n;induction n with
  |zero=>
   intro s st a w mp _;obtain⟨m,hm,_⟩:=WN 0 s st mp;omega
  |succ n aH=>
   intro s st a w mp hs;obtain⟨m,hm,NT⟩:=WN (n+1) s st mp;have:m=n:=by omega
   subst this;obtain⟨e,GE,GF,⟨fO,b8,Z,aa⟩,yc⟩:=NT K eF a w hs b (.inLoop c::k) cs;cases fO with
   |normal=>
    obtain⟨rfl,aj⟩:=Z;obtain⟨xR,aga⟩:=aa;obtain⟨agb,agc,agd,age,agf⟩:=aH xR b8 GE GF aga ⟨rfl,aj⟩;exact⟨agb,agc,agd,age,.of_steps (Steps.trans yc (.one step_inLoop)) agf⟩
   |exit i=>obtain⟨rfl,aj⟩:=Z;exact⟨_,GE,GF,⟨.exit i,b8,⟨rfl,aj⟩,aa⟩,.pass (x:=.inLoop c) rfl (λ_ _=>.inl (by simp)) yc⟩
   |ret=>obtain⟨rfl,aj⟩:=Z;exact⟨_,GE,GF,⟨.ret,b8,⟨rfl,aj⟩,aa⟩,.pass (x:=.inLoop c) rfl (λ_ _=>.inl (by simp)) yc⟩
   |bf x=>obtain⟨v,rfl,aj⟩:=Z;exact⟨_,GE,GF,⟨.bf x,b8,⟨v,rfl,aj⟩,aa⟩,.pass (x:=.inLoop c) rfl (λ_ _=>.inl (by simp)) yc⟩
 obtain⟨e,d',w',ao,yc⟩:=key n s st a w h0 hs;exact⟨e,d',w',ao,.of_steps (.one step_loop) yc⟩
end
def yd(tt:dI)(st:aK):ResultVar→Option D
 |.tmp t=>(look st.env t).map (·.d)
 |.cell a t=>match look st.env a,look tt t with
  |some ⟨.ptr r off,_⟩,some aS=>match look st.H r with
   |some cs=>bif aS.k.isAgg then(bif Nat.ble (off+aS.size) cs.length then some (qJ (((cs.drop off).take aS.size).map (·.d)))else none) else(cs[off]?).map (·.d)
   |none=>none
  |_,_=>none
def WO(tt:dI)(st:aK):List ResultVar→Option (D×Option TypeId)
 |[.tmp t]=>(look st.env t).map λe=>(e.d,e.own)
 |[x]=>(yd tt st x).map (·,none)
 |xs=>(mapM' (yd tt st) xs).map λds=>(.cw ds,none)
def leave(tt:dI)(E:Nat)(rs:List ResultVar)(st:aK):Option (Out×List (List a7)):=
 match WO tt st rs,boxes st.H (List.range E) with
 |some (d,own),some bP=>bif below E d&&bP.all (tq E)then some (.ret d own,bP)else none
 |_,_=>none
def GG(E:Nat)(H:List (Nat×List a7)):Option (List (List a7)):=
 match boxes H (List.range E) with
 |some bP=>bif bP.all (tq E)then some bP else none
 |none=>none
def oe(H:List (List a7)):List (List a7):=H.map λb=>b.map λe=>{d:=e.d}
def tN(tt:dI)(E:Nat)(rs:List ResultVar)(R:Out→List (List a7)→Prop):cp→aK→Prop
 |.normal,st=>∃o bP,leave tt E rs st=some (o,bP)∧R o bP
 |.ret,st=>∃o bP,leave tt E rs st=some (o,bP)∧R o bP
 |.bf x,st=>∃bP,GG E st.H=some bP∧R (.bf x) (oe bP)
 |.exit _,_=>False
section
variable {P:Program} {K:Ctx} {N E:Nat} {M:Mem} {β:Nat→Option Nat} {st:aK} {tmps:Array Value} {w:World} {tt:dI}
def GH(tmps:Array Value):ResultVar→Sem Value
 |.tmp t=>pure (tmps.getD t undef)
 |.cell a t=>do loadVar t (←asAddr (tmps.getD a undef))
def WP(h:bN P K M β st tmps w)(cz:fB P tt=true){x:ResultVar}{d:D}(hx:yd tt st x=some d):
 ∃v,(GH tmps x).run P w = .ok v w∧cy M β v d:=by
 cases x with
 |tmp t=>
  simp only [yd,Option.map_eq_some_iff]at hx;obtain⟨e,he,rfl⟩:=hx;exact⟨_,rfl,h.fv (.slot t) e he⟩
 |cell a t=>
  simp only [yd]at hx;split at hx
  case h_2=>cases hx
  rename_i r off own aS ha ab;obtain⟨row⟩:=eI cz ab;split at hx
  case h_2=>cases hx
  rename_i cs ai;obtain⟨b,hb,aw⟩:=se (h.fv (.slot a) _ ha);simp only [cu]at aw;obtain⟨bG,vs,T,bY,bm,hlen,_,_,jg,mR⟩:=h.box r cs ai;rw [hb]at bY;cases bY
  have WQ:∀{u:Value},(Instr.loadAt t (.pointer (some ⟨b,off,none⟩))).run P w = .ok u w→(do loadVar t (←asAddr (tmps.getD a undef)):Sem Value).run P w = .ok u w:=by
   intro u hu;rw [aw];simpa [Instr.loadAt,Instr.sureAddr,asAddr]using hu
  rw [Bool.cond_eq_ite]at hx;split at hx
  ·rename_i jK;rw [Bool.cond_eq_ite]at hx;split at hx
   case isFalse=>cases hx
   rename_i hle;simp only [Nat.ble_eq]at hle;cases hx;refine⟨_,WQ (Vw (P:=P) row (off:=off) bm (by omega) jK),?_⟩
   refine F' (by simp;omega) (λv aw=>jg v (List.mem_of_mem_drop (List.mem_of_mem_take aw))) (λi v c aw hc=>?_)
   rw [List.getElem?_map,Option.map_eq_some_iff]at hc;obtain⟨e,he,rfl⟩:=hc;rw [List.getElem?_take]at aw he;split at aw
   ·rename_i hi;rw [if_pos hi,List.getElem?_drop]at he;rw [List.getElem?_drop]at aw;have:=h.fv (.cell r (off+i)) e (by simp [aK.at,ai,he])
    simpa [cu,hb,cell_of_heap bm,aw]using this
   ·cases aw
  ·rename_i jK;simp only [Option.map_eq_some_iff]at hx;obtain⟨e,he,rfl⟩:=hx;obtain⟨jj,aeW,pJ,v,fA,Gi,e_,cj⟩:=MO h ai he;rw [hb]at fA;cases fA;refine⟨v,WQ (M0 (P:=P) row (by rw [cell_of_heap Gi,e_]) (by simpa using jK)),?_⟩
   have:=h.fv (.cell r off) e (by simp [aK.at,ai,he])
   rwa [cj]at this
def WR(h:bN P K M β st tmps w)(cz:fB P tt=true):∀{xs:List ResultVar} {ds:List D},mapM' (yd tt st) xs=some ds→
 ∃vs:List Value,(xs.mapM (GH tmps)).run P w = .ok vs w∧vs.length=ds.length∧
  ∀(i:Nat) v d,vs[i]? = some v→ds[i]? = some d→cy M β v d
 |[],ds,hx=>by simp [mapM']at hx;subst hx;exact⟨[],rfl,rfl,by simp⟩
 |x::xs,ds,hx=>by
  simp only [mapM']at hx;split at hx
  case h_2=>cases hx
  rename_i d afU hd h9;cases hx;obtain⟨v,aw,gI⟩:=WP h cz hd;obtain⟨vs,np,ab,ai⟩:=WR h cz h9;refine⟨v::vs,?_,by simp [ab],λi u c hu hc=>?_⟩
  ·simp only [List.mapM_cons,Sem.run_bind,aw,Result.andThen_ok,np,Sem.run_pure]
  ·cases i with
   |zero=>simp at hu hc;subst hu;subst hc;exact gI
   |succ i=>simp at hu hc;exact ai i u c hu hc
def agh{H:List (Nat×List a7)}{E:Nat}{bP:List (List a7)}(h:boxes H (List.range E)=some bP):bP.length=E∧∀r,r<E→look H r=bP[r]? ∧ (bP[r]?).isSome=true:=by
 obtain⟨Z,aa⟩:=vn h;exact⟨by simpa using Z,λr ai=>aa r r (by simp [ai])⟩
def bN.leave(h:bN P K M β st tmps w){bP:List (List a7)}(Cd:boxes st.H (List.range E)=some bP)(WS:bP.all (tq E)=true)(eF:∀r b,K.lq r=some b→r<E){v:Value}{d:D}{own:Option TypeId}
 (aw:cy M β v d) (hd:below E d=true) (gk:∀T,own=some T→∃l,nm P K M β {env:=hB l st.env,H:=st.H,aX:=st.aX} tmps w (.slot 0) v T∧True):
 ∃ β',bN P K M β' {env:=[(0,{d,own})],H:=cQ 0 bP,aX:=E} #[v] w:=by
 obtain⟨ab,l1⟩:=agh Cd;have Z:=h.B_ #[undef]
 have kz:∀r cs,look (cQ 0 bP) r=some cs→r<E∧look st.H r=some cs:=by
  intro r cs ai;rw [nr]at ai;have cX:r<E:=by have:=(List.getElem?_eq_some_iff.1 ai).1;omega
  exact⟨cX,by rw [(l1 r cX).1];exact ai⟩
 have hle:E≤st.aX∨E=0:=by
  by_cases h0:E=0
  ·exact .inr h0
  ·obtain⟨aa,aj⟩:=l1 (E-1) (by omega)
   obtain⟨cs,et⟩:=Option.isSome_iff_exists.1 aj;rw [et]at aa;obtain⟨b,_,_,hb,_⟩:=h.box _ cs aa;have:=h.lt _ b hb
   exact .inl (by omega)
 have aa:bN P K M β {env:=[],H:=cQ 0 bP,aX:=st.aX} #[undef] w:=by
  refine Z.sub rfl (λl e ab=>?_) (λr cs ai=>⟨cs,(kz r cs ai).2,rfl⟩)
  cases l with
  |slot s=>simp [aK.at,look]at ab
  |cell r i=>
   simp only [aK.at]at ab ⊢;cases ai:look (cQ 0 bP) r with
   |none=>simp [ai]at ab
   |some cs=>simp [ai]at ab;exact⟨e,by simp [(kz r cs ai).2,ab],rfl,λ_ h=>h⟩
 -- ml slot
 have aj:bN P K M β {env:=[(0,{d,own})],H:=cQ 0 bP,aX:=st.aX} #[v] w:=by
  have agi:=aa.put (t:=0) (v:=v) (e:={d,own}) (by simp) aw (λT aG=>?_)
  ·simpa using agi
  ·obtain⟨l,hn,_⟩:=gk T aG;refine⟨hn.own,λhK e T' b fk eg _ hb bY=>?_,λb r cs hb ai=>hn.unbox b r cs hb (kz r cs ai).2⟩
   cases hK with
   |slot s=>simp [aK.at,look]at fk
   |cell r i=>
    simp only [aK.at]at fk;cases ai:look (cQ 0 bP) r with
    |none=>simp [ai]at fk
    |some cs=>
     simp [ai]at fk;exact hn.apart (.cell r i) e T' b (by simp [aK.at,(kz r cs ai).2,fk]) eg (by simp) hb bY
 refine⟨λr=>if r<E then β r else none,?_⟩
 have cj:∀l e,({env:=[(0,{d,own})],H:=cQ 0 bP,aX:=st.aX}:aK).at l=some e→cu #[v] w (λr=>if r<E then β r else none) l=cu #[v] w β l:=by
  intro l e ab;cases l with
  |slot s=>rfl
  |cell r i=>
   simp only [aK.at]at ab;cases ai:look (cQ 0 bP) r with
   |none=>simp [ai]at ab
   |some cs=>simp [cu,(kz r cs ai).1]
 have nn:∀l e,({env:=[(0,{d,own})],H:=cQ 0 bP,aX:=st.aX}:aK).at l=some e→below E e.d=true:=by
  intro l e ab;cases l with
  |slot s=>
   simp only [aK.at,dX]at ab;split at ab
   ·cases ab;exact hd
   ·simp [look]at ab
  |cell r i=>
   simp only [aK.at]at ab;cases ai:look (cQ 0 bP) r with
   |none=>simp [ai]at ab
   |some cs=>
    simp [ai]at ab;rw [nr]at ai;rw [List.all_eq_true]at WS;exact MV (WS cs (List.mem_of_getElem? ai)) ab
 constructor
 ·intro l e ab;rw [cj l e ab];exact(aj.fv l e ab).Vj (λr ai=>by simp [ai]) (nn l e ab)
 ·intro l e T ab aG;rw [cj l e ab];exact aj.own l e T ab aG
 ·intro l cG e bg T T' b ab aG dF eg hb bY;rw [cj l e ab]at hb;rw [cj cG bg dF]at bY;exact aj.uniq l cG e bg T T' b ab aG dF eg hb bY
 ·intro l e T b r cs ab aG hb ai;rw [cj l e ab]at hb;have:=aj.unbox l e T b r cs ab aG hb ai
  simpa [(kz r cs ai).1]using this
 ·intro r cs ai;obtain⟨b,vs,T,aC,aT⟩:=aj.box r cs ai;exact⟨b,vs,T,by simpa [(kz r cs ai).1]using aC,aT⟩
 ·intro r dv b cs cs' ai gc hb bY;exact aj.inj r dv b cs cs' ai gc (by simpa [(kz r cs ai).1]using hb) (by simpa [(kz dv cs' gc).1]using bY)
 ·intro r b hb;by_cases cX:r<E
  ·exact cX
  ·simp [cX]at hb
 ·exact aj.mem
 ·exact aj.m0
 ·exact aj.frame
 ·intro r b hb;simp [eF r b hb,aj.iP r b hb]
 ·exact aj.jx
 ·exact aj.h7
def bN.era{env:List (Nat×a7)}{H:List (List a7)}{n:Nat}(h:bN P K M β {env:=env,H:=cQ 0 H,aX:=n} tmps w):bN P K M β {env:=env,H:=cQ 0 (oe H),aX:=n} tmps w:=by
 refine h.sub rfl (λl e ab=>?_) (λr cs ai=>?_)
 ·cases l with
  |slot s=>exact⟨e,ab,rfl,λ_ h=>h⟩
  |cell r i=>
   simp only [aK.at,nr,oe,List.getElem?_map]at ab ⊢;cases hb:H[r]? with
   |none=>simp [hb]at ab
   |some b=>
    simp only [hb,Option.map_some,Option.bind_some,List.getElem?_map,Option.map_eq_some_iff]at ab;obtain⟨b3,h0,rfl⟩:=ab;exact⟨b3,by simpa using h0,rfl,λT aG=>by cases aG⟩
 ·simp only [nr,oe,List.getElem?_map,Option.map_eq_some_iff]at ai ⊢;obtain⟨b,hb,rfl⟩:=ai;exact⟨b,hb,by simp⟩
def Ce{fn:Func}{E:Nat}{fW:Array Value}{w':World}{b8:aK}{M':Mem}{β':Nat→Option Nat}{o:Out}{bP:List (List a7)}(cz:fB P tt=true)(eF:∀r b,K.lq r=some b→r<E)(hs:bN P K M' β' b8 fW w')
 (ab:Ab.leave tt E fn.results.toList b8=some (o,bP)):
 ∃v,(results fn fW).run P w' = .ok v w'∧∃mX M' β',Ending.returned v=tE o mX∧bN P K M' β' {env:=iv o,H:=cQ 0 bP,aX:=E} #[mX] w':=by
 unfold Ab.leave at ab;split at ab
 case h_2=>cases ab
 rename_i d own H1 jl Cd;rw [Bool.cond_eq_ite]at ab;split at ab
 case isFalse=>cases ab
 rename_i hc;simp only [Bool.and_eq_true]at hc;cases ab
 -- ml value of ml results
 have cj:∃v,(results fn fW).run P w' = .ok v w'∧cy M' β' v d∧∀T,own=some T→∃l,nm P K M' β' {env:=hB l b8.env,H:=b8.H,aX:=b8.aX} fW w' (.slot 0) v T∧True:=by
  have hm:∀{vs:List Value},(fn.results.toList.mapM (GH fW)).run P w' = .ok vs w'→
   (results fn fW).run P w' = .ok (if h:vs.length=1 then vs[0]else .tuple ⟨vs⟩) w':=by
   intro vs np
   have jl:results fn fW=(do let vs ←fn.results.mapM (GH fW);pure (if h:vs.size=1 then vs[0]else .tuple vs)):=by
    unfold results
    congr 2
   rw [jl,show fn.results=⟨fn.results.toList⟩from rfl,List.mapM_toArray]
   simp only [Sem.run_bind,Sem.run_map,np,Result.andThen_ok,Sem.run_pure];simp
  unfold WO at jl;split at jl
  ·rename_i t aF;simp only [Option.map_eq_some_iff,Prod.mk.injEq]at jl;obtain⟨e,he,rfl,rfl⟩:=jl;have iu:=hs.fv (.slot t) e he;refine⟨fW.getD t undef,?_,iu,λT aG=>⟨[t],hs.hand he aG (.slot 0),trivial⟩⟩
   have:=hm (vs:=[fW.getD t undef]) (by rw [aF];rfl)
   simpa using this
  ·rename_i x dh hx;simp only [Option.map_eq_some_iff,Prod.mk.injEq]at jl;obtain⟨dE,kt,rfl,rfl⟩:=jl;obtain⟨v,aw,gI⟩:=WP hs cz kt;refine⟨v,?_,gI,by simp⟩
   have:=hm (vs:=[v]) (by rw [hx];simp only [List.mapM_cons,List.mapM_nil,Sem.run_bind,aw,Result.andThen_ok,Sem.run_pure])
   simpa using this
  ·simp only [Option.map_eq_some_iff,Prod.mk.injEq]at jl;obtain⟨ds,h9,rfl,rfl⟩:=jl;obtain⟨vs',np,ab,gI⟩:=WR hs cz h9;refine⟨.tuple ⟨vs'⟩,?_,.cw vs' ds ab gI,by simp⟩
   have dh:vs'.length≠1:=by
    rename_i Z aa;rw [ab,(tx h9).1];intro bm;obtain⟨x,hx⟩:=List.length_eq_one_iff.1 bm;exact aa x hx
   have:=hm np
   simpa [dh]using this
 obtain⟨v,fe,gI,gk⟩:=cj;obtain⟨Cf,nt⟩:=hs.leave Cd hc.2 eF gI hc.1 gk;exact⟨v,fe,v,M',Cf,rfl,nt⟩
def bN.vG{P:Program}{K:Ctx}{M:Mem}{β:Nat→Option Nat}{st:aK}{tmps:Array Value}{w:World}(h:bN P K M β st tmps w)(ds:List Deferred):bN P {K with ds:=ds} M β st tmps w:=
 ⟨h.fv,h.own,h.uniq,h.unbox,h.box,h.inj,h.lt,h.mem,h.m0,h.frame,h.iP,h.jx,h.h7⟩
def N4{args:List D}{eo:List (Nat×TypeId)}{H:List (List a7)}{vs:List Value}{n:Nat}(hlen:vs.length=args.length)(cN:bN P K M β {env:=hV args eo,H:=cQ 0 H,aX:=H.length} ⟨vs⟩ w):
 bN P K M β {env:=hV args eo,H:=cQ 0 H,aX:=H.length} ((⟨vs⟩:Array Value)++Array.replicate n undef) w:=by
 have aw:∀l e,({env:=hV args eo,H:=cQ 0 H,aX:=H.length}:aK).at l=some e→cu ((⟨vs⟩:Array Value)++Array.replicate (n) undef) w β l=cu ⟨vs⟩ w β l:=by
  intro l e ab;cases l with
  |slot s=>
   simp only [aK.at,hV,nr,BV,Option.map_eq_some_iff]at ab;obtain⟨d,hd,_⟩:=ab;have hs:s<vs.length:=by have:=(List.getElem?_eq_some_iff.1 hd).1;omega
   simp only [cu,Array.getD_eq_getD_getElem?];rw [Array.getElem?_append_left (by simpa using hs)]
  |cell r i=>rfl
 constructor
 ·intro l e ab;rw [aw l e ab];exact cN.fv l e ab
 ·intro l e T ab aG;rw [aw l e ab];exact cN.own l e T ab aG
 ·intro l cG e bg T T' b ab aG dF eg hb bY;rw [aw l e ab]at hb;rw [aw cG bg dF]at bY;exact cN.uniq l cG e bg T T' b ab aG dF eg hb bY
 ·intro l e T b r cs ab aG hb ai;rw [aw l e ab]at hb;exact cN.unbox l e T b r cs ab aG hb ai
 ·exact cN.box
 ·exact cN.inj
 ·exact cN.lt
 ·exact cN.mem
 ·exact cN.m0
 ·exact cN.frame
 ·exact cN.iP
 ·exact cN.jx
 ·exact cN.h7
def qT.of_wp {f : FuncId} {fn : Func} {c : Code} {args : List D} {eo : List (Nat × TypeId)} {H : List (List a7)} {R : Out → List (List a7) → Prop} (cz : fB P tt = true) (aW : P.funcs[f]? = some fn) (hb : fn.body = some c) (jM : decide (fn.name = "runtime.NumGoroutine") = false)
 (e7:Nat.ble args.length fn.ntmps=true) (h:a_ P fn.ntmps H.length c (tN tt H.length fn.results.toList R) {env:=hV args eo,H:=cQ 0 H,aX:=H.length}):qT P f args eo H R:=by
 refine⟨⟨fn,aW,by rw [hb];rfl,by simpa using jM⟩,?_⟩
 intro co w vs M β hlen N5 N6
 suffices key:∀K:Ctx,K.ds=[]→bN P K M β {env:=hV args eo,H:=cQ 0 H,aX:=H.length} ⟨vs⟩ w→(∀r b,β r=some b→K.lq r=some b)→
  Calls P f ⟨vs⟩ w λe w'=>∃o bP v M' β',R o bP∧e=tE o v∧bN P K M' β' {env:=iv o,H:=cQ 0 bP,aX:=H.length} #[v] w' from
  (key {co with ds:=[]} rfl (N5.vG []) N6).mono λe w' ⟨o,bP,v,M',β',Z,aa,aj⟩=>⟨o,bP,v,M',β',Z,aa,aj.vG co.ds⟩
 intro K h9 cN hC;have eF:∀r b,K.lq r=some b→r<H.length:=λr b hb=>cN.lt r b (cN.iP r b hb)
 simp only [Nat.ble_eq]at e7;have agj:=N4 (n:=fn.ntmps-(⟨vs⟩:Array Value).size) hlen cN;have agk:=h K eF {tmps:=(⟨vs⟩:Array Value)++Array.replicate (fn.ntmps-(⟨vs⟩:Array Value).size) undef,defers:=[]} w ⟨rfl,h9.symm,by simp;omega,M,β,agj⟩
 refine calls_of_wp aW hb (wp_mono agk ?_)
 have fin:∀(d':Act) (w':World) (b8:aK) M' β',bN P K M' β' b8 d'.tmps w'→(∃o bP,Ab.leave tt H.length fn.results.toList b8=some (o,bP)∧R o bP)→
  ∃v,(results fn d'.tmps).run P w' = .ok v w'∧∃o bP mX M' β',R o bP∧Ending.returned v=tE o mX∧bN P K M' β' {env:=iv o,H:=cQ 0 bP,aX:=H.length} #[mX] w':=by
  intro d' w' b8 M' β' hs ⟨o,bP,ab,gp⟩;obtain⟨v,Z,mX,BN,BO,aa,aj⟩:=Ce cz eF hs ab;exact⟨v,Z,o,bP,mX,BN,BO,gp,aa,aj⟩
 rintro e d' w' ⟨fO,b8,Z,aa⟩
 cases fO with
 |normal=>
  obtain⟨rfl,hd,_,M',β',hs⟩:=Z;exact⟨hd.trans h9,fin d' w' b8 M' β' hs aa⟩
 |ret=>
  obtain⟨rfl,hd,_,M',β',hs⟩:=Z;exact⟨hd.trans h9,fin d' w' b8 M' β' hs aa⟩
 |exit i=>exact aa.elim
 |bf x=>
  obtain⟨v,rfl,hd,M',β',gI,hs⟩:=Z;obtain⟨H1,ab,gp⟩:=aa;unfold GG at ab;split at ab
  case h_2=>cases ab
  rename_i cJ Cd;rw [Bool.cond_eq_ite]at ab;split at ab
  case isFalse=>cases ab
  rename_i hc;cases ab;obtain⟨Cf,nt⟩:=hs.leave (own:=none) Cd hc eF (.v v x gI) rfl (by simp)
  exact⟨hd.trans h9,.bf x,oe H1,v,M',Cf,gp,rfl,nt.era⟩
end
def k0:List Prop→Prop
 |[]=>True
 |p::l=>p∧k0 l
def k0.mem:∀{l:List Prop},k0 l→∀q,q∈l→q
 |[],_,q,h=>by cases h
 |p::l,hp,q,h=>by
  rcases List.mem_cons.1 h with rfl|h
  ·exact hp.1
  ·exact k0.mem hp.2 q h
section
variable {P:Program} {N E:Nat} {st:aK} {tt:dI}
def a_.cut{x y:Code}{Q:cp→aK→Prop}(J:aK→Prop)(Z:a_ P N E x (cp.then J Q) st)(aa:∀b8,J b8→a_ P N E y Q b8):a_ P N E (.seq x y) Q st:=
 a_.seq (Z.mono λfO b8 h=>by cases fO<;>first|exact aa b8 h|exact h)
def cp.o1{next:aK→Prop}{Q:cp→aK→Prop}(h:next st):cp.then next Q .normal st:=h
def cp.WT{next:aK→Prop}{Q:cp→aK→Prop}{x:V}(h:Q (.bf x) st):cp.then next Q (.bf x) st:=h
def cp.agl{Q:cp→aK→Prop}{i:Nat}(h:Q .normal st):cp.inBlock i Q (.exit i) st:=by simpa [cp.inBlock]using h
def cp.agm{Q:cp→aK→Prop}{i j:Nat}(dh:Nat.beq j i=false)(h:Q (.exit j) st):cp.inBlock i Q (.exit j) st:=by
 have:j≠i:=by rintro rfl;simp at dh
 simpa [cp.inBlock,this]using h
def agn {f : FuncId} {fn : Func} {c : Code} {args : List D} {eo : List (Nat × TypeId)} {H cJ : List (List a7)} {out : Out} (cz : fB P tt = true) (aW : P.funcs[f]? = some fn) (hb : fn.body = some c) (jM : decide (fn.name = "runtime.NumGoroutine") = false)
 (e7:Nat.ble args.length fn.ntmps=true) (h:a_ P fn.ntmps H.length c (tN tt H.length fn.results.toList λo bP=>o=out∧bP=cJ) {env:=hV args eo,H:=cQ 0 H,aX:=H.length}):gW P f args eo H out cJ:=
 qT.of_wp cz aW hb jM e7 h
def ago{rs:List ResultVar}{out:Out}{cJ:List (List a7)}(h:leave tt E rs st=some (out,cJ)):tN tt E rs (λo bP=>o=out∧bP=cJ) .ret st:=⟨out,cJ,h,rfl,rfl⟩
def N7{rs:List ResultVar}{out:Out}{cJ:List (List a7)}(h:leave tt E rs st=some (out,cJ)):tN tt E rs (λo bP=>o=out∧bP=cJ) .normal st:=⟨out,cJ,h,rfl,rfl⟩
def agp{rs:List ResultVar}{x:V}{cJ:List (List a7)}(h:(GG E st.H).map oe=some cJ):tN tt E rs (λo bP=>o = .bf x∧bP=cJ) (.bf x) st:=by
 rw [Option.map_eq_some_iff]at h;obtain⟨bP,Z,aa⟩:=h;exact⟨bP,Z,rfl,aa⟩
end
def ax{α:Type}(b:Bool)(x:Option α):Option α:=bif b then x else none
def ss{α:Type}{b:Bool}{x:Option α}{r:α}(h:ax b x=some r):b=true∧x=some r:=by
 cases b
 ·cases h
 ·exact⟨rfl,h⟩
def bind_some{α β:Type}{x:Option α}{f:α→Option β}{r:β}(h:Option.bind x f=some r):∃a,x=some a∧f a=some r:=Option.bind_eq_some_iff.1 h
def db{α:Type}{b:Bool}{x y z:α}(hb:b=true)(h:(bif b then x else y)=z):x=z:=by subst hb;exact h
def hl{c x:Bool}(h:(!c||x)=true)(hc:c=true):x=true:=by subst hc;simpa using h
def eR{c x:Bool}(h:(c||x)=true)(hc:c=false):x=true:=by subst hc;simpa using h
def ah{α:Type}[Inhabited α](k:Nat)(e:α→V)(l:List α):V:=.bH k l.length λi=>e (l.getD i default)
def ia(x:V):hA x x:=λ_ _ h=>h
def qZ{k n:Nat}{g e0:Nat→V}(h:∀i,i<n→g i=e0 i):hA (.bH k n g) (.bH k n e0):=by
 intro M v aw;cases aw with
 |md=>exact .md _ _
 |pC=>exact .pC _ _ _
 |bH b off k n cap g val hc hk cT Z ai=>
  exact .bH b off k n cap e0 val hc (λi hi=>by rw [←h i hi];exact hk i hi) cT Z (λi j c hi lX=>ai i j c hi (by rw [h i hi];exact lX))
def agq{α:Type}[Inhabited α]{k:Nat}{e:α→V}{xs:List V}{l:List α}(h:xs=l.map e)(n:Nat)(hn:n=l.length):hA (.bH k n λi=>xs.getD i .eA) (ah k e l):=by
 subst h;subst hn;refine qZ λi hi=>?_
 simp [List.getD,List.getElem?_eq_getElem hi]
def iw{α:Type}[Inhabited α]{k:Nat}{e:α→V}(l ke:List α):hA (.bH k (l.length+ke.length) λi=>bif Nat.blt i l.length then e (l.getD i default)else e (ke.getD (i-l.length) default)) (ah k e (l++ke)):=by
 rw [ah,List.length_append];refine qZ λi hi=>?_
 by_cases h:i<l.length
 ·have hb:Nat.blt i l.length=true:=by simpa using h
  simp [hb,List.getD,List.getElem?_append_left h]
 ·have hb:Nat.blt i l.length=false:=by rw [Bool.eq_false_iff];simpa using h
  simp [hb,List.getD,List.getElem?_append_right (Nat.le_of_not_lt h)]
def WU(l:List Int)(s:atW):hA (.bH 1 (l.length+s.length) λi=>bif Nat.blt i l.length then .int .u8 (l.getD i default)else .int .u8 (s.getD (i-l.length) 0).toNat) (ah 1 (λx=>.int .u8 x) (l++s.map λb=>(b.toNat:Int))):=by
 have ab:(l++s.map λb=>(b.toNat:Int)).length=l.length+s.length:=by simp
 rw [ah,ab];refine qZ λi hi=>?_
 by_cases h:i<l.length
 ·have hb:Nat.blt i l.length=true:=by simpa using h
  simp [hb,List.getD,List.getElem?_append_left h]
 ·have hb:Nat.blt i l.length=false:=by rw [Bool.eq_false_iff];simpa using h
  have aa:i-l.length<s.length:=by omega
  simp [hb,List.getD,List.getElem?_append_right (Nat.le_of_not_lt h),aa]
def WV{α:Type}[Inhabited α]{k:Nat}{e:α→V}(l:List α)(b:Int)(h:0≤b∧b≤l.length):hA (.bH k b.toNat λi=>e (l.getD i default)) (ah k e (l.take b.toNat)):=by
 have:(l.take b.toNat).length=b.toNat:=by simp;omega
 rw [ah,this];exact qZ λi hi=>by simp [List.getD,hi]
end Go.Ab

/- The abstract machine: a step of code over plain data, proved against the model. -/
import Derived.Laws.Build
import Derived.Laws.IdiomStrings
import Derived.Test.YtcjbfnojhpfchaaGreatDoorMachA
set_option linter.all false
namespace Go.Ab
def sc:Nat→List D→List (Nat×TypeId)→List a'
 |_,[],_=>[]
 |i,d::l,et=>{d,own:=look et i}::sc (i+1) l et
def h2(args:List D)(et:List (Nat×TypeId)):List (Nat×a'):=cZ 0 (sc 0 args et)
def B1:∀(l:List D) (k i:Nat) (et:List (Nat×TypeId)),(sc k l et)[i]? = (l[i]?).map λd=>({d,own:=look et (k+i)}:a')
 |[],k,i,et=>by simp [sc]
 |d::l,k,i,et=>by
  cases i with
  |zero=>simp [sc]
  |succ i=>
   simp only [sc,List.getElem?_cons_succ,B1 l (k+1) i et];rw [show k+1+i=k+(i+1)by omega]
def iH:Out→List (Nat×a')
 |.ret d own=>[(0,{d,own})]
 |.aK x=>[(0,{d:=.v x})]
def tJ:Out→Value→Ending
 |.ret _ _,v=>.returned v
 |.aK _,v=>.panicked [{v,recovered:=false}]
def qX(P:Program)(f:FuncId)(args:List D)(et:List (Nat×TypeId))(H:List (List a'))(R:Out→List (List a')→Prop):Prop:=
 (∃ fd, P.funcs[f]? = some fd ∧ fd.body.isSome = true ∧ fd.name ≠ "runtime.NumGoroutine") ∧
 ∀(K:Ctx) (w:World) (vs:List Value) (M:Mem) (β:Nat→Option Nat),vs.length=args.length→
  bV P K M β {env:=h2 args et,H:=cZ 0 H,aZ:=H.length} ⟨vs⟩ w→(∀r b,β r=some b→K.lK r=some b)→
  Calls P f ⟨vs⟩ w λe w'=>∃o b0 v M' β',R o b0∧e=tJ o v∧bV P K M' β' {env:=iH o,H:=cZ 0 b0,aZ:=H.length} #[v] w'
def qX.mono{P:Program}{f:FuncId}{args:List D}{et:List (Nat×TypeId)}{H:List (List a')}{R Wc:Out→List (List a')→Prop}(h:qX P f args et H R)(ai:∀o b0,R o b0→Wc o b0):qX P f args et H Wc:=
 ⟨h.1,λK w vs M β ae hs hb=>(h.2 K w vs M β ae hs hb).mono λ_ _ ⟨o,b0,v,M',β',Z,ab,aq⟩=>⟨o,b0,v,M',β',ai _ _ Z,ab,aq⟩⟩
def hq(P:Program)(f:FuncId)(args:List D)(et:List (Nat×TypeId))(H:List (List a'))(o:Out)(cS:List (List a')):Prop:=qX P f args et H λo' b0=>o'=o∧b0=cS
def jZ(P:Program):gL:={call:=hq P,eq:=Nn P}
def Wd{α:Type}:∀(l:List α) (n i:Nat),look (cZ n l) i=if n≤i then l[i-n]? else none
 |[],n,i=>by simp [cZ,look]
 |x::l,n,i=>by
  simp only [cZ,ee,Wd l (n+1) i];by_cases Z:n=i
  ·subst Z;simp
  ·rw [if_neg Z];by_cases ab:n≤i
   ·rw [if_pos (by omega),if_pos ab]
    obtain⟨j,rfl⟩:∃j,i=n+1+j:=⟨i-(n+1),by omega⟩
    rw [show n+1+j-(n+1)=j by omega,show n+1+j-n=j+1 by omega]
    simp
   ·rw [if_neg (by omega),if_neg ab]
def nn{α:Type}(l:List α)(i:Nat):look (cZ 0 l) i=l[i]? := by simp [Wd]
def GX:∀{ρ:List Nat} {r j:Nat},idx ρ r=some j→ρ[j]? = some r
 |[],_,_,h=>by simp [idx]at h
 |x::l,r,j,h=>by
  simp only [idx]at h;rw [Bool.cond_eq_ite]at h;split at h
  ·rename_i hb;cases h;simp at hb;simp [hb]
  ·simp only [Option.map_eq_some_iff]at h;obtain⟨k,hk,rfl⟩:=h;simpa using GX hk
def GY:∀{l:List Nat},nh l=true→∀(i j:Nat) r,l[i]? = some r→l[j]? = some r→i=j
 |[],_,i,_,_,h,_=>by simp at h
 |x::l,h,i,j,r,hi,hj=>by
  simp only [nh,Bool.and_eq_true,Bool.not_eq_true',List.any_eq_false]at h;have hx:∀k,l[k]? = some x→False:=λk hk=>by have:=h.1 x (List.mem_of_getElem? hk);simp at this
  cases i<;>cases j
  ·rfl
  ·simp at hi hj;subst hi;exact(hx _ hj).elim
  ·simp at hi hj;subst hj;exact(hx _ hi).elim
  ·simp at hi hj;rw [GY h.2 _ _ r hi hj]
def vO{H:List (Nat×List a')}:∀{ρ:List Nat} {bs:List (List a')},boxes H ρ=some bs→bs.length=ρ.length∧∀(j r:Nat),ρ[j]? = some r→look H r=bs[j]? ∧ (bs[j]?).isSome=true
 |[],bs,h=>by simp [boxes]at h;subst h;simp
 |x::ρ,bs,h=>by
  simp only [boxes]at h;split at h
  case h_2=>cases h
  rename_i b pZ hb lg;cases h;obtain⟨Z,ab⟩:=vO lg;refine⟨by simp [Z],λj r hj=>?_⟩
  cases j with
  |zero=>simp at hj;subst hj;simp [hb]
  |succ j=>simp at hj;simpa using ab j r hj
def yv{f:Nat→Option Nat}:∀{b bR:List a'},ng f b=some bR→bR.length=b.length∧∀(i:Nat) bp,bR[i]? = some bp→∃e,b[i]? = some e∧eD f e.d=some bp.d∧bp.own=e.own
 |[],bR,h=>by simp [ng]at h;subst h;simp
 |e::l,bR,h=>by
  simp only [ng]at h;split at h
  case h_2=>cases h
  rename_i e1 jb he ae;cases h;obtain⟨Z,ab⟩:=yv ae;refine⟨by simp [Z],λi bp hi=>?_⟩
  cases i with
  |zero=>
   simp at hi;subst hi
   simp only [GC,Option.map_eq_some_iff]at he;obtain⟨d,hd,rfl⟩:=he;exact⟨e,by simp,hd,rfl⟩
  |succ i=>simp at hi;simpa using ab i bp hi
def aeI{f:Nat→Option Nat}{d:D}{r off:Nat}{u:TypeId}(h:eD f d=some (.cA r off u)):∃gY,d = .cA gY off u:=by
 cases d with
 |cA gY aqD od=>
  simp only [eD,Option.map_eq_some_iff]at h;obtain⟨s,_,ab⟩:=h;cases ab;exact⟨gY,rfl⟩
 |v x=>simp [eD]at h
 |e' x=>simp [eD]at h
 |full k n get=>simp [eD]at h
 |ptr gY o=>simp [eD]at h
 |fn g c=>simp [eD]at h
 |agg c=>simp [eD]at h
 |bW c=>simp [eD]at h
def lL.eD{P:Program}{T:TypeId}{n:Nat}{f:Nat→Option Nat}{b bR:List a'}(h:lL P T n b)(ai:ng f b=some bR):lL P T n bR:=λe he r off u hd=>by
 obtain⟨i,hi,rfl⟩:=List.getElem_of_mem he;obtain⟨cc,Z,ab,_⟩:=(yv ai).2 i _ (List.getElem?_eq_getElem hi);rw [hd]at ab;obtain⟨gY,aq⟩:=aeI ab;exact h cc (List.mem_of_getElem? Z) gY off u aq
def yw{f:Nat→Option Nat}:∀{bs pZ:List (List a')},kr f bs=some pZ→pZ.length=bs.length∧∀(j:Nat) bR,pZ[j]? = some bR→∃b,bs[j]? = some b∧ng f b=some bR
 |[],pZ,h=>by simp [kr]at h;subst h;simp
 |b::l,pZ,h=>by
  simp only [kr]at h;split at h
  case h_2=>cases h
  rename_i df jb hb ae;cases h;obtain⟨Z,ab⟩:=yw ae;refine⟨by simp [Z],λj bR hj=>?_⟩
  cases j with
  |zero=>simp at hj;subst hj;exact⟨b,by simp,hb⟩
  |succ j=>simp at hj;simpa using ab j bR hj
def NT{H:List (Nat×List a')}:∀{ρ:List Nat} {bs:List (List a')},bs.length=ρ.length→nh ρ=true→∀r,
 (∀(j:Nat),ρ[j]? = some r→look (lJ ρ bs++H) r=bs[j]?)∧((∀(j:Nat),ρ[j]? ≠ some r)→look (lJ ρ bs++H) r=look H r)
 |[],bs,_,_,r=>by simp [lJ]
 |x::ρ,[],h,_,_=>by simp at h
 |x::ρ,b::bs,h,hn,r=>by
  have GK:nh ρ=true:=by simp [nh]at hn;exact hn.2
  obtain⟨Z,ab⟩:=NT (H:=H) (ρ:=ρ) (bs:=bs) (by simpa using h) GK r
  simp only [lJ,List.cons_append,ee];refine⟨λj hj=>?_,λhj=>?_⟩
  ·by_cases hx:x=r
   ·have:j=0:=GY hn j 0 r hj (by simp [hx])
    subst this;simp [hx]
   ·cases j with
    |zero=>simp at hj;exact(hx hj).elim
    |succ j=>simp at hj;rw [if_neg hx];simpa using Z j hj
  ·have hx:x≠r:=λe=>hj 0 (by simp [e])
   rw [if_neg hx];exact ab λj=>by simpa using hj (j+1)
section
variable {P:Program} {K:Ctx} {N:Nat} {M:Mem} {β:Nat→Option Nat} {st:aO} {g:dz} {tmps:Array Value} {w:World} {o:Oper} {f:lH} {p:Path} {tt:dT} {co:gL} {ops:List Oper}
def B2(ρ os:List Nat):Loc→Prop
 |.cell r _=>r∈ρ
 |.slot t=>t∈os
def qY(st:aO)(tmps:Array Value)(w:World)(β:Nat→Option Nat)(ρ os:List Nat)(b:Nat):Prop:=
 (∃r,r∈ρ∧β r=some b)∨∃l e T,B2 ρ os l∧st.at l=some e∧e.own=some T∧ia (cB tmps w β l)=some b
open Classical in
noncomputable def kR(M:Mem)(β:Nat→Option Nat)(st:aO)(tmps:Array Value)(w:World)(ρ os:List Nat):Ctx:=
 {BK:=M,F:=λb=>if qY st tmps w β ρ os b then none else w.heap[b]?,lK:=λj=>(ρ[j]?).bind β,h_:=(w.os,w.output)}
structure Handed(st:aO)(tmps:Array Value)(vs:List Value)(hd:List (Nat×Option Nat×TypeId)):Prop where
 some:∀i t T,(i,Option.some t,T)∈hd→∃e,st.at (.slot t)=Option.some e∧e.own=Option.some T∧vs[i]? = Option.some (tmps.getD t undef)
 none:∀i T,(i,Option.none,T)∈hd→vs[i]? = Option.some (.slice Option.none 0 0)
 inj:∀i j t T T',(i,Option.some t,T)∈hd→(j,Option.some t,T')∈hd→i=j
def tK(hd:List (Nat×Option Nat×TypeId)):List (Nat×TypeId):=hd.map λx=>(x.1,x.2.2)
def qZ(hd:List (Nat×Option Nat×TypeId)):List Nat:=hd.filterMap λx=>x.2.1
def aeJ{hd:List (Nat×Option Nat×TypeId)}{i:Nat}{T:TypeId}(h:look (tK hd) i=some T):∃o,(i,o,T)∈hd:=by
 have:=r0 h
 simp only [tK,List.mem_map]at this;obtain⟨⟨a,o,T'⟩,Z,ab⟩:=this;cases ab;exact⟨o,Z⟩
def aeK{hd:List (Nat×Option Nat×TypeId)}{i t:Nat}{T:TypeId}(h:(i,some t,T)∈hd):t∈qZ hd:=by
 simp only [qZ,List.mem_filterMap];exact⟨_,h,rfl⟩
def GZ(ρ:List Nat)(hd:List (Nat×Option Nat×TypeId))(T:TypeId):Loc→Loc→Prop
 |.cell j i,.cell r mT=>i=mT∧ρ[j]? = some r
 |.slot s,.slot t=>(s,some t,T)∈hd
 |_,_=>False
def We(h:bV P K M β st tmps w){ρ:List Nat}{bs H1:List (List a')}(hn:nh ρ=true)(lg:boxes st.H ρ=some bs)(mx:kr (idx ρ) bs=some H1){ds jU:List D}{vs:List Value}
 (hlen:vs.length=ds.length) (ax:∀(i:Nat) v d,vs[i]? = some v→ds[i]? = some d→cE M β v d) (e7:lI (idx ρ) ds=some jU) {hd:List (Nat×Option Nat×TypeId)} (vP:Handed st tmps vs hd):
 bV P (kR M β st tmps w ρ (qZ hd)) M (λj=>(ρ[j]?).bind β) {env:=h2 jU (tK hd),H:=cZ 0 H1,aZ:=H1.length} ⟨vs⟩ w:=by
 obtain⟨du,f7⟩:=vO lg;obtain⟨jG,jH⟩:=yw mx;obtain⟨aqE,aeL⟩:=yh e7
 have Wf:∀{v d dX},cE M β v d→eD (idx ρ) d=some dX→cE M (λj=>(ρ[j]?).bind β) v dX:=by
  intro v d dX hd jF;exact hd.eD (λr s b hs hb=>by rw [GX hs];simpa using hb) jF
 -- a cell of l' NU is a cell of ours
 have iv:∀j i bp,({env:=h2 jU (tK hd),H:=cZ 0 H1,aZ:=H1.length}:aO).at (.cell j i)=some bp→∃(r:Nat) (e:a'),ρ[j]? = some r∧st.at (.cell r i)=some e∧eD (idx ρ) e.d=some bp.d∧bp.own=e.own∧
  cB ⟨vs⟩ w (λj=>(ρ[j]?).bind β) (.cell j i)=cB tmps w β (.cell r i):=by
  intro j i bp he;simp only [aO.at,nn]at he;cases hj:H1[j]? with
  |none=>simp [hj]at he
  |some bR=>
   simp only [hj,Option.bind_some]at he;obtain⟨b,hb,oe⟩:=jH j bR hj;have vQ:j<ρ.length:=by have:=(List.getElem?_eq_some_iff.1 hb).1;omega
   have l_:ρ[j]? = some ρ[j]:=List.getElem?_eq_getElem vQ;obtain⟨ae,_⟩:=f7 j _ l_;obtain⟨_,NV⟩:=yv oe;obtain⟨e,sa,NW,NX⟩:=NV i bp he;exact⟨_,e,l_,by simp [aO.at,ae,hb,sa],NW,NX,by simp [cB,l_]⟩
 have Wg:∀s bp,({env:=h2 jU (tK hd),H:=cZ 0 H1,aZ:=H1.length}:aO).at (.slot s)=some bp→bp.own=look (tK hd) s∧∃v d,vs[s]? = some v∧ds[s]? = some d∧eD (idx ρ) d=some bp.d:=by
  intro s bp he;simp only [aO.at,h2,nn,B1,Option.map_eq_some_iff]at he;obtain⟨dX,jF,rfl⟩:=he;have hs:s<jU.length:=(List.getElem?_eq_some_iff.1 jF).1;have ic:ds[s]? = some ds[s]:=List.getElem?_eq_getElem (by omega)
  obtain⟨d1,gM,aeM⟩:=aeL s _ ic;rw [jF]at gM;cases gM;exact⟨by simp,_,_,List.getElem?_eq_getElem (by omega),ic,aeM⟩
 -- aqF 'own' place of l' NU is one of ours
 have G0:∀cQ bp T,({env:=h2 jU (tK hd),H:=cZ 0 H1,aZ:=H1.length}:aO).at cQ=some bp→bp.own=some T→
  cB ⟨vs⟩ w (λj=>(ρ[j]?).bind β) cQ = .slice none 0 0∨∃l e,GZ ρ hd T cQ l∧B2 ρ (qZ hd) l∧st.at l=some e∧e.own=some T∧cB ⟨vs⟩ w (λj=>(ρ[j]?).bind β) cQ=cB tmps w β l:=by
  intro cQ bp T ae aL;cases cQ with
  |slot s=>
   obtain⟨aw,v,d,Z,ab,aq⟩:=Wg s bp ae;rw [aw]at aL;obtain⟨o,hm⟩:=aeJ aL;have cx:cB (⟨vs⟩:Array Value) w (λj=>(ρ[j]?).bind β) (.slot s)=v:=by simp [cB,Z]
   cases o with
   |none=>
    have:=vP.none s T hm
    rw [Z]at this;cases this;exact .inl cx
   |some t=>
    obtain⟨e,aN,bn,cd⟩:=vP.some s t T hm;rw [Z]at cd;cases cd;exact .inr ⟨.slot t,e,hm,aeK hm,aN,bn,cx⟩
  |cell j i=>
   obtain⟨r,e,l_,he,_,gt,cx⟩:=iv j i bp ae;exact .inr ⟨.cell r i,e,⟨rfl,l_⟩,List.mem_of_getElem? l_,he,by rw [←gt,aL],cx⟩
 have aeN:∀T T' jb my l,GZ ρ hd T jb l→GZ ρ hd T' my l→jb=my:=by
  intro T T' jb my l Z ab;cases jb<;>cases my<;>cases l<;>simp only [GZ]at Z ab
  ·rw [vP.inj _ _ _ _ _ Z ab]
  ·obtain⟨rfl,aq⟩:=Z;obtain⟨rfl,aN⟩:=ab;rw [GY hn _ _ _ aq aN]
 have kS:∀j cs',look (cZ 0 H1) j=some cs'→∃(r:Nat) (cs:List a'),ρ[j]? = some r∧look st.H r=some cs∧cs.length=cs'.length∧∃f,ng f cs=some cs':=by
  intro j cs' hj;rw [nn]at hj;obtain⟨b,hb,oe⟩:=jH j cs' hj;have vQ:j<ρ.length:=by have:=(List.getElem?_eq_some_iff.1 hb).1;omega
  have l_:ρ[j]? = some ρ[j]:=List.getElem?_eq_getElem vQ;obtain⟨ae,_⟩:=f7 j _ l_;exact⟨_,b,l_,by rw [ae,hb],(yv oe).1.symm,_,oe⟩
 constructor
 ·intro l bp ae;cases l with
  |slot s=>
   obtain⟨_,v,d,Z,ab,aq⟩:=Wg s bp ae;have:=Wf (ax s v d Z ab) aq
   simpa [cB,Z]using this
  |cell j i=>
   obtain⟨r,e,l_,he,oe,_,cx⟩:=iv j i bp ae;rw [cx];exact Wf (h.fC _ e he) oe
 ·intro cQ bp T ae aL;rcases G0 cQ bp T ae aL with h0|⟨l,e,_,bJ,he,eo,cx⟩
  ·rw [h0];exact .inl rfl
  ·rw [cx];rcases h.own _ e T he eo with h0|⟨b,n,cap,lb,T',Z,ab,aq,aN,bn,cd,r9⟩
   ·exact .inl h0
   ·refine .inr ⟨b,n,cap,lb,T',Z,ab,aq,aN,bn,?_,r9⟩;simp only [kR];rw [if_pos];exact .inr ⟨l,e,T,bJ,he,eo,by rw [Z];rfl⟩
 ·intro jb my e1 e2 T T' b ae aL dR eo hb b2;rcases G0 jb e1 T ae aL with h0|⟨l,e,aA,bJ,he,NY,cx⟩
  ·rw [h0]at hb;cases hb
  rcases G0 my e2 T' dR eo with h0|⟨cQ,bp,dd,B0,sd,aeO,qQ⟩
  ·rw [h0]at b2;cases b2
  rw [cx]at hb;rw [qQ]at b2;have:=h.uniq _ _ e bp T T' b he NY sd aeO hb b2
  subst this;exact aeN _ _ _ _ _ aA dd
 ·intro cQ bp T b j cs' ae aL hb hj;rcases G0 cQ bp T ae aL with h0|⟨l,e,aA,bJ,he,NY,cx⟩
  ·rw [h0]at hb;cases hb
  rw [cx]at hb;obtain⟨r2,cs,aeP,ev,_⟩:=kS j cs' hj;have:=h.unbox _ e T b r2 cs he NY hb ev
  simpa [aeP]using this
 ·intro j cs' hj;obtain⟨r,cs,l_,ev,ae,f,aeQ⟩:=kS j cs' hj;obtain⟨b,lb,T,Z,ab,aq,aN,bn,cd⟩:=h.box r cs ev;refine⟨b,lb,T,by simp [l_,Z],ab,by omega,aN,?_,cd.1,cd.2.eD aeQ⟩
  simp only [kR];rw [if_pos];exact .inl ⟨r,List.mem_of_getElem? l_,Z⟩
 ·intro j vR b c mu hj G1 hb b2;obtain⟨r,cs,l_,ev,_⟩:=kS j c hj;obtain⟨dL,cs',Wh,vS,_⟩:=kS vR mu G1;have:r=dL:=h.inj r dL b cs cs' ev vS (by simpa [l_]using hb) (by simpa [Wh]using b2)
  subst this;exact GY hn j vR r l_ Wh
 ·intro j b hb;simp only [Option.bind_eq_some_iff]at hb;obtain⟨r,ai,_⟩:=hb;have:=(List.getElem?_eq_some_iff.1 ai).1
  show j<H1.length
  omega
 ·exact h.mem
 ·exact Mem.le_refl _
 ·intro b a7 hb;simp only [kR]at hb;split at hb
  ·cases hb
  ·exact⟨hb,λ_=>rfl⟩
 ·intro j b hb;exact hb
 ·refine h.jE.mono λb a7 d9=>?_
  have NZ:¬ qY st tmps w β ρ (qZ hd) b:=by
   rintro (⟨r,ai,mz⟩|⟨l,e,T,ai,he,aL,kN⟩)
   ·obtain⟨j,hj⟩:=List.getElem?_of_mem ai;obtain⟨ae,vT⟩:=f7 j r hj;obtain⟨cs,ev⟩:=Option.isSome_iff_exists.1 vT;obtain⟨hG,_,_,aq,_,_,_,aN,_⟩:=h.box r cs (by rw [ae,ev])
    rw [mz]at aq;cases aq;rw [aN]at d9;cases d9
   ·rw [(h.own _ e T he aL).free kN]at d9;cases d9
  simp only [kR];rw [if_neg NZ];exact(h.frame b a7 d9).1
 ·rfl
def aeR{ρ os:List Nat}{st:aO}{H:List (Nat×List a')}{n s:Nat}{e:a'}(ae:({env:=hD os st.env,H:=H,aZ:=n}:aO).at (.slot s)=some e):
 ∃cc,st.at (.slot s)=some cc∧cc.d=e.d∧(∀T,e.own=some T→cc.own=some T)∧∀T,e.own=some T→¬ B2 ρ os (.slot s):=by
 simp only [aO.at,ob]at ae;by_cases hs:s∈os
 ·rw [if_pos hs,Option.map_eq_some_iff]at ae;obtain⟨cc,Z,ab⟩:=ae;subst ab;exact⟨cc,Z,rfl,(λT aL=>by cases aL),(λT aL=>by cases aL)⟩
 ·rw [if_neg hs]at ae;exact⟨e,ae,rfl,(λT aL=>aL),(λT _=>hs)⟩
def N0(h:bV P K M β st tmps w){ρ:List Nat}{bs cS ja:List (List a')}(hn:nh ρ=true)(lg:boxes st.H ρ=some bs)(vU:kr (λj=>ρ[j]?) cS=some ja)(eY:cS.length=ρ.length)
 {os:List Nat} {out:Out} {v:Value} {w':World} {M':Mem} {β':Nat→Option Nat} (jr:bV P (kR M β st tmps w ρ os) M' β' {env:=iH out,H:=cZ 0 cS,aZ:=ρ.length} #[v] w'):
 M.le M'∧bV P K M' β {env:=hD os st.env,H:=lJ ρ ja++st.H,aZ:=st.aZ} tmps w'∧
 (∀d own,out = .ret d own→∀dX,eD (λj=>ρ[j]?) d=some dX→cE M' β v dX∧∀T l0,own=some T→nj P K M' β {env:=hD os st.env,H:=lJ ρ ja++st.H,aZ:=st.aZ} tmps w' l0 v T)∧
 (∀x,out = .aK x→di M' v x):=by
 obtain⟨du,f7⟩:=vO lg;obtain⟨jG,jH⟩:=yw vU;have c8:M.le M':=jr.m0;have hE:∀(j r b:Nat),ρ[j]? = some r→β r=some b→β' j=some b:=λj r b hj hb=>jr.jc j b (by simp [kR,hj,hb])
 have tL:∀(j r:Nat),ρ[j]? = some r→∃cs b,look st.H r=some cs∧β r=some b∧β' j=some b:=by
  intro j r hj;obtain⟨Z,ab⟩:=f7 j r hj;obtain⟨cs,ev⟩:=Option.isSome_iff_exists.1 ab;rw [ev]at Z;obtain⟨b,_,_,hb,_⟩:=h.box r cs Z;exact⟨cs,b,Z,hb,hE j r b hj hb⟩
 have Wi:∀{v d dX},cE M' β' v d→eD (λj=>ρ[j]?) d=some dX→cE M' β v dX:=by
  intro v d dX hd jF;refine hd.eD (λj r b hj hb=>?_) jF
  obtain⟨_,df,_,Z,ab⟩:=tL j r hj;rw [hb]at ab;cases ab;exact Z
 -- N1 is not qY is kept
 have B3:∀b,¬ qY st tmps w β ρ os b→b<w.heap.size→w'.heap[b]? = w.heap[b]? ∧ ∀o,M' b o=M b o:=by
  intro b hb bO
  have d9:(kR M β st tmps w ρ os).F b=some w.heap[b]:=by
   simp only [kR];rw [if_neg hb];exact Array.getElem?_eq_getElem bO
  obtain⟨Z,ab⟩:=jr.frame b _ d9;exact⟨by rw [Z,Array.getElem?_eq_getElem bO],ab⟩
 have Wj:∀b,(kR M β st tmps w ρ os).F b=none→K.F b=none:=by
  intro b hb;simp only [kR]at hb;split at hb
  ·rename_i hp;rcases hp with⟨r,ai,mz⟩|⟨l,e,T,ai,he,aL,kN⟩
   ·obtain⟨j,hj⟩:=List.getElem?_of_mem ai;obtain⟨cs,df,ev,du,_⟩:=tL j r hj;obtain⟨hG,_,_,Z,_,_,_,ab,_⟩:=h.box r cs ev;rw [mz]at Z;cases Z;exact ab
   ·exact(h.own _ e T he aL).free kN
  ·cases d9:K.F b with
   |none=>rfl
   |some a7=>have:=(h.frame b a7 d9).1;rw [hb]at this;cases this
 have hold:∀b,(kR M β st tmps w ρ os).F b=none→b<w.heap.size→qY st tmps w β ρ os b:=by
  intro b hb bO;simp only [kR]at hb;split at hb
  ·assumption
  ·rw [Array.getElem?_eq_getElem bO]at hb;cases hb
 -- aqG own boxes aeD aqH not handed on
 have G2:∀r cs b,look st.H r=some cs→(∀(j:Nat),ρ[j]? ≠ some r)→β r=some b→¬ qY st tmps w β ρ os b:=by
  intro r cs b ai jd hb hp;rcases hp with⟨dL,ge,b2⟩|⟨l,e,T,ge,he,aL,kN⟩
  ·obtain⟨j,hj⟩:=List.getElem?_of_mem ge;obtain⟨cs',_,vS,_⟩:=tL j dL hj;have:=h.inj r dL b cs cs' ai vS hb b2
   subst this;exact jd j hj
  ·exact h.unbox _ e T b r cs he aL kN ai hb
 have B4:∀r,(∃(j:Nat),ρ[j]? = some r∧look (lJ ρ ja++st.H) r=ja[j]?)∨((∀(j:Nat),ρ[j]? ≠ some r)∧look (lJ ρ ja++st.H) r=look st.H r):=by
  intro r;obtain⟨Z,ab⟩:=NT (H:=st.H) (ρ:=ρ) (bs:=ja) (by omega) hn r
  by_cases hj:∃(j:Nat),ρ[j]? = some r
  ·obtain⟨j,hj⟩:=hj;exact .inl ⟨j,hj,Z j hj⟩
  ·have:∀(j:Nat),ρ[j]? ≠ some r:=λj bJ=>hj ⟨j,bJ⟩
   exact .inr ⟨this,ab this⟩
 -- a place of l' new state: l' NU, or kept
 have gu:∀l e,({env:=hD os st.env,H:=lJ ρ ja++st.H,aZ:=st.aZ}:aO).at l=some e→
  (∃(j r i:Nat) (bp:a'),l = .cell r i∧ρ[j]? = some r∧({env:=iH out,H:=cZ 0 cS,aZ:=ρ.length}:aO).at (.cell j i)=some bp∧eD (λj=>ρ[j]?) bp.d=some e.d∧e.own=bp.own∧cB tmps w' β l=cB #[v] w' β' (.cell j i))∨
  (∃cc,st.at l=some cc∧cc.d=e.d∧(∀T,e.own=some T→cc.own=some T)∧cB tmps w' β l=cB tmps w β l∧(∀T,e.own=some T→¬ B2 ρ os l)):=by
  intro l e ae;cases l with
  |slot s=>
   obtain⟨cc,Z,ab,aq,aN⟩:=aeR ae;exact .inr ⟨cc,Z,ab,aq,rfl,aN⟩
  |cell r i=>
   rcases B4 r with⟨j,hj,ma⟩|⟨jd,ma⟩
   ·simp only [aO.at,ma]at ae;cases bJ:ja[j]? with
    |none=>simp [bJ]at ae
    |some bR=>
     simp only [bJ,Option.bind_some]at ae;obtain⟨b,hb,oe⟩:=jH j bR bJ;obtain⟨_,NV⟩:=yv oe;obtain⟨bp,sa,NW,NX⟩:=NV i e ae;obtain⟨_,df,_,du,vz⟩:=tL j r hj;exact .inl ⟨j,r,i,bp,rfl,hj,by simp [aO.at,nn,hb,sa],NW,NX,by simp [cB,du,vz]⟩
   ·simp only [aO.at,ma]at ae;refine .inr ⟨e,ae,rfl,λ_ h=>h,?_,λT _ bJ=>by obtain⟨j,hj⟩:=List.getElem?_of_mem bJ;exact jd j hj⟩
    cases ai:look st.H r with
    |none=>simp [ai]at ae
    |some cs=>
     obtain⟨b,_,_,hb,bJ,_⟩:=h.box r cs ai;simp only [cB,hb];rw [rZ (w:=w) (B3 b (G2 r cs b ai jd hb) (lt_of_heap bJ)).1]
 -- a kept 'own' aqI block is not qY
 have B5:∀l e T b,st.at l=some e→e.own=some T→¬ B2 ρ os l→ia (cB tmps w β l)=some b→¬ qY st tmps w β ρ os b:=by
  intro l e T b ae aL jd hb hp;rcases hp with⟨dL,ge,b2⟩|⟨cQ,bp,T',ge,he,eo,kN⟩
  ·obtain⟨j,hj⟩:=List.getElem?_of_mem ge;obtain⟨cs',_,vS,_⟩:=tL j dL hj;exact h.unbox l e T b dL cs' ae aL hb vS b2
  ·have:=h.uniq l _ e bp T T' b ae aL he eo hb kN
   subst this;exact jd ge
 -- l' NU 'own' blocks aqJ ours
 have B6:∀T u b,pS P (kR M β st tmps w ρ os).F M' w' T u→ia u=some b→∀bR,bR=b→bR<w.heap.size→qY st tmps w β ρ os bR:=by
  intro T u b aw hb bR qR bO;subst qR;exact hold bR (aw.free hb) bO
 have G3:∀r cs,look (lJ ρ ja++st.H) r=some cs→∃lQ,look st.H r=some lQ:=by
  intro r cs ai;rcases B4 r with⟨j,hj,_⟩|⟨_,ma⟩
  ·obtain⟨lQ,_,Z,_⟩:=tL j r hj;exact⟨lQ,Z⟩
  ·exact⟨cs,by rw [←ma];exact ai⟩
 have cT:bV P K M' β {env:=hD os st.env,H:=lJ ρ ja++st.H,aZ:=st.aZ} tmps w':=by
  constructor
  ·intro l e ae;rcases gu l e ae with⟨j,r,i,bp,rfl,hj,sd,oe,_,cx⟩|⟨cc,aw,B7,ld,cx,_⟩
   ·rw [cx];exact Wi (jr.fC _ bp sd) oe
   ·rw [cx,←B7];exact(h.fC l cc aw).mono c8
  ·intro l e T ae aL;rcases gu l e ae with⟨j,r,i,bp,rfl,hj,sd,_,gt,cx⟩|⟨cc,aw,B7,ld,cx,jd⟩
   ·rw [cx];rw [gt]at aL;rcases jr.own _ bp T sd aL with h0|⟨b,n,cap,lb,T',Z,ab,aq,aN,bn,cd,r9⟩
    ·exact .inl h0
    ·exact .inr ⟨b,n,cap,lb,T',Z,ab,aq,aN,bn,Wj b cd,r9⟩
   ·rw [cx];have jd:=jd T aL;have aL:=ld T aL;refine(h.own l cc T aw aL).congr (λb hb=>?_) (λb o' hb=>?_)
    ·exact(B3 b (B5 l cc T b aw aL jd hb) ((h.own l cc T aw aL).lt hb)).1
    ·exact(B3 b (B5 l cc T b aw aL jd hb) ((h.own l cc T aw aL).lt hb)).2 o'
  ·intro l cQ e1 e2 T T' b ae aL dR eo hb b2
   rcases gu l e1 ae with⟨j,r,i,x,rfl,hj,hx,_,gt,cx⟩|⟨cc,aw,B7,ld,cx,jd⟩ <;>
    rcases gu cQ e2 dR with⟨vR,dL,mT,B8,rfl,G1,yx,_,Wk,qQ⟩|⟨yk,la,aqK,BN,qQ,N2⟩
   ·rw [cx]at hb;rw [qQ]at b2;rw [gt]at aL;rw [Wk]at eo;have:=jr.uniq _ _ x B8 T T' b hx aL yx eo hb b2
    cases this;rw [hj]at G1;cases G1;rfl
   ·rw [cx]at hb;rw [qQ]at b2;rw [gt]at aL;have N2:=N2 T' eo;have eo:=BN T' eo;exact(B5 cQ yk T' b la eo N2 b2 (B6 T _ b (jr.own _ x T hx aL) hb b rfl ((h.own cQ yk T' la eo).lt b2))).elim
   ·rw [cx]at hb;rw [qQ]at b2;rw [Wk]at eo;have jd:=jd T aL;have aL:=ld T aL;exact(B5 l cc T b aw aL jd hb (B6 T' _ b (jr.own _ B8 T' yx eo) b2 b rfl ((h.own l cc T aw aL).lt hb))).elim
   ·rw [cx]at hb;rw [qQ]at b2;exact h.uniq l cQ cc yk T T' b aw (ld T aL) la (BN T' eo) hb b2
  ·intro l e T b r cs ae aL hb ai mz;obtain⟨lQ,mt⟩:=G3 r cs ai;rcases gu l e ae with⟨j,r1,i,x,rfl,hj,hx,_,gt,cx⟩|⟨cc,aw,B7,ld,cx,jd⟩
   ·rw [cx]at hb;rw [gt]at aL;rcases B4 r with⟨j2,se,ma⟩|⟨N3,_⟩
    ·have ab:∃c2,look (cZ 0 cS) j2=some c2:=by
      rw [nn];exact⟨_,List.getElem?_eq_getElem (by have:=(List.getElem?_eq_some_iff.1 se).1;omega)⟩
     obtain⟨c2,j'⟩:=ab;exact jr.unbox _ x T b j2 c2 hx aL hb j' (hE j2 r b se mz)
    ·obtain⟨df,_,_,du,bJ,_⟩:=h.box r lQ mt;rw [mz]at du;cases du;exact G2 r lQ b mt N3 mz (B6 T _ b (jr.own _ x T hx aL) hb b rfl (lt_of_heap bJ))
   ·rw [cx]at hb;exact h.unbox l cc T b r lQ aw (ld T aL) hb mt mz
  ·intro r cs ai;rcases B4 r with⟨j,hj,ma⟩|⟨jd,ma⟩
   ·rw [ma]at ai;obtain⟨c2,j',oe⟩:=jH j cs ai;obtain⟨lQ,o6,aeS,Wl,aeT⟩:=tL j r hj;obtain⟨b,lb,T,Z,ab,aq,aN,bn,cd⟩:=jr.box j c2 (by rw [nn];exact j')
    rw [aeT]at Z;cases Z;obtain⟨hG,_,_,ep,_,_,_,ek,_⟩:=h.box r lQ aeS;rw [Wl]at ep;cases ep;exact⟨o6,lb,T,Wl,ab,by rw [aq,(yv oe).1],aN,ek,cd.1,cd.2.eD oe⟩
   ·rw [ma]at ai;obtain⟨b,lb,T,Z,ab,aq,aN,bn,cd⟩:=h.box r cs ai;have hk:=B3 b (G2 r cs b ai jd Z) (lt_of_heap ab);exact⟨b,lb,T,Z,hk.1.trans ab,aq,λo'=>(hk.2 o').trans (aN o'),bn,cd⟩
  ·intro r dL b c mu ai ge hb b2;obtain⟨c0,mt⟩:=G3 r c ai;obtain⟨aeU,aeV⟩:=G3 dL mu ge;exact h.inj r dL b c0 aeU mt aeV hb b2
  ·exact h.lt
  ·exact jr.mem
  ·exact Mem.le_trans h.m0 c8
  ·intro b a7 d9;obtain⟨Z,ab⟩:=h.frame b a7 d9
   have NZ:¬ qY st tmps w β ρ os b:=by
    rintro (⟨r,ai,mz⟩|⟨l,e,T,ai,he,aL,kN⟩)
    ·obtain⟨j,hj⟩:=List.getElem?_of_mem ai;obtain⟨cs,_,ev,_⟩:=tL j r hj;obtain⟨hG,_,_,aq,_,_,_,aN,_⟩:=h.box r cs ev;rw [mz]at aq;cases aq;rw [aN]at d9;cases d9
    ·rw [(h.own _ e T he aL).free kN]at d9;cases d9
   have hk:=B3 b NZ (lt_of_heap Z);exact⟨hk.1.trans Z,λo'=>(hk.2 o').trans (ab o')⟩
  ·exact h.jc
  ·exact h.jE
  ·exact Eq.trans (show(w'.os,w'.output)=(w.os,w.output)from jr.h_) h.h_
 refine⟨c8,cT,λd own N4 dX jF=>?_,λx N4=>?_⟩
 ·subst N4;have js:=jr.fC (.slot 0) {d,own} (by simp [aO.at,iH,look])
  refine⟨Wi (by simpa [cB]using js) jF,λT l0 aL=>?_⟩
  have aw:=jr.own (.slot 0) {d,own} T (by simp [aO.at,iH,look]) aL
  simp only [cB]at aw;have la:pS P (kR M β st tmps w ρ os).F M' w' T v:=by simpa using aw
  refine⟨?_,λl e T' b ae eo _ hb b2=>?_,λb r cs hb ai mz=>?_⟩
  ·rcases la with h0|⟨b,n,cap,lb,T',Z,ab,aq,aN,bn,cd,r9⟩
   ·exact .inl h0
   ·exact .inr ⟨b,n,cap,lb,T',Z,ab,aq,aN,bn,Wj b cd,r9⟩
  ·rcases gu l e ae with⟨j,r,i,x,rfl,hj,hx,_,gt,cx⟩|⟨cc,N5,B7,ld,cx,jd⟩
   ·rw [cx]at b2;rw [gt]at eo;have:=jr.uniq (.slot 0) (.cell j i) {d,own} x T T' b (by simp [aO.at,iH,look]) aL hx eo (by simpa [cB]using hb) b2
    cases this
   ·rw [cx]at b2;have jd:=jd T' eo;have eo:=ld T' eo;exact B5 l cc T' b N5 eo jd b2 (B6 T v b la hb b rfl ((h.own l cc T' N5 eo).lt b2))
  ·obtain⟨lQ,mt⟩:=G3 r cs ai;rcases B4 r with⟨j2,se,ma⟩|⟨N3,_⟩
   ·have ab:∃c2,look (cZ 0 cS) j2=some c2:=by
     rw [nn];exact⟨_,List.getElem?_eq_getElem (by have:=(List.getElem?_eq_some_iff.1 se).1;omega)⟩
    obtain⟨c2,j'⟩:=ab;exact jr.unbox (.slot 0) {d,own} T b j2 c2 (by simp [aO.at,iH,look]) aL (by simpa [cB]using hb) j' (hE j2 r b se mz)
   ·obtain⟨df,_,_,du,bJ,_⟩:=h.box r lQ mt;rw [mz]at du;cases du;exact G2 r lQ b mt N3 mz (B6 T v b la hb b rfl (lt_of_heap bJ))
 ·subst N4;have js:=jr.fC (.slot 0) {d:=.v x} (by simp [aO.at,iH,look])
  have:=oc js
  simpa [cB]using this
end
def Wm{i:Int}{n:Nat}(h:aM i n=true):0≤i∧i<n:=by simpa [aM]using h
def vV{i:Int}{n:Nat}(h:hv i n=true):0≤i∧i≤n:=by simpa [hv]using h
def aeW{i:Int}{n:Nat}(h:0≤i∧i≤n):hv i n=true:=by simpa [hv]using h
def Wn{a b:Int}{n:Nat}(h:lG a b n=true):0≤a∧a≤b∧b≤n:=by simpa [lG]using h
def Wo{a:Int}(h:pN a=true):a≠0:=by simpa [pN]using h
def N6{n b:Nat}(h:room n b=true):n*b≤140737488355328:=by simpa [room]using h
def aeX{n:Nat}(h:b' n=true):n≤9223372036854775807:=by simpa [b']using h
section
variable {P:Program} {K:Ctx} {N:Nat} {M:Mem} {β:Nat→Option Nat} {st:aO} {g:dz} {tmps:Array Value} {w:World} {o:Oper} {f:lH} {p:Path} {tt:dT} {co:gL} {ops:List Oper}
def Wp:∀(l:List (Nat×a')) (s:Nat),look (pQ l) s=(look l s).map λe=>({d:=e.d}:a')
 |[],s=>rfl
 |(t,e)::l,s=>by
  simp only [pQ,ee];by_cases h:t=s
  ·simp [h]
  ·simp only [h,if_false];exact Wp l s
def bV.pQ{st:aO}(h:bV P K M β st tmps w){env:List (Nat×a')}(he:∀s e,look env s=some e→∃cc,look st.env s=some cc∧cc.d=e.d):bV P K M β {env:=Ab.pQ env,H:=st.H,aZ:=st.aZ} tmps w:=
 h.sub rfl (λl e ae=>by
  cases l with
  |slot s=>
   simp only [aO.at,Wp,Option.map_eq_some_iff]at ae;obtain⟨e1,Z,rfl⟩:=ae;obtain⟨cc,ab,aq⟩:=he s e1 Z;exact⟨cc,ab,aq,λ_ h=>by cases h⟩
  |cell r i=>exact⟨e,ae,rfl,λ_ h=>h⟩) (λr cs ai=>⟨cs,ai,rfl⟩)
def aeY(P:Program)(K:Ctx)(M:Mem)(β:Nat→Option Nat)(g:dz)(x:V)(hs:List (Nat×List a'))(o:Oper)(tmps:Array Value)(w:World):Prop:=
 (∃v,(execOp (Act.eval ⟨tmps,[]⟩) o).run P w = .halt (.panic v) w∧di M v x∧hs=[])∨
 (∃fn vs,(execOp (Act.eval ⟨tmps,[]⟩) o).run P w = .ok (.enter fn vs) w∧Calls P fn vs w λe w'=>∃v M' ,e = .panicked [{v,recovered:=false}]∧di M' v x∧
  bV P K M' β {env:=pQ g.env,H:=hs++g.H,aZ:=g.aZ} tmps w')
def aeZ{op:BinOp}{k:IntKind}{a b:Int}{x:V}{a7:List Prop}(h:M7 op k a b=some (x,a7))(cv:∀q,q∈a7→q)(t:TypeId):
 ∃v,(binOp op t (.int k a) (.int k b)).run P w = .ok v w∧di M v x:=by
 have fin:∀{s:Sem Value} {v:Value},s.run P w = .ok v w→di M v x→∃v,s.run P w = .ok v w∧di M v x:=λZ ab=>⟨_,Z,ab⟩
 cases op<;>simp only [M7,Option.some.injEq,Prod.mk.injEq,reduceCtorEq]at h<;>obtain⟨rfl,rfl⟩:=h
 case quo=>
  have hb:=Wo (cv _ (List.mem_singleton.2 rfl));refine fin (v:=.int k (k.wrap (a.tdiv b))) ?_ (.int _ _);simp [binOp,Op.intDiv,hb]
 case rem=>
  have hb:=Wo (cv _ (List.mem_singleton.2 rfl));refine fin (v:=.int k (a.tmod b)) ?_ (.int _ _);simp [binOp,Op.intDiv,hb]
 case add=>exact fin (v:=.int k (k.wrap (a+b))) (by simp [binOp,Op.intArith]) (.int _ _)
 case sub=>exact fin (v:=.int k (k.wrap (a-b))) (by simp [binOp,Op.intArith]) (.int _ _)
 case mul=>exact fin (v:=.int k (k.wrap (a*b))) (by simp [binOp,Op.intArith]) (.int _ _)
 case eql=>exact fin (v:=.bool (decide (a=b))) (by simp [binOp,Op.intCmp];rfl) (.bool _)
 case neq=>exact fin (v:=.bool (!decide (a=b))) (by simp [binOp,Op.intCmp];rfl) (.bool _)
 case lss=>exact fin (v:=.bool (decide (a<b))) (by simp [binOp,Op.intCmp]) (.bool _)
 case leq=>exact fin (v:=.bool (decide (a≤b))) (by simp [binOp,Op.intCmp]) (.bool _)
 case gtr=>exact fin (v:=.bool (decide (b<a))) (by simp [binOp,Op.intCmp]) (.bool _)
 case geq=>exact fin (v:=.bool (decide (b≤a))) (by simp [binOp,Op.intCmp]) (.bool _)
 case and=>exact fin (v:=.int k (pO k a b)) (by simp [binOp,Op.intBits,pO]) (.int _ _)
 case or=>exact fin (v:=.int k (rT k a b)) (by simp [binOp,Op.intBits,rT]) (.int _ _)
 case xor=>exact fin (v:=.int k (oY k a b)) (by simp [binOp,Op.intBits,oY]) (.int _ _)
 case andNot=>exact fin (v:=.int k (M5 k a b)) (by simp [binOp,Op.intBits,M5]) (.int _ _)
def ae0{op:BinOp}{k k':IntKind}{a b:Int}{x:V}{a7:List Prop}(h:M6 op k a b=some (x,a7))(cv:∀q,q∈a7→q)(t:TypeId):
 ∃v,(binOp op t (.int k a) (.int k' b)).run P w = .ok v w∧di M v x:=by
 unfold M6 at h;split at h
 ·simp only [Option.some.injEq,Prod.mk.injEq]at h;obtain⟨rfl,rfl⟩:=h;have hb:0≤b:=by simpa [n6]using cv (n6 b=true) (by simp)
  exact⟨.int k (rU k a b),by simp [binOp,Op.shift,show¬ b<0 by omega,rU],.int _ _⟩
 ·simp only [Option.some.injEq,Prod.mk.injEq]at h;obtain⟨rfl,rfl⟩:=h;have hb:0≤b:=by simpa [n6]using cv (n6 b=true) (by simp)
  exact⟨.int k (rV k a b),by simp [binOp,Op.shift,show¬ b<0 by omega,rV],.int _ _⟩
 ·cases h
def ae1{op:BinOp}{a b:arY}{x:V}{a7:List Prop}(h:M8 op a b=some (x,a7))(cv:∀q,q∈a7→q)(t:TypeId):
 ∃v,(binOp op t (.string ⟨⟨a⟩⟩) (.string ⟨⟨b⟩⟩)).run P w = .ok v w∧di M v x:=by
 have fin:∀{s:Sem Value} {v:Value},s.run P w = .ok v w→di M v x→∃v,s.run P w = .ok v w∧di M v x:=λZ ab=>⟨_,Z,ab⟩
 have q0:=GQ a;have yy:=GQ b;have he:(a == b)=decide (a=b):=by by_cases mZ:a=b<;>simp [mZ]
 cases op<;>simp only [M8,Option.some.injEq,Prod.mk.injEq,reduceCtorEq]at h<;>obtain⟨rfl,rfl⟩:=h
 case add=>
  have hb:=aeX (cv _ (List.mem_singleton.2 rfl));refine fin (v:=.string ⟨⟨a++b⟩⟩) ?_ (.str _)
  have ew:¬ ((((⟨⟨a⟩⟩:ByteArray).size+(⟨⟨b⟩⟩:ByteArray).size:Nat):Int) > IntKind.i64.max):=by
   have Z:(⟨⟨a⟩⟩:ByteArray).size=a.length:=rfl;have ab:(⟨⟨b⟩⟩:ByteArray).size=b.length:=rfl;have aq:IntKind.i64.max=9223372036854775807:=by decide
   rw [Z,ab,aq];omega
  simp only [binOp,Op.stringOp];rw [if_neg ew];simp;apply ByteArray.ext;simp
 case eql=>exact fin (v:=.bool (decide (a=b))) (by simp [binOp,Op.stringOp,q0,yy,he]) (.bool _)
 case neq=>exact fin (v:=.bool (!decide (a=b))) (by simp [binOp,Op.stringOp,q0,yy,he]) (.bool _)
 case lss=>exact fin (v:=.bool (Op.bytesLess a b)) (by simp [binOp,Op.stringOp,q0,yy]) (.bool _)
 case leq=>exact fin (v:=.bool (Op.bytesLess a b||decide (a=b))) (by simp [binOp,Op.stringOp,q0,yy,he]) (.bool _)
 case gtr=>exact fin (v:=.bool (!(Op.bytesLess a b||decide (a=b)))) (by simp [binOp,Op.stringOp,q0,yy,he]) (.bool _)
 case geq=>exact fin (v:=.bool (!Op.bytesLess a b)) (by simp [binOp,Op.stringOp,q0,yy]) (.bool _)
def ae2{t:TypeId}{aU:eS}(r:Row P t aU)(hk:aU.k = .ptr):∃e,r.desc = .pointer e:=by
 have:=r.hk
 rw [hk]at this;cases hd:r.desc<;>simp [hd,lN]at this;exact⟨_,rfl⟩
def ae3{t:TypeId}{aU:eS}(r:Row P t aU)(hk:aU.k = .oX):∃e,r.desc = .interface e:=by
 have:=r.hk
 rw [hk]at this;cases hd:r.desc<;>simp [hd,lN]at this;exact⟨_,rfl⟩
def ae4{t:TypeId}{aU:eS}(r:Row P t aU)(hk:aU.k = .bf):∃a b c,r.desc = .func a b c:=by
 have:=r.hk
 rw [hk]at this;cases hd:r.desc<;>simp [hd,lN]at this;exact⟨_,_,_,rfl⟩
def N7{t:TypeId}{aU:eS}(r:Row P t aU)(hk:aU.k = .bool):r.desc = .bool:=by
 have:=r.hk
 rw [hk]at this;cases hd:r.desc<;>simp [hd,lN]at this;rfl
def Wq{t:TypeId}{aU:eS}(r:Row P t aU){h1 yz:Value}{a b:D}{res:Bool}(ha:cE M β h1 a)(hb:cE M β yz b)(ae:GB aU.k b=true)(hn:isNil aU.k a=some res):
 (Op.equal t h1 yz).run P w = .ok res w∧(∀op,(binOp op t h1 yz)=match op with|.eql=>(do pure (.bool (←Op.equal t h1 yz)))|.neq=>(do pure (.bool (!(←Op.equal t h1 yz))))|_=>binOp op t h1 yz):=by
 obtain⟨dep,hm⟩:∃d,Op.maxDepth=d+1:=⟨9999,rfl⟩;unfold GB at ae;split at ae<;>try cases ae
 ·rename_i hk;cases oc hb
  obtain⟨e,hd⟩:=ae2 r hk;rw [hk]at hn;unfold isNil at hn;split at hn<;>simp_all
  ·cases oc ha
   refine⟨?_,λop=>by cases op<;>rfl⟩
   rw [Op.equal,hm,Op.equalIn];simp [r.run_underlying,hd]
  ·obtain⟨bR,_,rfl⟩:=r5 ha;subst hn;refine⟨?_,λop=>by cases op<;>rfl⟩
   rw [Op.equal,hm,Op.equalIn];simp [r.run_underlying,hd]
  ·obtain⟨bR,off,val,rfl,_⟩:=GN ha;subst hn;refine⟨?_,λop=>by cases op<;>rfl⟩
   rw [Op.equal,hm,Op.equalIn];simp [r.run_underlying,hd]
 ·rename_i hk;cases oc hb
  obtain⟨e,hd⟩:=ae3 r hk;rw [hk]at hn;unfold isNil at hn;split at hn<;>simp_all
  ·cases oc ha
   refine⟨?_,λop=>by cases op<;>rfl⟩
   rw [Op.equal,hm,Op.equalIn];simp [r.run_underlying,hd]
  ·obtain⟨u,rfl,_⟩:=Nq ha;subst hn;refine⟨?_,λop=>by cases op<;>rfl⟩
   rw [Op.equal,hm,Op.equalIn];simp [r.run_underlying,hd]
 ·rename_i hk;cases oc hb
  obtain⟨e1,e2,e3,hd⟩:=ae4 r hk;rw [hk]at hn;unfold isNil at hn;split at hn<;>simp_all
  ·cases oc ha
   refine⟨?_,λop=>by cases op<;>rfl⟩
   rw [Op.equal,hm,Op.equalIn];simp [r.run_underlying,hd]
  ·obtain⟨u,rfl,_⟩:=VG ha;subst hn;refine⟨?_,λop=>by cases op<;>rfl⟩
   rw [Op.equal,hm,Op.equalIn];simp [r.run_underlying,hd]
end
section
variable {P:Program} {K:Ctx} {N:Nat} {M:Mem} {β:Nat→Option Nat} {st:aO} {g:dz} {tmps:Array Value} {w:World} {o:Oper} {f:lH} {p:Path} {tt:dT} {co:gL} {ops:List Oper}
structure Hyp(P:Program)(K:Ctx)(N:Nat)(M:Mem)(β:Nat→Option Nat)(g:dz)(tmps:Array Value)(w:World)(p:Path)(tt:dT):Prop where
 bF:fX P K N M β g tmps w
 eb:f8 tmps p
 tt:fH P tt=true
def ae5(h:Hyp P K N M β g tmps w p tt){x:Operand}(aw:o.op = .move x)(hs:step1 co tt ops g p o=some (.go f)):Yields P K M β g f o tmps w:=by
 simp only [step1,aw]at hs;split at hs
 case h_2=>cases hs
 rename_i d hd
 repeat' (first|(split at hs)|(rw [Bool.cond_eq_ite]at hs))
 all_goals first
  |(cases hs;done)
  |(cases hs;exact VL h.bF h.eb (.inl aw) hd (by assumption))
  |(cases hs;exact GR h.bF h.eb (.inl aw) hd)
def ae6(h:Hyp P K N M β g tmps w p tt){x:Operand}(aw:o.op = .assign x)(hs:step1 co tt ops g p o=some (.go f)):Yields P K M β g f o tmps w:=by
 simp only [step1,aw]at hs;split at hs
 case h_2=>cases hs
 rename_i d hd;split at hs
 ·rename_i e t gt;rw [Bool.cond_eq_ite]at hs;split at hs<;>cases hs
  ·exact VL h.bF h.eb (.inr aw) hd gt
  ·exact GR h.bF h.eb (.inr aw) hd
 ·split at hs
  ·rw [Bool.cond_eq_ite]at hs;split at hs<;>cases hs
   ·exact aef h.bF h.eb aw hd _
   ·exact GR h.bF h.eb (.inr aw) hd
  ·cases hs
 ·cases hs;exact GR h.bF h.eb (.inr aw) hd
def ae7(h:Hyp P K N M β g tmps w p tt){c:Nat}{a b:Operand}(aw:o.op = .pick (.tmp c) a b)(hs:step1 co tt ops g p o=some (.go f)):Yields P K M β g f o tmps w:=by
 simp only [step1,aw]at hs;split at hs
 case h_2=>cases hs
 rename_i tx BG qO Z ab aq;cases hs;exact aeg h.bF h.eb aw Z ab aq
def ae8(h:Hyp P K N M β g tmps w p tt){t:TypeId}(aw:o.op = .alloc t)(hs:step1 co tt ops g p o=some (.go f)):Yields P K M β g f o tmps w:=by
 simp only [step1,aw]at hs;split at hs
 case h_2=>cases hs
 rename_i id nx hid;split at hs
 case h_2=>cases hs
 rename_i z cX;cases hs;exact aei h.bF h.tt aw cX hid
def ae9(h:Hyp P K N M β g tmps w p tt){t:TypeId}{x:Operand}(aw:o.op = .box t x)(hs:step1 co tt ops g p o=some (.go f)):Yields P K M β g f o tmps w:=by
 simp only [step1,aw]at hs;split at hs
 case h_2=>cases hs
 rename_i d id nx aU hd hid ae;rw [Bool.cond_eq_ite]at hs;split at hs<;>cases hs
 rename_i G4;simp only [Bool.or_eq_true,Bool.not_eq_true',not_or,Bool.not_eq_true,Bool.not_eq_false,Nat.beq_eq]at G4;exact aej h.bF h.eb aw hd G4.1.1 G4.1.2 h.tt ae G4.2 hid
def ae'(h:Hyp P K N M β g tmps w p tt){t:TypeId}{parts:Array (Nat×Operand)}(aw:o.op = .build t parts)(hs:step1 co tt ops g p o=some (.go f)):Yields P K M β g f o tmps w:=by
 simp only [step1,aw]at hs;split at hs
 ·rename_i cD fG kO zero _ bI ae gv;rw [Bool.cond_eq_ite]at hs;split at hs
  case isFalse=>cases hs
  rename_i nl;split at hs
  ·simp only [Option.map_eq_some_iff]at hs;obtain⟨d,⟨cs,ev,rfl⟩,hs⟩:=hs;cases hs;exact VW h.bF h.eb h.tt ae rfl nl aw gv (λr=>r.aem) ev
  ·simp only [Option.map_eq_some_iff]at hs;obtain⟨d,⟨cs,ev,rfl⟩,hs⟩:=hs;cases hs;exact VW h.bF h.eb h.tt ae rfl nl aw gv (λr=>r.VV) ev
 ·rename_i n e fG kO zero _ bI ae gv;split at hs
  case h_2=>cases hs
  rename_i am ae_ Wr z2 eY;simp only [Option.map_eq_some_iff]at hs;obtain⟨d,⟨cs,ev,rfl⟩,hs⟩:=hs;cases hs;exact aeo h.bF h.eb h.tt ae rfl eY aw gv ev
 ·cases hs
def afa(h:Hyp P K N M β g tmps w p tt){t:TypeId}{len:Nat}{parts:Array (Nat×Operand)}(aw:o.op = .buildSlice t len parts)(hs:step1 co tt ops g p o=some (.go f))(cv:∀q,q∈f.a7→q):Yields P K M β g f o tmps w:=by
 simp only [step1,aw]at hs;split at hs
 case h_2=>cases hs
 rename_i e fG kO zero _ bI ae gv;split at hs
 case h_2=>cases hs
 rename_i am ae_ Wr z2 eY;split at hs
 case h_2=>cases hs
 rename_i xs x rs hx eZ;rw [Bool.cond_eq_ite]at hs;split at hs
 case isFalse=>cases hs
 rename_i hc;simp only [Bool.and_eq_true,Nat.ble_eq,Nat.beq_eq]at hc;cases hs;exact aeq h.bF h.eb h.tt ae rfl eY aw gv hx hc.2 hc.1.2 hc.1.1 (cv _ (List.mem_singleton.2 rfl))
def afb(h:Hyp P K N M β g tmps w p tt){t:TypeId}{a:Operand}(aw:o.op = .load t a)(hs:step1 co tt ops g p o=some (.go f)):Yields P K M β g f o tmps w:=by
 simp only [step1,aw]at hs;split at hs
 ·rename_i q off aU ha ae;split at hs
  case h_2=>cases hs
  rename_i cs ao;rw [Bool.cond_eq_ite]at hs;split at hs
  ·rename_i jX;rw [Bool.cond_eq_ite]at hs;split at hs
   case isFalse=>cases hs
   rename_i hle;cases hs;exact aet h.bF h.eb h.tt ae aw ha ao jX (by simpa using hle)
  ·rename_i jX;split at hs
   case h_2=>cases hs
   rename_i e he;split at hs
   ·rename_i s rs gf eZ;rw [Bool.cond_eq_ite]at hs;split at hs<;>cases hs
    exact aev h.bF h.eb h.tt ae aw ha ao (by simpa using jX) he gf
   ·cases hs;exact aeu h.bF h.eb h.tt ae aw ha ao (by simpa using jX) he
 ·rename_i x aU ha ae;rw [Bool.cond_eq_ite]at hs;split at hs
  case isFalse=>cases hs
  rename_i hc;simp only [Bool.and_eq_true,beq_iff_eq,Nat.beq_eq]at hc;cases hs;exact aew h.bF h.eb h.tt ae aw ha hc.1 hc.2
 ·cases hs
def afc(h:Hyp P K N M β g tmps w p tt){t:TypeId}{a x:Operand}(aw:o.op = .store t a x)(hs:step1 co tt ops g p o=some (.go f)):Yields P K M β g f o tmps w:=by
 simp only [step1,aw]at hs;split at hs
 case h_2=>cases hs
 rename_i q off d aU ha hx ae;split at hs
 case h_2=>cases hs
 rename_i cs ao;rw [Bool.cond_eq_ite]at hs;split at hs
 case isFalse=>cases hs
 rename_i hc;simp only [Bool.and_eq_true,Nat.beq_eq,Nat.ble_eq,Bool.not_eq_true']at hc;obtain⟨⟨⟨⟨kw,j'⟩,_⟩,afd⟩,afe⟩:=hc;split at hs
 ·rename_i u s k n get gt;cases hs;simp only [pP,Option.bind_eq_some_iff]at gt;obtain⟨e,he,aL⟩:=gt;have ew:aU.size=1:=by rw [←kw];rfl
  exact V6 h.bF h.eb h.tt ae aw ha ao hx ew j' (l:=[u]) (h.bF.bF.hand he aL (.cell q off))
 ·split at hs
  ·cases hs;have mW:=hx;simp only [rd]at mW;split at mW
   ·cases mW;have ew:aU.size=1:=by rw [←kw];rfl
    exact V6 h.bF h.eb h.tt ae aw ha ao hx ew j' (l:=[]) (Nk _ _)
   ·cases mW
  ·cases hs
 ·cases hs;exact aey h.bF h.eb h.tt ae aw ha ao hx afd afe kw j' _
def aff(h:Hyp P K N M β g tmps w p tt){x:Operand}(aw:o.op = .nilCheck x)(hs:step1 co tt ops g p o=some (.go f)):Yields P K M β g f o tmps w:=by
 simp only [step1,aw]at hs;split at hs
 ·rename_i q off hd;cases hs;have ai:=er (ds:=[]) h.bF h.eb hd;obtain⟨b,_,ax⟩:=r5 ai;refine fb h.bF (v:=(⟨tmps,[]⟩:Act).eval x) ?_ ai;simp [execOp,aw,ax]
 ·rename_i y hd;cases hs;have ai:=er (ds:=[]) h.bF h.eb hd;obtain⟨b,off,val,ax,_⟩:=GN ai;refine fb h.bF (v:=(⟨tmps,[]⟩:Act).eval x) ?_ ai;simp [execOp,aw,ax]
 ·cases hs
def afg(h:Hyp P K N M β g tmps w p tt){op:UnOp}{t:TypeId}{x:Operand}(aw:o.op = .unOp op t x)(hs:step1 co tt ops g p o=some (.go f)):Yields P K M β g f o tmps w:=by
 simp only [step1,aw]at hs;split at hs
 case h_2=>cases hs
 rename_i a ha;simp only [Option.map_eq_some_iff]at hs;obtain⟨d,⟨B8,yx,rfl⟩,hs⟩:=hs;cases hs;have ai:=er (ds:=[]) h.bF h.eb ha;unfold Vu at yx;split at yx<;>cases yx
 ·have:=vD ai
  refine fb h.bF (v:=.bool _) ?_ (.v _ _ (.bool _));simp [execOp,aw,this,Op.unary]
 ·have:=mv ai
  refine fb h.bF (v:=.int _ _) ?_ (.v _ _ (.int _ _));simp [execOp,aw,this,Op.unary,Op.intArith]
def afh(h:Hyp P K N M β g tmps w p tt){s t:TypeId}{x:Operand}(aw:o.op = .convert s t x)(hs:step1 co tt ops g p o=some (.go f))(cv:∀q,q∈f.a7→q):Yields P K M β g f o tmps w:=by
 simp only [step1,aw]at hs;split at hs
 ·rename_i dM _ _ _ _ k _ _ _ _ fj n fc eY hd;cases hs;obtain⟨r1⟩:=eO h.tt fc;obtain⟨r2⟩:=eO h.tt eY;have ai:=mv (er (ds:=[]) h.bF h.eb hd);refine fb h.bF (v:=.int k (k.wrap n)) ?_ (.v _ _ (.int _ _));simp only [execOp,aw,ai];refine jI _ ?_;simp [convert,r1.run_underlying,r2.run_underlying,BP r1 rfl,BP r2 rfl,Conv.intToInt]
 ·rename_i _ _ _ _ _ _ _ _ l fc eY hd;cases hs;obtain⟨r1⟩:=eO h.tt fc;obtain⟨r2⟩:=eO h.tt eY;have ai:=mU (er (ds:=[]) h.bF h.eb hd);refine fb h.bF (v:=.string ⟨⟨l⟩⟩) ?_ (.v _ _ (.str _));simp only [execOp,aw,ai];refine jI _ ?_;simp [convert,r1.run_underlying,r2.run_underlying,qS r1 rfl,qS r2 rfl]
 ·rename_i e _ _ _ _ _ _ _ _ n get fc eY hd;split at hs
  case h_2=>cases hs
  rename_i l rs B9 eZ;cases hs;obtain⟨r1⟩:=eO h.tt fc;obtain⟨r2⟩:=eO h.tt eY;obtain⟨r3⟩:=eO h.tt B9;obtain⟨hlen,je⟩:=cv _ (List.mem_singleton.2 rfl);have ai:=er (ds:=[]) h.bF h.eb hd;refine fb h.bF (v:=.string ⟨⟨l⟩⟩) ?_ (.v _ _ (.str _));simp only [execOp,aw];refine jI _ ?_;rcases tE ai with⟨hn|⟨a,hn⟩,ax⟩|⟨b,off,cap,val,ax,hc,hk,c8,Z,gR⟩
  ·have hl0:l=[]:=List.eq_nil_of_length_eq_zero (hlen.trans ax);rw [hn,hl0];simp [convert,r1.run_underlying,r2.run_underlying,r3.run_underlying,pW r1 rfl,qS r2 rfl,BP r3 rfl,Conv.bytesToString];rfl
  ·have hl0:l=[]:=List.eq_nil_of_length_eq_zero (hlen.trans ax);rw [hn,hl0];exact run_convert_bytes_back w s t e a 0 [] (by rw [r1.hd,pW r1 rfl]) (by rw [r3.hd,BP r3 rfl]) (by rw [r2.hd,qS r2 rfl]) (λj hj=>by simp at hj)
  ·rw [ax,←hlen]
   have iv:∀j (hj:j<l.length),w.cell? ((⟨b,off,none⟩:Addr).add j)=some (.int .u8 (l[j].toNat:Int)):=by
    intro j hj;have N8:j<n:=by omega
    have e1:=je j N8;have e2:=gR j 0 (.int .u8 ((l.getD j 0).toNat:Int)) N8 (by rw [e1];rfl)
    have e3:val j 0 = .int .u8 ((l.getD j 0).toNat:Int):=by generalize val j 0=u at e2 ⊢;cases e2;rfl
    have gg:=h.bF.bF.mem _ _ _ (c8 j 0 N8 (by omega))
    rw [addr_add];have lh:off+j*1+0=off+j:=by omega
    rw [lh,e3]at gg;rw [gg];simp [List.getD,List.getElem?_eq_getElem hj]
   exact run_convert_bytes_back w s t e ⟨b,off,none⟩ cap l (by rw [r1.hd,pW r1 rfl]) (by rw [r3.hd,BP r3 rfl]) (by rw [r2.hd,qS r2 rfl]) iv
 ·cases hs
def afi(h:Hyp P K N M β g tmps w p tt){t:TypeId}{x:Operand}(aw:o.op = .makeInterface t x)(hs:step1 co tt ops g p o=some (.go f)):Yields P K M β g f o tmps w:=by
 simp only [step1,aw]at hs;split at hs
 case h_2=>cases hs
 rename_i y k fG kO z _ hd ae;obtain⟨r⟩:=eO h.tt ae;have ai:=er (ds:=[]) h.bF h.eb hd
 have hc:P.concrete t=true∨k = .oX:=by
  have hk:=r.hk;cases Ws:r.desc<;>simp [Ws,lN]at hk
  all_goals first
   |exact .inr hk.symm
   |(left;simp [Program.concrete,r.hd,Ws])
 split at hs
 ·cases hs
 ·rename_i hk;cases hs;rcases hc with hc|hc
  ·refine fb h.bF (v:=.iface t ((⟨tmps,[]⟩:Act).eval x)) ?_ (.v _ _ (.iface t _ _ (oc ai)));simp only [execOp,aw];exact jI _ (run_makeInterface w t _ hc)
  ·exact absurd hc hk
def afj(h:Hyp P K N M β g tmps w p tt){fn:FuncId}{first fh:Array Operand}(aw:o.op = .makeFunc (.func fn) first fh)(hs:step1 co tt ops g p o=some (.go f)):Yields P K M β g f o tmps w:=by
 simp only [step1,aw]at hs;rw [Bool.cond_eq_ite]at hs;split at hs
 case isFalse=>cases hs
 rename_i he;simp only [Option.map_eq_some_iff]at hs;obtain⟨ds,ic,hs⟩:=hs;cases hs;obtain⟨Z,ab⟩:=tG ic;have vM:first = #[]:=by simpa using he
 subst vM;refine fb h.bF (v:=.func (.func fn) #[] (fh.map (⟨tmps,[]⟩:Act).eval)) ?_ ?_
 ·simp [execOp,aw,Instr.makeFunc]
 ·have:fh.map (⟨tmps,[]⟩:Act).eval=⟨fh.toList.map (⟨tmps,[]⟩:Act).eval⟩:=by apply Array.ext';simp
  rw [this];refine .fn fn _ ds (by simp [Z]) λi v c ax hc=>?_
  simp only [List.getElem?_map,Option.map_eq_some_iff]at ax;obtain⟨y,ck,rfl⟩:=ax;exact er h.bF h.eb (ab i y c ck hc)
def afk(h:Hyp P K N M β g tmps w p tt){x:Operand}{i:Nat}(aw:o.op = .extract x i)(hs:step1 co tt ops g p o=some (.go f)):Yields P K M β g f o tmps w:=by
 simp only [step1,aw]at hs;split at hs
 case h_2=>cases hs
 rename_i ds hd;simp only [Option.map_eq_some_iff]at hs;obtain⟨d,tM,hs⟩:=hs;cases hs;obtain⟨vs,ax,hlen,ai⟩:=aea (er (ds:=[]) h.bF h.eb hd);have hi:i<ds.length:=(List.getElem?_eq_some_iff.1 tM).1;have fa:vs[i]? = some vs[i]:=List.getElem?_eq_getElem (by omega)
 refine fb h.bF (v:=vs[i]) ?_ (ai i _ d fa tM);simp only [execOp,aw,ax];refine jI _ ?_;simp [Instr.extract,fa]
end
section
variable {P:Program} {K:Ctx} {N:Nat} {M:Mem} {β:Nat→Option Nat} {st:aO} {g:dz} {tmps:Array Value} {w:World} {o:Oper} {f:lH} {p:Path} {tt:dT} {co:gL} {ops:List Oper}
def sf{op:BinOp}{t t2:TypeId}{x y:Operand}(aw:o.op = .binOp op t x y t2){a b v:Value}(hx:(⟨tmps,[]⟩:Act).eval x=a)(ck:(⟨tmps,[]⟩:Act).eval y=b)
 (hg:(eqGuard op t x y a b).run P w = .ok () w) (h:(binOp op t a b).run P w = .ok v w):(execOp (Act.eval ⟨tmps,[]⟩) o).run P w = .ok (.value v) w:=by
 simp only [execOp,aw,hx,ck];refine jI _ ?_;simp only [Sem.run_bind,hg,Result.andThen_ok,h]
def yA{op:BinOp}{t:TypeId}{x y:Operand}{a b:Value}(h:∀cs ds,¬ (a = .agg cs∧b = .agg ds))(ab:a = .nilIface→b = .nilIface→isConst y=true):(eqGuard op t x y a b).run P w = .ok () w:=by
 unfold eqGuard;cases op<;>try rfl
 all_goals
  simp only
  cases a<;>cases b<;>first
   |rfl
   |(exact absurd ⟨rfl,rfl⟩ (h _ _))
   |(have:=ab rfl rfl;cases y<;>simp [isConst]at this;simp)
def afl(cF:fH P tt=true){d:Nat}{h':TypeId}{B':List (Option mq)}{x y:V}{xs ys:List V}{h1 sg:Value}{r:Bool}
 (he:jo ((look tt h').map (·.k)::B') (x::xs) (y::ys)=some r) (B_:di M h1 x) (Ca:di M sg y):∃c q,(Op.equalIn (d+1) h' h1 sg).run P w = .ok c w∧jo B' xs ys=some q∧(c&&q)=r:=by
 cases ae:look tt h' with
 |none=>simp [ae,jo]at he
 |some aU=>
  obtain⟨row⟩:=eO cF ae;have q1:=row.hd;simp only [ae,Option.map_some]at he;unfold jo at he;split at he<;>simp only [List.cons.injEq,reduceCtorEq]at *
  case h_2 ks kk k a l k' b m e1 e2 e3=>
   obtain⟨e1,rfl⟩:=e1;obtain⟨rfl,rfl⟩:=e2;obtain⟨rfl,rfl⟩:=e3;cases B_;cases Ca
   rw [Bool.cond_eq_ite]at he;split at he
   case isFalse=>cases he
   rename_i hk;simp only [decide_eq_true_eq]at hk;subst hk;simp only [Option.map_eq_some_iff]at he;obtain⟨q,ao,ai⟩:=he;refine⟨decide (a=b),q,?_,ao,ai⟩
   have:∃sh,row.desc = .int sh:=by
    have:=row.hk
    rw [Option.some.inj e1]at this;cases hd:row.desc<;>simp [hd,lN]at this;exact⟨_,rfl⟩
   obtain⟨sh,ky⟩:=this;rw [ky]at q1;rw [run_equalIn_int w d h' k sh a b q1];rfl
  case h_3 ks a l b m e1 e2 e3=>
   obtain⟨e1,rfl⟩:=e1;obtain⟨rfl,rfl⟩:=e2;obtain⟨rfl,rfl⟩:=e3;cases B_;cases Ca
   simp only [Option.map_eq_some_iff]at he;obtain⟨q,ao,ai⟩:=he;refine⟨decide (a=b),q,?_,ao,ai⟩
   have:row.desc = .string:=qS row (Option.some.inj e1)
   rw [this]at q1;rw [run_equalIn_string w d h' _ _ q1,GQ,GQ];by_cases mZ:a=b<;>simp [mZ]
  case h_4 ks a l b m e1 e2 e3=>
   obtain⟨e1,rfl⟩:=e1;obtain⟨rfl,rfl⟩:=e2;obtain⟨rfl,rfl⟩:=e3;cases B_;cases Ca
   simp only [Option.map_eq_some_iff]at he;obtain⟨q,ao,ai⟩:=he;refine⟨(a == b),q,?_,ao,ai⟩
   have:row.desc = .bool:=N7 row (Option.some.inj e1)
   rw [this]at q1;rw [run_equalIn_bool' w d h' _ _ q1]
def og(P:Program)(cD:List Field):List (Nat×TypeId×Nat):=cD.map λf=>(f.offset,f.type,P.cellsOf f.type)
def G5:∀{dM am:List (Option mq)} {xs ys:List V} {r:Bool},jo (dM++am) xs ys=some r→
 ∃r1 r2,jo dM (xs.take dM.length) (ys.take dM.length)=some r1∧jo am (xs.drop dM.length) (ys.drop dM.length)=some r2∧(r1&&r2)=r∧dM.length≤xs.length∧dM.length≤ys.length∧∀k,k∈dM→k.isSome=true
 |[],am,xs,ys,r,h=>⟨true,r,by simp [jo],by simpa using h,rfl,Nat.zero_le _,Nat.zero_le _,λk hk=>by cases hk⟩
 |k::dM,am,xs,ys,r,h=>by
  simp only [List.cons_append]at h;unfold jo at h;split at h<;>simp only [List.cons.injEq,reduceCtorEq]at *
  ·rename_i ks kk k' a l aqL b m e1;obtain⟨rfl,rfl⟩:=e1;rw [Bool.cond_eq_ite]at h;split at h
   case isFalse=>cases h
   rename_i hk;simp only [Option.map_eq_some_iff]at h;obtain⟨q,ao,rfl⟩:=h;obtain⟨r1,r2,Z,ab,aq,aN,bn,cd⟩:=G5 ao;refine⟨decide (a=b)&&r1,r2,?_,ab,by rw [Bool.and_assoc,aq],by simpa using aN,by simpa using bn,λsh ky=>?_⟩
   ·simp only [List.length_cons,List.take_succ_cons,jo,hk,cond_true,Z,Option.map_some]
   ·rcases List.mem_cons.1 ky with rfl|ky
    ·rfl
    ·exact cd sh ky
  ·rename_i ks a l b m e1;obtain⟨rfl,rfl⟩:=e1;simp only [Option.map_eq_some_iff]at h;obtain⟨q,ao,rfl⟩:=h;obtain⟨r1,r2,Z,ab,aq,aN,bn,cd⟩:=G5 ao;refine⟨decide (a=b)&&r1,r2,?_,ab,by rw [Bool.and_assoc,aq],by simpa using aN,by simpa using bn,λsh ky=>?_⟩
   ·simp only [List.length_cons,List.take_succ_cons,jo,Z,Option.map_some]
   ·rcases List.mem_cons.1 ky with rfl|ky
    ·rfl
    ·exact cd sh ky
  ·rename_i ks a l b m e1;obtain⟨rfl,rfl⟩:=e1;simp only [Option.map_eq_some_iff]at h;obtain⟨q,ao,rfl⟩:=h;obtain⟨r1,r2,Z,ab,aq,aN,bn,cd⟩:=G5 ao;refine⟨(a == b)&&r1,r2,?_,ab,by rw [Bool.and_assoc,aq],by simpa using aN,by simpa using bn,λsh ky=>?_⟩
   ·simp only [List.length_cons,List.take_succ_cons,jo,Z,Option.map_some]
   ·rcases List.mem_cons.1 ky with rfl|ky
    ·rfl
    ·exact cd sh ky
def tN(tt:dT)(h':TypeId):Nat→List (Option mq)
 | 0=>[(look tt h').map (·.k)]
 |q+1=>match look tt h' with
  |some {k:=.ch gs,..}=>mQ tt q gs
  |o=>[o.map (·.k)]
def G6(q:Nat)(f:Field)(cD:List Field):mQ tt q (og P (f::cD))=tN tt f.type q++mQ tt q (og P cD):=by
 cases q with
 |zero=>rfl
 |succ q=>
  simp only [mQ,og,List.map_cons,List.flatMap_cons,tN];rfl
def Wt{t:TypeId}{aU:eS}(r:Row P t aU){gs:Array Field}(h:P.underlying t=some (.struct gs)):aU.k = .ch (og P gs.toList):=by
 have hd:r.desc = .struct gs:=Option.some.inj (r.hd.symm.trans h);have:=r.hk
 rw [hd]at this;simp [lN]at this;exact this.symm
def Wu{t:TypeId}{aU:eS}(r:Row P t aU){gs:List (Nat×TypeId×Nat)}(h:aU.k = .ch gs):∃cD:Array Field,P.underlying t=some (.struct cD)∧gs=og P cD.toList:=by
 have Z:=r.hk;rw [h]at Z;cases hd:r.desc<;>simp [hd,lN]at Z
 rename_i cD;refine⟨cD,?_,Z.symm⟩
 rw [r.hd,hd]
def Wv(cF:fH P tt=true){h':TypeId}(h:∀gs,P.underlying h'≠some (.struct gs))(q:Nat):tN tt h' q=[(look tt h').map (·.k)]:=by
 cases q with
 |zero=>rfl
 |succ q=>
  simp only [tN];split
  ·rename_i gs _ _ _ _ ae;obtain⟨row⟩:=eO cF ae;obtain⟨cD,Z,_⟩:=Wu row rfl;exact absurd Z (h cD)
  ·rfl
def N9(cF:fH P tt=true):∀(q:Nat) (cD:List Field),(∀k,k∈mQ tt q (og P cD)→k.isSome=true)→(mQ tt q (og P cD)).length=r4 P q cD
 | 0,cD,_=>by simp [mQ,og,r4]
 |q+1,[],_=>by simp [mQ,og,r4]
 |q+1,f::cD,h=>by
  rw [G6]at h ⊢;have aR:=N9 cF (q+1) cD λk hk=>h k (List.mem_append_right _ hk)
  have hc:r4 P (q+1) (f::cD)=(match P.underlying f.type with|some (.struct gs)=>r4 P q gs.toList|_=>1)+r4 P (q+1) cD:=by
   simp only [r4,List.map_cons,List.sum_cons];rfl
  rw [List.length_append,aR,hc]
  congr 1
  simp only [tN]at h ⊢;split
  ·rename_i gs _ _ _ _ ae;obtain⟨row⟩:=eO cF ae;obtain⟨Cb,Z,rfl⟩:=Wu row rfl;rw [Z];refine N9 cF q Cb.toList λk hk=>h k (List.mem_append_left _ ?_)
   rw [ae];exact hk
  ·rename_i o o7;cases aw:look tt f.type with
   |none=>
    have:=h none (List.mem_append_left _ (by rw [aw];simp))
    cases this
   |some aU=>
    obtain⟨row⟩:=eO cF aw;split
    ·rename_i gs hu;have:=Wt row hu
     obtain⟨k,s,b,z,ib⟩:=aU;simp only at this
     subst this;exact absurd aw (o7 _ _ _ _ _)
    ·rfl
def Ww (cF : fH P tt = true) {d : Nat} {f : Field} {cD : List Field} {i : Nat} {B' : List (Option mq)} {xs ys : List V} {vs us : List Value} {r : Bool} (tO : f.offset = i) (j_ : ¬ f.name = "_") (jX : (isAgg f.type).run P w = .ok false w)
 (he:jo ((look tt f.type).map (·.k)::B') xs ys=some r)
 (ax:∀(j:Nat) v x,vs[i+j]? = some v→xs[j]? = some x→di M v x) (hu:∀(j:Nat) v x,us[i+j]? = some v→ys[j]? = some x→di M v x) (hH:i+xs.length≤vs.length) (vH:i+ys.length≤us.length)
 (aR:∀(q:Bool),∀{Cc Cd:List V},jo B' Cc Cd=some q→(∀(j:Nat) v x,vs[i+1+j]? = some v→Cc[j]? = some x→di M v x)→(∀(j:Nat) v x,us[i+1+j]? = some v→Cd[j]? = some x→di M v x)→i+1+Cc.length≤vs.length→i+1+Cd.length≤us.length→(Op.eqFields (d+1) ⟨vs⟩ ⟨us⟩ cD).run P w = .ok q w):
 (Op.eqFields (d+1) ⟨vs⟩ ⟨us⟩ (f::cD)).run P w = .ok r w:=by
 cases xs with
 |nil=>simp [jo]at he
 |cons x xs=>
  cases ys with
  |nil=>simp [jo]at he
  |cons y ys=>
   simp only [List.length_cons]at hH vH;obtain⟨h1,fa⟩:∃h1,vs[i]? = some h1:=⟨_,List.getElem?_eq_getElem (by omega)⟩
   obtain⟨sg,Wx⟩:∃sg,us[i]? = some sg:=⟨_,List.getElem?_eq_getElem (by omega)⟩
   have B_:=ax 0 h1 x fa rfl;have Ca:=hu 0 sg y Wx rfl
   have G7:∀{zs:List Value} {z:Value},zs[i]? = some z→(part f.type ⟨zs⟩ f.offset).run P w = .ok z w:=by
    intro zs z cX;have:(⟨zs⟩:Array Value)[f.offset]? = some z:=by rw [tO];simpa using cX
    simp only [part,Sem.run_bind,jX,Result.andThen_ok,this];rfl
   obtain⟨c,q,Z,ab,aq⟩:=afl (P:=P) (w:=w) (M:=M) cF (d:=d) he B_ Ca;have aN:=aR q ab (λj v z Z ab=>ax (j+1) v z (by rw [←Z];congr 1;omega) (by simpa using ab)) (λj v z Z ab=>hu (j+1) v z (by rw [←Z];congr 1;omega) (by simpa using ab)) (by omega) (by omega)
   simp only [Op.eqFields];rw [if_pos j_];simp only [Sem.run_bind,G7 fa,G7 Wx,Result.andThen_ok,Z];cases c
   ·simp [←aq]
   ·simp [←aq,aN]
def afm(cF:fH P tt=true):∀(q:Nat) {d:Nat} {cD:List Field} {i:Nat} {xs ys:List V} {vs us:List Value} {r:Bool},vC P q i cD=true→jo (mQ tt q (og P cD)) xs ys=some r→
 (∀(j:Nat) v x,vs[i+j]? = some v→xs[j]? = some x→di M v x)→(∀(j:Nat) v x,us[i+j]? = some v→ys[j]? = some x→di M v x)→i+xs.length≤vs.length→i+ys.length≤us.length→
 (Op.eqFields (d+q+1) ⟨vs⟩ ⟨us⟩ cD).run P w = .ok r w:=by
 intro q;induction q with
 |zero=>
  intro d cD;induction cD with
  |nil=>intro i xs ys vs us r _ he _ _ _ _;cases xs<;>cases ys<;>simp [mQ,og,jo]at he;subst he;simp [Op.eqFields]
  |cons f cD aR=>
   intro i xs ys vs us r b5 he ax hu hH vH;simp only [vC,ym,Bool.and_eq_true,Nat.beq_eq,Bool.not_eq_true',decide_eq_false_iff_not]at b5;obtain⟨⟨tO,j_⟩,ho⟩:=b5
   have yB:(∀gs,P.underlying f.type≠some (.struct gs))∧vC P 0 (i+1) cD=true∧(isAgg f.type).run P w = .ok false w:=by
    simp only [isAgg,Sem.run_bind];split at ho
    ·rename_i k hk;refine⟨λgs h=>(by rw [hk]at h;cases h),ho,?_⟩;rw [Go.run_underlying hk];rfl
    ·rename_i hk;refine⟨λgs h=>(by rw [hk]at h;cases h),ho,?_⟩;rw [Go.run_underlying hk];rfl
    ·rename_i hk;refine⟨λgs h=>(by rw [hk]at h;cases h),ho,?_⟩;rw [Go.run_underlying hk];rfl
    ·simp at ho
    ·cases ho
   exact Ww cF tO j_ yB.2.2 (by rw [G6,Wv cF yB.1]at he;exact he) ax hu hH vH λq' Cc Cd pY o5 N' Z ab=>aR yB.2.1 pY o5 N' Z ab
 |succ q afn=>
  intro d cD;induction cD with
  |nil=>intro i xs ys vs us r _ he _ _ _ _;cases xs<;>cases ys<;>simp [mQ,og,jo]at he;subst he;simp [Op.eqFields]
  |cons f cD aR=>
   intro i xs ys vs us r b5 he ax hu hH vH;have N_:=b5;simp only [vC,ym,Bool.and_eq_true,Nat.beq_eq,Bool.not_eq_true',decide_eq_false_iff_not]at b5;obtain⟨⟨tO,j_⟩,ho⟩:=b5;by_cases dC:∃gs,P.underlying f.type=some (.struct gs)
   ·obtain⟨gs,yC⟩:=dC;rw [yC]at ho;simp only [Bool.and_eq_true,Bool.not_eq_true',Nat.beq_eq]at ho;obtain⟨⟨⟨afo,afp⟩,afq⟩,Wy⟩:=ho;rw [G6]at he;obtain⟨r1,r2,e1,e2,e3,jb,my,vT⟩:=G5 he
    have kS:∃aU,look tt f.type=some aU:=by
     cases ae:look tt f.type with
     |none=>have:=vT none (by simp [tN,ae]);cases this
     |some aU=>exact⟨aU,rfl⟩
    obtain⟨aU,G8⟩:=kS;obtain⟨row⟩:=eO cF G8;have hk:=Wt row yC
    have vP:tN tt f.type (q+1)=mQ tt q (og P gs.toList):=by
     obtain⟨k,s,b,z,ib⟩:=aU;simp only at hk
     subst hk;simp only [tN,G8]
    rw [vP]at e1 e2 jb my vT;have hn:=N9 cF q gs.toList vT;rw [hn,←afp]at e1 e2 jb my;generalize aY:P.cellsOf f.type=n at e1 e2 jb my
    obtain⟨info,GT⟩:=info_of_underlying yC
    have G7:∀zs:List Value,(part f.type ⟨zs⟩ f.offset).run P w = .ok (.agg ⟨(zs.drop i).take n⟩) w:=by
     intro zs
     have:(⟨zs⟩:Array Value).extract i (i+n)=⟨(zs.drop i).take n⟩:=by
      apply Array.ext';rw [Array.toList_extract];simp [List.extract]
     simp only [part,isAgg,Sem.run_bind,run_underlying yC,run_sizeOf w GT,Result.andThen_ok,Sem.run_pure,tO,aY];simp [this,run_sizeOf w GT,aY]
    have mS:∀{zs:List Value} {cs:List V},(∀(j:Nat) v x,zs[i+j]? = some v→cs[j]? = some x→di M v x)→∀(j:Nat) v x,((zs.drop i).take n)[0+j]? = some v→(cs.take n)[j]? = some x→di M v x:=by
     intro zs cs h j v x Z ab;rw [Nat.zero_add,List.getElem?_take]at Z;rw [List.getElem?_take]at ab;split at Z
     ·rename_i hj;rw [if_pos hj]at ab;rw [List.getElem?_drop]at Z;exact h j v x Z ab
     ·cases Z
    have yr:P.fieldsOf f.type=gs:=by simp [Program.fieldsOf,yC]
    have hin:(Op.equalIn (d+(q+1)+1) f.type (.agg ⟨(vs.drop i).take n⟩) (.agg ⟨(us.drop i).take n⟩)).run P w = .ok r1 w:=by
     rw [run_equalIn_agg w (d+(q+1)) f.type _ _ (by rw [yr];exact yC) afo,yr]
     exact afn (d:=d) (i:=0) afq e1 (mS ax) (mS hu) (by simp;omega) (by simp;omega)
    have Wz:∀{zs:List Value} {cs:List V},(∀(j:Nat) v x,zs[i+j]? = some v→cs[j]? = some x→di M v x)→∀(j:Nat) v x,zs[i+n+j]? = some v→(cs.drop n)[j]? = some x→di M v x:=by
     intro zs cs h j v x Z ab;rw [List.getElem?_drop]at ab;exact h (n+j) v x (by rw [←Nat.add_assoc];exact Z) ab
    rw [aY]at Wy;have jH:=aR (i:=i+n) Wy e2 (Wz ax) (Wz hu) (by simp;omega) (by simp;omega)
    simp only [Op.eqFields];rw [if_pos j_];simp only [Sem.run_bind,G7,Result.andThen_ok,hin];cases r1
    ·simp [←e3]
    ·simp [←e3,jH]
   ·have yB:vC P (q+1) (i+1) cD=true∧(isAgg f.type).run P w = .ok false w:=by
     simp only [isAgg,Sem.run_bind];split at ho
     ·rename_i k hk;refine⟨ho,?_⟩;rw [Go.run_underlying hk];rfl
     ·rename_i hk;refine⟨ho,?_⟩;rw [Go.run_underlying hk];rfl
     ·rename_i hk;refine⟨ho,?_⟩;rw [Go.run_underlying hk];rfl
     ·rename_i gs hk;exact absurd ⟨gs,hk⟩ dC
     ·cases ho
    exact Ww cF tO j_ yB.2 (by rw [G6,Wv cF (λgs h=>dC ⟨gs,h⟩)]at he;exact he) ax hu hH vH λq' Cc Cd pY o5 N' Z ab=>aR yB.1 pY o5 N' Z ab
def WA(cF:fH P tt=true){t:TypeId}{cD:List (Nat×TypeId×Nat)}{fG kO:Nat}{z:List V}{ib:List (Nat×TypeId)}(ae:look tt t=some {k:=.ch cD,size:=fG,bytes:=kO,zero:=z,jT:=ib})(he:Nn P t=true){xs ys:List V}{r:Bool}(ai:jo (mQ tt 4 cD) xs ys=some r)
 {h1 sg:Value} (ax:di M h1 (.agg xs)) (hu:di M sg (.agg ys)):∃vs us,h1 = .agg ⟨vs⟩∧sg = .agg ⟨us⟩∧(Op.equalIn 10000 t (.agg ⟨vs⟩) (.agg ⟨us⟩)).run P w = .ok r w∧∀op a b,(eqGuard op t a b (.agg ⟨vs⟩) (.agg ⟨us⟩)).run P w = .ok () w:=by
 obtain⟨row⟩:=eO cF ae;cases ax with
 |agg vs _ hn Z gR=>
  cases hu with
  |agg us _ GK ni afr=>
   refine⟨vs,us,rfl,rfl,?_⟩
   unfold Nn at he;split at he
   case h_2=>cases he
   rename_i Cb q1;simp only [Bool.and_eq_true,Bool.not_eq_true']at he;obtain⟨⟨ab,aq⟩,aN⟩:=he;have N_:P.fieldsOf t=Cb:=by simp [Program.fieldsOf,q1]
   have Oa:row.desc = .struct Cb:=Option.some.inj (row.hd.symm.trans q1)
   have nl:cD=Cb.toList.map λf=>(f.offset,f.type,P.cellsOf f.type):=by
    have:=row.hk
    rw [Oa]at this;simp [lN]at this;exact this.symm
   refine⟨?_,λop a b=>run_eqGuard_agg w op t a b _ _ aq⟩
   rw [run_equalIn_agg w 9999 t _ _ (by rw [N_];exact q1) ab,N_]
   refine afm cF 4 (d:=9994) (i:=0) (xs:=xs) (ys:=ys) aN (by rw [nl]at ai;exact ai) (λj v x bn cd=>gR j v x (by simpa using bn) cd) (λj v x bn cd=>afr j v x (by simpa using bn) cd) (by omega) (by omega)
def afs(h:Hyp P K N M β g tmps w p tt){op:BinOp}{t t2:TypeId}{x y:Operand}(aw:o.op = .binOp op t x y t2)(hs:step1 (jZ P) tt ops g p o=some (.go f))(cv:∀q,q∈f.a7→q):Yields P K M β g f o tmps w:=by
 simp only [step1,aw]at hs;split at hs
 case h_3=>cases hs
 case h_1=>
  rename_i xs ys ha hb;have p0:=oc (er (ds:=[]) h.bF h.eb ha);have o8:=oc (er (ds:=[]) h.bF h.eb hb);split at hs
  case h_2=>cases hs
  rename_i cD fG kO z _ ae;rw [Bool.cond_eq_ite]at hs;split at hs
  case isFalse=>cases hs
  rename_i he;split at hs
  ·rename_i r ai;cases hs;obtain⟨vs,us,e1,e2,Z,ab⟩:=WA (w:=w) (M:=M) h.tt ae he ai p0 o8;exact fb h.bF (sf aw e1 e2 (ab _ _ _) (by rw [run_eql_struct,Z];rfl)) (.v _ _ (.bool _))
  ·rename_i r ai;cases hs;obtain⟨vs,us,e1,e2,Z,ab⟩:=WA (w:=w) (M:=M) h.tt ae he ai p0 o8;exact fb h.bF (sf aw e1 e2 (ab _ _ _) (by rw [run_neq_struct,Z];rfl)) (.v _ _ (.bool _))
  ·cases hs
 rename_i a b ha hb;simp only [Option.map_eq_some_iff]at hs;obtain⟨⟨z,a7⟩,cX,hs⟩:=hs;cases hs;have p0:=er (ds:=[]) h.bF h.eb ha;have o8:=er (ds:=[]) h.bF h.eb hb;unfold Vt at cX;split at cX
 ·rename_i dM m am n;have e1:=mv p0;have e2:=mv o8;split at cX
  ·rename_i z0 hsh;cases cX;obtain⟨v,ax,ai⟩:=ae0 (P:=P) (w:=w) (M:=M) (k':=am) hsh cv t;exact fb h.bF (sf aw e1 e2 (yA (by simp) (by simp)) ax) (.v _ _ ai)
  rw [Bool.cond_eq_ite]at cX;split at cX
  case isFalse=>cases cX
  rename_i hk;simp only [decide_eq_true_eq]at hk;subst hk;obtain⟨v,ax,ai⟩:=aeZ (P:=P) (w:=w) (M:=M) cX cv t;exact fb h.bF (sf aw e1 e2 (yA (by simp) (by simp)) ax) (.v _ _ ai)
 ·have e1:=mU p0;have e2:=mU o8;obtain⟨v,ax,ai⟩:=ae1 (P:=P) (w:=w) (M:=M) cX cv t;exact fb h.bF (sf aw e1 e2 (yA (by simp) (by simp)) ax) (.v _ _ ai)
 ·rename_i df hG;have e1:=vD p0;have e2:=vD o8;obtain⟨dep,hm⟩:∃d,Op.maxDepth=d+1:=⟨9999,rfl⟩;cases ae:look tt t with
  |none=>rw [ae]at cX;simp at cX
  |some aU=>
   rw [ae]at cX;obtain⟨r⟩:=eO h.tt ae;split at cX<;>cases cX
   ·rename_i hk;simp at hk
    refine fb h.bF (v:=.bool (df == hG)) (sf aw e1 e2 (yA (by simp) (by simp)) ?_) (.v _ _ (.bool _))
    simp only [binOp,Sem.run_bind];rw [Op.equal,hm,Op.equalIn];simp [r.run_underlying,N7 r hk]
   ·rename_i hk;simp at hk
    refine fb h.bF (v:=.bool (!(df == hG))) (sf aw e1 e2 (yA (by simp) (by simp)) ?_) (.v _ _ (.bool _))
    simp only [binOp,Sem.run_bind];rw [Op.equal,hm,Op.equalIn];simp [r.run_underlying,N7 r hk]
 ·cases ae:look tt t with
  |none=>rw [ae]at cX;simp at cX
  |some aU=>
   rw [ae]at cX;simp only [Option.map_some]at cX;obtain⟨r⟩:=eO h.tt ae;rw [Bool.cond_eq_ite]at cX;split at cX
   case isFalse=>cases cX
   rename_i hc;simp only [Bool.and_eq_true]at hc
   have WB:(eqGuard op t x y ((⟨tmps,[]⟩:Act).eval x) ((⟨tmps,[]⟩:Act).eval y)).run P w = .ok () w:=by
    refine yA ?_ (λ_ _=>hc.2)
    rintro cs ds ⟨_,b2⟩
    rw [b2]at o8;have Ob:=hc.1;unfold GB at Ob;split at Ob<;>first|(cases oc o8;done)|(cases Ob;done)
   split at cX<;>cases cX
   ·rename_i res hn;obtain⟨Z,ab⟩:=Wq (w:=w) r p0 o8 hc.1 hn;refine fb h.bF (v:=.bool res) (sf aw rfl rfl WB ?_) (.v _ _ (.bool _));rw [ab .eql];simp [Z]
   ·rename_i res hn;obtain⟨Z,ab⟩:=Wq (w:=w) r p0 o8 hc.1 hn;refine fb h.bF (v:=.bool (!res)) (sf aw rfl rfl WB ?_) (.v _ _ (.bool _));rw [ab .neq];simp [Z]
def aft(h:Hyp P K N M β g tmps w p tt){s:TypeId}{x:Operand}{i:Nat}(aw:o.op = .fieldAddr s x i)(hs:step1 co tt ops g p o=some (.go f)):Yields P K M β g f o tmps w:=by
 simp only [step1,aw]at hs;split at hs
 ·rename_i q off cD fG kO z _ hd ae;obtain⟨r⟩:=eO h.tt ae;split at hs
  case h_2=>cases hs
  rename_i dU h' yD b5;rw [Bool.cond_eq_ite]at hs;split at hs
  case isFalse=>cases hs
  rename_i hc;cases hs;obtain⟨b,hb,ax⟩:=r5 (er (ds:=[]) h.bF h.eb hd);refine fb h.bF (v:=.pointer (some ⟨b,off+dU,none⟩)) ?_ (.ptr _ _ _ hb);simp only [execOp,aw,ax];exact jI _ (VJ r rfl b5 (by simpa using hc) b off)
 ·rename_i cs cD fG kO z _ hd ae;obtain⟨r⟩:=eO h.tt ae;split at hs
  case h_2=>cases hs
  rename_i dU h' yD b5;split at hs
  case h_2=>cases hs
  rename_i yq G9;rw [Bool.cond_eq_ite]at hs;split at hs
  case isFalse=>cases hs
  rename_i hc;simp only [Bool.and_eq_true,Nat.ble_eq]at hc;obtain⟨b,off,val,ax,c8,Z,ai⟩:=GN (er (ds:=[]) h.bF h.eb hd)
  have fi:(execOp (Act.eval ⟨tmps,[]⟩) o).run P w = .ok (.value (.pointer (some ⟨b,off+dU,none⟩))) w:=by
   simp only [execOp,aw,ax];exact jI _ (VJ r rfl b5 hc.1 b off)
  simp only [V.cells]at c8 Z ai;rw [Bool.cond_eq_ite]at hs;split at hs
  ·cases hs;have hlen:((cs.drop dU).take yD).length=yD:=by simp;omega
   refine fb h.bF fi (.e' b (off+dU) _ (λj=>val (dU+j)) (λj hj=>?_) (λj hj=>?_) (λj c hj=>?_))
   ·simp only [V.cells,hlen]at hj;rw [Nat.add_assoc];exact c8 _ (by omega)
   ·simp only [V.cells,hlen]at hj;exact Z _ (by omega)
   ·simp only [V.cells]at hj;rw [List.getElem?_take]at hj;split at hj
    ·rw [List.getElem?_drop]at hj;exact ai _ c hj
    ·cases hj
  ·rw [Bool.cond_eq_ite]at hs;split at hs
   case isFalse=>cases hs
   rename_i ew;split at hs
   case h_2=>cases hs
   rename_i c kw;rw [Bool.cond_eq_ite]at hs;split at hs
   ·cases hs
   ·rename_i afu;cases hs;have l7:=yp (x:=c) (by simpa using afu)
    refine fb h.bF fi (.e' b (off+dU) c (λj=>val (dU+j)) (λj hj=>?_) (λj hj=>?_) (λj mu hj=>?_))
    ·rw [l7]at hj;rw [Nat.add_assoc];exact c8 _ (by have:=(List.getElem?_eq_some_iff.1 kw).1;simp at hj;omega)
    ·rw [l7]at hj;exact Z _ (by have:=(List.getElem?_eq_some_iff.1 kw).1;simp at hj;omega)
    ·rw [l7]at hj;cases j with
     |zero=>simp at hj;subst hj;exact ai _ _ kw
     |succ j=>simp at hj
 ·cases hs
def afv(h:Hyp P K N M β g tmps w p tt){s:TypeId}{x:Operand}{i:Nat}(aw:o.op = .field s x i)(hs:step1 co tt ops g p o=some (.go f)):Yields P K M β g f o tmps w:=by
 simp only [step1,aw]at hs;split at hs
 case h_3=>cases hs
 case h_2=>
  rename_i cs cD fG kO z _ hd ae;obtain⟨r⟩:=eO h.tt ae;split at hs
  case h_2=>cases hs
  rename_i dU h' yD b5;split at hs
  case h_2=>cases hs
  rename_i yq c G9 kw;obtain⟨Oc⟩:=eO h.tt G9;rw [Bool.cond_eq_ite]at hs;split at hs
  ·cases hs
  rename_i hc;simp only [Bool.or_eq_true,not_or,Bool.not_eq_true,Bool.not_eq_true',Bool.not_eq_false,Nat.beq_eq]at hc;cases hs;have mb:=er (ds:=[]) h.bF h.eb hd;generalize vW:(⟨tmps,[]⟩:Act).eval x=h1 at mb
  cases mb with
  |agg vs _ hn Z ai=>
   have bO:dU<cs.length:=(List.getElem?_eq_some_iff.1 kw).1;have fa:vs[dU]? = some vs[dU]:=List.getElem?_eq_getElem (by omega)
   obtain⟨ha,hb⟩:=VK (w:=w) r rfl b5 Oc vs (by omega)
   refine fb h.bF (v:=vs[dU]) ?_ (ai _ _ c fa kw);simp only [execOp,aw,vW];exact jI _ (hb hc.1.1 _ fa)
 rename_i cs cD fG kO z _ hd ae;obtain⟨r⟩:=eO h.tt ae;split at hs
 case h_2=>cases hs
 rename_i dU h' yD b5;split at hs
 case h_2=>cases hs
 rename_i yq G9;obtain⟨Oc⟩:=eO h.tt G9;rw [Bool.cond_eq_ite]at hs;split at hs
 case isFalse=>cases hs
 rename_i hc;simp only [Nat.ble_eq]at hc;obtain⟨vs,ax,hlen,Z,ai⟩:=ad_ (er (ds:=[]) h.bF h.eb hd);obtain⟨ha,hb⟩:=VK (w:=w) r rfl b5 Oc vs (by omega)
 rw [Bool.cond_eq_ite]at hs;split at hs
 ·rename_i jX;cases hs;refine fb h.bF (v:=.agg ⟨(vs.drop dU).take yD⟩) ?_ (.v _ _ (.agg _ _ (by simp;omega) (λv ax=>Z v (List.mem_of_mem_drop (List.mem_of_mem_take ax))) (λj v c ax ku=>?_)))
  ·simp only [execOp,aw,ax];exact jI _ (ha jX)
  ·rw [List.getElem?_take]at ax ku;split at ax
   ·rename_i hj;rw [if_pos hj,List.getElem?_drop]at ku;rw [List.getElem?_drop]at ax;exact ai _ v c ax ku
   ·cases ax
 ·rename_i jX;split at hs
  case h_2=>cases hs
  rename_i c kw;cases hs;have bO:dU<cs.length:=(List.getElem?_eq_some_iff.1 kw).1;have fa:vs[dU]? = some vs[dU]:=List.getElem?_eq_getElem (by omega)
  refine fb h.bF (v:=vs[dU]) ?_ (.v _ _ (ai _ _ c fa kw));simp only [execOp,aw,ax];exact jI _ (hb (by simpa using jX) _ fa)
def afw{x y:V}(ax:hC x y){k b off:Nat}{val:Nat→Value}(hk:x.cells.length=k)(c8:∀q,q<k→M b (off+q)=some (val q))(Z:∀q,q<k→(val q).oneCell'=true)
 (ai:∀(q:Nat) c,x.cells[q]? = some c→di M (val q) c):cE M β (.pointer (some ⟨b,off,none⟩)) (.e' y):=by
 subst hk;have ck:=ax M _ (VH Z ai);cases hx:x.isAgg with
 |true=>
  rw [hx]at ck;simp only [cond_true]at ck;cases ck with
  |agg vs cs hn ni ge=>
   have hlen:cs.length=x.cells.length:=by simpa using hn.symm
   refine .e' b off _ val (λj hj=>c8 j (by simp only [V.cells]at hj;omega)) (λj hj=>Z j (by simp only [V.cells]at hj;omega)) (λj c hj=>?_)
   simp only [V.cells]at hj;have vQ:j<x.cells.length:=by have:=(List.getElem?_eq_some_iff.1 hj).1;omega
   exact ge j (val j) c (by simp [vQ]) hj
  |any _ ni=>simp [Value.oneCell']at ni
 |false=>
  rw [hx]at ck;simp only [cond_false]at ck;have yE:=yp hx;have jp:=Z 0 (by rw [yE];simp)
  have afx:y.isAgg=false:=by
   cases y<;>first|rfl|skip
   exfalso
   generalize val 0=u at ck jp
   cases ck;simp [Value.oneCell']at jp
  have Od:=yp afx;refine .e' b off y val (λj hj=>c8 j (by rw [yE];rw [Od]at hj;exact hj)) (λj hj=>Z j (by rw [yE];rw [Od]at hj;exact hj)) (λj c hj=>?_)
  rw [Od]at hj;cases j with
  |zero=>simp at hj;subst hj;exact ck
  |succ j=>simp at hj
def afy(h:Hyp P K N M β g tmps w p tt){t:TypeId}{x i:Operand}(aw:o.op = .indexAddr t x i)(hs:step1 co tt ops g p o=some (.go f))(cv:∀q,q∈f.a7→q):Yields P K M β g f o tmps w:=by
 simp only [step1,aw]at hs;split at hs
 case h_2=>cases hs
 rename_i k n get kk j e fG kO z _ hx hi ae;obtain⟨r⟩:=eO h.tt ae;split at hs
 case h_2=>cases hs
 rename_i am size Wr z2 eY;obtain⟨d'⟩:=eO h.tt eY;rw [Bool.cond_eq_ite]at hs;split at hs
 case isFalse=>cases hs
 rename_i hc;simp only [Bool.and_eq_true,Nat.beq_eq,Nat.ble_eq]at hc;obtain⟨rfl,afz⟩:=hc
 have li:∃(y:V) (rs:List fB) (a7:List Prop),f={e:=some {d:=.e' y},rs,a7}∧hC (get j.toNat) y∧aM j n=true:=by
  split at hs
  ·rename_i y rs eZ;cases hs;exact⟨_,_,_,rfl,cv _ (by simp),cv (aM j n=true) (by simp)⟩
  ·cases hs;exact⟨_,_,_,rfl,λ_ _ h=>h,cv (aM j n=true) (by simp)⟩
  ·cases hs
 obtain⟨y,rs,a7,rfl,du,f7⟩:=li;have f7:=Wm f7;have Oe:=mv (er (ds:=[]) h.bF h.eb hi);rcases tE (er (ds:=[]) h.bF h.eb hx) with⟨_,kx⟩|⟨b,off,cap,val,ax,_,hk,c8,Z,ai⟩
 ·omega
 ·have bO:j.toNat<n:=by omega
  have ck:cE M β (.pointer (some ⟨b,off+j.toNat*k,none⟩)) (.e' y):=
   afw du (hk _ bO) (λq ao=>c8 _ q bO ao) (λq ao=>Z _ q bO ao) (λq c ao=>ai _ q c bO ao)
  refine fb h.bF (v:=.pointer (some ⟨b,off+j.toNat*k,none⟩)) ?_ ck;simp only [execOp,aw,ax,Oe];exact jI _ (aed r rfl d' f7.1 f7.2)
def afA(h:Hyp P K N M β g tmps w p tt){t:TypeId}{x i:Operand}(aw:o.op = .index t x i)(hs:step1 co tt ops g p o=some (.go f))(cv:∀q,q∈f.a7→q):Yields P K M β g f o tmps w:=by
 simp only [step1,aw]at hs;split at hs
 case h_2=>cases hs
 rename_i l kk j fG kO z _ hx hi ae;obtain⟨r⟩:=eO h.tt ae;cases hs;have hb:=Wm (cv (aM j l.length=true) (by simp))
 have ex:=mU (er (ds:=[]) h.bF h.eb hx);have Oe:=mv (er (ds:=[]) h.bF h.eb hi);refine fb h.bF (v:=.int .u8 (l.getD j.toNat 0).toNat) ?_ (.v _ _ (.int _ _));simp only [execOp,aw,ex,Oe];exact jI _ (aee r rfl hb.1 hb.2)
def afB{k n m:Nat}{get:Nat→V}{a:Nat}{b off cap:Nat}
 {val:Nat→Nat→Value} (hk:∀i,i<n→(get i).cells.length=k) (c8:∀i j,i<n→j<k→M b (off+i*k+j)=some (val i j)) (Z:∀i j,i<n→j<k→(val i j).oneCell'=true)
 (ai:∀(i j:Nat) c,i<n→(get i).cells[j]? = some c→di M (val i j) c) (hm:a+m≤n) (hc:m≤cap):
 di M (.slice (some ⟨b,off+a*k,none⟩) m cap) (.bS k m λi=>get (a+i)):=by
 refine .bS b (off+a*k) k m cap _ (λi j=>val (a+i) j) hc (λi hi=>hk _ (by omega)) (λi j hi hj=>?_) (λi j hi hj=>Z _ _ (by omega) hj) (λi j c hi l7=>ai _ _ _ (by omega) l7)
 have:=c8 (a+i) j (by omega) hj
 rw [Nat.add_mul]at this
 rwa [show off+a*k+i*k+j=off+(a*k+i*k)+j by omega]
def G'{t e:TypeId}{aU cr:eS}(r:Row P t aU)(hk:aU.k = .bS e)(d':Row P e cr){base:Option Addr}{n cap:Nat}{lo hi:Option Value}{a b:Nat}
 (kz:lo=none∧a=0∨∃k,lo=some (.int k a)) (jJ:hi=none∧b=n∨∃k,hi=some (.int k b)) (mZ:a≤b) (q2:b≤n) (m3:n≤cap):
 (Instr.sliceAt t (.slice base n cap) lo hi none).run P w = .ok (.slice (if cap=a then base else base.map (·.add (a*cr.size))) (b-a) (cap-a)) w:=by
 have hu:=r.run_underlying w;rw [pW r hk]at hu;have G_:b≤cap:=by omega
 rcases kz with⟨rfl,rfl⟩|⟨dM,rfl⟩<;>rcases jJ with⟨rfl,rfl⟩|⟨am,rfl⟩
 ·simp [Instr.sliceAt,hu,Instr.slice,Instr.sliceBounds,d'.run_sizeOf]
 ·simp [Instr.sliceAt,hu,Instr.slice,Instr.sliceBounds,Instr.sliceBound,asIntOf,d'.run_sizeOf,G_]
 ·simp [Instr.sliceAt,hu,Instr.slice,Instr.sliceBounds,Instr.sliceBound,asIntOf,d'.run_sizeOf,mZ]
 ·simp [Instr.sliceAt,hu,Instr.slice,Instr.sliceBounds,Instr.sliceBound,asIntOf,d'.run_sizeOf,G_,mZ]
end
section
variable {P:Program} {K:Ctx} {N:Nat} {M:Mem} {β:Nat→Option Nat} {st:aO} {g:dz} {tmps:Array Value} {w:World} {o:Oper} {f:lH} {p:Path} {tt:dT} {co:gL} {ops:List Oper}
def si{t:TypeId}{x:Operand}{lo hi kt:Option Operand}(aw:o.op = .slice t x lo hi kt){v u:Value}(hx:(⟨tmps,[]⟩:Act).eval x=v){a b:Option Value}(ha:lo.map (⟨tmps,[]⟩:Act).eval=a)(hb:hi.map (⟨tmps,[]⟩:Act).eval=b){c:Option Value}(hm:kt.map (⟨tmps,[]⟩:Act).eval=c)
 (h:(Instr.sliceAt t v a b c).run P w = .ok u w):(execOp (Act.eval ⟨tmps,[]⟩) o).run P w = .ok (.value u) w:=by
 simp only [execOp,aw,hx,ha,hb,hm];exact jI _ h
def Ha{t:TypeId}{aU:eS}(r:Row P t aU)(hk:aU.k = .str){l:arY}{lo hi:Option Value}{a b:Nat}
 (kz:lo=none∧a=0∨∃k,lo=some (.int k a)) (jJ:hi=none∧b=l.length∨∃k,hi=some (.int k b)) (mZ:a≤b) (q2:b≤l.length):
 (Instr.sliceAt t (.string ⟨⟨l⟩⟩) lo hi none).run P w = .ok (.string ⟨⟨(l.take b).drop a⟩⟩) w:=by
 have hu:=r.run_underlying w;rw [qS r hk]at hu;have hs:(⟨⟨l⟩⟩:ByteArray).size=l.length:=rfl
 have hx:(⟨⟨l⟩⟩:ByteArray).extract a b=⟨⟨(l.take b).drop a⟩⟩:=by
  have:=ByteArray.extract_mk l a b
  rw [List.drop_take];exact this
 rcases kz with⟨rfl,rfl⟩|⟨dM,rfl⟩<;>rcases jJ with⟨rfl,rfl⟩|⟨am,rfl⟩
 ·simp [Instr.sliceAt,hu,Instr.slice,Instr.sliceBounds]
 ·simp [Instr.sliceAt,hu,Instr.slice,Instr.sliceBounds,Instr.sliceBound,asIntOf,q2,hs,hx]
 ·simp [Instr.sliceAt,hu,Instr.slice,Instr.sliceBounds,Instr.sliceBound,asIntOf,mZ,hs,hx]
 ·simp [Instr.sliceAt,hu,Instr.slice,Instr.sliceBounds,Instr.sliceBound,asIntOf,q2,mZ,hs,hx]
def Ce{v:Value}{k n:Nat}{get:Nat→V}(ax:cE M β v (.v (.bS k n get))){a b:Nat}(mZ:a≤b)(q2:b≤n){base:Option Addr}{cap:Nat}(vX:v = .slice base n cap)(m3:n≤cap):
 di M (.slice (if cap=a then base else base.map (·.add (a*k))) (b-a) (cap-a)) (.bS k (b-a) λi=>get (a+i)):=by
 rcases tE ax with⟨Z|⟨a0,Z⟩,ab⟩|⟨o6,off,V',val,Z,hc,hk,c8,ni,ai⟩
 ·rw [vX]at Z;cases Z;have:b=0:=by omega
  subst this;have:a=0:=by omega
  subst this;exact .mP _ _
 ·rw [vX]at Z;cases Z;have:b=0:=by omega
  subst this;have:a=0:=by omega
  subst this;exact .qL _ _ _
 ·rw [vX]at Z;cases Z;by_cases WC:cap=a
  ·rw [if_pos WC];have:b-a=0:=by omega
   rw [this];exact .bS o6 off k 0 _ _ (λ_ _=>undef) (Nat.zero_le _) (by simp) (by simp) (by simp) (by simp)
  ·rw [if_neg WC];simp only [Option.map_some,addr_add];exact afB hk c8 ni ai (by omega) (by omega)
def afC(h:Hyp P K N M β g tmps w p tt){t:TypeId}{x:Operand}{lo hi kt:Option Operand}(aw:o.op = .slice t x lo hi kt)(hs:step1 co tt ops g p o=some (.go f))(cv:∀q,q∈f.a7→q):Yields P K M β g f o tmps w:=by
 have fR:∀{y:Option Operand} {kk:IntKind} {n:Int},y.map (λy=>rd g.env g.ca p tt o.type y)=some (some (.v (.int kk n)))→y.map (⟨tmps,[]⟩:Act).eval=some (.int kk n):=by
  intro y kk n ck;cases y with
  |none=>simp at ck
  |some y=>
   simp at ck
   simp [mv (er (ds:=[]) h.bF h.eb ck)]
 have tP:∀{y:Option Operand},y.map (λy=>rd g.env g.ca p tt o.type y)=none→y.map (⟨tmps,[]⟩:Act).eval=none:=by
  intro y ck;simp at ck;simp [ck]
 simp only [step1,aw]at hs;split at hs
 ·rename_i fG kO z _ ae;obtain⟨r⟩:=eO h.tt ae;split at hs
  ·rename_i l hx kz jJ;cases hs;have ex:=mU (er (ds:=[]) h.bF h.eb hx);have:=Ha (w:=w) r rfl (l:=l) (lo:=none) (hi:=none) (a:=0) (b:=l.length) (.inl ⟨rfl,rfl⟩) (.inl ⟨rfl,rfl⟩) (by omega) (by omega)
   simp at this
   exact fb h.bF (si aw ex (tP kz) (tP jJ) rfl this) (.v _ _ (.str _))
  ·rename_i l dM a hx kz jJ;cases hs;have ex:=mU (er (ds:=[]) h.bF h.eb hx);have hb:=vV (cv (hv a l.length=true) (by simp))
   obtain⟨dH,rfl⟩:=Int.eq_ofNat_of_zero_le hb.1;have:=Ha (w:=w) r rfl (l:=l) (lo:=some (.int dM dH)) (hi:=none) (a:=dH) (b:=l.length) (.inr ⟨_,rfl⟩) (.inl ⟨rfl,rfl⟩) (by omega) (by omega)
   simp at this
   exact fb h.bF (si aw ex (fR kz) (tP jJ) rfl this) (.v _ _ (.str _))
  ·rename_i l am b hx kz jJ;cases hs;have ex:=mU (er (ds:=[]) h.bF h.eb hx);have hb:=vV (cv (hv b l.length=true) (by simp))
   obtain⟨bR,rfl⟩:=Int.eq_ofNat_of_zero_le hb.1;have:=Ha (w:=w) r rfl (l:=l) (lo:=none) (hi:=some (.int am bR)) (a:=0) (b:=bR) (.inl ⟨rfl,rfl⟩) (.inr ⟨_,rfl⟩) (by omega) (by omega)
   simp at this
   exact fb h.bF (si aw ex (tP kz) (fR jJ) rfl this) (.v _ _ (.str _))
  ·rename_i l dM a am b hx kz jJ;cases hs;have ex:=mU (er (ds:=[]) h.bF h.eb hx);have hb:=Wn (cv (lG a b l.length=true) (by simp))
   obtain⟨dH,rfl⟩:=Int.eq_ofNat_of_zero_le hb.1;obtain⟨bR,rfl⟩:=Int.eq_ofNat_of_zero_le (a:=b) (by omega)
   have:=Ha (w:=w) r rfl (l:=l) (lo:=some (.int dM dH)) (hi:=some (.int am bR)) (a:=dH) (b:=bR) (.inr ⟨_,rfl⟩) (.inr ⟨_,rfl⟩) (by omega) (by omega)
   exact fb h.bF (si aw ex (fR kz) (fR jJ) rfl this) (.v _ _ (.str _))
  ·cases hs
 ·rename_i e fG kO z _ ae;obtain⟨r⟩:=eO h.tt ae;split at hs
  ·rename_i dM size Cf lj k n get am a eY hx kz jJ;obtain⟨d'⟩:=eO h.tt eY;rw [Bool.cond_eq_ite]at hs;split at hs
   case isFalse=>cases hs
   rename_i ie;simp only [Nat.beq_eq]at ie;subst ie
   have li:∃(y:V) (rs:List fB) (a7:List Prop),f={e:=some {d:=.v y},rs,a7}∧hC (.bS k (n-a.toNat) λi=>get (a.toNat+i)) y∧hv a n=true:=by
    split at hs
    ·rename_i y rs eZ;cases hs;exact⟨_,_,_,rfl,cv _ (by simp),cv (hv a n=true) (by simp)⟩
    ·cases hs;exact⟨_,_,_,rfl,λ_ _ h=>h,cv (hv a n=true) (by simp)⟩
    ·cases hs
   obtain⟨y,rs,a7,rfl,ax,hb⟩:=li;have hb:=vV hb;obtain⟨dH,rfl⟩:=Int.eq_ofNat_of_zero_le hb.1;have lO:=er (ds:=[]) h.bF h.eb hx;obtain⟨base,cap,ex,m3⟩:=vE lO;have:=G' (w:=w) r rfl d' (base:=base) (n:=n) (cap:=cap) (lo:=some (.int am dH)) (hi:=none) (a:=dH) (b:=n) (.inr ⟨_,rfl⟩) (.inl ⟨rfl,rfl⟩) (by omega) (by omega) m3
   refine fb h.bF (si aw ex (fR kz) (tP jJ) rfl this) (.v _ _ (ax _ _ ?_));have:=Ce lO (a:=dH) (b:=n) (by omega) (by omega) ex m3
   simpa using this
  ·rename_i dM size Cf lj k n get am b eY hx kz jJ;obtain⟨d'⟩:=eO h.tt eY;rw [Bool.cond_eq_ite]at hs;split at hs
   case isFalse=>cases hs
   rename_i ie;simp only [Nat.beq_eq]at ie;subst ie
   have li:∃(y:V) (rs:List fB) (a7:List Prop),f={e:=some {d:=.v y},rs,a7}∧hC (.bS k b.toNat get) y∧hv b n=true:=by
    split at hs
    ·rename_i y rs eZ;cases hs;exact⟨_,_,_,rfl,cv _ (by simp),cv (hv b n=true) (by simp)⟩
    ·cases hs;exact⟨_,_,_,rfl,λ_ _ h=>h,cv (hv b n=true) (by simp)⟩
    ·cases hs
   obtain⟨y,rs,a7,rfl,ax,hb⟩:=li;have hb:=vV hb;obtain⟨bR,rfl⟩:=Int.eq_ofNat_of_zero_le hb.1;have lO:=er (ds:=[]) h.bF h.eb hx;obtain⟨base,cap,ex,m3⟩:=vE lO;have:=G' (w:=w) r rfl d' (base:=base) (n:=n) (cap:=cap) (lo:=none) (hi:=some (.int am bR)) (a:=0) (b:=bR) (.inl ⟨rfl,rfl⟩) (.inr ⟨_,rfl⟩) (by omega) (by omega) m3
   refine fb h.bF (si aw ex (tP kz) (fR jJ) rfl this) (.v _ _ (ax _ _ ?_));have:=Ce lO (a:=0) (b:=bR) (by omega) (by omega) ex m3
   simpa using this
  ·rename_i dM size Cf lj k n get am a fj b eY hx kz jJ;obtain⟨d'⟩:=eO h.tt eY;rw [Bool.cond_eq_ite]at hs;split at hs
   case isFalse=>cases hs
   rename_i ie;simp only [Nat.beq_eq]at ie;subst ie
   have li:∃(y:V) (rs:List fB) (a7:List Prop),f={e:=some {d:=.v y},rs,a7}∧hC (.bS k (b.toNat-a.toNat) λi=>get (a.toNat+i)) y∧lG a b n=true:=by
    split at hs
    ·rename_i y rs eZ;cases hs;exact⟨_,_,_,rfl,cv _ (by simp),cv (lG a b n=true) (by simp)⟩
    ·cases hs;exact⟨_,_,_,rfl,λ_ _ h=>h,cv (lG a b n=true) (by simp)⟩
    ·cases hs
   obtain⟨y,rs,a7,rfl,ax,hb⟩:=li;have hb:=Wn hb;obtain⟨dH,rfl⟩:=Int.eq_ofNat_of_zero_le hb.1;obtain⟨bR,rfl⟩:=Int.eq_ofNat_of_zero_le (a:=b) (by omega)
   have lO:=er (ds:=[]) h.bF h.eb hx;obtain⟨base,cap,ex,m3⟩:=vE lO;have:=G' (w:=w) r rfl d' (base:=base) (n:=n) (cap:=cap) (lo:=some (.int am dH)) (hi:=some (.int fj bR)) (a:=dH) (b:=bR) (.inr ⟨_,rfl⟩) (.inr ⟨_,rfl⟩) (by omega) (by omega) m3
   refine fb h.bF (si aw ex (fR kz) (fR jJ) rfl this) (.v _ _ (ax _ _ ?_));have:=Ce lO (a:=dH) (b:=bR) (by omega) (by omega) ex m3
   simpa using this
  ·rename_i dM size Cf lj k n get eY hx kz jJ;obtain⟨d'⟩:=eO h.tt eY;rw [Bool.cond_eq_ite]at hs;split at hs
   case isFalse=>cases hs
   rename_i ie;simp only [Nat.beq_eq]at ie;subst ie;cases hs;have lO:=er (ds:=[]) h.bF h.eb hx;obtain⟨base,cap,ex,m3⟩:=vE lO;have:=G' (w:=w) r rfl d' (base:=base) (n:=n) (cap:=cap) (lo:=none) (hi:=none) (a:=0) (b:=n) (.inl ⟨rfl,rfl⟩) (.inl ⟨rfl,rfl⟩) (by omega) (by omega) m3
   refine fb h.bF (si aw ex (tP kz) (tP jJ) rfl this) (.v _ _ ?_);have:=Ce lO (a:=0) (b:=n) (by omega) (by omega) ex m3
   simpa using this
  ·cases hs
 ·rename_i m e fG kO z _ ae;obtain⟨r⟩:=eO h.tt ae;split at hs
  case h_2=>cases hs
  rename_i size Cf lj k n get am b fj c eY hx jJ hm;obtain⟨d'⟩:=eO h.tt eY;rw [Bool.cond_eq_ite]at hs;split at hs
  case isFalse=>cases hs
  rename_i ie;simp only [Nat.beq_eq]at ie;subst ie;cases hs;have G_:=cv (b=c) (by simp)
  subst G_;have hb:=vV (cv (hv b n=true) (by simp))
  obtain⟨bR,rfl⟩:=Int.eq_ofNat_of_zero_le hb.1;have lO:=er (ds:=[]) h.bF h.eb hx;obtain⟨base,cap,ex,m3⟩:=vE lO;have q2:bR≤n:=by omega
  have hu:=r.run_underlying w;rw [pW r rfl]at hu
  have fi:(Instr.sliceAt t (.slice base n cap) none (some (.int am bR)) (some (.int fj bR))).run P w = .ok (.slice (if bR=0 then base else base.map (·.add (0*k))) bR bR) w:=by
   have Z:bR≤cap:=by omega
   simp [Instr.sliceAt,hu,Instr.slice,Instr.sliceBounds,Instr.sliceBound,asIntOf,d'.run_sizeOf,Z]
  have afD:(if bR=0 then base else base.map (·.add (0*k)))=base:=by
   split
   ·rfl
   ·cases base with
    |none=>rfl
    |some a=>simp [Addr.add]
  rw [afD]at fi;have em:(some m).map (⟨tmps,[]⟩:Act).eval=some (.int fj bR):=fR (y:=some m) hm;refine fb h.bF (si aw ex rfl (fR jJ) em fi) (.full base k _ get ?_);have WD:=Ce lO (a:=0) (b:=bR) (by omega) q2 ex m3
  simp only [Nat.sub_zero]at WD ⊢;have WE:di M (.slice (if cap=0 then base else base.map (·.add (0*k))) bR cap) (.bS k bR get):=by simpa using WD
  have f7:(if cap=0 then base else base.map (·.add (0*k)))=base:=by
   split
   ·rfl
   ·cases base with
    |none=>rfl
    |some a=>simp [Addr.add]
  rw [f7]at WE;cases WE with
  |mP=>exact .mP _ _
  |qL a=>exact .qL _ _ _
  |bS qO off k n cap get val hc hk c8 Z h=>exact .bS qO off k _ _ get val (Nat.le_refl _) hk c8 Z h
 ·cases hs
def WF{c:Call}(aw:o.op = .call c)(hc:c.callee = .builtin .len){a:Operand}(e7:c.args.toList=[a]){t:TypeId}(ho:c.argTypes.toList[0]? = some t){h1 v:Value}(ha:(⟨tmps,[]⟩:Act).eval a=h1)
 (h:∀ty,(Builtin.len_ #[t] ty #[h1]).run P w = .ok v w):(execOp (Act.eval ⟨tmps,[]⟩) o).run P w = .ok (.value v) w:=by
 have vK:c.args = #[a]:=by apply Array.ext';simpa using e7
 have NL:∀ty,(Builtin.len_ c.argTypes ty #[h1]).run P w = .ok v w:=by
  intro ty;have h0:c.argTypes[0]? = some t:=by simpa using ho
  have:=h ty
  simp only [Builtin.len_,h0]at this ⊢;exact this
 simp only [execOp,aw,resolve,hc,vK,Sem.run_bind,Sem.run_pure,Result.andThen_ok,invoke,builtin,List.map_toArray,List.map_cons,List.map_nil,ha];simp [NL]
def WG{F:Nat→Option Nat}{l cQ:List D}(h:lI F l=some cQ):cQ.length=l.length:=(yh h).1.symm
def afE {c : Call} (aw : o.op = .call c) {x : Operand} (hc : c.callee = .value x) {fn : FuncId} {vs : List Value} (hx : (⟨tmps, []⟩ : Act).eval x = .func (.func fn) #[] ⟨vs⟩) {fd : Func} (b5 : P.funcs[fn]? = some fd) (hb : fd.body.isSome = true) (hn : fd.name ≠ "runtime.NumGoroutine") :
 (execOp (Act.eval ⟨tmps,[]⟩) o).run P w = .ok (.enter fn ⟨c.args.toList.map (⟨tmps,[]⟩:Act).eval++vs⟩) w:=by
 have q2:fd.body≠none:=by intro bJ;rw [bJ]at hb;cases hb
 simp [execOp,aw,resolve,hc,hx,Deferred.ofValue,invoke,callFunc,b5,q2,hn]
def WH{F:TypeId→Operand→Option D}:∀{xs:List Operand} {ts:List TypeId} {ds:List D},l5 F xs ts=some ds→ds.length=xs.length∧∀(i:Nat) x d,xs[i]? = some x→ds[i]? = some d→∃t,F t x=some d
 |[],ts,ds,h=>by simp [l5]at h;subst h;simp
 |x::xs,[],ds,h=>by simp [l5]at h
 |x::xs,t::ts,ds,h=>by
  simp only [l5]at h;split at h
  case h_2=>cases h
  rename_i d afF hd ic;cases h;obtain⟨Z,ab⟩:=WH ic;refine⟨by simp [Z],λi y e ck he=>?_⟩
  cases i with
  |zero=>simp at ck he;subst ck;subst he;exact⟨t,hd⟩
  |succ i=>simp at ck he;exact ab i y e ck he
mutual
def WI{ρ:List Nat}:∀(d:D) {dX:D},eD (idx ρ) d=some dX→eD (λj=>ρ[j]?) dX=some d
 |.v x,dX,h=>by simp [eD]at h;subst h;simp [eD]
 |.ptr r off,dX,h=>by
  simp only [eD,Option.map_eq_some_iff]at h;obtain⟨j,hj,rfl⟩:=h;simp [eD,GX hj]
 |.cA r off u,dX,h=>by
  simp only [eD,Option.map_eq_some_iff]at h;obtain⟨j,hj,rfl⟩:=h;simp [eD,GX hj]
 |.e' x,dX,h=>by simp [eD]at h;subst h;simp [eD]
 |.full k n get,dX,h=>by simp [eD]at h;subst h;simp [eD]
 |.fn g fh,dX,h=>by
  simp only [eD,Option.map_eq_some_iff]at h;obtain⟨l,ae,rfl⟩:=h;simp [eD,Hb fh ae]
 |.agg cs,dX,h=>by
  simp only [eD,Option.map_eq_some_iff]at h;obtain⟨l,ae,rfl⟩:=h;simp [eD,Hb cs ae]
 |.bW cs,dX,h=>by
  simp only [eD,Option.map_eq_some_iff]at h;obtain⟨l,ae,rfl⟩:=h;simp [eD,Hb cs ae]
def Hb{ρ:List Nat}:∀(l:List D) {cQ:List D},lI (idx ρ) l=some cQ→lI (λj=>ρ[j]?) cQ=some l
 |[],cQ,h=>by simp [lI]at h;subst h;simp [lI]
 |d::l,cQ,h=>by
  simp only [lI]at h;split at h
  case h_2=>cases h
  rename_i d1 jb hd ae;cases h;simp [lI,WI d hd,Hb l ae]
end
def WJ{ρ:List Nat}:∀{b bR:List a'},ng (idx ρ) b=some bR→ng (λj=>ρ[j]?) bR=some b
 |[],bR,h=>by simp [ng]at h;subst h;simp [ng]
 |e::l,bR,h=>by
  simp only [ng]at h;split at h
  case h_2=>cases h
  rename_i e1 jb he ae;cases h;simp only [GC,Option.map_eq_some_iff]at he;obtain⟨d,hd,rfl⟩:=he;simp [ng,GC,WI _ hd,WJ ae]
def WK{ρ:List Nat}:∀{bs pZ:List (List a')},kr (idx ρ) bs=some pZ→kr (λj=>ρ[j]?) pZ=some bs
 |[],pZ,h=>by simp [kr]at h;subst h;simp [kr]
 |b::l,pZ,h=>by
  simp only [kr]at h;split at h
  case h_2=>cases h
  rename_i df jb hb ae;cases h;simp [kr,WJ hb,WK ae]
def afG{st:aO}(h:bV P K M β st tmps w){ρ:List Nat}{bs H1:List (List a')}(hn:nh ρ=true)(lg:boxes st.H ρ=some bs)(mx:kr (idx ρ) bs=some H1)
 {os:List Nat} {out:Out} {v:Value} {w':World} {M':Mem} {β':Nat→Option Nat} (jr:bV P (kR M β st tmps w ρ os) M' β' {env:=iH out,H:=cZ 0 H1,aZ:=ρ.length} #[v] w'):
 M.le M'∧bV P K M' β {st with env:=hD os st.env} tmps w'∧
 (∀d own,out = .ret d own→∀dX,eD (λj=>ρ[j]?) d=some dX→cE M' β v dX∧∀T l0,own=some T→nj P K M' β {st with env:=hD os st.env} tmps w' l0 v T)∧
 (∀x,out = .aK x→di M' v x):=by
 obtain⟨du,f7⟩:=vO lg;have fc:H1.length=ρ.length:=by rw [(yw mx).1,du]
 obtain⟨Z,ab,aq,aN⟩:=N0 h hn lg (WK mx) fc jr
 have kS:∀r,look (lJ ρ bs++st.H) r=look st.H r:=by
  intro r;obtain⟨bn,cd⟩:=NT (H:=st.H) (ρ:=ρ) (bs:=bs) du hn r;by_cases hj:∃(j:Nat),ρ[j]? = some r
  ·obtain⟨j,hj⟩:=hj;rw [bn j hj,(f7 j r hj).1]
  ·exact cd λj bJ=>hj ⟨j,bJ⟩
 have gu:∀l,({env:=hD os st.env,H:=lJ ρ bs++st.H,aZ:=st.aZ}:aO).at l=({st with env:=hD os st.env}:aO).at l:=by
  intro l;cases l with
  |slot s=>rfl
  |cell r i=>simp only [aO.at,kS]
 refine⟨Z,ab.sub rfl (λl e ae=>⟨e,by rw [gu];exact ae,rfl,λ_ h=>h⟩) (λr cs ai=>⟨cs,by rw [←ai];exact kS r,rfl⟩),λd own hd dX jF=>?_,aN⟩
 obtain⟨bn,cd⟩:=aq d own hd dX jF;refine⟨bn,λT l0 aL=>?_⟩
 obtain⟨ep,ek,iG⟩:=cd T l0 aL;exact⟨ep,λl e T' b ae=>ek l e T' b (by rw [gu];exact ae),λb r cs hb ai=>iG b r cs hb (by rw [←ai];exact kS r)⟩
def WL(P:Program)(K:Ctx)(M:Mem)(β:Nat→Option Nat)(g:dz)(s:n7)(o:Oper)(tmps:Array Value)(w:World):Prop:=
 match s with
 |.go f=>(∀q,q∈f.a7→q)→Yields P K M β g f o tmps w
 |.aK x hs a7=>(∀q,q∈a7→q)→aeY P K M β g x hs o tmps w
def WM{os:List Nat}{env:List (Nat×a')}{s:Nat}{e:a'}(h:look env s=some e):∃cc,look (hD os env) s=some cc∧cc.d=e.d:=by
 rw [ob,h];split
 ·exact⟨_,rfl,rfl⟩
 ·exact⟨_,rfl,rfl⟩
def Of{g:dz}(h:fX P K N M β g tmps w){xs:List Operand}{ts:List TypeId}:∀{os:List Nat} {hd:List (Nat×Option Nat×TypeId)},handed tt g xs ts os=some hd→∀{vs:List Value},
 (∀(i:Nat) t,xs[i]? = some (.tmp t)→vs[i]? = some (tmps.getD t undef))→(∀(i:Nat),xs[i]? = some (.const (.slice none 0 0))→vs[i]? = some (.slice none 0 0))→
 Handed {env:=g.env,H:=g.H,aZ:=g.aZ} tmps vs hd
 |[],hd,bJ,vs,_,_=>by
  simp [handed]at bJ;subst bJ;exact⟨by simp,by simp,by simp⟩
 |i::os,hd,bJ,vs,Z,ab=>by
  simp only [handed]at bJ;split at bJ
  ·rename_i t l hx ae;have aR:=Of h ae Z ab;split at bJ
   case h_2=>cases bJ
   rename_i d e he;rw [Bool.cond_eq_ite]at bJ;split at bJ
   case isFalse=>cases bJ
   rename_i hc;simp only [Bool.and_eq_true,List.all_eq_true,Bool.not_eq_true']at hc;cases bJ;refine⟨λmT bq T hm=>?_,λmT T hm=>?_,λmT vR bq T T' hm kA=>?_⟩
   ·rcases List.mem_cons.1 hm with hm|hm
    ·cases hm;exact⟨_,he,rfl,Z i t hx⟩
    ·exact aR.some mT bq T hm
   ·rcases List.mem_cons.1 hm with hm|hm
    ·cases hm
    ·exact aR.none mT T hm
   ·rcases List.mem_cons.1 hm with hm|hm<;>rcases List.mem_cons.1 kA with kA|kA
    ·cases hm;cases kA;rfl
    ·cases hm;have:=(hc.2 _ kA).1
     simp at this
    ·cases kA;have:=(hc.2 _ hm).1
     simp at this
    ·exact aR.inj mT vR bq T T' hm kA
  ·rename_i l hx ae;have aR:=Of h ae Z ab;split at bJ
   case h_2=>cases bJ
   rename_i e fG kO z _ he;rw [Bool.cond_eq_ite]at bJ;split at bJ
   case isFalse=>cases bJ
   cases bJ;refine⟨λmT bq T hm=>?_,λmT T hm=>?_,λmT vR bq T T' hm kA=>?_⟩
   ·rcases List.mem_cons.1 hm with hm|hm
    ·cases hm
    ·exact aR.some mT bq T hm
   ·rcases List.mem_cons.1 hm with hm|hm
    ·cases hm;exact ab i hx
    ·exact aR.none mT T hm
   ·rcases List.mem_cons.1 hm with hm|hm<;>rcases List.mem_cons.1 kA with kA|kA
    ·cases hm
    ·cases hm
    ·cases kA
    ·exact aR.inj mT vR bq T T' hm kA
  ·cases bJ
def afH(h:Hyp P K N M β g tmps w p tt){c:Call}(aw:o.op = .call c){x:Operand}(hc:c.callee = .value x){fn:FuncId}{fh ds:List D}(hx:rd g.env g.ca p tt o.type x=some (.fn fn fh))
 (ic:l5 (rd g.env g.ca p tt) c.args.toList c.argTypes.toList=some ds) {s:n7} (hs:ye (jZ P) tt g p c.args.toList c.argTypes.toList fn (ds++fh)=some s):
 WL P K M β g s o tmps w:=by
 obtain⟨vs,ax,hlen,ai⟩:=VG (er (ds:=[]) h.bF h.eb hx);obtain⟨gM,kP⟩:=WH ic
 have e7:∀(i:Nat) v d,(c.args.toList.map (⟨tmps,[]⟩:Act).eval++vs)[i]? = some v→(ds++fh)[i]? = some d→cE M β v d:=by
  intro i v d fa tM;by_cases hi:i<c.args.toList.length
  ·rw [List.getElem?_append_left (by simpa using hi),List.getElem?_map,Option.map_eq_some_iff]at fa
   obtain⟨y,ck,rfl⟩:=fa;rw [List.getElem?_append_left (by omega)]at tM
   obtain⟨ty,ho⟩:=kP i y d ck tM;exact er h.bF h.eb ho
  ·rw [List.getElem?_append_right (by simp;simp at hi;omega)]at fa
   rw [List.getElem?_append_right (by omega)]at tM
   refine ai _ v d fa ?_;rw [gM]at tM;simpa using tM
 have WN:(c.args.toList.map (⟨tmps,[]⟩:Act).eval++vs).length=(ds++fh).length:=by simp at gM ⊢;omega
 unfold ye at hs
 dsimp only at hs
 generalize l_:oZ g.H 2 (dedup ((ds++fh).flatMap refs))=ρ at hs
 split at hs
 case h_2=>cases hs
 rename_i out cS os rs eZ;split at hs
 case h_2=>cases hs
 rename_i jU H1 hd tQ mx vP;rw [Option.bind_eq_some_iff]at mx;obtain⟨bs,lg,mx⟩:=mx;rw [Bool.cond_eq_ite]at hs;split at hs
 ·cases hs
 rename_i WO
 have hn:nh ρ=true:=by
  have:(!nh ρ || !(List.isEmpty p||List.isEmpty os))=false:=by simpa using WO
  simp only [Bool.or_eq_false_iff,Bool.not_eq_false']at this;exact this.1
 have fq:=Of h.bF vP (vs:=c.args.toList.map (⟨tmps,[]⟩:Act).eval++vs) (λi t aA=>by
  rw [List.getElem?_append_left (by simpa using(List.getElem?_eq_some_iff.1 aA).1),List.getElem?_map,aA];rfl) (λi aA=>by
  rw [List.getElem?_append_left (by simpa using(List.getElem?_eq_some_iff.1 aA).1),List.getElem?_map,aA];rfl)
 have ev:=We (st:={env:=g.env,H:=g.H,aZ:=g.aZ}) h.bF.bF hn lg mx WN e7 tQ fq;have fc:H1.length=ρ.length:=by rw [(yw mx).1,(vO lg).1]
 -- N1 l' contract afI, aqM l' boxes behind it
 have key:∀{vY:List (List a')},hq P fn jU (tK hd) H1 out vY→(execOp (Act.eval ⟨tmps,[]⟩) o).run P w = .ok (.enter fn ⟨c.args.toList.map (⟨tmps,[]⟩:Act).eval++vs⟩) w∧
  Calls P fn ⟨c.args.toList.map (⟨tmps,[]⟩:Act).eval++vs⟩ w λe w'=>∃v M' β',e=tJ out v∧
   bV P (kR M β {env:=g.env,H:=g.H,aZ:=g.aZ} tmps w ρ (qZ hd)) M' β' {env:=iH out,H:=cZ 0 vY,aZ:=ρ.length} #[v] w':=by
  intro vY afJ;obtain⟨⟨fd,kv,Og,j_⟩,afK⟩:=afJ;refine⟨afE aw hc ax kv Og j_,(afK _ w _ M _ (by rw [WN,WG tQ]) ev (λr b hb=>hb)).mono ?_⟩
  rintro e w' ⟨o',b0,v,M',β',⟨rfl,rfl⟩,he,cT⟩
  rw [fc]at cT;exact⟨v,M',β',he,cT⟩
 -- l' boxes as aqN aqO, named aqP and back
 have back:∀{vY afL:List (List a')},kr (λj=>ρ[j]?) vY=some afL→vY.length=ρ.length→∀{v:Value} {w':World} {M':Mem} {β':Nat→Option Nat},
  bV P (kR M β {env:=g.env,H:=g.H,aZ:=g.aZ} tmps w ρ (qZ hd)) M' β' {env:=iH out,H:=cZ 0 vY,aZ:=ρ.length} #[v] w'→_:=
  λhx ae _ _ _ _ hp=>N0 (st:={env:=g.env,H:=g.H,aZ:=g.aZ}) h.bF.bF hn lg hx ae hp
 have WP:∀{v:Value} {w':World} {M':Mem} {β':Nat→Option Nat},
  bV P (kR M β {env:=g.env,H:=g.H,aZ:=g.aZ} tmps w ρ (qZ hd)) M' β' {env:=iH out,H:=cZ 0 H1,aZ:=ρ.length} #[v] w'→
  M.le M'∧bV P K M' β {env:=hD (qZ hd) g.env,H:=g.H,aZ:=g.aZ} tmps w'∧
  (∀d own,out = .ret d own→∀dX,eD (λj=>ρ[j]?) d=some dX→cE M' β v dX∧∀T l0,own=some T→nj P K M' β {env:=hD (qZ hd) g.env,H:=g.H,aZ:=g.aZ} tmps w' l0 v T)∧
  (∀x,out = .aK x→di M' v x):=by
  intro v w' M' β' hp;exact afG (st:={env:=g.env,H:=g.H,aZ:=g.aZ}) h.bF.bF hn lg mx hp
 cases out with
 |ret d own=>
  cases cS with
  |none=>
   simp only [Option.map_eq_some_iff]at hs;obtain⟨dX,jF,rfl⟩:=hs;intro cv;obtain⟨Z,ab⟩:=key (cv _ (List.mem_singleton.2 rfl));refine .inr (.inr ⟨fn,_,Z,ab.mono ?_⟩)
   rintro e w' ⟨v,M',β',he,hp⟩
   obtain⟨c8,cT,Oh,_⟩:=WP hp;refine⟨v,he,M',β,c8,λ_ _ h=>h,λ_ _ h=>.inl h,cT,λe1 sa=>?_⟩
   cases sa;exact Oh d own rfl dX jF
  |some cS=>
   dsimp only at hs
   split at hs
   case h_2=>cases hs
   rename_i dX ja jF vU;rw [Bool.cond_eq_ite]at hs;split at hs
   case isFalse=>cases hs
   rename_i ae;cases hs;intro cv;obtain⟨Z,ab⟩:=key (cv _ (List.mem_singleton.2 rfl));refine .inr (.inr ⟨fn,_,Z,ab.mono ?_⟩)
   rintro e w' ⟨v,M',β',he,hp⟩
   obtain⟨c8,cT,Oh,_⟩:=back vU (by simpa using ae) hp
   refine⟨v,he,M',β,c8,λ_ _ h=>h,λ_ _ h=>.inl h,cT,λe1 sa=>?_⟩
   cases sa;exact Oh d own rfl dX jF
 |aK x=>
  cases cS with
  |none=>
   cases hs;intro cv;obtain⟨Z,ab⟩:=key (cv _ (List.mem_singleton.2 rfl));refine .inr ⟨fn,_,Z,ab.mono ?_⟩
   rintro e w' ⟨v,M',β',he,hp⟩
   obtain⟨c8,cT,_,Oi⟩:=WP hp;exact⟨v,M',he,Oi x rfl,cT.pQ λs e he=>WM he⟩
  |some cS=>
   dsimp only at hs
   split at hs
   case h_2=>cases hs
   rename_i ja vU;rw [Bool.cond_eq_ite]at hs;split at hs
   case isFalse=>cases hs
   rename_i ae;cases hs;intro cv;obtain⟨Z,ab⟩:=key (cv _ (List.mem_singleton.2 rfl));refine .inr ⟨fn,_,Z,ab.mono ?_⟩
   rintro e w' ⟨v,M',β',he,hp⟩
   obtain⟨c8,cT,_,Oi⟩:=back vU (by simpa using ae) hp
   exact⟨v,M',he,Oi x rfl,cT.pQ λs e he=>WM he⟩
end
section
variable {P:Program} {K:Ctx} {N:Nat} {M:Mem} {β:Nat→Option Nat} {st:aO} {g:dz} {tmps:Array Value} {w:World} {o:Oper} {f:lH} {p:Path} {tt:dT} {ops:List Oper}
def WQ(h:Hyp P K N M β g tmps w p tt){c:Call}(aw:o.op = .call c)(hc:c.callee = .builtin .len){d:D}(hd:mapM' (λy=>rd g.env g.ca p tt o.type y) c.args.toList=some [d]){aU:eS}
 (ae:(c.argTypes.toList[0]?).bind (look tt)=some aU) {n:Nat} (hk:(∃l,d = .v (.str l)∧aU.k = .str∧n=l.length)∨(∃k get e,d = .v (.bS k n get)∧aU.k = .bS e)):
 Yields P K M β g {e:=some {d:=.v (.int .i64 n)},rs:=g.rs} o tmps w:=by
 obtain⟨gM,kP⟩:=tG hd;rw [Option.bind_eq_some_iff]at ae;obtain⟨t,aA,ae⟩:=ae;obtain⟨r⟩:=eO h.tt ae
 obtain⟨a,ha⟩:∃a,c.args.toList=[a]:=by
  cases gS:c.args.toList with
  |nil=>rw [gS]at gM;simp at gM
  |cons a l=>
   rw [gS]at gM;simp at gM
   exact⟨a,by rw [gM]⟩
 have p0:=er (ds:=[]) h.bF h.eb (kP 0 a d (by rw [ha];rfl) rfl)
 rcases hk with⟨l,rfl,hk,rfl⟩|⟨k,get,e,rfl,hk⟩
 ·have q0:=mU p0;refine fb h.bF (WF aw hc ha aA q0 (λty=>?_)) (.v _ _ (.int _ _))
  have hs:(⟨⟨l⟩⟩:ByteArray).size=l.length:=rfl;simp [Builtin.len_,r.run_underlying,qS r hk,goInt,hs]
 ·obtain⟨base,cap,q0,_⟩:=vE p0;refine fb h.bF (WF aw hc ha aA q0 (λty=>?_)) (.v _ _ (.int _ _))
  simp [Builtin.len_,r.run_underlying,pW r hk,goInt]
def afM(h:Hyp P K N M β g tmps w p tt){c:Call}(aw:o.op = .call c)(hc:c.callee = .builtin .min){k:IntKind}{a b:Int}(hd:mapM' (λy=>rd g.env g.ca p tt o.type y) c.args.toList=some [.v (.int k a),.v (.int k b)]):
 Yields P K M β g {e:=some {d:=.v (.int k (bif decide (b<a)then b else a))},rs:=g.rs} o tmps w:=by
 obtain⟨gM,kP⟩:=tG hd
 obtain⟨x,y,pV⟩:∃x y,c.args.toList=[x,y]:=by
  cases gS:c.args.toList with
  |nil=>rw [gS]at gM;simp at gM
  |cons x l=>
   cases l with
   |nil=>rw [gS]at gM;simp at gM
   |cons y l=>
    rw [gS]at gM;simp at gM
    exact⟨x,y,by rw [gM]⟩
 have ex:=mv (er (ds:=[]) h.bF h.eb (kP 0 x _ (by rw [pV];rfl) rfl))
 have Oj:=mv (er (ds:=[]) h.bF h.eb (kP 1 y _ (by rw [pV];rfl) rfl))
 have vK:c.args = #[x,y]:=by apply Array.ext';simpa using pV
 refine fb h.bF (v:=.int k (bif decide (b<a)then b else a)) ?_ (.v _ _ (.int _ _))
 simp only [execOp,aw,resolve,hc,vK,Sem.run_bind,Sem.run_pure,Result.andThen_ok,invoke,builtin,List.map_toArray,List.map_cons,List.map_nil,ex,Oj];by_cases mZ:b<a<;>simp [Builtin.min_,Builtin.min2,mZ]
def afN(h:Hyp P K N M β g tmps w p tt){c:Call}(aw:o.op = .call c)(hc:c.callee = .builtin .max){k:IntKind}{a b:Int}(hd:mapM' (λy=>rd g.env g.ca p tt o.type y) c.args.toList=some [.v (.int k a),.v (.int k b)]):
 Yields P K M β g {e:=some {d:=.v (.int k (bif decide (a<b)then b else a))},rs:=g.rs} o tmps w:=by
 obtain⟨gM,kP⟩:=tG hd
 obtain⟨x,y,pV⟩:∃x y,c.args.toList=[x,y]:=by
  cases gS:c.args.toList with
  |nil=>rw [gS]at gM;simp at gM
  |cons x l=>
   cases l with
   |nil=>rw [gS]at gM;simp at gM
   |cons y l=>
    rw [gS]at gM;simp at gM
    exact⟨x,y,by rw [gM]⟩
 have ex:=mv (er (ds:=[]) h.bF h.eb (kP 0 x _ (by rw [pV];rfl) rfl))
 have Oj:=mv (er (ds:=[]) h.bF h.eb (kP 1 y _ (by rw [pV];rfl) rfl))
 have vK:c.args = #[x,y]:=by apply Array.ext';simpa using pV
 refine fb h.bF (v:=.int k (bif decide (a<b)then b else a)) ?_ (.v _ _ (.int _ _))
 simp only [execOp,aw,resolve,hc,vK,Sem.run_bind,Sem.run_pure,Result.andThen_ok,invoke,builtin,List.map_toArray,List.map_cons,List.map_nil,ex,Oj];by_cases mZ:a<b<;>simp [Builtin.max_,Builtin.max2,mZ]
def afO(h:Hyp P K N M β g tmps w p tt){co:gL}{x:Operand}{s t:TypeId}{ok:Bool}(aw:o.op = .typeAssert x s t ok)(hs:step1 co tt ops g p o=some (.go f)):Yields P K M β g f o tmps w:=by
 simp only [step1,aw]at hs;split at hs
 case h_2=>cases hs
 rename_i bq y k fG kO z _ hx ae;obtain⟨r⟩:=eO h.tt ae;have ai:=er (ds:=[]) h.bF h.eb hx;obtain⟨u,ax,hu⟩:=Nq ai;have WR:k ≠ .oX:=by rintro rfl;simp at hs
 have Oa:∀i,r.desc ≠ .interface i:=by
  intro i hd;have:=r.hk
  rw [hd]at this;simp [lN]at this;exact WR this.symm
 have gf:(bif Nat.beq bq t then(some (n7.go {e:=some {d:=(bif ok then .bW [.v y,.v (.bool true)]else .v y)},rs:=g.rs}))else none)=some (.go f):=by
  cases k<;>first|exact(WR rfl).elim|exact hs
 rw [Bool.cond_eq_ite]at gf;split at gf
 case isFalse=>cases gf
 rename_i hb;have b2:bq=t:=by simpa using hb
 subst b2;cases gf
 have fi:(Instr.typeAssert (.iface bq u) s bq ok).run P w = .ok (bif ok then .tuple #[u,.bool true]else u) w:=by
  unfold Instr.typeAssert;simp only [Sem.run_bind,r.run_underlying,Result.andThen_ok];cases hd:r.desc<;>first|exact(Oa _ hd).elim|(cases ok<;>simp)
 refine fb h.bF (v:=bif ok then .tuple #[u,.bool true]else u) ?_ ?_
 ·simp only [execOp,aw,ax];exact jI _ fi
 ·cases ok
  ·exact .v _ _ hu
  ·refine .bW [u,.bool true] _ rfl λi v c ax hc=>?_
   match i with
   | 0=>simp at ax hc;subst ax;subst hc;exact .v _ _ hu
   | 1=>simp at ax hc;subst ax;subst hc;exact .v _ _ (.bool _)
   |i+2=>simp at ax
def WS(h:Hyp P K N M β g tmps w p tt){s:n7}(hs:step1 (jZ P) tt ops g p o=some s):WL P K M β g s o tmps w:=by
 cases aw:o.op with
 |move x=>cases s with
  |go f=>exact λ_=>ae5 h aw hs
  |aK x gf a7=>simp only [step1,aw]at hs;repeat' (first |(split at hs) |(rw [Bool.cond_eq_ite]at hs) |(cases hs;done))
 |assign x=>cases s with
  |go f=>exact λ_=>ae6 h aw hs
  |aK x gf a7=>simp only [step1,aw]at hs;repeat' (first |(split at hs) |(rw [Bool.cond_eq_ite]at hs) |(cases hs;done))
 |pick c a b=>
  cases c with
  |tmp c=>cases s with
   |go f=>exact λ_=>ae7 h aw hs
   |aK x gf a7=>simp only [step1,aw]at hs;repeat' (first |(split at hs) |(simp at hs;done))
  |_=>simp [step1,aw]at hs
 |alloc t=>cases s with
  |go f=>exact λ_=>ae8 h aw hs
  |aK x gf a7=>simp only [step1,aw]at hs;repeat' (first |(split at hs) |(cases hs;done))
 |box t x=>cases s with
  |go f=>exact λ_=>ae9 h aw hs
  |aK x gf a7=>simp only [step1,aw]at hs;repeat' (first |(split at hs) |(rw [Bool.cond_eq_ite]at hs) |(cases hs;done))
 |build t parts=>cases s with
  |go f=>exact λ_=>ae' h aw hs
  |aK x gf a7=>simp only [step1,aw]at hs;repeat' (first |(split at hs) |(rw [Bool.cond_eq_ite]at hs) |(simp at hs;done) |(cases hs;done))
 |buildSlice t len parts=>cases s with
  |go f=>exact λcv=>afa h aw hs cv
  |aK x gf a7=>simp only [step1,aw]at hs;repeat' (first |(split at hs) |(rw [Bool.cond_eq_ite]at hs) |(cases hs;done))
 |load t a=>cases s with
  |go f=>exact λ_=>afb h aw hs
  |aK x gf a7=>simp only [step1,aw]at hs;repeat' (first |(split at hs) |(rw [Bool.cond_eq_ite]at hs) |(simp at hs;done) |(cases hs;done))
 |store t a x=>cases s with
  |go f=>exact λ_=>afc h aw hs
  |aK x gf a7=>simp only [step1,aw]at hs;repeat' (first |(split at hs) |(rw [Bool.cond_eq_ite]at hs) |(cases hs;done))
 |nilCheck x=>cases s with
  |go f=>exact λ_=>aff h aw hs
  |aK x gf a7=>simp only [step1,aw]at hs;repeat' (first |(split at hs) |(simp at hs;done))
 |binOp op t x y t2=>cases s with
  |go f=>exact λcv=>afs h aw hs cv
  |aK x gf a7=>simp only [step1,aw]at hs;repeat' (first |(split at hs) |(rw [Bool.cond_eq_ite]at hs) |(simp at hs;done))
 |unOp op t x=>cases s with
  |go f=>exact λ_=>afg h aw hs
  |aK x gf a7=>simp only [step1,aw]at hs;repeat' (first |(split at hs) |(simp at hs;done))
 |convert a b x=>cases s with
  |go f=>exact λcv=>afh h aw hs cv
  |aK x gf a7=>simp only [step1,aw]at hs;repeat' (first |(split at hs) |(simp at hs;done))
 |makeInterface t x=>cases s with
  |go f=>exact λ_=>afi h aw hs
  |aK x gf a7=>simp only [step1,aw]at hs;repeat' (first |(split at hs) |(simp at hs;done))
 |makeFunc fn first fh=>
  cases fn with
  |func fn=>cases s with
   |go f=>exact λ_=>afj h aw hs
   |aK x gf a7=>simp only [step1,aw]at hs;rw [Bool.cond_eq_ite]at hs;split at hs<;>simp at hs
  |_=>simp [step1,aw]at hs
 |slice t x lo hi kt=>cases s with
  |go f=>exact λcv=>afC h aw hs cv
  |aK x gf a7=>simp only [step1,aw]at hs;repeat' (first |(split at hs) |(rw [Bool.cond_eq_ite]at hs) |(simp at hs;done))
 |fieldAddr a x i=>cases s with
  |go f=>exact λ_=>aft h aw hs
  |aK x gf a7=>simp only [step1,aw]at hs;repeat' (first |(split at hs) |(rw [Bool.cond_eq_ite]at hs) |(simp at hs;done))
 |field a x i=>cases s with
  |go f=>exact λ_=>afv h aw hs
  |aK x gf a7=>simp only [step1,aw]at hs;repeat' (first |(split at hs) |(rw [Bool.cond_eq_ite]at hs) |(simp at hs;done))
 |indexAddr t x i=>cases s with
  |go f=>exact λcv=>afy h aw hs cv
  |aK x gf a7=>simp only [step1,aw]at hs;repeat' (first |(split at hs) |(rw [Bool.cond_eq_ite]at hs) |(simp at hs;done))
 |index t x i=>cases s with
  |go f=>exact λcv=>afA h aw hs cv
  |aK x gf a7=>simp only [step1,aw]at hs;repeat' (first |(split at hs) |(simp at hs;done))
 |typeAssert x a t ok=>cases s with
  |go f=>exact λ_=>afO h aw hs
  |aK x gf a7=>simp only [step1,aw]at hs;repeat' (first |(split at hs) |(rw [Bool.cond_eq_ite]at hs) |(simp at hs;done) |(cases hs;done))
 |extract x i=>cases s with
  |go f=>exact λ_=>afk h aw hs
  |aK x gf a7=>simp only [step1,aw]at hs;repeat' (first |(split at hs) |(simp at hs;done))
 |call c=>
  simp only [step1,aw]at hs;split at hs
  ·rename_i x o9;split at hs
   case h_2=>cases hs
   rename_i fn fh ds hx ic;exact afH h aw o9 hx ic hs
  ·rename_i o9;split at hs
   ·rename_i l _ _ _ _ hd ae;cases hs;exact λ_=>WQ h aw o9 hd ae (.inl ⟨l,rfl,rfl,rfl⟩)
   ·rename_i k n get _ _ _ _ _ hd ae;cases hs;exact λ_=>WQ h aw o9 hd ae (.inr ⟨k,get,_,rfl,rfl⟩)
   ·cases hs
  ·rename_i o9;split at hs
   case h_2=>cases hs
   rename_i t x e aqQ Cf lj _ t2 e7 fc eY;split at hs
   case h_3=>cases hs
   case h_2=>
    rename_i cr k n get d2 y rs hle p1 kP eZ;rw [Bool.cond_eq_ite]at hs;split at hs
    case isFalse=>cases hs
    rename_i hc;simp only [Bool.and_eq_true,Nat.beq_eq,Nat.ble_eq]at hc;obtain⟨⟨⟨rfl,tR⟩,Hc⟩,vZ⟩:=hc;rw [Option.bind_eq_some_iff]at fc eY;obtain⟨afP,Hd,fc⟩:=fc;obtain⟨afQ,o4,eY⟩:=eY;have jH:=er (ds:=[]) h.bF h.eb kP;split at hs
    case h_2=>cases hs
    rename_i am m mr e2 fe;rw [Bool.cond_eq_ite]at hs;split at hs
    case isFalse=>cases hs
    rename_i ie;simp only [Bool.and_eq_true,Nat.beq_eq,Nat.ble_eq]at ie;obtain⟨rfl,hm⟩:=ie;cases hs;intro cv;obtain⟨news,jY,l9⟩:=Wb h.bF.bF h.tt eY fe jH;exact aeC h.bF h.eb h.tt fc rfl hle aw o9 e7 Hd o4 p1 Hc hm jY l9 (N6 (cv (room (n+m) cr.bytes=true) (by simp))) (cv (hC _ y) (by simp))
   rename_i cr k n get d2 aqR bp y rs hle p1 kP BY eZ;rw [Bool.cond_eq_ite]at hs;split at hs
   case isFalse=>cases hs
   rename_i hc;simp only [Bool.and_eq_true,Nat.beq_eq,Nat.ble_eq]at hc;obtain⟨⟨⟨⟨rfl,rfl⟩,tR⟩,Hc⟩,vZ⟩:=hc;rw [Option.bind_eq_some_iff]at fc eY;obtain⟨afP,Hd,fc⟩:=fc;obtain⟨afQ,o4,eY⟩:=eY;have jH:=er (ds:=[]) h.bF h.eb kP;split at hs
   ·rename_i am m mr e2 fe;rw [Bool.cond_eq_ite]at hs;split at hs
    case isFalse=>cases hs
    rename_i ie;simp only [Nat.beq_eq]at ie;subst ie;cases hs;intro cv;obtain⟨news,jY,l9⟩:=Wb h.bF.bF h.tt eY fe jH;exact V8 h.bF h.eb h.tt fc rfl hle aw o9 e7 Hd o4 p1 BY rfl Hc jY l9 (N6 (cv (room (n+m) cr.bytes=true) (by simp))) (cv (hC _ y) (by simp))
   ·rename_i l fe;rw [Bool.cond_eq_ite]at hs;split at hs
    case isFalse=>cases hs
    rename_i ie;simp only [Nat.beq_eq]at ie;cases hs;intro cv;have Ok:=mU jH;obtain⟨news,jY,l9⟩:=aeH (P:=P) (w:=w) h.tt eY fe l M;rw [←Ok,←ie]at jY;rw [←ie]at l9;exact V8 h.bF h.eb h.tt fc rfl hle aw o9 e7 Hd o4 p1 BY rfl Hc jY l9 (N6 (cv (room (n+l.length) cr.bytes=true) (by simp))) (cv (hC _ y) (by simp))
   ·cases hs
  ·rename_i o9;split at hs
   ·rename_i k a am b hd;rw [Bool.cond_eq_ite]at hs;split at hs
    case isFalse=>cases hs
    rename_i hk;have lk:k=am:=by simpa using hk
    subst lk;cases hs;exact λ_=>afM h aw o9 hd
   ·cases hs
  ·rename_i o9;split at hs
   ·rename_i k a am b hd;rw [Bool.cond_eq_ite]at hs;split at hs
    case isFalse=>cases hs
    rename_i hk;have lk:k=am:=by simpa using hk
    subst lk;cases hs;exact λ_=>afN h aw o9 hd
   ·cases hs
  ·cases hs
 |panic x=>cases s with
  |go f=>simp only [step1,aw]at hs;repeat' (first |(split at hs) |(simp at hs;done))
  |aK y gf a7=>
   simp only [step1,aw]at hs;split at hs
   case h_2=>cases hs
   rename_i t z hd;cases hs;intro _;have ai:=er (ds:=[]) h.bF h.eb hd;obtain⟨u,ax,hu⟩:=Nq ai;refine .inl ⟨.iface t u,?_,.iface t u z hu,rfl⟩;simp [execOp,aw,ax,Instr.panic]
 |_=>simp [step1,aw]at hs
end
inductive cu where
 |normal
 |exit (id:Nat)
 |ret
 |aK (x:V)
def tS(P:Program)(K:Ctx)(N:Nat)(fJ:cu)(st:aO)(e:Exit)(a:Act)(w:World):Prop:=
 match fJ with
 |.normal=>e = .normal∧a.defers=K.ds∧a.tmps.size=N∧∃M β,bV P K M β st a.tmps w
 |.exit id=>e = .exit id∧a.defers=K.ds∧a.tmps.size=N∧∃M β,bV P K M β st a.tmps w
 |.ret=>e = .ret∧a.defers=K.ds∧a.tmps.size=N∧∃M β,bV P K M β st a.tmps w
 |.aK x=>∃v,e = .panic [{v,recovered:=false}]∧a.defers=K.ds∧∃M β,di M v x∧bV P K M β st a.tmps w
section
variable {P:Program} {K:Ctx} {N:Nat} {M:Mem} {β:Nat→Option Nat} {st:aO} {g e6:dz} {tmps:Array Value} {w:World} {o:Oper} {f:lH} {p:Path} {tt:dT} {ops:List Oper}
def bV.Cg(h:bV P K M β st tmps w)(fW:Array Value):bV P K M β {env:=[],H:=st.H,aZ:=st.aZ} fW w:=by
 have Z:bV P K M β {env:=[],H:=st.H,aZ:=st.aZ} tmps w:=h.sub rfl (λl e ae=>by
  cases l with
  |slot s=>simp [aO.at,look]at ae
  |cell r i=>exact⟨e,ae,rfl,λ_ h=>h⟩) (λr cs ai=>⟨cs,ai,rfl⟩)
 have ax:∀l e,({env:=[],H:=st.H,aZ:=st.aZ}:aO).at l=some e→cB fW w β l=cB tmps w β l:=by
  intro l e ae;cases l with
  |slot s=>simp [aO.at,look]at ae
  |cell r i=>rfl
 constructor
 ·intro l e ae;rw [ax l e ae];exact Z.fC l e ae
 ·intro l e T ae aL;rw [ax l e ae];exact Z.own l e T ae aL
 ·intro l cQ e bp T T' b ae aL dR eo hb b2;rw [ax l e ae]at hb;rw [ax cQ bp dR]at b2;exact Z.uniq l cQ e bp T T' b ae aL dR eo hb b2
 ·intro l e T b r cs ae aL hb ai;rw [ax l e ae]at hb;exact Z.unbox l e T b r cs ae aL hb ai
 ·exact Z.box
 ·exact Z.inj
 ·exact Z.lt
 ·exact Z.mem
 ·exact Z.m0
 ·exact Z.frame
 ·exact Z.jc
 ·exact Z.jE
 ·exact Z.h_
def Ch(h:fX P K N M β g tmps w):∀{p:Path} {q:Prop},f8 tmps p→under g p q→q
 |[],_,_,ao=>ao
 |(t,o6)::p,q,hp,ao=>by
  have aA:tmps.getD t undef = .bool o6:=hp (t,o6) (by simp)
  have yF:f8 tmps p:=λx hx=>hp x (by simp [hx])
  simp only [under]at ao;split at ao
  ·rename_i b hb;refine Ch h yF (ao ?_);unfold BD at hb;split at hb
   ·rename_i q' bR hc;cases hb;by_cases jf:f8 tmps q'
    ·have:=vD ((h.cond t _ _ hc).1 jf)
     rw [aA]at this;cases this;rfl
    ·have:=(h.cond t _ _ hc).2 jf
     rw [aA]at this;cases this
   ·cases hb
   ·split at hb
    ·rename_i bR own he;cases hb;have:=vD (h.bF.fC (.slot t) _ he)
     simp only [cB]at this;rw [aA]at this;cases this;rfl
    ·cases hb
  ·exact Ch h yF ao
def WT(h:fX P K N M β g tmps w){opsA:Array Oper}(np:opsA.toList=ops)(hp:pR ops g o=some p):Region.wanted o (yielded opsA tmps)=true↔f8 tmps p:=by
 unfold pR at hp;split at hp
 ·rename_i hg;cases hp;simp [Region.wanted,hg,f8]
 ·rename_i j o6 hg;split at hp
  case h_2=>cases hp
  rename_i t aA
  have ck:yielded opsA tmps j=some o6↔tmps.getD t undef = .bool o6:=by
   unfold yielded;have:opsA[j]? = ops[j]? := by rw [←np];simp
   rw [this,aA];simp only [Option.bind_some,Array.getD_eq_getD_getElem?];cases bJ:tmps[t]? with
   |none=>simp [undef]
   |some v=>cases v<;>simp
  have hw:Region.wanted o (yielded opsA tmps)=true↔tmps.getD t undef = .bool o6:=by
   rw [←ck];simp [Region.wanted,hg]
  split at hp
  ·rename_i q b hc;cases hp;rw [hw];constructor
   ·intro gh x hx;rcases List.mem_append.1 hx with hx|hx
    ·by_cases jf:f8 tmps q
     ·exact jf x hx
     ·have:=(h.cond t _ _ hc).2 jf
      rw [gh]at this;cases this
    ·simp at hx;subst hx;exact gh
   ·intro jf;exact jf (t,o6) (by simp)
  ·cases hp
  ·split at hp
   ·cases hp;rw [hw];exact⟨λh x hx=>by simp at hx;subst hx;exact h,λh=>h (t,o6) (by simp)⟩
   ·cases hp
def Ol{t:Nat}{v:Value}{q:Path}(ao:∀x,x∈q→x.1≠t):f8 (tmps.setIfInBounds t v) q↔f8 tmps q:=by
 unfold f8;constructor<;>intro h x hx
 ·have:=h x hx
  rwa [Array.getD_eq_getD_getElem?,Array.getElem?_setIfInBounds_ne (Ne.symm (ao x hx)),←Array.getD_eq_getD_getElem?]at this
 ·have:=h x hx
  rwa [Array.getD_eq_getD_getElem?,Array.getElem?_setIfInBounds_ne (Ne.symm (ao x hx)),←Array.getD_eq_getD_getElem?]
def afR{t s:Nat}{v:Value}(h:s≠t):(tmps.setIfInBounds t v).getD s undef=tmps.getD s undef:=by
 rw [Array.getD_eq_getD_getElem?,Array.getElem?_setIfInBounds_ne (Ne.symm h),←Array.getD_eq_getD_getElem?]
def afS{ca:List (Nat×Path×D)}{t:Nat}(h:yg ca t=true){s:Nat}{q:Path}{d:D}(hc:look ca s=some (q,d))(hs:s≠t):∀x,x∈q→x.1≠t:=by
 unfold yg at h;rw [List.all_eq_true]at h;have:=h _ (r0 hc)
 simp only [Bool.or_eq_true,Nat.beq_eq,List.all_eq_true,Bool.not_eq_true']at this;rcases this with Z|Z
 ·exact absurd Z hs
 ·intro x hx e;have:=Z x hx
  rw [e]at this;simp at this
def Om(h:∀t q d,look g.ca t=some (q,d)→(f8 tmps q→cE M β (tmps.getD t undef) d)∧(¬ f8 tmps q→tmps.getD t undef=undef)){t:Nat}{v:Value}(b5:yg g.ca t=true){M':Mem}{β':Nat→Option Nat}
 (c8:M.le M') (hE:∀r b,β r=some b→β' r=some b):
 ∀s q d,look (del g.ca t) s=some (q,d)→(f8 (tmps.setIfInBounds t v) q→cE M' β' ((tmps.setIfInBounds t v).getD s undef) d)∧(¬ f8 (tmps.setIfInBounds t v) q→(tmps.setIfInBounds t v).getD s undef=undef):=by
 intro s q d hc;rw [qP]at hc;by_cases hs:t=s
 ·simp [hs]at hc
 ·rw [if_neg hs]at hc;rw [Ol (afS b5 hc (Ne.symm hs)),afR (Ne.symm hs)];exact⟨λjf=>(((h s q d hc).1 jf).mono c8).Na hE,(h s q d hc).2⟩
def Ci(ds:List Deferred):Act.eval ⟨tmps,ds⟩=Act.eval ⟨tmps,[]⟩:=by
 funext x;cases x<;>rfl
def WU{α:Type}:∀(a b:List (Nat×α)) (q:Nat),look (a++b) q=none→look a q=none∧look b q=none
 |[],b,q,h=>⟨rfl,h⟩
 |(j,x)::a,b,q,h=>by
  simp only [List.cons_append,ee]at h ⊢;by_cases hj:j=q
  ·simp [hj]at h
  ·simp only [hj,if_false]at h ⊢;exact WU a b q h
def fX.On(h:fX P K N M β g tmps w){β':Nat→Option Nat}{hs:List (Nat×List a')}(v7:∀r b,β' r=some b→β r=some b∨(look hs r).isSome=true):
 ∀s id,look g.ids s=some id→look (hs++g.H) id=none→∀b,β' id≠some b:=by
 intro s id hid ae b hb;obtain⟨Z,ab⟩:=WU _ _ _ ae;rcases v7 id b hb with aq|aq
 ·exact h.fresh s id hid ab b aq
 ·rw [Z]at aq;cases aq
def Oo(h:fX P K N M β g tmps w)(cF:fH P tt=true){opsA:Array Oper}(np:opsA.toList=ops)(hs:n9 (jZ P) tt N ops g o=some (.go e6))(cv:∀q,q∈e6.a7→q){Q:Exit→Act→World→Prop}{next:Act→World→Prop}
 (gw:∀fW w' M' β',fX P K N M' β' e6 fW w'→next ⟨fW,K.ds⟩ w'):
 if Region.wanted o (yielded opsA tmps)then o.wp P ⟨tmps,K.ds⟩ w next Q∨(o.asks P ⟨tmps,K.ds⟩ w∧LetsOut Q)else next ((⟨tmps,K.ds⟩:Act).put o.dst undef) w:=by
 unfold n9 at hs;split at hs
 case h_1=>cases hs
 rename_i p hp;have hw:=WT h np hp;split at hs
 ·cases hs
 ·rw [Bool.cond_eq_ite]at hs;split at hs<;>cases hs
 rename_i f b5
 dsimp only at hs
 by_cases jf:f8 tmps p
 ·rw [if_pos (
   hw.2 jf)]
  refine .inl ?_;have js:=WS (g:=g) (ops:=ops) ⟨h,jf,cF⟩ b5
  -- N1 follows once l' value is there
  have main:(∀q,q∈f.a7→q)∧∀v w',bX P K M β g f tmps v w'→next ((⟨tmps,K.ds⟩:Act).put o.dst v) w':=by
   split at hs
   ·rename_i v8;rw [Bool.cond_eq_ite]at hs;split at hs
    case isFalse=>cases hs
    rename_i vZ;have Cj:p=[]:=by simpa using vZ
    subst Cj;cases hs;refine⟨λq ao=>Ch h jf (cv _ (List.mem_append_left _ (List.mem_map.2 ⟨q,ao,rfl⟩))),?_⟩
    rintro v w' ⟨M',β',c8,hE,v7,cT,_⟩
    rw [v8];exact gw tmps w' M' β' ⟨cT,h.size,h.On v7,λs q d hc=>⟨λjf=>(((h.cond s q d hc).1 jf).mono c8).Na hE,(h.cond s q d hc).2⟩⟩
   ·rename_i t v8;rw [Bool.cond_eq_ite]at hs;split at hs
    case isFalse=>cases hs
    rename_i hc;simp only [Bool.and_eq_true,Nat.blt_eq]at hc;have bO:t<tmps.size:=by rw [h.size];exact hc.1
    rcases p with _|⟨x,Oq⟩<;>dsimp only at hs
    ·cases hs;refine⟨λq ao=>Ch h jf (cv _ (List.mem_append_left _ (List.mem_map.2 ⟨q,ao,rfl⟩))),?_⟩
     rintro v w' ⟨M',β',c8,hE,v7,cT,js⟩
     rw [v8];refine gw _ w' M' β' ⟨?_,by simpa using h.size,h.On v7,Om h.cond hc.2 c8 hE⟩
     cases he:f.e with
     |none=>exact cT.drop
     |some e=>
      obtain⟨Z,ab⟩:=js e he;exact cT.put bO Z (λT aL=>ab T _ aL)
    ·split at hs
     ·rename_i e he v' o3;rw [Bool.cond_eq_ite]at hs;split at hs
      case isFalse=>cases hs
      rename_i j';simp only [Bool.and_eq_true,List.all_eq_true,Nat.beq_eq,Bool.not_eq_true']at j';cases hs;refine⟨λq ao=>Ch h jf (cv _ (List.mem_append_left _ (List.mem_map.2 ⟨q,ao,rfl⟩))),?_⟩
      rintro v w' ⟨M',β',c8,hE,v7,cT,js⟩
      rw [v8];obtain⟨Z,_⟩:=js e he
      have kQ:∀y,y∈x::Oq→y.1≠t:=λy ck e=>by
       have:=j'.1 y ck
       rw [e]at this;simp at this
      refine gw _ w' M' β' ⟨?_,by simpa using h.size,by have:=h.On v7;rw [v']at this;exact this,λs q d ev=>?_⟩
      ·have:after g f={env:=g.env,H:=g.H,aZ:=g.aZ}:=by unfold after;rw [o3,v',j'.2];rfl
       rw [this]at cT;exact cT.drop
      ·rw [ee]at ev;by_cases lf:t=s
       ·rw [if_pos lf]at ev;cases ev;subst lf;rw [Ol kQ];refine⟨λ_=>?_,λhn=>absurd jf hn⟩
        have:(tmps.setIfInBounds t v).getD t undef=v:=by simp [bO]
        rw [this];exact Z
       ·rw [if_neg lf]at ev;exact Om h.cond hc.2 c8 hE s q d ev
     ·cases hs
  obtain⟨afT,jr⟩:=main;rcases js afT with⟨v,w',fi,lR⟩|⟨he,w',fi,lR⟩|⟨fn,vs,fi,v_⟩
  ·unfold Oper.wp;rw [Ci,fi];exact jr v w' lR
  ·unfold Oper.wp;rw [Ci,fi];exact jr undef w' lR
  ·unfold Oper.wp;rw [Ci,fi];refine v_.mono ?_
   rintro e w' ⟨v,rfl,lR⟩
   exact jr v w' lR
 ·have afU:Region.wanted o (yielded opsA tmps)=false:=by
   rw [Bool.eq_false_iff];exact λbJ=>jf (hw.1 bJ)
  rw [afU];simp only [Bool.false_eq_true,if_false];split at hs
  ·rename_i v8;rw [Bool.cond_eq_ite]at hs;split at hs
   case isFalse=>cases hs
   rename_i vZ;have Cj:p=[]:=by simpa using vZ
   subst Cj;exact absurd (λx hx=>by cases hx) jf
  ·rename_i t v8;rw [Bool.cond_eq_ite]at hs;split at hs
   case isFalse=>cases hs
   rename_i hc;simp only [Bool.and_eq_true,Nat.blt_eq]at hc;rcases p with _|⟨x,Oq⟩<;>dsimp only at hs
   ·exact absurd (λx hx=>by cases hx) jf
   ·split at hs
    ·rename_i e he v' o3;rw [Bool.cond_eq_ite]at hs;split at hs
     case isFalse=>cases hs
     rename_i j';simp only [Bool.and_eq_true,List.all_eq_true,Nat.beq_eq,Bool.not_eq_true']at j';cases hs;rw [v8]
     have kQ:∀y,y∈x::Oq→y.1≠t:=λy ck e=>by
      have:=j'.1 y ck
      rw [e]at this;simp at this
     refine gw _ w M β ⟨h.bF.drop,by simpa using h.size,h.fresh,λs q d ev=>?_⟩
     rw [ee]at ev;by_cases lf:t=s
     ·rw [if_pos lf]at ev;cases ev;subst lf;rw [Ol kQ];refine⟨λbJ=>absurd bJ jf,λ_=>?_⟩
      have bO:t<tmps.size:=by rw [h.size];exact hc.1
      simp [bO]
     ·rw [if_neg lf]at ev;exact Om h.cond hc.2 (Mem.le_refl _) (λ_ _ h=>h) s q d ev
    ·cases hs
end
section
variable {P:Program} {K:Ctx} {N E:Nat} {M:Mem} {β:Nat→Option Nat} {st:aO} {g e6:dz} {tmps:Array Value} {w:World} {o:Oper} {f:lH} {p:Path} {tt:dT} {ops:List Oper}
def WV(h:fX P K N M β g tmps w)(cF:fH P tt=true){opsA:Array Oper}(np:opsA.toList=ops){x:V}{st:aO}{a7:List Prop}(hs:n9 (jZ P) tt N ops g o=some (.aK x st a7))(cv:∀q,q∈a7→q){Q:Exit→Act→World→Prop}{next:Act→World→Prop}
 (gw:∀e dH w',tS P K N (.aK x) st e dH w'→Q e dH w'):
 if Region.wanted o (yielded opsA tmps)then o.wp P ⟨tmps,K.ds⟩ w next Q∨(o.asks P ⟨tmps,K.ds⟩ w∧LetsOut Q)else next ((⟨tmps,K.ds⟩:Act).put o.dst undef) w:=by
 unfold n9 at hs;split at hs
 case h_1=>cases hs
 rename_i p hp;have hw:=WT h np hp;split at hs
 ·cases hs
 ·rename_i y gf tT dC;rw [Bool.cond_eq_ite]at hs;split at hs
  case isFalse=>cases hs
  rename_i vZ;have Cj:p=[]:=by simpa using vZ
  subst Cj;cases hs;have jf:f8 tmps []:=λx hx=>by cases hx
  rw [if_pos (hw.2 jf)];refine .inl ?_;have js:=WS (g:=g) (ops:=ops) ⟨h,jf,cF⟩ dC;rcases js (λq ao=>cv q (List.mem_append_left _ ao)) with⟨v,fi,ai,rfl⟩|⟨fn,vs,fi,v_⟩
  ·unfold Oper.wp;rw [Ci,fi];exact gw _ _ _ ⟨v,rfl,rfl,M,β,ai,h.bF.pQ λs e he=>⟨e,he,rfl⟩⟩
  ·unfold Oper.wp;rw [Ci,fi];refine v_.mono ?_
   rintro e w' ⟨v,M',rfl,ai,cT⟩
   exact gw _ _ _ ⟨v,rfl,rfl,M',β,ai,cT⟩
 ·dsimp only at hs
  repeat' (first|(split at hs)|(rw [Bool.cond_eq_ite]at hs)|(cases hs;done))
def afV{co:gL}(hs:n9 co tt N ops g o=some (.go e6)):∀q,q∈g.a7→q∈e6.a7:=by
 intro q ao;unfold n9 at hs;split at hs
 case h_1=>cases hs
 split at hs
 ·cases hs
 ·rw [Bool.cond_eq_ite]at hs;split at hs<;>cases hs
 ·dsimp only at hs
  repeat' (first|(split at hs)|(rw [Bool.cond_eq_ite]at hs)|(cases hs;exact List.mem_append_right _ ao)|(cases hs;done))
def afW{co:gL}{x:V}{st:aO}{a7:List Prop}(hs:n9 co tt N ops g o=some (.aK x st a7)):∀q,q∈g.a7→q∈a7:=by
 intro q ao;unfold n9 at hs;split at hs
 case h_1=>cases hs
 split at hs
 ·cases hs
 ·rw [Bool.cond_eq_ite]at hs;split at hs<;>cases hs;exact List.mem_append_right _ ao
 ·dsimp only at hs
  repeat' (first|(split at hs)|(rw [Bool.cond_eq_ite]at hs)|(cases hs;done))
def WW:BH→List Prop
 |.go g=>g.a7
 |.aK _ _ a7=>a7
def WX{co:gL}:∀{l:List Oper} {g:dz} {fin:BH},tz co tt N ops l g=some fin→∀q,q∈g.a7→q∈WW fin
 |[],g,fin,h,q,ao=>by simp [tz]at h;subst h;exact ao
 |o::l,g,fin,h,q,ao=>by
  simp only [tz]at h;split at h
  ·rename_i e6 hs;exact WX h q (afV hs q ao)
  ·cases fin with
   |go e6=>exact absurd h (by intro bJ;rename_i dQ;exact dQ _ bJ)
   |aK x st a7=>exact afW h q ao
def Ot(cF:fH P tt=true){opsA:Array Oper}(np:opsA.toList=ops){Q:Exit→Act→World→Prop}{fin:BH}(nq:∀q,q∈WW fin→q)
 (eQ:match fin with
  |.go e6=>∀fW w' M' β',fX P K N M' β' e6 fW w'→Q .normal ⟨fW,K.ds⟩ w'
  |.aK x st _=>∀e dH w',tS P K N (.aK x) st e dH w'→Q e dH w'):
 ∀(l:List Oper) (k:Nat) (g:dz) (tmps:Array Value) (w:World) (M:Mem) (β:Nat→Option Nat),(∀j,l[j]? = ops[k+j]?)→fX P K N M β g tmps w→tz (jZ P) tt N ops l g=some fin→
  wpOps P opsA Q (List.range' k l.length) ⟨tmps,K.ds⟩ w
 |[],k,g,tmps,w,M,β,_,h,ai=>by
  simp [tz]at ai;subst ai;exact eQ tmps w M β h
 |o::l,k,g,tmps,w,M,β,ae,h,ai=>by
  have hk:opsA[k]? = some o:=by
   have:=ae 0
   simp at this
   rw [←Array.getElem?_toList,np];exact this.symm
  simp only [List.length_cons,List.range'_succ,wpOps,hk];simp only [tz]at ai;split at ai
  ·rename_i e6 hs;refine Oo h cF np hs (λq ao=>nq q (WX ai q ao)) (λfW w' M' β' cN=>?_)
   exact Ot cF np nq eQ l (k+1) e6 fW w' M' β' (λj=>by have:=ae (j+1);simpa [Nat.add_assoc,Nat.add_comm 1 j]using this) cN ai
  ·cases fin with
   |go e6=>exact absurd ai (by intro bJ;rename_i dQ;exact dQ _ bJ)
   |aK x st a7=>exact WV h cF np ai nq (λe dH w' b3=>eQ e dH w' b3)
def bd(P:Program)(N E:Nat)(c:Code)(Q:cu→aO→Prop)(st:aO):Prop:=
 ∀(K:Ctx),(∀r b,K.lK r=some b→r<E)→∀(a:Act) (w:World),tS P K N .normal st .normal a w→c.wp P (λe dH w'=>∃fJ b_,tS P K N fJ b_ e dH w'∧Q fJ b_) a w
def bd.mono{c:Code}{Q WY:cu→aO→Prop}(h:bd P N E c Q st)(ao:∀fJ b_,Q fJ b_→WY fJ b_):bd P N E c WY st:=
 λK eI a w hs=>wp_mono (h K eI a w hs) λ_ _ _ ⟨fJ,b_,Z,ab⟩=>⟨fJ,b_,Z,ao _ _ ab⟩
@[reducible] def cu.then (next : aO → Prop) (Q : cu → aO → Prop) : cu → aO → Prop
 |.normal,st=>next st
 |e,st=>Q e st
@[reducible] def cu.inBlock (id : Nat) (Q : cu → aO → Prop) : cu → aO → Prop
 |.exit i,st=>if i=id then Q .normal st else Q (.exit i) st
 |e,st=>Q e st
def bd.seq{x y:Code}{Q:cu→aO→Prop}(h:bd P N E x (cu.then (bd P N E y Q) Q) st):bd P N E (.seq x y) Q st:=by
 intro K eI a w hs;refine wp_seq (wp_mono (h K eI a w hs) ?_)
 rintro e dH w' ⟨fJ,b_,Z,ab⟩
 cases fJ with
 |normal=>
  obtain⟨rfl,aq⟩:=Z;exact ab K eI dH w' ⟨rfl,aq⟩
 |exit i=>obtain⟨rfl,aq⟩:=Z;exact⟨.exit i,b_,⟨rfl,aq⟩,ab⟩
 |ret=>obtain⟨rfl,aq⟩:=Z;exact⟨.ret,b_,⟨rfl,aq⟩,ab⟩
 |aK x=>obtain⟨v,rfl,aq⟩:=Z;exact⟨.aK x,b_,⟨v,rfl,aq⟩,ab⟩
def bd.skip{Q:cu→aO→Prop}(h:Q .normal st):bd P N E .skip Q st:=λ_ _ _ _ hs=>wp_skip ⟨.normal,st,hs,h⟩
def bd.label{l:Nat}{Q:cu→aO→Prop}(h:Q .normal st):bd P N E (.label l) Q st:=λ_ _ _ _ hs=>wp_label ⟨.normal,st,hs,h⟩
def bd.exit{id:Nat}{Q:cu→aO→Prop}(h:Q (.exit id) st):bd P N E (.exit id) Q st:=λ_ _ _ _ hs=>wp_exit ⟨.exit id,st,⟨rfl,hs.2⟩,h⟩
def bd.ret{Q:cu→aO→Prop}(h:Q .ret st):bd P N E .ret Q st:=λ_ _ _ _ hs=>wp_ret ⟨.ret,st,⟨rfl,hs.2⟩,h⟩
def bd.block{id:Nat}{c:Code}{Q:cu→aO→Prop}(h:bd P N E c (cu.inBlock id Q) st):bd P N E (.block id c) Q st:=by
 intro K eI a w hs;refine wp_block (wp_mono (h K eI a w hs) ?_)
 rintro e dH w' ⟨fJ,b_,Z,ab⟩
 cases fJ with
 |normal=>obtain⟨rfl,aq⟩:=Z;exact⟨.normal,b_,⟨rfl,aq⟩,ab⟩
 |exit i=>
  obtain⟨rfl,aq⟩:=Z;by_cases hi:i=id
  ·simp only [cu.inBlock,hi,if_true]at ab;simp only [Exit.inBlock,hi,if_true];exact⟨.normal,b_,⟨rfl,aq⟩,ab⟩
  ·simp only [cu.inBlock,hi,if_false]at ab;simp only [Exit.inBlock,hi,if_false];exact⟨.exit i,b_,⟨rfl,aq⟩,ab⟩
 |ret=>obtain⟨rfl,aq⟩:=Z;exact⟨.ret,b_,⟨rfl,aq⟩,ab⟩
 |aK x=>obtain⟨v,rfl,aq⟩:=Z;exact⟨.aK x,b_,⟨v,rfl,aq⟩,ab⟩
def bd.cond{c:Nat}{x y:Code}{Q:cu→aO→Prop}(b:Bool)(own:Option TypeId)(hc:look st.env c=some ⟨.v (.bool b),own⟩)(aA:b=true→bd P N E x Q st)(b5:b=false→bd P N E y Q st):bd P N E (.cond (.tmp c) x y) Q st:=by
 intro K eI a w hs;obtain⟨_,_,_,M,β,cT⟩:=id hs;have ax:a.eval (.tmp c) = .bool b:=vD (cT.fC (.slot c) _ hc);exact wp_cond_split ax (λhb=>aA hb K eI a w hs) (λhb=>b5 hb K eI a w hs)
def bd.loop{c:Code}{Q:cu→aO→Prop}{σ:Type}(I:Nat→σ→aO→Prop)(WZ:∀n s st,I n s st→∃m,n=m+1∧bd P N E c (cu.then (λb_=>∃tD,I m tD b_) Q) st)
 {n:Nat} {s:σ} {st:aO} (h0:I n s st):bd P N E (.loop c) Q st:=by
 intro K eI a w hs b k cs
 have key:∀n s st a w,I n s st→tS P K N .normal st .normal a w→
  ∃e dH w',(∃fJ b_,tS P K N fJ b_ e dH w'∧Q fJ b_)∧Arrives P (lone (b.at a (.code c :: .inLoop c::k)) cs w) b k cs e dH w':=by
  intro n;induction n with
  |zero=>
   intro s st a w mc _;obtain⟨m,hm,_⟩:=WZ 0 s st mc;omega
  |succ n aR=>
   intro s st a w mc hs;obtain⟨m,hm,Og⟩:=WZ (n+1) s st mc;have:m=n:=by omega
   subst this;obtain⟨e,He,Hf,⟨fJ,b_,Z,ab⟩,yG⟩:=Og K eI a w hs b (.inLoop c::k) cs;cases fJ with
   |normal=>
    obtain⟨rfl,aq⟩:=Z;obtain⟨tD,afX⟩:=ab;obtain⟨afY,afZ,af0,af1,af2⟩:=aR tD b_ He Hf afX ⟨rfl,aq⟩;exact⟨afY,afZ,af0,af1,.of_steps (Steps.trans yG (.one step_inLoop)) af2⟩
   |exit i=>obtain⟨rfl,aq⟩:=Z;exact⟨_,He,Hf,⟨.exit i,b_,⟨rfl,aq⟩,ab⟩,.pass (x:=.inLoop c) rfl (λ_ _=>.inl (by simp)) yG⟩
   |ret=>obtain⟨rfl,aq⟩:=Z;exact⟨_,He,Hf,⟨.ret,b_,⟨rfl,aq⟩,ab⟩,.pass (x:=.inLoop c) rfl (λ_ _=>.inl (by simp)) yG⟩
   |aK x=>obtain⟨v,rfl,aq⟩:=Z;exact⟨_,He,Hf,⟨.aK x,b_,⟨v,rfl,aq⟩,ab⟩,.pass (x:=.inLoop c) rfl (λ_ _=>.inl (by simp)) yG⟩
 obtain⟨e,dH,w',ao,yG⟩:=key n s st a w h0 hs;exact⟨e,dH,w',ao,.of_steps (.one step_loop) yG⟩
end
def yH(tt:dT)(st:aO):ResultVar→Option D
 |.tmp t=>(look st.env t).map (·.d)
 |.cell a t=>match look st.env a,look tt t with
  |some ⟨.ptr r off,_⟩,some aU=>match look st.H r with
   |some cs=>bif aU.k.isAgg then(bif Nat.ble (off+aU.size) cs.length then some (qK (((cs.drop off).take aU.size).map (·.d)))else none) else(cs[off]?).map (·.d)
   |none=>none
  |_,_=>none
def W0(tt:dT)(st:aO):List ResultVar→Option (D×Option TypeId)
 |[.tmp t]=>(look st.env t).map λe=>(e.d,e.own)
 |[x]=>(yH tt st x).map (·,none)
 |xs=>(mapM' (yH tt st) xs).map λds=>(.bW ds,none)
def leave(tt:dT)(E:Nat)(rs:List ResultVar)(st:aO):Option (Out×List (List a')):=
 match W0 tt st rs,boxes st.H (List.range E) with
 |some (d,own),some b0=>bif below E d&&b0.all (tA E)then some (.ret d own,b0)else none
 |_,_=>none
def Hg(E:Nat)(H:List (Nat×List a')):Option (List (List a')):=
 match boxes H (List.range E) with
 |some b0=>bif b0.all (tA E)then some b0 else none
 |none=>none
def oh(H:List (List a')):List (List a'):=H.map λb=>b.map λe=>{d:=e.d}
def tU(tt:dT)(E:Nat)(rs:List ResultVar)(R:Out→List (List a')→Prop):cu→aO→Prop
 |.normal,st=>∃o b0,leave tt E rs st=some (o,b0)∧R o b0
 |.ret,st=>∃o b0,leave tt E rs st=some (o,b0)∧R o b0
 |.aK x,st=>∃b0,Hg E st.H=some b0∧R (.aK x) (oh b0)
 |.exit _,_=>False
section
variable {P:Program} {K:Ctx} {N E:Nat} {M:Mem} {β:Nat→Option Nat} {st:aO} {tmps:Array Value} {w:World} {tt:dT}
def Hh(tmps:Array Value):ResultVar→Sem Value
 |.tmp t=>pure (tmps.getD t undef)
 |.cell a t=>do loadVar t (←asAddr (tmps.getD a undef))
def W1(h:bV P K M β st tmps w)(cF:fH P tt=true){x:ResultVar}{d:D}(hx:yH tt st x=some d):
 ∃v,(Hh tmps x).run P w = .ok v w∧cE M β v d:=by
 cases x with
 |tmp t=>
  simp only [yH,Option.map_eq_some_iff]at hx;obtain⟨e,he,rfl⟩:=hx;exact⟨_,rfl,h.fC (.slot t) e he⟩
 |cell a t=>
  simp only [yH]at hx;split at hx
  case h_2=>cases hx
  rename_i r off own aU ha ae;obtain⟨row⟩:=eO cF ae;split at hx
  case h_2=>cases hx
  rename_i cs ai;obtain⟨b,hb,ax⟩:=r5 (h.fC (.slot a) _ ha);simp only [cB]at ax;obtain⟨bR,vs,T,b2,bJ,hlen,_,_,jp,mR⟩:=h.box r cs ai;rw [hb]at b2;cases b2
  have W2:∀{u:Value},(Instr.loadAt t (.pointer (some ⟨b,off,none⟩))).run P w = .ok u w→(do loadVar t (←asAddr (tmps.getD a undef)):Sem Value).run P w = .ok u w:=by
   intro u hu;rw [ax];simpa [Instr.loadAt,Instr.sureAddr,asAddr]using hu
  rw [Bool.cond_eq_ite]at hx;split at hx
  ·rename_i jX;rw [Bool.cond_eq_ite]at hx;split at hx
   case isFalse=>cases hx
   rename_i hle;simp only [Nat.ble_eq]at hle;cases hx;refine⟨_,W2 (VI (P:=P) row (off:=off) bJ (by omega) jX),?_⟩
   refine GM (by simp;omega) (λv ax=>jp v (List.mem_of_mem_drop (List.mem_of_mem_take ax))) (λi v c ax hc=>?_)
   rw [List.getElem?_map,Option.map_eq_some_iff]at hc;obtain⟨e,he,rfl⟩:=hc;rw [List.getElem?_take]at ax he;split at ax
   ·rename_i hi;rw [if_pos hi,List.getElem?_drop]at he;rw [List.getElem?_drop]at ax;have:=h.fC (.cell r (off+i)) e (by simp [aO.at,ai,he])
    simpa [cB,hb,cell_of_heap bJ,ax]using this
   ·cases ax
  ·rename_i jX;simp only [Option.map_eq_some_iff]at hx;obtain⟨e,he,rfl⟩:=hx;obtain⟨hG,aeG,pU,v,f7,Wa,fa,cx⟩:=Nf h ai he;rw [hb]at f7;cases f7;refine⟨v,W2 (Nr (P:=P) row (by rw [cell_of_heap Wa,fa]) (by simpa using jX)),?_⟩
   have:=h.fC (.cell r off) e (by simp [aO.at,ai,he])
   rwa [cx]at this
def W3(h:bV P K M β st tmps w)(cF:fH P tt=true):∀{xs:List ResultVar} {ds:List D},mapM' (yH tt st) xs=some ds→
 ∃vs:List Value,(xs.mapM (Hh tmps)).run P w = .ok vs w∧vs.length=ds.length∧
  ∀(i:Nat) v d,vs[i]? = some v→ds[i]? = some d→cE M β v d
 |[],ds,hx=>by simp [mapM']at hx;subst hx;exact⟨[],rfl,rfl,by simp⟩
 |x::xs,ds,hx=>by
  simp only [mapM']at hx;split at hx
  case h_2=>cases hx
  rename_i d afF hd ic;cases hx;obtain⟨v,ax,gR⟩:=W1 h cF hd;obtain⟨vs,nm,ae,ai⟩:=W3 h cF ic;refine⟨v::vs,?_,by simp [ae],λi u c hu hc=>?_⟩
  ·simp only [List.mapM_cons,Sem.run_bind,ax,Result.andThen_ok,nm,Sem.run_pure]
  ·cases i with
   |zero=>simp at hu hc;subst hu;subst hc;exact gR
   |succ i=>simp at hu hc;exact ai i u c hu hc
def af3{H:List (Nat×List a')}{E:Nat}{b0:List (List a')}(h:boxes H (List.range E)=some b0):b0.length=E∧∀r,r<E→look H r=b0[r]? ∧ (b0[r]?).isSome=true:=by
 obtain⟨Z,ab⟩:=vO h;exact⟨by simpa using Z,λr ai=>ab r r (by simp [ai])⟩
def bV.leave(h:bV P K M β st tmps w){b0:List (List a')}(Ck:boxes st.H (List.range E)=some b0)(W4:b0.all (tA E)=true)(eI:∀r b,K.lK r=some b→r<E){v:Value}{d:D}{own:Option TypeId}
 (ax:cE M β v d) (hd:below E d=true) (gt:∀T,own=some T→∃l,nj P K M β {env:=hD l st.env,H:=st.H,aZ:=st.aZ} tmps w (.slot 0) v T∧True):
 ∃ β',bV P K M β' {env:=[(0,{d,own})],H:=cZ 0 b0,aZ:=E} #[v] w:=by
 obtain⟨ae,ma⟩:=af3 Ck;have Z:=h.Cg #[undef]
 have kS:∀r cs,look (cZ 0 b0) r=some cs→r<E∧look st.H r=some cs:=by
  intro r cs ai;rw [nn]at ai;have bO:r<E:=by have:=(List.getElem?_eq_some_iff.1 ai).1;omega
  exact⟨bO,by rw [(ma r bO).1];exact ai⟩
 have hle:E≤st.aZ∨E=0:=by
  by_cases h0:E=0
  ·exact .inr h0
  ·obtain⟨ab,aq⟩:=ma (E-1) (by omega)
   obtain⟨cs,ev⟩:=Option.isSome_iff_exists.1 aq;rw [ev]at ab;obtain⟨b,_,_,hb,_⟩:=h.box _ cs ab;have:=h.lt _ b hb
   exact .inl (by omega)
 have ab:bV P K M β {env:=[],H:=cZ 0 b0,aZ:=st.aZ} #[undef] w:=by
  refine Z.sub rfl (λl e ae=>?_) (λr cs ai=>⟨cs,(kS r cs ai).2,rfl⟩)
  cases l with
  |slot s=>simp [aO.at,look]at ae
  |cell r i=>
   simp only [aO.at]at ae ⊢;cases ai:look (cZ 0 b0) r with
   |none=>simp [ai]at ae
   |some cs=>simp [ai]at ae;exact⟨e,by simp [(kS r cs ai).2,ae],rfl,λ_ h=>h⟩
 -- l' slot
 have aq:bV P K M β {env:=[(0,{d,own})],H:=cZ 0 b0,aZ:=st.aZ} #[v] w:=by
  have af4:=ab.put (t:=0) (v:=v) (e:={d,own}) (by simp) ax (λT aL=>?_)
  ·simpa using af4
  ·obtain⟨l,hn,_⟩:=gt T aL;refine⟨hn.own,λjb e T' b fc eo _ hb b2=>?_,λb r cs hb ai=>hn.unbox b r cs hb (kS r cs ai).2⟩
   cases jb with
   |slot s=>simp [aO.at,look]at fc
   |cell r i=>
    simp only [aO.at]at fc;cases ai:look (cZ 0 b0) r with
    |none=>simp [ai]at fc
    |some cs=>
     simp [ai]at fc;exact hn.apart (.cell r i) e T' b (by simp [aO.at,(kS r cs ai).2,fc]) eo (by simp) hb b2
 refine⟨λr=>if r<E then β r else none,?_⟩
 have cx:∀l e,({env:=[(0,{d,own})],H:=cZ 0 b0,aZ:=st.aZ}:aO).at l=some e→cB #[v] w (λr=>if r<E then β r else none) l=cB #[v] w β l:=by
  intro l e ae;cases l with
  |slot s=>rfl
  |cell r i=>
   simp only [aO.at]at ae;cases ai:look (cZ 0 b0) r with
   |none=>simp [ai]at ae
   |some cs=>simp [cB,(kS r cs ai).1]
 have nk:∀l e,({env:=[(0,{d,own})],H:=cZ 0 b0,aZ:=st.aZ}:aO).at l=some e→below E e.d=true:=by
  intro l e ae;cases l with
  |slot s=>
   simp only [aO.at,ee]at ae;split at ae
   ·cases ae;exact hd
   ·simp [look]at ae
  |cell r i=>
   simp only [aO.at]at ae;cases ai:look (cZ 0 b0) r with
   |none=>simp [ai]at ae
   |some cs=>
    simp [ai]at ae;rw [nn]at ai;rw [List.all_eq_true]at W4;exact Nm (W4 cs (List.mem_of_getElem? ai)) ae
 constructor
 ·intro l e ae;rw [cx l e ae];exact(aq.fC l e ae).Vx (λr ai=>by simp [ai]) (nk l e ae)
 ·intro l e T ae aL;rw [cx l e ae];exact aq.own l e T ae aL
 ·intro l cQ e bp T T' b ae aL dR eo hb b2;rw [cx l e ae]at hb;rw [cx cQ bp dR]at b2;exact aq.uniq l cQ e bp T T' b ae aL dR eo hb b2
 ·intro l e T b r cs ae aL hb ai;rw [cx l e ae]at hb;have:=aq.unbox l e T b r cs ae aL hb ai
  simpa [(kS r cs ai).1]using this
 ·intro r cs ai;obtain⟨b,vs,T,aN,bn⟩:=aq.box r cs ai;exact⟨b,vs,T,by simpa [(kS r cs ai).1]using aN,bn⟩
 ·intro r dL b cs cs' ai ge hb b2;exact aq.inj r dL b cs cs' ai ge (by simpa [(kS r cs ai).1]using hb) (by simpa [(kS dL cs' ge).1]using b2)
 ·intro r b hb;by_cases bO:r<E
  ·exact bO
  ·simp [bO]at hb
 ·exact aq.mem
 ·exact aq.m0
 ·exact aq.frame
 ·intro r b hb;simp [eI r b hb,aq.jc r b hb]
 ·exact aq.jE
 ·exact aq.h_
def bV.era{env:List (Nat×a')}{H:List (List a')}{n:Nat}(h:bV P K M β {env:=env,H:=cZ 0 H,aZ:=n} tmps w):bV P K M β {env:=env,H:=cZ 0 (oh H),aZ:=n} tmps w:=by
 refine h.sub rfl (λl e ae=>?_) (λr cs ai=>?_)
 ·cases l with
  |slot s=>exact⟨e,ae,rfl,λ_ h=>h⟩
  |cell r i=>
   simp only [aO.at,nn,oh,List.getElem?_map]at ae ⊢;cases hb:H[r]? with
   |none=>simp [hb]at ae
   |some b=>
    simp only [hb,Option.map_some,Option.bind_some,List.getElem?_map,Option.map_eq_some_iff]at ae;obtain⟨cc,h0,rfl⟩:=ae;exact⟨cc,by simpa using h0,rfl,λT aL=>by cases aL⟩
 ·simp only [nn,oh,List.getElem?_map,Option.map_eq_some_iff]at ai ⊢;obtain⟨b,hb,rfl⟩:=ai;exact⟨b,hb,by simp⟩
def Cl{fn:Func}{E:Nat}{fW:Array Value}{w':World}{b_:aO}{M':Mem}{β':Nat→Option Nat}{o:Out}{b0:List (List a')}(cF:fH P tt=true)(eI:∀r b,K.lK r=some b→r<E)(hs:bV P K M' β' b_ fW w')
 (ae:Ab.leave tt E fn.results.toList b_=some (o,b0)):
 ∃v,(results fn fW).run P w' = .ok v w'∧∃mY M' β',Ending.returned v=tJ o mY∧bV P K M' β' {env:=iH o,H:=cZ 0 b0,aZ:=E} #[mY] w':=by
 unfold Ab.leave at ae;split at ae
 case h_2=>cases ae
 rename_i d own H1 js Ck;rw [Bool.cond_eq_ite]at ae;split at ae
 case isFalse=>cases ae
 rename_i hc;simp only [Bool.and_eq_true]at hc;cases ae
 -- l' value of l' results
 have cx:∃v,(results fn fW).run P w' = .ok v w'∧cE M' β' v d∧∀T,own=some T→∃l,nj P K M' β' {env:=hD l b_.env,H:=b_.H,aZ:=b_.aZ} fW w' (.slot 0) v T∧True:=by
  have hm:∀{vs:List Value},(fn.results.toList.mapM (Hh fW)).run P w' = .ok vs w'→
   (results fn fW).run P w' = .ok (if h:vs.length=1 then vs[0]else .tuple ⟨vs⟩) w':=by
   intro vs nm
   have js:results fn fW=(do let vs ←fn.results.mapM (Hh fW);pure (if h:vs.size=1 then vs[0]else .tuple vs)):=by
    unfold results
    congr 2
   rw [js,show fn.results=⟨fn.results.toList⟩from rfl,List.mapM_toArray]
   simp only [Sem.run_bind,Sem.run_map,nm,Result.andThen_ok,Sem.run_pure];simp
  unfold W0 at js;split at js
  ·rename_i t aA;simp only [Option.map_eq_some_iff,Prod.mk.injEq]at js;obtain⟨e,he,rfl,rfl⟩:=js;have jG:=hs.fC (.slot t) e he;refine⟨fW.getD t undef,?_,jG,λT aL=>⟨[t],hs.hand he aL (.slot 0),trivial⟩⟩
   have:=hm (vs:=[fW.getD t undef]) (by rw [aA];rfl)
   simpa using this
  ·rename_i x dQ hx;simp only [Option.map_eq_some_iff,Prod.mk.injEq]at js;obtain⟨dX,jF,rfl,rfl⟩:=js;obtain⟨v,ax,gR⟩:=W1 hs cF jF;refine⟨v,?_,gR,by simp⟩
   have:=hm (vs:=[v]) (by rw [hx];simp only [List.mapM_cons,List.mapM_nil,Sem.run_bind,ax,Result.andThen_ok,Sem.run_pure])
   simpa using this
  ·simp only [Option.map_eq_some_iff,Prod.mk.injEq]at js;obtain⟨ds,ic,rfl,rfl⟩:=js;obtain⟨vs',nm,ae,gR⟩:=W3 hs cF ic;refine⟨.tuple ⟨vs'⟩,?_,.bW vs' ds ae gR,by simp⟩
   have dQ:vs'.length≠1:=by
    rename_i Z ab;rw [ae,(tG ic).1];intro bJ;obtain⟨x,hx⟩:=List.length_eq_one_iff.1 bJ;exact ab x hx
   have:=hm nm
   simpa [dQ]using this
 obtain⟨v,fi,gR,gt⟩:=cx;obtain⟨Cm,nq⟩:=hs.leave Ck hc.2 eI gR hc.1 gt;exact⟨v,fi,v,M',Cm,rfl,nq⟩
def bV.wa{P:Program}{K:Ctx}{M:Mem}{β:Nat→Option Nat}{st:aO}{tmps:Array Value}{w:World}(h:bV P K M β st tmps w)(ds:List Deferred):bV P {K with ds:=ds} M β st tmps w:=
 ⟨h.fC,h.own,h.uniq,h.unbox,h.box,h.inj,h.lt,h.mem,h.m0,h.frame,h.jc,h.jE,h.h_⟩
def Ou{args:List D}{et:List (Nat×TypeId)}{H:List (List a')}{vs:List Value}{n:Nat}(hlen:vs.length=args.length)(cT:bV P K M β {env:=h2 args et,H:=cZ 0 H,aZ:=H.length} ⟨vs⟩ w):
 bV P K M β {env:=h2 args et,H:=cZ 0 H,aZ:=H.length} ((⟨vs⟩:Array Value)++Array.replicate n undef) w:=by
 have ax:∀l e,({env:=h2 args et,H:=cZ 0 H,aZ:=H.length}:aO).at l=some e→cB ((⟨vs⟩:Array Value)++Array.replicate (n) undef) w β l=cB ⟨vs⟩ w β l:=by
  intro l e ae;cases l with
  |slot s=>
   simp only [aO.at,h2,nn,B1,Option.map_eq_some_iff]at ae;obtain⟨d,hd,_⟩:=ae;have hs:s<vs.length:=by have:=(List.getElem?_eq_some_iff.1 hd).1;omega
   simp only [cB,Array.getD_eq_getD_getElem?];rw [Array.getElem?_append_left (by simpa using hs)]
  |cell r i=>rfl
 constructor
 ·intro l e ae;rw [ax l e ae];exact cT.fC l e ae
 ·intro l e T ae aL;rw [ax l e ae];exact cT.own l e T ae aL
 ·intro l cQ e bp T T' b ae aL dR eo hb b2;rw [ax l e ae]at hb;rw [ax cQ bp dR]at b2;exact cT.uniq l cQ e bp T T' b ae aL dR eo hb b2
 ·intro l e T b r cs ae aL hb ai;rw [ax l e ae]at hb;exact cT.unbox l e T b r cs ae aL hb ai
 ·exact cT.box
 ·exact cT.inj
 ·exact cT.lt
 ·exact cT.mem
 ·exact cT.m0
 ·exact cT.frame
 ·exact cT.jc
 ·exact cT.jE
 ·exact cT.h_
def qX.of_wp {f : FuncId} {fn : Func} {c : Code} {args : List D} {et : List (Nat × TypeId)} {H : List (List a')} {R : Out → List (List a') → Prop} (cF : fH P tt = true) (b5 : P.funcs[f]? = some fn) (hb : fn.body = some c) (j_ : decide (fn.name = "runtime.NumGoroutine") = false)
 (e7:Nat.ble args.length fn.ntmps=true) (h:bd P fn.ntmps H.length c (tU tt H.length fn.results.toList R) {env:=h2 args et,H:=cZ 0 H,aZ:=H.length}):qX P f args et H R:=by
 refine⟨⟨fn,b5,by rw [hb];rfl,by simpa using j_⟩,?_⟩
 intro cG w vs M β hlen Ov Ow
 suffices key:∀K:Ctx,K.ds=[]→bV P K M β {env:=h2 args et,H:=cZ 0 H,aZ:=H.length} ⟨vs⟩ w→(∀r b,β r=some b→K.lK r=some b)→
  Calls P f ⟨vs⟩ w λe w'=>∃o b0 v M' β',R o b0∧e=tJ o v∧bV P K M' β' {env:=iH o,H:=cZ 0 b0,aZ:=H.length} #[v] w' from
  (key {cG with ds:=[]} rfl (Ov.wa []) Ow).mono λe w' ⟨o,b0,v,M',β',Z,ab,aq⟩=>⟨o,b0,v,M',β',Z,ab,aq.wa cG.ds⟩
 intro K ic cT hE;have eI:∀r b,K.lK r=some b→r<H.length:=λr b hb=>cT.lt r b (cT.jc r b hb)
 simp only [Nat.ble_eq]at e7;have af5:=Ou (n:=fn.ntmps-(⟨vs⟩:Array Value).size) hlen cT;have af6:=h K eI {tmps:=(⟨vs⟩:Array Value)++Array.replicate (fn.ntmps-(⟨vs⟩:Array Value).size) undef,defers:=[]} w ⟨rfl,ic.symm,by simp;omega,M,β,af5⟩
 refine calls_of_wp b5 hb (wp_mono af6 ?_)
 have fin:∀(dH:Act) (w':World) (b_:aO) M' β',bV P K M' β' b_ dH.tmps w'→(∃o b0,Ab.leave tt H.length fn.results.toList b_=some (o,b0)∧R o b0)→
  ∃v,(results fn dH.tmps).run P w' = .ok v w'∧∃o b0 mY M' β',R o b0∧Ending.returned v=tJ o mY∧bV P K M' β' {env:=iH o,H:=cZ 0 b0,aZ:=H.length} #[mY] w':=by
  intro dH w' b_ M' β' hs ⟨o,b0,ae,Cn⟩;obtain⟨v,Z,mY,BT,BU,ab,aq⟩:=Cl cF eI hs ae;exact⟨v,Z,o,b0,mY,BT,BU,Cn,ab,aq⟩
 rintro e dH w' ⟨fJ,b_,Z,ab⟩
 cases fJ with
 |normal=>
  obtain⟨rfl,hd,_,M',β',hs⟩:=Z;exact⟨hd.trans ic,fin dH w' b_ M' β' hs ab⟩
 |ret=>
  obtain⟨rfl,hd,_,M',β',hs⟩:=Z;exact⟨hd.trans ic,fin dH w' b_ M' β' hs ab⟩
 |exit i=>exact ab.elim
 |aK x=>
  obtain⟨v,rfl,hd,M',β',gR,hs⟩:=Z;obtain⟨H1,ae,Cn⟩:=ab;unfold Hg at ae;split at ae
  case h_2=>cases ae
  rename_i cS Ck;rw [Bool.cond_eq_ite]at ae;split at ae
  case isFalse=>cases ae
  rename_i hc;cases ae;obtain⟨Cm,nq⟩:=hs.leave (own:=none) Ck hc eI (.v v x gR) rfl (by simp)
  exact⟨hd.trans ic,.aK x,oh H1,v,M',Cm,Cn,rfl,nq.era⟩
end
end Go.Ab

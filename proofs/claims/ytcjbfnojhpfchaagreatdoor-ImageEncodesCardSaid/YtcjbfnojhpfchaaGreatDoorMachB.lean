/- The abstract machine: a step of code over plain data, proved against the model. -/
import Derived.Laws.Build
import Derived.Laws.IdiomStrings
import Derived.Test.YtcjbfnojhpfchaaGreatDoorMachA
set_option linter.all false
namespace Go.Ab
def qk:Nat→List D→List (Nat×TypeId)→List a1
 |_,[],_=>[]
 |i,d::l,ed=>{d,own:=look ed i}::qk (i+1) l ed
def gU(args:List D)(ed:List (Nat×TypeId)):List (Nat×a1):=cK 0 (qk 0 args ed)
def xW:∀(l:List D) (k i:Nat) (ed:List (Nat×TypeId)),(qk k l ed)[i]? = (l[i]?).map λd=>({d,own:=look ed (k+i)}:a1)
 |[],k,i,ed=>by simp [qk]
 |d::l,k,i,ed=>by
  cases i with
  |zero=>simp [qk]
  |succ i=>
   simp only [qk,List.getElem?_cons_succ,xW l (k+1) i ed];rw [show k+1+i=k+(i+1)by omega]
def hJ:Out→List (Nat×a1)
 |.ret d own=>[(0,{d,own})]
 |.bd x=>[(0,{d:=.v x})]
def q7:Out→Value→Ending
 |.ret _ _,v=>.returned v
 |.bd _,v=>.panicked [{v,recovered:=false}]
def ph(P:Program)(f:FuncId)(args:List D)(ed:List (Nat×TypeId))(H:List (List a1))(R:Out→List (List a1)→Prop):Prop:=
 (∃ fd, P.funcs[f]? = some fd ∧ fd.body.isSome = true ∧ fd.name ≠ "runtime.NumGoroutine") ∧
 ∀(K:Ctx) (w:World) (vs:List Value) (M:Mem) (β:Nat→Option Nat),vs.length=args.length→
  bH P K M β {env:=gU args ed,H:=cK 0 H,aW:=H.length} ⟨vs⟩ w→(∀r b,β r=some b→K.kr r=some b)→
  Calls P f ⟨vs⟩ w λe w'=>∃o bM v M' β',R o bM∧e=q7 o v∧bH P K M' β' {env:=hJ o,H:=cK 0 bM,aW:=H.length} #[v] w'
def ph.mono{P:Program}{f:FuncId}{args:List D}{ed:List (Nat×TypeId)}{H:List (List a1)}{R Qb:Out→List (List a1)→Prop}(h:ph P f args ed H R)(ak:∀o bM,R o bM→Qb o bM):ph P f args ed H Qb:=
 ⟨h.1,λK w vs M β af hs hb=>(h.2 K w vs M β af hs hb).mono λ_ _ ⟨o,bM,v,M',β',Z,ae,ar⟩=>⟨o,bM,v,M',β',ak _ _ Z,ae,ar⟩⟩
def gk(P:Program)(f:FuncId)(args:List D)(ed:List (Nat×TypeId))(H:List (List a1))(o:Out)(cF:List (List a1)):Prop:=ph P f args ed H λo' bM=>o'=o∧bM=cF
def iZ(P:Program):f6:={call:=gk P,eq:=G_ P}
def Qc{α:Type}:∀(l:List α) (n i:Nat),look (cK n l) i=if n≤i then l[i-n]? else none
 |[],n,i=>by simp [cK,look]
 |x::l,n,i=>by
  simp only [cK,dP,Qc l (n+1) i];by_cases Z:n=i
  ·subst Z;simp
  ·rw [if_neg Z];by_cases ae:n≤i
   ·rw [if_pos (by omega),if_pos ae]
    obtain⟨j,rfl⟩:∃j,i=n+1+j:=⟨i-(n+1),by omega⟩
    rw [show n+1+j-(n+1)=j by omega,show n+1+j-n=j+1 by omega]
    simp
   ·rw [if_neg (by omega),if_neg ae]
def l'{α:Type}(l:List α)(i:Nat):look (cK 0 l) i=l[i]? := by simp [Qc]
def BU:∀{ρ:List Nat} {r j:Nat},idx ρ r=some j→ρ[j]? = some r
 |[],_,_,h=>by simp [idx]at h
 |x::l,r,j,h=>by
  simp only [idx]at h;rw [Bool.cond_eq_ite]at h;split at h
  ·rename_i hb;cases h;simp at hb;simp [hb]
  ·simp only [Option.map_eq_some_iff]at h;obtain⟨k,hk,rfl⟩:=h;simpa using BU hk
def BV:∀{l:List Nat},l4 l=true→∀(i j:Nat) r,l[i]? = some r→l[j]? = some r→i=j
 |[],_,i,_,_,h,_=>by simp at h
 |x::l,h,i,j,r,hi,hj=>by
  simp only [l4,Bool.and_eq_true,Bool.not_eq_true',List.any_eq_false]at h;have hx:∀k,l[k]? = some x→False:=λk hk=>by have:=h.1 x (List.mem_of_getElem? hk);simp at this
  cases i<;>cases j
  ·rfl
  ·simp at hi hj;subst hi;exact(hx _ hj).elim
  ·simp at hi hj;subst hj;exact(hx _ hi).elim
  ·simp at hi hj;rw [BV h.2 _ _ r hi hj]
def sz{H:List (Nat×List a1)}:∀{ρ:List Nat} {bs:List (List a1)},boxes H ρ=some bs→bs.length=ρ.length∧∀(j r:Nat),ρ[j]? = some r→look H r=bs[j]? ∧ (bs[j]?).isSome=true
 |[],bs,h=>by simp [boxes]at h;subst h;simp
 |x::ρ,bs,h=>by
  simp only [boxes]at h;split at h
  case h_2=>cases h
  rename_i b oe hb jX;cases h;obtain⟨Z,ae⟩:=sz jX;refine⟨by simp [Z],λj r hj=>?_⟩
  cases j with
  |zero=>simp at hj;subst hj;simp [hb]
  |succ j=>simp at hj;simpa using ae j r hj
def uZ{f:Nat→Option Nat}:∀{b bC:List a1},l3 f b=some bC→bC.length=b.length∧∀(i:Nat) bf,bC[i]? = some bf→∃e,b[i]? = some e∧eo f e.d=some bf.d∧bf.own=e.own
 |[],bC,h=>by simp [l3]at h;subst h;simp
 |e::l,bC,h=>by
  simp only [l3]at h;split at h
  case h_2=>cases h
  rename_i e1 gb he af;cases h;obtain⟨Z,ae⟩:=uZ af;refine⟨by simp [Z],λi bf hi=>?_⟩
  cases i with
  |zero=>
   simp at hi;subst hi
   simp only [By,Option.map_eq_some_iff]at he;obtain⟨d,hd,rfl⟩:=he;exact⟨e,by simp,hd,rfl⟩
  |succ i=>simp at hi;simpa using ae i bf hi
def ZP{f:Nat→Option Nat}{d:D}{r off:Nat}{u:TypeId}(h:eo f d=some (.co r off u)):∃dt,d = .co dt off u:=by
 cases d with
 |co dt aky Qd=>
  simp only [eo,Option.map_eq_some_iff]at h;obtain⟨s,_,ae⟩:=h;cases ae;exact⟨dt,rfl⟩
 |v x=>simp [eo]at h
 |eI x=>simp [eo]at h
 |full k n get=>simp [eo]at h
 |ptr dt o=>simp [eo]at h
 |fn g c=>simp [eo]at h
 |agg c=>simp [eo]at h
 |cx c=>simp [eo]at h
def kt.eo{P:Program}{T:TypeId}{n:Nat}{f:Nat→Option Nat}{b bC:List a1}(h:kt P T n b)(ak:l3 f b=some bC):kt P T n bC:=λe he r off u hd=>by
 obtain⟨i,hi,rfl⟩:=List.getElem_of_mem he;obtain⟨b5,Z,ae,_⟩:=(uZ ak).2 i _ (List.getElem?_eq_getElem hi);rw [hd]at ae;obtain⟨dt,ar⟩:=ZP ae;exact h b5 (List.mem_of_getElem? Z) dt off u ar
def u0{f:Nat→Option Nat}:∀{bs oe:List (List a1)},jg f bs=some oe→oe.length=bs.length∧∀(j:Nat) bC,oe[j]? = some bC→∃b,bs[j]? = some b∧l3 f b=some bC
 |[],oe,h=>by simp [jg]at h;subst h;simp
 |b::l,oe,h=>by
  simp only [jg]at h;split at h
  case h_2=>cases h
  rename_i cS gb hb af;cases h;obtain⟨Z,ae⟩:=u0 af;refine⟨by simp [Z],λj bC hj=>?_⟩
  cases j with
  |zero=>simp at hj;subst hj;exact⟨b,by simp,hb⟩
  |succ j=>simp at hj;simpa using ae j bC hj
def HF{H:List (Nat×List a1)}:∀{ρ:List Nat} {bs:List (List a1)},bs.length=ρ.length→l4 ρ=true→∀r,
 (∀(j:Nat),ρ[j]? = some r→look (kq ρ bs++H) r=bs[j]?)∧((∀(j:Nat),ρ[j]? ≠ some r)→look (kq ρ bs++H) r=look H r)
 |[],bs,_,_,r=>by simp [kq]
 |x::ρ,[],h,_,_=>by simp at h
 |x::ρ,b::bs,h,hn,r=>by
  have BH:l4 ρ=true:=by simp [l4]at hn;exact hn.2
  obtain⟨Z,ae⟩:=HF (H:=H) (ρ:=ρ) (bs:=bs) (by simpa using h) BH r
  simp only [kq,List.cons_append,dP];refine⟨λj hj=>?_,λhj=>?_⟩
  ·by_cases hx:x=r
   ·have:j=0:=BV hn j 0 r hj (by simp [hx])
    subst this;simp [hx]
   ·cases j with
    |zero=>simp at hj;exact(hx hj).elim
    |succ j=>simp at hj;rw [if_neg hx];simpa using Z j hj
  ·have hx:x≠r:=λe=>hj 0 (by simp [e])
   rw [if_neg hx];exact ae λj=>by simpa using hj (j+1)
section
variable {P:Program} {K:Ctx} {N:Nat} {M:Mem} {β:Nat→Option Nat} {st:aI} {g:c_} {tmps:Array Value} {w:World} {o:Oper} {f:ko} {p:Path} {tt:dw} {b4:f6} {ops:List Oper}
def xX(ρ os:List Nat):Loc→Prop
 |.cell r _=>r∈ρ
 |.slot t=>t∈os
def pi(st:aI)(tmps:Array Value)(w:World)(β:Nat→Option Nat)(ρ os:List Nat)(b:Nat):Prop:=
 (∃r,r∈ρ∧β r=some b)∨∃l e T,xX ρ os l∧st.at l=some e∧e.own=some T∧g' (cp tmps w β l)=some b
open Classical in
noncomputable def jB(M:Mem)(β:Nat→Option Nat)(st:aI)(tmps:Array Value)(w:World)(ρ os:List Nat):Ctx:=
 {xF:=M,F:=λb=>if pi st tmps w β ρ os b then none else w.heap[b]?,kr:=λj=>(ρ[j]?).bind β,gZ:=(w.os,w.output)}
structure Handed(st:aI)(tmps:Array Value)(vs:List Value)(hd:List (Nat×Option Nat×TypeId)):Prop where
 some:∀i t T,(i,Option.some t,T)∈hd→∃e,st.at (.slot t)=Option.some e∧e.own=Option.some T∧vs[i]? = Option.some (tmps.getD t undef)
 none:∀i T,(i,Option.none,T)∈hd→vs[i]? = Option.some (.slice Option.none 0 0)
 inj:∀i j t T T',(i,Option.some t,T)∈hd→(j,Option.some t,T')∈hd→i=j
def q8(hd:List (Nat×Option Nat×TypeId)):List (Nat×TypeId):=hd.map λx=>(x.1,x.2.2)
def pj(hd:List (Nat×Option Nat×TypeId)):List Nat:=hd.filterMap λx=>x.2.1
def ZQ{hd:List (Nat×Option Nat×TypeId)}{i:Nat}{T:TypeId}(h:look (q8 hd) i=some T):∃o,(i,o,T)∈hd:=by
 have:=qb h
 simp only [q8,List.mem_map]at this;obtain⟨⟨a,o,T'⟩,Z,ae⟩:=this;cases ae;exact⟨o,Z⟩
def ZR{hd:List (Nat×Option Nat×TypeId)}{i t:Nat}{T:TypeId}(h:(i,some t,T)∈hd):t∈pj hd:=by
 simp only [pj,List.mem_filterMap];exact⟨_,h,rfl⟩
def BW(ρ:List Nat)(hd:List (Nat×Option Nat×TypeId))(T:TypeId):Loc→Loc→Prop
 |.cell j i,.cell r lG=>i=lG∧ρ[j]? = some r
 |.slot s,.slot t=>(s,some t,T)∈hd
 |_,_=>False
def Qe(h:bH P K M β st tmps w){ρ:List Nat}{bs H1:List (List a1)}(hn:l4 ρ=true)(jX:boxes st.H ρ=some bs)(ld:jg (idx ρ) bs=some H1){ds iU:List D}{vs:List Value}
 (hlen:vs.length=ds.length) (ay:∀(i:Nat) v d,vs[i]? = some v→ds[i]? = some d→ct M β v d) (eJ:kp (idx ρ) ds=some iU) {hd:List (Nat×Option Nat×TypeId)} (sA:Handed st tmps vs hd):
 bH P (jB M β st tmps w ρ (pj hd)) M (λj=>(ρ[j]?).bind β) {env:=gU iU (q8 hd),H:=cK 0 H1,aW:=H1.length} ⟨vs⟩ w:=by
 obtain⟨dc,fR⟩:=sz jX;obtain⟨ik,iG⟩:=u0 ld;obtain⟨akz,ZS⟩:=uK eJ
 have Qf:∀{v d dZ},ct M β v d→eo (idx ρ) d=some dZ→ct M (λj=>(ρ[j]?).bind β) v dZ:=by
  intro v d dZ hd jw;exact hd.eo (λr s b hs hb=>by rw [BU hs];simpa using hb) jw
 -- a cell of lb HG is a cell of ours
 have hy:∀j i bf,({env:=gU iU (q8 hd),H:=cK 0 H1,aW:=H1.length}:aI).at (.cell j i)=some bf→∃(r:Nat) (e:a1),ρ[j]? = some r∧st.at (.cell r i)=some e∧eo (idx ρ) e.d=some bf.d∧bf.own=e.own∧
  cp ⟨vs⟩ w (λj=>(ρ[j]?).bind β) (.cell j i)=cp tmps w β (.cell r i):=by
  intro j i bf he;simp only [aI.at,l']at he;cases hj:H1[j]? with
  |none=>simp [hj]at he
  |some bC=>
   simp only [hj,Option.bind_some]at he;obtain⟨b,hb,mP⟩:=iG j bC hj;have sB:j<ρ.length:=by have:=(List.getElem?_eq_some_iff.1 hb).1;omega
   have kU:ρ[j]? = some ρ[j]:=List.getElem?_eq_getElem sB;obtain⟨af,_⟩:=fR j _ kU;obtain⟨_,HH⟩:=uZ mP;obtain⟨e,qh,HI,HJ⟩:=HH i bf he;exact⟨_,e,kU,by simp [aI.at,af,hb,qh],HI,HJ,by simp [cp,kU]⟩
 have Qg:∀s bf,({env:=gU iU (q8 hd),H:=cK 0 H1,aW:=H1.length}:aI).at (.slot s)=some bf→bf.own=look (q8 hd) s∧∃v d,vs[s]? = some v∧ds[s]? = some d∧eo (idx ρ) d=some bf.d:=by
  intro s bf he;simp only [aI.at,gU,l',xW,Option.map_eq_some_iff]at he;obtain⟨dZ,jw,rfl⟩:=he;have hs:s<iU.length:=(List.getElem?_eq_some_iff.1 jw).1;have g_:ds[s]? = some ds[s]:=List.getElem?_eq_getElem (by omega)
  obtain⟨d1,f7,ZT⟩:=ZS s _ g_;rw [jw]at f7;cases f7;exact⟨by simp,_,_,List.getElem?_eq_getElem (by omega),g_,ZT⟩
 -- akA 'own' place of lb HG is one of ours
 have BX:∀cD bf T,({env:=gU iU (q8 hd),H:=cK 0 H1,aW:=H1.length}:aI).at cD=some bf→bf.own=some T→
  cp ⟨vs⟩ w (λj=>(ρ[j]?).bind β) cD = .slice none 0 0∨∃l e,BW ρ hd T cD l∧xX ρ (pj hd) l∧st.at l=some e∧e.own=some T∧cp ⟨vs⟩ w (λj=>(ρ[j]?).bind β) cD=cp tmps w β l:=by
  intro cD bf T af aS;cases cD with
  |slot s=>
   obtain⟨ax,v,d,Z,ae,ar⟩:=Qg s bf af;rw [ax]at aS;obtain⟨o,hm⟩:=ZQ aS;have b':cp (⟨vs⟩:Array Value) w (λj=>(ρ[j]?).bind β) (.slot s)=v:=by simp [cp,Z]
   cases o with
   |none=>
    have:=sA.none s T hm
    rw [Z]at this;cases this;exact .inl b'
   |some t=>
    obtain⟨e,aK,bc,b2⟩:=sA.some s t T hm;rw [Z]at b2;cases b2;exact .inr ⟨.slot t,e,hm,ZR hm,aK,bc,b'⟩
  |cell j i=>
   obtain⟨r,e,kU,he,_,fP,b'⟩:=hy j i bf af;exact .inr ⟨.cell r i,e,⟨rfl,kU⟩,List.mem_of_getElem? kU,he,by rw [←fP,aS],b'⟩
 have ZU:∀T T' gb h8 l,BW ρ hd T gb l→BW ρ hd T' h8 l→gb=h8:=by
  intro T T' gb h8 l Z ae;cases gb<;>cases h8<;>cases l<;>simp only [BW]at Z ae
  ·rw [sA.inj _ _ _ _ _ Z ae]
  ·obtain⟨rfl,ar⟩:=Z;obtain⟨rfl,aK⟩:=ae;rw [BV hn _ _ _ ar aK]
 have jC:∀j cs',look (cK 0 H1) j=some cs'→∃(r:Nat) (cs:List a1),ρ[j]? = some r∧look st.H r=some cs∧cs.length=cs'.length∧∃f,l3 f cs=some cs':=by
  intro j cs' hj;rw [l']at hj;obtain⟨b,hb,mP⟩:=iG j cs' hj;have sB:j<ρ.length:=by have:=(List.getElem?_eq_some_iff.1 hb).1;omega
  have kU:ρ[j]? = some ρ[j]:=List.getElem?_eq_getElem sB;obtain⟨af,_⟩:=fR j _ kU;exact⟨_,b,kU,by rw [af,hb],(uZ mP).1.symm,_,mP⟩
 constructor
 ·intro l bf af;cases l with
  |slot s=>
   obtain⟨_,v,d,Z,ae,ar⟩:=Qg s bf af;have:=Qf (ay s v d Z ae) ar
   simpa [cp,Z]using this
  |cell j i=>
   obtain⟨r,e,kU,he,mP,_,b'⟩:=hy j i bf af;rw [b'];exact Qf (h.e_ _ e he) mP
 ·intro cD bf T af aS;rcases BX cD bf T af aS with h0|⟨l,e,_,bx,he,d9,b'⟩
  ·rw [h0];exact .inl rfl
  ·rw [b'];rcases h.own _ e T he d9 with h0|⟨b,n,cap,jT,T',Z,ae,ar,aK,bc,b2,qf⟩
   ·exact .inl h0
   ·refine .inr ⟨b,n,cap,jT,T',Z,ae,ar,aK,bc,?_,qf⟩;simp only [jB];rw [if_pos];exact .inr ⟨l,e,T,bx,he,d9,by rw [Z];rfl⟩
 ·intro gb h8 e1 e2 T T' b af aS dr d9 hb bQ;rcases BX gb e1 T af aS with h0|⟨l,e,bS,bx,he,HK,b'⟩
  ·rw [h0]at hb;cases hb
  rcases BX h8 e2 T' dr d9 with h0|⟨cD,bf,nu,xV,xY,ZV,pd⟩
  ·rw [h0]at bQ;cases bQ
  rw [b']at hb;rw [pd]at bQ;have:=h.uniq _ _ e bf T T' b he HK xY ZV hb bQ
  subst this;exact ZU _ _ _ _ _ bS nu
 ·intro cD bf T b j cs' af aS hb hj;rcases BX cD bf T af aS with h0|⟨l,e,bS,bx,he,HK,b'⟩
  ·rw [h0]at hb;cases hb
  rw [b']at hb;obtain⟨ao,cs,ZW,ei,_⟩:=jC j cs' hj;have:=h.unbox _ e T b ao cs he HK hb ei
  simpa [ZW]using this
 ·intro j cs' hj;obtain⟨r,cs,kU,ei,af,f,ZX⟩:=jC j cs' hj;obtain⟨b,jT,T,Z,ae,ar,aK,bc,b2⟩:=h.box r cs ei;refine⟨b,jT,T,by simp [kU,Z],ae,by omega,aK,?_,b2.1,b2.2.eo ZX⟩
  simp only [jB];rw [if_pos];exact .inl ⟨r,List.mem_of_getElem? kU,Z⟩
 ·intro j sC b c k8 hj BY hb bQ;obtain⟨r,cs,kU,ei,_⟩:=jC j c hj;obtain⟨dl,cs',Qh,sD,_⟩:=jC sC k8 BY;have:r=dl:=h.inj r dl b cs cs' ei sD (by simpa [kU]using hb) (by simpa [Qh]using bQ)
  subst this;exact BV hn j sC r kU Qh
 ·intro j b hb;simp only [Option.bind_eq_some_iff]at hb;obtain⟨r,ak,_⟩:=hb;have:=(List.getElem?_eq_some_iff.1 ak).1
  show j<H1.length
  omega
 ·exact h.mem
 ·exact Mem.le_refl _
 ·intro b aZ hb;simp only [jB]at hb;split at hb
  ·cases hb
  ·exact⟨hb,λ_=>rfl⟩
 ·intro j b hb;exact hb
 ·refine h.iF.mono λb aZ dF=>?_
  have HL:¬ pi st tmps w β ρ (pj hd) b:=by
   rintro (⟨r,ak,lf⟩|⟨l,e,T,ak,he,aS,jx⟩)
   ·obtain⟨j,hj⟩:=List.getElem?_of_mem ak;obtain⟨af,sE⟩:=fR j r hj;obtain⟨cs,ei⟩:=Option.isSome_iff_exists.1 sE;obtain⟨hz,_,_,ar,_,_,_,aK,_⟩:=h.box r cs (by rw [af,ei])
    rw [lf]at ar;cases ar;rw [aK]at dF;cases dF
   ·rw [(h.own _ e T he aS).free jx]at dF;cases dF
  simp only [jB];rw [if_neg HL];exact(h.frame b aZ dF).1
 ·rfl
def ZY{ρ os:List Nat}{st:aI}{H:List (Nat×List a1)}{n s:Nat}{e:a1}(af:({env:=gD os st.env,H:=H,aW:=n}:aI).at (.slot s)=some e):
 ∃b5,st.at (.slot s)=some b5∧b5.d=e.d∧(∀T,e.own=some T→b5.own=some T)∧∀T,e.own=some T→¬ xX ρ os (.slot s):=by
 simp only [aI.at,mL]at af;by_cases hs:s∈os
 ·rw [if_pos hs,Option.map_eq_some_iff]at af;obtain⟨b5,Z,ae⟩:=af;subst ae;exact⟨b5,Z,rfl,(λT aS=>by cases aS),(λT aS=>by cases aS)⟩
 ·rw [if_neg hs]at af;exact⟨e,af,rfl,(λT aS=>aS),(λT _=>hs)⟩
def HM(h:bH P K M β st tmps w){ρ:List Nat}{bs cF h3:List (List a1)}(hn:l4 ρ=true)(jX:boxes st.H ρ=some bs)(sF:jg (λj=>ρ[j]?) cF=some h3)(eC:cF.length=ρ.length)
 {os:List Nat} {out:Out} {v:Value} {w':World} {M':Mem} {β':Nat→Option Nat} (ip:bH P (jB M β st tmps w ρ os) M' β' {env:=hJ out,H:=cK 0 cF,aW:=ρ.length} #[v] w'):
 M.le M'∧bH P K M' β {env:=gD os st.env,H:=kq ρ h3++st.H,aW:=st.aW} tmps w'∧
 (∀d own,out = .ret d own→∀dZ,eo (λj=>ρ[j]?) d=some dZ→ct M' β v dZ∧∀T l0,own=some T→l6 P K M' β {env:=gD os st.env,H:=kq ρ h3++st.H,aW:=st.aW} tmps w' l0 v T)∧
 (∀x,out = .bd x→cY M' v x):=by
 obtain⟨dc,fR⟩:=sz jX;obtain⟨ik,iG⟩:=u0 sF;have cM:M.le M':=ip.m0;have gE:∀(j r b:Nat),ρ[j]? = some r→β r=some b→β' j=some b:=λj r b hj hb=>ip.h4 j b (by simp [jB,hj,hb])
 have q9:∀(j r:Nat),ρ[j]? = some r→∃cs b,look st.H r=some cs∧β r=some b∧β' j=some b:=by
  intro j r hj;obtain⟨Z,ae⟩:=fR j r hj;obtain⟨cs,ei⟩:=Option.isSome_iff_exists.1 ae;rw [ei]at Z;obtain⟨b,_,_,hb,_⟩:=h.box r cs Z;exact⟨cs,b,Z,hb,gE j r b hj hb⟩
 have Qi:∀{v d dZ},ct M' β' v d→eo (λj=>ρ[j]?) d=some dZ→ct M' β v dZ:=by
  intro v d dZ hd jw;refine hd.eo (λj r b hj hb=>?_) jw
  obtain⟨_,cS,_,Z,ae⟩:=q9 j r hj;rw [hb]at ae;cases ae;exact Z
 -- HN is not pi is kept
 have xZ:∀b,¬ pi st tmps w β ρ os b→b<w.heap.size→w'.heap[b]? = w.heap[b]? ∧ ∀o,M' b o=M b o:=by
  intro b hb c8
  have dF:(jB M β st tmps w ρ os).F b=some w.heap[b]:=by
   simp only [jB];rw [if_neg hb];exact Array.getElem?_eq_getElem c8
  obtain⟨Z,ae⟩:=ip.frame b _ dF;exact⟨by rw [Z,Array.getElem?_eq_getElem c8],ae⟩
 have Qj:∀b,(jB M β st tmps w ρ os).F b=none→K.F b=none:=by
  intro b hb;simp only [jB]at hb;split at hb
  ·rename_i hp;rcases hp with⟨r,ak,lf⟩|⟨l,e,T,ak,he,aS,jx⟩
   ·obtain⟨j,hj⟩:=List.getElem?_of_mem ak;obtain⟨cs,cS,ei,dc,_⟩:=q9 j r hj;obtain⟨hz,_,_,Z,_,_,_,ae,_⟩:=h.box r cs ei;rw [lf]at Z;cases Z;exact ae
   ·exact(h.own _ e T he aS).free jx
  ·cases dF:K.F b with
   |none=>rfl
   |some aZ=>have:=(h.frame b aZ dF).1;rw [hb]at this;cases this
 have hold:∀b,(jB M β st tmps w ρ os).F b=none→b<w.heap.size→pi st tmps w β ρ os b:=by
  intro b hb c8;simp only [jB]at hb;split at hb
  ·assumption
  ·rw [Array.getElem?_eq_getElem c8]at hb;cases hb
 -- akB own boxes ZK akC not handed on
 have BZ:∀r cs b,look st.H r=some cs→(∀(j:Nat),ρ[j]? ≠ some r)→β r=some b→¬ pi st tmps w β ρ os b:=by
  intro r cs b ak h5 hb hp;rcases hp with⟨dl,fG,bQ⟩|⟨l,e,T,fG,he,aS,jx⟩
  ·obtain⟨j,hj⟩:=List.getElem?_of_mem fG;obtain⟨cs',_,sD,_⟩:=q9 j dl hj;have:=h.inj r dl b cs cs' ak sD hb bQ
   subst this;exact h5 j hj
  ·exact h.unbox _ e T b r cs he aS jx ak hb
 have x0:∀r,(∃(j:Nat),ρ[j]? = some r∧look (kq ρ h3++st.H) r=h3[j]?)∨((∀(j:Nat),ρ[j]? ≠ some r)∧look (kq ρ h3++st.H) r=look st.H r):=by
  intro r;obtain⟨Z,ae⟩:=HF (H:=st.H) (ρ:=ρ) (bs:=h3) (by omega) hn r
  by_cases hj:∃(j:Nat),ρ[j]? = some r
  ·obtain⟨j,hj⟩:=hj;exact .inl ⟨j,hj,Z j hj⟩
  ·have:∀(j:Nat),ρ[j]? ≠ some r:=λj bx=>hj ⟨j,bx⟩
   exact .inr ⟨this,ae this⟩
 -- a place of lb new state: lb HG, or kept
 have fQ:∀l e,({env:=gD os st.env,H:=kq ρ h3++st.H,aW:=st.aW}:aI).at l=some e→
  (∃(j r i:Nat) (bf:a1),l = .cell r i∧ρ[j]? = some r∧({env:=hJ out,H:=cK 0 cF,aW:=ρ.length}:aI).at (.cell j i)=some bf∧eo (λj=>ρ[j]?) bf.d=some e.d∧e.own=bf.own∧cp tmps w' β l=cp #[v] w' β' (.cell j i))∨
  (∃b5,st.at l=some b5∧b5.d=e.d∧(∀T,e.own=some T→b5.own=some T)∧cp tmps w' β l=cp tmps w β l∧(∀T,e.own=some T→¬ xX ρ os l)):=by
  intro l e af;cases l with
  |slot s=>
   obtain⟨b5,Z,ae,ar,aK⟩:=ZY af;exact .inr ⟨b5,Z,ae,ar,rfl,aK⟩
  |cell r i=>
   rcases x0 r with⟨j,hj,kV⟩|⟨h5,kV⟩
   ·simp only [aI.at,kV]at af;cases bx:h3[j]? with
    |none=>simp [bx]at af
    |some bC=>
     simp only [bx,Option.bind_some]at af;obtain⟨b,hb,mP⟩:=iG j bC bx;obtain⟨_,HH⟩:=uZ mP;obtain⟨bf,qh,HI,HJ⟩:=HH i e af;obtain⟨_,cS,_,dc,sh⟩:=q9 j r hj;exact .inl ⟨j,r,i,bf,rfl,hj,by simp [aI.at,l',hb,qh],HI,HJ,by simp [cp,dc,sh]⟩
   ·simp only [aI.at,kV]at af;refine .inr ⟨e,af,rfl,λ_ h=>h,?_,λT _ bx=>by obtain⟨j,hj⟩:=List.getElem?_of_mem bx;exact h5 j hj⟩
    cases ak:look st.H r with
    |none=>simp [ak]at af
    |some cs=>
     obtain⟨b,_,_,hb,bx,_⟩:=h.box r cs ak;simp only [cp,hb];rw [qa (w:=w) (xZ b (BZ r cs b ak h5 hb) (lt_of_heap bx)).1]
 -- a kept 'own' akD block is not pi
 have x1:∀l e T b,st.at l=some e→e.own=some T→¬ xX ρ os l→g' (cp tmps w β l)=some b→¬ pi st tmps w β ρ os b:=by
  intro l e T b af aS h5 hb hp;rcases hp with⟨dl,fG,bQ⟩|⟨cD,bf,T',fG,he,d9,jx⟩
  ·obtain⟨j,hj⟩:=List.getElem?_of_mem fG;obtain⟨cs',_,sD,_⟩:=q9 j dl hj;exact h.unbox l e T b dl cs' af aS hb sD bQ
  ·have:=h.uniq l _ e bf T T' b af aS he d9 hb jx
   subst this;exact h5 fG
 -- lb HG 'own' blocks akE ours
 have x2:∀T u b,n8 P (jB M β st tmps w ρ os).F M' w' T u→g' u=some b→∀bC,bC=b→bC<w.heap.size→pi st tmps w β ρ os bC:=by
  intro T u b ax hb bC pe c8;subst pe;exact hold bC (ax.free hb) c8
 have B0:∀r cs,look (kq ρ h3++st.H) r=some cs→∃kA,look st.H r=some kA:=by
  intro r cs ak;rcases x0 r with⟨j,hj,_⟩|⟨_,kV⟩
  ·obtain⟨kA,_,Z,_⟩:=q9 j r hj;exact⟨kA,Z⟩
  ·exact⟨cs,by rw [←kV];exact ak⟩
 have cG:bH P K M' β {env:=gD os st.env,H:=kq ρ h3++st.H,aW:=st.aW} tmps w':=by
  constructor
  ·intro l e af;rcases fQ l e af with⟨j,r,i,bf,rfl,hj,xY,mP,_,b'⟩|⟨b5,ax,x3,jU,b',_⟩
   ·rw [b'];exact Qi (ip.e_ _ bf xY) mP
   ·rw [b',←x3];exact(h.e_ l b5 ax).mono cM
  ·intro l e T af aS;rcases fQ l e af with⟨j,r,i,bf,rfl,hj,xY,_,fP,b'⟩|⟨b5,ax,x3,jU,b',h5⟩
   ·rw [b'];rw [fP]at aS;rcases ip.own _ bf T xY aS with h0|⟨b,n,cap,jT,T',Z,ae,ar,aK,bc,b2,qf⟩
    ·exact .inl h0
    ·exact .inr ⟨b,n,cap,jT,T',Z,ae,ar,aK,bc,Qj b b2,qf⟩
   ·rw [b'];have h5:=h5 T aS;have aS:=jU T aS;refine(h.own l b5 T ax aS).congr (λb hb=>?_) (λb o' hb=>?_)
    ·exact(xZ b (x1 l b5 T b ax aS h5 hb) ((h.own l b5 T ax aS).lt hb)).1
    ·exact(xZ b (x1 l b5 T b ax aS h5 hb) ((h.own l b5 T ax aS).lt hb)).2 o'
  ·intro l cD e1 e2 T T' b af aS dr d9 hb bQ
   rcases fQ l e1 af with⟨j,r,i,x,rfl,hj,hx,_,fP,b'⟩|⟨b5,ax,x3,jU,b',h5⟩ <;>
    rcases fQ cD e2 dr with⟨sC,dl,lG,fH,rfl,BY,u1,_,Qk,pd⟩|⟨uM,jS,akF,xI,pd,HO⟩
   ·rw [b']at hb;rw [pd]at bQ;rw [fP]at aS;rw [Qk]at d9;have:=ip.uniq _ _ x fH T T' b hx aS u1 d9 hb bQ
    cases this;rw [hj]at BY;cases BY;rfl
   ·rw [b']at hb;rw [pd]at bQ;rw [fP]at aS;have HO:=HO T' d9;have d9:=xI T' d9;exact(x1 cD uM T' b jS d9 HO bQ (x2 T _ b (ip.own _ x T hx aS) hb b rfl ((h.own cD uM T' jS d9).lt bQ))).elim
   ·rw [b']at hb;rw [pd]at bQ;rw [Qk]at d9;have h5:=h5 T aS;have aS:=jU T aS;exact(x1 l b5 T b ax aS h5 hb (x2 T' _ b (ip.own _ fH T' u1 d9) bQ b rfl ((h.own l b5 T ax aS).lt hb))).elim
   ·rw [b']at hb;rw [pd]at bQ;exact h.uniq l cD b5 uM T T' b ax (jU T aS) jS (xI T' d9) hb bQ
  ·intro l e T b r cs af aS hb ak lf;obtain⟨kA,k7⟩:=B0 r cs ak;rcases fQ l e af with⟨j,ah,i,x,rfl,hj,hx,_,fP,b'⟩|⟨b5,ax,x3,jU,b',h5⟩
   ·rw [b']at hb;rw [fP]at aS;rcases x0 r with⟨j2,x4,kV⟩|⟨HP,_⟩
    ·have ae:∃c2,look (cK 0 cF) j2=some c2:=by
      rw [l'];exact⟨_,List.getElem?_eq_getElem (by have:=(List.getElem?_eq_some_iff.1 x4).1;omega)⟩
     obtain⟨c2,lg⟩:=ae;exact ip.unbox _ x T b j2 c2 hx aS hb lg (gE j2 r b x4 lf)
    ·obtain⟨cS,_,_,dc,bx,_⟩:=h.box r kA k7;rw [lf]at dc;cases dc;exact BZ r kA b k7 HP lf (x2 T _ b (ip.own _ x T hx aS) hb b rfl (lt_of_heap bx))
   ·rw [b']at hb;exact h.unbox l b5 T b r kA ax (jU T aS) hb k7 lf
  ·intro r cs ak;rcases x0 r with⟨j,hj,kV⟩|⟨h5,kV⟩
   ·rw [kV]at ak;obtain⟨c2,lg,mP⟩:=iG j cs ak;obtain⟨kA,nv,ZZ,Ql,Z0⟩:=q9 j r hj;obtain⟨b,jT,T,Z,ae,ar,aK,bc,b2⟩:=ip.box j c2 (by rw [l'];exact lg)
    rw [Z0]at Z;cases Z;obtain⟨hz,_,_,cU,_,_,_,dQ,_⟩:=h.box r kA ZZ;rw [Ql]at cU;cases cU;exact⟨nv,jT,T,Ql,ae,by rw [ar,(uZ mP).1],aK,dQ,b2.1,b2.2.eo mP⟩
   ·rw [kV]at ak;obtain⟨b,jT,T,Z,ae,ar,aK,bc,b2⟩:=h.box r cs ak;have hk:=xZ b (BZ r cs b ak h5 Z) (lt_of_heap ae);exact⟨b,jT,T,Z,hk.1.trans ae,ar,λo'=>(hk.2 o').trans (aK o'),bc,b2⟩
  ·intro r dl b c k8 ak fG hb bQ;obtain⟨c0,k7⟩:=B0 r c ak;obtain⟨Z1,Z2⟩:=B0 dl k8 fG;exact h.inj r dl b c0 Z1 k7 Z2 hb bQ
  ·exact h.lt
  ·exact ip.mem
  ·exact Mem.le_trans h.m0 cM
  ·intro b aZ dF;obtain⟨Z,ae⟩:=h.frame b aZ dF
   have HL:¬ pi st tmps w β ρ os b:=by
    rintro (⟨r,ak,lf⟩|⟨l,e,T,ak,he,aS,jx⟩)
    ·obtain⟨j,hj⟩:=List.getElem?_of_mem ak;obtain⟨cs,_,ei,_⟩:=q9 j r hj;obtain⟨hz,_,_,ar,_,_,_,aK,_⟩:=h.box r cs ei;rw [lf]at ar;cases ar;rw [aK]at dF;cases dF
    ·rw [(h.own _ e T he aS).free jx]at dF;cases dF
   have hk:=xZ b HL (lt_of_heap Z);exact⟨hk.1.trans Z,λo'=>(hk.2 o').trans (ae o')⟩
  ·exact h.h4
  ·exact h.iF
  ·exact Eq.trans (show(w'.os,w'.output)=(w.os,w.output)from ip.gZ) h.gZ
 refine⟨cM,cG,λd own HQ dZ jw=>?_,λx HQ=>?_⟩
 ·subst HQ;have iq:=ip.e_ (.slot 0) {d,own} (by simp [aI.at,hJ,look])
  refine⟨Qi (by simpa [cp]using iq) jw,λT l0 aS=>?_⟩
  have ax:=ip.own (.slot 0) {d,own} T (by simp [aI.at,hJ,look]) aS
  simp only [cp]at ax;have jS:n8 P (jB M β st tmps w ρ os).F M' w' T v:=by simpa using ax
  refine⟨?_,λl e T' b af d9 _ hb bQ=>?_,λb r cs hb ak lf=>?_⟩
  ·rcases jS with h0|⟨b,n,cap,jT,T',Z,ae,ar,aK,bc,b2,qf⟩
   ·exact .inl h0
   ·exact .inr ⟨b,n,cap,jT,T',Z,ae,ar,aK,bc,Qj b b2,qf⟩
  ·rcases fQ l e af with⟨j,r,i,x,rfl,hj,hx,_,fP,b'⟩|⟨b5,Qm,x3,jU,b',h5⟩
   ·rw [b']at bQ;rw [fP]at d9;have:=ip.uniq (.slot 0) (.cell j i) {d,own} x T T' b (by simp [aI.at,hJ,look]) aS hx d9 (by simpa [cp]using hb) bQ
    cases this
   ·rw [b']at bQ;have h5:=h5 T' d9;have d9:=jU T' d9;exact x1 l b5 T' b Qm d9 h5 bQ (x2 T v b jS hb b rfl ((h.own l b5 T' Qm d9).lt bQ))
  ·obtain⟨kA,k7⟩:=B0 r cs ak;rcases x0 r with⟨j2,x4,kV⟩|⟨HP,_⟩
   ·have ae:∃c2,look (cK 0 cF) j2=some c2:=by
     rw [l'];exact⟨_,List.getElem?_eq_getElem (by have:=(List.getElem?_eq_some_iff.1 x4).1;omega)⟩
    obtain⟨c2,lg⟩:=ae;exact ip.unbox (.slot 0) {d,own} T b j2 c2 (by simp [aI.at,hJ,look]) aS (by simpa [cp]using hb) lg (gE j2 r b x4 lf)
   ·obtain⟨cS,_,_,dc,bx,_⟩:=h.box r kA k7;rw [lf]at dc;cases dc;exact BZ r kA b k7 HP lf (x2 T v b jS hb b rfl (lt_of_heap bx))
 ·subst HQ;have iq:=ip.e_ (.slot 0) {d:=.v x} (by simp [aI.at,hJ,look])
  have:=mM iq
  simpa [cp]using this
end
def Qn{i:Int}{n:Nat}(h:aN i n=true):0≤i∧i<n:=by simpa [aN]using h
def sG{i:Int}{n:Nat}(h:gS i n=true):0≤i∧i≤n:=by simpa [gS]using h
def Z3{i:Int}{n:Nat}(h:0≤i∧i≤n):gS i n=true:=by simpa [gS]using h
def Qo{a b:Int}{n:Nat}(h:nl a b n=true):0≤a∧a≤b∧b≤n:=by simpa [nl]using h
def Qp{a:Int}(h:o7 a=true):a≠0:=by simpa [o7]using h
def HR{n b:Nat}(h:room n b=true):n*b≤140737488355328:=by simpa [room]using h
def Z4{n:Nat}(h:br n=true):n≤9223372036854775807:=by simpa [br]using h
section
variable {P:Program} {K:Ctx} {N:Nat} {M:Mem} {β:Nat→Option Nat} {st:aI} {g:c_} {tmps:Array Value} {w:World} {o:Oper} {f:ko} {p:Path} {tt:dw} {b4:f6} {ops:List Oper}
def Qq:∀(l:List (Nat×a1)) (s:Nat),look (n6 l) s=(look l s).map λe=>({d:=e.d}:a1)
 |[],s=>rfl
 |(t,e)::l,s=>by
  simp only [n6,dP];by_cases h:t=s
  ·simp [h]
  ·simp only [h,if_false];exact Qq l s
def bH.n6{st:aI}(h:bH P K M β st tmps w){env:List (Nat×a1)}(he:∀s e,look env s=some e→∃b5,look st.env s=some b5∧b5.d=e.d):bH P K M β {env:=Ab.n6 env,H:=st.H,aW:=st.aW} tmps w:=
 h.sub rfl (λl e af=>by
  cases l with
  |slot s=>
   simp only [aI.at,Qq,Option.map_eq_some_iff]at af;obtain⟨e1,Z,rfl⟩:=af;obtain⟨b5,ae,ar⟩:=he s e1 Z;exact⟨b5,ae,ar,λ_ h=>by cases h⟩
  |cell r i=>exact⟨e,af,rfl,λ_ h=>h⟩) (λr cs ak=>⟨cs,ak,rfl⟩)
def Z5(P:Program)(K:Ctx)(M:Mem)(β:Nat→Option Nat)(g:c_)(x:V)(hs:List (Nat×List a1))(o:Oper)(tmps:Array Value)(w:World):Prop:=
 (∃v,(execOp (Act.eval ⟨tmps,[]⟩) o).run P w = .halt (.panic v) w∧cY M v x∧hs=[])∨
 (∃fn vs,(execOp (Act.eval ⟨tmps,[]⟩) o).run P w = .ok (.enter fn vs) w∧Calls P fn vs w λe w'=>∃v M' ,e = .panicked [{v,recovered:=false}]∧cY M' v x∧
  bH P K M' β {env:=n6 g.env,H:=hs++g.H,aW:=g.aW} tmps w')
def Z6{op:BinOp}{k:IntKind}{a b:Int}{x:V}{aZ:List Prop}(h:GV op k a b=some (x,aZ))(cj:∀q,q∈aZ→q)(t:TypeId):
 ∃v,(binOp op t (.int k a) (.int k b)).run P w = .ok v w∧cY M v x:=by
 have fin:∀{s:Sem Value} {v:Value},s.run P w = .ok v w→cY M v x→∃v,s.run P w = .ok v w∧cY M v x:=λZ ae=>⟨_,Z,ae⟩
 cases op<;>simp only [GV,Option.some.injEq,Prod.mk.injEq,reduceCtorEq]at h<;>obtain⟨rfl,rfl⟩:=h
 case quo=>
  have hb:=Qp (cj _ (List.mem_singleton.2 rfl));refine fin (v:=.int k (k.wrap (a.tdiv b))) ?_ (.int _ _);simp [binOp,Op.intDiv,hb]
 case rem=>
  have hb:=Qp (cj _ (List.mem_singleton.2 rfl));refine fin (v:=.int k (a.tmod b)) ?_ (.int _ _);simp [binOp,Op.intDiv,hb]
 case add=>exact fin (v:=.int k (k.wrap (a+b))) (by simp [binOp,Op.intArith]) (.int _ _)
 case sub=>exact fin (v:=.int k (k.wrap (a-b))) (by simp [binOp,Op.intArith]) (.int _ _)
 case mul=>exact fin (v:=.int k (k.wrap (a*b))) (by simp [binOp,Op.intArith]) (.int _ _)
 case eql=>exact fin (v:=.bool (decide (a=b))) (by simp [binOp,Op.intCmp];rfl) (.bool _)
 case neq=>exact fin (v:=.bool (!decide (a=b))) (by simp [binOp,Op.intCmp];rfl) (.bool _)
 case lss=>exact fin (v:=.bool (decide (a<b))) (by simp [binOp,Op.intCmp]) (.bool _)
 case leq=>exact fin (v:=.bool (decide (a≤b))) (by simp [binOp,Op.intCmp]) (.bool _)
 case gtr=>exact fin (v:=.bool (decide (b<a))) (by simp [binOp,Op.intCmp]) (.bool _)
 case geq=>exact fin (v:=.bool (decide (b≤a))) (by simp [binOp,Op.intCmp]) (.bool _)
 case and=>exact fin (v:=.int k (uG k a b)) (by simp [binOp,Op.intBits,uG]) (.int _ _)
 case or=>exact fin (v:=.int k (sb k a b)) (by simp [binOp,Op.intBits,sb]) (.int _ _)
 case xor=>exact fin (v:=.int k (o9 k a b)) (by simp [binOp,Op.intBits,o9]) (.int _ _)
 case andNot=>exact fin (v:=.int k (GT k a b)) (by simp [binOp,Op.intBits,GT]) (.int _ _)
def Z7{op:BinOp}{k k':IntKind}{a b:Int}{x:V}{aZ:List Prop}(h:GU op k a b=some (x,aZ))(cj:∀q,q∈aZ→q)(t:TypeId):
 ∃v,(binOp op t (.int k a) (.int k' b)).run P w = .ok v w∧cY M v x:=by
 unfold GU at h;split at h
 ·simp only [Option.some.injEq,Prod.mk.injEq]at h;obtain⟨rfl,rfl⟩:=h;have hb:0≤b:=by simpa [n4]using cj (n4 b=true) (by simp)
  exact⟨.int k (p8 k a b),by simp [binOp,Op.shift,show¬ b<0 by omega,p8],.int _ _⟩
 ·simp only [Option.some.injEq,Prod.mk.injEq]at h;obtain⟨rfl,rfl⟩:=h;have hb:0≤b:=by simpa [n4]using cj (n4 b=true) (by simp)
  exact⟨.int k (n3 k a b),by simp [binOp,Op.shift,show¬ b<0 by omega,n3],.int _ _⟩
 ·cases h
def Z8{op:BinOp}{a b:al5}{x:V}{aZ:List Prop}(h:GW op a b=some (x,aZ))(cj:∀q,q∈aZ→q)(t:TypeId):
 ∃v,(binOp op t (.string ⟨⟨a⟩⟩) (.string ⟨⟨b⟩⟩)).run P w = .ok v w∧cY M v x:=by
 have fin:∀{s:Sem Value} {v:Value},s.run P w = .ok v w→cY M v x→∃v,s.run P w = .ok v w∧cY M v x:=λZ ae=>⟨_,Z,ae⟩
 have pk:=BM a;have u2:=BM b;have he:(a == b)=decide (a=b):=by by_cases lM:a=b<;>simp [lM]
 cases op<;>simp only [GW,Option.some.injEq,Prod.mk.injEq,reduceCtorEq]at h<;>obtain⟨rfl,rfl⟩:=h
 case add=>
  have hb:=Z4 (cj _ (List.mem_singleton.2 rfl));refine fin (v:=.string ⟨⟨a++b⟩⟩) ?_ (.str _)
  have ej:¬ ((((⟨⟨a⟩⟩:ByteArray).size+(⟨⟨b⟩⟩:ByteArray).size:Nat):Int) > IntKind.i64.max):=by
   have Z:(⟨⟨a⟩⟩:ByteArray).size=a.length:=rfl;have ae:(⟨⟨b⟩⟩:ByteArray).size=b.length:=rfl;have ar:IntKind.i64.max=9223372036854775807:=by decide
   rw [Z,ae,ar];omega
  simp only [binOp,Op.stringOp];rw [if_neg ej];simp;apply ByteArray.ext;simp
 case eql=>exact fin (v:=.bool (decide (a=b))) (by simp [binOp,Op.stringOp,pk,u2,he]) (.bool _)
 case neq=>exact fin (v:=.bool (!decide (a=b))) (by simp [binOp,Op.stringOp,pk,u2,he]) (.bool _)
 case lss=>exact fin (v:=.bool (Op.bytesLess a b)) (by simp [binOp,Op.stringOp,pk,u2]) (.bool _)
 case leq=>exact fin (v:=.bool (Op.bytesLess a b||decide (a=b))) (by simp [binOp,Op.stringOp,pk,u2,he]) (.bool _)
 case gtr=>exact fin (v:=.bool (!(Op.bytesLess a b||decide (a=b)))) (by simp [binOp,Op.stringOp,pk,u2,he]) (.bool _)
 case geq=>exact fin (v:=.bool (!Op.bytesLess a b)) (by simp [binOp,Op.stringOp,pk,u2]) (.bool _)
def Z9{t:TypeId}{aP:ew}(r:Row P t aP)(hk:aP.k = .ptr):∃e,r.desc = .pointer e:=by
 have:=r.hk
 rw [hk]at this;cases hd:r.desc<;>simp [hd,kv]at this;exact⟨_,rfl⟩
def Z'{t:TypeId}{aP:ew}(r:Row P t aP)(hk:aP.k = .nk):∃e,r.desc = .interface e:=by
 have:=r.hk
 rw [hk]at this;cases hd:r.desc<;>simp [hd,kv]at this;exact⟨_,rfl⟩
def Z_{t:TypeId}{aP:ew}(r:Row P t aP)(hk:aP.k = .a8):∃a b c,r.desc = .func a b c:=by
 have:=r.hk
 rw [hk]at this;cases hd:r.desc<;>simp [hd,kv]at this;exact⟨_,_,_,rfl⟩
def HS{t:TypeId}{aP:ew}(r:Row P t aP)(hk:aP.k = .bool):r.desc = .bool:=by
 have:=r.hk
 rw [hk]at this;cases hd:r.desc<;>simp [hd,kv]at this;rfl
def Qr{t:TypeId}{aP:ew}(r:Row P t aP){gT u3:Value}{a b:D}{res:Bool}(ha:ct M β gT a)(hb:ct M β u3 b)(af:Bx aP.k b=true)(hn:isNil aP.k a=some res):
 (Op.equal t gT u3).run P w = .ok res w∧(∀op,(binOp op t gT u3)=match op with|.eql=>(do pure (.bool (←Op.equal t gT u3)))|.neq=>(do pure (.bool (!(←Op.equal t gT u3))))|_=>binOp op t gT u3):=by
 obtain⟨dep,hm⟩:∃d,Op.maxDepth=d+1:=⟨9999,rfl⟩;unfold Bx at af;split at af<;>try cases af
 ·rename_i hk;cases mM hb
  obtain⟨e,hd⟩:=Z9 r hk;rw [hk]at hn;unfold isNil at hn;split at hn<;>simp_all
  ·cases mM ha
   refine⟨?_,λop=>by cases op<;>rfl⟩
   rw [Op.equal,hm,Op.equalIn];simp [r.run_underlying,hd]
  ·obtain⟨bC,_,rfl⟩:=qd ha;subst hn;refine⟨?_,λop=>by cases op<;>rfl⟩
   rw [Op.equal,hm,Op.equalIn];simp [r.run_underlying,hd]
  ·obtain⟨bC,off,val,rfl,_⟩:=BK ha;subst hn;refine⟨?_,λop=>by cases op<;>rfl⟩
   rw [Op.equal,hm,Op.equalIn];simp [r.run_underlying,hd]
 ·rename_i hk;cases mM hb
  obtain⟨e,hd⟩:=Z' r hk;rw [hk]at hn;unfold isNil at hn;split at hn<;>simp_all
  ·cases mM ha
   refine⟨?_,λop=>by cases op<;>rfl⟩
   rw [Op.equal,hm,Op.equalIn];simp [r.run_underlying,hd]
  ·obtain⟨u,rfl,_⟩:=Hc ha;subst hn;refine⟨?_,λop=>by cases op<;>rfl⟩
   rw [Op.equal,hm,Op.equalIn];simp [r.run_underlying,hd]
 ·rename_i hk;cases mM hb
  obtain⟨e1,e2,e3,hd⟩:=Z_ r hk;rw [hk]at hn;unfold isNil at hn;split at hn<;>simp_all
  ·cases mM ha
   refine⟨?_,λop=>by cases op<;>rfl⟩
   rw [Op.equal,hm,Op.equalIn];simp [r.run_underlying,hd]
  ·obtain⟨u,rfl,_⟩:=PF ha;subst hn;refine⟨?_,λop=>by cases op<;>rfl⟩
   rw [Op.equal,hm,Op.equalIn];simp [r.run_underlying,hd]
end
section
variable {P:Program} {K:Ctx} {N:Nat} {M:Mem} {β:Nat→Option Nat} {st:aI} {g:c_} {tmps:Array Value} {w:World} {o:Oper} {f:ko} {p:Path} {tt:dw} {b4:f6} {ops:List Oper}
structure Hyp(P:Program)(K:Ctx)(N:Nat)(M:Mem)(β:Nat→Option Nat)(g:c_)(tmps:Array Value)(w:World)(p:Path)(tt:dw):Prop where
 bo:fx P K N M β g tmps w
 dM:fC tmps p
 tt:fb P tt=true
def aaa(h:Hyp P K N M β g tmps w p tt){x:Operand}(ax:o.op = .move x)(hs:step1 b4 tt ops g p o=some (.go f)):Yields P K M β g f o tmps w:=by
 simp only [step1,ax]at hs;split at hs
 case h_2=>cases hs
 rename_i d hd
 repeat' (first|(split at hs)|(rw [Bool.cond_eq_ite]at hs))
 all_goals first
  |(cases hs;done)
  |(cases hs;exact PK h.bo h.dM (.inl ax) hd (by assumption))
  |(cases hs;exact BN h.bo h.dM (.inl ax) hd)
def aab(h:Hyp P K N M β g tmps w p tt){x:Operand}(ax:o.op = .assign x)(hs:step1 b4 tt ops g p o=some (.go f)):Yields P K M β g f o tmps w:=by
 simp only [step1,ax]at hs;split at hs
 case h_2=>cases hs
 rename_i d hd;split at hs
 ·rename_i e t fP;rw [Bool.cond_eq_ite]at hs;split at hs<;>cases hs
  ·exact PK h.bo h.dM (.inr ax) hd fP
  ·exact BN h.bo h.dM (.inr ax) hd
 ·split at hs
  ·rw [Bool.cond_eq_ite]at hs;split at hs<;>cases hs
   ·exact Zm h.bo h.dM ax hd _
   ·exact BN h.bo h.dM (.inr ax) hd
  ·cases hs
 ·cases hs;exact BN h.bo h.dM (.inr ax) hd
def aac(h:Hyp P K N M β g tmps w p tt){c:Nat}{a b:Operand}(ax:o.op = .pick (.tmp c) a b)(hs:step1 b4 tt ops g p o=some (.go f)):Yields P K M β g f o tmps w:=by
 simp only [step1,ax]at hs;split at hs
 case h_2=>cases hs
 rename_i qV xB sc Z ae ar;cases hs;exact Zn h.bo h.dM ax Z ae ar
def aad(h:Hyp P K N M β g tmps w p tt){t:TypeId}(ax:o.op = .alloc t)(hs:step1 b4 tt ops g p o=some (.go f)):Yields P K M β g f o tmps w:=by
 simp only [step1,ax]at hs;split at hs
 case h_2=>cases hs
 rename_i id eY hid;split at hs
 case h_2=>cases hs
 rename_i z dE;cases hs;exact Zp h.bo h.tt ax dE hid
def aae(h:Hyp P K N M β g tmps w p tt){t:TypeId}{x:Operand}(ax:o.op = .box t x)(hs:step1 b4 tt ops g p o=some (.go f)):Yields P K M β g f o tmps w:=by
 simp only [step1,ax]at hs;split at hs
 case h_2=>cases hs
 rename_i d id eY aP hd hid af;rw [Bool.cond_eq_ite]at hs;split at hs<;>cases hs
 rename_i B1;simp only [Bool.or_eq_true,Bool.not_eq_true',not_or,Bool.not_eq_true,Bool.not_eq_false,Nat.beq_eq]at B1;exact Zq h.bo h.dM ax hd B1.1.1 B1.1.2 h.tt af B1.2 hid
def aaf(h:Hyp P K N M β g tmps w p tt){t:TypeId}{parts:Array (Nat×Operand)}(ax:o.op = .build t parts)(hs:step1 b4 tt ops g p o=some (.go f)):Yields P K M β g f o tmps w:=by
 simp only [step1,ax]at hs;split at hs
 ·rename_i cr fv jy zero _ cy af k_;rw [Bool.cond_eq_ite]at hs;split at hs
  case isFalse=>cases hs
  rename_i mN;split at hs
  ·simp only [Option.map_eq_some_iff]at hs;obtain⟨d,⟨cs,ei,rfl⟩,hs⟩:=hs;cases hs;exact PW h.bo h.dM h.tt af rfl mN ax k_ (λr=>r.Zt) ei
  ·simp only [Option.map_eq_some_iff]at hs;obtain⟨d,⟨cs,ei,rfl⟩,hs⟩:=hs;cases hs;exact PW h.bo h.dM h.tt af rfl mN ax k_ (λr=>r.PV) ei
 ·rename_i n e fv jy zero _ cy af k_;split at hs
  case h_2=>cases hs
  rename_i aj aag Qs z2 eC;simp only [Option.map_eq_some_iff]at hs;obtain⟨d,⟨cs,ei,rfl⟩,hs⟩:=hs;cases hs;exact Zv h.bo h.dM h.tt af rfl eC ax k_ ei
 ·cases hs
def aah(h:Hyp P K N M β g tmps w p tt){t:TypeId}{len:Nat}{parts:Array (Nat×Operand)}(ax:o.op = .buildSlice t len parts)(hs:step1 b4 tt ops g p o=some (.go f))(cj:∀q,q∈f.aZ→q):Yields P K M β g f o tmps w:=by
 simp only [step1,ax]at hs;split at hs
 case h_2=>cases hs
 rename_i e fv jy zero _ cy af k_;split at hs
 case h_2=>cases hs
 rename_i aj aag Qs z2 eC;split at hs
 case h_2=>cases hs
 rename_i xs x rs hx eD;rw [Bool.cond_eq_ite]at hs;split at hs
 case isFalse=>cases hs
 rename_i hc;simp only [Bool.and_eq_true,Nat.ble_eq,Nat.beq_eq]at hc;cases hs;exact Zx h.bo h.dM h.tt af rfl eC ax k_ hx hc.2 hc.1.2 hc.1.1 (cj _ (List.mem_singleton.2 rfl))
def aai(h:Hyp P K N M β g tmps w p tt){t:TypeId}{a:Operand}(ax:o.op = .load t a)(hs:step1 b4 tt ops g p o=some (.go f)):Yields P K M β g f o tmps w:=by
 simp only [step1,ax]at hs;split at hs
 ·rename_i q off aP ha af;split at hs
  case h_2=>cases hs
  rename_i cs aB;rw [Bool.cond_eq_ite]at hs;split at hs
  ·rename_i iY;rw [Bool.cond_eq_ite]at hs;split at hs
   case isFalse=>cases hs
   rename_i hle;cases hs;exact ZA h.bo h.dM h.tt af ax ha aB iY (by simpa using hle)
  ·rename_i iY;split at hs
   case h_2=>cases hs
   rename_i e he;split at hs
   ·rename_i s rs fI eD;rw [Bool.cond_eq_ite]at hs;split at hs<;>cases hs
    exact ZC h.bo h.dM h.tt af ax ha aB (by simpa using iY) he fI
   ·cases hs;exact ZB h.bo h.dM h.tt af ax ha aB (by simpa using iY) he
 ·rename_i x aP ha af;rw [Bool.cond_eq_ite]at hs;split at hs
  case isFalse=>cases hs
  rename_i hc;simp only [Bool.and_eq_true,beq_iff_eq,Nat.beq_eq]at hc;cases hs;exact ZD h.bo h.dM h.tt af ax ha hc.1 hc.2
 ·cases hs
def aaj(h:Hyp P K N M β g tmps w p tt){t:TypeId}{a x:Operand}(ax:o.op = .store t a x)(hs:step1 b4 tt ops g p o=some (.go f)):Yields P K M β g f o tmps w:=by
 simp only [step1,ax]at hs;split at hs
 case h_2=>cases hs
 rename_i q off d aP ha hx af;split at hs
 case h_2=>cases hs
 rename_i cs aB;rw [Bool.cond_eq_ite]at hs;split at hs
 case isFalse=>cases hs
 rename_i hc;simp only [Bool.and_eq_true,Nat.beq_eq,Nat.ble_eq,Bool.not_eq_true']at hc;obtain⟨⟨⟨⟨jW,lg⟩,_⟩,aak⟩,aal⟩:=hc;split at hs
 ·rename_i u s k n get fP;cases hs;simp only [n5,Option.bind_eq_some_iff]at fP;obtain⟨e,he,aS⟩:=fP;have ej:aP.size=1:=by rw [←jW];rfl
  exact P6 h.bo h.dM h.tt af ax ha aB hx ej lg (l:=[u]) (h.bo.bo.hand he aS (.cell q off))
 ·split at hs
  ·cases hs;have lK:=hx;simp only [rd]at lK;split at lK
   ·cases lK;have ej:aP.size=1:=by rw [←jW];rfl
    exact P6 h.bo h.dM h.tt af ax ha aB hx ej lg (l:=[]) (G8 _ _)
   ·cases lK
  ·cases hs
 ·cases hs;exact ZF h.bo h.dM h.tt af ax ha aB hx aak aal jW lg _
def aam(h:Hyp P K N M β g tmps w p tt){x:Operand}(ax:o.op = .nilCheck x)(hs:step1 b4 tt ops g p o=some (.go f)):Yields P K M β g f o tmps w:=by
 simp only [step1,ax]at hs;split at hs
 ·rename_i q off hd;cases hs;have ak:=d' (ds:=[]) h.bo h.dM hd;obtain⟨b,_,ay⟩:=qd ak;refine eO h.bo (v:=(⟨tmps,[]⟩:Act).eval x) ?_ ak;simp [execOp,ax,ay]
 ·rename_i y hd;cases hs;have ak:=d' (ds:=[]) h.bo h.dM hd;obtain⟨b,off,val,ay,_⟩:=BK ak;refine eO h.bo (v:=(⟨tmps,[]⟩:Act).eval x) ?_ ak;simp [execOp,ax,ay]
 ·cases hs
def aan(h:Hyp P K N M β g tmps w p tt){op:UnOp}{t:TypeId}{x:Operand}(ax:o.op = .unOp op t x)(hs:step1 b4 tt ops g p o=some (.go f)):Yields P K M β g f o tmps w:=by
 simp only [step1,ax]at hs;split at hs
 case h_2=>cases hs
 rename_i a ha;simp only [Option.map_eq_some_iff]at hs;obtain⟨d,⟨fH,u1,rfl⟩,hs⟩:=hs;cases hs;have ak:=d' (ds:=[]) h.bo h.dM ha;unfold Pr at u1;split at u1<;>cases u1
 ·have:=sl ak
  refine eO h.bo (v:=.bool _) ?_ (.v _ _ (.bool _));simp [execOp,ax,this,Op.unary]
 ·have:=k9 ak
  refine eO h.bo (v:=.int _ _) ?_ (.v _ _ (.int _ _));simp [execOp,ax,this,Op.unary,Op.intArith]
def aao(h:Hyp P K N M β g tmps w p tt){s t:TypeId}{x:Operand}(ax:o.op = .convert s t x)(hs:step1 b4 tt ops g p o=some (.go f))(cj:∀q,q∈f.aZ→q):Yields P K M β g f o tmps w:=by
 simp only [step1,ax]at hs;split at hs
 ·rename_i cN _ _ _ _ k _ _ _ _ ee n fk eC hd;cases hs;obtain⟨ah⟩:=eu h.tt fk;obtain⟨ao⟩:=eu h.tt eC;have ak:=k9 (d' (ds:=[]) h.bo h.dM hd);refine eO h.bo (v:=.int k (k.wrap n)) ?_ (.v _ _ (.int _ _));simp only [execOp,ax,ak];refine iH _ ?_;simp [convert,ah.run_underlying,ao.run_underlying,xK ah rfl,xK ao rfl,Conv.intToInt]
 ·rename_i _ _ _ _ _ _ _ _ l fk eC hd;cases hs;obtain⟨ah⟩:=eu h.tt fk;obtain⟨ao⟩:=eu h.tt eC;have ak:=lH (d' (ds:=[]) h.bo h.dM hd);refine eO h.bo (v:=.string ⟨⟨l⟩⟩) ?_ (.v _ _ (.str _));simp only [execOp,ax,ak];refine iH _ ?_;simp [convert,ah.run_underlying,ao.run_underlying,pf ah rfl,pf ao rfl]
 ·rename_i e _ _ _ _ _ _ _ _ n get fk eC hd;split at hs
  case h_2=>cases hs
  rename_i l rs HT eD;cases hs;obtain⟨ah⟩:=eu h.tt fk;obtain⟨ao⟩:=eu h.tt eC;obtain⟨aE⟩:=eu h.tt HT;obtain⟨hlen,h7⟩:=cj _ (List.mem_singleton.2 rfl);have ak:=d' (ds:=[]) h.bo h.dM hd;refine eO h.bo (v:=.string ⟨⟨l⟩⟩) ?_ (.v _ _ (.str _));simp only [execOp,ax];refine iH _ ?_;rcases q0 ak with⟨hn|⟨a,hn⟩,ay⟩|⟨b,off,cap,val,ay,hc,hk,cM,Z,f9⟩
  ·have hl0:l=[]:=List.eq_nil_of_length_eq_zero (hlen.trans ay);rw [hn,hl0];simp [convert,ah.run_underlying,ao.run_underlying,aE.run_underlying,ob ah rfl,pf ao rfl,xK aE rfl,Conv.bytesToString];rfl
  ·have hl0:l=[]:=List.eq_nil_of_length_eq_zero (hlen.trans ay);rw [hn,hl0];exact run_convert_bytes_back w s t e a 0 [] (by rw [ah.hd,ob ah rfl]) (by rw [aE.hd,xK aE rfl]) (by rw [ao.hd,pf ao rfl]) (λj hj=>by simp at hj)
  ·rw [ay,←hlen]
   have hy:∀j (hj:j<l.length),w.cell? ((⟨b,off,none⟩:Addr).add j)=some (.int .u8 (l[j].toNat:Int)):=by
    intro j hj;have HU:j<n:=by omega
    have e1:=h7 j HU;have e2:=f9 j 0 (.int .u8 ((l.getD j 0).toNat:Int)) HU (by rw [e1];rfl)
    have e3:val j 0 = .int .u8 ((l.getD j 0).toNat:Int):=by generalize val j 0=u at e2 ⊢;cases e2;rfl
    have hK:=h.bo.bo.mem _ _ _ (cM j 0 HU (by omega))
    rw [addr_add];have sH:off+j*1+0=off+j:=by omega
    rw [sH,e3]at hK;rw [hK];simp [List.getD,List.getElem?_eq_getElem hj]
   exact run_convert_bytes_back w s t e ⟨b,off,none⟩ cap l (by rw [ah.hd,ob ah rfl]) (by rw [aE.hd,xK aE rfl]) (by rw [ao.hd,pf ao rfl]) hy
 ·cases hs
def aap(h:Hyp P K N M β g tmps w p tt){t:TypeId}{x:Operand}(ax:o.op = .makeInterface t x)(hs:step1 b4 tt ops g p o=some (.go f)):Yields P K M β g f o tmps w:=by
 simp only [step1,ax]at hs;split at hs
 case h_2=>cases hs
 rename_i y k fv jy z _ hd af;obtain⟨r⟩:=eu h.tt af;have ak:=d' (ds:=[]) h.bo h.dM hd
 have hc:P.concrete t=true∨k = .nk:=by
  have hk:=r.hk;cases Qt:r.desc<;>simp [Qt,kv]at hk
  all_goals first
   |exact .inr hk.symm
   |(left;simp [Program.concrete,r.hd,Qt])
 split at hs
 ·cases hs
 ·rename_i hk;cases hs;rcases hc with hc|hc
  ·refine eO h.bo (v:=.iface t ((⟨tmps,[]⟩:Act).eval x)) ?_ (.v _ _ (.iface t _ _ (mM ak)));simp only [execOp,ax];exact iH _ (run_makeInterface w t _ hc)
  ·exact absurd hc hk
def aaq(h:Hyp P K N M β g tmps w p tt){fn:FuncId}{first eQ:Array Operand}(ax:o.op = .makeFunc (.func fn) first eQ)(hs:step1 b4 tt ops g p o=some (.go f)):Yields P K M β g f o tmps w:=by
 simp only [step1,ax]at hs;rw [Bool.cond_eq_ite]at hs;split at hs
 case isFalse=>cases hs
 rename_i he;simp only [Option.map_eq_some_iff]at hs;obtain⟨ds,g_,hs⟩:=hs;cases hs;obtain⟨Z,ae⟩:=q2 g_;have sx:first = #[]:=by simpa using he
 subst sx;refine eO h.bo (v:=.func (.func fn) #[] (eQ.map (⟨tmps,[]⟩:Act).eval)) ?_ ?_
 ·simp [execOp,ax,Instr.makeFunc]
 ·have:eQ.map (⟨tmps,[]⟩:Act).eval=⟨eQ.toList.map (⟨tmps,[]⟩:Act).eval⟩:=by apply Array.ext';simp
  rw [this];refine .fn fn _ ds (by simp [Z]) λi v c ay hc=>?_
  simp only [List.getElem?_map,Option.map_eq_some_iff]at ay;obtain⟨y,cl,rfl⟩:=ay;exact d' h.bo h.dM (ae i y c cl hc)
def aar(h:Hyp P K N M β g tmps w p tt){x:Operand}{i:Nat}(ax:o.op = .extract x i)(hs:step1 b4 tt ops g p o=some (.go f)):Yields P K M β g f o tmps w:=by
 simp only [step1,ax]at hs;split at hs
 case h_2=>cases hs
 rename_i ds hd;simp only [Option.map_eq_some_iff]at hs;obtain⟨d,q_,hs⟩:=hs;cases hs;obtain⟨vs,ay,hlen,ak⟩:=Zg (d' (ds:=[]) h.bo h.dM hd);have hi:i<ds.length:=(List.getElem?_eq_some_iff.1 q_).1;have eN:vs[i]? = some vs[i]:=List.getElem?_eq_getElem (by omega)
 refine eO h.bo (v:=vs[i]) ?_ (ak i _ d eN q_);simp only [execOp,ax,ay];refine iH _ ?_;simp [Instr.extract,eN]
end
section
variable {P:Program} {K:Ctx} {N:Nat} {M:Mem} {β:Nat→Option Nat} {st:aI} {g:c_} {tmps:Array Value} {w:World} {o:Oper} {f:ko} {p:Path} {tt:dw} {b4:f6} {ops:List Oper}
def ql{op:BinOp}{t t2:TypeId}{x y:Operand}(ax:o.op = .binOp op t x y t2){a b v:Value}(hx:(⟨tmps,[]⟩:Act).eval x=a)(cl:(⟨tmps,[]⟩:Act).eval y=b)
 (hg:(eqGuard op t x y a b).run P w = .ok () w) (h:(binOp op t a b).run P w = .ok v w):(execOp (Act.eval ⟨tmps,[]⟩) o).run P w = .ok (.value v) w:=by
 simp only [execOp,ax,hx,cl];refine iH _ ?_;simp only [Sem.run_bind,hg,Result.andThen_ok,h]
def u4{op:BinOp}{t:TypeId}{x y:Operand}{a b:Value}(h:∀cs ds,¬ (a = .agg cs∧b = .agg ds))(ae:a = .nilIface→b = .nilIface→isConst y=true):(eqGuard op t x y a b).run P w = .ok () w:=by
 unfold eqGuard;cases op<;>try rfl
 all_goals
  simp only
  cases a<;>cases b<;>first
   |rfl
   |(exact absurd ⟨rfl,rfl⟩ (h _ _))
   |(have:=ae rfl rfl;cases y<;>simp [isConst]at this;simp)
def aas(cu:fb P tt=true){d:Nat}{gY:TypeId}{x5:List (Option k4)}{x y:V}{xs ys:List V}{gT qm:Value}{r:Bool}
 (he:ij ((look tt gY).map (·.k)::x5) (x::xs) (y::ys)=some r) (x6:cY M gT x) (x7:cY M qm y):∃c q,(Op.equalIn (d+1) gY gT qm).run P w = .ok c w∧ij x5 xs ys=some q∧(c&&q)=r:=by
 cases af:look tt gY with
 |none=>simp [af,ij]at he
 |some aP=>
  obtain⟨row⟩:=eu cu af;have pm:=row.hd;simp only [af,Option.map_some]at he;unfold ij at he;split at he<;>simp only [List.cons.injEq,reduceCtorEq]at *
  case h_2 ks kk k a l k' b m e1 e2 e3=>
   obtain⟨e1,rfl⟩:=e1;obtain⟨rfl,rfl⟩:=e2;obtain⟨rfl,rfl⟩:=e3;cases x6;cases x7
   rw [Bool.cond_eq_ite]at he;split at he
   case isFalse=>cases he
   rename_i hk;simp only [decide_eq_true_eq]at hk;subst hk;simp only [Option.map_eq_some_iff]at he;obtain⟨q,aB,ak⟩:=he;refine⟨decide (a=b),q,?_,aB,ak⟩
   have:∃e0,row.desc = .int e0:=by
    have:=row.hk
    rw [Option.some.inj e1]at this;cases hd:row.desc<;>simp [hd,kv]at this;exact⟨_,rfl⟩
   obtain⟨e0,ir⟩:=this;rw [ir]at pm;rw [run_equalIn_int w d gY k e0 a b pm];rfl
  case h_3 ks a l b m e1 e2 e3=>
   obtain⟨e1,rfl⟩:=e1;obtain⟨rfl,rfl⟩:=e2;obtain⟨rfl,rfl⟩:=e3;cases x6;cases x7
   simp only [Option.map_eq_some_iff]at he;obtain⟨q,aB,ak⟩:=he;refine⟨decide (a=b),q,?_,aB,ak⟩
   have:row.desc = .string:=pf row (Option.some.inj e1)
   rw [this]at pm;rw [run_equalIn_string w d gY _ _ pm,BM,BM];by_cases lM:a=b<;>simp [lM]
  case h_4 ks a l b m e1 e2 e3=>
   obtain⟨e1,rfl⟩:=e1;obtain⟨rfl,rfl⟩:=e2;obtain⟨rfl,rfl⟩:=e3;cases x6;cases x7
   simp only [Option.map_eq_some_iff]at he;obtain⟨q,aB,ak⟩:=he;refine⟨(a == b),q,?_,aB,ak⟩
   have:row.desc = .bool:=HS row (Option.some.inj e1)
   rw [this]at pm;rw [run_equalIn_bool' w d gY _ _ pm]
def mQ(P:Program)(cr:List Field):List (Nat×TypeId×Nat):=cr.map λf=>(f.offset,f.type,P.cellsOf f.type)
def B2:∀{cN aj:List (Option k4)} {xs ys:List V} {r:Bool},ij (cN++aj) xs ys=some r→
 ∃ah ao,ij cN (xs.take cN.length) (ys.take cN.length)=some ah∧ij aj (xs.drop cN.length) (ys.drop cN.length)=some ao∧(ah&&ao)=r∧cN.length≤xs.length∧cN.length≤ys.length∧∀k,k∈cN→k.isSome=true
 |[],aj,xs,ys,r,h=>⟨true,r,by simp [ij],by simpa using h,rfl,Nat.zero_le _,Nat.zero_le _,λk hk=>by cases hk⟩
 |k::cN,aj,xs,ys,r,h=>by
  simp only [List.cons_append]at h;unfold ij at h;split at h<;>simp only [List.cons.injEq,reduceCtorEq]at *
  ·rename_i ks kk k' a l akG b m e1;obtain⟨rfl,rfl⟩:=e1;rw [Bool.cond_eq_ite]at h;split at h
   case isFalse=>cases h
   rename_i hk;simp only [Option.map_eq_some_iff]at h;obtain⟨q,aB,rfl⟩:=h;obtain⟨ah,ao,Z,ae,ar,aK,bc,b2⟩:=B2 aB;refine⟨decide (a=b)&&ah,ao,?_,ae,by rw [Bool.and_assoc,ar],by simpa using aK,by simpa using bc,λe0 ir=>?_⟩
   ·simp only [List.length_cons,List.take_succ_cons,ij,hk,cond_true,Z,Option.map_some]
   ·rcases List.mem_cons.1 ir with rfl|ir
    ·rfl
    ·exact b2 e0 ir
  ·rename_i ks a l b m e1;obtain⟨rfl,rfl⟩:=e1;simp only [Option.map_eq_some_iff]at h;obtain⟨q,aB,rfl⟩:=h;obtain⟨ah,ao,Z,ae,ar,aK,bc,b2⟩:=B2 aB;refine⟨decide (a=b)&&ah,ao,?_,ae,by rw [Bool.and_assoc,ar],by simpa using aK,by simpa using bc,λe0 ir=>?_⟩
   ·simp only [List.length_cons,List.take_succ_cons,ij,Z,Option.map_some]
   ·rcases List.mem_cons.1 ir with rfl|ir
    ·rfl
    ·exact b2 e0 ir
  ·rename_i ks a l b m e1;obtain⟨rfl,rfl⟩:=e1;simp only [Option.map_eq_some_iff]at h;obtain⟨q,aB,rfl⟩:=h;obtain⟨ah,ao,Z,ae,ar,aK,bc,b2⟩:=B2 aB;refine⟨(a == b)&&ah,ao,?_,ae,by rw [Bool.and_assoc,ar],by simpa using aK,by simpa using bc,λe0 ir=>?_⟩
   ·simp only [List.length_cons,List.take_succ_cons,ij,Z,Option.map_some]
   ·rcases List.mem_cons.1 ir with rfl|ir
    ·rfl
    ·exact b2 e0 ir
def ra(tt:dw)(gY:TypeId):Nat→List (Option k4)
 | 0=>[(look tt gY).map (·.k)]
 |q+1=>match look tt gY with
  |some {k:=.bZ gs,..}=>lD tt q gs
  |o=>[o.map (·.k)]
def B3(q:Nat)(f:Field)(cr:List Field):lD tt q (mQ P (f::cr))=ra tt f.type q++lD tt q (mQ P cr):=by
 cases q with
 |zero=>rfl
 |succ q=>
  simp only [lD,mQ,List.map_cons,List.flatMap_cons,ra];rfl
def Qu{t:TypeId}{aP:ew}(r:Row P t aP){gs:Array Field}(h:P.underlying t=some (.struct gs)):aP.k = .bZ (mQ P gs.toList):=by
 have hd:r.desc = .struct gs:=Option.some.inj (r.hd.symm.trans h);have:=r.hk
 rw [hd]at this;simp [kv]at this;exact this.symm
def Qv{t:TypeId}{aP:ew}(r:Row P t aP){gs:List (Nat×TypeId×Nat)}(h:aP.k = .bZ gs):∃cr:Array Field,P.underlying t=some (.struct cr)∧gs=mQ P cr.toList:=by
 have Z:=r.hk;rw [h]at Z;cases hd:r.desc<;>simp [hd,kv]at Z
 rename_i cr;refine⟨cr,?_,Z.symm⟩
 rw [r.hd,hd]
def Qw(cu:fb P tt=true){gY:TypeId}(h:∀gs,P.underlying gY≠some (.struct gs))(q:Nat):ra tt gY q=[(look tt gY).map (·.k)]:=by
 cases q with
 |zero=>rfl
 |succ q=>
  simp only [ra];split
  ·rename_i gs _ _ _ _ af;obtain⟨row⟩:=eu cu af;obtain⟨cr,Z,_⟩:=Qv row rfl;exact absurd Z (h cr)
  ·rfl
def HV(cu:fb P tt=true):∀(q:Nat) (cr:List Field),(∀k,k∈lD tt q (mQ P cr)→k.isSome=true)→(lD tt q (mQ P cr)).length=qc P q cr
 | 0,cr,_=>by simp [lD,mQ,qc]
 |q+1,[],_=>by simp [lD,mQ,qc]
 |q+1,f::cr,h=>by
  rw [B3]at h ⊢;have a7:=HV cu (q+1) cr λk hk=>h k (List.mem_append_right _ hk)
  have hc:qc P (q+1) (f::cr)=(match P.underlying f.type with|some (.struct gs)=>qc P q gs.toList|_=>1)+qc P (q+1) cr:=by
   simp only [qc,List.map_cons,List.sum_cons];rfl
  rw [List.length_append,a7,hc]
  congr 1
  simp only [ra]at h ⊢;split
  ·rename_i gs _ _ _ _ af;obtain⟨row⟩:=eu cu af;obtain⟨x8,Z,rfl⟩:=Qv row rfl;rw [Z];refine HV cu q x8.toList λk hk=>h k (List.mem_append_left _ ?_)
   rw [af];exact hk
  ·rename_i o nw;cases ax:look tt f.type with
   |none=>
    have:=h none (List.mem_append_left _ (by rw [ax];simp))
    cases this
   |some aP=>
    obtain⟨row⟩:=eu cu ax;split
    ·rename_i gs hu;have:=Qu row hu
     obtain⟨k,s,b,z,lJ⟩:=aP;simp only at this
     subst this;exact absurd ax (nw _ _ _ _ _)
    ·rfl
def Qx (cu : fb P tt = true) {d : Nat} {f : Field} {cr : List Field} {i : Nat} {x5 : List (Option k4)} {xs ys : List V} {vs us : List Value} {r : Bool} (rb : f.offset = i) (i7 : ¬ f.name = "_") (iY : (isAgg f.type).run P w = .ok false w)
 (he:ij ((look tt f.type).map (·.k)::x5) xs ys=some r)
 (ay:∀(j:Nat) v x,vs[i+j]? = some v→xs[j]? = some x→cY M v x) (hu:∀(j:Nat) v x,us[i+j]? = some v→ys[j]? = some x→cY M v x) (jY:i+xs.length≤vs.length) (sq:i+ys.length≤us.length)
 (a7:∀(q:Bool),∀{x9 x':List V},ij x5 x9 x'=some q→(∀(j:Nat) v x,vs[i+1+j]? = some v→x9[j]? = some x→cY M v x)→(∀(j:Nat) v x,us[i+1+j]? = some v→x'[j]? = some x→cY M v x)→i+1+x9.length≤vs.length→i+1+x'.length≤us.length→(Op.eqFields (d+1) ⟨vs⟩ ⟨us⟩ cr).run P w = .ok q w):
 (Op.eqFields (d+1) ⟨vs⟩ ⟨us⟩ (f::cr)).run P w = .ok r w:=by
 cases xs with
 |nil=>simp [ij]at he
 |cons x xs=>
  cases ys with
  |nil=>simp [ij]at he
  |cons y ys=>
   simp only [List.length_cons]at jY sq;obtain⟨gT,eN⟩:∃gT,vs[i]? = some gT:=⟨_,List.getElem?_eq_getElem (by omega)⟩
   obtain⟨qm,Qy⟩:∃qm,us[i]? = some qm:=⟨_,List.getElem?_eq_getElem (by omega)⟩
   have x6:=ay 0 gT x eN rfl;have x7:=hu 0 qm y Qy rfl
   have B4:∀{zs:List Value} {z:Value},zs[i]? = some z→(part f.type ⟨zs⟩ f.offset).run P w = .ok z w:=by
    intro zs z dE;have:(⟨zs⟩:Array Value)[f.offset]? = some z:=by rw [rb];simpa using dE
    simp only [part,Sem.run_bind,iY,Result.andThen_ok,this];rfl
   obtain⟨c,q,Z,ae,ar⟩:=aas (P:=P) (w:=w) (M:=M) cu (d:=d) he x6 x7;have aK:=a7 q ae (λj v z Z ae=>ay (j+1) v z (by rw [←Z];congr 1;omega) (by simpa using ae)) (λj v z Z ae=>hu (j+1) v z (by rw [←Z];congr 1;omega) (by simpa using ae)) (by omega) (by omega)
   simp only [Op.eqFields];rw [if_pos i7];simp only [Sem.run_bind,B4 eN,B4 Qy,Result.andThen_ok,Z];cases c
   ·simp [←ar]
   ·simp [←ar,aK]
def aat(cu:fb P tt=true):∀(q:Nat) {d:Nat} {cr:List Field} {i:Nat} {xs ys:List V} {vs us:List Value} {r:Bool},sk P q i cr=true→ij (lD tt q (mQ P cr)) xs ys=some r→
 (∀(j:Nat) v x,vs[i+j]? = some v→xs[j]? = some x→cY M v x)→(∀(j:Nat) v x,us[i+j]? = some v→ys[j]? = some x→cY M v x)→i+xs.length≤vs.length→i+ys.length≤us.length→
 (Op.eqFields (d+q+1) ⟨vs⟩ ⟨us⟩ cr).run P w = .ok r w:=by
 intro q;induction q with
 |zero=>
  intro d cr;induction cr with
  |nil=>intro i xs ys vs us r _ he _ _ _ _;cases xs<;>cases ys<;>simp [lD,mQ,ij]at he;subst he;simp [Op.eqFields]
  |cons f cr a7=>
   intro i xs ys vs us r ba he ay hu jY sq;simp only [sk,uP,Bool.and_eq_true,Nat.beq_eq,Bool.not_eq_true',decide_eq_false_iff_not]at ba;obtain⟨⟨rb,i7⟩,gj⟩:=ba
   have u5:(∀gs,P.underlying f.type≠some (.struct gs))∧sk P 0 (i+1) cr=true∧(isAgg f.type).run P w = .ok false w:=by
    simp only [isAgg,Sem.run_bind];split at gj
    ·rename_i k hk;refine⟨λgs h=>(by rw [hk]at h;cases h),gj,?_⟩;rw [Go.run_underlying hk];rfl
    ·rename_i hk;refine⟨λgs h=>(by rw [hk]at h;cases h),gj,?_⟩;rw [Go.run_underlying hk];rfl
    ·rename_i hk;refine⟨λgs h=>(by rw [hk]at h;cases h),gj,?_⟩;rw [Go.run_underlying hk];rfl
    ·simp at gj
    ·cases gj
   exact Qx cu rb i7 u5.2.2 (by rw [B3,Qw cu u5.1]at he;exact he) ay hu jY sq λq' x9 x' od nt HW Z ae=>a7 u5.2.1 od nt HW Z ae
 |succ q aau=>
  intro d cr;induction cr with
  |nil=>intro i xs ys vs us r _ he _ _ _ _;cases xs<;>cases ys<;>simp [lD,mQ,ij]at he;subst he;simp [Op.eqFields]
  |cons f cr a7=>
   intro i xs ys vs us r ba he ay hu jY sq;have x_:=ba;simp only [sk,uP,Bool.and_eq_true,Nat.beq_eq,Bool.not_eq_true',decide_eq_false_iff_not]at ba;obtain⟨⟨rb,i7⟩,gj⟩:=ba;by_cases dH:∃gs,P.underlying f.type=some (.struct gs)
   ·obtain⟨gs,u6⟩:=dH;rw [u6]at gj;simp only [Bool.and_eq_true,Bool.not_eq_true',Nat.beq_eq]at gj;obtain⟨⟨⟨aav,aaw⟩,aax⟩,Qz⟩:=gj;rw [B3]at he;obtain⟨ah,ao,e1,e2,e3,gb,h8,sE⟩:=B2 he
    have jC:∃aP,look tt f.type=some aP:=by
     cases af:look tt f.type with
     |none=>have:=sE none (by simp [ra,af]);cases this
     |some aP=>exact⟨aP,rfl⟩
    obtain⟨aP,B5⟩:=jC;obtain⟨row⟩:=eu cu B5;have hk:=Qu row u6
    have sA:ra tt f.type (q+1)=lD tt q (mQ P gs.toList):=by
     obtain⟨k,s,b,z,lJ⟩:=aP;simp only at hk
     subst hk;simp only [ra,B5]
    rw [sA]at e1 e2 gb h8 sE;have hn:=HV cu q gs.toList sE;rw [hn,←aaw]at e1 e2 gb h8;generalize bz:P.cellsOf f.type=n at e1 e2 gb h8
    obtain⟨info,BP⟩:=info_of_underlying u6
    have B4:∀zs:List Value,(part f.type ⟨zs⟩ f.offset).run P w = .ok (.agg ⟨(zs.drop i).take n⟩) w:=by
     intro zs
     have:(⟨zs⟩:Array Value).extract i (i+n)=⟨(zs.drop i).take n⟩:=by
      apply Array.ext';rw [Array.toList_extract];simp [List.extract]
     simp only [part,isAgg,Sem.run_bind,run_underlying u6,run_sizeOf w BP,Result.andThen_ok,Sem.run_pure,rb,bz];simp [this,run_sizeOf w BP,bz]
    have lF:∀{zs:List Value} {cs:List V},(∀(j:Nat) v x,zs[i+j]? = some v→cs[j]? = some x→cY M v x)→∀(j:Nat) v x,((zs.drop i).take n)[0+j]? = some v→(cs.take n)[j]? = some x→cY M v x:=by
     intro zs cs h j v x Z ae;rw [Nat.zero_add,List.getElem?_take]at Z;rw [List.getElem?_take]at ae;split at Z
     ·rename_i hj;rw [if_pos hj]at ae;rw [List.getElem?_drop]at Z;exact h j v x Z ae
     ·cases Z
    have uW:P.fieldsOf f.type=gs:=by simp [Program.fieldsOf,u6]
    have hin:(Op.equalIn (d+(q+1)+1) f.type (.agg ⟨(vs.drop i).take n⟩) (.agg ⟨(us.drop i).take n⟩)).run P w = .ok ah w:=by
     rw [run_equalIn_agg w (d+(q+1)) f.type _ _ (by rw [uW];exact u6) aav,uW]
     exact aau (d:=d) (i:=0) aax e1 (lF ay) (lF hu) (by simp;omega) (by simp;omega)
    have QA:∀{zs:List Value} {cs:List V},(∀(j:Nat) v x,zs[i+j]? = some v→cs[j]? = some x→cY M v x)→∀(j:Nat) v x,zs[i+n+j]? = some v→(cs.drop n)[j]? = some x→cY M v x:=by
     intro zs cs h j v x Z ae;rw [List.getElem?_drop]at ae;exact h (n+j) v x (by rw [←Nat.add_assoc];exact Z) ae
    rw [bz]at Qz;have iG:=a7 (i:=i+n) Qz e2 (QA ay) (QA hu) (by simp;omega) (by simp;omega)
    simp only [Op.eqFields];rw [if_pos i7];simp only [Sem.run_bind,B4,Result.andThen_ok,hin];cases ah
    ·simp [←e3]
    ·simp [←e3,iG]
   ·have u5:sk P (q+1) (i+1) cr=true∧(isAgg f.type).run P w = .ok false w:=by
     simp only [isAgg,Sem.run_bind];split at gj
     ·rename_i k hk;refine⟨gj,?_⟩;rw [Go.run_underlying hk];rfl
     ·rename_i hk;refine⟨gj,?_⟩;rw [Go.run_underlying hk];rfl
     ·rename_i hk;refine⟨gj,?_⟩;rw [Go.run_underlying hk];rfl
     ·rename_i gs hk;exact absurd ⟨gs,hk⟩ dH
     ·cases gj
    exact Qx cu rb i7 u5.2 (by rw [B3,Qw cu (λgs h=>dH ⟨gs,h⟩)]at he;exact he) ay hu jY sq λq' x9 x' od nt HW Z ae=>a7 u5.1 od nt HW Z ae
def QB(cu:fb P tt=true){t:TypeId}{cr:List (Nat×TypeId×Nat)}{fv jy:Nat}{z:List V}{lJ:List (Nat×TypeId)}(af:look tt t=some {k:=.bZ cr,size:=fv,bytes:=jy,zero:=z,iT:=lJ})(he:G_ P t=true){xs ys:List V}{r:Bool}(ak:ij (lD tt 4 cr) xs ys=some r)
 {gT qm:Value} (ay:cY M gT (.agg xs)) (hu:cY M qm (.agg ys)):∃vs us,gT = .agg ⟨vs⟩∧qm = .agg ⟨us⟩∧(Op.equalIn 10000 t (.agg ⟨vs⟩) (.agg ⟨us⟩)).run P w = .ok r w∧∀op a b,(eqGuard op t a b (.agg ⟨vs⟩) (.agg ⟨us⟩)).run P w = .ok () w:=by
 obtain⟨row⟩:=eu cu af;cases ay with
 |agg vs _ hn Z f9=>
  cases hu with
  |agg us _ BH l5 aay=>
   refine⟨vs,us,rfl,rfl,?_⟩
   unfold G_ at he;split at he
   case h_2=>cases he
   rename_i x8 pm;simp only [Bool.and_eq_true,Bool.not_eq_true']at he;obtain⟨⟨ae,ar⟩,aK⟩:=he;have x_:P.fieldsOf t=x8:=by simp [Program.fieldsOf,pm]
   have HX:row.desc = .struct x8:=Option.some.inj (row.hd.symm.trans pm)
   have mN:cr=x8.toList.map λf=>(f.offset,f.type,P.cellsOf f.type):=by
    have:=row.hk
    rw [HX]at this;simp [kv]at this;exact this.symm
   refine⟨?_,λop a b=>run_eqGuard_agg w op t a b _ _ ar⟩
   rw [run_equalIn_agg w 9999 t _ _ (by rw [x_];exact pm) ae,x_]
   refine aat cu 4 (d:=9994) (i:=0) (xs:=xs) (ys:=ys) aK (by rw [mN]at ak;exact ak) (λj v x bc b2=>f9 j v x (by simpa using bc) b2) (λj v x bc b2=>aay j v x (by simpa using bc) b2) (by omega) (by omega)
def aaz(h:Hyp P K N M β g tmps w p tt){op:BinOp}{t t2:TypeId}{x y:Operand}(ax:o.op = .binOp op t x y t2)(hs:step1 (iZ P) tt ops g p o=some (.go f))(cj:∀q,q∈f.aZ→q):Yields P K M β g f o tmps w:=by
 simp only [step1,ax]at hs;split at hs
 case h_3=>cases hs
 case h_1=>
  rename_i xs ys ha hb;have og:=mM (d' (ds:=[]) h.bo h.dM ha);have nx:=mM (d' (ds:=[]) h.bo h.dM hb);split at hs
  case h_2=>cases hs
  rename_i cr fv jy z _ af;rw [Bool.cond_eq_ite]at hs;split at hs
  case isFalse=>cases hs
  rename_i he;split at hs
  ·rename_i r ak;cases hs;obtain⟨vs,us,e1,e2,Z,ae⟩:=QB (w:=w) (M:=M) h.tt af he ak og nx;exact eO h.bo (ql ax e1 e2 (ae _ _ _) (by rw [run_eql_struct,Z];rfl)) (.v _ _ (.bool _))
  ·rename_i r ak;cases hs;obtain⟨vs,us,e1,e2,Z,ae⟩:=QB (w:=w) (M:=M) h.tt af he ak og nx;exact eO h.bo (ql ax e1 e2 (ae _ _ _) (by rw [run_neq_struct,Z];rfl)) (.v _ _ (.bool _))
  ·cases hs
 rename_i a b ha hb;simp only [Option.map_eq_some_iff]at hs;obtain⟨⟨z,aZ⟩,dE,hs⟩:=hs;cases hs;have og:=d' (ds:=[]) h.bo h.dM ha;have nx:=d' (ds:=[]) h.bo h.dM hb;unfold Pq at dE;split at dE
 ·rename_i cN m aj n;have e1:=k9 og;have e2:=k9 nx;split at dE
  ·rename_i z0 hsh;cases dE;obtain⟨v,ay,ak⟩:=Z7 (P:=P) (w:=w) (M:=M) (k':=aj) hsh cj t;exact eO h.bo (ql ax e1 e2 (u4 (by simp) (by simp)) ay) (.v _ _ ak)
  rw [Bool.cond_eq_ite]at dE;split at dE
  case isFalse=>cases dE
  rename_i hk;simp only [decide_eq_true_eq]at hk;subst hk;obtain⟨v,ay,ak⟩:=Z6 (P:=P) (w:=w) (M:=M) dE cj t;exact eO h.bo (ql ax e1 e2 (u4 (by simp) (by simp)) ay) (.v _ _ ak)
 ·have e1:=lH og;have e2:=lH nx;obtain⟨v,ay,ak⟩:=Z8 (P:=P) (w:=w) (M:=M) dE cj t;exact eO h.bo (ql ax e1 e2 (u4 (by simp) (by simp)) ay) (.v _ _ ak)
 ·rename_i cS hz;have e1:=sl og;have e2:=sl nx;obtain⟨dep,hm⟩:∃d,Op.maxDepth=d+1:=⟨9999,rfl⟩;cases af:look tt t with
  |none=>rw [af]at dE;simp at dE
  |some aP=>
   rw [af]at dE;obtain⟨r⟩:=eu h.tt af;split at dE<;>cases dE
   ·rename_i hk;simp at hk
    refine eO h.bo (v:=.bool (cS == hz)) (ql ax e1 e2 (u4 (by simp) (by simp)) ?_) (.v _ _ (.bool _))
    simp only [binOp,Sem.run_bind];rw [Op.equal,hm,Op.equalIn];simp [r.run_underlying,HS r hk]
   ·rename_i hk;simp at hk
    refine eO h.bo (v:=.bool (!(cS == hz))) (ql ax e1 e2 (u4 (by simp) (by simp)) ?_) (.v _ _ (.bool _))
    simp only [binOp,Sem.run_bind];rw [Op.equal,hm,Op.equalIn];simp [r.run_underlying,HS r hk]
 ·cases af:look tt t with
  |none=>rw [af]at dE;simp at dE
  |some aP=>
   rw [af]at dE;simp only [Option.map_some]at dE;obtain⟨r⟩:=eu h.tt af;rw [Bool.cond_eq_ite]at dE;split at dE
   case isFalse=>cases dE
   rename_i hc;simp only [Bool.and_eq_true]at hc
   have QC:(eqGuard op t x y ((⟨tmps,[]⟩:Act).eval x) ((⟨tmps,[]⟩:Act).eval y)).run P w = .ok () w:=by
    refine u4 ?_ (λ_ _=>hc.2)
    rintro cs ds ⟨_,bQ⟩
    rw [bQ]at nx;have HY:=hc.1;unfold Bx at HY;split at HY<;>first|(cases mM nx;done)|(cases HY;done)
   split at dE<;>cases dE
   ·rename_i res hn;obtain⟨Z,ae⟩:=Qr (w:=w) r og nx hc.1 hn;refine eO h.bo (v:=.bool res) (ql ax rfl rfl QC ?_) (.v _ _ (.bool _));rw [ae .eql];simp [Z]
   ·rename_i res hn;obtain⟨Z,ae⟩:=Qr (w:=w) r og nx hc.1 hn;refine eO h.bo (v:=.bool (!res)) (ql ax rfl rfl QC ?_) (.v _ _ (.bool _));rw [ae .neq];simp [Z]
def aaA(h:Hyp P K N M β g tmps w p tt){s:TypeId}{x:Operand}{i:Nat}(ax:o.op = .fieldAddr s x i)(hs:step1 b4 tt ops g p o=some (.go f)):Yields P K M β g f o tmps w:=by
 simp only [step1,ax]at hs;split at hs
 ·rename_i q off cr fv jy z _ hd af;obtain⟨r⟩:=eu h.tt af;split at hs
  case h_2=>cases hs
  rename_i dD gY u7 ba;rw [Bool.cond_eq_ite]at hs;split at hs
  case isFalse=>cases hs
  rename_i hc;cases hs;obtain⟨b,hb,ay⟩:=qd (d' (ds:=[]) h.bo h.dM hd);refine eO h.bo (v:=.pointer (some ⟨b,off+dD,none⟩)) ?_ (.ptr _ _ _ hb);simp only [execOp,ax,ay];exact iH _ (PI r rfl ba (by simpa using hc) b off)
 ·rename_i cs cr fv jy z _ hd af;obtain⟨r⟩:=eu h.tt af;split at hs
  case h_2=>cases hs
  rename_i dD gY u7 ba;split at hs
  case h_2=>cases hs
  rename_i uT B6;rw [Bool.cond_eq_ite]at hs;split at hs
  case isFalse=>cases hs
  rename_i hc;simp only [Bool.and_eq_true,Nat.ble_eq]at hc;obtain⟨b,off,val,ay,cM,Z,ak⟩:=BK (d' (ds:=[]) h.bo h.dM hd)
  have eS:(execOp (Act.eval ⟨tmps,[]⟩) o).run P w = .ok (.value (.pointer (some ⟨b,off+dD,none⟩))) w:=by
   simp only [execOp,ax,ay];exact iH _ (PI r rfl ba hc.1 b off)
  simp only [V.cells]at cM Z ak;rw [Bool.cond_eq_ite]at hs;split at hs
  ·cases hs;have hlen:((cs.drop dD).take u7).length=u7:=by simp;omega
   refine eO h.bo eS (.eI b (off+dD) _ (λj=>val (dD+j)) (λj hj=>?_) (λj hj=>?_) (λj c hj=>?_))
   ·simp only [V.cells,hlen]at hj;rw [Nat.add_assoc];exact cM _ (by omega)
   ·simp only [V.cells,hlen]at hj;exact Z _ (by omega)
   ·simp only [V.cells]at hj;rw [List.getElem?_take]at hj;split at hj
    ·rw [List.getElem?_drop]at hj;exact ak _ c hj
    ·cases hj
  ·rw [Bool.cond_eq_ite]at hs;split at hs
   case isFalse=>cases hs
   rename_i ej;split at hs
   case h_2=>cases hs
   rename_i c jW;rw [Bool.cond_eq_ite]at hs;split at hs
   ·cases hs
   ·rename_i aaB;cases hs;have la:=uS (x:=c) (by simpa using aaB)
    refine eO h.bo eS (.eI b (off+dD) c (λj=>val (dD+j)) (λj hj=>?_) (λj hj=>?_) (λj k8 hj=>?_))
    ·rw [la]at hj;rw [Nat.add_assoc];exact cM _ (by have:=(List.getElem?_eq_some_iff.1 jW).1;simp at hj;omega)
    ·rw [la]at hj;exact Z _ (by have:=(List.getElem?_eq_some_iff.1 jW).1;simp at hj;omega)
    ·rw [la]at hj;cases j with
     |zero=>simp at hj;subst hj;exact ak _ _ jW
     |succ j=>simp at hj
 ·cases hs
def aaC(h:Hyp P K N M β g tmps w p tt){s:TypeId}{x:Operand}{i:Nat}(ax:o.op = .field s x i)(hs:step1 b4 tt ops g p o=some (.go f)):Yields P K M β g f o tmps w:=by
 simp only [step1,ax]at hs;split at hs
 case h_3=>cases hs
 case h_2=>
  rename_i cs cr fv jy z _ hd af;obtain⟨r⟩:=eu h.tt af;split at hs
  case h_2=>cases hs
  rename_i dD gY u7 ba;split at hs
  case h_2=>cases hs
  rename_i uT c B6 jW;obtain⟨HZ⟩:=eu h.tt B6;rw [Bool.cond_eq_ite]at hs;split at hs
  ·cases hs
  rename_i hc;simp only [Bool.or_eq_true,not_or,Bool.not_eq_true,Bool.not_eq_true',Bool.not_eq_false,Nat.beq_eq]at hc;cases hs;have kW:=d' (ds:=[]) h.bo h.dM hd;generalize sI:(⟨tmps,[]⟩:Act).eval x=gT at kW
  cases kW with
  |agg vs _ hn Z ak=>
   have c8:dD<cs.length:=(List.getElem?_eq_some_iff.1 jW).1;have eN:vs[dD]? = some vs[dD]:=List.getElem?_eq_getElem (by omega)
   obtain⟨ha,hb⟩:=PJ (w:=w) r rfl ba HZ vs (by omega)
   refine eO h.bo (v:=vs[dD]) ?_ (ak _ _ c eN jW);simp only [execOp,ax,sI];exact iH _ (hb hc.1.1 _ eN)
 rename_i cs cr fv jy z _ hd af;obtain⟨r⟩:=eu h.tt af;split at hs
 case h_2=>cases hs
 rename_i dD gY u7 ba;split at hs
 case h_2=>cases hs
 rename_i uT B6;obtain⟨HZ⟩:=eu h.tt B6;rw [Bool.cond_eq_ite]at hs;split at hs
 case isFalse=>cases hs
 rename_i hc;simp only [Nat.ble_eq]at hc;obtain⟨vs,ay,hlen,Z,ak⟩:=Zf (d' (ds:=[]) h.bo h.dM hd);obtain⟨ha,hb⟩:=PJ (w:=w) r rfl ba HZ vs (by omega)
 rw [Bool.cond_eq_ite]at hs;split at hs
 ·rename_i iY;cases hs;refine eO h.bo (v:=.agg ⟨(vs.drop dD).take u7⟩) ?_ (.v _ _ (.agg _ _ (by simp;omega) (λv ay=>Z v (List.mem_of_mem_drop (List.mem_of_mem_take ay))) (λj v c ay ji=>?_)))
  ·simp only [execOp,ax,ay];exact iH _ (ha iY)
  ·rw [List.getElem?_take]at ay ji;split at ay
   ·rename_i hj;rw [if_pos hj,List.getElem?_drop]at ji;rw [List.getElem?_drop]at ay;exact ak _ v c ay ji
   ·cases ay
 ·rename_i iY;split at hs
  case h_2=>cases hs
  rename_i c jW;cases hs;have c8:dD<cs.length:=(List.getElem?_eq_some_iff.1 jW).1;have eN:vs[dD]? = some vs[dD]:=List.getElem?_eq_getElem (by omega)
  refine eO h.bo (v:=vs[dD]) ?_ (.v _ _ (ak _ _ c eN jW));simp only [execOp,ax,ay];exact iH _ (hb (by simpa using iY) _ eN)
def aaD{x y:V}(ay:gC x y){k b off:Nat}{val:Nat→Value}(hk:x.cells.length=k)(cM:∀q,q<k→M b (off+q)=some (val q))(Z:∀q,q<k→(val q).oneCell'=true)
 (ak:∀(q:Nat) c,x.cells[q]? = some c→cY M (val q) c):ct M β (.pointer (some ⟨b,off,none⟩)) (.eI y):=by
 subst hk;have cl:=ay M _ (PG Z ak);cases hx:x.isAgg with
 |true=>
  rw [hx]at cl;simp only [cond_true]at cl;cases cl with
  |agg vs cs hn l5 fG=>
   have hlen:cs.length=x.cells.length:=by simpa using hn.symm
   refine .eI b off _ val (λj hj=>cM j (by simp only [V.cells]at hj;omega)) (λj hj=>Z j (by simp only [V.cells]at hj;omega)) (λj c hj=>?_)
   simp only [V.cells]at hj;have sB:j<x.cells.length:=by have:=(List.getElem?_eq_some_iff.1 hj).1;omega
   exact fG j (val j) c (by simp [sB]) hj
  |any _ l5=>simp [Value.oneCell']at l5
 |false=>
  rw [hx]at cl;simp only [cond_false]at cl;have u9:=uS hx;have il:=Z 0 (by rw [u9];simp)
  have aaE:y.isAgg=false:=by
   cases y<;>first|rfl|skip
   exfalso
   generalize val 0=u at cl il
   cases cl;simp [Value.oneCell']at il
  have H0:=uS aaE;refine .eI b off y val (λj hj=>cM j (by rw [u9];rw [H0]at hj;exact hj)) (λj hj=>Z j (by rw [u9];rw [H0]at hj;exact hj)) (λj c hj=>?_)
  rw [H0]at hj;cases j with
  |zero=>simp at hj;subst hj;exact cl
  |succ j=>simp at hj
def aaF(h:Hyp P K N M β g tmps w p tt){t:TypeId}{x i:Operand}(ax:o.op = .indexAddr t x i)(hs:step1 b4 tt ops g p o=some (.go f))(cj:∀q,q∈f.aZ→q):Yields P K M β g f o tmps w:=by
 simp only [step1,ax]at hs;split at hs
 case h_2=>cases hs
 rename_i k n get kk j e fv jy z _ hx hi af;obtain⟨r⟩:=eu h.tt af;split at hs
 case h_2=>cases hs
 rename_i aj size Qs z2 eC;obtain⟨dG⟩:=eu h.tt eC;rw [Bool.cond_eq_ite]at hs;split at hs
 case isFalse=>cases hs
 rename_i hc;simp only [Bool.and_eq_true,Nat.beq_eq,Nat.ble_eq]at hc;obtain⟨rfl,B7⟩:=hc
 have sJ:∃(y:V) (rs:List e') (aZ:List Prop),f={e:=some {d:=.eI y},rs,aZ}∧gC (get j.toNat) y∧aN j n=true:=by
  split at hs
  ·rename_i y rs eD;cases hs;exact⟨_,_,_,rfl,cj _ (by simp),cj (aN j n=true) (by simp)⟩
  ·cases hs;exact⟨_,_,_,rfl,λ_ _ h=>h,cj (aN j n=true) (by simp)⟩
  ·cases hs
 obtain⟨y,rs,aZ,rfl,dc,fR⟩:=sJ;have fR:=Qn fR;have H2:=k9 (d' (ds:=[]) h.bo h.dM hi);rcases q0 (d' (ds:=[]) h.bo h.dM hx) with⟨_,mO⟩|⟨b,off,cap,val,ay,_,hk,cM,Z,ak⟩
 ·omega
 ·have c8:j.toNat<n:=by omega
  have cl:ct M β (.pointer (some ⟨b,off+j.toNat*k,none⟩)) (.eI y):=
   aaD dc (hk _ c8) (λq aB=>cM _ q c8 aB) (λq aB=>Z _ q c8 aB) (λq c aB=>ak _ q c c8 aB)
  refine eO h.bo (v:=.pointer (some ⟨b,off+j.toNat*k,none⟩)) ?_ cl;simp only [execOp,ax,ay,H2];exact iH _ (Zj r rfl dG fR.1 fR.2)
def aaG(h:Hyp P K N M β g tmps w p tt){t:TypeId}{x i:Operand}(ax:o.op = .index t x i)(hs:step1 b4 tt ops g p o=some (.go f))(cj:∀q,q∈f.aZ→q):Yields P K M β g f o tmps w:=by
 simp only [step1,ax]at hs;split at hs
 case h_2=>cases hs
 rename_i l kk j fv jy z _ hx hi af;obtain⟨r⟩:=eu h.tt af;cases hs;have hb:=Qn (cj (aN j l.length=true) (by simp))
 have ex:=lH (d' (ds:=[]) h.bo h.dM hx);have H2:=k9 (d' (ds:=[]) h.bo h.dM hi);refine eO h.bo (v:=.int .u8 (l.getD j.toNat 0).toNat) ?_ (.v _ _ (.int _ _));simp only [execOp,ax,ex,H2];exact iH _ (Zk r rfl hb.1 hb.2)
def aaH{k n m:Nat}{get:Nat→V}{a:Nat}{b off cap:Nat}
 {val:Nat→Nat→Value} (hk:∀i,i<n→(get i).cells.length=k) (cM:∀i j,i<n→j<k→M b (off+i*k+j)=some (val i j)) (Z:∀i j,i<n→j<k→(val i j).oneCell'=true)
 (ak:∀(i j:Nat) c,i<n→(get i).cells[j]? = some c→cY M (val i j) c) (hm:a+m≤n) (hc:m≤cap):
 cY M (.slice (some ⟨b,off+a*k,none⟩) m cap) (.bD k m λi=>get (a+i)):=by
 refine .bD b (off+a*k) k m cap _ (λi j=>val (a+i) j) hc (λi hi=>hk _ (by omega)) (λi j hi hj=>?_) (λi j hi hj=>Z _ _ (by omega) hj) (λi j c hi la=>ak _ _ _ (by omega) la)
 have:=cM (a+i) j (by omega) hj
 rw [Nat.add_mul]at this
 rwa [show off+a*k+i*k+j=off+(a*k+i*k)+j by omega]
def B8{t e:TypeId}{aP b8:ew}(r:Row P t aP)(hk:aP.k = .bD e)(dG:Row P e b8){base:Option Addr}{n cap:Nat}{lo hi:Option Value}{a b:Nat}
 (jj:lo=none∧a=0∨∃k,lo=some (.int k a)) (iI:hi=none∧b=n∨∃k,hi=some (.int k b)) (lM:a≤b) (pn:b≤n) (lN:n≤cap):
 (Instr.sliceAt t (.slice base n cap) lo hi none).run P w = .ok (.slice (if cap=a then base else base.map (·.add (a*b8.size))) (b-a) (cap-a)) w:=by
 have hu:=r.run_underlying w;rw [ob r hk]at hu;have B9:b≤cap:=by omega
 rcases jj with⟨rfl,rfl⟩|⟨cN,rfl⟩<;>rcases iI with⟨rfl,rfl⟩|⟨aj,rfl⟩
 ·simp [Instr.sliceAt,hu,Instr.slice,Instr.sliceBounds,dG.run_sizeOf]
 ·simp [Instr.sliceAt,hu,Instr.slice,Instr.sliceBounds,Instr.sliceBound,asIntOf,dG.run_sizeOf,B9]
 ·simp [Instr.sliceAt,hu,Instr.slice,Instr.sliceBounds,Instr.sliceBound,asIntOf,dG.run_sizeOf,lM]
 ·simp [Instr.sliceAt,hu,Instr.slice,Instr.sliceBounds,Instr.sliceBound,asIntOf,dG.run_sizeOf,B9,lM]
end
section
variable {P:Program} {K:Ctx} {N:Nat} {M:Mem} {β:Nat→Option Nat} {st:aI} {g:c_} {tmps:Array Value} {w:World} {o:Oper} {f:ko} {p:Path} {tt:dw} {b4:f6} {ops:List Oper}
def qn{t:TypeId}{x:Operand}{lo hi jh:Option Operand}(ax:o.op = .slice t x lo hi jh){v u:Value}(hx:(⟨tmps,[]⟩:Act).eval x=v){a b:Option Value}(ha:lo.map (⟨tmps,[]⟩:Act).eval=a)(hb:hi.map (⟨tmps,[]⟩:Act).eval=b){c:Option Value}(hm:jh.map (⟨tmps,[]⟩:Act).eval=c)
 (h:(Instr.sliceAt t v a b c).run P w = .ok u w):(execOp (Act.eval ⟨tmps,[]⟩) o).run P w = .ok (.value u) w:=by
 simp only [execOp,ax,hx,ha,hb,hm];exact iH _ h
def B'{t:TypeId}{aP:ew}(r:Row P t aP)(hk:aP.k = .str){l:al5}{lo hi:Option Value}{a b:Nat}
 (jj:lo=none∧a=0∨∃k,lo=some (.int k a)) (iI:hi=none∧b=l.length∨∃k,hi=some (.int k b)) (lM:a≤b) (pn:b≤l.length):
 (Instr.sliceAt t (.string ⟨⟨l⟩⟩) lo hi none).run P w = .ok (.string ⟨⟨(l.take b).drop a⟩⟩) w:=by
 have hu:=r.run_underlying w;rw [pf r hk]at hu;have hs:(⟨⟨l⟩⟩:ByteArray).size=l.length:=rfl
 have hx:(⟨⟨l⟩⟩:ByteArray).extract a b=⟨⟨(l.take b).drop a⟩⟩:=by
  have:=ByteArray.extract_mk l a b
  rw [List.drop_take];exact this
 rcases jj with⟨rfl,rfl⟩|⟨cN,rfl⟩<;>rcases iI with⟨rfl,rfl⟩|⟨aj,rfl⟩
 ·simp [Instr.sliceAt,hu,Instr.slice,Instr.sliceBounds]
 ·simp [Instr.sliceAt,hu,Instr.slice,Instr.sliceBounds,Instr.sliceBound,asIntOf,pn,hs,hx]
 ·simp [Instr.sliceAt,hu,Instr.slice,Instr.sliceBounds,Instr.sliceBound,asIntOf,lM,hs,hx]
 ·simp [Instr.sliceAt,hu,Instr.slice,Instr.sliceBounds,Instr.sliceBound,asIntOf,pn,lM,hs,hx]
def ya{v:Value}{k n:Nat}{get:Nat→V}(ay:ct M β v (.v (.bD k n get))){a b:Nat}(lM:a≤b)(pn:b≤n){base:Option Addr}{cap:Nat}(sK:v = .slice base n cap)(lN:n≤cap):
 cY M (.slice (if cap=a then base else base.map (·.add (a*k))) (b-a) (cap-a)) (.bD k (b-a) λi=>get (a+i)):=by
 rcases q0 ay with⟨Z|⟨a0,Z⟩,ae⟩|⟨nv,off,P',val,Z,hc,hk,cM,l5,ak⟩
 ·rw [sK]at Z;cases Z;have:b=0:=by omega
  subst this;have:a=0:=by omega
  subst this;exact .k5 _ _
 ·rw [sK]at Z;cases Z;have:b=0:=by omega
  subst this;have:a=0:=by omega
  subst this;exact .n2 _ _ _
 ·rw [sK]at Z;cases Z;by_cases QD:cap=a
  ·rw [if_pos QD];have:b-a=0:=by omega
   rw [this];exact .bD nv off k 0 _ _ (λ_ _=>undef) (Nat.zero_le _) (by simp) (by simp) (by simp) (by simp)
  ·rw [if_neg QD];simp only [Option.map_some,addr_add];exact aaH hk cM l5 ak (by omega) (by omega)
def aaI(h:Hyp P K N M β g tmps w p tt){t:TypeId}{x:Operand}{lo hi jh:Option Operand}(ax:o.op = .slice t x lo hi jh)(hs:step1 b4 tt ops g p o=some (.go f))(cj:∀q,q∈f.aZ→q):Yields P K M β g f o tmps w:=by
 have fr:∀{y:Option Operand} {kk:IntKind} {n:Int},y.map (λy=>rd g.env g.bU p tt o.type y)=some (some (.v (.int kk n)))→y.map (⟨tmps,[]⟩:Act).eval=some (.int kk n):=by
  intro y kk n cl;cases y with
  |none=>simp at cl
  |some y=>
   simp at cl
   simp [k9 (d' (ds:=[]) h.bo h.dM cl)]
 have rc:∀{y:Option Operand},y.map (λy=>rd g.env g.bU p tt o.type y)=none→y.map (⟨tmps,[]⟩:Act).eval=none:=by
  intro y cl;simp at cl;simp [cl]
 simp only [step1,ax]at hs;split at hs
 ·rename_i fv jy z _ af;obtain⟨r⟩:=eu h.tt af;split at hs
  ·rename_i l hx jj iI;cases hs;have ex:=lH (d' (ds:=[]) h.bo h.dM hx);have:=B' (w:=w) r rfl (l:=l) (lo:=none) (hi:=none) (a:=0) (b:=l.length) (.inl ⟨rfl,rfl⟩) (.inl ⟨rfl,rfl⟩) (by omega) (by omega)
   simp at this
   exact eO h.bo (qn ax ex (rc jj) (rc iI) rfl this) (.v _ _ (.str _))
  ·rename_i l cN a hx jj iI;cases hs;have ex:=lH (d' (ds:=[]) h.bo h.dM hx);have hb:=sG (cj (gS a l.length=true) (by simp))
   obtain⟨dX,rfl⟩:=Int.eq_ofNat_of_zero_le hb.1;have:=B' (w:=w) r rfl (l:=l) (lo:=some (.int cN dX)) (hi:=none) (a:=dX) (b:=l.length) (.inr ⟨_,rfl⟩) (.inl ⟨rfl,rfl⟩) (by omega) (by omega)
   simp at this
   exact eO h.bo (qn ax ex (fr jj) (rc iI) rfl this) (.v _ _ (.str _))
  ·rename_i l aj b hx jj iI;cases hs;have ex:=lH (d' (ds:=[]) h.bo h.dM hx);have hb:=sG (cj (gS b l.length=true) (by simp))
   obtain⟨bC,rfl⟩:=Int.eq_ofNat_of_zero_le hb.1;have:=B' (w:=w) r rfl (l:=l) (lo:=none) (hi:=some (.int aj bC)) (a:=0) (b:=bC) (.inl ⟨rfl,rfl⟩) (.inr ⟨_,rfl⟩) (by omega) (by omega)
   simp at this
   exact eO h.bo (qn ax ex (rc jj) (fr iI) rfl this) (.v _ _ (.str _))
  ·rename_i l cN a aj b hx jj iI;cases hs;have ex:=lH (d' (ds:=[]) h.bo h.dM hx);have hb:=Qo (cj (nl a b l.length=true) (by simp))
   obtain⟨dX,rfl⟩:=Int.eq_ofNat_of_zero_le hb.1;obtain⟨bC,rfl⟩:=Int.eq_ofNat_of_zero_le (a:=b) (by omega)
   have:=B' (w:=w) r rfl (l:=l) (lo:=some (.int cN dX)) (hi:=some (.int aj bC)) (a:=dX) (b:=bC) (.inr ⟨_,rfl⟩) (.inr ⟨_,rfl⟩) (by omega) (by omega)
   exact eO h.bo (qn ax ex (fr jj) (fr iI) rfl this) (.v _ _ (.str _))
  ·cases hs
 ·rename_i e fv jy z _ af;obtain⟨r⟩:=eu h.tt af;split at hs
  ·rename_i cN size yb jZ k n get aj a eC hx jj iI;obtain⟨dG⟩:=eu h.tt eC;rw [Bool.cond_eq_ite]at hs;split at hs
   case isFalse=>cases hs
   rename_i iu;simp only [Nat.beq_eq]at iu;subst iu
   have sJ:∃(y:V) (rs:List e') (aZ:List Prop),f={e:=some {d:=.v y},rs,aZ}∧gC (.bD k (n-a.toNat) λi=>get (a.toNat+i)) y∧gS a n=true:=by
    split at hs
    ·rename_i y rs eD;cases hs;exact⟨_,_,_,rfl,cj _ (by simp),cj (gS a n=true) (by simp)⟩
    ·cases hs;exact⟨_,_,_,rfl,λ_ _ h=>h,cj (gS a n=true) (by simp)⟩
    ·cases hs
   obtain⟨y,rs,aZ,rfl,ay,hb⟩:=sJ;have hb:=sG hb;obtain⟨dX,rfl⟩:=Int.eq_ofNat_of_zero_le hb.1;have kw:=d' (ds:=[]) h.bo h.dM hx;obtain⟨base,cap,ex,lN⟩:=sm kw;have:=B8 (w:=w) r rfl dG (base:=base) (n:=n) (cap:=cap) (lo:=some (.int aj dX)) (hi:=none) (a:=dX) (b:=n) (.inr ⟨_,rfl⟩) (.inl ⟨rfl,rfl⟩) (by omega) (by omega) lN
   refine eO h.bo (qn ax ex (fr jj) (rc iI) rfl this) (.v _ _ (ay _ _ ?_));have:=ya kw (a:=dX) (b:=n) (by omega) (by omega) ex lN
   simpa using this
  ·rename_i cN size yb jZ k n get aj b eC hx jj iI;obtain⟨dG⟩:=eu h.tt eC;rw [Bool.cond_eq_ite]at hs;split at hs
   case isFalse=>cases hs
   rename_i iu;simp only [Nat.beq_eq]at iu;subst iu
   have sJ:∃(y:V) (rs:List e') (aZ:List Prop),f={e:=some {d:=.v y},rs,aZ}∧gC (.bD k b.toNat get) y∧gS b n=true:=by
    split at hs
    ·rename_i y rs eD;cases hs;exact⟨_,_,_,rfl,cj _ (by simp),cj (gS b n=true) (by simp)⟩
    ·cases hs;exact⟨_,_,_,rfl,λ_ _ h=>h,cj (gS b n=true) (by simp)⟩
    ·cases hs
   obtain⟨y,rs,aZ,rfl,ay,hb⟩:=sJ;have hb:=sG hb;obtain⟨bC,rfl⟩:=Int.eq_ofNat_of_zero_le hb.1;have kw:=d' (ds:=[]) h.bo h.dM hx;obtain⟨base,cap,ex,lN⟩:=sm kw;have:=B8 (w:=w) r rfl dG (base:=base) (n:=n) (cap:=cap) (lo:=none) (hi:=some (.int aj bC)) (a:=0) (b:=bC) (.inl ⟨rfl,rfl⟩) (.inr ⟨_,rfl⟩) (by omega) (by omega) lN
   refine eO h.bo (qn ax ex (rc jj) (fr iI) rfl this) (.v _ _ (ay _ _ ?_));have:=ya kw (a:=0) (b:=bC) (by omega) (by omega) ex lN
   simpa using this
  ·rename_i cN size yb jZ k n get aj a ee b eC hx jj iI;obtain⟨dG⟩:=eu h.tt eC;rw [Bool.cond_eq_ite]at hs;split at hs
   case isFalse=>cases hs
   rename_i iu;simp only [Nat.beq_eq]at iu;subst iu
   have sJ:∃(y:V) (rs:List e') (aZ:List Prop),f={e:=some {d:=.v y},rs,aZ}∧gC (.bD k (b.toNat-a.toNat) λi=>get (a.toNat+i)) y∧nl a b n=true:=by
    split at hs
    ·rename_i y rs eD;cases hs;exact⟨_,_,_,rfl,cj _ (by simp),cj (nl a b n=true) (by simp)⟩
    ·cases hs;exact⟨_,_,_,rfl,λ_ _ h=>h,cj (nl a b n=true) (by simp)⟩
    ·cases hs
   obtain⟨y,rs,aZ,rfl,ay,hb⟩:=sJ;have hb:=Qo hb;obtain⟨dX,rfl⟩:=Int.eq_ofNat_of_zero_le hb.1;obtain⟨bC,rfl⟩:=Int.eq_ofNat_of_zero_le (a:=b) (by omega)
   have kw:=d' (ds:=[]) h.bo h.dM hx;obtain⟨base,cap,ex,lN⟩:=sm kw;have:=B8 (w:=w) r rfl dG (base:=base) (n:=n) (cap:=cap) (lo:=some (.int aj dX)) (hi:=some (.int ee bC)) (a:=dX) (b:=bC) (.inr ⟨_,rfl⟩) (.inr ⟨_,rfl⟩) (by omega) (by omega) lN
   refine eO h.bo (qn ax ex (fr jj) (fr iI) rfl this) (.v _ _ (ay _ _ ?_));have:=ya kw (a:=dX) (b:=bC) (by omega) (by omega) ex lN
   simpa using this
  ·rename_i cN size yb jZ k n get eC hx jj iI;obtain⟨dG⟩:=eu h.tt eC;rw [Bool.cond_eq_ite]at hs;split at hs
   case isFalse=>cases hs
   rename_i iu;simp only [Nat.beq_eq]at iu;subst iu;cases hs;have kw:=d' (ds:=[]) h.bo h.dM hx;obtain⟨base,cap,ex,lN⟩:=sm kw;have:=B8 (w:=w) r rfl dG (base:=base) (n:=n) (cap:=cap) (lo:=none) (hi:=none) (a:=0) (b:=n) (.inl ⟨rfl,rfl⟩) (.inl ⟨rfl,rfl⟩) (by omega) (by omega) lN
   refine eO h.bo (qn ax ex (rc jj) (rc iI) rfl this) (.v _ _ ?_);have:=ya kw (a:=0) (b:=n) (by omega) (by omega) ex lN
   simpa using this
  ·cases hs
 ·rename_i m e fv jy z _ af;obtain⟨r⟩:=eu h.tt af;split at hs
  case h_2=>cases hs
  rename_i size yb jZ k n get aj b ee c eC hx iI hm;obtain⟨dG⟩:=eu h.tt eC;rw [Bool.cond_eq_ite]at hs;split at hs
  case isFalse=>cases hs
  rename_i iu;simp only [Nat.beq_eq]at iu;subst iu;cases hs;have B9:=cj (b=c) (by simp)
  subst B9;have hb:=sG (cj (gS b n=true) (by simp))
  obtain⟨bC,rfl⟩:=Int.eq_ofNat_of_zero_le hb.1;have kw:=d' (ds:=[]) h.bo h.dM hx;obtain⟨base,cap,ex,lN⟩:=sm kw;have pn:bC≤n:=by omega
  have hu:=r.run_underlying w;rw [ob r rfl]at hu
  have eS:(Instr.sliceAt t (.slice base n cap) none (some (.int aj bC)) (some (.int ee bC))).run P w = .ok (.slice (if bC=0 then base else base.map (·.add (0*k))) bC bC) w:=by
   have Z:bC≤cap:=by omega
   simp [Instr.sliceAt,hu,Instr.slice,Instr.sliceBounds,Instr.sliceBound,asIntOf,dG.run_sizeOf,Z]
  have aaJ:(if bC=0 then base else base.map (·.add (0*k)))=base:=by
   split
   ·rfl
   ·cases base with
    |none=>rfl
    |some a=>simp [Addr.add]
  rw [aaJ]at eS;have em:(some m).map (⟨tmps,[]⟩:Act).eval=some (.int ee bC):=fr (y:=some m) hm;refine eO h.bo (qn ax ex rfl (fr iI) em eS) (.full base k _ get ?_);have QE:=ya kw (a:=0) (b:=bC) (by omega) pn ex lN
  simp only [Nat.sub_zero]at QE ⊢;have QF:cY M (.slice (if cap=0 then base else base.map (·.add (0*k))) bC cap) (.bD k bC get):=by simpa using QE
  have fR:(if cap=0 then base else base.map (·.add (0*k)))=base:=by
   split
   ·rfl
   ·cases base with
    |none=>rfl
    |some a=>simp [Addr.add]
  rw [fR]at QF;cases QF with
  |k5=>exact .k5 _ _
  |n2 a=>exact .n2 _ _ _
  |bD sc off k n cap get val hc hk cM Z h=>exact .bD sc off k _ _ get val (Nat.le_refl _) hk cM Z h
 ·cases hs
def QG{c:Call}(ax:o.op = .call c)(hc:c.callee = .builtin .len){a:Operand}(eJ:c.args.toList=[a]){t:TypeId}(gj:c.argTypes.toList[0]? = some t){gT v:Value}(ha:(⟨tmps,[]⟩:Act).eval a=gT)
 (h:∀ty,(Builtin.len_ #[t] ty #[gT]).run P w = .ok v w):(execOp (Act.eval ⟨tmps,[]⟩) o).run P w = .ok (.value v) w:=by
 have sv:c.args = #[a]:=by apply Array.ext';simpa using eJ
 have Hx:∀ty,(Builtin.len_ c.argTypes ty #[gT]).run P w = .ok v w:=by
  intro ty;have h0:c.argTypes[0]? = some t:=by simpa using gj
  have:=h ty
  simp only [Builtin.len_,h0]at this ⊢;exact this
 simp only [execOp,ax,resolve,hc,sv,Sem.run_bind,Sem.run_pure,Result.andThen_ok,invoke,builtin,List.map_toArray,List.map_cons,List.map_nil,ha];simp [Hx]
def QH{F:Nat→Option Nat}{l cD:List D}(h:kp F l=some cD):cD.length=l.length:=(uK h).1.symm
def aaK {c : Call} (ax : o.op = .call c) {x : Operand} (hc : c.callee = .value x) {fn : FuncId} {vs : List Value} (hx : (⟨tmps, []⟩ : Act).eval x = .func (.func fn) #[] ⟨vs⟩) {fd : Func} (ba : P.funcs[fn]? = some fd) (hb : fd.body.isSome = true) (hn : fd.name ≠ "runtime.NumGoroutine") :
 (execOp (Act.eval ⟨tmps,[]⟩) o).run P w = .ok (.enter fn ⟨c.args.toList.map (⟨tmps,[]⟩:Act).eval++vs⟩) w:=by
 have pn:fd.body≠none:=by intro bx;rw [bx]at hb;cases hb
 simp [execOp,ax,resolve,hc,hx,Deferred.ofValue,invoke,callFunc,ba,pn,hn]
def QI{F:TypeId→Operand→Option D}:∀{xs:List Operand} {ts:List TypeId} {ds:List D},kR F xs ts=some ds→ds.length=xs.length∧∀(i:Nat) x d,xs[i]? = some x→ds[i]? = some d→∃t,F t x=some d
 |[],ts,ds,h=>by simp [kR]at h;subst h;simp
 |x::xs,[],ds,h=>by simp [kR]at h
 |x::xs,t::ts,ds,h=>by
  simp only [kR]at h;split at h
  case h_2=>cases h
  rename_i d aaL hd g_;cases h;obtain⟨Z,ae⟩:=QI g_;refine⟨by simp [Z],λi y e cl he=>?_⟩
  cases i with
  |zero=>simp at cl he;subst cl;subst he;exact⟨t,hd⟩
  |succ i=>simp at cl he;exact ae i y e cl he
mutual
def QJ{ρ:List Nat}:∀(d:D) {dZ:D},eo (idx ρ) d=some dZ→eo (λj=>ρ[j]?) dZ=some d
 |.v x,dZ,h=>by simp [eo]at h;subst h;simp [eo]
 |.ptr r off,dZ,h=>by
  simp only [eo,Option.map_eq_some_iff]at h;obtain⟨j,hj,rfl⟩:=h;simp [eo,BU hj]
 |.co r off u,dZ,h=>by
  simp only [eo,Option.map_eq_some_iff]at h;obtain⟨j,hj,rfl⟩:=h;simp [eo,BU hj]
 |.eI x,dZ,h=>by simp [eo]at h;subst h;simp [eo]
 |.full k n get,dZ,h=>by simp [eo]at h;subst h;simp [eo]
 |.fn g eQ,dZ,h=>by
  simp only [eo,Option.map_eq_some_iff]at h;obtain⟨l,af,rfl⟩:=h;simp [eo,B_ eQ af]
 |.agg cs,dZ,h=>by
  simp only [eo,Option.map_eq_some_iff]at h;obtain⟨l,af,rfl⟩:=h;simp [eo,B_ cs af]
 |.cx cs,dZ,h=>by
  simp only [eo,Option.map_eq_some_iff]at h;obtain⟨l,af,rfl⟩:=h;simp [eo,B_ cs af]
def B_{ρ:List Nat}:∀(l:List D) {cD:List D},kp (idx ρ) l=some cD→kp (λj=>ρ[j]?) cD=some l
 |[],cD,h=>by simp [kp]at h;subst h;simp [kp]
 |d::l,cD,h=>by
  simp only [kp]at h;split at h
  case h_2=>cases h
  rename_i d1 gb hd af;cases h;simp [kp,QJ d hd,B_ l af]
end
def QK{ρ:List Nat}:∀{b bC:List a1},l3 (idx ρ) b=some bC→l3 (λj=>ρ[j]?) bC=some b
 |[],bC,h=>by simp [l3]at h;subst h;simp [l3]
 |e::l,bC,h=>by
  simp only [l3]at h;split at h
  case h_2=>cases h
  rename_i e1 gb he af;cases h;simp only [By,Option.map_eq_some_iff]at he;obtain⟨d,hd,rfl⟩:=he;simp [l3,By,QJ _ hd,QK af]
def QL{ρ:List Nat}:∀{bs oe:List (List a1)},jg (idx ρ) bs=some oe→jg (λj=>ρ[j]?) oe=some bs
 |[],oe,h=>by simp [jg]at h;subst h;simp [jg]
 |b::l,oe,h=>by
  simp only [jg]at h;split at h
  case h_2=>cases h
  rename_i cS gb hb af;cases h;simp [jg,QK hb,QL af]
def aaM{st:aI}(h:bH P K M β st tmps w){ρ:List Nat}{bs H1:List (List a1)}(hn:l4 ρ=true)(jX:boxes st.H ρ=some bs)(ld:jg (idx ρ) bs=some H1)
 {os:List Nat} {out:Out} {v:Value} {w':World} {M':Mem} {β':Nat→Option Nat} (ip:bH P (jB M β st tmps w ρ os) M' β' {env:=hJ out,H:=cK 0 H1,aW:=ρ.length} #[v] w'):
 M.le M'∧bH P K M' β {st with env:=gD os st.env} tmps w'∧
 (∀d own,out = .ret d own→∀dZ,eo (λj=>ρ[j]?) d=some dZ→ct M' β v dZ∧∀T l0,own=some T→l6 P K M' β {st with env:=gD os st.env} tmps w' l0 v T)∧
 (∀x,out = .bd x→cY M' v x):=by
 obtain⟨dc,fR⟩:=sz jX;have fk:H1.length=ρ.length:=by rw [(u0 ld).1,dc]
 obtain⟨Z,ae,ar,aK⟩:=HM h hn jX (QL ld) fk ip
 have jC:∀r,look (kq ρ bs++st.H) r=look st.H r:=by
  intro r;obtain⟨bc,b2⟩:=HF (H:=st.H) (ρ:=ρ) (bs:=bs) dc hn r;by_cases hj:∃(j:Nat),ρ[j]? = some r
  ·obtain⟨j,hj⟩:=hj;rw [bc j hj,(fR j r hj).1]
  ·exact b2 λj bx=>hj ⟨j,bx⟩
 have fQ:∀l,({env:=gD os st.env,H:=kq ρ bs++st.H,aW:=st.aW}:aI).at l=({st with env:=gD os st.env}:aI).at l:=by
  intro l;cases l with
  |slot s=>rfl
  |cell r i=>simp only [aI.at,jC]
 refine⟨Z,ae.sub rfl (λl e af=>⟨e,by rw [fQ];exact af,rfl,λ_ h=>h⟩) (λr cs ak=>⟨cs,by rw [←ak];exact jC r,rfl⟩),λd own hd dZ jw=>?_,aK⟩
 obtain⟨bc,b2⟩:=ar d own hd dZ jw;refine⟨bc,λT l0 aS=>?_⟩
 obtain⟨cU,dQ,f'⟩:=b2 T l0 aS;exact⟨cU,λl e T' b af=>dQ l e T' b (by rw [fQ];exact af),λb r cs hb ak=>f' b r cs hb (by rw [←ak];exact jC r)⟩
def QM(P:Program)(K:Ctx)(M:Mem)(β:Nat→Option Nat)(g:c_)(s:mG)(o:Oper)(tmps:Array Value)(w:World):Prop:=
 match s with
 |.go f=>(∀q,q∈f.aZ→q)→Yields P K M β g f o tmps w
 |.bd x hs aZ=>(∀q,q∈aZ→q)→Z5 P K M β g x hs o tmps w
def QN{os:List Nat}{env:List (Nat×a1)}{s:Nat}{e:a1}(h:look env s=some e):∃b5,look (gD os env) s=some b5∧b5.d=e.d:=by
 rw [mL,h];split
 ·exact⟨_,rfl,rfl⟩
 ·exact⟨_,rfl,rfl⟩
def H3{g:c_}(h:fx P K N M β g tmps w){xs:List Operand}{ts:List TypeId}:∀{os:List Nat} {hd:List (Nat×Option Nat×TypeId)},handed tt g xs ts os=some hd→∀{vs:List Value},
 (∀(i:Nat) t,xs[i]? = some (.tmp t)→vs[i]? = some (tmps.getD t undef))→(∀(i:Nat),xs[i]? = some (.const (.slice none 0 0))→vs[i]? = some (.slice none 0 0))→
 Handed {env:=g.env,H:=g.H,aW:=g.aW} tmps vs hd
 |[],hd,bx,vs,_,_=>by
  simp [handed]at bx;subst bx;exact⟨by simp,by simp,by simp⟩
 |i::os,hd,bx,vs,Z,ae=>by
  simp only [handed]at bx;split at bx
  ·rename_i t l hx af;have a7:=H3 h af Z ae;split at bx
   case h_2=>cases bx
   rename_i d e he;rw [Bool.cond_eq_ite]at bx;split at bx
   case isFalse=>cases bx
   rename_i hc;simp only [Bool.and_eq_true,List.all_eq_true,Bool.not_eq_true']at hc;cases bx;refine⟨λlG iV T hm=>?_,λlG T hm=>?_,λlG sC iV T T' hm jk=>?_⟩
   ·rcases List.mem_cons.1 hm with hm|hm
    ·cases hm;exact⟨_,he,rfl,Z i t hx⟩
    ·exact a7.some lG iV T hm
   ·rcases List.mem_cons.1 hm with hm|hm
    ·cases hm
    ·exact a7.none lG T hm
   ·rcases List.mem_cons.1 hm with hm|hm<;>rcases List.mem_cons.1 jk with jk|jk
    ·cases hm;cases jk;rfl
    ·cases hm;have:=(hc.2 _ jk).1
     simp at this
    ·cases jk;have:=(hc.2 _ hm).1
     simp at this
    ·exact a7.inj lG sC iV T T' hm jk
  ·rename_i l hx af;have a7:=H3 h af Z ae;split at bx
   case h_2=>cases bx
   rename_i e fv jy z _ he;rw [Bool.cond_eq_ite]at bx;split at bx
   case isFalse=>cases bx
   cases bx;refine⟨λlG iV T hm=>?_,λlG T hm=>?_,λlG sC iV T T' hm jk=>?_⟩
   ·rcases List.mem_cons.1 hm with hm|hm
    ·cases hm
    ·exact a7.some lG iV T hm
   ·rcases List.mem_cons.1 hm with hm|hm
    ·cases hm;exact ae i hx
    ·exact a7.none lG T hm
   ·rcases List.mem_cons.1 hm with hm|hm<;>rcases List.mem_cons.1 jk with jk|jk
    ·cases hm
    ·cases hm
    ·cases jk
    ·exact a7.inj lG sC iV T T' hm jk
  ·cases bx
def aaN(h:Hyp P K N M β g tmps w p tt){c:Call}(ax:o.op = .call c){x:Operand}(hc:c.callee = .value x){fn:FuncId}{eQ ds:List D}(hx:rd g.env g.bU p tt o.type x=some (.fn fn eQ))
 (g_:kR (rd g.env g.bU p tt) c.args.toList c.argTypes.toList=some ds) {s:mG} (hs:uH (iZ P) tt g p c.args.toList c.argTypes.toList fn (ds++eQ)=some s):
 QM P K M β g s o tmps w:=by
 obtain⟨vs,ay,hlen,ak⟩:=PF (d' (ds:=[]) h.bo h.dM hx);obtain⟨f7,jz⟩:=QI g_
 have eJ:∀(i:Nat) v d,(c.args.toList.map (⟨tmps,[]⟩:Act).eval++vs)[i]? = some v→(ds++eQ)[i]? = some d→ct M β v d:=by
  intro i v d eN q_;by_cases hi:i<c.args.toList.length
  ·rw [List.getElem?_append_left (by simpa using hi),List.getElem?_map,Option.map_eq_some_iff]at eN
   obtain⟨y,cl,rfl⟩:=eN;rw [List.getElem?_append_left (by omega)]at q_
   obtain⟨ty,gj⟩:=jz i y d cl q_;exact d' h.bo h.dM gj
  ·rw [List.getElem?_append_right (by simp;simp at hi;omega)]at eN
   rw [List.getElem?_append_right (by omega)]at q_
   refine ak _ v d eN ?_;rw [f7]at q_;simpa using q_
 have QO:(c.args.toList.map (⟨tmps,[]⟩:Act).eval++vs).length=(ds++eQ).length:=by simp at f7 ⊢;omega
 unfold uH at hs
 dsimp only at hs
 generalize kU:nm g.H 2 (dedup ((ds++eQ).flatMap refs))=ρ at hs
 split at hs
 case h_2=>cases hs
 rename_i out cF os rs eD;split at hs
 case h_2=>cases hs
 rename_i iU H1 hd QP ld sA;rw [Option.bind_eq_some_iff]at ld;obtain⟨bs,jX,ld⟩:=ld;rw [Bool.cond_eq_ite]at hs;split at hs
 ·cases hs
 rename_i QQ
 have hn:l4 ρ=true:=by
  have:(!l4 ρ || !(List.isEmpty p||List.isEmpty os))=false:=by simpa using QQ
  simp only [Bool.or_eq_false_iff,Bool.not_eq_false']at this;exact this.1
 have eZ:=H3 h.bo sA (vs:=c.args.toList.map (⟨tmps,[]⟩:Act).eval++vs) (λi t bS=>by
  rw [List.getElem?_append_left (by simpa using(List.getElem?_eq_some_iff.1 bS).1),List.getElem?_map,bS];rfl) (λi bS=>by
  rw [List.getElem?_append_left (by simpa using(List.getElem?_eq_some_iff.1 bS).1),List.getElem?_map,bS];rfl)
 have ei:=Qe (st:={env:=g.env,H:=g.H,aW:=g.aW}) h.bo.bo hn jX ld QO eJ QP eZ;have fk:H1.length=ρ.length:=by rw [(u0 ld).1,(sz jX).1]
 -- HN lb contract aaO, akH lb boxes behind it
 have key:∀{sL:List (List a1)},gk P fn iU (q8 hd) H1 out sL→(execOp (Act.eval ⟨tmps,[]⟩) o).run P w = .ok (.enter fn ⟨c.args.toList.map (⟨tmps,[]⟩:Act).eval++vs⟩) w∧
  Calls P fn ⟨c.args.toList.map (⟨tmps,[]⟩:Act).eval++vs⟩ w λe w'=>∃v M' β',e=q7 out v∧
   bH P (jB M β {env:=g.env,H:=g.H,aW:=g.aW} tmps w ρ (pj hd)) M' β' {env:=hJ out,H:=cK 0 sL,aW:=ρ.length} #[v] w':=by
  intro sL aaP;obtain⟨⟨fd,lI,H4,i7⟩,aaQ⟩:=aaP;refine⟨aaK ax hc ay lI H4 i7,(aaQ _ w _ M _ (by rw [QO,QH QP]) ei (λr b hb=>hb)).mono ?_⟩
  rintro e w' ⟨o',bM,v,M',β',⟨rfl,rfl⟩,he,cG⟩
  rw [fk]at cG;exact⟨v,M',β',he,cG⟩
 -- lb boxes as akI akJ, named akK and back
 have back:∀{sL aaR:List (List a1)},jg (λj=>ρ[j]?) sL=some aaR→sL.length=ρ.length→∀{v:Value} {w':World} {M':Mem} {β':Nat→Option Nat},
  bH P (jB M β {env:=g.env,H:=g.H,aW:=g.aW} tmps w ρ (pj hd)) M' β' {env:=hJ out,H:=cK 0 sL,aW:=ρ.length} #[v] w'→_:=
  λhx af _ _ _ _ hp=>HM (st:={env:=g.env,H:=g.H,aW:=g.aW}) h.bo.bo hn jX hx af hp
 have QR:∀{v:Value} {w':World} {M':Mem} {β':Nat→Option Nat},
  bH P (jB M β {env:=g.env,H:=g.H,aW:=g.aW} tmps w ρ (pj hd)) M' β' {env:=hJ out,H:=cK 0 H1,aW:=ρ.length} #[v] w'→
  M.le M'∧bH P K M' β {env:=gD (pj hd) g.env,H:=g.H,aW:=g.aW} tmps w'∧
  (∀d own,out = .ret d own→∀dZ,eo (λj=>ρ[j]?) d=some dZ→ct M' β v dZ∧∀T l0,own=some T→l6 P K M' β {env:=gD (pj hd) g.env,H:=g.H,aW:=g.aW} tmps w' l0 v T)∧
  (∀x,out = .bd x→cY M' v x):=by
  intro v w' M' β' hp;exact aaM (st:={env:=g.env,H:=g.H,aW:=g.aW}) h.bo.bo hn jX ld hp
 cases out with
 |ret d own=>
  cases cF with
  |none=>
   simp only [Option.map_eq_some_iff]at hs;obtain⟨dZ,jw,rfl⟩:=hs;intro cj;obtain⟨Z,ae⟩:=key (cj _ (List.mem_singleton.2 rfl));refine .inr (.inr ⟨fn,_,Z,ae.mono ?_⟩)
   rintro e w' ⟨v,M',β',he,hp⟩
   obtain⟨cM,cG,H5,_⟩:=QR hp;refine⟨v,he,M',β,cM,λ_ _ h=>h,λ_ _ h=>.inl h,cG,λe1 qh=>?_⟩
   cases qh;exact H5 d own rfl dZ jw
  |some cF=>
   dsimp only at hs
   split at hs
   case h_2=>cases hs
   rename_i dZ h3 jw sF;rw [Bool.cond_eq_ite]at hs;split at hs
   case isFalse=>cases hs
   rename_i af;cases hs;intro cj;obtain⟨Z,ae⟩:=key (cj _ (List.mem_singleton.2 rfl));refine .inr (.inr ⟨fn,_,Z,ae.mono ?_⟩)
   rintro e w' ⟨v,M',β',he,hp⟩
   obtain⟨cM,cG,H5,_⟩:=back sF (by simpa using af) hp
   refine⟨v,he,M',β,cM,λ_ _ h=>h,λ_ _ h=>.inl h,cG,λe1 qh=>?_⟩
   cases qh;exact H5 d own rfl dZ jw
 |bd x=>
  cases cF with
  |none=>
   cases hs;intro cj;obtain⟨Z,ae⟩:=key (cj _ (List.mem_singleton.2 rfl));refine .inr ⟨fn,_,Z,ae.mono ?_⟩
   rintro e w' ⟨v,M',β',he,hp⟩
   obtain⟨cM,cG,_,H6⟩:=QR hp;exact⟨v,M',he,H6 x rfl,cG.n6 λs e he=>QN he⟩
  |some cF=>
   dsimp only at hs
   split at hs
   case h_2=>cases hs
   rename_i h3 sF;rw [Bool.cond_eq_ite]at hs;split at hs
   case isFalse=>cases hs
   rename_i af;cases hs;intro cj;obtain⟨Z,ae⟩:=key (cj _ (List.mem_singleton.2 rfl));refine .inr ⟨fn,_,Z,ae.mono ?_⟩
   rintro e w' ⟨v,M',β',he,hp⟩
   obtain⟨cM,cG,_,H6⟩:=back sF (by simpa using af) hp
   exact⟨v,M',he,H6 x rfl,cG.n6 λs e he=>QN he⟩
end
section
variable {P:Program} {K:Ctx} {N:Nat} {M:Mem} {β:Nat→Option Nat} {st:aI} {g:c_} {tmps:Array Value} {w:World} {o:Oper} {f:ko} {p:Path} {tt:dw} {ops:List Oper}
def QS(h:Hyp P K N M β g tmps w p tt){c:Call}(ax:o.op = .call c)(hc:c.callee = .builtin .len){d:D}(hd:mapM' (λy=>rd g.env g.bU p tt o.type y) c.args.toList=some [d]){aP:ew}
 (af:(c.argTypes.toList[0]?).bind (look tt)=some aP) {n:Nat} (hk:(∃l,d = .v (.str l)∧aP.k = .str∧n=l.length)∨(∃k get e,d = .v (.bD k n get)∧aP.k = .bD e)):
 Yields P K M β g {e:=some {d:=.v (.int .i64 n)},rs:=g.rs} o tmps w:=by
 obtain⟨f7,jz⟩:=q2 hd;rw [Option.bind_eq_some_iff]at af;obtain⟨t,bS,af⟩:=af;obtain⟨r⟩:=eu h.tt af
 obtain⟨a,ha⟩:∃a,c.args.toList=[a]:=by
  cases hf:c.args.toList with
  |nil=>rw [hf]at f7;simp at f7
  |cons a l=>
   rw [hf]at f7;simp at f7
   exact⟨a,by rw [f7]⟩
 have og:=d' (ds:=[]) h.bo h.dM (jz 0 a d (by rw [ha];rfl) rfl)
 rcases hk with⟨l,rfl,hk,rfl⟩|⟨k,get,e,rfl,hk⟩
 ·have pk:=lH og;refine eO h.bo (QG ax hc ha bS pk (λty=>?_)) (.v _ _ (.int _ _))
  have hs:(⟨⟨l⟩⟩:ByteArray).size=l.length:=rfl;simp [Builtin.len_,r.run_underlying,pf r hk,goInt,hs]
 ·obtain⟨base,cap,pk,_⟩:=sm og;refine eO h.bo (QG ax hc ha bS pk (λty=>?_)) (.v _ _ (.int _ _))
  simp [Builtin.len_,r.run_underlying,ob r hk,goInt]
def aaS(h:Hyp P K N M β g tmps w p tt){c:Call}(ax:o.op = .call c)(hc:c.callee = .builtin .min){k:IntKind}{a b:Int}(hd:mapM' (λy=>rd g.env g.bU p tt o.type y) c.args.toList=some [.v (.int k a),.v (.int k b)]):
 Yields P K M β g {e:=some {d:=.v (.int k (bif decide (b<a)then b else a))},rs:=g.rs} o tmps w:=by
 obtain⟨f7,jz⟩:=q2 hd
 obtain⟨x,y,oa⟩:∃x y,c.args.toList=[x,y]:=by
  cases hf:c.args.toList with
  |nil=>rw [hf]at f7;simp at f7
  |cons x l=>
   cases l with
   |nil=>rw [hf]at f7;simp at f7
   |cons y l=>
    rw [hf]at f7;simp at f7
    exact⟨x,y,by rw [f7]⟩
 have ex:=k9 (d' (ds:=[]) h.bo h.dM (jz 0 x _ (by rw [oa];rfl) rfl))
 have H7:=k9 (d' (ds:=[]) h.bo h.dM (jz 1 y _ (by rw [oa];rfl) rfl))
 have sv:c.args = #[x,y]:=by apply Array.ext';simpa using oa
 refine eO h.bo (v:=.int k (bif decide (b<a)then b else a)) ?_ (.v _ _ (.int _ _))
 simp only [execOp,ax,resolve,hc,sv,Sem.run_bind,Sem.run_pure,Result.andThen_ok,invoke,builtin,List.map_toArray,List.map_cons,List.map_nil,ex,H7];by_cases lM:b<a<;>simp [Builtin.min_,Builtin.min2,lM]
def aaT(h:Hyp P K N M β g tmps w p tt){c:Call}(ax:o.op = .call c)(hc:c.callee = .builtin .max){k:IntKind}{a b:Int}(hd:mapM' (λy=>rd g.env g.bU p tt o.type y) c.args.toList=some [.v (.int k a),.v (.int k b)]):
 Yields P K M β g {e:=some {d:=.v (.int k (bif decide (a<b)then b else a))},rs:=g.rs} o tmps w:=by
 obtain⟨f7,jz⟩:=q2 hd
 obtain⟨x,y,oa⟩:∃x y,c.args.toList=[x,y]:=by
  cases hf:c.args.toList with
  |nil=>rw [hf]at f7;simp at f7
  |cons x l=>
   cases l with
   |nil=>rw [hf]at f7;simp at f7
   |cons y l=>
    rw [hf]at f7;simp at f7
    exact⟨x,y,by rw [f7]⟩
 have ex:=k9 (d' (ds:=[]) h.bo h.dM (jz 0 x _ (by rw [oa];rfl) rfl))
 have H7:=k9 (d' (ds:=[]) h.bo h.dM (jz 1 y _ (by rw [oa];rfl) rfl))
 have sv:c.args = #[x,y]:=by apply Array.ext';simpa using oa
 refine eO h.bo (v:=.int k (bif decide (a<b)then b else a)) ?_ (.v _ _ (.int _ _))
 simp only [execOp,ax,resolve,hc,sv,Sem.run_bind,Sem.run_pure,Result.andThen_ok,invoke,builtin,List.map_toArray,List.map_cons,List.map_nil,ex,H7];by_cases lM:a<b<;>simp [Builtin.max_,Builtin.max2,lM]
def aaU(h:Hyp P K N M β g tmps w p tt){b4:f6}{x:Operand}{s t:TypeId}{ok:Bool}(ax:o.op = .typeAssert x s t ok)(hs:step1 b4 tt ops g p o=some (.go f)):Yields P K M β g f o tmps w:=by
 simp only [step1,ax]at hs;split at hs
 case h_2=>cases hs
 rename_i iV y k fv jy z _ hx af;obtain⟨r⟩:=eu h.tt af;have ak:=d' (ds:=[]) h.bo h.dM hx;obtain⟨u,ay,hu⟩:=Hc ak;have QT:k ≠ .nk:=by rintro rfl;simp at hs
 have HX:∀i,r.desc ≠ .interface i:=by
  intro i hd;have:=r.hk
  rw [hd]at this;simp [kv]at this;exact QT this.symm
 have fI:(bif Nat.beq iV t then(some (mG.go {e:=some {d:=(bif ok then .cx [.v y,.v (.bool true)]else .v y)},rs:=g.rs}))else none)=some (.go f):=by
  cases k<;>first|exact(QT rfl).elim|exact hs
 rw [Bool.cond_eq_ite]at fI;split at fI
 case isFalse=>cases fI
 rename_i hb;have bQ:iV=t:=by simpa using hb
 subst bQ;cases fI
 have eS:(Instr.typeAssert (.iface iV u) s iV ok).run P w = .ok (bif ok then .tuple #[u,.bool true]else u) w:=by
  unfold Instr.typeAssert;simp only [Sem.run_bind,r.run_underlying,Result.andThen_ok];cases hd:r.desc<;>first|exact(HX _ hd).elim|(cases ok<;>simp)
 refine eO h.bo (v:=bif ok then .tuple #[u,.bool true]else u) ?_ ?_
 ·simp only [execOp,ax,ay];exact iH _ eS
 ·cases ok
  ·exact .v _ _ hu
  ·refine .cx [u,.bool true] _ rfl λi v c ay hc=>?_
   match i with
   | 0=>simp at ay hc;subst ay;subst hc;exact .v _ _ hu
   | 1=>simp at ay hc;subst ay;subst hc;exact .v _ _ (.bool _)
   |i+2=>simp at ay
def QU(h:Hyp P K N M β g tmps w p tt){s:mG}(hs:step1 (iZ P) tt ops g p o=some s):QM P K M β g s o tmps w:=by
 cases ax:o.op with
 |move x=>cases s with
  |go f=>exact λ_=>aaa h ax hs
  |bd x fI aZ=>simp only [step1,ax]at hs;repeat' (first |(split at hs) |(rw [Bool.cond_eq_ite]at hs) |(cases hs;done))
 |assign x=>cases s with
  |go f=>exact λ_=>aab h ax hs
  |bd x fI aZ=>simp only [step1,ax]at hs;repeat' (first |(split at hs) |(rw [Bool.cond_eq_ite]at hs) |(cases hs;done))
 |pick c a b=>
  cases c with
  |tmp c=>cases s with
   |go f=>exact λ_=>aac h ax hs
   |bd x fI aZ=>simp only [step1,ax]at hs;repeat' (first |(split at hs) |(simp at hs;done))
  |_=>simp [step1,ax]at hs
 |alloc t=>cases s with
  |go f=>exact λ_=>aad h ax hs
  |bd x fI aZ=>simp only [step1,ax]at hs;repeat' (first |(split at hs) |(cases hs;done))
 |box t x=>cases s with
  |go f=>exact λ_=>aae h ax hs
  |bd x fI aZ=>simp only [step1,ax]at hs;repeat' (first |(split at hs) |(rw [Bool.cond_eq_ite]at hs) |(cases hs;done))
 |build t parts=>cases s with
  |go f=>exact λ_=>aaf h ax hs
  |bd x fI aZ=>simp only [step1,ax]at hs;repeat' (first |(split at hs) |(rw [Bool.cond_eq_ite]at hs) |(simp at hs;done) |(cases hs;done))
 |buildSlice t len parts=>cases s with
  |go f=>exact λcj=>aah h ax hs cj
  |bd x fI aZ=>simp only [step1,ax]at hs;repeat' (first |(split at hs) |(rw [Bool.cond_eq_ite]at hs) |(cases hs;done))
 |load t a=>cases s with
  |go f=>exact λ_=>aai h ax hs
  |bd x fI aZ=>simp only [step1,ax]at hs;repeat' (first |(split at hs) |(rw [Bool.cond_eq_ite]at hs) |(simp at hs;done) |(cases hs;done))
 |store t a x=>cases s with
  |go f=>exact λ_=>aaj h ax hs
  |bd x fI aZ=>simp only [step1,ax]at hs;repeat' (first |(split at hs) |(rw [Bool.cond_eq_ite]at hs) |(cases hs;done))
 |nilCheck x=>cases s with
  |go f=>exact λ_=>aam h ax hs
  |bd x fI aZ=>simp only [step1,ax]at hs;repeat' (first |(split at hs) |(simp at hs;done))
 |binOp op t x y t2=>cases s with
  |go f=>exact λcj=>aaz h ax hs cj
  |bd x fI aZ=>simp only [step1,ax]at hs;repeat' (first |(split at hs) |(rw [Bool.cond_eq_ite]at hs) |(simp at hs;done))
 |unOp op t x=>cases s with
  |go f=>exact λ_=>aan h ax hs
  |bd x fI aZ=>simp only [step1,ax]at hs;repeat' (first |(split at hs) |(simp at hs;done))
 |convert a b x=>cases s with
  |go f=>exact λcj=>aao h ax hs cj
  |bd x fI aZ=>simp only [step1,ax]at hs;repeat' (first |(split at hs) |(simp at hs;done))
 |makeInterface t x=>cases s with
  |go f=>exact λ_=>aap h ax hs
  |bd x fI aZ=>simp only [step1,ax]at hs;repeat' (first |(split at hs) |(simp at hs;done))
 |makeFunc fn first eQ=>
  cases fn with
  |func fn=>cases s with
   |go f=>exact λ_=>aaq h ax hs
   |bd x fI aZ=>simp only [step1,ax]at hs;rw [Bool.cond_eq_ite]at hs;split at hs<;>simp at hs
  |_=>simp [step1,ax]at hs
 |slice t x lo hi jh=>cases s with
  |go f=>exact λcj=>aaI h ax hs cj
  |bd x fI aZ=>simp only [step1,ax]at hs;repeat' (first |(split at hs) |(rw [Bool.cond_eq_ite]at hs) |(simp at hs;done))
 |fieldAddr a x i=>cases s with
  |go f=>exact λ_=>aaA h ax hs
  |bd x fI aZ=>simp only [step1,ax]at hs;repeat' (first |(split at hs) |(rw [Bool.cond_eq_ite]at hs) |(simp at hs;done))
 |field a x i=>cases s with
  |go f=>exact λ_=>aaC h ax hs
  |bd x fI aZ=>simp only [step1,ax]at hs;repeat' (first |(split at hs) |(rw [Bool.cond_eq_ite]at hs) |(simp at hs;done))
 |indexAddr t x i=>cases s with
  |go f=>exact λcj=>aaF h ax hs cj
  |bd x fI aZ=>simp only [step1,ax]at hs;repeat' (first |(split at hs) |(rw [Bool.cond_eq_ite]at hs) |(simp at hs;done))
 |index t x i=>cases s with
  |go f=>exact λcj=>aaG h ax hs cj
  |bd x fI aZ=>simp only [step1,ax]at hs;repeat' (first |(split at hs) |(simp at hs;done))
 |typeAssert x a t ok=>cases s with
  |go f=>exact λ_=>aaU h ax hs
  |bd x fI aZ=>simp only [step1,ax]at hs;repeat' (first |(split at hs) |(rw [Bool.cond_eq_ite]at hs) |(simp at hs;done) |(cases hs;done))
 |extract x i=>cases s with
  |go f=>exact λ_=>aar h ax hs
  |bd x fI aZ=>simp only [step1,ax]at hs;repeat' (first |(split at hs) |(simp at hs;done))
 |call c=>
  simp only [step1,ax]at hs;split at hs
  ·rename_i x ny;split at hs
   case h_2=>cases hs
   rename_i fn eQ ds hx g_;exact aaN h ax ny hx g_ hs
  ·rename_i ny;split at hs
   ·rename_i l _ _ _ _ hd af;cases hs;exact λ_=>QS h ax ny hd af (.inl ⟨l,rfl,rfl,rfl⟩)
   ·rename_i k n get _ _ _ _ _ hd af;cases hs;exact λ_=>QS h ax ny hd af (.inr ⟨k,get,_,rfl,rfl⟩)
   ·cases hs
  ·rename_i ny;split at hs
   case h_2=>cases hs
   rename_i t x e akL yb jZ _ t2 eJ fk eC;split at hs
   case h_3=>cases hs
   case h_2=>
    rename_i b8 k n get d2 y rs hle oh jz eD;rw [Bool.cond_eq_ite]at hs;split at hs
    case isFalse=>cases hs
    rename_i hc;simp only [Bool.and_eq_true,Nat.beq_eq,Nat.ble_eq]at hc;obtain⟨⟨⟨rfl,H8⟩,u'⟩,sM⟩:=hc;rw [Option.bind_eq_some_iff]at fk eC;obtain⟨aaV,Ca,fk⟩:=fk;obtain⟨aaW,ns,eC⟩:=eC;have iG:=d' (ds:=[]) h.bo h.dM jz;split at hs
    case h_2=>cases hs
    rename_i aj m k6 e2 nz;rw [Bool.cond_eq_ite]at hs;split at hs
    case isFalse=>cases hs
    rename_i iu;simp only [Bool.and_eq_true,Nat.beq_eq,Nat.ble_eq]at iu;obtain⟨rfl,hm⟩:=iu;cases hs;intro cj;obtain⟨news,ky,kz⟩:=Qa h.bo.bo h.tt eC nz iG;exact ZJ h.bo h.dM h.tt fk rfl hle ax ny eJ Ca ns oh u' hm ky kz (HR (cj (room (n+m) b8.bytes=true) (by simp))) (cj (gC _ y) (by simp))
   rename_i b8 k n get d2 akM bf y rs hle oh jz xT eD;rw [Bool.cond_eq_ite]at hs;split at hs
   case isFalse=>cases hs
   rename_i hc;simp only [Bool.and_eq_true,Nat.beq_eq,Nat.ble_eq]at hc;obtain⟨⟨⟨⟨rfl,rfl⟩,H8⟩,u'⟩,sM⟩:=hc;rw [Option.bind_eq_some_iff]at fk eC;obtain⟨aaV,Ca,fk⟩:=fk;obtain⟨aaW,ns,eC⟩:=eC;have iG:=d' (ds:=[]) h.bo h.dM jz;split at hs
   ·rename_i aj m k6 e2 nz;rw [Bool.cond_eq_ite]at hs;split at hs
    case isFalse=>cases hs
    rename_i iu;simp only [Nat.beq_eq]at iu;subst iu;cases hs;intro cj;obtain⟨news,ky,kz⟩:=Qa h.bo.bo h.tt eC nz iG;exact P8 h.bo h.dM h.tt fk rfl hle ax ny eJ Ca ns oh xT rfl u' ky kz (HR (cj (room (n+m) b8.bytes=true) (by simp))) (cj (gC _ y) (by simp))
   ·rename_i l nz;rw [Bool.cond_eq_ite]at hs;split at hs
    case isFalse=>cases hs
    rename_i iu;simp only [Nat.beq_eq]at iu;cases hs;intro cj;have H9:=lH iG;obtain⟨news,ky,kz⟩:=ZO (P:=P) (w:=w) h.tt eC nz l M;rw [←H9,←iu]at ky;rw [←iu]at kz;exact P8 h.bo h.dM h.tt fk rfl hle ax ny eJ Ca ns oh xT rfl u' ky kz (HR (cj (room (n+l.length) b8.bytes=true) (by simp))) (cj (gC _ y) (by simp))
   ·cases hs
  ·rename_i ny;split at hs
   ·rename_i k a aj b hd;rw [Bool.cond_eq_ite]at hs;split at hs
    case isFalse=>cases hs
    rename_i hk;have sN:k=aj:=by simpa using hk
    subst sN;cases hs;exact λ_=>aaS h ax ny hd
   ·cases hs
  ·rename_i ny;split at hs
   ·rename_i k a aj b hd;rw [Bool.cond_eq_ite]at hs;split at hs
    case isFalse=>cases hs
    rename_i hk;have sN:k=aj:=by simpa using hk
    subst sN;cases hs;exact λ_=>aaT h ax ny hd
   ·cases hs
  ·cases hs
 |panic x=>cases s with
  |go f=>simp only [step1,ax]at hs;repeat' (first |(split at hs) |(simp at hs;done))
  |bd y fI aZ=>
   simp only [step1,ax]at hs;split at hs
   case h_2=>cases hs
   rename_i t z hd;cases hs;intro _;have ak:=d' (ds:=[]) h.bo h.dM hd;obtain⟨u,ay,hu⟩:=Hc ak;refine .inl ⟨.iface t u,?_,.iface t u z hu,rfl⟩;simp [execOp,ax,ay,Instr.panic]
 |_=>simp [step1,ax]at hs
end
inductive cm where
 |normal
 |exit (id:Nat)
 |ret
 |bd (x:V)
def re(P:Program)(K:Ctx)(N:Nat)(fs:cm)(st:aI)(e:Exit)(a:Act)(w:World):Prop:=
 match fs with
 |.normal=>e = .normal∧a.defers=K.ds∧a.tmps.size=N∧∃M β,bH P K M β st a.tmps w
 |.exit id=>e = .exit id∧a.defers=K.ds∧a.tmps.size=N∧∃M β,bH P K M β st a.tmps w
 |.ret=>e = .ret∧a.defers=K.ds∧a.tmps.size=N∧∃M β,bH P K M β st a.tmps w
 |.bd x=>∃v,e = .panic [{v,recovered:=false}]∧a.defers=K.ds∧∃M β,cY M v x∧bH P K M β st a.tmps w
section
variable {P:Program} {K:Ctx} {N:Nat} {M:Mem} {β:Nat→Option Nat} {st:aI} {g eR:c_} {tmps:Array Value} {w:World} {o:Oper} {f:ko} {p:Path} {tt:dw} {ops:List Oper}
def bH.yc(h:bH P K M β st tmps w)(fw:Array Value):bH P K M β {env:=[],H:=st.H,aW:=st.aW} fw w:=by
 have Z:bH P K M β {env:=[],H:=st.H,aW:=st.aW} tmps w:=h.sub rfl (λl e af=>by
  cases l with
  |slot s=>simp [aI.at,look]at af
  |cell r i=>exact⟨e,af,rfl,λ_ h=>h⟩) (λr cs ak=>⟨cs,ak,rfl⟩)
 have ay:∀l e,({env:=[],H:=st.H,aW:=st.aW}:aI).at l=some e→cp fw w β l=cp tmps w β l:=by
  intro l e af;cases l with
  |slot s=>simp [aI.at,look]at af
  |cell r i=>rfl
 constructor
 ·intro l e af;rw [ay l e af];exact Z.e_ l e af
 ·intro l e T af aS;rw [ay l e af];exact Z.own l e T af aS
 ·intro l cD e bf T T' b af aS dr d9 hb bQ;rw [ay l e af]at hb;rw [ay cD bf dr]at bQ;exact Z.uniq l cD e bf T T' b af aS dr d9 hb bQ
 ·intro l e T b r cs af aS hb ak;rw [ay l e af]at hb;exact Z.unbox l e T b r cs af aS hb ak
 ·exact Z.box
 ·exact Z.inj
 ·exact Z.lt
 ·exact Z.mem
 ·exact Z.m0
 ·exact Z.frame
 ·exact Z.h4
 ·exact Z.iF
 ·exact Z.gZ
def yd(h:fx P K N M β g tmps w):∀{p:Path} {q:Prop},fC tmps p→under g p q→q
 |[],_,_,aB=>aB
 |(t,nv)::p,q,hp,aB=>by
  have bS:tmps.getD t undef = .bool nv:=hp (t,nv) (by simp)
  have u_:fC tmps p:=λx hx=>hp x (by simp [hx])
  simp only [under]at aB;split at aB
  ·rename_i b hb;refine yd h u_ (aB ?_);unfold xy at hb;split at hb
   ·rename_i q' bC hc;cases hb;by_cases h9:fC tmps q'
    ·have:=sl ((h.cond t _ _ hc).1 h9)
     rw [bS]at this;cases this;rfl
    ·have:=(h.cond t _ _ hc).2 h9
     rw [bS]at this;cases this
   ·cases hb
   ·split at hb
    ·rename_i bC own he;cases hb;have:=sl (h.bo.e_ (.slot t) _ he)
     simp only [cp]at this;rw [bS]at this;cases this;rfl
    ·cases hb
  ·exact yd h u_ aB
def QV(h:fx P K N M β g tmps w){opsA:Array Oper}(l_:opsA.toList=ops)(hp:n7 ops g o=some p):Region.wanted o (yielded opsA tmps)=true↔fC tmps p:=by
 unfold n7 at hp;split at hp
 ·rename_i hg;cases hp;simp [Region.wanted,hg,fC]
 ·rename_i j nv hg;split at hp
  case h_2=>cases hp
  rename_i t bS
  have cl:yielded opsA tmps j=some nv↔tmps.getD t undef = .bool nv:=by
   unfold yielded;have:opsA[j]? = ops[j]? := by rw [←l_];simp
   rw [this,bS];simp only [Option.bind_some,Array.getD_eq_getD_getElem?];cases bx:tmps[t]? with
   |none=>simp [undef]
   |some v=>cases v<;>simp
  have hw:Region.wanted o (yielded opsA tmps)=true↔tmps.getD t undef = .bool nv:=by
   rw [←cl];simp [Region.wanted,hg]
  split at hp
  ·rename_i q b hc;cases hp;rw [hw];constructor
   ·intro ye x hx;rcases List.mem_append.1 hx with hx|hx
    ·by_cases h9:fC tmps q
     ·exact h9 x hx
     ·have:=(h.cond t _ _ hc).2 h9
      rw [ye]at this;cases this
    ·simp at hx;subst hx;exact ye
   ·intro h9;exact h9 (t,nv) (by simp)
  ·cases hp
  ·split at hp
   ·cases hp;rw [hw];exact⟨λh x hx=>by simp at hx;subst hx;exact h,λh=>h (t,nv) (by simp)⟩
   ·cases hp
def H'{t:Nat}{v:Value}{q:Path}(aB:∀x,x∈q→x.1≠t):fC (tmps.setIfInBounds t v) q↔fC tmps q:=by
 unfold fC;constructor<;>intro h x hx
 ·have:=h x hx
  rwa [Array.getD_eq_getD_getElem?,Array.getElem?_setIfInBounds_ne (Ne.symm (aB x hx)),←Array.getD_eq_getD_getElem?]at this
 ·have:=h x hx
  rwa [Array.getD_eq_getD_getElem?,Array.getElem?_setIfInBounds_ne (Ne.symm (aB x hx)),←Array.getD_eq_getD_getElem?]
def aaX{t s:Nat}{v:Value}(h:s≠t):(tmps.setIfInBounds t v).getD s undef=tmps.getD s undef:=by
 rw [Array.getD_eq_getD_getElem?,Array.getElem?_setIfInBounds_ne (Ne.symm h),←Array.getD_eq_getD_getElem?]
def aaY{bU:List (Nat×Path×D)}{t:Nat}(h:uJ bU t=true){s:Nat}{q:Path}{d:D}(hc:look bU s=some (q,d))(hs:s≠t):∀x,x∈q→x.1≠t:=by
 unfold uJ at h;rw [List.all_eq_true]at h;have:=h _ (qb hc)
 simp only [Bool.or_eq_true,Nat.beq_eq,List.all_eq_true,Bool.not_eq_true']at this;rcases this with Z|Z
 ·exact absurd Z hs
 ·intro x hx e;have:=Z x hx
  rw [e]at this;simp at this
def H_(h:∀t q d,look g.bU t=some (q,d)→(fC tmps q→ct M β (tmps.getD t undef) d)∧(¬ fC tmps q→tmps.getD t undef=undef)){t:Nat}{v:Value}(ba:uJ g.bU t=true){M':Mem}{β':Nat→Option Nat}
 (cM:M.le M') (gE:∀r b,β r=some b→β' r=some b):
 ∀s q d,look (del g.bU t) s=some (q,d)→(fC (tmps.setIfInBounds t v) q→ct M' β' ((tmps.setIfInBounds t v).getD s undef) d)∧(¬ fC (tmps.setIfInBounds t v) q→(tmps.setIfInBounds t v).getD s undef=undef):=by
 intro s q d hc;rw [pc]at hc;by_cases hs:t=s
 ·simp [hs]at hc
 ·rw [if_neg hs]at hc;rw [H' (aaY ba hc (Ne.symm hs)),aaX (Ne.symm hs)];exact⟨λh9=>(((h s q d hc).1 h9).mono cM).GZ gE,(h s q d hc).2⟩
def yf(ds:List Deferred):Act.eval ⟨tmps,ds⟩=Act.eval ⟨tmps,[]⟩:=by
 funext x;cases x<;>rfl
def QW{α:Type}:∀(a b:List (Nat×α)) (q:Nat),look (a++b) q=none→look a q=none∧look b q=none
 |[],b,q,h=>⟨rfl,h⟩
 |(j,x)::a,b,q,h=>by
  simp only [List.cons_append,dP]at h ⊢;by_cases hj:j=q
  ·simp [hj]at h
  ·simp only [hj,if_false]at h ⊢;exact QW a b q h
def fx.Ia(h:fx P K N M β g tmps w){β':Nat→Option Nat}{hs:List (Nat×List a1)}(sO:∀r b,β' r=some b→β r=some b∨(look hs r).isSome=true):
 ∀s id,look g.ids s=some id→look (hs++g.H) id=none→∀b,β' id≠some b:=by
 intro s id hid af b hb;obtain⟨Z,ae⟩:=QW _ _ _ af;rcases sO id b hb with ar|ar
 ·exact h.fresh s id hid ae b ar
 ·rw [Z]at ar;cases ar
def Ib(h:fx P K N M β g tmps w)(cu:fb P tt=true){opsA:Array Oper}(l_:opsA.toList=ops)(hs:mI (iZ P) tt N ops g o=some (.go eR))(cj:∀q,q∈eR.aZ→q){Q:Exit→Act→World→Prop}{next:Act→World→Prop}
 (fS:∀fw w' M' β',fx P K N M' β' eR fw w'→next ⟨fw,K.ds⟩ w'):
 if Region.wanted o (yielded opsA tmps)then o.wp P ⟨tmps,K.ds⟩ w next Q∨(o.asks P ⟨tmps,K.ds⟩ w∧LetsOut Q)else next ((⟨tmps,K.ds⟩:Act).put o.dst undef) w:=by
 unfold mI at hs;split at hs
 case h_1=>cases hs
 rename_i p hp;have hw:=QV h l_ hp;split at hs
 ·cases hs
 ·rw [Bool.cond_eq_ite]at hs;split at hs<;>cases hs
 rename_i f ba
 dsimp only at hs
 by_cases h9:fC tmps p
 ·rw [if_pos (
   hw.2 h9)]
  refine .inl ?_;have iq:=QU (g:=g) (ops:=ops) ⟨h,h9,cu⟩ ba
  -- HN follows once lb value is there
  have main:(∀q,q∈f.aZ→q)∧∀v w',h6 P K M β g f tmps v w'→next ((⟨tmps,K.ds⟩:Act).put o.dst v) w':=by
   split at hs
   ·rename_i sP;rw [Bool.cond_eq_ite]at hs;split at hs
    case isFalse=>cases hs
    rename_i sM;have yg:p=[]:=by simpa using sM
    subst yg;cases hs;refine⟨λq aB=>yd h h9 (cj _ (List.mem_append_left _ (List.mem_map.2 ⟨q,aB,rfl⟩))),?_⟩
    rintro v w' ⟨M',β',cM,gE,sO,cG,_⟩
    rw [sP];exact fS tmps w' M' β' ⟨cG,h.size,h.Ia sO,λs q d hc=>⟨λh9=>(((h.cond s q d hc).1 h9).mono cM).GZ gE,(h.cond s q d hc).2⟩⟩
   ·rename_i t sP;rw [Bool.cond_eq_ite]at hs;split at hs
    case isFalse=>cases hs
    rename_i hc;simp only [Bool.and_eq_true,Nat.blt_eq]at hc;have c8:t<tmps.size:=by rw [h.size];exact hc.1
    rcases p with _|⟨x,Ic⟩<;>dsimp only at hs
    ·cases hs;refine⟨λq aB=>yd h h9 (cj _ (List.mem_append_left _ (List.mem_map.2 ⟨q,aB,rfl⟩))),?_⟩
     rintro v w' ⟨M',β',cM,gE,sO,cG,iq⟩
     rw [sP];refine fS _ w' M' β' ⟨?_,by simpa using h.size,h.Ia sO,H_ h.cond hc.2 cM gE⟩
     cases he:f.e with
     |none=>exact cG.drop
     |some e=>
      obtain⟨Z,ae⟩:=iq e he;exact cG.put c8 Z (λT aS=>ae T _ aS)
    ·split at hs
     ·rename_i e he sQ nr;rw [Bool.cond_eq_ite]at hs;split at hs
      case isFalse=>cases hs
      rename_i lg;simp only [Bool.and_eq_true,List.all_eq_true,Nat.beq_eq,Bool.not_eq_true']at lg;cases hs;refine⟨λq aB=>yd h h9 (cj _ (List.mem_append_left _ (List.mem_map.2 ⟨q,aB,rfl⟩))),?_⟩
      rintro v w' ⟨M',β',cM,gE,sO,cG,iq⟩
      rw [sP];obtain⟨Z,_⟩:=iq e he
      have jA:∀y,y∈x::Ic→y.1≠t:=λy cl e=>by
       have:=lg.1 y cl
       rw [e]at this;simp at this
      refine fS _ w' M' β' ⟨?_,by simpa using h.size,by have:=h.Ia sO;rw [sQ]at this;exact this,λs q d ei=>?_⟩
      ·have:after g f={env:=g.env,H:=g.H,aW:=g.aW}:=by unfold after;rw [nr,sQ,lg.2];rfl
       rw [this]at cG;exact cG.drop
      ·rw [dP]at ei;by_cases jV:t=s
       ·rw [if_pos jV]at ei;cases ei;subst jV;rw [H' jA];refine⟨λ_=>?_,λhn=>absurd h9 hn⟩
        have:(tmps.setIfInBounds t v).getD t undef=v:=by simp [c8]
        rw [this];exact Z
       ·rw [if_neg jV]at ei;exact H_ h.cond hc.2 cM gE s q d ei
     ·cases hs
  obtain⟨aaZ,ip⟩:=main;rcases iq aaZ with⟨v,w',eS,j'⟩|⟨he,w',eS,j'⟩|⟨fn,vs,eS,sR⟩
  ·unfold Oper.wp;rw [yf,eS];exact ip v w' j'
  ·unfold Oper.wp;rw [yf,eS];exact ip undef w' j'
  ·unfold Oper.wp;rw [yf,eS];refine sR.mono ?_
   rintro e w' ⟨v,rfl,j'⟩
   exact ip v w' j'
 ·have aa0:Region.wanted o (yielded opsA tmps)=false:=by
   rw [Bool.eq_false_iff];exact λbx=>h9 (hw.1 bx)
  rw [aa0];simp only [Bool.false_eq_true,if_false];split at hs
  ·rename_i sP;rw [Bool.cond_eq_ite]at hs;split at hs
   case isFalse=>cases hs
   rename_i sM;have yg:p=[]:=by simpa using sM
   subst yg;exact absurd (λx hx=>by cases hx) h9
  ·rename_i t sP;rw [Bool.cond_eq_ite]at hs;split at hs
   case isFalse=>cases hs
   rename_i hc;simp only [Bool.and_eq_true,Nat.blt_eq]at hc;rcases p with _|⟨x,Ic⟩<;>dsimp only at hs
   ·exact absurd (λx hx=>by cases hx) h9
   ·split at hs
    ·rename_i e he sQ nr;rw [Bool.cond_eq_ite]at hs;split at hs
     case isFalse=>cases hs
     rename_i lg;simp only [Bool.and_eq_true,List.all_eq_true,Nat.beq_eq,Bool.not_eq_true']at lg;cases hs;rw [sP]
     have jA:∀y,y∈x::Ic→y.1≠t:=λy cl e=>by
      have:=lg.1 y cl
      rw [e]at this;simp at this
     refine fS _ w M β ⟨h.bo.drop,by simpa using h.size,h.fresh,λs q d ei=>?_⟩
     rw [dP]at ei;by_cases jV:t=s
     ·rw [if_pos jV]at ei;cases ei;subst jV;rw [H' jA];refine⟨λbx=>absurd bx h9,λ_=>?_⟩
      have c8:t<tmps.size:=by rw [h.size];exact hc.1
      simp [c8]
     ·rw [if_neg jV]at ei;exact H_ h.cond hc.2 (Mem.le_refl _) (λ_ _ h=>h) s q d ei
    ·cases hs
end
section
variable {P:Program} {K:Ctx} {N E:Nat} {M:Mem} {β:Nat→Option Nat} {st:aI} {g eR:c_} {tmps:Array Value} {w:World} {o:Oper} {f:ko} {p:Path} {tt:dw} {ops:List Oper}
def QX(h:fx P K N M β g tmps w)(cu:fb P tt=true){opsA:Array Oper}(l_:opsA.toList=ops){x:V}{st:aI}{aZ:List Prop}(hs:mI (iZ P) tt N ops g o=some (.bd x st aZ))(cj:∀q,q∈aZ→q){Q:Exit→Act→World→Prop}{next:Act→World→Prop}
 (fS:∀e dX w',re P K N (.bd x) st e dX w'→Q e dX w'):
 if Region.wanted o (yielded opsA tmps)then o.wp P ⟨tmps,K.ds⟩ w next Q∨(o.asks P ⟨tmps,K.ds⟩ w∧LetsOut Q)else next ((⟨tmps,K.ds⟩:Act).put o.dst undef) w:=by
 unfold mI at hs;split at hs
 case h_1=>cases hs
 rename_i p hp;have hw:=QV h l_ hp;split at hs
 ·cases hs
 ·rename_i y fI rf dH;rw [Bool.cond_eq_ite]at hs;split at hs
  case isFalse=>cases hs
  rename_i sM;have yg:p=[]:=by simpa using sM
  subst yg;cases hs;have h9:fC tmps []:=λx hx=>by cases hx
  rw [if_pos (hw.2 h9)];refine .inl ?_;have iq:=QU (g:=g) (ops:=ops) ⟨h,h9,cu⟩ dH;rcases iq (λq aB=>cj q (List.mem_append_left _ aB)) with⟨v,eS,ak,rfl⟩|⟨fn,vs,eS,sR⟩
  ·unfold Oper.wp;rw [yf,eS];exact fS _ _ _ ⟨v,rfl,rfl,M,β,ak,h.bo.n6 λs e he=>⟨e,he,rfl⟩⟩
  ·unfold Oper.wp;rw [yf,eS];refine sR.mono ?_
   rintro e w' ⟨v,M',rfl,ak,cG⟩
   exact fS _ _ _ ⟨v,rfl,rfl,M',β,ak,cG⟩
 ·dsimp only at hs
  repeat' (first|(split at hs)|(rw [Bool.cond_eq_ite]at hs)|(cases hs;done))
def aa1{b4:f6}(hs:mI b4 tt N ops g o=some (.go eR)):∀q,q∈g.aZ→q∈eR.aZ:=by
 intro q aB;unfold mI at hs;split at hs
 case h_1=>cases hs
 split at hs
 ·cases hs
 ·rw [Bool.cond_eq_ite]at hs;split at hs<;>cases hs
 ·dsimp only at hs
  repeat' (first|(split at hs)|(rw [Bool.cond_eq_ite]at hs)|(cases hs;exact List.mem_append_right _ aB)|(cases hs;done))
def aa2{b4:f6}{x:V}{st:aI}{aZ:List Prop}(hs:mI b4 tt N ops g o=some (.bd x st aZ)):∀q,q∈g.aZ→q∈aZ:=by
 intro q aB;unfold mI at hs;split at hs
 case h_1=>cases hs
 split at hs
 ·cases hs
 ·rw [Bool.cond_eq_ite]at hs;split at hs<;>cases hs;exact List.mem_append_right _ aB
 ·dsimp only at hs
  repeat' (first|(split at hs)|(rw [Bool.cond_eq_ite]at hs)|(cases hs;done))
def QY:xC→List Prop
 |.go g=>g.aZ
 |.bd _ _ aZ=>aZ
def QZ{b4:f6}:∀{l:List Oper} {g:c_} {fin:xC},qW b4 tt N ops l g=some fin→∀q,q∈g.aZ→q∈QY fin
 |[],g,fin,h,q,aB=>by simp [qW]at h;subst h;exact aB
 |o::l,g,fin,h,q,aB=>by
  simp only [qW]at h;split at h
  ·rename_i eR hs;exact QZ h q (aa1 hs q aB)
  ·cases fin with
   |go eR=>exact absurd h (by intro bx;rename_i ea;exact ea _ bx)
   |bd x st aZ=>exact aa2 h q aB
def Ie(cu:fb P tt=true){opsA:Array Oper}(l_:opsA.toList=ops){Q:Exit→Act→World→Prop}{fin:xC}(ma:∀q,q∈QY fin→q)
 (d_:match fin with
  |.go eR=>∀fw w' M' β',fx P K N M' β' eR fw w'→Q .normal ⟨fw,K.ds⟩ w'
  |.bd x st _=>∀e dX w',re P K N (.bd x) st e dX w'→Q e dX w'):
 ∀(l:List Oper) (k:Nat) (g:c_) (tmps:Array Value) (w:World) (M:Mem) (β:Nat→Option Nat),(∀j,l[j]? = ops[k+j]?)→fx P K N M β g tmps w→qW (iZ P) tt N ops l g=some fin→
  wpOps P opsA Q (List.range' k l.length) ⟨tmps,K.ds⟩ w
 |[],k,g,tmps,w,M,β,_,h,ak=>by
  simp [qW]at ak;subst ak;exact d_ tmps w M β h
 |o::l,k,g,tmps,w,M,β,af,h,ak=>by
  have hk:opsA[k]? = some o:=by
   have:=af 0
   simp at this
   rw [←Array.getElem?_toList,l_];exact this.symm
  simp only [List.length_cons,List.range'_succ,wpOps,hk];simp only [qW]at ak;split at ak
  ·rename_i eR hs;refine Ib h cu l_ hs (λq aB=>ma q (QZ ak q aB)) (λfw w' M' β' de=>?_)
   exact Ie cu l_ ma d_ l (k+1) eR fw w' M' β' (λj=>by have:=af (j+1);simpa [Nat.add_assoc,Nat.add_comm 1 j]using this) de ak
  ·cases fin with
   |go eR=>exact absurd ak (by intro bx;rename_i ea;exact ea _ bx)
   |bd x st aZ=>exact QX h cu l_ ak ma (λe dX w' cw=>d_ e dX w' cw)
def a'(P:Program)(N E:Nat)(c:Code)(Q:cm→aI→Prop)(st:aI):Prop:=
 ∀(K:Ctx),(∀r b,K.kr r=some b→r<E)→∀(a:Act) (w:World),re P K N .normal st .normal a w→c.wp P (λe dX w'=>∃fs bW,re P K N fs bW e dX w'∧Q fs bW) a w
def a'.mono{c:Code}{Q Q0:cm→aI→Prop}(h:a' P N E c Q st)(aB:∀fs bW,Q fs bW→Q0 fs bW):a' P N E c Q0 st:=
 λK ey a w hs=>wp_mono (h K ey a w hs) λ_ _ _ ⟨fs,bW,Z,ae⟩=>⟨fs,bW,Z,aB _ _ ae⟩
@[reducible] def cm.then (next : aI → Prop) (Q : cm → aI → Prop) : cm → aI → Prop
 |.normal,st=>next st
 |e,st=>Q e st
@[reducible] def cm.inBlock (id : Nat) (Q : cm → aI → Prop) : cm → aI → Prop
 |.exit i,st=>if i=id then Q .normal st else Q (.exit i) st
 |e,st=>Q e st
def a'.seq{x y:Code}{Q:cm→aI→Prop}(h:a' P N E x (cm.then (a' P N E y Q) Q) st):a' P N E (.seq x y) Q st:=by
 intro K ey a w hs;refine wp_seq (wp_mono (h K ey a w hs) ?_)
 rintro e dX w' ⟨fs,bW,Z,ae⟩
 cases fs with
 |normal=>
  obtain⟨rfl,ar⟩:=Z;exact ae K ey dX w' ⟨rfl,ar⟩
 |exit i=>obtain⟨rfl,ar⟩:=Z;exact⟨.exit i,bW,⟨rfl,ar⟩,ae⟩
 |ret=>obtain⟨rfl,ar⟩:=Z;exact⟨.ret,bW,⟨rfl,ar⟩,ae⟩
 |bd x=>obtain⟨v,rfl,ar⟩:=Z;exact⟨.bd x,bW,⟨v,rfl,ar⟩,ae⟩
def a'.skip{Q:cm→aI→Prop}(h:Q .normal st):a' P N E .skip Q st:=λ_ _ _ _ hs=>wp_skip ⟨.normal,st,hs,h⟩
def a'.label{l:Nat}{Q:cm→aI→Prop}(h:Q .normal st):a' P N E (.label l) Q st:=λ_ _ _ _ hs=>wp_label ⟨.normal,st,hs,h⟩
def a'.exit{id:Nat}{Q:cm→aI→Prop}(h:Q (.exit id) st):a' P N E (.exit id) Q st:=λ_ _ _ _ hs=>wp_exit ⟨.exit id,st,⟨rfl,hs.2⟩,h⟩
def a'.ret{Q:cm→aI→Prop}(h:Q .ret st):a' P N E .ret Q st:=λ_ _ _ _ hs=>wp_ret ⟨.ret,st,⟨rfl,hs.2⟩,h⟩
def a'.block{id:Nat}{c:Code}{Q:cm→aI→Prop}(h:a' P N E c (cm.inBlock id Q) st):a' P N E (.block id c) Q st:=by
 intro K ey a w hs;refine wp_block (wp_mono (h K ey a w hs) ?_)
 rintro e dX w' ⟨fs,bW,Z,ae⟩
 cases fs with
 |normal=>obtain⟨rfl,ar⟩:=Z;exact⟨.normal,bW,⟨rfl,ar⟩,ae⟩
 |exit i=>
  obtain⟨rfl,ar⟩:=Z;by_cases hi:i=id
  ·simp only [cm.inBlock,hi,if_true]at ae;simp only [Exit.inBlock,hi,if_true];exact⟨.normal,bW,⟨rfl,ar⟩,ae⟩
  ·simp only [cm.inBlock,hi,if_false]at ae;simp only [Exit.inBlock,hi,if_false];exact⟨.exit i,bW,⟨rfl,ar⟩,ae⟩
 |ret=>obtain⟨rfl,ar⟩:=Z;exact⟨.ret,bW,⟨rfl,ar⟩,ae⟩
 |bd x=>obtain⟨v,rfl,ar⟩:=Z;exact⟨.bd x,bW,⟨v,rfl,ar⟩,ae⟩
def a'.cond{c:Nat}{x y:Code}{Q:cm→aI→Prop}(b:Bool)(own:Option TypeId)(hc:look st.env c=some ⟨.v (.bool b),own⟩)(bS:b=true→a' P N E x Q st)(ba:b=false→a' P N E y Q st):a' P N E (.cond (.tmp c) x y) Q st:=by
 intro K ey a w hs;obtain⟨_,_,_,M,β,cG⟩:=id hs;have ay:a.eval (.tmp c) = .bool b:=sl (cG.e_ (.slot c) _ hc);exact wp_cond_split ay (λhb=>bS hb K ey a w hs) (λhb=>ba hb K ey a w hs)
def a'.loop{c:Code}{Q:cm→aI→Prop}{σ:Type}(I:Nat→σ→aI→Prop)(Q1:∀n s st,I n s st→∃m,n=m+1∧a' P N E c (cm.then (λbW=>∃uN,I m uN bW) Q) st)
 {n:Nat} {s:σ} {st:aI} (h0:I n s st):a' P N E (.loop c) Q st:=by
 intro K ey a w hs b k cs
 have key:∀n s st a w,I n s st→re P K N .normal st .normal a w→
  ∃e dX w',(∃fs bW,re P K N fs bW e dX w'∧Q fs bW)∧Arrives P (lone (b.at a (.code c :: .inLoop c::k)) cs w) b k cs e dX w':=by
  intro n;induction n with
  |zero=>
   intro s st a w If _;obtain⟨m,hm,_⟩:=Q1 0 s st If;omega
  |succ n a7=>
   intro s st a w If hs;obtain⟨m,hm,H4⟩:=Q1 (n+1) s st If;have:m=n:=by omega
   subst this;obtain⟨e,Cb,Cc,⟨fs,bW,Z,ae⟩,va⟩:=H4 K ey a w hs b (.inLoop c::k) cs;cases fs with
   |normal=>
    obtain⟨rfl,ar⟩:=Z;obtain⟨uN,aa3⟩:=ae;obtain⟨aa4,aa5,aa6,aa7,aa8⟩:=a7 uN bW Cb Cc aa3 ⟨rfl,ar⟩;exact⟨aa4,aa5,aa6,aa7,.of_steps (Steps.trans va (.one step_inLoop)) aa8⟩
   |exit i=>obtain⟨rfl,ar⟩:=Z;exact⟨_,Cb,Cc,⟨.exit i,bW,⟨rfl,ar⟩,ae⟩,.pass (x:=.inLoop c) rfl (λ_ _=>.inl (by simp)) va⟩
   |ret=>obtain⟨rfl,ar⟩:=Z;exact⟨_,Cb,Cc,⟨.ret,bW,⟨rfl,ar⟩,ae⟩,.pass (x:=.inLoop c) rfl (λ_ _=>.inl (by simp)) va⟩
   |bd x=>obtain⟨v,rfl,ar⟩:=Z;exact⟨_,Cb,Cc,⟨.bd x,bW,⟨v,rfl,ar⟩,ae⟩,.pass (x:=.inLoop c) rfl (λ_ _=>.inl (by simp)) va⟩
 obtain⟨e,dX,w',aB,va⟩:=key n s st a w h0 hs;exact⟨e,dX,w',aB,.of_steps (.one step_loop) va⟩
end
def vb(tt:dw)(st:aI):ResultVar→Option D
 |.tmp t=>(look st.env t).map (·.d)
 |.cell a t=>match look st.env a,look tt t with
  |some ⟨.ptr r off,_⟩,some aP=>match look st.H r with
   |some cs=>bif aP.k.isAgg then(bif Nat.ble (off+aP.size) cs.length then some (o8 (((cs.drop off).take aP.size).map (·.d)))else none) else(cs[off]?).map (·.d)
   |none=>none
  |_,_=>none
def Q2(tt:dw)(st:aI):List ResultVar→Option (D×Option TypeId)
 |[.tmp t]=>(look st.env t).map λe=>(e.d,e.own)
 |[x]=>(vb tt st x).map (·,none)
 |xs=>(mapM' (vb tt st) xs).map λds=>(.cx ds,none)
def leave(tt:dw)(E:Nat)(rs:List ResultVar)(st:aI):Option (Out×List (List a1)):=
 match Q2 tt st rs,boxes st.H (List.range E) with
 |some (d,own),some bM=>bif below E d&&bM.all (qX E)then some (.ret d own,bM)else none
 |_,_=>none
def Cd(E:Nat)(H:List (Nat×List a1)):Option (List (List a1)):=
 match boxes H (List.range E) with
 |some bM=>bif bM.all (qX E)then some bM else none
 |none=>none
def mR(H:List (List a1)):List (List a1):=H.map λb=>b.map λe=>{d:=e.d}
def rh(tt:dw)(E:Nat)(rs:List ResultVar)(R:Out→List (List a1)→Prop):cm→aI→Prop
 |.normal,st=>∃o bM,leave tt E rs st=some (o,bM)∧R o bM
 |.ret,st=>∃o bM,leave tt E rs st=some (o,bM)∧R o bM
 |.bd x,st=>∃bM,Cd E st.H=some bM∧R (.bd x) (mR bM)
 |.exit _,_=>False
section
variable {P:Program} {K:Ctx} {N E:Nat} {M:Mem} {β:Nat→Option Nat} {st:aI} {tmps:Array Value} {w:World} {tt:dw}
def Ce(tmps:Array Value):ResultVar→Sem Value
 |.tmp t=>pure (tmps.getD t undef)
 |.cell a t=>do loadVar t (←asAddr (tmps.getD a undef))
def Q3(h:bH P K M β st tmps w)(cu:fb P tt=true){x:ResultVar}{d:D}(hx:vb tt st x=some d):
 ∃v,(Ce tmps x).run P w = .ok v w∧ct M β v d:=by
 cases x with
 |tmp t=>
  simp only [vb,Option.map_eq_some_iff]at hx;obtain⟨e,he,rfl⟩:=hx;exact⟨_,rfl,h.e_ (.slot t) e he⟩
 |cell a t=>
  simp only [vb]at hx;split at hx
  case h_2=>cases hx
  rename_i r off own aP ha af;obtain⟨row⟩:=eu cu af;split at hx
  case h_2=>cases hx
  rename_i cs ak;obtain⟨b,hb,ay⟩:=qd (h.e_ (.slot a) _ ha);simp only [cp]at ay;obtain⟨bC,vs,T,bQ,bx,hlen,_,_,il,lE⟩:=h.box r cs ak;rw [hb]at bQ;cases bQ
  have Q4:∀{u:Value},(Instr.loadAt t (.pointer (some ⟨b,off,none⟩))).run P w = .ok u w→(do loadVar t (←asAddr (tmps.getD a undef)):Sem Value).run P w = .ok u w:=by
   intro u hu;rw [ay];simpa [Instr.loadAt,Instr.sureAddr,asAddr]using hu
  rw [Bool.cond_eq_ite]at hx;split at hx
  ·rename_i iY;rw [Bool.cond_eq_ite]at hx;split at hx
   case isFalse=>cases hx
   rename_i hle;simp only [Nat.ble_eq]at hle;cases hx;refine⟨_,Q4 (PH (P:=P) row (off:=off) bx (by omega) iY),?_⟩
   refine BJ (by simp;omega) (λv ay=>il v (List.mem_of_mem_drop (List.mem_of_mem_take ay))) (λi v c ay hc=>?_)
   rw [List.getElem?_map,Option.map_eq_some_iff]at hc;obtain⟨e,he,rfl⟩:=hc;rw [List.getElem?_take]at ay he;split at ay
   ·rename_i hi;rw [if_pos hi,List.getElem?_drop]at he;rw [List.getElem?_drop]at ay;have:=h.e_ (.cell r (off+i)) e (by simp [aI.at,ak,he])
    simpa [cp,hb,cell_of_heap bx,ay]using this
   ·cases ay
  ·rename_i iY;simp only [Option.map_eq_some_iff]at hx;obtain⟨e,he,rfl⟩:=hx;obtain⟨hz,ZN,n_,v,fR,BT,eN,b'⟩:=G3 h ak he;rw [hb]at fR;cases fR;refine⟨v,Q4 (Hd (P:=P) row (by rw [cell_of_heap BT,eN]) (by simpa using iY)),?_⟩
   have:=h.e_ (.cell r off) e (by simp [aI.at,ak,he])
   rwa [b']at this
def Q5(h:bH P K M β st tmps w)(cu:fb P tt=true):∀{xs:List ResultVar} {ds:List D},mapM' (vb tt st) xs=some ds→
 ∃vs:List Value,(xs.mapM (Ce tmps)).run P w = .ok vs w∧vs.length=ds.length∧
  ∀(i:Nat) v d,vs[i]? = some v→ds[i]? = some d→ct M β v d
 |[],ds,hx=>by simp [mapM']at hx;subst hx;exact⟨[],rfl,rfl,by simp⟩
 |x::xs,ds,hx=>by
  simp only [mapM']at hx;split at hx
  case h_2=>cases hx
  rename_i d aaL hd g_;cases hx;obtain⟨v,ay,f9⟩:=Q3 h cu hd;obtain⟨vs,l8,af,ak⟩:=Q5 h cu g_;refine⟨v::vs,?_,by simp [af],λi u c hu hc=>?_⟩
  ·simp only [List.mapM_cons,Sem.run_bind,ay,Result.andThen_ok,l8,Sem.run_pure]
  ·cases i with
   |zero=>simp at hu hc;subst hu;subst hc;exact f9
   |succ i=>simp at hu hc;exact ak i u c hu hc
def aa9{H:List (Nat×List a1)}{E:Nat}{bM:List (List a1)}(h:boxes H (List.range E)=some bM):bM.length=E∧∀r,r<E→look H r=bM[r]? ∧ (bM[r]?).isSome=true:=by
 obtain⟨Z,ae⟩:=sz h;exact⟨by simpa using Z,λr ak=>ae r r (by simp [ak])⟩
def bH.leave(h:bH P K M β st tmps w){bM:List (List a1)}(yh:boxes st.H (List.range E)=some bM)(Q6:bM.all (qX E)=true)(ey:∀r b,K.kr r=some b→r<E){v:Value}{d:D}{own:Option TypeId}
 (ay:ct M β v d) (hd:below E d=true) (fP:∀T,own=some T→∃l,l6 P K M β {env:=gD l st.env,H:=st.H,aW:=st.aW} tmps w (.slot 0) v T∧True):
 ∃ β',bH P K M β' {env:=[(0,{d,own})],H:=cK 0 bM,aW:=E} #[v] w:=by
 obtain⟨af,kV⟩:=aa9 yh;have Z:=h.yc #[undef]
 have jC:∀r cs,look (cK 0 bM) r=some cs→r<E∧look st.H r=some cs:=by
  intro r cs ak;rw [l']at ak;have c8:r<E:=by have:=(List.getElem?_eq_some_iff.1 ak).1;omega
  exact⟨c8,by rw [(kV r c8).1];exact ak⟩
 have hle:E≤st.aW∨E=0:=by
  by_cases h0:E=0
  ·exact .inr h0
  ·obtain⟨ae,ar⟩:=kV (E-1) (by omega)
   obtain⟨cs,ei⟩:=Option.isSome_iff_exists.1 ar;rw [ei]at ae;obtain⟨b,_,_,hb,_⟩:=h.box _ cs ae;have:=h.lt _ b hb
   exact .inl (by omega)
 have ae:bH P K M β {env:=[],H:=cK 0 bM,aW:=st.aW} #[undef] w:=by
  refine Z.sub rfl (λl e af=>?_) (λr cs ak=>⟨cs,(jC r cs ak).2,rfl⟩)
  cases l with
  |slot s=>simp [aI.at,look]at af
  |cell r i=>
   simp only [aI.at]at af ⊢;cases ak:look (cK 0 bM) r with
   |none=>simp [ak]at af
   |some cs=>simp [ak]at af;exact⟨e,by simp [(jC r cs ak).2,af],rfl,λ_ h=>h⟩
 -- lb slot
 have ar:bH P K M β {env:=[(0,{d,own})],H:=cK 0 bM,aW:=st.aW} #[v] w:=by
  have aa':=ae.put (t:=0) (v:=v) (e:={d,own}) (by simp) ay (λT aS=>?_)
  ·simpa using aa'
  ·obtain⟨l,hn,_⟩:=fP T aS;refine⟨hn.own,λgb e T' b fk d9 _ hb bQ=>?_,λb r cs hb ak=>hn.unbox b r cs hb (jC r cs ak).2⟩
   cases gb with
   |slot s=>simp [aI.at,look]at fk
   |cell r i=>
    simp only [aI.at]at fk;cases ak:look (cK 0 bM) r with
    |none=>simp [ak]at fk
    |some cs=>
     simp [ak]at fk;exact hn.apart (.cell r i) e T' b (by simp [aI.at,(jC r cs ak).2,fk]) d9 (by simp) hb bQ
 refine⟨λr=>if r<E then β r else none,?_⟩
 have b':∀l e,({env:=[(0,{d,own})],H:=cK 0 bM,aW:=st.aW}:aI).at l=some e→cp #[v] w (λr=>if r<E then β r else none) l=cp #[v] w β l:=by
  intro l e af;cases l with
  |slot s=>rfl
  |cell r i=>
   simp only [aI.at]at af;cases ak:look (cK 0 bM) r with
   |none=>simp [ak]at af
   |some cs=>simp [cp,(jC r cs ak).1]
 have l7:∀l e,({env:=[(0,{d,own})],H:=cK 0 bM,aW:=st.aW}:aI).at l=some e→below E e.d=true:=by
  intro l e af;cases l with
  |slot s=>
   simp only [aI.at,dP]at af;split at af
   ·cases af;exact hd
   ·simp [look]at af
  |cell r i=>
   simp only [aI.at]at af;cases ak:look (cK 0 bM) r with
   |none=>simp [ak]at af
   |some cs=>
    simp [ak]at af;rw [l']at ak;rw [List.all_eq_true]at Q6;exact G' (Q6 cs (List.mem_of_getElem? ak)) af
 constructor
 ·intro l e af;rw [b' l e af];exact(ar.e_ l e af).Pu (λr ak=>by simp [ak]) (l7 l e af)
 ·intro l e T af aS;rw [b' l e af];exact ar.own l e T af aS
 ·intro l cD e bf T T' b af aS dr d9 hb bQ;rw [b' l e af]at hb;rw [b' cD bf dr]at bQ;exact ar.uniq l cD e bf T T' b af aS dr d9 hb bQ
 ·intro l e T b r cs af aS hb ak;rw [b' l e af]at hb;have:=ar.unbox l e T b r cs af aS hb ak
  simpa [(jC r cs ak).1]using this
 ·intro r cs ak;obtain⟨b,vs,T,aK,bc⟩:=ar.box r cs ak;exact⟨b,vs,T,by simpa [(jC r cs ak).1]using aK,bc⟩
 ·intro r dl b cs cs' ak fG hb bQ;exact ar.inj r dl b cs cs' ak fG (by simpa [(jC r cs ak).1]using hb) (by simpa [(jC dl cs' fG).1]using bQ)
 ·intro r b hb;by_cases c8:r<E
  ·exact c8
  ·simp [c8]at hb
 ·exact ar.mem
 ·exact ar.m0
 ·exact ar.frame
 ·intro r b hb;simp [ey r b hb,ar.h4 r b hb]
 ·exact ar.iF
 ·exact ar.gZ
def bH.era{env:List (Nat×a1)}{H:List (List a1)}{n:Nat}(h:bH P K M β {env:=env,H:=cK 0 H,aW:=n} tmps w):bH P K M β {env:=env,H:=cK 0 (mR H),aW:=n} tmps w:=by
 refine h.sub rfl (λl e af=>?_) (λr cs ak=>?_)
 ·cases l with
  |slot s=>exact⟨e,af,rfl,λ_ h=>h⟩
  |cell r i=>
   simp only [aI.at,l',mR,List.getElem?_map]at af ⊢;cases hb:H[r]? with
   |none=>simp [hb]at af
   |some b=>
    simp only [hb,Option.map_some,Option.bind_some,List.getElem?_map,Option.map_eq_some_iff]at af;obtain⟨b5,h0,rfl⟩:=af;exact⟨b5,by simpa using h0,rfl,λT aS=>by cases aS⟩
 ·simp only [l',mR,List.getElem?_map,Option.map_eq_some_iff]at ak ⊢;obtain⟨b,hb,rfl⟩:=ak;exact⟨b,hb,by simp⟩
def yi{fn:Func}{E:Nat}{fw:Array Value}{w':World}{bW:aI}{M':Mem}{β':Nat→Option Nat}{o:Out}{bM:List (List a1)}(cu:fb P tt=true)(ey:∀r b,K.kr r=some b→r<E)(hs:bH P K M' β' bW fw w')
 (af:Ab.leave tt E fn.results.toList bW=some (o,bM)):
 ∃v,(results fn fw).run P w' = .ok v w'∧∃l9 M' β',Ending.returned v=q7 o l9∧bH P K M' β' {env:=hJ o,H:=cK 0 bM,aW:=E} #[l9] w':=by
 unfold Ab.leave at af;split at af
 case h_2=>cases af
 rename_i d own H1 iq yh;rw [Bool.cond_eq_ite]at af;split at af
 case isFalse=>cases af
 rename_i hc;simp only [Bool.and_eq_true]at hc;cases af
 -- lb value of lb results
 have b':∃v,(results fn fw).run P w' = .ok v w'∧ct M' β' v d∧∀T,own=some T→∃l,l6 P K M' β' {env:=gD l bW.env,H:=bW.H,aW:=bW.aW} fw w' (.slot 0) v T∧True:=by
  have hm:∀{vs:List Value},(fn.results.toList.mapM (Ce fw)).run P w' = .ok vs w'→
   (results fn fw).run P w' = .ok (if h:vs.length=1 then vs[0]else .tuple ⟨vs⟩) w':=by
   intro vs l8
   have iq:results fn fw=(do let vs ←fn.results.mapM (Ce fw);pure (if h:vs.size=1 then vs[0]else .tuple vs)):=by
    unfold results
    congr 2
   rw [iq,show fn.results=⟨fn.results.toList⟩from rfl,List.mapM_toArray]
   simp only [Sem.run_bind,Sem.run_map,l8,Result.andThen_ok,Sem.run_pure];simp
  unfold Q2 at iq;split at iq
  ·rename_i t bS;simp only [Option.map_eq_some_iff,Prod.mk.injEq]at iq;obtain⟨e,he,rfl,rfl⟩:=iq;have ik:=hs.e_ (.slot t) e he;refine⟨fw.getD t undef,?_,ik,λT aS=>⟨[t],hs.hand he aS (.slot 0),trivial⟩⟩
   have:=hm (vs:=[fw.getD t undef]) (by rw [bS];rfl)
   simpa using this
  ·rename_i x ea hx;simp only [Option.map_eq_some_iff,Prod.mk.injEq]at iq;obtain⟨dZ,jw,rfl,rfl⟩:=iq;obtain⟨v,ay,f9⟩:=Q3 hs cu jw;refine⟨v,?_,f9,by simp⟩
   have:=hm (vs:=[v]) (by rw [hx];simp only [List.mapM_cons,List.mapM_nil,Sem.run_bind,ay,Result.andThen_ok,Sem.run_pure])
   simpa using this
  ·simp only [Option.map_eq_some_iff,Prod.mk.injEq]at iq;obtain⟨ds,g_,rfl,rfl⟩:=iq;obtain⟨vs',l8,af,f9⟩:=Q5 hs cu g_;refine⟨.tuple ⟨vs'⟩,?_,.cx vs' ds af f9,by simp⟩
   have ea:vs'.length≠1:=by
    rename_i Z ae;rw [af,(q2 g_).1];intro bx;obtain⟨x,hx⟩:=List.length_eq_one_iff.1 bx;exact ae x hx
   have:=hm l8
   simpa [ea]using this
 obtain⟨v,eS,f9,fP⟩:=b';obtain⟨yj,ma⟩:=hs.leave yh hc.2 ey f9 hc.1 fP;exact⟨v,eS,v,M',yj,rfl,ma⟩
def bH.sS{P:Program}{K:Ctx}{M:Mem}{β:Nat→Option Nat}{st:aI}{tmps:Array Value}{w:World}(h:bH P K M β st tmps w)(ds:List Deferred):bH P {K with ds:=ds} M β st tmps w:=
 ⟨h.e_,h.own,h.uniq,h.unbox,h.box,h.inj,h.lt,h.mem,h.m0,h.frame,h.h4,h.iF,h.gZ⟩
def Ig{args:List D}{ed:List (Nat×TypeId)}{H:List (List a1)}{vs:List Value}{n:Nat}(hlen:vs.length=args.length)(cG:bH P K M β {env:=gU args ed,H:=cK 0 H,aW:=H.length} ⟨vs⟩ w):
 bH P K M β {env:=gU args ed,H:=cK 0 H,aW:=H.length} ((⟨vs⟩:Array Value)++Array.replicate n undef) w:=by
 have ay:∀l e,({env:=gU args ed,H:=cK 0 H,aW:=H.length}:aI).at l=some e→cp ((⟨vs⟩:Array Value)++Array.replicate (n) undef) w β l=cp ⟨vs⟩ w β l:=by
  intro l e af;cases l with
  |slot s=>
   simp only [aI.at,gU,l',xW,Option.map_eq_some_iff]at af;obtain⟨d,hd,_⟩:=af;have hs:s<vs.length:=by have:=(List.getElem?_eq_some_iff.1 hd).1;omega
   simp only [cp,Array.getD_eq_getD_getElem?];rw [Array.getElem?_append_left (by simpa using hs)]
  |cell r i=>rfl
 constructor
 ·intro l e af;rw [ay l e af];exact cG.e_ l e af
 ·intro l e T af aS;rw [ay l e af];exact cG.own l e T af aS
 ·intro l cD e bf T T' b af aS dr d9 hb bQ;rw [ay l e af]at hb;rw [ay cD bf dr]at bQ;exact cG.uniq l cD e bf T T' b af aS dr d9 hb bQ
 ·intro l e T b r cs af aS hb ak;rw [ay l e af]at hb;exact cG.unbox l e T b r cs af aS hb ak
 ·exact cG.box
 ·exact cG.inj
 ·exact cG.lt
 ·exact cG.mem
 ·exact cG.m0
 ·exact cG.frame
 ·exact cG.h4
 ·exact cG.iF
 ·exact cG.gZ
def ph.of_wp {f : FuncId} {fn : Func} {c : Code} {args : List D} {ed : List (Nat × TypeId)} {H : List (List a1)} {R : Out → List (List a1) → Prop} (cu : fb P tt = true) (ba : P.funcs[f]? = some fn) (hb : fn.body = some c) (i7 : decide (fn.name = "runtime.NumGoroutine") = false)
 (eJ:Nat.ble args.length fn.ntmps=true) (h:a' P fn.ntmps H.length c (rh tt H.length fn.results.toList R) {env:=gU args ed,H:=cK 0 H,aW:=H.length}):ph P f args ed H R:=by
 refine⟨⟨fn,ba,by rw [hb];rfl,by simpa using i7⟩,?_⟩
 intro cv w vs M β hlen Ih Ii
 suffices key:∀K:Ctx,K.ds=[]→bH P K M β {env:=gU args ed,H:=cK 0 H,aW:=H.length} ⟨vs⟩ w→(∀r b,β r=some b→K.kr r=some b)→
  Calls P f ⟨vs⟩ w λe w'=>∃o bM v M' β',R o bM∧e=q7 o v∧bH P K M' β' {env:=hJ o,H:=cK 0 bM,aW:=H.length} #[v] w' from
  (key {cv with ds:=[]} rfl (Ih.sS []) Ii).mono λe w' ⟨o,bM,v,M',β',Z,ae,ar⟩=>⟨o,bM,v,M',β',Z,ae,ar.sS cv.ds⟩
 intro K g_ cG gE;have ey:∀r b,K.kr r=some b→r<H.length:=λr b hb=>cG.lt r b (cG.h4 r b hb)
 simp only [Nat.ble_eq]at eJ;have aa_:=Ig (n:=fn.ntmps-(⟨vs⟩:Array Value).size) hlen cG;have aba:=h K ey {tmps:=(⟨vs⟩:Array Value)++Array.replicate (fn.ntmps-(⟨vs⟩:Array Value).size) undef,defers:=[]} w ⟨rfl,g_.symm,by simp;omega,M,β,aa_⟩
 refine calls_of_wp ba hb (wp_mono aba ?_)
 have fin:∀(dX:Act) (w':World) (bW:aI) M' β',bH P K M' β' bW dX.tmps w'→(∃o bM,Ab.leave tt H.length fn.results.toList bW=some (o,bM)∧R o bM)→
  ∃v,(results fn dX.tmps).run P w' = .ok v w'∧∃o bM l9 M' β',R o bM∧Ending.returned v=q7 o l9∧bH P K M' β' {env:=hJ o,H:=cK 0 bM,aW:=H.length} #[l9] w':=by
  intro dX w' bW M' β' hs ⟨o,bM,af,sT⟩;obtain⟨v,Z,l9,xO,xP,ae,ar⟩:=yi cu ey hs af;exact⟨v,Z,o,bM,l9,xO,xP,sT,ae,ar⟩
 rintro e dX w' ⟨fs,bW,Z,ae⟩
 cases fs with
 |normal=>
  obtain⟨rfl,hd,_,M',β',hs⟩:=Z;exact⟨hd.trans g_,fin dX w' bW M' β' hs ae⟩
 |ret=>
  obtain⟨rfl,hd,_,M',β',hs⟩:=Z;exact⟨hd.trans g_,fin dX w' bW M' β' hs ae⟩
 |exit i=>exact ae.elim
 |bd x=>
  obtain⟨v,rfl,hd,M',β',f9,hs⟩:=Z;obtain⟨H1,af,sT⟩:=ae;unfold Cd at af;split at af
  case h_2=>cases af
  rename_i cF yh;rw [Bool.cond_eq_ite]at af;split at af
  case isFalse=>cases af
  rename_i hc;cases af;obtain⟨yj,ma⟩:=hs.leave (own:=none) yh hc ey (.v v x f9) rfl (by simp)
  exact⟨hd.trans g_,.bd x,mR H1,v,M',yj,sT,rfl,ma.era⟩
end
def j_:List Prop→Prop
 |[]=>True
 |p::l=>p∧j_ l
def j_.mem:∀{l:List Prop},j_ l→∀q,q∈l→q
 |[],_,q,h=>by cases h
 |p::l,hp,q,h=>by
  rcases List.mem_cons.1 h with rfl|h
  ·exact hp.1
  ·exact j_.mem hp.2 q h
section
variable {P:Program} {N E:Nat} {st:aI} {tt:dw}
def a'.cut{x y:Code}{Q:cm→aI→Prop}(J:aI→Prop)(Z:a' P N E x (cm.then J Q) st)(ae:∀bW,J bW→a' P N E y Q bW):a' P N E (.seq x y) Q st:=
 a'.seq (Z.mono λfs bW h=>by cases fs<;>first|exact ae bW h|exact h)
def cm.nA{next:aI→Prop}{Q:cm→aI→Prop}(h:next st):cm.then next Q .normal st:=h
def cm.Q7{next:aI→Prop}{Q:cm→aI→Prop}{x:V}(h:Q (.bd x) st):cm.then next Q (.bd x) st:=h
def cm.abb{Q:cm→aI→Prop}{i:Nat}(h:Q .normal st):cm.inBlock i Q (.exit i) st:=by simpa [cm.inBlock]using h
def cm.abc{Q:cm→aI→Prop}{i j:Nat}(ea:Nat.beq j i=false)(h:Q (.exit j) st):cm.inBlock i Q (.exit j) st:=by
 have:j≠i:=by rintro rfl;simp at ea
 simpa [cm.inBlock,this]using h
def abd {f : FuncId} {fn : Func} {c : Code} {args : List D} {ed : List (Nat × TypeId)} {H cF : List (List a1)} {out : Out} (cu : fb P tt = true) (ba : P.funcs[f]? = some fn) (hb : fn.body = some c) (i7 : decide (fn.name = "runtime.NumGoroutine") = false)
 (eJ:Nat.ble args.length fn.ntmps=true) (h:a' P fn.ntmps H.length c (rh tt H.length fn.results.toList λo bM=>o=out∧bM=cF) {env:=gU args ed,H:=cK 0 H,aW:=H.length}):gk P f args ed H out cF:=
 ph.of_wp cu ba hb i7 eJ h
def abe{rs:List ResultVar}{out:Out}{cF:List (List a1)}(h:leave tt E rs st=some (out,cF)):rh tt E rs (λo bM=>o=out∧bM=cF) .ret st:=⟨out,cF,h,rfl,rfl⟩
def Ij{rs:List ResultVar}{out:Out}{cF:List (List a1)}(h:leave tt E rs st=some (out,cF)):rh tt E rs (λo bM=>o=out∧bM=cF) .normal st:=⟨out,cF,h,rfl,rfl⟩
def abf{rs:List ResultVar}{x:V}{cF:List (List a1)}(h:(Cd E st.H).map mR=some cF):rh tt E rs (λo bM=>o = .bd x∧bM=cF) (.bd x) st:=by
 rw [Option.map_eq_some_iff]at h;obtain⟨bM,Z,ae⟩:=h;exact⟨bM,Z,rfl,ae⟩
end
def av{α:Type}(b:Bool)(x:Option α):Option α:=bif b then x else none
def qo{α:Type}{b:Bool}{x:Option α}{r:α}(h:av b x=some r):b=true∧x=some r:=by
 cases b
 ·cases h
 ·exact⟨rfl,h⟩
def bind_some{α β:Type}{x:Option α}{f:α→Option β}{r:β}(h:Option.bind x f=some r):∃a,x=some a∧f a=some r:=Option.bind_eq_some_iff.1 h
def cV{α:Type}{b:Bool}{x y z:α}(hb:b=true)(h:(bif b then x else y)=z):x=z:=by subst hb;exact h
def gL{c x:Bool}(h:(!c||x)=true)(hc:c=true):x=true:=by subst hc;simpa using h
def eE{c x:Bool}(h:(c||x)=true)(hc:c=false):x=true:=by subst hc;simpa using h
def ai{α:Type}[Inhabited α](k:Nat)(e:α→V)(l:List α):V:=.bD k l.length λi=>e (l.getD i default)
def hh(x:V):gC x x:=λ_ _ h=>h
def po{k n:Nat}{g eR:Nat→V}(h:∀i,i<n→g i=eR i):gC (.bD k n g) (.bD k n eR):=by
 intro M v ay;cases ay with
 |k5=>exact .k5 _ _
 |n2=>exact .n2 _ _ _
 |bD b off k n cap g val hc hk cM Z ak=>
  exact .bD b off k n cap eR val hc (λi hi=>by rw [←h i hi];exact hk i hi) cM Z (λi j c hi la=>ak i j c hi (by rw [h i hi];exact la))
def abg{α:Type}[Inhabited α]{k:Nat}{e:α→V}{xs:List V}{l:List α}(h:xs=l.map e)(n:Nat)(hn:n=l.length):gC (.bD k n λi=>xs.getD i .en) (ai k e l):=by
 subst h;subst hn;refine po λi hi=>?_
 simp [List.getD,List.getElem?_eq_getElem hi]
def h'{α:Type}[Inhabited α]{k:Nat}{e:α→V}(l h8:List α):gC (.bD k (l.length+h8.length) λi=>bif Nat.blt i l.length then e (l.getD i default)else e (h8.getD (i-l.length) default)) (ai k e (l++h8)):=by
 rw [ai,List.length_append];refine po λi hi=>?_
 by_cases h:i<l.length
 ·have hb:Nat.blt i l.length=true:=by simpa using h
  simp [hb,List.getD,List.getElem?_append_left h]
 ·have hb:Nat.blt i l.length=false:=by rw [Bool.eq_false_iff];simpa using h
  simp [hb,List.getD,List.getElem?_append_right (Nat.le_of_not_lt h)]
def Q8(l:List Int)(s:al5):gC (.bD 1 (l.length+s.length) λi=>bif Nat.blt i l.length then .int .u8 (l.getD i default)else .int .u8 (s.getD (i-l.length) 0).toNat) (ai 1 (λx=>.int .u8 x) (l++s.map λb=>(b.toNat:Int))):=by
 have af:(l++s.map λb=>(b.toNat:Int)).length=l.length+s.length:=by simp
 rw [ai,af];refine po λi hi=>?_
 by_cases h:i<l.length
 ·have hb:Nat.blt i l.length=true:=by simpa using h
  simp [hb,List.getD,List.getElem?_append_left h]
 ·have hb:Nat.blt i l.length=false:=by rw [Bool.eq_false_iff];simpa using h
  have ae:i-l.length<s.length:=by omega
  simp [hb,List.getD,List.getElem?_append_right (Nat.le_of_not_lt h),ae]
def Q9{α:Type}[Inhabited α]{k:Nat}{e:α→V}(l:List α)(b:Int)(h:0≤b∧b≤l.length):gC (.bD k b.toNat λi=>e (l.getD i default)) (ai k e (l.take b.toNat)):=by
 have:(l.take b.toNat).length=b.toNat:=by simp;omega
 rw [ai,this];exact po λi hi=>by simp [List.getD,hi]
end Go.Ab

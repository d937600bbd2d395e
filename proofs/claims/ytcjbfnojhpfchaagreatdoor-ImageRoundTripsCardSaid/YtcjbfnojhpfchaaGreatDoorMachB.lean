/- The abstract machine: a step of code over plain data, proved against the model. -/
import Derived.Laws.Build
import Derived.Laws.IdiomStrings
import Derived.Test.YtcjbfnojhpfchaaGreatDoorMachA
set_option linter.all false
namespace Go.Ab
def rc:Nat→List D→List (Nat×TypeId)→List aP
 |_,[],_=>[]
 |i,d::l,dU=>{d,own:=look dU i}::rc (i+1) l dU
def hy(args:List D)(dU:List (Nat×TypeId)):List (Nat×aP):=cB 0 (rc 0 args dU)
def Af:∀(l:List D) (k i:Nat) (dU:List (Nat×TypeId)),(rc k l dU)[i]? = (l[i]?).map λd=>({d,own:=look dU (k+i)}:aP)
 |[],k,i,dU=>by simp [rc]
 |d::l,k,i,dU=>by
  cases i with
  |zero=>simp [rc]
  |succ i=>
   simp only [rc,List.getElem?_cons_succ,Af l (k+1) i dU];rw [show k+1+i=k+(i+1)by omega]
def hZ:Out→List (Nat×aP)
 |.ret d own=>[(0,{d,own})]
 |.a8 x=>[(0,{d:=.v x})]
def si:Out→Value→Ending
 |.ret _ _,v=>.returned v
 |.a8 _,v=>.panicked [{v,recovered:=false}]
def pX(P:Program)(f:FuncId)(args:List D)(dU:List (Nat×TypeId))(H:List (List aP))(R:Out→List (List aP)→Prop):Prop:=
 (∃ fd, P.funcs[f]? = some fd ∧ fd.body.isSome = true ∧ fd.name ≠ "runtime.NumGoroutine") ∧
 ∀(K:Ctx) (w:World) (vs:List Value) (M:Mem) (β:Nat→Option Nat),vs.length=args.length→
  bv P K M β {env:=hy args dU,H:=cB 0 H,aL:=H.length} ⟨vs⟩ w→(∀r b,β r=some b→K.kH r=some b)→
  Calls P f ⟨vs⟩ w λe w'=>∃o bA v M' β',R o bA∧e=si o v∧bv P K M' β' {env:=hZ o,H:=cB 0 bA,aL:=H.length} #[v] w'
def pX.mono{P:Program}{f:FuncId}{args:List D}{dU:List (Nat×TypeId)}{H:List (List aP)}{R mD:Out→List (List aP)→Prop}(h:pX P f args dU H R)(ah:∀o bA,R o bA→mD o bA):pX P f args dU H mD:=
 ⟨h.1,λK w vs M β ab hs hb=>(h.2 K w vs M β ab hs hb).mono λ_ _ ⟨o,bA,v,M',β',Z,aa,ai⟩=>⟨o,bA,v,M',β',ah _ _ Z,aa,ai⟩⟩
def gw(P:Program)(f:FuncId)(args:List D)(dU:List (Nat×TypeId))(H:List (List aP))(o:Out)(ct:List (List aP)):Prop:=pX P f args dU H λo' bA=>o'=o∧bA=ct
def je(P:Program):gf:={call:=gw P,eq:=JK P}
def RB{α:Type}:∀(l:List α) (n i:Nat),look (cB n l) i=if n≤i then l[i-n]? else none
 |[],n,i=>by simp [cB,look]
 |x::l,n,i=>by
  simp only [cB,dB,RB l (n+1) i];by_cases Z:n=i
  ·subst Z;simp
  ·rw [if_neg Z];by_cases aa:n≤i
   ·rw [if_pos (by omega),if_pos aa]
    obtain⟨j,rfl⟩:∃j,i=n+1+j:=⟨i-(n+1),by omega⟩
    rw [show n+1+j-(n+1)=j by omega,show n+1+j-n=j+1 by omega]
    simp
   ·rw [if_neg (by omega),if_neg aa]
def mE{α:Type}(l:List α)(i:Nat):look (cB 0 l) i=l[i]? := by simp [RB]
def DU:∀{ρ:List Nat} {r j:Nat},idx ρ r=some j→ρ[j]? = some r
 |[],_,_,h=>by simp [idx]at h
 |x::l,r,j,h=>by
  simp only [idx]at h;rw [Bool.cond_eq_ite]at h;split at h
  ·rename_i hb;cases h;simp at hb;simp [hb]
  ·simp only [Option.map_eq_some_iff]at h;obtain⟨k,hk,rfl⟩:=h;simpa using DU hk
def DV:∀{l:List Nat},my l=true→∀(i j:Nat) r,l[i]? = some r→l[j]? = some r→i=j
 |[],_,i,_,_,h,_=>by simp at h
 |x::l,h,i,j,r,hi,hj=>by
  simp only [my,Bool.and_eq_true,Bool.not_eq_true',List.any_eq_false]at h;have hx:∀k,l[k]? = some x→False:=λk hk=>by have:=h.1 x (List.mem_of_getElem? hk);simp at this
  cases i<;>cases j
  ·rfl
  ·simp at hi hj;subst hi;exact(hx _ hj).elim
  ·simp at hi hj;subst hj;exact(hx _ hi).elim
  ·simp at hi hj;rw [DV h.2 _ _ r hi hj]
def ud{H:List (Nat×List aP)}:∀{ρ:List Nat} {bs:List (List aP)},boxes H ρ=some bs→bs.length=ρ.length∧∀(j r:Nat),ρ[j]? = some r→look H r=bs[j]? ∧ (bs[j]?).isSome=true
 |[],bs,h=>by simp [boxes]at h;subst h;simp
 |x::ρ,bs,h=>by
  simp only [boxes]at h;split at h
  case h_2=>cases h
  rename_i b o1 hb kj;cases h;obtain⟨Z,aa⟩:=ud kj;refine⟨by simp [Z],λj r hj=>?_⟩
  cases j with
  |zero=>simp at hj;subst hj;simp [hb]
  |succ j=>simp at hj;simpa using aa j r hj
def wR{f:Nat→Option Nat}:∀{b bp:List aP},mx f b=some bp→bp.length=b.length∧∀(i:Nat) a',bp[i]? = some a'→∃e,b[i]? = some e∧d_ f e.d=some a'.d∧a'.own=e.own
 |[],bp,h=>by simp [mx]at h;subst h;simp
 |e::l,bp,h=>by
  simp only [mx]at h;split at h
  case h_2=>cases h
  rename_i e1 gZ he ab;cases h;obtain⟨Z,aa⟩:=wR ab;refine⟨by simp [Z],λi a' hi=>?_⟩
  cases i with
  |zero=>
   simp at hi;subst hi
   simp only [Dy,Option.map_eq_some_iff]at he;obtain⟨d,hd,rfl⟩:=he;exact⟨e,by simp,hd,rfl⟩
  |succ i=>simp at hi;simpa using aa i a' hi
def Z9{f:Nat→Option Nat}{d:D}{r off:Nat}{u:TypeId}(h:d_ f d=some (.ca r off u)):∃dk,d = .ca dk off u:=by
 cases d with
 |ca dk al7 nt=>
  simp only [d_,Option.map_eq_some_iff]at h;obtain⟨s,_,aa⟩:=h;cases aa;exact⟨dk,rfl⟩
 |v x=>simp [d_]at h
 |eK x=>simp [d_]at h
 |full k n get=>simp [d_]at h
 |ptr dk o=>simp [d_]at h
 |fn g c=>simp [d_]at h
 |agg c=>simp [d_]at h
 |cm c=>simp [d_]at h
def kI.d_{P:Program}{T:TypeId}{n:Nat}{f:Nat→Option Nat}{b bp:List aP}(h:kI P T n b)(ah:mx f b=some bp):kI P T n bp:=λe he r off u hd=>by
 obtain⟨i,hi,rfl⟩:=List.getElem_of_mem he;obtain⟨bN,Z,aa,_⟩:=(wR ah).2 i _ (List.getElem?_eq_getElem hi);rw [hd]at aa;obtain⟨dk,ai⟩:=Z9 aa;exact h bN (List.mem_of_getElem? Z) dk off u ai
def wS{f:Nat→Option Nat}:∀{bs o1:List (List aP)},ju f bs=some o1→o1.length=bs.length∧∀(j:Nat) bp,o1[j]? = some bp→∃b,bs[j]? = some b∧mx f b=some bp
 |[],o1,h=>by simp [ju]at h;subst h;simp
 |b::l,o1,h=>by
  simp only [ju]at h;split at h
  case h_2=>cases h
  rename_i c7 gZ hb ab;cases h;obtain⟨Z,aa⟩:=wS ab;refine⟨by simp [Z],λj bp hj=>?_⟩
  cases j with
  |zero=>simp at hj;subst hj;exact⟨b,by simp,hb⟩
  |succ j=>simp at hj;simpa using aa j bp hj
def Ke{H:List (Nat×List aP)}:∀{ρ:List Nat} {bs:List (List aP)},bs.length=ρ.length→my ρ=true→∀r,
 (∀(j:Nat),ρ[j]? = some r→look (kG ρ bs++H) r=bs[j]?)∧((∀(j:Nat),ρ[j]? ≠ some r)→look (kG ρ bs++H) r=look H r)
 |[],bs,_,_,r=>by simp [kG]
 |x::ρ,[],h,_,_=>by simp at h
 |x::ρ,b::bs,h,hn,r=>by
  have DH:my ρ=true:=by simp [my]at hn;exact hn.2
  obtain⟨Z,aa⟩:=Ke (H:=H) (ρ:=ρ) (bs:=bs) (by simpa using h) DH r
  simp only [kG,List.cons_append,dB];refine⟨λj hj=>?_,λhj=>?_⟩
  ·by_cases hx:x=r
   ·have:j=0:=DV hn j 0 r hj (by simp [hx])
    subst this;simp [hx]
   ·cases j with
    |zero=>simp at hj;exact(hx hj).elim
    |succ j=>simp at hj;rw [if_neg hx];simpa using Z j hj
  ·have hx:x≠r:=λe=>hj 0 (by simp [e])
   rw [if_neg hx];exact aa λj=>by simpa using hj (j+1)
section
variable {P:Program} {K:Ctx} {N:Nat} {M:Mem} {β:Nat→Option Nat} {st:aD} {g:c6} {tmps:Array Value} {w:World} {o:Oper} {f:kE} {p:Path} {tt:dq} {bX:gf} {ops:List Oper}
def Ag(ρ os:List Nat):Loc→Prop
 |.cell r _=>r∈ρ
 |.slot t=>t∈os
def pY(st:aD)(tmps:Array Value)(w:World)(β:Nat→Option Nat)(ρ os:List Nat)(b:Nat):Prop:=
 (∃r,r∈ρ∧β r=some b)∨∃l e T,Ag ρ os l∧st.at l=some e∧e.own=some T∧hF (cb tmps w β l)=some b
open Classical in
noncomputable def jO(M:Mem)(β:Nat→Option Nat)(st:aD)(tmps:Array Value)(w:World)(ρ os:List Nat):Ctx:=
 {zQ:=M,F:=λb=>if pY st tmps w β ρ os b then none else w.heap[b]?,kH:=λj=>(ρ[j]?).bind β,hE:=(w.os,w.output)}
structure Handed(st:aD)(tmps:Array Value)(vs:List Value)(hd:List (Nat×Option Nat×TypeId)):Prop where
 some:∀i t T,(i,Option.some t,T)∈hd→∃e,st.at (.slot t)=Option.some e∧e.own=Option.some T∧vs[i]? = Option.some (tmps.getD t undef)
 none:∀i T,(i,Option.none,T)∈hd→vs[i]? = Option.some (.slice Option.none 0 0)
 inj:∀i j t T T',(i,Option.some t,T)∈hd→(j,Option.some t,T')∈hd→i=j
def sj(hd:List (Nat×Option Nat×TypeId)):List (Nat×TypeId):=hd.map λx=>(x.1,x.2.2)
def pZ(hd:List (Nat×Option Nat×TypeId)):List Nat:=hd.filterMap λx=>x.2.1
def Z'{hd:List (Nat×Option Nat×TypeId)}{i:Nat}{T:TypeId}(h:look (sj hd) i=some T):∃o,(i,o,T)∈hd:=by
 have:=q5 h
 simp only [sj,List.mem_map]at this;obtain⟨⟨a,o,T'⟩,Z,aa⟩:=this;cases aa;exact⟨o,Z⟩
def Z_{hd:List (Nat×Option Nat×TypeId)}{i t:Nat}{T:TypeId}(h:(i,some t,T)∈hd):t∈pZ hd:=by
 simp only [pZ,List.mem_filterMap];exact⟨_,h,rfl⟩
def DW(ρ:List Nat)(hd:List (Nat×Option Nat×TypeId))(T:TypeId):Loc→Loc→Prop
 |.cell j i,.cell r l_=>i=l_∧ρ[j]? = some r
 |.slot s,.slot t=>(s,some t,T)∈hd
 |_,_=>False
def RC(h:bv P K M β st tmps w){ρ:List Nat}{bs H1:List (List aP)}(hn:my ρ=true)(kj:boxes st.H ρ=some bs)(lK:ju (idx ρ) bs=some H1){ds ja:List D}{vs:List Value}
 (hlen:vs.length=ds.length) (an:∀(i:Nat) v d,vs[i]? = some v→ds[i]? = some d→ce M β v d) (ff:kF (idx ρ) ds=some ja) {hd:List (Nat×Option Nat×TypeId)} (ue:Handed st tmps vs hd):
 bv P (jO M β st tmps w ρ (pZ hd)) M (λj=>(ρ[j]?).bind β) {env:=hy ja (sj hd),H:=cB 0 H1,aL:=H1.length} ⟨vs⟩ w:=by
 obtain⟨cO,fc⟩:=ud kj;obtain⟨hY,ih⟩:=wS lK;obtain⟨al8,aaa⟩:=wD ff
 have RD:∀{v d di},ce M β v d→d_ (idx ρ) d=some di→ce M (λj=>(ρ[j]?).bind β) v di:=by
  intro v d di hd jJ;exact hd.d_ (λr s b hs hb=>by rw [DU hs];simpa using hb) jJ
 -- a cell of lJ Kf is a cell of ours
 have hO:∀j i a',({env:=hy ja (sj hd),H:=cB 0 H1,aL:=H1.length}:aD).at (.cell j i)=some a'→∃(r:Nat) (e:aP),ρ[j]? = some r∧st.at (.cell r i)=some e∧d_ (idx ρ) e.d=some a'.d∧a'.own=e.own∧
  cb ⟨vs⟩ w (λj=>(ρ[j]?).bind β) (.cell j i)=cb tmps w β (.cell r i):=by
  intro j i a' he;simp only [aD.at,mE]at he;cases hj:H1[j]? with
  |none=>simp [hj]at he
  |some bp=>
   simp only [hj,Option.bind_some]at he;obtain⟨b,hb,nu⟩:=ih j bp hj;have uf:j<ρ.length:=by have:=(List.getElem?_eq_some_iff.1 hb).1;omega
   have lh:ρ[j]? = some ρ[j]:=List.getElem?_eq_getElem uf;obtain⟨ab,_⟩:=fc j _ lh;obtain⟨_,Kg⟩:=wR nu;obtain⟨e,q_,Kh,Ki⟩:=Kg i a' he;exact⟨_,e,lh,by simp [aD.at,ab,hb,q_],Kh,Ki,by simp [cb,lh]⟩
 have RE:∀s a',({env:=hy ja (sj hd),H:=cB 0 H1,aL:=H1.length}:aD).at (.slot s)=some a'→a'.own=look (sj hd) s∧∃v d,vs[s]? = some v∧ds[s]? = some d∧d_ (idx ρ) d=some a'.d:=by
  intro s a' he;simp only [aD.at,hy,mE,Af,Option.map_eq_some_iff]at he;obtain⟨di,jJ,rfl⟩:=he;have hs:s<ja.length:=(List.getElem?_eq_some_iff.1 jJ).1;have hG:ds[s]? = some ds[s]:=List.getElem?_eq_getElem (by omega)
  obtain⟨d1,gg,aab⟩:=aaa s _ hG;rw [jJ]at gg;cases gg;exact⟨by simp,_,_,List.getElem?_eq_getElem (by omega),hG,aab⟩
 -- al9 'own' place of lJ Kf is one of ours
 have DX:∀co a' T,({env:=hy ja (sj hd),H:=cB 0 H1,aL:=H1.length}:aD).at co=some a'→a'.own=some T→
  cb ⟨vs⟩ w (λj=>(ρ[j]?).bind β) co = .slice none 0 0∨∃l e,DW ρ hd T co l∧Ag ρ (pZ hd) l∧st.at l=some e∧e.own=some T∧cb ⟨vs⟩ w (λj=>(ρ[j]?).bind β) co=cb tmps w β l:=by
  intro co a' T ab az;cases co with
  |slot s=>
   obtain⟨am,v,d,Z,aa,ai⟩:=RE s a' ab;rw [am]at az;obtain⟨o,hm⟩:=Z' az;have b6:cb (⟨vs⟩:Array Value) w (λj=>(ρ[j]?).bind β) (.slot s)=v:=by simp [cb,Z]
   cases o with
   |none=>
    have:=ue.none s T hm
    rw [Z]at this;cases this;exact .inl b6
   |some t=>
    obtain⟨e,ay,aJ,bE⟩:=ue.some s t T hm;rw [Z]at bE;cases bE;exact .inr ⟨.slot t,e,hm,Z_ hm,ay,aJ,b6⟩
  |cell j i=>
   obtain⟨r,e,lh,he,_,fZ,b6⟩:=hO j i a' ab;exact .inr ⟨.cell r i,e,⟨rfl,lh⟩,List.mem_of_getElem? lh,he,by rw [←fZ,az],b6⟩
 have aac:∀T T' gZ jy l,DW ρ hd T gZ l→DW ρ hd T' jy l→gZ=jy:=by
  intro T T' gZ jy l Z aa;cases gZ<;>cases jy<;>cases l<;>simp only [DW]at Z aa
  ·rw [ue.inj _ _ _ _ _ Z aa]
  ·obtain⟨rfl,ai⟩:=Z;obtain⟨rfl,ay⟩:=aa;rw [DV hn _ _ _ ai ay]
 have jP:∀j cs',look (cB 0 H1) j=some cs'→∃(r:Nat) (cs:List aP),ρ[j]? = some r∧look st.H r=some cs∧cs.length=cs'.length∧∃f,mx f cs=some cs':=by
  intro j cs' hj;rw [mE]at hj;obtain⟨b,hb,nu⟩:=ih j cs' hj;have uf:j<ρ.length:=by have:=(List.getElem?_eq_some_iff.1 hb).1;omega
  have lh:ρ[j]? = some ρ[j]:=List.getElem?_eq_getElem uf;obtain⟨ab,_⟩:=fc j _ lh;exact⟨_,b,lh,by rw [ab,hb],(wR nu).1.symm,_,nu⟩
 constructor
 ·intro l a' ab;cases l with
  |slot s=>
   obtain⟨_,v,d,Z,aa,ai⟩:=RE s a' ab;have:=RD (an s v d Z aa) ai
   simpa [cb,Z]using this
  |cell j i=>
   obtain⟨r,e,lh,he,nu,_,b6⟩:=hO j i a' ab;rw [b6];exact RD (h.e9 _ e he) nu
 ·intro co a' T ab az;rcases DX co a' T ab az with h0|⟨l,e,_,bf,he,dI,b6⟩
  ·rw [h0];exact .inl rfl
  ·rw [b6];rcases h.own _ e T he dI with h0|⟨b,n,cap,kf,T',Z,aa,ai,ay,aJ,bE,q9⟩
   ·exact .inl h0
   ·refine .inr ⟨b,n,cap,kf,T',Z,aa,ai,ay,aJ,?_,q9⟩;simp only [jO];rw [if_pos];exact .inr ⟨l,e,T,bf,he,dI,by rw [Z];rfl⟩
 ·intro gZ jy e1 e2 T T' b ab az dj dI hb bF;rcases DX gZ e1 T ab az with h0|⟨l,e,aC,bf,he,Kj,b6⟩
  ·rw [h0]at hb;cases hb
  rcases DX jy e2 T' dj dI with h0|⟨co,a',en,Ae,re,aad,pU⟩
  ·rw [h0]at bF;cases bF
  rw [b6]at hb;rw [pU]at bF;have:=h.uniq _ _ e a' T T' b he Kj re aad hb bF
  subst this;exact aac _ _ _ _ _ aC en
 ·intro co a' T b j cs' ab az hb hj;rcases DX co a' T ab az with h0|⟨l,e,aC,bf,he,Kj,b6⟩
  ·rw [h0]at hb;cases hb
  rw [b6]at hb;obtain⟨r2,cs,aae,dV,_⟩:=jP j cs' hj;have:=h.unbox _ e T b r2 cs he Kj hb dV
  simpa [aae]using this
 ·intro j cs' hj;obtain⟨r,cs,lh,dV,ab,f,aaf⟩:=jP j cs' hj;obtain⟨b,kf,T,Z,aa,ai,ay,aJ,bE⟩:=h.box r cs dV;refine⟨b,kf,T,by simp [lh,Z],aa,by omega,ay,?_,bE.1,bE.2.d_ aaf⟩
  simp only [jO];rw [if_pos];exact .inl ⟨r,List.mem_of_getElem? lh,Z⟩
 ·intro j ug b c lG hj DY hb bF;obtain⟨r,cs,lh,dV,_⟩:=jP j c hj;obtain⟨dd,cs',RF,uh,_⟩:=jP ug lG DY;have:r=dd:=h.inj r dd b cs cs' dV uh (by simpa [lh]using hb) (by simpa [RF]using bF)
  subst this;exact DV hn j ug r lh RF
 ·intro j b hb;simp only [Option.bind_eq_some_iff]at hb;obtain⟨r,ah,_⟩:=hb;have:=(List.getElem?_eq_some_iff.1 ah).1
  show j<H1.length
  omega
 ·exact h.mem
 ·exact Mem.le_refl _
 ·intro b aO hb;simp only [jO]at hb;split at hb
  ·cases hb
  ·exact⟨hb,λ_=>rfl⟩
 ·intro j b hb;exact hb
 ·refine h.iR.mono λb aO dw=>?_
  have Kk:¬ pY st tmps w β ρ (pZ hd) b:=by
   rintro (⟨r,ah,lL⟩|⟨l,e,T,ah,he,az,jK⟩)
   ·obtain⟨j,hj⟩:=List.getElem?_of_mem ah;obtain⟨ab,ui⟩:=fc j r hj;obtain⟨cs,dV⟩:=Option.isSome_iff_exists.1 ui;obtain⟨jN,_,_,ai,_,_,_,ay,_⟩:=h.box r cs (by rw [ab,dV])
    rw [lL]at ai;cases ai;rw [ay]at dw;cases dw
   ·rw [(h.own _ e T he az).free jK]at dw;cases dw
  simp only [jO];rw [if_neg Kk];exact(h.frame b aO dw).1
 ·rfl
def aag{ρ os:List Nat}{st:aD}{H:List (Nat×List aP)}{n s:Nat}{e:aP}(ab:({env:=gM os st.env,H:=H,aL:=n}:aD).at (.slot s)=some e):
 ∃bN,st.at (.slot s)=some bN∧bN.d=e.d∧(∀T,e.own=some T→bN.own=some T)∧∀T,e.own=some T→¬ Ag ρ os (.slot s):=by
 simp only [aD.at,np]at ab;by_cases hs:s∈os
 ·rw [if_pos hs,Option.map_eq_some_iff]at ab;obtain⟨bN,Z,aa⟩:=ab;subst aa;exact⟨bN,Z,rfl,(λT az=>by cases az),(λT az=>by cases az)⟩
 ·rw [if_neg hs]at ab;exact⟨e,ab,rfl,(λT az=>az),(λT _=>hs)⟩
def Kl(h:bv P K M β st tmps w){ρ:List Nat}{bs ct ic:List (List aP)}(hn:my ρ=true)(kj:boxes st.H ρ=some bs)(uj:ju (λj=>ρ[j]?) ct=some ic)(eu:ct.length=ρ.length)
 {os:List Nat} {out:Out} {v:Value} {w':World} {M':Mem} {β':Nat→Option Nat} (iI:bv P (jO M β st tmps w ρ os) M' β' {env:=hZ out,H:=cB 0 ct,aL:=ρ.length} #[v] w'):
 M.le M'∧bv P K M' β {env:=gM os st.env,H:=kG ρ ic++st.H,aL:=st.aL} tmps w'∧
 (∀d own,out = .ret d own→∀di,d_ (λj=>ρ[j]?) d=some di→ce M' β v di∧∀T l0,own=some T→mz P K M' β {env:=gM os st.env,H:=kG ρ ic++st.H,aL:=st.aL} tmps w' l0 v T)∧
 (∀x,out = .a8 x→cU M' v x):=by
 obtain⟨cO,fc⟩:=ud kj;obtain⟨hY,ih⟩:=wS uj;have cI:M.le M':=iI.m0;have gN:∀(j r b:Nat),ρ[j]? = some r→β r=some b→β' j=some b:=λj r b hj hb=>iI.ie j b (by simp [jO,hj,hb])
 have sk:∀(j r:Nat),ρ[j]? = some r→∃cs b,look st.H r=some cs∧β r=some b∧β' j=some b:=by
  intro j r hj;obtain⟨Z,aa⟩:=fc j r hj;obtain⟨cs,dV⟩:=Option.isSome_iff_exists.1 aa;rw [dV]at Z;obtain⟨b,_,_,hb,_⟩:=h.box r cs Z;exact⟨cs,b,Z,hb,gN j r b hj hb⟩
 have RG:∀{v d di},ce M' β' v d→d_ (λj=>ρ[j]?) d=some di→ce M' β v di:=by
  intro v d di hd jJ;refine hd.d_ (λj r b hj hb=>?_) jJ
  obtain⟨_,c7,_,Z,aa⟩:=sk j r hj;rw [hb]at aa;cases aa;exact Z
 -- Km is not pY is kept
 have Ah:∀b,¬ pY st tmps w β ρ os b→b<w.heap.size→w'.heap[b]? = w.heap[b]? ∧ ∀o,M' b o=M b o:=by
  intro b hb cK
  have dw:(jO M β st tmps w ρ os).F b=some w.heap[b]:=by
   simp only [jO];rw [if_neg hb];exact Array.getElem?_eq_getElem cK
  obtain⟨Z,aa⟩:=iI.frame b _ dw;exact⟨by rw [Z,Array.getElem?_eq_getElem cK],aa⟩
 have RH:∀b,(jO M β st tmps w ρ os).F b=none→K.F b=none:=by
  intro b hb;simp only [jO]at hb;split at hb
  ·rename_i hp;rcases hp with⟨r,ah,lL⟩|⟨l,e,T,ah,he,az,jK⟩
   ·obtain⟨j,hj⟩:=List.getElem?_of_mem ah;obtain⟨cs,c7,dV,cO,_⟩:=sk j r hj;obtain⟨jN,_,_,Z,_,_,_,aa,_⟩:=h.box r cs dV;rw [lL]at Z;cases Z;exact aa
   ·exact(h.own _ e T he az).free jK
  ·cases dw:K.F b with
   |none=>rfl
   |some aO=>have:=(h.frame b aO dw).1;rw [hb]at this;cases this
 have hold:∀b,(jO M β st tmps w ρ os).F b=none→b<w.heap.size→pY st tmps w β ρ os b:=by
  intro b hb cK;simp only [jO]at hb;split at hb
  ·assumption
  ·rw [Array.getElem?_eq_getElem cK]at hb;cases hb
 -- al' own boxes Z4 al_ not handed on
 have DZ:∀r cs b,look st.H r=some cs→(∀(j:Nat),ρ[j]? ≠ some r)→β r=some b→¬ pY st tmps w β ρ os b:=by
  intro r cs b ah ig hb hp;rcases hp with⟨dd,fM,bF⟩|⟨l,e,T,fM,he,az,jK⟩
  ·obtain⟨j,hj⟩:=List.getElem?_of_mem fM;obtain⟨cs',_,uh,_⟩:=sk j dd hj;have:=h.inj r dd b cs cs' ah uh hb bF
   subst this;exact ig j hj
  ·exact h.unbox _ e T b r cs he az jK ah hb
 have Ai:∀r,(∃(j:Nat),ρ[j]? = some r∧look (kG ρ ic++st.H) r=ic[j]?)∨((∀(j:Nat),ρ[j]? ≠ some r)∧look (kG ρ ic++st.H) r=look st.H r):=by
  intro r;obtain⟨Z,aa⟩:=Ke (H:=st.H) (ρ:=ρ) (bs:=ic) (by omega) hn r
  by_cases hj:∃(j:Nat),ρ[j]? = some r
  ·obtain⟨j,hj⟩:=hj;exact .inl ⟨j,hj,Z j hj⟩
  ·have:∀(j:Nat),ρ[j]? ≠ some r:=λj bf=>hj ⟨j,bf⟩
   exact .inr ⟨this,aa this⟩
 -- a place of lJ new state: lJ Kf, or kept
 have f0:∀l e,({env:=gM os st.env,H:=kG ρ ic++st.H,aL:=st.aL}:aD).at l=some e→
  (∃(j r i:Nat) (a':aP),l = .cell r i∧ρ[j]? = some r∧({env:=hZ out,H:=cB 0 ct,aL:=ρ.length}:aD).at (.cell j i)=some a'∧d_ (λj=>ρ[j]?) a'.d=some e.d∧e.own=a'.own∧cb tmps w' β l=cb #[v] w' β' (.cell j i))∨
  (∃bN,st.at l=some bN∧bN.d=e.d∧(∀T,e.own=some T→bN.own=some T)∧cb tmps w' β l=cb tmps w β l∧(∀T,e.own=some T→¬ Ag ρ os l)):=by
  intro l e ab;cases l with
  |slot s=>
   obtain⟨bN,Z,aa,ai,ay⟩:=aag ab;exact .inr ⟨bN,Z,aa,ai,rfl,ay⟩
  |cell r i=>
   rcases Ai r with⟨j,hj,li⟩|⟨ig,li⟩
   ·simp only [aD.at,li]at ab;cases bf:ic[j]? with
    |none=>simp [bf]at ab
    |some bp=>
     simp only [bf,Option.bind_some]at ab;obtain⟨b,hb,nu⟩:=ih j bp bf;obtain⟨_,Kg⟩:=wR nu;obtain⟨a',q_,Kh,Ki⟩:=Kg i e ab;obtain⟨_,c7,_,cO,tQ⟩:=sk j r hj;exact .inl ⟨j,r,i,a',rfl,hj,by simp [aD.at,mE,hb,q_],Kh,Ki,by simp [cb,cO,tQ]⟩
   ·simp only [aD.at,li]at ab;refine .inr ⟨e,ab,rfl,λ_ h=>h,?_,λT _ bf=>by obtain⟨j,hj⟩:=List.getElem?_of_mem bf;exact ig j hj⟩
    cases ah:look st.H r with
    |none=>simp [ah]at ab
    |some cs=>
     obtain⟨b,_,_,hb,bf,_⟩:=h.box r cs ah;simp only [cb,hb];rw [q4 (w:=w) (Ah b (DZ r cs b ah ig hb) (lt_of_heap bf)).1]
 -- a kept 'own' ama block is not pY
 have Aj:∀l e T b,st.at l=some e→e.own=some T→¬ Ag ρ os l→hF (cb tmps w β l)=some b→¬ pY st tmps w β ρ os b:=by
  intro l e T b ab az ig hb hp;rcases hp with⟨dd,fM,bF⟩|⟨co,a',T',fM,he,dI,jK⟩
  ·obtain⟨j,hj⟩:=List.getElem?_of_mem fM;obtain⟨cs',_,uh,_⟩:=sk j dd hj;exact h.unbox l e T b dd cs' ab az hb uh bF
  ·have:=h.uniq l _ e a' T T' b ab az he dI hb jK
   subst this;exact ig fM
 -- lJ Kf 'own' blocks amb ours
 have Ak:∀T u b,oU P (jO M β st tmps w ρ os).F M' w' T u→hF u=some b→∀bp,bp=b→bp<w.heap.size→pY st tmps w β ρ os bp:=by
  intro T u b am hb bp wG cK;subst wG;exact hold bp (am.free hb) cK
 have D0:∀r cs,look (kG ρ ic++st.H) r=some cs→∃kP,look st.H r=some kP:=by
  intro r cs ah;rcases Ai r with⟨j,hj,_⟩|⟨_,li⟩
  ·obtain⟨kP,_,Z,_⟩:=sk j r hj;exact⟨kP,Z⟩
  ·exact⟨cs,by rw [←li];exact ah⟩
 have cw:bv P K M' β {env:=gM os st.env,H:=kG ρ ic++st.H,aL:=st.aL} tmps w':=by
  constructor
  ·intro l e ab;rcases f0 l e ab with⟨j,r,i,a',rfl,hj,re,nu,_,b6⟩|⟨bN,am,Al,kg,b6,_⟩
   ·rw [b6];exact RG (iI.e9 _ a' re) nu
   ·rw [b6,←Al];exact(h.e9 l bN am).mono cI
  ·intro l e T ab az;rcases f0 l e ab with⟨j,r,i,a',rfl,hj,re,_,fZ,b6⟩|⟨bN,am,Al,kg,b6,ig⟩
   ·rw [b6];rw [fZ]at az;rcases iI.own _ a' T re az with h0|⟨b,n,cap,kf,T',Z,aa,ai,ay,aJ,bE,q9⟩
    ·exact .inl h0
    ·exact .inr ⟨b,n,cap,kf,T',Z,aa,ai,ay,aJ,RH b bE,q9⟩
   ·rw [b6];have ig:=ig T az;have az:=kg T az;refine(h.own l bN T am az).congr (λb hb=>?_) (λb o' hb=>?_)
    ·exact(Ah b (Aj l bN T b am az ig hb) ((h.own l bN T am az).lt hb)).1
    ·exact(Ah b (Aj l bN T b am az ig hb) ((h.own l bN T am az).lt hb)).2 o'
  ·intro l co e1 e2 T T' b ab az dj dI hb bF
   rcases f0 l e1 ab with⟨j,r,i,x,rfl,hj,hx,_,fZ,b6⟩|⟨bN,am,Al,kg,b6,ig⟩ <;>
    rcases f0 co e2 dj with⟨ug,dd,l_,fN,rfl,DY,wT,_,RI,pU⟩|⟨wF,ke,amc,zT,pU,Kn⟩
   ·rw [b6]at hb;rw [pU]at bF;rw [fZ]at az;rw [RI]at dI;have:=iI.uniq _ _ x fN T T' b hx az wT dI hb bF
    cases this;rw [hj]at DY;cases DY;rfl
   ·rw [b6]at hb;rw [pU]at bF;rw [fZ]at az;have Kn:=Kn T' dI;have dI:=zT T' dI;exact(Aj co wF T' b ke dI Kn bF (Ak T _ b (iI.own _ x T hx az) hb b rfl ((h.own co wF T' ke dI).lt bF))).elim
   ·rw [b6]at hb;rw [pU]at bF;rw [RI]at dI;have ig:=ig T az;have az:=kg T az;exact(Aj l bN T b am az ig hb (Ak T' _ b (iI.own _ fN T' wT dI) bF b rfl ((h.own l bN T am az).lt hb))).elim
   ·rw [b6]at hb;rw [pU]at bF;exact h.uniq l co bN wF T T' b am (kg T az) ke (zT T' dI) hb bF
  ·intro l e T b r cs ab az hb ah lL;obtain⟨kP,lF⟩:=D0 r cs ah;rcases f0 l e ab with⟨j,r1,i,x,rfl,hj,hx,_,fZ,b6⟩|⟨bN,am,Al,kg,b6,ig⟩
   ·rw [b6]at hb;rw [fZ]at az;rcases Ai r with⟨j2,uk,li⟩|⟨Ko,_⟩
    ·have aa:∃c2,look (cB 0 ct) j2=some c2:=by
      rw [mE];exact⟨_,List.getElem?_eq_getElem (by have:=(List.getElem?_eq_some_iff.1 uk).1;omega)⟩
     obtain⟨c2,lM⟩:=aa;exact iI.unbox _ x T b j2 c2 hx az hb lM (gN j2 r b uk lL)
    ·obtain⟨c7,_,_,cO,bf,_⟩:=h.box r kP lF;rw [lL]at cO;cases cO;exact DZ r kP b lF Ko lL (Ak T _ b (iI.own _ x T hx az) hb b rfl (lt_of_heap bf))
   ·rw [b6]at hb;exact h.unbox l bN T b r kP am (kg T az) hb lF lL
  ·intro r cs ah;rcases Ai r with⟨j,hj,li⟩|⟨ig,li⟩
   ·rw [li]at ah;obtain⟨c2,lM,nu⟩:=ih j cs ah;obtain⟨kP,n7,aah,RJ,aai⟩:=sk j r hj;obtain⟨b,kf,T,Z,aa,ai,ay,aJ,bE⟩:=iI.box j c2 (by rw [mE];exact lM)
    rw [aai]at Z;cases Z;obtain⟨jN,_,_,cz,_,_,_,dh,_⟩:=h.box r kP aah;rw [RJ]at cz;cases cz;exact⟨n7,kf,T,RJ,aa,by rw [ai,(wR nu).1],ay,dh,bE.1,bE.2.d_ nu⟩
   ·rw [li]at ah;obtain⟨b,kf,T,Z,aa,ai,ay,aJ,bE⟩:=h.box r cs ah;have hk:=Ah b (DZ r cs b ah ig Z) (lt_of_heap aa);exact⟨b,kf,T,Z,hk.1.trans aa,ai,λo'=>(hk.2 o').trans (ay o'),aJ,bE⟩
  ·intro r dd b c lG ah fM hb bF;obtain⟨c0,lF⟩:=D0 r c ah;obtain⟨aaj,aak⟩:=D0 dd lG fM;exact h.inj r dd b c0 aaj lF aak hb bF
  ·exact h.lt
  ·exact iI.mem
  ·exact Mem.le_trans h.m0 cI
  ·intro b aO dw;obtain⟨Z,aa⟩:=h.frame b aO dw
   have Kk:¬ pY st tmps w β ρ os b:=by
    rintro (⟨r,ah,lL⟩|⟨l,e,T,ah,he,az,jK⟩)
    ·obtain⟨j,hj⟩:=List.getElem?_of_mem ah;obtain⟨cs,_,dV,_⟩:=sk j r hj;obtain⟨jN,_,_,ai,_,_,_,ay,_⟩:=h.box r cs dV;rw [lL]at ai;cases ai;rw [ay]at dw;cases dw
    ·rw [(h.own _ e T he az).free jK]at dw;cases dw
   have hk:=Ah b Kk (lt_of_heap Z);exact⟨hk.1.trans Z,λo'=>(hk.2 o').trans (aa o')⟩
  ·exact h.ie
  ·exact h.iR
  ·exact Eq.trans (show(w'.os,w'.output)=(w.os,w.output)from iI.hE) h.hE
 refine⟨cI,cw,λd own Kp di jJ=>?_,λx Kp=>?_⟩
 ·subst Kp;have iJ:=iI.e9 (.slot 0) {d,own} (by simp [aD.at,hZ,look])
  refine⟨RG (by simpa [cb]using iJ) jJ,λT l0 az=>?_⟩
  have am:=iI.own (.slot 0) {d,own} T (by simp [aD.at,hZ,look]) az
  simp only [cb]at am;have ke:oU P (jO M β st tmps w ρ os).F M' w' T v:=by simpa using am
  refine⟨?_,λl e T' b ab dI _ hb bF=>?_,λb r cs hb ah lL=>?_⟩
  ·rcases ke with h0|⟨b,n,cap,kf,T',Z,aa,ai,ay,aJ,bE,q9⟩
   ·exact .inl h0
   ·exact .inr ⟨b,n,cap,kf,T',Z,aa,ai,ay,aJ,RH b bE,q9⟩
  ·rcases f0 l e ab with⟨j,r,i,x,rfl,hj,hx,_,fZ,b6⟩|⟨bN,D1,Al,kg,b6,ig⟩
   ·rw [b6]at bF;rw [fZ]at dI;have:=iI.uniq (.slot 0) (.cell j i) {d,own} x T T' b (by simp [aD.at,hZ,look]) az hx dI (by simpa [cb]using hb) bF
    cases this
   ·rw [b6]at bF;have ig:=ig T' dI;have dI:=kg T' dI;exact Aj l bN T' b D1 dI ig bF (Ak T v b ke hb b rfl ((h.own l bN T' D1 dI).lt bF))
  ·obtain⟨kP,lF⟩:=D0 r cs ah;rcases Ai r with⟨j2,uk,li⟩|⟨Ko,_⟩
   ·have aa:∃c2,look (cB 0 ct) j2=some c2:=by
     rw [mE];exact⟨_,List.getElem?_eq_getElem (by have:=(List.getElem?_eq_some_iff.1 uk).1;omega)⟩
    obtain⟨c2,lM⟩:=aa;exact iI.unbox (.slot 0) {d,own} T b j2 c2 (by simp [aD.at,hZ,look]) az (by simpa [cb]using hb) lM (gN j2 r b uk lL)
   ·obtain⟨c7,_,_,cO,bf,_⟩:=h.box r kP lF;rw [lL]at cO;cases cO;exact DZ r kP b lF Ko lL (Ak T v b ke hb b rfl (lt_of_heap bf))
 ·subst Kp;have iJ:=iI.e9 (.slot 0) {d:=.v x} (by simp [aD.at,hZ,look])
  have:=nq iJ
  simpa [cb]using this
end
def RK{i:Int}{n:Nat}(h:a7 i n=true):0≤i∧i<n:=by simpa [a7]using h
def ul{i:Int}{n:Nat}(h:gC i n=true):0≤i∧i≤n:=by simpa [gC]using h
def aal{i:Int}{n:Nat}(h:0≤i∧i≤n):gC i n=true:=by simpa [gC]using h
def RL{a b:Int}{n:Nat}(h:lB a b n=true):0≤a∧a≤b∧b≤n:=by simpa [lB]using h
def RM{a:Int}(h:wz a=true):a≠0:=by simpa [wz]using h
def Kq{n b:Nat}(h:room n b=true):n*b≤140737488355328:=by simpa [room]using h
def aam{n:Nat}(h:eU n=true):n≤9223372036854775807:=by simpa [eU]using h
section
variable {P:Program} {K:Ctx} {N:Nat} {M:Mem} {β:Nat→Option Nat} {st:aD} {g:c6} {tmps:Array Value} {w:World} {o:Oper} {f:kE} {p:Path} {tt:dq} {bX:gf} {ops:List Oper}
def RN:∀(l:List (Nat×aP)) (s:Nat),look (oS l) s=(look l s).map λe=>({d:=e.d}:aP)
 |[],s=>rfl
 |(t,e)::l,s=>by
  simp only [oS,dB];by_cases h:t=s
  ·simp [h]
  ·simp only [h,if_false];exact RN l s
def bv.oS{st:aD}(h:bv P K M β st tmps w){env:List (Nat×aP)}(he:∀s e,look env s=some e→∃bN,look st.env s=some bN∧bN.d=e.d):bv P K M β {env:=Ab.oS env,H:=st.H,aL:=st.aL} tmps w:=
 h.sub rfl (λl e ab=>by
  cases l with
  |slot s=>
   simp only [aD.at,RN,Option.map_eq_some_iff]at ab;obtain⟨e1,Z,rfl⟩:=ab;obtain⟨bN,aa,ai⟩:=he s e1 Z;exact⟨bN,aa,ai,λ_ h=>by cases h⟩
  |cell r i=>exact⟨e,ab,rfl,λ_ h=>h⟩) (λr cs ah=>⟨cs,ah,rfl⟩)
def aan(P:Program)(K:Ctx)(M:Mem)(β:Nat→Option Nat)(g:c6)(x:V)(hs:List (Nat×List aP))(o:Oper)(tmps:Array Value)(w:World):Prop:=
 (∃v,(execOp (Act.eval ⟨tmps,[]⟩) o).run P w = .halt (.panic v) w∧cU M v x∧hs=[])∨
 (∃fn vs,(execOp (Act.eval ⟨tmps,[]⟩) o).run P w = .ok (.enter fn vs) w∧Calls P fn vs w λe w'=>∃v M' ,e = .panicked [{v,recovered:=false}]∧cU M' v x∧
  bv P K M' β {env:=oS g.env,H:=hs++g.H,aL:=g.aL} tmps w')
def aao{op:BinOp}{k:IntKind}{a b:Int}{x:V}{aO:List Prop}(h:Ju op k a b=some (x,aO))(cg:∀q,q∈aO→q)(t:TypeId):
 ∃v,(binOp op t (.int k a) (.int k b)).run P w = .ok v w∧cU M v x:=by
 have fin:∀{s:Sem Value} {v:Value},s.run P w = .ok v w→cU M v x→∃v,s.run P w = .ok v w∧cU M v x:=λZ aa=>⟨_,Z,aa⟩
 cases op<;>simp only [Ju,Option.some.injEq,Prod.mk.injEq,reduceCtorEq]at h<;>obtain⟨rfl,rfl⟩:=h
 case quo=>
  have hb:=RM (cg _ (List.mem_singleton.2 rfl));refine fin (v:=.int k (k.wrap (a.tdiv b))) ?_ (.int _ _);simp [binOp,Op.intDiv,hb]
 case rem=>
  have hb:=RM (cg _ (List.mem_singleton.2 rfl));refine fin (v:=.int k (a.tmod b)) ?_ (.int _ _);simp [binOp,Op.intDiv,hb]
 case add=>exact fin (v:=.int k (k.wrap (a+b))) (by simp [binOp,Op.intArith]) (.int _ _)
 case sub=>exact fin (v:=.int k (k.wrap (a-b))) (by simp [binOp,Op.intArith]) (.int _ _)
 case mul=>exact fin (v:=.int k (k.wrap (a*b))) (by simp [binOp,Op.intArith]) (.int _ _)
 case eql=>exact fin (v:=.bool (decide (a=b))) (by simp [binOp,Op.intCmp];rfl) (.bool _)
 case neq=>exact fin (v:=.bool (!decide (a=b))) (by simp [binOp,Op.intCmp];rfl) (.bool _)
 case lss=>exact fin (v:=.bool (decide (a<b))) (by simp [binOp,Op.intCmp]) (.bool _)
 case leq=>exact fin (v:=.bool (decide (a≤b))) (by simp [binOp,Op.intCmp]) (.bool _)
 case gtr=>exact fin (v:=.bool (decide (b<a))) (by simp [binOp,Op.intCmp]) (.bool _)
 case geq=>exact fin (v:=.bool (decide (b≤a))) (by simp [binOp,Op.intCmp]) (.bool _)
 case and=>exact fin (v:=.int k (oQ k a b)) (by simp [binOp,Op.intBits,oQ]) (.int _ _)
 case or=>exact fin (v:=.int k (pQ k a b)) (by simp [binOp,Op.intBits,pQ]) (.int _ _)
 case xor=>exact fin (v:=.int k (l7 k a b)) (by simp [binOp,Op.intBits,l7]) (.int _ _)
 case andNot=>exact fin (v:=.int k (Js k a b)) (by simp [binOp,Op.intBits,Js]) (.int _ _)
def aap{op:BinOp}{k k':IntKind}{a b:Int}{x:V}{aO:List Prop}(h:Jt op k a b=some (x,aO))(cg:∀q,q∈aO→q)(t:TypeId):
 ∃v,(binOp op t (.int k a) (.int k' b)).run P w = .ok v w∧cU M v x:=by
 unfold Jt at h;split at h
 ·simp only [Option.some.injEq,Prod.mk.injEq]at h;obtain⟨rfl,rfl⟩:=h;have hb:0≤b:=by simpa [ni]using cg (ni b=true) (by simp)
  exact⟨.int k (n0 k a b),by simp [binOp,Op.shift,show¬ b<0 by omega,n0],.int _ _⟩
 ·simp only [Option.some.injEq,Prod.mk.injEq]at h;obtain⟨rfl,rfl⟩:=h;have hb:0≤b:=by simpa [ni]using cg (ni b=true) (by simp)
  exact⟨.int k (mw k a b),by simp [binOp,Op.shift,show¬ b<0 by omega,mw],.int _ _⟩
 ·cases h
def aaq{op:BinOp}{a b:anT}{x:V}{aO:List Prop}(h:Jv op a b=some (x,aO))(cg:∀q,q∈aO→q)(t:TypeId):
 ∃v,(binOp op t (.string ⟨⟨a⟩⟩) (.string ⟨⟨b⟩⟩)).run P w = .ok v w∧cU M v x:=by
 have fin:∀{s:Sem Value} {v:Value},s.run P w = .ok v w→cU M v x→∃v,s.run P w = .ok v w∧cU M v x:=λZ aa=>⟨_,Z,aa⟩
 have p0:=DM a;have wU:=DM b;have he:(a == b)=decide (a=b):=by by_cases mF:a=b<;>simp [mF]
 cases op<;>simp only [Jv,Option.some.injEq,Prod.mk.injEq,reduceCtorEq]at h<;>obtain⟨rfl,rfl⟩:=h
 case add=>
  have hb:=aam (cg _ (List.mem_singleton.2 rfl));refine fin (v:=.string ⟨⟨a++b⟩⟩) ?_ (.str _)
  have dW:¬ ((((⟨⟨a⟩⟩:ByteArray).size+(⟨⟨b⟩⟩:ByteArray).size:Nat):Int) > IntKind.i64.max):=by
   have Z:(⟨⟨a⟩⟩:ByteArray).size=a.length:=rfl;have aa:(⟨⟨b⟩⟩:ByteArray).size=b.length:=rfl;have ai:IntKind.i64.max=9223372036854775807:=by decide
   rw [Z,aa,ai];omega
  simp only [binOp,Op.stringOp];rw [if_neg dW];simp;apply ByteArray.ext;simp
 case eql=>exact fin (v:=.bool (decide (a=b))) (by simp [binOp,Op.stringOp,p0,wU,he]) (.bool _)
 case neq=>exact fin (v:=.bool (!decide (a=b))) (by simp [binOp,Op.stringOp,p0,wU,he]) (.bool _)
 case lss=>exact fin (v:=.bool (Op.bytesLess a b)) (by simp [binOp,Op.stringOp,p0,wU]) (.bool _)
 case leq=>exact fin (v:=.bool (Op.bytesLess a b||decide (a=b))) (by simp [binOp,Op.stringOp,p0,wU,he]) (.bool _)
 case gtr=>exact fin (v:=.bool (!(Op.bytesLess a b||decide (a=b)))) (by simp [binOp,Op.stringOp,p0,wU,he]) (.bool _)
 case geq=>exact fin (v:=.bool (!Op.bytesLess a b)) (by simp [binOp,Op.stringOp,p0,wU]) (.bool _)
def aar{t:TypeId}{aF:es}(r:Row P t aF)(hk:aF.k = .ptr):∃e,r.desc = .pointer e:=by
 have:=r.hk
 rw [hk]at this;cases hd:r.desc<;>simp [hd,kL]at this;exact⟨_,rfl⟩
def aas{t:TypeId}{aF:es}(r:Row P t aF)(hk:aF.k = .nZ):∃e,r.desc = .interface e:=by
 have:=r.hk
 rw [hk]at this;cases hd:r.desc<;>simp [hd,kL]at this;exact⟨_,rfl⟩
def aat{t:TypeId}{aF:es}(r:Row P t aF)(hk:aF.k = .aU):∃a b c,r.desc = .func a b c:=by
 have:=r.hk
 rw [hk]at this;cases hd:r.desc<;>simp [hd,kL]at this;exact⟨_,_,_,rfl⟩
def Kr{t:TypeId}{aF:es}(r:Row P t aF)(hk:aF.k = .bool):r.desc = .bool:=by
 have:=r.hk
 rw [hk]at this;cases hd:r.desc<;>simp [hd,kL]at this;rfl
def RO{t:TypeId}{aF:es}(r:Row P t aF){hv wV:Value}{a b:D}{res:Bool}(ha:ce M β hv a)(hb:ce M β wV b)(ab:Dx aF.k b=true)(hn:isNil aF.k a=some res):
 (Op.equal t hv wV).run P w = .ok res w∧(∀op,(binOp op t hv wV)=match op with|.eql=>(do pure (.bool (←Op.equal t hv wV)))|.neq=>(do pure (.bool (!(←Op.equal t hv wV))))|_=>binOp op t hv wV):=by
 obtain⟨dep,hm⟩:∃d,Op.maxDepth=d+1:=⟨9999,rfl⟩;unfold Dx at ab;split at ab<;>try cases ab
 ·rename_i hk;cases nq hb
  obtain⟨e,hd⟩:=aar r hk;rw [hk]at hn;unfold isNil at hn;split at hn<;>simp_all
  ·cases nq ha
   refine⟨?_,λop=>by cases op<;>rfl⟩
   rw [Op.equal,hm,Op.equalIn];simp [r.run_underlying,hd]
  ·obtain⟨bp,_,rfl⟩:=q7 ha;subst hn;refine⟨?_,λop=>by cases op<;>rfl⟩
   rw [Op.equal,hm,Op.equalIn];simp [r.run_underlying,hd]
  ·obtain⟨bp,off,val,rfl,_⟩:=DK ha;subst hn;refine⟨?_,λop=>by cases op<;>rfl⟩
   rw [Op.equal,hm,Op.equalIn];simp [r.run_underlying,hd]
 ·rename_i hk;cases nq hb
  obtain⟨e,hd⟩:=aas r hk;rw [hk]at hn;unfold isNil at hn;split at hn<;>simp_all
  ·cases nq ha
   refine⟨?_,λop=>by cases op<;>rfl⟩
   rw [Op.equal,hm,Op.equalIn];simp [r.run_underlying,hd]
  ·obtain⟨u,rfl,_⟩:=JN ha;subst hn;refine⟨?_,λop=>by cases op<;>rfl⟩
   rw [Op.equal,hm,Op.equalIn];simp [r.run_underlying,hd]
 ·rename_i hk;cases nq hb
  obtain⟨e1,e2,e3,hd⟩:=aat r hk;rw [hk]at hn;unfold isNil at hn;split at hn<;>simp_all
  ·cases nq ha
   refine⟨?_,λop=>by cases op<;>rfl⟩
   rw [Op.equal,hm,Op.equalIn];simp [r.run_underlying,hd]
  ·obtain⟨u,rfl,_⟩:=Q4 ha;subst hn;refine⟨?_,λop=>by cases op<;>rfl⟩
   rw [Op.equal,hm,Op.equalIn];simp [r.run_underlying,hd]
end
section
variable {P:Program} {K:Ctx} {N:Nat} {M:Mem} {β:Nat→Option Nat} {st:aD} {g:c6} {tmps:Array Value} {w:World} {o:Oper} {f:kE} {p:Path} {tt:dq} {bX:gf} {ops:List Oper}
structure Hyp(P:Program)(K:Ctx)(N:Nat)(M:Mem)(β:Nat→Option Nat)(g:c6)(tmps:Array Value)(w:World)(p:Path)(tt:dq):Prop where
 bj:fy P K N M β g tmps w
 dA:fl tmps p
 tt:fe P tt=true
def aau(h:Hyp P K N M β g tmps w p tt){x:Operand}(am:o.op = .move x)(hs:step1 bX tt ops g p o=some (.go f)):Yields P K M β g f o tmps w:=by
 simp only [step1,am]at hs;split at hs
 case h_2=>cases hs
 rename_i d hd
 repeat' (first|(split at hs)|(rw [Bool.cond_eq_ite]at hs))
 all_goals first
  |(cases hs;done)
  |(cases hs;exact Q9 h.bj h.dA (.inl am) hd (by assumption))
  |(cases hs;exact DN h.bj h.dA (.inl am) hd)
def aav(h:Hyp P K N M β g tmps w p tt){x:Operand}(am:o.op = .assign x)(hs:step1 bX tt ops g p o=some (.go f)):Yields P K M β g f o tmps w:=by
 simp only [step1,am]at hs;split at hs
 case h_2=>cases hs
 rename_i d hd;split at hs
 ·rename_i e t fZ;rw [Bool.cond_eq_ite]at hs;split at hs<;>cases hs
  ·exact Q9 h.bj h.dA (.inr am) hd fZ
  ·exact DN h.bj h.dA (.inr am) hd
 ·split at hs
  ·rw [Bool.cond_eq_ite]at hs;split at hs<;>cases hs
   ·exact ZG h.bj h.dA am hd _
   ·exact DN h.bj h.dA (.inr am) hd
  ·cases hs
 ·cases hs;exact DN h.bj h.dA (.inr am) hd
def aaw(h:Hyp P K N M β g tmps w p tt){c:Nat}{a b:Operand}(am:o.op = .pick (.tmp c) a b)(hs:step1 bX tt ops g p o=some (.go f)):Yields P K M β g f o tmps w:=by
 simp only [step1,am]at hs;split at hs
 case h_2=>cases hs
 rename_i r8 zM tL Z aa ai;cases hs;exact ZH h.bj h.dA am Z aa ai
def aax(h:Hyp P K N M β g tmps w p tt){t:TypeId}(am:o.op = .alloc t)(hs:step1 bX tt ops g p o=some (.go f)):Yields P K M β g f o tmps w:=by
 simp only [step1,am]at hs;split at hs
 case h_2=>cases hs
 rename_i id e6 hid;split at hs
 case h_2=>cases hs
 rename_i z dJ;cases hs;exact ZJ h.bj h.tt am dJ hid
def aay(h:Hyp P K N M β g tmps w p tt){t:TypeId}{x:Operand}(am:o.op = .box t x)(hs:step1 bX tt ops g p o=some (.go f)):Yields P K M β g f o tmps w:=by
 simp only [step1,am]at hs;split at hs
 case h_2=>cases hs
 rename_i d id e6 aF hd hid ab;rw [Bool.cond_eq_ite]at hs;split at hs<;>cases hs
 rename_i D2;simp only [Bool.or_eq_true,Bool.not_eq_true',not_or,Bool.not_eq_true,Bool.not_eq_false,Nat.beq_eq]at D2;exact ZK h.bj h.dA am hd D2.1.1 D2.1.2 h.tt ab D2.2 hid
def aaz(h:Hyp P K N M β g tmps w p tt){t:TypeId}{parts:Array (Nat×Operand)}(am:o.op = .build t parts)(hs:step1 bX tt ops g p o=some (.go f)):Yields P K M β g f o tmps w:=by
 simp only [step1,am]at hs;split at hs
 ·rename_i cd fw jL zero _ bM ab lI;rw [Bool.cond_eq_ite]at hs;split at hs
  case isFalse=>cases hs
  rename_i ns;split at hs
  ·simp only [Option.map_eq_some_iff]at hs;obtain⟨d,⟨cs,dV,rfl⟩,hs⟩:=hs;cases hs;exact Rj h.bj h.dA h.tt ab rfl ns am lI (λr=>r.ZN) dV
  ·simp only [Option.map_eq_some_iff]at hs;obtain⟨d,⟨cs,dV,rfl⟩,hs⟩:=hs;cases hs;exact Rj h.bj h.dA h.tt ab rfl ns am lI (λr=>r.Ri) dV
 ·rename_i n e fw jL zero _ bM ab lI;split at hs
  case h_2=>cases hs
  rename_i aq aaA RP z2 eu;simp only [Option.map_eq_some_iff]at hs;obtain⟨d,⟨cs,dV,rfl⟩,hs⟩:=hs;cases hs;exact ZP h.bj h.dA h.tt ab rfl eu am lI dV
 ·cases hs
def aaB(h:Hyp P K N M β g tmps w p tt){t:TypeId}{len:Nat}{parts:Array (Nat×Operand)}(am:o.op = .buildSlice t len parts)(hs:step1 bX tt ops g p o=some (.go f))(cg:∀q,q∈f.aO→q):Yields P K M β g f o tmps w:=by
 simp only [step1,am]at hs;split at hs
 case h_2=>cases hs
 rename_i e fw jL zero _ bM ab lI;split at hs
 case h_2=>cases hs
 rename_i aq aaA RP z2 eu;split at hs
 case h_2=>cases hs
 rename_i xs x rs hx eC;rw [Bool.cond_eq_ite]at hs;split at hs
 case isFalse=>cases hs
 rename_i hc;simp only [Bool.and_eq_true,Nat.ble_eq,Nat.beq_eq]at hc;cases hs;exact ZR h.bj h.dA h.tt ab rfl eu am lI hx hc.2 hc.1.2 hc.1.1 (cg _ (List.mem_singleton.2 rfl))
def aaC(h:Hyp P K N M β g tmps w p tt){t:TypeId}{a:Operand}(am:o.op = .load t a)(hs:step1 bX tt ops g p o=some (.go f)):Yields P K M β g f o tmps w:=by
 simp only [step1,am]at hs;split at hs
 ·rename_i q off aF ha ab;split at hs
  case h_2=>cases hs
  rename_i cs al;rw [Bool.cond_eq_ite]at hs;split at hs
  ·rename_i jd;rw [Bool.cond_eq_ite]at hs;split at hs
   case isFalse=>cases hs
   rename_i hle;cases hs;exact ZU h.bj h.dA h.tt ab am ha al jd (by simpa using hle)
  ·rename_i jd;split at hs
   case h_2=>cases hs
   rename_i e he;split at hs
   ·rename_i s rs fO eC;rw [Bool.cond_eq_ite]at hs;split at hs<;>cases hs
    exact ZW h.bj h.dA h.tt ab am ha al (by simpa using jd) he fO
   ·cases hs;exact ZV h.bj h.dA h.tt ab am ha al (by simpa using jd) he
 ·rename_i x aF ha ab;rw [Bool.cond_eq_ite]at hs;split at hs
  case isFalse=>cases hs
  rename_i hc;simp only [Bool.and_eq_true,beq_iff_eq,Nat.beq_eq]at hc;cases hs;exact ZX h.bj h.dA h.tt ab am ha hc.1 hc.2
 ·cases hs
def aaD(h:Hyp P K N M β g tmps w p tt){t:TypeId}{a x:Operand}(am:o.op = .store t a x)(hs:step1 bX tt ops g p o=some (.go f)):Yields P K M β g f o tmps w:=by
 simp only [step1,am]at hs;split at hs
 case h_2=>cases hs
 rename_i q off d aF ha hx ab;split at hs
 case h_2=>cases hs
 rename_i cs al;rw [Bool.cond_eq_ite]at hs;split at hs
 case isFalse=>cases hs
 rename_i hc;simp only [Bool.and_eq_true,Nat.beq_eq,Nat.ble_eq,Bool.not_eq_true']at hc;obtain⟨⟨⟨⟨ki,lM⟩,_⟩,aaE⟩,aaF⟩:=hc;split at hs
 ·rename_i u s k n get fZ;cases hs;simp only [oR,Option.bind_eq_some_iff]at fZ;obtain⟨e,he,az⟩:=fZ;have dW:aF.size=1:=by rw [←ki];rfl
  exact Rt h.bj h.dA h.tt ab am ha al hx dW lM (l:=[u]) (h.bj.bj.hand he az (.cell q off))
 ·split at hs
  ·cases hs;have mC:=hx;simp only [rd]at mC;split at mC
   ·cases mC;have dW:aF.size=1:=by rw [←ki];rfl
    exact Rt h.bj h.dA h.tt ab am ha al hx dW lM (l:=[]) (JH _ _)
   ·cases mC
  ·cases hs
 ·cases hs;exact ZZ h.bj h.dA h.tt ab am ha al hx aaE aaF ki lM _
def aaG(h:Hyp P K N M β g tmps w p tt){x:Operand}(am:o.op = .nilCheck x)(hs:step1 bX tt ops g p o=some (.go f)):Yields P K M β g f o tmps w:=by
 simp only [step1,am]at hs;split at hs
 ·rename_i q off hd;cases hs;have ah:=dK (ds:=[]) h.bj h.dA hd;obtain⟨b,_,an⟩:=q7 ah;refine eO h.bj (v:=(⟨tmps,[]⟩:Act).eval x) ?_ ah;simp [execOp,am,an]
 ·rename_i y hd;cases hs;have ah:=dK (ds:=[]) h.bj h.dA hd;obtain⟨b,off,val,an,_⟩:=DK ah;refine eO h.bj (v:=(⟨tmps,[]⟩:Act).eval x) ?_ ah;simp [execOp,am,an]
 ·cases hs
def aaH(h:Hyp P K N M β g tmps w p tt){op:UnOp}{t:TypeId}{x:Operand}(am:o.op = .unOp op t x)(hs:step1 bX tt ops g p o=some (.go f)):Yields P K M β g f o tmps w:=by
 simp only [step1,am]at hs;split at hs
 case h_2=>cases hs
 rename_i a ha;simp only [Option.map_eq_some_iff]at hs;obtain⟨d,⟨fN,wT,rfl⟩,hs⟩:=hs;cases hs;have ah:=dK (ds:=[]) h.bj h.dA ha;unfold QQ at wT;split at wT<;>cases wT
 ·have:=tU ah
  refine eO h.bj (v:=.bool _) ?_ (.v _ _ (.bool _));simp [execOp,am,this,Op.unary]
 ·have:=lH ah
  refine eO h.bj (v:=.int _ _) ?_ (.v _ _ (.int _ _));simp [execOp,am,this,Op.unary,Op.intArith]
def aaI(h:Hyp P K N M β g tmps w p tt){s t:TypeId}{x:Operand}(am:o.op = .convert s t x)(hs:step1 bX tt ops g p o=some (.go f))(cg:∀q,q∈f.aO→q):Yields P K M β g f o tmps w:=by
 simp only [step1,am]at hs;split at hs
 ·rename_i cP _ _ _ _ k _ _ _ _ eb n e0 eu hd;cases hs;obtain⟨r1⟩:=ek h.tt e0;obtain⟨r2⟩:=ek h.tt eu;have ah:=lH (dK (ds:=[]) h.bj h.dA hd);refine eO h.bj (v:=.int k (k.wrap n)) ?_ (.v _ _ (.int _ _));simp only [execOp,am,ah];refine iS _ ?_;simp [convert,r1.run_underlying,r2.run_underlying,zV r1 rfl,zV r2 rfl,Conv.intToInt]
 ·rename_i _ _ _ _ _ _ _ _ l e0 eu hd;cases hs;obtain⟨r1⟩:=ek h.tt e0;obtain⟨r2⟩:=ek h.tt eu;have ah:=ma (dK (ds:=[]) h.bj h.dA hd);refine eO h.bj (v:=.string ⟨⟨l⟩⟩) ?_ (.v _ _ (.str _));simp only [execOp,am,ah];refine iS _ ?_;simp [convert,r1.run_underlying,r2.run_underlying,pV r1 rfl,pV r2 rfl]
 ·rename_i e _ _ _ _ _ _ _ _ n get e0 eu hd;split at hs
  case h_2=>cases hs
  rename_i l rs Ks eC;cases hs;obtain⟨r1⟩:=ek h.tt e0;obtain⟨r2⟩:=ek h.tt eu;obtain⟨r3⟩:=ek h.tt Ks;obtain⟨hlen,ij⟩:=cg _ (List.mem_singleton.2 rfl);have ah:=dK (ds:=[]) h.bj h.dA hd;refine eO h.bj (v:=.string ⟨⟨l⟩⟩) ?_ (.v _ _ (.str _));simp only [execOp,am];refine iS _ ?_;rcases sb ah with⟨hn|⟨a,hn⟩,an⟩|⟨b,off,cap,val,an,hc,hk,cI,Z,gm⟩
  ·have hl0:l=[]:=List.eq_nil_of_length_eq_zero (hlen.trans an);rw [hn,hl0];simp [convert,r1.run_underlying,r2.run_underlying,r3.run_underlying,oY r1 rfl,pV r2 rfl,zV r3 rfl,Conv.bytesToString];rfl
  ·have hl0:l=[]:=List.eq_nil_of_length_eq_zero (hlen.trans an);rw [hn,hl0];exact run_convert_bytes_back w s t e a 0 [] (by rw [r1.hd,oY r1 rfl]) (by rw [r3.hd,zV r3 rfl]) (by rw [r2.hd,pV r2 rfl]) (λj hj=>by simp at hj)
  ·rw [an,←hlen]
   have hO:∀j (hj:j<l.length),w.cell? ((⟨b,off,none⟩:Addr).add j)=some (.int .u8 (l[j].toNat:Int)):=by
    intro j hj;have Kt:j<n:=by omega
    have e1:=ij j Kt;have e2:=gm j 0 (.int .u8 ((l.getD j 0).toNat:Int)) Kt (by rw [e1];rfl)
    have e3:val j 0 = .int .u8 ((l.getD j 0).toNat:Int):=by generalize val j 0=u at e2 ⊢;cases e2;rfl
    have o2:=h.bj.bj.mem _ _ _ (cI j 0 Kt (by omega))
    rw [addr_add];have Am:off+j*1+0=off+j:=by omega
    rw [Am,e3]at o2;rw [o2];simp [List.getD,List.getElem?_eq_getElem hj]
   exact run_convert_bytes_back w s t e ⟨b,off,none⟩ cap l (by rw [r1.hd,oY r1 rfl]) (by rw [r3.hd,zV r3 rfl]) (by rw [r2.hd,pV r2 rfl]) hO
 ·cases hs
def aaJ(h:Hyp P K N M β g tmps w p tt){t:TypeId}{x:Operand}(am:o.op = .makeInterface t x)(hs:step1 bX tt ops g p o=some (.go f)):Yields P K M β g f o tmps w:=by
 simp only [step1,am]at hs;split at hs
 case h_2=>cases hs
 rename_i y k fw jL z _ hd ab;obtain⟨r⟩:=ek h.tt ab;have ah:=dK (ds:=[]) h.bj h.dA hd
 have hc:P.concrete t=true∨k = .nZ:=by
  have hk:=r.hk;cases RQ:r.desc<;>simp [RQ,kL]at hk
  all_goals first
   |exact .inr hk.symm
   |(left;simp [Program.concrete,r.hd,RQ])
 split at hs
 ·cases hs
 ·rename_i hk;cases hs;rcases hc with hc|hc
  ·refine eO h.bj (v:=.iface t ((⟨tmps,[]⟩:Act).eval x)) ?_ (.v _ _ (.iface t _ _ (nq ah)));simp only [execOp,am];exact iS _ (run_makeInterface w t _ hc)
  ·exact absurd hc hk
def aaK(h:Hyp P K N M β g tmps w p tt){fn:FuncId}{first eT:Array Operand}(am:o.op = .makeFunc (.func fn) first eT)(hs:step1 bX tt ops g p o=some (.go f)):Yields P K M β g f o tmps w:=by
 simp only [step1,am]at hs;rw [Bool.cond_eq_ite]at hs;split at hs
 case isFalse=>cases hs
 rename_i he;simp only [Option.map_eq_some_iff]at hs;obtain⟨ds,hG,hs⟩:=hs;cases hs;obtain⟨Z,aa⟩:=sd hG;have ub:first = #[]:=by simpa using he
 subst ub;refine eO h.bj (v:=.func (.func fn) #[] (eT.map (⟨tmps,[]⟩:Act).eval)) ?_ ?_
 ·simp [execOp,am,Instr.makeFunc]
 ·have:eT.map (⟨tmps,[]⟩:Act).eval=⟨eT.toList.map (⟨tmps,[]⟩:Act).eval⟩:=by apply Array.ext';simp
  rw [this];refine .fn fn _ ds (by simp [Z]) λi v c an hc=>?_
  simp only [List.getElem?_map,Option.map_eq_some_iff]at an;obtain⟨y,bY,rfl⟩:=an;exact dK h.bj h.dA (aa i y c bY hc)
def aaL(h:Hyp P K N M β g tmps w p tt){x:Operand}{i:Nat}(am:o.op = .extract x i)(hs:step1 bX tt ops g p o=some (.go f)):Yields P K M β g f o tmps w:=by
 simp only [step1,am]at hs;split at hs
 case h_2=>cases hs
 rename_i ds hd;simp only [Option.map_eq_some_iff]at hs;obtain⟨d,sl,hs⟩:=hs;cases hs;obtain⟨vs,an,hlen,ah⟩:=ZA (dK (ds:=[]) h.bj h.dA hd);have hi:i<ds.length:=(List.getElem?_eq_some_iff.1 sl).1;have eN:vs[i]? = some vs[i]:=List.getElem?_eq_getElem (by omega)
 refine eO h.bj (v:=vs[i]) ?_ (ah i _ d eN sl);simp only [execOp,am,an];refine iS _ ?_;simp [Instr.extract,eN]
end
section
variable {P:Program} {K:Ctx} {N:Nat} {M:Mem} {β:Nat→Option Nat} {st:aD} {g:c6} {tmps:Array Value} {w:World} {o:Oper} {f:kE} {p:Path} {tt:dq} {bX:gf} {ops:List Oper}
def rf{op:BinOp}{t t2:TypeId}{x y:Operand}(am:o.op = .binOp op t x y t2){a b v:Value}(hx:(⟨tmps,[]⟩:Act).eval x=a)(bY:(⟨tmps,[]⟩:Act).eval y=b)
 (hg:(eqGuard op t x y a b).run P w = .ok () w) (h:(binOp op t a b).run P w = .ok v w):(execOp (Act.eval ⟨tmps,[]⟩) o).run P w = .ok (.value v) w:=by
 simp only [execOp,am,hx,bY];refine iS _ ?_;simp only [Sem.run_bind,hg,Result.andThen_ok,h]
def wW{op:BinOp}{t:TypeId}{x y:Operand}{a b:Value}(h:∀cs ds,¬ (a = .agg cs∧b = .agg ds))(aa:a = .nilIface→b = .nilIface→isConst y=true):(eqGuard op t x y a b).run P w = .ok () w:=by
 unfold eqGuard;cases op<;>try rfl
 all_goals
  simp only
  cases a<;>cases b<;>first
   |rfl
   |(exact absurd ⟨rfl,rfl⟩ (h _ _))
   |(have:=aa rfl rfl;cases y<;>simp [isConst]at this;simp)
def aaM(cf:fe P tt=true){d:Nat}{hD:TypeId}{An:List (Option lA)}{x y:V}{xs ys:List V}{hv rh:Value}{r:Bool}
 (he:iE ((look tt hD).map (·.k)::An) (x::xs) (y::ys)=some r) (Ao:cU M hv x) (Ap:cU M rh y):∃c q,(Op.equalIn (d+1) hD hv rh).run P w = .ok c w∧iE An xs ys=some q∧(c&&q)=r:=by
 cases ab:look tt hD with
 |none=>simp [ab,iE]at he
 |some aF=>
  obtain⟨row⟩:=ek cf ab;have p1:=row.hd;simp only [ab,Option.map_some]at he;unfold iE at he;split at he<;>simp only [List.cons.injEq,reduceCtorEq]at *
  case h_2 ks kk k a l k' b m e1 e2 e3=>
   obtain⟨e1,rfl⟩:=e1;obtain⟨rfl,rfl⟩:=e2;obtain⟨rfl,rfl⟩:=e3;cases Ao;cases Ap
   rw [Bool.cond_eq_ite]at he;split at he
   case isFalse=>cases he
   rename_i hk;simp only [decide_eq_true_eq]at hk;subst hk;simp only [Option.map_eq_some_iff]at he;obtain⟨q,al,ah⟩:=he;refine⟨decide (a=b),q,?_,al,ah⟩
   have:∃e4,row.desc = .int e4:=by
    have:=row.hk
    rw [Option.some.inj e1]at this;cases hd:row.desc<;>simp [hd,kL]at this;exact⟨_,rfl⟩
   obtain⟨e4,iK⟩:=this;rw [iK]at p1;rw [run_equalIn_int w d hD k e4 a b p1];rfl
  case h_3 ks a l b m e1 e2 e3=>
   obtain⟨e1,rfl⟩:=e1;obtain⟨rfl,rfl⟩:=e2;obtain⟨rfl,rfl⟩:=e3;cases Ao;cases Ap
   simp only [Option.map_eq_some_iff]at he;obtain⟨q,al,ah⟩:=he;refine⟨decide (a=b),q,?_,al,ah⟩
   have:row.desc = .string:=pV row (Option.some.inj e1)
   rw [this]at p1;rw [run_equalIn_string w d hD _ _ p1,DM,DM];by_cases mF:a=b<;>simp [mF]
  case h_4 ks a l b m e1 e2 e3=>
   obtain⟨e1,rfl⟩:=e1;obtain⟨rfl,rfl⟩:=e2;obtain⟨rfl,rfl⟩:=e3;cases Ao;cases Ap
   simp only [Option.map_eq_some_iff]at he;obtain⟨q,al,ah⟩:=he;refine⟨(a == b),q,?_,al,ah⟩
   have:row.desc = .bool:=Kr row (Option.some.inj e1)
   rw [this]at p1;rw [run_equalIn_bool' w d hD _ _ p1]
def nv(P:Program)(cd:List Field):List (Nat×TypeId×Nat):=cd.map λf=>(f.offset,f.type,P.cellsOf f.type)
def D3:∀{cP aq:List (Option lA)} {xs ys:List V} {r:Bool},iE (cP++aq) xs ys=some r→
 ∃r1 r2,iE cP (xs.take cP.length) (ys.take cP.length)=some r1∧iE aq (xs.drop cP.length) (ys.drop cP.length)=some r2∧(r1&&r2)=r∧cP.length≤xs.length∧cP.length≤ys.length∧∀k,k∈cP→k.isSome=true
 |[],aq,xs,ys,r,h=>⟨true,r,by simp [iE],by simpa using h,rfl,Nat.zero_le _,Nat.zero_le _,λk hk=>by cases hk⟩
 |k::cP,aq,xs,ys,r,h=>by
  simp only [List.cons_append]at h;unfold iE at h;split at h<;>simp only [List.cons.injEq,reduceCtorEq]at *
  ·rename_i ks kk k' a l amd b m e1;obtain⟨rfl,rfl⟩:=e1;rw [Bool.cond_eq_ite]at h;split at h
   case isFalse=>cases h
   rename_i hk;simp only [Option.map_eq_some_iff]at h;obtain⟨q,al,rfl⟩:=h;obtain⟨r1,r2,Z,aa,ai,ay,aJ,bE⟩:=D3 al;refine⟨decide (a=b)&&r1,r2,?_,aa,by rw [Bool.and_assoc,ai],by simpa using ay,by simpa using aJ,λe4 iK=>?_⟩
   ·simp only [List.length_cons,List.take_succ_cons,iE,hk,cond_true,Z,Option.map_some]
   ·rcases List.mem_cons.1 iK with rfl|iK
    ·rfl
    ·exact bE e4 iK
  ·rename_i ks a l b m e1;obtain⟨rfl,rfl⟩:=e1;simp only [Option.map_eq_some_iff]at h;obtain⟨q,al,rfl⟩:=h;obtain⟨r1,r2,Z,aa,ai,ay,aJ,bE⟩:=D3 al;refine⟨decide (a=b)&&r1,r2,?_,aa,by rw [Bool.and_assoc,ai],by simpa using ay,by simpa using aJ,λe4 iK=>?_⟩
   ·simp only [List.length_cons,List.take_succ_cons,iE,Z,Option.map_some]
   ·rcases List.mem_cons.1 iK with rfl|iK
    ·rfl
    ·exact bE e4 iK
  ·rename_i ks a l b m e1;obtain⟨rfl,rfl⟩:=e1;simp only [Option.map_eq_some_iff]at h;obtain⟨q,al,rfl⟩:=h;obtain⟨r1,r2,Z,aa,ai,ay,aJ,bE⟩:=D3 al;refine⟨(a == b)&&r1,r2,?_,aa,by rw [Bool.and_assoc,ai],by simpa using ay,by simpa using aJ,λe4 iK=>?_⟩
   ·simp only [List.length_cons,List.take_succ_cons,iE,Z,Option.map_some]
   ·rcases List.mem_cons.1 iK with rfl|iK
    ·rfl
    ·exact bE e4 iK
def sm(tt:dq)(hD:TypeId):Nat→List (Option lA)
 | 0=>[(look tt hD).map (·.k)]
 |q+1=>match look tt hD with
  |some {k:=.bR gs,..}=>l8 tt q gs
  |o=>[o.map (·.k)]
def D4(q:Nat)(f:Field)(cd:List Field):l8 tt q (nv P (f::cd))=sm tt f.type q++l8 tt q (nv P cd):=by
 cases q with
 |zero=>rfl
 |succ q=>
  simp only [l8,nv,List.map_cons,List.flatMap_cons,sm];rfl
def RR{t:TypeId}{aF:es}(r:Row P t aF){gs:Array Field}(h:P.underlying t=some (.struct gs)):aF.k = .bR (nv P gs.toList):=by
 have hd:r.desc = .struct gs:=Option.some.inj (r.hd.symm.trans h);have:=r.hk
 rw [hd]at this;simp [kL]at this;exact this.symm
def RS{t:TypeId}{aF:es}(r:Row P t aF){gs:List (Nat×TypeId×Nat)}(h:aF.k = .bR gs):∃cd:Array Field,P.underlying t=some (.struct cd)∧gs=nv P cd.toList:=by
 have Z:=r.hk;rw [h]at Z;cases hd:r.desc<;>simp [hd,kL]at Z
 rename_i cd;refine⟨cd,?_,Z.symm⟩
 rw [r.hd,hd]
def RT(cf:fe P tt=true){hD:TypeId}(h:∀gs,P.underlying hD≠some (.struct gs))(q:Nat):sm tt hD q=[(look tt hD).map (·.k)]:=by
 cases q with
 |zero=>rfl
 |succ q=>
  simp only [sm];split
  ·rename_i gs _ _ _ _ ab;obtain⟨row⟩:=ek cf ab;obtain⟨cd,Z,_⟩:=RS row rfl;exact absurd Z (h cd)
  ·rfl
def Ku(cf:fe P tt=true):∀(q:Nat) (cd:List Field),(∀k,k∈l8 tt q (nv P cd)→k.isSome=true)→(l8 tt q (nv P cd)).length=q6 P q cd
 | 0,cd,_=>by simp [l8,nv,q6]
 |q+1,[],_=>by simp [l8,nv,q6]
 |q+1,f::cd,h=>by
  rw [D4]at h ⊢;have aG:=Ku cf (q+1) cd λk hk=>h k (List.mem_append_right _ hk)
  have hc:q6 P (q+1) (f::cd)=(match P.underlying f.type with|some (.struct gs)=>q6 P q gs.toList|_=>1)+q6 P (q+1) cd:=by
   simp only [q6,List.map_cons,List.sum_cons];rfl
  rw [List.length_append,aG,hc]
  congr 1
  simp only [sm]at h ⊢;split
  ·rename_i gs _ _ _ _ ab;obtain⟨row⟩:=ek cf ab;obtain⟨Aq,Z,rfl⟩:=RS row rfl;rw [Z];refine Ku cf q Aq.toList λk hk=>h k (List.mem_append_left _ ?_)
   rw [ab];exact hk
  ·rename_i o n8;cases am:look tt f.type with
   |none=>
    have:=h none (List.mem_append_left _ (by rw [am];simp))
    cases this
   |some aF=>
    obtain⟨row⟩:=ek cf am;split
    ·rename_i gs hu;have:=RR row hu
     obtain⟨k,s,b,z,mb⟩:=aF;simp only at this
     subst this;exact absurd am (n8 _ _ _ _ _)
    ·rfl
def RU (cf : fe P tt = true) {d : Nat} {f : Field} {cd : List Field} {i : Nat} {An : List (Option lA)} {xs ys : List V} {vs us : List Value} {r : Bool} (sn : f.offset = i) (jf : ¬ f.name = "_") (jd : (isAgg f.type).run P w = .ok false w)
 (he:iE ((look tt f.type).map (·.k)::An) xs ys=some r)
 (an:∀(j:Nat) v x,vs[i+j]? = some v→xs[j]? = some x→cU M v x) (hu:∀(j:Nat) v x,us[i+j]? = some v→ys[j]? = some x→cU M v x) (gh:i+xs.length≤vs.length) (tY:i+ys.length≤us.length)
 (aG:∀(q:Bool),∀{Ar As:List V},iE An Ar As=some q→(∀(j:Nat) v x,vs[i+1+j]? = some v→Ar[j]? = some x→cU M v x)→(∀(j:Nat) v x,us[i+1+j]? = some v→As[j]? = some x→cU M v x)→i+1+Ar.length≤vs.length→i+1+As.length≤us.length→(Op.eqFields (d+1) ⟨vs⟩ ⟨us⟩ cd).run P w = .ok q w):
 (Op.eqFields (d+1) ⟨vs⟩ ⟨us⟩ (f::cd)).run P w = .ok r w:=by
 cases xs with
 |nil=>simp [iE]at he
 |cons x xs=>
  cases ys with
  |nil=>simp [iE]at he
  |cons y ys=>
   simp only [List.length_cons]at gh tY;obtain⟨hv,eN⟩:∃hv,vs[i]? = some hv:=⟨_,List.getElem?_eq_getElem (by omega)⟩
   obtain⟨rh,RV⟩:∃rh,us[i]? = some rh:=⟨_,List.getElem?_eq_getElem (by omega)⟩
   have Ao:=an 0 hv x eN rfl;have Ap:=hu 0 rh y RV rfl
   have D5:∀{zs:List Value} {z:Value},zs[i]? = some z→(part f.type ⟨zs⟩ f.offset).run P w = .ok z w:=by
    intro zs z dJ;have:(⟨zs⟩:Array Value)[f.offset]? = some z:=by rw [sn];simpa using dJ
    simp only [part,Sem.run_bind,jd,Result.andThen_ok,this];rfl
   obtain⟨c,q,Z,aa,ai⟩:=aaM (P:=P) (w:=w) (M:=M) cf (d:=d) he Ao Ap;have ay:=aG q aa (λj v z Z aa=>an (j+1) v z (by rw [←Z];congr 1;omega) (by simpa using aa)) (λj v z Z aa=>hu (j+1) v z (by rw [←Z];congr 1;omega) (by simpa using aa)) (by omega) (by omega)
   simp only [Op.eqFields];rw [if_pos jf];simp only [Sem.run_bind,D5 eN,D5 RV,Result.andThen_ok,Z];cases c
   ·simp [←ai]
   ·simp [←ai,ay]
def aaN(cf:fe P tt=true):∀(q:Nat) {d:Nat} {cd:List Field} {i:Nat} {xs ys:List V} {vs us:List Value} {r:Bool},tT P q i cd=true→iE (l8 tt q (nv P cd)) xs ys=some r→
 (∀(j:Nat) v x,vs[i+j]? = some v→xs[j]? = some x→cU M v x)→(∀(j:Nat) v x,us[i+j]? = some v→ys[j]? = some x→cU M v x)→i+xs.length≤vs.length→i+ys.length≤us.length→
 (Op.eqFields (d+q+1) ⟨vs⟩ ⟨us⟩ cd).run P w = .ok r w:=by
 intro q;induction q with
 |zero=>
  intro d cd;induction cd with
  |nil=>intro i xs ys vs us r _ he _ _ _ _;cases xs<;>cases ys<;>simp [l8,nv,iE]at he;subst he;simp [Op.eqFields]
  |cons f cd aG=>
   intro i xs ys vs us r aN he an hu gh tY;simp only [tT,wJ,Bool.and_eq_true,Nat.beq_eq,Bool.not_eq_true',decide_eq_false_iff_not]at aN;obtain⟨⟨sn,jf⟩,gv⟩:=aN
   have wX:(∀gs,P.underlying f.type≠some (.struct gs))∧tT P 0 (i+1) cd=true∧(isAgg f.type).run P w = .ok false w:=by
    simp only [isAgg,Sem.run_bind];split at gv
    ·rename_i k hk;refine⟨λgs h=>(by rw [hk]at h;cases h),gv,?_⟩;rw [Go.run_underlying hk];rfl
    ·rename_i hk;refine⟨λgs h=>(by rw [hk]at h;cases h),gv,?_⟩;rw [Go.run_underlying hk];rfl
    ·rename_i hk;refine⟨λgs h=>(by rw [hk]at h;cases h),gv,?_⟩;rw [Go.run_underlying hk];rfl
    ·simp at gv
    ·cases gv
   exact RU cf sn jf wX.2.2 (by rw [D4,RT cf wX.1]at he;exact he) an hu gh tY λq' Ar As o0 n6 Kv Z aa=>aG wX.2.1 o0 n6 Kv Z aa
 |succ q aaO=>
  intro d cd;induction cd with
  |nil=>intro i xs ys vs us r _ he _ _ _ _;cases xs<;>cases ys<;>simp [l8,nv,iE]at he;subst he;simp [Op.eqFields]
  |cons f cd aG=>
   intro i xs ys vs us r aN he an hu gh tY;have At:=aN;simp only [tT,wJ,Bool.and_eq_true,Nat.beq_eq,Bool.not_eq_true',decide_eq_false_iff_not]at aN;obtain⟨⟨sn,jf⟩,gv⟩:=aN;by_cases ea:∃gs,P.underlying f.type=some (.struct gs)
   ·obtain⟨gs,wY⟩:=ea;rw [wY]at gv;simp only [Bool.and_eq_true,Bool.not_eq_true',Nat.beq_eq]at gv;obtain⟨⟨⟨aaP,aaQ⟩,aaR⟩,RW⟩:=gv;rw [D4]at he;obtain⟨r1,r2,e1,e2,e3,gZ,jy,ui⟩:=D3 he
    have jP:∃aF,look tt f.type=some aF:=by
     cases ab:look tt f.type with
     |none=>have:=ui none (by simp [sm,ab]);cases this
     |some aF=>exact⟨aF,rfl⟩
    obtain⟨aF,D6⟩:=jP;obtain⟨row⟩:=ek cf D6;have hk:=RR row wY
    have ue:sm tt f.type (q+1)=l8 tt q (nv P gs.toList):=by
     obtain⟨k,s,b,z,mb⟩:=aF;simp only at hk
     subst hk;simp only [sm,D6]
    rw [ue]at e1 e2 gZ jy ui;have hn:=Ku cf q gs.toList ui;rw [hn,←aaQ]at e1 e2 gZ jy;generalize aQ:P.cellsOf f.type=n at e1 e2 gZ jy
    obtain⟨info,DP⟩:=info_of_underlying wY
    have D5:∀zs:List Value,(part f.type ⟨zs⟩ f.offset).run P w = .ok (.agg ⟨(zs.drop i).take n⟩) w:=by
     intro zs
     have:(⟨zs⟩:Array Value).extract i (i+n)=⟨(zs.drop i).take n⟩:=by
      apply Array.ext';rw [Array.toList_extract];simp [List.extract]
     simp only [part,isAgg,Sem.run_bind,run_underlying wY,run_sizeOf w DP,Result.andThen_ok,Sem.run_pure,sn,aQ];simp [this,run_sizeOf w DP,aQ]
    have l':∀{zs:List Value} {cs:List V},(∀(j:Nat) v x,zs[i+j]? = some v→cs[j]? = some x→cU M v x)→∀(j:Nat) v x,((zs.drop i).take n)[0+j]? = some v→(cs.take n)[j]? = some x→cU M v x:=by
     intro zs cs h j v x Z aa;rw [Nat.zero_add,List.getElem?_take]at Z;rw [List.getElem?_take]at aa;split at Z
     ·rename_i hj;rw [if_pos hj]at aa;rw [List.getElem?_drop]at Z;exact h j v x Z aa
     ·cases Z
    have wO:P.fieldsOf f.type=gs:=by simp [Program.fieldsOf,wY]
    have hin:(Op.equalIn (d+(q+1)+1) f.type (.agg ⟨(vs.drop i).take n⟩) (.agg ⟨(us.drop i).take n⟩)).run P w = .ok r1 w:=by
     rw [run_equalIn_agg w (d+(q+1)) f.type _ _ (by rw [wO];exact wY) aaP,wO]
     exact aaO (d:=d) (i:=0) aaR e1 (l' an) (l' hu) (by simp;omega) (by simp;omega)
    have RX:∀{zs:List Value} {cs:List V},(∀(j:Nat) v x,zs[i+j]? = some v→cs[j]? = some x→cU M v x)→∀(j:Nat) v x,zs[i+n+j]? = some v→(cs.drop n)[j]? = some x→cU M v x:=by
     intro zs cs h j v x Z aa;rw [List.getElem?_drop]at aa;exact h (n+j) v x (by rw [←Nat.add_assoc];exact Z) aa
    rw [aQ]at RW;have ih:=aG (i:=i+n) RW e2 (RX an) (RX hu) (by simp;omega) (by simp;omega)
    simp only [Op.eqFields];rw [if_pos jf];simp only [Sem.run_bind,D5,Result.andThen_ok,hin];cases r1
    ·simp [←e3]
    ·simp [←e3,ih]
   ·have wX:tT P (q+1) (i+1) cd=true∧(isAgg f.type).run P w = .ok false w:=by
     simp only [isAgg,Sem.run_bind];split at gv
     ·rename_i k hk;refine⟨gv,?_⟩;rw [Go.run_underlying hk];rfl
     ·rename_i hk;refine⟨gv,?_⟩;rw [Go.run_underlying hk];rfl
     ·rename_i hk;refine⟨gv,?_⟩;rw [Go.run_underlying hk];rfl
     ·rename_i gs hk;exact absurd ⟨gs,hk⟩ ea
     ·cases gv
    exact RU cf sn jf wX.2 (by rw [D4,RT cf (λgs h=>ea ⟨gs,h⟩)]at he;exact he) an hu gh tY λq' Ar As o0 n6 Kv Z aa=>aG wX.1 o0 n6 Kv Z aa
def RY(cf:fe P tt=true){t:TypeId}{cd:List (Nat×TypeId×Nat)}{fw jL:Nat}{z:List V}{mb:List (Nat×TypeId)}(ab:look tt t=some {k:=.bR cd,size:=fw,bytes:=jL,zero:=z,i_:=mb})(he:JK P t=true){xs ys:List V}{r:Bool}(ah:iE (l8 tt 4 cd) xs ys=some r)
 {hv rh:Value} (an:cU M hv (.agg xs)) (hu:cU M rh (.agg ys)):∃vs us,hv = .agg ⟨vs⟩∧rh = .agg ⟨us⟩∧(Op.equalIn 10000 t (.agg ⟨vs⟩) (.agg ⟨us⟩)).run P w = .ok r w∧∀op a b,(eqGuard op t a b (.agg ⟨vs⟩) (.agg ⟨us⟩)).run P w = .ok () w:=by
 obtain⟨row⟩:=ek cf ab;cases an with
 |agg vs _ hn Z gm=>
  cases hu with
  |agg us _ DH kJ aaS=>
   refine⟨vs,us,rfl,rfl,?_⟩
   unfold JK at he;split at he
   case h_2=>cases he
   rename_i Aq p1;simp only [Bool.and_eq_true,Bool.not_eq_true']at he;obtain⟨⟨aa,ai⟩,ay⟩:=he;have At:P.fieldsOf t=Aq:=by simp [Program.fieldsOf,p1]
   have Kw:row.desc = .struct Aq:=Option.some.inj (row.hd.symm.trans p1)
   have ns:cd=Aq.toList.map λf=>(f.offset,f.type,P.cellsOf f.type):=by
    have:=row.hk
    rw [Kw]at this;simp [kL]at this;exact this.symm
   refine⟨?_,λop a b=>run_eqGuard_agg w op t a b _ _ ai⟩
   rw [run_equalIn_agg w 9999 t _ _ (by rw [At];exact p1) aa,At]
   refine aaN cf 4 (d:=9994) (i:=0) (xs:=xs) (ys:=ys) ay (by rw [ns]at ah;exact ah) (λj v x aJ bE=>gm j v x (by simpa using aJ) bE) (λj v x aJ bE=>aaS j v x (by simpa using aJ) bE) (by omega) (by omega)
def aaT(h:Hyp P K N M β g tmps w p tt){op:BinOp}{t t2:TypeId}{x y:Operand}(am:o.op = .binOp op t x y t2)(hs:step1 (je P) tt ops g p o=some (.go f))(cg:∀q,q∈f.aO→q):Yields P K M β g f o tmps w:=by
 simp only [step1,am]at hs;split at hs
 case h_3=>cases hs
 case h_1=>
  rename_i xs ys ha hb;have o3:=nq (dK (ds:=[]) h.bj h.dA ha);have n9:=nq (dK (ds:=[]) h.bj h.dA hb);split at hs
  case h_2=>cases hs
  rename_i cd fw jL z _ ab;rw [Bool.cond_eq_ite]at hs;split at hs
  case isFalse=>cases hs
  rename_i he;split at hs
  ·rename_i r ah;cases hs;obtain⟨vs,us,e1,e2,Z,aa⟩:=RY (w:=w) (M:=M) h.tt ab he ah o3 n9;exact eO h.bj (rf am e1 e2 (aa _ _ _) (by rw [run_eql_struct,Z];rfl)) (.v _ _ (.bool _))
  ·rename_i r ah;cases hs;obtain⟨vs,us,e1,e2,Z,aa⟩:=RY (w:=w) (M:=M) h.tt ab he ah o3 n9;exact eO h.bj (rf am e1 e2 (aa _ _ _) (by rw [run_neq_struct,Z];rfl)) (.v _ _ (.bool _))
  ·cases hs
 rename_i a b ha hb;simp only [Option.map_eq_some_iff]at hs;obtain⟨⟨z,aO⟩,dJ,hs⟩:=hs;cases hs;have o3:=dK (ds:=[]) h.bj h.dA ha;have n9:=dK (ds:=[]) h.bj h.dA hb;unfold QP at dJ;split at dJ
 ·rename_i cP m aq n;have e1:=lH o3;have e2:=lH n9;split at dJ
  ·rename_i z0 hsh;cases dJ;obtain⟨v,an,ah⟩:=aap (P:=P) (w:=w) (M:=M) (k':=aq) hsh cg t;exact eO h.bj (rf am e1 e2 (wW (by simp) (by simp)) an) (.v _ _ ah)
  rw [Bool.cond_eq_ite]at dJ;split at dJ
  case isFalse=>cases dJ
  rename_i hk;simp only [decide_eq_true_eq]at hk;subst hk;obtain⟨v,an,ah⟩:=aao (P:=P) (w:=w) (M:=M) dJ cg t;exact eO h.bj (rf am e1 e2 (wW (by simp) (by simp)) an) (.v _ _ ah)
 ·have e1:=ma o3;have e2:=ma n9;obtain⟨v,an,ah⟩:=aaq (P:=P) (w:=w) (M:=M) dJ cg t;exact eO h.bj (rf am e1 e2 (wW (by simp) (by simp)) an) (.v _ _ ah)
 ·rename_i c7 jN;have e1:=tU o3;have e2:=tU n9;obtain⟨dep,hm⟩:∃d,Op.maxDepth=d+1:=⟨9999,rfl⟩;cases ab:look tt t with
  |none=>rw [ab]at dJ;simp at dJ
  |some aF=>
   rw [ab]at dJ;obtain⟨r⟩:=ek h.tt ab;split at dJ<;>cases dJ
   ·rename_i hk;simp at hk
    refine eO h.bj (v:=.bool (c7 == jN)) (rf am e1 e2 (wW (by simp) (by simp)) ?_) (.v _ _ (.bool _))
    simp only [binOp,Sem.run_bind];rw [Op.equal,hm,Op.equalIn];simp [r.run_underlying,Kr r hk]
   ·rename_i hk;simp at hk
    refine eO h.bj (v:=.bool (!(c7 == jN))) (rf am e1 e2 (wW (by simp) (by simp)) ?_) (.v _ _ (.bool _))
    simp only [binOp,Sem.run_bind];rw [Op.equal,hm,Op.equalIn];simp [r.run_underlying,Kr r hk]
 ·cases ab:look tt t with
  |none=>rw [ab]at dJ;simp at dJ
  |some aF=>
   rw [ab]at dJ;simp only [Option.map_some]at dJ;obtain⟨r⟩:=ek h.tt ab;rw [Bool.cond_eq_ite]at dJ;split at dJ
   case isFalse=>cases dJ
   rename_i hc;simp only [Bool.and_eq_true]at hc
   have RZ:(eqGuard op t x y ((⟨tmps,[]⟩:Act).eval x) ((⟨tmps,[]⟩:Act).eval y)).run P w = .ok () w:=by
    refine wW ?_ (λ_ _=>hc.2)
    rintro cs ds ⟨_,bF⟩
    rw [bF]at n9;have Kx:=hc.1;unfold Dx at Kx;split at Kx<;>first|(cases nq n9;done)|(cases Kx;done)
   split at dJ<;>cases dJ
   ·rename_i res hn;obtain⟨Z,aa⟩:=RO (w:=w) r o3 n9 hc.1 hn;refine eO h.bj (v:=.bool res) (rf am rfl rfl RZ ?_) (.v _ _ (.bool _));rw [aa .eql];simp [Z]
   ·rename_i res hn;obtain⟨Z,aa⟩:=RO (w:=w) r o3 n9 hc.1 hn;refine eO h.bj (v:=.bool (!res)) (rf am rfl rfl RZ ?_) (.v _ _ (.bool _));rw [aa .neq];simp [Z]
def aaU(h:Hyp P K N M β g tmps w p tt){s:TypeId}{x:Operand}{i:Nat}(am:o.op = .fieldAddr s x i)(hs:step1 bX tt ops g p o=some (.go f)):Yields P K M β g f o tmps w:=by
 simp only [step1,am]at hs;split at hs
 ·rename_i q off cd fw jL z _ hd ab;obtain⟨r⟩:=ek h.tt ab;split at hs
  case h_2=>cases hs
  rename_i dt hD wZ aN;rw [Bool.cond_eq_ite]at hs;split at hs
  case isFalse=>cases hs
  rename_i hc;cases hs;obtain⟨b,hb,an⟩:=q7 (dK (ds:=[]) h.bj h.dA hd);refine eO h.bj (v:=.pointer (some ⟨b,off+dt,none⟩)) ?_ (.ptr _ _ _ hb);simp only [execOp,am,an];exact iS _ (Q7 r rfl aN (by simpa using hc) b off)
 ·rename_i cs cd fw jL z _ hd ab;obtain⟨r⟩:=ek h.tt ab;split at hs
  case h_2=>cases hs
  rename_i dt hD wZ aN;split at hs
  case h_2=>cases hs
  rename_i wN D7;rw [Bool.cond_eq_ite]at hs;split at hs
  case isFalse=>cases hs
  rename_i hc;simp only [Bool.and_eq_true,Nat.ble_eq]at hc;obtain⟨b,off,val,an,cI,Z,ah⟩:=DK (dK (ds:=[]) h.bj h.dA hd)
  have eV:(execOp (Act.eval ⟨tmps,[]⟩) o).run P w = .ok (.value (.pointer (some ⟨b,off+dt,none⟩))) w:=by
   simp only [execOp,am,an];exact iS _ (Q7 r rfl aN hc.1 b off)
  simp only [V.cells]at cI Z ah;rw [Bool.cond_eq_ite]at hs;split at hs
  ·cases hs;have hlen:((cs.drop dt).take wZ).length=wZ:=by simp;omega
   refine eO h.bj eV (.eK b (off+dt) _ (λj=>val (dt+j)) (λj hj=>?_) (λj hj=>?_) (λj c hj=>?_))
   ·simp only [V.cells,hlen]at hj;rw [Nat.add_assoc];exact cI _ (by omega)
   ·simp only [V.cells,hlen]at hj;exact Z _ (by omega)
   ·simp only [V.cells]at hj;rw [List.getElem?_take]at hj;split at hj
    ·rw [List.getElem?_drop]at hj;exact ah _ c hj
    ·cases hj
  ·rw [Bool.cond_eq_ite]at hs;split at hs
   case isFalse=>cases hs
   rename_i dW;split at hs
   case h_2=>cases hs
   rename_i c ki;rw [Bool.cond_eq_ite]at hs;split at hs
   ·cases hs
   ·rename_i aaV;cases hs;have lf:=wM (x:=c) (by simpa using aaV)
    refine eO h.bj eV (.eK b (off+dt) c (λj=>val (dt+j)) (λj hj=>?_) (λj hj=>?_) (λj lG hj=>?_))
    ·rw [lf]at hj;rw [Nat.add_assoc];exact cI _ (by have:=(List.getElem?_eq_some_iff.1 ki).1;simp at hj;omega)
    ·rw [lf]at hj;exact Z _ (by have:=(List.getElem?_eq_some_iff.1 ki).1;simp at hj;omega)
    ·rw [lf]at hj;cases j with
     |zero=>simp at hj;subst hj;exact ah _ _ ki
     |succ j=>simp at hj
 ·cases hs
def aaW(h:Hyp P K N M β g tmps w p tt){s:TypeId}{x:Operand}{i:Nat}(am:o.op = .field s x i)(hs:step1 bX tt ops g p o=some (.go f)):Yields P K M β g f o tmps w:=by
 simp only [step1,am]at hs;split at hs
 case h_3=>cases hs
 case h_2=>
  rename_i cs cd fw jL z _ hd ab;obtain⟨r⟩:=ek h.tt ab;split at hs
  case h_2=>cases hs
  rename_i dt hD wZ aN;split at hs
  case h_2=>cases hs
  rename_i wN c D7 ki;obtain⟨Ky⟩:=ek h.tt D7;rw [Bool.cond_eq_ite]at hs;split at hs
  ·cases hs
  rename_i hc;simp only [Bool.or_eq_true,not_or,Bool.not_eq_true,Bool.not_eq_true',Bool.not_eq_false,Nat.beq_eq]at hc;cases hs;have lj:=dK (ds:=[]) h.bj h.dA hd;generalize um:(⟨tmps,[]⟩:Act).eval x=hv at lj
  cases lj with
  |agg vs _ hn Z ah=>
   have cK:dt<cs.length:=(List.getElem?_eq_some_iff.1 ki).1;have eN:vs[dt]? = some vs[dt]:=List.getElem?_eq_getElem (by omega)
   obtain⟨ha,hb⟩:=Q8 (w:=w) r rfl aN Ky vs (by omega)
   refine eO h.bj (v:=vs[dt]) ?_ (ah _ _ c eN ki);simp only [execOp,am,um];exact iS _ (hb hc.1.1 _ eN)
 rename_i cs cd fw jL z _ hd ab;obtain⟨r⟩:=ek h.tt ab;split at hs
 case h_2=>cases hs
 rename_i dt hD wZ aN;split at hs
 case h_2=>cases hs
 rename_i wN D7;obtain⟨Ky⟩:=ek h.tt D7;rw [Bool.cond_eq_ite]at hs;split at hs
 case isFalse=>cases hs
 rename_i hc;simp only [Nat.ble_eq]at hc;obtain⟨vs,an,hlen,Z,ah⟩:=Zz (dK (ds:=[]) h.bj h.dA hd);obtain⟨ha,hb⟩:=Q8 (w:=w) r rfl aN Ky vs (by omega)
 rw [Bool.cond_eq_ite]at hs;split at hs
 ·rename_i jd;cases hs;refine eO h.bj (v:=.agg ⟨(vs.drop dt).take wZ⟩) ?_ (.v _ _ (.agg _ _ (by simp;omega) (λv an=>Z v (List.mem_of_mem_drop (List.mem_of_mem_take an))) (λj v c an jv=>?_)))
  ·simp only [execOp,am,an];exact iS _ (ha jd)
  ·rw [List.getElem?_take]at an jv;split at an
   ·rename_i hj;rw [if_pos hj,List.getElem?_drop]at jv;rw [List.getElem?_drop]at an;exact ah _ v c an jv
   ·cases an
 ·rename_i jd;split at hs
  case h_2=>cases hs
  rename_i c ki;cases hs;have cK:dt<cs.length:=(List.getElem?_eq_some_iff.1 ki).1;have eN:vs[dt]? = some vs[dt]:=List.getElem?_eq_getElem (by omega)
  refine eO h.bj (v:=vs[dt]) ?_ (.v _ _ (ah _ _ c eN ki));simp only [execOp,am,an];exact iS _ (hb (by simpa using jd) _ eN)
def aaX{x y:V}(an:gL x y){k b off:Nat}{val:Nat→Value}(hk:x.cells.length=k)(cI:∀q,q<k→M b (off+q)=some (val q))(Z:∀q,q<k→(val q).oneCell'=true)
 (ah:∀(q:Nat) c,x.cells[q]? = some c→cU M (val q) c):ce M β (.pointer (some ⟨b,off,none⟩)) (.eK y):=by
 subst hk;have bY:=an M _ (Q5 Z ah);cases hx:x.isAgg with
 |true=>
  rw [hx]at bY;simp only [cond_true]at bY;cases bY with
  |agg vs cs hn kJ fM=>
   have hlen:cs.length=x.cells.length:=by simpa using hn.symm
   refine .eK b off _ val (λj hj=>cI j (by simp only [V.cells]at hj;omega)) (λj hj=>Z j (by simp only [V.cells]at hj;omega)) (λj c hj=>?_)
   simp only [V.cells]at hj;have uf:j<x.cells.length:=by have:=(List.getElem?_eq_some_iff.1 hj).1;omega
   exact fM j (val j) c (by simp [uf]) hj
  |any _ kJ=>simp [Value.oneCell']at kJ
 |false=>
  rw [hx]at bY;simp only [cond_false]at bY;have w0:=wM hx;have iF:=Z 0 (by rw [w0];simp)
  have aaY:y.isAgg=false:=by
   cases y<;>first|rfl|skip
   exfalso
   generalize val 0=u at bY iF
   cases bY;simp [Value.oneCell']at iF
  have Kz:=wM aaY;refine .eK b off y val (λj hj=>cI j (by rw [w0];rw [Kz]at hj;exact hj)) (λj hj=>Z j (by rw [w0];rw [Kz]at hj;exact hj)) (λj c hj=>?_)
  rw [Kz]at hj;cases j with
  |zero=>simp at hj;subst hj;exact bY
  |succ j=>simp at hj
def aaZ(h:Hyp P K N M β g tmps w p tt){t:TypeId}{x i:Operand}(am:o.op = .indexAddr t x i)(hs:step1 bX tt ops g p o=some (.go f))(cg:∀q,q∈f.aO→q):Yields P K M β g f o tmps w:=by
 simp only [step1,am]at hs;split at hs
 case h_2=>cases hs
 rename_i k n get kk j e fw jL z _ hx hi ab;obtain⟨r⟩:=ek h.tt ab;split at hs
 case h_2=>cases hs
 rename_i aq size RP z2 eu;obtain⟨dx⟩:=ek h.tt eu;rw [Bool.cond_eq_ite]at hs;split at hs
 case isFalse=>cases hs
 rename_i hc;simp only [Bool.and_eq_true,Nat.beq_eq,Nat.ble_eq]at hc;obtain⟨rfl,D8⟩:=hc
 have un:∃(y:V) (rs:List e8) (aO:List Prop),f={e:=some {d:=.eK y},rs,aO}∧gL (get j.toNat) y∧a7 j n=true:=by
  split at hs
  ·rename_i y rs eC;cases hs;exact⟨_,_,_,rfl,cg _ (by simp),cg (a7 j n=true) (by simp)⟩
  ·cases hs;exact⟨_,_,_,rfl,λ_ _ h=>h,cg (a7 j n=true) (by simp)⟩
  ·cases hs
 obtain⟨y,rs,aO,rfl,cO,fc⟩:=un;have fc:=RK fc;have KA:=lH (dK (ds:=[]) h.bj h.dA hi);rcases sb (dK (ds:=[]) h.bj h.dA hx) with⟨_,jx⟩|⟨b,off,cap,val,an,_,hk,cI,Z,ah⟩
 ·omega
 ·have cK:j.toNat<n:=by omega
  have bY:ce M β (.pointer (some ⟨b,off+j.toNat*k,none⟩)) (.eK y):=
   aaX cO (hk _ cK) (λq al=>cI _ q cK al) (λq al=>Z _ q cK al) (λq c al=>ah _ q c cK al)
  refine eO h.bj (v:=.pointer (some ⟨b,off+j.toNat*k,none⟩)) ?_ bY;simp only [execOp,am,an,KA];exact iS _ (ZD r rfl dx fc.1 fc.2)
def aa0(h:Hyp P K N M β g tmps w p tt){t:TypeId}{x i:Operand}(am:o.op = .index t x i)(hs:step1 bX tt ops g p o=some (.go f))(cg:∀q,q∈f.aO→q):Yields P K M β g f o tmps w:=by
 simp only [step1,am]at hs;split at hs
 case h_2=>cases hs
 rename_i l kk j fw jL z _ hx hi ab;obtain⟨r⟩:=ek h.tt ab;cases hs;have hb:=RK (cg (a7 j l.length=true) (by simp))
 have ex:=ma (dK (ds:=[]) h.bj h.dA hx);have KA:=lH (dK (ds:=[]) h.bj h.dA hi);refine eO h.bj (v:=.int .u8 (l.getD j.toNat 0).toNat) ?_ (.v _ _ (.int _ _));simp only [execOp,am,ex,KA];exact iS _ (ZE r rfl hb.1 hb.2)
def aa1{k n m:Nat}{get:Nat→V}{a:Nat}{b off cap:Nat}
 {val:Nat→Nat→Value} (hk:∀i,i<n→(get i).cells.length=k) (cI:∀i j,i<n→j<k→M b (off+i*k+j)=some (val i j)) (Z:∀i j,i<n→j<k→(val i j).oneCell'=true)
 (ah:∀(i j:Nat) c,i<n→(get i).cells[j]? = some c→cU M (val i j) c) (hm:a+m≤n) (hc:m≤cap):
 cU M (.slice (some ⟨b,off+a*k,none⟩) m cap) (.br k m λi=>get (a+i)):=by
 refine .br b (off+a*k) k m cap _ (λi j=>val (a+i) j) hc (λi hi=>hk _ (by omega)) (λi j hi hj=>?_) (λi j hi hj=>Z _ _ (by omega) hj) (λi j c hi lf=>ah _ _ _ (by omega) lf)
 have:=cI (a+i) j (by omega) hj
 rw [Nat.add_mul]at this
 rwa [show off+a*k+i*k+j=off+(a*k+i*k)+j by omega]
def D9{t e:TypeId}{aF b1:es}(r:Row P t aF)(hk:aF.k = .br e)(dx:Row P e b1){base:Option Addr}{n cap:Nat}{lo hi:Option Value}{a b:Nat}
 (jz:lo=none∧a=0∨∃k,lo=some (.int k a)) (iT:hi=none∧b=n∨∃k,hi=some (.int k b)) (mF:a≤b) (p2:b≤n) (me:n≤cap):
 (Instr.sliceAt t (.slice base n cap) lo hi none).run P w = .ok (.slice (if cap=a then base else base.map (·.add (a*b1.size))) (b-a) (cap-a)) w:=by
 have hu:=r.run_underlying w;rw [oY r hk]at hu;have D':b≤cap:=by omega
 rcases jz with⟨rfl,rfl⟩|⟨cP,rfl⟩<;>rcases iT with⟨rfl,rfl⟩|⟨aq,rfl⟩
 ·simp [Instr.sliceAt,hu,Instr.slice,Instr.sliceBounds,dx.run_sizeOf]
 ·simp [Instr.sliceAt,hu,Instr.slice,Instr.sliceBounds,Instr.sliceBound,asIntOf,dx.run_sizeOf,D']
 ·simp [Instr.sliceAt,hu,Instr.slice,Instr.sliceBounds,Instr.sliceBound,asIntOf,dx.run_sizeOf,mF]
 ·simp [Instr.sliceAt,hu,Instr.slice,Instr.sliceBounds,Instr.sliceBound,asIntOf,dx.run_sizeOf,D',mF]
end
section
variable {P:Program} {K:Ctx} {N:Nat} {M:Mem} {β:Nat→Option Nat} {st:aD} {g:c6} {tmps:Array Value} {w:World} {o:Oper} {f:kE} {p:Path} {tt:dq} {bX:gf} {ops:List Oper}
def ri{t:TypeId}{x:Operand}{lo hi lD:Option Operand}(am:o.op = .slice t x lo hi lD){v u:Value}(hx:(⟨tmps,[]⟩:Act).eval x=v){a b:Option Value}(ha:lo.map (⟨tmps,[]⟩:Act).eval=a)(hb:hi.map (⟨tmps,[]⟩:Act).eval=b){c:Option Value}(hm:lD.map (⟨tmps,[]⟩:Act).eval=c)
 (h:(Instr.sliceAt t v a b c).run P w = .ok u w):(execOp (Act.eval ⟨tmps,[]⟩) o).run P w = .ok (.value u) w:=by
 simp only [execOp,am,hx,ha,hb,hm];exact iS _ h
def D_{t:TypeId}{aF:es}(r:Row P t aF)(hk:aF.k = .str){l:anT}{lo hi:Option Value}{a b:Nat}
 (jz:lo=none∧a=0∨∃k,lo=some (.int k a)) (iT:hi=none∧b=l.length∨∃k,hi=some (.int k b)) (mF:a≤b) (p2:b≤l.length):
 (Instr.sliceAt t (.string ⟨⟨l⟩⟩) lo hi none).run P w = .ok (.string ⟨⟨(l.take b).drop a⟩⟩) w:=by
 have hu:=r.run_underlying w;rw [pV r hk]at hu;have hs:(⟨⟨l⟩⟩:ByteArray).size=l.length:=rfl
 have hx:(⟨⟨l⟩⟩:ByteArray).extract a b=⟨⟨(l.take b).drop a⟩⟩:=by
  have:=ByteArray.extract_mk l a b
  rw [List.drop_take];exact this
 rcases jz with⟨rfl,rfl⟩|⟨cP,rfl⟩<;>rcases iT with⟨rfl,rfl⟩|⟨aq,rfl⟩
 ·simp [Instr.sliceAt,hu,Instr.slice,Instr.sliceBounds]
 ·simp [Instr.sliceAt,hu,Instr.slice,Instr.sliceBounds,Instr.sliceBound,asIntOf,p2,hs,hx]
 ·simp [Instr.sliceAt,hu,Instr.slice,Instr.sliceBounds,Instr.sliceBound,asIntOf,mF,hs,hx]
 ·simp [Instr.sliceAt,hu,Instr.slice,Instr.sliceBounds,Instr.sliceBound,asIntOf,p2,mF,hs,hx]
def Au{v:Value}{k n:Nat}{get:Nat→V}(an:ce M β v (.v (.br k n get))){a b:Nat}(mF:a≤b)(p2:b≤n){base:Option Addr}{cap:Nat}(uo:v = .slice base n cap)(me:n≤cap):
 cU M (.slice (if cap=a then base else base.map (·.add (a*k))) (b-a) (cap-a)) (.br k (b-a) λi=>get (a+i)):=by
 rcases sb an with⟨Z|⟨a0,Z⟩,aa⟩|⟨n7,off,Ry,val,Z,hc,hk,cI,kJ,ah⟩
 ·rw [uo]at Z;cases Z;have:b=0:=by omega
  subst this;have:a=0:=by omega
  subst this;exact .lC _ _
 ·rw [uo]at Z;cases Z;have:b=0:=by omega
  subst this;have:a=0:=by omega
  subst this;exact .oP _ _ _
 ·rw [uo]at Z;cases Z;by_cases R0:cap=a
  ·rw [if_pos R0];have:b-a=0:=by omega
   rw [this];exact .br n7 off k 0 _ _ (λ_ _=>undef) (Nat.zero_le _) (by simp) (by simp) (by simp) (by simp)
  ·rw [if_neg R0];simp only [Option.map_some,addr_add];exact aa1 hk cI kJ ah (by omega) (by omega)
def aa2(h:Hyp P K N M β g tmps w p tt){t:TypeId}{x:Operand}{lo hi lD:Option Operand}(am:o.op = .slice t x lo hi lD)(hs:step1 bX tt ops g p o=some (.go f))(cg:∀q,q∈f.aO→q):Yields P K M β g f o tmps w:=by
 have fk:∀{y:Option Operand} {kk:IntKind} {n:Int},y.map (λy=>rd g.env g.bL p tt o.type y)=some (some (.v (.int kk n)))→y.map (⟨tmps,[]⟩:Act).eval=some (.int kk n):=by
  intro y kk n bY;cases y with
  |none=>simp at bY
  |some y=>
   simp at bY
   simp [lH (dK (ds:=[]) h.bj h.dA bY)]
 have so:∀{y:Option Operand},y.map (λy=>rd g.env g.bL p tt o.type y)=none→y.map (⟨tmps,[]⟩:Act).eval=none:=by
  intro y bY;simp at bY;simp [bY]
 simp only [step1,am]at hs;split at hs
 ·rename_i fw jL z _ ab;obtain⟨r⟩:=ek h.tt ab;split at hs
  ·rename_i l hx jz iT;cases hs;have ex:=ma (dK (ds:=[]) h.bj h.dA hx);have:=D_ (w:=w) r rfl (l:=l) (lo:=none) (hi:=none) (a:=0) (b:=l.length) (.inl ⟨rfl,rfl⟩) (.inl ⟨rfl,rfl⟩) (by omega) (by omega)
   simp at this
   exact eO h.bj (ri am ex (so jz) (so iT) rfl this) (.v _ _ (.str _))
  ·rename_i l cP a hx jz iT;cases hs;have ex:=ma (dK (ds:=[]) h.bj h.dA hx);have hb:=ul (cg (gC a l.length=true) (by simp))
   obtain⟨dD,rfl⟩:=Int.eq_ofNat_of_zero_le hb.1;have:=D_ (w:=w) r rfl (l:=l) (lo:=some (.int cP dD)) (hi:=none) (a:=dD) (b:=l.length) (.inr ⟨_,rfl⟩) (.inl ⟨rfl,rfl⟩) (by omega) (by omega)
   simp at this
   exact eO h.bj (ri am ex (fk jz) (so iT) rfl this) (.v _ _ (.str _))
  ·rename_i l aq b hx jz iT;cases hs;have ex:=ma (dK (ds:=[]) h.bj h.dA hx);have hb:=ul (cg (gC b l.length=true) (by simp))
   obtain⟨bp,rfl⟩:=Int.eq_ofNat_of_zero_le hb.1;have:=D_ (w:=w) r rfl (l:=l) (lo:=none) (hi:=some (.int aq bp)) (a:=0) (b:=bp) (.inl ⟨rfl,rfl⟩) (.inr ⟨_,rfl⟩) (by omega) (by omega)
   simp at this
   exact eO h.bj (ri am ex (so jz) (fk iT) rfl this) (.v _ _ (.str _))
  ·rename_i l cP a aq b hx jz iT;cases hs;have ex:=ma (dK (ds:=[]) h.bj h.dA hx);have hb:=RL (cg (lB a b l.length=true) (by simp))
   obtain⟨dD,rfl⟩:=Int.eq_ofNat_of_zero_le hb.1;obtain⟨bp,rfl⟩:=Int.eq_ofNat_of_zero_le (a:=b) (by omega)
   have:=D_ (w:=w) r rfl (l:=l) (lo:=some (.int cP dD)) (hi:=some (.int aq bp)) (a:=dD) (b:=bp) (.inr ⟨_,rfl⟩) (.inr ⟨_,rfl⟩) (by omega) (by omega)
   exact eO h.bj (ri am ex (fk jz) (fk iT) rfl this) (.v _ _ (.str _))
  ·cases hs
 ·rename_i e fw jL z _ ab;obtain⟨r⟩:=ek h.tt ab;split at hs
  ·rename_i cP size Av kl k n get aq a eu hx jz iT;obtain⟨dx⟩:=ek h.tt eu;rw [Bool.cond_eq_ite]at hs;split at hs
   case isFalse=>cases hs
   rename_i hH;simp only [Nat.beq_eq]at hH;subst hH
   have un:∃(y:V) (rs:List e8) (aO:List Prop),f={e:=some {d:=.v y},rs,aO}∧gL (.br k (n-a.toNat) λi=>get (a.toNat+i)) y∧gC a n=true:=by
    split at hs
    ·rename_i y rs eC;cases hs;exact⟨_,_,_,rfl,cg _ (by simp),cg (gC a n=true) (by simp)⟩
    ·cases hs;exact⟨_,_,_,rfl,λ_ _ h=>h,cg (gC a n=true) (by simp)⟩
    ·cases hs
   obtain⟨y,rs,aO,rfl,an,hb⟩:=un;have hb:=ul hb;obtain⟨dD,rfl⟩:=Int.eq_ofNat_of_zero_le hb.1;have kM:=dK (ds:=[]) h.bj h.dA hx;obtain⟨base,cap,ex,me⟩:=tV kM;have:=D9 (w:=w) r rfl dx (base:=base) (n:=n) (cap:=cap) (lo:=some (.int aq dD)) (hi:=none) (a:=dD) (b:=n) (.inr ⟨_,rfl⟩) (.inl ⟨rfl,rfl⟩) (by omega) (by omega) me
   refine eO h.bj (ri am ex (fk jz) (so iT) rfl this) (.v _ _ (an _ _ ?_));have:=Au kM (a:=dD) (b:=n) (by omega) (by omega) ex me
   simpa using this
  ·rename_i cP size Av kl k n get aq b eu hx jz iT;obtain⟨dx⟩:=ek h.tt eu;rw [Bool.cond_eq_ite]at hs;split at hs
   case isFalse=>cases hs
   rename_i hH;simp only [Nat.beq_eq]at hH;subst hH
   have un:∃(y:V) (rs:List e8) (aO:List Prop),f={e:=some {d:=.v y},rs,aO}∧gL (.br k b.toNat get) y∧gC b n=true:=by
    split at hs
    ·rename_i y rs eC;cases hs;exact⟨_,_,_,rfl,cg _ (by simp),cg (gC b n=true) (by simp)⟩
    ·cases hs;exact⟨_,_,_,rfl,λ_ _ h=>h,cg (gC b n=true) (by simp)⟩
    ·cases hs
   obtain⟨y,rs,aO,rfl,an,hb⟩:=un;have hb:=ul hb;obtain⟨bp,rfl⟩:=Int.eq_ofNat_of_zero_le hb.1;have kM:=dK (ds:=[]) h.bj h.dA hx;obtain⟨base,cap,ex,me⟩:=tV kM;have:=D9 (w:=w) r rfl dx (base:=base) (n:=n) (cap:=cap) (lo:=none) (hi:=some (.int aq bp)) (a:=0) (b:=bp) (.inl ⟨rfl,rfl⟩) (.inr ⟨_,rfl⟩) (by omega) (by omega) me
   refine eO h.bj (ri am ex (so jz) (fk iT) rfl this) (.v _ _ (an _ _ ?_));have:=Au kM (a:=0) (b:=bp) (by omega) (by omega) ex me
   simpa using this
  ·rename_i cP size Av kl k n get aq a eb b eu hx jz iT;obtain⟨dx⟩:=ek h.tt eu;rw [Bool.cond_eq_ite]at hs;split at hs
   case isFalse=>cases hs
   rename_i hH;simp only [Nat.beq_eq]at hH;subst hH
   have un:∃(y:V) (rs:List e8) (aO:List Prop),f={e:=some {d:=.v y},rs,aO}∧gL (.br k (b.toNat-a.toNat) λi=>get (a.toNat+i)) y∧lB a b n=true:=by
    split at hs
    ·rename_i y rs eC;cases hs;exact⟨_,_,_,rfl,cg _ (by simp),cg (lB a b n=true) (by simp)⟩
    ·cases hs;exact⟨_,_,_,rfl,λ_ _ h=>h,cg (lB a b n=true) (by simp)⟩
    ·cases hs
   obtain⟨y,rs,aO,rfl,an,hb⟩:=un;have hb:=RL hb;obtain⟨dD,rfl⟩:=Int.eq_ofNat_of_zero_le hb.1;obtain⟨bp,rfl⟩:=Int.eq_ofNat_of_zero_le (a:=b) (by omega)
   have kM:=dK (ds:=[]) h.bj h.dA hx;obtain⟨base,cap,ex,me⟩:=tV kM;have:=D9 (w:=w) r rfl dx (base:=base) (n:=n) (cap:=cap) (lo:=some (.int aq dD)) (hi:=some (.int eb bp)) (a:=dD) (b:=bp) (.inr ⟨_,rfl⟩) (.inr ⟨_,rfl⟩) (by omega) (by omega) me
   refine eO h.bj (ri am ex (fk jz) (fk iT) rfl this) (.v _ _ (an _ _ ?_));have:=Au kM (a:=dD) (b:=bp) (by omega) (by omega) ex me
   simpa using this
  ·rename_i cP size Av kl k n get eu hx jz iT;obtain⟨dx⟩:=ek h.tt eu;rw [Bool.cond_eq_ite]at hs;split at hs
   case isFalse=>cases hs
   rename_i hH;simp only [Nat.beq_eq]at hH;subst hH;cases hs;have kM:=dK (ds:=[]) h.bj h.dA hx;obtain⟨base,cap,ex,me⟩:=tV kM;have:=D9 (w:=w) r rfl dx (base:=base) (n:=n) (cap:=cap) (lo:=none) (hi:=none) (a:=0) (b:=n) (.inl ⟨rfl,rfl⟩) (.inl ⟨rfl,rfl⟩) (by omega) (by omega) me
   refine eO h.bj (ri am ex (so jz) (so iT) rfl this) (.v _ _ ?_);have:=Au kM (a:=0) (b:=n) (by omega) (by omega) ex me
   simpa using this
  ·cases hs
 ·rename_i m e fw jL z _ ab;obtain⟨r⟩:=ek h.tt ab;split at hs
  case h_2=>cases hs
  rename_i size Av kl k n get aq b eb c eu hx iT hm;obtain⟨dx⟩:=ek h.tt eu;rw [Bool.cond_eq_ite]at hs;split at hs
  case isFalse=>cases hs
  rename_i hH;simp only [Nat.beq_eq]at hH;subst hH;cases hs;have D':=cg (b=c) (by simp)
  subst D';have hb:=ul (cg (gC b n=true) (by simp))
  obtain⟨bp,rfl⟩:=Int.eq_ofNat_of_zero_le hb.1;have kM:=dK (ds:=[]) h.bj h.dA hx;obtain⟨base,cap,ex,me⟩:=tV kM;have p2:bp≤n:=by omega
  have hu:=r.run_underlying w;rw [oY r rfl]at hu
  have eV:(Instr.sliceAt t (.slice base n cap) none (some (.int aq bp)) (some (.int eb bp))).run P w = .ok (.slice (if bp=0 then base else base.map (·.add (0*k))) bp bp) w:=by
   have Z:bp≤cap:=by omega
   simp [Instr.sliceAt,hu,Instr.slice,Instr.sliceBounds,Instr.sliceBound,asIntOf,dx.run_sizeOf,Z]
  have aa3:(if bp=0 then base else base.map (·.add (0*k)))=base:=by
   split
   ·rfl
   ·cases base with
    |none=>rfl
    |some a=>simp [Addr.add]
  rw [aa3]at eV;have em:(some m).map (⟨tmps,[]⟩:Act).eval=some (.int eb bp):=fk (y:=some m) hm;refine eO h.bj (ri am ex rfl (fk iT) em eV) (.full base k _ get ?_);have R1:=Au kM (a:=0) (b:=bp) (by omega) p2 ex me
  simp only [Nat.sub_zero]at R1 ⊢;have R2:cU M (.slice (if cap=0 then base else base.map (·.add (0*k))) bp cap) (.br k bp get):=by simpa using R1
  have fc:(if cap=0 then base else base.map (·.add (0*k)))=base:=by
   split
   ·rfl
   ·cases base with
    |none=>rfl
    |some a=>simp [Addr.add]
  rw [fc]at R2;cases R2 with
  |lC=>exact .lC _ _
  |oP a=>exact .oP _ _ _
  |br tL off k n cap get val hc hk cI Z h=>exact .br tL off k _ _ get val (Nat.le_refl _) hk cI Z h
 ·cases hs
def R3{c:Call}(am:o.op = .call c)(hc:c.callee = .builtin .len){a:Operand}(ff:c.args.toList=[a]){t:TypeId}(gv:c.argTypes.toList[0]? = some t){hv v:Value}(ha:(⟨tmps,[]⟩:Act).eval a=hv)
 (h:∀ty,(Builtin.len_ #[t] ty #[hv]).run P w = .ok v w):(execOp (Act.eval ⟨tmps,[]⟩) o).run P w = .ok (.value v) w:=by
 have t_:c.args = #[a]:=by apply Array.ext';simpa using ff
 have J8:∀ty,(Builtin.len_ c.argTypes ty #[hv]).run P w = .ok v w:=by
  intro ty;have h0:c.argTypes[0]? = some t:=by simpa using gv
  have:=h ty
  simp only [Builtin.len_,h0]at this ⊢;exact this
 simp only [execOp,am,resolve,hc,t_,Sem.run_bind,Sem.run_pure,Result.andThen_ok,invoke,builtin,List.map_toArray,List.map_cons,List.map_nil,ha];simp [J8]
def R4{F:Nat→Option Nat}{l co:List D}(h:kF F l=some co):co.length=l.length:=(wD h).1.symm
def aa4 {c : Call} (am : o.op = .call c) {x : Operand} (hc : c.callee = .value x) {fn : FuncId} {vs : List Value} (hx : (⟨tmps, []⟩ : Act).eval x = .func (.func fn) #[] ⟨vs⟩) {fd : Func} (aN : P.funcs[fn]? = some fd) (hb : fd.body.isSome = true) (hn : fd.name ≠ "runtime.NumGoroutine") :
 (execOp (Act.eval ⟨tmps,[]⟩) o).run P w = .ok (.enter fn ⟨c.args.toList.map (⟨tmps,[]⟩:Act).eval++vs⟩) w:=by
 have p2:fd.body≠none:=by intro bf;rw [bf]at hb;cases hb
 simp [execOp,am,resolve,hc,hx,Deferred.ofValue,invoke,callFunc,aN,p2,hn]
def R5{F:TypeId→Operand→Option D}:∀{xs:List Operand} {ts:List TypeId} {ds:List D},lb F xs ts=some ds→ds.length=xs.length∧∀(i:Nat) x d,xs[i]? = some x→ds[i]? = some d→∃t,F t x=some d
 |[],ts,ds,h=>by simp [lb]at h;subst h;simp
 |x::xs,[],ds,h=>by simp [lb]at h
 |x::xs,t::ts,ds,h=>by
  simp only [lb]at h;split at h
  case h_2=>cases h
  rename_i d aa5 hd hG;cases h;obtain⟨Z,aa⟩:=R5 hG;refine⟨by simp [Z],λi y e bY he=>?_⟩
  cases i with
  |zero=>simp at bY he;subst bY;subst he;exact⟨t,hd⟩
  |succ i=>simp at bY he;exact aa i y e bY he
mutual
def R6{ρ:List Nat}:∀(d:D) {di:D},d_ (idx ρ) d=some di→d_ (λj=>ρ[j]?) di=some d
 |.v x,di,h=>by simp [d_]at h;subst h;simp [d_]
 |.ptr r off,di,h=>by
  simp only [d_,Option.map_eq_some_iff]at h;obtain⟨j,hj,rfl⟩:=h;simp [d_,DU hj]
 |.ca r off u,di,h=>by
  simp only [d_,Option.map_eq_some_iff]at h;obtain⟨j,hj,rfl⟩:=h;simp [d_,DU hj]
 |.eK x,di,h=>by simp [d_]at h;subst h;simp [d_]
 |.full k n get,di,h=>by simp [d_]at h;subst h;simp [d_]
 |.fn g eT,di,h=>by
  simp only [d_,Option.map_eq_some_iff]at h;obtain⟨l,ab,rfl⟩:=h;simp [d_,Ea eT ab]
 |.agg cs,di,h=>by
  simp only [d_,Option.map_eq_some_iff]at h;obtain⟨l,ab,rfl⟩:=h;simp [d_,Ea cs ab]
 |.cm cs,di,h=>by
  simp only [d_,Option.map_eq_some_iff]at h;obtain⟨l,ab,rfl⟩:=h;simp [d_,Ea cs ab]
def Ea{ρ:List Nat}:∀(l:List D) {co:List D},kF (idx ρ) l=some co→kF (λj=>ρ[j]?) co=some l
 |[],co,h=>by simp [kF]at h;subst h;simp [kF]
 |d::l,co,h=>by
  simp only [kF]at h;split at h
  case h_2=>cases h
  rename_i d1 gZ hd ab;cases h;simp [kF,R6 d hd,Ea l ab]
end
def R7{ρ:List Nat}:∀{b bp:List aP},mx (idx ρ) b=some bp→mx (λj=>ρ[j]?) bp=some b
 |[],bp,h=>by simp [mx]at h;subst h;simp [mx]
 |e::l,bp,h=>by
  simp only [mx]at h;split at h
  case h_2=>cases h
  rename_i e1 gZ he ab;cases h;simp only [Dy,Option.map_eq_some_iff]at he;obtain⟨d,hd,rfl⟩:=he;simp [mx,Dy,R6 _ hd,R7 ab]
def R8{ρ:List Nat}:∀{bs o1:List (List aP)},ju (idx ρ) bs=some o1→ju (λj=>ρ[j]?) o1=some bs
 |[],o1,h=>by simp [ju]at h;subst h;simp [ju]
 |b::l,o1,h=>by
  simp only [ju]at h;split at h
  case h_2=>cases h
  rename_i c7 gZ hb ab;cases h;simp [ju,R7 hb,R8 ab]
def aa6{st:aD}(h:bv P K M β st tmps w){ρ:List Nat}{bs H1:List (List aP)}(hn:my ρ=true)(kj:boxes st.H ρ=some bs)(lK:ju (idx ρ) bs=some H1)
 {os:List Nat} {out:Out} {v:Value} {w':World} {M':Mem} {β':Nat→Option Nat} (iI:bv P (jO M β st tmps w ρ os) M' β' {env:=hZ out,H:=cB 0 H1,aL:=ρ.length} #[v] w'):
 M.le M'∧bv P K M' β {st with env:=gM os st.env} tmps w'∧
 (∀d own,out = .ret d own→∀di,d_ (λj=>ρ[j]?) d=some di→ce M' β v di∧∀T l0,own=some T→mz P K M' β {st with env:=gM os st.env} tmps w' l0 v T)∧
 (∀x,out = .a8 x→cU M' v x):=by
 obtain⟨cO,fc⟩:=ud kj;have e0:H1.length=ρ.length:=by rw [(wS lK).1,cO]
 obtain⟨Z,aa,ai,ay⟩:=Kl h hn kj (R8 lK) e0 iI
 have jP:∀r,look (kG ρ bs++st.H) r=look st.H r:=by
  intro r;obtain⟨aJ,bE⟩:=Ke (H:=st.H) (ρ:=ρ) (bs:=bs) cO hn r;by_cases hj:∃(j:Nat),ρ[j]? = some r
  ·obtain⟨j,hj⟩:=hj;rw [aJ j hj,(fc j r hj).1]
  ·exact bE λj bf=>hj ⟨j,bf⟩
 have f0:∀l,({env:=gM os st.env,H:=kG ρ bs++st.H,aL:=st.aL}:aD).at l=({st with env:=gM os st.env}:aD).at l:=by
  intro l;cases l with
  |slot s=>rfl
  |cell r i=>simp only [aD.at,jP]
 refine⟨Z,aa.sub rfl (λl e ab=>⟨e,by rw [f0];exact ab,rfl,λ_ h=>h⟩) (λr cs ah=>⟨cs,by rw [←ah];exact jP r,rfl⟩),λd own hd di jJ=>?_,ay⟩
 obtain⟨aJ,bE⟩:=ai d own hd di jJ;refine⟨aJ,λT l0 az=>?_⟩
 obtain⟨cz,dh,eH⟩:=bE T l0 az;exact⟨cz,λl e T' b ab=>dh l e T' b (by rw [f0];exact ab),λb r cs hb ah=>eH b r cs hb (by rw [←ah];exact jP r)⟩
def R9(P:Program)(K:Ctx)(M:Mem)(β:Nat→Option Nat)(g:c6)(s:nj)(o:Oper)(tmps:Array Value)(w:World):Prop:=
 match s with
 |.go f=>(∀q,q∈f.aO→q)→Yields P K M β g f o tmps w
 |.a8 x hs aO=>(∀q,q∈aO→q)→aan P K M β g x hs o tmps w
def R'{os:List Nat}{env:List (Nat×aP)}{s:Nat}{e:aP}(h:look env s=some e):∃bN,look (gM os env) s=some bN∧bN.d=e.d:=by
 rw [np,h];split
 ·exact⟨_,rfl,rfl⟩
 ·exact⟨_,rfl,rfl⟩
def KB{g:c6}(h:fy P K N M β g tmps w){xs:List Operand}{ts:List TypeId}:∀{os:List Nat} {hd:List (Nat×Option Nat×TypeId)},handed tt g xs ts os=some hd→∀{vs:List Value},
 (∀(i:Nat) t,xs[i]? = some (.tmp t)→vs[i]? = some (tmps.getD t undef))→(∀(i:Nat),xs[i]? = some (.const (.slice none 0 0))→vs[i]? = some (.slice none 0 0))→
 Handed {env:=g.env,H:=g.H,aL:=g.aL} tmps vs hd
 |[],hd,bf,vs,_,_=>by
  simp [handed]at bf;subst bf;exact⟨by simp,by simp,by simp⟩
 |i::os,hd,bf,vs,Z,aa=>by
  simp only [handed]at bf;split at bf
  ·rename_i t l hx ab;have aG:=KB h ab Z aa;split at bf
   case h_2=>cases bf
   rename_i d e he;rw [Bool.cond_eq_ite]at bf;split at bf
   case isFalse=>cases bf
   rename_i hc;simp only [Bool.and_eq_true,List.all_eq_true,Bool.not_eq_true']at hc;cases bf;refine⟨λl_ bC T hm=>?_,λl_ T hm=>?_,λl_ ug bC T T' hm jA=>?_⟩
   ·rcases List.mem_cons.1 hm with hm|hm
    ·cases hm;exact⟨_,he,rfl,Z i t hx⟩
    ·exact aG.some l_ bC T hm
   ·rcases List.mem_cons.1 hm with hm|hm
    ·cases hm
    ·exact aG.none l_ T hm
   ·rcases List.mem_cons.1 hm with hm|hm<;>rcases List.mem_cons.1 jA with jA|jA
    ·cases hm;cases jA;rfl
    ·cases hm;have:=(hc.2 _ jA).1
     simp at this
    ·cases jA;have:=(hc.2 _ hm).1
     simp at this
    ·exact aG.inj l_ ug bC T T' hm jA
  ·rename_i l hx ab;have aG:=KB h ab Z aa;split at bf
   case h_2=>cases bf
   rename_i e fw jL z _ he;rw [Bool.cond_eq_ite]at bf;split at bf
   case isFalse=>cases bf
   cases bf;refine⟨λl_ bC T hm=>?_,λl_ T hm=>?_,λl_ ug bC T T' hm jA=>?_⟩
   ·rcases List.mem_cons.1 hm with hm|hm
    ·cases hm
    ·exact aG.some l_ bC T hm
   ·rcases List.mem_cons.1 hm with hm|hm
    ·cases hm;exact aa i hx
    ·exact aG.none l_ T hm
   ·rcases List.mem_cons.1 hm with hm|hm<;>rcases List.mem_cons.1 jA with jA|jA
    ·cases hm
    ·cases hm
    ·cases jA
    ·exact aG.inj l_ ug bC T T' hm jA
  ·cases bf
def aa7(h:Hyp P K N M β g tmps w p tt){c:Call}(am:o.op = .call c){x:Operand}(hc:c.callee = .value x){fn:FuncId}{eT ds:List D}(hx:rd g.env g.bL p tt o.type x=some (.fn fn eT))
 (hG:lb (rd g.env g.bL p tt) c.args.toList c.argTypes.toList=some ds) {s:nj} (hs:wA (je P) tt g p c.args.toList c.argTypes.toList fn (ds++eT)=some s):
 R9 P K M β g s o tmps w:=by
 obtain⟨vs,an,hlen,ah⟩:=Q4 (dK (ds:=[]) h.bj h.dA hx);obtain⟨gg,iG⟩:=R5 hG
 have ff:∀(i:Nat) v d,(c.args.toList.map (⟨tmps,[]⟩:Act).eval++vs)[i]? = some v→(ds++eT)[i]? = some d→ce M β v d:=by
  intro i v d eN sl;by_cases hi:i<c.args.toList.length
  ·rw [List.getElem?_append_left (by simpa using hi),List.getElem?_map,Option.map_eq_some_iff]at eN
   obtain⟨y,bY,rfl⟩:=eN;rw [List.getElem?_append_left (by omega)]at sl
   obtain⟨ty,gv⟩:=iG i y d bY sl;exact dK h.bj h.dA gv
  ·rw [List.getElem?_append_right (by simp;simp at hi;omega)]at eN
   rw [List.getElem?_append_right (by omega)]at sl
   refine ah _ v d eN ?_;rw [gg]at sl;simpa using sl
 have KC:(c.args.toList.map (⟨tmps,[]⟩:Act).eval++vs).length=(ds++eT).length:=by simp at gg ⊢;omega
 unfold wA at hs
 dsimp only at hs
 generalize lh:n1 g.H 2 (dedup ((ds++eT).flatMap refs))=ρ at hs
 split at hs
 case h_2=>cases hs
 rename_i out ct os rs eC;split at hs
 case h_2=>cases hs
 rename_i ja H1 hd R_ lK ue;rw [Option.bind_eq_some_iff]at lK;obtain⟨bs,kj,lK⟩:=lK;rw [Bool.cond_eq_ite]at hs;split at hs
 ·cases hs
 rename_i Sa
 have hn:my ρ=true:=by
  have:(!my ρ || !(List.isEmpty p||List.isEmpty os))=false:=by simpa using Sa
  simp only [Bool.or_eq_false_iff,Bool.not_eq_false']at this;exact this.1
 have eZ:=KB h.bj ue (vs:=c.args.toList.map (⟨tmps,[]⟩:Act).eval++vs) (λi t aC=>by
  rw [List.getElem?_append_left (by simpa using(List.getElem?_eq_some_iff.1 aC).1),List.getElem?_map,aC];rfl) (λi aC=>by
  rw [List.getElem?_append_left (by simpa using(List.getElem?_eq_some_iff.1 aC).1),List.getElem?_map,aC];rfl)
 have dV:=RC (st:={env:=g.env,H:=g.H,aL:=g.aL}) h.bj.bj hn kj lK KC ff R_ eZ;have e0:H1.length=ρ.length:=by rw [(wS lK).1,(ud kj).1]
 -- Km lJ contract aa8, ame lJ boxes behind it
 have key:∀{uq:List (List aP)},gw P fn ja (sj hd) H1 out uq→(execOp (Act.eval ⟨tmps,[]⟩) o).run P w = .ok (.enter fn ⟨c.args.toList.map (⟨tmps,[]⟩:Act).eval++vs⟩) w∧
  Calls P fn ⟨c.args.toList.map (⟨tmps,[]⟩:Act).eval++vs⟩ w λe w'=>∃v M' β',e=si out v∧
   bv P (jO M β {env:=g.env,H:=g.H,aL:=g.aL} tmps w ρ (pZ hd)) M' β' {env:=hZ out,H:=cB 0 uq,aL:=ρ.length} #[v] w':=by
  intro uq aa9;obtain⟨⟨fd,jw,KD,jf⟩,aa'⟩:=aa9;refine⟨aa4 am hc an jw KD jf,(aa' _ w _ M _ (by rw [KC,R4 R_]) dV (λr b hb=>hb)).mono ?_⟩
  rintro e w' ⟨o',bA,v,M',β',⟨rfl,rfl⟩,he,cw⟩
  rw [e0]at cw;exact⟨v,M',β',he,cw⟩
 -- lJ boxes as amf amg, named amh and back
 have back:∀{uq aa_:List (List aP)},ju (λj=>ρ[j]?) uq=some aa_→uq.length=ρ.length→∀{v:Value} {w':World} {M':Mem} {β':Nat→Option Nat},
  bv P (jO M β {env:=g.env,H:=g.H,aL:=g.aL} tmps w ρ (pZ hd)) M' β' {env:=hZ out,H:=cB 0 uq,aL:=ρ.length} #[v] w'→_:=
  λhx ab _ _ _ _ hp=>Kl (st:={env:=g.env,H:=g.H,aL:=g.aL}) h.bj.bj hn kj hx ab hp
 have Sb:∀{v:Value} {w':World} {M':Mem} {β':Nat→Option Nat},
  bv P (jO M β {env:=g.env,H:=g.H,aL:=g.aL} tmps w ρ (pZ hd)) M' β' {env:=hZ out,H:=cB 0 H1,aL:=ρ.length} #[v] w'→
  M.le M'∧bv P K M' β {env:=gM (pZ hd) g.env,H:=g.H,aL:=g.aL} tmps w'∧
  (∀d own,out = .ret d own→∀di,d_ (λj=>ρ[j]?) d=some di→ce M' β v di∧∀T l0,own=some T→mz P K M' β {env:=gM (pZ hd) g.env,H:=g.H,aL:=g.aL} tmps w' l0 v T)∧
  (∀x,out = .a8 x→cU M' v x):=by
  intro v w' M' β' hp;exact aa6 (st:={env:=g.env,H:=g.H,aL:=g.aL}) h.bj.bj hn kj lK hp
 cases out with
 |ret d own=>
  cases ct with
  |none=>
   simp only [Option.map_eq_some_iff]at hs;obtain⟨di,jJ,rfl⟩:=hs;intro cg;obtain⟨Z,aa⟩:=key (cg _ (List.mem_singleton.2 rfl));refine .inr (.inr ⟨fn,_,Z,aa.mono ?_⟩)
   rintro e w' ⟨v,M',β',he,hp⟩
   obtain⟨cI,cw,KE,_⟩:=Sb hp;refine⟨v,he,M',β,cI,λ_ _ h=>h,λ_ _ h=>.inl h,cw,λe1 q_=>?_⟩
   cases q_;exact KE d own rfl di jJ
  |some ct=>
   dsimp only at hs
   split at hs
   case h_2=>cases hs
   rename_i di ic jJ uj;rw [Bool.cond_eq_ite]at hs;split at hs
   case isFalse=>cases hs
   rename_i ab;cases hs;intro cg;obtain⟨Z,aa⟩:=key (cg _ (List.mem_singleton.2 rfl));refine .inr (.inr ⟨fn,_,Z,aa.mono ?_⟩)
   rintro e w' ⟨v,M',β',he,hp⟩
   obtain⟨cI,cw,KE,_⟩:=back uj (by simpa using ab) hp
   refine⟨v,he,M',β,cI,λ_ _ h=>h,λ_ _ h=>.inl h,cw,λe1 q_=>?_⟩
   cases q_;exact KE d own rfl di jJ
 |a8 x=>
  cases ct with
  |none=>
   cases hs;intro cg;obtain⟨Z,aa⟩:=key (cg _ (List.mem_singleton.2 rfl));refine .inr ⟨fn,_,Z,aa.mono ?_⟩
   rintro e w' ⟨v,M',β',he,hp⟩
   obtain⟨cI,cw,_,KF⟩:=Sb hp;exact⟨v,M',he,KF x rfl,cw.oS λs e he=>R' he⟩
  |some ct=>
   dsimp only at hs
   split at hs
   case h_2=>cases hs
   rename_i ic uj;rw [Bool.cond_eq_ite]at hs;split at hs
   case isFalse=>cases hs
   rename_i ab;cases hs;intro cg;obtain⟨Z,aa⟩:=key (cg _ (List.mem_singleton.2 rfl));refine .inr ⟨fn,_,Z,aa.mono ?_⟩
   rintro e w' ⟨v,M',β',he,hp⟩
   obtain⟨cI,cw,_,KF⟩:=back uj (by simpa using ab) hp
   exact⟨v,M',he,KF x rfl,cw.oS λs e he=>R' he⟩
end
section
variable {P:Program} {K:Ctx} {N:Nat} {M:Mem} {β:Nat→Option Nat} {st:aD} {g:c6} {tmps:Array Value} {w:World} {o:Oper} {f:kE} {p:Path} {tt:dq} {ops:List Oper}
def Sc(h:Hyp P K N M β g tmps w p tt){c:Call}(am:o.op = .call c)(hc:c.callee = .builtin .len){d:D}(hd:mapM' (λy=>rd g.env g.bL p tt o.type y) c.args.toList=some [d]){aF:es}
 (ab:(c.argTypes.toList[0]?).bind (look tt)=some aF) {n:Nat} (hk:(∃l,d = .v (.str l)∧aF.k = .str∧n=l.length)∨(∃k get e,d = .v (.br k n get)∧aF.k = .br e)):
 Yields P K M β g {e:=some {d:=.v (.int .i64 n)},rs:=g.rs} o tmps w:=by
 obtain⟨gg,iG⟩:=sd hd;rw [Option.bind_eq_some_iff]at ab;obtain⟨t,aC,ab⟩:=ab;obtain⟨r⟩:=ek h.tt ab
 obtain⟨a,ha⟩:∃a,c.args.toList=[a]:=by
  cases gn:c.args.toList with
  |nil=>rw [gn]at gg;simp at gg
  |cons a l=>
   rw [gn]at gg;simp at gg
   exact⟨a,by rw [gg]⟩
 have o3:=dK (ds:=[]) h.bj h.dA (iG 0 a d (by rw [ha];rfl) rfl)
 rcases hk with⟨l,rfl,hk,rfl⟩|⟨k,get,e,rfl,hk⟩
 ·have p0:=ma o3;refine eO h.bj (R3 am hc ha aC p0 (λty=>?_)) (.v _ _ (.int _ _))
  have hs:(⟨⟨l⟩⟩:ByteArray).size=l.length:=rfl;simp [Builtin.len_,r.run_underlying,pV r hk,goInt,hs]
 ·obtain⟨base,cap,p0,_⟩:=tV o3;refine eO h.bj (R3 am hc ha aC p0 (λty=>?_)) (.v _ _ (.int _ _))
  simp [Builtin.len_,r.run_underlying,oY r hk,goInt]
def aba(h:Hyp P K N M β g tmps w p tt){c:Call}(am:o.op = .call c)(hc:c.callee = .builtin .min){k:IntKind}{a b:Int}(hd:mapM' (λy=>rd g.env g.bL p tt o.type y) c.args.toList=some [.v (.int k a),.v (.int k b)]):
 Yields P K M β g {e:=some {d:=.v (.int k (bif decide (b<a)then b else a))},rs:=g.rs} o tmps w:=by
 obtain⟨gg,iG⟩:=sd hd
 obtain⟨x,y,oX⟩:∃x y,c.args.toList=[x,y]:=by
  cases gn:c.args.toList with
  |nil=>rw [gn]at gg;simp at gg
  |cons x l=>
   cases l with
   |nil=>rw [gn]at gg;simp at gg
   |cons y l=>
    rw [gn]at gg;simp at gg
    exact⟨x,y,by rw [gg]⟩
 have ex:=lH (dK (ds:=[]) h.bj h.dA (iG 0 x _ (by rw [oX];rfl) rfl))
 have KG:=lH (dK (ds:=[]) h.bj h.dA (iG 1 y _ (by rw [oX];rfl) rfl))
 have t_:c.args = #[x,y]:=by apply Array.ext';simpa using oX
 refine eO h.bj (v:=.int k (bif decide (b<a)then b else a)) ?_ (.v _ _ (.int _ _))
 simp only [execOp,am,resolve,hc,t_,Sem.run_bind,Sem.run_pure,Result.andThen_ok,invoke,builtin,List.map_toArray,List.map_cons,List.map_nil,ex,KG];by_cases mF:b<a<;>simp [Builtin.min_,Builtin.min2,mF]
def abb(h:Hyp P K N M β g tmps w p tt){c:Call}(am:o.op = .call c)(hc:c.callee = .builtin .max){k:IntKind}{a b:Int}(hd:mapM' (λy=>rd g.env g.bL p tt o.type y) c.args.toList=some [.v (.int k a),.v (.int k b)]):
 Yields P K M β g {e:=some {d:=.v (.int k (bif decide (a<b)then b else a))},rs:=g.rs} o tmps w:=by
 obtain⟨gg,iG⟩:=sd hd
 obtain⟨x,y,oX⟩:∃x y,c.args.toList=[x,y]:=by
  cases gn:c.args.toList with
  |nil=>rw [gn]at gg;simp at gg
  |cons x l=>
   cases l with
   |nil=>rw [gn]at gg;simp at gg
   |cons y l=>
    rw [gn]at gg;simp at gg
    exact⟨x,y,by rw [gg]⟩
 have ex:=lH (dK (ds:=[]) h.bj h.dA (iG 0 x _ (by rw [oX];rfl) rfl))
 have KG:=lH (dK (ds:=[]) h.bj h.dA (iG 1 y _ (by rw [oX];rfl) rfl))
 have t_:c.args = #[x,y]:=by apply Array.ext';simpa using oX
 refine eO h.bj (v:=.int k (bif decide (a<b)then b else a)) ?_ (.v _ _ (.int _ _))
 simp only [execOp,am,resolve,hc,t_,Sem.run_bind,Sem.run_pure,Result.andThen_ok,invoke,builtin,List.map_toArray,List.map_cons,List.map_nil,ex,KG];by_cases mF:a<b<;>simp [Builtin.max_,Builtin.max2,mF]
def abc(h:Hyp P K N M β g tmps w p tt){bX:gf}{x:Operand}{s t:TypeId}{ok:Bool}(am:o.op = .typeAssert x s t ok)(hs:step1 bX tt ops g p o=some (.go f)):Yields P K M β g f o tmps w:=by
 simp only [step1,am]at hs;split at hs
 case h_2=>cases hs
 rename_i bC y k fw jL z _ hx ab;obtain⟨r⟩:=ek h.tt ab;have ah:=dK (ds:=[]) h.bj h.dA hx;obtain⟨u,an,hu⟩:=JN ah;have Sd:k ≠ .nZ:=by rintro rfl;simp at hs
 have Kw:∀i,r.desc ≠ .interface i:=by
  intro i hd;have:=r.hk
  rw [hd]at this;simp [kL]at this;exact Sd this.symm
 have fO:(bif Nat.beq bC t then(some (nj.go {e:=some {d:=(bif ok then .cm [.v y,.v (.bool true)]else .v y)},rs:=g.rs}))else none)=some (.go f):=by
  cases k<;>first|exact(Sd rfl).elim|exact hs
 rw [Bool.cond_eq_ite]at fO;split at fO
 case isFalse=>cases fO
 rename_i hb;have bF:bC=t:=by simpa using hb
 subst bF;cases fO
 have eV:(Instr.typeAssert (.iface bC u) s bC ok).run P w = .ok (bif ok then .tuple #[u,.bool true]else u) w:=by
  unfold Instr.typeAssert;simp only [Sem.run_bind,r.run_underlying,Result.andThen_ok];cases hd:r.desc<;>first|exact(Kw _ hd).elim|(cases ok<;>simp)
 refine eO h.bj (v:=bif ok then .tuple #[u,.bool true]else u) ?_ ?_
 ·simp only [execOp,am,an];exact iS _ eV
 ·cases ok
  ·exact .v _ _ hu
  ·refine .cm [u,.bool true] _ rfl λi v c an hc=>?_
   match i with
   | 0=>simp at an hc;subst an;subst hc;exact .v _ _ hu
   | 1=>simp at an hc;subst an;subst hc;exact .v _ _ (.bool _)
   |i+2=>simp at an
def Se(h:Hyp P K N M β g tmps w p tt){s:nj}(hs:step1 (je P) tt ops g p o=some s):R9 P K M β g s o tmps w:=by
 cases am:o.op with
 |move x=>cases s with
  |go f=>exact λ_=>aau h am hs
  |a8 x fO aO=>simp only [step1,am]at hs;repeat' (first |(split at hs) |(rw [Bool.cond_eq_ite]at hs) |(cases hs;done))
 |assign x=>cases s with
  |go f=>exact λ_=>aav h am hs
  |a8 x fO aO=>simp only [step1,am]at hs;repeat' (first |(split at hs) |(rw [Bool.cond_eq_ite]at hs) |(cases hs;done))
 |pick c a b=>
  cases c with
  |tmp c=>cases s with
   |go f=>exact λ_=>aaw h am hs
   |a8 x fO aO=>simp only [step1,am]at hs;repeat' (first |(split at hs) |(simp at hs;done))
  |_=>simp [step1,am]at hs
 |alloc t=>cases s with
  |go f=>exact λ_=>aax h am hs
  |a8 x fO aO=>simp only [step1,am]at hs;repeat' (first |(split at hs) |(cases hs;done))
 |box t x=>cases s with
  |go f=>exact λ_=>aay h am hs
  |a8 x fO aO=>simp only [step1,am]at hs;repeat' (first |(split at hs) |(rw [Bool.cond_eq_ite]at hs) |(cases hs;done))
 |build t parts=>cases s with
  |go f=>exact λ_=>aaz h am hs
  |a8 x fO aO=>simp only [step1,am]at hs;repeat' (first |(split at hs) |(rw [Bool.cond_eq_ite]at hs) |(simp at hs;done) |(cases hs;done))
 |buildSlice t len parts=>cases s with
  |go f=>exact λcg=>aaB h am hs cg
  |a8 x fO aO=>simp only [step1,am]at hs;repeat' (first |(split at hs) |(rw [Bool.cond_eq_ite]at hs) |(cases hs;done))
 |load t a=>cases s with
  |go f=>exact λ_=>aaC h am hs
  |a8 x fO aO=>simp only [step1,am]at hs;repeat' (first |(split at hs) |(rw [Bool.cond_eq_ite]at hs) |(simp at hs;done) |(cases hs;done))
 |store t a x=>cases s with
  |go f=>exact λ_=>aaD h am hs
  |a8 x fO aO=>simp only [step1,am]at hs;repeat' (first |(split at hs) |(rw [Bool.cond_eq_ite]at hs) |(cases hs;done))
 |nilCheck x=>cases s with
  |go f=>exact λ_=>aaG h am hs
  |a8 x fO aO=>simp only [step1,am]at hs;repeat' (first |(split at hs) |(simp at hs;done))
 |binOp op t x y t2=>cases s with
  |go f=>exact λcg=>aaT h am hs cg
  |a8 x fO aO=>simp only [step1,am]at hs;repeat' (first |(split at hs) |(rw [Bool.cond_eq_ite]at hs) |(simp at hs;done))
 |unOp op t x=>cases s with
  |go f=>exact λ_=>aaH h am hs
  |a8 x fO aO=>simp only [step1,am]at hs;repeat' (first |(split at hs) |(simp at hs;done))
 |convert a b x=>cases s with
  |go f=>exact λcg=>aaI h am hs cg
  |a8 x fO aO=>simp only [step1,am]at hs;repeat' (first |(split at hs) |(simp at hs;done))
 |makeInterface t x=>cases s with
  |go f=>exact λ_=>aaJ h am hs
  |a8 x fO aO=>simp only [step1,am]at hs;repeat' (first |(split at hs) |(simp at hs;done))
 |makeFunc fn first eT=>
  cases fn with
  |func fn=>cases s with
   |go f=>exact λ_=>aaK h am hs
   |a8 x fO aO=>simp only [step1,am]at hs;rw [Bool.cond_eq_ite]at hs;split at hs<;>simp at hs
  |_=>simp [step1,am]at hs
 |slice t x lo hi lD=>cases s with
  |go f=>exact λcg=>aa2 h am hs cg
  |a8 x fO aO=>simp only [step1,am]at hs;repeat' (first |(split at hs) |(rw [Bool.cond_eq_ite]at hs) |(simp at hs;done))
 |fieldAddr a x i=>cases s with
  |go f=>exact λ_=>aaU h am hs
  |a8 x fO aO=>simp only [step1,am]at hs;repeat' (first |(split at hs) |(rw [Bool.cond_eq_ite]at hs) |(simp at hs;done))
 |field a x i=>cases s with
  |go f=>exact λ_=>aaW h am hs
  |a8 x fO aO=>simp only [step1,am]at hs;repeat' (first |(split at hs) |(rw [Bool.cond_eq_ite]at hs) |(simp at hs;done))
 |indexAddr t x i=>cases s with
  |go f=>exact λcg=>aaZ h am hs cg
  |a8 x fO aO=>simp only [step1,am]at hs;repeat' (first |(split at hs) |(rw [Bool.cond_eq_ite]at hs) |(simp at hs;done))
 |index t x i=>cases s with
  |go f=>exact λcg=>aa0 h am hs cg
  |a8 x fO aO=>simp only [step1,am]at hs;repeat' (first |(split at hs) |(simp at hs;done))
 |typeAssert x a t ok=>cases s with
  |go f=>exact λ_=>abc h am hs
  |a8 x fO aO=>simp only [step1,am]at hs;repeat' (first |(split at hs) |(rw [Bool.cond_eq_ite]at hs) |(simp at hs;done) |(cases hs;done))
 |extract x i=>cases s with
  |go f=>exact λ_=>aaL h am hs
  |a8 x fO aO=>simp only [step1,am]at hs;repeat' (first |(split at hs) |(simp at hs;done))
 |call c=>
  simp only [step1,am]at hs;split at hs
  ·rename_i x n_;split at hs
   case h_2=>cases hs
   rename_i fn eT ds hx hG;exact aa7 h am n_ hx hG hs
  ·rename_i n_;split at hs
   ·rename_i l _ _ _ _ hd ab;cases hs;exact λ_=>Sc h am n_ hd ab (.inl ⟨l,rfl,rfl,rfl⟩)
   ·rename_i k n get _ _ _ _ _ hd ab;cases hs;exact λ_=>Sc h am n_ hd ab (.inr ⟨k,get,_,rfl,rfl⟩)
   ·cases hs
  ·rename_i n_;split at hs
   case h_2=>cases hs
   rename_i t x e ami Av kl _ t2 ff e0 eu;split at hs
   case h_3=>cases hs
   case h_2=>
    rename_i b1 k n get d2 y rs hle p3 iG eC;rw [Bool.cond_eq_ite]at hs;split at hs
    case isFalse=>cases hs
    rename_i hc;simp only [Bool.and_eq_true,Nat.beq_eq,Nat.ble_eq]at hc;obtain⟨⟨⟨rfl,w1⟩,w2⟩,ur⟩:=hc;rw [Option.bind_eq_some_iff]at e0 eu;obtain⟨abd,Eb,e0⟩:=e0;obtain⟨abe,n5,eu⟩:=eu;have ih:=dK (ds:=[]) h.bj h.dA iG;split at hs
    case h_2=>cases hs
    rename_i aq m lE e2 p4;rw [Bool.cond_eq_ite]at hs;split at hs
    case isFalse=>cases hs
    rename_i hH;simp only [Bool.and_eq_true,Nat.beq_eq,Nat.ble_eq]at hH;obtain⟨rfl,hm⟩:=hH;cases hs;intro cg;obtain⟨news,ik,kO⟩:=RA h.bj.bj h.tt eu p4 ih;exact Z3 h.bj h.dA h.tt e0 rfl hle am n_ ff Eb n5 p3 w2 hm ik kO (Kq (cg (room (n+m) b1.bytes=true) (by simp))) (cg (gL _ y) (by simp))
   rename_i b1 k n get d2 amj a' y rs hle p3 iG Ac eC;rw [Bool.cond_eq_ite]at hs;split at hs
   case isFalse=>cases hs
   rename_i hc;simp only [Bool.and_eq_true,Nat.beq_eq,Nat.ble_eq]at hc;obtain⟨⟨⟨⟨rfl,rfl⟩,w1⟩,w2⟩,ur⟩:=hc;rw [Option.bind_eq_some_iff]at e0 eu;obtain⟨abd,Eb,e0⟩:=e0;obtain⟨abe,n5,eu⟩:=eu;have ih:=dK (ds:=[]) h.bj h.dA iG;split at hs
   ·rename_i aq m lE e2 p4;rw [Bool.cond_eq_ite]at hs;split at hs
    case isFalse=>cases hs
    rename_i hH;simp only [Nat.beq_eq]at hH;subst hH;cases hs;intro cg;obtain⟨news,ik,kO⟩:=RA h.bj.bj h.tt eu p4 ih;exact Rw h.bj h.dA h.tt e0 rfl hle am n_ ff Eb n5 p3 Ac rfl w2 ik kO (Kq (cg (room (n+m) b1.bytes=true) (by simp))) (cg (gL _ y) (by simp))
   ·rename_i l p4;rw [Bool.cond_eq_ite]at hs;split at hs
    case isFalse=>cases hs
    rename_i hH;simp only [Nat.beq_eq]at hH;cases hs;intro cg;have KH:=ma ih;obtain⟨news,ik,kO⟩:=Z8 (P:=P) (w:=w) h.tt eu p4 l M;rw [←KH,←hH]at ik;rw [←hH]at kO;exact Rw h.bj h.dA h.tt e0 rfl hle am n_ ff Eb n5 p3 Ac rfl w2 ik kO (Kq (cg (room (n+l.length) b1.bytes=true) (by simp))) (cg (gL _ y) (by simp))
   ·cases hs
  ·rename_i n_;split at hs
   ·rename_i k a aq b hd;rw [Bool.cond_eq_ite]at hs;split at hs
    case isFalse=>cases hs
    rename_i hk;have rj:k=aq:=by simpa using hk
    subst rj;cases hs;exact λ_=>aba h am n_ hd
   ·cases hs
  ·rename_i n_;split at hs
   ·rename_i k a aq b hd;rw [Bool.cond_eq_ite]at hs;split at hs
    case isFalse=>cases hs
    rename_i hk;have rj:k=aq:=by simpa using hk
    subst rj;cases hs;exact λ_=>abb h am n_ hd
   ·cases hs
  ·cases hs
 |panic x=>cases s with
  |go f=>simp only [step1,am]at hs;repeat' (first |(split at hs) |(simp at hs;done))
  |a8 y fO aO=>
   simp only [step1,am]at hs;split at hs
   case h_2=>cases hs
   rename_i t z hd;cases hs;intro _;have ah:=dK (ds:=[]) h.bj h.dA hd;obtain⟨u,an,hu⟩:=JN ah;refine .inl ⟨.iface t u,?_,.iface t u z hu,rfl⟩;simp [execOp,am,an,Instr.panic]
 |_=>simp [step1,am]at hs
end
inductive b' where
 |normal
 |exit (id:Nat)
 |ret
 |a8 (x:V)
def sq(P:Program)(K:Ctx)(N:Nat)(fm:b')(st:aD)(e:Exit)(a:Act)(w:World):Prop:=
 match fm with
 |.normal=>e = .normal∧a.defers=K.ds∧a.tmps.size=N∧∃M β,bv P K M β st a.tmps w
 |.exit id=>e = .exit id∧a.defers=K.ds∧a.tmps.size=N∧∃M β,bv P K M β st a.tmps w
 |.ret=>e = .ret∧a.defers=K.ds∧a.tmps.size=N∧∃M β,bv P K M β st a.tmps w
 |.a8 x=>∃v,e = .panic [{v,recovered:=false}]∧a.defers=K.ds∧∃M β,cU M v x∧bv P K M β st a.tmps w
section
variable {P:Program} {K:Ctx} {N:Nat} {M:Mem} {β:Nat→Option Nat} {st:aD} {g eG:c6} {tmps:Array Value} {w:World} {o:Oper} {f:kE} {p:Path} {tt:dq} {ops:List Oper}
def bv.Aw(h:bv P K M β st tmps w)(fx:Array Value):bv P K M β {env:=[],H:=st.H,aL:=st.aL} fx w:=by
 have Z:bv P K M β {env:=[],H:=st.H,aL:=st.aL} tmps w:=h.sub rfl (λl e ab=>by
  cases l with
  |slot s=>simp [aD.at,look]at ab
  |cell r i=>exact⟨e,ab,rfl,λ_ h=>h⟩) (λr cs ah=>⟨cs,ah,rfl⟩)
 have an:∀l e,({env:=[],H:=st.H,aL:=st.aL}:aD).at l=some e→cb fx w β l=cb tmps w β l:=by
  intro l e ab;cases l with
  |slot s=>simp [aD.at,look]at ab
  |cell r i=>rfl
 constructor
 ·intro l e ab;rw [an l e ab];exact Z.e9 l e ab
 ·intro l e T ab az;rw [an l e ab];exact Z.own l e T ab az
 ·intro l co e a' T T' b ab az dj dI hb bF;rw [an l e ab]at hb;rw [an co a' dj]at bF;exact Z.uniq l co e a' T T' b ab az dj dI hb bF
 ·intro l e T b r cs ab az hb ah;rw [an l e ab]at hb;exact Z.unbox l e T b r cs ab az hb ah
 ·exact Z.box
 ·exact Z.inj
 ·exact Z.lt
 ·exact Z.mem
 ·exact Z.m0
 ·exact Z.frame
 ·exact Z.ie
 ·exact Z.iR
 ·exact Z.hE
def Ax(h:fy P K N M β g tmps w):∀{p:Path} {q:Prop},fl tmps p→under g p q→q
 |[],_,_,al=>al
 |(t,n7)::p,q,hp,al=>by
  have aC:tmps.getD t undef = .bool n7:=hp (t,n7) (by simp)
  have w3:fl tmps p:=λx hx=>hp x (by simp [hx])
  simp only [under]at al;split at al
  ·rename_i b hb;refine Ax h w3 (al ?_);unfold zJ at hb;split at hb
   ·rename_i q' bp hc;cases hb;by_cases il:fl tmps q'
    ·have:=tU ((h.cond t _ _ hc).1 il)
     rw [aC]at this;cases this;rfl
    ·have:=(h.cond t _ _ hc).2 il
     rw [aC]at this;cases this
   ·cases hb
   ·split at hb
    ·rename_i bp own he;cases hb;have:=tU (h.bj.e9 (.slot t) _ he)
     simp only [cb]at this;rw [aC]at this;cases this;rfl
    ·cases hb
  ·exact Ax h w3 al
def Sf(h:fy P K N M β g tmps w){opsA:Array Oper}(mG:opsA.toList=ops)(hp:oT ops g o=some p):Region.wanted o (yielded opsA tmps)=true↔fl tmps p:=by
 unfold oT at hp;split at hp
 ·rename_i hg;cases hp;simp [Region.wanted,hg,fl]
 ·rename_i j n7 hg;split at hp
  case h_2=>cases hp
  rename_i t aC
  have bY:yielded opsA tmps j=some n7↔tmps.getD t undef = .bool n7:=by
   unfold yielded;have:opsA[j]? = ops[j]? := by rw [←mG];simp
   rw [this,aC];simp only [Option.bind_some,Array.getD_eq_getD_getElem?];cases bf:tmps[t]? with
   |none=>simp [undef]
   |some v=>cases v<;>simp
  have hw:Region.wanted o (yielded opsA tmps)=true↔tmps.getD t undef = .bool n7:=by
   rw [←bY];simp [Region.wanted,hg]
  split at hp
  ·rename_i q b hc;cases hp;rw [hw];constructor
   ·intro jg x hx;rcases List.mem_append.1 hx with hx|hx
    ·by_cases il:fl tmps q
     ·exact il x hx
     ·have:=(h.cond t _ _ hc).2 il
      rw [jg]at this;cases this
    ·simp at hx;subst hx;exact jg
   ·intro il;exact il (t,n7) (by simp)
  ·cases hp
  ·split at hp
   ·cases hp;rw [hw];exact⟨λh x hx=>by simp at hx;subst hx;exact h,λh=>h (t,n7) (by simp)⟩
   ·cases hp
def KI{t:Nat}{v:Value}{q:Path}(al:∀x,x∈q→x.1≠t):fl (tmps.setIfInBounds t v) q↔fl tmps q:=by
 unfold fl;constructor<;>intro h x hx
 ·have:=h x hx
  rwa [Array.getD_eq_getD_getElem?,Array.getElem?_setIfInBounds_ne (Ne.symm (al x hx)),←Array.getD_eq_getD_getElem?]at this
 ·have:=h x hx
  rwa [Array.getD_eq_getD_getElem?,Array.getElem?_setIfInBounds_ne (Ne.symm (al x hx)),←Array.getD_eq_getD_getElem?]
def abf{t s:Nat}{v:Value}(h:s≠t):(tmps.setIfInBounds t v).getD s undef=tmps.getD s undef:=by
 rw [Array.getD_eq_getD_getElem?,Array.getElem?_setIfInBounds_ne (Ne.symm h),←Array.getD_eq_getD_getElem?]
def abg{bL:List (Nat×Path×D)}{t:Nat}(h:wC bL t=true){s:Nat}{q:Path}{d:D}(hc:look bL s=some (q,d))(hs:s≠t):∀x,x∈q→x.1≠t:=by
 unfold wC at h;rw [List.all_eq_true]at h;have:=h _ (q5 hc)
 simp only [Bool.or_eq_true,Nat.beq_eq,List.all_eq_true,Bool.not_eq_true']at this;rcases this with Z|Z
 ·exact absurd Z hs
 ·intro x hx e;have:=Z x hx
  rw [e]at this;simp at this
def KJ(h:∀t q d,look g.bL t=some (q,d)→(fl tmps q→ce M β (tmps.getD t undef) d)∧(¬ fl tmps q→tmps.getD t undef=undef)){t:Nat}{v:Value}(aN:wC g.bL t=true){M':Mem}{β':Nat→Option Nat}
 (cI:M.le M') (gN:∀r b,β r=some b→β' r=some b):
 ∀s q d,look (del g.bL t) s=some (q,d)→(fl (tmps.setIfInBounds t v) q→ce M' β' ((tmps.setIfInBounds t v).getD s undef) d)∧(¬ fl (tmps.setIfInBounds t v) q→(tmps.setIfInBounds t v).getD s undef=undef):=by
 intro s q d hc;rw [pT]at hc;by_cases hs:t=s
 ·simp [hs]at hc
 ·rw [if_neg hs]at hc;rw [KI (abg aN hc (Ne.symm hs)),abf (Ne.symm hs)];exact⟨λil=>(((h s q d hc).1 il).mono cI).Jy gN,(h s q d hc).2⟩
def Ay(ds:List Deferred):Act.eval ⟨tmps,ds⟩=Act.eval ⟨tmps,[]⟩:=by
 funext x;cases x<;>rfl
def Sg{α:Type}:∀(a b:List (Nat×α)) (q:Nat),look (a++b) q=none→look a q=none∧look b q=none
 |[],b,q,h=>⟨rfl,h⟩
 |(j,x)::a,b,q,h=>by
  simp only [List.cons_append,dB]at h ⊢;by_cases hj:j=q
  ·simp [hj]at h
  ·simp only [hj,if_false]at h ⊢;exact Sg a b q h
def fy.KK(h:fy P K N M β g tmps w){β':Nat→Option Nat}{hs:List (Nat×List aP)}(ut:∀r b,β' r=some b→β r=some b∨(look hs r).isSome=true):
 ∀s id,look g.ids s=some id→look (hs++g.H) id=none→∀b,β' id≠some b:=by
 intro s id hid ab b hb;obtain⟨Z,aa⟩:=Sg _ _ _ ab;rcases ut id b hb with ai|ai
 ·exact h.fresh s id hid aa b ai
 ·rw [Z]at ai;cases ai
def KL(h:fy P K N M β g tmps w)(cf:fe P tt=true){opsA:Array Oper}(mG:opsA.toList=ops)(hs:nl (je P) tt N ops g o=some (.go eG))(cg:∀q,q∈eG.aO→q){Q:Exit→Act→World→Prop}{next:Act→World→Prop}
 (h1:∀fx w' M' β',fy P K N M' β' eG fx w'→next ⟨fx,K.ds⟩ w'):
 if Region.wanted o (yielded opsA tmps)then o.wp P ⟨tmps,K.ds⟩ w next Q∨(o.asks P ⟨tmps,K.ds⟩ w∧LetsOut Q)else next ((⟨tmps,K.ds⟩:Act).put o.dst undef) w:=by
 unfold nl at hs;split at hs
 case h_1=>cases hs
 rename_i p hp;have hw:=Sf h mG hp;split at hs
 ·cases hs
 ·rw [Bool.cond_eq_ite]at hs;split at hs<;>cases hs
 rename_i f aN
 dsimp only at hs
 by_cases il:fl tmps p
 ·rw [if_pos (
   hw.2 il)]
  refine .inl ?_;have iJ:=Se (g:=g) (ops:=ops) ⟨h,il,cf⟩ aN
  -- Km follows once lJ value is there
  have main:(∀q,q∈f.aO→q)∧∀v w',ii P K M β g f tmps v w'→next ((⟨tmps,K.ds⟩:Act).put o.dst v) w':=by
   split at hs
   ·rename_i uu;rw [Bool.cond_eq_ite]at hs;split at hs
    case isFalse=>cases hs
    rename_i ur;have Az:p=[]:=by simpa using ur
    subst Az;cases hs;refine⟨λq al=>Ax h il (cg _ (List.mem_append_left _ (List.mem_map.2 ⟨q,al,rfl⟩))),?_⟩
    rintro v w' ⟨M',β',cI,gN,ut,cw,_⟩
    rw [uu];exact h1 tmps w' M' β' ⟨cw,h.size,h.KK ut,λs q d hc=>⟨λil=>(((h.cond s q d hc).1 il).mono cI).Jy gN,(h.cond s q d hc).2⟩⟩
   ·rename_i t uu;rw [Bool.cond_eq_ite]at hs;split at hs
    case isFalse=>cases hs
    rename_i hc;simp only [Bool.and_eq_true,Nat.blt_eq]at hc;have cK:t<tmps.size:=by rw [h.size];exact hc.1
    rcases p with _|⟨x,KM⟩<;>dsimp only at hs
    ·cases hs;refine⟨λq al=>Ax h il (cg _ (List.mem_append_left _ (List.mem_map.2 ⟨q,al,rfl⟩))),?_⟩
     rintro v w' ⟨M',β',cI,gN,ut,cw,iJ⟩
     rw [uu];refine h1 _ w' M' β' ⟨?_,by simpa using h.size,h.KK ut,KJ h.cond hc.2 cI gN⟩
     cases he:f.e with
     |none=>exact cw.drop
     |some e=>
      obtain⟨Z,aa⟩:=iJ e he;exact cw.put cK Z (λT az=>aa T _ az)
    ·split at hs
     ·rename_i e he uv n4;rw [Bool.cond_eq_ite]at hs;split at hs
      case isFalse=>cases hs
      rename_i lM;simp only [Bool.and_eq_true,List.all_eq_true,Nat.beq_eq,Bool.not_eq_true']at lM;cases hs;refine⟨λq al=>Ax h il (cg _ (List.mem_append_left _ (List.mem_map.2 ⟨q,al,rfl⟩))),?_⟩
      rintro v w' ⟨M',β',cI,gN,ut,cw,iJ⟩
      rw [uu];obtain⟨Z,_⟩:=iJ e he
      have jM:∀y,y∈x::KM→y.1≠t:=λy bY e=>by
       have:=lM.1 y bY
       rw [e]at this;simp at this
      refine h1 _ w' M' β' ⟨?_,by simpa using h.size,by have:=h.KK ut;rw [uv]at this;exact this,λs q d dV=>?_⟩
      ·have:after g f={env:=g.env,H:=g.H,aL:=g.aL}:=by unfold after;rw [n4,uv,lM.2];rfl
       rw [this]at cw;exact cw.drop
      ·rw [dB]at dV;by_cases kh:t=s
       ·rw [if_pos kh]at dV;cases dV;subst kh;rw [KI jM];refine⟨λ_=>?_,λhn=>absurd il hn⟩
        have:(tmps.setIfInBounds t v).getD t undef=v:=by simp [cK]
        rw [this];exact Z
       ·rw [if_neg kh]at dV;exact KJ h.cond hc.2 cI gN s q d dV
     ·cases hs
  obtain⟨abh,iI⟩:=main;rcases iJ abh with⟨v,w',eV,kQ⟩|⟨he,w',eV,kQ⟩|⟨fn,vs,eV,uw⟩
  ·unfold Oper.wp;rw [Ay,eV];exact iI v w' kQ
  ·unfold Oper.wp;rw [Ay,eV];exact iI undef w' kQ
  ·unfold Oper.wp;rw [Ay,eV];refine uw.mono ?_
   rintro e w' ⟨v,rfl,kQ⟩
   exact iI v w' kQ
 ·have abi:Region.wanted o (yielded opsA tmps)=false:=by
   rw [Bool.eq_false_iff];exact λbf=>il (hw.1 bf)
  rw [abi];simp only [Bool.false_eq_true,if_false];split at hs
  ·rename_i uu;rw [Bool.cond_eq_ite]at hs;split at hs
   case isFalse=>cases hs
   rename_i ur;have Az:p=[]:=by simpa using ur
   subst Az;exact absurd (λx hx=>by cases hx) il
  ·rename_i t uu;rw [Bool.cond_eq_ite]at hs;split at hs
   case isFalse=>cases hs
   rename_i hc;simp only [Bool.and_eq_true,Nat.blt_eq]at hc;rcases p with _|⟨x,KM⟩<;>dsimp only at hs
   ·exact absurd (λx hx=>by cases hx) il
   ·split at hs
    ·rename_i e he uv n4;rw [Bool.cond_eq_ite]at hs;split at hs
     case isFalse=>cases hs
     rename_i lM;simp only [Bool.and_eq_true,List.all_eq_true,Nat.beq_eq,Bool.not_eq_true']at lM;cases hs;rw [uu]
     have jM:∀y,y∈x::KM→y.1≠t:=λy bY e=>by
      have:=lM.1 y bY
      rw [e]at this;simp at this
     refine h1 _ w M β ⟨h.bj.drop,by simpa using h.size,h.fresh,λs q d dV=>?_⟩
     rw [dB]at dV;by_cases kh:t=s
     ·rw [if_pos kh]at dV;cases dV;subst kh;rw [KI jM];refine⟨λbf=>absurd bf il,λ_=>?_⟩
      have cK:t<tmps.size:=by rw [h.size];exact hc.1
      simp [cK]
     ·rw [if_neg kh]at dV;exact KJ h.cond hc.2 (Mem.le_refl _) (λ_ _ h=>h) s q d dV
    ·cases hs
end
section
variable {P:Program} {K:Ctx} {N E:Nat} {M:Mem} {β:Nat→Option Nat} {st:aD} {g eG:c6} {tmps:Array Value} {w:World} {o:Oper} {f:kE} {p:Path} {tt:dq} {ops:List Oper}
def Sh(h:fy P K N M β g tmps w)(cf:fe P tt=true){opsA:Array Oper}(mG:opsA.toList=ops){x:V}{st:aD}{aO:List Prop}(hs:nl (je P) tt N ops g o=some (.a8 x st aO))(cg:∀q,q∈aO→q){Q:Exit→Act→World→Prop}{next:Act→World→Prop}
 (h1:∀e dD w',sq P K N (.a8 x) st e dD w'→Q e dD w'):
 if Region.wanted o (yielded opsA tmps)then o.wp P ⟨tmps,K.ds⟩ w next Q∨(o.asks P ⟨tmps,K.ds⟩ w∧LetsOut Q)else next ((⟨tmps,K.ds⟩:Act).put o.dst undef) w:=by
 unfold nl at hs;split at hs
 case h_1=>cases hs
 rename_i p hp;have hw:=Sf h mG hp;split at hs
 ·cases hs
 ·rename_i y fO sr ea;rw [Bool.cond_eq_ite]at hs;split at hs
  case isFalse=>cases hs
  rename_i ur;have Az:p=[]:=by simpa using ur
  subst Az;cases hs;have il:fl tmps []:=λx hx=>by cases hx
  rw [if_pos (hw.2 il)];refine .inl ?_;have iJ:=Se (g:=g) (ops:=ops) ⟨h,il,cf⟩ ea;rcases iJ (λq al=>cg q (List.mem_append_left _ al)) with⟨v,eV,ah,rfl⟩|⟨fn,vs,eV,uw⟩
  ·unfold Oper.wp;rw [Ay,eV];exact h1 _ _ _ ⟨v,rfl,rfl,M,β,ah,h.bj.oS λs e he=>⟨e,he,rfl⟩⟩
  ·unfold Oper.wp;rw [Ay,eV];refine uw.mono ?_
   rintro e w' ⟨v,M',rfl,ah,cw⟩
   exact h1 _ _ _ ⟨v,rfl,rfl,M',β,ah,cw⟩
 ·dsimp only at hs
  repeat' (first|(split at hs)|(rw [Bool.cond_eq_ite]at hs)|(cases hs;done))
def abj{bX:gf}(hs:nl bX tt N ops g o=some (.go eG)):∀q,q∈g.aO→q∈eG.aO:=by
 intro q al;unfold nl at hs;split at hs
 case h_1=>cases hs
 split at hs
 ·cases hs
 ·rw [Bool.cond_eq_ite]at hs;split at hs<;>cases hs
 ·dsimp only at hs
  repeat' (first|(split at hs)|(rw [Bool.cond_eq_ite]at hs)|(cases hs;exact List.mem_append_right _ al)|(cases hs;done))
def abk{bX:gf}{x:V}{st:aD}{aO:List Prop}(hs:nl bX tt N ops g o=some (.a8 x st aO)):∀q,q∈g.aO→q∈aO:=by
 intro q al;unfold nl at hs;split at hs
 case h_1=>cases hs
 split at hs
 ·cases hs
 ·rw [Bool.cond_eq_ite]at hs;split at hs<;>cases hs;exact List.mem_append_right _ al
 ·dsimp only at hs
  repeat' (first|(split at hs)|(rw [Bool.cond_eq_ite]at hs)|(cases hs;done))
def Si:zN→List Prop
 |.go g=>g.aO
 |.a8 _ _ aO=>aO
def Sj{bX:gf}:∀{l:List Oper} {g:c6} {fin:zN},r9 bX tt N ops l g=some fin→∀q,q∈g.aO→q∈Si fin
 |[],g,fin,h,q,al=>by simp [r9]at h;subst h;exact al
 |o::l,g,fin,h,q,al=>by
  simp only [r9]at h;split at h
  ·rename_i eG hs;exact Sj h q (abj hs q al)
  ·cases fin with
   |go eG=>exact absurd h (by intro bf;rename_i cW;exact cW _ bf)
   |a8 x st aO=>exact abk h q al
def KN(cf:fe P tt=true){opsA:Array Oper}(mG:opsA.toList=ops){Q:Exit→Act→World→Prop}{fin:zN}(mH:∀q,q∈Si fin→q)
 (dL:match fin with
  |.go eG=>∀fx w' M' β',fy P K N M' β' eG fx w'→Q .normal ⟨fx,K.ds⟩ w'
  |.a8 x st _=>∀e dD w',sq P K N (.a8 x) st e dD w'→Q e dD w'):
 ∀(l:List Oper) (k:Nat) (g:c6) (tmps:Array Value) (w:World) (M:Mem) (β:Nat→Option Nat),(∀j,l[j]? = ops[k+j]?)→fy P K N M β g tmps w→r9 (je P) tt N ops l g=some fin→
  wpOps P opsA Q (List.range' k l.length) ⟨tmps,K.ds⟩ w
 |[],k,g,tmps,w,M,β,_,h,ah=>by
  simp [r9]at ah;subst ah;exact dL tmps w M β h
 |o::l,k,g,tmps,w,M,β,ab,h,ah=>by
  have hk:opsA[k]? = some o:=by
   have:=ab 0
   simp at this
   rw [←Array.getElem?_toList,mG];exact this.symm
  simp only [List.length_cons,List.range'_succ,wpOps,hk];simp only [r9]at ah;split at ah
  ·rename_i eG hs;refine KL h cf mG hs (λq al=>mH q (Sj ah q al)) (λfx w' M' β' cv=>?_)
   exact KN cf mG mH dL l (k+1) eG fx w' M' β' (λj=>by have:=ab (j+1);simpa [Nat.add_assoc,Nat.add_comm 1 j]using this) cv ah
  ·cases fin with
   |go eG=>exact absurd ah (by intro bf;rename_i cW;exact cW _ bf)
   |a8 x st aO=>exact Sh h cf mG ah mH (λe dD w' bH=>dL e dD w' bH)
def aV(P:Program)(N E:Nat)(c:Code)(Q:b'→aD→Prop)(st:aD):Prop:=
 ∀(K:Ctx),(∀r b,K.kH r=some b→r<E)→∀(a:Act) (w:World),sq P K N .normal st .normal a w→c.wp P (λe dD w'=>∃fm bO,sq P K N fm bO e dD w'∧Q fm bO) a w
def aV.mono{c:Code}{Q Sk:b'→aD→Prop}(h:aV P N E c Q st)(al:∀fm bO,Q fm bO→Sk fm bO):aV P N E c Sk st:=
 λK ei a w hs=>wp_mono (h K ei a w hs) λ_ _ _ ⟨fm,bO,Z,aa⟩=>⟨fm,bO,Z,al _ _ aa⟩
@[reducible] def b'.then (next : aD → Prop) (Q : b' → aD → Prop) : b' → aD → Prop
 |.normal,st=>next st
 |e,st=>Q e st
@[reducible] def b'.inBlock (id : Nat) (Q : b' → aD → Prop) : b' → aD → Prop
 |.exit i,st=>if i=id then Q .normal st else Q (.exit i) st
 |e,st=>Q e st
def aV.seq{x y:Code}{Q:b'→aD→Prop}(h:aV P N E x (b'.then (aV P N E y Q) Q) st):aV P N E (.seq x y) Q st:=by
 intro K ei a w hs;refine wp_seq (wp_mono (h K ei a w hs) ?_)
 rintro e dD w' ⟨fm,bO,Z,aa⟩
 cases fm with
 |normal=>
  obtain⟨rfl,ai⟩:=Z;exact aa K ei dD w' ⟨rfl,ai⟩
 |exit i=>obtain⟨rfl,ai⟩:=Z;exact⟨.exit i,bO,⟨rfl,ai⟩,aa⟩
 |ret=>obtain⟨rfl,ai⟩:=Z;exact⟨.ret,bO,⟨rfl,ai⟩,aa⟩
 |a8 x=>obtain⟨v,rfl,ai⟩:=Z;exact⟨.a8 x,bO,⟨v,rfl,ai⟩,aa⟩
def aV.skip{Q:b'→aD→Prop}(h:Q .normal st):aV P N E .skip Q st:=λ_ _ _ _ hs=>wp_skip ⟨.normal,st,hs,h⟩
def aV.label{l:Nat}{Q:b'→aD→Prop}(h:Q .normal st):aV P N E (.label l) Q st:=λ_ _ _ _ hs=>wp_label ⟨.normal,st,hs,h⟩
def aV.exit{id:Nat}{Q:b'→aD→Prop}(h:Q (.exit id) st):aV P N E (.exit id) Q st:=λ_ _ _ _ hs=>wp_exit ⟨.exit id,st,⟨rfl,hs.2⟩,h⟩
def aV.ret{Q:b'→aD→Prop}(h:Q .ret st):aV P N E .ret Q st:=λ_ _ _ _ hs=>wp_ret ⟨.ret,st,⟨rfl,hs.2⟩,h⟩
def aV.block{id:Nat}{c:Code}{Q:b'→aD→Prop}(h:aV P N E c (b'.inBlock id Q) st):aV P N E (.block id c) Q st:=by
 intro K ei a w hs;refine wp_block (wp_mono (h K ei a w hs) ?_)
 rintro e dD w' ⟨fm,bO,Z,aa⟩
 cases fm with
 |normal=>obtain⟨rfl,ai⟩:=Z;exact⟨.normal,bO,⟨rfl,ai⟩,aa⟩
 |exit i=>
  obtain⟨rfl,ai⟩:=Z;by_cases hi:i=id
  ·simp only [b'.inBlock,hi,if_true]at aa;simp only [Exit.inBlock,hi,if_true];exact⟨.normal,bO,⟨rfl,ai⟩,aa⟩
  ·simp only [b'.inBlock,hi,if_false]at aa;simp only [Exit.inBlock,hi,if_false];exact⟨.exit i,bO,⟨rfl,ai⟩,aa⟩
 |ret=>obtain⟨rfl,ai⟩:=Z;exact⟨.ret,bO,⟨rfl,ai⟩,aa⟩
 |a8 x=>obtain⟨v,rfl,ai⟩:=Z;exact⟨.a8 x,bO,⟨v,rfl,ai⟩,aa⟩
def aV.cond{c:Nat}{x y:Code}{Q:b'→aD→Prop}(b:Bool)(own:Option TypeId)(hc:look st.env c=some ⟨.v (.bool b),own⟩)(aC:b=true→aV P N E x Q st)(aN:b=false→aV P N E y Q st):aV P N E (.cond (.tmp c) x y) Q st:=by
 intro K ei a w hs;obtain⟨_,_,_,M,β,cw⟩:=id hs;have an:a.eval (.tmp c) = .bool b:=tU (cw.e9 (.slot c) _ hc);exact wp_cond_split an (λhb=>aC hb K ei a w hs) (λhb=>aN hb K ei a w hs)
def aV.loop{c:Code}{Q:b'→aD→Prop}{σ:Type}(I:Nat→σ→aD→Prop)(Sl:∀n s st,I n s st→∃m,n=m+1∧aV P N E c (b'.then (λbO=>∃wH,I m wH bO) Q) st)
 {n:Nat} {s:σ} {st:aD} (h0:I n s st):aV P N E (.loop c) Q st:=by
 intro K ei a w hs b k cs
 have key:∀n s st a w,I n s st→sq P K N .normal st .normal a w→
  ∃e dD w',(∃fm bO,sq P K N fm bO e dD w'∧Q fm bO)∧Arrives P (lone (b.at a (.code c :: .inLoop c::k)) cs w) b k cs e dD w':=by
  intro n;induction n with
  |zero=>
   intro s st a w nw _;obtain⟨m,hm,_⟩:=Sl 0 s st nw;omega
  |succ n aG=>
   intro s st a w nw hs;obtain⟨m,hm,KD⟩:=Sl (n+1) s st nw;have:m=n:=by omega
   subst this;obtain⟨e,Ec,Ed,⟨fm,bO,Z,aa⟩,w4⟩:=KD K ei a w hs b (.inLoop c::k) cs;cases fm with
   |normal=>
    obtain⟨rfl,ai⟩:=Z;obtain⟨wH,abl⟩:=aa;obtain⟨abm,abn,abo,abp,abq⟩:=aG wH bO Ec Ed abl ⟨rfl,ai⟩;exact⟨abm,abn,abo,abp,.of_steps (Steps.trans w4 (.one step_inLoop)) abq⟩
   |exit i=>obtain⟨rfl,ai⟩:=Z;exact⟨_,Ec,Ed,⟨.exit i,bO,⟨rfl,ai⟩,aa⟩,.pass (x:=.inLoop c) rfl (λ_ _=>.inl (by simp)) w4⟩
   |ret=>obtain⟨rfl,ai⟩:=Z;exact⟨_,Ec,Ed,⟨.ret,bO,⟨rfl,ai⟩,aa⟩,.pass (x:=.inLoop c) rfl (λ_ _=>.inl (by simp)) w4⟩
   |a8 x=>obtain⟨v,rfl,ai⟩:=Z;exact⟨_,Ec,Ed,⟨.a8 x,bO,⟨v,rfl,ai⟩,aa⟩,.pass (x:=.inLoop c) rfl (λ_ _=>.inl (by simp)) w4⟩
 obtain⟨e,dD,w',al,w4⟩:=key n s st a w h0 hs;exact⟨e,dD,w',al,.of_steps (.one step_loop) w4⟩
end
def w5(tt:dq)(st:aD):ResultVar→Option D
 |.tmp t=>(look st.env t).map (·.d)
 |.cell a t=>match look st.env a,look tt t with
  |some ⟨.ptr r off,_⟩,some aF=>match look st.H r with
   |some cs=>bif aF.k.isAgg then(bif Nat.ble (off+aF.size) cs.length then some (pP (((cs.drop off).take aF.size).map (·.d)))else none) else(cs[off]?).map (·.d)
   |none=>none
  |_,_=>none
def Sm(tt:dq)(st:aD):List ResultVar→Option (D×Option TypeId)
 |[.tmp t]=>(look st.env t).map λe=>(e.d,e.own)
 |[x]=>(w5 tt st x).map (·,none)
 |xs=>(mapM' (w5 tt st) xs).map λds=>(.cm ds,none)
def leave(tt:dq)(E:Nat)(rs:List ResultVar)(st:aD):Option (Out×List (List aP)):=
 match Sm tt st rs,boxes st.H (List.range E) with
 |some (d,own),some bA=>bif below E d&&bA.all (r' E)then some (.ret d own,bA)else none
 |_,_=>none
def Ee(E:Nat)(H:List (Nat×List aP)):Option (List (List aP)):=
 match boxes H (List.range E) with
 |some bA=>bif bA.all (r' E)then some bA else none
 |none=>none
def nx(H:List (List aP)):List (List aP):=H.map λb=>b.map λe=>{d:=e.d}
def ss(tt:dq)(E:Nat)(rs:List ResultVar)(R:Out→List (List aP)→Prop):b'→aD→Prop
 |.normal,st=>∃o bA,leave tt E rs st=some (o,bA)∧R o bA
 |.ret,st=>∃o bA,leave tt E rs st=some (o,bA)∧R o bA
 |.a8 x,st=>∃bA,Ee E st.H=some bA∧R (.a8 x) (nx bA)
 |.exit _,_=>False
section
variable {P:Program} {K:Ctx} {N E:Nat} {M:Mem} {β:Nat→Option Nat} {st:aD} {tmps:Array Value} {w:World} {tt:dq}
def Ef(tmps:Array Value):ResultVar→Sem Value
 |.tmp t=>pure (tmps.getD t undef)
 |.cell a t=>do loadVar t (←asAddr (tmps.getD a undef))
def Sn(h:bv P K M β st tmps w)(cf:fe P tt=true){x:ResultVar}{d:D}(hx:w5 tt st x=some d):
 ∃v,(Ef tmps x).run P w = .ok v w∧ce M β v d:=by
 cases x with
 |tmp t=>
  simp only [w5,Option.map_eq_some_iff]at hx;obtain⟨e,he,rfl⟩:=hx;exact⟨_,rfl,h.e9 (.slot t) e he⟩
 |cell a t=>
  simp only [w5]at hx;split at hx
  case h_2=>cases hx
  rename_i r off own aF ha ab;obtain⟨row⟩:=ek cf ab;split at hx
  case h_2=>cases hx
  rename_i cs ah;obtain⟨b,hb,an⟩:=q7 (h.e9 (.slot a) _ ha);simp only [cb]at an;obtain⟨bp,vs,T,bF,bf,hlen,_,_,iF,l9⟩:=h.box r cs ah;rw [hb]at bF;cases bF
  have So:∀{u:Value},(Instr.loadAt t (.pointer (some ⟨b,off,none⟩))).run P w = .ok u w→(do loadVar t (←asAddr (tmps.getD a undef)):Sem Value).run P w = .ok u w:=by
   intro u hu;rw [an];simpa [Instr.loadAt,Instr.sureAddr,asAddr]using hu
  rw [Bool.cond_eq_ite]at hx;split at hx
  ·rename_i jd;rw [Bool.cond_eq_ite]at hx;split at hx
   case isFalse=>cases hx
   rename_i hle;simp only [Nat.ble_eq]at hle;cases hx;refine⟨_,So (Q6 (P:=P) row (off:=off) bf (by omega) jd),?_⟩
   refine DJ (by simp;omega) (λv an=>iF v (List.mem_of_mem_drop (List.mem_of_mem_take an))) (λi v c an hc=>?_)
   rw [List.getElem?_map,Option.map_eq_some_iff]at hc;obtain⟨e,he,rfl⟩:=hc;rw [List.getElem?_take]at an he;split at an
   ·rename_i hi;rw [if_pos hi,List.getElem?_drop]at he;rw [List.getElem?_drop]at an;have:=h.e9 (.cell r (off+i)) e (by simp [aD.at,ah,he])
    simpa [cb,hb,cell_of_heap bf,an]using this
   ·cases an
  ·rename_i jd;simp only [Option.map_eq_some_iff]at hx;obtain⟨e,he,rfl⟩:=hx;obtain⟨jN,Z7,oW,v,fc,DT,eN,b6⟩:=JC h ah he;rw [hb]at fc;cases fc;refine⟨v,So (JO (P:=P) row (by rw [cell_of_heap DT,eN]) (by simpa using jd)),?_⟩
   have:=h.e9 (.cell r off) e (by simp [aD.at,ah,he])
   rwa [b6]at this
def Sp(h:bv P K M β st tmps w)(cf:fe P tt=true):∀{xs:List ResultVar} {ds:List D},mapM' (w5 tt st) xs=some ds→
 ∃vs:List Value,(xs.mapM (Ef tmps)).run P w = .ok vs w∧vs.length=ds.length∧
  ∀(i:Nat) v d,vs[i]? = some v→ds[i]? = some d→ce M β v d
 |[],ds,hx=>by simp [mapM']at hx;subst hx;exact⟨[],rfl,rfl,by simp⟩
 |x::xs,ds,hx=>by
  simp only [mapM']at hx;split at hx
  case h_2=>cases hx
  rename_i d aa5 hd hG;cases hx;obtain⟨v,an,gm⟩:=Sn h cf hd;obtain⟨vs,mB,ab,ah⟩:=Sp h cf hG;refine⟨v::vs,?_,by simp [ab],λi u c hu hc=>?_⟩
  ·simp only [List.mapM_cons,Sem.run_bind,an,Result.andThen_ok,mB,Sem.run_pure]
  ·cases i with
   |zero=>simp at hu hc;subst hu;subst hc;exact gm
   |succ i=>simp at hu hc;exact ah i u c hu hc
def abr{H:List (Nat×List aP)}{E:Nat}{bA:List (List aP)}(h:boxes H (List.range E)=some bA):bA.length=E∧∀r,r<E→look H r=bA[r]? ∧ (bA[r]?).isSome=true:=by
 obtain⟨Z,aa⟩:=ud h;exact⟨by simpa using Z,λr ah=>aa r r (by simp [ah])⟩
def bv.leave(h:bv P K M β st tmps w){bA:List (List aP)}(AA:boxes st.H (List.range E)=some bA)(Sq:bA.all (r' E)=true)(ei:∀r b,K.kH r=some b→r<E){v:Value}{d:D}{own:Option TypeId}
 (an:ce M β v d) (hd:below E d=true) (fZ:∀T,own=some T→∃l,mz P K M β {env:=gM l st.env,H:=st.H,aL:=st.aL} tmps w (.slot 0) v T∧True):
 ∃ β',bv P K M β' {env:=[(0,{d,own})],H:=cB 0 bA,aL:=E} #[v] w:=by
 obtain⟨ab,li⟩:=abr AA;have Z:=h.Aw #[undef]
 have jP:∀r cs,look (cB 0 bA) r=some cs→r<E∧look st.H r=some cs:=by
  intro r cs ah;rw [mE]at ah;have cK:r<E:=by have:=(List.getElem?_eq_some_iff.1 ah).1;omega
  exact⟨cK,by rw [(li r cK).1];exact ah⟩
 have hle:E≤st.aL∨E=0:=by
  by_cases h0:E=0
  ·exact .inr h0
  ·obtain⟨aa,ai⟩:=li (E-1) (by omega)
   obtain⟨cs,dV⟩:=Option.isSome_iff_exists.1 ai;rw [dV]at aa;obtain⟨b,_,_,hb,_⟩:=h.box _ cs aa;have:=h.lt _ b hb
   exact .inl (by omega)
 have aa:bv P K M β {env:=[],H:=cB 0 bA,aL:=st.aL} #[undef] w:=by
  refine Z.sub rfl (λl e ab=>?_) (λr cs ah=>⟨cs,(jP r cs ah).2,rfl⟩)
  cases l with
  |slot s=>simp [aD.at,look]at ab
  |cell r i=>
   simp only [aD.at]at ab ⊢;cases ah:look (cB 0 bA) r with
   |none=>simp [ah]at ab
   |some cs=>simp [ah]at ab;exact⟨e,by simp [(jP r cs ah).2,ab],rfl,λ_ h=>h⟩
 -- lJ slot
 have ai:bv P K M β {env:=[(0,{d,own})],H:=cB 0 bA,aL:=st.aL} #[v] w:=by
  have abs:=aa.put (t:=0) (v:=v) (e:={d,own}) (by simp) an (λT az=>?_)
  ·simpa using abs
  ·obtain⟨l,hn,_⟩:=fZ T az;refine⟨hn.own,λgZ e T' b e0 dI _ hb bF=>?_,λb r cs hb ah=>hn.unbox b r cs hb (jP r cs ah).2⟩
   cases gZ with
   |slot s=>simp [aD.at,look]at e0
   |cell r i=>
    simp only [aD.at]at e0;cases ah:look (cB 0 bA) r with
    |none=>simp [ah]at e0
    |some cs=>
     simp [ah]at e0;exact hn.apart (.cell r i) e T' b (by simp [aD.at,(jP r cs ah).2,e0]) dI (by simp) hb bF
 refine⟨λr=>if r<E then β r else none,?_⟩
 have b6:∀l e,({env:=[(0,{d,own})],H:=cB 0 bA,aL:=st.aL}:aD).at l=some e→cb #[v] w (λr=>if r<E then β r else none) l=cb #[v] w β l:=by
  intro l e ab;cases l with
  |slot s=>rfl
  |cell r i=>
   simp only [aD.at]at ab;cases ah:look (cB 0 bA) r with
   |none=>simp [ah]at ab
   |some cs=>simp [cb,(jP r cs ah).1]
 have mA:∀l e,({env:=[(0,{d,own})],H:=cB 0 bA,aL:=st.aL}:aD).at l=some e→below E e.d=true:=by
  intro l e ab;cases l with
  |slot s=>
   simp only [aD.at,dB]at ab;split at ab
   ·cases ab;exact hd
   ·simp [look]at ab
  |cell r i=>
   simp only [aD.at]at ab;cases ah:look (cB 0 bA) r with
   |none=>simp [ah]at ab
   |some cs=>
    simp [ah]at ab;rw [mE]at ah;rw [List.all_eq_true]at Sq;exact JJ (Sq cs (List.mem_of_getElem? ah)) ab
 constructor
 ·intro l e ab;rw [b6 l e ab];exact(ai.e9 l e ab).QT (λr ah=>by simp [ah]) (mA l e ab)
 ·intro l e T ab az;rw [b6 l e ab];exact ai.own l e T ab az
 ·intro l co e a' T T' b ab az dj dI hb bF;rw [b6 l e ab]at hb;rw [b6 co a' dj]at bF;exact ai.uniq l co e a' T T' b ab az dj dI hb bF
 ·intro l e T b r cs ab az hb ah;rw [b6 l e ab]at hb;have:=ai.unbox l e T b r cs ab az hb ah
  simpa [(jP r cs ah).1]using this
 ·intro r cs ah;obtain⟨b,vs,T,ay,aJ⟩:=ai.box r cs ah;exact⟨b,vs,T,by simpa [(jP r cs ah).1]using ay,aJ⟩
 ·intro r dd b cs cs' ah fM hb bF;exact ai.inj r dd b cs cs' ah fM (by simpa [(jP r cs ah).1]using hb) (by simpa [(jP dd cs' fM).1]using bF)
 ·intro r b hb;by_cases cK:r<E
  ·exact cK
  ·simp [cK]at hb
 ·exact ai.mem
 ·exact ai.m0
 ·exact ai.frame
 ·intro r b hb;simp [ei r b hb,ai.ie r b hb]
 ·exact ai.iR
 ·exact ai.hE
def bv.era{env:List (Nat×aP)}{H:List (List aP)}{n:Nat}(h:bv P K M β {env:=env,H:=cB 0 H,aL:=n} tmps w):bv P K M β {env:=env,H:=cB 0 (nx H),aL:=n} tmps w:=by
 refine h.sub rfl (λl e ab=>?_) (λr cs ah=>?_)
 ·cases l with
  |slot s=>exact⟨e,ab,rfl,λ_ h=>h⟩
  |cell r i=>
   simp only [aD.at,mE,nx,List.getElem?_map]at ab ⊢;cases hb:H[r]? with
   |none=>simp [hb]at ab
   |some b=>
    simp only [hb,Option.map_some,Option.bind_some,List.getElem?_map,Option.map_eq_some_iff]at ab;obtain⟨bN,h0,rfl⟩:=ab;exact⟨bN,by simpa using h0,rfl,λT az=>by cases az⟩
 ·simp only [mE,nx,List.getElem?_map,Option.map_eq_some_iff]at ah ⊢;obtain⟨b,hb,rfl⟩:=ah;exact⟨b,hb,by simp⟩
def AB{fn:Func}{E:Nat}{fx:Array Value}{w':World}{bO:aD}{M':Mem}{β':Nat→Option Nat}{o:Out}{bA:List (List aP)}(cf:fe P tt=true)(ei:∀r b,K.kH r=some b→r<E)(hs:bv P K M' β' bO fx w')
 (ab:Ab.leave tt E fn.results.toList bO=some (o,bA)):
 ∃v,(results fn fx).run P w' = .ok v w'∧∃md M' β',Ending.returned v=si o md∧bv P K M' β' {env:=hZ o,H:=cB 0 bA,aL:=E} #[md] w':=by
 unfold Ab.leave at ab;split at ab
 case h_2=>cases ab
 rename_i d own H1 iJ AA;rw [Bool.cond_eq_ite]at ab;split at ab
 case isFalse=>cases ab
 rename_i hc;simp only [Bool.and_eq_true]at hc;cases ab
 -- lJ value of lJ results
 have b6:∃v,(results fn fx).run P w' = .ok v w'∧ce M' β' v d∧∀T,own=some T→∃l,mz P K M' β' {env:=gM l bO.env,H:=bO.H,aL:=bO.aL} fx w' (.slot 0) v T∧True:=by
  have hm:∀{vs:List Value},(fn.results.toList.mapM (Ef fx)).run P w' = .ok vs w'→
   (results fn fx).run P w' = .ok (if h:vs.length=1 then vs[0]else .tuple ⟨vs⟩) w':=by
   intro vs mB
   have iJ:results fn fx=(do let vs ←fn.results.mapM (Ef fx);pure (if h:vs.size=1 then vs[0]else .tuple vs)):=by
    unfold results
    congr 2
   rw [iJ,show fn.results=⟨fn.results.toList⟩from rfl,List.mapM_toArray]
   simp only [Sem.run_bind,Sem.run_map,mB,Result.andThen_ok,Sem.run_pure];simp
  unfold Sm at iJ;split at iJ
  ·rename_i t aC;simp only [Option.map_eq_some_iff,Prod.mk.injEq]at iJ;obtain⟨e,he,rfl,rfl⟩:=iJ;have hY:=hs.e9 (.slot t) e he;refine⟨fx.getD t undef,?_,hY,λT az=>⟨[t],hs.hand he az (.slot 0),trivial⟩⟩
   have:=hm (vs:=[fx.getD t undef]) (by rw [aC];rfl)
   simpa using this
  ·rename_i x cW hx;simp only [Option.map_eq_some_iff,Prod.mk.injEq]at iJ;obtain⟨di,jJ,rfl,rfl⟩:=iJ;obtain⟨v,an,gm⟩:=Sn hs cf jJ;refine⟨v,?_,gm,by simp⟩
   have:=hm (vs:=[v]) (by rw [hx];simp only [List.mapM_cons,List.mapM_nil,Sem.run_bind,an,Result.andThen_ok,Sem.run_pure])
   simpa using this
  ·simp only [Option.map_eq_some_iff,Prod.mk.injEq]at iJ;obtain⟨ds,hG,rfl,rfl⟩:=iJ;obtain⟨vs',mB,ab,gm⟩:=Sp hs cf hG;refine⟨.tuple ⟨vs'⟩,?_,.cm vs' ds ab gm,by simp⟩
   have cW:vs'.length≠1:=by
    rename_i Z aa;rw [ab,(sd hG).1];intro bf;obtain⟨x,hx⟩:=List.length_eq_one_iff.1 bf;exact aa x hx
   have:=hm mB
   simpa [cW]using this
 obtain⟨v,eV,gm,fZ⟩:=b6;obtain⟨AC,mH⟩:=hs.leave AA hc.2 ei gm hc.1 fZ;exact⟨v,eV,v,M',AC,rfl,mH⟩
def bv.ux{P:Program}{K:Ctx}{M:Mem}{β:Nat→Option Nat}{st:aD}{tmps:Array Value}{w:World}(h:bv P K M β st tmps w)(ds:List Deferred):bv P {K with ds:=ds} M β st tmps w:=
 ⟨h.e9,h.own,h.uniq,h.unbox,h.box,h.inj,h.lt,h.mem,h.m0,h.frame,h.ie,h.iR,h.hE⟩
def KO{args:List D}{dU:List (Nat×TypeId)}{H:List (List aP)}{vs:List Value}{n:Nat}(hlen:vs.length=args.length)(cw:bv P K M β {env:=hy args dU,H:=cB 0 H,aL:=H.length} ⟨vs⟩ w):
 bv P K M β {env:=hy args dU,H:=cB 0 H,aL:=H.length} ((⟨vs⟩:Array Value)++Array.replicate n undef) w:=by
 have an:∀l e,({env:=hy args dU,H:=cB 0 H,aL:=H.length}:aD).at l=some e→cb ((⟨vs⟩:Array Value)++Array.replicate (n) undef) w β l=cb ⟨vs⟩ w β l:=by
  intro l e ab;cases l with
  |slot s=>
   simp only [aD.at,hy,mE,Af,Option.map_eq_some_iff]at ab;obtain⟨d,hd,_⟩:=ab;have hs:s<vs.length:=by have:=(List.getElem?_eq_some_iff.1 hd).1;omega
   simp only [cb,Array.getD_eq_getD_getElem?];rw [Array.getElem?_append_left (by simpa using hs)]
  |cell r i=>rfl
 constructor
 ·intro l e ab;rw [an l e ab];exact cw.e9 l e ab
 ·intro l e T ab az;rw [an l e ab];exact cw.own l e T ab az
 ·intro l co e a' T T' b ab az dj dI hb bF;rw [an l e ab]at hb;rw [an co a' dj]at bF;exact cw.uniq l co e a' T T' b ab az dj dI hb bF
 ·intro l e T b r cs ab az hb ah;rw [an l e ab]at hb;exact cw.unbox l e T b r cs ab az hb ah
 ·exact cw.box
 ·exact cw.inj
 ·exact cw.lt
 ·exact cw.mem
 ·exact cw.m0
 ·exact cw.frame
 ·exact cw.ie
 ·exact cw.iR
 ·exact cw.hE
def pX.of_wp {f : FuncId} {fn : Func} {c : Code} {args : List D} {dU : List (Nat × TypeId)} {H : List (List aP)} {R : Out → List (List aP) → Prop} (cf : fe P tt = true) (aN : P.funcs[f]? = some fn) (hb : fn.body = some c) (jf : decide (fn.name = "runtime.NumGoroutine") = false)
 (ff:Nat.ble args.length fn.ntmps=true) (h:aV P fn.ntmps H.length c (ss tt H.length fn.results.toList R) {env:=hy args dU,H:=cB 0 H,aL:=H.length}):pX P f args dU H R:=by
 refine⟨⟨fn,aN,by rw [hb];rfl,by simpa using jf⟩,?_⟩
 intro dc w vs M β hlen KP KQ
 suffices key:∀K:Ctx,K.ds=[]→bv P K M β {env:=hy args dU,H:=cB 0 H,aL:=H.length} ⟨vs⟩ w→(∀r b,β r=some b→K.kH r=some b)→
  Calls P f ⟨vs⟩ w λe w'=>∃o bA v M' β',R o bA∧e=si o v∧bv P K M' β' {env:=hZ o,H:=cB 0 bA,aL:=H.length} #[v] w' from
  (key {dc with ds:=[]} rfl (KP.ux []) KQ).mono λe w' ⟨o,bA,v,M',β',Z,aa,ai⟩=>⟨o,bA,v,M',β',Z,aa,ai.ux dc.ds⟩
 intro K hG cw gN;have ei:∀r b,K.kH r=some b→r<H.length:=λr b hb=>cw.lt r b (cw.ie r b hb)
 simp only [Nat.ble_eq]at ff;have abt:=KO (n:=fn.ntmps-(⟨vs⟩:Array Value).size) hlen cw;have abu:=h K ei {tmps:=(⟨vs⟩:Array Value)++Array.replicate (fn.ntmps-(⟨vs⟩:Array Value).size) undef,defers:=[]} w ⟨rfl,hG.symm,by simp;omega,M,β,abt⟩
 refine calls_of_wp aN hb (wp_mono abu ?_)
 have fin:∀(dD:Act) (w':World) (bO:aD) M' β',bv P K M' β' bO dD.tmps w'→(∃o bA,Ab.leave tt H.length fn.results.toList bO=some (o,bA)∧R o bA)→
  ∃v,(results fn dD.tmps).run P w' = .ok v w'∧∃o bA md M' β',R o bA∧Ending.returned v=si o md∧bv P K M' β' {env:=hZ o,H:=cB 0 bA,aL:=H.length} #[md] w':=by
  intro dD w' bO M' β' hs ⟨o,bA,ab,f8⟩;obtain⟨v,Z,md,z7,z8,aa,ai⟩:=AB cf ei hs ab;exact⟨v,Z,o,bA,md,z7,z8,f8,aa,ai⟩
 rintro e dD w' ⟨fm,bO,Z,aa⟩
 cases fm with
 |normal=>
  obtain⟨rfl,hd,_,M',β',hs⟩:=Z;exact⟨hd.trans hG,fin dD w' bO M' β' hs aa⟩
 |ret=>
  obtain⟨rfl,hd,_,M',β',hs⟩:=Z;exact⟨hd.trans hG,fin dD w' bO M' β' hs aa⟩
 |exit i=>exact aa.elim
 |a8 x=>
  obtain⟨v,rfl,hd,M',β',gm,hs⟩:=Z;obtain⟨H1,ab,f8⟩:=aa;unfold Ee at ab;split at ab
  case h_2=>cases ab
  rename_i ct AA;rw [Bool.cond_eq_ite]at ab;split at ab
  case isFalse=>cases ab
  rename_i hc;cases ab;obtain⟨AC,mH⟩:=hs.leave (own:=none) AA hc ei (.v v x gm) rfl (by simp)
  exact⟨hd.trans hG,.a8 x,nx H1,v,M',AC,f8,rfl,mH.era⟩
end
def km:List Prop→Prop
 |[]=>True
 |p::l=>p∧km l
def km.mem:∀{l:List Prop},km l→∀q,q∈l→q
 |[],_,q,h=>by cases h
 |p::l,hp,q,h=>by
  rcases List.mem_cons.1 h with rfl|h
  ·exact hp.1
  ·exact km.mem hp.2 q h
section
variable {P:Program} {N E:Nat} {st:aD} {tt:dq}
def aV.cut{x y:Code}{Q:b'→aD→Prop}(J:aD→Prop)(Z:aV P N E x (b'.then J Q) st)(aa:∀bO,J bO→aV P N E y Q bO):aV P N E (.seq x y) Q st:=
 aV.seq (Z.mono λfm bO h=>by cases fm<;>first|exact aa bO h|exact h)
def b'.oa{next:aD→Prop}{Q:b'→aD→Prop}(h:next st):b'.then next Q .normal st:=h
def b'.Sr{next:aD→Prop}{Q:b'→aD→Prop}{x:V}(h:Q (.a8 x) st):b'.then next Q (.a8 x) st:=h
def b'.abv{Q:b'→aD→Prop}{i:Nat}(h:Q .normal st):b'.inBlock i Q (.exit i) st:=by simpa [b'.inBlock]using h
def b'.abw{Q:b'→aD→Prop}{i j:Nat}(cW:Nat.beq j i=false)(h:Q (.exit j) st):b'.inBlock i Q (.exit j) st:=by
 have:j≠i:=by rintro rfl;simp at cW
 simpa [b'.inBlock,this]using h
def abx {f : FuncId} {fn : Func} {c : Code} {args : List D} {dU : List (Nat × TypeId)} {H ct : List (List aP)} {out : Out} (cf : fe P tt = true) (aN : P.funcs[f]? = some fn) (hb : fn.body = some c) (jf : decide (fn.name = "runtime.NumGoroutine") = false)
 (ff:Nat.ble args.length fn.ntmps=true) (h:aV P fn.ntmps H.length c (ss tt H.length fn.results.toList λo bA=>o=out∧bA=ct) {env:=hy args dU,H:=cB 0 H,aL:=H.length}):gw P f args dU H out ct:=
 pX.of_wp cf aN hb jf ff h
def aby{rs:List ResultVar}{out:Out}{ct:List (List aP)}(h:leave tt E rs st=some (out,ct)):ss tt E rs (λo bA=>o=out∧bA=ct) .ret st:=⟨out,ct,h,rfl,rfl⟩
def KR{rs:List ResultVar}{out:Out}{ct:List (List aP)}(h:leave tt E rs st=some (out,ct)):ss tt E rs (λo bA=>o=out∧bA=ct) .normal st:=⟨out,ct,h,rfl,rfl⟩
def abz{rs:List ResultVar}{x:V}{ct:List (List aP)}(h:(Ee E st.H).map nx=some ct):ss tt E rs (λo bA=>o = .a8 x∧bA=ct) (.a8 x) st:=by
 rw [Option.map_eq_some_iff]at h;obtain⟨bA,Z,aa⟩:=h;exact⟨bA,Z,rfl,aa⟩
end
def aE{α:Type}(b:Bool)(x:Option α):Option α:=bif b then x else none
def rk{α:Type}{b:Bool}{x:Option α}{r:α}(h:aE b x=some r):b=true∧x=some r:=by
 cases b
 ·cases h
 ·exact⟨rfl,h⟩
def bind_some{α β:Type}{x:Option α}{f:α→Option β}{r:β}(h:Option.bind x f=some r):∃a,x=some a∧f a=some r:=Option.bind_eq_some_iff.1 h
def dM{α:Type}{b:Bool}{x y z:α}(hb:b=true)(h:(bif b then x else y)=z):x=z:=by subst hb;exact h
def mf{c x:Bool}(h:(!c||x)=true)(hc:c=true):x=true:=by subst hc;simpa using h
def hP{c x:Bool}(h:(c||x)=true)(hc:c=false):x=true:=by subst hc;simpa using h
def af{α:Type}[Inhabited α](k:Nat)(e:α→V)(l:List α):V:=.br k l.length λi=>e (l.getD i default)
def hI(x:V):gL x x:=λ_ _ h=>h
def p5{k n:Nat}{g eG:Nat→V}(h:∀i,i<n→g i=eG i):gL (.br k n g) (.br k n eG):=by
 intro M v an;cases an with
 |lC=>exact .lC _ _
 |oP=>exact .oP _ _ _
 |br b off k n cap g val hc hk cI Z ah=>
  exact .br b off k n cap eG val hc (λi hi=>by rw [←h i hi];exact hk i hi) cI Z (λi j c hi lf=>ah i j c hi (by rw [h i hi];exact lf))
def abA{α:Type}[Inhabited α]{k:Nat}{e:α→V}{xs:List V}{l:List α}(h:xs=l.map e)(n:Nat)(hn:n=l.length):gL (.br k n λi=>xs.getD i .d') (af k e l):=by
 subst h;subst hn;refine p5 λi hi=>?_
 simp [List.getD,List.getElem?_eq_getElem hi]
def jh{α:Type}[Inhabited α]{k:Nat}{e:α→V}(l jy:List α):gL (.br k (l.length+jy.length) λi=>bif Nat.blt i l.length then e (l.getD i default)else e (jy.getD (i-l.length) default)) (af k e (l++jy)):=by
 rw [af,List.length_append];refine p5 λi hi=>?_
 by_cases h:i<l.length
 ·have hb:Nat.blt i l.length=true:=by simpa using h
  simp [hb,List.getD,List.getElem?_append_left h]
 ·have hb:Nat.blt i l.length=false:=by rw [Bool.eq_false_iff];simpa using h
  simp [hb,List.getD,List.getElem?_append_right (Nat.le_of_not_lt h)]
def Ss(l:List Int)(s:anT):gL (.br 1 (l.length+s.length) λi=>bif Nat.blt i l.length then .int .u8 (l.getD i default)else .int .u8 (s.getD (i-l.length) 0).toNat) (af 1 (λx=>.int .u8 x) (l++s.map λb=>(b.toNat:Int))):=by
 have ab:(l++s.map λb=>(b.toNat:Int)).length=l.length+s.length:=by simp
 rw [af,ab];refine p5 λi hi=>?_
 by_cases h:i<l.length
 ·have hb:Nat.blt i l.length=true:=by simpa using h
  simp [hb,List.getD,List.getElem?_append_left h]
 ·have hb:Nat.blt i l.length=false:=by rw [Bool.eq_false_iff];simpa using h
  have aa:i-l.length<s.length:=by omega
  simp [hb,List.getD,List.getElem?_append_right (Nat.le_of_not_lt h),aa]
def St{α:Type}[Inhabited α]{k:Nat}{e:α→V}(l:List α)(b:Int)(h:0≤b∧b≤l.length):gL (.br k b.toNat λi=>e (l.getD i default)) (af k e (l.take b.toNat)):=by
 have:(l.take b.toNat).length=b.toNat:=by simp;omega
 rw [af,this];exact p5 λi hi=>by simp [List.getD,hi]
end Go.Ab

/- The abstract machine: a step of code over plain data, proved against the model. -/
import Derived.Scope
import Derived.Recover
import Derived.Lib.Builder
import Derived.Lib.UnsafeStr
import Derived.OpenShut
import Derived.ReadAgain
import Derived.Lib.SliceRun
import Derived.Test.YtndmefekdnfmaaaGreatDoorMachB
set_option linter.all false
namespace Go.Ab
def hH(ops:List Oper)(o:Oper)(E:eW):Bool:=aoY (r8 ops o++E.p.map (·.1)) E.o9&&(tu o == E.r6)&&decide (E.dst=o.dst)&&(match E.f.rs with|[]=>true|_=>false)&&(Nat.beq E.pY 0||Nat.beq E.pY (y0 o E.rs)&&Nat.beq E.kd 0)
where aoY (a b:List Nat):Bool:=a.all λx=>b.any (Nat.beq x)
def LU{ops:List Oper}{o:Oper}{E:eW}(h:hH ops o E=true):(∀t,t∈r8 ops o++E.p.map (·.1)->t∈E.o9)/\tu o=E.r6/\E.dst=o.dst/\E.f.rs=[]:=by
 simp only[hH,cb,beq_iff_eq,fx]at h;let⟨⟨⟨⟨d,c⟩,i⟩,a⟩,_⟩:=h;refine⟨λt g=>?_,c,i,?_⟩
 ·let⟨y,e,b⟩:=tr.1<|gK.1 d t g;have:t=y:=by simpa using b
  rw[this];exact e
 ·split at a
  ·assumption
  ·cases a
def waits(ops:List Oper)(i:Nat):Nat->Nat->Bool
 | 0,_=>false
 |n+1,j=>match ops[j]? with
  |some o=>o.after.toList.any λe=>Region.binds .any e&&(Nat.beq e.on i||waits ops i n e.on)
  |none=>false
def o_(UJ:Array Oper)(a:Array Bool):Prop:=∀(j:Nat) o,UJ[j]? = some o->a.getD j false=true->∀e,e∈o.after->Region.binds .any e=true->a.getD e.on false=true
def LV{UJ:Array Oper}{a:Array Bool}(c:o_ UJ a){i:Nat}:∀{n j:Nat},waits UJ.toList i n j=true->a.getD j false=true->a.getD i false=true
 | 0,_,h,_=>by simp[waits]at h
 |n+1,j,h,f=>by
  simp only[waits]at h;split at h
  ·rename_i o k;let⟨e,g,b⟩:=tr.1 h;simp only[cb,mu,kb]at b;have d:=c j o (by simpa using k) f e (by simpa using g) b.1
   rcases b.2 with rfl|h2
   ·exact d
   ·exact LV c h2 d
  ·cases h
def o_.set{UJ:Array Oper}{a:Array Bool}(k:o_ UJ a){i:Nat}(l:i∈Region.ready .any UJ a):o_ UJ (a.setIfInBounds i true):=by
 intro j o h d e f g;by_cases c:i=j
 ·subst c;let⟨_,m,b,nV⟩:=mem_ready.1 l;rw[h]at b;cases b;exact getD_set_true<|nV e f g
 ·rw[getD_set_ne false c]at d;exact getD_set_true (k j o h d e f g)
section
variable {a:hC} {tt:dI} {UJ:Array Oper} {b:List eW} {Fi:dt->Prop} {g g1 g2:dt}
def j'(a:hC)(tt:dI)(UJ:Array Oper)(b:List eW)(Fi:dt->Prop):Nat->Array Bool->dt->Prop
 | 0,c,g=>Region.ready .any UJ c=[]/\Fi g
 |n+1,c,g=>(Region.ready .any UJ c=[]->Fi g)/\∀i,i∈Region.ready .any UJ c->∃o E,UJ[i]? = some o/\b[i]? = some E/\Can a tt UJ.toList o E g/\
  j' a tt UJ b Fi n (c.setIfInBounds i true) (e5 E g)
def j'.alike(cU:∀(i:Nat) o E,UJ[i]? = some o->b[i]? = some E->hH UJ.toList o E=true)(e:∀g1 g2,Alike g1 g2->Fi g1->Fi g2):∀{n:Nat} {c:Array Bool} {g1 g2:dt},Alike g1 g2->j' a tt UJ b Fi n c g1->j' a tt UJ b Fi n c g2
 | 0,_,_,_,d,h=>⟨h.1,e _ _ d h.2⟩
 |n+1,_,_,_,d,h=>⟨λs=>e _ _ d<|h.1 s,λi m=>by
  let⟨o,E,j,f,k,l⟩:=h.2 i m;let⟨p,r,_,_⟩:=LU<|cU i o E j f;exact⟨o,E,j,f,k.congr p r (λt _=>d.slot t) (λq _=>d.box q) (λ_=>d.aD) d.ids,j'.alike cU e d.ap l⟩⟩
def Gt{ops:List Oper}{o:Oper}{E:eW}{n:Nat}(h:hH ops o E=true)(c:E.pY=n+1):y0 o E.rs=n+1/\E.kd=0:=by
 simp only[hH,cb,mu,kb]at h;rcases h.2 with h|h
 ·rw[c]at h;cases h
 ·exact⟨h.1.symm.trans c,h.2⟩
def Can.data{a:hC}{tt:dI}{ops:List Oper}{o:Oper}{E:eW}{g:dt}(h:Can a tt ops o E g)(e:hH ops o E=true)(f:E.pY=2)(q:Nat):wT (e5 E g) g q:=by
 let⟨d,c⟩:=Gt e f;rcases h with h|h
 ·rw[c]at h;cases h
 ·exact aoU h d c q
def aoZ{E c:eW}(h:Gs E c=true):sep (pZ E) c.o9=true/\sep (pZ E) (pZ c)=true/\sep (pZ c) E.o9=true/\(sep (qT E) c.ly=true\/E.pY=2/\c.pY=1)/\sep (qT E) (qT c)=true/\(sep (qT c) E.ly=true\/c.pY=2/\E.pY=1)/\(E.r6=true->B' c=0)/\(c.r6=true->B' E=0):=by
 simp only[Gs,cb,mu,hh,kb]at h;let⟨⟨⟨⟨⟨⟨⟨f,e⟩,m⟩,l⟩,n⟩,k⟩,j⟩,i⟩:=h;exact⟨f,e,m,l,n,k,λd=>j.resolve_left<|by simp[d],λd=>i.resolve_left<|by simp[d]⟩
def j'.first(cU:∀(i:Nat) o E,UJ[i]? = some o->b[i]? = some E->hH UJ.toList o E=true)(dS:∀g1 g2,Alike g1 g2->Fi g1->Fi g2){i:Nat}{o:Oper}{E:eW}(hi:UJ[i]? = some o)(w:b[i]? = some E):
 ∀(d:Nat) (c:Array Bool) (g:dt),
  (∀(j:Nat) m f,UJ[j]? = some m->b[j]? = some f->j≠i->c.getD j true=false->waits UJ.toList i 3 j=false->Gs E f=true)->o_ UJ c->
  i∈Region.ready .any UJ c->Can a tt UJ.toList o E g->j' a tt UJ b Fi d (c.setIfInBounds i true) (e5 E g)->j' a tt UJ b Fi (d+1) c g:=by
 intro d;induction d with
 |zero=>
  intro c g _ _ r k1 H;refine⟨λh=>(by rw[h]at r;cases r),λj x=>?_⟩
  by_cases p:j=i
  ·subst p;exact⟨o,E,hi,w,k1,H⟩
  ·have:=ready_mono x p
   rw[H.1]at this;cases this
 |succ d aE=>
  intro c g lT y r k1 H;refine⟨λh=>(by rw[h]at r;cases r),λj x=>?_⟩
  by_cases p:j=i
  ·subst p;exact⟨o,E,hi,w,k1,H⟩
  let⟨m,f,n,s,I,S⟩:=H.2 j<|ready_mono x p;let⟨F,aCz,B,nV⟩:=mem_ready.1 x;rw[n]at B;cases B
  have u:c.getD i false=false:=by
   have h0:=(mem_ready.1 r).1;rcases yn i c.size with b'|b'
   ·simpa[fi,b']using h0
   ·simp[fi,xG b']
  have R:waits UJ.toList i 3 j=false:=by
   rw[sw];intro l;rw[waits]at l;have aa:UJ.toList[j]? = some m:=by simpa using n
   simp only[aa]at l;let⟨e,he,K⟩:=tr.1 l;simp only[cb,mu,kb]at K;have L:=nV e (by simpa using he) K.1
   rcases K.2 with rfl|h2
   ·rw[u]at L;cases L
   ·rw[LV y h2 L]at u;cases u
  let⟨Y,d2,d3,O,d5,N,d7,d8⟩:=aoZ<|lT j m f n s p F R;let⟨X,ak,_,_⟩:=LU<|cU i o E hi w;let⟨W,jY,_,_⟩:=LU<|cU j m f n s
  have Z:Can a tt UJ.toList m f g:=by
   rcases O with O|⟨M,z⟩
   ·exact I.congr W jY (λt A=>yX λl=>yY Y l A) (λq T=>B9 λl=>yY O l T) (λJ=>by rw[LP,d8 J];rfl) LQ
   ·exact I.aed (Gt (cU j m f n s) z).1 (Gt (cU j m f n s) z).2 W (λt A=>yX λl=>yY Y l A)<|k1.data (cU i o E hi w) M
  have c2:Can a tt UJ.toList o E (e5 f g):=by
   have Ca:∀t,t∈E.o9->oF g (e5 f g) t:=λt A=>by have:=yX (E:=f) (g:=g) (t:=t) λl=>yY d3 l A;exact⟨this.1.symm,this.2.symm⟩
   rcases N with N|⟨M,z⟩
   ·exact k1.congr X ak Ca (λq T=>(B9 (E:=f) (g:=g) (q:=q) λl=>yY N l T).symm) (λJ=>by rw[LP,d7 J];rfl) LQ.symm
   ·exact k1.aed (Gt (cU i o E hi w) z).1 (Gt (cU i o E hi w) z).2 X Ca<|λq=>(Z.data (cU j m f n s) M q).symm
  refine⟨m,f,n,s,Z,aE (c.setIfInBounds j true) (e5 f g) ?_ (y.set x) (ready_mono r<|Ne.symm p) c2 ?_⟩
  ·intro k ok Q hk P LW u fJ;refine lT k ok Q hk P LW ?_ fJ;by_cases U:j=k
   ·subst U;exact F
   ·rw[getD_set_ne true U]at u;exact u
  ·rw[Array.setIfInBounds_comm _ _ p];exact j'.alike cU dS (aoS d2 d5).symm S
structure LX(n k:Nat)(listed:Array Bool):Prop where
 size:listed.size=n
 U9:∀j,j<n->listed[j]? = some (decide<|j<k)
def LX.set{n k:Nat}{c:Array Bool}(h:LX n k c):LX n (k+1) (c.setIfInBounds k true):=by
 refine⟨by simp[h.size],λj e=>?_⟩
 by_cases d:k=j
 ·subst d;simp[h.size,e]
 ·rw[oH d,h.U9 j e]
  congr 1
  have:(j<k)=(j<k+1):=by apply propext;omega
  simp[this]
def ao4(o:Oper)(k:Nat):Bool:=o.after.toList.all λe=>!Region.binds .any e||Nat.blt e.on k
def LY(ops:List Oper)(E:eW)(k:Nat):Nat->List (Oper×eW)->Bool
 |_,[]=>true
 |j,(_,c)::l=>(Gs E c||waits ops k 3 j)&&LY ops E k (j+1) l
def LZ(ops:List Oper):Nat->List (Oper×eW)->Bool
 |_,[]=>true
 |k,(o,E)::l=>ao4 o k&&LY ops E k (k+1) l&&LZ ops (k+1) l
def L0(a:hC)(tt:dI)(ops:List Oper)(Fi:dt->Prop):List (Oper×eW)->dt->Prop
 |[],g=>Fi g
 |(o,E)::l,g=>Can a tt ops o E g/\L0 a tt ops Fi l (e5 E g)
def aeh{ops:List Oper}{E:eW}{k:Nat}:∀{l:List (Oper×eW)} {n:Nat},LY ops E k n l=true->∀(j:Nat) o d,l[j]? = some (o,d)->waits ops k 3 (n+j)=false->Gs E d=true
 |[],_,_,j,o,d,c,_=>by simp at c
 |(f,aZ)::l,n,h,j,o,d,c,e=>by
  simp only[LY,cb,mu]at h;cases j with
  |zero=>
   simp at c
   obtain⟨rfl,rfl⟩:=c;exact h.1.resolve_right (by rw[sa]at e;rw[e];simp)
  |succ j=>exact aeh h.2 j o d (by simpa using c) (by rwa [show n+1+j=n+(j+1)by omega])
def j'.text(H:∀(i:Nat) o E,UJ[i]? = some o->b[i]? = some E->hH UJ.toList o E=true)(F:∀g1 g2,Alike g1 g2->Fi g1->Fi g2):
 ∀(l:List<|Oper×eW) (k:Nat) (c:Array Bool) (g:dt),(∀j:Nat,(l[j]?).map (·.1)=UJ[k+j]?)->(∀j:Nat,(l[j]?).map (·.2)=b[k+j]?)->LX UJ.size k c->o_ UJ c->LZ UJ.toList k l=true->L0 a tt UJ.toList Fi l g->
  j' a tt UJ b Fi l.length c g
 |[],k,c,g,n,_,h,_,_,t=>by
  refine⟨?_,t⟩
  have L:UJ[k]? = none:=by have:=n 0;simpa using this.symm
  have T:UJ.size<=k:=by simpa using L
  refine aEr.2 λj M=>?_
  let⟨B,o,p,_⟩:=mem_ready.1 M;have w:j<UJ.size:=(fy.1 p).1;have:=h.U9 j w
  rw[fi,this]at B;have y:j<k:=by omega
  simp[y]at B
 |(o,E)::l,k,c,g,n,u,h,m,s,t=>by
  have p:UJ[k]? = some o:=by have:=n 0;simpa using this.symm
  have Q:b[k]? = some E:=by have:=u 0;simpa using this.symm
  have w:k<UJ.size:=(fy.1 p).1;simp only[LZ,cb]at s;let⟨⟨R,S⟩,s⟩:=s
  have r:k∈Region.ready .any UJ c:=by
   refine mem_ready.2 ⟨?_,o,p,λe N O=>?_⟩
   ·rw[fi,h.U9 k w];simp
   ·have:=gK.1 R e (by simpa using N)
    simp only[O,Bool.not_true,jJ,ph]at this;rw[fi,h.U9 e.on (by omega)]
    simp[this]
  refine j'.first H F p Q l.length c g ?_ m r t.1 (j'.text H F l (k+1) _ _ (λj=>?_) (λj=>?_) h.set (m.set r) s t.2)
  ·intro j W U z J K A X;have I:j<UJ.size:=(fy.1 z).1
   have y:k<j:=by
    rw[fi,h.U9 j I]at A;simp at A
    omega
   have d:=n<|j-k;have f:=u<|j-k;have q:k+(j-k)=j:=by omega
   rw[q,z]at d;rw[q,J]at f
   have P:(((o,E)::l)[j-k]?)=l[j-k-1]? := by
    have:j-k=(j-k-1)+1:=by omega
    rw[this];simp
   rw[P]at d f;cases aa:l[j-k-1]? with
   |none=>rw[aa]at d;simp at d
   |some x=>
    rw[aa]at d f;simp at d f
    let⟨Y,Z⟩:=x;simp only at d f
    subst d;subst f;exact aeh S _ _ _ aa (by rwa [show k+1+(j-k-1)=j by omega])
  ·have:=n<|j+1;simpa[pR,wa 1 j]using this
  ·have:=u<|j+1;simpa[pR,wa 1 j]using this
end
def r'(N:Nat)(E:eW):Bool:=
 match E.dst with
 |none=>E.p.isEmpty
 |some t=>Nat.blt t N&&match E.p with
  |[]=>true
  |p=>E.f.e.isSome&&E.f.hs.isEmpty&&E.f.ik.isEmpty&&p.all (λy=>!Nat.beq y.1 t)&&Nat.beq E.f.fj 0
def Gu(ops:List Oper)(i t:Nat):Nat->List eW->Bool
 |_,[]=>true
 |j,a::l=>(match a.p with
  |[]=>true
  |p=>(match a.dst with |some b=>Nat.beq b t |none=>false)||p.all (λy=>!Nat.beq y.1 t)||waits ops i 3 j)&&Gu ops i t (j+1) l
def L1(ops:List Oper)(a:List eW):Nat->List eW->Bool
 |_,[]=>true
 |i,E::l=>(match E.dst with
  |none=>true
  |some t=>Gu ops i t 0 a)&&L1 ops a (i+1) l
def Gv(ops:List Oper)(a:List eW):Bool:=L1 ops a 0 a
def aek{ops:List Oper}{i t:Nat}:∀{l:List eW} {k:Nat},Gu ops i t k l=true->∀(j:Nat) (dE:eW),l[j]? = some dE->dE.p≠[]->
 ((match dE.dst with|some e=>Nat.beq e t|none=>false)||dE.p.all (λy=>!Nat.beq y.1 t))=true\/waits ops i 3 (k+j)=true
 |[],_,_,j,dE,h,_=>by simp at h
 |aZ::l,k,h,j,dE,b,a=>by
  simp only[Gu,cb]at h;cases j with
  |zero=>
   simp at b
   subst b;have c:=h.1;split at c
   ·rename_i d;exact absurd d a
   ·rw[mu]at c;exact c
  |succ j=>
   have:=aek h.2 j dE (by simpa using b) a
   rwa [show k+(j+1)=k+1+j by omega]
def ael{ops:List Oper}{c:List eW}:∀{l:List eW} {k:Nat},L1 ops c k l=true->∀(i:Nat) (E:eW) (t:Nat),l[i]? = some E->E.dst=some t->Gu ops (k+i) t 0 c=true
 |[],_,_,i,E,t,h,_=>by simp at h
 |aZ::l,k,h,i,E,t,a,hd=>by
  simp only[L1,cb]at h;cases i with
  |zero=>
   simp at a
   subst a;have b:=h.1;rw[hd]at b;exact b
  |succ i=>
   have:=ael h.2 i E t (by simpa using a) hd
   rwa [show k+(i+1)=k+1+i by omega]
section
variable {P:Program} {K:Ctx} {N:Nat} {M:Mem} {β:Nat->Option Nat} {tt:dI} {UJ:Array Oper} {b:List eW} {g:dt} {w:World} {a:Array Value}
def wW(b:List eW)(c:Array Bool)(g:dt):Prop:=∀x,x∈g.cf->∃(i:Nat) (E:eW),b[i]? = some E/\c.getD i false=true/\E.dst=some x.1/\E.p=x.2.1/\E.p≠[]
def L2{α:Type}:∀{l:List (Nat×α)} {t:Nat} {x:Nat×α},x∈del l t->x∈l
 |[],_,_,h=>by simp[del]at h
 |(j,y)::l,t,x,h=>by
  simp only[del]at h;rw[fe]at h;split at h
  ·exact qg _<|L2 h
  ·rcases gh.1 h with rfl|h
   ·simp
   ·exact qg _ (L2 h)
def wW.ap{c:Array Bool}{i:Nat}{E:eW}(n:b[i]? = some E)(hi:i<c.size)(h:wW b c g):wW b (c.setIfInBounds i true) (e5 E g):=by
 have d:wW b (c.setIfInBounds i true) g:=λx hx=>by
  let⟨j,m,l,k,o⟩:=h x hx;exact⟨j,m,l,getD_set_true k,o⟩
 intro x hx;unfold e5 at hx;cases hd:E.dst with
 |none=>simp only[hd]at hx;exact d x hx
 |some t=>
  simp only[hd]at hx;cases hp:E.p with
  |nil=>simp only[hp]at hx;exact d x<|L2 hx
  |cons y p=>
   simp only[hp]at hx;cases he:E.f.e with
   |none=>simp only[he]at hx;exact d x hx
   |some e=>
    simp only[he]at hx;rcases gh.1 hx with rfl|hx
    ·exact⟨i,E,n,by simp[hi],by simp[hd],by simp[hp],by simp[hp]⟩
    ·exact d x (L2 hx)
def ao5{c:Array Bool}{i:Nat}{E:eW}{t:Nat}(k:Gv UJ.toList b=true)(p:b[i]? = some E)(hd:E.dst=some t)(n:o_ UJ c)(hi:c.getD i false=false)(h:wW b c g):BA g.cf t=true:=by
 unfold BA;rw[gK];intro x m;let⟨j,o,f,q,l,r,d⟩:=h x m;have e:=ael k i E t p hd;rw[mE]at e;rcases aek e j o f d with h2|h2
 ·rw[l,r]at h2;exact h2
 ·rw[mE]at h2;have:=LV n h2 q
  rw[hi]at this;cases this
def aem{c:Array Bool}{j:hC}{o:Oper}{E:eW}{i:Nat}(s:E.kd=0)(k:TQ j tt UJ.toList o E g)(O:b[i]? = some E)(J:hH UJ.toList o E=true)(d:r' N E=true)(n:Gv UJ.toList b=true)(h:o_ UJ c)(hi:c.getD i false=false)(r:wW b c g):
 lh j tt N UJ.toList {g with rs:=E.rs,aC:=[]} o=some (.go {e5 E g with rs:=[],aC:=E.f.aC.map (under g E.p)}):=by
 let⟨_,_,F,H⟩:=LU J;have A:rN UJ.toList {g with rs:=E.rs,aC:=[]} o=some E.p:=k.LS
 have y:step1 j tt UJ.toList {g with rs:=E.rs,aC:=[]} E.p o=some (.go E.f):=by
  have l:=k.st;rw[s]at l;refine Eq.trans ?_ l;exact TL (g1:={g with rs:=E.rs,aC:=[]}) (g2:={g with rs:=E.rs}) (λ_ _ _ _=>⟨rfl,rfl⟩) rfl rfl (λ_=>rfl)<|λ_ _=>rfl
 have u:∀q,under {g with rs:=E.rs,aC:=[]} E.p q=under g E.p q:=λq=>LR λ_ _=>⟨rfl,rfl⟩
 unfold lh;rw[A]
 dsimp only
 rw[y]
 dsimp only
 rw[<-F];have I:E.f.aC.map (under {g with rs:=E.rs,aC:=[]} E.p)++[]=E.f.aC.map (under g E.p):=by rw[gJ];exact zk λq _=>u q
 rw[I,H];unfold r' at d;unfold e5;cases hd:E.dst with
 |none=>
  rw[hd]at d
  dsimp only at d ⊢
  rw[d];rfl
 |some t=>
  rw[hd]at d;have R:=ao5 n O hd h hi r;simp only[cb]at d;let⟨Q,d⟩:=d
  dsimp only
  rw[Q,R];cases hp:E.p with
  |nil=>rfl
  |cons x p=>
   rw[hp]at d;simp only[cb,List.isEmpty_iff,kb,ve]at d;let⟨⟨⟨⟨⟨e,B⟩,L⟩,h⟩,m⟩,z⟩:=d;simp only[B,L,h,z,m];rfl
def j'.sound(F:eP P tt=true)(p:∀(i:Nat) E,b[i]? = some E->E.kd=0)(B:∀(i:Nat) o E,UJ[i]? = some o->b[i]? = some E->hH UJ.toList o E=true)(I:∀(i:Nat) E,b[i]? = some E->r' N E=true)(x:Gv UJ.toList b=true){Fi:dt->Prop}{Q:Exit->Act->World->Prop}
 (s:∀g l k u d,Fi g->fP P K N u d g l k->Q .normal ⟨l,K.ds⟩ k):
 ∀(n:Nat) (c:Array Bool) (g:dt) (a:Array Value) (w:World) (M:Mem) (β:Nat->Option Nat),j' (e0 P) tt UJ b Fi n c g->c.size=UJ.size->o_ UJ c->wW b c g->fP P K N M β g a w->wpAny P .any UJ Q n c ⟨a,K.ds⟩ w
 | 0,_,g,a,w,M,β,h,_,_,_,e=>⟨h.1,s g a w M β h.2 e⟩
 |n+1,c,g,a,w,M,β,h,A,j,y,e=>by
  refine⟨λU=>s g a w M β (h.1 U) e,λi r=>?_⟩
  let⟨o,E,t,f,X,R⟩:=h.2 i r;have z:=X.resolve_left (by rw[p i E f];simp)
  have H:i<c.size:=by rw[A];exact(fy.1 t).1
  have O:c.getD i false=false:=by have:=(mem_ready.1 r).1;simpa[fi,H]using this
  have W:=aem (N:=N) (p i E f) z f (B i o E t f) (I i E f) x j O y;have S:fP P K N M β {g with rs:=E.rs,aC:=[]} a w:=⟨e.bB,e.size,e.fresh,e.cond⟩;unfold wpOp;simp only[t];refine B3 S F (UJ:=UJ) rfl W (λq T=>?_)<|λl k u d m=>?_
  ·obtain⟨L,J,rfl⟩:=jk.1 T;exact z.aC L J
  ·exact j'.sound F p B I x s n _ (e5 E g) l k u d R (by simpa using A) (j.set r) (y.ap f H) ⟨m.bB,m.size,m.fresh,m.cond⟩
end
def findD(cF:hC)(tt:dI)(ops:List Oper)(g:dt)(o:Oper)(rs:List eT):Option eW:=
 match rN ops g o with
 |none=>none
 |some p=>match step1 cF tt ops {g with rs:=rs} p o with
  |some (.go f)=>some {dst:=o.dst,p,f,ly:=jZ tt g p o,o9:=r8 ops o++p.map (·.1),r6:=tu o,rs,pY:=y0 o rs}
  |_=>none
def y1(a:hC)(tt:dI)(ops:List Oper):List Oper->List (List eT)->dt->Option (List eW×dt×List Prop)
 |[],[],g=>some ([],g,[])
 |o::l,b::c,g=>match findD a tt ops g o b with
  |some E=>match y1 a tt ops l c (e5 E g) with
   |some (e,d,h)=>some (E::e,d,h++E.f.aC.map (under g E.p))
   |none=>none
  |none=>none
 |_,_,_=>none
def lz:List Oper->List eW->List (Oper×eW)
 |o::l,E::m=>(o,E)::lz l m
 |_,_=>[]
def Gw(N:Nat)(ops:List Oper)(a:List eW):Bool:=
 (lz ops a).all (λx=>hH ops x.1 x.2)&&a.all (r' N)&&Gv ops a&&LZ ops 0 (lz ops a)
section
variable {a:hC} {tt:dI} {ops:List Oper}
def TT{Fi:dt->Prop}:∀{l:List Oper} {m:List (List eT)} {g:dt} {c:List eW} {g':dt} {d:List Prop},y1 a tt ops l m g=some (c,g',d)->(∀q,q∈d->q)->Fi g'->
 c.length=l.length/\(∀E,E∈c->E.kd=0)/\L0 a tt ops Fi (lz l c) g
 |[],[],g,c,g',d,h,_,e=>by
  simp only[y1,hL,ll]at h;obtain⟨rfl,rfl,rfl⟩:=h;exact⟨rfl,by simp,e⟩
 |o::l,A::m,g,c,g',d,h,n,e=>by
  simp only[y1]at h;split at h
  case h_2=>cases h
  rename_i E b;split at h
  case h_2=>cases h
  rename_i z B F t;simp only[hL,ll]at h;obtain⟨rfl,rfl,rfl⟩:=h;let⟨s,j,w⟩:=TT t (λq k=>n q<|kA _ k) e
  have i:E.kd=0:=by
   unfold findD at b;split at b
   ·cases b
   split at b
   ·cases b;rfl
   ·cases b
  refine⟨by simp[s],λu vi=>?_,?_,w⟩
  ·rcases gh.1 vi with rfl|vi
   ·exact i
   ·exact j u vi
  have y:∀q,q∈E.f.aC->under g E.p q:=λq k=>n _<|kF _<|jk.2 ⟨q,k,rfl⟩
  unfold findD at b;split at b
  ·cases b
  rename_i p r;split at b
  ·rename_i f x;cases b;exact .inr ⟨r,x,y,λ_ h=>h,λh=>by cases h⟩
  ·cases b
 |[],_::_,_,_,_,_,h,_,_=>by simp[y1]at h
 |_::_,[],_,_,_,_,h,_,_=>by simp[y1]at h
def tw:∀{l:List Oper} {m:List eW},m.length=l.length->∀(j:Nat),((lz l m)[j]?).map (·.1)=l[j]? /\ ((lz l m)[j]?).map (·.2)=m[j]?
 |[],[],_,j=>by simp[lz]
 |o::l,E::m,h,j=>by
  cases j with
  |zero=>simp[lz]
  |succ j=>simpa[lz]using tw (by simpa using h) j
 |[],_::_,h,_=>by simp at h
 |_::_,[],h,_=>by simp at h
def L5:∀{l:List Oper} {m:List eW},m.length=l.length->(lz l m).length=l.length
 |[],[],_=>rfl
 |_::l,_::m,h=>by simp[lz,L5 (l:=l) (m:=m)<|by simpa using h]
 |[],_::_,h=>by simp at h
 |_::_,[],h=>by simp at h
end
section
variable {P:Program} {N E:Nat} {st:aA} {tt:dI}
def Alike.bB{K:Ctx}{M:Mem}{β:Nat->Option Nat}{g1 g2:dt}{c:Array Value}{w:World}(j:Alike g1 g2)(h:bh P K M β {env:=g1.env,H:=g1.H,aD:=g1.aD} c w):bh P K M β {env:=g2.env,H:=g2.H,aD:=g2.aD} c w:=by
 have k:∀l,({env:=g2.env,H:=g2.H,aD:=g2.aD}:aA).at l=({env:=g1.env,H:=g1.H,aD:=g1.aD}:aA).at l:=by
  intro l;cases l with
  |slot s=>exact(j.slot s).1.symm
  |cell r i=>simp only[aA.at];rw[<-j.box r]
 have g:∀r,look g2.H r=look g1.H r:=λr=>(j.box r).symm
 constructor
 ·intro l e a;rw[k]at a;exact h.dp l e a
 ·intro l e T a;rw[k]at a;exact h.own l e T a
 ·intro l u e x T y b a o p;rw[k]at a p;exact h.uniq l u e x T y b a o p
 ·intro l e T b r f a o m d;rw[k]at a;exact h.unbox l e T b r f a o m (by rw[<-g r];exact d)
 ·intro r f d;exact h.box r f (by rw[<-g r];exact d)
 ·intro r q b f n d t;exact h.inj r q b f n (by rw[<-g r];exact d) (by rw[<-g q];exact t)
 ·intro r b d;exact(by have:=h.lt r b d;simpa[j.aD]using this)
 ·exact h.mem
 ·exact h.m0
 ·exact h.frame
 ·exact h.ia
 ·exact h.il
 ·exact h.gz
def bh.drew{K:Ctx}{M:Mem}{β:Nat->Option Nat}{a:Array Value}{w:World}(h:bh P K M β st a w)(k:Nat):bh P K M β st a {w with drawn:=k}:=
 ⟨h.dp,h.own,h.uniq,h.unbox,h.box,h.inj,h.lt,h.mem,h.m0,h.frame,h.ia,h.il,h.gz⟩
end
def a8.scope{P:Program}{N E:Nat}{c:Code}{Q:cA->aA->Prop}{st:aA}(h:a8 P N E c Q st):a8 P N E (.scope c) Q st:=by
 intro K l a w j;refine wp_scope_straight<|wp_mono (h K l a w j) ?_
 rintro e n m ⟨k,b,g,f⟩
 cases k with
 |normal=>obtain⟨rfl,d⟩:=g;exact⟨.normal,b,⟨rfl,d⟩,f⟩
 |exit i=>obtain⟨rfl,d⟩:=g;exact⟨.exit i,b,⟨rfl,d⟩,f⟩
 |ret=>obtain⟨rfl,d⟩:=g;exact⟨.ret,b,⟨rfl,d⟩,f⟩
 |bv x=>obtain⟨v,rfl,d⟩:=g;exact⟨.bv x,b,⟨v,rfl,d⟩,f⟩
def jt.on{α β c:Type}(x:α ⊕ β)(f:α->c)(g:β->c):c:=
 match x with
 |.inl a=>f a
 |.inr b=>g b
def L6.on{α β a:Type}(x:α×β)(f:α->β->a):a:=f x.1 x.2
def L7(P:Program)(w:World):Prop:=(∀g,g∈Sm P->∃a,w.cell? ⟨g,0,none⟩=some a/\(a = .nilIface\/∃d b,a = .iface d b))/\
 ∀ g, P.globalNamed "internal/strconv.uint64pow10" = some g -> ∃ t c, w.heap[g]? = some (.cells Sn t c)
section
variable {P:Program}
def bh.ao8{K:Ctx}{M:Mem}{β:Nat->Option Nat}{st:aA}{a:Array Value}{w:World}(h:bh P K M β st a w):L7 P w:=⟨λg b=>by
 let⟨j,t,d,f,c,e,i⟩:=h.il.1 g b;refine⟨f,?_,i⟩
 have:=(h.frame g _ c).1
 unfold World.cell?;rw[this];exact e,λg b=>by
 let⟨t,d,c⟩:=h.il.2 g b;exact⟨t,d,(h.frame g _ c).1⟩⟩
def aen {f : FuncId} {args : List D} {vsOf : World -> List Value -> Prop} {d : D} {fd : Func} (y : P.funcs[f]? = some fd) (j : fd.body.isSome = true) (B : decide (fd.name = "runtime.NumGoroutine") = false)
 (J:∀(w:World) (M:Mem) (β:Nat->Option Nat) (vs:List Value),(∀b o v,M b o=some v->w.cell? ⟨b,o,none⟩=some v)->vs.length=args.length->(∀(i:Nat) v a,vs[i]? = some v->args[i]? = some a->cg M β v a)->vsOf w vs)
 (u:∀(vs:List Value) (w:World),vsOf w vs->L7 P w->Calls P f ⟨vs⟩ w λe k=>∃v,e = .returned v/\(∀M β,cg M β v d)/\(∀(b:Nat) (g:Obj),w.heap[b]? = some g->k.heap[b]? = some g)/\(k.os,k.output)=(w.os,w.output)):
 gn P f args [] [] (.ret d none) []:=by
 refine⟨⟨fd,y,j,by simpa using B⟩,λK w vs M β hlen hs O=>?_⟩
 have A:vsOf w vs:=J w M β vs hs.mem hlen λi v a E F=>by
  have q:=hs.dp (.slot i) ⟨a,none⟩ (by
   simp only[aA.at,iW,o8,F4,F,lC,look])
  have H:ch ⟨vs⟩ w β (.slot i)=v:=by
   simp[ch,E]
  rw[H]at q;exact q
 refine(u vs w A hs.ao8).mono ?_
 rintro e k ⟨v,rfl,L,p,x⟩
 refine⟨.ret d none,[],v,M,β,⟨rfl,rfl⟩,rfl,?_⟩
 have z:∀b o v,w.cell? ⟨b,o,none⟩=some v->k.cell? ⟨b,o,none⟩=some v:=by
  intro b o v h;unfold World.cell? at h ⊢;cases j:w.heap[b]? with
  |none=>simp[j]at h
  |some g=>rw[p b g j];rw[j]at h;exact h
 constructor
 ·intro l e c;cases l with
  |slot s=>
   simp only[aA.at,je,du]at c;split at c
   ·rename_i I;subst I;cases c;exact L M β
   ·simp[look]at c
  |cell r i=>simp[aA.at,dm,look]at c
 ·intro l e T c n;cases l with
  |slot s=>
   simp only[aA.at,je,du]at c;split at c
   ·cases c;cases n
   ·simp[look]at c
  |cell r i=>simp[aA.at,dm,look]at c
 ·intro l Q e S T U b c n;cases l with
  |slot s=>
   simp only[aA.at,je,du]at c;split at c
   ·cases c;cases n
   ·simp[look]at c
  |cell r i=>simp[aA.at,dm,look]at c
 ·intro l e T b r t c n j m;simp[dm,look]at m
 ·intro r t m;simp[dm,look]at m
 ·intro r R b t N m;simp[dm,look]at m
 ·exact hs.lt
 ·exact λb o v h=>z b o v<|hs.mem b o v h
 ·exact hs.m0
 ·exact λb g h=>⟨p b g (hs.frame b g h).1,(hs.frame b g h).2⟩
 ·exact hs.ia
 ·exact hs.il
 ·exact x.trans hs.gz
def y3 {f : FuncId} {args : List D} {vsOf : List Value -> Prop} {d : D} {fd : Func} (j : P.funcs[f]? = some fd) (l : fd.body.isSome = true) (k : decide (fd.name = "runtime.NumGoroutine") = false)
 (m:∀(M:Mem) (β:Nat->Option Nat) (vs:List Value),vs.length=args.length->(∀(i:Nat) v a,vs[i]? = some v->args[i]? = some a->cg M β v a)->vsOf vs)
 (h:∀(vs:List Value) (w:World),vsOf vs->L7 P w->Calls P f ⟨vs⟩ w λe c=>∃v,e = .returned v/\(∀M β,cg M β v d)/\(∀(b:Nat) (g:Obj),w.heap[b]? = some g->c.heap[b]? = some g)/\(c.os,c.output)=(w.os,w.output)):
 gn P f args [] [] (.ret d none) []:=
 aen (vsOf:=λ_ vs=>vsOf vs) j l k (λ_ M β vs _=>m M β vs) h
end
def nZ(cF:hC)(tt:dI)(N:Nat)(ops:List Oper)(rs:List eT)(st:aA):Option Fin:=
 match li cF tt N ops ops {env:=st.env,cf:=[],H:=st.H,aD:=st.aD,rs,aC:=[]} with
 |some (.go g)=>match g.rs with
  |[]=>some<|.go {env:=g.env,H:=g.H,aD:=g.aD} g.aC
  |_=>none
 |some (.bv x st aC)=>some<|.bv x st aC
 |none=>none
def y4:List Oper->Nat->List (Nat×Nat)
 |[],_=>[]
 |o::l,n=>match tu o,o.dst with
  |true,some t=>(t,n)::y4 l (n+1)
  |_,_=>y4 l n
def Gx(ops:List Oper)(st:aA):dt:=
 {env:=st.env,cf:=[],H:=st.H,aD:=st.aD+(y4 ops st.aD).length,rs:=[],aC:=[],ids:=y4 ops st.aD}
def qU(c:hC)(tt:dI)(N:Nat)(ops:List Oper)(a:List<|List eT)(st:aA):Option Fin:=
 match y1 c tt ops ops a (Gx ops st) with
 |some (b,g,d)=>bif Gw N ops b then some (.go {env:=g.env,H:=g.H,aD:=g.aD} d)else none
 |none=>none
def gc:Option Fin->aA
 |some (.go a _)=>a
 |some (.bv _ a _)=>a
 |none=>{env:=[],H:=[],aD:=0}
def ir:Option Fin->Option (List Prop)
 |some (.go _ a)=>some a
 |_=>none
def TV:Option Fin->Option (V×List Prop)
 |some (.bv x _ a)=>some (x,a)
 |_=>none
def spread:Nat->Nat->List (Nat×List eT)->List (List eT)
 | 0,_,_=>[]
 |n+1,i,l=>(look l i).getD []::spread n (i+1) l
def Gy:∀(l:List Oper) (n:Nat) (x:Nat×Nat),x∈y4 l n->n<=x.2/\True
 |[],n,x,h=>by simp[y4]at h
 |o::l,n,x,h=>by
  unfold y4 at h;split at h
  ·rcases gh.1 h with h|h
   ·subst h;exact⟨fS _,trivial⟩
   ·have:=(Gy l (n+1) x h).1;exact⟨by omega,trivial⟩
  ·exact Gy l n x h
def bh.up{P:Program}{K:Ctx}{M:Mem}{β:Nat->Option Nat}{st:aA}{a:Array Value}{w:World}(h:bh P K M β st a w)(k:Nat):bh P K M β {env:=st.env,H:=st.H,aD:=st.aD+k} a w:=
 ⟨h.dp,h.own,h.uniq,h.unbox,h.box,h.inj,(λr b c=>pb (h.lt r b c)<|Nat.le_add_right _ _),h.mem,h.m0,h.frame,h.ia,h.il,h.gz⟩
section
variable {P:Program} {N E:Nat} {st:aA} {tt:dI}
def a8.rg{id:Nat}{UJ:Array Oper}{Q:cA->aA->Prop}(p:eP P tt=true)(rs:List eT){ps:List Prop}(d:ir (nZ (e0 P) tt N UJ.toList rs st)=some ps)(o:iX ps)
 (e:Q .normal<|gc<|nZ (e0 P) tt N UJ.toList rs st):a8 P N E (.region id UJ false) Q st:=by
 rintro K t a w ⟨_,hd,i,M,β,n⟩
 let⟨b,s⟩:=a;simp only at hd i
 subst hd;have l:fP P K N M β {env:=st.env,cf:=[],H:=st.H,aD:=st.aD,rs:=rs,aC:=[]} b w:=⟨n,i,(λ_ _ h=>by simp[look]at h),λ_ _ _ h=>by simp[look]at h⟩
 refine wp_region ?_;unfold nZ at d e;have hlen:List.range UJ.size=List.range' 0 UJ.toList.length:=by rw[sd];simp
 rw[hlen];split at d
 ·rename_i g c;split at d
  case h_2=>cases d
  rename_i m;simp only[ir,hL]at d;subst d;rw[c]at e;simp only[m,gc]at e;refine TC p rfl (fin:=.go g) o.mem ?_ UJ.toList 0 _ b w M β (λj=>by simp) l c
  intro u r q f k;exact⟨.normal,_,⟨rfl,rfl,k.size,q,f,k.bB⟩,e⟩
 ·cases d
 ·cases d
def a8.TW{id:Nat}{UJ:Array Oper}{Q:cA->aA->Prop}(n:eP P tt=true)(rs:List eT){x:V}{ps:List Prop}(d:TV (nZ (e0 P) tt N UJ.toList rs st)=some (x,ps))(m:iX ps)
 (g:Q (.bv x)<|gc<|nZ (e0 P) tt N UJ.toList rs st):a8 P N E (.region id UJ false) Q st:=by
 rintro K s a w ⟨_,hd,i,M,β,l⟩
 let⟨b,r⟩:=a;simp only at hd i
 subst hd;have k:fP P K N M β {env:=st.env,cf:=[],H:=st.H,aD:=st.aD,rs:=rs,aC:=[]} b w:=⟨l,i,(λ_ _ h=>by simp[look]at h),λ_ _ _ h=>by simp[look]at h⟩
 refine wp_region ?_;unfold nZ at d g;have hlen:List.range UJ.size=List.range' 0 UJ.toList.length:=by rw[sd];simp
 rw[hlen];split at d
 ·split at d<;>cases d
 ·rename_i y f aC c;simp only[TV,hL,ll]at d;obtain⟨rfl,rfl⟩:=d;rw[c]at g;refine TC n rfl (fin:=.bv y f aC) m.mem ?_ UJ.toList 0 _ b w M β (λj=>by simp) k c
  intro e q p o;exact⟨.bv y,_,o,g⟩
 ·cases d
def a8.Gz{id:Nat}{UJ:Array Oper}{Q:cA->aA->Prop}(b2:eP P tt=true)(T:P.follows .mixedOrders=true)(A:List<|Nat×List eT){ps:List Prop}(d:ir (qU (e0 P) tt N UJ.toList (spread UJ.toList.length 0 A) st)=some ps)(Y:iX ps)
 (e:Q .normal<|gc<|qU (e0 P) tt N UJ.toList (spread UJ.toList.length 0 A) st):a8 P N E (.region id UJ true) Q st:=by
 rintro K dJ a w ⟨_,hd,H,M,β,F⟩
 let⟨k,ds⟩:=a;simp only at hd H
 subst hd;refine wp_region_any T ?_;unfold qU at d e;split at d
 case h_2=>cases d
 rename_i l g vf c;rw[c]at e
 dsimp only at e
 rw[fe]at d e;split at d
 case isFalse=>cases d
 rename_i r;rw[eI r]at e;simp only[ir,hL]at d;subst d;simp only[gc]at e;let⟨hlen,R,GA⟩:=TT (Fi:=λt=>Alike g t) c Y.mem Alike.refl
 simp only[Gw,cb]at r;let⟨⟨⟨c1,c2⟩,c3⟩,Z⟩:=r
 have I:∀(i:Nat) o E,UJ[i]? = some o->l[i]? = some E->hH UJ.toList o E=true:=by
  intro i o E u m;let⟨f,n⟩:=tw hlen i;have O:UJ.toList[i]? = some o:=by simpa using u
  rw[O]at f;rw[m]at n;cases dQ:(lz UJ.toList l)[i]? with
  |none=>rw[dQ]at f;simp at f
  |some x=>
   rw[dQ]at f n;simp at f n
   subst f;subst n;exact gK.1 c1 x<|hA dQ
 have aH:∀(i:Nat) E,l[i]? = some E->r' N E=true:=λi E m=>gK.1 c2 E<|hA m
 have z:o_ UJ (Array.replicate UJ.size false):=λj o u q=>by have b1:j<UJ.size:=(fy.1 u).1;simp[fi,b1]at q
 have y:=j'.text I (λt g2 X B=>Alike.trans B X) (lz UJ.toList l) 0 (Array.replicate UJ.size false) _ (λj=>by have:=(tw hlen j).1;simpa using this) (λj=>by have:=(tw hlen j).2;simpa using this)
  ⟨by simp,λj q=>by simp[q]⟩ z Z GA
 have L:(lz UJ.toList l).length=UJ.size:=by rw[L5 hlen];simp
 rw[L]at y;refine j'.sound (K:=K) b2 (λi E m=>R E<|hA m) I aH c3 ?_ _ _ _ k _ M β y (by simp) z (λx S=>by cases S) ⟨(F.drew _).up _,H,(λs id h _ b U=>by have B:=F.lt _ _ U;have W:=(Gy _ _ _<|nT h).1;simp only at W;omega),λ_ _ _ h=>by simp[Gx,look]at h⟩
 intro t b_ w' M' p TX J;exact⟨.normal,_,⟨rfl,rfl,J.size,M',p,Alike.bB TX.symm J.bB⟩,e⟩
def a8.TY{α:Type}{b:Bool}{x y r:Option α}(h:(bif b then x else y)=r){c:Nat}{f e:Code}{Q:cA->aA->Prop}(g:(look st.env c).map (·.d)=some (.v<|.bool b))
 (j:x=r->a8 P N E f Q st) (k:y=r->a8 P N E e Q st):a8 P N E (.cond (.tmp c) f e) Q st:=by
 simp only[dC]at g;obtain⟨⟨d,own⟩,i,rfl⟩:=g;exact a8.cond b own i (λa=>j (by subst a;exact h)) (λa=>k (by subst a;exact h))
def a8.aeo{c:Nat}{a e:Code}{Q:cA->aA->Prop}(b:(look st.env c).map (·.d)=some (.v<|.bool true))(h:a8 P N E a Q st):a8 P N E (.cond (.tmp c) a e) Q st:=by
 simp only[dC]at b;obtain⟨⟨d,own⟩,f,rfl⟩:=b;exact a8.cond true own f (λ_=>h) (λg=>by cases g)
def a8.TZ{c:Nat}{e a:Code}{Q:cA->aA->Prop}(b:(look st.env c).map (·.d)=some (.v<|.bool false))(h:a8 P N E a Q st):a8 P N E (.cond (.tmp c) e a) Q st:=by
 simp only[dC]at b;obtain⟨⟨d,own⟩,f,rfl⟩:=b;exact a8.cond false own f (λg=>by cases g) (λ_=>h)
end
def bS{P:Program}{f:FuncId}{args:List D}{b:List (Nat×TypeId)}{H H2:List (List aS)}{out:Out}(_:gn P f args b H out H2)(a:List Nat):eT:=.call out (some H2) a
def aW{P:Program}{f:FuncId}{args:List D}{b:List (Nat×TypeId)}{H H2:List (List aS)}{out:Out}(_:gn P f args b H out H2)(a:List Nat):eT:=.call out none a
def dM{c:Prop}{P:Program}{f:FuncId}{args:List D}{a:List (Nat×TypeId)}{H H2:List (List aS)}{out:Out}(_:c->gn P f args a H out H2):eT:=.call out none []
def Cb{c b:Prop}{P:Program}{f:FuncId}{args:List D}{a:List (Nat×TypeId)}{H H2:List (List aS)}{out:Out}(_:c->b->gn P f args a H out H2):eT:=.call out none []
def gW{raw x:V}(_:ij raw x):eT:=.val x
def eK{α:Type}[Inhabited α]{k:Nat}{e:α->V}(l:List α):ij (.bP k l.length λi=>(l.map e).getD i .hO) (ai k e l):=aoL rfl _ rfl
def n0(l:List Int):Bool:=l.all λx=>decide (0<=x)&&decide (x<256)
def jh(l:List Int):UB:=l.map λx=>UInt8.ofNat x.toNat
def y8{l:List Int}(h:n0 l=true):(jh l).length=l.length/\∀i,i<l.length->V.int .u8 (l.getD i default) = .int .u8 (((jh l).getD i 0).toNat:Int):=by
 refine⟨by simp[jh],λi a=>?_⟩
 unfold n0 at h;rw[gK]at h;have:=h l[i]<|pj a
 simp only[cb,fx]at this;simp only[jh,List.getD,gV,ed a,nB,lC,vG];rw[tv<|by omega]
 congr 1
 omega
def L8(T:TypeId):V->Option (Int×Int)
 |.iface t (.agg [.int .i64 a,.int .i64 b])=>bif Nat.beq t T then some (a,b)else none
 |_=>none
def aep{T:TypeId}{x:V}{r:Int×Int}(h:L8 T x=some r):x = .iface T (.agg [.int .i64 r.1,.int .i64 r.2]):=by
 unfold L8 at h;split at h
 ·rw[fe]at h;split at h
  ·rename_i a;cases h;rw[kb]at a;subst a;rfl
  ·cases h
 ·cases h
def y9(M:Mem):Option V->FrameMode->Prop
 |none,m=>m = .returning
 |some x,m=>∃v,m = .panicking [{v,recovered:=false}]/\cY M v x
def wZ(P:Program)(fd:FuncId)(args:List D)(H:List<|List aS)(x:Option V)(R:List (List aS)->Prop):Prop:=
 ∀(K:Ctx) (w:World) (vs:List Value) (M:Mem) (β:Nat->Option Nat) (mode:FrameMode),vs.length=args.length->
  bh P K M β {env:=iW args [],H:=dm 0 H,aD:=H.length} ⟨vs⟩ w->(∀r b,β r=some b->K.hE r=some b)->y9 M x mode->
  CallsD P fd ⟨vs⟩ mode w λe f d=>∃v c g a,e = .returned v/\settle f = .returning/\R c/\bh P K g a {env:=je<|.ret (.cw []) none,H:=dm 0 c,aD:=H.length} #[v] d
section
variable {P:Program} {K:Ctx} {M:Mem} {β:Nat->Option Nat} {st:aA} {g:Array Value} {w:World} {tt:dI}
def y9.ao9{x:Option V}{m:FrameMode}(h:y9 M x m):m ≠ .run:=by
 cases x with
 |none=>intro a;rw[a]at h;cases h
 |some x=>let⟨v,b,_⟩:=h;intro a;rw[a]at b;cases b
def y9.mono{M':Mem}(c:M.le M'){x:Option V}{m:FrameMode}(h:y9 M x m):y9 M' x m:=by
 cases x with
 |none=>exact h
 |some x=>let⟨v,b,a⟩:=h;exact⟨v,b,a.mono c⟩
def tx(P:Program)(tt:dI)(E:Nat)(f:List ResultVar)(fd:FuncId)(ds:List D)(R:Out->List (List aS)->Prop)(x:Option V)(st:aA):Prop:=
 ∃(ρ:List Nat) (bs H1:List<|List aS) (b:List D) (d:List (List aS)->Prop),o3 ρ=true/\boxes st.H ρ=some bs/\lf (idx ρ) bs=some H1/\mP (idx ρ) ds=some b/\wZ P fd b H1 x d/\
  ∀a,d a->∃c o e,a.length=ρ.length/\lf (λj=>ρ[j]?) a=some c/\Ab.leave tt E f {env:=st.env,H:=mQ ρ c++st.H,aD:=st.aD}=some (o,e)/\R o (pX e)
def T1{fn:Func}{E:Nat}(b2:eP P tt=true)(Y:∀r b,K.hE r=some b->r<E)(s:bh P K M β st g w){fd:FuncId}{ds:List D}{vs:List Value}(hlen:vs.length=ds.length)(N:∀(i:Nat) v d,vs[i]? = some v->ds[i]? = some d->cg M β v d)
 {x : Option V} {mode : FrameMode} (u : y9 M x mode) {f : Func} (aB : P.funcs[fd]? = some f) (y : f.body.isSome = true) (L : decide (f.name = "runtime.NumGoroutine") = false) {R : Out -> List (List aS) -> Prop} (c : tx P tt E fn.results.toList fd ds R x st) :
 Leaves P fn g (λe p=>∃o j v B a,R o j/\e=tk o v/\bh P K B a {env:=je o,H:=dm 0 j,aD:=E} #[v] p) [{target:=.fn (.func fd) ⟨vs⟩,args := #[]}] mode w:=by
 let⟨n,bs,H1,kV,T0,t,k,q,z,hd,X⟩:=c;have I:f.body≠none:=by intro bf;rw[bf]at y;cases y
 have GB : f.name ≠ "runtime.NumGoroutine" := by simpa using L
 refine leaves_cons (f:=fd) (args:=⟨vs⟩) u.ao9 (by simp[invoke,callFunc,aB,I,GB]) ?_
 have Q:=adc (hd:=[]) s t k q hlen N z ⟨by simp,by simp,by simp⟩
 have U:H1.length=n.length:=by rw[(BU q).1,(yD k).1]
 refine(hd (lU M β st g w n []) w vs M _ mode (by rw[hlen,adE z]) Q (λr b h=>h) u).mono ?_
 rintro e hI p ⟨v,j,B,a,rfl,O,l,A⟩
 let⟨jU,o,m,T,S,ah,ay⟩:=X j l;rw[U]at A;let⟨cR,T2,_,_⟩:=S' s t k S T A
 dsimp only
 rw[O];let⟨F,aO,J,M2,W,bG,Z⟩:=Gp b2 Y T2 ah;exact⟨F,aO,o,pX m,J,M2,W,ay,bG,Z.era⟩
def r_(P:Program)(i:dI)(fn:Func)(E:Nat)(c:Code)(R:Out->List (List aS)->Prop)(st:aA):Prop:=
 ∀(K:Ctx),K.ds=[]->(∀r b,K.hE r=some b->r<E)->∀(a:Act) (w:World),tq P K fn.ntmps .normal st .normal a w->
  c.wp P (bodyPostD P fn λe h=>∃o f v j d,R o f/\e=tk o v/\bh P K j d {env:=je o,H:=dm 0 f,aD:=E} #[v] h) a w
def T3(P:Program)(tt:dI)(fn:Func)(E:Nat)(y:Code)(R:Out->List (List aS)->Prop):cA->aA->Prop
 |.normal,st=>r_ P tt fn E y R st
 |.ret,st=>∃o a,Ab.leave tt E fn.results.toList st=some (o,a)/\R o (pX a)
 |_,_=>False
def r_.seq{fn:Func}{E:Nat}{x y:Code}{R:Out->List (List aS)->Prop}(A:eP P tt=true)(h:a8 P fn.ntmps E x (T3 P tt fn E y R) st):r_ P tt fn E (.seq x y) R st:=by
 intro K l d a w q;refine wp_seq<|wp_mono (h K d a w q) ?_
 rintro e c j ⟨s,n,k,b⟩
 cases s with
 |normal=>obtain⟨rfl,f⟩:=k;exact b K l d c j ⟨rfl,f⟩
 |ret=>
  obtain⟨rfl,hd,_,I,m,t⟩:=k;let⟨o,H,f,B⟩:=b;let⟨v,F,p,M2,r,z,u⟩:=Gp A d t f;show Leaves P fn c.tmps _ c.defers .returning j
  rw[hd,l];exact⟨v,F,o,pX H,p,M2,r,B,z,u.era⟩
 |exit i=>exact b.elim
 |bv x=>exact b.elim
def T4(P:Program)(tt:dI)(E:Nat)(a:List ResultVar)(fd:FuncId)(ds:List D)(R:Out->List (List aS)->Prop):cA->aA->Prop
 |.normal,st |.ret,st=>tx P tt E a fd ds R none st
 |.bv x,st=>tx P tt E a fd ds R (some x) st
 |.exit _,_=>False
def r_.defer{fn:Func}{E id:Nat}{UJ:Array Oper}{o1 l:Oper}{y:Code}{R:Out->List (List aS)->Prop}(Y:eP P tt=true)(m4:UJ = #[o1,l]){t:Nat}{fd:FuncId}{m:Array Operand}{c:Call}
 (h1:o1.op = .makeFunc (.func fd) #[] m) (h2:o1.dst=some t) (ah:o1.guard=none) (ay:l.op = .defer c) (aO:l.dst=none) (bG:l.guard=none) (cG:c.callee = .value (.tmp t)) (dk:c.args = #[]) (az:Nat.blt t fn.ntmps=true)
 {ds : List D} (ao_ : mapM' (rd st.env [] [] tt 0) m.toList = some ds) (_hE : Nat.ble E st.aD = true) {f : Func} (aB : P.funcs[fd]? = some f) (k : f.body.isSome = true) (Q : decide (f.name = "runtime.NumGoroutine") = false)
 (ga:ym st.aD ds=true)
 (h:a8 P fn.ntmps st.aD y (T4 P tt E fn.results.toList fd ds R) {env:=del st.env t,H:=st.H,aD:=st.aD}):r_ P tt fn E (.seq (.region id UJ false) y) R st:=by
 rintro K apa X a w ⟨_,hd,N,M,β,A⟩
 let⟨g,defers⟩:=a;simp only at hd N
 rw[apa]at hd;subst hd;have b1:t<g.size:=by rw[N];simpa using az
 -- jX captured values
 let⟨fC,hl2⟩:=wH ao_;have y5:fP P K fn.ntmps M β {env:=st.env,cf:=[],H:=st.H,aD:=st.aD,rs:=[],aC:=[]} g w:=⟨A,N,(λ_ _ h=>by simp[look]at h),λ_ _ _ h=>by simp[look]at h⟩
 have U:∀(i:Nat) v d,(m.toList.map (⟨g,[]⟩:Act).eval)[i]? = some v->ds[i]? = some d->cg M β v d:=by
  intro i v d J hd;rw[gV,dC]at J;obtain⟨x,S,rfl⟩:=J;exact ez (ds:=[]) (p:=[]) y5 (λx S=>by cases S)<|hl2 i x d S hd
 have hlen:(m.toList.map (⟨g,[]⟩:Act).eval).length=ds.length:=by simp at fC ⊢;omega
 -- jX frame behind jX region
 have n:bh P K M β {env:=del st.env t,H:=st.H,aD:=st.aD} (g.setIfInBounds t<|.func (.func fd) #[] ⟨m.toList.map (⟨g,[]⟩:Act).eval⟩) w:=A.drop
 let q:Ctx:={s_:=M,F:=K.F,hE:=λr=>if r<st.aD then β r else none,gz:=K.gz,ds:=[{target:=.fn (.func fd) ⟨m.toList.map (⟨g,[]⟩:Act).eval⟩,args := #[]}]}
 have T2:bh P q M β {env:=del st.env t,H:=st.H,aD:=st.aD} (g.setIfInBounds t<|.func (.func fd) #[] ⟨m.toList.map (⟨g,[]⟩:Act).eval⟩) w:=
  ⟨n.dp,n.own,n.uniq,n.unbox,n.box,n.inj,n.lt,n.mem,Mem.le_refl _,(λb aC I=>⟨(n.frame b aC I).1,λ_=>rfl⟩),(λr b k=>by
   simp only[q]at k;split at k
   ·exact k
   ·cases k),n.il,n.gz⟩
 have T6:∀{M':Mem} {β':Nat->Option Nat} {st':aA} {u:Array Value} {w':World},bh P q M' β' st' u w'->bh P K M' β' st' u w':=by
  intro M' β' st' u w' j
  exact⟨j.dp,j.own,j.uniq,j.unbox,j.box,j.inj,j.lt,j.mem,Mem.le_trans A.m0 j.m0,(λb aC I=>⟨(j.frame b aC I).1,λo=>((j.frame b aC I).2 o).trans<|(A.frame b aC I).2 o⟩),(λr b k=>j.ia r b (by
   have ea:=A.ia r b k;have my:=A.lt r b ea;simp only[q];rw[eI my];exact ea)),j.il,j.gz⟩
 have hY:∀{M':Mem} {β':Nat->Option Nat} {st':aA} {u:Array Value} {w':World},bh P q M' β' st' u w'->∀r,r<st.aD->∀b,β r=some b->β' r=some b:=λj r af b k=>j.ia r b (by simp only[q];rw[eI af];exact k)
 refine wp_seq<|wp_region ?_;subst m4
 have e1:(execOp (Act.eval ⟨g,[]⟩) o1).run P w = .ok (.value<|.func (.func fd) #[] ⟨m.toList.map (⟨g,[]⟩:Act).eval⟩) w:=by
  simp only[execOp,h1,Instr.makeFunc];refine ko _ ?_;simp
  congr 1
  apply va;simp
 have e2:(execOp (Act.eval ⟨g.setIfInBounds t<|.func (.func fd) #[] ⟨m.toList.map (⟨g,[]⟩:Act).eval⟩,[]⟩) l).run P w = .ok (.defer {target:=.fn (.func fd) ⟨m.toList.map (⟨g,[]⟩:Act).eval⟩,args := #[]}) w:=by
  simp[execOp,ay,resolve,cG,dk,Deferred.ofValue,Act.eval,b1]
 show wpOps P #[o1,l] _ (List.range 2) ⟨g,[]⟩ w
 simp only[List.range,List.range.loop,wpOps];have T:∀B,Region.wanted o1 (yielded #[o1,l] B)=true:=λB=>by simp[Region.wanted,ah]
 have y':∀B,Region.wanted l (yielded #[o1,l] B)=true:=λB=>by simp[Region.wanted,bG]
 simp only[show(#[o1,l]:Array Oper)[0]? = some o1 from rfl,show(#[o1,l]:Array Oper)[1]? = some l from rfl,T,y',nY]
 refine .inl ?_;unfold Oper.wp;rw[e1,Oper.upon_value,h2];refine .inl ?_;have Z:(execOp ((⟨g,[]⟩:Act).put (some t)<|.func (.func fd) #[] ⟨m.toList.map (⟨g,[]⟩:Act).eval⟩).eval l).run P w = .ok (.defer {target:=.fn (.func fd) ⟨m.toList.map (⟨g,[]⟩:Act).eval⟩,args := #[]}) w:=e2;rw[Z,Oper.upon_defer,aO];show y.wp P _ ⟨g.setIfInBounds t _,[_]⟩ w
 have vi:∀r b,q.hE r=some b->r<st.aD:=by
  intro r b k;simp only[q]at k;split at k
  ·assumption
  ·cases k
 refine wp_mono (h q vi _ w ⟨rfl,rfl,by simpa using N,M,β,T2⟩) ?_
 rintro e z w' ⟨e4,st',W,L⟩
 have O:∀{M':Mem} {β':Nat->Option Nat} {st':aA} {u:Array Value} {w':World},bh P q M' β' st' u w'->∀(i:Nat) v d,(m.toList.map (⟨g,[]⟩:Act).eval)[i]? = some v->ds[i]? = some d->cg M' β' v d:=by
  intro M' β' st' u w' j i v d J hd;have cR:M.le M':=j.m0;exact((U i v d J hd).mono cR).amx (λr af b k=>hY j r af b k)<|wD ga hd
 cases e4 with
 |normal=>
  obtain⟨rfl,hd,_,M',β',s⟩:=W;show Leaves P fn z.tmps _ z.defers .returning w'
  rw[hd];exact T1 Y X (T6 s) hlen (O s) (x:=none) rfl aB k Q L
 |ret=>
  obtain⟨rfl,hd,_,M',β',s⟩:=W;show Leaves P fn z.tmps _ z.defers .returning w'
  rw[hd];exact T1 Y X (T6 s) hlen (O s) (x:=none) rfl aB k Q L
 |exit i=>exact L.elim
 |bv x=>
  obtain⟨v,rfl,hd,M',β',f',s⟩:=W;show Leaves P fn z.tmps _ z.defers (.panicking _) w'
  rw[hd];exact T1 Y X (T6 s) hlen (O s) (x:=some x) ⟨v,rfl,f'⟩ aB k Q L
def tl.apc {f : FuncId} {fn : Func} {c : Code} {args : List D} {k : List (Nat × TypeId)} {H : List (List aS)} {R : Out -> List (List aS) -> Prop} (p : P.funcs[f]? = some fn) (i : fn.body = some c) (q : decide (fn.name = "runtime.NumGoroutine") = false)
 (u:Nat.ble args.length fn.ntmps=true) (h:r_ P tt fn H.length c R {env:=iW args k,H:=dm 0 H,aD:=H.length}):tl P f args k H R:=by
 refine⟨⟨fn,p,by rw[i];rfl,by simpa using q⟩,?_⟩
 intro co w d M β hlen A z
 suffices key:∀K:Ctx,K.ds=[]->bh P K M β {env:=iW args k,H:=dm 0 H,aD:=H.length} ⟨d⟩ w->(∀r b,β r=some b->K.hE r=some b)->
  Calls P f ⟨d⟩ w λe m=>∃o j v l a,R o j/\e=tk o v/\bh P K l a {env:=je o,H:=dm 0 j,aD:=H.length} #[v] m from
  (key {co with ds:=[]} rfl (A.yU []) z).mono λe m ⟨o,j,v,l,a,t,s,y⟩=>⟨o,j,v,l,a,t,s,y.yU co.ds⟩
 intro K n dc B;have x:∀r b,K.hE r=some b->r<H.length:=λr b i=>dc.lt r b<|dc.ia r b i
 simp only[pn]at u;exact calls_of_wp_defers p i (h K n x {tmps:=⟨d⟩++Array.replicate (fn.ntmps-(⟨d⟩:Array Value).size) undef,defers:=[]} w ⟨rfl,n.symm,by simp;omega,M,β,TD hlen dc⟩)
def wZ.aer{fd:FuncId}{fn:Func}{i0:Nat}{UJ:Array Oper}{o1 j:Oper}{rest:Code}{r s:Nat}{c:Call}(b2:eP P tt=true)(aB:P.funcs[fd]? = some fn)(W:fn.body=some (.seq (.region i0 UJ false) rest))(m4:UJ = #[o1,j])
 (h1:o1.op = .call c) (X:o1.dst=some r) (ah:o1.guard=none) (ay:c.callee = .builtin .recover) (aO:c.args = #[]) (bG:j.op = .assign (.tmp r)) (cG:j.dst=some s) (dk:j.guard=none)
 {args:List D} {H:List (List aS)} {x:Option V} {R:List (List aS)->Prop} (af:Nat.blt r fn.ntmps=true) (k0:Nat.blt s fn.ntmps=true) (fE:Nat.ble args.length fn.ntmps=true)
 (h:a8 P fn.ntmps H.length rest (vh tt H.length fn.results.toList λo l=>o = .ret (.cw []) none/\R l) {env:=(s,{d:=.v (x.getD .kj)})::del (iW args []) r,H:=dm 0 H,aD:=H.length}):wZ P fd args H x R:=by
 intro K w A M β mode hlen dc hY hm;have dJ:∀r b,K.hE r=some b->r<H.length:=λr b W=>dc.lt r b<|dc.ia r b W
 simp only[pn]at fE;simp only[ph]at af k0;refine callsD_of_wpS aB W λm z Q=>?_
 apply wpS_seq;apply wpS_region;subst m4;have N:∀f,Region.wanted o1 (yielded #[o1,j] f)=true:=λf=>by simp[Region.wanted,ah]
 have y':∀f,Region.wanted j (yielded #[o1,j] f)=true:=λf=>by simp[Region.wanted,dk]
 have e1:∀a:Act,(execOp a.eval o1).run P w = .ok .recover w:=λa=>by
  simp[execOp,h1,resolve,ay,aO,invoke,builtin]
 have c8:=TD (n:=fn.ntmps-(⟨A⟩:Array Value).size) hlen dc
 -- Lh 'recover' aoh
 have L:∃(v:Value) (k:FrameMode),cY M v (x.getD .kj)/\settle k = .returning/\(recoverD (m::z)=some (v,{m with mode:=k}::z)\/(recoverD (m::z)=none/\v = .nilIface/\({m with mode:=k}:Frame)=m)):=by
  cases x with
  |none=>
   have J:mode = .returning:=hm;subst J;exact⟨.nilIface,.returning,.kj,rfl,.inr ⟨by simp[recoverD,Q],rfl,by rw[<-Q]⟩⟩
  |some y=>
   let⟨v,J,O⟩:=hm;subst J;exact⟨v,.panicking [{v,recovered:=true}],O,by simp[settle],.inl<|by simp[recoverD,Q]⟩
 let⟨v,k,O,lS,F⟩:=L;show wpOpsS P #[o1,j] _ (List.range 2) _ (m::z) w
 simp only[List.range,List.range.loop,wpOpsS,show(#[o1,j]:Array Oper)[0]? = some o1 from rfl,show(#[o1,j]:Array Oper)[1]? = some j from rfl,N,y',nY,e1]
 have e2:∀f:Array Value,r<f.size->(execOp (Act.eval ⟨f.setIfInBounds r v,[]⟩) j).run P w = .ok (.value v) w:=λf az=>by
  simp[execOp,bG,Act.eval,az]
 have db:(⟨A⟩++Array.replicate (fn.ntmps-(⟨A⟩:Array Value).size) undef).size=fn.ntmps:=by simp;omega
 generalize aCA:⟨A⟩++Array.replicate (fn.ntmps-(⟨A⟩:Array Value).size) undef=f at c8 db
 have p:∀u,u={m with mode:=k}::z->rest.wpS P (bodyPostS P fn m z λe k w'=>∃v l M' q,e = .returned v/\settle k = .returning/\R l/\bh P K M' q {env:=je<|.ret (.cw []) none,H:=dm 0 l,aD:=H.length} #[v] w')
  ⟨(f.setIfInBounds r v).setIfInBounds s v,[]⟩ u w:=by
  intro u er
  have p1:bh P {K with ds:=[]} M β {env:=(s,{d:=.v (x.getD .kj)})::del (iW args []) r,H:=dm 0 H,aD:=H.length} ((f.setIfInBounds r v).setIfInBounds s v) w:=
   ((c8.drop (t:=r) (v:=v)).put (t:=s) (v:=v) (e:={d:=.v (x.getD .kj)}) (by rw[Array.size_setIfInBounds,db];exact k0) (.v _ _ O)<|λT av=>by cases av).yU []
  refine wpS_of_wp<|wp_mono (h {K with ds:=[]} dJ _ w ⟨rfl,rfl,by simpa using db,M,β,p1⟩) ?_
  rintro e eA w' ⟨e4,st',g1,I⟩
  cases e4 with
  |normal=>
   obtain⟨rfl,hd,_,M',q,S⟩:=g1;obtain⟨o,l,g3,rfl,E⟩:=I;let⟨B,g5,ku,M2,e6,Z,Y⟩:=ad1 b2 (K:={K with ds:=[]}) dJ S g3;cases Z;exact⟨hd,k,er,B,g5,B,l,M2,e6,rfl,lS,E,Y.yU K.ds⟩
  |ret=>
   obtain⟨rfl,hd,_,M',q,S⟩:=g1;obtain⟨o,l,g3,rfl,E⟩:=I;let⟨B,g5,ku,M2,e6,Z,Y⟩:=ad1 b2 (K:={K with ds:=[]}) dJ S g3;cases Z;exact⟨hd,k,er,B,g5,B,l,M2,e6,rfl,lS,E,Y.yU K.ds⟩
  |exit i=>exact I.elim
  |bv y=>
   let⟨l,_,E,_⟩:=I;cases E
 have e3:(execOp ((({tmps:=f,defers:=[]}:Act).put o1.dst v).eval) j).run P w = .ok (.value v) w:=by
  rw[X];exact e2 f (by omega)
 rcases F with F|⟨F,rfl,U⟩
 ·simp only[F,e3];rw[Oper.upon_value,X,cG];exact p _ rfl
 ·simp only[F,e3];rw[Oper.upon_value,X,cG];exact p _ (by rw[U])
end
def sb(H:List<|Nat×List aS):Nat->List (Nat×List aS)
 | 0=>[]
 |n+1=>match look H n with
  |some a=>(n,a)::sb H n
  |none=>sb H n
def T7{H:List (Nat×List aS)}:∀{n q:Nat} {cs:List aS},look (sb H n) q=some cs->q<n/\look H q=some cs
 | 0,q,cs,h=>by simp[sb,look]at h
 |n+1,q,cs,h=>by
  unfold sb at h;split at h
  ·rename_i c b;rw[du]at h;split at h
   ·rename_i e;subst e;cases h;exact⟨by omega,b⟩
   ·let⟨d,a⟩:=T7 h;exact⟨by omega,a⟩
  ·let⟨d,a⟩:=T7 h;exact⟨by omega,a⟩
def aes(mk:Nat)(ops:List Oper)(o:Oper)(x:V)(hs:List<|Nat×List aS)(aC:List Prop)(ly:List Nat)(rs:List eT)(wS:List<|Nat×List aS):eW:=
 {dst:=o.dst,p:=[],f:={e:=none,rs:=[],hs:=[(mk,[])],aC},ly,o9:=r8 ops o,r6:=tu o,rs,kd:=1,yV:=x,r7:=hs,wS}
def aet(ops:List Oper)(o:Oper):eW:=
 {dst:=o.dst,p:=[],f:={e:=none,rs:=[]},ly:=[],o9:=r8 ops o,r6:=tu o,rs:=[],kd:=2}
def vj(cF:hC)(tt:dI)(ops:List Oper)(gX mk:Nat):Nat->List Oper->List (List eT)->dt->Option (List eW×dt×List Prop×List (V×List (Nat×List aS)))
 |_,[],[],g=>some ([],g,[],[])
 |i,o::l,rs::h5,g=>bif Nat.beq i gX then match rN ops g o with
  |some []=>match step1 cF tt ops {g with rs:=rs} [] o with
   |some (.bv x hs aC)=>match vj cF tt ops gX mk (i+1) l h5 (e5 (aes mk ops o x hs aC (jZ tt g [] o++List.range mk) rs g.H) g) with
    |some (cP,g',vf,xs)=>some (aes mk ops o x hs aC (jZ tt g [] o++List.range mk) rs g.H::cP,g',vf++aC,(x,hs++sb g.H mk)::xs)
    |none=>none
   |_=>none
  |_=>none
  else bif waits ops gX 3 i then match vj cF tt ops gX mk (i+1) l h5 (e5 (aet ops o) g) with
   |some (cP,g',vf,xs)=>some (aet ops o::cP,g',vf,xs)
   |none=>none
  else match findD cF tt ops g o rs with
   |some E=>bif E.f.hs.all (λy=>!Nat.beq y.1 mk)then match vj cF tt ops gX mk (i+1) l h5 (e5 E g) with
    |some (cP,g',vf,xs)=>some (E::cP,g',vf++E.f.aC.map (under g E.p),xs)
    |none=>none
    else none
   |none=>none
 |_,_,_,_=>none
def GD(e:hC)(tt:dI)(N:Nat)(ops:List Oper)(c mk:Nat)(b:List<|List eT)(st:aA):Option (V×List (Nat×List aS)×List Prop):=
 match vj e tt ops c mk 0 ops b (Gx ops st) with
 |some (d,g,f,[(x,a)])=>bif Gw N ops d&&(look g.H mk).isSome&&(look st.H mk).isNone then some (x,a,f)else none
 |_=>none
def T8:Option (V×List (Nat×List aS)×List Prop)->Option (V×List Prop)
 |some (x,_,a)=>some (x,a)
 |none=>none
def T9:Option (V×List (Nat×List aS)×List Prop)->List (Nat×List aS)
 |some (_,H,_)=>H
 |none=>[]
section
variable {P:Program} {K:Ctx} {N E:Nat} {st:aA} {tt:dI} {UJ:Array Oper} {d:hC}
structure aeu(UJ:Array Oper)(cP:List eW)(gX mk:Nat)(x:V)(hs:List<|Nat×List aS):Prop where
 dead:∀(i:Nat) E,cP[i]? = some E->E.kd=2->waits UJ.toList gX 3 i=true
 bv:∀(i:Nat) E,cP[i]? = some E->E.kd=1->E.p=[]/\E.yV=x/\E.r7++sb E.wS mk=hs/\∀q,q<mk->q∈E.ly
 go:∀(i:Nat) E,cP[i]? = some E->E.kd=0->i≠gX/\(E.f.hs.all<|λy=>!Nat.beq y.1 mk)=true
 kd:∀(i:Nat) E,cP[i]? = some E->E.kd=0\/E.kd=1\/E.kd=2
def apd{a:Array Bool}(c:o_ UJ a){i h:Nat}(hi:i∈Region.ready .any UJ a){n:Nat}(b:waits UJ.toList h n i=true):a.getD h false=true:=by
 cases n with
 |zero=>simp[waits]at b
 |succ n=>
  let⟨_,o,l,j⟩:=mem_ready.1 hi;rw[waits]at b;have m:UJ.toList[i]? = some o:=by simpa using l
  simp only[m]at b;let⟨e,k,f⟩:=tr.1 b;simp only[cb,mu,kb]at f;have g:=j e (by simpa using k) f.1
  rcases f.2 with rfl|h2
  ·exact g
  ·exact LV c h2 g
def T_{mk:Nat}:∀{l H:List (Nat×List aS)},(l.all λy=>!Nat.beq y.1 mk)=true->look H mk=none->look (l++H) mk=none
 |[],_,_,h=>h
 |(a,b)::l,H,c,h=>by
  simp only[ny,cb,hh]at c;rw[gk,du];have:a≠mk:=by intro e;subst e;simp at c
  rw[de this];exact T_ c.2 h
def ape{E:eW}{g:dt}{mk:Nat}(h:(E.f.hs.all λy=>!Nat.beq y.1 mk)=true)(a:look g.H mk=none):look (e5 E g).H mk=none:=by
 unfold e5;cases E.dst with
 |none=>exact T_ h a
 |some t=>
  cases E.p with
  |nil=>exact T_ h a
  |cons x p=>dsimp only;cases E.f.e<;>exact a
def j'.aev(W:eP P tt=true){y:List eW}{gX mk:Nat}{x:V}{B:List (Nat×List aS)}(lW:aeu UJ y gX mk x B)(cU:∀(i:Nat) o E,UJ[i]? = some o->y[i]? = some E->hH UJ.toList o E=true)(aH:∀(i:Nat) E,y[i]? = some E->r' N E=true)(lT:Gv UJ.toList y=true){Q:Exit->Act->World->Prop}
 (cD:∀n e L u,tq P K N (.bv x) {env:=[],H:=B,aD:=n} e L u->Q e L u):
 ∀(n:Nat) (a:Array Bool) (g:dt) (b:Array Value) (w:World) (M:Mem) (β:Nat->Option Nat),j' (e0 P) tt UJ y (λg=>(look g.H mk).isSome=true) n a g->a.size=UJ.size->o_ UJ a->wW y a g->a.getD gX false=false->look g.H mk=none->fP P K N M β g b w->wpAny P .any UJ Q n a ⟨b,K.ds⟩ w
 | 0,_,g,b,w,M,β,h,_,_,_,_,O,_=>by have:(look g.H mk).isSome=true:=h.2;rw[O]at this;cases this
 |n+1,a,g,b,w,M,β,h,db,t,kn,A,O,J=>by
  refine⟨(λaf=>by have:(look g.H mk).isSome=true:=h.1 af;rw[O]at this;cases this),λi F=>?_⟩
  let⟨o,E,Y,p,L3,hn⟩:=h.2 i F;have b1:i<a.size:=by rw[db];exact(fy.1 Y).1
  have p0:a.getD i false=false:=by have:=(mem_ready.1 F).1;simpa[fi,b1]using this
  have Z:fP P K N M β {g with rs:=E.rs,aC:=[]} b w:=⟨J.bB,J.size,J.fresh,J.cond⟩;unfold wpOp;simp only[Y];rcases lW.kd i E p with hk|hk|hk
  ·have r:=L3.resolve_left (by rw[hk];simp)
   let⟨U,yR⟩:=lW.go i E p hk;have TS:=aem (N:=N) hk r p (cU i o E Y p) (aH i E p) lT t p0 kn;refine B3 Z W (UJ:=UJ) rfl TS (λq j=>?_)<|λb_ u M' S R=>?_
   ·obtain⟨q',rW,rfl⟩:=jk.1 j;exact r.aC q' rW
   ·exact j'.aev W lW cU aH lT cD n _ (e5 E g) b_ u M' S hn (by simpa using db) (t.set F) (kn.ap p b1) (by rw[getD_set_ne false U];exact A) (ape yR O) ⟨R.bB,R.size,R.fresh,R.cond⟩
  ·have r:=L3.resolve_left (by rw[hk];simp)
   let⟨T,hx,X,qO⟩:=lW.bv i E p hk
   have c8:step1 (e0 P) tt UJ.toList {g with rs:=E.rs,aC:=[]} [] o=some (.bv x E.r7 E.f.aC):=by
    have I:=r.st;rw[hk,T,hx]at I;refine Eq.trans ?_ I;exact TL (g1:={g with rs:=E.rs,aC:=[]}) (g2:={g with rs:=E.rs}) (λ_ _ _ _=>⟨rfl,rfl⟩) rfl rfl (λ_=>rfl)<|λ_ _=>rfl
   have Ua:rN UJ.toList {g with rs:=E.rs,aC:=[]} o=some []:=by rw[<-T];exact r.LS
   have L9:lh (e0 P) tt N UJ.toList {g with rs:=E.rs,aC:=[]} o=some (.bv x {env:=rM g.env,H:=E.r7++g.H,aD:=g.aD} (E.f.aC++[])):=by
    unfold lh;rw[Ua]
    dsimp only
    rw[c8];rfl
   refine adS Z W (UJ:=UJ) rfl L9 (λq j=>?_)<|λe L u vi=>?_
   ·rw[gJ]at j;have:=r.aC q j
    rw[T]at this;exact this
   ·let⟨v,I,h2,nr,o7,ah,ay⟩:=vi;have z:=r.fin hk
    have nu:∀q m,look B q=some m->look (E.r7++g.H) q=some m:=by
     intro q m j;rw[<-X,B8]at j;rw[B8];cases k:look E.r7 q with
     |some c=>rw[k]at j;exact j
     |none=>
      rw[k]at j;let⟨aO,bG⟩:=T7 j;rw[<-bG];exact z q<|qO q aO
    refine cD g.aD e L u ⟨v,I,h2,nr,o7,ah,(ay.Gj _).sub rfl (λl a7 k=>?_)<|λq m j=>⟨m,nu q m j,rfl⟩⟩
    cases l with
    |slot s=>simp[aA.at,look]at k
    |cell q i=>
     simp only[aA.at]at k ⊢;cases j:look B q with
     |none=>rw[j]at k;simp at k
     |some m=>
      rw[j]at k;rw[nu q m j];exact⟨a7,k,rfl,λ_ h=>h⟩
  ·have:=apd t F<|lW.dead i E p hk
   rw[A]at this;cases this
def L'{ops:List Oper}{c mk:Nat}{Fi:dt->Prop}:∀{l:List Oper} {i:Nat} {J:List (List eT)} {g:dt} {r:List eW} {g':dt} {H:List Prop} {xs:List (V×List (Nat×List aS))},vj d tt ops c mk i l J g=some (r,g',H,xs)->(∀q,q∈H->q)->Fi g'->
 r.length=l.length/\L0 d tt ops Fi (lz l r) g/\
 (∀(j:Nat) E,r[j]? = some E->(E.kd=0/\i+j≠c/\(E.f.hs.all<|λy=>!Nat.beq y.1 mk)=true)\/(E.kd=1/\E.p=[]/\(E.yV,E.r7++sb E.wS mk)∈xs/\∀q,q<mk->q∈E.ly)\/(E.kd=2/\waits ops c 3 (i+j)=true))
 |[],i,[],g,r,g',H,xs,h,_,w=>by
  simp only[vj,hL,ll]at h;obtain⟨rfl,rfl,rfl,rfl⟩:=h;exact⟨rfl,w,by simp⟩
 |[],_,_::_,_,_,_,_,_,h,_,_=>by simp[vj]at h
 |_::_,_,[],_,_,_,_,_,h,_,_=>by simp[vj]at h
 |o::l,i,rs::J,g,r,g',H,xs,h,B,w=>by
  have next:∀{E:eW} {n:List eW} {t:List (V×List (Nat×List aS))},(∀(j:Nat) E,n[j]? = some E->(E.kd=0/\i+1+j≠c/\(E.f.hs.all<|λy=>!Nat.beq y.1 mk)=true)\/(E.kd=1/\E.p=[]/\(E.yV,E.r7++sb E.wS mk)∈t/\∀q,q<mk->q∈E.ly)\/(E.kd=2/\waits ops c 3 (i+1+j)=true))->(∀z,z∈t->z∈xs)->
   ((E.kd=0/\i≠c/\(E.f.hs.all<|λy=>!Nat.beq y.1 mk)=true)\/(E.kd=1/\E.p=[]/\(E.yV,E.r7++sb E.wS mk)∈xs/\∀q,q<mk->q∈E.ly)\/(E.kd=2/\waits ops c 3 i=true))->
   ∀(j:Nat) a,(E::n)[j]? = some a->(a.kd=0/\i+j≠c/\(a.f.hs.all<|λy=>!Nat.beq y.1 mk)=true)\/(a.kd=1/\a.p=[]/\(a.yV,a.r7++sb a.wS mk)∈xs/\∀q,q<mk->q∈a.ly)\/(a.kd=2/\waits ops c 3 (i+j)=true):=by
   intro E n t k Q e j a I;cases j with
   |zero=>simp at I;subst I;exact e
   |succ j=>
    have:=k j a (by simpa using I)
    rw[show i+1+j=i+(j+1)by omega]at this
    rcases this with ah|⟨ah,m,W,U⟩|ah
    ·exact .inl ah
    ·exact .inr<|.inl ⟨ah,m,Q _ W,U⟩
    ·exact .inr<|.inr ah
  simp only[vj]at h;rw[fe]at h;split at h
  ·rename_i u;split at h
   case h_2=>cases h
   rename_i Y;split at h
   case h_2=>cases h
   rename_i x hs L4 T;split at h
   case h_2=>cases h
   rename_i n L F t k;simp only[hL,ll]at h;obtain⟨rfl,rfl,rfl,rfl⟩:=h;let⟨e,ah,m⟩:=L' k (λq b=>B q<|kA _ b) w
   refine⟨by simp[e],⟨.inr ⟨Y,T,(λq b=>B q<|kF _ b),(λq b=>kA _ b),λ_ q _=>rfl⟩,ah⟩,next m (λz A=>qg _ A) (.inr<|.inl ⟨rfl,rfl,List.mem_cons_self ..,λq b=>kF _<|xv.2 b⟩)⟩
  ·rename_i u;rw[fe]at h;split at h
   ·rename_i R;split at h
    case h_2=>cases h
    rename_i n L F t k;simp only[hL,ll]at h;obtain⟨rfl,rfl,rfl,rfl⟩:=h;let⟨e,ah,m⟩:=L' k B w;exact⟨by simp[e],⟨.inl rfl,ah⟩,next m (λz A=>A) (.inr<|.inr ⟨rfl,R⟩)⟩
   ·split at h
    case h_2=>cases h
    rename_i E s;rw[fe]at h;split at h
    case isFalse=>cases h
    rename_i O;split at h
    case h_2=>cases h
    rename_i n L F t k;simp only[hL,ll]at h;obtain⟨rfl,rfl,rfl,rfl⟩:=h;let⟨e,ah,m⟩:=L' k (λq b=>B q<|kA _ b) w
    have Z:∀q,q∈E.f.aC->under g E.p q:=λq b=>B _<|kF _<|jk.2 ⟨q,b,rfl⟩
    have M:=O;unfold findD at s;split at s
    ·cases s
    rename_i p S;split at s
    ·rename_i f X;cases s;exact⟨by simp[e],⟨.inr ⟨S,X,Z,λ_ h=>h,λh=>by cases h⟩,ah⟩,next m (λz A=>A) (.inl ⟨rfl,(by simpa using u),M⟩)⟩
    ·cases s
def a8.apg{id:Nat}{Q:cA->aA->Prop}(b2:eP P tt=true)(hm:P.follows .mixedOrders=true)(u:Nat)(I:List<|Nat×List eT){x:V}{ps:List Prop}(y:T8 (GD (e0 P) tt N UJ.toList u (st.aD+UJ.toList.length) (spread UJ.toList.length 0 I) st)=some (x,ps))(ca:iX ps)
 (J:∀n,Q (.bv x) {env:=[],H:=T9<|GD (e0 P) tt N UJ.toList u (st.aD+UJ.toList.length) (spread UJ.toList.length 0 I) st,aD:=n}):a8 P N E (.region id UJ true) Q st:=by
 rintro K dJ a w ⟨_,hd,W,M,β,U⟩
 let⟨r,ds⟩:=a;simp only at hd W
 subst hd;refine wp_region_any hm ?_;cases k:GD (e0 P) tt N UJ.toList u (st.aD+UJ.toList.length) (spread UJ.toList.length 0 I) st with
 |none=>rw[k]at y;cases y
 |some res=>
 let⟨ip,gD,Ub⟩:=res;rw[k]at y J;simp only[T8,hL,ll]at y;obtain⟨rfl,rfl⟩:=y;simp only[T9]at J;unfold GD at k;split at k
 case h_2=>cases k
 rename_i q g vf Z gC l;let⟨t,k⟩:=U5 k;simp only[hL,ll]at k;obtain⟨rfl,rfl,rfl⟩:=k;simp only[cb,ud]at t;let⟨⟨t,S⟩,z⟩:=t;generalize aCB:st.aD+UJ.toList.length=mk at l S z
 let⟨hlen,GA,B⟩:=L' (Fi:=λg=>(look g.H mk).isSome=true) l ca.mem S
 simp only[Gw,cb]at t;let⟨⟨⟨c1,c2⟩,c3⟩,c4⟩:=t
 have X:∀(i:Nat) o E,UJ[i]? = some o->q[i]? = some E->hH UJ.toList o E=true:=by
  intro i o E L f;let⟨p,A⟩:=tw hlen i;have lm:UJ.toList[i]? = some o:=by simpa using L
  rw[lm]at p;rw[f]at A;cases dQ:(lz UJ.toList q)[i]? with
  |none=>rw[dQ]at p;simp at p
  |some x=>
   rw[dQ]at p A;simp at p A
   subst p;subst A;exact gK.1 c1 x<|hA dQ
 have aH:∀(i:Nat) E,q[i]? = some E->r' N E=true:=λi E f=>gK.1 c2 E<|hA f
 have R:o_ UJ (Array.replicate UJ.size false):=λj o L F=>by have b1:j<UJ.size:=(fy.1 L).1;simp[fi,b1]at F
 have O:=j'.text X (λg1 g2 gI c=>by rw[<-gI.box mk];exact c) (lz UJ.toList q) 0 (Array.replicate UJ.size false) _ (λj=>by have:=(tw hlen j).1;simpa using this) (λj=>by have:=(tw hlen j).2;simpa using this)
  ⟨by simp,λj F=>by simp[F]⟩ R c4 GA
 have Y:(lz UJ.toList q).length=UJ.size:=by rw[L5 hlen];simp
 rw[Y]at O
 have lW:aeu UJ q u mk Z gC:=by
  constructor
  ·intro i E f T;rcases B i E f with⟨c,_⟩|⟨c,_⟩|⟨_,c⟩
   ·omega
   ·omega
   ·simpa using c
  ·intro i E f T;rcases B i E f with⟨c,_⟩|⟨_,c,m,ah⟩|⟨c,_⟩
   ·omega
   ·simp only[lZ,ll]at m;exact⟨c,m.1,m.2,ah⟩
   ·omega
  ·intro i E f T;rcases B i E f with⟨_,c,m⟩|⟨c,_⟩|⟨c,_⟩
   ·exact⟨by simpa using c,m⟩
   ·omega
   ·omega
  ·intro i E f;rcases B i E f with⟨c,_⟩|⟨c,_⟩|⟨c,_⟩
   ·exact .inl c
   ·exact .inr<|.inl c
   ·exact .inr<|.inr c
 refine j'.aev (K:=K) (mk:=mk) b2 lW X aH c3 (λn e eA w' b'=>⟨_,_,b',J n⟩) _ _ _ r _ M β O (by simp) R (λx hx=>by cases hx) ?_ z ⟨(U.drew _).up _,W,(λs id h _ b hb=>by have c:=U.lt _ _ hb;have m:=(Gy _ _ _<|nT h).1;simp only at m;omega),λ_ _ _ h=>by simp[Gx,look]at h⟩
 rw[fi];by_cases GE:u<UJ.size
 ·simp[GE]
 ·simp[GE]
end
section
variable {P:Program} {tt:dI} {fn:Func} {E:Nat} {st:aA}
def Uc{y:Code}{R:Out->List (List aS)->Prop}(h:r_ P tt fn E y R st):T3 P tt fn E y R .normal st:=h
def aph{y:Code}{out:Out}{b:List (List aS)}(h:(Ab.leave tt E fn.results.toList st).map (λx=>(x.1,pX x.2))=some (out,b)):T3 P tt fn E y (λo a=>o=out/\a=b) .ret st:=by
 rw[dC]at h;let⟨⟨o,a⟩,d,c⟩:=h;cases c;exact⟨o,a,d,rfl,rfl⟩
def aez(tt:dI)(E:Nat)(a:List ResultVar)(ds:List D)(ρ:List Nat)(H2:List<|List aS)(st:aA):Option (List (List aS)×List D×Out×List (List aS)):=
 bif !o3 ρ then none else match boxes st.H ρ,mP (idx ρ) ds,lf (λj=>ρ[j]?) H2 with
  |some d,some b,some c=>bif Nat.beq H2.length ρ.length then match lf (idx ρ) d,Ab.leave tt E a {env:=st.env,H:=mQ ρ c++st.H,aD:=st.aD} with
   |some H1,some (o,e)=>some (H1,b,o,pX e)
   |_,_=>none
   else none
  |_,_,_=>none
def tx.of{g:List ResultVar}{fd:FuncId}{ds h:List D}{x:Option V}(ρ:List Nat){H1 H2 i:List (List aS)}{o:Out}(d:wZ P fd h H1 x λc=>c=H2)(b:aez tt E g ds ρ H2 st=some (H1,h,o,i)):
 tx P tt E g fd ds (λe c=>e=o/\c=i) x st:=by
 unfold aez at b;rw[fe]at b;split at b
 ·cases b
 rename_i n;split at b
 case h_2=>cases b
 rename_i r a m l p j;let⟨u,b⟩:=U5 b;split at b
 case h_2=>cases b
 rename_i f e c k q;simp only[hL,ll]at b;obtain⟨rfl,rfl,rfl,rfl⟩:=b;refine⟨ρ,r,f,a,_,(by simpa using n),l,k,p,d,λt s=>?_⟩
 subst s;exact⟨m,e,c,(by simpa using u),j,q,rfl,rfl⟩
def apj{a:List ResultVar}{fd:FuncId}{ds:List D}{R:Out->List (List aS)->Prop}(h:tx P tt E a fd ds R none st):T4 P tt E a fd ds R .ret st:=h
def aeA{a:List ResultVar}{fd:FuncId}{ds:List D}{R:Out->List (List aS)->Prop}{x:V}(h:tx P tt E a fd ds R (some x) st):T4 P tt E a fd ds R (.bv x) st:=h
end
section
variable {P:Program}
def apk{w:World}{b off:Nat}{vs:List Value}{T:TypeId}{qD:Nat×Nat}(h:w.heap[b]? = some (.cells ⟨vs⟩ T qD))(u:Value):
 (w.setCell ⟨b,off,none⟩ u).heap[b]? = some (.cells ⟨vs.set off u⟩ T qD):=by
 have a:=lt_of_heap h;have c:w.heap[b] = .cells ⟨vs⟩ T qD:=by simpa[kt a]using h
 show(w.heap.modify b _)[b]? = _
 rw[kt<|by simpa using a,Array.getElem_modify_self,c]
 simp
def apl{w:World}{b off:Nat}{u:Value}(k:Nat)(h:k≠b):(w.setCell ⟨b,off,none⟩ u).heap[k]? = w.heap[k]? := Go.RowKit.Below.heap_setCell w ⟨b,off,none⟩ u k h
def aeB {f : FuncId} {fd : Func} {off : Nat} {u : TypeId} (kX : P.funcs[f]? = some fd) (Ud : fd.body.isSome = true) (hn : decide (fd.name = "runtime.NumGoroutine") = false)
 (O:∀(b:Nat) (w:World),w.cell? ⟨b,off,none⟩=some (.pointer<|some ⟨b,off,none⟩)->Calls P f #[.pointer<|some ⟨b,off,none⟩] w λe w'=>e = .returned (.tuple #[])/\w'=w)
 (N:∀(b:Nat) (w:World) (T:TypeId) (k:Nat),w.cell? ⟨b,off,none⟩=some (.pointer none)->w.shape? b=some (T,k)->off<k->liesAt P P.depth T (k / P.cellsOf T) off u 1=true->w.frozen? ⟨b,off,none⟩=false->
  Calls P f #[.pointer<|some ⟨b,off,none⟩] w λe w'=>e = .returned (.tuple #[])/\w'=w.setCell ⟨b,off,none⟩ (.pointer<|some ⟨b,off,none⟩))
 {cs:List aS} (F:cs[off]? = some ⟨.cn 0 off u,none⟩):gn P f [.ptr 0 off] [] [cs] (.ret (.cw []) none) [cs]:=by
 refine⟨⟨fd,kX,Ud,by simpa using hn⟩,λK w R M β hlen hs hY=>?_⟩
 obtain⟨v,rfl⟩:∃v,R=[v]:=by
  match R,hlen with
  |[v],_=>exact⟨v,rfl⟩
 have S:=hs.dp (.slot 0) ⟨.ptr 0 off,none⟩ (by simp[aA.at,iW,u7,dm,look])
 have Z:ch ⟨[v]⟩ w β (.slot 0)=v:=by simp[ch]
 rw[Z]at S;obtain⟨b,hb,rfl⟩:∃b,β 0=some b/\v = .pointer (some ⟨b,off,none⟩):=by cases S with|ptr r o b h=>exact⟨b,h,rfl⟩
 have a:look (dm 0 [cs]) 0=some cs:=by simp[dm,look]
 let⟨bc,d,T,X,n,Q,apo,apq,hF,g⟩:=hs.box 0 cs a;rw[hb]at X;cases X;have wQ:off<cs.length:=(eR.1 F).1;have Y:d[off]? = some d[off]:=ed (by omega)
 have E:w.cell? ⟨b,off,none⟩=some d[off]:=by rw[cell_of_heap n,Y]
 have L:=hs.dp (.cell 0 off) ⟨.cn 0 off u,none⟩ (by simp[aA.at,a,F])
 have cz:ch ⟨[.pointer<|some ⟨b,off,none⟩]⟩ w β (.cell 0 off)=d[off]:=by simp[ch,hb,E]
 rw[cz]at L
 have z:∀w',bh P K M β {env:=[],H:=dm 0 [cs],aD:=[cs].length} #[.tuple #[]] w'->bh P K M β {env:=je<|.ret (.cw []) none,H:=dm 0 [cs],aD:=[cs].length} #[.tuple #[]] w':=λw' h=>by
  have:=h.put (t:=0) (v:=.tuple #[]) (e:=⟨.cw [],none⟩) (by simp) (.cw [] [] rfl λi v c hv=>by simp at hv) (λT A=>by cases A)
  exact this
 generalize hx:d[off]=x at E L Y
 cases L with
 |nl r o hI=>
  have I:w.shape? b=some (T,d.length):=by simp[World.shape?,n]
  have J:w.frozen? ⟨b,off,none⟩=false:=by simp[World.frozen?,n]
  have mr:=g _ (hA F) 0 off u rfl;refine(N b w T d.length E I (by omega) mr J).mono ?_
  rintro e w' ⟨rfl,rfl⟩
  refine⟨_,_,.tuple #[],M,β,⟨rfl,rfl⟩,rfl,z _ ?_⟩
  have h1:=(hs.Gj #[.tuple #[]]).K8 (r:=0) (b:=b) (cs:=cs) (w':=w.setCell ⟨b,off,none⟩<|.pointer<|some ⟨b,off,none⟩) a hb n (vs':=d.set off<|.pointer<|some ⟨b,off,none⟩) (U0:=cs) (by simpa using Q)
   (λy j=>by
    rcases List.mem_or_eq_of_mem_set j with h|rfl
    ·exact hF y h
    ·rfl) (λh=>by rw[List.length_set];exact h) rfl (apk n _) (λk hk=>apl k hk) cs.length (λi y e j p=>by
    by_cases W:off=i
    ·subst W;rw[List.getElem?_set_self<|by omega]at j
     cases j;rw[F]at p;cases p;exact⟨.cn 0 off b u hb,λT A=>by cases A⟩
    ·rw[List.getElem?_set_ne W]at j;have u2:=(eR.1 p).1;refine⟨?_,λT A=>.inl ⟨by omega,⟨e,p,A⟩,j⟩⟩
     have:=hs.dp (.cell 0 i) e (by simp[aA.at,a,p])
     simpa[ch,hb,cell_of_heap n,j]using this)
  refine h1.sub rfl (λl e B=>⟨e,?_,rfl,λ_ h=>h⟩)<|λr c m=>⟨c,?_,rfl⟩
  ·cases l with
   |slot s=>exact B
   |cell r i=>
    simp only[aA.at,du]at B ⊢;by_cases m:r=0
    ·subst m;rw[a]at B;simpa using B
    ·simp[dm,du,Ne.symm m,look]at B
  ·simp only[du]at m ⊢;by_cases U:r=0
   ·subst U;rw[a]at m;simpa using m
   ·simp[dm,du,Ne.symm U,look]at m
 |cn r o jq hI q=>
  rw[hb]at q;cases q;refine(O b w E).mono ?_
  rintro e w' ⟨rfl,rfl⟩
  exact⟨_,_,.tuple #[],M,β,⟨rfl,rfl⟩,rfl,z _<|hs.Gj _⟩
end
section
variable {P:Program}
def aeD {f : FuncId} {fd : Func} {T5 : TypeId} (kX : P.funcs[f]? = some fd) (Ud : fd.body.isSome = true) (hn : decide (fd.name = "runtime.NumGoroutine") = false) (apr : P.cellsOf T5 = 1)
 (rP:∀(b:Nat) (w:World),w.cell? ⟨b,1,none⟩=some (.slice none 0 0)->Calls P f #[.pointer<|some ⟨b,0,none⟩] w λe m=>e = .returned (.string ⟨#[]⟩)/\m=w.drew)
 (L:∀(b g cap:Nat) (w:World),cap≠0->w.cell? ⟨b,1,none⟩=some (.slice (some ⟨g,0,none⟩) 0 cap)->Calls P f #[.pointer<|some ⟨b,0,none⟩] w λe m=>e = .returned (.string ⟨#[]⟩)/\m=w.drew)
 (aps:∀(b g:Nat) (w:World) (vs:List Value),w.cell? ⟨b,1,none⟩=some (.slice (some ⟨g,0,none⟩) 0 0)->b<w.heap.size->w.heap[g]? = some (.cells ⟨vs⟩ T5 (0,0))->
  Calls P f #[.pointer<|some ⟨b,0,none⟩] w λe m=>e = .returned (.string ⟨#[]⟩)/\m=(w.drew.alloc<|.view ⟨g,0,none⟩ T5))
 (yI:∀(b g cap:Nat) (w:World) (vs:List Value) (l:UB),l≠[]->w.cell? ⟨b,1,none⟩=some (.slice (some ⟨g,0,none⟩) l.length cap)->w.heap[g]? = some (.cells ⟨vs⟩ T5 (0,0))->
  l.length<=cap->cap<=vs.length->l.length<=2^63-1->(∀(j:Nat) (x:UInt8),l[j]? = some x->vs[j]? = some (Value.int .u8 x.toNat))->
  Calls P f #[.pointer<|some ⟨b,0,none⟩] w λe m=>e = .returned (.string ⟨l.toArray⟩)/\m=w.drew.freeze ⟨g,0,none⟩ l.length)
 {I:aS} {cs:List aS} {l:UB} {n:Nat} {get:Nat->V} (jW:n=l.length/\∀i,i<l.length->get i = .int .u8 ((l.getD i 0).toNat:Int)) (h63:l.length<=2^63-1):
 gn P f [.ptr 0 0] [] [I::⟨.v<|.bP 1 n get,some T5⟩::cs] (.ret (.v<|.str l) none) [I::⟨.v<|.bP 1 n get,none⟩::cs]:=by
 obtain⟨rfl,jW⟩:=jW;refine⟨⟨fd,kX,Ud,by simpa using hn⟩,λK w vs M β hlen E hY=>?_⟩
 obtain⟨v,rfl⟩:∃v,vs=[v]:=by
  match vs,hlen with
  |[v],_=>exact⟨v,rfl⟩
 have tj:=E.dp (.slot 0) ⟨.ptr 0 0,none⟩ (by simp[aA.at,iW,u7,dm,look])
 have yN:ch ⟨[v]⟩ w β (.slot 0)=v:=by simp[ch]
 rw[yN]at tj;obtain⟨b,hb,rfl⟩:∃b,β 0=some b/\v = .pointer (some ⟨b,0,none⟩):=by cases tj with|ptr r o b h=>exact⟨b,h,rfl⟩
 generalize ns:I::⟨.v<|.bP 1 l.length get,some T5⟩::cs=p at E
 have lr:p[1]? = some ⟨.v<|.bP 1 l.length get,some T5⟩:=by rw[<-ns];rfl
 have N:look (dm 0 [p]) 0=some p:=by simp[dm,look]
 let⟨bc,U,T,bV,bf,aeC,apo,apq,hF⟩:=E.box 0 p N;rw[hb]at bV;cases bV;have wQ:1<p.length:=(eR.1 lr).1;have GG:U[1]? = some U[1]:=ed (by omega)
 have R:w.cell? ⟨b,1,none⟩=some U[1]:=by rw[cell_of_heap bf,GG]
 have Y:({env:=iW [.ptr 0 0] [],H:=dm 0 [p],aD:=[p].length}:aA).at (.cell 0 1)=some ⟨.v<|.bP 1 l.length get,some T5⟩:=by simp[aA.at,N,lr]
 have X:=E.dp _ _ Y;have gA:=E.own _ _ T5 Y rfl;have cz:ch ⟨[.pointer<|some ⟨b,0,none⟩]⟩ w β (.cell 0 1)=U[1]:=by simp[ch,hb,R]
 rw[cz]at X gA
 -- jX state behind it
 have yH:∀(j:Nat) Z,(I::⟨.v<|.bP 1 l.length get,none⟩::cs)[j]? = some Z->∃bN,p[j]? = some bN/\bN.d=Z.d/\(∀T,Z.own=some T->bN.own=some T/\j≠1):=by
  intro j Z u;rw[<-ns]
  match j with
  | 0=>simp only[sy,hL]at u ⊢;subst u;exact⟨_,rfl,rfl,λT Q=>⟨Q,by omega⟩⟩
  | 1=>simp only[kW,sy,hL]at u ⊢;subst u;exact⟨_,rfl,rfl,λT Q=>by cases Q⟩
  |j+2=>simp only[kW]at u ⊢;exact⟨Z,u,rfl,λT Q=>⟨Q,by omega⟩⟩
 let⟨r0,fJ⟩:=E.acy (r:=0) (i:=1) (U0:=I::⟨.v<|.bP 1 l.length get,none⟩::cs) N lr rfl (by rw[<-ns];rfl) yH<|.slot 0
 rw[cz]at fJ
 have A:∀m M',bh P K M' β {env:=iW [.ptr 0 0] [],H:=(0,I::⟨.v<|.bP 1 l.length get,none⟩::cs)::dm 0 [p],aD:=[p].length} ⟨[.pointer<|some ⟨b,0,none⟩]⟩ m->
  bh P K M' β {env:=je<|.ret (.v<|.str l) none,H:=dm 0 [I::⟨.v<|.bP 1 l.length get,none⟩::cs],aD:=[p].length} #[.string ⟨⟨l⟩⟩] m:=λm M' h=>by
  have O:=(h.Gj #[.string ⟨⟨l⟩⟩]).put (t:=0) (v:=.string ⟨⟨l⟩⟩) (e:=⟨.v<|.str l,none⟩) (by simp) (.v _ _<|.str l) (λT Q=>by cases Q)
  refine O.sub rfl (λq e B=>⟨e,?_,rfl,λ_ h=>h⟩)<|λr c J=>⟨c,?_,rfl⟩
  ·cases q with
   |slot s=>exact B
   |cell r i=>
    simp only[aA.at,du]at B ⊢;by_cases J:r=0
    ·subst J;simpa[dm,look]using B
    ·simp[dm,du,Ne.symm J,look]at B
  ·simp only[du]at J ⊢;by_cases nR:r=0
   ·subst nR;simpa[dm,look]using J
   ·simp[dm,du,Ne.symm nR,look]at J
 have apt:b<w.heap.size:=lt_of_heap bf;have Ma:bh P K M β {env:=iW [.ptr 0 0] [],H:=(0,I::⟨.v<|.bP 1 l.length get,none⟩::cs)::dm 0 [p],aD:=[p].length} ⟨[.pointer<|some ⟨b,0,none⟩]⟩ w.drew:=r0.drew _;have aeF:[p].length=1:=rfl;generalize hx:U[1]=x at R X gA fJ GG
 rcases lk.bP gA (X)with h0|⟨g,n,cap,us,T',O,h2,ah,ay,aO,bG,cG⟩
 ·subst h0;obtain⟨_,aa⟩|⟨_,_,_,_,h,_⟩:=u1 X
  ·obtain rfl:=gQ aa;refine(rP b w R).mono ?_
   rintro e m ⟨rfl,rfl⟩
   exact⟨_,_,_,M,β,⟨rfl,rfl⟩,rfl,A _ M Ma⟩
  ·cases h
 ·subst cG
  have apu:∃(b off cap:Nat) (val:Nat->Nat->Value),x = .slice (some ⟨b,off,none⟩) l.length cap/\l.length<=cap/\(∀i,i<l.length->(get i).cells.length=1)/\(∀i j,i<l.length->j<1->M b (off+i*1+j)=some (val i j))/\
   (∀i j,i<l.length->j<1->(val i j).oneCell'=true)/\(∀(i j:Nat) c,i<l.length->(get i).cells[j]? = some c->cY M (val i j) c):=by
   rcases u1 X with⟨h|⟨a,h⟩,dQ⟩|hx
   ·rw[O]at h;cases h
   ·rw[O]at h;simp only[Value.slice.injEq,hL]at h;obtain⟨rfl,rfl,rfl⟩:=h;exact⟨g,0,0,λ_ _=>undef,O.trans<|by rw[dQ],by omega,λi hi=>by omega,λi j hi=>by omega,λi j hi=>by omega,λi j c hi=>by omega⟩
   ·exact hx
  let⟨g2,off,aCC,val,W,hc,S,cR,aCD,im⟩:=apu
  focus
  ·rw[O]at W;simp only[Value.slice.injEq,hL,Addr.mk.injEq,lY]at W;obtain⟨⟨rfl,rfl⟩,rfl,rfl⟩:=W;rw[apr,Nat.mul_one]at ay;subst O;by_cases aa:l=[]
   ·subst aa;by_cases F:cap=0
    ·subst F;refine(aps b g w us R apt ah).mono ?_
     rintro e m ⟨rfl,rfl⟩
     refine⟨_,_,_,M,β,⟨rfl,rfl⟩,rfl,A _ M<|Ma.grow<|λk S=>?_⟩
     exact Go.Lib.alloc_old _ _ k S
    ·refine(L b g cap w F R).mono ?_
     rintro e m ⟨rfl,rfl⟩
     exact⟨_,_,_,M,β,⟨rfl,rfl⟩,rfl,A _ M Ma⟩
   ·have FZ:∀(j:Nat) (x:UInt8),l[j]? = some x->us[j]? = some (Value.int .u8 x.toNat):=by
     intro j x hx;have u:j<l.length:=(eR.1 hx).1;have e1:=E.mem _ _ _<|cR j 0 u<|by omega
     have e2:=jW j u;have e3:=im j 0 (.int .u8 ((l.getD j 0).toNat:Int)) u (by rw[e2];rfl)
     rw[cell_of_heap ah,show 0+j*1+0=j by omega]at e1
     rw[e1];generalize val j 0=y at e3 ⊢
     cases e3;simp[List.getD,hx]
    refine(yI b g cap w us l aa R ah hc ay h63 FZ).mono ?_
    rintro e m ⟨rfl,rfl⟩
    refine⟨_,_,.string ⟨⟨l⟩⟩,M,β,⟨rfl,rfl⟩,rfl,A _ M ?_⟩
    have hfz:(w.drew.freeze ⟨g,0,none⟩ l.length).os=w.drew.os/\(w.drew.freeze ⟨g,0,none⟩ l.length).output=w.drew.output/\(∀k,k≠g->(w.drew.freeze ⟨g,0,none⟩ l.length).heap[k]? = w.drew.heap[k]?)/\∃qD,(w.drew.freeze ⟨g,0,none⟩ l.length).heap[g]? = some (.cells ⟨us⟩ T' qD):=by
     have z:w.drew.heap[g]? = some (.cells ⟨us⟩ T' (0,0)):=ah;have b1:=lt_of_heap z;have b':w.drew.heap[g] = .cells ⟨us⟩ T' (0,0):=by simpa[kt b1]using z
     unfold World.freeze;split
     ·exact⟨rfl,rfl,λ_ _=>rfl,_,z⟩
     ·refine⟨rfl,rfl,λk S=>?_,?_⟩
      ·simp only[Array.getElem?_modify];rw[de<|by simpa using(Ne.symm S)]
      ·simp only[Array.getElem?_modify];rw[eI trivial,z];exact⟨_,rfl⟩
    let⟨f1,f2,f3,qD,f4⟩:=hfz;refine Ma.free g bG (λr c J mw=>fJ.unbox g r c rfl J mw) (λq e fB B wK apv=>?_) (λk S _=>f3 k S) (Mem.le_refl _) (λ_ _ _=>rfl) (λo v W=>?_) (by rw[f1,f2])
    ·refine fJ.apart q e fB g B wK ?_ rfl apv
     rintro rfl
     simp only[aA.at,iW,u7,dm,look]at B;simp at B;subst B;cases wK
    ·have:=E.mem _ _ _ W
     rw[cell_of_heap ah]at this;rw[cell_of_heap f4,this]
end
def vk(w:World):Mem:=λb o=>w.cell? ⟨b,o,none⟩
def iu(w:World)(vs:List Value)(cs:List V):Prop:=
 vs.length=cs.length/\(∀v,v∈vs->v.oneCell'=true)/\∀(i:Nat) v c,vs[i]? = some v->cs[i]? = some c->cY (vk w) v c
def iu.nil{w:World}:iu w [] []:=⟨rfl,(λv h=>by cases h),λi v c h=>by simp at h⟩
def iu.one{w:World}{v:Value}{c:V}(b:v.oneCell'=true)(h:cY (vk w) v c):iu w [v] [c]:=
 ⟨rfl,(λu a=>by obtain rfl:=lZ.1 a;exact b),λi u d a hd=>by
  match i with
  | 0=>cases a;cases hd;exact h
  |i+1=>simp at a⟩
def iu.app{w:World}{vs us:List Value}{cs ds:List V}(h:iu w vs cs)(b:iu w us ds):iu w (vs++us) (cs++ds):=by
 refine⟨by simp[h.1,b.1],λv hv=>?_,λi v c hv a=>?_⟩
 ·rcases jN.1 hv with hv|hv
  ·exact h.2.1 v hv
  ·exact b.2.1 v hv
 ·by_cases d:i<vs.length
  ·rw[iw d]at hv;rw[iw (by rw[<-h.1];exact d)]at a
   exact h.2.2 i v c hv a
  ·rw[jE<|by omega]at hv
   rw[jE (by rw[<-h.1];omega),<-h.1]at a
   exact b.2.2 _ v c hv a
def iu.Mb{w:World}{vs:List Value}{cs ds:List V}(h:iu w vs cs)(a:lX cs ds):iu w vs ds:=by
 refine⟨h.1.trans a.len,h.2.1,λi v c d e=>?_⟩
 let⟨x,b,f⟩:=a.at i e;exact f _ _ (h.2.2 i v x d b)
def iu.agg{w:World}{vs:List Value}{cs:List V}(h:iu w vs cs):cY (vk w) (.agg ⟨vs⟩) (.agg cs):=.agg vs cs h.1 h.2.1 h.2.2
def aeG{α:Type}[Inhabited α]:∀(n:Nat) (Q:Nat->α->Prop),(∀i,i<n->∃a,Q i a)->∃l:List α,l.length=n/\∀i,i<n->Q i (l.getD i default)
 | 0,Q,h=>⟨[],rfl,λi c=>by omega⟩
 |n+1,Q,h=>by
  let⟨l,d,f⟩:=aeG n Q λi c=>h i (by omega)
  let⟨a,e⟩:=h n (by omega)
  refine⟨l++[a],by simp[d],λi c=>?_⟩
  by_cases b:i<n
  ·have:=f i b
   simpa[List.getD,iw (show i<l.length by omega)]using this
  ·obtain rfl:i=n:=by omega
   simpa[List.getD,<-d]using e
section
variable {H:Type} {enc:TypeId×Value->H} {P:Program} {w:World}
def y_{a:Nat}{t:TypeId}{k:IntKind}{cs:List Value}{x:DataW H×List MemPlace}(c:P.underlying t=some (.int k))(h:DataW.trod enc P w 0 (λ_=>true) true a t cs=some x):
 ∃n:Int,(k.min<=n/\n<=k.max)/\iu w cs [.int k n]:=by
 obtain⟨n,rfl,_,b⟩:=DataW.trod_int c h;refine⟨n,by simpa[Lit.wf]using b,.one rfl<|.int _ _⟩
def apw{a:Nat}{t:TypeId}{cs:List Value}{x:DataW H×List MemPlace}(c:P.underlying t=some .bool)(h:DataW.trod enc P w 0 (λ_=>true) true a t cs=some x):
 ∃b:Bool,iu w cs [.bool b]:=by
 obtain⟨b,rfl,_⟩:=DataW.trod_bool c h;exact⟨b,.one rfl<|.bool _⟩
def Cd{a:Nat}{t:TypeId}{cs:List Value}{x:DataW H×List MemPlace}(c:P.underlying t=some .string)(h:DataW.trod enc P w 0 (λ_=>true) true a t cs=some x):
 ∃s:UB,s.length<=2^63-1/\iu w cs [.str s]:=by
 obtain⟨s,rfl,_,b⟩:=DataW.trod_string c h;exact⟨s.data.toList,by simpa[maxLen]using b,.one rfl<|.str s.data.toList⟩
def za{α:Type}[Inhabited α]{p:Nat}{t e:TypeId}{k:Nat}{cs:List Value}{x:DataW H×List MemPlace}{encA:α->V}{ok:α->Prop}(X:P.underlying t=some (.slice e))(O:P.cellsOf e=k)(N:0<k)
 (h:DataW.trod enc P w 0 (λ_=>true) true p t cs=some x)
 (Y:∀n d T,n<p->DataW.trod enc P w 0 (λ_=>true) true n e d=some T->∃a:α,ok a/\iu w d (encA a).cells):
 ∃l:List α,l.length<=2^63-1/\(∀i,i<l.length->ok (l.getD i default))/\iu w cs [ai k encA l]:=by
 rcases DataW.trod_slice X h with⟨rfl,_⟩|⟨a,len,u,elems,M,n,rfl,rfl,_,_,GH,L,mW,U,R,_⟩
 ·exact⟨[],by simp,(λi f=>by simp at f),.one rfl<|.mp _ _⟩
 ·have S:∀i,i<len->∃b:α,ok b/\∃d,w.cells? 0 (a.add<|i*k) k=some d/\iu w d (encA b).cells:=by
   intro i f;have m:=U i f;rw[ed<|by omega,jM,O]at m
   let⟨d,g,o⟩:=m;let⟨b,s,B⟩:=Y n d _ (by omega) o
   exact⟨b,s,d,g,B⟩
  let⟨l,Z,J⟩:=aeG len _ S;subst Z;refine⟨l,by unfold maxLen at L;omega,λi f=>(J i f).1,?_⟩
  by_cases F:u=0
  ·obtain rfl:l=[]:=gQ (by omega)
   subst F;exact .one rfl<|.oZ _ _ _
  ·have z:a.spot=none:=by
    have W:∃d,w.cells? 0 (a.add<|0*k) k=some d:=by
     by_cases E:l.length=0
     ·let⟨m,g⟩:=R rfl;have o:=g 0 (by omega)
      rw[ed<|by omega,jM,O,E]at o
      let⟨d,s,_⟩:=o;exact⟨d,s⟩
     ·let⟨_,d,s,_⟩:=J 0 (by omega)
      exact⟨d,s⟩
    let⟨d,s⟩:=W;let⟨_,B,K⟩:=World.cells?_some s;have I:=K 0 N;rw[ed<|by omega,Nat.zero_mul]at I
    have:(a.add 0).add 0=a:=by simp[Addr.add]
    rw[this]at I;exact World.cell?_spot I
   let⟨b,q,sp⟩:=a;simp only at z
   subst z
   have A:∀i j,i<l.length->j<k->∃d:List Value,d.length=k/\iu w d (encA<|l.getD i default).cells/\w.cell? ⟨b,q+i*k+j,none⟩=d[j]? := by
    intro i j f r;let⟨_,d,m,g⟩:=J i f;let⟨_,B,K⟩:=World.cells?_some m;refine⟨d,B,g,?_⟩
    rw[<-K j r,addr_add,addr_add]
   have y:∀i,i<l.length->(encA<|l.getD i default).cells.length=k:=by
    intro i f;let⟨d,m,g,_⟩:=A i 0 f N;rw[<-g.1,m]
   refine .one rfl<|.bP b q k l.length u _ (λi j=>(w.cell? ⟨b,q+i*k+j,none⟩).getD undef) GH y (λi j f r=>?_) (λi j f r=>?_)<|λi j c f Q=>?_
   ·let⟨d,m,g,o⟩:=A i j f r;unfold vk;rw[o,ed<|by omega];rfl
   ·let⟨d,m,g,o⟩:=A i j f r;rw[o,ed<|by omega]
    exact g.2.1 _<|pj _
   ·have r:j<k:=by rw[<-y i f];exact(eR.1 Q).1
    let⟨d,m,g,o⟩:=A i j f r;rw[o,ed<|by omega]
    exact g.2.2 j _ c (ed<|by omega) Q
end
section
variable {P:Program} {K:Ctx} {N E:Nat} {M:Mem} {β:Nat->Option Nat} {st st':aA} {p:Array Value} {w:World}
mutual
def tB(r:Nat)(x:V):D->D
 |.v y=>.v y
 |.ptr q a=>bif Nat.beq q r&&Nat.beq a 0 then .fD x else .ptr q a
 |.cn q a u=>.cn q a u
 |.fD y=>.fD y
 |.full k n g=>.full k n g
 |.ex u x=>.ex u x
 |.fn f b=>.fn f<|tC r x b
 |.agg b=>.agg<|tC r x b
 |.cw b=>.cw (tC r x b)
def tC(r:Nat)(x:V):List D->List D
 |[]=>[]
 |d::l=>tB r x d::tC r x l
end
def Mc(r:Nat)(x:V):∀(l:List D) (i:Nat),(tC r x l)[i]? = (l[i]?).map (tB r x)
 |[],i=>by simp[tC]
 |d::l,0=>by simp[tC]
 |d::l,i+1=>by simp only[tC,kW];exact Mc r x l i
def Md(r:Nat)(x:V):∀l:List D,(tC r x l).length=l.length
 |[]=>rfl
 |d::l=>by simp only[tC,mX,Md r x l]
def cg.qD{M':Mem}(z:M.le M'){r b:Nat}{x:V}{u:Value}(Q:β r=some b)(F:x.isAgg=false)(O:M' b 0=some u)(s:u.oneCell'=true)(R:cY M' u x){v:Value}{d:D}(h:cg M β v d):cg M' β v (tB r x d):=by
 induction h with
 |v u x h=>exact .v u x (h.mono z)
 |ptr q e I h=>
  simp only[tB];cases a:Nat.beq q r&&Nat.beq e 0 with
  |false=>exact .ptr q e I h
  |true=>
   simp only[cb,kb]at a;obtain⟨rfl,rfl⟩:=a;rw[Q]at h;cases h;have L:=BL F;refine .fD b 0 x (λ_=>u) (λj g=>?_) (λj g=>s)<|λj c a=>?_
   ·rw[L]at g;simp at g
    subst g;exact O
   ·rw[L]at a;cases j with
    |zero=>simp at a;subst a;exact R
    |succ j=>simp at a
 |nl q e t=>exact .nl q e t
 |cn q e I t h=>exact .cn q e I t h
 |fD b e x val hm s h=>exact .fD b e x val (λj g=>z _ _ _<|hm j g) s (λj c a=>(h j c a).mono z)
 |full base k n H h=>exact .full base k n H (h.mono z)
 |ex u x h F=>exact .ex u x (h.mono z) F
 |fn f l J o _ B=>
  simp only[tB];refine .fn f l _ (by rw[Md];exact o) λi v c m a=>?_
  rw[Mc]at a;simp only[dC]at a;obtain⟨A,y,rfl⟩:=a;exact B i v A m y
 |agg l J o s _ B=>
  simp only[tB];refine .agg l _ (by rw[Md];exact o) s λi v c m a=>?_
  rw[Mc]at a;simp only[dC]at a;obtain⟨A,y,rfl⟩:=a;exact B i v A m y
 |cw l J o _ B=>
  simp only[tB];refine .cw l _ (by rw[Md];exact o) λi v c m a=>?_
  rw[Mc]at a;simp only[dC]at a;obtain⟨A,y,rfl⟩:=a;exact B i v A m y
def Ce(r:Nat)(x:V)(e:aS):aS:={d:=tB r x e.d,own:=e.own}
def Me(r:Nat)(x:V):List (Nat×aS)->List (Nat×aS)
 |[]=>[]
 |(t,e)::l=>(t,Ce r x e)::Me r x l
def Mf(r:Nat)(x:V):List (Nat×List aS)->List (Nat×List aS)
 |[]=>[]
 |(t,a)::l=>(t,a.map<|Ce r x)::Mf r x l
def aeJ(r:Nat)(x:V):∀(l:List<|Nat×aS) (s:Nat),look (Me r x l) s=(look l s).map (Ce r x)
 |[],s=>rfl
 |(t,e)::l,s=>by
  simp only[Me,du];by_cases h:t=s
  ·simp[h]
  ·simp only[h,nE];exact aeJ r x l s
def Ue(r:Nat)(x:V):∀(l:List<|Nat×List aS) (s:Nat),look (Mf r x l) s=(look l s).map λa=>a.map<|Ce r x
 |[],s=>rfl
 |(t,a)::l,s=>by
  simp only[Mf,du];by_cases h:t=s
  ·simp[h]
  ·simp only[h,nE];exact Ue r x l s
def w1(r:Nat)(x:V)(st:aA):aA:={env:=Me r x st.env,H:=Mf r x<|del st.H r,aD:=st.aD}
def GI{r:Nat}{x:V}{l:Loc}{c:aS}(h:(w1 r x st).at l=some c):∃e,aA.at {env:=st.env,H:=del st.H r,aD:=st.aD} l=some e/\c=Ce r x e:=by
 cases l with
 |slot s=>
  simp only[aA.at,w1,aeJ,dC]at h ⊢;let⟨e,b,a⟩:=h;exact⟨e,b,a.symm⟩
 |cell q i=>
  simp only[aA.at,w1,Ue,jM,dC]at h ⊢;obtain⟨j,⟨d,b,rfl⟩,a⟩:=h;rw[gV,dC]at a;let⟨e,g,f⟩:=a;exact⟨e,⟨d,b,g⟩,f.symm⟩
def apy{r:Nat}{x:V}{d:D}{q off:Nat}{u:TypeId}(h:tB r x d = .cn q off u):d = .cn q off u:=by
 cases d<;>simp only[tB]at h
 case ptr q' o'=>cases hc:Nat.beq q' r&&Nat.beq o' 0<;>rw[hc]at h<;>cases h
 all_goals first|exact h|cases h
def bh.freeze(h:bh P K M β st p w){r:Nat}{x:V}{own:Option TypeId}(R:look st.H r=some [⟨.v x,own⟩])(hx:x.isAgg=false):∃M',bh P K M' β (w1 r x st) p w:=by
 let⟨b,vs,T,Q,bf,hlen,J,dS,hF,Y⟩:=h.box r _ R
 obtain⟨u,rfl⟩:∃u,vs=[u]:=by
  match vs,hlen with
  |[u],_=>exact⟨u,rfl⟩
 have S:∀q c,look (del st.H r) q=some c->q≠r/\look st.H q=some c:=by
  intro q c f;rw[tb]at f;split at f
  ·cases f
  ·rename_i z;exact⟨λe=>z e.symm,f⟩
 have h1:bh P K M β {env:=st.env,H:=del st.H r,aD:=st.aD} p w:=h.sub rfl (λl e j=>by
  cases l with
  |slot s=>exact⟨e,j,rfl,λ_ h=>h⟩
  |cell q i=>
   simp only[aA.at,jM]at j ⊢;let⟨c,g,a⟩:=j;exact⟨e,⟨c,(S _ _ g).2,a⟩,rfl,λ_ h=>h⟩)<|λq c f=>⟨c,(S _ _ f).2,rfl⟩
 have I:M.le (kr M b 0 [u]):=SL λo _=>J o
 have jp:kr M b 0 [u] b 0=some u:=by simp[kr]
 have g:bh P K (kr M b 0 [u]) β {env:=st.env,H:=del st.H r,aD:=st.aD} p w:=by
  refine h1.free b dS (λq c f apz=>?_) (λl e m j y A=>?_) (λ_ _ _=>rfl) I (λn o z=>by simp[kr,z])<|λo v F=>?_
  ·let⟨a,d⟩:=S _ _ f;exact a<|h.inj q r b _ _ d R apz Q
  ·have Z:∃B,st.at l=some B/\B.own=some m:=by
    cases l with
    |slot s=>exact⟨e,j,y⟩
    |cell q i=>
     simp only[aA.at,jM]at j ⊢;let⟨c,a,d⟩:=j;exact⟨e,⟨c,(S _ _ a).2,d⟩,y⟩
   let⟨B,a,d⟩:=Z;exact h.unbox l B m b r _ a d A R Q
  ·rw[cell_of_heap bf];unfold kr at F;split at F
   ·rename_i hc;simpa using F
   ·rw[J o]at F;cases F
 have f':cY (kr M b 0 [u]) u x:=by
  have a:=h.dp (.cell r 0) ⟨.v x,own⟩ (by rw[aA.FL R];rfl)
  have d:ch p w β (.cell r 0)=u:=by simp only[ch,Q,cell_of_heap bf];simp
  rw[d]at a;cases a with
  |v _ _ aO=>exact aO.mono I
 refine⟨kr M b 0 [u],?_⟩
 have L:∀q k,look (w1 r x st).H q=some k->∃c,look (del st.H r) q=some c/\k=c.map (Ce r x):=by
  intro q k f;simp only[w1,Ue,dC]at f;let⟨c,a,d⟩:=f;exact⟨c,a,d.symm⟩
 constructor
 ·intro l a7 j;obtain⟨e,a,rfl⟩:=GI j;exact(g.dp l e a).qD (Mem.le_refl _) Q hx jp (hF u<|by simp) f'
 ·intro l a7 m j y;obtain⟨e,a,rfl⟩:=GI j;exact g.own l e m a y
 ·intro l cl e a7 m apA n j y da ey;obtain⟨e1,a,rfl⟩:=GI j;obtain⟨e2,d,rfl⟩:=GI da;exact g.uniq l cl e1 e2 m apA n a y d ey
 ·intro l e m n q c j y A f;obtain⟨e1,a,rfl⟩:=GI j;let⟨X,d,_⟩:=L q c f;exact g.unbox l e1 m n q X a y A d
 ·intro q c f;obtain⟨X,d,rfl⟩:=L q c f;let⟨n,U,m,g1,g2,g3,g4,g5,g6,g7⟩:=g.box q X d;refine⟨n,U,m,g1,g2,by simpa using g3,g4,g5,g6,λe he O W t hd=>?_⟩
  obtain⟨B,Sq,rfl⟩:=jk.1 he;exact g7 B Sq O W t<|apy hd
 ·intro q O n c k f rW hb1 hb2;let⟨c1,a,_⟩:=L q c f;let⟨c2,d,_⟩:=L O k rW;exact g.inj q O n c1 c2 a d hb1 hb2
 ·exact g.lt
 ·exact g.mem
 ·exact g.m0
 ·exact g.frame
 ·exact g.ia
 ·exact g.il
 ·exact g.gz
def GJ(H:List<|Nat×List aS)(r:Nat):Option V:=
 match look H r with
 |some [⟨.v x,_⟩]=>bif x.isAgg then none else some x
 |_=>none
def a8.freeze{c:Code}{Q:cA->aA->Prop}(r:Nat)(x:V)(b:GJ st.H r=some x)(h:a8 P N E c Q<|w1 r x st):a8 P N E c Q st:=by
 rintro K j a w ⟨f,hd,i,M,β,g⟩
 unfold GJ at b;split at b
 ·rename_i y own k;rw[fe]at b;split at b
  ·cases b
  ·rename_i d;cases b;let⟨l,e⟩:=g.freeze k (by simpa using d)
   exact h K j a w ⟨f,hd,i,l,β,e⟩
 ·cases b
def GK(r:Nat)(st:aA):aA:=match GJ st.H r with
 |some x=>w1 r x st
 |none=>st
def Uf(r:Nat)(Q:cA->aA->Prop):cA->aA->Prop
 |.normal,st=>Q .normal<|GK r st
 |.ret,st=>Q .ret<|GK r st
 |e,st=>Q e st
def aeL{K:Ctx}{M:Mem}{β:Nat->Option Nat}{p:Array Value}{w:World}(r:Nat)(h:bh P K M β st p w):∃c,bh P K c β (GK r st) p w:=by
 unfold GK;cases hx:GJ st.H r with
 |none=>exact⟨M,h⟩
 |some x=>
  unfold GJ at hx;split at hx
  ·rename_i y own b;rw[fe]at hx;split at hx
   ·cases hx
   ·rename_i a;cases hx;exact h.freeze b (by simpa using a)
  ·cases hx
def a8.qD{x:Code}{Q:cA->aA->Prop}(r:Nat)(h:a8 P N E x (Uf r Q) st):a8 P N E x Q st:=by
 intro K o a w m;refine wp_mono (h K o a w m) ?_
 rintro e s q ⟨n,st',c,b⟩
 cases n with
 |normal=>
  let⟨k,j,g,M,β,f⟩:=c;let⟨l,d⟩:=aeL r f;exact⟨.normal,_,⟨k,j,g,l,β,d⟩,b⟩
 |ret=>
  let⟨k,j,g,M,β,f⟩:=c;let⟨l,d⟩:=aeL r f;exact⟨.ret,_,⟨k,j,g,l,β,d⟩,b⟩
 |exit i=>exact⟨.exit i,st',c,b⟩
 |bv x=>exact⟨.bv x,st',c,b⟩
def GL(s e:aS):aS:=match s.own with|none=>{d:=e.d} |some _=>e
def Cf:List (Nat×aS)->List (Nat×aS)->List (Nat×aS)
 |(_,s)::l,(t,e)::m=>(t,GL s e)::Cf l m
 |_,m=>m
def p2:List aS->List aS->List aS
 |s::l,e::m=>GL s e::p2 l m
 |_,m=>m
def Cg:List (Nat×List aS)->List (Nat×List aS)->List (Nat×List aS)
 |(_,s)::l,(t,a)::m=>(t,p2 s a)::Cg l m
 |_,m=>m
def fit(s st:aA):aA:={env:=Cf s.env st.env,H:=Cg s.H st.H,aD:=st.aD}
def Mh(s e:aS):(GL s e).d=e.d/\∀T,(GL s e).own=some T->e.own=some T:=by
 unfold GL;split
 ·exact⟨rfl,λT h=>by cases h⟩
 ·exact⟨rfl,λT h=>h⟩
def aeM:∀(l m:List<|Nat×aS) (t:Nat) (b:aS),look (Cf l m) t=some b->∃e,look m t=some e/\e.d=b.d/\∀T,b.own=some T->e.own=some T
 |[],m,t,b,h=>⟨b,by simpa[Cf]using h,rfl,λ_ h=>h⟩
 |(a,s)::l,[],t,b,h=>by simp[Cf,look]at h
 |(a,s)::l,(q,e)::m,t,b,h=>by
  simp only[Cf,du]at h ⊢;split at h
  ·rename_i c;rw[eI c];cases h;exact⟨e,rfl,(Mh s e).1.symm,(Mh s e).2⟩
  ·rename_i c;rw[de c];exact aeM l m t b h
def aeN:∀(l m:List aS) (i:Nat) (a:aS),(p2 l m)[i]? = some a->∃e,m[i]? = some e/\e.d=a.d/\∀T,a.own=some T->e.own=some T
 |[],m,i,a,h=>⟨a,by simpa[p2]using h,rfl,λ_ h=>h⟩
 |s::l,[],i,a,h=>by simp[p2]at h
 |s::l,e::m,0,a,h=>by
  simp only[p2,sy,hL]at h;subst h;exact⟨e,rfl,(Mh s e).1.symm,(Mh s e).2⟩
 |s::l,e::m,i+1,a,h=>by
  simp only[p2,kW]at h ⊢;exact aeN l m i a h
def aeO:∀l m:List aS,(p2 l m).length=m.length
 |[],m=>by simp[p2]
 |s::l,[]=>by simp[p2]
 |s::l,e::m=>by simp only[p2,mX,aeO l m]
def Ug:∀(l m:List<|Nat×List aS) (t:Nat) (U0:List aS),look (Cg l m) t=some U0->∃b s,look m t=some b/\U0=p2 s b
 |[],m,t,U0,h=>⟨U0,[],by simpa[Cg]using h,by simp[p2]⟩
 |(a,s)::l,[],t,U0,h=>by simp[Cg,look]at h
 |(a,s)::l,(q,b)::m,t,U0,h=>by
  simp only[Cg,du]at h ⊢;split at h
  ·rename_i c;rw[eI c];cases h;exact⟨b,s,rfl,rfl⟩
  ·rename_i c;rw[de c];exact Ug l m t U0 h
def bh.fit(h:bh P K M β st p w)(s:aA):bh P K M β (fit s st) p w:=
 h.sub rfl (λl n c=>by
  cases l with
  |slot t=>exact aeM _ _ _ _ c
  |cell q i=>
   simp only[aA.at,Ab.fit,jM]at c;let⟨a,g,f⟩:=c;obtain⟨d,z,b,rfl⟩:=Ug _ _ _ _ g;let⟨e,j,m⟩:=aeN _ _ _ _ f;exact⟨e,by simp only[aA.at,b,sO];exact j,m⟩) (λq a k=>by
   obtain⟨d,z,b,rfl⟩:=Ug _ _ _ _ k;exact⟨d,b,(aeO _ _).symm⟩)
def a8.fit{c:Code}{Q:cA->aA->Prop}(s:aA)(h:a8 P N E c Q<|Ab.fit s st):a8 P N E c Q st:=by
 rintro K f a w ⟨b,hd,e,M,β,d⟩
 exact h K f a w ⟨b,hd,e,M,β,d.fit s⟩
def a8.Uh{c:Code}{Q:cA->aA->Prop}(s:aA)(live b:List Nat)(n:Nat)(a:(uX live b n st.env st.H st.aD).map (Ab.fit s)=some st')(e:Nat.ble E n=true)(h:a8 P N E c Q st'):a8 P N E c Q st:=by
 simp only[dC]at a;obtain⟨f,d,rfl⟩:=a;exact a8.drop live b n d e (h.fit s)
def forget(a:List Nat):List (Nat×aS)->List (Nat×aS)
 |[]=>[]
 |(t,e)::l=>(t,bif a.any (Nat.beq t)then {d:=e.d}else e)::forget a l
def aeP(b:List Nat):∀(m:List<|Nat×aS) (t:Nat) (a:aS),look (forget b m) t=some a->∃e,look m t=some e/\e.d=a.d/\∀T,a.own=some T->e.own=some T
 |[],t,a,h=>by simp[forget,look]at h
 |(q,e)::m,t,a,h=>by
  simp only[forget,du]at h ⊢;split at h
  ·rename_i c;rw[eI c];cases h;refine⟨e,rfl,?_⟩
   cases b.any (Nat.beq q)
   ·exact⟨rfl,λ_ h=>h⟩
   ·exact⟨rfl,λT h=>by cases h⟩
  ·rename_i c;rw[de c];exact aeP b m t a h
def a8.forget{c:Code}{Q:cA->aA->Prop}(d:List Nat)(h:a8 P N E c Q {env:=Ab.forget d st.env,H:=st.H,aD:=st.aD}):a8 P N E c Q st:=by
 rintro K j a w ⟨e,hd,g,M,β,f⟩
 refine h K j a w ⟨e,hd,g,M,β,f.sub rfl (λl n b=>?_)<|λq k m=>⟨k,m,rfl⟩⟩
 cases l with
 |slot t=>exact aeP _ _ _ _ b
 |cell q i=>exact⟨n,b,rfl,λ_ h=>h⟩
end
def w2(st:aA):dt:={env:=st.env,cf:=[],H:=st.H,aD:=st.aD,rs:=[],aC:=[]}
def pc:Option uV->dt
 |some (.go g)=>g
 |_=>{env:=[],cf:=[],H:=[],aD:=0,rs:=[],aC:=[]}
def zb:Option uV->Option (List Prop)
 |some (.go g)=>some g.aC
 |_=>none
def Ch(g:dt):aA:={env:=g.env,H:=g.H,aD:=g.aD}
def tD(o:Oper)(b:Bool):Oper:={o with op:=.move (.const<|.bool b)}
def Mi{x:Option uV}{ps:List Prop}(h:zb x=some ps):x=some (.go<|pc x)/\(pc x).aC=ps:=by
 cases x with
 |none=>cases h
 |some f=>
  cases f with
  |go g=>exact⟨rfl,by injection h⟩
  |bv _ _ _=>cases h
section
variable {P:Program} {N E:Nat} {st:aA} {tt:dI}
def a8.Ui{id:Nat}{c o1:Oper}{t1:Nat}{ty Z e:TypeId}{k n:Nat}{get:Nat->V}{own:Option TypeId}{Q:cA->aA->Prop}
 (I:eP P tt=true) (T:o1.op = .binOp .eql ty (.tmp t1) (.const<|.slice none 0 0) Z) (x:o1.guard=none) (S:P.underlying ty=some (.slice e))
 (bo:zb (lh (e0 P) tt N [c,o1] (w2 st) c)=some [])
 (u:look (pc<|lh (e0 P) tt N [c,o1] (w2 st) c).env t1=some ⟨.v<|.bP k n get,own⟩)
 (s1:∀b,zb (lh (e0 P) tt N [c,tD o1 b] (pc<|lh (e0 P) tt N [c,o1] (w2 st) c)<|tD o1 b)=some [])
 (F:∀b:Bool,(b=true->n=0)->Q .normal (Ch<|pc<|lh (e0 P) tt N [c,tD o1 b] (pc<|lh (e0 P) tt N [c,o1] (w2 st) c)<|tD o1 b)):
 a8 P N E (.region id #[c,o1] false) Q st:=by
 rintro K dJ a w ⟨_,hd,B,M,β,W⟩
 let⟨i,ds⟩:=a;simp only at hd B
 subst hd;have R:fP P K N M β (w2 st) i w:=⟨W,B,(λ_ _ h=>by simp[w2,look]at h),λ_ _ _ h=>by simp[w2,look]at h⟩
 refine wp_region ?_;let⟨H,L⟩:=Mi bo;generalize pc (lh (e0 P) tt N [c,o1] (w2 st) c)=g1 at H L u s1 F
 show wpOps P #[c,o1] _ [0,1] ⟨i,K.ds⟩ w
 rw[wpOps];refine B3 (ops:=[c,o1]) R I (UJ := #[c,o1]) rfl H (λq o=>by rw[L]at o;cases o) ?_
 intro l f M' p J;rw[wpOps];show if Region.wanted o1 (yielded #[c,o1] l)=true then _ else _
 rw[eI (by unfold Region.wanted;rw[x])]
 have Y:=J.bB.dp (.slot t1) _ u
 obtain⟨base,len,cap,cz,hb⟩:∃(base:Option Addr) (len cap:Nat),l.getD t1 undef = .slice base len cap/\(base=none->n=0):=by
  have z:cg M' p (l.getD t1 undef) (.v<|.bP k n get):=Y;generalize l.getD t1 undef=v at z
  cases z with
  |v _ _ s=>
   cases s with
   |mp=>exact⟨none,0,0,rfl,λ_=>rfl⟩
   |oZ a=>exact⟨some a,0,0,rfl,λh=>by cases h⟩
   |bP b r _ _ cap=>exact⟨some ⟨b,r,none⟩,_,cap,rfl,λh=>by cases h⟩
 let⟨A,O⟩:=Mi<|s1 base.isNone;have j:=F base.isNone<|λh=>hb (by cases base with|none=>rfl|some _=>cases h)
 generalize pc (lh (e0 P) tt N [c,tD o1 base.isNone] g1<|tD o1 base.isNone)=g2 at A O j
 have g:=B3 (ops:=[c,tD o1 base.isNone]) J I (UJ := #[c,tD o1 base.isNone]) rfl A (λq o=>by rw[O]at o;cases o)
  (Q:=λe t f=>∃m d,tq P K N m d e t f/\Q m d) (next:=λt f=>∃m d,tq P K N m d .normal t f/\Q m d)
  (λlA eU M2 U y=>⟨.normal,Ch g2,⟨rfl,rfl,y.size,M2,U,y.bB⟩,j⟩)
 rw[eI (by unfold Region.wanted tD;rw[x])]at g
 have s:(execOp (Act.eval ⟨l,K.ds⟩) o1).run P f = .ok (.value<|.bool base.isNone) f:=by
  rw[B2];refine tp (a:=.slice base len cap) (b:=.slice none 0 0) T cz rfl (yK (by simp)<|by simp) ?_
  exact Lib.run_eql_slice_nil f ty e base len cap 0 0 S
 refine .inl (show Oper.upon P o1 ⟨l,K.ds⟩ _ _ ((execOp (Act.eval ⟨l,K.ds⟩) o1).run P f) from(?_))
 rw[s,Oper.upon_value,wpOps];rcases g with g|⟨g,_⟩
 ·unfold Oper.wp at g;rw[show(execOp (Act.eval ⟨l,K.ds⟩)<|tD o1 base.isNone).run P f = .ok (.value<|.bool base.isNone) f from rfl,Oper.upon_value]at g
  exact g
 ·exact absurd g.1 (by intro X;have:noRoomEvent∈(#[]:Array Event):=X;cases this with|mk h=>cases h)
end
def ji(M:Mem)(b:Nat):Mem:=λa o=>if a=b then none else M a o
def nx(M:Mem)(b:Nat)(vs:List Value):Mem:=λa o=>if a=b then vs[o]? else M a o
def GM:V->Bool
 |.int _ _ |.bool _ |.str _ |.hO |.kj |.kE |.any=>true
 |_=>false
def Uj:V->Bool
 |.agg a=>a.all GM
 |x=>GM x
def Uk:D->Bool
 |.v x=>Uj x
 |.ex _ x=>Uj x
 |.ptr _ _=>true
 |_=>false
def Ul{M M2:Mem}{v:Value}{x:V}(h:cY M v x)(a:GM x=true):cY M2 v x:=by
 cases h<;>first|(constructor;done)|(constructor;assumption;done)|(simp[GM]at a;done)
def aeQ{M M2:Mem}{v:Value}{x:V}(h:cY M v x)(d:Uj x=true):cY M2 v x:=by
 cases x with
 |agg b=>
  cases h with
  |agg e b g j k=>exact .agg e b g j λi v c f a=>Ul (k i v c f a)<|gK.1 d c<|hA a
 |_=>exact Ul h d
def apC{M M2:Mem}{β:Nat->Option Nat}{v:Value}{d:D}(h:cg M β v d)(c:Uk d=true):cg M2 β v d:=by
 cases h with
 |v _ x h=>exact .v _ x (aeQ h c)
 |ex _ x h e=>exact .ex _ x (aeQ h c) e
 |ptr r a b h=>exact .ptr r a b h
 |_=>simp[Uk]at c
def pd:Value->Bool
 |.string _ |.slice _ _ _=>true
 |_=>false
def aeR{α:Type}[Inhabited α]{enc:α->V}{k:Nat}{l:List α}{v:Value}{M:Mem}{b:Nat}(h:cY M v<|ai k enc l)(hi:∀a,∃j q z,j<k/\(enc a).cells[j]? = some (.int q z))
 (zc:∀a c,c∈(enc a).cells->GM c=true) (B:∀o u,M b o=some u->pd u=true) {M2:Mem} (I:(ji M b).le M2):cY M2 v (ai k enc l):=by
 unfold ai at h ⊢;generalize y:(λi=>enc<|l.getD i default)=get at h ⊢
 have e:∀i,get i=enc (l.getD i default):=λi=>by rw[<-y]
 generalize l.length=n at h ⊢
 cases h with
 |mp=>exact .mp _ _
 |oZ a=>exact .oZ a _ _
 |bP J g _ _ m _ val A w yo F t=>
  refine .bP J g k n m get val A w (λi j d x=>I _ _ _ ?_) F λi j c d f=>Ul (t i j c d f)<|zc (l.getD i default) c (by rw[<-e];exact hA f)
  have E:=yo i j d x;let⟨j0,q,z,p,H⟩:=hi<|l.getD i default;unfold ji;rw[de,E]
  rintro rfl
  have s:=B _ _<|yo i j0 d p;have r:=t i j0 _ d (by rw[e];exact H)
  generalize val i j0=u at s r
  cases r;cases s
section
variable {P:Program} {K:Ctx} {M:Mem} {β:Nat->Option Nat} {st:aA} {a:Array Value} {w:World}
def cell_of{w:World}{b:Nat}{vs:List Value}{T:TypeId}{c:Nat×Nat}(d:w.heap[b]? = some (.cells ⟨vs⟩ T c))(o:Nat):w.cell? ⟨b,o,none⟩=vs[o]? := by
 unfold World.cell?;simp[d]
end
def Mj(p:Nat->aS->Prop):List (Nat×aS)->Prop
 |[]=>True
 |(s,e)::l=>p s e/\Mj p l
def Mj.at{p:Nat->aS->Prop}:∀{l:List (Nat×aS)},Mj p l->∀s e,look l s=some e->p s e
 |[],_,s,e,h=>by simp[look]at h
 |(c,d)::l,a,s,e,h=>by
  rw[du]at h;split at h
  ·rename_i b;subst b;cases h;exact a.1
  ·exact a.2.at s e h
def Mk(p:Nat->aS->Prop):Nat->List aS->Prop
 |_,[]=>True
 |i,e::l=>p i e/\Mk p (i+1) l
def Mk.at{p:Nat->aS->Prop}:∀{l:List aS} {n:Nat},Mk p n l->∀i e,l[i]? = some e->p (n+i) e
 |[],_,_,i,e,h=>by simp at h
 |x::l,n,a,0,e,h=>by cases h;exact a.1
 |x::l,n,a,i+1,e,h=>by have:=a.2.at i e h;rwa [Nat.add_right_comm]at this
def Ml(p:Nat->Nat->aS->Prop):List (Nat×List aS)->Prop
 |[]=>True
 |(r,a)::l=>Mk (p r) 0 a/\Ml p l
def Ml.at{p:Nat->Nat->aS->Prop}:∀{l:List (Nat×List aS)},Ml p l->∀r cs,look l r=some cs->∀i e,cs[i]? = some e->p r i e
 |[],_,r,cs,h=>by simp[look]at h
 |(f,d)::l,a,r,cs,h=>by
  rw[du]at h;split at h
  ·rename_i b;subst b;cases h;intro i e c;have:=a.1.at i e c;rwa [mE]at this
  ·exact a.2.at r cs h
def aA.all{p:Loc->aS->Prop}{st:aA}(c:Mj (λs e=>p (.slot s) e) st.env)(b:Ml (λr i e=>p (.cell r i) e) st.H):∀l e,st.at l=some e->p l e:=λl e a=>by
 cases l with
 |slot s=>exact c.at s e a
 |cell r i=>
  simp only[aA.at]at a;cases af:look st.H r with
  |none=>rw[af]at a;cases a
  |some d=>rw[af]at a;exact b.at r d af i e a
section
variable {P:Program} {K:Ctx} {N E:Nat} {M:Mem} {β:Nat->Option Nat} {st:aA} {m:Array Value} {w:World} {tt:dI} {ops:List Oper} {UJ:Array Oper} {Q p:Exit->Act->World->Prop} {a:Act}
def bh.start(h:bh P K M β st m w)(b:m.size=N)(rs:List eT):fP P K N M β {env:=st.env,cf:=[],H:=st.H,aD:=st.aD,rs:=rs,aC:=[]} m w:=
 ⟨h,b,(λ_ _ h=>by simp[look]at h),λ_ _ _ h=>by simp[look]at h⟩
def Um(t:eP P tt=true)(f:UJ.toList=ops){rest:List Nat}{g':dt}(r:∀q,q∈g'.aC->q)
 (s:∀e d n c,fP P K N n c g' e d->wpOps P UJ Q rest ⟨e,K.ds⟩ d):
 ∀(l:List Oper) (k:Nat) (g:dt) (m:Array Value) (w:World) (M:Mem) (β:Nat->Option Nat),(∀j,j<l.length->l[j]? = ops[k+j]?)->fP P K N M β g m w->li (e0 P) tt N ops l g=some (.go g')->
  wpOps P UJ Q (List.range' k l.length++rest) ⟨m,K.ds⟩ w
 |[],k,g,m,w,M,β,_,h,b=>by
  simp only[li,hL,uV.go.injEq]at b;subst b;exact s m w M β h
 |o::l,k,g,m,w,M,β,u,h,b=>by
  have y:UJ[k]? = some o:=by
   have:=u 0 (by simp)
   simp at this
   rw[<-tY,f];exact this.symm
  simp only[mX,vo,gk,wpOps,y];simp only[li]at b;split at b
  ·rename_i A x;refine B3 h t f x (λq H=>r q<|TB b q H)<|λe d n c F=>?_
   exact Um t f r s l (k+1) A e d n c (λj z=>by have:=u (j+1) (by simpa using z);simpa[pR,wa 1 j]using this) F b
  ·rename_i i;exact absurd b (by intro B;exact i _ B)
def Ci{i:Nat}{rest:List Nat}{o:Oper}(c:UJ[i]? = some o)(b:o.guard=none){v:Value}{w':World}(d:(execOp a.eval o).run P w = .ok (.value v) w')(h:wpOps P UJ Q rest (a.put o.dst v) w'):
 wpOps P UJ Q (i::rest) a w:=by
 simp only[wpOps,c];rw[eI (by unfold Region.wanted;rw[b])]
 refine .inl ?_;unfold Oper.wp;rw[d];exact h
def aeT{i:Nat}{rest:List Nat}{o:Oper}(k:UJ[i]? = some o)(c:o.guard=none){f:FuncId}{args:Array Value}{R:Ending->World->Prop}(l:(execOp a.eval o).run P w = .ok (.enter f args) w)(d:Calls P f args w R)
 (h:∀e b,R e b->∃v,e = .returned v/\wpOps P UJ Q rest (a.put o.dst v) b):wpOps P UJ Q (i::rest) a w:=by
 simp only[wpOps,k];rw[eI (by unfold Region.wanted;rw[c])]
 refine .inl ?_;unfold Oper.wp;rw[l];refine Calls.mono d λe b j=>?_
 obtain⟨v,rfl,g⟩:=h e b j;exact g
def apE{o:Oper}{next:Act->World->Prop}(d:∀e a w,e ≠ .normal->p e a w->Q e a w)(h:o.wp P a w next p):o.wp P a w next Q:=by
 unfold Oper.wp at *;generalize (execOp a.eval o).run P w=r at *
 cases r with
 |ok n f=>
  cases n<;>simp only[Oper.upon]at h ⊢ <;> first
   |exact h
   |exact Calls.mono h (λe j b=>by
    cases e with
    |returned v=>exact b
    |panicked c=>exact d _ _ _ (by simp) b
    |outgrown=>let⟨k,g,i⟩:=b;exact⟨k,g,d _ _ _ (by simp) i⟩)
 |halt x f=>cases x<;>simp only[Oper.upon]at h ⊢ <;> first |exact d _ _ _ (by simp) h |exact h
def apF(b2:eP P tt=true)(I:List<|Nat×List eT){ps:List Prop}(d:ir (qU (e0 P) tt N UJ.toList (spread UJ.toList.length 0 I) st)=some ps)(ca:iX ps)
 (db:m.size=N) (L:bh P K M β st m w) (f:∀n t B e,n.size=N->bh P K B e (gc<|qU (e0 P) tt N UJ.toList (spread UJ.toList.length 0 I) st) n t->Q .normal ⟨n,K.ds⟩ t):
 wpAny P .any UJ Q UJ.size (Array.replicate UJ.size false) ⟨m,K.ds⟩ {w with drawn:=w.drawn+1}:=by
 unfold qU at d f;split at d
 case h_2=>cases d
 rename_i l g vf c;rw[c]at f
 dsimp only at f
 rw[fe]at d f;split at d
 case isFalse=>cases d
 rename_i y;rw[eI y]at f;simp only[ir,hL]at d;subst d;simp only[gc]at f;let⟨hlen,U,GA⟩:=TT (Fi:=λz=>Alike g z) c ca.mem Alike.refl
 simp only[Gw,cb]at y;let⟨⟨⟨c1,c2⟩,c3⟩,c4⟩:=y
 have O:∀(i:Nat) o E,UJ[i]? = some o->l[i]? = some E->hH UJ.toList o E=true:=by
  intro i o E A q;let⟨k,r⟩:=tw hlen i;have T:UJ.toList[i]? = some o:=by simpa using A
  rw[T]at k;rw[q]at r;cases dQ:(lz UJ.toList l)[i]? with
  |none=>rw[dQ]at k;simp at k
  |some x=>
   rw[dQ]at k r;simp at k r
   subst k;subst r;exact gK.1 c1 x<|hA dQ
 have aH:∀(i:Nat) E,l[i]? = some E->r' N E=true:=λi E q=>gK.1 c2 E<|hA q
 have H:o_ UJ (Array.replicate UJ.size false):=λj o A u=>by have b1:j<UJ.size:=(fy.1 A).1;simp[fi,b1]at u
 have F:=j'.text O (λz g2 Z J=>Alike.trans J Z) (lz UJ.toList l) 0 (Array.replicate UJ.size false) _ (λj=>by have:=(tw hlen j).1;simpa using this) (λj=>by have:=(tw hlen j).2;simpa using this)
  ⟨by simp,λj u=>by simp[u]⟩ H c4 GA
 have S:(lz UJ.toList l).length=UJ.size:=by rw[L5 hlen];simp
 rw[S]at F;refine j'.sound (K:=K) b2 (λi E q=>U E<|hA q) O aH c3 ?_ _ _ _ m _ M β F (by simp) H (λx W=>by cases W) ⟨(L.drew _).up _,db,(λs id h _ b X=>by have J:=L.lt _ _ X;have Y:=(Gy _ _ _<|nT h).1;simp only at Y;omega),λ_ _ _ h=>by simp[Gx,look]at h⟩
 intro z n t B e TX R;exact f n t B e R.size (Alike.bB TX.symm R.bB)
def Un(ops:List Oper)(n:Nat):Bool:=
 (List.range ops.length).all λi=>match ops[i]? with
  |none=>false
  |some o=>bif Nat.blt i n then
   (o.after.toList.all λe=>!Region.binds .any e||Nat.blt e.on i)&&(match o.guard with|none=>true|some (j,_)=>Nat.blt j n)
   else(match o.guard with|none=>true|_=>false)&&(o.after.toList.all λe=>!Region.binds .any e||Nat.blt e.on i) &&
    ((List.range n).all λj=>o.after.toList.any λe=>Region.binds .any e&&Nat.beq e.on j)&&(Nat.beq i n||o.after.toList.any λe=>Region.binds .any e&&Nat.beq e.on (i-1))
def Mm(P:Program)(ops:Array Oper)(n:Nat)(Q:Exit->Act->World->Prop):Exit->Act->World->Prop
 |.normal,a,w=>wpOps P ops Q (List.range' n<|ops.size-n) a w
 |e,a,w=>Q e a w
def apG{c:Array Oper}{b:Array Bool}(k:b.size=c.size)(h:∀(i:Nat) o,c[i]? = some o->∀e,e∈o.after->Region.binds .any e=true->e.on<i)(l:Region.ready .any c b=[]):
 ∀i,i<c.size->b.getD i false=true:=λi=>by
 induction i using Nat.strongRecOn with
 |_ i n=>
  intro d;cases aa:b.getD i false with
  |true=>rfl
  |false=>
   have f:=kt d;have:i∈Region.ready .any c b:=mem_ready.2 ⟨by simpa[fi,k,d]using aa,_,f,λe g j=>n e.on (h i _ f e g j)<|Nat.lt_trans (h i _ f e g j) d⟩
   rw[l]at this;cases this
def zd{full:Array Oper}{n:Nat}(u:Un full.toList n=true){i:Nat}{o:Oper}(s:full[i]? = some o):
 (∀e,e∈o.after->Region.binds .any e=true->e.on<i)/\(i<n->∀j b,o.guard=some (j,b)->j<n)/\
 (n<=i->o.guard=none/\(∀j,j<n->∃e,e∈o.after/\Region.binds .any e=true/\e.on=j)/\(i≠n->∃e,e∈o.after/\Region.binds .any e=true/\e.on=i-1)):=by
 have y:i<full.toList.length:=by simpa using(fy.1 s).1
 have h:=gK.1 u i<|xv.2 y;rw[show full.toList[i]? = some o by simpa using s]at h
 dsimp only at h
 cases hn:Nat.blt i n with
 |true=>
  rw[hn]at h;simp only[oK,cb,gK,mu,hh,ph]at h;have k:i<n:=by simpa[ph]using hn
  refine⟨λe c d=>?_,λ_ j b l=>?_,λB=>by omega⟩
  ·rcases h.1 e (by simpa using c)with h1|h1
   ·rw[d]at h1;cases h1
   ·exact h1
  ·rw[l]at h;simpa[ph]using h.2
 |false=>
  rw[hn]at h;simp only[qe,cb,gK,tr,mu,hh,ph,kb,xv]at h;have k:¬ i<n:=by intro r;rw[<-ph]at r;rw[r]at hn;cases hn
  let⟨⟨⟨h1,t⟩,z⟩,q⟩:=h;refine⟨λe c d=>?_,λA=>by omega,λ_=>⟨?_,λj f=>?_,λg=>?_⟩⟩
  ·rcases t e (by simpa using c)with aO|aO
   ·rw[d]at aO;cases aO
   ·exact aO
  ·cases l:o.guard with
   |none=>rfl
   |some x=>rw[l]at h1;cases h1
  ·let⟨e,c,d,f⟩:=z j f;exact⟨e,by simpa using c,d,f⟩
  ·rcases q with q|⟨e,c,d,f⟩
   ·exact absurd q g
   ·exact⟨e,by simpa using c,d,f⟩
section
variable {full:Array Oper} {n:Nat} (c:Un full.toList n=true)
include c
def apH:∀(d t f:Nat) (b:Array Bool) (a:Act) (w:World),full.size=n+t+d->d<=f->b.size=full.size->(∀j,j<n+t->b.getD j false=true)->(∀j,n+t<=j->b.getD j false=false)->
 wpOps P full Q (List.range' (n+t) d) a w->wpAny P .any full Q f b a w:=by
 have F:∀{t:Nat} {b:Array Bool},b.size=full.size->(∀j,j<n+t->b.getD j false=true)->(∀j,n+t<=j->b.getD j false=false)->∀i,i∈Region.ready .any full b↔(i=n+t/\i<full.size):=by
  intro t b g q l i;constructor
  ·intro k;let⟨B,o,u,J⟩:=mem_ready.1 k;have r:=(fy.1 u).1;refine⟨?_,r⟩
   have S:n+t<=i:=by
    rcases yn i (n+t)with h|h
    ·have:=q i h;simp[fi,g,r]at this B;rw[this]at B;cases B
    ·exact h
   rcases Nat.eq_or_lt_of_le S with h|h
   ·exact h.symm
   ·let⟨_,_,L⟩:=zd c u;let⟨e,z,A,y⟩:=(L<|by omega).2.2 (by omega)
    have:=J e z A
    rw[y,l (i-1)<|by omega]at this;cases this
  ·rintro ⟨rfl,r⟩
   have u:=kt r;refine mem_ready.2 ⟨?_,_,u,λe z A=>q _<|(zd c u).1 e z A⟩
   have:=l (n+t)<|fS _
   simpa[fi,g,r]using this
 intro d;induction d with
 |zero=>
  intro t f b a w I R g q l s;have x:Region.ready .any full b=[]:=aEr.2 λi k=>by have:=(F g q l i).1 k;omega
  cases f with
  |zero=>exact⟨x,s⟩
  |succ f=>exact⟨λ_=>s,λi k=>by rw[x]at k;cases k⟩
 |succ d O=>
  intro t f b a w I R g q l s;obtain⟨f,rfl⟩:∃H,f=H+1:=⟨f-1,by omega⟩
  refine⟨λx=>?_,λi k=>?_⟩
  ·have:=(F g q l<|n+t).2 ⟨rfl,by omega⟩
   rw[x]at this;cases this
  ·obtain⟨rfl,r⟩:=(F g q l i).1 k;rw[vo,wpOps_cons]at s;refine wpOp_mono (λa w h=>O (t+1) f _ a w (by omega) (by omega) (by simpa using g) (λj y=>?_) (λj y=>?_) h) s
   ·by_cases e:n+t=j
    ·subst e;simp[fi,g,r]
    ·have:=q j (by omega);simpa[fi,tA,e]using this
   ·have:=l j (by omega);simpa[fi,tA,show¬ n+t=j by omega]using this
def apI(hn:n<=full.size):∀(k:Nat) (l d:Array Bool) (a:Act) (w:World),wpAny P .any (full.toList.take n).toArray (Mm P full n Q) k l a w->l.size=n->d.size=full.size->
 (∀j,j<n->d.getD j false=l.getD j false)->(∀j,n<=j->d.getD j false=false)->wpAny P .any full Q (k+(full.size-n)) d a w:=by
 have lq:(full.toList.take n).toArray.size=n:=by simp;omega
 have R:∀{i},i<n->(full.toList.take n).toArray[i]? = full[i]? := λ{i} q=>by simp[ix,q]
 have vl:∀(i:Nat) o,(full.toList.take n).toArray[i]? = some o->∀e,e∈o.after->Region.binds .any e=true->e.on<i:=λi o r e s z=>by
  have q:i<n:=by have:=(fy.1 r).1;omega
  rw[R q]at r;exact(zd c r).1 e s z
 have done:∀{l d:Array Bool} {a:Act} {w:World} {f:Nat},full.size-n<=f->l.size=n->d.size=full.size->(∀j,j<n->d.getD j false=l.getD j false)->(∀j,n<=j->d.getD j false=false)->
  Region.ready .any (full.toList.take n).toArray l=[]->wpOps P full Q (List.range' n<|full.size-n) a w->wpAny P .any full Q f d a w:=by
  intro l d a w f aB A B t I L S;have p3:=apG (A.trans lq.symm) vl L;exact apH c (full.size-n) 0 f d a w (by omega) aB B (λj u=>by rw[t j<|by omega];exact p3 j<|by omega) (λj u=>I j<|by omega) S
 intro k;induction k with
 |zero=>
  intro l d a w h A B t I;exact done (by omega) A B t I h.1 h.2
 |succ k aE=>
  intro l d a w h A B t I;by_cases L:Region.ready .any (full.toList.take n).toArray l=[]
  ·exact done (by omega) A B t I L<|h.1 L
  ·let⟨W,J⟩:=List.exists_mem_of_ne_nil _ L
   have O:∀{i},i∈Region.ready .any (full.toList.take n).toArray l->i<n/\l.getD i false=false:=λ{i} q=>by
    let⟨X,o,r,_⟩:=mem_ready.1 q;have Y:=(fy.1 r).1;refine⟨by omega,?_⟩
    simpa[fi,A,show i<n by omega]using X
   have lt:∀{i},i∈Region.ready .any full d->i<n:=λ{i} q=>by
    let⟨X,o,r,g2⟩:=mem_ready.1 q;rcases yn i n with bf|bf
    ·exact bf
    ·let⟨e,s,z,u⟩:=((zd c r).2.2 bf).2.1 W (O J).1;have:=g2 e s z
     rw[u,t W (O J).1,(O J).2]at this;cases this
   have same:∀{i},i<n->(i∈Region.ready .any full d↔i∈Region.ready .any (full.toList.take n).toArray l):=λ{i} q=>by
    have U:d.getD i true=l.getD i true:=by
     have:=t i q
     simpa[fi,A,B,q,show i<full.size by omega]using this
    rw[mem_ready,mem_ready,R q,U];refine and_congr Iff.rfl<|exists_congr λo=>and_congr_right λr=>?_
    refine⟨λg e s z=>?_,λg e s z=>?_⟩
    ·have Y:=(zd c r).1 e s z;rw[<-t e.on (by omega)];exact g e s z
    ·have Y:=(zd c r).1 e s z;rw[t e.on<|by omega];exact g e s z
   rw[show k+1+(full.size-n)=k+(full.size-n)+1 by omega]
   refine⟨λiV=>?_,λi q=>?_⟩
   ·have:=(same (O J).1).2 J
    rw[iV]at this;cases this
   ·have y:=lt q;have H:=h.2 i<|(same y).1 q;have r:full[i]? = some full[i]:=kt (by omega)
    unfold wpOp at H ⊢;rw[R y,r]at H;rw[r]
    dsimp only at H ⊢
    have S:Region.wanted full[i] (yielded (full.toList.take n).toArray a.tmps)=Region.wanted full[i] (yielded full a.tmps):=by
     unfold Region.wanted;cases hg:full[i].guard with
     |none=>rfl
     |some x=>
      let⟨j,b⟩:=x;have u:=(zd c r).2.1 y j b hg
      dsimp only
      unfold yielded;rw[R u]
    rw[S]at H
    have Z:∀a w,wpAny P .any (full.toList.take n).toArray (Mm P full n Q) k (l.setIfInBounds i true) a w->wpAny P .any full Q (k+(full.size-n)) (d.setIfInBounds i true) a w:=λa w F=>
     aE _ _ a w F (by simpa using A) (by simpa using B) (λj u=>by
      have:=t j u
      by_cases e:i=j
      ·subst e;simp[fi,A,B,y,show i<full.size by omega]
      ·simpa[fi,tA,e]using this) (λj u=>by
      have:=I j u
      simpa[fi,tA,show¬ i=j by omega]using this)
    have am:∀e a w,e ≠ .normal->Mm P full n Q e a w->Q e a w:=λe a w s F=>by cases e<;>first|exact absurd rfl s|exact F
    split at H
    ·rename_i T;rw[eI T];exact H.imp (λF=>Oper.wp_mono Z<|apE am F) fun⟨F,a1,l1,cG⟩=>⟨F,a1,l1,cG⟩
    ·rename_i T;rw[de T];exact Z _ _ H
end
end
section
variable {P:Program} {K:Ctx} {N E:Nat} {M:Mem} {β:Nat->Option Nat} {st:aA} {c:Array Value} {w:World} {tt:dI} {UJ:Array Oper} {Q:Exit->Act->World->Prop} {a:Act}
structure iJ(K:Ctx)(M:Mem)(β:Nat->Option Nat)(st:aA)(w:World)(b:Nat)(vs:List Value)(T:TypeId):Prop where
 heap:w.heap[b]? = some (.cells ⟨vs⟩ T (0,0))
 mem:∀o,M b o=none
 sc:K.F b=none
 box:∀r cs,look st.H r=some cs->β r≠some b
def l2(st:aA):Prop:=∀l e,st.at l=some e->e.own=none
def bh.Cj(h:bh P K M β st c w){b:Nat}{w':World}(O:∀o,M b o=none)(L:K.F b=none)(B:∀r cs,look st.H r=some cs->β r≠some b)(y:l2 st)
 (q:∀(x:Nat) (j:Obj),x≠b->w.heap[x]? = some j->w'.heap[x]? = some j) (R:(w'.os,w'.output)=(w.os,w.output)):bh P K M β st c w':=by
 have J:∀(x o:Nat) v,x≠b->w.cell? ⟨x,o,none⟩=some v->w'.cell? ⟨x,o,none⟩=some v:=λx o v I k=>by
  unfold World.cell? at k ⊢;cases hb:w.heap[x]? with
  |none=>simp[hb]at k
  |some j=>rw[q x j I hb];rw[hb]at k;exact k
 have k:∀l e,st.at l=some e->ch c w' β l=ch c w β l:=λl e d=>by
  cases l with
  |slot s=>rfl
  |cell r i=>
   simp only[aA.at]at d;cases m:look st.H r with
   |none=>rw[m]at d;cases d
   |some cs=>
    let⟨n,A,T,f,t,_⟩:=h.box r cs m;have u:n≠b:=λe=>B r cs m<|e ▸ f
    simp only[ch,f];unfold World.cell?;rw[t,q n _ u t]
 refine⟨λl e d=>by rw[k l e d];exact h.dp l e d,λl e T d g=>?_,λl U e W T X b d g=>?_,λl e T b r cs d g=>?_,λr cs m=>?_,h.inj,h.lt,λp o v e=>?_,h.m0,λp j e=>?_,h.ia,h.il,R.trans h.gz⟩
 ·rw[y l e d]at g;cases g
 ·rw[y l e d]at g;cases g
 ·rw[y l e d]at g;cases g
 ·let⟨n,A,T,f,t,S⟩:=h.box r cs m;exact⟨n,A,T,f,q n _ (λe=>B r cs m<|e ▸ f) t,S⟩
 ·exact J p o v (λz=>by subst z;rw[O]at e;cases e)<|h.mem p o v e
 ·have f:=h.frame p j e;exact⟨q p j (λz=>by subst z;rw[L]at e;cases e) f.1,f.2⟩
def bh.aeU(h:bh P K M β st c w){M':Mem}(g:M.le M')(s:∀b o v,M' b o=some v->w.cell? ⟨b,o,none⟩=some v)(z:∀b j,K.F b=some j->∀o,M' b o=M b o)
 (t:∀r i b,look st.H r=some i->β r=some b->∀o,M' b o=none) (k:l2 st):bh P K M' β st c w:=by
 refine⟨λl e f=>(h.dp l e f).mono g,λl e T f d=>?_,λl A e B T I b f d=>?_,λl e T b r i f d=>?_,λr i p=>?_,h.inj,h.lt,s,Mem.le_trans h.m0 g,λb j e=>?_,h.ia,h.il,h.gz⟩
 ·rw[k l e f]at d;cases d
 ·rw[k l e f]at d;cases d
 ·rw[k l e f]at d;cases d
 ·let⟨n,q,T,m,u,y,_,x⟩:=h.box r i p;exact⟨n,q,T,m,u,y,t r i n p m,x⟩
 ·exact⟨(h.frame b j e).1,λo=>(z b j e o).trans<|(h.frame b j e).2 o⟩
def bh.d_(h:bh P K M β st c w){st':aA}(A:st'.aD=st.aD)(k:∀l e,st'.at l=some e->e.own=none/\(∀r o u,e.d ≠ .cn r o u)/\cg M β (ch c w β l) e.d)
 (t:∀r f,look st'.H r=some f->∃n,look st.H r=some n/\n.length=f.length):bh P K M β st' c w:=by
 refine⟨λl e j=>(k l e j).2.2,λl e T j g=>?_,λl cl e a7 T T' b j g=>?_,λl e T b r f j g=>?_,λr f q=>?_,λr p m f x q O s y=>?_,λr m s=>by rw[A];exact h.lt r m s,h.mem,h.m0,h.frame,h.ia,h.il,h.gz⟩
 ·rw[(k l e j).1]at g;cases g
 ·rw[(k l e j).1]at g;cases g
 ·rw[(k l e j).1]at g;cases g
 ·let⟨n,y,ay⟩:=t r f q;let⟨m,I,R,aO,Z,W,U,S,z⟩:=h.box r n y;refine⟨m,I,R,aO,Z,by rw[W,ay],U,S,z.1,λe B p o u hd=>?_⟩
  obtain⟨i,F,rfl⟩:=qN B;exact absurd hd<|(k (.cell r i) f[i] (by rw[aA.FL q];exact ed F)).2.1 p o u
 ·let⟨Y,L,_⟩:=t r f q;let⟨X,J,_⟩:=t p x O;exact h.inj r p m Y X L J s y
def qV(K:Ctx)(Mx:Mem)(β:Nat->Option Nat)(st:aA)(b:Nat)(d:Obj):Ctx:=
 {s_:=Mx,F:=λx=>if x=b then some d else K.F x,hE:=λr=>if r<st.aD then β r else none,gz:=K.gz,ds:=K.ds}
def bh.Ck(h:bh P K M β st c w){b:Nat}{vs:List Value}{T:TypeId}(o:iJ K M β st w b vs T)(n:l2 st){Mx:Mem}(y:M.le Mx)(s:∀d o,d≠b->Mx d o=M d o)(L:∀o v,Mx b o=some v->vs[o]? = some v):
 bh P (qV K Mx β st b<|.cells ⟨vs⟩ T (0,0)) Mx β st c w:=by
 refine⟨λl e j=>(h.dp l e j).mono y,λl e T j f=>?_,λl O e R T S b j f=>?_,λl e T b r p j f=>?_,λr p u=>?_,h.inj,h.lt,λd q v e=>?_,Mem.le_refl _,λd m e=>?_,λr i e=>?_,?_,h.gz⟩
 ·rw[n l e j]at f;cases f
 ·rw[n l e j]at f;cases f
 ·rw[n l e j]at f;cases f
 ·let⟨i,x,J,t,I,H,B,A,z⟩:=h.box r p u;have k:i≠b:=λe=>o.box r p u<|e ▸ t
  exact⟨i,x,J,t,I,H,λo=>by rw[s i o k];exact B o,by show(if i=b then _ else K.F i)=none;rw[de k];exact A,z⟩
 ·by_cases g:d=b
  ·subst g;rw[cell_of o.heap];exact L q v e
  ·rw[s d q g]at e;exact h.mem _ _ _ e
 ·have e:(if d=b then some (Obj.cells ⟨vs⟩ T (0,0))else K.F d)=some m:=e
  by_cases g:d=b
  ·subst g;rw[eI rfl]at e;cases e;exact⟨o.heap,λ_=>rfl⟩
  ·rw[de g]at e;exact⟨(h.frame d m e).1,λ_=>rfl⟩
 ·have e:(if r<st.aD then β r else none)=some i:=e
  split at e
  ·exact e
  ·cases e
 ·refine h.il.mono λd m e=>?_
  show(if d=b then _ else K.F d)=some m
  rw[de (λg=>by subst g;rw[o.sc]at e;cases e)]
  exact e
def bh.Up(h:bh P K M β st c w){b:Nat}{vs:List Value}{T:TypeId}(o:iJ K M β st w b vs T){Mx:Mem}(h1:M.le Mx)(h2:∀k o,k≠b->Mx k o=M k o)
 {M2:Mem} {B:Nat->Option Nat} {Mp st3:aA} {S:Array Value} {L:World} (m:bh P (qV K Mx β st b<|.cells ⟨vs⟩ T (0,0)) M2 B Mp S L) (hn:st3.aD=Mp.aD)
 (s:(∀o,M2 b o=Mx b o)->∀l e,st3.at l=some e->e.own=none/\(∀r o u,e.d ≠ .cn r o u)/\cg (ji M2 b) B (ch S L B l) e.d) (Y:∀r j,look st3.H r=some j->∃O,look Mp.H r=some O/\O.length=j.length):
 bh P K (ji M2 b) B st3 S L/\iJ K (ji M2 b) B st3 L b vs T/\M.le (ji M2 b)/\M.le M2:=by
 have Mo:=m.frame b _ (show(if b=b then some (Obj.cells ⟨vs⟩ T (0,0))else K.F b)=some _ from eI rfl)
 replace s:=s Mo.2
 have I:M.le (ji M2 b):=λk n v e=>by
  have g:k≠b:=λU=>by subst U;rw[o.mem]at e;cases e
  unfold ji;rw[de g];exact m.m0 _ _ _<|h1 _ _ _ e
 have lx:∀r j,look st3.H r=some j->∃f t J,B r=some f/\f≠b/\L.heap[f]? = some (.cells ⟨t⟩ J (0,0))/\t.length=j.length/\(∀o,M2 f o=none)/\K.F f=none/\(∀v,v∈t->v.oneCell'=true):=λr j q=>by
  let⟨O,y,ay⟩:=Y r j q;let⟨f,t,J,aO,bG,cG,dk,A,my⟩:=m.box r O y;have A:(if f=b then some (Obj.cells ⟨vs⟩ T (0,0))else K.F f)=none:=A
  have g:f≠b:=λe=>by rw[eI e]at A;cases A
  rw[de g]at A;exact⟨f,t,J,aO,g,bG,by rw[cG,ay],dk,A,my.1⟩
 refine⟨⟨λl e z=>(s l e z).2.2,λl e T z p=>?_,λl cl e a7 T T' b z p=>?_,λl e T b r j z p=>?_,λr j q=>?_,λr R f j Z q fr x W=>?_,λr f x=>by rw[hn];exact m.lt r f x,λk n v e=>?_,Mem.le_trans h.m0 I,λk aC e=>?_,λr f e=>?_,h.il,m.gz⟩,
  ⟨Mo.1,λn=>by unfold ji;rw[eI rfl],o.sc,λr j q hb=>?_⟩,I,λk n v e=>m.m0 _ _ _<|h1 _ _ _ e⟩
 ·rw[(s l e z).1]at p;cases p
 ·rw[(s l e z).1]at p;cases p
 ·rw[(s l e z).1]at p;cases p
 ·let⟨f,t,J,x,X,W,g4,g5,g6,g7⟩:=lx r j q;refine⟨f,t,J,x,W,g4,λo=>by unfold ji;rw[de X];exact g5 o,g6,g7,λe hm R o u hd=>?_⟩
  obtain⟨i,hi,rfl⟩:=qN hm;exact absurd hd<|(s (.cell r i) j[i] (by rw[aA.FL q];exact ed hi)).2.1 R o u
 ·let⟨c1,df,_⟩:=Y r j q;let⟨c2,ak,_⟩:=Y R Z fr;exact m.inj r R f c1 c2 df ak x W
 ·unfold ji at e;split at e
  ·cases e
  ·exact m.mem _ _ _ e
 ·have g:k≠b:=λU=>by subst U;rw[o.sc]at e;cases e
  have y:=m.frame k aC (show(if k=b then _ else K.F k)=some aC by rw[de g];exact e)
  refine⟨y.1,λn=>?_⟩
  unfold ji;rw[de g,y.2 n];show Mx k n=_
  rw[h2 k n g];exact(h.frame k aC e).2 n
 ·refine m.ia r f ?_;have y:=h.ia r f e;show(if r<st.aD then β r else none)=some f
  rw[eI<|h.lt r f y];exact y
 ·let⟨f,_,_,x,X,_⟩:=lx r j q;rw[x]at hb;cases hb;exact X rfl
def Mq{M2:Mem}{b:Nat}(h:∀o,M2 b o=none):ji M2 b=M2:=by
 funext bc o
 unfold ji;split
 ·rename_i d;subst d;exact(h o).symm
 ·rfl
def k3(s st:aA):Option aA:=(uX (s.env.map (·.1)) (s.H.map (·.1)) s.aD st.env st.H st.aD).map (fit s)
def bh.k3(h:bh P K M β st c w){s:aA}(e:Ab.k3 s st=some s)(i:∀r b,K.hE r=some b->r<s.aD):∃ d,bh P K M d s c w:=by
 unfold Ab.k3 at e;rw[dC]at e;let⟨k,g,f⟩:=e;let⟨d,j⟩:=h.uX g i;exact⟨d,f ▸ j.fit s⟩
def aeV{M:Mem}{β:Nat->Option Nat}{s:aA}(h:bh P K M β s c w)(g:l2 s)(f:∀l e,s.at l=some e->∀r o u,e.d ≠ .cn r o u):
 ∀l e,s.at l=some e->e.own=none/\(∀r o u,e.d ≠ .cn r o u)/\cg M β (ch c w β l) e.d:=λl e b=>⟨g l e b,f l e b,h.dp l e b⟩
def ze(st:aA):Prop:=∀l e,st.at l=some e->∀r o u,e.d ≠ .cn r o u
def qW{id:Nat}(b2:eP P tt=true)(h:bh P K M β st c w)(X:c.size=N){b:Nat}{vs:List Value}{T:TypeId}(o:iJ K M β st w b vs T)(U:l2 st)(m:List eT){ps:List Prop}
 (s:aA) (L:l2 s) (I:ze s) (n:st.aD<=s.aD) (t:ir (nZ (e0 P) tt N UJ.toList m st)=some ps) (Z:iX ps) (S:k3 s (gc<|nZ (e0 P) tt N UJ.toList m st)=some s)
 (cD:∀l g f d,l.size=N->M.le f->bh P K f d s l g->iJ K f d s g b vs T->Q .normal ⟨l,K.ds⟩ g):(Code.region id UJ false).wp P Q ⟨c,K.ds⟩ w:=by
 have O:=h.Ck o U (Mx:=M) (Mem.le_refl _) (λ_ _ _=>rfl) (λj v e=>by rw[o.mem]at e;cases e)
 have B:∀r k,(qV K M β st b<|.cells ⟨vs⟩ T (0,0)).hE r=some k->r<st.aD:=λr k e=>by
  have e:(if r<st.aD then β r else none)=some k:=e
  split at e
  ·assumption
  ·cases e
 have R:=(a8.rg (id:=id) (E:=st.aD) (Q:=λA i=>A = .normal/\i=gc (nZ (e0 P) tt N UJ.toList m st)) b2 m t Z ⟨rfl,rfl⟩) _ B ⟨c,K.ds⟩ w ⟨rfl,rfl,X,M,β,O⟩
 refine wp_mono R ?_
 rintro e ⟨l,H⟩ g ⟨A,i,bU,rfl,rfl⟩
 obtain⟨rfl,q,J,f,d,b'⟩:=bU;have q:H=K.ds:=q;subst q;let⟨W,p⟩:=b'.k3 S λr k e=>pb (B r k e) n
 have u:∀j,f b j=none:=λj=>by
  have:=(p.frame b _ (show(if b=b then some (Obj.cells ⟨vs⟩ T (0,0))else K.F b)=some _ from eI rfl)).2 j
  rw[this];exact o.mem j
 let⟨z,y,x,_⟩:=h.Up o (Mem.le_refl _) (λ_ _ _=>rfl) p rfl (st3:=s) (by rw[Mq u];exact λ_=>aeV p L I)<|λr Y t=>⟨Y,t,rfl⟩
 rw[Mq u]at z y x;exact cD l g f W J x z y
end
section
variable {P:Program} {K:Ctx} {N E:Nat} {M:Mem} {β:Nat->Option Nat} {st:aA} {c:Array Value} {w:World} {tt:dI} {UJ:Array Oper} {Q:Exit->Act->World->Prop} {a:Act} {b:Nat} {vs:List Value} {T:TypeId}
def zf{Mx:Mem}{f:Obj}:∀r d,(qV K Mx β st b f).hE r=some d->r<st.aD:=λr d e=>by
 have e:(if r<st.aD then β r else none)=some d:=e
 split at e
 ·assumption
 ·cases e
def iJ.back(o:iJ K M β st w b vs T)(h:bh P K M β st c w){M':Mem}{β':Nat->Option Nat}{s:aA}{k:Array Value}{w':World}(e:bh P (qV K M β st b<|.cells ⟨vs⟩ T (0,0)) M' β' s k w')(m:l2 s)(l:ze s):
 bh P K M' β' s k w'/\iJ K M' β' s w' b vs T/\M.le M':=by
 have f:∀d,M' b d=none:=λd=>by
  have:=(e.frame b _ (show(if b=b then some (Obj.cells ⟨vs⟩ T (0,0))else K.F b)=some _ from eI rfl)).2 d
  rw[this];exact o.mem d
 let⟨j,i,g,_⟩:=h.Up o (Mem.le_refl _) (λ_ _ _=>rfl) e rfl (st3:=s) (by rw[Mq f];exact λ_=>aeV e m l)<|λr n p=>⟨n,p,rfl⟩
 rw[Mq f]at j i g;exact⟨j,i,g⟩
def aeW{id:Nat}(Z:eP P tt=true)(F:P.follows .mixedOrders=true)(n:Nat)(Y:Un UJ.toList n=true)(B:n<=UJ.size)(h:bh P K M β st c w)(S:c.size=N)(o:iJ K M β st w b vs T)(O:l2 st)
 (m:List<|Nat×List eT) {ps:List Prop} (s:aA) (y:l2 s) (u:ze s) (l:st.aD<=s.aD)
 (af:ir (qU (e0 P) tt N (UJ.toList.take n).toArray.toList (spread (UJ.toList.take n).toArray.toList.length 0 m) st)=some ps) (U:iX ps)
 (A:k3 s (gc<|qU (e0 P) tt N (UJ.toList.take n).toArray.toList (spread (UJ.toList.take n).toArray.toList.length 0 m) st)=some s)
 (W:∀g f i d,g.size=N->M.le i->bh P K i d s g f->iJ K i d s f b vs T->wpOps P UJ Q (List.range' n<|UJ.size-n) ⟨g,K.ds⟩ f):(Code.region id UJ true).wp P Q ⟨c,K.ds⟩ w:=by
 have z:=h.Ck o O (Mx:=M) (Mem.le_refl _) (λ_ _ _=>rfl) (λo' v e=>by rw[o.mem]at e;cases e)
 refine wp_region_any F ?_;have q:(UJ.toList.take n).toArray.size=n:=by simp;omega
 have H:=apF (Q:=Mm P UJ n Q) Z m af U S z λg f i d x b'=>by
  let⟨R,k⟩:=b'.k3 A λr X e=>pb (zf r X e) l
  let⟨L,J,I⟩:=o.back h k y u;exact W g f i R x I L J
 have k:=apI Y B _ _ (Array.replicate UJ.size false) _ _ H (by simp;omega) (by simp) (λj t=>by rw[q];simp[fi,t,show j<UJ.size by omega]) (λj t=>by
  by_cases p:j<UJ.size
  ·simp[fi,p]
  ·simp[fi,p])
 rw[q,show n+(UJ.size-n)=UJ.size by omega]at k
 exact k
structure Mr(P:Program)(K:Ctx)(M:Mem)(β:Nat->Option Nat)(st h6:aA)(c:Array Value)(w:World)(b:Nat)(vs:List Value):Prop where
 aD:h6.aD=st.aD
 dp:∀l e,h6.at l=some e->e.own=none/\(∀r o u,e.d ≠ .cn r o u)/\cg (nx M b vs) β (ch c w β l) e.d
 lens:∀r cs,look h6.H r=some cs->∃hJ,look st.H r=some hJ/\hJ.length=cs.length
def zg(f:∀o,M b o=none):M.le (nx M b vs):=λg o v e=>by
 unfold nx;by_cases d:g=b
 ·subst d;rw[f]at e;cases e
 ·rw[de d];exact e
def aeX(h:bh P K M β st c w)(o:iJ K M β st w b vs T)(i:l2 st){h6:aA}(d:Mr P K M β st h6 c w b vs):bh P (qV K (nx M b vs) β st b<|.cells ⟨vs⟩ T (0,0)) (nx M b vs) β h6 c w:=
 (h.Ck o i (zg o.mem) (λj f g=>by unfold nx;rw[de g]) (λf v e=>by unfold nx at e;rw[eI rfl]at e;exact e)).d_ d.aD d.dp d.lens
def aeY(h:bh P K M β st c w)(o:iJ K M β st w b vs T){M2:Mem}{g:Nat->Option Nat}{s f:aA}{j:Array Value}{i:World}(y:bh P (qV K (nx M b vs) β st b<|.cells ⟨vs⟩ T (0,0)) M2 g s j i)(q:f.aD=s.aD)
 (t:(∀o,M2 b o=vs[o]?)->∀l e,f.at l=some e->e.own=none/\(∀r o u,e.d ≠ .cn r o u)/\cg (ji M2 b) g (ch j i g l) e.d) (F:∀r n,look f.H r=some n->∃m,look s.H r=some m/\m.length=n.length):
 bh P K (ji M2 b) g f j i/\iJ K (ji M2 b) g f i b vs T/\M.le (ji M2 b):=by
 let⟨B,A,z,_⟩:=h.Up o (zg o.mem) (λI k p=>by unfold nx;rw[de p]) y q (λx=>t λk=>by rw[x k];unfold nx;rw[eI rfl]) F
 exact⟨B,A,z⟩
def aeZ{id:Nat}(b2:eP P tt=true)(h:bh P K M β st c w)(db:c.size=N)(o:iJ K M β st w b vs T)(fJ:l2 st){h6:aA}(dK:Mr P K M β st h6 c w b vs)(p:List eT){ps:List Prop}
 (s n:aA) (x:st.aD<=s.aD) (Uq:n.aD=s.aD) (af:ir (nZ (e0 P) tt N UJ.toList p h6)=some ps) (ca:iX ps) (S:k3 s (gc<|nZ (e0 P) tt N UJ.toList p h6)=some s)
 (U:∀M2 i A F,bh P (qV K (nx M b vs) β st b<|.cells ⟨vs⟩ T (0,0)) M2 i s A F->(∀o,M2 b o=vs[o]?)->M.le (ji M2 b)->∀l e,n.at l=some e->e.own=none/\(∀r o u,e.d ≠ .cn r o u)/\cg (ji M2 b) i (ch A F i l) e.d)
 (dT:∀r J,look n.H r=some J->∃B,look s.H r=some B/\B.length=J.length)
 (cD:∀j g k f,j.size=N->M.le k->bh P K k f n j g->iJ K k f n g b vs T->Q .normal ⟨j,K.ds⟩ g):(Code.region id UJ false).wp P Q ⟨c,K.ds⟩ w:=by
 have q:=aeX h o fJ dK;have R:=(a8.rg (id:=id) (E:=st.aD) (Q:=λI m=>I = .normal/\m=gc (nZ (e0 P) tt N UJ.toList p h6)) b2 p af ca ⟨rfl,rfl⟩) _ zf ⟨c,K.ds⟩ w ⟨rfl,rfl,db,_,β,q⟩
 refine wp_mono R ?_
 rintro e ⟨j,L⟩ g ⟨I,m,bU,rfl,rfl⟩
 obtain⟨rfl,z,O,k,f,b'⟩:=bU;have z:L=K.ds:=z;subst z;let⟨i,y⟩:=b'.k3 S λr bj e=>pb (zf r bj e) x
 have Ur:M.le (ji k b):=λbc o' v e=>by
  have t:bc≠b:=λq=>by subst q;rw[o.mem]at e;cases e
  unfold ji;rw[de t];exact y.m0 _ _ _<|zg o.mem _ _ _ e
 let⟨Z,Y,X⟩:=aeY h o y Uq (λW=>U k i j g y W Ur) dT
 exact cD j g _ i O X Z Y
def apK{id:Nat}(b2:eP P tt=true)(U:P.follows .mixedOrders=true)(h:bh P K M β st c w)(db:c.size=N)(o:iJ K M β st w b vs T)(fJ:l2 st){h6:aA}(dK:Mr P K M β st h6 c w b vs)(p:List<|Nat×List eT){ps:List Prop}
 (s n:aA) (x:st.aD<=s.aD) (Uq:n.aD=s.aD) (af:ir (qU (e0 P) tt N UJ.toList (spread UJ.toList.length 0 p) h6)=some ps) (ca:iX ps) (S:k3 s (gc<|qU (e0 P) tt N UJ.toList (spread UJ.toList.length 0 p) h6)=some s)
 (W:∀M2 i A F,bh P (qV K (nx M b vs) β st b<|.cells ⟨vs⟩ T (0,0)) M2 i s A F->(∀o,M2 b o=vs[o]?)->M.le (ji M2 b)->∀l e,n.at l=some e->e.own=none/\(∀r o u,e.d ≠ .cn r o u)/\cg (ji M2 b) i (ch A F i l) e.d)
 (dT:∀r J,look n.H r=some J->∃B,look s.H r=some B/\B.length=J.length)
 (cD:∀j g k f,j.size=N->M.le k->bh P K k f n j g->iJ K k f n g b vs T->Q .normal ⟨j,K.ds⟩ g):(Code.region id UJ true).wp P Q ⟨c,K.ds⟩ w:=by
 have q:=aeX h o fJ dK;have R:=(a8.Gz (id:=id) (E:=st.aD) (Q:=λI m=>I = .normal/\m=gc (qU (e0 P) tt N UJ.toList (spread UJ.toList.length 0 p) h6)) b2 U p af ca ⟨rfl,rfl⟩) _ zf ⟨c,K.ds⟩ w ⟨rfl,rfl,db,_,β,q⟩
 refine wp_mono R ?_
 rintro e ⟨j,L⟩ g ⟨I,m,bU,rfl,rfl⟩
 obtain⟨rfl,z,O,k,f,b'⟩:=bU;have z:L=K.ds:=z;subst z;let⟨i,y⟩:=b'.k3 S λr bj e=>pb (zf r bj e) x
 have Ur:M.le (ji k b):=λbc o' v e=>by
  have t:bc≠b:=λq=>by subst q;rw[o.mem]at e;cases e
  unfold ji;rw[de t];exact y.m0 _ _ _<|zg o.mem _ _ _ e
 let⟨g1,Z,Y⟩:=aeY h o y Uq (λX=>W k i j g y X Ur) dT
 exact cD j g _ i O Y g1 Z
end
section
variable {P:Program} {K:Ctx} {N E:Nat} {M:Mem} {β:Nat->Option Nat} {st:aA} {c:Array Value} {w:World} {tt:dI} {UJ:Array Oper} {Q:Exit->Act->World->Prop} {a:Act} {b:Nat} {vs:List Value} {T:TypeId}
def ae0{id:Nat}(I:eP P tt=true)(h:bh P K M β st c w)(z:c.size=N)(o:∀r b,K.hE r=some b->r<st.aD)(j:List eT){ps:List Prop}(s:aA)(k:st.aD<=s.aD)
 (L:ir (nZ (e0 P) tt N UJ.toList j st)=some ps) (A:iX ps) (u:k3 s (gc<|nZ (e0 P) tt N UJ.toList j st)=some s)
 (B:∀g i m d,g.size=N->bh P K m d s g i->Q .normal ⟨g,K.ds⟩ i):(Code.region id UJ false).wp P Q ⟨c,K.ds⟩ w:=by
 have t:=(a8.rg (id:=id) (E:=st.aD) (Q:=λn f=>n = .normal/\f=gc (nZ (e0 P) tt N UJ.toList j st)) I j L A ⟨rfl,rfl⟩) K o ⟨c,K.ds⟩ w ⟨rfl,rfl,z,M,β,h⟩
 refine wp_mono t ?_
 rintro e ⟨g,p⟩ i ⟨n,f,H,rfl,rfl⟩
 obtain⟨rfl,l,q,m,d,J⟩:=H;have l:p=K.ds:=l;subst l;let⟨y,x⟩:=J.k3 u λr F e=>pb (o r F e) k
 exact B g i m y q x
def qX(st:aA)(rs:List eT):dt:={env:=st.env,cf:=[],H:=st.H,aD:=st.aD,rs:=rs,aC:=[]}
def Us{id:Nat}(H:eP P tt=true)(k:Nat)(O:k<=UJ.size)(h:bh P K M β st c w)(y:c.size=N)(z:∀r b,K.hE r=some b->r<st.aD)(f:List eT){ps:List Prop}(s:aA)(l:st.aD<=s.aD)
 (J:zb (li (e0 P) tt N UJ.toList (UJ.toList.take k)<|qX st f)=some ps) (A:iX ps) (q:k3 s (Ch<|pc<|li (e0 P) tt N UJ.toList (UJ.toList.take k)<|qX st f)=some s)
 (B:∀g i o d,g.size=N->bh P K o d s g i->wpOps P UJ Q (List.range' k<|UJ.size-k) ⟨g,K.ds⟩ i):(Code.region id UJ false).wp P Q ⟨c,K.ds⟩ w:=by
 refine wp_region ?_;let⟨u,t⟩:=Mi J;have L:(UJ.toList.take k).length=k:=by simp;omega
 have hlen:List.range UJ.size=List.range' 0 (UJ.toList.take k).length++List.range' k (UJ.size-k):=by
  rw[L,sd];have:=List.range'_append (s:=0) (m:=k) (n:=UJ.size-k) (step:=1)
  simp only[Nat.one_mul,mE]at this;rw[this,show k+(UJ.size-k)=UJ.size by omega]
 rw[hlen]
 refine Um H rfl (g':=pc<|li (e0 P) tt N UJ.toList (UJ.toList.take k)<|qX st f) (by rw[t];exact A.mem) (λg i o d p=>?_) (UJ.toList.take k) 0 (qX st f) c w M β (λj R=>by
  rw[mE,ix,eI<|by omega]) (h.start y f) u
 let⟨x,I⟩:=p.bB.k3 q λr F e=>pb (z r F e) l
 exact B g i o x p.size I
def ae1{i:Nat}{rest:List Nat}{o:Oper}(e:UJ[i]? = some o)(d:o.guard=none){w':World}(f:(execOp a.eval o).run P w = .ok .skip w')(h:wpOps P UJ Q rest (a.put o.dst undef) w'):
 wpOps P UJ Q (i::rest) a w:=by
 simp only[wpOps,e];rw[eI (by unfold Region.wanted;rw[d])]
 refine .inl ?_;unfold Oper.wp;rw[f];exact h
end
section
variable {P:Program} {K:Ctx} {N E:Nat} {M:Mem} {β:Nat->Option Nat} {st:aA} {c:Array Value} {w:World} {tt:dI} {UJ:Array Oper} {Q:Exit->Act->World->Prop} {a:Act} {b:Nat} {vs:List Value} {T:TypeId}
def apL{id:Nat}(H:eP P tt=true)(k:Nat)(t:k<=UJ.size)(h:bh P K M β st c w)(A:c.size=N)(o:iJ K M β st w b vs T)(z:l2 st)(j:List eT){ps:List Prop}
 (s:aA) (p:l2 s) (m:ze s) (l:st.aD<=s.aD) (J:zb (li (e0 P) tt N UJ.toList (UJ.toList.take k)<|qX st j)=some ps) (B:iX ps) (r:k3 s (Ch<|pc<|li (e0 P) tt N UJ.toList (UJ.toList.take k)<|qX st j)=some s)
 (F:∀g f i d,g.size=N->M.le i->bh P K i d s g f->iJ K i d s f b vs T->wpOps P UJ Q (List.range' k<|UJ.size-k) ⟨g,K.ds⟩ f):(Code.region id UJ false).wp P Q ⟨c,K.ds⟩ w:=by
 have q:=h.Ck o z (Mx:=M) (Mem.le_refl _) (λ_ _ _=>rfl) (λL v e=>by rw[o.mem]at e;cases e)
 refine Us (K:=qV K M β st b<|.cells ⟨vs⟩ T (0,0)) H k t q A zf j s l J B r λg f i d n I=>?_
 let⟨y,x,u⟩:=o.back h I p m;exact F g f i d n u y x
def apM(F:eP P tt=true)(k:Nat)(h:bh P K M β st c w)(x:c.size=N)(y:∀r b,K.hE r=some b->r<st.aD)(f:List eT){ps:List Prop}(s:aA)(m:st.aD<=s.aD)
 (H:zb (li (e0 P) tt N UJ.toList (UJ.toList.drop k)<|qX st f)=some ps) (z:iX ps) (p:k3 s (Ch<|pc<|li (e0 P) tt N UJ.toList (UJ.toList.drop k)<|qX st f)=some s)
 (A:∀g i n d,g.size=N->bh P K n d s g i->Q .normal ⟨g,K.ds⟩ i):wpOps P UJ Q (List.range' k<|UJ.size-k) ⟨c,K.ds⟩ w:=by
 let⟨t,q⟩:=Mi H;have I:(UJ.toList.drop k).length=UJ.size-k:=by simp
 have l:=Um (Q:=Q) (rest:=[]) F rfl (g':=pc<|li (e0 P) tt N UJ.toList (UJ.toList.drop k)<|qX st f) (by rw[q];exact z.mem) (λg i n d o=>by
  let⟨u,l⟩:=o.bB.k3 p λr B e=>pb (y r B e) m
  exact A g i n u o.size l) (UJ.toList.drop k) k (qX st f) c w M β (λj J=>by
  rw[jl]) (h.start x f) t
 rw[I,gJ]at l;exact l
def ae2(F:eP P tt=true)(k:Nat)(h:bh P K M β st c w)(z:c.size=N)(o:iJ K M β st w b vs T)(y:l2 st)(j:List eT){ps:List Prop}
 (s:aA) (p:l2 s) (m:ze s) (l:st.aD<=s.aD)
 (I:zb (li (e0 P) tt N UJ.toList (UJ.toList.drop k)<|qX st j)=some ps) (A:iX ps) (r:k3 s (Ch<|pc<|li (e0 P) tt N UJ.toList (UJ.toList.drop k)<|qX st j)=some s)
 (B:∀g f i d,g.size=N->M.le i->bh P K i d s g f->iJ K i d s f b vs T->Q .normal ⟨g,K.ds⟩ f):wpOps P UJ Q (List.range' k<|UJ.size-k) ⟨c,K.ds⟩ w:=by
 have q:=h.Ck o y (Mx:=M) (Mem.le_refl _) (λ_ _ _=>rfl) (λJ v e=>by rw[o.mem]at e;cases e)
 refine apM (K:=qV K M β st b<|.cells ⟨vs⟩ T (0,0)) F k q z zf j s l I A r λg f i d n H=>?_
 let⟨x,u,t⟩:=o.back h H p m;exact B g f i d n t x u
def bh.Ms(h:bh P K M β st c w)(o:iJ K M β st w b vs T)(L:l2 st){s:aA}(I:l2 s)(J:Ab.k3 s st=some s)(O:∀r b,K.hE r=some b->r<s.aD):∃ g,bh P K M g s c w/\iJ K M g s w b vs T:=by
 have f:=h.Ck o L (Mx:=M) (Mem.le_refl _) (λ_ _ _=>rfl) (λW v e=>by rw[o.mem]at e;cases e)
 have R:bh P {qV K M β st b (.cells ⟨vs⟩ T (0,0))with hE:=K.hE} M β st c w:=⟨f.dp,f.own,f.uniq,f.unbox,f.box,f.inj,f.lt,f.mem,f.m0,f.frame,h.ia,f.il,f.gz⟩;let⟨g,i⟩:=R.k3 J O
 have A:∀r j,look s.H r=some j->∃d k n,g r=some d/\d≠b/\K.F d=none/\w.heap[d]? = some (.cells ⟨k⟩ n (0,0))/\k.length=j.length/\(∀o,M d o=none)/\act P n k j:=λr j t=>by
  let⟨d,k,n,q,z,y,x,m,u⟩:=i.box r j t;have m:(if d=b then some (Obj.cells ⟨vs⟩ T (0,0))else K.F d)=none:=m
  have p:d≠b:=λe=>by rw[eI e]at m;cases m
  rw[de p]at m;exact⟨d,k,n,q,p,m,z,y,x,u⟩
 refine⟨g,⟨i.dp,λl e T U S=>absurd S (by rw[I l e U];nofun),i.uniq,i.unbox,λr j t=>?_,i.inj,i.lt,i.mem,h.m0,h.frame,i.ia,h.il,i.gz⟩,o.heap,o.mem,o.sc,λr j t e=>?_⟩
 ·let⟨d,k,n,q,B,m,z,y,x,u⟩:=A r j t;exact⟨d,k,n,q,z,y,x,m,u⟩
 ·let⟨d,k,n,q,B,_⟩:=A r j t;rw[q]at e;cases e;exact B rfl
end
end Go.Ab

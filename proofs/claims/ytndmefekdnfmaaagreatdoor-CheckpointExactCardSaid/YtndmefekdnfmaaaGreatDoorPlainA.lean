/- The plain law: what the functions compute answers as the statement says. -/
import Derived.Test.YtndmefekdnfmaaaGreatDoorCtrD
set_option linter.all false
namespace Go.Ab.Y
open Go Go.Ab Go.Proofs Tryz
def YW{h:Decidable True}:@decide True h=true:=_root_.decide_true h
def UN{h:Decidable False}:@decide False h=false:=_root_.decide_false h
def US:(∀n:Nat,(n:Int).toNat=n)/\∀(α:Type)(_:Inhabited α)(l:List α)(n:Nat),yP l n=l.getD n default:=⟨λ_=>rfl,λ_ _ _ _=>rfl⟩
def UL{α:Type}{a b:α}:cond true a b=a:=rfl
def UK{α:Type}{a b:α}:cond false a b=b:=rfl
def UR:(!true)=false:=rfl
def YY:(!false)=true:=rfl
def UT{α:Type}{a:α}{l:List α}:(a::l).length=l.length+1:=rfl
def UU{α:Type}:([]:List α).length=0:=rfl
def UP{a b:Nat}:((a:Int)<b)↔a<b:=_root_.Int.ofNat_lt
def UO{α:Type}{a b:List α}:(a++b).length=a.length+b.length:=_root_.List.length_append
def U1{α:Type}{a:α}:[a].length=1:=rfl
def aEj{α:Type}{b:Bool}{x y:α}:cond b x y=if b then x else y:=_root_.Bool.cond_eq_ite b x y
def UZ(a:Int):¬a<a:=_root_.Int.lt_irrefl a
def U4(a:Bool):(a||true)=true:=_root_.Bool.or_true a
def U3{α:Type}{a b:α}{h:Decidable True}:@ite α True h a b=a:=_root_.if_true a b
def UY{α:Type}{a b:α}{h:Decidable False}:@ite α False h a b=b:=_root_.if_false a b
def wr{x:Int}(b : -9223372036854775808<=x)(a:x<=2^63-1):YV x=x:=by(try unfold YV);rw[IntKind.wrap_i64];omega
def fz{i:Nat}(h:i<=2^62):YV ((i:Int)+1)=((i+1:Nat):Int):=by rw[wr]<;>omega
def cu{i:Nat}(h:i<=2^63-2):YV ((i:Int)+1)=((i+1:Nat):Int):=by rw[wr]<;>omega
def bW{i n:Nat}(h:i<n):aP (i:Int) n=true:=by simp[aP];omega
def ql{n:Nat}(h:0<n):aP 0 n=true:=by simp[aP];omega
def AM{i n:Nat}(h:i<=n):hB (i:Int) n=true:=by simp[hB];omega
def auR{i j n:Nat}(h:i<=j)(a:j<=n):oY (i:Int) (j:Int) n=true:=by simp[oY];omega
@[simp] def aF {α : Type} (x : Option α) : ao true x = x := rfl
def gl{α:Type}(l:List α)(i:Nat)(d:α)(h:i<l.length):l.drop i=l.getD i d::l.drop (i+1):=by
 rw[List.drop_eq_getElem_cons h];simp[List.getD,h]
def i_{α:Type}(l:List α)(i:Nat)(h:¬ i<l.length):l.drop i=[]:=List.drop_of_length_le (by omega)
def uf(a k:Nat):((a:Int)<(no_index (OfNat.ofNat k):Int))↔a<k:=Int.ofNat_lt
def mH(a k:Nat):((a:Int)<=(no_index (OfNat.ofNat k):Int))↔a<=k:=Int.ofNat_le
def fq(a k:Nat):((no_index (OfNat.ofNat k):Int)<(a:Int))↔k<a:=Int.ofNat_lt
def ug(a k:Nat):((no_index (OfNat.ofNat k):Int)<=(a:Int))↔k<=a:=Int.ofNat_le
def hM(a k:Nat):((a:Int)=(no_index (OfNat.ofNat k):Int))↔a=k:=Int.ofNat_inj
def dU(a b:Bool):(bif a then true else b)=(a||b):=by cases a<;>rfl
def ew(a b:Bool):(bif a then b else false)=(a&&b):=by cases a<;>rfl
def aj{α β:Type}(a:α)(f:α->Option β):Option.bind (some a) f=f a:=rfl
def okB(c:UInt8):Bool:=decide (32<=c.toNat)&&decide (c.toNat<=126)
def kc(s:UB):Bool:=s.all okB&&decide (s.length<=64)
def J3(c:UInt8):(decide (c.toNat<32)||decide (126<c.toNat)) = !okB c:=by
 unfold okB;by_cases h:c.toNat<32
 ·simp[h]
 ·by_cases a:c.toNat<=126
  ·simp[a,show 32<=c.toNat by omega,h]
  ·simp[a];omega
def auS(n:Nat)(s:UB)(b:s.length<=2^63-1):∀m i,s.length<i+m->i<=s.length->CE n s m (i:Int)=some ((s.drop i).all okB&&decide (s.length<=64)):=by
 intro m;induction m with
 |zero=>intro i h e;omega
 |succ m a=>
  intro i c d;simp only[CE,aCN,apZ];by_cases h:i<s.length
  ·rw[gl s i 0 h,cu<|by omega,a (i+1) (by omega)<|by omega]
   simp only[h,bW h,US,UP,YW,UL,aF,U4,ny,uf,fq,dU,J3];cases okB (s.getD i 0)<;>simp
  ·rw[i_ s i h];simp[h,mH]
def aiH{n:Nat}{s:UB}(h:s.length<n)(a:s.length<=2^63-1):vals n s=some (kc s):=auS n s a n 0 (by omega) (by omega)
def auT(n:Nat)(s:UB)(b:s.length<=2^63-1):∀m i,s.length<i+m->i<=s.length->IK n s m (i:Int)=some ((s.drop i).all okB):=by
 intro m;induction m with
 |zero=>intro i h e;omega
 |succ m a=>
  intro i c d;simp only[IK,X_,X'];by_cases h:i<s.length
  ·rw[gl s i 0 h,cu<|by omega,a (i+1) (by omega)<|by omega]
   simp only[h,bW h,US,UP,YW,UL,aF,U4,ny,uf,fq,dU,J3];cases okB (s.getD i 0)<;>simp
  ·rw[i_ s i h];simp[h,mH]
def auU{n:Nat}{s:UB}(h:s.length<n)(a:s.length<=2^63-1):PB n s=some (kc s):=by
 unfold PB;rw[show(0:Int)=((0:Nat):Int)from rfl,auT n s a n 0 (by omega)<|by omega]
 unfold kc;simp only[gj,fq];by_cases h:64<s.length
 ·simp[h]
 ·simp[h];omega
def rl:List UB:=[[112,114,111,99],[108,101,116],[112,117,116],[100,101,108,101,116,101],[105,102],[101,108,115,101],[102,111,114],[116,111],[109,97,120],[101,109,105,116],[97,98,111,114,116],[110,111,116],[97,110,100],[111,114],[105,110,116],[115,116,114],[98,111,111,108],[116,101,120,116],[108,101,110],[103,101,116,105,110,116],[103,101,116,115,116,114],[104,97,115],[110,111,119],[114,97,110,100,111,109],[110,111,100,101]]
def xQ(s:UB):Bool:=decide (s∈rl)
def aiI(n:Nat)(s:UB):GX n s=some (xQ s):=by
 unfold xQ;by_cases h:s∈rl
 ·simp only[h,YW];simp only[rl,gh,nj,ri]at h;rcases h with rfl|rfl|rfl|rfl|rfl|rfl|rfl|rfl|rfl|rfl|rfl|rfl|rfl|rfl|rfl|rfl|rfl|rfl|rfl|rfl|rfl|rfl|rfl|rfl|rfl<;>rfl
 ·simp only[h,UN];simp only[rl,gh,nj,ri,xn]at h;simp only[GX,jx,aEs,h,UN,UK]
def auV(n:Nat)(l:List UB)(s:UB)(c:l.length<=2^62):∀m i,l.length<i+m->i<=l.length->IF n l s m (i:Int)=some (decide<|s∈l.drop i):=by
 intro m;induction m with
 |zero=>intro i h f;omega
 |succ m b=>
  intro i d e;simp only[IF,XR,XQ];by_cases h:i<l.length
  ·rw[gl l i default h,fz<|by omega,b (i+1) (by omega)<|by omega]
   simp only[h,bW h,US,UP,YW,UL,aF,gh];by_cases a:l.getD i default=s
   ·simp only[a,YW,UL,true_or]
   ·simp only[a,UN,UK,show¬ s=l.getD i default from λx=>a x.symm,false_or]
  ·rw[i_ l i h];simp[h]
def auW(n:Nat):XP n=some rl:=rfl
def auX{n:Nat}(l:List UB)(s:UB)(h:l.length<n)(a:l.length<=2^62):XS n l s=some (decide<|s∈l):=auV n l s a n 0 (by omega) (by omega)
def auY{n:Nat}(s:UB)(h:25<n):Pw n s=some (xQ s):=by
 unfold Pw;simp only[auW,aj];rw[auX rl s (by show 25<_;omega)<|by decide]
 rfl
def nH(c:UInt8):Bool:=decide (97<=c.toNat)&&decide (c.toNat<=122)
def aiJ(n:Nat)(c:UInt8):IG n (c.toNat:Int)=some (nH c):=by
 simp only[IG,ew,ug,mH,nH]
def auZ{x:Nat}(h:x<256):IntKind.i32.wrap (x:Int)=x:=by rw[IntKind.wrap_i32];omega
def aiK(n:Nat)(c:UInt8):GY n (IntKind.i32.wrap (c.toNat:Int))=some (nH c):=by
 rw[auZ c.toNat_lt];simp only[GY,ew,ug,mH,nH]
def au0(n:Nat)(c:UInt8):Px n (c.toNat:Int)=some (h7 c):=by
 simp only[Px,aiJ,aj,XT,ew,dU,ug,mH,hM];unfold h7 nH;by_cases h:97<=c.toNat/\c.toNat<=122
 ·simp[h.1,h.2]
 ·have:(decide (97<=c.toNat)&&decide (c.toNat<=122))=false:=by simpa using h
  rw[this];simp only[YY,UL,aj,jJ,h,false_or,xy,qm]
def Z4(s:UB):jj s<=s.length:=by unfold jj;exact(List.takeWhile_prefix _).length_le
def xR(c:UInt8)(s:UB):jj (c::s)=bif h7 c then jj s+1 else 0:=by
 unfold jj;cases h:h7 c<;>simp[List.takeWhile,h]
def au1(n:Nat)(s:UB)(b:s.length<=2^62):∀m i,s.length<i+m->i<=s.length->IH n s m (i:Int)=some (((i+jj (s.drop i):Nat):Int)):=by
 intro m;induction m with
 |zero=>intro i h e;omega
 |succ m a=>
  intro i c d;simp only[IH,XV,XU];by_cases h:i<s.length
  ·rw[gl s i 0 h,fz<|by omega,a (i+1) (by omega)<|by omega]
   simp only[h,bW h,US,UP,YW,UL,aF,U4,au0,aj,xR];cases h7 (s.getD i 0)
   ·rfl
   ·simp only[UL,hL];omega
  ·rw[i_ s i h];simp[h,jj]
def au2{n:Nat}{s:UB}(i:Nat)(h:s.length<n)(hi:i<=s.length)(a:s.length<=2^62):XW n s (i:Int)=some (((i+jj (s.drop i):Nat):Int)):=au1 n s a n i (by omega) hi
def hl(s:UB):Bool:=
 match s with
 |[]=>false
 |c::l=>decide (l.length<=15)&&nH c&&decide (jj (c::l)=l.length+1) && !xQ (c::l)
def J4{n:Nat}(s:UB)(h:s.length<n)(b:25<n)(a:s.length<=2^62):xp n s=some (hl s):=by
 unfold xp;cases s with
 |nil=>rfl
 |cons c l=>
  simp only[auY _ b,ew,ug,mH,UT,show 1<=l.length+1 by omega,YW,iP,ql (show 0<l.length+1 by omega),U4,aF,lD,aiJ]
  rw[show(0:Int)=((0:Nat):Int)from rfl,au2 0 h (by omega) a]
  simp only[gj,mE,hl,uc,show(l.length+1<=16)=(l.length<=15)by rw[eq_iff_iff];omega]
  cases decide (l.length<=15)<;>simp only[jH,UK,aj,iP,UL]
  cases nH c<;>simp only[jH,UK,aj,iP,UL,uc]
  cases decide (jj (c::l)=l.length+1)<;>simp only[jH,UK,aj,iP,UL]
def aiL(n:Nat)(s:UB)(h:s.length<=2^47-4096):Co n s=some ((jj s:Nat):Int):=by
 unfold Co;simp only[h,YW,aF]
def EN(n:Nat)(s:UB)(h:s.length<=2^47-4096):vq n s=some (hl s):=by
 unfold vq;cases s with
 |nil=>rfl
 |cons c l=>
  simp only[aiI,ew,ug,mH,UT,reduceCtorEq,UN,YY,iP,ql (show 0<l.length+1 by omega),U4,aF,lD,aiK,aiL _ _ h]
  simp only[hl,uc,show(l.length+1<=16)=(l.length<=15)by rw[eq_iff_iff];omega]
  cases decide (l.length<=15)<;>simp only[jH,UK,aj,iP,UL]
  cases nH c<;>simp only[jH,UK,aj,iP,UL,uc]
  cases decide (jj (c::l)=l.length+1)<;>simp only[jH,UK,aj,iP,UL]
def kN(op:Int):Int:=bif decide (op<1)||decide (27<op)then -1 else bif decide (op<=3)||decide (25<=op)then 0 else bif decide (op=9)||decide (op=18)||decide (20<=op)then 1 else 2
def au3(n:Nat)(op:Int):MV n op=some (kN op):=by
 simp only[MV,kN,dU];cases decide (op<1)||decide (27<op)<;>simp only[UL,UK]
 cases decide (op<=3)||decide (25<=op)<;>simp only[UL,UK]
 cases decide (op=9)||decide (op=18)||decide (20<=op)<;>rfl
def au4(n:Nat)(op:Int):IJ n op=some (kN op):=by
 by_cases h:1<=op/\op<=27
 ·obtain rfl|rfl|rfl|rfl|rfl|rfl|rfl|rfl|rfl|rfl|rfl|rfl|rfl|rfl|rfl|rfl|rfl|rfl|rfl|rfl|rfl|rfl|rfl|rfl|rfl|rfl|rfl:op=1\/op=2\/op=3\/op=4\/op=5\/op=6\/op=7\/op=8\/op=9\/op=10\/op=11\/op=12\/op=13\/op=14\/op=15\/op=16\/op=17\/op=18\/op=19\/op=20\/op=21\/op=22\/op=23\/op=24\/op=25\/op=26\/op=27:=by omega
  all_goals rfl
 ·have c:kN op = -1:=by
   unfold kN;by_cases a:op<1
   ·simp[a]
   ·simp[show 27<op by omega]
  have b:(decide (4<=op)&&decide (op<=19))=false:=by
   by_cases a:4<=op
   ·simp[a];omega
   ·simp[a]
  simp only[IJ,xt,vO,X9,ew,b,c,show¬ op=1 by omega,show¬ op=2 by omega,show¬ op=3 by omega,show¬ op=25 by omega,show¬ op=26 by omega,show¬ op=27 by omega,show¬ op=9 by omega,show¬ op=18 by omega,show¬ op=20 by omega,show¬ op=21 by omega,show¬ op=22 by omega,show¬ op=23 by omega,show¬ op=24 by omega,UN,UK]
def rm(e:Bi)(a:Int):Int:=
 if kN e.Op<0\/(e.Op≠1/\e.N≠0)\/(e.Op≠2/\e.Op≠3/\e.S≠[])then 1
 else if e.Op=3/\hl e.S=false then 7
 else if e.N<0\/(e.Op=2/\kc e.S=false)\/(e.ax.length:Int)≠kN e.Op then 1
 else if 12<a then 2 else 0
def au5{n:Nat}(e:Bi)(a:Int)(h:e.S.length<n)(m:e.S.length<=2^47-4096):MW n e a=some (rm e a):=by
 let⟨Op,N,S,l⟩:=e;simp only at h m
 simp only[MW,au3,aj,EN _ _ m,aiH h<|by omega,rm]
 by_cases b:kN Op<0
 ·simp[b]
 by_cases j:Op=1
 ·subst j;by_cases f:S=[]
  ·by_cases i:N<0
   ·simp[b,f,i]
   ·by_cases c:(l.length:Int)=kN 1
    ·by_cases g:12<a<;>simp[b,f,i,c,g]
    ·simp[b,f,i,c]
  ·simp[b,f]
 ·by_cases d:N=0
  ·by_cases k:Op=3
   ·subst k;cases hn:hl S
    ·simp[b,d,hn]
    ·by_cases c:(l.length:Int)=kN 3
     ·by_cases g:12<a<;>simp[b,d,hn,c,g]
     ·simp[b,d,hn,c]
   ·by_cases f:Op=2
    ·subst f;cases hn:kc S
     ·simp[b,d,hn]
     ·by_cases c:(l.length:Int)=kN 2
      ·by_cases g:12<a<;>simp[b,d,hn,c,g]
      ·simp[b,d,hn,c]
    ·by_cases i:S=[]
     ·by_cases c:(l.length:Int)=kN Op
      ·by_cases g:12<a<;>simp[b,j,d,k,f,i,c,g]
      ·simp[b,j,d,k,f,i,c]
     ·simp[b,j,d,k,f,i]
  ·simp[b,j,d]
def au6{n:Nat}(e:Bi)(a:Int)(h:e.S.length<n)(g:25<n)(m:e.S.length<=2^47-4096):PC n e a=some (rm e a):=by
 let⟨Op,N,S,l⟩:=e;simp only at h m
 simp only[PC,au4,aj,J4 S h g<|by omega,auU h<|by omega,rm]
 clear g;by_cases b:kN Op<0
 ·simp[b]
 by_cases g:Op=1
 ·subst g;by_cases f:S=[]
  ·by_cases j:N<0
   ·simp[b,f,j]
   ·by_cases c:(l.length:Int)=kN 1
    ·by_cases i:12<a<;>simp[b,f,j,c,i]
    ·simp[b,f,j,c]
  ·simp[b,f]
 ·by_cases d:N=0
  ·by_cases k:Op=3
   ·subst k;cases hn:hl S
    ·simp[b,d,hn]
    ·by_cases c:(l.length:Int)=kN 3
     ·by_cases i:12<a<;>simp[b,d,hn,c,i]
     ·simp[b,d,hn,c]
   ·by_cases f:Op=2
    ·subst f;cases hn:kc S
     ·simp[b,d,hn]
     ·by_cases c:(l.length:Int)=kN 2
      ·by_cases i:12<a<;>simp[b,d,hn,c,i]
      ·simp[b,d,hn,c]
    ·by_cases j:S=[]
     ·by_cases c:(l.length:Int)=kN Op
      ·by_cases i:12<a<;>simp[b,g,d,k,f,j,c,i]
      ·simp[b,g,d,k,f,j,c]
     ·simp[b,g,d,k,f,j]
  ·simp[b,g,d]
def iH(x:Int):Nat:=if -9223372036854775808<=x/\x<=2^63-1 then 0 else 1000000000000000000000000
def EO:iH 0=0:=rfl
def Z5{x:Int}(h : -9223372036854775808<=x/\x<=2^63-1):iH x=0:=eI h
mutual
def dD:Bi->Nat
 |⟨_,N,S,a⟩=>30+S.length+iH N+n7 a
def n7:List Bi->Nat
 |[]=>0
 |x::l=>dD x+1+n7 l
end
def sH(e:Bi):dD e=30+e.S.length+iH e.N+n7 e.ax:=by cases e;rfl
def J5:∀l:List Bi,l.length<=n7 l
 |[]=>fS _
 |x::l=>by have:=J5 l;simp only[n7,UT];omega
def J6:∀(l:List Bi) (i:Nat),i<l.length->dD (l.getD i default)<n7 l
 |[],i,h=>by simp at h
 |x::l,0,h=>by simp only[n7,lD];omega
 |x::l,i+1,h=>by have:=J6 l i (by simpa using h);simp only[n7,oO];omega
def aiM:∀(n:Nat) (e:Bi),dD e<=n->dD e<=2^47-4096->Ag n e e=some true:=by
 intro n;induction n with
 |zero=>intro e h;rw[sH]at h;omega
 |succ n g=>
  intro e h o;have j:=sH e;have k:=J5 e.ax;simp only[Ag,Xl,YW,UR,UK]
  have c:∀m i,e.ax.length<i+m->i<=e.ax.length->Ix n (Ag n) e e m (i:Int)=some true:=by
   intro m;induction m with
   |zero=>intro i f d;omega
   |succ m b=>
    intro i f d;simp only[Ix,Xk,Xj];by_cases a:i<e.ax.length
    ·have l:=J6 e.ax i a;simp only[a,bW a,US,UP,YW,UL,aF,g (e.ax.getD i default) (by omega)<|by omega,aj,fz (show i<=2^62 by omega),UR,UK]
     exact b (i+1) (by omega) (by omega)
    ·simp only[a,UP,UN,UK]
  exact c n 0 (by omega) (by omega)
open Go Go.Ab Go.Proofs Tryz
def mc(c:UInt8):Bool:=decide (48<=c.toNat)&&decide (c.toNat<=57)
def val(u:Nat)(l:UB):Nat:=l.foldl (λu c=>u*10+(c.toNat-48)) u
def Q6(u:Nat):val u []=u:=rfl
def Q7(u:Nat)(c:UInt8)(l:UB):val u (c::l)=val (u*10+(c.toNat-48)) l:=by unfold val;rw[yA]
def au7(l:UB):∀(u:Nat),u<=val u l:=by
 induction l with
 |nil=>intro u;simp only[Q6,fS]
 |cons c l b=>
  intro u;rw[Q7];have a:u<=u*10+(c.toNat-48):=by omega
  exact xb a (b _)
def xT(c:UInt8):mc c=true↔48<=c.toNat/\c.toNat<=57:=by simp[mc]
def au8(l:UB):∀u,l.all mc=true->Lib.parseUintM 18446744073709551615 u l=(if val u l<=2^64-1 then .ok (val u l)else .range)\/18446744073709551615<u:=by
 induction l with
 |nil=>
  intro u _;by_cases h:u<=2^64-1
  ·left;rw[Q6,eI h];rfl
  ·right;omega
 |cons c l f=>
  intro u h;simp only[ny,cb,xT]at h;left
  rw[Q7];simp only[Lib.parseUintM,h.1,tz,U3];have e:=au7 l<|u*10+(c.toNat-48);have d:=f (u*10+(c.toNat-48)) h.2;generalize val (u*10+(c.toNat-48)) l=w at e d ⊢
  by_cases b:1844674407370955162<=u
  ·rw[eI b,de<|by omega]
  ·rw[de b];by_cases a:18446744073709551615<u*10+(c.toNat-48)
   ·rw[eI a,de<|by omega]
   ·rw[de a];rcases d with ah|ah
    ·exact ah
    ·exact absurd ah a
def rn(w:UB):Int×Int:=
 if w.all mc=true/\(w.head? ≠ some 48\/w.length=1) then
  if val 0 w<=2^63-1 then(((val 0 w:Nat):Int),0) else(0,3)
 else(0,5)
def aiN(c:UInt8)(l:UB)(h:(c::l).all mc=true):GT (c::l)=if val 0 (c::l)<=2^63-1 then .inl (val 0 (c::l):Nat)else .inr 9223372036854775807:=by
 have g:48<=c.toNat/\c.toNat<=57:=by
  simp only[ny,cb,xT]at h;exact h.1
 have a:Lib.parseIntB 64 (c::l)=_:=Lib.parseIntB_plain 64 c l (by omega) (by omega)
 have e:Lib.parseUintB 64 (c::l)=(if val 0 (c::l)<=2^64-1 then .ok (val 0<|c::l)else .range):=by
  unfold Lib.parseUintB;rw[de<|by simp]
  rcases au8 (c::l) 0 h with ah|ah
  ·exact ah
  ·omega
 have f:Lib.intSat 64 (c::l)=9223372036854775807:=by rw[Lib.intSat_other 64 c l<|by omega];rfl
 rw[e]at a;unfold GT;rw[a,f];by_cases d:val 0 (c::l)<=2^64-1
 ·rw[eI d];by_cases b:val 0 (c::l)<=2^63-1
  ·rw[eI b];simp only[Lib.signlessC];rw[de<|by omega]
  ·rw[de b];simp only[Lib.signlessC];rw[eI<|by omega]
 ·rw[de d,de<|by omega];rfl
open Go Go.Ab Go.Proofs Tryz
def dl(l:UB):Nat:=(l.takeWhile mc).length
def Z6(c:UInt8)(l:UB):dl (c::l)=bif mc c then dl l+1 else 0:=by
 unfold dl;cases h:mc c<;>simp[List.takeWhile,h]
def au9(l:UB):dl l<=l.length:=by unfold dl;exact(List.takeWhile_prefix _).length_le
def aiO(l:UB):dl l=l.length↔l.all mc=true:=by
 induction l with
 |nil=>simp[dl]
 |cons c l a=>
  rw[Z6];cases h:mc c
  ·simp[h]
  ·simp[h,a]
def au'(n:Nat)(s:UB)(b:Bool)(c:s.length<=2^62):∀m i,s.length<i+m->i<=s.length->Dd n s s b m (i:Int)=HR n s s b ((i+dl (s.drop i):Nat):Int):=by
 intro m;induction m with
 |zero=>intro i h f;omega
 |succ m a=>
  intro i d e;simp only[Dd,V7];by_cases h:i<s.length
  ·rw[gl s i 0 h,fz<|by omega,a (i+1) (by omega)<|by omega,Z6]
   simp only[h,bW h,US,UP,YW,UL,aF,ug,mH,ew];rw[show(decide (48<=(s.getD i 0).toNat)&&decide ((s.getD i 0).toNat<=57))=mc (s.getD i 0)from rfl]
   cases mc (s.getD i 0)
   ·rfl
   ·simp only[UL];rw[show i+1+dl (s.drop<|i+1)=i+(dl (s.drop<|i+1)+1)by omega]
  ·rw[i_ s i h];simp only[h,UP,UN,UK];rfl
def au_{n:Nat}{s:UB}(h:s.length<=2^48):Cp n s 10 64=some (GT s):=by
 unfold Cp;rw[fp (show(10:Int)=10/\(64:Int)=64/\s.length<=2^48 from⟨rfl,rfl,h⟩)]
 rfl
def ava{n:Nat}(c:UInt8)(l:UB)(h:l.length+1<n)(r:l.length+1<=2^47-4096)(o:mc c=true):NW n (c::l)=some (rn<|c::l):=by
 have q:=(xT c).1 o;have d:¬ c.toNat=45:=by omega
 unfold NW NV
 have k:(bif (decide<|0<(((c::l).length:Nat):Int)) then(decide<|((((c::l).getD 0 0).toNat:Nat):Int)=45)else false)=false:=by
  simp only[lD,hM,d,UN];cases decide (0<(((c::l).length:Nat):Int))<;>rfl
 have f:(!(decide<|(0:Int)<(((c::l).length:Nat):Int))||aP 0 (c::l).length)=true:=by rw[ql (show 0<(c::l).length by simp)];simp only[U4]
 have g:=au' n (c::l) false (by simp only[UT];omega) n 0 (by simp only[UT];omega) (by omega)
 have g:Dd n (c::l) (c::l) false n 0=_:=g;rw[k,f,g];simp only[aF,UK,gj,mE];have s:1<=dl (c::l):=by rw[Z6,o];simp
 have hlen:(c::l).length=l.length+1:=rfl;have p:=au9<|c::l;unfold HR;simp only[ql (show 0<(c::l).length by simp),U4,aF,hM,show¬ dl (c::l)=0 by omega,UN,UK,UP,lD,fq,dU]
 unfold rn;by_cases a:(c::l).all mc=true
 ·have hd:=(aiO _).2 a;simp only[hd,hS,UN,jJ,a,kY];by_cases m:c=48
  ·subst m;by_cases i:l=[]
   ·subst i;simp only[List.head?_cons,UT,UU];rw[eI<|by simp]
    simp only[Cp,aiN _ _ a];rw[eI<|by decide]
    rfl
   ·have:1<((48::l:UB)).length:=by
     cases l with
     |nil=>exact absurd rfl i
     |cons _ _=>simp
    simp only[this,YW,UL];rw[de<|by simp[i]]
    rfl
  ·have j:¬ c.toNat=48:=λe=>m<|xa.1 e
   simp only[j,UN,UK];rw[eI (show(c::l).head? ≠ some 48\/(c::l).length=1 from kP (by simpa using m))]
   rw[au_ (by simp only[UT];omega),aiN _ _ a]
   by_cases b:val 0 (c::l)<=2^63-1
   ·rw[eI b,eI b];rfl
   ·rw[de b,de b];rfl
 ·have hd:dl (c::l)<(c::l).length:=by
   have:¬ dl (c::l)=(c::l).length:=λe=>a<|(aiO _).1 e
   omega
  simp only[hd,YW,kI,UL];rw[de<|λx=>a x.1]
def nb(w:UB):Bm×Int:=
 match w with
 |[]=>(⟨0,[],0,0⟩,0)
 |c::_=>
  if nH c=true then
   if xQ w=true then(⟨2,w,0,0⟩,0)else if hl w=true then(⟨1,w,0,0⟩,0) else(⟨0,[],0,0⟩,2)
  else if(rn w).2=0 then(⟨3,[],(rn w).1,0⟩,0) else(⟨0,[],0,0⟩,(rn w).2)
def avd{n:Nat}(c:UInt8)(l:UB)(h:l.length+1<n)(f:l.length+1<=2^47-4096)(a:h7 c=true):NX n (c::l)=some (nb<|c::l):=by
 unfold NX nb;simp only[ql (show 0<(c::l).length by simp),aF,lD,hM,aiK,aj,aiI,EN _ _ (show(c::l).length<=2^47-4096 from f)]
 by_cases b:c.toNat=95
 ·have e:c=95:=xa.1 b;subst e
  have d:rn (95::l)=(0,5):=by
   unfold rn;rw[de<|by simp[show mc 95=false from rfl]]
  simp only[b,YW,UL];rw[de<|by decide,d]
  rfl
 ·simp only[b,UN,UK];cases aa:nH c
  ·have hd:mc c=true:=by
    unfold h7 at a;have a:=ky a;unfold nH at aa;rw[xT];simp only[xW,iv]at aa;omega
   simp only[UK,ava c l h f hd,aj,iO,UY];by_cases g:(rn<|c::l).2=0
   ·simp only[g,YW,UR,UK,U3]
   ·simp only[g,UN,YY,UL,UY]
  ·simp only[UL,U3];cases xQ (c::l)
   ·cases hl (c::l)<;>rfl
   ·rfl
open Go Go.Ab Go.Proofs Tryz
def up(k:Nat):Int ⊕ (UB×Nat)->Int ⊕ (UB×Nat)
 |.inl e=>.inl e
 |.inr p=>.inr (p.1,p.2+k)
def jA:UB->UB->Int ⊕ (UB×Nat)
 |[],acc=>.inl 6
 |[c],acc=>if c.toNat=34 then .inr (acc,1)else if c.toNat=92 then .inl 6 else if okB c=false then .inl 5 else if acc.length=64 then .inl 2 else .inl 6
 |c::d::l,acc=>
  if c.toNat=34 then .inr (acc,1)
  else if c.toNat=92 then
   if d.toNat≠34/\d.toNat≠92 then .inl 5 else if acc.length=64 then .inl 2 else up 2 (jA l<|acc++[d])
  else if okB c=false then .inl 5
  else if acc.length=64 then .inl 2
  else up 1 (jA (d::l)<|acc++[c])
def gu(l:UB):List Int:=l.map λc=>(c.toNat:Int)
def Z8(l:UB):jh (gu l)=l:=by
 unfold jh gu;rw[yi]
 conv=>rhs;rw[<-List.map_id l]
 refine zk λc _=>?_
 simp
def Z9(l:UB):n0 (gu l)=true:=by
 unfold n0 gu;rw[gK];intro x a;obtain⟨c,_,rfl⟩:=jk.1 a;have:=c.toNat_lt
 simp only[cb,fx];omega
def Z'(l:UB):(gu l).length=l.length:=by simp[gu]
def Z_(l:UB)(c:UInt8):gu l++[(c.toNat:Int)]=gu (l++[c]):=by simp[gu]
def J8(z:Int)(i:Nat):Int ⊕ (UB×Nat)->UB×Int×Int
 |.inl e=>([],z,e)
 |.inr p=>(p.1,((i+p.2:Nat):Int),0)
def aiP(z:Int)(i k:Nat)(r:Int ⊕ (UB×Nat)):J8 z i (up k r)=J8 z (i+k) r:=by
 cases r with
 |inl e=>rfl
 |inr p=>simp only[up,J8];rw[show i+(p.2+k)=i+k+p.2 by omega]
def aiQ{k:Nat}(h:k<=65):room k 1=true:=by simp[room];omega
def Q8(c:UInt8)(l acc:UB)(h:c.toNat≠92):jA (c::l) acc=if c.toNat=34 then .inr (acc,1)else if okB c=false then .inl 5 else if acc.length=64 then .inl 2 else up 1 (jA l<|acc++[c]):=by
 cases l with
 |nil=>
  simp only[jA];by_cases a:c.toNat=34
  ·simp only[a,U3]
  ·simp only[a,h,UY,up]
 |cons d l =>
  simp only[jA];by_cases a:c.toNat=34
  ·simp only[a,U3]
  ·simp only[a,h,UY]
def avf{d:UInt8}(h:¬ (d.toNat≠34/\d.toNat≠92)):okB d=true:=by
 unfold okB;simp only[cb,fx];omega
def avg(p:Prop)[Decidable p]:(!decide p)=decide (¬ p):=by by_cases h:p<;>simp[h]
def avh(n:Nat)(s:UB)(hs:s.length<=2^62):∀(m i:Nat) (acc:UB),s.length<i+m->i<=s.length->acc.length<=64->
 Dc n s m (gu acc) (i:Int)=some (J8 0 i<|jA (s.drop i) acc):=by
 intro m;induction m with
 |zero=>intro i acc h h2;omega
 |succ m aE=>
  intro i acc hm hi ha;simp only[Dc,V4,NT,V3,NS];by_cases h:i<s.length
  ·rw[gl s i 0 h,fz<|by omega]
   simp only[h,bW h,US,UP,uc,YW,UL,aF,uf,fq,hM,dU,J3,Z'];generalize hc:s.getD i 0=c
   by_cases oP:c.toNat=34
   ·simp only[oP,YW,UL,Z9,aF,Z8];rw[Q8 c _ _<|by omega,eI oP]
    rfl
   ·by_cases J9:c.toNat=92
    ·simp only[J9,YW,UL,show¬ (92=34)by omega,UN,UK]
     by_cases EL:i+1=s.length
     ·simp only[EL,YW,UL];rw[i_ s s.length<|by omega]
      simp only[jA,oP,UY,J9,U3];rfl
     ·have b':i+1<s.length:=by omega
      rw[gl s (i+1) 0 b',fz<|by omega]
      simp only[EL,UN,UK,bW b',aF];generalize s.getD (i+1) 0=d
      simp only[jA,oP,UY,J9,U3,ew,avg,show¬ (92=34)by omega]
      by_cases hd:d.toNat≠34/\d.toNat≠92
      ·rw[eI hd];simp only[hd.1,hd.2,YW,not_false_eq_true,nG,UL];rfl
      ·rw[de hd];have:(decide (¬ d.toNat=34)&&decide (¬ d.toNat=92))=false:=by rw[<-qm];exact en hd
       simp only[this,UK,avf hd,UR];by_cases J':acc.length=64
       ·simp only[J',YW,UL,U3];rfl
       ·simp only[J',UN,UK,UY,UT,UU,aiQ (show acc.length+(0+1)<=65 by omega),aF,Z_]
        rw[aE (i+1+1) (acc++[d]) (by omega) (by omega) (by simp only[UO,UT,UU];omega),aiP]
    ·simp only[oP,J9,UN,UK];rw[Q8 c _ _ J9,de oP];cases cU:okB c
     ·simp only[YY,UL,U3];rfl
     ·simp only[UR,UK,UY,pf];by_cases J':acc.length=64
      ·simp only[J',YW,UL,U3];rfl
      ·simp only[J',UN,UK,UY,UT,UU,aiQ (show acc.length+(0+1)<=65 by omega),aF,Z_]
       rw[aE (i+1) (acc++[c]) (by omega) (by omega) (by simp only[UO,UT,UU];omega),aiP]
  ·rw[i_ s i h];simp only[h,UP,UN,UK];rfl
def avi{k:Nat}(h:k<=2^63-1):bF k=true:=by simp[bF];omega
open Go Go.Ab Go.Proofs Tryz
def two:List UB:=[[61,61],[33,61],[60,61],[62,61],[43,43]]
def ro:UB:=[40,41,123,125,44,59,58,61,60,62,43,45,42,47,37]
def marks:List UB:=two++ro.map λc=>[c]
def pu(l w:UB):Bool:=decide (w.length<=l.length/\l.take w.length=w)
def n8(l:UB):UB:=(marks.find?<|pu l).getD []
def find_eq{α β:Type}[DecidableEq β](x:β)(p:α->Bool)(f:α->β)(L:List α)(h:∀w,w∈L->p w=decide (x=f w))(b:∀v w,v∈L->w∈L->f v=f w->v=w):
 (∃v,v∈L/\x=f v/\L.find? p=some v)\/((∀v,v∈L->x≠f v)/\L.find? p=none):=by
 cases am:L.find? p with
 |none=>
  right
  rw[List.find?_eq_none]at am;refine⟨λv a e=>am v a ?_,rfl⟩
  rw[h v a];exact fp e
 |some v=>
  left
  have a:=uR am;have:=List.find?_some am
  rw[h v a]at this;exact⟨v,a,ky this,rfl⟩
def avj(a c:UInt8)(t:UB):pu (a::t) [c]=decide (a=c):=by
 unfold pu;rw[decide_eq_decide];simp
def avk(a b:UInt8)(t w:UB)(h:w∈two):pu (a::b::t) w=decide ([a,b]=w):=by
 have:w.length=2:=by
  simp only[two,gh,nj,ri]at h;rcases h with rfl|rfl|rfl|rfl|rfl<;>rfl
 unfold pu;rw[decide_eq_decide,this];simp
def avl(a:UInt8)(w:UB)(h:w∈two):pu [a] w=false:=by
 have:w.length=2:=by
  simp only[two,gh,nj,ri]at h;rcases h with rfl|rfl|rfl|rfl|rfl<;>rfl
 unfold pu;rw[this];simp
def aiR(a:UInt8)(t:UB):((ro.map λc=>[c]).find?<|pu<|a::t).getD []=if a∈ro then[a] else[]:=by
 rw[List.find?_map];have d:((λw=>pu (a::t) w)∘λc=>[c])=λc=>decide (a=c):=by funext c;exact avj a c t
 have d:(pu (a::t)∘λc=>[c])=λc=>decide (a=c):=d
 rw[d];rcases find_eq a (λc=>decide<|a=c) (λc=>c) ro (λ_ _=>rfl) (λ_ _ _ _ e=>e) with⟨v,f,rfl,b⟩|⟨g,b⟩
 ·rw[b,eI f];rfl
 ·rw[b,de λh=>g a h rfl];rfl
def aaa(a b:UInt8)(t:UB):n8 (a::b::t)=if[a,b]∈two then[a,b]else if a∈ro then[a] else[]:=by
 unfold n8 marks;rw[List.find?_append];rcases find_eq [a,b] (pu<|a::b::t) (λc=>c) two (λw f=>avk a b t w f) (λ_ _ _ _ e=>e) with⟨v,g,rfl,d⟩|⟨h,d⟩
 ·rw[d,eI g];rfl
 ·rw[d,de λi=>h _ i rfl]
  exact aiR a (b::t)
def aiS(a:UInt8):n8 [a]=if a∈ro then[a] else[]:=by
 unfold n8 marks;rw[List.find?_append]
 have:two.find? (pu [a])=none:=by
  rw[List.find?_eq_none];intro w b;rw[avl a w b];exact Bool.false_ne_true
 rw[this];exact aiR a []
def aiT(a:UInt8):∀l:UB,Lib.indexByte l a = -1/\a∉l\/0<=Lib.indexByte l a/\a∈l
 |[]=>kP ⟨rfl,by simp⟩
 |b::l=>by
  unfold Lib.indexByte;by_cases h:b=a
  ·subst h;right;simp
  ·have f:(b == a)=false:=by simp[h]
   rw[f];simp only[iO,UY];rcases aiT a l with⟨d,c⟩|⟨d,c⟩
   ·left
    rw[d];refine⟨rfl,?_⟩
    simp only[gh,xn];exact⟨λe=>h e.symm,c⟩
   ·right
    have:(Lib.indexByte l a == -1)=false:=by
     simp only[beq_eq_false_iff_ne,ne_eq];omega
    rw[this];simp only[iO,UY];exact⟨by omega,qg _ c⟩
def avm(a:UInt8):((a.toNat:Int)).toNat.toUInt8=a:=by
 (simp only[US]);exact UInt8.ofNat_toNat
def aiU(n:Nat)(a:UInt8)(t:UB):HQ n (a::t)=some (if a∈ro then[a] else[]):=by
 unfold HQ V6 MB;simp only[reduceCtorEq,UN,YY,ql (show 0<(a::t).length by simp),U4,aF,UL,aj,lD,avm]
 rw[show[40,41,123,125,44,59,58,61,60,62,43,45,42,47,37]=ro from rfl]
 rcases aiT a ro with⟨c,b⟩|⟨c,b⟩
 ·rw[c,de b];rfl
 ·rw[eI b];have d:hB 1 (a::t).length=true:=AM (i:=1) (show 1<=(a::t).length by simp)
  simp only[c,YW,UL,d,aF,pk,qj]
def avn(n:Nat)(a:UInt8)(t:UB):NU n (a::t)=some (n8<|a::t):=by
 unfold NU;cases t with
 |nil=>
  rw[aiS];exact aiU n a []
 |cons b t=>
  rw[aaa];have d:decide ((2:Int)<=(((a::b::t).length:Nat):Int))=true:=fp (by simp only[UT];omega)
  have c:hB 2 (a::b::t).length=true:=AM (i:=2) (show 2<=(a::b::t).length by simp)
  simp only[d,UL,c,aF,zL,aiU];rw[show(a::b::t).take 2=[a,b]from rfl]
  generalize [a,b]=w
  by_cases h:w∈two
  ·rw[eI h];simp only[two,gh,nj,ri]at h;rcases h with rfl|rfl|rfl|rfl|rfl<;>rfl
  ·rw[de h];simp only[two,gh,nj,ri,xn]at h;simp only[h,UN,UK]
def avo(w:UB)(h:w∈marks):1<=w.length/\w.length<=2:=by
 have:∀w,w∈marks->decide (1<=w.length/\w.length<=2)=true:=by decide
 exact ky (this w h)
open Go Go.Ab Go.Proofs Tryz
def EP:Int ⊕ (UB×Nat)->Bm×Nat×Int
 |.inl e=>(⟨4,[],0,0⟩,0,e)
 |.inr p=>(⟨4,p.1,0,0⟩,p.2+1,0)
def kO(l:UB):Bm×Nat×Int:=
 match l with
 |[]=>(⟨0,[],0,0⟩,0,0)
 |c::t=>
  if h7 c=true then((nb<|(c::t).take<|jj<|c::t).1,jj<|c::t,(nb<|(c::t).take<|jj<|c::t).2)
  else if c.toNat=34 then EP (jA t [])
  else if n8 (c::t)=[] then(⟨0,[],0,0⟩,0,5) else(⟨5,n8<|c::t,0,0⟩,(n8<|c::t).length,0)
def aab:∀(l a:UB) (e:Int),jA l a = .inl e->e≠0
 |[],a,e,h=>by simp only[jA,Sum.inl.injEq]at h;omega
 |[c],a,e,h=>by
  simp only[jA]at h
  (repeat' split at h)<;>simp only[reduceCtorEq,Sum.inl.injEq]at h<;>omega
 |c::d::l,a,e,h=>by
  simp only[jA]at h;split at h
  ·cases h
  ·split at h
   ·split at h
    ·simp only[Sum.inl.injEq]at h;omega
    ·split at h
     ·simp only[Sum.inl.injEq]at h;omega
     ·cases am:jA l (a++[d]) with
      |inl b=>rw[am]at h;simp only[up,Sum.inl.injEq]at h;subst h;exact aab l _ _ am
      |inr p=>rw[am]at h;cases h
   ·split at h
    ·simp only[Sum.inl.injEq]at h;omega
    ·split at h
     ·simp only[Sum.inl.injEq]at h;omega
     ·cases am:jA (d::l) (a++[c]) with
      |inl b=>rw[am]at h;simp only[up,Sum.inl.injEq]at h;subst h;exact aab (d::l) _ _ am
      |inr p=>rw[am]at h;cases h
def aac:∀(l a:UB) (p:UB×Nat),jA l a = .inr p->1<=p.2/\p.2<=l.length/\p.1.length<=a.length+p.2
 |[],a,e,h=>by simp only[jA,reduceCtorEq]at h
 |[c],a,p,h=>by
  simp only[jA]at h;split at h
  ·simp only[Sum.inr.injEq]at h;subst h;simp
  ·(repeat' split at h)<;>simp only[reduceCtorEq]at h
 |c::d::l,a,p,h=>by
  simp only[jA]at h;split at h
  ·simp only[Sum.inr.injEq]at h;subst h;simp
  ·split at h
   ·split at h
    ·simp only[reduceCtorEq]at h
    ·split at h
     ·simp only[reduceCtorEq]at h
     ·cases am:jA l (a++[d]) with
      |inl b=>rw[am]at h;simp only[up,reduceCtorEq]at h
      |inr q=>
       rw[am]at h;simp only[up,Sum.inr.injEq]at h;subst h;have:=aac l _ _ am
       simp only[UO,UT,UU]at this ⊢;omega
   ·split at h
    ·simp only[reduceCtorEq]at h
    ·split at h
     ·simp only[reduceCtorEq]at h
     ·cases am:jA (d::l) (a++[c]) with
      |inl b=>rw[am]at h;simp only[up,reduceCtorEq]at h
      |inr q=>
       rw[am]at h;simp only[up,Sum.inr.injEq]at h;subst h;have:=aac (d::l) _ _ am
       simp only[UO,UT,UU]at this ⊢;omega
def avp(l:UB):n8 l=[]\/(1<=(n8 l).length/\(n8 l).length<=l.length):=by
 unfold n8;cases h:marks.find? (pu l) with
 |none=>left;rfl
 |some w=>
  right
  have b:=avo w<|uR h;have a:=List.find?_some h;have:=(ky a).1
  exact⟨b.1,this⟩
def avq(w:UB):(nb w).1.Text.length<=w.length:=by
 cases w with
 |nil=>simp[nb]
 |cons c l=>
  unfold nb;simp only
  (repeat' split)<;>simp
def avr(l:UB)(g:l≠[])(h:(kO l).2.2=0):1<=(kO l).2.1/\(kO l).2.1<=l.length/\(kO l).1.Text.length<=(kO l).2.1:=by
 cases l with
 |nil=>exact absurd rfl g
 |cons c t=>
  unfold kO at h ⊢;simp only at h ⊢
  split at h
  ·rename_i a;rw[eI a];simp only
   have f:=Z4<|c::t;refine⟨by rw[xR,a];simp,f,?_⟩
   refine xb (avq _) ?_;simp only[jF];omega
  ·rename_i a;rw[de a];split at h
   ·rename_i b;rw[eI b];cases am:jA t [] with
    |inl e=>rw[am]at h;exact absurd h<|aab t [] e am
    |inr p=>
     have:=aac t [] p am
     simp only[EP,UT,UU]at this ⊢;omega
   ·rename_i b;rw[de b];split at h
    ·simp only at h;omega
    ·rename_i d;rw[de d];have:=(avp<|c::t).resolve_left d
     simp only
     exact⟨this.1,this.2,fS _⟩
def avs(c:UInt8)(t:UB)(h:h7 c=true):∃k,jj (c::t)=k+1/\(c::t).take (jj<|c::t)=c::t.take k/\k<=t.length:=by
 refine⟨jj t,by rw[xR,h];rfl,by rw[xR,h];rfl,Z4 t⟩
def avt{n:Nat}(c:UInt8)(t:UB)(h:t.length+1<n)(d:t.length+1<=2^47-4096):
 HS n (c::t)=some ((kO<|c::t).1,(((kO<|c::t).2.1:Nat):Int),(kO<|c::t).2.2):=by
 unfold HS;rw[aiL n (c::t) d,aj];unfold kO;simp only
 cases hw:h7 c
 ·have f:jj (c::t)=0:=by rw[xR,hw];rfl
  rw[f];simp only[show decide ((0:Int)<((0:Nat):Int))=false from rfl,UK,ql (show 0<(c::t).length by simp),aF,lD,hM,iO,UY]
  by_cases a:c.toNat=34
  ·rw[eI a];simp only[a,YW,UL];unfold V5;have:=avh n (c::t) (by simp only[UT];omega) n 1 [] (by simp only[UT];omega) (by simp) (by simp)
   rw[show Dc n (c::t) n [] 1=_ from this,zP,gj]
   cases jA t [] with
   |inl e=>rfl
   |inr p=>simp only[J8,EP,aj];rw[wa 1 p.2]
  ·rw[de a];simp only[a,UN,UK,avn,aj];by_cases b:n8 (c::t)=[]
   ·rw[eI b];simp only[b,YW,UL];rfl
   ·rw[de b];simp only[b,UN,UK]
 ·let⟨k,i,g,GE⟩:=avs c t hw;rw[eI rfl];simp only[fq,show 0<jj (c::t)by omega,YW,UL,AM<|Z4<|c::t,aF,US]
  rw[g,avd c (t.take k) (by simp only[jF];omega) (by simp only[jF];omega) hw]
  rfl
open Go Go.Ab Go.Proofs Tryz
def fd(s:UB)(i:Nat):Nat:=(s.take i).count 10
open Go Go.Ab Go.Proofs Tryz
def pw:List Bm->Nat
 |[]=>0
 |t::l=>60+t.Text.length+pw l
def aiV:∀l m:List Bm,pw (l++m)=pw l+pw m
 |[],m=>by simp[pw]
 |t::l,m=>by rw[gk,pw,pw,aiV l m];omega
def aad:∀l:List Bm,60*l.length<=pw l
 |[]=>fS _
 |t::l=>by have:=aad l;simp only[pw,UT];omega
def clone{n:Nat}{s:UB}(h:s.length<=2^48):NY n s=some s:=by
 unfold NY MA;simp only[h,YW,aF,aj]
def avu{k:Nat}(h:k<=1000000000000):room k 40=true:=by simp[room];omega
def avv(s:UB)(f:Int)(e:s≠[])(h:(kO s).2.2=0):(kO s).1.Cc=5->(kO s).1.Text∈marks:=by
 cases s with
 |nil=>exact absurd rfl e
 |cons c t=>
  unfold kO at h ⊢;simp only at h ⊢
  split
  ·intro a;exfalso
   revert a
   generalize (c::t).take (jj<|c::t)=w
   cases w with
   |nil=>intro a;simp[nb]at a
   |cons d w=>
    unfold nb;simp only
    (repeat' split)<;>(intro a;simp at a)
  ·split
   ·cases jA t []<;>(intro a;exfalso;simp[EP]at a)
   ·split
    ·rename_i b;intro a;exfalso;simp at a
    ·rename_i b;intro _;simp only
     unfold n8 at b ⊢;cases am:marks.find? (pu<|c::t) with
     |none=>rw[am]at b;exact absurd rfl b
     |some w=>exact uR am
def avw(s:UB):iH (kO s).1.N=0:=by
 cases s with
 |nil=>rfl
 |cons c t=>
  unfold kO;simp only
  split
  ·simp only
   generalize (c::t).take (jj<|c::t)=w
   cases w with
   |nil=>rfl
   |cons d w=>
    unfold nb rn;simp only
    (repeat' split)<;>first|rfl|exact Z5 (by simp only;omega)
  ·split
   ·unfold EP;split<;>rfl
   ·split<;>rfl
open Go Go.Ab Go.Proofs Tryz
def iD(l:List Bm)(i:Nat)(w:UB):Bool:=
 decide (i<l.length)&&((decide ((l.getD i default).Cc=2)||decide ((l.getD i default).Cc=5))&&decide ((l.getD i default).Text=w))
def aae{l:List Bm}{i:Nat}{w:UB}(h:iD l i w=true):i<l.length:=by
 unfold iD at h;simp only[cb,fx]at h;exact h.1
def AN(n:Nat)(l:List Bm)(i:Nat)(w:UB):xh n w ⟨l,(i:Int)⟩=some (iD l i w):=by
 unfold xh iD;simp only[US,vF,dU,ew];by_cases h:i<l.length
 ·simp only[show¬ l.length<=i by omega,UN,UK,bW h,aF,h,YW,iP]
 ·simp only[show l.length<=i by omega,YW,UL,h,UN,jH]
def aiW(l:List Bm)(i:Nat):Int:=
 if i<l.length then(l.getD i default).m5 else if l.length=0 then 1 else(l.getD (l.length-1) default).m5
def eQ(l:List Bm)(i:Nat)(c:Int):V:=.iface 345 (.agg [.int .i64<|aiW l i,.int .i64 c])
def EQ(l:List Bm)(i:Nat)(c:Int):Int:=if i<l.length then c else 6
def Q9(n:Nat)(l:List Bm)(i:Nat)(c:Int)(b:l.length<=2^62):vH n c ⟨l,(i:Int)⟩=some (.bv (eQ l i<|EQ l i c) ()):=by
 unfold vH V' V9 eQ aiW EQ;simp only[US,UP];by_cases h:i<l.length
 ·simp only[h,bW h,YW,UL,aF,U3]
 ·simp only[h,UN,UK,UY];by_cases a:l.length=0
  ·simp only[a,U3];rfl
  ·have:YV ((l.length:Int)-1)=((l.length-1:Nat):Int):=by rw[wr]<;>omega
   rw[this];simp only[hM,a,UN,UK,bW (show l.length-1<l.length by omega),aF,US,UY]
def Ka(n:Nat)(l:List Bm)(i:Nat)(w:UB)(hi:i<=2^62):l5 n w ⟨l,(i:Int)⟩=some (iD l i w,(((bif iD l i w then i+1 else i):Nat):Int)):=by
 unfold l5;rw[AN,aj,fz hi];cases iD l i w<;>rfl
def ER(n:Nat)(l:List Bm)(i:Nat)(w:UB)(hi:i<=2^62)(a:l.length<=2^62):
 l6 n w ⟨l,(i:Int)⟩=some (bif iD l i w then .ret () ((i+1:Nat):Int)else .bv (eQ l i<|EQ l i 5) (i:Int)):=by
 unfold l6;rw[Ka n l i w hi,aj];cases iD l i w
 ·simp only[YY,UL,UK];rw[Q9 n l i 5 a,aj];rfl
 ·rfl
def uh:List (UB×Int×Int):=[([111,114],1,17),([97,110,100],2,16),([61,61],4,10),([33,61],4,11),([60],4,12),([60,61],4,13),([62],4,14),([62,61],4,15),([43,43],5,19),([43],6,4),([45],6,5),([42],7,6),([47],7,7),([37],7,8)]
def Q':Option (UB×Int×Int)->Int×Int
 |none=>(0,0)
 |some r=>r.2
def vY(l:List Bm)(i:Nat):Int×Int:=Q' (uh.find? λr=>iD l i r.1)
def aaf{l:List Bm}{i:Nat}(h:i<l.length)(hk:(l.getD i default).Cc=2\/(l.getD i default).Cc=5)(w:UB):iD l i w=decide ((l.getD i default).Text=w):=by
 unfold iD;have:(decide ((l.getD i default).Cc=2)||decide ((l.getD i default).Cc=5))=true:=by rcases hk with hk|hk<;>rw[fp hk]<;>simp
 rw[this,fp h];rfl
def Q_{l:List Bm}{i:Nat}(h:¬ (i<l.length/\((l.getD i default).Cc=2\/(l.getD i default).Cc=5)))(w:UB):iD l i w=false:=by
 unfold iD;by_cases a:i<l.length
 ·by_cases b:(l.getD i default).Cc=2
  ·exact absurd ⟨a,kP b⟩ h
  ·by_cases c:(l.getD i default).Cc=5
   ·exact absurd ⟨a,iR c⟩ h
   ·rw[en b,en c];simp
 ·rw[en a];rfl
def aag(n:Nat)(l:List Bm)(i:Nat):N1 n ⟨l,(i:Int)⟩=some (vY l i):=by
 unfold N1 vY
 (simp only[US])
 simp only[vF,ew];by_cases h:i<l.length
 ·simp only[show¬ l.length<=i by omega,UN,UK,bW h,aF]
  by_cases hk:(l.getD i default).Cc=2\/(l.getD i default).Cc=5
  ·have a:((!decide ((l.getD i default).Cc=2)) && !decide ((l.getD i default).Cc=5))=false:=by
    rcases hk with hk|hk<;>rw[fp hk]<;>simp
   rw[a];simp only[UK,aaf h hk];generalize (l.getD i default).Text=w
   by_cases b:w∈uh.map (·.1)
   ·simp only[uh,kz,rf,gh,nj,ri]at b;rcases b with rfl|rfl|rfl|rfl|rfl|rfl|rfl|rfl|rfl|rfl|rfl|rfl|rfl|rfl<;>rfl
   ·simp only[uh,kz,rf,gh,nj,ri,xn]at b;simp only[b,UN,UK,uh,vQ,wb];rfl
  ·have a:((!decide ((l.getD i default).Cc=2)) && !decide ((l.getD i default).Cc=5))=true:=by
    simp only[xn]at hk;rw[en hk.1,en hk.2];rfl
   rw[a];simp only[UL,Q_<|λx=>hk x.2,uh,vQ,wb]
   rfl
 ·simp only[show l.length<=i by omega,YW,UL,Q_<|λx=>h x.1,uh,vQ,wb]
  rfl
open Go Go.Ab Go.Proofs Tryz
def sI:List (UB×Int):=[([116,101,120,116],20),([108,101,110],21),([103,101,116,105,110,116],22),([103,101,116,115,116,114],23),([104,97,115],24),([110,111,119],25),([114,97,110,100,111,109],26),([110,111,100,101],27)]
def call2:Option (UB×Int)->Int
 |none=>0
 |some r=>r.2
def Ra(l:List Bm)(i:Nat):Int:=call2 (sI.find? λr=>iD l i r.1)
def mJ(l:List Bm):Prop:=∀t,t∈l->(t.Cc=5->t.Text∈marks)/\iH t.N=0
def aah(n:Nat)(l:List Bm)(i:Nat)(f:mJ l):N3 n ⟨l,(i:Int)⟩=some (Ra l i):=by
 unfold N3 Ra
 (simp only[US])
 simp only[vF,dU];by_cases h:i<l.length
 ·simp only[show¬ l.length<=i by omega,UN,jJ,bW h,aF]
  by_cases b:(l.getD i default).Cc=2
  ·simp only[b,YW,UR,UK,aaf h<|kP b];generalize (l.getD i default).Text=w
   by_cases a:w∈sI.map (·.1)
   ·simp only[sI,kz,rf,gh,nj,ri]at a;rcases a with rfl|rfl|rfl|rfl|rfl|rfl|rfl|rfl<;>rfl
   ·simp only[sI,kz,rf,gh,nj,ri,xn]at a;simp only[a,UN,UK,sI,vQ,wb];rfl
  ·simp only[b,UN,YY,UL];by_cases c:(l.getD i default).Cc=5
   ·have d:(l.getD i default).Text∈marks:=(f _<|by simp[List.getD,h]).1 c
    simp only[aaf h<|iR c];generalize (l.getD i default).Text=w at d
    have:∀w,w∈marks->sI.find? (λr=>decide<|w=r.1)=none:=by decide
    rw[this w d];rfl
   ·have:∀w,iD l i w=false:=Q_ (λx=>by rcases x.2 with e|e;exact b e;exact c e)
    simp only[this,sI,vQ,wb];rfl
 ·simp only[show l.length<=i by omega,YW,kI,aF,UL,Q_<|λx=>h x.1,sI,vQ,wb]
  rfl
def aai(n:Nat)(l:List Bm)(i d:Nat)(a:l.length<=2^62)(hd:d<=24):De n (d:Int) ⟨l,(i:Int)⟩=some (if d=24 then .bv (eQ l i<|EQ l i 2) ()else .ret ((d+1:Nat):Int) ()):=by
 unfold De N2;simp only[ug];by_cases h:d=24
 ·simp only[show 24<=d by omega,YW,UL,Q9 n l i 2 a,aj,h,U3];rfl
 ·simp only[show¬ 24<=d by omega,UN,UK,h,UY]
  rw[fz<|by omega]
open Go Go.Ab Go.Proofs Tryz
def Kb(n:Nat):iZ (n+1)=xi n (iZ n) (qa n) (oI n) (qb n):=rfl
def avx(n:Nat):qa (n+1)=N5 n (iZ n) (qa n) (oI n) (qb n):=rfl
def avy(n:Nat):oI (n+1)=N7 n (iZ n) (qa n) (oI n) (qb n):=rfl
def avz(n:Nat):qb (n+1)=N8 n (iZ n) (qa n) (oI n) (qb n):=rfl
section
variable {l:List Bm}
def aiX{i:Nat}(h:i<=1000000000):YV (((i+1:Nat):Int)-1)=(i:Int):=by rw[wr]<;>omega
end
open Go Go.Ab Go.Proofs Tryz
def aDo(e:Bi):⟨e.Op,e.N,e.S,e.ax⟩=e:=by cases e;rfl
section
variable {l:List Bm}
end
open Go Go.Ab Go.Proofs Tryz
open Go Go.Ab Go.Proofs Tryz
def avA(n:Nat)(l:List Bm)(i:Nat)(kd:Int)(b:l.length<=1000000000)(hi:i<=l.length):
 sm n kd ⟨l,(i:Int)⟩=some (if i<l.length/\(l.getD i default).Cc=kd then .ret (l.getD i default) ((i+1:Nat):Int)else .bv (eQ l i<|EQ l i 5) (i:Int)):=by
 unfold sm N9
 (rw[fz<|by omega,aiX<|by omega];simp only[US])
 simp only[vF,dU];by_cases h:i<l.length
 ·simp only[show¬ l.length<=i by omega,UN,jJ,bW h,aF,h,kY]
  by_cases a:(l.getD i default).Cc=kd
  ·rw[eI a];simp only[a,YW,UR,UK]
  ·rw[de a];simp only[a,UN,YY,UL,Q9 n l i 5<|by omega,aj,aG.on]
 ·rw[de<|λx=>h x.1]
  simp only[show l.length<=i by omega,YW,kI,aF,UL,Q9 n l i 5<|by omega,aj,aG.on]
section
variable {α:Type} {a:α->Nat} {l:List Bm}
end
mutual
def fst:Bj->Nat
 |⟨_,BY,Max,A,B,BZ,a⟩=>80+BY.length+iH Max+dD A+dD B+dV BZ+dV a
def dV:List Bj->Nat
 |[]=>0
 |x::l=>fst x+1+dV l
end
def aDp(s:Bj):⟨s.Op,s.BY,s.Max,s.A,s.B,s.BZ,s.b0⟩=s:=by cases s;rfl
def fst_eq(s:Bj):fst s=80+s.BY.length+iH s.Max+dD s.A+dD s.B+dV s.BZ+dV s.b0:=by cases s;rfl
def aaj:∀l m:List Bj,dV (l++m)=dV l+dV m
 |[],m=>by simp[dV]
 |x::l,m=>by rw[gk,dV,dV,aaj l m];omega
def vZ:∀l:List Bj,80*l.length<=dV l
 |[]=>fS _
 |x::l=>by have:=vZ l;have:=fst_eq x;simp only[dV,UT];omega
def avB(n:Nat)(s:Bj)(l:List Bm)(i:Nat)(hi:i<=2^62)(a:l.length<=2^62):
 tS n s ⟨l,(i:Int)⟩=some (bif iD l i [59]then .ret s ((i+1:Nat):Int)else .bv (eQ l i<|EQ l i 5) (i:Int)):=by
 unfold tS;rw[ER n l i _ hi a];cases iD l i [59]
 ·rfl
 ·simp only[aj,UL,aG.on]
open Go Go.Ab Go.Proofs Tryz
def avC(n:Nat):tV (n+1)=Oa n (tV n) (zX n) (Dh n):=rfl
def v7(n:Nat):zX (n+1)=q_ n (tV n) (zX n) (Dh n):=rfl
def avD(n:Nat):Dh (n+1)=Og n (tV n) (zX n) (Dh n):=rfl
section
variable {l:List Bm}
def avE{k:Nat}(h:k<=100000000000):room k 192=true:=by simp[room];omega
end
open Go Go.Ab Go.Proofs Tryz
section
variable {l:List Bm}
end
open Go Go.Ab Go.Proofs Tryz
section
variable {l:List Bm}
end
open Go Go.Ab Go.Proofs Tryz
section
variable {l:List Bm}
end
open Go Go.Ab Go.Proofs Tryz
section
variable {l:List Bm}
def aiY{k:Nat}(h:k<=100000000000):room k 24=true:=by simp[room];omega
end
open Go Go.Ab Go.Proofs Tryz
def ja:List BM->Nat
 |[]=>0
 |p::l=>60+p.BY.length+ja l
def ES:∀l:List BM,60*l.length<=ja l
 |[]=>fS _
 |t::l=>by have:=ES l;simp only[ja,UT];omega
section
variable {l:List Bm}
def avF(p:bk):Nat:=p.BY.length+ja p.Cq+dV p.BZ
end
open Go Go.Ab Go.Proofs Tryz
mutual
def h9:Bi->Int->Int
 |⟨Op,N,S,a⟩,d=>if rm ⟨Op,N,S,a⟩ d=0 then v8 a (YV<|d+1)else rm ⟨Op,N,S,a⟩ d
def v8:List Bi->Int->Int
 |[],d=>0
 |x::l,d=>if h9 x d=0 then v8 l d else h9 x d
end
def aiZ(e:Bi)(d:Int):h9 e d=if rm e d=0 then v8 e.ax (YV<|d+1)else rm e d:=by cases e;rfl
def ai0:∀(n:Nat) (e:Bi) (d:Int),dD e<=n->dD e<=2^47-4096->CF n e d=some (h9 e d)/\D0 n e d=some (h9 e d):=by
 intro n;induction n with
 |zero=>intro e d h;rw[sH]at h;omega
 |succ n q=>
  intro e d h w;have s:=sH e;have t:=J5 e.ax;simp only[CF,D0,ap0,Yc];rw[au5 e d (by omega)<|by omega,au6 e d (by omega) (by omega)<|by omega,aiZ]
  simp only[aj];by_cases b:rm e d=0
  ·rw[eI b];simp only[b,YW,UR,UK]
   have l:∀m i,e.ax.length<i+m->i<=e.ax.length->G' n (CF n) d e m (i:Int)=some (v8 (e.ax.drop i)<|YV<|d+1)/\IL n (D0 n) d e m (i:Int)=some (v8 (e.ax.drop i)<|YV<|d+1):=by
    intro m;induction m with
    |zero=>intro i p o;omega
    |succ m g=>
     intro i p o;simp only[G',U',at',IL,Yb,Ya];by_cases a:i<e.ax.length
     ·have u:=J6 e.ax i a;let⟨j,k⟩:=q (e.ax.getD i default) (YV<|d+1) (by omega) (by omega)
      let⟨f,r⟩:=g (i+1) (by omega) (by omega)
      (rw[gl e.ax i default a,fz<|by omega];simp only[US];rw[j,k,f,r])
      simp only[a,bW a,UP,YW,UL,aF,aj,v8];by_cases c:h9 (e.ax.getD i default) (YV<|d+1)=0
      ·simp only[c,YW,UR,UK,U3,tz]
      ·simp only[c,UN,YY,UL,UY,tz]
     ·rw[i_ e.ax i a];simp only[a,UP,UN,UK,v8,tz]
   exact l n 0 (by omega) (by omega)
  ·rw[de b];simp only[b,UN,YY,UL,tz]
def ai1{n:Nat}(e:Bi)(h:dD e<=n)(a:dD e<=2^47-4096):G_ n e=some (h9 e 1):=by
 simp only[G_,(ai0 n e 1 h a).1,aj]
def ai2{n:Nat}(e:Bi)(h:dD e<=n)(a:dD e<=2^47-4096):IM n e=some (h9 e 1):=by
 simp only[IM,(ai0 n e 1 h a).2,aj]
def oQ(e:Bi):Bool:=decide (e.Op=0)&&decide (e.N=0)&&decide (e.S=[])&&decide (e.ax.length=0)
def ai3(n:Nat)(e:Bi):CG n e=some (oQ e):=by
 simp only[CG,oQ,ew,hM]
def ai4(n:Nat)(e:Bi):vM n e=some (oQ e):=by
 simp only[vM,oQ,ew,hM]
def k8(op:Int):mz×Bool:=
 if op=1\/op=2 then(⟨true,true,false,false,false,false⟩,true)
 else if op=3 then(⟨false,true,true,false,false,false⟩,true)
 else if op=4\/op=7 then(⟨false,true,false,false,false,false⟩,true)
 else if op=5 then(⟨false,true,false,false,true,true⟩,true)
 else if op=6 then(⟨true,true,true,true,true,false⟩,true)
 else if op=8 then(⟨false,false,false,true,false,false⟩,true)
 else(⟨false,false,false,false,false,false⟩,false)
def avG(n:Nat)(op:Int):M0 n op=some (k8 op):=by
 by_cases h:1<=op/\op<=8
 ·obtain rfl|rfl|rfl|rfl|rfl|rfl|rfl|rfl:op=1\/op=2\/op=3\/op=4\/op=5\/op=6\/op=7\/op=8:=by omega
  all_goals rfl
 ·have e:k8 op=(⟨false,false,false,false,false,false⟩,false):=by
   unfold k8;rw[de<|by omega,de<|by omega,de<|by omega,de<|by omega,de<|by omega,de<|by omega]
  rw[e];simp only[M0,MZ,MY,Va,show¬ op=1 by omega,show¬ op=2 by omega,show¬ op=3 by omega,show¬ op=4 by omega,show¬ op=5 by omega,show¬ op=6 by omega,show¬ op=7 by omega,show¬ op=8 by omega,UN,UK]
def avH(n:Nat)(op:Int)(h:1<=op/\op<=8):IN n op=some ((k8 op).1.name,(k8 op).1.max,(k8 op).1.a,(k8 op).1.b,(k8 op).1.body,(k8 op).1.other):=by
 obtain rfl|rfl|rfl|rfl|rfl|rfl|rfl|rfl:op=1\/op=2\/op=3\/op=4\/op=5\/op=6\/op=7\/op=8:=by omega
 all_goals rfl
def avI(n:Nat)(op:Int)(h:¬ (1<=op/\op<=8)):IN n op=some (false,true,false,false,false,false):=by
 simp only[IN,PE,PD,Yd,show¬ op=1 by omega,show¬ op=2 by omega,show¬ op=3 by omega,show¬ op=4 by omega,show¬ op=5 by omega,show¬ op=6 by omega,show¬ op=7 by omega,UN,UK]
def EU(s:Bj)(u:mz):Bool:=
 (!u.name && !decide (s.BY=[]))||(!u.a && !oQ s.A)||(!u.b && !oQ s.B)||(!u.max && !decide (s.Max=0))||(!u.body&&decide (0<s.BZ.length))||(!u.other&&decide (0<s.b0.length))
def ui(s:Bj):Bool:=if s.Op=6 then decide (1<=s.Max)&&decide (s.Max<=16)else if s.Op=8 then decide (0<=s.Max)&&decide (s.Max<=999)else true
def lF(s:Bj)(d:Int):Int:=
 if(k8 s.Op).2=false\/EU s (k8 s.Op).1=true\/ui s=false then 1
 else if(k8 s.Op).1.name=true/\hl s.BY=false then 7
 else if(k8 s.Op).1.a=true/\h9 s.A 1≠0 then h9 s.A 1
 else if(k8 s.Op).1.b=true/\h9 s.B 1≠0 then h9 s.B 1
 else if 12<d then 2 else 0
open Go Go.Ab Go.Proofs Tryz
def avJ(n:Nat)(s:Bj)(u:mz):MX n s u=some (!EU s u&&ui s):=by
 have g:(bif decide (s.Op=6)then some (bif decide (1<=s.Max)then decide (s.Max<=16)else false)else bif decide (s.Op=8)then some (bif decide (0<=s.Max)then decide (s.Max<=999)else false)else some true)=some (ui s):=by
  unfold ui;by_cases d:s.Op=6
  ·simp only[d,YW,UL,U3,ew]
  ·by_cases c:s.Op=8
   ·simp only[c,show¬ (8:Int)=6 by omega,YW,UN,UL,UK,U3,UY,ew]
   ·simp only[d,c,UN,UK,UY]
 unfold MX EU;rw[g];simp only[ai3,ew,dU,fq];generalize decide (s.BY=[])=x
 generalize oQ s.A=y
 generalize oQ s.B=z
 generalize decide (s.Max=0)=w
 generalize decide (0<s.BZ.length)=p
 generalize decide (0<s.b0.length)=q
 generalize ui s=r
 let⟨e,a,b,f,iH,h⟩:=u;cases e<;>cases x<;>cases a<;>cases y<;>cases b<;>cases z<;>simp only[UR,YY,oP,kL,iP,jH,U4,wE,kI,jJ,UL,UK,aj]<;>(cases ((!f && !w)||(!iH&&p)||(!h&&q))<;>simp_all)
def avK{n:Nat}(s:Bj)(d:Int)(aT:dD s.A<=n)(l:dD s.B<=n)(g:dD s.A<=2^47-4096)(j:dD s.B<=2^47-4096)(o:s.BY.length<=2^47-4096):M4 n s d=some (lF s d):=by
 unfold M4 M3 M1 lF;simp only[avG,aj,avJ,EN n s.BY o,ai1 s.A aT g,ai1 s.B l j];generalize (k8 s.Op)=U
 let⟨u,k⟩:=U;let⟨h,a,b,i,iH,p⟩:=u;simp only
 generalize EU s ⟨h,a,b,i,iH,p⟩=m
 generalize ui s=r
 cases k
 ·simp
 ·cases m
  ·cases r
   ·simp
   ·generalize hl s.BY=x
    simp only[UR,YY,UL,UK,aj,iP,oP,pf,iO,or_self,UY];cases h
    ·simp only[UK,aj,iO,xZ,UY];cases a
     ·simp only[UK,iO,xZ,UY];cases b
      ·by_cases c:12<d<;>simp[c]
      ·by_cases e:h9 s.B 1=0<;>by_cases c:12<d<;>simp[e,c]
     ·by_cases f:h9 s.A 1=0
      ·cases b
       ·by_cases c:12<d<;>simp[f,c]
       ·by_cases e:h9 s.B 1=0<;>by_cases c:12<d<;>simp[f,e,c]
      ·simp[f]
    ·cases x
     ·simp
     ·simp only[UL,aj,UR,UK,pf,and_false,UY];cases a
      ·simp only[UK,iO,xZ,UY];cases b
       ·by_cases c:12<d<;>simp[c]
       ·by_cases e:h9 s.B 1=0<;>by_cases c:12<d<;>simp[e,c]
      ·by_cases f:h9 s.A 1=0
       ·cases b
        ·by_cases c:12<d<;>simp[f,c]
        ·by_cases e:h9 s.B 1=0<;>by_cases c:12<d<;>simp[f,e,c]
       ·simp[f]
  ·simp
def avL(s:Bj):((decide (s.Op=6)&&(decide (s.Max<1)||decide (16<s.Max)))||(decide (s.Op=8)&&(decide (s.Max<0)||decide (999<s.Max)))) = !ui s:=by
 unfold ui;by_cases d:s.Op=6
 ·simp only[d,U3,YW,iP,show¬ (6:Int)=8 by omega,UN,jH,wE]
  by_cases a:s.Max<1
  ·simp only[a,show¬ 1<=s.Max by omega,YW,UN,kI,jH,YY]
  ·by_cases b:16<s.Max
   ·simp only[a,b,show¬ s.Max<=16 by omega,YW,UN,U4,kL,YY]
   ·simp only[a,b,show s.Max<=16 by omega,show 1<=s.Max by omega,YW,UN,si,nG,UR]
 ·by_cases c:s.Op=8
  ·simp only[c,show¬ (8:Int)=6 by omega,U3,UY,YW,UN,iP,jH,jJ]
   by_cases a:s.Max<0
   ·simp only[a,show¬ 0<=s.Max by omega,YW,UN,kI,jH,YY]
   ·by_cases b:999<s.Max
    ·simp only[a,b,show¬ s.Max<=999 by omega,YW,UN,U4,kL,YY]
    ·simp only[a,b,show s.Max<=999 by omega,show 0<=s.Max by omega,YW,UN,si,nG,UR]
  ·simp only[d,c,UY,UN,jH,si,UR]
def avM(a y b z c P Q:Bool)(G:Bool->YX):
 (Option.bind (bif (!c && !a)then some y else some default) λd=>Option.bind (bif (!(c||(!a && !d)) && !b)then some z else some default) λe=>G ((((c||(!a && !d))||(!b && !e))||P)||Q))=G ((((c||(!a && !y))||(!b && !z))||P)||Q):=by
 cases c<;>cases a<;>cases y<;>cases b<;>cases z<;>rfl
def avN{n:Nat}(s:Bj)(d:Int)(H:25<n)(aT:dD s.A<=n)(K:dD s.B<=n)(l:dD s.A<=2^47-4096)(F:dD s.B<=2^47-4096)(M:s.BY.length<n)(L:s.BY.length<=2^47-4096):PH n s d=some (lF s d):=by
 unfold PH PG PF lF;by_cases E:1<=s.Op/\s.Op<=8
 ·have j:(
   k8 s.Op).2=true:=by
   have:s.Op=1\/s.Op=2\/s.Op=3\/s.Op=4\/s.Op=5\/s.Op=6\/s.Op=7\/s.Op=8:=by omega
   rcases this with e|e|e|e|e|e|e|e<;>rw[e]<;>rfl
  simp only[avH n s.Op E,aj,ai4,J4 s.BY M H<|by omega,ai2 s.A aT l,ai2 s.B K F,j,show¬ s.Op<1 by omega,show¬ 8<s.Op by omega,UN,UK,ew,dU,si,jJ,avL,fq]
  generalize ui s=r
  unfold EU;generalize (k8 s.Op).1=u
  generalize decide (s.BY=[])=ip
  generalize oQ s.A=y
  generalize oQ s.B=z
  generalize decide (s.Max=0)=w
  generalize decide (0<s.BZ.length)=p
  generalize decide (0<s.b0.length)=q
  generalize hl s.BY=x
  let⟨h,a,b,k,iH,o⟩:=u;simp only
  have t:((!h && !ip)||(!a && !y)||(!b && !z)||(!k && !w)||(!iH&&p)||(!o&&q))=((((((!h && !ip)||(!k && !w))||(!a && !y))||(!b && !z))||(!iH&&p))||(!o&&q)):=by
   generalize (!h && !ip)=c1
   generalize (!k && !w)=c2
   generalize (!a && !y)=c3
   generalize (!b && !z)=c4
   cases c1<;>cases c2<;>cases c3<;>cases c4<;>rfl
  rw[t];clear t;generalize ((!h && !ip)||(!k && !w))=pre
  generalize (!iH&&p)=c1
  generalize (!o&&q)=c2
  refine(avM a y b z pre c1 c2 (λc=>bif c then some 1 else bif !r then some 1 else Option.bind (bif h then some x else some default) λJ=>bif (h && !J)then some 7 else
   bif a then(bif !decide (h9 s.A 1=0)then some (h9 s.A 1)else bif b then(bif !decide (h9 s.B 1=0)then some (h9 s.B 1)else bif decide (12<d)then some 2 else some 0)else bif decide (12<d)then some 2 else some 0)
   else bif b then(bif !decide (h9 s.B 1=0)then some (h9 s.B 1)else bif decide (12<d)then some 2 else some 0)else bif decide (12<d)then some 2 else some 0)).trans ?_
  generalize ((((pre||(!a && !y))||(!b && !z))||c1)||c2)=m
  cases m
  ·cases r
   ·simp
   ·simp only[UR,YY,UL,UK,aj,iP,oP,pf,iO,or_self,UY];cases h
    ·simp only[UK,aj,iO,xZ,UY,jH];cases a
     ·simp only[UK,iO,xZ,UY];cases b
      ·by_cases f:12<d<;>simp[f]
      ·by_cases g:h9 s.B 1=0<;>by_cases f:12<d<;>simp[g,f]
     ·by_cases i:h9 s.A 1=0
      ·cases b
       ·by_cases f:12<d<;>simp[i,f]
       ·by_cases g:h9 s.B 1=0<;>by_cases f:12<d<;>simp[i,g,f]
      ·simp[i]
    ·cases x
     ·simp
     ·simp only[UL,aj,UR,UK,pf,and_false,UY,kL];cases a
      ·simp only[UK,iO,xZ,UY];cases b
       ·by_cases f:12<d<;>simp[f]
       ·by_cases g:h9 s.B 1=0<;>by_cases f:12<d<;>simp[g,f]
      ·by_cases i:h9 s.A 1=0
       ·cases b
        ·by_cases f:12<d<;>simp[i,f]
        ·by_cases g:h9 s.B 1=0<;>by_cases f:12<d<;>simp[i,g,f]
       ·simp[i]
  ·simp
 ·have j:(k8 s.Op).2=false:=by
   unfold k8;rw[de<|by omega,de<|by omega,de<|by omega,de<|by omega,de<|by omega,de<|by omega]
  have g:(decide (s.Op<1)||decide (8<s.Op))=true:=by
   by_cases I:s.Op<1
   ·rw[fp I];rfl
   ·rw[fp (show 8<s.Op by omega)];simp
  simp only[avI n s.Op E,aj,j,g,dU,ew,kI,UR,jH,UK,UL,true_or,U3]
open Go Go.Ab Go.Proofs Tryz
def xU(before:List BM):List BM->Int
 |[]=>0
 |x::l=>if hl x.BY=false then 7 else if x.fT<1\/3<x.fT then 10 else if(before.any λy=>decide<|y.BY=x.BY)=true then 8 else xU (before++[x]) l
def avP(n:Nat)(s:List BM)(b:BM)(g:s.length<=2^62):∀m i,s.length<i+m->i<=s.length->
 ∃r,CC n s b m (i:Int)=some r/\(decide (0<=r)=(s.drop i).any λy=>decide<|y.BY=b.BY):=by
 intro m;induction m with
 |zero=>intro i h d;omega
 |succ m f=>
  intro i j k;simp only[CC,chk,aEi,cs'];by_cases h:i<s.length
  ·let⟨r,e,d⟩:=f (i+1) (by omega) (by omega)
   (rw[gl s i default h,fz<|by omega];simp only[US];rw[e])
   generalize s.getD i default=c
   simp only[h,bW h,UP,YW,UL,aF,aj,List.any_cons];by_cases a:c.BY=b.BY
   ·simp only[a,YW,UL,kI];exact⟨_,rfl,fp<|by omega⟩
   ·simp only[a,UN,UK,jJ];exact⟨r,rfl,d⟩
  ·rw[i_ s i h];simp only[h,UP,UN,UK];exact⟨-1,rfl,rfl⟩
def avQ{n:Nat}(s:List BM)(b:BM)(a:s.length<=2^62)(e:s.length<n):MT n s b=some (s.any λy=>decide<|y.BY=b.BY):=by
 unfold MT aEm;let⟨r,d,c⟩:=avP n s b a n 0 (by omega) (by omega)
 rw[show CC n s b n 0=_ from d,aj,c,gj]
def AP{α:Type}[Inhabited α](l:List α)(i:Nat)(h:i<l.length):l.take (i+1)=l.take i++[l.getD i default]:=by
 rw[xI,gl l i default h,pk,qj]
def aal:∀(l:List BM) (i:Nat),i<l.length->(l.getD i default).BY.length<ja l
 |[],i,h=>by simp at h
 |x::l,0,h=>by simp only[ja,lD];omega
 |x::l,i+1,h=>by have:=aal l i (by simpa using h);simp only[ja,oO];omega
def avR(n:Nat)(l:List BM)(k:ja l<n)(f:ja l<=2^47-4096):∀m i,l.length<i+m->i<=l.length->CD n l m (i:Int)=some (xU (l.take i)<|l.drop i):=by
 have hlen:=ES l;intro m;induction m with
 |zero=>intro i h j;omega
 |succ m d=>
  intro i g a;simp only[CD,zqs,aEl];by_cases h:i<l.length
  ·have b:=aal l i h
   (rw[gl l i default h,fz<|by omega];simp only[US];rw[d (i+1) (by omega)<|by omega,AP l i h])
   generalize l.getD i default=c at b
   rw[EN n c.BY<|by omega,avQ (l.take i) c (by simp;omega) (by simp;omega)]
   simp only[h,bW h,UP,YW,UL,aF,aj,AM a,dU,xU];cases hl c.BY
   ·simp
   ·by_cases az:c.fT<1\/3<c.fT
    ·have:(decide (c.fT<1)||decide (3<c.fT))=true:=by rcases az with az|az<;>rw[fp az]<;>simp
     simp[this,az]
    ·have:(decide (c.fT<1)||decide (3<c.fT))=false:=by rw[en<|λe=>az<|kP e,en<|λe=>az<|iR e];rfl
     rw[this];simp only[UR,UK,pf,UY,az];cases ((l.take i).any λy=>decide<|y.BY=c.BY)<;>rfl
  ·rw[i_ l i h];simp only[h,UP,UN,UK];rfl
def avS(n:Nat)(b:Int->YX)(l:List BM)(i:Nat)(h:i<l.length)(g:l.length<=2^62):∀m k,i<k+m->k<=i->
 DZ n b l (i:Int) m (k:Int)=if(((l.take i).drop k).any λy=>decide<|y.BY=(l.getD i default).BY)=true then some 8 else b ((i+1:Nat):Int):=by
 intro m;induction m with
 |zero=>intro k q p;omega
 |succ m f=>
  intro k j o;simp only[DZ,X7,X6];by_cases d:k<i
  ·have e:(l.take i).drop k=l.getD k default::(l.take i).drop (k+1):=by
    rw[gl (l.take i) k default (by simp;omega)]
    congr 1
    simp[List.getD,d]
   (rw[e,fz<|by omega,f (k+1) (by omega)<|by omega];simp only[US])
   generalize l.getD k default=c
   simp only[d,bW h,bW (show k<l.length by omega),UP,YW,UL,aF,List.any_cons]
   by_cases a:c.BY=(l.getD i default).BY
   ·simp only[a,YW,UL,kI,U3]
   ·simp only[a,UN,UK,jJ]
  ·obtain rfl:k=i:=by omega
   rw[i_ (l.take k) k (by simp;omega),fz<|by omega]
   simp only[UP,hS,UN,UK,List.any_nil,iO,UY]
def avT(n:Nat)(l:List BM)(a:25<n)(p:ja l<n)(g:ja l<=2^47-4096):∀m i,l.length<i+m->i<=l.length->xr n l m (i:Int)=some (xU (l.take i)<|l.drop i):=by
 have hlen:=ES l;intro m;induction m with
 |zero=>intro i h o;omega
 |succ m f=>
  intro i j k;simp only[xr,X8,X5];by_cases h:i<l.length
  ·have b:=aal l i h;have d:=avS n (xr n l m) l i h (by omega) n 0 (by omega) (by omega)
   rw[show DZ n (xr n l m) l (i:Int) n 0=_ from d,gj]
   (rw[gl l i default h];simp only[US];rw[f (i+1) (by omega)<|by omega,AP l i h])
   generalize l.getD i default=c at b
   rw[J4 c.BY (by omega) a<|by omega]
   simp only[h,bW h,UP,YW,UL,aF,aj,U4,dU,xU];cases hl c.BY
   ·simp
   ·by_cases az:c.fT<1\/3<c.fT
    ·have:(decide (c.fT<1)||decide (3<c.fT))=true:=by rcases az with az|az<;>rw[fp az]<;>simp
     simp[this,az]
    ·have:(decide (c.fT<1)||decide (3<c.fT))=false:=by rw[en<|λe=>az<|kP e,en<|λe=>az<|iR e];rfl
     rw[this];simp only[UR,UK,pf,UY,az];cases ((l.take i).any λy=>decide<|y.BY=c.BY)<;>rfl
  ·rw[i_ l i h];simp only[h,UP,UN,UK];rfl
def sJ(l:List BM):Int:=if 6<l.length then 2 else xU [] l
def avU{n:Nat}(l:List BM)(b:ja l<n)(a:ja l<=2^47-4096):MU n l=some (sJ l):=by
 have hlen:=ES l;unfold MU sJ;have:=avR n l b a n 0 (by omega) (by omega)
 rw[show CD n l n 0=_ from this]
 simp only[fq];by_cases h:6<l.length
 ·simp only[h,YW,UL,U3]
 ·simp only[h,UN,UK,UY,qj,gj]
def avV{n:Nat}(l:List BM)(b:25<n)(c:ja l<n)(a:ja l<=2^47-4096):PA n l=some (sJ l):=by
 have hlen:=ES l;unfold PA sJ;have:=avT n l b c a n 0 (by omega) (by omega)
 rw[show xr n l n 0=_ from this]
 simp only[fq];by_cases h:6<l.length
 ·simp only[h,YW,UL,U3]
 ·simp only[h,UN,UK,UY,qj,gj]
open Go Go.Ab Go.Proofs Tryz
mutual
def v':Bi->Nat->Nat
 |⟨_,_,_,a⟩,k=>if k=0 then 0 else sK a (k-1)
def sK:List Bi->Nat->Nat
 |[],k=>k
 |x::l,k=>sK l (v' x k)
end
def ai5(e:Bi)(k:Nat):v' e k=if k=0 then 0 else sK e.ax (k-1):=by cases e;rfl
mutual
def Kc:∀(e:Bi) (k:Nat),v' e k<=k
 |⟨_,_,_,a⟩,k=>by
  have:=aam a<|k-1
  simp only[v'];split<;>omega
def aam:∀(l:List Bi) (k:Nat),sK l k<=k
 |[],k=>fS _
 |x::l,k=>by
  have b:=Kc x k;have a:=aam l<|v' x k;simp only[sK];omega
end
def k9(e:Bi)(k:Nat):Nat:=if k=0\/oQ e=true then k else v' e k
def Rb(e:Bi)(k:Nat):k9 e k<=k:=by unfold k9;split;exact fS _;exact Kc e k
mutual
def sL:Bj->Int->Nat×Int->Nat×Int
 |⟨Op,BY,Max,A,B,BZ,a⟩,d,r=>
  jb a (YV<|d+1) (jb BZ (YV<|d+1) (k9 B<|k9 A<|r.1-1,if r.2=0 then lF ⟨Op,BY,Max,A,B,BZ,a⟩ d else r.2))
def jb:List Bj->Int->Nat×Int->Nat×Int
 |[],d,r=>r
 |s::l,d,r=>if r.1=0 then r else jb l d (sL s d r)
end
def ai6(s:Bj)(d:Int)(r:Nat×Int):sL s d r=jb s.b0 (YV<|d+1) (jb s.BZ (YV<|d+1) (k9 s.B<|k9 s.A<|r.1-1,if r.2=0 then lF s d else r.2)):=by cases s;rfl
mutual
def avW:∀(s:Bj) (d:Int) (r:Nat×Int),(sL s d r).1<=r.1
 |⟨Op,BY,Max,A,B,BZ,a⟩,d,r=>by
  have c:=Rb A<|r.1-1;have b:=Rb B<|k9 A<|r.1-1;have f:=xV BZ (YV<|d+1) (k9 B<|k9 A<|r.1-1,if r.2=0 then lF ⟨Op,BY,Max,A,B,BZ,a⟩ d else r.2)
  have e:=xV a (YV<|d+1)<|jb BZ (YV<|d+1) (k9 B<|k9 A<|r.1-1,if r.2=0 then lF ⟨Op,BY,Max,A,B,BZ,a⟩ d else r.2)
  simp only[sL]at *;omega
def xV:∀(l:List Bj) (d:Int) (r:Nat×Int),(jb l d r).1<=r.1
 |[],d,r=>fS _
 |s::l,d,r=>by
  have b:=avW s d r;have a:=xV l d<|sL s d r;simp only[jb];split
  ·exact fS _
  ·omega
end
def avX:∀(n:Nat) (e:Bi) (k:Nat) (b:Int),dD e<=n->dD e<=2^47-4096->k<=1000->CH n e (k:Int) b=some ((v' e k:Nat):Int):=by
 intro n;induction n with
 |zero=>intro e k b h;rw[sH]at h;omega
 |succ n p=>
  intro e k b h t d;have q:=sH e;have r:=J5 e.ax;simp only[CH,Vd,hM];rw[ai5];by_cases c:k=0
  ·rw[eI c];simp only[c,YW,UL]
  ·rw[de c];simp only[c,UN,UK]
   have j:∀m i k,e.ax.length<i+m->i<=e.ax.length->k<=1000->Ha n (CH n) e b m ((k:Nat):Int) (i:Int)=some ((sK (e.ax.drop i) k:Nat):Int):=by
    intro m;induction m with
    |zero=>intro i k o l;omega
    |succ m f=>
     intro i k o l d;simp only[Ha,Vc];by_cases a:i<e.ax.length
     ·have s:=J6 e.ax i a;have g:=Kc (e.ax.getD i default) k
      (rw[gl e.ax i default a,fz<|by omega];simp only[US];rw[p _ k b (by omega) (by omega) d])
      simp only[a,bW a,UP,YW,UL,aF,aj,sK];exact f (i+1) _ (by omega) (by omega) (by omega)
     ·rw[i_ e.ax i a];simp only[a,UP,UN,UK,sK]
   rw[show YV ((k:Int)-1)=((k-1:Nat):Int)by rw[wr]<;>omega]
   exact j n 0 (k-1) (by omega) (by omega) (by omega)
def ai7{n:Nat}(e:Bi)(k:Nat)(b:Int)(h:dD e<=n)(d:dD e<=2^47-4096)(c:k<=1000):Hb n e (k:Int) b=some ((k9 e k:Nat):Int):=by
 unfold Hb k9 Vb;simp only[ai3,hM,avX n e k b h d c,aj];by_cases a:k=0
 ·simp[a]
 ·cases oQ e<;>simp[a]
open Go Go.Ab Go.Proofs Tryz
def Rc:∀(l:List Bj) (i:Nat),i<l.length->fst (l.getD i default)<dV l
 |[],i,h=>by simp at h
 |x::l,0,h=>by simp only[dV,lD];omega
 |x::l,i+1,h=>by have:=Rc l i (by simpa using h);simp only[dV,oO];omega
def ai8{α β:Type}(x:α×β):(x.1,x.2)=x:=rfl
def avY:∀(n:Nat) (l:List Bj) (d:Int) (k:Nat) (e:Int),dV l+2<=n->dV l<=2^47-4096->k<=1000->
 zo n l d (k:Int) e=some ((((jb l d (k,e)).1:Nat):Int),(jb l d (k,e)).2):=by
 intro n;induction n with
 |zero=>intro l d k e h;omega
 |succ n g=>
  intro l d k e h F b;have y:=vZ l;simp only[zo,Vf]
  have r:∀m i k e,l.length<i+m->i<=l.length->k<=1000->Hc n (zo n) d l m ((k:Nat):Int) e (i:Int)=some ((((jb (l.drop i) d (k,e)).1:Nat):Int),(jb (l.drop i) d (k,e)).2):=by
   intro m;induction m with
   |zero=>intro i k e u t;omega
   |succ m j=>
    intro i k e u t b;simp only[Hc,Ve];by_cases a:i<l.length
    ·have q:=Rc l i a
     (rw[gl l i default a];simp only[US])
     generalize l.getD i default=s at q
     have z:=fst_eq s;rw[fz<|by omega]
     simp only[a,bW a,UP,YW,UL,aF,hM,jb];by_cases f:k=0
     ·simp only[f,YW,UL,U3]
     ·simp only[f,UN,UK,UY]
      have o:M5 n s d e=some (if e=0 then lF s d else e):=by
       unfold M5;simp only[avK s d (show dD s.A<=n by omega) (show dD s.B<=n by omega) (by omega) (by omega)<|by omega,aj]
       by_cases c:e=0
       ·simp only[c,YW,UL,U3]
       ·simp only[c,UN,UK,UY]
      rw[o,aj,show YV ((k:Int)-1)=((k-1:Nat):Int)by rw[wr]<;>omega]
      have E:=Rb s.A<|k-1;have p:=Rb s.B<|k9 s.A<|k-1;rw[ai7 s.A (k-1) _ (by omega) (by omega)<|by omega,aj,ai7 s.B _ _ (by omega) (by omega)<|by omega,aj]
      have x:=xV s.BZ (YV<|d+1) (k9 s.B<|k9 s.A<|k-1,if e=0 then lF s d else e)
      rw[g s.BZ _ _ _ (by omega) (by omega)<|by omega,aj]
      simp only[ai8]at x ⊢;have w:=xV s.b0 (YV<|d+1)<|jb s.BZ (YV<|d+1) (k9 s.B<|k9 s.A<|k-1,if e=0 then lF s d else e)
      rw[g s.b0 _ _ _ (by omega) (by omega)<|by omega,aj]
      simp only[ai8];rw[j (i+1) _ _ (by omega) (by omega)<|by omega,ai6]
    ·rw[i_ l i a];simp only[a,UP,UN,UK,jb]
  exact r n 0 k e (by omega) (by omega) b
open Go Go.Ab Go.Proofs Tryz
abbrev mK:=cS
def jB:Int->List mK->Int
 |e,[]=>e
 |e,v::l=>jB (if e=0/\v.se=true then lF v.Bj v.GQ else e) l
def ai9:∀(l m:List mK) (e:Int),jB e (l++m)=jB (jB e l) m
 |[],m,e=>rfl
 |v::l,m,e=>by rw[gk,jB,jB,ai9 l m]
def aan:∀(l:List mK) (e:Int),(∀v,v∈l->v.se=false)->jB e l=e
 |[],e,h=>rfl
 |v::l,e,h=>by
  rw[jB,h v<|List.mem_cons_self,aan l _ λw a=>h w<|qg _ a]
  simp
def ai'{k:Nat}(h:k<=100000):room k 272=true:=by simp[room];omega
def avZ:∀(n:Nat) (e:Bi) (out:List mK) (root:Bool),dD e<=n->dD e<=2^47-4096->out.length<=401->
 ∃b,vN n out e root=some (out++b)/\(out++b).length<=401/\401-(out++b).length=v' e (401-out.length)/\∀v,v∈b->v.se=false:=by
 intro n;induction n with
 |zero=>intro e out root h;rw[sH]at h;omega
 |succ n H=>
  intro e out root h L d;have J:=sH e;have K:=J5 e.ax;simp only[vN,XZ,fq];rw[ai5];by_cases l:400<out.length
  ·simp only[l,YW,UL];rw[eI<|by omega]
   exact⟨[],by simp,by simpa using d,by simp;omega,λv hv=>by cases hv⟩
  ·simp only[l,UN,UK,UT,UU,ai' (show out.length+(0+1)<=100000 by omega),aF]
   rw[de<|by omega]
   have t:∀m i (out:List mK),e.ax.length<i+m->i<=e.ax.length->out.length<=401->
    ∃b,II n (vN n) e m out (i:Int)=some (out++b)/\(out++b).length<=401/\401-(out++b).length=sK (e.ax.drop i) (401-out.length)/\∀v,v∈b->v.se=false:=by
    intro m;induction m with
    |zero=>intro i out w u;omega
    |succ m q=>
     intro i out w u d;simp only[II,XY,XX];by_cases c:i<e.ax.length
     ·have s:=J6 e.ax i c
      (rw[gl e.ax i default c];simp only[US])
      generalize e.ax.getD i default=a at s
      rw[fz<|by omega]
      simp only[c,bW c,UP,YW,UL,aF,mH,sK];by_cases p:out.length<=400
      ·simp only[p,YW,UL];let⟨o,k,j,f,g⟩:=H a out false (by omega) (by omega) d
       let⟨F,B,A,z,y⟩:=q (i+1) (out++o) (by omega) (by omega) j
       rw[k,aj,B];refine⟨o++F,by rw[eO],by rw[<-eO];exact A,by rw[<-eO,z,f],λv hv=>?_⟩
       rcases jN.1 hv with hv|hv
       ·exact g v hv
       ·exact y v hv
      ·simp only[p,UN,UK];have E:401-out.length=0:=by omega
       have I:=Kc a 0;have r:=aam (e.ax.drop<|i+1)<|v' a 0;exact⟨[],by simp,by simpa using d,by rw[E];simp;omega,λv hv=>by cases hv⟩
     ·rw[i_ e.ax i c];simp only[c,UP,UN,UK,sK];exact⟨[],by simp,by simpa using d,by simp,λv hv=>by cases hv⟩
   let⟨x,k,j,f,g⟩:=t n 0 (out++[⟨false,⟨0,[],0,⟨0,0,[],[]⟩,⟨0,0,[],[]⟩,[],[]⟩,0,e,root⟩]) (by omega) (by omega) (by simp;omega)
   refine⟨⟨false,⟨0,[],0,⟨0,0,[],[]⟩,⟨0,0,[],[]⟩,[],[]⟩,0,e,root⟩::x,?_,?_,?_,?_⟩
   ·exact k.trans (by simp)
   ·simpa using j
   ·have:401-(out++[(⟨false,⟨0,[],0,⟨0,0,[],[]⟩,⟨0,0,[],[]⟩,[],[]⟩,0,e,root⟩:mK)]).length=401-out.length-1:=by simp;omega
    rw[this,gj]at f;simpa using f
   ·intro v hv;rcases gh.1 hv with rfl|hv
    ·rfl
    ·exact g v hv
open Go Go.Ab Go.Proofs Tryz
def ai_{α:Type}{n:Nat}(e:Bi)(out:List mK)(G:List mK->Option α)(h:dD e<=n)(k:dD e<=2^47-4096)(c:out.length<=401):
 ∃a,(Option.bind (vM n e) λr=>bif !r then Option.bind (vN n out e true) G else G out)=G (out++a)/\(out++a).length<=401/\401-(out++a).length=k9 e (401-out.length)/\∀v,v∈a->v.se=false:=by
 rw[ai4,aj];unfold k9;cases ls:oQ e
 ·let⟨x,j,i,g,d⟩:=avZ n e out true h k c;refine⟨x,?_,i,?_,d⟩
  ·rw[j];rfl
  ·rw[g];by_cases b:401-out.length=0
   ·rw[eI<|kP b,b];have:=Kc e 0
    omega
   ·rw[de<|by simp[b]]
 ·refine⟨[],by simp,by simpa using c,?_,λv f=>by cases f⟩
  rw[eI<|iR rfl];simp
def av0:∀(n:Nat) (l:List Bj) (d:Int) (out:List mK) (e:Int),dV l+2<=n->dV l<=2^47-4096->out.length<=401->
 ∃a,oM n out l d=some (out++a)/\(out++a).length<=401/\(401-(out++a).length,jB e a)=jb l d (401-out.length,e)/\∀v,v∈a->v.se=true->fst v.Bj<dV l:=by
 intro n;induction n with
 |zero=>intro l d out e h;omega
 |succ n x=>
  intro l d out e h aa t;have p3:=vZ l;simp only[oM,X3]
  have J:∀m i (out:List mK) (e:Int),l.length<i+m->i<=l.length->out.length<=401->
   ∃a,xq n (oM n) l d m out (i:Int)=some (out++a)/\(out++a).length<=401/\(401-(out++a).length,jB e a)=jb (l.drop i) d (401-out.length,e)/\∀v,v∈a->v.se=true->fst v.Bj<dV l:=by
   intro m;induction m with
   |zero=>intro i out e L K;omega
   |succ m E=>
    intro i out e L K t;simp only[xq,X2,X0,Pz,Py,X1];by_cases f:i<l.length
    ·have w:=Rc l i f
     (rw[gl l i default f];simp only[US])
     generalize l.getD i default=s at w
     have nU:=fst_eq s;rw[fz<|by omega]
     simp only[f,bW f,UP,YW,UL,aF,mH,jb];by_cases z:out.length<=400
     ·rw[de<|by omega]
      simp only[z,YW,UL,UT,UU,ai' (show out.length+(0+1)<=100000 by omega),aF]
      let⟨j,a1,a2,a3,y⟩:=ai_ (n:=n) s.A (out++[(⟨true,s,d,⟨0,0,[],[]⟩,false⟩:mK)]) (λk=>Option.bind (vM n s.B) λH=>bif !H then Option.bind (vN n k s.B true) λF=>
       Option.bind (oM n F s.BZ<|YV<|d+1) λq=>Option.bind (oM n q s.b0<|YV<|d+1) λo=>xq n (oM n) l d m o ((i+1:Nat):Int)
       else Option.bind (oM n k s.BZ<|YV<|d+1) λq=>Option.bind (oM n q s.b0<|YV<|d+1) λo=>xq n (oM n) l d m o ((i+1:Nat):Int)) (by omega) (by omega) (by simp;omega)
      rw[a1];let⟨r,bj,I,Ke,n6⟩:=ai_ (n:=n) s.B (out++[(⟨true,s,d,⟨0,0,[],[]⟩,false⟩:mK)]++j) (λv=>Option.bind (oM n v s.BZ<|YV<|d+1) λq=>Option.bind (oM n q s.b0<|YV<|d+1) λo=>xq n (oM n) l d m o ((i+1:Nat):Int)) (by omega) (by omega) a2
      rw[bj];let⟨b,c1,Z,Y,X⟩:=x s.BZ (YV<|d+1) _ (if e=0 then lF s d else e) (by omega) (by omega) I
      rw[c1,aj];let⟨g,W,U,T,S⟩:=x s.b0 (YV<|d+1) _ (jB (if e=0 then lF s d else e) b) (by omega) (by omega) Z
      rw[W,aj];let⟨p,P,O,N,M⟩:=E (i+1) _ (jB (jB (if e=0 then lF s d else e) b) g) (by omega) (by omega) U
      rw[P];have u:401-(out++[(⟨true,s,d,⟨0,0,[],[]⟩,false⟩:mK)]).length=401-out.length-1:=by simp;omega
      refine⟨(⟨true,s,d,⟨0,0,[],[]⟩,false⟩:mK)::(j++(r++(b++(g++p)))),?_,?_,?_,?_⟩
      ·simp
      ·simpa using O
      ·have R:jB e ((⟨true,s,d,⟨0,0,[],[]⟩,false⟩:mK)::(j++(r++(b++(g++p)))))=jB (jB (jB (if e=0 then lF s d else e) b) g) p:=by
        simp only[jB,lY,ai9];rw[aan j _ y,aan r _ n6]
       have Q:(out++(⟨true,s,d,⟨0,0,[],[]⟩,false⟩:mK)::(j++(r++(b++(g++p))))).length=(out++[(⟨true,s,d,⟨0,0,[],[]⟩,false⟩:mK)]++j++r++b++g++p).length:=by simp
       rw[R,Q,N]
       congr 1
       rw[ai6];simp only
       rw[T,Y,Ke,a3,u]
      ·intro v hv c;simp only[gh,jN]at hv;rcases hv with rfl|hv|hv|hv|hv|hv
       ·exact w
       ·rw[y v hv]at c;cases c
       ·rw[n6 v hv]at c;cases c
       ·have:=X v hv c;omega
       ·have:=S v hv c;omega
       ·exact M v hv c
     ·rw[eI<|by omega]
      simp only[z,UN,UK];exact⟨[],by simp,by simpa using t,by simp[jB],λv hv=>by cases hv⟩
    ·rw[i_ l i f];simp only[f,UP,UN,UK,jb];exact⟨[],by simp,by simpa using t,by simp[jB],λv hv=>by cases hv⟩
  exact J n 0 out e (by omega) (by omega) t
open Go Go.Ab Go.Proofs Tryz
def n_(p:bk):Int:=
 if hl p.BY=false then 7 else if sJ p.Cq≠0 then sJ p.Cq
 else if(jb p.BZ 1 (401,0)).2=0/\(jb p.BZ 1 (401,0)).1=0 then 2 else(jb p.BZ 1 (401,0)).2
def aao{n:Nat}(p:bk)(i:p.BY.length<=2^47-4096)(d:ja p.Cq<n)(j:ja p.Cq<=2^47-4096)(g:dV p.BZ+2<=n)(f:dV p.BZ<=2^47-4096):Hd n p=some (n_ p):=by
 unfold Hd Vg n_;rw[EN n p.BY i,avU p.Cq d j];simp only[aj];cases hl p.BY
 ·rfl
 ·simp only[UR,UK,pf,UY];by_cases h:sJ p.Cq=0
  ·simp only[h,YW,UR,UK,ne_eq,not_true,UY];have:=avY n p.BZ 1 401 0 g f (by omega)
   rw[show zo n p.BZ 1 401 0=_ from this]
   have a:=xV p.BZ 1 (401,0);simp only at a
   generalize jb p.BZ 1 (401,0)=r at a
   let⟨k,e⟩:=r;simp only[aj];simp only at a
   rw[show YV (401-(k:Int))=401-(k:Int)by rw[wr]<;>omega]
   by_cases b:e=0
   ·by_cases c:k=0
    ·subst c;subst b;rfl
    ·simp only[b,c,YW,UL,and_false,UY,show¬ (400:Int)<401-(k:Int)by omega,UN,UK]
   ·simp only[b,UN,UK,xZ,UY]
  ·simp only[h,UN,YY,UL,ne_eq,not_false_iff,U3]
def aja:∀(l:List mK) (e:Int),e≠0->jB e l=e
 |[],e,h=>rfl
 |v::l,e,h=>by rw[jB,de<|λx=>h x.1,aja l e h]
def av1(n:Nat)(l:List mK)(g:25<n)(B:Nat)(s:B<=n)(o:B<=2^47-4096)(t:l.length<=401)(f:∀v,v∈l->v.se=true->fst v.Bj<B):∀m i,l.length<i+m->i<=l.length->
 D1 n l m (i:Int)=some (if jB 0 (l.drop i)≠0 then jB 0 (l.drop i)else if 400<l.length then 2 else 0):=by
 intro m;induction m with
 |zero=>intro i h r;omega
 |succ m j=>
  intro i p q;simp only[D1,Yf,Ye,PI];by_cases h:i<l.length
  ·have d:l.getD i default∈l:=by
    have e:l.getD i default=l[i]:=by simp[List.getD,h]
    rw[e];exact pj h
   have b:=f _ d
   (rw[gl l i default h,fz<|by omega];simp only[US];rw[j (i+1) (by omega)<|by omega])
   generalize l.getD i default=v at b
   simp only[h,bW h,UP,YW,UL,aF,jB];cases am:v.se
   ·simp only[UK,iO,and_false,UY]
   ·have u:=b am;have k:=fst_eq v.Bj;rw[avN v.Bj v.GQ g (by omega) (by omega) (by omega) (by omega) (by omega)<|by omega]
    simp only[UL,aj,tz,U3];by_cases a:lF v.Bj v.GQ=0
    ·simp only[a,YW,UR,UK]
    ·simp only[a,UN,YY,UL];rw[aja _ _ a,eI a]
  ·rw[i_ l i h];simp only[h,UP,UN,UK,jB,fq,ne_eq,not_true,UY];by_cases c:400<l.length
   ·simp only[c,YW,UL,U3]
   ·simp only[c,UN,UK,UY]
def ajb{n:Nat}(p:bk)(q:500<n)(m:p.BY.length<n)(l:p.BY.length<=2^47-4096)(i:ja p.Cq<n)(o:ja p.Cq<=2^47-4096)(k:dV p.BZ+2<=n)(d:dV p.BZ<=2^47-4096):PJ n p=some (n_ p):=by
 unfold PJ X4 n_;rw[J4 p.BY m (by omega)<|by omega,avV p.Cq (by omega) i o]
 simp only[aj];cases hl p.BY
 ·rfl
 ·simp only[UR,UK,pf,UY];by_cases h:sJ p.Cq=0
  ·simp only[h,YW,UR,UK,ne_eq,not_true,UY];let⟨a,f,e,c,j⟩:=av0 n p.BZ 1 [] 0 k d (by simp)
   rw[iK]at f e c;rw[f];simp only[aj];have:=av1 n a (by omega) (dV p.BZ) (by omega) d e j n 0 (by omega) (by omega)
   rw[show D1 n a n 0=_ from this,gj,UU]at *
   rw[show 401-0=401 from rfl]at c
   rw[<-c];simp only
   by_cases b:jB 0 a=0
   ·simp only[b,ne_eq,not_true,UY,kY];by_cases g:400<a.length
    ·rw[eI g,eI<|by omega]
    ·rw[de g,de<|by omega]
   ·rw[eI b,de<|λx=>b x.1]
  ·simp only[h,UN,YY,UL,ne_eq,not_false_iff,U3]
def av2:∀(n:Nat) (l:List Bj),dV l+2<=n->dV l<=2^47-4096->DI n l l=some true:=by
 intro n;induction n with
 |zero=>intro l h;omega
 |succ n b=>
  intro l h o;have j:=vZ l;simp only[DI,Xo,YW,UR,UK]
  have e:∀m i,l.length<i+m->i<=l.length->Iy n (DI n) l l m (i:Int)=some true:=by
   intro m;induction m with
   |zero=>intro i g f;omega
   |succ m c=>
    intro i g f;simp only[Iy,Xn,Xm];by_cases a:i<l.length
    ·have d:=Rc l i a
     (rw[fz<|by omega,c (i+1) (by omega)<|by omega];simp only[US])
     generalize l.getD i default=s at d
     have k:=fst_eq s;simp only[a,bW a,UP,YW,UR,UL,UK,aF,aiM n s.A (by omega)<|by omega,aiM n s.B (by omega)<|by omega,b s.BZ (by omega)<|by omega,b s.b0 (by omega)<|by omega,aj]
     rfl
    ·simp only[a,UP,UN,UK]
  exact e n 0 (by omega) (by omega)
def av3{n:Nat}(p:bk)(h:p.Cq.length<n)(j:p.Cq.length<=2^47-4096)(g:dV p.BZ+2<=n)(c:dV p.BZ<=2^47-4096):O4 n p p=some true:=by
 unfold O4;simp only[YW,UR,UK]
 have d:∀m i,p.Cq.length<i+m->i<=p.Cq.length->Iz n p p m (i:Int)=some true:=by
  intro m;induction m with
  |zero=>intro i f e;omega
  |succ m b=>
   intro i f e;simp only[Iz,Xq,Xp];by_cases a:i<p.Cq.length
   ·rw[fz<|by omega,b (i+1) (by omega)<|by omega]
    simp only[a,bW a,UP,YW,nG,UR,UL,UK,aF]
   ·simp only[a,UP,UN,UK,av2 n p.BZ g c,aj]
 exact d n 0 (by omega) (by omega)
open Go Go.Ab Go.Proofs Tryz
def aDs(p:bk):⟨p.BY,p.Cq,p.BZ⟩=p:=rfl
open Go Go.Ab Go.Proofs Tryz
def dr(t:Bm):Bm:=⟨t.Cc,t.Text,t.N,0⟩
inductive fc:UB->List Bm->Prop
 |nil:fc [] []
 |sp {c:UInt8} {s:UB} {T:List Bm}:(c.toNat=10\/c.toNat=32)->fc s T->fc (c::s) T
 |tok {c:UInt8} {w s:UB} {t:Bm} {T:List Bm}:c.toNat≠10->c.toNat≠32->c.toNat≠9->c.toNat≠35->kO (c::(w++s))=(t,w.length+1,0)->t.m5=0->fc s T->fc (c::(w++s)) (t::T)
def drop_cons{a s:UB}{c:UInt8}{i:Nat}(h:a.drop i=c::s):i<a.length/\a.getD i 0=c/\a.drop (i+1)=s:=by
 have b:i<a.length:=by
  by_cases b:i<a.length
  ·exact b
  ·rw[i_ a i b]at h;cases h
 rw[gl a i 0 b]at h;injection h with h1 h2;exact⟨b,h1,h2⟩
def av4(n:Nat)(a:UB)(P:a.length<=1000000000)(Q:a.length<n)(U:100<n){s:UB}{T:List Bm}(h:fc s T):
 ∀(i m:Nat) (out:List Bm) (b:Nat),a.drop i=s->i<=a.length->a.length<i+m->pw out<=61*i->1<=b->b<=i+1->
 ∃l,zM n a m out (b:Int) (i:Int)=some (out++l,0,0)/\l.map dr=T/\(∀t,t∈l->1<=t.m5/\(t.Cc=5->t.Text∈marks)/\iH t.N=0)/\pw (out++l)<=61*a.length:=by
 induction h with
 |nil=>
  intro i m out b hd k x g p y;obtain⟨m,rfl⟩:∃j,m=j+1:=⟨m-1,by omega⟩
  have h:¬ i<a.length:=λh=>by rw[gl a i 0 h]at hd;cases hd
  simp only[zM,HV,HT,h,UP,UN,UK];obtain rfl:i=a.length:=by omega
  exact⟨[],by simp,rfl,(λt d=>by cases d),by rw[gJ];exact g⟩
 | @sp c s T hc L e=>
  intro i m out b hd k x g p y;obtain⟨m,rfl⟩:∃j,m=j+1:=⟨m-1,by omega⟩
  let⟨h,o,f⟩:=drop_cons hd;simp only[zM,HV,HT,HU,NZ]
  (rw[fz<|by omega,fz<|by omega];simp only[US];rw[o])
  simp only[h,bW h,UP,YW,UL,aF,hM];rcases hc with hc|hc
  ·simp only[hc,YW,UL];exact e (i+1) m out (b+1) f (by omega) (by omega) (by omega) (by omega) (by omega)
  ·simp only[hc,show¬ (32=10)by omega,UN,YW,UL,UK]
   exact e (i+1) m out b f (by omega) (by omega) (by omega) (by omega) (by omega)
 | @tok c w s t T E r J q d M L e=>
  intro i m out b hd k x g p y;obtain⟨m,rfl⟩:∃j,m=j+1:=⟨m-1,by omega⟩
  let⟨h,o,f⟩:=drop_cons hd;have hlen:(a.drop i).length=a.length-i:=od;have R:w.length+s.length+1=a.length-i:=by rw[<-hlen,hd];simp
  have B:=avr (c::(w++s)) (by simp) (by rw[d])
  rw[d]at B;simp only at B
  have O:HS n (a.drop i)=some (t,((w.length+1:Nat):Int),0):=by
   rw[hd,avt c (w++s) (by simp;omega) (by simp;omega),d]
  simp only[zM,HV,HT,HU,NZ]
  (simp only[US];rw[o,O])
  have S:=aad out;simp only[h,bW h,UP,YW,UL,aF,hM,E,r,J,q,UN,UK,AM k,aj,UR,clone (show t.Text.length<=2^48 by omega),UT,UU,avu (show out.length+(0+1)<=1000000000000 by omega)]
  rw[show YV ((i:Int)+((w.length+1:Nat):Int))=((i+(w.length+1):Nat):Int)by rw[wr]<;>omega]
  let⟨l,I,H,F,u⟩:=e (i+(w.length+1)) m (out++[⟨t.Cc,t.Text,t.N,(b:Int)⟩]) b (by
   rw[<-xz,hd,zP,xF]) (by omega) (by omega) (by rw[aiV];simp only[pw];omega) p (by omega)
  have A:=avv (c::(w++s)) 0 (by simp) (by rw[d])
  have z:=avw<|c::(w++s);rw[d]at A z;refine⟨⟨t.Cc,t.Text,t.N,(b:Int)⟩::l,by rw[I];simp,?_,?_,by rw[<-List.append_cons]at u;exact u⟩
  ·rw[kz,H]
   congr 1
   unfold dr;rw[<-M]
  ·intro K fs;rcases gh.1 fs with rfl|fs
   ·exact⟨by simp only;omega,A,z⟩
   ·exact F K fs
def av7{n:Nat}{s:UB}{T:List Bm}(h:fc s T)(i:s.length<=16384)(d:s.length<n)(g:100<n):
 ∃l,N0 n s=some (l,0,0)/\l.map dr=T/\(∀t,t∈l->1<=t.m5)/\mJ l/\pw l<=61*s.length:=by
 let⟨l,f,e,b,c⟩:=av4 n s (by omega) d g h 0 n [] 1 rfl (by omega) (by omega) (by simp[pw]) (by omega) (by omega)
 refine⟨l,?_,e,λt a=>(b t a).1,λt a=>(b t a).2,c⟩
 unfold N0;simp only[fq,show¬ 16384<s.length by omega,UN,UK]
 exact f
open Go Go.Ab Go.Proofs Tryz
def av8(u:Nat):Lib.decDigits u=if u<10 then[UInt8.ofNat<|48+u]else Lib.decDigits (u / 10)++[UInt8.ofNat<|48+u % 10]:=by
 rw[Lib.decDigits];split<;>rfl
def ajc{k:Nat}(h:k<10):(UInt8.ofNat<|48+k).toNat=48+k:=by
 rw[vG];omega
def av9(u:Nat)(l m:UB):val u (l++m)=val (val u l) m:=by unfold val;rw[List.foldl_append]
def ajd:∀(u:Nat),(Lib.decDigits u).all mc=true/\val 0 (Lib.decDigits u)=u/\(∃c l,Lib.decDigits u=c::l/\(c=48->u=0))/\(u<10->(Lib.decDigits u).length=1):=by
 intro u;induction u using Nat.strongRecOn with
 |_ u i=>
  rw[av8];by_cases h:u<10
  ·rw[eI h];have e:=ajc h;refine⟨?_,?_,⟨_,_,rfl,λa=>?_⟩,λ_=>rfl⟩
   ·simp only[ny,List.all_nil,oP,xT,e];omega
   ·rw[Q7,Q6,e];omega
   ·rw[a]at e;have:(48:UInt8).toNat=48:=rfl
    omega
  ·rw[de h];let⟨d,b,⟨c,l,g,f⟩,j⟩:=i (u / 10) (by omega)
   have e:=ajc (show u % 10<10 by omega)
   refine⟨?_,?_,⟨c,l++[UInt8.ofNat<|48+u % 10],by rw[g];rfl,λa=>?_⟩,λa=>absurd a h⟩
   ·rw[List.all_append,d];simp only[ny,List.all_nil,oP,iP,xT,e];omega
   ·rw[av9,b,Q7,Q6,e];omega
   ·have:=f a;omega
def av'(u:Nat)(h:u<=2^63-1):rn (Lib.decDigits u)=((u:Int),0):=by
 let⟨d,b,⟨c,l,f,e⟩,aO⟩:=ajd u;unfold rn;rw[eI,b,eI h];refine⟨d,?_⟩
 by_cases a:c=48
 ·exact iR<|aO (by have:=e a;omega)
 ·left;rw[f];simpa using a
def aje{c:UInt8}(h:mc c=true):h7 c=true:=by
 rw[xT]at h;unfold h7;exact fp (by omega)
def ajf{c:UInt8}(h:nH c=true):h7 c=true:=by
 unfold nH at h;simp only[cb,fx]at h;unfold h7;exact fp (by omega)
def av_{α:Type}{p q:α->Bool}(h:∀a,p a=true->q a=true){l:List α}(b:l.all p=true):l.all q=true:=by
 rw[gK]at b ⊢;exact λa c=>h a (b a c)
def px(r:UB):Prop:=∀c,r.head? = some c->h7 c=false
def awa{w r:UB}(a:w.all h7=true)(b:px r):jj (w++r)=w.length:=by
 induction w with
 |nil=>
  cases r with
  |nil=>rfl
  |cons c r=>rw[iK,xR,b c rfl];rfl
 |cons c w d=>
  simp only[ny,cb]at a;rw[gk,xR,a.1,d a.2];rfl
def aap{c:UInt8}{w r:UB}(a:(c::w).all h7=true)(g:px r)(e:(nb<|c::w).2=0):kO (c::(w++r))=((nb<|c::w).1,w.length+1,0):=by
 have d:h7 c=true:=by simp only[ny,cb]at a;exact a.1
 have b:=awa a g;have f:(c::(w++r)).take (w.length+1)=c::w:=by simp
 rw[gk]at b;unfold kO;simp only[d,U3,b,UT,f,e]
def awb{w:UB}(h:w∈rl):∃c l,w=c::l/\nH c=true/\w.all h7=true:=by
 simp only[rl,gh,nj,ri]at h;rcases h with rfl|rfl|rfl|rfl|rfl|rfl|rfl|rfl|rfl|rfl|rfl|rfl|rfl|rfl|rfl|rfl|rfl|rfl|rfl|rfl|rfl|rfl|rfl|rfl|rfl<;>exact⟨_,_,rfl,rfl,rfl⟩
def awc{w:UB}:jj w=w.length->w.all h7=true:=by
 induction w with
 |nil=>intro;rfl
 |cons c w a=>
  intro h;rw[xR]at h;cases hc:h7 c
  ·rw[hc]at h;simp at h
  ·rw[hc]at h;simp only[UL,UT]at h;rw[ny,hc,a<|by omega];rfl
def Re{w:UB}(h:hl w=true):∃c l,w=c::l/\nH c=true/\w.all h7=true/\xQ w=false/\w.length<=16:=by
 cases w with
 |nil=>cases h
 |cons c l=>
  simp only[hl,cb,fx,hh]at h;let⟨⟨⟨e,a⟩,d⟩,b⟩:=h;exact⟨c,l,rfl,a,awc<|by simpa using d,b,by simp;omega⟩
def ho:UB->UB
 |[]=>[]
 |c::l=>if c.toNat=34\/c.toNat=92 then 92::c::ho l else c::ho l
def quo(s:UB):UB:=34::(ho s++[34])
def ajg:∀(s a r:UB),s.all okB=true->a.length+s.length<=64->jA (ho s++34::r) a = .inr (a++s,(ho s).length+1)
 |[],a,r,h,d=>by
  simp only[ho,iK,gJ,UU];rw[Q8 34 r a<|by decide,eI<|by decide]
 |c::s,a,r,h,d=>by
  simp only[ny,cb]at h;simp only[UT]at d;have f:=ajg s (a++[c]) r h.2 (by simp;omega)
  simp only[ho];by_cases b:c.toNat=34\/c.toNat=92
  ·rw[eI b,gk,gk];simp only[jA];rw[de<|by decide,eI<|by decide,de<|by omega,de<|by omega,f]
   simp only[up,UT,eO,rY]
  ·rw[de b,gk,Q8 c _ a<|λe=>b<|iR e,de<|λe=>b<|kP e,de (by rw[h.1];decide),de<|by omega,f]
   simp only[up,UT,eO,rY]
def spell(t:Bm):UB:=if t.Cc=3 then Lib.decDigits t.N.toNat else if t.Cc=4 then quo t.Text else t.Text
def oa(t:Bm):Prop:=
 t.m5=0/\((t.Cc=1/\hl t.Text=true/\t.N=0)\/(t.Cc=2/\t.Text∈rl/\t.N=0)\/(t.Cc=3/\t.Text=[]/\0<=t.N/\t.N<=2^63-1)\/
  (t.Cc=4/\kc t.Text=true/\t.N=0)\/(t.Cc=5/\t.Text∈marks/\t.N=0))
def EV(t:Bm)(r:UB):Prop:=(t.Cc<4->px r)/\(t.Cc=5->∀c d,t.Text=[c]->r.head? = some d->[c,d]∉two)
def awd{w:UB}(h:w∈marks):(w∈two/\∃a b,w=[a,b])\/∃c,w=[c]/\c∈ro:=by
 unfold marks at h;rcases jN.1 h with h|h
 ·left
  refine⟨h,?_⟩
  simp only[two,gh,nj,ri]at h;rcases h with rfl|rfl|rfl|rfl|rfl<;>exact⟨_,_,rfl⟩
 ·right
  obtain⟨c,d,rfl⟩:=jk.1 h;exact⟨c,rfl,d⟩
def awe{c:UInt8}(h:c∈ro):h7 c=false/\c.toNat≠34/\c.toNat≠10/\c.toNat≠32/\c.toNat≠9/\c.toNat≠35:=by
 simp only[ro,gh,nj,ri]at h;rcases h with rfl|rfl|rfl|rfl|rfl|rfl|rfl|rfl|rfl|rfl|rfl|rfl|rfl|rfl|rfl<;>exact⟨rfl,by decide,by decide,by decide,by decide,by decide⟩
def awf{a b:UInt8}(h:[a,b]∈two):h7 a=false/\a.toNat≠34/\a.toNat≠10/\a.toNat≠32/\a.toNat≠9/\a.toNat≠35:=by
 simp only[two,gh,nj,ri,wY,lY]at h;rcases h with⟨rfl,rfl⟩|⟨rfl,rfl⟩|⟨rfl,rfl⟩|⟨rfl,rfl⟩|⟨rfl,rfl⟩<;>exact⟨rfl,by decide,by decide,by decide,by decide,by decide⟩
def aaq{c:UInt8}(h:h7 c=true):c.toNat≠10/\c.toNat≠32/\c.toNat≠9/\c.toNat≠35:=by
 unfold h7 at h;have:=ky h
 omega
def awg(t:Bm)(r:UB)(m:oa t)(hb:EV t r):∃c w,spell t=c::w/\kO (c::(w++r))=(t,w.length+1,0)/\c.toNat≠10/\c.toNat≠32/\c.toNat≠9/\c.toNat≠35:=by
 let⟨k,x,N,H⟩:=t;obtain⟨rfl,m⟩:=m;simp only at m
 rcases m with⟨rfl,f,rfl⟩|⟨rfl,f,rfl⟩|⟨rfl,rfl,f,e⟩|⟨rfl,f,rfl⟩|⟨rfl,f,rfl⟩
 ·obtain⟨c,l,rfl,e,A,F,I⟩:=Re f;have g:nb (c::l)=(⟨1,c::l,0,0⟩,0):=by simp only[nb,e,F,f,U3];rfl
  have:=aaq<|ajf e
  exact⟨c,l,rfl,by rw[aap A (hb.1 (by simp only;omega))<|by rw[g],g],this.1,this.2.1,this.2.2.1,this.2.2.2⟩
 ·obtain⟨c,l,rfl,e,A⟩:=awb f;have g:nb (c::l)=(⟨2,c::l,0,0⟩,0):=by simp only[nb,e,xQ,f,YW,U3]
  have:=aaq<|ajf e
  exact⟨c,l,rfl,by rw[aap A (hb.1 (by simp only;omega))<|by rw[g],g],this.1,this.2.1,this.2.2.1,this.2.2.2⟩
 ·obtain⟨u,rfl⟩:∃u:Nat,N=u:=⟨N.toNat,by omega⟩
  let⟨i,p,⟨c,l,h,o⟩,n⟩:=ajd u;have B:spell ⟨3,[],(u:Int),0⟩=c::l:=by simp only[spell,U3,US];exact h
  have q:(c::l).all mc=true:=by rw[<-h];exact i
  have j:mc c=true:=by simp only[ny,cb]at q;exact q.1
  have z:nH c=false:=by
   rw[xT]at j;unfold nH;rw[en (show¬ 97<=c.toNat by omega)];rfl
  have E:rn (c::l)=((u:Int),0):=by rw[<-h];exact av' u (by omega)
  have g:nb (c::l)=(⟨3,[],(u:Int),0⟩,0):=by simp only[nb,z,E,U3];rfl
  have:=aaq<|aje j
  exact⟨c,l,B,by rw[aap (av_ (λ_=>aje) q) (hb.1 (by simp only;omega))<|by rw[g],g],this.1,this.2.1,this.2.2.1,this.2.2.2⟩
 ·unfold kc at f;simp only[cb,fx]at f;refine⟨34,ho x++[34],rfl,?_,by decide,by decide,by decide,by decide⟩
  have:=ajg x [] r f.1 (by simp;omega)
  unfold kO;rw[eO,rY];simp only[show h7 34=false from rfl,iO,UY,show(34:UInt8).toNat=34 from rfl,U3,this,EP,iK,UO,UT,UU]
 ·rcases awd f with⟨e,a,b,rfl⟩|⟨c,rfl,e⟩
  ·let⟨y,i,p,h,o,n⟩:=awf e;refine⟨a,[b],rfl,?_,p,h,o,n⟩
   have s:n8 (a::b::r)=[a,b]:=by rw[aaa,eI e]
   unfold kO;simp only[rY,y,iO,UY,i,s,reduceCtorEq,UT,UU]
  ·let⟨y,i,p,h,o,n⟩:=awe e;refine⟨c,[],rfl,?_,p,h,o,n⟩
   have s:n8 (c::r)=[c]:=by
    cases r with
    |nil=>rw[aiS,eI e]
    |cons d r=>rw[aaa,de<|hb.2 rfl c d rfl rfl,eI e]
   unfold kO;simp only[iK,y,iO,UY,i,s,reduceCtorEq,UT,UU]
def mL{t:Bm}{r:UB}{T:List Bm}(a:oa t)(b:EV t r)(h:fc r T):fc (spell t++r) (t::T):=by
 let⟨c,w,e,f,d,i,g,j⟩:=awg t r a b;rw[e];exact fc.tok d i g j f a.1 h
def ob{r:UB}{T:List Bm}(h:fc r T):fc (32::r) T:=fc.sp (iR rfl) h
def aar{r:UB}{T:List Bm}(h:fc r T):fc (10::r) T:=fc.sp (kP rfl) h
open Go Go.Ab Go.Proofs Tryz
abbrev mM:=List (Option Bm)
def flat:mM->UB
 |[]=>[]
 |some t::l=>spell t++flat l
 |none::l=>32::flat l
def dH:mM->List Bm
 |[]=>[]
 |some t::l=>t::dH l
 |none::l=>dH l
def oc:∀l m:mM,flat (l++m)=flat l++flat m
 |[],m=>rfl
 |some t::l,m=>by simp only[gk,flat,oc l m,eO]
 |none::l,m=>by simp only[gk,flat,oc l m]
def xX:∀l m:mM,dH (l++m)=dH l++dH m
 |[],m=>rfl
 |some t::l,m=>by simp only[gk,dH,xX l m]
 |none::l,m=>by simp only[gk,dH,xX l m]
def d'(w:UB):Bm:=⟨2,w,0,0⟩
def bn(w:UB):Bm:=⟨5,w,0,0⟩
def iS(w:UB):Bm:=⟨1,w,0,0⟩
def py(n:Int):Bm:=⟨3,[],n,0⟩
def Rf(w:UB):Bm:=⟨4,w,0,0⟩
def cy(op:Int):Nat:=if op=17 then 1 else if op=16 then 2 else if op=18 then 3 else if 10<=op/\op<=15 then 4 else if op=19 then 5 else if op=4\/op=5 then 6 else if 6<=op/\op<=8 then 7 else if op=9 then 8 else 9
def pz(op:Int):Bm:=
 if op=17 then d' [111,114]else if op=16 then d' [97,110,100]else if op=10 then bn [61,61]else if op=11 then bn [33,61]else if op=12 then bn [60]else if op=13 then bn [60,61]
 else if op=14 then bn [62]else if op=15 then bn [62,61]else if op=19 then bn [43,43]else if op=4 then bn [43]else if op=5 then bn [45]else if op=6 then bn [42]else if op=7 then bn [47]else bn [37]
def iE(op:Int):Bm:=
 if op=20 then d' [116,101,120,116]else if op=21 then d' [108,101,110]else if op=22 then d' [103,101,116,105,110,116]else if op=23 then d' [103,101,116,115,116,114]else if op=24 then d' [104,97,115]
 else if op=25 then d' [110,111,119]else if op=26 then d' [114,97,110,100,111,109]else d' [110,111,100,101]
def gf(op:Int)(p:mM)(least:Nat):mM:=if cy op<least then some (bn [40])::(p++[some<|bn [41]])else p
def md(Op N:Int)(S:UB)(L:List<|Int×mM):mM:=
 if Op=1 then[some<|py N]else if Op=2 then[some<|Rf S]else if Op=3 then[some<|iS S]
 else match L with
  |[]=>[some<|iE Op,some<|bn [40],some<|bn [41]]
  |[a]=>if Op=18 then some (d' [110,111,116])::none::gf a.1 a.2 3 else if Op=9 then some (bn [45])::gf a.1 a.2 8 else some (iE Op)::some (bn [40])::(a.2++[some<|bn [41]])
  |a::b::_=>gf a.1 a.2 (if cy Op=4 then 5 else cy Op)++none::some (pz Op)::none::gf b.1 b.2 (cy Op+1)
mutual
def b6:Bi->mM
 |⟨Op,N,S,a⟩=>md Op N S (kC a)
def kC:List Bi->List (Int×mM)
 |[]=>[]
 |x::l=>(x.Op,b6 x)::kC l
end
def r'(op:Int)(n:Nat):Prop:=(1<=op/\op<=27)/\(n:Int)=kN op
mutual
def hH:Bi->Prop
 |⟨Op,N,S,a⟩=>r' Op a.length/\(Op=1->0<=N/\N<=2^63-1)/\(Op≠1->N=0)/\(Op≠2/\Op≠3->S=[])/\(Op=2->kc S=true)/\(Op=3->hl S=true)/\Kf a
def Kf:List Bi->Prop
 |[]=>True
 |x::l=>hH x/\Kf l
end
mutual
def ge:Bi->Nat
 |⟨_,_,_,a⟩=>1+sM a
def sM:List Bi->Nat
 |[]=>0
 |x::l=>max (ge x) (sM l)
end
def Rg(e:Bi):hH e↔r' e.Op e.ax.length/\(e.Op=1->0<=e.N/\e.N<=2^63-1)/\(e.Op≠1->e.N=0)/\(e.Op≠2/\e.Op≠3->e.S=[])/\(e.Op=2->kc e.S=true)/\(e.Op=3->hl e.S=true)/\Kf e.ax:=by cases e;rfl
def v_(e:Bi):ge e=1+sM e.ax:=by cases e;rfl
def oR(p:mM):Prop:=∀r T,px r->fc r T->fc (flat p++r) (dH p++T)
def ke{c:UInt8}{r:UB}(h:h7 c=false):px (c::r):=λd hd=>by cases hd;exact h
def Kg{t:Bm}{r:UB}(a:t.Cc≠5)(h:px r):EV t r:=⟨λ_=>h,λe=>absurd e a⟩
def EW{t:Bm}{r:UB}:EV t (32::r):=⟨λ_=>ke rfl,λ_ c d a hd=>by
 cases hd;simp[two]⟩
def aas{t:Bm}{r:UB}:EV t (10::r):=⟨λ_=>ke rfl,λ_ c d a hd=>by
 cases hd;simp[two]⟩
def Kh{c:UInt8}{r:UB}(h:c≠61/\c≠33/\c≠60/\c≠62/\c≠43):EV (bn [c]) r:=⟨λe=>by simp[bn]at e,λ_ a d b hd=>by
 simp only[bn,wY,lY]at b;subst b;simp[two,h]⟩
def xY{w:UB}(h:w∈rl):oa (d' w):=⟨rfl,iR<|kP ⟨rfl,h,rfl⟩⟩
def rp{w:UB}(h:w∈marks):oa (bn w):=⟨rfl,iR<|iR<|iR<|iR ⟨rfl,h,rfl⟩⟩
def aji{w:UB}(h:hl w=true):oa (iS w):=⟨rfl,kP ⟨rfl,h,rfl⟩⟩
def ajj{n:Int}(h:0<=n)(a:n<=2^63-1):oa (py n):=⟨rfl,iR<|iR<|kP ⟨rfl,rfl,h,a⟩⟩
def awi{w:UB}(h:kc w=true):oa (Rf w):=⟨rfl,iR<|iR<|iR<|kP ⟨rfl,h,rfl⟩⟩
def aat{t:Bm}(h:oa t)(c:t.Cc≠5):oR [some t]:=λr T a b=>by
 simp only[flat,dH,gJ];exact mL h (Kg c a) b
def Rh{r:UB}{T:List Bm}(h:fc r T):fc (41::r) (bn [41]::T):=mL (t:=bn [41]) (rp<|by decide) (Kh<|by decide) h
def aau{r:UB}{T:List Bm}(h:fc r T):fc (40::r) (bn [40]::T):=mL (t:=bn [40]) (rp<|by decide) (Kh<|by decide) h
def awj{p:mM}(h:oR p):oR (some (bn [40])::(p++[some<|bn [41]])):=λr T c b=>by
 have e:flat (some (bn [40])::(p++[some<|bn [41]]))++r=40::(flat p++41::r):=by
  simp only[flat,oc,spell,bn];simp
 have a:dH (some (bn [40])::(p++[some<|bn [41]]))++T=bn [40]::(dH p++bn [41]::T):=by
  simp only[dH,xX];simp
 rw[e,a];exact aau (h _ _ (ke rfl)<|Rh b)
def Ri{op:Int}{p:mM}(h:oR p)(k:Nat):oR (gf op p k):=by
 unfold gf;split
 ·exact awj h
 ·exact h
def Rj{c:Prop}[Decidable c]{a b:Bm}(e:oa a)(d:oa b):oa (if c then a else b):=by
 by_cases h:c
 ·rw[eI h];exact e
 ·rw[de h];exact d
def awk{c:Prop}[Decidable c]{a b:Bm}{k:Int}(e:a.Cc=k)(d:b.Cc=k):(if c then a else b).Cc=k:=by
 by_cases h:c
 ·rw[eI h];exact e
 ·rw[de h];exact d
def awl(op:Int):oa (pz op):=by
 unfold pz;refine Rj (xY<|by decide)<|Rj (xY<|by decide) ?_
 repeat refine Rj (rp<|by decide) ?_
 exact rp (by decide)
def EX(op:Int):oa (iE op)/\(iE op).Cc=2:=by
 unfold iE;constructor
 ·repeat refine Rj (xY<|by decide) ?_
  exact xY (by decide)
 ·repeat refine awk rfl ?_
  rfl
def awm{p q:mM}{t:Bm}(d:oa t)(a:oR p)(am:oR q):oR (p++none::some t::none::q):=λr T b f=>by
 have e:flat (p++none::some t::none::q)++r=flat p++32::(spell t++32::(flat q++r)):=by
  simp only[flat,oc];simp
 have c:dH (p++none::some t::none::q)++T=dH p++t::(dH q++T):=by
  simp only[dH,xX];simp
 rw[e,c];exact a _ _ (ke rfl) (ob<|mL d EW<|ob<|am r T b f)
def awn{p:mM}{t:Bm}(c:oa t)(hp:oR p):oR (some t::none::p):=λr T a d=>by
 have e:flat (some t::none::p)++r=spell t++32::(flat p++r):=by simp only[flat];simp
 have b:dH (some t::none::p)++T=t::(dH p++T):=by simp only[dH];simp
 rw[e,b];exact mL c EW (ob<|hp r T a d)
def awo{p:mM}(a:oR p):oR (some (bn [45])::p):=λr T b d=>by
 have e:flat (some (bn [45])::p)++r=spell (bn [45])++(flat p++r):=by simp only[flat];simp
 have c:dH (some (bn [45])::p)++T=bn [45]::(dH p++T):=by simp only[dH];simp
 rw[e,c];exact mL (rp<|by decide) (Kh<|by decide) (a r T b d)
def ajk{p:mM}{t:Bm}(b:oa t)(f:t.Cc=2)(hp:∀r T,fc r T->fc (flat p++41::r) (dH p++bn [41]::T)):oR (some t::some (bn [40])::(p++[some<|bn [41]])):=λr T d c=>by
 have e:flat (some t::some (bn [40])::(p++[some<|bn [41]]))++r=spell t++40::(flat p++41::r):=by simp only[flat,oc,spell,bn];simp
 have a:dH (some t::some (bn [40])::(p++[some<|bn [41]]))++T=t::bn [40]::(dH p++bn [41]::T):=by simp only[dH,xX];simp
 rw[e,a];exact mL b (Kg (by omega)<|ke rfl) (aau<|hp r T c)
def awp{op:Int}(h:1<=op/\op<=27):kN op=0/\(op<=3\/25<=op)\/kN op=1/\(op=9\/op=18\/20<=op/\op<=24)\/kN op=2/\(4<=op/\op<=8\/10<=op/\op<=17\/op=19):=by
 obtain rfl|rfl|rfl|rfl|rfl|rfl|rfl|rfl|rfl|rfl|rfl|rfl|rfl|rfl|rfl|rfl|rfl|rfl|rfl|rfl|rfl|rfl|rfl|rfl|rfl|rfl|rfl:op=1\/op=2\/op=3\/op=4\/op=5\/op=6\/op=7\/op=8\/op=9\/op=10\/op=11\/op=12\/op=13\/op=14\/op=15\/op=16\/op=17\/op=18\/op=19\/op=20\/op=21\/op=22\/op=23\/op=24\/op=25\/op=26\/op=27:=by omega
 all_goals first|exact kP ⟨rfl,by omega⟩|exact iR (kP ⟨rfl,by omega⟩)|exact iR (iR ⟨rfl,by omega⟩)
mutual
def ajl:∀e:Bi,hH e->oR (b6 e)
 |⟨Op,N,S,l⟩,h=>by
  let⟨⟨t,s⟩,m,u,w,bG,cG,q⟩:=h;have d:=ajm l q;unfold b6;unfold md;by_cases c:Op=1
  ·rw[eI c];exact aat (ajj (m c).1 (m c).2) (by simp[py])
  by_cases i:Op=2
  ·rw[de c,eI i];exact aat (awi<|bG i) (by simp[Rf])
  by_cases j:Op=3
  ·rw[de c,de i,eI j];exact aat (aji<|cG j) (by simp[iS])
  rw[de c,de i,de j]
  match l,d with
  |[],_=>exact ajk (p:=[]) (EX Op).1 (EX Op).2 (λr T k=>Rh k)
  |[a],d=>
   have f:=d (a.Op,b6 a) (by simp[kC])
   simp only[kC];by_cases n:Op=18
   ·rw[eI n];exact awn (xY<|by decide)<|Ri f 3
   ·rw[de n];by_cases g:Op=9
    ·rw[eI g];exact awo<|Ri f 8
    ·rw[de g];exact ajk (EX Op).1 (EX Op).2<|λr T k=>f _ _ (ke rfl)<|Rh k
  |a::b::_,d=>
   have f:=d (a.Op,b6 a) (by simp[kC])
   have o:=d (b.Op,b6 b) (by simp[kC])
   simp only[kC];exact awm (awl Op) (Ri f _) (Ri o _)
def ajm:∀l:List Bi,Kf l->∀x,x∈kC l->oR x.2
 |[],h,x,hx=>by simp[kC]at hx
 |e::l,h,x,hx=>by
  rcases gh.1 hx with rfl|hx
  ·exact ajl e h.1
  ·exact ajm l h.2 x hx
end
open Go Go.Ab Go.Proofs Tryz
def br(l:List Bm)(i:Nat)(T R:List Bm):Prop:=(l.map dr).drop i=T++R
def gF(R:List Bm)(w:UB):Bool:=
 match R with
 |[]=>false
 |t::_=>(decide (t.Cc=2)||decide (t.Cc=5))&&decide (t.Text=w)
def awq(l:List Bm)(i:Nat)(w:UB):iD l i w=gF ((l.map dr).drop i) w:=by
 unfold iD;by_cases h:i<l.length
 ·rw[gl (l.map dr) i default<|by simpa using h]
  have:(l.map dr).getD i default=dr (l.getD i default):=by simp[List.getD,h]
  rw[this];generalize l.getD i default=t
  simp only[gF,h,dr,YW,iP]
  congr
 ·rw[i_ (l.map dr) i<|by simpa using h]
  simp[gF,h]
def br.is{l T R:List Bm}{i:Nat}(h:br l i T R)(w:UB):iD l i w=gF (T++R) w:=by rw[awq,h]
def br.ajo{l T R:List Bm}{i:Nat}(h:br l i T R):vY l i=Q' (uh.find? λr=>gF (T++R) r.1):=by
 unfold vY
 congr 2
 funext r
 exact h.is r.1
def br.call{l T R:List Bm}{i:Nat}(h:br l i T R):Ra l i=call2 (sI.find? λr=>gF (T++R) r.1):=by
 unfold Ra
 congr 2
 funext r
 exact h.is r.1
def br.lt{l T R:List Bm}{t:Bm}{i:Nat}(h:br l i (t::T) R):i<l.length:=by
 by_cases a:i<l.length
 ·exact a
 ·unfold br at h;rw[i_ (l.map dr) i<|by simpa using a]at h
  cases h
def br.hd{l T R:List Bm}{t:Bm}{i:Nat}(h:br l i (t::T) R):dr (l.getD i default)=t:=by
 have a:=h.lt;unfold br at h;rw[gl (l.map dr) i default<|by simpa using a,gk]at h
 injection h with h1 h2;rw[<-h1];simp[List.getD,a]
def br.iy{l T U R:List Bm}{i:Nat}(h:br l i (T++U) R):br l (i+T.length) U R:=by
 unfold br at *;rw[<-xz,h,eO,xF]
def br.gv{l T R:List Bm}{t:Bm}{i:Nat}(h:br l i (t::T) R):br l (i+1) T R:=br.iy (T:=[t]) (U:=T) h
def br.nc{l T U R:List Bm}{i:Nat}(h:br l i (T++U) R):br l i T (U++R):=by
 unfold br at *;rw[h,eO]
def br.le{l T R:List Bm}{i:Nat}(h:br l i T R)(a:T≠[]):i+T.length<=l.length:=by
 have:=congrArg List.length h
 simp only[od,jz,UO]at this;have:0<T.length:=List.length_pos_iff.2 a
 omega
def kf(R:List Bm):Int:=(Q'<|uh.find? λr=>gF R r.1).1
def aav(op:Int)(R:List Bm)(h:4<=op/\op<=8\/10<=op/\op<=17\/op=19):Q' (uh.find? λr=>gF (pz op::R) r.1)=(((cy op:Nat):Int),op):=by
 have:op=4\/op=5\/op=6\/op=7\/op=8\/op=10\/op=11\/op=12\/op=13\/op=14\/op=15\/op=16\/op=17\/op=19:=by omega
 rcases this with rfl|rfl|rfl|rfl|rfl|rfl|rfl|rfl|rfl|rfl|rfl|rfl|rfl|rfl<;>rfl
def ajp(op:Int)(R:List Bm)(h:20<=op/\op<=27):call2 (sI.find? λr=>gF (iE op::R) r.1)=op:=by
 have:op=20\/op=21\/op=22\/op=23\/op=24\/op=25\/op=26\/op=27:=by omega
 rcases this with rfl|rfl|rfl|rfl|rfl|rfl|rfl|rfl<;>rfl
def awr(R:List Bm):call2 (sI.find? λr=>gF (bn [40]::R) r.1)=0:=rfl
section
variable {l:List Bm}
def fV(l:List Bm)(i d lv:Nat)(e:Bi)(k B:Nat):Prop:=∀n,B<=n->iZ n (lv:Int) (d:Int) ⟨l,(i:Int)⟩=some (.ret e (k:Int))
def rq(l:List Bm)(i d:Nat)(e:Bi)(k B:Nat):Prop:=∀n,B<=n->oI n (d:Int) ⟨l,(i:Int)⟩=some (.ret e (k:Int))
def EY(l:List Bm)(i d:Nat)(e:Bi)(k B:Nat):Prop:=∀n,B<=n->qb n (d:Int) ⟨l,(i:Int)⟩=some (.ret e (k:Int))
def fV.mono{i d lv:Nat}{e:Bi}{k B a:Nat}(h:fV l i d lv e k B)(c:B<=a):fV l i d lv e k a:=λn b=>h n (by omega)
def ajq(e:Bi):⟨e.Op,e.N,e.S,e.ax⟩=e:=by cases e;rfl
def fV.down{i d lv:Nat}{e:Bi}{k B:Nat}(h:fV l i d (lv+1) e k B)(p:1<=lv)(g:lv<=7)(c:(vY l k).1≠(lv:Int))(f:lv=3->iD l i [110,111,116]=false):fV l i d lv e k (B+2):=by
 intro n o;obtain⟨n,rfl⟩:∃j,n=j+1:=⟨n-1,by omega⟩
 have a:=h n (by omega)
 rw[Kb];unfold xi;simp only[hM,AN,aj];by_cases b:lv=3
 ·subst b;rw[f rfl];simp only[YW,UL,UK];rw[show iZ n 4 (d:Int) ⟨l,(i:Int)⟩=_ from a]
  rfl
 ·simp only[b,show¬ lv=8 by omega,UN,UK]
  rw[fz<|by omega,a]
  obtain⟨m,hm⟩:∃j,n=j+1:=⟨n-1,by omega⟩
  simp only[aj,aG.on]
  conv=>lhs;arg 9;rw[hm]
  simp only[sl,HW,aag,aj,c,UN,YY,UL,ajq]
def rq.down{i d:Nat}{e:Bi}{k B:Nat}(h:rq l i d e k B)(a:iD l i [45]=false):fV l i d 8 e k (B+1):=by
 intro n b;obtain⟨n,rfl⟩:∃j,n=j+1:=⟨n-1,by omega⟩
 rw[Kb];unfold xi;simp only[hM,AN,aj,show¬ 8=3 by omega,YW,UN,UL,UK,a]
 rw[h n<|by omega]
 rfl
def fV.Rk{i d lv:Nat}{e:Bi}{k B:Nat}:∀(x:Nat),fV l i d (lv+x) e k B->1<=lv->lv+x<=8->(vY l k).1<(lv:Int)->(lv<=3->3<lv+x->iD l i [110,111,116]=false)->fV l i d lv e k (B+2*x)
 | 0,h,g,j,f,c=>h.mono (by omega)
 |x+1,h,g,j,f,c=>by
  have m:fV l i d (lv+x) e k (B+2):=fV.down (lv:=lv+x) h (by omega) (by omega) (by omega)<|λn=>c (by omega)<|by omega
  exact(fV.Rk x m g (by omega) f<|λa b=>c a<|by omega).mono (by omega)
def EY.of{i d:Nat}{e:Bi}{k B:Nat}(g:l.length<=1000000000)(hi:iD l i [40]=true)(h:fV l (i+1) d 1 e k B)(a:iD l k [41]=true):EY l i d e (k+1) (B+1):=by
 intro n b;obtain⟨n,rfl⟩:∃j,n=j+1:=⟨n-1,by omega⟩
 have f:=aae hi;have c:=aae a;rw[avz];unfold N8;rw[ER n l i _ (by omega)<|by omega,hi]
 simp only[aj,UL,aG.on];rw[show iZ n 1 (d:Int) ⟨l,((i+1:Nat):Int)⟩=_ from h n (by omega)]
 simp only[aj,aG.on];rw[ER n l k _ (by omega)<|by omega,a]
 rfl
def EZ{n i d:Nat}(e:l.length<=1000000000)(h:i<l.length):oI (n+1) (d:Int) ⟨l,(i:Int)⟩ =
 if(l.getD i default).Cc=3 then some (.ret ⟨1,(l.getD i default).N,[],[]⟩ ((i+1:Nat):Int))else if(l.getD i default).Cc=4 then some (.ret ⟨2,0,(l.getD i default).Text,[]⟩ ((i+1:Nat):Int))
 else if(l.getD i default).Cc=1 then some (.ret ⟨3,0,(l.getD i default).Text,[]⟩ ((i+1:Nat):Int))else zR n (iZ n) (qa n) (oI n) (qb n) (d:Int) ⟨l,(i:Int)⟩ (i:Int):=by
 rw[avy];unfold N7
 (rw[fz<|by omega];simp only[US];rw[aiX<|by omega])
 simp only[UP,h,YW,UL,bW h,aF];by_cases b:(l.getD i default).Cc=3
 ·simp only[b,YW,UL,U3]
 ·by_cases a:(l.getD i default).Cc=4
  ·simp only[a,show¬ (4:Int)=3 by omega,YW,UN,UL,UK,U3,UY]
  ·by_cases c:(l.getD i default).Cc=1
   ·simp only[c,show¬ (1:Int)=3 by omega,show¬ (1:Int)=4 by omega,YW,UN,UL,UK,U3,UY]
   ·simp only[b,a,c,UN,UK,UY]
def rq.paren{i d:Nat}{e:Bi}{k B:Nat}(g:l.length<=1000000000)(b:mJ l){T R:List Bm}(aT:br l i (bn [40]::T) R)(hd:d<=23)(h:EY l i (d+1) e k B):rq l i d e k (B+1):=by
 intro n m;obtain⟨n,rfl⟩:∃j,n=j+1:=⟨n-1,by omega⟩
 have f:=aT.lt;have c:=aT.hd;have a:(l.getD i default).Cc=5:=by have:=congrArg Bm.Cc c;exact this
 rw[EZ g f,a,de<|by decide,de<|by decide,de<|by decide]
 unfold zR N6;rw[aah n l i b,aT.call,gk,awr,AN,aT.is,gk,aai n l i d (by omega)<|by omega,de<|by omega]
 simp only[aj,YW,UL,show gF (bn [40]::(T++R)) [40]=true from rfl,UR,UK,aG.on]
 rw[h n<|by omega]
 rfl
def rq.word{i d:Nat}{e:Bi}{k B:Nat}{op:Int}(o:20<=op/\op<=24)(g:l.length<=1000000000)(b:mJ l){T R:List Bm}(aT:br l i (iE op::T) R)(hd:d<=23)(h:EY l (i+1) (d+1) e k B):rq l i d ⟨op,0,[],[e]⟩ k (B+1):=by
 intro n m;obtain⟨n,rfl⟩:∃j,n=j+1:=⟨n-1,by omega⟩
 have f:=aT.lt;have c:=aT.hd;have a:(l.getD i default).Cc=2:=by have:=congrArg Bm.Cc c;exact this.trans (EX op).2
 rw[EZ g f,a,de<|by decide,de<|by decide,de<|by decide]
 unfold zR Df Wc;rw[aah n l i b,aT.call,gk,ajp op _<|by omega,aai n l i d (by omega)<|by omega,de<|by omega]
 simp only[aj,show¬ op=0 by omega,show¬ op=25 by omega,show¬ op=26 by omega,show¬ op=27 by omega,UN,UK,aG.on]
 rw[fz<|by omega,h n<|by omega]
 rfl
def rq.aws{i d:Nat}{op:Int}(p:25<=op/\op<=27)(k:l.length<=1000000000)(b:mJ l){R:List Bm}(aT:br l i [iE op,bn [40],bn [41]] R):rq l i d ⟨op,0,[],[]⟩ (i+3) 1:=by
 intro n o;obtain⟨n,rfl⟩:∃j,n=j+1:=⟨n-1,by omega⟩
 have h:=aT.lt;have f:=aT.hd;have e:=aT.gv.is [40];have c:=aT.gv.gv.is [41];have a:(l.getD i default).Cc=2:=by have:=congrArg Bm.Cc f;exact this.trans (EX op).2
 rw[EZ k h,a,de<|by decide,de<|by decide,de<|by decide]
 unfold zR Df;rw[aah n l i b,aT.call,gk,ajp op _<|by omega,fz<|by omega,ER n l (i+1) _ (by omega)<|by omega,e]
 simp only[aj,show¬ op=0 by omega,UN,UK,show gF ([bn [40],bn [41]]++R) [40]=true from rfl,oK,aG.on]
 rw[ER n l (i+1+1) _ (by omega)<|by omega,c]
 simp only[aj,show gF ([bn [41]]++R) [41]=true from rfl,oK,aG.on]
 by_cases m:op=25
 ·simp only[m,YW,UL]
 ·by_cases g:op=26
  ·simp only[g,show¬ (26:Int)=25 by omega,YW,UN,UL,UK]
  ·obtain rfl:op=27:=by omega
   simp only[show¬ (27:Int)=25 by omega,show¬ (27:Int)=26 by omega,YW,UN,UL,UK]
def fV.ajr{i d lv:Nat}{e:Bi}{k B:Nat}{op:Int}{w:UB}(b:(lv=3/\w=[110,111,116]/\op=18)\/(lv=8/\w=[45]/\op=9))(g:l.length<=1000000000)(hi:iD l i w=true)(hd:d<=23)(h:fV l (i+1) (d+1) lv e k B):fV l i d lv ⟨op,0,[],[e]⟩ k (B+2):=by
 intro n c;obtain⟨n,rfl⟩:∃j,n=j+1:=⟨n-1,by omega⟩
 obtain⟨n,rfl⟩:∃j,n=j+1:=⟨n-1,by omega⟩
 have f:=aae hi
 have a:qa (n+1) op (lv:Int) (d:Int) ⟨l,(i:Int)⟩=some (.ret ⟨op,0,[],[e]⟩ (k:Int)):=by
  rw[avx];unfold N5;rw[aai n l i d (by omega)<|by omega,de<|by omega]
  simp only[aj,aG.on];rw[fz<|by omega,h n<|by omega]
  rfl
 rw[Kb];unfold xi;rcases b with⟨rfl,rfl,rfl⟩|⟨rfl,rfl,rfl⟩
 ·simp only[hM,AN,aj,hi,YW,UL,a,aG.on]
 ·simp only[hM,AN,aj,hi,show¬ 8=3 by omega,YW,UN,UL,UK,a,aG.on]
end
open Go Go.Ab Go.Proofs Tryz
def awt{op:Int}{p:mM}{k:Nat}{R:List Bm}{w:UB}(a:w≠[40])(h:cy op<k):gF (dH (gf op p k)++R) w=false:=by
 unfold gf;rw[eI h];simp only[dH,gk,gF,bn,en (show¬ [40]=w from λe=>a e.symm),kL]
def awu{l:List Bi}{n:Int}(h:(l.length:Int)=n)(d:n=2):∃a b,l=[a,b]:=by
 match l,h with
 |[a,b],_=>exact⟨a,b,rfl⟩
 |[],h=>simp at h;omega
 |[a],h=>simp at h;omega
 |a::b::c::l,h=>simp at h;omega
def awv{l:List Bi}{n:Int}(h:(l.length:Int)=n)(c:n=1):∃a,l=[a]:=by
 match l,h with
 |[a],_=>exact⟨a,rfl⟩
 |[],h=>simp at h;omega
 |a::b::l,h=>simp at h;omega
def aww{l:List Bi}{n:Int}(h:(l.length:Int)=n)(b:n=0):l=[]:=by
 match l,h with
 |[],_=>rfl
 |a::l,h=>simp at h;omega
def AQ(e:Bi)(h:hH e):
 (e.Op=1/\e=⟨1,e.N,[],[]⟩)\/(e.Op=2/\e=⟨2,0,e.S,[]⟩)\/(e.Op=3/\e=⟨3,0,e.S,[]⟩)\/((25<=e.Op/\e.Op<=27)/\e=⟨e.Op,0,[],[]⟩)\/
 (∃a,e=⟨e.Op,0,[],[a]⟩/\hH a/\ge e=1+ge a/\(e.Op=9\/e.Op=18\/20<=e.Op/\e.Op<=24))\/
 (∃a b,e=⟨e.Op,0,[],[a,b]⟩/\hH a/\hH b/\ge e=1+max (ge a) (ge b)/\(4<=e.Op/\e.Op<=8\/10<=e.Op/\e.Op<=17\/e.Op=19)):=by
 let⟨Op,N,S,q⟩:=e;let⟨⟨n,g⟩,r,j,f,p,o,i⟩:=h;rcases awp n with⟨c,d⟩|⟨c,d⟩|⟨c,d⟩
 ·obtain rfl:=aww g c;by_cases m:Op=1
  ·subst m;obtain rfl:=f (by omega);exact kP ⟨rfl,rfl⟩
  ·obtain rfl:=j m;by_cases l:Op=2
   ·subst l;exact iR<|kP ⟨rfl,rfl⟩
   ·by_cases k:Op=3
    ·subst k;exact iR<|iR<|kP ⟨rfl,rfl⟩
    ·obtain rfl:=f ⟨l,k⟩;exact iR<|iR<|iR<|kP ⟨⟨by simp only;omega,by simp only;omega⟩,rfl⟩
 ·obtain⟨a,rfl⟩:=awv g c;obtain rfl:=j (by omega)
  obtain rfl:=f (by omega)
  exact iR<|iR<|iR<|iR<|kP ⟨a,rfl,i.1,by simp[ge,sM],d⟩
 ·obtain⟨a,b,rfl⟩:=awu g c;obtain rfl:=j (by omega)
  obtain rfl:=f (by omega)
  exact iR (iR<|iR<|iR<|iR ⟨a,b,rfl,i.1,i.2.1,by simp[ge,sM],d⟩)
def Rl{op:Int}{a b:Bi}(h:4<=op/\op<=8\/10<=op/\op<=17\/op=19):b6 ⟨op,0,[],[a,b]⟩=gf a.Op (b6 a) (if cy op=4 then 5 else cy op)++none::some (pz op)::none::gf b.Op (b6 b) (cy op+1):=by
 simp only[b6,kC,md];rw[de<|by omega,de<|by omega,de<|by omega]
def Ki{op:Int}{a b:Bi}(h:4<=op/\op<=8\/10<=op/\op<=17\/op=19):dH (b6 ⟨op,0,[],[a,b]⟩)=dH (gf a.Op (b6 a) (if cy op=4 then 5 else cy op))++pz op::dH (gf b.Op (b6 b)<|cy op+1):=by
 rw[Rl h,xX];rfl
def E0{op:Int}(h:4<=op/\op<=8\/10<=op/\op<=17\/op=19):cy op=1\/cy op=2\/cy op=4\/cy op=5\/cy op=6\/cy op=7:=by
 have:op=4\/op=5\/op=6\/op=7\/op=8\/op=10\/op=11\/op=12\/op=13\/op=14\/op=15\/op=16\/op=17\/op=19:=by omega
 rcases this with rfl|rfl|rfl|rfl|rfl|rfl|rfl|rfl|rfl|rfl|rfl|rfl|rfl|rfl<;>decide
def aaw(op:Int):1<=cy op/\cy op<=9:=by
 unfold cy;by_cases a:op=17
 ·rw[eI a];omega
 by_cases b:op=16
 ·rw[de a,eI b];omega
 by_cases c:op=18
 ·rw[de a,de b,eI c];omega
 by_cases d:10<=op/\op<=15
 ·rw[de a,de b,de c,eI d];omega
 by_cases e:op=19
 ·rw[de a,de b,de c,de d,eI e];omega
 by_cases f:op=4\/op=5
 ·rw[de a,de b,de c,de d,de e,eI f];omega
 by_cases g:6<=op/\op<=8
 ·rw[de a,de b,de c,de d,de e,de f,eI g];omega
 by_cases h:op=9
 ·rw[de a,de b,de c,de d,de e,de f,de g,eI h];omega
 rw[de a,de b,de c,de d,de e,de f,de g,de h];omega
def ajs{c:Prop}[Decidable c]{a b:Bm}{R:List Bm}{w:UB}(e:gF (a::R) w=false)(d:gF (b::R) w=false):gF ((if c then a else b)::R) w=false:=by
 by_cases h:c
 ·rw[eI h];exact e
 ·rw[de h];exact d
def Rm(op:Int)(R:List Bm):gF (iE op::R) [110,111,116]=false/\gF (iE op::R) [45]=false:=by
 unfold iE;constructor
 ·repeat refine ajs rfl ?_
  rfl
 ·repeat refine ajs rfl ?_
  rfl
def ajt:∀(h:Nat) (e:Bi),ge e<=h->hH e->3<cy e.Op->∀R,gF (dH (b6 e)++R) [110,111,116]=false:=by
 intro h;induction h with
 |zero=>intro e j;rw[v_]at j;omega
 |succ h p=>
  intro e j m d R;rcases AQ e m with⟨_,c⟩|⟨_,c⟩|⟨_,c⟩|⟨o,c⟩|⟨a,c,k,n,f⟩|⟨a,b,c,k,q,n,f⟩
  ·rw[c];rfl
  ·rw[c];rfl
  ·rw[c];rfl
  ·generalize e.Op=op at o c
   rw[c];simp only[b6,kC,md];rw[de<|by omega,de<|by omega,de<|by omega]
   exact(Rm _ _).1
  ·generalize e.Op=op at d c f
   rw[c];simp only[b6,kC,md];rw[de<|by omega,de<|by omega,de<|by omega]
   by_cases i:op=18
   ·rw[i]at d;exact absurd d (by decide)
   ·rw[de i];by_cases l:op=9
    ·rw[eI l];rfl
    ·rw[de l];exact(Rm _ _).1
  ·generalize e.Op=op at d c f
   rw[c,Ki f,eO];by_cases g:cy a.Op<(if cy op=4 then 5 else cy op)
   ·exact awt (by decide) g
   ·unfold gf;rw[de g];refine p a (by omega) k ?_ _
    split at g<;>omega
def awx(e:Bi)(j:hH e)(d:8<cy e.Op)(R:List Bm):gF (dH (b6 e)++R) [45]=false:=by
 rcases AQ e j with⟨_,c⟩|⟨_,c⟩|⟨_,c⟩|⟨l,c⟩|⟨a,c,i,k,f⟩|⟨a,b,c,i,m,k,f⟩
 ·rw[c];rfl
 ·rw[c];rfl
 ·rw[c];rfl
 ·generalize e.Op=op at l c
  rw[c];simp only[b6,kC,md];rw[de<|by omega,de<|by omega,de<|by omega]
  exact(Rm _ _).2
 ·generalize e.Op=op at d c f
  rw[c];simp only[b6,kC,md];rw[de<|by omega,de<|by omega,de<|by omega]
  by_cases g:op=18
  ·rw[g]at d;exact absurd d (by decide)
  ·rw[de g];by_cases h:op=9
   ·rw[h]at d;exact absurd d (by decide)
   ·rw[de h];exact(Rm _ _).2
 ·have:=E0 f;omega
section
variable {l:List Bm}
abbrev fO(e:Bi)(lv:Nat):List Bm:=dH (gf e.Op (b6 e) lv)
def sN(l:List Bm)(e:Bi):Prop:=∀(lv i d:Nat) (R:List Bm),1<=lv->lv<=8->br l i (fO e lv) R->kf R<(lv:Int)->d+2*ge e<=25\/(lv<=cy e.Op/\d+2*ge e<=26)->
 fV l i d lv e (i+(fO e lv).length) (24*(fO e lv).length+40-2*lv)
def aax(l:List Bm)(e:Bi):Prop:=∀(L i d:Nat) (R:List Bm),(L=1\/L=2\/L=5\/L=6\/L=7)->br l i (fO e L) R->kf R<=(L:Int)->d+2*ge e<=25->∀n,24*(fO e L).length+40<=n+2*L+1->
 ∃j,j<=(fO e L).length/\iZ (n+1) (L:Int) (d:Int) ⟨l,(i:Int)⟩=sl n (iZ n) (qa n) (oI n) (qb n) (L:Int) (d:Int) ⟨l,(i:Int)⟩ (n-j) ((i+(fO e L).length:Nat):Int) e.Op e.N e.S e.ax
def br.aay{T R:List Bm}{i:Nat}(h:br l i T R)(b:T≠[]):(vY l<|i+T.length).1=kf R:=by
 have a:br l (i+T.length) [] R:=by
  unfold br at *;rw[<-xz,h,xF];rfl
 rw[a.ajo];rfl
def aju{n i d L k m:Nat}{op:Int}{a b:Bi}(s:l.length<=1000000000)(e:4<=op/\op<=8\/10<=op/\op<=17\/op=19)(h:L=cy op)(g:sN l b){R:List Bm}
 (aT:br l k (pz op::fO b (L+1)) R) (r:kf R<=(L:Int)) (hd:d+2*ge b<=25) (o:24*(fO b<|L+1).length+40<=n+2*(L+1)):
 sl n (iZ n) (qa n) (oI n) (qb n) (L:Int) (d:Int) ⟨l,(i:Int)⟩ (m+1) (k:Int) a.Op a.N a.S a.ax =
  if L=4 then some (.ret ⟨op,0,[],[a,b]⟩ ((k+1+(fO b<|L+1).length:Nat):Int)) else
  sl n (iZ n) (qa n) (oI n) (qb n) (L:Int) (d:Int) ⟨l,(i:Int)⟩ m ((k+1+(fO b<|L+1).length:Nat):Int) op 0 [] [a,b]:=by
 have q:=E0 e;have p:=aT.lt;have c:vY l k=((L:Int),op):=by rw[aT.ajo,gk,aav op _ e,h]
 have j:=g (L+1) (k+1) d R (by omega) (by omega) aT.gv (by omega) (kP hd) n (by omega)
 simp only[sl,HW];rw[aag,c];simp only[aj,YW,UR,UK];rw[fz<|by omega,fz<|by omega,j]
 simp only[aj,aG.on,hM,ajq];by_cases f:L=4
 ·simp only[f,YW,UL,U3]
 ·simp only[f,UN,UK,UY]
def Rn(e:Bi)(lv:Nat)(h:hH e):fO e lv≠[]:=by
 unfold fO gf;split
 ·simp[dH]
 ·rcases AQ e h with⟨_,c⟩|⟨_,c⟩|⟨_,c⟩|⟨i,c⟩|⟨a,c,f,g,d⟩|⟨a,b,c,f,j,g,d⟩
  ·rw[c];simp[b6,md,dH]
  ·rw[c];simp[b6,md,dH]
  ·rw[c];simp[b6,md,dH]
  ·generalize e.Op=op at i c
   rw[c];simp only[b6,kC,md];rw[de<|by omega,de<|by omega,de<|by omega]
   simp[dH]
  ·generalize e.Op=op at d c
   rw[c];simp only[b6,kC,md];rw[de<|by omega,de<|by omega,de<|by omega]
   split
   ·simp[dH]
   ·split<;>simp[dH]
  ·generalize e.Op=op at d c
   rw[c,Ki d];simp
def ajv{i d n:Nat}{op:Int}{a b:Bi}(w:l.length<=1000000000)(e:4<=op/\op<=8\/10<=op/\op<=17\/op=19)(c:cy op≠4)(x:hH a)(r:aax l a)(q:sN l b){R:List Bm}
 (aT:br l i (dH<|b6 ⟨op,0,[],[a,b]⟩) R) (t:kf R<=(cy op:Int)) (p:d+2*ge a<=25) (g:d+2*ge b<=25) (f:24*(dH<|b6 ⟨op,0,[],[a,b]⟩).length+40<=n+2*cy op+1):
 ∃j,j<=(dH<|b6 ⟨op,0,[],[a,b]⟩).length/\iZ (n+1) (cy op:Int) (d:Int) ⟨l,(i:Int)⟩ =
  sl n (iZ n) (qa n) (oI n) (qb n) (cy op:Int) (d:Int) ⟨l,(i:Int)⟩ (n-j) ((i+(dH<|b6 ⟨op,0,[],[a,b]⟩).length:Nat):Int) op 0 [] [a,b]:=by
 have z:=E0 e;have o:=Ki (a:=a) (b:=b) e;rw[de c]at o;rw[o]at aT f ⊢;have u:dH (gf a.Op (b6 a)<|cy op)=fO a (cy op):=rfl;have s:dH (gf b.Op (b6 b)<|cy op+1)=fO b (cy op+1):=rfl;rw[u,s]at aT f ⊢;have h:=aT.nc;simp only[UO,UT]at f ⊢;let⟨j,y,k⟩:=r (cy op) i d _ (by omega) h (by unfold kf;rw[gk,aav op _ e];exact wV _) p n (by omega)
 refine⟨j+1,by omega,?_⟩
 rw[k];obtain⟨m,hm⟩:∃m,n-j=m+1:=⟨n-j-1,by omega⟩
 rw[hm,aju w e rfl q aT.iy t g<|by omega,de c]
 rw[show n-(j+1)=m by omega,show i+(fO a<|cy op).length+1+(fO b<|cy op+1).length=i+((fO a<|cy op).length+((fO b<|cy op+1).length+1))by omega]
end
open Go Go.Ab Go.Proofs Tryz
section
variable {l:List Bm}
def f_(l:List Bm)(e:Bi):Prop:=∀(i d:Nat) (R:List Bm),br l i (dH<|b6 e) R->kf R<(cy e.Op:Int)->d+2*ge e<=26->
 if cy e.Op=9 then rq l i d e (i+(dH<|b6 e).length) (24*(dH<|b6 e).length+20)else fV l i d (cy e.Op) e (i+(dH<|b6 e).length) (24*(dH<|b6 e).length+40-2*cy e.Op)
theorem aaA(h:l.length<=1000000000)(e:Bi)(t:Bm)(b:cy e.Op=9)(c:dH (b6 e)=[t])(a:∀n i d,i<l.length->dr (l.getD i default)=t->oI (n+1) ((d:Nat):Int) ⟨l,(i:Int)⟩=some (.ret e ((i+1:Nat):Int))):f_ l e:=by
 intro i d R aT g hd;rw[eI b];intro n f;obtain⟨n,rfl⟩:∃j,n=j+1:=⟨n-1,by omega⟩
 rw[c]at aT ⊢;exact a n i d aT.lt aT.hd
def Ro{t u:Bm}(h:dr t=u):t.Cc=u.Cc/\t.Text=u.Text/\t.N=u.N:=by subst h;exact⟨rfl,rfl,rfl⟩
def E1(t:l.length<=1000000000)(w:mJ l){e:Bi}(j:hH e)(h:f_ l e):sN l e:=by
 have E:=aaw e.Op
 have b:dH (b6 e)≠[]:=by
  have:=Rn e 0 j
  unfold fO gf at this
  rwa [de<|by omega]at this
 have z:0<(dH<|b6 e).length:=List.length_pos_iff.2 b
 -- am8 aDv, from any level below
 have core:∀(lv i d:Nat) (R:List Bm),1<=lv->lv<=8->lv<=cy e.Op->br l i (dH<|b6 e) R->kf R<(lv:Int)->d+2*ge e<=26->fV l i d lv e (i+(dH<|b6 e).length) (24*(dH<|b6 e).length+40-2*lv):=by
  intro lv i d R f s A aT g hd;have a:=aT.aay b;have k:=h i d R aT (by omega) hd
  by_cases r:cy e.Op=9
  ·rw[eI r]at k;have n:=k.down (by rw[aT.is];exact awx e j (by omega) R)
   have:=fV.Rk (lv:=lv) (8-lv) (by rw[show lv+(8-lv)=8 by omega];exact n) f (by omega) (by rw[a];exact g) (λ_ _=>by rw[aT.is];exact ajt (ge e) e (fS _) j (by omega) R)
   exact this.mono (by omega)
  ·rw[de r]at k;have:=fV.Rk (lv:=lv) (cy e.Op-lv) (by rw[show lv+(cy e.Op-lv)=cy e.Op by omega];exact k) f (by omega) (by rw[a];exact g) (λ_ _=>by rw[aT.is];exact ajt (ge e) e (fS _) j (by omega) R)
   exact this.mono (by omega)
 intro lv i d R f s aT g hd;by_cases q:cy e.Op<lv
 ·have y:d+2*ge e<=25:=by rcases hd with h|h<;>omega
  have B:=v_ e
  have m:fO e lv=bn [40]::(dH (b6 e)++[bn [41]]):=by
   unfold fO gf;rw[eI q];simp only[dH,xX]
  have a:=aT.aay<|Rn e lv j;rw[m]at aT a ⊢;simp only[UT,UO,UU]at a ⊢;have c:=aT.gv;have p:=c.iy;have o:=core 1 (i+1) (d+1) _ (by omega) (by omega) (by omega) c.nc (by show kf (bn [41]::R)<1;rw[show kf (bn [41]::R)=0 from rfl];omega) (by omega)
  have u:=EY.of t (by rw[aT.is];rfl) o (by rw[p.is];rfl)
  have x:=rq.paren t w aT (by omega) u
  have n:=x.down (by rw[aT.is];rfl)
  have:=fV.Rk (lv:=lv) (8-lv) (by rw[show lv+(8-lv)=8 by omega];exact n) f (by omega) (by rw[show i+1+(dH<|b6 e).length+1=i+((dH<|b6 e).length+(0+1)+1)by omega,a];exact g) (λ_ _=>by rw[aT.is];rfl)
  rw[show i+1+(dH<|b6 e).length+1=i+((dH<|b6 e).length+(0+1)+1)by omega]at this
  exact this.mono (by omega)
 ·have m:fO e lv=dH (b6 e):=by unfold fO gf;rw[de q]
  rw[m]at aT ⊢;exact core lv i d R f s (by omega) aT g (by rcases hd with h|h<;>omega)
def E2{e:Bi}(o:hH e)(m:sN l e)
 (b:cy e.Op=1\/cy e.Op=2\/cy e.Op=5\/cy e.Op=6\/cy e.Op=7->∀(i d n:Nat) (R:List Bm),br l i (dH<|b6 e) R->kf R<=(cy e.Op:Int)->d+2*ge e<=26->24*(dH<|b6 e).length+40<=n+2*cy e.Op+1->
  ∃j,j<=(dH<|b6 e).length/\iZ (n+1) (cy e.Op:Int) (d:Int) ⟨l,(i:Int)⟩=sl n (iZ n) (qa n) (oI n) (qb n) (cy e.Op:Int) (d:Int) ⟨l,(i:Int)⟩ (n-j) ((i+(dH<|b6 e).length:Nat):Int) e.Op e.N e.S e.ax):aax l e:=by
 intro L i d R g aT k hd n c;by_cases f:cy e.Op=L
 ·have a:fO e L=dH (b6 e):=by unfold fO gf;rw[de<|by omega]
  rw[a]at aT c ⊢;subst f;exact b g i d n R aT k (by omega) c
 ·have a:fO e (L+1)=fO e L:=by
   unfold fO gf;by_cases h:cy e.Op<L
   ·rw[eI h,eI<|by omega]
   ·rw[de h,de<|by omega]
  have h:=m (L+1) i d R (by omega) (by omega) (by rw[a];exact aT) (by omega) (kP hd) n (by rw[a];omega)
  rw[a]at h;refine⟨0,by omega,?_⟩
  rw[Kb];unfold xi;simp only[hM,show¬ L=3 by omega,show¬ L=8 by omega,UN,UK]
  rw[fz<|by omega,h]
  simp only[aj,aG.on,pN]
theorem awC(aa:l.length≤1000000000)(hg:mJ l):∀(h:Nat) (e:Bi),ge e≤h→hH e→sN l e∧aax l e:=by
 intro h;induction h with
 |zero=>intro e he;rw [v_]at he;omega
 |succ h aE=>
  intro e he cU;rcases AQ e cU with⟨h1,am⟩|⟨h1,am⟩|⟨h1,am⟩|⟨af,am⟩|⟨a,am,ha,bf,ei⟩|⟨a,b,am,ha,hb,bf,ei⟩
  ·have bU:sN l e:=E1 aa hg cU (by
    rw [am];refine aaA aa _ (py e.N) rfl rfl λn i d hi az=>?_
    obtain⟨h1,h2,ah⟩:=Ro az;rw [EZ aa hi,h1,ah];rfl)
   exact⟨bU,E2 cU bU (λhc=>by rw [h1]at hc;exact absurd hc (by decide))⟩
  ·have bU:sN l e:=E1 aa hg cU (by
    rw [am];refine aaA aa _ (Rf e.S) rfl rfl λn i d hi az=>?_
    obtain⟨h1,h2,ah⟩:=Ro az;rw [EZ aa hi,h1,h2];rfl)
   exact⟨bU,E2 cU bU (λhc=>by rw [h1]at hc;exact absurd hc (by decide))⟩
  ·have bU:sN l e:=E1 aa hg cU (by
    rw [am];refine aaA aa _ (iS e.S) rfl rfl λn i d hi az=>?_
    obtain⟨h1,h2,ah⟩:=Ro az;rw [EZ aa hi,h1,h2];rfl)
   exact⟨bU,E2 cU bU (λhc=>by rw [h1]at hc;exact absurd hc (by decide))⟩
  ·have gH:cy e.Op=9:=by
    have:e.Op=25∨e.Op=26∨e.Op=27:=by omega
    rcases this with h|h|h<;>rw [h]<;>decide
   have bU:sN l e:=E1 aa hg cU (by
    intro i d R aT dK hd;rw [if_pos gH];generalize e.Op=op at af am
    have az:dH (b6 e)=[iE op,bn [40],bn [41]]:=by
     rw [am];simp only [b6,kC,md];rw [if_neg (by omega),if_neg (by omega),if_neg (by omega)];rfl
    rw [az]at aT ⊢;rw [am];exact λn hn=>rq.aws af aa hg aT n (by simp only [UT,UU]at hn;omega))
   exact⟨bU,E2 cU bU (λhc=>by omega)⟩
  ·obtain⟨Kj,aaB⟩:=aE a (by omega) ha
   have gH:cy e.Op=9∨cy e.Op=3∨cy e.Op=8:=by
    have:e.Op=9∨e.Op=18∨e.Op=20∨e.Op=21∨e.Op=22∨e.Op=23∨e.Op=24:=by omega
    rcases this with h|h|h|h|h|h|h<;>rw [h]<;>decide
   have bU:sN l e:=E1 aa hg cU (by
    intro i d R aT dK hd;rw [bf]at hd;have aDx:=v_ a;generalize e.Op=op at ei am gH dK
    have hne:=Rn a 3 ha;by_cases od:op=18
    ·subst od;have az:dH (b6 e)=d' [110,111,116]::fO a 3:=by rw [am];rfl
     rw [if_neg (show¬ cy 18=9 by decide)]
     rw [az]at aT ⊢;have:=Kj 3 (i+1) (d+1) R (by omega) (by omega) aT.gv dK (Or.inl (by omega))
     have h2:=fV.ajr (op:=18) (Or.inl ⟨rfl,rfl,rfl⟩) aa (by rw [aT.is];rfl) (by omega) this
     rw [am];simp only [UT];rw [show i+((fO a 3).length+1)=i+1+(fO a 3).length by omega]
     exact h2.mono (by rw [show cy 18=3 from rfl];omega)
    ·by_cases ea:op=9
     ·subst ea;have az:dH (b6 e)=bn [45]::fO a 8:=by rw [am];rfl
      rw [if_neg (show¬ cy 9=9 by decide)]
      rw [az]at aT ⊢;have:=Kj 8 (i+1) (d+1) R (by omega) (by omega) aT.gv dK (Or.inl (by omega))
      have h2:=fV.ajr (op:=9) (Or.inr ⟨rfl,rfl,rfl⟩) aa (by rw [aT.is];rfl) (by omega) this
      rw [am];simp only [UT];rw [show i+((fO a 8).length+1)=i+1+(fO a 8).length by omega]
      exact h2.mono (by rw [show cy 9=8 from rfl];omega)
     ·have aaC:20≤op∧op≤24:=by omega
      have awD:cy op=9:=by
       have:op=20∨op=21∨op=22∨op=23∨op=24:=by omega
       rcases this with h|h|h|h|h<;>rw [h]<;>decide
      have e1:fO a 1=dH (b6 a):=by unfold fO gf;rw [if_neg (by have:=aaw a.Op;omega)]
      have az:dH (b6 e)=iE op::bn [40]::(fO a 1++[bn [41]]):=by
       rw [am,e1];simp only [b6,kC,md];rw [if_neg (by omega),if_neg (by omega),if_neg (by omega),if_neg od,if_neg ea]
       simp only [dH,xX]
      rw [if_pos awD];rw [az]at aT ⊢;have hA2:=aT.gv.gv;have awE:=hA2.iy;have:=Kj 1 (i+1+1) (d+1) _ (by omega) (by omega) hA2.nc (by show kf (bn [41]::R)<1;rw [show kf (bn [41]::R)=0 from rfl];omega) (Or.inl (by omega))
      have nX:=EY.of aa (by rw [aT.gv.is];rfl) this (by rw [awE.is];rfl)
      have gB:=rq.word aaC aa hg aT (by omega) nX
      rw [am];simp only [UT,UO,UU];rw [show i+((fO a 1).length+(0+1)+1+1)=i+1+1+(fO a 1).length+1 by omega]
      exact λn hn=>gB n (by omega))
   exact⟨bU,E2 cU bU (λhc=>by omega)⟩
  ·obtain⟨Kj,aaB⟩:=aE a (by omega) ha
   obtain⟨aaD,aDy⟩:=aE b (by omega) hb
   have gH:=E0 ei
   have bU:sN l e:=E1 aa hg cU (by
    intro i d R aT dK hd;rw [bf]at hd;generalize e.Op=op at ei am gH dK
    rw [if_neg (by omega)]
    rw [am]at aT ⊢;intro n hn;obtain⟨n,rfl⟩:∃j,n=j+1:=⟨n-1,by omega⟩
    by_cases ay:cy op=4
    ·have az:=Ki (a:=a) (b:=b) ei;rw [if_pos ay]at az;have bN:dH (gf a.Op (b6 a) 5)=fO a 5:=rfl;have e1:dH (gf b.Op (b6 b) (cy op+1))=fO b (4+1):=by rw [ay]
     rw [bN,e1]at az;rw [az]at aT hn ⊢;rw [ay]at dK hn ⊢;simp only [UO,UT]at hn ⊢;have:=Kj 5 i d _ (by omega) (by omega) aT.nc (by unfold kf;rw [List.cons_append,aav op _ ei,ay];show((4:Nat):Int)<((5:Nat):Int);omega) (Or.inl (by omega)) n (by omega)
     rw [Kb];unfold xi;simp only [hM,show¬ 4=3 by omega,show¬ 4=8 by omega,UN,UK]
     rw [fz (by omega),this]
     simp only [aj,aG.on];obtain⟨m,hm⟩:∃j,n=j+1:=⟨n-1,by omega⟩
     conv=>lhs;arg 9;rw [hm]
     rw [aju aa ei ay.symm aaD aT.iy (by omega) (by omega) (by omega),if_pos rfl]
     rw [show i+(fO a 5).length+1+(fO b (4+1)).length=i+((fO a 5).length+((fO b (4+1)).length+1))by omega]
    ·obtain⟨j,hj,aaz⟩:=ajv (i:=i) (d:=d) (n:=n) aa ei ay ha aaB aaD aT (by omega) (by omega) (by omega) (by omega)
     rw [aaz];have hne:dH (b6 ⟨op,0,[],[a,b]⟩)≠[]:=by rw [Ki ei];simp
     have xZ:=aT.aay hne;obtain⟨m,hm⟩:∃m,n-j=m+1:=⟨n-j-1,by omega⟩
     rw [hm];simp only [sl,HW];rw [aag];simp only [aj];rw [decide_eq_false (show¬ (vY l (i+(dH (b6 ⟨op,0,[],[a,b]⟩)).length)).1=(cy op:Int)by rw [xZ];omega)]
     simp only [YY,UL])
   refine⟨bU,E2 cU bU (λhc i d n R aT dK hd hn=>?_)⟩
   rw [bf]at hd;generalize e.Op=op at ei am gH dK hc hn
   rw [am]at aT hn ⊢;exact ajv (i:=i) (d:=d) (n:=n) aa ei (by omega) ha aaB aaD aT dK (by omega) (by omega) hn
end
end Go.Ab.Y

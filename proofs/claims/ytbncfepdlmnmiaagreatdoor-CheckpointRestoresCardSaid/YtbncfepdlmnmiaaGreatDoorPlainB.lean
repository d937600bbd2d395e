/- The plain law: what the functions compute answers as the statement says. -/
import Derived.Lib.ItoaNum
import Derived.Lib.ItoaLen
import Derived.Test.YtbncfepdlmnmiaaGreatDoorPlainA
set_option linter.all false
namespace Go.Ab.Y
open Go Go.Ab Go.Proofs
def ao0(n:Nat)(s:Stmt)(u:lu):Ir n s u=some (!By s u&&rX s):=by
 have hm:(bif decide (s.Op=6)then some (bif decide (1≤s.Max)then decide (s.Max≤16)else false)else bif decide (s.Op=8)then some (bif decide (0≤s.Max)then decide (s.Max≤999)else false)else some true)=some (rX s):=by
  unfold rX;by_cases cz:s.Op=6
  ·simp only [cz,aus,auu,auH,ee]
  ·by_cases eD:s.Op=8
   ·simp only [eD,show¬ (8:Int)=6 by omega,aus,aut,auu,auv,auH,auI,ee]
   ·simp only [cz,eD,aut,auv,auI]
 unfold Ir By;rw [hm];simp only [adB,gO,ee,dL,gc];generalize decide (s.Name=[])=x
 generalize nj s.A=y
 generalize nj s.B=z
 generalize decide (s.Max=0)=w
 generalize decide (0<s.Body.length)=p
 generalize decide (0<s.bK.length)=q
 generalize rX s=r
 obtain⟨pL,a,b,ku,hR,xP⟩:=u;cases pL<;>cases x<;>cases a<;>cases y<;>cases b<;>cases z<;>simp only [auw,aux,Bool.and_true,Bool.and_false,Bool.true_and,Bool.false_and,auG,Bool.or_false,Bool.true_or,Bool.false_or,auu,auv,al]<;>(cases ((!ku && !w)||(!hR&&p)||(!xP&&q))<;>simp_all)
def ao1{n:Nat}(s:Stmt)(d:Int)(e4:cN s.A≤n)(e0:cN s.B≤n)(Vk:cN s.A≤140737488351232)(qK:cN s.B≤140737488351232)(aQ:s.Name.length≤140737488351232):Ix n s d=some (kK s d):=by
 unfold Ix Iw Iv kK;simp only [aoX,al,gO,kl,ao0,Bm n s.Name aQ,adz s.A e4 Vk,adz s.B e0 qK];generalize (km s.Op)=U
 obtain⟨u,ao2⟩:=U;obtain⟨pL,a,b,ku,hR,xP⟩:=u;simp only
 generalize By s ⟨pL,a,b,ku,hR,xP⟩=m
 generalize rX s=r
 cases ao2
 ·simp
 ·cases m
  ·cases r
   ·simp
   ·generalize hh s.Name=x
    simp only [auw,aux,auu,auv,al,Bool.true_and,Bool.and_true,Bool.true_eq_false,Bool.false_eq_true,or_self,auI];cases pL
    ·simp only [auv,al,Bool.false_eq_true,false_and,auI];cases a
     ·simp only [auv,Bool.false_eq_true,false_and,auI];cases b
      ·by_cases gx:12<d<;>simp [gx]
      ·by_cases hb:ho s.B 1=0<;>by_cases gx:12<d<;>simp [hb,gx]
     ·by_cases ha:ho s.A 1=0
      ·cases b
       ·by_cases gx:12<d<;>simp [ha,gx]
       ·by_cases hb:ho s.B 1=0<;>by_cases gx:12<d<;>simp [ha,hb,gx]
      ·simp [ha]
    ·cases x
     ·simp
     ·simp only [auu,al,auw,auv,Bool.true_eq_false,and_false,auI];cases a
      ·simp only [auv,Bool.false_eq_true,false_and,auI];cases b
       ·by_cases gx:12<d<;>simp [gx]
       ·by_cases hb:ho s.B 1=0<;>by_cases gx:12<d<;>simp [hb,gx]
      ·by_cases ha:ho s.A 1=0
       ·cases b
        ·by_cases gx:12<d<;>simp [ha,gx]
        ·by_cases hb:ho s.B 1=0<;>by_cases gx:12<d<;>simp [ha,hb,gx]
       ·simp [ha]
  ·simp
def ao3(s:Stmt):((decide (s.Op=6)&&(decide (s.Max<1)||decide (16<s.Max)))||(decide (s.Op=8)&&(decide (s.Max<0)||decide (999<s.Max)))) = !rX s:=by
 unfold rX;by_cases cz:s.Op=6
 ·simp only [cz,auH,aus,Bool.true_and,show¬ (6:Int)=8 by omega,aut,Bool.false_and,Bool.or_false]
  by_cases Z:s.Max<1
  ·simp only [Z,show¬ 1≤s.Max by omega,aus,aut,Bool.true_or,Bool.false_and,aux]
  ·by_cases ad:16<s.Max
   ·simp only [Z,ad,show¬ s.Max≤16 by omega,aus,aut,auG,Bool.and_false,aux]
   ·simp only [Z,ad,show s.Max≤16 by omega,show 1≤s.Max by omega,aus,aut,Bool.or_self,Bool.and_self,auw]
 ·by_cases eD:s.Op=8
  ·simp only [eD,show¬ (8:Int)=6 by omega,auH,auI,aus,aut,Bool.true_and,Bool.false_and,Bool.false_or]
   by_cases Z:s.Max<0
   ·simp only [Z,show¬ 0≤s.Max by omega,aus,aut,Bool.true_or,Bool.false_and,aux]
   ·by_cases ad:999<s.Max
    ·simp only [Z,ad,show¬ s.Max≤999 by omega,aus,aut,auG,Bool.and_false,aux]
    ·simp only [Z,ad,show s.Max≤999 by omega,show 0≤s.Max by omega,aus,aut,Bool.or_self,Bool.and_self,auw]
  ·simp only [cz,eD,auI,aut,Bool.false_and,Bool.or_self,auw]
def ao4(a y b z pre P Q:Bool)(G:Bool→auO):
 (Option.bind (bif (!pre && !a)then some y else some default) λr2=>Option.bind (bif (!(pre||(!a && !r2)) && !b)then some z else some default) λr3=>G ((((pre||(!a && !r2))||(!b && !r3))||P)||Q))=G ((((pre||(!a && !y))||(!b && !z))||P)||Q):=by
 cases pre<;>cases a<;>cases y<;>cases b<;>cases z<;>rfl
def ao5{n:Nat}(s:Stmt)(d:Int)(hn:25<n)(e4:cN s.A≤n)(e0:cN s.B≤n)(Vk:cN s.A≤140737488351232)(qK:cN s.B≤140737488351232)(aQ:s.Name.length<n)(nk:s.Name.length≤140737488351232):KN n s d=some (kK s d):=by
 unfold KN KM KL kK;by_cases gQ:1≤s.Op∧s.Op≤8
 ·have Vl:(
   km s.Op).2=true:=by
   have:s.Op=1∨s.Op=2∨s.Op=3∨s.Op=4∨s.Op=5∨s.Op=6∨s.Op=7∨s.Op=8:=by omega
   rcases this with e|e|e|e|e|e|e|e<;>rw [e]<;>rfl
  simp only [aoY n s.Op gQ,al,gO,kl,adC,Bl s.Name aQ hn (by omega),adA s.A e4 Vk,adA s.B e0 qK,Vl,show¬ s.Op<1 by omega,show¬ 8<s.Op by omega,aut,auv,ee,dL,Bool.or_self,Bool.false_or,ao3,gc]
  generalize rX s=r
  unfold By;generalize (km s.Op).1=u
  generalize decide (s.Name=[])=sw
  generalize nj s.A=y
  generalize nj s.B=z
  generalize decide (s.Max=0)=w
  generalize decide (0<s.Body.length)=p
  generalize decide (0<s.bK.length)=q
  generalize hh s.Name=x
  obtain⟨pL,a,b,ku,hR,xP⟩:=u;simp only
  have hm:((!pL && !sw)||(!a && !y)||(!b && !z)||(!ku && !w)||(!hR&&p)||(!xP&&q))=((((((!pL && !sw)||(!ku && !w))||(!a && !y))||(!b && !z))||(!hR&&p))||(!xP&&q)):=by
   generalize (!pL && !sw)=c1
   generalize (!ku && !w)=c2
   generalize (!a && !y)=c3
   generalize (!b && !z)=c4
   cases c1<;>cases c2<;>cases c3<;>cases c4<;>rfl
  rw [hm];clear hm;generalize ((!pL && !sw)||(!ku && !w))=pre
  generalize (!hR&&p)=c1
  generalize (!xP&&q)=c2
  refine(ao4 a y b z pre c1 c2 (λc=>bif c then some 1 else bif !r then some 1 else Option.bind (bif pL then some x else some default) λaU=>bif (pL && !aU)then some 7 else
   bif a then(bif !decide (ho s.A 1=0)then some (ho s.A 1)else bif b then(bif !decide (ho s.B 1=0)then some (ho s.B 1)else bif decide (12<d)then some 2 else some 0)else bif decide (12<d)then some 2 else some 0)
   else bif b then(bif !decide (ho s.B 1=0)then some (ho s.B 1)else bif decide (12<d)then some 2 else some 0)else bif decide (12<d)then some 2 else some 0)).trans ?_
  generalize ((((pre||(!a && !y))||(!b && !z))||c1)||c2)=m
  cases m
  ·cases r
   ·simp
   ·simp only [auw,aux,auu,auv,al,Bool.true_and,Bool.and_true,Bool.true_eq_false,Bool.false_eq_true,or_self,auI];cases pL
    ·simp only [auv,al,Bool.false_eq_true,false_and,auI,Bool.false_and];cases a
     ·simp only [auv,Bool.false_eq_true,false_and,auI];cases b
      ·by_cases gx:12<d<;>simp [gx]
      ·by_cases hb:ho s.B 1=0<;>by_cases gx:12<d<;>simp [hb,gx]
     ·by_cases ha:ho s.A 1=0
      ·cases b
       ·by_cases gx:12<d<;>simp [ha,gx]
       ·by_cases hb:ho s.B 1=0<;>by_cases gx:12<d<;>simp [ha,hb,gx]
      ·simp [ha]
    ·cases x
     ·simp
     ·simp only [auu,al,auw,auv,Bool.true_eq_false,and_false,auI,Bool.and_false];cases a
      ·simp only [auv,Bool.false_eq_true,false_and,auI];cases b
       ·by_cases gx:12<d<;>simp [gx]
       ·by_cases hb:ho s.B 1=0<;>by_cases gx:12<d<;>simp [hb,gx]
      ·by_cases ha:ho s.A 1=0
       ·cases b
        ·by_cases gx:12<d<;>simp [ha,gx]
        ·by_cases hb:ho s.B 1=0<;>by_cases gx:12<d<;>simp [ha,hb,gx]
       ·simp [ha]
  ·simp
 ·have Vl:(km s.Op).2=false:=by
   unfold km;rw [if_neg (by omega),if_neg (by omega),if_neg (by omega),if_neg (by omega),if_neg (by omega),if_neg (by omega)]
  have hb:(decide (s.Op<1)||decide (8<s.Op))=true:=by
   by_cases Z:s.Op<1
   ·rw [decide_eq_true Z];rfl
   ·rw [decide_eq_true (show 8<s.Op by omega)];simp
  simp only [aoZ n s.Op gQ,al,Vl,hb,dL,ee,Bool.true_or,auw,Bool.false_and,auv,auu,true_or,auH]
def u9(before:List Param):List Param→Int
 |[]=>0
 |x::l=>if hh x.Name=false then 7 else if x.f'<1∨3<x.f' then 10 else if(before.any λy=>decide (y.Name=x.Name))=true then 8 else u9 (before++[x]) l
def ao6(n:Nat)(s:List Param)(b:Param)(hs:s.length≤4611686018427387904):∀m i,s.length<i+m→i≤s.length→
 ∃r,zi n s b m (i:Int)=some r∧(decide (0≤r)=(s.drop i).any λy=>decide (y.Name=b.Name)):=by
 intro m;induction m with
 |zero=>intro i h ad;omega
 |succ m aW=>
  intro i hm hi;simp only [zi,PY,PX,PW];by_cases h:i<s.length
  ·obtain⟨r,Z,ad⟩:=aW (i+1) (by omega) (by omega)
   (rw [fH s i default h,dp (by omega)];simp only [auA];rw [Z])
   generalize s.getD i default=c
   simp only [h,cv h,auB,aus,auu,bd,al,List.any_cons];by_cases hc:c.Name=b.Name
   ·simp only [hc,aus,auu,Bool.true_or];exact⟨_,rfl,decide_eq_true (by omega)⟩
   ·simp only [hc,aut,auv,Bool.false_or];exact⟨r,rfl,ad⟩
  ·rw [hf s i h];simp only [h,auB,aut,auv];exact⟨-1,rfl,rfl⟩
def ao7{n:Nat}(s:List Param)(b:Param)(hs:s.length≤4611686018427387904)(hn:s.length<n):In n s b=some (s.any λy=>decide (y.Name=b.Name)):=by
 unfold In PZ;obtain⟨r,Z,ad⟩:=ao6 n s b hs n 0 (by omega) (by omega)
 rw [show zi n s b n 0=_ from Z,al,ad,List.drop_zero]
def xQ{α:Type}[Inhabited α](l:List α)(i:Nat)(h:i<l.length):l.take (i+1)=l.take i++[l.getD i default]:=by
 rw [List.take_add,fH l i default h,List.take_succ_cons,List.take_zero]
def Vm:∀(l:List Param) (i:Nat),i<l.length→(l.getD i default).Name.length<fM l
 |[],i,h=>by simp at h
 |x::l,0,h=>by simp only [fM,List.getD_cons_zero];omega
 |x::l,i+1,h=>by have:=Vm l i (by simpa using h);simp only [fM,List.getD_cons_succ];omega
def ao8(n:Nat)(l:List Param)(cc:fM l<n)(tS:fM l≤140737488351232):∀m i,l.length<i+m→i≤l.length→zj n l m (i:Int)=some (u9 (l.take i) (l.drop i)):=by
 have hlen:=u7 l;intro m;induction m with
 |zero=>intro i h ad;omega
 |succ m aW=>
  intro i hm hi;simp only [zj,P1,P0];by_cases h:i<l.length
  ·have hg:=Vm l i h
   (rw [fH l i default h,dp (by omega)];simp only [auA];rw [aW (i+1) (by omega) (by omega),xQ l i h])
   generalize l.getD i default=c at hg
   rw [Bm n c.Name (by omega),ao7 (l.take i) c (by simp;omega) (by simp;omega)]
   simp only [h,cv h,auB,aus,auu,bd,al,Bi hi,dL,u9];cases hh c.Name
   ·simp
   ·by_cases ax:c.f'<1∨3<c.f'
    ·have:(decide (c.f'<1)||decide (3<c.f'))=true:=by rcases ax with ax|ax<;>rw [decide_eq_true ax]<;>simp
     simp [this,ax]
    ·have:(decide (c.f'<1)||decide (3<c.f'))=false:=by rw [decide_eq_false (λe=>ax (Or.inl e)),decide_eq_false (λe=>ax (Or.inr e))];rfl
     rw [this];simp only [auw,auv,Bool.true_eq_false,auI,ax];cases ((l.take i).any λy=>decide (y.Name=c.Name))<;>rfl
  ·rw [hf l i h];simp only [h,auB,aut,auv];rfl
def ao9(n:Nat)(aj:Int→auO)(l:List Param)(i:Nat)(h:i<l.length)(hs:l.length≤4611686018427387904):∀m k,i<k+m→k≤i→
 AB n aj l (i:Int) m (k:Int)=if(((l.take i).drop k).any λy=>decide (y.Name=(l.getD i default).Name))=true then some 8 else aj ((i+1:Nat):Int):=by
 intro m;induction m with
 |zero=>intro k Z ad;omega
 |succ m aW=>
  intro k hm hk;simp only [AB,SX,SW];by_cases HB:k<i
  ·have e:(l.take i).drop k=l.getD k default::(l.take i).drop (k+1):=by
    rw [fH (l.take i) k default (by simp;omega)]
    congr 1
    simp [List.getD,HB]
   (rw [e,dp (by omega),aW (k+1) (by omega) (by omega)];simp only [auA])
   generalize l.getD k default=c
   simp only [HB,cv h,cv (show k<l.length by omega),auB,aus,auu,bd,List.any_cons]
   by_cases hc:c.Name=(l.getD i default).Name
   ·simp only [hc,aus,auu,Bool.true_or,auH]
   ·simp only [hc,aut,auv,Bool.false_or]
  ·obtain rfl:k=i:=by omega
   rw [hf (l.take k) k (by simp;omega),dp (by omega)]
   simp only [auB,Nat.lt_irrefl,aut,auv,List.any_nil,Bool.false_eq_true,auI]
def ao'(n:Nat)(l:List Param)(hn:25<n)(cc:fM l<n)(tS:fM l≤140737488351232):∀m i,l.length<i+m→i≤l.length→uH n l m (i:Int)=some (u9 (l.take i) (l.drop i)):=by
 have hlen:=u7 l;intro m;induction m with
 |zero=>intro i h ad;omega
 |succ m aW=>
  intro i hm hi;simp only [uH,SY,SV];by_cases h:i<l.length
  ·have hg:=Vm l i h;have aR:=ao9 n (uH n l m) l i h (by omega) n 0 (by omega) (by omega)
   rw [show AB n (uH n l m) l (i:Int) n 0=_ from aR,List.drop_zero]
   (rw [fH l i default h];simp only [auA];rw [aW (i+1) (by omega) (by omega),xQ l i h])
   generalize l.getD i default=c at hg
   rw [Bl c.Name (by omega) hn (by omega)]
   simp only [h,cv h,auB,aus,auu,bd,al,auG,dL,u9];cases hh c.Name
   ·simp
   ·by_cases ax:c.f'<1∨3<c.f'
    ·have:(decide (c.f'<1)||decide (3<c.f'))=true:=by rcases ax with ax|ax<;>rw [decide_eq_true ax]<;>simp
     simp [this,ax]
    ·have:(decide (c.f'<1)||decide (3<c.f'))=false:=by rw [decide_eq_false (λe=>ax (Or.inl e)),decide_eq_false (λe=>ax (Or.inr e))];rfl
     rw [this];simp only [auw,auv,Bool.true_eq_false,auI,ax];cases ((l.take i).any λy=>decide (y.Name=c.Name))<;>rfl
  ·rw [hf l i h];simp only [h,auB,aut,auv];rfl
def qL(l:List Param):Int:=if 6<l.length then 2 else u9 [] l
def ao_{n:Nat}(l:List Param)(cc:fM l<n)(tS:fM l≤140737488351232):Io n l=some (qL l):=by
 have hlen:=u7 l;unfold Io qL;have:=ao8 n l cc tS n 0 (by omega) (by omega)
 rw [show zj n l n 0=_ from this]
 simp only [gc];by_cases h:6<l.length
 ·simp only [h,aus,auu,auH]
 ·simp only [h,aut,auv,auI,List.take_zero,List.drop_zero]
def apa{n:Nat}(l:List Param)(hn:25<n)(cc:fM l<n)(tS:fM l≤140737488351232):KG n l=some (qL l):=by
 have hlen:=u7 l;unfold KG qL;have:=ao' n l hn cc tS n 0 (by omega) (by omega)
 rw [show uH n l n 0=_ from this]
 simp only [gc];by_cases h:6<l.length
 ·simp only [h,aus,auu,auH]
 ·simp only [h,aut,auv,auI,List.take_zero,List.drop_zero]
mutual
def tm:Expr→Nat→Nat
 |⟨_,_,_,an⟩,k=>if k=0 then 0 else qM an (k-1)
def qM:List Expr→Nat→Nat
 |[],k=>k
 |x::l,k=>qM l (tm x k)
end
def adD(e:Expr)(k:Nat):tm e k=if k=0 then 0 else qM e.an (k-1):=by cases e;rfl
mutual
def FX:∀(e:Expr) (k:Nat),tm e k≤k
 |⟨_,_,_,an⟩,k=>by
  have:=Vn an (k-1)
  simp only [tm];split<;>omega
def Vn:∀(l:List Expr) (k:Nat),qM l k≤k
 |[],k=>Nat.le_refl _
 |x::l,k=>by
  have Z:=FX x k;have ad:=Vn l (tm x k);simp only [qM];omega
end
def kn(e:Expr)(k:Nat):Nat:=if k=0∨nj e=true then k else tm e k
def MC(e:Expr)(k:Nat):kn e k≤k:=by unfold kn;split;exact Nat.le_refl _;exact FX e k
mutual
def qN:Stmt→Int→Nat×Int→Nat×Int
 |⟨Op,Name,Max,A,B,Body,bK⟩,d,r=>
  ie bK (auL (d+1)) (ie Body (auL (d+1)) (kn B (kn A (r.1-1)),if r.2=0 then kK ⟨Op,Name,Max,A,B,Body,bK⟩ d else r.2))
def ie:List Stmt→Int→Nat×Int→Nat×Int
 |[],d,r=>r
 |s::l,d,r=>if r.1=0 then r else ie l d (qN s d r)
end
def adE(s:Stmt)(d:Int)(r:Nat×Int):qN s d r=ie s.bK (auL (d+1)) (ie s.Body (auL (d+1)) (kn s.B (kn s.A (r.1-1)),if r.2=0 then kK s d else r.2)):=by cases s;rfl
mutual
def apb:∀(s:Stmt) (d:Int) (r:Nat×Int),(qN s d r).1≤r.1
 |⟨Op,Name,Max,A,B,Body,bK⟩,d,r=>by
  have Z:=MC A (r.1-1);have ad:=MC B (kn A (r.1-1));have am:=u' Body (auL (d+1)) (kn B (kn A (r.1-1)),if r.2=0 then kK ⟨Op,Name,Max,A,B,Body,bK⟩ d else r.2)
  have aR:=u' bK (auL (d+1)) (ie Body (auL (d+1)) (kn B (kn A (r.1-1)),if r.2=0 then kK ⟨Op,Name,Max,A,B,Body,bK⟩ d else r.2))
  simp only [qN]at *;omega
def u':∀(l:List Stmt) (d:Int) (r:Nat×Int),(ie l d r).1≤r.1
 |[],d,r=>Nat.le_refl _
 |s::l,d,r=>by
  have Z:=apb s d r;have ad:=u' l d (qN s d r);simp only [ie];split
  ·exact Nat.le_refl _
  ·omega
end
def apc:∀(n:Nat) (e:Expr) (k:Nat) (b:Int),cN e≤n→cN e≤140737488351232→k≤1000→zn n e (k:Int) b=some ((tm e k:Nat):Int):=by
 intro n;induction n with
 |zero=>intro e k b h;rw [qH]at h;omega
 |succ n aW=>
  intro e k b h ae hk;have u1:=qH e;have u2:=Bn e.an;simp only [zn,P_,fv];rw [adD];by_cases h0:k=0
  ·rw [if_pos h0];simp only [h0,aus,auu]
  ·rw [if_neg h0];simp only [h0,aut,auv]
   have ib:∀m i k,e.an.length<i+m→i≤e.an.length→k≤1000→De n (zn n) e b m ((k:Nat):Int) (i:Int)=some ((qM (e.an.drop i) k:Nat):Int):=by
    intro m;induction m with
    |zero=>intro i k Z ad;omega
    |succ m lB=>
     intro i k Z ad hk;simp only [De,P'];by_cases hi:i<e.an.length
     ·have hg:=FI e.an i hi;have hle:=FX (e.an.getD i default) k
      (rw [fH e.an i default hi,dp (by omega)];simp only [auA];rw [aW _ k b (by omega) (by omega) hk])
      simp only [hi,cv hi,auB,aus,auu,bd,al,qM];exact lB (i+1) _ (by omega) (by omega) (by omega)
     ·rw [hf e.an i hi];simp only [hi,auB,aut,auv,qM]
   rw [show auL ((k:Int)-1)=((k-1:Nat):Int)by rw [wr]<;>omega]
   exact ib n 0 (k-1) (by omega) (by omega) (by omega)
def adF{n:Nat}(e:Expr)(k:Nat)(b:Int)(h:cN e≤n)(ae:cN e≤140737488351232)(hk:k≤1000):Df n e (k:Int) b=some ((kn e k:Nat):Int):=by
 unfold Df kn P9;simp only [adB,fv,apc n e k b h ae hk,al];by_cases h0:k=0
 ·simp [h0]
 ·cases nj e<;>simp [h0]
open Go Go.Ab Go.Proofs
def MD:∀(l:List Stmt) (i:Nat),i<l.length→fst (l.getD i default)<dP l
 |[],i,h=>by simp at h
 |x::l,0,h=>by simp only [dP,List.getD_cons_zero];omega
 |x::l,i+1,h=>by have:=MD l i (by simpa using h);simp only [dP,List.getD_cons_succ];omega
def adG{α β:Type}(x:α×β):(x.1,x.2)=x:=rfl
def apd:∀(n:Nat) (l:List Stmt) (d:Int) (k:Nat) (e:Int),dP l+2≤n→dP l≤140737488351232→k≤1000→
 wD n l d (k:Int) e=some ((((ie l d (k,e)).1:Nat):Int),(ie l d (k,e)).2):=by
 intro n;induction n with
 |zero=>intro l d k e h;omega
 |succ n aW=>
  intro l d k e h ae hk;have u2:=xN l;simp only [wD,Qb]
  have ib:∀m i k e,l.length<i+m→i≤l.length→k≤1000→Dg n (wD n) d l m ((k:Nat):Int) e (i:Int)=some ((((ie (l.drop i) d (k,e)).1:Nat):Int),(ie (l.drop i) d (k,e)).2):=by
   intro m;induction m with
   |zero=>intro i k e Z ad;omega
   |succ m lB=>
    intro i k e Z ad hk;simp only [Dg,Qa,gO,kl];by_cases hi:i<l.length
    ·have hg:=MD l i hi
     (rw [fH l i default hi];simp only [auA])
     generalize l.getD i default=s at hg
     have nt:=fst_eq s;rw [dp (by omega)]
     simp only [hi,cv hi,auB,aus,auu,bd,fv,ie];by_cases h0:k=0
     ·simp only [h0,aus,auu,auH]
     ·simp only [h0,aut,auv,auI]
      have ao:Iy n s d e=some (if e=0 then kK s d else e):=by
       unfold Iy;simp only [gO,kl,ao1 s d (show cN s.A≤n by omega) (show cN s.B≤n by omega) (by omega) (by omega) (by omega),al]
       by_cases he:e=0
       ·simp only [he,aus,auu,auH]
       ·simp only [he,aut,auv,auI]
      rw [ao,al,show auL ((k:Int)-1)=((k-1:Nat):Int)by rw [wr]<;>omega]
      have e7:=MC s.A (k-1);have eQ:=MC s.B (kn s.A (k-1));rw [adF s.A (k-1) _ (by omega) (by omega) (by omega),al,adF s.B _ _ (by omega) (by omega) (by omega),al]
      have Ov:=u' s.Body (auL (d+1)) (kn s.B (kn s.A (k-1)),if e=0 then kK s d else e)
      rw [aW s.Body _ _ _ (by omega) (by omega) (by omega),al]
      simp only [adG]at Ov ⊢;have atV:=u' s.bK (auL (d+1)) (ie s.Body (auL (d+1)) (kn s.B (kn s.A (k-1)),if e=0 then kK s d else e))
      rw [aW s.bK _ _ _ (by omega) (by omega) (by omega),al]
      simp only [adG];rw [lB (i+1) _ _ (by omega) (by omega) (by omega),adE]
    ·rw [hf l i hi];simp only [hi,auB,aut,auv,ie]
  exact ib n 0 k e (by omega) (by omega) hk
open Go Go.Ab Go.Proofs
abbrev lC:=cJ
def iG:Int→List lC→Int
 |e,[]=>e
 |e,v::l=>iG (if e=0∧v.qq=true then kK v.Stmt v.C5 else e) l
def adH:∀(l m:List lC) (e:Int),iG e (l++m)=iG (iG e l) m
 |[],m,e=>rfl
 |v::l,m,e=>by rw [List.cons_append,iG,iG,adH l m]
def Vo:∀(l:List lC) (e:Int),(∀v,v∈l→v.qq=false)→iG e l=e
 |[],e,h=>rfl
 |v::l,e,h=>by
  rw [iG,h v (List.mem_cons_self),Vo l _ λw hw=>h w (List.mem_cons_of_mem _ hw)]
  simp
def adI{k:Nat}(h:k≤100000):room k 272=true:=by simp [room];omega
def ape:∀(n:Nat) (e:Expr) (out:List lC) (root:Bool),cN e≤n→cN e≤140737488351232→out.length≤401→
 ∃ext,s8 n out e root=some (out++ext)∧(out++ext).length≤401∧401-(out++ext).length=tm e (401-out.length)∧∀v,v∈ext→v.qq=false:=by
 intro n;induction n with
 |zero=>intro e out root h;rw [qH]at h;omega
 |succ n aW=>
  intro e out root h ae aq;have u1:=qH e;have u2:=Bn e.an;simp only [s8,SP,gc];rw [adD];by_cases h0:400<out.length
  ·simp only [h0,aus,auu];rw [if_pos (by omega)]
   exact⟨[],by simp,by simpa using aq,by simp;omega,λv ao=>by cases ao⟩
  ·simp only [h0,aut,auv,auy,auz,adI (show out.length+(0+1)≤100000 by omega),bd]
   rw [if_neg (by omega)]
   have ib:∀m i (out:List lC),e.an.length<i+m→i≤e.an.length→out.length≤401→
    ∃ext,Ep n (s8 n) e m out (i:Int)=some (out++ext)∧(out++ext).length≤401∧401-(out++ext).length=qM (e.an.drop i) (401-out.length)∧∀v,v∈ext→v.qq=false:=by
    intro m;induction m with
    |zero=>intro i out Z ad;omega
    |succ m lB=>
     intro i out Z ad aq;simp only [Ep,SO,SN];by_cases hi:i<e.an.length
     ·have hg:=FI e.an i hi
      (rw [fH e.an i default hi];simp only [auA])
      generalize e.an.getD i default=a at hg
      rw [dp (by omega)]
      simp only [hi,cv hi,auB,aus,auu,bd,l1,qM];by_cases FY:out.length≤400
      ·simp only [FY,aus,auu];obtain⟨dy,e1,e2,e3,gZ⟩:=aW a out false (by omega) (by omega) aq
       obtain⟨eo,f1,f2,f3,f4⟩:=lB (i+1) (out++dy) (by omega) (by omega) e2
       rw [e1,al,f1];refine⟨dy++eo,by rw [List.append_assoc],by rw [←List.append_assoc];exact f2,by rw [←List.append_assoc,f3,e3],λv ao=>?_⟩
       rcases List.mem_append.1 ao with ao|ao
       ·exact gZ v ao
       ·exact f4 v ao
      ·simp only [FY,aut,auv];have dG:401-out.length=0:=by omega
       have adw:=FX a 0;have HR:=Vn (e.an.drop (i+1)) (tm a 0);exact⟨[],by simp,by simpa using aq,by rw [dG];simp;omega,λv ao=>by cases ao⟩
     ·rw [hf e.an i hi];simp only [hi,auB,aut,auv,qM];exact⟨[],by simp,by simpa using aq,by simp,λv ao=>by cases ao⟩
   obtain⟨x,e1,e2,e3,gZ⟩:=ib n 0 (out++[⟨false,⟨0,[],0,⟨0,0,[],[]⟩,⟨0,0,[],[]⟩,[],[]⟩,0,e,root⟩]) (by omega) (by omega) (by simp;omega)
   refine⟨⟨false,⟨0,[],0,⟨0,0,[],[]⟩,⟨0,0,[],[]⟩,[],[]⟩,0,e,root⟩::x,?_,?_,?_,?_⟩
   ·exact e1.trans (by simp)
   ·simpa using e2
   ·have:401-(out++[(⟨false,⟨0,[],0,⟨0,0,[],[]⟩,⟨0,0,[],[]⟩,[],[]⟩,0,e,root⟩:lC)]).length=401-out.length-1:=by simp;omega
    rw [this,List.drop_zero]at e3;simpa using e3
   ·intro v ao;rcases List.mem_cons.1 ao with rfl|ao
    ·rfl
    ·exact gZ v ao
open Go Go.Ab Go.Proofs
def adJ{α:Type}{n:Nat}(e:Expr)(out:List lC)(G:List lC→Option α)(h:cN e≤n)(ae:cN e≤140737488351232)(aq:out.length≤401):
 ∃ext,(Option.bind (s7 n e) λr=>bif !r then Option.bind (s8 n out e true) G else G out)=G (out++ext)∧(out++ext).length≤401∧401-(out++ext).length=kn e (401-out.length)∧∀v,v∈ext→v.qq=false:=by
 rw [adC,al];unfold kn;cases m3:nj e
 ·obtain⟨x,e1,e2,e3,gZ⟩:=ape n e out true h ae aq;refine⟨x,?_,e2,?_,gZ⟩
  ·rw [e1];rfl
  ·rw [e3];by_cases h0:401-out.length=0
   ·rw [if_pos (Or.inl h0),h0];have:=FX e 0
    omega
   ·rw [if_neg (by simp [h0])]
 ·refine⟨[],by simp,by simpa using aq,?_,λv ao=>by cases ao⟩
  rw [if_pos (Or.inr rfl)];simp
def apf:∀(n:Nat) (l:List Stmt) (d:Int) (out:List lC) (e:Int),dP l+2≤n→dP l≤140737488351232→out.length≤401→
 ∃ext,na n out l d=some (out++ext)∧(out++ext).length≤401∧(401-(out++ext).length,iG e ext)=ie l d (401-out.length,e)∧∀v,v∈ext→v.qq=true→fst v.Stmt<dP l:=by
 intro n;induction n with
 |zero=>intro l d out e h;omega
 |succ n aW=>
  intro l d out e h ae aq;have u2:=xN l;simp only [na,ST]
  have ib:∀m i (out:List lC) (e:Int),l.length<i+m→i≤l.length→out.length≤401→
   ∃ext,uG n (na n) l d m out (i:Int)=some (out++ext)∧(out++ext).length≤401∧(401-(out++ext).length,iG e ext)=ie (l.drop i) d (401-out.length,e)∧∀v,v∈ext→v.qq=true→fst v.Stmt<dP l:=by
   intro m;induction m with
   |zero=>intro i out e Z ad;omega
   |succ m lB=>
    intro i out e Z ad aq;simp only [uG,SS,SQ,KF,KE,SR,gO,kl];by_cases hi:i<l.length
    ·have hg:=MD l i hi
     (rw [fH l i default hi];simp only [auA])
     generalize l.getD i default=s at hg
     have nt:=fst_eq s;rw [dp (by omega)]
     simp only [hi,cv hi,auB,aus,auu,bd,l1,ie];by_cases FY:out.length≤400
     ·rw [if_neg (by omega)]
      simp only [FY,aus,auu,auy,auz,adI (show out.length+(0+1)≤100000 by omega),bd]
      obtain⟨dy,a_,a2,a3,a4⟩:=adJ (n:=n) s.A (out++[(⟨true,s,d,⟨0,0,[],[]⟩,false⟩:lC)]) (λv28=>Option.bind (s7 n s.B) λh9=>bif !h9 then Option.bind (s8 n v28 s.B true) λmI=>
       Option.bind (na n mI s.Body (auL (d+1))) λlz=>Option.bind (na n lz s.bK (auL (d+1))) λoH=>uG n (na n) l d m oH ((i+1:Nat):Int)
       else Option.bind (na n v28 s.Body (auL (d+1))) λlz=>Option.bind (na n lz s.bK (auL (d+1))) λoH=>uG n (na n) l d m oH ((i+1:Nat):Int)) (by omega) (by omega) (by simp;omega)
      rw [a_];obtain⟨eo,cl,jI,FZ,ME⟩:=adJ (n:=n) s.B (out++[(⟨true,s,d,⟨0,0,[],[]⟩,false⟩:lC)]++dy) (λv=>Option.bind (na n v s.Body (auL (d+1))) λlz=>Option.bind (na n lz s.bK (auL (d+1))) λoH=>uG n (na n) l d m oH ((i+1:Nat):Int)) (by omega) (by omega) a2
      rw [cl];obtain⟨iw,c1,c2,c3,c4⟩:=aW s.Body (auL (d+1)) _ (if e=0 then kK s d else e) (by omega) (by omega) jI
      rw [c1,al];obtain⟨fB,d1,d2,d3,d4⟩:=aW s.bK (auL (d+1)) _ (iG (if e=0 then kK s d else e) iw) (by omega) (by omega) c2
      rw [d1,al];obtain⟨kh,f1,f2,f3,f4⟩:=lB (i+1) _ (iG (iG (if e=0 then kK s d else e) iw) fB) (by omega) (by omega) d2
      rw [f1];have YN:401-(out++[(⟨true,s,d,⟨0,0,[],[]⟩,false⟩:lC)]).length=401-out.length-1:=by simp;omega
      refine⟨(⟨true,s,d,⟨0,0,[],[]⟩,false⟩:lC)::(dy++(eo++(iw++(fB++kh)))),?_,?_,?_,?_⟩
      ·simp
      ·simpa using f2
      ·have e1:iG e ((⟨true,s,d,⟨0,0,[],[]⟩,false⟩:lC)::(dy++(eo++(iw++(fB++kh)))))=iG (iG (iG (if e=0 then kK s d else e) iw) fB) kh:=by
        simp only [iG,and_true,adH];rw [Vo dy _ a4,Vo eo _ ME]
       have e2:(out++(⟨true,s,d,⟨0,0,[],[]⟩,false⟩:lC)::(dy++(eo++(iw++(fB++kh))))).length=(out++[(⟨true,s,d,⟨0,0,[],[]⟩,false⟩:lC)]++dy++eo++iw++fB++kh).length:=by simp
       rw [e1,e2,f3]
       congr 1
       rw [adE];simp only
       rw [d3,c3,FZ,a3,YN]
      ·intro v ao dC;simp only [List.mem_cons,List.mem_append]at ao;rcases ao with rfl|ao|ao|ao|ao|ao
       ·exact hg
       ·rw [a4 v ao]at dC;cases dC
       ·rw [ME v ao]at dC;cases dC
       ·have:=c4 v ao dC;omega
       ·have:=d4 v ao dC;omega
       ·exact f4 v ao dC
     ·rw [if_pos (by omega)]
      simp only [FY,aut,auv];exact⟨[],by simp,by simpa using aq,by simp [iG],λv ao=>by cases ao⟩
    ·rw [hf l i hi];simp only [hi,auB,aut,auv,ie];exact⟨[],by simp,by simpa using aq,by simp [iG],λv ao=>by cases ao⟩
  exact ib n 0 out e (by omega) (by omega) aq
open Go Go.Ab Go.Proofs
def n0(p:be):Int:=
 if hh p.Name=false then 7 else if qL p.Params≠0 then qL p.Params
 else if(ie p.Body 1 (401,0)).2=0∧(ie p.Body 1 (401,0)).1=0 then 2 else(ie p.Body 1 (401,0)).2
def Vp{n:Nat}(p:be)(aQ:p.Name.length≤140737488351232)(lR:fM p.Params<n)(MF:fM p.Params≤140737488351232)(e0:dP p.Body+2≤n)(qK:dP p.Body≤140737488351232):Dh n p=some (n0 p):=by
 unfold Dh Qc n0;rw [Bm n p.Name aQ,ao_ p.Params lR MF];simp only [al];cases hh p.Name
 ·rfl
 ·simp only [auw,auv,Bool.true_eq_false,auI];by_cases h:qL p.Params=0
  ·simp only [h,aus,auw,auv,ne_eq,not_true,auI];have:=apd n p.Body 1 401 0 e0 qK (by omega)
   rw [show wD n p.Body 1 401 0=_ from this]
   have hle:=u' p.Body 1 (401,0);simp only at hle
   generalize ie p.Body 1 (401,0)=r at hle
   obtain⟨k,e⟩:=r;simp only [al];simp only at hle
   rw [show auL (401-((k:Nat):Int))=401-((k:Nat):Int)by rw [wr]<;>omega]
   by_cases he:e=0
   ·by_cases hk:k=0
    ·subst hk;subst he;rfl
    ·simp only [he,hk,aus,auu,and_false,auI,show¬ (400:Int)<401-((k:Nat):Int)by omega,aut,auv]
   ·simp only [he,aut,auv,false_and,auI]
  ·simp only [h,aut,aux,auu,ne_eq,not_false_iff,auH]
def adK:∀(l:List lC) (e:Int),e≠0→iG e l=e
 |[],e,h=>rfl
 |v::l,e,h=>by rw [iG,if_neg (λx=>h x.1),adK l e h]
def apg(n:Nat)(l:List lC)(hn:25<n)(B:Nat)(e0:B≤n)(qK:B≤140737488351232)(ae:l.length≤401)(hs:∀v,v∈l→v.qq=true→fst v.Stmt<B):∀m i,l.length<i+m→i≤l.length→
 AD n l m (i:Int)=some (if iG 0 (l.drop i)≠0 then iG 0 (l.drop i)else if 400<l.length then 2 else 0):=by
 intro m;induction m with
 |zero=>intro i h ad;omega
 |succ m aW=>
  intro i hm hi;simp only [AD,S7,S6,KO];by_cases h:i<l.length
  ·have ao:l.getD i default∈l:=by
    have e:l.getD i default=l[i]:=by simp [List.getD,h]
    rw [e];exact List.getElem_mem h
   have dC:=hs _ ao
   (rw [fH l i default h,dp (by omega)];simp only [auA];rw [aW (i+1) (by omega) (by omega)])
   generalize l.getD i default=v at dC
   simp only [h,cv h,auB,aus,auu,bd,iG];cases av:v.qq
   ·simp only [auv,Bool.false_eq_true,and_false,auI]
   ·have cc:=dC av;have u1:=fst_eq v.Stmt;rw [ao5 v.Stmt v.C5 hn (by omega) (by omega) (by omega) (by omega) (by omega) (by omega)]
    simp only [auu,al,and_self,auH];by_cases he:kK v.Stmt v.C5=0
    ·simp only [he,aus,auw,auv]
    ·simp only [he,aut,aux,auu];rw [adK _ _ he,if_pos he]
  ·rw [hf l i h];simp only [h,auB,aut,auv,iG,gc,ne_eq,not_true,auI];by_cases aR:400<l.length
   ·simp only [aR,aus,auu,auH]
   ·simp only [aR,aut,auv,auI]
def Vq{n:Nat}(p:be)(hn:500<n)(aQ:p.Name.length<n)(nk:p.Name.length≤140737488351232)(lR:fM p.Params<n)(MF:fM p.Params≤140737488351232)(e0:dP p.Body+2≤n)(qK:dP p.Body≤140737488351232):Ew n p=some (n0 p):=by
 unfold Ew SU n0;rw [Bl p.Name aQ (by omega) (by omega),apa p.Params (by omega) lR MF]
 simp only [al];cases hh p.Name
 ·rfl
 ·simp only [auw,auv,Bool.true_eq_false,auI];by_cases h:qL p.Params=0
  ·simp only [h,aus,auw,auv,ne_eq,not_true,auI];obtain⟨ext,e1,e2,e3,gZ⟩:=apf n p.Body 1 [] 0 e0 qK (by simp)
   rw [List.nil_append]at e1 e2 e3;rw [e1];simp only [al];have:=apg n ext (by omega) (dP p.Body) (by omega) qK e2 gZ n 0 (by omega) (by omega)
   rw [show AD n ext n 0=_ from this,List.drop_zero,auz]at *
   rw [show 401-0=401 from rfl]at e3
   rw [←e3];simp only
   by_cases he:iG 0 ext=0
   ·simp only [he,ne_eq,not_true,auI,true_and];by_cases aR:400<ext.length
    ·rw [if_pos aR,if_pos (by omega)]
    ·rw [if_neg aR,if_neg (by omega)]
   ·rw [if_pos he,if_neg (λx=>he x.1)]
  ·simp only [h,aut,aux,auu,ne_eq,not_false_iff,auH]
def aph:∀(n:Nat) (l:List Stmt),dP l+2≤n→dP l≤140737488351232→Ak n l l=some true:=by
 intro n;induction n with
 |zero=>intro l h;omega
 |succ n aW=>
  intro l h ae;have u2:=xN l;simp only [Ak,Si,aus,auw,auv]
  have ib:∀m i,l.length<i+m→i≤l.length→Ec n (Ak n) l l m (i:Int)=some true:=by
   intro m;induction m with
   |zero=>intro i Z ad;omega
   |succ m lB=>
    intro i Z ad;simp only [Ec,Sh,Sg,gO,kl];by_cases hi:i<l.length
    ·have hg:=MD l i hi
     (rw [dp (by omega),lB (i+1) (by omega) (by omega)];simp only [auA])
     generalize l.getD i default=s at hg
     have nt:=fst_eq s;simp only [hi,cv hi,auB,aus,auw,auu,auv,bd,acQ n s.A (by omega) (by omega),acQ n s.B (by omega) (by omega),aW s.Body (by omega) (by omega),aW s.bK (by omega) (by omega),al]
     rfl
    ·simp only [hi,auB,aut,auv]
  exact ib n 0 (by omega) (by omega)
def api{n:Nat}(p:be)(lR:p.Params.length<n)(MF:p.Params.length≤140737488351232)(e0:dP p.Body+2≤n)(qK:dP p.Body≤140737488351232):Kb n p p=some true:=by
 unfold Kb;simp only [aus,auw,auv]
 have ib:∀m i,p.Params.length<i+m→i≤p.Params.length→Ed n p p m (i:Int)=some true:=by
  intro m;induction m with
  |zero=>intro i Z ad;omega
  |succ m lB=>
   intro i Z ad;simp only [Ed,Sk,Sj];by_cases hi:i<p.Params.length
   ·rw [dp (by omega),lB (i+1) (by omega) (by omega)]
    simp only [hi,cv hi,auB,aus,Bool.and_self,auw,auu,auv,bd]
   ·simp only [hi,auB,aut,auv,aph n p.Body e0 qK,al]
 exact ib n 0 (by omega) (by omega)
open Go Go.Ab Go.Proofs
def adL(p:be):(⟨p.Name,p.Params,p.Body⟩:be)=p:=rfl
def apj{n:Nat}(src:auJ)(hs:src.length≤4000∨16384<src.length)(hn:100000000≤n):
 ∃r,D7 n src=some r∧E3 n src=some r∧tk r.1≤250000∧(r.2.2=0→n0 r.1=0):=by
 have MG:tk (⟨[],[],[]⟩:be)≤250000:=by simp [tk,fM,dP]
 obtain⟨⟨l,rU,e⟩,t1,t2,t3⟩:=anZ (λt=>(t.Kind=5→t.Text∈marks)∧hR t.N=0) (λs rU Z ad=>⟨an0 s rU Z ad,an1 s⟩) (n:=n) src (by omega) (by omega)
 unfold D7 JN E3;rw [t1,t2];simp only [al];by_cases he:e=0
 ·obtain⟨Z,ad,am⟩:=t3 he;simp only at Z am
  subst he;have hg:mp l:=am;have hlen:=nh l;have pK:l.length≤4200:=by omega
  have jF:e6 l l.length=hB l:=by unfold e6;rw [List.take_length]
  have ch:=aoV (l:=l) (by omega) hg (i:=0) (n1:=n) (n2:=n) (by omega) (by omega) (by omega)
  simp only [aus,auw,auv];unfold RC;rcases ch with⟨a,k,e1,e2,lb,fx,jS⟩|⟨k,c,z,a,e1,e2,hc,hk⟩
  ·have e1:zY n ⟨l,0⟩=some (aD.ret a ((k:Nat):Int)):=e1;have e2:AZ n l 0=some (a,((k:Nat):Int),0):=e2;have atW:=xM l k l.length fx;rw [e1,e2];simp only [al,aD.on,auB,Lz,aus,auu];by_cases ul:k<l.length
   ·simp only [ul,aus,auu,an2 n l k 5 (by omega),al,aD.on,adi,show¬ (5:Int)=0 by omega,aut,aux,adh n l k (by omega) fx]
    have:iV l k 5=5:=if_pos ul
    simp only [this,show¬ (5:Int)=0 by omega,aut,auv,w4,aux,auu]
    exact⟨_,rfl,rfl,MG,λh=>by cases h⟩
   ·simp only [ul,aut,auv,al,aus,auw,auu,adL];have hw:tk a≤250000:=by omega
    have HS:a.Name.length+fM a.Params+dP a.Body≤250000:=hw;rw [Vp (n:=n) a (by omega) (by omega) (by omega) (by omega) (by omega),Vq (n:=n) a (by omega) (by omega) (by omega) (by omega) (by omega) (by omega) (by omega)]
    simp only [al,w4];by_cases ah:n0 a=0
    ·simp only [ah,aus,auw,auv,adL];exact⟨_,rfl,rfl,by simp only;omega,λ_=>ah⟩
    ·simp only [ah,aut,aux,auu];exact⟨_,rfl,rfl,MG,λh=>absurd h ah⟩
  ·have e1:zY n ⟨l,0⟩=some (aD.bj (ns l k c) z):=e1;have e2:AZ n l 0=some (a,((k:Nat):Int),c):=e2;rw [e1,e2];simp only [al,aD.on,adi,Lz,hc,aut,auv,aux,auu,adh n l k (by omega) hk,w4]
   exact⟨_,rfl,rfl,MG,λh=>absurd h hc⟩
 ·simp only [he,aut,aux,auu,al,auv,w4];exact⟨_,rfl,rfl,MG,λh=>absurd h he⟩
open Go Go.Ab Go.Proofs
def cb(t:Token):Token:=⟨t.Kind,t.Text,t.N,0⟩
open Go Go.Ab Go.Proofs
def apk{w:auJ}:hO w=w.length→w.all iC=true:=by
 induction w with
 |nil=>intro;rfl
 |cons c w aW=>
  intro h;rw [Bk]at h;cases hc:iC c
  ·rw [hc]at h;simp at h
  ·rw [hc]at h;simp only [auu,auy]at h;rw [List.all_cons,hc,aW (by omega)];rfl
def adM{w:auJ}(h:hh w=true):∃c l,w=c::l∧oM c=true∧w.all iC=true∧u0 w=false∧w.length≤16:=by
 cases w with
 |nil=>cases h
 |cons c l=>
  simp only [hh,Bool.and_eq_true,decide_eq_true_eq,Bool.not_eq_true']at h;obtain⟨⟨⟨Z,ad⟩,am⟩,aR⟩:=h;exact⟨c,l,rfl,ad,apk (by simpa using am),aR,by simp;omega⟩
def hJ:auJ→auJ
 |[]=>[]
 |c::l=>if c.toNat=34∨c.toNat=92 then 92::c::hJ l else c::hJ l
def quo(s:auJ):auJ:=34::(hJ s++[34])
def spell(t:Token):auJ:=if t.Kind=3 then Lib.decDigits t.N.toNat else if t.Kind=4 then quo t.Text else t.Text
def F0(t:Token):Prop:=
 t.ls=0∧((t.Kind=1∧hh t.Text=true∧t.N=0)∨(t.Kind=2∧t.Text∈uZ∧t.N=0)∨(t.Kind=3∧t.Text=[]∧0≤t.N∧t.N≤9223372036854775807)∨
  (t.Kind=4∧jP t.Text=true∧t.N=0)∨(t.Kind=5∧t.Text∈marks∧t.N=0))
open Go Go.Ab Go.Proofs
abbrev rY:=List (Option Token)
def flat:rY→auJ
 |[]=>[]
 |some t::l=>spell t++flat l
 |none::l=>32::flat l
def xR:rY→List Token
 |[]=>[]
 |some t::l=>t::xR l
 |none::l=>xR l
def oQ:∀l m:rY,flat (l++m)=flat l++flat m
 |[],m=>rfl
 |some t::l,m=>by simp only [List.cons_append,flat,oQ l m,List.append_assoc]
 |none::l,m=>by simp only [List.cons_append,flat,oQ l m]
def mO(w:auJ):Token:=⟨2,w,0,0⟩
def gB(w:auJ):Token:=⟨5,w,0,0⟩
def apl(w:auJ):Token:=⟨1,w,0,0⟩
def apm(n:Int):Token:=⟨3,[],n,0⟩
def apn(w:auJ):Token:=⟨4,w,0,0⟩
def eS(op:Int):Nat:=if op=17 then 1 else if op=16 then 2 else if op=18 then 3 else if 10≤op∧op≤15 then 4 else if op=19 then 5 else if op=4∨op=5 then 6 else if 6≤op∧op≤8 then 7 else if op=9 then 8 else 9
def tn(op:Int):Token:=
 if op=17 then mO [111,114]else if op=16 then mO [97,110,100]else if op=10 then gB [61,61]else if op=11 then gB [33,61]else if op=12 then gB [60]else if op=13 then gB [60,61]
 else if op=14 then gB [62]else if op=15 then gB [62,61]else if op=19 then gB [43,43]else if op=4 then gB [43]else if op=5 then gB [45]else if op=6 then gB [42]else if op=7 then gB [47]else gB [37]
def jk(op:Int):Token:=
 if op=20 then mO [116,101,120,116]else if op=21 then mO [108,101,110]else if op=22 then mO [103,101,116,105,110,116]else if op=23 then mO [103,101,116,115,116,114]else if op=24 then mO [104,97,115]
 else if op=25 then mO [110,111,119]else if op=26 then mO [114,97,110,100,111,109]else mO [110,111,100,101]
def jC(op:Int)(p:rY)(least:Nat):rY:=if eS op<least then some (gB [40])::(p++[some (gB [41])])else p
def u_(Op N:Int)(S:auJ)(L:List (Int×rY)):rY:=
 if Op=1 then[some (apm N)]else if Op=2 then[some (apn S)]else if Op=3 then[some (apl S)]
 else match L with
  |[]=>[some (jk Op),some (gB [40]),some (gB [41])]
  |[a]=>if Op=18 then some (mO [110,111,116])::none::jC a.1 a.2 3 else if Op=9 then some (gB [45])::jC a.1 a.2 8 else some (jk Op)::some (gB [40])::(a.2++[some (gB [41])])
  |a::b::_=>jC a.1 a.2 (if eS Op=4 then 5 else eS Op)++none::some (tn Op)::none::jC b.1 b.2 (eS Op+1)
mutual
def dJ:Expr→rY
 |⟨Op,N,S,an⟩=>u_ Op N S (tp an)
def tp:List Expr→List (Int×rY)
 |[]=>[]
 |x::l=>(x.Op,dJ x)::tp l
end
def rq(op:Int)(n:Nat):Prop:=(1≤op∧op≤27)∧(n:Int)=jQ op
mutual
def iK:Expr→Prop
 |⟨Op,N,S,an⟩=>rq Op an.length∧(Op=1→0≤N∧N≤9223372036854775807)∧(Op≠1→N=0)∧(Op≠2∧Op≠3→S=[])∧(Op=2→jP S=true)∧(Op=3→hh S=true)∧MH an
def MH:List Expr→Prop
 |[]=>True
 |x::l=>iK x∧MH l
end
mutual
def hY:Expr→Nat
 |⟨_,_,_,an⟩=>1+qO an
def qO:List Expr→Nat
 |[]=>0
 |x::l=>max (hY x) (qO l)
end
def MI(e:Expr):iK e↔rq e.Op e.an.length∧(e.Op=1→0≤e.N∧e.N≤9223372036854775807)∧(e.Op≠1→e.N=0)∧(e.Op≠2∧e.Op≠3→e.S=[])∧(e.Op=2→jP e.S=true)∧(e.Op=3→hh e.S=true)∧MH e.an:=by cases e;rfl
def F1(e:Expr):hY e=1+qO e.an:=by cases e;rfl
def adN{w:auJ}(h:w∈uZ):F0 (mO w):=⟨rfl,Or.inr (Or.inl ⟨rfl,h,rfl⟩)⟩
def apo{c:Prop}[Decidable c]{a b:Token}(ha:F0 a)(hb:F0 b):F0 (if c then a else b):=by
 by_cases h:c
 ·rw [if_pos h];exact ha
 ·rw [if_neg h];exact hb
def apq{c:Prop}[Decidable c]{a b:Token}{k:Int}(ha:a.Kind=k)(hb:b.Kind=k):(if c then a else b).Kind=k:=by
 by_cases h:c
 ·rw [if_pos h];exact ha
 ·rw [if_neg h];exact hb
def apr(op:Int):F0 (jk op)∧(jk op).Kind=2:=by
 unfold jk;constructor
 ·repeat refine apo (adN (by decide)) ?_
  exact adN (by decide)
 ·repeat refine apq rfl ?_
  rfl
def aps{op:Int}(h:1≤op∧op≤27):jQ op=0∧(op≤3∨25≤op)∨jQ op=1∧(op=9∨op=18∨20≤op∧op≤24)∨jQ op=2∧(4≤op∧op≤8∨10≤op∧op≤17∨op=19):=by
 obtain rfl|rfl|rfl|rfl|rfl|rfl|rfl|rfl|rfl|rfl|rfl|rfl|rfl|rfl|rfl|rfl|rfl|rfl|rfl|rfl|rfl|rfl|rfl|rfl|rfl|rfl|rfl:op=1∨op=2∨op=3∨op=4∨op=5∨op=6∨op=7∨op=8∨op=9∨op=10∨op=11∨op=12∨op=13∨op=14∨op=15∨op=16∨op=17∨op=18∨op=19∨op=20∨op=21∨op=22∨op=23∨op=24∨op=25∨op=26∨op=27:=by omega
 all_goals first|exact Or.inl ⟨rfl,by omega⟩|exact Or.inr (Or.inl ⟨rfl,by omega⟩)|exact Or.inr (Or.inr ⟨rfl,by omega⟩)
open Go Go.Ab Go.Proofs
def dD(l:List Token)(i:Nat)(T R:List Token):Prop:=(l.map cb).drop i=T++R
def xS(R:List Token)(w:auJ):Bool:=
 match R with
 |[]=>false
 |t::_=>(decide (t.Kind=2)||decide (t.Kind=5))&&decide (t.Text=w)
def apt(l:List Token)(i:Nat)(w:auJ):b8 l i w=xS ((l.map cb).drop i) w:=by
 unfold b8;by_cases h:i<l.length
 ·rw [fH (l.map cb) i default (by simpa using h)]
  have:(l.map cb).getD i default=cb (l.getD i default):=by simp [List.getD,h]
  rw [this];generalize l.getD i default=t
  simp only [xS,h,cb,aus,Bool.true_and]
  congr
 ·rw [hf (l.map cb) i (by simpa using h)]
  simp [xS,h]
def dD.is{l T R:List Token}{i:Nat}(h:dD l i T R)(w:auJ):b8 l i w=xS (T++R) w:=by rw [apt,h]
def dD.call{l T R:List Token}{i:Nat}(h:dD l i T R):qJ l i=call2 (iW.find? λr=>xS (T++R) r.1):=by
 unfold qJ
 congr 2
 funext r
 exact h.is r.1
def dD.lt{l T R:List Token}{t:Token}{i:Nat}(h:dD l i (t::T) R):i<l.length:=by
 by_cases hi:i<l.length
 ·exact hi
 ·unfold dD at h;rw [hf (l.map cb) i (by simpa using hi)]at h
  cases h
def dD.hd{l T R:List Token}{t:Token}{i:Nat}(h:dD l i (t::T) R):cb (l.getD i default)=t:=by
 have hi:=h.lt;unfold dD at h;rw [fH (l.map cb) i default (by simpa using hi),List.cons_append]at h
 injection h with Z ad;rw [←Z];simp [List.getD,hi]
def dD.F2{l T U R:List Token}{i:Nat}(h:dD l i (T++U) R):dD l (i+T.length) U R:=by
 unfold dD at *;rw [←List.drop_drop,h,List.append_assoc,List.drop_left]
def dD.le{l T R:List Token}{i:Nat}(h:dD l i T R)(aT:T≠[]):i+T.length≤l.length:=by
 have:=congrArg List.length h
 simp only [List.length_drop,List.length_map,auC]at this;have:0<T.length:=List.length_pos_iff.2 aT
 omega
def apu(R:List Token):Int:=(Bq (gA.find? λr=>xS R r.1)).1
def apv(op:Int)(R:List Token)(h:20≤op∧op≤27):call2 (iW.find? λr=>xS (jk op::R) r.1)=op:=by
 have:op=20∨op=21∨op=22∨op=23∨op=24∨op=25∨op=26∨op=27:=by omega
 rcases this with rfl|rfl|rfl|rfl|rfl|rfl|rfl|rfl<;>rfl
section
variable {l:List Token}
def jg(l:List Token)(i d dv:Nat)(e:Expr)(k B:Nat):Prop:=∀n,B≤n→gF n (dv:Int) (d:Int) ⟨l,(i:Int)⟩=some (.ret e (k:Int))
def F3(l:List Token)(i d:Nat)(e:Expr)(k B:Nat):Prop:=∀n,B≤n→k5 n (d:Int) ⟨l,(i:Int)⟩=some (.ret e (k:Int))
def Vr(l:List Token)(i d:Nat)(e:Expr)(k B:Nat):Prop:=∀n,B≤n→ly n (d:Int) ⟨l,(i:Int)⟩=some (.ret e (k:Int))
theorem jg.mono{i d dv:Nat}{e:Expr}{k B adO:Nat}(h:jg l i d dv e k B)(e0:B≤adO):jg l i d dv e k adO:=λn hn=>h n (by omega)
theorem apw(e:Expr):(⟨e.Op,e.N,e.S,e.an⟩:Expr)=e:=by cases e;rfl
theorem jg.down{i d dv:Nat}{e:Expr}{k B:Nat}(h:jg l i d (dv+1) e k B)(jJ:1≤dv)(Mr:dv≤7)(hs:(mM l k).1≠(dv:Int))(am:dv=3→b8 l i [110,111,116]=false):jg l i d dv e k (B+2):=by
 intro n hn;obtain⟨n,rfl⟩:∃j,n=j+1:=⟨n-1,by omega⟩
 have he:=h n (by omega)
 rw [U3];unfold zT;simp only [fv,Bo,al];by_cases e3:dv=3
 ·subst e3;rw [am rfl];simp only [aus,auu,auv];rw [show gF n 4 (d:Int) ⟨l,(i:Int)⟩=_ from he]
  rfl
 ·simp only [e3,show¬ dv=8 by omega,aut,auv]
  rw [dp (by omega),he]
  obtain⟨m,hm⟩:∃j,n=j+1:=⟨n-1,by omega⟩
  simp only [al,aD.on]
  conv=>lhs;arg 9;rw [hm]
  simp only [zS,Jt,ac9,al,hs,aut,aux,auu,apw]
theorem F3.down{i d:Nat}{e:Expr}{k B:Nat}(h:F3 l i d e k B)(eD:b8 l i [45]=false):jg l i d 8 e k (B+1):=by
 intro n hn;obtain⟨n,rfl⟩:∃j,n=j+1:=⟨n-1,by omega⟩
 rw [U3];unfold zT;simp only [fv,Bo,al,show¬ 8=3 by omega,aus,aut,auu,auv,eD]
 rw [h n (by omega)]
 rfl
theorem Vr.of{i d:Nat}{e:Expr}{k B:Nat}(ae:l.length≤1000000000)(hi:b8 l i [40]=true)(h:jg l (i+1) d 1 e k B)(hk:b8 l k [41]=true):Vr l i d e (k+1) (B+1):=by
 intro n hn;obtain⟨n,rfl⟩:∃j,n=j+1:=⟨n-1,by omega⟩
 have Z:=hl hi;have ad:=hl hk;rw [U4];unfold zU;rw [oO n l i _ (by omega) (by omega),hi]
 simp only [al,auu,aD.on];rw [show gF n 1 (d:Int) ⟨l,((i+1:Nat):Int)⟩=_ from h n (by omega)]
 simp only [al,aD.on];rw [oO n l k _ (by omega) (by omega),hk]
 rfl
theorem apx{n i d:Nat}(ae:l.length≤1000000000)(h:i<l.length):k5 (n+1) (d:Int) ⟨l,(i:Int)⟩ =
 if(l.getD i default).Kind=3 then some (.ret ⟨1,(l.getD i default).N,[],[]⟩ ((i+1:Nat):Int))else if(l.getD i default).Kind=4 then some (.ret ⟨2,0,(l.getD i default).Text,[]⟩ ((i+1:Nat):Int))
 else if(l.getD i default).Kind=1 then some (.ret ⟨3,0,(l.getD i default).Text,[]⟩ ((i+1:Nat):Int))else w0 n (gF n) (lU n) (k5 n) (ly n) (d:Int) ⟨l,(i:Int)⟩ (i:Int):=by
 rw [ada];unfold DT
 (rw [dp (by omega)];simp only [auA];rw [Mp (by omega)])
 simp only [auB,h,aus,auu,cv h,bd];by_cases am:(l.getD i default).Kind=3
 ·simp only [am,aus,auu,auH]
 ·by_cases aR:(l.getD i default).Kind=4
  ·simp only [aR,show¬ (4:Int)=3 by omega,aus,aut,auu,auv,auH,auI]
  ·by_cases bv:(l.getD i default).Kind=1
   ·simp only [bv,show¬ (1:Int)=3 by omega,show¬ (1:Int)=4 by omega,aus,aut,auu,auv,auH,auI]
   ·simp only [am,aR,bv,aut,auv,auI]
theorem F3.word{i d:Nat}{e:Expr}{k B:Nat}{op:Int}(gQ:20≤op∧op≤24)(ae:l.length≤1000000000)(hg:mp l){T R:List Token}(e4:dD l i (jk op::T) R)(hd:d≤23)(h:Vr l (i+1) (d+1) e k B):F3 l i d ⟨op,0,[],[e]⟩ k (B+1):=by
 intro n hn;obtain⟨n,rfl⟩:∃j,n=j+1:=⟨n-1,by omega⟩
 have b2:=e4.lt;have bB:=e4.hd;have hk:(l.getD i default).Kind=2:=by have:=congrArg Token.Kind bB;exact this.trans (apr op).2
 rw [apx ae b2,hk,if_neg (by decide),if_neg (by decide),if_neg (by decide)]
 unfold w0 m' Jv;rw [ac' n l i hg,e4.call,List.cons_append,apv op _ (by omega),Mn n l i d (by omega) (by omega),if_neg (by omega)]
 simp only [al,show¬ op=0 by omega,show¬ op=25 by omega,show¬ op=26 by omega,show¬ op=27 by omega,aut,auv,aD.on]
 rw [dp (by omega),h n (by omega)]
 rfl
end
open Go Go.Ab Go.Proofs
def apy{l:List Expr}{n:Int}(h:(l.length:Int)=n)(ad:n=2):∃a b,l=[a,b]:=by
 match l,h with
 |[a,b],_=>exact⟨a,b,rfl⟩
 |[],h=>simp at h;omega
 |[a],h=>simp at h;omega
 |a::b::c::l,h=>simp at h;omega
def apz{l:List Expr}{n:Int}(h:(l.length:Int)=n)(ad:n=1):∃a,l=[a]:=by
 match l,h with
 |[a],_=>exact⟨a,rfl⟩
 |[],h=>simp at h;omega
 |a::b::l,h=>simp at h;omega
def apA{l:List Expr}{n:Int}(h:(l.length:Int)=n)(ad:n=0):l=[]:=by
 match l,h with
 |[],_=>rfl
 |a::l,h=>simp at h;omega
def Vs(e:Expr)(h:iK e):
 (e.Op=1∧e=⟨1,e.N,[],[]⟩)∨(e.Op=2∧e=⟨2,0,e.S,[]⟩)∨(e.Op=3∧e=⟨3,0,e.S,[]⟩)∨((25≤e.Op∧e.Op≤27)∧e=⟨e.Op,0,[],[]⟩)∨
 (∃a,e=⟨e.Op,0,[],[a]⟩∧iK a∧hY e=1+hY a∧(e.Op=9∨e.Op=18∨20≤e.Op∧e.Op≤24))∨
 (∃a b,e=⟨e.Op,0,[],[a,b]⟩∧iK a∧iK b∧hY e=1+max (hY a) (hY b)∧(4≤e.Op∧e.Op≤8∨10≤e.Op∧e.Op≤17∨e.Op=19)):=by
 obtain⟨Op,N,S,an⟩:=e;obtain⟨⟨Z,ad⟩,am,aR,bv,cz,eG,eD⟩:=h;rcases aps Z with⟨ha,hb⟩|⟨ha,hb⟩|⟨ha,hb⟩
 ·obtain rfl:=apA ad ha;by_cases e1:Op=1
  ·subst e1;obtain rfl:=bv (by omega);exact Or.inl ⟨rfl,rfl⟩
  ·obtain rfl:=aR e1;by_cases e2:Op=2
   ·subst e2;exact Or.inr (Or.inl ⟨rfl,rfl⟩)
   ·by_cases e3:Op=3
    ·subst e3;exact Or.inr (Or.inr (Or.inl ⟨rfl,rfl⟩))
    ·obtain rfl:=bv ⟨e2,e3⟩;exact Or.inr (Or.inr (Or.inr (Or.inl ⟨⟨by simp only;omega,by simp only;omega⟩,rfl⟩)))
 ·obtain⟨a,rfl⟩:=apz ad ha;obtain rfl:=aR (by omega)
  obtain rfl:=bv (by omega)
  exact Or.inr (Or.inr (Or.inr (Or.inr (Or.inl ⟨a,rfl,eD.1,by simp [hY,qO],hb⟩))))
 ·obtain⟨a,b,rfl⟩:=apy ad ha;obtain rfl:=aR (by omega)
  obtain rfl:=bv (by omega)
  exact Or.inr (Or.inr (Or.inr (Or.inr (Or.inr ⟨a,b,rfl,eD.1,eD.2.1,by simp [hY,qO],hb⟩))))
def Vt{op:Int}{a b:Expr}(h:4≤op∧op≤8∨10≤op∧op≤17∨op=19):dJ ⟨op,0,[],[a,b]⟩=jC a.Op (dJ a) (if eS op=4 then 5 else eS op)++none::some (tn op)::none::jC b.Op (dJ b) (eS op+1):=by
 simp only [dJ,tp,u_];rw [if_neg (by omega),if_neg (by omega),if_neg (by omega)]
def adP{op:Int}(h:4≤op∧op≤8∨10≤op∧op≤17∨op=19):eS op=1∨eS op=2∨eS op=4∨eS op=5∨eS op=6∨eS op=7:=by
 have:op=4∨op=5∨op=6∨op=7∨op=8∨op=10∨op=11∨op=12∨op=13∨op=14∨op=15∨op=16∨op=17∨op=19:=by omega
 rcases this with rfl|rfl|rfl|rfl|rfl|rfl|rfl|rfl|rfl|rfl|rfl|rfl|rfl|rfl<;>decide
section
variable {l:List Token}
end
open Go Go.Ab Go.Proofs
section
variable {l:List Token}
def fV(l:List Token)(e:Expr):Prop:=∀(i d:Nat) (R:List Token),dD l i (xR (dJ e)) R→apu R<(eS e.Op:Int)→d+2*hY e≤26→
 if eS e.Op=9 then F3 l i d e (i+(xR (dJ e)).length) (24*(xR (dJ e)).length+20)else jg l i d (eS e.Op) e (i+(xR (dJ e)).length) (24*(xR (dJ e)).length+40-2*eS e.Op)
end
open Go Go.Ab Go.Proofs
def hq{k:Nat}(h:k≤1000000000000):cq k=true:=US (by omega)
def Vu{k:Nat}(h:k≤1000000000000):room k 1=true:=by simp [room];omega
def Vv(n:Nat)(op:Int):Dp n op=some ((eS op:Nat):Int):=by
 by_cases h:1≤op∧op≤27
 ·obtain rfl|rfl|rfl|rfl|rfl|rfl|rfl|rfl|rfl|rfl|rfl|rfl|rfl|rfl|rfl|rfl|rfl|rfl|rfl|rfl|rfl|rfl|rfl|rfl|rfl|rfl|rfl:op=1∨op=2∨op=3∨op=4∨op=5∨op=6∨op=7∨op=8∨op=9∨op=10∨op=11∨op=12∨op=13∨op=14∨op=15∨op=16∨op=17∨op=18∨op=19∨op=20∨op=21∨op=22∨op=23∨op=24∨op=25∨op=26∨op=27:=by omega
  all_goals rfl
 ·have e:eS op=9:=by
   unfold eS;rw [if_neg (by omega),if_neg (by omega),if_neg (by omega),if_neg (by omega),if_neg (by omega),if_neg (by omega),if_neg (by omega),if_neg (by omega)]
  rw [e];simp only [Dp,uv,ID,Do,Qo,show¬ op=17 by omega,show¬ op=16 by omega,show¬ op=18 by omega,show¬ op=10 by omega,show¬ op=11 by omega,show¬ op=12 by omega,show¬ op=13 by omega,show¬ op=14 by omega,show¬ op=15 by omega,show¬ op=19 by omega,show¬ op=4 by omega,show¬ op=5 by omega,show¬ op=6 by omega,show¬ op=7 by omega,show¬ op=8 by omega,show¬ op=9 by omega,aut,auv]
  rfl
def adQ(n:Nat)(op:Int)(h:20≤op∧op≤27):IF n op=some (spell (jk op)):=by
 obtain rfl|rfl|rfl|rfl|rfl|rfl|rfl|rfl:op=20∨op=21∨op=22∨op=23∨op=24∨op=25∨op=26∨op=27:=by omega
 all_goals rfl
def adR(n:Nat)(op:Int)(h:4≤op∧op≤8∨10≤op∧op≤17∨op=19):IE n op=some (spell (tn op)):=by
 have:op=4∨op=5∨op=6∨op=7∨op=8∨op=10∨op=11∨op=12∨op=13∨op=14∨op=15∨op=16∨op=17∨op=19:=by omega
 rcases this with rfl|rfl|rfl|rfl|rfl|rfl|rfl|rfl|rfl|rfl|rfl|rfl|rfl|rfl<;>rfl
def adS(n:Nat)(i:Int)(h0:0≤i)(Z:i≤9223372036854775807):wE n i=some (Lib.decDigits i.toNat):=by
 unfold wE Ic;rw [decide_eq_true (show(10:Int)=10 ∧ -9223372036854775808≤i∧i≤9223372036854775807 from⟨rfl,by omega,Z⟩)]
 simp only [bd,al];unfold Lib.itoa;rw [if_neg (by omega)]
def Bz(i:Int)(h0:0≤i)(Z:i≤9223372036854775807):(Lib.decDigits i.toNat).length≤21:=by
 have:=Lib.itoa_length_le i (by omega) Z
 unfold Lib.itoa at this
 rwa [if_neg (by omega)]at this
def F4(n:Nat)(c:UInt8)(b:auJ)(h:b.length≤100000000):rD n ((c.toNat:Nat):Int) (f7 b)=some (f7 (b++[c])):=by
 unfold rD Dm;simp only [al,Mi,auy,auz,Vu (show b.length+(0+1)≤1000000000000 by omega),bd,UR]
def apB(n:Nat)(s:auJ)(hs:s.length≤4611686018427387904):∀m i,s.length<i+m→i≤s.length→Dl n s m (i:Int)=some ((s.drop i).all okB):=by
 intro m;induction m with
 |zero=>intro i h ad;omega
 |succ m aW=>
  intro i hm hi;simp only [Dl,Qj,Qi];by_cases h:i<s.length
  ·rw [fH s i 0 h,dp (by omega),aW (i+1) (by omega) (by omega)]
   simp only [h,cv h,auA,auB,aus,auu,bd,auG,List.all_cons,pF,gc,dL,Bj];cases okB (s.getD i 0)<;>simp
  ·rw [hf s i h];simp [h]
def apC{n:Nat}(s:auJ)(h:s.length<n)(hs:s.length≤4611686018427387904):Qk n s=some (s.all okB):=by
 have:=apB n s hs n 0 (by omega) (by omega)
 rw [List.drop_zero]at this;exact this
def xT:∀s:auJ,(hJ s).length≤2*s.length
 |[]=>Nat.le_refl _
 |c::s=>by
  have:=xT s
  simp only [hJ];split<;>simp only [auy]<;>omega
def adT(s:auJ)(c:UInt8):hJ (s++[c])=hJ s++hJ [c]:=by
 induction s with
 |nil=>rfl
 |cons d s aW=>simp only [List.cons_append,hJ,aW];split<;>rfl
def apD(n:Nat)(s:auJ)(hs:s.length≤64):∀m i,s.length<i+m→i≤s.length→Dn n s m (f7 (34::hJ (s.take i))) (i:Int)=some (quo s,0):=by
 intro m;induction m with
 |zero=>intro i h ad;omega
 |succ m aW=>
  intro i hm hi;simp only [Dn,Qn,Ql,Qm,IB];have hlen:=xT (s.take i);have wc:(s.take i).length≤i:=by simp;omega
  by_cases h:i<s.length
  ·(rw [dp (by omega)];simp only [auA])
   have hn:=aW (i+1) (by omega) (by omega)
   have ax:s.take (i+1)=s.take i++[s.getD i 0]:=by
    rw [List.take_add,fH s i 0 h,List.take_succ_cons,List.take_zero]
   rw [ax,adT]at hn;generalize s.getD i 0=c at hn
   simp only [h,cv h,auB,aus,auu,bd,auG,fv,dL];by_cases hc:c.toNat=34∨c.toNat=92
   ·have hb:(decide (c.toNat=34)||decide (c.toNat=92))=true:=by rcases hc with hc|hc<;>rw [decide_eq_true hc]<;>simp
    have e1:=F4 n 92 (34::hJ (s.take i)) (by simp only [auy];omega)
    have e2:=F4 n c (34::hJ (s.take i)++[92]) (by simp only [auC,auy,auz];omega)
    rw [hb];simp only [auu];rw [show rD n 92 _=_ from e1]
    simp only [al];rw [e2];simp only [al];rw [show(34::hJ (s.take i)++[92]++[c])=34::(hJ (s.take i)++hJ [c])by simp only [hJ];rw [if_pos hc];simp]
    exact hn
   ·have hb:(decide (c.toNat=34)||decide (c.toNat=92))=false:=by rw [decide_eq_false (λe=>hc (Or.inl e)),decide_eq_false (λe=>hc (Or.inr e))];rfl
    have e2:=F4 n c (34::hJ (s.take i)) (by simp only [auy];omega)
    rw [hb];simp only [auv];rw [e2];simp only [al];rw [show(34::hJ (s.take i)++[c])=34::(hJ (s.take i)++hJ [c])by simp only [hJ];rw [if_neg hc];simp]
    exact hn
  ·have Vw:i=s.length:=by omega
   subst Vw;simp only [auB,Nat.lt_irrefl,aut,auv,List.take_length];have e1:=F4 n 34 (34::hJ s) (by have:=xT s;simp only [auy];omega)
   rw [show rD n 34 _=_ from e1]
   have ae:=xT s;have eQ:(f7 (34::hJ s++[34])).length≤9223372036854775807:=by rw [Mi];simp only [auC,auy,auz];omega
   simp only [al,uu,UQ,UP,eQ,aus,Bool.and_self,bd];rfl
def apE{n:Nat}(s:auJ)(h:jP s=true)(hn:100<n):IC n s=some (quo s,0):=by
 unfold jP at h;simp only [Bool.and_eq_true,decide_eq_true_eq]at h;unfold IC;simp only [gc,show¬ 64<s.length by omega,aut,auv,apC s (show s.length<n by omega) (by omega),al,h.1,auw]
 have e1:=F4 n 34 [] (by simp)
 rw [show rD n 34 []=_ from e1]
 exact apD n s (by omega) n 0 (by omega) (by omega)
def apF(s:auJ):(quo s).length≤2*s.length+2:=by
 have:=xT s
 simp only [quo,auy,auC,auz];omega
def adU{c:Prop}[Decidable c]{a b:Token}{k:Nat}(ha:(spell a).length≤k)(hb:(spell b).length≤k):(spell (if c then a else b)).length≤k:=by
 by_cases h:c
 ·rw [if_pos h];exact ha
 ·rw [if_neg h];exact hb
def Vx(op:Int):(spell (tn op)).length≤3:=by
 unfold tn
 repeat refine adU (by decide) ?_
 decide
def BA(op:Int):(spell (jk op)).length≤6:=by
 unfold jk
 repeat refine adU (by decide) ?_
 decide
def pM(op:Int)(p:rY)(k:Nat):(flat (jC op p k)).length≤(flat p).length+2:=by
 unfold jC;split
 ·simp only [flat,oQ,spell,gB,auC,auy];simp;omega
 ·omega
def qP{w:auJ}(h:hh w=true):w.length≤16:=by
 obtain⟨c,l,_,_,_,_,bv⟩:=adM h;exact bv
def rc:∀(h:Nat) (e:Expr),hY e≤h→iK e→(flat (dJ e)).length≤4*cN e:=by
 intro h;induction h with
 |zero=>intro e he;rw [F1]at he;omega
 |succ h aW=>
  intro e he ew;have n3:=(MI e).1 ew;have u1:=qH e;rcases Vs e ew with⟨Z,av⟩|⟨Z,av⟩|⟨Z,av⟩|⟨ah,av⟩|⟨a,av,ha,bB,gQ⟩|⟨a,b,av,ha,hb,bB,gQ⟩
  ·have:=Bz e.N (n3.2.1 Z).1 (n3.2.1 Z).2
   have e2:flat (dJ e)=Lib.decDigits e.N.toNat++[]:=by rw [av];rfl
   rw [e2,List.append_nil];omega
  ·have:=apF e.S
   have e2:flat (dJ e)=quo e.S++[]:=by rw [av];rfl
   rw [e2,List.append_nil];omega
  ·have:=qP (n3.2.2.2.2.2.1 Z)
   have e2:flat (dJ e)=e.S++[]:=by rw [av];rfl
   rw [e2,List.append_nil];omega
  ·have:=BA e.Op
   generalize e.Op=op at ah av this
   have e2:flat (dJ e)=spell (jk op)++([40]++([41]++[])):=by
    rw [av];simp only [dJ,tp,u_];rw [if_neg (by omega),if_neg (by omega),if_neg (by omega)];rfl
   rw [e2];simp only [auC,auy,auz];omega
  ·have F5:=aW a (by omega) ha
   have F6:cN e=30+(cN a+1):=by rw [av];simp [cN,iU,l2]
   have:=BA e.Op
   have am:=pM a.Op (dJ a) 3;have eD:=pM a.Op (dJ a) 8;generalize e.Op=op at gQ av this
   have e2:dJ e=if op=18 then some (mO [110,111,116])::none::jC a.Op (dJ a) 3 else if op=9 then some (gB [45])::jC a.Op (dJ a) 8 else some (jk op)::some (gB [40])::(dJ a++[some (gB [41])]):=by
    rw [av];simp only [dJ,tp,u_];rw [if_neg (by omega),if_neg (by omega),if_neg (by omega)]
   rw [e2];split
   ·simp only [flat,spell,mO,auC,auy];simp;omega
   ·split
    ·simp only [flat,spell,gB,auC,auy];simp;omega
    ·simp only [flat,oQ,auC];have e3:(spell (gB [40])).length=1:=rfl;have gZ:(spell (gB [41])).length=1:=rfl;simp only [auz];omega
  ·have F5:=aW a (by omega) ha
   have adV:=aW b (by omega) hb
   have F6:cN e=30+(cN a+1+(cN b+1)):=by rw [av];simp [cN,iU,l2]
   have:=Vx e.Op
   have am:=pM a.Op (dJ a) (if eS e.Op=4 then 5 else eS e.Op)
   have eD:=pM b.Op (dJ b) (eS e.Op+1);generalize e.Op=op at gQ av this am eD
   have e2:dJ e=jC a.Op (dJ a) (if eS op=4 then 5 else eS op)++none::some (tn op)::none::jC b.Op (dJ b) (eS op+1):=by rw [av,Vt gQ]
   rw [e2];simp only [oQ,flat,auC,auy];omega
open Go Go.Ab Go.Proofs
def apG(n:Nat):mg (n+1)=IG n (mg n) (wF n):=rfl
def apH(n:Nat):wF (n+1)=IH n (mg n) (wF n):=rfl
def F7{n:Nat}{e:Expr}{k:Nat}(h:mg n e=some (flat (dJ e)))(ae:(flat (dJ e)).length≤100000000):wF (n+1) e (k:Int)=some (flat (jC e.Op (dJ e) k)):=by
 rw [apH];unfold IH jC;rw [Vv,h];simp only [al,auB];by_cases hk:eS e.Op<k
 ·simp only [hk,aus,auu,auH];rw [hq (by simp;omega),hq (by simp;omega)]
  simp only [bd,flat,oQ,spell,gB];simp
 ·simp only [hk,aut,auv,auI]
def apI:∀(h:Nat) (e:Expr) (n:Nat),hY e≤h→iK e→2*h+200≤n→cN e≤1000000→mg n e=some (flat (dJ e)):=by
 intro h;induction h with
 |zero=>intro e n he;rw [F1]at he;omega
 |succ h aW=>
  intro e n he ew hn Ms;obtain⟨n,rfl⟩:∃j,n=j+1:=⟨n-1,by omega⟩
  obtain⟨n,rfl⟩:∃j,n=j+1:=⟨n-1,by omega⟩
  have n3:=(MI e).1 ew;have u1:=qH e;rw [apG];unfold IG;rw [Vv];simp only [al];rcases Vs e ew with⟨Z,av⟩|⟨Z,av⟩|⟨Z,av⟩|⟨ah,av⟩|⟨a,av,ha,bB,gQ⟩|⟨a,b,av,ha,hb,bB,gQ⟩
  ·have e2:flat (dJ e)=Lib.decDigits e.N.toNat++[]:=by rw [av];rfl
   rw [adS _ e.N (n3.2.1 Z).1 (n3.2.1 Z).2,e2,List.append_nil];simp only [Z,aus,auu,al]
  ·have e2:flat (dJ e)=quo e.S++[]:=by rw [av];rfl
   rw [apE e.S (n3.2.2.2.2.1 Z) (by omega),e2,List.append_nil]
   simp only [Z,show¬ (2:Int)=1 by omega,aus,aut,auu,auv,al]
  ·have e2:flat (dJ e)=e.S++[]:=by rw [av];rfl
   rw [e2,List.append_nil];simp only [Z,show¬ (3:Int)=1 by omega,show¬ (3:Int)=2 by omega,aus,aut,auu,auv]
  ·have hw:=BA e.Op;have Vy:=adQ (n+1) e.Op (by omega)
   have jJ:eS e.Op=9:=by
    have:e.Op=25∨e.Op=26∨e.Op=27:=by omega
    rcases this with h|h|h<;>rw [h]<;>decide
   have fc:e.an=[]:=by rw [av]
   have e2:flat (dJ e)=spell (jk e.Op)++([40]++([41]++[])):=by
    generalize e.Op=op at ah av
    rw [av];simp only [dJ,tp,u_];rw [if_neg (by omega),if_neg (by omega),if_neg (by omega)];rfl
   rw [Vy,e2];simp only [al];rw [hq (show(spell (jk e.Op)).length+([40,41]:auJ).length≤1000000000000 by simp;omega)]
   simp only [jJ,fc,show¬ e.Op=1 by omega,show¬ e.Op=2 by omega,show¬ e.Op=3 by omega,show¬ e.Op=18 by omega,show¬ e.Op=9 by omega,aut,auv,auz,fv,aus,auu,bd]
   simp
  ·have F6:cN e=30+(cN a+1):=by rw [av];simp [cN,iU,l2]
   have qQ:=aW a n (by omega) ha (by omega) (by omega)
   have Vz:=aW a (n+1) (by omega) ha (by omega) (by omega)
   have F5:=rc (hY a) a (Nat.le_refl _) ha;have fc:e.an=[a]:=by rw [av]
   have am:=pM a.Op (dJ a) 3;have eD:=pM a.Op (dJ a) 8
   have e2:dJ e=if e.Op=18 then some (mO [110,111,116])::none::jC a.Op (dJ a) 3 else if e.Op=9 then some (gB [45])::jC a.Op (dJ a) 8 else some (jk e.Op)::some (gB [40])::(dJ a++[some (gB [41])]):=by
    generalize e.Op=op at gQ av
    rw [av];simp only [dJ,tp,u_];rw [if_neg (by omega),if_neg (by omega),if_neg (by omega)]
   rw [e2,fc];simp only [auy,auz,mo (show 0<0+1 by omega),bd,List.getD_cons_zero,show¬ e.Op=1 by omega,show¬ e.Op=2 by omega,show¬ e.Op=3 by omega,aut,auv]
   by_cases xU:e.Op=18
   ·have:=F7 (k:=3) qQ (by omega)
    rw [xU];simp only [aus,auu,auH,show eS 18=3 from rfl]
    rw [this];simp only [al];rw [hq (by simp;omega)]
    rfl
   ·by_cases iI:e.Op=9
    ·have:=F7 (k:=8) qQ (by omega)
     rw [iI];simp only [show¬ (9:Int)=18 by omega,aus,aut,auu,auv,auH,auI,show eS 9=8 from rfl]
     rw [this];simp only [al];rw [hq (by simp;omega)]
     rfl
    ·have apJ:20≤e.Op∧e.Op≤24:=by omega
     have jJ:eS e.Op=9:=by
      have:e.Op=20∨e.Op=21∨e.Op=22∨e.Op=23∨e.Op=24:=by omega
      rcases this with h|h|h|h|h<;>rw [h]<;>decide
     have hw:=BA e.Op;rw [adQ (n+1) e.Op (by omega),Vz,if_neg xU,if_neg iI]
     have e3:flat (some (jk e.Op)::some (gB [40])::(dJ a++[some (gB [41])]))=spell (jk e.Op)++([40]++(flat (dJ a)++([41]++[]))):=by
      simp only [flat,oQ];rfl
     rw [e3];generalize spell (jk e.Op)=W at hw
     simp only [xU,iI,jJ,aut,aus,auv,auu,al];rw [hq (show W.length+(0+1)≤1000000000000 by omega),hq (show(W++([40]:auJ)).length+(flat (dJ a)).length≤1000000000000 by simp;omega),hq (show((W++([40]:auJ))++flat (dJ a)).length+(0+1)≤1000000000000 by simp;omega)]
     simp only [show((0+1:Nat):Int)=1 from rfl,show¬ (1:Int)=0 by omega,show((9:Nat):Int)=9 from rfl,aus,aut,auu,auv,bd]
     simp
  ·have F6:cN e=30+(cN a+1+(cN b+1)):=by rw [av];simp [cN,iU,l2]
   have qQ:=aW a n (by omega) ha (by omega) (by omega)
   have VA:=aW b n (by omega) hb (by omega) (by omega)
   have F5:=rc (hY a) a (Nat.le_refl _) ha;have adV:=rc (hY b) b (Nat.le_refl _) hb;have fc:e.an=[a,b]:=by rw [av]
   have jJ:=adP gQ;have apK:=Vx e.Op
   have e2:dJ e=jC a.Op (dJ a) (if eS e.Op=4 then 5 else eS e.Op)++none::some (tn e.Op)::none::jC b.Op (dJ b) (eS e.Op+1):=by
    generalize e.Op=op at gQ av
    rw [av,Vt gQ]
   have am:=pM a.Op (dJ a) (if eS e.Op=4 then 5 else eS e.Op)
   have eD:=pM b.Op (dJ b) (eS e.Op+1);have xV:=F7 (k:=eS e.Op+1) VA (by omega)
   rw [e2,fc,adR (n+1) e.Op gQ];simp only [auy,auz,mo (show 0<0+1+1 by omega),bd,List.getD_cons_zero,List.getD_cons_succ,show¬ e.Op=1 by omega,show¬ e.Op=2 by omega,show¬ e.Op=3 by omega,show¬ e.Op=18 by omega,show¬ e.Op=9 by omega,aut,auv,fv,show¬ eS e.Op=9 by omega,show aN 1 (0+1+1)=true from rfl]
   by_cases aR:eS e.Op=4
   ·have sx:=F7 (k:=5) qQ (by omega)
    rw [aR]at xV ⊢;rw [if_pos rfl];rw [if_pos aR]at am;simp only [aus,auu];rw [show wF (n+1) a 5=_ from sx,show wF (n+1) b 5=_ from xV]
    simp only [al];rw [aR]at eD;rw [hq (by simp;omega),hq (by simp;omega),hq (by simp;omega),hq (by simp only [auC,auy,auz];omega)]
    simp only [bd,oQ,flat];simp
   ·have sx:=F7 (k:=eS e.Op) qQ (by omega)
    rw [if_neg aR]at am ⊢;simp only [aR,aut,auv];rw [sx,dp (by omega),xV]
    simp only [al];rw [hq (by simp;omega),hq (by simp;omega),hq (by simp;omega),hq (by simp only [auC,auy,auz];omega)]
    simp only [bd,oQ,flat];simp
open Go Go.Ab Go.Proofs
mutual
def rZ:Expr→Prop
 |⟨Op,N,S,an⟩=>(-9223372036854775808≤N∧N≤9223372036854775807)∧S.length≤9223372036854775807∧an.length≤9223372036854775807∧BB an
def BB:List Expr→Prop
 |[]=>True
 |x::l=>rZ x∧BB l
end
def apL(e:Expr):rZ e↔(-9223372036854775808≤e.N∧e.N≤9223372036854775807)∧e.S.length≤9223372036854775807∧e.an.length≤9223372036854775807∧BB e.an:=by cases e;rfl
mutual
def F8:Expr→Nat
 |⟨_,_,S,an⟩=>1+S.length / 64+MJ an
def MJ:List Expr→Nat
 |[]=>0
 |x::l=>F8 x+MJ l
end
mutual
def VB:∀e:Expr,rZ e→cN e+1≤95*F8 e
 |⟨Op,N,S,an⟩,h=>by
  have:=adW an h.2.2.2
  simp only [cN,F8,UJ h.1];omega
def adW:∀l:List Expr,BB l→iU l≤95*MJ l
 |[],_=>Nat.le_refl _
 |x::l,h=>by
  have Z:=VB x h.1;have ad:=adW l h.2;simp only [iU,MJ];omega
end
mutual
def VC:∀e:Expr,cN e≤100000000→rZ e
 |⟨Op,N,S,an⟩,h=>by
  simp only [cN]at h;have:=Bn an
  exact⟨acP (by omega),by omega,by omega,adX an (by omega)⟩
def adX:∀l:List Expr,iU l≤100000000→BB l
 |[],_=>trivial
 |x::l,h=>by
  simp only [iU]at h;exact⟨VC x (by omega),adX l (by omega)⟩
end
def apM:∀(h:Nat) (e:Expr) (d:Nat),hY e≤h→rZ e→ho e (d:Int)=0→d≤1000→iK e∧d+hY e≤13:=by
 intro h;induction h with
 |zero=>intro e d he;rw [F1]at he;omega
 |succ h aW=>
  intro e d he hi ao hd;obtain⟨i1,i2,i3,i4⟩:=(apL e).1 hi;rw [adx]at ao
  have kA:pG e (d:Int)=0:=by
   by_cases h0:pG e (d:Int)=0
   ·exact h0
   ·rw [if_neg h0]at ao;exact absurd ao h0
  rw [if_pos kA]at ao;unfold pG at kA;split at kA
  ·omega
  rename_i g1;split at kA
  ·omega
  rename_i g2;split at kA
  ·omega
  rename_i g3;split at kA
  ·omega
  rename_i g4;simp only [not_or,not_and,Bool.not_eq_false]at g1 g2 g3;obtain⟨a_,a2,a3⟩:=g1;obtain⟨cl,jI,FZ⟩:=g3
  have gQ:1≤e.Op∧e.Op≤27:=by
   unfold jQ at a_;by_cases Z:e.Op<1
   ·simp [Z]at a_
   ·by_cases ad:27<e.Op
    ·simp [ad]at a_
    ·omega
  rw [show auL ((d:Int)+1)=((d+1:Nat):Int)by rw [wr]<;>omega]at ao
  have ae:∀l:List Expr,qO l≤h→BB l→tl l ((d+1:Nat):Int)=0→MH l∧(d+1+qO l≤13∨l=[]):=by
   intro l;induction l with
   |nil=>intro _ _ _;exact⟨trivial,Or.inr rfl⟩
   |cons x l apN=>
    intro bB hin vX;simp only [qO]at bB;simp only [tl]at vX
    have hx:ho x ((d+1:Nat):Int)=0:=by
     by_cases h0:ho x ((d+1:Nat):Int)=0
     ·exact h0
     ·rw [if_neg h0]at vX;exact absurd vX h0
    rw [if_pos hx]at vX;obtain⟨gh,fi⟩:=aW x (d+1) (by omega) hin.1 hx (by omega)
    obtain⟨bD,bJ⟩:=apN (by omega) hin.2 vX
    refine⟨⟨gh,bD⟩,Or.inl ?_⟩
    simp only [qO];rcases bJ with bJ|rfl
    ·omega
    ·simp only [qO];omega
  have adY:=F1 e;obtain⟨ef,aj⟩:=ae e.an (by omega) i4 ao
  refine⟨(MI e).2 ⟨⟨gQ,?_⟩,λZ=>⟨by omega,i1.2⟩,λZ=>?_,λZ=>?_,λZ=>?_,λZ=>?_,ef⟩,?_⟩
  ·by_cases hc:(e.an.length:Int)=jQ e.Op
   ·exact hc
   ·exact absurd hc FZ
  ·by_cases hc:e.N=0
   ·exact hc
   ·exact absurd hc (a2 Z)
  ·by_cases hc:e.S=[]
   ·exact hc
   ·exact absurd hc (a3 Z.1 Z.2)
  ·exact jI Z
  ·exact g2 Z
  ·rcases aj with aj|aj
   ·omega
   ·rw [aj]at adY;simp only [qO]at adY;omega
open Go Go.Ab Go.Proofs
mutual
def BC:Stmt→Prop
 |⟨_,Name,Max,A,B,Body,bK⟩=>(-9223372036854775808≤Max∧Max≤9223372036854775807)∧Name.length≤9223372036854775807∧rZ A∧rZ B∧tq Body∧tq bK
def tq:List Stmt→Prop
 |[]=>True
 |x::l=>BC x∧tq l
end
def adZ(s:Stmt):BC s↔(-9223372036854775808≤s.Max∧s.Max≤9223372036854775807)∧s.Name.length≤9223372036854775807∧rZ s.A∧rZ s.B∧tq s.Body∧tq s.bK:=by cases s;rfl
mutual
def VD:Stmt→Nat
 |⟨_,Name,_,A,B,Body,bK⟩=>1+Name.length / 64+F8 A+F8 B+BD Body+BD bK
def BD:List Stmt→Nat
 |[]=>0
 |x::l=>VD x+BD l
end
mutual
def apO:∀s:Stmt,BC s→fst s+1≤150*VD s
 |⟨Op,Name,Max,A,B,Body,bK⟩,h=>by
  have Z:=VB A h.2.2.1;have ad:=VB B h.2.2.2.1;have am:=MK Body h.2.2.2.2.1;have aR:=MK bK h.2.2.2.2.2;simp only [fst,VD,UJ h.1];omega
def MK:∀l:List Stmt,tq l→dP l≤150*BD l
 |[],_=>Nat.zero_le _
 |x::l,h=>by
  have Z:=apO x h.1;have ad:=MK l h.2;simp only [dP,BD];omega
end
mutual
def apP:∀s:Stmt,fst s≤100000000→BC s
 |⟨Op,Name,Max,A,B,Body,bK⟩,h=>by
  simp only [fst]at h;exact⟨acP (by omega),by omega,VC A (by omega),VC B (by omega),ML Body (by omega),ML bK (by omega)⟩
def ML:∀l:List Stmt,dP l≤100000000→tq l
 |[],_=>trivial
 |x::l,h=>by
  simp only [dP]at h;exact⟨apP x (by omega),ML l (by omega)⟩
end
def xW(p:be):Prop:=p.Name.length≤9223372036854775807∧p.Params.length≤9223372036854775807∧(∀i,i<p.Params.length→(p.Params.getD i default).Name.length≤9223372036854775807)∧tq p.Body
def apQ{p:be}(h:tk p≤100000000):xW p:=by
 have h0:p.Name.length+fM p.Params+dP p.Body≤100000000:=h;have Z:=u7 p.Params
 have ad:∀l:List Param,∀i,i<l.length→(l.getD i default).Name.length≤fM l:=by
  intro l;induction l with
  |nil=>intro i hi;simp at hi
  |cons x l aW=>
   intro i hi;cases i with
   |zero=>simp only [fM,List.getD_cons_zero];omega
   |succ i=>have:=aW i (by simpa using hi);simp only [fM,List.getD_cons_succ];omega
 exact⟨by omega,by omega,λi hi=>by have:=ad p.Params i hi;omega,ML p.Body (by omega)⟩
def apR(p:be)(m:Nat):Prop:=p.Name.length≤200∧p.Params.length≤40∧fM p.Params≤16000∧BD p.Body≤m
open Go Go.Ab Go.Proofs
abbrev jT:Expr:=⟨0,0,[],[]⟩
def mP(e:Expr):Prop:=iK e∧hY e≤12
def F9(s:Stmt):Prop:=
 ((s.Op=1∨s.Op=2)∧s=⟨s.Op,s.Name,0,s.A,jT,[],[]⟩∧hh s.Name=true∧mP s.A)∨
 (s=⟨3,[],0,s.A,s.B,[],[]⟩∧mP s.A∧mP s.B)∨
 ((s.Op=4∨s.Op=7)∧s=⟨s.Op,[],0,s.A,jT,[],[]⟩∧mP s.A)∨
 (s=⟨5,[],0,s.A,jT,s.Body,s.bK⟩∧mP s.A)∨
 (s=⟨6,s.Name,s.Max,s.A,s.B,s.Body,[]⟩∧hh s.Name=true∧(1≤s.Max∧s.Max≤16)∧mP s.A∧mP s.B)∨
 (s=⟨8,[],s.Max,jT,jT,[],[]⟩∧0≤s.Max∧s.Max≤999)
mutual
def BE:Stmt→Nat→Prop
 |⟨Op,Name,Max,A,B,Body,bK⟩,d=>d≤12∧F9 ⟨Op,Name,Max,A,B,Body,bK⟩∧l3 Body (d+1)∧l3 bK (d+1)
def l3:List Stmt→Nat→Prop
 |[],_=>True
 |s::l,d=>BE s d∧l3 l d
end
def MM(s:Stmt)(d:Nat):BE s d↔d≤12∧F9 s∧l3 s.Body (d+1)∧l3 s.bK (d+1):=by cases s;rfl
def xX{e:Expr}(h:nj e=true):e=jT:=by
 obtain⟨a,b,c,l⟩:=e;unfold nj at h;simp only [Bool.and_eq_true,decide_eq_true_eq]at h;obtain⟨⟨⟨rfl,rfl⟩,rfl⟩,h⟩:=h;rw [List.length_eq_zero_iff]at h;subst h;rfl
def tr{e:Expr}(hi:rZ e)(h:ho e 1=0):mP e:=by
 obtain⟨Z,ad⟩:=apM (hY e) e 1 (Nat.le_refl _) hi h (by omega)
 exact⟨Z,by omega⟩
def apS{s:Stmt}{d:Int}(hi:BC s)(h:kK s d=0):d≤12∧F9 s:=by
 obtain⟨i1,i2,i3,i4,i5,i6⟩:=(adZ s).1 hi;unfold kK at h;split at h
 ·omega
 rename_i g1;split at h
 ·omega
 rename_i g2;split at h
 ·rename_i g;exact absurd h g.2
 rename_i g3;split at h
 ·rename_i g;exact absurd h g.2
 rename_i g4;split at h
 ·omega
 rename_i g5;refine⟨by omega,?_⟩
 simp only [not_or,not_and,Bool.not_eq_false,Bool.not_eq_true,Decidable.not_not]at g1 g2 g3 g4;obtain⟨a_,a2,a3⟩:=g1
 have gQ:1≤s.Op∧s.Op≤8:=by
  by_cases bB:1≤s.Op∧s.Op≤8
  ·exact bB
  ·rw [show km s.Op=(⟨false,false,false,false,false,false⟩,false) by
    unfold km;rw [if_neg (by omega),if_neg (by omega),if_neg (by omega),if_neg (by omega),if_neg (by omega),if_neg (by omega)]]at a_
   cases a_
 obtain⟨Op,Name,Max,A,B,Body,bK⟩:=s;simp only at *
 obtain rfl|rfl|rfl|rfl|rfl|rfl|rfl|rfl:Op=1∨Op=2∨Op=3∨Op=4∨Op=5∨Op=6∨Op=7∨Op=8:=by omega
 all_goals
  simp only [By,rX,km]at a2 a3 g2 g3 g4;simp [-List.length_eq_zero_iff]at a2 a3 g2 g3 g4
 all_goals unfold F9;simp only []
 ·obtain⟨⟨⟨e0,rfl⟩,Z⟩,ad⟩:=a2;obtain rfl:=xX e0;obtain rfl:=List.eq_nil_of_length_eq_zero Z;obtain rfl:=List.eq_nil_of_length_eq_zero ad;exact Or.inl ⟨Or.inl trivial,rfl,g2,tr i3 g3⟩
 ·obtain⟨⟨⟨e0,rfl⟩,Z⟩,ad⟩:=a2;obtain rfl:=xX e0;obtain rfl:=List.eq_nil_of_length_eq_zero Z;obtain rfl:=List.eq_nil_of_length_eq_zero ad;exact Or.inl ⟨Or.inr trivial,rfl,g2,tr i3 g3⟩
 ·obtain⟨⟨⟨rfl,rfl⟩,Z⟩,ad⟩:=a2;obtain rfl:=List.eq_nil_of_length_eq_zero Z;obtain rfl:=List.eq_nil_of_length_eq_zero ad;exact Or.inr (Or.inl ⟨rfl,tr i3 g3,tr i4 g4⟩)
 ·obtain⟨⟨⟨⟨rfl,e0⟩,rfl⟩,Z⟩,ad⟩:=a2;obtain rfl:=xX e0;obtain rfl:=List.eq_nil_of_length_eq_zero Z;obtain rfl:=List.eq_nil_of_length_eq_zero ad;exact Or.inr (Or.inr (Or.inl ⟨Or.inl trivial,rfl,tr i3 g3⟩))
 ·obtain⟨⟨rfl,e0⟩,rfl⟩:=a2;obtain rfl:=xX e0;exact Or.inr (Or.inr (Or.inr (Or.inl ⟨rfl,tr i3 g3⟩)))
 ·obtain rfl:=List.eq_nil_of_length_eq_zero a2;exact Or.inr (Or.inr (Or.inr (Or.inr (Or.inl ⟨rfl,g2,a3,tr i3 g3,tr i4 g4⟩))))
 ·obtain⟨⟨⟨⟨rfl,e0⟩,rfl⟩,Z⟩,ad⟩:=a2;obtain rfl:=xX e0;obtain rfl:=List.eq_nil_of_length_eq_zero Z;obtain rfl:=List.eq_nil_of_length_eq_zero ad;exact Or.inr (Or.inr (Or.inl ⟨Or.inr trivial,rfl,tr i3 g3⟩))
 ·obtain⟨⟨⟨⟨rfl,e4⟩,e0⟩,Z⟩,ad⟩:=a2;obtain rfl:=xX e4;obtain rfl:=xX e0;obtain rfl:=List.eq_nil_of_length_eq_zero Z;obtain rfl:=List.eq_nil_of_length_eq_zero ad;exact Or.inr (Or.inr (Or.inr (Or.inr (Or.inr ⟨rfl,a3⟩))))
mutual
def ad0:∀(s:Stmt) (d:Int) (r:Nat×Int),(qN s d r).2=0→r.2=0∧kK s d=0
 |⟨Op,Name,Max,A,B,Body,bK⟩,d,r,h=>by
  simp only [qN]at h;have Z:=F' Body _ _ (F' bK _ _ h);simp only at Z
  by_cases h0:r.2=0
  ·rw [if_pos h0]at Z;exact⟨h0,Z⟩
  ·rw [if_neg h0]at Z;exact absurd Z h0
def F':∀(l:List Stmt) (d:Int) (r:Nat×Int),(ie l d r).2=0→r.2=0
 |[],d,r,h=>h
 |s::l,d,r,h=>by
  simp only [ie]at h;split at h
  ·exact h
  ·exact(ad0 s d r (F' l d _ h)).1
end
mutual
def apT:∀(s:Stmt) (d:Nat) (r:Nat×Int),BC s→(qN s (d:Int) r).1≠0→(qN s (d:Int) r).2=0→BE s d
 |⟨Op,Name,Max,A,B,Body,bK⟩,d,r,hi,Z,ad=>by
  have hs:=apS hi (ad0 _ _ _ ad).2;obtain⟨i1,i2,i3,i4,i5,i6⟩:=(adZ _).1 hi;have hd:auL ((d:Int)+1)=((d+1:Nat):Int):=by rw [wr]<;>omega
  simp only [qN,hd]at Z ad;have ef:=F' _ _ _ ad;have aj:=u' bK ((d+1:Nat):Int) (ie Body ((d+1:Nat):Int) (kn B (kn A (r.1-1)),if r.2=0 then kK ⟨Op,Name,Max,A,B,Body,bK⟩ d else r.2))
  exact⟨by omega,hs.2,MN Body (d+1) _ i5 (by omega) ef,MN bK (d+1) _ i6 Z ad⟩
def MN:∀(l:List Stmt) (d:Nat) (r:Nat×Int),tq l→(ie l (d:Int) r).1≠0→(ie l (d:Int) r).2=0→l3 l d
 |[],d,r,_,_,_=>trivial
 |s::l,d,r,hi,Z,ad=>by
  simp only [ie]at Z ad;split at Z
  ·rename_i h;exact absurd h Z
  ·rename_i h;rw [if_neg h]at ad;have k:=u' l (d:Int) (qN s (d:Int) r);exact⟨apT s d r hi.1 (by omega) (F' _ _ _ ad),MN l d _ hi.2 Z ad⟩
end
def ad1(p:be):Prop:=hh p.Name=true∧qL p.Params=0∧l3 p.Body 1
def ad2{p:be}(hi:xW p)(h:n0 p=0):ad1 p:=by
 unfold n0 at h;split at h
 ·omega
 rename_i g1;split at h
 ·rename_i g;exact absurd h g
 rename_i g2;split at h
 ·omega
 rename_i g3;simp only [Bool.not_eq_false,Decidable.not_not]at g1 g2;exact⟨g1,g2,MN p.Body 1 (401,0) hi.2.2.2 (λe=>g3 ⟨h,e⟩) h⟩
open Go Go.Ab Go.Proofs
def ind:Nat→auJ
 | 0=>[]
 |d+1=>32::32::32::32::ind d
def cat:List auJ→auJ
 |[]=>[]
 |x::l=>x++cat l
def eI(d:Nat)(l:List auJ):auJ:=ind d++(cat l++[10])
abbrev gq(e:Expr):auJ:=flat (dJ e)
mutual
def gd:Stmt→Nat→auJ
 |⟨Op,Name,Max,A,B,Body,bK⟩,d=>
  if Op=1 then eI d [[108,101,116,32],Name,[32,61,32],gq A,[59]]
  else if Op=2 then eI d [Name,[32,61,32],gq A,[59]]
  else if Op=3 then eI d [[112,117,116,32],gq A,[32,61,32],gq B,[59]]
  else if Op=4 then eI d [[100,101,108,101,116,101,32],gq A,[59]]
  else if Op=5 then eI d [[105,102,32],gq A,[32,123]]++(gC Body (d+1)++((if bK.length=0 then[]else eI d [[125,32,101,108,115,101,32,123]]++gC bK (d+1))++eI d [[125]]))
  else if Op=6 then eI d [[102,111,114,32],Name,[32,61,32],gq A,[32,116,111,32],gq B,[32,109,97,120,32],Lib.decDigits Max.toNat,[32,123]]++(gC Body (d+1)++eI d [[125]])
  else if Op=7 then eI d [[101,109,105,116,32],gq A,[59]]
  else eI d [[97,98,111,114,116,32],Lib.decDigits Max.toNat,[59]]
def gC:List Stmt→Nat→auJ
 |[],_=>[]
 |s::l,d=>gd s d++gC l d
end
open Go Go.Ab Go.Proofs
def ad3(n:Nat)(s b:auJ)(x:Int)(h:b.length+s.length≤1000000000):Di n s (f7 b) x=some (((s.length:Nat):Int),f7 (b++s)):=by
 unfold Di zo;rw [show(f7 b).length+s.length=b.length+s.length by simp [f7],Vu (by omega)]
 simp [f7,al,bd]
def apU(n:Nat)(b:auJ)(x:Int)(h:b.length≤1000000000):IA n 10 (f7 b) x=some (f7 (b++[10])):=by
 unfold IA zo;rw [show(f7 b).length+([10]:List Int).length=b.length+1 by simp [f7],Vu (by omega)]
 simp [f7,al,bd]
def VE:∀l m:List auJ,cat (l++m)=cat l++cat m
 |[],m=>rfl
 |x::l,m=>by simp only [List.cons_append,cat,VE l m,List.append_assoc]
def VF:∀d,ind (d+1)=ind d++[32,32,32,32]
 | 0=>rfl
 |d+1=>by
  show 32::32::32::32::ind (d+1)=(32::32::32::32::ind d)++[32,32,32,32]
  rw [VF d];rfl
def F_:∀d,(ind d).length=4*d
 | 0=>rfl
 |d+1=>by simp only [ind,auy,F_ d];omega
def apV(n:Nat)(parts:List auJ)(d:Nat)(b:auJ)(ae:b.length+(cat parts).length≤1000000000)(hp:parts.length≤1000):∀m i,parts.length<i+m→i≤parts.length→
 Dj n parts (d:Int) m (f7 (b++cat (parts.take i))) (i:Int)=some (f7 (b++(cat parts++[10]))):=by
 intro m;induction m with
 |zero=>intro i Z ad;omega
 |succ m aW=>
  intro i Z ad;have hc:cat parts=cat (parts.take i)++cat (parts.drop i):=by rw [←VE,List.take_append_drop]
  have gP:(cat parts).length=(cat (parts.take i)).length+(cat (parts.drop i)).length:=by rw [hc,auC]
  simp only [Dj,Qe,Qd,auB,auA];by_cases hi:i<parts.length
  ·rw [fH parts i default hi]at gP;simp only [cat,auC]at gP;simp only [hi,aus,auu,cv hi,bd];rw [ad3 n _ _ _ (by rw [auC];omega),dp (by omega)]
   simp only [al];have:=aW (i+1) (by omega) (by omega)
   rw [xQ parts i hi,VE]at this;simp only [cat,List.append_nil]at this;rw [List.append_assoc];exact this
  ·simp only [hi,aut,auv];obtain rfl:i=parts.length:=by omega
   rw [List.take_length,apU n _ _ (by rw [auC];omega)]
   simp only [al,List.append_assoc]
def n4{n:Nat}(parts:List auJ)(d:Nat)(b:auJ)(ae:b.length+(cat parts).length≤900000000)(hp:parts.length≤10)(hd:d≤100)(hn:200≤n):
 mG n parts (f7 b) (d:Int)=some (f7 (b++eI d parts)):=by
 have ib:∀m i,d<i+m→i≤d→Dk n parts (d:Int) m (f7 (b++ind i)) (i:Int)=some (f7 (b++eI d parts)):=by
  intro m;induction m with
  |zero=>intro i Z ad;omega
  |succ m aW=>
   intro i Z ad;have NN:=F_ i;simp only [Dk,Qg,Qf,auB];by_cases hi:i<d
   ·simp only [hi,aus,auu];rw [ad3 n _ _ _ (by simp only [auC,auy,auz];omega),dp (by omega)]
    simp only [al];have:=aW (i+1) (by omega) (by omega)
    rw [VF]at this;rw [List.append_assoc];exact this
   ·simp only [hi,aut,auv];obtain rfl:i=d:=by omega
    have:=apV n parts i (b++ind i) (by rw [auC];omega) (by omega) n 0 (by omega) (by omega)
    simp only [List.take_zero,cat,List.append_nil]at this;rw [show((0:Nat):Int)=0 from rfl]at this
    rw [this,eI,List.append_assoc]
 have:=ib n 0 (by omega) (by omega)
 simp only [ind,List.append_nil]at this;exact this
def l4(d:Nat)(l:List auJ):(eI d l).length=4*d+(cat l).length+1:=by
 unfold eI;simp only [auC,F_,auy,auz];omega
def mQ{e:Expr}(h:mP e):(gq e).length≤4*cN e:=rc (hY e) e (Nat.le_refl _) h.1
mutual
def ad4:∀(s:Stmt) (d:Nat),BE s d→(gd s d).length≤4*fst s
 |⟨Op,Name,Max,A,B,Body,bK⟩,d,h=>by
  obtain⟨hd,hs,cP,fk⟩:=(MM _ _).1 h;have atX:=oR Body (d+1) cP;have atY:=oR bK (d+1) fk;rcases hs with⟨aq,av,hn,e4⟩|⟨av,e4,e0⟩|⟨aq,av,e4⟩|⟨av,e4⟩|⟨av,hn,hm,e4,e0⟩|⟨av,hm⟩
  ·simp only [Stmt.mk.injEq,true_and,and_true]at av aq;obtain⟨rfl,rfl,rfl,rfl⟩:=av;have Z:=mQ e4;have ad:=qP hn;simp only at Z ad
   rcases aq with rfl|rfl
   ·rw [show gd ⟨1,Name,0,A,jT,[],[]⟩ d=eI d [[108,101,116,32],Name,[32,61,32],gq A,[59]]by simp [gd],l4]
    simp only [cat,fst,auC,auy,auz];omega
   ·rw [show gd ⟨2,Name,0,A,jT,[],[]⟩ d=eI d [Name,[32,61,32],gq A,[59]]by simp [gd],l4]
    simp only [cat,fst,auC,auy,auz];omega
  ·simp only [Stmt.mk.injEq,true_and,and_true]at av;obtain⟨rfl,rfl,rfl,rfl,rfl⟩:=av;have Z:=mQ e4;have ad:=mQ e0;simp only at Z ad
   rw [show gd ⟨3,[],0,A,B,[],[]⟩ d=eI d [[112,117,116,32],gq A,[32,61,32],gq B,[59]]by simp [gd],l4]
   simp only [cat,fst,auC,auy,auz];omega
  ·simp only [Stmt.mk.injEq,true_and,and_true]at av aq;obtain⟨rfl,rfl,rfl,rfl,rfl⟩:=av;have Z:=mQ e4;simp only at Z
   rcases aq with rfl|rfl
   ·rw [show gd ⟨4,[],0,A,jT,[],[]⟩ d=eI d [[100,101,108,101,116,101,32],gq A,[59]]by simp [gd],l4]
    simp only [cat,fst,auC,auy,auz];omega
   ·rw [show gd ⟨7,[],0,A,jT,[],[]⟩ d=eI d [[101,109,105,116,32],gq A,[59]]by simp [gd],l4]
    simp only [cat,fst,auC,auy,auz];omega
  ·simp only [Stmt.mk.injEq,true_and,and_true]at av;obtain⟨rfl,rfl,rfl,rfl⟩:=av;have Z:=mQ e4;simp only at Z
   have ad:(gd ⟨5,[],0,A,jT,Body,bK⟩ d).length≤(eI d [[105,102,32],gq A,[32,123]]).length+((gC Body (d+1)).length+(((eI d [[125,32,101,108,115,101,32,123]]).length+(gC bK (d+1)).length)+(eI d [[125]]).length)):=by
    by_cases ae:bK.length=0
    ·simp [gd,ae]
    ·simp [gd,ae];omega
   simp only [l4,cat,auC,auy,auz]at ad;simp only [fst];omega
  ·simp only [Stmt.mk.injEq,true_and,and_true]at av;obtain⟨rfl,rfl⟩:=av;have hm:1≤Max∧Max≤16:=hm;have Z:=mQ e4;have ad:=mQ e0;have am:=qP hn;have aR:=Bz Max (by omega) (by omega)
   simp only at Z ad am
   have bv:gd ⟨6,Name,Max,A,B,Body,[]⟩ d=eI d [[102,111,114,32],Name,[32,61,32],gq A,[32,116,111,32],gq B,[32,109,97,120,32],Lib.decDigits Max.toNat,[32,123]]++(gC Body (d+1)++eI d [[125]]):=by simp [gd]
   rw [bv];simp only [l4,cat,fst,auC,auy,auz];omega
  ·simp only [Stmt.mk.injEq,true_and,and_true]at av;obtain⟨rfl,rfl,rfl,rfl,rfl,rfl⟩:=av;have hm:0≤Max∧Max≤999:=hm;have aR:=Bz Max (by omega) (by omega)
   rw [show gd ⟨8,[],Max,jT,jT,[],[]⟩ d=eI d [[97,98,111,114,116,32],Lib.decDigits Max.toNat,[59]]by simp [gd],l4]
   simp only [cat,fst,auC,auy,auz];omega
def oR:∀(l:List Stmt) (d:Nat),l3 l d→(gC l d).length≤4*dP l
 |[],d,h=>Nat.le_refl _
 |s::l,d,h=>by
  have Z:=ad4 s d h.1;have ad:=oR l d h.2;simp only [gC,dP,auC];omega
end
def ad5(n:Nat)(i:Int)(h0:0≤i)(Z:i≤9223372036854775807):wE n i=some (Lib.decDigits i.toNat):=adS n i h0 Z
open Go Go.Ab Go.Proofs
def apW(n:Nat):rF (n+1)=II n (rF n) (wG n) (wH n):=rfl
def apX(n:Nat):wG (n+1)=IK n (rF n) (wG n) (wH n):=rfl
def apY(n:Nat):wH (n+1)=IL n (rF n) (wG n) (wH n):=rfl
def tu{n:Nat}{e:Expr}(h:mP e)(hn:300≤n)(cc:cN e≤1000000):mg n e=some (gq e):=apI (hY e) e n (Nat.le_refl _) h.1 (by have:=h.2;omega) cc
def tv(n:Nat)(l:List Stmt)(d:Nat)(b:auJ):Prop:=rF n l (f7 b) (d:Int)=some (f7 (b++gC l (d+1)),(d:Int))
def apZ{n d:Nat}{b:auJ}{A:Expr}{Body bK:List Stmt}(e4:mP A)(cc:cN A≤300000)(hd:d≤12)(hn:400≤n)(hb:b.length≤10000000)(e7:(gC Body (d+1)).length≤10000000)(eQ:(gC bK (d+1)).length≤10000000)
 (e0:∀bM:auJ,bM.length≤b.length+4*cN A+100→tv n Body d bM) (ch:∀bM:auJ,bM.length≤b.length+4*cN A+200+(gC Body (d+1)).length→tv n bK d bM):
 wG (n+1) ⟨5,[],0,A,jT,Body,bK⟩ (f7 b) (d:Int)=some (f7 (b++gd ⟨5,[],0,A,jT,Body,bK⟩ d),(d:Int)):=by
 have Z:=mQ e4;rw [apX];simp only [IK,IJ,gO];rw [tu e4 (by omega) (by omega)]
 simp only [al];rw [n4 _ d b (by simp only [cat,auC,auy,auz];omega) (by simp) (by omega) (by omega)]
 simp only [al];have e1:=e0 (b++eI d [[105,102,32],gq A,[32,123]]) (by simp only [auC,l4,cat,auy,auz];omega)
 unfold tv at e1;rw [e1];simp only [al];by_cases ae:bK.length=0
 ·rw [show decide (0<((bK.length:Nat):Int))=false from decide_eq_false (by omega)]
  simp only [auv];rw [n4 _ d _ (by simp only [auC,l4,cat,auy,auz];omega) (by simp) (by omega) (by omega)]
  simp only [al];have:gd ⟨5,[],0,A,jT,Body,bK⟩ d=eI d [[105,102,32],gq A,[32,123]]++(gC Body (d+1)++eI d [[125]]):=by simp [gd,ae]
  rw [this];simp only [List.append_assoc]
 ·rw [show decide (0<((bK.length:Nat):Int))=true from decide_eq_true (by omega)]
  simp only [auu];rw [n4 _ d _ (by simp only [auC,l4,cat,auy,auz];omega) (by simp) (by omega) (by omega)]
  simp only [al];have e2:=ch (b++eI d [[105,102,32],gq A,[32,123]]++gC Body (d+1)++eI d [[125,32,101,108,115,101,32,123]]) (by simp only [auC,l4,cat,auy,auz];omega)
  unfold tv at e2;rw [e2];simp only [al];rw [n4 _ d _ (by simp only [auC,l4,cat,auy,auz];omega) (by simp) (by omega) (by omega)]
  simp only [al];have:gd ⟨5,[],0,A,jT,Body,bK⟩ d=eI d [[105,102,32],gq A,[32,123]]++(gC Body (d+1)++((eI d [[125,32,101,108,115,101,32,123]]++gC bK (d+1))++eI d [[125]])):=by simp [gd,ae]
  rw [this];simp only [List.append_assoc]
def ap0{n d:Nat}{b:auJ}{Name:auJ}{Max:Int}{A B:Expr}{Body:List Stmt}(e4:mP A)(ad6:mP B)(cc:cN A≤300000)(tS:cN B≤300000)(aQ:hh Name=true)(hm:1≤Max∧Max≤16)(hd:d≤12)(hn:400≤n)(hb:b.length≤10000000)(e7:(gC Body (d+1)).length≤10000000)
 (e0:∀bM:auJ,bM.length≤b.length+4*cN A+4*cN B+120→tv n Body d bM):
 wH (n+1) ⟨6,Name,Max,A,B,Body,[]⟩ (f7 b) (d:Int)=some (f7 (b++gd ⟨6,Name,Max,A,B,Body,[]⟩ d),(d:Int)):=by
 have Z:=mQ e4;have ad:=mQ ad6;have am:=qP aQ;have aR:=Bz Max (by omega) (by omega)
 rw [apY];simp only [IL,gO];rw [tu e4 (by omega) (by omega),tu ad6 (by omega) (by omega),ad5 n Max (by omega) (by omega)]
 simp only [al];rw [n4 _ d b (by simp only [cat,auC,auy,auz];omega) (by simp) (by omega) (by omega)]
 simp only [al];have e1:=e0 (b++eI d [[102,111,114,32],Name,[32,61,32],gq A,[32,116,111,32],gq B,[32,109,97,120,32],Lib.decDigits Max.toNat,[32,123]]) (by simp only [auC,l4,cat,auy,auz];omega)
 unfold tv at e1;rw [e1];simp only [al];rw [n4 _ d _ (by simp only [auC,l4,cat,auy,auz];omega) (by simp) (by omega) (by omega)]
 simp only [al];have:gd ⟨6,Name,Max,A,B,Body,[]⟩ d=eI d [[102,111,114,32],Name,[32,61,32],gq A,[32,116,111,32],gq B,[32,109,97,120,32],Lib.decDigits Max.toNat,[32,123]]++(gC Body (d+1)++eI d [[125]]):=by simp [gd]
 rw [this];simp only [List.append_assoc]
def VG:∀(l:List Stmt) (i d:Nat),i<l.length→l3 l d→BE (l.getD i default) d
 |[],i,d,h,_=>by simp at h
 |x::l,0,d,h,ae=>ae.1
 |x::l,i+1,d,h,ae=>by simp only [List.getD_cons_succ];exact VG l i d (by simpa using h) ae.2
def VH:∀(l m:List Stmt) (d:Nat),l3 (l++m) d↔l3 l d∧l3 m d
 |[],m,d=>by simp [l3]
 |x::l,m,d=>by simp only [List.cons_append,l3,VH l m d,and_assoc]
def VI:∀(l m:List Stmt) (d:Nat),gC (l++m) d=gC l d++gC m d
 |[],m,d=>rfl
 |x::l,m,d=>by simp only [List.cons_append,gC,VI l m d,List.append_assoc]
def ap1:∀(n:Nat) (l:List Stmt) (d:Nat) (b:auJ),l3 l (d+1)→d≤12→dP l≤300000→2*dP l+500≤n→b.length+4*dP l≤9000000→tv n l d b:=by
 intro n;induction n using Nat.strongRecOn with
 |_ n aW=>
  intro l d b ew hd cc hn hb;obtain⟨n,rfl⟩:∃k,n=k+2:=⟨n-2,by omega⟩
  have hlen:=xN l;unfold tv;rw [apW];unfold II;rw [dp (by omega)]
  have ib:∀m i,l.length<i+m→i≤l.length→Dq (n+1) (rF (n+1)) (wG (n+1)) (wH (n+1)) l m (f7 (b++gC (l.take i) (d+1))) ((d+1:Nat):Int) (i:Int)=some (f7 (b++gC l (d+1)),(d:Int)):=by
   intro m;induction m with
   |zero=>intro i Z ad;omega
   |succ m lB=>
    intro i Z ad;simp only [Dq,Qv,Qu,auB,auA,gO,kl];by_cases hi:i<l.length
    ·simp only [hi,aus,auu,cv hi,bd];have dC:=VG l i (d+1) hi ew;have xL:l3 (l.take i) (d+1):=((VH (l.take i) (l.drop i) (d+1)).1 (by rw [List.take_append_drop];exact ew)).1
     have qf:=oR _ _ xL
     have CV:dP l=dP (l.take i)+(fst (l.getD i default)+1+dP (l.drop (i+1))):=by
      have:dP l=dP (l.take i++l.drop i):=by rw [List.take_append_drop]
      rw [Mu,fH l i default hi]at this;simpa only [dP]using this
     have gv:=lB (i+1) (by omega) (by omega)
     rw [xQ l i hi,VI,←List.append_assoc]at gv;simp only [gC,List.append_nil]at gv;have nr:(b++gC (l.take i) (d+1)).length≤b.length+4*dP (l.take i):=by rw [auC];omega
     generalize b++gC (l.take i) (d+1)=BF at gv nr
     rw [dp (by omega)]
     generalize l.getD i default=s at dC CV gv
     have nt:=fst_eq s;obtain⟨kU,hs,cP,fk⟩:=(MM _ _).1 dC;obtain⟨Op,Name,Max,A,B,Body,bK⟩:=s;simp only at nt cP fk
     rcases hs with⟨aq,av,aQ,e4⟩|⟨av,e4,e0⟩|⟨aq,av,e4⟩|⟨av,e4⟩|⟨av,aQ,hm,e4,e0⟩|⟨av,hm⟩
     ·simp only [Stmt.mk.injEq,true_and,and_true]at av aq;obtain⟨rfl,rfl,rfl,rfl⟩:=av;have am:=mQ e4;have aR:=qP aQ;simp only at am aR
      rcases aq with rfl|rfl
      ·simp only [show rC (n+1) 1=some (.inl ())from rfl,al,iB.on,Qq,gO]
       rw [tu e4 (by omega) (by show cN A≤_;omega)]
       simp only [al];rw [n4 _ (d+1) BF (by simp only [cat,auC,auy,auz];omega) (by simp) (by omega) (by omega)]
       simp only [al];rw [show gd ⟨1,Name,0,A,jT,[],[]⟩ (d+1)=eI (d+1) [[108,101,116,32],Name,[32,61,32],gq A,[59]]by simp [gd]]at gv
       exact gv
      ·simp only [show rC (n+1) 2=some (.inr (.inl ()))from rfl,al,iB.on,Qp,gO]
       rw [tu e4 (by omega) (by show cN A≤_;omega)]
       simp only [al];rw [n4 _ (d+1) BF (by simp only [cat,auC,auy,auz];omega) (by simp) (by omega) (by omega)]
       simp only [al];rw [show gd ⟨2,Name,0,A,jT,[],[]⟩ (d+1)=eI (d+1) [Name,[32,61,32],gq A,[59]]by simp [gd]]at gv
       exact gv
     ·simp only [Stmt.mk.injEq,true_and,and_true]at av;obtain⟨rfl,rfl,rfl,rfl,rfl⟩:=av;have am:=mQ e4;have aR:=mQ e0;simp only at am aR
      simp only [show rC (n+1) 3=some (.inr (.inr (.inl ())))from rfl,al,iB.on,Qs,gO]
      rw [tu e4 (by omega) (by show cN A≤_;omega),tu e0 (by omega) (by show cN B≤_;omega)]
      simp only [al];rw [n4 _ (d+1) BF (by simp only [cat,auC,auy,auz];omega) (by simp) (by omega) (by omega)]
      simp only [al];rw [show gd ⟨3,[],0,A,B,[],[]⟩ (d+1)=eI (d+1) [[112,117,116,32],gq A,[32,61,32],gq B,[59]]by simp [gd]]at gv
      exact gv
     ·simp only [Stmt.mk.injEq,true_and,and_true]at av aq;obtain⟨rfl,rfl,rfl,rfl,rfl⟩:=av;have am:=mQ e4;simp only at am
      rcases aq with rfl|rfl
      ·simp only [show rC (n+1) 4=some (.inr (.inr (.inr (.inl ()))))from rfl,al,iB.on,Qt,gO]
       rw [tu e4 (by omega) (by show cN A≤_;omega)]
       simp only [al];rw [n4 _ (d+1) BF (by simp only [cat,auC,auy,auz];omega) (by simp) (by omega) (by omega)]
       simp only [al];rw [show gd ⟨4,[],0,A,jT,[],[]⟩ (d+1)=eI (d+1) [[100,101,108,101,116,101,32],gq A,[59]]by simp [gd]]at gv
       exact gv
      ·simp only [show rC (n+1) 7=some (.inr (.inr (.inr (.inr (.inr (.inr (.inl ())))))))from rfl,al,iB.on,Qr,gO]
       rw [tu e4 (by omega) (by show cN A≤_;omega)]
       simp only [al];rw [n4 _ (d+1) BF (by simp only [cat,auC,auy,auz];omega) (by simp) (by omega) (by omega)]
       simp only [al];rw [show gd ⟨7,[],0,A,jT,[],[]⟩ (d+1)=eI (d+1) [[101,109,105,116,32],gq A,[59]]by simp [gd]]at gv
       exact gv
     ·simp only [Stmt.mk.injEq,true_and,and_true]at av;obtain⟨rfl,rfl,rfl,rfl⟩:=av;have e7:=oR _ _ cP;have eQ:=oR _ _ fk;simp only [show rC (n+1) 5=some (.inr (.inr (.inr (.inr (.inl ())))))from rfl,al,iB.on]
      rw [apZ (A:=A) e4 (by show cN A≤_;omega) (by omega) (by omega) (by omega) (by omega) (by omega)
       (λbM b0=>aW n (by omega) Body (d+1) bM cP (by omega) (by omega) (by omega) (by omega)) (λbM b0=>aW n (by omega) bK (d+1) bM fk (by omega) (by omega) (by omega) (by omega))]
      exact gv
     ·simp only [Stmt.mk.injEq,true_and,and_true]at av;obtain⟨rfl,rfl⟩:=av;have e7:=oR _ _ cP;simp only [show rC (n+1) 6=some (.inr (.inr (.inr (.inr (.inr (.inl ()))))))from rfl,al,iB.on]
      rw [ap0 (A:=A) (B:=B) e4 e0 (by show cN A≤_;omega) (by show cN B≤_;omega) aQ hm (by omega) (by omega) (by omega) (by omega)
       (λbM b0=>aW n (by omega) Body (d+1) bM cP (by omega) (by omega) (by omega) (by omega))]
      exact gv
     ·simp only [Stmt.mk.injEq,true_and,and_true]at av;obtain⟨rfl,rfl,rfl,rfl,rfl,rfl⟩:=av;have hm:0≤Max∧Max≤999:=hm;have aR:=Bz Max (by omega) (by omega)
      simp only [show rC (n+1) 8=some (.inr (.inr (.inr (.inr (.inr (.inr (.inr ())))))))from rfl,al,iB.on,Qh,gO]
      rw [ad5 _ Max (by omega) (by omega)]
      simp only [al];rw [n4 _ (d+1) BF (by simp only [cat,auC,auy,auz];omega) (by simp) (by omega) (by omega)]
      simp only [al];rw [show gd ⟨8,[],Max,jT,jT,[],[]⟩ (d+1)=eI (d+1) [[97,98,111,114,116,32],Lib.decDigits Max.toNat,[59]]by simp [gd]]at gv
      exact gv
    ·simp only [hi,aut,auv];obtain rfl:i=l.length:=by omega
     rw [List.take_length,show auL (((d+1:Nat):Int)-1)=(d:Int)by rw [wr]<;>omega]
  have:=ib (n+1) 0 (by omega) (by omega)
  simp only [List.take_zero,gC,List.append_nil]at this;exact this
open Go Go.Ab Go.Proofs
section
variable {l:List Token}
end
open Go Go.Ab Go.Proofs
section
variable {l:List Token}
end
open Go Go.Ab Go.Proofs
def xY(t:Int):auJ:=if t=1 then[105,110,116]else if t=2 then[115,116,114] else[98,111,111,108]
def qR(x:Param):auJ:=(x.Name++[58,32])++xY x.f'
def Ga(x:Param):Prop:=hh x.Name=true∧1≤x.f'∧x.f'≤3
def ad7:∀(l b:List Param),u9 b l=0→∀x,x∈l→Ga x
 |[],b,h,x,hx=>by cases hx
 |y::l,b,h,x,hx=>by
  unfold u9 at h;split at h
  ·omega
  rename_i g1;split at h
  ·omega
  rename_i g2;split at h
  ·omega
  rename_i g3;rcases List.mem_cons.1 hx with rfl|hx
  ·exact⟨by simpa using g1,by omega,by omega⟩
  ·exact ad7 l _ h x hx
def VJ{l:List Param}(h:qL l=0):l.length≤6∧∀x,x∈l→Ga x:=by
 unfold qL at h;split at h
 ·omega
 ·exact⟨by omega,ad7 l [] h⟩
def pN(l:List Param):auJ:=Lib.join (l.map qR) [44,32]
def oS(p:be):auJ:=eI 0 [[112,114,111,99,32],p.Name,[40],pN p.Params,[41,32,123]]++(gC p.Body 1++eI 0 [[125]])
def VK(t:Int):(xY t).length≤4:=by
 unfold xY;split
 ·simp
 ·split<;>simp
def ad8(n:Nat)(t:Int):Iz n t=some (xY t):=by
 unfold Iz xY;by_cases Z:t=1
 ·simp [Z]
 ·by_cases ad:t=2
  ·simp [ad]
  ·simp [Z,ad]
def VL(x:auJ)(l:List auJ):Lib.joinTail [44,32] (x::l)=44::32::(x++Lib.joinTail [44,32] l):=by simp [Lib.joinTail]
def ad9{x:Param}(h:Ga x):(qR x).length≤22:=by
 have:=qP h.1
 have:=VK x.f'
 unfold qR;simp only [auC,auy,auz];omega
def ad':∀l:List Param,(∀x,x∈l→Ga x)→(Lib.joinTail [44,32] (l.map qR)).length≤24*l.length
 |[],_=>Nat.le_refl _
 |x::l,h=>by
  have Z:=ad' l λy ci=>h y (by simp [ci])
  have ad:=ad9 (h x (by simp))
  rw [List.map_cons,VL];simp only [auC,auy];omega
def VM{l:List Param}(ae:∀x,x∈l→Ga x):(pN l).length≤24*l.length:=by
 unfold pN;cases l with
 |nil=>exact Nat.le_refl _
 |cons x l=>
  have Z:=ad' l λy ci=>ae y (by simp [ci])
  have ad:=ad9 (ae x (by simp))
  rw [List.map_cons,Lib.join_cons];simp only [auC,auy];omega
def ap2{p:be}(hp:ad1 p):(oS p).length≤4*dP p.Body+300:=by
 obtain⟨Z,ad,am⟩:=hp;obtain⟨aR,bv⟩:=VJ ad;have cz:=VM bv;have eG:=qP Z;have eD:=oR p.Body 1 am;unfold oS;simp only [auC,l4,cat,auy,auz];omega
def ap3{n:Nat}(p:be)(hi:xW p)(ao:n0 p=0)(hn:3000000≤n)(cc:fM p.Params≤300000)(e0:dP p.Body≤300000):wI n p=some (oS p):=by
 have hp:=ad2 hi ao;have yR:=hp;obtain⟨Z,ad,am⟩:=hp;obtain⟨aR,bv⟩:=VJ ad;have cz:=VM bv;have eG:=qP Z;have eD:=oR p.Body 1 am;have iI:(gC p.Body (0+1)).length≤4*dP p.Body:=eD;unfold wI;rw [Vp p (by omega) (by omega) (by omega) (by omega) (by omega),ao]
 simp only [al,aus,auw,auv]
 have ib:∀m i,p.Params.length<i+m→i≤p.Params.length→Dr n p m (i:Int) ((p.Params.take i).map qR)=some (oS p):=by
  intro m;induction m with
  |zero=>intro i g1 g2;omega
  |succ m aW=>
   intro i g1 g2;simp only [Dr,Qx,auB,auA];by_cases hi:i<p.Params.length
   ·have hx:=bv (p.Params.getD i default) (by rw [List.getD_eq_getElem?_getD,List.getElem?_eq_getElem hi];exact List.getElem_mem hi)
    have hnx:=qP hx.1;have ad_:=VK (p.Params.getD i default).f';have:=aW (i+1) (by omega) (by omega)
    rw [xQ p.Params i hi,List.map_append]at this;simp only [List.map_cons,List.map_nil]at this;simp only [hi,aus,auu,cv hi,bd];rw [hq (by simp only [auy,auz];omega),ad8]
    simp only [bd,al];rw [hq (by simp only [auC,auy,auz];omega)]
    simp only [bd]
    rw [show room ((List.map qR (p.Params.take i)).length+([(p.Params.getD i default).Name++[58,32]++xY (p.Params.getD i default).f']:List auJ).length) 16=true by
     simp [room];omega]
    simp only [bd];rw [dp (by omega)]
    exact this
   ·simp only [hi,aut,auv];obtain rfl:i=p.Params.length:=by omega
    unfold Qw;rw [List.take_length];unfold Ie;rw [show decide ((p.Params.map qR).length≤140737488355328∧(Lib.join (p.Params.map qR) [44,32]).length≤140737488355328)=true from decide_eq_true ⟨by rw [List.length_map];omega,by show(pN p.Params).length≤_;omega⟩]
    simp only [bd,al];have ae:=n4 (n:=n) [[112,114,111,99,32],p.Name,[40],pN p.Params,[41,32,123]] 0 [] (by simp only [cat,auC,auy,auz];omega) (by simp) (by omega) (by omega)
    have ae:mG n [[112,114,111,99,32],p.Name,[40],Lib.join (p.Params.map qR) [44,32],[41,32,123]] [] 0=_:=ae;rw [ae];simp only [al,List.nil_append];have hb:=ap1 n p.Body 0 (eI 0 [[112,114,111,99,32],p.Name,[40],pN p.Params,[41,32,123]]) am (by omega) (by omega) (by omega) (by simp only [l4,cat,auC,auy,auz];omega)
    unfold tv at hb;rw [show rF n p.Body (f7 (eI 0 [[112,114,111,99,32],p.Name,[40],pN p.Params,[41,32,123]])) 0=_ from hb]
    simp only [al];rw [n4 _ 0 _ (by simp only [cat,auC,l4,auy,auz];omega) (by simp) (by omega) (by omega)]
    simp only [al];unfold IM;rw [UQ,UP];have hlen:=ap2 yR;have ap4:eI 0 [[112,114,111,99,32],p.Name,[40],pN p.Params,[41,32,123]]++gC p.Body (0+1)++eI 0 [[125]]=oS p:=by unfold oS;rw [List.append_assoc]
    rw [ap4];rw [show decide ((f7 (oS p)).length≤9223372036854775807)=true from decide_eq_true (by rw [show(f7 (oS p)).length=(oS p).length by simp [f7]];omega)]
    rfl
 exact ib n 0 (by omega) (by omega)
open Go Go.Ab Go.Proofs
section
variable {l:List Token}
end
open Go Go.Ab Go.Proofs
def BG(s:auJ):List Int:=s.map λb=>(b.toNat:Int)
def ap5(s:auJ):kf (BG s)=s:=by
 simp only [kf,BG,List.map_map]
 conv=>rhs;rw [←List.map_id s]
 apply List.map_congr_left;intro b _;simp
def ap6(s:auJ):nz (BG s)=true:=by
 simp only [nz,BG,List.all_eq_true,List.mem_map,forall_exists_index,and_imp,forall_apply_eq_imp_iff₂];intro b _;have:=b.toNat_lt
 simp;omega
def gi(u:Nat):auJ:=if u<128 then[UInt8.ofNat u]else UInt8.ofNat (u % 128+128)::gi (u / 128)
termination_by u
decreasing_by omega
def pO{u:Nat}(h:u<18446744073709551616):IntKind.u64.wrap (u:Int)=(u:Int):=by rw [IntKind.wrap_u64];omega
def ap7(u:Nat)(h:u<256):([(u:Int)]:List Int)=BG [UInt8.ofNat u]:=by
 simp only [BG,List.map_cons,List.map_nil,UInt8.toNat_ofNat',Nat.mod_eq_of_lt (show u<2 ^ 8 from h)]
def kL{n:Nat}(h:n≤9223372036854775807):cq n=true:=by simp [cq];omega
def fold(n:Int):Nat:=if n<0 then(2*(-(n+1))+1).toNat else(2*n).toNat
def gr(x:Int):Prop := -9223372036854775808≤x∧x≤9223372036854775807
def ap8{n:Int}(h:gr n):fold n<18446744073709551616:=by
 unfold gr at h;unfold fold;split<;>omega
def qS(n:Int):auJ:=gi (fold n)
def xor_zero{a:Nat}(h:a<18446744073709551616):o2 .u64 (a:Int) 0=(a:Int):=by
 unfold o2;rw [show BitVec.ofInt (IntKind.bits .u64) 0=0#_ from rfl,BitVec.xor_zero]
 rw [show((BitVec.ofInt (IntKind.bits .u64) (a:Int)).toNat:Int)=(a:Int) by
  rw [BitVec.toNat_ofInt];simp only [IntKind.bits];omega]
 exact pO h
def hC(s:auJ):auJ:=gi s.length++s
open Go Go.Ab Go.Proofs
def aea(n:Nat)(op:Int):KS n op=some ((eS op:Nat):Int):=Vv n op
def ap9(n:Nat)(op:Int)(h:4≤op∧op≤8∨10≤op∧op≤17∨op=19):KT n op=some (spell (tn op)):=adR n op h
def aeb(n:Nat)(op:Int)(h:20≤op∧op≤27):KU n op=some (spell (jk op)):=by
 obtain rfl|rfl|rfl|rfl|rfl|rfl|rfl|rfl:op=20∨op=21∨op=22∨op=23∨op=24∨op=25∨op=26∨op=27:=by omega
 all_goals rfl
def aec(u:Nat)(h:u<18446744073709551616):kf ([(IntKind.u8.wrap (IntKind.u64.wrap (48+(Int.tmod (u:Int) 10))))]:List Int)=[UInt8.ofNat (48+u % 10)]∧nz ([(IntKind.u8.wrap (IntKind.u64.wrap (48+(Int.tmod (u:Int) 10))))]:List Int)=true:=by
 have:IntKind.u8.wrap (IntKind.u64.wrap (48+(Int.tmod (u:Int) 10)))=((48+u % 10:Nat):Int):=by
  rw [Int.tmod_eq_emod_of_nonneg (by omega),IntKind.wrap_u64,IntKind.wrap_u8];omega
 rw [this,ap7 _ (by omega)]
 exact⟨ap5 _,ap6 _⟩
def aed(u:Nat)(h:u<18446744073709551616):IntKind.u64.wrap (Int.tdiv (u:Int) 10)=((u / 10:Nat):Int):=by
 rw [Int.tdiv_eq_ediv_of_nonneg (by omega),IntKind.wrap_u64];omega
def ap'(n:Nat)(i:Int)(hi:0≤i):∀(m f u:Nat) (acc:auJ),u<18446744073709551616→u<10 ^ m→acc.length+m≤1000000000→(0<u∨acc≠[])→qz n i (m+f+1) (u:Int) acc=some ((if u=0 then[]else Lib.decDigits u)++acc):=by
 intro m;induction m with
 |zero=>
  intro f u acc hu Z ae dG;have h0:u=0:=by simp at Z;omega
  subst h0;have VN:acc≠[]:=by rcases dG with h|h;exact absurd h (by omega);exact h
  have:¬ i<0:=by omega
  simp [qz,s',Ex,VN,this]
 |succ m aW=>
  intro f u acc hu Z ae dG;rw [show m+1+f+1=m+f+1+1 by omega,show qz n i (m+f+1+1)=s' n i (qz n i (m+f+1))from rfl]
  simp only [s',Ex];by_cases h0:u=0
  ·subst h0;have VN:acc≠[]:=by rcases dG with h|h;exact absurd h (by omega);exact h
   have:¬ i<0:=by omega
   simp [VN,this]
  ·have hp:(0:Int)<(u:Int):=by omega
   obtain⟨d1,d2⟩:=aec u hu;rw [d1,d2,aed u hu];simp only [hp,aus,auu,bd,auD,kL (show 1+acc.length≤9223372036854775807 by omega)]
   rw [aW f (u / 10) _ (by omega) (by rw [Nat.pow_succ]at Z;omega) (by simp;omega) (.inr (by simp))]
   rw [if_neg h0]
   conv=>rhs;rw [Lib.decDigits]
   by_cases iI:u<10
   ·rw [dif_pos iI,if_pos (by omega),Nat.mod_eq_of_lt iI];rfl
   ·rw [dif_neg iI,if_neg (by omega)];simp
def aee(n:Nat)(hn:30≤n)(i:Int)(h0:0≤i)(Z:i≤9223372036854775807):xe n i=some (Lib.decDigits i.toNat):=by
 unfold xe S8;obtain⟨u,rfl⟩:=Int.eq_ofNat_of_zero_le h0;have:¬ (u:Int)<0:=by omega
 simp only [this,aut,auv,al,pO (show u<18446744073709551616 by omega),auA]
 obtain⟨k,rfl⟩:∃k,n=k+30:=⟨n-30,by omega⟩
 by_cases dG:u=0
 ·subst dG;rw [show qz (k+30) ((0:Nat):Int) (k+30)=s' (k+30) ((0:Nat):Int) (qz (k+30) ((0:Nat):Int) (k+28+1))from rfl]
  obtain⟨d1,d2⟩:=aec 0 (by omega)
  have hs:=kL (n:=([UInt8.ofNat (48+0 % 10)]:auJ).length+([]:auJ).length) (by decide)
  simp only [s',d1,d2,aed 0 (by omega),hs,bd]
  rw [show qz (k+30) ((0:Nat):Int) (k+28+1)=s' (k+30) ((0:Nat):Int) (qz (k+30) ((0:Nat):Int) (k+28))from rfl]
  simp [s',Ex,Lib.decDigits]
 ·have:=ap' (k+30) (u:Int) h0 20 (k+9) u [] (by omega) (by omega) (by simp) (.inl (by omega))
  rw [if_neg dG,List.append_nil,show 20+(k+9)+1=k+30 by omega]at this;exact this
def ap_(n:Nat)(s:auJ)(hs:s.length≤9223372036854775807):∀m i,s.length<i+m→i≤s.length→AE n s m (i:Int)=some ((s.drop i).all okB):=by
 intro m;induction m with
 |zero=>intro i h ad;omega
 |succ m aW=>
  intro i hm hi;simp only [AE,Tb,Ta];by_cases h:i<s.length
  ·rw [fH s i 0 h,dj (by omega),aW (i+1) (by omega) (by omega)]
   simp only [h,cv h,auA,auB,aus,auu,bd,auG,List.all_cons,pF,gc,dL,Bj];cases okB (s.getD i 0)<;>simp
  ·rw [hf s i h];simp [h]
def aef{n:Nat}(s:auJ)(h:s.length<n)(hs:s.length≤9223372036854775807):Tc n s=some (s.all okB):=by
 have:=ap_ n s hs n 0 (by omega) (by omega)
 rw [List.drop_zero]at this;exact this
def take_one(s:auJ)(i:Nat)(h:i<s.length):(s.take (i+1)).drop i=[s.getD i 0]:=by
 rw [List.drop_take,fH s i 0 h];simp
def aqa(n:Nat)(s:auJ)(hs:s.length≤64):∀m i,s.length<i+m→i≤s.length→Ez n s m (34::hJ (s.take i)) (i:Int)=some (quo s,0):=by
 intro m;induction m with
 |zero=>intro i h ad;omega
 |succ m aW=>
  intro i hm hi;simp only [Ez,Tf,Td,Te,KP];have hlen:=xT (s.take i);have wc:(s.take i).length≤i:=by simp;omega
  by_cases h:i<s.length
  ·(rw [dp (by omega)];simp only [auA];rw [take_one s i h])
   have hn:=aW (i+1) (by omega) (by omega)
   have ax:s.take (i+1)=s.take i++[s.getD i 0]:=by
    rw [List.take_add,fH s i 0 h,List.take_succ_cons,List.take_zero]
   rw [ax,adT]at hn;generalize s.getD i 0=c at hn
   simp only [h,cv h,auB,aus,auu,bd,auG,fv,dL,FH (show i≤i+1 by omega) (show i+1≤s.length by omega)]
   by_cases hc:c.toNat=34∨c.toNat=92
   ·have hb:(decide (c.toNat=34)||decide (c.toNat=92))=true:=by rcases hc with hc|hc<;>rw [decide_eq_true hc]<;>simp
    rw [hb];simp only [auu];rw [kL (by simp only [auy,auz];omega),kL (by simp only [auC,auy,auz];omega)]
    simp only [bd];rw [show(34::hJ (s.take i)++[92]++[c])=34::(hJ (s.take i)++hJ [c])by simp only [hJ];rw [if_pos hc];simp]
    exact hn
   ·have hb:(decide (c.toNat=34)||decide (c.toNat=92))=false:=by rw [decide_eq_false (λe=>hc (Or.inl e)),decide_eq_false (λe=>hc (Or.inr e))];rfl
    rw [hb];simp only [auv];rw [kL (by simp only [auy,auz];omega)]
    simp only [bd];rw [show(34::hJ (s.take i)++[c])=34::(hJ (s.take i)++hJ [c])by simp only [hJ];rw [if_neg hc];simp]
    exact hn
  ·have Vw:i=s.length:=by omega
   subst Vw;simp only [auB,Nat.lt_irrefl,aut,auv,List.take_length];have ae:=xT s;rw [kL (by simp only [auy,auz];omega)]
   rfl
def aqb{n:Nat}(s:auJ)(h:jP s=true)(hn:100<n):KQ n s=some (quo s,0):=by
 unfold jP at h;simp only [Bool.and_eq_true,decide_eq_true_eq]at h;unfold KQ;simp only [gc,show¬ 64<s.length by omega,aut,auv,aef s (show s.length<n by omega) (by omega),al,h.1,auw]
 exact aqa n s (by omega) n 0 (by omega) (by omega)
open Go Go.Ab Go.Proofs
def aqc(n:Nat):lA (n+1)=KV n (lA n) (xg n):=rfl
def aqd(n:Nat):xg (n+1)=KW n (lA n) (xg n):=rfl
def Gb{n:Nat}{e:Expr}{k:Nat}(h:lA n e=some (flat (dJ e)))(ae:(flat (dJ e)).length≤100000000):xg (n+1) e (k:Int)=some (flat (jC e.Op (dJ e) k)):=by
 rw [aqd];unfold KW jC;rw [aea,h];simp only [al,auB];by_cases hk:eS e.Op<k
 ·simp only [hk,aus,auu,auH];rw [hq (by simp;omega),hq (by simp;omega)]
  simp only [bd,flat,oQ,spell,gB];simp
 ·simp only [hk,aut,auv,auI]
def aqe:∀(h:Nat) (e:Expr) (n:Nat),hY e≤h→iK e→2*h+200≤n→cN e≤1000000→lA n e=some (flat (dJ e)):=by
 intro h;induction h with
 |zero=>intro e n he;rw [F1]at he;omega
 |succ h aW=>
  intro e n he ew hn Ms;obtain⟨n,rfl⟩:∃j,n=j+1:=⟨n-1,by omega⟩
  obtain⟨n,rfl⟩:∃j,n=j+1:=⟨n-1,by omega⟩
  have n3:=(MI e).1 ew;have u1:=qH e;rw [aqc];unfold KV;rw [aea];simp only [al];rcases Vs e ew with⟨Z,av⟩|⟨Z,av⟩|⟨Z,av⟩|⟨ah,av⟩|⟨a,av,ha,bB,gQ⟩|⟨a,b,av,ha,hb,bB,gQ⟩
  ·have e2:flat (dJ e)=Lib.decDigits e.N.toNat++[]:=by rw [av];rfl
   rw [aee _ (by omega) e.N (n3.2.1 Z).1 (n3.2.1 Z).2,e2,List.append_nil]
   simp only [Z,aus,auu,al]
  ·have e2:flat (dJ e)=quo e.S++[]:=by rw [av];rfl
   rw [aqb e.S (n3.2.2.2.2.1 Z) (by omega),e2,List.append_nil]
   simp only [Z,show¬ (2:Int)=1 by omega,aus,aut,auu,auv,al]
  ·have e2:flat (dJ e)=e.S++[]:=by rw [av];rfl
   rw [e2,List.append_nil];simp only [Z,show¬ (3:Int)=1 by omega,show¬ (3:Int)=2 by omega,aus,aut,auu,auv]
  ·have hw:=BA e.Op;have Vy:=aeb (n+1) e.Op (by omega)
   have jJ:eS e.Op=9:=by
    have:e.Op=25∨e.Op=26∨e.Op=27:=by omega
    rcases this with h|h|h<;>rw [h]<;>decide
   have fc:e.an=[]:=by rw [av]
   have e2:flat (dJ e)=spell (jk e.Op)++([40]++([41]++[])):=by
    generalize e.Op=op at ah av
    rw [av];simp only [dJ,tp,u_];rw [if_neg (by omega),if_neg (by omega),if_neg (by omega)];rfl
   rw [Vy,e2];simp only [al];rw [hq (show(spell (jk e.Op)).length+([40,41]:auJ).length≤1000000000000 by simp;omega)]
   simp only [jJ,fc,show¬ e.Op=1 by omega,show¬ e.Op=2 by omega,show¬ e.Op=3 by omega,show¬ e.Op=18 by omega,show¬ e.Op=9 by omega,aut,auv,auz,fv,aus,auu,bd]
   simp
  ·have F6:cN e=30+(cN a+1):=by rw [av];simp [cN,iU,l2]
   have qQ:=aW a n (by omega) ha (by omega) (by omega)
   have Vz:=aW a (n+1) (by omega) ha (by omega) (by omega)
   have F5:=rc (hY a) a (Nat.le_refl _) ha;have fc:e.an=[a]:=by rw [av]
   have am:=pM a.Op (dJ a) 3;have eD:=pM a.Op (dJ a) 8
   have e2:dJ e=if e.Op=18 then some (mO [110,111,116])::none::jC a.Op (dJ a) 3 else if e.Op=9 then some (gB [45])::jC a.Op (dJ a) 8 else some (jk e.Op)::some (gB [40])::(dJ a++[some (gB [41])]):=by
    generalize e.Op=op at gQ av
    rw [av];simp only [dJ,tp,u_];rw [if_neg (by omega),if_neg (by omega),if_neg (by omega)]
   rw [e2,fc];simp only [auy,auz,mo (show 0<0+1 by omega),bd,List.getD_cons_zero,show¬ e.Op=1 by omega,show¬ e.Op=2 by omega,show¬ e.Op=3 by omega,aut,auv]
   by_cases xU:e.Op=18
   ·have:=Gb (k:=3) qQ (by omega)
    rw [xU];simp only [aus,auu,auH,show eS 18=3 from rfl]
    rw [this];simp only [al];rw [hq (by simp;omega)]
    rfl
   ·by_cases iI:e.Op=9
    ·have:=Gb (k:=8) qQ (by omega)
     rw [iI];simp only [show¬ (9:Int)=18 by omega,aus,aut,auu,auv,auH,auI,show eS 9=8 from rfl]
     rw [this];simp only [al];rw [hq (by simp;omega)]
     rfl
    ·have apJ:20≤e.Op∧e.Op≤24:=by omega
     have jJ:eS e.Op=9:=by
      have:e.Op=20∨e.Op=21∨e.Op=22∨e.Op=23∨e.Op=24:=by omega
      rcases this with h|h|h|h|h<;>rw [h]<;>decide
     have hw:=BA e.Op;rw [aeb (n+1) e.Op (by omega),Vz,if_neg xU,if_neg iI]
     have e3:flat (some (jk e.Op)::some (gB [40])::(dJ a++[some (gB [41])]))=spell (jk e.Op)++([40]++(flat (dJ a)++([41]++[]))):=by
      simp only [flat,oQ];rfl
     rw [e3];generalize spell (jk e.Op)=W at hw
     simp only [xU,iI,jJ,aut,aus,auv,auu,al];rw [hq (show W.length+(0+1)≤1000000000000 by omega),hq (show(W++([40]:auJ)).length+(flat (dJ a)).length≤1000000000000 by simp;omega),hq (show((W++([40]:auJ))++flat (dJ a)).length+(0+1)≤1000000000000 by simp;omega)]
     simp only [show((0+1:Nat):Int)=1 from rfl,show¬ (1:Int)=0 by omega,show((9:Nat):Int)=9 from rfl,aus,aut,auu,auv,bd]
     simp
  ·have F6:cN e=30+(cN a+1+(cN b+1)):=by rw [av];simp [cN,iU,l2]
   have qQ:=aW a n (by omega) ha (by omega) (by omega)
   have VA:=aW b n (by omega) hb (by omega) (by omega)
   have F5:=rc (hY a) a (Nat.le_refl _) ha;have adV:=rc (hY b) b (Nat.le_refl _) hb;have fc:e.an=[a,b]:=by rw [av]
   have jJ:=adP gQ;have apK:=Vx e.Op
   have e2:dJ e=jC a.Op (dJ a) (if eS e.Op=4 then 5 else eS e.Op)++none::some (tn e.Op)::none::jC b.Op (dJ b) (eS e.Op+1):=by
    generalize e.Op=op at gQ av
    rw [av,Vt gQ]
   have am:=pM a.Op (dJ a) (if eS e.Op=4 then 5 else eS e.Op)
   have eD:=pM b.Op (dJ b) (eS e.Op+1);have xV:=Gb (k:=eS e.Op+1) VA (by omega)
   rw [e2,fc,ap9 (n+1) e.Op gQ];simp only [auy,auz,mo (show 0<0+1+1 by omega),bd,List.getD_cons_zero,List.getD_cons_succ,show¬ e.Op=1 by omega,show¬ e.Op=2 by omega,show¬ e.Op=3 by omega,show¬ e.Op=18 by omega,show¬ e.Op=9 by omega,aut,auv,fv,show¬ eS e.Op=9 by omega,show aN 1 (0+1+1)=true from rfl]
   by_cases aR:eS e.Op=4
   ·have sx:=Gb (k:=5) qQ (by omega)
    rw [aR]at xV ⊢;rw [if_pos rfl];rw [if_pos aR]at am;simp only [aus,auu];rw [show xg (n+1) a 5=_ from sx,show xg (n+1) b 5=_ from xV]
    simp only [al];rw [aR]at eD;rw [hq (by simp;omega),hq (by simp;omega),hq (by simp;omega),hq (by simp only [auC,auy,auz];omega)]
    simp only [bd,oQ,flat];simp
   ·have sx:=Gb (k:=eS e.Op) qQ (by omega)
    rw [if_neg aR]at am ⊢;simp only [aR,aut,auv];rw [sx,dp (by omega),xV]
    simp only [al];rw [hq (by simp;omega),hq (by simp;omega),hq (by simp;omega),hq (by simp only [auC,auy,auz];omega)]
    simp only [bd,oQ,flat];simp
open Go Go.Ab Go.Proofs
def aqf(n d:Nat)(hd:d≤100):∀m i,d<i+m→i≤d→Ey n (d:Int) m (ind i) (i:Int)=some (ind d):=by
 intro m;induction m with
 |zero=>intro i h ad;omega
 |succ m aW=>
  intro i hm hi;simp only [Ey,S',S9,auB];by_cases h:i<d
  ·simp only [h,aus,auu];rw [kL (by rw [F_];simp;omega),dp (by omega),←VF,aW (i+1) (by omega) (by omega)]
   rfl
  ·simp only [h,aut,auv];rw [show i=d by omega]
def aqg{n d:Nat}(hd:d≤100)(hn:d<n):S_ n (d:Int)=some (ind d):=aqf n d hd n 0 (by omega) (by omega)
def aeg{n:Nat}{e:Expr}(h:mP e)(hn:300≤n)(cc:cN e≤1000000):lA n e=some (gq e):=aqe (hY e) e n (Nat.le_refl _) h.1 (by have:=h.2;omega) cc
def aqh(n:Nat):rL (n+1)=KX n (rL n) (AH n):=rfl
def aqi(n:Nat):AH (n+1)=KY n (rL n) (AH n):=rfl
set_option maxHeartbeats 4000000 in
def aqj{n:Nat}{s:Stmt}{d:Nat}(ew:BE s d)(cc:fst s≤300000)(hn:500≤n)
 (hb:rL n s.Body ((d+1:Nat):Int)=some (gC s.Body (d+1))) (he:rL n s.bK ((d+1:Nat):Int)=some (gC s.bK (d+1))):AH (n+1) s (d:Int)=some (gd s d):=by
 obtain⟨hd,hsh,cH,n3⟩:=(MM s d).1 ew;have Z:=oR _ _ cH;have ad:=oR _ _ n3;have hi:=F_ d;obtain⟨Op,Name,Max,A,B,Body,bK⟩:=s
 dsimp only at hb he cH n3 Z ad
 have nt:cN A≤300000∧cN B≤300000∧dP Body≤300000∧dP bK≤300000:=by simp only [fst]at cc;omega
 obtain⟨f1,f2,f3,f4⟩:=nt;rw [aqi];unfold KY;rw [aqg (by omega) (by omega)]
 simp only [al,gO,dp (show d≤4611686018427387904 by omega)]
 have e4:mP A→lA n A=some (gq A)∧(gq A).length≤1200000:=λh=>⟨aeg h (by omega) (by omega),by have:=mQ h;omega⟩
 have e0:mP B→lA n B=some (gq B)∧(gq B).length≤1200000:=λh=>⟨aeg h (by omega) (by omega),by have:=mQ h;omega⟩
 have aQ:hh Name=true→Name.length≤16:=λh=>by obtain⟨_,_,_,_,_,_,h⟩:=adM h;exact h
 have db:0≤Max∧Max≤999→xe n Max=some (Lib.decDigits Max.toNat)∧(Lib.decDigits Max.toNat).length≤21:=λh=>⟨aee n (by omega) Max h.1 (by omega),Bz Max h.1 (by omega)⟩
 unfold gd;unfold F9 at hsh;simp only at hsh
 rcases hsh with⟨aq,av,CT,ha⟩|⟨av,ha,q5⟩|⟨aq,av,ha⟩|⟨av,ha⟩|⟨av,CT,OZ,ha,q5⟩|⟨av,OZ⟩
 ·obtain⟨a_,a2⟩:=e4 ha;have a3:=aQ CT;rcases aq with rfl|rfl
  ·simp (disch:=first|omega|(simp only [auC,auy,auz];omega)) only [a_,decide_true,cond_true,al,kL,bd,if_true,eI,cat]
   simp
  ·simp (disch:=first|omega|(simp only [auC,auy,auz];omega)) only [a_,show¬ (2:Int)=1 by omega,decide_true,decide_false,cond_false,if_false,cond_true,al,kL,bd,if_true,eI,cat]
   simp
 ·cases av;obtain⟨a_,a2⟩:=e4 ha;obtain⟨cl,jI⟩:=e0 q5;simp (disch:=first|omega|(simp only [auC,auy,auz];omega)) only [a_,cl,show¬ (3:Int)=1 by omega,show¬ (3:Int)=2 by omega,decide_true,decide_false,cond_false,if_false,cond_true,al,kL,bd,if_true,eI,cat]
  simp
 ·obtain⟨a_,a2⟩:=e4 ha;rcases aq with rfl|rfl<;>simp (disch:=first|omega|(simp only [auC,auy,auz];omega)) only [a_,show¬ (4:Int)=1 by omega,show¬ (4:Int)=2 by omega,show¬ (4:Int)=3 by omega,show¬ (7:Int)=1 by omega,show¬ (7:Int)=2 by omega,show¬ (7:Int)=3 by omega,show¬ (7:Int)=4 by omega,show¬ (7:Int)=5 by omega,show¬ (7:Int)=6 by omega,decide_true,decide_false,cond_false,if_false,cond_true,al,kL,bd,if_true,eI,cat]<;>simp
 ·cases av;obtain⟨a_,a2⟩:=e4 ha;have bO:¬ (5:Int)=1∧¬ (5:Int)=2∧¬ (5:Int)=3∧¬ (5:Int)=4∧¬ (5:Int)=7∧¬ (5:Int)=8∧¬ (5:Int)=6:=by omega
  obtain⟨e1,e2,e3,gZ,oP,MO,pJ⟩:=bO;by_cases dG:bK.length=0
  ·simp (disch:=first|omega|(simp only [auC,auy,auz];omega)) only [a_,hb,e1,e2,e3,gZ,pJ,oP,MO,dG,EB,Int.lt_irrefl,show¬ ((0:Int)<((0:Nat):Int))by omega,decide_true,decide_false,cond_false,if_false,cond_true,al,kL,bd,if_true,eI,cat]
   simp
  ·have hp:(0:Int)<((bK.length:Nat):Int):=by omega
   simp (disch:=first|omega|(simp only [auC,auy,auz];omega)) only [a_,hb,he,hp,e1,e2,e3,gZ,pJ,oP,MO,dG,EB,decide_true,decide_false,cond_false,if_false,cond_true,al,kL,bd,if_true,eI,cat]
   simp
 ·cases av;obtain⟨a_,a2⟩:=e4 ha;obtain⟨cl,jI⟩:=e0 q5;obtain⟨m1,m2⟩:=db ⟨by omega,by omega⟩
  have a3:=aQ CT;have bO:¬ (6:Int)=1∧¬ (6:Int)=2∧¬ (6:Int)=3∧¬ (6:Int)=4∧¬ (6:Int)=7∧¬ (6:Int)=8∧¬ (6:Int)=5:=by omega
  obtain⟨e1,e2,e3,gZ,oP,MO,lQ⟩:=bO;simp (disch:=first|omega|(simp only [auC,auy,auz];omega)) only [a_,cl,m1,hb,e1,e2,e3,gZ,lQ,oP,MO,decide_true,decide_false,cond_false,if_false,cond_true,al,kL,bd,if_true,eI,cat]
  simp
 ·cases av;obtain⟨m1,m2⟩:=db ⟨by omega,by omega⟩
  have bO:¬ (8:Int)=1∧¬ (8:Int)=2∧¬ (8:Int)=3∧¬ (8:Int)=4∧¬ (8:Int)=7∧¬ (8:Int)=5∧¬ (8:Int)=6:=by omega
  obtain⟨e1,e2,e3,gZ,oP,lQ,pJ⟩:=bO;simp (disch:=first|omega|(simp only [auC,auy,auz];omega)) only [m1,e1,e2,e3,gZ,lQ,pJ,oP,decide_true,decide_false,cond_false,if_false,cond_true,al,kL,bd,if_true,eI,cat]
  simp
open Go Go.Ab Go.Proofs
def aqk:∀(n:Nat) (l:List Stmt) (d:Nat),l3 l d→dP l≤300000→2*dP l+600≤n→rL n l (d:Int)=some (gC l d):=by
 intro n;induction n using Nat.strongRecOn with
 |_ n aW=>
  intro l d ew cc hn;obtain⟨n,rfl⟩:∃k,n=k+2:=⟨n-2,by omega⟩
  have hlen:=xN l;rw [aqh];unfold KX
  have ib:∀m i,l.length<i+m→i≤l.length→EA (n+1) (rL (n+1)) (AH (n+1)) l (d:Int) m (gC (l.take i) d) (i:Int)=some (gC l d):=by
   intro m;induction m with
   |zero=>intro i Z ad;omega
   |succ m lB=>
    intro i Z ad;simp only [EA,Ti,Th,auB,auA,kl];by_cases hi:i<l.length
    ·simp only [hi,aus,auu,cv hi,bd];have dC:=VG l i d hi ew;have xL:l3 (l.take i) d:=((VH (l.take i) (l.drop i) d).1 (by rw [List.take_append_drop];exact ew)).1
     have qf:=oR _ _ xL
     have CV:dP l=dP (l.take i)+(fst (l.getD i default)+1+dP (l.drop (i+1))):=by
      have:dP l=dP (l.take i++l.drop i):=by rw [List.take_append_drop]
      rw [Mu,fH l i default hi]at this;simpa only [dP]using this
     have gv:=lB (i+1) (by omega) (by omega)
     rw [xQ l i hi,VI]at gv;generalize l.getD i default=s at dC CV gv
     have hx:=ad4 s d dC;have u1:=fst_eq s;obtain⟨_,_,aql,Gc⟩:=(MM s d).1 dC;have hb:=aW n (by omega) s.Body (d+1) aql (by omega) (by omega)
     have he:=aW n (by omega) s.bK (d+1) Gc (by omega) (by omega)
     rw [aqj dC (by omega) (by omega) hb he,al,kL (by omega),bd,dp (by omega)]
     simpa only [gC,List.append_nil]using gv
    ·simp only [hi,aut,auv];rw [List.take_of_length_le (by omega)]
  exact ib (n+1) 0 (by omega) (by omega)
open Go Go.Ab Go.Proofs
def aqm(n:Nat)(t:Int):Tj n t=some (xY t):=ad8 n t
def aeh(x:auJ):∀l:List auJ,Lib.joinTail [44,32] (l++[x])=Lib.joinTail [44,32] l++([44,32]++x)
 |[]=>by simp [Lib.joinTail]
 |y::l=>by rw [List.cons_append,VL,VL,aeh x l];simp
def aqn(x:auJ)(l:List auJ):Lib.join (l++[x]) [44,32]=(if l.length=0 then Lib.join l [44,32]else Lib.join l [44,32]++[44,32])++x:=by
 cases l with
 |nil=>simp [Lib.join,Lib.joinTail]
 |cons y l=>rw [List.cons_append,Lib.join_cons,Lib.join_cons,aeh,if_neg (by simp)];simp
def aqo{n:Nat}(p:be)(hi:xW p)(ao:n0 p=0)(hn:3000000≤n)(cc:fM p.Params≤300000)(e0:dP p.Body≤300000):xh n p=some (oS p):=by
 have hp:=ad2 hi ao;obtain⟨Z,ad,am⟩:=hp;obtain⟨aR,bv⟩:=VJ ad;have eG:=qP Z;have eD:=oR p.Body 1 am;unfold xh;rw [Vq p (by omega) (by omega) (by omega) (by omega) (by omega) (by omega) (by omega),ao]
 simp only [al,aus,auw,auv];rw [kL (by simp only [auy,auz];omega),kL (by simp only [auC,auy,auz];omega)]
 simp only [bd]
 have ib:∀m i,p.Params.length<i+m→i≤p.Params.length→ED n p m ((([112,114,111,99,32]++p.Name)++[40])++pN (p.Params.take i)) (i:Int)=some (oS p):=by
  intro m;induction m with
  |zero=>intro i g1 g2;omega
  |succ m aW=>
   intro i g1 g2;have aei:(pN (p.Params.take i)).length≤24*(p.Params.take i).length:=VM λx hx=>bv x (List.mem_of_mem_take hx)
   have aqp:(p.Params.take i).length≤6:=by simp;omega
   simp only [ED,Tm,KZ,Tl,auB,auA];by_cases hi:i<p.Params.length
   ·have hx:=bv (p.Params.getD i default) (by rw [List.getD_eq_getElem?_getD,List.getElem?_eq_getElem hi];exact List.getElem_mem hi)
    have hnx:=qP hx.1;have ad_:=VK (p.Params.getD i default).f';have gv:=aW (i+1) (by omega) (by omega)
    unfold pN at gv aei ⊢;rw [xQ p.Params i hi,List.map_append]at gv;simp only [List.map_cons,List.map_nil]at gv;rw [aqn]at gv;generalize mZ:p.Params.getD i default=x at gv hnx ad_
    simp only [hi,aus,auu,cv hi,bd,aqm,al,dp (show i≤4611686018427387904 by omega),gc]
    by_cases h0:i=0
    ·subst h0;simp (disch:=first|omega|(simp only [auC,auy,auz];omega)) only [Nat.lt_irrefl,decide_false,cond_false,kL,bd]
     rw [←gv];simp [qR]
    ·simp (disch:=first|omega|(simp only [auC,auy,auz];omega)) only [show 0<i by omega,decide_true,cond_true,kL,bd]
     rw [←gv,if_neg (by rw [List.length_map,List.length_take];omega)];simp [qR]
   ·simp only [hi,aut,auv];obtain rfl:i=p.Params.length:=by omega
    unfold Tk;rw [List.take_length]at aei aqp ⊢;rw [show(1:Int)=((1:Nat):Int)from rfl,aqk n p.Body 1 am e0 (by omega)]
    simp (disch:=first|omega|(simp only [auC,auy,auz];omega)) only [al,kL,bd]
    simp [oS,eI,cat,ind]
 have:=ib n 0 (by omega) (by omega)
 rw [show pN (p.Params.take 0)=[]from rfl,List.append_nil]at this
 exact this
open Go Go.Ab Go.Proofs
def aqq{β:Type}{L:Nat→Int→Option β}{len:Nat}{chk:Nat→Bool}{no yes:β}
 (step:∀m i,i<len→L (m+1) (i:Int)=if chk i then L m ((i+1:Nat):Int)else some no) (stop:∀m,L (m+1) (len:Int)=some yes):
 ∀m i,len<i+m→i≤len→L m (i:Int)=some (if(List.range' i (len-i)).all chk then yes else no):=by
 intro m;induction m with
 |zero=>intro i h ad;omega
 |succ m aW=>
  intro i h ad;by_cases hi:i<len
  ·rw [step m i hi,aW (i+1) (by omega) (by omega),show len-i=(len-(i+1))+1 by omega,List.range'_succ,List.all_cons]
   cases chk i
   ·rfl
   ·rw [if_pos rfl,Bool.true_and]
  ·obtain rfl:i=len:=by omega
   rw [stop m];simp
def VO{β:Type}{L:Nat→Int→Option β}{len:Nat}{chk:Nat→Bool}{no yes:β}{m:Nat}(hm:len<m)
 (step:∀m i,i<len→L (m+1) (i:Int)=if chk i then L m ((i+1:Nat):Int)else some no) (stop:∀m,L (m+1) (len:Int)=some yes):
 L m 0=some (if(List.range len).all chk then yes else no):=by
 have:=aqq step stop m 0 (by omega) (by omega)
 rwa [Nat.sub_zero,←List.range_eq_range']at this
def qT(c:UInt8):Bool:=decide (97≤c.toNat∧c.toNat≤122)||decide (48≤c.toNat∧c.toNat≤57)||decide (c.toNat=47)||decide (c.toNat=46)||decide (c.toNat=95)||decide (c.toNat=45)
def ld(k:auJ):Bool:=decide (1≤k.length)&&decide (k.length≤24)&&(List.range k.length).all λi=>qT (k.getD i 0)
def aqr{n:Nat}{s:auJ}(h:24<n):Ih n s=some (decide (s.length≤24)&&(List.range s.length).all λi=>qT (s.getD i 0)):=by
 unfold Ih;by_cases ae:s.length≤24
 ·simp only [gc,show¬ 24<s.length by omega,aut,auv,ae,aus,Bool.true_and]
  rw [VO (L:=za n s) (len:=s.length) (chk:=λi=>qT (s.getD i 0)) (no:=false) (yes:=true) (by omega)]
  ·cases (List.range s.length).all λi=>qT (s.getD i 0)<;>rfl
  ·intro m i hi;simp only [za,Ig,PF,auB,hi,aus,auu,cv hi,bd,al,auA,dp (show i≤4611686018427387904 by omega),th,l1,fv,dL,ee]
   have:(((((decide (97≤(s.getD i 0).toNat)&&decide ((s.getD i 0).toNat≤122)||(decide (48≤(s.getD i 0).toNat)&&decide ((s.getD i 0).toNat≤57)))||decide ((s.getD i 0).toNat=47))||decide ((s.getD i 0).toNat=46))||decide ((s.getD i 0).toNat=95))||decide ((s.getD i 0).toNat=45))=qT (s.getD i 0):=by
    simp [qT,Bool.decide_and]
   rw [this];cases qT (s.getD i 0)<;>rfl
  ·intro m;simp only [za,Ig,PG,auF,aut,auv]
 ·simp only [gc,show 24<s.length by omega,aus,auu,ae,aut,Bool.false_and]
def MP{n:Nat}{k:auJ}(h:24<n):wB n k=some (ld k):=by
 unfold wB ld;rw [aqr h];cases k with
 |nil=>rfl
 |cons c l=>simp [al]
def aqs(c:Nat):(((((decide (c<97)||decide (122<c))&&(decide (c<48)||decide (57<c))) && !decide (c=47)) && !decide (c=46)) && !decide (c=95) && !decide (c=45)) = !(decide (97≤c∧c≤122)||decide (48≤c∧c≤57)||decide (c=47)||decide (c=46)||decide (c=95)||decide (c=45)):=by
 rw [Bool.eq_iff_iff];simp only [Bool.and_eq_true,Bool.or_eq_true,decide_eq_true_eq,Bool.not_eq_true',Bool.or_eq_false_iff,decide_eq_false_iff_not];omega
def MQ{n:Nat}{k:auJ}(h:k.length<n)(hk:k.length≤9223372036854775807):w9 n k=some (ld k):=by
 unfold w9;rw [VO (L:=z_ n k) (len:=k.length) (chk:=λi=>qT (k.getD i 0)) (no:=false) (yes:=decide (1≤k.length)&&decide (k.length≤24)) h]
 ·unfold ld;cases (List.range k.length).all λi=>qT (k.getD i 0)<;>simp
 ·intro m i hi;simp only [z_,J0,auB,hi,aus,auu,cv hi,bd,auA,dj (show i≤9223372036854775806 by omega),pF,gc,fv,dL,ee]
  have:=aqs (k.getD i 0).toNat
  rw [show(decide (97≤(k.getD i 0).toNat∧(k.getD i 0).toNat≤122)||decide (48≤(k.getD i 0).toNat∧(k.getD i 0).toNat≤57)||decide ((k.getD i 0).toNat=47)||decide ((k.getD i 0).toNat=46)||decide ((k.getD i 0).toNat=95)||decide ((k.getD i 0).toNat=45))=qT (k.getD i 0)from rfl]at this
  rw [this];cases qT (k.getD i 0)<;>rfl
 ·intro m;simp only [z_,J0,RX,auF,aut,auv,th,l1,ee]
open Go Go.Ab Go.Proofs
def aej(n:Nat)(s:auJ):∀m,Da n s m=zk n s m
 | 0=>rfl
 |m+1=>by
  show PJ n s (Da n s m)=_
  rw [aej n s m];rfl
def aek{n:Nat}{s:auJ}(h:s.length<n)(hs:s.length≤9223372036854775807):Db n s=some (jP s):=by
 unfold Db;rw [aej];exact acI h hs
def ael(n:Nat)(s:auJ):∀m,D9 n s m=AE n s m
 | 0=>rfl
 |m+1=>by
  show RW n s (D9 n s m)=_
  rw [ael n s m];rfl
def aem{n:Nat}{s:auJ}(h:s.length<n)(hs:s.length≤9223372036854775807):D' n s=some (jP s):=by
 unfold D' jP;by_cases ae:s.length≤64
 ·simp only [gc,show¬ 64<s.length by omega,aut,auv,ae,aus,Bool.and_true]
  rw [ael];exact aef s h hs
 ·simp only [gc,show 64<s.length by omega,aus,auu,ae,aut,Bool.and_false]
def ko(v:bn):Bool:=if v.Kind=0 then decide (v.N=0)&&decide (v.S=[])else if v.Kind=1 then decide (v.S=[])else decide (v.Kind=2)&&decide (v.N=0)&&jP v.S
def MR{n:Nat}{v:bn}(h:v.S.length<n)(hs:v.S.length≤9223372036854775807):sN n v=some (ko v):=by
 unfold sN ko;by_cases h0:v.Kind=0
 ·simp [h0]
 ·by_cases Z:v.Kind=1
  ·simp [Z]
  ·by_cases ad:v.Kind=2
   ·by_cases am:v.N=0
    ·simp [ad,am,aek h hs]
    ·simp [ad,am]
   ·simp [h0,Z,ad]
def MS{n:Nat}{v:bn}(h:v.S.length<n)(hs:v.S.length≤9223372036854775807):uE n v=some (ko v):=by
 unfold uE ko;by_cases h0:v.Kind=0
 ·by_cases am:v.N=0<;>simp [h0,am]
 ·by_cases Z:v.Kind=1
  ·simp [Z]
  ·by_cases ad:v.Kind=2
   ·by_cases am:v.N=0
    ·simp [ad,am,aem h hs]
    ·simp [ad,am]
   ·simp [h0,Z,ad]
def cf(v:bn):auJ:=if v.Kind=1 then gi 1++qS v.N else if v.Kind=2 then gi 2++hC v.S else gi 0
open Go Go.Ab Go.Proofs
abbrev eJ(α:Type):=auJ→Except Int (α×auJ)
structure eh{α:Type}(D:eJ α)(E:α→auJ)(ok:α→Prop):Prop where
 rt:∀v t,ok v→D (E v++t) = .ok (v,t)
 eF:∀x v t,D x = .ok (v,t)→x=E v++t∧ok v
 cb:∀x e,D x = .error e→e≠0
def eh.gU{α:Type}{D:eJ α}{E:α→auJ}{ok:α→Prop}(h:eh D E ok){x:auJ}{v:α}{t:auJ}(hx:D x = .ok (v,t)):t <:+ x:=⟨E v,(h.eF x v t hx).1.symm⟩
def dM{α β:Type}(D:eJ α)(k:α→eJ β):eJ (α×β):=λx=>match D x with
 |.ok (v,t)=>match k v t with
  |.ok (w,u)=>.ok ((v,w),u)
  |.error e=>.error e
 |.error e=>.error e
def eh.dep{α β:Type}{D:eJ α}{E:α→auJ}{ok:α→Prop}{k:α→eJ β}{dA:α→β→auJ}{aen:α→β→Prop}(h:eh D E ok)(ad:∀a,ok a→eh (k a) (dA a) (aen a)):
 eh (dM D k) (λp=>E p.1++dA p.1 p.2) (λp=>ok p.1∧aen p.1 p.2) where
 rt:=fun⟨v,w⟩ t ⟨am,aR⟩=>by simp only [dM,List.append_assoc,h.rt v _ am,(ad v am).rt w t aR]
 eF:=
  λx ⟨v,w⟩ t hx=>by
  unfold dM at hx;split at hx
  ·rename_i v0 t0 hd;obtain⟨am,aR⟩:=h.eF _ _ _ hd;split at hx
   ·rename_i VP oj hk;obtain⟨bv,cz⟩:=(ad v0 aR).eF _ _ _ hk;cases hx;exact⟨by rw [am,bv,List.append_assoc],aR,cz⟩
   ·cases hx
  ·cases hx
 cb:=
  λx e hx=>by
  unfold dM at hx;split at hx
  ·rename_i v0 t0 hd;split at hx
   ·cases hx
   ·rename_i bO hk;cases hx;exact(ad v0 (h.eF _ _ _ hd).2).cb _ _ hk
  ·rename_i bO hd;cases hx;exact h.cb _ _ hd
def e'{α β:Type}(f:α→β)(D:eJ α):eJ β:=λx=>match D x with
 |.ok (v,t)=>.ok (f v,t)
 |.error e=>.error e
def eh.map{α β:Type}{D:eJ α}{E:α→auJ}{ok:α→Prop}(h:eh D E ok)(f:α→β)(g:β→α)(BH:β→Prop)(dx:β→auJ)(Z:∀b,BH b→f (g b)=b∧ok (g b)∧dx b=E (g b))(ad:∀a,ok a→g (f a)=a∧BH (f a)):
 eh (e' f D) dx BH where
 rt:=λv t ao=>by
  obtain⟨am,aR,bv⟩:=Z v ao;simp only [e',bv,h.rt _ t aR,am]
 eF:=λx v t hx=>by
  unfold e' at hx;split at hx
  ·rename_i v0 t0 hd;cases hx;obtain⟨am,aR⟩:=h.eF _ _ _ hd;obtain⟨bv,cz⟩:=ad _ aR;obtain⟨_,_,eG⟩:=Z _ cz;exact⟨by rw [eG,bv,am],cz⟩
  ·cases hx
 cb:=λx e hx=>by
  unfold e' at hx;split at hx
  ·cases hx
  ·rename_i bO hd;cases hx;exact h.cb _ _ hd
def jU{α:Type}(p:α→Bool)(e:Int)(D:eJ α):eJ α:=λx=>match D x with
 |.ok (v,t)=>if p v then .ok (v,t)else .error e
 |.error f=>.error f
def eh.chk{α:Type}{D:eJ α}{E:α→auJ}{ok:α→Prop}(h:eh D E ok)(p:α→Bool)(e:Int)(he:e≠0):eh (jU p e D) E (λv=>ok v∧p v=true) where
 rt:=λv t ⟨Z,ad⟩=>by simp only [jU,h.rt v t Z,ad,auH]
 eF:=
  λx v t hx=>by
  unfold jU at hx;split at hx
  ·rename_i v0 t0 hd;split at hx
   ·rename_i hp;cases hx;exact⟨(h.eF _ _ _ hd).1,(h.eF _ _ _ hd).2,hp⟩
   ·cases hx
  ·cases hx
 cb:=λx f hx=>by
  unfold jU at hx;split at hx
  ·split at hx
   ·cases hx
   ·cases hx;exact he
  ·rename_i bO hd;cases hx;exact h.cb _ _ hd
def tw{α:Type}(E:α→auJ)(l:List α):auJ:=(l.map E).flatten
def MT{α:Type}(E:α→auJ)(v:α)(l:List α):tw E (v::l)=E v++tw E l:=rfl
def e5{α:Type}(D:eJ α):Nat→eJ (List α)
 | 0,x=>.ok ([],x)
 |n+1,x=>match D x with
  |.ok (v,t)=>match e5 D n t with
   |.ok (l,u)=>.ok (v::l,u)
   |.error e=>.error e
  |.error e=>.error e
def eh.rep{α:Type}{D:eJ α}{E:α→auJ}{ok:α→Prop}(h:eh D E ok):∀n,eh (e5 D n) (tw E) (λl=>l.length=n∧∀v∈l,ok v)
 | 0=>{
  rt:=λv t ⟨Z,_⟩=>by
   obtain rfl:=List.eq_nil_of_length_eq_zero Z;rfl
  eF:=λx v t hx=>by cases hx;exact⟨rfl,rfl,λv ao=>by cases ao⟩
  cb:=λx e hx=>by cases hx}
 |n+1=>{
  rt:=λv t ⟨Z,ad⟩=>by
   cases v with
   |nil=>simp at Z
   |cons a l=>
    have am:=h.rt a (tw E l++t) (ad a (by simp))
    have aR:=(eh.rep h n).rt l t ⟨by simpa using Z,λv ao=>ad v (by simp [ao])⟩
    simp only [e5,MT,List.append_assoc,am,aR]
  eF:=
   λx v t hx=>by
   unfold e5 at hx;split at hx
   ·rename_i v0 t0 hd;split at hx
    ·rename_i l0 oj hk;cases hx;obtain⟨am,aR⟩:=h.eF _ _ _ hd;obtain⟨bv,cz,eG⟩:=(eh.rep h n).eF _ _ _ hk;refine⟨by rw [am,bv,MT,List.append_assoc],by simp [cz],λv ao=>?_⟩
     rcases List.mem_cons.1 ao with rfl|ao
     ·exact aR
     ·exact eG v ao
    ·cases hx
   ·cases hx
  cb:=λx e hx=>by
   unfold e5 at hx;split at hx
   ·split at hx
    ·cases hx
    ·rename_i bO hk;cases hx;exact(eh.rep h n).cb _ _ hk
   ·rename_i bO hd;cases hx;exact h.cb _ _ hd}
def kM:Nat→eJ Nat
 | 0,_=>.error 5
 |_+1,[]=>.error 6
 |k+1,c::t=>if k=0∧1<c.toNat∨c.toNat=0∧k<9 then .error 5 else if c.toNat<128 then .ok (c.toNat,t)else match kM k t with
  |.ok (u,t)=>.ok (c.toNat % 128+128*u,t)
  |.error e=>.error e
def oT:eJ Nat:=kM 10
def aeo:∀(k u:Nat) (t:auJ),u<2 ^ (7*k+1)→(k<9→0<u)→kM (k+1) (gi u++t) = .ok (u,t)
 |k,u,t,h,h0=>by
  rw [gi];by_cases hu:u<128
  ·rw [if_pos hu];have e:(UInt8.ofNat u).toNat=u:=by simp only [UInt8.toNat_ofNat'];omega
   simp only [List.singleton_append,kM,e];rw [if_neg,if_pos hu];intro bB;rcases bB with⟨rfl,ad⟩|⟨Z,ad⟩
   ·simp at h;omega
   ·have:=h0 ad;omega
  ·rw [if_neg hu];have e:(UInt8.ofNat (u % 128+128)).toNat=u % 128+128:=by simp only [UInt8.toNat_ofNat'];omega
   cases k with
   |zero=>simp at h;omega
   |succ k=>
    have:=aeo k (u / 128) t (by rw [show 7*(k+1)+1=7*k+1+7 by omega,Nat.pow_add]at h;omega) (λ_=>by omega)
    simp only [List.cons_append,kM,e]at this ⊢;rw [if_neg (by omega),if_neg (by omega),this]
    simp only
    rw [show(u % 128+128) % 128+128*(u / 128)=u by omega]
def VQ:∀(k:Nat) (x:auJ) (u:Nat) (t:auJ),k≤9→kM (k+1) x = .ok (u,t)→x=gi u++t∧u<2 ^ (7*k+1)∧(k<9→0<u)
 |k,[],u,t,_,h=>by simp [kM]at h
 |k,c::x,u,t,Mw,h=>by
  have hc:=c.toNat_lt;unfold kM at h;split at h
  ·cases h
  ·rename_i Z;split at h
   ·rename_i ad;cases h;rw [gi,if_pos ad];refine⟨by simp,?_,λiI=>by omega⟩
    cases k with
    |zero=>simp;omega
    |succ k=>
     rw [show 7*(k+1)+1=7*k+1+7 by omega,Nat.pow_add]
     have:=Nat.two_pow_pos (7*k+1)
     omega
   ·rename_i ad;split at h
    ·rename_i oj t0 hu;cases h;cases k with
     |zero=>simp [kM]at hu
     |succ k=>
      obtain⟨am,aR,bv⟩:=VQ k _ _ _ (by omega) hu
      refine⟨?_,?_,λ_=>?_⟩
      ·have ahx:0<oj:=by
        by_cases iI:k<9
        ·exact bv iI
        ·omega
       rw [gi,if_neg (by omega),am]
       rw [show(c.toNat % 128+128*oj) / 128=oj by omega,show(c.toNat % 128+128*oj) % 128+128=c.toNat by omega]
       simp
      ·rw [show 7*(k+1)+1=7*k+1+7 by omega,Nat.pow_add]
       generalize 2 ^ (7*k+1)=P at aR ⊢
       omega
      ·by_cases iI:k<9
       ·have:=bv iI;omega
       ·omega
    ·cases h
def aep:∀(k:Nat) (x:auJ) (e:Int),kM k x = .error e→e=5∨e=6
 | 0,x,e,h=>by cases h;simp
 |k+1,[],e,h=>by cases h;simp
 |k+1,c::x,e,h=>by
  unfold kM at h;split at h
  ·cases h;simp
  ·split at h
   ·cases h
   ·split at h
    ·cases h
    ·rename_i bO hu;cases h;exact aep k _ _ hu
def n5:eh oT gi (λu=>u<18446744073709551616) where
 rt:=λu t h=>aeo 9 u t h (by omega)
 eF:=λx u t h=>⟨(VQ 9 x u t (by omega) h).1,(VQ 9 x u t (by omega) h).2.1⟩
 cb:=λx e h=>by have:=aep 10 x e h;omega
def gI:eJ Int:=e' (λu:Nat=>(u:Int)) oT
def iX(z:Int):Prop:=0≤z∧z<18446744073709551616
def l5(z:Int):auJ:=gi z.toNat
def ix:eh gI l5 iX:=
 n5.map _ Int.toNat iX l5 (λb h=>by unfold iX at h;exact⟨by omega,by omega,rfl⟩) (λa h=>⟨by omega,by unfold iX;omega⟩)
def va(u:Nat):Int:=if u % 2=1 then -((u / 2:Nat):Int)-1 else((u / 2:Nat):Int)
def gD:eJ Int:=e' va oT
def hD:eh gD qS gr:=
 n5.map _ fold gr qS (λb h=>⟨by unfold gr at h;unfold fold va;split<;>(split<;>omega),ap8 h,rfl⟩)
  (λa h=>⟨by unfold fold va;split<;>(split<;>omega),by unfold gr va;split<;>omega⟩)
def gt(most:Nat):eJ Nat:=λx=>match oT x with
 |.ok (u,t)=>if most<u then .error 2 else if t.length<u then .error 6 else .ok (u,t)
 |.error e=>.error e
def jD{most:Nat}{x t:auJ}{u:Nat}(h:gt most x = .ok (u,t)):x=gi u++t∧u≤most∧u≤t.length:=by
 unfold gt at h;split at h
 ·rename_i oj t0 hd;split at h
  ·cases h
  ·split at h
   ·cases h
   ·cases h;exact⟨(n5.eF _ _ _ hd).1,by omega,by omega⟩
 ·cases h
def kp{most:Nat}{x:auJ}{e:Int}(h:gt most x = .error e):e≠0:=by
 unfold gt at h;split at h
 ·split at h
  ·cases h;omega
  ·split at h
   ·cases h;omega
   ·cases h
 ·rename_i bO hd;cases h;exact n5.cb _ _ hd
def aeq{most u:Nat}{t:auJ}(h:u≤most)(Z:most<18446744073709551616)(ad:u≤t.length):gt most (gi u++t) = .ok (u,t):=by
 unfold gt;rw [n5.rt u t (by omega)]
 simp only
 rw [if_neg (by omega),if_neg (by omega)]
def gV{α:Type}(most:Nat)(D:eJ α):eJ (List α):=λx=>match gt most x with
 |.ok (u,t)=>e5 D u t
 |.error e=>.error e
def jl{α:Type}(E:α→auJ)(l:List α):auJ:=gi l.length++tw E l
def VR{α:Type}{E:α→auJ}:∀{l:List α},(∀v∈l,E v≠[])→l.length≤(tw E l).length
 |[],_=>by simp
 |v::l,h=>by
  have Z:(E v).length≠0:=by simpa using h v (by simp)
  have ad:=VR (E:=E) (l:=l) λw hw=>h w (by simp [hw])
  simp only [MT,auC,auy];omega
def eh.vb{α:Type}{D:eJ α}{E:α→auJ}{ok:α→Prop}(h:eh D E ok)(most:Nat)(hm:most<18446744073709551616)(dY:∀v,ok v→E v≠[]):eh (gV most D) (jl E) (λl=>l.length≤most∧∀v∈l,ok v) where
 rt:=λl t ⟨Z,ad⟩=>by
  have am:=VR (E:=E) (l:=l) λv ao=>dY v (ad v ao)
  unfold gV jl;rw [List.append_assoc,aeq Z hm (by simp;omega)]
  exact(h.rep l.length).rt l t ⟨rfl,ad⟩
 eF:=λx l t hx=>by
  unfold gV at hx;split at hx
  ·rename_i oj t0 hd;obtain⟨Z,ad,am⟩:=jD hd;obtain⟨aR,bv,cz⟩:=(h.rep oj).eF _ _ _ hx;subst bv;exact⟨by rw [Z,aR,jl,List.append_assoc],ad,cz⟩
  ·cases hx
 cb:=λx e hx=>by
  unfold gV at hx;split at hx
  ·exact(h.rep _).cb _ _ hx
  ·rename_i bO hd;cases hx;exact kp hd
def dR(most:Nat):eJ auJ:=λx=>match gt most x with
 |.ok (u,t)=>.ok (t.take u,t.drop u)
 |.error e=>.error e
def tx(most:Nat)(hm:most<18446744073709551616):eh (dR most) hC (λs=>s.length≤most) where
 rt:=λs t h=>by
  unfold dR hC;rw [List.append_assoc,aeq h hm (by simp)]
  simp
 eF:=λx s t hx=>by
  unfold dR at hx;split at hx
  ·rename_i oj t0 hd;obtain⟨Z,ad,am⟩:=jD hd;cases hx;have:(t0.take oj).length=oj:=by simp;omega
   unfold hC;rw [this];exact⟨by rw [List.append_assoc,List.take_append_drop,Z],by omega⟩
  ·cases hx
 cb:=λx e hx=>by
  unfold dR at hx;split at hx
  ·cases hx
  ·rename_i bO hd;cases hx;exact kp hd
def pP:eJ Bool
 |[]=>.error 6
 |c::t=>if 1<c.toNat then .error 5 else .ok (decide (c.toNat=1),t)
def VS(b:Bool):auJ:=if b then[1] else[0]
def Gd:eh pP VS (λ_=>True) where
 rt:=λb t _=>by cases b<;>rfl
 eF:=
  λx b t hx=>by
  cases x with
  |nil=>cases hx
  |cons c x=>
   simp only [pP]at hx;by_cases Z:1<c.toNat
   ·rw [if_pos Z]at hx;cases hx
   ·rw [if_neg Z]at hx;cases hx;refine⟨?_,trivial⟩
    unfold VS;by_cases ad:c.toNat=1
    ·rw [decide_eq_true ad];have:c=1:=UInt8.toNat_inj.1 (by simpa using ad)
     rw [this];rfl
    ·rw [decide_eq_false ad];have:c=0:=UInt8.toNat_inj.1 (by simp;omega)
     rw [this];rfl
 cb:=λx e hx=>by
  cases x with
  |nil=>cases hx;omega
  |cons c x=>
   simp only [pP]at hx;by_cases Z:1<c.toNat
   ·rw [if_pos Z]at hx;cases hx;omega
   ·rw [if_neg Z]at hx;cases hx
def r0(u:Nat):gi u≠[]:=by rw [gi];split<;>simp
open Go Go.Ab Go.Proofs
def VT{α:Type}(v:α):eJ α:=λx=>.ok (v,x)
def aer{α:Type}(v:α):eh (VT v) (λ_=>[]) (λw=>w=v) where
 rt:=λw t h=>by subst h;rfl
 eF:=λx w t h=>by cases h;exact⟨rfl,rfl⟩
 cb:=λx e h=>by cases h
def eh.as{α:Type}{D:eJ α}{E:α→auJ}{ok:α→Prop}(h:eh D E ok)(dx:α→auJ)(BH:α→Prop)(Z:∀v,BH v↔ok v)(ad:∀v,ok v→dx v=E v):eh D dx BH where
 rt:=λv t ao=>by rw [ad v ((Z v).1 ao)];exact h.rt v t ((Z v).1 ao)
 eF:=λx v t hx=>by
  obtain⟨am,aR⟩:=h.eF x v t hx;exact⟨by rw [ad v aR];exact am,(Z v).2 aR⟩
 cb:=h.cb
def jm(lo hi:Int):eJ Int:=jU (λz=>decide (lo≤z)&&decide (z≤hi)) 5 gI
def Ge{lo hi:Int}(h0:0≤lo)(Z:hi<18446744073709551616):eh (jm lo hi) l5 (λz=>lo≤z∧z≤hi):=
 (ix.chk _ 5 (by omega)).as _ _ (λv=>by simp only [Bool.and_eq_true,decide_eq_true_eq,iX];omega) (λ_ _=>rfl)
def xZ(k:Int):eJ bn:=if k=0 then VT ⟨0,0,[]⟩else if k=1 then e' (λn=>⟨1,n,[]⟩) gD else if k=2 then jU (λv=>jP v.S) 5 (e' (λs=>⟨2,0,s⟩) (dR 64))else λ_=>.error 5
def iY:eJ bn:=e' Prod.snd (dM gI xZ)
def vc(v:bn):Prop:=ko v=true∧gr v.N
def aes{s:auJ}(h:jP s=true):s.length≤64:=by
 unfold jP at h;simp only [Bool.and_eq_true,decide_eq_true_eq]at h;exact h.2
def x0{v:bn}(h:ko v=true):v=⟨0,0,[]⟩∨(v.Kind=1∧v.S=[])∨(v.Kind=2∧v.N=0∧jP v.S=true):=by
 obtain⟨k,n,s⟩:=v;unfold ko at h;simp only at h ⊢
 split at h
 ·rename_i h0;simp only [Bool.and_eq_true,decide_eq_true_eq]at h;obtain⟨rfl,rfl⟩:=h;exact .inl (by rw [h0])
 ·split at h
  ·rename_i Z;exact .inr (.inl ⟨Z,by simpa using h⟩)
  ·simp only [Bool.and_eq_true,decide_eq_true_eq]at h;exact .inr (.inr ⟨h.1.1,h.1.2,h.2⟩)
def n6:eh iY cf vc:=by
 have et:∀k,iX k→eh (xZ k) (λv=>if k=1 then qS v.N else if k=2 then hC v.S else[]) (λv=>vc v∧v.Kind=k):=by
  intro k hk;unfold xZ;by_cases h0:k=0
  ·subst h0;rw [if_pos rfl];refine(aer _).as _ _ (λv=>⟨fun⟨⟨Z,ad⟩,am⟩=>?_,λh=>?_⟩) (λv _=>?_)
   ·rcases x0 Z with h|h|h
    ·exact h
    ·exact absurd (h.1.symm.trans am) (by omega)
    ·exact absurd (h.1.symm.trans am) (by omega)
   ·subst h;exact⟨⟨rfl,by unfold gr;simp⟩,rfl⟩
   ·simp
  ·rw [if_neg h0];by_cases Z:k=1
   ·subst Z;rw [if_pos rfl];refine hD.map _ (λv=>v.N) _ _ (λv ⟨⟨ad,am⟩,aR⟩=>⟨?_,am,by simp⟩) (λn hn=>⟨rfl,⟨⟨by simp [ko],hn⟩,rfl⟩⟩)
    rcases x0 ad with h|h|h
    ·rw [h]at aR;exact absurd aR (by simp)
    ·obtain⟨a,b,c⟩:=v;simp only at h aR ⊢;rw [aR,h.2]
    ·exact absurd (h.1.symm.trans aR) (by omega)
   ·rw [if_neg Z];by_cases ad:k=2
    ·subst ad;rw [if_pos rfl];refine(((tx 64 (by omega)).map (λs=>(⟨2,0,s⟩:bn)) (λv=>v.S) (λv=>v.Kind=2∧v.N=0∧v.S.length≤64) (λv=>hC v.S) (λv ⟨am,aR,bv⟩=>⟨?_,bv,rfl⟩) (λs hs=>⟨rfl,rfl,rfl,hs⟩)).chk _ 5 (by omega)).as _ _ (λv=>⟨fun⟨⟨am,aR⟩,bv⟩=>?_,fun⟨⟨am,aR,bv⟩,cz⟩=>?_⟩) (λv _=>by simp)
     ·obtain⟨a,b,c⟩:=v;simp only at am aR ⊢;rw [am,aR]
     ·rcases x0 am with h|h|h
      ·rw [h]at bv;exact absurd bv (by simp)
      ·exact absurd (h.1.symm.trans bv) (by omega)
      ·exact⟨⟨h.1,h.2.1,aes h.2.2⟩,h.2.2⟩
     ·refine⟨⟨?_,by rw [aR];unfold gr;omega⟩,am⟩
      unfold ko;rw [am,aR];simp [cz]
    ·rw [if_neg ad]
     exact {
      rt:=λv t ⟨⟨am,aR⟩,bv⟩=>by
       exfalso
       rcases x0 am with h|h|h
       ·rw [h]at bv;exact h0 bv.symm
       ·exact Z (bv.symm.trans h.1)
       ·exact ad (bv.symm.trans h.1)
      eF:=λx v t h=>by cases h
      cb:=λx e h=>by cases h;omega}
 refine(ix.dep et).map Prod.snd (λv=>(v.Kind,v)) vc cf (λv ao=>⟨rfl,⟨?_,ao,rfl⟩,?_⟩) (fun⟨k,v⟩ ⟨Z,ad,am⟩=>⟨congrArg (·,v) am,ad⟩)
 ·rcases x0 ao.1 with h|h|h
  ·rw [h];unfold iX;simp
  ·unfold iX;rw [h.1];omega
  ·unfold iX;rw [h.1];omega
 ·unfold cf l5;rcases x0 ao.1 with h|h|h
  ·rw [h];simp
  ·simp only [h.1];rfl
  ·simp only [h.1];rfl
def aqt(v:bn):cf v≠[]:=by
 unfold cf;split
 ·simp [r0]
 ·split
  ·simp [r0]
  ·exact r0 _
end Go.Ab.Y

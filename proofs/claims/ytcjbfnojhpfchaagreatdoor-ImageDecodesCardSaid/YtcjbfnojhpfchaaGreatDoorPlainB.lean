/- The plain law: what the functions compute answers as the statement says. -/
import Derived.Lib.ItoaNum
import Derived.Lib.ItoaLen
import Derived.Test.YtcjbfnojhpfchaaGreatDoorPlainA
set_option linter.all false
namespace Go.Ab.Y
open Go Go.Ab Go.Proofs
def amP(n:Nat)(s:Stmt)(u:lr):H_ n s u=some (!Bc s u&&rA s):=by
 have hm:(bif decide (s.Op=6)then some (bif decide (1≤s.Max)then decide (s.Max≤16)else false)else bif decide (s.Op=8)then some (bif decide (0≤s.Max)then decide (s.Max≤999)else false)else some true)=some (rA s):=by
  unfold rA;by_cases cd:s.Op=6
  ·simp only [cd,arH,arJ,arW,dV]
  ·by_cases ek:s.Op=8
   ·simp only [ek,show¬ (8:Int)=6 by omega,arH,arI,arJ,arK,arW,arX,dV]
   ·simp only [cd,ek,arI,arK,arX]
 unfold H_ Bc;rw [hm];simp only [abK,gd,dV,dJ,fF];generalize decide (s.Name=[])=x
 generalize nc s.A=y
 generalize nc s.B=z
 generalize decide (s.Max=0)=w
 generalize decide (0<s.Body.length)=p
 generalize decide (0<s.bK.length)=q
 generalize rA s=r
 obtain⟨px,a,b,kt,ib,xJ⟩:=u;cases px<;>cases x<;>cases a<;>cases y<;>cases b<;>cases z<;>simp only [arL,arM,Bool.and_true,Bool.and_false,Bool.true_and,Bool.false_and,arV,Bool.or_false,Bool.true_or,Bool.false_or,arJ,arK,an]<;>(cases ((!kt && !w)||(!ib&&p)||(!xJ&&q))<;>simp_all)
def amQ{n:Nat}(s:Stmt)(d:Int)(eW:cJ s.A≤n)(eR:cJ s.B≤n)(Uo:cJ s.A≤140737488351232)(qs:cJ s.B≤140737488351232)(aY:s.Name.length≤140737488351232):Ig n s d=some (kH s d):=by
 unfold Ig If Ie kH;simp only [amM,an,gd,jC,amP,A1 n s.Name aY,abI s.A eW Uo,abI s.B eR qs];generalize (km s.Op)=U
 obtain⟨u,amR⟩:=U;obtain⟨px,a,b,kt,ib,xJ⟩:=u;simp only
 generalize Bc s ⟨px,a,b,kt,ib,xJ⟩=m
 generalize rA s=r
 cases amR
 ·simp
 ·cases m
  ·cases r
   ·simp
   ·generalize g_ s.Name=x
    simp only [arL,arM,arJ,arK,an,Bool.true_and,Bool.and_true,Bool.true_eq_false,Bool.false_eq_true,or_self,arX];cases px
    ·simp only [arK,an,Bool.false_eq_true,false_and,arX];cases a
     ·simp only [arK,Bool.false_eq_true,false_and,arX];cases b
      ·by_cases gy:12<d<;>simp [gy]
      ·by_cases hb:hh s.B 1=0<;>by_cases gy:12<d<;>simp [hb,gy]
     ·by_cases ha:hh s.A 1=0
      ·cases b
       ·by_cases gy:12<d<;>simp [ha,gy]
       ·by_cases hb:hh s.B 1=0<;>by_cases gy:12<d<;>simp [ha,hb,gy]
      ·simp [ha]
    ·cases x
     ·simp
     ·simp only [arJ,an,arL,arK,Bool.true_eq_false,and_false,arX];cases a
      ·simp only [arK,Bool.false_eq_true,false_and,arX];cases b
       ·by_cases gy:12<d<;>simp [gy]
       ·by_cases hb:hh s.B 1=0<;>by_cases gy:12<d<;>simp [hb,gy]
      ·by_cases ha:hh s.A 1=0
       ·cases b
        ·by_cases gy:12<d<;>simp [ha,gy]
        ·by_cases hb:hh s.B 1=0<;>by_cases gy:12<d<;>simp [ha,hb,gy]
       ·simp [ha]
  ·simp
def amS(s:Stmt):((decide (s.Op=6)&&(decide (s.Max<1)||decide (16<s.Max)))||(decide (s.Op=8)&&(decide (s.Max<0)||decide (999<s.Max)))) = !rA s:=by
 unfold rA;by_cases cd:s.Op=6
 ·simp only [cd,arW,arH,Bool.true_and,show¬ (6:Int)=8 by omega,arI,Bool.false_and,Bool.or_false]
  by_cases Z:s.Max<1
  ·simp only [Z,show¬ 1≤s.Max by omega,arH,arI,Bool.true_or,Bool.false_and,arM]
  ·by_cases ab:16<s.Max
   ·simp only [Z,ab,show¬ s.Max≤16 by omega,arH,arI,arV,Bool.and_false,arM]
   ·simp only [Z,ab,show s.Max≤16 by omega,show 1≤s.Max by omega,arH,arI,Bool.or_self,Bool.and_self,arL]
 ·by_cases ek:s.Op=8
  ·simp only [ek,show¬ (8:Int)=6 by omega,arW,arX,arH,arI,Bool.true_and,Bool.false_and,Bool.false_or]
   by_cases Z:s.Max<0
   ·simp only [Z,show¬ 0≤s.Max by omega,arH,arI,Bool.true_or,Bool.false_and,arM]
   ·by_cases ab:999<s.Max
    ·simp only [Z,ab,show¬ s.Max≤999 by omega,arH,arI,arV,Bool.and_false,arM]
    ·simp only [Z,ab,show s.Max≤999 by omega,show 0≤s.Max by omega,arH,arI,Bool.or_self,Bool.and_self,arL]
  ·simp only [cd,ek,arX,arI,Bool.false_and,Bool.or_self,arL]
def amT(a y b z pre P Q:Bool)(G:Bool→ar3):
 (Option.bind (bif (!pre && !a)then some y else some default) λr2=>Option.bind (bif (!(pre||(!a && !r2)) && !b)then some z else some default) λr3=>G ((((pre||(!a && !r2))||(!b && !r3))||P)||Q))=G ((((pre||(!a && !y))||(!b && !z))||P)||Q):=by
 cases pre<;>cases a<;>cases y<;>cases b<;>cases z<;>rfl
def amU{n:Nat}(s:Stmt)(d:Int)(hn:25<n)(eW:cJ s.A≤n)(eR:cJ s.B≤n)(Uo:cJ s.A≤140737488351232)(qs:cJ s.B≤140737488351232)(aY:s.Name.length<n)(nd:s.Name.length≤140737488351232):Kj n s d=some (kH s d):=by
 unfold Kj Ki Kh kH;by_cases f9:1≤s.Op∧s.Op≤8
 ·have Up:(
   km s.Op).2=true:=by
   have:s.Op=1∨s.Op=2∨s.Op=3∨s.Op=4∨s.Op=5∨s.Op=6∨s.Op=7∨s.Op=8:=by omega
   rcases this with e|e|e|e|e|e|e|e<;>rw [e]<;>rfl
  simp only [amN n s.Op f9,an,gd,jC,abL,A0 s.Name aY hn (by omega),abJ s.A eW Uo,abJ s.B eR qs,Up,show¬ s.Op<1 by omega,show¬ 8<s.Op by omega,arI,arK,dV,dJ,Bool.or_self,Bool.false_or,amS,fF]
  generalize rA s=r
  unfold Bc;generalize (km s.Op).1=u
  generalize decide (s.Name=[])=r'
  generalize nc s.A=y
  generalize nc s.B=z
  generalize decide (s.Max=0)=w
  generalize decide (0<s.Body.length)=p
  generalize decide (0<s.bK.length)=q
  generalize g_ s.Name=x
  obtain⟨px,a,b,kt,ib,xJ⟩:=u;simp only
  have hm:((!px && !r')||(!a && !y)||(!b && !z)||(!kt && !w)||(!ib&&p)||(!xJ&&q))=((((((!px && !r')||(!kt && !w))||(!a && !y))||(!b && !z))||(!ib&&p))||(!xJ&&q)):=by
   generalize (!px && !r')=c1
   generalize (!kt && !w)=c2
   generalize (!a && !y)=c3
   generalize (!b && !z)=c4
   cases c1<;>cases c2<;>cases c3<;>cases c4<;>rfl
  rw [hm];clear hm;generalize ((!px && !r')||(!kt && !w))=pre
  generalize (!ib&&p)=c1
  generalize (!xJ&&q)=c2
  refine(amT a y b z pre c1 c2 (λc=>bif c then some 1 else bif !r then some 1 else Option.bind (bif px then some x else some default) λbr=>bif (px && !br)then some 7 else
   bif a then(bif !decide (hh s.A 1=0)then some (hh s.A 1)else bif b then(bif !decide (hh s.B 1=0)then some (hh s.B 1)else bif decide (12<d)then some 2 else some 0)else bif decide (12<d)then some 2 else some 0)
   else bif b then(bif !decide (hh s.B 1=0)then some (hh s.B 1)else bif decide (12<d)then some 2 else some 0)else bif decide (12<d)then some 2 else some 0)).trans ?_
  generalize ((((pre||(!a && !y))||(!b && !z))||c1)||c2)=m
  cases m
  ·cases r
   ·simp
   ·simp only [arL,arM,arJ,arK,an,Bool.true_and,Bool.and_true,Bool.true_eq_false,Bool.false_eq_true,or_self,arX];cases px
    ·simp only [arK,an,Bool.false_eq_true,false_and,arX,Bool.false_and];cases a
     ·simp only [arK,Bool.false_eq_true,false_and,arX];cases b
      ·by_cases gy:12<d<;>simp [gy]
      ·by_cases hb:hh s.B 1=0<;>by_cases gy:12<d<;>simp [hb,gy]
     ·by_cases ha:hh s.A 1=0
      ·cases b
       ·by_cases gy:12<d<;>simp [ha,gy]
       ·by_cases hb:hh s.B 1=0<;>by_cases gy:12<d<;>simp [ha,hb,gy]
      ·simp [ha]
    ·cases x
     ·simp
     ·simp only [arJ,an,arL,arK,Bool.true_eq_false,and_false,arX,Bool.and_false];cases a
      ·simp only [arK,Bool.false_eq_true,false_and,arX];cases b
       ·by_cases gy:12<d<;>simp [gy]
       ·by_cases hb:hh s.B 1=0<;>by_cases gy:12<d<;>simp [hb,gy]
      ·by_cases ha:hh s.A 1=0
       ·cases b
        ·by_cases gy:12<d<;>simp [ha,gy]
        ·by_cases hb:hh s.B 1=0<;>by_cases gy:12<d<;>simp [ha,hb,gy]
       ·simp [ha]
  ·simp
 ·have Up:(km s.Op).2=false:=by
   unfold km;rw [if_neg (by omega),if_neg (by omega),if_neg (by omega),if_neg (by omega),if_neg (by omega),if_neg (by omega)]
  have hb:(decide (s.Op<1)||decide (8<s.Op))=true:=by
   by_cases Z:s.Op<1
   ·rw [decide_eq_true Z];rfl
   ·rw [decide_eq_true (show 8<s.Op by omega)];simp
  simp only [amO n s.Op f9,an,Up,hb,dJ,dV,Bool.true_or,arL,Bool.false_and,arK,arJ,true_or,arW]
def u7(before:List Param):List Param→Int
 |[]=>0
 |x::l=>if g_ x.Name=false then 7 else if x.fS<1∨3<x.fS then 10 else if(before.any λy=>decide (y.Name=x.Name))=true then 8 else u7 (before++[x]) l
def amV(n:Nat)(s:List Param)(b:Param)(hs:s.length≤4611686018427387904):∀m i,s.length<i+m→i≤s.length→
 ∃r,y5 n s b m (i:Int)=some r∧(decide (0≤r)=(s.drop i).any λy=>decide (y.Name=b.Name)):=by
 intro m;induction m with
 |zero=>intro i h ab;omega
 |succ m aR=>
  intro i hm hi;simp only [y5,PA,Pz,Py];by_cases h:i<s.length
  ·obtain⟨r,Z,ab⟩:=aR (i+1) (by omega) (by omega)
   (rw [fz s i default h,bx (by omega)];simp only [arP];rw [Z])
   generalize s.getD i default=c
   simp only [h,cm h,arQ,arH,arJ,a6,an,List.any_cons];by_cases hc:c.Name=b.Name
   ·simp only [hc,arH,arJ,Bool.true_or];exact⟨_,rfl,decide_eq_true (by omega)⟩
   ·simp only [hc,arI,arK,Bool.false_or];exact⟨r,rfl,ab⟩
  ·rw [g' s i h];simp only [h,arQ,arI,arK];exact⟨-1,rfl,rfl⟩
def amW{n:Nat}(s:List Param)(b:Param)(hs:s.length≤4611686018427387904)(hn:s.length<n):H7 n s b=some (s.any λy=>decide (y.Name=b.Name)):=by
 unfold H7 PB;obtain⟨r,Z,ab⟩:=amV n s b hs n 0 (by omega) (by omega)
 rw [show y5 n s b n 0=_ from Z,an,ab,List.drop_zero]
def u9{α:Type}[Inhabited α](l:List α)(i:Nat)(h:i<l.length):l.take (i+1)=l.take i++[l.getD i default]:=by
 rw [List.take_add,fz l i default h,List.take_succ_cons,List.take_zero]
def Uq:∀(l:List Param) (i:Nat),i<l.length→(l.getD i default).Name.length<f5 l
 |[],i,h=>by simp at h
 |x::l,0,h=>by simp only [f5,List.getD_cons_zero];omega
 |x::l,i+1,h=>by have:=Uq l i (by simpa using h);simp only [f5,List.getD_cons_succ];omega
def amX(n:Nat)(l:List Param)(b5:f5 l<n)(qV:f5 l≤140737488351232):∀m i,l.length<i+m→i≤l.length→y6 n l m (i:Int)=some (u7 (l.take i) (l.drop i)):=by
 have hlen:=xI l;intro m;induction m with
 |zero=>intro i h ab;omega
 |succ m aR=>
  intro i hm hi;simp only [y6,PD,PC];by_cases h:i<l.length
  ·have hg:=Uq l i h
   (rw [fz l i default h,bx (by omega)];simp only [arP];rw [aR (i+1) (by omega) (by omega),u9 l i h])
   generalize l.getD i default=c at hg
   rw [A1 n c.Name (by omega),amW (l.take i) c (by simp;omega) (by simp;omega)]
   simp only [h,cm h,arQ,arH,arJ,a6,an,AX hi,dJ,u7];cases g_ c.Name
   ·simp
   ·by_cases aA:c.fS<1∨3<c.fS
    ·have:(decide (c.fS<1)||decide (3<c.fS))=true:=by rcases aA with aA|aA<;>rw [decide_eq_true aA]<;>simp
     simp [this,aA]
    ·have:(decide (c.fS<1)||decide (3<c.fS))=false:=by rw [decide_eq_false (λe=>aA (Or.inl e)),decide_eq_false (λe=>aA (Or.inr e))];rfl
     rw [this];simp only [arL,arK,Bool.true_eq_false,arX,aA];cases ((l.take i).any λy=>decide (y.Name=c.Name))<;>rfl
  ·rw [g' l i h];simp only [h,arQ,arI,arK];rfl
def amY(n:Nat)(am:Int→ar3)(l:List Param)(i:Nat)(h:i<l.length)(hs:l.length≤4611686018427387904):∀m k,i<k+m→k≤i→
 Ac n am l (i:Int) m (k:Int)=if(((l.take i).drop k).any λy=>decide (y.Name=(l.getD i default).Name))=true then some 8 else am ((i+1:Nat):Int):=by
 intro m;induction m with
 |zero=>intro k Z ab;omega
 |succ m aR=>
  intro k hm hk;simp only [Ac,R3,R2];by_cases Hq:k<i
  ·have e:(l.take i).drop k=l.getD k default::(l.take i).drop (k+1):=by
    rw [fz (l.take i) k default (by simp;omega)]
    congr 1
    simp [List.getD,Hq]
   (rw [e,bx (by omega),aR (k+1) (by omega) (by omega)];simp only [arP])
   generalize l.getD k default=c
   simp only [Hq,cm h,cm (show k<l.length by omega),arQ,arH,arJ,a6,List.any_cons]
   by_cases hc:c.Name=(l.getD i default).Name
   ·simp only [hc,arH,arJ,Bool.true_or,arW]
   ·simp only [hc,arI,arK,Bool.false_or]
  ·obtain rfl:k=i:=by omega
   rw [g' (l.take k) k (by simp;omega),bx (by omega)]
   simp only [arQ,Nat.lt_irrefl,arI,arK,List.any_nil,Bool.false_eq_true,arX]
def amZ(n:Nat)(l:List Param)(hn:25<n)(b5:f5 l<n)(qV:f5 l≤140737488351232):∀m i,l.length<i+m→i≤l.length→uE n l m (i:Int)=some (u7 (l.take i) (l.drop i)):=by
 have hlen:=xI l;intro m;induction m with
 |zero=>intro i h ab;omega
 |succ m aR=>
  intro i hm hi;simp only [uE,R4,R1];by_cases h:i<l.length
  ·have hg:=Uq l i h;have aN:=amY n (uE n l m) l i h (by omega) n 0 (by omega) (by omega)
   rw [show Ac n (uE n l m) l (i:Int) n 0=_ from aN,List.drop_zero]
   (rw [fz l i default h];simp only [arP];rw [aR (i+1) (by omega) (by omega),u9 l i h])
   generalize l.getD i default=c at hg
   rw [A0 c.Name (by omega) hn (by omega)]
   simp only [h,cm h,arQ,arH,arJ,a6,an,arV,dJ,u7];cases g_ c.Name
   ·simp
   ·by_cases aA:c.fS<1∨3<c.fS
    ·have:(decide (c.fS<1)||decide (3<c.fS))=true:=by rcases aA with aA|aA<;>rw [decide_eq_true aA]<;>simp
     simp [this,aA]
    ·have:(decide (c.fS<1)||decide (3<c.fS))=false:=by rw [decide_eq_false (λe=>aA (Or.inl e)),decide_eq_false (λe=>aA (Or.inr e))];rfl
     rw [this];simp only [arL,arK,Bool.true_eq_false,arX,aA];cases ((l.take i).any λy=>decide (y.Name=c.Name))<;>rfl
  ·rw [g' l i h];simp only [h,arQ,arI,arK];rfl
def qt(l:List Param):Int:=if 6<l.length then 2 else u7 [] l
def am0{n:Nat}(l:List Param)(b5:f5 l<n)(qV:f5 l≤140737488351232):H8 n l=some (qt l):=by
 have hlen:=xI l;unfold H8 qt;have:=amX n l b5 qV n 0 (by omega) (by omega)
 rw [show y6 n l n 0=_ from this]
 simp only [fF];by_cases h:6<l.length
 ·simp only [h,arH,arJ,arW]
 ·simp only [h,arI,arK,arX,List.take_zero,List.drop_zero]
def am1{n:Nat}(l:List Param)(hn:25<n)(b5:f5 l<n)(qV:f5 l≤140737488351232):Kc n l=some (qt l):=by
 have hlen:=xI l;unfold Kc qt;have:=amZ n l hn b5 qV n 0 (by omega) (by omega)
 rw [show uE n l n 0=_ from this]
 simp only [fF];by_cases h:6<l.length
 ·simp only [h,arH,arJ,arW]
 ·simp only [h,arI,arK,arX,List.take_zero,List.drop_zero]
mutual
def s_:Expr→Nat→Nat
 |⟨_,_,_,au⟩,k=>if k=0 then 0 else qu au (k-1)
def qu:List Expr→Nat→Nat
 |[],k=>k
 |x::l,k=>qu l (s_ x k)
end
def abM(e:Expr)(k:Nat):s_ e k=if k=0 then 0 else qu e.au (k-1):=by cases e;rfl
mutual
def FQ:∀(e:Expr) (k:Nat),s_ e k≤k
 |⟨_,_,_,au⟩,k=>by
  have:=Ur au (k-1)
  simp only [s_];split<;>omega
def Ur:∀(l:List Expr) (k:Nat),qu l k≤k
 |[],k=>Nat.le_refl _
 |x::l,k=>by
  have Z:=FQ x k;have ab:=Ur l (s_ x k);simp only [qu];omega
end
def kn(e:Expr)(k:Nat):Nat:=if k=0∨nc e=true then k else s_ e k
def Mf(e:Expr)(k:Nat):kn e k≤k:=by unfold kn;split;exact Nat.le_refl _;exact FQ e k
mutual
def qv:Stmt→Int→Nat×Int→Nat×Int
 |⟨Op,Name,Max,A,B,Body,bK⟩,d,r=>
  h8 bK (ar0 (d+1)) (h8 Body (ar0 (d+1)) (kn B (kn A (r.1-1)),if r.2=0 then kH ⟨Op,Name,Max,A,B,Body,bK⟩ d else r.2))
def h8:List Stmt→Int→Nat×Int→Nat×Int
 |[],d,r=>r
 |s::l,d,r=>if r.1=0 then r else h8 l d (qv s d r)
end
def abN(s:Stmt)(d:Int)(r:Nat×Int):qv s d r=h8 s.bK (ar0 (d+1)) (h8 s.Body (ar0 (d+1)) (kn s.B (kn s.A (r.1-1)),if r.2=0 then kH s d else r.2)):=by cases s;rfl
mutual
def am2:∀(s:Stmt) (d:Int) (r:Nat×Int),(qv s d r).1≤r.1
 |⟨Op,Name,Max,A,B,Body,bK⟩,d,r=>by
  have Z:=Mf A (r.1-1);have ab:=Mf B (kn A (r.1-1));have aq:=u' Body (ar0 (d+1)) (kn B (kn A (r.1-1)),if r.2=0 then kH ⟨Op,Name,Max,A,B,Body,bK⟩ d else r.2)
  have aN:=u' bK (ar0 (d+1)) (h8 Body (ar0 (d+1)) (kn B (kn A (r.1-1)),if r.2=0 then kH ⟨Op,Name,Max,A,B,Body,bK⟩ d else r.2))
  simp only [qv]at *;omega
def u':∀(l:List Stmt) (d:Int) (r:Nat×Int),(h8 l d r).1≤r.1
 |[],d,r=>Nat.le_refl _
 |s::l,d,r=>by
  have Z:=am2 s d r;have ab:=u' l d (qv s d r);simp only [h8];split
  ·exact Nat.le_refl _
  ·omega
end
def am3:∀(n:Nat) (e:Expr) (k:Nat) (b:Int),cJ e≤n→cJ e≤140737488351232→k≤1000→y' n e (k:Int) b=some ((s_ e k:Nat):Int):=by
 intro n;induction n with
 |zero=>intro e k b h;rw [qr]at h;omega
 |succ n aR=>
  intro e k b h ae hk;have uY:=qr e;have uZ:=FC e.au;simp only [y',PN,fA];rw [abM];by_cases h0:k=0
  ·rw [if_pos h0];simp only [h0,arH,arJ]
  ·rw [if_neg h0];simp only [h0,arI,arK]
   have hr:∀m i k,e.au.length<i+m→i≤e.au.length→k≤1000→CX n (y' n) e b m ((k:Nat):Int) (i:Int)=some ((qu (e.au.drop i) k:Nat):Int):=by
    intro m;induction m with
    |zero=>intro i k Z ab;omega
    |succ m jO=>
     intro i k Z ab hk;simp only [CX,PM];by_cases hi:i<e.au.length
     ·have hg:=FD e.au i hi;have hle:=FQ (e.au.getD i default) k
      (rw [fz e.au i default hi,bx (by omega)];simp only [arP];rw [aR _ k b (by omega) (by omega) hk])
      simp only [hi,cm hi,arQ,arH,arJ,a6,an,qu];exact jO (i+1) _ (by omega) (by omega) (by omega)
     ·rw [g' e.au i hi];simp only [hi,arQ,arI,arK,qu]
   rw [show ar0 ((k:Int)-1)=((k-1:Nat):Int)by rw [wr]<;>omega]
   exact hr n 0 (k-1) (by omega) (by omega) (by omega)
def abO{n:Nat}(e:Expr)(k:Nat)(b:Int)(h:cJ e≤n)(ae:cJ e≤140737488351232)(hk:k≤1000):CY n e (k:Int) b=some ((kn e k:Nat):Int):=by
 unfold CY kn PL;simp only [abK,fA,am3 n e k b h ae hk,an];by_cases h0:k=0
 ·simp [h0]
 ·cases nc e<;>simp [h0]
open Go Go.Ab Go.Proofs
def Mg:∀(l:List Stmt) (i:Nat),i<l.length→fst (l.getD i default)<dP l
 |[],i,h=>by simp at h
 |x::l,0,h=>by simp only [dP,List.getD_cons_zero];omega
 |x::l,i+1,h=>by have:=Mg l i (by simpa using h);simp only [dP,List.getD_cons_succ];omega
def abP{α β:Type}(x:α×β):(x.1,x.2)=x:=rfl
def am4:∀(n:Nat) (l:List Stmt) (d:Int) (k:Nat) (e:Int),dP l+2≤n→dP l≤140737488351232→k≤1000→
 wA n l d (k:Int) e=some ((((h8 l d (k,e)).1:Nat):Int),(h8 l d (k,e)).2):=by
 intro n;induction n with
 |zero=>intro l d k e h;omega
 |succ n aR=>
  intro l d k e h ae hk;have uZ:=xG l;simp only [wA,PP]
  have hr:∀m i k e,l.length<i+m→i≤l.length→k≤1000→CZ n (wA n) d l m ((k:Nat):Int) e (i:Int)=some ((((h8 (l.drop i) d (k,e)).1:Nat):Int),(h8 (l.drop i) d (k,e)).2):=by
   intro m;induction m with
   |zero=>intro i k e Z ab;omega
   |succ m jO=>
    intro i k e Z ab hk;simp only [CZ,PO,gd,jC];by_cases hi:i<l.length
    ·have hg:=Mg l i hi
     (rw [fz l i default hi];simp only [arP])
     generalize l.getD i default=s at hg
     have nl:=fst_eq s;rw [bx (by omega)]
     simp only [hi,cm hi,arQ,arH,arJ,a6,fA,h8];by_cases h0:k=0
     ·simp only [h0,arH,arJ,arW]
     ·simp only [h0,arI,arK,arX]
      have ax:Ih n s d e=some (if e=0 then kH s d else e):=by
       unfold Ih;simp only [gd,jC,amQ s d (show cJ s.A≤n by omega) (show cJ s.B≤n by omega) (by omega) (by omega) (by omega),an]
       by_cases he:e=0
       ·simp only [he,arH,arJ,arW]
       ·simp only [he,arI,arK,arX]
      rw [ax,an,show ar0 ((k:Int)-1)=((k-1:Nat):Int)by rw [wr]<;>omega]
      have fc:=Mf s.A (k-1);have eY:=Mf s.B (kn s.A (k-1));rw [abO s.A (k-1) _ (by omega) (by omega) (by omega),an,abO s.B _ _ (by omega) (by omega) (by omega),an]
      have B9:=u' s.Body (ar0 (d+1)) (kn s.B (kn s.A (k-1)),if e=0 then kH s d else e)
      rw [aR s.Body _ _ _ (by omega) (by omega) (by omega),an]
      simp only [abP]at B9 ⊢;have arx:=u' s.bK (ar0 (d+1)) (h8 s.Body (ar0 (d+1)) (kn s.B (kn s.A (k-1)),if e=0 then kH s d else e))
      rw [aR s.bK _ _ _ (by omega) (by omega) (by omega),an]
      simp only [abP];rw [jO (i+1) _ _ (by omega) (by omega) (by omega),abN]
    ·rw [g' l i hi];simp only [hi,arQ,arI,arK,h8]
  exact hr n 0 k e (by omega) (by omega) hk
open Go Go.Ab Go.Proofs
abbrev lB:=cy
def iE:Int→List lB→Int
 |e,[]=>e
 |e,v::l=>iE (if e=0∧v.qb=true then kH v.Stmt v.CK else e) l
def abQ:∀(l m:List lB) (e:Int),iE e (l++m)=iE (iE e l) m
 |[],m,e=>rfl
 |v::l,m,e=>by rw [List.cons_append,iE,iE,abQ l m]
def Us:∀(l:List lB) (e:Int),(∀v,v∈l→v.qb=false)→iE e l=e
 |[],e,h=>rfl
 |v::l,e,h=>by
  rw [iE,h v (List.mem_cons_self),Us l _ λw hw=>h w (List.mem_cons_of_mem _ hw)]
  simp
def abR{k:Nat}(h:k≤100000):room k 272=true:=by simp [room];omega
def am5:∀(n:Nat) (e:Expr) (out:List lB) (root:Bool),cJ e≤n→cJ e≤140737488351232→out.length≤401→
 ∃ext,sQ n out e root=some (out++ext)∧(out++ext).length≤401∧401-(out++ext).length=s_ e (401-out.length)∧∀v,v∈ext→v.qb=false:=by
 intro n;induction n with
 |zero=>intro e out root h;rw [qr]at h;omega
 |succ n aR=>
  intro e out root h ae aw;have uY:=qr e;have uZ:=FC e.au;simp only [sQ,RV,fF];rw [abM];by_cases h0:400<out.length
  ·simp only [h0,arH,arJ];rw [if_pos (by omega)]
   exact⟨[],by simp,by simpa using aw,by simp;omega,λv ax=>by cases ax⟩
  ·simp only [h0,arI,arK,arN,arO,abR (show out.length+(0+1)≤100000 by omega),a6]
   rw [if_neg (by omega)]
   have hr:∀m i (out:List lB),e.au.length<i+m→i≤e.au.length→out.length≤401→
    ∃ext,Eg n (sQ n) e m out (i:Int)=some (out++ext)∧(out++ext).length≤401∧401-(out++ext).length=qu (e.au.drop i) (401-out.length)∧∀v,v∈ext→v.qb=false:=by
    intro m;induction m with
    |zero=>intro i out Z ab;omega
    |succ m jO=>
     intro i out Z ab aw;simp only [Eg,RU,RT];by_cases hi:i<e.au.length
     ·have hg:=FD e.au i hi
      (rw [fz e.au i default hi];simp only [arP])
      generalize e.au.getD i default=a at hg
      rw [bx (by omega)]
      simp only [hi,cm hi,arQ,arH,arJ,a6,lA,qu];by_cases FR:out.length≤400
      ·simp only [FR,arH,arJ];obtain⟨dk,e1,e2,e3,gg⟩:=aR a out false (by omega) (by omega) aw
       obtain⟨ec,f1,f2,f3,f4⟩:=jO (i+1) (out++dk) (by omega) (by omega) e2
       rw [e1,an,f1];refine⟨dk++ec,by rw [List.append_assoc],by rw [←List.append_assoc];exact f2,by rw [←List.append_assoc,f3,e3],λv ax=>?_⟩
       rcases List.mem_append.1 ax with ax|ax
       ·exact gg v ax
       ·exact f4 v ax
      ·simp only [FR,arI,arK];have cX:401-out.length=0:=by omega
       have abF:=FQ a 0;have HF:=Ur (e.au.drop (i+1)) (s_ a 0);exact⟨[],by simp,by simpa using aw,by rw [cX];simp;omega,λv ax=>by cases ax⟩
     ·rw [g' e.au i hi];simp only [hi,arQ,arI,arK,qu];exact⟨[],by simp,by simpa using aw,by simp,λv ax=>by cases ax⟩
   obtain⟨x,e1,e2,e3,gg⟩:=hr n 0 (out++[⟨false,⟨0,[],0,⟨0,0,[],[]⟩,⟨0,0,[],[]⟩,[],[]⟩,0,e,root⟩]) (by omega) (by omega) (by simp;omega)
   refine⟨⟨false,⟨0,[],0,⟨0,0,[],[]⟩,⟨0,0,[],[]⟩,[],[]⟩,0,e,root⟩::x,?_,?_,?_,?_⟩
   ·exact e1.trans (by simp)
   ·simpa using e2
   ·have:401-(out++[(⟨false,⟨0,[],0,⟨0,0,[],[]⟩,⟨0,0,[],[]⟩,[],[]⟩,0,e,root⟩:lB)]).length=401-out.length-1:=by simp;omega
    rw [this,List.drop_zero]at e3;simpa using e3
   ·intro v ax;rcases List.mem_cons.1 ax with rfl|ax
    ·rfl
    ·exact gg v ax
open Go Go.Ab Go.Proofs
def abS{α:Type}{n:Nat}(e:Expr)(out:List lB)(G:List lB→Option α)(h:cJ e≤n)(ae:cJ e≤140737488351232)(aw:out.length≤401):
 ∃ext,(Option.bind (sP n e) λr=>bif !r then Option.bind (sQ n out e true) G else G out)=G (out++ext)∧(out++ext).length≤401∧401-(out++ext).length=kn e (401-out.length)∧∀v,v∈ext→v.qb=false:=by
 rw [abL,an];unfold kn;cases mZ:nc e
 ·obtain⟨x,e1,e2,e3,gg⟩:=am5 n e out true h ae aw;refine⟨x,?_,e2,?_,gg⟩
  ·rw [e1];rfl
  ·rw [e3];by_cases h0:401-out.length=0
   ·rw [if_pos (Or.inl h0),h0];have:=FQ e 0
    omega
   ·rw [if_neg (by simp [h0])]
 ·refine⟨[],by simp,by simpa using aw,?_,λv ax=>by cases ax⟩
  rw [if_pos (Or.inr rfl)];simp
def am6:∀(n:Nat) (l:List Stmt) (d:Int) (out:List lB) (e:Int),dP l+2≤n→dP l≤140737488351232→out.length≤401→
 ∃ext,m7 n out l d=some (out++ext)∧(out++ext).length≤401∧(401-(out++ext).length,iE e ext)=h8 l d (401-out.length,e)∧∀v,v∈ext→v.qb=true→fst v.Stmt<dP l:=by
 intro n;induction n with
 |zero=>intro l d out e h;omega
 |succ n aR=>
  intro l d out e h ae aw;have uZ:=xG l;simp only [m7,RZ]
  have hr:∀m i (out:List lB) (e:Int),l.length<i+m→i≤l.length→out.length≤401→
   ∃ext,uD n (m7 n) l d m out (i:Int)=some (out++ext)∧(out++ext).length≤401∧(401-(out++ext).length,iE e ext)=h8 (l.drop i) d (401-out.length,e)∧∀v,v∈ext→v.qb=true→fst v.Stmt<dP l:=by
   intro m;induction m with
   |zero=>intro i out e Z ab;omega
   |succ m jO=>
    intro i out e Z ab aw;simp only [uD,RY,RW,Kb,Ka,RX,gd,jC];by_cases hi:i<l.length
    ·have hg:=Mg l i hi
     (rw [fz l i default hi];simp only [arP])
     generalize l.getD i default=s at hg
     have nl:=fst_eq s;rw [bx (by omega)]
     simp only [hi,cm hi,arQ,arH,arJ,a6,lA,h8];by_cases FR:out.length≤400
     ·rw [if_neg (by omega)]
      simp only [FR,arH,arJ,arN,arO,abR (show out.length+(0+1)≤100000 by omega),a6]
      obtain⟨dk,aW,a2,a3,a4⟩:=abS (n:=n) s.A (out++[(⟨true,s,d,⟨0,0,[],[]⟩,false⟩:lB)]) (λv28=>Option.bind (sP n s.B) λhJ=>bif !hJ then Option.bind (sQ n v28 s.B true) λkZ=>
       Option.bind (m7 n kZ s.Body (ar0 (d+1))) λlx=>Option.bind (m7 n lx s.bK (ar0 (d+1))) λoz=>uD n (m7 n) l d m oz ((i+1:Nat):Int)
       else Option.bind (m7 n v28 s.Body (ar0 (d+1))) λlx=>Option.bind (m7 n lx s.bK (ar0 (d+1))) λoz=>uD n (m7 n) l d m oz ((i+1:Nat):Int)) (by omega) (by omega) (by simp;omega)
      rw [aW];obtain⟨ec,df,hG,nS,u_⟩:=abS (n:=n) s.B (out++[(⟨true,s,d,⟨0,0,[],[]⟩,false⟩:lB)]++dk) (λv=>Option.bind (m7 n v s.Body (ar0 (d+1))) λlx=>Option.bind (m7 n lx s.bK (ar0 (d+1))) λoz=>uD n (m7 n) l d m oz ((i+1:Nat):Int)) (by omega) (by omega) a2
      rw [df];obtain⟨il,c1,c2,c3,c4⟩:=aR s.Body (ar0 (d+1)) _ (if e=0 then kH s d else e) (by omega) (by omega) hG
      rw [c1,an];obtain⟨fu,d1,d2,d3,d4⟩:=aR s.bK (ar0 (d+1)) _ (iE (if e=0 then kH s d else e) il) (by omega) (by omega) c2
      rw [d1,an];obtain⟨kf,f1,f2,f3,f4⟩:=jO (i+1) _ (iE (iE (if e=0 then kH s d else e) il) fu) (by omega) (by omega) d2
      rw [f1];have XJ:401-(out++[(⟨true,s,d,⟨0,0,[],[]⟩,false⟩:lB)]).length=401-out.length-1:=by simp;omega
      refine⟨(⟨true,s,d,⟨0,0,[],[]⟩,false⟩:lB)::(dk++(ec++(il++(fu++kf)))),?_,?_,?_,?_⟩
      ·simp
      ·simpa using f2
      ·have e1:iE e ((⟨true,s,d,⟨0,0,[],[]⟩,false⟩:lB)::(dk++(ec++(il++(fu++kf)))))=iE (iE (iE (if e=0 then kH s d else e) il) fu) kf:=by
        simp only [iE,and_true,abQ];rw [Us dk _ a4,Us ec _ u_]
       have e2:(out++(⟨true,s,d,⟨0,0,[],[]⟩,false⟩:lB)::(dk++(ec++(il++(fu++kf))))).length=(out++[(⟨true,s,d,⟨0,0,[],[]⟩,false⟩:lB)]++dk++ec++il++fu++kf).length:=by simp
       rw [e1,e2,f3]
       congr 1
       rw [abN];simp only
       rw [d3,c3,nS,a3,XJ]
      ·intro v ax dC;simp only [List.mem_cons,List.mem_append]at ax;rcases ax with rfl|ax|ax|ax|ax|ax
       ·exact hg
       ·rw [a4 v ax]at dC;cases dC
       ·rw [u_ v ax]at dC;cases dC
       ·have:=c4 v ax dC;omega
       ·have:=d4 v ax dC;omega
       ·exact f4 v ax dC
     ·rw [if_pos (by omega)]
      simp only [FR,arI,arK];exact⟨[],by simp,by simpa using aw,by simp [iE],λv ax=>by cases ax⟩
    ·rw [g' l i hi];simp only [hi,arQ,arI,arK,h8];exact⟨[],by simp,by simpa using aw,by simp [iE],λv ax=>by cases ax⟩
  exact hr n 0 out e (by omega) (by omega) aw
open Go Go.Ab Go.Proofs
def nT(p:a_):Int:=
 if g_ p.Name=false then 7 else if qt p.Params≠0 then qt p.Params
 else if(h8 p.Body 1 (401,0)).2=0∧(h8 p.Body 1 (401,0)).1=0 then 2 else(h8 p.Body 1 (401,0)).2
def Mh{n:Nat}(p:a_)(aY:p.Name.length≤140737488351232)(lR:f5 p.Params<n)(Mi:f5 p.Params≤140737488351232)(eR:dP p.Body+2≤n)(qs:dP p.Body≤140737488351232):C0 n p=some (nT p):=by
 unfold C0 PQ nT;rw [A1 n p.Name aY,am0 p.Params lR Mi];simp only [an];cases g_ p.Name
 ·rfl
 ·simp only [arL,arK,Bool.true_eq_false,arX];by_cases h:qt p.Params=0
  ·simp only [h,arH,arL,arK,ne_eq,not_true,arX];have:=am4 n p.Body 1 401 0 eR qs (by omega)
   rw [show wA n p.Body 1 401 0=_ from this]
   have hle:=u' p.Body 1 (401,0);simp only at hle
   generalize h8 p.Body 1 (401,0)=r at hle
   obtain⟨k,e⟩:=r;simp only [an];simp only at hle
   rw [show ar0 (401-((k:Nat):Int))=401-((k:Nat):Int)by rw [wr]<;>omega]
   by_cases he:e=0
   ·by_cases hk:k=0
    ·subst hk;subst he;rfl
    ·simp only [he,hk,arH,arJ,and_false,arX,show¬ (400:Int)<401-((k:Nat):Int)by omega,arI,arK]
   ·simp only [he,arI,arK,false_and,arX]
  ·simp only [h,arI,arM,arJ,ne_eq,not_false_iff,arW]
def abT:∀(l:List lB) (e:Int),e≠0→iE e l=e
 |[],e,h=>rfl
 |v::l,e,h=>by rw [iE,if_neg (λx=>h x.1),abT l e h]
def am7(n:Nat)(l:List lB)(hn:25<n)(B:Nat)(eR:B≤n)(qs:B≤140737488351232)(ae:l.length≤401)(hs:∀v,v∈l→v.qb=true→fst v.Stmt<B):∀m i,l.length<i+m→i≤l.length→
 Ae n l m (i:Int)=some (if iE 0 (l.drop i)≠0 then iE 0 (l.drop i)else if 400<l.length then 2 else 0):=by
 intro m;induction m with
 |zero=>intro i h ab;omega
 |succ m aR=>
  intro i hm hi;simp only [Ae,Sb,Sa,Kk];by_cases h:i<l.length
  ·have ax:l.getD i default∈l:=by
    have e:l.getD i default=l[i]:=by simp [List.getD,h]
    rw [e];exact List.getElem_mem h
   have dC:=hs _ ax
   (rw [fz l i default h,bx (by omega)];simp only [arP];rw [aR (i+1) (by omega) (by omega)])
   generalize l.getD i default=v at dC
   simp only [h,cm h,arQ,arH,arJ,a6,iE];cases ao:v.qb
   ·simp only [arK,Bool.false_eq_true,and_false,arX]
   ·have b5:=dC ao;have uY:=fst_eq v.Stmt;rw [amU v.Stmt v.CK hn (by omega) (by omega) (by omega) (by omega) (by omega) (by omega)]
    simp only [arJ,an,and_self,arW];by_cases he:kH v.Stmt v.CK=0
    ·simp only [he,arH,arL,arK]
    ·simp only [he,arI,arM,arJ];rw [abT _ _ he,if_pos he]
  ·rw [g' l i h];simp only [h,arQ,arI,arK,iE,fF,ne_eq,not_true,arX];by_cases aN:400<l.length
   ·simp only [aN,arH,arJ,arW]
   ·simp only [aN,arI,arK,arX]
def Ut{n:Nat}(p:a_)(hn:500<n)(aY:p.Name.length<n)(nd:p.Name.length≤140737488351232)(lR:f5 p.Params<n)(Mi:f5 p.Params≤140737488351232)(eR:dP p.Body+2≤n)(qs:dP p.Body≤140737488351232):Em n p=some (nT p):=by
 unfold Em R0 nT;rw [A0 p.Name aY (by omega) (by omega),am1 p.Params (by omega) lR Mi]
 simp only [an];cases g_ p.Name
 ·rfl
 ·simp only [arL,arK,Bool.true_eq_false,arX];by_cases h:qt p.Params=0
  ·simp only [h,arH,arL,arK,ne_eq,not_true,arX];obtain⟨ext,e1,e2,e3,gg⟩:=am6 n p.Body 1 [] 0 eR qs (by simp)
   rw [List.nil_append]at e1 e2 e3;rw [e1];simp only [an];have:=am7 n ext (by omega) (dP p.Body) (by omega) qs e2 gg n 0 (by omega) (by omega)
   rw [show Ae n ext n 0=_ from this,List.drop_zero,arO]at *
   rw [show 401-0=401 from rfl]at e3
   rw [←e3];simp only
   by_cases he:iE 0 ext=0
   ·simp only [he,ne_eq,not_true,arX,true_and];by_cases aN:400<ext.length
    ·rw [if_pos aN,if_pos (by omega)]
    ·rw [if_neg aN,if_neg (by omega)]
   ·rw [if_pos he,if_neg (λx=>he x.1)]
  ·simp only [h,arI,arM,arJ,ne_eq,not_false_iff,arW]
def am8:∀(n:Nat) (l:List Stmt),dP l+2≤n→dP l≤140737488351232→zM n l l=some true:=by
 intro n;induction n with
 |zero=>intro l h;omega
 |succ n aR=>
  intro l h ae;have uZ:=xG l;simp only [zM,Rj,arH,arL,arK]
  have hr:∀m i,l.length<i+m→i≤l.length→D2 n (zM n) l l m (i:Int)=some true:=by
   intro m;induction m with
   |zero=>intro i Z ab;omega
   |succ m jO=>
    intro i Z ab;simp only [D2,Ri,Rh,gd,jC];by_cases hi:i<l.length
    ·have hg:=Mg l i hi
     (rw [bx (by omega),jO (i+1) (by omega) (by omega)];simp only [arP])
     generalize l.getD i default=s at hg
     have nl:=fst_eq s;simp only [hi,cm hi,arQ,arH,arL,arJ,arK,a6,aaY n s.A (by omega) (by omega),aaY n s.B (by omega) (by omega),aR s.Body (by omega) (by omega),aR s.bK (by omega) (by omega),an]
     rfl
    ·simp only [hi,arQ,arI,arK]
  exact hr n 0 (by omega) (by omega)
def am9{n:Nat}(p:a_)(lR:p.Params.length<n)(Mi:p.Params.length≤140737488351232)(eR:dP p.Body+2≤n)(qs:dP p.Body≤140737488351232):JC n p p=some true:=by
 unfold JC;simp only [arH,arL,arK]
 have hr:∀m i,p.Params.length<i+m→i≤p.Params.length→D3 n p p m (i:Int)=some true:=by
  intro m;induction m with
  |zero=>intro i Z ab;omega
  |succ m jO=>
   intro i Z ab;simp only [D3,Rl,Rk];by_cases hi:i<p.Params.length
   ·rw [bx (by omega),jO (i+1) (by omega) (by omega)]
    simp only [hi,cm hi,arQ,arH,Bool.and_self,arL,arJ,arK,a6]
   ·simp only [hi,arQ,arI,arK,am8 n p.Body eR qs,an]
 exact hr n 0 (by omega) (by omega)
open Go Go.Ab Go.Proofs
def Mj(p:a_):(⟨p.Name,p.Params,p.Body⟩:a_)=p:=rfl
def am'{n:Nat}(src:arY)(hs:src.length≤2000∨16384<src.length)(hn:3000000≤n):
 ∃r,zI n src=some r∧EX n src=some r∧s9 r.1≤250000:=by
 have Mk:s9 (⟨[],[],[]⟩:a_)≤250000:=by simp [s9,f5,dP]
 obtain⟨⟨l,nb,e⟩,t1,t2,t3⟩:=abe (λt=>t.Kind=5→t.Text∈marks) (λs nb Z ab=>T0 s nb Z ab) (n:=n) src (by omega) (by omega)
 unfold zI DZ EX;rw [t1,t2];simp only [an];by_cases he:e=0
 ·obtain⟨Z,ab,aq⟩:=t3 he;simp only at Z aq
  subst he;have hg:kF l:=aq;have hlen:=mJ l;have oJ:l.length≤2100:=by omega
  have qT:eM l l.length=hf l:=by unfold eM;rw [List.take_length]
  have b3:=abD (l:=l) (by omega) hg (i:=0) (n1:=n) (n2:=n) (by omega) (by omega) (by omega)
  simp only [arH,arL,arK];unfold Jx;rcases b3 with⟨a,k,e1,e2,kG,fe,jB⟩|⟨k,c,z,a,e1,e2,hc,hk⟩
  ·have e1:ro n ⟨l,0⟩=some (aC.ret a ((k:Nat):Int)):=e1;have e2:AD n l 0=some (a,((k:Nat):Int),0):=e2;have am_:=u4 l k l.length fe;rw [e1,e2];simp only [an,aC.on,arQ,Lb,arH,arJ];by_cases pc:k<l.length
   ·simp only [pc,arH,arJ,T1 n l k 5 (by omega),an,aC.on,L7,show¬ (5:Int)=0 by omega,arI,arM,abo n l k (by omega) fe]
    have:iD l k 5=5:=if_pos pc
    simp only [this,show¬ (5:Int)=0 by omega,arI,arK,qi,arM,arJ]
    exact⟨_,rfl,rfl,Mk⟩
   ·simp only [pc,arI,arK,an,arH,arL,arJ,Mj];have hw:s9 a≤125000:=by omega
    have Cy:a.Name.length+f5 a.Params+dP a.Body≤125000:=hw;rw [Mh (n:=n) a (by omega) (by omega) (by omega) (by omega) (by omega),Ut (n:=n) a (by omega) (by omega) (by omega) (by omega) (by omega) (by omega) (by omega)]
    simp only [an,qi];by_cases ai:nT a=0
    ·simp only [ai,arH,arL,arK,Mj];exact⟨_,rfl,rfl,by simp only;omega⟩
    ·simp only [ai,arI,arM,arJ];exact⟨_,rfl,rfl,Mk⟩
  ·have e1:ro n ⟨l,0⟩=some (aC.aK (mV l k c) z):=e1;have e2:AD n l 0=some (a,((k:Nat):Int),c):=e2;rw [e1,e2];simp only [an,aC.on,L7,Lb,hc,arI,arK,arM,arJ,abo n l k (by omega) hk,qi]
   exact⟨_,rfl,rfl,Mk⟩
 ·simp only [he,arI,arM,arJ,an,arK,qi];exact⟨_,rfl,rfl,Mk⟩
open Go Go.Ab Go.Proofs
def bZ(t:Token):Token:=⟨t.Kind,t.Text,t.N,0⟩
open Go Go.Ab Go.Proofs
def abU(u:Nat):Lib.decDigits u=if u<10 then[UInt8.ofNat (48+u)]else Lib.decDigits (u / 10)++[UInt8.ofNat (48+u % 10)]:=by
 rw [Lib.decDigits];split<;>rfl
def ana{w:arY}:gN w=w.length→w.all ih=true:=by
 induction w with
 |nil=>intro;rfl
 |cons c w aR=>
  intro h;rw [AZ]at h;cases hc:ih c
  ·rw [hc]at h;simp at h
  ·rw [hc]at h;simp only [arJ,arN]at h;rw [List.all_cons,hc,aR (by omega)];rfl
def abV{w:arY}(h:g_ w=true):∃c l,w=c::l∧oF c=true∧w.all ih=true∧uX w=false∧w.length≤16:=by
 cases w with
 |nil=>cases h
 |cons c l=>
  simp only [g_,Bool.and_eq_true,decide_eq_true_eq,Bool.not_eq_true']at h;obtain⟨⟨⟨Z,ab⟩,aq⟩,aN⟩:=h;exact⟨c,l,rfl,ab,ana (by simpa using aq),aN,by simp;omega⟩
def gn:arY→arY
 |[]=>[]
 |c::l=>if c.toNat=34∨c.toNat=92 then 92::c::gn l else c::gn l
def quo(s:arY):arY:=34::(gn s++[34])
def spell(t:Token):arY:=if t.Kind=3 then Lib.decDigits t.N.toNat else if t.Kind=4 then quo t.Text else t.Text
def mm(t:Token):Prop:=
 t.lp=0∧((t.Kind=1∧g_ t.Text=true∧t.N=0)∨(t.Kind=2∧t.Text∈uW∧t.N=0)∨(t.Kind=3∧t.Text=[]∧0≤t.N∧t.N≤9223372036854775807)∨
  (t.Kind=4∧i7 t.Text=true∧t.N=0)∨(t.Kind=5∧t.Text∈marks∧t.N=0))
open Go Go.Ab Go.Proofs
abbrev qw:=List (Option Token)
def flat:qw→arY
 |[]=>[]
 |some t::l=>spell t++flat l
 |none::l=>32::flat l
def k7:qw→List Token
 |[]=>[]
 |some t::l=>t::k7 l
 |none::l=>k7 l
def oL:∀l m:qw,flat (l++m)=flat l++flat m
 |[],m=>rfl
 |some t::l,m=>by simp only [List.cons_append,flat,oL l m,List.append_assoc]
 |none::l,m=>by simp only [List.cons_append,flat,oL l m]
def FSb:∀l m:qw,k7 (l++m)=k7 l++k7 m
 |[],m=>rfl
 |some t::l,m=>by simp only [List.cons_append,k7,FSb l m]
 |none::l,m=>by simp only [List.cons_append,k7,FSb l m]
def fg(w:arY):Token:=⟨2,w,0,0⟩
def cM(w:arY):Token:=⟨5,w,0,0⟩
def nU(w:arY):Token:=⟨1,w,0,0⟩
def xK(n:Int):Token:=⟨3,[],n,0⟩
def anb(w:arY):Token:=⟨4,w,0,0⟩
def dW(op:Int):Nat:=if op=17 then 1 else if op=16 then 2 else if op=18 then 3 else if 10≤op∧op≤15 then 4 else if op=19 then 5 else if op=4∨op=5 then 6 else if 6≤op∧op≤8 then 7 else if op=9 then 8 else 9
def mL(op:Int):Token:=
 if op=17 then fg [111,114]else if op=16 then fg [97,110,100]else if op=10 then cM [61,61]else if op=11 then cM [33,61]else if op=12 then cM [60]else if op=13 then cM [60,61]
 else if op=14 then cM [62]else if op=15 then cM [62,61]else if op=19 then cM [43,43]else if op=4 then cM [43]else if op=5 then cM [45]else if op=6 then cM [42]else if op=7 then cM [47]else cM [37]
def hN(op:Int):Token:=
 if op=20 then fg [116,101,120,116]else if op=21 then fg [108,101,110]else if op=22 then fg [103,101,116,105,110,116]else if op=23 then fg [103,101,116,115,116,114]else if op=24 then fg [104,97,115]
 else if op=25 then fg [110,111,119]else if op=26 then fg [114,97,110,100,111,109]else fg [110,111,100,101]
def im(op:Int)(p:qw)(least:Nat):qw:=if dW op<least then some (cM [40])::(p++[some (cM [41])])else p
def ta(Op N:Int)(S:arY)(L:List (Int×qw)):qw:=
 if Op=1 then[some (xK N)]else if Op=2 then[some (anb S)]else if Op=3 then[some (nU S)]
 else match L with
  |[]=>[some (hN Op),some (cM [40]),some (cM [41])]
  |[a]=>if Op=18 then some (fg [110,111,116])::none::im a.1 a.2 3 else if Op=9 then some (cM [45])::im a.1 a.2 8 else some (hN Op)::some (cM [40])::(a.2++[some (cM [41])])
  |a::b::_=>im a.1 a.2 (if dW Op=4 then 5 else dW Op)++none::some (mL Op)::none::im b.1 b.2 (dW Op+1)
mutual
def dc:Expr→qw
 |⟨Op,N,S,au⟩=>ta Op N S (rB au)
def rB:List Expr→List (Int×qw)
 |[]=>[]
 |x::l=>(x.Op,dc x)::rB l
end
def q6(op:Int)(n:Nat):Prop:=(1≤op∧op≤27)∧(n:Int)=jN op
mutual
def iJ:Expr→Prop
 |⟨Op,N,S,au⟩=>q6 Op au.length∧(Op=1→0≤N∧N≤9223372036854775807)∧(Op≠1→N=0)∧(Op≠2∧Op≠3→S=[])∧(Op=2→i7 S=true)∧(Op=3→g_ S=true)∧Ml au
def Ml:List Expr→Prop
 |[]=>True
 |x::l=>iJ x∧Ml l
end
mutual
def hW:Expr→Nat
 |⟨_,_,_,au⟩=>1+qx au
def qx:List Expr→Nat
 |[]=>0
 |x::l=>max (hW x) (qx l)
end
def Mm(e:Expr):iJ e↔q6 e.Op e.au.length∧(e.Op=1→0≤e.N∧e.N≤9223372036854775807)∧(e.Op≠1→e.N=0)∧(e.Op≠2∧e.Op≠3→e.S=[])∧(e.Op=2→i7 e.S=true)∧(e.Op=3→g_ e.S=true)∧Ml e.au:=by cases e;rfl
def FT(e:Expr):hW e=1+qx e.au:=by cases e;rfl
def abW{w:arY}(h:w∈uW):mm (fg w):=⟨rfl,Or.inr (Or.inl ⟨rfl,h,rfl⟩)⟩
def anc{c:Prop}[Decidable c]{a b:Token}(ha:mm a)(hb:mm b):mm (if c then a else b):=by
 by_cases h:c
 ·rw [if_pos h];exact ha
 ·rw [if_neg h];exact hb
def ane{c:Prop}[Decidable c]{a b:Token}{k:Int}(ha:a.Kind=k)(hb:b.Kind=k):(if c then a else b).Kind=k:=by
 by_cases h:c
 ·rw [if_pos h];exact ha
 ·rw [if_neg h];exact hb
def anf(op:Int):mm (hN op)∧(hN op).Kind=2:=by
 unfold hN;constructor
 ·repeat refine anc (abW (by decide)) ?_
  exact abW (by decide)
 ·repeat refine ane rfl ?_
  rfl
def ang{op:Int}(h:1≤op∧op≤27):jN op=0∧(op≤3∨25≤op)∨jN op=1∧(op=9∨op=18∨20≤op∧op≤24)∨jN op=2∧(4≤op∧op≤8∨10≤op∧op≤17∨op=19):=by
 obtain rfl|rfl|rfl|rfl|rfl|rfl|rfl|rfl|rfl|rfl|rfl|rfl|rfl|rfl|rfl|rfl|rfl|rfl|rfl|rfl|rfl|rfl|rfl|rfl|rfl|rfl|rfl:op=1∨op=2∨op=3∨op=4∨op=5∨op=6∨op=7∨op=8∨op=9∨op=10∨op=11∨op=12∨op=13∨op=14∨op=15∨op=16∨op=17∨op=18∨op=19∨op=20∨op=21∨op=22∨op=23∨op=24∨op=25∨op=26∨op=27:=by omega
 all_goals first|exact Or.inl ⟨rfl,by omega⟩|exact Or.inr (Or.inl ⟨rfl,by omega⟩)|exact Or.inr (Or.inr ⟨rfl,by omega⟩)
open Go Go.Ab Go.Proofs
def fY(l:List Token)(i:Nat)(T R:List Token):Prop:=(l.map bZ).drop i=T++R
def xL(R:List Token)(w:arY):Bool:=
 match R with
 |[]=>false
 |t::_=>(decide (t.Kind=2)||decide (t.Kind=5))&&decide (t.Text=w)
def anh(l:List Token)(i:Nat)(w:arY):bL l i w=xL ((l.map bZ).drop i) w:=by
 unfold bL;by_cases h:i<l.length
 ·rw [fz (l.map bZ) i default (by simpa using h)]
  have:(l.map bZ).getD i default=bZ (l.getD i default):=by simp [List.getD,h]
  rw [this];generalize l.getD i default=t
  simp only [xL,h,bZ,arH,Bool.true_and]
  congr
 ·rw [g' (l.map bZ) i (by simpa using h)]
  simp [xL,h]
def fY.is{l T R:List Token}{i:Nat}(h:fY l i T R)(w:arY):bL l i w=xL (T++R) w:=by rw [anh,h]
def fY.call{l T R:List Token}{i:Nat}(h:fY l i T R):lX l i=call2 (ik.find? λr=>xL (T++R) r.1):=by
 unfold lX
 congr 2
 funext r
 exact h.is r.1
def fY.lt{l T R:List Token}{t:Token}{i:Nat}(h:fY l i (t::T) R):i<l.length:=by
 by_cases hi:i<l.length
 ·exact hi
 ·unfold fY at h;rw [g' (l.map bZ) i (by simpa using hi)]at h
  cases h
def fY.hd{l T R:List Token}{t:Token}{i:Nat}(h:fY l i (t::T) R):bZ (l.getD i default)=t:=by
 have hi:=h.lt;unfold fY at h;rw [fz (l.map bZ) i default (by simpa using hi),List.cons_append]at h
 injection h with Z ab;rw [←Z];simp [List.getD,hi]
def fY.le{l T R:List Token}{i:Nat}(h:fY l i T R)(aL:T≠[]):i+T.length≤l.length:=by
 have:=congrArg List.length h
 simp only [List.length_drop,List.length_map,arR]at this;have:0<T.length:=List.length_pos_iff.2 aL
 omega
def ani(R:List Token):Int:=(xD (gc.find? λr=>xL R r.1)).1
def anj(op:Int)(R:List Token)(h:20≤op∧op≤27):call2 (ik.find? λr=>xL (hN op::R) r.1)=op:=by
 have:op=20∨op=21∨op=22∨op=23∨op=24∨op=25∨op=26∨op=27:=by omega
 rcases this with rfl|rfl|rfl|rfl|rfl|rfl|rfl|rfl<;>rfl
section
variable {l:List Token}
def kW(l:List Token)(i d b1:Nat)(e:Expr)(k B:Nat):Prop:=∀n,B≤n→fK n (b1:Int) (d:Int) ⟨l,(i:Int)⟩=some (.ret e (k:Int))
def Uu(l:List Token)(i d:Nat)(e:Expr)(k B:Nat):Prop:=∀n,B≤n→iR n (d:Int) ⟨l,(i:Int)⟩=some (.ret e (k:Int))
def Uv(l:List Token)(i d:Nat)(e:Expr)(k B:Nat):Prop:=∀n,B≤n→iz n (d:Int) ⟨l,(i:Int)⟩=some (.ret e (k:Int))
theorem kW.mono{i d b1:Nat}{e:Expr}{k B abX:Nat}(h:kW l i d b1 e k B)(eR:B≤abX):kW l i d b1 e k abX:=λn hn=>h n (by omega)
theorem Uv.of{i d:Nat}{e:Expr}{k B:Nat}(ae:l.length≤1000000000)(hi:bL l i [40]=true)(h:kW l (i+1) d 1 e k B)(hk:bL l k [41]=true):Uv l i d e (k+1) (B+1):=by
 intro n hn;obtain⟨n,rfl⟩:∃j,n=j+1:=⟨n-1,by omega⟩
 have Z:=gV hi;have ab:=gV hk;rw [T4];unfold uw;rw [nR n l i _ (by omega) (by omega),hi]
 simp only [an,arJ,aC.on];rw [show fK n 1 (d:Int) ⟨l,((i+1:Nat):Int)⟩=_ from h n (by omega)]
 simp only [an,aC.on];rw [nR n l k _ (by omega) (by omega),hk]
 rfl
theorem ank{n i d:Nat}(ae:l.length≤1000000000)(h:i<l.length):iR (n+1) (d:Int) ⟨l,(i:Int)⟩ =
 if(l.getD i default).Kind=3 then some (.ret ⟨1,(l.getD i default).N,[],[]⟩ ((i+1:Nat):Int))else if(l.getD i default).Kind=4 then some (.ret ⟨2,0,(l.getD i default).Text,[]⟩ ((i+1:Nat):Int))
 else if(l.getD i default).Kind=1 then some (.ret ⟨3,0,(l.getD i default).Text,[]⟩ ((i+1:Nat):Int))else sG n (fK n) (jx n) (iR n) (iz n) (d:Int) ⟨l,(i:Int)⟩ (i:Int):=by
 rw [abj];unfold w1
 (rw [bx (by omega)];simp only [arP];rw [L4 (by omega)])
 simp only [arQ,h,arH,arJ,cm h,a6];by_cases aq:(l.getD i default).Kind=3
 ·simp only [aq,arH,arJ,arW]
 ·by_cases aN:(l.getD i default).Kind=4
  ·simp only [aN,show¬ (4:Int)=3 by omega,arH,arI,arJ,arK,arW,arX]
  ·by_cases bn:(l.getD i default).Kind=1
   ·simp only [bn,show¬ (1:Int)=3 by omega,show¬ (1:Int)=4 by omega,arH,arI,arJ,arK,arW,arX]
   ·simp only [aq,aN,bn,arI,arK,arX]
theorem Uu.word{i d:Nat}{e:Expr}{k B:Nat}{op:Int}(f9:20≤op∧op≤24)(ae:l.length≤1000000000)(hg:kF l){T R:List Token}(eW:fY l i (hN op::T) R)(hd:d≤23)(h:Uv l (i+1) (d+1) e k B):Uu l i d ⟨op,0,[],[e]⟩ k (B+1):=by
 intro n hn;obtain⟨n,rfl⟩:∃j,n=j+1:=⟨n-1,by omega⟩
 have bO:=eW.lt;have bJ:=eW.hd;have hk:(l.getD i default).Kind=2:=by have:=congrArg Token.Kind bJ;exact this.trans (anf op).2
 rw [ank ae bO,hk,if_neg (by decide),if_neg (by decide),if_neg (by decide)]
 unfold sG mE DF;rw [T3 n l i hg,eW.call,List.cons_append,anj op _ (by omega),L2 n l i d (by omega) (by omega),if_neg (by omega)]
 simp only [an,show¬ op=0 by omega,show¬ op=25 by omega,show¬ op=26 by omega,show¬ op=27 by omega,arI,arK,aC.on]
 rw [bx (by omega),h n (by omega)]
 rfl
end
open Go Go.Ab Go.Proofs
def anl{l:List Expr}{n:Int}(h:(l.length:Int)=n)(ab:n=2):∃a b,l=[a,b]:=by
 match l,h with
 |[a,b],_=>exact⟨a,b,rfl⟩
 |[],h=>simp at h;omega
 |[a],h=>simp at h;omega
 |a::b::c::l,h=>simp at h;omega
def anm{l:List Expr}{n:Int}(h:(l.length:Int)=n)(ab:n=1):∃a,l=[a]:=by
 match l,h with
 |[a],_=>exact⟨a,rfl⟩
 |[],h=>simp at h;omega
 |a::b::l,h=>simp at h;omega
def ann{l:List Expr}{n:Int}(h:(l.length:Int)=n)(ab:n=0):l=[]:=by
 match l,h with
 |[],_=>rfl
 |a::l,h=>simp at h;omega
def Uw(e:Expr)(h:iJ e):
 (e.Op=1∧e=⟨1,e.N,[],[]⟩)∨(e.Op=2∧e=⟨2,0,e.S,[]⟩)∨(e.Op=3∧e=⟨3,0,e.S,[]⟩)∨((25≤e.Op∧e.Op≤27)∧e=⟨e.Op,0,[],[]⟩)∨
 (∃a,e=⟨e.Op,0,[],[a]⟩∧iJ a∧hW e=1+hW a∧(e.Op=9∨e.Op=18∨20≤e.Op∧e.Op≤24))∨
 (∃a b,e=⟨e.Op,0,[],[a,b]⟩∧iJ a∧iJ b∧hW e=1+max (hW a) (hW b)∧(4≤e.Op∧e.Op≤8∨10≤e.Op∧e.Op≤17∨e.Op=19)):=by
 obtain⟨Op,N,S,au⟩:=e;obtain⟨⟨Z,ab⟩,aq,aN,bn,cd,ep,ek⟩:=h;rcases ang Z with⟨ha,hb⟩|⟨ha,hb⟩|⟨ha,hb⟩
 ·obtain rfl:=ann ab ha;by_cases e1:Op=1
  ·subst e1;obtain rfl:=bn (by omega);exact Or.inl ⟨rfl,rfl⟩
  ·obtain rfl:=aN e1;by_cases e2:Op=2
   ·subst e2;exact Or.inr (Or.inl ⟨rfl,rfl⟩)
   ·by_cases e3:Op=3
    ·subst e3;exact Or.inr (Or.inr (Or.inl ⟨rfl,rfl⟩))
    ·obtain rfl:=bn ⟨e2,e3⟩;exact Or.inr (Or.inr (Or.inr (Or.inl ⟨⟨by simp only;omega,by simp only;omega⟩,rfl⟩)))
 ·obtain⟨a,rfl⟩:=anm ab ha;obtain rfl:=aN (by omega)
  obtain rfl:=bn (by omega)
  exact Or.inr (Or.inr (Or.inr (Or.inr (Or.inl ⟨a,rfl,ek.1,by simp [hW,qx],hb⟩))))
 ·obtain⟨a,b,rfl⟩:=anl ab ha;obtain rfl:=aN (by omega)
  obtain rfl:=bn (by omega)
  exact Or.inr (Or.inr (Or.inr (Or.inr (Or.inr ⟨a,b,rfl,ek.1,ek.2.1,by simp [hW,qx],hb⟩))))
def Mn{op:Int}{a b:Expr}(h:4≤op∧op≤8∨10≤op∧op≤17∨op=19):dc ⟨op,0,[],[a,b]⟩=im a.Op (dc a) (if dW op=4 then 5 else dW op)++none::some (mL op)::none::im b.Op (dc b) (dW op+1):=by
 simp only [dc,rB,ta];rw [if_neg (by omega),if_neg (by omega),if_neg (by omega)]
def ano{op:Int}{a b:Expr}(h:4≤op∧op≤8∨10≤op∧op≤17∨op=19):k7 (dc ⟨op,0,[],[a,b]⟩)=k7 (im a.Op (dc a) (if dW op=4 then 5 else dW op))++mL op::k7 (im b.Op (dc b) (dW op+1)):=by
 rw [Mn h,FSb];rfl
def abY{op:Int}(h:4≤op∧op≤8∨10≤op∧op≤17∨op=19):dW op=1∨dW op=2∨dW op=4∨dW op=5∨dW op=6∨dW op=7:=by
 have:op=4∨op=5∨op=6∨op=7∨op=8∨op=10∨op=11∨op=12∨op=13∨op=14∨op=15∨op=16∨op=17∨op=19:=by omega
 rcases this with rfl|rfl|rfl|rfl|rfl|rfl|rfl|rfl|rfl|rfl|rfl|rfl|rfl|rfl<;>decide
def anp(op:Int):1≤dW op∧dW op≤9:=by
 unfold dW;by_cases Z:op=17
 ·rw [if_pos Z];omega
 by_cases ab:op=16
 ·rw [if_neg Z,if_pos ab];omega
 by_cases aq:op=18
 ·rw [if_neg Z,if_neg ab,if_pos aq];omega
 by_cases aN:10≤op∧op≤15
 ·rw [if_neg Z,if_neg ab,if_neg aq,if_pos aN];omega
 by_cases bn:op=19
 ·rw [if_neg Z,if_neg ab,if_neg aq,if_neg aN,if_pos bn];omega
 by_cases cd:op=4∨op=5
 ·rw [if_neg Z,if_neg ab,if_neg aq,if_neg aN,if_neg bn,if_pos cd];omega
 by_cases ep:6≤op∧op≤8
 ·rw [if_neg Z,if_neg ab,if_neg aq,if_neg aN,if_neg bn,if_neg cd,if_pos ep];omega
 by_cases ek:op=9
 ·rw [if_neg Z,if_neg ab,if_neg aq,if_neg aN,if_neg bn,if_neg cd,if_neg ep,if_pos ek];omega
 rw [if_neg Z,if_neg ab,if_neg aq,if_neg aN,if_neg bn,if_neg cd,if_neg ep,if_neg ek];omega
section
variable {l:List Token}
abbrev jD(e:Expr)(b1:Nat):List Token:=k7 (im e.Op (dc e) b1)
end
open Go Go.Ab Go.Proofs
section
variable {l:List Token}
def f8(l:List Token)(e:Expr):Prop:=∀(i d:Nat) (R:List Token),fY l i (k7 (dc e)) R→ani R<(dW e.Op:Int)→d+2*hW e≤26→
 if dW e.Op=9 then Uu l i d e (i+(k7 (dc e)).length) (24*(k7 (dc e)).length+20)else kW l i d (dW e.Op) e (i+(k7 (dc e)).length) (24*(k7 (dc e)).length+40-2*dW e.Op)
end
open Go Go.Ab Go.Proofs
def hl{k:Nat}(h:k≤1000000000000):b' k=true:=TQ (by omega)
def Ux{k:Nat}(h:k≤1000000000000):room k 1=true:=by simp [room];omega
def Uy(n:Nat)(op:Int):C8 n op=some ((dW op:Nat):Int):=by
 by_cases h:1≤op∧op≤27
 ·obtain rfl|rfl|rfl|rfl|rfl|rfl|rfl|rfl|rfl|rfl|rfl|rfl|rfl|rfl|rfl|rfl|rfl|rfl|rfl|rfl|rfl|rfl|rfl|rfl|rfl|rfl|rfl:op=1∨op=2∨op=3∨op=4∨op=5∨op=6∨op=7∨op=8∨op=9∨op=10∨op=11∨op=12∨op=13∨op=14∨op=15∨op=16∨op=17∨op=18∨op=19∨op=20∨op=21∨op=22∨op=23∨op=24∨op=25∨op=26∨op=27:=by omega
  all_goals rfl
 ·have e:dW op=9:=by
   unfold dW;rw [if_neg (by omega),if_neg (by omega),if_neg (by omega),if_neg (by omega),if_neg (by omega),if_neg (by omega),if_neg (by omega),if_neg (by omega)]
  rw [e];simp only [C8,ui,Im,C7,P2,show¬ op=17 by omega,show¬ op=16 by omega,show¬ op=18 by omega,show¬ op=10 by omega,show¬ op=11 by omega,show¬ op=12 by omega,show¬ op=13 by omega,show¬ op=14 by omega,show¬ op=15 by omega,show¬ op=19 by omega,show¬ op=4 by omega,show¬ op=5 by omega,show¬ op=6 by omega,show¬ op=7 by omega,show¬ op=8 by omega,show¬ op=9 by omega,arI,arK]
  rfl
def abZ(n:Nat)(op:Int)(h:20≤op∧op≤27):Io n op=some (spell (hN op)):=by
 obtain rfl|rfl|rfl|rfl|rfl|rfl|rfl|rfl:op=20∨op=21∨op=22∨op=23∨op=24∨op=25∨op=26∨op=27:=by omega
 all_goals rfl
def ab0(n:Nat)(op:Int)(h:4≤op∧op≤8∨10≤op∧op≤17∨op=19):In n op=some (spell (mL op)):=by
 have:op=4∨op=5∨op=6∨op=7∨op=8∨op=10∨op=11∨op=12∨op=13∨op=14∨op=15∨op=16∨op=17∨op=19:=by omega
 rcases this with rfl|rfl|rfl|rfl|rfl|rfl|rfl|rfl|rfl|rfl|rfl|rfl|rfl|rfl<;>rfl
def ab1(n:Nat)(i:Int)(h0:0≤i)(Z:i≤9223372036854775807):wB n i=some (Lib.decDigits i.toNat):=by
 unfold wB HV;rw [decide_eq_true (show(10:Int)=10 ∧ -9223372036854775808≤i∧i≤9223372036854775807 from⟨rfl,by omega,Z⟩)]
 simp only [a6,an];unfold Lib.itoa;rw [if_neg (by omega)]
def Bd(i:Int)(h0:0≤i)(Z:i≤9223372036854775807):(Lib.decDigits i.toNat).length≤21:=by
 have:=Lib.itoa_length_le i (by omega) Z
 unfold Lib.itoa at this
 rwa [if_neg (by omega)]at this
def FU(n:Nat)(c:UInt8)(b:arY)(h:b.length≤100000000):rf n ((c.toNat:Nat):Int) (fU b)=some (fU (b++[c])):=by
 unfold rf C5;simp only [an,LX,arN,arO,Ux (show b.length+(0+1)≤1000000000000 by omega),a6,TP]
def anq(n:Nat)(s:arY)(hs:s.length≤4611686018427387904):∀m i,s.length<i+m→i≤s.length→C4 n s m (i:Int)=some ((s.drop i).all okB):=by
 intro m;induction m with
 |zero=>intro i h ab;omega
 |succ m aR=>
  intro i hm hi;simp only [C4,PX,PW];by_cases h:i<s.length
  ·rw [fz s i 0 h,bx (by omega),aR (i+1) (by omega) (by omega)]
   simp only [h,cm h,arP,arQ,arH,arJ,a6,arV,List.all_cons,pr,fF,dJ,AY];cases okB (s.getD i 0)<;>simp
  ·rw [g' s i h];simp [h]
def anr{n:Nat}(s:arY)(h:s.length<n)(hs:s.length≤4611686018427387904):PY n s=some (s.all okB):=by
 have:=anq n s hs n 0 (by omega) (by omega)
 rw [List.drop_zero]at this;exact this
def xM:∀s:arY,(gn s).length≤2*s.length
 |[]=>Nat.le_refl _
 |c::s=>by
  have:=xM s
  simp only [gn];split<;>simp only [arN]<;>omega
def Mo(s:arY)(c:UInt8):gn (s++[c])=gn s++gn [c]:=by
 induction s with
 |nil=>rfl
 |cons d s aR=>simp only [List.cons_append,gn,aR];split<;>rfl
def ans(n:Nat)(s:arY)(hs:s.length≤64):∀m i,s.length<i+m→i≤s.length→C6 n s m (fU (34::gn (s.take i))) (i:Int)=some (quo s,0):=by
 intro m;induction m with
 |zero=>intro i h ab;omega
 |succ m aR=>
  intro i hm hi;simp only [C6,P1,PZ,P0,Ik];have hlen:=xM (s.take i);have FF:(s.take i).length≤i:=by simp;omega
  by_cases h:i<s.length
  ·(rw [bx (by omega)];simp only [arP])
   have hn:=aR (i+1) (by omega) (by omega)
   have aA:s.take (i+1)=s.take i++[s.getD i 0]:=by
    rw [List.take_add,fz s i 0 h,List.take_succ_cons,List.take_zero]
   rw [aA,Mo]at hn;generalize s.getD i 0=c at hn
   simp only [h,cm h,arQ,arH,arJ,a6,arV,fA,dJ];by_cases hc:c.toNat=34∨c.toNat=92
   ·have hb:(decide (c.toNat=34)||decide (c.toNat=92))=true:=by rcases hc with hc|hc<;>rw [decide_eq_true hc]<;>simp
    have e1:=FU n 92 (34::gn (s.take i)) (by simp only [arN];omega)
    have e2:=FU n c (34::gn (s.take i)++[92]) (by simp only [arR,arN,arO];omega)
    rw [hb];simp only [arJ];rw [show rf n 92 _=_ from e1]
    simp only [an];rw [e2];simp only [an];rw [show(34::gn (s.take i)++[92]++[c])=34::(gn (s.take i)++gn [c])by simp only [gn];rw [if_pos hc];simp]
    exact hn
   ·have hb:(decide (c.toNat=34)||decide (c.toNat=92))=false:=by rw [decide_eq_false (λe=>hc (Or.inl e)),decide_eq_false (λe=>hc (Or.inr e))];rfl
    have e2:=FU n c (34::gn (s.take i)) (by simp only [arN];omega)
    rw [hb];simp only [arK];rw [e2];simp only [an];rw [show(34::gn (s.take i)++[c])=34::(gn (s.take i)++gn [c])by simp only [gn];rw [if_neg hc];simp]
    exact hn
  ·have Uz:i=s.length:=by omega
   subst Uz;simp only [arQ,Nat.lt_irrefl,arI,arK,List.take_length];have e1:=FU n 34 (34::gn s) (by have:=xM s;simp only [arN];omega)
   rw [show rf n 34 _=_ from e1]
   have ae:=xM s;have eY:(fU (34::gn s++[34])).length≤9223372036854775807:=by rw [LX];simp only [arR,arN,arO];omega
   simp only [an,wC,TO,TN,eY,arH,Bool.and_self,a6];rfl
def ant{n:Nat}(s:arY)(h:i7 s=true)(hn:100<n):Il n s=some (quo s,0):=by
 unfold i7 at h;simp only [Bool.and_eq_true,decide_eq_true_eq]at h;unfold Il;simp only [fF,show¬ 64<s.length by omega,arI,arK,anr s (show s.length<n by omega) (by omega),an,h.1,arL]
 have e1:=FU n 34 [] (by simp)
 rw [show rf n 34 []=_ from e1]
 exact ans n s (by omega) n 0 (by omega) (by omega)
def anu(s:arY):(quo s).length≤2*s.length+2:=by
 have:=xM s
 simp only [quo,arN,arR,arO];omega
def ab2{c:Prop}[Decidable c]{a b:Token}{k:Nat}(ha:(spell a).length≤k)(hb:(spell b).length≤k):(spell (if c then a else b)).length≤k:=by
 by_cases h:c
 ·rw [if_pos h];exact ha
 ·rw [if_neg h];exact hb
def UA(op:Int):(spell (mL op)).length≤3:=by
 unfold mL
 repeat refine ab2 (by decide) ?_
 decide
def Be(op:Int):(spell (hN op)).length≤6:=by
 unfold hN
 repeat refine ab2 (by decide) ?_
 decide
def py(op:Int)(p:qw)(k:Nat):(flat (im op p k)).length≤(flat p).length+2:=by
 unfold im;split
 ·simp only [flat,oL,spell,cM,arR,arN];simp;omega
 ·omega
def oM{w:arY}(h:g_ w=true):w.length≤16:=by
 obtain⟨c,l,_,_,_,_,bn⟩:=abV h;exact bn
def qW:∀(h:Nat) (e:Expr),hW e≤h→iJ e→(flat (dc e)).length≤4*cJ e:=by
 intro h;induction h with
 |zero=>intro e he;rw [FT]at he;omega
 |succ h aR=>
  intro e he ef;have nV:=(Mm e).1 ef;have uY:=qr e;rcases Uw e ef with⟨Z,ao⟩|⟨Z,ao⟩|⟨Z,ao⟩|⟨ai,ao⟩|⟨a,ao,ha,bJ,f9⟩|⟨a,b,ao,ha,hb,bJ,f9⟩
  ·have:=Bd e.N (nV.2.1 Z).1 (nV.2.1 Z).2
   have e2:flat (dc e)=Lib.decDigits e.N.toNat++[]:=by rw [ao];rfl
   rw [e2,List.append_nil];omega
  ·have:=anu e.S
   have e2:flat (dc e)=quo e.S++[]:=by rw [ao];rfl
   rw [e2,List.append_nil];omega
  ·have:=oM (nV.2.2.2.2.2.1 Z)
   have e2:flat (dc e)=e.S++[]:=by rw [ao];rfl
   rw [e2,List.append_nil];omega
  ·have:=Be e.Op
   generalize e.Op=op at ai ao this
   have e2:flat (dc e)=spell (hN op)++([40]++([41]++[])):=by
    rw [ao];simp only [dc,rB,ta];rw [if_neg (by omega),if_neg (by omega),if_neg (by omega)];rfl
   rw [e2];simp only [arR,arN,arO];omega
  ·have FV:=aR a (by omega) ha
   have FW:cJ e=30+(cJ a+1):=by rw [ao];simp [cJ,kl]
   have:=Be e.Op
   have aq:=py a.Op (dc a) 3;have ek:=py a.Op (dc a) 8;generalize e.Op=op at f9 ao this
   have e2:dc e=if op=18 then some (fg [110,111,116])::none::im a.Op (dc a) 3 else if op=9 then some (cM [45])::im a.Op (dc a) 8 else some (hN op)::some (cM [40])::(dc a++[some (cM [41])]):=by
    rw [ao];simp only [dc,rB,ta];rw [if_neg (by omega),if_neg (by omega),if_neg (by omega)]
   rw [e2];split
   ·simp only [flat,spell,fg,arR,arN];simp;omega
   ·split
    ·simp only [flat,spell,cM,arR,arN];simp;omega
    ·simp only [flat,oL,arR];have e3:(spell (cM [40])).length=1:=rfl;have gg:(spell (cM [41])).length=1:=rfl;simp only [arO];omega
  ·have FV:=aR a (by omega) ha
   have ab3:=aR b (by omega) hb
   have FW:cJ e=30+(cJ a+1+(cJ b+1)):=by rw [ao];simp [cJ,kl]
   have:=UA e.Op
   have aq:=py a.Op (dc a) (if dW e.Op=4 then 5 else dW e.Op)
   have ek:=py b.Op (dc b) (dW e.Op+1);generalize e.Op=op at f9 ao this aq ek
   have e2:dc e=im a.Op (dc a) (if dW op=4 then 5 else dW op)++none::some (mL op)::none::im b.Op (dc b) (dW op+1):=by rw [ao,Mn f9]
   rw [e2];simp only [oL,flat,arR,arN];omega
open Go Go.Ab Go.Proofs
def anv(n:Nat):md (n+1)=Ip n (md n) (wD n):=rfl
def anw(n:Nat):wD (n+1)=Iq n (md n) (wD n):=rfl
def FX{n:Nat}{e:Expr}{k:Nat}(h:md n e=some (flat (dc e)))(ae:(flat (dc e)).length≤100000000):wD (n+1) e (k:Int)=some (flat (im e.Op (dc e) k)):=by
 rw [anw];unfold Iq im;rw [Uy,h];simp only [an,arQ];by_cases hk:dW e.Op<k
 ·simp only [hk,arH,arJ,arW];rw [hl (by simp;omega),hl (by simp;omega)]
  simp only [a6,flat,oL,spell,cM];simp
 ·simp only [hk,arI,arK,arX]
def anx:∀(h:Nat) (e:Expr) (n:Nat),hW e≤h→iJ e→2*h+200≤n→cJ e≤1000000→md n e=some (flat (dc e)):=by
 intro h;induction h with
 |zero=>intro e n he;rw [FT]at he;omega
 |succ h aR=>
  intro e n he ef hn L6;obtain⟨n,rfl⟩:∃j,n=j+1:=⟨n-1,by omega⟩
  obtain⟨n,rfl⟩:∃j,n=j+1:=⟨n-1,by omega⟩
  have nV:=(Mm e).1 ef;have uY:=qr e;rw [anv];unfold Ip;rw [Uy];simp only [an];rcases Uw e ef with⟨Z,ao⟩|⟨Z,ao⟩|⟨Z,ao⟩|⟨ai,ao⟩|⟨a,ao,ha,bJ,f9⟩|⟨a,b,ao,ha,hb,bJ,f9⟩
  ·have e2:flat (dc e)=Lib.decDigits e.N.toNat++[]:=by rw [ao];rfl
   rw [ab1 _ e.N (nV.2.1 Z).1 (nV.2.1 Z).2,e2,List.append_nil];simp only [Z,arH,arJ,an]
  ·have e2:flat (dc e)=quo e.S++[]:=by rw [ao];rfl
   rw [ant e.S (nV.2.2.2.2.1 Z) (by omega),e2,List.append_nil]
   simp only [Z,show¬ (2:Int)=1 by omega,arH,arI,arJ,arK,an]
  ·have e2:flat (dc e)=e.S++[]:=by rw [ao];rfl
   rw [e2,List.append_nil];simp only [Z,show¬ (3:Int)=1 by omega,show¬ (3:Int)=2 by omega,arH,arI,arJ,arK]
  ·have hw:=Be e.Op;have UB:=abZ (n+1) e.Op (by omega)
   have hH:dW e.Op=9:=by
    have:e.Op=25∨e.Op=26∨e.Op=27:=by omega
    rcases this with h|h|h<;>rw [h]<;>decide
   have e7:e.au=[]:=by rw [ao]
   have e2:flat (dc e)=spell (hN e.Op)++([40]++([41]++[])):=by
    generalize e.Op=op at ai ao
    rw [ao];simp only [dc,rB,ta];rw [if_neg (by omega),if_neg (by omega),if_neg (by omega)];rfl
   rw [UB,e2];simp only [an];rw [hl (show(spell (hN e.Op)).length+([40,41]:arY).length≤1000000000000 by simp;omega)]
   simp only [hH,e7,show¬ e.Op=1 by omega,show¬ e.Op=2 by omega,show¬ e.Op=3 by omega,show¬ e.Op=18 by omega,show¬ e.Op=9 by omega,arI,arK,arO,fA,arH,arJ,a6]
   simp
  ·have FW:cJ e=30+(cJ a+1):=by rw [ao];simp [cJ,kl]
   have qy:=aR a n (by omega) ha (by omega) (by omega)
   have UC:=aR a (n+1) (by omega) ha (by omega) (by omega)
   have FV:=qW (hW a) a (Nat.le_refl _) ha;have e7:e.au=[a]:=by rw [ao]
   have aq:=py a.Op (dc a) 3;have ek:=py a.Op (dc a) 8
   have e2:dc e=if e.Op=18 then some (fg [110,111,116])::none::im a.Op (dc a) 3 else if e.Op=9 then some (cM [45])::im a.Op (dc a) 8 else some (hN e.Op)::some (cM [40])::(dc a++[some (cM [41])]):=by
    generalize e.Op=op at f9 ao
    rw [ao];simp only [dc,rB,ta];rw [if_neg (by omega),if_neg (by omega),if_neg (by omega)]
   rw [e2,e7];simp only [arN,arO,ml (show 0<0+1 by omega),a6,List.getD_cons_zero,show¬ e.Op=1 by omega,show¬ e.Op=2 by omega,show¬ e.Op=3 by omega,arI,arK]
   by_cases xN:e.Op=18
   ·have:=FX (k:=3) qy (by omega)
    rw [xN];simp only [arH,arJ,arW,show dW 18=3 from rfl]
    rw [this];simp only [an];rw [hl (by simp;omega)]
    rfl
   ·by_cases iG:e.Op=9
    ·have:=FX (k:=8) qy (by omega)
     rw [iG];simp only [show¬ (9:Int)=18 by omega,arH,arI,arJ,arK,arW,arX,show dW 9=8 from rfl]
     rw [this];simp only [an];rw [hl (by simp;omega)]
     rfl
    ·have anz:20≤e.Op∧e.Op≤24:=by omega
     have hH:dW e.Op=9:=by
      have:e.Op=20∨e.Op=21∨e.Op=22∨e.Op=23∨e.Op=24:=by omega
      rcases this with h|h|h|h|h<;>rw [h]<;>decide
     have hw:=Be e.Op;rw [abZ (n+1) e.Op (by omega),UC,if_neg xN,if_neg iG]
     have e3:flat (some (hN e.Op)::some (cM [40])::(dc a++[some (cM [41])]))=spell (hN e.Op)++([40]++(flat (dc a)++([41]++[]))):=by
      simp only [flat,oL];rfl
     rw [e3];generalize spell (hN e.Op)=W at hw
     simp only [xN,iG,hH,arI,arH,arK,arJ,an];rw [hl (show W.length+(0+1)≤1000000000000 by omega),hl (show(W++([40]:arY)).length+(flat (dc a)).length≤1000000000000 by simp;omega),hl (show((W++([40]:arY))++flat (dc a)).length+(0+1)≤1000000000000 by simp;omega)]
     simp only [show((0+1:Nat):Int)=1 from rfl,show¬ (1:Int)=0 by omega,show((9:Nat):Int)=9 from rfl,arH,arI,arJ,arK,a6]
     simp
  ·have FW:cJ e=30+(cJ a+1+(cJ b+1)):=by rw [ao];simp [cJ,kl]
   have qy:=aR a n (by omega) ha (by omega) (by omega)
   have UD:=aR b n (by omega) hb (by omega) (by omega)
   have FV:=qW (hW a) a (Nat.le_refl _) ha;have ab3:=qW (hW b) b (Nat.le_refl _) hb;have e7:e.au=[a,b]:=by rw [ao]
   have hH:=abY f9;have anA:=UA e.Op
   have e2:dc e=im a.Op (dc a) (if dW e.Op=4 then 5 else dW e.Op)++none::some (mL e.Op)::none::im b.Op (dc b) (dW e.Op+1):=by
    generalize e.Op=op at f9 ao
    rw [ao,Mn f9]
   have aq:=py a.Op (dc a) (if dW e.Op=4 then 5 else dW e.Op)
   have ek:=py b.Op (dc b) (dW e.Op+1);have xO:=FX (k:=dW e.Op+1) UD (by omega)
   rw [e2,e7,ab0 (n+1) e.Op f9];simp only [arN,arO,ml (show 0<0+1+1 by omega),a6,List.getD_cons_zero,List.getD_cons_succ,show¬ e.Op=1 by omega,show¬ e.Op=2 by omega,show¬ e.Op=3 by omega,show¬ e.Op=18 by omega,show¬ e.Op=9 by omega,arI,arK,fA,show¬ dW e.Op=9 by omega,show aM 1 (0+1+1)=true from rfl]
   by_cases aN:dW e.Op=4
   ·have r_:=FX (k:=5) qy (by omega)
    rw [aN]at xO ⊢;rw [if_pos rfl];rw [if_pos aN]at aq;simp only [arH,arJ];rw [show wD (n+1) a 5=_ from r_,show wD (n+1) b 5=_ from xO]
    simp only [an];rw [aN]at ek;rw [hl (by simp;omega),hl (by simp;omega),hl (by simp;omega),hl (by simp only [arR,arN,arO];omega)]
    simp only [a6,oL,flat];simp
   ·have r_:=FX (k:=dW e.Op) qy (by omega)
    rw [if_neg aN]at aq ⊢;simp only [aN,arI,arK];rw [r_,bx (by omega),xO]
    simp only [an];rw [hl (by simp;omega),hl (by simp;omega),hl (by simp;omega),hl (by simp only [arR,arN,arO];omega)]
    simp only [a6,oL,flat];simp
open Go Go.Ab Go.Proofs
mutual
def nW:Expr→Prop
 |⟨Op,N,S,au⟩=>N≤9223372036854775807∧S.length≤9223372036854775807∧au.length≤9223372036854775807∧Mp au
def Mp:List Expr→Prop
 |[]=>True
 |x::l=>nW x∧Mp l
end
def anB(e:Expr):nW e↔e.N≤9223372036854775807∧e.S.length≤9223372036854775807∧e.au.length≤9223372036854775807∧Mp e.au:=by cases e;rfl
def anC:∀(h:Nat) (e:Expr) (d:Nat),hW e≤h→nW e→hh e (d:Int)=0→d≤1000→iJ e∧d+hW e≤13:=by
 intro h;induction h with
 |zero=>intro e d he;rw [FT]at he;omega
 |succ h aR=>
  intro e d he hi ax hd;obtain⟨i1,i2,i3,i4⟩:=(anB e).1 hi;rw [abG]at ax
  have kx:ps e (d:Int)=0:=by
   by_cases h0:ps e (d:Int)=0
   ·exact h0
   ·rw [if_neg h0]at ax;exact absurd ax h0
  rw [if_pos kx]at ax;unfold ps at kx;split at kx
  ·omega
  rename_i g1;split at kx
  ·omega
  rename_i g2;split at kx
  ·omega
  rename_i g3;split at kx
  ·omega
  rename_i g4;simp only [not_or,not_and,Bool.not_eq_false]at g1 g2 g3;obtain⟨aW,a2,a3⟩:=g1;obtain⟨df,hG,nS⟩:=g3
  have f9:1≤e.Op∧e.Op≤27:=by
   unfold jN at aW;by_cases Z:e.Op<1
   ·simp [Z]at aW
   ·by_cases ab:27<e.Op
    ·simp [ab]at aW
    ·omega
  rw [show ar0 ((d:Int)+1)=((d+1:Nat):Int)by rw [wr]<;>omega]at ax
  have ae:∀l:List Expr,qx l≤h→Mp l→s' l ((d+1:Nat):Int)=0→Ml l∧(d+1+qx l≤13∨l=[]):=by
   intro l;induction l with
   |nil=>intro _ _ _;exact⟨trivial,Or.inr rfl⟩
   |cons x l anD=>
    intro bJ hin vW;simp only [qx]at bJ;simp only [s']at vW
    have hx:hh x ((d+1:Nat):Int)=0:=by
     by_cases h0:hh x ((d+1:Nat):Int)=0
     ·exact h0
     ·rw [if_neg h0]at vW;exact absurd vW h0
    rw [if_pos hx]at vW;obtain⟨fL,e4⟩:=aR x (d+1) (by omega) hin.1 hx (by omega)
    obtain⟨aD,bm⟩:=anD (by omega) hin.2 vW
    refine⟨⟨fL,aD⟩,Or.inl ?_⟩
    simp only [qx];rcases bm with bm|rfl
    ·omega
    ·simp only [qx];omega
  have ab4:=FT e;obtain⟨dM,am⟩:=ae e.au (by omega) i4 ax
  refine⟨(Mm e).2 ⟨⟨f9,?_⟩,λZ=>⟨by omega,i1⟩,λZ=>?_,λZ=>?_,λZ=>?_,λZ=>?_,dM⟩,?_⟩
  ·by_cases hc:(e.au.length:Int)=jN e.Op
   ·exact hc
   ·exact absurd hc nS
  ·by_cases hc:e.N=0
   ·exact hc
   ·exact absurd hc (a2 Z)
  ·by_cases hc:e.S=[]
   ·exact hc
   ·exact absurd hc (a3 Z.1 Z.2)
  ·exact hG Z
  ·exact g2 Z
  ·rcases am with am|am
   ·omega
   ·rw [am]at ab4;simp only [qx]at ab4;omega
open Go Go.Ab Go.Proofs
mutual
def xP:Stmt→Prop
 |⟨_,Name,Max,A,B,Body,bK⟩=>(-9223372036854775808≤Max∧Max≤9223372036854775807)∧Name.length≤9223372036854775807∧nW A∧nW B∧nX Body∧nX bK
def nX:List Stmt→Prop
 |[]=>True
 |x::l=>xP x∧nX l
end
def ab5(s:Stmt):xP s↔(-9223372036854775808≤s.Max∧s.Max≤9223372036854775807)∧s.Name.length≤9223372036854775807∧nW s.A∧nW s.B∧nX s.Body∧nX s.bK:=by cases s;rfl
def Bf(p:a_):Prop:=p.Name.length≤9223372036854775807∧p.Params.length≤9223372036854775807∧(∀i,i<p.Params.length→(p.Params.getD i default).Name.length≤9223372036854775807)∧nX p.Body
open Go Go.Ab Go.Proofs
abbrev gp:Expr:=⟨0,0,[],[]⟩
def mM(e:Expr):Prop:=iJ e∧hW e≤12
def FY(s:Stmt):Prop:=
 ((s.Op=1∨s.Op=2)∧s=⟨s.Op,s.Name,0,s.A,gp,[],[]⟩∧g_ s.Name=true∧mM s.A)∨
 (s=⟨3,[],0,s.A,s.B,[],[]⟩∧mM s.A∧mM s.B)∨
 ((s.Op=4∨s.Op=7)∧s=⟨s.Op,[],0,s.A,gp,[],[]⟩∧mM s.A)∨
 (s=⟨5,[],0,s.A,gp,s.Body,s.bK⟩∧mM s.A)∨
 (s=⟨6,s.Name,s.Max,s.A,s.B,s.Body,[]⟩∧g_ s.Name=true∧(1≤s.Max∧s.Max≤16)∧mM s.A∧mM s.B)∨
 (s=⟨8,[],s.Max,gp,gp,[],[]⟩∧0≤s.Max∧s.Max≤999)
mutual
def Bg:Stmt→Nat→Prop
 |⟨Op,Name,Max,A,B,Body,bK⟩,d=>d≤12∧FY ⟨Op,Name,Max,A,B,Body,bK⟩∧lY Body (d+1)∧lY bK (d+1)
def lY:List Stmt→Nat→Prop
 |[],_=>True
 |s::l,d=>Bg s d∧lY l d
end
def Mq(s:Stmt)(d:Nat):Bg s d↔d≤12∧FY s∧lY s.Body (d+1)∧lY s.bK (d+1):=by cases s;rfl
def xQ{e:Expr}(h:nc e=true):e=gp:=by
 obtain⟨a,b,c,l⟩:=e;unfold nc at h;simp only [Bool.and_eq_true,decide_eq_true_eq]at h;obtain⟨⟨⟨rfl,rfl⟩,rfl⟩,h⟩:=h;rw [List.length_eq_zero_iff]at h;subst h;rfl
def tb{e:Expr}(hi:nW e)(h:hh e 1=0):mM e:=by
 obtain⟨Z,ab⟩:=anC (hW e) e 1 (Nat.le_refl _) hi h (by omega)
 exact⟨Z,by omega⟩
def anE{s:Stmt}{d:Int}(hi:xP s)(h:kH s d=0):d≤12∧FY s:=by
 obtain⟨i1,i2,i3,i4,i5,i6⟩:=(ab5 s).1 hi;unfold kH at h;split at h
 ·omega
 rename_i g1;split at h
 ·omega
 rename_i g2;split at h
 ·rename_i g;exact absurd h g.2
 rename_i g3;split at h
 ·rename_i g;exact absurd h g.2
 rename_i g4;split at h
 ·omega
 rename_i g5;refine⟨by omega,?_⟩
 simp only [not_or,not_and,Bool.not_eq_false,Bool.not_eq_true,Decidable.not_not]at g1 g2 g3 g4;obtain⟨aW,a2,a3⟩:=g1
 have f9:1≤s.Op∧s.Op≤8:=by
  by_cases bJ:1≤s.Op∧s.Op≤8
  ·exact bJ
  ·rw [show km s.Op=(⟨false,false,false,false,false,false⟩,false) by
    unfold km;rw [if_neg (by omega),if_neg (by omega),if_neg (by omega),if_neg (by omega),if_neg (by omega),if_neg (by omega)]]at aW
   cases aW
 obtain⟨Op,Name,Max,A,B,Body,bK⟩:=s;simp only at *
 obtain rfl|rfl|rfl|rfl|rfl|rfl|rfl|rfl:Op=1∨Op=2∨Op=3∨Op=4∨Op=5∨Op=6∨Op=7∨Op=8:=by omega
 all_goals
  simp only [Bc,rA,km]at a2 a3 g2 g3 g4;simp [-List.length_eq_zero_iff]at a2 a3 g2 g3 g4
 all_goals unfold FY;simp only []
 ·obtain⟨⟨⟨eR,rfl⟩,Z⟩,ab⟩:=a2;obtain rfl:=xQ eR;obtain rfl:=List.eq_nil_of_length_eq_zero Z;obtain rfl:=List.eq_nil_of_length_eq_zero ab;exact Or.inl ⟨Or.inl trivial,rfl,g2,tb i3 g3⟩
 ·obtain⟨⟨⟨eR,rfl⟩,Z⟩,ab⟩:=a2;obtain rfl:=xQ eR;obtain rfl:=List.eq_nil_of_length_eq_zero Z;obtain rfl:=List.eq_nil_of_length_eq_zero ab;exact Or.inl ⟨Or.inr trivial,rfl,g2,tb i3 g3⟩
 ·obtain⟨⟨⟨rfl,rfl⟩,Z⟩,ab⟩:=a2;obtain rfl:=List.eq_nil_of_length_eq_zero Z;obtain rfl:=List.eq_nil_of_length_eq_zero ab;exact Or.inr (Or.inl ⟨rfl,tb i3 g3,tb i4 g4⟩)
 ·obtain⟨⟨⟨⟨rfl,eR⟩,rfl⟩,Z⟩,ab⟩:=a2;obtain rfl:=xQ eR;obtain rfl:=List.eq_nil_of_length_eq_zero Z;obtain rfl:=List.eq_nil_of_length_eq_zero ab;exact Or.inr (Or.inr (Or.inl ⟨Or.inl trivial,rfl,tb i3 g3⟩))
 ·obtain⟨⟨rfl,eR⟩,rfl⟩:=a2;obtain rfl:=xQ eR;exact Or.inr (Or.inr (Or.inr (Or.inl ⟨rfl,tb i3 g3⟩)))
 ·obtain rfl:=List.eq_nil_of_length_eq_zero a2;exact Or.inr (Or.inr (Or.inr (Or.inr (Or.inl ⟨rfl,g2,a3,tb i3 g3,tb i4 g4⟩))))
 ·obtain⟨⟨⟨⟨rfl,eR⟩,rfl⟩,Z⟩,ab⟩:=a2;obtain rfl:=xQ eR;obtain rfl:=List.eq_nil_of_length_eq_zero Z;obtain rfl:=List.eq_nil_of_length_eq_zero ab;exact Or.inr (Or.inr (Or.inl ⟨Or.inr trivial,rfl,tb i3 g3⟩))
 ·obtain⟨⟨⟨⟨rfl,eW⟩,eR⟩,Z⟩,ab⟩:=a2;obtain rfl:=xQ eW;obtain rfl:=xQ eR;obtain rfl:=List.eq_nil_of_length_eq_zero Z;obtain rfl:=List.eq_nil_of_length_eq_zero ab;exact Or.inr (Or.inr (Or.inr (Or.inr (Or.inr ⟨rfl,a3⟩))))
mutual
def ab6:∀(s:Stmt) (d:Int) (r:Nat×Int),(qv s d r).2=0→r.2=0∧kH s d=0
 |⟨Op,Name,Max,A,B,Body,bK⟩,d,r,h=>by
  simp only [qv]at h;have Z:=FZ Body _ _ (FZ bK _ _ h);simp only at Z
  by_cases h0:r.2=0
  ·rw [if_pos h0]at Z;exact⟨h0,Z⟩
  ·rw [if_neg h0]at Z;exact absurd Z h0
def FZ:∀(l:List Stmt) (d:Int) (r:Nat×Int),(h8 l d r).2=0→r.2=0
 |[],d,r,h=>h
 |s::l,d,r,h=>by
  simp only [h8]at h;split at h
  ·exact h
  ·exact(ab6 s d r (FZ l d _ h)).1
end
mutual
def anF:∀(s:Stmt) (d:Nat) (r:Nat×Int),xP s→(qv s (d:Int) r).1≠0→(qv s (d:Int) r).2=0→Bg s d
 |⟨Op,Name,Max,A,B,Body,bK⟩,d,r,hi,Z,ab=>by
  have hs:=anE hi (ab6 _ _ _ ab).2;obtain⟨i1,i2,i3,i4,i5,i6⟩:=(ab5 _).1 hi;have hd:ar0 ((d:Int)+1)=((d+1:Nat):Int):=by rw [wr]<;>omega
  simp only [qv,hd]at Z ab;have dM:=FZ _ _ _ ab;have am:=u' bK ((d+1:Nat):Int) (h8 Body ((d+1:Nat):Int) (kn B (kn A (r.1-1)),if r.2=0 then kH ⟨Op,Name,Max,A,B,Body,bK⟩ d else r.2))
  exact⟨by omega,hs.2,Mr Body (d+1) _ i5 (by omega) dM,Mr bK (d+1) _ i6 Z ab⟩
def Mr:∀(l:List Stmt) (d:Nat) (r:Nat×Int),nX l→(h8 l (d:Int) r).1≠0→(h8 l (d:Int) r).2=0→lY l d
 |[],d,r,_,_,_=>trivial
 |s::l,d,r,hi,Z,ab=>by
  simp only [h8]at Z ab;split at Z
  ·rename_i h;exact absurd h Z
  ·rename_i h;rw [if_neg h]at ab;have k:=u' l (d:Int) (qv s (d:Int) r);exact⟨anF s d r hi.1 (by omega) (FZ _ _ _ ab),Mr l d _ hi.2 Z ab⟩
end
def ab7(p:a_):Prop:=g_ p.Name=true∧qt p.Params=0∧lY p.Body 1
def ab8{p:a_}(hi:Bf p)(h:nT p=0):ab7 p:=by
 unfold nT at h;split at h
 ·omega
 rename_i g1;split at h
 ·rename_i g;exact absurd h g
 rename_i g2;split at h
 ·omega
 rename_i g3;simp only [Bool.not_eq_false,Decidable.not_not]at g1 g2;exact⟨g1,g2,Mr p.Body 1 (401,0) hi.2.2.2 (λe=>g3 ⟨h,e⟩) h⟩
open Go Go.Ab Go.Proofs
def ind:Nat→arY
 | 0=>[]
 |d+1=>32::32::32::32::ind d
def cat:List arY→arY
 |[]=>[]
 |x::l=>x++cat l
def eu(d:Nat)(l:List arY):arY:=ind d++(cat l++[10])
abbrev gq(e:Expr):arY:=flat (dc e)
abbrev hO(e:Expr):List Token:=k7 (dc e)
mutual
def f6:Stmt→Nat→arY
 |⟨Op,Name,Max,A,B,Body,bK⟩,d=>
  if Op=1 then eu d [[108,101,116,32],Name,[32,61,32],gq A,[59]]
  else if Op=2 then eu d [Name,[32,61,32],gq A,[59]]
  else if Op=3 then eu d [[112,117,116,32],gq A,[32,61,32],gq B,[59]]
  else if Op=4 then eu d [[100,101,108,101,116,101,32],gq A,[59]]
  else if Op=5 then eu d [[105,102,32],gq A,[32,123]]++(gE Body (d+1)++((if bK.length=0 then[]else eu d [[125,32,101,108,115,101,32,123]]++gE bK (d+1))++eu d [[125]]))
  else if Op=6 then eu d [[102,111,114,32],Name,[32,61,32],gq A,[32,116,111,32],gq B,[32,109,97,120,32],Lib.decDigits Max.toNat,[32,123]]++(gE Body (d+1)++eu d [[125]])
  else if Op=7 then eu d [[101,109,105,116,32],gq A,[59]]
  else eu d [[97,98,111,114,116,32],Lib.decDigits Max.toNat,[59]]
def gE:List Stmt→Nat→arY
 |[],_=>[]
 |s::l,d=>f6 s d++gE l d
end
mutual
def ip:Stmt→List Token
 |⟨Op,Name,Max,A,B,Body,bK⟩=>
  if Op=1 then fg [108,101,116]::nU Name::cM [61]::(hO A++[cM [59]])
  else if Op=2 then nU Name::cM [61]::(hO A++[cM [59]])
  else if Op=3 then fg [112,117,116]::(hO A++cM [61]::(hO B++[cM [59]]))
  else if Op=4 then fg [100,101,108,101,116,101]::(hO A++[cM [59]])
  else if Op=5 then fg [105,102]::(hO A++cM [123]::(kI Body++cM [125]::(if bK.length=0 then[]else fg [101,108,115,101]::cM [123]::(kI bK++[cM [125]]))))
  else if Op=6 then fg [102,111,114]::nU Name::cM [61]::(hO A++fg [116,111]::(hO B++fg [109,97,120]::xK Max::cM [123]::(kI Body++[cM [125]])))
  else if Op=7 then fg [101,109,105,116]::(hO A++[cM [59]])
  else[fg [97,98,111,114,116],xK Max,cM [59]]
def kI:List Stmt→List Token
 |[]=>[]
 |s::l=>ip s++kI l
end
open Go Go.Ab Go.Proofs
def ab9(n:Nat)(s b:arY)(x:Int)(h:b.length+s.length≤1000000000):C1 n s (fU b) x=some (((s.length:Nat):Int),fU (b++s)):=by
 unfold C1 y_;rw [show(fU b).length+s.length=b.length+s.length by simp [fU],Ux (by omega)]
 simp [fU,an,a6]
def anG(n:Nat)(b:arY)(x:Int)(h:b.length≤1000000000):Ij n 10 (fU b) x=some (fU (b++[10])):=by
 unfold Ij y_;rw [show(fU b).length+([10]:List Int).length=b.length+1 by simp [fU],Ux (by omega)]
 simp [fU,an,a6]
def UE:∀l m:List arY,cat (l++m)=cat l++cat m
 |[],m=>rfl
 |x::l,m=>by simp only [List.cons_append,cat,UE l m,List.append_assoc]
def UF:∀d,ind (d+1)=ind d++[32,32,32,32]
 | 0=>rfl
 |d+1=>by
  show 32::32::32::32::ind (d+1)=(32::32::32::32::ind d)++[32,32,32,32]
  rw [UF d];rfl
def F0:∀d,(ind d).length=4*d
 | 0=>rfl
 |d+1=>by simp only [ind,arN,F0 d];omega
def anH(n:Nat)(parts:List arY)(d:Nat)(b:arY)(ae:b.length+(cat parts).length≤1000000000)(hp:parts.length≤1000):∀m i,parts.length<i+m→i≤parts.length→
 C2 n parts (d:Int) m (fU (b++cat (parts.take i))) (i:Int)=some (fU (b++(cat parts++[10]))):=by
 intro m;induction m with
 |zero=>intro i Z ab;omega
 |succ m aR=>
  intro i Z ab;have hc:cat parts=cat (parts.take i)++cat (parts.drop i):=by rw [←UE,List.take_append_drop]
  have gS:(cat parts).length=(cat (parts.take i)).length+(cat (parts.drop i)).length:=by rw [hc,arR]
  simp only [C2,PS,PR,arQ,arP];by_cases hi:i<parts.length
  ·rw [fz parts i default hi]at gS;simp only [cat,arR]at gS;simp only [hi,arH,arJ,cm hi,a6];rw [ab9 n _ _ _ (by rw [arR];omega),bx (by omega)]
   simp only [an];have:=aR (i+1) (by omega) (by omega)
   rw [u9 parts i hi,UE]at this;simp only [cat,List.append_nil]at this;rw [List.append_assoc];exact this
  ·simp only [hi,arI,arK];obtain rfl:i=parts.length:=by omega
   rw [List.take_length,anG n _ _ (by rw [arR];omega)]
   simp only [an,List.append_assoc]
def nY{n:Nat}(parts:List arY)(d:Nat)(b:arY)(ae:b.length+(cat parts).length≤900000000)(hp:parts.length≤10)(hd:d≤100)(hn:200≤n):
 mC n parts (fU b) (d:Int)=some (fU (b++eu d parts)):=by
 have hr:∀m i,d<i+m→i≤d→C3 n parts (d:Int) m (fU (b++ind i)) (i:Int)=some (fU (b++eu d parts)):=by
  intro m;induction m with
  |zero=>intro i Z ab;omega
  |succ m aR=>
   intro i Z ab;have Nx:=F0 i;simp only [C3,PU,PT,arQ];by_cases hi:i<d
   ·simp only [hi,arH,arJ];rw [ab9 n _ _ _ (by simp only [arR,arN,arO];omega),bx (by omega)]
    simp only [an];have:=aR (i+1) (by omega) (by omega)
    rw [UF]at this;rw [List.append_assoc];exact this
   ·simp only [hi,arI,arK];obtain rfl:i=d:=by omega
    have:=anH n parts i (b++ind i) (by rw [arR];omega) (by omega) n 0 (by omega) (by omega)
    simp only [List.take_zero,cat,List.append_nil]at this;rw [show((0:Nat):Int)=0 from rfl]at this
    rw [this,eu,List.append_assoc]
 have:=hr n 0 (by omega) (by omega)
 simp only [ind,List.append_nil]at this;exact this
def lZ(d:Nat)(l:List arY):(eu d l).length=4*d+(cat l).length+1:=by
 unfold eu;simp only [arR,F0,arN,arO];omega
def mN{e:Expr}(h:mM e):(gq e).length≤4*cJ e:=qW (hW e) e (Nat.le_refl _) h.1
mutual
def ab':∀(s:Stmt) (d:Nat),Bg s d→(f6 s d).length≤4*fst s
 |⟨Op,Name,Max,A,B,Body,bK⟩,d,h=>by
  obtain⟨hd,hs,du,f7⟩:=(Mq _ _).1 h;have ary:=oN Body (d+1) du;have arz:=oN bK (d+1) f7;rcases hs with⟨aw,ao,hn,eW⟩|⟨ao,eW,eR⟩|⟨aw,ao,eW⟩|⟨ao,eW⟩|⟨ao,hn,hm,eW,eR⟩|⟨ao,hm⟩
  ·simp only [Stmt.mk.injEq,true_and,and_true]at ao aw;obtain⟨rfl,rfl,rfl,rfl⟩:=ao;have Z:=mN eW;have ab:=oM hn;simp only at Z ab
   rcases aw with rfl|rfl
   ·rw [show f6 ⟨1,Name,0,A,gp,[],[]⟩ d=eu d [[108,101,116,32],Name,[32,61,32],gq A,[59]]by simp [f6],lZ]
    simp only [cat,fst,arR,arN,arO];omega
   ·rw [show f6 ⟨2,Name,0,A,gp,[],[]⟩ d=eu d [Name,[32,61,32],gq A,[59]]by simp [f6],lZ]
    simp only [cat,fst,arR,arN,arO];omega
  ·simp only [Stmt.mk.injEq,true_and,and_true]at ao;obtain⟨rfl,rfl,rfl,rfl,rfl⟩:=ao;have Z:=mN eW;have ab:=mN eR;simp only at Z ab
   rw [show f6 ⟨3,[],0,A,B,[],[]⟩ d=eu d [[112,117,116,32],gq A,[32,61,32],gq B,[59]]by simp [f6],lZ]
   simp only [cat,fst,arR,arN,arO];omega
  ·simp only [Stmt.mk.injEq,true_and,and_true]at ao aw;obtain⟨rfl,rfl,rfl,rfl,rfl⟩:=ao;have Z:=mN eW;simp only at Z
   rcases aw with rfl|rfl
   ·rw [show f6 ⟨4,[],0,A,gp,[],[]⟩ d=eu d [[100,101,108,101,116,101,32],gq A,[59]]by simp [f6],lZ]
    simp only [cat,fst,arR,arN,arO];omega
   ·rw [show f6 ⟨7,[],0,A,gp,[],[]⟩ d=eu d [[101,109,105,116,32],gq A,[59]]by simp [f6],lZ]
    simp only [cat,fst,arR,arN,arO];omega
  ·simp only [Stmt.mk.injEq,true_and,and_true]at ao;obtain⟨rfl,rfl,rfl,rfl⟩:=ao;have Z:=mN eW;simp only at Z
   have ab:(f6 ⟨5,[],0,A,gp,Body,bK⟩ d).length≤(eu d [[105,102,32],gq A,[32,123]]).length+((gE Body (d+1)).length+(((eu d [[125,32,101,108,115,101,32,123]]).length+(gE bK (d+1)).length)+(eu d [[125]]).length)):=by
    by_cases ae:bK.length=0
    ·simp [f6,ae]
    ·simp [f6,ae];omega
   simp only [lZ,cat,arR,arN,arO]at ab;simp only [fst];omega
  ·simp only [Stmt.mk.injEq,true_and,and_true]at ao;obtain⟨rfl,rfl⟩:=ao;have hm:1≤Max∧Max≤16:=hm;have Z:=mN eW;have ab:=mN eR;have aq:=oM hn;have aN:=Bd Max (by omega) (by omega)
   simp only at Z ab aq
   have bn:f6 ⟨6,Name,Max,A,B,Body,[]⟩ d=eu d [[102,111,114,32],Name,[32,61,32],gq A,[32,116,111,32],gq B,[32,109,97,120,32],Lib.decDigits Max.toNat,[32,123]]++(gE Body (d+1)++eu d [[125]]):=by simp [f6]
   rw [bn];simp only [lZ,cat,fst,arR,arN,arO];omega
  ·simp only [Stmt.mk.injEq,true_and,and_true]at ao;obtain⟨rfl,rfl,rfl,rfl,rfl,rfl⟩:=ao;have hm:0≤Max∧Max≤999:=hm;have aN:=Bd Max (by omega) (by omega)
   rw [show f6 ⟨8,[],Max,gp,gp,[],[]⟩ d=eu d [[97,98,111,114,116,32],Lib.decDigits Max.toNat,[59]]by simp [f6],lZ]
   simp only [cat,fst,arR,arN,arO];omega
def oN:∀(l:List Stmt) (d:Nat),lY l d→(gE l d).length≤4*dP l
 |[],d,h=>Nat.le_refl _
 |s::l,d,h=>by
  have Z:=ab' s d h.1;have ab:=oN l d h.2;simp only [gE,dP,arR];omega
end
def ab_(n:Nat)(i:Int)(h0:0≤i)(Z:i≤9223372036854775807):wB n i=some (Lib.decDigits i.toNat):=ab1 n i h0 Z
open Go Go.Ab Go.Proofs
def anI(n:Nat):ri (n+1)=Ir n (ri n) (wE n) (wF n):=rfl
def anJ(n:Nat):wE (n+1)=It n (ri n) (wE n) (wF n):=rfl
def anK(n:Nat):wF (n+1)=Iu n (ri n) (wE n) (wF n):=rfl
def tc{n:Nat}{e:Expr}(h:mM e)(hn:300≤n)(b5:cJ e≤1000000):md n e=some (gq e):=anx (hW e) e n (Nat.le_refl _) h.1 (by have:=h.2;omega) b5
def td(n:Nat)(l:List Stmt)(d:Nat)(b:arY):Prop:=ri n l (fU b) (d:Int)=some (fU (b++gE l (d+1)),(d:Int))
def anL{n d:Nat}{b:arY}{A:Expr}{Body bK:List Stmt}(eW:mM A)(b5:cJ A≤300000)(hd:d≤12)(hn:400≤n)(hb:b.length≤10000000)(fc:(gE Body (d+1)).length≤10000000)(eY:(gE bK (d+1)).length≤10000000)
 (eR:∀bR:arY,bR.length≤b.length+4*cJ A+100→td n Body d bR) (b3:∀bR:arY,bR.length≤b.length+4*cJ A+200+(gE Body (d+1)).length→td n bK d bR):
 wE (n+1) ⟨5,[],0,A,gp,Body,bK⟩ (fU b) (d:Int)=some (fU (b++f6 ⟨5,[],0,A,gp,Body,bK⟩ d),(d:Int)):=by
 have Z:=mN eW;rw [anJ];simp only [It,Is,gd];rw [tc eW (by omega) (by omega)]
 simp only [an];rw [nY _ d b (by simp only [cat,arR,arN,arO];omega) (by simp) (by omega) (by omega)]
 simp only [an];have e1:=eR (b++eu d [[105,102,32],gq A,[32,123]]) (by simp only [arR,lZ,cat,arN,arO];omega)
 unfold td at e1;rw [e1];simp only [an];by_cases ae:bK.length=0
 ·rw [show decide (0<((bK.length:Nat):Int))=false from decide_eq_false (by omega)]
  simp only [arK];rw [nY _ d _ (by simp only [arR,lZ,cat,arN,arO];omega) (by simp) (by omega) (by omega)]
  simp only [an];have:f6 ⟨5,[],0,A,gp,Body,bK⟩ d=eu d [[105,102,32],gq A,[32,123]]++(gE Body (d+1)++eu d [[125]]):=by simp [f6,ae]
  rw [this];simp only [List.append_assoc]
 ·rw [show decide (0<((bK.length:Nat):Int))=true from decide_eq_true (by omega)]
  simp only [arJ];rw [nY _ d _ (by simp only [arR,lZ,cat,arN,arO];omega) (by simp) (by omega) (by omega)]
  simp only [an];have e2:=b3 (b++eu d [[105,102,32],gq A,[32,123]]++gE Body (d+1)++eu d [[125,32,101,108,115,101,32,123]]) (by simp only [arR,lZ,cat,arN,arO];omega)
  unfold td at e2;rw [e2];simp only [an];rw [nY _ d _ (by simp only [arR,lZ,cat,arN,arO];omega) (by simp) (by omega) (by omega)]
  simp only [an];have:f6 ⟨5,[],0,A,gp,Body,bK⟩ d=eu d [[105,102,32],gq A,[32,123]]++(gE Body (d+1)++((eu d [[125,32,101,108,115,101,32,123]]++gE bK (d+1))++eu d [[125]])):=by simp [f6,ae]
  rw [this];simp only [List.append_assoc]
def anM{n d:Nat}{b:arY}{Name:arY}{Max:Int}{A B:Expr}{Body:List Stmt}(eW:mM A)(aca:mM B)(b5:cJ A≤300000)(qV:cJ B≤300000)(aY:g_ Name=true)(hm:1≤Max∧Max≤16)(hd:d≤12)(hn:400≤n)(hb:b.length≤10000000)(fc:(gE Body (d+1)).length≤10000000)
 (eR:∀bR:arY,bR.length≤b.length+4*cJ A+4*cJ B+120→td n Body d bR):
 wF (n+1) ⟨6,Name,Max,A,B,Body,[]⟩ (fU b) (d:Int)=some (fU (b++f6 ⟨6,Name,Max,A,B,Body,[]⟩ d),(d:Int)):=by
 have Z:=mN eW;have ab:=mN aca;have aq:=oM aY;have aN:=Bd Max (by omega) (by omega)
 rw [anK];simp only [Iu,gd];rw [tc eW (by omega) (by omega),tc aca (by omega) (by omega),ab_ n Max (by omega) (by omega)]
 simp only [an];rw [nY _ d b (by simp only [cat,arR,arN,arO];omega) (by simp) (by omega) (by omega)]
 simp only [an];have e1:=eR (b++eu d [[102,111,114,32],Name,[32,61,32],gq A,[32,116,111,32],gq B,[32,109,97,120,32],Lib.decDigits Max.toNat,[32,123]]) (by simp only [arR,lZ,cat,arN,arO];omega)
 unfold td at e1;rw [e1];simp only [an];rw [nY _ d _ (by simp only [arR,lZ,cat,arN,arO];omega) (by simp) (by omega) (by omega)]
 simp only [an];have:f6 ⟨6,Name,Max,A,B,Body,[]⟩ d=eu d [[102,111,114,32],Name,[32,61,32],gq A,[32,116,111,32],gq B,[32,109,97,120,32],Lib.decDigits Max.toNat,[32,123]]++(gE Body (d+1)++eu d [[125]]):=by simp [f6]
 rw [this];simp only [List.append_assoc]
def UG:∀(l:List Stmt) (i d:Nat),i<l.length→lY l d→Bg (l.getD i default) d
 |[],i,d,h,_=>by simp at h
 |x::l,0,d,h,ae=>ae.1
 |x::l,i+1,d,h,ae=>by simp only [List.getD_cons_succ];exact UG l i d (by simpa using h) ae.2
def UH:∀(l m:List Stmt) (d:Nat),lY (l++m) d↔lY l d∧lY m d
 |[],m,d=>by simp [lY]
 |x::l,m,d=>by simp only [List.cons_append,lY,UH l m d,and_assoc]
def UI:∀(l m:List Stmt) (d:Nat),gE (l++m) d=gE l d++gE m d
 |[],m,d=>rfl
 |x::l,m,d=>by simp only [List.cons_append,gE,UI l m d,List.append_assoc]
def anN:∀(n:Nat) (l:List Stmt) (d:Nat) (b:arY),lY l (d+1)→d≤12→dP l≤300000→2*dP l+500≤n→b.length+4*dP l≤9000000→td n l d b:=by
 intro n;induction n using Nat.strongRecOn with
 |_ n aR=>
  intro l d b ef hd b5 hn hb;obtain⟨n,rfl⟩:∃k,n=k+2:=⟨n-2,by omega⟩
  have hlen:=xG l;unfold td;rw [anI];unfold Ir;rw [bx (by omega)]
  have hr:∀m i,l.length<i+m→i≤l.length→C9 (n+1) (ri (n+1)) (wE (n+1)) (wF (n+1)) l m (fU (b++gE (l.take i) (d+1))) ((d+1:Nat):Int) (i:Int)=some (fU (b++gE l (d+1)),(d:Int)):=by
   intro m;induction m with
   |zero=>intro i Z ab;omega
   |succ m jO=>
    intro i Z ab;simp only [C9,P9,P8,arQ,arP,gd,jC];by_cases hi:i<l.length
    ·simp only [hi,arH,arJ,cm hi,a6];have dC:=UG l i (d+1) hi ef;have ry:lY (l.take i) (d+1):=((UH (l.take i) (l.drop i) (d+1)).1 (by rw [List.take_append_drop];exact ef)).1
     have p1:=oN _ _ ry
     have CA:dP l=dP (l.take i)+(fst (l.getD i default)+1+dP (l.drop (i+1))):=by
      have:dP l=dP (l.take i++l.drop i):=by rw [List.take_append_drop]
      rw [L9,fz l i default hi]at this;simpa only [dP]using this
     have gw:=jO (i+1) (by omega) (by omega)
     rw [u9 l i hi,UI,←List.append_assoc]at gw;simp only [gE,List.append_nil]at gw;have nk:(b++gE (l.take i) (d+1)).length≤b.length+4*dP (l.take i):=by rw [arR];omega
     generalize b++gE (l.take i) (d+1)=Bh at gw nk
     rw [bx (by omega)]
     generalize l.getD i default=s at dC CA gw
     have nl:=fst_eq s;obtain⟨kP,hs,du,f7⟩:=(Mq _ _).1 dC;obtain⟨Op,Name,Max,A,B,Body,bK⟩:=s;simp only at nl du f7
     rcases hs with⟨aw,ao,aY,eW⟩|⟨ao,eW,eR⟩|⟨aw,ao,eW⟩|⟨ao,eW⟩|⟨ao,aY,hm,eW,eR⟩|⟨ao,hm⟩
     ·simp only [Stmt.mk.injEq,true_and,and_true]at ao aw;obtain⟨rfl,rfl,rfl,rfl⟩:=ao;have aq:=mN eW;have aN:=oM aY;simp only at aq aN
      rcases aw with rfl|rfl
      ·simp only [show re (n+1) 1=some (.inl ())from rfl,an,iw.on,P4,gd]
       rw [tc eW (by omega) (by show cJ A≤_;omega)]
       simp only [an];rw [nY _ (d+1) Bh (by simp only [cat,arR,arN,arO];omega) (by simp) (by omega) (by omega)]
       simp only [an];rw [show f6 ⟨1,Name,0,A,gp,[],[]⟩ (d+1)=eu (d+1) [[108,101,116,32],Name,[32,61,32],gq A,[59]]by simp [f6]]at gw
       exact gw
      ·simp only [show re (n+1) 2=some (.inr (.inl ()))from rfl,an,iw.on,P3,gd]
       rw [tc eW (by omega) (by show cJ A≤_;omega)]
       simp only [an];rw [nY _ (d+1) Bh (by simp only [cat,arR,arN,arO];omega) (by simp) (by omega) (by omega)]
       simp only [an];rw [show f6 ⟨2,Name,0,A,gp,[],[]⟩ (d+1)=eu (d+1) [Name,[32,61,32],gq A,[59]]by simp [f6]]at gw
       exact gw
     ·simp only [Stmt.mk.injEq,true_and,and_true]at ao;obtain⟨rfl,rfl,rfl,rfl,rfl⟩:=ao;have aq:=mN eW;have aN:=mN eR;simp only at aq aN
      simp only [show re (n+1) 3=some (.inr (.inr (.inl ())))from rfl,an,iw.on,P6,gd]
      rw [tc eW (by omega) (by show cJ A≤_;omega),tc eR (by omega) (by show cJ B≤_;omega)]
      simp only [an];rw [nY _ (d+1) Bh (by simp only [cat,arR,arN,arO];omega) (by simp) (by omega) (by omega)]
      simp only [an];rw [show f6 ⟨3,[],0,A,B,[],[]⟩ (d+1)=eu (d+1) [[112,117,116,32],gq A,[32,61,32],gq B,[59]]by simp [f6]]at gw
      exact gw
     ·simp only [Stmt.mk.injEq,true_and,and_true]at ao aw;obtain⟨rfl,rfl,rfl,rfl,rfl⟩:=ao;have aq:=mN eW;simp only at aq
      rcases aw with rfl|rfl
      ·simp only [show re (n+1) 4=some (.inr (.inr (.inr (.inl ()))))from rfl,an,iw.on,P7,gd]
       rw [tc eW (by omega) (by show cJ A≤_;omega)]
       simp only [an];rw [nY _ (d+1) Bh (by simp only [cat,arR,arN,arO];omega) (by simp) (by omega) (by omega)]
       simp only [an];rw [show f6 ⟨4,[],0,A,gp,[],[]⟩ (d+1)=eu (d+1) [[100,101,108,101,116,101,32],gq A,[59]]by simp [f6]]at gw
       exact gw
      ·simp only [show re (n+1) 7=some (.inr (.inr (.inr (.inr (.inr (.inr (.inl ())))))))from rfl,an,iw.on,P5,gd]
       rw [tc eW (by omega) (by show cJ A≤_;omega)]
       simp only [an];rw [nY _ (d+1) Bh (by simp only [cat,arR,arN,arO];omega) (by simp) (by omega) (by omega)]
       simp only [an];rw [show f6 ⟨7,[],0,A,gp,[],[]⟩ (d+1)=eu (d+1) [[101,109,105,116,32],gq A,[59]]by simp [f6]]at gw
       exact gw
     ·simp only [Stmt.mk.injEq,true_and,and_true]at ao;obtain⟨rfl,rfl,rfl,rfl⟩:=ao;have fc:=oN _ _ du;have eY:=oN _ _ f7;simp only [show re (n+1) 5=some (.inr (.inr (.inr (.inr (.inl ())))))from rfl,an,iw.on]
      rw [anL (A:=A) eW (by show cJ A≤_;omega) (by omega) (by omega) (by omega) (by omega) (by omega)
       (λbR b2=>aR n (by omega) Body (d+1) bR du (by omega) (by omega) (by omega) (by omega)) (λbR b2=>aR n (by omega) bK (d+1) bR f7 (by omega) (by omega) (by omega) (by omega))]
      exact gw
     ·simp only [Stmt.mk.injEq,true_and,and_true]at ao;obtain⟨rfl,rfl⟩:=ao;have fc:=oN _ _ du;simp only [show re (n+1) 6=some (.inr (.inr (.inr (.inr (.inr (.inl ()))))))from rfl,an,iw.on]
      rw [anM (A:=A) (B:=B) eW eR (by show cJ A≤_;omega) (by show cJ B≤_;omega) aY hm (by omega) (by omega) (by omega) (by omega)
       (λbR b2=>aR n (by omega) Body (d+1) bR du (by omega) (by omega) (by omega) (by omega))]
      exact gw
     ·simp only [Stmt.mk.injEq,true_and,and_true]at ao;obtain⟨rfl,rfl,rfl,rfl,rfl,rfl⟩:=ao;have hm:0≤Max∧Max≤999:=hm;have aN:=Bd Max (by omega) (by omega)
      simp only [show re (n+1) 8=some (.inr (.inr (.inr (.inr (.inr (.inr (.inr ())))))))from rfl,an,iw.on,PV,gd]
      rw [ab_ _ Max (by omega) (by omega)]
      simp only [an];rw [nY _ (d+1) Bh (by simp only [cat,arR,arN,arO];omega) (by simp) (by omega) (by omega)]
      simp only [an];rw [show f6 ⟨8,[],Max,gp,gp,[],[]⟩ (d+1)=eu (d+1) [[97,98,111,114,116,32],Lib.decDigits Max.toNat,[59]]by simp [f6]]at gw
      exact gw
    ·simp only [hi,arI,arK];obtain rfl:i=l.length:=by omega
     rw [List.take_length,show ar0 (((d+1:Nat):Int)-1)=(d:Int)by rw [wr]<;>omega]
  have:=hr (n+1) 0 (by omega) (by omega)
  simp only [List.take_zero,gE,List.append_nil]at this;exact this
open Go Go.Ab Go.Proofs
section
variable {l:List Token}
end
open Go Go.Ab Go.Proofs
section
variable {l:List Token}
end
open Go Go.Ab Go.Proofs
def rC(t:Int):arY:=if t=1 then[105,110,116]else if t=2 then[115,116,114] else[98,111,111,108]
def qz(x:Param):arY:=(x.Name++[58,32])++rC x.fS
def va(x:Param):List Token:=[nU x.Name,cM [58],fg (rC x.fS)]
def xR:List Param→List Token
 |[]=>[]
 |x::l=>cM [44]::(va x++xR l)
def vb:List Param→List Token
 |[]=>[]
 |x::l=>va x++xR l
def F1(x:Param):Prop:=g_ x.Name=true∧1≤x.fS∧x.fS≤3
def acb:∀(l b:List Param),u7 b l=0→∀x,x∈l→F1 x
 |[],b,h,x,hx=>by cases hx
 |y::l,b,h,x,hx=>by
  unfold u7 at h;split at h
  ·omega
  rename_i g1;split at h
  ·omega
  rename_i g2;split at h
  ·omega
  rename_i g3;rcases List.mem_cons.1 hx with rfl|hx
  ·exact⟨by simpa using g1,by omega,by omega⟩
  ·exact acb l _ h x hx
def UJ{l:List Param}(h:qt l=0):l.length≤6∧∀x,x∈l→F1 x:=by
 unfold qt at h;split at h
 ·omega
 ·exact⟨by omega,acb l [] h⟩
def pz(l:List Param):arY:=Lib.join (l.map qz) [44,32]
def oO(p:a_):arY:=eu 0 [[112,114,111,99,32],p.Name,[40],pz p.Params,[41,32,123]]++(gE p.Body 1++eu 0 [[125]])
def acd(p:a_):List Token:=fg [112,114,111,99]::nU p.Name::cM [40]::(vb p.Params++cM [41]::cM [123]::(kI p.Body++[cM [125]]))
def UK(t:Int):(rC t).length≤4:=by
 unfold rC;split
 ·simp
 ·split<;>simp
def ace(n:Nat)(t:Int):Ii n t=some (rC t):=by
 unfold Ii rC;by_cases Z:t=1
 ·simp [Z]
 ·by_cases ab:t=2
  ·simp [ab]
  ·simp [Z,ab]
def UL(x:arY)(l:List arY):Lib.joinTail [44,32] (x::l)=44::32::(x++Lib.joinTail [44,32] l):=by simp [Lib.joinTail]
def acf{x:Param}(h:F1 x):(qz x).length≤22:=by
 have:=oM h.1
 have:=UK x.fS
 unfold qz;simp only [arR,arN,arO];omega
def acg:∀l:List Param,(∀x,x∈l→F1 x)→(Lib.joinTail [44,32] (l.map qz)).length≤24*l.length
 |[],_=>Nat.le_refl _
 |x::l,h=>by
  have Z:=acg l λy ck=>h y (by simp [ck])
  have ab:=acf (h x (by simp))
  rw [List.map_cons,UL];simp only [arR,arN];omega
def UM{l:List Param}(ae:∀x,x∈l→F1 x):(pz l).length≤24*l.length:=by
 unfold pz;cases l with
 |nil=>exact Nat.le_refl _
 |cons x l=>
  have Z:=acg l λy ck=>ae y (by simp [ck])
  have ab:=acf (ae x (by simp))
  rw [List.map_cons,Lib.join_cons];simp only [arR,arN];omega
def anO{p:a_}(hp:ab7 p):(oO p).length≤4*dP p.Body+300:=by
 obtain⟨Z,ab,aq⟩:=hp;obtain⟨aN,bn⟩:=UJ ab;have cd:=UM bn;have ep:=oM Z;have ek:=oN p.Body 1 aq;unfold oO;simp only [arR,lZ,cat,arN,arO];omega
def anP{n:Nat}(p:a_)(hi:Bf p)(ax:nT p=0)(hn:3000000≤n)(b5:f5 p.Params≤300000)(eR:dP p.Body≤300000):uj n p=some (oO p):=by
 have hp:=ab8 hi ax;have yF:=hp;obtain⟨Z,ab,aq⟩:=hp;obtain⟨aN,bn⟩:=UJ ab;have cd:=UM bn;have ep:=oM Z;have ek:=oN p.Body 1 aq;have iG:(gE p.Body (0+1)).length≤4*dP p.Body:=ek;unfold uj;rw [Mh p (by omega) (by omega) (by omega) (by omega) (by omega),ax]
 simp only [an,arH,arL,arK]
 have hr:∀m i,p.Params.length<i+m→i≤p.Params.length→C' n p m (i:Int) ((p.Params.take i).map qz)=some (oO p):=by
  intro m;induction m with
  |zero=>intro i g1 g2;omega
  |succ m aR=>
   intro i g1 g2;simp only [C',P_,arQ,arP];by_cases hi:i<p.Params.length
   ·have hx:=bn (p.Params.getD i default) (by rw [List.getD_eq_getElem?_getD,List.getElem?_eq_getElem hi];exact List.getElem_mem hi)
    have hnx:=oM hx.1;have ach:=UK (p.Params.getD i default).fS;have:=aR (i+1) (by omega) (by omega)
    rw [u9 p.Params i hi,List.map_append]at this;simp only [List.map_cons,List.map_nil]at this;simp only [hi,arH,arJ,cm hi,a6];rw [hl (by simp only [arN,arO];omega),ace]
    simp only [a6,an];rw [hl (by simp only [arR,arN,arO];omega)]
    simp only [a6]
    rw [show room ((List.map qz (p.Params.take i)).length+([(p.Params.getD i default).Name++[58,32]++rC (p.Params.getD i default).fS]:List arY).length) 16=true by
     simp [room];omega]
    simp only [a6];rw [bx (by omega)]
    exact this
   ·simp only [hi,arI,arK];obtain rfl:i=p.Params.length:=by omega
    unfold P';rw [List.take_length];unfold HW;rw [show decide ((p.Params.map qz).length≤140737488355328∧(Lib.join (p.Params.map qz) [44,32]).length≤140737488355328)=true from decide_eq_true ⟨by rw [List.length_map];omega,by show(pz p.Params).length≤_;omega⟩]
    simp only [a6,an];have ae:=nY (n:=n) [[112,114,111,99,32],p.Name,[40],pz p.Params,[41,32,123]] 0 [] (by simp only [cat,arR,arN,arO];omega) (by simp) (by omega) (by omega)
    have ae:mC n [[112,114,111,99,32],p.Name,[40],Lib.join (p.Params.map qz) [44,32],[41,32,123]] [] 0=_:=ae;rw [ae];simp only [an,List.nil_append];have hb:=anN n p.Body 0 (eu 0 [[112,114,111,99,32],p.Name,[40],pz p.Params,[41,32,123]]) aq (by omega) (by omega) (by omega) (by simp only [lZ,cat,arR,arN,arO];omega)
    unfold td at hb;rw [show ri n p.Body (fU (eu 0 [[112,114,111,99,32],p.Name,[40],pz p.Params,[41,32,123]])) 0=_ from hb]
    simp only [an];rw [nY _ 0 _ (by simp only [cat,arR,lZ,arN,arO];omega) (by simp) (by omega) (by omega)]
    simp only [an];unfold Iv;rw [TO,TN];have hlen:=anO yF;have anQ:eu 0 [[112,114,111,99,32],p.Name,[40],pz p.Params,[41,32,123]]++gE p.Body (0+1)++eu 0 [[125]]=oO p:=by unfold oO;rw [List.append_assoc]
    rw [anQ];rw [show decide ((fU (oO p)).length≤9223372036854775807)=true from decide_eq_true (by rw [show(fU (oO p)).length=(oO p).length by simp [fU]];omega)]
    rfl
 exact hr n 0 (by omega) (by omega)
open Go Go.Ab Go.Proofs
section
variable {l:List Token}
end
open Go Go.Ab Go.Proofs
def Bi(s:arY):List Int:=s.map λb=>(b.toNat:Int)
def anR(s:arY):kd (Bi s)=s:=by
 simp only [kd,Bi,List.map_map]
 conv=>rhs;rw [←List.map_id s]
 apply List.map_congr_left;intro b _;simp
def anS(s:arY):ns (Bi s)=true:=by
 simp only [ns,Bi,List.all_eq_true,List.mem_map,forall_exists_index,and_imp,forall_apply_eq_imp_iff₂];intro b _;have:=b.toNat_lt
 simp;omega
def gF(u:Nat):arY:=if u<128 then[UInt8.ofNat u]else UInt8.ofNat (u % 128+128)::gF (u / 128)
termination_by u
decreasing_by omega
def pA{u:Nat}(h:u<18446744073709551616):IntKind.u64.wrap (u:Int)=(u:Int):=by rw [IntKind.wrap_u64];omega
def anT(u:Nat)(h:u<256):([(u:Int)]:List Int)=Bi [UInt8.ofNat u]:=by
 simp only [Bi,List.map_cons,List.map_nil,UInt8.toNat_ofNat',Nat.mod_eq_of_lt (show u<2 ^ 8 from h)]
def kJ{n:Nat}(h:n≤9223372036854775807):b' n=true:=by simp [b'];omega
def fold(n:Int):Nat:=if n<0 then(2*(-(n+1))+1).toNat else(2*n).toNat
def lC(x:Int):Prop := -9223372036854775808≤x∧x≤9223372036854775807
def anU{n:Int}(h:lC n):fold n<18446744073709551616:=by
 unfold lC at h;unfold fold;split<;>omega
def qA(n:Int):arY:=gF (fold n)
def xor_zero{a:Nat}(h:a<18446744073709551616):oY .u64 (a:Int) 0=(a:Int):=by
 unfold oY;rw [show BitVec.ofInt (IntKind.bits .u64) 0=0#_ from rfl,BitVec.xor_zero]
 rw [show((BitVec.ofInt (IntKind.bits .u64) (a:Int)).toNat:Int)=(a:Int) by
  rw [BitVec.toNat_ofInt];simp only [IntKind.bits];omega]
 exact pA h
def iq(s:arY):arY:=gF s.length++s
open Go Go.Ab Go.Proofs
def aci(n:Nat)(op:Int):Ko n op=some ((dW op:Nat):Int):=Uy n op
def anV(n:Nat)(op:Int)(h:4≤op∧op≤8∨10≤op∧op≤17∨op=19):Kp n op=some (spell (mL op)):=ab0 n op h
def acj(n:Nat)(op:Int)(h:20≤op∧op≤27):Kq n op=some (spell (hN op)):=by
 obtain rfl|rfl|rfl|rfl|rfl|rfl|rfl|rfl:op=20∨op=21∨op=22∨op=23∨op=24∨op=25∨op=26∨op=27:=by omega
 all_goals rfl
def ack(u:Nat)(h:u<18446744073709551616):kd ([(IntKind.u8.wrap (IntKind.u64.wrap (48+(Int.tmod (u:Int) 10))))]:List Int)=[UInt8.ofNat (48+u % 10)]∧ns ([(IntKind.u8.wrap (IntKind.u64.wrap (48+(Int.tmod (u:Int) 10))))]:List Int)=true:=by
 have:IntKind.u8.wrap (IntKind.u64.wrap (48+(Int.tmod (u:Int) 10)))=((48+u % 10:Nat):Int):=by
  rw [Int.tmod_eq_emod_of_nonneg (by omega),IntKind.wrap_u64,IntKind.wrap_u8];omega
 rw [this,anT _ (by omega)]
 exact⟨anR _,anS _⟩
def acl(u:Nat)(h:u<18446744073709551616):IntKind.u64.wrap (Int.tdiv (u:Int) 10)=((u / 10:Nat):Int):=by
 rw [Int.tdiv_eq_ediv_of_nonneg (by omega),IntKind.wrap_u64];omega
def anW(n:Nat)(i:Int)(hi:0≤i):∀(m f u:Nat) (acc:arY),u<18446744073709551616→u<10 ^ m→acc.length+m≤1000000000→(0<u∨acc≠[])→qj n i (m+f+1) (u:Int) acc=some ((if u=0 then[]else Lib.decDigits u)++acc):=by
 intro m;induction m with
 |zero=>
  intro f u acc hu Z ae cX;have h0:u=0:=by simp at Z;omega
  subst h0;have Bj:acc≠[]:=by rcases cX with h|h;exact absurd h (by omega);exact h
  have:¬ i<0:=by omega
  simp [qj,sS,En,Bj,this]
 |succ m aR=>
  intro f u acc hu Z ae cX;rw [show m+1+f+1=m+f+1+1 by omega,show qj n i (m+f+1+1)=sS n i (qj n i (m+f+1))from rfl]
  simp only [sS,En];by_cases h0:u=0
  ·subst h0;have Bj:acc≠[]:=by rcases cX with h|h;exact absurd h (by omega);exact h
   have:¬ i<0:=by omega
   simp [Bj,this]
  ·have hp:(0:Int)<(u:Int):=by omega
   obtain⟨d1,d2⟩:=ack u hu;rw [d1,d2,acl u hu];simp only [hp,arH,arJ,a6,arS,kJ (show 1+acc.length≤9223372036854775807 by omega)]
   rw [aR f (u / 10) _ (by omega) (by rw [Nat.pow_succ]at Z;omega) (by simp;omega) (.inr (by simp))]
   rw [if_neg h0]
   conv=>rhs;rw [Lib.decDigits]
   by_cases iG:u<10
   ·rw [dif_pos iG,if_pos (by omega),Nat.mod_eq_of_lt iG];rfl
   ·rw [dif_neg iG,if_neg (by omega)];simp
def acm(n:Nat)(hn:30≤n)(i:Int)(h0:0≤i)(Z:i≤9223372036854775807):w8 n i=some (Lib.decDigits i.toNat):=by
 unfold w8 Sc;obtain⟨u,rfl⟩:=Int.eq_ofNat_of_zero_le h0;have:¬ (u:Int)<0:=by omega
 simp only [this,arI,arK,an,pA (show u<18446744073709551616 by omega),arP]
 obtain⟨k,rfl⟩:∃k,n=k+30:=⟨n-30,by omega⟩
 by_cases cX:u=0
 ·subst cX;rw [show qj (k+30) ((0:Nat):Int) (k+30)=sS (k+30) ((0:Nat):Int) (qj (k+30) ((0:Nat):Int) (k+28+1))from rfl]
  obtain⟨d1,d2⟩:=ack 0 (by omega)
  have hs:=kJ (n:=([UInt8.ofNat (48+0 % 10)]:arY).length+([]:arY).length) (by decide)
  simp only [sS,d1,d2,acl 0 (by omega),hs,a6]
  rw [show qj (k+30) ((0:Nat):Int) (k+28+1)=sS (k+30) ((0:Nat):Int) (qj (k+30) ((0:Nat):Int) (k+28))from rfl]
  simp [sS,En,Lib.decDigits]
 ·have:=anW (k+30) (u:Int) h0 20 (k+9) u [] (by omega) (by omega) (by simp) (.inl (by omega))
  rw [if_neg cX,List.append_nil,show 20+(k+9)+1=k+30 by omega]at this;exact this
def anX(n:Nat)(s:arY)(hs:s.length≤4611686018427387904):∀m i,s.length<i+m→i≤s.length→Af n s m (i:Int)=some ((s.drop i).all okB):=by
 intro m;induction m with
 |zero=>intro i h ab;omega
 |succ m aR=>
  intro i hm hi;simp only [Af,Sh,Sg];by_cases h:i<s.length
  ·rw [fz s i 0 h,bx (by omega),aR (i+1) (by omega) (by omega)]
   simp only [h,cm h,arP,arQ,arH,arJ,a6,arV,List.all_cons,pr,fF,dJ,AY];cases okB (s.getD i 0)<;>simp
  ·rw [g' s i h];simp [h]
def acn{n:Nat}(s:arY)(h:s.length<n)(hs:s.length≤4611686018427387904):Si n s=some (s.all okB):=by
 have:=anX n s hs n 0 (by omega) (by omega)
 rw [List.drop_zero]at this;exact this
def take_one(s:arY)(i:Nat)(h:i<s.length):(s.take (i+1)).drop i=[s.getD i 0]:=by
 rw [List.drop_take,fz s i 0 h];simp
def anY(n:Nat)(s:arY)(hs:s.length≤64):∀m i,s.length<i+m→i≤s.length→Ep n s m (34::gn (s.take i)) (i:Int)=some (quo s,0):=by
 intro m;induction m with
 |zero=>intro i h ab;omega
 |succ m aR=>
  intro i hm hi;simp only [Ep,Sl,Sj,Sk,Kl];have hlen:=xM (s.take i);have FF:(s.take i).length≤i:=by simp;omega
  by_cases h:i<s.length
  ·(rw [bx (by omega)];simp only [arP];rw [take_one s i h])
   have hn:=aR (i+1) (by omega) (by omega)
   have aA:s.take (i+1)=s.take i++[s.getD i 0]:=by
    rw [List.take_add,fz s i 0 h,List.take_succ_cons,List.take_zero]
   rw [aA,Mo]at hn;generalize s.getD i 0=c at hn
   simp only [h,cm h,arQ,arH,arJ,a6,arV,fA,dJ,FB (show i≤i+1 by omega) (show i+1≤s.length by omega)]
   by_cases hc:c.toNat=34∨c.toNat=92
   ·have hb:(decide (c.toNat=34)||decide (c.toNat=92))=true:=by rcases hc with hc|hc<;>rw [decide_eq_true hc]<;>simp
    rw [hb];simp only [arJ];rw [kJ (by simp only [arN,arO];omega),kJ (by simp only [arR,arN,arO];omega)]
    simp only [a6];rw [show(34::gn (s.take i)++[92]++[c])=34::(gn (s.take i)++gn [c])by simp only [gn];rw [if_pos hc];simp]
    exact hn
   ·have hb:(decide (c.toNat=34)||decide (c.toNat=92))=false:=by rw [decide_eq_false (λe=>hc (Or.inl e)),decide_eq_false (λe=>hc (Or.inr e))];rfl
    rw [hb];simp only [arK];rw [kJ (by simp only [arN,arO];omega)]
    simp only [a6];rw [show(34::gn (s.take i)++[c])=34::(gn (s.take i)++gn [c])by simp only [gn];rw [if_neg hc];simp]
    exact hn
  ·have Uz:i=s.length:=by omega
   subst Uz;simp only [arQ,Nat.lt_irrefl,arI,arK,List.take_length];have ae:=xM s;rw [kJ (by simp only [arN,arO];omega)]
   rfl
def anZ{n:Nat}(s:arY)(h:i7 s=true)(hn:100<n):Km n s=some (quo s,0):=by
 unfold i7 at h;simp only [Bool.and_eq_true,decide_eq_true_eq]at h;unfold Km;simp only [fF,show¬ 64<s.length by omega,arI,arK,acn s (show s.length<n by omega) (by omega),an,h.1,arL]
 exact anY n s (by omega) n 0 (by omega) (by omega)
open Go Go.Ab Go.Proofs
def an0(n:Nat):ly (n+1)=Kr n (ly n) (w_ n):=rfl
def an1(n:Nat):w_ (n+1)=Ks n (ly n) (w_ n):=rfl
def F2{n:Nat}{e:Expr}{k:Nat}(h:ly n e=some (flat (dc e)))(ae:(flat (dc e)).length≤100000000):w_ (n+1) e (k:Int)=some (flat (im e.Op (dc e) k)):=by
 rw [an1];unfold Ks im;rw [aci,h];simp only [an,arQ];by_cases hk:dW e.Op<k
 ·simp only [hk,arH,arJ,arW];rw [hl (by simp;omega),hl (by simp;omega)]
  simp only [a6,flat,oL,spell,cM];simp
 ·simp only [hk,arI,arK,arX]
def an2:∀(h:Nat) (e:Expr) (n:Nat),hW e≤h→iJ e→2*h+200≤n→cJ e≤1000000→ly n e=some (flat (dc e)):=by
 intro h;induction h with
 |zero=>intro e n he;rw [FT]at he;omega
 |succ h aR=>
  intro e n he ef hn L6;obtain⟨n,rfl⟩:∃j,n=j+1:=⟨n-1,by omega⟩
  obtain⟨n,rfl⟩:∃j,n=j+1:=⟨n-1,by omega⟩
  have nV:=(Mm e).1 ef;have uY:=qr e;rw [an0];unfold Kr;rw [aci];simp only [an];rcases Uw e ef with⟨Z,ao⟩|⟨Z,ao⟩|⟨Z,ao⟩|⟨ai,ao⟩|⟨a,ao,ha,bJ,f9⟩|⟨a,b,ao,ha,hb,bJ,f9⟩
  ·have e2:flat (dc e)=Lib.decDigits e.N.toNat++[]:=by rw [ao];rfl
   rw [acm _ (by omega) e.N (nV.2.1 Z).1 (nV.2.1 Z).2,e2,List.append_nil]
   simp only [Z,arH,arJ,an]
  ·have e2:flat (dc e)=quo e.S++[]:=by rw [ao];rfl
   rw [anZ e.S (nV.2.2.2.2.1 Z) (by omega),e2,List.append_nil]
   simp only [Z,show¬ (2:Int)=1 by omega,arH,arI,arJ,arK,an]
  ·have e2:flat (dc e)=e.S++[]:=by rw [ao];rfl
   rw [e2,List.append_nil];simp only [Z,show¬ (3:Int)=1 by omega,show¬ (3:Int)=2 by omega,arH,arI,arJ,arK]
  ·have hw:=Be e.Op;have UB:=acj (n+1) e.Op (by omega)
   have hH:dW e.Op=9:=by
    have:e.Op=25∨e.Op=26∨e.Op=27:=by omega
    rcases this with h|h|h<;>rw [h]<;>decide
   have e7:e.au=[]:=by rw [ao]
   have e2:flat (dc e)=spell (hN e.Op)++([40]++([41]++[])):=by
    generalize e.Op=op at ai ao
    rw [ao];simp only [dc,rB,ta];rw [if_neg (by omega),if_neg (by omega),if_neg (by omega)];rfl
   rw [UB,e2];simp only [an];rw [hl (show(spell (hN e.Op)).length+([40,41]:arY).length≤1000000000000 by simp;omega)]
   simp only [hH,e7,show¬ e.Op=1 by omega,show¬ e.Op=2 by omega,show¬ e.Op=3 by omega,show¬ e.Op=18 by omega,show¬ e.Op=9 by omega,arI,arK,arO,fA,arH,arJ,a6]
   simp
  ·have FW:cJ e=30+(cJ a+1):=by rw [ao];simp [cJ,kl]
   have qy:=aR a n (by omega) ha (by omega) (by omega)
   have UC:=aR a (n+1) (by omega) ha (by omega) (by omega)
   have FV:=qW (hW a) a (Nat.le_refl _) ha;have e7:e.au=[a]:=by rw [ao]
   have aq:=py a.Op (dc a) 3;have ek:=py a.Op (dc a) 8
   have e2:dc e=if e.Op=18 then some (fg [110,111,116])::none::im a.Op (dc a) 3 else if e.Op=9 then some (cM [45])::im a.Op (dc a) 8 else some (hN e.Op)::some (cM [40])::(dc a++[some (cM [41])]):=by
    generalize e.Op=op at f9 ao
    rw [ao];simp only [dc,rB,ta];rw [if_neg (by omega),if_neg (by omega),if_neg (by omega)]
   rw [e2,e7];simp only [arN,arO,ml (show 0<0+1 by omega),a6,List.getD_cons_zero,show¬ e.Op=1 by omega,show¬ e.Op=2 by omega,show¬ e.Op=3 by omega,arI,arK]
   by_cases xN:e.Op=18
   ·have:=F2 (k:=3) qy (by omega)
    rw [xN];simp only [arH,arJ,arW,show dW 18=3 from rfl]
    rw [this];simp only [an];rw [hl (by simp;omega)]
    rfl
   ·by_cases iG:e.Op=9
    ·have:=F2 (k:=8) qy (by omega)
     rw [iG];simp only [show¬ (9:Int)=18 by omega,arH,arI,arJ,arK,arW,arX,show dW 9=8 from rfl]
     rw [this];simp only [an];rw [hl (by simp;omega)]
     rfl
    ·have anz:20≤e.Op∧e.Op≤24:=by omega
     have hH:dW e.Op=9:=by
      have:e.Op=20∨e.Op=21∨e.Op=22∨e.Op=23∨e.Op=24:=by omega
      rcases this with h|h|h|h|h<;>rw [h]<;>decide
     have hw:=Be e.Op;rw [acj (n+1) e.Op (by omega),UC,if_neg xN,if_neg iG]
     have e3:flat (some (hN e.Op)::some (cM [40])::(dc a++[some (cM [41])]))=spell (hN e.Op)++([40]++(flat (dc a)++([41]++[]))):=by
      simp only [flat,oL];rfl
     rw [e3];generalize spell (hN e.Op)=W at hw
     simp only [xN,iG,hH,arI,arH,arK,arJ,an];rw [hl (show W.length+(0+1)≤1000000000000 by omega),hl (show(W++([40]:arY)).length+(flat (dc a)).length≤1000000000000 by simp;omega),hl (show((W++([40]:arY))++flat (dc a)).length+(0+1)≤1000000000000 by simp;omega)]
     simp only [show((0+1:Nat):Int)=1 from rfl,show¬ (1:Int)=0 by omega,show((9:Nat):Int)=9 from rfl,arH,arI,arJ,arK,a6]
     simp
  ·have FW:cJ e=30+(cJ a+1+(cJ b+1)):=by rw [ao];simp [cJ,kl]
   have qy:=aR a n (by omega) ha (by omega) (by omega)
   have UD:=aR b n (by omega) hb (by omega) (by omega)
   have FV:=qW (hW a) a (Nat.le_refl _) ha;have ab3:=qW (hW b) b (Nat.le_refl _) hb;have e7:e.au=[a,b]:=by rw [ao]
   have hH:=abY f9;have anA:=UA e.Op
   have e2:dc e=im a.Op (dc a) (if dW e.Op=4 then 5 else dW e.Op)++none::some (mL e.Op)::none::im b.Op (dc b) (dW e.Op+1):=by
    generalize e.Op=op at f9 ao
    rw [ao,Mn f9]
   have aq:=py a.Op (dc a) (if dW e.Op=4 then 5 else dW e.Op)
   have ek:=py b.Op (dc b) (dW e.Op+1);have xO:=F2 (k:=dW e.Op+1) UD (by omega)
   rw [e2,e7,anV (n+1) e.Op f9];simp only [arN,arO,ml (show 0<0+1+1 by omega),a6,List.getD_cons_zero,List.getD_cons_succ,show¬ e.Op=1 by omega,show¬ e.Op=2 by omega,show¬ e.Op=3 by omega,show¬ e.Op=18 by omega,show¬ e.Op=9 by omega,arI,arK,fA,show¬ dW e.Op=9 by omega,show aM 1 (0+1+1)=true from rfl]
   by_cases aN:dW e.Op=4
   ·have r_:=F2 (k:=5) qy (by omega)
    rw [aN]at xO ⊢;rw [if_pos rfl];rw [if_pos aN]at aq;simp only [arH,arJ];rw [show w_ (n+1) a 5=_ from r_,show w_ (n+1) b 5=_ from xO]
    simp only [an];rw [aN]at ek;rw [hl (by simp;omega),hl (by simp;omega),hl (by simp;omega),hl (by simp only [arR,arN,arO];omega)]
    simp only [a6,oL,flat];simp
   ·have r_:=F2 (k:=dW e.Op) qy (by omega)
    rw [if_neg aN]at aq ⊢;simp only [aN,arI,arK];rw [r_,bx (by omega),xO]
    simp only [an];rw [hl (by simp;omega),hl (by simp;omega),hl (by simp;omega),hl (by simp only [arR,arN,arO];omega)]
    simp only [a6,oL,flat];simp
open Go Go.Ab Go.Proofs
def an3(n d:Nat)(hd:d≤100):∀m i,d<i+m→i≤d→Eo n (d:Int) m (ind i) (i:Int)=some (ind d):=by
 intro m;induction m with
 |zero=>intro i h ab;omega
 |succ m aR=>
  intro i hm hi;simp only [Eo,Se,Sd,arQ];by_cases h:i<d
  ·simp only [h,arH,arJ];rw [kJ (by rw [F0];simp;omega),bx (by omega),←UF,aR (i+1) (by omega) (by omega)]
   rfl
  ·simp only [h,arI,arK];rw [show i=d by omega]
def an4{n d:Nat}(hd:d≤100)(hn:d<n):Sf n (d:Int)=some (ind d):=an3 n d hd n 0 (by omega) (by omega)
def aco{n:Nat}{e:Expr}(h:mM e)(hn:300≤n)(b5:cJ e≤1000000):ly n e=some (gq e):=an2 (hW e) e n (Nat.le_refl _) h.1 (by have:=h.2;omega) b5
def an5(n:Nat):rq (n+1)=Kt n (rq n) (Ai n):=rfl
def an6(n:Nat):Ai (n+1)=Ku n (rq n) (Ai n):=rfl
set_option maxHeartbeats 4000000 in
def an7{n:Nat}{s:Stmt}{d:Nat}(ef:Bg s d)(b5:fst s≤300000)(hn:500≤n)
 (hb:rq n s.Body ((d+1:Nat):Int)=some (gE s.Body (d+1))) (he:rq n s.bK ((d+1:Nat):Int)=some (gE s.bK (d+1))):Ai (n+1) s (d:Int)=some (f6 s d):=by
 obtain⟨hd,hsh,cv,nV⟩:=(Mq s d).1 ef;have Z:=oN _ _ cv;have ab:=oN _ _ nV;have hi:=F0 d;obtain⟨Op,Name,Max,A,B,Body,bK⟩:=s
 dsimp only at hb he cv nV Z ab
 have nl:cJ A≤300000∧cJ B≤300000∧dP Body≤300000∧dP bK≤300000:=by simp only [fst]at b5;omega
 obtain⟨f1,f2,f3,f4⟩:=nl;rw [an6];unfold Ku;rw [an4 (by omega) (by omega)]
 simp only [an,gd,bx (show d≤4611686018427387904 by omega)]
 have eW:mM A→ly n A=some (gq A)∧(gq A).length≤1200000:=λh=>⟨aco h (by omega) (by omega),by have:=mN h;omega⟩
 have eR:mM B→ly n B=some (gq B)∧(gq B).length≤1200000:=λh=>⟨aco h (by omega) (by omega),by have:=mN h;omega⟩
 have aY:g_ Name=true→Name.length≤16:=λh=>by obtain⟨_,_,_,_,_,_,h⟩:=abV h;exact h
 have c8:0≤Max∧Max≤999→w8 n Max=some (Lib.decDigits Max.toNat)∧(Lib.decDigits Max.toNat).length≤21:=λh=>⟨acm n (by omega) Max h.1 (by omega),Bd Max h.1 (by omega)⟩
 unfold f6;unfold FY at hsh;simp only at hsh
 rcases hsh with⟨aw,ao,Cx,ha⟩|⟨ao,ha,qR⟩|⟨aw,ao,ha⟩|⟨ao,ha⟩|⟨ao,Cx,OC,ha,qR⟩|⟨ao,OC⟩
 ·obtain⟨aW,a2⟩:=eW ha;have a3:=aY Cx;rcases aw with rfl|rfl
  ·simp (disch:=first|omega|(simp only [arR,arN,arO];omega)) only [aW,decide_true,cond_true,an,kJ,a6,if_true,eu,cat]
   simp
  ·simp (disch:=first|omega|(simp only [arR,arN,arO];omega)) only [aW,show¬ (2:Int)=1 by omega,decide_true,decide_false,cond_false,if_false,cond_true,an,kJ,a6,if_true,eu,cat]
   simp
 ·cases ao;obtain⟨aW,a2⟩:=eW ha;obtain⟨df,hG⟩:=eR qR;simp (disch:=first|omega|(simp only [arR,arN,arO];omega)) only [aW,df,show¬ (3:Int)=1 by omega,show¬ (3:Int)=2 by omega,decide_true,decide_false,cond_false,if_false,cond_true,an,kJ,a6,if_true,eu,cat]
  simp
 ·obtain⟨aW,a2⟩:=eW ha;rcases aw with rfl|rfl<;>simp (disch:=first|omega|(simp only [arR,arN,arO];omega)) only [aW,show¬ (4:Int)=1 by omega,show¬ (4:Int)=2 by omega,show¬ (4:Int)=3 by omega,show¬ (7:Int)=1 by omega,show¬ (7:Int)=2 by omega,show¬ (7:Int)=3 by omega,show¬ (7:Int)=4 by omega,show¬ (7:Int)=5 by omega,show¬ (7:Int)=6 by omega,decide_true,decide_false,cond_false,if_false,cond_true,an,kJ,a6,if_true,eu,cat]<;>simp
 ·cases ao;obtain⟨aW,a2⟩:=eW ha;have cc:¬ (5:Int)=1∧¬ (5:Int)=2∧¬ (5:Int)=3∧¬ (5:Int)=4∧¬ (5:Int)=7∧¬ (5:Int)=8∧¬ (5:Int)=6:=by omega
  obtain⟨e1,e2,e3,gg,oI,Ms,pw⟩:=cc;by_cases cX:bK.length=0
  ·simp (disch:=first|omega|(simp only [arR,arN,arO];omega)) only [aW,hb,e1,e2,e3,gg,pw,oI,Ms,cX,Es,Int.lt_irrefl,show¬ ((0:Int)<((0:Nat):Int))by omega,decide_true,decide_false,cond_false,if_false,cond_true,an,kJ,a6,if_true,eu,cat]
   simp
  ·have hp:(0:Int)<((bK.length:Nat):Int):=by omega
   simp (disch:=first|omega|(simp only [arR,arN,arO];omega)) only [aW,hb,he,hp,e1,e2,e3,gg,pw,oI,Ms,cX,Es,decide_true,decide_false,cond_false,if_false,cond_true,an,kJ,a6,if_true,eu,cat]
   simp
 ·cases ao;obtain⟨aW,a2⟩:=eW ha;obtain⟨df,hG⟩:=eR qR;obtain⟨m1,m2⟩:=c8 ⟨by omega,by omega⟩
  have a3:=aY Cx;have cc:¬ (6:Int)=1∧¬ (6:Int)=2∧¬ (6:Int)=3∧¬ (6:Int)=4∧¬ (6:Int)=7∧¬ (6:Int)=8∧¬ (6:Int)=5:=by omega
  obtain⟨e1,e2,e3,gg,oI,Ms,lh⟩:=cc;simp (disch:=first|omega|(simp only [arR,arN,arO];omega)) only [aW,df,m1,hb,e1,e2,e3,gg,lh,oI,Ms,decide_true,decide_false,cond_false,if_false,cond_true,an,kJ,a6,if_true,eu,cat]
  simp
 ·cases ao;obtain⟨m1,m2⟩:=c8 ⟨by omega,by omega⟩
  have cc:¬ (8:Int)=1∧¬ (8:Int)=2∧¬ (8:Int)=3∧¬ (8:Int)=4∧¬ (8:Int)=7∧¬ (8:Int)=5∧¬ (8:Int)=6:=by omega
  obtain⟨e1,e2,e3,gg,oI,lh,pw⟩:=cc;simp (disch:=first|omega|(simp only [arR,arN,arO];omega)) only [m1,e1,e2,e3,gg,lh,pw,oI,decide_true,decide_false,cond_false,if_false,cond_true,an,kJ,a6,if_true,eu,cat]
  simp
open Go Go.Ab Go.Proofs
def an8:∀(n:Nat) (l:List Stmt) (d:Nat),lY l d→dP l≤300000→2*dP l+600≤n→rq n l (d:Int)=some (gE l d):=by
 intro n;induction n using Nat.strongRecOn with
 |_ n aR=>
  intro l d ef b5 hn;obtain⟨n,rfl⟩:∃k,n=k+2:=⟨n-2,by omega⟩
  have hlen:=xG l;rw [an5];unfold Kt
  have hr:∀m i,l.length<i+m→i≤l.length→Er (n+1) (rq (n+1)) (Ai (n+1)) l (d:Int) m (gE (l.take i) d) (i:Int)=some (gE l d):=by
   intro m;induction m with
   |zero=>intro i Z ab;omega
   |succ m jO=>
    intro i Z ab;simp only [Er,So,Sn,arQ,arP,jC];by_cases hi:i<l.length
    ·simp only [hi,arH,arJ,cm hi,a6];have dC:=UG l i d hi ef;have ry:lY (l.take i) d:=((UH (l.take i) (l.drop i) d).1 (by rw [List.take_append_drop];exact ef)).1
     have p1:=oN _ _ ry
     have CA:dP l=dP (l.take i)+(fst (l.getD i default)+1+dP (l.drop (i+1))):=by
      have:dP l=dP (l.take i++l.drop i):=by rw [List.take_append_drop]
      rw [L9,fz l i default hi]at this;simpa only [dP]using this
     have gw:=jO (i+1) (by omega) (by omega)
     rw [u9 l i hi,UI]at gw;generalize l.getD i default=s at dC CA gw
     have hx:=ab' s d dC;have uY:=fst_eq s;obtain⟨_,_,an9,F3⟩:=(Mq s d).1 dC;have hb:=aR n (by omega) s.Body (d+1) an9 (by omega) (by omega)
     have he:=aR n (by omega) s.bK (d+1) F3 (by omega) (by omega)
     rw [an7 dC (by omega) (by omega) hb he,an,kJ (by omega),a6,bx (by omega)]
     simpa only [gE,List.append_nil]using gw
    ·simp only [hi,arI,arK];rw [List.take_of_length_le (by omega)]
  exact hr (n+1) 0 (by omega) (by omega)
open Go Go.Ab Go.Proofs
def an'(n:Nat)(t:Int):Sp n t=some (rC t):=ace n t
def acp(x:arY):∀l:List arY,Lib.joinTail [44,32] (l++[x])=Lib.joinTail [44,32] l++([44,32]++x)
 |[]=>by simp [Lib.joinTail]
 |y::l=>by rw [List.cons_append,UL,UL,acp x l];simp
def an_(x:arY)(l:List arY):Lib.join (l++[x]) [44,32]=(if l.length=0 then Lib.join l [44,32]else Lib.join l [44,32]++[44,32])++x:=by
 cases l with
 |nil=>simp [Lib.join,Lib.joinTail]
 |cons y l=>rw [List.cons_append,Lib.join_cons,Lib.join_cons,acp,if_neg (by simp)];simp
def aoa{n:Nat}(p:a_)(hi:Bf p)(ax:nT p=0)(hn:3000000≤n)(b5:f5 p.Params≤300000)(eR:dP p.Body≤300000):xa n p=some (oO p):=by
 have hp:=ab8 hi ax;obtain⟨Z,ab,aq⟩:=hp;obtain⟨aN,bn⟩:=UJ ab;have ep:=oM Z;have ek:=oN p.Body 1 aq;unfold xa;rw [Ut p (by omega) (by omega) (by omega) (by omega) (by omega) (by omega) (by omega),ax]
 simp only [an,arH,arL,arK];rw [kJ (by simp only [arN,arO];omega),kJ (by simp only [arR,arN,arO];omega)]
 simp only [a6]
 have hr:∀m i,p.Params.length<i+m→i≤p.Params.length→Eu n p m ((([112,114,111,99,32]++p.Name)++[40])++pz (p.Params.take i)) (i:Int)=some (oO p):=by
  intro m;induction m with
  |zero=>intro i g1 g2;omega
  |succ m aR=>
   intro i g1 g2;have acq:(pz (p.Params.take i)).length≤24*(p.Params.take i).length:=UM λx hx=>bn x (List.mem_of_mem_take hx)
   have aob:(p.Params.take i).length≤6:=by simp;omega
   simp only [Eu,Ss,Kw,Sr,arQ,arP];by_cases hi:i<p.Params.length
   ·have hx:=bn (p.Params.getD i default) (by rw [List.getD_eq_getElem?_getD,List.getElem?_eq_getElem hi];exact List.getElem_mem hi)
    have hnx:=oM hx.1;have ach:=UK (p.Params.getD i default).fS;have gw:=aR (i+1) (by omega) (by omega)
    unfold pz at gw acq ⊢;rw [u9 p.Params i hi,List.map_append]at gw;simp only [List.map_cons,List.map_nil]at gw;rw [an_]at gw;generalize mW:p.Params.getD i default=x at gw hnx ach
    simp only [hi,arH,arJ,cm hi,a6,an',an,bx (show i≤4611686018427387904 by omega),fF]
    by_cases h0:i=0
    ·subst h0;simp (disch:=first|omega|(simp only [arR,arN,arO];omega)) only [Nat.lt_irrefl,decide_false,cond_false,kJ,a6]
     rw [←gw];simp [qz]
    ·simp (disch:=first|omega|(simp only [arR,arN,arO];omega)) only [show 0<i by omega,decide_true,cond_true,kJ,a6]
     rw [←gw,if_neg (by rw [List.length_map,List.length_take];omega)];simp [qz]
   ·simp only [hi,arI,arK];obtain rfl:i=p.Params.length:=by omega
    unfold Sq;rw [List.take_length]at acq aob ⊢;rw [show(1:Int)=((1:Nat):Int)from rfl,an8 n p.Body 1 aq eR (by omega)]
    simp (disch:=first|omega|(simp only [arR,arN,arO];omega)) only [an,kJ,a6]
    simp [oO,eu,cat,ind]
 have:=hr n 0 (by omega) (by omega)
 rw [show pz (p.Params.take 0)=[]from rfl,List.append_nil]at this
 exact this
open Go Go.Ab Go.Proofs
def aoc{β:Type}{L:Nat→Int→Option β}{len:Nat}{chk:Nat→Bool}{no yes:β}
 (step:∀m i,i<len→L (m+1) (i:Int)=if chk i then L m ((i+1:Nat):Int)else some no) (stop:∀m,L (m+1) (len:Int)=some yes):
 ∀m i,len<i+m→i≤len→L m (i:Int)=some (if(List.range' i (len-i)).all chk then yes else no):=by
 intro m;induction m with
 |zero=>intro i h ab;omega
 |succ m aR=>
  intro i h ab;by_cases hi:i<len
  ·rw [step m i hi,aR (i+1) (by omega) (by omega),show len-i=(len-(i+1))+1 by omega,List.range'_succ,List.all_cons]
   cases chk i
   ·rfl
   ·rw [if_pos rfl,Bool.true_and]
  ·obtain rfl:i=len:=by omega
   rw [stop m];simp
def UN{β:Type}{L:Nat→Int→Option β}{len:Nat}{chk:Nat→Bool}{no yes:β}{m:Nat}(hm:len<m)
 (step:∀m i,i<len→L (m+1) (i:Int)=if chk i then L m ((i+1:Nat):Int)else some no) (stop:∀m,L (m+1) (len:Int)=some yes):
 L m 0=some (if(List.range len).all chk then yes else no):=by
 have:=aoc step stop m 0 (by omega) (by omega)
 rwa [Nat.sub_zero,←List.range_eq_range']at this
def qB(c:UInt8):Bool:=decide (97≤c.toNat∧c.toNat≤122)||decide (48≤c.toNat∧c.toNat≤57)||decide (c.toNat=47)||decide (c.toNat=46)||decide (c.toNat=95)||decide (c.toNat=45)
def k8(k:arY):Bool:=decide (1≤k.length)&&decide (k.length≤24)&&(List.range k.length).all λi=>qB (k.getD i 0)
def aod{n:Nat}{s:arY}(h:24<n):HZ n s=some (decide (s.length≤24)&&(List.range s.length).all λi=>qB (s.getD i 0)):=by
 unfold HZ;by_cases ae:s.length≤24
 ·simp only [fF,show¬ 24<s.length by omega,arI,arK,ae,arH,Bool.true_and]
  rw [UN (L:=y0 n s) (len:=s.length) (chk:=λi=>qB (s.getD i 0)) (no:=false) (yes:=true) (by omega)]
  ·cases (List.range s.length).all λi=>qB (s.getD i 0)<;>rfl
  ·intro m i hi;simp only [y0,HY,Pc,arQ,hi,arH,arJ,cm hi,a6,an,arP,bx (show i≤4611686018427387904 by omega),s6,lA,fA,dJ,dV]
   have:(((((decide (97≤(s.getD i 0).toNat)&&decide ((s.getD i 0).toNat≤122)||(decide (48≤(s.getD i 0).toNat)&&decide ((s.getD i 0).toNat≤57)))||decide ((s.getD i 0).toNat=47))||decide ((s.getD i 0).toNat=46))||decide ((s.getD i 0).toNat=95))||decide ((s.getD i 0).toNat=45))=qB (s.getD i 0):=by
    simp [qB,Bool.decide_and]
   rw [this];cases qB (s.getD i 0)<;>rfl
  ·intro m;simp only [y0,HY,Pd,arU,arI,arK]
 ·simp only [fF,show 24<s.length by omega,arH,arJ,ae,arI,Bool.false_and]
def Mt{n:Nat}{k:arY}(h:24<n):wz n k=some (k8 k):=by
 unfold wz k8;rw [aod h];cases k with
 |nil=>rfl
 |cons c l=>simp [an]
def aoe(c:Nat):(((((decide (c<97)||decide (122<c))&&(decide (c<48)||decide (57<c))) && !decide (c=47)) && !decide (c=46)) && !decide (c=95) && !decide (c=45)) = !(decide (97≤c∧c≤122)||decide (48≤c∧c≤57)||decide (c=47)||decide (c=46)||decide (c=95)||decide (c=45)):=by
 rw [Bool.eq_iff_iff];simp only [Bool.and_eq_true,Bool.or_eq_true,decide_eq_true_eq,Bool.not_eq_true',Bool.or_eq_false_iff,decide_eq_false_iff_not];omega
def Mu{n:Nat}{k:arY}(h:k.length<n)(hk:k.length≤4611686018427387904):w5 n k=some (k8 k):=by
 unfold w5;rw [UN (L:=zY n k) (len:=k.length) (chk:=λi=>qB (k.getD i 0)) (no:=false) (yes:=decide (1≤k.length)&&decide (k.length≤24)) h]
 ·unfold k8;cases (List.range k.length).all λi=>qB (k.getD i 0)<;>simp
 ·intro m i hi;simp only [zY,JW,arQ,hi,arH,arJ,cm hi,a6,arP,bx (show i≤4611686018427387904 by omega),pr,fF,fA,dJ,dV]
  have:=aoe (k.getD i 0).toNat
  rw [show(decide (97≤(k.getD i 0).toNat∧(k.getD i 0).toNat≤122)||decide (48≤(k.getD i 0).toNat∧(k.getD i 0).toNat≤57)||decide ((k.getD i 0).toNat=47)||decide ((k.getD i 0).toNat=46)||decide ((k.getD i 0).toNat=95)||decide ((k.getD i 0).toNat=45))=qB (k.getD i 0)from rfl]at this
  rw [this];cases qB (k.getD i 0)<;>rfl
 ·intro m;simp only [zY,JW,Rz,arU,arI,arK,s6,lA,dV]
open Go Go.Ab Go.Proofs
def acr(n:Nat)(s:arY):∀m,CS n s m=y7 n s m
 | 0=>rfl
 |m+1=>by
  show Pg n s (CS n s m)=_
  rw [acr n s m];rfl
def acs{n:Nat}{s:arY}(h:s.length<n)(hs:s.length≤4611686018427387904):CT n s=some (i7 s):=by
 unfold CT;rw [acr];exact aaR h hs
def act(n:Nat)(s:arY):∀m,D6 n s m=Af n s m
 | 0=>rfl
 |m+1=>by
  show RA n s (D6 n s m)=_
  rw [act n s m];rfl
def acu{n:Nat}{s:arY}(h:s.length<n)(hs:s.length≤4611686018427387904):D7 n s=some (i7 s):=by
 unfold D7 i7;by_cases ae:s.length≤64
 ·simp only [fF,show¬ 64<s.length by omega,arI,arK,ae,arH,Bool.and_true]
  rw [act];exact acn s h hs
 ·simp only [fF,show 64<s.length by omega,arH,arJ,ae,arI,Bool.and_false]
def ko(v:bk):Bool:=if v.Kind=0 then decide (v.N=0)&&decide (v.S=[])else if v.Kind=1 then decide (v.S=[])else decide (v.Kind=2)&&decide (v.N=0)&&i7 v.S
def Mv{n:Nat}{v:bk}(h:v.S.length<n)(hs:v.S.length≤4611686018427387904):sq n v=some (ko v):=by
 unfold sq ko;by_cases h0:v.Kind=0
 ·simp [h0]
 ·by_cases Z:v.Kind=1
  ·simp [Z]
  ·by_cases ab:v.Kind=2
   ·by_cases aq:v.N=0
    ·simp [ab,aq,acs h hs]
    ·simp [ab,aq]
   ·simp [h0,Z,ab]
def Mw{n:Nat}{v:bk}(h:v.S.length<n)(hs:v.S.length≤4611686018427387904):uC n v=some (ko v):=by
 unfold uC ko;by_cases h0:v.Kind=0
 ·by_cases aq:v.N=0<;>simp [h0,aq]
 ·by_cases Z:v.Kind=1
  ·simp [Z]
  ·by_cases ab:v.Kind=2
   ·by_cases aq:v.N=0
    ·simp [ab,aq,acu h hs]
    ·simp [ab,aq]
   ·simp [h0,Z,ab]
def ci(v:bk):arY:=if v.Kind=1 then gF 1++qA v.N else if v.Kind=2 then gF 2++iq v.S else gF 0
open Go Go.Ab Go.Proofs
def acv:∀(l:arY) (u:Nat),l.all jA=true→val u l<(u+1)*10 ^ l.length
 |[],u,_=>by simp [LV]
 |c::l,u,h=>by
  simp only [List.all_cons,Bool.and_eq_true,u0]at h;have:=acv l (u*10+(c.toNat-48)) h.2
  rw [LW,arN,Nat.pow_succ];have ab:(u*10+(c.toNat-48)+1)*10 ^ l.length≤((u+1)*10)*10 ^ l.length:=Nat.mul_le_mul_right _ (by omega)
  rw [Nat.mul_assoc,Nat.mul_comm 10]at ab;omega
def acw:∀(k u:Nat),u<10 ^ (k+1)→(Lib.decDigits u).length≤k+1
 | 0,u,h=>by
  rw [abU,if_pos (by simpa using h)];simp
 |k+1,u,h=>by
  rw [abU];by_cases hu:u<10
  ·rw [if_pos hu];simp
  ·rw [if_neg hu];have:=acw k (u / 10) (by rw [Nat.pow_succ]at h;omega)
   simp only [arR,arN,arO];omega
def UO:∀(l acc:arY) (p:arY×Nat),fQ l acc = .inr p→acc.all okB=true→acc.length≤64→p.1.all okB=true∧p.1.length≤64∧(gn p.1).length+1≤(gn acc).length+p.2
 |[],acc,p,h,_,_=>by simp only [fQ,reduceCtorEq]at h
 |[c],acc,p,h,ha,ae=>by
  simp only [fQ]at h;split at h
  ·obtain rfl:=Sum.inr.inj h;exact⟨ha,ae,Nat.le_refl _⟩
  ·(repeat' split at h)<;>cases h
 |c::d::l,acc,p,h,ha,ae=>by
  simp only [fQ]at h;split at h
  ·obtain rfl:=Sum.inr.inj h;exact⟨ha,ae,Nat.le_refl _⟩
  ·rename_i gD;split at h
   ·rename_i mH;split at h
    ·cases h
    ·rename_i hd;split at h
     ·cases h
     ·rename_i oG;cases ao:fQ l (acc++[d]) with
      |inl e=>rw [ao]at h;cases h
      |inr q=>
       rw [ao]at h;obtain rfl:=Sum.inr.inj h;have jF:d.toNat=34∨d.toNat=92:=by omega
       have aof:okB d=true:=by
        unfold okB;rcases jF with e|e<;>rw [e]<;>rfl
       obtain⟨Z,ab,aq⟩:=UO l (acc++[d]) q ao (by simp [ha,aof]) (by simp;omega)
       refine⟨Z,ab,?_⟩
       rw [Mo,arR]at aq;have:(gn [d]).length=2:=by simp only [gn];rw [if_pos jF];rfl
       simp only;omega
   ·rename_i mH;split at h
    ·cases h
    ·rename_i ef;split at h
     ·cases h
     ·rename_i oG;cases ao:fQ (d::l) (acc++[c]) with
      |inl e=>rw [ao]at h;cases h
      |inr q=>
       rw [ao]at h;obtain rfl:=Sum.inr.inj h;obtain⟨Z,ab,aq⟩:=UO (d::l) (acc++[c]) q ao (by simp [ha];simpa using ef) (by simp;omega)
       refine⟨Z,ab,?_⟩
       rw [Mo,arR]at aq;have:(gn [c]).length=1:=by simp only [gn];rw [if_neg (by omega)];rfl
       simp only;omega
termination_by l=>l.length
def aog(s:arY)(hs:s≠[])(h:(gb s).2.2=0):mm (gb s).1∧(spell (gb s).1).length≤(gb s).2.1:=by
 have hm:=T0 s 0 hs h;cases s with
 |nil=>exact absurd rfl hs
 |cons c t=>
  unfold gb at h hm ⊢;simp only at h hm ⊢
  split at h
  ·rename_i hw;rw [if_pos hw]at hm ⊢
   have xC:1≤gN (c::t)∧gN (c::t)≤(c::t).length:=by
    unfold gN;rw [List.takeWhile_cons_of_pos hw];have:=(List.takeWhile_sublist (p:=ih) (l:=t)).length_le
    simp only [arN];omega
   have hlen:((c::t).take (gN (c::t))).length=gN (c::t):=by rw [List.length_take];omega
   simp only at h ⊢
   generalize (c::t).take (gN (c::t))=w at h hlen
   cases w with
   |nil=>simp at hlen;omega
   |cons d w=>
    unfold pu at h ⊢;simp only at h ⊢
    split at h
    ·rename_i bO;rw [if_pos bO];split at h
     ·rename_i hk;rw [if_pos hk];exact⟨⟨rfl,Or.inr (Or.inl ⟨rfl,of_decide_eq_true hk,rfl⟩)⟩,by show(d::w).length≤_;omega⟩
     ·rename_i hk;rw [if_neg hk];split at h
      ·rename_i hn;rw [if_pos hn];exact⟨⟨rfl,Or.inl ⟨rfl,hn,rfl⟩⟩,by show(d::w).length≤_;omega⟩
      ·simp at h
    ·rename_i bO;rw [if_neg bO];split at h
     ·rename_i hn;rw [if_pos hn];unfold pt at hn ⊢;split at hn
      ·rename_i hd;rw [if_pos hd];split at hn
       ·rename_i ax;rw [if_pos ax];refine⟨⟨rfl,Or.inr (Or.inr (Or.inl ⟨rfl,rfl,by simp,by simp only;omega⟩))⟩,?_⟩
        show(Lib.decDigits (Int.toNat ((val 0 (d::w):Nat):Int))).length≤_
        (simp only [arP])
        have aoh:=acv (d::w) 0 hd.1;have:=acw w.length (val 0 (d::w)) (by simpa using aoh)
        simp only [arN]at hlen;omega
       ·simp at hn
      ·simp at hn
     ·rename_i hn;simp only at h
      exact absurd h hn
  ·rename_i hw;rw [if_neg hw]at hm ⊢;split at h
   ·rename_i gD;rw [if_pos gD]at hm ⊢;cases ao:fQ t [] with
    |inl e=>
     rw [ao]at h;exact absurd h (A3 _ _ _ ao)
    |inr p=>
     obtain⟨Z,ab,aq⟩:=UO t [] p ao rfl (by simp)
     refine⟨⟨rfl,Or.inr (Or.inr (Or.inr (Or.inl ⟨rfl,by
      show i7 p.1=true
      unfold i7;rw [Z,decide_eq_true ab];rfl,rfl⟩)))⟩,?_⟩
     show(quo p.1).length≤p.2+1
     unfold quo;simp only [gn,arO]at aq;simp only [arN,arR,arO];omega
   ·rename_i gD;rw [if_neg gD]at hm ⊢;split at h
    ·simp at h
    ·rename_i yM;rw [if_neg yM]at hm ⊢;exact⟨⟨rfl,Or.inr (Or.inr (Or.inr (Or.inr ⟨rfl,hm rfl,rfl⟩)))⟩,Nat.le_refl _⟩
open Go Go.Ab Go.Proofs
def c7:List Token→Nat
 |[]=>0
 |t::l=>(spell t).length+c7 l
def l1:∀l m:List Token,c7 (l++m)=c7 l+c7 m
 |[],m=>by simp [c7]
 |t::l,m=>by simp only [List.cons_append,c7,l1 l m];omega
def te{α:Type}[Inhabited α]{l:List α}{i:Nat}(h:i<l.length):l.getD i default∈l:=by
 rw [List.getD_eq_getElem?_getD,List.getElem?_eq_getElem h];exact List.getElem_mem h
def bI(l:List Token)(i:Nat):Nat:=c7 (l.take i)
def bX{α β:Type}(Q:α→β→Prop)(p:Option (aC α β)):Prop:=∀a z,p=some (.ret a z)→Q a z
def bX.ret{α β:Type}{Q:α→β→Prop}{a:α}{z:β}(h:Q a z):bX Q (some (.ret a z)):=λdH F4 e=>by cases e;exact h
def bX.aK{α β:Type}{Q:α→β→Prop}{x:V}{z:β}:bX Q (some (.aK x z)):=λdH F4 e=>by cases e
def bX.none{α β:Type}{Q:α→β→Prop}:bX Q none:=λdH F4 e=>by cases e
def bX.bind{α β dq f0:Type}{Q:α→β→Prop}{R:dq→f0→Prop}{p:Option (aC α β)}{f:α→β→Option (aC dq f0)}{h:V→β→Option (aC dq f0)}(hp:bX Q p)(b5:∀a z,Q a z→bX R (f a z))(bJ:∀x z,bX R (h x z)):
 bX R (Option.bind p λr=>aC.on r f h):=by
 match p,hp with
 |.none,_=>exact .none
 |some (.ret a z),hp=>exact b5 a z (hp a z rfl)
 |some (.aK x z),_=>exact bJ x z
def bX.bif{dq f0:Type}{R:dq→f0→Prop}{c:Bool}{p q:Option (aC dq f0)}(Z:c=true→bX R p)(ab:c=false→bX R q):bX R (bif c then p else q):=by cases c;exact ab rfl;exact Z rfl
def bX.av{dq f0:Type}{R:dq→f0→Prop}{c:Bool}{p:Option (aC dq f0)}(Z:bX R p):bX R (Go.Ab.av c p):=by cases c;exact .none;exact Z
section
variable {l:List Token}
theorem tf(i:Nat)(h:i<l.length):bI l (i+1)=bI l i+(spell (l.getD i default)).length:=by
 unfold bI;rw [u9 l i h,l1];simp [c7]
theorem hY{i:Nat}{w:arY}(h:bL l i w=true):i<l.length∧bI l (i+1)=bI l i+w.length:=by
 have hi:=gV h;refine⟨hi,?_⟩
 unfold bL at h;simp only [Bool.and_eq_true,Bool.or_eq_true,decide_eq_true_eq]at h;rw [tf i hi];unfold spell;rw [if_neg (by omega),if_neg (by omega),h.2.2]
theorem acx(n:Nat)(c:Int)(i:Nat)(ae:l.length≤1000000000):bX (λ_ _=>False) (Jy n c ⟨l,(i:Int)⟩):=by
 rw [T1 n l i c (by omega)];exact .aK
theorem nZ(n:Nat)(w:arY)(i:Nat)(ae:l.length≤1000000000)(hi:i≤l.length):bX (λ_ z=>z=((i+1:Nat):Int)∧bL l i w=true) (iQ n w ⟨l,(i:Int)⟩):=by
 rw [nR n l i w (by omega) (by omega)]
 cases h:bL l i w
 ·exact .aK
 ·exact .ret ⟨rfl,rfl⟩
theorem UP(n:Nat)(d:Int)(b:a1):bX (λ_ _=>True) (sD n d b):=λ_ _ _=>trivial
theorem Bk(n:Nat)(e8:Int)(i:Nat)(ae:l.length≤1000000000)(hi:i≤l.length):bX (λt z=>z=((i+1:Nat):Int)∧i<l.length∧t=l.getD i default∧t.Kind=e8) (nB n e8 ⟨l,(i:Int)⟩):=by
 rw [A7 n l i e8 ae hi];split
 ·rename_i h;exact .ret ⟨rfl,h.1,rfl,h.2⟩
 ·exact .aK
theorem aoi{i:Nat}(h:(hL l i).1≠0):bL l i (spell (mL (hL l i).2))=true∧((dW (hL l i).2:Nat):Int)=(hL l i).1∧(4≤(hL l i).2∧(hL l i).2≤8∨10≤(hL l i).2∧(hL l i).2≤17∨(hL l i).2=19):=by
 have p6:∀r,r∈gc→spell (mL r.2.2)=r.1∧((dW r.2.2:Nat):Int)=r.2.1∧(4≤r.2.2∧r.2.2≤8∨10≤r.2.2∧r.2.2≤17∨r.2.2=19):=by decide
 unfold hL at h ⊢;cases ao:gc.find? (λr=>bL l i r.1) with
 |none=>rw [ao]at h;exact absurd rfl h
 |some r=>
  have Z:=p6 r (List.mem_of_find?_eq_some ao);have ab:=List.find?_some ao;simp only [xD];exact⟨by rw [Z.1];exact ab,Z.2⟩
theorem aoj{i:Nat}(h:lX l i≠0):bL l i (spell (hN (lX l i)))=true∧20≤lX l i∧lX l i≤27:=by
 have p6:∀r,r∈ik→spell (hN r.2)=r.1∧20≤r.2∧r.2≤27:=by decide
 unfold lX at h ⊢;cases ao:ik.find? (λr=>bL l i r.1) with
 |none=>rw [ao]at h;exact absurd rfl h
 |some r=>
  have Z:=p6 r (List.mem_of_find?_eq_some ao);have ab:=List.find?_some ao;simp only [call2];exact⟨by rw [Z.1];exact ab,Z.2⟩
theorem xS(e:Expr)(k:Nat):c7 (jD e k)=c7 (hO e)+if dW e.Op<k then 2 else 0:=by
 unfold jD im;split
 ·have Z:(spell (cM [40])).length=1:=rfl;have ab:(spell (cM [41])).length=1:=rfl;have aq:c7 (hO e)=c7 (k7 (dc e)):=rfl;simp only [k7,FSb,c7,l1,Z,ab,aq];omega
 ·rfl
theorem UQ(e:Expr){j k:Nat}(h:j≤k):c7 (jD e j)≤c7 (jD e k):=by
 rw [xS,xS];split<;>split<;>omega
def oP(l:List Token)(i b1:Nat)(e:Expr)(z:Int):Prop:=∃k:Nat,z=(k:Int)∧i≤k∧k≤l.length∧nW e∧bI l i+c7 (jD e b1)≤bI l k
theorem oP.mono{i j b1 acy:Nat}{e:Expr}{z:Int}(h:oP l j b1 e z)(hi:i≤j)(hp:bI l i≤bI l j)(hH:acy≤b1):oP l i acy e z:=by
 obtain⟨k,Z,ab,aq,aN,bn⟩:=h;have:=UQ e hH
 exact⟨k,Z,by omega,aq,aN,by omega⟩
end
end Go.Ab.Y

/- The plain law: what the functions compute answers as the statement says. -/
import Derived.Lib.ItoaNum
import Derived.Lib.ItoaLen
import Derived.Test.YtbncfepdlmnmiaaGreatDoorPlainA
set_option linter.all false
namespace Go.Ab.Y
open Go Go.Ab Go.Proofs
def aod(n:Nat)(s:Stmt)(u:ls):H3 n s u=some (!A7 s u&&rV s):=by
 have hm:(bif decide (s.Op=6)then some (bif decide (1≤s.Max)then decide (s.Max≤16)else false)else bif decide (s.Op=8)then some (bif decide (0≤s.Max)then decide (s.Max≤999)else false)else some true)=some (rV s):=by
  unfold rV;by_cases b':s.Op=6
  ·simp only [b',auT,auV,au8,fk]
  ·by_cases d':s.Op=8
   ·simp only [d',show¬ (8:Int)=6 by omega,auT,auU,auV,auW,au8,au9,fk]
   ·simp only [b',d',auU,auW,au9]
 unfold H3 A7;rw [hm];simp only [ac2,gn,fk,eG,gb];generalize decide (s.Name=[])=x
 generalize ni s.A=y
 generalize ni s.B=z
 generalize decide (s.Max=0)=w
 generalize decide (0<s.Body.length)=p
 generalize decide (0<s.bM.length)=q
 generalize rV s=r
 obtain⟨pQ,a,b,kq,ig,xK⟩:=u;cases pQ<;>cases x<;>cases a<;>cases y<;>cases b<;>cases z<;>simp only [auX,auY,Bool.and_true,Bool.and_false,Bool.true_and,Bool.false_and,au7,Bool.or_false,Bool.true_or,Bool.false_or,auV,auW,ak]<;>(cases ((!kq && !w)||(!ig&&p)||(!xK&&q))<;>simp_all)
def aoe{n:Nat}(s:Stmt)(d:Int)(eA:cM s.A≤n)(dg:cM s.B≤n)(TJ:cM s.A≤140737488351232)(n4:cM s.B≤140737488351232)(aZ:s.Name.length≤140737488351232):H9 n s d=some (kG s d):=by
 unfold H9 H8 H7 kG;simp only [aoa,ak,gn,jX,aod,AS n s.Name aZ,ac0 s.A eA TJ,ac0 s.B dg n4];generalize (kj s.Op)=U
 obtain⟨u,aof⟩:=U;obtain⟨pQ,a,b,kq,ig,xK⟩:=u;simp only
 generalize A7 s ⟨pQ,a,b,kq,ig,xK⟩=m
 generalize rV s=r
 cases aof
 ·simp
 ·cases m
  ·cases r
   ·simp
   ·generalize hr s.Name=x
    simp only [auX,auY,auV,auW,ak,Bool.true_and,Bool.and_true,Bool.true_eq_false,Bool.false_eq_true,or_self,au9];cases pQ
    ·simp only [auW,ak,Bool.false_eq_true,false_and,au9];cases a
     ·simp only [auW,Bool.false_eq_true,false_and,au9];cases b
      ·by_cases gx:12<d<;>simp [gx]
      ·by_cases hb:g0 s.B 1=0<;>by_cases gx:12<d<;>simp [hb,gx]
     ·by_cases ha:g0 s.A 1=0
      ·cases b
       ·by_cases gx:12<d<;>simp [ha,gx]
       ·by_cases hb:g0 s.B 1=0<;>by_cases gx:12<d<;>simp [ha,hb,gx]
      ·simp [ha]
    ·cases x
     ·simp
     ·simp only [auV,ak,auX,auW,Bool.true_eq_false,and_false,au9];cases a
      ·simp only [auW,Bool.false_eq_true,false_and,au9];cases b
       ·by_cases gx:12<d<;>simp [gx]
       ·by_cases hb:g0 s.B 1=0<;>by_cases gx:12<d<;>simp [hb,gx]
      ·by_cases ha:g0 s.A 1=0
       ·cases b
        ·by_cases gx:12<d<;>simp [ha,gx]
        ·by_cases hb:g0 s.B 1=0<;>by_cases gx:12<d<;>simp [ha,hb,gx]
       ·simp [ha]
  ·simp
def aog(s:Stmt):((decide (s.Op=6)&&(decide (s.Max<1)||decide (16<s.Max)))||(decide (s.Op=8)&&(decide (s.Max<0)||decide (999<s.Max)))) = !rV s:=by
 unfold rV;by_cases b':s.Op=6
 ·simp only [b',au8,auT,Bool.true_and,show¬ (6:Int)=8 by omega,auU,Bool.false_and,Bool.or_false]
  by_cases Z:s.Max<1
  ·simp only [Z,show¬ 1≤s.Max by omega,auT,auU,Bool.true_or,Bool.false_and,auY]
  ·by_cases aa:16<s.Max
   ·simp only [Z,aa,show¬ s.Max≤16 by omega,auT,auU,au7,Bool.and_false,auY]
   ·simp only [Z,aa,show s.Max≤16 by omega,show 1≤s.Max by omega,auT,auU,Bool.or_self,Bool.and_self,auX]
 ·by_cases d':s.Op=8
  ·simp only [d',show¬ (8:Int)=6 by omega,au8,au9,auT,auU,Bool.true_and,Bool.false_and,Bool.false_or]
   by_cases Z:s.Max<0
   ·simp only [Z,show¬ 0≤s.Max by omega,auT,auU,Bool.true_or,Bool.false_and,auY]
   ·by_cases aa:999<s.Max
    ·simp only [Z,aa,show¬ s.Max≤999 by omega,auT,auU,au7,Bool.and_false,auY]
    ·simp only [Z,aa,show s.Max≤999 by omega,show 0≤s.Max by omega,auT,auU,Bool.or_self,Bool.and_self,auX]
  ·simp only [b',d',au9,auU,Bool.false_and,Bool.or_self,auX]
def aoh(a y b z pre P Q:Bool)(G:Bool→avd):
 (Option.bind (bif (!pre && !a)then some y else some default) λr2=>Option.bind (bif (!(pre||(!a && !r2)) && !b)then some z else some default) λr3=>G ((((pre||(!a && !r2))||(!b && !r3))||P)||Q))=G ((((pre||(!a && !y))||(!b && !z))||P)||Q):=by
 cases pre<;>cases a<;>cases y<;>cases b<;>cases z<;>rfl
def aoi{n:Nat}(s:Stmt)(d:Int)(hn:25<n)(eA:cM s.A≤n)(dg:cM s.B≤n)(TJ:cM s.A≤140737488351232)(n4:cM s.B≤140737488351232)(aZ:s.Name.length<n)(aoj:s.Name.length≤140737488351232):J7 n s d=some (kG s d):=by
 unfold J7 J6 J5 kG;by_cases f7:1≤s.Op∧s.Op≤8
 ·have Fk:(
   kj s.Op).2=true:=by
   have:s.Op=1∨s.Op=2∨s.Op=3∨s.Op=4∨s.Op=5∨s.Op=6∨s.Op=7∨s.Op=8:=by omega
   rcases this with e|e|e|e|e|e|e|e<;>rw [e]<;>rfl
  simp only [aob n s.Op f7,ak,gn,jX,ac3,E8 s.Name aZ hn (by omega),ac1 s.A eA TJ,ac1 s.B dg n4,Fk,show¬ s.Op<1 by omega,show¬ 8<s.Op by omega,auU,auW,fk,eG,Bool.or_self,Bool.false_or,aog,gb]
  generalize rV s=r
  unfold A7;generalize (kj s.Op).1=u
  generalize decide (s.Name=[])=sn
  generalize ni s.A=y
  generalize ni s.B=z
  generalize decide (s.Max=0)=w
  generalize decide (0<s.Body.length)=p
  generalize decide (0<s.bM.length)=q
  generalize hr s.Name=x
  obtain⟨pQ,a,b,kq,ig,xK⟩:=u;simp only
  have hm:((!pQ && !sn)||(!a && !y)||(!b && !z)||(!kq && !w)||(!ig&&p)||(!xK&&q))=((((((!pQ && !sn)||(!kq && !w))||(!a && !y))||(!b && !z))||(!ig&&p))||(!xK&&q)):=by
   generalize (!pQ && !sn)=c1
   generalize (!kq && !w)=c2
   generalize (!a && !y)=c3
   generalize (!b && !z)=c4
   cases c1<;>cases c2<;>cases c3<;>cases c4<;>rfl
  rw [hm];clear hm;generalize ((!pQ && !sn)||(!kq && !w))=pre
  generalize (!ig&&p)=c1
  generalize (!xK&&q)=c2
  refine(aoh a y b z pre c1 c2 (λc=>bif c then some 1 else bif !r then some 1 else Option.bind (bif pQ then some x else some default) λaT=>bif (pQ && !aT)then some 7 else
   bif a then(bif !decide (g0 s.A 1=0)then some (g0 s.A 1)else bif b then(bif !decide (g0 s.B 1=0)then some (g0 s.B 1)else bif decide (12<d)then some 2 else some 0)else bif decide (12<d)then some 2 else some 0)
   else bif b then(bif !decide (g0 s.B 1=0)then some (g0 s.B 1)else bif decide (12<d)then some 2 else some 0)else bif decide (12<d)then some 2 else some 0)).trans ?_
  generalize ((((pre||(!a && !y))||(!b && !z))||c1)||c2)=m
  cases m
  ·cases r
   ·simp
   ·simp only [auX,auY,auV,auW,ak,Bool.true_and,Bool.and_true,Bool.true_eq_false,Bool.false_eq_true,or_self,au9];cases pQ
    ·simp only [auW,ak,Bool.false_eq_true,false_and,au9,Bool.false_and];cases a
     ·simp only [auW,Bool.false_eq_true,false_and,au9];cases b
      ·by_cases gx:12<d<;>simp [gx]
      ·by_cases hb:g0 s.B 1=0<;>by_cases gx:12<d<;>simp [hb,gx]
     ·by_cases ha:g0 s.A 1=0
      ·cases b
       ·by_cases gx:12<d<;>simp [ha,gx]
       ·by_cases hb:g0 s.B 1=0<;>by_cases gx:12<d<;>simp [ha,hb,gx]
      ·simp [ha]
    ·cases x
     ·simp
     ·simp only [auV,ak,auX,auW,Bool.true_eq_false,and_false,au9,Bool.and_false];cases a
      ·simp only [auW,Bool.false_eq_true,false_and,au9];cases b
       ·by_cases gx:12<d<;>simp [gx]
       ·by_cases hb:g0 s.B 1=0<;>by_cases gx:12<d<;>simp [hb,gx]
      ·by_cases ha:g0 s.A 1=0
       ·cases b
        ·by_cases gx:12<d<;>simp [ha,gx]
        ·by_cases hb:g0 s.B 1=0<;>by_cases gx:12<d<;>simp [ha,hb,gx]
       ·simp [ha]
  ·simp
 ·have Fk:(kj s.Op).2=false:=by
   unfold kj;rw [if_neg (by omega),if_neg (by omega),if_neg (by omega),if_neg (by omega),if_neg (by omega),if_neg (by omega)]
  have hb:(decide (s.Op<1)||decide (8<s.Op))=true:=by
   by_cases Z:s.Op<1
   ·rw [decide_eq_true Z];rfl
   ·rw [decide_eq_true (show 8<s.Op by omega)];simp
  simp only [aoc n s.Op f7,ak,Fk,hb,eG,fk,Bool.true_or,auX,Bool.false_and,auW,auV,true_or,au8]
def vf(before:List Param):List Param→Int
 |[]=>0
 |x::l=>if hr x.Name=false then 7 else if x.fS<1∨3<x.fS then 10 else if(before.any λy=>decide (y.Name=x.Name))=true then 8 else vf (before++[x]) l
def aok(n:Nat)(s:List Param)(b:Param)(hs:s.length≤4611686018427387904):∀m i,s.length<i+m→i≤s.length→
 ∃r,zk n s b m (i:Int)=some r∧(decide (0≤r)=(s.drop i).any λy=>decide (y.Name=b.Name)):=by
 intro m;induction m with
 |zero=>intro i h aa;omega
 |succ m aM=>
  intro i hm hi;simp only [zk,OT,OS,OR];by_cases h:i<s.length
  ·obtain⟨r,Z,aa⟩:=aM (i+1) (by omega) (by omega)
   (rw [eZ s i default h,c8 (by omega)];simp only [au1];rw [Z])
   generalize s.getD i default=c
   simp only [h,cC h,au2,auT,auV,a6,ak,List.any_cons];by_cases hc:c.Name=b.Name
   ·simp only [hc,auT,auV,Bool.true_or];exact⟨_,rfl,decide_eq_true (by omega)⟩
   ·simp only [hc,auU,auW,Bool.false_or];exact⟨r,rfl,aa⟩
  ·rw [gE s i h];simp only [h,au2,auU,auW];exact⟨-1,rfl,rfl⟩
def aol{n:Nat}(s:List Param)(b:Param)(hs:s.length≤4611686018427387904)(hn:s.length<n):HY n s b=some (s.any λy=>decide (y.Name=b.Name)):=by
 unfold HY OU;obtain⟨r,Z,aa⟩:=aok n s b hs n 0 (by omega) (by omega)
 rw [show zk n s b n 0=_ from Z,ak,aa,List.drop_zero]
def vg{α:Type}[Inhabited α](l:List α)(i:Nat)(h:i<l.length):l.take (i+1)=l.take i++[l.getD i default]:=by
 rw [List.take_add,eZ l i default h,List.take_succ_cons,List.take_zero]
def TK:∀(l:List Param) (i:Nat),i<l.length→(l.getD i default).Name.length<fU l
 |[],i,h=>by simp at h
 |x::l,0,h=>by simp only [fU,List.getD_cons_zero];omega
 |x::l,i+1,h=>by have:=TK l i (by simpa using h);simp only [fU,List.getD_cons_succ];omega
def aom(n:Nat)(l:List Param)(bP:fU l<n)(q4:fU l≤140737488351232):∀m i,l.length<i+m→i≤l.length→zl n l m (i:Int)=some (vf (l.take i) (l.drop i)):=by
 have hlen:=A6 l;intro m;induction m with
 |zero=>intro i h aa;omega
 |succ m aM=>
  intro i hm hi;simp only [zl,OW,OV];by_cases h:i<l.length
  ·have hg:=TK l i h
   (rw [eZ l i default h,c8 (by omega)];simp only [au1];rw [aM (i+1) (by omega) (by omega),vg l i h])
   generalize l.getD i default=c at hg
   rw [AS n c.Name (by omega),aol (l.take i) c (by simp;omega) (by simp;omega)]
   simp only [h,cC h,au2,auT,auV,a6,ak,AP hi,eG,vf];cases hr c.Name
   ·simp
   ·by_cases aF:c.fS<1∨3<c.fS
    ·have:(decide (c.fS<1)||decide (3<c.fS))=true:=by rcases aF with aF|aF<;>rw [decide_eq_true aF]<;>simp
     simp [this,aF]
    ·have:(decide (c.fS<1)||decide (3<c.fS))=false:=by rw [decide_eq_false (λe=>aF (Or.inl e)),decide_eq_false (λe=>aF (Or.inr e))];rfl
     rw [this];simp only [auX,auW,Bool.true_eq_false,au9,aF];cases ((l.take i).any λy=>decide (y.Name=c.Name))<;>rfl
  ·rw [gE l i h];simp only [h,au2,auU,auW];rfl
def aon(n:Nat)(aj:Int→avd)(l:List Param)(i:Nat)(h:i<l.length)(hs:l.length≤4611686018427387904):∀m k,i<k+m→k≤i→
 Aq n aj l (i:Int) m (k:Int)=if(((l.take i).drop k).any λy=>decide (y.Name=(l.getD i default).Name))=true then some 8 else aj ((i+1:Nat):Int):=by
 intro m;induction m with
 |zero=>intro k Z aa;omega
 |succ m aM=>
  intro k hm hk;simp only [Aq,RB,RA];by_cases G5:k<i
  ·have e:(l.take i).drop k=l.getD k default::(l.take i).drop (k+1):=by
    rw [eZ (l.take i) k default (by simp;omega)]
    congr 1
    simp [List.getD,G5]
   (rw [e,c8 (by omega),aM (k+1) (by omega) (by omega)];simp only [au1])
   generalize l.getD k default=c
   simp only [G5,cC h,cC (show k<l.length by omega),au2,auT,auV,a6,List.any_cons]
   by_cases hc:c.Name=(l.getD i default).Name
   ·simp only [hc,auT,auV,Bool.true_or,au8]
   ·simp only [hc,auU,auW,Bool.false_or]
  ·obtain rfl:k=i:=by omega
   rw [gE (l.take k) k (by simp;omega),c8 (by omega)]
   simp only [au2,Nat.lt_irrefl,auU,auW,List.any_nil,Bool.false_eq_true,au9]
def aoo(n:Nat)(l:List Param)(hn:25<n)(bP:fU l<n)(q4:fU l≤140737488351232):∀m i,l.length<i+m→i≤l.length→uU n l m (i:Int)=some (vf (l.take i) (l.drop i)):=by
 have hlen:=A6 l;intro m;induction m with
 |zero=>intro i h aa;omega
 |succ m aM=>
  intro i hm hi;simp only [uU,RC,Rz];by_cases h:i<l.length
  ·have hg:=TK l i h;have aK:=aon n (uU n l m) l i h (by omega) n 0 (by omega) (by omega)
   rw [show Aq n (uU n l m) l (i:Int) n 0=_ from aK,List.drop_zero]
   (rw [eZ l i default h];simp only [au1];rw [aM (i+1) (by omega) (by omega),vg l i h])
   generalize l.getD i default=c at hg
   rw [E8 c.Name (by omega) hn (by omega)]
   simp only [h,cC h,au2,auT,auV,a6,ak,au7,eG,vf];cases hr c.Name
   ·simp
   ·by_cases aF:c.fS<1∨3<c.fS
    ·have:(decide (c.fS<1)||decide (3<c.fS))=true:=by rcases aF with aF|aF<;>rw [decide_eq_true aF]<;>simp
     simp [this,aF]
    ·have:(decide (c.fS<1)||decide (3<c.fS))=false:=by rw [decide_eq_false (λe=>aF (Or.inl e)),decide_eq_false (λe=>aF (Or.inr e))];rfl
     rw [this];simp only [auX,auW,Bool.true_eq_false,au9,aF];cases ((l.take i).any λy=>decide (y.Name=c.Name))<;>rfl
  ·rw [gE l i h];simp only [h,au2,auU,auW];rfl
def qD(l:List Param):Int:=if 6<l.length then 2 else vf [] l
def aop{n:Nat}(l:List Param)(bP:fU l<n)(q4:fU l≤140737488351232):HZ n l=some (qD l):=by
 have hlen:=A6 l;unfold HZ qD;have:=aom n l bP q4 n 0 (by omega) (by omega)
 rw [show zl n l n 0=_ from this]
 simp only [gb];by_cases h:6<l.length
 ·simp only [h,auT,auV,au8]
 ·simp only [h,auU,auW,au9,List.take_zero,List.drop_zero]
def aoq{n:Nat}(l:List Param)(hn:25<n)(bP:fU l<n)(q4:fU l≤140737488351232):J0 n l=some (qD l):=by
 have hlen:=A6 l;unfold J0 qD;have:=aoo n l hn bP q4 n 0 (by omega) (by omega)
 rw [show uU n l n 0=_ from this]
 simp only [gb];by_cases h:6<l.length
 ·simp only [h,auT,auV,au8]
 ·simp only [h,auU,auW,au9,List.take_zero,List.drop_zero]
mutual
def tw:Expr→Nat→Nat
 |⟨_,_,_,ax⟩,k=>if k=0 then 0 else qE ax (k-1)
def qE:List Expr→Nat→Nat
 |[],k=>k
 |x::l,k=>qE l (tw x k)
end
def ac4(e:Expr)(k:Nat):tw e k=if k=0 then 0 else qE e.ax (k-1):=by cases e;rfl
mutual
def Fl:∀(e:Expr) (k:Nat),tw e k≤k
 |⟨_,_,_,ax⟩,k=>by
  have:=TL ax (k-1)
  simp only [tw];split<;>omega
def TL:∀(l:List Expr) (k:Nat),qE l k≤k
 |[],k=>Nat.le_refl _
 |x::l,k=>by
  have Z:=Fl x k;have aa:=TL l (tw x k);simp only [qE];omega
end
def kl(e:Expr)(k:Nat):Nat:=if k=0∨ni e=true then k else tw e k
def Lv(e:Expr)(k:Nat):kl e k≤k:=by unfold kl;split;exact Nat.le_refl _;exact Fl e k
mutual
def qF:Stmt→Int→Nat×Int→Nat×Int
 |⟨Op,Name,Max,A,B,Body,bM⟩,d,r=>
  ia bM (ava (d+1)) (ia Body (ava (d+1)) (kl B (kl A (r.1-1)),if r.2=0 then kG ⟨Op,Name,Max,A,B,Body,bM⟩ d else r.2))
def ia:List Stmt→Int→Nat×Int→Nat×Int
 |[],d,r=>r
 |s::l,d,r=>if r.1=0 then r else ia l d (qF s d r)
end
def ac5(s:Stmt)(d:Int)(r:Nat×Int):qF s d r=ia s.bM (ava (d+1)) (ia s.Body (ava (d+1)) (kl s.B (kl s.A (r.1-1)),if r.2=0 then kG s d else r.2)):=by cases s;rfl
mutual
def aor:∀(s:Stmt) (d:Int) (r:Nat×Int),(qF s d r).1≤r.1
 |⟨Op,Name,Max,A,B,Body,bM⟩,d,r=>by
  have Z:=Lv A (r.1-1);have aa:=Lv B (kl A (r.1-1));have am:=vh Body (ava (d+1)) (kl B (kl A (r.1-1)),if r.2=0 then kG ⟨Op,Name,Max,A,B,Body,bM⟩ d else r.2)
  have aK:=vh bM (ava (d+1)) (ia Body (ava (d+1)) (kl B (kl A (r.1-1)),if r.2=0 then kG ⟨Op,Name,Max,A,B,Body,bM⟩ d else r.2))
  simp only [qF]at *;omega
def vh:∀(l:List Stmt) (d:Int) (r:Nat×Int),(ia l d r).1≤r.1
 |[],d,r=>Nat.le_refl _
 |s::l,d,r=>by
  have Z:=aor s d r;have aa:=vh l d (qF s d r);simp only [ia];split
  ·exact Nat.le_refl _
  ·omega
end
def aos:∀(n:Nat) (e:Expr) (k:Nat) (b:Int),cM e≤n→cM e≤140737488351232→k≤1000→zp n e (k:Int) b=some ((tw e k:Nat):Int):=by
 intro n;induction n with
 |zero=>intro e k b h;rw [tn]at h;omega
 |succ n aM=>
  intro e k b h ab hk;have xJ:=tn e;have A1:=K7 e.ax;simp only [zp,O6,fI];rw [ac4];by_cases h0:k=0
  ·rw [if_pos h0];simp only [h0,auT,auV]
  ·rw [if_neg h0];simp only [h0,auU,auW]
   have iH:∀m i k,e.ax.length<i+m→i≤e.ax.length→k≤1000→CU n (zp n) e b m ((k:Nat):Int) (i:Int)=some ((qE (e.ax.drop i) k:Nat):Int):=by
    intro m;induction m with
    |zero=>intro i k Z aa;omega
    |succ m mn=>
     intro i k Z aa hk;simp only [CU,O5];by_cases hi:i<e.ax.length
     ·have hg:=K8 e.ax i hi;have hle:=Fl (e.ax.getD i default) k
      (rw [eZ e.ax i default hi,c8 (by omega)];simp only [au1];rw [aM _ k b (by omega) (by omega) hk])
      simp only [hi,cC hi,au2,auT,auV,a6,ak,qE];exact mn (i+1) _ (by omega) (by omega) (by omega)
     ·rw [gE e.ax i hi];simp only [hi,au2,auU,auW,qE]
   rw [show ava ((k:Int)-1)=((k-1:Nat):Int)by rw [wr]<;>omega]
   exact iH n 0 (k-1) (by omega) (by omega) (by omega)
def ac6{n:Nat}(e:Expr)(k:Nat)(b:Int)(h:cM e≤n)(ab:cM e≤140737488351232)(hk:k≤1000):CV n e (k:Int) b=some ((kl e k:Nat):Int):=by
 unfold CV kl O4;simp only [ac2,fI,aos n e k b h ab hk,ak];by_cases h0:k=0
 ·simp [h0]
 ·cases ni e<;>simp [h0]
open Go Go.Ab Go.Proofs
def TM:∀(l:List Stmt) (i:Nat),i<l.length→fst (l.getD i default)<dP l
 |[],i,h=>by simp at h
 |x::l,0,h=>by simp only [dP,List.getD_cons_zero];omega
 |x::l,i+1,h=>by have:=TM l i (by simpa using h);simp only [dP,List.getD_cons_succ];omega
def ac7{α β:Type}(x:α×β):(x.1,x.2)=x:=rfl
def aot:∀(n:Nat) (l:List Stmt) (d:Int) (k:Nat) (e:Int),dP l+2≤n→dP l≤140737488351232→k≤1000→
 wN n l d (k:Int) e=some ((((ia l d (k,e)).1:Nat):Int),(ia l d (k,e)).2):=by
 intro n;induction n with
 |zero=>intro l d k e h;omega
 |succ n aM=>
  intro l d k e h ab hk;have A1:=A0 l;simp only [wN,O8]
  have iH:∀m i k e,l.length<i+m→i≤l.length→k≤1000→CW n (wN n) d l m ((k:Nat):Int) e (i:Int)=some ((((ia (l.drop i) d (k,e)).1:Nat):Int),(ia (l.drop i) d (k,e)).2):=by
   intro m;induction m with
   |zero=>intro i k e Z aa;omega
   |succ m mn=>
    intro i k e Z aa hk;simp only [CW,O7,gn,jX];by_cases hi:i<l.length
    ·have hg:=TM l i hi
     (rw [eZ l i default hi];simp only [au1])
     generalize l.getD i default=s at hg
     have ox:=fst_eq s;rw [c8 (by omega)]
     simp only [hi,cC hi,au2,auT,auV,a6,fI,ia];by_cases h0:k=0
     ·simp only [h0,auT,auV,au8]
     ·simp only [h0,auU,auW,au9]
      have au:H_ n s d e=some (if e=0 then kG s d else e):=by
       unfold H_;simp only [gn,jX,aoe s d (show cM s.A≤n by omega) (show cM s.B≤n by omega) (by omega) (by omega) (by omega),ak]
       by_cases he:e=0
       ·simp only [he,auT,auV,au8]
       ·simp only [he,auU,auW,au9]
      rw [au,ak,show ava ((k:Int)-1)=((k-1:Nat):Int)by rw [wr]<;>omega]
      have eV:=Lv s.A (k-1);have eD:=Lv s.B (kl s.A (k-1));rw [ac6 s.A (k-1) _ (by omega) (by omega) (by omega),ak,ac6 s.B _ _ (by omega) (by omega) (by omega),ak]
      have B5:=vh s.Body (ava (d+1)) (kl s.B (kl s.A (k-1)),if e=0 then kG s d else e)
      rw [aM s.Body _ _ _ (by omega) (by omega) (by omega),ak]
      simp only [ac7]at B5 ⊢;have aug:=vh s.bM (ava (d+1)) (ia s.Body (ava (d+1)) (kl s.B (kl s.A (k-1)),if e=0 then kG s d else e))
      rw [aM s.bM _ _ _ (by omega) (by omega) (by omega),ak]
      simp only [ac7];rw [mn (i+1) _ _ (by omega) (by omega) (by omega),ac5]
    ·rw [gE l i hi];simp only [hi,au2,auU,auW,ia]
  exact iH n 0 k e (by omega) (by omega) hk
open Go Go.Ab Go.Proofs
abbrev lB:=cA
def iJ:Int→List lB→Int
 |e,[]=>e
 |e,v::l=>iJ (if e=0∧v.qo=true then kG v.Stmt v.CD else e) l
def ac8:∀(l m:List lB) (e:Int),iJ e (l++m)=iJ (iJ e l) m
 |[],m,e=>rfl
 |v::l,m,e=>by rw [List.cons_append,iJ,iJ,ac8 l m]
def TN:∀(l:List lB) (e:Int),(∀v,v∈l→v.qo=false)→iJ e l=e
 |[],e,h=>rfl
 |v::l,e,h=>by
  rw [iJ,h v (List.mem_cons_self),TN l _ λw hw=>h w (List.mem_cons_of_mem _ hw)]
  simp
def ac9{k:Nat}(h:k≤100000):room k 272=true:=by simp [room];omega
def aou:∀(n:Nat) (e:Expr) (out:List lB) (root:Bool),cM e≤n→cM e≤140737488351232→out.length≤401→
 ∃ext,tc n out e root=some (out++ext)∧(out++ext).length≤401∧401-(out++ext).length=tw e (401-out.length)∧∀v,v∈ext→v.qo=false:=by
 intro n;induction n with
 |zero=>intro e out root h;rw [tn]at h;omega
 |succ n aM=>
  intro e out root h ab ay;have xJ:=tn e;have A1:=K7 e.ax;simp only [tc,Rt,gb];rw [ac4];by_cases h0:400<out.length
  ·simp only [h0,auT,auV];rw [if_pos (by omega)]
   exact⟨[],by simp,by simpa using ay,by simp;omega,λv au=>by cases au⟩
  ·simp only [h0,auU,auW,auZ,au0,ac9 (show out.length+(0+1)≤100000 by omega),a6]
   rw [if_neg (by omega)]
   have iH:∀m i (out:List lB),e.ax.length<i+m→i≤e.ax.length→out.length≤401→
    ∃ext,Ec n (tc n) e m out (i:Int)=some (out++ext)∧(out++ext).length≤401∧401-(out++ext).length=qE (e.ax.drop i) (401-out.length)∧∀v,v∈ext→v.qo=false:=by
    intro m;induction m with
    |zero=>intro i out Z aa;omega
    |succ m mn=>
     intro i out Z aa ay;simp only [Ec,Rs,Rr];by_cases hi:i<e.ax.length
     ·have hg:=K8 e.ax i hi
      (rw [eZ e.ax i default hi];simp only [au1])
      generalize e.ax.getD i default=a at hg
      rw [c8 (by omega)]
      simp only [hi,cC hi,au2,auT,auV,a6,ng,qE];by_cases Fm:out.length≤400
      ·simp only [Fm,auT,auV];obtain⟨gw,e1,e2,e3,hq⟩:=aM a out false (by omega) (by omega) ay
       obtain⟨gW,f1,f2,f3,f4⟩:=mn (i+1) (out++gw) (by omega) (by omega) e2
       rw [e1,ak,f1];refine⟨gw++gW,by rw [List.append_assoc],by rw [←List.append_assoc];exact f2,by rw [←List.append_assoc,f3,e3],λv au=>?_⟩
       rcases List.mem_append.1 au with au|au
       ·exact hq v au
       ·exact f4 v au
      ·simp only [Fm,auU,auW];have cY:401-out.length=0:=by omega
       have acX:=Fl a 0;have Hj:=TL (e.ax.drop (i+1)) (tw a 0);exact⟨[],by simp,by simpa using ay,by rw [cY];simp;omega,λv au=>by cases au⟩
     ·rw [gE e.ax i hi];simp only [hi,au2,auU,auW,qE];exact⟨[],by simp,by simpa using ay,by simp,λv au=>by cases au⟩
   obtain⟨x,e1,e2,e3,hq⟩:=iH n 0 (out++[⟨false,⟨0,[],0,⟨0,0,[],[]⟩,⟨0,0,[],[]⟩,[],[]⟩,0,e,root⟩]) (by omega) (by omega) (by simp;omega)
   refine⟨⟨false,⟨0,[],0,⟨0,0,[],[]⟩,⟨0,0,[],[]⟩,[],[]⟩,0,e,root⟩::x,?_,?_,?_,?_⟩
   ·exact e1.trans (by simp)
   ·simpa using e2
   ·have:401-(out++[(⟨false,⟨0,[],0,⟨0,0,[],[]⟩,⟨0,0,[],[]⟩,[],[]⟩,0,e,root⟩:lB)]).length=401-out.length-1:=by simp;omega
    rw [this,List.drop_zero]at e3;simpa using e3
   ·intro v au;rcases List.mem_cons.1 au with rfl|au
    ·rfl
    ·exact hq v au
open Go Go.Ab Go.Proofs
def ac'{α:Type}{n:Nat}(e:Expr)(out:List lB)(G:List lB→Option α)(h:cM e≤n)(ab:cM e≤140737488351232)(ay:out.length≤401):
 ∃ext,(Option.bind (tb n e) λr=>bif !r then Option.bind (tc n out e true) G else G out)=G (out++ext)∧(out++ext).length≤401∧401-(out++ext).length=kl e (401-out.length)∧∀v,v∈ext→v.qo=false:=by
 rw [ac3,ak];unfold kl;cases m9:ni e
 ·obtain⟨x,e1,e2,e3,hq⟩:=aou n e out true h ab ay;refine⟨x,?_,e2,?_,hq⟩
  ·rw [e1];rfl
  ·rw [e3];by_cases h0:401-out.length=0
   ·rw [if_pos (Or.inl h0),h0];have:=Fl e 0
    omega
   ·rw [if_neg (by simp [h0])]
 ·refine⟨[],by simp,by simpa using ay,?_,λv au=>by cases au⟩
  rw [if_pos (Or.inr rfl)];simp
def aov:∀(n:Nat) (l:List Stmt) (d:Int) (out:List lB) (e:Int),dP l+2≤n→dP l≤140737488351232→out.length≤401→
 ∃ext,nc n out l d=some (out++ext)∧(out++ext).length≤401∧(401-(out++ext).length,iJ e ext)=ia l d (401-out.length,e)∧∀v,v∈ext→v.qo=true→fst v.Stmt<dP l:=by
 intro n;induction n with
 |zero=>intro l d out e h;omega
 |succ n aM=>
  intro l d out e h ab ay;have A1:=A0 l;simp only [nc,Rx]
  have iH:∀m i (out:List lB) (e:Int),l.length<i+m→i≤l.length→out.length≤401→
   ∃ext,uT n (nc n) l d m out (i:Int)=some (out++ext)∧(out++ext).length≤401∧(401-(out++ext).length,iJ e ext)=ia (l.drop i) d (401-out.length,e)∧∀v,v∈ext→v.qo=true→fst v.Stmt<dP l:=by
   intro m;induction m with
   |zero=>intro i out e Z aa;omega
   |succ m mn=>
    intro i out e Z aa ay;simp only [uT,Rw,Ru,JZ,JY,Rv,gn,jX];by_cases hi:i<l.length
    ·have hg:=TM l i hi
     (rw [eZ l i default hi];simp only [au1])
     generalize l.getD i default=s at hg
     have ox:=fst_eq s;rw [c8 (by omega)]
     simp only [hi,cC hi,au2,auT,auV,a6,ng,ia];by_cases Fm:out.length≤400
     ·rw [if_neg (by omega)]
      simp only [Fm,auT,auV,auZ,au0,ac9 (show out.length+(0+1)≤100000 by omega),a6]
      obtain⟨gw,bc,a2,a3,a4⟩:=ac' (n:=n) s.A (out++[(⟨true,s,d,⟨0,0,[],[]⟩,false⟩:lB)]) (λv28=>Option.bind (tb n s.B) λhM=>bif !hM then Option.bind (tc n v28 s.B true) λkW=>
       Option.bind (nc n kW s.Body (ava (d+1))) λlx=>Option.bind (nc n lx s.bM (ava (d+1))) λoQ=>uT n (nc n) l d m oQ ((i+1:Nat):Int)
       else Option.bind (nc n v28 s.Body (ava (d+1))) λlx=>Option.bind (nc n lx s.bM (ava (d+1))) λoQ=>uT n (nc n) l d m oQ ((i+1:Nat):Int)) (by omega) (by omega) (by simp;omega)
      rw [bc];obtain⟨gW,b9,ho,o2,vi⟩:=ac' (n:=n) s.B (out++[(⟨true,s,d,⟨0,0,[],[]⟩,false⟩:lB)]++gw) (λv=>Option.bind (nc n v s.Body (ava (d+1))) λlx=>Option.bind (nc n lx s.bM (ava (d+1))) λoQ=>uT n (nc n) l d m oQ ((i+1:Nat):Int)) (by omega) (by omega) a2
      rw [b9];obtain⟨nj,c1,c2,c3,c4⟩:=aM s.Body (ava (d+1)) _ (if e=0 then kG s d else e) (by omega) (by omega) ho
      rw [c1,ak];obtain⟨gl,d1,d2,d3,d4⟩:=aM s.bM (ava (d+1)) _ (iJ (if e=0 then kG s d else e) nj) (by omega) (by omega) c2
      rw [d1,ak];obtain⟨nM,f1,f2,f3,f4⟩:=mn (i+1) _ (iJ (iJ (if e=0 then kG s d else e) nj) gl) (by omega) (by omega) d2
      rw [f1];have Xu:401-(out++[(⟨true,s,d,⟨0,0,[],[]⟩,false⟩:lB)]).length=401-out.length-1:=by simp;omega
      refine⟨(⟨true,s,d,⟨0,0,[],[]⟩,false⟩:lB)::(gw++(gW++(nj++(gl++nM)))),?_,?_,?_,?_⟩
      ·simp
      ·simpa using f2
      ·have e1:iJ e ((⟨true,s,d,⟨0,0,[],[]⟩,false⟩:lB)::(gw++(gW++(nj++(gl++nM)))))=iJ (iJ (iJ (if e=0 then kG s d else e) nj) gl) nM:=by
        simp only [iJ,and_true,ac8];rw [TN gw _ a4,TN gW _ vi]
       have e2:(out++(⟨true,s,d,⟨0,0,[],[]⟩,false⟩:lB)::(gw++(gW++(nj++(gl++nM))))).length=(out++[(⟨true,s,d,⟨0,0,[],[]⟩,false⟩:lB)]++gw++gW++nj++gl++nM).length:=by simp
       rw [e1,e2,f3]
       congr 1
       rw [ac5];simp only
       rw [d3,c3,o2,a3,Xu]
      ·intro v au c_;simp only [List.mem_cons,List.mem_append]at au;rcases au with rfl|au|au|au|au|au
       ·exact hg
       ·rw [a4 v au]at c_;cases c_
       ·rw [vi v au]at c_;cases c_
       ·have:=c4 v au c_;omega
       ·have:=d4 v au c_;omega
       ·exact f4 v au c_
     ·rw [if_pos (by omega)]
      simp only [Fm,auU,auW];exact⟨[],by simp,by simpa using ay,by simp [iJ],λv au=>by cases au⟩
    ·rw [gE l i hi];simp only [hi,au2,auU,auW,ia];exact⟨[],by simp,by simpa using ay,by simp [iJ],λv au=>by cases au⟩
  exact iH n 0 out e (by omega) (by omega) ay
open Go Go.Ab Go.Proofs
def nk(p:bb):Int:=
 if hr p.Name=false then 7 else if qD p.Params≠0 then qD p.Params
 else if(ia p.Body 1 (401,0)).2=0∧(ia p.Body 1 (401,0)).1=0 then 2 else(ia p.Body 1 (401,0)).2
def Lw{n:Nat}(p:bb)(aZ:p.Name.length≤140737488351232)(md:fU p.Params<n)(TO:fU p.Params≤140737488351232)(dg:dP p.Body+2≤n)(n4:dP p.Body≤140737488351232):CX n p=some (nk p):=by
 unfold CX O9 nk;rw [AS n p.Name aZ,aop p.Params md TO];simp only [ak];cases hr p.Name
 ·rfl
 ·simp only [auX,auW,Bool.true_eq_false,au9];by_cases h:qD p.Params=0
  ·simp only [h,auT,auX,auW,ne_eq,not_true,au9];have:=aot n p.Body 1 401 0 dg n4 (by omega)
   rw [show wN n p.Body 1 401 0=_ from this]
   have hle:=vh p.Body 1 (401,0);simp only at hle
   generalize ia p.Body 1 (401,0)=r at hle
   obtain⟨k,e⟩:=r;simp only [ak];simp only at hle
   rw [show ava (401-((k:Nat):Int))=401-((k:Nat):Int)by rw [wr]<;>omega]
   by_cases he:e=0
   ·by_cases hk:k=0
    ·subst hk;subst he;rfl
    ·simp only [he,hk,auT,auV,and_false,au9,show¬ (400:Int)<401-((k:Nat):Int)by omega,auU,auW]
   ·simp only [he,auU,auW,false_and,au9]
  ·simp only [h,auU,auY,auV,ne_eq,not_false_iff,au8]
def ac_:∀(l:List lB) (e:Int),e≠0→iJ e l=e
 |[],e,h=>rfl
 |v::l,e,h=>by rw [iJ,if_neg (λx=>h x.1),ac_ l e h]
def aow(n:Nat)(l:List lB)(hn:25<n)(B:Nat)(dg:B≤n)(n4:B≤140737488351232)(ab:l.length≤401)(hs:∀v,v∈l→v.qo=true→fst v.Stmt<B):∀m i,l.length<i+m→i≤l.length→
 As n l m (i:Int)=some (if iJ 0 (l.drop i)≠0 then iJ 0 (l.drop i)else if 400<l.length then 2 else 0):=by
 intro m;induction m with
 |zero=>intro i h aa;omega
 |succ m aM=>
  intro i hm hi;simp only [As,RL,RK,J8];by_cases h:i<l.length
  ·have au:l.getD i default∈l:=by
    have e:l.getD i default=l[i]:=by simp [List.getD,h]
    rw [e];exact List.getElem_mem h
   have c_:=hs _ au
   (rw [eZ l i default h,c8 (by omega)];simp only [au1];rw [aM (i+1) (by omega) (by omega)])
   generalize l.getD i default=v at c_
   simp only [h,cC h,au2,auT,auV,a6,iJ];cases ao:v.qo
   ·simp only [auW,Bool.false_eq_true,and_false,au9]
   ·have bP:=c_ ao;have xJ:=fst_eq v.Stmt;rw [aoi v.Stmt v.CD hn (by omega) (by omega) (by omega) (by omega) (by omega) (by omega)]
    simp only [auV,ak,and_self,au8];by_cases he:kG v.Stmt v.CD=0
    ·simp only [he,auT,auX,auW]
    ·simp only [he,auU,auY,auV];rw [ac_ _ _ he,if_pos he]
  ·rw [gE l i h];simp only [h,au2,auU,auW,iJ,gb,ne_eq,not_true,au9];by_cases aK:400<l.length
   ·simp only [aK,auT,auV,au8]
   ·simp only [aK,auU,auW,au9]
def TP{n:Nat}(p:bb)(hn:500<n)(aZ:p.Name.length<n)(aoj:p.Name.length≤140737488351232)(md:fU p.Params<n)(TO:fU p.Params≤140737488351232)(dg:dP p.Body+2≤n)(n4:dP p.Body≤140737488351232):Ei n p=some (nk p):=by
 unfold Ei Ry nk;rw [E8 p.Name aZ (by omega) (by omega),aoq p.Params (by omega) md TO]
 simp only [ak];cases hr p.Name
 ·rfl
 ·simp only [auX,auW,Bool.true_eq_false,au9];by_cases h:qD p.Params=0
  ·simp only [h,auT,auX,auW,ne_eq,not_true,au9];obtain⟨ext,e1,e2,e3,hq⟩:=aov n p.Body 1 [] 0 dg n4 (by simp)
   rw [List.nil_append]at e1 e2 e3;rw [e1];simp only [ak];have:=aow n ext (by omega) (dP p.Body) (by omega) n4 e2 hq n 0 (by omega) (by omega)
   rw [show As n ext n 0=_ from this,List.drop_zero,au0]at *
   rw [show 401-0=401 from rfl]at e3
   rw [←e3];simp only
   by_cases he:iJ 0 ext=0
   ·simp only [he,ne_eq,not_true,au9,true_and];by_cases aK:400<ext.length
    ·rw [if_pos aK,if_pos (by omega)]
    ·rw [if_neg aK,if_neg (by omega)]
   ·rw [if_pos he,if_neg (λx=>he x.1)]
  ·simp only [h,auU,auY,auV,ne_eq,not_false_iff,au8]
open Go Go.Ab Go.Proofs
def Lx(p:bb):(⟨p.Name,p.Params,p.Body⟩:bb)=p:=rfl
def aox{n:Nat}(src:au')(hs:src.length≤4000∨16384<src.length)(hn:100000000≤n):
 ∃r,z7 n src=some r∧KA n src=some r∧tu r.1≤250000:=by
 have Ly:tu (⟨[],[],[]⟩:bb)≤250000:=by simp [tu,fU,dP]
 obtain⟨⟨l,nh,e⟩,t1,t2,t3⟩:=acy (λt=>t.Kind=5→t.Text∈marks) (λs nh Z aa=>Tl s nh Z aa) (n:=n) src (by omega) (by omega)
 unfold z7 DZ KA;rw [t1,t2];simp only [ak];by_cases he:e=0
 ·obtain⟨Z,aa,am⟩:=t3 he;simp only at Z am
  subst he;have hg:kF l:=am;have hlen:=mK l;have k7:l.length≤4200:=by omega
  have jc:eL l l.length=gZ l:=by unfold eL;rw [List.take_length]
  have b2:=acV (l:=l) (by omega) hg (i:=0) (n1:=n) (n2:=n) (by omega) (by omega) (by omega)
  simp only [auT,auX,auW];unfold Jq;rcases b2 with⟨a,k,e1,e2,ki,fq,jG⟩|⟨k,c,z,a,e1,e2,hc,hk⟩
  ·have e1:rH n ⟨l,0⟩=some (aB.ret a ((k:Nat):Int)):=e1;have e2:Ev n l 0=some (a,((k:Nat):Int),0):=e2;have aoy:=vc l k l.length fq;rw [e1,e2];simp only [ak,aB.on,au2,Sg,auT,auV];by_cases pz:k<l.length
   ·simp only [pz,auT,auV,Tm n l k 5 (by omega),ak,aB.on,Ll,show¬ (5:Int)=0 by omega,auU,auY,acG n l k (by omega) fq]
    have:iI l k 5=5:=if_pos pz
    simp only [this,show¬ (5:Int)=0 by omega,auU,auW,qw,auY,auV]
    exact⟨_,rfl,rfl,Ly⟩
   ·simp only [pz,auU,auW,ak,auT,auX,auV,Lx];have hw:tu a≤250000:=by omega
    have Cr:a.Name.length+fU a.Params+dP a.Body≤250000:=hw;rw [Lw (n:=n) a (by omega) (by omega) (by omega) (by omega) (by omega),TP (n:=n) a (by omega) (by omega) (by omega) (by omega) (by omega) (by omega) (by omega)]
    simp only [ak,qw];by_cases ai:nk a=0
    ·simp only [ai,auT,auX,auW,Lx];exact⟨_,rfl,rfl,by simp only;omega⟩
    ·simp only [ai,auU,auY,auV];exact⟨_,rfl,rfl,Ly⟩
  ·have e1:rH n ⟨l,0⟩=some (aB.aJ (m7 l k c) z):=e1;have e2:Ev n l 0=some (a,((k:Nat):Int),c):=e2;rw [e1,e2];simp only [ak,aB.on,Ll,Sg,hc,auU,auW,auY,auV,acG n l k (by omega) hk,qw]
   exact⟨_,rfl,rfl,Ly⟩
 ·simp only [he,auU,auY,auV,ak,auW,qw];exact⟨_,rfl,rfl,Ly⟩
open Go Go.Ab Go.Proofs
def cN(t:Token):Token:=⟨t.Kind,t.Text,t.N,0⟩
open Go Go.Ab Go.Proofs
def ada(u:Nat):Lib.decDigits u=if u<10 then[UInt8.ofNat (48+u)]else Lib.decDigits (u / 10)++[UInt8.ofNat (48+u % 10)]:=by
 rw [Lib.decDigits];split<;>rfl
def aoz{w:au'}:gI w=w.length→w.all im=true:=by
 induction w with
 |nil=>intro;rfl
 |cons c w aM=>
  intro h;rw [AR]at h;cases hc:im c
  ·rw [hc]at h;simp at h
  ·rw [hc]at h;simp only [auV,auZ]at h;rw [List.all_cons,hc,aM (by omega)];rfl
def adb{w:au'}(h:hr w=true):∃c l,w=c::l∧oY c=true∧w.all im=true∧u' w=false∧w.length≤16:=by
 cases w with
 |nil=>cases h
 |cons c l=>
  simp only [hr,Bool.and_eq_true,decide_eq_true_eq,Bool.not_eq_true']at h;obtain⟨⟨⟨Z,aa⟩,am⟩,aK⟩:=h;exact⟨c,l,rfl,aa,aoz (by simpa using am),aK,by simp;omega⟩
def gp:au'→au'
 |[]=>[]
 |c::l=>if c.toNat=34∨c.toNat=92 then 92::c::gp l else c::gp l
def quo(s:au'):au':=34::(gp s++[34])
def spell(t:Token):au':=if t.Kind=3 then Lib.decDigits t.N.toNat else if t.Kind=4 then quo t.Text else t.Text
def mo(t:Token):Prop:=
 t.mC=0∧((t.Kind=1∧hr t.Text=true∧t.N=0)∨(t.Kind=2∧t.Text∈u9∧t.N=0)∨(t.Kind=3∧t.Text=[]∧0≤t.N∧t.N≤9223372036854775807)∨
  (t.Kind=4∧jg t.Text=true∧t.N=0)∨(t.Kind=5∧t.Text∈marks∧t.N=0))
open Go Go.Ab Go.Proofs
abbrev qG:=List (Option Token)
def flat:qG→au'
 |[]=>[]
 |some t::l=>spell t++flat l
 |none::l=>32::flat l
def k8:qG→List Token
 |[]=>[]
 |some t::l=>t::k8 l
 |none::l=>k8 l
def o3:∀l m:qG,flat (l++m)=flat l++flat m
 |[],m=>rfl
 |some t::l,m=>by simp only [List.cons_append,flat,o3 l m,List.append_assoc]
 |none::l,m=>by simp only [List.cons_append,flat,o3 l m]
def Fn:∀l m:qG,k8 (l++m)=k8 l++k8 m
 |[],m=>rfl
 |some t::l,m=>by simp only [List.cons_append,k8,Fn l m]
 |none::l,m=>by simp only [List.cons_append,k8,Fn l m]
def fl(w:au'):Token:=⟨2,w,0,0⟩
def cQ(w:au'):Token:=⟨5,w,0,0⟩
def n5(w:au'):Token:=⟨1,w,0,0⟩
def xL(n:Int):Token:=⟨3,[],n,0⟩
def aoA(w:au'):Token:=⟨4,w,0,0⟩
def dS(op:Int):Nat:=if op=17 then 1 else if op=16 then 2 else if op=18 then 3 else if 10≤op∧op≤15 then 4 else if op=19 then 5 else if op=4∨op=5 then 6 else if 6≤op∧op≤8 then 7 else if op=9 then 8 else 9
def mM(op:Int):Token:=
 if op=17 then fl [111,114]else if op=16 then fl [97,110,100]else if op=10 then cQ [61,61]else if op=11 then cQ [33,61]else if op=12 then cQ [60]else if op=13 then cQ [60,61]
 else if op=14 then cQ [62]else if op=15 then cQ [62,61]else if op=19 then cQ [43,43]else if op=4 then cQ [43]else if op=5 then cQ [45]else if op=6 then cQ [42]else if op=7 then cQ [47]else cQ [37]
def hO(op:Int):Token:=
 if op=20 then fl [116,101,120,116]else if op=21 then fl [108,101,110]else if op=22 then fl [103,101,116,105,110,116]else if op=23 then fl [103,101,116,115,116,114]else if op=24 then fl [104,97,115]
 else if op=25 then fl [110,111,119]else if op=26 then fl [114,97,110,100,111,109]else fl [110,111,100,101]
def iv(op:Int)(p:qG)(least:Nat):qG:=if dS op<least then some (cQ [40])::(p++[some (cQ [41])])else p
def tx(Op N:Int)(S:au')(L:List (Int×qG)):qG:=
 if Op=1 then[some (xL N)]else if Op=2 then[some (aoA S)]else if Op=3 then[some (n5 S)]
 else match L with
  |[]=>[some (hO Op),some (cQ [40]),some (cQ [41])]
  |[a]=>if Op=18 then some (fl [110,111,116])::none::iv a.1 a.2 3 else if Op=9 then some (cQ [45])::iv a.1 a.2 8 else some (hO Op)::some (cQ [40])::(a.2++[some (cQ [41])])
  |a::b::_=>iv a.1 a.2 (if dS Op=4 then 5 else dS Op)++none::some (mM Op)::none::iv b.1 b.2 (dS Op+1)
mutual
def db:Expr→qG
 |⟨Op,N,S,ax⟩=>tx Op N S (rW ax)
def rW:List Expr→List (Int×qG)
 |[]=>[]
 |x::l=>(x.Op,db x)::rW l
end
def rk(op:Int)(n:Nat):Prop:=(1≤op∧op≤27)∧(n:Int)=jW op
mutual
def iN:Expr→Prop
 |⟨Op,N,S,ax⟩=>rk Op ax.length∧(Op=1→0≤N∧N≤9223372036854775807)∧(Op≠1→N=0)∧(Op≠2∧Op≠3→S=[])∧(Op=2→jg S=true)∧(Op=3→hr S=true)∧Lz ax
def Lz:List Expr→Prop
 |[]=>True
 |x::l=>iN x∧Lz l
end
mutual
def hY:Expr→Nat
 |⟨_,_,_,ax⟩=>1+qH ax
def qH:List Expr→Nat
 |[]=>0
 |x::l=>max (hY x) (qH l)
end
def LA(e:Expr):iN e↔rk e.Op e.ax.length∧(e.Op=1→0≤e.N∧e.N≤9223372036854775807)∧(e.Op≠1→e.N=0)∧(e.Op≠2∧e.Op≠3→e.S=[])∧(e.Op=2→jg e.S=true)∧(e.Op=3→hr e.S=true)∧Lz e.ax:=by cases e;rfl
def Fo(e:Expr):hY e=1+qH e.ax:=by cases e;rfl
def adc{w:au'}(h:w∈u9):mo (fl w):=⟨rfl,Or.inr (Or.inl ⟨rfl,h,rfl⟩)⟩
def aoB{c:Prop}[Decidable c]{a b:Token}(ha:mo a)(hb:mo b):mo (if c then a else b):=by
 by_cases h:c
 ·rw [if_pos h];exact ha
 ·rw [if_neg h];exact hb
def aoC{c:Prop}[Decidable c]{a b:Token}{k:Int}(ha:a.Kind=k)(hb:b.Kind=k):(if c then a else b).Kind=k:=by
 by_cases h:c
 ·rw [if_pos h];exact ha
 ·rw [if_neg h];exact hb
def aoD(op:Int):mo (hO op)∧(hO op).Kind=2:=by
 unfold hO;constructor
 ·repeat refine aoB (adc (by decide)) ?_
  exact adc (by decide)
 ·repeat refine aoC rfl ?_
  rfl
def aoE{op:Int}(h:1≤op∧op≤27):jW op=0∧(op≤3∨25≤op)∨jW op=1∧(op=9∨op=18∨20≤op∧op≤24)∨jW op=2∧(4≤op∧op≤8∨10≤op∧op≤17∨op=19):=by
 obtain rfl|rfl|rfl|rfl|rfl|rfl|rfl|rfl|rfl|rfl|rfl|rfl|rfl|rfl|rfl|rfl|rfl|rfl|rfl|rfl|rfl|rfl|rfl|rfl|rfl|rfl|rfl:op=1∨op=2∨op=3∨op=4∨op=5∨op=6∨op=7∨op=8∨op=9∨op=10∨op=11∨op=12∨op=13∨op=14∨op=15∨op=16∨op=17∨op=18∨op=19∨op=20∨op=21∨op=22∨op=23∨op=24∨op=25∨op=26∨op=27:=by omega
 all_goals first|exact Or.inl ⟨rfl,by omega⟩|exact Or.inr (Or.inl ⟨rfl,by omega⟩)|exact Or.inr (Or.inr ⟨rfl,by omega⟩)
open Go Go.Ab Go.Proofs
def cg(l:List Token)(i:Nat)(T R:List Token):Prop:=(l.map cN).drop i=T++R
def xM(R:List Token)(w:au'):Bool:=
 match R with
 |[]=>false
 |t::_=>(decide (t.Kind=2)||decide (t.Kind=5))&&decide (t.Text=w)
def aoF(l:List Token)(i:Nat)(w:au'):bD l i w=xM ((l.map cN).drop i) w:=by
 unfold bD;by_cases h:i<l.length
 ·rw [eZ (l.map cN) i default (by simpa using h)]
  have:(l.map cN).getD i default=cN (l.getD i default):=by simp [List.getD,h]
  rw [this];generalize l.getD i default=t
  simp only [xM,h,cN,auT,Bool.true_and]
  congr
 ·rw [gE (l.map cN) i (by simpa using h)]
  simp [xM,h]
def cg.is{l T R:List Token}{i:Nat}(h:cg l i T R)(w:au'):bD l i w=xM (T++R) w:=by rw [aoF,h]
def cg.call{l T R:List Token}{i:Nat}(h:cg l i T R):lW l i=call2 (iu.find? λr=>xM (T++R) r.1):=by
 unfold lW
 congr 2
 funext r
 exact h.is r.1
def cg.lt{l T R:List Token}{t:Token}{i:Nat}(h:cg l i (t::T) R):i<l.length:=by
 by_cases hi:i<l.length
 ·exact hi
 ·unfold cg at h;rw [gE (l.map cN) i (by simpa using hi)]at h
  cases h
def cg.hd{l T R:List Token}{t:Token}{i:Nat}(h:cg l i (t::T) R):cN (l.getD i default)=t:=by
 have hi:=h.lt;unfold cg at h;rw [eZ (l.map cN) i default (by simpa using hi),List.cons_append]at h
 injection h with Z aa;rw [←Z];simp [List.getD,hi]
def cg.xN{l T U R:List Token}{i:Nat}(h:cg l i (T++U) R):cg l (i+T.length) U R:=by
 unfold cg at *;rw [←List.drop_drop,h,List.append_assoc,List.drop_left]
def cg.le{l T R:List Token}{i:Nat}(h:cg l i T R)(aD:T≠[]):i+T.length≤l.length:=by
 have:=congrArg List.length h
 simp only [List.length_drop,List.length_map,au3]at this;have:0<T.length:=List.length_pos_iff.2 aD
 omega
def aoG(R:List Token):Int:=(xF (gd.find? λr=>xM R r.1)).1
def aoH(op:Int)(R:List Token)(h:20≤op∧op≤27):call2 (iu.find? λr=>xM (hO op::R) r.1)=op:=by
 have:op=20∨op=21∨op=22∨op=23∨op=24∨op=25∨op=26∨op=27:=by omega
 rcases this with rfl|rfl|rfl|rfl|rfl|rfl|rfl|rfl<;>rfl
section
variable {l:List Token}
def iB(l:List Token)(i d bR:Nat)(e:Expr)(k B:Nat):Prop:=∀n,B≤n→fG n (bR:Int) (d:Int) ⟨l,(i:Int)⟩=some (.ret e (k:Int))
def Fp(l:List Token)(i d:Nat)(e:Expr)(k B:Nat):Prop:=∀n,B≤n→iU n (d:Int) ⟨l,(i:Int)⟩=some (.ret e (k:Int))
def TQ(l:List Token)(i d:Nat)(e:Expr)(k B:Nat):Prop:=∀n,B≤n→iE n (d:Int) ⟨l,(i:Int)⟩=some (.ret e (k:Int))
theorem iB.mono{i d bR:Nat}{e:Expr}{k B ade:Nat}(h:iB l i d bR e k B)(dg:B≤ade):iB l i d bR e k ade:=λn hn=>h n (by omega)
theorem aoI(e:Expr):(⟨e.Op,e.N,e.S,e.ax⟩:Expr)=e:=by cases e;rfl
theorem iB.down{i d bR:Nat}{e:Expr}{k B:Nat}(h:iB l i d (bR+1) e k B)(hz:1≤bR)(Lj:bR≤7)(hs:(hD l k).1≠(bR:Int))(am:bR=3→bD l i [110,111,116]=false):iB l i d bR e k (B+2):=by
 intro n hn;obtain⟨n,rfl⟩:∃j,n=j+1:=⟨n-1,by omega⟩
 have he:=h n (by omega)
 rw [Lf];unfold xa;simp only [fI,rS,ak];by_cases e3:bR=3
 ·subst e3;rw [am rfl];simp only [auT,auV,auW];rw [show fG n 4 (d:Int) ⟨l,(i:Int)⟩=_ from he]
  rfl
 ·simp only [e3,show¬ bR=8 by omega,auU,auW]
  rw [c8 (by omega),he]
  obtain⟨m,hm⟩:∃j,n=j+1:=⟨n-1,by omega⟩
  simp only [ak,aB.on]
  conv=>lhs;arg 9;rw [hm]
  simp only [uN,DE,Tn,ak,hs,auU,auY,auV,aoI]
theorem Fp.down{i d:Nat}{e:Expr}{k B:Nat}(h:Fp l i d e k B)(d':bD l i [45]=false):iB l i d 8 e k (B+1):=by
 intro n hn;obtain⟨n,rfl⟩:∃j,n=j+1:=⟨n-1,by omega⟩
 rw [Lf];unfold xa;simp only [fI,rS,ak,show¬ 8=3 by omega,auT,auU,auV,auW,d']
 rw [h n (by omega)]
 rfl
theorem TQ.of{i d:Nat}{e:Expr}{k B:Nat}(ab:l.length≤1000000000)(hi:bD l i [40]=true)(h:iB l (i+1) d 1 e k B)(hk:bD l k [41]=true):TQ l i d e (k+1) (B+1):=by
 intro n hn;obtain⟨n,rfl⟩:∃j,n=j+1:=⟨n-1,by omega⟩
 have Z:=gS hi;have aa:=gS hk;rw [Tq];unfold uO;rw [n3 n l i _ (by omega) (by omega),hi]
 simp only [ak,auV,aB.on];rw [show fG n 1 (d:Int) ⟨l,((i+1:Nat):Int)⟩=_ from h n (by omega)]
 simp only [ak,aB.on];rw [n3 n l k _ (by omega) (by omega),hk]
 rfl
theorem aoJ{n i d:Nat}(ab:l.length≤1000000000)(h:i<l.length):iU (n+1) (d:Int) ⟨l,(i:Int)⟩ =
 if(l.getD i default).Kind=3 then some (.ret ⟨1,(l.getD i default).N,[],[]⟩ ((i+1:Nat):Int))else if(l.getD i default).Kind=4 then some (.ret ⟨2,0,(l.getD i default).Text,[]⟩ ((i+1:Nat):Int))
 else if(l.getD i default).Kind=1 then some (.ret ⟨3,0,(l.getD i default).Text,[]⟩ ((i+1:Nat):Int))else s3 n (fG n) (jz n) (iU n) (iE n) (d:Int) ⟨l,(i:Int)⟩ (i:Int):=by
 rw [acB];unfold xb
 (rw [c8 (by omega)];simp only [au1];rw [Lh (by omega)])
 simp only [au2,h,auT,auV,cC h,a6];by_cases am:(l.getD i default).Kind=3
 ·simp only [am,auT,auV,au8]
 ·by_cases aK:(l.getD i default).Kind=4
  ·simp only [aK,show¬ (4:Int)=3 by omega,auT,auU,auV,auW,au8,au9]
  ·by_cases bd:(l.getD i default).Kind=1
   ·simp only [bd,show¬ (1:Int)=3 by omega,show¬ (1:Int)=4 by omega,auT,auU,auV,auW,au8,au9]
   ·simp only [am,aK,bd,auU,auW,au9]
theorem Fp.word{i d:Nat}{e:Expr}{k B:Nat}{op:Int}(f7:20≤op∧op≤24)(ab:l.length≤1000000000)(hg:kF l){T R:List Token}(eA:cg l i (hO op::T) R)(hd:d≤23)(h:TQ l (i+1) (d+1) e k B):Fp l i d ⟨op,0,[],[e]⟩ k (B+1):=by
 intro n hn;obtain⟨n,rfl⟩:∃j,n=j+1:=⟨n-1,by omega⟩
 have bw:=eA.lt;have bn:=eA.hd;have hk:(l.getD i default).Kind=2:=by have:=congrArg Token.Kind bn;exact this.trans (aoD op).2
 rw [aoJ ab bw,hk,if_neg (by decide),if_neg (by decide),if_neg (by decide)]
 unfold s3 mE DF;rw [Tp n l i hg,eA.call,List.cons_append,aoH op _ (by omega),Le n l i d (by omega) (by omega),if_neg (by omega)]
 simp only [ak,show¬ op=0 by omega,show¬ op=25 by omega,show¬ op=26 by omega,show¬ op=27 by omega,auU,auW,aB.on]
 rw [c8 (by omega),h n (by omega)]
 rfl
end
open Go Go.Ab Go.Proofs
def aoK{l:List Expr}{n:Int}(h:(l.length:Int)=n)(aa:n=2):∃a b,l=[a,b]:=by
 match l,h with
 |[a,b],_=>exact⟨a,b,rfl⟩
 |[],h=>simp at h;omega
 |[a],h=>simp at h;omega
 |a::b::c::l,h=>simp at h;omega
def aoL{l:List Expr}{n:Int}(h:(l.length:Int)=n)(aa:n=1):∃a,l=[a]:=by
 match l,h with
 |[a],_=>exact⟨a,rfl⟩
 |[],h=>simp at h;omega
 |a::b::l,h=>simp at h;omega
def aoM{l:List Expr}{n:Int}(h:(l.length:Int)=n)(aa:n=0):l=[]:=by
 match l,h with
 |[],_=>rfl
 |a::l,h=>simp at h;omega
def TR(e:Expr)(h:iN e):
 (e.Op=1∧e=⟨1,e.N,[],[]⟩)∨(e.Op=2∧e=⟨2,0,e.S,[]⟩)∨(e.Op=3∧e=⟨3,0,e.S,[]⟩)∨((25≤e.Op∧e.Op≤27)∧e=⟨e.Op,0,[],[]⟩)∨
 (∃a,e=⟨e.Op,0,[],[a]⟩∧iN a∧hY e=1+hY a∧(e.Op=9∨e.Op=18∨20≤e.Op∧e.Op≤24))∨
 (∃a b,e=⟨e.Op,0,[],[a,b]⟩∧iN a∧iN b∧hY e=1+max (hY a) (hY b)∧(4≤e.Op∧e.Op≤8∨10≤e.Op∧e.Op≤17∨e.Op=19)):=by
 obtain⟨Op,N,S,ax⟩:=e;obtain⟨⟨Z,aa⟩,am,aK,bd,b',eb,d'⟩:=h;rcases aoE Z with⟨ha,hb⟩|⟨ha,hb⟩|⟨ha,hb⟩
 ·obtain rfl:=aoM aa ha;by_cases e1:Op=1
  ·subst e1;obtain rfl:=bd (by omega);exact Or.inl ⟨rfl,rfl⟩
  ·obtain rfl:=aK e1;by_cases e2:Op=2
   ·subst e2;exact Or.inr (Or.inl ⟨rfl,rfl⟩)
   ·by_cases e3:Op=3
    ·subst e3;exact Or.inr (Or.inr (Or.inl ⟨rfl,rfl⟩))
    ·obtain rfl:=bd ⟨e2,e3⟩;exact Or.inr (Or.inr (Or.inr (Or.inl ⟨⟨by simp only;omega,by simp only;omega⟩,rfl⟩)))
 ·obtain⟨a,rfl⟩:=aoL aa ha;obtain rfl:=aK (by omega)
  obtain rfl:=bd (by omega)
  exact Or.inr (Or.inr (Or.inr (Or.inr (Or.inl ⟨a,rfl,d'.1,by simp [hY,qH],hb⟩))))
 ·obtain⟨a,b,rfl⟩:=aoK aa ha;obtain rfl:=aK (by omega)
  obtain rfl:=bd (by omega)
  exact Or.inr (Or.inr (Or.inr (Or.inr (Or.inr ⟨a,b,rfl,d'.1,d'.2.1,by simp [hY,qH],hb⟩))))
def LB{op:Int}{a b:Expr}(h:4≤op∧op≤8∨10≤op∧op≤17∨op=19):db ⟨op,0,[],[a,b]⟩=iv a.Op (db a) (if dS op=4 then 5 else dS op)++none::some (mM op)::none::iv b.Op (db b) (dS op+1):=by
 simp only [db,rW,tx];rw [if_neg (by omega),if_neg (by omega),if_neg (by omega)]
def aoN{op:Int}{a b:Expr}(h:4≤op∧op≤8∨10≤op∧op≤17∨op=19):k8 (db ⟨op,0,[],[a,b]⟩)=k8 (iv a.Op (db a) (if dS op=4 then 5 else dS op))++mM op::k8 (iv b.Op (db b) (dS op+1)):=by
 rw [LB h,Fn];rfl
def adf{op:Int}(h:4≤op∧op≤8∨10≤op∧op≤17∨op=19):dS op=1∨dS op=2∨dS op=4∨dS op=5∨dS op=6∨dS op=7:=by
 have:op=4∨op=5∨op=6∨op=7∨op=8∨op=10∨op=11∨op=12∨op=13∨op=14∨op=15∨op=16∨op=17∨op=19:=by omega
 rcases this with rfl|rfl|rfl|rfl|rfl|rfl|rfl|rfl|rfl|rfl|rfl|rfl|rfl|rfl<;>decide
def aoO(op:Int):1≤dS op∧dS op≤9:=by
 unfold dS;by_cases Z:op=17
 ·rw [if_pos Z];omega
 by_cases aa:op=16
 ·rw [if_neg Z,if_pos aa];omega
 by_cases am:op=18
 ·rw [if_neg Z,if_neg aa,if_pos am];omega
 by_cases aK:10≤op∧op≤15
 ·rw [if_neg Z,if_neg aa,if_neg am,if_pos aK];omega
 by_cases bd:op=19
 ·rw [if_neg Z,if_neg aa,if_neg am,if_neg aK,if_pos bd];omega
 by_cases b':op=4∨op=5
 ·rw [if_neg Z,if_neg aa,if_neg am,if_neg aK,if_neg bd,if_pos b'];omega
 by_cases eb:6≤op∧op≤8
 ·rw [if_neg Z,if_neg aa,if_neg am,if_neg aK,if_neg bd,if_neg b',if_pos eb];omega
 by_cases d':op=9
 ·rw [if_neg Z,if_neg aa,if_neg am,if_neg aK,if_neg bd,if_neg b',if_neg eb,if_pos d'];omega
 rw [if_neg Z,if_neg aa,if_neg am,if_neg aK,if_neg bd,if_neg b',if_neg eb,if_neg d'];omega
section
variable {l:List Token}
abbrev jH(e:Expr)(bR:Nat):List Token:=k8 (iv e.Op (db e) bR)
end
open Go Go.Ab Go.Proofs
section
variable {l:List Token}
def fR(l:List Token)(e:Expr):Prop:=∀(i d:Nat) (R:List Token),cg l i (k8 (db e)) R→aoG R<(dS e.Op:Int)→d+2*hY e≤26→
 if dS e.Op=9 then Fp l i d e (i+(k8 (db e)).length) (24*(k8 (db e)).length+20)else iB l i d (dS e.Op) e (i+(k8 (db e)).length) (24*(k8 (db e)).length+40-2*dS e.Op)
end
open Go Go.Ab Go.Proofs
def g'{k:Nat}(h:k≤1000000000000):b5 k=true:=Tc (by omega)
def TS{k:Nat}(h:k≤1000000000000):room k 1=true:=by simp [room];omega
def TT(n:Nat)(op:Int):C4 n op=some ((dS op:Nat):Int):=by
 by_cases h:1≤op∧op≤27
 ·obtain rfl|rfl|rfl|rfl|rfl|rfl|rfl|rfl|rfl|rfl|rfl|rfl|rfl|rfl|rfl|rfl|rfl|rfl|rfl|rfl|rfl|rfl|rfl|rfl|rfl|rfl|rfl:op=1∨op=2∨op=3∨op=4∨op=5∨op=6∨op=7∨op=8∨op=9∨op=10∨op=11∨op=12∨op=13∨op=14∨op=15∨op=16∨op=17∨op=18∨op=19∨op=20∨op=21∨op=22∨op=23∨op=24∨op=25∨op=26∨op=27:=by omega
  all_goals rfl
 ·have e:dS op=9:=by
   unfold dS;rw [if_neg (by omega),if_neg (by omega),if_neg (by omega),if_neg (by omega),if_neg (by omega),if_neg (by omega),if_neg (by omega),if_neg (by omega)]
  rw [e];simp only [C4,uB,If,C3,Pj,show¬ op=17 by omega,show¬ op=16 by omega,show¬ op=18 by omega,show¬ op=10 by omega,show¬ op=11 by omega,show¬ op=12 by omega,show¬ op=13 by omega,show¬ op=14 by omega,show¬ op=15 by omega,show¬ op=19 by omega,show¬ op=4 by omega,show¬ op=5 by omega,show¬ op=6 by omega,show¬ op=7 by omega,show¬ op=8 by omega,show¬ op=9 by omega,auU,auW]
  rfl
def adg(n:Nat)(op:Int)(h:20≤op∧op≤27):Ih n op=some (spell (hO op)):=by
 obtain rfl|rfl|rfl|rfl|rfl|rfl|rfl|rfl:op=20∨op=21∨op=22∨op=23∨op=24∨op=25∨op=26∨op=27:=by omega
 all_goals rfl
def adh(n:Nat)(op:Int)(h:4≤op∧op≤8∨10≤op∧op≤17∨op=19):Ig n op=some (spell (mM op)):=by
 have:op=4∨op=5∨op=6∨op=7∨op=8∨op=10∨op=11∨op=12∨op=13∨op=14∨op=15∨op=16∨op=17∨op=19:=by omega
 rcases this with rfl|rfl|rfl|rfl|rfl|rfl|rfl|rfl|rfl|rfl|rfl|rfl|rfl|rfl<;>rfl
def adi(n:Nat)(i:Int)(h0:0≤i)(Z:i≤9223372036854775807):wO n i=some (Lib.decDigits i.toNat):=by
 unfold wO HD;rw [decide_eq_true (show(10:Int)=10 ∧ -9223372036854775808≤i∧i≤9223372036854775807 from⟨rfl,by omega,Z⟩)]
 simp only [a6,ak];unfold Lib.itoa;rw [if_neg (by omega)]
def A8(i:Int)(h0:0≤i)(Z:i≤9223372036854775807):(Lib.decDigits i.toNat).length≤21:=by
 have:=Lib.itoa_length_le i (by omega) Z
 unfold Lib.itoa at this
 rwa [if_neg (by omega)]at this
def Fq(n:Nat)(c:UInt8)(b:au')(h:b.length≤100000000):rA n ((c.toNat:Nat):Int) (fT b)=some (fT (b++[c])):=by
 unfold rA zr;simp only [ak,K_,auZ,au0,TS (show b.length+(0+1)≤1000000000000 by omega),a6,Tb]
def aoP(n:Nat)(s:au')(hs:s.length≤4611686018427387904):∀m i,s.length<i+m→i≤s.length→C1 n s m (i:Int)=some ((s.drop i).all okB):=by
 intro m;induction m with
 |zero=>intro i h aa;omega
 |succ m aM=>
  intro i hm hi;simp only [C1,Pe,Pd];by_cases h:i<s.length
  ·rw [eZ s i 0 h,c8 (by omega),aM (i+1) (by omega) (by omega)]
   simp only [h,cC h,au1,au2,auT,auV,a6,au7,List.all_cons,rP,gb,eG,AQ];cases okB (s.getD i 0)<;>simp
  ·rw [gE s i h];simp [h]
def aoQ{n:Nat}(s:au')(h:s.length<n)(hs:s.length≤4611686018427387904):Pf n s=some (s.all okB):=by
 have:=aoP n s hs n 0 (by omega) (by omega)
 rw [List.drop_zero]at this;exact this
def xO:∀s:au',(gp s).length≤2*s.length
 |[]=>Nat.le_refl _
 |c::s=>by
  have:=xO s
  simp only [gp];split<;>simp only [auZ]<;>omega
def LC(s:au')(c:UInt8):gp (s++[c])=gp s++gp [c]:=by
 induction s with
 |nil=>rfl
 |cons d s aM=>simp only [List.cons_append,gp,aM];split<;>rfl
def aoR(n:Nat)(s:au')(hs:s.length≤64):∀m i,s.length<i+m→i≤s.length→C2 n s m (fT (34::gp (s.take i))) (i:Int)=some (quo s,0):=by
 intro m;induction m with
 |zero=>intro i h aa;omega
 |succ m aM=>
  intro i hm hi;simp only [C2,Pi,Pg,Ph,Ic];have hlen:=xO (s.take i);have uj:(s.take i).length≤i:=by simp;omega
  by_cases h:i<s.length
  ·(rw [c8 (by omega)];simp only [au1])
   have hn:=aM (i+1) (by omega) (by omega)
   have aF:s.take (i+1)=s.take i++[s.getD i 0]:=by
    rw [List.take_add,eZ s i 0 h,List.take_succ_cons,List.take_zero]
   rw [aF,LC]at hn;generalize s.getD i 0=c at hn
   simp only [h,cC h,au2,auT,auV,a6,au7,fI,eG];by_cases hc:c.toNat=34∨c.toNat=92
   ·have hb:(decide (c.toNat=34)||decide (c.toNat=92))=true:=by rcases hc with hc|hc<;>rw [decide_eq_true hc]<;>simp
    have e1:=Fq n 92 (34::gp (s.take i)) (by simp only [auZ];omega)
    have e2:=Fq n c (34::gp (s.take i)++[92]) (by simp only [au3,auZ,au0];omega)
    rw [hb];simp only [auV];rw [show rA n 92 _=_ from e1]
    simp only [ak];rw [e2];simp only [ak];rw [show(34::gp (s.take i)++[92]++[c])=34::(gp (s.take i)++gp [c])by simp only [gp];rw [if_pos hc];simp]
    exact hn
   ·have hb:(decide (c.toNat=34)||decide (c.toNat=92))=false:=by rw [decide_eq_false (λe=>hc (Or.inl e)),decide_eq_false (λe=>hc (Or.inr e))];rfl
    have e2:=Fq n c (34::gp (s.take i)) (by simp only [auZ];omega)
    rw [hb];simp only [auW];rw [e2];simp only [ak];rw [show(34::gp (s.take i)++[c])=34::(gp (s.take i)++gp [c])by simp only [gp];rw [if_neg hc];simp]
    exact hn
  ·have TU:i=s.length:=by omega
   subst TU;simp only [au2,Nat.lt_irrefl,auU,auW,List.take_length];have e1:=Fq n 34 (34::gp s) (by have:=xO s;simp only [auZ];omega)
   rw [show rA n 34 _=_ from e1]
   have ab:=xO s;have eD:(fT (34::gp s++[34])).length≤9223372036854775807:=by rw [K_];simp only [au3,auZ,au0];omega
   simp only [ak,rz,Ta,S_,eD,auT,Bool.and_self,a6];rfl
def aoS{n:Nat}(s:au')(h:jg s=true)(hn:100<n):Ie n s=some (quo s,0):=by
 unfold jg at h;simp only [Bool.and_eq_true,decide_eq_true_eq]at h;unfold Ie;simp only [gb,show¬ 64<s.length by omega,auU,auW,aoQ s (show s.length<n by omega) (by omega),ak,h.1,auX]
 have e1:=Fq n 34 [] (by simp)
 rw [show rA n 34 []=_ from e1]
 exact aoR n s (by omega) n 0 (by omega) (by omega)
def aoT(s:au'):(quo s).length≤2*s.length+2:=by
 have:=xO s
 simp only [quo,auZ,au3,au0];omega
def adj{c:Prop}[Decidable c]{a b:Token}{k:Nat}(ha:(spell a).length≤k)(hb:(spell b).length≤k):(spell (if c then a else b)).length≤k:=by
 by_cases h:c
 ·rw [if_pos h];exact ha
 ·rw [if_neg h];exact hb
def TV(op:Int):(spell (mM op)).length≤3:=by
 unfold mM
 repeat refine adj (by decide) ?_
 decide
def A9(op:Int):(spell (hO op)).length≤6:=by
 unfold hO
 repeat refine adj (by decide) ?_
 decide
def pR(op:Int)(p:qG)(k:Nat):(flat (iv op p k)).length≤(flat p).length+2:=by
 unfold iv;split
 ·simp only [flat,o3,spell,cQ,au3,auZ];simp;omega
 ·omega
def o4{w:au'}(h:hr w=true):w.length≤16:=by
 obtain⟨c,l,_,_,_,_,bd⟩:=adb h;exact bd
def q8:∀(h:Nat) (e:Expr),hY e≤h→iN e→(flat (db e)).length≤4*cM e:=by
 intro h;induction h with
 |zero=>intro e he;rw [Fo]at he;omega
 |succ h aM=>
  intro e he ee;have n6:=(LA e).1 ee;have xJ:=tn e;rcases TR e ee with⟨Z,ao⟩|⟨Z,ao⟩|⟨Z,ao⟩|⟨ai,ao⟩|⟨a,ao,ha,bn,f7⟩|⟨a,b,ao,ha,hb,bn,f7⟩
  ·have:=A8 e.N (n6.2.1 Z).1 (n6.2.1 Z).2
   have e2:flat (db e)=Lib.decDigits e.N.toNat++[]:=by rw [ao];rfl
   rw [e2,List.append_nil];omega
  ·have:=aoT e.S
   have e2:flat (db e)=quo e.S++[]:=by rw [ao];rfl
   rw [e2,List.append_nil];omega
  ·have:=o4 (n6.2.2.2.2.2.1 Z)
   have e2:flat (db e)=e.S++[]:=by rw [ao];rfl
   rw [e2,List.append_nil];omega
  ·have:=A9 e.Op
   generalize e.Op=op at ai ao this
   have e2:flat (db e)=spell (hO op)++([40]++([41]++[])):=by
    rw [ao];simp only [db,rW,tx];rw [if_neg (by omega),if_neg (by omega),if_neg (by omega)];rfl
   rw [e2];simp only [au3,auZ,au0];omega
  ·have Fr:=aM a (by omega) ha
   have Fs:cM e=30+(cM a+1):=by rw [ao];simp [cM,jE]
   have:=A9 e.Op
   have am:=pR a.Op (db a) 3;have d':=pR a.Op (db a) 8;generalize e.Op=op at f7 ao this
   have e2:db e=if op=18 then some (fl [110,111,116])::none::iv a.Op (db a) 3 else if op=9 then some (cQ [45])::iv a.Op (db a) 8 else some (hO op)::some (cQ [40])::(db a++[some (cQ [41])]):=by
    rw [ao];simp only [db,rW,tx];rw [if_neg (by omega),if_neg (by omega),if_neg (by omega)]
   rw [e2];split
   ·simp only [flat,spell,fl,au3,auZ];simp;omega
   ·split
    ·simp only [flat,spell,cQ,au3,auZ];simp;omega
    ·simp only [flat,o3,au3];have e3:(spell (cQ [40])).length=1:=rfl;have hq:(spell (cQ [41])).length=1:=rfl;simp only [au0];omega
  ·have Fr:=aM a (by omega) ha
   have adk:=aM b (by omega) hb
   have Fs:cM e=30+(cM a+1+(cM b+1)):=by rw [ao];simp [cM,jE]
   have:=TV e.Op
   have am:=pR a.Op (db a) (if dS e.Op=4 then 5 else dS e.Op)
   have d':=pR b.Op (db b) (dS e.Op+1);generalize e.Op=op at f7 ao this am d'
   have e2:db e=iv a.Op (db a) (if dS op=4 then 5 else dS op)++none::some (mM op)::none::iv b.Op (db b) (dS op+1):=by rw [ao,LB f7]
   rw [e2];simp only [o3,flat,au3,auZ];omega
open Go Go.Ab Go.Proofs
def aoU(n:Nat):mg (n+1)=Ii n (mg n) (wP n):=rfl
def aoV(n:Nat):wP (n+1)=Ij n (mg n) (wP n):=rfl
def Ft{n:Nat}{e:Expr}{k:Nat}(h:mg n e=some (flat (db e)))(ab:(flat (db e)).length≤100000000):wP (n+1) e (k:Int)=some (flat (iv e.Op (db e) k)):=by
 rw [aoV];unfold Ij iv;rw [TT,h];simp only [ak,au2];by_cases hk:dS e.Op<k
 ·simp only [hk,auT,auV,au8];rw [g' (by simp;omega),g' (by simp;omega)]
  simp only [a6,flat,o3,spell,cQ];simp
 ·simp only [hk,auU,auW,au9]
def aoW:∀(h:Nat) (e:Expr) (n:Nat),hY e≤h→iN e→2*h+200≤n→cM e≤1000000→mg n e=some (flat (db e)):=by
 intro h;induction h with
 |zero=>intro e n he;rw [Fo]at he;omega
 |succ h aM=>
  intro e n he ee hn Lk;obtain⟨n,rfl⟩:∃j,n=j+1:=⟨n-1,by omega⟩
  obtain⟨n,rfl⟩:∃j,n=j+1:=⟨n-1,by omega⟩
  have n6:=(LA e).1 ee;have xJ:=tn e;rw [aoU];unfold Ii;rw [TT];simp only [ak];rcases TR e ee with⟨Z,ao⟩|⟨Z,ao⟩|⟨Z,ao⟩|⟨ai,ao⟩|⟨a,ao,ha,bn,f7⟩|⟨a,b,ao,ha,hb,bn,f7⟩
  ·have e2:flat (db e)=Lib.decDigits e.N.toNat++[]:=by rw [ao];rfl
   rw [adi _ e.N (n6.2.1 Z).1 (n6.2.1 Z).2,e2,List.append_nil];simp only [Z,auT,auV,ak]
  ·have e2:flat (db e)=quo e.S++[]:=by rw [ao];rfl
   rw [aoS e.S (n6.2.2.2.2.1 Z) (by omega),e2,List.append_nil]
   simp only [Z,show¬ (2:Int)=1 by omega,auT,auU,auV,auW,ak]
  ·have e2:flat (db e)=e.S++[]:=by rw [ao];rfl
   rw [e2,List.append_nil];simp only [Z,show¬ (3:Int)=1 by omega,show¬ (3:Int)=2 by omega,auT,auU,auV,auW]
  ·have hw:=A9 e.Op;have TW:=adg (n+1) e.Op (by omega)
   have hz:dS e.Op=9:=by
    have:e.Op=25∨e.Op=26∨e.Op=27:=by omega
    rcases this with h|h|h<;>rw [h]<;>decide
   have e5:e.ax=[]:=by rw [ao]
   have e2:flat (db e)=spell (hO e.Op)++([40]++([41]++[])):=by
    generalize e.Op=op at ai ao
    rw [ao];simp only [db,rW,tx];rw [if_neg (by omega),if_neg (by omega),if_neg (by omega)];rfl
   rw [TW,e2];simp only [ak];rw [g' (show(spell (hO e.Op)).length+([40,41]:au').length≤1000000000000 by simp;omega)]
   simp only [hz,e5,show¬ e.Op=1 by omega,show¬ e.Op=2 by omega,show¬ e.Op=3 by omega,show¬ e.Op=18 by omega,show¬ e.Op=9 by omega,auU,auW,au0,fI,auT,auV,a6]
   simp
  ·have Fs:cM e=30+(cM a+1):=by rw [ao];simp [cM,jE]
   have qI:=aM a n (by omega) ha (by omega) (by omega)
   have TX:=aM a (n+1) (by omega) ha (by omega) (by omega)
   have Fr:=q8 (hY a) a (Nat.le_refl _) ha;have e5:e.ax=[a]:=by rw [ao]
   have am:=pR a.Op (db a) 3;have d':=pR a.Op (db a) 8
   have e2:db e=if e.Op=18 then some (fl [110,111,116])::none::iv a.Op (db a) 3 else if e.Op=9 then some (cQ [45])::iv a.Op (db a) 8 else some (hO e.Op)::some (cQ [40])::(db a++[some (cQ [41])]):=by
    generalize e.Op=op at f7 ao
    rw [ao];simp only [db,rW,tx];rw [if_neg (by omega),if_neg (by omega),if_neg (by omega)]
   rw [e2,e5];simp only [auZ,au0,mm (show 0<0+1 by omega),a6,List.getD_cons_zero,show¬ e.Op=1 by omega,show¬ e.Op=2 by omega,show¬ e.Op=3 by omega,auU,auW]
   by_cases xP:e.Op=18
   ·have:=Ft (k:=3) qI (by omega)
    rw [xP];simp only [auT,auV,au8,show dS 18=3 from rfl]
    rw [this];simp only [ak];rw [g' (by simp;omega)]
    rfl
   ·by_cases iM:e.Op=9
    ·have:=Ft (k:=8) qI (by omega)
     rw [iM];simp only [show¬ (9:Int)=18 by omega,auT,auU,auV,auW,au8,au9,show dS 9=8 from rfl]
     rw [this];simp only [ak];rw [g' (by simp;omega)]
     rfl
    ·have aoX:20≤e.Op∧e.Op≤24:=by omega
     have hz:dS e.Op=9:=by
      have:e.Op=20∨e.Op=21∨e.Op=22∨e.Op=23∨e.Op=24:=by omega
      rcases this with h|h|h|h|h<;>rw [h]<;>decide
     have hw:=A9 e.Op;rw [adg (n+1) e.Op (by omega),TX,if_neg xP,if_neg iM]
     have e3:flat (some (hO e.Op)::some (cQ [40])::(db a++[some (cQ [41])]))=spell (hO e.Op)++([40]++(flat (db a)++([41]++[]))):=by
      simp only [flat,o3];rfl
     rw [e3];generalize spell (hO e.Op)=W at hw
     simp only [xP,iM,hz,auU,auT,auW,auV,ak];rw [g' (show W.length+(0+1)≤1000000000000 by omega),g' (show(W++([40]:au')).length+(flat (db a)).length≤1000000000000 by simp;omega),g' (show((W++([40]:au'))++flat (db a)).length+(0+1)≤1000000000000 by simp;omega)]
     simp only [show((0+1:Nat):Int)=1 from rfl,show¬ (1:Int)=0 by omega,show((9:Nat):Int)=9 from rfl,auT,auU,auV,auW,a6]
     simp
  ·have Fs:cM e=30+(cM a+1+(cM b+1)):=by rw [ao];simp [cM,jE]
   have qI:=aM a n (by omega) ha (by omega) (by omega)
   have TY:=aM b n (by omega) hb (by omega) (by omega)
   have Fr:=q8 (hY a) a (Nat.le_refl _) ha;have adk:=q8 (hY b) b (Nat.le_refl _) hb;have e5:e.ax=[a,b]:=by rw [ao]
   have hz:=adf f7;have aoY:=TV e.Op
   have e2:db e=iv a.Op (db a) (if dS e.Op=4 then 5 else dS e.Op)++none::some (mM e.Op)::none::iv b.Op (db b) (dS e.Op+1):=by
    generalize e.Op=op at f7 ao
    rw [ao,LB f7]
   have am:=pR a.Op (db a) (if dS e.Op=4 then 5 else dS e.Op)
   have d':=pR b.Op (db b) (dS e.Op+1);have xQ:=Ft (k:=dS e.Op+1) TY (by omega)
   rw [e2,e5,adh (n+1) e.Op f7];simp only [auZ,au0,mm (show 0<0+1+1 by omega),a6,List.getD_cons_zero,List.getD_cons_succ,show¬ e.Op=1 by omega,show¬ e.Op=2 by omega,show¬ e.Op=3 by omega,show¬ e.Op=18 by omega,show¬ e.Op=9 by omega,auU,auW,fI,show¬ dS e.Op=9 by omega,show aI 1 (0+1+1)=true from rfl]
   by_cases aK:dS e.Op=4
   ·have so:=Ft (k:=5) qI (by omega)
    rw [aK]at xQ ⊢;rw [if_pos rfl];rw [if_pos aK]at am;simp only [auT,auV];rw [show wP (n+1) a 5=_ from so,show wP (n+1) b 5=_ from xQ]
    simp only [ak];rw [aK]at d';rw [g' (by simp;omega),g' (by simp;omega),g' (by simp;omega),g' (by simp only [au3,auZ,au0];omega)]
    simp only [a6,o3,flat];simp
   ·have so:=Ft (k:=dS e.Op) qI (by omega)
    rw [if_neg aK]at am ⊢;simp only [aK,auU,auW];rw [so,c8 (by omega),xQ]
    simp only [ak];rw [g' (by simp;omega),g' (by simp;omega),g' (by simp;omega),g' (by simp only [au3,auZ,au0];omega)]
    simp only [a6,o3,flat];simp
open Go Go.Ab Go.Proofs
mutual
def n7:Expr→Prop
 |⟨Op,N,S,ax⟩=>N≤9223372036854775807∧S.length≤9223372036854775807∧ax.length≤9223372036854775807∧LD ax
def LD:List Expr→Prop
 |[]=>True
 |x::l=>n7 x∧LD l
end
def aoZ(e:Expr):n7 e↔e.N≤9223372036854775807∧e.S.length≤9223372036854775807∧e.ax.length≤9223372036854775807∧LD e.ax:=by cases e;rfl
mutual
def Fu:Expr→Nat
 |⟨_,_,S,ax⟩=>1+S.length / 64+LE ax
def LE:List Expr→Nat
 |[]=>0
 |x::l=>Fu x+LE l
end
mutual
def TZ:∀e:Expr,cM e+1≤95*Fu e
 |⟨Op,N,S,ax⟩=>by
  have:=adl ax
  simp only [cM,Fu];omega
def adl:∀l:List Expr,jE l≤95*LE l
 |[]=>Nat.le_refl _
 |x::l=>by
  have Z:=TZ x;have aa:=adl l;simp only [jE,LE];omega
end
def ao0:∀(h:Nat) (e:Expr) (d:Nat),hY e≤h→n7 e→g0 e (d:Int)=0→d≤1000→iN e∧d+hY e≤13:=by
 intro h;induction h with
 |zero=>intro e d he;rw [Fo]at he;omega
 |succ h aM=>
  intro e d he hi au hd;obtain⟨i1,i2,i3,i4⟩:=(aoZ e).1 hi;rw [acY]at au
  have kx:pM e (d:Int)=0:=by
   by_cases h0:pM e (d:Int)=0
   ·exact h0
   ·rw [if_neg h0]at au;exact absurd au h0
  rw [if_pos kx]at au;unfold pM at kx;split at kx
  ·omega
  rename_i g1;split at kx
  ·omega
  rename_i g2;split at kx
  ·omega
  rename_i g3;split at kx
  ·omega
  rename_i g4;simp only [not_or,not_and,Bool.not_eq_false]at g1 g2 g3;obtain⟨bc,a2,a3⟩:=g1;obtain⟨b9,ho,o2⟩:=g3
  have f7:1≤e.Op∧e.Op≤27:=by
   unfold jW at bc;by_cases Z:e.Op<1
   ·simp [Z]at bc
   ·by_cases aa:27<e.Op
    ·simp [aa]at bc
    ·omega
  rw [show ava ((d:Int)+1)=((d+1:Nat):Int)by rw [wr]<;>omega]at au
  have ab:∀l:List Expr,qH l≤h→LD l→tv l ((d+1:Nat):Int)=0→Lz l∧(d+1+qH l≤13∨l=[]):=by
   intro l;induction l with
   |nil=>intro _ _ _;exact⟨trivial,Or.inr rfl⟩
   |cons x l ao1=>
    intro bn hin wb;simp only [qH]at bn;simp only [tv]at wb
    have hx:g0 x ((d+1:Nat):Int)=0:=by
     by_cases h0:g0 x ((d+1:Nat):Int)=0
     ·exact h0
     ·rw [if_neg h0]at wb;exact absurd wb h0
    rw [if_pos hx]at wb;obtain⟨fK,ez⟩:=aM x (d+1) (by omega) hin.1 hx (by omega)
    obtain⟨aG,bf⟩:=ao1 (by omega) hin.2 wb
    refine⟨⟨fK,aG⟩,Or.inl ?_⟩
    simp only [qH];rcases bf with bf|rfl
    ·omega
    ·simp only [qH];omega
  have adm:=Fo e;obtain⟨dc,aj⟩:=ab e.ax (by omega) i4 au
  refine⟨(LA e).2 ⟨⟨f7,?_⟩,λZ=>⟨by omega,i1⟩,λZ=>?_,λZ=>?_,λZ=>?_,λZ=>?_,dc⟩,?_⟩
  ·by_cases hc:(e.ax.length:Int)=jW e.Op
   ·exact hc
   ·exact absurd hc o2
  ·by_cases hc:e.N=0
   ·exact hc
   ·exact absurd hc (a2 Z)
  ·by_cases hc:e.S=[]
   ·exact hc
   ·exact absurd hc (a3 Z.1 Z.2)
  ·exact ho Z
  ·exact g2 Z
  ·rcases aj with aj|aj
   ·omega
   ·rw [aj]at adm;simp only [qH]at adm;omega
open Go Go.Ab Go.Proofs
mutual
def xR:Stmt→Prop
 |⟨_,Name,Max,A,B,Body,bM⟩=>(-9223372036854775808≤Max∧Max≤9223372036854775807)∧Name.length≤9223372036854775807∧n7 A∧n7 B∧n8 Body∧n8 bM
def n8:List Stmt→Prop
 |[]=>True
 |x::l=>xR x∧n8 l
end
def adn(s:Stmt):xR s↔(-9223372036854775808≤s.Max∧s.Max≤9223372036854775807)∧s.Name.length≤9223372036854775807∧n7 s.A∧n7 s.B∧n8 s.Body∧n8 s.bM:=by cases s;rfl
mutual
def T0:Stmt→Nat
 |⟨_,Name,_,A,B,Body,bM⟩=>1+Name.length / 64+Fu A+Fu B+A' Body+A' bM
def A':List Stmt→Nat
 |[]=>0
 |x::l=>T0 x+A' l
end
mutual
def ao2:∀s:Stmt,fst s+1≤150*T0 s
 |⟨Op,Name,Max,A,B,Body,bM⟩=>by
  have Z:=TZ A;have aa:=TZ B;have am:=LF Body;have aK:=LF bM;simp only [fst,T0];omega
def LF:∀l:List Stmt,dP l≤150*A' l
 |[]=>Nat.zero_le _
 |x::l=>by
  have Z:=ao2 x;have aa:=LF l;simp only [dP,A'];omega
end
def xS(p:bb):Prop:=p.Name.length≤9223372036854775807∧p.Params.length≤9223372036854775807∧(∀i,i<p.Params.length→(p.Params.getD i default).Name.length≤9223372036854775807)∧n8 p.Body
def ao3(p:bb)(m:Nat):Prop:=p.Name.length≤200∧p.Params.length≤40∧fU p.Params≤16000∧A' p.Body≤m
open Go Go.Ab Go.Proofs
abbrev gq:Expr:=⟨0,0,[],[]⟩
def mN(e:Expr):Prop:=iN e∧hY e≤12
def Fv(s:Stmt):Prop:=
 ((s.Op=1∨s.Op=2)∧s=⟨s.Op,s.Name,0,s.A,gq,[],[]⟩∧hr s.Name=true∧mN s.A)∨
 (s=⟨3,[],0,s.A,s.B,[],[]⟩∧mN s.A∧mN s.B)∨
 ((s.Op=4∨s.Op=7)∧s=⟨s.Op,[],0,s.A,gq,[],[]⟩∧mN s.A)∨
 (s=⟨5,[],0,s.A,gq,s.Body,s.bM⟩∧mN s.A)∨
 (s=⟨6,s.Name,s.Max,s.A,s.B,s.Body,[]⟩∧hr s.Name=true∧(1≤s.Max∧s.Max≤16)∧mN s.A∧mN s.B)∨
 (s=⟨8,[],s.Max,gq,gq,[],[]⟩∧0≤s.Max∧s.Max≤999)
mutual
def A_:Stmt→Nat→Prop
 |⟨Op,Name,Max,A,B,Body,bM⟩,d=>d≤12∧Fv ⟨Op,Name,Max,A,B,Body,bM⟩∧lX Body (d+1)∧lX bM (d+1)
def lX:List Stmt→Nat→Prop
 |[],_=>True
 |s::l,d=>A_ s d∧lX l d
end
def LG(s:Stmt)(d:Nat):A_ s d↔d≤12∧Fv s∧lX s.Body (d+1)∧lX s.bM (d+1):=by cases s;rfl
def xT{e:Expr}(h:ni e=true):e=gq:=by
 obtain⟨a,b,c,l⟩:=e;unfold ni at h;simp only [Bool.and_eq_true,decide_eq_true_eq]at h;obtain⟨⟨⟨rfl,rfl⟩,rfl⟩,h⟩:=h;rw [List.length_eq_zero_iff]at h;subst h;rfl
def tz{e:Expr}(hi:n7 e)(h:g0 e 1=0):mN e:=by
 obtain⟨Z,aa⟩:=ao0 (hY e) e 1 (Nat.le_refl _) hi h (by omega)
 exact⟨Z,by omega⟩
def ao4{s:Stmt}{d:Int}(hi:xR s)(h:kG s d=0):d≤12∧Fv s:=by
 obtain⟨i1,i2,i3,i4,i5,i6⟩:=(adn s).1 hi;unfold kG at h;split at h
 ·omega
 rename_i g1;split at h
 ·omega
 rename_i g2;split at h
 ·rename_i g;exact absurd h g.2
 rename_i g3;split at h
 ·rename_i g;exact absurd h g.2
 rename_i g4;split at h
 ·omega
 rename_i g5;refine⟨by omega,?_⟩
 simp only [not_or,not_and,Bool.not_eq_false,Bool.not_eq_true,Decidable.not_not]at g1 g2 g3 g4;obtain⟨bc,a2,a3⟩:=g1
 have f7:1≤s.Op∧s.Op≤8:=by
  by_cases bn:1≤s.Op∧s.Op≤8
  ·exact bn
  ·rw [show kj s.Op=(⟨false,false,false,false,false,false⟩,false) by
    unfold kj;rw [if_neg (by omega),if_neg (by omega),if_neg (by omega),if_neg (by omega),if_neg (by omega),if_neg (by omega)]]at bc
   cases bc
 obtain⟨Op,Name,Max,A,B,Body,bM⟩:=s;simp only at *
 obtain rfl|rfl|rfl|rfl|rfl|rfl|rfl|rfl:Op=1∨Op=2∨Op=3∨Op=4∨Op=5∨Op=6∨Op=7∨Op=8:=by omega
 all_goals
  simp only [A7,rV,kj]at a2 a3 g2 g3 g4;simp [-List.length_eq_zero_iff]at a2 a3 g2 g3 g4
 all_goals unfold Fv;simp only []
 ·obtain⟨⟨⟨dg,rfl⟩,Z⟩,aa⟩:=a2;obtain rfl:=xT dg;obtain rfl:=List.eq_nil_of_length_eq_zero Z;obtain rfl:=List.eq_nil_of_length_eq_zero aa;exact Or.inl ⟨Or.inl trivial,rfl,g2,tz i3 g3⟩
 ·obtain⟨⟨⟨dg,rfl⟩,Z⟩,aa⟩:=a2;obtain rfl:=xT dg;obtain rfl:=List.eq_nil_of_length_eq_zero Z;obtain rfl:=List.eq_nil_of_length_eq_zero aa;exact Or.inl ⟨Or.inr trivial,rfl,g2,tz i3 g3⟩
 ·obtain⟨⟨⟨rfl,rfl⟩,Z⟩,aa⟩:=a2;obtain rfl:=List.eq_nil_of_length_eq_zero Z;obtain rfl:=List.eq_nil_of_length_eq_zero aa;exact Or.inr (Or.inl ⟨rfl,tz i3 g3,tz i4 g4⟩)
 ·obtain⟨⟨⟨⟨rfl,dg⟩,rfl⟩,Z⟩,aa⟩:=a2;obtain rfl:=xT dg;obtain rfl:=List.eq_nil_of_length_eq_zero Z;obtain rfl:=List.eq_nil_of_length_eq_zero aa;exact Or.inr (Or.inr (Or.inl ⟨Or.inl trivial,rfl,tz i3 g3⟩))
 ·obtain⟨⟨rfl,dg⟩,rfl⟩:=a2;obtain rfl:=xT dg;exact Or.inr (Or.inr (Or.inr (Or.inl ⟨rfl,tz i3 g3⟩)))
 ·obtain rfl:=List.eq_nil_of_length_eq_zero a2;exact Or.inr (Or.inr (Or.inr (Or.inr (Or.inl ⟨rfl,g2,a3,tz i3 g3,tz i4 g4⟩))))
 ·obtain⟨⟨⟨⟨rfl,dg⟩,rfl⟩,Z⟩,aa⟩:=a2;obtain rfl:=xT dg;obtain rfl:=List.eq_nil_of_length_eq_zero Z;obtain rfl:=List.eq_nil_of_length_eq_zero aa;exact Or.inr (Or.inr (Or.inl ⟨Or.inr trivial,rfl,tz i3 g3⟩))
 ·obtain⟨⟨⟨⟨rfl,eA⟩,dg⟩,Z⟩,aa⟩:=a2;obtain rfl:=xT eA;obtain rfl:=xT dg;obtain rfl:=List.eq_nil_of_length_eq_zero Z;obtain rfl:=List.eq_nil_of_length_eq_zero aa;exact Or.inr (Or.inr (Or.inr (Or.inr (Or.inr ⟨rfl,a3⟩))))
mutual
def ado:∀(s:Stmt) (d:Int) (r:Nat×Int),(qF s d r).2=0→r.2=0∧kG s d=0
 |⟨Op,Name,Max,A,B,Body,bM⟩,d,r,h=>by
  simp only [qF]at h;have Z:=Fw Body _ _ (Fw bM _ _ h);simp only at Z
  by_cases h0:r.2=0
  ·rw [if_pos h0]at Z;exact⟨h0,Z⟩
  ·rw [if_neg h0]at Z;exact absurd Z h0
def Fw:∀(l:List Stmt) (d:Int) (r:Nat×Int),(ia l d r).2=0→r.2=0
 |[],d,r,h=>h
 |s::l,d,r,h=>by
  simp only [ia]at h;split at h
  ·exact h
  ·exact(ado s d r (Fw l d _ h)).1
end
mutual
def ao5:∀(s:Stmt) (d:Nat) (r:Nat×Int),xR s→(qF s (d:Int) r).1≠0→(qF s (d:Int) r).2=0→A_ s d
 |⟨Op,Name,Max,A,B,Body,bM⟩,d,r,hi,Z,aa=>by
  have hs:=ao4 hi (ado _ _ _ aa).2;obtain⟨i1,i2,i3,i4,i5,i6⟩:=(adn _).1 hi;have hd:ava ((d:Int)+1)=((d+1:Nat):Int):=by rw [wr]<;>omega
  simp only [qF,hd]at Z aa;have dc:=Fw _ _ _ aa;have aj:=vh bM ((d+1:Nat):Int) (ia Body ((d+1:Nat):Int) (kl B (kl A (r.1-1)),if r.2=0 then kG ⟨Op,Name,Max,A,B,Body,bM⟩ d else r.2))
  exact⟨by omega,hs.2,LH Body (d+1) _ i5 (by omega) dc,LH bM (d+1) _ i6 Z aa⟩
def LH:∀(l:List Stmt) (d:Nat) (r:Nat×Int),n8 l→(ia l (d:Int) r).1≠0→(ia l (d:Int) r).2=0→lX l d
 |[],d,r,_,_,_=>trivial
 |s::l,d,r,hi,Z,aa=>by
  simp only [ia]at Z aa;split at Z
  ·rename_i h;exact absurd h Z
  ·rename_i h;rw [if_neg h]at aa;have k:=vh l (d:Int) (qF s (d:Int) r);exact⟨ao5 s d r hi.1 (by omega) (Fw _ _ _ aa),LH l d _ hi.2 Z aa⟩
end
def adp(p:bb):Prop:=hr p.Name=true∧qD p.Params=0∧lX p.Body 1
def T1{p:bb}(hi:xS p)(h:nk p=0):adp p:=by
 unfold nk at h;split at h
 ·omega
 rename_i g1;split at h
 ·rename_i g;exact absurd h g
 rename_i g2;split at h
 ·omega
 rename_i g3;simp only [Bool.not_eq_false,Decidable.not_not]at g1 g2;exact⟨g1,g2,LH p.Body 1 (401,0) hi.2.2.2 (λe=>g3 ⟨h,e⟩) h⟩
open Go Go.Ab Go.Proofs
def ind:Nat→au'
 | 0=>[]
 |d+1=>32::32::32::32::ind d
def cat:List au'→au'
 |[]=>[]
 |x::l=>x++cat l
def et(d:Nat)(l:List au'):au':=ind d++(cat l++[10])
abbrev gr(e:Expr):au':=flat (db e)
abbrev hP(e:Expr):List Token:=k8 (db e)
mutual
def f5:Stmt→Nat→au'
 |⟨Op,Name,Max,A,B,Body,bM⟩,d=>
  if Op=1 then et d [[108,101,116,32],Name,[32,61,32],gr A,[59]]
  else if Op=2 then et d [Name,[32,61,32],gr A,[59]]
  else if Op=3 then et d [[112,117,116,32],gr A,[32,61,32],gr B,[59]]
  else if Op=4 then et d [[100,101,108,101,116,101,32],gr A,[59]]
  else if Op=5 then et d [[105,102,32],gr A,[32,123]]++(gB Body (d+1)++((if bM.length=0 then[]else et d [[125,32,101,108,115,101,32,123]]++gB bM (d+1))++et d [[125]]))
  else if Op=6 then et d [[102,111,114,32],Name,[32,61,32],gr A,[32,116,111,32],gr B,[32,109,97,120,32],Lib.decDigits Max.toNat,[32,123]]++(gB Body (d+1)++et d [[125]])
  else if Op=7 then et d [[101,109,105,116,32],gr A,[59]]
  else et d [[97,98,111,114,116,32],Lib.decDigits Max.toNat,[59]]
def gB:List Stmt→Nat→au'
 |[],_=>[]
 |s::l,d=>f5 s d++gB l d
end
mutual
def iw:Stmt→List Token
 |⟨Op,Name,Max,A,B,Body,bM⟩=>
  if Op=1 then fl [108,101,116]::n5 Name::cQ [61]::(hP A++[cQ [59]])
  else if Op=2 then n5 Name::cQ [61]::(hP A++[cQ [59]])
  else if Op=3 then fl [112,117,116]::(hP A++cQ [61]::(hP B++[cQ [59]]))
  else if Op=4 then fl [100,101,108,101,116,101]::(hP A++[cQ [59]])
  else if Op=5 then fl [105,102]::(hP A++cQ [123]::(kH Body++cQ [125]::(if bM.length=0 then[]else fl [101,108,115,101]::cQ [123]::(kH bM++[cQ [125]]))))
  else if Op=6 then fl [102,111,114]::n5 Name::cQ [61]::(hP A++fl [116,111]::(hP B++fl [109,97,120]::xL Max::cQ [123]::(kH Body++[cQ [125]])))
  else if Op=7 then fl [101,109,105,116]::(hP A++[cQ [59]])
  else[fl [97,98,111,114,116],xL Max,cQ [59]]
def kH:List Stmt→List Token
 |[]=>[]
 |s::l=>iw s++kH l
end
open Go Go.Ab Go.Proofs
def adq(n:Nat)(s b:au')(x:Int)(h:b.length+s.length≤1000000000):CY n s (fT b) x=some (((s.length:Nat):Int),fT (b++s)):=by
 unfold CY zq;rw [show(fT b).length+s.length=b.length+s.length by simp [fT],TS (by omega)]
 simp [fT,ak,a6]
def ao6(n:Nat)(b:au')(x:Int)(h:b.length≤1000000000):Ib n 10 (fT b) x=some (fT (b++[10])):=by
 unfold Ib zq;rw [show(fT b).length+([10]:List Int).length=b.length+1 by simp [fT],TS (by omega)]
 simp [fT,ak,a6]
def T2:∀l m:List au',cat (l++m)=cat l++cat m
 |[],m=>rfl
 |x::l,m=>by simp only [List.cons_append,cat,T2 l m,List.append_assoc]
def T3:∀d,ind (d+1)=ind d++[32,32,32,32]
 | 0=>rfl
 |d+1=>by
  show 32::32::32::32::ind (d+1)=(32::32::32::32::ind d)++[32,32,32,32]
  rw [T3 d];rfl
def Fx:∀d,(ind d).length=4*d
 | 0=>rfl
 |d+1=>by simp only [ind,auZ,Fx d];omega
def ao7(n:Nat)(parts:List au')(d:Nat)(b:au')(ab:b.length+(cat parts).length≤1000000000)(hp:parts.length≤1000):∀m i,parts.length<i+m→i≤parts.length→
 CZ n parts (d:Int) m (fT (b++cat (parts.take i))) (i:Int)=some (fT (b++(cat parts++[10]))):=by
 intro m;induction m with
 |zero=>intro i Z aa;omega
 |succ m aM=>
  intro i Z aa;have hc:cat parts=cat (parts.take i)++cat (parts.drop i):=by rw [←T2,List.take_append_drop]
  have gM:(cat parts).length=(cat (parts.take i)).length+(cat (parts.drop i)).length:=by rw [hc,au3]
  simp only [CZ,O_,O',au2,au1];by_cases hi:i<parts.length
  ·rw [eZ parts i default hi]at gM;simp only [cat,au3]at gM;simp only [hi,auT,auV,cC hi,a6];rw [adq n _ _ _ (by rw [au3];omega),c8 (by omega)]
   simp only [ak];have:=aM (i+1) (by omega) (by omega)
   rw [vg parts i hi,T2]at this;simp only [cat,List.append_nil]at this;rw [List.append_assoc];exact this
  ·simp only [hi,auU,auW];obtain rfl:i=parts.length:=by omega
   rw [List.take_length,ao6 n _ _ (by rw [au3];omega)]
   simp only [ak,List.append_assoc]
def n9{n:Nat}(parts:List au')(d:Nat)(b:au')(ab:b.length+(cat parts).length≤900000000)(hp:parts.length≤10)(hd:d≤100)(hn:200≤n):
 mD n parts (fT b) (d:Int)=some (fT (b++et d parts)):=by
 have iH:∀m i,d<i+m→i≤d→C0 n parts (d:Int) m (fT (b++ind i)) (i:Int)=some (fT (b++et d parts)):=by
  intro m;induction m with
  |zero=>intro i Z aa;omega
  |succ m aM=>
   intro i Z aa;have tY:=Fx i;simp only [C0,Pb,Pa,au2];by_cases hi:i<d
   ·simp only [hi,auT,auV];rw [adq n _ _ _ (by simp only [au3,auZ,au0];omega),c8 (by omega)]
    simp only [ak];have:=aM (i+1) (by omega) (by omega)
    rw [T3]at this;rw [List.append_assoc];exact this
   ·simp only [hi,auU,auW];obtain rfl:i=d:=by omega
    have:=ao7 n parts i (b++ind i) (by rw [au3];omega) (by omega) n 0 (by omega) (by omega)
    simp only [List.take_zero,cat,List.append_nil]at this;rw [show((0:Nat):Int)=0 from rfl]at this
    rw [this,et,List.append_assoc]
 have:=iH n 0 (by omega) (by omega)
 simp only [ind,List.append_nil]at this;exact this
def lY(d:Nat)(l:List au'):(et d l).length=4*d+(cat l).length+1:=by
 unfold et;simp only [au3,Fx,auZ,au0];omega
def mO{e:Expr}(h:mN e):(gr e).length≤4*cM e:=q8 (hY e) e (Nat.le_refl _) h.1
mutual
def adr:∀(s:Stmt) (d:Nat),A_ s d→(f5 s d).length≤4*fst s
 |⟨Op,Name,Max,A,B,Body,bM⟩,d,h=>by
  obtain⟨hd,hs,cF,fc⟩:=(LG _ _).1 h;have auh:=o5 Body (d+1) cF;have aui:=o5 bM (d+1) fc;rcases hs with⟨ay,ao,hn,eA⟩|⟨ao,eA,dg⟩|⟨ay,ao,eA⟩|⟨ao,eA⟩|⟨ao,hn,hm,eA,dg⟩|⟨ao,hm⟩
  ·simp only [Stmt.mk.injEq,true_and,and_true]at ao ay;obtain⟨rfl,rfl,rfl,rfl⟩:=ao;have Z:=mO eA;have aa:=o4 hn;simp only at Z aa
   rcases ay with rfl|rfl
   ·rw [show f5 ⟨1,Name,0,A,gq,[],[]⟩ d=et d [[108,101,116,32],Name,[32,61,32],gr A,[59]]by simp [f5],lY]
    simp only [cat,fst,au3,auZ,au0];omega
   ·rw [show f5 ⟨2,Name,0,A,gq,[],[]⟩ d=et d [Name,[32,61,32],gr A,[59]]by simp [f5],lY]
    simp only [cat,fst,au3,auZ,au0];omega
  ·simp only [Stmt.mk.injEq,true_and,and_true]at ao;obtain⟨rfl,rfl,rfl,rfl,rfl⟩:=ao;have Z:=mO eA;have aa:=mO dg;simp only at Z aa
   rw [show f5 ⟨3,[],0,A,B,[],[]⟩ d=et d [[112,117,116,32],gr A,[32,61,32],gr B,[59]]by simp [f5],lY]
   simp only [cat,fst,au3,auZ,au0];omega
  ·simp only [Stmt.mk.injEq,true_and,and_true]at ao ay;obtain⟨rfl,rfl,rfl,rfl,rfl⟩:=ao;have Z:=mO eA;simp only at Z
   rcases ay with rfl|rfl
   ·rw [show f5 ⟨4,[],0,A,gq,[],[]⟩ d=et d [[100,101,108,101,116,101,32],gr A,[59]]by simp [f5],lY]
    simp only [cat,fst,au3,auZ,au0];omega
   ·rw [show f5 ⟨7,[],0,A,gq,[],[]⟩ d=et d [[101,109,105,116,32],gr A,[59]]by simp [f5],lY]
    simp only [cat,fst,au3,auZ,au0];omega
  ·simp only [Stmt.mk.injEq,true_and,and_true]at ao;obtain⟨rfl,rfl,rfl,rfl⟩:=ao;have Z:=mO eA;simp only at Z
   have aa:(f5 ⟨5,[],0,A,gq,Body,bM⟩ d).length≤(et d [[105,102,32],gr A,[32,123]]).length+((gB Body (d+1)).length+(((et d [[125,32,101,108,115,101,32,123]]).length+(gB bM (d+1)).length)+(et d [[125]]).length)):=by
    by_cases ab:bM.length=0
    ·simp [f5,ab]
    ·simp [f5,ab];omega
   simp only [lY,cat,au3,auZ,au0]at aa;simp only [fst];omega
  ·simp only [Stmt.mk.injEq,true_and,and_true]at ao;obtain⟨rfl,rfl⟩:=ao;have hm:1≤Max∧Max≤16:=hm;have Z:=mO eA;have aa:=mO dg;have am:=o4 hn;have aK:=A8 Max (by omega) (by omega)
   simp only at Z aa am
   have bd:f5 ⟨6,Name,Max,A,B,Body,[]⟩ d=et d [[102,111,114,32],Name,[32,61,32],gr A,[32,116,111,32],gr B,[32,109,97,120,32],Lib.decDigits Max.toNat,[32,123]]++(gB Body (d+1)++et d [[125]]):=by simp [f5]
   rw [bd];simp only [lY,cat,fst,au3,auZ,au0];omega
  ·simp only [Stmt.mk.injEq,true_and,and_true]at ao;obtain⟨rfl,rfl,rfl,rfl,rfl,rfl⟩:=ao;have hm:0≤Max∧Max≤999:=hm;have aK:=A8 Max (by omega) (by omega)
   rw [show f5 ⟨8,[],Max,gq,gq,[],[]⟩ d=et d [[97,98,111,114,116,32],Lib.decDigits Max.toNat,[59]]by simp [f5],lY]
   simp only [cat,fst,au3,auZ,au0];omega
def o5:∀(l:List Stmt) (d:Nat),lX l d→(gB l d).length≤4*dP l
 |[],d,h=>Nat.le_refl _
 |s::l,d,h=>by
  have Z:=adr s d h.1;have aa:=o5 l d h.2;simp only [gB,dP,au3];omega
end
def ads(n:Nat)(i:Int)(h0:0≤i)(Z:i≤9223372036854775807):wO n i=some (Lib.decDigits i.toNat):=adi n i h0 Z
open Go Go.Ab Go.Proofs
def ao8(n:Nat):rC (n+1)=Ik n (rC n) (wQ n) (wR n):=rfl
def ao9(n:Nat):wQ (n+1)=Im n (rC n) (wQ n) (wR n):=rfl
def ao'(n:Nat):wR (n+1)=In n (rC n) (wQ n) (wR n):=rfl
def tA{n:Nat}{e:Expr}(h:mN e)(hn:300≤n)(bP:cM e≤1000000):mg n e=some (gr e):=aoW (hY e) e n (Nat.le_refl _) h.1 (by have:=h.2;omega) bP
def tB(n:Nat)(l:List Stmt)(d:Nat)(b:au'):Prop:=rC n l (fT b) (d:Int)=some (fT (b++gB l (d+1)),(d:Int))
def ao_{n d:Nat}{b:au'}{A:Expr}{Body bM:List Stmt}(eA:mN A)(bP:cM A≤300000)(hd:d≤12)(hn:400≤n)(hb:b.length≤10000000)(eV:(gB Body (d+1)).length≤10000000)(eD:(gB bM (d+1)).length≤10000000)
 (dg:∀bE:au',bE.length≤b.length+4*cM A+100→tB n Body d bE) (b2:∀bE:au',bE.length≤b.length+4*cM A+200+(gB Body (d+1)).length→tB n bM d bE):
 wQ (n+1) ⟨5,[],0,A,gq,Body,bM⟩ (fT b) (d:Int)=some (fT (b++f5 ⟨5,[],0,A,gq,Body,bM⟩ d),(d:Int)):=by
 have Z:=mO eA;rw [ao9];simp only [Im,Il,gn];rw [tA eA (by omega) (by omega)]
 simp only [ak];rw [n9 _ d b (by simp only [cat,au3,auZ,au0];omega) (by simp) (by omega) (by omega)]
 simp only [ak];have e1:=dg (b++et d [[105,102,32],gr A,[32,123]]) (by simp only [au3,lY,cat,auZ,au0];omega)
 unfold tB at e1;rw [e1];simp only [ak];by_cases ab:bM.length=0
 ·rw [show decide (0<((bM.length:Nat):Int))=false from decide_eq_false (by omega)]
  simp only [auW];rw [n9 _ d _ (by simp only [au3,lY,cat,auZ,au0];omega) (by simp) (by omega) (by omega)]
  simp only [ak];have:f5 ⟨5,[],0,A,gq,Body,bM⟩ d=et d [[105,102,32],gr A,[32,123]]++(gB Body (d+1)++et d [[125]]):=by simp [f5,ab]
  rw [this];simp only [List.append_assoc]
 ·rw [show decide (0<((bM.length:Nat):Int))=true from decide_eq_true (by omega)]
  simp only [auV];rw [n9 _ d _ (by simp only [au3,lY,cat,auZ,au0];omega) (by simp) (by omega) (by omega)]
  simp only [ak];have e2:=b2 (b++et d [[105,102,32],gr A,[32,123]]++gB Body (d+1)++et d [[125,32,101,108,115,101,32,123]]) (by simp only [au3,lY,cat,auZ,au0];omega)
  unfold tB at e2;rw [e2];simp only [ak];rw [n9 _ d _ (by simp only [au3,lY,cat,auZ,au0];omega) (by simp) (by omega) (by omega)]
  simp only [ak];have:f5 ⟨5,[],0,A,gq,Body,bM⟩ d=et d [[105,102,32],gr A,[32,123]]++(gB Body (d+1)++((et d [[125,32,101,108,115,101,32,123]]++gB bM (d+1))++et d [[125]])):=by simp [f5,ab]
  rw [this];simp only [List.append_assoc]
def apa{n d:Nat}{b:au'}{Name:au'}{Max:Int}{A B:Expr}{Body:List Stmt}(eA:mN A)(adt:mN B)(bP:cM A≤300000)(q4:cM B≤300000)(aZ:hr Name=true)(hm:1≤Max∧Max≤16)(hd:d≤12)(hn:400≤n)(hb:b.length≤10000000)(eV:(gB Body (d+1)).length≤10000000)
 (dg:∀bE:au',bE.length≤b.length+4*cM A+4*cM B+120→tB n Body d bE):
 wR (n+1) ⟨6,Name,Max,A,B,Body,[]⟩ (fT b) (d:Int)=some (fT (b++f5 ⟨6,Name,Max,A,B,Body,[]⟩ d),(d:Int)):=by
 have Z:=mO eA;have aa:=mO adt;have am:=o4 aZ;have aK:=A8 Max (by omega) (by omega)
 rw [ao'];simp only [In,gn];rw [tA eA (by omega) (by omega),tA adt (by omega) (by omega),ads n Max (by omega) (by omega)]
 simp only [ak];rw [n9 _ d b (by simp only [cat,au3,auZ,au0];omega) (by simp) (by omega) (by omega)]
 simp only [ak];have e1:=dg (b++et d [[102,111,114,32],Name,[32,61,32],gr A,[32,116,111,32],gr B,[32,109,97,120,32],Lib.decDigits Max.toNat,[32,123]]) (by simp only [au3,lY,cat,auZ,au0];omega)
 unfold tB at e1;rw [e1];simp only [ak];rw [n9 _ d _ (by simp only [au3,lY,cat,auZ,au0];omega) (by simp) (by omega) (by omega)]
 simp only [ak];have:f5 ⟨6,Name,Max,A,B,Body,[]⟩ d=et d [[102,111,114,32],Name,[32,61,32],gr A,[32,116,111,32],gr B,[32,109,97,120,32],Lib.decDigits Max.toNat,[32,123]]++(gB Body (d+1)++et d [[125]]):=by simp [f5]
 rw [this];simp only [List.append_assoc]
def T4:∀(l:List Stmt) (i d:Nat),i<l.length→lX l d→A_ (l.getD i default) d
 |[],i,d,h,_=>by simp at h
 |x::l,0,d,h,ab=>ab.1
 |x::l,i+1,d,h,ab=>by simp only [List.getD_cons_succ];exact T4 l i d (by simpa using h) ab.2
def T6:∀(l m:List Stmt) (d:Nat),lX (l++m) d↔lX l d∧lX m d
 |[],m,d=>by simp [lX]
 |x::l,m,d=>by simp only [List.cons_append,lX,T6 l m d,and_assoc]
def T7:∀(l m:List Stmt) (d:Nat),gB (l++m) d=gB l d++gB m d
 |[],m,d=>rfl
 |x::l,m,d=>by simp only [List.cons_append,gB,T7 l m d,List.append_assoc]
def apb:∀(n:Nat) (l:List Stmt) (d:Nat) (b:au'),lX l (d+1)→d≤12→dP l≤300000→2*dP l+500≤n→b.length+4*dP l≤9000000→tB n l d b:=by
 intro n;induction n using Nat.strongRecOn with
 |_ n aM=>
  intro l d b ee hd bP hn hb;obtain⟨n,rfl⟩:∃k,n=k+2:=⟨n-2,by omega⟩
  have hlen:=A0 l;unfold tB;rw [ao8];unfold Ik;rw [c8 (by omega)]
  have iH:∀m i,l.length<i+m→i≤l.length→C5 (n+1) (rC (n+1)) (wQ (n+1)) (wR (n+1)) l m (fT (b++gB (l.take i) (d+1))) ((d+1:Nat):Int) (i:Int)=some (fT (b++gB l (d+1)),(d:Int)):=by
   intro m;induction m with
   |zero=>intro i Z aa;omega
   |succ m mn=>
    intro i Z aa;simp only [C5,Pq,Pp,au2,au1,gn,jX];by_cases hi:i<l.length
    ·simp only [hi,auT,auV,cC hi,a6];have c_:=T4 l i (d+1) hi ee;have rR:lX (l.take i) (d+1):=((T6 (l.take i) (l.drop i) (d+1)).1 (by rw [List.take_append_drop];exact ee)).1
     have qc:=o5 _ _ rR
     have Ct:dP l=dP (l.take i)+(fst (l.getD i default)+1+dP (l.drop (i+1))):=by
      have:dP l=dP (l.take i++l.drop i):=by rw [List.take_append_drop]
      rw [Ln,eZ l i default hi]at this;simpa only [dP]using this
     have gv:=mn (i+1) (by omega) (by omega)
     rw [vg l i hi,T7,←List.append_assoc]at gv;simp only [gB,List.append_nil]at gv;have nx:(b++gB (l.take i) (d+1)).length≤b.length+4*dP (l.take i):=by rw [au3];omega
     generalize b++gB (l.take i) (d+1)=Ba at gv nx
     rw [c8 (by omega)]
     generalize l.getD i default=s at c_ Ct gv
     have ox:=fst_eq s;obtain⟨kN,hs,cF,fc⟩:=(LG _ _).1 c_;obtain⟨Op,Name,Max,A,B,Body,bM⟩:=s;simp only at ox cF fc
     rcases hs with⟨ay,ao,aZ,eA⟩|⟨ao,eA,dg⟩|⟨ay,ao,eA⟩|⟨ao,eA⟩|⟨ao,aZ,hm,eA,dg⟩|⟨ao,hm⟩
     ·simp only [Stmt.mk.injEq,true_and,and_true]at ao ay;obtain⟨rfl,rfl,rfl,rfl⟩:=ao;have am:=mO eA;have aK:=o4 aZ;simp only at am aK
      rcases ay with rfl|rfl
      ·simp only [show ry (n+1) 1=some (.inl ())from rfl,ak,iA.on,Pl,gn]
       rw [tA eA (by omega) (by show cM A≤_;omega)]
       simp only [ak];rw [n9 _ (d+1) Ba (by simp only [cat,au3,auZ,au0];omega) (by simp) (by omega) (by omega)]
       simp only [ak];rw [show f5 ⟨1,Name,0,A,gq,[],[]⟩ (d+1)=et (d+1) [[108,101,116,32],Name,[32,61,32],gr A,[59]]by simp [f5]]at gv
       exact gv
      ·simp only [show ry (n+1) 2=some (.inr (.inl ()))from rfl,ak,iA.on,Pk,gn]
       rw [tA eA (by omega) (by show cM A≤_;omega)]
       simp only [ak];rw [n9 _ (d+1) Ba (by simp only [cat,au3,auZ,au0];omega) (by simp) (by omega) (by omega)]
       simp only [ak];rw [show f5 ⟨2,Name,0,A,gq,[],[]⟩ (d+1)=et (d+1) [Name,[32,61,32],gr A,[59]]by simp [f5]]at gv
       exact gv
     ·simp only [Stmt.mk.injEq,true_and,and_true]at ao;obtain⟨rfl,rfl,rfl,rfl,rfl⟩:=ao;have am:=mO eA;have aK:=mO dg;simp only at am aK
      simp only [show ry (n+1) 3=some (.inr (.inr (.inl ())))from rfl,ak,iA.on,Pn,gn]
      rw [tA eA (by omega) (by show cM A≤_;omega),tA dg (by omega) (by show cM B≤_;omega)]
      simp only [ak];rw [n9 _ (d+1) Ba (by simp only [cat,au3,auZ,au0];omega) (by simp) (by omega) (by omega)]
      simp only [ak];rw [show f5 ⟨3,[],0,A,B,[],[]⟩ (d+1)=et (d+1) [[112,117,116,32],gr A,[32,61,32],gr B,[59]]by simp [f5]]at gv
      exact gv
     ·simp only [Stmt.mk.injEq,true_and,and_true]at ao ay;obtain⟨rfl,rfl,rfl,rfl,rfl⟩:=ao;have am:=mO eA;simp only at am
      rcases ay with rfl|rfl
      ·simp only [show ry (n+1) 4=some (.inr (.inr (.inr (.inl ()))))from rfl,ak,iA.on,Po,gn]
       rw [tA eA (by omega) (by show cM A≤_;omega)]
       simp only [ak];rw [n9 _ (d+1) Ba (by simp only [cat,au3,auZ,au0];omega) (by simp) (by omega) (by omega)]
       simp only [ak];rw [show f5 ⟨4,[],0,A,gq,[],[]⟩ (d+1)=et (d+1) [[100,101,108,101,116,101,32],gr A,[59]]by simp [f5]]at gv
       exact gv
      ·simp only [show ry (n+1) 7=some (.inr (.inr (.inr (.inr (.inr (.inr (.inl ())))))))from rfl,ak,iA.on,Pm,gn]
       rw [tA eA (by omega) (by show cM A≤_;omega)]
       simp only [ak];rw [n9 _ (d+1) Ba (by simp only [cat,au3,auZ,au0];omega) (by simp) (by omega) (by omega)]
       simp only [ak];rw [show f5 ⟨7,[],0,A,gq,[],[]⟩ (d+1)=et (d+1) [[101,109,105,116,32],gr A,[59]]by simp [f5]]at gv
       exact gv
     ·simp only [Stmt.mk.injEq,true_and,and_true]at ao;obtain⟨rfl,rfl,rfl,rfl⟩:=ao;have eV:=o5 _ _ cF;have eD:=o5 _ _ fc;simp only [show ry (n+1) 5=some (.inr (.inr (.inr (.inr (.inl ())))))from rfl,ak,iA.on]
      rw [ao_ (A:=A) eA (by show cM A≤_;omega) (by omega) (by omega) (by omega) (by omega) (by omega)
       (λbE bQ=>aM n (by omega) Body (d+1) bE cF (by omega) (by omega) (by omega) (by omega)) (λbE bQ=>aM n (by omega) bM (d+1) bE fc (by omega) (by omega) (by omega) (by omega))]
      exact gv
     ·simp only [Stmt.mk.injEq,true_and,and_true]at ao;obtain⟨rfl,rfl⟩:=ao;have eV:=o5 _ _ cF;simp only [show ry (n+1) 6=some (.inr (.inr (.inr (.inr (.inr (.inl ()))))))from rfl,ak,iA.on]
      rw [apa (A:=A) (B:=B) eA dg (by show cM A≤_;omega) (by show cM B≤_;omega) aZ hm (by omega) (by omega) (by omega) (by omega)
       (λbE bQ=>aM n (by omega) Body (d+1) bE cF (by omega) (by omega) (by omega) (by omega))]
      exact gv
     ·simp only [Stmt.mk.injEq,true_and,and_true]at ao;obtain⟨rfl,rfl,rfl,rfl,rfl,rfl⟩:=ao;have hm:0≤Max∧Max≤999:=hm;have aK:=A8 Max (by omega) (by omega)
      simp only [show ry (n+1) 8=some (.inr (.inr (.inr (.inr (.inr (.inr (.inr ())))))))from rfl,ak,iA.on,Pc,gn]
      rw [ads _ Max (by omega) (by omega)]
      simp only [ak];rw [n9 _ (d+1) Ba (by simp only [cat,au3,auZ,au0];omega) (by simp) (by omega) (by omega)]
      simp only [ak];rw [show f5 ⟨8,[],Max,gq,gq,[],[]⟩ (d+1)=et (d+1) [[97,98,111,114,116,32],Lib.decDigits Max.toNat,[59]]by simp [f5]]at gv
      exact gv
    ·simp only [hi,auU,auW];obtain rfl:i=l.length:=by omega
     rw [List.take_length,show ava (((d+1:Nat):Int)-1)=(d:Int)by rw [wr]<;>omega]
  have:=iH (n+1) 0 (by omega) (by omega)
  simp only [List.take_zero,gB,List.append_nil]at this;exact this
open Go Go.Ab Go.Proofs
section
variable {l:List Token}
end
open Go Go.Ab Go.Proofs
section
variable {l:List Token}
end
open Go Go.Ab Go.Proofs
def rX(t:Int):au':=if t=1 then[105,110,116]else if t=2 then[115,116,114] else[98,111,111,108]
def qJ(x:Param):au':=(x.Name++[58,32])++rX x.fS
def vj(x:Param):List Token:=[n5 x.Name,cQ [58],fl (rX x.fS)]
def xU:List Param→List Token
 |[]=>[]
 |x::l=>cQ [44]::(vj x++xU l)
def vk:List Param→List Token
 |[]=>[]
 |x::l=>vj x++xU l
def Fy(x:Param):Prop:=hr x.Name=true∧1≤x.fS∧x.fS≤3
def adu:∀(l b:List Param),vf b l=0→∀x,x∈l→Fy x
 |[],b,h,x,hx=>by cases hx
 |y::l,b,h,x,hx=>by
  unfold vf at h;split at h
  ·omega
  rename_i g1;split at h
  ·omega
  rename_i g2;split at h
  ·omega
  rename_i g3;rcases List.mem_cons.1 hx with rfl|hx
  ·exact⟨by simpa using g1,by omega,by omega⟩
  ·exact adu l _ h x hx
def T8{l:List Param}(h:qD l=0):l.length≤6∧∀x,x∈l→Fy x:=by
 unfold qD at h;split at h
 ·omega
 ·exact⟨by omega,adu l [] h⟩
def pS(l:List Param):au':=Lib.join (l.map qJ) [44,32]
def o6(p:bb):au':=et 0 [[112,114,111,99,32],p.Name,[40],pS p.Params,[41,32,123]]++(gB p.Body 1++et 0 [[125]])
def adv(p:bb):List Token:=fl [112,114,111,99]::n5 p.Name::cQ [40]::(vk p.Params++cQ [41]::cQ [123]::(kH p.Body++[cQ [125]]))
def T9(t:Int):(rX t).length≤4:=by
 unfold rX;split
 ·simp
 ·split<;>simp
def adw(n:Nat)(t:Int):Ia n t=some (rX t):=by
 unfold Ia rX;by_cases Z:t=1
 ·simp [Z]
 ·by_cases aa:t=2
  ·simp [aa]
  ·simp [Z,aa]
def T_(x:au')(l:List au'):Lib.joinTail [44,32] (x::l)=44::32::(x++Lib.joinTail [44,32] l):=by simp [Lib.joinTail]
def adx{x:Param}(h:Fy x):(qJ x).length≤22:=by
 have:=o4 h.1
 have:=T9 x.fS
 unfold qJ;simp only [au3,auZ,au0];omega
def ady:∀l:List Param,(∀x,x∈l→Fy x)→(Lib.joinTail [44,32] (l.map qJ)).length≤24*l.length
 |[],_=>Nat.le_refl _
 |x::l,h=>by
  have Z:=ady l λy b1=>h y (by simp [b1])
  have aa:=adx (h x (by simp))
  rw [List.map_cons,T_];simp only [au3,auZ];omega
def Ua{l:List Param}(ab:∀x,x∈l→Fy x):(pS l).length≤24*l.length:=by
 unfold pS;cases l with
 |nil=>exact Nat.le_refl _
 |cons x l=>
  have Z:=ady l λy b1=>ab y (by simp [b1])
  have aa:=adx (ab x (by simp))
  rw [List.map_cons,Lib.join_cons];simp only [au3,auZ];omega
def adz{p:bb}(hp:adp p):(o6 p).length≤4*dP p.Body+300:=by
 obtain⟨Z,aa,am⟩:=hp;obtain⟨aK,bd⟩:=T8 aa;have b':=Ua bd;have eb:=o4 Z;have d':=o5 p.Body 1 am;unfold o6;simp only [au3,lY,cat,auZ,au0];omega
def apc{n:Nat}(p:bb)(hi:xS p)(au:nk p=0)(hn:3000000≤n)(bP:fU p.Params≤300000)(dg:dP p.Body≤300000):uC n p=some (o6 p):=by
 have hp:=T1 hi au;have yO:=hp;obtain⟨Z,aa,am⟩:=hp;obtain⟨aK,bd⟩:=T8 aa;have b':=Ua bd;have eb:=o4 Z;have d':=o5 p.Body 1 am;have iM:(gB p.Body (0+1)).length≤4*dP p.Body:=d';unfold uC;rw [Lw p (by omega) (by omega) (by omega) (by omega) (by omega),au]
 simp only [ak,auT,auX,auW]
 have iH:∀m i,p.Params.length<i+m→i≤p.Params.length→C6 n p m (i:Int) ((p.Params.take i).map qJ)=some (o6 p):=by
  intro m;induction m with
  |zero=>intro i g1 g2;omega
  |succ m aM=>
   intro i g1 g2;simp only [C6,Ps,au2,au1];by_cases hi:i<p.Params.length
   ·have hx:=bd (p.Params.getD i default) (by rw [List.getD_eq_getElem?_getD,List.getElem?_eq_getElem hi];exact List.getElem_mem hi)
    have hnx:=o4 hx.1;have adA:=T9 (p.Params.getD i default).fS;have:=aM (i+1) (by omega) (by omega)
    rw [vg p.Params i hi,List.map_append]at this;simp only [List.map_cons,List.map_nil]at this;simp only [hi,auT,auV,cC hi,a6];rw [g' (by simp only [auZ,au0];omega),adw]
    simp only [a6,ak];rw [g' (by simp only [au3,auZ,au0];omega)]
    simp only [a6]
    rw [show room ((List.map qJ (p.Params.take i)).length+([(p.Params.getD i default).Name++[58,32]++rX (p.Params.getD i default).fS]:List au').length) 16=true by
     simp [room];omega]
    simp only [a6];rw [c8 (by omega)]
    exact this
   ·simp only [hi,auU,auW];obtain rfl:i=p.Params.length:=by omega
    unfold Pr;rw [List.take_length];unfold HE;rw [show decide ((p.Params.map qJ).length≤140737488355328∧(Lib.join (p.Params.map qJ) [44,32]).length≤140737488355328)=true from decide_eq_true ⟨by rw [List.length_map];omega,by show(pS p.Params).length≤_;omega⟩]
    simp only [a6,ak];have ab:=n9 (n:=n) [[112,114,111,99,32],p.Name,[40],pS p.Params,[41,32,123]] 0 [] (by simp only [cat,au3,auZ,au0];omega) (by simp) (by omega) (by omega)
    have ab:mD n [[112,114,111,99,32],p.Name,[40],Lib.join (p.Params.map qJ) [44,32],[41,32,123]] [] 0=_:=ab;rw [ab];simp only [ak,List.nil_append];have hb:=apb n p.Body 0 (et 0 [[112,114,111,99,32],p.Name,[40],pS p.Params,[41,32,123]]) am (by omega) (by omega) (by omega) (by simp only [lY,cat,au3,auZ,au0];omega)
    unfold tB at hb;rw [show rC n p.Body (fT (et 0 [[112,114,111,99,32],p.Name,[40],pS p.Params,[41,32,123]])) 0=_ from hb]
    simp only [ak];rw [n9 _ 0 _ (by simp only [cat,au3,lY,auZ,au0];omega) (by simp) (by omega) (by omega)]
    simp only [ak];unfold Io;rw [Ta,S_];have hlen:=adz yO;have apd:et 0 [[112,114,111,99,32],p.Name,[40],pS p.Params,[41,32,123]]++gB p.Body (0+1)++et 0 [[125]]=o6 p:=by unfold o6;rw [List.append_assoc]
    rw [apd];rw [show decide ((fT (o6 p)).length≤9223372036854775807)=true from decide_eq_true (by rw [show(fT (o6 p)).length=(o6 p).length by simp [fT]];omega)]
    rfl
 exact iH n 0 (by omega) (by omega)
open Go Go.Ab Go.Proofs
section
variable {l:List Token}
end
open Go Go.Ab Go.Proofs
def gK(s:au'):List Int:=s.map λb=>(b.toNat:Int)
def Ub(s:au'):kg (gK s)=s:=by
 simp only [kg,gK,List.map_map]
 conv=>rhs;rw [←List.map_id s]
 apply List.map_congr_left;intro b _;simp
def Uc(s:au'):nC (gK s)=true:=by
 simp only [nC,gK,List.all_eq_true,List.mem_map,forall_exists_index,and_imp,forall_apply_eq_imp_iff₂];intro b _;have:=b.toNat_lt
 simp;omega
def Ud(s t:au'):gK (s++t)=gK s++gK t:=List.map_append
def Bb(s:au'):(gK s).length=s.length:=List.length_map _
def Ue:([]:List Int)=gK []:=rfl
def eM(u:Nat):au':=if u<128 then[UInt8.ofNat u]else UInt8.ofNat (u % 128+128)::eM (u / 128)
termination_by u
decreasing_by omega
def adB:∀(k u:Nat),u<128 ^ k→0<k→(eM u).length≤k
 | 0,u,_,h=>by omega
 |k+1,u,hu,_=>by
  rw [eM];split
  ·simp
  ·have hk:0<k:=by
    rcases Nat.eq_zero_or_pos k with rfl|h
    ·simp at hu;omega
    ·exact h
   have:=adB k (u / 128) (by rw [Nat.pow_succ]at hu;omega) hk
   simp;omega
def nl{u:Nat}(h:u<18446744073709551616):(eM u).length≤10:=adB 10 u (by omega) (by omega)
def ape:∀x:Nat,x<256→qV .u8 (x:Int) 128=((x % 128+128:Nat):Int):=by decide +kernel
def adC(u:Nat):IntKind.u8.wrap (u:Int)=((u % 256:Nat):Int):=by rw [IntKind.wrap_u8];omega
def qK{u:Nat}(h:u<18446744073709551616):IntKind.u64.wrap (u:Int)=(u:Int):=by rw [IntKind.wrap_u64];omega
def Uf(u:Nat)(h:u<256):([(u:Int)]:List Int)=gK [UInt8.ofNat u]:=by
 simp only [gK,List.map_cons,List.map_nil,UInt8.toNat_ofNat',Nat.mod_eq_of_lt (show u<2 ^ 8 from h)]
def apf(u:Nat):ns .u64 (u:Int) 7=((u / 128:Nat):Int):=by
 unfold ns;rw [show min (7:Int).toNat (IntKind.bits .u64)=7 by decide,Int.fdiv_eq_ediv_of_nonneg _ (by omega)]
 omega
def Ug{n:Nat}(h:n≤140737488355328):room n 1=true:=by simp [room];omega
def gC{n:Nat}(h:n≤9223372036854775807):b5 n=true:=by simp [b5];omega
def apg(n:Nat):∀m u (acc:au'),u<18446744073709551616→(eM u).length≤m→acc.length+(eM u).length≤1000→CM n m (u:Int) (gK acc)=some (acc++eM u):=by
 intro m;induction m with
 |zero=>intro u acc _ h _;rw [eM]at h;split at h<;>simp at h
 |succ m aM=>
  intro u acc hu hm ab;simp only [CM,OK,OJ,HK];rw [eM]at hm ab ⊢;by_cases h:u<128
  ·rw [if_pos h]at hm ab ⊢;simp only [au4]at ab;have:¬ (128:Int)≤(u:Int):=by omega
   rw [adC,Nat.mod_eq_of_lt (by omega),Uf u (by omega),←Ud]
   simp only [this,auU,auW,au4,Bb,Ug (show acc.length+1≤140737488355328 by omega),a6,ak,Uc,Ub]
  ·rw [if_neg h]at hm ab ⊢;simp only [auZ]at hm ab;have:(128:Int)≤(u:Int):=by omega
   rw [adC,ape _ (by omega),show u % 256 % 128=u % 128 by omega,Uf _ (by omega),←Ud,apf]
   simp only [this,auT,auV,au4,Bb,Ug (show acc.length+1≤140737488355328 by omega),a6,ak]
   rw [aM (u / 128) _ (by omega) (by omega) (by simp;omega)]
   simp
def tC{n u:Nat}(hn:10≤n)(hu:u<18446744073709551616):hL n (u:Int)=some (eM u):=by
 have:=nl hu
 exact apg n n u [] hu (by omega) (by simp;omega)
def fold(n:Int):Nat:=if n<0 then(2*(-(n+1))+1).toNat else(2*n).toNat
def fy(x:Int):Prop := -9223372036854775808≤x∧x≤9223372036854775807
def Uh{n:Int}(h:fy n):fold n<18446744073709551616:=by
 unfold fy at h;unfold fold;split<;>omega
def nm(n:Int):au':=eM (fold n)
def LI{n:Int}(h:fy n):(nm n).length≤10:=nl (Uh h)
def xor_zero{a:Nat}(h:a<18446744073709551616):mY .u64 (a:Int) 0=(a:Int):=by
 unfold mY;rw [show BitVec.ofInt (IntKind.bits .u64) 0=0#_ from rfl,BitVec.xor_zero]
 rw [show((BitVec.ofInt (IntKind.bits .u64) (a:Int)).toNat:Int)=(a:Int) by
  rw [BitVec.toNat_ofInt];simp only [IntKind.bits];omega]
 exact qK h
def aph{a:Nat}(h:a<18446744073709551616):mY .u64 (a:Int) 18446744073709551615=((18446744073709551615-a:Nat):Int):=by
 unfold mY;rw [show BitVec.ofInt (IntKind.bits .u64) 18446744073709551615=BitVec.allOnes _ by decide,BitVec.xor_allOnes]
 rw [show((~~~ BitVec.ofInt (IntKind.bits .u64) (a:Int)).toNat:Int)=((18446744073709551615-a:Nat):Int) by
  rw [BitVec.toNat_not,BitVec.toNat_ofInt];simp only [IntKind.bits];omega]
 exact qK (by omega)
def api{x:Int}(h:fy x):mY .u64 (pf .u64 (IntKind.u64.wrap x) 1) (IntKind.u64.wrap (ns .i64 x 63))=(fold x:Int):=by
 unfold fy at h
 have e1:ns .i64 x 63=if x<0 then -1 else 0:=by
  unfold ns;rw [show min (63:Int).toNat (IntKind.bits .i64)=63 by decide,Int.fdiv_eq_ediv_of_nonneg _ (by omega)]
  split<;>omega
 have e2:pf .u64 (IntKind.u64.wrap x) 1=(((2*x) % 18446744073709551616).toNat:Int):=by
  unfold pf;rw [show min (1:Int).toNat (IntKind.bits .u64)=1 by decide,IntKind.wrap_u64,IntKind.wrap_u64]
  omega
 rw [e1,e2];unfold fold;by_cases hx:x<0
 ·rw [if_pos hx,if_pos hx,show IntKind.u64.wrap (-1)=18446744073709551615 by decide,aph (by omega)]
  omega
 ·rw [if_neg hx,if_neg hx,show IntKind.u64.wrap 0=0 by decide,xor_zero (by omega)]
  omega
def xV{n:Nat}{x:Int}(hn:10≤n)(h:fy x):qq n x=some (nm x):=by
 unfold qq;rw [api h,tC hn (Uh h)];rfl
def eH(s:au'):au':=eM s.length++s
def rY{n:Nat}{s:au'}(hn:10≤n)(h:s.length≤4611686018427387904):oJ n s=some (eH s):=by
 unfold oJ;have:=nl (u:=s.length) (by omega)
 rw [qK (by omega),tC hn (by omega)]
 simp only [ak,gC (show(eM s.length).length+s.length≤9223372036854775807 by omega),a6];rfl
def Fz{s:au'}(h:s.length≤4611686018427387904):(eH s).length≤s.length+10:=by
 have:=nl (u:=s.length) (by omega)
 simp [eH];omega
open Go Go.Ab Go.Proofs
def adD(n:Nat)(op:Int):Ka n op=some ((dS op:Nat):Int):=TT n op
def apj(n:Nat)(op:Int)(h:4≤op∧op≤8∨10≤op∧op≤17∨op=19):Kb n op=some (spell (mM op)):=adh n op h
def adE(n:Nat)(op:Int)(h:20≤op∧op≤27):Kc n op=some (spell (hO op)):=by
 obtain rfl|rfl|rfl|rfl|rfl|rfl|rfl|rfl:op=20∨op=21∨op=22∨op=23∨op=24∨op=25∨op=26∨op=27:=by omega
 all_goals rfl
def adF(u:Nat)(h:u<18446744073709551616):kg ([(IntKind.u8.wrap (IntKind.u64.wrap (48+(Int.tmod (u:Int) 10))))]:List Int)=[UInt8.ofNat (48+u % 10)]∧nC ([(IntKind.u8.wrap (IntKind.u64.wrap (48+(Int.tmod (u:Int) 10))))]:List Int)=true:=by
 have:IntKind.u8.wrap (IntKind.u64.wrap (48+(Int.tmod (u:Int) 10)))=((48+u % 10:Nat):Int):=by
  rw [Int.tmod_eq_emod_of_nonneg (by omega),IntKind.wrap_u64,IntKind.wrap_u8];omega
 rw [this,Uf _ (by omega)]
 exact⟨Ub _,Uc _⟩
def adG(u:Nat)(h:u<18446744073709551616):IntKind.u64.wrap (Int.tdiv (u:Int) 10)=((u / 10:Nat):Int):=by
 rw [Int.tdiv_eq_ediv_of_nonneg (by omega),IntKind.wrap_u64];omega
def apk(n:Nat)(i:Int)(hi:0≤i):∀(m f u:Nat) (acc:au'),u<18446744073709551616→u<10 ^ m→acc.length+m≤1000000000→(0<u∨acc≠[])→qx n i (m+f+1) (u:Int) acc=some ((if u=0 then[]else Lib.decDigits u)++acc):=by
 intro m;induction m with
 |zero=>
  intro f u acc hu Z ab cY;have h0:u=0:=by simp at Z;omega
  subst h0;have Bc:acc≠[]:=by rcases cY with h|h;exact absurd h (by omega);exact h
  have:¬ i<0:=by omega
  simp [qx,te,Ej,Bc,this]
 |succ m aM=>
  intro f u acc hu Z ab cY;rw [show m+1+f+1=m+f+1+1 by omega,show qx n i (m+f+1+1)=te n i (qx n i (m+f+1))from rfl]
  simp only [te,Ej];by_cases h0:u=0
  ·subst h0;have Bc:acc≠[]:=by rcases cY with h|h;exact absurd h (by omega);exact h
   have:¬ i<0:=by omega
   simp [Bc,this]
  ·have hp:(0:Int)<(u:Int):=by omega
   obtain⟨d1,d2⟩:=adF u hu;rw [d1,d2,adG u hu];simp only [hp,auT,auV,a6,au4,gC (show 1+acc.length≤9223372036854775807 by omega)]
   rw [aM f (u / 10) _ (by omega) (by rw [Nat.pow_succ]at Z;omega) (by simp;omega) (.inr (by simp))]
   rw [if_neg h0]
   conv=>rhs;rw [Lib.decDigits]
   by_cases iM:u<10
   ·rw [dif_pos iM,if_pos (by omega),Nat.mod_eq_of_lt iM];rfl
   ·rw [dif_neg iM,if_neg (by omega)];simp
def adH(n:Nat)(hn:30≤n)(i:Int)(h0:0≤i)(Z:i≤9223372036854775807):xk n i=some (Lib.decDigits i.toNat):=by
 unfold xk RM;obtain⟨u,rfl⟩:=Int.eq_ofNat_of_zero_le h0;have:¬ (u:Int)<0:=by omega
 simp only [this,auU,auW,ak,qK (show u<18446744073709551616 by omega),au1]
 obtain⟨k,rfl⟩:∃k,n=k+30:=⟨n-30,by omega⟩
 by_cases cY:u=0
 ·subst cY;rw [show qx (k+30) ((0:Nat):Int) (k+30)=te (k+30) ((0:Nat):Int) (qx (k+30) ((0:Nat):Int) (k+28+1))from rfl]
  obtain⟨d1,d2⟩:=adF 0 (by omega)
  have hs:=gC (n:=([UInt8.ofNat (48+0 % 10)]:au').length+([]:au').length) (by decide)
  simp only [te,d1,d2,adG 0 (by omega),hs,a6]
  rw [show qx (k+30) ((0:Nat):Int) (k+28+1)=te (k+30) ((0:Nat):Int) (qx (k+30) ((0:Nat):Int) (k+28))from rfl]
  simp [te,Ej,Lib.decDigits]
 ·have:=apk (k+30) (u:Int) h0 20 (k+9) u [] (by omega) (by omega) (by simp) (.inl (by omega))
  rw [if_neg cY,List.append_nil,show 20+(k+9)+1=k+30 by omega]at this;exact this
def apl(n:Nat)(s:au')(hs:s.length≤9223372036854775807):∀m i,s.length<i+m→i≤s.length→At n s m (i:Int)=some ((s.drop i).all okB):=by
 intro m;induction m with
 |zero=>intro i h aa;omega
 |succ m aM=>
  intro i hm hi;simp only [At,RR,RQ];by_cases h:i<s.length
  ·rw [eZ s i 0 h,ea (by omega),aM (i+1) (by omega) (by omega)]
   simp only [h,cC h,au1,au2,auT,auV,a6,au7,List.all_cons,rP,gb,eG,AQ];cases okB (s.getD i 0)<;>simp
  ·rw [gE s i h];simp [h]
def adI{n:Nat}(s:au')(h:s.length<n)(hs:s.length≤9223372036854775807):RS n s=some (s.all okB):=by
 have:=apl n s hs n 0 (by omega) (by omega)
 rw [List.drop_zero]at this;exact this
def take_one(s:au')(i:Nat)(h:i<s.length):(s.take (i+1)).drop i=[s.getD i 0]:=by
 rw [List.drop_take,eZ s i 0 h];simp
def apm(n:Nat)(s:au')(hs:s.length≤64):∀m i,s.length<i+m→i≤s.length→El n s m (34::gp (s.take i)) (i:Int)=some (quo s,0):=by
 intro m;induction m with
 |zero=>intro i h aa;omega
 |succ m aM=>
  intro i hm hi;simp only [El,RV,RT,RU,J9];have hlen:=xO (s.take i);have uj:(s.take i).length≤i:=by simp;omega
  by_cases h:i<s.length
  ·(rw [c8 (by omega)];simp only [au1];rw [take_one s i h])
   have hn:=aM (i+1) (by omega) (by omega)
   have aF:s.take (i+1)=s.take i++[s.getD i 0]:=by
    rw [List.take_add,eZ s i 0 h,List.take_succ_cons,List.take_zero]
   rw [aF,LC]at hn;generalize s.getD i 0=c at hn
   simp only [h,cC h,au2,auT,auV,a6,au7,fI,eG,E7 (show i≤i+1 by omega) (show i+1≤s.length by omega)]
   by_cases hc:c.toNat=34∨c.toNat=92
   ·have hb:(decide (c.toNat=34)||decide (c.toNat=92))=true:=by rcases hc with hc|hc<;>rw [decide_eq_true hc]<;>simp
    rw [hb];simp only [auV];rw [gC (by simp only [auZ,au0];omega),gC (by simp only [au3,auZ,au0];omega)]
    simp only [a6];rw [show(34::gp (s.take i)++[92]++[c])=34::(gp (s.take i)++gp [c])by simp only [gp];rw [if_pos hc];simp]
    exact hn
   ·have hb:(decide (c.toNat=34)||decide (c.toNat=92))=false:=by rw [decide_eq_false (λe=>hc (Or.inl e)),decide_eq_false (λe=>hc (Or.inr e))];rfl
    rw [hb];simp only [auW];rw [gC (by simp only [auZ,au0];omega)]
    simp only [a6];rw [show(34::gp (s.take i)++[c])=34::(gp (s.take i)++gp [c])by simp only [gp];rw [if_neg hc];simp]
    exact hn
  ·have TU:i=s.length:=by omega
   subst TU;simp only [au2,Nat.lt_irrefl,auU,auW,List.take_length];have ab:=xO s;rw [gC (by simp only [auZ,au0];omega)]
   rfl
def apn{n:Nat}(s:au')(h:jg s=true)(hn:100<n):J' n s=some (quo s,0):=by
 unfold jg at h;simp only [Bool.and_eq_true,decide_eq_true_eq]at h;unfold J';simp only [gb,show¬ 64<s.length by omega,auU,auW,adI s (show s.length<n by omega) (by omega),ak,h.1,auX]
 exact apm n s (by omega) n 0 (by omega) (by omega)
open Go Go.Ab Go.Proofs
def apo(n:Nat):ly (n+1)=Kd n (ly n) (xm n):=rfl
def apq(n:Nat):xm (n+1)=Ke n (ly n) (xm n):=rfl
def FA{n:Nat}{e:Expr}{k:Nat}(h:ly n e=some (flat (db e)))(ab:(flat (db e)).length≤100000000):xm (n+1) e (k:Int)=some (flat (iv e.Op (db e) k)):=by
 rw [apq];unfold Ke iv;rw [adD,h];simp only [ak,au2];by_cases hk:dS e.Op<k
 ·simp only [hk,auT,auV,au8];rw [g' (by simp;omega),g' (by simp;omega)]
  simp only [a6,flat,o3,spell,cQ];simp
 ·simp only [hk,auU,auW,au9]
def apr:∀(h:Nat) (e:Expr) (n:Nat),hY e≤h→iN e→2*h+200≤n→cM e≤1000000→ly n e=some (flat (db e)):=by
 intro h;induction h with
 |zero=>intro e n he;rw [Fo]at he;omega
 |succ h aM=>
  intro e n he ee hn Lk;obtain⟨n,rfl⟩:∃j,n=j+1:=⟨n-1,by omega⟩
  obtain⟨n,rfl⟩:∃j,n=j+1:=⟨n-1,by omega⟩
  have n6:=(LA e).1 ee;have xJ:=tn e;rw [apo];unfold Kd;rw [adD];simp only [ak];rcases TR e ee with⟨Z,ao⟩|⟨Z,ao⟩|⟨Z,ao⟩|⟨ai,ao⟩|⟨a,ao,ha,bn,f7⟩|⟨a,b,ao,ha,hb,bn,f7⟩
  ·have e2:flat (db e)=Lib.decDigits e.N.toNat++[]:=by rw [ao];rfl
   rw [adH _ (by omega) e.N (n6.2.1 Z).1 (n6.2.1 Z).2,e2,List.append_nil]
   simp only [Z,auT,auV,ak]
  ·have e2:flat (db e)=quo e.S++[]:=by rw [ao];rfl
   rw [apn e.S (n6.2.2.2.2.1 Z) (by omega),e2,List.append_nil]
   simp only [Z,show¬ (2:Int)=1 by omega,auT,auU,auV,auW,ak]
  ·have e2:flat (db e)=e.S++[]:=by rw [ao];rfl
   rw [e2,List.append_nil];simp only [Z,show¬ (3:Int)=1 by omega,show¬ (3:Int)=2 by omega,auT,auU,auV,auW]
  ·have hw:=A9 e.Op;have TW:=adE (n+1) e.Op (by omega)
   have hz:dS e.Op=9:=by
    have:e.Op=25∨e.Op=26∨e.Op=27:=by omega
    rcases this with h|h|h<;>rw [h]<;>decide
   have e5:e.ax=[]:=by rw [ao]
   have e2:flat (db e)=spell (hO e.Op)++([40]++([41]++[])):=by
    generalize e.Op=op at ai ao
    rw [ao];simp only [db,rW,tx];rw [if_neg (by omega),if_neg (by omega),if_neg (by omega)];rfl
   rw [TW,e2];simp only [ak];rw [g' (show(spell (hO e.Op)).length+([40,41]:au').length≤1000000000000 by simp;omega)]
   simp only [hz,e5,show¬ e.Op=1 by omega,show¬ e.Op=2 by omega,show¬ e.Op=3 by omega,show¬ e.Op=18 by omega,show¬ e.Op=9 by omega,auU,auW,au0,fI,auT,auV,a6]
   simp
  ·have Fs:cM e=30+(cM a+1):=by rw [ao];simp [cM,jE]
   have qI:=aM a n (by omega) ha (by omega) (by omega)
   have TX:=aM a (n+1) (by omega) ha (by omega) (by omega)
   have Fr:=q8 (hY a) a (Nat.le_refl _) ha;have e5:e.ax=[a]:=by rw [ao]
   have am:=pR a.Op (db a) 3;have d':=pR a.Op (db a) 8
   have e2:db e=if e.Op=18 then some (fl [110,111,116])::none::iv a.Op (db a) 3 else if e.Op=9 then some (cQ [45])::iv a.Op (db a) 8 else some (hO e.Op)::some (cQ [40])::(db a++[some (cQ [41])]):=by
    generalize e.Op=op at f7 ao
    rw [ao];simp only [db,rW,tx];rw [if_neg (by omega),if_neg (by omega),if_neg (by omega)]
   rw [e2,e5];simp only [auZ,au0,mm (show 0<0+1 by omega),a6,List.getD_cons_zero,show¬ e.Op=1 by omega,show¬ e.Op=2 by omega,show¬ e.Op=3 by omega,auU,auW]
   by_cases xP:e.Op=18
   ·have:=FA (k:=3) qI (by omega)
    rw [xP];simp only [auT,auV,au8,show dS 18=3 from rfl]
    rw [this];simp only [ak];rw [g' (by simp;omega)]
    rfl
   ·by_cases iM:e.Op=9
    ·have:=FA (k:=8) qI (by omega)
     rw [iM];simp only [show¬ (9:Int)=18 by omega,auT,auU,auV,auW,au8,au9,show dS 9=8 from rfl]
     rw [this];simp only [ak];rw [g' (by simp;omega)]
     rfl
    ·have aoX:20≤e.Op∧e.Op≤24:=by omega
     have hz:dS e.Op=9:=by
      have:e.Op=20∨e.Op=21∨e.Op=22∨e.Op=23∨e.Op=24:=by omega
      rcases this with h|h|h|h|h<;>rw [h]<;>decide
     have hw:=A9 e.Op;rw [adE (n+1) e.Op (by omega),TX,if_neg xP,if_neg iM]
     have e3:flat (some (hO e.Op)::some (cQ [40])::(db a++[some (cQ [41])]))=spell (hO e.Op)++([40]++(flat (db a)++([41]++[]))):=by
      simp only [flat,o3];rfl
     rw [e3];generalize spell (hO e.Op)=W at hw
     simp only [xP,iM,hz,auU,auT,auW,auV,ak];rw [g' (show W.length+(0+1)≤1000000000000 by omega),g' (show(W++([40]:au')).length+(flat (db a)).length≤1000000000000 by simp;omega),g' (show((W++([40]:au'))++flat (db a)).length+(0+1)≤1000000000000 by simp;omega)]
     simp only [show((0+1:Nat):Int)=1 from rfl,show¬ (1:Int)=0 by omega,show((9:Nat):Int)=9 from rfl,auT,auU,auV,auW,a6]
     simp
  ·have Fs:cM e=30+(cM a+1+(cM b+1)):=by rw [ao];simp [cM,jE]
   have qI:=aM a n (by omega) ha (by omega) (by omega)
   have TY:=aM b n (by omega) hb (by omega) (by omega)
   have Fr:=q8 (hY a) a (Nat.le_refl _) ha;have adk:=q8 (hY b) b (Nat.le_refl _) hb;have e5:e.ax=[a,b]:=by rw [ao]
   have hz:=adf f7;have aoY:=TV e.Op
   have e2:db e=iv a.Op (db a) (if dS e.Op=4 then 5 else dS e.Op)++none::some (mM e.Op)::none::iv b.Op (db b) (dS e.Op+1):=by
    generalize e.Op=op at f7 ao
    rw [ao,LB f7]
   have am:=pR a.Op (db a) (if dS e.Op=4 then 5 else dS e.Op)
   have d':=pR b.Op (db b) (dS e.Op+1);have xQ:=FA (k:=dS e.Op+1) TY (by omega)
   rw [e2,e5,apj (n+1) e.Op f7];simp only [auZ,au0,mm (show 0<0+1+1 by omega),a6,List.getD_cons_zero,List.getD_cons_succ,show¬ e.Op=1 by omega,show¬ e.Op=2 by omega,show¬ e.Op=3 by omega,show¬ e.Op=18 by omega,show¬ e.Op=9 by omega,auU,auW,fI,show¬ dS e.Op=9 by omega,show aI 1 (0+1+1)=true from rfl]
   by_cases aK:dS e.Op=4
   ·have so:=FA (k:=5) qI (by omega)
    rw [aK]at xQ ⊢;rw [if_pos rfl];rw [if_pos aK]at am;simp only [auT,auV];rw [show xm (n+1) a 5=_ from so,show xm (n+1) b 5=_ from xQ]
    simp only [ak];rw [aK]at d';rw [g' (by simp;omega),g' (by simp;omega),g' (by simp;omega),g' (by simp only [au3,auZ,au0];omega)]
    simp only [a6,o3,flat];simp
   ·have so:=FA (k:=dS e.Op) qI (by omega)
    rw [if_neg aK]at am ⊢;simp only [aK,auU,auW];rw [so,c8 (by omega),xQ]
    simp only [ak];rw [g' (by simp;omega),g' (by simp;omega),g' (by simp;omega),g' (by simp only [au3,auZ,au0];omega)]
    simp only [a6,o3,flat];simp
open Go Go.Ab Go.Proofs
def aps(n d:Nat)(hd:d≤100):∀m i,d<i+m→i≤d→Ek n (d:Int) m (ind i) (i:Int)=some (ind d):=by
 intro m;induction m with
 |zero=>intro i h aa;omega
 |succ m aM=>
  intro i hm hi;simp only [Ek,RO,RN,au2];by_cases h:i<d
  ·simp only [h,auT,auV];rw [gC (by rw [Fx];simp;omega),c8 (by omega),←T3,aM (i+1) (by omega) (by omega)]
   rfl
  ·simp only [h,auU,auW];rw [show i=d by omega]
def apt{n d:Nat}(hd:d≤100)(hn:d<n):RP n (d:Int)=some (ind d):=aps n d hd n 0 (by omega) (by omega)
def adJ{n:Nat}{e:Expr}(h:mN e)(hn:300≤n)(bP:cM e≤1000000):ly n e=some (gr e):=apr (hY e) e n (Nat.le_refl _) h.1 (by have:=h.2;omega) bP
def apu(n:Nat):rK (n+1)=Kf n (rK n) (Aw n):=rfl
def apv(n:Nat):Aw (n+1)=Kg n (rK n) (Aw n):=rfl
set_option maxHeartbeats 4000000 in
def apw{n:Nat}{s:Stmt}{d:Nat}(ee:A_ s d)(bP:fst s≤300000)(hn:500≤n)
 (hb:rK n s.Body ((d+1:Nat):Int)=some (gB s.Body (d+1))) (he:rK n s.bM ((d+1:Nat):Int)=some (gB s.bM (d+1))):Aw (n+1) s (d:Int)=some (f5 s d):=by
 obtain⟨hd,hsh,cx,n6⟩:=(LG s d).1 ee;have Z:=o5 _ _ cx;have aa:=o5 _ _ n6;have hi:=Fx d;obtain⟨Op,Name,Max,A,B,Body,bM⟩:=s
 dsimp only at hb he cx n6 Z aa
 have ox:cM A≤300000∧cM B≤300000∧dP Body≤300000∧dP bM≤300000:=by simp only [fst]at bP;omega
 obtain⟨f1,f2,f3,f4⟩:=ox;rw [apv];unfold Kg;rw [apt (by omega) (by omega)]
 simp only [ak,gn,c8 (show d≤4611686018427387904 by omega)]
 have eA:mN A→ly n A=some (gr A)∧(gr A).length≤1200000:=λh=>⟨adJ h (by omega) (by omega),by have:=mO h;omega⟩
 have dg:mN B→ly n B=some (gr B)∧(gr B).length≤1200000:=λh=>⟨adJ h (by omega) (by omega),by have:=mO h;omega⟩
 have aZ:hr Name=true→Name.length≤16:=λh=>by obtain⟨_,_,_,_,_,_,h⟩:=adb h;exact h
 have c7:0≤Max∧Max≤999→xk n Max=some (Lib.decDigits Max.toNat)∧(Lib.decDigits Max.toNat).length≤21:=λh=>⟨adH n (by omega) Max h.1 (by omega),A8 Max h.1 (by omega)⟩
 unfold f5;unfold Fv at hsh;simp only at hsh
 rcases hsh with⟨ay,ao,Cq,ha⟩|⟨ao,ha,q0⟩|⟨ay,ao,ha⟩|⟨ao,ha⟩|⟨ao,Cq,NW,ha,q0⟩|⟨ao,NW⟩
 ·obtain⟨bc,a2⟩:=eA ha;have a3:=aZ Cq;rcases ay with rfl|rfl
  ·simp (disch:=first|omega|(simp only [au3,auZ,au0];omega)) only [bc,decide_true,cond_true,ak,gC,a6,if_true,et,cat]
   simp
  ·simp (disch:=first|omega|(simp only [au3,auZ,au0];omega)) only [bc,show¬ (2:Int)=1 by omega,decide_true,decide_false,cond_false,if_false,cond_true,ak,gC,a6,if_true,et,cat]
   simp
 ·cases ao;obtain⟨bc,a2⟩:=eA ha;obtain⟨b9,ho⟩:=dg q0;simp (disch:=first|omega|(simp only [au3,auZ,au0];omega)) only [bc,b9,show¬ (3:Int)=1 by omega,show¬ (3:Int)=2 by omega,decide_true,decide_false,cond_false,if_false,cond_true,ak,gC,a6,if_true,et,cat]
  simp
 ·obtain⟨bc,a2⟩:=eA ha;rcases ay with rfl|rfl<;>simp (disch:=first|omega|(simp only [au3,auZ,au0];omega)) only [bc,show¬ (4:Int)=1 by omega,show¬ (4:Int)=2 by omega,show¬ (4:Int)=3 by omega,show¬ (7:Int)=1 by omega,show¬ (7:Int)=2 by omega,show¬ (7:Int)=3 by omega,show¬ (7:Int)=4 by omega,show¬ (7:Int)=5 by omega,show¬ (7:Int)=6 by omega,decide_true,decide_false,cond_false,if_false,cond_true,ak,gC,a6,if_true,et,cat]<;>simp
 ·cases ao;obtain⟨bc,a2⟩:=eA ha;have bK:¬ (5:Int)=1∧¬ (5:Int)=2∧¬ (5:Int)=3∧¬ (5:Int)=4∧¬ (5:Int)=7∧¬ (5:Int)=8∧¬ (5:Int)=6:=by omega
  obtain⟨e1,e2,e3,hq,qC,LJ,rU⟩:=bK;by_cases cY:bM.length=0
  ·simp (disch:=first|omega|(simp only [au3,auZ,au0];omega)) only [bc,hb,e1,e2,e3,hq,rU,qC,LJ,cY,En,Int.lt_irrefl,show¬ ((0:Int)<((0:Nat):Int))by omega,decide_true,decide_false,cond_false,if_false,cond_true,ak,gC,a6,if_true,et,cat]
   simp
  ·have hp:(0:Int)<((bM.length:Nat):Int):=by omega
   simp (disch:=first|omega|(simp only [au3,auZ,au0];omega)) only [bc,hb,he,hp,e1,e2,e3,hq,rU,qC,LJ,cY,En,decide_true,decide_false,cond_false,if_false,cond_true,ak,gC,a6,if_true,et,cat]
   simp
 ·cases ao;obtain⟨bc,a2⟩:=eA ha;obtain⟨b9,ho⟩:=dg q0;obtain⟨m1,m2⟩:=c7 ⟨by omega,by omega⟩
  have a3:=aZ Cq;have bK:¬ (6:Int)=1∧¬ (6:Int)=2∧¬ (6:Int)=3∧¬ (6:Int)=4∧¬ (6:Int)=7∧¬ (6:Int)=8∧¬ (6:Int)=5:=by omega
  obtain⟨e1,e2,e3,hq,qC,LJ,oB⟩:=bK;simp (disch:=first|omega|(simp only [au3,auZ,au0];omega)) only [bc,b9,m1,hb,e1,e2,e3,hq,oB,qC,LJ,decide_true,decide_false,cond_false,if_false,cond_true,ak,gC,a6,if_true,et,cat]
  simp
 ·cases ao;obtain⟨m1,m2⟩:=c7 ⟨by omega,by omega⟩
  have bK:¬ (8:Int)=1∧¬ (8:Int)=2∧¬ (8:Int)=3∧¬ (8:Int)=4∧¬ (8:Int)=7∧¬ (8:Int)=5∧¬ (8:Int)=6:=by omega
  obtain⟨e1,e2,e3,hq,qC,oB,rU⟩:=bK;simp (disch:=first|omega|(simp only [au3,auZ,au0];omega)) only [m1,e1,e2,e3,hq,oB,rU,qC,decide_true,decide_false,cond_false,if_false,cond_true,ak,gC,a6,if_true,et,cat]
  simp
open Go Go.Ab Go.Proofs
def apx:∀(n:Nat) (l:List Stmt) (d:Nat),lX l d→dP l≤300000→2*dP l+600≤n→rK n l (d:Int)=some (gB l d):=by
 intro n;induction n using Nat.strongRecOn with
 |_ n aM=>
  intro l d ee bP hn;obtain⟨n,rfl⟩:∃k,n=k+2:=⟨n-2,by omega⟩
  have hlen:=A0 l;rw [apu];unfold Kf
  have iH:∀m i,l.length<i+m→i≤l.length→Em (n+1) (rK (n+1)) (Aw (n+1)) l (d:Int) m (gB (l.take i) d) (i:Int)=some (gB l d):=by
   intro m;induction m with
   |zero=>intro i Z aa;omega
   |succ m mn=>
    intro i Z aa;simp only [Em,RY,RX,au2,au1,jX];by_cases hi:i<l.length
    ·simp only [hi,auT,auV,cC hi,a6];have c_:=T4 l i d hi ee;have rR:lX (l.take i) d:=((T6 (l.take i) (l.drop i) d).1 (by rw [List.take_append_drop];exact ee)).1
     have qc:=o5 _ _ rR
     have Ct:dP l=dP (l.take i)+(fst (l.getD i default)+1+dP (l.drop (i+1))):=by
      have:dP l=dP (l.take i++l.drop i):=by rw [List.take_append_drop]
      rw [Ln,eZ l i default hi]at this;simpa only [dP]using this
     have gv:=mn (i+1) (by omega) (by omega)
     rw [vg l i hi,T7]at gv;generalize l.getD i default=s at c_ Ct gv
     have hx:=adr s d c_;have xJ:=fst_eq s;obtain⟨_,_,apy,Ui⟩:=(LG s d).1 c_;have hb:=aM n (by omega) s.Body (d+1) apy (by omega) (by omega)
     have he:=aM n (by omega) s.bM (d+1) Ui (by omega) (by omega)
     rw [apw c_ (by omega) (by omega) hb he,ak,gC (by omega),a6,c8 (by omega)]
     simpa only [gB,List.append_nil]using gv
    ·simp only [hi,auU,auW];rw [List.take_of_length_le (by omega)]
  exact iH (n+1) 0 (by omega) (by omega)
open Go Go.Ab Go.Proofs
def apz(n:Nat)(t:Int):RZ n t=some (rX t):=adw n t
def adK(x:au'):∀l:List au',Lib.joinTail [44,32] (l++[x])=Lib.joinTail [44,32] l++([44,32]++x)
 |[]=>by simp [Lib.joinTail]
 |y::l=>by rw [List.cons_append,T_,T_,adK x l];simp
def apA(x:au')(l:List au'):Lib.join (l++[x]) [44,32]=(if l.length=0 then Lib.join l [44,32]else Lib.join l [44,32]++[44,32])++x:=by
 cases l with
 |nil=>simp [Lib.join,Lib.joinTail]
 |cons y l=>rw [List.cons_append,Lib.join_cons,Lib.join_cons,adK,if_neg (by simp)];simp
def apB{n:Nat}(p:bb)(hi:xS p)(au:nk p=0)(hn:3000000≤n)(bP:fU p.Params≤300000)(dg:dP p.Body≤300000):xn n p=some (o6 p):=by
 have hp:=T1 hi au;obtain⟨Z,aa,am⟩:=hp;obtain⟨aK,bd⟩:=T8 aa;have eb:=o4 Z;have d':=o5 p.Body 1 am;unfold xn;rw [TP p (by omega) (by omega) (by omega) (by omega) (by omega) (by omega) (by omega),au]
 simp only [ak,auT,auX,auW];rw [gC (by simp only [auZ,au0];omega),gC (by simp only [au3,auZ,au0];omega)]
 simp only [a6]
 have iH:∀m i,p.Params.length<i+m→i≤p.Params.length→Ep n p m ((([112,114,111,99,32]++p.Name)++[40])++pS (p.Params.take i)) (i:Int)=some (o6 p):=by
  intro m;induction m with
  |zero=>intro i g1 g2;omega
  |succ m aM=>
   intro i g1 g2;have adL:(pS (p.Params.take i)).length≤24*(p.Params.take i).length:=Ua λx hx=>bd x (List.mem_of_mem_take hx)
   have apC:(p.Params.take i).length≤6:=by simp;omega
   simp only [Ep,R2,Kh,R1,au2,au1];by_cases hi:i<p.Params.length
   ·have hx:=bd (p.Params.getD i default) (by rw [List.getD_eq_getElem?_getD,List.getElem?_eq_getElem hi];exact List.getElem_mem hi)
    have hnx:=o4 hx.1;have adA:=T9 (p.Params.getD i default).fS;have gv:=aM (i+1) (by omega) (by omega)
    unfold pS at gv adL ⊢;rw [vg p.Params i hi,List.map_append]at gv;simp only [List.map_cons,List.map_nil]at gv;rw [apA]at gv;generalize m8:p.Params.getD i default=x at gv hnx adA
    simp only [hi,auT,auV,cC hi,a6,apz,ak,c8 (show i≤4611686018427387904 by omega),gb]
    by_cases h0:i=0
    ·subst h0;simp (disch:=first|omega|(simp only [au3,auZ,au0];omega)) only [Nat.lt_irrefl,decide_false,cond_false,gC,a6]
     rw [←gv];simp [qJ]
    ·simp (disch:=first|omega|(simp only [au3,auZ,au0];omega)) only [show 0<i by omega,decide_true,cond_true,gC,a6]
     rw [←gv,if_neg (by rw [List.length_map,List.length_take];omega)];simp [qJ]
   ·simp only [hi,auU,auW];obtain rfl:i=p.Params.length:=by omega
    unfold R0;rw [List.take_length]at adL apC ⊢;rw [show(1:Int)=((1:Nat):Int)from rfl,apx n p.Body 1 am dg (by omega)]
    simp (disch:=first|omega|(simp only [au3,auZ,au0];omega)) only [ak,gC,a6]
    simp [o6,et,cat,ind]
 have:=iH n 0 (by omega) (by omega)
 rw [show pS (p.Params.take 0)=[]from rfl,List.append_nil]at this
 exact this
open Go Go.Ab Go.Proofs
def apD{β:Type}{L:Nat→Int→Option β}{len:Nat}{chk:Nat→Bool}{no yes:β}
 (step:∀m i,i<len→L (m+1) (i:Int)=if chk i then L m ((i+1:Nat):Int)else some no) (stop:∀m,L (m+1) (len:Int)=some yes):
 ∀m i,len<i+m→i≤len→L m (i:Int)=some (if(List.range' i (len-i)).all chk then yes else no):=by
 intro m;induction m with
 |zero=>intro i h aa;omega
 |succ m aM=>
  intro i h aa;by_cases hi:i<len
  ·rw [step m i hi,aM (i+1) (by omega) (by omega),show len-i=(len-(i+1))+1 by omega,List.range'_succ,List.all_cons]
   cases chk i
   ·rfl
   ·rw [if_pos rfl,Bool.true_and]
  ·obtain rfl:i=len:=by omega
   rw [stop m];simp
def Uj{β:Type}{L:Nat→Int→Option β}{len:Nat}{chk:Nat→Bool}{no yes:β}{m:Nat}(hm:len<m)
 (step:∀m i,i<len→L (m+1) (i:Int)=if chk i then L m ((i+1:Nat):Int)else some no) (stop:∀m,L (m+1) (len:Int)=some yes):
 L m 0=some (if(List.range len).all chk then yes else no):=by
 have:=apD step stop m 0 (by omega) (by omega)
 rwa [Nat.sub_zero,←List.range_eq_range']at this
def qL(c:UInt8):Bool:=decide (97≤c.toNat∧c.toNat≤122)||decide (48≤c.toNat∧c.toNat≤57)||decide (c.toNat=47)||decide (c.toNat=46)||decide (c.toNat=95)||decide (c.toNat=45)
def mp(k:au'):Bool:=decide (1≤k.length)&&decide (k.length≤24)&&(List.range k.length).all λi=>qL (k.getD i 0)
def apE{n:Nat}{s:au'}(h:24<n):HH n s=some (decide (s.length≤24)&&(List.range s.length).all λi=>qL (s.getD i 0)):=by
 unfold HH;by_cases ab:s.length≤24
 ·simp only [gb,show¬ 24<s.length by omega,auU,auW,ab,auT,Bool.true_and]
  rw [Uj (L:=y' n s) (len:=s.length) (chk:=λi=>qL (s.getD i 0)) (no:=false) (yes:=true) (by omega)]
  ·cases (List.range s.length).all λi=>qL (s.getD i 0)<;>rfl
  ·intro m i hi;simp only [y',HG,OA,au2,hi,auT,auV,cC hi,a6,ak,au1,c8 (show i≤4611686018427387904 by omega),rQ,ng,fI,eG,fk]
   have:(((((decide (97≤(s.getD i 0).toNat)&&decide ((s.getD i 0).toNat≤122)||(decide (48≤(s.getD i 0).toNat)&&decide ((s.getD i 0).toNat≤57)))||decide ((s.getD i 0).toNat=47))||decide ((s.getD i 0).toNat=46))||decide ((s.getD i 0).toNat=95))||decide ((s.getD i 0).toNat=45))=qL (s.getD i 0):=by
    simp [qL,Bool.decide_and]
   rw [this];cases qL (s.getD i 0)<;>rfl
  ·intro m;simp only [y',HG,OB,au6,auU,auW]
 ·simp only [gb,show 24<s.length by omega,auT,auV,ab,auU,Bool.false_and]
def LK{n:Nat}{k:au'}(h:24<n):wJ n k=some (mp k):=by
 unfold wJ mp;rw [apE h];cases k with
 |nil=>rfl
 |cons c l=>simp [ak]
def apF(c:Nat):(((((decide (c<97)||decide (122<c))&&(decide (c<48)||decide (57<c))) && !decide (c=47)) && !decide (c=46)) && !decide (c=95) && !decide (c=45)) = !(decide (97≤c∧c≤122)||decide (48≤c∧c≤57)||decide (c=47)||decide (c=46)||decide (c=95)||decide (c=45)):=by
 rw [Bool.eq_iff_iff];simp only [Bool.and_eq_true,Bool.or_eq_true,decide_eq_true_eq,Bool.not_eq_true',Bool.or_eq_false_iff,decide_eq_false_iff_not];omega
def apG{n:Nat}{k:au'}(h:k.length<n)(hk:k.length≤9223372036854775807):xj n k=some (mp k):=by
 unfold xj;rw [Uj (L:=Ai n k) (len:=k.length) (chk:=λi=>qL (k.getD i 0)) (no:=false) (yes:=decide (1≤k.length)&&decide (k.length≤24)) h]
 ·unfold mp;cases (List.range k.length).all λi=>qL (k.getD i 0)<;>simp
 ·intro m i hi;simp only [Ai,JK,au2,hi,auT,auV,cC hi,a6,au1,ea (show i≤9223372036854775806 by omega),rP,gb,fI,eG,fk]
  have:=apF (k.getD i 0).toNat
  rw [show(decide (97≤(k.getD i 0).toNat∧(k.getD i 0).toNat≤122)||decide (48≤(k.getD i 0).toNat∧(k.getD i 0).toNat≤57)||decide ((k.getD i 0).toNat=47)||decide ((k.getD i 0).toNat=46)||decide ((k.getD i 0).toNat=95)||decide ((k.getD i 0).toNat=45))=qL (k.getD i 0)from rfl]at this
  rw [this];cases qL (k.getD i 0)<;>rfl
 ·intro m;simp only [Ai,JK,QE,au6,auU,auW,rQ,ng,fk]
open Go Go.Ab Go.Proofs
def adM(n:Nat)(s:au'):∀m,CK n s m=zm n s m
 | 0=>rfl
 |m+1=>by
  show OE n s (CK n s m)=_
  rw [adM n s m];rfl
def adN{n:Nat}{s:au'}(h:s.length<n)(hs:s.length≤9223372036854775807):CL n s=some (jg s):=by
 unfold CL;rw [adM];exact ab_ h hs
def adO(n:Nat)(s:au'):∀m,D8 n s m=At n s m
 | 0=>rfl
 |m+1=>by
  show QD n s (D8 n s m)=_
  rw [adO n s m];rfl
def apH{n:Nat}{s:au'}(h:s.length<n)(hs:s.length≤9223372036854775807):JJ n s=some (jg s):=by
 unfold JJ jg;by_cases ab:s.length≤64
 ·simp only [gb,show¬ 64<s.length by omega,auU,auW,ab,auT,Bool.and_true]
  rw [adO];exact adI s h hs
 ·simp only [gb,show 64<s.length by omega,auT,auV,ab,auU,Bool.and_false]
def kI(v:bz):Bool:=if v.Kind=0 then decide (v.N=0)&&decide (v.S=[])else if v.Kind=1 then decide (v.S=[])else decide (v.Kind=2)&&decide (v.N=0)&&jg v.S
def LL{n:Nat}{v:bz}(h:v.S.length<n)(hs:v.S.length≤9223372036854775807):sL n v=some (kI v):=by
 unfold sL kI;by_cases h0:v.Kind=0
 ·simp [h0]
 ·by_cases Z:v.Kind=1
  ·simp [Z]
  ·by_cases aa:v.Kind=2
   ·by_cases am:v.N=0
    ·simp [aa,am,adN h hs]
    ·simp [aa,am]
   ·simp [h0,Z,aa]
def apI{n:Nat}{v:bz}(h:v.S.length<n)(hs:v.S.length≤9223372036854775807):xi n v=some (kI v):=by
 unfold xi kI;by_cases h0:v.Kind=0
 ·by_cases am:v.N=0<;>simp [h0,am]
 ·by_cases Z:v.Kind=1
  ·simp [Z]
  ·by_cases aa:v.Kind=2
   ·by_cases am:v.N=0
    ·simp [aa,am,apH h hs]
    ·simp [aa,am]
   ·simp [h0,Z,aa]
def b7(v:bz):au':=if v.Kind=1 then eM 1++nm v.N else if v.Kind=2 then eM 2++eH v.S else eM 0
def Uk{n:Nat}{v:bz}(hn:10≤n)(aZ:fy v.N)(hs:v.S.length≤4611686018427387904):wK n v=some (b7 v):=by
 have Z:=LI aZ;have aa:=Fz hs;have hf:=nl (u:=1) (by omega)
 have jr:=nl (u:=2) (by omega)
 have bK:hL n 0=some (eM 0):=tC (u:=0) hn (by omega)
 have e1:hL n 1=some (eM 1):=tC (u:=1) hn (by omega)
 have e2:hL n 2=some (eM 2):=tC (u:=2) hn (by omega)
 unfold wK b7;by_cases dc:v.Kind=1
 ·simp (disch:=omega) only [dc,decide_true,cond_true,e1,ak,xV hn aZ,gC,a6,if_true]
 ·by_cases aj:v.Kind=2
  ·simp (disch:=omega) only [aj,show¬ (2:Int)=1 by omega,decide_true,decide_false,cond_true,cond_false,e2,ak,rY hn hs,gC,a6,if_true,if_false]
  ·simp only [dc,aj,auU,auW,bK,ak,au9]
def apJ{v:bz}(aZ:fy v.N)(hs:v.S.length≤4611686018427387904):(b7 v).length≤v.S.length+20:=by
 have Z:=LI aZ;have aa:=Fz hs;have l0:=nl (u:=0) (by omega)
 have hf:=nl (u:=1) (by omega)
 have jr:=nl (u:=2) (by omega)
 unfold b7;split
 ·simp;omega
 ·split
  ·simp;omega
  ·omega
open Go Go.Ab Go.Proofs
def adP:∀(l:au') (u:Nat),l.all jF=true→val u l<(u+1)*10 ^ l.length
 |[],u,_=>by simp [K9]
 |c::l,u,h=>by
  simp only [List.all_cons,Bool.and_eq_true,u_]at h;have:=adP l (u*10+(c.toNat-48)) h.2
  rw [K',auZ,Nat.pow_succ];have aa:(u*10+(c.toNat-48)+1)*10 ^ l.length≤((u+1)*10)*10 ^ l.length:=Nat.mul_le_mul_right _ (by omega)
  rw [Nat.mul_assoc,Nat.mul_comm 10]at aa;omega
def adQ:∀(k u:Nat),u<10 ^ (k+1)→(Lib.decDigits u).length≤k+1
 | 0,u,h=>by
  rw [ada,if_pos (by simpa using h)];simp
 |k+1,u,h=>by
  rw [ada];by_cases hu:u<10
  ·rw [if_pos hu];simp
  ·rw [if_neg hu];have:=adQ k (u / 10) (by rw [Nat.pow_succ]at h;omega)
   simp only [au3,auZ,au0];omega
def Ul:∀(l acc:au') (p:au'×Nat),fP l acc = .inr p→acc.all okB=true→acc.length≤64→p.1.all okB=true∧p.1.length≤64∧(gp p.1).length+1≤(gp acc).length+p.2
 |[],acc,p,h,_,_=>by simp only [fP,reduceCtorEq]at h
 |[c],acc,p,h,ha,ab=>by
  simp only [fP]at h;split at h
  ·obtain rfl:=Sum.inr.inj h;exact⟨ha,ab,Nat.le_refl _⟩
  ·(repeat' split at h)<;>cases h
 |c::d::l,acc,p,h,ha,ab=>by
  simp only [fP]at h;split at h
  ·obtain rfl:=Sum.inr.inj h;exact⟨ha,ab,Nat.le_refl _⟩
  ·rename_i gA;split at h
   ·rename_i mI;split at h
    ·cases h
    ·rename_i hd;split at h
     ·cases h
     ·rename_i oZ;cases ao:fP l (acc++[d]) with
      |inl e=>rw [ao]at h;cases h
      |inr q=>
       rw [ao]at h;obtain rfl:=Sum.inr.inj h;have jM:d.toNat=34∨d.toNat=92:=by omega
       have apK:okB d=true:=by
        unfold okB;rcases jM with e|e<;>rw [e]<;>rfl
       obtain⟨Z,aa,am⟩:=Ul l (acc++[d]) q ao (by simp [ha,apK]) (by simp;omega)
       refine⟨Z,aa,?_⟩
       rw [LC,au3]at am;have:(gp [d]).length=2:=by simp only [gp];rw [if_pos jM];rfl
       simp only;omega
   ·rename_i mI;split at h
    ·cases h
    ·rename_i ee;split at h
     ·cases h
     ·rename_i oZ;cases ao:fP (d::l) (acc++[c]) with
      |inl e=>rw [ao]at h;cases h
      |inr q=>
       rw [ao]at h;obtain rfl:=Sum.inr.inj h;obtain⟨Z,aa,am⟩:=Ul (d::l) (acc++[c]) q ao (by simp [ha];simpa using ee) (by simp;omega)
       refine⟨Z,aa,?_⟩
       rw [LC,au3]at am;have:(gp [c]).length=1:=by simp only [gp];rw [if_neg (by omega)];rfl
       simp only;omega
termination_by l=>l.length
def apL(s:au')(hs:s≠[])(h:(gc s).2.2=0):mo (gc s).1∧(spell (gc s).1).length≤(gc s).2.1:=by
 have hm:=Tl s 0 hs h;cases s with
 |nil=>exact absurd rfl hs
 |cons c t=>
  unfold gc at h hm ⊢;simp only at h hm ⊢
  split at h
  ·rename_i hw;rw [if_pos hw]at hm ⊢
   have xE:1≤gI (c::t)∧gI (c::t)≤(c::t).length:=by
    unfold gI;rw [List.takeWhile_cons_of_pos hw];have:=(List.takeWhile_sublist (p:=im) (l:=t)).length_le
    simp only [auZ];omega
   have hlen:((c::t).take (gI (c::t))).length=gI (c::t):=by rw [List.length_take];omega
   simp only at h ⊢
   generalize (c::t).take (gI (c::t))=w at h hlen
   cases w with
   |nil=>simp at hlen;omega
   |cons d w=>
    unfold pP at h ⊢;simp only at h ⊢
    split at h
    ·rename_i bw;rw [if_pos bw];split at h
     ·rename_i hk;rw [if_pos hk];exact⟨⟨rfl,Or.inr (Or.inl ⟨rfl,of_decide_eq_true hk,rfl⟩)⟩,by show(d::w).length≤_;omega⟩
     ·rename_i hk;rw [if_neg hk];split at h
      ·rename_i hn;rw [if_pos hn];exact⟨⟨rfl,Or.inl ⟨rfl,hn,rfl⟩⟩,by show(d::w).length≤_;omega⟩
      ·simp at h
    ·rename_i bw;rw [if_neg bw];split at h
     ·rename_i hn;rw [if_pos hn];unfold pO at hn ⊢;split at hn
      ·rename_i hd;rw [if_pos hd];split at hn
       ·rename_i au;rw [if_pos au];refine⟨⟨rfl,Or.inr (Or.inr (Or.inl ⟨rfl,rfl,by simp,by simp only;omega⟩))⟩,?_⟩
        show(Lib.decDigits (Int.toNat ((val 0 (d::w):Nat):Int))).length≤_
        (simp only [au1])
        have apM:=adP (d::w) 0 hd.1;have:=adQ w.length (val 0 (d::w)) (by simpa using apM)
        simp only [auZ]at hlen;omega
       ·simp at hn
      ·simp at hn
     ·rename_i hn;simp only at h
      exact absurd h hn
  ·rename_i hw;rw [if_neg hw]at hm ⊢;split at h
   ·rename_i gA;rw [if_pos gA]at hm ⊢;cases ao:fP t [] with
    |inl e=>
     rw [ao]at h;exact absurd h (AU _ _ _ ao)
    |inr p=>
     obtain⟨Z,aa,am⟩:=Ul t [] p ao rfl (by simp)
     refine⟨⟨rfl,Or.inr (Or.inr (Or.inr (Or.inl ⟨rfl,by
      show jg p.1=true
      unfold jg;rw [Z,decide_eq_true aa];rfl,rfl⟩)))⟩,?_⟩
     show(quo p.1).length≤p.2+1
     unfold quo;simp only [gp,au0]at am;simp only [auZ,au3,au0];omega
   ·rename_i gA;rw [if_neg gA]at hm ⊢;split at h
    ·simp at h
    ·rename_i po;rw [if_neg po]at hm ⊢;exact⟨⟨rfl,Or.inr (Or.inr (Or.inr (Or.inr ⟨rfl,hm rfl,rfl⟩)))⟩,Nat.le_refl _⟩
open Go Go.Ab Go.Proofs
def c6:List Token→Nat
 |[]=>0
 |t::l=>(spell t).length+c6 l
def lZ:∀l m:List Token,c6 (l++m)=c6 l+c6 m
 |[],m=>by simp [c6]
 |t::l,m=>by simp only [List.cons_append,c6,lZ l m];omega
def tD{α:Type}[Inhabited α]{l:List α}{i:Nat}(h:i<l.length):l.getD i default∈l:=by
 rw [List.getD_eq_getElem?_getD,List.getElem?_eq_getElem h];exact List.getElem_mem h
def bu(l:List Token)(i:Nat):Nat:=c6 (l.take i)
def bS{α β:Type}(Q:α→β→Prop)(p:Option (aB α β)):Prop:=∀a z,p=some (.ret a z)→Q a z
def bS.ret{α β:Type}{Q:α→β→Prop}{a:α}{z:β}(h:Q a z):bS Q (some (.ret a z)):=λdv FB e=>by cases e;exact h
def bS.aJ{α β:Type}{Q:α→β→Prop}{x:V}{z:β}:bS Q (some (.aJ x z)):=λdv FB e=>by cases e
def bS.none{α β:Type}{Q:α→β→Prop}:bS Q none:=λdv FB e=>by cases e
def bS.bind{α β dO hK:Type}{Q:α→β→Prop}{R:dO→hK→Prop}{p:Option (aB α β)}{f:α→β→Option (aB dO hK)}{h:V→β→Option (aB dO hK)}(hp:bS Q p)(bP:∀a z,Q a z→bS R (f a z))(bn:∀x z,bS R (h x z)):
 bS R (Option.bind p λr=>aB.on r f h):=by
 match p,hp with
 |.none,_=>exact .none
 |some (.ret a z),hp=>exact bP a z (hp a z rfl)
 |some (.aJ x z),_=>exact bn x z
def bS.bif{dO hK:Type}{R:dO→hK→Prop}{c:Bool}{p q:Option (aB dO hK)}(Z:c=true→bS R p)(aa:c=false→bS R q):bS R (bif c then p else q):=by cases c;exact aa rfl;exact Z rfl
def bS.av{dO hK:Type}{R:dO→hK→Prop}{c:Bool}{p:Option (aB dO hK)}(Z:bS R p):bS R (Go.Ab.av c p):=by cases c;exact .none;exact Z
section
variable {l:List Token}
theorem tE(i:Nat)(h:i<l.length):bu l (i+1)=bu l i+(spell (l.getD i default)).length:=by
 unfold bu;rw [vg l i h,lZ];simp [c6]
theorem h1{i:Nat}{w:au'}(h:bD l i w=true):i<l.length∧bu l (i+1)=bu l i+w.length:=by
 have hi:=gS h;refine⟨hi,?_⟩
 unfold bD at h;simp only [Bool.and_eq_true,Bool.or_eq_true,decide_eq_true_eq]at h;rw [tE i hi];unfold spell;rw [if_neg (by omega),if_neg (by omega),h.2.2]
theorem adR(n:Nat)(c:Int)(i:Nat)(ab:l.length≤1000000000):bS (λ_ _=>False) (Jr n c ⟨l,(i:Int)⟩):=by
 rw [Tm n l i c (by omega)];exact .aJ
theorem n_(n:Nat)(w:au')(i:Nat)(ab:l.length≤1000000000)(hi:i≤l.length):bS (λ_ z=>z=((i+1:Nat):Int)∧bD l i w=true) (iT n w ⟨l,(i:Int)⟩):=by
 rw [n3 n l i w (by omega) (by omega)]
 cases h:bD l i w
 ·exact .aJ
 ·exact .ret ⟨rfl,rfl⟩
theorem Um(n:Nat)(d:Int)(b:a1):bS (λ_ _=>True) (sY n d b):=λ_ _ _=>trivial
theorem Bd(n:Nat)(e8:Int)(i:Nat)(ab:l.length≤1000000000)(hi:i≤l.length):bS (λt z=>z=((i+1:Nat):Int)∧i<l.length∧t=l.getD i default∧t.Kind=e8) (nL n e8 ⟨l,(i:Int)⟩):=by
 rw [AY n l i e8 ab hi];split
 ·rename_i h;exact .ret ⟨rfl,h.1,rfl,h.2⟩
 ·exact .aJ
theorem apN{i:Nat}(h:(hD l i).1≠0):bD l i (spell (mM (hD l i).2))=true∧((dS (hD l i).2:Nat):Int)=(hD l i).1∧(4≤(hD l i).2∧(hD l i).2≤8∨10≤(hD l i).2∧(hD l i).2≤17∨(hD l i).2=19):=by
 have lK:∀r,r∈gd→spell (mM r.2.2)=r.1∧((dS r.2.2:Nat):Int)=r.2.1∧(4≤r.2.2∧r.2.2≤8∨10≤r.2.2∧r.2.2≤17∨r.2.2=19):=by decide
 unfold hD at h ⊢;cases ao:gd.find? (λr=>bD l i r.1) with
 |none=>rw [ao]at h;exact absurd rfl h
 |some r=>
  have Z:=lK r (List.mem_of_find?_eq_some ao);have aa:=List.find?_some ao;simp only [xF];exact⟨by rw [Z.1];exact aa,Z.2⟩
theorem apO{i:Nat}(h:lW l i≠0):bD l i (spell (hO (lW l i)))=true∧20≤lW l i∧lW l i≤27:=by
 have lK:∀r,r∈iu→spell (hO r.2)=r.1∧20≤r.2∧r.2≤27:=by decide
 unfold lW at h ⊢;cases ao:iu.find? (λr=>bD l i r.1) with
 |none=>rw [ao]at h;exact absurd rfl h
 |some r=>
  have Z:=lK r (List.mem_of_find?_eq_some ao);have aa:=List.find?_some ao;simp only [call2];exact⟨by rw [Z.1];exact aa,Z.2⟩
theorem xW(e:Expr)(k:Nat):c6 (jH e k)=c6 (hP e)+if dS e.Op<k then 2 else 0:=by
 unfold jH iv;split
 ·have Z:(spell (cQ [40])).length=1:=rfl;have aa:(spell (cQ [41])).length=1:=rfl;have am:c6 (hP e)=c6 (k8 (db e)):=rfl;simp only [k8,Fn,c6,lZ,Z,aa,am];omega
 ·rfl
theorem Un(e:Expr){j k:Nat}(h:j≤k):c6 (jH e j)≤c6 (jH e k):=by
 rw [xW,xW];split<;>split<;>omega
def o7(l:List Token)(i bR:Nat)(e:Expr)(z:Int):Prop:=∃k:Nat,z=(k:Int)∧i≤k∧k≤l.length∧n7 e∧bu l i+c6 (jH e bR)≤bu l k
theorem o7.mono{i j bR adS:Nat}{e:Expr}{z:Int}(h:o7 l j bR e z)(hi:i≤j)(hp:bu l i≤bu l j)(hz:adS≤bR):o7 l i adS e z:=by
 obtain⟨k,Z,aa,am,aK,bd⟩:=h;have:=Un e hz
 exact⟨k,Z,by omega,am,aK,by omega⟩
end
end Go.Ab.Y

/- The plain law: what the functions compute answers as the statement says. -/
import Derived.Lib.ItoaNum
import Derived.Lib.ItoaLen
import Derived.Test.YtcjbfnojhpfchaaGreatDoorPlainA
set_option linter.all false
namespace Go.Ab.Y
open Go Go.Ab Go.Proofs
def ahN(n:Nat)(s:Stmt)(u:kJ):FV n s u=some (!zn s u&&qQ s):=by
 have hm:(bif decide (s.Op=6)then some (bif decide (1≤s.Max)then decide (s.Max≤16)else false)else bif decide (s.Op=8)then some (bif decide (0≤s.Max)then decide (s.Max≤999)else false)else some true)=some (qQ s):=by
  unfold qQ;by_cases bP:s.Op=6
  ·simp only [bP,am8,am',anm,eT]
  ·by_cases dI:s.Op=8
   ·simp only [dI,show¬ (8:Int)=6 by omega,am8,am9,am',am_,anm,ann,eT]
   ·simp only [bP,dI,am9,am_,ann]
 unfold FV zn;rw [hm];simp only [X4,fI,eT,eo,f'];generalize decide (s.Name=[])=x
 generalize mG s.A=y
 generalize mG s.B=z
 generalize decide (s.Max=0)=w
 generalize decide (0<s.Body.length)=p
 generalize decide (0<s.bx.length)=q
 generalize qQ s=r
 obtain⟨oY,a,b,jF,hI,wx⟩:=u;cases oY<;>cases x<;>cases a<;>cases y<;>cases b<;>cases z<;>simp only [ana,anb,Bool.and_true,Bool.and_false,Bool.true_and,Bool.false_and,anl,Bool.or_false,Bool.true_or,Bool.false_or,am',am_,ai]<;>(cases ((!jF && !w)||(!hI&&p)||(!wx&&q))<;>simp_all)
def ahO{n:Nat}(s:Stmt)(d:Int)(ev:cm s.A≤n)(cJ:cm s.B≤n)(Qb:cm s.A≤140737488351232)(l8:cm s.B≤140737488351232)(aU:s.Name.length≤140737488351232):F1 n s d=some (jV s d):=by
 unfold F1 F0 FZ jV;simp only [ahK,ai,fI,iT,ahN,y_ n s.Name aU,X2 s.A ev Qb,X2 s.B cJ l8];generalize (jB s.Op)=U
 obtain⟨u,ahP⟩:=U;obtain⟨oY,a,b,jF,hI,wx⟩:=u;simp only
 generalize zn s ⟨oY,a,b,jF,hI,wx⟩=m
 generalize qQ s=r
 cases ahP
 ·simp
 ·cases m
  ·cases r
   ·simp
   ·generalize gC s.Name=x
    simp only [ana,anb,am',am_,ai,Bool.true_and,Bool.and_true,Bool.true_eq_false,Bool.false_eq_true,or_self,ann];cases oY
    ·simp only [am_,ai,Bool.false_eq_true,false_and,ann];cases a
     ·simp only [am_,Bool.false_eq_true,false_and,ann];cases b
      ·by_cases f6:12<d<;>simp [f6]
      ·by_cases hb:gw s.B 1=0<;>by_cases f6:12<d<;>simp [hb,f6]
     ·by_cases ha:gw s.A 1=0
      ·cases b
       ·by_cases f6:12<d<;>simp [ha,f6]
       ·by_cases hb:gw s.B 1=0<;>by_cases f6:12<d<;>simp [ha,hb,f6]
      ·simp [ha]
    ·cases x
     ·simp
     ·simp only [am',ai,ana,am_,Bool.true_eq_false,and_false,ann];cases a
      ·simp only [am_,Bool.false_eq_true,false_and,ann];cases b
       ·by_cases f6:12<d<;>simp [f6]
       ·by_cases hb:gw s.B 1=0<;>by_cases f6:12<d<;>simp [hb,f6]
      ·by_cases ha:gw s.A 1=0
       ·cases b
        ·by_cases f6:12<d<;>simp [ha,f6]
        ·by_cases hb:gw s.B 1=0<;>by_cases f6:12<d<;>simp [ha,hb,f6]
       ·simp [ha]
  ·simp
def ahQ(s:Stmt):((decide (s.Op=6)&&(decide (s.Max<1)||decide (16<s.Max)))||(decide (s.Op=8)&&(decide (s.Max<0)||decide (999<s.Max)))) = !qQ s:=by
 unfold qQ;by_cases bP:s.Op=6
 ·simp only [bP,anm,am8,Bool.true_and,show¬ (6:Int)=8 by omega,am9,Bool.false_and,Bool.or_false]
  by_cases Z:s.Max<1
  ·simp only [Z,show¬ 1≤s.Max by omega,am8,am9,Bool.true_or,Bool.false_and,anb]
  ·by_cases aa:16<s.Max
   ·simp only [Z,aa,show¬ s.Max≤16 by omega,am8,am9,anl,Bool.and_false,anb]
   ·simp only [Z,aa,show s.Max≤16 by omega,show 1≤s.Max by omega,am8,am9,Bool.or_self,Bool.and_self,ana]
 ·by_cases dI:s.Op=8
  ·simp only [dI,show¬ (8:Int)=6 by omega,anm,ann,am8,am9,Bool.true_and,Bool.false_and,Bool.false_or]
   by_cases Z:s.Max<0
   ·simp only [Z,show¬ 0≤s.Max by omega,am8,am9,Bool.true_or,Bool.false_and,anb]
   ·by_cases aa:999<s.Max
    ·simp only [Z,aa,show¬ s.Max≤999 by omega,am8,am9,anl,Bool.and_false,anb]
    ·simp only [Z,aa,show s.Max≤999 by omega,show 0≤s.Max by omega,am8,am9,Bool.or_self,Bool.and_self,ana]
  ·simp only [bP,dI,ann,am9,Bool.false_and,Bool.or_self,ana]
def ahR(a y b z pre P Q:Bool)(G:Bool→ant):
 (Option.bind (bif (!pre && !a)then some y else some default) λr2=>Option.bind (bif (!(pre||(!a && !r2)) && !b)then some z else some default) λr3=>G ((((pre||(!a && !r2))||(!b && !r3))||P)||Q))=G ((((pre||(!a && !y))||(!b && !z))||P)||Q):=by
 cases pre<;>cases a<;>cases y<;>cases b<;>cases z<;>rfl
def ahS{n:Nat}(s:Stmt)(d:Int)(hn:25<n)(ev:cm s.A≤n)(cJ:cm s.B≤n)(Qb:cm s.A≤140737488351232)(l8:cm s.B≤140737488351232)(aU:s.Name.length<n)(ahT:s.Name.length≤140737488351232):Oz n s d=some (jV s d):=by
 unfold Oz Oy Ox jV;by_cases fC:1≤s.Op∧s.Op≤8
 ·have Qc:(
   jB s.Op).2=true:=by
   have:s.Op=1∨s.Op=2∨s.Op=3∨s.Op=4∨s.Op=5∨s.Op=6∨s.Op=7∨s.Op=8:=by omega
   rcases this with e|e|e|e|e|e|e|e<;>rw [e]<;>rfl
  simp only [ahL n s.Op fC,ai,fI,iT,X5,Dh s.Name aU hn (by omega),X3 s.A ev Qb,X3 s.B cJ l8,Qc,show¬ s.Op<1 by omega,show¬ 8<s.Op by omega,am9,am_,eT,eo,Bool.or_self,Bool.false_or,ahQ,f']
  generalize qQ s=r
  unfold zn;generalize (jB s.Op).1=u
  generalize decide (s.Name=[])=rn
  generalize mG s.A=y
  generalize mG s.B=z
  generalize decide (s.Max=0)=w
  generalize decide (0<s.Body.length)=p
  generalize decide (0<s.bx.length)=q
  generalize gC s.Name=x
  obtain⟨oY,a,b,jF,hI,wx⟩:=u;simp only
  have hm:((!oY && !rn)||(!a && !y)||(!b && !z)||(!jF && !w)||(!hI&&p)||(!wx&&q))=((((((!oY && !rn)||(!jF && !w))||(!a && !y))||(!b && !z))||(!hI&&p))||(!wx&&q)):=by
   generalize (!oY && !rn)=c1
   generalize (!jF && !w)=c2
   generalize (!a && !y)=c3
   generalize (!b && !z)=c4
   cases c1<;>cases c2<;>cases c3<;>cases c4<;>rfl
  rw [hm];clear hm;generalize ((!oY && !rn)||(!jF && !w))=pre
  generalize (!hI&&p)=c1
  generalize (!wx&&q)=c2
  refine(ahR a y b z pre c1 c2 (λc=>bif c then some 1 else bif !r then some 1 else Option.bind (bif oY then some x else some default) λbe=>bif (oY && !be)then some 7 else
   bif a then(bif !decide (gw s.A 1=0)then some (gw s.A 1)else bif b then(bif !decide (gw s.B 1=0)then some (gw s.B 1)else bif decide (12<d)then some 2 else some 0)else bif decide (12<d)then some 2 else some 0)
   else bif b then(bif !decide (gw s.B 1=0)then some (gw s.B 1)else bif decide (12<d)then some 2 else some 0)else bif decide (12<d)then some 2 else some 0)).trans ?_
  generalize ((((pre||(!a && !y))||(!b && !z))||c1)||c2)=m
  cases m
  ·cases r
   ·simp
   ·simp only [ana,anb,am',am_,ai,Bool.true_and,Bool.and_true,Bool.true_eq_false,Bool.false_eq_true,or_self,ann];cases oY
    ·simp only [am_,ai,Bool.false_eq_true,false_and,ann,Bool.false_and];cases a
     ·simp only [am_,Bool.false_eq_true,false_and,ann];cases b
      ·by_cases f6:12<d<;>simp [f6]
      ·by_cases hb:gw s.B 1=0<;>by_cases f6:12<d<;>simp [hb,f6]
     ·by_cases ha:gw s.A 1=0
      ·cases b
       ·by_cases f6:12<d<;>simp [ha,f6]
       ·by_cases hb:gw s.B 1=0<;>by_cases f6:12<d<;>simp [ha,hb,f6]
      ·simp [ha]
    ·cases x
     ·simp
     ·simp only [am',ai,ana,am_,Bool.true_eq_false,and_false,ann,Bool.and_false];cases a
      ·simp only [am_,Bool.false_eq_true,false_and,ann];cases b
       ·by_cases f6:12<d<;>simp [f6]
       ·by_cases hb:gw s.B 1=0<;>by_cases f6:12<d<;>simp [hb,f6]
      ·by_cases ha:gw s.A 1=0
       ·cases b
        ·by_cases f6:12<d<;>simp [ha,f6]
        ·by_cases hb:gw s.B 1=0<;>by_cases f6:12<d<;>simp [ha,hb,f6]
       ·simp [ha]
  ·simp
 ·have Qc:(jB s.Op).2=false:=by
   unfold jB;rw [if_neg (by omega),if_neg (by omega),if_neg (by omega),if_neg (by omega),if_neg (by omega),if_neg (by omega)]
  have hb:(decide (s.Op<1)||decide (8<s.Op))=true:=by
   by_cases Z:s.Op<1
   ·rw [decide_eq_true Z];rfl
   ·rw [decide_eq_true (show 8<s.Op by omega)];simp
  simp only [ahM n s.Op fC,ai,Qc,hb,eo,eT,Bool.true_or,ana,Bool.false_and,am_,am',true_or,anm]
def tZ(before:List Param):List Param→Int
 |[]=>0
 |x::l=>if gC x.Name=false then 7 else if x.fm<1∨3<x.fm then 10 else if(before.any λy=>decide (y.Name=x.Name))=true then 8 else tZ (before++[x]) l
def ahU(n:Nat)(s:List Param)(b:Param)(hs:s.length≤4611686018427387904):∀m i,s.length<i+m→i≤s.length→
 ∃r,xU n s b m (i:Int)=some r∧(decide (0≤r)=(s.drop i).any λy=>decide (y.Name=b.Name)):=by
 intro m;induction m with
 |zero=>intro i h aa;omega
 |succ m aF=>
  intro i hm hi;simp only [xU,Mh,Mg,Mf];by_cases h:i<s.length
  ·obtain⟨r,Z,aa⟩:=aF (i+1) (by omega) (by omega)
   (rw [eS s i default h,bg (by omega)];simp only [anf];rw [Z])
   generalize s.getD i default=c
   simp only [h,b3 h,ang,am8,am',aM,ai,List.any_cons];by_cases hc:c.Name=b.Name
   ·simp only [hc,am8,am',Bool.true_or];exact⟨_,rfl,decide_eq_true (by omega)⟩
   ·simp only [hc,am9,am_,Bool.false_or];exact⟨r,rfl,aa⟩
  ·rw [gi s i h];simp only [h,ang,am9,am_];exact⟨-1,rfl,rfl⟩
def ahV{n:Nat}(s:List Param)(b:Param)(hs:s.length≤4611686018427387904)(hn:s.length<n):FR n s b=some (s.any λy=>decide (y.Name=b.Name)):=by
 unfold FR Mi;obtain⟨r,Z,aa⟩:=ahU n s b hs n 0 (by omega) (by omega)
 rw [show xU n s b n 0=_ from Z,ai,aa,List.drop_zero]
def t8{α:Type}[Inhabited α](l:List α)(i:Nat)(h:i<l.length):l.take (i+1)=l.take i++[l.getD i default]:=by
 rw [List.take_add,eS l i default h,List.take_succ_cons,List.take_zero]
def Qd:∀(l:List Param) (i:Nat),i<l.length→(l.getD i default).Name.length<fw l
 |[],i,h=>by simp at h
 |x::l,0,h=>by simp only [fw,List.getD_cons_zero];omega
 |x::l,i+1,h=>by have:=Qd l i (by simpa using h);simp only [fw,List.getD_cons_succ];omega
def ahW(n:Nat)(l:List Param)(bJ:fw l<n)(qa:fw l≤140737488351232):∀m i,l.length<i+m→i≤l.length→xV n l m (i:Int)=some (tZ (l.take i) (l.drop i)):=by
 have hlen:=ww l;intro m;induction m with
 |zero=>intro i h aa;omega
 |succ m aF=>
  intro i hm hi;simp only [xV,Mk,Mj];by_cases h:i<l.length
  ·have hg:=Qd l i h
   (rw [eS l i default h,bg (by omega)];simp only [anf];rw [aF (i+1) (by omega) (by omega),t8 l i h])
   generalize l.getD i default=c at hg
   rw [y_ n c.Name (by omega),ahV (l.take i) c (by simp;omega) (by simp;omega)]
   simp only [h,b3 h,ang,am8,am',aM,ai,y8 hi,eo,tZ];cases gC c.Name
   ·simp
   ·by_cases aB:c.fm<1∨3<c.fm
    ·have:(decide (c.fm<1)||decide (3<c.fm))=true:=by rcases aB with aB|aB<;>rw [decide_eq_true aB]<;>simp
     simp [this,aB]
    ·have:(decide (c.fm<1)||decide (3<c.fm))=false:=by rw [decide_eq_false (λe=>aB (Or.inl e)),decide_eq_false (λe=>aB (Or.inr e))];rfl
     rw [this];simp only [ana,am_,Bool.true_eq_false,ann,aB];cases ((l.take i).any λy=>decide (y.Name=c.Name))<;>rfl
  ·rw [gi l i h];simp only [h,ang,am9,am_];rfl
def ahX(n:Nat)(al:Int→ant)(l:List Param)(i:Nat)(h:i<l.length)(hs:l.length≤4611686018427387904):∀m k,i<k+m→k≤i→
 CG n al l (i:Int) m (k:Int)=if(((l.take i).drop k).any λy=>decide (y.Name=(l.getD i default).Name))=true then some 8 else al ((i+1:Nat):Int):=by
 intro m;induction m with
 |zero=>intro k Z aa;omega
 |succ m aF=>
  intro k hm hk;simp only [CG,UX,UW];by_cases E1:k<i
  ·have e:(l.take i).drop k=l.getD k default::(l.take i).drop (k+1):=by
    rw [eS (l.take i) k default (by simp;omega)]
    congr 1
    simp [List.getD,E1]
   (rw [e,bg (by omega),aF (k+1) (by omega) (by omega)];simp only [anf])
   generalize l.getD k default=c
   simp only [E1,b3 h,b3 (show k<l.length by omega),ang,am8,am',aM,List.any_cons]
   by_cases hc:c.Name=(l.getD i default).Name
   ·simp only [hc,am8,am',Bool.true_or,anm]
   ·simp only [hc,am9,am_,Bool.false_or]
  ·obtain rfl:k=i:=by omega
   rw [gi (l.take k) k (by simp;omega),bg (by omega)]
   simp only [ang,Nat.lt_irrefl,am9,am_,List.any_nil,Bool.false_eq_true,ann]
def ahY(n:Nat)(l:List Param)(hn:25<n)(bJ:fw l<n)(qa:fw l≤140737488351232):∀m i,l.length<i+m→i≤l.length→vX n l m (i:Int)=some (tZ (l.take i) (l.drop i)):=by
 have hlen:=ww l;intro m;induction m with
 |zero=>intro i h aa;omega
 |succ m aF=>
  intro i hm hi;simp only [vX,UY,UV];by_cases h:i<l.length
  ·have hg:=Qd l i h;have aD:=ahX n (vX n l m) l i h (by omega) n 0 (by omega) (by omega)
   rw [show CG n (vX n l m) l (i:Int) n 0=_ from aD,List.drop_zero]
   (rw [eS l i default h];simp only [anf];rw [aF (i+1) (by omega) (by omega),t8 l i h])
   generalize l.getD i default=c at hg
   rw [Dh c.Name (by omega) hn (by omega)]
   simp only [h,b3 h,ang,am8,am',aM,ai,anl,eo,tZ];cases gC c.Name
   ·simp
   ·by_cases aB:c.fm<1∨3<c.fm
    ·have:(decide (c.fm<1)||decide (3<c.fm))=true:=by rcases aB with aB|aB<;>rw [decide_eq_true aB]<;>simp
     simp [this,aB]
    ·have:(decide (c.fm<1)||decide (3<c.fm))=false:=by rw [decide_eq_false (λe=>aB (Or.inl e)),decide_eq_false (λe=>aB (Or.inr e))];rfl
     rw [this];simp only [ana,am_,Bool.true_eq_false,ann,aB];cases ((l.take i).any λy=>decide (y.Name=c.Name))<;>rfl
  ·rw [gi l i h];simp only [h,ang,am9,am_];rfl
def pM(l:List Param):Int:=if 6<l.length then 2 else tZ [] l
def ahZ{n:Nat}(l:List Param)(bJ:fw l<n)(qa:fw l≤140737488351232):FSb n l=some (pM l):=by
 have hlen:=ww l;unfold FSb pM;have:=ahW n l bJ qa n 0 (by omega) (by omega)
 rw [show xV n l n 0=_ from this]
 simp only [f'];by_cases h:6<l.length
 ·simp only [h,am8,am',anm]
 ·simp only [h,am9,am_,ann,List.take_zero,List.drop_zero]
def ah0{n:Nat}(l:List Param)(hn:25<n)(bJ:fw l<n)(qa:fw l≤140737488351232):Oq n l=some (pM l):=by
 have hlen:=ww l;unfold Oq pM;have:=ahY n l hn bJ qa n 0 (by omega) (by omega)
 rw [show vX n l n 0=_ from this]
 simp only [f'];by_cases h:6<l.length
 ·simp only [h,am8,am',anm]
 ·simp only [h,am9,am_,ann,List.take_zero,List.drop_zero]
mutual
def sg:Expr→Nat→Nat
 |⟨_,_,_,ao⟩,k=>if k=0 then 0 else pN ao (k-1)
def pN:List Expr→Nat→Nat
 |[],k=>k
 |x::l,k=>pN l (sg x k)
end
def X6(e:Expr)(k:Nat):sg e k=if k=0 then 0 else pN e.ao (k-1):=by cases e;rfl
mutual
def Dw:∀(e:Expr) (k:Nat),sg e k≤k
 |⟨_,_,_,ao⟩,k=>by
  have:=Qe ao (k-1)
  simp only [sg];split<;>omega
def Qe:∀(l:List Expr) (k:Nat),pN l k≤k
 |[],k=>Nat.le_refl _
 |x::l,k=>by
  have Z:=Dw x k;have aa:=Qe l (sg x k);simp only [pN];omega
end
def jC(e:Expr)(k:Nat):Nat:=if k=0∨mG e=true then k else sg e k
def I6(e:Expr)(k:Nat):jC e k≤k:=by unfold jC;split;exact Nat.le_refl _;exact Dw e k
mutual
def pO:Stmt→Int→Nat×Int→Nat×Int
 |⟨Op,Name,Max,A,B,Body,bx⟩,d,r=>
  hC bx (anq (d+1)) (hC Body (anq (d+1)) (jC B (jC A (r.1-1)),if r.2=0 then jV ⟨Op,Name,Max,A,B,Body,bx⟩ d else r.2))
def hC:List Stmt→Int→Nat×Int→Nat×Int
 |[],d,r=>r
 |s::l,d,r=>if r.1=0 then r else hC l d (pO s d r)
end
def X7(s:Stmt)(d:Int)(r:Nat×Int):pO s d r=hC s.bx (anq (d+1)) (hC s.Body (anq (d+1)) (jC s.B (jC s.A (r.1-1)),if r.2=0 then jV s d else r.2)):=by cases s;rfl
mutual
def ah1:∀(s:Stmt) (d:Int) (r:Nat×Int),(pO s d r).1≤r.1
 |⟨Op,Name,Max,A,B,Body,bx⟩,d,r=>by
  have Z:=I6 A (r.1-1);have aa:=I6 B (jC A (r.1-1));have aj:=t' Body (anq (d+1)) (jC B (jC A (r.1-1)),if r.2=0 then jV ⟨Op,Name,Max,A,B,Body,bx⟩ d else r.2)
  have aD:=t' bx (anq (d+1)) (hC Body (anq (d+1)) (jC B (jC A (r.1-1)),if r.2=0 then jV ⟨Op,Name,Max,A,B,Body,bx⟩ d else r.2))
  simp only [pO]at *;omega
def t':∀(l:List Stmt) (d:Int) (r:Nat×Int),(hC l d r).1≤r.1
 |[],d,r=>Nat.le_refl _
 |s::l,d,r=>by
  have Z:=ah1 s d r;have aa:=t' l d (pO s d r);simp only [hC];split
  ·exact Nat.le_refl _
  ·omega
end
def ah2:∀(n:Nat) (e:Expr) (k:Nat) (b:Int),cm e≤n→cm e≤140737488351232→k≤1000→xZ n e (k:Int) b=some ((sg e k:Nat):Int):=by
 intro n;induction n with
 |zero=>intro e k b h;rw [pK]at h;omega
 |succ n aF=>
  intro e k b h ab hk;have tQ:=pK e;have tR:=Di e.ao;simp only [xZ,Mu,fi];rw [X6];by_cases h0:k=0
  ·rw [if_pos h0];simp only [h0,am8,am']
  ·rw [if_neg h0];simp only [h0,am9,am_]
   have gD:∀m i k,e.ao.length<i+m→i≤e.ao.length→k≤1000→Bq n (xZ n) e b m ((k:Nat):Int) (i:Int)=some ((pN (e.ao.drop i) k:Nat):Int):=by
    intro m;induction m with
    |zero=>intro i k Z aa;omega
    |succ m jk=>
     intro i k Z aa hk;simp only [Bq,Mt];by_cases hi:i<e.ao.length
     ·have hg:=Dj e.ao i hi;have hle:=Dw (e.ao.getD i default) k
      (rw [eS e.ao i default hi,bg (by omega)];simp only [anf];rw [aF _ k b (by omega) (by omega) hk])
      simp only [hi,b3 hi,ang,am8,am',aM,ai,pN];exact jk (i+1) _ (by omega) (by omega) (by omega)
     ·rw [gi e.ao i hi];simp only [hi,ang,am9,am_,pN]
   rw [show anq ((k:Int)-1)=((k-1:Nat):Int)by rw [wr]<;>omega]
   exact gD n 0 (k-1) (by omega) (by omega) (by omega)
def X8{n:Nat}(e:Expr)(k:Nat)(b:Int)(h:cm e≤n)(ab:cm e≤140737488351232)(hk:k≤1000):Br n e (k:Int) b=some ((jC e k:Nat):Int):=by
 unfold Br jC Ms;simp only [X4,fi,ah2 n e k b h ab hk,ai];by_cases h0:k=0
 ·simp [h0]
 ·cases mG e<;>simp [h0]
open Go Go.Ab Go.Proofs
def I7:∀(l:List Stmt) (i:Nat),i<l.length→fst (l.getD i default)<di l
 |[],i,h=>by simp at h
 |x::l,0,h=>by simp only [di,List.getD_cons_zero];omega
 |x::l,i+1,h=>by have:=I7 l i (by simpa using h);simp only [di,List.getD_cons_succ];omega
def X9{α β:Type}(x:α×β):(x.1,x.2)=x:=rfl
def ah3:∀(n:Nat) (l:List Stmt) (d:Int) (k:Nat) (e:Int),di l+2≤n→di l≤140737488351232→k≤1000→
 vp n l d (k:Int) e=some ((((hC l d (k,e)).1:Nat):Int),(hC l d (k,e)).2):=by
 intro n;induction n with
 |zero=>intro l d k e h;omega
 |succ n aF=>
  intro l d k e h ab hk;have tR:=wu l;simp only [vp,Mw]
  have gD:∀m i k e,l.length<i+m→i≤l.length→k≤1000→Bs n (vp n) d l m ((k:Nat):Int) e (i:Int)=some ((((hC (l.drop i) d (k,e)).1:Nat):Int),(hC (l.drop i) d (k,e)).2):=by
   intro m;induction m with
   |zero=>intro i k e Z aa;omega
   |succ m jk=>
    intro i k e Z aa hk;simp only [Bs,Mv,fI,iT];by_cases hi:i<l.length
    ·have hg:=I7 l i hi
     (rw [eS l i default hi];simp only [anf])
     generalize l.getD i default=s at hg
     have mT:=fst_eq s;rw [bg (by omega)]
     simp only [hi,b3 hi,ang,am8,am',aM,fi,hC];by_cases h0:k=0
     ·simp only [h0,am8,am',anm]
     ·simp only [h0,am9,am_,ann]
      have am:F2 n s d e=some (if e=0 then jV s d else e):=by
       unfold F2;simp only [fI,iT,ahO s d (show cm s.A≤n by omega) (show cm s.B≤n by omega) (by omega) (by omega) (by omega),ai]
       by_cases he:e=0
       ·simp only [he,am8,am',anm]
       ·simp only [he,am9,am_,ann]
      rw [am,ai,show anq ((k:Int)-1)=((k-1:Nat):Int)by rw [wr]<;>omega]
      have eJ:=I6 s.A (k-1);have ep:=I6 s.B (jC s.A (k-1));rw [X8 s.A (k-1) _ (by omega) (by omega) (by omega),ai,X8 s.B _ _ (by omega) (by omega) (by omega),ai]
      have Ax:=t' s.Body (anq (d+1)) (jC s.B (jC s.A (k-1)),if e=0 then jV s d else e)
      rw [aF s.Body _ _ _ (by omega) (by omega) (by omega),ai]
      simp only [X9]at Ax ⊢;have amU:=t' s.bx (anq (d+1)) (hC s.Body (anq (d+1)) (jC s.B (jC s.A (k-1)),if e=0 then jV s d else e))
      rw [aF s.bx _ _ _ (by omega) (by omega) (by omega),ai]
      simp only [X9];rw [jk (i+1) _ _ (by omega) (by omega) (by omega),X7]
    ·rw [gi l i hi];simp only [hi,ang,am9,am_,hC]
  exact gD n 0 k e (by omega) (by omega) hk
open Go Go.Ab Go.Proofs
abbrev kP:=c'
def h7:Int→List kP→Int
 |e,[]=>e
 |e,v::l=>h7 (if e=0∧v.pz=true then jV v.Stmt v.A8 else e) l
def X':∀(l m:List kP) (e:Int),h7 e (l++m)=h7 (h7 e l) m
 |[],m,e=>rfl
 |v::l,m,e=>by rw [List.cons_append,h7,h7,X' l m]
def Qf:∀(l:List kP) (e:Int),(∀v,v∈l→v.pz=false)→h7 e l=e
 |[],e,h=>rfl
 |v::l,e,h=>by
  rw [h7,h v (List.mem_cons_self),Qf l _ λw hw=>h w (List.mem_cons_of_mem _ hw)]
  simp
def X_{k:Nat}(h:k≤100000):room k 272=true:=by simp [room];omega
def ah4:∀(n:Nat) (e:Expr) (out:List kP) (root:Bool),cm e≤n→cm e≤140737488351232→out.length≤401→
 ∃ext,tz n out e root=some (out++ext)∧(out++ext).length≤401∧401-(out++ext).length=sg e (401-out.length)∧∀v,v∈ext→v.pz=false:=by
 intro n;induction n with
 |zero=>intro e out root h;rw [pK]at h;omega
 |succ n aF=>
  intro e out root h ab an;have tQ:=pK e;have tR:=Di e.ao;simp only [tz,UP,f'];rw [X6];by_cases h0:400<out.length
  ·simp only [h0,am8,am'];rw [if_pos (by omega)]
   exact⟨[],by simp,by simpa using an,by simp;omega,λv am=>by cases am⟩
  ·simp only [h0,am9,am_,anc,ane,X_ (show out.length+(0+1)≤100000 by omega),aM]
   rw [if_neg (by omega)]
   have gD:∀m i (out:List kP),e.ao.length<i+m→i≤e.ao.length→out.length≤401→
    ∃ext,HP n (tz n) e m out (i:Int)=some (out++ext)∧(out++ext).length≤401∧401-(out++ext).length=pN (e.ao.drop i) (401-out.length)∧∀v,v∈ext→v.pz=false:=by
    intro m;induction m with
    |zero=>intro i out Z aa;omega
    |succ m jk=>
     intro i out Z aa an;simp only [HP,UO,UN];by_cases hi:i<e.ao.length
     ·have hg:=Dj e.ao i hi
      (rw [eS e.ao i default hi];simp only [anf])
      generalize e.ao.getD i default=a at hg
      rw [bg (by omega)]
      simp only [hi,b3 hi,ang,am8,am',aM,nn,pN];by_cases Dx:out.length≤400
      ·simp only [Dx,am8,am'];obtain⟨f5,e1,e2,e3,gk⟩:=aF a out false (by omega) (by omega) an
       obtain⟨gt,f1,f2,f3,f4⟩:=jk (i+1) (out++f5) (by omega) (by omega) e2
       rw [e1,ai,f1];refine⟨f5++gt,by rw [List.append_assoc],by rw [←List.append_assoc];exact f2,by rw [←List.append_assoc,f3,e3],λv am=>?_⟩
       rcases List.mem_append.1 am with am|am
       ·exact gk v am
       ·exact f4 v am
      ·simp only [Dx,am9,am_];have cx:401-out.length=0:=by omega
       have XZ:=Dw a 0;have Ff:=Qe (e.ao.drop (i+1)) (sg a 0);exact⟨[],by simp,by simpa using an,by rw [cx];simp;omega,λv am=>by cases am⟩
     ·rw [gi e.ao i hi];simp only [hi,ang,am9,am_,pN];exact⟨[],by simp,by simpa using an,by simp,λv am=>by cases am⟩
   obtain⟨x,e1,e2,e3,gk⟩:=gD n 0 (out++[⟨false,⟨0,[],0,⟨0,0,[],[]⟩,⟨0,0,[],[]⟩,[],[]⟩,0,e,root⟩]) (by omega) (by omega) (by simp;omega)
   refine⟨⟨false,⟨0,[],0,⟨0,0,[],[]⟩,⟨0,0,[],[]⟩,[],[]⟩,0,e,root⟩::x,?_,?_,?_,?_⟩
   ·exact e1.trans (by simp)
   ·simpa using e2
   ·have:401-(out++[(⟨false,⟨0,[],0,⟨0,0,[],[]⟩,⟨0,0,[],[]⟩,[],[]⟩,0,e,root⟩:kP)]).length=401-out.length-1:=by simp;omega
    rw [this,List.drop_zero]at e3;simpa using e3
   ·intro v am;rcases List.mem_cons.1 am with rfl|am
    ·rfl
    ·exact gk v am
open Go Go.Ab Go.Proofs
def Ya{α:Type}{n:Nat}(e:Expr)(out:List kP)(G:List kP→Option α)(h:cm e≤n)(ab:cm e≤140737488351232)(an:out.length≤401):
 ∃ext,(Option.bind (tw n e) λr=>bif !r then Option.bind (tz n out e true) G else G out)=G (out++ext)∧(out++ext).length≤401∧401-(out++ext).length=jC e (401-out.length)∧∀v,v∈ext→v.pz=false:=by
 rw [X5,ai];unfold jC;cases mu:mG e
 ·obtain⟨x,e1,e2,e3,gk⟩:=ah4 n e out true h ab an;refine⟨x,?_,e2,?_,gk⟩
  ·rw [e1];rfl
  ·rw [e3];by_cases h0:401-out.length=0
   ·rw [if_pos (Or.inl h0),h0];have:=Dw e 0
    omega
   ·rw [if_neg (by simp [h0])]
 ·refine⟨[],by simp,by simpa using an,?_,λv am=>by cases am⟩
  rw [if_pos (Or.inr rfl)];simp
def ah5:∀(n:Nat) (l:List Stmt) (d:Int) (out:List kP) (e:Int),di l+2≤n→di l≤140737488351232→out.length≤401→
 ∃ext,ne n out l d=some (out++ext)∧(out++ext).length≤401∧(401-(out++ext).length,h7 e ext)=hC l d (401-out.length,e)∧∀v,v∈ext→v.pz=true→fst v.Stmt<di l:=by
 intro n;induction n with
 |zero=>intro l d out e h;omega
 |succ n aF=>
  intro l d out e h ab an;have tR:=wu l;simp only [ne,UT]
  have gD:∀m i (out:List kP) (e:Int),l.length<i+m→i≤l.length→out.length≤401→
   ∃ext,vW n (ne n) l d m out (i:Int)=some (out++ext)∧(out++ext).length≤401∧(401-(out++ext).length,h7 e ext)=hC (l.drop i) d (401-out.length,e)∧∀v,v∈ext→v.pz=true→fst v.Stmt<di l:=by
   intro m;induction m with
   |zero=>intro i out e Z aa;omega
   |succ m jk=>
    intro i out e Z aa an;simp only [vW,US,UQ,Oo,On,UR,fI,iT];by_cases hi:i<l.length
    ·have hg:=I7 l i hi
     (rw [eS l i default hi];simp only [anf])
     generalize l.getD i default=s at hg
     have mT:=fst_eq s;rw [bg (by omega)]
     simp only [hi,b3 hi,ang,am8,am',aM,nn,hC];by_cases Dx:out.length≤400
     ·rw [if_neg (by omega)]
      simp only [Dx,am8,am',anc,ane,X_ (show out.length+(0+1)≤100000 by omega),aM]
      obtain⟨f5,aW,a2,a3,a4⟩:=Ya (n:=n) s.A (out++[(⟨true,s,d,⟨0,0,[],[]⟩,false⟩:kP)]) (λv28=>Option.bind (tw n s.B) λhA=>bif !hA then Option.bind (tz n v28 s.B true) λkM=>
       Option.bind (ne n kM s.Body (anq (d+1))) λlF=>Option.bind (ne n lF s.bx (anq (d+1))) λoM=>vW n (ne n) l d m oM ((i+1:Nat):Int)
       else Option.bind (ne n v28 s.Body (anq (d+1))) λlF=>Option.bind (ne n lF s.bx (anq (d+1))) λoM=>vW n (ne n) l d m oM ((i+1:Nat):Int)) (by omega) (by omega) (by simp;omega)
      rw [aW];obtain⟨gt,cG,gz,oa,t_⟩:=Ya (n:=n) s.B (out++[(⟨true,s,d,⟨0,0,[],[]⟩,false⟩:kP)]++f5) (λv=>Option.bind (ne n v s.Body (anq (d+1))) λlF=>Option.bind (ne n lF s.bx (anq (d+1))) λoM=>vW n (ne n) l d m oM ((i+1:Nat):Int)) (by omega) (by omega) a2
      rw [cG];obtain⟨mH,c1,c2,c3,c4⟩:=aF s.Body (anq (d+1)) _ (if e=0 then jV s d else e) (by omega) (by omega) gz
      rw [c1,ai];obtain⟨fP,d1,d2,d3,d4⟩:=aF s.bx (anq (d+1)) _ (h7 (if e=0 then jV s d else e) mH) (by omega) (by omega) c2
      rw [d1,ai];obtain⟨m9,f1,f2,f3,f4⟩:=jk (i+1) _ (h7 (h7 (if e=0 then jV s d else e) mH) fP) (by omega) (by omega) d2
      rw [f1];have TR:401-(out++[(⟨true,s,d,⟨0,0,[],[]⟩,false⟩:kP)]).length=401-out.length-1:=by simp;omega
      refine⟨(⟨true,s,d,⟨0,0,[],[]⟩,false⟩:kP)::(f5++(gt++(mH++(fP++m9)))),?_,?_,?_,?_⟩
      ·simp
      ·simpa using f2
      ·have e1:h7 e ((⟨true,s,d,⟨0,0,[],[]⟩,false⟩:kP)::(f5++(gt++(mH++(fP++m9)))))=h7 (h7 (h7 (if e=0 then jV s d else e) mH) fP) m9:=by
        simp only [h7,and_true,X'];rw [Qf f5 _ a4,Qf gt _ t_]
       have e2:(out++(⟨true,s,d,⟨0,0,[],[]⟩,false⟩:kP)::(f5++(gt++(mH++(fP++m9))))).length=(out++[(⟨true,s,d,⟨0,0,[],[]⟩,false⟩:kP)]++f5++gt++mH++fP++m9).length:=by simp
       rw [e1,e2,f3]
       congr 1
       rw [X7];simp only
       rw [d3,c3,oa,a3,TR]
      ·intro v am cS;simp only [List.mem_cons,List.mem_append]at am;rcases am with rfl|am|am|am|am|am
       ·exact hg
       ·rw [a4 v am]at cS;cases cS
       ·rw [t_ v am]at cS;cases cS
       ·have:=c4 v am cS;omega
       ·have:=d4 v am cS;omega
       ·exact f4 v am cS
     ·rw [if_pos (by omega)]
      simp only [Dx,am9,am_];exact⟨[],by simp,by simpa using an,by simp [h7],λv am=>by cases am⟩
    ·rw [gi l i hi];simp only [hi,ang,am9,am_,hC];exact⟨[],by simp,by simpa using an,by simp [h7],λv am=>by cases am⟩
  exact gD n 0 out e (by omega) (by omega) an
open Go Go.Ab Go.Proofs
def mI(p:aZ):Int:=
 if gC p.Name=false then 7 else if pM p.Params≠0 then pM p.Params
 else if(hC p.Body 1 (401,0)).2=0∧(hC p.Body 1 (401,0)).1=0 then 2 else(hC p.Body 1 (401,0)).2
def I8{n:Nat}(p:aZ)(aU:p.Name.length≤140737488351232)(k2:fw p.Params<n)(I9:fw p.Params≤140737488351232)(cJ:di p.Body+2≤n)(l8:di p.Body≤140737488351232):Bt n p=some (mI p):=by
 unfold Bt Mx mI;rw [y_ n p.Name aU,ahZ p.Params k2 I9];simp only [ai];cases gC p.Name
 ·rfl
 ·simp only [ana,am_,Bool.true_eq_false,ann];by_cases h:pM p.Params=0
  ·simp only [h,am8,ana,am_,ne_eq,not_true,ann];have:=ah3 n p.Body 1 401 0 cJ l8 (by omega)
   rw [show vp n p.Body 1 401 0=_ from this]
   have hle:=t' p.Body 1 (401,0);simp only at hle
   generalize hC p.Body 1 (401,0)=r at hle
   obtain⟨k,e⟩:=r;simp only [ai];simp only at hle
   rw [show anq (401-((k:Nat):Int))=401-((k:Nat):Int)by rw [wr]<;>omega]
   by_cases he:e=0
   ·by_cases hk:k=0
    ·subst hk;subst he;rfl
    ·simp only [he,hk,am8,am',and_false,ann,show¬ (400:Int)<401-((k:Nat):Int)by omega,am9,am_]
   ·simp only [he,am9,am_,false_and,ann]
  ·simp only [h,am9,anb,am',ne_eq,not_false_iff,anm]
def Yb:∀(l:List kP) (e:Int),e≠0→h7 e l=e
 |[],e,h=>rfl
 |v::l,e,h=>by rw [h7,if_neg (λx=>h x.1),Yb l e h]
def ah6(n:Nat)(l:List kP)(hn:25<n)(B:Nat)(cJ:B≤n)(l8:B≤140737488351232)(ab:l.length≤401)(hs:∀v,v∈l→v.pz=true→fst v.Stmt<B):∀m i,l.length<i+m→i≤l.length→
 CI n l m (i:Int)=some (if h7 0 (l.drop i)≠0 then h7 0 (l.drop i)else if 400<l.length then 2 else 0):=by
 intro m;induction m with
 |zero=>intro i h aa;omega
 |succ m aF=>
  intro i hm hi;simp only [CI,U7,U6,OA];by_cases h:i<l.length
  ·have am:l.getD i default∈l:=by
    have e:l.getD i default=l[i]:=by simp [List.getD,h]
    rw [e];exact List.getElem_mem h
   have cS:=hs _ am
   (rw [eS l i default h,bg (by omega)];simp only [anf];rw [aF (i+1) (by omega) (by omega)])
   generalize l.getD i default=v at cS
   simp only [h,b3 h,ang,am8,am',aM,h7];cases ak:v.pz
   ·simp only [am_,Bool.false_eq_true,and_false,ann]
   ·have bJ:=cS ak;have tQ:=fst_eq v.Stmt;rw [ahS v.Stmt v.A8 hn (by omega) (by omega) (by omega) (by omega) (by omega) (by omega)]
    simp only [am',ai,and_self,anm];by_cases he:jV v.Stmt v.A8=0
    ·simp only [he,am8,ana,am_]
    ·simp only [he,am9,anb,am'];rw [Yb _ _ he,if_pos he]
  ·rw [gi l i h];simp only [h,ang,am9,am_,h7,f',ne_eq,not_true,ann];by_cases aD:400<l.length
   ·simp only [aD,am8,am',anm]
   ·simp only [aD,am9,am_,ann]
def Qg{n:Nat}(p:aZ)(hn:500<n)(aU:p.Name.length<n)(ahT:p.Name.length≤140737488351232)(k2:fw p.Params<n)(I9:fw p.Params≤140737488351232)(cJ:di p.Body+2≤n)(l8:di p.Body≤140737488351232):HV n p=some (mI p):=by
 unfold HV UU mI;rw [Dh p.Name aU (by omega) (by omega),ah0 p.Params (by omega) k2 I9]
 simp only [ai];cases gC p.Name
 ·rfl
 ·simp only [ana,am_,Bool.true_eq_false,ann];by_cases h:pM p.Params=0
  ·simp only [h,am8,ana,am_,ne_eq,not_true,ann];obtain⟨ext,e1,e2,e3,gk⟩:=ah5 n p.Body 1 [] 0 cJ l8 (by simp)
   rw [List.nil_append]at e1 e2 e3;rw [e1];simp only [ai];have:=ah6 n ext (by omega) (di p.Body) (by omega) l8 e2 gk n 0 (by omega) (by omega)
   rw [show CI n ext n 0=_ from this,List.drop_zero,ane]at *
   rw [show 401-0=401 from rfl]at e3
   rw [←e3];simp only
   by_cases he:h7 0 ext=0
   ·simp only [he,ne_eq,not_true,ann,true_and];by_cases aD:400<ext.length
    ·rw [if_pos aD,if_pos (by omega)]
    ·rw [if_neg aD,if_neg (by omega)]
   ·rw [if_pos he,if_neg (λx=>he x.1)]
  ·simp only [h,am9,anb,am',ne_eq,not_false_iff,anm]
def ah7:∀(n:Nat) (l:List Stmt),di l+2≤n→di l≤140737488351232→yG n l l=some true:=by
 intro n;induction n with
 |zero=>intro l h;omega
 |succ n aF=>
  intro l h ab;have tR:=wu l;simp only [yG,N4,am8,ana,am_]
  have gD:∀m i,l.length<i+m→i≤l.length→Cz n (yG n) l l m (i:Int)=some true:=by
   intro m;induction m with
   |zero=>intro i Z aa;omega
   |succ m jk=>
    intro i Z aa;simp only [Cz,N3,N2,fI,iT];by_cases hi:i<l.length
    ·have hg:=I7 l i hi
     (rw [bg (by omega),jk (i+1) (by omega) (by omega)];simp only [anf])
     generalize l.getD i default=s at hg
     have mT:=fst_eq s;simp only [hi,b3 hi,ang,am8,ana,am',am_,aM,Xg n s.A (by omega) (by omega),Xg n s.B (by omega) (by omega),aF s.Body (by omega) (by omega),aF s.bx (by omega) (by omega),ai]
     rfl
    ·simp only [hi,ang,am9,am_]
  exact gD n 0 (by omega) (by omega)
def ah8{n:Nat}(p:aZ)(k2:p.Params.length<n)(I9:p.Params.length≤140737488351232)(cJ:di p.Body+2≤n)(l8:di p.Body≤140737488351232):Hr n p p=some true:=by
 unfold Hr;simp only [am8,ana,am_]
 have gD:∀m i,p.Params.length<i+m→i≤p.Params.length→CA n p p m (i:Int)=some true:=by
  intro m;induction m with
  |zero=>intro i Z aa;omega
  |succ m jk=>
   intro i Z aa;simp only [CA,N6,N5];by_cases hi:i<p.Params.length
   ·rw [bg (by omega),jk (i+1) (by omega) (by omega)]
    simp only [hi,b3 hi,ang,am8,Bool.and_self,ana,am',am_,aM]
   ·simp only [hi,ang,am9,am_,ah7 n p.Body cJ l8,ai]
 exact gD n 0 (by omega) (by omega)
open Go Go.Ab Go.Proofs
def I'(p:aZ):(⟨p.Name,p.Params,p.Body⟩:aZ)=p:=rfl
def ah9{n:Nat}(src:ano)(hs:src.length≤2000∨16384<src.length)(hn:3000000≤n):
 ∃r,yD n src=some r∧Il n src=some r∧se r.1≤250000:=by
 have I_:se (⟨[],[],[]⟩:aZ)≤250000:=by simp [se,fw,di]
 obtain⟨⟨l,mF,e⟩,t1,t2,t3⟩:=Xy (λt=>t.Kind=5→t.Text∈marks) (λs mF Z aa=>PQ s mF Z aa) (n:=n) src (by omega) (by omega)
 unfold yD Cv Il;rw [t1,t2];simp only [ai];by_cases he:e=0
 ·obtain⟨Z,aa,aj⟩:=t3 he;simp only at Z aj
  subst he;have hg:jT l:=aj;have hlen:=l6 l;have lJ:l.length≤2100:=by omega
  have pg:ed l l.length=gv l:=by unfold ed;rw [List.take_length]
  have bK:=XX (l:=l) (by omega) hg (i:=0) (n1:=n) (n2:=n) (by omega) (by omega) (by omega)
  simp only [am8,ana,am_];unfold Hm;rcases bK with⟨a,k,e1,e2,jU,eV,iS⟩|⟨k,c,z,a,e1,e2,hc,hk⟩
  ·have e1:qE n ⟨l,0⟩=some (ax.ret a ((k:Nat):Int)):=e1;have e2:CU n l 0=some (a,((k:Nat):Int),0):=e2;have ah':=tW l k l.length eV;rw [e1,e2];simp only [ai,ax.on,ang,O3,am8,am'];by_cases oG:k<l.length
   ·simp only [oG,am8,am',PR n l k 5 (by omega),ai,ax.on,IW,show¬ (5:Int)=0 by omega,am9,anb,XI n l k (by omega) eV]
    have:h6 l k 5=5:=if_pos oG
    simp only [this,show¬ (5:Int)=0 by omega,am9,am_,pG,anb,am']
    exact⟨_,rfl,rfl,I_⟩
   ·simp only [oG,am9,am_,ai,am8,ana,am',I'];have hw:se a≤125000:=by omega
    have AW:a.Name.length+fw a.Params+di a.Body≤125000:=hw;rw [I8 (n:=n) a (by omega) (by omega) (by omega) (by omega) (by omega),Qg (n:=n) a (by omega) (by omega) (by omega) (by omega) (by omega) (by omega) (by omega)]
    simp only [ai,pG];by_cases ah:mI a=0
    ·simp only [ah,am8,ana,am_,I'];exact⟨_,rfl,rfl,by simp only;omega⟩
    ·simp only [ah,am9,anb,am'];exact⟨_,rfl,rfl,I_⟩
  ·have e1:qE n ⟨l,0⟩=some (ax.az (mp l k c) z):=e1;have e2:CU n l 0=some (a,((k:Nat):Int),c):=e2;rw [e1,e2];simp only [ai,ax.on,IW,O3,hc,am9,am_,anb,am',XI n l k (by omega) hk,pG]
   exact⟨_,rfl,rfl,I_⟩
 ·simp only [he,am9,anb,am',ai,am_,pG];exact⟨_,rfl,rfl,I_⟩
open Go Go.Ab Go.Proofs
def cv(t:Token):Token:=⟨t.Kind,t.Text,t.N,0⟩
open Go Go.Ab Go.Proofs
def Yc(u:Nat):Lib.decDigits u=if u<10 then[UInt8.ofNat (48+u)]else Lib.decDigits (u / 10)++[UInt8.ofNat (48+u % 10)]:=by
 rw [Lib.decDigits];split<;>rfl
def ah_{w:ano}:gg w=w.length→w.all hO=true:=by
 induction w with
 |nil=>intro;rfl
 |cons c w aF=>
  intro h;rw [y']at h;cases hc:hO c
  ·rw [hc]at h;simp at h
  ·rw [hc]at h;simp only [am',anc]at h;rw [List.all_cons,hc,aF (by omega)];rfl
def Yd{w:ano}(h:gC w=true):∃c l,w=c::l∧n7 c=true∧w.all hO=true∧tP w=false∧w.length≤16:=by
 cases w with
 |nil=>cases h
 |cons c l=>
  simp only [gC,Bool.and_eq_true,decide_eq_true_eq,Bool.not_eq_true']at h;obtain⟨⟨⟨Z,aa⟩,aj⟩,aD⟩:=h;exact⟨c,l,rfl,aa,ah_ (by simpa using aj),aD,by simp;omega⟩
def fS:ano→ano
 |[]=>[]
 |c::l=>if c.toNat=34∨c.toNat=92 then 92::c::fS l else c::fS l
def quo(s:ano):ano:=34::(fS s++[34])
def spell(t:Token):ano:=if t.Kind=3 then Lib.decDigits t.N.toNat else if t.Kind=4 then quo t.Text else t.Text
def lK(t:Token):Prop:=
 t.lX=0∧((t.Kind=1∧gC t.Text=true∧t.N=0)∨(t.Kind=2∧t.Text∈tO∧t.N=0)∨(t.Kind=3∧t.Text=[]∧0≤t.N∧t.N≤9223372036854775807)∨
  (t.Kind=4∧iC t.Text=true∧t.N=0)∨(t.Kind=5∧t.Text∈marks∧t.N=0))
open Go Go.Ab Go.Proofs
abbrev pP:=List (Option Token)
def flat:pP→ano
 |[]=>[]
 |some t::l=>spell t++flat l
 |none::l=>32::flat l
def kt:pP→List Token
 |[]=>[]
 |some t::l=>t::kt l
 |none::l=>kt l
def ob:∀l m:pP,flat (l++m)=flat l++flat m
 |[],m=>rfl
 |some t::l,m=>by simp only [List.cons_append,flat,ob l m,List.append_assoc]
 |none::l,m=>by simp only [List.cons_append,flat,ob l m]
def Dy:∀l m:pP,kt (l++m)=kt l++kt m
 |[],m=>rfl
 |some t::l,m=>by simp only [List.cons_append,kt,Dy l m]
 |none::l,m=>by simp only [List.cons_append,kt,Dy l m]
def eM(w:ano):Token:=⟨2,w,0,0⟩
def cp(w:ano):Token:=⟨5,w,0,0⟩
def nq(w:ano):Token:=⟨1,w,0,0⟩
def wy(n:Int):Token:=⟨3,[],n,0⟩
def aia(w:ano):Token:=⟨4,w,0,0⟩
def dt(op:Int):Nat:=if op=17 then 1 else if op=16 then 2 else if op=18 then 3 else if 10≤op∧op≤15 then 4 else if op=19 then 5 else if op=4∨op=5 then 6 else if 6≤op∧op≤8 then 7 else if op=9 then 8 else 9
def l9(op:Int):Token:=
 if op=17 then eM [111,114]else if op=16 then eM [97,110,100]else if op=10 then cp [61,61]else if op=11 then cp [33,61]else if op=12 then cp [60]else if op=13 then cp [60,61]
 else if op=14 then cp [62]else if op=15 then cp [62,61]else if op=19 then cp [43,43]else if op=4 then cp [43]else if op=5 then cp [45]else if op=6 then cp [42]else if op=7 then cp [47]else cp [37]
def gY(op:Int):Token:=
 if op=20 then eM [116,101,120,116]else if op=21 then eM [108,101,110]else if op=22 then eM [103,101,116,105,110,116]else if op=23 then eM [103,101,116,115,116,114]else if op=24 then eM [104,97,115]
 else if op=25 then eM [110,111,119]else if op=26 then eM [114,97,110,100,111,109]else eM [110,111,100,101]
def hV(op:Int)(p:pP)(least:Nat):pP:=if dt op<least then some (cp [40])::(p++[some (cp [41])])else p
def sh(Op N:Int)(S:ano)(L:List (Int×pP)):pP:=
 if Op=1 then[some (wy N)]else if Op=2 then[some (aia S)]else if Op=3 then[some (nq S)]
 else match L with
  |[]=>[some (gY Op),some (cp [40]),some (cp [41])]
  |[a]=>if Op=18 then some (eM [110,111,116])::none::hV a.1 a.2 3 else if Op=9 then some (cp [45])::hV a.1 a.2 8 else some (gY Op)::some (cp [40])::(a.2++[some (cp [41])])
  |a::b::_=>hV a.1 a.2 (if dt Op=4 then 5 else dt Op)++none::some (l9 Op)::none::hV b.1 b.2 (dt Op+1)
mutual
def cI:Expr→pP
 |⟨Op,N,S,ao⟩=>sh Op N S (qR ao)
def qR:List Expr→List (Int×pP)
 |[]=>[]
 |x::l=>(x.Op,cI x)::qR l
end
def ql(op:Int)(n:Nat):Prop:=(1≤op∧op≤27)∧(n:Int)=jj op
mutual
def ia:Expr→Prop
 |⟨Op,N,S,ao⟩=>ql Op ao.length∧(Op=1→0≤N∧N≤9223372036854775807)∧(Op≠1→N=0)∧(Op≠2∧Op≠3→S=[])∧(Op=2→iC S=true)∧(Op=3→gC S=true)∧Ja ao
def Ja:List Expr→Prop
 |[]=>True
 |x::l=>ia x∧Ja l
end
mutual
def ho:Expr→Nat
 |⟨_,_,_,ao⟩=>1+pQ ao
def pQ:List Expr→Nat
 |[]=>0
 |x::l=>max (ho x) (pQ l)
end
def Jb(e:Expr):ia e↔ql e.Op e.ao.length∧(e.Op=1→0≤e.N∧e.N≤9223372036854775807)∧(e.Op≠1→e.N=0)∧(e.Op≠2∧e.Op≠3→e.S=[])∧(e.Op=2→iC e.S=true)∧(e.Op=3→gC e.S=true)∧Ja e.ao:=by cases e;rfl
def Dz(e:Expr):ho e=1+pQ e.ao:=by cases e;rfl
def Ye{w:ano}(h:w∈tO):lK (eM w):=⟨rfl,Or.inr (Or.inl ⟨rfl,h,rfl⟩)⟩
def aib{c:Prop}[Decidable c]{a b:Token}(ha:lK a)(hb:lK b):lK (if c then a else b):=by
 by_cases h:c
 ·rw [if_pos h];exact ha
 ·rw [if_neg h];exact hb
def aic{c:Prop}[Decidable c]{a b:Token}{k:Int}(ha:a.Kind=k)(hb:b.Kind=k):(if c then a else b).Kind=k:=by
 by_cases h:c
 ·rw [if_pos h];exact ha
 ·rw [if_neg h];exact hb
def aid(op:Int):lK (gY op)∧(gY op).Kind=2:=by
 unfold gY;constructor
 ·repeat refine aib (Ye (by decide)) ?_
  exact Ye (by decide)
 ·repeat refine aic rfl ?_
  rfl
def aie{op:Int}(h:1≤op∧op≤27):jj op=0∧(op≤3∨25≤op)∨jj op=1∧(op=9∨op=18∨20≤op∧op≤24)∨jj op=2∧(4≤op∧op≤8∨10≤op∧op≤17∨op=19):=by
 obtain rfl|rfl|rfl|rfl|rfl|rfl|rfl|rfl|rfl|rfl|rfl|rfl|rfl|rfl|rfl|rfl|rfl|rfl|rfl|rfl|rfl|rfl|rfl|rfl|rfl|rfl|rfl:op=1∨op=2∨op=3∨op=4∨op=5∨op=6∨op=7∨op=8∨op=9∨op=10∨op=11∨op=12∨op=13∨op=14∨op=15∨op=16∨op=17∨op=18∨op=19∨op=20∨op=21∨op=22∨op=23∨op=24∨op=25∨op=26∨op=27:=by omega
 all_goals first|exact Or.inl ⟨rfl,by omega⟩|exact Or.inr (Or.inl ⟨rfl,by omega⟩)|exact Or.inr (Or.inr ⟨rfl,by omega⟩)
open Go Go.Ab Go.Proofs
def gu(l:List Token)(i:Nat)(T R:List Token):Prop:=(l.map cv).drop i=T++R
def wz(R:List Token)(w:ano):Bool:=
 match R with
 |[]=>false
 |t::_=>(decide (t.Kind=2)||decide (t.Kind=5))&&decide (t.Text=w)
def aif(l:List Token)(i:Nat)(w:ano):bk l i w=wz ((l.map cv).drop i) w:=by
 unfold bk;by_cases h:i<l.length
 ·rw [eS (l.map cv) i default (by simpa using h)]
  have:(l.map cv).getD i default=cv (l.getD i default):=by simp [List.getD,h]
  rw [this];generalize l.getD i default=t
  simp only [wz,h,cv,am8,Bool.true_and]
  congr
 ·rw [gi (l.map cv) i (by simpa using h)]
  simp [wz,h]
def gu.is{l T R:List Token}{i:Nat}(h:gu l i T R)(w:ano):bk l i w=wz (T++R) w:=by rw [aif,h]
def gu.call{l T R:List Token}{i:Nat}(h:gu l i T R):ld l i=call2 (hU.find? λr=>wz (T++R) r.1):=by
 unfold ld
 congr 2
 funext r
 exact h.is r.1
def gu.lt{l T R:List Token}{t:Token}{i:Nat}(h:gu l i (t::T) R):i<l.length:=by
 by_cases hi:i<l.length
 ·exact hi
 ·unfold gu at h;rw [gi (l.map cv) i (by simpa using hi)]at h
  cases h
def gu.hd{l T R:List Token}{t:Token}{i:Nat}(h:gu l i (t::T) R):cv (l.getD i default)=t:=by
 have hi:=h.lt;unfold gu at h;rw [eS (l.map cv) i default (by simpa using hi),List.cons_append]at h
 injection h with Z aa;rw [←Z];simp [List.getD,hi]
def gu.le{l T R:List Token}{i:Nat}(h:gu l i T R)(aA:T≠[]):i+T.length≤l.length:=by
 have:=congrArg List.length h
 simp only [List.length_drop,List.length_map,anh]at this;have:0<T.length:=List.length_pos_iff.2 aA
 omega
def aig(R:List Token):Int:=(wm (fH.find? λr=>wz R r.1)).1
def aih(op:Int)(R:List Token)(h:20≤op∧op≤27):call2 (hU.find? λr=>wz (gY op::R) r.1)=op:=by
 have:op=20∨op=21∨op=22∨op=23∨op=24∨op=25∨op=26∨op=27:=by omega
 rcases this with rfl|rfl|rfl|rfl|rfl|rfl|rfl|rfl<;>rfl
section
variable {l:List Token}
def k6(l:List Token)(i d bH:Nat)(e:Expr)(k B:Nat):Prop:=∀n,B≤n→fe n (bH:Int) (d:Int) ⟨l,(i:Int)⟩=some (.ret e (k:Int))
def Qh(l:List Token)(i d:Nat)(e:Expr)(k B:Nat):Prop:=∀n,B≤n→ij n (d:Int) ⟨l,(i:Int)⟩=some (.ret e (k:Int))
def Qi(l:List Token)(i d:Nat)(e:Expr)(k B:Nat):Prop:=∀n,B≤n→h3 n (d:Int) ⟨l,(i:Int)⟩=some (.ret e (k:Int))
theorem k6.mono{i d bH:Nat}{e:Expr}{k B Yf:Nat}(h:k6 l i d bH e k B)(cJ:B≤Yf):k6 l i d bH e k Yf:=λn hn=>h n (by omega)
theorem Qi.of{i d:Nat}{e:Expr}{k B:Nat}(ab:l.length≤1000000000)(hi:bk l i [40]=true)(h:k6 l (i+1) d 1 e k B)(hk:bk l k [41]=true):Qi l i d e (k+1) (B+1):=by
 intro n hn;obtain⟨n,rfl⟩:∃j,n=j+1:=⟨n-1,by omega⟩
 have Z:=gq hi;have aa:=gq hk;rw [PU];unfold tn;rw [np n l i _ (by omega) (by omega),hi]
 simp only [ai,am',ax.on];rw [show fe n 1 (d:Int) ⟨l,((i+1:Nat):Int)⟩=_ from h n (by omega)]
 simp only [ai,ax.on];rw [np n l k _ (by omega) (by omega),hk]
 rfl
theorem aii{n i d:Nat}(ab:l.length≤1000000000)(h:i<l.length):ij (n+1) (d:Int) ⟨l,(i:Int)⟩ =
 if(l.getD i default).Kind=3 then some (.ret ⟨1,(l.getD i default).N,[],[]⟩ ((i+1:Nat):Int))else if(l.getD i default).Kind=4 then some (.ret ⟨2,0,(l.getD i default).Text,[]⟩ ((i+1:Nat):Int))
 else if(l.getD i default).Kind=1 then some (.ret ⟨3,0,(l.getD i default).Text,[]⟩ ((i+1:Nat):Int))else rZ n (fe n) (iO n) (ij n) (h3 n) (d:Int) ⟨l,(i:Int)⟩ (i:Int):=by
 rw [XD];unfold vQ
 (rw [bg (by omega)];simp only [anf];rw [IT (by omega)])
 simp only [ang,h,am8,am',b3 h,aM];by_cases aj:(l.getD i default).Kind=3
 ·simp only [aj,am8,am',anm]
 ·by_cases aD:(l.getD i default).Kind=4
  ·simp only [aD,show¬ (4:Int)=3 by omega,am8,am9,am',am_,anm,ann]
  ·by_cases aV:(l.getD i default).Kind=1
   ·simp only [aV,show¬ (1:Int)=3 by omega,show¬ (1:Int)=4 by omega,am8,am9,am',am_,anm,ann]
   ·simp only [aj,aD,aV,am9,am_,ann]
theorem Qh.word{i d:Nat}{e:Expr}{k B:Nat}{op:Int}(fC:20≤op∧op≤24)(ab:l.length≤1000000000)(hg:jT l){T R:List Token}(ev:gu l i (gY op::T) R)(hd:d≤23)(h:Qi l (i+1) (d+1) e k B):Qh l i d ⟨op,0,[],[e]⟩ k (B+1):=by
 intro n hn;obtain⟨n,rfl⟩:∃j,n=j+1:=⟨n-1,by omega⟩
 have bm:=ev.lt;have bh:=ev.hd;have hk:(l.getD i default).Kind=2:=by have:=congrArg Token.Kind bh;exact this.trans (aid op).2
 rw [aii ab bm,hk,if_neg (by decide),if_neg (by decide),if_neg (by decide)]
 unfold rZ lZ Cb;rw [PT n l i hg,ev.call,List.cons_append,aih op _ (by omega),IR n l i d (by omega) (by omega),if_neg (by omega)]
 simp only [ai,show¬ op=0 by omega,show¬ op=25 by omega,show¬ op=26 by omega,show¬ op=27 by omega,am9,am_,ax.on]
 rw [bg (by omega),h n (by omega)]
 rfl
end
open Go Go.Ab Go.Proofs
def aij{l:List Expr}{n:Int}(h:(l.length:Int)=n)(aa:n=2):∃a b,l=[a,b]:=by
 match l,h with
 |[a,b],_=>exact⟨a,b,rfl⟩
 |[],h=>simp at h;omega
 |[a],h=>simp at h;omega
 |a::b::c::l,h=>simp at h;omega
def aik{l:List Expr}{n:Int}(h:(l.length:Int)=n)(aa:n=1):∃a,l=[a]:=by
 match l,h with
 |[a],_=>exact⟨a,rfl⟩
 |[],h=>simp at h;omega
 |a::b::l,h=>simp at h;omega
def ail{l:List Expr}{n:Int}(h:(l.length:Int)=n)(aa:n=0):l=[]:=by
 match l,h with
 |[],_=>rfl
 |a::l,h=>simp at h;omega
def Qj(e:Expr)(h:ia e):
 (e.Op=1∧e=⟨1,e.N,[],[]⟩)∨(e.Op=2∧e=⟨2,0,e.S,[]⟩)∨(e.Op=3∧e=⟨3,0,e.S,[]⟩)∨((25≤e.Op∧e.Op≤27)∧e=⟨e.Op,0,[],[]⟩)∨
 (∃a,e=⟨e.Op,0,[],[a]⟩∧ia a∧ho e=1+ho a∧(e.Op=9∨e.Op=18∨20≤e.Op∧e.Op≤24))∨
 (∃a b,e=⟨e.Op,0,[],[a,b]⟩∧ia a∧ia b∧ho e=1+max (ho a) (ho b)∧(4≤e.Op∧e.Op≤8∨10≤e.Op∧e.Op≤17∨e.Op=19)):=by
 obtain⟨Op,N,S,ao⟩:=e;obtain⟨⟨Z,aa⟩,aj,aD,aV,bP,dF,dI⟩:=h;rcases aie Z with⟨ha,hb⟩|⟨ha,hb⟩|⟨ha,hb⟩
 ·obtain rfl:=ail aa ha;by_cases e1:Op=1
  ·subst e1;obtain rfl:=aV (by omega);exact Or.inl ⟨rfl,rfl⟩
  ·obtain rfl:=aD e1;by_cases e2:Op=2
   ·subst e2;exact Or.inr (Or.inl ⟨rfl,rfl⟩)
   ·by_cases e3:Op=3
    ·subst e3;exact Or.inr (Or.inr (Or.inl ⟨rfl,rfl⟩))
    ·obtain rfl:=aV ⟨e2,e3⟩;exact Or.inr (Or.inr (Or.inr (Or.inl ⟨⟨by simp only;omega,by simp only;omega⟩,rfl⟩)))
 ·obtain⟨a,rfl⟩:=aik aa ha;obtain rfl:=aD (by omega)
  obtain rfl:=aV (by omega)
  exact Or.inr (Or.inr (Or.inr (Or.inr (Or.inl ⟨a,rfl,dI.1,by simp [ho,pQ],hb⟩))))
 ·obtain⟨a,b,rfl⟩:=aij aa ha;obtain rfl:=aD (by omega)
  obtain rfl:=aV (by omega)
  exact Or.inr (Or.inr (Or.inr (Or.inr (Or.inr ⟨a,b,rfl,dI.1,dI.2.1,by simp [ho,pQ],hb⟩))))
def Jc{op:Int}{a b:Expr}(h:4≤op∧op≤8∨10≤op∧op≤17∨op=19):cI ⟨op,0,[],[a,b]⟩=hV a.Op (cI a) (if dt op=4 then 5 else dt op)++none::some (l9 op)::none::hV b.Op (cI b) (dt op+1):=by
 simp only [cI,qR,sh];rw [if_neg (by omega),if_neg (by omega),if_neg (by omega)]
def aim{op:Int}{a b:Expr}(h:4≤op∧op≤8∨10≤op∧op≤17∨op=19):kt (cI ⟨op,0,[],[a,b]⟩)=kt (hV a.Op (cI a) (if dt op=4 then 5 else dt op))++l9 op::kt (hV b.Op (cI b) (dt op+1)):=by
 rw [Jc h,Dy];rfl
def Yg{op:Int}(h:4≤op∧op≤8∨10≤op∧op≤17∨op=19):dt op=1∨dt op=2∨dt op=4∨dt op=5∨dt op=6∨dt op=7:=by
 have:op=4∨op=5∨op=6∨op=7∨op=8∨op=10∨op=11∨op=12∨op=13∨op=14∨op=15∨op=16∨op=17∨op=19:=by omega
 rcases this with rfl|rfl|rfl|rfl|rfl|rfl|rfl|rfl|rfl|rfl|rfl|rfl|rfl|rfl<;>decide
def ain(op:Int):1≤dt op∧dt op≤9:=by
 unfold dt;by_cases Z:op=17
 ·rw [if_pos Z];omega
 by_cases aa:op=16
 ·rw [if_neg Z,if_pos aa];omega
 by_cases aj:op=18
 ·rw [if_neg Z,if_neg aa,if_pos aj];omega
 by_cases aD:10≤op∧op≤15
 ·rw [if_neg Z,if_neg aa,if_neg aj,if_pos aD];omega
 by_cases aV:op=19
 ·rw [if_neg Z,if_neg aa,if_neg aj,if_neg aD,if_pos aV];omega
 by_cases bP:op=4∨op=5
 ·rw [if_neg Z,if_neg aa,if_neg aj,if_neg aD,if_neg aV,if_pos bP];omega
 by_cases dF:6≤op∧op≤8
 ·rw [if_neg Z,if_neg aa,if_neg aj,if_neg aD,if_neg aV,if_neg bP,if_pos dF];omega
 by_cases dI:op=9
 ·rw [if_neg Z,if_neg aa,if_neg aj,if_neg aD,if_neg aV,if_neg bP,if_neg dF,if_pos dI];omega
 rw [if_neg Z,if_neg aa,if_neg aj,if_neg aD,if_neg aV,if_neg bP,if_neg dF,if_neg dI];omega
section
variable {l:List Token}
abbrev iU(e:Expr)(bH:Nat):List Token:=kt (hV e.Op (cI e) bH)
end
open Go Go.Ab Go.Proofs
section
variable {l:List Token}
def fB(l:List Token)(e:Expr):Prop:=∀(i d:Nat) (R:List Token),gu l i (kt (cI e)) R→aig R<(dt e.Op:Int)→d+2*ho e≤26→
 if dt e.Op=9 then Qh l i d e (i+(kt (cI e)).length) (24*(kt (cI e)).length+20)else k6 l i d (dt e.Op) e (i+(kt (cI e)).length) (24*(kt (cI e)).length+40-2*dt e.Op)
end
open Go Go.Ab Go.Proofs
def gx{k:Nat}(h:k≤1000000000000):bM k=true:=PG (by omega)
def Qk{k:Nat}(h:k≤1000000000000):room k 1=true:=by simp [room];omega
def Ql(n:Nat)(op:Int):BA n op=some ((dt op:Nat):Int):=by
 by_cases h:1≤op∧op≤27
 ·obtain rfl|rfl|rfl|rfl|rfl|rfl|rfl|rfl|rfl|rfl|rfl|rfl|rfl|rfl|rfl|rfl|rfl|rfl|rfl|rfl|rfl|rfl|rfl|rfl|rfl|rfl|rfl:op=1∨op=2∨op=3∨op=4∨op=5∨op=6∨op=7∨op=8∨op=9∨op=10∨op=11∨op=12∨op=13∨op=14∨op=15∨op=16∨op=17∨op=18∨op=19∨op=20∨op=21∨op=22∨op=23∨op=24∨op=25∨op=26∨op=27:=by omega
  all_goals rfl
 ·have e:dt op=9:=by
   unfold dt;rw [if_neg (by omega),if_neg (by omega),if_neg (by omega),if_neg (by omega),if_neg (by omega),if_neg (by omega),if_neg (by omega),if_neg (by omega)]
  rw [e];simp only [BA,s_,F7,Bz,MJ,show¬ op=17 by omega,show¬ op=16 by omega,show¬ op=18 by omega,show¬ op=10 by omega,show¬ op=11 by omega,show¬ op=12 by omega,show¬ op=13 by omega,show¬ op=14 by omega,show¬ op=15 by omega,show¬ op=19 by omega,show¬ op=4 by omega,show¬ op=5 by omega,show¬ op=6 by omega,show¬ op=7 by omega,show¬ op=8 by omega,show¬ op=9 by omega,am9,am_]
  rfl
def Yh(n:Nat)(op:Int)(h:20≤op∧op≤27):F9 n op=some (spell (gY op)):=by
 obtain rfl|rfl|rfl|rfl|rfl|rfl|rfl|rfl:op=20∨op=21∨op=22∨op=23∨op=24∨op=25∨op=26∨op=27:=by omega
 all_goals rfl
def Yi(n:Nat)(op:Int)(h:4≤op∧op≤8∨10≤op∧op≤17∨op=19):F8 n op=some (spell (l9 op)):=by
 have:op=4∨op=5∨op=6∨op=7∨op=8∨op=10∨op=11∨op=12∨op=13∨op=14∨op=15∨op=16∨op=17∨op=19:=by omega
 rcases this with rfl|rfl|rfl|rfl|rfl|rfl|rfl|rfl|rfl|rfl|rfl|rfl|rfl|rfl<;>rfl
def Yj(n:Nat)(i:Int)(h0:0≤i)(Z:i≤9223372036854775807):vq n i=some (Lib.decDigits i.toNat):=by
 unfold vq Fy;rw [decide_eq_true (show(10:Int)=10 ∧ -9223372036854775808≤i∧i≤9223372036854775807 from⟨rfl,by omega,Z⟩)]
 simp only [aM,ai];unfold Lib.itoa;rw [if_neg (by omega)]
def zo(i:Int)(h0:0≤i)(Z:i≤9223372036854775807):(Lib.decDigits i.toNat).length≤21:=by
 have:=Lib.itoa_length_le i (by omega) Z
 unfold Lib.itoa at this
 rwa [if_neg (by omega)]at this
def DA(n:Nat)(c:UInt8)(b:ano)(h:b.length≤100000000):qw n ((c.toNat:Nat):Int) (fq b)=some (fq (b++[c])):=by
 unfold qw x1;simp only [ai,IL,anc,ane,Qk (show b.length+(0+1)≤1000000000000 by omega),aM,PF]
def aio(n:Nat)(s:ano)(hs:s.length≤4611686018427387904):∀m i,s.length<i+m→i≤s.length→Bx n s m (i:Int)=some ((s.drop i).all okB):=by
 intro m;induction m with
 |zero=>intro i h aa;omega
 |succ m aF=>
  intro i hm hi;simp only [Bx,ME,MD];by_cases h:i<s.length
  ·rw [eS s i 0 h,bg (by omega),aF (i+1) (by omega) (by omega)]
   simp only [h,b3 h,anf,ang,am8,am',aM,anl,List.all_cons,qM,f',eo,y9];cases okB (s.getD i 0)<;>simp
  ·rw [gi s i h];simp [h]
def aip{n:Nat}(s:ano)(h:s.length<n)(hs:s.length≤4611686018427387904):MF n s=some (s.all okB):=by
 have:=aio n s hs n 0 (by omega) (by omega)
 rw [List.drop_zero]at this;exact this
def wA:∀s:ano,(fS s).length≤2*s.length
 |[]=>Nat.le_refl _
 |c::s=>by
  have:=wA s
  simp only [fS];split<;>simp only [anc]<;>omega
def Jd(s:ano)(c:UInt8):fS (s++[c])=fS s++fS [c]:=by
 induction s with
 |nil=>rfl
 |cons d s aF=>simp only [List.cons_append,fS,aF];split<;>rfl
def aiq(n:Nat)(s:ano)(hs:s.length≤64):∀m i,s.length<i+m→i≤s.length→By n s m (fq (34::fS (s.take i))) (i:Int)=some (quo s,0):=by
 intro m;induction m with
 |zero=>intro i h aa;omega
 |succ m aF=>
  intro i hm hi;simp only [By,MI,MG,MH,F5];have hlen:=wA (s.take i);have Dl:(s.take i).length≤i:=by simp;omega
  by_cases h:i<s.length
  ·(rw [bg (by omega)];simp only [anf])
   have hn:=aF (i+1) (by omega) (by omega)
   have aB:s.take (i+1)=s.take i++[s.getD i 0]:=by
    rw [List.take_add,eS s i 0 h,List.take_succ_cons,List.take_zero]
   rw [aB,Jd]at hn;generalize s.getD i 0=c at hn
   simp only [h,b3 h,ang,am8,am',aM,anl,fi,eo];by_cases hc:c.toNat=34∨c.toNat=92
   ·have hb:(decide (c.toNat=34)||decide (c.toNat=92))=true:=by rcases hc with hc|hc<;>rw [decide_eq_true hc]<;>simp
    have e1:=DA n 92 (34::fS (s.take i)) (by simp only [anc];omega)
    have e2:=DA n c (34::fS (s.take i)++[92]) (by simp only [anh,anc,ane];omega)
    rw [hb];simp only [am'];rw [show qw n 92 _=_ from e1]
    simp only [ai];rw [e2];simp only [ai];rw [show(34::fS (s.take i)++[92]++[c])=34::(fS (s.take i)++fS [c])by simp only [fS];rw [if_pos hc];simp]
    exact hn
   ·have hb:(decide (c.toNat=34)||decide (c.toNat=92))=false:=by rw [decide_eq_false (λe=>hc (Or.inl e)),decide_eq_false (λe=>hc (Or.inr e))];rfl
    have e2:=DA n c (34::fS (s.take i)) (by simp only [anc];omega)
    rw [hb];simp only [am_];rw [e2];simp only [ai];rw [show(34::fS (s.take i)++[c])=34::(fS (s.take i)++fS [c])by simp only [fS];rw [if_neg hc];simp]
    exact hn
  ·have Qm:i=s.length:=by omega
   subst Qm;simp only [ang,Nat.lt_irrefl,am9,am_,List.take_length];have e1:=DA n 34 (34::fS s) (by have:=wA s;simp only [anc];omega)
   rw [show qw n 34 _=_ from e1]
   have ab:=wA s;have ep:(fq (34::fS s++[34])).length≤9223372036854775807:=by rw [IL];simp only [anh,anc,ane];omega
   simp only [ai,rJ,PE,PD,ep,am8,Bool.and_self,aM];rfl
def air{n:Nat}(s:ano)(h:iC s=true)(hn:100<n):F6 n s=some (quo s,0):=by
 unfold iC at h;simp only [Bool.and_eq_true,decide_eq_true_eq]at h;unfold F6;simp only [f',show¬ 64<s.length by omega,am9,am_,aip s (show s.length<n by omega) (by omega),ai,h.1,ana]
 have e1:=DA n 34 [] (by simp)
 rw [show qw n 34 []=_ from e1]
 exact aiq n s (by omega) n 0 (by omega) (by omega)
def ais(s:ano):(quo s).length≤2*s.length+2:=by
 have:=wA s
 simp only [quo,anc,anh,ane];omega
def Yk{c:Prop}[Decidable c]{a b:Token}{k:Nat}(ha:(spell a).length≤k)(hb:(spell b).length≤k):(spell (if c then a else b)).length≤k:=by
 by_cases h:c
 ·rw [if_pos h];exact ha
 ·rw [if_neg h];exact hb
def Qn(op:Int):(spell (l9 op)).length≤3:=by
 unfold l9
 repeat refine Yk (by decide) ?_
 decide
def zp(op:Int):(spell (gY op)).length≤6:=by
 unfold gY
 repeat refine Yk (by decide) ?_
 decide
def oZ(op:Int)(p:pP)(k:Nat):(flat (hV op p k)).length≤(flat p).length+2:=by
 unfold hV;split
 ·simp only [flat,ob,spell,cp,anh,anc];simp;omega
 ·omega
def oc{w:ano}(h:gC w=true):w.length≤16:=by
 obtain⟨c,l,_,_,_,_,aV⟩:=Yd h;exact aV
def qb:∀(h:Nat) (e:Expr),ho e≤h→ia e→(flat (cI e)).length≤4*cm e:=by
 intro h;induction h with
 |zero=>intro e he;rw [Dz]at he;omega
 |succ h aF=>
  intro e he dD;have nr:=(Jb e).1 dD;have tQ:=pK e;rcases Qj e dD with⟨Z,ak⟩|⟨Z,ak⟩|⟨Z,ak⟩|⟨ah,ak⟩|⟨a,ak,ha,bh,fC⟩|⟨a,b,ak,ha,hb,bh,fC⟩
  ·have:=zo e.N (nr.2.1 Z).1 (nr.2.1 Z).2
   have e2:flat (cI e)=Lib.decDigits e.N.toNat++[]:=by rw [ak];rfl
   rw [e2,List.append_nil];omega
  ·have:=ais e.S
   have e2:flat (cI e)=quo e.S++[]:=by rw [ak];rfl
   rw [e2,List.append_nil];omega
  ·have:=oc (nr.2.2.2.2.2.1 Z)
   have e2:flat (cI e)=e.S++[]:=by rw [ak];rfl
   rw [e2,List.append_nil];omega
  ·have:=zp e.Op
   generalize e.Op=op at ah ak this
   have e2:flat (cI e)=spell (gY op)++([40]++([41]++[])):=by
    rw [ak];simp only [cI,qR,sh];rw [if_neg (by omega),if_neg (by omega),if_neg (by omega)];rfl
   rw [e2];simp only [anh,anc,ane];omega
  ·have DB:=aF a (by omega) ha
   have DC:cm e=30+(cm a+1):=by rw [ak];simp [cm,jA]
   have:=zp e.Op
   have aj:=oZ a.Op (cI a) 3;have dI:=oZ a.Op (cI a) 8;generalize e.Op=op at fC ak this
   have e2:cI e=if op=18 then some (eM [110,111,116])::none::hV a.Op (cI a) 3 else if op=9 then some (cp [45])::hV a.Op (cI a) 8 else some (gY op)::some (cp [40])::(cI a++[some (cp [41])]):=by
    rw [ak];simp only [cI,qR,sh];rw [if_neg (by omega),if_neg (by omega),if_neg (by omega)]
   rw [e2];split
   ·simp only [flat,spell,eM,anh,anc];simp;omega
   ·split
    ·simp only [flat,spell,cp,anh,anc];simp;omega
    ·simp only [flat,ob,anh];have e3:(spell (cp [40])).length=1:=rfl;have gk:(spell (cp [41])).length=1:=rfl;simp only [ane];omega
  ·have DB:=aF a (by omega) ha
   have Yl:=aF b (by omega) hb
   have DC:cm e=30+(cm a+1+(cm b+1)):=by rw [ak];simp [cm,jA]
   have:=Qn e.Op
   have aj:=oZ a.Op (cI a) (if dt e.Op=4 then 5 else dt e.Op)
   have dI:=oZ b.Op (cI b) (dt e.Op+1);generalize e.Op=op at fC ak this aj dI
   have e2:cI e=hV a.Op (cI a) (if dt op=4 then 5 else dt op)++none::some (l9 op)::none::hV b.Op (cI b) (dt op+1):=by rw [ak,Jc fC]
   rw [e2];simp only [ob,flat,anh,anc];omega
open Go Go.Ab Go.Proofs
def ait(n:Nat):lB (n+1)=F' n (lB n) (vr n):=rfl
def aiu(n:Nat):vr (n+1)=F_ n (lB n) (vr n):=rfl
def DD{n:Nat}{e:Expr}{k:Nat}(h:lB n e=some (flat (cI e)))(ab:(flat (cI e)).length≤100000000):vr (n+1) e (k:Int)=some (flat (hV e.Op (cI e) k)):=by
 rw [aiu];unfold F_ hV;rw [Ql,h];simp only [ai,ang];by_cases hk:dt e.Op<k
 ·simp only [hk,am8,am',anm];rw [gx (by simp;omega),gx (by simp;omega)]
  simp only [aM,flat,ob,spell,cp];simp
 ·simp only [hk,am9,am_,ann]
def aiv:∀(h:Nat) (e:Expr) (n:Nat),ho e≤h→ia e→2*h+200≤n→cm e≤1000000→lB n e=some (flat (cI e)):=by
 intro h;induction h with
 |zero=>intro e n he;rw [Dz]at he;omega
 |succ h aF=>
  intro e n he dD hn IV;obtain⟨n,rfl⟩:∃j,n=j+1:=⟨n-1,by omega⟩
  obtain⟨n,rfl⟩:∃j,n=j+1:=⟨n-1,by omega⟩
  have nr:=(Jb e).1 dD;have tQ:=pK e;rw [ait];unfold F';rw [Ql];simp only [ai];rcases Qj e dD with⟨Z,ak⟩|⟨Z,ak⟩|⟨Z,ak⟩|⟨ah,ak⟩|⟨a,ak,ha,bh,fC⟩|⟨a,b,ak,ha,hb,bh,fC⟩
  ·have e2:flat (cI e)=Lib.decDigits e.N.toNat++[]:=by rw [ak];rfl
   rw [Yj _ e.N (nr.2.1 Z).1 (nr.2.1 Z).2,e2,List.append_nil];simp only [Z,am8,am',ai]
  ·have e2:flat (cI e)=quo e.S++[]:=by rw [ak];rfl
   rw [air e.S (nr.2.2.2.2.1 Z) (by omega),e2,List.append_nil]
   simp only [Z,show¬ (2:Int)=1 by omega,am8,am9,am',am_,ai]
  ·have e2:flat (cI e)=e.S++[]:=by rw [ak];rfl
   rw [e2,List.append_nil];simp only [Z,show¬ (3:Int)=1 by omega,show¬ (3:Int)=2 by omega,am8,am9,am',am_]
  ·have hw:=zp e.Op;have Qo:=Yh (n+1) e.Op (by omega)
   have gQ:dt e.Op=9:=by
    have:e.Op=25∨e.Op=26∨e.Op=27:=by omega
    rcases this with h|h|h<;>rw [h]<;>decide
   have ey:e.ao=[]:=by rw [ak]
   have e2:flat (cI e)=spell (gY e.Op)++([40]++([41]++[])):=by
    generalize e.Op=op at ah ak
    rw [ak];simp only [cI,qR,sh];rw [if_neg (by omega),if_neg (by omega),if_neg (by omega)];rfl
   rw [Qo,e2];simp only [ai];rw [gx (show(spell (gY e.Op)).length+([40,41]:ano).length≤1000000000000 by simp;omega)]
   simp only [gQ,ey,show¬ e.Op=1 by omega,show¬ e.Op=2 by omega,show¬ e.Op=3 by omega,show¬ e.Op=18 by omega,show¬ e.Op=9 by omega,am9,am_,ane,fi,am8,am',aM]
   simp
  ·have DC:cm e=30+(cm a+1):=by rw [ak];simp [cm,jA]
   have pR:=aF a n (by omega) ha (by omega) (by omega)
   have Qp:=aF a (n+1) (by omega) ha (by omega) (by omega)
   have DB:=qb (ho a) a (Nat.le_refl _) ha;have ey:e.ao=[a]:=by rw [ak]
   have aj:=oZ a.Op (cI a) 3;have dI:=oZ a.Op (cI a) 8
   have e2:cI e=if e.Op=18 then some (eM [110,111,116])::none::hV a.Op (cI a) 3 else if e.Op=9 then some (cp [45])::hV a.Op (cI a) 8 else some (gY e.Op)::some (cp [40])::(cI a++[some (cp [41])]):=by
    generalize e.Op=op at fC ak
    rw [ak];simp only [cI,qR,sh];rw [if_neg (by omega),if_neg (by omega),if_neg (by omega)]
   rw [e2,ey];simp only [anc,ane,lI (show 0<0+1 by omega),aM,List.getD_cons_zero,show¬ e.Op=1 by omega,show¬ e.Op=2 by omega,show¬ e.Op=3 by omega,am9,am_]
   by_cases wB:e.Op=18
   ·have:=DD (k:=3) pR (by omega)
    rw [wB];simp only [am8,am',anm,show dt 18=3 from rfl]
    rw [this];simp only [ai];rw [gx (by simp;omega)]
    rfl
   ·by_cases h':e.Op=9
    ·have:=DD (k:=8) pR (by omega)
     rw [h'];simp only [show¬ (9:Int)=18 by omega,am8,am9,am',am_,anm,ann,show dt 9=8 from rfl]
     rw [this];simp only [ai];rw [gx (by simp;omega)]
     rfl
    ·have aiw:20≤e.Op∧e.Op≤24:=by omega
     have gQ:dt e.Op=9:=by
      have:e.Op=20∨e.Op=21∨e.Op=22∨e.Op=23∨e.Op=24:=by omega
      rcases this with h|h|h|h|h<;>rw [h]<;>decide
     have hw:=zp e.Op;rw [Yh (n+1) e.Op (by omega),Qp,if_neg wB,if_neg h']
     have e3:flat (some (gY e.Op)::some (cp [40])::(cI a++[some (cp [41])]))=spell (gY e.Op)++([40]++(flat (cI a)++([41]++[]))):=by
      simp only [flat,ob];rfl
     rw [e3];generalize spell (gY e.Op)=W at hw
     simp only [wB,h',gQ,am9,am8,am_,am',ai];rw [gx (show W.length+(0+1)≤1000000000000 by omega),gx (show(W++([40]:ano)).length+(flat (cI a)).length≤1000000000000 by simp;omega),gx (show((W++([40]:ano))++flat (cI a)).length+(0+1)≤1000000000000 by simp;omega)]
     simp only [show((0+1:Nat):Int)=1 from rfl,show¬ (1:Int)=0 by omega,show((9:Nat):Int)=9 from rfl,am8,am9,am',am_,aM]
     simp
  ·have DC:cm e=30+(cm a+1+(cm b+1)):=by rw [ak];simp [cm,jA]
   have pR:=aF a n (by omega) ha (by omega) (by omega)
   have Qq:=aF b n (by omega) hb (by omega) (by omega)
   have DB:=qb (ho a) a (Nat.le_refl _) ha;have Yl:=qb (ho b) b (Nat.le_refl _) hb;have ey:e.ao=[a,b]:=by rw [ak]
   have gQ:=Yg fC;have aix:=Qn e.Op
   have e2:cI e=hV a.Op (cI a) (if dt e.Op=4 then 5 else dt e.Op)++none::some (l9 e.Op)::none::hV b.Op (cI b) (dt e.Op+1):=by
    generalize e.Op=op at fC ak
    rw [ak,Jc fC]
   have aj:=oZ a.Op (cI a) (if dt e.Op=4 then 5 else dt e.Op)
   have dI:=oZ b.Op (cI b) (dt e.Op+1);have wC:=DD (k:=dt e.Op+1) Qq (by omega)
   rw [e2,ey,Yi (n+1) e.Op fC];simp only [anc,ane,lI (show 0<0+1+1 by omega),aM,List.getD_cons_zero,List.getD_cons_succ,show¬ e.Op=1 by omega,show¬ e.Op=2 by omega,show¬ e.Op=3 by omega,show¬ e.Op=18 by omega,show¬ e.Op=9 by omega,am9,am_,fi,show¬ dt e.Op=9 by omega,show aH 1 (0+1+1)=true from rfl]
   by_cases aD:dt e.Op=4
   ·have ro:=DD (k:=5) pR (by omega)
    rw [aD]at wC ⊢;rw [if_pos rfl];rw [if_pos aD]at aj;simp only [am8,am'];rw [show vr (n+1) a 5=_ from ro,show vr (n+1) b 5=_ from wC]
    simp only [ai];rw [aD]at dI;rw [gx (by simp;omega),gx (by simp;omega),gx (by simp;omega),gx (by simp only [anh,anc,ane];omega)]
    simp only [aM,ob,flat];simp
   ·have ro:=DD (k:=dt e.Op) pR (by omega)
    rw [if_neg aD]at aj ⊢;simp only [aD,am9,am_];rw [ro,bg (by omega),wC]
    simp only [ai];rw [gx (by simp;omega),gx (by simp;omega),gx (by simp;omega),gx (by simp only [anh,anc,ane];omega)]
    simp only [aM,ob,flat];simp
open Go Go.Ab Go.Proofs
mutual
def ns:Expr→Prop
 |⟨Op,N,S,ao⟩=>N≤9223372036854775807∧S.length≤9223372036854775807∧ao.length≤9223372036854775807∧Je ao
def Je:List Expr→Prop
 |[]=>True
 |x::l=>ns x∧Je l
end
def aiy(e:Expr):ns e↔e.N≤9223372036854775807∧e.S.length≤9223372036854775807∧e.ao.length≤9223372036854775807∧Je e.ao:=by cases e;rfl
def aiz:∀(h:Nat) (e:Expr) (d:Nat),ho e≤h→ns e→gw e (d:Int)=0→d≤1000→ia e∧d+ho e≤13:=by
 intro h;induction h with
 |zero=>intro e d he;rw [Dz]at he;omega
 |succ h aF=>
  intro e d he hi am hd;obtain⟨i1,i2,i3,i4⟩:=(aiy e).1 hi;rw [X0]at am
  have jJ:oU e (d:Int)=0:=by
   by_cases h0:oU e (d:Int)=0
   ·exact h0
   ·rw [if_neg h0]at am;exact absurd am h0
  rw [if_pos jJ]at am;unfold oU at jJ;split at jJ
  ·omega
  rename_i g1;split at jJ
  ·omega
  rename_i g2;split at jJ
  ·omega
  rename_i g3;split at jJ
  ·omega
  rename_i g4;simp only [not_or,not_and,Bool.not_eq_false]at g1 g2 g3;obtain⟨aW,a2,a3⟩:=g1;obtain⟨cG,gz,oa⟩:=g3
  have fC:1≤e.Op∧e.Op≤27:=by
   unfold jj at aW;by_cases Z:e.Op<1
   ·simp [Z]at aW
   ·by_cases aa:27<e.Op
    ·simp [aa]at aW
    ·omega
  rw [show anq ((d:Int)+1)=((d+1:Nat):Int)by rw [wr]<;>omega]at am
  have ab:∀l:List Expr,pQ l≤h→Je l→sf l ((d+1:Nat):Int)=0→Ja l∧(d+1+pQ l≤13∨l=[]):=by
   intro l;induction l with
   |nil=>intro _ _ _;exact⟨trivial,Or.inr rfl⟩
   |cons x l aiA=>
    intro bh hin uW;simp only [pQ]at bh;simp only [sf]at uW
    have hx:gw x ((d+1:Nat):Int)=0:=by
     by_cases h0:gw x ((d+1:Nat):Int)=0
     ·exact h0
     ·rw [if_neg h0]at uW;exact absurd uW h0
    rw [if_pos hx]at uW;obtain⟨gn,gU⟩:=aF x (d+1) (by omega) hin.1 hx (by omega)
    obtain⟨aL,a'⟩:=aiA (by omega) hin.2 uW
    refine⟨⟨gn,aL⟩,Or.inl ?_⟩
    simp only [pQ];rcases a' with a'|rfl
    ·omega
    ·simp only [pQ];omega
  have Ym:=Dz e;obtain⟨db,al⟩:=ab e.ao (by omega) i4 am
  refine⟨(Jb e).2 ⟨⟨fC,?_⟩,λZ=>⟨by omega,i1⟩,λZ=>?_,λZ=>?_,λZ=>?_,λZ=>?_,db⟩,?_⟩
  ·by_cases hc:(e.ao.length:Int)=jj e.Op
   ·exact hc
   ·exact absurd hc oa
  ·by_cases hc:e.N=0
   ·exact hc
   ·exact absurd hc (a2 Z)
  ·by_cases hc:e.S=[]
   ·exact hc
   ·exact absurd hc (a3 Z.1 Z.2)
  ·exact gz Z
  ·exact g2 Z
  ·rcases al with al|al
   ·omega
   ·rw [al]at Ym;simp only [pQ]at Ym;omega
open Go Go.Ab Go.Proofs
mutual
def wD:Stmt→Prop
 |⟨_,Name,Max,A,B,Body,bx⟩=>(-9223372036854775808≤Max∧Max≤9223372036854775807)∧Name.length≤9223372036854775807∧ns A∧ns B∧nt Body∧nt bx
def nt:List Stmt→Prop
 |[]=>True
 |x::l=>wD x∧nt l
end
def Yn(s:Stmt):wD s↔(-9223372036854775808≤s.Max∧s.Max≤9223372036854775807)∧s.Name.length≤9223372036854775807∧ns s.A∧ns s.B∧nt s.Body∧nt s.bx:=by cases s;rfl
def zq(p:aZ):Prop:=p.Name.length≤9223372036854775807∧p.Params.length≤9223372036854775807∧(∀i,i<p.Params.length→(p.Params.getD i default).Name.length≤9223372036854775807)∧nt p.Body
open Go Go.Ab Go.Proofs
abbrev fT:Expr:=⟨0,0,[],[]⟩
def l'(e:Expr):Prop:=ia e∧ho e≤12
def DE(s:Stmt):Prop:=
 ((s.Op=1∨s.Op=2)∧s=⟨s.Op,s.Name,0,s.A,fT,[],[]⟩∧gC s.Name=true∧l' s.A)∨
 (s=⟨3,[],0,s.A,s.B,[],[]⟩∧l' s.A∧l' s.B)∨
 ((s.Op=4∨s.Op=7)∧s=⟨s.Op,[],0,s.A,fT,[],[]⟩∧l' s.A)∨
 (s=⟨5,[],0,s.A,fT,s.Body,s.bx⟩∧l' s.A)∨
 (s=⟨6,s.Name,s.Max,s.A,s.B,s.Body,[]⟩∧gC s.Name=true∧(1≤s.Max∧s.Max≤16)∧l' s.A∧l' s.B)∨
 (s=⟨8,[],s.Max,fT,fT,[],[]⟩∧0≤s.Max∧s.Max≤999)
mutual
def zr:Stmt→Nat→Prop
 |⟨Op,Name,Max,A,B,Body,bx⟩,d=>d≤12∧DE ⟨Op,Name,Max,A,B,Body,bx⟩∧lf Body (d+1)∧lf bx (d+1)
def lf:List Stmt→Nat→Prop
 |[],_=>True
 |s::l,d=>zr s d∧lf l d
end
def Jf(s:Stmt)(d:Nat):zr s d↔d≤12∧DE s∧lf s.Body (d+1)∧lf s.bx (d+1):=by cases s;rfl
def wE{e:Expr}(h:mG e=true):e=fT:=by
 obtain⟨a,b,c,l⟩:=e;unfold mG at h;simp only [Bool.and_eq_true,decide_eq_true_eq]at h;obtain⟨⟨⟨rfl,rfl⟩,rfl⟩,h⟩:=h;rw [List.length_eq_zero_iff]at h;subst h;rfl
def si{e:Expr}(hi:ns e)(h:gw e 1=0):l' e:=by
 obtain⟨Z,aa⟩:=aiz (ho e) e 1 (Nat.le_refl _) hi h (by omega)
 exact⟨Z,by omega⟩
def aiB{s:Stmt}{d:Int}(hi:wD s)(h:jV s d=0):d≤12∧DE s:=by
 obtain⟨i1,i2,i3,i4,i5,i6⟩:=(Yn s).1 hi;unfold jV at h;split at h
 ·omega
 rename_i g1;split at h
 ·omega
 rename_i g2;split at h
 ·rename_i g;exact absurd h g.2
 rename_i g3;split at h
 ·rename_i g;exact absurd h g.2
 rename_i g4;split at h
 ·omega
 rename_i g5;refine⟨by omega,?_⟩
 simp only [not_or,not_and,Bool.not_eq_false,Bool.not_eq_true,Decidable.not_not]at g1 g2 g3 g4;obtain⟨aW,a2,a3⟩:=g1
 have fC:1≤s.Op∧s.Op≤8:=by
  by_cases bh:1≤s.Op∧s.Op≤8
  ·exact bh
  ·rw [show jB s.Op=(⟨false,false,false,false,false,false⟩,false) by
    unfold jB;rw [if_neg (by omega),if_neg (by omega),if_neg (by omega),if_neg (by omega),if_neg (by omega),if_neg (by omega)]]at aW
   cases aW
 obtain⟨Op,Name,Max,A,B,Body,bx⟩:=s;simp only at *
 obtain rfl|rfl|rfl|rfl|rfl|rfl|rfl|rfl:Op=1∨Op=2∨Op=3∨Op=4∨Op=5∨Op=6∨Op=7∨Op=8:=by omega
 all_goals
  simp only [zn,qQ,jB]at a2 a3 g2 g3 g4;simp [-List.length_eq_zero_iff]at a2 a3 g2 g3 g4
 all_goals unfold DE;simp only []
 ·obtain⟨⟨⟨cJ,rfl⟩,Z⟩,aa⟩:=a2;obtain rfl:=wE cJ;obtain rfl:=List.eq_nil_of_length_eq_zero Z;obtain rfl:=List.eq_nil_of_length_eq_zero aa;exact Or.inl ⟨Or.inl trivial,rfl,g2,si i3 g3⟩
 ·obtain⟨⟨⟨cJ,rfl⟩,Z⟩,aa⟩:=a2;obtain rfl:=wE cJ;obtain rfl:=List.eq_nil_of_length_eq_zero Z;obtain rfl:=List.eq_nil_of_length_eq_zero aa;exact Or.inl ⟨Or.inr trivial,rfl,g2,si i3 g3⟩
 ·obtain⟨⟨⟨rfl,rfl⟩,Z⟩,aa⟩:=a2;obtain rfl:=List.eq_nil_of_length_eq_zero Z;obtain rfl:=List.eq_nil_of_length_eq_zero aa;exact Or.inr (Or.inl ⟨rfl,si i3 g3,si i4 g4⟩)
 ·obtain⟨⟨⟨⟨rfl,cJ⟩,rfl⟩,Z⟩,aa⟩:=a2;obtain rfl:=wE cJ;obtain rfl:=List.eq_nil_of_length_eq_zero Z;obtain rfl:=List.eq_nil_of_length_eq_zero aa;exact Or.inr (Or.inr (Or.inl ⟨Or.inl trivial,rfl,si i3 g3⟩))
 ·obtain⟨⟨rfl,cJ⟩,rfl⟩:=a2;obtain rfl:=wE cJ;exact Or.inr (Or.inr (Or.inr (Or.inl ⟨rfl,si i3 g3⟩)))
 ·obtain rfl:=List.eq_nil_of_length_eq_zero a2;exact Or.inr (Or.inr (Or.inr (Or.inr (Or.inl ⟨rfl,g2,a3,si i3 g3,si i4 g4⟩))))
 ·obtain⟨⟨⟨⟨rfl,cJ⟩,rfl⟩,Z⟩,aa⟩:=a2;obtain rfl:=wE cJ;obtain rfl:=List.eq_nil_of_length_eq_zero Z;obtain rfl:=List.eq_nil_of_length_eq_zero aa;exact Or.inr (Or.inr (Or.inl ⟨Or.inr trivial,rfl,si i3 g3⟩))
 ·obtain⟨⟨⟨⟨rfl,ev⟩,cJ⟩,Z⟩,aa⟩:=a2;obtain rfl:=wE ev;obtain rfl:=wE cJ;obtain rfl:=List.eq_nil_of_length_eq_zero Z;obtain rfl:=List.eq_nil_of_length_eq_zero aa;exact Or.inr (Or.inr (Or.inr (Or.inr (Or.inr ⟨rfl,a3⟩))))
mutual
def Yo:∀(s:Stmt) (d:Int) (r:Nat×Int),(pO s d r).2=0→r.2=0∧jV s d=0
 |⟨Op,Name,Max,A,B,Body,bx⟩,d,r,h=>by
  simp only [pO]at h;have Z:=DF Body _ _ (DF bx _ _ h);simp only at Z
  by_cases h0:r.2=0
  ·rw [if_pos h0]at Z;exact⟨h0,Z⟩
  ·rw [if_neg h0]at Z;exact absurd Z h0
def DF:∀(l:List Stmt) (d:Int) (r:Nat×Int),(hC l d r).2=0→r.2=0
 |[],d,r,h=>h
 |s::l,d,r,h=>by
  simp only [hC]at h;split at h
  ·exact h
  ·exact(Yo s d r (DF l d _ h)).1
end
mutual
def aiC:∀(s:Stmt) (d:Nat) (r:Nat×Int),wD s→(pO s (d:Int) r).1≠0→(pO s (d:Int) r).2=0→zr s d
 |⟨Op,Name,Max,A,B,Body,bx⟩,d,r,hi,Z,aa=>by
  have hs:=aiB hi (Yo _ _ _ aa).2;obtain⟨i1,i2,i3,i4,i5,i6⟩:=(Yn _).1 hi;have hd:anq ((d:Int)+1)=((d+1:Nat):Int):=by rw [wr]<;>omega
  simp only [pO,hd]at Z aa;have db:=DF _ _ _ aa;have al:=t' bx ((d+1:Nat):Int) (hC Body ((d+1:Nat):Int) (jC B (jC A (r.1-1)),if r.2=0 then jV ⟨Op,Name,Max,A,B,Body,bx⟩ d else r.2))
  exact⟨by omega,hs.2,Jg Body (d+1) _ i5 (by omega) db,Jg bx (d+1) _ i6 Z aa⟩
def Jg:∀(l:List Stmt) (d:Nat) (r:Nat×Int),nt l→(hC l (d:Int) r).1≠0→(hC l (d:Int) r).2=0→lf l d
 |[],d,r,_,_,_=>trivial
 |s::l,d,r,hi,Z,aa=>by
  simp only [hC]at Z aa;split at Z
  ·rename_i h;exact absurd h Z
  ·rename_i h;rw [if_neg h]at aa;have k:=t' l (d:Int) (pO s (d:Int) r);exact⟨aiC s d r hi.1 (by omega) (DF _ _ _ aa),Jg l d _ hi.2 Z aa⟩
end
def Yp(p:aZ):Prop:=gC p.Name=true∧pM p.Params=0∧lf p.Body 1
def Qr{p:aZ}(hi:zq p)(h:mI p=0):Yp p:=by
 unfold mI at h;split at h
 ·omega
 rename_i g1;split at h
 ·rename_i g;exact absurd h g
 rename_i g2;split at h
 ·omega
 rename_i g3;simp only [Bool.not_eq_false,Decidable.not_not]at g1 g2;exact⟨g1,g2,Jg p.Body 1 (401,0) hi.2.2.2 (λe=>g3 ⟨h,e⟩) h⟩
open Go Go.Ab Go.Proofs
def ind:Nat→ano
 | 0=>[]
 |d+1=>32::32::32::32::ind d
def cat:List ano→ano
 |[]=>[]
 |x::l=>x++cat l
def dP(d:Nat)(l:List ano):ano:=ind d++(cat l++[10])
abbrev fU(e:Expr):ano:=flat (cI e)
abbrev gZ(e:Expr):List Token:=kt (cI e)
mutual
def fx:Stmt→Nat→ano
 |⟨Op,Name,Max,A,B,Body,bx⟩,d=>
  if Op=1 then dP d [[108,101,116,32],Name,[32,61,32],fU A,[59]]
  else if Op=2 then dP d [Name,[32,61,32],fU A,[59]]
  else if Op=3 then dP d [[112,117,116,32],fU A,[32,61,32],fU B,[59]]
  else if Op=4 then dP d [[100,101,108,101,116,101,32],fU A,[59]]
  else if Op=5 then dP d [[105,102,32],fU A,[32,123]]++(ga Body (d+1)++((if bx.length=0 then[]else dP d [[125,32,101,108,115,101,32,123]]++ga bx (d+1))++dP d [[125]]))
  else if Op=6 then dP d [[102,111,114,32],Name,[32,61,32],fU A,[32,116,111,32],fU B,[32,109,97,120,32],Lib.decDigits Max.toNat,[32,123]]++(ga Body (d+1)++dP d [[125]])
  else if Op=7 then dP d [[101,109,105,116,32],fU A,[59]]
  else dP d [[97,98,111,114,116,32],Lib.decDigits Max.toNat,[59]]
def ga:List Stmt→Nat→ano
 |[],_=>[]
 |s::l,d=>fx s d++ga l d
end
mutual
def hW:Stmt→List Token
 |⟨Op,Name,Max,A,B,Body,bx⟩=>
  if Op=1 then eM [108,101,116]::nq Name::cp [61]::(gZ A++[cp [59]])
  else if Op=2 then nq Name::cp [61]::(gZ A++[cp [59]])
  else if Op=3 then eM [112,117,116]::(gZ A++cp [61]::(gZ B++[cp [59]]))
  else if Op=4 then eM [100,101,108,101,116,101]::(gZ A++[cp [59]])
  else if Op=5 then eM [105,102]::(gZ A++cp [123]::(jW Body++cp [125]::(if bx.length=0 then[]else eM [101,108,115,101]::cp [123]::(jW bx++[cp [125]]))))
  else if Op=6 then eM [102,111,114]::nq Name::cp [61]::(gZ A++eM [116,111]::(gZ B++eM [109,97,120]::wy Max::cp [123]::(jW Body++[cp [125]])))
  else if Op=7 then eM [101,109,105,116]::(gZ A++[cp [59]])
  else[eM [97,98,111,114,116],wy Max,cp [59]]
def jW:List Stmt→List Token
 |[]=>[]
 |s::l=>hW s++jW l
end
open Go Go.Ab Go.Proofs
def Yq(n:Nat)(s b:ano)(x:Int)(h:b.length+s.length≤1000000000):Bu n s (fq b) x=some (((s.length:Nat):Int),fq (b++s)):=by
 unfold Bu x0;rw [show(fq b).length+s.length=b.length+s.length by simp [fq],Qk (by omega)]
 simp [fq,ai,aM]
def aiD(n:Nat)(b:ano)(x:Int)(h:b.length≤1000000000):F4 n 10 (fq b) x=some (fq (b++[10])):=by
 unfold F4 x0;rw [show(fq b).length+([10]:List Int).length=b.length+1 by simp [fq],Qk (by omega)]
 simp [fq,ai,aM]
def Qs:∀l m:List ano,cat (l++m)=cat l++cat m
 |[],m=>rfl
 |x::l,m=>by simp only [List.cons_append,cat,Qs l m,List.append_assoc]
def Qt:∀d,ind (d+1)=ind d++[32,32,32,32]
 | 0=>rfl
 |d+1=>by
  show 32::32::32::32::ind (d+1)=(32::32::32::32::ind d)++[32,32,32,32]
  rw [Qt d];rfl
def DG:∀d,(ind d).length=4*d
 | 0=>rfl
 |d+1=>by simp only [ind,anc,DG d];omega
def aiE(n:Nat)(parts:List ano)(d:Nat)(b:ano)(ab:b.length+(cat parts).length≤1000000000)(hp:parts.length≤1000):∀m i,parts.length<i+m→i≤parts.length→
 Bv n parts (d:Int) m (fq (b++cat (parts.take i))) (i:Int)=some (fq (b++(cat parts++[10]))):=by
 intro m;induction m with
 |zero=>intro i Z aa;omega
 |succ m aF=>
  intro i Z aa;have hc:cat parts=cat (parts.take i)++cat (parts.drop i):=by rw [←Qs,List.take_append_drop]
  have gl:(cat parts).length=(cat (parts.take i)).length+(cat (parts.drop i)).length:=by rw [hc,anh]
  simp only [Bv,Mz,My,ang,anf];by_cases hi:i<parts.length
  ·rw [eS parts i default hi]at gl;simp only [cat,anh]at gl;simp only [hi,am8,am',b3 hi,aM];rw [Yq n _ _ _ (by rw [anh];omega),bg (by omega)]
   simp only [ai];have:=aF (i+1) (by omega) (by omega)
   rw [t8 parts i hi,Qs]at this;simp only [cat,List.append_nil]at this;rw [List.append_assoc];exact this
  ·simp only [hi,am9,am_];obtain rfl:i=parts.length:=by omega
   rw [List.take_length,aiD n _ _ (by rw [anh];omega)]
   simp only [ai,List.append_assoc]
def nu{n:Nat}(parts:List ano)(d:Nat)(b:ano)(ab:b.length+(cat parts).length≤900000000)(hp:parts.length≤10)(hd:d≤100)(hn:200≤n):
 lY n parts (fq b) (d:Int)=some (fq (b++dP d parts)):=by
 have gD:∀m i,d<i+m→i≤d→Bw n parts (d:Int) m (fq (b++ind i)) (i:Int)=some (fq (b++dP d parts)):=by
  intro m;induction m with
  |zero=>intro i Z aa;omega
  |succ m aF=>
   intro i Z aa;have Kg:=DG i;simp only [Bw,MB,MA,ang];by_cases hi:i<d
   ·simp only [hi,am8,am'];rw [Yq n _ _ _ (by simp only [anh,anc,ane];omega),bg (by omega)]
    simp only [ai];have:=aF (i+1) (by omega) (by omega)
    rw [Qt]at this;rw [List.append_assoc];exact this
   ·simp only [hi,am9,am_];obtain rfl:i=d:=by omega
    have:=aiE n parts i (b++ind i) (by rw [anh];omega) (by omega) n 0 (by omega) (by omega)
    simp only [List.take_zero,cat,List.append_nil]at this;rw [show((0:Nat):Int)=0 from rfl]at this
    rw [this,dP,List.append_assoc]
 have:=gD n 0 (by omega) (by omega)
 simp only [ind,List.append_nil]at this;exact this
def lg(d:Nat)(l:List ano):(dP d l).length=4*d+(cat l).length+1:=by
 unfold dP;simp only [anh,DG,anc,ane];omega
def l_{e:Expr}(h:l' e):(fU e).length≤4*cm e:=qb (ho e) e (Nat.le_refl _) h.1
mutual
def Yr:∀(s:Stmt) (d:Nat),zr s d→(fx s d).length≤4*fst s
 |⟨Op,Name,Max,A,B,Body,bx⟩,d,h=>by
  obtain⟨hd,hs,cZ,fA⟩:=(Jf _ _).1 h;have amV:=od Body (d+1) cZ;have amW:=od bx (d+1) fA;rcases hs with⟨an,ak,hn,ev⟩|⟨ak,ev,cJ⟩|⟨an,ak,ev⟩|⟨ak,ev⟩|⟨ak,hn,hm,ev,cJ⟩|⟨ak,hm⟩
  ·simp only [Stmt.mk.injEq,true_and,and_true]at ak an;obtain⟨rfl,rfl,rfl,rfl⟩:=ak;have Z:=l_ ev;have aa:=oc hn;simp only at Z aa
   rcases an with rfl|rfl
   ·rw [show fx ⟨1,Name,0,A,fT,[],[]⟩ d=dP d [[108,101,116,32],Name,[32,61,32],fU A,[59]]by simp [fx],lg]
    simp only [cat,fst,anh,anc,ane];omega
   ·rw [show fx ⟨2,Name,0,A,fT,[],[]⟩ d=dP d [Name,[32,61,32],fU A,[59]]by simp [fx],lg]
    simp only [cat,fst,anh,anc,ane];omega
  ·simp only [Stmt.mk.injEq,true_and,and_true]at ak;obtain⟨rfl,rfl,rfl,rfl,rfl⟩:=ak;have Z:=l_ ev;have aa:=l_ cJ;simp only at Z aa
   rw [show fx ⟨3,[],0,A,B,[],[]⟩ d=dP d [[112,117,116,32],fU A,[32,61,32],fU B,[59]]by simp [fx],lg]
   simp only [cat,fst,anh,anc,ane];omega
  ·simp only [Stmt.mk.injEq,true_and,and_true]at ak an;obtain⟨rfl,rfl,rfl,rfl,rfl⟩:=ak;have Z:=l_ ev;simp only at Z
   rcases an with rfl|rfl
   ·rw [show fx ⟨4,[],0,A,fT,[],[]⟩ d=dP d [[100,101,108,101,116,101,32],fU A,[59]]by simp [fx],lg]
    simp only [cat,fst,anh,anc,ane];omega
   ·rw [show fx ⟨7,[],0,A,fT,[],[]⟩ d=dP d [[101,109,105,116,32],fU A,[59]]by simp [fx],lg]
    simp only [cat,fst,anh,anc,ane];omega
  ·simp only [Stmt.mk.injEq,true_and,and_true]at ak;obtain⟨rfl,rfl,rfl,rfl⟩:=ak;have Z:=l_ ev;simp only at Z
   have aa:(fx ⟨5,[],0,A,fT,Body,bx⟩ d).length≤(dP d [[105,102,32],fU A,[32,123]]).length+((ga Body (d+1)).length+(((dP d [[125,32,101,108,115,101,32,123]]).length+(ga bx (d+1)).length)+(dP d [[125]]).length)):=by
    by_cases ab:bx.length=0
    ·simp [fx,ab]
    ·simp [fx,ab];omega
   simp only [lg,cat,anh,anc,ane]at aa;simp only [fst];omega
  ·simp only [Stmt.mk.injEq,true_and,and_true]at ak;obtain⟨rfl,rfl⟩:=ak;have hm:1≤Max∧Max≤16:=hm;have Z:=l_ ev;have aa:=l_ cJ;have aj:=oc hn;have aD:=zo Max (by omega) (by omega)
   simp only at Z aa aj
   have aV:fx ⟨6,Name,Max,A,B,Body,[]⟩ d=dP d [[102,111,114,32],Name,[32,61,32],fU A,[32,116,111,32],fU B,[32,109,97,120,32],Lib.decDigits Max.toNat,[32,123]]++(ga Body (d+1)++dP d [[125]]):=by simp [fx]
   rw [aV];simp only [lg,cat,fst,anh,anc,ane];omega
  ·simp only [Stmt.mk.injEq,true_and,and_true]at ak;obtain⟨rfl,rfl,rfl,rfl,rfl,rfl⟩:=ak;have hm:0≤Max∧Max≤999:=hm;have aD:=zo Max (by omega) (by omega)
   rw [show fx ⟨8,[],Max,fT,fT,[],[]⟩ d=dP d [[97,98,111,114,116,32],Lib.decDigits Max.toNat,[59]]by simp [fx],lg]
   simp only [cat,fst,anh,anc,ane];omega
def od:∀(l:List Stmt) (d:Nat),lf l d→(ga l d).length≤4*di l
 |[],d,h=>Nat.le_refl _
 |s::l,d,h=>by
  have Z:=Yr s d h.1;have aa:=od l d h.2;simp only [ga,di,anh];omega
end
def Ys(n:Nat)(i:Int)(h0:0≤i)(Z:i≤9223372036854775807):vq n i=some (Lib.decDigits i.toNat):=Yj n i h0 Z
open Go Go.Ab Go.Proofs
def aiF(n:Nat):qz (n+1)=Ga n (qz n) (vt n) (vu n):=rfl
def aiG(n:Nat):vt (n+1)=Gc n (qz n) (vt n) (vu n):=rfl
def aiH(n:Nat):vu (n+1)=Gd n (qz n) (vt n) (vu n):=rfl
def sj{n:Nat}{e:Expr}(h:l' e)(hn:300≤n)(bJ:cm e≤1000000):lB n e=some (fU e):=aiv (ho e) e n (Nat.le_refl _) h.1 (by have:=h.2;omega) bJ
def sk(n:Nat)(l:List Stmt)(d:Nat)(b:ano):Prop:=qz n l (fq b) (d:Int)=some (fq (b++ga l (d+1)),(d:Int))
def aiI{n d:Nat}{b:ano}{A:Expr}{Body bx:List Stmt}(ev:l' A)(bJ:cm A≤300000)(hd:d≤12)(hn:400≤n)(hb:b.length≤10000000)(eJ:(ga Body (d+1)).length≤10000000)(ep:(ga bx (d+1)).length≤10000000)
 (cJ:∀bo:ano,bo.length≤b.length+4*cm A+100→sk n Body d bo) (bK:∀bo:ano,bo.length≤b.length+4*cm A+200+(ga Body (d+1)).length→sk n bx d bo):
 vt (n+1) ⟨5,[],0,A,fT,Body,bx⟩ (fq b) (d:Int)=some (fq (b++fx ⟨5,[],0,A,fT,Body,bx⟩ d),(d:Int)):=by
 have Z:=l_ ev;rw [aiG];simp only [Gc,Gb,fI];rw [sj ev (by omega) (by omega)]
 simp only [ai];rw [nu _ d b (by simp only [cat,anh,anc,ane];omega) (by simp) (by omega) (by omega)]
 simp only [ai];have e1:=cJ (b++dP d [[105,102,32],fU A,[32,123]]) (by simp only [anh,lg,cat,anc,ane];omega)
 unfold sk at e1;rw [e1];simp only [ai];by_cases ab:bx.length=0
 ·rw [show decide (0<((bx.length:Nat):Int))=false from decide_eq_false (by omega)]
  simp only [am_];rw [nu _ d _ (by simp only [anh,lg,cat,anc,ane];omega) (by simp) (by omega) (by omega)]
  simp only [ai];have:fx ⟨5,[],0,A,fT,Body,bx⟩ d=dP d [[105,102,32],fU A,[32,123]]++(ga Body (d+1)++dP d [[125]]):=by simp [fx,ab]
  rw [this];simp only [List.append_assoc]
 ·rw [show decide (0<((bx.length:Nat):Int))=true from decide_eq_true (by omega)]
  simp only [am'];rw [nu _ d _ (by simp only [anh,lg,cat,anc,ane];omega) (by simp) (by omega) (by omega)]
  simp only [ai];have e2:=bK (b++dP d [[105,102,32],fU A,[32,123]]++ga Body (d+1)++dP d [[125,32,101,108,115,101,32,123]]) (by simp only [anh,lg,cat,anc,ane];omega)
  unfold sk at e2;rw [e2];simp only [ai];rw [nu _ d _ (by simp only [anh,lg,cat,anc,ane];omega) (by simp) (by omega) (by omega)]
  simp only [ai];have:fx ⟨5,[],0,A,fT,Body,bx⟩ d=dP d [[105,102,32],fU A,[32,123]]++(ga Body (d+1)++((dP d [[125,32,101,108,115,101,32,123]]++ga bx (d+1))++dP d [[125]])):=by simp [fx,ab]
  rw [this];simp only [List.append_assoc]
def aiJ{n d:Nat}{b:ano}{Name:ano}{Max:Int}{A B:Expr}{Body:List Stmt}(ev:l' A)(Yt:l' B)(bJ:cm A≤300000)(qa:cm B≤300000)(aU:gC Name=true)(hm:1≤Max∧Max≤16)(hd:d≤12)(hn:400≤n)(hb:b.length≤10000000)(eJ:(ga Body (d+1)).length≤10000000)
 (cJ:∀bo:ano,bo.length≤b.length+4*cm A+4*cm B+120→sk n Body d bo):
 vu (n+1) ⟨6,Name,Max,A,B,Body,[]⟩ (fq b) (d:Int)=some (fq (b++fx ⟨6,Name,Max,A,B,Body,[]⟩ d),(d:Int)):=by
 have Z:=l_ ev;have aa:=l_ Yt;have aj:=oc aU;have aD:=zo Max (by omega) (by omega)
 rw [aiH];simp only [Gd,fI];rw [sj ev (by omega) (by omega),sj Yt (by omega) (by omega),Ys n Max (by omega) (by omega)]
 simp only [ai];rw [nu _ d b (by simp only [cat,anh,anc,ane];omega) (by simp) (by omega) (by omega)]
 simp only [ai];have e1:=cJ (b++dP d [[102,111,114,32],Name,[32,61,32],fU A,[32,116,111,32],fU B,[32,109,97,120,32],Lib.decDigits Max.toNat,[32,123]]) (by simp only [anh,lg,cat,anc,ane];omega)
 unfold sk at e1;rw [e1];simp only [ai];rw [nu _ d _ (by simp only [anh,lg,cat,anc,ane];omega) (by simp) (by omega) (by omega)]
 simp only [ai];have:fx ⟨6,Name,Max,A,B,Body,[]⟩ d=dP d [[102,111,114,32],Name,[32,61,32],fU A,[32,116,111,32],fU B,[32,109,97,120,32],Lib.decDigits Max.toNat,[32,123]]++(ga Body (d+1)++dP d [[125]]):=by simp [fx]
 rw [this];simp only [List.append_assoc]
def Qu:∀(l:List Stmt) (i d:Nat),i<l.length→lf l d→zr (l.getD i default) d
 |[],i,d,h,_=>by simp at h
 |x::l,0,d,h,ab=>ab.1
 |x::l,i+1,d,h,ab=>by simp only [List.getD_cons_succ];exact Qu l i d (by simpa using h) ab.2
def Qv:∀(l m:List Stmt) (d:Nat),lf (l++m) d↔lf l d∧lf m d
 |[],m,d=>by simp [lf]
 |x::l,m,d=>by simp only [List.cons_append,lf,Qv l m d,and_assoc]
def Qw:∀(l m:List Stmt) (d:Nat),ga (l++m) d=ga l d++ga m d
 |[],m,d=>rfl
 |x::l,m,d=>by simp only [List.cons_append,ga,Qw l m d,List.append_assoc]
def aiK:∀(n:Nat) (l:List Stmt) (d:Nat) (b:ano),lf l (d+1)→d≤12→di l≤300000→2*di l+500≤n→b.length+4*di l≤9000000→sk n l d b:=by
 intro n;induction n using Nat.strongRecOn with
 |_ n aF=>
  intro l d b dD hd bJ hn hb;obtain⟨n,rfl⟩:∃k,n=k+2:=⟨n-2,by omega⟩
  have hlen:=wu l;unfold sk;rw [aiF];unfold Ga;rw [bg (by omega)]
  have gD:∀m i,l.length<i+m→i≤l.length→BB (n+1) (qz (n+1)) (vt (n+1)) (vu (n+1)) l m (fq (b++ga (l.take i) (d+1))) ((d+1:Nat):Int) (i:Int)=some (fq (b++ga l (d+1)),(d:Int)):=by
   intro m;induction m with
   |zero=>intro i Z aa;omega
   |succ m jk=>
    intro i Z aa;simp only [BB,MQ,MP,ang,anf,fI,iT];by_cases hi:i<l.length
    ·simp only [hi,am8,am',b3 hi,aM];have cS:=Qu l i (d+1) hi dD;have qN:lf (l.take i) (d+1):=((Qv (l.take i) (l.drop i) (d+1)).1 (by rw [List.take_append_drop];exact dD)).1
     have pm:=od _ _ qN
     have AY:di l=di (l.take i)+(fst (l.getD i default)+1+di (l.drop (i+1))):=by
      have:di l=di (l.take i++l.drop i):=by rw [List.take_append_drop]
      rw [IY,eS l i default hi]at this;simpa only [di]using this
     have f0:=jk (i+1) (by omega) (by omega)
     rw [t8 l i hi,Qw,←List.append_assoc]at f0;simp only [ga,List.append_nil]at f0;have mS:(b++ga (l.take i) (d+1)).length≤b.length+4*di (l.take i):=by rw [anh];omega
     generalize b++ga (l.take i) (d+1)=zt at f0 mS
     rw [bg (by omega)]
     generalize l.getD i default=s at cS AY f0
     have mT:=fst_eq s;obtain⟨ka,hs,cZ,fA⟩:=(Jf _ _).1 cS;obtain⟨Op,Name,Max,A,B,Body,bx⟩:=s;simp only at mT cZ fA
     rcases hs with⟨an,ak,aU,ev⟩|⟨ak,ev,cJ⟩|⟨an,ak,ev⟩|⟨ak,ev⟩|⟨ak,aU,hm,ev,cJ⟩|⟨ak,hm⟩
     ·simp only [Stmt.mk.injEq,true_and,and_true]at ak an;obtain⟨rfl,rfl,rfl,rfl⟩:=ak;have aj:=l_ ev;have aD:=oc aU;simp only at aj aD
      rcases an with rfl|rfl
      ·simp only [show qv (n+1) 1=some (.inl ())from rfl,ai,hZ.on,ML,fI]
       rw [sj ev (by omega) (by show cm A≤_;omega)]
       simp only [ai];rw [nu _ (d+1) zt (by simp only [cat,anh,anc,ane];omega) (by simp) (by omega) (by omega)]
       simp only [ai];rw [show fx ⟨1,Name,0,A,fT,[],[]⟩ (d+1)=dP (d+1) [[108,101,116,32],Name,[32,61,32],fU A,[59]]by simp [fx]]at f0
       exact f0
      ·simp only [show qv (n+1) 2=some (.inr (.inl ()))from rfl,ai,hZ.on,MK,fI]
       rw [sj ev (by omega) (by show cm A≤_;omega)]
       simp only [ai];rw [nu _ (d+1) zt (by simp only [cat,anh,anc,ane];omega) (by simp) (by omega) (by omega)]
       simp only [ai];rw [show fx ⟨2,Name,0,A,fT,[],[]⟩ (d+1)=dP (d+1) [Name,[32,61,32],fU A,[59]]by simp [fx]]at f0
       exact f0
     ·simp only [Stmt.mk.injEq,true_and,and_true]at ak;obtain⟨rfl,rfl,rfl,rfl,rfl⟩:=ak;have aj:=l_ ev;have aD:=l_ cJ;simp only at aj aD
      simp only [show qv (n+1) 3=some (.inr (.inr (.inl ())))from rfl,ai,hZ.on,MN,fI]
      rw [sj ev (by omega) (by show cm A≤_;omega),sj cJ (by omega) (by show cm B≤_;omega)]
      simp only [ai];rw [nu _ (d+1) zt (by simp only [cat,anh,anc,ane];omega) (by simp) (by omega) (by omega)]
      simp only [ai];rw [show fx ⟨3,[],0,A,B,[],[]⟩ (d+1)=dP (d+1) [[112,117,116,32],fU A,[32,61,32],fU B,[59]]by simp [fx]]at f0
      exact f0
     ·simp only [Stmt.mk.injEq,true_and,and_true]at ak an;obtain⟨rfl,rfl,rfl,rfl,rfl⟩:=ak;have aj:=l_ ev;simp only at aj
      rcases an with rfl|rfl
      ·simp only [show qv (n+1) 4=some (.inr (.inr (.inr (.inl ()))))from rfl,ai,hZ.on,MO,fI]
       rw [sj ev (by omega) (by show cm A≤_;omega)]
       simp only [ai];rw [nu _ (d+1) zt (by simp only [cat,anh,anc,ane];omega) (by simp) (by omega) (by omega)]
       simp only [ai];rw [show fx ⟨4,[],0,A,fT,[],[]⟩ (d+1)=dP (d+1) [[100,101,108,101,116,101,32],fU A,[59]]by simp [fx]]at f0
       exact f0
      ·simp only [show qv (n+1) 7=some (.inr (.inr (.inr (.inr (.inr (.inr (.inl ())))))))from rfl,ai,hZ.on,MM,fI]
       rw [sj ev (by omega) (by show cm A≤_;omega)]
       simp only [ai];rw [nu _ (d+1) zt (by simp only [cat,anh,anc,ane];omega) (by simp) (by omega) (by omega)]
       simp only [ai];rw [show fx ⟨7,[],0,A,fT,[],[]⟩ (d+1)=dP (d+1) [[101,109,105,116,32],fU A,[59]]by simp [fx]]at f0
       exact f0
     ·simp only [Stmt.mk.injEq,true_and,and_true]at ak;obtain⟨rfl,rfl,rfl,rfl⟩:=ak;have eJ:=od _ _ cZ;have ep:=od _ _ fA;simp only [show qv (n+1) 5=some (.inr (.inr (.inr (.inr (.inl ())))))from rfl,ai,hZ.on]
      rw [aiI (A:=A) ev (by show cm A≤_;omega) (by omega) (by omega) (by omega) (by omega) (by omega)
       (λbo bI=>aF n (by omega) Body (d+1) bo cZ (by omega) (by omega) (by omega) (by omega)) (λbo bI=>aF n (by omega) bx (d+1) bo fA (by omega) (by omega) (by omega) (by omega))]
      exact f0
     ·simp only [Stmt.mk.injEq,true_and,and_true]at ak;obtain⟨rfl,rfl⟩:=ak;have eJ:=od _ _ cZ;simp only [show qv (n+1) 6=some (.inr (.inr (.inr (.inr (.inr (.inl ()))))))from rfl,ai,hZ.on]
      rw [aiJ (A:=A) (B:=B) ev cJ (by show cm A≤_;omega) (by show cm B≤_;omega) aU hm (by omega) (by omega) (by omega) (by omega)
       (λbo bI=>aF n (by omega) Body (d+1) bo cZ (by omega) (by omega) (by omega) (by omega))]
      exact f0
     ·simp only [Stmt.mk.injEq,true_and,and_true]at ak;obtain⟨rfl,rfl,rfl,rfl,rfl,rfl⟩:=ak;have hm:0≤Max∧Max≤999:=hm;have aD:=zo Max (by omega) (by omega)
      simp only [show qv (n+1) 8=some (.inr (.inr (.inr (.inr (.inr (.inr (.inr ())))))))from rfl,ai,hZ.on,MC,fI]
      rw [Ys _ Max (by omega) (by omega)]
      simp only [ai];rw [nu _ (d+1) zt (by simp only [cat,anh,anc,ane];omega) (by simp) (by omega) (by omega)]
      simp only [ai];rw [show fx ⟨8,[],Max,fT,fT,[],[]⟩ (d+1)=dP (d+1) [[97,98,111,114,116,32],Lib.decDigits Max.toNat,[59]]by simp [fx]]at f0
      exact f0
    ·simp only [hi,am9,am_];obtain rfl:i=l.length:=by omega
     rw [List.take_length,show anq (((d+1:Nat):Int)-1)=(d:Int)by rw [wr]<;>omega]
  have:=gD (n+1) 0 (by omega) (by omega)
  simp only [List.take_zero,ga,List.append_nil]at this;exact this
open Go Go.Ab Go.Proofs
section
variable {l:List Token}
end
open Go Go.Ab Go.Proofs
section
variable {l:List Token}
end
open Go Go.Ab Go.Proofs
def qS(t:Int):ano:=if t=1 then[105,110,116]else if t=2 then[115,116,114] else[98,111,111,108]
def pS(x:Param):ano:=(x.Name++[58,32])++qS x.fm
def ua(x:Param):List Token:=[nq x.Name,cp [58],eM (qS x.fm)]
def wF:List Param→List Token
 |[]=>[]
 |x::l=>cp [44]::(ua x++wF l)
def ub:List Param→List Token
 |[]=>[]
 |x::l=>ua x++wF l
def DH(x:Param):Prop:=gC x.Name=true∧1≤x.fm∧x.fm≤3
def Yu:∀(l b:List Param),tZ b l=0→∀x,x∈l→DH x
 |[],b,h,x,hx=>by cases hx
 |y::l,b,h,x,hx=>by
  unfold tZ at h;split at h
  ·omega
  rename_i g1;split at h
  ·omega
  rename_i g2;split at h
  ·omega
  rename_i g3;rcases List.mem_cons.1 hx with rfl|hx
  ·exact⟨by simpa using g1,by omega,by omega⟩
  ·exact Yu l _ h x hx
def Qx{l:List Param}(h:pM l=0):l.length≤6∧∀x,x∈l→DH x:=by
 unfold pM at h;split at h
 ·omega
 ·exact⟨by omega,Yu l [] h⟩
def o0(l:List Param):ano:=Lib.join (l.map pS) [44,32]
def oe(p:aZ):ano:=dP 0 [[112,114,111,99,32],p.Name,[40],o0 p.Params,[41,32,123]]++(ga p.Body 1++dP 0 [[125]])
def Yv(p:aZ):List Token:=eM [112,114,111,99]::nq p.Name::cp [40]::(ub p.Params++cp [41]::cp [123]::(jW p.Body++[cp [125]]))
def Qy(t:Int):(qS t).length≤4:=by
 unfold qS;split
 ·simp
 ·split<;>simp
def Yw(n:Nat)(t:Int):F3 n t=some (qS t):=by
 unfold F3 qS;by_cases Z:t=1
 ·simp [Z]
 ·by_cases aa:t=2
  ·simp [aa]
  ·simp [Z,aa]
def Qz(x:ano)(l:List ano):Lib.joinTail [44,32] (x::l)=44::32::(x++Lib.joinTail [44,32] l):=by simp [Lib.joinTail]
def Yx{x:Param}(h:DH x):(pS x).length≤22:=by
 have:=oc h.1
 have:=Qy x.fm
 unfold pS;simp only [anh,anc,ane];omega
def Yy:∀l:List Param,(∀x,x∈l→DH x)→(Lib.joinTail [44,32] (l.map pS)).length≤24*l.length
 |[],_=>Nat.le_refl _
 |x::l,h=>by
  have Z:=Yy l λy bV=>h y (by simp [bV])
  have aa:=Yx (h x (by simp))
  rw [List.map_cons,Qz];simp only [anh,anc];omega
def QA{l:List Param}(ab:∀x,x∈l→DH x):(o0 l).length≤24*l.length:=by
 unfold o0;cases l with
 |nil=>exact Nat.le_refl _
 |cons x l=>
  have Z:=Yy l λy bV=>ab y (by simp [bV])
  have aa:=Yx (ab x (by simp))
  rw [List.map_cons,Lib.join_cons];simp only [anh,anc];omega
def Yz{p:aZ}(hp:Yp p):(oe p).length≤4*di p.Body+300:=by
 obtain⟨Z,aa,aj⟩:=hp;obtain⟨aD,aV⟩:=Qx aa;have bP:=QA aV;have dF:=oc Z;have dI:=od p.Body 1 aj;unfold oe;simp only [anh,lg,cat,anc,ane];omega
def aiL{n:Nat}(p:aZ)(hi:zq p)(am:mI p=0)(hn:3000000≤n)(bJ:fw p.Params≤300000)(cJ:di p.Body≤300000):ta n p=some (oe p):=by
 have hp:=Qr hi am;have xq:=hp;obtain⟨Z,aa,aj⟩:=hp;obtain⟨aD,aV⟩:=Qx aa;have bP:=QA aV;have dF:=oc Z;have dI:=od p.Body 1 aj;have h':(ga p.Body (0+1)).length≤4*di p.Body:=dI;unfold ta;rw [I8 p (by omega) (by omega) (by omega) (by omega) (by omega),am]
 simp only [ai,am8,ana,am_]
 have gD:∀m i,p.Params.length<i+m→i≤p.Params.length→BC n p m (i:Int) ((p.Params.take i).map pS)=some (oe p):=by
  intro m;induction m with
  |zero=>intro i g1 g2;omega
  |succ m aF=>
   intro i g1 g2;simp only [BC,MS,ang,anf];by_cases hi:i<p.Params.length
   ·have hx:=aV (p.Params.getD i default) (by rw [List.getD_eq_getElem?_getD,List.getElem?_eq_getElem hi];exact List.getElem_mem hi)
    have hnx:=oc hx.1;have YA:=Qy (p.Params.getD i default).fm;have:=aF (i+1) (by omega) (by omega)
    rw [t8 p.Params i hi,List.map_append]at this;simp only [List.map_cons,List.map_nil]at this;simp only [hi,am8,am',b3 hi,aM];rw [gx (by simp only [anc,ane];omega),Yw]
    simp only [aM,ai];rw [gx (by simp only [anh,anc,ane];omega)]
    simp only [aM]
    rw [show room ((List.map pS (p.Params.take i)).length+([(p.Params.getD i default).Name++[58,32]++qS (p.Params.getD i default).fm]:List ano).length) 16=true by
     simp [room];omega]
    simp only [aM];rw [bg (by omega)]
    exact this
   ·simp only [hi,am9,am_];obtain rfl:i=p.Params.length:=by omega
    unfold MR;rw [List.take_length];unfold Fz;rw [show decide ((p.Params.map pS).length≤140737488355328∧(Lib.join (p.Params.map pS) [44,32]).length≤140737488355328)=true from decide_eq_true ⟨by rw [List.length_map];omega,by show(o0 p.Params).length≤_;omega⟩]
    simp only [aM,ai];have ab:=nu (n:=n) [[112,114,111,99,32],p.Name,[40],o0 p.Params,[41,32,123]] 0 [] (by simp only [cat,anh,anc,ane];omega) (by simp) (by omega) (by omega)
    have ab:lY n [[112,114,111,99,32],p.Name,[40],Lib.join (p.Params.map pS) [44,32],[41,32,123]] [] 0=_:=ab;rw [ab];simp only [ai,List.nil_append];have hb:=aiK n p.Body 0 (dP 0 [[112,114,111,99,32],p.Name,[40],o0 p.Params,[41,32,123]]) aj (by omega) (by omega) (by omega) (by simp only [lg,cat,anh,anc,ane];omega)
    unfold sk at hb;rw [show qz n p.Body (fq (dP 0 [[112,114,111,99,32],p.Name,[40],o0 p.Params,[41,32,123]])) 0=_ from hb]
    simp only [ai];rw [nu _ 0 _ (by simp only [cat,anh,lg,anc,ane];omega) (by simp) (by omega) (by omega)]
    simp only [ai];unfold Ge;rw [PE,PD];have hlen:=Yz xq;have aiM:dP 0 [[112,114,111,99,32],p.Name,[40],o0 p.Params,[41,32,123]]++ga p.Body (0+1)++dP 0 [[125]]=oe p:=by unfold oe;rw [List.append_assoc]
    rw [aiM];rw [show decide ((fq (oe p)).length≤9223372036854775807)=true from decide_eq_true (by rw [show(fq (oe p)).length=(oe p).length by simp [fq]];omega)]
    rfl
 exact gD n 0 (by omega) (by omega)
open Go Go.Ab Go.Proofs
section
variable {l:List Token}
end
open Go Go.Ab Go.Proofs
def gE(s:ano):List Int:=s.map λb=>(b.toNat:Int)
def QB(s:ano):jP (gE s)=s:=by
 simp only [jP,gE,List.map_map]
 conv=>rhs;rw [←List.map_id s]
 apply List.map_congr_left;intro b _;simp
def QC(s:ano):mZ (gE s)=true:=by
 simp only [mZ,gE,List.all_eq_true,List.mem_map,forall_exists_index,and_imp,forall_apply_eq_imp_iff₂];intro b _;have:=b.toNat_lt
 simp;omega
def QD(s t:ano):gE (s++t)=gE s++gE t:=List.map_append
def Jh(s:ano):(gE s).length=s.length:=List.length_map _
def QE:([]:List Int)=gE []:=rfl
def eD(u:Nat):ano:=if u<128 then[UInt8.ofNat u]else UInt8.ofNat (u % 128+128)::eD (u / 128)
termination_by u
decreasing_by omega
def YB:∀(k u:Nat),u<128 ^ k→0<k→(eD u).length≤k
 | 0,u,_,h=>by omega
 |k+1,u,hu,_=>by
  rw [eD];split
  ·simp
  ·have hk:0<k:=by
    rcases Nat.eq_zero_or_pos k with rfl|h
    ·simp at hu;omega
    ·exact h
   have:=YB k (u / 128) (by rw [Nat.pow_succ]at hu;omega) hk
   simp;omega
def nv{u:Nat}(h:u<18446744073709551616):(eD u).length≤10:=YB 10 u (by omega) (by omega)
def aiN:∀x:Nat,x<256→p3 .u8 (x:Int) 128=((x % 128+128:Nat):Int):=by decide +kernel
def YC(u:Nat):IntKind.u8.wrap (u:Int)=((u % 256:Nat):Int):=by rw [IntKind.wrap_u8];omega
def qT{u:Nat}(h:u<18446744073709551616):IntKind.u64.wrap (u:Int)=(u:Int):=by rw [IntKind.wrap_u64];omega
def QF(u:Nat)(h:u<256):([(u:Int)]:List Int)=gE [UInt8.ofNat u]:=by
 simp only [gE,List.map_cons,List.map_nil,UInt8.toNat_ofNat',Nat.mod_eq_of_lt (show u<2 ^ 8 from h)]
def aiO(u:Nat):mN .u64 (u:Int) 7=((u / 128:Nat):Int):=by
 unfold mN;rw [show min (7:Int).toNat (IntKind.bits .u64)=7 by decide,Int.fdiv_eq_ediv_of_nonneg _ (by omega)]
 omega
def QG{n:Nat}(h:n≤140737488355328):room n 1=true:=by simp [room];omega
def gc{n:Nat}(h:n≤9223372036854775807):bM n=true:=by simp [bM];omega
def aiP(n:Nat):∀m u (acc:ano),u<18446744073709551616→(eD u).length≤m→acc.length+(eD u).length≤1000→Bg n m (u:Int) (gE acc)=some (acc++eD u):=by
 intro m;induction m with
 |zero=>intro u acc _ h _;rw [eD]at h;split at h<;>simp at h
 |succ m aF=>
  intro u acc hu hm ab;simp only [Bg,L5,L4,FF];rw [eD]at hm ab ⊢;by_cases h:u<128
  ·rw [if_pos h]at hm ab ⊢;simp only [ani]at ab;have:¬ (128:Int)≤(u:Int):=by omega
   rw [YC,Nat.mod_eq_of_lt (by omega),QF u (by omega),←QD]
   simp only [this,am9,am_,ani,Jh,QG (show acc.length+1≤140737488355328 by omega),aM,ai,QC,QB]
  ·rw [if_neg h]at hm ab ⊢;simp only [anc]at hm ab;have:(128:Int)≤(u:Int):=by omega
   rw [YC,aiN _ (by omega),show u % 256 % 128=u % 128 by omega,QF _ (by omega),←QD,aiO]
   simp only [this,am8,am',ani,Jh,QG (show acc.length+1≤140737488355328 by omega),aM,ai]
   rw [aF (u / 128) _ (by omega) (by omega) (by simp;omega)]
   simp
def uc{n u:Nat}(hn:10≤n)(hu:u<18446744073709551616):hf n (u:Int)=some (eD u):=by
 have:=nv hu
 exact aiP n n u [] hu (by omega) (by simp;omega)
def fold(n:Int):Nat:=if n<0 then(2*(-(n+1))+1).toNat else(2*n).toNat
def h8(x:Int):Prop := -9223372036854775808≤x∧x≤9223372036854775807
def QH{n:Int}(h:h8 n):fold n<18446744073709551616:=by
 unfold h8 at h;unfold fold;split<;>omega
def mJ(n:Int):ano:=eD (fold n)
def Ji{n:Int}(h:h8 n):(mJ n).length≤10:=nv (QH h)
def xor_zero{a:Nat}(h:a<18446744073709551616):mi .u64 (a:Int) 0=(a:Int):=by
 unfold mi;rw [show BitVec.ofInt (IntKind.bits .u64) 0=0#_ from rfl,BitVec.xor_zero]
 rw [show((BitVec.ofInt (IntKind.bits .u64) (a:Int)).toNat:Int)=(a:Int) by
  rw [BitVec.toNat_ofInt];simp only [IntKind.bits];omega]
 exact qT h
def aiQ{a:Nat}(h:a<18446744073709551616):mi .u64 (a:Int) 18446744073709551615=((18446744073709551615-a:Nat):Int):=by
 unfold mi;rw [show BitVec.ofInt (IntKind.bits .u64) 18446744073709551615=BitVec.allOnes _ by decide,BitVec.xor_allOnes]
 rw [show((~~~ BitVec.ofInt (IntKind.bits .u64) (a:Int)).toNat:Int)=((18446744073709551615-a:Nat):Int) by
  rw [BitVec.toNat_not,BitVec.toNat_ofInt];simp only [IntKind.bits];omega]
 exact qT (by omega)
def aiR{x:Int}(h:h8 x):mi .u64 (oq .u64 (IntKind.u64.wrap x) 1) (IntKind.u64.wrap (mN .i64 x 63))=(fold x:Int):=by
 unfold h8 at h
 have e1:mN .i64 x 63=if x<0 then -1 else 0:=by
  unfold mN;rw [show min (63:Int).toNat (IntKind.bits .i64)=63 by decide,Int.fdiv_eq_ediv_of_nonneg _ (by omega)]
  split<;>omega
 have e2:oq .u64 (IntKind.u64.wrap x) 1=(((2*x) % 18446744073709551616).toNat:Int):=by
  unfold oq;rw [show min (1:Int).toNat (IntKind.bits .u64)=1 by decide,IntKind.wrap_u64,IntKind.wrap_u64]
  omega
 rw [e1,e2];unfold fold;by_cases hx:x<0
 ·rw [if_pos hx,if_pos hx,show IntKind.u64.wrap (-1)=18446744073709551615 by decide,aiQ (by omega)]
  omega
 ·rw [if_neg hx,if_neg hx,show IntKind.u64.wrap 0=0 by decide,xor_zero (by omega)]
  omega
def wG{n:Nat}{x:Int}(hn:10≤n)(h:h8 x):pB n x=some (mJ x):=by
 unfold pB;rw [aiR h,uc hn (QH h)];rfl
def fV(s:ano):ano:=eD s.length++s
def ud{n:Nat}{s:ano}(hn:10≤n)(h:s.length≤4611686018427387904):pA n s=some (fV s):=by
 unfold pA;have:=nv (u:=s.length) (by omega)
 rw [qT (by omega),uc hn (by omega)]
 simp only [ai,gc (show(eD s.length).length+s.length≤9223372036854775807 by omega),aM];rfl
def QI{s:ano}(h:s.length≤4611686018427387904):(fV s).length≤s.length+10:=by
 have:=nv (u:=s.length) (by omega)
 simp [fV];omega
open Go Go.Ab Go.Proofs
def YD(n:Nat)(op:Int):OE n op=some ((dt op:Nat):Int):=Ql n op
def aiS(n:Nat)(op:Int)(h:4≤op∧op≤8∨10≤op∧op≤17∨op=19):OF n op=some (spell (l9 op)):=Yi n op h
def YE(n:Nat)(op:Int)(h:20≤op∧op≤27):OG n op=some (spell (gY op)):=by
 obtain rfl|rfl|rfl|rfl|rfl|rfl|rfl|rfl:op=20∨op=21∨op=22∨op=23∨op=24∨op=25∨op=26∨op=27:=by omega
 all_goals rfl
def YF(u:Nat)(h:u<18446744073709551616):jP ([(IntKind.u8.wrap (IntKind.u64.wrap (48+(Int.tmod (u:Int) 10))))]:List Int)=[UInt8.ofNat (48+u % 10)]∧mZ ([(IntKind.u8.wrap (IntKind.u64.wrap (48+(Int.tmod (u:Int) 10))))]:List Int)=true:=by
 have:IntKind.u8.wrap (IntKind.u64.wrap (48+(Int.tmod (u:Int) 10)))=((48+u % 10:Nat):Int):=by
  rw [Int.tmod_eq_emod_of_nonneg (by omega),IntKind.wrap_u64,IntKind.wrap_u8];omega
 rw [this,QF _ (by omega)]
 exact⟨QB _,QC _⟩
def YG(u:Nat)(h:u<18446744073709551616):IntKind.u64.wrap (Int.tdiv (u:Int) 10)=((u / 10:Nat):Int):=by
 rw [Int.tdiv_eq_ediv_of_nonneg (by omega),IntKind.wrap_u64];omega
def aiT(n:Nat)(i:Int)(hi:0≤i):∀(m f u:Nat) (acc:ano),u<18446744073709551616→u<10 ^ m→acc.length+m≤1000000000→(0<u∨acc≠[])→qF n i (m+f+1) (u:Int) acc=some ((if u=0 then[]else Lib.decDigits u)++acc):=by
 intro m;induction m with
 |zero=>
  intro f u acc hu Z ab cx;have h0:u=0:=by simp at Z;omega
  subst h0;have zu:acc≠[]:=by rcases cx with h|h;exact absurd h (by omega);exact h
  have:¬ i<0:=by omega
  simp [qF,tC,HW,zu,this]
 |succ m aF=>
  intro f u acc hu Z ab cx;rw [show m+1+f+1=m+f+1+1 by omega,show qF n i (m+f+1+1)=tC n i (qF n i (m+f+1))from rfl]
  simp only [tC,HW];by_cases h0:u=0
  ·subst h0;have zu:acc≠[]:=by rcases cx with h|h;exact absurd h (by omega);exact h
   have:¬ i<0:=by omega
   simp [zu,this]
  ·have hp:(0:Int)<(u:Int):=by omega
   obtain⟨d1,d2⟩:=YF u hu;rw [d1,d2,YG u hu];simp only [hp,am8,am',aM,ani,gc (show 1+acc.length≤9223372036854775807 by omega)]
   rw [aF f (u / 10) _ (by omega) (by rw [Nat.pow_succ]at Z;omega) (by simp;omega) (.inr (by simp))]
   rw [if_neg h0]
   conv=>rhs;rw [Lib.decDigits]
   by_cases h':u<10
   ·rw [dif_pos h',if_pos (by omega),Nat.mod_eq_of_lt h'];rfl
   ·rw [dif_neg h',if_neg (by omega)];simp
def YH(n:Nat)(hn:30≤n)(i:Int)(h0:0≤i)(Z:i≤9223372036854775807):yR n i=some (Lib.decDigits i.toNat):=by
 unfold yR U8;obtain⟨u,rfl⟩:=Int.eq_ofNat_of_zero_le h0;have:¬ (u:Int)<0:=by omega
 simp only [this,am9,am_,ai,qT (show u<18446744073709551616 by omega),anf]
 obtain⟨k,rfl⟩:∃k,n=k+30:=⟨n-30,by omega⟩
 by_cases cx:u=0
 ·subst cx;rw [show qF (k+30) ((0:Nat):Int) (k+30)=tC (k+30) ((0:Nat):Int) (qF (k+30) ((0:Nat):Int) (k+28+1))from rfl]
  obtain⟨d1,d2⟩:=YF 0 (by omega)
  have hs:=gc (n:=([UInt8.ofNat (48+0 % 10)]:ano).length+([]:ano).length) (by decide)
  simp only [tC,d1,d2,YG 0 (by omega),hs,aM]
  rw [show qF (k+30) ((0:Nat):Int) (k+28+1)=tC (k+30) ((0:Nat):Int) (qF (k+30) ((0:Nat):Int) (k+28))from rfl]
  simp [tC,HW,Lib.decDigits]
 ·have:=aiT (k+30) (u:Int) h0 20 (k+9) u [] (by omega) (by omega) (by simp) (.inl (by omega))
  rw [if_neg cx,List.append_nil,show 20+(k+9)+1=k+30 by omega]at this;exact this
def aiU(n:Nat)(s:ano)(hs:s.length≤4611686018427387904):∀m i,s.length<i+m→i≤s.length→CJ n s m (i:Int)=some ((s.drop i).all okB):=by
 intro m;induction m with
 |zero=>intro i h aa;omega
 |succ m aF=>
  intro i hm hi;simp only [CJ,Vb,Va];by_cases h:i<s.length
  ·rw [eS s i 0 h,bg (by omega),aF (i+1) (by omega) (by omega)]
   simp only [h,b3 h,anf,ang,am8,am',aM,anl,List.all_cons,qM,f',eo,y9];cases okB (s.getD i 0)<;>simp
  ·rw [gi s i h];simp [h]
def YI{n:Nat}(s:ano)(h:s.length<n)(hs:s.length≤4611686018427387904):Vc n s=some (s.all okB):=by
 have:=aiU n s hs n 0 (by omega) (by omega)
 rw [List.drop_zero]at this;exact this
def take_one(s:ano)(i:Nat)(h:i<s.length):(s.take (i+1)).drop i=[s.getD i 0]:=by
 rw [List.drop_take,eS s i 0 h];simp
def aiV(n:Nat)(s:ano)(hs:s.length≤64):∀m i,s.length<i+m→i≤s.length→HY n s m (34::fS (s.take i)) (i:Int)=some (quo s,0):=by
 intro m;induction m with
 |zero=>intro i h aa;omega
 |succ m aF=>
  intro i hm hi;simp only [HY,Vf,Vd,Ve,OB];have hlen:=wA (s.take i);have Dl:(s.take i).length≤i:=by simp;omega
  by_cases h:i<s.length
  ·(rw [bg (by omega)];simp only [anf];rw [take_one s i h])
   have hn:=aF (i+1) (by omega) (by omega)
   have aB:s.take (i+1)=s.take i++[s.getD i 0]:=by
    rw [List.take_add,eS s i 0 h,List.take_succ_cons,List.take_zero]
   rw [aB,Jd]at hn;generalize s.getD i 0=c at hn
   simp only [h,b3 h,ang,am8,am',aM,anl,fi,eo,Dg (show i≤i+1 by omega) (show i+1≤s.length by omega)]
   by_cases hc:c.toNat=34∨c.toNat=92
   ·have hb:(decide (c.toNat=34)||decide (c.toNat=92))=true:=by rcases hc with hc|hc<;>rw [decide_eq_true hc]<;>simp
    rw [hb];simp only [am'];rw [gc (by simp only [anc,ane];omega),gc (by simp only [anh,anc,ane];omega)]
    simp only [aM];rw [show(34::fS (s.take i)++[92]++[c])=34::(fS (s.take i)++fS [c])by simp only [fS];rw [if_pos hc];simp]
    exact hn
   ·have hb:(decide (c.toNat=34)||decide (c.toNat=92))=false:=by rw [decide_eq_false (λe=>hc (Or.inl e)),decide_eq_false (λe=>hc (Or.inr e))];rfl
    rw [hb];simp only [am_];rw [gc (by simp only [anc,ane];omega)]
    simp only [aM];rw [show(34::fS (s.take i)++[c])=34::(fS (s.take i)++fS [c])by simp only [fS];rw [if_neg hc];simp]
    exact hn
  ·have Qm:i=s.length:=by omega
   subst Qm;simp only [ang,Nat.lt_irrefl,am9,am_,List.take_length];have ab:=wA s;rw [gc (by simp only [anc,ane];omega)]
   rfl
def aiW{n:Nat}(s:ano)(h:iC s=true)(hn:100<n):OC n s=some (quo s,0):=by
 unfold iC at h;simp only [Bool.and_eq_true,decide_eq_true_eq]at h;unfold OC;simp only [f',show¬ 64<s.length by omega,am9,am_,YI s (show s.length<n by omega) (by omega),ai,h.1,ana]
 exact aiV n s (by omega) n 0 (by omega) (by omega)
open Go Go.Ab Go.Proofs
def aiX(n:Nat):lH (n+1)=OH n (lH n) (yU n):=rfl
def aiY(n:Nat):yU (n+1)=OI n (lH n) (yU n):=rfl
def DI{n:Nat}{e:Expr}{k:Nat}(h:lH n e=some (flat (cI e)))(ab:(flat (cI e)).length≤100000000):yU (n+1) e (k:Int)=some (flat (hV e.Op (cI e) k)):=by
 rw [aiY];unfold OI hV;rw [YD,h];simp only [ai,ang];by_cases hk:dt e.Op<k
 ·simp only [hk,am8,am',anm];rw [gx (by simp;omega),gx (by simp;omega)]
  simp only [aM,flat,ob,spell,cp];simp
 ·simp only [hk,am9,am_,ann]
def aiZ:∀(h:Nat) (e:Expr) (n:Nat),ho e≤h→ia e→2*h+200≤n→cm e≤1000000→lH n e=some (flat (cI e)):=by
 intro h;induction h with
 |zero=>intro e n he;rw [Dz]at he;omega
 |succ h aF=>
  intro e n he dD hn IV;obtain⟨n,rfl⟩:∃j,n=j+1:=⟨n-1,by omega⟩
  obtain⟨n,rfl⟩:∃j,n=j+1:=⟨n-1,by omega⟩
  have nr:=(Jb e).1 dD;have tQ:=pK e;rw [aiX];unfold OH;rw [YD];simp only [ai];rcases Qj e dD with⟨Z,ak⟩|⟨Z,ak⟩|⟨Z,ak⟩|⟨ah,ak⟩|⟨a,ak,ha,bh,fC⟩|⟨a,b,ak,ha,hb,bh,fC⟩
  ·have e2:flat (cI e)=Lib.decDigits e.N.toNat++[]:=by rw [ak];rfl
   rw [YH _ (by omega) e.N (nr.2.1 Z).1 (nr.2.1 Z).2,e2,List.append_nil]
   simp only [Z,am8,am',ai]
  ·have e2:flat (cI e)=quo e.S++[]:=by rw [ak];rfl
   rw [aiW e.S (nr.2.2.2.2.1 Z) (by omega),e2,List.append_nil]
   simp only [Z,show¬ (2:Int)=1 by omega,am8,am9,am',am_,ai]
  ·have e2:flat (cI e)=e.S++[]:=by rw [ak];rfl
   rw [e2,List.append_nil];simp only [Z,show¬ (3:Int)=1 by omega,show¬ (3:Int)=2 by omega,am8,am9,am',am_]
  ·have hw:=zp e.Op;have Qo:=YE (n+1) e.Op (by omega)
   have gQ:dt e.Op=9:=by
    have:e.Op=25∨e.Op=26∨e.Op=27:=by omega
    rcases this with h|h|h<;>rw [h]<;>decide
   have ey:e.ao=[]:=by rw [ak]
   have e2:flat (cI e)=spell (gY e.Op)++([40]++([41]++[])):=by
    generalize e.Op=op at ah ak
    rw [ak];simp only [cI,qR,sh];rw [if_neg (by omega),if_neg (by omega),if_neg (by omega)];rfl
   rw [Qo,e2];simp only [ai];rw [gx (show(spell (gY e.Op)).length+([40,41]:ano).length≤1000000000000 by simp;omega)]
   simp only [gQ,ey,show¬ e.Op=1 by omega,show¬ e.Op=2 by omega,show¬ e.Op=3 by omega,show¬ e.Op=18 by omega,show¬ e.Op=9 by omega,am9,am_,ane,fi,am8,am',aM]
   simp
  ·have DC:cm e=30+(cm a+1):=by rw [ak];simp [cm,jA]
   have pR:=aF a n (by omega) ha (by omega) (by omega)
   have Qp:=aF a (n+1) (by omega) ha (by omega) (by omega)
   have DB:=qb (ho a) a (Nat.le_refl _) ha;have ey:e.ao=[a]:=by rw [ak]
   have aj:=oZ a.Op (cI a) 3;have dI:=oZ a.Op (cI a) 8
   have e2:cI e=if e.Op=18 then some (eM [110,111,116])::none::hV a.Op (cI a) 3 else if e.Op=9 then some (cp [45])::hV a.Op (cI a) 8 else some (gY e.Op)::some (cp [40])::(cI a++[some (cp [41])]):=by
    generalize e.Op=op at fC ak
    rw [ak];simp only [cI,qR,sh];rw [if_neg (by omega),if_neg (by omega),if_neg (by omega)]
   rw [e2,ey];simp only [anc,ane,lI (show 0<0+1 by omega),aM,List.getD_cons_zero,show¬ e.Op=1 by omega,show¬ e.Op=2 by omega,show¬ e.Op=3 by omega,am9,am_]
   by_cases wB:e.Op=18
   ·have:=DI (k:=3) pR (by omega)
    rw [wB];simp only [am8,am',anm,show dt 18=3 from rfl]
    rw [this];simp only [ai];rw [gx (by simp;omega)]
    rfl
   ·by_cases h':e.Op=9
    ·have:=DI (k:=8) pR (by omega)
     rw [h'];simp only [show¬ (9:Int)=18 by omega,am8,am9,am',am_,anm,ann,show dt 9=8 from rfl]
     rw [this];simp only [ai];rw [gx (by simp;omega)]
     rfl
    ·have aiw:20≤e.Op∧e.Op≤24:=by omega
     have gQ:dt e.Op=9:=by
      have:e.Op=20∨e.Op=21∨e.Op=22∨e.Op=23∨e.Op=24:=by omega
      rcases this with h|h|h|h|h<;>rw [h]<;>decide
     have hw:=zp e.Op;rw [YE (n+1) e.Op (by omega),Qp,if_neg wB,if_neg h']
     have e3:flat (some (gY e.Op)::some (cp [40])::(cI a++[some (cp [41])]))=spell (gY e.Op)++([40]++(flat (cI a)++([41]++[]))):=by
      simp only [flat,ob];rfl
     rw [e3];generalize spell (gY e.Op)=W at hw
     simp only [wB,h',gQ,am9,am8,am_,am',ai];rw [gx (show W.length+(0+1)≤1000000000000 by omega),gx (show(W++([40]:ano)).length+(flat (cI a)).length≤1000000000000 by simp;omega),gx (show((W++([40]:ano))++flat (cI a)).length+(0+1)≤1000000000000 by simp;omega)]
     simp only [show((0+1:Nat):Int)=1 from rfl,show¬ (1:Int)=0 by omega,show((9:Nat):Int)=9 from rfl,am8,am9,am',am_,aM]
     simp
  ·have DC:cm e=30+(cm a+1+(cm b+1)):=by rw [ak];simp [cm,jA]
   have pR:=aF a n (by omega) ha (by omega) (by omega)
   have Qq:=aF b n (by omega) hb (by omega) (by omega)
   have DB:=qb (ho a) a (Nat.le_refl _) ha;have Yl:=qb (ho b) b (Nat.le_refl _) hb;have ey:e.ao=[a,b]:=by rw [ak]
   have gQ:=Yg fC;have aix:=Qn e.Op
   have e2:cI e=hV a.Op (cI a) (if dt e.Op=4 then 5 else dt e.Op)++none::some (l9 e.Op)::none::hV b.Op (cI b) (dt e.Op+1):=by
    generalize e.Op=op at fC ak
    rw [ak,Jc fC]
   have aj:=oZ a.Op (cI a) (if dt e.Op=4 then 5 else dt e.Op)
   have dI:=oZ b.Op (cI b) (dt e.Op+1);have wC:=DI (k:=dt e.Op+1) Qq (by omega)
   rw [e2,ey,aiS (n+1) e.Op fC];simp only [anc,ane,lI (show 0<0+1+1 by omega),aM,List.getD_cons_zero,List.getD_cons_succ,show¬ e.Op=1 by omega,show¬ e.Op=2 by omega,show¬ e.Op=3 by omega,show¬ e.Op=18 by omega,show¬ e.Op=9 by omega,am9,am_,fi,show¬ dt e.Op=9 by omega,show aH 1 (0+1+1)=true from rfl]
   by_cases aD:dt e.Op=4
   ·have ro:=DI (k:=5) pR (by omega)
    rw [aD]at wC ⊢;rw [if_pos rfl];rw [if_pos aD]at aj;simp only [am8,am'];rw [show yU (n+1) a 5=_ from ro,show yU (n+1) b 5=_ from wC]
    simp only [ai];rw [aD]at dI;rw [gx (by simp;omega),gx (by simp;omega),gx (by simp;omega),gx (by simp only [anh,anc,ane];omega)]
    simp only [aM,ob,flat];simp
   ·have ro:=DI (k:=dt e.Op) pR (by omega)
    rw [if_neg aD]at aj ⊢;simp only [aD,am9,am_];rw [ro,bg (by omega),wC]
    simp only [ai];rw [gx (by simp;omega),gx (by simp;omega),gx (by simp;omega),gx (by simp only [anh,anc,ane];omega)]
    simp only [aM,ob,flat];simp
open Go Go.Ab Go.Proofs
def ai0(n d:Nat)(hd:d≤100):∀m i,d<i+m→i≤d→HX n (d:Int) m (ind i) (i:Int)=some (ind d):=by
 intro m;induction m with
 |zero=>intro i h aa;omega
 |succ m aF=>
  intro i hm hi;simp only [HX,U',U9,ang];by_cases h:i<d
  ·simp only [h,am8,am'];rw [gc (by rw [DG];simp;omega),bg (by omega),←Qt,aF (i+1) (by omega) (by omega)]
   rfl
  ·simp only [h,am9,am_];rw [show i=d by omega]
def ai1{n d:Nat}(hd:d≤100)(hn:d<n):U_ n (d:Int)=some (ind d):=ai0 n d hd n 0 (by omega) (by omega)
def YJ{n:Nat}{e:Expr}(h:l' e)(hn:300≤n)(bJ:cm e≤1000000):lH n e=some (fU e):=aiZ (ho e) e n (Nat.le_refl _) h.1 (by have:=h.2;omega) bJ
def ai2(n:Nat):tD (n+1)=OJ n (tD n) (CK n):=rfl
def ai3(n:Nat):CK (n+1)=OK n (tD n) (CK n):=rfl
set_option maxHeartbeats 4000000 in
def ai4{n:Nat}{s:Stmt}{d:Nat}(dD:zr s d)(bJ:fst s≤300000)(hn:500≤n)
 (hb:tD n s.Body ((d+1:Nat):Int)=some (ga s.Body (d+1))) (he:tD n s.bx ((d+1:Nat):Int)=some (ga s.bx (d+1))):CK (n+1) s (d:Int)=some (fx s d):=by
 obtain⟨hd,hsh,b7,nr⟩:=(Jf s d).1 dD;have Z:=od _ _ b7;have aa:=od _ _ nr;have hi:=DG d;obtain⟨Op,Name,Max,A,B,Body,bx⟩:=s
 dsimp only at hb he b7 nr Z aa
 have mT:cm A≤300000∧cm B≤300000∧di Body≤300000∧di bx≤300000:=by simp only [fst]at bJ;omega
 obtain⟨f1,f2,f3,f4⟩:=mT;rw [ai3];unfold OK;rw [ai1 (by omega) (by omega)]
 simp only [ai,fI,bg (show d≤4611686018427387904 by omega)]
 have ev:l' A→lH n A=some (fU A)∧(fU A).length≤1200000:=λh=>⟨YJ h (by omega) (by omega),by have:=l_ h;omega⟩
 have cJ:l' B→lH n B=some (fU B)∧(fU B).length≤1200000:=λh=>⟨YJ h (by omega) (by omega),by have:=l_ h;omega⟩
 have aU:gC Name=true→Name.length≤16:=λh=>by obtain⟨_,_,_,_,_,_,h⟩:=Yd h;exact h
 have cF:0≤Max∧Max≤999→yR n Max=some (Lib.decDigits Max.toNat)∧(Lib.decDigits Max.toNat).length≤21:=λh=>⟨YH n (by omega) Max h.1 (by omega),zo Max h.1 (by omega)⟩
 unfold fx;unfold DE at hsh;simp only at hsh
 rcases hsh with⟨an,ak,AV,ha⟩|⟨ak,ha,p9⟩|⟨an,ak,ha⟩|⟨ak,ha⟩|⟨ak,AV,Lj,ha,p9⟩|⟨ak,Lj⟩
 ·obtain⟨aW,a2⟩:=ev ha;have a3:=aU AV;rcases an with rfl|rfl
  ·simp (disch:=first|omega|(simp only [anh,anc,ane];omega)) only [aW,decide_true,cond_true,ai,gc,aM,if_true,dP,cat]
   simp
  ·simp (disch:=first|omega|(simp only [anh,anc,ane];omega)) only [aW,show¬ (2:Int)=1 by omega,decide_true,decide_false,cond_false,if_false,cond_true,ai,gc,aM,if_true,dP,cat]
   simp
 ·cases ak;obtain⟨aW,a2⟩:=ev ha;obtain⟨cG,gz⟩:=cJ p9;simp (disch:=first|omega|(simp only [anh,anc,ane];omega)) only [aW,cG,show¬ (3:Int)=1 by omega,show¬ (3:Int)=2 by omega,decide_true,decide_false,cond_false,if_false,cond_true,ai,gc,aM,if_true,dP,cat]
  simp
 ·obtain⟨aW,a2⟩:=ev ha;rcases an with rfl|rfl<;>simp (disch:=first|omega|(simp only [anh,anc,ane];omega)) only [aW,show¬ (4:Int)=1 by omega,show¬ (4:Int)=2 by omega,show¬ (4:Int)=3 by omega,show¬ (7:Int)=1 by omega,show¬ (7:Int)=2 by omega,show¬ (7:Int)=3 by omega,show¬ (7:Int)=4 by omega,show¬ (7:Int)=5 by omega,show¬ (7:Int)=6 by omega,decide_true,decide_false,cond_false,if_false,cond_true,ai,gc,aM,if_true,dP,cat]<;>simp
 ·cases ak;obtain⟨aW,a2⟩:=ev ha;have bU:¬ (5:Int)=1∧¬ (5:Int)=2∧¬ (5:Int)=3∧¬ (5:Int)=4∧¬ (5:Int)=7∧¬ (5:Int)=8∧¬ (5:Int)=6:=by omega
  obtain⟨e1,e2,e3,gk,pL,Jj,qP⟩:=bU;by_cases cx:bx.length=0
  ·simp (disch:=first|omega|(simp only [anh,anc,ane];omega)) only [aW,hb,e1,e2,e3,gk,qP,pL,Jj,cx,H2,Int.lt_irrefl,show¬ ((0:Int)<((0:Nat):Int))by omega,decide_true,decide_false,cond_false,if_false,cond_true,ai,gc,aM,if_true,dP,cat]
   simp
  ·have hp:(0:Int)<((bx.length:Nat):Int):=by omega
   simp (disch:=first|omega|(simp only [anh,anc,ane];omega)) only [aW,hb,he,hp,e1,e2,e3,gk,qP,pL,Jj,cx,H2,decide_true,decide_false,cond_false,if_false,cond_true,ai,gc,aM,if_true,dP,cat]
   simp
 ·cases ak;obtain⟨aW,a2⟩:=ev ha;obtain⟨cG,gz⟩:=cJ p9;obtain⟨m1,m2⟩:=cF ⟨by omega,by omega⟩
  have a3:=aU AV;have bU:¬ (6:Int)=1∧¬ (6:Int)=2∧¬ (6:Int)=3∧¬ (6:Int)=4∧¬ (6:Int)=7∧¬ (6:Int)=8∧¬ (6:Int)=5:=by omega
  obtain⟨e1,e2,e3,gk,pL,Jj,lU⟩:=bU;simp (disch:=first|omega|(simp only [anh,anc,ane];omega)) only [aW,cG,m1,hb,e1,e2,e3,gk,lU,pL,Jj,decide_true,decide_false,cond_false,if_false,cond_true,ai,gc,aM,if_true,dP,cat]
  simp
 ·cases ak;obtain⟨m1,m2⟩:=cF ⟨by omega,by omega⟩
  have bU:¬ (8:Int)=1∧¬ (8:Int)=2∧¬ (8:Int)=3∧¬ (8:Int)=4∧¬ (8:Int)=7∧¬ (8:Int)=5∧¬ (8:Int)=6:=by omega
  obtain⟨e1,e2,e3,gk,pL,lU,qP⟩:=bU;simp (disch:=first|omega|(simp only [anh,anc,ane];omega)) only [m1,e1,e2,e3,gk,lU,qP,pL,decide_true,decide_false,cond_false,if_false,cond_true,ai,gc,aM,if_true,dP,cat]
  simp
open Go Go.Ab Go.Proofs
def ai5:∀(n:Nat) (l:List Stmt) (d:Nat),lf l d→di l≤300000→2*di l+600≤n→tD n l (d:Int)=some (ga l d):=by
 intro n;induction n using Nat.strongRecOn with
 |_ n aF=>
  intro l d dD bJ hn;obtain⟨n,rfl⟩:∃k,n=k+2:=⟨n-2,by omega⟩
  have hlen:=wu l;rw [ai2];unfold OJ
  have gD:∀m i,l.length<i+m→i≤l.length→H0 (n+1) (tD (n+1)) (CK (n+1)) l (d:Int) m (ga (l.take i) d) (i:Int)=some (ga l d):=by
   intro m;induction m with
   |zero=>intro i Z aa;omega
   |succ m jk=>
    intro i Z aa;simp only [H0,Vi,Vh,ang,anf,iT];by_cases hi:i<l.length
    ·simp only [hi,am8,am',b3 hi,aM];have cS:=Qu l i d hi dD;have qN:lf (l.take i) d:=((Qv (l.take i) (l.drop i) d).1 (by rw [List.take_append_drop];exact dD)).1
     have pm:=od _ _ qN
     have AY:di l=di (l.take i)+(fst (l.getD i default)+1+di (l.drop (i+1))):=by
      have:di l=di (l.take i++l.drop i):=by rw [List.take_append_drop]
      rw [IY,eS l i default hi]at this;simpa only [di]using this
     have f0:=jk (i+1) (by omega) (by omega)
     rw [t8 l i hi,Qw]at f0;generalize l.getD i default=s at cS AY f0
     have hx:=Yr s d cS;have tQ:=fst_eq s;obtain⟨_,_,ai6,QJ⟩:=(Jf s d).1 cS;have hb:=aF n (by omega) s.Body (d+1) ai6 (by omega) (by omega)
     have he:=aF n (by omega) s.bx (d+1) QJ (by omega) (by omega)
     rw [ai4 cS (by omega) (by omega) hb he,ai,gc (by omega),aM,bg (by omega)]
     simpa only [ga,List.append_nil]using f0
    ·simp only [hi,am9,am_];rw [List.take_of_length_le (by omega)]
  exact gD (n+1) 0 (by omega) (by omega)
open Go Go.Ab Go.Proofs
def ai7(n:Nat)(t:Int):Vk n t=some (qS t):=Yw n t
def YK(x:ano):∀l:List ano,Lib.joinTail [44,32] (l++[x])=Lib.joinTail [44,32] l++([44,32]++x)
 |[]=>by simp [Lib.joinTail]
 |y::l=>by rw [List.cons_append,Qz,Qz,YK x l];simp
def ai8(x:ano)(l:List ano):Lib.join (l++[x]) [44,32]=(if l.length=0 then Lib.join l [44,32]else Lib.join l [44,32]++[44,32])++x:=by
 cases l with
 |nil=>simp [Lib.join,Lib.joinTail]
 |cons y l=>rw [List.cons_append,Lib.join_cons,Lib.join_cons,YK,if_neg (by simp)];simp
def ai9{n:Nat}(p:aZ)(hi:zq p)(am:mI p=0)(hn:3000000≤n)(bJ:fw p.Params≤300000)(cJ:di p.Body≤300000):CL n p=some (oe p):=by
 have hp:=Qr hi am;obtain⟨Z,aa,aj⟩:=hp;obtain⟨aD,aV⟩:=Qx aa;have dF:=oc Z;have dI:=od p.Body 1 aj;unfold CL;rw [Qg p (by omega) (by omega) (by omega) (by omega) (by omega) (by omega) (by omega),am]
 simp only [ai,am8,ana,am_];rw [gc (by simp only [anc,ane];omega),gc (by simp only [anh,anc,ane];omega)]
 simp only [aM]
 have gD:∀m i,p.Params.length<i+m→i≤p.Params.length→H3 n p m ((([112,114,111,99,32]++p.Name)++[40])++o0 (p.Params.take i)) (i:Int)=some (oe p):=by
  intro m;induction m with
  |zero=>intro i g1 g2;omega
  |succ m aF=>
   intro i g1 g2;have YL:(o0 (p.Params.take i)).length≤24*(p.Params.take i).length:=QA λx hx=>aV x (List.mem_of_mem_take hx)
   have ai':(p.Params.take i).length≤6:=by simp;omega
   simp only [H3,Vn,OL,Vm,ang,anf];by_cases hi:i<p.Params.length
   ·have hx:=aV (p.Params.getD i default) (by rw [List.getD_eq_getElem?_getD,List.getElem?_eq_getElem hi];exact List.getElem_mem hi)
    have hnx:=oc hx.1;have YA:=Qy (p.Params.getD i default).fm;have f0:=aF (i+1) (by omega) (by omega)
    unfold o0 at f0 YL ⊢;rw [t8 p.Params i hi,List.map_append]at f0;simp only [List.map_cons,List.map_nil]at f0;rw [ai8]at f0;generalize mq:p.Params.getD i default=x at f0 hnx YA
    simp only [hi,am8,am',b3 hi,aM,ai7,ai,bg (show i≤4611686018427387904 by omega),f']
    by_cases h0:i=0
    ·subst h0;simp (disch:=first|omega|(simp only [anh,anc,ane];omega)) only [Nat.lt_irrefl,decide_false,cond_false,gc,aM]
     rw [←f0];simp [pS]
    ·simp (disch:=first|omega|(simp only [anh,anc,ane];omega)) only [show 0<i by omega,decide_true,cond_true,gc,aM]
     rw [←f0,if_neg (by rw [List.length_map,List.length_take];omega)];simp [pS]
   ·simp only [hi,am9,am_];obtain rfl:i=p.Params.length:=by omega
    unfold Vl;rw [List.take_length]at YL ai' ⊢;rw [show(1:Int)=((1:Nat):Int)from rfl,ai5 n p.Body 1 aj cJ (by omega)]
    simp (disch:=first|omega|(simp only [anh,anc,ane];omega)) only [ai,gc,aM]
    simp [oe,dP,cat,ind]
 have:=gD n 0 (by omega) (by omega)
 rw [show o0 (p.Params.take 0)=[]from rfl,List.append_nil]at this
 exact this
open Go Go.Ab Go.Proofs
def ai_{β:Type}{L:Nat→Int→Option β}{len:Nat}{chk:Nat→Bool}{no yes:β}
 (step:∀m i,i<len→L (m+1) (i:Int)=if chk i then L m ((i+1:Nat):Int)else some no) (stop:∀m,L (m+1) (len:Int)=some yes):
 ∀m i,len<i+m→i≤len→L m (i:Int)=some (if(List.range' i (len-i)).all chk then yes else no):=by
 intro m;induction m with
 |zero=>intro i h aa;omega
 |succ m aF=>
  intro i h aa;by_cases hi:i<len
  ·rw [step m i hi,aF (i+1) (by omega) (by omega),show len-i=(len-(i+1))+1 by omega,List.range'_succ,List.all_cons]
   cases chk i
   ·rfl
   ·rw [if_pos rfl,Bool.true_and]
  ·obtain rfl:i=len:=by omega
   rw [stop m];simp
def QK{β:Type}{L:Nat→Int→Option β}{len:Nat}{chk:Nat→Bool}{no yes:β}{m:Nat}(hm:len<m)
 (step:∀m i,i<len→L (m+1) (i:Int)=if chk i then L m ((i+1:Nat):Int)else some no) (stop:∀m,L (m+1) (len:Int)=some yes):
 L m 0=some (if(List.range len).all chk then yes else no):=by
 have:=ai_ step stop m 0 (by omega) (by omega)
 rwa [Nat.sub_zero,←List.range_eq_range']at this
def pT(c:UInt8):Bool:=decide (97≤c.toNat∧c.toNat≤122)||decide (48≤c.toNat∧c.toNat≤57)||decide (c.toNat=47)||decide (c.toNat=46)||decide (c.toNat=95)||decide (c.toNat=45)
def ma(k:ano):Bool:=decide (1≤k.length)&&decide (k.length≤24)&&(List.range k.length).all λi=>pT (k.getD i 0)
def aja{n:Nat}{s:ano}(h:24<n):FC n s=some (decide (s.length≤24)&&(List.range s.length).all λi=>pT (s.getD i 0)):=by
 unfold FC;by_cases ab:s.length≤24
 ·simp only [f',show¬ 24<s.length by omega,am9,am_,ab,am8,Bool.true_and]
  rw [QK (L:=xK n s) (len:=s.length) (chk:=λi=>pT (s.getD i 0)) (no:=false) (yes:=true) (by omega)]
  ·cases (List.range s.length).all λi=>pT (s.getD i 0)<;>rfl
  ·intro m i hi;simp only [xK,FB,LV,ang,hi,am8,am',b3 hi,aM,ai,anf,bg (show i≤4611686018427387904 by omega),sb,nn,fi,eo,eT]
   have:(((((decide (97≤(s.getD i 0).toNat)&&decide ((s.getD i 0).toNat≤122)||(decide (48≤(s.getD i 0).toNat)&&decide ((s.getD i 0).toNat≤57)))||decide ((s.getD i 0).toNat=47))||decide ((s.getD i 0).toNat=46))||decide ((s.getD i 0).toNat=95))||decide ((s.getD i 0).toNat=45))=pT (s.getD i 0):=by
    simp [pT,Bool.decide_and]
   rw [this];cases pT (s.getD i 0)<;>rfl
  ·intro m;simp only [xK,FB,LW,ank,am9,am_]
 ·simp only [f',show 24<s.length by omega,am8,am',ab,am9,Bool.false_and]
def Jk{n:Nat}{k:ano}(h:24<n):vm n k=some (ma k):=by
 unfold vm ma;rw [aja h];cases k with
 |nil=>rfl
 |cons c l=>simp [ai]
def ajb(c:Nat):(((((decide (c<97)||decide (122<c))&&(decide (c<48)||decide (57<c))) && !decide (c=47)) && !decide (c=46)) && !decide (c=95) && !decide (c=45)) = !(decide (97≤c∧c≤122)||decide (48≤c∧c≤57)||decide (c=47)||decide (c=46)||decide (c=95)||decide (c=45)):=by
 rw [Bool.eq_iff_iff];simp only [Bool.and_eq_true,Bool.or_eq_true,decide_eq_true_eq,Bool.not_eq_true',Bool.or_eq_false_iff,decide_eq_false_iff_not];omega
def ajc{n:Nat}{k:ano}(h:k.length<n)(hk:k.length≤4611686018427387904):Oj n k=some (ma k):=by
 unfold Oj;rw [QK (L:=CE n k) (len:=k.length) (chk:=λi=>pT (k.getD i 0)) (no:=false) (yes:=decide (1≤k.length)&&decide (k.length≤24)) h]
 ·unfold ma;cases (List.range k.length).all λi=>pT (k.getD i 0)<;>simp
 ·intro m i hi;simp only [CE,Oi,ang,hi,am8,am',b3 hi,aM,anf,bg (show i≤4611686018427387904 by omega),qM,f',fi,eo,eT]
  have:=ajb (k.getD i 0).toNat
  rw [show(decide (97≤(k.getD i 0).toNat∧(k.getD i 0).toNat≤122)||decide (48≤(k.getD i 0).toNat∧(k.getD i 0).toNat≤57)||decide ((k.getD i 0).toNat=47)||decide ((k.getD i 0).toNat=46)||decide ((k.getD i 0).toNat=95)||decide ((k.getD i 0).toNat=45))=pT (k.getD i 0)from rfl]at this
  rw [this];cases pT (k.getD i 0)<;>rfl
 ·intro m;simp only [CE,Oi,UE,ank,am9,am_,sb,nn,eT]
open Go Go.Ab Go.Proofs
def YM(n:Nat)(s:ano):∀m,Be n s m=xW n s m
 | 0=>rfl
 |m+1=>by
  show LZ n s (Be n s m)=_
  rw [YM n s m];rfl
def YN{n:Nat}{s:ano}(h:s.length<n)(hs:s.length≤4611686018427387904):Bf n s=some (iC s):=by
 unfold Bf;rw [YM];exact W_ h hs
def YO(n:Nat)(s:ano):∀m,HK n s m=CJ n s m
 | 0=>rfl
 |m+1=>by
  show UF n s (HK n s m)=_
  rw [YO n s m];rfl
def ajd{n:Nat}{s:ano}(h:s.length<n)(hs:s.length≤4611686018427387904):Ok n s=some (iC s):=by
 unfold Ok iC;by_cases ab:s.length≤64
 ·simp only [f',show¬ 64<s.length by omega,am9,am_,ab,am8,Bool.and_true]
  rw [YO];exact YI s h hs
 ·simp only [f',show 64<s.length by omega,am8,am',ab,am9,Bool.and_false]
def ku(v:br):Bool:=if v.Kind=0 then decide (v.N=0)&&decide (v.S=[])else if v.Kind=1 then decide (v.S=[])else decide (v.Kind=2)&&decide (v.N=0)&&iC v.S
def Jl{n:Nat}{v:br}(h:v.S.length<n)(hs:v.S.length≤4611686018427387904):rI n v=some (ku v):=by
 unfold rI ku;by_cases h0:v.Kind=0
 ·simp [h0]
 ·by_cases Z:v.Kind=1
  ·simp [Z]
  ·by_cases aa:v.Kind=2
   ·by_cases aj:v.N=0
    ·simp [aa,aj,YN h hs]
    ·simp [aa,aj]
   ·simp [h0,Z,aa]
def aje{n:Nat}{v:br}(h:v.S.length<n)(hs:v.S.length≤4611686018427387904):Ol n v=some (ku v):=by
 unfold Ol ku;by_cases h0:v.Kind=0
 ·by_cases aj:v.N=0<;>simp [h0,aj]
 ·by_cases Z:v.Kind=1
  ·simp [Z]
  ·by_cases aa:v.Kind=2
   ·by_cases aj:v.N=0
    ·simp [aa,aj,ajd h hs]
    ·simp [aa,aj]
   ·simp [h0,Z,aa]
def cO(v:br):ano:=if v.Kind=1 then eD 1++mJ v.N else if v.Kind=2 then eD 2++fV v.S else eD 0
def QL{n:Nat}{v:br}(hn:10≤n)(aU:h8 v.N)(hs:v.S.length≤4611686018427387904):vn n v=some (cO v):=by
 have Z:=Ji aU;have aa:=QI hs;have g':=nv (u:=1) (by omega)
 have jK:=nv (u:=2) (by omega)
 have bU:hf n 0=some (eD 0):=uc (u:=0) hn (by omega)
 have e1:hf n 1=some (eD 1):=uc (u:=1) hn (by omega)
 have e2:hf n 2=some (eD 2):=uc (u:=2) hn (by omega)
 unfold vn cO;by_cases db:v.Kind=1
 ·simp (disch:=omega) only [db,decide_true,cond_true,e1,ai,wG hn aU,gc,aM,if_true]
 ·by_cases al:v.Kind=2
  ·simp (disch:=omega) only [al,show¬ (2:Int)=1 by omega,decide_true,decide_false,cond_true,cond_false,e2,ai,ud hn hs,gc,aM,if_true,if_false]
  ·simp only [db,al,am9,am_,bU,ai,ann]
def ajf{v:br}(aU:h8 v.N)(hs:v.S.length≤4611686018427387904):(cO v).length≤v.S.length+20:=by
 have Z:=Ji aU;have aa:=QI hs;have l0:=nv (u:=0) (by omega)
 have g':=nv (u:=1) (by omega)
 have jK:=nv (u:=2) (by omega)
 unfold cO;split
 ·simp;omega
 ·split
  ·simp;omega
  ·omega
open Go Go.Ab Go.Proofs
def YP:∀(l:ano) (u:Nat),l.all iR=true→val u l<(u+1)*10 ^ l.length
 |[],u,_=>by simp [IJ]
 |c::l,u,h=>by
  simp only [List.all_cons,Bool.and_eq_true,tS]at h;have:=YP l (u*10+(c.toNat-48)) h.2
  rw [IK,anc,Nat.pow_succ];have aa:(u*10+(c.toNat-48)+1)*10 ^ l.length≤((u+1)*10)*10 ^ l.length:=Nat.mul_le_mul_right _ (by omega)
  rw [Nat.mul_assoc,Nat.mul_comm 10]at aa;omega
def YQ:∀(k u:Nat),u<10 ^ (k+1)→(Lib.decDigits u).length≤k+1
 | 0,u,h=>by
  rw [Yc,if_pos (by simpa using h)];simp
 |k+1,u,h=>by
  rw [Yc];by_cases hu:u<10
  ·rw [if_pos hu];simp
  ·rw [if_neg hu];have:=YQ k (u / 10) (by rw [Nat.pow_succ]at h;omega)
   simp only [anh,anc,ane];omega
def QM:∀(l acc:ano) (p:ano×Nat),fj l acc = .inr p→acc.all okB=true→acc.length≤64→p.1.all okB=true∧p.1.length≤64∧(fS p.1).length+1≤(fS acc).length+p.2
 |[],acc,p,h,_,_=>by simp only [fj,reduceCtorEq]at h
 |[c],acc,p,h,ha,ab=>by
  simp only [fj]at h;split at h
  ·obtain rfl:=Sum.inr.inj h;exact⟨ha,ab,Nat.le_refl _⟩
  ·(repeat' split at h)<;>cases h
 |c::d::l,acc,p,h,ha,ab=>by
  simp only [fj]at h;split at h
  ·obtain rfl:=Sum.inr.inj h;exact⟨ha,ab,Nat.le_refl _⟩
  ·rename_i f_;split at h
   ·rename_i l4;split at h
    ·cases h
    ·rename_i hd;split at h
     ·cases h
     ·rename_i n8;cases ak:fj l (acc++[d]) with
      |inl e=>rw [ak]at h;cases h
      |inr q=>
       rw [ak]at h;obtain rfl:=Sum.inr.inj h;have iY:d.toNat=34∨d.toNat=92:=by omega
       have ajg:okB d=true:=by
        unfold okB;rcases iY with e|e<;>rw [e]<;>rfl
       obtain⟨Z,aa,aj⟩:=QM l (acc++[d]) q ak (by simp [ha,ajg]) (by simp;omega)
       refine⟨Z,aa,?_⟩
       rw [Jd,anh]at aj;have:(fS [d]).length=2:=by simp only [fS];rw [if_pos iY];rfl
       simp only;omega
   ·rename_i l4;split at h
    ·cases h
    ·rename_i dD;split at h
     ·cases h
     ·rename_i n8;cases ak:fj (d::l) (acc++[c]) with
      |inl e=>rw [ak]at h;cases h
      |inr q=>
       rw [ak]at h;obtain rfl:=Sum.inr.inj h;obtain⟨Z,aa,aj⟩:=QM (d::l) (acc++[c]) q ak (by simp [ha];simpa using dD) (by simp;omega)
       refine⟨Z,aa,?_⟩
       rw [Jd,anh]at aj;have:(fS [c]).length=1:=by simp only [fS];rw [if_neg (by omega)];rfl
       simp only;omega
termination_by l=>l.length
def ajh(s:ano)(hs:s≠[])(h:(fG s).2.2=0):lK (fG s).1∧(spell (fG s).1).length≤(fG s).2.1:=by
 have hm:=PQ s 0 hs h;cases s with
 |nil=>exact absurd rfl hs
 |cons c t=>
  unfold fG at h hm ⊢;simp only at h hm ⊢
  split at h
  ·rename_i hw;rw [if_pos hw]at hm ⊢
   have wl:1≤gg (c::t)∧gg (c::t)≤(c::t).length:=by
    unfold gg;rw [List.takeWhile_cons_of_pos hw];have:=(List.takeWhile_sublist (p:=hO) (l:=t)).length_le
    simp only [anc];omega
   have hlen:((c::t).take (gg (c::t))).length=gg (c::t):=by rw [List.length_take];omega
   simp only at h ⊢
   generalize (c::t).take (gg (c::t))=w at h hlen
   cases w with
   |nil=>simp at hlen;omega
   |cons d w=>
    unfold oX at h ⊢;simp only at h ⊢
    split at h
    ·rename_i bm;rw [if_pos bm];split at h
     ·rename_i hk;rw [if_pos hk];exact⟨⟨rfl,Or.inr (Or.inl ⟨rfl,of_decide_eq_true hk,rfl⟩)⟩,by show(d::w).length≤_;omega⟩
     ·rename_i hk;rw [if_neg hk];split at h
      ·rename_i hn;rw [if_pos hn];exact⟨⟨rfl,Or.inl ⟨rfl,hn,rfl⟩⟩,by show(d::w).length≤_;omega⟩
      ·simp at h
    ·rename_i bm;rw [if_neg bm];split at h
     ·rename_i hn;rw [if_pos hn];unfold oW at hn ⊢;split at hn
      ·rename_i hd;rw [if_pos hd];split at hn
       ·rename_i am;rw [if_pos am];refine⟨⟨rfl,Or.inr (Or.inr (Or.inl ⟨rfl,rfl,by simp,by simp only;omega⟩))⟩,?_⟩
        show(Lib.decDigits (Int.toNat ((val 0 (d::w):Nat):Int))).length≤_
        (simp only [anf])
        have aji:=YP (d::w) 0 hd.1;have:=YQ w.length (val 0 (d::w)) (by simpa using aji)
        simp only [anc]at hlen;omega
       ·simp at hn
      ·simp at hn
     ·rename_i hn;simp only at h
      exact absurd h hn
  ·rename_i hw;rw [if_neg hw]at hm ⊢;split at h
   ·rename_i f_;rw [if_pos f_]at hm ⊢;cases ak:fj t [] with
    |inl e=>
     rw [ak]at h;exact absurd h (zb _ _ _ ak)
    |inr p=>
     obtain⟨Z,aa,aj⟩:=QM t [] p ak rfl (by simp)
     refine⟨⟨rfl,Or.inr (Or.inr (Or.inr (Or.inl ⟨rfl,by
      show iC p.1=true
      unfold iC;rw [Z,decide_eq_true aa];rfl,rfl⟩)))⟩,?_⟩
     show(quo p.1).length≤p.2+1
     unfold quo;simp only [fS,ane]at aj;simp only [anc,anh,ane];omega
   ·rename_i f_;rw [if_neg f_]at hm ⊢;split at h
    ·simp at h
    ·rename_i xx;rw [if_neg xx]at hm ⊢;exact⟨⟨rfl,Or.inr (Or.inr (Or.inr (Or.inr ⟨rfl,hm rfl,rfl⟩)))⟩,Nat.le_refl _⟩
open Go Go.Ab Go.Proofs
def cE:List Token→Nat
 |[]=>0
 |t::l=>(spell t).length+cE l
def lh:∀l m:List Token,cE (l++m)=cE l+cE m
 |[],m=>by simp [cE]
 |t::l,m=>by simp only [List.cons_append,cE,lh l m];omega
def sl{α:Type}[Inhabited α]{l:List α}{i:Nat}(h:i<l.length):l.getD i default∈l:=by
 rw [List.getD_eq_getElem?_getD,List.getElem?_eq_getElem h];exact List.getElem_mem h
def bi(l:List Token)(i:Nat):Nat:=cE (l.take i)
def bA{α β:Type}(Q:α→β→Prop)(p:Option (ax α β)):Prop:=∀a z,p=some (.ret a z)→Q a z
def bA.ret{α β:Type}{Q:α→β→Prop}{a:α}{z:β}(h:Q a z):bA Q (some (.ret a z)):=λdc DJ e=>by cases e;exact h
def bA.az{α β:Type}{Q:α→β→Prop}{x:V}{z:β}:bA Q (some (.az x z)):=λdc DJ e=>by cases e
def bA.none{α β:Type}{Q:α→β→Prop}:bA Q none:=λdc DJ e=>by cases e
def bA.bind{α β dm gT:Type}{Q:α→β→Prop}{R:dm→gT→Prop}{p:Option (ax α β)}{f:α→β→Option (ax dm gT)}{h:V→β→Option (ax dm gT)}(hp:bA Q p)(bJ:∀a z,Q a z→bA R (f a z))(bh:∀x z,bA R (h x z)):
 bA R (Option.bind p λr=>ax.on r f h):=by
 match p,hp with
 |.none,_=>exact .none
 |some (.ret a z),hp=>exact bJ a z (hp a z rfl)
 |some (.az x z),_=>exact bh x z
def bA.bif{dm gT:Type}{R:dm→gT→Prop}{c:Bool}{p q:Option (ax dm gT)}(Z:c=true→bA R p)(aa:c=false→bA R q):bA R (bif c then p else q):=by cases c;exact aa rfl;exact Z rfl
def bA.aq{dm gT:Type}{R:dm→gT→Prop}{c:Bool}{p:Option (ax dm gT)}(Z:bA R p):bA R (Go.Ab.aq c p):=by cases c;exact .none;exact Z
section
variable {l:List Token}
theorem sm(i:Nat)(h:i<l.length):bi l (i+1)=bi l i+(spell (l.getD i default)).length:=by
 unfold bi;rw [t8 l i h,lh];simp [cE]
theorem hr{i:Nat}{w:ano}(h:bk l i w=true):i<l.length∧bi l (i+1)=bi l i+w.length:=by
 have hi:=gq h;refine⟨hi,?_⟩
 unfold bk at h;simp only [Bool.and_eq_true,Bool.or_eq_true,decide_eq_true_eq]at h;rw [sm i hi];unfold spell;rw [if_neg (by omega),if_neg (by omega),h.2.2]
theorem YR(n:Nat)(c:Int)(i:Nat)(ab:l.length≤1000000000):bA (λ_ _=>False) (Hn n c ⟨l,(i:Int)⟩):=by
 rw [PR n l i c (by omega)];exact .az
theorem nw(n:Nat)(w:ano)(i:Nat)(ab:l.length≤1000000000)(hi:i≤l.length):bA (λ_ z=>z=((i+1:Nat):Int)∧bk l i w=true) (ii n w ⟨l,(i:Int)⟩):=by
 rw [np n l i w (by omega) (by omega)]
 cases h:bk l i w
 ·exact .az
 ·exact .ret ⟨rfl,rfl⟩
theorem QN(n:Nat)(d:Int)(b:aJ):bA (λ_ _=>True) (rW n d b):=λ_ _ _=>trivial
theorem zv(n:Nat)(eA:Int)(i:Nat)(ab:l.length≤1000000000)(hi:i≤l.length):bA (λt z=>z=((i+1:Nat):Int)∧i<l.length∧t=l.getD i default∧t.Kind=eA) (m8 n eA ⟨l,(i:Int)⟩):=by
 rw [zf n l i eA ab hi];split
 ·rename_i h;exact .ret ⟨rfl,h.1,rfl,h.2⟩
 ·exact .az
theorem ajj{i:Nat}(h:(gW l i).1≠0):bk l i (spell (l9 (gW l i).2))=true∧((dt (gW l i).2:Nat):Int)=(gW l i).1∧(4≤(gW l i).2∧(gW l i).2≤8∨10≤(gW l i).2∧(gW l i).2≤17∨(gW l i).2=19):=by
 have pr:∀r,r∈fH→spell (l9 r.2.2)=r.1∧((dt r.2.2:Nat):Int)=r.2.1∧(4≤r.2.2∧r.2.2≤8∨10≤r.2.2∧r.2.2≤17∨r.2.2=19):=by decide
 unfold gW at h ⊢;cases ak:fH.find? (λr=>bk l i r.1) with
 |none=>rw [ak]at h;exact absurd rfl h
 |some r=>
  have Z:=pr r (List.mem_of_find?_eq_some ak);have aa:=List.find?_some ak;simp only [wm];exact⟨by rw [Z.1];exact aa,Z.2⟩
theorem ajk{i:Nat}(h:ld l i≠0):bk l i (spell (gY (ld l i)))=true∧20≤ld l i∧ld l i≤27:=by
 have pr:∀r,r∈hU→spell (gY r.2)=r.1∧20≤r.2∧r.2≤27:=by decide
 unfold ld at h ⊢;cases ak:hU.find? (λr=>bk l i r.1) with
 |none=>rw [ak]at h;exact absurd rfl h
 |some r=>
  have Z:=pr r (List.mem_of_find?_eq_some ak);have aa:=List.find?_some ak;simp only [call2];exact⟨by rw [Z.1];exact aa,Z.2⟩
theorem wH(e:Expr)(k:Nat):cE (iU e k)=cE (gZ e)+if dt e.Op<k then 2 else 0:=by
 unfold iU hV;split
 ·have Z:(spell (cp [40])).length=1:=rfl;have aa:(spell (cp [41])).length=1:=rfl;have aj:cE (gZ e)=cE (kt (cI e)):=rfl;simp only [kt,Dy,cE,lh,Z,aa,aj];omega
 ·rfl
theorem QO(e:Expr){j k:Nat}(h:j≤k):cE (iU e j)≤cE (iU e k):=by
 rw [wH,wH];split<;>split<;>omega
def og(l:List Token)(i bH:Nat)(e:Expr)(z:Int):Prop:=∃k:Nat,z=(k:Int)∧i≤k∧k≤l.length∧ns e∧bi l i+cE (iU e bH)≤bi l k
theorem og.mono{i j bH YS:Nat}{e:Expr}{z:Int}(h:og l j bH e z)(hi:i≤j)(hp:bi l i≤bi l j)(gQ:YS≤bH):og l i YS e z:=by
 obtain⟨k,Z,aa,aj,aD,aV⟩:=h;have:=QO e gQ
 exact⟨k,Z,by omega,aj,aD,by omega⟩
end
end Go.Ab.Y

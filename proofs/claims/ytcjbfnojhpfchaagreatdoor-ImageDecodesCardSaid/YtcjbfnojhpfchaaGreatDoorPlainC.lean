/- The plain law: what the functions compute answers as the statement says. -/
import Derived.Test.YtcjbfnojhpfchaaGreatDoorPlainB
set_option linter.all false
namespace Go.Ab.Y
open Go Go.Ab Go.Proofs
section
variable {l:List Token}
theorem aok{op:Int}{a b:Expr}{b1:Nat}(hH:dW op=b1)(h:4≤op∧op≤8∨10≤op∧op≤17∨op=19):c7 (hO ⟨op,0,[],[a,b]⟩)=c7 (jD a (if b1=4 then 5 else b1))+(spell (mL op)).length+c7 (jD b (b1+1)):=by
 unfold hO;rw [ano h,l1,hH];have Z:c7 (mL op::jD b (b1+1))=(spell (mL op)).length+c7 (jD b (b1+1)):=rfl;show c7 (jD a (if b1=4 then 5 else b1))+c7 (mL op::jD b (b1+1))=_
 omega
def acz(l:List Token)(i:Nat)(e:Expr)(z:Int):Prop:=∃k:Nat,z=(k:Int)∧i≤k∧k≤l.length∧nW e∧bI l i+(2+c7 (hO e))≤bI l k
theorem aol(ae:l.length≤1000000000)(hg:kF l)(ax:∀t,t∈l→mm (bZ t)):∀n:Nat,(∀(b1:Nat) (d:Int) (i:Nat),1≤b1→b1≤8→i≤l.length→bX (oP l i b1) (fK n (b1:Int) d ⟨l,(i:Int)⟩))∧
 (∀(op:Int) (b1:Nat) (d:Int) (i:Nat),(op=18∧b1=3∧bL l i [110,111,116]=true∨op=9∧b1=8∧bL l i [45]=true)→bX (oP l i b1) (jx n op (b1:Int) d ⟨l,(i:Int)⟩))∧
 (∀(d:Int) (i:Nat),i≤l.length→bX (oP l i 9) (iR n d ⟨l,(i:Int)⟩))∧(∀(d:Int) (i:Nat),i≤l.length→bX (acz l i) (iz n d ⟨l,(i:Int)⟩)):=by
 intro n;induction n with
 |zero=>exact⟨λ_ _ _ _ _ _=>.none,λ_ _ _ _ _=>.none,λ_ _ _=>.none,λ_ _ _=>.none⟩
 |succ n aR=>
  obtain⟨he,hp,hu,hi⟩:=aR
  have hr:∀(b1:Nat) (d:Int) (i0:Int) (i m k:Nat) (op N:Int) (S:arY) (A:List Expr),1≤b1→b1≤7→i≤k→k≤l.length→nW ⟨op,N,S,A⟩→bI l i+c7 (jD ⟨op,N,S,A⟩ (if b1=4 then 5 else b1))≤bI l k→
   bX (oP l i b1) (w0 n (fK n) (jx n) (iR n) (iz n) (b1:Int) d ⟨l,i0⟩ m (k:Int) op N S A):=by
   intro b1 d i0 i m;induction m with
   |zero=>intro k op N S A _ _ _ _ _ _;exact .none
   |succ m jO=>
    intro k op N S A Z ab aq aN bn cd;simp only [w0,Ji];rw [abg n l k];simp only [an];refine bX.bif (λ_=>.ret ⟨k,rfl,aq,aN,bn,?_⟩) (λhc=>?_)
    ·have:=UQ ⟨op,N,S,A⟩ (show b1≤if b1=4 then 5 else b1 by split<;>omega)
     omega
    ·have hc:(hL l k).1=(b1:Int):=by simpa using hc
     obtain⟨g1,g2,g3⟩:=aoi (l:=l) (i:=k) (by omega)
     obtain⟨g4,g5⟩:=hY g1;have hH:dW (hL l k).2=b1:=by omega
     rw [bx (by omega),bx (by omega)]
     refine bX.bind (he (b1+1) d (k+1) (by omega) (by omega) (by omega)) (λb z hb=>?_) (λx z=>.aK)
     obtain⟨k',rfl,aD,bm,bM,db⟩:=hb;have hk:=aok (a:=⟨op,N,S,A⟩) (b:=b) hH g3;have hin:nW ⟨(hL l k).2,0,[],[⟨op,N,S,A⟩,b]⟩:=⟨by omega,by simp,by simp,bn,bM,trivial⟩
     have Bj:bI l i+c7 (hO ⟨(hL l k).2,0,[],[⟨op,N,S,A⟩,b]⟩)≤bI l k':=by rw [hk];omega
     have ry:∀j,j≤b1→c7 (jD ⟨(hL l k).2,0,[],[⟨op,N,S,A⟩,b]⟩ j)=c7 (hO ⟨(hL l k).2,0,[],[⟨op,N,S,A⟩,b]⟩):=λj hj=>by rw [xS,if_neg (by simp only;omega)];rfl
     refine bX.bif (λ_=>.ret ⟨k',rfl,by omega,bm,hin,by rw [ry b1 (by omega)];exact Bj⟩) (λaom=>?_)
     have aon:b1≠4:=by
      intro e;subst e;simp at aom
     exact jO k' _ 0 [] _ Z ab (by omega) bm hin (by rw [if_neg aon,ry b1 (by omega)];exact Bj)
  refine⟨λb1 d i Z ab aq=>?_,λop b1 d i f9=>?_,λd i aq=>?_,λd i aq=>?_⟩
  ·rw [abi];unfold DE;rw [u2,u2];simp only [an];refine bX.bif (λhc=>?_) (λhc=>bX.bif (λj'=>?_) (λj'=>?_))
   ·obtain rfl:b1=3:=by have:=of_decide_eq_true hc;omega
    refine bX.bif (λhn=>?_) (λhn=>?_)
    ·exact bX.bind (hp 18 3 d i (Or.inl ⟨rfl,rfl,hn⟩)) (λa z ao=>.ret ao) (λx z=>.aK)
    ·exact bX.bind (he 4 d i (by omega) (by omega) aq) (λa z ao=>.ret (ao.mono (Nat.le_refl _) (Nat.le_refl _) (by omega))) (λx z=>.aK)
   ·obtain rfl:b1=8:=by have:=of_decide_eq_true j';omega
    refine bX.bif (λhn=>?_) (λhn=>?_)
    ·exact bX.bind (hp 9 8 d i (Or.inr ⟨rfl,rfl,hn⟩)) (λa z ao=>.ret ao) (λx z=>.aK)
    ·exact bX.bind (hu d i aq) (λa z ao=>.ret (ao.mono (Nat.le_refl _) (Nat.le_refl _) (by omega))) (λx z=>.aK)
   ·have hH:b1≠8:=by intro e;subst e;simp at j'
    rw [bx (by omega)]
    refine bX.bind (he (b1+1) d i (by omega) (by omega) aq) (λa z ao=>?_) (λx z=>.aK)
    obtain⟨k,rfl,aD,bm,bM,db⟩:=ao;refine hr b1 d (i:Int) i n k a.Op a.N a.S a.au Z (by omega) aD bm (by rw [gd];exact bM) ?_
    rw [gd];have:=UQ a (show(if b1=4 then 5 else b1)≤b1+1 by split<;>omega)
    omega
  ·have aL:∃w,bL l i w=true∧(spell (if op=18 then fg [110,111,116]else cM [45])).length=w.length:=by
    rcases f9 with⟨rfl,rfl,h⟩|⟨rfl,rfl,h⟩
    ·exact⟨_,h,rfl⟩
    ·exact⟨_,h,rfl⟩
   obtain⟨w,hw,xC⟩:=aL;obtain⟨g4,g5⟩:=hY hw;show bX (oP l i b1) (zF n (fK n) (jx n) (iR n) (iz n) op (b1:Int) d ⟨l,(i:Int)⟩)
   unfold zF;refine bX.bind (UP n d _) (λdX z _=>?_) (λx z=>.aK)
   rw [bx (by omega)]
   refine bX.bind (he b1 dX (i+1) (by omega) (by omega) (by omega)) (λa z ao=>.ret ?_) (λx z=>.aK)
   obtain⟨k,rfl,aD,bm,bM,db⟩:=ao;refine⟨k,rfl,by omega,bm,⟨by omega,by simp,by simp,bM,trivial⟩,?_⟩
   rcases f9 with⟨rfl,rfl,h⟩|⟨rfl,rfl,h⟩
   ·have Z:c7 (jD ⟨18,0,[],[a]⟩ 3)=(spell (fg [110,111,116])).length+c7 (jD a 3):=rfl;rw [if_pos rfl]at xC;omega
   ·have Z:c7 (jD ⟨9,0,[],[a]⟩ 8)=(spell (cM [45])).length+c7 (jD a 8):=rfl;rw [if_neg (by omega)]at xC
    omega
  ·have F5:∀b:Int,bX (oP l i 9) (sG n (fK n) (jx n) (iR n) (iz n) d ⟨l,b⟩ (i:Int)):=by
    intro b;simp only [sG,DF,DH,mE];rw [T3 n l i hg,u2];simp only [an]
    have aoo:bX (oP l i 9) (Option.bind (sD n d ⟨l,(i:Int)⟩) λb7=>aC.on b7 (λcP bc=>Option.bind (iz n cP ⟨l,(i:Int)⟩) λcb=>aC.on cb (λdK cY=>some (.ret dK cY)) (λsF cY=>some (.aK sF cY))) (λmg bc=>some (.aK mg (i:Int)))):=by
     refine bX.bind (UP n d _) (λdX z _=>?_) (λx z=>.aK)
     refine bX.bind (hi dX i aq) (λa z ao=>.ret ?_) (λx z=>.aK)
     obtain⟨k,rfl,aD,bm,bM,db⟩:=ao;refine⟨k,rfl,aD,bm,bM,?_⟩
     rw [xS];split<;>omega
    refine bX.bif (λhc=>?_) (λhc=>?_)
    ·exact bX.bif (λ_=>bX.bind (acx n 5 i ae) (λ_ _ b5=>b5.elim) (λx z=>.aK)) (λ_=>aoo)
    ·have hc:lX l i≠0:=of_decide_eq_false hc;obtain⟨c1,c2,c3⟩:=aoj hc;obtain⟨c4,c5⟩:=hY c1;generalize lX l i=op at hc c1 c2 c3 c4 c5
     have se:op≤24→bX (oP l i 9) (Option.bind (sD n d ⟨l,(i:Int)⟩) λr26=>aC.on r26 (λr27 nz=>Option.bind (iz n r27 ⟨l,ar0 ((i:Int)+1)⟩) λhJ=>aC.on hJ (λfO kZ=>some (.ret (⟨op,0,[],[fO]⟩:Expr) kZ)) (λsE kZ=>some (.aK sE kZ))) (λDG nz=>some (.aK DG (i:Int)))):=by
      intro f9;refine bX.bind (UP n d _) (λdX z _=>?_) (λx z=>.aK)
      rw [bx (by omega)]
      refine bX.bind (hi dX (i+1) (by omega)) (λa z ao=>.ret ?_) (λx z=>.aK)
      obtain⟨k,rfl,aD,bm,bM,db⟩:=ao;refine⟨k,rfl,by omega,bm,⟨by omega,by simp,by simp,bM,trivial⟩,?_⟩
      have hH:dW op=9:=by
       have:op=20∨op=21∨op=22∨op=23∨op=24:=by omega
       rcases this with rfl|rfl|rfl|rfl|rfl<;>rfl
      rw [xS,if_neg (by simp only [hH];omega)]
      have hk:hO ⟨op,0,[],[a]⟩=hN op::cM [40]::(hO a++[cM [41]]):=by
       have:op=20∨op=21∨op=22∨op=23∨op=24:=by omega
       rcases this with rfl|rfl|rfl|rfl|rfl<;>simp [hO,dc,rB,ta,k7,FSb]
      rw [hk];have s1:(spell (cM [40])).length=1:=rfl;have s2:(spell (cM [41])).length=1:=rfl;simp only [c7,l1,s1,s2];omega
     have xF:25≤op→bX (oP l i 9) (Option.bind (iQ n [40] ⟨l,ar0 ((i:Int)+1)⟩) λen=>aC.on en (λe9 dZ=>Option.bind (iQ n [41] ⟨l,dZ⟩) λde=>aC.on de (λea r24=>some (.ret (⟨op,0,[],[]⟩:Expr) r24)) (λDI r24=>some (.aK DI r24))) (λDJ dZ=>some (.aK DJ dZ))):=by
      intro f9;rw [bx (by omega)]
      refine bX.bind (nZ n _ (i+1) ae (by omega)) (λ_ z cX=>?_) (λx z=>.aK)
      obtain⟨rfl,cX⟩:=cX;obtain⟨e1,e2⟩:=hY cX;refine bX.bind (nZ n _ (i+1+1) ae (by omega)) (λ_ z cX=>.ret ?_) (λx z=>.aK)
      obtain⟨rfl,cX⟩:=cX;obtain⟨e3,gg⟩:=hY (l:=l) cX;refine⟨i+1+1+1,rfl,by omega,by omega,⟨by simp,by simp,by simp,trivial⟩,?_⟩
      have:op=25∨op=26∨op=27:=by omega
      simp only [arN,arO]at e2 gg;rcases this with rfl|rfl|rfl
      ·have:c7 (jD ⟨25,0,[],[]⟩ 9)=(spell (hN 25)).length+2:=rfl
       omega
      ·have:c7 (jD ⟨26,0,[],[]⟩ 9)=(spell (hN 26)).length+2:=rfl
       omega
      ·have:c7 (jD ⟨27,0,[],[]⟩ 9)=(spell (hN 27)).length+2:=rfl
       omega
     refine bX.bif (λxE=>?_) (λxE=>bX.bif (λMx=>?_) (λMx=>bX.bif (λUR=>?_) (λUR=>?_)))
     ·have:op=25:=of_decide_eq_true xE
      exact bX.bif (λ_=>xF (by omega)) (λh=>by rw [xE]at h;cases h)
     ·have:op=26:=of_decide_eq_true Mx
      exact bX.bif (λ_=>xF (by omega)) (λh=>by rw [Mx]at h;cases h)
     ·have:op=27:=of_decide_eq_true UR
      exact xF (by omega)
     ·have g1:op≠25:=of_decide_eq_false xE;have g2:op≠26:=of_decide_eq_false Mx;have g3:op≠27:=of_decide_eq_false UR;exact se (by omega)
   show bX (oP l i 9) (w1 n (fK n) (jx n) (iR n) (iz n) d ⟨l,(i:Int)⟩)
   unfold w1;simp only [arP,arQ];refine bX.bif (λhc=>bX.av ?_) (λ_=>F5 _)
   have hc:i<l.length:=of_decide_eq_true hc;have tg:=ax _ (te hc);have gv:=tf i hc;rw [bx (by omega),show ar0 (((i+1:Nat):Int)-1)=(i:Int)by rw [wr]<;>omega]
   obtain⟨_,tg⟩:=tg;simp only [bZ]at tg;refine bX.bif (λh=>?_) (λ_=>bX.bif (λh=>?_) (λ_=>bX.bif (λh=>?_) (λ_=>F5 _)))
   ·have h:(l.getD i default).Kind=3:=of_decide_eq_true h;refine .ret ⟨i+1,rfl,by omega,by omega,⟨?_,by simp,by simp,trivial⟩,?_⟩
    ·rcases tg with⟨g,_⟩|⟨g,_⟩|⟨_,_,g1,g2⟩|⟨g,_⟩|⟨g,_⟩
     ·omega
     ·omega
     ·exact g2
     ·omega
     ·omega
    ·have Z:c7 (jD ⟨1,(l.getD i default).N,[],[]⟩ 9)=(Lib.decDigits (l.getD i default).N.toNat).length:=rfl;have ab:spell (l.getD i default)=Lib.decDigits (l.getD i default).N.toNat:=by unfold spell;rw [if_pos h]
     rw [ab]at gv;omega
   ·have h:(l.getD i default).Kind=4:=of_decide_eq_true h;have ab:spell (l.getD i default)=quo (l.getD i default).Text:=by unfold spell;rw [if_neg (by omega),if_pos h]
    refine .ret ⟨i+1,rfl,by omega,by omega,⟨by omega,?_,by simp,trivial⟩,?_⟩
    ·rcases tg with⟨g,_⟩|⟨g,_⟩|⟨g,_⟩|⟨_,g,_⟩|⟨g,_⟩
     ·omega
     ·omega
     ·omega
     ·unfold i7 at g;simp only [Bool.and_eq_true,decide_eq_true_eq]at g;omega
     ·omega
    ·have Z:c7 (jD ⟨2,0,(l.getD i default).Text,[]⟩ 9)=(quo (l.getD i default).Text).length:=rfl;rw [ab]at gv;omega
   ·have h:(l.getD i default).Kind=1:=of_decide_eq_true h;have ab:spell (l.getD i default)=(l.getD i default).Text:=by unfold spell;rw [if_neg (by omega),if_neg (by omega)]
    refine .ret ⟨i+1,rfl,by omega,by omega,⟨by omega,?_,by simp,trivial⟩,?_⟩
    ·rcases tg with⟨_,g,_⟩|⟨g,_⟩|⟨g,_⟩|⟨g,_⟩|⟨g,_⟩
     ·have:=oM g
      omega
     ·omega
     ·omega
     ·omega
     ·omega
    ·have Z:c7 (jD ⟨3,0,(l.getD i default).Text,[]⟩ 9)=(l.getD i default).Text.length:=rfl;rw [ab]at gv;omega
  ·show bX (acz l i) (uw n (fK n) (jx n) (iR n) (iz n) d ⟨l,(i:Int)⟩)
   unfold uw;refine bX.bind (nZ n _ i ae aq) (λ_ z cX=>?_) (λx z=>.aK)
   obtain⟨rfl,cX⟩:=cX;obtain⟨g1,g2⟩:=hY cX;refine bX.bind (he 1 d (i+1) (by omega) (by omega) (by omega)) (λa z ao=>?_) (λx z=>.aK)
   obtain⟨k,rfl,aD,bm,bM,db⟩:=ao;refine bX.bind (nZ n _ k ae bm) (λ_ z cX=>?_) (λx z=>.aK)
   obtain⟨rfl,cX⟩:=cX;obtain⟨g3,g4⟩:=hY (l:=l) cX;have Z:=xS a 1;exact .ret ⟨k+1,rfl,by omega,by omega,bM,by simp only [arN,arO]at g2 g4;omega⟩
end
section
variable {l:List Token}
def US(l:List Token)(i:Nat)(s:Stmt)(z:Int):Prop:=∃k:Nat,z=(k:Int)∧i≤k∧k≤l.length∧xP s∧bI l i+c7 (ip s)≤bI l k
def UT(l:List Token)(i:Nat)(b:List Stmt)(z:Int):Prop:=∃k:Nat,z=(k:Int)∧i≤k∧k≤l.length∧nX b∧bI l i+(2+c7 (kI b))≤bI l k
theorem acA:∀l m:List Stmt,nX (l++m)↔nX l∧nX m
 |[],m=>by simp [nX]
 |x::l,m=>by simp only [List.cons_append,nX,acA l m,and_assoc]
theorem acB:∀l m:List Stmt,kI (l++m)=kI l++kI m
 |[],m=>rfl
 |x::l,m=>by simp only [List.cons_append,kI,acB l m,List.append_assoc]
theorem xT:nW gp:=⟨by simp,by simp,by simp,trivial⟩
theorem xU{t:Token}(h:mm (bZ t)):(t.Kind=1→spell t=t.Text∧t.Text.length≤16)∧(t.Kind=3→spell t=Lib.decDigits t.N.toNat∧0≤t.N∧t.N≤9223372036854775807):=by
 obtain⟨_,h⟩:=h;simp only [bZ]at h;refine⟨λhk=>⟨by unfold spell;rw [if_neg (by omega),if_neg (by omega)],?_⟩,λhk=>⟨by unfold spell;rw [if_pos hk],?_⟩⟩
 ·rcases h with⟨_,g,_⟩|⟨g,_⟩|⟨g,_⟩|⟨g,_⟩|⟨g,_⟩
  ·exact oM g
  ·omega
  ·omega
  ·omega
  ·omega
 ·rcases h with⟨g,_⟩|⟨g,_⟩|⟨_,_,g1,g2⟩|⟨g,_⟩|⟨g,_⟩
  ·omega
  ·omega
  ·exact⟨g1,g2⟩
  ·omega
  ·omega
theorem aop(n:Nat)(s:Stmt)(i:Nat)(ae:l.length≤1000000000)(hi:i≤l.length):bX (λtD z=>tD=s∧z=((i+1:Nat):Int)∧bL l i [59]=true) (mf n s ⟨l,(i:Int)⟩):=by
 rw [T_ n s l i (by omega) (by omega)]
 cases h:bL l i [59]
 ·exact .aK
 ·exact .ret ⟨rfl,rfl,rfl⟩
theorem aoq(e:Expr):c7 (jD e 1)=c7 (hO e):=by
 have:=anp e.Op
 rw [xS,if_neg (by omega)];rfl
theorem aor(ae:l.length≤1000000000)(hg:kF l)(ax:∀t,t∈l→mm (bZ t))(n i:Nat)(hi:i≤l.length):bX (λe z=>∃k:Nat,z=(k:Int)∧i≤k∧k≤l.length∧nW e∧bI l i+c7 (hO e)≤bI l k) (fK n 1 0 ⟨l,(i:Int)⟩):=by
 have:=(aol ae hg ax n).1 1 0 i (by omega) (by omega) hi
 intro e z h;obtain⟨k,Z,ab,aq,aN,bn⟩:=this e z h;rw [aoq]at bn;exact⟨k,Z,ab,aq,aN,bn⟩
end
section
variable {l:List Token}
theorem F6{n i k:Nat}{s:Stmt}(ae:l.length≤1000000000)(hi:i≤k)(hk:k≤l.length)(hs:xP s)(hw:bI l i+c7 (ip s)≤bI l k+1):
 bX (US l i) (Option.bind (mf n s ⟨l,(k:Int)⟩) λr=>aC.on r (λcj cV=>some (.ret (⟨cj.Op,cj.Name,cj.Max,(⟨cj.A.Op,cj.A.N,cj.A.S,cj.A.au⟩:Expr),(⟨cj.B.Op,cj.B.N,cj.B.S,cj.B.au⟩:Expr),cj.Body,cj.bK⟩:Stmt) cV)) (λlw cV=>some (.aK lw cV))):=by
 refine bX.bind (aop n s k ae hk) (λa z ao=>?_) (λx z=>.aK)
 obtain⟨rfl,rfl,aL⟩:=ao;obtain⟨g1,g2⟩:=hY (l:=l) aL;simp only [gd,jC];simp only [arN,arO]at g2;exact .ret ⟨k+1,rfl,by omega,by omega,hs,by omega⟩
theorem aos(ae:l.length≤1000000000)(hg:kF l)(ax:∀t,t∈l→mm (bZ t)):∀n:Nat,(∀(d:Int) (i:Nat),i≤l.length→bX (UT l i) (nG n d ⟨l,(i:Int)⟩))∧(∀(d:Int) (i:Nat),i≤l.length→bX (US l i) (rn n d ⟨l,(i:Int)⟩))∧
 (∀(d:Int) (i:Nat),i≤l.length→bX (λs z=>∃k:Nat,z=(k:Int)∧i≤k∧k≤l.length∧xP s∧bI l i+c7 (ip s)≤bI l k+3) (qh n d ⟨l,(i:Int)⟩)):=by
 intro n;induction n with
 |zero=>exact⟨λ_ _ _=>.none,λ_ _ _=>.none,λ_ _ _=>.none⟩
 |succ n aR=>
  obtain⟨hb,hs,aot⟩:=aR;have b3:=λi hi=>aor ae hg ax n i hi
  have hr:∀(d i0:Int) (i m k:Nat) (acc:List Stmt),i≤k→k≤l.length→nX acc→bI l i+(1+c7 (kI acc))≤bI l k→bX (UT l i) (ux n (nG n) (rn n) (qh n) d ⟨l,i0⟩ m (k:Int) acc):=by
   intro d i0 i m;induction m with
   |zero=>intro k acc _ _ _ _;exact .none
   |succ m jO=>
    intro k acc Z ab aq aN;simp only [ux,Jl,Jk];rw [k6 n l k _ (by omega)]
    simp only [an];refine bX.bif (λhc=>?_) (λhc=>?_)
    ·have hc:bL l k [125]=false:=by simpa using hc
     rw [hc];refine bX.bind (hs _ k ab) (λs z ao=>bX.av ?_) (λx z=>.aK)
     obtain⟨k',rfl,aD,bm,bM,db⟩:=ao;refine jO k' _ (by omega) bm ((acA _ _).2 ⟨aq,bM,trivial⟩) ?_
     have:c7 (kI (acc++[s]))=c7 (kI acc)+c7 (ip s):=by rw [acB,l1];simp [kI]
     rw [this];omega
    ·have hc:bL l k [125]=true:=by simpa using hc
     obtain⟨g1,g2⟩:=hY hc;rw [hc];simp only [arN,arO]at g2;exact .ret ⟨k+1,rfl,by omega,by omega,aq,by omega⟩
  refine⟨λd i hi=>?_,λd i hi=>?_,λd i hi=>?_⟩
  ·rw [abq];simp only [DM,DK];rw [u2];simp only [an]
   have hj:bX (UT l i) (Option.bind (iQ n [123] ⟨l,(i:Int)⟩) λbr=>aC.on br (λbC cn=>ux n (nG n) (rn n) (qh n) d ⟨l,(i:Int)⟩ n cn []) (λDL cn=>some (.aK DL cn))):=by
    refine bX.bind (nZ (l:=l) n _ i ae hi) (λ_ z ao=>?_) (λx z=>.aK)
    obtain⟨rfl,aL⟩:=ao;obtain⟨g1,g2⟩:=hY (l:=l) aL;simp only [arN,arO]at g2;exact hr d _ i n (i+1) [] (by omega) (by omega) trivial (by simp [kI,c7];omega)
   exact bX.bif (λ_=>bX.bind (acx n 2 i ae) (λ_ _ b5=>b5.elim) (λx z=>.aK)) (λ_=>hj)
  ·rw [abr];simp only [DO,DN];have acc:∀w,kY n w ⟨l,(i:Int)⟩=some (bL l i w,(((bif bL l i w then i+1 else i):Nat):Int)):=λw=>k6 n l i w (by omega)
   have xV:(spell (cM [61])).length=1:=rfl;have Bl:(spell (cM [59])).length=1:=rfl
   have one:∀(op:Int) (w:arY),bL l i w=true→(∀A:Expr,c7 (ip ⟨op,[],0,A,gp,[],[]⟩)=w.length+(c7 (hO A)+1))→
    bX (US l i) (Option.bind (fK n 1 0 ⟨l,((i+1:Nat):Int)⟩) λum=>aC.on um (λsu lT=>Option.bind (mf n (⟨op,[],0,su,gp,[],[]⟩:Stmt) ⟨l,lT⟩) λr=>aC.on r (λcj cV=>some (.ret (⟨cj.Op,cj.Name,cj.Max,(⟨cj.A.Op,cj.A.N,cj.A.S,cj.A.au⟩:Expr),(⟨cj.B.Op,cj.B.N,cj.B.S,cj.B.au⟩:Expr),cj.Body,cj.bK⟩:Stmt) cV)) (λlw cV=>some (.aK lw cV))) (λsK lT=>some (.aK sK lT))):=by
    intro op w aL hw;obtain⟨g1,g2⟩:=hY (l:=l) aL;refine bX.bind (b3 (i+1) (by omega)) (λA z ao=>?_) (λx z=>.aK)
    obtain⟨dM,rfl,aW,a2,a3,a4⟩:=ao;exact F6 ae (by omega) a2 ⟨by omega,by simp,a3,xT,trivial,trivial⟩ (by rw [hw];omega)
   rw [acc];simp only [an];refine bX.bif (λaL=>?_) (λb5=>?_)
   ·rw [aL];obtain⟨g1,g2⟩:=hY (l:=l) aL;refine bX.bind (Bk (l:=l) n 1 (i+1) ae (by omega)) (λt z ao=>?_) (λx z=>.aK)
    obtain⟨rfl,bO,aA,hk⟩:=ao;have gv:=tf (l:=l) (i+1) bO;rw [←aA]at gv;obtain⟨aD,bm⟩:=(xU (t:=t) (by rw [aA];exact ax _ (te bO))).1 hk
    rw [aD]at gv;refine bX.bind (nZ (l:=l) n _ (i+1+1) ae (by omega)) (λ_ z ao=>?_) (λx z=>.aK)
    obtain⟨rfl,o2⟩:=ao;obtain⟨g3,g4⟩:=hY (l:=l) o2;refine bX.bind (b3 (i+1+1+1) (by omega)) (λA z ao=>?_) (λx z=>.aK)
    obtain⟨dM,rfl,aW,a2,a3,a4⟩:=ao;refine F6 ae (by omega) a2 ⟨by omega,by omega,a3,xT,trivial,trivial⟩ ?_
    have e:ip ⟨1,t.Text,0,A,gp,[],[]⟩=fg [108,101,116]::nU t.Text::cM [61]::(hO A++[cM [59]]):=by simp [ip]
    have pB:(spell (fg [108,101,116])).length=3:=rfl;have th:(spell (nU t.Text)).length=t.Text.length:=rfl;show bI l i+c7 (ip ⟨1,t.Text,0,A,gp,[],[]⟩)≤bI l dM+1
    rw [e];simp only [arN,arO]at g2 g4;simp only [c7,l1,pB,th,xV,Bl];omega
   rw [b5,show(bif false then i+1 else i)=i from rfl,acc];simp only [an]
   refine bX.bif (λaL=>?_) (λb5=>?_)
   ·rw [aL];obtain⟨g1,g2⟩:=hY (l:=l) aL;refine bX.bind (b3 (i+1) (by omega)) (λA z ao=>?_) (λx z=>.aK)
    obtain⟨dM,rfl,aW,a2,a3,a4⟩:=ao;refine bX.bind (nZ (l:=l) n _ dM ae (by omega)) (λ_ z ao=>?_) (λx z=>.aK)
    obtain⟨rfl,o2⟩:=ao;obtain⟨g3,g4⟩:=hY (l:=l) o2;refine bX.bind (b3 (dM+1) (by omega)) (λB z ao=>?_) (λx z=>.aK)
    obtain⟨am,rfl,df,hG,nS,u_⟩:=ao;refine F6 ae (by omega) hG ⟨by omega,by simp,a3,nS,trivial,trivial⟩ ?_
    have e:ip ⟨3,[],0,A,B,[],[]⟩=fg [112,117,116]::(hO A++cM [61]::(hO B++[cM [59]])):=by simp [ip]
    have pB:(spell (fg [112,117,116])).length=3:=rfl;rw [e];simp only [arN,arO]at g2 g4;simp only [c7,l1,pB,xV,Bl];omega
   rw [b5,show(bif false then i+1 else i)=i from rfl,acc];simp only [an]
   refine bX.bif (λaL=>?_) (λb5=>?_)
   ·rw [aL];exact one 4 _ aL (λA=>by simp [ip,c7,l1,Bl];rfl)
   rw [b5,show(bif false then i+1 else i)=i from rfl,acc];simp only [an]
   refine bX.bif (λaL=>?_) (λb5=>?_)
   ·rw [aL];exact one 7 _ aL (λA=>by simp [ip,c7,l1,Bl];rfl)
   rw [b5,show(bif false then i+1 else i)=i from rfl,acc];simp only [an]
   refine bX.bif (λaL=>?_) (λb5=>?_)
   ·rw [aL];obtain⟨g1,g2⟩:=hY (l:=l) aL;refine bX.bind (Bk (l:=l) n 3 (i+1) ae (by omega)) (λt z ao=>?_) (λx z=>.aK)
    obtain⟨rfl,bO,aA,hk⟩:=ao;have gv:=tf (l:=l) (i+1) bO;rw [←aA]at gv;obtain⟨aD,bm,bM⟩:=(xU (t:=t) (by rw [aA];exact ax _ (te bO))).2 hk
    rw [aD]at gv;refine F6 ae (by omega) (by omega) ⟨by omega,by simp,xT,xT,trivial,trivial⟩ ?_
    have e:ip ⟨8,[],t.N,gp,gp,[],[]⟩=[fg [97,98,111,114,116],xK t.N,cM [59]]:=by simp [ip]
    have pB:(spell (fg [97,98,111,114,116])).length=5:=rfl;have th:(spell (xK t.N)).length=(Lib.decDigits t.N.toNat).length:=rfl;show bI l i+c7 (ip ⟨8,[],t.N,gp,gp,[],[]⟩)≤bI l (i+1+1)+1
    rw [e];simp only [arN,arO]at g2;simp only [c7,pB,th,Bl];omega
   rw [b5,show(bif false then i+1 else i)=i from rfl,acc];simp only [an]
   refine bX.bif (λaL=>?_) (λb5=>?_)
   ·rw [aL];obtain⟨g1,g2⟩:=hY (l:=l) aL;simp only [arN,arO]at g2;refine bX.bind (b3 (i+1) (by omega)) (λA z ao=>?_) (λx z=>.aK)
    obtain⟨dM,rfl,aW,a2,a3,a4⟩:=ao;refine bX.bind (hb d dM a2) (λib z ao=>?_) (λx z=>.aK)
    obtain⟨am,rfl,df,hG,nS,u_⟩:=ao;have pB:(spell (fg [105,102])).length=2:=rfl;have F7:(spell (fg [101,108,115,101])).length=4:=rfl;have My:(spell (cM [123])).length=1:=rfl;have Mz:(spell (cM [125])).length=1:=rfl
    have yN:∀el:List Stmt,c7 (ip ⟨5,[],0,A,gp,ib,el⟩)≤2+(c7 (hO A)+(2+c7 (kI ib)))+(if el.length=0 then 0 else 6+c7 (kI el)):=by
     intro el;by_cases h0:el.length=0
     ·have e:ip ⟨5,[],0,A,gp,ib,el⟩=fg [105,102]::(hO A++cM [123]::(kI ib++cM [125]::[])):=by simp only [ip,h0];simp
      rw [e,if_pos h0];simp only [c7,l1,pB,My,Mz];omega
     ·have e:ip ⟨5,[],0,A,gp,ib,el⟩=fg [105,102]::(hO A++cM [123]::(kI ib++cM [125]::(fg [101,108,115,101]::cM [123]::(kI el++[cM [125]])))):=by simp only [ip,h0];simp
      rw [e,if_neg h0];simp only [c7,l1,pB,F7,My,Mz];omega
    rw [k6 n l am _ (by omega)]
    simp only [an];refine bX.bif (λo2=>?_) (λqV=>?_)
    ·rw [o2];obtain⟨g3,g4⟩:=hY (l:=l) o2;simp only [arN,arO]at g4;refine bX.bind (hb d (am+1) (by omega)) (λel z ao=>.ret ?_) (λx z=>.aK)
     obtain⟨fj,rfl,c1,c2,c3,c4⟩:=ao;have:=yN el
     exact⟨fj,rfl,by omega,c2,⟨by omega,by simp,a3,xT,nS,c3⟩,by
      show bI l i+c7 (ip ⟨5,[],0,A,gp,ib,el⟩)≤bI l fj
      split at this<;>omega⟩
    ·rw [qV];have:=yN []
     exact .ret ⟨am,rfl,by omega,hG,⟨by omega,by simp,a3,xT,nS,trivial⟩,by
      show bI l i+c7 (ip ⟨5,[],0,A,gp,ib,[]⟩)≤bI l am
      simp only [arO,arW]at this;omega⟩
   rw [b5,show(bif false then i+1 else i)=i from rfl,acc];simp only [an]
   refine bX.bif (λaL=>?_) (λb5=>?_)
   ·rw [aL];obtain⟨g1,g2⟩:=hY (l:=l) aL;refine bX.bind (aot d (i+1) (by omega)) (λs z ao=>?_) (λx z=>.aK)
    obtain⟨k,rfl,aW,a2,a3,a4⟩:=ao;simp only [gd,jC];simp only [arN,arO]at g2;exact .ret ⟨k,rfl,by omega,a2,a3,by omega⟩
   rw [b5,show(bif false then i+1 else i)=i from rfl]
   refine bX.bind (Bk (l:=l) n 1 i ae hi) (λt z ao=>?_) (λx z=>.aK)
   obtain⟨rfl,bO,aA,hk⟩:=ao;have gv:=tf (l:=l) i bO;rw [←aA]at gv;obtain⟨aD,bm⟩:=(xU (t:=t) (by rw [aA];exact ax _ (te bO))).1 hk
   rw [aD]at gv;refine bX.bind (nZ (l:=l) n _ (i+1) ae (by omega)) (λ_ z ao=>?_) (λx z=>.aK)
   obtain⟨rfl,o2⟩:=ao;obtain⟨g3,g4⟩:=hY (l:=l) o2;refine bX.bind (b3 (i+1+1) (by omega)) (λA z ao=>?_) (λx z=>.aK)
   obtain⟨dM,rfl,aW,a2,a3,a4⟩:=ao;refine F6 ae (by omega) a2 ⟨by omega,by omega,a3,xT,trivial,trivial⟩ ?_
   have e:ip ⟨2,t.Text,0,A,gp,[],[]⟩=nU t.Text::cM [61]::(hO A++[cM [59]]):=by simp [ip]
   have th:(spell (nU t.Text)).length=t.Text.length:=rfl;show bI l i+c7 (ip ⟨2,t.Text,0,A,gp,[],[]⟩)≤bI l dM+1
   rw [e];simp only [arN,arO]at g4;simp only [c7,l1,th,xV,Bl];omega
  ·rw [abs];unfold DY;refine bX.bind (Bk (l:=l) n 1 i ae hi) (λt z ao=>?_) (λx z=>.aK)
   obtain⟨rfl,bO,aA,hk⟩:=ao;have gv:=tf (l:=l) i bO;rw [←aA]at gv;obtain⟨aD,bm⟩:=(xU (t:=t) (by rw [aA];exact ax _ (te bO))).1 hk
   rw [aD]at gv;refine bX.bind (nZ (l:=l) n _ (i+1) ae (by omega)) (λ_ z ao=>?_) (λx z=>.aK)
   obtain⟨rfl,aL⟩:=ao;obtain⟨g1,g2⟩:=hY (l:=l) aL;refine bX.bind (b3 (i+1+1) (by omega)) (λA z ao=>?_) (λx z=>.aK)
   obtain⟨dM,rfl,aW,a2,a3,a4⟩:=ao;refine bX.bind (nZ (l:=l) n _ dM ae a2) (λ_ z ao=>?_) (λx z=>.aK)
   obtain⟨rfl,aL⟩:=ao;obtain⟨g3,g4⟩:=hY (l:=l) aL;refine bX.bind (b3 (dM+1) (by omega)) (λB z ao=>?_) (λx z=>.aK)
   obtain⟨am,rfl,df,hG,nS,u_⟩:=ao;refine bX.bind (nZ (l:=l) n _ am ae hG) (λ_ z ao=>?_) (λx z=>.aK)
   obtain⟨rfl,aL⟩:=ao;obtain⟨g5,g6⟩:=hY (l:=l) aL;refine bX.bind (Bk (l:=l) n 3 (am+1) ae (by omega)) (λu z ao=>?_) (λx z=>.aK)
   obtain⟨rfl,A',hu,fe⟩:=ao;have acC:=tf (l:=l) (am+1) A';rw [←hu]at acC;obtain⟨bM,db,cW⟩:=(xU (t:=u) (by rw [hu];exact ax _ (te A'))).2 fe
   rw [bM]at acC;refine bX.bind (hb d (am+1+1) (by omega)) (λib z ao=>.ret ?_) (λx z=>.aK)
   obtain⟨fj,rfl,c1,c2,c3,c4⟩:=ao;have e:ip ⟨6,t.Text,u.N,A,B,ib,[]⟩=fg [102,111,114]::nU t.Text::cM [61]::(hO A++fg [116,111]::(hO B++fg [109,97,120]::xK u.N::cM [123]::(kI ib++[cM [125]]))):=by simp [ip]
   have pB:(spell (fg [102,111,114])).length=3:=rfl;have th:(spell (nU t.Text)).length=t.Text.length:=rfl;have xV:(spell (cM [61])).length=1:=rfl;have F7:(spell (fg [116,111])).length=2:=rfl;have My:(spell (fg [109,97,120])).length=3:=rfl;have Mz:(spell (xK u.N)).length=(Lib.decDigits u.N.toNat).length:=rfl;have aou:(spell (cM [123])).length=1:=rfl;have aov:(spell (cM [125])).length=1:=rfl;refine⟨fj,rfl,by omega,c2,⟨by omega,by omega,a3,nS,c3,trivial⟩,?_⟩
   rw [e];simp only [arN,arO]at g2 g4 g6;simp only [c7,l1,pB,th,xV,F7,My,Mz,aou,aov];omega
end
section
variable {l:List Token}
theorem aow(ax:∀t,t∈l→mm (bZ t)){k:Nat}{p:Param}(h:oK l k = .inl p):k+3≤l.length∧p.Name.length≤16∧bI l k+c7 (va p)≤bI l (k+3):=by
 unfold oK at h;split at h
 ·rename_i Z;have gv:=tf (l:=l) k Z.1;have tg:=ax _ (te Z.1);generalize l.getD k default=t at h Z gv tg
  obtain⟨aD,bm⟩:=(xU tg).1 Z.2;rw [aD]at gv;cases ab:bL l (k+1) [58]
  ·rw [ab]at h;cases h
  ·rw [ab]at h;simp only [arJ]at h;obtain⟨g1,g2⟩:=hY ab;simp only [arN,arO]at g2;have th:(spell (cM [58])).length=1:=rfl
   have fin:∀(ty:Int) (w:arY),bL l (k+2) w=true→rC ty=w→p=⟨t.Text,ty⟩→k+3≤l.length∧p.Name.length≤16∧bI l k+c7 (va p)≤bI l (k+3):=by
    intro ty w hw aA hp;obtain⟨g3,g4⟩:=hY hw;subst hp;have pB:(spell (nU t.Text)).length=t.Text.length:=rfl;have xV:(spell (fg (rC ty))).length=w.length:=by rw [aA];rfl
    refine⟨by omega,bm,?_⟩
    have gg:bI l (k+3)=_:=g4;have lh:bI l (k+2)=_:=g2;simp only [va,c7,pB,th,xV];omega
   cases aN:bL l (k+2) [105,110,116]
   ·cases bn:bL l (k+2) [115,116,114]
    ·cases cd:bL l (k+2) [98,111,111,108]
     ·rw [aN,bn,cd]at h;cases h
     ·rw [aN,bn,cd]at h;simp only [arJ,arK,Sum.inl.injEq]at h;exact fin 3 _ cd rfl h.symm
    ·rw [aN,bn]at h;simp only [arJ,arK,Sum.inl.injEq]at h;exact fin 2 _ bn rfl h.symm
   ·rw [aN]at h;simp only [arJ,Sum.inl.injEq]at h;exact fin 1 _ aN rfl h.symm
 ·cases h
theorem acD(ae:l.length≤1000000000)(ax:∀t,t∈l→mm (bZ t))(n i:Nat)(hi:i≤l.length):bX (λx z=>z=((i+3:Nat):Int)∧i+3≤l.length∧x.Name.length≤16∧bI l i+c7 (va x)≤bI l (i+3)) (zH n ⟨l,(i:Int)⟩):=by
 rw [Ul n i ae hi];cases h:oK l i with
 |inl p=>
  obtain⟨Z,ab,aq⟩:=aow ax h;exact .ret ⟨rfl,Z,ab,aq⟩
 |inr e=>exact .aK
theorem acE:∀(a:List Param) (x:Param),c7 (xR (a++[x]))=c7 (xR a)+1+c7 (va x)
 |[],x=>by
  have w:(spell (cM [44])).length=1:=rfl;simp only [List.nil_append,xR,c7,l1,w];omega
 |y::a,x=>by
  have:=acE a x
  simp only [List.cons_append,xR,c7,l1];omega
theorem aox{a:List Param}(x:Param)(h:a≠[]):c7 (vb (a++[x]))=c7 (vb a)+1+c7 (va x):=by
 cases a with
 |nil=>exact absurd rfl h
 |cons y a=>
  have:=acE a x
  simp only [List.cons_append,vb,l1];omega
def UU(l:List Token)(i:Nat)(p:a_)(z:Int):Prop:=∃k:Nat,z=(k:Int)∧k≤l.length∧Bf p∧bI l i+c7 (acd p)≤bI l k
theorem aoy(ae:l.length≤1000000000)(hg:kF l)(ax:∀t,t∈l→mm (bZ t))(n i:Nat)(hi:i≤l.length):bX (UU l i) (ro n ⟨l,(i:Int)⟩):=by
 have F7:(spell (fg [112,114,111,99])).length=4:=rfl;have aoz:(spell (cM [40])).length=1:=rfl;have aoA:(spell (cM [41])).length=1:=rfl;have aoB:(spell (cM [123])).length=1:=rfl;have aoC:(spell (cM [125])).length=1:=rfl
 have F5:∀(b:Int) (t:Token) (k:Nat) (acc:List Param),k≤l.length→t.Text.length≤16→acc.length≤k→(∀x,x∈acc→x.Name.length≤16)→bI l i+(4+t.Text.length+1+c7 (vb acc)+1)≤bI l k→
  bX (UU l i) (uz n ⟨l,b⟩ t (k:Int) acc):=by
  intro b t k acc hk aA aoD hx hp;unfold uz;refine bX.bind ((aos ae hg ax n).1 0 k hk) (λib z ao=>.ret ?_) (λx z=>.aK)
  obtain⟨k',rfl,df,hG,nS,u_⟩:=ao;refine⟨k',rfl,hG,⟨by show t.Text.length≤_;omega,by show acc.length≤_;omega,λj hj=>?_,nS⟩,?_⟩
  ·have:=hx _ (te hj)
   show(acc.getD j default).Name.length≤_
   omega
  ·have wn:(spell (nU t.Text)).length=t.Text.length:=rfl;simp only [acd,c7,l1,F7,aoz,aoA,aoB,aoC,wn];omega
 have B9:∀(b:Int) (t:Token) (m k:Nat) (acc:List Param),k≤l.length→t.Text.length≤16→acc≠[]→acc.length≤k→(∀x,x∈acc→x.Name.length≤16)→bI l i+(4+t.Text.length+1+c7 (vb acc))≤bI l k→
  bX (UU l i) (uA n ⟨l,b⟩ t m (k:Int) acc):=by
  intro b t m;induction m with
  |zero=>intro k acc _ _ _ _ _ _;exact .none
  |succ m aR=>
   intro k acc hk aA h0 aoD hx hp;simp only [uA,Jw,Jv];rw [k6 n l k _ (by omega)]
   simp only [an];refine bX.bif (λaL=>?_) (λb5=>?_)
   ·rw [aL];obtain⟨g1,g2⟩:=hY (l:=l) aL;simp only [arN,arO]at g2;refine bX.bind (acD ae ax n (k+1) (by omega)) (λx z ao=>.av ?_) (λx z=>.aK)
    obtain⟨rfl,aD,bm,bM⟩:=ao;refine aR (k+1+3) (acc++[x]) (by omega) aA (by simp) (by simp only [arR,arN,arO];omega) (λy ck=>?_) ?_
    ·rcases List.mem_append.1 ck with ck|ck
     ·exact hx y ck
     ·rw [List.mem_singleton.1 ck];exact bm
    ·rw [aox x h0];omega
   ·rw [b5];refine bX.bind (nZ (l:=l) n _ k ae hk) (λ_ z ao=>?_) (λx z=>.aK)
    obtain⟨rfl,aL⟩:=ao;obtain⟨g1,g2⟩:=hY (l:=l) aL;simp only [arN,arO]at g2;exact F5 b t (k+1) acc (by omega) aA (by omega) hx (by omega)
 unfold ro;refine bX.bind (nZ (l:=l) n _ i ae hi) (λ_ z ao=>?_) (λx z=>.aK)
 obtain⟨rfl,aL⟩:=ao;obtain⟨g1,g2⟩:=hY (l:=l) aL;simp only [arN,arO]at g2;refine bX.bind (Bk (l:=l) n 1 (i+1) ae (by omega)) (λt z ao=>?_) (λx z=>.aK)
 obtain⟨rfl,bO,aA,hk⟩:=ao;have gv:=tf (l:=l) (i+1) bO;rw [←aA]at gv;obtain⟨aD,bm⟩:=(xU (t:=t) (by rw [aA];exact ax _ (te bO))).1 hk
 rw [aD]at gv;refine bX.bind (nZ (l:=l) n _ (i+1+1) ae (by omega)) (λ_ z ao=>?_) (λx z=>.aK)
 obtain⟨rfl,o2⟩:=ao;obtain⟨g3,g4⟩:=hY (l:=l) o2;simp only [arN,arO]at g4;rw [k6 n l (i+1+1+1) _ (by omega)]
 simp only [an];cases abE:bL l (i+1+1+1) [41]
 ·simp only [arM,arJ,arK];refine bX.bind (acD ae ax n (i+1+1+1) (by omega)) (λx z ao=>.av ?_) (λx z=>.aK)
  obtain⟨rfl,fL,e4,fT⟩:=ao;refine B9 _ t n (i+1+1+1+3) [x] (by omega) bm (by simp) (by simp) (λy ck=>by rw [List.mem_singleton.1 ck];exact e4) ?_
  simp only [vb,xR,List.append_nil];omega
 ·obtain⟨g5,g6⟩:=hY (l:=l) abE;simp only [arN,arO]at g6;simp only [arL,arJ,arK];exact F5 _ t (i+1+1+1+1) [] (by omega) bm (by simp) (λy ck=>by cases ck) (by simp only [vb,c7];omega)
end
abbrev eB(α:Type):=arY→Except Int (α×arY)
structure ej{α:Type}(D:eB α)(E:α→arY)(ok:α→Prop):Prop where
 rt:∀v t,ok v→D (E v++t) = .ok (v,t)
 eN:∀x v t,D x = .ok (v,t)→x=E v++t∧ok v
 bZ:∀x e,D x = .error e→e≠0
def ej.hZ{α:Type}{D:eB α}{E:α→arY}{ok:α→Prop}(h:ej D E ok){x:arY}{v:α}{t:arY}(hx:D x = .ok (v,t)):t <:+ x:=⟨E v,(h.eN x v t hx).1.symm⟩
def dF{α β:Type}(D:eB α)(k:α→eB β):eB (α×β):=λx=>match D x with
 |.ok (v,t)=>match k v t with
  |.ok (w,u)=>.ok ((v,w),u)
  |.error e=>.error e
 |.error e=>.error e
def ej.dep{α β:Type}{D:eB α}{E:α→arY}{ok:α→Prop}{k:α→eB β}{dp:α→β→arY}{acF:α→β→Prop}(h:ej D E ok)(ab:∀a,ok a→ej (k a) (dp a) (acF a)):
 ej (dF D k) (λp=>E p.1++dp p.1 p.2) (λp=>ok p.1∧acF p.1 p.2) where
 rt:=fun⟨v,w⟩ t ⟨aq,aN⟩=>by simp only [dF,List.append_assoc,h.rt v _ aq,(ab v aq).rt w t aN]
 eN:=
  λx ⟨v,w⟩ t hx=>by
  unfold dF at hx;split at hx
  ·rename_i v0 t0 hd;obtain⟨aq,aN⟩:=h.eN _ _ _ hd;split at hx
   ·rename_i UV od hk;obtain⟨bn,cd⟩:=(ab v0 aN).eN _ _ _ hk;cases hx;exact⟨by rw [aq,bn,List.append_assoc],aN,cd⟩
   ·cases hx
  ·cases hx
 bZ:=
  λx e hx=>by
  unfold dF at hx;split at hx
  ·rename_i v0 t0 hd;split at hx
   ·cases hx
   ·rename_i cc hk;cases hx;exact(ab v0 (h.eN _ _ _ hd).2).bZ _ _ hk
  ·rename_i cc hd;cases hx;exact h.bZ _ _ hd
def eX{α β:Type}(f:α→β)(D:eB α):eB β:=λx=>match D x with
 |.ok (v,t)=>.ok (f v,t)
 |.error e=>.error e
def ej.map{α β:Type}{D:eB α}{E:α→arY}{ok:α→Prop}(h:ej D E ok)(f:α→β)(g:β→α)(Bm:β→Prop)(dj:β→arY)(Z:∀b,Bm b→f (g b)=b∧ok (g b)∧dj b=E (g b))(ab:∀a,ok a→g (f a)=a∧Bm (f a)):
 ej (eX f D) dj Bm where
 rt:=λv t ax=>by
  obtain⟨aq,aN,bn⟩:=Z v ax;simp only [eX,bn,h.rt _ t aN,aq]
 eN:=λx v t hx=>by
  unfold eX at hx;split at hx
  ·rename_i v0 t0 hd;cases hx;obtain⟨aq,aN⟩:=h.eN _ _ _ hd;obtain⟨bn,cd⟩:=ab _ aN;obtain⟨_,_,ep⟩:=Z _ cd;exact⟨by rw [ep,bn,aq],cd⟩
  ·cases hx
 bZ:=λx e hx=>by
  unfold eX at hx;split at hx
  ·cases hx
  ·rename_i cc hd;cases hx;exact h.bZ _ _ hd
def jP{α:Type}(p:α→Bool)(e:Int)(D:eB α):eB α:=λx=>match D x with
 |.ok (v,t)=>if p v then .ok (v,t)else .error e
 |.error f=>.error f
def ej.chk{α:Type}{D:eB α}{E:α→arY}{ok:α→Prop}(h:ej D E ok)(p:α→Bool)(e:Int)(he:e≠0):ej (jP p e D) E (λv=>ok v∧p v=true) where
 rt:=λv t ⟨Z,ab⟩=>by simp only [jP,h.rt v t Z,ab,arW]
 eN:=
  λx v t hx=>by
  unfold jP at hx;split at hx
  ·rename_i v0 t0 hd;split at hx
   ·rename_i hp;cases hx;exact⟨(h.eN _ _ _ hd).1,(h.eN _ _ _ hd).2,hp⟩
   ·cases hx
  ·cases hx
 bZ:=λx f hx=>by
  unfold jP at hx;split at hx
  ·split at hx
   ·cases hx
   ·cases hx;exact he
  ·rename_i cc hd;cases hx;exact h.bZ _ _ hd
def ti{α:Type}(E:α→arY)(l:List α):arY:=(l.map E).flatten
def MA{α:Type}(E:α→arY)(v:α)(l:List α):ti E (v::l)=E v++ti E l:=rfl
def fV{α:Type}(D:eB α):Nat→eB (List α)
 | 0,x=>.ok ([],x)
 |n+1,x=>match D x with
  |.ok (v,t)=>match fV D n t with
   |.ok (l,u)=>.ok (v::l,u)
   |.error e=>.error e
  |.error e=>.error e
def ej.rep{α:Type}{D:eB α}{E:α→arY}{ok:α→Prop}(h:ej D E ok):∀n,ej (fV D n) (ti E) (λl=>l.length=n∧∀v∈l,ok v)
 | 0=>{
  rt:=λv t ⟨Z,_⟩=>by
   obtain rfl:=List.eq_nil_of_length_eq_zero Z;rfl
  eN:=λx v t hx=>by cases hx;exact⟨rfl,rfl,λv ax=>by cases ax⟩
  bZ:=λx e hx=>by cases hx}
 |n+1=>{
  rt:=λv t ⟨Z,ab⟩=>by
   cases v with
   |nil=>simp at Z
   |cons a l=>
    have aq:=h.rt a (ti E l++t) (ab a (by simp))
    have aN:=(ej.rep h n).rt l t ⟨by simpa using Z,λv ax=>ab v (by simp [ax])⟩
    simp only [fV,MA,List.append_assoc,aq,aN]
  eN:=
   λx v t hx=>by
   unfold fV at hx;split at hx
   ·rename_i v0 t0 hd;split at hx
    ·rename_i l0 od hk;cases hx;obtain⟨aq,aN⟩:=h.eN _ _ _ hd;obtain⟨bn,cd,ep⟩:=(ej.rep h n).eN _ _ _ hk;refine⟨by rw [aq,bn,MA,List.append_assoc],by simp [cd],λv ax=>?_⟩
     rcases List.mem_cons.1 ax with rfl|ax
     ·exact aN
     ·exact ep v ax
    ·cases hx
   ·cases hx
  bZ:=λx e hx=>by
   unfold fV at hx;split at hx
   ·split at hx
    ·cases hx
    ·rename_i cc hk;cases hx;exact(ej.rep h n).bZ _ _ hk
   ·rename_i cc hd;cases hx;exact h.bZ _ _ hd}
def kK:Nat→eB Nat
 | 0,_=>.error 5
 |_+1,[]=>.error 6
 |k+1,c::t=>if k=0∧1<c.toNat∨c.toNat=0∧k<9 then .error 5 else if c.toNat<128 then .ok (c.toNat,t)else match kK k t with
  |.ok (u,t)=>.ok (c.toNat % 128+128*u,t)
  |.error e=>.error e
def oQ:eB Nat:=kK 10
def acG:∀(k u:Nat) (t:arY),u<2 ^ (7*k+1)→(k<9→0<u)→kK (k+1) (gF u++t) = .ok (u,t)
 |k,u,t,h,h0=>by
  rw [gF];by_cases hu:u<128
  ·rw [if_pos hu];have e:(UInt8.ofNat u).toNat=u:=by simp only [UInt8.toNat_ofNat'];omega
   simp only [List.singleton_append,kK,e];rw [if_neg,if_pos hu];intro bJ;rcases bJ with⟨rfl,ab⟩|⟨Z,ab⟩
   ·simp at h;omega
   ·have:=h0 ab;omega
  ·rw [if_neg hu];have e:(UInt8.ofNat (u % 128+128)).toNat=u % 128+128:=by simp only [UInt8.toNat_ofNat'];omega
   cases k with
   |zero=>simp at h;omega
   |succ k=>
    have:=acG k (u / 128) t (by rw [show 7*(k+1)+1=7*k+1+7 by omega,Nat.pow_add]at h;omega) (λ_=>by omega)
    simp only [List.cons_append,kK,e]at this ⊢;rw [if_neg (by omega),if_neg (by omega),this]
    simp only
    rw [show(u % 128+128) % 128+128*(u / 128)=u by omega]
def UW:∀(k:Nat) (x:arY) (u:Nat) (t:arY),k≤9→kK (k+1) x = .ok (u,t)→x=gF u++t∧u<2 ^ (7*k+1)∧(k<9→0<u)
 |k,[],u,t,_,h=>by simp [kK]at h
 |k,c::x,u,t,L_,h=>by
  have hc:=c.toNat_lt;unfold kK at h;split at h
  ·cases h
  ·rename_i Z;split at h
   ·rename_i ab;cases h;rw [gF,if_pos ab];refine⟨by simp,?_,λiG=>by omega⟩
    cases k with
    |zero=>simp;omega
    |succ k=>
     rw [show 7*(k+1)+1=7*k+1+7 by omega,Nat.pow_add]
     have:=Nat.two_pow_pos (7*k+1)
     omega
   ·rename_i ab;split at h
    ·rename_i od t0 hu;cases h;cases k with
     |zero=>simp [kK]at hu
     |succ k=>
      obtain⟨aq,aN,bn⟩:=UW k _ _ _ (by omega) hu
      refine⟨?_,?_,λ_=>?_⟩
      ·have afz:0<od:=by
        by_cases iG:k<9
        ·exact bn iG
        ·omega
       rw [gF,if_neg (by omega),aq]
       rw [show(c.toNat % 128+128*od) / 128=od by omega,show(c.toNat % 128+128*od) % 128+128=c.toNat by omega]
       simp
      ·rw [show 7*(k+1)+1=7*k+1+7 by omega,Nat.pow_add]
       generalize 2 ^ (7*k+1)=P at aN ⊢
       omega
      ·by_cases iG:k<9
       ·have:=bn iG;omega
       ·omega
    ·cases h
def acH:∀(k:Nat) (x:arY) (e:Int),kK k x = .error e→e=5∨e=6
 | 0,x,e,h=>by cases h;simp
 |k+1,[],e,h=>by cases h;simp
 |k+1,c::x,e,h=>by
  unfold kK at h;split at h
  ·cases h;simp
  ·split at h
   ·cases h
   ·split at h
    ·cases h
    ·rename_i cc hu;cases h;exact acH k _ _ hu
def n0:ej oQ gF (λu=>u<18446744073709551616) where
 rt:=λu t h=>acG 9 u t h (by omega)
 eN:=λx u t h=>⟨(UW 9 x u t (by omega) h).1,(UW 9 x u t (by omega) h).2.1⟩
 bZ:=λx e h=>by have:=acH 10 x e h;omega
def gK:eB Int:=eX (λu:Nat=>(u:Int)) oQ
def jk(z:Int):Prop:=0≤z∧z<18446744073709551616
def l2(z:Int):arY:=gF z.toNat
def ir:ej gK l2 jk:=
 n0.map _ Int.toNat jk l2 (λb h=>by unfold jk at h;exact⟨by omega,by omega,rfl⟩) (λa h=>⟨by omega,by unfold jk;omega⟩)
def vc(u:Nat):Int:=if u % 2=1 then -((u / 2:Nat):Int)-1 else((u / 2:Nat):Int)
def gG:eB Int:=eX vc oQ
def ht:ej gG qA lC:=
 n0.map _ fold lC qA (λb h=>⟨by unfold lC at h;unfold fold vc;split<;>(split<;>omega),anU h,rfl⟩)
  (λa h=>⟨by unfold fold vc;split<;>(split<;>omega),by unfold lC vc;split<;>omega⟩)
def gW(cq:Nat):eB Nat:=λx=>match oQ x with
 |.ok (u,t)=>if cq<u then .error 2 else if t.length<u then .error 6 else .ok (u,t)
 |.error e=>.error e
def kL{cq:Nat}{x t:arY}{u:Nat}(h:gW cq x = .ok (u,t)):x=gF u++t∧u≤cq∧u≤t.length:=by
 unfold gW at h;split at h
 ·rename_i od t0 hd;split at h
  ·cases h
  ·split at h
   ·cases h
   ·cases h;exact⟨(n0.eN _ _ _ hd).1,by omega,by omega⟩
 ·cases h
def k9{cq:Nat}{x:arY}{e:Int}(h:gW cq x = .error e):e≠0:=by
 unfold gW at h;split at h
 ·split at h
  ·cases h;omega
  ·split at h
   ·cases h;omega
   ·cases h
 ·rename_i cc hd;cases h;exact n0.bZ _ _ hd
def acI{cq u:Nat}{t:arY}(h:u≤cq)(Z:cq<18446744073709551616)(ab:u≤t.length):gW cq (gF u++t) = .ok (u,t):=by
 unfold gW;rw [n0.rt u t (by omega)]
 simp only
 rw [if_neg (by omega),if_neg (by omega)]
def gX{α:Type}(cq:Nat)(D:eB α):eB (List α):=λx=>match gW cq x with
 |.ok (u,t)=>fV D u t
 |.error e=>.error e
def jl{α:Type}(E:α→arY)(l:List α):arY:=gF l.length++ti E l
def UX{α:Type}{E:α→arY}:∀{l:List α},(∀v∈l,E v≠[])→l.length≤(ti E l).length
 |[],_=>by simp
 |v::l,h=>by
  have Z:(E v).length≠0:=by simpa using h v (by simp)
  have ab:=UX (E:=E) (l:=l) λw hw=>h w (by simp [hw])
  simp only [MA,arR,arN];omega
def ej.vd{α:Type}{D:eB α}{E:α→arY}{ok:α→Prop}(h:ej D E ok)(cq:Nat)(hm:cq<18446744073709551616)(dQ:∀v,ok v→E v≠[]):ej (gX cq D) (jl E) (λl=>l.length≤cq∧∀v∈l,ok v) where
 rt:=λl t ⟨Z,ab⟩=>by
  have aq:=UX (E:=E) (l:=l) λv ax=>dQ v (ab v ax)
  unfold gX jl;rw [List.append_assoc,acI Z hm (by simp;omega)]
  exact(h.rep l.length).rt l t ⟨rfl,ab⟩
 eN:=λx l t hx=>by
  unfold gX at hx;split at hx
  ·rename_i od t0 hd;obtain⟨Z,ab,aq⟩:=kL hd;obtain⟨aN,bn,cd⟩:=(h.rep od).eN _ _ _ hx;subst bn;exact⟨by rw [Z,aN,jl,List.append_assoc],ab,cd⟩
  ·cases hx
 bZ:=λx e hx=>by
  unfold gX at hx;split at hx
  ·exact(h.rep _).bZ _ _ hx
  ·rename_i cc hd;cases hx;exact k9 hd
def eG(cq:Nat):eB arY:=λx=>match gW cq x with
 |.ok (u,t)=>.ok (t.take u,t.drop u)
 |.error e=>.error e
def Bn(cq:Nat)(hm:cq<18446744073709551616):ej (eG cq) iq (λs=>s.length≤cq) where
 rt:=λs t h=>by
  unfold eG iq;rw [List.append_assoc,acI h hm (by simp)]
  simp
 eN:=λx s t hx=>by
  unfold eG at hx;split at hx
  ·rename_i od t0 hd;obtain⟨Z,ab,aq⟩:=kL hd;cases hx;have:(t0.take od).length=od:=by simp;omega
   unfold iq;rw [this];exact⟨by rw [List.append_assoc,List.take_append_drop,Z],by omega⟩
  ·cases hx
 bZ:=λx e hx=>by
  unfold eG at hx;split at hx
  ·cases hx
  ·rename_i cc hd;cases hx;exact k9 hd
def pC:eB Bool
 |[]=>.error 6
 |c::t=>if 1<c.toNat then .error 5 else .ok (decide (c.toNat=1),t)
def UY(b:Bool):arY:=if b then[1] else[0]
def F8:ej pC UY (λ_=>True) where
 rt:=λb t _=>by cases b<;>rfl
 eN:=
  λx b t hx=>by
  cases x with
  |nil=>cases hx
  |cons c x=>
   simp only [pC]at hx;by_cases Z:1<c.toNat
   ·rw [if_pos Z]at hx;cases hx
   ·rw [if_neg Z]at hx;cases hx;refine⟨?_,trivial⟩
    unfold UY;by_cases ab:c.toNat=1
    ·rw [decide_eq_true ab];have:c=1:=UInt8.toNat_inj.1 (by simpa using ab)
     rw [this];rfl
    ·rw [decide_eq_false ab];have:c=0:=UInt8.toNat_inj.1 (by simp;omega)
     rw [this];rfl
 bZ:=λx e hx=>by
  cases x with
  |nil=>cases hx;omega
  |cons c x=>
   simp only [pC]at hx;by_cases Z:1<c.toNat
   ·rw [if_pos Z]at hx;cases hx;omega
   ·rw [if_neg Z]at hx;cases hx
def rD(u:Nat):gF u≠[]:=by rw [gF];split<;>simp
def UZ{α:Type}(v:α):eB α:=λx=>.ok (v,x)
def acJ{α:Type}(v:α):ej (UZ v) (λ_=>[]) (λw=>w=v) where
 rt:=λw t h=>by subst h;rfl
 eN:=λx w t h=>by cases h;exact⟨rfl,rfl⟩
 bZ:=λx e h=>by cases h
def ej.as{α:Type}{D:eB α}{E:α→arY}{ok:α→Prop}(h:ej D E ok)(dj:α→arY)(Bm:α→Prop)(Z:∀v,Bm v↔ok v)(ab:∀v,ok v→dj v=E v):ej D dj Bm where
 rt:=λv t ax=>by rw [ab v ((Z v).1 ax)];exact h.rt v t ((Z v).1 ax)
 eN:=λx v t hx=>by
  obtain⟨aq,aN⟩:=h.eN x v t hx;exact⟨by rw [ab v aN];exact aq,(Z v).2 aN⟩
 bZ:=h.bZ
def jm(lo hi:Int):eB Int:=jP (λz=>decide (lo≤z)&&decide (z≤hi)) 5 gK
def F9{lo hi:Int}(h0:0≤lo)(Z:hi<18446744073709551616):ej (jm lo hi) l2 (λz=>lo≤z∧z≤hi):=
 (ir.chk _ 5 (by omega)).as _ _ (λv=>by simp only [Bool.and_eq_true,decide_eq_true_eq,jk];omega) (λ_ _=>rfl)
def xW(k:Int):eB bk:=if k=0 then UZ ⟨0,0,[]⟩else if k=1 then eX (λn=>⟨1,n,[]⟩) gG else if k=2 then jP (λv=>i7 v.S) 5 (eX (λs=>⟨2,0,s⟩) (eG 64))else λ_=>.error 5
def i8:eB bk:=eX Prod.snd (dF gK xW)
def ve(v:bk):Prop:=ko v=true∧lC v.N
def acK{s:arY}(h:i7 s=true):s.length≤64:=by
 unfold i7 at h;simp only [Bool.and_eq_true,decide_eq_true_eq]at h;exact h.2
def xX{v:bk}(h:ko v=true):v=⟨0,0,[]⟩∨(v.Kind=1∧v.S=[])∨(v.Kind=2∧v.N=0∧i7 v.S=true):=by
 obtain⟨k,n,s⟩:=v;unfold ko at h;simp only at h ⊢
 split at h
 ·rename_i h0;simp only [Bool.and_eq_true,decide_eq_true_eq]at h;obtain⟨rfl,rfl⟩:=h;exact .inl (by rw [h0])
 ·split at h
  ·rename_i Z;exact .inr (.inl ⟨Z,by simpa using h⟩)
  ·simp only [Bool.and_eq_true,decide_eq_true_eq]at h;exact .inr (.inr ⟨h.1.1,h.1.2,h.2⟩)
def n3:ej i8 ci ve:=by
 have eI:∀k,jk k→ej (xW k) (λv=>if k=1 then qA v.N else if k=2 then iq v.S else[]) (λv=>ve v∧v.Kind=k):=by
  intro k hk;unfold xW;by_cases h0:k=0
  ·subst h0;rw [if_pos rfl];refine(acJ _).as _ _ (λv=>⟨fun⟨⟨Z,ab⟩,aq⟩=>?_,λh=>?_⟩) (λv _=>?_)
   ·rcases xX Z with h|h|h
    ·exact h
    ·exact absurd (h.1.symm.trans aq) (by omega)
    ·exact absurd (h.1.symm.trans aq) (by omega)
   ·subst h;exact⟨⟨rfl,by unfold lC;simp⟩,rfl⟩
   ·simp
  ·rw [if_neg h0];by_cases Z:k=1
   ·subst Z;rw [if_pos rfl];refine ht.map _ (λv=>v.N) _ _ (λv ⟨⟨ab,aq⟩,aN⟩=>⟨?_,aq,by simp⟩) (λn hn=>⟨rfl,⟨⟨by simp [ko],hn⟩,rfl⟩⟩)
    rcases xX ab with h|h|h
    ·rw [h]at aN;exact absurd aN (by simp)
    ·obtain⟨a,b,c⟩:=v;simp only at h aN ⊢;rw [aN,h.2]
    ·exact absurd (h.1.symm.trans aN) (by omega)
   ·rw [if_neg Z];by_cases ab:k=2
    ·subst ab;rw [if_pos rfl];refine(((Bn 64 (by omega)).map (λs=>(⟨2,0,s⟩:bk)) (λv=>v.S) (λv=>v.Kind=2∧v.N=0∧v.S.length≤64) (λv=>iq v.S) (λv ⟨aq,aN,bn⟩=>⟨?_,bn,rfl⟩) (λs hs=>⟨rfl,rfl,rfl,hs⟩)).chk _ 5 (by omega)).as _ _ (λv=>⟨fun⟨⟨aq,aN⟩,bn⟩=>?_,fun⟨⟨aq,aN,bn⟩,cd⟩=>?_⟩) (λv _=>by simp)
     ·obtain⟨a,b,c⟩:=v;simp only at aq aN ⊢;rw [aq,aN]
     ·rcases xX aq with h|h|h
      ·rw [h]at bn;exact absurd bn (by simp)
      ·exact absurd (h.1.symm.trans bn) (by omega)
      ·exact⟨⟨h.1,h.2.1,acK h.2.2⟩,h.2.2⟩
     ·refine⟨⟨?_,by rw [aN];unfold lC;omega⟩,aq⟩
      unfold ko;rw [aq,aN];simp [cd]
    ·rw [if_neg ab]
     exact {
      rt:=λv t ⟨⟨aq,aN⟩,bn⟩=>by
       exfalso
       rcases xX aq with h|h|h
       ·rw [h]at bn;exact h0 bn.symm
       ·exact Z (bn.symm.trans h.1)
       ·exact ab (bn.symm.trans h.1)
      eN:=λx v t h=>by cases h
      bZ:=λx e h=>by cases h;omega}
 refine(ir.dep eI).map Prod.snd (λv=>(v.Kind,v)) ve ci (λv ax=>⟨rfl,⟨?_,ax,rfl⟩,?_⟩) (fun⟨k,v⟩ ⟨Z,ab,aq⟩=>⟨congrArg (·,v) aq,ab⟩)
 ·rcases xX ax.1 with h|h|h
  ·rw [h];unfold jk;simp
  ·unfold jk;rw [h.1];omega
  ·unfold jk;rw [h.1];omega
 ·unfold ci l2;rcases xX ax.1 with h|h|h
  ·rw [h];simp
  ·simp only [h.1];rfl
  ·simp only [h.1];rfl
def aoE(v:bk):ci v≠[]:=by
 unfold ci;split
 ·simp [rD]
 ·split
  ·simp [rD]
  ·exact rD _
def res{α:Type}(z:α)(s:arY):Except Int (α×arY)→α×Int×Int
 |.ok (v,t)=>(v,((s.length-t.length:Nat):Int),0)
 |.error e=>(z,0,e)
def aT(s t:arY):Int:=((s.length-t.length:Nat):Int)
def xY(p t:arY):aT (p++t) t=(p.length:Int):=by unfold aT;simp
def U0(s:arY):aT s s=0:=by unfold aT;simp
def cR{α:Type}{z:α}{s t:arY}{v:α}:res z s (.ok (v,t))=(v,aT s t,0):=rfl
def b9{α:Type}{z:α}{s:arY}{e:Int}:res z s (.error e)=(z,0,e):=rfl
def F'{α β:Type}{F4:β}{s:arY}{f:α→β}{D:eB α}{t:arY}:res F4 s (eX f D t)=match D t with|.ok (v,t)=>(f v,aT s t,0)|.error e=>(F4,0,e):=by
 unfold eX;cases D t<;>rfl
def U1(p x:arY)(i:Nat):(p++x).getD (p.length+i) 0=x.getD i 0:=by
 simp [List.getD_eq_getElem?_getD,List.getElem?_append_right]
def aoF:∀x:Nat,x<256→pO .u8 (x:Int) 127=((x % 128:Nat):Int):=by decide +kernel
def aoG{a b i:Nat}(h:a<2 ^ i)(hb:a+2 ^ i*b<18446744073709551616):rT .u64 (a:Int) ((2 ^ i*b:Nat):Int)=((a+2 ^ i*b:Nat):Int):=by
 unfold rT
 have e:((BitVec.ofInt (IntKind.bits .u64) (a:Int) |||BitVec.ofInt (IntKind.bits .u64) ((2 ^ i*b:Nat):Int)).toNat)=a+2 ^ i*b:=by
  rw [BitVec.toNat_or,BitVec.toNat_ofInt,BitVec.toNat_ofInt];simp only [IntKind.bits];rw [show(((a:Int) % ((2 ^ 64:Nat):Int)).toNat)=a by omega,show((((2 ^ i*b:Nat):Int) % ((2 ^ 64:Nat):Int)).toNat)=2 ^ i*b by omega]
  rw [Nat.or_comm,←Nat.two_pow_add_eq_or_of_lt h,Nat.add_comm]
 rw [e,pA hb]
def aoH{c i:Nat}(hi:i≤63)(h:2 ^ i*c<18446744073709551616):rU .u64 (c:Int) (i:Int)=((2 ^ i*c:Nat):Int):=by
 unfold rU
 (simp only [arP];rw [show min i (IntKind.bits .u64)=i by simp only [IntKind.bits];omega,show(c:Int)*2 ^ i=((2 ^ i*c:Nat):Int)by rw [Nat.mul_comm];norm_cast,pA h])
def U2{i c:Nat}(hi:i≤9)(hc:c<128)(iG:i=9→c≤1):2 ^ (7*i)*c<18446744073709551616∧∀a,a<2 ^ (7*i)→a+2 ^ (7*i)*c<18446744073709551616:=by
 have h:i=0∨i=1∨i=2∨i=3∨i=4∨i=5∨i=6∨i=7∨i=8∨i=9:=by omega
 rcases h with h|h|h|h|h|h|h|h|h|h<;>subst h<;>simp only [Nat.reduceMul,Nat.reducePow]<;>(try have:=iG rfl)<;>exact⟨by omega,λa ha=>by omega⟩
def xZ{i:Nat}(h:i≤9223372036854775807):ar0 (i:Int)=(i:Int):=by rw [wr]<;>omega
def aoI(n a:Nat):∀(k m i:Nat) (x pre:arY) (acc:Nat),i+k=10→pre.length=a+i→acc<2 ^ (7*i)→k<m→(pre++x).length≤4611686018427387904→
 Dl n (pre++x) (a:Int) m (i:Int) (acc:Int)=some (match kK k x with|.ok (u,t)=>(((acc+2 ^ (7*i)*u:Nat):Int),aT (pre++x) t,0)|.error e=>(0,0,e)):=by
 intro k;induction k with
 |zero=>
  intro m i x pre acc hi hp ha hm ae;obtain⟨m,rfl⟩:∃j,m=j+1:=⟨m-1,by omega⟩
  obtain rfl:i=10:=by omega
  rfl
 |succ k aR=>
  intro m i x pre acc hi hp ha hm ae;obtain⟨m,rfl⟩:∃j,m=j+1:=⟨m-1,by omega⟩
  have aoJ:(pre++x).length=pre.length+x.length:=List.length_append;have e1:ar0 ((a:Int)+(i:Int))=((pre.length:Nat):Int):=by rw [wr]<;>omega
  have MB:i≤9:=by omega
  simp only [Dl,QC,e1];rw [show(decide ((i:Int)<10))=true from decide_eq_true (by omega)]
  simp only [arJ];cases x with
  |nil=>
   simp only [List.append_nil,Int.le_refl,arH,arJ,kK]
  |cons c x=>
   have hlen:(pre++c::x).length=pre.length+(x.length+1):=by simp
   have hg:(pre++c::x).getD pre.length 0=c:=by
    have:=U1 pre (c::x) 0
    simpa using this
   have hc:=c.toNat_lt;rw [show(decide ((((pre++c::x).length:Nat):Int)≤((pre.length:Nat):Int)))=false from decide_eq_false (by omega)]
   simp only [arK,cm (show pre.length<(pre++c::x).length by omega),a6,arP,hg]
   have e2:ar0 (7*(i:Int))=((7*i:Nat):Int):=by rw [wr]<;>omega
   have e3:ar0 (((pre.length:Nat):Int)+1)=((pre.length+1:Nat):Int):=bx (by omega)
   have gg:ar0 ((i:Int)+1)=((i+1:Nat):Int):=bx (by omega)
   have lh:aT (pre++c::x) x=((pre.length+1:Nat):Int):=by
    have:=xY (pre++[c]) x
    simpa using this
   unfold kK;by_cases F_:k=0∧1<c.toNat∨c.toNat=0∧k<9
   ·rw [if_pos F_,show(bif (bif (decide ((i:Int)=9)) then(decide (1<((c.toNat:Nat):Int)))else false)then true else(bif (decide (((c.toNat:Nat):Int)=0)) then(decide (0<(i:Int)))else false))=true by
     rw [dJ,dV,dV,←Bool.decide_and,←Bool.decide_and,←Bool.decide_or];exact decide_eq_true (by omega)]
    rfl
   ·rw [if_neg F_,show(bif (bif (decide ((i:Int)=9)) then(decide (1<((c.toNat:Nat):Int)))else false)then true else(bif (decide (((c.toNat:Nat):Int)=0)) then(decide (0<(i:Int)))else false))=false by
     rw [dJ,dV,dV,←Bool.decide_and,←Bool.decide_and,←Bool.decide_or];exact decide_eq_false (by omega)]
    have hb:=U2 (c:=c.toNat % 128) MB (by omega) (by omega)
    have pw:rT .u64 (acc:Int) (rU .u64 (IntKind.u64.wrap (pO .u8 ((c.toNat:Nat):Int) 127)) (ar0 (7*(i:Int))))=((acc+2 ^ (7*i)*(c.toNat % 128):Nat):Int):=by
     rw [aoF _ hc,pA (by omega),e2,aoH (by omega) hb.1,aoG ha (hb.2 acc ha)]
    simp only [arK,pw,e3,gg];rw [e2,show n6 ((7*i:Nat):Int)=true by simp only [n6,decide_eq_true_eq];omega,a6]
    by_cases hs:c.toNat<128
    ·rw [if_pos hs,show(decide (((c.toNat:Nat):Int)<128))=true from decide_eq_true (by omega)]
     simp only [arJ,lh,Nat.mod_eq_of_lt hs]
    ·rw [if_neg hs,show(decide (((c.toNat:Nat):Int)<128))=false from decide_eq_false (by omega)]
     have tR:2 ^ (7*(i+1))=2 ^ (7*i)*128:=by rw [show 7*(i+1)=7*i+7 by omega,Nat.pow_add]
     have na:=aR m (i+1) x (pre++[c]) (acc+2 ^ (7*i)*(c.toNat % 128)) (by omega) (by simp;omega) (by
      rw [tR];have Z:2 ^ (7*i)*(c.toNat % 128)≤2 ^ (7*i)*127:=Nat.mul_le_mul_left _ (by omega)
      omega) (by omega) (by simp at ae ⊢;omega)
     rw [show pre++[c]++x=pre++c::x by simp]at na
     simp only [arK];rw [na]
     congr 1
     cases kK k x with
     |error e=>rfl
     |ok r=>
      obtain⟨u,t⟩:=r;simp only
      rw [tR,Nat.mul_add,Nat.mul_assoc,Nat.add_assoc]
def MC{n:Nat}{s t:arY}(h:t <:+ s):wN n s (aT s t)=some false:=by
 unfold wN aT;have:=h.length_le
 rw [decide_eq_false (by omega),decide_eq_false (by omega)];rfl
def Bo{n:Nat}{s t:arY}(aA:t <:+ s)(hs:s.length≤4611686018427387904)(hn:12≤n):sv n s (aT s t)=some (res 0 s (gK t)):=by
 unfold sv;rw [MC (n:=n) aA];obtain⟨pre,rfl⟩:=aA;rw [xY,an,arK];refine(aoI n pre.length 10 n 0 t pre 0 (by omega) (by omega) (by simp) (by omega) hs).trans (congrArg some ?_)
 unfold gK oQ;rw [F'];cases kK 10 t with
 |error e=>rfl
 |ok r=>obtain⟨u,bq⟩:=r;simp
def aoK(n a:Nat):∀(k m i:Nat) (x pre:arY) (acc:Nat),i+k=10→pre.length=a+i→acc<2 ^ (7*i)→k<m→(pre++x).length≤4611686018427387904→
 Ey n (pre++x) (a:Int) m (acc:Int) (IntKind.u64.wrap ((2 ^ (7*i):Nat):Int)) (i:Int)=some (match kK k x with|.ok (u,t)=>(((acc+2 ^ (7*i)*u:Nat):Int),aT (pre++x) t,0)|.error e=>(0,0,e)):=by
 intro k;induction k with
 |zero=>
  intro m i x pre acc hi hp ha hm ae;obtain⟨m,rfl⟩:∃j,m=j+1:=⟨m-1,by omega⟩
  obtain rfl:i=10:=by omega
  rfl
 |succ k aR=>
  intro m i x pre acc hi hp ha hm ae;obtain⟨m,rfl⟩:∃j,m=j+1:=⟨m-1,by omega⟩
  have aoJ:(pre++x).length=pre.length+x.length:=List.length_append;have e1:ar0 ((a:Int)+(i:Int))=((pre.length:Nat):Int):=by rw [wr]<;>omega
  have MB:i≤9:=by omega
  simp only [Ey,Sx,e1];rw [show(decide ((i:Int)<10))=true from decide_eq_true (by omega)]
  simp only [arJ];cases x with
  |nil=>
   simp only [List.append_nil,Int.le_refl,arH,arJ,kK]
  |cons c x=>
   have hlen:(pre++c::x).length=pre.length+(x.length+1):=by simp
   have hg:(pre++c::x).getD pre.length 0=c:=by
    have:=U1 pre (c::x) 0
    simpa using this
   have hc:=c.toNat_lt;rw [show(decide ((((pre++c::x).length:Nat):Int)≤((pre.length:Nat):Int)))=false from decide_eq_false (by omega)]
   simp only [arK,cm (show pre.length<(pre++c::x).length by omega),a6,arP,hg]
   have e3:ar0 (((pre.length:Nat):Int)+1)=((pre.length+1:Nat):Int):=bx (by omega)
   have gg:ar0 ((i:Int)+1)=((i+1:Nat):Int):=bx (by omega)
   have lh:aT (pre++c::x) x=((pre.length+1:Nat):Int):=by
    have:=xY (pre++[c]) x
    simpa using this
   unfold kK;by_cases F_:k=0∧1<c.toNat∨c.toNat=0∧k<9
   ·rw [if_pos F_,show(bif (bif (decide ((i:Int)=9)) then(decide (1<((c.toNat:Nat):Int)))else false)then true else(bif (decide (((c.toNat:Nat):Int)=0)) then(decide (0<(i:Int)))else false))=true by
     rw [dJ,dV,dV,←Bool.decide_and,←Bool.decide_and,←Bool.decide_or];exact decide_eq_true (by omega)]
    rfl
   ·rw [if_neg F_,show(bif (bif (decide ((i:Int)=9)) then(decide (1<((c.toNat:Nat):Int)))else false)then true else(bif (decide (((c.toNat:Nat):Int)=0)) then(decide (0<(i:Int)))else false))=false by
     rw [dJ,dV,dV,←Bool.decide_and,←Bool.decide_and,←Bool.decide_or];exact decide_eq_false (by omega)]
    have hb:=U2 (c:=c.toNat % 128) MB (by omega) (by omega)
    have hw:=U2 (i:=i) (c:=1) MB (by omega) (by omega)
    have tR:2 ^ (7*(i+1))=2 ^ (7*i)*128:=by rw [show 7*(i+1)=7*i+7 by omega,Nat.pow_add]
    have cc:IntKind.u64.wrap ((2 ^ (7*i):Nat):Int)=((2 ^ (7*i):Nat):Int):=pA (by omega)
    have pw:IntKind.u64.wrap ((acc:Int)+IntKind.u64.wrap (IntKind.u64.wrap (Int.tmod ((c.toNat:Nat):Int) 128)*((2 ^ (7*i):Nat):Int)))=((acc+2 ^ (7*i)*(c.toNat % 128):Nat):Int):=by
     rw [Int.tmod_eq_emod_of_nonneg (by omega),show((c.toNat:Nat):Int) % 128=((c.toNat % 128:Nat):Int)by omega,pA (by omega),show((c.toNat % 128:Nat):Int)*((2 ^ (7*i):Nat):Int)=((2 ^ (7*i)*(c.toNat % 128):Nat):Int)by rw [←Int.natCast_mul,Nat.mul_comm (c.toNat % 128)],pA hb.1]
     have:=pA (hb.2 acc ha)
     rwa [Int.natCast_add]at this
    have oI:IntKind.u64.wrap (((2 ^ (7*i):Nat):Int)*128)=IntKind.u64.wrap ((2 ^ (7*(i+1)):Nat):Int):=by rw [tR];norm_cast
    simp only [arK,cc,pw,e3,gg,oI];by_cases hs:c.toNat<128
    ·rw [if_pos hs,show(decide (((c.toNat:Nat):Int)<128))=true from decide_eq_true (by omega)]
     simp only [arJ,lh,Nat.mod_eq_of_lt hs]
    ·rw [if_neg hs,show(decide (((c.toNat:Nat):Int)<128))=false from decide_eq_false (by omega)]
     have na:=aR m (i+1) x (pre++[c]) (acc+2 ^ (7*i)*(c.toNat % 128)) (by omega) (by simp;omega) (by
      rw [tR];have Z:2 ^ (7*i)*(c.toNat % 128)≤2 ^ (7*i)*127:=Nat.mul_le_mul_left _ (by omega)
      omega) (by omega) (by simp at ae ⊢;omega)
     rw [show pre++[c]++x=pre++c::x by simp]at na
     simp only [arK];rw [na]
     congr 1
     cases kK k x with
     |error e=>rfl
     |ok r=>
      obtain⟨u,t⟩:=r;simp only
      rw [tR,Nat.mul_add,Nat.mul_assoc,Nat.add_assoc]
def tj{n:Nat}{s t:arY}(aA:t <:+ s)(hs:s.length≤4611686018427387904)(hn:12≤n):qk n s (aT s t)=some (res 0 s (gK t)):=by
 have aw:=MC (n:=n) aA;unfold wN at aw;unfold qk;rw [Option.some.inj aw];obtain⟨pre,rfl⟩:=aA;rw [xY,arK];refine(aoK n pre.length 10 n 0 t pre 0 (by omega) (by omega) (by simp) (by omega) hs).trans (congrArg some ?_)
 unfold gK oQ;rw [F'];cases kK 10 t with
 |error e=>rfl
 |ok r=>obtain⟨u,bq⟩:=r;simp
def dh{e:Int}(h:e≠0):(!decide (e=0))=true:=by simp [h]
def MD{t bq:arY}{u:Nat}(h:oQ t = .ok (u,bq)):gK t = .ok ((u:Int),bq):=by simp only [gK,eX,h]
def ME{t:arY}{e:Int}(h:oQ t = .error e):gK t = .error e:=by simp only [gK,eX,h]
def aoL{u:Nat}(h:u<18446744073709551616):pO .u64 (u:Int) 1=((u % 2:Nat):Int):=by
 unfold pO
 have e:((BitVec.ofInt (IntKind.bits .u64) (u:Int) &&& BitVec.ofInt (IntKind.bits .u64) 1).toNat)=u % 2:=by
  rw [BitVec.toNat_and,BitVec.toNat_ofInt,BitVec.toNat_ofInt];simp only [IntKind.bits];rw [show(((u:Int) % ((2 ^ 64:Nat):Int)).toNat)=u by omega,show(((1:Int) % ((2 ^ 64:Nat):Int)).toNat)=1 by decide,Nat.and_one_is_mod]
 rw [e,pA (by omega)]
def aoM{u:Nat}:rV .u64 (u:Int) 1=((u / 2:Nat):Int):=by
 unfold rV;rw [show min (1:Int).toNat (IntKind.bits .u64)=1 by decide,Int.fdiv_eq_ediv_of_nonneg _ (by omega)]
 omega
def aoN{a:Nat}(h:a<9223372036854775808):oY .i64 (a:Int) 0=(a:Int):=by
 unfold oY;rw [show BitVec.ofInt (IntKind.bits .i64) 0=0#_ from rfl,BitVec.xor_zero]
 rw [show((BitVec.ofInt (IntKind.bits .i64) (a:Int)).toNat:Int)=(a:Int) by
  rw [BitVec.toNat_ofInt];simp only [IntKind.bits];omega]
 exact xZ (by omega)
def aoO{a:Nat}(h:a<9223372036854775808):oY .i64 (a:Int) (-1) = -(a:Int)-1:=by
 unfold oY;rw [show BitVec.ofInt (IntKind.bits .i64) (-1)=BitVec.allOnes _ by decide,BitVec.xor_allOnes]
 rw [show((~~~ BitVec.ofInt (IntKind.bits .i64) (a:Int)).toNat:Int)=((18446744073709551615-a:Nat):Int) by
  rw [BitVec.toNat_not,BitVec.toNat_ofInt];simp only [IntKind.bits];omega]
 (try unfold ar0);rw [IntKind.wrap_i64];omega
def aoP{u:Nat}(h:u<18446744073709551616):oY .i64 (ar0 (rV .u64 (u:Int) 1)) (ar0 (0-(ar0 (pO .u64 (u:Int) 1))))=vc u:=by
 rw [aoM,aoL h,xZ (i:=u / 2) (by omega),xZ (i:=u % 2) (by omega)]
 unfold vc;by_cases ab:u % 2=1
 ·rw [if_pos ab,ab,show ar0 (0-((1:Nat):Int)) = -1 by decide,aoO (by omega)]
 ·rw [if_neg ab,show u % 2=0 by omega,show ar0 (0-((0:Nat):Int))=0 by decide,aoN (by omega)]
def aoQ{n u:Nat}(h:u<18446744073709551616):KD n (u:Int)=some (vc u):=by
 unfold KD vc;rw [Int.tmod_eq_emod_of_nonneg (by omega),Int.tdiv_eq_ediv_of_nonneg (by omega),show IntKind.u64.wrap ((u:Int) / 2)=((u / 2:Nat):Int)by rw [IntKind.wrap_u64];omega,xZ (by omega)]
 by_cases ab:u % 2=1
 ·rw [if_pos ab,show decide (((u:Int)) % 2=1)=true from decide_eq_true (by omega),arJ]
  congr 1
  rw [wr (x:=0-((u / 2:Nat):Int)) (by omega) (by omega),wr]<;>omega
 ·rw [if_neg ab,show decide (((u:Int)) % 2=1)=false from decide_eq_false (by omega),arK]
def U3{n:Nat}{s t:arY}(aA:t <:+ s)(hs:s.length≤4611686018427387904)(hn:12≤n):zm n s (aT s t)=some (res 0 s (gG t)):=by
 unfold zm gG eX;rw [Bo aA hs hn,an];cases h:oQ t with
 |error e=>
  rw [ME h,b9];simp only [dh (n0.bZ _ _ h),arJ,b9]
 |ok r=>
  obtain⟨u,bq⟩:=r;rw [MD h,cR];simp only [arH,arL,arK,aoP (n0.eN _ _ _ h).2,cR]
def vf{n:Nat}{s t:arY}(aA:t <:+ s)(hs:s.length≤4611686018427387904)(hn:12≤n):nL n s (aT s t)=some (res 0 s (gG t)):=by
 unfold nL gG eX;rw [tj aA hs hn,an];cases h:oQ t with
 |error e=>
  rw [ME h,b9];simp only [dh (n0.bZ _ _ h),arJ,b9]
 |ok r=>
  obtain⟨u,bq⟩:=r;rw [MD h,cR];simp only [arH,arL,arK,aoQ (n0.eN _ _ _ h).2,an,cR]
def pD(cq:Nat):eB Int:=eX (λu:Nat=>(u:Int)) (gW cq)
def acL{s t:arY}(aA:t <:+ s)(hs:s.length≤4611686018427387904):IntKind.u64.wrap (ar0 (((s.length:Nat):Int)-aT s t))=((t.length:Nat):Int):=by
 have:=aA.length_le
 unfold aT;rw [wr (by omega) (by omega),IntKind.wrap_u64];omega
def acM{t bq:arY}{u:Nat}(h:oQ t = .ok (u,bq)):bq <:+ t:=n0.hZ h
def acN{n cq:Nat}{s t:arY}(aA:t <:+ s)(hs:s.length≤4611686018427387904)(hm:cq<9223372036854775808)(r:Int×Int×Int)(ai:r=res 0 s (gK t)):
 (bif (!decide (r.2.2=0))then some ((0:Int),(0:Int),r.2.2) else(bif (bif (decide ((cq:Int)<0))then true else(decide ((IntKind.u64.wrap (cq:Int))<r.1)))then some (0,0,2) else(bif (decide ((IntKind.u64.wrap (ar0 (((s.length:Nat):Int)-r.2.1)))<r.1))then some (0,0,6)else some ((ar0 r.1),r.2.1,0))))=some (res 0 s (pD cq t)):=by
 subst ai;unfold pD;rw [F'];unfold gW;cases h:oQ t with
 |error e=>
  rw [ME h,b9];simp only [dh (n0.bZ _ _ h),arJ]
 |ok r=>
  obtain⟨u,bq⟩:=r;have hu:=(n0.eN _ _ _ h).2;have dd:bq <:+ s:=(acM h).trans aA;have ae:=dd.length_le;rw [MD h,cR];simp only [arH,arL,arK,acL dd hs,pA (show cq<18446744073709551616 by omega),show¬ ((cq:Int)<0)by omega,arI,arQ]
  by_cases Z:cq<u
  ·simp only [Z,arH,arJ,arW]
  ·by_cases ab:bq.length<u
   ·simp only [Z,ab,arH,arI,arJ,arK,arW,arX]
   ·simp only [Z,ab,arI,arK,arX,xZ (show u≤9223372036854775807 by omega)]
def vg{n cq:Nat}{s t:arY}(aA:t <:+ s)(hs:s.length≤4611686018427387904)(hm:cq<9223372036854775808)(hn:12≤n):qe n s (aT s t) (cq:Int)=some (res 0 s (pD cq t)):=by
 unfold qe;rw [Bo aA hs hn,an];exact acN (n:=n) aA hs hm _ rfl
def tk{n cq:Nat}{s t:arY}(aA:t <:+ s)(hs:s.length≤4611686018427387904)(hm:cq<9223372036854775808)(hn:12≤n):pn n s (aT s t) (cq:Int)=some (res 0 s (pD cq t)):=by
 unfold pn;rw [tj aA hs hn,an];exact acN (n:=n) aA hs hm _ rfl
def lD{cq u:Nat}{t bq:arY}(h:gW cq t = .ok (u,bq)):pD cq t = .ok ((u:Int),bq):=by simp only [pD,eX,h]
def lE{cq:Nat}{t:arY}{e:Int}(h:gW cq t = .error e):pD cq t = .error e:=by simp only [pD,eX,h]
def acO{s t:arY}{u:Nat}(aA:t <:+ s)(hs:s.length≤4611686018427387904)(hu:u≤t.length):
 ar0 (aT s t+(u:Int))=aT s (t.drop u)∧lG (aT s t) (aT s (t.drop u)) s.length=true∧(s.take (aT s (t.drop u)).toNat).drop (aT s t).toNat=t.take u:=by
 have ae:=aA.length_le;have e:aT s (t.drop u)=aT s t+(u:Int):=by unfold aT;simp;omega
 refine⟨?_,?_,?_⟩
 ·rw [e];unfold aT;rw [wr]<;>omega
 ·rw [e];unfold aT lG;simp;omega
 ·rw [e];obtain⟨pre,rfl⟩:=aA
  (rw [xY,show(((pre.length:Nat):Int)+(u:Int)).toNat=pre.length+u by omega];simp only [arP];rw [List.drop_take])
  simp
def Ga{n cq:Nat}{s t:arY}(aA:t <:+ s)(hs:s.length≤4611686018427387904)(hm:cq<9223372036854775808)(hn:12≤n):un n s (aT s t) (cq:Int)=some (res [] s (eG cq t)):=by
 unfold un eG;rw [vg aA hs hm hn,an];cases h:gW cq t with
 |error e=>
  rw [lE h,b9];simp only [dh (k9 h),arJ,b9]
 |ok r=>
  obtain⟨u,bq⟩:=r;obtain⟨Z,ab,aq⟩:=kL h;have dd:bq <:+ s:=List.IsSuffix.trans ⟨gF u,Z.symm⟩ aA;obtain⟨g1,g2,g3⟩:=acO dd hs aq;rw [lD h,cR];simp only [arH,arL,arK,g1,g2,g3,a6,cR]
def vh{n cq:Nat}{s t:arY}(aA:t <:+ s)(hs:s.length≤4611686018427387904)(hm:cq<9223372036854775808)(hn:12≤n):ql n s (aT s t) (cq:Int)=some (res [] s (eG cq t)):=by
 unfold ql eG gW;rw [tj aA hs hn,an];cases h:oQ t with
 |error e=>
  rw [ME h,b9];simp only [dh (n0.bZ _ _ h),arJ,b9]
 |ok r=>
  obtain⟨u,bq⟩:=r;have hu:=(n0.eN _ _ _ h).2;have dd:bq <:+ s:=(acM h).trans aA;have ae:=dd.length_le;rw [MD h,cR];simp only [arH,arL,arK,acL dd hs,pA (show cq<18446744073709551616 by omega),show¬ ((cq:Int)<0)by omega,arI,arQ]
  by_cases Z:cq<u
  ·simp only [Z,arH,arJ,arW,b9]
  ·by_cases ab:bq.length<u
   ·simp only [Z,ab,arH,arI,arJ,arK,arW,arX,b9]
   ·obtain⟨g1,g2,g3⟩:=acO (u:=u) dd hs (by omega)
    simp only [Z,ab,arI,arK,arX,xZ (show u≤9223372036854775807 by omega),g1,g2,g3,a6,cR]
def acP{n:Nat}{s t:arY}(aA:t <:+ s)(hs:s.length≤4611686018427387904):
 (bif (decide (aT s t=((s.length:Nat):Int)))then some (false,(0:Int),(6:Int)) else(av (aM (aT s t) s.length)<|bif (decide (1<(((s.getD (aT s t).toNat 0).toNat:Nat):Int)))then some (false,0,5) else(av (aM (aT s t) s.length)<|some ((decide ((((s.getD (aT s t).toNat 0).toNat:Nat):Int)=1)),(ar0 (aT s t+1)),0))))=some (res false s (pC t)):=by
 obtain⟨pre,rfl⟩:=aA;rw [xY];cases t with
 |nil=>simp [pC,res]
 |cons c t=>
  have hg:(pre++c::t).getD pre.length 0=c:=by
   have:=U1 pre (c::t) 0
   simpa using this
  have hlen:(pre++c::t).length=pre.length+(t.length+1):=by simp
  have e3:ar0 (((pre.length:Nat):Int)+1)=((pre.length+1:Nat):Int):=bx (by omega)
  have lh:aT (pre++c::t) t=((pre.length+1:Nat):Int):=by
   have:=xY (pre++[c]) t
   simpa using this
  rw [show decide (((pre.length:Nat):Int)=(((pre++c::t).length:Nat):Int))=false from decide_eq_false (by omega)]
  simp only [arK,cm (show pre.length<(pre++c::t).length by omega),a6,arP,hg,e3,fF,fA,pC]
  by_cases h:1<c.toNat
  ·simp only [h,arH,arJ,arW,b9]
  ·simp only [h,arI,arK,arX,cR,lh]
def aoR{n:Nat}{s t:arY}(aA:t <:+ s)(hs:s.length≤4611686018427387904):IY n s (aT s t)=some (res false s (pC t)):=by
 unfold IY;rw [MC aA,an,arK];exact acP (n:=n) aA hs
def aoS{n:Nat}{s t:arY}(aA:t <:+ s)(hs:s.length≤4611686018427387904):KR n s (aT s t)=some (res false s (pC t)):=by
 have aw:=MC (n:=n) aA;unfold wN at aw;unfold KR;rw [Option.some.inj aw,arK];exact acP (n:=n) aA hs
def acQ(t:arY):i8 t=match gK t with|.ok (k,bq)=>xW k bq|.error e=>.error e:=by
 unfold i8 eX dF;cases gK t with
 |error e=>rfl
 |ok r=>
  obtain⟨k,bq⟩:=r;simp only
  cases xW k bq with
  |error e=>rfl
  |ok r=>rfl
def eH{α:Type}{D:eB α}{E:α→arY}{ok:α→Prop}(h:ej D E ok){s x:arY}{v:α}{t:arY}(hx:D x = .ok (v,t))(hs:x <:+ s):t <:+ s:=(h.hZ hx).trans hs
def MF:ej (eG 64) iq (λs=>s.length≤64):=Bn 64 (by omega)
def jQ:ej (eG 24) iq (λs=>s.length≤24):=Bn 24 (by omega)
def U4{n:Nat}{s t:arY}(aA:t <:+ s)(hs:s.length≤4611686018427387904)(hn:70≤n):zn n s (aT s t)=some (res ⟨0,0,[]⟩ s (i8 t)):=by
 unfold zn;rw [Bo aA hs (by omega),an,acQ]
 cases h:gK t with
 |error e=>rw [b9];simp only [dh (ir.bZ _ _ h),arJ,b9]
 |ok r=>
  obtain⟨k,bq⟩:=r;have dd:=eH ir h aA;rw [cR];simp only [arH,arL,arK];unfold xW;by_cases h0:k=0
  ·subst h0;rfl
  ·by_cases Z:k=1
   ·subst Z;simp only [show¬ (1:Int)=0 by omega,arI,arK,arH,arJ,arX,arW]
    rw [U3 dd hs (by omega),an,F']
    cases ab:gG bq with
    |error e=>rw [b9];simp only [dh (ht.bZ _ _ ab),arJ]
    |ok r=>obtain⟨x,jR⟩:=r;rw [cR];simp only [arH,arL,arK,QB,an]
   ·by_cases ab:k=2
    ·subst ab;simp only [show¬ (2:Int)=0 by omega,show¬ (2:Int)=1 by omega,arI,arK,arH,arJ,arX,arW]
     rw [show(64:Int)=((64:Nat):Int)from rfl,Ga dd hs (by omega) (by omega),an]
     unfold jP eX;cases aq:eG 64 bq with
     |error e=>rw [b9];simp only [show¬ e=0 from MF.bZ _ _ aq,arI,arK,an,Dm,arM,arJ,b9]
     |ok r=>
      obtain⟨x,jR⟩:=r;have hx:=(MF.eN _ _ _ aq).2;rw [cR];simp only [arH,arJ,acs (show x.length<n by omega) (by omega),an,Dm]
      cases i7 x<;>rfl
    ·simp only [h0,Z,ab,arI,arK,arX,b9]
def U5{n:Nat}{s t:arY}(aA:t <:+ s)(hs:s.length≤4611686018427387904)(hn:70≤n):An n s (aT s t)=some (res ⟨0,0,[]⟩ s (i8 t)):=by
 unfold An;rw [tj aA hs (by omega),an,acQ]
 cases h:gK t with
 |error e=>rw [b9];simp only [dh (ir.bZ _ _ h),arJ,b9]
 |ok r=>
  obtain⟨k,bq⟩:=r;have dd:=eH ir h aA;rw [cR];simp only [arH,arL,arK];unfold xW;by_cases h0:k=0
  ·subst h0;rfl
  ·by_cases Z:k=1
   ·subst Z;simp only [show¬ (1:Int)=0 by omega,arI,arK,arH,arJ,arX,arW]
    rw [vf dd hs (by omega),an,F']
    cases ab:gG bq with
    |error e=>rw [b9];simp only [dh (ht.bZ _ _ ab),arJ]
    |ok r=>obtain⟨x,jR⟩:=r;rw [cR];simp only [arH,arL,arK,Sy,an]
   ·by_cases ab:k=2
    ·subst ab;simp only [show¬ (2:Int)=0 by omega,show¬ (2:Int)=1 by omega,arI,arK,arH,arJ,arX,arW,arL]
     rw [show(64:Int)=((64:Nat):Int)from rfl,vh dd hs (by omega) (by omega),an]
     unfold jP eX;cases aq:eG 64 bq with
     |error e=>rw [b9];simp only [dh (MF.bZ _ _ aq),arJ,b9]
     |ok r=>
      obtain⟨x,jR⟩:=r;have hx:=(MF.eN _ _ _ aq).2;rw [cR];simp only [arH,arL,arK,acu (show x.length<n by omega) (by omega),an]
      cases i7 x<;>rfl
    ·simp only [h0,Z,ab,arI,arK,arX,b9,arM,arJ]
def acR{α β R:Type}{D:eB α}{s:arY}{u:Nat}{f:Nat→α→β}{L:Nat→Nat→arY→List β→Option R}{fin:List β→arY→Option R}{bad:Int→Option R}
 (hZ:∀x v t,D x = .ok (v,t)→t <:+ x)
 (step:∀m i t acc,i<u→acc.length=i→t <:+ s→L (m+1) i t acc=match D t with|.ok (v,bq)=>L m (i+1) bq (acc++[f i v])|.error e=>bad e)
 (stop:∀m t acc,acc.length=u→t <:+ s→L (m+1) u t acc=fin acc t):
 ∀k m i t acc,i+k=u→k<m→acc.length=i→t <:+ s→L m i t acc=match fV D k t with|.ok (l,bq)=>fin (acc++(l.zipIdx i).map λp=>f p.2 p.1) bq|.error e=>bad e:=by
 intro k;induction k with
 |zero=>
  intro m i t acc hi hm ha aA;obtain⟨m,rfl⟩:∃j,m=j+1:=⟨m-1,by omega⟩
  obtain rfl:i=u:=by omega
  rw [stop m t acc ha aA];simp [fV]
 |succ k aR=>
  intro m i t acc hi hm ha aA;obtain⟨m,rfl⟩:∃j,m=j+1:=⟨m-1,by omega⟩
  rw [step m i t acc (by omega) ha aA]
  unfold fV;cases h:D t with
  |error e=>rfl
  |ok r=>
   obtain⟨v,bq⟩:=r;simp only
   rw [aR m (i+1) bq (acc++[f i v]) (by omega) (by omega) (by simp [ha]) ((hZ _ _ _ h).trans aA)]
   cases fV D k bq with
   |error e=>rfl
   |ok r=>obtain⟨l,jR⟩:=r;simp
def tl{α R:Type}{D:eB α}{s:arY}{u:Nat}{L:Nat→Nat→arY→List α→Option R}{fin:List α→arY→Option R}{bad:Int→Option R}
 (hZ:∀x v t,D x = .ok (v,t)→t <:+ x)
 (step:∀m i t acc,i<u→acc.length=i→t <:+ s→L (m+1) i t acc=match D t with|.ok (v,bq)=>L m (i+1) bq (acc++[v])|.error e=>bad e)
 (stop:∀m t acc,acc.length=u→t <:+ s→L (m+1) u t acc=fin acc t) {m:Nat} (hm:u<m) {t:arY} (aA:t <:+ s):
 L m 0 t []=match fV D u t with|.ok (l,bq)=>fin l bq|.error e=>bad e:=by
 have:=acR (f:=λ_ v=>v) (L:=L) hZ step stop u m 0 t [] (by omega) hm rfl aA
 rw [this];cases fV D u t with
 |error e=>rfl
 |ok r=>
  obtain⟨l,bq⟩:=r;have e:((l.zipIdx 0).map λp:α×Nat=>p.1)=l:=by rw [List.zipIdx_map_fst]
  simp only [List.nil_append];rw [e]
def vi:∀a b:arY,(!Op.bytesLess a b)=(Op.bytesLess b a||decide (b=a))
 |[],[]=>rfl
 |[],b::y=>rfl
 |a::x,[]=>rfl
 |a::x,b::y=>by
  simp only [Op.bytesLess,vi x y,Bool.not_or,Bool.not_and];rcases Nat.lt_trichotomy a.toNat b.toNat with h|h|h
  ·have Z:a<b:=h;have ab:¬ b<a:=by show¬ b.toNat<a.toNat;omega
   have aq:a≠b:=by intro e;subst e;omega
   simp [Z,ab,Ne.symm aq]
  ·obtain rfl:a=b:=UInt8.toNat_inj.1 h;simp
  ·have Z:b<a:=h;have ab:¬ a<b:=by show¬ a.toNat<b.toNat;omega
   have aq:a≠b:=by intro e;subst e;omega
   simp [Z,ab,aq]
def i'{β:Type}{c k:Bool}{x y:β}(h:c = !k):(bif c then x else y)=if k then y else x:=by subst h;cases k<;>rfl
def mn{i len:Nat}{b:Bool}(hi:i<len)(ae:len≤1000000000):(b||(!(decide (0<(i:Int)))||aM (ar0 ((i:Int)-1)) len))=true:=by
 cases i with
 |zero=>simp
 |succ i=>
  rw [show((i+1:Nat):Int)-1=(i:Int)by omega,xZ (by omega),cm (by omega)];simp
def Bp{i len:Nat}{b c:Bool}(hi:i<len):(b||(c||aM (i:Int) len))=true:=by rw [cm hi];simp
def aoT{i len:Nat}{b:Bool}(hi:i<len):(b||aM (i:Int) len)=true:=by rw [cm hi];simp
def allI(len:Nat)(chk:Nat→Bool):Bool:=(List.range len).all chk
def Gb{len:Nat}{chk:Nat→Bool}:allI len chk=true↔∀i,i<len→chk i=true:=by
 unfold allI;simp
def mo(b:Bool):(if b then true else false)=b:=by cases b<;>rfl
def rE(b c:Bool):(if b then c else false)=(b&&c):=by cases b<;>rfl
def iu{β:Type}{L:Nat→Int→Option β}{len:Nat}{chk:Nat→Bool}{no yes:β}{m:Nat}(hm:len<m)
 (step:∀m i,i<len→L (m+1) (i:Int)=if chk i then L m ((i+1:Nat):Int)else some no) (stop:∀m,L (m+1) (len:Int)=some yes):
 L m 0=some (if allI len chk then yes else no):=UN hm step stop
abbrev pv(i:Nat):Nat:=(ar0 ((i:Int)-1)).toNat
def aoU(len:Nat)(a b:Nat→Bool):(allI len λi=>a i&&b i)=(allI len a&&allI len b):=by
 rw [Bool.eq_iff_iff];simp only [Gb,Bool.and_eq_true];exact⟨λh=>⟨λi hi=>(h i hi).1,λi hi=>(h i hi).2⟩,λh i hi=>⟨h.1 i hi,h.2 i hi⟩⟩
def aoV{L:Nat→Int→ar3}{len:Nat}{p:Nat→Bool}
 (step:∀m i,i<len→L (m+1) (i:Int)=if p i then some (i:Int)else L m ((i+1:Nat):Int)) (stop:∀m,L (m+1) (len:Int)=some (-1)):
 ∀m i,len<i+m→i≤len→∃r,L m (i:Int)=some r∧decide (0≤r)=(List.range' i (len-i)).any p:=by
 intro m;induction m with
 |zero=>intro i h ab;omega
 |succ m aR=>
  intro i h ab;by_cases hi:i<len
  ·rw [step m i hi,show len-i=(len-(i+1))+1 by omega,List.range'_succ,List.any_cons]
   cases hp:p i
   ·obtain⟨r,aq,aN⟩:=aR (i+1) (by omega) (by omega)
    exact⟨r,by rw [if_neg (by simp)];exact aq,by rw [aN];simp⟩
   ·exact⟨(i:Int),by simp,by simp⟩
  ·obtain rfl:i=len:=by omega
   exact⟨-1,stop m,by simp⟩
def U6{L:Nat→Int→ar3}{len:Nat}{p:Nat→Bool}{m:Nat}(hm:len<m)
 (step:∀m i,i<len→L (m+1) (i:Int)=if p i then some (i:Int)else L m ((i+1:Nat):Int)) (stop:∀m,L (m+1) (len:Int)=some (-1)):
 ∃r,L m 0=some r∧decide (0≤r) = !allI len λi=>!p i:=by
 obtain⟨r,Z,ab⟩:=aoV step stop m 0 (by omega) (by omega)
 refine⟨r,Z,?_⟩
 rw [ab,Nat.sub_zero,←List.range_eq_range'];unfold allI;rw [List.not_all_eq_any_not];simp
section
variable {n:Nat} (hn:2000≤n) (aY:n≤1000000000)
include hn aY
def Gc(l:List bG):Bool:=allI l.length λi=>k8 (l.getD i default).Key&&ko (l.getD i default).bY&&(!decide (0<(i:Int))||Op.bytesLess (l.getD (pv i) default).Key (l.getD i default).Key)
def pE(l:List bG):Bool:=Gc l&&allI l.length λi=>!decide ((l.getD i default).bY.Kind=0)
def vj(p:bG):Prop:=p.Key.length≤1000∧p.bY.S.length≤1000
theorem aoW{l:List bG}(ae:l.length<n)(h:∀i,vj (l.getD i default)):IS n l=some (Gc l):=by
 unfold IS Gc;rw [iu (L:=zl n l) (no:=false) (yes:=true) ae,mo]
 ·intro m i hi;have Z:=h i;simp only [zl,IR,arQ,hi,arH,arJ,cm hi,a6,an,arP,bx (show i≤4611686018427387904 by omega),Mt (show 24<n by omega),mn hi (show l.length≤1000000000 by omega)]
  rw [show sq n (⟨((l.getD i default).bY).Kind,((l.getD i default).bY).N,((l.getD i default).bY).S⟩:bk)=_ from Mv (v:=(l.getD i default).bY) (by have:=Z.2;omega) (by have:=Z.2;omega)]
  cases hk:k8 (l.getD i default).Key
  ·simp only [arM,arL,arK,arJ,an,Bool.true_or,a6,Bool.false_and];rfl
  ·simp only [arM,arL,arK,arJ,an,mn hi (show l.length≤1000000000 by omega),a6,Bool.true_and]
   exact i' (by simp only [dJ,dV,Bool.not_and,Bool.not_or,Bool.not_not])
 ·intro m;simp only [zl,IR,QA,arU,arI,arK]
theorem acS{l:List bG}(ae:l.length<n)(h:∀i,vj (l.getD i default)):Dk n l=some (pE l):=by
 unfold Dk Qz Qy pE;rw [aoW hn aY ae h,an]
 obtain⟨r,Z,ab⟩:=U6 (L:=zk n l) (len:=l.length) (p:=λi=>decide ((l.getD i default).bY.Kind=0)) ae (by
  intro m i hi;simp only [zk,IQ,Qw,arQ,hi,arH,arJ,cm hi,a6,an,arP,bx (show i≤4611686018427387904 by omega),arT,arW]) (by
  intro m;simp only [zk,IQ,Qx,arU,arI,arK])
 rw [Z];simp only [an,ab];cases Gc l<;>simp
theorem acT{l:List bG}(ae:l.length<n)(h:∀i,vj (l.getD i default)):Ez n l=some (pE l):=by
 have e1:KF n l=some (allI l.length λi=>k8 (l.getD i default).Key&&(!decide (0<(i:Int))||Op.bytesLess (l.getD (pv i) default).Key (l.getD i default).Key)):=by
  unfold KF;rw [iu (L:=Ao n l) (no:=false) (yes:=true) ae,mo]
  ·intro m i hi;have Z:=h i;simp only [Ao,KE,arQ,hi,arH,arJ,cm hi,a6,an,arP,bx (show i≤4611686018427387904 by omega),Mu (show(l.getD i default).Key.length<n by have:=Z.1;omega) (by have:=Z.1;omega),Bp hi,mn hi (show l.length≤1000000000 by omega),arV]
   exact i' (by simp only [dJ,dV,Bool.not_and,Bool.not_or,Bool.not_not,←vi])
  ·intro m;simp only [Ao,KE,Sz,arU,arI,arK]
 have e2:KH n l=some ((allI l.length λi=>ko (l.getD i default).bY)&&allI l.length λi=>k8 (l.getD i default).Key&&(!decide (0<(i:Int))||Op.bytesLess (l.getD (pv i) default).Key (l.getD i default).Key)):=by
  unfold KH;rw [iu (L:=Ap n l) (chk:=λi=>ko (l.getD i default).bY) (no:=false) (yes:=allI l.length λi=>k8 (l.getD i default).Key&&(!decide (0<(i:Int))||Op.bytesLess (l.getD (pv i) default).Key (l.getD i default).Key)) ae,rE]
  ·intro m i hi;have Z:=h i;simp only [Ap,KG,arQ,hi,arH,arJ,cm hi,a6,an,arP,bx (show i≤4611686018427387904 by omega),Mw (show(l.getD i default).bY.S.length<n by have:=Z.2;omega) (by have:=Z.2;omega)]
   exact i' rfl
  ·intro m;simp only [Ap,KG,SA,arU,arI,arK,e1,an]
 unfold Ez;rw [iu (L:=Aq n l) (chk:=λi=>!decide ((l.getD i default).bY.Kind=0)) (no:=false) (yes:=(allI l.length λi=>ko (l.getD i default).bY)&&allI l.length λi=>k8 (l.getD i default).Key&&(!decide (0<(i:Int))||Op.bytesLess (l.getD (pv i) default).Key (l.getD i default).Key)) ae,rE]
 ·unfold pE Gc;simp only [aoU]
  congr 1
  generalize (allI l.length λi=>k8 (l.getD i default).Key)=a
  generalize (allI l.length λi=>ko (l.getD i default).bY)=b
  cases a<;>cases b<;>simp [Bool.and_comm]
 ·intro m i hi;simp only [Aq,KI,arQ,hi,arH,arJ,cm hi,a6,an,arP,bx (show i≤4611686018427387904 by omega)]
  exact i' (by simp)
 ·intro m;simp only [Aq,KI,SB,arU,arI,arK,e2,an]
def vk(l:List bz):Bool:=(allI l.length λi=>k8 (l.getD i default).Key && !decide ((l.getD i default).Count<1) && !decide (1099511627776<(l.getD i default).Count)&&(!decide (0<(i:Int))||Op.bytesLess (l.getD (pv i) default).Key (l.getD i default).Key))&&decide (((l.length:Nat):Int)≤32)
theorem aoX{l:List bz}(ae:l.length<n):IH n l=some (vk l):=by
 unfold IH vk;rw [iu (L:=zf n l) (no:=false) (yes:=decide (((l.length:Nat):Int)≤32)) ae,rE]
 ·intro m i hi;simp only [zf,IG,arQ,hi,arH,arJ,cm hi,a6,an,arP,bx (show i≤4611686018427387904 by omega),Mt (show 24<n by omega),mn hi (show l.length≤1000000000 by omega)]
  exact i' (by simp only [dJ,dV,Bool.not_and,Bool.not_or,Bool.not_not])
 ·intro m;simp only [zf,IG,Qm,arU,arI,arK]
theorem aoY{l:List bz}(ae:l.length<n)(h:∀i,(l.getD i default).Key.length≤1000):J6 n l=some (vk l):=by
 unfold J6 vk;rw [iu (L:=z8 n l) (no:=false) (yes:=decide (((l.length:Nat):Int)≤32)) ae,rE]
 ·intro m i hi;have Z:=h i;simp only [z8,J5,arQ,hi,arH,arJ,cm hi,a6,an,arP,bx (show i≤4611686018427387904 by omega),Mu (show(l.getD i default).Key.length<n by omega) (by omega),Bp hi,aoT hi,mn hi (show l.length≤1000000000 by omega),arV]
  exact i' (by simp only [dJ,dV,Bool.not_and,Bool.not_or,Bool.not_not,←vi])
 ·intro m;simp only [z8,J5,RH,arU,arI,arK]
def tm(l:List arY):Bool:=(allI l.length λi=>k8 (l.getD i default)&&(!decide (0<(i:Int))||Op.bytesLess (l.getD (pv i) default) (l.getD i default)))
theorem acU{l:List arY}(ae:l.length<n):CO n l=some (tm l&&decide (((l.length:Nat):Int)≤64)):=by
 unfold CO tm;rw [iu (L:=y1 n l) (no:=false) (yes:=decide (((l.length:Nat):Int)≤64)) ae,rE]
 ·intro m i hi;simp only [y1,H0,arQ,hi,arH,arJ,cm hi,a6,an,arP,bx (show i≤4611686018427387904 by omega),Mt (show 24<n by omega),mn hi (show l.length≤1000000000 by omega)]
  exact i' (by simp only [dJ,dV,Bool.not_and,Bool.not_or,Bool.not_not,←vi])
 ·intro m;simp only [y1,H0,Pe,arU,arI,arK]
theorem acV{l:List arY}(ae:l.length<n)(h:∀i,(l.getD i default).length≤1000):Ev n l=some (tm l):=by
 unfold Ev tm;rw [iu (L:=Ak n l) (no:=false) (yes:=true) ae,mo]
 ·intro m i hi;have Z:=h i;simp only [Ak,Kz,arQ,hi,arH,arJ,cm hi,a6,an,arP,bx (show i≤4611686018427387904 by omega),Mu (show(l.getD i default).length<n by omega) (by omega),Bp hi,mn hi (show l.length≤1000000000 by omega),arV]
  exact i' (by simp only [dJ,dV,Bool.not_and,Bool.not_or,Bool.not_not])
 ·intro m;simp only [Ak,Kz,Su,arU,arI,arK]
def vl(f:eT):Bool:=bif f.eg then decide (f.Reads.length=0)&&decide (f.dw.length=0) else(tm f.Reads&&decide (f.Reads.length≤64))&&(tm f.dw&&decide (f.dw.length≤64))
theorem aoZ{f:eT}(Z:f.Reads.length<n)(ab:f.dw.length<n):CP n f=some (vl f):=by
 unfold CP vl;rw [acU hn aY Z,acU hn aY ab];simp only [an,fA,lA,dV];cases f.eg
 ·simp only [arK];cases tm f.Reads&&decide (f.Reads.length≤64)<;>rfl
 ·rfl
theorem ao0{f:eT}(Z:f.Reads.length<n)(ab:f.dw.length<n)(aq:∀i,(f.Reads.getD i default).length≤1000)(aN:∀i,(f.dw.getD i default).length≤1000):Ew n f=some (vl f):=by
 unfold Ew vl;rw [acV hn aY Z aq,acV hn aY ab aN];simp only [fA,lA,dV];cases f.eg
 ·simp only [arK];cases decide (f.Reads.length≤64)<;>cases decide (f.dw.length≤64)<;>cases tm f.Reads<;>cases tm f.dw<;>rfl
 ·rfl
end
def oR(c b:Bool):(bif c then some b else some default)=some (c&&b):=by cases c<;>rfl
def acW{l:Nat}{b:Bool}:(b||decide (l<1)||decide (16<l)||aM 0 l)=true:=by
 by_cases h:l<1
 ·rw [decide_eq_true h];simp
 ·rw [ml (by omega)];simp
def acX{α:Type}(l:List α)(d:α){i k:Nat}(h:k<i):(l.take i).getD k d=l.getD k d:=by
 simp [List.getD_eq_getElem?_getD,List.getElem?_take,h]
section
variable {n:Nat} (hn:2000≤n) (aY:n≤1000000000)
include hn aY
def tn(l:List bk):Bool:=allI l.length λi=>ko (l.getD i default) && !decide ((l.getD i default).Kind=0)
def pF(r:Request):Int:=
 bif (((decide (r.Client<1)||decide (32<r.Client))||decide (r.Seq<1))||decide (1099511627776<r.Seq))then 1 else
 bif !g_ r.a_ then 7 else
 bif decide (6<r.au.length)then 2 else
 bif !tn r.au then 1 else
 bif ((!vl r.bD||r.bD.eg)||(!r.ff&&decide (0<r.bD.Reads.length+r.bD.dw.length)))then 1 else 0
structure qC(n:Nat)(r:Request):Prop where
 proc:r.a_.length≤1000
 args:r.au.length<n
 vals:∀i,(r.au.getD i default).S.length≤1000
 Gd:r.bD.Reads.length<n
 Ge:r.bD.dw.length<n
 rd:∀i,(r.bD.Reads.getD i default).length≤1000
 wr:∀i,(r.bD.dw.getD i default).length≤1000
theorem acY{r:Request}(h:qC n r):ug n r=some (pF r):=by
 have Z:=h.proc;have ab:=h.args
 obtain⟨c,e1,e2⟩:=U6 (L:=y2 n r.au) (len:=r.au.length) (p:=λi=>!(ko (r.au.getD i default) && !decide ((r.au.getD i default).Kind=0))) ab (by
  intro m i hi;have:=h.vals i
  simp only [y2,H2,Ph,arQ,hi,arH,arJ,cm hi,a6,arP,bx (show i≤4611686018427387904 by omega),Mv (show(r.au.getD i default).S.length<n by omega) (by omega),oR,an]
  cases ko (r.au.getD i default)<;>cases decide ((r.au.getD i default).Kind=0)<;>rfl) (by
  intro m;simp only [y2,H2,Pi,arU,arI,arK])
 have e3:(allI r.au.length λi=>!!(ko (r.au.getD i default) && !decide ((r.au.getD i default).Kind=0)))=tn r.au:=by simp only [Bool.not_not];rfl
 rw [e3]at e2;unfold ug Pk Pj pF;rw [A1 n _ (by omega),e1,show CP n ⟨r.bD.eg,r.bD.Reads,r.bD.dw⟩=_ from aoZ hn aY (f:=r.bD) h.Gd h.Ge]
 have aq:=h.Gd;have aN:=h.Ge;have gg:ar0 (((r.bD.Reads.length:Nat):Int)+((r.bD.dw.length:Nat):Int))=((r.bD.Reads.length+r.bD.dw.length:Nat):Int):=by rw [wr]<;>omega
 simp only [an,e2,gg,dJ,dV,fF];cases ((decide (r.Client<1)||decide (32<r.Client))||decide (r.Seq<1))||decide (1099511627776<r.Seq)<;>cases g_ r.a_<;>cases decide (6<r.au.length)<;>cases tn r.au<;>cases ((!vl r.bD||r.bD.eg)||(!r.ff&&decide (0<r.bD.Reads.length+r.bD.dw.length)))<;>rfl
theorem acZ{r:Request}(h:qC n r):Al n r=some (pF r):=by
 have Z:=h.proc;have ab:=h.args;have aq:=h.Gd;have aN:=h.Ge;have gg:ar0 (((r.bD.Reads.length:Nat):Int)+((r.bD.dw.length:Nat):Int))=((r.bD.Reads.length+r.bD.dw.length:Nat):Int):=by rw [wr]<;>omega
 have e1:xb n r n 0=some (if tn r.au then(bif ((!vl r.bD||r.bD.eg)||(!r.ff&&decide (0<r.bD.Reads.length+r.bD.dw.length)))then 1 else 0)else 1):=by
  refine iu (L:=xb n r) ab ?_ ?_
  ·intro m i hi;have:=h.vals i
   simp only [xb,KA,arQ,hi,arH,arJ,cm hi,a6,arP,bx (show i≤4611686018427387904 by omega),Mw (show(r.au.getD i default).S.length<n by omega) (by omega),an,arV]
   exact i' (by simp only [dJ,dV,Bool.not_and,Bool.not_or,Bool.not_not])
  ·intro m;simp only [xb,KA,Sv,arU,arI,arK];rw [show Ew n ⟨r.bD.eg,r.bD.Reads,r.bD.dw⟩=_ from ao0 hn aY (f:=r.bD) h.Gd h.Ge h.rd h.wr]
   simp only [an,gg,dJ,dV,fF];cases ((!vl r.bD||r.bD.eg)||(!r.ff&&decide (0<r.bD.Reads.length+r.bD.dw.length)))<;>rfl
 unfold Al pF;rw [A0 _ (by omega) (by omega) (by omega),e1]
 simp only [an,dJ,dV,fF];cases ((decide (r.Client<1)||decide (32<r.Client))||decide (r.Seq<1))||decide (1099511627776<r.Seq)<;>cases g_ r.a_<;>cases decide (6<r.au.length)<;>cases tn r.au<;>rfl
def MG(c:UInt8):Bool:=!(decide (c.toNat<33)||decide (126<c.toNat))
def oS(s:arY):Bool:=(allI s.length λi=>MG (s.getD i 0))&&decide (s.length≤24)
theorem ac0{s:arY}(hs:s.length<n):Dh n s=some (oS s):=by
 unfold Dh oS;rw [iu (L:=zh n s) (no:=false) (yes:=decide (s.length≤24)) hs,rE]
 ·intro m i hi;simp only [zh,IK,arQ,hi,arH,arJ,cm hi,a6,arP,bx (show i≤4611686018427387904 by omega),arV,pr,fF]
  exact i' (by simp only [dJ,MG,Bool.not_not])
 ·intro m;simp only [zh,IK,Qo,arU,arI,arK,lA]
theorem ac1{s:arY}(hs:s.length<n):D8 n s=some (oS s):=by
 unfold D8 oS;rw [iu (L:=z6 n s) (chk:=λi=>MG (s.getD i 0)) (no:=false) (yes:=true) hs,mo]
 ·simp only [fF];by_cases h:s.length≤24
  ·simp only [h,show¬ 24<s.length by omega,arH,arI,arK,Bool.and_true]
  ·simp only [h,show 24<s.length by omega,arH,arI,arJ,Bool.and_false]
 ·intro m i hi;simp only [z6,J1,arQ,hi,arH,arJ,cm hi,a6,arP,bx (show i≤4611686018427387904 by omega),arV,pr,fF]
  exact i' (by simp only [dJ,MG,Bool.not_not])
 ·intro m;simp only [z6,J1,RE,arU,arI,arK]
def rF(n:Int):Bool:=decide (1≤n)&&decide (n≤16)
def U7(n:Int):Bool:=decide (1≤n)&&decide (n≤1099511627776)
def tp(l:List Part)(i:Nat):Bool:=
 let x:=l.getD i default
 bif decide (x.fN=0)then decide (x.ii=[]) else((((rF x.fN && !decide (x.fN=x.Node))&&oS x.ii) && !Op.bytesLess x.ii x.eJ)&&(decide (i+1=l.length)||Op.bytesLess x.ii (l.getD (i+1) default).eJ))
def x0(l:List Part)(i:Nat):Bool:=
 let x:=l.getD i default
 (!decide (0<(i:Int))||(oS x.eJ&&Op.bytesLess (l.getD (pv i) default).eJ x.eJ))&&(((U7 x.Id&&rF x.Node)&&tp l i)&&allI i λk=>!decide ((l.getD k default).Id=x.Id))
def n4(p:cp):Bool:=!((((decide (p.Version<0)||decide (1099511627776<p.Version))||decide (p.aV.length<1))||decide (16<p.aV.length)) || !decide ((p.aV.getD 0 default).eJ=[]))&&allI p.aV.length (x0 p.aV)
def tq(x:Part):Prop:=x.eJ.length≤1000∧x.ii.length≤1000
theorem ao1{l:List Part}(ae:l.length<n){i:Nat}(hi:i<l.length)(h:∀i,tq (l.getD i default)):IM n l (i:Int)=some (tp l i):=by
 unfold IM Di tp;have Z:=(h i).2
 (rw [cm hi,a6];simp only [arP];rw [ac0 hn aY (by omega),bx (by omega)])
 simp only [an,dV,dJ,oR,Int.ofNat_inj,show(decide (1≤(l.getD i default).fN)&&decide ((l.getD i default).fN≤16))=rF (l.getD i default).fN from rfl]
 cases decide ((l.getD i default).fN=0)
 ·simp only [arK];by_cases e:i+1=l.length
  ·simp only [e,arH,Bool.true_or,arV,a6];cases rF (l.getD i default).fN<;>cases decide ((l.getD i default).fN=(l.getD i default).Node)<;>rfl
  ·rw [cm (show i+1<l.length by omega)]
   simp only [e,arP,arI,Bool.false_or,arV,a6];cases rF (l.getD i default).fN<;>cases decide ((l.getD i default).fN=(l.getD i default).Node)<;>rfl
 ·rfl
theorem ac2{p:cp}(ae:p.aV.length<n)(h:∀i,tq (p.aV.getD i default)):Dj n p=some (n4 p):=by
 have e1:wK n p n 0=some (allI p.aV.length (x0 p.aV)):=by
  rw [iu (L:=wK n p) (chk:=x0 p.aV) (no:=false) (yes:=true) ae,mo]
  ·intro m i hi;have Z:=h i;have ab:=Z.1;have bO:(p.aV.take i).length<n:=by simp;omega
   obtain⟨c,f1,f2⟩:=U6 (L:=zi n (p.aV.take i) (p.aV.getD i default).Id) (len:=(p.aV.take i).length) (p:=λk=>decide (((p.aV.take i).getD k default).Id=(p.aV.getD i default).Id)) bO (by
    intro m k hk;have fe:k≤4611686018427387904:=by omega
    simp only [zi,IL,Qp,arQ,hk,arH,arJ,cm hk,a6,an,arP,bx fe];cases decide (((p.aV.take i).getD k default).Id=(p.aV.getD i default).Id)<;>rfl) (by
    intro m;simp only [zi,IL,Qq,arU,arI,arK])
   have f3:(allI (p.aV.take i).length λk=>!decide (((p.aV.take i).getD k default).Id=(p.aV.getD i default).Id))=allI i λk=>!decide ((p.aV.getD k default).Id=(p.aV.getD i default).Id):=by
    rw [show(p.aV.take i).length=i by simp;omega,Bool.eq_iff_iff,Gb,Gb]
    constructor
    ·intro g k hk;have:=g k hk;rwa [acX _ _ hk]at this
    ·intro g k hk;have:=g k hk;rwa [acX _ _ hk]
   rw [f3]at f2;simp only [wK,IN,Qs,Qr,Qt,Di,arQ,hi,arH,arJ,cm hi,a6,an,arP,bx (show i≤4611686018427387904 by omega),ac0 hn aY (show(p.aV.getD i default).eJ.length<n by omega),oR,f1,ao1 hn aY ae hi h,AX (Nat.le_of_lt hi),arV]
   have g1:(!decide (0<(i:Int))||(!(decide (0<(i:Int))&&oS (p.aV.getD i default).eJ)||aM (ar0 ((i:Int)-1)) p.aV.length))=true:=by
    have:=mn (b:=!(decide (0<(i:Int))&&oS (p.aV.getD i default).eJ)) hi (show p.aV.length≤1000000000 by omega)
    rw [←this];cases decide (0<(i:Int))<;>simp
   simp only [g1,a6,←vi,dJ,dV];unfold x0 U7 rF;simp only
   cases hd:decide (0<(i:Int))
   ·simp only [Bool.false_and,arK,arM,Bool.true_or,Bool.true_and];cases (decide (1≤(p.aV.getD i default).Id)&&decide ((p.aV.getD i default).Id≤1099511627776))
    ·rfl
    ·cases (decide (1≤(p.aV.getD i default).Node)&&decide ((p.aV.getD i default).Node≤16))
     ·rfl
     ·cases tp p.aV i
      ·rfl
      ·simp only [arL,Bool.or_self,arM,arJ,an,f2,Bool.false_or,Bool.true_and];exact i' rfl
   ·simp only [Bool.true_and,arJ,arL,Bool.false_or];cases oS (p.aV.getD i default).eJ
    ·rfl
    ·cases Op.bytesLess (p.aV.getD (pv i) default).eJ (p.aV.getD i default).eJ
     ·rfl
     ·cases (decide (1≤(p.aV.getD i default).Id)&&decide ((p.aV.getD i default).Id≤1099511627776))
      ·rfl
      ·cases (decide (1≤(p.aV.getD i default).Node)&&decide ((p.aV.getD i default).Node≤16))
       ·rfl
       ·cases tp p.aV i
        ·rfl
        ·simp only [arL,Bool.or_self,arM,arJ,arK,an,f2,Bool.false_or,Bool.true_and];exact i' rfl
  ·intro m;simp only [wK,IN,Qu,arU,arI,arK]
 unfold Dj n4;rw [e1];simp only [dJ,pr,fF,acW,a6];cases (((decide (p.Version<0)||decide (1099511627776<p.Version))||decide (p.aV.length<1))||decide (16<p.aV.length)) || !decide ((p.aV.getD 0 default).eJ=[])<;>rfl
end
def ao2{β:Type}{L:Nat→Int→Option β}{len:Nat}{chk:Nat→Bool}{no:β}{yes:Option β}
 (step:∀m i,i<len→L (m+1) (i:Int)=if chk i then L m ((i+1:Nat):Int)else some no) (stop:∀m,L (m+1) (len:Int)=yes):
 ∀m i,len<i+m→i≤len→L m (i:Int)=if(List.range' i (len-i)).all chk then yes else some no:=by
 intro m;induction m with
 |zero=>intro i h ab;omega
 |succ m aR=>
  intro i h ab;by_cases hi:i<len
  ·rw [step m i hi,aR (i+1) (by omega) (by omega),show len-i=(len-(i+1))+1 by omega,List.range'_succ,List.all_cons]
   cases chk i
   ·rfl
   ·rw [if_pos rfl,Bool.true_and]
  ·obtain rfl:i=len:=by omega
   rw [stop m];simp
def ac3{β:Type}{L:Nat→Int→Option β}{len:Nat}{chk:Nat→Bool}{no:β}{yes:Option β}{m:Nat}(hm:len<m)
 (step:∀m i,i<len→L (m+1) (i:Int)=if chk i then L m ((i+1:Nat):Int)else some no) (stop:∀m,L (m+1) (len:Int)=yes):
 L m 0=if allI len chk then yes else some no:=by
 have:=ao2 step stop m 0 (by omega) (by omega)
 rwa [Nat.sub_zero,←List.range_eq_range']at this
section
variable {n:Nat} (hn:2000≤n) (aY:n≤1000000000)
include hn aY
theorem ao3{l:List Part}{i:Nat}(hi:i<l.length)(h:∀i,tq (l.getD i default))(nx:arY)(hnx:i+1<l.length→nx=(l.getD (i+1) default).eJ):
 J2 n (l.getD i default) nx (decide (((i+1:Nat):Int)=((l.length:Nat):Int)))=some (tp l i):=by
 unfold J2 tp;have Z:=(h i).2;rw [ac1 hn aY (by omega)]
 simp only [oR,an,dV,dJ,Int.ofNat_inj,show(decide (1≤(l.getD i default).fN)&&decide ((l.getD i default).fN≤16))=rF (l.getD i default).fN from rfl]
 cases decide ((l.getD i default).fN=0)
 ·simp only [arK];by_cases e:i+1=l.length
  ·simp only [e,arH,Bool.true_or];cases rF (l.getD i default).fN<;>cases decide ((l.getD i default).fN=(l.getD i default).Node)<;>cases oS (l.getD i default).ii<;>rfl
  ·rw [hnx (by omega)]
   simp only [e,arI,Bool.false_or];cases rF (l.getD i default).fN<;>cases decide ((l.getD i default).fN=(l.getD i default).Node)<;>cases oS (l.getD i default).ii<;>rfl
 ·rfl
theorem ac4{p:cp}(ae:p.aV.length<n)(h:∀i,tq (p.aV.getD i default))(h0:(p.aV.getD 0 default).eJ=[])(am:Int→ar2){i:Nat}(hi:i<p.aV.length)(nx:arY)(hnx:i+1<p.aV.length→nx=(p.aV.getD (i+1) default).eJ):
 D9 n am p (i:Int) nx=if x0 p.aV i then am ((i+1:Nat):Int)else some false:=by
 have Z:=(h i).1
 have lh:w6 n am p (i:Int) n 0=if(allI i λk=>!decide ((p.aV.getD k default).Id=(p.aV.getD i default).Id))then am ((i+1:Nat):Int)else some false:=by
  refine ac3 (L:=w6 n am p (i:Int)) (by omega) ?_ ?_
  ·intro m k hk;have fe:k<p.aV.length:=by omega
   simp only [w6,J3,arQ,hk,arH,arJ,cm fe,a6,arP,bx (show k≤4611686018427387904 by omega)]
   exact i' (by rw [Bool.not_not])
  ·intro m;simp only [w6,J3,RG,arU,arI,arK,bx (show i≤4611686018427387904 by omega)]
 unfold D9
 (simp only [arP];rw [ac1 hn aY (by omega),an,mn hi (by omega),a6,bx (by omega),ao3 hn aY hi h nx hnx,oR,an,lh])
 simp only [dJ,dV,←vi];unfold x0 U7 rF;simp only
 have g0:(decide (0<(i:Int)))=false→oS (p.aV.getD i default).eJ=true:=by
  intro e;obtain rfl:i=0:=by have:=of_decide_eq_false e;omega
  rw [h0];rfl
 have c1:decide ((p.aV.getD i default).Id<1) = !decide (1≤(p.aV.getD i default).Id):=by
  by_cases g:(p.aV.getD i default).Id<1
  ·rw [decide_eq_true g,decide_eq_false (by omega)];rfl
  ·rw [decide_eq_false g,decide_eq_true (by omega)];rfl
 have c2:decide (1099511627776<(p.aV.getD i default).Id) = !decide ((p.aV.getD i default).Id≤1099511627776):=by
  by_cases g:(1099511627776<(p.aV.getD i default).Id)
  ·rw [decide_eq_true g,decide_eq_false (by omega)];rfl
  ·rw [decide_eq_false g,decide_eq_true (by omega)];rfl
 have c3:decide ((p.aV.getD i default).Node<1) = !decide (1≤(p.aV.getD i default).Node):=by
  by_cases g:(p.aV.getD i default).Node<1
  ·rw [decide_eq_true g,decide_eq_false (by omega)];rfl
  ·rw [decide_eq_false g,decide_eq_true (by omega)];rfl
 have c4:decide (16<(p.aV.getD i default).Node) = !decide ((p.aV.getD i default).Node≤16):=by
  by_cases g:(16<(p.aV.getD i default).Node)
  ·rw [decide_eq_true g,decide_eq_false (by omega)];rfl
  ·rw [decide_eq_false g,decide_eq_true (by omega)];rfl
 rw [c1,c2,c3,c4,←arT,←arT];generalize (allI i λk=>!decide ((p.aV.getD k default).Id=(p.aV.getD i default).Id))=z
 cases hd:decide (0<(i:Int))
 ·rw [g0 hd];cases decide (1≤(p.aV.getD i default).Id)<;>cases decide ((p.aV.getD i default).Id≤1099511627776)<;>cases decide (1≤(p.aV.getD i default).Node)<;>cases decide ((p.aV.getD i default).Node≤16)<;>cases tp p.aV i<;>cases z<;>rfl
 ·cases oS (p.aV.getD i default).eJ<;>cases Op.bytesLess (p.aV.getD (pv i) default).eJ (p.aV.getD i default).eJ<;>cases decide (1≤(p.aV.getD i default).Id)<;>cases decide ((p.aV.getD i default).Id≤1099511627776)<;>cases decide (1≤(p.aV.getD i default).Node)<;>cases decide ((p.aV.getD i default).Node≤16)<;>cases tp p.aV i<;>cases z<;>rfl
theorem ac5{p:cp}(ae:p.aV.length<n)(h:∀i,tq (p.aV.getD i default)):D' n p=some (n4 p):=by
 unfold D' n4;simp only [dJ,pr,fF,acW,a6];cases h0:(((decide (p.Version<0)||decide (1099511627776<p.Version))||decide (p.aV.length<1))||decide (16<p.aV.length)) || !decide ((p.aV.getD 0 default).eJ=[])
 ·have ac6:(p.aV.getD 0 default).eJ=[]:=by
   simp only [Bool.or_eq_false_iff,Bool.not_eq_false',decide_eq_true_eq]at h0;exact h0.2
  rw [arK];rw [iu (L:=z7 n p) (chk:=x0 p.aV) (no:=false) (yes:=true) ae,mo]
  ·rfl
  ·intro m i hi;simp only [z7,J4,arQ,hi,arH,arJ,cm hi,a6,bx (show i≤4611686018427387904 by omega)]
   by_cases e:i+1<p.aV.length
   ·rw [cm e];simp only [e,arH,arJ,a6,arP];exact ac4 hn aY ae h ac6 _ hi _ (λ_=>rfl)
   ·simp only [e,arI,arK];exact ac4 hn aY ae h ac6 _ hi _ (λg=>absurd g e)
  ·intro m;simp only [z7,J4,RF,arU,arI,arK]
 ·rfl
def Gf(o:Outcome):Bool:=bif decide (o.Status=1) then(decide (o.Code=0)&&decide (o.Out.length≤16))&&tn o.Out else((decide (o.Status=2)&&decide (0≤o.Code))&&decide (o.Code≤1009))&&decide (o.Out.length=0)
structure Bq(n:Nat)(o:Outcome):Prop where
 out:o.Out.length<n
 vals:∀i,(o.Out.getD i default).S.length≤1000
theorem ao4{o:Outcome}(h:Bq n o):Da n o=some (Gf o):=by
 have Z:=h.out
 have e1:wG n o n 0=some (tn o.Out):=by
  rw [iu (L:=wG n o) (no:=false) (yes:=true) Z,mo]
  ·rfl
  ·intro m i hi;have:=h.vals i
   simp only [wG,Iw,arQ,hi,arH,arJ,cm hi,a6,arP,bx (show i≤4611686018427387904 by omega),Mv (show(o.Out.getD i default).S.length<n by omega) (by omega),an]
   exact i' (by simp only [dJ,Bool.not_and,Bool.not_not])
  ·intro m;simp only [wG,Iw,Qb,arU,arI,arK]
 unfold Da Qa Gf;rw [e1];simp only [dJ,dV,fF,fA];cases decide (o.Status=1)
 ·simp only [arK];cases decide (o.Status=2)<;>rfl
 ·simp only [arJ];by_cases g:o.Out.length≤16
  ·simp only [show¬ 16<o.Out.length by omega,g,arH,arI]
   cases decide (o.Code=0)<;>rfl
  ·simp only [show 16<o.Out.length by omega,g,arH,arI,arV,arJ,Bool.and_false,Bool.false_and]
theorem ao5{o:Outcome}(h:Bq n o):D_ n o=some (Gf o):=by
 have Z:=h.out
 have e1:w7 n o.Out n 0=some (tn o.Out&&decide (o.Out.length≤16)):=by
  rw [iu (L:=w7 n o.Out) (chk:=λi=>ko (o.Out.getD i default) && !decide ((o.Out.getD i default).Kind=0)) (no:=false) (yes:=decide (o.Out.length≤16)) Z,rE]
  ·rfl
  ·intro m i hi;have:=h.vals i
   simp only [w7,J7,arQ,hi,arH,arJ,cm hi,a6,arP,bx (show i≤4611686018427387904 by omega),Mw (show(o.Out.getD i default).S.length<n by omega) (by omega),an,arV]
   exact i' (by simp only [dJ,Bool.not_and,Bool.not_not])
  ·intro m;simp only [w7,J7,RI,arU,arI,arK,lA]
 unfold D_ RJ Gf;rw [e1,oR,an];simp only [dV,fA];cases decide (o.Status=1)
 ·rfl
 ·simp only [arJ];cases decide (o.Code=0)<;>cases decide (o.Out.length≤16)<;>cases tn o.Out<;>rfl
def l3(nx:Int):Int:=bif (decide ((ar0 (nx-1))<8)) then(ar0 (nx-1))else 8
def x1(s:bH):Bool:=((decide (s.Client<1)||decide (32<s.Client))||decide (s.Next<1))||decide (1099511627776<s.Next)
omit hn aY in
theorem ac7{s:bH}(h:x1 s=false):1≤s.Client∧s.Client≤32∧1≤s.Next∧s.Next≤1099511627776:=by
 simp only [x1,Bool.or_eq_false_iff,decide_eq_false_iff_not]at h;omega
def Gg(s:bH)(i:Nat):Bool:=(decide ((s.cK.getD i default).Client=s.Client)&&decide ((s.cK.getD i default).Seq=s.Next-(s.cK.length:Int)+(i:Int)))&&Gf (s.cK.getD i default).Outcome
def Gh(s:bH):Bool:=(!x1 s&&decide ((s.cK.length:Int)=l3 s.Next))&&allI s.cK.length (Gg s)
structure rG(n:Nat)(s:bH):Prop where
 rep:s.cK.length<n
 out:∀i,Bq n (s.cK.getD i default).Outcome
theorem ao6{s:bH}(h:rG n s):Iy n s=some (Gh s):=by
 have Z:=h.rep;unfold Iy C_ Gh;simp only [dJ];rw [show(((decide (s.Client<1)||decide (32<s.Client))||decide (s.Next<1))||decide (1099511627776<s.Next))=x1 s from rfl]
 cases eW:x1 s
 ·have hb:=ac7 eW;simp only [arM,arJ,an,Bool.false_or,Bool.true_and];rw [show(bif (decide ((ar0 (s.Next-1))<8)) then(ar0 (s.Next-1))else 8)=l3 s.Next from rfl]
  rw [iu (L:=zb n s) (chk:=Gg s) (no:=false) (yes:=true) Z,mo]
  ·cases decide ((s.cK.length:Int)=l3 s.Next)<;>rfl
  ·intro m i hi;simp only [zb,Ix,arQ,hi,arH,arJ,cm hi,a6,arP,bx (show i≤4611686018427387904 by omega)]
   rw [show Da n (⟨((s.cK.getD i default).Outcome).Status,((s.cK.getD i default).Outcome).Code,((s.cK.getD i default).Outcome).Out⟩:Outcome)=_ from ao4 hn aY (h.out i),oR,an,wr (x:=s.Next-((s.cK.length:Nat):Int)) (by omega) (by omega),wr (x:=s.Next-((s.cK.length:Nat):Int)+(i:Int)) (by omega) (by omega)]
   refine i' ?_;unfold Gg;simp only [dJ,Bool.and_true,Bool.not_not];cases decide ((s.cK.getD i default).Client=s.Client)<;>cases decide ((s.cK.getD i default).Seq=s.Next-(s.cK.length:Int)+(i:Int))<;>rfl
  ·intro m;simp only [zb,Ix,Qc,arU,arI,arK]
 ·rfl
theorem ao7{s:bH}(h:rG n s):J9 n s=some (Gh s):=by
 have Z:=h.rep;unfold J9 Ea Gh;simp only [dJ];rw [show(((decide (s.Client<1)||decide (32<s.Client))||decide (s.Next<1))||decide (1099511627776<s.Next))=x1 s from rfl]
 cases eW:x1 s
 ·have hb:=ac7 eW;simp only [arM,arJ,an,Bool.false_or,Bool.true_and];rw [show(bif (decide ((ar0 (s.Next-1))<8)) then(ar0 (s.Next-1))else 8)=l3 s.Next from rfl]
  rw [iu (L:=z' n s) (chk:=Gg s) (no:=false) (yes:=true) Z,mo]
  ·cases decide ((s.cK.length:Int)=l3 s.Next)<;>rfl
  ·intro m i hi;simp only [z',J8,arQ,hi,arH,arJ,cm hi,a6,arP,bx (show i≤4611686018427387904 by omega)]
   rw [show D_ n (⟨((s.cK.getD i default).Outcome).Status,((s.cK.getD i default).Outcome).Code,((s.cK.getD i default).Outcome).Out⟩:Outcome)=_ from ao5 hn aY (h.out i),oR,an,wr (x:=((s.cK.length:Nat):Int)-(i:Int)) (by omega) (by omega),show s.Next-(((s.cK.length:Nat):Int)-(i:Int))=s.Next-((s.cK.length:Nat):Int)+(i:Int)by omega,wr (x:=s.Next-((s.cK.length:Nat):Int)+(i:Int)) (by omega) (by omega)]
   refine i' ?_;unfold Gg;simp only [dJ,Bool.and_true,Bool.not_not];cases decide ((s.cK.getD i default).Client=s.Client)<;>cases decide ((s.cK.getD i default).Seq=s.Next-(s.cK.length:Int)+(i:Int))<;>rfl
  ·intro m;simp only [z',J8,RK,arU,arI,arK]
 ·rfl
def n5(l:List bH):Bool:=allI l.length λi=>Gh (l.getD i default)&&(!decide (0<(i:Int)) || !decide ((l.getD i default).Client≤(l.getD (pv i) default).Client))
theorem ac8{l:List bH}(ae:l.length<n)(h:∀i,rG n (l.getD i default)):zd n l=some (n5 l):=by
 unfold zd n5;rw [iu (L:=zc n l) (no:=false) (yes:=true) ae,mo]
 ·intro m i hi;simp only [zc,Iz,arQ,hi,arH,arJ,cm hi,a6,arP,bx (show i≤4611686018427387904 by omega),ao6 hn aY (h i),an,mn hi (show l.length≤1000000000 by omega)]
  exact i' (by simp only [dJ,dV,Bool.not_and,Bool.not_or,Bool.not_not])
 ·intro m;simp only [zc,Iz,Qd,arU,arI,arK]
theorem ac9{l:List bH}(ae:l.length<n)(h:∀i,rG n (l.getD i default)):Eb n l=some (n5 l):=by
 unfold Eb n5;rw [iu (L:=z_ n l) (no:=false) (yes:=true) ae,mo]
 ·intro m i hi;simp only [z_,J',arQ,hi,arH,arJ,cm hi,a6,arP,bx (show i≤4611686018427387904 by omega),ao7 hn aY (h i),an,Bp hi,mn hi (show l.length≤1000000000 by omega),arV]
  exact i' (by simp only [dJ,dV,Bool.not_and,Bool.not_or,Bool.not_not])
 ·intro m;simp only [z_,J',RL,arU,arI,arK]
end
def ac'{β:Type}{c d k:Bool}{x y:β}(h:k=(!c && !d)):(bif c then x else(bif d then x else y))=if k then y else x:=by subst h;cases c<;>cases d<;>rfl
def ao8{α σ R:Type}[Inhabited α]{l:List α}{g:σ→α→σ}{I:Nat→σ→Prop}{L:Nat→σ→Int→Option R}{fin:σ→Option R}
 (step:∀m acc i,i<l.length→I i acc→L (m+1) acc (i:Int)=L m (g acc (l.getD i default)) ((i+1:Nat):Int)∧I (i+1) (g acc (l.getD i default)))
 (stop:∀m acc,I l.length acc→L (m+1) acc (l.length:Int)=fin acc):
 ∀m i acc,l.length<i+m→i≤l.length→I i acc→L m acc (i:Int)=fin ((l.drop i).foldl g acc):=by
 intro m;induction m with
 |zero=>intro i acc h ab;omega
 |succ m aR=>
  intro i acc h ab mc;by_cases hi:i<l.length
  ·obtain⟨aq,aN⟩:=step m acc i hi mc;rw [aq,aR (i+1) _ (by omega) (by omega) aN,fz l i default hi,List.foldl_cons]
  ·obtain rfl:i=l.length:=by omega
   rw [stop m acc mc,List.drop_of_length_le (Nat.le_refl _)];rfl
def ac_{α σ R:Type}[Inhabited α]{l:List α}{g:σ→α→σ}{I:Nat→σ→Prop}{L:Nat→σ→Int→Option R}{fin:σ→Option R}{m:Nat}(hm:l.length<m){acc:σ}(h0:I 0 acc)
 (step:∀m acc i,i<l.length→I i acc→L (m+1) acc (i:Int)=L m (g acc (l.getD i default)) ((i+1:Nat):Int)∧I (i+1) (g acc (l.getD i default)))
 (stop:∀m acc,I l.length acc→L (m+1) acc (l.length:Int)=fin acc):L m acc 0=fin (l.foldl g acc):=
 ao8 step stop m 0 acc (by omega) (by omega) h0
def fold_map{α β:Type}(f:α→β):∀(l:List α) (acc:List β),l.foldl (λa x=>a++[f x]) acc=acc++l.map f
 |[],acc=>by simp
 |x::l,acc=>by rw [List.foldl_cons,fold_map f l];simp
def i_{m k:Nat}(h:m*k≤140737488355328):room m k=true:=by simp [room];exact h
def U8{α:Type}[Inhabited α]{l:List α}{i:Nat}(h:i<l.length):l.getD i default∈l:=by
 rw [List.getD_eq_getElem?_getD,List.getElem?_eq_getElem h];exact List.getElem_mem h
section
variable {n:Nat} (hn:2000≤n) (aY:n≤1000000000)
include hn aY
def U9(a b:bk):Bool:=decide (a.Kind=b.Kind)&&(decide (a.N=b.N)&&(decide (a.S=b.S)&&true))
def Gi(r:Row)(floor last:Int)(i:Nat):Bool:=
 ((!decide ((r.ce.getD i default).fY<floor) && !decide (last<(r.ce.getD i default).fY))&&ko (r.ce.getD i default).bY) &&
 !(decide (0<(i:Int))&&(decide ((r.ce.getD i default).fY≤(r.ce.getD (pv i) default).fY)||U9 (r.ce.getD i default).bY (r.ce.getD (pv i) default).bY))
def vm(r:Row)(floor last:Int):Bool:=!(decide (r.ce.length=0)||decide ((r.ce.getD 0 default).bY.Kind=0))&&allI r.ce.length (Gi r floor last)
structure U'(n:Nat)(r:Row):Prop where
 key:r.Key.length≤1000
 U_:r.ce.length<n
 val:∀i,(r.ce.getD i default).bY.S.length≤1000
omit hn aY in
theorem ada{i len:Nat}{b:Bool}(hi:i<len)(ae:len≤1000000000):(!(decide (0<(i:Int)))||(b||aM (ar0 ((i:Int)-1)) len))=true:=by
 have:=mn (b:=b) hi ae
 rw [←this];cases decide (0<(i:Int))<;>cases b<;>simp
omit hn aY in
theorem adb{i len:Nat}(hi:i<len)(ae:len≤1000000000):(!(decide (0<(i:Int)))||aM (ar0 ((i:Int)-1)) len)=true:=by
 have:=mn (b:=false) hi ae
 rw [Bool.false_or]at this;exact this
omit hn aY in
theorem adc{l:Nat}:(decide (l=0)||aM 0 l)=true:=by
 by_cases h:l=0
 ·rw [decide_eq_true h];rfl
 ·rw [ml (by omega)];simp
theorem ao9{r:Row}(h:U' n r)(floor last:Int):H5 n r floor last=some (vm r floor last):=by
 have Z:=h.U_;unfold H5 vm;rw [iu (L:=y3 n floor last r) (chk:=Gi r floor last) (no:=false) (yes:=true) Z,mo]
 ·simp only [fA,adc,a6,dJ];cases decide (r.ce.length=0)||decide ((r.ce.getD 0 default).bY.Kind=0)<;>rfl
 ·intro m i hi;have ab:=h.val i;simp only [y3,H4,arQ,hi,arH,arJ,cm hi,a6,arP,bx (show i≤4611686018427387904 by omega),ada hi (show r.ce.length≤1000000000 by omega),adb hi (show r.ce.length≤1000000000 by omega)]
  rw [show sq n (⟨((r.ce.getD i default).bY).Kind,((r.ce.getD i default).bY).N,((r.ce.getD i default).bY).S⟩:bk)=_ from Mv (v:=(r.ce.getD i default).bY) (by omega) (by omega),oR,an]
  refine ac' ?_;unfold Gi;simp only [U9,dJ,dV,Bool.not_and,Bool.not_or,Bool.not_not];cases decide ((r.ce.getD i default).fY<floor)<;>cases decide (last<(r.ce.getD i default).fY)<;>cases ko (r.ce.getD i default).bY<;>rfl
 ·intro m;simp only [y3,H4,Ps,arU,arI,arK]
theorem ao'{r:Row}(h:U' n r)(floor last:Int):JY n r floor last=some (k8 r.Key&&vm r floor last):=by
 have Z:=h.U_;have h0:=h.key;unfold JY vm;rw [Mu (by omega) (by omega),an]
 rw [iu (L:=zZ n floor last r) (chk:=Gi r floor last) (no:=false) (yes:=true) Z,mo]
 ·have g:∀b:Bool,(b||decide (r.ce.length=0)||aM 0 r.ce.length)=true:=λb=>by rw [Bool.or_assoc,adc];simp
  simp only [fA,dJ,g,a6];cases k8 r.Key<;>cases decide (r.ce.length=0)<;>cases decide ((r.ce.getD 0 default).bY.Kind=0)<;>rfl
 ·intro m i hi;have ab:=h.val i;simp only [zZ,JX,RB,arQ,hi,arH,arJ,cm hi,a6,arP,bx (show i≤4611686018427387904 by omega),ada hi (show r.ce.length≤1000000000 by omega),adb hi (show r.ce.length≤1000000000 by omega)]
  rw [show uC n (⟨((r.ce.getD i default).bY).Kind,((r.ce.getD i default).bY).N,((r.ce.getD i default).bY).S⟩:bk)=_ from Mw (v:=(r.ce.getD i default).bY) (by omega) (by omega),an,an]
  refine ac' ?_;unfold Gi;simp only [U9,dJ,dV,Bool.not_and,Bool.not_or,Bool.not_not];cases decide ((r.ce.getD i default).fY<floor)<;>cases decide (last<(r.ce.getD i default).fY)<;>cases ko (r.ce.getD i default).bY<;>rfl
 ·intro m;simp only [zZ,JX,RC,arU,arI,arK]
def x2(s:be):Bool:=!((decide (s.dI<0)||decide (s.c_<s.dI))||decide (1099511627776<s.c_)) &&
 allI s.Rows.length λi=>(k8 (s.Rows.getD i default).Key&&(!decide (0<(i:Int))||Op.bytesLess (s.Rows.getD (pv i) default).Key (s.Rows.getD i default).Key))&&vm (s.Rows.getD i default) s.dI s.c_
structure Gj(n:Nat)(s:be):Prop where
 rows:s.Rows.length<n
 row:∀i,U' n (s.Rows.getD i default)
theorem ao_{s:be}(h:Gj n s):CU n s=some (x2 s):=by
 have Z:=h.rows;unfold CU x2;rw [iu (L:=y4 n s) (chk:=λi=>(k8 (s.Rows.getD i default).Key&&(!decide (0<(i:Int))||Op.bytesLess (s.Rows.getD (pv i) default).Key (s.Rows.getD i default).Key))&&vm (s.Rows.getD i default) s.dI s.c_) (no:=false) (yes:=true) Z,mo]
 ·simp only [dJ];cases (decide (s.dI<0)||decide (s.c_<s.dI))||decide (1099511627776<s.c_)<;>rfl
 ·intro m i hi;have ab:=(h.row i).key;simp only [y4,H6,arQ,hi,arH,arJ,cm hi,a6,an,arP,bx (show i≤4611686018427387904 by omega),Mt (show 24<n by omega),mn hi (show s.Rows.length≤1000000000 by omega),ao9 hn aY (h.row i),oR,←vi]
  refine i' ?_;simp only [dJ,dV];cases k8 (s.Rows.getD i default).Key<;>cases decide (0<(i:Int))<;>cases Op.bytesLess (s.Rows.getD (pv i) default).Key (s.Rows.getD i default).Key<;>rfl
 ·intro m;simp only [y4,H6,Pt,arU,arI,arK]
theorem apa{s:be}(h:Gj n s):J0 n s=some (x2 s):=by
 have Z:=h.rows;unfold J0 x2;rw [iu (L:=z1 n s) (chk:=λi=>(k8 (s.Rows.getD i default).Key&&(!decide (0<(i:Int))||Op.bytesLess (s.Rows.getD (pv i) default).Key (s.Rows.getD i default).Key))&&vm (s.Rows.getD i default) s.dI s.c_) (no:=false) (yes:=true) Z,mo]
 ·simp only [dJ];cases (decide (s.dI<0)||decide (s.c_<s.dI))||decide (1099511627776<s.c_)<;>rfl
 ·intro m i hi;simp only [z1,JZ,arQ,hi,arH,arJ,cm hi,a6,an,arP,bx (show i≤4611686018427387904 by omega),ao' hn aY (h.row i),Bp hi,mn hi (show s.Rows.length≤1000000000 by omega),arV]
  refine i' ?_;simp only [dJ,dV];cases k8 (s.Rows.getD i default).Key<;>cases decide (0<(i:Int))<;>cases Op.bytesLess (s.Rows.getD (pv i) default).Key (s.Rows.getD i default).Key<;>cases vm (s.Rows.getD i default) s.dI s.c_<;>rfl
 ·intro m;simp only [z1,JZ,RD,arU,arI,arK]
def pG(l:List bG)(at_:Int):be:=⟨at_,at_,l.map λp=>⟨p.Key,[⟨at_,p.bY⟩]⟩⟩
def Br(l:List bG)(at_:Int):be×Int:=bif ((!pE l||decide (at_<0))||decide (1099511627776<at_)) then(⟨0,0,[]⟩,1) else(pG l at_,0)
theorem apb{l:List bG}(ae:l.length<n)(h:∀i,vj (l.getD i default))(at_:Int):D0 n l at_=some (Br l at_):=by
 unfold D0 Br;rw [acS hn aY ae h,an,ac_ (L:=zK n at_ l) (g:=λa p=>a++[⟨p.Key,[⟨at_,p.bY⟩]⟩]) (I:=λi acc=>acc.length=i) (fin:=λv=>some (⟨at_,at_,v⟩,0)) ae rfl,fold_map]
 ·simp only [dJ,List.nil_append];cases (!pE l||decide (at_<0))||decide (1099511627776<at_)<;>rfl
 ·intro m acc i hi mc;have:room (acc.length+1) 40=true:=i_ (by omega)
  simp only [zK,JB,arQ,hi,arH,arJ,cm hi,a6,arP,bx (show i≤4611686018427387904 by omega),arS,this]
  exact⟨trivial,by simp [mc]⟩
 ·intro m acc mc;simp only [zK,JB,Rc,arU,arI,arK]
theorem apc{l:List bG}(ae:l.length<n)(h:∀i,vj (l.getD i default))(at_:Int):EA n l at_=some (Br l at_):=by
 unfold EA Br;rw [acT hn aY ae h,an,ac_ (L:=Ar n l at_) (g:=λa p=>a++[⟨p.Key,[⟨at_,p.bY⟩]⟩]) (I:=λi acc=>acc.length=i) (fin:=λv=>some (⟨at_,at_,v⟩,0)) ae rfl,fold_map]
 ·simp only [dJ,List.nil_append];cases (!pE l||decide (at_<0))||decide (1099511627776<at_)<;>rfl
 ·intro m acc i hi mc;have:room (acc.length+1) 40=true:=i_ (by omega)
  simp only [Ar,KM,arQ,hi,arH,arJ,cm hi,a6,arP,bx (show i≤4611686018427387904 by omega),arS,this]
  exact⟨trivial,by simp [mc]⟩
 ·intro m acc mc;simp only [Ar,KM,SC,arU,arI,arK]
end
def oT{α:Type}[Inhabited α]{P:α→Prop}{l:List α}(h:∀x∈l,P x)(h0:P default)(i:Nat):P (l.getD i default):=by
 by_cases hi:i<l.length
 ·exact h _ (U8 hi)
 ·rw [List.getD_eq_getElem?_getD,List.getElem?_eq_none (by omega)];exact h0
def Va{v:bk}(h:ve v):v.S.length≤64:=by
 rcases xX h.1 with h|h|h
 ·rw [h];simp
 ·rw [h.2];simp
 ·exact acK h.2.2
def tr:eB bG:=eX (λp=>⟨p.1,p.2⟩) (dF (eG 24) λ_=>i8)
def rH(p:bG):arY:=iq p.Key++ci p.bY
def vn(p:bG):Prop:=p.Key.length≤24∧ve p.bY
def Gk:ej tr rH vn:=
 (jQ.dep λ_ _=>n3).map _ (λp=>(p.Key,p.bY)) vn rH (λb h=>⟨rfl,⟨h.1,h.2⟩,rfl⟩) (λa h=>⟨rfl,⟨h.1,h.2⟩⟩)
def rI:eB (List bG):=jP pE 5 (gX 2147483647 tr)
def apd:ej (gX 2147483647 tr) (jl rH) (λl=>l.length≤2147483647∧∀v∈l,vn v):=Gk.vd _ (by omega) (λv _=>by unfold rH iq;simp [rD])
def x3:ej rI (jl rH) (λl=>(l.length≤2147483647∧∀v∈l,vn v)∧pE l=true):=apd.chk _ _ (by omega)
def ade{p:bG}(h:vn p):vj p:=⟨by have:=h.1;omega,by have:=Va h.2;omega⟩
def MH{l:List bG}(h:∀p∈l,vn p)(i:Nat):vj (l.getD i default):=oT (P:=vj) (λx hx=>ade (h x hx)) ⟨by show([]:arY).length≤1000;simp,by show([]:arY).length≤1000;simp⟩ i
section
variable {n:Nat} (hn:2000≤n) (aY:n≤1000000000) {s:arY} (hs:s.length<n)
include hn aY hs
theorem ape{t:arY}(aA:t <:+ s):IV n s (aT s t)=some (res [] s (rI t)):=by
 unfold IV rI jP gX;rw [show(2147483647:Int)=((2147483647:Nat):Int)from rfl,vg aA (by omega) (by omega) (by omega),an]
 cases h:gW 2147483647 t with
 |error e=>rw [lE h,b9];simp only [dh (k9 h),arJ,b9]
 |ok r=>
  obtain⟨u,bq⟩:=r;obtain⟨Z,ab,aq⟩:=kL h;have dd:bq <:+ s:=List.IsSuffix.trans ⟨gF u,Z.symm⟩ aA;have hu:=dd.length_le;rw [lD h,cR];simp only [arH,arL,arK];rw [show wO n s ((u:Int),aT s bq,0) n (aT s bq) 0 []=_ from tl (L:=λm i t acc=>wO n s ((u:Int),aT s bq,0) m (aT s t) (i:Int) acc) (D:=tr) (u:=u) (s:=s) (fin:=λacc t=>IT n (aT s t) acc) (bad:=λe=>some ([],0,e)) (λx v t hx=>Gk.hZ hx) ?_ ?_ (by omega) dd]
  ·cases ai:fV tr u bq with
   |error e=>rfl
   |ok r=>
    obtain⟨l,jR⟩:=r;obtain⟨g1,g2,g3⟩:=(Gk.rep u).eN _ _ _ ai;simp only [IT];rw [acS hn aY (by omega) (MH g3),an]
    cases pE l<;>rfl
  ·intro m i t acc hi ha aA;simp only [wO,IU,arQ,hi,arH,arJ];rw [show(24:Int)=((24:Nat):Int)from rfl,Ga aA (by omega) (by omega) (by omega),an]
   unfold tr eX dF;cases aN:eG 24 t with
   |error e=>rw [b9];simp only [dh (jQ.bZ _ _ aN),arJ]
   |ok r=>
    obtain⟨k,t1⟩:=r;rw [cR];simp only [arH,arL,arK];rw [U4 (eH jQ aN aA) (by omega) (by omega),an]
    cases bn:i8 t1 with
    |error e=>rw [b9];simp only [dh (n3.bZ _ _ bn),arJ]
    |ok r=>
     obtain⟨v,t2⟩:=r;rw [cR];simp only [arH,arL,arK,arS];rw [i_ (by omega),a6,bx (by omega)]
  ·intro m t acc ha aA;simp only [wO,IU,arU,arI,arK]
theorem adf{t:arY}(aA:t <:+ s):KL n s (aT s t)=some (res [] s (rI t)):=by
 unfold KL rI jP gX;rw [show(2147483647:Int)=((2147483647:Nat):Int)from rfl,tk aA (by omega) (by omega) (by omega),an]
 cases h:gW 2147483647 t with
 |error e=>rw [lE h,b9];simp only [dh (k9 h),arJ,b9]
 |ok r=>
  obtain⟨u,bq⟩:=r;obtain⟨Z,ab,aq⟩:=kL h;have dd:bq <:+ s:=List.IsSuffix.trans ⟨gF u,Z.symm⟩ aA;have hu:=dd.length_le;rw [lD h,cR];simp only [arH,arL,arK];rw [show xc n s ((u:Int),aT s bq,0) n [] 0 (aT s bq)=_ from tl (L:=λm i t acc=>xc n s ((u:Int),aT s bq,0) m acc (i:Int) (aT s t)) (D:=tr) (u:=u) (s:=s) (fin:=λacc t=>KJ n acc (aT s t)) (bad:=λe=>some ([],0,e)) (λx v t hx=>Gk.hZ hx) ?_ ?_ (by omega) dd]
  ·cases ai:fV tr u bq with
   |error e=>rfl
   |ok r=>
    obtain⟨l,jR⟩:=r;obtain⟨g1,g2,g3⟩:=(Gk.rep u).eN _ _ _ ai;simp only [KJ];rw [acT hn aY (by omega) (MH g3),an]
    cases pE l<;>rfl
  ·intro m i t acc hi ha aA;simp only [xc,KK,arQ,hi,arH,arJ];rw [show(24:Int)=((24:Nat):Int)from rfl,vh aA (by omega) (by omega) (by omega),an]
   unfold tr eX dF;cases aN:eG 24 t with
   |error e=>rw [b9];simp only [dh (jQ.bZ _ _ aN),arJ]
   |ok r=>
    obtain⟨k,t1⟩:=r;rw [cR];simp only [arH,arL,arK];rw [U5 (eH jQ aN aA) (by omega) (by omega),an]
    cases bn:i8 t1 with
    |error e=>rw [b9];simp only [dh (n3.bZ _ _ bn),arJ]
    |ok r=>
     obtain⟨v,t2⟩:=r;rw [cR];simp only [arH,arL,arK,arS];rw [i_ (by omega),a6,bx (by omega)]
  ·intro m t acc ha aA;simp only [xc,KK,arU,arI,arK]
end
def rJ{α β R:Type}{D:eB α}{s:arY}{u:Nat}{f:Nat→α→β}{L:Nat→Nat→arY→List β→Option R}{fin:List β→arY→Option R}{bad:Int→Option R→Prop}
 (hZ:∀x v t,D x = .ok (v,t)→t <:+ x)
 (step:∀m i t acc,u<i+1+m→i<u→acc.length=i→t <:+ s→match D t with|.ok (v,bq)=>L (m+1) i t acc=L m (i+1) bq (acc++[f i v])|.error e=>bad e (L (m+1) i t acc))
 (stop:∀m t acc,acc.length=u→t <:+ s→L (m+1) u t acc=fin acc t):
 ∀k m i t acc,i+k=u→k<m→acc.length=i→t <:+ s→match fV D k t with|.ok (l,bq)=>L m i t acc=fin (acc++(l.zipIdx i).map λp=>f p.2 p.1) bq|.error e=>bad e (L m i t acc):=by
 intro k;induction k with
 |zero=>
  intro m i t acc hi hm ha aA;obtain⟨m,rfl⟩:∃j,m=j+1:=⟨m-1,by omega⟩
  obtain rfl:i=u:=by omega
  rw [stop m t acc ha aA];simp [fV]
 |succ k aR=>
  intro m i t acc hi hm ha aA;obtain⟨m,rfl⟩:∃j,m=j+1:=⟨m-1,by omega⟩
  have dC:=step m i t acc (by omega) (by omega) ha aA
  unfold fV;cases h:D t with
  |error e=>rw [h]at dC;exact dC
  |ok r=>
   obtain⟨v,bq⟩:=r;rw [h]at dC;simp only at dC ⊢
   have:=aR m (i+1) bq (acc++[f i v]) (by omega) (by omega) (by simp [ha]) ((hZ _ _ _ h).trans aA)
   cases ab:fV D k bq with
   |error e=>rw [ab]at this;simp only at this ⊢;rw [dC];exact this
   |ok r=>
    obtain⟨l,jR⟩:=r;rw [ab]at this;simp only at this ⊢
    rw [dC,this];simp
def rK{α:Type}(l:List α)(i:Nat):((l.zipIdx i).map λp=>p.1)=l:=List.zipIdx_map_fst i l
def kp{α:Type}(e:Int)(x:Option (α×Int×Int)):Prop:=∃v a,x=some (v,a,e)
def qD:eB Part:=eX (λp=>⟨p.1,p.2.1,p.2.2.1,p.2.2.2.1,p.2.2.2.2⟩) (dF gG λ_=>dF (eG 24) λ_=>dF gG λ_=>dF gG λ_=>eG 24)
def Gl(x:Part):arY:=qA x.Id++(iq x.eJ++(qA x.Node++(qA x.fN++iq x.ii)))
def vo(x:Part):Prop:=lC x.Id∧x.eJ.length≤24∧lC x.Node∧lC x.fN∧x.ii.length≤24
def Bs:ej qD Gl vo:=
 (ht.dep λ_ _=>jQ.dep λ_ _=>ht.dep λ_ _=>ht.dep λ_ _=>jQ).map _ (λx=>(x.Id,x.eJ,x.Node,x.fN,x.ii)) vo Gl
  (λb h=>⟨rfl,⟨h.1,h.2.1,h.2.2.1,h.2.2.2.1,h.2.2.2.2⟩,rfl⟩) (λa h=>⟨rfl,⟨h.1,h.2.1,h.2.2.1,h.2.2.2.1,h.2.2.2.2⟩⟩)
def pH:eB cp:=jP n4 5 (eX (λp=>⟨p.1,p.2⟩) (dF gG λ_=>gX 16 qD))
def Vb(p:cp):arY:=qA p.Version++jl Gl p.aV
def apf:ej (gX 16 qD) (jl Gl) (λl=>l.length≤16∧∀v∈l,vo v):=Bs.vd _ (by omega) (λv _=>by unfold Gl qA;simp [rD])
def x4:ej pH Vb (λp=>(lC p.Version∧p.aV.length≤16∧∀v∈p.aV,vo v)∧n4 p=true):=
 ((ht.dep λ_ _=>apf).map (λp=>(⟨p.1,p.2⟩:cp)) (λp:cp=>(p.Version,p.aV)) (λp=>lC p.Version∧p.aV.length≤16∧∀v∈p.aV,vo v) Vb (λb h=>⟨rfl,⟨h.1,h.2⟩,rfl⟩) (λa h=>⟨rfl,⟨h.1,h.2⟩⟩)).chk _ _ (by omega)
def apg{p:Part}(h:vo p):tq p:=⟨by have:=h.2.1;omega,by have:=h.2.2.2.2;omega⟩
def MI{l:List Part}(h:∀p∈l,vo p)(i:Nat):tq (l.getD i default):=oT (P:=tq) (λx hx=>apg (h x hx)) ⟨by show([]:arY).length≤1000;simp,by show([]:arY).length≤1000;simp⟩ i
section
variable {n:Nat} (hn:2000≤n) (aY:n≤1000000000) {s:arY} (hs:s.length<n)
theorem Gm{a e:Int}(he:e≠0):sw n ⟨s,a,e⟩=some (0,a,e):=by
 unfold sw;simp only [dh he,arJ]
theorem Gn{a e:Int}(he:e≠0):wP n ⟨s,a,e⟩=some ([],a,e):=by
 unfold wP;simp only [dh he,arJ]
include hn aY hs
theorem MJ{t:arY}(aA:t <:+ s):sw n ⟨s,aT s t,0⟩=some (res 0 s (gG t)):=by
 unfold sw;simp only [arH,arL,arK];rw [U3 aA (by omega) (by omega),an]
theorem adg{t:arY}(aA:t <:+ s):wP n ⟨s,aT s t,0⟩=some (res [] s (eG 24 t)):=by
 unfold wP;simp only [arH,arL,arK];rw [show(24:Int)=((24:Nat):Int)from rfl,Ga aA (by omega) (by omega) (by omega),an]
theorem Bt{u:Nat}(hu:u<n){r1:Int×Int×Int}{b:Int}{c:Int}:∀(k m i:Nat) (a e:Int) (acc:List Part),e≠0→i+k=u→k<m→acc.length=i→sx n ((u:Int),b,c) s r1 m a e acc (i:Int)=some (⟨0,[]⟩,0,e):=by
 intro k;induction k with
 |zero=>
  intro m i a e acc he hi hm ha;obtain⟨m,rfl⟩:∃j,m=j+1:=⟨m-1,by omega⟩
  obtain rfl:i=u:=by omega
  simp only [sx,zp,arU,arI,arK,Dn,IW,he,an,arM,arJ]
 |succ k aR=>
  intro m i a e acc he hi hm ha;obtain⟨m,rfl⟩:∃j,m=j+1:=⟨m-1,by omega⟩
  simp only [sx,zp,arQ,show i<u by omega,arH,arJ,Gm he,Gn he,an,arS]
  rw [i_ (by omega),a6,bx (by omega)]
  exact aR m (i+1) a e _ he (by omega) (by omega) (by simp [ha])
theorem aph{t:arY}(aA:t <:+ s):IX n s (aT s t)=some (res ⟨0,[]⟩ s (pH t)):=by
 unfold IX pH jP eX dF gX;rw [MJ hn aY hs aA,an];cases h0:gG t with
 |error e=>rw [b9];simp only [dh (ht.bZ _ _ h0),arJ,b9]
 |ok r=>
  obtain⟨v,t0⟩:=r;have Gp:=eH ht h0 aA;rw [cR];simp only [arH,arL,arK];rw [show(16:Int)=((16:Nat):Int)from rfl,vg Gp (by omega) (by omega) (by omega),an]
  cases h:gW 16 t0 with
  |error e=>
   rw [lE h,b9];exact Bt hn aY hs (u:=0) (by omega) 0 n 0 0 e [] (k9 h) rfl (by omega) rfl
  |ok r=>
   obtain⟨u,bq⟩:=r;obtain⟨Z,ab,aq⟩:=kL h;have dd:bq <:+ s:=List.IsSuffix.trans ⟨gF u,Z.symm⟩ Gp;have hu:=dd.length_le;rw [lD h,cR]
   have cO:=rJ (L:=λm i t acc=>sx n ((u:Int),aT s bq,0) s (v,aT s t0,0) m (aT s t) 0 acc (i:Int)) (f:=λ_ v=>v) (D:=qD) (u:=u) (s:=s) (fin:=λacc t=>Dn n s (v,aT s t0,0) (aT s t) 0 acc) (bad:=λe x=>x=some (⟨0,[]⟩,0,e)) (λx v t hx=>Bs.hZ hx) (by
    intro m i t acc hm hi ha aA;simp only [sx,zp,arQ,hi,arH,arJ];rw [MJ hn aY hs aA,an];unfold qD eX dF;have fI:room (acc.length+1) 56=true:=i_ (by omega)
    cases g1:gG t with
    |error e=>
     have he:=ht.bZ _ _ g1;rw [b9];simp only [Gm he,Gn he,an,arS,fI,a6];rw [bx (by omega)]
     exact Bt hn aY hs (by omega) (u-(i+1)) m (i+1) _ e _ he (by omega) (by omega) (by simp [ha])
    |ok r=>
     obtain⟨dk,t1⟩:=r;have gr:=eH ht g1 aA;rw [cR];simp only
     rw [adg hn aY hs gr,an];cases g2:eG 24 t1 with
     |error e=>
      have he:=jQ.bZ _ _ g2;rw [b9];simp only [Gm he,Gn he,an,arS,fI,a6];rw [bx (by omega)]
      exact Bt hn aY hs (by omega) (u-(i+1)) m (i+1) _ e _ he (by omega) (by omega) (by simp [ha])
     |ok r=>
      obtain⟨ec,t2⟩:=r;have gh:=eH jQ g2 gr;rw [cR];simp only
      rw [MJ hn aY hs gh,an];cases g3:gG t2 with
      |error e=>
       have he:=ht.bZ _ _ g3;rw [b9];simp only [Gm he,Gn he,an,arS,fI,a6];rw [bx (by omega)]
       exact Bt hn aY hs (by omega) (u-(i+1)) m (i+1) _ e _ he (by omega) (by omega) (by simp [ha])
      |ok r=>
       obtain⟨il,t3⟩:=r;have mp:=eH ht g3 gh;rw [cR];simp only
       rw [MJ hn aY hs mp,an];cases g4:gG t3 with
       |error e=>
        have he:=ht.bZ _ _ g4;rw [b9];simp only [Gm he,Gn he,an,arS,fI,a6];rw [bx (by omega)]
        exact Bt hn aY hs (by omega) (u-(i+1)) m (i+1) _ e _ he (by omega) (by omega) (by simp [ha])
       |ok r=>
        obtain⟨fu,t4⟩:=r;have ne:=eH ht g4 mp;rw [cR];simp only
        rw [adg hn aY hs ne,an];cases g5:eG 24 t4 with
        |error e=>
         have he:=jQ.bZ _ _ g5;rw [b9];simp only [arS,fI,a6];rw [bx (by omega)]
         exact Bt hn aY hs (by omega) (u-(i+1)) m (i+1) _ e _ he (by omega) (by omega) (by simp [ha])
        |ok r=>
         obtain⟨kf,t5⟩:=r;rw [cR];simp only [arS,fI,a6];rw [bx (by omega)]) (by
    intro m t acc ha aA;simp only [sx,zp,arU,arI,arK]) u n 0 bq [] (by omega) (by omega) rfl dd
   cases ai:fV qD u bq with
   |error e=>rw [ai]at cO;simp only [ai]at cO ⊢;exact cO
   |ok r=>
    obtain⟨l,jR⟩:=r;rw [ai]at cO;simp only [List.nil_append,rK,ai]at cO ⊢;refine cO.trans ?_;obtain⟨g1,g2,g3⟩:=(Bs.rep u).eN _ _ _ ai;simp only [Dn,arH,arJ];rw [ac2 hn aY (p:=⟨v,l⟩) (by show l.length<n;omega) (MI g3),an]
    cases n4 ⟨v,l⟩<;>rfl
theorem api{t:arY}(aA:t <:+ s):KN n s (aT s t)=some (res ⟨0,[],0,0,[]⟩ s (qD t)):=by
 unfold KN qD eX dF;rw [vf aA (by omega) (by omega),an]
 cases g1:gG t with
 |error e=>rw [b9];simp only [dh (ht.bZ _ _ g1),arJ,b9]
 |ok r=>
  obtain⟨dk,t1⟩:=r;have gr:=eH ht g1 aA;rw [cR];simp only [arH,arL,arK];rw [show(24:Int)=((24:Nat):Int)from rfl,vh gr (by omega) (by omega) (by omega),an]
  cases g2:eG 24 t1 with
  |error e=>rw [b9];simp only [dh (jQ.bZ _ _ g2),arJ,b9]
  |ok r=>
   obtain⟨ec,t2⟩:=r;have gh:=eH jQ g2 gr;rw [cR];simp only [arH,arL,arK];rw [vf gh (by omega) (by omega),an]
   cases g3:gG t2 with
   |error e=>rw [b9];simp only [dh (ht.bZ _ _ g3),arJ,b9]
   |ok r=>
    obtain⟨il,t3⟩:=r;have mp:=eH ht g3 gh;rw [cR];simp only [arH,arL,arK];rw [vf mp (by omega) (by omega),an]
    cases g4:gG t3 with
    |error e=>rw [b9];simp only [dh (ht.bZ _ _ g4),arJ,b9]
    |ok r=>
     obtain⟨fu,t4⟩:=r;have ne:=eH ht g4 mp;rw [cR];simp only [arH,arL,arK];rw [vh ne (by omega) (by omega) (by omega),an]
     cases g5:eG 24 t4 with
     |error e=>rw [b9];simp only [dh (jQ.bZ _ _ g5),arJ,b9]
     |ok r=>
      obtain⟨kf,t5⟩:=r;rw [cR];simp only [arH,arL,arK,cR]
theorem adh{t:arY}(aA:t <:+ s):KQ n s (aT s t)=some (res ⟨0,[]⟩ s (pH t)):=by
 unfold KQ pH jP eX dF gX;rw [vf aA (by omega) (by omega),an]
 cases h0:gG t with
 |error e=>rw [b9];simp only [dh (ht.bZ _ _ h0),arJ,b9]
 |ok r=>
  obtain⟨v,t0⟩:=r;have Gp:=eH ht h0 aA;rw [cR];simp only [arH,arL,arK];rw [show(16:Int)=((16:Nat):Int)from rfl,tk Gp (by omega) (by omega) (by omega),an]
  cases h:gW 16 t0 with
  |error e=>rw [lE h,b9];simp only [dh (k9 h),arJ,b9]
  |ok r=>
   obtain⟨u,bq⟩:=r;obtain⟨Z,ab,aq⟩:=kL h;have dd:bq <:+ s:=List.IsSuffix.trans ⟨gF u,Z.symm⟩ Gp;have hu:=dd.length_le;rw [lD h,cR];simp only [arH,arL,arK];rw [show xd n s ((u:Int),aT s bq,0) (v,aT s t0,0) n [] (aT s bq) 0=_ from tl (L:=λm i t acc=>xd n s ((u:Int),aT s bq,0) (v,aT s t0,0) m acc (aT s t) (i:Int)) (D:=qD) (u:=u) (s:=s) (fin:=λacc t=>KO n (v,aT s t0,0) acc (aT s t)) (bad:=λe=>some (⟨0,[]⟩,0,e)) (λx v t hx=>Bs.hZ hx) ?_ ?_ (by omega) dd]
   ·cases ai:fV qD u bq with
    |error e=>rfl
    |ok r=>
     obtain⟨l,jR⟩:=r;obtain⟨g1,g2,g3⟩:=(Bs.rep u).eN _ _ _ ai;simp only [KO];rw [ac5 hn aY (p:=⟨v,l⟩) (by show l.length<n;omega) (MI g3),an]
     cases n4 ⟨v,l⟩<;>rfl
   ·intro m i t acc hi ha aA;simp only [xd,KP,arQ,hi,arH,arJ];rw [api hn aY hs aA,an];cases aN:qD t with
    |error e=>rw [b9];simp only [dh (Bs.bZ _ _ aN),arJ]
    |ok r=>
     obtain⟨x,t1⟩:=r;rw [cR];simp only [arH,arL,arK,arS];rw [i_ (by omega),a6,bx (by omega)]
   ·intro m t acc ha aA;simp only [xd,KP,arU,arI,arK]
end
end Go.Ab.Y

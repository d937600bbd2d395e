/- The plain law: what the functions compute answers as the statement says. -/
import Derived.Test.YtbncfepdlmnmiaaGreatDoorPlainB
set_option linter.all false
namespace Go.Ab.Y
open Go Go.Ab Go.Proofs
section
variable {l:List Token}
theorem apP{op:Int}{a b:Expr}{bR:Nat}(hz:dS op=bR)(h:4≤op∧op≤8∨10≤op∧op≤17∨op=19):c6 (hP ⟨op,0,[],[a,b]⟩)=c6 (jH a (if bR=4 then 5 else bR))+(spell (mM op)).length+c6 (jH b (bR+1)):=by
 unfold hP;rw [aoN h,lZ,hz];have Z:c6 (mM op::jH b (bR+1))=(spell (mM op)).length+c6 (jH b (bR+1)):=rfl;show c6 (jH a (if bR=4 then 5 else bR))+c6 (mM op::jH b (bR+1))=_
 omega
def adT(l:List Token)(i:Nat)(e:Expr)(z:Int):Prop:=∃k:Nat,z=(k:Int)∧i≤k∧k≤l.length∧n7 e∧bu l i+(2+c6 (hP e))≤bu l k
theorem apQ(ab:l.length≤1000000000)(hg:kF l)(au:∀t,t∈l→mo (cN t)):∀n:Nat,(∀(bR:Nat) (d:Int) (i:Nat),1≤bR→bR≤8→i≤l.length→bS (o7 l i bR) (fG n (bR:Int) d ⟨l,(i:Int)⟩))∧
 (∀(op:Int) (bR:Nat) (d:Int) (i:Nat),(op=18∧bR=3∧bD l i [110,111,116]=true∨op=9∧bR=8∧bD l i [45]=true)→bS (o7 l i bR) (jz n op (bR:Int) d ⟨l,(i:Int)⟩))∧
 (∀(d:Int) (i:Nat),i≤l.length→bS (o7 l i 9) (iU n d ⟨l,(i:Int)⟩))∧(∀(d:Int) (i:Nat),i≤l.length→bS (adT l i) (iE n d ⟨l,(i:Int)⟩)):=by
 intro n;induction n with
 |zero=>exact⟨λ_ _ _ _ _ _=>.none,λ_ _ _ _ _=>.none,λ_ _ _=>.none,λ_ _ _=>.none⟩
 |succ n aM=>
  obtain⟨he,hp,hu,hi⟩:=aM
  have iH:∀(bR:Nat) (d:Int) (i0:Int) (i m k:Nat) (op N:Int) (S:au') (A:List Expr),1≤bR→bR≤7→i≤k→k≤l.length→n7 ⟨op,N,S,A⟩→bu l i+c6 (jH ⟨op,N,S,A⟩ (if bR=4 then 5 else bR))≤bu l k→
   bS (o7 l i bR) (uN n (fG n) (jz n) (iU n) (iE n) (bR:Int) d ⟨l,i0⟩ m (k:Int) op N S A):=by
   intro bR d i0 i m;induction m with
   |zero=>intro k op N S A _ _ _ _ _ _;exact .none
   |succ m mn=>
    intro k op N S A Z aa am aK bd b';simp only [uN,DE];rw [Tn n l k];simp only [ak];refine bS.bif (λ_=>.ret ⟨k,rfl,am,aK,bd,?_⟩) (λhc=>?_)
    ·have:=Un ⟨op,N,S,A⟩ (show bR≤if bR=4 then 5 else bR by split<;>omega)
     omega
    ·have hc:(hD l k).1=(bR:Int):=by simpa using hc
     obtain⟨g1,g2,g3⟩:=apN (l:=l) (i:=k) (by omega)
     obtain⟨g4,g5⟩:=h1 g1;have hz:dS (hD l k).2=bR:=by omega
     rw [c8 (by omega),c8 (by omega)]
     refine bS.bind (he (bR+1) d (k+1) (by omega) (by omega) (by omega)) (λb z hb=>?_) (λx z=>.aJ)
     obtain⟨k',rfl,aG,bf,bW,da⟩:=hb;have hk:=apP (a:=⟨op,N,S,A⟩) (b:=b) hz g3;have hin:n7 ⟨(hD l k).2,0,[],[⟨op,N,S,A⟩,b]⟩:=⟨by omega,by simp,by simp,bd,bW,trivial⟩
     have Bc:bu l i+c6 (hP ⟨(hD l k).2,0,[],[⟨op,N,S,A⟩,b]⟩)≤bu l k':=by rw [hk];omega
     have rR:∀j,j≤bR→c6 (jH ⟨(hD l k).2,0,[],[⟨op,N,S,A⟩,b]⟩ j)=c6 (hP ⟨(hD l k).2,0,[],[⟨op,N,S,A⟩,b]⟩):=λj hj=>by rw [xW,if_neg (by simp only;omega)];rfl
     refine bS.bif (λ_=>.ret ⟨k',rfl,by omega,bf,hin,by rw [rR bR (by omega)];exact Bc⟩) (λapR=>?_)
     have apS:bR≠4:=by
      intro e;subst e;simp at apR
     exact mn k' _ 0 [] _ Z aa (by omega) bf hin (by rw [if_neg apS,rR bR (by omega)];exact Bc)
  refine⟨λbR d i Z aa am=>?_,λop bR d i f7=>?_,λd i am=>?_,λd i am=>?_⟩
  ·rw [Lf];unfold xa;rw [rS,rS];simp only [ak];refine bS.bif (λhc=>?_) (λhc=>bS.bif (λjt=>?_) (λjt=>?_))
   ·obtain rfl:bR=3:=by have:=of_decide_eq_true hc;omega
    refine bS.bif (λhn=>?_) (λhn=>?_)
    ·exact bS.bind (hp 18 3 d i (Or.inl ⟨rfl,rfl,hn⟩)) (λa z ao=>.ret ao) (λx z=>.aJ)
    ·exact bS.bind (he 4 d i (by omega) (by omega) am) (λa z ao=>.ret (ao.mono (Nat.le_refl _) (Nat.le_refl _) (by omega))) (λx z=>.aJ)
   ·obtain rfl:bR=8:=by have:=of_decide_eq_true jt;omega
    refine bS.bif (λhn=>?_) (λhn=>?_)
    ·exact bS.bind (hp 9 8 d i (Or.inr ⟨rfl,rfl,hn⟩)) (λa z ao=>.ret ao) (λx z=>.aJ)
    ·exact bS.bind (hu d i am) (λa z ao=>.ret (ao.mono (Nat.le_refl _) (Nat.le_refl _) (by omega))) (λx z=>.aJ)
   ·have hz:bR≠8:=by intro e;subst e;simp at jt
    rw [c8 (by omega)]
    refine bS.bind (he (bR+1) d i (by omega) (by omega) am) (λa z ao=>?_) (λx z=>.aJ)
    obtain⟨k,rfl,aG,bf,bW,da⟩:=ao;refine iH bR d (i:Int) i n k a.Op a.N a.S a.ax Z (by omega) aG bf (by rw [gn];exact bW) ?_
    rw [gn];have:=Un a (show(if bR=4 then 5 else bR)≤bR+1 by split<;>omega)
    omega
  ·have aD:∃w,bD l i w=true∧(spell (if op=18 then fl [110,111,116]else cQ [45])).length=w.length:=by
    rcases f7 with⟨rfl,rfl,h⟩|⟨rfl,rfl,h⟩
    ·exact⟨_,h,rfl⟩
    ·exact⟨_,h,rfl⟩
   obtain⟨w,hw,xE⟩:=aD;obtain⟨g4,g5⟩:=h1 hw;show bS (o7 l i bR) (zZ n (fG n) (jz n) (iU n) (iE n) op (bR:Int) d ⟨l,(i:Int)⟩)
   unfold zZ;refine bS.bind (Um n d _) (λdV z _=>?_) (λx z=>.aJ)
   rw [c8 (by omega)]
   refine bS.bind (he bR dV (i+1) (by omega) (by omega) (by omega)) (λa z ao=>.ret ?_) (λx z=>.aJ)
   obtain⟨k,rfl,aG,bf,bW,da⟩:=ao;refine⟨k,rfl,by omega,bf,⟨by omega,by simp,by simp,bW,trivial⟩,?_⟩
   rcases f7 with⟨rfl,rfl,h⟩|⟨rfl,rfl,h⟩
   ·have Z:c6 (jH ⟨18,0,[],[a]⟩ 3)=(spell (fl [110,111,116])).length+c6 (jH a 3):=rfl;rw [if_pos rfl]at xE;omega
   ·have Z:c6 (jH ⟨9,0,[],[a]⟩ 8)=(spell (cQ [45])).length+c6 (jH a 8):=rfl;rw [if_neg (by omega)]at xE
    omega
  ·have FC:∀b:Int,bS (o7 l i 9) (s3 n (fG n) (jz n) (iU n) (iE n) d ⟨l,b⟩ (i:Int)):=by
    intro b;simp only [s3,DF,DH,mE];rw [Tp n l i hg,rS];simp only [ak]
    have apT:bS (o7 l i 9) (Option.bind (sY n d ⟨l,(i:Int)⟩) λcd=>aB.on cd (λdj bx=>Option.bind (iE n dj ⟨l,(i:Int)⟩) λde=>aB.on de (λep dx=>some (.ret ep dx)) (λs0 dx=>some (.aJ s0 dx))) (λmj bx=>some (.aJ mj (i:Int)))):=by
     refine bS.bind (Um n d _) (λdV z _=>?_) (λx z=>.aJ)
     refine bS.bind (hi dV i am) (λa z ao=>.ret ?_) (λx z=>.aJ)
     obtain⟨k,rfl,aG,bf,bW,da⟩:=ao;refine⟨k,rfl,aG,bf,bW,?_⟩
     rw [xW];split<;>omega
    refine bS.bif (λhc=>?_) (λhc=>?_)
    ·exact bS.bif (λ_=>bS.bind (adR n 5 i ab) (λ_ _ bP=>bP.elim) (λx z=>.aJ)) (λ_=>apT)
    ·have hc:lW l i≠0:=of_decide_eq_false hc;obtain⟨c1,c2,c3⟩:=apO hc;obtain⟨c4,c5⟩:=h1 c1;generalize lW l i=op at hc c1 c2 c3 c4 c5
     have sv:op≤24→bS (o7 l i 9) (Option.bind (sY n d ⟨l,(i:Int)⟩) λr26=>aB.on r26 (λr27 nJ=>Option.bind (iE n r27 ⟨l,ava ((i:Int)+1)⟩) λhM=>aB.on hM (λfN kW=>some (.ret (⟨op,0,[],[fN]⟩:Expr) kW)) (λsZ kW=>some (.aJ sZ kW))) (λDG nJ=>some (.aJ DG (i:Int)))):=by
      intro f7;refine bS.bind (Um n d _) (λdV z _=>?_) (λx z=>.aJ)
      rw [c8 (by omega)]
      refine bS.bind (hi dV (i+1) (by omega)) (λa z ao=>.ret ?_) (λx z=>.aJ)
      obtain⟨k,rfl,aG,bf,bW,da⟩:=ao;refine⟨k,rfl,by omega,bf,⟨by omega,by simp,by simp,bW,trivial⟩,?_⟩
      have hz:dS op=9:=by
       have:op=20∨op=21∨op=22∨op=23∨op=24:=by omega
       rcases this with rfl|rfl|rfl|rfl|rfl<;>rfl
      rw [xW,if_neg (by simp only [hz];omega)]
      have hk:hP ⟨op,0,[],[a]⟩=hO op::cQ [40]::(hP a++[cQ [41]]):=by
       have:op=20∨op=21∨op=22∨op=23∨op=24:=by omega
       rcases this with rfl|rfl|rfl|rfl|rfl<;>simp [hP,db,rW,tx,k8,Fn]
      rw [hk];have s1:(spell (cQ [40])).length=1:=rfl;have s2:(spell (cQ [41])).length=1:=rfl;simp only [c6,lZ,s1,s2];omega
     have xH:25≤op→bS (o7 l i 9) (Option.bind (iT n [40] ⟨l,ava ((i:Int)+1)⟩) λe9=>aB.on e9 (λeW dW=>Option.bind (iT n [41] ⟨l,dW⟩) λdp=>aB.on dp (λeo r24=>some (.ret (⟨op,0,[],[]⟩:Expr) r24)) (λDI r24=>some (.aJ DI r24))) (λDJ dW=>some (.aJ DJ dW))):=by
      intro f7;rw [c8 (by omega)]
      refine bS.bind (n_ n _ (i+1) ab (by omega)) (λ_ z cY=>?_) (λx z=>.aJ)
      obtain⟨rfl,cY⟩:=cY;obtain⟨e1,e2⟩:=h1 cY;refine bS.bind (n_ n _ (i+1+1) ab (by omega)) (λ_ z cY=>.ret ?_) (λx z=>.aJ)
      obtain⟨rfl,cY⟩:=cY;obtain⟨e3,hq⟩:=h1 (l:=l) cY;refine⟨i+1+1+1,rfl,by omega,by omega,⟨by simp,by simp,by simp,trivial⟩,?_⟩
      have:op=25∨op=26∨op=27:=by omega
      simp only [auZ,au0]at e2 hq;rcases this with rfl|rfl|rfl
      ·have:c6 (jH ⟨25,0,[],[]⟩ 9)=(spell (hO 25)).length+2:=rfl
       omega
      ·have:c6 (jH ⟨26,0,[],[]⟩ 9)=(spell (hO 26)).length+2:=rfl
       omega
      ·have:c6 (jH ⟨27,0,[],[]⟩ 9)=(spell (hO 27)).length+2:=rfl
       omega
     refine bS.bif (λxG=>?_) (λxG=>bS.bif (λLM=>?_) (λLM=>bS.bif (λUo=>?_) (λUo=>?_)))
     ·have:op=25:=of_decide_eq_true xG
      exact bS.bif (λ_=>xH (by omega)) (λh=>by rw [xG]at h;cases h)
     ·have:op=26:=of_decide_eq_true LM
      exact bS.bif (λ_=>xH (by omega)) (λh=>by rw [LM]at h;cases h)
     ·have:op=27:=of_decide_eq_true Uo
      exact xH (by omega)
     ·have g1:op≠25:=of_decide_eq_false xG;have g2:op≠26:=of_decide_eq_false LM;have g3:op≠27:=of_decide_eq_false Uo;exact sv (by omega)
   show bS (o7 l i 9) (xb n (fG n) (jz n) (iU n) (iE n) d ⟨l,(i:Int)⟩)
   unfold xb;simp only [au1,au2];refine bS.bif (λhc=>bS.av ?_) (λ_=>FC _)
   have hc:i<l.length:=of_decide_eq_true hc;have tF:=au _ (tD hc);have gt:=tE i hc;rw [c8 (by omega),show ava (((i+1:Nat):Int)-1)=(i:Int)by rw [wr]<;>omega]
   obtain⟨_,tF⟩:=tF;simp only [cN]at tF;refine bS.bif (λh=>?_) (λ_=>bS.bif (λh=>?_) (λ_=>bS.bif (λh=>?_) (λ_=>FC _)))
   ·have h:(l.getD i default).Kind=3:=of_decide_eq_true h;refine .ret ⟨i+1,rfl,by omega,by omega,⟨?_,by simp,by simp,trivial⟩,?_⟩
    ·rcases tF with⟨g,_⟩|⟨g,_⟩|⟨_,_,g1,g2⟩|⟨g,_⟩|⟨g,_⟩
     ·omega
     ·omega
     ·exact g2
     ·omega
     ·omega
    ·have Z:c6 (jH ⟨1,(l.getD i default).N,[],[]⟩ 9)=(Lib.decDigits (l.getD i default).N.toNat).length:=rfl;have aa:spell (l.getD i default)=Lib.decDigits (l.getD i default).N.toNat:=by unfold spell;rw [if_pos h]
     rw [aa]at gt;omega
   ·have h:(l.getD i default).Kind=4:=of_decide_eq_true h;have aa:spell (l.getD i default)=quo (l.getD i default).Text:=by unfold spell;rw [if_neg (by omega),if_pos h]
    refine .ret ⟨i+1,rfl,by omega,by omega,⟨by omega,?_,by simp,trivial⟩,?_⟩
    ·rcases tF with⟨g,_⟩|⟨g,_⟩|⟨g,_⟩|⟨_,g,_⟩|⟨g,_⟩
     ·omega
     ·omega
     ·omega
     ·unfold jg at g;simp only [Bool.and_eq_true,decide_eq_true_eq]at g;omega
     ·omega
    ·have Z:c6 (jH ⟨2,0,(l.getD i default).Text,[]⟩ 9)=(quo (l.getD i default).Text).length:=rfl;rw [aa]at gt;omega
   ·have h:(l.getD i default).Kind=1:=of_decide_eq_true h;have aa:spell (l.getD i default)=(l.getD i default).Text:=by unfold spell;rw [if_neg (by omega),if_neg (by omega)]
    refine .ret ⟨i+1,rfl,by omega,by omega,⟨by omega,?_,by simp,trivial⟩,?_⟩
    ·rcases tF with⟨_,g,_⟩|⟨g,_⟩|⟨g,_⟩|⟨g,_⟩|⟨g,_⟩
     ·have:=o4 g
      omega
     ·omega
     ·omega
     ·omega
     ·omega
    ·have Z:c6 (jH ⟨3,0,(l.getD i default).Text,[]⟩ 9)=(l.getD i default).Text.length:=rfl;rw [aa]at gt;omega
  ·show bS (adT l i) (uO n (fG n) (jz n) (iU n) (iE n) d ⟨l,(i:Int)⟩)
   unfold uO;refine bS.bind (n_ n _ i ab am) (λ_ z cY=>?_) (λx z=>.aJ)
   obtain⟨rfl,cY⟩:=cY;obtain⟨g1,g2⟩:=h1 cY;refine bS.bind (he 1 d (i+1) (by omega) (by omega) (by omega)) (λa z ao=>?_) (λx z=>.aJ)
   obtain⟨k,rfl,aG,bf,bW,da⟩:=ao;refine bS.bind (n_ n _ k ab bf) (λ_ z cY=>?_) (λx z=>.aJ)
   obtain⟨rfl,cY⟩:=cY;obtain⟨g3,g4⟩:=h1 (l:=l) cY;have Z:=xW a 1;exact .ret ⟨k+1,rfl,by omega,by omega,bW,by simp only [auZ,au0]at g2 g4;omega⟩
end
section
variable {l:List Token}
def Up(l:List Token)(i:Nat)(s:Stmt)(z:Int):Prop:=∃k:Nat,z=(k:Int)∧i≤k∧k≤l.length∧xR s∧bu l i+c6 (iw s)≤bu l k
def Uq(l:List Token)(i:Nat)(b:List Stmt)(z:Int):Prop:=∃k:Nat,z=(k:Int)∧i≤k∧k≤l.length∧n8 b∧bu l i+(2+c6 (kH b))≤bu l k
theorem adU:∀l m:List Stmt,n8 (l++m)↔n8 l∧n8 m
 |[],m=>by simp [n8]
 |x::l,m=>by simp only [List.cons_append,n8,adU l m,and_assoc]
theorem adV:∀l m:List Stmt,kH (l++m)=kH l++kH m
 |[],m=>rfl
 |x::l,m=>by simp only [List.cons_append,kH,adV l m,List.append_assoc]
theorem xX:n7 gq:=⟨by simp,by simp,by simp,trivial⟩
theorem xY{t:Token}(h:mo (cN t)):(t.Kind=1→spell t=t.Text∧t.Text.length≤16)∧(t.Kind=3→spell t=Lib.decDigits t.N.toNat∧0≤t.N∧t.N≤9223372036854775807):=by
 obtain⟨_,h⟩:=h;simp only [cN]at h;refine⟨λhk=>⟨by unfold spell;rw [if_neg (by omega),if_neg (by omega)],?_⟩,λhk=>⟨by unfold spell;rw [if_pos hk],?_⟩⟩
 ·rcases h with⟨_,g,_⟩|⟨g,_⟩|⟨g,_⟩|⟨g,_⟩|⟨g,_⟩
  ·exact o4 g
  ·omega
  ·omega
  ·omega
  ·omega
 ·rcases h with⟨g,_⟩|⟨g,_⟩|⟨_,_,g1,g2⟩|⟨g,_⟩|⟨g,_⟩
  ·omega
  ·omega
  ·exact⟨g1,g2⟩
  ·omega
  ·omega
theorem apU(n:Nat)(s:Stmt)(i:Nat)(ab:l.length≤1000000000)(hi:i≤l.length):bS (λp7 z=>p7=s∧z=((i+1:Nat):Int)∧bD l i [59]=true) (mi n s ⟨l,(i:Int)⟩):=by
 rw [Tu n s l i (by omega) (by omega)]
 cases h:bD l i [59]
 ·exact .aJ
 ·exact .ret ⟨rfl,rfl,rfl⟩
theorem apV(e:Expr):c6 (jH e 1)=c6 (hP e):=by
 have:=aoO e.Op
 rw [xW,if_neg (by omega)];rfl
theorem apW(ab:l.length≤1000000000)(hg:kF l)(au:∀t,t∈l→mo (cN t))(n i:Nat)(hi:i≤l.length):bS (λe z=>∃k:Nat,z=(k:Int)∧i≤k∧k≤l.length∧n7 e∧bu l i+c6 (hP e)≤bu l k) (fG n 1 0 ⟨l,(i:Int)⟩):=by
 have:=(apQ ab hg au n).1 1 0 i (by omega) (by omega) hi
 intro e z h;obtain⟨k,Z,aa,am,aK,bd⟩:=this e z h;rw [apV]at bd;exact⟨k,Z,aa,am,aK,bd⟩
end
section
variable {l:List Token}
theorem FD{n i k:Nat}{s:Stmt}(ab:l.length≤1000000000)(hi:i≤k)(hk:k≤l.length)(hs:xR s)(hw:bu l i+c6 (iw s)≤bu l k+1):
 bS (Up l i) (Option.bind (mi n s ⟨l,(k:Int)⟩) λr=>aB.on r (λb8 df=>some (.ret (⟨b8.Op,b8.Name,b8.Max,(⟨b8.A.Op,b8.A.N,b8.A.S,b8.A.ax⟩:Expr),(⟨b8.B.Op,b8.B.N,b8.B.S,b8.B.ax⟩:Expr),b8.Body,b8.bM⟩:Stmt) df)) (λlw df=>some (.aJ lw df))):=by
 refine bS.bind (apU n s k ab hk) (λa z ao=>?_) (λx z=>.aJ)
 obtain⟨rfl,rfl,aD⟩:=ao;obtain⟨g1,g2⟩:=h1 (l:=l) aD;simp only [gn,jX];simp only [auZ,au0]at g2;exact .ret ⟨k+1,rfl,by omega,by omega,hs,by omega⟩
theorem apX(ab:l.length≤1000000000)(hg:kF l)(au:∀t,t∈l→mo (cN t)):∀n:Nat,(∀(d:Int) (i:Nat),i≤l.length→bS (Uq l i) (nR n d ⟨l,(i:Int)⟩))∧(∀(d:Int) (i:Nat),i≤l.length→bS (Up l i) (rG n d ⟨l,(i:Int)⟩))∧
 (∀(d:Int) (i:Nat),i≤l.length→bS (λs z=>∃k:Nat,z=(k:Int)∧i≤k∧k≤l.length∧xR s∧bu l i+c6 (iw s)≤bu l k+3) (qv n d ⟨l,(i:Int)⟩)):=by
 intro n;induction n with
 |zero=>exact⟨λ_ _ _=>.none,λ_ _ _=>.none,λ_ _ _=>.none⟩
 |succ n aM=>
  obtain⟨hb,hs,apY⟩:=aM;have b2:=λi hi=>apW ab hg au n i hi
  have iH:∀(d i0:Int) (i m k:Nat) (acc:List Stmt),i≤k→k≤l.length→n8 acc→bu l i+(1+c6 (kH acc))≤bu l k→bS (Uq l i) (uP n (nR n) (rG n) (qv n) d ⟨l,i0⟩ m (k:Int) acc):=by
   intro d i0 i m;induction m with
   |zero=>intro k acc _ _ _ _;exact .none
   |succ m mn=>
    intro k acc Z aa am aK;simp only [uP,Je,Jd];rw [k6 n l k _ (by omega)]
    simp only [ak];refine bS.bif (λhc=>?_) (λhc=>?_)
    ·have hc:bD l k [125]=false:=by simpa using hc
     rw [hc];refine bS.bind (hs _ k aa) (λs z ao=>bS.av ?_) (λx z=>.aJ)
     obtain⟨k',rfl,aG,bf,bW,da⟩:=ao;refine mn k' _ (by omega) bf ((adU _ _).2 ⟨am,bW,trivial⟩) ?_
     have:c6 (kH (acc++[s]))=c6 (kH acc)+c6 (iw s):=by rw [adV,lZ];simp [kH]
     rw [this];omega
    ·have hc:bD l k [125]=true:=by simpa using hc
     obtain⟨g1,g2⟩:=h1 hc;rw [hc];simp only [auZ,au0]at g2;exact .ret ⟨k+1,rfl,by omega,by omega,am,by omega⟩
  refine⟨λd i hi=>?_,λd i hi=>?_,λd i hi=>?_⟩
  ·rw [acI];simp only [DM,DK];rw [rS];simp only [ak]
   have hj:bS (Uq l i) (Option.bind (iT n [123] ⟨l,(i:Int)⟩) λaT=>aB.on aT (λbO bH=>uP n (nR n) (rG n) (qv n) d ⟨l,(i:Int)⟩ n bH []) (λDL bH=>some (.aJ DL bH))):=by
    refine bS.bind (n_ (l:=l) n _ i ab hi) (λ_ z ao=>?_) (λx z=>.aJ)
    obtain⟨rfl,aD⟩:=ao;obtain⟨g1,g2⟩:=h1 (l:=l) aD;simp only [auZ,au0]at g2;exact iH d _ i n (i+1) [] (by omega) (by omega) trivial (by simp [kH,c6];omega)
   exact bS.bif (λ_=>bS.bind (adR n 2 i ab) (λ_ _ bP=>bP.elim) (λx z=>.aJ)) (λ_=>hj)
  ·rw [acJ];simp only [DO,DN];have acc:∀w,kV n w ⟨l,(i:Int)⟩=some (bD l i w,(((bif bD l i w then i+1 else i):Nat):Int)):=λw=>k6 n l i w (by omega)
   have xZ:(spell (cQ [61])).length=1:=rfl;have Be:(spell (cQ [59])).length=1:=rfl
   have one:∀(op:Int) (w:au'),bD l i w=true→(∀A:Expr,c6 (iw ⟨op,[],0,A,gq,[],[]⟩)=w.length+(c6 (hP A)+1))→
    bS (Up l i) (Option.bind (fG n 1 0 ⟨l,((i+1:Nat):Int)⟩) λuG=>aB.on uG (λsN lP=>Option.bind (mi n (⟨op,[],0,sN,gq,[],[]⟩:Stmt) ⟨l,lP⟩) λr=>aB.on r (λb8 df=>some (.ret (⟨b8.Op,b8.Name,b8.Max,(⟨b8.A.Op,b8.A.N,b8.A.S,b8.A.ax⟩:Expr),(⟨b8.B.Op,b8.B.N,b8.B.S,b8.B.ax⟩:Expr),b8.Body,b8.bM⟩:Stmt) df)) (λlw df=>some (.aJ lw df))) (λs7 lP=>some (.aJ s7 lP))):=by
    intro op w aD hw;obtain⟨g1,g2⟩:=h1 (l:=l) aD;refine bS.bind (b2 (i+1) (by omega)) (λA z ao=>?_) (λx z=>.aJ)
    obtain⟨dc,rfl,bc,a2,a3,a4⟩:=ao;exact FD ab (by omega) a2 ⟨by omega,by simp,a3,xX,trivial,trivial⟩ (by rw [hw];omega)
   rw [acc];simp only [ak];refine bS.bif (λaD=>?_) (λbP=>?_)
   ·rw [aD];obtain⟨g1,g2⟩:=h1 (l:=l) aD;refine bS.bind (Bd (l:=l) n 1 (i+1) ab (by omega)) (λt z ao=>?_) (λx z=>.aJ)
    obtain⟨rfl,bw,aF,hk⟩:=ao;have gt:=tE (l:=l) (i+1) bw;rw [←aF]at gt;obtain⟨aG,bf⟩:=(xY (t:=t) (by rw [aF];exact au _ (tD bw))).1 hk
    rw [aG]at gt;refine bS.bind (n_ (l:=l) n _ (i+1+1) ab (by omega)) (λ_ z ao=>?_) (λx z=>.aJ)
    obtain⟨rfl,pk⟩:=ao;obtain⟨g3,g4⟩:=h1 (l:=l) pk;refine bS.bind (b2 (i+1+1+1) (by omega)) (λA z ao=>?_) (λx z=>.aJ)
    obtain⟨dc,rfl,bc,a2,a3,a4⟩:=ao;refine FD ab (by omega) a2 ⟨by omega,by omega,a3,xX,trivial,trivial⟩ ?_
    have e:iw ⟨1,t.Text,0,A,gq,[],[]⟩=fl [108,101,116]::n5 t.Text::cQ [61]::(hP A++[cQ [59]]):=by simp [iw]
    have nn:(spell (fl [108,101,116])).length=3:=rfl;have nF:(spell (n5 t.Text)).length=t.Text.length:=rfl;show bu l i+c6 (iw ⟨1,t.Text,0,A,gq,[],[]⟩)≤bu l dc+1
    rw [e];simp only [auZ,au0]at g2 g4;simp only [c6,lZ,nn,nF,xZ,Be];omega
   rw [bP,show(bif false then i+1 else i)=i from rfl,acc];simp only [ak]
   refine bS.bif (λaD=>?_) (λbP=>?_)
   ·rw [aD];obtain⟨g1,g2⟩:=h1 (l:=l) aD;refine bS.bind (b2 (i+1) (by omega)) (λA z ao=>?_) (λx z=>.aJ)
    obtain⟨dc,rfl,bc,a2,a3,a4⟩:=ao;refine bS.bind (n_ (l:=l) n _ dc ab (by omega)) (λ_ z ao=>?_) (λx z=>.aJ)
    obtain⟨rfl,pk⟩:=ao;obtain⟨g3,g4⟩:=h1 (l:=l) pk;refine bS.bind (b2 (dc+1) (by omega)) (λB z ao=>?_) (λx z=>.aJ)
    obtain⟨aj,rfl,b9,ho,o2,vi⟩:=ao;refine FD ab (by omega) ho ⟨by omega,by simp,a3,o2,trivial,trivial⟩ ?_
    have e:iw ⟨3,[],0,A,B,[],[]⟩=fl [112,117,116]::(hP A++cQ [61]::(hP B++[cQ [59]])):=by simp [iw]
    have nn:(spell (fl [112,117,116])).length=3:=rfl;rw [e];simp only [auZ,au0]at g2 g4;simp only [c6,lZ,nn,xZ,Be];omega
   rw [bP,show(bif false then i+1 else i)=i from rfl,acc];simp only [ak]
   refine bS.bif (λaD=>?_) (λbP=>?_)
   ·rw [aD];exact one 4 _ aD (λA=>by simp [iw,c6,lZ,Be];rfl)
   rw [bP,show(bif false then i+1 else i)=i from rfl,acc];simp only [ak]
   refine bS.bif (λaD=>?_) (λbP=>?_)
   ·rw [aD];exact one 7 _ aD (λA=>by simp [iw,c6,lZ,Be];rfl)
   rw [bP,show(bif false then i+1 else i)=i from rfl,acc];simp only [ak]
   refine bS.bif (λaD=>?_) (λbP=>?_)
   ·rw [aD];obtain⟨g1,g2⟩:=h1 (l:=l) aD;refine bS.bind (Bd (l:=l) n 3 (i+1) ab (by omega)) (λt z ao=>?_) (λx z=>.aJ)
    obtain⟨rfl,bw,aF,hk⟩:=ao;have gt:=tE (l:=l) (i+1) bw;rw [←aF]at gt;obtain⟨aG,bf,bW⟩:=(xY (t:=t) (by rw [aF];exact au _ (tD bw))).2 hk
    rw [aG]at gt;refine FD ab (by omega) (by omega) ⟨by omega,by simp,xX,xX,trivial,trivial⟩ ?_
    have e:iw ⟨8,[],t.N,gq,gq,[],[]⟩=[fl [97,98,111,114,116],xL t.N,cQ [59]]:=by simp [iw]
    have nn:(spell (fl [97,98,111,114,116])).length=5:=rfl;have nF:(spell (xL t.N)).length=(Lib.decDigits t.N.toNat).length:=rfl;show bu l i+c6 (iw ⟨8,[],t.N,gq,gq,[],[]⟩)≤bu l (i+1+1)+1
    rw [e];simp only [auZ,au0]at g2;simp only [c6,nn,nF,Be];omega
   rw [bP,show(bif false then i+1 else i)=i from rfl,acc];simp only [ak]
   refine bS.bif (λaD=>?_) (λbP=>?_)
   ·rw [aD];obtain⟨g1,g2⟩:=h1 (l:=l) aD;simp only [auZ,au0]at g2;refine bS.bind (b2 (i+1) (by omega)) (λA z ao=>?_) (λx z=>.aJ)
    obtain⟨dc,rfl,bc,a2,a3,a4⟩:=ao;refine bS.bind (hb d dc a2) (λig z ao=>?_) (λx z=>.aJ)
    obtain⟨aj,rfl,b9,ho,o2,vi⟩:=ao;have nn:(spell (fl [105,102])).length=2:=rfl;have FE:(spell (fl [101,108,115,101])).length=4:=rfl;have LN:(spell (cQ [123])).length=1:=rfl;have LO:(spell (cQ [125])).length=1:=rfl
    have yX:∀el:List Stmt,c6 (iw ⟨5,[],0,A,gq,ig,el⟩)≤2+(c6 (hP A)+(2+c6 (kH ig)))+(if el.length=0 then 0 else 6+c6 (kH el)):=by
     intro el;by_cases h0:el.length=0
     ·have e:iw ⟨5,[],0,A,gq,ig,el⟩=fl [105,102]::(hP A++cQ [123]::(kH ig++cQ [125]::[])):=by simp only [iw,h0];simp
      rw [e,if_pos h0];simp only [c6,lZ,nn,LN,LO];omega
     ·have e:iw ⟨5,[],0,A,gq,ig,el⟩=fl [105,102]::(hP A++cQ [123]::(kH ig++cQ [125]::(fl [101,108,115,101]::cQ [123]::(kH el++[cQ [125]])))):=by simp only [iw,h0];simp
      rw [e,if_neg h0];simp only [c6,lZ,nn,FE,LN,LO];omega
    rw [k6 n l aj _ (by omega)]
    simp only [ak];refine bS.bif (λpk=>?_) (λq4=>?_)
    ·rw [pk];obtain⟨g3,g4⟩:=h1 (l:=l) pk;simp only [auZ,au0]at g4;refine bS.bind (hb d (aj+1) (by omega)) (λel z ao=>.ret ?_) (λx z=>.aJ)
     obtain⟨fp,rfl,c1,c2,c3,c4⟩:=ao;have:=yX el
     exact⟨fp,rfl,by omega,c2,⟨by omega,by simp,a3,xX,o2,c3⟩,by
      show bu l i+c6 (iw ⟨5,[],0,A,gq,ig,el⟩)≤bu l fp
      split at this<;>omega⟩
    ·rw [q4];have:=yX []
     exact .ret ⟨aj,rfl,by omega,ho,⟨by omega,by simp,a3,xX,o2,trivial⟩,by
      show bu l i+c6 (iw ⟨5,[],0,A,gq,ig,[]⟩)≤bu l aj
      simp only [au0,au8]at this;omega⟩
   rw [bP,show(bif false then i+1 else i)=i from rfl,acc];simp only [ak]
   refine bS.bif (λaD=>?_) (λbP=>?_)
   ·rw [aD];obtain⟨g1,g2⟩:=h1 (l:=l) aD;refine bS.bind (apY d (i+1) (by omega)) (λs z ao=>?_) (λx z=>.aJ)
    obtain⟨k,rfl,bc,a2,a3,a4⟩:=ao;simp only [gn,jX];simp only [auZ,au0]at g2;exact .ret ⟨k,rfl,by omega,a2,a3,by omega⟩
   rw [bP,show(bif false then i+1 else i)=i from rfl]
   refine bS.bind (Bd (l:=l) n 1 i ab hi) (λt z ao=>?_) (λx z=>.aJ)
   obtain⟨rfl,bw,aF,hk⟩:=ao;have gt:=tE (l:=l) i bw;rw [←aF]at gt;obtain⟨aG,bf⟩:=(xY (t:=t) (by rw [aF];exact au _ (tD bw))).1 hk
   rw [aG]at gt;refine bS.bind (n_ (l:=l) n _ (i+1) ab (by omega)) (λ_ z ao=>?_) (λx z=>.aJ)
   obtain⟨rfl,pk⟩:=ao;obtain⟨g3,g4⟩:=h1 (l:=l) pk;refine bS.bind (b2 (i+1+1) (by omega)) (λA z ao=>?_) (λx z=>.aJ)
   obtain⟨dc,rfl,bc,a2,a3,a4⟩:=ao;refine FD ab (by omega) a2 ⟨by omega,by omega,a3,xX,trivial,trivial⟩ ?_
   have e:iw ⟨2,t.Text,0,A,gq,[],[]⟩=n5 t.Text::cQ [61]::(hP A++[cQ [59]]):=by simp [iw]
   have nF:(spell (n5 t.Text)).length=t.Text.length:=rfl;show bu l i+c6 (iw ⟨2,t.Text,0,A,gq,[],[]⟩)≤bu l dc+1
   rw [e];simp only [auZ,au0]at g4;simp only [c6,lZ,nF,xZ,Be];omega
  ·rw [acK];unfold DY;refine bS.bind (Bd (l:=l) n 1 i ab hi) (λt z ao=>?_) (λx z=>.aJ)
   obtain⟨rfl,bw,aF,hk⟩:=ao;have gt:=tE (l:=l) i bw;rw [←aF]at gt;obtain⟨aG,bf⟩:=(xY (t:=t) (by rw [aF];exact au _ (tD bw))).1 hk
   rw [aG]at gt;refine bS.bind (n_ (l:=l) n _ (i+1) ab (by omega)) (λ_ z ao=>?_) (λx z=>.aJ)
   obtain⟨rfl,aD⟩:=ao;obtain⟨g1,g2⟩:=h1 (l:=l) aD;refine bS.bind (b2 (i+1+1) (by omega)) (λA z ao=>?_) (λx z=>.aJ)
   obtain⟨dc,rfl,bc,a2,a3,a4⟩:=ao;refine bS.bind (n_ (l:=l) n _ dc ab a2) (λ_ z ao=>?_) (λx z=>.aJ)
   obtain⟨rfl,aD⟩:=ao;obtain⟨g3,g4⟩:=h1 (l:=l) aD;refine bS.bind (b2 (dc+1) (by omega)) (λB z ao=>?_) (λx z=>.aJ)
   obtain⟨aj,rfl,b9,ho,o2,vi⟩:=ao;refine bS.bind (n_ (l:=l) n _ aj ab ho) (λ_ z ao=>?_) (λx z=>.aJ)
   obtain⟨rfl,aD⟩:=ao;obtain⟨g5,g6⟩:=h1 (l:=l) aD;refine bS.bind (Bd (l:=l) n 3 (aj+1) ab (by omega)) (λu z ao=>?_) (λx z=>.aJ)
   obtain⟨rfl,q6,hu,fq⟩:=ao;have adW:=tE (l:=l) (aj+1) q6;rw [←hu]at adW;obtain⟨bW,da,dX⟩:=(xY (t:=u) (by rw [hu];exact au _ (tD q6))).2 fq
   rw [bW]at adW;refine bS.bind (hb d (aj+1+1) (by omega)) (λig z ao=>.ret ?_) (λx z=>.aJ)
   obtain⟨fp,rfl,c1,c2,c3,c4⟩:=ao;have e:iw ⟨6,t.Text,u.N,A,B,ig,[]⟩=fl [102,111,114]::n5 t.Text::cQ [61]::(hP A++fl [116,111]::(hP B++fl [109,97,120]::xL u.N::cQ [123]::(kH ig++[cQ [125]]))):=by simp [iw]
   have nn:(spell (fl [102,111,114])).length=3:=rfl;have nF:(spell (n5 t.Text)).length=t.Text.length:=rfl;have xZ:(spell (cQ [61])).length=1:=rfl;have FE:(spell (fl [116,111])).length=2:=rfl;have LN:(spell (fl [109,97,120])).length=3:=rfl;have LO:(spell (xL u.N)).length=(Lib.decDigits u.N.toNat).length:=rfl;have apZ:(spell (cQ [123])).length=1:=rfl;have ap0:(spell (cQ [125])).length=1:=rfl;refine⟨fp,rfl,by omega,c2,⟨by omega,by omega,a3,o2,c3,trivial⟩,?_⟩
   rw [e];simp only [auZ,au0]at g2 g4 g6;simp only [c6,lZ,nn,nF,xZ,FE,LN,LO,apZ,ap0];omega
end
section
variable {l:List Token}
theorem ap1(au:∀t,t∈l→mo (cN t)){k:Nat}{p:Param}(h:o1 l k = .inl p):k+3≤l.length∧p.Name.length≤16∧bu l k+c6 (vj p)≤bu l (k+3):=by
 unfold o1 at h;split at h
 ·rename_i Z;have gt:=tE (l:=l) k Z.1;have tF:=au _ (tD Z.1);generalize l.getD k default=t at h Z gt tF
  obtain⟨aG,bf⟩:=(xY tF).1 Z.2;rw [aG]at gt;cases aa:bD l (k+1) [58]
  ·rw [aa]at h;cases h
  ·rw [aa]at h;simp only [auV]at h;obtain⟨g1,g2⟩:=h1 aa;simp only [auZ,au0]at g2;have nF:(spell (cQ [58])).length=1:=rfl
   have fin:∀(ty:Int) (w:au'),bD l (k+2) w=true→rX ty=w→p=⟨t.Text,ty⟩→k+3≤l.length∧p.Name.length≤16∧bu l k+c6 (vj p)≤bu l (k+3):=by
    intro ty w hw aF hp;obtain⟨g3,g4⟩:=h1 hw;subst hp;have nn:(spell (n5 t.Text)).length=t.Text.length:=rfl;have xZ:(spell (fl (rX ty))).length=w.length:=by rw [aF];rfl
    refine⟨by omega,bf,?_⟩
    have hq:bu l (k+3)=_:=g4;have oB:bu l (k+2)=_:=g2;simp only [vj,c6,nn,nF,xZ];omega
   cases aK:bD l (k+2) [105,110,116]
   ·cases bd:bD l (k+2) [115,116,114]
    ·cases b':bD l (k+2) [98,111,111,108]
     ·rw [aK,bd,b']at h;cases h
     ·rw [aK,bd,b']at h;simp only [auV,auW,Sum.inl.injEq]at h;exact fin 3 _ b' rfl h.symm
    ·rw [aK,bd]at h;simp only [auV,auW,Sum.inl.injEq]at h;exact fin 2 _ bd rfl h.symm
   ·rw [aK]at h;simp only [auV,Sum.inl.injEq]at h;exact fin 1 _ aK rfl h.symm
 ·cases h
theorem adX(ab:l.length≤1000000000)(au:∀t,t∈l→mo (cN t))(n i:Nat)(hi:i≤l.length):bS (λx z=>z=((i+3:Nat):Int)∧i+3≤l.length∧x.Name.length≤16∧bu l i+c6 (vj x)≤bu l (i+3)) (z6 n ⟨l,(i:Int)⟩):=by
 rw [TG n i ab hi];cases h:o1 l i with
 |inl p=>
  obtain⟨Z,aa,am⟩:=ap1 au h;exact .ret ⟨rfl,Z,aa,am⟩
 |inr e=>exact .aJ
theorem adY:∀(a:List Param) (x:Param),c6 (xU (a++[x]))=c6 (xU a)+1+c6 (vj x)
 |[],x=>by
  have w:(spell (cQ [44])).length=1:=rfl;simp only [List.nil_append,xU,c6,lZ,w];omega
 |y::a,x=>by
  have:=adY a x
  simp only [List.cons_append,xU,c6,lZ];omega
theorem ap2{a:List Param}(x:Param)(h:a≠[]):c6 (vk (a++[x]))=c6 (vk a)+1+c6 (vj x):=by
 cases a with
 |nil=>exact absurd rfl h
 |cons y a=>
  have:=adY a x
  simp only [List.cons_append,vk,lZ];omega
def Ur(l:List Token)(i:Nat)(p:bb)(z:Int):Prop:=∃k:Nat,z=(k:Int)∧k≤l.length∧xS p∧bu l i+c6 (adv p)≤bu l k
theorem ap3(ab:l.length≤1000000000)(hg:kF l)(au:∀t,t∈l→mo (cN t))(n i:Nat)(hi:i≤l.length):bS (Ur l i) (rH n ⟨l,(i:Int)⟩):=by
 have FE:(spell (fl [112,114,111,99])).length=4:=rfl;have ap4:(spell (cQ [40])).length=1:=rfl;have ap5:(spell (cQ [41])).length=1:=rfl;have ap6:(spell (cQ [123])).length=1:=rfl;have ap7:(spell (cQ [125])).length=1:=rfl
 have FC:∀(b:Int) (t:Token) (k:Nat) (acc:List Param),k≤l.length→t.Text.length≤16→acc.length≤k→(∀x,x∈acc→x.Name.length≤16)→bu l i+(4+t.Text.length+1+c6 (vk acc)+1)≤bu l k→
  bS (Ur l i) (uR n ⟨l,b⟩ t (k:Int) acc):=by
  intro b t k acc hk aF ap8 hx hp;unfold uR;refine bS.bind ((apX ab hg au n).1 0 k hk) (λig z ao=>.ret ?_) (λx z=>.aJ)
  obtain⟨k',rfl,b9,ho,o2,vi⟩:=ao;refine⟨k',rfl,ho,⟨by show t.Text.length≤_;omega,by show acc.length≤_;omega,λj hj=>?_,o2⟩,?_⟩
  ·have:=hx _ (tD hj)
   show(acc.getD j default).Name.length≤_
   omega
  ·have wn:(spell (n5 t.Text)).length=t.Text.length:=rfl;simp only [adv,c6,lZ,FE,ap4,ap5,ap6,ap7,wn];omega
 have B5:∀(b:Int) (t:Token) (m k:Nat) (acc:List Param),k≤l.length→t.Text.length≤16→acc≠[]→acc.length≤k→(∀x,x∈acc→x.Name.length≤16)→bu l i+(4+t.Text.length+1+c6 (vk acc))≤bu l k→
  bS (Ur l i) (uS n ⟨l,b⟩ t m (k:Int) acc):=by
  intro b t m;induction m with
  |zero=>intro k acc _ _ _ _ _ _;exact .none
  |succ m aM=>
   intro k acc hk aF h0 ap8 hx hp;simp only [uS,Jp,Jo];rw [k6 n l k _ (by omega)]
   simp only [ak];refine bS.bif (λaD=>?_) (λbP=>?_)
   ·rw [aD];obtain⟨g1,g2⟩:=h1 (l:=l) aD;simp only [auZ,au0]at g2;refine bS.bind (adX ab au n (k+1) (by omega)) (λx z ao=>.av ?_) (λx z=>.aJ)
    obtain⟨rfl,aG,bf,bW⟩:=ao;refine aM (k+1+3) (acc++[x]) (by omega) aF (by simp) (by simp only [au3,auZ,au0];omega) (λy b1=>?_) ?_
    ·rcases List.mem_append.1 b1 with b1|b1
     ·exact hx y b1
     ·rw [List.mem_singleton.1 b1];exact bf
    ·rw [ap2 x h0];omega
   ·rw [bP];refine bS.bind (n_ (l:=l) n _ k ab hk) (λ_ z ao=>?_) (λx z=>.aJ)
    obtain⟨rfl,aD⟩:=ao;obtain⟨g1,g2⟩:=h1 (l:=l) aD;simp only [auZ,au0]at g2;exact FC b t (k+1) acc (by omega) aF (by omega) hx (by omega)
 unfold rH;refine bS.bind (n_ (l:=l) n _ i ab hi) (λ_ z ao=>?_) (λx z=>.aJ)
 obtain⟨rfl,aD⟩:=ao;obtain⟨g1,g2⟩:=h1 (l:=l) aD;simp only [auZ,au0]at g2;refine bS.bind (Bd (l:=l) n 1 (i+1) ab (by omega)) (λt z ao=>?_) (λx z=>.aJ)
 obtain⟨rfl,bw,aF,hk⟩:=ao;have gt:=tE (l:=l) (i+1) bw;rw [←aF]at gt;obtain⟨aG,bf⟩:=(xY (t:=t) (by rw [aF];exact au _ (tD bw))).1 hk
 rw [aG]at gt;refine bS.bind (n_ (l:=l) n _ (i+1+1) ab (by omega)) (λ_ z ao=>?_) (λx z=>.aJ)
 obtain⟨rfl,pk⟩:=ao;obtain⟨g3,g4⟩:=h1 (l:=l) pk;simp only [auZ,au0]at g4;rw [k6 n l (i+1+1+1) _ (by omega)]
 simp only [ak];cases acW:bD l (i+1+1+1) [41]
 ·simp only [auY,auV,auW];refine bS.bind (adX ab au n (i+1+1+1) (by omega)) (λx z ao=>.av ?_) (λx z=>.aJ)
  obtain⟨rfl,fK,ez,gJ⟩:=ao;refine B5 _ t n (i+1+1+1+3) [x] (by omega) bf (by simp) (by simp) (λy b1=>by rw [List.mem_singleton.1 b1];exact ez) ?_
  simp only [vk,xU,List.append_nil];omega
 ·obtain⟨g5,g6⟩:=h1 (l:=l) acW;simp only [auZ,au0]at g6;simp only [auX,auV,auW];exact FC _ t (i+1+1+1+1) [] (by omega) bf (by simp) (λy b1=>by cases b1) (by simp only [vk,c6];omega)
end
abbrev eu(α:Type):=au'→Except Int (α×au')
structure dY{α:Type}(D:eu α)(E:α→au')(ok:α→Prop):Prop where
 rt:∀v t,ok v→D (E v++t) = .ok (v,t)
 fL:∀x v t,D x = .ok (v,t)→x=E v++t∧ok v
 cN:∀x e,D x = .error e→e≠0
def dY.km{α:Type}{D:eu α}{E:α→au'}{ok:α→Prop}(h:dY D E ok){x:au'}{v:α}{t:au'}(hx:D x = .ok (v,t)):t <:+ x:=⟨E v,(h.fL x v t hx).1.symm⟩
def dZ{α β:Type}(D:eu α)(k:α→eu β):eu (α×β):=λx=>match D x with
 |.ok (v,t)=>match k v t with
  |.ok (w,u)=>.ok ((v,w),u)
  |.error e=>.error e
 |.error e=>.error e
def dY.dep{α β:Type}{D:eu α}{E:α→au'}{ok:α→Prop}{k:α→eu β}{ef:α→β→au'}{adZ:α→β→Prop}(h:dY D E ok)(aa:∀a,ok a→dY (k a) (ef a) (adZ a)):
 dY (dZ D k) (λp=>E p.1++ef p.1 p.2) (λp=>ok p.1∧adZ p.1 p.2) where
 rt:=fun⟨v,w⟩ t ⟨am,aK⟩=>by simp only [dZ,List.append_assoc,h.rt v _ am,(aa v am).rt w t aK]
 fL:=
  λx ⟨v,w⟩ t hx=>by
  unfold dZ at hx;split at hx
  ·rename_i v0 t0 hd;obtain⟨am,aK⟩:=h.fL _ _ _ hd;split at hx
   ·rename_i Us oz hk;obtain⟨bd,b'⟩:=(aa v0 aK).fL _ _ _ hk;cases hx;exact⟨by rw [am,bd,List.append_assoc],aK,b'⟩
   ·cases hx
  ·cases hx
 cN:=
  λx e hx=>by
  unfold dZ at hx;split at hx
  ·rename_i v0 t0 hd;split at hx
   ·cases hx
   ·rename_i bK hk;cases hx;exact(aa v0 (h.fL _ _ _ hd).2).cN _ _ hk
  ·rename_i bK hd;cases hx;exact h.cN _ _ hd
def fV{α β:Type}(f:α→β)(D:eu α):eu β:=λx=>match D x with
 |.ok (v,t)=>.ok (f v,t)
 |.error e=>.error e
def dY.map{α β:Type}{D:eu α}{E:α→au'}{ok:α→Prop}(h:dY D E ok)(f:α→β)(g:β→α)(Bf:β→Prop)(dr:β→au')(Z:∀b,Bf b→f (g b)=b∧ok (g b)∧dr b=E (g b))(aa:∀a,ok a→g (f a)=a∧Bf (f a)):
 dY (fV f D) dr Bf where
 rt:=λv t au=>by
  obtain⟨am,aK,bd⟩:=Z v au;simp only [fV,bd,h.rt _ t aK,am]
 fL:=λx v t hx=>by
  unfold fV at hx;split at hx
  ·rename_i v0 t0 hd;cases hx;obtain⟨am,aK⟩:=h.fL _ _ _ hd;obtain⟨bd,b'⟩:=aa _ aK;obtain⟨_,_,eb⟩:=Z _ b';exact⟨by rw [eb,bd,am],b'⟩
  ·cases hx
 cN:=λx e hx=>by
  unfold fV at hx;split at hx
  ·cases hx
  ·rename_i bK hd;cases hx;exact h.cN _ _ hd
def mP{α:Type}(p:α→Bool)(e:Int)(D:eu α):eu α:=λx=>match D x with
 |.ok (v,t)=>if p v then .ok (v,t)else .error e
 |.error f=>.error f
def dY.chk{α:Type}{D:eu α}{E:α→au'}{ok:α→Prop}(h:dY D E ok)(p:α→Bool)(e:Int)(he:e≠0):dY (mP p e D) E (λv=>ok v∧p v=true) where
 rt:=λv t ⟨Z,aa⟩=>by simp only [mP,h.rt v t Z,aa,au8]
 fL:=
  λx v t hx=>by
  unfold mP at hx;split at hx
  ·rename_i v0 t0 hd;split at hx
   ·rename_i hp;cases hx;exact⟨(h.fL _ _ _ hd).1,(h.fL _ _ _ hd).2,hp⟩
   ·cases hx
  ·cases hx
 cN:=λx f hx=>by
  unfold mP at hx;split at hx
  ·split at hx
   ·cases hx
   ·cases hx;exact he
  ·rename_i bK hd;cases hx;exact h.cN _ _ hd
def ht{α:Type}(E:α→au')(l:List α):au':=(l.map E).flatten
def Bg{α:Type}(E:α→au')(v:α)(l:List α):ht E (v::l)=E v++ht E l:=rfl
def ap9{α:Type}(E:α→au'):ht E []=[]:=rfl
def ge{α:Type}(D:eu α):Nat→eu (List α)
 | 0,x=>.ok ([],x)
 |n+1,x=>match D x with
  |.ok (v,t)=>match ge D n t with
   |.ok (l,u)=>.ok (v::l,u)
   |.error e=>.error e
  |.error e=>.error e
def dY.rep{α:Type}{D:eu α}{E:α→au'}{ok:α→Prop}(h:dY D E ok):∀n,dY (ge D n) (ht E) (λl=>l.length=n∧∀v∈l,ok v)
 | 0=>{
  rt:=λv t ⟨Z,_⟩=>by
   obtain rfl:=List.eq_nil_of_length_eq_zero Z;rfl
  fL:=λx v t hx=>by cases hx;exact⟨rfl,rfl,λv au=>by cases au⟩
  cN:=λx e hx=>by cases hx}
 |n+1=>{
  rt:=λv t ⟨Z,aa⟩=>by
   cases v with
   |nil=>simp at Z
   |cons a l=>
    have am:=h.rt a (ht E l++t) (aa a (by simp))
    have aK:=(dY.rep h n).rt l t ⟨by simpa using Z,λv au=>aa v (by simp [au])⟩
    simp only [ge,Bg,List.append_assoc,am,aK]
  fL:=
   λx v t hx=>by
   unfold ge at hx;split at hx
   ·rename_i v0 t0 hd;split at hx
    ·rename_i l0 oz hk;cases hx;obtain⟨am,aK⟩:=h.fL _ _ _ hd;obtain⟨bd,b',eb⟩:=(dY.rep h n).fL _ _ _ hk;refine⟨by rw [am,bd,Bg,List.append_assoc],by simp [b'],λv au=>?_⟩
     rcases List.mem_cons.1 au with rfl|au
     ·exact aK
     ·exact eb v au
    ·cases hx
   ·cases hx
  cN:=λx e hx=>by
   unfold ge at hx;split at hx
   ·split at hx
    ·cases hx
    ·rename_i bK hk;cases hx;exact(dY.rep h n).cN _ _ hk
   ·rename_i bK hd;cases hx;exact h.cN _ _ hd}
def mQ:Nat→eu Nat
 | 0,_=>.error 5
 |_+1,[]=>.error 6
 |k+1,c::t=>if k=0∧1<c.toNat∨c.toNat=0∧k<9 then .error 5 else if c.toNat<128 then .ok (c.toNat,t)else match mQ k t with
  |.ok (u,t)=>.ok (c.toNat % 128+128*u,t)
  |.error e=>.error e
def rZ:eu Nat:=mQ 10
def ad0:∀(k u:Nat) (t:au'),u<2 ^ (7*k+1)→(k<9→0<u)→mQ (k+1) (eM u++t) = .ok (u,t)
 |k,u,t,h,h0=>by
  rw [eM];by_cases hu:u<128
  ·rw [if_pos hu];have e:(UInt8.ofNat u).toNat=u:=by simp only [UInt8.toNat_ofNat'];omega
   simp only [List.singleton_append,mQ,e];rw [if_neg,if_pos hu];intro bn;rcases bn with⟨rfl,aa⟩|⟨Z,aa⟩
   ·simp at h;omega
   ·have:=h0 aa;omega
  ·rw [if_neg hu];have e:(UInt8.ofNat (u % 128+128)).toNat=u % 128+128:=by simp only [UInt8.toNat_ofNat'];omega
   cases k with
   |zero=>simp at h;omega
   |succ k=>
    have:=ad0 k (u / 128) t (by rw [show 7*(k+1)+1=7*k+1+7 by omega,Nat.pow_add]at h;omega) (λ_=>by omega)
    simp only [List.cons_append,mQ,e]at this ⊢;rw [if_neg (by omega),if_neg (by omega),this]
    simp only
    rw [show(u % 128+128) % 128+128*(u / 128)=u by omega]
def Ut:∀(k:Nat) (x:au') (u:Nat) (t:au'),k≤9→mQ (k+1) x = .ok (u,t)→x=eM u++t∧u<2 ^ (7*k+1)∧(k<9→0<u)
 |k,[],u,t,_,h=>by simp [mQ]at h
 |k,c::x,u,t,Lp,h=>by
  have hc:=c.toNat_lt;unfold mQ at h;split at h
  ·cases h
  ·rename_i Z;split at h
   ·rename_i aa;cases h;rw [eM,if_pos aa];refine⟨by simp,?_,λiM=>by omega⟩
    cases k with
    |zero=>simp;omega
    |succ k=>
     rw [show 7*(k+1)+1=7*k+1+7 by omega,Nat.pow_add]
     have:=Nat.two_pow_pos (7*k+1)
     omega
   ·rename_i aa;split at h
    ·rename_i oz t0 hu;cases h;cases k with
     |zero=>simp [mQ]at hu
     |succ k=>
      obtain⟨am,aK,bd⟩:=Ut k _ _ _ (by omega) hu
      refine⟨?_,?_,λ_=>?_⟩
      ·have ag2:0<oz:=by
        by_cases iM:k<9
        ·exact bd iM
        ·omega
       rw [eM,if_neg (by omega),am]
       rw [show(c.toNat % 128+128*oz) / 128=oz by omega,show(c.toNat % 128+128*oz) % 128+128=c.toNat by omega]
       simp
      ·rw [show 7*(k+1)+1=7*k+1+7 by omega,Nat.pow_add]
       generalize 2 ^ (7*k+1)=P at aK ⊢
       omega
      ·by_cases iM:k<9
       ·have:=bd iM;omega
       ·omega
    ·cases h
def ad1:∀(k:Nat) (x:au') (e:Int),mQ k x = .error e→e=5∨e=6
 | 0,x,e,h=>by cases h;simp
 |k+1,[],e,h=>by cases h;simp
 |k+1,c::x,e,h=>by
  unfold mQ at h;split at h
  ·cases h;simp
  ·split at h
   ·cases h
   ·split at h
    ·cases h
    ·rename_i bK hu;cases h;exact ad1 k _ _ hu
def r0:dY rZ eM (λu=>u<18446744073709551616) where
 rt:=λu t h=>ad0 9 u t h (by omega)
 fL:=λx u t h=>⟨(Ut 9 x u t (by omega) h).1,(Ut 9 x u t (by omega) h).2.1⟩
 cN:=λx e h=>by have:=ad1 10 x e h;omega
def ix:eu Int:=fV (λu:Nat=>(u:Int)) rZ
def h2(z:Int):Prop:=0≤z∧z<18446744073709551616
def jI(z:Int):au':=eM z.toNat
def mR:dY ix jI h2:=
 r0.map _ Int.toNat h2 jI (λb h=>by unfold h2 at h;exact⟨by omega,by omega,rfl⟩) (λa h=>⟨by omega,by unfold h2;omega⟩)
def Bh(u:Nat):Int:=if u % 2=1 then -((u / 2:Nat):Int)-1 else((u / 2:Nat):Int)
def i8:eu Int:=fV Bh rZ
def k9:dY i8 nm fy:=
 r0.map _ fold fy nm (λb h=>⟨by unfold fy at h;unfold fold Bh;split<;>(split<;>omega),Uh h,rfl⟩)
  (λa h=>⟨by unfold fold Bh;split<;>(split<;>omega),by unfold fy Bh;split<;>omega⟩)
def iy(most:Nat):eu Nat:=λx=>match rZ x with
 |.ok (u,t)=>if most<u then .error 2 else if t.length<u then .error 6 else .ok (u,t)
 |.error e=>.error e
def oa{most:Nat}{x t:au'}{u:Nat}(h:iy most x = .ok (u,t)):x=eM u++t∧u≤most∧u≤t.length:=by
 unfold iy at h;split at h
 ·rename_i oz t0 hd;split at h
  ·cases h
  ·split at h
   ·cases h
   ·cases h;exact⟨(r0.fL _ _ _ hd).1,by omega,by omega⟩
 ·cases h
def np{most:Nat}{x:au'}{e:Int}(h:iy most x = .error e):e≠0:=by
 unfold iy at h;split at h
 ·split at h
  ·cases h;omega
  ·split at h
   ·cases h;omega
   ·cases h
 ·rename_i bK hd;cases h;exact r0.cN _ _ hd
def ad2{most u:Nat}{t:au'}(h:u≤most)(Z:most<18446744073709551616)(aa:u≤t.length):iy most (eM u++t) = .ok (u,t):=by
 unfold iy;rw [r0.rt u t (by omega)]
 simp only
 rw [if_neg (by omega),if_neg (by omega)]
def jJ{α:Type}(most:Nat)(D:eu α):eu (List α):=λx=>match iy most x with
 |.ok (u,t)=>ge D u t
 |.error e=>.error e
def eg{α:Type}(E:α→au')(l:List α):au':=eM l.length++ht E l
def LP{α:Type}{E:α→au'}:∀{l:List α},(∀v∈l,E v≠[])→l.length≤(ht E l).length
 |[],_=>by simp
 |v::l,h=>by
  have Z:(E v).length≠0:=by simpa using h v (by simp)
  have aa:=LP (E:=E) (l:=l) λw hw=>h w (by simp [hw])
  simp only [Bg,au3,auZ];omega
def dY.vl{α:Type}{D:eu α}{E:α→au'}{ok:α→Prop}(h:dY D E ok)(most:Nat)(hm:most<18446744073709551616)(dL:∀v,ok v→E v≠[]):dY (jJ most D) (eg E) (λl=>l.length≤most∧∀v∈l,ok v) where
 rt:=λl t ⟨Z,aa⟩=>by
  have am:=LP (E:=E) (l:=l) λv au=>dL v (aa v au)
  unfold jJ eg;rw [List.append_assoc,ad2 Z hm (by simp;omega)]
  exact(h.rep l.length).rt l t ⟨rfl,aa⟩
 fL:=λx l t hx=>by
  unfold jJ at hx;split at hx
  ·rename_i oz t0 hd;obtain⟨Z,aa,am⟩:=oa hd;obtain⟨aK,bd,b'⟩:=(h.rep oz).fL _ _ _ hx;subst bd;exact⟨by rw [Z,aK,eg,List.append_assoc],aa,b'⟩
  ·cases hx
 cN:=λx e hx=>by
  unfold jJ at hx;split at hx
  ·exact(h.rep _).cN _ _ hx
  ·rename_i bK hd;cases hx;exact np hd
def eU(most:Nat):eu au':=λx=>match iy most x with
 |.ok (u,t)=>.ok (t.take u,t.drop u)
 |.error e=>.error e
def tG(most:Nat)(hm:most<18446744073709551616):dY (eU most) eH (λs=>s.length≤most) where
 rt:=λs t h=>by
  unfold eU eH;rw [List.append_assoc,ad2 h hm (by simp)]
  simp
 fL:=λx s t hx=>by
  unfold eU at hx;split at hx
  ·rename_i oz t0 hd;obtain⟨Z,aa,am⟩:=oa hd;cases hx;have:(t0.take oz).length=oz:=by simp;omega
   unfold eH;rw [this];exact⟨by rw [List.append_assoc,List.take_append_drop,Z],by omega⟩
  ·cases hx
 cN:=λx e hx=>by
  unfold eU at hx;split at hx
  ·cases hx
  ·rename_i bK hd;cases hx;exact np hd
def r4:eu Bool
 |[]=>.error 6
 |c::t=>if 1<c.toNat then .error 5 else .ok (decide (c.toNat=1),t)
def x0(b:Bool):au':=if b then[1] else[0]
def Uu:dY r4 x0 (λ_=>True) where
 rt:=λb t _=>by cases b<;>rfl
 fL:=
  λx b t hx=>by
  cases x with
  |nil=>cases hx
  |cons c x=>
   simp only [r4]at hx;by_cases Z:1<c.toNat
   ·rw [if_pos Z]at hx;cases hx
   ·rw [if_neg Z]at hx;cases hx;refine⟨?_,trivial⟩
    unfold x0;by_cases aa:c.toNat=1
    ·rw [decide_eq_true aa];have:c=1:=UInt8.toNat_inj.1 (by simpa using aa)
     rw [this];rfl
    ·rw [decide_eq_false aa];have:c=0:=UInt8.toNat_inj.1 (by simp;omega)
     rw [this];rfl
 cN:=λx e hx=>by
  cases x with
  |nil=>cases hx;omega
  |cons c x=>
   simp only [r4]at hx;by_cases Z:1<c.toNat
   ·rw [if_pos Z]at hx;cases hx;omega
   ·rw [if_neg Z]at hx;cases hx
def qM(u:Nat):eM u≠[]:=by rw [eM];split<;>simp
def Uv{α:Type}(v:α):eu α:=λx=>.ok (v,x)
def ad3{α:Type}(v:α):dY (Uv v) (λ_=>[]) (λw=>w=v) where
 rt:=λw t h=>by subst h;rfl
 fL:=λx w t h=>by cases h;exact⟨rfl,rfl⟩
 cN:=λx e h=>by cases h
def dY.as{α:Type}{D:eu α}{E:α→au'}{ok:α→Prop}(h:dY D E ok)(dr:α→au')(Bf:α→Prop)(Z:∀v,Bf v↔ok v)(aa:∀v,ok v→dr v=E v):dY D dr Bf where
 rt:=λv t au=>by rw [aa v ((Z v).1 au)];exact h.rt v t ((Z v).1 au)
 fL:=λx v t hx=>by
  obtain⟨am,aK⟩:=h.fL x v t hx;exact⟨by rw [aa v aK];exact am,(Z v).2 aK⟩
 cN:=h.cN
def ob(lo hi:Int):eu Int:=mP (λz=>decide (lo≤z)&&decide (z≤hi)) 5 ix
def Uw{lo hi:Int}(h0:0≤lo)(Z:hi<18446744073709551616):dY (ob lo hi) jI (λz=>lo≤z∧z≤hi):=
 (mR.chk _ 5 (by omega)).as _ _ (λv=>by simp only [Bool.and_eq_true,decide_eq_true_eq,h2];omega) (λ_ _=>rfl)
def Bi(k:Int):eu bz:=if k=0 then Uv ⟨0,0,[]⟩else if k=1 then fV (λn=>⟨1,n,[]⟩) i8 else if k=2 then mP (λv=>jg v.S) 5 (fV (λs=>⟨2,0,s⟩) (eU 64))else λ_=>.error 5
def mS:eu bz:=fV Prod.snd (dZ ix Bi)
def tH(v:bz):Prop:=kI v=true∧fy v.N
def ad4{s:au'}(h:jg s=true):s.length≤64:=by
 unfold jg at h;simp only [Bool.and_eq_true,decide_eq_true_eq]at h;exact h.2
def x1{v:bz}(h:kI v=true):v=⟨0,0,[]⟩∨(v.Kind=1∧v.S=[])∨(v.Kind=2∧v.N=0∧jg v.S=true):=by
 obtain⟨k,n,s⟩:=v;unfold kI at h;simp only at h ⊢
 split at h
 ·rename_i h0;simp only [Bool.and_eq_true,decide_eq_true_eq]at h;obtain⟨rfl,rfl⟩:=h;exact .inl (by rw [h0])
 ·split at h
  ·rename_i Z;exact .inr (.inl ⟨Z,by simpa using h⟩)
  ·simp only [Bool.and_eq_true,decide_eq_true_eq]at h;exact .inr (.inr ⟨h.1.1,h.1.2,h.2⟩)
def tI:dY mS b7 tH:=by
 have eh:∀k,h2 k→dY (Bi k) (λv=>if k=1 then nm v.N else if k=2 then eH v.S else[]) (λv=>tH v∧v.Kind=k):=by
  intro k hk;unfold Bi;by_cases h0:k=0
  ·subst h0;rw [if_pos rfl];refine(ad3 _).as _ _ (λv=>⟨fun⟨⟨Z,aa⟩,am⟩=>?_,λh=>?_⟩) (λv _=>?_)
   ·rcases x1 Z with h|h|h
    ·exact h
    ·exact absurd (h.1.symm.trans am) (by omega)
    ·exact absurd (h.1.symm.trans am) (by omega)
   ·subst h;exact⟨⟨rfl,by unfold fy;simp⟩,rfl⟩
   ·simp
  ·rw [if_neg h0];by_cases Z:k=1
   ·subst Z;rw [if_pos rfl];refine k9.map _ (λv=>v.N) _ _ (λv ⟨⟨aa,am⟩,aK⟩=>⟨?_,am,by simp⟩) (λn hn=>⟨rfl,⟨⟨by simp [kI],hn⟩,rfl⟩⟩)
    rcases x1 aa with h|h|h
    ·rw [h]at aK;exact absurd aK (by simp)
    ·obtain⟨a,b,c⟩:=v;simp only at h aK ⊢;rw [aK,h.2]
    ·exact absurd (h.1.symm.trans aK) (by omega)
   ·rw [if_neg Z];by_cases aa:k=2
    ·subst aa;rw [if_pos rfl];refine(((tG 64 (by omega)).map (λs=>(⟨2,0,s⟩:bz)) (λv=>v.S) (λv=>v.Kind=2∧v.N=0∧v.S.length≤64) (λv=>eH v.S) (λv ⟨am,aK,bd⟩=>⟨?_,bd,rfl⟩) (λs hs=>⟨rfl,rfl,rfl,hs⟩)).chk _ 5 (by omega)).as _ _ (λv=>⟨fun⟨⟨am,aK⟩,bd⟩=>?_,fun⟨⟨am,aK,bd⟩,b'⟩=>?_⟩) (λv _=>by simp)
     ·obtain⟨a,b,c⟩:=v;simp only at am aK ⊢;rw [am,aK]
     ·rcases x1 am with h|h|h
      ·rw [h]at bd;exact absurd bd (by simp)
      ·exact absurd (h.1.symm.trans bd) (by omega)
      ·exact⟨⟨h.1,h.2.1,ad4 h.2.2⟩,h.2.2⟩
     ·refine⟨⟨?_,by rw [aK];unfold fy;omega⟩,am⟩
      unfold kI;rw [am,aK];simp [b']
    ·rw [if_neg aa]
     exact {
      rt:=λv t ⟨⟨am,aK⟩,bd⟩=>by
       exfalso
       rcases x1 am with h|h|h
       ·rw [h]at bd;exact h0 bd.symm
       ·exact Z (bd.symm.trans h.1)
       ·exact aa (bd.symm.trans h.1)
      fL:=λx v t h=>by cases h
      cN:=λx e h=>by cases h;omega}
 refine(mR.dep eh).map Prod.snd (λv=>(v.Kind,v)) tH b7 (λv au=>⟨rfl,⟨?_,au,rfl⟩,?_⟩) (fun⟨k,v⟩ ⟨Z,aa,am⟩=>⟨congrArg (·,v) am,aa⟩)
 ·rcases x1 au.1 with h|h|h
  ·rw [h];unfold h2;simp
  ·unfold h2;rw [h.1];omega
  ·unfold h2;rw [h.1];omega
 ·unfold b7 jI;rcases x1 au.1 with h|h|h
  ·rw [h];simp
  ·simp only [h.1];rfl
  ·simp only [h.1];rfl
def ap'(v:bz):b7 v≠[]:=by
 unfold b7;split
 ·simp [qM]
 ·split
  ·simp [qM]
  ·exact qM _
def res{α:Type}(z:α)(s:au'):Except Int (α×au')→α×Int×Int
 |.ok (v,t)=>(v,((s.length-t.length:Nat):Int),0)
 |.error e=>(z,0,e)
def bl(s t:au'):Int:=((s.length-t.length:Nat):Int)
def FF(p t:au'):bl (p++t) t=(p.length:Int):=by unfold bl;simp
def ad5(s:au'):bl s s=0:=by unfold bl;simp
def g_{α:Type}{z:α}{s t:au'}{v:α}:res z s (.ok (v,t))=(v,bl s t,0):=rfl
def fB{α:Type}{z:α}{s:au'}{e:Int}:res z s (.error e)=(z,0,e):=rfl
def Ux{α β:Type}{FB:β}{s:au'}{f:α→β}{D:eu α}{t:au'}:res FB s (fV f D t)=match D t with|.ok (v,t)=>(f v,bl s t,0)|.error e=>(FB,0,e):=by
 unfold fV;cases D t<;>rfl
def ad6(p x:au')(i:Nat):(p++x).getD (p.length+i) 0=x.getD i 0:=by
 simp [List.getD_eq_getElem?_getD,List.getElem?_append_right]
def ap_:∀x:Nat,x<256→p0 .u8 (x:Int) 127=((x % 128:Nat):Int):=by decide +kernel
def aqa{a b i:Nat}(h:a<2 ^ i)(hb:a+2 ^ i*b<18446744073709551616):qV .u64 (a:Int) ((2 ^ i*b:Nat):Int)=((a+2 ^ i*b:Nat):Int):=by
 unfold qV
 have e:((BitVec.ofInt (IntKind.bits .u64) (a:Int) |||BitVec.ofInt (IntKind.bits .u64) ((2 ^ i*b:Nat):Int)).toNat)=a+2 ^ i*b:=by
  rw [BitVec.toNat_or,BitVec.toNat_ofInt,BitVec.toNat_ofInt];simp only [IntKind.bits];rw [show(((a:Int) % ((2 ^ 64:Nat):Int)).toNat)=a by omega,show((((2 ^ i*b:Nat):Int) % ((2 ^ 64:Nat):Int)).toNat)=2 ^ i*b by omega]
  rw [Nat.or_comm,←Nat.two_pow_add_eq_or_of_lt h,Nat.add_comm]
 rw [e,qK hb]
def aqb{c i:Nat}(hi:i≤63)(h:2 ^ i*c<18446744073709551616):pf .u64 (c:Int) (i:Int)=((2 ^ i*c:Nat):Int):=by
 unfold pf
 (simp only [au1];rw [show min i (IntKind.bits .u64)=i by simp only [IntKind.bits];omega,show(c:Int)*2 ^ i=((2 ^ i*c:Nat):Int)by rw [Nat.mul_comm];norm_cast,qK h])
def aqc{i c:Nat}(hi:i≤9)(hc:c<128)(iM:i=9→c≤1):2 ^ (7*i)*c<18446744073709551616∧∀a,a<2 ^ (7*i)→a+2 ^ (7*i)*c<18446744073709551616:=by
 have h:i=0∨i=1∨i=2∨i=3∨i=4∨i=5∨i=6∨i=7∨i=8∨i=9:=by omega
 rcases h with h|h|h|h|h|h|h|h|h|h<;>subst h<;>simp only [Nat.reduceMul,Nat.reducePow]<;>(try have:=iM rfl)<;>exact⟨by omega,λa ha=>by omega⟩
def FG{i:Nat}(h:i≤9223372036854775807):ava (i:Int)=(i:Int):=by rw [wr]<;>omega
def aqd(n a:Nat):∀(k m i:Nat) (x pre:au') (acc:Nat),i+k=10→pre.length=a+i→acc<2 ^ (7*i)→k<m→(pre++x).length≤4611686018427387904→
 Di n (pre++x) (a:Int) m (i:Int) (acc:Int)=some (match mQ k x with|.ok (u,t)=>(((acc+2 ^ (7*i)*u:Nat):Int),bl (pre++x) t,0)|.error e=>(0,0,e)):=by
 intro k;induction k with
 |zero=>
  intro m i x pre acc hi hp ha hm ab;obtain⟨m,rfl⟩:∃j,m=j+1:=⟨m-1,by omega⟩
  obtain rfl:i=10:=by omega
  rfl
 |succ k aM=>
  intro m i x pre acc hi hp ha hm ab;obtain⟨m,rfl⟩:∃j,m=j+1:=⟨m-1,by omega⟩
  have auj:(pre++x).length=pre.length+x.length:=List.length_append;have e1:ava ((a:Int)+(i:Int))=((pre.length:Nat):Int):=by rw [wr]<;>omega
  have aqe:i≤9:=by omega
  simp only [Di,PJ,e1];rw [show(decide ((i:Int)<10))=true from decide_eq_true (by omega)]
  simp only [auV];cases x with
  |nil=>
   simp only [List.append_nil,Int.le_refl,auT,auV,mQ]
  |cons c x=>
   have hlen:(pre++c::x).length=pre.length+(x.length+1):=by simp
   have hg:(pre++c::x).getD pre.length 0=c:=by
    have:=ad6 pre (c::x) 0
    simpa using this
   have hc:=c.toNat_lt;rw [show(decide ((((pre++c::x).length:Nat):Int)≤((pre.length:Nat):Int)))=false from decide_eq_false (by omega)]
   simp only [auW,cC (show pre.length<(pre++c::x).length by omega),a6,au1,hg]
   have e2:ava (7*(i:Int))=((7*i:Nat):Int):=by rw [wr]<;>omega
   have e3:ava (((pre.length:Nat):Int)+1)=((pre.length+1:Nat):Int):=ea (by omega)
   have hq:ava ((i:Int)+1)=((i+1:Nat):Int):=ea (by omega)
   have oB:bl (pre++c::x) x=((pre.length+1:Nat):Int):=by
    have:=FF (pre++[c]) x
    simpa using this
   unfold mQ;by_cases ad7:k=0∧1<c.toNat∨c.toNat=0∧k<9
   ·rw [if_pos ad7,show(bif (bif (decide ((i:Int)=9)) then(decide (1<((c.toNat:Nat):Int)))else false)then true else(bif (decide (((c.toNat:Nat):Int)=0)) then(decide (0<(i:Int)))else false))=true by
     rw [eG,fk,fk,←Bool.decide_and,←Bool.decide_and,←Bool.decide_or];exact decide_eq_true (by omega)]
    rfl
   ·rw [if_neg ad7,show(bif (bif (decide ((i:Int)=9)) then(decide (1<((c.toNat:Nat):Int)))else false)then true else(bif (decide (((c.toNat:Nat):Int)=0)) then(decide (0<(i:Int)))else false))=false by
     rw [eG,fk,fk,←Bool.decide_and,←Bool.decide_and,←Bool.decide_or];exact decide_eq_false (by omega)]
    have hb:=aqc (c:=c.toNat % 128) aqe (by omega) (by omega)
    have rU:qV .u64 (acc:Int) (pf .u64 (IntKind.u64.wrap (p0 .u8 ((c.toNat:Nat):Int) 127)) (ava (7*(i:Int))))=((acc+2 ^ (7*i)*(c.toNat % 128):Nat):Int):=by
     rw [ap_ _ hc,qK (by omega),e2,aqb (by omega) hb.1,aqa ha (hb.2 acc ha)]
    simp only [auW,rU,e3,hq];rw [e2,show ol ((7*i:Nat):Int)=true by simp only [ol,decide_eq_true_eq];omega,a6]
    by_cases hs:c.toNat<128
    ·rw [if_pos hs,show(decide (((c.toNat:Nat):Int)<128))=true from decide_eq_true (by omega)]
     simp only [auV,oB,Nat.mod_eq_of_lt hs]
    ·rw [if_neg hs,show(decide (((c.toNat:Nat):Int)<128))=false from decide_eq_false (by omega)]
     have GO:2 ^ (7*(i+1))=2 ^ (7*i)*128:=by rw [show 7*(i+1)=7*i+7 by omega,Nat.pow_add]
     have pN:=aM m (i+1) x (pre++[c]) (acc+2 ^ (7*i)*(c.toNat % 128)) (by omega) (by simp;omega) (by
      rw [GO];have Z:2 ^ (7*i)*(c.toNat % 128)≤2 ^ (7*i)*127:=Nat.mul_le_mul_left _ (by omega)
      omega) (by omega) (by simp at ab ⊢;omega)
     rw [show pre++[c]++x=pre++c::x by simp]at pN
     simp only [auW];rw [pN]
     congr 1
     cases mQ k x with
     |error e=>rfl
     |ok r=>
      obtain⟨u,t⟩:=r;simp only
      rw [GO,Nat.mul_add,Nat.mul_assoc,Nat.add_assoc]
def ad8{n:Nat}{s t:au'}(h:t <:+ s):Dh n s (bl s t)=some false:=by
 unfold Dh bl;have:=h.length_le
 rw [decide_eq_false (by omega),decide_eq_false (by omega)];rfl
def Bj{n:Nat}{s t:au'}(aF:t <:+ s)(hs:s.length≤4611686018427387904)(hn:12≤n):sO n s (bl s t)=some (res 0 s (ix t)):=by
 unfold sO;rw [ad8 (n:=n) aF];obtain⟨pre,rfl⟩:=aF;rw [FF,ak,auW];refine(aqd n pre.length 10 n 0 t pre 0 (by omega) (by omega) (by simp) (by omega) hs).trans (congrArg some ?_)
 unfold ix rZ;rw [Ux];cases mQ 10 t with
 |error e=>rfl
 |ok r=>obtain⟨u,bX⟩:=r;simp
def gf{e:Int}(h:e≠0):(!decide (e=0))=true:=by simp [h]
def ad9{t bX:au'}{u:Nat}(h:rZ t = .ok (u,bX)):ix t = .ok ((u:Int),bX):=by simp only [ix,fV,h]
def ad'{t:au'}{e:Int}(h:rZ t = .error e):ix t = .error e:=by simp only [ix,fV,h]
def aqf{u:Nat}(h:u<18446744073709551616):p0 .u64 (u:Int) 1=((u % 2:Nat):Int):=by
 unfold p0
 have e:((BitVec.ofInt (IntKind.bits .u64) (u:Int) &&& BitVec.ofInt (IntKind.bits .u64) 1).toNat)=u % 2:=by
  rw [BitVec.toNat_and,BitVec.toNat_ofInt,BitVec.toNat_ofInt];simp only [IntKind.bits];rw [show(((u:Int) % ((2 ^ 64:Nat):Int)).toNat)=u by omega,show(((1:Int) % ((2 ^ 64:Nat):Int)).toNat)=1 by decide,Nat.and_one_is_mod]
 rw [e,qK (by omega)]
def aqg{u:Nat}:ns .u64 (u:Int) 1=((u / 2:Nat):Int):=by
 unfold ns;rw [show min (1:Int).toNat (IntKind.bits .u64)=1 by decide,Int.fdiv_eq_ediv_of_nonneg _ (by omega)]
 omega
def aqh{a:Nat}(h:a<9223372036854775808):mY .i64 (a:Int) 0=(a:Int):=by
 unfold mY;rw [show BitVec.ofInt (IntKind.bits .i64) 0=0#_ from rfl,BitVec.xor_zero]
 rw [show((BitVec.ofInt (IntKind.bits .i64) (a:Int)).toNat:Int)=(a:Int) by
  rw [BitVec.toNat_ofInt];simp only [IntKind.bits];omega]
 exact FG (by omega)
def aqi{a:Nat}(h:a<9223372036854775808):mY .i64 (a:Int) (-1) = -(a:Int)-1:=by
 unfold mY;rw [show BitVec.ofInt (IntKind.bits .i64) (-1)=BitVec.allOnes _ by decide,BitVec.xor_allOnes]
 rw [show((~~~ BitVec.ofInt (IntKind.bits .i64) (a:Int)).toNat:Int)=((18446744073709551615-a:Nat):Int) by
  rw [BitVec.toNat_not,BitVec.toNat_ofInt];simp only [IntKind.bits];omega]
 (try unfold ava);rw [IntKind.wrap_i64];omega
def aqj{u:Nat}(h:u<18446744073709551616):mY .i64 (ava (ns .u64 (u:Int) 1)) (ava (0-(ava (p0 .u64 (u:Int) 1))))=Bh u:=by
 rw [aqg,aqf h,FG (i:=u / 2) (by omega),FG (i:=u % 2) (by omega)]
 unfold Bh;by_cases aa:u % 2=1
 ·rw [if_pos aa,aa,show ava (0-((1:Nat):Int)) = -1 by decide,aqi (by omega)]
 ·rw [if_neg aa,show u % 2=0 by omega,show ava (0-((0:Nat):Int))=0 by decide,aqh (by omega)]
def Uy{n:Nat}{s t:au'}(aF:t <:+ s)(hs:s.length≤4611686018427387904)(hn:12≤n):zF n s (bl s t)=some (res 0 s (i8 t)):=by
 unfold zF i8 fV;rw [Bj aF hs hn,ak];cases h:rZ t with
 |error e=>
  rw [ad' h,fB];simp only [gf (r0.cN _ _ h),auV,fB]
 |ok r=>
  obtain⟨u,bX⟩:=r;rw [ad9 h,g_];simp only [auT,auX,auW,aqj (r0.fL _ _ _ h).2,g_]
def qN(most:Nat):eu Int:=fV (λu:Nat=>(u:Int)) (iy most)
def aqk{s t:au'}(aF:t <:+ s)(hs:s.length≤4611686018427387904):IntKind.u64.wrap (ava (((s.length:Nat):Int)-bl s t))=((t.length:Nat):Int):=by
 have:=aF.length_le
 unfold bl;rw [wr (by omega) (by omega),IntKind.wrap_u64];omega
def aql{t bX:au'}{u:Nat}(h:rZ t = .ok (u,bX)):bX <:+ t:=r0.km h
def aqm{n most:Nat}{s t:au'}(aF:t <:+ s)(hs:s.length≤4611686018427387904)(hm:most<9223372036854775808)(r:Int×Int×Int)(ai:r=res 0 s (ix t)):
 (bif (!decide (r.2.2=0))then some ((0:Int),(0:Int),r.2.2) else(bif (bif (decide ((most:Int)<0))then true else(decide ((IntKind.u64.wrap (most:Int))<r.1)))then some (0,0,2) else(bif (decide ((IntKind.u64.wrap (ava (((s.length:Nat):Int)-r.2.1)))<r.1))then some (0,0,6)else some ((ava r.1),r.2.1,0))))=some (res 0 s (qN most t)):=by
 subst ai;unfold qN;rw [Ux];unfold iy;cases h:rZ t with
 |error e=>
  rw [ad' h,fB];simp only [gf (r0.cN _ _ h),auV]
 |ok r=>
  obtain⟨u,bX⟩:=r;have hu:=(r0.fL _ _ _ h).2;have e6:bX <:+ s:=(aql h).trans aF;have ab:=e6.length_le;rw [ad9 h,g_];simp only [auT,auX,auW,aqk e6 hs,qK (show most<18446744073709551616 by omega),show¬ ((most:Int)<0)by omega,auU,au2]
  by_cases Z:most<u
  ·simp only [Z,auT,auV,au8]
  ·by_cases aa:bX.length<u
   ·simp only [Z,aa,auT,auU,auV,auW,au8,au9]
   ·simp only [Z,aa,auU,auW,au9,FG (show u≤9223372036854775807 by omega)]
def tJ{n most:Nat}{s t:au'}(aF:t <:+ s)(hs:s.length≤4611686018427387904)(hm:most<9223372036854775808)(hn:12≤n):oN n s (bl s t) (most:Int)=some (res 0 s (qN most t)):=by
 unfold oN;rw [Bj aF hs hn,ak];exact aqm (n:=n) aF hs hm _ rfl
def qO{most u:Nat}{t bX:au'}(h:iy most t = .ok (u,bX)):qN most t = .ok ((u:Int),bX):=by simp only [qN,fV,h]
def qP{most:Nat}{t:au'}{e:Int}(h:iy most t = .error e):qN most t = .error e:=by simp only [qN,fV,h]
def aqn{s t:au'}{u:Nat}(aF:t <:+ s)(hs:s.length≤4611686018427387904)(hu:u≤t.length):
 ava (bl s t+(u:Int))=bl s (t.drop u)∧l4 (bl s t) (bl s (t.drop u)) s.length=true∧(s.take (bl s (t.drop u)).toNat).drop (bl s t).toNat=t.take u:=by
 have ab:=aF.length_le;have e:bl s (t.drop u)=bl s t+(u:Int):=by unfold bl;simp;omega
 refine⟨?_,?_,?_⟩
 ·rw [e];unfold bl;rw [wr]<;>omega
 ·rw [e];unfold bl l4;simp;omega
 ·rw [e];obtain⟨pre,rfl⟩:=aF
  (rw [FF,show(((pre.length:Nat):Int)+(u:Int)).toNat=pre.length+u by omega];simp only [au1];rw [List.drop_take])
  simp
def Bk{n most:Nat}{s t:au'}(aF:t <:+ s)(hs:s.length≤4611686018427387904)(hm:most<9223372036854775808)(hn:12≤n):sP n s (bl s t) (most:Int)=some (res [] s (eU most t)):=by
 unfold sP eU;rw [tJ aF hs hm hn,ak];cases h:iy most t with
 |error e=>
  rw [qP h,fB];simp only [gf (np h),auV,fB]
 |ok r=>
  obtain⟨u,bX⟩:=r;obtain⟨Z,aa,am⟩:=oa h;have e6:bX <:+ s:=List.IsSuffix.trans ⟨eM u,Z.symm⟩ aF;obtain⟨g1,g2,g3⟩:=aqn e6 hs am;rw [qO h,g_];simp only [auT,auX,auW,g1,g2,g3,a6,g_]
def aqo{n:Nat}{s t:au'}(aF:t <:+ s)(hs:s.length≤4611686018427387904):
 (bif (decide (bl s t=((s.length:Nat):Int)))then some (false,(0:Int),(6:Int)) else(av (aI (bl s t) s.length)<|bif (decide (1<(((s.getD (bl s t).toNat 0).toNat:Nat):Int)))then some (false,0,5) else(av (aI (bl s t) s.length)<|some ((decide ((((s.getD (bl s t).toNat 0).toNat:Nat):Int)=1)),(ava (bl s t+1)),0))))=some (res false s (r4 t)):=by
 obtain⟨pre,rfl⟩:=aF;rw [FF];cases t with
 |nil=>simp [r4,res]
 |cons c t=>
  have hg:(pre++c::t).getD pre.length 0=c:=by
   have:=ad6 pre (c::t) 0
   simpa using this
  have hlen:(pre++c::t).length=pre.length+(t.length+1):=by simp
  have e3:ava (((pre.length:Nat):Int)+1)=((pre.length+1:Nat):Int):=ea (by omega)
  have oB:bl (pre++c::t) t=((pre.length+1:Nat):Int):=by
   have:=FF (pre++[c]) t
   simpa using this
  rw [show decide (((pre.length:Nat):Int)=(((pre++c::t).length:Nat):Int))=false from decide_eq_false (by omega)]
  simp only [auW,cC (show pre.length<(pre++c::t).length by omega),a6,au1,hg,e3,gb,fI,r4]
  by_cases h:1<c.toNat
  ·simp only [h,auT,auV,au8,fB]
  ·simp only [h,auU,auW,au9,g_,oB]
def aqp{n:Nat}{s t:au'}(aF:t <:+ s)(hs:s.length≤4611686018427387904):IS n s (bl s t)=some (res false s (r4 t)):=by
 unfold IS;rw [ad8 aF,ak,auW];exact aqo (n:=n) aF hs
def aqq(t:au'):mS t=match ix t with|.ok (k,bX)=>Bi k bX|.error e=>.error e:=by
 unfold mS fV dZ;cases ix t with
 |error e=>rfl
 |ok r=>
  obtain⟨k,bX⟩:=r;simp only
  cases Bi k bX with
  |error e=>rfl
  |ok r=>rfl
def jj{α:Type}{D:eu α}{E:α→au'}{ok:α→Prop}(h:dY D E ok){s x:au'}{v:α}{t:au'}(hx:D x = .ok (v,t))(hs:x <:+ s):t <:+ s:=(h.km hx).trans hs
def ad_:dY (eU 64) eH (λs=>s.length≤64):=tG 64 (by omega)
def oc:dY (eU 24) eH (λs=>s.length≤24):=tG 24 (by omega)
def Uz{n:Nat}{s t:au'}(aF:t <:+ s)(hs:s.length≤4611686018427387904)(hn:70≤n):zG n s (bl s t)=some (res ⟨0,0,[]⟩ s (mS t)):=by
 unfold zG;rw [Bj aF hs (by omega),ak,aqq]
 cases h:ix t with
 |error e=>rw [fB];simp only [gf (mR.cN _ _ h),auV,fB]
 |ok r=>
  obtain⟨k,bX⟩:=r;have e6:=jj mR h aF;rw [g_];simp only [auT,auX,auW];unfold Bi;by_cases h0:k=0
  ·subst h0;rfl
  ·by_cases Z:k=1
   ·subst Z;simp only [show¬ (1:Int)=0 by omega,auU,auW,auT,auV,au9,au8]
    rw [Uy e6 hs (by omega),ak,Ux]
    cases aa:i8 bX with
    |error e=>rw [fB];simp only [gf (k9.cN _ _ aa),auV]
    |ok r=>obtain⟨x,nq⟩:=r;rw [g_];simp only [auT,auX,auW,PI,ak]
   ·by_cases aa:k=2
    ·subst aa;simp only [show¬ (2:Int)=0 by omega,show¬ (2:Int)=1 by omega,auU,auW,auT,auV,au9,au8]
     rw [show(64:Int)=((64:Nat):Int)from rfl,Bk e6 hs (by omega) (by omega),ak]
     unfold mP fV;cases am:eU 64 bX with
     |error e=>rw [fB];simp only [show¬ e=0 from ad_.cN _ _ am,auU,auW,ak,Dj,auY,auV,fB]
     |ok r=>
      obtain⟨x,nq⟩:=r;have hx:=(ad_.fL _ _ _ am).2;rw [g_];simp only [auT,auV,adN (show x.length<n by omega) (by omega),ak,Dj]
      cases jg x<;>rfl
    ·simp only [h0,Z,aa,auU,auW,au9,fB]
def aqr{α β R:Type}{D:eu α}{s:au'}{u:Nat}{f:Nat→α→β}{L:Nat→Nat→au'→List β→Option R}{fin:List β→au'→Option R}{bad:Int→Option R}
 (km:∀x v t,D x = .ok (v,t)→t <:+ x)
 (step:∀m i t acc,i<u→acc.length=i→t <:+ s→L (m+1) i t acc=match D t with|.ok (v,bX)=>L m (i+1) bX (acc++[f i v])|.error e=>bad e)
 (stop:∀m t acc,acc.length=u→t <:+ s→L (m+1) u t acc=fin acc t):
 ∀k m i t acc,i+k=u→k<m→acc.length=i→t <:+ s→L m i t acc=match ge D k t with|.ok (l,bX)=>fin (acc++(l.zipIdx i).map λp=>f p.2 p.1) bX|.error e=>bad e:=by
 intro k;induction k with
 |zero=>
  intro m i t acc hi hm ha aF;obtain⟨m,rfl⟩:∃j,m=j+1:=⟨m-1,by omega⟩
  obtain rfl:i=u:=by omega
  rw [stop m t acc ha aF];simp [ge]
 |succ k aM=>
  intro m i t acc hi hm ha aF;obtain⟨m,rfl⟩:∃j,m=j+1:=⟨m-1,by omega⟩
  rw [step m i t acc (by omega) ha aF]
  unfold ge;cases h:D t with
  |error e=>rfl
  |ok r=>
   obtain⟨v,bX⟩:=r;simp only
   rw [aM m (i+1) bX (acc++[f i v]) (by omega) (by omega) (by simp [ha]) ((km _ _ _ h).trans aF)]
   cases ge D k bX with
   |error e=>rfl
   |ok r=>obtain⟨l,nq⟩:=r;simp
def aea{α R:Type}{D:eu α}{s:au'}{u:Nat}{L:Nat→Nat→au'→List α→Option R}{fin:List α→au'→Option R}{bad:Int→Option R}
 (km:∀x v t,D x = .ok (v,t)→t <:+ x)
 (step:∀m i t acc,i<u→acc.length=i→t <:+ s→L (m+1) i t acc=match D t with|.ok (v,bX)=>L m (i+1) bX (acc++[v])|.error e=>bad e)
 (stop:∀m t acc,acc.length=u→t <:+ s→L (m+1) u t acc=fin acc t) {m:Nat} (hm:u<m) {t:au'} (aF:t <:+ s):
 L m 0 t []=match ge D u t with|.ok (l,bX)=>fin l bX|.error e=>bad e:=by
 have:=aqr (f:=λ_ v=>v) (L:=L) km step stop u m 0 t [] (by omega) hm rfl aF
 rw [this];cases ge D u t with
 |error e=>rfl
 |ok r=>
  obtain⟨l,bX⟩:=r;have e:((l.zipIdx 0).map λp:α×Nat=>p.1)=l:=by rw [List.zipIdx_map_fst]
  simp only [List.nil_append];rw [e]
def x2:∀a b:au',(!Op.bytesLess a b)=(Op.bytesLess b a||decide (b=a))
 |[],[]=>rfl
 |[],b::y=>rfl
 |a::x,[]=>rfl
 |a::x,b::y=>by
  simp only [Op.bytesLess,x2 x y,Bool.not_or,Bool.not_and];rcases Nat.lt_trichotomy a.toNat b.toNat with h|h|h
  ·have Z:a<b:=h;have aa:¬ b<a:=by show¬ b.toNat<a.toNat;omega
   have am:a≠b:=by intro e;subst e;omega
   simp [Z,aa,Ne.symm am]
  ·obtain rfl:a=b:=UInt8.toNat_inj.1 h;simp
  ·have Z:b<a:=h;have aa:¬ a<b:=by show¬ a.toNat<b.toNat;omega
   have am:a≠b:=by intro e;subst e;omega
   simp [Z,aa,am]
def mT{β:Type}{c k:Bool}{x y:β}(h:c = !k):(bif c then x else y)=if k then y else x:=by subst h;cases k<;>rfl
def qQ{i len:Nat}{b:Bool}(hi:i<len)(ab:len≤9223372036854775807):(b||(!(decide (0<(i:Int)))||aI (ava ((i:Int)-1)) len))=true:=by
 cases i with
 |zero=>simp
 |succ i=>
  rw [show((i+1:Nat):Int)-1=(i:Int)by omega,FG (by omega),cC (by omega)];simp
def aqs{i len:Nat}{b c:Bool}(hi:i<len):(b||(c||aI (i:Int) len))=true:=by rw [cC hi];simp
def allI(len:Nat)(chk:Nat→Bool):Bool:=(List.range len).all chk
def x3{len:Nat}{chk:Nat→Bool}:allI len chk=true↔∀i,i<len→chk i=true:=by
 unfold allI;simp
def r5(b:Bool):(if b then true else false)=b:=by cases b<;>rfl
def Bl(b c:Bool):(if b then c else false)=(b&&c):=by cases b<;>rfl
def mU{β:Type}{L:Nat→Int→Option β}{len:Nat}{chk:Nat→Bool}{no yes:β}{m:Nat}(hm:len<m)
 (step:∀m i,i<len→L (m+1) (i:Int)=if chk i then L m ((i+1:Nat):Int)else some no) (stop:∀m,L (m+1) (len:Int)=some yes):
 L m 0=some (if allI len chk then yes else no):=Uj hm step stop
abbrev pv(i:Nat):Nat:=(ava ((i:Int)-1)).toNat
def aqt(len:Nat)(a b:Nat→Bool):(allI len λi=>a i&&b i)=(allI len a&&allI len b):=by
 rw [Bool.eq_iff_iff];simp only [x3,Bool.and_eq_true];exact⟨λh=>⟨λi hi=>(h i hi).1,λi hi=>(h i hi).2⟩,λh i hi=>⟨h.1 i hi,h.2 i hi⟩⟩
def aqu{L:Nat→Int→avd}{len:Nat}{p:Nat→Bool}
 (step:∀m i,i<len→L (m+1) (i:Int)=if p i then some (i:Int)else L m ((i+1:Nat):Int)) (stop:∀m,L (m+1) (len:Int)=some (-1)):
 ∀m i,len<i+m→i≤len→∃r,L m (i:Int)=some r∧decide (0≤r)=(List.range' i (len-i)).any p:=by
 intro m;induction m with
 |zero=>intro i h aa;omega
 |succ m aM=>
  intro i h aa;by_cases hi:i<len
  ·rw [step m i hi,show len-i=(len-(i+1))+1 by omega,List.range'_succ,List.any_cons]
   cases hp:p i
   ·obtain⟨r,am,aK⟩:=aM (i+1) (by omega) (by omega)
    exact⟨r,by rw [if_neg (by simp)];exact am,by rw [aK];simp⟩
   ·exact⟨(i:Int),by simp,by simp⟩
  ·obtain rfl:i=len:=by omega
   exact⟨-1,stop m,by simp⟩
def UA{L:Nat→Int→avd}{len:Nat}{p:Nat→Bool}{m:Nat}(hm:len<m)
 (step:∀m i,i<len→L (m+1) (i:Int)=if p i then some (i:Int)else L m ((i+1:Nat):Int)) (stop:∀m,L (m+1) (len:Int)=some (-1)):
 ∃r,L m 0=some r∧decide (0≤r) = !allI len λi=>!p i:=by
 obtain⟨r,Z,aa⟩:=aqu step stop m 0 (by omega) (by omega)
 refine⟨r,Z,?_⟩
 rw [aa,Nat.sub_zero,←List.range_eq_range'];unfold allI;rw [List.not_all_eq_any_not];simp
section
variable {n:Nat} (hn:2000≤n) (aZ:n≤9223372036854775808)
include hn aZ
def FH(l:List aU):Bool:=allI l.length λi=>mp (l.getD i default).Key&&kI (l.getD i default).bj&&(!decide (0<(i:Int))||Op.bytesLess (l.getD (pv i) default).Key (l.getD i default).Key)
def o8(l:List aU):Bool:=FH l&&allI l.length λi=>!decide ((l.getD i default).bj.Kind=0)
def vm(n:Nat)(p:aU):Prop:=p.Key.length<n∧p.bj.S.length<n
theorem aqv{l:List aU}(ab:l.length<n)(h:∀i,vm n (l.getD i default)):IH n l=some (FH l):=by
 unfold IH FH;rw [mU (L:=zE n l) (no:=false) (yes:=true) ab,r5]
 ·intro m i hi;have Z:=h i;simp only [zE,IG,au2,hi,auT,auV,cC hi,a6,ak,au1,ea (show i≤9223372036854775806 by omega),LK (show 24<n by omega),qQ hi (show l.length≤9223372036854775807 by omega)]
  rw [show sL n (⟨((l.getD i default).bj).Kind,((l.getD i default).bj).N,((l.getD i default).bj).S⟩:bz)=_ from LL (v:=(l.getD i default).bj) (by have:=Z.2;omega) (by have:=Z.2;omega)]
  cases hk:mp (l.getD i default).Key
  ·simp only [auY,auX,auW,auV,ak,Bool.true_or,a6,Bool.false_and];rfl
  ·simp only [auY,auX,auW,auV,ak,qQ hi (show l.length≤9223372036854775807 by omega),a6,Bool.true_and]
   exact mT (by simp only [eG,fk,Bool.not_and,Bool.not_or,Bool.not_not])
 ·intro m;simp only [zE,IG,PH,au6,auU,auW]
theorem aeb{l:List aU}(ab:l.length<n)(h:∀i,vm n (l.getD i default)):Dg n l=some (o8 l):=by
 unfold Dg PG PF o8;rw [aqv hn aZ ab h,ak]
 obtain⟨r,Z,aa⟩:=UA (L:=zD n l) (len:=l.length) (p:=λi=>decide ((l.getD i default).bj.Kind=0)) ab (by
  intro m i hi;simp only [zD,IF,PD,au2,hi,auT,auV,cC hi,a6,ak,au1,ea (show i≤9223372036854775806 by omega),au5,au8]) (by
  intro m;simp only [zD,IF,PE,au6,auU,auW])
 rw [Z];simp only [ak,aa];cases FH l<;>simp
theorem aqw{l:List aU}(ab:l.length<n)(h:∀i,vm n (l.getD i default)):JP n l=some (o8 l):=by
 have e1:JM n l=some (allI l.length λi=>mp (l.getD i default).Key&&(!decide (0<(i:Int))||Op.bytesLess (l.getD (pv i) default).Key (l.getD i default).Key)):=by
  unfold JM;rw [mU (L:=Aj n l) (no:=false) (yes:=true) ab,r5]
  ·intro m i hi;have Z:=h i;simp only [Aj,JL,au2,hi,auT,auV,cC hi,a6,ak,au1,ea (show i≤9223372036854775806 by omega),apG (show(l.getD i default).Key.length<n by have:=Z.1;omega) (by have:=Z.1;omega),aqs hi,qQ hi (show l.length≤9223372036854775807 by omega),au7]
   exact mT (by simp only [eG,fk,Bool.not_and,Bool.not_or,Bool.not_not,←x2])
  ·intro m;simp only [Aj,JL,QF,au6,auU,auW]
 have e2:D9 n l=some ((allI l.length λi=>kI (l.getD i default).bj)&&allI l.length λi=>mp (l.getD i default).Key&&(!decide (0<(i:Int))||Op.bytesLess (l.getD (pv i) default).Key (l.getD i default).Key)):=by
  unfold D9;rw [mU (L:=Ak n l) (chk:=λi=>kI (l.getD i default).bj) (no:=false) (yes:=allI l.length λi=>mp (l.getD i default).Key&&(!decide (0<(i:Int))||Op.bytesLess (l.getD (pv i) default).Key (l.getD i default).Key)) ab,Bl]
  ·intro m i hi;have Z:=h i;simp only [Ak,JN,au2,hi,auT,auV,cC hi,a6,ak,au1,ea (show i≤9223372036854775806 by omega),apI (show(l.getD i default).bj.S.length<n by have:=Z.2;omega) (by have:=Z.2;omega)]
   exact mT rfl
  ·intro m;simp only [Ak,JN,QG,au6,auU,auW,e1,ak]
 unfold JP;rw [mU (L:=Al n l) (chk:=λi=>!decide ((l.getD i default).bj.Kind=0)) (no:=false) (yes:=(allI l.length λi=>kI (l.getD i default).bj)&&allI l.length λi=>mp (l.getD i default).Key&&(!decide (0<(i:Int))||Op.bytesLess (l.getD (pv i) default).Key (l.getD i default).Key)) ab,Bl]
 ·unfold o8 FH;simp only [aqt]
  congr 1
  generalize (allI l.length λi=>mp (l.getD i default).Key)=a
  generalize (allI l.length λi=>kI (l.getD i default).bj)=b
  cases a<;>cases b<;>simp [Bool.and_comm]
 ·intro m i hi;simp only [Al,JO,au2,hi,auT,auV,cC hi,a6,ak,au1,ea (show i≤9223372036854775806 by omega)]
  exact mT (by simp)
 ·intro m;simp only [Al,JO,QH,au6,auU,auW,e2,ak]
def FI(l:List bg):Bool:=(allI l.length λi=>mp (l.getD i default).Key && !decide ((l.getD i default).Count<1) && !decide (1099511627776<(l.getD i default).Count)&&(!decide (0<(i:Int))||Op.bytesLess (l.getD (pv i) default).Key (l.getD i default).Key))&&decide (((l.length:Nat):Int)≤32)
theorem aqx{l:List bg}(ab:l.length<n):Jv n l=some (FI l):=by
 unfold Jv FI;rw [mU (L:=z' n l) (no:=false) (yes:=decide (((l.length:Nat):Int)≤32)) ab,Bl]
 ·intro m i hi;simp only [z',Ju,au2,hi,auT,auV,cC hi,a6,ak,au1,ea (show i≤9223372036854775806 by omega),LK (show 24<n by omega),qQ hi (show l.length≤9223372036854775807 by omega)]
  exact mT (by simp only [eG,fk,Bool.not_and,Bool.not_or,Bool.not_not])
 ·intro m;simp only [z',Ju,Qr,au6,auU,auW]
def FJ(l:List au'):Bool:=(allI l.length λi=>mp (l.getD i default)&&(!decide (0<(i:Int))||Op.bytesLess (l.getD (pv i) default) (l.getD i default)))
theorem aec{l:List au'}(ab:l.length<n):CG n l=some (FJ l&&decide (((l.length:Nat):Int)≤64)):=by
 unfold CG FJ;rw [mU (L:=y_ n l) (no:=false) (yes:=decide (((l.length:Nat):Int)≤64)) ab,Bl]
 ·intro m i hi;simp only [y_,HI,au2,hi,auT,auV,cC hi,a6,ak,au1,ea (show i≤9223372036854775806 by omega),LK (show 24<n by omega),qQ hi (show l.length≤9223372036854775807 by omega)]
  exact mT (by simp only [eG,fk,Bool.not_and,Bool.not_or,Bool.not_not,←x2])
 ·intro m;simp only [y_,HI,OC,au6,auU,auW]
def LQ(f:gP):Bool:=bif f.fh then decide (f.Reads.length=0)&&decide (f.dI.length=0) else(FJ f.Reads&&decide (f.Reads.length≤64))&&(FJ f.dI&&decide (f.dI.length≤64))
theorem aqy{f:gP}(Z:f.Reads.length<n)(aa:f.dI.length<n):CH n f=some (LQ f):=by
 unfold CH LQ;rw [aec hn aZ Z,aec hn aZ aa];simp only [ak,fI,ng,fk];cases f.fh
 ·simp only [auW];cases FJ f.Reads&&decide (f.Reads.length≤64)<;>rfl
 ·rfl
end
def vn(c b:Bool):(bif c then some b else some default)=some (c&&b):=by cases c<;>rfl
def aqz{l:Nat}{b:Bool}:(b||decide (l<1)||decide (16<l)||aI 0 l)=true:=by
 by_cases h:l<1
 ·rw [decide_eq_true h];simp
 ·rw [mm (by omega)];simp
def aed{α:Type}(l:List α)(d:α){i k:Nat}(h:k<i):(l.take i).getD k d=l.getD k d:=by
 simp [List.getD_eq_getElem?_getD,List.getElem?_take,h]
section
variable {n:Nat} (hn:2000≤n) (aZ:n≤9223372036854775808)
include hn aZ
def FK(l:List bz):Bool:=allI l.length λi=>kI (l.getD i default) && !decide ((l.getD i default).Kind=0)
def x4(r:Request):Int:=
 bif (((decide (r.Client<1)||decide (32<r.Client))||decide (r.Seq<1))||decide (1099511627776<r.Seq))then 1 else
 bif !hr r.bb then 7 else
 bif decide (6<r.ax.length)then 2 else
 bif !FK r.ax then 1 else
 bif ((!LQ r.bU||r.bU.fh)||(!r.fE&&decide (0<r.bU.Reads.length+r.bU.dI.length)))then 1 else 0
structure vo(n:Nat)(r:Request):Prop where
 proc:r.bb.length≤1000
 args:r.ax.length<n
 vals:∀i,(r.ax.getD i default).S.length<n
 aee:r.bU.Reads.length<n
 aef:r.bU.dI.length<n
 FL:r.bU.Reads.length≤1000000
 wl:r.bU.dI.length≤1000000
 rd:∀i,(r.bU.Reads.getD i default).length<n
 wr:∀i,(r.bU.dI.getD i default).length<n
theorem UB{r:Request}(h:vo n r):rx n r=some (x4 r):=by
 have Z:=h.proc;have aa:=h.args
 obtain⟨c,e1,e2⟩:=UA (L:=za n r.ax) (len:=r.ax.length) (p:=λi=>!(kI (r.ax.getD i default) && !decide ((r.ax.getD i default).Kind=0))) aa (by
  intro m i hi;have:=h.vals i
  simp only [za,HJ,OF,au2,hi,auT,auV,cC hi,a6,au1,ea (show i≤9223372036854775806 by omega),LL (show(r.ax.getD i default).S.length<n by omega) (by omega),vn,ak]
  cases kI (r.ax.getD i default)<;>cases decide ((r.ax.getD i default).Kind=0)<;>rfl) (by
  intro m;simp only [za,HJ,OG,au6,auU,auW])
 have e3:(allI r.ax.length λi=>!!(kI (r.ax.getD i default) && !decide ((r.ax.getD i default).Kind=0)))=FK r.ax:=by simp only [Bool.not_not];rfl
 rw [e3]at e2;unfold rx OI OH x4;rw [AS n _ (by omega),e1,show CH n ⟨r.bU.fh,r.bU.Reads,r.bU.dI⟩=_ from aqy hn aZ (f:=r.bU) h.aee h.aef]
 have am:=h.aee;have aK:=h.aef;have BH:=h.FL;have auk:=h.wl;have hq:ava (((r.bU.Reads.length:Nat):Int)+((r.bU.dI.length:Nat):Int))=((r.bU.Reads.length+r.bU.dI.length:Nat):Int):=by rw [wr]<;>omega
 simp only [ak,e2,hq,eG,fk,gb];cases ((decide (r.Client<1)||decide (32<r.Client))||decide (r.Seq<1))||decide (1099511627776<r.Seq)<;>cases hr r.bb<;>cases decide (6<r.ax.length)<;>cases FK r.ax<;>cases ((!LQ r.bU||r.bU.fh)||(!r.fE&&decide (0<r.bU.Reads.length+r.bU.dI.length)))<;>rfl
def LR(c:UInt8):Bool:=!(decide (c.toNat<33)||decide (126<c.toNat))
def mq(s:au'):Bool:=(allI s.length λi=>LR (s.getD i 0))&&decide (s.length≤24)
theorem aeg{s:au'}(hs:s.length<n):Dk n s=some (mq s):=by
 unfold Dk mq;rw [mU (L:=zI n s) (no:=false) (yes:=decide (s.length≤24)) hs,Bl]
 ·intro m i hi;simp only [zI,IL,au2,hi,auT,auV,cC hi,a6,au1,ea (show i≤9223372036854775806 by omega),au7,rP,gb]
  exact mT (by simp only [eG,LR,Bool.not_not])
 ·intro m;simp only [zI,IL,PK,au6,auU,auW,ng]
def Bm(n:Int):Bool:=decide (1≤n)&&decide (n≤16)
def aeh(n:Int):Bool:=decide (1≤n)&&decide (n≤1099511627776)
def FM(l:List Part)(i:Nat):Bool:=
 let x:=l.getD i default
 bif decide (x.gO=0)then decide (x.dQ=[]) else((((Bm x.gO && !decide (x.gO=x.Node))&&mq x.dQ) && !Op.bytesLess x.dQ x.es)&&(decide (i+1=l.length)||Op.bytesLess x.dQ (l.getD (i+1) default).es))
def LS(l:List Part)(i:Nat):Bool:=
 let x:=l.getD i default
 (!decide (0<(i:Int))||(mq x.es&&Op.bytesLess (l.getD (pv i) default).es x.es))&&(((aeh x.Id&&Bm x.Node)&&FM l i)&&allI i λk=>!decide ((l.getD k default).Id=x.Id))
def r6(p:cc):Bool:=!((((decide (p.Version<0)||decide (1099511627776<p.Version))||decide (p.aS.length<1))||decide (16<p.aS.length)) || !decide ((p.aS.getD 0 default).es=[]))&&allI p.aS.length (LS p.aS)
def x5(n:Nat)(x:Part):Prop:=x.es.length<n∧x.dQ.length<n
theorem aqA{l:List Part}(ab:l.length<n){i:Nat}(hi:i<l.length)(h:∀i,x5 n (l.getD i default)):IN n l (i:Int)=some (FM l i):=by
 unfold IN Dl FM;have Z:=(h i).2
 (rw [cC hi,a6];simp only [au1];rw [aeg hn aZ (by omega),ea (by omega)])
 simp only [ak,fk,eG,vn,Int.ofNat_inj,show(decide (1≤(l.getD i default).gO)&&decide ((l.getD i default).gO≤16))=Bm (l.getD i default).gO from rfl]
 cases decide ((l.getD i default).gO=0)
 ·simp only [auW];by_cases e:i+1=l.length
  ·simp only [e,auT,Bool.true_or,au7,a6];cases Bm (l.getD i default).gO<;>cases decide ((l.getD i default).gO=(l.getD i default).Node)<;>rfl
  ·rw [cC (show i+1<l.length by omega)]
   simp only [e,au1,auU,Bool.false_or,au7,a6];cases Bm (l.getD i default).gO<;>cases decide ((l.getD i default).gO=(l.getD i default).Node)<;>rfl
 ·rfl
theorem aei{p:cc}(ab:p.aS.length<n)(h:∀i,x5 n (p.aS.getD i default)):Dm n p=some (r6 p):=by
 have e1:wZ n p n 0=some (allI p.aS.length (LS p.aS)):=by
  rw [mU (L:=wZ n p) (chk:=LS p.aS) (no:=false) (yes:=true) ab,r5]
  ·intro m i hi;have Z:=h i;have aa:=Z.1;have bw:(p.aS.take i).length<n:=by simp;omega
   obtain⟨c,f1,f2⟩:=UA (L:=zJ n (p.aS.take i) (p.aS.getD i default).Id) (len:=(p.aS.take i).length) (p:=λk=>decide (((p.aS.take i).getD k default).Id=(p.aS.getD i default).Id)) bw (by
    intro m k hk;have fq:k≤9223372036854775806:=by omega
    simp only [zJ,IM,PL,au2,hk,auT,auV,cC hk,a6,ak,au1,ea fq];cases decide (((p.aS.take i).getD k default).Id=(p.aS.getD i default).Id)<;>rfl) (by
    intro m;simp only [zJ,IM,PM,au6,auU,auW])
   have f3:(allI (p.aS.take i).length λk=>!decide (((p.aS.take i).getD k default).Id=(p.aS.getD i default).Id))=allI i λk=>!decide ((p.aS.getD k default).Id=(p.aS.getD i default).Id):=by
    rw [show(p.aS.take i).length=i by simp;omega,Bool.eq_iff_iff,x3,x3]
    constructor
    ·intro g k hk;have:=g k hk;rwa [aed _ _ hk]at this
    ·intro g k hk;have:=g k hk;rwa [aed _ _ hk]
   rw [f3]at f2;simp only [wZ,IP,PO,PN,PP,Dl,au2,hi,auT,auV,cC hi,a6,ak,au1,ea (show i≤9223372036854775806 by omega),aeg hn aZ (show(p.aS.getD i default).es.length<n by omega),vn,f1,aqA hn aZ ab hi h,AP (Nat.le_of_lt hi),au7]
   have g1:(!decide (0<(i:Int))||(!(decide (0<(i:Int))&&mq (p.aS.getD i default).es)||aI (ava ((i:Int)-1)) p.aS.length))=true:=by
    have:=qQ (b:=!(decide (0<(i:Int))&&mq (p.aS.getD i default).es)) hi (show p.aS.length≤9223372036854775807 by omega)
    rw [←this];cases decide (0<(i:Int))<;>simp
   simp only [g1,a6,←x2,eG,fk];unfold LS aeh Bm;simp only
   cases hd:decide (0<(i:Int))
   ·simp only [Bool.false_and,auW,auY,Bool.true_or,Bool.true_and];cases (decide (1≤(p.aS.getD i default).Id)&&decide ((p.aS.getD i default).Id≤1099511627776))
    ·rfl
    ·cases (decide (1≤(p.aS.getD i default).Node)&&decide ((p.aS.getD i default).Node≤16))
     ·rfl
     ·cases FM p.aS i
      ·rfl
      ·simp only [auX,Bool.or_self,auY,auV,ak,f2,Bool.false_or,Bool.true_and];exact mT rfl
   ·simp only [Bool.true_and,auV,auX,Bool.false_or];cases mq (p.aS.getD i default).es
    ·rfl
    ·cases Op.bytesLess (p.aS.getD (pv i) default).es (p.aS.getD i default).es
     ·rfl
     ·cases (decide (1≤(p.aS.getD i default).Id)&&decide ((p.aS.getD i default).Id≤1099511627776))
      ·rfl
      ·cases (decide (1≤(p.aS.getD i default).Node)&&decide ((p.aS.getD i default).Node≤16))
       ·rfl
       ·cases FM p.aS i
        ·rfl
        ·simp only [auX,Bool.or_self,auY,auV,auW,ak,f2,Bool.false_or,Bool.true_and];exact mT rfl
  ·intro m;simp only [wZ,IP,PQ,au6,auU,auW]
 unfold Dm r6;rw [e1];simp only [eG,rP,gb,aqz,a6];cases (((decide (p.Version<0)||decide (1099511627776<p.Version))||decide (p.aS.length<1))||decide (16<p.aS.length)) || !decide ((p.aS.getD 0 default).es=[])<;>rfl
end
section
variable {n:Nat} (hn:2000≤n) (aZ:n≤9223372036854775808)
include hn aZ
def UC(o:Outcome):Bool:=bif decide (o.Status=1) then(decide (o.Code=0)&&decide (o.Out.length≤16))&&FK o.Out else((decide (o.Status=2)&&decide (0≤o.Code))&&decide (o.Code≤1009))&&decide (o.Out.length=0)
structure FN(n:Nat)(o:Outcome):Prop where
 out:o.Out.length<n
 vals:∀i,(o.Out.getD i default).S.length<n
theorem aqB{o:Outcome}(h:FN n o):C8 n o=some (UC o):=by
 have Z:=h.out
 have e1:wS n o n 0=some (FK o.Out):=by
  rw [mU (L:=wS n o) (no:=false) (yes:=true) Z,r5]
  ·rfl
  ·intro m i hi;have:=h.vals i
   simp only [wS,Ip,au2,hi,auT,auV,cC hi,a6,au1,ea (show i≤9223372036854775806 by omega),LL (show(o.Out.getD i default).S.length<n by omega) (by omega),ak]
   exact mT (by simp only [eG,Bool.not_and,Bool.not_not])
  ·intro m;simp only [wS,Ip,Pu,au6,auU,auW]
 unfold C8 Pt UC;rw [e1];simp only [eG,fk,gb,fI];cases decide (o.Status=1)
 ·simp only [auW];cases decide (o.Status=2)<;>rfl
 ·simp only [auV];by_cases g:o.Out.length≤16
  ·simp only [show¬ 16<o.Out.length by omega,g,auT,auU]
   cases decide (o.Code=0)<;>rfl
  ·simp only [show 16<o.Out.length by omega,g,auT,auU,au7,auV,Bool.and_false,Bool.false_and]
def nr(fv:Int):Int:=bif (decide ((ava (fv-1))<8)) then(ava (fv-1))else 8
def FO(s:b_):Bool:=((decide (s.Client<1)||decide (32<s.Client))||decide (s.Next<1))||decide (1099511627776<s.Next)
omit hn aZ in
theorem aqC{s:b_}(h:FO s=false):1≤s.Client∧s.Client≤32∧1≤s.Next∧s.Next≤1099511627776:=by
 simp only [FO,Bool.or_eq_false_iff,decide_eq_false_iff_not]at h;omega
def UD(s:b_)(i:Nat):Bool:=(decide ((s.cZ.getD i default).Client=s.Client)&&decide ((s.cZ.getD i default).Seq=s.Next-(s.cZ.length:Int)+(i:Int)))&&UC (s.cZ.getD i default).Outcome
def UE(s:b_):Bool:=(!FO s&&decide ((s.cZ.length:Int)=nr s.Next))&&allI s.cZ.length (UD s)
structure x6(n:Nat)(s:b_):Prop where
 rep:s.cZ.length<n
 out:∀i,FN n (s.cZ.getD i default).Outcome
theorem aqD{s:b_}(h:x6 n s):Ir n s=some (UE s):=by
 have Z:=h.rep;unfold Ir C7 UE;simp only [eG];rw [show(((decide (s.Client<1)||decide (32<s.Client))||decide (s.Next<1))||decide (1099511627776<s.Next))=FO s from rfl]
 cases eA:FO s
 ·have hb:=aqC eA;simp only [auY,auV,ak,Bool.false_or,Bool.true_and];rw [show(bif (decide ((ava (s.Next-1))<8)) then(ava (s.Next-1))else 8)=nr s.Next from rfl]
  rw [mU (L:=zu n s) (chk:=UD s) (no:=false) (yes:=true) Z,r5]
  ·cases decide ((s.cZ.length:Int)=nr s.Next)<;>rfl
  ·intro m i hi;simp only [zu,Iq,au2,hi,auT,auV,cC hi,a6,au1,ea (show i≤9223372036854775806 by omega)]
   rw [show C8 n (⟨((s.cZ.getD i default).Outcome).Status,((s.cZ.getD i default).Outcome).Code,((s.cZ.getD i default).Outcome).Out⟩:Outcome)=_ from aqB hn aZ (h.out i),vn,ak,wr (x:=s.Next-((s.cZ.length:Nat):Int)) (by omega) (by omega),wr (x:=s.Next-((s.cZ.length:Nat):Int)+(i:Int)) (by omega) (by omega)]
   refine mT ?_;unfold UD;simp only [eG,Bool.and_true,Bool.not_not];cases decide ((s.cZ.getD i default).Client=s.Client)<;>cases decide ((s.cZ.getD i default).Seq=s.Next-(s.cZ.length:Int)+(i:Int))<;>rfl
  ·intro m;simp only [zu,Iq,Pv,au6,auU,auW]
 ·rfl
def r7(l:List b_):Bool:=allI l.length λi=>UE (l.getD i default)&&(!decide (0<(i:Int)) || !decide ((l.getD i default).Client≤(l.getD (pv i) default).Client))
theorem UF{l:List b_}(ab:l.length<n)(h:∀i,x6 n (l.getD i default)):uD n l=some (r7 l):=by
 unfold uD r7;rw [mU (L:=zv n l) (no:=false) (yes:=true) ab,r5]
 ·intro m i hi;simp only [zv,Is,au2,hi,auT,auV,cC hi,a6,au1,ea (show i≤9223372036854775806 by omega),aqD hn aZ (h i),ak,qQ hi (show l.length≤9223372036854775807 by omega)]
  exact mT (by simp only [eG,fk,Bool.not_and,Bool.not_or,Bool.not_not])
 ·intro m;simp only [zv,Is,Pw,au6,auU,auW]
end
def aqE{β:Type}{c d k:Bool}{x y:β}(h:k=(!c && !d)):(bif c then x else(bif d then x else y))=if k then y else x:=by subst h;cases c<;>cases d<;>rfl
def aqF{α σ R:Type}[Inhabited α]{l:List α}{g:σ→α→σ}{I:Nat→σ→Prop}{L:Nat→σ→Int→Option R}{fin:σ→Option R}
 (step:∀m acc i,i<l.length→I i acc→L (m+1) acc (i:Int)=L m (g acc (l.getD i default)) ((i+1:Nat):Int)∧I (i+1) (g acc (l.getD i default)))
 (stop:∀m acc,I l.length acc→L (m+1) acc (l.length:Int)=fin acc):
 ∀m i acc,l.length<i+m→i≤l.length→I i acc→L m acc (i:Int)=fin ((l.drop i).foldl g acc):=by
 intro m;induction m with
 |zero=>intro i acc h aa;omega
 |succ m aM=>
  intro i acc h aa me;by_cases hi:i<l.length
  ·obtain⟨am,aK⟩:=step m acc i hi me;rw [am,aM (i+1) _ (by omega) (by omega) aK,eZ l i default hi,List.foldl_cons]
  ·obtain rfl:i=l.length:=by omega
   rw [stop m acc me,List.drop_of_length_le (Nat.le_refl _)];rfl
def aej{α σ R:Type}[Inhabited α]{l:List α}{g:σ→α→σ}{I:Nat→σ→Prop}{L:Nat→σ→Int→Option R}{fin:σ→Option R}{m:Nat}(hm:l.length<m){acc:σ}(h0:I 0 acc)
 (step:∀m acc i,i<l.length→I i acc→L (m+1) acc (i:Int)=L m (g acc (l.getD i default)) ((i+1:Nat):Int)∧I (i+1) (g acc (l.getD i default)))
 (stop:∀m acc,I l.length acc→L (m+1) acc (l.length:Int)=fin acc):L m acc 0=fin (l.foldl g acc):=
 aqF step stop m 0 acc (by omega) (by omega) h0
def fold_map{α β:Type}(f:α→β):∀(l:List α) (acc:List β),l.foldl (λa x=>a++[f x]) acc=acc++l.map f
 |[],acc=>by simp
 |x::l,acc=>by rw [List.foldl_cons,fold_map f l];simp
def jK{m k:Nat}(h:m*k≤140737488355328):room m k=true:=by simp [room];exact h
def FP{α:Type}[Inhabited α]{l:List α}{i:Nat}(h:i<l.length):l.getD i default∈l:=by
 rw [List.getD_eq_getElem?_getD,List.getElem?_eq_getElem h];exact List.getElem_mem h
section
variable {n:Nat} (hn:2000≤n) (aZ:n≤9223372036854775808)
include hn aZ
def aek(a b:bz):Bool:=decide (a.Kind=b.Kind)&&(decide (a.N=b.N)&&(decide (a.S=b.S)&&true))
def LT(r:Row)(floor last:Int)(i:Nat):Bool:=
 ((!decide ((r.bA.getD i default).cg<floor) && !decide (last<(r.bA.getD i default).cg))&&kI (r.bA.getD i default).bj) &&
 !(decide (0<(i:Int))&&(decide ((r.bA.getD i default).cg≤(r.bA.getD (pv i) default).cg)||aek (r.bA.getD i default).bj (r.bA.getD (pv i) default).bj))
def FQ(r:Row)(floor last:Int):Bool:=!(decide (r.bA.length=0)||decide ((r.bA.getD 0 default).bj.Kind=0))&&allI r.bA.length (LT r floor last)
structure LU(n:Nat)(r:Row):Prop where
 key:r.Key.length<n
 ael:r.bA.length<n
 val:∀i,(r.bA.getD i default).bj.S.length<n
omit hn aZ in
theorem aqG{i len:Nat}{b:Bool}(hi:i<len)(ab:len≤9223372036854775807):(!(decide (0<(i:Int)))||(b||aI (ava ((i:Int)-1)) len))=true:=by
 have:=qQ (b:=b) hi ab
 rw [←this];cases decide (0<(i:Int))<;>cases b<;>simp
omit hn aZ in
theorem aqH{i len:Nat}(hi:i<len)(ab:len≤9223372036854775807):(!(decide (0<(i:Int)))||aI (ava ((i:Int)-1)) len)=true:=by
 have:=qQ (b:=false) hi ab
 rw [Bool.false_or]at this;exact this
omit hn aZ in
theorem aqI{l:Nat}:(decide (l=0)||aI 0 l)=true:=by
 by_cases h:l=0
 ·rw [decide_eq_true h];rfl
 ·rw [mm (by omega)];simp
theorem aqJ{r:Row}(h:LU n r)(floor last:Int):HQ n r floor last=some (FQ r floor last):=by
 have Z:=h.ael;unfold HQ FQ;rw [mU (L:=zf n floor last r) (chk:=LT r floor last) (no:=false) (yes:=true) Z,r5]
 ·simp only [fI,aqI,a6,eG];cases decide (r.bA.length=0)||decide ((r.bA.getD 0 default).bj.Kind=0)<;>rfl
 ·intro m i hi;have aa:=h.val i;simp only [zf,HP,au2,hi,auT,auV,cC hi,a6,au1,ea (show i≤9223372036854775806 by omega),aqG hi (show r.bA.length≤9223372036854775807 by omega),aqH hi (show r.bA.length≤9223372036854775807 by omega)]
  rw [show sL n (⟨((r.bA.getD i default).bj).Kind,((r.bA.getD i default).bj).N,((r.bA.getD i default).bj).S⟩:bz)=_ from LL (v:=(r.bA.getD i default).bj) (by omega) (by omega),vn,ak]
  refine aqE ?_;unfold LT;simp only [aek,eG,fk,Bool.not_and,Bool.not_or,Bool.not_not];cases decide ((r.bA.getD i default).cg<floor)<;>cases decide (last<(r.bA.getD i default).cg)<;>cases kI (r.bA.getD i default).bj<;>rfl
 ·intro m;simp only [zf,HP,OO,au6,auU,auW]
def od(s:aw):Bool:=!((decide (s.bB<0)||decide (s.bv<s.bB))||decide (1099511627776<s.bv)) &&
 allI s.Rows.length λi=>(mp (s.Rows.getD i default).Key&&(!decide (0<(i:Int))||Op.bytesLess (s.Rows.getD (pv i) default).Key (s.Rows.getD i default).Key))&&FQ (s.Rows.getD i default) s.bB s.bv
structure x7(n:Nat)(s:aw):Prop where
 rows:s.Rows.length<n
 row:∀i,LU n (s.Rows.getD i default)
theorem LV{s:aw}(h:x7 n s):uz n s=some (od s):=by
 have Z:=h.rows;unfold uz od;rw [mU (L:=zg n s) (chk:=λi=>(mp (s.Rows.getD i default).Key&&(!decide (0<(i:Int))||Op.bytesLess (s.Rows.getD (pv i) default).Key (s.Rows.getD i default).Key))&&FQ (s.Rows.getD i default) s.bB s.bv) (no:=false) (yes:=true) Z,r5]
 ·simp only [eG];cases (decide (s.bB<0)||decide (s.bv<s.bB))||decide (1099511627776<s.bv)<;>rfl
 ·intro m i hi;have aa:=(h.row i).key;simp only [zg,HR,au2,hi,auT,auV,cC hi,a6,ak,au1,ea (show i≤9223372036854775806 by omega),LK (show 24<n by omega),qQ hi (show s.Rows.length≤9223372036854775807 by omega),aqJ hn aZ (h.row i),vn,←x2]
  refine mT ?_;simp only [eG,fk];cases mp (s.Rows.getD i default).Key<;>cases decide (0<(i:Int))<;>cases Op.bytesLess (s.Rows.getD (pv i) default).Key (s.Rows.getD i default).Key<;>rfl
 ·intro m;simp only [zg,HR,OP,au6,auU,auW]
def hE(l:List aU)(at_:Int):aw:=⟨at_,at_,l.map λp=>⟨p.Key,[⟨at_,p.bj⟩]⟩⟩
def Bn(l:List aU)(at_:Int):aw×Int:=bif ((!o8 l||decide (at_<0))||decide (1099511627776<at_)) then(⟨0,0,[]⟩,1) else(hE l at_,0)
theorem aqK{l:List aU}(ab:l.length<n)(eD:l.length≤1000000000)(h:∀i,vm n (l.getD i default))(at_:Int):Ad n l at_=some (Bn l at_):=by
 unfold Ad Bn;rw [aeb hn aZ ab h,ak,aej (L:=Ac n at_ l) (g:=λa p=>a++[⟨p.Key,[⟨at_,p.bj⟩]⟩]) (I:=λi acc=>acc.length=i) (fin:=λv=>some (⟨at_,at_,v⟩,0)) ab rfl,fold_map]
 ·simp only [eG,List.nil_append];cases (!o8 l||decide (at_<0))||decide (1099511627776<at_)<;>rfl
 ·intro m acc i hi me;have:room (acc.length+1) 40=true:=jK (by omega)
  simp only [Ac,Jz,au2,hi,auT,auV,cC hi,a6,au1,ea (show i≤9223372036854775806 by omega),au4,this]
  exact⟨trivial,by simp [me]⟩
 ·intro m acc me;simp only [Ac,Jz,Qu,au6,auU,auW]
theorem aqL{l:List aU}(ab:l.length<n)(eD:l.length≤1000000000)(h:∀i,vm n (l.getD i default))(at_:Int):An n l at_=some (Bn l at_):=by
 unfold An Bn;rw [aqw hn aZ ab h,ak,aej (L:=Am n l at_) (g:=λa p=>a++[⟨p.Key,[⟨at_,p.bj⟩]⟩]) (I:=λi acc=>acc.length=i) (fin:=λv=>some (⟨at_,at_,v⟩,0)) ab rfl,fold_map]
 ·simp only [eG,List.nil_append];cases (!o8 l||decide (at_<0))||decide (1099511627776<at_)<;>rfl
 ·intro m acc i hi me;have:room (acc.length+1) 40=true:=jK (by omega)
  simp only [Am,JQ,au2,hi,auT,auV,cC hi,a6,au1,ea (show i≤9223372036854775806 by omega),au4,this]
  exact⟨trivial,by simp [me]⟩
 ·intro m acc me;simp only [Am,JQ,QI,au6,auU,auW]
end
def o9{α:Type}[Inhabited α]{P:α→Prop}{l:List α}(h:∀x∈l,P x)(h0:P default)(i:Nat):P (l.getD i default):=by
 by_cases hi:i<l.length
 ·exact h _ (FP hi)
 ·rw [List.getD_eq_getElem?_getD,List.getElem?_eq_none (by omega)];exact h0
def vp{v:bz}(h:tH v):v.S.length≤64:=by
 rcases x1 h.1 with h|h|h
 ·rw [h];simp
 ·rw [h.2];simp
 ·exact ad4 h.2.2
def Bo:eu aU:=fV (λp=>⟨p.1,p.2⟩) (dZ (eU 24) λ_=>mS)
def mr(p:aU):au':=eH p.Key++b7 p.bj
def tK(p:aU):Prop:=p.Key.length≤24∧tH p.bj
def UG:dY Bo mr tK:=
 (oc.dep λ_ _=>tI).map _ (λp=>(p.Key,p.bj)) tK mr (λb h=>⟨rfl,⟨h.1,h.2⟩,rfl⟩) (λa h=>⟨rfl,⟨h.1,h.2⟩⟩)
def Bp:eu (List aU):=mP o8 5 (jJ 2147483647 Bo)
def aqM:dY (jJ 2147483647 Bo) (eg mr) (λl=>l.length≤2147483647∧∀v∈l,tK v):=UG.vl _ (by omega) (λv _=>by unfold mr eH;simp [qM])
def LW:dY Bp (eg mr) (λl=>(l.length≤2147483647∧∀v∈l,tK v)∧o8 l=true):=aqM.chk _ _ (by omega)
def aem{n:Nat}(hn:2000≤n){p:aU}(h:tK p):vm n p:=⟨by have:=h.1;omega,by have:=vp h.2;omega⟩
def UH{n:Nat}(hn:2000≤n){l:List aU}(h:∀p∈l,tK p)(i:Nat):vm n (l.getD i default):=o9 (P:=vm n) (λx hx=>aem hn (h x hx)) ⟨by show 0<n;omega,by show 0<n;omega⟩ i
section
variable {n:Nat} (hn:2000≤n) (aZ:n≤9223372036854775808) {s:au'} (hs:s.length<min n 1000000000)
include hn aZ hs
theorem aqN{t:au'}(aF:t <:+ s):IK n s (bl s t)=some (res [] s (Bp t)):=by
 unfold IK Bp mP jJ;rw [show(2147483647:Int)=((2147483647:Nat):Int)from rfl,tJ aF (by omega) (by omega) (by omega),ak]
 cases h:iy 2147483647 t with
 |error e=>rw [qP h,fB];simp only [gf (np h),auV,fB]
 |ok r=>
  obtain⟨u,bX⟩:=r;obtain⟨Z,aa,am⟩:=oa h;have e6:bX <:+ s:=List.IsSuffix.trans ⟨eM u,Z.symm⟩ aF;have hu:=e6.length_le;rw [qO h,g_];simp only [auT,auX,auW];rw [show wY n s ((u:Int),bl s bX,0) n (bl s bX) 0 []=_ from aea (L:=λm i t acc=>wY n s ((u:Int),bl s bX,0) m (bl s t) (i:Int) acc) (D:=Bo) (u:=u) (s:=s) (fin:=λacc t=>II n (bl s t) acc) (bad:=λe=>some ([],0,e)) (λx v t hx=>UG.km hx) ?_ ?_ (by omega) e6]
  ·cases ai:ge Bo u bX with
   |error e=>rfl
   |ok r=>
    obtain⟨l,nq⟩:=r;obtain⟨g1,g2,g3⟩:=(UG.rep u).fL _ _ _ ai;simp only [II];rw [aeb hn aZ (by omega) (UH (by omega) g3),ak]
    cases o8 l<;>rfl
  ·intro m i t acc hi ha aF;simp only [wY,IJ,au2,hi,auT,auV];rw [show(24:Int)=((24:Nat):Int)from rfl,Bk aF (by omega) (by omega) (by omega),ak]
   unfold Bo fV dZ;cases aK:eU 24 t with
   |error e=>rw [fB];simp only [gf (oc.cN _ _ aK),auV]
   |ok r=>
    obtain⟨k,t1⟩:=r;rw [g_];simp only [auT,auX,auW];rw [Uz (jj oc aK aF) (by omega) (by omega),ak]
    cases bd:mS t1 with
    |error e=>rw [fB];simp only [gf (tI.cN _ _ bd),auV]
    |ok r=>
     obtain⟨v,t2⟩:=r;rw [g_];simp only [auT,auX,auW,au4];rw [jK (by omega),a6,ea (by omega)]
  ·intro m t acc ha aF;simp only [wY,IJ,au6,auU,auW]
end
def vq{α β R:Type}{D:eu α}{s:au'}{u:Nat}{f:Nat→α→β}{L:Nat→Nat→au'→List β→Option R}{fin:List β→au'→Option R}{bad:Int→Option R→Prop}
 (km:∀x v t,D x = .ok (v,t)→t <:+ x)
 (step:∀m i t acc,u<i+1+m→i<u→acc.length=i→t <:+ s→match D t with|.ok (v,bX)=>L (m+1) i t acc=L m (i+1) bX (acc++[f i v])|.error e=>bad e (L (m+1) i t acc))
 (stop:∀m t acc,acc.length=u→t <:+ s→L (m+1) u t acc=fin acc t):
 ∀k m i t acc,i+k=u→k<m→acc.length=i→t <:+ s→match ge D k t with|.ok (l,bX)=>L m i t acc=fin (acc++(l.zipIdx i).map λp=>f p.2 p.1) bX|.error e=>bad e (L m i t acc):=by
 intro k;induction k with
 |zero=>
  intro m i t acc hi hm ha aF;obtain⟨m,rfl⟩:∃j,m=j+1:=⟨m-1,by omega⟩
  obtain rfl:i=u:=by omega
  rw [stop m t acc ha aF];simp [ge]
 |succ k aM=>
  intro m i t acc hi hm ha aF;obtain⟨m,rfl⟩:∃j,m=j+1:=⟨m-1,by omega⟩
  have c_:=step m i t acc (by omega) (by omega) ha aF
  unfold ge;cases h:D t with
  |error e=>rw [h]at c_;exact c_
  |ok r=>
   obtain⟨v,bX⟩:=r;rw [h]at c_;simp only at c_ ⊢
   have:=aM m (i+1) bX (acc++[f i v]) (by omega) (by omega) (by simp [ha]) ((km _ _ _ h).trans aF)
   cases aa:ge D k bX with
   |error e=>rw [aa]at this;simp only at this ⊢;rw [c_];exact this
   |ok r=>
    obtain⟨l,nq⟩:=r;rw [aa]at this;simp only at this ⊢
    rw [c_,this];simp
def vr{α:Type}(l:List α)(i:Nat):((l.zipIdx i).map λp=>p.1)=l:=List.zipIdx_map_fst i l
def l1{α:Type}(e:Int)(x:Option (α×Int×Int)):Prop:=∃v a,x=some (v,a,e)
def Bq:eu Part:=fV (λp=>⟨p.1,p.2.1,p.2.2.1,p.2.2.2.1,p.2.2.2.2⟩) (dZ i8 λ_=>dZ (eU 24) λ_=>dZ i8 λ_=>dZ i8 λ_=>eU 24)
def x8(x:Part):au':=nm x.Id++(eH x.es++(nm x.Node++(nm x.gO++eH x.dQ)))
def tL(x:Part):Prop:=fy x.Id∧x.es.length≤24∧fy x.Node∧fy x.gO∧x.dQ.length≤24
def UI:dY Bq x8 tL:=
 (k9.dep λ_ _=>oc.dep λ_ _=>k9.dep λ_ _=>k9.dep λ_ _=>oc).map _ (λx=>(x.Id,x.es,x.Node,x.gO,x.dQ)) tL x8
  (λb h=>⟨rfl,⟨h.1,h.2.1,h.2.2.1,h.2.2.2.1,h.2.2.2.2⟩,rfl⟩) (λa h=>⟨rfl,⟨h.1,h.2.1,h.2.2.1,h.2.2.2.1,h.2.2.2.2⟩⟩)
def vt:eu cc:=mP r6 5 (fV (λp=>⟨p.1,p.2⟩) (dZ i8 λ_=>jJ 16 Bq))
def pT(p:cc):au':=nm p.Version++eg x8 p.aS
def aqO:dY (jJ 16 Bq) (eg x8) (λl=>l.length≤16∧∀v∈l,tL v):=UI.vl _ (by omega) (λv _=>by unfold x8 nm;simp [qM])
def LX:dY vt pT (λp=>(fy p.Version∧p.aS.length≤16∧∀v∈p.aS,tL v)∧r6 p=true):=
 ((k9.dep λ_ _=>aqO).map (λp=>(⟨p.1,p.2⟩:cc)) (λp:cc=>(p.Version,p.aS)) (λp=>fy p.Version∧p.aS.length≤16∧∀v∈p.aS,tL v) pT (λb h=>⟨rfl,⟨h.1,h.2⟩,rfl⟩) (λa h=>⟨rfl,⟨h.1,h.2⟩⟩)).chk _ _ (by omega)
def aqP{n:Nat}(hn:2000≤n){p:Part}(h:tL p):x5 n p:=⟨by have:=h.2.1;omega,by have:=h.2.2.2.2;omega⟩
def UJ{n:Nat}(hn:2000≤n){l:List Part}(h:∀p∈l,tL p)(i:Nat):x5 n (l.getD i default):=o9 (P:=x5 n) (λx hx=>aqP hn (h x hx)) ⟨by show 0<n;omega,by show 0<n;omega⟩ i
section
variable {n:Nat} (hn:2000≤n) (aZ:n≤9223372036854775808) {s:au'} (hs:s.length<min n 1000000000)
theorem FR{a e:Int}(he:e≠0):sQ n ⟨s,a,e⟩=some (0,a,e):=by
 unfold sQ;simp only [gf he,auV]
theorem FSb{a e:Int}(he:e≠0):w0 n ⟨s,a,e⟩=some ([],a,e):=by
 unfold w0;simp only [gf he,auV]
include hn aZ hs
theorem LY{t:au'}(aF:t <:+ s):sQ n ⟨s,bl s t,0⟩=some (res 0 s (i8 t)):=by
 unfold sQ;simp only [auT,auX,auW];rw [Uy aF (by omega) (by omega),ak]
theorem aen{t:au'}(aF:t <:+ s):w0 n ⟨s,bl s t,0⟩=some (res [] s (eU 24 t)):=by
 unfold w0;simp only [auT,auX,auW];rw [show(24:Int)=((24:Nat):Int)from rfl,Bk aF (by omega) (by omega) (by omega),ak]
theorem Br{u:Nat}(hu:u<min n 1000000000){r1:Int×Int×Int}{b:Int}{c:Int}:∀(k m i:Nat) (a e:Int) (acc:List Part),e≠0→i+k=u→k<m→acc.length=i→sR n ((u:Int),b,c) s r1 m a e acc (i:Int)=some (⟨0,[]⟩,0,e):=by
 intro k;induction k with
 |zero=>
  intro m i a e acc he hi hm ha;obtain⟨m,rfl⟩:∃j,m=j+1:=⟨m-1,by omega⟩
  obtain rfl:i=u:=by omega
  simp only [sR,zK,au6,auU,auW,Dn,IQ,he,ak,auY,auV]
 |succ k aM=>
  intro m i a e acc he hi hm ha;obtain⟨m,rfl⟩:∃j,m=j+1:=⟨m-1,by omega⟩
  simp only [sR,zK,au2,show i<u by omega,auT,auV,FR he,FSb he,ak,au4]
  rw [jK (by omega),a6,ea (by omega)]
  exact aM m (i+1) a e _ he (by omega) (by omega) (by simp [ha])
theorem aqQ{t:au'}(aF:t <:+ s):IR n s (bl s t)=some (res ⟨0,[]⟩ s (vt t)):=by
 unfold IR vt mP fV dZ jJ;rw [LY hn aZ hs aF,ak];cases h0:i8 t with
 |error e=>rw [fB];simp only [gf (k9.cN _ _ h0),auV,fB]
 |ok r=>
  obtain⟨v,t0⟩:=r;have aeo:=jj k9 h0 aF;rw [g_];simp only [auT,auX,auW];rw [show(16:Int)=((16:Nat):Int)from rfl,tJ aeo (by omega) (by omega) (by omega),ak]
  cases h:iy 16 t0 with
  |error e=>
   rw [qP h,fB];exact Br hn aZ hs (u:=0) (by omega) 0 n 0 0 e [] (np h) rfl (by omega) rfl
  |ok r=>
   obtain⟨u,bX⟩:=r;obtain⟨Z,aa,am⟩:=oa h;have e6:bX <:+ s:=List.IsSuffix.trans ⟨eM u,Z.symm⟩ aeo;have hu:=e6.length_le;rw [qO h,g_]
   have dm:=vq (L:=λm i t acc=>sR n ((u:Int),bl s bX,0) s (v,bl s t0,0) m (bl s t) 0 acc (i:Int)) (f:=λ_ v=>v) (D:=Bq) (u:=u) (s:=s) (fin:=λacc t=>Dn n s (v,bl s t0,0) (bl s t) 0 acc) (bad:=λe x=>x=some (⟨0,[]⟩,0,e)) (λx v t hx=>UI.km hx) (by
    intro m i t acc hm hi ha aF;simp only [sR,zK,au2,hi,auT,auV];rw [LY hn aZ hs aF,ak];unfold Bq fV dZ;have gu:room (acc.length+1) 56=true:=jK (by omega)
    cases g1:i8 t with
    |error e=>
     have he:=k9.cN _ _ g1;rw [fB];simp only [FR he,FSb he,ak,au4,gu,a6];rw [ea (by omega)]
     exact Br hn aZ hs (by omega) (u-(i+1)) m (i+1) _ e _ he (by omega) (by omega) (by simp [ha])
    |ok r=>
     obtain⟨gw,t1⟩:=r;have kJ:=jj k9 g1 aF;rw [g_];simp only
     rw [aen hn aZ hs kJ,ak];cases g2:eU 24 t1 with
     |error e=>
      have he:=oc.cN _ _ g2;rw [fB];simp only [FR he,FSb he,ak,au4,gu,a6];rw [ea (by omega)]
      exact Br hn aZ hs (by omega) (u-(i+1)) m (i+1) _ e _ he (by omega) (by omega) (by simp [ha])
     |ok r=>
      obtain⟨gW,t2⟩:=r;have kc:=jj oc g2 kJ;rw [g_];simp only
      rw [LY hn aZ hs kc,ak];cases g3:i8 t2 with
      |error e=>
       have he:=k9.cN _ _ g3;rw [fB];simp only [FR he,FSb he,ak,au4,gu,a6];rw [ea (by omega)]
       exact Br hn aZ hs (by omega) (u-(i+1)) m (i+1) _ e _ he (by omega) (by omega) (by simp [ha])
      |ok r=>
       obtain⟨nj,t3⟩:=r;have FT:=jj k9 g3 kc;rw [g_];simp only
       rw [LY hn aZ hs FT,ak];cases g4:i8 t3 with
       |error e=>
        have he:=k9.cN _ _ g4;rw [fB];simp only [FR he,FSb he,ak,au4,gu,a6];rw [ea (by omega)]
        exact Br hn aZ hs (by omega) (u-(i+1)) m (i+1) _ e _ he (by omega) (by omega) (by simp [ha])
       |ok r=>
        obtain⟨gl,t4⟩:=r;have LZ:=jj k9 g4 FT;rw [g_];simp only
        rw [aen hn aZ hs LZ,ak];cases g5:eU 24 t4 with
        |error e=>
         have he:=oc.cN _ _ g5;rw [fB];simp only [au4,gu,a6];rw [ea (by omega)]
         exact Br hn aZ hs (by omega) (u-(i+1)) m (i+1) _ e _ he (by omega) (by omega) (by simp [ha])
        |ok r=>
         obtain⟨nM,t5⟩:=r;rw [g_];simp only [au4,gu,a6];rw [ea (by omega)]) (by
    intro m t acc ha aF;simp only [sR,zK,au6,auU,auW]) u n 0 bX [] (by omega) (by omega) rfl e6
   cases ai:ge Bq u bX with
   |error e=>rw [ai]at dm;simp only [ai]at dm ⊢;exact dm
   |ok r=>
    obtain⟨l,nq⟩:=r;rw [ai]at dm;simp only [List.nil_append,vr,ai]at dm ⊢;refine dm.trans ?_;obtain⟨g1,g2,g3⟩:=(UI.rep u).fL _ _ _ ai;simp only [Dn,auT,auV];rw [aei hn aZ (p:=⟨v,l⟩) (by show l.length<n;omega) (UJ (by omega) g3),ak]
    cases r6 ⟨v,l⟩<;>rfl
end
def x9:eu Outcome:=fV (λp=>⟨p.1,p.2.1,p.2.2⟩) (dZ (ob 0 9999) λ_=>dZ (ob 0 9999) λ_=>jJ 16 mS)
def x'(o:Outcome):au':=jI o.Status++(jI o.Code++eg b7 o.Out)
def tM(o:Outcome):Prop:=(0≤o.Status∧o.Status≤9999)∧(0≤o.Code∧o.Code≤9999)∧o.Out.length≤16∧∀v∈o.Out,tH v
def n99:dY (ob 0 9999) jI (λz=>0≤z∧z≤9999):=Uw (by omega) (by omega)
def n32:dY (ob 1 32) jI (λz=>1≤z∧z≤32):=Uw (by omega) (by omega)
def n40:dY (ob 1 1099511627776) jI (λz=>1≤z∧z≤1099511627776):=Uw (by omega) (by omega)
def aep(k:Nat)(hk:k<18446744073709551616):dY (jJ k mS) (eg b7) (λl=>l.length≤k∧∀v∈l,tH v):=tI.vl _ hk (λv _=>ap' v)
def UK:dY x9 x' tM:=
 (n99.dep λ_ _=>n99.dep λ_ _=>aep 16 (by omega)).map (λp=>(⟨p.1,p.2.1,p.2.2⟩:Outcome)) (λo:Outcome=>(o.Status,o.Code,o.Out)) tM x'
  (λb h=>⟨rfl,⟨h.1,h.2.1,h.2.2⟩,rfl⟩) (λa h=>⟨rfl,⟨h.1,h.2.1,h.2.2⟩⟩)
def Bs(c fv k:Int)(l:List Outcome):List fg:=(l.zipIdx 0).map λp=>⟨c,ava (fv-ava (k-(p.2:Int))),p.1⟩
def L0(c fv k:Int)(l:List Outcome):(Bs c fv k l).map (·.Outcome)=l:=by
 unfold Bs;rw [List.map_map];exact vr l 0
def UL{fv:Int}(h:1≤fv∧fv≤1099511627776):0≤nr fv∧nr fv≤8∧nr fv≤fv-1:=by
 unfold nr;rw [wr (x:=fv-1) (by omega) (by omega)]
 by_cases d':fv-1<8
 ·rw [decide_eq_true d',auV];omega
 ·rw [decide_eq_false d',auW];omega
def vu:eu b_:=fV (λp=>⟨p.1,p.2.1,Bs p.1 p.2.1 (nr p.2.1) p.2.2⟩) (dZ (ob 1 32) λ_=>dZ (ob 1 1099511627776) λfv=>ge x9 (nr fv).toNat)
def mV(s:b_):au':=jI s.Client++(jI s.Next++ht x' (s.cZ.map (·.Outcome)))
def vv(s:b_):Prop:=(1≤s.Client∧s.Client≤32)∧(1≤s.Next∧s.Next≤1099511627776)∧s.cZ=Bs s.Client s.Next (nr s.Next) (s.cZ.map (·.Outcome))∧(s.cZ.map (·.Outcome)).length=(nr s.Next).toNat∧∀o∈s.cZ.map (·.Outcome),tM o
def L1:dY vu mV vv:=
 (n32.dep λ_ _=>n40.dep λfv _=>UK.rep (nr fv).toNat).map (λp=>(⟨p.1,p.2.1,Bs p.1 p.2.1 (nr p.2.1) p.2.2⟩:b_)) (λs:b_=>(s.Client,s.Next,s.cZ.map (·.Outcome))) vv mV
  (λb h=>⟨by simp only;rw [←h.2.2.1],⟨h.1,h.2.1,h.2.2.2.1,h.2.2.2.2⟩,rfl⟩) (λa h=>⟨by simp only [L0],⟨h.1,h.2.1,by simp only [L0],by simp only [L0];exact h.2.2.1,by simp only [L0];exact h.2.2.2⟩⟩)
def vw:eu (List b_):=mP r7 5 (jJ 32 vu)
def aqR:dY (jJ 32 vu) (eg mV) (λl=>l.length≤32∧∀v∈l,vv v):=L1.vl _ (by omega) (λv _=>by unfold mV jI;simp [qM])
def L2:dY vw (eg mV) (λl=>(l.length≤32∧∀v∈l,vv v)∧r7 l=true):=aqR.chk _ _ (by omega)
def aeq{n:Nat}(hn:2000≤n){o:Outcome}(h:tM o):FN n o:=
 ⟨by have:=h.2.2.1;omega,λi=>o9 (P:=λv:bz=>v.S.length<n) (λx hx=>by have:=vp (h.2.2.2 x hx);omega) (by show 0<n;omega) i⟩
def aqS{n:Nat}(hn:2000≤n){s:b_}(h:vv s):x6 n s:=by
 have hk:=UL h.2.1;have ab:s.cZ.length=(nr s.Next).toNat:=by have:=h.2.2.2.1;simpa using this
 refine⟨by omega,λi=>o9 (P:=λr:fg=>FN n r.Outcome) (λx hx=>aeq hn (h.2.2.2.2 _ (List.mem_map_of_mem hx))) ?_ i⟩
 refine aeq hn ?_;refine⟨by show(0:Int)≤0∧(0:Int)≤9999;omega,by show(0:Int)≤0∧(0:Int)≤9999;omega,by show([]:List bz).length≤16;simp,λv au=>by cases au⟩
def FU{n:Nat}(hn:2000≤n){l:List b_}(h:∀s∈l,vv s)(i:Nat):x6 n (l.getD i default):=by
 refine o9 (P:=x6 n) (λx hx=>aqS hn (h x hx)) ⟨by show([]:List fg).length<n;simp;omega,λi=>⟨?_,λi=>?_⟩⟩ i
 ·show((([]:List fg).getD i default).Outcome).Out.length<n
  show([]:List bz).length<n
  simp;omega
 ·show((((([]:List fg).getD _ default).Outcome).Out).getD i default).S.length<n
  show 0<n
  omega
section
variable {n:Nat} (hn:2000≤n) (aZ:n≤9223372036854775808) {s:au'} (hs:s.length<min n 1000000000)
theorem aer{lo hi a e:Int}(he:e≠0):sV n lo hi ⟨s,a,e⟩=some (0,a,e):=by
 unfold sV;simp only [gf he,auV]
include hn aZ hs
theorem L3{lo hi:Int}(h0:0≤lo)(Z:hi≤9223372036854775807){t:au'}(aF:t <:+ s):sV n lo hi ⟨s,bl s t,0⟩=some (match ob lo hi t with|.ok (v,bX)=>(v,bl s bX,0)|.error e=>(0,bl s t,e)):=by
 unfold sV ob mP;simp only [auT,auX,auW];rw [Bj aF (by omega) (by omega),ak]
 cases h:ix t with
 |error e=>
  have he:¬ e=0:=mR.cN _ _ h;rw [fB];simp only [he,auU,auW,zS,auY,auV]
 |ok r=>
  obtain⟨u,bX⟩:=r;have hu:=(mR.fL _ _ _ h).2;unfold h2 at hu;rw [g_];simp only [auT,auV];by_cases hb:lo≤u∧u≤hi
  ·simp only [show¬ u<lo by omega,show¬ hi<u by omega,hb.1,hb.2,auT,auU,auW,Bool.and_self,au8,zS,auX,wr (x:=u) (by omega) (by omega)]
  ·have:(bif (decide (u<lo))then true else(decide (hi<u)))=true:=by
    rw [eG,←Bool.decide_or];exact decide_eq_true (by omega)
   have aa:(decide (lo≤u)&&decide (u≤hi))=false:=by
    rw [←Bool.decide_and];exact decide_eq_false hb
   simp only [this,auV,aa,Bool.false_eq_true,au9,zS,show¬ (5:Int)=0 by omega,auU,auY]
theorem aqT{t:au'}(aF:t <:+ s):match x9 t with|.ok (o,bX)=>Dp n ⟨s,bl s t,0⟩=some (o,bl s bX,0)|.error e=>l1 e (Dp n ⟨s,bl s t,0⟩):=by
 unfold Dp x9 fV dZ;rw [L3 hn aZ hs (by omega) (by omega) aF,ak]
 cases g1:ob 0 9999 t with
 |error e=>
  have he:=n99.cN _ _ g1;simp only [aer he,ak];rw [show(!decide (e=0))=true from gf he]
  exact⟨_,_,rfl⟩
 |ok r=>
  obtain⟨gw,t1⟩:=r;have kJ:=jj n99 g1 aF;simp only
  rw [L3 hn aZ hs (by omega) (by omega) kJ,ak]
  cases g2:ob 0 9999 t1 with
  |error e=>
   have he:=n99.cN _ _ g2;simp only
   rw [show(!decide (e=0))=true from gf he]
   exact⟨_,_,rfl⟩
  |ok r=>
   obtain⟨gW,t2⟩:=r;have kc:=jj n99 g2 kJ;simp only [auT,auX,auW];rw [show(16:Int)=((16:Nat):Int)from rfl,tJ kc (by omega) (by omega) (by omega),ak]
   unfold jJ;obtain⟨r8,rfl⟩:∃k,n=k+1:=⟨n-1,by omega⟩
   cases h:iy 16 t2 with
   |error e=>
    have he:=np h;rw [qP h,fB];simp only [uI,zT,au6,auU,auW,Do];exact⟨_,_,rfl⟩
   |ok r=>
    obtain⟨u,bX⟩:=r;obtain⟨Z,aa,am⟩:=oa h;have e6:bX <:+ s:=List.IsSuffix.trans ⟨eM u,Z.symm⟩ kc;have hu:=e6.length_le;rw [qO h,g_];generalize bl s t=A
    have dm:=vq (L:=λm i t acc=>uI (r8+1) ((u:Int),bl s bX,0) ⟨s,A,0⟩ (gw,bl s t1,0) (gW,bl s t2,0) m (bl s t) 0 acc (i:Int)) (f:=λ_ v=>v) (D:=mS) (u:=u) (s:=s) (fin:=λacc t=>some (⟨gw,gW,acc⟩,bl s t,0)) (bad:=λe x=>l1 e x) (λx v t hx=>tI.km hx) (by
     intro m i t acc hm hi ha aF;simp only [uI,zT,au2,hi,auT,auV];rw [Uz aF (by omega) (by omega),ak]
     have gu:room (acc.length+1) 32=true:=jK (by omega)
     cases g3:mS t with
     |error e=>
      have he:¬ e=0:=tI.cN _ _ g3;rw [fB];simp only [au4,gu,a6];obtain⟨m,rfl⟩:∃j,m=j+1:=⟨m-1,by omega⟩
      simp only [uI,zT,he,auU,fk,Bool.and_false,auW,Do];exact⟨_,_,rfl⟩
     |ok r=>
      obtain⟨v,t3⟩:=r;rw [g_];simp only [au4,gu,a6];rw [ea (by omega)]) (by
     intro m t acc ha aF;simp only [uI,zT,au6,auU,auW,Do]) u (r8+1) 0 bX [] (by omega) (by omega) rfl e6
    cases ai:ge mS u bX with
    |error e=>rw [ai]at dm;simp only [ai]at dm ⊢;exact dm
    |ok r=>
     obtain⟨l,nq⟩:=r;rw [ai]at dm;simp only [List.nil_append,vr,ai]at dm ⊢;exact dm
theorem aqU{t:au'}(aF:t <:+ s):match vu t with|.ok (o,bX)=>Dr n ⟨s,bl s t,0⟩=some (o,bl s bX,0)|.error e=>l1 e (Dr n ⟨s,bl s t,0⟩):=by
 unfold Dr vu fV dZ;rw [L3 hn aZ hs (by omega) (by omega) aF,ak]
 cases g1:ob 1 32 t with
 |error e=>
  have he:=n32.cN _ _ g1;simp only [aer he,ak];rw [show(!decide (e=0))=true from gf he]
  exact⟨_,_,rfl⟩
 |ok r=>
  obtain⟨gw,t1⟩:=r;have kJ:=jj n32 g1 aF;simp only
  rw [L3 hn aZ hs (by omega) (by omega) kJ,ak]
  cases g2:ob 1 1099511627776 t1 with
  |error e=>
   have he:=n40.cN _ _ g2;simp only
   rw [show(!decide (e=0))=true from gf he]
   exact⟨_,_,rfl⟩
  |ok r=>
   obtain⟨gW,t2⟩:=r;have kc:=jj n40 g2 kJ;have l8:=(n40.fL _ _ _ g2).2;have hk:=UL l8;simp only [auT,auX,auW];rw [show C7 n gW=some (nr gW)from rfl,ak]
   obtain⟨u,hu⟩:=Int.eq_ofNat_of_zero_le hk.1
   (rw [hu];simp only [au1])
   generalize bl s t=A
   have dm:=vq (L:=λm i t acc=>w5 n (u:Int) ⟨s,A,0⟩ (gw,bl s t1,0) (gW,bl s t2,0) m (bl s t) 0 acc (i:Int)) (f:=λi v=>(⟨gw,ava (gW-ava ((u:Int)-(i:Int))),v⟩:fg)) (D:=x9) (u:=u) (s:=s) (fin:=λacc t=>some (⟨gw,gW,acc⟩,bl s t,0)) (bad:=λe x=>l1 e x) (λx v t hx=>UK.km hx) (by
    intro m i t acc hm hi ha aF;have ay:=aqT hn aZ hs aF;simp only [w5,Dq,au2,hi,auT,auV];have gu:room (acc.length+1) 56=true:=jK (by omega)
    cases g3:x9 t with
    |error e=>
     have he:¬ e=0:=UK.cN _ _ g3;rw [g3]at ay;obtain⟨v,a,ay⟩:=ay;rw [ay,ak];simp only [au4,gu,a6];obtain⟨m,rfl⟩:∃j,m=j+1:=⟨m-1,by omega⟩
     simp only [w5,Dq,he,auU,fk,Bool.and_false,auW,IX];exact⟨_,_,rfl⟩
    |ok r=>
     obtain⟨v,t3⟩:=r;rw [g3]at ay;simp only at ay ⊢
     rw [ay,ak];simp only [au4,gu,a6];rw [ea (by omega)]) (by
    intro m t acc ha aF;simp only [w5,Dq,au6,auU,auW,IX]) u n 0 t2 [] (by omega) (by omega) rfl kc
   cases ai:ge x9 u t2 with
   |error e=>rw [ai]at dm;simp only [ai]at dm ⊢;exact dm
   |ok r=>
    obtain⟨l,nq⟩:=r;rw [ai]at dm;simp only [List.nil_append,ai]at dm ⊢;simp only [Bs,hu];exact dm
theorem aqV{t:au'}(aF:t <:+ s):IY n s (bl s t)=some (res [] s (vw t)):=by
 unfold IY vw mP jJ;rw [show(32:Int)=((32:Nat):Int)from rfl,tJ aF (by omega) (by omega) (by omega),ak]
 cases h:iy 32 t with
 |error e=>rw [qP h,fB];simp only [gf (np h),auV,fB]
 |ok r=>
  obtain⟨u,bX⟩:=r;obtain⟨Z,aa,am⟩:=oa h;have e6:bX <:+ s:=List.IsSuffix.trans ⟨eM u,Z.symm⟩ aF;have hu:=e6.length_le;rw [qO h,g_];simp only [auT,auX,auW]
  have dm:=vq (L:=λm i t acc=>w6 n ((u:Int),bl s bX,0) s m (bl s t) 0 acc (i:Int)) (f:=λ_ v=>v) (D:=vu) (u:=u) (s:=s) (fin:=λacc t=>Ds n s (bl s t) 0 acc) (bad:=λe x=>x=some ([],0,e)) (λx v t hx=>L1.km hx) (by
   intro m i t acc hm hi ha aF;have ay:=aqU hn aZ hs aF;simp only [w6,Dt,au2,hi,auT,auV];have gu:room (acc.length+1) 40=true:=jK (by omega)
   cases g3:vu t with
   |error e=>
    have he:¬ e=0:=L1.cN _ _ g3;rw [g3]at ay;obtain⟨v,a,ay⟩:=ay;rw [ay,ak];simp only [au4,gu,a6];obtain⟨m,rfl⟩:∃j,m=j+1:=⟨m-1,by omega⟩
    simp only [w6,Dt,he,auU,fk,Bool.and_false,auW,Ds,auY,auV]
   |ok r=>
    obtain⟨v,t3⟩:=r;rw [g3]at ay;simp only at ay ⊢
    rw [ay,ak];simp only [au4,gu,a6];rw [ea (by omega)]) (by
   intro m t acc ha aF;simp only [w6,Dt,au6,auU,auW]) u n 0 bX [] (by omega) (by omega) rfl e6
  cases ai:ge vu u bX with
  |error e=>rw [ai]at dm;simp only [ai]at dm ⊢;exact dm
  |ok r=>
   obtain⟨l,nq⟩:=r;rw [ai]at dm;simp only [List.nil_append,vr,ai]at dm ⊢;refine dm.trans ?_;obtain⟨g1,g2,g3⟩:=(L1.rep u).fL _ _ _ ai;simp only [Ds,auT,auX,auW];rw [UF hn aZ (by omega) (FU hn g3),ak]
   cases r7 l<;>rfl
end
abbrev kK:=List au'
def x_:eu kK:=jJ 64 (eU 24)
def aes(s:au'):eH s≠[]:=by unfold eH;simp [qM]
def ya:dY x_ (eg eH) (λl=>l.length≤64∧∀v∈l,v.length≤24):=oc.vl _ (by omega) (λv _=>aes v)
def UM(b:Bool):eu (kK×kK):=if b then dZ x_ λ_=>x_ else Uv ([],[])
def vx(b:Bool)(p:kK×kK):au':=if b then eg eH p.1++eg eH p.2 else[]
def UN(b:Bool)(p:kK×kK):Prop:=if b then(p.1.length≤64∧∀v∈p.1,v.length≤24)∧(p.2.length≤64∧∀v∈p.2,v.length≤24)else p=([],[])
def aqW:∀b,dY (UM b) (vx b) (UN b)
 |true=>ya.dep λ_ _=>ya
 |false=>ad3 ([],[])
abbrev aet:=Int×Int×au'×List bz×Bool×(kK×kK)
def UO:eu aet:=dZ ix λ_=>dZ ix λ_=>dZ (eU 16) λ_=>dZ (jJ 6 mS) λ_=>dZ r4 λb=>UM b
def oe(p:aet):Request:=⟨p.1,p.2.1,p.2.2.1,p.2.2.2.1,p.2.2.2.2.1,⟨false,p.2.2.2.2.2.1,p.2.2.2.2.2.2⟩⟩
def qR(r:Request):Prop:=h2 r.Client∧h2 r.Seq∧r.bb.length≤16∧(r.ax.length≤6∧∀v∈r.ax,tH v)∧UN r.fE (r.bU.Reads,r.bU.dI)∧r.bU.fh=false
def k_(r:Request):au':=jI r.Client++(jI r.Seq++(eH r.bb++(eg b7 r.ax++(x0 r.fE++vx r.fE (r.bU.Reads,r.bU.dI)))))
def L4:dY (eU 16) eH (λs=>s.length≤16):=tG 16 (by omega)
def aqX:dY (fV oe UO) k_ qR:=
 (mR.dep λ_ _=>mR.dep λ_ _=>L4.dep λ_ _=>(aep 6 (by omega)).dep λ_ _=>Uu.dep λb _=>aqW b).map oe (λr=>(r.Client,r.Seq,r.bb,r.ax,r.fE,(r.bU.Reads,r.bU.dI))) qR k_
  (λr h=>⟨by obtain⟨a,b,c,d,e,f,g,i⟩:=r;have:f=false:=h.2.2.2.2.2;subst this;rfl,⟨h.1,h.2.1,h.2.2.1,h.2.2.2.1,trivial,h.2.2.2.2.1⟩,rfl⟩) (λa h=>⟨rfl,⟨h.1,h.2.1,h.2.2.1,h.2.2.2.1,h.2.2.2.2.2,rfl⟩⟩)
def yb(r:Request):Bool:=(decide (r.Client≤32)&&decide (r.Seq≤1099511627776))&&decide (x4 r=0)
def yc:eu Request:=mP yb 5 (fV oe UO)
def UP:dY yc k_ (λr=>qR r∧yb r=true):=aqX.chk _ _ (by omega)
def pU:eu (List Request):=jJ 64 yc
def L5:dY pU (eg k_) (λl=>l.length≤64∧∀v∈l,qR v∧yb v=true):=UP.vl _ (by omega) (λv _=>by unfold k_ jI;simp [qM])
def yd:eu (List bg):=jJ 32 (fV (λp=>⟨p.1,p.2⟩) (dZ (eU 24) λ_=>i8))
def o_(h:bg):au':=eH h.Key++nm h.Count
def UQ:dY (fV (λp=>(⟨p.1,p.2⟩:bg)) (dZ (eU 24) λ_=>i8)) o_ (λh=>h.Key.length≤24∧fy h.Count):=
 (oc.dep λ_ _=>k9).map (λp=>(⟨p.1,p.2⟩:bg)) (λh:bg=>(h.Key,h.Count)) _ o_ (λb h=>⟨rfl,⟨h.1,h.2⟩,rfl⟩) (λa h=>⟨rfl,⟨h.1,h.2⟩⟩)
def aqY:dY yd (eg o_) (λl=>l.length≤32∧∀h∈l,h.Key.length≤24∧fy h.Count):=UQ.vl _ (by omega) (λv _=>by unfold o_ eH;simp [qM])
def L6:dY (eU 16384) eH (λs=>s.length≤16384):=tG 16384 (by omega)
def UR:eu kK:=jJ 16 (eU 16384)
def aqZ:dY UR (eg eH) (λl=>l.length≤16∧∀s∈l,s.length≤16384):=L6.vl _ (by omega) (λv _=>aes v)
def FV{n:Nat}(hn:2000≤n){r:Request}(h:qR r):vo n r:=by
 have bd:=h.2.2.2.2.1
 have hk:(r.bU.Reads.length≤64∧∀v∈r.bU.Reads,v.length≤24)∧(r.bU.dI.length≤64∧∀v∈r.bU.dI,v.length≤24):=by
  unfold UN at bd;cases hd:r.fE
  ·rw [hd]at bd;simp only [Bool.false_eq_true,au9,Prod.mk.injEq]at bd;rw [bd.1,bd.2];simp
  ·rw [hd]at bd;exact bd
 have hd:∀l:kK,(∀v∈l,v.length≤24)→∀i,(l.getD i default).length<n:=λl ab i=>o9 (P:=λv:au'=>v.length<n) (λx hx=>by have:=ab x hx;omega) (by show 0<n;omega) i
 exact⟨by have:=h.2.2.1;omega,by have:=h.2.2.2.1.1;omega,λi=>o9 (P:=λv:bz=>v.S.length<n) (λx hx=>by have:=vp (h.2.2.2.1.2 x hx);omega) (by show 0<n;omega) i,by have:=hk.1.1;omega,by have:=hk.2.1;omega,by have:=hk.1.1;omega,by have:=hk.2.1;omega,hd _ hk.1.2,hd _ hk.2.2⟩
abbrev FW:Request:=⟨0,0,[],[],false,⟨false,[],[]⟩⟩
section
variable {n:Nat} (hn:2000≤n) (aZ:n≤9223372036854775808) {s:au'} (hs:s.length<min n 1000000000)
theorem US{a e:Int}(he:e≠0):w3 n ⟨s,a,e⟩=some (0,a,e):=by unfold w3;simp only [gf he,auV]
theorem L7{k a e:Int}(he:e≠0):w1 n k ⟨s,a,e⟩=some (0,a,e):=by unfold w1;simp only [gf he,auV]
theorem aq0{a e:Int}(he:e≠0):zM n ⟨s,a,e⟩=some (false,a,e):=by unfold zM;simp only [gf he,auV]
theorem L8{k a e:Int}(he:e≠0):w2 n k ⟨s,a,e⟩=some ([],a,e):=by unfold w2;simp only [gf he,auV]
theorem aq1{a e:Int}(he:e≠0):zO n ⟨s,a,e⟩=some (⟨0,0,[]⟩,a,e):=by unfold zO;simp only [gf he,auV]
include hn aZ hs
theorem aeu{t:au'}(aF:t <:+ s):w3 n ⟨s,bl s t,0⟩=some (res 0 s (ix t)):=by
 unfold w3 qt;simp only [auT,auX,auW];rw [Bj aF (by omega) (by omega),ak,ak]
theorem aev{k:Nat}(hk:k≤1000){t:au'}(aF:t <:+ s):w1 n (k:Int) ⟨s,bl s t,0⟩=some (res 0 s (qN k t)):=by
 unfold w1 qt;simp only [auT,auX,auW];rw [tJ aF (by omega) (by omega) (by omega),ak,ak]
theorem aq2{t:au'}(aF:t <:+ s):zM n ⟨s,bl s t,0⟩=some (res false s (r4 t)):=by
 unfold zM qt;simp only [auT,auX,auW];rw [aqp aF (by omega),ak,ak]
theorem aew{k:Nat}(hk:k≤1000){t:au'}(aF:t <:+ s):w2 n (k:Int) ⟨s,bl s t,0⟩=some (res [] s (eU k t)):=by
 unfold w2 qt;simp only [auT,auX,auW];rw [Bk aF (by omega) (by omega) (by omega),ak,ak]
theorem aq3{t:au'}(aF:t <:+ s):zO n ⟨s,bl s t,0⟩=some (res ⟨0,0,[]⟩ s (mS t)):=by
 unfold zO qt;simp only [auT,auX,auW];rw [Uz aF (by omega) (by omega),ak,ak]
theorem UT{u:Nat}(hu:u<min n 1000000000){b c:Int}{B:h8}(dg:B.s=s):∀(k m i:Nat) (a e:Int) (acc:kK),e≠0→i+k=u→k<m→acc.length=i→l1 e (sS n ((u:Int),b,c) B m a e acc (i:Int)):=by
 intro k;induction k with
 |zero=>
  intro m i a e acc he hi hm ha;obtain⟨m,rfl⟩:∃j,m=j+1:=⟨m-1,by omega⟩
  obtain rfl:i=u:=by omega
  simp only [sS,zN,au6,auU,auW,IT];exact⟨_,_,rfl⟩
 |succ k aM=>
  intro m i a e acc he hi hm ha;obtain⟨m,rfl⟩:∃j,m=j+1:=⟨m-1,by omega⟩
  simp only [sS,zN,au2,show i<u by omega,auT,auV,L8 he,ak,au4]
  rw [jK (by omega),a6,ea (by omega)]
  exact aM m (i+1) a e _ he (by omega) (by omega) (by simp [ha])
theorem aex{t:au'}(aF:t <:+ s):match x_ t with|.ok (l,bX)=>uH n ⟨s,bl s t,0⟩=some (l,bl s bX,0)|.error e=>l1 e (uH n ⟨s,bl s t,0⟩):=by
 unfold uH x_ jJ;rw [show(64:Int)=((64:Nat):Int)from rfl,aev hn aZ hs (by omega) aF,ak]
 generalize bl s t=A
 cases h:iy 64 t with
 |error e=>
  rw [qP h,fB];exact UT hn aZ hs (u:=0) (by omega) (B:=⟨s,A,0⟩) rfl 0 n 0 0 e [] (np h) rfl (by omega) rfl
 |ok r=>
  obtain⟨u,bX⟩:=r;obtain⟨Z,aa,am⟩:=oa h;have e6:bX <:+ s:=List.IsSuffix.trans ⟨eM u,Z.symm⟩ aF;have hu:=e6.length_le;rw [qO h,g_]
  have dm:=vq (L:=λm i t acc=>sS n ((u:Int),bl s bX,0) ⟨s,A,0⟩ m (bl s t) 0 acc (i:Int)) (f:=λ_ v=>v) (D:=eU 24) (u:=u) (s:=s) (fin:=λacc t=>some (acc,bl s t,0)) (bad:=λe x=>l1 e x) (λx v t hx=>oc.km hx) (by
   intro m i t acc hm hi ha aF;simp only [sS,zN,au2,hi,auT,auV];rw [show(24:Int)=((24:Nat):Int)from rfl,aew hn aZ hs (by omega) aF,ak]
   have gu:room (acc.length+1) 16=true:=jK (by omega)
   cases g3:eU 24 t with
   |error e=>
    have he:=oc.cN _ _ g3;rw [fB];simp only [au4,gu,a6];rw [ea (by omega)]
    exact UT hn aZ hs (by omega) (B:=⟨s,A,0⟩) rfl (u-(i+1)) m (i+1) _ e _ he (by omega) (by omega) (by simp [ha])
   |ok r=>
    obtain⟨v,t3⟩:=r;rw [g_];simp only [au4,gu,a6];rw [ea (by omega)]) (by
   intro m t acc ha aF;simp only [sS,zN,au6,auU,auW,IT]) u n 0 bX [] (by omega) (by omega) rfl e6
  cases ai:ge (eU 24) u bX with
  |error e=>rw [ai]at dm;simp only [ai]at dm ⊢;exact dm
  |ok r=>
   obtain⟨l,nq⟩:=r;rw [ai]at dm;simp only [List.nil_append,vr,ai]at dm ⊢;exact dm
theorem aq4{a e:Int}(he:e≠0):l1 e (uH n ⟨s,a,e⟩):=by
 unfold uH;rw [L7 he,ak];exact UT hn aZ hs (u:=0) (by omega) (B:=⟨s,a,e⟩) rfl 0 n 0 a e [] he rfl (by omega) rfl
theorem aq5{r1 r2:Int×Int×Int}{r3:au'×Int×Int}{a e:Int}{l:List bz}(he:e≠0):zP n r1 r2 s r3 a e l=some (FW,0,e):=by
 unfold zP;rw [aq0 he,ak];simp only [auW,sT,gf he,auV]
theorem FX{u:Nat}(hu:u<min n 1000000000){b c:Int}{r1 r2:Int×Int×Int}{r3:au'×Int×Int}:∀(k m i:Nat) (a e:Int) (acc:List bz),e≠0→i+k=u→k<m→acc.length=i→sU n r1 r2 ((u:Int),b,c) s r3 m a e acc (i:Int)=some (FW,0,e):=by
 intro k;induction k with
 |zero=>
  intro m i a e acc he hi hm ha;obtain⟨m,rfl⟩:∃j,m=j+1:=⟨m-1,by omega⟩
  obtain rfl:i=u:=by omega
  simp only [sU,zQ,au6,auU,auW];exact aq5 hn aZ hs he
 |succ k aM=>
  intro m i a e acc he hi hm ha;obtain⟨m,rfl⟩:∃j,m=j+1:=⟨m-1,by omega⟩
  simp only [sU,zQ,au2,show i<u by omega,auT,auV,aq1 he,ak,au4]
  rw [jK (by omega),a6,ea (by omega)]
  exact aM m (i+1) a e _ he (by omega) (by omega) (by simp [ha])
theorem aey{r1 r2:Int×Int×Int}{r3:au'×Int×Int}{l:List bz}{r24:Bool×Int×Int}{t:au'}{ks ws:kK}(Z:h2 r1.1)(aa:h2 r2.1)(ao:vo n (oe (r1.1,r2.1,r3.1,l,r24.1,(ks,ws)))):
 sT n r1 r2 s r3 l r24 (bl s t) 0 ks ws=some (res FW s (if yb (oe (r1.1,r2.1,r3.1,l,r24.1,(ks,ws)))then .ok (oe (r1.1,r2.1,r3.1,l,r24.1,(ks,ws)),t)else .error 5)):=by
 unfold sT yb;unfold h2 at Z aa;simp only [auT,auX,auW];by_cases hb:r1.1≤32∧r2.1≤1099511627776
 ·simp only [show¬ 32<r1.1 by omega,show¬ 1099511627776<r2.1 by omega,auU,auW,wr (x:=r1.1) (by omega) (by omega),wr (x:=r2.1) (by omega) (by omega)]
  rw [show rx n ⟨r1.1,r2.1,r3.1,l,r24.1,⟨false,ks,ws⟩⟩=some (x4 (oe (r1.1,r2.1,r3.1,l,r24.1,(ks,ws))))from UB hn aZ ao,ak]
  rw [show decide ((oe (r1.1,r2.1,r3.1,l,r24.1,(ks,ws))).Client≤32)=true from decide_eq_true hb.1,show decide ((oe (r1.1,r2.1,r3.1,l,r24.1,(ks,ws))).Seq≤1099511627776)=true from decide_eq_true hb.2]
  by_cases au:x4 (oe (r1.1,r2.1,r3.1,l,r24.1,(ks,ws)))=0
  ·simp only [au,auT,auX,auW,Bool.and_self,au8];rfl
  ·simp only [au,auU,auY,auV,Bool.and_false,Bool.false_eq_true,au9];rfl
 ·have am:(bif (decide (32<r1.1))then true else(decide (1099511627776<r2.1)))=true:=by
   rw [eG,←Bool.decide_or];exact decide_eq_true (by omega)
  have aK:(decide ((oe (r1.1,r2.1,r3.1,l,r24.1,(ks,ws))).Client≤32)&&decide ((oe (r1.1,r2.1,r3.1,l,r24.1,(ks,ws))).Seq≤1099511627776))=false:=by
   rw [←Bool.decide_and];exact decide_eq_false hb
  simp only [am,aK,auV,Bool.false_and,Bool.false_eq_true,au9];rfl
theorem aq6{t:au'}(aF:t <:+ s):IU n s (bl s t)=some (res FW s (yc t)):=by
 unfold IU yc mP fV UO dZ;rw [aeu hn aZ hs aF,ak];cases g1:ix t with
 |error e=>
  have he:=mR.cN _ _ g1;rw [fB];simp only [US he,L8 he,L7 he,ak];exact FX hn aZ hs (u:=0) (by omega) 0 n 0 _ e [] he rfl (by omega) rfl
 |ok r=>
  obtain⟨gw,t1⟩:=r;have kJ:=jj mR g1 aF;have BN:=(mR.fL _ _ _ g1).2;rw [g_];simp only
  rw [aeu hn aZ hs kJ,ak];cases g2:ix t1 with
  |error e=>
   have he:=mR.cN _ _ g2;rw [fB];simp only [US he,L8 he,L7 he,ak];exact FX hn aZ hs (u:=0) (by omega) 0 n 0 _ e [] he rfl (by omega) rfl
  |ok r=>
   obtain⟨gW,t2⟩:=r;have kc:=jj mR g2 kJ;have l8:=(mR.fL _ _ _ g2).2;rw [g_];simp only
   rw [show(16:Int)=((16:Nat):Int)from rfl,aew hn aZ hs (by omega) kc,ak]
   cases g3:eU 16 t2 with
   |error e=>
    have he:=L4.cN _ _ g3;rw [fB];simp only [US he,L8 he,L7 he,ak];exact FX hn aZ hs (u:=0) (by omega) 0 n 0 _ e [] he rfl (by omega) rfl
   |ok r=>
    obtain⟨nj,t3⟩:=r;have FT:=jj L4 g3 kc;have aez:=(L4.fL _ _ _ g3).2;rw [g_];simp only
    rw [show(6:Int)=((6:Nat):Int)from rfl,aev hn aZ hs (by omega) FT,ak]
    unfold jJ;cases h:iy 6 t3 with
    |error e=>
     have he:=np h;rw [qP h,fB];exact FX hn aZ hs (u:=0) (by omega) 0 n 0 _ e [] he rfl (by omega) rfl
    |ok r=>
     obtain⟨u,bX⟩:=r;obtain⟨Z,aa,am⟩:=oa h;have e6:bX <:+ s:=List.IsSuffix.trans ⟨eM u,Z.symm⟩ FT;have hu:=e6.length_le;rw [qO h,g_]
     have dm:=vq (L:=λm i t acc=>sU n (gw,bl s t1,0) (gW,bl s t2,0) ((u:Int),bl s bX,0) s (nj,bl s t3,0) m (bl s t) 0 acc (i:Int)) (f:=λ_ v=>v) (D:=mS) (u:=u) (s:=s) (fin:=λacc t=>zP n (gw,bl s t1,0) (gW,bl s t2,0) s (nj,bl s t3,0) (bl s t) 0 acc) (bad:=λe x=>x=some (FW,0,e)) (λx v t hx=>tI.km hx) (by
      intro m i t acc hm hi ha aF;simp only [sU,zQ,au2,hi,auT,auV];rw [aq3 hn aZ hs aF,ak];have gu:room (acc.length+1) 32=true:=jK (by omega)
      cases g3:mS t with
      |error e=>
       have he:=tI.cN _ _ g3;rw [fB];simp only [au4,gu,a6];rw [ea (by omega)]
       exact FX hn aZ hs (by omega) (u-(i+1)) m (i+1) _ e _ he (by omega) (by omega) (by simp [ha])
      |ok r=>
       obtain⟨v,t3⟩:=r;rw [g_];simp only [au4,gu,a6];rw [ea (by omega)]) (by
      intro m t acc ha aF;simp only [sU,zQ,au6,auU,auW]) u n 0 bX [] (by omega) (by omega) rfl e6
     cases ai:ge mS u bX with
     |error e=>rw [ai]at dm;simp only [ai]at dm ⊢;exact dm
     |ok r=>
      obtain⟨l,t4⟩:=r;obtain⟨aG,bf,bW⟩:=(tI.rep u).fL _ _ _ ai;have LZ:t4 <:+ s:=jj (tI.rep u) ai e6;rw [ai]at dm;simp only [List.nil_append,vr,ai]at dm ⊢;refine dm.trans ?_;unfold zP;rw [aq2 hn aZ hs LZ,ak];cases g5:r4 t4 with
      |error e=>
       have he:=Uu.cN _ _ g5;rw [fB];simp only [auW,sT,gf he,auV,fB]
      |ok r=>
       obtain⟨b,t5⟩:=r;have aeA:=jj Uu g5 LZ;rw [g_];cases b with
       |false=>
        simp only [auW];have ao:qR (oe (gw,gW,nj,l,false,([],[]))):=⟨BN,l8,aez,⟨by show l.length≤6;omega,bW⟩,rfl,rfl⟩
        exact aey hn aZ hs (r1:=(gw,bl s t1,0)) (r2:=(gW,bl s t2,0)) (r3:=(nj,bl s t3,0)) (l:=l) (r24:=(false,bl s t5,0)) (t:=t5) (ks:=[]) (ws:=[]) BN l8 (FV hn ao)
       |true=>
        have hk:=aex hn aZ hs aeA;simp only [auV,UM,au8,dZ];cases g6:x_ t5 with
        |error e=>
         have he:=ya.cN _ _ g6;rw [g6]at hk;obtain⟨v,a,hk⟩:=hk;rw [hk,ak];obtain⟨jO,dv,lm⟩:=aq4 hn aZ hs (a:=a) he;simp only [lm,ak,sT,gf he,auV,fB]
        |ok r=>
         obtain⟨ks,t6⟩:=r;have aq7:=jj ya g6 aeA;have aq8:=(ya.fL _ _ _ g6).2;rw [g6]at hk;simp only at hk ⊢
         rw [hk,ak];have hk:=aex hn aZ hs aq7;simp only
         cases g7:x_ t6 with
         |error e=>
          have he:=ya.cN _ _ g7;rw [g7]at hk;obtain⟨v,a,hk⟩:=hk;rw [hk,ak];simp only [sT,gf he,auV,fB]
         |ok r=>
          obtain⟨ws,t7⟩:=r;have aq9:=(ya.fL _ _ _ g7).2;rw [g7]at hk;simp only at hk ⊢
          rw [hk,ak];simp only
          have ao:qR (oe (gw,gW,nj,l,true,(ks,ws))):=⟨BN,l8,aez,⟨by show l.length≤6;omega,bW⟩,⟨aq8,aq9⟩,rfl⟩
          exact aey hn aZ hs (r1:=(gw,bl s t1,0)) (r2:=(gW,bl s t2,0)) (r3:=(nj,bl s t3,0)) (l:=l) (r24:=(true,bl s t5,0)) (t:=t7) (ks:=ks) (ws:=ws) BN l8 (FV hn ao)
theorem aq'{t:au'}(aF:t <:+ s):IW n s (bl s t)=some (res [] s (pU t)):=by
 unfold IW pU jJ;rw [show(64:Int)=((64:Nat):Int)from rfl,tJ aF (by omega) (by omega) (by omega),ak]
 cases h:iy 64 t with
 |error e=>rw [qP h,fB];simp only [gf (np h),auV,fB]
 |ok r=>
  obtain⟨u,bX⟩:=r;obtain⟨Z,aa,am⟩:=oa h;have e6:bX <:+ s:=List.IsSuffix.trans ⟨eM u,Z.symm⟩ aF;have hu:=e6.length_le;rw [qO h,g_];simp only [auT,auX,auW];rw [show w4 n s ((u:Int),bl s bX,0) n [] 0 (bl s bX)=_ from aea (L:=λm i t acc=>w4 n s ((u:Int),bl s bX,0) m acc (i:Int) (bl s t)) (D:=yc) (u:=u) (s:=s) (fin:=λacc t=>some (acc,bl s t,0)) (bad:=λe=>some ([],0,e)) (λx v t hx=>UP.km hx) ?_ ?_ (by omega) e6]
  ·cases ai:ge yc u bX with
   |error e=>rfl
   |ok r=>rfl
  ·intro m i t acc hi ha aF;simp only [w4,IV,au2,hi,auT,auV];rw [aq6 hn aZ hs aF,ak];cases aK:yc t with
   |error e=>rw [fB];simp only [gf (UP.cN _ _ aK),auV]
   |ok r=>
    obtain⟨x,t1⟩:=r;rw [g_];simp only [auT,auX,auW,au4];rw [jK (by omega),a6,ea (by omega)]
  ·intro m t acc ha aF;simp only [w4,IV,au6,auU,auW,PR]
end
section
variable {n:Nat} (hn:2000≤n) (aZ:n≤9223372036854775808) {s:au'} (hs:s.length<min n 1000000000)
include hn aZ hs
end
structure pb(p:bb):Prop where
 v:nk p=0
 i:xS p
 w:tu p≤250000
def aq_(t:Token)(nh:Int):cN ⟨t.Kind,t.Text,t.N,nh⟩=cN t:=rfl
def ara{t:Token}(h:mo t):mo (cN t):=by
 obtain⟨Z,aa⟩:=h;refine⟨rfl,?_⟩
 simpa only [cN]using aa
def arb{n:Nat}(src:au')(hs:src.length≤4000)(hn:100000000≤n):
 ∃r,z7 n src=some r∧KA n src=some r∧(r.2.2=0→pb r.1):=by
 obtain⟨r,Z,aa,am⟩:=aox (n:=n) src (Or.inl hs) hn;refine⟨r,Z,aa,λh0=>?_⟩
 obtain⟨⟨l,nh,e⟩,t1,t2,t3⟩:=acy (λt=>(t.Kind=5→t.Text∈marks)∧mo (cN t)) (λs nh g1 g2=>⟨Tl s nh g1 g2,by rw [aq_];exact ara (apL s g1 g2).1⟩) (n:=n) src (by omega) (by omega)
 obtain⟨p,aul,e2⟩:=r;simp only at h0
 subst h0;unfold z7 DZ Jq at Z;rw [t1]at Z;by_cases he:e=0
 ·subst he;obtain⟨g1,g2,g3⟩:=t3 rfl;simp only at g1 g3
  have hg:kF l:=λt aF=>(g3 t aF).1
  have au:∀t,t∈l→mo (cN t):=λt aF=>(g3 t aF).2
  have hlen:=mK l;have k7:l.length≤4200:=by omega
  have jc:eL l l.length=gZ l:=by unfold eL;rw [List.take_length]
  have arc:=ap3 (l:=l) (by omega) hg au n 0 (by omega)
  have b2:=acV (l:=l) (by omega) hg (i:=0) (n1:=n) (n2:=n) (by omega) (by omega) (by omega)
  simp only [ak,auT,auX,auW]at Z;rcases b2 with⟨a,k,e1,e2,ki,fq,jG⟩|⟨k,c,z,a,e1,e2,hc,hk⟩
  ·have e1:rH n ⟨l,0⟩=some (aB.ret a ((k:Nat):Int)):=e1;have aoy:=vc l k l.length fq;obtain⟨k',aG,bf,bW,da⟩:=arc a _ e1;rw [e1]at Z;simp only [ak,aB.on,au2,auT,auV]at Z;by_cases pz:k<l.length
   ·simp only [pz,auT,auV,Tm n l k 5 (by omega),ak,aB.on,Ll,show¬ (5:Int)=0 by omega,auU,auY,auW,qw,Option.some.injEq,Prod.mk.injEq]at Z
    have ard:iI l k 5=5:=if_pos pz;simp only [ard,show¬ (5:Int)=0 by omega,auU,auY,auV,auW,Option.some.injEq,Prod.mk.injEq]at Z
    exact Z.2.2.elim
   ·have hw:tu a≤250000:=by omega
    have Cr:a.Name.length+fU a.Params+dP a.Body≤250000:=hw;simp only [pz,auU,auW,ak,auT,auX,auV,Lx]at Z;rw [Lw (n:=n) a (by omega) (by omega) (by omega) (by omega) (by omega)]at Z
    simp only [ak,qw]at Z;by_cases p':nk a=0
    ·simp only [p',auT,auX,auW,Lx,Option.some.injEq,Prod.mk.injEq]at Z;obtain⟨rfl,_⟩:=Z;exact⟨p',bW,hw⟩
    ·simp only [p',auU,auY,auV,Option.some.injEq,Prod.mk.injEq]at Z;exact Z.2.2.elim
  ·have e1:rH n ⟨l,0⟩=some (aB.aJ (m7 l k c) z):=e1;rw [e1]at Z;simp only [ak,aB.on,Ll,hc,auU,auW,auY,auV,qw,Option.some.injEq,Prod.mk.injEq]at Z;exact Z.2.2.elim
 ·simp only [he,auU,auY,auV,ak,auW,qw,Option.some.injEq,Prod.mk.injEq]at Z;exact Z.2.2.elim
def kn(p:bb):au':=if nk p=0 then o6 p else[]
structure pV(p:bb):Prop where
 i:xS p
 n:p.Name.length≤300000
 f:fU p.Params≤300000
 b:dP p.Body≤300000
def pb.fA{p:bb}(h:pb p):pV p:=by
 have hw:p.Name.length+fU p.Params+dP p.Body≤250000:=h.w;exact⟨h.i,by omega,by omega,by omega⟩
def UU{n:Nat}{p:bb}(h:pV p)(hn:100000000≤n):uC n p=some (kn p):=by
 have Z:=h.n;have aa:=h.f;have am:=h.b;unfold kn;by_cases au:nk p=0
 ·rw [if_pos au];exact apc p h.i au (by omega) h.f h.b
 ·rw [if_neg au];unfold uC;rw [Lw p (by omega) (by omega) (by omega) (by omega) (by omega)]
  simp only [ak,au,auU,auY,auV]
def are{n:Nat}{p:bb}(h:pV p)(hn:100000000≤n):xn n p=some (kn p):=by
 have Z:=h.n;have aa:=h.f;have am:=h.b;unfold kn;by_cases au:nk p=0
 ·rw [if_pos au];exact apB p h.i au (by omega) h.f h.b
 ·rw [if_neg au];unfold xn;rw [TP p (by omega) (by omega) (by omega) (by omega) (by omega) (by omega) (by omega)]
  simp only [ak,au,auU,auY,auV]
def arf{p:bb}(h:pV p):(kn p).length≤1300000:=by
 unfold kn;by_cases au:nk p=0
 ·rw [if_pos au];have:=adz (T1 h.i au)
  have am:=h.b;omega
 ·rw [if_neg au];simp
def arh{n:Nat}(hn:100000000≤n)(l:kK)(ab:l.length≤1000)(hs:∀s∈l,s.length≤4000):∃o,Jt n l=some o∧ajt n l=some o∧o.1.length≤l.length∧(∀p∈o.1,pb p)∧(o.2=true→o.1.map kn=l):=by
 have key:∀(m i:Nat) (acc:List bb),l.length<i+m→i≤l.length→acc.length=i→(∀p∈acc,pb p)→acc.map kn=l.take i→∃o,z8 n l m (i:Int) acc=some o∧Ew n l m acc (i:Int)=some o∧o.1.length≤l.length∧(∀p∈o.1,pb p)∧(o.2=true→o.1.map kn=l):=by
  intro m;induction m with
  |zero=>intro i acc Z aa;omega
  |succ m aM=>
   intro i acc Z aa ha hp hm;by_cases hi:i<l.length
   ·have yq:=FP hi;obtain⟨r,e1,e2,e3⟩:=arb (n:=n) (l.getD i default) (hs _ yq) hn;have gu:room (acc.length+1) 64=true:=jK (by omega)
    simp only [z8,Js,Ew,Sp,au2,hi,auT,auV,cC hi,a6,au1,e1,e2,ak,au4,gu,ea (show i≤9223372036854775806 by omega),au7]
    by_cases h0:r.2.2=0
    ·have hg:=e3 h0;simp only [h0,auT,auX,auY,auV,auW,UU hg.fA hn,are hg.fA hn,ak];by_cases hx:kn r.1=l.getD i default
     ·simp only [hx,auT,auX,auW];refine aM (i+1) (acc++[r.1]) (by omega) (by omega) (by simp [ha]) (λp ye=>?_) ?_
      ·rcases List.mem_append.1 ye with h|h
       ·exact hp p h
       ·rw [List.mem_singleton.1 h];exact hg
      ·rw [List.map_append,hm,List.map_cons,List.map_nil,hx,List.take_add,eZ l i default hi,List.take_succ_cons,List.take_zero]
     ·simp only [hx,auU,auY,auV];exact⟨_,rfl,rfl,by simp,λp ye=>(by cases ye),λh=>(by cases h)⟩
    ·simp only [h0,auU,auY,auX,auV,auW,ak];exact⟨_,rfl,rfl,by simp,λp ye=>(by cases ye),λh=>(by cases h)⟩
   ·simp only [z8,Js,Ew,Sp,Qq,aax,au2,hi,auU,auW];obtain rfl:i=l.length:=by omega
    rw [List.take_length]at hm;exact⟨_,rfl,rfl,by simp only;omega,hp,λ_=>hm⟩
 exact key n 0 [] (by omega) (by omega) rfl (λp ye=>(by cases ye)) rfl
def aeB(x:aw):(⟨x.bB,x.bv,x.Rows⟩:aw)=x:=rfl
def aeC(x:cc):(⟨x.Version,x.aS⟩:cc)=x:=rfl
def UV(x:Request):(⟨x.Client,x.Seq,x.bb,x.ax,x.fE,(⟨x.bU.fh,x.bU.Reads,x.bU.dI⟩:gP)⟩:Request)=x:=rfl
def r9(x:bN):(⟨x.Pos,(⟨x.aw.bB,x.aw.bv,x.aw.Rows⟩:aw),x.cj,x.cp,(⟨x.Place.Version,x.Place.aS⟩:cc),x.bg,x.Queue,x.cz⟩:bN)=x:=rfl
def L9(l:List bb):Bool:=(allI l.length λi=>!(decide (kn (l.getD i default)=[])||decide (16384<(((kn (l.getD i default)).length:Nat):Int)))&&(!decide (0<(i:Int))||Op.bytesLess (l.getD (pv i) default).Name (l.getD i default).Name))&&decide (l.length≤16)
def aeD(l:List Request):Bool:=(allI l.length λi=>decide (x4 (l.getD i default)=0))&&decide (l.length≤64)
def mW(r:bN):Bool:=((((((((decide (0≤r.Pos)&&decide (r.Pos≤1099511627776))&&od r.aw)&&decide (r.aw.bv=r.Pos))&&L9 r.cj)&&r7 r.cp)&&r6 r.Place)&&FI r.bg)&&aeD r.Queue)
structure tN(n:Nat)(r:bN):Prop where
 st:x7 n r.aw
 L':r.cj.length<n
 pc:∀i,pV (r.cj.getD i default)
 FY:r.cp.length<n
 qS:∀i,x6 n (r.cp.getD i default)
 pl:r.Place.aS.length<n
 FZ:∀i,x5 n (r.Place.aS.getD i default)
 aF:r.bg.length<n
 li:∀i,(r.bg.getD i default).Key.length<n
 pd:r.Queue.length<n
 L_:∀i,vo n (r.Queue.getD i default)
def UW:pV default:=by
 refine⟨⟨by show([]:au').length≤_;simp,by show([]:List Param).length≤_;simp,λi hi=>by exact absurd hi (by show¬ i<([]:List Param).length;simp),trivial⟩,by show([]:au').length≤_;simp,by show fU []≤_;simp [fU],by show dP []≤_;simp [dP]⟩
section
variable {n:Nat} (hn:100000000≤n) (aZ:n≤9223372036854775808)
include hn aZ
theorem ari{l:List bb}(ab:l.length<n)(h:∀i,pV (l.getD i default)):Jx n l=some (L9 l):=by
 unfold Jx L9;rw [mU (L:=z_ n l) (chk:=λi=>!(decide (kn (l.getD i default)=[])||decide (16384<(((kn (l.getD i default)).length:Nat):Int)))&&(!decide (0<(i:Int))||Op.bytesLess (l.getD (pv i) default).Name (l.getD i default).Name)) (no:=false) (yes:=true) ab,r5]
 ·simp only [gb];by_cases ao:l.length≤16
  ·simp only [ao,show¬ 16<l.length by omega,auT,auU,auW,Bool.and_true]
  ·simp only [ao,show 16<l.length by omega,auT,auU,auV,Bool.and_false]
 ·intro m i hi;simp only [z_,Jw,au2,hi,auT,auV,cC hi,a6,ak,au1,ea (show i≤9223372036854775806 by omega),UU (h i) hn,qQ hi (show l.length≤9223372036854775807 by omega)]
  exact mT (by simp only [eG,fk,Bool.not_and,Bool.not_or,Bool.not_not,←x2])
 ·intro m;simp only [z_,Jw,Qs,au6,auU,auW]
theorem Ma(x y:Int):decide (x<y) = !decide (y≤x):=by
 by_cases h:y≤x
 ·rw [decide_eq_true h,decide_eq_false (by omega)];rfl
 ·rw [decide_eq_false h,decide_eq_true (by omega)];rfl
theorem UX{r:bN}(h:tN n r):Aa n r=some (mW r):=by
 have e1:xd n r n 0=some (if(allI r.Queue.length λi=>decide (x4 (r.Queue.getD i default)=0)) then((r7 r.cp&&r6 r.Place)&&FI r.bg)else false):=by
  refine mU (L:=xd n r) h.pd ?_ ?_
  ·intro m i hi;simp only [xd,Jy,au2,hi,auT,auV,cC hi,a6,au1,ea (show i≤9223372036854775806 by have:=h.pd;omega)]
   rw [UB (by omega) aZ (h.L_ i),ak]
   exact mT rfl
  ·intro m;simp only [xd,Jy,Qt,au6,auU,auW];rw [UF (by omega) aZ h.FY h.qS,aei (by omega) aZ h.pl h.FZ,aqx (by omega) aZ h.aF]
   simp only [ak,vn,fk];cases r7 r.cp<;>cases r6 r.Place<;>rfl
 unfold Aa;rw [e1,LV (by omega) aZ h.st,ari hn aZ h.L' h.pc]
 simp only [ak,vn,eG,fk,gb];unfold mW aeD;rw [show decide (r.Pos<0) = !decide (0≤r.Pos)from Ma hn aZ _ _,show decide (1099511627776<r.Pos) = !decide (r.Pos≤1099511627776)from Ma hn aZ _ _]
 by_cases ao:r.Queue.length≤64
 ·simp only [ao,show¬ 64<r.Queue.length by omega,auT,auU,Bool.and_true,Bool.or_false,Bl]
  cases decide (0≤r.Pos)<;>cases decide (r.Pos≤1099511627776)<;>cases od r.aw<;>cases decide (r.aw.bv=r.Pos)<;>cases L9 r.cj<;>cases r7 r.cp<;>cases r6 r.Place<;>cases FI r.bg<;>simp
 ·simp only [ao,show 64<r.Queue.length by omega,auT,auU,Bool.and_false,au7,auV]
end
end Go.Ab.Y

/- The plain law: what the functions compute answers as the statement says. -/
import Derived.Test.YtcjbfnojhpfchaaGreatDoorPlainB
set_option linter.all false
namespace Go.Ab.Y
open Go Go.Ab Go.Proofs
section
variable {l:List Token}
theorem ajl{op:Int}{a b:Expr}{bH:Nat}(gQ:dt op=bH)(h:4≤op∧op≤8∨10≤op∧op≤17∨op=19):cE (gZ ⟨op,0,[],[a,b]⟩)=cE (iU a (if bH=4 then 5 else bH))+(spell (l9 op)).length+cE (iU b (bH+1)):=by
 unfold gZ;rw [aim h,lh,gQ];have Z:cE (l9 op::iU b (bH+1))=(spell (l9 op)).length+cE (iU b (bH+1)):=rfl;show cE (iU a (if bH=4 then 5 else bH))+cE (l9 op::iU b (bH+1))=_
 omega
def YT(l:List Token)(i:Nat)(e:Expr)(z:Int):Prop:=∃k:Nat,z=(k:Int)∧i≤k∧k≤l.length∧ns e∧bi l i+(2+cE (gZ e))≤bi l k
theorem ajm(ab:l.length≤1000000000)(hg:jT l)(am:∀t,t∈l→lK (cv t)):∀n:Nat,(∀(bH:Nat) (d:Int) (i:Nat),1≤bH→bH≤8→i≤l.length→bA (og l i bH) (fe n (bH:Int) d ⟨l,(i:Int)⟩))∧
 (∀(op:Int) (bH:Nat) (d:Int) (i:Nat),(op=18∧bH=3∧bk l i [110,111,116]=true∨op=9∧bH=8∧bk l i [45]=true)→bA (og l i bH) (iO n op (bH:Int) d ⟨l,(i:Int)⟩))∧
 (∀(d:Int) (i:Nat),i≤l.length→bA (og l i 9) (ij n d ⟨l,(i:Int)⟩))∧(∀(d:Int) (i:Nat),i≤l.length→bA (YT l i) (h3 n d ⟨l,(i:Int)⟩)):=by
 intro n;induction n with
 |zero=>exact⟨λ_ _ _ _ _ _=>.none,λ_ _ _ _ _=>.none,λ_ _ _=>.none,λ_ _ _=>.none⟩
 |succ n aF=>
  obtain⟨he,hp,hu,hi⟩:=aF
  have gD:∀(bH:Nat) (d:Int) (i0:Int) (i m k:Nat) (op N:Int) (S:ano) (A:List Expr),1≤bH→bH≤7→i≤k→k≤l.length→ns ⟨op,N,S,A⟩→bi l i+cE (iU ⟨op,N,S,A⟩ (if bH=4 then 5 else bH))≤bi l k→
   bA (og l i bH) (vP n (fe n) (iO n) (ij n) (h3 n) (bH:Int) d ⟨l,i0⟩ m (k:Int) op N S A):=by
   intro bH d i0 i m;induction m with
   |zero=>intro k op N S A _ _ _ _ _ _;exact .none
   |succ m jk=>
    intro k op N S A Z aa aj aD aV bP;simp only [vP,G9];rw [XA n l k];simp only [ai];refine bA.bif (λ_=>.ret ⟨k,rfl,aj,aD,aV,?_⟩) (λhc=>?_)
    ·have:=QO ⟨op,N,S,A⟩ (show bH≤if bH=4 then 5 else bH by split<;>omega)
     omega
    ·have hc:(gW l k).1=(bH:Int):=by simpa using hc
     obtain⟨g1,g2,g3⟩:=ajj (l:=l) (i:=k) (by omega)
     obtain⟨g4,g5⟩:=hr g1;have gQ:dt (gW l k).2=bH:=by omega
     rw [bg (by omega),bg (by omega)]
     refine bA.bind (he (bH+1) d (k+1) (by omega) (by omega) (by omega)) (λb z hb=>?_) (λx z=>.az)
     obtain⟨k',rfl,aL,a',b5,dp⟩:=hb;have hk:=ajl (a:=⟨op,N,S,A⟩) (b:=b) gQ g3;have hin:ns ⟨(gW l k).2,0,[],[⟨op,N,S,A⟩,b]⟩:=⟨by omega,by simp,by simp,aV,b5,trivial⟩
     have zu:bi l i+cE (gZ ⟨(gW l k).2,0,[],[⟨op,N,S,A⟩,b]⟩)≤bi l k':=by rw [hk];omega
     have qN:∀j,j≤bH→cE (iU ⟨(gW l k).2,0,[],[⟨op,N,S,A⟩,b]⟩ j)=cE (gZ ⟨(gW l k).2,0,[],[⟨op,N,S,A⟩,b]⟩):=λj hj=>by rw [wH,if_neg (by simp only;omega)];rfl
     refine bA.bif (λ_=>.ret ⟨k',rfl,by omega,a',hin,by rw [qN bH (by omega)];exact zu⟩) (λajn=>?_)
     have ajo:bH≠4:=by
      intro e;subst e;simp at ajn
     exact jk k' _ 0 [] _ Z aa (by omega) a' hin (by rw [if_neg ajo,qN bH (by omega)];exact zu)
  refine⟨λbH d i Z aa aj=>?_,λop bH d i fC=>?_,λd i aj=>?_,λd i aj=>?_⟩
  ·rw [XC];unfold Ca;rw [tU,tU];simp only [ai];refine bA.bif (λhc=>?_) (λhc=>bA.bif (λjr=>?_) (λjr=>?_))
   ·obtain rfl:bH=3:=by have:=of_decide_eq_true hc;omega
    refine bA.bif (λhn=>?_) (λhn=>?_)
    ·exact bA.bind (hp 18 3 d i (Or.inl ⟨rfl,rfl,hn⟩)) (λa z ak=>.ret ak) (λx z=>.az)
    ·exact bA.bind (he 4 d i (by omega) (by omega) aj) (λa z ak=>.ret (ak.mono (Nat.le_refl _) (Nat.le_refl _) (by omega))) (λx z=>.az)
   ·obtain rfl:bH=8:=by have:=of_decide_eq_true jr;omega
    refine bA.bif (λhn=>?_) (λhn=>?_)
    ·exact bA.bind (hp 9 8 d i (Or.inr ⟨rfl,rfl,hn⟩)) (λa z ak=>.ret ak) (λx z=>.az)
    ·exact bA.bind (hu d i aj) (λa z ak=>.ret (ak.mono (Nat.le_refl _) (Nat.le_refl _) (by omega))) (λx z=>.az)
   ·have gQ:bH≠8:=by intro e;subst e;simp at jr
    rw [bg (by omega)]
    refine bA.bind (he (bH+1) d i (by omega) (by omega) aj) (λa z ak=>?_) (λx z=>.az)
    obtain⟨k,rfl,aL,a',b5,dp⟩:=ak;refine gD bH d (i:Int) i n k a.Op a.N a.S a.ao Z (by omega) aL a' (by rw [fI];exact b5) ?_
    rw [fI];have:=QO a (show(if bH=4 then 5 else bH)≤bH+1 by split<;>omega)
    omega
  ·have aA:∃w,bk l i w=true∧(spell (if op=18 then eM [110,111,116]else cp [45])).length=w.length:=by
    rcases fC with⟨rfl,rfl,h⟩|⟨rfl,rfl,h⟩
    ·exact⟨_,h,rfl⟩
    ·exact⟨_,h,rfl⟩
   obtain⟨w,hw,wl⟩:=aA;obtain⟨g4,g5⟩:=hr hw;show bA (og l i bH) (yA n (fe n) (iO n) (ij n) (h3 n) op (bH:Int) d ⟨l,(i:Int)⟩)
   unfold yA;refine bA.bind (QN n d _) (λdv z _=>?_) (λx z=>.az)
   rw [bg (by omega)]
   refine bA.bind (he bH dv (i+1) (by omega) (by omega) (by omega)) (λa z ak=>.ret ?_) (λx z=>.az)
   obtain⟨k,rfl,aL,a',b5,dp⟩:=ak;refine⟨k,rfl,by omega,a',⟨by omega,by simp,by simp,b5,trivial⟩,?_⟩
   rcases fC with⟨rfl,rfl,h⟩|⟨rfl,rfl,h⟩
   ·have Z:cE (iU ⟨18,0,[],[a]⟩ 3)=(spell (eM [110,111,116])).length+cE (iU a 3):=rfl;rw [if_pos rfl]at wl;omega
   ·have Z:cE (iU ⟨9,0,[],[a]⟩ 8)=(spell (cp [45])).length+cE (iU a 8):=rfl;rw [if_neg (by omega)]at wl
    omega
  ·have DK:∀b:Int,bA (og l i 9) (rZ n (fe n) (iO n) (ij n) (h3 n) d ⟨l,b⟩ (i:Int)):=by
    intro b;simp only [rZ,Cb,Cd,lZ];rw [PT n l i hg,tU];simp only [ai]
    have ajp:bA (og l i 9) (Option.bind (rW n d ⟨l,(i:Int)⟩) λb4=>ax.on b4 (λc_ bz=>Option.bind (h3 n c_ ⟨l,(i:Int)⟩) λcK=>ax.on cK (λei da=>some (.ret ei da)) (λrY da=>some (.az rY da))) (λlE bz=>some (.az lE (i:Int)))):=by
     refine bA.bind (QN n d _) (λdv z _=>?_) (λx z=>.az)
     refine bA.bind (hi dv i aj) (λa z ak=>.ret ?_) (λx z=>.az)
     obtain⟨k,rfl,aL,a',b5,dp⟩:=ak;refine⟨k,rfl,aL,a',b5,?_⟩
     rw [wH];split<;>omega
    refine bA.bif (λhc=>?_) (λhc=>?_)
    ·exact bA.bif (λ_=>bA.bind (YR n 5 i ab) (λ_ _ bJ=>bJ.elim) (λx z=>.az)) (λ_=>ajp)
    ·have hc:ld l i≠0:=of_decide_eq_false hc;obtain⟨c1,c2,c3⟩:=ajk hc;obtain⟨c4,c5⟩:=hr c1;generalize ld l i=op at hc c1 c2 c3 c4 c5
     have rv:op≤24→bA (og l i 9) (Option.bind (rW n d ⟨l,(i:Int)⟩) λr26=>ax.on r26 (λr27 m6=>Option.bind (h3 n r27 ⟨l,anq ((i:Int)+1)⟩) λhA=>ax.on hA (λfp kM=>some (.ret (⟨op,0,[],[fp]⟩:Expr) kM)) (λrX kM=>some (.az rX kM))) (λCc m6=>some (.az Cc (i:Int)))):=by
      intro fC;refine bA.bind (QN n d _) (λdv z _=>?_) (λx z=>.az)
      rw [bg (by omega)]
      refine bA.bind (hi dv (i+1) (by omega)) (λa z ak=>.ret ?_) (λx z=>.az)
      obtain⟨k,rfl,aL,a',b5,dp⟩:=ak;refine⟨k,rfl,by omega,a',⟨by omega,by simp,by simp,b5,trivial⟩,?_⟩
      have gQ:dt op=9:=by
       have:op=20∨op=21∨op=22∨op=23∨op=24:=by omega
       rcases this with rfl|rfl|rfl|rfl|rfl<;>rfl
      rw [wH,if_neg (by simp only [gQ];omega)]
      have hk:gZ ⟨op,0,[],[a]⟩=gY op::cp [40]::(gZ a++[cp [41]]):=by
       have:op=20∨op=21∨op=22∨op=23∨op=24:=by omega
       rcases this with rfl|rfl|rfl|rfl|rfl<;>simp [gZ,cI,qR,sh,kt,Dy]
      rw [hk];have s1:(spell (cp [40])).length=1:=rfl;have s2:(spell (cp [41])).length=1:=rfl;simp only [cE,lh,s1,s2];omega
     have wq:25≤op→bA (og l i 9) (Option.bind (ii n [40] ⟨l,anq ((i:Int)+1)⟩) λeC=>ax.on eC (λfb ej=>Option.bind (ii n [41] ⟨l,ej⟩) λcR=>ax.on cR (λdU r24=>some (.ret (⟨op,0,[],[]⟩:Expr) r24)) (λCe r24=>some (.az Ce r24))) (λCf ej=>some (.az Cf ej))):=by
      intro fC;rw [bg (by omega)]
      refine bA.bind (nw n _ (i+1) ab (by omega)) (λ_ z cx=>?_) (λx z=>.az)
      obtain⟨rfl,cx⟩:=cx;obtain⟨e1,e2⟩:=hr cx;refine bA.bind (nw n _ (i+1+1) ab (by omega)) (λ_ z cx=>.ret ?_) (λx z=>.az)
      obtain⟨rfl,cx⟩:=cx;obtain⟨e3,gk⟩:=hr (l:=l) cx;refine⟨i+1+1+1,rfl,by omega,by omega,⟨by simp,by simp,by simp,trivial⟩,?_⟩
      have:op=25∨op=26∨op=27:=by omega
      simp only [anc,ane]at e2 gk;rcases this with rfl|rfl|rfl
      ·have:cE (iU ⟨25,0,[],[]⟩ 9)=(spell (gY 25)).length+2:=rfl
       omega
      ·have:cE (iU ⟨26,0,[],[]⟩ 9)=(spell (gY 26)).length+2:=rfl
       omega
      ·have:cE (iU ⟨27,0,[],[]⟩ 9)=(spell (gY 27)).length+2:=rfl
       omega
     refine bA.bif (λwo=>?_) (λwo=>bA.bif (λJm=>?_) (λJm=>bA.bif (λQP=>?_) (λQP=>?_)))
     ·have:op=25:=of_decide_eq_true wo
      exact bA.bif (λ_=>wq (by omega)) (λh=>by rw [wo]at h;cases h)
     ·have:op=26:=of_decide_eq_true Jm
      exact bA.bif (λ_=>wq (by omega)) (λh=>by rw [Jm]at h;cases h)
     ·have:op=27:=of_decide_eq_true QP
      exact wq (by omega)
     ·have g1:op≠25:=of_decide_eq_false wo;have g2:op≠26:=of_decide_eq_false Jm;have g3:op≠27:=of_decide_eq_false QP;exact rv (by omega)
   show bA (og l i 9) (vQ n (fe n) (iO n) (ij n) (h3 n) d ⟨l,(i:Int)⟩)
   unfold vQ;simp only [anf,ang];refine bA.bif (λhc=>bA.aq ?_) (λ_=>DK _)
   have hc:i<l.length:=of_decide_eq_true hc;have sn:=am _ (sl hc);have fY:=sm i hc;rw [bg (by omega),show anq (((i+1:Nat):Int)-1)=(i:Int)by rw [wr]<;>omega]
   obtain⟨_,sn⟩:=sn;simp only [cv]at sn;refine bA.bif (λh=>?_) (λ_=>bA.bif (λh=>?_) (λ_=>bA.bif (λh=>?_) (λ_=>DK _)))
   ·have h:(l.getD i default).Kind=3:=of_decide_eq_true h;refine .ret ⟨i+1,rfl,by omega,by omega,⟨?_,by simp,by simp,trivial⟩,?_⟩
    ·rcases sn with⟨g,_⟩|⟨g,_⟩|⟨_,_,g1,g2⟩|⟨g,_⟩|⟨g,_⟩
     ·omega
     ·omega
     ·exact g2
     ·omega
     ·omega
    ·have Z:cE (iU ⟨1,(l.getD i default).N,[],[]⟩ 9)=(Lib.decDigits (l.getD i default).N.toNat).length:=rfl;have aa:spell (l.getD i default)=Lib.decDigits (l.getD i default).N.toNat:=by unfold spell;rw [if_pos h]
     rw [aa]at fY;omega
   ·have h:(l.getD i default).Kind=4:=of_decide_eq_true h;have aa:spell (l.getD i default)=quo (l.getD i default).Text:=by unfold spell;rw [if_neg (by omega),if_pos h]
    refine .ret ⟨i+1,rfl,by omega,by omega,⟨by omega,?_,by simp,trivial⟩,?_⟩
    ·rcases sn with⟨g,_⟩|⟨g,_⟩|⟨g,_⟩|⟨_,g,_⟩|⟨g,_⟩
     ·omega
     ·omega
     ·omega
     ·unfold iC at g;simp only [Bool.and_eq_true,decide_eq_true_eq]at g;omega
     ·omega
    ·have Z:cE (iU ⟨2,0,(l.getD i default).Text,[]⟩ 9)=(quo (l.getD i default).Text).length:=rfl;rw [aa]at fY;omega
   ·have h:(l.getD i default).Kind=1:=of_decide_eq_true h;have aa:spell (l.getD i default)=(l.getD i default).Text:=by unfold spell;rw [if_neg (by omega),if_neg (by omega)]
    refine .ret ⟨i+1,rfl,by omega,by omega,⟨by omega,?_,by simp,trivial⟩,?_⟩
    ·rcases sn with⟨_,g,_⟩|⟨g,_⟩|⟨g,_⟩|⟨g,_⟩|⟨g,_⟩
     ·have:=oc g
      omega
     ·omega
     ·omega
     ·omega
     ·omega
    ·have Z:cE (iU ⟨3,0,(l.getD i default).Text,[]⟩ 9)=(l.getD i default).Text.length:=rfl;rw [aa]at fY;omega
  ·show bA (YT l i) (tn n (fe n) (iO n) (ij n) (h3 n) d ⟨l,(i:Int)⟩)
   unfold tn;refine bA.bind (nw n _ i ab aj) (λ_ z cx=>?_) (λx z=>.az)
   obtain⟨rfl,cx⟩:=cx;obtain⟨g1,g2⟩:=hr cx;refine bA.bind (he 1 d (i+1) (by omega) (by omega) (by omega)) (λa z ak=>?_) (λx z=>.az)
   obtain⟨k,rfl,aL,a',b5,dp⟩:=ak;refine bA.bind (nw n _ k ab a') (λ_ z cx=>?_) (λx z=>.az)
   obtain⟨rfl,cx⟩:=cx;obtain⟨g3,g4⟩:=hr (l:=l) cx;have Z:=wH a 1;exact .ret ⟨k+1,rfl,by omega,by omega,b5,by simp only [anc,ane]at g2 g4;omega⟩
end
section
variable {l:List Token}
def QQ(l:List Token)(i:Nat)(s:Stmt)(z:Int):Prop:=∃k:Nat,z=(k:Int)∧i≤k∧k≤l.length∧wD s∧bi l i+cE (hW s)≤bi l k
def QR(l:List Token)(i:Nat)(b:List Stmt)(z:Int):Prop:=∃k:Nat,z=(k:Int)∧i≤k∧k≤l.length∧nt b∧bi l i+(2+cE (jW b))≤bi l k
theorem YU:∀l m:List Stmt,nt (l++m)↔nt l∧nt m
 |[],m=>by simp [nt]
 |x::l,m=>by simp only [List.cons_append,nt,YU l m,and_assoc]
theorem YV:∀l m:List Stmt,jW (l++m)=jW l++jW m
 |[],m=>rfl
 |x::l,m=>by simp only [List.cons_append,jW,YV l m,List.append_assoc]
theorem wI:ns fT:=⟨by simp,by simp,by simp,trivial⟩
theorem wJ{t:Token}(h:lK (cv t)):(t.Kind=1→spell t=t.Text∧t.Text.length≤16)∧(t.Kind=3→spell t=Lib.decDigits t.N.toNat∧0≤t.N∧t.N≤9223372036854775807):=by
 obtain⟨_,h⟩:=h;simp only [cv]at h;refine⟨λhk=>⟨by unfold spell;rw [if_neg (by omega),if_neg (by omega)],?_⟩,λhk=>⟨by unfold spell;rw [if_pos hk],?_⟩⟩
 ·rcases h with⟨_,g,_⟩|⟨g,_⟩|⟨g,_⟩|⟨g,_⟩|⟨g,_⟩
  ·exact oc g
  ·omega
  ·omega
  ·omega
  ·omega
 ·rcases h with⟨g,_⟩|⟨g,_⟩|⟨_,_,g1,g2⟩|⟨g,_⟩|⟨g,_⟩
  ·omega
  ·omega
  ·exact⟨g1,g2⟩
  ·omega
  ·omega
theorem ajq(n:Nat)(s:Stmt)(i:Nat)(ab:l.length≤1000000000)(hi:i≤l.length):bA (λsE z=>sE=s∧z=((i+1:Nat):Int)∧bk l i [59]=true) (lD n s ⟨l,(i:Int)⟩):=by
 rw [PZ n s l i (by omega) (by omega)]
 cases h:bk l i [59]
 ·exact .az
 ·exact .ret ⟨rfl,rfl,rfl⟩
theorem ajr(e:Expr):cE (iU e 1)=cE (gZ e):=by
 have:=ain e.Op
 rw [wH,if_neg (by omega)];rfl
theorem ajs(ab:l.length≤1000000000)(hg:jT l)(am:∀t,t∈l→lK (cv t))(n i:Nat)(hi:i≤l.length):bA (λe z=>∃k:Nat,z=(k:Int)∧i≤k∧k≤l.length∧ns e∧bi l i+cE (gZ e)≤bi l k) (fe n 1 0 ⟨l,(i:Int)⟩):=by
 have:=(ajm ab hg am n).1 1 0 i (by omega) (by omega) hi
 intro e z h;obtain⟨k,Z,aa,aj,aD,aV⟩:=this e z h;rw [ajr]at aV;exact⟨k,Z,aa,aj,aD,aV⟩
end
section
variable {l:List Token}
theorem DL{n i k:Nat}{s:Stmt}(ab:l.length≤1000000000)(hi:i≤k)(hk:k≤l.length)(hs:wD s)(hw:bi l i+cE (hW s)≤bi l k+1):
 bA (QQ l i) (Option.bind (lD n s ⟨l,(k:Int)⟩) λr=>ax.on r (λct cL=>some (.ret (⟨ct.Op,ct.Name,ct.Max,(⟨ct.A.Op,ct.A.N,ct.A.S,ct.A.ao⟩:Expr),(⟨ct.B.Op,ct.B.N,ct.B.S,ct.B.ao⟩:Expr),ct.Body,ct.bx⟩:Stmt) cL)) (λkL cL=>some (.az kL cL))):=by
 refine bA.bind (ajq n s k ab hk) (λa z ak=>?_) (λx z=>.az)
 obtain⟨rfl,rfl,aA⟩:=ak;obtain⟨g1,g2⟩:=hr (l:=l) aA;simp only [fI,iT];simp only [anc,ane]at g2;exact .ret ⟨k+1,rfl,by omega,by omega,hs,by omega⟩
theorem ajt(ab:l.length≤1000000000)(hg:jT l)(am:∀t,t∈l→lK (cv t)):∀n:Nat,(∀(d:Int) (i:Nat),i≤l.length→bA (QR l i) (nb n d ⟨l,(i:Int)⟩))∧(∀(d:Int) (i:Nat),i≤l.length→bA (QQ l i) (qD n d ⟨l,(i:Int)⟩))∧
 (∀(d:Int) (i:Nat),i≤l.length→bA (λs z=>∃k:Nat,z=(k:Int)∧i≤k∧k≤l.length∧wD s∧bi l i+cE (hW s)≤bi l k+3) (pF n d ⟨l,(i:Int)⟩)):=by
 intro n;induction n with
 |zero=>exact⟨λ_ _ _=>.none,λ_ _ _=>.none,λ_ _ _=>.none⟩
 |succ n aF=>
  obtain⟨hb,hs,aju⟩:=aF;have bK:=λi hi=>ajs ab hg am n i hi
  have gD:∀(d i0:Int) (i m k:Nat) (acc:List Stmt),i≤k→k≤l.length→nt acc→bi l i+(1+cE (jW acc))≤bi l k→bA (QR l i) (tp n (nb n) (qD n) (pF n) d ⟨l,i0⟩ m (k:Int) acc):=by
   intro d i0 i m;induction m with
   |zero=>intro k acc _ _ _ _;exact .none
   |succ m jk=>
    intro k acc Z aa aj aD;simp only [tp,Ha,G_];rw [kr n l k _ (by omega)]
    simp only [ai];refine bA.bif (λhc=>?_) (λhc=>?_)
    ·have hc:bk l k [125]=false:=by simpa using hc
     rw [hc];refine bA.bind (hs _ k aa) (λs z ak=>bA.aq ?_) (λx z=>.az)
     obtain⟨k',rfl,aL,a',b5,dp⟩:=ak;refine jk k' _ (by omega) a' ((YU _ _).2 ⟨aj,b5,trivial⟩) ?_
     have:cE (jW (acc++[s]))=cE (jW acc)+cE (hW s):=by rw [YV,lh];simp [jW]
     rw [this];omega
    ·have hc:bk l k [125]=true:=by simpa using hc
     obtain⟨g1,g2⟩:=hr hc;rw [hc];simp only [anc,ane]at g2;exact .ret ⟨k+1,rfl,by omega,by omega,aj,by omega⟩
  refine⟨λd i hi=>?_,λd i hi=>?_,λd i hi=>?_⟩
  ·rw [XK];simp only [Ci,Cg];rw [tU];simp only [ai]
   have hj:bA (QR l i) (Option.bind (ii n [123] ⟨l,(i:Int)⟩) λbe=>ax.on be (λbD cH=>tp n (nb n) (qD n) (pF n) d ⟨l,(i:Int)⟩ n cH []) (λCh cH=>some (.az Ch cH))):=by
    refine bA.bind (nw (l:=l) n _ i ab hi) (λ_ z ak=>?_) (λx z=>.az)
    obtain⟨rfl,aA⟩:=ak;obtain⟨g1,g2⟩:=hr (l:=l) aA;simp only [anc,ane]at g2;exact gD d _ i n (i+1) [] (by omega) (by omega) trivial (by simp [jW,cE];omega)
   exact bA.bif (λ_=>bA.bind (YR n 2 i ab) (λ_ _ bJ=>bJ.elim) (λx z=>.az)) (λ_=>hj)
  ·rw [XL];simp only [Ck,Cj];have acc:∀w,ki n w ⟨l,(i:Int)⟩=some (bk l i w,(((bif bk l i w then i+1 else i):Nat):Int)):=λw=>kr n l i w (by omega)
   have wK:(spell (cp [61])).length=1:=rfl;have zw:(spell (cp [59])).length=1:=rfl
   have one:∀(op:Int) (w:ano),bk l i w=true→(∀A:Expr,cE (hW ⟨op,[],0,A,fT,[],[]⟩)=w.length+(cE (gZ A)+1))→
    bA (QQ l i) (Option.bind (fe n 1 0 ⟨l,((i+1:Nat):Int)⟩) λte=>ax.on te (λrL k7=>Option.bind (lD n (⟨op,[],0,rL,fT,[],[]⟩:Stmt) ⟨l,k7⟩) λr=>ax.on r (λct cL=>some (.ret (⟨ct.Op,ct.Name,ct.Max,(⟨ct.A.Op,ct.A.N,ct.A.S,ct.A.ao⟩:Expr),(⟨ct.B.Op,ct.B.N,ct.B.S,ct.B.ao⟩:Expr),ct.Body,ct.bx⟩:Stmt) cL)) (λkL cL=>some (.az kL cL))) (λr6 k7=>some (.az r6 k7))):=by
    intro op w aA hw;obtain⟨g1,g2⟩:=hr (l:=l) aA;refine bA.bind (bK (i+1) (by omega)) (λA z ak=>?_) (λx z=>.az)
    obtain⟨db,rfl,aW,a2,a3,a4⟩:=ak;exact DL ab (by omega) a2 ⟨by omega,by simp,a3,wI,trivial,trivial⟩ (by rw [hw];omega)
   rw [acc];simp only [ai];refine bA.bif (λaA=>?_) (λbJ=>?_)
   ·rw [aA];obtain⟨g1,g2⟩:=hr (l:=l) aA;refine bA.bind (zv (l:=l) n 1 (i+1) ab (by omega)) (λt z ak=>?_) (λx z=>.az)
    obtain⟨rfl,bm,aB,hk⟩:=ak;have fY:=sm (l:=l) (i+1) bm;rw [←aB]at fY;obtain⟨aL,a'⟩:=(wJ (t:=t) (by rw [aB];exact am _ (sl bm))).1 hk
    rw [aL]at fY;refine bA.bind (nw (l:=l) n _ (i+1+1) ab (by omega)) (λ_ z ak=>?_) (λx z=>.az)
    obtain⟨rfl,ow⟩:=ak;obtain⟨g3,g4⟩:=hr (l:=l) ow;refine bA.bind (bK (i+1+1+1) (by omega)) (λA z ak=>?_) (λx z=>.az)
    obtain⟨db,rfl,aW,a2,a3,a4⟩:=ak;refine DL ab (by omega) a2 ⟨by omega,by omega,a3,wI,trivial,trivial⟩ ?_
    have e:hW ⟨1,t.Text,0,A,fT,[],[]⟩=eM [108,101,116]::nq t.Text::cp [61]::(gZ A++[cp [59]]):=by simp [hW]
    have o1:(spell (eM [108,101,116])).length=3:=rfl;have so:(spell (nq t.Text)).length=t.Text.length:=rfl;show bi l i+cE (hW ⟨1,t.Text,0,A,fT,[],[]⟩)≤bi l db+1
    rw [e];simp only [anc,ane]at g2 g4;simp only [cE,lh,o1,so,wK,zw];omega
   rw [bJ,show(bif false then i+1 else i)=i from rfl,acc];simp only [ai]
   refine bA.bif (λaA=>?_) (λbJ=>?_)
   ·rw [aA];obtain⟨g1,g2⟩:=hr (l:=l) aA;refine bA.bind (bK (i+1) (by omega)) (λA z ak=>?_) (λx z=>.az)
    obtain⟨db,rfl,aW,a2,a3,a4⟩:=ak;refine bA.bind (nw (l:=l) n _ db ab (by omega)) (λ_ z ak=>?_) (λx z=>.az)
    obtain⟨rfl,ow⟩:=ak;obtain⟨g3,g4⟩:=hr (l:=l) ow;refine bA.bind (bK (db+1) (by omega)) (λB z ak=>?_) (λx z=>.az)
    obtain⟨al,rfl,cG,gz,oa,t_⟩:=ak;refine DL ab (by omega) gz ⟨by omega,by simp,a3,oa,trivial,trivial⟩ ?_
    have e:hW ⟨3,[],0,A,B,[],[]⟩=eM [112,117,116]::(gZ A++cp [61]::(gZ B++[cp [59]])):=by simp [hW]
    have o1:(spell (eM [112,117,116])).length=3:=rfl;rw [e];simp only [anc,ane]at g2 g4;simp only [cE,lh,o1,wK,zw];omega
   rw [bJ,show(bif false then i+1 else i)=i from rfl,acc];simp only [ai]
   refine bA.bif (λaA=>?_) (λbJ=>?_)
   ·rw [aA];exact one 4 _ aA (λA=>by simp [hW,cE,lh,zw];rfl)
   rw [bJ,show(bif false then i+1 else i)=i from rfl,acc];simp only [ai]
   refine bA.bif (λaA=>?_) (λbJ=>?_)
   ·rw [aA];exact one 7 _ aA (λA=>by simp [hW,cE,lh,zw];rfl)
   rw [bJ,show(bif false then i+1 else i)=i from rfl,acc];simp only [ai]
   refine bA.bif (λaA=>?_) (λbJ=>?_)
   ·rw [aA];obtain⟨g1,g2⟩:=hr (l:=l) aA;refine bA.bind (zv (l:=l) n 3 (i+1) ab (by omega)) (λt z ak=>?_) (λx z=>.az)
    obtain⟨rfl,bm,aB,hk⟩:=ak;have fY:=sm (l:=l) (i+1) bm;rw [←aB]at fY;obtain⟨aL,a',b5⟩:=(wJ (t:=t) (by rw [aB];exact am _ (sl bm))).2 hk
    rw [aL]at fY;refine DL ab (by omega) (by omega) ⟨by omega,by simp,wI,wI,trivial,trivial⟩ ?_
    have e:hW ⟨8,[],t.N,fT,fT,[],[]⟩=[eM [97,98,111,114,116],wy t.N,cp [59]]:=by simp [hW]
    have o1:(spell (eM [97,98,111,114,116])).length=5:=rfl;have so:(spell (wy t.N)).length=(Lib.decDigits t.N.toNat).length:=rfl;show bi l i+cE (hW ⟨8,[],t.N,fT,fT,[],[]⟩)≤bi l (i+1+1)+1
    rw [e];simp only [anc,ane]at g2;simp only [cE,o1,so,zw];omega
   rw [bJ,show(bif false then i+1 else i)=i from rfl,acc];simp only [ai]
   refine bA.bif (λaA=>?_) (λbJ=>?_)
   ·rw [aA];obtain⟨g1,g2⟩:=hr (l:=l) aA;simp only [anc,ane]at g2;refine bA.bind (bK (i+1) (by omega)) (λA z ak=>?_) (λx z=>.az)
    obtain⟨db,rfl,aW,a2,a3,a4⟩:=ak;refine bA.bind (hb d db a2) (λhI z ak=>?_) (λx z=>.az)
    obtain⟨al,rfl,cG,gz,oa,t_⟩:=ak;have o1:(spell (eM [105,102])).length=2:=rfl;have DM:(spell (eM [101,108,115,101])).length=4:=rfl;have Jn:(spell (cp [123])).length=1:=rfl;have Jo:(spell (cp [125])).length=1:=rfl
    have xy:∀el:List Stmt,cE (hW ⟨5,[],0,A,fT,hI,el⟩)≤2+(cE (gZ A)+(2+cE (jW hI)))+(if el.length=0 then 0 else 6+cE (jW el)):=by
     intro el;by_cases h0:el.length=0
     ·have e:hW ⟨5,[],0,A,fT,hI,el⟩=eM [105,102]::(gZ A++cp [123]::(jW hI++cp [125]::[])):=by simp only [hW,h0];simp
      rw [e,if_pos h0];simp only [cE,lh,o1,Jn,Jo];omega
     ·have e:hW ⟨5,[],0,A,fT,hI,el⟩=eM [105,102]::(gZ A++cp [123]::(jW hI++cp [125]::(eM [101,108,115,101]::cp [123]::(jW el++[cp [125]])))):=by simp only [hW,h0];simp
      rw [e,if_neg h0];simp only [cE,lh,o1,DM,Jn,Jo];omega
    rw [kr n l al _ (by omega)]
    simp only [ai];refine bA.bif (λow=>?_) (λqa=>?_)
    ·rw [ow];obtain⟨g3,g4⟩:=hr (l:=l) ow;simp only [anc,ane]at g4;refine bA.bind (hb d (al+1) (by omega)) (λel z ak=>.ret ?_) (λx z=>.az)
     obtain⟨e4,rfl,c1,c2,c3,c4⟩:=ak;have:=xy el
     exact⟨e4,rfl,by omega,c2,⟨by omega,by simp,a3,wI,oa,c3⟩,by
      show bi l i+cE (hW ⟨5,[],0,A,fT,hI,el⟩)≤bi l e4
      split at this<;>omega⟩
    ·rw [qa];have:=xy []
     exact .ret ⟨al,rfl,by omega,gz,⟨by omega,by simp,a3,wI,oa,trivial⟩,by
      show bi l i+cE (hW ⟨5,[],0,A,fT,hI,[]⟩)≤bi l al
      simp only [ane,anm]at this;omega⟩
   rw [bJ,show(bif false then i+1 else i)=i from rfl,acc];simp only [ai]
   refine bA.bif (λaA=>?_) (λbJ=>?_)
   ·rw [aA];obtain⟨g1,g2⟩:=hr (l:=l) aA;refine bA.bind (aju d (i+1) (by omega)) (λs z ak=>?_) (λx z=>.az)
    obtain⟨k,rfl,aW,a2,a3,a4⟩:=ak;simp only [fI,iT];simp only [anc,ane]at g2;exact .ret ⟨k,rfl,by omega,a2,a3,by omega⟩
   rw [bJ,show(bif false then i+1 else i)=i from rfl]
   refine bA.bind (zv (l:=l) n 1 i ab hi) (λt z ak=>?_) (λx z=>.az)
   obtain⟨rfl,bm,aB,hk⟩:=ak;have fY:=sm (l:=l) i bm;rw [←aB]at fY;obtain⟨aL,a'⟩:=(wJ (t:=t) (by rw [aB];exact am _ (sl bm))).1 hk
   rw [aL]at fY;refine bA.bind (nw (l:=l) n _ (i+1) ab (by omega)) (λ_ z ak=>?_) (λx z=>.az)
   obtain⟨rfl,ow⟩:=ak;obtain⟨g3,g4⟩:=hr (l:=l) ow;refine bA.bind (bK (i+1+1) (by omega)) (λA z ak=>?_) (λx z=>.az)
   obtain⟨db,rfl,aW,a2,a3,a4⟩:=ak;refine DL ab (by omega) a2 ⟨by omega,by omega,a3,wI,trivial,trivial⟩ ?_
   have e:hW ⟨2,t.Text,0,A,fT,[],[]⟩=nq t.Text::cp [61]::(gZ A++[cp [59]]):=by simp [hW]
   have so:(spell (nq t.Text)).length=t.Text.length:=rfl;show bi l i+cE (hW ⟨2,t.Text,0,A,fT,[],[]⟩)≤bi l db+1
   rw [e];simp only [anc,ane]at g4;simp only [cE,lh,so,wK,zw];omega
  ·rw [XM];unfold Cu;refine bA.bind (zv (l:=l) n 1 i ab hi) (λt z ak=>?_) (λx z=>.az)
   obtain⟨rfl,bm,aB,hk⟩:=ak;have fY:=sm (l:=l) i bm;rw [←aB]at fY;obtain⟨aL,a'⟩:=(wJ (t:=t) (by rw [aB];exact am _ (sl bm))).1 hk
   rw [aL]at fY;refine bA.bind (nw (l:=l) n _ (i+1) ab (by omega)) (λ_ z ak=>?_) (λx z=>.az)
   obtain⟨rfl,aA⟩:=ak;obtain⟨g1,g2⟩:=hr (l:=l) aA;refine bA.bind (bK (i+1+1) (by omega)) (λA z ak=>?_) (λx z=>.az)
   obtain⟨db,rfl,aW,a2,a3,a4⟩:=ak;refine bA.bind (nw (l:=l) n _ db ab a2) (λ_ z ak=>?_) (λx z=>.az)
   obtain⟨rfl,aA⟩:=ak;obtain⟨g3,g4⟩:=hr (l:=l) aA;refine bA.bind (bK (db+1) (by omega)) (λB z ak=>?_) (λx z=>.az)
   obtain⟨al,rfl,cG,gz,oa,t_⟩:=ak;refine bA.bind (nw (l:=l) n _ al ab gz) (λ_ z ak=>?_) (λx z=>.az)
   obtain⟨rfl,aA⟩:=ak;obtain⟨g5,g6⟩:=hr (l:=l) aA;refine bA.bind (zv (l:=l) n 3 (al+1) ab (by omega)) (λu z ak=>?_) (λx z=>.az)
   obtain⟨rfl,zj,hu,eV⟩:=ak;have YW:=sm (l:=l) (al+1) zj;rw [←hu]at YW;obtain⟨b5,dp,dO⟩:=(wJ (t:=u) (by rw [hu];exact am _ (sl zj))).2 eV
   rw [b5]at YW;refine bA.bind (hb d (al+1+1) (by omega)) (λhI z ak=>.ret ?_) (λx z=>.az)
   obtain⟨e4,rfl,c1,c2,c3,c4⟩:=ak;have e:hW ⟨6,t.Text,u.N,A,B,hI,[]⟩=eM [102,111,114]::nq t.Text::cp [61]::(gZ A++eM [116,111]::(gZ B++eM [109,97,120]::wy u.N::cp [123]::(jW hI++[cp [125]]))):=by simp [hW]
   have o1:(spell (eM [102,111,114])).length=3:=rfl;have so:(spell (nq t.Text)).length=t.Text.length:=rfl;have wK:(spell (cp [61])).length=1:=rfl;have DM:(spell (eM [116,111])).length=2:=rfl;have Jn:(spell (eM [109,97,120])).length=3:=rfl;have Jo:(spell (wy u.N)).length=(Lib.decDigits u.N.toNat).length:=rfl;have ajv:(spell (cp [123])).length=1:=rfl;have ajw:(spell (cp [125])).length=1:=rfl;refine⟨e4,rfl,by omega,c2,⟨by omega,by omega,a3,oa,c3,trivial⟩,?_⟩
   rw [e];simp only [anc,ane]at g2 g4 g6;simp only [cE,lh,o1,so,wK,DM,Jn,Jo,ajv,ajw];omega
end
section
variable {l:List Token}
theorem ajx(am:∀t,t∈l→lK (cv t)){k:Nat}{p:Param}(h:n_ l k = .inl p):k+3≤l.length∧p.Name.length≤16∧bi l k+cE (ua p)≤bi l (k+3):=by
 unfold n_ at h;split at h
 ·rename_i Z;have fY:=sm (l:=l) k Z.1;have sn:=am _ (sl Z.1);generalize l.getD k default=t at h Z fY sn
  obtain⟨aL,a'⟩:=(wJ sn).1 Z.2;rw [aL]at fY;cases aa:bk l (k+1) [58]
  ·rw [aa]at h;cases h
  ·rw [aa]at h;simp only [am']at h;obtain⟨g1,g2⟩:=hr aa;simp only [anc,ane]at g2;have so:(spell (cp [58])).length=1:=rfl
   have fin:∀(ty:Int) (w:ano),bk l (k+2) w=true→qS ty=w→p=⟨t.Text,ty⟩→k+3≤l.length∧p.Name.length≤16∧bi l k+cE (ua p)≤bi l (k+3):=by
    intro ty w hw aB hp;obtain⟨g3,g4⟩:=hr hw;subst hp;have o1:(spell (nq t.Text)).length=t.Text.length:=rfl;have wK:(spell (eM (qS ty))).length=w.length:=by rw [aB];rfl
    refine⟨by omega,a',?_⟩
    have gk:bi l (k+3)=_:=g4;have lU:bi l (k+2)=_:=g2;simp only [ua,cE,o1,so,wK];omega
   cases aD:bk l (k+2) [105,110,116]
   ·cases aV:bk l (k+2) [115,116,114]
    ·cases bP:bk l (k+2) [98,111,111,108]
     ·rw [aD,aV,bP]at h;cases h
     ·rw [aD,aV,bP]at h;simp only [am',am_,Sum.inl.injEq]at h;exact fin 3 _ bP rfl h.symm
    ·rw [aD,aV]at h;simp only [am',am_,Sum.inl.injEq]at h;exact fin 2 _ aV rfl h.symm
   ·rw [aD]at h;simp only [am',Sum.inl.injEq]at h;exact fin 1 _ aD rfl h.symm
 ·cases h
theorem YX(ab:l.length≤1000000000)(am:∀t,t∈l→lK (cv t))(n i:Nat)(hi:i≤l.length):bA (λx z=>z=((i+3:Nat):Int)∧i+3≤l.length∧x.Name.length≤16∧bi l i+cE (ua x)≤bi l (i+3)) (yC n ⟨l,(i:Int)⟩):=by
 rw [P' n i ab hi];cases h:n_ l i with
 |inl p=>
  obtain⟨Z,aa,aj⟩:=ajx am h;exact .ret ⟨rfl,Z,aa,aj⟩
 |inr e=>exact .az
theorem YY:∀(a:List Param) (x:Param),cE (wF (a++[x]))=cE (wF a)+1+cE (ua x)
 |[],x=>by
  have w:(spell (cp [44])).length=1:=rfl;simp only [List.nil_append,wF,cE,lh,w];omega
 |y::a,x=>by
  have:=YY a x
  simp only [List.cons_append,wF,cE,lh];omega
theorem ajy{a:List Param}(x:Param)(h:a≠[]):cE (ub (a++[x]))=cE (ub a)+1+cE (ua x):=by
 cases a with
 |nil=>exact absurd rfl h
 |cons y a=>
  have:=YY a x
  simp only [List.cons_append,ub,lh];omega
def QS(l:List Token)(i:Nat)(p:aZ)(z:Int):Prop:=∃k:Nat,z=(k:Int)∧k≤l.length∧zq p∧bi l i+cE (Yv p)≤bi l k
theorem ajz(ab:l.length≤1000000000)(hg:jT l)(am:∀t,t∈l→lK (cv t))(n i:Nat)(hi:i≤l.length):bA (QS l i) (qE n ⟨l,(i:Int)⟩):=by
 have DM:(spell (eM [112,114,111,99])).length=4:=rfl;have ajA:(spell (cp [40])).length=1:=rfl;have ajB:(spell (cp [41])).length=1:=rfl;have ajC:(spell (cp [123])).length=1:=rfl;have ajD:(spell (cp [125])).length=1:=rfl
 have DK:∀(b:Int) (t:Token) (k:Nat) (acc:List Param),k≤l.length→t.Text.length≤16→acc.length≤k→(∀x,x∈acc→x.Name.length≤16)→bi l i+(4+t.Text.length+1+cE (ub acc)+1)≤bi l k→
  bA (QS l i) (tr n ⟨l,b⟩ t (k:Int) acc):=by
  intro b t k acc hk aB ajE hx hp;unfold tr;refine bA.bind ((ajt ab hg am n).1 0 k hk) (λhI z ak=>.ret ?_) (λx z=>.az)
  obtain⟨k',rfl,cG,gz,oa,t_⟩:=ak;refine⟨k',rfl,gz,⟨by show t.Text.length≤_;omega,by show acc.length≤_;omega,λj hj=>?_,oa⟩,?_⟩
  ·have:=hx _ (sl hj)
   show(acc.getD j default).Name.length≤_
   omega
  ·have wn:(spell (nq t.Text)).length=t.Text.length:=rfl;simp only [Yv,cE,lh,DM,ajA,ajB,ajC,ajD,wn];omega
 have Ax:∀(b:Int) (t:Token) (m k:Nat) (acc:List Param),k≤l.length→t.Text.length≤16→acc≠[]→acc.length≤k→(∀x,x∈acc→x.Name.length≤16)→bi l i+(4+t.Text.length+1+cE (ub acc))≤bi l k→
  bA (QS l i) (tu n ⟨l,b⟩ t m (k:Int) acc):=by
  intro b t m;induction m with
  |zero=>intro k acc _ _ _ _ _ _;exact .none
  |succ m aF=>
   intro k acc hk aB h0 ajE hx hp;simp only [tu,Hl,Hk];rw [kr n l k _ (by omega)]
   simp only [ai];refine bA.bif (λaA=>?_) (λbJ=>?_)
   ·rw [aA];obtain⟨g1,g2⟩:=hr (l:=l) aA;simp only [anc,ane]at g2;refine bA.bind (YX ab am n (k+1) (by omega)) (λx z ak=>.aq ?_) (λx z=>.az)
    obtain⟨rfl,aL,a',b5⟩:=ak;refine aF (k+1+3) (acc++[x]) (by omega) aB (by simp) (by simp only [anh,anc,ane];omega) (λy bV=>?_) ?_
    ·rcases List.mem_append.1 bV with bV|bV
     ·exact hx y bV
     ·rw [List.mem_singleton.1 bV];exact a'
    ·rw [ajy x h0];omega
   ·rw [bJ];refine bA.bind (nw (l:=l) n _ k ab hk) (λ_ z ak=>?_) (λx z=>.az)
    obtain⟨rfl,aA⟩:=ak;obtain⟨g1,g2⟩:=hr (l:=l) aA;simp only [anc,ane]at g2;exact DK b t (k+1) acc (by omega) aB (by omega) hx (by omega)
 unfold qE;refine bA.bind (nw (l:=l) n _ i ab hi) (λ_ z ak=>?_) (λx z=>.az)
 obtain⟨rfl,aA⟩:=ak;obtain⟨g1,g2⟩:=hr (l:=l) aA;simp only [anc,ane]at g2;refine bA.bind (zv (l:=l) n 1 (i+1) ab (by omega)) (λt z ak=>?_) (λx z=>.az)
 obtain⟨rfl,bm,aB,hk⟩:=ak;have fY:=sm (l:=l) (i+1) bm;rw [←aB]at fY;obtain⟨aL,a'⟩:=(wJ (t:=t) (by rw [aB];exact am _ (sl bm))).1 hk
 rw [aL]at fY;refine bA.bind (nw (l:=l) n _ (i+1+1) ab (by omega)) (λ_ z ak=>?_) (λx z=>.az)
 obtain⟨rfl,ow⟩:=ak;obtain⟨g3,g4⟩:=hr (l:=l) ow;simp only [anc,ane]at g4;rw [kr n l (i+1+1+1) _ (by omega)]
 simp only [ai];cases XY:bk l (i+1+1+1) [41]
 ·simp only [anb,am',am_];refine bA.bind (YX ab am n (i+1+1+1) (by omega)) (λx z ak=>.aq ?_) (λx z=>.az)
  obtain⟨rfl,gn,gU,jS⟩:=ak;refine Ax _ t n (i+1+1+1+3) [x] (by omega) a' (by simp) (by simp) (λy bV=>by rw [List.mem_singleton.1 bV];exact gU) ?_
  simp only [ub,wF,List.append_nil];omega
 ·obtain⟨g5,g6⟩:=hr (l:=l) XY;simp only [anc,ane]at g6;simp only [ana,am',am_];exact DK _ t (i+1+1+1+1) [] (by omega) a' (by simp) (λy bV=>by cases bV) (by simp only [ub,cE];omega)
end
abbrev dV(α:Type):=ano→Except Int (α×ano)
structure dM{α:Type}(D:dV α)(E:α→ano)(ok:α→Prop):Prop where
 rt:∀v t,ok v→D (E v++t) = .ok (v,t)
 fy:∀x v t,D x = .ok (v,t)→x=E v++t∧ok v
 cv:∀x e,D x = .error e→e≠0
def dM.kQ{α:Type}{D:dV α}{E:α→ano}{ok:α→Prop}(h:dM D E ok){x:ano}{v:α}{t:ano}(hx:D x = .ok (v,t)):t <:+ x:=⟨E v,(h.fy x v t hx).1.symm⟩
def dx{α β:Type}(D:dV α)(k:α→dV β):dV (α×β):=λx=>match D x with
 |.ok (v,t)=>match k v t with
  |.ok (w,u)=>.ok ((v,w),u)
  |.error e=>.error e
 |.error e=>.error e
def dM.dep{α β:Type}{D:dV α}{E:α→ano}{ok:α→Prop}{k:α→dV β}{eY:α→β→ano}{YZ:α→β→Prop}(h:dM D E ok)(aa:∀a,ok a→dM (k a) (eY a) (YZ a)):
 dM (dx D k) (λp=>E p.1++eY p.1 p.2) (λp=>ok p.1∧YZ p.1 p.2) where
 rt:=fun⟨v,w⟩ t ⟨aj,aD⟩=>by simp only [dx,List.append_assoc,h.rt v _ aj,(aa v aj).rt w t aD]
 fy:=
  λx ⟨v,w⟩ t hx=>by
  unfold dx at hx;split at hx
  ·rename_i v0 t0 hd;obtain⟨aj,aD⟩:=h.fy _ _ _ hd;split at hx
   ·rename_i QT nI hk;obtain⟨aV,bP⟩:=(aa v0 aD).fy _ _ _ hk;cases hx;exact⟨by rw [aj,aV,List.append_assoc],aD,bP⟩
   ·cases hx
  ·cases hx
 cv:=
  λx e hx=>by
  unfold dx at hx;split at hx
  ·rename_i v0 t0 hd;split at hx
   ·cases hx
   ·rename_i bU hk;cases hx;exact(aa v0 (h.fy _ _ _ hd).2).cv _ _ hk
  ·rename_i bU hd;cases hx;exact h.cv _ _ hd
def fr{α β:Type}(f:α→β)(D:dV α):dV β:=λx=>match D x with
 |.ok (v,t)=>.ok (f v,t)
 |.error e=>.error e
def dM.map{α β:Type}{D:dV α}{E:α→ano}{ok:α→Prop}(h:dM D E ok)(f:α→β)(g:β→α)(zx:β→Prop)(cQ:β→ano)(Z:∀b,zx b→f (g b)=b∧ok (g b)∧cQ b=E (g b))(aa:∀a,ok a→g (f a)=a∧zx (f a)):
 dM (fr f D) cQ zx where
 rt:=λv t am=>by
  obtain⟨aj,aD,aV⟩:=Z v am;simp only [fr,aV,h.rt _ t aD,aj]
 fy:=λx v t hx=>by
  unfold fr at hx;split at hx
  ·rename_i v0 t0 hd;cases hx;obtain⟨aj,aD⟩:=h.fy _ _ _ hd;obtain⟨aV,bP⟩:=aa _ aD;obtain⟨_,_,dF⟩:=Z _ bP;exact⟨by rw [dF,aV,aj],bP⟩
  ·cases hx
 cv:=λx e hx=>by
  unfold fr at hx;split at hx
  ·cases hx
  ·rename_i bU hd;cases hx;exact h.cv _ _ hd
def mb{α:Type}(p:α→Bool)(e:Int)(D:dV α):dV α:=λx=>match D x with
 |.ok (v,t)=>if p v then .ok (v,t)else .error e
 |.error f=>.error f
def dM.chk{α:Type}{D:dV α}{E:α→ano}{ok:α→Prop}(h:dM D E ok)(p:α→Bool)(e:Int)(he:e≠0):dM (mb p e D) E (λv=>ok v∧p v=true) where
 rt:=λv t ⟨Z,aa⟩=>by simp only [mb,h.rt v t Z,aa,anm]
 fy:=
  λx v t hx=>by
  unfold mb at hx;split at hx
  ·rename_i v0 t0 hd;split at hx
   ·rename_i hp;cases hx;exact⟨(h.fy _ _ _ hd).1,(h.fy _ _ _ hd).2,hp⟩
   ·cases hx
  ·cases hx
 cv:=λx f hx=>by
  unfold mb at hx;split at hx
  ·split at hx
   ·cases hx
   ·cases hx;exact he
  ·rename_i bU hd;cases hx;exact h.cv _ _ hd
def iF{α:Type}(E:α→ano)(l:List α):ano:=(l.map E).flatten
def zy{α:Type}(E:α→ano)(v:α)(l:List α):iF E (v::l)=E v++iF E l:=rfl
def ajF{α:Type}(E:α→ano):iF E []=[]:=rfl
def gK{α:Type}(D:dV α):Nat→dV (List α)
 | 0,x=>.ok ([],x)
 |n+1,x=>match D x with
  |.ok (v,t)=>match gK D n t with
   |.ok (l,u)=>.ok (v::l,u)
   |.error e=>.error e
  |.error e=>.error e
def dM.rep{α:Type}{D:dV α}{E:α→ano}{ok:α→Prop}(h:dM D E ok):∀n,dM (gK D n) (iF E) (λl=>l.length=n∧∀v∈l,ok v)
 | 0=>{
  rt:=λv t ⟨Z,_⟩=>by
   obtain rfl:=List.eq_nil_of_length_eq_zero Z;rfl
  fy:=λx v t hx=>by cases hx;exact⟨rfl,rfl,λv am=>by cases am⟩
  cv:=λx e hx=>by cases hx}
 |n+1=>{
  rt:=λv t ⟨Z,aa⟩=>by
   cases v with
   |nil=>simp at Z
   |cons a l=>
    have aj:=h.rt a (iF E l++t) (aa a (by simp))
    have aD:=(dM.rep h n).rt l t ⟨by simpa using Z,λv am=>aa v (by simp [am])⟩
    simp only [gK,zy,List.append_assoc,aj,aD]
  fy:=
   λx v t hx=>by
   unfold gK at hx;split at hx
   ·rename_i v0 t0 hd;split at hx
    ·rename_i l0 nI hk;cases hx;obtain⟨aj,aD⟩:=h.fy _ _ _ hd;obtain⟨aV,bP,dF⟩:=(dM.rep h n).fy _ _ _ hk;refine⟨by rw [aj,aV,zy,List.append_assoc],by simp [bP],λv am=>?_⟩
     rcases List.mem_cons.1 am with rfl|am
     ·exact aD
     ·exact dF v am
    ·cases hx
   ·cases hx
  cv:=λx e hx=>by
   unfold gK at hx;split at hx
   ·split at hx
    ·cases hx
    ·rename_i bU hk;cases hx;exact(dM.rep h n).cv _ _ hk
   ·rename_i bU hd;cases hx;exact h.cv _ _ hd}
def mc:Nat→dV Nat
 | 0,_=>.error 5
 |_+1,[]=>.error 6
 |k+1,c::t=>if k=0∧1<c.toNat∨c.toNat=0∧k<9 then .error 5 else if c.toNat<128 then .ok (c.toNat,t)else match mc k t with
  |.ok (u,t)=>.ok (c.toNat % 128+128*u,t)
  |.error e=>.error e
def qU:dV Nat:=mc 10
def Y0:∀(k u:Nat) (t:ano),u<2 ^ (7*k+1)→(k<9→0<u)→mc (k+1) (eD u++t) = .ok (u,t)
 |k,u,t,h,h0=>by
  rw [eD];by_cases hu:u<128
  ·rw [if_pos hu];have e:(UInt8.ofNat u).toNat=u:=by simp only [UInt8.toNat_ofNat'];omega
   simp only [List.singleton_append,mc,e];rw [if_neg,if_pos hu];intro bh;rcases bh with⟨rfl,aa⟩|⟨Z,aa⟩
   ·simp at h;omega
   ·have:=h0 aa;omega
  ·rw [if_neg hu];have e:(UInt8.ofNat (u % 128+128)).toNat=u % 128+128:=by simp only [UInt8.toNat_ofNat'];omega
   cases k with
   |zero=>simp at h;omega
   |succ k=>
    have:=Y0 k (u / 128) t (by rw [show 7*(k+1)+1=7*k+1+7 by omega,Nat.pow_add]at h;omega) (λ_=>by omega)
    simp only [List.cons_append,mc,e]at this ⊢;rw [if_neg (by omega),if_neg (by omega),this]
    simp only
    rw [show(u % 128+128) % 128+128*(u / 128)=u by omega]
def QU:∀(k:Nat) (x:ano) (u:Nat) (t:ano),k≤9→mc (k+1) x = .ok (u,t)→x=eD u++t∧u<2 ^ (7*k+1)∧(k<9→0<u)
 |k,[],u,t,_,h=>by simp [mc]at h
 |k,c::x,u,t,I0,h=>by
  have hc:=c.toNat_lt;unfold mc at h;split at h
  ·cases h
  ·rename_i Z;split at h
   ·rename_i aa;cases h;rw [eD,if_pos aa];refine⟨by simp,?_,λh'=>by omega⟩
    cases k with
    |zero=>simp;omega
    |succ k=>
     rw [show 7*(k+1)+1=7*k+1+7 by omega,Nat.pow_add]
     have:=Nat.two_pow_pos (7*k+1)
     omega
   ·rename_i aa;split at h
    ·rename_i nI t0 hu;cases h;cases k with
     |zero=>simp [mc]at hu
     |succ k=>
      obtain⟨aj,aD,aV⟩:=QU k _ _ _ (by omega) hu
      refine⟨?_,?_,λ_=>?_⟩
      ·have abG:0<nI:=by
        by_cases h':k<9
        ·exact aV h'
        ·omega
       rw [eD,if_neg (by omega),aj]
       rw [show(c.toNat % 128+128*nI) / 128=nI by omega,show(c.toNat % 128+128*nI) % 128+128=c.toNat by omega]
       simp
      ·rw [show 7*(k+1)+1=7*k+1+7 by omega,Nat.pow_add]
       generalize 2 ^ (7*k+1)=P at aD ⊢
       omega
      ·by_cases h':k<9
       ·have:=aV h';omega
       ·omega
    ·cases h
def Y1:∀(k:Nat) (x:ano) (e:Int),mc k x = .error e→e=5∨e=6
 | 0,x,e,h=>by cases h;simp
 |k+1,[],e,h=>by cases h;simp
 |k+1,c::x,e,h=>by
  unfold mc at h;split at h
  ·cases h;simp
  ·split at h
   ·cases h
   ·split at h
    ·cases h
    ·rename_i bU hu;cases h;exact Y1 k _ _ hu
def qV:dM qU eD (λu=>u<18446744073709551616) where
 rt:=λu t h=>Y0 9 u t h (by omega)
 fy:=λx u t h=>⟨(QU 9 x u t (by omega) h).1,(QU 9 x u t (by omega) h).2.1⟩
 cv:=λx e h=>by have:=Y1 10 x e h;omega
def hX:dV Int:=fr (λu:Nat=>(u:Int)) qU
def hD(z:Int):Prop:=0≤z∧z<18446744073709551616
def iV(z:Int):ano:=eD z.toNat
def md:dM hX iV hD:=
 qV.map _ Int.toNat hD iV (λb h=>by unfold hD at h;exact⟨by omega,by omega,rfl⟩) (λa h=>⟨by omega,by unfold hD;omega⟩)
def zz(u:Nat):Int:=if u % 2=1 then -((u / 2:Nat):Int)-1 else((u / 2:Nat):Int)
def ir:dV Int:=fr zz qU
def kv:dM ir mJ h8:=
 qV.map _ fold h8 mJ (λb h=>⟨by unfold h8 at h;unfold fold zz;split<;>(split<;>omega),QH h,rfl⟩)
  (λa h=>⟨by unfold fold zz;split<;>(split<;>omega),by unfold h8 zz;split<;>omega⟩)
def iG(cN:Nat):dV Nat:=λx=>match qU x with
 |.ok (u,t)=>if cN<u then .error 2 else if t.length<u then .error 6 else .ok (u,t)
 |.error e=>.error e
def o2{cN:Nat}{x t:ano}{u:Nat}(h:iG cN x = .ok (u,t)):x=eD u++t∧u≤cN∧u≤t.length:=by
 unfold iG at h;split at h
 ·rename_i nI t0 hd;split at h
  ·cases h
  ·split at h
   ·cases h
   ·cases h;exact⟨(qV.fy _ _ _ hd).1,by omega,by omega⟩
 ·cases h
def oh{cN:Nat}{x:ano}{e:Int}(h:iG cN x = .error e):e≠0:=by
 unfold iG at h;split at h
 ·split at h
  ·cases h;omega
  ·split at h
   ·cases h;omega
   ·cases h
 ·rename_i bU hd;cases h;exact qV.cv _ _ hd
def Y2{cN u:Nat}{t:ano}(h:u≤cN)(Z:cN<18446744073709551616)(aa:u≤t.length):iG cN (eD u++t) = .ok (u,t):=by
 unfold iG;rw [qV.rt u t (by omega)]
 simp only
 rw [if_neg (by omega),if_neg (by omega)]
def iW{α:Type}(cN:Nat)(D:dV α):dV (List α):=λx=>match iG cN x with
 |.ok (u,t)=>gK D u t
 |.error e=>.error e
def dE{α:Type}(E:α→ano)(l:List α):ano:=eD l.length++iF E l
def Jp{α:Type}{E:α→ano}:∀{l:List α},(∀v∈l,E v≠[])→l.length≤(iF E l).length
 |[],_=>by simp
 |v::l,h=>by
  have Z:(E v).length≠0:=by simpa using h v (by simp)
  have aa:=Jp (E:=E) (l:=l) λw hw=>h w (by simp [hw])
  simp only [zy,anh,anc];omega
def dM.ue{α:Type}{D:dV α}{E:α→ano}{ok:α→Prop}(h:dM D E ok)(cN:Nat)(hm:cN<18446744073709551616)(dj:∀v,ok v→E v≠[]):dM (iW cN D) (dE E) (λl=>l.length≤cN∧∀v∈l,ok v) where
 rt:=λl t ⟨Z,aa⟩=>by
  have aj:=Jp (E:=E) (l:=l) λv am=>dj v (aa v am)
  unfold iW dE;rw [List.append_assoc,Y2 Z hm (by simp;omega)]
  exact(h.rep l.length).rt l t ⟨rfl,aa⟩
 fy:=λx l t hx=>by
  unfold iW at hx;split at hx
  ·rename_i nI t0 hd;obtain⟨Z,aa,aj⟩:=o2 hd;obtain⟨aD,aV,bP⟩:=(h.rep nI).fy _ _ _ hx;subst aV;exact⟨by rw [Z,aD,dE,List.append_assoc],aa,bP⟩
  ·cases hx
 cv:=λx e hx=>by
  unfold iW at hx;split at hx
  ·exact(h.rep _).cv _ _ hx
  ·rename_i bU hd;cases hx;exact oh hd
def fz(cN:Nat):dV ano:=λx=>match iG cN x with
 |.ok (u,t)=>.ok (t.take u,t.drop u)
 |.error e=>.error e
def zA(cN:Nat)(hm:cN<18446744073709551616):dM (fz cN) fV (λs=>s.length≤cN) where
 rt:=λs t h=>by
  unfold fz fV;rw [List.append_assoc,Y2 h hm (by simp)]
  simp
 fy:=λx s t hx=>by
  unfold fz at hx;split at hx
  ·rename_i nI t0 hd;obtain⟨Z,aa,aj⟩:=o2 hd;cases hx;have:(t0.take nI).length=nI:=by simp;omega
   unfold fV;rw [this];exact⟨by rw [List.append_assoc,List.take_append_drop,Z],by omega⟩
  ·cases hx
 cv:=λx e hx=>by
  unfold fz at hx;split at hx
  ·cases hx
  ·rename_i bU hd;cases hx;exact oh hd
def qW:dV Bool
 |[]=>.error 6
 |c::t=>if 1<c.toNat then .error 5 else .ok (decide (c.toNat=1),t)
def wL(b:Bool):ano:=if b then[1] else[0]
def QV:dM qW wL (λ_=>True) where
 rt:=λb t _=>by cases b<;>rfl
 fy:=
  λx b t hx=>by
  cases x with
  |nil=>cases hx
  |cons c x=>
   simp only [qW]at hx;by_cases Z:1<c.toNat
   ·rw [if_pos Z]at hx;cases hx
   ·rw [if_neg Z]at hx;cases hx;refine⟨?_,trivial⟩
    unfold wL;by_cases aa:c.toNat=1
    ·rw [decide_eq_true aa];have:c=1:=UInt8.toNat_inj.1 (by simpa using aa)
     rw [this];rfl
    ·rw [decide_eq_false aa];have:c=0:=UInt8.toNat_inj.1 (by simp;omega)
     rw [this];rfl
 cv:=λx e hx=>by
  cases x with
  |nil=>cases hx;omega
  |cons c x=>
   simp only [qW]at hx;by_cases Z:1<c.toNat
   ·rw [if_pos Z]at hx;cases hx;omega
   ·rw [if_neg Z]at hx;cases hx
def pU(u:Nat):eD u≠[]:=by rw [eD];split<;>simp
def QW{α:Type}(v:α):dV α:=λx=>.ok (v,x)
def Y3{α:Type}(v:α):dM (QW v) (λ_=>[]) (λw=>w=v) where
 rt:=λw t h=>by subst h;rfl
 fy:=λx w t h=>by cases h;exact⟨rfl,rfl⟩
 cv:=λx e h=>by cases h
def dM.as{α:Type}{D:dV α}{E:α→ano}{ok:α→Prop}(h:dM D E ok)(cQ:α→ano)(zx:α→Prop)(Z:∀v,zx v↔ok v)(aa:∀v,ok v→cQ v=E v):dM D cQ zx where
 rt:=λv t am=>by rw [aa v ((Z v).1 am)];exact h.rt v t ((Z v).1 am)
 fy:=λx v t hx=>by
  obtain⟨aj,aD⟩:=h.fy x v t hx;exact⟨by rw [aa v aD];exact aj,(Z v).2 aD⟩
 cv:=h.cv
def nx(lo hi:Int):dV Int:=mb (λz=>decide (lo≤z)&&decide (z≤hi)) 5 hX
def QX{lo hi:Int}(h0:0≤lo)(Z:hi<18446744073709551616):dM (nx lo hi) iV (λz=>lo≤z∧z≤hi):=
 (md.chk _ 5 (by omega)).as _ _ (λv=>by simp only [Bool.and_eq_true,decide_eq_true_eq,hD];omega) (λ_ _=>rfl)
def zB(k:Int):dV br:=if k=0 then QW ⟨0,0,[]⟩else if k=1 then fr (λn=>⟨1,n,[]⟩) ir else if k=2 then mb (λv=>iC v.S) 5 (fr (λs=>⟨2,0,s⟩) (fz 64))else λ_=>.error 5
def me:dV br:=fr Prod.snd (dx hX zB)
def sq(v:br):Prop:=ku v=true∧h8 v.N
def Y4{s:ano}(h:iC s=true):s.length≤64:=by
 unfold iC at h;simp only [Bool.and_eq_true,decide_eq_true_eq]at h;exact h.2
def wM{v:br}(h:ku v=true):v=⟨0,0,[]⟩∨(v.Kind=1∧v.S=[])∨(v.Kind=2∧v.N=0∧iC v.S=true):=by
 obtain⟨k,n,s⟩:=v;unfold ku at h;simp only at h ⊢
 split at h
 ·rename_i h0;simp only [Bool.and_eq_true,decide_eq_true_eq]at h;obtain⟨rfl,rfl⟩:=h;exact .inl (by rw [h0])
 ·split at h
  ·rename_i Z;exact .inr (.inl ⟨Z,by simpa using h⟩)
  ·simp only [Bool.and_eq_true,decide_eq_true_eq]at h;exact .inr (.inr ⟨h.1.1,h.1.2,h.2⟩)
def sr:dM me cO sq:=by
 have d9:∀k,hD k→dM (zB k) (λv=>if k=1 then mJ v.N else if k=2 then fV v.S else[]) (λv=>sq v∧v.Kind=k):=by
  intro k hk;unfold zB;by_cases h0:k=0
  ·subst h0;rw [if_pos rfl];refine(Y3 _).as _ _ (λv=>⟨fun⟨⟨Z,aa⟩,aj⟩=>?_,λh=>?_⟩) (λv _=>?_)
   ·rcases wM Z with h|h|h
    ·exact h
    ·exact absurd (h.1.symm.trans aj) (by omega)
    ·exact absurd (h.1.symm.trans aj) (by omega)
   ·subst h;exact⟨⟨rfl,by unfold h8;simp⟩,rfl⟩
   ·simp
  ·rw [if_neg h0];by_cases Z:k=1
   ·subst Z;rw [if_pos rfl];refine kv.map _ (λv=>v.N) _ _ (λv ⟨⟨aa,aj⟩,aD⟩=>⟨?_,aj,by simp⟩) (λn hn=>⟨rfl,⟨⟨by simp [ku],hn⟩,rfl⟩⟩)
    rcases wM aa with h|h|h
    ·rw [h]at aD;exact absurd aD (by simp)
    ·obtain⟨a,b,c⟩:=v;simp only at h aD ⊢;rw [aD,h.2]
    ·exact absurd (h.1.symm.trans aD) (by omega)
   ·rw [if_neg Z];by_cases aa:k=2
    ·subst aa;rw [if_pos rfl];refine(((zA 64 (by omega)).map (λs=>(⟨2,0,s⟩:br)) (λv=>v.S) (λv=>v.Kind=2∧v.N=0∧v.S.length≤64) (λv=>fV v.S) (λv ⟨aj,aD,aV⟩=>⟨?_,aV,rfl⟩) (λs hs=>⟨rfl,rfl,rfl,hs⟩)).chk _ 5 (by omega)).as _ _ (λv=>⟨fun⟨⟨aj,aD⟩,aV⟩=>?_,fun⟨⟨aj,aD,aV⟩,bP⟩=>?_⟩) (λv _=>by simp)
     ·obtain⟨a,b,c⟩:=v;simp only at aj aD ⊢;rw [aj,aD]
     ·rcases wM aj with h|h|h
      ·rw [h]at aV;exact absurd aV (by simp)
      ·exact absurd (h.1.symm.trans aV) (by omega)
      ·exact⟨⟨h.1,h.2.1,Y4 h.2.2⟩,h.2.2⟩
     ·refine⟨⟨?_,by rw [aD];unfold h8;omega⟩,aj⟩
      unfold ku;rw [aj,aD];simp [bP]
    ·rw [if_neg aa]
     exact {
      rt:=λv t ⟨⟨aj,aD⟩,aV⟩=>by
       exfalso
       rcases wM aj with h|h|h
       ·rw [h]at aV;exact h0 aV.symm
       ·exact Z (aV.symm.trans h.1)
       ·exact aa (aV.symm.trans h.1)
      fy:=λx v t h=>by cases h
      cv:=λx e h=>by cases h;omega}
 refine(md.dep d9).map Prod.snd (λv=>(v.Kind,v)) sq cO (λv am=>⟨rfl,⟨?_,am,rfl⟩,?_⟩) (fun⟨k,v⟩ ⟨Z,aa,aj⟩=>⟨congrArg (·,v) aj,aa⟩)
 ·rcases wM am.1 with h|h|h
  ·rw [h];unfold hD;simp
  ·unfold hD;rw [h.1];omega
  ·unfold hD;rw [h.1];omega
 ·unfold cO iV;rcases wM am.1 with h|h|h
  ·rw [h];simp
  ·simp only [h.1];rfl
  ·simp only [h.1];rfl
def ajG(v:br):cO v≠[]:=by
 unfold cO;split
 ·simp [pU]
 ·split
  ·simp [pU]
  ·exact pU _
def res{α:Type}(z:α)(s:ano):Except Int (α×ano)→α×Int×Int
 |.ok (v,t)=>(v,((s.length-t.length:Nat):Int),0)
 |.error e=>(z,0,e)
def a_(s t:ano):Int:=((s.length-t.length:Nat):Int)
def DN(p t:ano):a_ (p++t) t=(p.length:Int):=by unfold a_;simp
def ajH(s:ano):a_ s s=0:=by unfold a_;simp
def gF{α:Type}{z:α}{s t:ano}{v:α}:res z s (.ok (v,t))=(v,a_ s t,0):=rfl
def fg{α:Type}{z:α}{s:ano}{e:Int}:res z s (.error e)=(z,0,e):=rfl
def QY{α β:Type}{DJ:β}{s:ano}{f:α→β}{D:dV α}{t:ano}:res DJ s (fr f D t)=match D t with|.ok (v,t)=>(f v,a_ s t,0)|.error e=>(DJ,0,e):=by
 unfold fr;cases D t<;>rfl
def Y5(p x:ano)(i:Nat):(p++x).getD (p.length+i) 0=x.getD i 0:=by
 simp [List.getD_eq_getElem?_getD,List.getElem?_append_right]
def ajI:∀x:Nat,x<256→o7 .u8 (x:Int) 127=((x % 128:Nat):Int):=by decide +kernel
def ajJ{a b i:Nat}(h:a<2 ^ i)(hb:a+2 ^ i*b<18446744073709551616):p3 .u64 (a:Int) ((2 ^ i*b:Nat):Int)=((a+2 ^ i*b:Nat):Int):=by
 unfold p3
 have e:((BitVec.ofInt (IntKind.bits .u64) (a:Int) |||BitVec.ofInt (IntKind.bits .u64) ((2 ^ i*b:Nat):Int)).toNat)=a+2 ^ i*b:=by
  rw [BitVec.toNat_or,BitVec.toNat_ofInt,BitVec.toNat_ofInt];simp only [IntKind.bits];rw [show(((a:Int) % ((2 ^ 64:Nat):Int)).toNat)=a by omega,show((((2 ^ i*b:Nat):Int) % ((2 ^ 64:Nat):Int)).toNat)=2 ^ i*b by omega]
  rw [Nat.or_comm,←Nat.two_pow_add_eq_or_of_lt h,Nat.add_comm]
 rw [e,qT hb]
def ajK{c i:Nat}(hi:i≤63)(h:2 ^ i*c<18446744073709551616):oq .u64 (c:Int) (i:Int)=((2 ^ i*c:Nat):Int):=by
 unfold oq
 (simp only [anf];rw [show min i (IntKind.bits .u64)=i by simp only [IntKind.bits];omega,show(c:Int)*2 ^ i=((2 ^ i*c:Nat):Int)by rw [Nat.mul_comm];norm_cast,qT h])
def ajL{i c:Nat}(hi:i≤9)(hc:c<128)(h':i=9→c≤1):2 ^ (7*i)*c<18446744073709551616∧∀a,a<2 ^ (7*i)→a+2 ^ (7*i)*c<18446744073709551616:=by
 have h:i=0∨i=1∨i=2∨i=3∨i=4∨i=5∨i=6∨i=7∨i=8∨i=9:=by omega
 rcases h with h|h|h|h|h|h|h|h|h|h<;>subst h<;>simp only [Nat.reduceMul,Nat.reducePow]<;>(try have:=h' rfl)<;>exact⟨by omega,λa ha=>by omega⟩
def DO{i:Nat}(h:i≤9223372036854775807):anq (i:Int)=(i:Int):=by rw [wr]<;>omega
def ajM(n a:Nat):∀(k m i:Nat) (x pre:ano) (acc:Nat),i+k=10→pre.length=a+i→acc<2 ^ (7*i)→k<m→(pre++x).length≤4611686018427387904→
 BT n (pre++x) (a:Int) m (i:Int) (acc:Int)=some (match mc k x with|.ok (u,t)=>(((acc+2 ^ (7*i)*u:Nat):Int),a_ (pre++x) t,0)|.error e=>(0,0,e)):=by
 intro k;induction k with
 |zero=>
  intro m i x pre acc hi hp ha hm ab;obtain⟨m,rfl⟩:∃j,m=j+1:=⟨m-1,by omega⟩
  obtain rfl:i=10:=by omega
  rfl
 |succ k aF=>
  intro m i x pre acc hi hp ha hm ab;obtain⟨m,rfl⟩:∃j,m=j+1:=⟨m-1,by omega⟩
  have amX:(pre++x).length=pre.length+x.length:=List.length_append;have e1:anq ((a:Int)+(i:Int))=((pre.length:Nat):Int):=by rw [wr]<;>omega
  have ajN:i≤9:=by omega
  simp only [BT,Nk,e1];rw [show(decide ((i:Int)<10))=true from decide_eq_true (by omega)]
  simp only [am'];cases x with
  |nil=>
   simp only [List.append_nil,Int.le_refl,am8,am',mc]
  |cons c x=>
   have hlen:(pre++c::x).length=pre.length+(x.length+1):=by simp
   have hg:(pre++c::x).getD pre.length 0=c:=by
    have:=Y5 pre (c::x) 0
    simpa using this
   have hc:=c.toNat_lt;rw [show(decide ((((pre++c::x).length:Nat):Int)≤((pre.length:Nat):Int)))=false from decide_eq_false (by omega)]
   simp only [am_,b3 (show pre.length<(pre++c::x).length by omega),aM,anf,hg]
   have e2:anq (7*(i:Int))=((7*i:Nat):Int):=by rw [wr]<;>omega
   have e3:anq (((pre.length:Nat):Int)+1)=((pre.length+1:Nat):Int):=bg (by omega)
   have gk:anq ((i:Int)+1)=((i+1:Nat):Int):=bg (by omega)
   have lU:a_ (pre++c::x) x=((pre.length+1:Nat):Int):=by
    have:=DN (pre++[c]) x
    simpa using this
   unfold mc;by_cases Y6:k=0∧1<c.toNat∨c.toNat=0∧k<9
   ·rw [if_pos Y6,show(bif (bif (decide ((i:Int)=9)) then(decide (1<((c.toNat:Nat):Int)))else false)then true else(bif (decide (((c.toNat:Nat):Int)=0)) then(decide (0<(i:Int)))else false))=true by
     rw [eo,eT,eT,←Bool.decide_and,←Bool.decide_and,←Bool.decide_or];exact decide_eq_true (by omega)]
    rfl
   ·rw [if_neg Y6,show(bif (bif (decide ((i:Int)=9)) then(decide (1<((c.toNat:Nat):Int)))else false)then true else(bif (decide (((c.toNat:Nat):Int)=0)) then(decide (0<(i:Int)))else false))=false by
     rw [eo,eT,eT,←Bool.decide_and,←Bool.decide_and,←Bool.decide_or];exact decide_eq_false (by omega)]
    have hb:=ajL (c:=c.toNat % 128) ajN (by omega) (by omega)
    have qP:p3 .u64 (acc:Int) (oq .u64 (IntKind.u64.wrap (o7 .u8 ((c.toNat:Nat):Int) 127)) (anq (7*(i:Int))))=((acc+2 ^ (7*i)*(c.toNat % 128):Nat):Int):=by
     rw [ajI _ hc,qT (by omega),e2,ajK (by omega) hb.1,ajJ ha (hb.2 acc ha)]
    simp only [am_,qP,e3,gk];rw [e2,show nA ((7*i:Nat):Int)=true by simp only [nA,decide_eq_true_eq];omega,aM]
    by_cases hs:c.toNat<128
    ·rw [if_pos hs,show(decide (((c.toNat:Nat):Int)<128))=true from decide_eq_true (by omega)]
     simp only [am',lU,Nat.mod_eq_of_lt hs]
    ·rw [if_neg hs,show(decide (((c.toNat:Nat):Int)<128))=false from decide_eq_false (by omega)]
     have EL:2 ^ (7*(i+1))=2 ^ (7*i)*128:=by rw [show 7*(i+1)=7*i+7 by omega,Nat.pow_add]
     have oV:=aF m (i+1) x (pre++[c]) (acc+2 ^ (7*i)*(c.toNat % 128)) (by omega) (by simp;omega) (by
      rw [EL];have Z:2 ^ (7*i)*(c.toNat % 128)≤2 ^ (7*i)*127:=Nat.mul_le_mul_left _ (by omega)
      omega) (by omega) (by simp at ab ⊢;omega)
     rw [show pre++[c]++x=pre++c::x by simp]at oV
     simp only [am_];rw [oV]
     congr 1
     cases mc k x with
     |error e=>rfl
     |ok r=>
      obtain⟨u,t⟩:=r;simp only
      rw [EL,Nat.mul_add,Nat.mul_assoc,Nat.add_assoc]
def Y7{n:Nat}{s t:ano}(h:t <:+ s):BS n s (a_ s t)=some false:=by
 unfold BS a_;have:=h.length_le
 rw [decide_eq_false (by omega),decide_eq_false (by omega)];rfl
def zC{n:Nat}{s t:ano}(aB:t <:+ s)(hs:s.length≤4611686018427387904)(hn:12≤n):rN n s (a_ s t)=some (res 0 s (hX t)):=by
 unfold rN;rw [Y7 (n:=n) aB];obtain⟨pre,rfl⟩:=aB;rw [DN,ai,am_];refine(ajM n pre.length 10 n 0 t pre 0 (by omega) (by omega) (by simp) (by omega) hs).trans (congrArg some ?_)
 unfold hX qU;rw [QY];cases mc 10 t with
 |error e=>rfl
 |ok r=>obtain⟨u,bE⟩:=r;simp
def gd{e:Int}(h:e≠0):(!decide (e=0))=true:=by simp [h]
def Y8{t bE:ano}{u:Nat}(h:qU t = .ok (u,bE)):hX t = .ok ((u:Int),bE):=by simp only [hX,fr,h]
def Y9{t:ano}{e:Int}(h:qU t = .error e):hX t = .error e:=by simp only [hX,fr,h]
def ajO{u:Nat}(h:u<18446744073709551616):o7 .u64 (u:Int) 1=((u % 2:Nat):Int):=by
 unfold o7
 have e:((BitVec.ofInt (IntKind.bits .u64) (u:Int) &&& BitVec.ofInt (IntKind.bits .u64) 1).toNat)=u % 2:=by
  rw [BitVec.toNat_and,BitVec.toNat_ofInt,BitVec.toNat_ofInt];simp only [IntKind.bits];rw [show(((u:Int) % ((2 ^ 64:Nat):Int)).toNat)=u by omega,show(((1:Int) % ((2 ^ 64:Nat):Int)).toNat)=1 by decide,Nat.and_one_is_mod]
 rw [e,qT (by omega)]
def ajP{u:Nat}:mN .u64 (u:Int) 1=((u / 2:Nat):Int):=by
 unfold mN;rw [show min (1:Int).toNat (IntKind.bits .u64)=1 by decide,Int.fdiv_eq_ediv_of_nonneg _ (by omega)]
 omega
def ajQ{a:Nat}(h:a<9223372036854775808):mi .i64 (a:Int) 0=(a:Int):=by
 unfold mi;rw [show BitVec.ofInt (IntKind.bits .i64) 0=0#_ from rfl,BitVec.xor_zero]
 rw [show((BitVec.ofInt (IntKind.bits .i64) (a:Int)).toNat:Int)=(a:Int) by
  rw [BitVec.toNat_ofInt];simp only [IntKind.bits];omega]
 exact DO (by omega)
def ajR{a:Nat}(h:a<9223372036854775808):mi .i64 (a:Int) (-1) = -(a:Int)-1:=by
 unfold mi;rw [show BitVec.ofInt (IntKind.bits .i64) (-1)=BitVec.allOnes _ by decide,BitVec.xor_allOnes]
 rw [show((~~~ BitVec.ofInt (IntKind.bits .i64) (a:Int)).toNat:Int)=((18446744073709551615-a:Nat):Int) by
  rw [BitVec.toNat_not,BitVec.toNat_ofInt];simp only [IntKind.bits];omega]
 (try unfold anq);rw [IntKind.wrap_i64];omega
def ajS{u:Nat}(h:u<18446744073709551616):mi .i64 (anq (mN .u64 (u:Int) 1)) (anq (0-(anq (o7 .u64 (u:Int) 1))))=zz u:=by
 rw [ajP,ajO h,DO (i:=u / 2) (by omega),DO (i:=u % 2) (by omega)]
 unfold zz;by_cases aa:u % 2=1
 ·rw [if_pos aa,aa,show anq (0-((1:Nat):Int)) = -1 by decide,ajR (by omega)]
 ·rw [if_neg aa,show u % 2=0 by omega,show anq (0-((0:Nat):Int))=0 by decide,ajQ (by omega)]
def QZ{n:Nat}{s t:ano}(aB:t <:+ s)(hs:s.length≤4611686018427387904)(hn:12≤n):yh n s (a_ s t)=some (res 0 s (ir t)):=by
 unfold yh ir fr;rw [zC aB hs hn,ai];cases h:qU t with
 |error e=>
  rw [Y9 h,fg];simp only [gd (qV.cv _ _ h),am',fg]
 |ok r=>
  obtain⟨u,bE⟩:=r;rw [Y8 h,gF];simp only [am8,ana,am_,ajS (qV.fy _ _ _ h).2,gF]
def pV(cN:Nat):dV Int:=fr (λu:Nat=>(u:Int)) (iG cN)
def ajT{s t:ano}(aB:t <:+ s)(hs:s.length≤4611686018427387904):IntKind.u64.wrap (anq (((s.length:Nat):Int)-a_ s t))=((t.length:Nat):Int):=by
 have:=aB.length_le
 unfold a_;rw [wr (by omega) (by omega),IntKind.wrap_u64];omega
def ajU{t bE:ano}{u:Nat}(h:qU t = .ok (u,bE)):bE <:+ t:=qV.kQ h
def ajV{n cN:Nat}{s t:ano}(aB:t <:+ s)(hs:s.length≤4611686018427387904)(hm:cN<9223372036854775808)(r:Int×Int×Int)(ah:r=res 0 s (hX t)):
 (bif (!decide (r.2.2=0))then some ((0:Int),(0:Int),r.2.2) else(bif (bif (decide ((cN:Int)<0))then true else(decide ((IntKind.u64.wrap (cN:Int))<r.1)))then some (0,0,2) else(bif (decide ((IntKind.u64.wrap (anq (((s.length:Nat):Int)-r.2.1)))<r.1))then some (0,0,6)else some ((anq r.1),r.2.1,0))))=some (res 0 s (pV cN t)):=by
 subst ah;unfold pV;rw [QY];unfold iG;cases h:qU t with
 |error e=>
  rw [Y9 h,fg];simp only [gd (qV.cv _ _ h),am']
 |ok r=>
  obtain⟨u,bE⟩:=r;have hu:=(qV.fy _ _ _ h).2;have ez:bE <:+ s:=(ajU h).trans aB;have ab:=ez.length_le;rw [Y8 h,gF];simp only [am8,ana,am_,ajT ez hs,qT (show cN<18446744073709551616 by omega),show¬ ((cN:Int)<0)by omega,am9,ang]
  by_cases Z:cN<u
  ·simp only [Z,am8,am',anm]
  ·by_cases aa:bE.length<u
   ·simp only [Z,aa,am8,am9,am',am_,anm,ann]
   ·simp only [Z,aa,am9,am_,ann,DO (show u≤9223372036854775807 by omega)]
def uf{n cN:Nat}{s t:ano}(aB:t <:+ s)(hs:s.length≤4611686018427387904)(hm:cN<9223372036854775808)(hn:12≤n):pD n s (a_ s t) (cN:Int)=some (res 0 s (pV cN t)):=by
 unfold pD;rw [zC aB hs hn,ai];exact ajV (n:=n) aB hs hm _ rfl
def qX{cN u:Nat}{t bE:ano}(h:iG cN t = .ok (u,bE)):pV cN t = .ok ((u:Int),bE):=by simp only [pV,fr,h]
def qY{cN:Nat}{t:ano}{e:Int}(h:iG cN t = .error e):pV cN t = .error e:=by simp only [pV,fr,h]
def ajW{s t:ano}{u:Nat}(aB:t <:+ s)(hs:s.length≤4611686018427387904)(hu:u≤t.length):
 anq (a_ s t+(u:Int))=a_ s (t.drop u)∧lm (a_ s t) (a_ s (t.drop u)) s.length=true∧(s.take (a_ s (t.drop u)).toNat).drop (a_ s t).toNat=t.take u:=by
 have ab:=aB.length_le;have e:a_ s (t.drop u)=a_ s t+(u:Int):=by unfold a_;simp;omega
 refine⟨?_,?_,?_⟩
 ·rw [e];unfold a_;rw [wr]<;>omega
 ·rw [e];unfold a_ lm;simp;omega
 ·rw [e];obtain⟨pre,rfl⟩:=aB
  (rw [DN,show(((pre.length:Nat):Int)+(u:Int)).toNat=pre.length+u by omega];simp only [anf];rw [List.drop_take])
  simp
def DP{n cN:Nat}{s t:ano}(aB:t <:+ s)(hs:s.length≤4611686018427387904)(hm:cN<9223372036854775808)(hn:12≤n):tg n s (a_ s t) (cN:Int)=some (res [] s (fz cN t)):=by
 unfold tg fz;rw [uf aB hs hm hn,ai];cases h:iG cN t with
 |error e=>
  rw [qY h,fg];simp only [gd (oh h),am',fg]
 |ok r=>
  obtain⟨u,bE⟩:=r;obtain⟨Z,aa,aj⟩:=o2 h;have ez:bE <:+ s:=List.IsSuffix.trans ⟨eD u,Z.symm⟩ aB;obtain⟨g1,g2,g3⟩:=ajW ez hs aj;rw [qX h,gF];simp only [am8,ana,am_,g1,g2,g3,aM,gF]
def ajX{n:Nat}{s t:ano}(aB:t <:+ s)(hs:s.length≤4611686018427387904):
 (bif (decide (a_ s t=((s.length:Nat):Int)))then some (false,(0:Int),(6:Int)) else(aq (aH (a_ s t) s.length)<|bif (decide (1<(((s.getD (a_ s t).toNat 0).toNat:Nat):Int)))then some (false,0,5) else(aq (aH (a_ s t) s.length)<|some ((decide ((((s.getD (a_ s t).toNat 0).toNat:Nat):Int)=1)),(anq (a_ s t+1)),0))))=some (res false s (qW t)):=by
 obtain⟨pre,rfl⟩:=aB;rw [DN];cases t with
 |nil=>simp [qW,res]
 |cons c t=>
  have hg:(pre++c::t).getD pre.length 0=c:=by
   have:=Y5 pre (c::t) 0
   simpa using this
  have hlen:(pre++c::t).length=pre.length+(t.length+1):=by simp
  have e3:anq (((pre.length:Nat):Int)+1)=((pre.length+1:Nat):Int):=bg (by omega)
  have lU:a_ (pre++c::t) t=((pre.length+1:Nat):Int):=by
   have:=DN (pre++[c]) t
   simpa using this
  rw [show decide (((pre.length:Nat):Int)=(((pre++c::t).length:Nat):Int))=false from decide_eq_false (by omega)]
  simp only [am_,b3 (show pre.length<(pre++c::t).length by omega),aM,anf,hg,e3,f',fi,qW]
  by_cases h:1<c.toNat
  ·simp only [h,am8,am',anm,fg]
  ·simp only [h,am9,am_,ann,gF,lU]
def ajY{n:Nat}{s t:ano}(aB:t <:+ s)(hs:s.length≤4611686018427387904):GN n s (a_ s t)=some (res false s (qW t)):=by
 unfold GN;rw [Y7 aB,ai,am_];exact ajX (n:=n) aB hs
def ajZ(t:ano):me t=match hX t with|.ok (k,bE)=>zB k bE|.error e=>.error e:=by
 unfold me fr dx;cases hX t with
 |error e=>rfl
 |ok r=>
  obtain⟨k,bE⟩:=r;simp only
  cases zB k bE with
  |error e=>rfl
  |ok r=>rfl
def iH{α:Type}{D:dV α}{E:α→ano}{ok:α→Prop}(h:dM D E ok){s x:ano}{v:α}{t:ano}(hx:D x = .ok (v,t))(hs:x <:+ s):t <:+ s:=(h.kQ hx).trans hs
def Y':dM (fz 64) fV (λs=>s.length≤64):=zA 64 (by omega)
def ny:dM (fz 24) fV (λs=>s.length≤24):=zA 24 (by omega)
def Q0{n:Nat}{s t:ano}(aB:t <:+ s)(hs:s.length≤4611686018427387904)(hn:70≤n):yi n s (a_ s t)=some (res ⟨0,0,[]⟩ s (me t)):=by
 unfold yi;rw [zC aB hs (by omega),ai,ajZ]
 cases h:hX t with
 |error e=>rw [fg];simp only [gd (md.cv _ _ h),am',fg]
 |ok r=>
  obtain⟨k,bE⟩:=r;have ez:=iH md h aB;rw [gF];simp only [am8,ana,am_];unfold zB;by_cases h0:k=0
  ·subst h0;rfl
  ·by_cases Z:k=1
   ·subst Z;simp only [show¬ (1:Int)=0 by omega,am9,am_,am8,am',ann,anm]
    rw [QZ ez hs (by omega),ai,QY]
    cases aa:ir bE with
    |error e=>rw [fg];simp only [gd (kv.cv _ _ aa),am']
    |ok r=>obtain⟨x,mK⟩:=r;rw [gF];simp only [am8,ana,am_,Nj,ai]
   ·by_cases aa:k=2
    ·subst aa;simp only [show¬ (2:Int)=0 by omega,show¬ (2:Int)=1 by omega,am9,am_,am8,am',ann,anm]
     rw [show(64:Int)=((64:Nat):Int)from rfl,DP ez hs (by omega) (by omega),ai]
     unfold mb fr;cases aj:fz 64 bE with
     |error e=>rw [fg];simp only [show¬ e=0 from Y'.cv _ _ aj,am9,am_,ai,BU,anb,am',fg]
     |ok r=>
      obtain⟨x,mK⟩:=r;have hx:=(Y'.fy _ _ _ aj).2;rw [gF];simp only [am8,am',YN (show x.length<n by omega) (by omega),ai,BU]
      cases iC x<;>rfl
    ·simp only [h0,Z,aa,am9,am_,ann,fg]
def aj0{α β R:Type}{D:dV α}{s:ano}{u:Nat}{f:Nat→α→β}{L:Nat→Nat→ano→List β→Option R}{fin:List β→ano→Option R}{bad:Int→Option R}
 (kQ:∀x v t,D x = .ok (v,t)→t <:+ x)
 (step:∀m i t acc,i<u→acc.length=i→t <:+ s→L (m+1) i t acc=match D t with|.ok (v,bE)=>L m (i+1) bE (acc++[f i v])|.error e=>bad e)
 (stop:∀m t acc,acc.length=u→t <:+ s→L (m+1) u t acc=fin acc t):
 ∀k m i t acc,i+k=u→k<m→acc.length=i→t <:+ s→L m i t acc=match gK D k t with|.ok (l,bE)=>fin (acc++(l.zipIdx i).map λp=>f p.2 p.1) bE|.error e=>bad e:=by
 intro k;induction k with
 |zero=>
  intro m i t acc hi hm ha aB;obtain⟨m,rfl⟩:∃j,m=j+1:=⟨m-1,by omega⟩
  obtain rfl:i=u:=by omega
  rw [stop m t acc ha aB];simp [gK]
 |succ k aF=>
  intro m i t acc hi hm ha aB;obtain⟨m,rfl⟩:∃j,m=j+1:=⟨m-1,by omega⟩
  rw [step m i t acc (by omega) ha aB]
  unfold gK;cases h:D t with
  |error e=>rfl
  |ok r=>
   obtain⟨v,bE⟩:=r;simp only
   rw [aF m (i+1) bE (acc++[f i v]) (by omega) (by omega) (by simp [ha]) ((kQ _ _ _ h).trans aB)]
   cases gK D k bE with
   |error e=>rfl
   |ok r=>obtain⟨l,mK⟩:=r;simp
def Y_{α R:Type}{D:dV α}{s:ano}{u:Nat}{L:Nat→Nat→ano→List α→Option R}{fin:List α→ano→Option R}{bad:Int→Option R}
 (kQ:∀x v t,D x = .ok (v,t)→t <:+ x)
 (step:∀m i t acc,i<u→acc.length=i→t <:+ s→L (m+1) i t acc=match D t with|.ok (v,bE)=>L m (i+1) bE (acc++[v])|.error e=>bad e)
 (stop:∀m t acc,acc.length=u→t <:+ s→L (m+1) u t acc=fin acc t) {m:Nat} (hm:u<m) {t:ano} (aB:t <:+ s):
 L m 0 t []=match gK D u t with|.ok (l,bE)=>fin l bE|.error e=>bad e:=by
 have:=aj0 (f:=λ_ v=>v) (L:=L) kQ step stop u m 0 t [] (by omega) hm rfl aB
 rw [this];cases gK D u t with
 |error e=>rfl
 |ok r=>
  obtain⟨l,bE⟩:=r;have e:((l.zipIdx 0).map λp:α×Nat=>p.1)=l:=by rw [List.zipIdx_map_fst]
  simp only [List.nil_append];rw [e]
def zD:∀a b:ano,(!Op.bytesLess a b)=(Op.bytesLess b a||decide (b=a))
 |[],[]=>rfl
 |[],b::y=>rfl
 |a::x,[]=>rfl
 |a::x,b::y=>by
  simp only [Op.bytesLess,zD x y,Bool.not_or,Bool.not_and];rcases Nat.lt_trichotomy a.toNat b.toNat with h|h|h
  ·have Z:a<b:=h;have aa:¬ b<a:=by show¬ b.toNat<a.toNat;omega
   have aj:a≠b:=by intro e;subst e;omega
   simp [Z,aa,Ne.symm aj]
  ·obtain rfl:a=b:=UInt8.toNat_inj.1 h;simp
  ·have Z:b<a:=h;have aa:¬ a<b:=by show¬ a.toNat<b.toNat;omega
   have aj:a≠b:=by intro e;subst e;omega
   simp [Z,aa,aj]
def mL{β:Type}{c k:Bool}{x y:β}(h:c = !k):(bif c then x else y)=if k then y else x:=by subst h;cases k<;>rfl
def pW{i len:Nat}{b:Bool}(hi:i<len)(ab:len≤1000000000):(b||(!(decide (0<(i:Int)))||aH (anq ((i:Int)-1)) len))=true:=by
 cases i with
 |zero=>simp
 |succ i=>
  rw [show((i+1:Nat):Int)-1=(i:Int)by omega,DO (by omega),b3 (by omega)];simp
def aj1{i len:Nat}{b c:Bool}(hi:i<len):(b||(c||aH (i:Int) len))=true:=by rw [b3 hi];simp
def allI(len:Nat)(chk:Nat→Bool):Bool:=(List.range len).all chk
def zE{len:Nat}{chk:Nat→Bool}:allI len chk=true↔∀i,i<len→chk i=true:=by
 unfold allI;simp
def qZ(b:Bool):(if b then true else false)=b:=by cases b<;>rfl
def zF(b c:Bool):(if b then c else false)=(b&&c):=by cases b<;>rfl
def mf{β:Type}{L:Nat→Int→Option β}{len:Nat}{chk:Nat→Bool}{no yes:β}{m:Nat}(hm:len<m)
 (step:∀m i,i<len→L (m+1) (i:Int)=if chk i then L m ((i+1:Nat):Int)else some no) (stop:∀m,L (m+1) (len:Int)=some yes):
 L m 0=some (if allI len chk then yes else no):=QK hm step stop
abbrev pv(i:Nat):Nat:=(anq ((i:Int)-1)).toNat
def aj2(len:Nat)(a b:Nat→Bool):(allI len λi=>a i&&b i)=(allI len a&&allI len b):=by
 rw [Bool.eq_iff_iff];simp only [zE,Bool.and_eq_true];exact⟨λh=>⟨λi hi=>(h i hi).1,λi hi=>(h i hi).2⟩,λh i hi=>⟨h.1 i hi,h.2 i hi⟩⟩
def aj3{L:Nat→Int→ant}{len:Nat}{p:Nat→Bool}
 (step:∀m i,i<len→L (m+1) (i:Int)=if p i then some (i:Int)else L m ((i+1:Nat):Int)) (stop:∀m,L (m+1) (len:Int)=some (-1)):
 ∀m i,len<i+m→i≤len→∃r,L m (i:Int)=some r∧decide (0≤r)=(List.range' i (len-i)).any p:=by
 intro m;induction m with
 |zero=>intro i h aa;omega
 |succ m aF=>
  intro i h aa;by_cases hi:i<len
  ·rw [step m i hi,show len-i=(len-(i+1))+1 by omega,List.range'_succ,List.any_cons]
   cases hp:p i
   ·obtain⟨r,aj,aD⟩:=aF (i+1) (by omega) (by omega)
    exact⟨r,by rw [if_neg (by simp)];exact aj,by rw [aD];simp⟩
   ·exact⟨(i:Int),by simp,by simp⟩
  ·obtain rfl:i=len:=by omega
   exact⟨-1,stop m,by simp⟩
def Q1{L:Nat→Int→ant}{len:Nat}{p:Nat→Bool}{m:Nat}(hm:len<m)
 (step:∀m i,i<len→L (m+1) (i:Int)=if p i then some (i:Int)else L m ((i+1:Nat):Int)) (stop:∀m,L (m+1) (len:Int)=some (-1)):
 ∃r,L m 0=some r∧decide (0≤r) = !allI len λi=>!p i:=by
 obtain⟨r,Z,aa⟩:=aj3 step stop m 0 (by omega) (by omega)
 refine⟨r,Z,?_⟩
 rw [aa,Nat.sub_zero,←List.range_eq_range'];unfold allI;rw [List.not_all_eq_any_not];simp
section
variable {n:Nat} (hn:2000≤n) (aU:n≤1000000000)
include hn aU
def DQ(l:List bC):Bool:=allI l.length λi=>ma (l.getD i default).Key&&ku (l.getD i default).b2&&(!decide (0<(i:Int))||Op.bytesLess (l.getD (pv i) default).Key (l.getD i default).Key)
def o3(l:List bC):Bool:=DQ l&&allI l.length λi=>!decide ((l.getD i default).b2.Kind=0)
def ug(p:bC):Prop:=p.Key.length≤1000∧p.b2.S.length≤1000
theorem aj4{l:List bC}(ab:l.length<n)(h:∀i,ug (l.getD i default)):GH n l=some (DQ l):=by
 unfold GH DQ;rw [mf (L:=yg n l) (no:=false) (yes:=true) ab,qZ]
 ·intro m i hi;have Z:=h i;simp only [yg,GG,ang,hi,am8,am',b3 hi,aM,ai,anf,bg (show i≤4611686018427387904 by omega),Jk (show 24<n by omega),pW hi (show l.length≤1000000000 by omega)]
  rw [show rI n (⟨((l.getD i default).b2).Kind,((l.getD i default).b2).N,((l.getD i default).b2).S⟩:br)=_ from Jl (v:=(l.getD i default).b2) (by have:=Z.2;omega) (by have:=Z.2;omega)]
  cases hk:ma (l.getD i default).Key
  ·simp only [anb,ana,am_,am',ai,Bool.true_or,aM,Bool.false_and];rfl
  ·simp only [anb,ana,am_,am',ai,pW hi (show l.length≤1000000000 by omega),aM,Bool.true_and]
   exact mL (by simp only [eo,eT,Bool.not_and,Bool.not_or,Bool.not_not])
 ·intro m;simp only [yg,GG,Ni,ank,am9,am_]
theorem Za{l:List bC}(ab:l.length<n)(h:∀i,ug (l.getD i default)):BR n l=some (o3 l):=by
 unfold BR Nh Ng o3;rw [aj4 hn aU ab h,ai]
 obtain⟨r,Z,aa⟩:=Q1 (L:=yf n l) (len:=l.length) (p:=λi=>decide ((l.getD i default).b2.Kind=0)) ab (by
  intro m i hi;simp only [yf,GF,Nd,ang,hi,am8,am',b3 hi,aM,ai,anf,bg (show i≤4611686018427387904 by omega),anj,anm]) (by
  intro m;simp only [yf,GF,Nf,ank,am9,am_])
 rw [Z];simp only [ai,aa];cases DQ l<;>simp
theorem aj5{l:List bC}(ab:l.length<n)(h:∀i,ug (l.getD i default)):OR n l=some (o3 l):=by
 have e1:ON n l=some (allI l.length λi=>ma (l.getD i default).Key&&(!decide (0<(i:Int))||Op.bytesLess (l.getD (pv i) default).Key (l.getD i default).Key)):=by
  unfold ON;rw [mf (L:=CM n l) (no:=false) (yes:=true) ab,qZ]
  ·intro m i hi;have Z:=h i;simp only [CM,OM,ang,hi,am8,am',b3 hi,aM,ai,anf,bg (show i≤4611686018427387904 by omega),ajc (show(l.getD i default).Key.length<n by have:=Z.1;omega) (by have:=Z.1;omega),aj1 hi,pW hi (show l.length≤1000000000 by omega),anl]
   exact mL (by simp only [eo,eT,Bool.not_and,Bool.not_or,Bool.not_not,←zD])
  ·intro m;simp only [CM,OM,Vo,ank,am9,am_]
 have e2:OP n l=some ((allI l.length λi=>ku (l.getD i default).b2)&&allI l.length λi=>ma (l.getD i default).Key&&(!decide (0<(i:Int))||Op.bytesLess (l.getD (pv i) default).Key (l.getD i default).Key)):=by
  unfold OP;rw [mf (L:=CN n l) (chk:=λi=>ku (l.getD i default).b2) (no:=false) (yes:=allI l.length λi=>ma (l.getD i default).Key&&(!decide (0<(i:Int))||Op.bytesLess (l.getD (pv i) default).Key (l.getD i default).Key)) ab,zF]
  ·intro m i hi;have Z:=h i;simp only [CN,OO,ang,hi,am8,am',b3 hi,aM,ai,anf,bg (show i≤4611686018427387904 by omega),aje (show(l.getD i default).b2.S.length<n by have:=Z.2;omega) (by have:=Z.2;omega)]
   exact mL rfl
  ·intro m;simp only [CN,OO,Vp,ank,am9,am_,e1,ai]
 unfold OR;rw [mf (L:=CO n l) (chk:=λi=>!decide ((l.getD i default).b2.Kind=0)) (no:=false) (yes:=(allI l.length λi=>ku (l.getD i default).b2)&&allI l.length λi=>ma (l.getD i default).Key&&(!decide (0<(i:Int))||Op.bytesLess (l.getD (pv i) default).Key (l.getD i default).Key)) ab,zF]
 ·unfold o3 DQ;simp only [aj2]
  congr 1
  generalize (allI l.length λi=>ma (l.getD i default).Key)=a
  generalize (allI l.length λi=>ku (l.getD i default).b2)=b
  cases a<;>cases b<;>simp [Bool.and_comm]
 ·intro m i hi;simp only [CO,OQ,ang,hi,am8,am',b3 hi,aM,ai,anf,bg (show i≤4611686018427387904 by omega)]
  exact mL (by simp)
 ·intro m;simp only [CO,OQ,Vq,ank,am9,am_,e2,ai]
def DR(l:List bn):Bool:=(allI l.length λi=>ma (l.getD i default).Key && !decide ((l.getD i default).Count<1) && !decide (1099511627776<(l.getD i default).Count)&&(!decide (0<(i:Int))||Op.bytesLess (l.getD (pv i) default).Key (l.getD i default).Key))&&decide (((l.length:Nat):Int)≤32)
theorem aj6{l:List bn}(ab:l.length<n):Gx n l=some (DR l):=by
 unfold Gx DR;rw [mf (L:=ya n l) (no:=false) (yes:=decide (((l.length:Nat):Int)≤32)) ab,zF]
 ·intro m i hi;simp only [ya,Gw,ang,hi,am8,am',b3 hi,aM,ai,anf,bg (show i≤4611686018427387904 by omega),Jk (show 24<n by omega),pW hi (show l.length≤1000000000 by omega)]
  exact mL (by simp only [eo,eT,Bool.not_and,Bool.not_or,Bool.not_not])
 ·intro m;simp only [ya,Gw,M4,ank,am9,am_]
def DS(l:List ano):Bool:=(allI l.length λi=>ma (l.getD i default)&&(!decide (0<(i:Int))||Op.bytesLess (l.getD (pv i) default) (l.getD i default)))
theorem Zb{l:List ano}(ab:l.length<n):Ba n l=some (DS l&&decide (((l.length:Nat):Int)≤64)):=by
 unfold Ba DS;rw [mf (L:=xL n l) (no:=false) (yes:=decide (((l.length:Nat):Int)≤64)) ab,zF]
 ·intro m i hi;simp only [xL,FD,ang,hi,am8,am',b3 hi,aM,ai,anf,bg (show i≤4611686018427387904 by omega),Jk (show 24<n by omega),pW hi (show l.length≤1000000000 by omega)]
  exact mL (by simp only [eo,eT,Bool.not_and,Bool.not_or,Bool.not_not,←zD])
 ·intro m;simp only [xL,FD,LX,ank,am9,am_]
def Jq(f:gS):Bool:=bif f.fo then decide (f.Reads.length=0)&&decide (f.es.length=0) else(DS f.Reads&&decide (f.Reads.length≤64))&&(DS f.es&&decide (f.es.length≤64))
theorem aj7{f:gS}(Z:f.Reads.length<n)(aa:f.es.length<n):Bb n f=some (Jq f):=by
 unfold Bb Jq;rw [Zb hn aU Z,Zb hn aU aa];simp only [ai,fi,nn,eT];cases f.fo
 ·simp only [am_];cases DS f.Reads&&decide (f.Reads.length≤64)<;>rfl
 ·rfl
end
def uh(c b:Bool):(bif c then some b else some default)=some (c&&b):=by cases c<;>rfl
def aj8{l:Nat}{b:Bool}:(b||decide (l<1)||decide (16<l)||aH 0 l)=true:=by
 by_cases h:l<1
 ·rw [decide_eq_true h];simp
 ·rw [lI (by omega)];simp
def Zc{α:Type}(l:List α)(d:α){i k:Nat}(h:k<i):(l.take i).getD k d=l.getD k d:=by
 simp [List.getD_eq_getElem?_getD,List.getElem?_take,h]
section
variable {n:Nat} (hn:2000≤n) (aU:n≤1000000000)
include hn aU
def DT(l:List br):Bool:=allI l.length λi=>ku (l.getD i default) && !decide ((l.getD i default).Kind=0)
def wN(r:Request):Int:=
 bif (((decide (r.Client<1)||decide (32<r.Client))||decide (r.Seq<1))||decide (1099511627776<r.Seq))then 1 else
 bif !gC r.aZ then 7 else
 bif decide (6<r.ao.length)then 2 else
 bif !DT r.ao then 1 else
 bif ((!Jq r.bW||r.bW.fo)||(!r.fv&&decide (0<r.bW.Reads.length+r.bW.es.length)))then 1 else 0
structure ui(n:Nat)(r:Request):Prop where
 proc:r.aZ.length≤1000
 args:r.ao.length<n
 vals:∀i,(r.ao.getD i default).S.length≤1000
 Q2:r.bW.Reads.length<n
 Q3:r.bW.es.length<n
 rd:∀i,(r.bW.Reads.getD i default).length≤1000
 wr:∀i,(r.bW.es.getD i default).length≤1000
theorem Q4{r:Request}(h:ui n r):qu n r=some (wN r):=by
 have Z:=h.proc;have aa:=h.args
 obtain⟨c,e1,e2⟩:=Q1 (L:=xM n r.ao) (len:=r.ao.length) (p:=λi=>!(ku (r.ao.getD i default) && !decide ((r.ao.getD i default).Kind=0))) aa (by
  intro m i hi;have:=h.vals i
  simp only [xM,FE,L0,ang,hi,am8,am',b3 hi,aM,anf,bg (show i≤4611686018427387904 by omega),Jl (show(r.ao.getD i default).S.length<n by omega) (by omega),uh,ai]
  cases ku (r.ao.getD i default)<;>cases decide ((r.ao.getD i default).Kind=0)<;>rfl) (by
  intro m;simp only [xM,FE,L1,ank,am9,am_])
 have e3:(allI r.ao.length λi=>!!(ku (r.ao.getD i default) && !decide ((r.ao.getD i default).Kind=0)))=DT r.ao:=by simp only [Bool.not_not];rfl
 rw [e3]at e2;unfold qu L3 L2 wN;rw [y_ n _ (by omega),e1,show Bb n ⟨r.bW.fo,r.bW.Reads,r.bW.es⟩=_ from aj7 hn aU (f:=r.bW) h.Q2 h.Q3]
 have aj:=h.Q2;have aD:=h.Q3;have gk:anq (((r.bW.Reads.length:Nat):Int)+((r.bW.es.length:Nat):Int))=((r.bW.Reads.length+r.bW.es.length:Nat):Int):=by rw [wr]<;>omega
 simp only [ai,e2,gk,eo,eT,f'];cases ((decide (r.Client<1)||decide (32<r.Client))||decide (r.Seq<1))||decide (1099511627776<r.Seq)<;>cases gC r.aZ<;>cases decide (6<r.ao.length)<;>cases DT r.ao<;>cases ((!Jq r.bW||r.bW.fo)||(!r.fv&&decide (0<r.bW.Reads.length+r.bW.es.length)))<;>rfl
def Zd(c:UInt8):Bool:=!(decide (c.toNat<33)||decide (126<c.toNat))
def wO(s:ano):Bool:=(allI s.length λi=>Zd (s.getD i 0))&&decide (s.length≤24)
theorem Ze{s:ano}(hs:s.length<n):BN n s=some (wO s):=by
 unfold BN wO;rw [mf (L:=yc n s) (no:=false) (yes:=decide (s.length≤24)) hs,zF]
 ·intro m i hi;simp only [yc,GA,ang,hi,am8,am',b3 hi,aM,anf,bg (show i≤4611686018427387904 by omega),anl,qM,f']
  exact mL (by simp only [eo,Zd,Bool.not_not])
 ·intro m;simp only [yc,GA,M6,ank,am9,am_,nn]
def zG(n:Int):Bool:=decide (1≤n)&&decide (n≤16)
def Zf(n:Int):Bool:=decide (1≤n)&&decide (n≤1099511627776)
def DU(l:List Part)(i:Nat):Bool:=
 let x:=l.getD i default
 bif decide (x.iN=0)then decide (x.k4=[]) else((((zG x.iN && !decide (x.iN=x.Node))&&wO x.k4) && !Op.bytesLess x.k4 x.gR)&&(decide (i+1=l.length)||Op.bytesLess x.k4 (l.getD (i+1) default).gR))
def Jr(l:List Part)(i:Nat):Bool:=
 let x:=l.getD i default
 (!decide (0<(i:Int))||(wO x.gR&&Op.bytesLess (l.getD (pv i) default).gR x.gR))&&(((Zf x.Id&&zG x.Node)&&DU l i)&&allI i λk=>!decide ((l.getD k default).Id=x.Id))
def q0(p:cD):Bool:=!((((decide (p.Version<0)||decide (1099511627776<p.Version))||decide (p.bb.length<1))||decide (16<p.bb.length)) || !decide ((p.bb.getD 0 default).gR=[]))&&allI p.bb.length (Jr p.bb)
def zH(x:Part):Prop:=x.gR.length≤1000∧x.k4.length≤1000
theorem aj9{l:List Part}(ab:l.length<n){i:Nat}(hi:i<l.length)(h:∀i,zH (l.getD i default)):GC n l (i:Int)=some (DU l i):=by
 unfold GC BO DU;have Z:=(h i).2
 (rw [b3 hi,aM];simp only [anf];rw [Ze hn aU (by omega),bg (by omega)])
 simp only [ai,eT,eo,uh,Int.ofNat_inj,show(decide (1≤(l.getD i default).iN)&&decide ((l.getD i default).iN≤16))=zG (l.getD i default).iN from rfl]
 cases decide ((l.getD i default).iN=0)
 ·simp only [am_];by_cases e:i+1=l.length
  ·simp only [e,am8,Bool.true_or,anl,aM];cases zG (l.getD i default).iN<;>cases decide ((l.getD i default).iN=(l.getD i default).Node)<;>rfl
  ·rw [b3 (show i+1<l.length by omega)]
   simp only [e,anf,am9,Bool.false_or,anl,aM];cases zG (l.getD i default).iN<;>cases decide ((l.getD i default).iN=(l.getD i default).Node)<;>rfl
 ·rfl
theorem Zg{p:cD}(ab:p.bb.length<n)(h:∀i,zH (p.bb.getD i default)):BP n p=some (q0 p):=by
 have e1:vB n p n 0=some (allI p.bb.length (Jr p.bb)):=by
  rw [mf (L:=vB n p) (chk:=Jr p.bb) (no:=false) (yes:=true) ab,qZ]
  ·intro m i hi;have Z:=h i;have aa:=Z.1;have bm:(p.bb.take i).length<n:=by simp;omega
   obtain⟨c,f1,f2⟩:=Q1 (L:=yd n (p.bb.take i) (p.bb.getD i default).Id) (len:=(p.bb.take i).length) (p:=λk=>decide (((p.bb.take i).getD k default).Id=(p.bb.getD i default).Id)) bm (by
    intro m k hk;have eV:k≤4611686018427387904:=by omega
    simp only [yd,GB,M7,ang,hk,am8,am',b3 hk,aM,ai,anf,bg eV];cases decide (((p.bb.take i).getD k default).Id=(p.bb.getD i default).Id)<;>rfl) (by
    intro m;simp only [yd,GB,M8,ank,am9,am_])
   have f3:(allI (p.bb.take i).length λk=>!decide (((p.bb.take i).getD k default).Id=(p.bb.getD i default).Id))=allI i λk=>!decide ((p.bb.getD k default).Id=(p.bb.getD i default).Id):=by
    rw [show(p.bb.take i).length=i by simp;omega,Bool.eq_iff_iff,zE,zE]
    constructor
    ·intro g k hk;have:=g k hk;rwa [Zc _ _ hk]at this
    ·intro g k hk;have:=g k hk;rwa [Zc _ _ hk]
   rw [f3]at f2;simp only [vB,GD,M_,M9,Na,BO,ang,hi,am8,am',b3 hi,aM,ai,anf,bg (show i≤4611686018427387904 by omega),Ze hn aU (show(p.bb.getD i default).gR.length<n by omega),uh,f1,aj9 hn aU ab hi h,y8 (Nat.le_of_lt hi),anl]
   have g1:(!decide (0<(i:Int))||(!(decide (0<(i:Int))&&wO (p.bb.getD i default).gR)||aH (anq ((i:Int)-1)) p.bb.length))=true:=by
    have:=pW (b:=!(decide (0<(i:Int))&&wO (p.bb.getD i default).gR)) hi (show p.bb.length≤1000000000 by omega)
    rw [←this];cases decide (0<(i:Int))<;>simp
   simp only [g1,aM,←zD,eo,eT];unfold Jr Zf zG;simp only
   cases hd:decide (0<(i:Int))
   ·simp only [Bool.false_and,am_,anb,Bool.true_or,Bool.true_and];cases (decide (1≤(p.bb.getD i default).Id)&&decide ((p.bb.getD i default).Id≤1099511627776))
    ·rfl
    ·cases (decide (1≤(p.bb.getD i default).Node)&&decide ((p.bb.getD i default).Node≤16))
     ·rfl
     ·cases DU p.bb i
      ·rfl
      ·simp only [ana,Bool.or_self,anb,am',ai,f2,Bool.false_or,Bool.true_and];exact mL rfl
   ·simp only [Bool.true_and,am',ana,Bool.false_or];cases wO (p.bb.getD i default).gR
    ·rfl
    ·cases Op.bytesLess (p.bb.getD (pv i) default).gR (p.bb.getD i default).gR
     ·rfl
     ·cases (decide (1≤(p.bb.getD i default).Id)&&decide ((p.bb.getD i default).Id≤1099511627776))
      ·rfl
      ·cases (decide (1≤(p.bb.getD i default).Node)&&decide ((p.bb.getD i default).Node≤16))
       ·rfl
       ·cases DU p.bb i
        ·rfl
        ·simp only [ana,Bool.or_self,anb,am',am_,ai,f2,Bool.false_or,Bool.true_and];exact mL rfl
  ·intro m;simp only [vB,GD,Nb,ank,am9,am_]
 unfold BP q0;rw [e1];simp only [eo,qM,f',aj8,aM];cases (((decide (p.Version<0)||decide (1099511627776<p.Version))||decide (p.bb.length<1))||decide (16<p.bb.length)) || !decide ((p.bb.getD 0 default).gR=[])<;>rfl
end
def aj'{β:Type}{L:Nat→Int→Option β}{len:Nat}{chk:Nat→Bool}{no:β}{yes:Option β}
 (step:∀m i,i<len→L (m+1) (i:Int)=if chk i then L m ((i+1:Nat):Int)else some no) (stop:∀m,L (m+1) (len:Int)=yes):
 ∀m i,len<i+m→i≤len→L m (i:Int)=if(List.range' i (len-i)).all chk then yes else some no:=by
 intro m;induction m with
 |zero=>intro i h aa;omega
 |succ m aF=>
  intro i h aa;by_cases hi:i<len
  ·rw [step m i hi,aF (i+1) (by omega) (by omega),show len-i=(len-(i+1))+1 by omega,List.range'_succ,List.all_cons]
   cases chk i
   ·rfl
   ·rw [if_pos rfl,Bool.true_and]
  ·obtain rfl:i=len:=by omega
   rw [stop m];simp
def aj_{β:Type}{L:Nat→Int→Option β}{len:Nat}{chk:Nat→Bool}{no:β}{yes:Option β}{m:Nat}(hm:len<m)
 (step:∀m i,i<len→L (m+1) (i:Int)=if chk i then L m ((i+1:Nat):Int)else some no) (stop:∀m,L (m+1) (len:Int)=yes):
 L m 0=if allI len chk then yes else some no:=by
 have:=aj' step stop m 0 (by omega) (by omega)
 rwa [Nat.sub_zero,←List.range_eq_range']at this
section
variable {n:Nat} (hn:2000≤n) (aU:n≤1000000000)
include hn aU
def Q5(o:Outcome):Bool:=bif decide (o.Status=1) then(decide (o.Code=0)&&decide (o.Out.length≤16))&&DT o.Out else((decide (o.Status=2)&&decide (0≤o.Code))&&decide (o.Code≤1009))&&decide (o.Out.length=0)
structure DV(n:Nat)(o:Outcome):Prop where
 out:o.Out.length<n
 vals:∀i,(o.Out.getD i default).S.length≤1000
theorem aka{o:Outcome}(h:DV n o):BE n o=some (Q5 o):=by
 have Z:=h.out
 have e1:vv n o n 0=some (DT o.Out):=by
  rw [mf (L:=vv n o) (no:=false) (yes:=true) Z,qZ]
  ·rfl
  ·intro m i hi;have:=h.vals i
   simp only [vv,Gf,ang,hi,am8,am',b3 hi,aM,anf,bg (show i≤4611686018427387904 by omega),Jl (show(o.Out.getD i default).S.length<n by omega) (by omega),ai]
   exact mL (by simp only [eo,Bool.not_and,Bool.not_not])
  ·intro m;simp only [vv,Gf,MU,ank,am9,am_]
 unfold BE MT Q5;rw [e1];simp only [eo,eT,f',fi];cases decide (o.Status=1)
 ·simp only [am_];cases decide (o.Status=2)<;>rfl
 ·simp only [am'];by_cases g:o.Out.length≤16
  ·simp only [show¬ 16<o.Out.length by omega,g,am8,am9]
   cases decide (o.Code=0)<;>rfl
  ·simp only [show 16<o.Out.length by omega,g,am8,am9,anl,am',Bool.and_false,Bool.false_and]
def mM(eZ:Int):Int:=bif (decide ((anq (eZ-1))<8)) then(anq (eZ-1))else 8
def DW(s:bY):Bool:=((decide (s.Client<1)||decide (32<s.Client))||decide (s.Next<1))||decide (1099511627776<s.Next)
omit hn aU in
theorem akb{s:bY}(h:DW s=false):1≤s.Client∧s.Client≤32∧1≤s.Next∧s.Next≤1099511627776:=by
 simp only [DW,Bool.or_eq_false_iff,decide_eq_false_iff_not]at h;omega
def Q6(s:bY)(i:Nat):Bool:=(decide ((s.cM.getD i default).Client=s.Client)&&decide ((s.cM.getD i default).Seq=s.Next-(s.cM.length:Int)+(i:Int)))&&Q5 (s.cM.getD i default).Outcome
def Q7(s:bY):Bool:=(!DW s&&decide ((s.cM.length:Int)=mM s.Next))&&allI s.cM.length (Q6 s)
structure uj(n:Nat)(s:bY):Prop where
 rep:s.cM.length<n
 out:∀i,DV n (s.cM.getD i default).Outcome
theorem akc{s:bY}(h:uj n s):Gh n s=some (Q7 s):=by
 have Z:=h.rep;unfold Gh BD Q7;simp only [eo];rw [show(((decide (s.Client<1)||decide (32<s.Client))||decide (s.Next<1))||decide (1099511627776<s.Next))=DW s from rfl]
 cases ev:DW s
 ·have hb:=akb ev;simp only [anb,am',ai,Bool.false_or,Bool.true_and];rw [show(bif (decide ((anq (s.Next-1))<8)) then(anq (s.Next-1))else 8)=mM s.Next from rfl]
  rw [mf (L:=x4 n s) (chk:=Q6 s) (no:=false) (yes:=true) Z,qZ]
  ·cases decide ((s.cM.length:Int)=mM s.Next)<;>rfl
  ·intro m i hi;simp only [x4,Gg,ang,hi,am8,am',b3 hi,aM,anf,bg (show i≤4611686018427387904 by omega)]
   rw [show BE n (⟨((s.cM.getD i default).Outcome).Status,((s.cM.getD i default).Outcome).Code,((s.cM.getD i default).Outcome).Out⟩:Outcome)=_ from aka hn aU (h.out i),uh,ai,wr (x:=s.Next-((s.cM.length:Nat):Int)) (by omega) (by omega),wr (x:=s.Next-((s.cM.length:Nat):Int)+(i:Int)) (by omega) (by omega)]
   refine mL ?_;unfold Q6;simp only [eo,Bool.and_true,Bool.not_not];cases decide ((s.cM.getD i default).Client=s.Client)<;>cases decide ((s.cM.getD i default).Seq=s.Next-(s.cM.length:Int)+(i:Int))<;>rfl
  ·intro m;simp only [x4,Gg,MV,ank,am9,am_]
 ·rfl
def q1(l:List bY):Bool:=allI l.length λi=>Q7 (l.getD i default)&&(!decide (0<(i:Int)) || !decide ((l.getD i default).Client≤(l.getD (pv i) default).Client))
theorem Q8{l:List bY}(ab:l.length<n)(h:∀i,uj n (l.getD i default)):tb n l=some (q1 l):=by
 unfold tb q1;rw [mf (L:=x5 n l) (no:=false) (yes:=true) ab,qZ]
 ·intro m i hi;simp only [x5,Gi,ang,hi,am8,am',b3 hi,aM,anf,bg (show i≤4611686018427387904 by omega),akc hn aU (h i),ai,pW hi (show l.length≤1000000000 by omega)]
  exact mL (by simp only [eo,eT,Bool.not_and,Bool.not_or,Bool.not_not])
 ·intro m;simp only [x5,Gi,MW,ank,am9,am_]
end
def akd{β:Type}{c d k:Bool}{x y:β}(h:k=(!c && !d)):(bif c then x else(bif d then x else y))=if k then y else x:=by subst h;cases c<;>cases d<;>rfl
def ake{α σ R:Type}[Inhabited α]{l:List α}{g:σ→α→σ}{I:Nat→σ→Prop}{L:Nat→σ→Int→Option R}{fin:σ→Option R}
 (step:∀m acc i,i<l.length→I i acc→L (m+1) acc (i:Int)=L m (g acc (l.getD i default)) ((i+1:Nat):Int)∧I (i+1) (g acc (l.getD i default)))
 (stop:∀m acc,I l.length acc→L (m+1) acc (l.length:Int)=fin acc):
 ∀m i acc,l.length<i+m→i≤l.length→I i acc→L m acc (i:Int)=fin ((l.drop i).foldl g acc):=by
 intro m;induction m with
 |zero=>intro i acc h aa;omega
 |succ m aF=>
  intro i acc h aa ly;by_cases hi:i<l.length
  ·obtain⟨aj,aD⟩:=step m acc i hi ly;rw [aj,aF (i+1) _ (by omega) (by omega) aD,eS l i default hi,List.foldl_cons]
  ·obtain rfl:i=l.length:=by omega
   rw [stop m acc ly,List.drop_of_length_le (Nat.le_refl _)];rfl
def Zh{α σ R:Type}[Inhabited α]{l:List α}{g:σ→α→σ}{I:Nat→σ→Prop}{L:Nat→σ→Int→Option R}{fin:σ→Option R}{m:Nat}(hm:l.length<m){acc:σ}(h0:I 0 acc)
 (step:∀m acc i,i<l.length→I i acc→L (m+1) acc (i:Int)=L m (g acc (l.getD i default)) ((i+1:Nat):Int)∧I (i+1) (g acc (l.getD i default)))
 (stop:∀m acc,I l.length acc→L (m+1) acc (l.length:Int)=fin acc):L m acc 0=fin (l.foldl g acc):=
 ake step stop m 0 acc (by omega) (by omega) h0
def fold_map{α β:Type}(f:α→β):∀(l:List α) (acc:List β),l.foldl (λa x=>a++[f x]) acc=acc++l.map f
 |[],acc=>by simp
 |x::l,acc=>by rw [List.foldl_cons,fold_map f l];simp
def lL{m k:Nat}(h:m*k≤140737488355328):room m k=true:=by simp [room];exact h
def Q9{α:Type}[Inhabited α]{l:List α}{i:Nat}(h:i<l.length):l.getD i default∈l:=by
 rw [List.getD_eq_getElem?_getD,List.getElem?_eq_getElem h];exact List.getElem_mem h
section
variable {n:Nat} (hn:2000≤n) (aU:n≤1000000000)
include hn aU
def Zi(a b:br):Bool:=decide (a.Kind=b.Kind)&&(decide (a.N=b.N)&&(decide (a.S=b.S)&&true))
def Q'(r:Row)(floor last:Int)(i:Nat):Bool:=
 ((!decide ((r.cU.getD i default).gu<floor) && !decide (last<(r.cU.getD i default).gu))&&ku (r.cU.getD i default).b2) &&
 !(decide (0<(i:Int))&&(decide ((r.cU.getD i default).gu≤(r.cU.getD (pv i) default).gu)||Zi (r.cU.getD i default).b2 (r.cU.getD (pv i) default).b2))
def Js(r:Row)(floor last:Int):Bool:=!(decide (r.cU.length=0)||decide ((r.cU.getD 0 default).b2.Kind=0))&&allI r.cU.length (Q' r floor last)
structure Zj(n:Nat)(r:Row):Prop where
 key:r.Key.length≤1000
 Zk:r.cU.length<n
 val:∀i,(r.cU.getD i default).b2.S.length≤1000
omit hn aU in
theorem akf{i len:Nat}{b:Bool}(hi:i<len)(ab:len≤1000000000):(!(decide (0<(i:Int)))||(b||aH (anq ((i:Int)-1)) len))=true:=by
 have:=pW (b:=b) hi ab
 rw [←this];cases decide (0<(i:Int))<;>cases b<;>simp
omit hn aU in
theorem akg{i len:Nat}(hi:i<len)(ab:len≤1000000000):(!(decide (0<(i:Int)))||aH (anq ((i:Int)-1)) len)=true:=by
 have:=pW (b:=false) hi ab
 rw [Bool.false_or]at this;exact this
omit hn aU in
theorem akh{l:Nat}:(decide (l=0)||aH 0 l)=true:=by
 by_cases h:l=0
 ·rw [decide_eq_true h];rfl
 ·rw [lI (by omega)];simp
theorem aki{r:Row}(h:Zj n r)(floor last:Int):FL n r floor last=some (Js r floor last):=by
 have Z:=h.Zk;unfold FL Js;rw [mf (L:=xR n floor last r) (chk:=Q' r floor last) (no:=false) (yes:=true) Z,qZ]
 ·simp only [fi,akh,aM,eo];cases decide (r.cU.length=0)||decide ((r.cU.getD 0 default).b2.Kind=0)<;>rfl
 ·intro m i hi;have aa:=h.val i;simp only [xR,FK,ang,hi,am8,am',b3 hi,aM,anf,bg (show i≤4611686018427387904 by omega),akf hi (show r.cU.length≤1000000000 by omega),akg hi (show r.cU.length≤1000000000 by omega)]
  rw [show rI n (⟨((r.cU.getD i default).b2).Kind,((r.cU.getD i default).b2).N,((r.cU.getD i default).b2).S⟩:br)=_ from Jl (v:=(r.cU.getD i default).b2) (by omega) (by omega),uh,ai]
  refine akd ?_;unfold Q';simp only [Zi,eo,eT,Bool.not_and,Bool.not_or,Bool.not_not];cases decide ((r.cU.getD i default).gu<floor)<;>cases decide (last<(r.cU.getD i default).gu)<;>cases ku (r.cU.getD i default).b2<;>rfl
 ·intro m;simp only [xR,FK,L9,ank,am9,am_]
def Jt(s:aR):Bool:=!((decide (s.dn<0)||decide (s.dd<s.dn))||decide (1099511627776<s.dd)) &&
 allI s.Rows.length λi=>(ma (s.Rows.getD i default).Key&&(!decide (0<(i:Int))||Op.bytesLess (s.Rows.getD (pv i) default).Key (s.Rows.getD i default).Key))&&Js (s.Rows.getD i default) s.dn s.dd
structure Ju(n:Nat)(s:aR):Prop where
 rows:s.Rows.length<n
 row:∀i,Zj n (s.Rows.getD i default)
theorem Zl{s:aR}(h:Ju n s):vo n s=some (Jt s):=by
 have Z:=h.rows;unfold vo Jt;rw [mf (L:=xS n s) (chk:=λi=>(ma (s.Rows.getD i default).Key&&(!decide (0<(i:Int))||Op.bytesLess (s.Rows.getD (pv i) default).Key (s.Rows.getD i default).Key))&&Js (s.Rows.getD i default) s.dn s.dd) (no:=false) (yes:=true) Z,qZ]
 ·simp only [eo];cases (decide (s.dn<0)||decide (s.dd<s.dn))||decide (1099511627776<s.dd)<;>rfl
 ·intro m i hi;have aa:=(h.row i).key;simp only [xS,FM,ang,hi,am8,am',b3 hi,aM,ai,anf,bg (show i≤4611686018427387904 by omega),Jk (show 24<n by omega),pW hi (show s.Rows.length≤1000000000 by omega),aki hn aU (h.row i),uh,←zD]
  refine mL ?_;simp only [eo,eT];cases ma (s.Rows.getD i default).Key<;>cases decide (0<(i:Int))<;>cases Op.bytesLess (s.Rows.getD (pv i) default).Key (s.Rows.getD i default).Key<;>rfl
 ·intro m;simp only [xS,FM,L',ank,am9,am_]
def jX(l:List bC)(at_:Int):aR:=⟨at_,at_,l.map λp=>⟨p.Key,[⟨at_,p.b2⟩]⟩⟩
def zI(l:List bC)(at_:Int):aR×Int:=bif ((!o3 l||decide (at_<0))||decide (1099511627776<at_)) then(⟨0,0,[]⟩,1) else(jX l at_,0)
theorem akj{l:List bC}(ab:l.length<n)(h:∀i,ug (l.getD i default))(at_:Int):Cw n l at_=some (zI l at_):=by
 unfold Cw zI;rw [Za hn aU ab h,ai,Zh (L:=yF n at_ l) (g:=λa p=>a++[⟨p.Key,[⟨at_,p.b2⟩]⟩]) (I:=λi acc=>acc.length=i) (fin:=λv=>some (⟨at_,at_,v⟩,0)) ab rfl,fold_map]
 ·simp only [eo,List.nil_append];cases (!o3 l||decide (at_<0))||decide (1099511627776<at_)<;>rfl
 ·intro m acc i hi ly;have:room (acc.length+1) 40=true:=lL (by omega)
  simp only [yF,Hq,ang,hi,am8,am',b3 hi,aM,anf,bg (show i≤4611686018427387904 by omega),ani,this]
  exact⟨trivial,by simp [ly]⟩
 ·intro m acc ly;simp only [yF,Hq,NX,ank,am9,am_]
theorem akk{l:List bC}(ab:l.length<n)(h:∀i,ug (l.getD i default))(at_:Int):OT n l at_=some (zI l at_):=by
 unfold OT zI;rw [aj5 hn aU ab h,ai,Zh (L:=CP n l at_) (g:=λa p=>a++[⟨p.Key,[⟨at_,p.b2⟩]⟩]) (I:=λi acc=>acc.length=i) (fin:=λv=>some (⟨at_,at_,v⟩,0)) ab rfl,fold_map]
 ·simp only [eo,List.nil_append];cases (!o3 l||decide (at_<0))||decide (1099511627776<at_)<;>rfl
 ·intro m acc i hi ly;have:room (acc.length+1) 40=true:=lL (by omega)
  simp only [CP,OS,ang,hi,am8,am',b3 hi,aM,anf,bg (show i≤4611686018427387904 by omega),ani,this]
  exact⟨trivial,by simp [ly]⟩
 ·intro m acc ly;simp only [CP,OS,Vr,ank,am9,am_]
end
def oi{α:Type}[Inhabited α]{P:α→Prop}{l:List α}(h:∀x∈l,P x)(h0:P default)(i:Nat):P (l.getD i default):=by
 by_cases hi:i<l.length
 ·exact h _ (Q9 hi)
 ·rw [List.getD_eq_getElem?_getD,List.getElem?_eq_none (by omega)];exact h0
def uk{v:br}(h:sq v):v.S.length≤64:=by
 rcases wM h.1 with h|h|h
 ·rw [h];simp
 ·rw [h.2];simp
 ·exact Y4 h.2.2
def zJ:dV bC:=fr (λp=>⟨p.1,p.2⟩) (dx (fz 24) λ_=>me)
def lM(p:bC):ano:=fV p.Key++cO p.b2
def ss(p:bC):Prop:=p.Key.length≤24∧sq p.b2
def Q_:dM zJ lM ss:=
 (ny.dep λ_ _=>sr).map _ (λp=>(p.Key,p.b2)) ss lM (λb h=>⟨rfl,⟨h.1,h.2⟩,rfl⟩) (λa h=>⟨rfl,⟨h.1,h.2⟩⟩)
def zK:dV (List bC):=mb o3 5 (iW 2147483647 zJ)
def akl:dM (iW 2147483647 zJ) (dE lM) (λl=>l.length≤2147483647∧∀v∈l,ss v):=Q_.ue _ (by omega) (λv _=>by unfold lM fV;simp [pU])
def Jv:dM zK (dE lM) (λl=>(l.length≤2147483647∧∀v∈l,ss v)∧o3 l=true):=akl.chk _ _ (by omega)
def Zm{p:bC}(h:ss p):ug p:=⟨by have:=h.1;omega,by have:=uk h.2;omega⟩
def Ra{l:List bC}(h:∀p∈l,ss p)(i:Nat):ug (l.getD i default):=oi (P:=ug) (λx hx=>Zm (h x hx)) ⟨by show([]:ano).length≤1000;simp,by show([]:ano).length≤1000;simp⟩ i
section
variable {n:Nat} (hn:2000≤n) (aU:n≤1000000000) {s:ano} (hs:s.length<n)
include hn aU hs
theorem akm{t:ano}(aB:t <:+ s):GK n s (a_ s t)=some (res [] s (zK t)):=by
 unfold GK zK mb iW;rw [show(2147483647:Int)=((2147483647:Nat):Int)from rfl,uf aB (by omega) (by omega) (by omega),ai]
 cases h:iG 2147483647 t with
 |error e=>rw [qY h,fg];simp only [gd (oh h),am',fg]
 |ok r=>
  obtain⟨u,bE⟩:=r;obtain⟨Z,aa,aj⟩:=o2 h;have ez:bE <:+ s:=List.IsSuffix.trans ⟨eD u,Z.symm⟩ aB;have hu:=ez.length_le;rw [qX h,gF];simp only [am8,ana,am_];rw [show vD n s ((u:Int),a_ s bE,0) n (a_ s bE) 0 []=_ from Y_ (L:=λm i t acc=>vD n s ((u:Int),a_ s bE,0) m (a_ s t) (i:Int) acc) (D:=zJ) (u:=u) (s:=s) (fin:=λacc t=>GI n (a_ s t) acc) (bad:=λe=>some ([],0,e)) (λx v t hx=>Q_.kQ hx) ?_ ?_ (by omega) ez]
  ·cases ah:gK zJ u bE with
   |error e=>rfl
   |ok r=>
    obtain⟨l,mK⟩:=r;obtain⟨g1,g2,g3⟩:=(Q_.rep u).fy _ _ _ ah;simp only [GI];rw [Za hn aU (by omega) (Ra g3),ai]
    cases o3 l<;>rfl
  ·intro m i t acc hi ha aB;simp only [vD,GJ,ang,hi,am8,am'];rw [show(24:Int)=((24:Nat):Int)from rfl,DP aB (by omega) (by omega) (by omega),ai]
   unfold zJ fr dx;cases aD:fz 24 t with
   |error e=>rw [fg];simp only [gd (ny.cv _ _ aD),am']
   |ok r=>
    obtain⟨k,t1⟩:=r;rw [gF];simp only [am8,ana,am_];rw [Q0 (iH ny aD aB) (by omega) (by omega),ai]
    cases aV:me t1 with
    |error e=>rw [fg];simp only [gd (sr.cv _ _ aV),am']
    |ok r=>
     obtain⟨v,t2⟩:=r;rw [gF];simp only [am8,ana,am_,ani];rw [lL (by omega),aM,bg (by omega)]
  ·intro m t acc ha aB;simp only [vD,GJ,ank,am9,am_]
end
def ul{α β R:Type}{D:dV α}{s:ano}{u:Nat}{f:Nat→α→β}{L:Nat→Nat→ano→List β→Option R}{fin:List β→ano→Option R}{bad:Int→Option R→Prop}
 (kQ:∀x v t,D x = .ok (v,t)→t <:+ x)
 (step:∀m i t acc,u<i+1+m→i<u→acc.length=i→t <:+ s→match D t with|.ok (v,bE)=>L (m+1) i t acc=L m (i+1) bE (acc++[f i v])|.error e=>bad e (L (m+1) i t acc))
 (stop:∀m t acc,acc.length=u→t <:+ s→L (m+1) u t acc=fin acc t):
 ∀k m i t acc,i+k=u→k<m→acc.length=i→t <:+ s→match gK D k t with|.ok (l,bE)=>L m i t acc=fin (acc++(l.zipIdx i).map λp=>f p.2 p.1) bE|.error e=>bad e (L m i t acc):=by
 intro k;induction k with
 |zero=>
  intro m i t acc hi hm ha aB;obtain⟨m,rfl⟩:∃j,m=j+1:=⟨m-1,by omega⟩
  obtain rfl:i=u:=by omega
  rw [stop m t acc ha aB];simp [gK]
 |succ k aF=>
  intro m i t acc hi hm ha aB;obtain⟨m,rfl⟩:∃j,m=j+1:=⟨m-1,by omega⟩
  have cS:=step m i t acc (by omega) (by omega) ha aB
  unfold gK;cases h:D t with
  |error e=>rw [h]at cS;exact cS
  |ok r=>
   obtain⟨v,bE⟩:=r;rw [h]at cS;simp only at cS ⊢
   have:=aF m (i+1) bE (acc++[f i v]) (by omega) (by omega) (by simp [ha]) ((kQ _ _ _ h).trans aB)
   cases aa:gK D k bE with
   |error e=>rw [aa]at this;simp only at this ⊢;rw [cS];exact this
   |ok r=>
    obtain⟨l,mK⟩:=r;rw [aa]at this;simp only at this ⊢
    rw [cS,this];simp
def um{α:Type}(l:List α)(i:Nat):((l.zipIdx i).map λp=>p.1)=l:=List.zipIdx_map_fst i l
def li{α:Type}(e:Int)(x:Option (α×Int×Int)):Prop:=∃v a,x=some (v,a,e)
def zL:dV Part:=fr (λp=>⟨p.1,p.2.1,p.2.2.1,p.2.2.2.1,p.2.2.2.2⟩) (dx ir λ_=>dx (fz 24) λ_=>dx ir λ_=>dx ir λ_=>fz 24)
def wP(x:Part):ano:=mJ x.Id++(fV x.gR++(mJ x.Node++(mJ x.iN++fV x.k4)))
def su(x:Part):Prop:=h8 x.Id∧x.gR.length≤24∧h8 x.Node∧h8 x.iN∧x.k4.length≤24
def Rb:dM zL wP su:=
 (kv.dep λ_ _=>ny.dep λ_ _=>kv.dep λ_ _=>kv.dep λ_ _=>ny).map _ (λx=>(x.Id,x.gR,x.Node,x.iN,x.k4)) su wP
  (λb h=>⟨rfl,⟨h.1,h.2.1,h.2.2.1,h.2.2.2.1,h.2.2.2.2⟩,rfl⟩) (λa h=>⟨rfl,⟨h.1,h.2.1,h.2.2.1,h.2.2.2.1,h.2.2.2.2⟩⟩)
def un:dV cD:=mb q0 5 (fr (λp=>⟨p.1,p.2⟩) (dx ir λ_=>iW 16 zL))
def o4(p:cD):ano:=mJ p.Version++dE wP p.bb
def akn:dM (iW 16 zL) (dE wP) (λl=>l.length≤16∧∀v∈l,su v):=Rb.ue _ (by omega) (λv _=>by unfold wP mJ;simp [pU])
def Jw:dM un o4 (λp=>(h8 p.Version∧p.bb.length≤16∧∀v∈p.bb,su v)∧q0 p=true):=
 ((kv.dep λ_ _=>akn).map (λp=>(⟨p.1,p.2⟩:cD)) (λp:cD=>(p.Version,p.bb)) (λp=>h8 p.Version∧p.bb.length≤16∧∀v∈p.bb,su v) o4 (λb h=>⟨rfl,⟨h.1,h.2⟩,rfl⟩) (λa h=>⟨rfl,⟨h.1,h.2⟩⟩)).chk _ _ (by omega)
def ako{p:Part}(h:su p):zH p:=⟨by have:=h.2.1;omega,by have:=h.2.2.2.2;omega⟩
def Rc{l:List Part}(h:∀p∈l,su p)(i:Nat):zH (l.getD i default):=oi (P:=zH) (λx hx=>ako (h x hx)) ⟨by show([]:ano).length≤1000;simp,by show([]:ano).length≤1000;simp⟩ i
section
variable {n:Nat} (hn:2000≤n) (aU:n≤1000000000) {s:ano} (hs:s.length<n)
theorem DX{a e:Int}(he:e≠0):rO n ⟨s,a,e⟩=some (0,a,e):=by
 unfold rO;simp only [gd he,am']
theorem DY{a e:Int}(he:e≠0):vE n ⟨s,a,e⟩=some ([],a,e):=by
 unfold vE;simp only [gd he,am']
include hn aU hs
theorem Jx{t:ano}(aB:t <:+ s):rO n ⟨s,a_ s t,0⟩=some (res 0 s (ir t)):=by
 unfold rO;simp only [am8,ana,am_];rw [QZ aB (by omega) (by omega),ai]
theorem Zn{t:ano}(aB:t <:+ s):vE n ⟨s,a_ s t,0⟩=some (res [] s (fz 24 t)):=by
 unfold vE;simp only [am8,ana,am_];rw [show(24:Int)=((24:Nat):Int)from rfl,DP aB (by omega) (by omega) (by omega),ai]
theorem zM{u:Nat}(hu:u<n){r1:Int×Int×Int}{b:Int}{c:Int}:∀(k m i:Nat) (a e:Int) (acc:List Part),e≠0→i+k=u→k<m→acc.length=i→rP n ((u:Int),b,c) s r1 m a e acc (i:Int)=some (⟨0,[]⟩,0,e):=by
 intro k;induction k with
 |zero=>
  intro m i a e acc he hi hm ha;obtain⟨m,rfl⟩:∃j,m=j+1:=⟨m-1,by omega⟩
  obtain rfl:i=u:=by omega
  simp only [rP,yk,ank,am9,am_,BV,GL,he,ai,anb,am']
 |succ k aF=>
  intro m i a e acc he hi hm ha;obtain⟨m,rfl⟩:∃j,m=j+1:=⟨m-1,by omega⟩
  simp only [rP,yk,ang,show i<u by omega,am8,am',DX he,DY he,ai,ani]
  rw [lL (by omega),aM,bg (by omega)]
  exact aF m (i+1) a e _ he (by omega) (by omega) (by simp [ha])
theorem akp{t:ano}(aB:t <:+ s):GM n s (a_ s t)=some (res ⟨0,[]⟩ s (un t)):=by
 unfold GM un mb fr dx iW;rw [Jx hn aU hs aB,ai];cases h0:ir t with
 |error e=>rw [fg];simp only [gd (kv.cv _ _ h0),am',fg]
 |ok r=>
  obtain⟨v,t0⟩:=r;have Zo:=iH kv h0 aB;rw [gF];simp only [am8,ana,am_];rw [show(16:Int)=((16:Nat):Int)from rfl,uf Zo (by omega) (by omega) (by omega),ai]
  cases h:iG 16 t0 with
  |error e=>
   rw [qY h,fg];exact zM hn aU hs (u:=0) (by omega) 0 n 0 0 e [] (oh h) rfl (by omega) rfl
  |ok r=>
   obtain⟨u,bE⟩:=r;obtain⟨Z,aa,aj⟩:=o2 h;have ez:bE <:+ s:=List.IsSuffix.trans ⟨eD u,Z.symm⟩ Zo;have hu:=ez.length_le;rw [qX h,gF]
   have cT:=ul (L:=λm i t acc=>rP n ((u:Int),a_ s bE,0) s (v,a_ s t0,0) m (a_ s t) 0 acc (i:Int)) (f:=λ_ v=>v) (D:=zL) (u:=u) (s:=s) (fin:=λacc t=>BV n s (v,a_ s t0,0) (a_ s t) 0 acc) (bad:=λe x=>x=some (⟨0,[]⟩,0,e)) (λx v t hx=>Rb.kQ hx) (by
    intro m i t acc hm hi ha aB;simp only [rP,yk,ang,hi,am8,am'];rw [Jx hn aU hs aB,ai];unfold zL fr dx;have fZ:room (acc.length+1) 56=true:=lL (by omega)
    cases g1:ir t with
    |error e=>
     have he:=kv.cv _ _ g1;rw [fg];simp only [DX he,DY he,ai,ani,fZ,aM];rw [bg (by omega)]
     exact zM hn aU hs (by omega) (u-(i+1)) m (i+1) _ e _ he (by omega) (by omega) (by simp [ha])
    |ok r=>
     obtain⟨f5,t1⟩:=r;have jY:=iH kv g1 aB;rw [gF];simp only
     rw [Zn hn aU hs jY,ai];cases g2:fz 24 t1 with
     |error e=>
      have he:=ny.cv _ _ g2;rw [fg];simp only [DX he,DY he,ai,ani,fZ,aM];rw [bg (by omega)]
      exact zM hn aU hs (by omega) (u-(i+1)) m (i+1) _ e _ he (by omega) (by omega) (by simp [ha])
     |ok r=>
      obtain⟨gt,t2⟩:=r;have jt:=iH ny g2 jY;rw [gF];simp only
      rw [Jx hn aU hs jt,ai];cases g3:ir t2 with
      |error e=>
       have he:=kv.cv _ _ g3;rw [fg];simp only [DX he,DY he,ai,ani,fZ,aM];rw [bg (by omega)]
       exact zM hn aU hs (by omega) (u-(i+1)) m (i+1) _ e _ he (by omega) (by omega) (by simp [ha])
      |ok r=>
       obtain⟨mH,t3⟩:=r;have DZ:=iH kv g3 jt;rw [gF];simp only
       rw [Jx hn aU hs DZ,ai];cases g4:ir t3 with
       |error e=>
        have he:=kv.cv _ _ g4;rw [fg];simp only [DX he,DY he,ai,ani,fZ,aM];rw [bg (by omega)]
        exact zM hn aU hs (by omega) (u-(i+1)) m (i+1) _ e _ he (by omega) (by omega) (by simp [ha])
       |ok r=>
        obtain⟨fP,t4⟩:=r;have Jy:=iH kv g4 DZ;rw [gF];simp only
        rw [Zn hn aU hs Jy,ai];cases g5:fz 24 t4 with
        |error e=>
         have he:=ny.cv _ _ g5;rw [fg];simp only [ani,fZ,aM];rw [bg (by omega)]
         exact zM hn aU hs (by omega) (u-(i+1)) m (i+1) _ e _ he (by omega) (by omega) (by simp [ha])
        |ok r=>
         obtain⟨m9,t5⟩:=r;rw [gF];simp only [ani,fZ,aM];rw [bg (by omega)]) (by
    intro m t acc ha aB;simp only [rP,yk,ank,am9,am_]) u n 0 bE [] (by omega) (by omega) rfl ez
   cases ah:gK zL u bE with
   |error e=>rw [ah]at cT;simp only [ah]at cT ⊢;exact cT
   |ok r=>
    obtain⟨l,mK⟩:=r;rw [ah]at cT;simp only [List.nil_append,um,ah]at cT ⊢;refine cT.trans ?_;obtain⟨g1,g2,g3⟩:=(Rb.rep u).fy _ _ _ ah;simp only [BV,am8,am'];rw [Zg hn aU (p:=⟨v,l⟩) (by show l.length<n;omega) (Rc g3),ai]
    cases q0 ⟨v,l⟩<;>rfl
end
def wQ:dV Outcome:=fr (λp=>⟨p.1,p.2.1,p.2.2⟩) (dx (nx 0 9999) λ_=>dx (nx 0 9999) λ_=>iW 16 me)
def wR(o:Outcome):ano:=iV o.Status++(iV o.Code++dE cO o.Out)
def sv(o:Outcome):Prop:=(0≤o.Status∧o.Status≤9999)∧(0≤o.Code∧o.Code≤9999)∧o.Out.length≤16∧∀v∈o.Out,sq v
def n99:dM (nx 0 9999) iV (λz=>0≤z∧z≤9999):=QX (by omega) (by omega)
def Rd:dM (nx 1 32) iV (λz=>1≤z∧z≤32):=QX (by omega) (by omega)
def Jz:dM (nx 1 1099511627776) iV (λz=>1≤z∧z≤1099511627776):=QX (by omega) (by omega)
def Zp(k:Nat)(hk:k<18446744073709551616):dM (iW k me) (dE cO) (λl=>l.length≤k∧∀v∈l,sq v):=sr.ue _ hk (λv _=>ajG v)
def Re:dM wQ wR sv:=
 (n99.dep λ_ _=>n99.dep λ_ _=>Zp 16 (by omega)).map (λp=>(⟨p.1,p.2.1,p.2.2⟩:Outcome)) (λo:Outcome=>(o.Status,o.Code,o.Out)) sv wR
  (λb h=>⟨rfl,⟨h.1,h.2.1,h.2.2⟩,rfl⟩) (λa h=>⟨rfl,⟨h.1,h.2.1,h.2.2⟩⟩)
def zN(c eZ k:Int)(l:List Outcome):List eK:=(l.zipIdx 0).map λp=>⟨c,anq (eZ-anq (k-(p.2:Int))),p.1⟩
def JA(c eZ k:Int)(l:List Outcome):(zN c eZ k l).map (·.Outcome)=l:=by
 unfold zN;rw [List.map_map];exact um l 0
def Rf{eZ:Int}(h:1≤eZ∧eZ≤1099511627776):0≤mM eZ∧mM eZ≤8∧mM eZ≤eZ-1:=by
 unfold mM;rw [wr (x:=eZ-1) (by omega) (by omega)]
 by_cases dI:eZ-1<8
 ·rw [decide_eq_true dI,am'];omega
 ·rw [decide_eq_false dI,am_];omega
def uo:dV bY:=fr (λp=>⟨p.1,p.2.1,zN p.1 p.2.1 (mM p.2.1) p.2.2⟩) (dx (nx 1 32) λ_=>dx (nx 1 1099511627776) λeZ=>gK wQ (mM eZ).toNat)
def mg(s:bY):ano:=iV s.Client++(iV s.Next++iF wR (s.cM.map (·.Outcome)))
def uq(s:bY):Prop:=(1≤s.Client∧s.Client≤32)∧(1≤s.Next∧s.Next≤1099511627776)∧s.cM=zN s.Client s.Next (mM s.Next) (s.cM.map (·.Outcome))∧(s.cM.map (·.Outcome)).length=(mM s.Next).toNat∧∀o∈s.cM.map (·.Outcome),sv o
def JB:dM uo mg uq:=
 (Rd.dep λ_ _=>Jz.dep λeZ _=>Re.rep (mM eZ).toNat).map (λp=>(⟨p.1,p.2.1,zN p.1 p.2.1 (mM p.2.1) p.2.2⟩:bY)) (λs:bY=>(s.Client,s.Next,s.cM.map (·.Outcome))) uq mg
  (λb h=>⟨by simp only;rw [←h.2.2.1],⟨h.1,h.2.1,h.2.2.2.1,h.2.2.2.2⟩,rfl⟩) (λa h=>⟨by simp only [JA],⟨h.1,h.2.1,by simp only [JA],by simp only [JA];exact h.2.2.1,by simp only [JA];exact h.2.2.2⟩⟩)
def ur:dV (List bY):=mb q1 5 (iW 32 uo)
def akq:dM (iW 32 uo) (dE mg) (λl=>l.length≤32∧∀v∈l,uq v):=JB.ue _ (by omega) (λv _=>by unfold mg iV;simp [pU])
def JC:dM ur (dE mg) (λl=>(l.length≤32∧∀v∈l,uq v)∧q1 l=true):=akq.chk _ _ (by omega)
def Zq{n:Nat}(hn:2000≤n){o:Outcome}(h:sv o):DV n o:=
 ⟨by have:=h.2.2.1;omega,λi=>oi (P:=λv:br=>v.S.length≤1000) (λx hx=>by have:=uk (h.2.2.2 x hx);omega) (by show([]:ano).length≤1000;simp) i⟩
def akr{n:Nat}(hn:2000≤n){s:bY}(h:uq s):uj n s:=by
 have hk:=Rf h.2.1;have ab:s.cM.length=(mM s.Next).toNat:=by have:=h.2.2.2.1;simpa using this
 refine⟨by omega,λi=>oi (P:=λr:eK=>DV n r.Outcome) (λx hx=>Zq hn (h.2.2.2.2 _ (List.mem_map_of_mem hx))) ?_ i⟩
 refine Zq hn ?_;refine⟨by show(0:Int)≤0∧(0:Int)≤9999;omega,by show(0:Int)≤0∧(0:Int)≤9999;omega,by show([]:List br).length≤16;simp,λv am=>by cases am⟩
def Rg{n:Nat}(hn:2000≤n){l:List bY}(h:∀s∈l,uq s)(i:Nat):uj n (l.getD i default):=by
 refine oi (P:=uj n) (λx hx=>akr hn (h x hx)) ⟨by show([]:List eK).length<n;simp;omega,λi=>⟨?_,λi=>?_⟩⟩ i
 ·show((([]:List eK).getD i default).Outcome).Out.length<n
  show([]:List br).length<n
  simp;omega
 ·show((((([]:List eK).getD _ default).Outcome).Out).getD i default).S.length≤1000
  show([]:ano).length≤1000
  simp
section
variable {n:Nat} (hn:2000≤n) (aU:n≤1000000000) {s:ano} (hs:s.length<n)
theorem Zr{lo hi a e:Int}(he:e≠0):rT n lo hi ⟨s,a,e⟩=some (0,a,e):=by
 unfold rT;simp only [gd he,am']
include hn aU hs
theorem JD{lo hi:Int}(h0:0≤lo)(Z:hi≤9223372036854775807){t:ano}(aB:t <:+ s):rT n lo hi ⟨s,a_ s t,0⟩=some (match nx lo hi t with|.ok (v,bE)=>(v,a_ s bE,0)|.error e=>(0,a_ s t,e)):=by
 unfold rT nx mb;simp only [am8,ana,am_];rw [zC aB (by omega) (by omega),ai]
 cases h:hX t with
 |error e=>
  have he:¬ e=0:=md.cv _ _ h;rw [fg];simp only [he,am9,am_,yt,anb,am']
 |ok r=>
  obtain⟨u,bE⟩:=r;have hu:=(md.fy _ _ _ h).2;unfold hD at hu;rw [gF];simp only [am8,am'];by_cases hb:lo≤u∧u≤hi
  ·simp only [show¬ u<lo by omega,show¬ hi<u by omega,hb.1,hb.2,am8,am9,am_,Bool.and_self,anm,yt,ana,wr (x:=u) (by omega) (by omega)]
  ·have:(bif (decide (u<lo))then true else(decide (hi<u)))=true:=by
    rw [eo,←Bool.decide_or];exact decide_eq_true (by omega)
   have aa:(decide (lo≤u)&&decide (u≤hi))=false:=by
    rw [←Bool.decide_and];exact decide_eq_false hb
   simp only [this,am',aa,Bool.false_eq_true,ann,yt,show¬ (5:Int)=0 by omega,am9,anb]
theorem aks{t:ano}(aB:t <:+ s):match wQ t with|.ok (o,bE)=>BX n ⟨s,a_ s t,0⟩=some (o,a_ s bE,0)|.error e=>li e (BX n ⟨s,a_ s t,0⟩):=by
 unfold BX wQ fr dx;rw [JD hn aU hs (by omega) (by omega) aB,ai]
 cases g1:nx 0 9999 t with
 |error e=>
  have he:=n99.cv _ _ g1;simp only [Zr he,ai];rw [show(!decide (e=0))=true from gd he]
  exact⟨_,_,rfl⟩
 |ok r=>
  obtain⟨f5,t1⟩:=r;have jY:=iH n99 g1 aB;simp only
  rw [JD hn aU hs (by omega) (by omega) jY,ai]
  cases g2:nx 0 9999 t1 with
  |error e=>
   have he:=n99.cv _ _ g2;simp only
   rw [show(!decide (e=0))=true from gd he]
   exact⟨_,_,rfl⟩
  |ok r=>
   obtain⟨gt,t2⟩:=r;have jt:=iH n99 g2 jY;simp only [am8,ana,am_];rw [show(16:Int)=((16:Nat):Int)from rfl,uf jt (by omega) (by omega) (by omega),ai]
   unfold iW;obtain⟨q2,rfl⟩:∃k,n=k+1:=⟨n-1,by omega⟩
   cases h:iG 16 t2 with
   |error e=>
    have he:=oh h;rw [qY h,fg];simp only [ti,yu,ank,am9,am_,BW];exact⟨_,_,rfl⟩
   |ok r=>
    obtain⟨u,bE⟩:=r;obtain⟨Z,aa,aj⟩:=o2 h;have ez:bE <:+ s:=List.IsSuffix.trans ⟨eD u,Z.symm⟩ jt;have hu:=ez.length_le;rw [qX h,gF];generalize a_ s t=A
    have cT:=ul (L:=λm i t acc=>ti (q2+1) ((u:Int),a_ s bE,0) ⟨s,A,0⟩ (f5,a_ s t1,0) (gt,a_ s t2,0) m (a_ s t) 0 acc (i:Int)) (f:=λ_ v=>v) (D:=me) (u:=u) (s:=s) (fin:=λacc t=>some (⟨f5,gt,acc⟩,a_ s t,0)) (bad:=λe x=>li e x) (λx v t hx=>sr.kQ hx) (by
     intro m i t acc hm hi ha aB;simp only [ti,yu,ang,hi,am8,am'];rw [Q0 aB (by omega) (by omega),ai]
     have fZ:room (acc.length+1) 32=true:=lL (by omega)
     cases g3:me t with
     |error e=>
      have he:¬ e=0:=sr.cv _ _ g3;rw [fg];simp only [ani,fZ,aM];obtain⟨m,rfl⟩:∃j,m=j+1:=⟨m-1,by omega⟩
      simp only [ti,yu,he,am9,eT,Bool.and_false,am_,BW];exact⟨_,_,rfl⟩
     |ok r=>
      obtain⟨v,t3⟩:=r;rw [gF];simp only [ani,fZ,aM];rw [bg (by omega)]) (by
     intro m t acc ha aB;simp only [ti,yu,ank,am9,am_,BW]) u (q2+1) 0 bE [] (by omega) (by omega) rfl ez
    cases ah:gK me u bE with
    |error e=>rw [ah]at cT;simp only [ah]at cT ⊢;exact cT
    |ok r=>
     obtain⟨l,mK⟩:=r;rw [ah]at cT;simp only [List.nil_append,um,ah]at cT ⊢;exact cT
theorem akt{t:ano}(aB:t <:+ s):match uo t with|.ok (o,bE)=>BZ n ⟨s,a_ s t,0⟩=some (o,a_ s bE,0)|.error e=>li e (BZ n ⟨s,a_ s t,0⟩):=by
 unfold BZ uo fr dx;rw [JD hn aU hs (by omega) (by omega) aB,ai]
 cases g1:nx 1 32 t with
 |error e=>
  have he:=Rd.cv _ _ g1;simp only [Zr he,ai];rw [show(!decide (e=0))=true from gd he]
  exact⟨_,_,rfl⟩
 |ok r=>
  obtain⟨f5,t1⟩:=r;have jY:=iH Rd g1 aB;simp only
  rw [JD hn aU hs (by omega) (by omega) jY,ai]
  cases g2:nx 1 1099511627776 t1 with
  |error e=>
   have he:=Jz.cv _ _ g2;simp only
   rw [show(!decide (e=0))=true from gd he]
   exact⟨_,_,rfl⟩
  |ok r=>
   obtain⟨gt,t2⟩:=r;have jt:=iH Jz g2 jY;have p_:=(Jz.fy _ _ _ g2).2;have hk:=Rf p_;simp only [am8,ana,am_];rw [show BD n gt=some (mM gt)from rfl,ai]
   obtain⟨u,hu⟩:=Int.eq_ofNat_of_zero_le hk.1
   (rw [hu];simp only [anf])
   generalize a_ s t=A
   have cT:=ul (L:=λm i t acc=>vJ n (u:Int) ⟨s,A,0⟩ (f5,a_ s t1,0) (gt,a_ s t2,0) m (a_ s t) 0 acc (i:Int)) (f:=λi v=>(⟨f5,anq (gt-anq ((u:Int)-(i:Int))),v⟩:eK)) (D:=wQ) (u:=u) (s:=s) (fin:=λacc t=>some (⟨f5,gt,acc⟩,a_ s t,0)) (bad:=λe x=>li e x) (λx v t hx=>Re.kQ hx) (by
    intro m i t acc hm hi ha aB;have an:=aks hn aU hs aB;simp only [vJ,BY,ang,hi,am8,am'];have fZ:room (acc.length+1) 56=true:=lL (by omega)
    cases g3:wQ t with
    |error e=>
     have he:¬ e=0:=Re.cv _ _ g3;rw [g3]at an;obtain⟨v,a,an⟩:=an;rw [an,ai];simp only [ani,fZ,aM];obtain⟨m,rfl⟩:∃j,m=j+1:=⟨m-1,by omega⟩
     simp only [vJ,BY,he,am9,eT,Bool.and_false,am_,GS];exact⟨_,_,rfl⟩
    |ok r=>
     obtain⟨v,t3⟩:=r;rw [g3]at an;simp only at an ⊢
     rw [an,ai];simp only [ani,fZ,aM];rw [bg (by omega)]) (by
    intro m t acc ha aB;simp only [vJ,BY,ank,am9,am_,GS]) u n 0 t2 [] (by omega) (by omega) rfl jt
   cases ah:gK wQ u t2 with
   |error e=>rw [ah]at cT;simp only [ah]at cT ⊢;exact cT
   |ok r=>
    obtain⟨l,mK⟩:=r;rw [ah]at cT;simp only [List.nil_append,ah]at cT ⊢;simp only [zN,hu];exact cT
theorem aku{t:ano}(aB:t <:+ s):GT n s (a_ s t)=some (res [] s (ur t)):=by
 unfold GT ur mb iW;rw [show(32:Int)=((32:Nat):Int)from rfl,uf aB (by omega) (by omega) (by omega),ai]
 cases h:iG 32 t with
 |error e=>rw [qY h,fg];simp only [gd (oh h),am',fg]
 |ok r=>
  obtain⟨u,bE⟩:=r;obtain⟨Z,aa,aj⟩:=o2 h;have ez:bE <:+ s:=List.IsSuffix.trans ⟨eD u,Z.symm⟩ aB;have hu:=ez.length_le;rw [qX h,gF];simp only [am8,ana,am_]
  have cT:=ul (L:=λm i t acc=>vK n ((u:Int),a_ s bE,0) s m (a_ s t) 0 acc (i:Int)) (f:=λ_ v=>v) (D:=uo) (u:=u) (s:=s) (fin:=λacc t=>B0 n s (a_ s t) 0 acc) (bad:=λe x=>x=some ([],0,e)) (λx v t hx=>JB.kQ hx) (by
   intro m i t acc hm hi ha aB;have an:=akt hn aU hs aB;simp only [vK,B1,ang,hi,am8,am'];have fZ:room (acc.length+1) 40=true:=lL (by omega)
   cases g3:uo t with
   |error e=>
    have he:¬ e=0:=JB.cv _ _ g3;rw [g3]at an;obtain⟨v,a,an⟩:=an;rw [an,ai];simp only [ani,fZ,aM];obtain⟨m,rfl⟩:∃j,m=j+1:=⟨m-1,by omega⟩
    simp only [vK,B1,he,am9,eT,Bool.and_false,am_,B0,anb,am']
   |ok r=>
    obtain⟨v,t3⟩:=r;rw [g3]at an;simp only at an ⊢
    rw [an,ai];simp only [ani,fZ,aM];rw [bg (by omega)]) (by
   intro m t acc ha aB;simp only [vK,B1,ank,am9,am_]) u n 0 bE [] (by omega) (by omega) rfl ez
  cases ah:gK uo u bE with
  |error e=>rw [ah]at cT;simp only [ah]at cT ⊢;exact cT
  |ok r=>
   obtain⟨l,mK⟩:=r;rw [ah]at cT;simp only [List.nil_append,um,ah]at cT ⊢;refine cT.trans ?_;obtain⟨g1,g2,g3⟩:=(JB.rep u).fy _ _ _ ah;simp only [B0,am8,ana,am_];rw [Q8 hn aU (by omega) (Rg hn g3),ai]
   cases q1 l<;>rfl
end
abbrev jD:=List ano
def wS:dV jD:=iW 64 (fz 24)
def Zs(s:ano):fV s≠[]:=by unfold fV;simp [pU]
def wT:dM wS (dE fV) (λl=>l.length≤64∧∀v∈l,v.length≤24):=ny.ue _ (by omega) (λv _=>Zs v)
def Rh(b:Bool):dV (jD×jD):=if b then dx wS λ_=>wS else QW ([],[])
def ut(b:Bool)(p:jD×jD):ano:=if b then dE fV p.1++dE fV p.2 else[]
def Ri(b:Bool)(p:jD×jD):Prop:=if b then(p.1.length≤64∧∀v∈p.1,v.length≤24)∧(p.2.length≤64∧∀v∈p.2,v.length≤24)else p=([],[])
def akv:∀b,dM (Rh b) (ut b) (Ri b)
 |true=>wT.dep λ_ _=>wT
 |false=>Y3 ([],[])
abbrev Zt:=Int×Int×ano×List br×Bool×(jD×jD)
def Rj:dV Zt:=dx hX λ_=>dx hX λ_=>dx (fz 16) λ_=>dx (iW 6 me) λ_=>dx qW λb=>Rh b
def nz(p:Zt):Request:=⟨p.1,p.2.1,p.2.2.1,p.2.2.2.1,p.2.2.2.2.1,⟨false,p.2.2.2.2.2.1,p.2.2.2.2.2.2⟩⟩
def pX(r:Request):Prop:=hD r.Client∧hD r.Seq∧r.aZ.length≤16∧(r.ao.length≤6∧∀v∈r.ao,sq v)∧Ri r.fv (r.bW.Reads,r.bW.es)∧r.bW.fo=false
def kw(r:Request):ano:=iV r.Client++(iV r.Seq++(fV r.aZ++(dE cO r.ao++(wL r.fv++ut r.fv (r.bW.Reads,r.bW.es)))))
def JE:dM (fz 16) fV (λs=>s.length≤16):=zA 16 (by omega)
def akw:dM (fr nz Rj) kw pX:=
 (md.dep λ_ _=>md.dep λ_ _=>JE.dep λ_ _=>(Zp 6 (by omega)).dep λ_ _=>QV.dep λb _=>akv b).map nz (λr=>(r.Client,r.Seq,r.aZ,r.ao,r.fv,(r.bW.Reads,r.bW.es))) pX kw
  (λr h=>⟨by obtain⟨a,b,c,d,e,f,g,i⟩:=r;have:f=false:=h.2.2.2.2.2;subst this;rfl,⟨h.1,h.2.1,h.2.2.1,h.2.2.2.1,trivial,h.2.2.2.2.1⟩,rfl⟩) (λa h=>⟨rfl,⟨h.1,h.2.1,h.2.2.1,h.2.2.2.1,h.2.2.2.2.2,rfl⟩⟩)
def wU(r:Request):Bool:=(decide (r.Client≤32)&&decide (r.Seq≤1099511627776))&&decide (wN r=0)
def wV:dV Request:=mb wU 5 (fr nz Rj)
def Rk:dM wV kw (λr=>pX r∧wU r=true):=akw.chk _ _ (by omega)
def o5:dV (List Request):=iW 64 wV
def JF:dM o5 (dE kw) (λl=>l.length≤64∧∀v∈l,pX v∧wU v=true):=Rk.ue _ (by omega) (λv _=>by unfold kw iV;simp [pU])
def wW:dV (List bn):=iW 32 (fr (λp=>⟨p.1,p.2⟩) (dx (fz 24) λ_=>ir))
def oj(h:bn):ano:=fV h.Key++mJ h.Count
def Rl:dM (fr (λp=>(⟨p.1,p.2⟩:bn)) (dx (fz 24) λ_=>ir)) oj (λh=>h.Key.length≤24∧h8 h.Count):=
 (ny.dep λ_ _=>kv).map (λp=>(⟨p.1,p.2⟩:bn)) (λh:bn=>(h.Key,h.Count)) _ oj (λb h=>⟨rfl,⟨h.1,h.2⟩,rfl⟩) (λa h=>⟨rfl,⟨h.1,h.2⟩⟩)
def akx:dM wW (dE oj) (λl=>l.length≤32∧∀h∈l,h.Key.length≤24∧h8 h.Count):=Rl.ue _ (by omega) (λv _=>by unfold oj fV;simp [pU])
def JG:dM (fz 16384) fV (λs=>s.length≤16384):=zA 16384 (by omega)
def Rm:dV jD:=iW 16 (fz 16384)
def aky:dM Rm (dE fV) (λl=>l.length≤16∧∀s∈l,s.length≤16384):=JG.ue _ (by omega) (λv _=>Zs v)
def D0{n:Nat}(hn:2000≤n){r:Request}(h:pX r):ui n r:=by
 have aV:=h.2.2.2.2.1
 have hk:(r.bW.Reads.length≤64∧∀v∈r.bW.Reads,v.length≤24)∧(r.bW.es.length≤64∧∀v∈r.bW.es,v.length≤24):=by
  unfold Ri at aV;cases hd:r.fv
  ·rw [hd]at aV;simp only [Bool.false_eq_true,ann,Prod.mk.injEq]at aV;rw [aV.1,aV.2];simp
  ·rw [hd]at aV;exact aV
 have hd:∀l:jD,(∀v∈l,v.length≤24)→∀i,(l.getD i default).length≤1000:=λl ab i=>oi (P:=λv:ano=>v.length≤1000) (λx hx=>by have:=ab x hx;omega) (by show([]:ano).length≤1000;simp) i
 exact⟨by have:=h.2.2.1;omega,by have:=h.2.2.2.1.1;omega,λi=>oi (P:=λv:br=>v.S.length≤1000) (λx hx=>by have:=uk (h.2.2.2.1.2 x hx);omega) (by show([]:ano).length≤1000;simp) i,by have:=hk.1.1;omega,by have:=hk.2.1;omega,hd _ hk.1.2,hd _ hk.2.2⟩
abbrev D1:Request:=⟨0,0,[],[],false,⟨false,[],[]⟩⟩
section
variable {n:Nat} (hn:2000≤n) (aU:n≤1000000000) {s:ano} (hs:s.length<n)
theorem Rn{a e:Int}(he:e≠0):vH n ⟨s,a,e⟩=some (0,a,e):=by unfold vH;simp only [gd he,am']
theorem JH{k a e:Int}(he:e≠0):vF n k ⟨s,a,e⟩=some (0,a,e):=by unfold vF;simp only [gd he,am']
theorem akz{a e:Int}(he:e≠0):ym n ⟨s,a,e⟩=some (false,a,e):=by unfold ym;simp only [gd he,am']
theorem JI{k a e:Int}(he:e≠0):vG n k ⟨s,a,e⟩=some ([],a,e):=by unfold vG;simp only [gd he,am']
theorem akA{a e:Int}(he:e≠0):yo n ⟨s,a,e⟩=some (⟨0,0,[]⟩,a,e):=by unfold yo;simp only [gd he,am']
include hn aU hs
theorem Zu{t:ano}(aB:t <:+ s):vH n ⟨s,a_ s t,0⟩=some (res 0 s (hX t)):=by
 unfold vH pE;simp only [am8,ana,am_];rw [zC aB (by omega) (by omega),ai,ai]
theorem Zv{k:Nat}(hk:k≤1000){t:ano}(aB:t <:+ s):vF n (k:Int) ⟨s,a_ s t,0⟩=some (res 0 s (pV k t)):=by
 unfold vF pE;simp only [am8,ana,am_];rw [uf aB (by omega) (by omega) (by omega),ai,ai]
theorem akB{t:ano}(aB:t <:+ s):ym n ⟨s,a_ s t,0⟩=some (res false s (qW t)):=by
 unfold ym pE;simp only [am8,ana,am_];rw [ajY aB (by omega),ai,ai]
theorem Zw{k:Nat}(hk:k≤1000){t:ano}(aB:t <:+ s):vG n (k:Int) ⟨s,a_ s t,0⟩=some (res [] s (fz k t)):=by
 unfold vG pE;simp only [am8,ana,am_];rw [DP aB (by omega) (by omega) (by omega),ai,ai]
theorem akC{t:ano}(aB:t <:+ s):yo n ⟨s,a_ s t,0⟩=some (res ⟨0,0,[]⟩ s (me t)):=by
 unfold yo pE;simp only [am8,ana,am_];rw [Q0 aB (by omega) (by omega),ai,ai]
theorem Ro{u:Nat}(hu:u<n){b c:Int}{B:hy}(cJ:B.s=s):∀(k m i:Nat) (a e:Int) (acc:jD),e≠0→i+k=u→k<m→acc.length=i→li e (rQ n ((u:Int),b,c) B m a e acc (i:Int)):=by
 intro k;induction k with
 |zero=>
  intro m i a e acc he hi hm ha;obtain⟨m,rfl⟩:∃j,m=j+1:=⟨m-1,by omega⟩
  obtain rfl:i=u:=by omega
  simp only [rQ,yn,ank,am9,am_,GO];exact⟨_,_,rfl⟩
 |succ k aF=>
  intro m i a e acc he hi hm ha;obtain⟨m,rfl⟩:∃j,m=j+1:=⟨m-1,by omega⟩
  simp only [rQ,yn,ang,show i<u by omega,am8,am',JI he,ai,ani]
  rw [lL (by omega),aM,bg (by omega)]
  exact aF m (i+1) a e _ he (by omega) (by omega) (by simp [ha])
theorem Zx{t:ano}(aB:t <:+ s):match wS t with|.ok (l,bE)=>th n ⟨s,a_ s t,0⟩=some (l,a_ s bE,0)|.error e=>li e (th n ⟨s,a_ s t,0⟩):=by
 unfold th wS iW;rw [show(64:Int)=((64:Nat):Int)from rfl,Zv hn aU hs (by omega) aB,ai]
 generalize a_ s t=A
 cases h:iG 64 t with
 |error e=>
  rw [qY h,fg];exact Ro hn aU hs (u:=0) (by omega) (B:=⟨s,A,0⟩) rfl 0 n 0 0 e [] (oh h) rfl (by omega) rfl
 |ok r=>
  obtain⟨u,bE⟩:=r;obtain⟨Z,aa,aj⟩:=o2 h;have ez:bE <:+ s:=List.IsSuffix.trans ⟨eD u,Z.symm⟩ aB;have hu:=ez.length_le;rw [qX h,gF]
  have cT:=ul (L:=λm i t acc=>rQ n ((u:Int),a_ s bE,0) ⟨s,A,0⟩ m (a_ s t) 0 acc (i:Int)) (f:=λ_ v=>v) (D:=fz 24) (u:=u) (s:=s) (fin:=λacc t=>some (acc,a_ s t,0)) (bad:=λe x=>li e x) (λx v t hx=>ny.kQ hx) (by
   intro m i t acc hm hi ha aB;simp only [rQ,yn,ang,hi,am8,am'];rw [show(24:Int)=((24:Nat):Int)from rfl,Zw hn aU hs (by omega) aB,ai]
   have fZ:room (acc.length+1) 16=true:=lL (by omega)
   cases g3:fz 24 t with
   |error e=>
    have he:=ny.cv _ _ g3;rw [fg];simp only [ani,fZ,aM];rw [bg (by omega)]
    exact Ro hn aU hs (by omega) (B:=⟨s,A,0⟩) rfl (u-(i+1)) m (i+1) _ e _ he (by omega) (by omega) (by simp [ha])
   |ok r=>
    obtain⟨v,t3⟩:=r;rw [gF];simp only [ani,fZ,aM];rw [bg (by omega)]) (by
   intro m t acc ha aB;simp only [rQ,yn,ank,am9,am_,GO]) u n 0 bE [] (by omega) (by omega) rfl ez
  cases ah:gK (fz 24) u bE with
  |error e=>rw [ah]at cT;simp only [ah]at cT ⊢;exact cT
  |ok r=>
   obtain⟨l,mK⟩:=r;rw [ah]at cT;simp only [List.nil_append,um,ah]at cT ⊢;exact cT
theorem akD{a e:Int}(he:e≠0):li e (th n ⟨s,a,e⟩):=by
 unfold th;rw [JH he,ai];exact Ro hn aU hs (u:=0) (by omega) (B:=⟨s,a,e⟩) rfl 0 n 0 a e [] he rfl (by omega) rfl
theorem akE{r1 r2:Int×Int×Int}{r3:ano×Int×Int}{a e:Int}{l:List br}(he:e≠0):yp n r1 r2 s r3 a e l=some (D1,0,e):=by
 unfold yp;rw [akz he,ai];simp only [am_,rR,gd he,am']
theorem D2{u:Nat}(hu:u<n){b c:Int}{r1 r2:Int×Int×Int}{r3:ano×Int×Int}:∀(k m i:Nat) (a e:Int) (acc:List br),e≠0→i+k=u→k<m→acc.length=i→rS n r1 r2 ((u:Int),b,c) s r3 m a e acc (i:Int)=some (D1,0,e):=by
 intro k;induction k with
 |zero=>
  intro m i a e acc he hi hm ha;obtain⟨m,rfl⟩:∃j,m=j+1:=⟨m-1,by omega⟩
  obtain rfl:i=u:=by omega
  simp only [rS,yq,ank,am9,am_];exact akE hn aU hs he
 |succ k aF=>
  intro m i a e acc he hi hm ha;obtain⟨m,rfl⟩:∃j,m=j+1:=⟨m-1,by omega⟩
  simp only [rS,yq,ang,show i<u by omega,am8,am',akA he,ai,ani]
  rw [lL (by omega),aM,bg (by omega)]
  exact aF m (i+1) a e _ he (by omega) (by omega) (by simp [ha])
theorem Zy{r1 r2:Int×Int×Int}{r3:ano×Int×Int}{l:List br}{r24:Bool×Int×Int}{t:ano}{ks ws:jD}(Z:hD r1.1)(aa:hD r2.1)(ak:ui n (nz (r1.1,r2.1,r3.1,l,r24.1,(ks,ws)))):
 rR n r1 r2 s r3 l r24 (a_ s t) 0 ks ws=some (res D1 s (if wU (nz (r1.1,r2.1,r3.1,l,r24.1,(ks,ws)))then .ok (nz (r1.1,r2.1,r3.1,l,r24.1,(ks,ws)),t)else .error 5)):=by
 unfold rR wU;unfold hD at Z aa;simp only [am8,ana,am_];by_cases hb:r1.1≤32∧r2.1≤1099511627776
 ·simp only [show¬ 32<r1.1 by omega,show¬ 1099511627776<r2.1 by omega,am9,am_,wr (x:=r1.1) (by omega) (by omega),wr (x:=r2.1) (by omega) (by omega)]
  rw [show qu n ⟨r1.1,r2.1,r3.1,l,r24.1,⟨false,ks,ws⟩⟩=some (wN (nz (r1.1,r2.1,r3.1,l,r24.1,(ks,ws))))from Q4 hn aU ak,ai]
  rw [show decide ((nz (r1.1,r2.1,r3.1,l,r24.1,(ks,ws))).Client≤32)=true from decide_eq_true hb.1,show decide ((nz (r1.1,r2.1,r3.1,l,r24.1,(ks,ws))).Seq≤1099511627776)=true from decide_eq_true hb.2]
  by_cases am:wN (nz (r1.1,r2.1,r3.1,l,r24.1,(ks,ws)))=0
  ·simp only [am,am8,ana,am_,Bool.and_self,anm];rfl
  ·simp only [am,am9,anb,am',Bool.and_false,Bool.false_eq_true,ann];rfl
 ·have aj:(bif (decide (32<r1.1))then true else(decide (1099511627776<r2.1)))=true:=by
   rw [eo,←Bool.decide_or];exact decide_eq_true (by omega)
  have aD:(decide ((nz (r1.1,r2.1,r3.1,l,r24.1,(ks,ws))).Client≤32)&&decide ((nz (r1.1,r2.1,r3.1,l,r24.1,(ks,ws))).Seq≤1099511627776))=false:=by
   rw [←Bool.decide_and];exact decide_eq_false hb
  simp only [aj,aD,am',Bool.false_and,Bool.false_eq_true,ann];rfl
theorem akF{t:ano}(aB:t <:+ s):GP n s (a_ s t)=some (res D1 s (wV t)):=by
 unfold GP wV mb fr Rj dx;rw [Zu hn aU hs aB,ai];cases g1:hX t with
 |error e=>
  have he:=md.cv _ _ g1;rw [fg];simp only [Rn he,JI he,JH he,ai];exact D2 hn aU hs (u:=0) (by omega) 0 n 0 _ e [] he rfl (by omega) rfl
 |ok r=>
  obtain⟨f5,t1⟩:=r;have jY:=iH md g1 aB;have Ae:=(md.fy _ _ _ g1).2;rw [gF];simp only
  rw [Zu hn aU hs jY,ai];cases g2:hX t1 with
  |error e=>
   have he:=md.cv _ _ g2;rw [fg];simp only [Rn he,JI he,JH he,ai];exact D2 hn aU hs (u:=0) (by omega) 0 n 0 _ e [] he rfl (by omega) rfl
  |ok r=>
   obtain⟨gt,t2⟩:=r;have jt:=iH md g2 jY;have p_:=(md.fy _ _ _ g2).2;rw [gF];simp only
   rw [show(16:Int)=((16:Nat):Int)from rfl,Zw hn aU hs (by omega) jt,ai]
   cases g3:fz 16 t2 with
   |error e=>
    have he:=JE.cv _ _ g3;rw [fg];simp only [Rn he,JI he,JH he,ai];exact D2 hn aU hs (u:=0) (by omega) 0 n 0 _ e [] he rfl (by omega) rfl
   |ok r=>
    obtain⟨mH,t3⟩:=r;have DZ:=iH JE g3 jt;have Zz:=(JE.fy _ _ _ g3).2;rw [gF];simp only
    rw [show(6:Int)=((6:Nat):Int)from rfl,Zv hn aU hs (by omega) DZ,ai]
    unfold iW;cases h:iG 6 t3 with
    |error e=>
     have he:=oh h;rw [qY h,fg];exact D2 hn aU hs (u:=0) (by omega) 0 n 0 _ e [] he rfl (by omega) rfl
    |ok r=>
     obtain⟨u,bE⟩:=r;obtain⟨Z,aa,aj⟩:=o2 h;have ez:bE <:+ s:=List.IsSuffix.trans ⟨eD u,Z.symm⟩ DZ;have hu:=ez.length_le;rw [qX h,gF]
     have cT:=ul (L:=λm i t acc=>rS n (f5,a_ s t1,0) (gt,a_ s t2,0) ((u:Int),a_ s bE,0) s (mH,a_ s t3,0) m (a_ s t) 0 acc (i:Int)) (f:=λ_ v=>v) (D:=me) (u:=u) (s:=s) (fin:=λacc t=>yp n (f5,a_ s t1,0) (gt,a_ s t2,0) s (mH,a_ s t3,0) (a_ s t) 0 acc) (bad:=λe x=>x=some (D1,0,e)) (λx v t hx=>sr.kQ hx) (by
      intro m i t acc hm hi ha aB;simp only [rS,yq,ang,hi,am8,am'];rw [akC hn aU hs aB,ai];have fZ:room (acc.length+1) 32=true:=lL (by omega)
      cases g3:me t with
      |error e=>
       have he:=sr.cv _ _ g3;rw [fg];simp only [ani,fZ,aM];rw [bg (by omega)]
       exact D2 hn aU hs (by omega) (u-(i+1)) m (i+1) _ e _ he (by omega) (by omega) (by simp [ha])
      |ok r=>
       obtain⟨v,t3⟩:=r;rw [gF];simp only [ani,fZ,aM];rw [bg (by omega)]) (by
      intro m t acc ha aB;simp only [rS,yq,ank,am9,am_]) u n 0 bE [] (by omega) (by omega) rfl ez
     cases ah:gK me u bE with
     |error e=>rw [ah]at cT;simp only [ah]at cT ⊢;exact cT
     |ok r=>
      obtain⟨l,t4⟩:=r;obtain⟨aL,a',b5⟩:=(sr.rep u).fy _ _ _ ah;have Jy:t4 <:+ s:=iH (sr.rep u) ah ez;rw [ah]at cT;simp only [List.nil_append,um,ah]at cT ⊢;refine cT.trans ?_;unfold yp;rw [akB hn aU hs Jy,ai];cases g5:qW t4 with
      |error e=>
       have he:=QV.cv _ _ g5;rw [fg];simp only [am_,rR,gd he,am',fg]
      |ok r=>
       obtain⟨b,t5⟩:=r;have ZA:=iH QV g5 Jy;rw [gF];cases b with
       |false=>
        simp only [am_];have ak:pX (nz (f5,gt,mH,l,false,([],[]))):=⟨Ae,p_,Zz,⟨by show l.length≤6;omega,b5⟩,rfl,rfl⟩
        exact Zy hn aU hs (r1:=(f5,a_ s t1,0)) (r2:=(gt,a_ s t2,0)) (r3:=(mH,a_ s t3,0)) (l:=l) (r24:=(false,a_ s t5,0)) (t:=t5) (ks:=[]) (ws:=[]) Ae p_ (D0 hn ak)
       |true=>
        have hk:=Zx hn aU hs ZA;simp only [am',Rh,anm,dx];cases g6:wS t5 with
        |error e=>
         have he:=wT.cv _ _ g6;rw [g6]at hk;obtain⟨v,a,hk⟩:=hk;rw [hk,ai];obtain⟨mt,dc,kE⟩:=akD hn aU hs (a:=a) he;simp only [kE,ai,rR,gd he,am',fg]
        |ok r=>
         obtain⟨ks,t6⟩:=r;have akG:=iH wT g6 ZA;have akH:=(wT.fy _ _ _ g6).2;rw [g6]at hk;simp only at hk ⊢
         rw [hk,ai];have hk:=Zx hn aU hs akG;simp only
         cases g7:wS t6 with
         |error e=>
          have he:=wT.cv _ _ g7;rw [g7]at hk;obtain⟨v,a,hk⟩:=hk;rw [hk,ai];simp only [rR,gd he,am',fg]
         |ok r=>
          obtain⟨ws,t7⟩:=r;have akI:=(wT.fy _ _ _ g7).2;rw [g7]at hk;simp only at hk ⊢
          rw [hk,ai];simp only
          have ak:pX (nz (f5,gt,mH,l,true,(ks,ws))):=⟨Ae,p_,Zz,⟨by show l.length≤6;omega,b5⟩,⟨akH,akI⟩,rfl⟩
          exact Zy hn aU hs (r1:=(f5,a_ s t1,0)) (r2:=(gt,a_ s t2,0)) (r3:=(mH,a_ s t3,0)) (l:=l) (r24:=(true,a_ s t5,0)) (t:=t7) (ks:=ks) (ws:=ws) Ae p_ (D0 hn ak)
theorem akJ{t:ano}(aB:t <:+ s):GR n s (a_ s t)=some (res [] s (o5 t)):=by
 unfold GR o5 iW;rw [show(64:Int)=((64:Nat):Int)from rfl,uf aB (by omega) (by omega) (by omega),ai]
 cases h:iG 64 t with
 |error e=>rw [qY h,fg];simp only [gd (oh h),am',fg]
 |ok r=>
  obtain⟨u,bE⟩:=r;obtain⟨Z,aa,aj⟩:=o2 h;have ez:bE <:+ s:=List.IsSuffix.trans ⟨eD u,Z.symm⟩ aB;have hu:=ez.length_le;rw [qX h,gF];simp only [am8,ana,am_];rw [show vI n s ((u:Int),a_ s bE,0) n [] 0 (a_ s bE)=_ from Y_ (L:=λm i t acc=>vI n s ((u:Int),a_ s bE,0) m acc (i:Int) (a_ s t)) (D:=wV) (u:=u) (s:=s) (fin:=λacc t=>some (acc,a_ s t,0)) (bad:=λe=>some ([],0,e)) (λx v t hx=>Rk.kQ hx) ?_ ?_ (by omega) ez]
  ·cases ah:gK wV u bE with
   |error e=>rfl
   |ok r=>rfl
  ·intro m i t acc hi ha aB;simp only [vI,GQ,ang,hi,am8,am'];rw [akF hn aU hs aB,ai];cases aD:wV t with
   |error e=>rw [fg];simp only [gd (Rk.cv _ _ aD),am']
   |ok r=>
    obtain⟨x,t1⟩:=r;rw [gF];simp only [am8,ana,am_,ani];rw [lL (by omega),aM,bg (by omega)]
  ·intro m t acc ha aB;simp only [vI,GQ,ank,am9,am_,Nl]
end
section
variable {n:Nat} (hn:2000≤n) (aU:n≤1000000000) {s:ano} (hs:s.length<n)
include hn aU hs
end
structure q3(p:aZ):Prop where
 v:mI p=0
 i:zq p
 w:se p≤125000
def akK(t:Token)(mF:Int):cv ⟨t.Kind,t.Text,t.N,mF⟩=cv t:=rfl
def akL{t:Token}(h:lK t):lK (cv t):=by
 obtain⟨Z,aa⟩:=h;refine⟨rfl,?_⟩
 simpa only [cv]using aa
def akM{n:Nat}(src:ano)(hs:src.length≤2000)(hn:3000000≤n):
 ∃r,yD n src=some r∧Il n src=some r∧(r.2.2=0→q3 r.1):=by
 obtain⟨r,Z,aa,aj⟩:=ah9 (n:=n) src (Or.inl hs) hn;refine⟨r,Z,aa,λh0=>?_⟩
 obtain⟨⟨l,mF,e⟩,t1,t2,t3⟩:=Xy (λt=>(t.Kind=5→t.Text∈marks)∧lK (cv t)) (λs mF g1 g2=>⟨PQ s mF g1 g2,by rw [akK];exact akL (ajh s g1 g2).1⟩) (n:=n) src (by omega) (by omega)
 obtain⟨p,amY,e2⟩:=r;simp only at h0
 subst h0;unfold yD Cv Hm at Z;rw [t1]at Z;by_cases he:e=0
 ·subst he;obtain⟨g1,g2,g3⟩:=t3 rfl;simp only at g1 g3
  have hg:jT l:=λt aB=>(g3 t aB).1
  have am:∀t,t∈l→lK (cv t):=λt aB=>(g3 t aB).2
  have hlen:=l6 l;have lJ:l.length≤2100:=by omega
  have pg:ed l l.length=gv l:=by unfold ed;rw [List.take_length]
  have akN:=ajz (l:=l) (by omega) hg am n 0 (by omega)
  have bK:=XX (l:=l) (by omega) hg (i:=0) (n1:=n) (n2:=n) (by omega) (by omega) (by omega)
  simp only [ai,am8,ana,am_]at Z;rcases bK with⟨a,k,e1,e2,jU,eV,iS⟩|⟨k,c,z,a,e1,e2,hc,hk⟩
  ·have e1:qE n ⟨l,0⟩=some (ax.ret a ((k:Nat):Int)):=e1;have ah':=tW l k l.length eV;obtain⟨k',aL,a',b5,dp⟩:=akN a _ e1;rw [e1]at Z;simp only [ai,ax.on,ang,am8,am']at Z;by_cases oG:k<l.length
   ·simp only [oG,am8,am',PR n l k 5 (by omega),ai,ax.on,IW,show¬ (5:Int)=0 by omega,am9,anb,am_,pG,Option.some.injEq,Prod.mk.injEq]at Z
    have akO:h6 l k 5=5:=if_pos oG;simp only [akO,show¬ (5:Int)=0 by omega,am9,anb,am',am_,Option.some.injEq,Prod.mk.injEq]at Z
    exact Z.2.2.elim
   ·have hw:se a≤125000:=by omega
    have AW:a.Name.length+fw a.Params+di a.Body≤125000:=hw;simp only [oG,am9,am_,ai,am8,ana,am',I']at Z;rw [I8 (n:=n) a (by omega) (by omega) (by omega) (by omega) (by omega)]at Z
    simp only [ai,pG]at Z;by_cases ph:mI a=0
    ·simp only [ph,am8,ana,am_,I',Option.some.injEq,Prod.mk.injEq]at Z;obtain⟨rfl,_⟩:=Z;exact⟨ph,b5,hw⟩
    ·simp only [ph,am9,anb,am',Option.some.injEq,Prod.mk.injEq]at Z;exact Z.2.2.elim
  ·have e1:qE n ⟨l,0⟩=some (ax.az (mp l k c) z):=e1;rw [e1]at Z;simp only [ai,ax.on,IW,hc,am9,am_,anb,am',pG,Option.some.injEq,Prod.mk.injEq]at Z;exact Z.2.2.elim
 ·simp only [he,am9,anb,am',ai,am_,pG,Option.some.injEq,Prod.mk.injEq]at Z;exact Z.2.2.elim
def lj(p:aZ):ano:=if mI p=0 then oe p else[]
structure q4(p:aZ):Prop where
 i:zq p
 n:p.Name.length≤300000
 f:fw p.Params≤300000
 b:di p.Body≤300000
def q3.e0{p:aZ}(h:q3 p):q4 p:=by
 have hw:p.Name.length+fw p.Params+di p.Body≤125000:=h.w;exact⟨h.i,by omega,by omega,by omega⟩
def Rp{n:Nat}{p:aZ}(h:q4 p)(hn:3000000≤n):ta n p=some (lj p):=by
 have Z:=h.n;have aa:=h.f;have aj:=h.b;unfold lj;by_cases am:mI p=0
 ·rw [if_pos am];exact aiL p h.i am hn h.f h.b
 ·rw [if_neg am];unfold ta;rw [I8 p (by omega) (by omega) (by omega) (by omega) (by omega)]
  simp only [ai,am,am9,anb,am']
def akP{n:Nat}{p:aZ}(h:q4 p)(hn:3000000≤n):CL n p=some (lj p):=by
 have Z:=h.n;have aa:=h.f;have aj:=h.b;unfold lj;by_cases am:mI p=0
 ·rw [if_pos am];exact ai9 p h.i am hn h.f h.b
 ·rw [if_neg am];unfold CL;rw [Qg p (by omega) (by omega) (by omega) (by omega) (by omega) (by omega) (by omega)]
  simp only [ai,am,am9,anb,am']
def akQ{p:aZ}(h:q4 p):(lj p).length≤1300000:=by
 unfold lj;by_cases am:mI p=0
 ·rw [if_pos am];have:=Yz (Qr h.i am)
  have aj:=h.b;omega
 ·rw [if_neg am];simp
def akR{n:Nat}(hn:3000000≤n)(l:jD)(ab:l.length≤1000)(hs:∀s∈l,s.length≤2000):∃o,Hp n l=some o∧adW n l=some o∧o.1.length≤l.length∧(∀p∈o.1,q3 p)∧(o.2=true→o.1.map lj=l):=by
 have key:∀(m i:Nat) (acc:List aZ),l.length<i+m→i≤l.length→acc.length=i→(∀p∈acc,q3 p)→acc.map lj=l.take i→∃o,yE n l m (i:Int) acc=some o∧CV n l m acc (i:Int)=some o∧o.1.length≤l.length∧(∀p∈o.1,q3 p)∧(o.2=true→o.1.map lj=l):=by
  intro m;induction m with
  |zero=>intro i acc Z aa;omega
  |succ m aF=>
   intro i acc Z aa ha hp hm;by_cases hi:i<l.length
   ·have w5:=Q9 hi;obtain⟨r,e1,e2,e3⟩:=akM (n:=n) (l.getD i default) (hs _ w5) hn;have fZ:room (acc.length+1) 64=true:=lL (by omega)
    simp only [yE,Ho,CV,Pa,ang,hi,am8,am',b3 hi,aM,anf,e1,e2,ai,ani,fZ,bg (show i≤4611686018427387904 by omega),anl]
    by_cases h0:r.2.2=0
    ·have hg:=e3 h0;simp only [h0,am8,ana,anb,am',am_,Rp hg.e0 hn,akP hg.e0 hn,ai];by_cases hx:lj r.1=l.getD i default
     ·simp only [hx,am8,ana,am_];refine aF (i+1) (acc++[r.1]) (by omega) (by omega) (by simp [ha]) (λp wX=>?_) ?_
      ·rcases List.mem_append.1 wX with h|h
       ·exact hp p h
       ·rw [List.mem_singleton.1 h];exact hg
      ·rw [List.map_append,hm,List.map_cons,List.map_nil,hx,List.take_add,eS l i default hi,List.take_succ_cons,List.take_zero]
     ·simp only [hx,am9,anb,am'];exact⟨_,rfl,rfl,by simp,λp wX=>(by cases wX),λh=>(by cases h)⟩
    ·simp only [h0,am9,anb,ana,am',am_,ai];exact⟨_,rfl,rfl,by simp,λp wX=>(by cases wX),λh=>(by cases h)⟩
   ·simp only [yE,Ho,CV,Pa,NW,VV,ang,hi,am9,am_];obtain rfl:i=l.length:=by omega
    rw [List.take_length]at hm;exact⟨_,rfl,rfl,by simp only;omega,hp,λ_=>hm⟩
 exact key n 0 [] (by omega) (by omega) rfl (λp wX=>(by cases wX)) rfl
end Go.Ab.Y

/- The plain law: what the functions compute answers as the statement says. -/
import Derived.Test.YtcjbfnojhpfchaaGreatDoorPlainA
set_option linter.all false
namespace Go.Ab.Y
open Go Go.Ab Go.Proofs
def ahE(n:Nat):kg (n+1)=ES n (kg n) (tN n):=rfl
def ahF(n:Nat):tN (n+1)=ET n (kg n) (tN n):=rfl
def Bl{n:Nat}{e:Expr}{k:Nat}(h:kg n e=some (flat (cX e)))(af:(flat (cX e)).length≤100000000):tN (n+1) e (k:Int)=some (flat (h1 e.Op (cX e) k)):=by
 rw [ahF];unfold ET h1;rw [Xn,h];simp only [aC,alX];by_cases hk:el e.Op<k
 ·simp only [hk,alO,alQ,al3];rw [gg (by simp;omega),gg (by simp;omega)]
  simp only [a_,flat,nc,spell,fF];simp
 ·simp only [hk,alP,alR,al4]
def ahG:∀(h:Nat) (e:Expr) (n:Nat),h2 e≤h→hL e→2*h+200≤n→db e≤1000000→kg n e=some (flat (cX e)):=by
 intro h;induction h with
 |zero=>intro e n he;rw [A']at he;omega
 |succ h a7=>
  intro e n he eK hn ag6;obtain⟨n,rfl⟩:∃j,n=j+1:=⟨n-1,by omega⟩
  obtain⟨n,rfl⟩:∃j,n=j+1:=⟨n-1,by omega⟩
  have my:=(Gf e).1 eK;have uf:=qH e;rw [ahE];unfold ES;rw [Xn];simp only [aC];rcases N8 e eK with⟨Z,aB⟩|⟨Z,aB⟩|⟨Z,aB⟩|⟨ak,aB⟩|⟨a,aB,ha,bx,gM⟩|⟨a,b,aB,ha,hb,bx,gM⟩
  ·have e2:flat (cX e)=Lib.decDigits e.N.toNat++[]:=by rw [aB];rfl
   rw [Xr _ (by omega) e.N (my.2.1 Z).1 (my.2.1 Z).2,e2,List.append_nil]
   simp only [Z,alO,alQ,aC]
  ·have e2:flat (cX e)=quo e.S++[]:=by rw [aB];rfl
   rw [ahD e.S (my.2.2.2.2.1 Z) (by omega),e2,List.append_nil]
   simp only [Z,show¬ (2:Int)=1 by omega,alO,alP,alQ,alR,aC]
  ·have e2:flat (cX e)=e.S++[]:=by rw [aB];rfl
   rw [e2,List.append_nil];simp only [Z,show¬ (3:Int)=1 by omega,show¬ (3:Int)=2 by omega,alO,alP,alQ,alR]
  ·have hw:=xc e.Op;have Oc:=Xo (n+1) e.Op (by omega)
   have jY:el e.Op=9:=by
    have:e.Op=25∨e.Op=26∨e.Op=27:=by omega
    rcases this with h|h|h<;>rw [h]<;>decide
   have eJ:e.au=[]:=by rw [aB]
   have e2:flat (cX e)=spell (ii e.Op)++([40]++([41]++[])):=by
    generalize e.Op=op at ak aB
    rw [aB];simp only [cX,qL,rW];rw [if_neg (by omega),if_neg (by omega),if_neg (by omega)];rfl
   rw [Oc,e2];simp only [aC];rw [gg (show(spell (ii e.Op)).length+([40,41]:al5).length≤1000000000000 by simp;omega)]
   simp only [jY,eJ,show¬ e.Op=1 by omega,show¬ e.Op=2 by omega,show¬ e.Op=3 by omega,show¬ e.Op=18 by omega,show¬ e.Op=9 by omega,alP,alR,alV,jq,alO,alQ,a_]
   simp
  ·have Bc:db e=30+(db a+1):=by rw [aB];simp [db,ls]
   have oV:=a7 a n (by omega) ha (by omega) (by omega)
   have Od:=a7 a (n+1) (by omega) ha (by omega) (by omega)
   have Bb:=pg (h2 a) a (Nat.le_refl _) ha;have eJ:e.au=[a]:=by rw [aB]
   have ar:=nS a.Op (cX a) 3;have dQ:=nS a.Op (cX a) 8
   have e2:cX e=if e.Op=18 then some (lw [110,111,116])::none::h1 a.Op (cX a) 3 else if e.Op=9 then some (fF [45])::h1 a.Op (cX a) 8 else some (ii e.Op)::some (fF [40])::(cX a++[some (fF [41])]):=by
    generalize e.Op=op at gM aB
    rw [aB];simp only [cX,qL,rW];rw [if_neg (by omega),if_neg (by omega),if_neg (by omega)]
   rw [e2,eJ];simp only [alU,alV,rR (show 0<0+1 by omega),a_,List.getD_cons_zero,show¬ e.Op=1 by omega,show¬ e.Op=2 by omega,show¬ e.Op=3 by omega,alP,alR]
   by_cases uk:e.Op=18
   ·have:=Bl (k:=3) oV (by omega)
    rw [uk];simp only [alO,alQ,al3,show el 18=3 from rfl]
    rw [this];simp only [aC];rw [gg (by simp;omega)]
    rfl
   ·by_cases f':e.Op=9
    ·have:=Bl (k:=8) oV (by omega)
     rw [f'];simp only [show¬ (9:Int)=18 by omega,alO,alP,alQ,alR,al3,al4,show el 9=8 from rfl]
     rw [this];simp only [aC];rw [gg (by simp;omega)]
     rfl
    ·have ag7:20≤e.Op∧e.Op≤24:=by omega
     have jY:el e.Op=9:=by
      have:e.Op=20∨e.Op=21∨e.Op=22∨e.Op=23∨e.Op=24:=by omega
      rcases this with h|h|h|h|h<;>rw [h]<;>decide
     have hw:=xc e.Op;rw [Xo (n+1) e.Op (by omega),Od,if_neg uk,if_neg f']
     have e3:flat (some (ii e.Op)::some (fF [40])::(cX a++[some (fF [41])]))=spell (ii e.Op)++([40]++(flat (cX a)++([41]++[]))):=by
      simp only [flat,nc];rfl
     rw [e3];generalize spell (ii e.Op)=W at hw
     simp only [uk,f',jY,alP,alO,alR,alQ,aC];rw [gg (show W.length+(0+1)≤1000000000000 by omega),gg (show(W++([40]:al5)).length+(flat (cX a)).length≤1000000000000 by simp;omega),gg (show((W++([40]:al5))++flat (cX a)).length+(0+1)≤1000000000000 by simp;omega)]
     simp only [show((0+1:Nat):Int)=1 from rfl,show¬ (1:Int)=0 by omega,show((9:Nat):Int)=9 from rfl,alO,alP,alQ,alR,a_]
     simp
  ·have Bc:db e=30+(db a+1+(db b+1)):=by rw [aB];simp [db,ls]
   have oV:=a7 a n (by omega) ha (by omega) (by omega)
   have Oe:=a7 b n (by omega) hb (by omega) (by omega)
   have Bb:=pg (h2 a) a (Nat.le_refl _) ha;have W3:=pg (h2 b) b (Nat.le_refl _) hb;have eJ:e.au=[a,b]:=by rw [aB]
   have jY:=WX gM;have ag8:=Ob e.Op
   have e2:cX e=h1 a.Op (cX a) (if el e.Op=4 then 5 else el e.Op)++none::some (qK e.Op)::none::h1 b.Op (cX b) (el e.Op+1):=by
    generalize e.Op=op at gM aB
    rw [aB,N9 gM]
   have ar:=nS a.Op (cX a) (if el e.Op=4 then 5 else el e.Op)
   have dQ:=nS b.Op (cX b) (el e.Op+1);have ul:=Bl (k:=el e.Op+1) Oe (by omega)
   rw [e2,eJ,ahz (n+1) e.Op gM];simp only [alU,alV,rR (show 0<0+1+1 by omega),a_,List.getD_cons_zero,List.getD_cons_succ,show¬ e.Op=1 by omega,show¬ e.Op=2 by omega,show¬ e.Op=3 by omega,show¬ e.Op=18 by omega,show¬ e.Op=9 by omega,alP,alR,jq,show¬ el e.Op=9 by omega,show aN 1 (0+1+1)=true from rfl]
   by_cases aK:el e.Op=4
   ·have qg:=Bl (k:=5) oV (by omega)
    rw [aK]at ul ⊢;rw [if_pos rfl];rw [if_pos aK]at ar;simp only [alO,alQ];rw [show tN (n+1) a 5=_ from qg,show tN (n+1) b 5=_ from ul]
    simp only [aC];rw [aK]at dQ;rw [gg (by simp;omega),gg (by simp;omega),gg (by simp;omega),gg (by simp only [alY,alU,alV];omega)]
    simp only [a_,nc,flat];simp
   ·have qg:=Bl (k:=el e.Op) oV (by omega)
    rw [if_neg aK]at ar ⊢;simp only [aK,alP,alR];rw [qg,ck (by omega),ul]
    simp only [aC];rw [gg (by simp;omega),gg (by simp;omega),gg (by simp;omega),gg (by simp only [alY,alU,alV];omega)]
    simp only [a_,nc,flat];simp
def ahH(n d:Nat)(hd:d≤100):∀m i,d<i+m→i≤d→zT n (d:Int) m (ind i) (i:Int)=some (ind d):=by
 intro m;induction m with
 |zero=>intro i h ae;omega
 |succ m a7=>
  intro i hm hi;simp only [zT,MA,Mz,alX];by_cases h:i<d
  ·simp only [h,alO,alQ];rw [dq (by rw [Bg];simp;omega),ck (by omega),←Ok,a7 (i+1) (by omega) (by omega)]
   rfl
  ·simp only [h,alP,alR];rw [show i=d by omega]
def ahI{n d:Nat}(hd:d≤100)(hn:d<n):MB n (d:Int)=some (ind d):=ahH n d hd n 0 (by omega) (by omega)
def Xt{n:Nat}{e:Expr}(h:ly e)(hn:300≤n)(ba:db e≤1000000):kg n e=some (fO e):=ahG (h2 e) e n (Nat.le_refl _) h.1 (by have:=h.2;omega) ba
def ahJ(n:Nat):pJ (n+1)=EU n (pJ n) (wx n):=rfl
def ahK(n:Nat):wx (n+1)=EV n (pJ n) (wx n):=rfl
set_option maxHeartbeats 4000000 in
def ahL{n:Nat}{s:Stmt}{d:Nat}(eK:xf s d)(ba:fst s≤300000)(hn:500≤n)
 (hb:pJ n s.Body ((d+1:Nat):Int)=some (fX s.Body (d+1))) (he:pJ n s.bN ((d+1:Nat):Int)=some (fX s.bN (d+1))):wx (n+1) s (d:Int)=some (fB s d):=by
 obtain⟨hd,hsh,cj,my⟩:=(Gk s d).1 eK;have Z:=nd _ _ cj;have ae:=nd _ _ my;have hi:=Bg d;obtain⟨Op,Name,Max,A,B,Body,bN⟩:=s
 dsimp only at hb he cj my Z ae
 have mN:db A≤300000∧db B≤300000∧eb Body≤300000∧eb bN≤300000:=by simp only [fst]at ba;omega
 obtain⟨f1,f2,f3,f4⟩:=mN;rw [ahK];unfold EV;rw [ahI (by omega) (by omega)]
 simp only [aC,lu,ck (show d≤4611686018427387904 by omega)]
 have ec:ly A→kg n A=some (fO A)∧(fO A).length≤1200000:=λh=>⟨Xt h (by omega) (by omega),by have:=lz h;omega⟩
 have ci:ly B→kg n B=some (fO B)∧(fO B).length≤1200000:=λh=>⟨Xt h (by omega) (by omega),by have:=lz h;omega⟩
 have bz:gp Name=true→Name.length≤16:=λh=>by obtain⟨_,_,_,_,_,_,h⟩:=N4 h;exact h
 have cM:0≤Max∧Max≤999→tL n Max=some (Lib.decDigits Max.toNat)∧(Lib.decDigits Max.toNat).length≤21:=λh=>⟨Xr n (by omega) Max h.1 (by omega),xb Max h.1 (by omega)⟩
 unfold fB;unfold Be at hsh;simp only at hsh
 rcases hsh with⟨ax,aB,yt,ha⟩|⟨aB,ha,pe⟩|⟨ax,aB,ha⟩|⟨aB,ha⟩|⟨aB,yt,Io,ha,pe⟩|⟨aB,Io⟩
 ·obtain⟨aY,a2⟩:=ec ha;have a3:=bz yt;rcases ax with rfl|rfl
  ·simp (disch:=first|omega|(simp only [alY,alU,alV];omega)) only [aY,decide_true,cond_true,aC,dq,a_,if_true,eh,cat]
   simp
  ·simp (disch:=first|omega|(simp only [alY,alU,alV];omega)) only [aY,show¬ (2:Int)=1 by omega,decide_true,decide_false,cond_false,if_false,cond_true,aC,dq,a_,if_true,eh,cat]
   simp
 ·cases aB;obtain⟨aY,a2⟩:=ec ha;obtain⟨cS,hz⟩:=ci pe;simp (disch:=first|omega|(simp only [alY,alU,alV];omega)) only [aY,cS,show¬ (3:Int)=1 by omega,show¬ (3:Int)=2 by omega,decide_true,decide_false,cond_false,if_false,cond_true,aC,dq,a_,if_true,eh,cat]
  simp
 ·obtain⟨aY,a2⟩:=ec ha;rcases ax with rfl|rfl<;>simp (disch:=first|omega|(simp only [alY,alU,alV];omega)) only [aY,show¬ (4:Int)=1 by omega,show¬ (4:Int)=2 by omega,show¬ (4:Int)=3 by omega,show¬ (7:Int)=1 by omega,show¬ (7:Int)=2 by omega,show¬ (7:Int)=3 by omega,show¬ (7:Int)=4 by omega,show¬ (7:Int)=5 by omega,show¬ (7:Int)=6 by omega,decide_true,decide_false,cond_false,if_false,cond_true,aC,dq,a_,if_true,eh,cat]<;>simp
 ·cases aB;obtain⟨aY,a2⟩:=ec ha;have b5:¬ (5:Int)=1∧¬ (5:Int)=2∧¬ (5:Int)=3∧¬ (5:Int)=4∧¬ (5:Int)=7∧¬ (5:Int)=8∧¬ (5:Int)=6:=by omega
  obtain⟨e1,e2,e3,hK,xi,Gn,Gp⟩:=b5;by_cases dE:bN.length=0
  ·simp (disch:=first|omega|(simp only [alY,alU,alV];omega)) only [aY,hb,e1,e2,e3,hK,Gp,xi,Gn,dE,zW,Int.lt_irrefl,show¬ ((0:Int)<((0:Nat):Int))by omega,decide_true,decide_false,cond_false,if_false,cond_true,aC,dq,a_,if_true,eh,cat]
   simp
  ·have hp:(0:Int)<((bN.length:Nat):Int):=by omega
   simp (disch:=first|omega|(simp only [alY,alU,alV];omega)) only [aY,hb,he,hp,e1,e2,e3,hK,Gp,xi,Gn,dE,zW,decide_true,decide_false,cond_false,if_false,cond_true,aC,dq,a_,if_true,eh,cat]
   simp
 ·cases aB;obtain⟨aY,a2⟩:=ec ha;obtain⟨cS,hz⟩:=ci pe;obtain⟨m1,m2⟩:=cM ⟨by omega,by omega⟩
  have a3:=bz yt;have b5:¬ (6:Int)=1∧¬ (6:Int)=2∧¬ (6:Int)=3∧¬ (6:Int)=4∧¬ (6:Int)=7∧¬ (6:Int)=8∧¬ (6:Int)=5:=by omega
  obtain⟨e1,e2,e3,hK,xi,Gn,sH⟩:=b5;simp (disch:=first|omega|(simp only [alY,alU,alV];omega)) only [aY,cS,m1,hb,e1,e2,e3,hK,sH,xi,Gn,decide_true,decide_false,cond_false,if_false,cond_true,aC,dq,a_,if_true,eh,cat]
  simp
 ·cases aB;obtain⟨m1,m2⟩:=cM ⟨by omega,by omega⟩
  have b5:¬ (8:Int)=1∧¬ (8:Int)=2∧¬ (8:Int)=3∧¬ (8:Int)=4∧¬ (8:Int)=7∧¬ (8:Int)=5∧¬ (8:Int)=6:=by omega
  obtain⟨e1,e2,e3,hK,xi,sH,Gp⟩:=b5;simp (disch:=first|omega|(simp only [alY,alU,alV];omega)) only [m1,e1,e2,e3,hK,sH,Gp,xi,decide_true,decide_false,cond_false,if_false,cond_true,aC,dq,a_,if_true,eh,cat]
  simp
def ahM:∀(n:Nat) (l:List Stmt) (d:Nat),kL l d→eb l≤300000→2*eb l+600≤n→pJ n l (d:Int)=some (fX l d):=by
 intro n;induction n using Nat.strongRecOn with
 |_ n a7=>
  intro l d eK ba hn;obtain⟨n,rfl⟩:∃k,n=k+2:=⟨n-2,by omega⟩
  have hlen:=A4 l;rw [ahJ];unfold EU
  have ih:∀m i,l.length<i+m→i≤l.length→zV (n+1) (pJ (n+1)) (wx (n+1)) l (d:Int) m (fX (l.take i) d) (i:Int)=some (fX l d):=by
   intro m;induction m with
   |zero=>intro i Z ae;omega
   |succ m na=>
    intro i Z ae;simp only [zV,MK,MJ,alX,alW,ue];by_cases hi:i<l.length
    ·simp only [hi,alO,alQ,b6 hi,a_];have dH:=Ol l i d hi eK;have Oo:kL (l.take i) d:=((Om (l.take i) (l.drop i) d).1 (by rw [List.take_append_drop];exact eK)).1
     have oh:=nd _ _ Oo
     have yw:eb l=eb (l.take i)+(fst (l.getD i default)+1+eb (l.drop (i+1))):=by
      have:eb l=eb (l.take i++l.drop i):=by rw [List.take_append_drop]
      rw [NV,gR l i default hi]at this;simpa only [eb]using this
     have fS:=na (i+1) (by omega) (by omega)
     rw [uh l i hi,On]at fS;generalize l.getD i default=s at dH yw fS
     have hx:=Xd s d dH;have uf:=fst_eq s;obtain⟨_,_,ahN,ahO⟩:=(Gk s d).1 dH;have hb:=a7 n (by omega) s.Body (d+1) ahN (by omega) (by omega)
     have he:=a7 n (by omega) s.bN (d+1) ahO (by omega) (by omega)
     rw [ahL dH (by omega) (by omega) hb he,aC,dq (by omega),a_,ck (by omega)]
     simpa only [fX,List.append_nil]using fS
    ·simp only [hi,alP,alR];rw [List.take_of_length_le (by omega)]
  exact ih (n+1) 0 (by omega) (by omega)
def ahP(n:Nat)(t:Int):ML n t=some (uo t):=Xh n t
def Xu(x:al5):∀l:List al5,Lib.joinTail [44,32] (l++[x])=Lib.joinTail [44,32] l++([44,32]++x)
 |[]=>by simp [Lib.joinTail]
 |y::l=>by rw [List.cons_append,Ou,Ou,Xu x l];simp
def ahQ(x:al5)(l:List al5):Lib.join (l++[x]) [44,32]=(if l.length=0 then Lib.join l [44,32]else Lib.join l [44,32]++[44,32])++x:=by
 cases l with
 |nil=>simp [Lib.join,Lib.joinTail]
 |cons y l=>rw [List.cons_append,Lib.join_cons,Lib.join_cons,Xu,if_neg (by simp)];simp
def ahR{n:Nat}(p:be)(hi:pV p)(ay:nb p=0)(hn:3000000≤n)(ba:hv p.Params≤300000)(ci:eb p.Body≤300000):tO n p=some (ne p):=by
 have hp:=Oi hi ay;obtain⟨Z,ae,ar⟩:=hp;obtain⟨aK,bc⟩:=Oq ae;have cU:=oU Z;have dQ:=nd p.Body 1 ar;unfold tO;rw [WU p (by omega) (by omega) (by omega) (by omega) (by omega) (by omega) (by omega),ay]
 simp only [aC,alO,alS,alR];rw [dq (by simp only [alU,alV];omega),dq (by simp only [alY,alU,alV];omega)]
 simp only [a_]
 have ih:∀m i,p.Params.length<i+m→i≤p.Params.length→zY n p m ((([112,114,111,99,32]++p.Name)++[40])++nT (p.Params.take i)) (i:Int)=some (ne p):=by
  intro m;induction m with
  |zero=>intro i g1 g2;omega
  |succ m a7=>
   intro i g1 g2;have Xv:(nT (p.Params.take i)).length≤24*(p.Params.take i).length:=Ov λx hx=>bc x (List.mem_of_mem_take hx)
   have ahS:(p.Params.take i).length≤6:=by simp;omega
   simp only [zY,MO,EX,MN,alX,alW];by_cases hi:i<p.Params.length
   ·have hx:=bc (p.Params.getD i default) (by rw [List.getD_eq_getElem?_getD,List.getElem?_eq_getElem hi];exact List.getElem_mem hi)
    have hnx:=oU hx.1;have Xl:=Ot (p.Params.getD i default).fy;have fS:=a7 (i+1) (by omega) (by omega)
    unfold nT at fS Xv ⊢;rw [uh p.Params i hi,List.map_append]at fS;simp only [List.map_cons,List.map_nil]at fS;rw [ahQ]at fS;generalize lK:p.Params.getD i default=x at fS hnx Xl
    simp only [hi,alO,alQ,b6 hi,a_,ahP,aC,ck (show i≤4611686018427387904 by omega),e7]
    by_cases h0:i=0
    ·subst h0;simp (disch:=first|omega|(simp only [alY,alU,alV];omega)) only [Nat.lt_irrefl,decide_false,cond_false,dq,a_]
     rw [←fS];simp [oY]
    ·simp (disch:=first|omega|(simp only [alY,alU,alV];omega)) only [show 0<i by omega,decide_true,cond_true,dq,a_]
     rw [←fS,if_neg (by rw [List.length_map,List.length_take];omega)];simp [oY]
   ·simp only [hi,alP,alR];obtain rfl:i=p.Params.length:=by omega
    unfold MM;rw [List.take_length]at Xv ahS ⊢;rw [show(1:Int)=((1:Nat):Int)from rfl,ahM n p.Body 1 ar ci (by omega)]
    simp (disch:=first|omega|(simp only [alY,alU,alV];omega)) only [aC,dq,a_]
    simp [ne,eh,cat,ind]
 have:=ih n 0 (by omega) (by omega)
 rw [show nT (p.Params.take 0)=[]from rfl,List.append_nil]at this
 exact this
def ahT{β:Type}{L:Nat→Int→Option β}{len:Nat}{chk:Nat→Bool}{no yes:β}
 (step:∀m i,i<len→L (m+1) (i:Int)=if chk i then L m ((i+1:Nat):Int)else some no) (stop:∀m,L (m+1) (len:Int)=some yes):
 ∀m i,len<i+m→i≤len→L m (i:Int)=some (if(List.range' i (len-i)).all chk then yes else no):=by
 intro m;induction m with
 |zero=>intro i h ae;omega
 |succ m a7=>
  intro i h ae;by_cases hi:i<len
  ·rw [step m i hi,a7 (i+1) (by omega) (by omega),show len-i=(len-(i+1))+1 by omega,List.range'_succ,List.all_cons]
   cases chk i
   ·rfl
   ·rw [if_pos rfl,Bool.true_and]
  ·obtain rfl:i=len:=by omega
   rw [stop m];simp
def OC{β:Type}{L:Nat→Int→Option β}{len:Nat}{chk:Nat→Bool}{no yes:β}{m:Nat}(hm:len<m)
 (step:∀m i,i<len→L (m+1) (i:Int)=if chk i then L m ((i+1:Nat):Int)else some no) (stop:∀m,L (m+1) (len:Int)=some yes):
 L m 0=some (if(List.range len).all chk then yes else no):=by
 have:=ahT step stop m 0 (by omega) (by omega)
 rwa [Nat.sub_zero,←List.range_eq_range']at this
def oZ(c:UInt8):Bool:=decide (97≤c.toNat∧c.toNat≤122)||decide (48≤c.toNat∧c.toNat≤57)||decide (c.toNat=47)||decide (c.toNat=46)||decide (c.toNat=95)||decide (c.toNat=45)
def kN(k:al5):Bool:=decide (1≤k.length)&&decide (k.length≤24)&&(List.range k.length).all λi=>oZ (k.getD i 0)
def ahU{n:Nat}{s:al5}(h:24<n):CZ n s=some (decide (s.length≤24)&&(List.range s.length).all λi=>oZ (s.getD i 0)):=by
 unfold CZ;by_cases af:s.length≤24
 ·simp only [e7,show¬ 24<s.length by omega,alP,alR,af,alO,Bool.true_and]
  rw [OC (L:=vt n s) (len:=s.length) (chk:=λi=>oZ (s.getD i 0)) (no:=false) (yes:=true) (by omega)]
  ·cases (List.range s.length).all λi=>oZ (s.getD i 0)<;>rfl
  ·intro m i hi;simp only [vt,CY,I4,alX,hi,alO,alQ,b6 hi,a_,aC,alW,ck (show i≤4611686018427387904 by omega),rS,jb,jq,eg,e8]
   have:(((((decide (97≤(s.getD i 0).toNat)&&decide ((s.getD i 0).toNat≤122)||(decide (48≤(s.getD i 0).toNat)&&decide ((s.getD i 0).toNat≤57)))||decide ((s.getD i 0).toNat=47))||decide ((s.getD i 0).toNat=46))||decide ((s.getD i 0).toNat=95))||decide ((s.getD i 0).toNat=45))=oZ (s.getD i 0):=by
    simp [oZ,Bool.decide_and]
   rw [this];cases oZ (s.getD i 0)<;>rfl
  ·intro m;simp only [vt,CY,I5,al1,alP,alR]
 ·simp only [e7,show 24<s.length by omega,alO,alQ,af,alP,Bool.false_and]
def OD{n:Nat}{k:al5}(h:24<n):tb n k=some (kN k):=by
 unfold tb kN;rw [ahU h];cases k with
 |nil=>rfl
 |cons c l=>simp [aC]
def ahV(c:Nat):(((((decide (c<97)||decide (122<c))&&(decide (c<48)||decide (57<c))) && !decide (c=47)) && !decide (c=46)) && !decide (c=95) && !decide (c=45)) = !(decide (97≤c∧c≤122)||decide (48≤c∧c≤57)||decide (c=47)||decide (c=46)||decide (c=95)||decide (c=45)):=by
 rw [Bool.eq_iff_iff];simp only [Bool.and_eq_true,Bool.or_eq_true,decide_eq_true_eq,Bool.not_eq_true',Bool.or_eq_false_iff,decide_eq_false_iff_not];omega
def OE{n:Nat}{k:al5}(h:k.length<n)(hk:k.length≤4611686018427387904):wc n k=some (kN k):=by
 unfold wc;rw [OC (L:=wb n k) (len:=k.length) (chk:=λi=>oZ (k.getD i 0)) (no:=false) (yes:=decide (1≤k.length)&&decide (k.length≤24)) h]
 ·unfold kN;cases (List.range k.length).all λi=>oZ (k.getD i 0)<;>simp
 ·intro m i hi;simp only [wb,Eh,alX,hi,alO,alQ,b6 hi,a_,alW,ck (show i≤4611686018427387904 by omega),qF,e7,jq,eg,e8]
  have:=ahV (k.getD i 0).toNat
  rw [show(decide (97≤(k.getD i 0).toNat∧(k.getD i 0).toNat≤122)||decide (48≤(k.getD i 0).toNat∧(k.getD i 0).toNat≤57)||decide ((k.getD i 0).toNat=47)||decide ((k.getD i 0).toNat=46)||decide ((k.getD i 0).toNat=95)||decide ((k.getD i 0).toNat=45))=oZ (k.getD i 0)from rfl]at this
  rw [this];cases oZ (k.getD i 0)<;>rfl
 ·intro m;simp only [wb,Eh,LT,al1,alP,alR,rS,jb,e8]
def Xw(n:Nat)(s:al5):∀m,yP n s m=vG n s m
 | 0=>rfl
 |m+1=>by
  show I8 n s (yP n s m)=_
  rw [Xw n s m];rfl
def ahW{n:Nat}{s:al5}(h:s.length<n)(hs:s.length≤4611686018427387904):yQ n s=some (jL s):=by
 unfold yQ;rw [Xw];exact Ws h hs
def Xx(n:Nat)(s:al5):∀m,zF n s m=wu n s m
 | 0=>rfl
 |m+1=>by
  show LU n s (zF n s m)=_
  rw [Xx n s m];rfl
def ahX{n:Nat}{s:al5}(h:s.length<n)(hs:s.length≤4611686018427387904):Ei n s=some (jL s):=by
 unfold Ei jL;by_cases af:s.length≤64
 ·simp only [e7,show¬ 64<s.length by omega,alP,alR,af,alO,Bool.and_true]
  rw [Xx];exact Xs s h hs
 ·simp only [e7,show 64<s.length by omega,alO,alQ,af,alP,Bool.and_false]
def kO(v:bw):Bool:=if v.Kind=0 then decide (v.N=0)&&decide (v.S=[])else if v.Kind=1 then decide (v.S=[])else decide (v.Kind=2)&&decide (v.N=0)&&jL v.S
def OF{n:Nat}{v:bw}(h:v.S.length<n)(hs:v.S.length≤4611686018427387904):rv n v=some (kO v):=by
 unfold rv kO;by_cases h0:v.Kind=0
 ·simp [h0]
 ·by_cases Z:v.Kind=1
  ·simp [Z]
  ·by_cases ae:v.Kind=2
   ·by_cases ar:v.N=0
    ·simp [ae,ar,ahW h hs]
    ·simp [ae,ar]
   ·simp [h0,Z,ae]
def OG{n:Nat}{v:bw}(h:v.S.length<n)(hs:v.S.length≤4611686018427387904):tH n v=some (kO v):=by
 unfold tH kO;by_cases h0:v.Kind=0
 ·by_cases ar:v.N=0<;>simp [h0,ar]
 ·by_cases Z:v.Kind=1
  ·simp [Z]
  ·by_cases ae:v.Kind=2
   ·by_cases ar:v.N=0
    ·simp [ae,ar,ahX h hs]
    ·simp [ae,ar]
   ·simp [h0,Z,ae]
def bR(v:bw):al5:=if v.Kind=1 then eH 1++lX v.N else if v.Kind=2 then eH 2++gh v.S else eH 0
def OH{n:Nat}{v:bw}(hn:10≤n)(bz:eX v.N)(hs:v.S.length≤4611686018427387904):tc n v=some (bR v):=by
 have Z:=nf bz;have ae:=xh hs;have gb:=iR (u:=1) (by omega)
 have h8:=iR (u:=2) (by omega)
 have b5:gV n 0=some (eH 0):=rX (u:=0) hn (by omega)
 have e1:gV n 1=some (eH 1):=rX (u:=1) hn (by omega)
 have e2:gV n 2=some (eH 2):=rX (u:=2) hn (by omega)
 unfold tc bR;by_cases cN:v.Kind=1
 ·simp (disch:=omega) only [cN,decide_true,cond_true,e1,aC,ut hn bz,dq,a_,if_true]
 ·by_cases aj:v.Kind=2
  ·simp (disch:=omega) only [aj,show¬ (2:Int)=1 by omega,decide_true,decide_false,cond_true,cond_false,e2,aC,rZ hn hs,dq,a_,if_true,if_false]
  ·simp only [cN,aj,alP,alR,b5,aC,al4]
def OI{n:Nat}{v:bw}(hn:10≤n)(bz:eX v.N)(hs:v.S.length≤4611686018427387904):wB n v=some (bR v):=by
 have Z:=nf bz;have ae:=xh hs;have gb:=iR (u:=1) (by omega)
 have h8:=iR (u:=2) (by omega)
 have b5:gW n 0=some (eH 0):=rY (u:=0) hn (by omega)
 have e1:gW n 1=some (eH 1):=rY (u:=1) hn (by omega)
 have e2:gW n 2=some (eH 2):=rY (u:=2) hn (by omega)
 unfold wB bR;by_cases cN:v.Kind=1
 ·simp (disch:=omega) only [cN,decide_true,cond_true,e1,aC,ur hn bz,dq,a_,if_true]
 ·by_cases aj:v.Kind=2
  ·simp (disch:=omega) only [aj,show¬ (2:Int)=1 by omega,decide_true,decide_false,cond_true,cond_false,e2,aC,r0 hn hs,dq,a_,if_true,if_false]
  ·simp only [cN,aj,alP,alR,b5,aC,al4]
def OJ{v:bw}(bz:eX v.N)(hs:v.S.length≤4611686018427387904):(bR v).length≤v.S.length+20:=by
 have Z:=nf bz;have ae:=xh hs;have l0:=iR (u:=0) (by omega)
 have gb:=iR (u:=1) (by omega)
 have h8:=iR (u:=2) (by omega)
 unfold bR;split
 ·simp;omega
 ·split
  ·simp;omega
  ·omega
def kl:List Token→Nat
 |[]=>0
 |t::l=>(spell t).length+kl l
def Xy:∀l m:List Token,kl (l++m)=kl l+kl m
 |[],m=>by simp [kl]
 |t::l,m=>by simp only [List.cons_append,kl,Xy l m];omega
def cy(l:List Token)(i:Nat):Nat:=kl (l.take i)
def h6{α β:Type}(Q:α→β→Prop)(p:Option (aO α β)):Prop:=∀a z,p=some (.ret a z)→Q a z
def h6.ret{α β:Type}{Q:α→β→Prop}{a:α}{z:β}(h:Q a z):h6 Q (some (.ret a z)):=λdX Xz e=>by cases e;exact h
def h6.bd{α β:Type}{Q:α→β→Prop}{x:V}{z:β}:h6 Q (some (.bd x z)):=λdX Xz e=>by cases e
def h6.none{α β:Type}{Q:α→β→Prop}:h6 Q none:=λdX Xz e=>by cases e
def h6.bind{α β du gG:Type}{Q:α→β→Prop}{R:du→gG→Prop}{p:Option (aO α β)}{f:α→β→Option (aO du gG)}{h:V→β→Option (aO du gG)}(hp:h6 Q p)(ba:∀a z,Q a z→h6 R (f a z))(bx:∀x z,h6 R (h x z)):
 h6 R (Option.bind p λr=>aO.on r f h):=by
 match p,hp with
 |.none,_=>exact .none
 |some (.ret a z),hp=>exact ba a z (hp a z rfl)
 |some (.bd x z),_=>exact bx x z
def h6.bif{du gG:Type}{R:du→gG→Prop}{c:Bool}{p q:Option (aO du gG)}(Z:c=true→h6 R p)(ae:c=false→h6 R q):h6 R (bif c then p else q):=by cases c;exact ae rfl;exact Z rfl
def h6.av{du gG:Type}{R:du→gG→Prop}{c:Bool}{p:Option (aO du gG)}(Z:h6 R p):h6 R (Go.Ab.av c p):=by cases c;exact .none;exact Z
section
variable {l:List Token}
theorem XA(e:Expr)(k:Nat):kl (A_ e k)=kl (Xb e)+if el e.Op<k then 2 else 0:=by
 unfold A_ h1;split
 ·have Z:(spell (fF [40])).length=1:=rfl;have ae:(spell (fF [41])).length=1:=rfl;have ar:kl (Xb e)=kl (lv (cX e)):=rfl;simp only [lv,N5,kl,Xy,Z,ae,ar];omega
 ·rfl
theorem ahY(e:Expr){j k:Nat}(h:j≤k):kl (A_ e j)≤kl (A_ e k):=by
 rw [XA,XA];split<;>split<;>omega
def OK(l:List Token)(i oT:Nat)(e:Expr)(z:Int):Prop:=∃k:Nat,z=(k:Int)∧i≤k∧k≤l.length∧lx e∧cy l i+kl (A_ e oT)≤cy l k
theorem OK.mono{i j oT XB:Nat}{e:Expr}{z:Int}(h:OK l j oT e z)(hi:i≤j)(hp:cy l i≤cy l j)(jY:XB≤oT):OK l i XB e z:=by
 obtain⟨k,Z,ae,ar,aK,bc⟩:=h;have:=ahY e jY
 exact⟨k,Z,by omega,ar,aK,by omega⟩
end
section
variable {l:List Token}
end
section
variable {l:List Token}
end
section
variable {l:List Token}
end
section
variable {l:List Token}
end
abbrev lA(α:Type):=al5→Except Int (α×al5)
structure km{α:Type}(D:lA α)(E:α→al5)(ok:α→Prop):Prop where
 rt:∀v t,ok v→D (E v++t) = .ok (v,t)
 lY:∀x v t,D x = .ok (v,t)→x=E v++t∧ok v
 iB:∀x e,D x = .error e→e≠0
def Gq{α β:Type}(D:lA α)(k:α→lA β):lA (α×β):=λx=>match D x with
 |.ok (v,t)=>match k v t with
  |.ok (w,u)=>.ok ((v,w),u)
  |.error e=>.error e
 |.error e=>.error e
def km.dep{α β:Type}{D:lA α}{E:α→al5}{ok:α→Prop}{k:α→lA β}{dz:α→β→al5}{XC:α→β→Prop}(h:km D E ok)(ae:∀a,ok a→km (k a) (dz a) (XC a)):
 km (Gq D k) (λp=>E p.1++dz p.1 p.2) (λp=>ok p.1∧XC p.1 p.2) where
 rt:=fun⟨v,w⟩ t ⟨ar,aK⟩=>by simp only [Gq,List.append_assoc,h.rt v _ ar,(ae v ar).rt w t aK]
 lY:=
  λx ⟨v,w⟩ t hx=>by
  unfold Gq at hx;split at hx
  ·rename_i v0 t0 hd;obtain⟨ar,aK⟩:=h.lY _ _ _ hd;split at hx
   ·rename_i Bm Qd hk;obtain⟨bc,b2⟩:=(ae v0 aK).lY _ _ _ hk;cases hx;exact⟨by rw [ar,bc,List.append_assoc],aK,b2⟩
   ·cases hx
  ·cases hx
 iB:=
  λx e hx=>by
  unfold Gq at hx;split at hx
  ·rename_i v0 t0 hd;split at hx
   ·cases hx
   ·rename_i b5 hk;cases hx;exact(ae v0 (h.lY _ _ _ hd).2).iB _ _ hk
  ·rename_i b5 hd;cases hx;exact h.iB _ _ hd
def Gr{α β:Type}(f:α→β)(D:lA α):lA β:=λx=>match D x with
 |.ok (v,t)=>.ok (f v,t)
 |.error e=>.error e
def km.map{α β:Type}{D:lA α}{E:α→al5}{ok:α→Prop}(h:km D E ok)(f:α→β)(g:β→α)(xj:β→Prop)(cZ:β→al5)(Z:∀b,xj b→f (g b)=b∧ok (g b)∧cZ b=E (g b))(ae:∀a,ok a→g (f a)=a∧xj (f a)):
 km (Gr f D) cZ xj where
 rt:=λv t ay=>by
  obtain⟨ar,aK,bc⟩:=Z v ay;simp only [Gr,bc,h.rt _ t aK,ar]
 lY:=λx v t hx=>by
  unfold Gr at hx;split at hx
  ·rename_i v0 t0 hd;cases hx;obtain⟨ar,aK⟩:=h.lY _ _ _ hd;obtain⟨bc,b2⟩:=ae _ aK;obtain⟨_,_,cU⟩:=Z _ b2;exact⟨by rw [cU,bc,ar],b2⟩
  ·cases hx
 iB:=λx e hx=>by
  unfold Gr at hx;split at hx
  ·cases hx
  ·rename_i b5 hd;cases hx;exact h.iB _ _ hd
def Gs{α:Type}(p:α→Bool)(e:Int)(D:lA α):lA α:=λx=>match D x with
 |.ok (v,t)=>if p v then .ok (v,t)else .error e
 |.error f=>.error f
def km.chk{α:Type}{D:lA α}{E:α→al5}{ok:α→Prop}(h:km D E ok)(p:α→Bool)(e:Int)(he:e≠0):km (Gs p e D) E (λv=>ok v∧p v=true) where
 rt:=λv t ⟨Z,ae⟩=>by simp only [Gs,h.rt v t Z,ae,al3]
 lY:=
  λx v t hx=>by
  unfold Gs at hx;split at hx
  ·rename_i v0 t0 hd;split at hx
   ·rename_i hp;cases hx;exact⟨(h.lY _ _ _ hd).1,(h.lY _ _ _ hd).2,hp⟩
   ·cases hx
  ·cases hx
 iB:=λx f hx=>by
  unfold Gs at hx;split at hx
  ·split at hx
   ·cases hx
   ·cases hx;exact he
  ·rename_i b5 hd;cases hx;exact h.iB _ _ hd
def gi{α:Type}(E:α→al5)(l:List α):al5:=(l.map E).flatten
def uu{α:Type}(E:α→al5)(v:α)(l:List α):gi E (v::l)=E v++gi E l:=rfl
def ahZ{α:Type}(E:α→al5):gi E []=[]:=rfl
def Bn{α:Type}(D:lA α):Nat→lA (List α)
 | 0,x=>.ok ([],x)
 |n+1,x=>match D x with
  |.ok (v,t)=>match Bn D n t with
   |.ok (l,u)=>.ok (v::l,u)
   |.error e=>.error e
  |.error e=>.error e
def km.rep{α:Type}{D:lA α}{E:α→al5}{ok:α→Prop}(h:km D E ok):∀n,km (Bn D n) (gi E) (λl=>l.length=n∧∀v∈l,ok v)
 | 0=>{
  rt:=λv t ⟨Z,_⟩=>by
   obtain rfl:=List.eq_nil_of_length_eq_zero Z;rfl
  lY:=λx v t hx=>by cases hx;exact⟨rfl,rfl,λv ay=>by cases ay⟩
  iB:=λx e hx=>by cases hx}
 |n+1=>{
  rt:=λv t ⟨Z,ae⟩=>by
   cases v with
   |nil=>simp at Z
   |cons a l=>
    have ar:=h.rt a (gi E l++t) (ae a (by simp))
    have aK:=(km.rep h n).rt l t ⟨by simpa using Z,λv ay=>ae v (by simp [ay])⟩
    simp only [Bn,uu,List.append_assoc,ar,aK]
  lY:=
   λx v t hx=>by
   unfold Bn at hx;split at hx
   ·rename_i v0 t0 hd;split at hx
    ·rename_i l0 Qd hk;cases hx;obtain⟨ar,aK⟩:=h.lY _ _ _ hd;obtain⟨bc,b2,cU⟩:=(km.rep h n).lY _ _ _ hk;refine⟨by rw [ar,bc,uu,List.append_assoc],by simp [b2],λv ay=>?_⟩
     rcases List.mem_cons.1 ay with rfl|ay
     ·exact aK
     ·exact cU v ay
    ·cases hx
   ·cases hx
  iB:=λx e hx=>by
   unfold Bn at hx;split at hx
   ·split at hx
    ·cases hx
    ·rename_i b5 hk;cases hx;exact(km.rep h n).iB _ _ hk
   ·rename_i b5 hd;cases hx;exact h.iB _ _ hd}
def iS(z:Int):Prop:=0≤z∧z<18446744073709551616
def iC(z:Int):al5:=eH z.toNat
def cP{α:Type}(E:α→al5)(l:List α):al5:=eH l.length++gi E l
def Gt{α:Type}{E:α→al5}:∀{l:List α},(∀v∈l,E v≠[])→l.length≤(gi E l).length
 |[],_=>by simp
 |v::l,h=>by
  have Z:(E v).length≠0:=by simpa using h v (by simp)
  have ae:=Gt (E:=E) (l:=l) λw hw=>h w (by simp [hw])
  simp only [uu,alY,alU];omega
def r1(b:Bool):al5:=if b then[1] else[0]
def OL(u:Nat):eH u≠[]:=by rw [eH];split<;>simp
def km.as{α:Type}{D:lA α}{E:α→al5}{ok:α→Prop}(h:km D E ok)(cZ:α→al5)(xj:α→Prop)(Z:∀v,xj v↔ok v)(ae:∀v,ok v→cZ v=E v):km D cZ xj where
 rt:=λv t ay=>by rw [ae v ((Z v).1 ay)];exact h.rt v t ((Z v).1 ay)
 lY:=λx v t hx=>by
  obtain⟨ar,aK⟩:=h.lY x v t hx;exact⟨by rw [ae v aK];exact ar,(Z v).2 aK⟩
 iB:=h.iB
def r2(v:bw):Prop:=kO v=true∧eX v.N
def ah0{s:al5}(h:jL s=true):s.length≤64:=by
 unfold jL at h;simp only [Bool.and_eq_true,decide_eq_true_eq]at h;exact h.2
def ah1{v:bw}(h:kO v=true):v=⟨0,0,[]⟩∨(v.Kind=1∧v.S=[])∨(v.Kind=2∧v.N=0∧jL v.S=true):=by
 obtain⟨k,n,s⟩:=v;unfold kO at h;simp only at h ⊢
 split at h
 ·rename_i h0;simp only [Bool.and_eq_true,decide_eq_true_eq]at h;obtain⟨rfl,rfl⟩:=h;exact .inl (by rw [h0])
 ·split at h
  ·rename_i Z;exact .inr (.inl ⟨Z,by simpa using h⟩)
  ·simp only [Bool.and_eq_true,decide_eq_true_eq]at h;exact .inr (.inr ⟨h.1.1,h.1.2,h.2⟩)
def res{α:Type}(z:α)(s:al5):Except Int (α×al5)→α×Int×Int
 |.ok (v,t)=>(v,((s.length-t.length:Nat):Int),0)
 |.error e=>(z,0,e)
def XD{i:Nat}(h:i≤9223372036854775807):al7 (i:Int)=(i:Int):=by rw [wr]<;>omega
def uv:∀a b:al5,(!Op.bytesLess a b)=(Op.bytesLess b a||decide (b=a))
 |[],[]=>rfl
 |[],b::y=>rfl
 |a::x,[]=>rfl
 |a::x,b::y=>by
  simp only [Op.bytesLess,uv x y,Bool.not_or,Bool.not_and];rcases Nat.lt_trichotomy a.toNat b.toNat with h|h|h
  ·have Z:a<b:=h;have ae:¬ b<a:=by show¬ b.toNat<a.toNat;omega
   have ar:a≠b:=by intro e;subst e;omega
   simp [Z,ae,Ne.symm ar]
  ·obtain rfl:a=b:=UInt8.toNat_inj.1 h;simp
  ·have Z:b<a:=h;have ae:¬ a<b:=by show¬ a.toNat<b.toNat;omega
   have ar:a≠b:=by intro e;subst e;omega
   simp [Z,ae,ar]
def XE:∀a b c:al5,Op.bytesLess a b=true→Op.bytesLess b c=true→Op.bytesLess a c=true
 |_,[],_,h,_=>by simp [Op.bytesLess]at h
 |_,b::y,[],_,h=>by simp [Op.bytesLess]at h
 |[],b::y,c::z,_,_=>rfl
 |a::x,b::y,c::z,Z,ae=>by
  simp only [Op.bytesLess,Bool.or_eq_true,Bool.and_eq_true,decide_eq_true_eq,beq_iff_eq]at Z ae ⊢;rcases Z with Z|⟨rfl,Z⟩
  ·rcases ae with ae|⟨rfl,ae⟩
   ·left;show a.toNat<c.toNat;have ar:a.toNat<b.toNat:=Z;have aK:b.toNat<c.toNat:=ae;omega
   ·exact .inl Z
  ·rcases ae with ae|⟨rfl,ae⟩
   ·exact .inl ae
   ·exact .inr ⟨rfl,XE x y z Z ae⟩
def je{β:Type}{c k:Bool}{x y:β}(h:c = !k):(bif c then x else y)=if k then y else x:=by subst h;cases k<;>rfl
def mA{i len:Nat}{b:Bool}(hi:i<len)(af:len≤1000000000):(b||(!(decide (0<(i:Int)))||aN (al7 ((i:Int)-1)) len))=true:=by
 cases i with
 |zero=>simp
 |succ i=>
  rw [show((i+1:Nat):Int)-1=(i:Int)by omega,XD (by omega),b6 (by omega)];simp
def Bo{i len:Nat}{b c:Bool}(hi:i<len):(b||(c||aN (i:Int) len))=true:=by rw [b6 hi];simp
def ah2{i len:Nat}{b:Bool}(hi:i<len):(b||aN (i:Int) len)=true:=by rw [b6 hi];simp
def allI(len:Nat)(chk:Nat→Bool):Bool:=(List.range len).all chk
def js{len:Nat}{chk:Nat→Bool}:allI len chk=true↔∀i,i<len→chk i=true:=by
 unfold allI;simp
def mB(b:Bool):(if b then true else false)=b:=by cases b<;>rfl
def r3(b c:Bool):(if b then c else false)=(b&&c):=by cases b<;>rfl
def iD{β:Type}{L:Nat→Int→Option β}{len:Nat}{chk:Nat→Bool}{no yes:β}{m:Nat}(hm:len<m)
 (step:∀m i,i<len→L (m+1) (i:Int)=if chk i then L m ((i+1:Nat):Int)else some no) (stop:∀m,L (m+1) (len:Int)=some yes):
 L m 0=some (if allI len chk then yes else no):=OC hm step stop
abbrev pv(i:Nat):Nat:=(al7 ((i:Int)-1)).toNat
def XF(i:Nat)(h:i≤1000000000):pv (i+1)=i:=by
 unfold pv;(rw [show((i+1:Nat):Int)-1=(i:Int)by omega,XD (by omega)];simp only [alW])
def ah3{L:Nat→Int→al'}{len:Nat}{p:Nat→Bool}
 (step:∀m i,i<len→L (m+1) (i:Int)=if p i then some (i:Int)else L m ((i+1:Nat):Int)) (stop:∀m,L (m+1) (len:Int)=some (-1)):
 ∀m i,len<i+m→i≤len→∃r,L m (i:Int)=some r∧decide (0≤r)=(List.range' i (len-i)).any p:=by
 intro m;induction m with
 |zero=>intro i h ae;omega
 |succ m a7=>
  intro i h ae;by_cases hi:i<len
  ·rw [step m i hi,show len-i=(len-(i+1))+1 by omega,List.range'_succ,List.any_cons]
   cases hp:p i
   ·obtain⟨r,ar,aK⟩:=a7 (i+1) (by omega) (by omega)
    exact⟨r,by rw [if_neg (by simp)];exact ar,by rw [aK];simp⟩
   ·exact⟨(i:Int),by simp,by simp⟩
  ·obtain rfl:i=len:=by omega
   exact⟨-1,stop m,by simp⟩
def XG{L:Nat→Int→al'}{len:Nat}{p:Nat→Bool}{m:Nat}(hm:len<m)
 (step:∀m i,i<len→L (m+1) (i:Int)=if p i then some (i:Int)else L m ((i+1:Nat):Int)) (stop:∀m,L (m+1) (len:Int)=some (-1)):
 ∃r,L m 0=some r∧decide (0≤r) = !allI len λi=>!p i:=by
 obtain⟨r,Z,ae⟩:=ah3 step stop m 0 (by omega) (by omega)
 refine⟨r,Z,?_⟩
 rw [ae,Nat.sub_zero,←List.range_eq_range'];unfold allI;rw [List.not_all_eq_any_not];simp
section
variable {n:Nat} (hn:2000≤n) (bz:n≤1000000000)
include hn bz
def XH(l:List bE):Bool:=allI l.length λi=>kN (l.getD i default).Key&&kO (l.getD i default).b7&&(!decide (0<(i:Int))||Op.bytesLess (l.getD (pv i) default).Key (l.getD i default).Key)
def OM(l:List bE):Bool:=XH l&&allI l.length λi=>!decide ((l.getD i default).b7.Kind=0)
def pW(l:List bj):Bool:=(allI l.length λi=>kN (l.getD i default).Key && !decide ((l.getD i default).Count<1) && !decide (1099511627776<(l.getD i default).Count)&&(!decide (0<(i:Int))||Op.bytesLess (l.getD (pv i) default).Key (l.getD i default).Key))&&decide (((l.length:Nat):Int)≤32)
theorem ah4{l:List bj}(af:l.length<n):DS n l=some (pW l):=by
 unfold DS pW;rw [iD (L:=vV n l) (no:=false) (yes:=decide (((l.length:Nat):Int)≤32)) af,r3]
 ·intro m i hi;simp only [vV,DR,alX,hi,alO,alQ,b6 hi,a_,aC,alW,ck (show i≤4611686018427387904 by omega),OD (show 24<n by omega),mA hi (show l.length≤1000000000 by omega)]
  exact je (by simp only [eg,e8,Bool.not_and,Bool.not_or,Bool.not_not])
 ·intro m;simp only [vV,DR,J_,al1,alP,alR]
theorem ah5{l:List bj}(af:l.length<n)(h:∀i,(l.getD i default).Key.length≤1000):Et n l=some (pW l):=by
 unfold Et pW;rw [iD (L:=wk n l) (no:=false) (yes:=decide (((l.length:Nat):Int)≤32)) af,r3]
 ·intro m i hi;have Z:=h i;simp only [wk,Es,alX,hi,alO,alQ,b6 hi,a_,aC,alW,ck (show i≤4611686018427387904 by omega),OE (show(l.getD i default).Key.length<n by omega) (by omega),Bo hi,ah2 hi,mA hi (show l.length≤1000000000 by omega),al2]
  exact je (by simp only [eg,e8,Bool.not_and,Bool.not_or,Bool.not_not,←uv])
 ·intro m;simp only [wk,Es,L1,al1,alP,alR]
def o0(l:List al5):Bool:=(allI l.length λi=>kN (l.getD i default)&&(!decide (0<(i:Int))||Op.bytesLess (l.getD (pv i) default) (l.getD i default)))
theorem XI{l:List al5}(af:l.length<n):yL n l=some (o0 l&&decide (((l.length:Nat):Int)≤64)):=by
 unfold yL o0;rw [iD (L:=vu n l) (no:=false) (yes:=decide (((l.length:Nat):Int)≤64)) af,r3]
 ·intro m i hi;simp only [vu,C0,alX,hi,alO,alQ,b6 hi,a_,aC,alW,ck (show i≤4611686018427387904 by omega),OD (show 24<n by omega),mA hi (show l.length≤1000000000 by omega)]
  exact je (by simp only [eg,e8,Bool.not_and,Bool.not_or,Bool.not_not,←uv])
 ·intro m;simp only [vu,C0,I6,al1,alP,alR]
theorem XJ{l:List al5}(af:l.length<n)(h:∀i,(l.getD i default).length≤1000):zZ n l=some (o0 l):=by
 unfold zZ o0;rw [iD (L:=wz n l) (no:=false) (yes:=true) af,mB]
 ·intro m i hi;have Z:=h i;simp only [wz,E0,alX,hi,alO,alQ,b6 hi,a_,aC,alW,ck (show i≤4611686018427387904 by omega),OE (show(l.getD i default).length<n by omega) (by omega),Bo hi,mA hi (show l.length≤1000000000 by omega),al2]
  exact je (by simp only [eg,e8,Bool.not_and,Bool.not_or,Bool.not_not])
 ·intro m;simp only [wz,E0,MQ,al1,alP,alR]
def pX(f:eP):Bool:=bif f.dI then decide (f.Reads.length=0)&&decide (f.b_.length=0) else(o0 f.Reads&&decide (f.Reads.length≤64))&&(o0 f.b_&&decide (f.b_.length≤64))
theorem ah6{f:eP}(Z:f.Reads.length<n)(ae:f.b_.length<n):yM n f=some (pX f):=by
 unfold yM pX;rw [XI hn bz Z,XI hn bz ae];simp only [aC,jq,jb,e8];cases f.dI
 ·simp only [alR];cases o0 f.Reads&&decide (f.Reads.length≤64)<;>rfl
 ·rfl
theorem ah7{f:eP}(Z:f.Reads.length<n)(ae:f.b_.length<n)(ar:∀i,(f.Reads.getD i default).length≤1000)(aK:∀i,(f.b_.getD i default).length≤1000):z1 n f=some (pX f):=by
 unfold z1 pX;rw [XJ hn bz Z ar,XJ hn bz ae aK];simp only [jq,jb,e8];cases f.dI
 ·simp only [alR];cases decide (f.Reads.length≤64)<;>cases decide (f.b_.length≤64)<;>cases o0 f.Reads<;>cases o0 f.b_<;>rfl
 ·rfl
end
def ng(c b:Bool):(bif c then some b else some default)=some (c&&b):=by cases c<;>rfl
def XK{l:Nat}{b:Bool}:(b||decide (l<1)||decide (16<l)||aN 0 l)=true:=by
 by_cases h:l<1
 ·rw [decide_eq_true h];simp
 ·rw [rR (by omega)];simp
def XL{α:Type}(l:List α)(d:α){i k:Nat}(h:k<i):(l.take i).getD k d=l.getD k d:=by
 simp [List.getD_eq_getElem?_getD,List.getElem?_take,h]
section
variable {n:Nat} (hn:2000≤n) (bz:n≤1000000000)
include hn bz
def nU(l:List bw):Bool:=allI l.length λi=>kO (l.getD i default) && !decide ((l.getD i default).Kind=0)
def pY(r:Request):Int:=
 bif (((decide (r.Client<1)||decide (32<r.Client))||decide (r.Seq<1))||decide (1099511627776<r.Seq))then 1 else
 bif !gp r.be then 7 else
 bif decide (6<r.au.length)then 2 else
 bif !nU r.au then 1 else
 bif ((!pX r.bi||r.bi.dI)||(!r.dO&&decide (0<r.bi.Reads.length+r.bi.b_.length)))then 1 else 0
structure r4(n:Nat)(r:Request):Prop where
 proc:r.be.length≤1000
 args:r.au.length<n
 vals:∀i,(r.au.getD i default).S.length≤1000
 Gu:r.bi.Reads.length<n
 Gv:r.bi.b_.length<n
 rd:∀i,(r.bi.Reads.getD i default).length≤1000
 wr:∀i,(r.bi.b_.getD i default).length≤1000
theorem XM{r:Request}(h:r4 n r):oy n r=some (pY r):=by
 have Z:=h.proc;have ae:=h.args
 obtain⟨c,e1,e2⟩:=XG (L:=vv n r.au) (len:=r.au.length) (p:=λi=>!(kO (r.au.getD i default) && !decide ((r.au.getD i default).Kind=0))) ae (by
  intro m i hi;have:=h.vals i
  simp only [vv,C1,I9,alX,hi,alO,alQ,b6 hi,a_,alW,ck (show i≤4611686018427387904 by omega),OF (show(r.au.getD i default).S.length<n by omega) (by omega),ng,aC]
  cases kO (r.au.getD i default)<;>cases decide ((r.au.getD i default).Kind=0)<;>rfl) (by
  intro m;simp only [vv,C1,I',al1,alP,alR])
 have e3:(allI r.au.length λi=>!!(kO (r.au.getD i default) && !decide ((r.au.getD i default).Kind=0)))=nU r.au:=by simp only [Bool.not_not];rfl
 rw [e3]at e2;unfold oy Ja I_ pY;rw [A3 n _ (by omega),e1,show yM n ⟨r.bi.dI,r.bi.Reads,r.bi.b_⟩=_ from ah6 hn bz (f:=r.bi) h.Gu h.Gv]
 have ar:=h.Gu;have aK:=h.Gv;have hK:al7 (((r.bi.Reads.length:Nat):Int)+((r.bi.b_.length:Nat):Int))=((r.bi.Reads.length+r.bi.b_.length:Nat):Int):=by rw [wr]<;>omega
 simp only [aC,e2,hK,eg,e8,e7];cases ((decide (r.Client<1)||decide (32<r.Client))||decide (r.Seq<1))||decide (1099511627776<r.Seq)<;>cases gp r.be<;>cases decide (6<r.au.length)<;>cases nU r.au<;>cases ((!pX r.bi||r.bi.dI)||(!r.dO&&decide (0<r.bi.Reads.length+r.bi.b_.length)))<;>rfl
theorem XN{r:Request}(h:r4 n r):pK n r=some (pY r):=by
 have Z:=h.proc;have ae:=h.args;have ar:=h.Gu;have aK:=h.Gv;have hK:al7 (((r.bi.Reads.length:Nat):Int)+((r.bi.b_.length:Nat):Int))=((r.bi.Reads.length+r.bi.b_.length:Nat):Int):=by rw [wr]<;>omega
 have e1:tP n r n 0=some (if nU r.au then(bif ((!pX r.bi||r.bi.dI)||(!r.dO&&decide (0<r.bi.Reads.length+r.bi.b_.length)))then 1 else 0)else 1):=by
  refine iD (L:=tP n r) ae ?_ ?_
  ·intro m i hi;have:=h.vals i
   simp only [tP,E1,alX,hi,alO,alQ,b6 hi,a_,alW,ck (show i≤4611686018427387904 by omega),OG (show(r.au.getD i default).S.length<n by omega) (by omega),aC,al2]
   exact je (by simp only [eg,e8,Bool.not_and,Bool.not_or,Bool.not_not])
  ·intro m;simp only [tP,E1,MR,al1,alP,alR];rw [show z1 n ⟨r.bi.dI,r.bi.Reads,r.bi.b_⟩=_ from ah7 hn bz (f:=r.bi) h.Gu h.Gv h.rd h.wr]
   simp only [aC,hK,eg,e8,e7];cases ((!pX r.bi||r.bi.dI)||(!r.dO&&decide (0<r.bi.Reads.length+r.bi.b_.length)))<;>rfl
 unfold pK pY;rw [A2 _ (by omega) (by omega) (by omega),e1]
 simp only [aC,eg,e8,e7];cases ((decide (r.Client<1)||decide (32<r.Client))||decide (r.Seq<1))||decide (1099511627776<r.Seq)<;>cases gp r.be<;>cases decide (6<r.au.length)<;>cases nU r.au<;>rfl
def Gw(c:UInt8):Bool:=!(decide (c.toNat<33)||decide (126<c.toNat))
def lZ(s:al5):Bool:=(allI s.length λi=>Gw (s.getD i 0))&&decide (s.length≤24)
theorem XO{s:al5}(hs:s.length<n):zl n s=some (lZ s):=by
 unfold zl lZ;rw [iD (L:=vX n s) (no:=false) (yes:=decide (s.length≤24)) hs,r3]
 ·intro m i hi;simp only [vX,DV,alX,hi,alO,alQ,b6 hi,a_,alW,ck (show i≤4611686018427387904 by omega),al2,qF,e7]
  exact je (by simp only [eg,Gw,Bool.not_not])
 ·intro m;simp only [vX,DV,Kb,al1,alP,alR,jb]
theorem XP{s:al5}(hs:s.length<n):zG n s=some (lZ s):=by
 unfold zG lZ;rw [iD (L:=wh n s) (chk:=λi=>Gw (s.getD i 0)) (no:=false) (yes:=true) hs,mB]
 ·simp only [e7];by_cases h:s.length≤24
  ·simp only [h,show¬ 24<s.length by omega,alO,alP,alR,Bool.and_true]
  ·simp only [h,show 24<s.length by omega,alO,alP,alQ,Bool.and_false]
 ·intro m i hi;simp only [wh,Em,alX,hi,alO,alQ,b6 hi,a_,alW,ck (show i≤4611686018427387904 by omega),al2,qF,e7]
  exact je (by simp only [eg,Gw,Bool.not_not])
 ·intro m;simp only [wh,Em,LY,al1,alP,alR]
def pZ(n:Int):Bool:=decide (1≤n)&&decide (n≤16)
def ON(n:Int):Bool:=decide (1≤n)&&decide (n≤1099511627776)
def p0(l:List Part)(i:Nat):Bool:=
 let x:=l.getD i default
 bif decide (x.ff=0)then decide (x.gd=[]) else((((pZ x.ff && !decide (x.ff=x.Node))&&lZ x.gd) && !Op.bytesLess x.gd x.dS)&&(decide (i+1=l.length)||Op.bytesLess x.gd (l.getD (i+1) default).dS))
def r5(l:List Part)(i:Nat):Bool:=
 let x:=l.getD i default
 (!decide (0<(i:Int))||(lZ x.dS&&Op.bytesLess (l.getD (pv i) default).dS x.dS))&&(((ON x.Id&&pZ x.Node)&&p0 l i)&&allI i λk=>!decide ((l.getD k default).Id=x.Id))
def nV(p:cd):Bool:=!((((decide (p.Version<0)||decide (1099511627776<p.Version))||decide (p.aD.length<1))||decide (16<p.aD.length)) || !decide ((p.aD.getD 0 default).dS=[]))&&allI p.aD.length (r5 p.aD)
def p1(x:Part):Prop:=x.dS.length≤1000∧x.gd.length≤1000
theorem ah8{l:List Part}(af:l.length<n){i:Nat}(hi:i<l.length)(h:∀i,p1 (l.getD i default)):DX n l (i:Int)=some (p0 l i):=by
 unfold DX zm p0;have Z:=(h i).2
 (rw [b6 hi,a_];simp only [alW];rw [XO hn bz (by omega),ck (by omega)])
 simp only [aC,e8,eg,ng,Int.ofNat_inj,show(decide (1≤(l.getD i default).ff)&&decide ((l.getD i default).ff≤16))=pZ (l.getD i default).ff from rfl]
 cases decide ((l.getD i default).ff=0)
 ·simp only [alR];by_cases e:i+1=l.length
  ·simp only [e,alO,Bool.true_or,al2,a_];cases pZ (l.getD i default).ff<;>cases decide ((l.getD i default).ff=(l.getD i default).Node)<;>rfl
  ·rw [b6 (show i+1<l.length by omega)]
   simp only [e,alW,alP,Bool.false_or,al2,a_];cases pZ (l.getD i default).ff<;>cases decide ((l.getD i default).ff=(l.getD i default).Node)<;>rfl
 ·rfl
theorem ah9{p:cd}(af:p.aD.length<n)(h:∀i,p1 (p.aD.getD i default)):zn n p=some (nV p):=by
 have e1:tq n p n 0=some (allI p.aD.length (r5 p.aD)):=by
  rw [iD (L:=tq n p) (chk:=r5 p.aD) (no:=false) (yes:=true) af,mB]
  ·intro m i hi;have Z:=h i;have ae:=Z.1;have c8:(p.aD.take i).length<n:=by simp;omega
   obtain⟨c,f1,f2⟩:=XG (L:=vY n (p.aD.take i) (p.aD.getD i default).Id) (len:=(p.aD.take i).length) (p:=λk=>decide (((p.aD.take i).getD k default).Id=(p.aD.getD i default).Id)) c8 (by
    intro m k hk;have nz:k≤4611686018427387904:=by omega
    simp only [vY,DW,Kc,alX,hk,alO,alQ,b6 hk,a_,aC,alW,ck nz];cases decide (((p.aD.take i).getD k default).Id=(p.aD.getD i default).Id)<;>rfl) (by
    intro m;simp only [vY,DW,Kd,al1,alP,alR])
   have f3:(allI (p.aD.take i).length λk=>!decide (((p.aD.take i).getD k default).Id=(p.aD.getD i default).Id))=allI i λk=>!decide ((p.aD.getD k default).Id=(p.aD.getD i default).Id):=by
    rw [show(p.aD.take i).length=i by simp;omega,Bool.eq_iff_iff,js,js]
    constructor
    ·intro g k hk;have:=g k hk;rwa [XL _ _ hk]at this
    ·intro g k hk;have:=g k hk;rwa [XL _ _ hk]
   rw [f3]at f2;simp only [tq,DY,Kf,Ke,Kg,zm,alX,hi,alO,alQ,b6 hi,a_,aC,alW,ck (show i≤4611686018427387904 by omega),XO hn bz (show(p.aD.getD i default).dS.length<n by omega),ng,f1,ah8 hn bz af hi h,Wr (Nat.le_of_lt hi),al2]
   have g1:(!decide (0<(i:Int))||(!(decide (0<(i:Int))&&lZ (p.aD.getD i default).dS)||aN (al7 ((i:Int)-1)) p.aD.length))=true:=by
    have:=mA (b:=!(decide (0<(i:Int))&&lZ (p.aD.getD i default).dS)) hi (show p.aD.length≤1000000000 by omega)
    rw [←this];cases decide (0<(i:Int))<;>simp
   simp only [g1,a_,←uv,eg,e8];unfold r5 ON pZ;simp only
   cases hd:decide (0<(i:Int))
   ·simp only [Bool.false_and,alR,alT,Bool.true_or,Bool.true_and];cases (decide (1≤(p.aD.getD i default).Id)&&decide ((p.aD.getD i default).Id≤1099511627776))
    ·rfl
    ·cases (decide (1≤(p.aD.getD i default).Node)&&decide ((p.aD.getD i default).Node≤16))
     ·rfl
     ·cases p0 p.aD i
      ·rfl
      ·simp only [alS,Bool.or_self,alT,alQ,aC,f2,Bool.false_or,Bool.true_and];exact je rfl
   ·simp only [Bool.true_and,alQ,alS,Bool.false_or];cases lZ (p.aD.getD i default).dS
    ·rfl
    ·cases Op.bytesLess (p.aD.getD (pv i) default).dS (p.aD.getD i default).dS
     ·rfl
     ·cases (decide (1≤(p.aD.getD i default).Id)&&decide ((p.aD.getD i default).Id≤1099511627776))
      ·rfl
      ·cases (decide (1≤(p.aD.getD i default).Node)&&decide ((p.aD.getD i default).Node≤16))
       ·rfl
       ·cases p0 p.aD i
        ·rfl
        ·simp only [alS,Bool.or_self,alT,alQ,alR,aC,f2,Bool.false_or,Bool.true_and];exact je rfl
  ·intro m;simp only [tq,DY,Kh,al1,alP,alR]
 unfold zn nV;rw [e1];simp only [eg,qF,e7,XK,a_];cases (((decide (p.Version<0)||decide (1099511627776<p.Version))||decide (p.aD.length<1))||decide (16<p.aD.length)) || !decide ((p.aD.getD 0 default).dS=[])<;>rfl
end
def ah'{β:Type}{L:Nat→Int→Option β}{len:Nat}{chk:Nat→Bool}{no:β}{yes:Option β}
 (step:∀m i,i<len→L (m+1) (i:Int)=if chk i then L m ((i+1:Nat):Int)else some no) (stop:∀m,L (m+1) (len:Int)=yes):
 ∀m i,len<i+m→i≤len→L m (i:Int)=if(List.range' i (len-i)).all chk then yes else some no:=by
 intro m;induction m with
 |zero=>intro i h ae;omega
 |succ m a7=>
  intro i h ae;by_cases hi:i<len
  ·rw [step m i hi,a7 (i+1) (by omega) (by omega),show len-i=(len-(i+1))+1 by omega,List.range'_succ,List.all_cons]
   cases chk i
   ·rfl
   ·rw [if_pos rfl,Bool.true_and]
  ·obtain rfl:i=len:=by omega
   rw [stop m];simp
def XQ{β:Type}{L:Nat→Int→Option β}{len:Nat}{chk:Nat→Bool}{no:β}{yes:Option β}{m:Nat}(hm:len<m)
 (step:∀m i,i<len→L (m+1) (i:Int)=if chk i then L m ((i+1:Nat):Int)else some no) (stop:∀m,L (m+1) (len:Int)=yes):
 L m 0=if allI len chk then yes else some no:=by
 have:=ah' step stop m 0 (by omega) (by omega)
 rwa [Nat.sub_zero,←List.range_eq_range']at this
section
variable {n:Nat} (hn:2000≤n) (bz:n≤1000000000)
include hn bz
theorem ah_{l:List Part}{i:Nat}(hi:i<l.length)(h:∀i,p1 (l.getD i default))(eY:al5)(hnx:i+1<l.length→eY=(l.getD (i+1) default).dS):
 En n (l.getD i default) eY (decide (((i+1:Nat):Int)=((l.length:Nat):Int)))=some (p0 l i):=by
 unfold En p0;have Z:=(h i).2;rw [XP hn bz (by omega)]
 simp only [ng,aC,e8,eg,Int.ofNat_inj,show(decide (1≤(l.getD i default).ff)&&decide ((l.getD i default).ff≤16))=pZ (l.getD i default).ff from rfl]
 cases decide ((l.getD i default).ff=0)
 ·simp only [alR];by_cases e:i+1=l.length
  ·simp only [e,alO,Bool.true_or];cases pZ (l.getD i default).ff<;>cases decide ((l.getD i default).ff=(l.getD i default).Node)<;>cases lZ (l.getD i default).gd<;>rfl
  ·rw [hnx (by omega)]
   simp only [e,alP,Bool.false_or];cases pZ (l.getD i default).ff<;>cases decide ((l.getD i default).ff=(l.getD i default).Node)<;>cases lZ (l.getD i default).gd<;>rfl
 ·rfl
theorem XR{p:cd}(af:p.aD.length<n)(h:∀i,p1 (p.aD.getD i default))(h0:(p.aD.getD 0 default).dS=[])(aj:Int→al9){i:Nat}(hi:i<p.aD.length)(eY:al5)(hnx:i+1<p.aD.length→eY=(p.aD.getD (i+1) default).dS):
 zH n aj p (i:Int) eY=if r5 p.aD i then aj ((i+1:Nat):Int)else some false:=by
 have Z:=(h i).1
 have sH:tI n aj p (i:Int) n 0=if(allI i λk=>!decide ((p.aD.getD k default).Id=(p.aD.getD i default).Id))then aj ((i+1:Nat):Int)else some false:=by
  refine XQ (L:=tI n aj p (i:Int)) (by omega) ?_ ?_
  ·intro m k hk;have nz:k<p.aD.length:=by omega
   simp only [tI,Eo,alX,hk,alO,alQ,b6 nz,a_,alW,ck (show k≤4611686018427387904 by omega)]
   exact je (by rw [Bool.not_not])
  ·intro m;simp only [tI,Eo,L0,al1,alP,alR,ck (show i≤4611686018427387904 by omega)]
 unfold zH
 (simp only [alW];rw [XP hn bz (by omega),aC,mA hi (by omega),a_,ck (by omega),ah_ hn bz hi h eY hnx,ng,aC,sH])
 simp only [eg,e8,←uv];unfold r5 ON pZ;simp only
 have g0:(decide (0<(i:Int)))=false→lZ (p.aD.getD i default).dS=true:=by
  intro e;obtain rfl:i=0:=by have:=of_decide_eq_false e;omega
  rw [h0];rfl
 have c1:decide ((p.aD.getD i default).Id<1) = !decide (1≤(p.aD.getD i default).Id):=by
  by_cases g:(p.aD.getD i default).Id<1
  ·rw [decide_eq_true g,decide_eq_false (by omega)];rfl
  ·rw [decide_eq_false g,decide_eq_true (by omega)];rfl
 have c2:decide (1099511627776<(p.aD.getD i default).Id) = !decide ((p.aD.getD i default).Id≤1099511627776):=by
  by_cases g:(1099511627776<(p.aD.getD i default).Id)
  ·rw [decide_eq_true g,decide_eq_false (by omega)];rfl
  ·rw [decide_eq_false g,decide_eq_true (by omega)];rfl
 have c3:decide ((p.aD.getD i default).Node<1) = !decide (1≤(p.aD.getD i default).Node):=by
  by_cases g:(p.aD.getD i default).Node<1
  ·rw [decide_eq_true g,decide_eq_false (by omega)];rfl
  ·rw [decide_eq_false g,decide_eq_true (by omega)];rfl
 have c4:decide (16<(p.aD.getD i default).Node) = !decide ((p.aD.getD i default).Node≤16):=by
  by_cases g:(16<(p.aD.getD i default).Node)
  ·rw [decide_eq_true g,decide_eq_false (by omega)];rfl
  ·rw [decide_eq_false g,decide_eq_true (by omega)];rfl
 rw [c1,c2,c3,c4,←al0,←al0];generalize (allI i λk=>!decide ((p.aD.getD k default).Id=(p.aD.getD i default).Id))=z
 cases hd:decide (0<(i:Int))
 ·rw [g0 hd];cases decide (1≤(p.aD.getD i default).Id)<;>cases decide ((p.aD.getD i default).Id≤1099511627776)<;>cases decide (1≤(p.aD.getD i default).Node)<;>cases decide ((p.aD.getD i default).Node≤16)<;>cases p0 p.aD i<;>cases z<;>rfl
 ·cases lZ (p.aD.getD i default).dS<;>cases Op.bytesLess (p.aD.getD (pv i) default).dS (p.aD.getD i default).dS<;>cases decide (1≤(p.aD.getD i default).Id)<;>cases decide ((p.aD.getD i default).Id≤1099511627776)<;>cases decide (1≤(p.aD.getD i default).Node)<;>cases decide ((p.aD.getD i default).Node≤16)<;>cases p0 p.aD i<;>cases z<;>rfl
theorem aia{p:cd}(af:p.aD.length<n)(h:∀i,p1 (p.aD.getD i default)):Er n p=some (nV p):=by
 unfold Er nV;simp only [eg,qF,e7,XK,a_];cases h0:(((decide (p.Version<0)||decide (1099511627776<p.Version))||decide (p.aD.length<1))||decide (16<p.aD.length)) || !decide ((p.aD.getD 0 default).dS=[])
 ·have XS:(p.aD.getD 0 default).dS=[]:=by
   simp only [Bool.or_eq_false_iff,Bool.not_eq_false',decide_eq_true_eq]at h0;exact h0.2
  rw [alR];rw [iD (L:=wj n p) (chk:=r5 p.aD) (no:=false) (yes:=true) af,mB]
  ·rfl
  ·intro m i hi;simp only [wj,Ep,alX,hi,alO,alQ,b6 hi,a_,ck (show i≤4611686018427387904 by omega)]
   by_cases e:i+1<p.aD.length
   ·rw [b6 e];simp only [e,alO,alQ,a_,alW];exact XR hn bz af h XS _ hi _ (λ_=>rfl)
   ·simp only [e,alP,alR];exact XR hn bz af h XS _ hi _ (λg=>absurd g e)
  ·intro m;simp only [wj,Ep,LZ,al1,alP,alR]
 ·rfl
def r6(o:Outcome):Bool:=bif decide (o.Status=1) then(decide (o.Code=0)&&decide (o.Out.length≤16))&&nU o.Out else((decide (o.Status=2)&&decide (0≤o.Code))&&decide (o.Code≤1009))&&decide (o.Out.length=0)
structure xk(n:Nat)(o:Outcome):Prop where
 out:o.Out.length<n
 vals:∀i,(o.Out.getD i default).S.length≤1000
theorem aib{o:Outcome}(h:xk n o):zd n o=some (r6 o):=by
 have Z:=h.out
 have e1:ti n o n 0=some (nU o.Out):=by
  rw [iD (L:=ti n o) (no:=false) (yes:=true) Z,mB]
  ·rfl
  ·intro m i hi;have:=h.vals i
   simp only [ti,DD,alX,hi,alO,alQ,b6 hi,a_,alW,ck (show i≤4611686018427387904 by omega),OF (show(o.Out.getD i default).S.length<n by omega) (by omega),aC]
   exact je (by simp only [eg,Bool.not_and,Bool.not_not])
  ·intro m;simp only [ti,DD,J2,al1,alP,alR]
 unfold zd J1 r6;rw [e1];simp only [eg,e8,e7,jq];cases decide (o.Status=1)
 ·simp only [alR];cases decide (o.Status=2)<;>rfl
 ·simp only [alQ];by_cases g:o.Out.length≤16
  ·simp only [show¬ 16<o.Out.length by omega,g,alO,alP]
   cases decide (o.Code=0)<;>rfl
  ·simp only [show 16<o.Out.length by omega,g,alO,alP,al2,alQ,Bool.and_false,Bool.false_and]
theorem aic{o:Outcome}(h:xk n o):zI n o=some (r6 o):=by
 have Z:=h.out
 have e1:tJ n o.Out n 0=some (nU o.Out&&decide (o.Out.length≤16)):=by
  rw [iD (L:=tJ n o.Out) (chk:=λi=>kO (o.Out.getD i default) && !decide ((o.Out.getD i default).Kind=0)) (no:=false) (yes:=decide (o.Out.length≤16)) Z,r3]
  ·rfl
  ·intro m i hi;have:=h.vals i
   simp only [tJ,Eu,alX,hi,alO,alQ,b6 hi,a_,alW,ck (show i≤4611686018427387904 by omega),OG (show(o.Out.getD i default).S.length<n by omega) (by omega),aC,al2]
   exact je (by simp only [eg,Bool.not_and,Bool.not_not])
  ·intro m;simp only [tJ,Eu,L2,al1,alP,alR,jb]
 unfold zI L3 r6;rw [e1,ng,aC];simp only [e8,jq];cases decide (o.Status=1)
 ·rfl
 ·simp only [alQ];cases decide (o.Code=0)<;>cases decide (o.Out.length≤16)<;>cases nU o.Out<;>rfl
def lB(eY:Int):Int:=bif (decide ((al7 (eY-1))<8)) then(al7 (eY-1))else 8
def uw(s:bI):Bool:=((decide (s.Client<1)||decide (32<s.Client))||decide (s.Next<1))||decide (1099511627776<s.Next)
omit hn bz in
theorem OO{s:bI}(h:uw s=false):1≤s.Client∧s.Client≤32∧1≤s.Next∧s.Next≤1099511627776:=by
 simp only [uw,Bool.or_eq_false_iff,decide_eq_false_iff_not]at h;omega
def xl(s:bI)(i:Nat):Bool:=(decide ((s.bG.getD i default).Client=s.Client)&&decide ((s.bG.getD i default).Seq=s.Next-(s.bG.length:Int)+(i:Int)))&&r6 (s.bG.getD i default).Outcome
def ux(s:bI):Bool:=(!uw s&&decide ((s.bG.length:Int)=lB s.Next))&&allI s.bG.length (xl s)
structure qP(n:Nat)(s:bI):Prop where
 rep:s.bG.length<n
 out:∀i,xk n (s.bG.getD i default).Outcome
theorem aid{s:bI}(h:qP n s):DF n s=some (ux s):=by
 have Z:=h.rep;unfold DF DC ux;simp only [eg];rw [show(((decide (s.Client<1)||decide (32<s.Client))||decide (s.Next<1))||decide (1099511627776<s.Next))=uw s from rfl]
 cases ec:uw s
 ·have hb:=OO ec;simp only [alT,alQ,aC,Bool.false_or,Bool.true_and];rw [show(bif (decide ((al7 (s.Next-1))<8)) then(al7 (s.Next-1))else 8)=lB s.Next from rfl]
  rw [iD (L:=vN n s) (chk:=xl s) (no:=false) (yes:=true) Z,mB]
  ·cases decide ((s.bG.length:Int)=lB s.Next)<;>rfl
  ·intro m i hi;simp only [vN,DE,alX,hi,alO,alQ,b6 hi,a_,alW,ck (show i≤4611686018427387904 by omega)]
   rw [show zd n (⟨((s.bG.getD i default).Outcome).Status,((s.bG.getD i default).Outcome).Code,((s.bG.getD i default).Outcome).Out⟩:Outcome)=_ from aib hn bz (h.out i),ng,aC,wr (x:=s.Next-((s.bG.length:Nat):Int)) (by omega) (by omega),wr (x:=s.Next-((s.bG.length:Nat):Int)+(i:Int)) (by omega) (by omega)]
   refine je ?_;unfold xl;simp only [eg,Bool.and_true,Bool.not_not];cases decide ((s.bG.getD i default).Client=s.Client)<;>cases decide ((s.bG.getD i default).Seq=s.Next-(s.bG.length:Int)+(i:Int))<;>rfl
  ·intro m;simp only [vN,DE,J3,al1,alP,alR]
 ·rfl
theorem aie{s:bI}(h:qP n s):Ew n s=some (ux s):=by
 have Z:=h.rep;unfold Ew L4 ux;simp only [eg];rw [show(((decide (s.Client<1)||decide (32<s.Client))||decide (s.Next<1))||decide (1099511627776<s.Next))=uw s from rfl]
 cases ec:uw s
 ·have hb:=OO ec;simp only [alT,alQ,aC,Bool.false_or,Bool.true_and];rw [show(bif (decide ((al7 (s.Next-1))<8)) then(al7 (s.Next-1))else 8)=lB s.Next from rfl]
  rw [iD (L:=wl n s) (chk:=xl s) (no:=false) (yes:=true) Z,mB]
  ·cases decide ((s.bG.length:Int)=lB s.Next)<;>rfl
  ·intro m i hi;simp only [wl,Ev,alX,hi,alO,alQ,b6 hi,a_,alW,ck (show i≤4611686018427387904 by omega)]
   rw [show zI n (⟨((s.bG.getD i default).Outcome).Status,((s.bG.getD i default).Outcome).Code,((s.bG.getD i default).Outcome).Out⟩:Outcome)=_ from aic hn bz (h.out i),ng,aC,wr (x:=((s.bG.length:Nat):Int)-(i:Int)) (by omega) (by omega),show s.Next-(((s.bG.length:Nat):Int)-(i:Int))=s.Next-((s.bG.length:Nat):Int)+(i:Int)by omega,wr (x:=s.Next-((s.bG.length:Nat):Int)+(i:Int)) (by omega) (by omega)]
   refine je ?_;unfold xl;simp only [eg,Bool.and_true,Bool.not_not];cases decide ((s.bG.getD i default).Client=s.Client)<;>cases decide ((s.bG.getD i default).Seq=s.Next-(s.bG.length:Int)+(i:Int))<;>rfl
  ·intro m;simp only [wl,Ev,L5,al1,alP,alR]
 ·rfl
def o1(l:List bI):Bool:=allI l.length λi=>ux (l.getD i default)&&(!decide (0<(i:Int)) || !decide ((l.getD i default).Client≤(l.getD (pv i) default).Client))
theorem XT{l:List bI}(af:l.length<n)(h:∀i,qP n (l.getD i default)):rz n l=some (o1 l):=by
 unfold rz o1;rw [iD (L:=vO n l) (no:=false) (yes:=true) af,mB]
 ·intro m i hi;simp only [vO,DG,alX,hi,alO,alQ,b6 hi,a_,alW,ck (show i≤4611686018427387904 by omega),aid hn bz (h i),aC,mA hi (show l.length≤1000000000 by omega)]
  exact je (by simp only [eg,e8,Bool.not_and,Bool.not_or,Bool.not_not])
 ·intro m;simp only [vO,DG,J4,al1,alP,alR]
theorem XU{l:List bI}(af:l.length<n)(h:∀i,qP n (l.getD i default)):tK n l=some (o1 l):=by
 unfold tK o1;rw [iD (L:=wm n l) (no:=false) (yes:=true) af,mB]
 ·intro m i hi;simp only [wm,Ex,alX,hi,alO,alQ,b6 hi,a_,alW,ck (show i≤4611686018427387904 by omega),aie hn bz (h i),aC,Bo hi,mA hi (show l.length≤1000000000 by omega),al2]
  exact je (by simp only [eg,e8,Bool.not_and,Bool.not_or,Bool.not_not])
 ·intro m;simp only [wm,Ex,L6,al1,alP,alR]
end
def XV{β:Type}{c d k:Bool}{x y:β}(h:k=(!c && !d)):(bif c then x else(bif d then x else y))=if k then y else x:=by subst h;cases c<;>cases d<;>rfl
def XW{m k:Nat}(h:m*k≤140737488355328):room m k=true:=by simp [room];exact h
def aif{α:Type}[Inhabited α]{l:List α}{i:Nat}(h:i<l.length):l.getD i default∈l:=by
 rw [List.getD_eq_getElem?_getD,List.getElem?_eq_getElem h];exact List.getElem_mem h
section
variable {n:Nat} (hn:2000≤n) (bz:n≤1000000000)
include hn bz
def OP(a b:bw):Bool:=decide (a.Kind=b.Kind)&&(decide (a.N=b.N)&&(decide (a.S=b.S)&&true))
def uy(r:Row)(floor last:Int)(i:Nat):Bool:=
 ((!decide ((r.bl.getD i default).fe<floor) && !decide (last<(r.bl.getD i default).fe))&&kO (r.bl.getD i default).b7) &&
 !(decide (0<(i:Int))&&(decide ((r.bl.getD i default).fe≤(r.bl.getD (pv i) default).fe)||OP (r.bl.getD i default).b7 (r.bl.getD (pv i) default).b7))
def p2(r:Row)(floor last:Int):Bool:=!(decide (r.bl.length=0)||decide ((r.bl.getD 0 default).b7.Kind=0))&&allI r.bl.length (uy r floor last)
structure Gx(n:Nat)(r:Row):Prop where
 key:r.Key.length≤1000
 Gy:r.bl.length<n
 val:∀i,(r.bl.getD i default).b7.S.length≤1000
omit hn bz in
theorem XX{i len:Nat}{b:Bool}(hi:i<len)(af:len≤1000000000):(!(decide (0<(i:Int)))||(b||aN (al7 ((i:Int)-1)) len))=true:=by
 have:=mA (b:=b) hi af
 rw [←this];cases decide (0<(i:Int))<;>cases b<;>simp
omit hn bz in
theorem XY{i len:Nat}(hi:i<len)(af:len≤1000000000):(!(decide (0<(i:Int)))||aN (al7 ((i:Int)-1)) len)=true:=by
 have:=mA (b:=false) hi af
 rw [Bool.false_or]at this;exact this
omit hn bz in
theorem XZ{l:Nat}:(decide (l=0)||aN 0 l)=true:=by
 by_cases h:l=0
 ·rw [decide_eq_true h];rfl
 ·rw [rR (by omega)];simp
theorem aig{r:Row}(h:Gx n r)(floor last:Int):C8 n r floor last=some (p2 r floor last):=by
 have Z:=h.Gy;unfold C8 p2;rw [iD (L:=vA n floor last r) (chk:=uy r floor last) (no:=false) (yes:=true) Z,mB]
 ·simp only [jq,XZ,a_,eg];cases decide (r.bl.length=0)||decide ((r.bl.getD 0 default).b7.Kind=0)<;>rfl
 ·intro m i hi;have ae:=h.val i;simp only [vA,C7,alX,hi,alO,alQ,b6 hi,a_,alW,ck (show i≤4611686018427387904 by omega),XX hi (show r.bl.length≤1000000000 by omega),XY hi (show r.bl.length≤1000000000 by omega)]
  rw [show rv n (⟨((r.bl.getD i default).b7).Kind,((r.bl.getD i default).b7).N,((r.bl.getD i default).b7).S⟩:bw)=_ from OF (v:=(r.bl.getD i default).b7) (by omega) (by omega),ng,aC]
  refine XV ?_;unfold uy;simp only [OP,eg,e8,Bool.not_and,Bool.not_or,Bool.not_not];cases decide ((r.bl.getD i default).fe<floor)<;>cases decide (last<(r.bl.getD i default).fe)<;>cases kO (r.bl.getD i default).b7<;>rfl
 ·intro m;simp only [vA,C7,Jg,al1,alP,alR]
theorem aih{r:Row}(h:Gx n r)(floor last:Int):Ek n r floor last=some (kN r.Key&&p2 r floor last):=by
 have Z:=h.Gy;have h0:=h.key;unfold Ek p2;rw [OE (by omega) (by omega),aC]
 rw [iD (L:=wd n floor last r) (chk:=uy r floor last) (no:=false) (yes:=true) Z,mB]
 ·have g:∀b:Bool,(b||decide (r.bl.length=0)||aN 0 r.bl.length)=true:=λb=>by rw [Bool.or_assoc,XZ];simp
  simp only [jq,eg,g,a_];cases kN r.Key<;>cases decide (r.bl.length=0)<;>cases decide ((r.bl.getD 0 default).b7.Kind=0)<;>rfl
 ·intro m i hi;have ae:=h.val i;simp only [wd,Ej,LV,alX,hi,alO,alQ,b6 hi,a_,alW,ck (show i≤4611686018427387904 by omega),XX hi (show r.bl.length≤1000000000 by omega),XY hi (show r.bl.length≤1000000000 by omega)]
  rw [show tH n (⟨((r.bl.getD i default).b7).Kind,((r.bl.getD i default).b7).N,((r.bl.getD i default).b7).S⟩:bw)=_ from OG (v:=(r.bl.getD i default).b7) (by omega) (by omega),aC,aC]
  refine XV ?_;unfold uy;simp only [OP,eg,e8,Bool.not_and,Bool.not_or,Bool.not_not];cases decide ((r.bl.getD i default).fe<floor)<;>cases decide (last<(r.bl.getD i default).fe)<;>cases kO (r.bl.getD i default).b7<;>rfl
 ·intro m;simp only [wd,Ej,LW,al1,alP,alR]
def l1(s:aG):Bool:=!((decide (s.cq<0)||decide (s.b0<s.cq))||decide (1099511627776<s.b0)) &&
 allI s.Rows.length λi=>(kN (s.Rows.getD i default).Key&&(!decide (0<(i:Int))||Op.bytesLess (s.Rows.getD (pv i) default).Key (s.Rows.getD i default).Key))&&p2 (s.Rows.getD i default) s.cq s.b0
structure OQ(n:Nat)(s:aG):Prop where
 rows:s.Rows.length<n
 row:∀i,Gx n (s.Rows.getD i default)
theorem X0{s:aG}(h:OQ n s):vC n s=some (l1 s):=by
 have Z:=h.rows;unfold vC l1;rw [iD (L:=vB n s) (chk:=λi=>(kN (s.Rows.getD i default).Key&&(!decide (0<(i:Int))||Op.bytesLess (s.Rows.getD (pv i) default).Key (s.Rows.getD i default).Key))&&p2 (s.Rows.getD i default) s.cq s.b0) (no:=false) (yes:=true) Z,mB]
 ·simp only [eg];cases (decide (s.cq<0)||decide (s.b0<s.cq))||decide (1099511627776<s.b0)<;>rfl
 ·intro m i hi;have ae:=(h.row i).key;simp only [vB,C9,alX,hi,alO,alQ,b6 hi,a_,aC,alW,ck (show i≤4611686018427387904 by omega),OD (show 24<n by omega),mA hi (show s.Rows.length≤1000000000 by omega),aig hn bz (h.row i),ng,←uv]
  refine je ?_;simp only [eg,e8];cases kN (s.Rows.getD i default).Key<;>cases decide (0<(i:Int))<;>cases Op.bytesLess (s.Rows.getD (pv i) default).Key (s.Rows.getD i default).Key<;>rfl
 ·intro m;simp only [vB,C9,Jh,al1,alP,alR]
theorem X1{s:aG}(h:OQ n s):wg n s=some (l1 s):=by
 have Z:=h.rows;unfold wg l1;rw [iD (L:=we n s) (chk:=λi=>(kN (s.Rows.getD i default).Key&&(!decide (0<(i:Int))||Op.bytesLess (s.Rows.getD (pv i) default).Key (s.Rows.getD i default).Key))&&p2 (s.Rows.getD i default) s.cq s.b0) (no:=false) (yes:=true) Z,mB]
 ·simp only [eg];cases (decide (s.cq<0)||decide (s.b0<s.cq))||decide (1099511627776<s.b0)<;>rfl
 ·intro m i hi;simp only [we,El,alX,hi,alO,alQ,b6 hi,a_,aC,alW,ck (show i≤4611686018427387904 by omega),aih hn bz (h.row i),Bo hi,mA hi (show s.Rows.length≤1000000000 by omega),al2]
  refine je ?_;simp only [eg,e8];cases kN (s.Rows.getD i default).Key<;>cases decide (0<(i:Int))<;>cases Op.bytesLess (s.Rows.getD (pv i) default).Key (s.Rows.getD i default).Key<;>cases p2 (s.Rows.getD i default) s.cq s.b0<;>rfl
 ·intro m;simp only [we,El,LX,al1,alP,alR]
end
def r7{α:Type}[Inhabited α]{P:α→Prop}{l:List α}(h:∀x∈l,P x)(h0:P default)(i:Nat):P (l.getD i default):=by
 by_cases hi:i<l.length
 ·exact h _ (aif hi)
 ·rw [List.getD_eq_getElem?_getD,List.getElem?_eq_none (by omega)];exact h0
def nh{v:bw}(h:r2 v):v.S.length≤64:=by
 rcases ah1 h.1 with h|h|h
 ·rw [h];simp
 ·rw [h.2];simp
 ·exact ah0 h.2.2
def jt(p:bE):al5:=gh p.Key++bR p.b7
def Gz(p:bE):Prop:=p.Key.length≤24∧r2 p.b7
section
variable {n:Nat} (hn:2000≤n) (bz:n≤1000000000) {s:al5} (hs:s.length<n)
include hn bz hs
end
def r8(x:Part):al5:=lX x.Id++(gh x.dS++(lX x.Node++(lX x.ff++gh x.gd)))
def uz(x:Part):Prop:=eX x.Id∧x.dS.length≤24∧eX x.Node∧eX x.ff∧x.gd.length≤24
def jN(p:cd):al5:=lX p.Version++cP r8 p.aD
def aii{p:Part}(h:uz p):p1 p:=⟨by have:=h.2.1;omega,by have:=h.2.2.2.2;omega⟩
def aij{l:List Part}(h:∀p∈l,uz p)(i:Nat):p1 (l.getD i default):=r7 (P:=p1) (λx hx=>aii (h x hx)) ⟨by show([]:al5).length≤1000;simp,by show([]:al5).length≤1000;simp⟩ i
section
variable {n:Nat} (hn:2000≤n) (bz:n≤1000000000) {s:al5} (hs:s.length<n)
include hn bz hs
end
def mC(o:Outcome):al5:=iC o.Status++(iC o.Code++cP bR o.Out)
def mD(o:Outcome):Prop:=(0≤o.Status∧o.Status≤9999)∧(0≤o.Code∧o.Code≤9999)∧o.Out.length≤16∧∀v∈o.Out,r2 v
def OR(c eY k:Int)(l:List Outcome):List es:=(l.zipIdx 0).map λp=>⟨c,al7 (eY-al7 (k-(p.2:Int))),p.1⟩
def Bp{eY:Int}(h:1≤eY∧eY≤1099511627776):0≤lB eY∧lB eY≤8∧lB eY≤eY-1:=by
 unfold lB;rw [wr (x:=eY-1) (by omega) (by omega)]
 by_cases dQ:eY-1<8
 ·rw [decide_eq_true dQ,alQ];omega
 ·rw [decide_eq_false dQ,alR];omega
def iE(s:bI):al5:=iC s.Client++(iC s.Next++gi mC (s.bG.map (·.Outcome)))
def r9(s:bI):Prop:=(1≤s.Client∧s.Client≤32)∧(1≤s.Next∧s.Next≤1099511627776)∧s.bG=OR s.Client s.Next (lB s.Next) (s.bG.map (·.Outcome))∧(s.bG.map (·.Outcome)).length=(lB s.Next).toNat∧∀o∈s.bG.map (·.Outcome),mD o
def X2{n:Nat}(hn:2000≤n){o:Outcome}(h:mD o):xk n o:=
 ⟨by have:=h.2.2.1;omega,λi=>r7 (P:=λv:bw=>v.S.length≤1000) (λx hx=>by have:=nh (h.2.2.2 x hx);omega) (by show([]:al5).length≤1000;simp) i⟩
def aik{n:Nat}(hn:2000≤n){s:bI}(h:r9 s):qP n s:=by
 have hk:=Bp h.2.1;have af:s.bG.length=(lB s.Next).toNat:=by have:=h.2.2.2.1;simpa using this
 refine⟨by omega,λi=>r7 (P:=λr:es=>xk n r.Outcome) (λx hx=>X2 hn (h.2.2.2.2 _ (List.mem_map_of_mem hx))) ?_ i⟩
 refine X2 hn ?_;refine⟨by show(0:Int)≤0∧(0:Int)≤9999;omega,by show(0:Int)≤0∧(0:Int)≤9999;omega,by show([]:List bw).length≤16;simp,λv ay=>by cases ay⟩
def OS{n:Nat}(hn:2000≤n){l:List bI}(h:∀s∈l,r9 s)(i:Nat):qP n (l.getD i default):=by
 refine r7 (P:=qP n) (λx hx=>aik hn (h x hx)) ⟨by show([]:List es).length<n;simp;omega,λi=>⟨?_,λi=>?_⟩⟩ i
 ·show((([]:List es).getD i default).Outcome).Out.length<n
  show([]:List bw).length<n
  simp;omega
 ·show((((([]:List es).getD _ default).Outcome).Out).getD i default).S.length≤1000
  show([]:al5).length≤1000
  simp
section
variable {n:Nat} (hn:2000≤n) (bz:n≤1000000000) {s:al5} (hs:s.length<n)
include hn bz hs
end
abbrev qQ:=List al5
def l2(b:Bool)(p:qQ×qQ):al5:=if b then cP gh p.1++cP gh p.2 else[]
def GA(b:Bool)(p:qQ×qQ):Prop:=if b then(p.1.length≤64∧∀v∈p.1,v.length≤24)∧(p.2.length≤64∧∀v∈p.2,v.length≤24)else p=([],[])
def o2(r:Request):Prop:=iS r.Client∧iS r.Seq∧r.be.length≤16∧(r.au.length≤6∧∀v∈r.au,r2 v)∧GA r.dO (r.bi.Reads,r.bi.b_)∧r.bi.dI=false
def gA(r:Request):al5:=iC r.Client++(iC r.Seq++(gh r.be++(cP bR r.au++(r1 r.dO++l2 r.dO (r.bi.Reads,r.bi.b_)))))
def GB(r:Request):Bool:=(decide (r.Client≤32)&&decide (r.Seq≤1099511627776))&&decide (pY r=0)
def k2(h:bj):al5:=gh h.Key++lX h.Count
def ail{n:Nat}(hn:2000≤n){r:Request}(h:o2 r):r4 n r:=by
 have bc:=h.2.2.2.2.1
 have hk:(r.bi.Reads.length≤64∧∀v∈r.bi.Reads,v.length≤24)∧(r.bi.b_.length≤64∧∀v∈r.bi.b_,v.length≤24):=by
  unfold GA at bc;cases hd:r.dO
  ·rw [hd]at bc;simp only [Bool.false_eq_true,al4,Prod.mk.injEq]at bc;rw [bc.1,bc.2];simp
  ·rw [hd]at bc;exact bc
 have hd:∀l:qQ,(∀v∈l,v.length≤24)→∀i,(l.getD i default).length≤1000:=λl af i=>r7 (P:=λv:al5=>v.length≤1000) (λx hx=>by have:=af x hx;omega) (by show([]:al5).length≤1000;simp) i
 exact⟨by have:=h.2.2.1;omega,by have:=h.2.2.2.1.1;omega,λi=>r7 (P:=λv:bw=>v.S.length≤1000) (λx hx=>by have:=nh (h.2.2.2.1.2 x hx);omega) (by show([]:al5).length≤1000;simp) i,by have:=hk.1.1;omega,by have:=hk.2.1;omega,hd _ hk.1.2,hd _ hk.2.2⟩
section
variable {n:Nat} (hn:2000≤n) (bz:n≤1000000000) {s:al5} (hs:s.length<n)
include hn bz hs
end
section
variable {n:Nat} (hn:2000≤n) (bz:n≤1000000000) {s:al5} (hs:s.length<n)
include hn bz hs
end
structure X3(p:be):Prop where
 v:nb p=0
 i:pV p
 w:agj p≤125000
def jf(p:be):al5:=if nb p=0 then ne p else[]
structure nW(p:be):Prop where
 i:pV p
 n:p.Name.length≤300000
 f:hv p.Params≤300000
 b:eb p.Body≤300000
def X3.fv{p:be}(h:X3 p):nW p:=by
 have hw:p.Name.length+hv p.Params+eb p.Body≤125000:=h.w;exact⟨h.i,by omega,by omega,by omega⟩
def X4{n:Nat}{p:be}(h:nW p)(hn:3000000≤n):ry n p=some (jf p):=by
 have Z:=h.n;have ae:=h.f;have ar:=h.b;unfold jf;by_cases ay:nb p=0
 ·rw [if_pos ay];exact ahq p h.i ay hn h.f h.b
 ·rw [if_neg ay];unfold ry;rw [WS p (by omega) (by omega) (by omega) (by omega) (by omega)]
  simp only [aC,ay,alP,alT,alQ]
def X5{n:Nat}{p:be}(h:nW p)(hn:3000000≤n):tO n p=some (jf p):=by
 have Z:=h.n;have ae:=h.f;have ar:=h.b;unfold jf;by_cases ay:nb p=0
 ·rw [if_pos ay];exact ahR p h.i ay hn h.f h.b
 ·rw [if_neg ay];unfold tO;rw [WU p (by omega) (by omega) (by omega) (by omega) (by omega) (by omega) (by omega)]
  simp only [aC,ay,alP,alT,alQ]
def X6{p:be}(h:nW p):(jf p).length≤1300000:=by
 unfold jf;by_cases ay:nb p=0
 ·rw [if_pos ay];have:=Xk (Oi h.i ay)
  have ar:=h.b;omega
 ·rw [if_neg ay];simp
def Bq(x:aG):(⟨x.cq,x.b0,x.Rows⟩:aG)=x:=rfl
def Br(x:cd):(⟨x.Version,x.aD⟩:cd)=x:=rfl
def GC(x:Request):(⟨x.Client,x.Seq,x.be,x.au,x.dO,(⟨x.bi.dI,x.bi.Reads,x.bi.b_⟩:eP)⟩:Request)=x:=rfl
def OT(x:cb):(⟨x.Pos,(⟨x.aG.cq,x.aG.b0,x.aG.Rows⟩:aG),x.cf,x.cR,(⟨x.Place.Version,x.Place.aD⟩:cd),x.bj,x.Queue,x.dj⟩:cb)=x:=rfl
def r'(l:List be):Bool:=(allI l.length λi=>!(decide (jf (l.getD i default)=[])||decide (16384<(((jf (l.getD i default)).length:Nat):Int)))&&(!decide (0<(i:Int))||Op.bytesLess (l.getD (pv i) default).Name (l.getD i default).Name))&&decide (l.length≤16)
def uA(l:List Request):Bool:=(allI l.length λi=>decide (pY (l.getD i default)=0))&&decide (l.length≤64)
def lC(r:cb):Bool:=((((((((decide (0≤r.Pos)&&decide (r.Pos≤1099511627776))&&l1 r.aG)&&decide (r.aG.b0=r.Pos))&&r' r.cf)&&o1 r.cR)&&nV r.Place)&&pW r.bj)&&uA r.Queue)
structure GD(n:Nat)(r:cb):Prop where
 st:OQ n r.aG
 GE:r.cf.length<n
 p3:∀i,nW (r.cf.getD i default)
 xm:r.cR.length<n
 nX:∀i,qP n (r.cR.getD i default)
 pl:r.Place.aD.length<n
 Bs:∀i,p1 (r.Place.aD.getD i default)
 bS:r.bj.length<n
 jV:∀i,(r.bj.getD i default).Key.length≤1000
 o3:r.Queue.length<n
 xn:∀i,r4 n (r.Queue.getD i default)
def X7:nW default:=by
 refine⟨⟨by show([]:al5).length≤_;simp,by show([]:List Param).length≤_;simp,λi hi=>by exact absurd hi (by show¬ i<([]:List Param).length;simp),trivial⟩,by show([]:al5).length≤_;simp,by show hv []≤_;simp [hv],by show eb []≤_;simp [eb]⟩
section
variable {n:Nat} (hn:3000000≤n) (bz:n≤1000000000)
include hn bz
theorem aim{l:List be}(af:l.length<n)(h:∀i,nW (l.getD i default)):DU n l=some (r' l):=by
 unfold DU r';rw [iD (L:=vW n l) (chk:=λi=>!(decide (jf (l.getD i default)=[])||decide (16384<(((jf (l.getD i default)).length:Nat):Int)))&&(!decide (0<(i:Int))||Op.bytesLess (l.getD (pv i) default).Name (l.getD i default).Name)) (no:=false) (yes:=true) af,mB]
 ·simp only [e7];by_cases aB:l.length≤16
  ·simp only [aB,show¬ 16<l.length by omega,alO,alP,alR,Bool.and_true]
  ·simp only [aB,show 16<l.length by omega,alO,alP,alQ,Bool.and_false]
 ·intro m i hi;simp only [vW,DT,alX,hi,alO,alQ,b6 hi,a_,aC,alW,ck (show i≤4611686018427387904 by omega),X4 (h i) hn,mA hi (show l.length≤1000000000 by omega)]
  exact je (by simp only [eg,e8,Bool.not_and,Bool.not_or,Bool.not_not,←uv])
 ·intro m;simp only [vW,DT,Ka,al1,alP,alR]
theorem ain{l:List be}(af:l.length<n)(h:∀i,nW (l.getD i default)):EZ n l=some (r' l):=by
 unfold EZ r';rw [iD (L:=wy n l) (chk:=λi=>!(decide (jf (l.getD i default)=[])||decide (16384<(((jf (l.getD i default)).length:Nat):Int)))&&(!decide (0<(i:Int))||Op.bytesLess (l.getD (pv i) default).Name (l.getD i default).Name)) (no:=false) (yes:=decide (l.length≤16)) af,r3]
 ·intro m i hi;simp only [wy,EY,alX,hi,alO,alQ,b6 hi,a_,aC,alW,ck (show i≤4611686018427387904 by omega),X5 (h i) hn,Bo hi,mA hi (show l.length≤1000000000 by omega),al2]
  exact je (by simp only [eg,e8,Bool.not_and,Bool.not_or,Bool.not_not])
 ·intro m;simp only [wy,EY,MP,al1,alP,alR,jb]
theorem X8(x y:Int):decide (x<y) = !decide (y≤x):=by
 by_cases h:y≤x
 ·rw [decide_eq_true h,decide_eq_false (by omega)];rfl
 ·rw [decide_eq_false h,decide_eq_true (by omega)];rfl
theorem aio{r:cb}(h:GD n r):tu n r=some (lC r):=by
 have e1:tr n r n 0=some (if(allI r.Queue.length λi=>decide (pY (r.Queue.getD i default)=0)) then((o1 r.cR&&nV r.Place)&&pW r.bj)else false):=by
  refine iD (L:=tr n r) h.o3 ?_ ?_
  ·intro m i hi;simp only [tr,DZ,alX,hi,alO,alQ,b6 hi,a_,alW,ck (show i≤4611686018427387904 by have:=h.o3;omega)]
   rw [XM (by omega) bz (h.xn i),aC]
   exact je rfl
  ·intro m;simp only [tr,DZ,Ki,al1,alP,alR];rw [XT (by omega) bz h.xm h.nX,ah9 (by omega) bz h.pl h.Bs,ah4 (by omega) bz h.bS]
   simp only [aC,ng,e8];cases o1 r.cR<;>cases nV r.Place<;>rfl
 unfold tu;rw [e1,X0 (by omega) bz h.st,aim hn bz h.GE h.p3]
 simp only [aC,ng,eg,e8,e7];unfold lC uA;rw [show decide (r.Pos<0) = !decide (0≤r.Pos)from X8 hn bz _ _,show decide (1099511627776<r.Pos) = !decide (r.Pos≤1099511627776)from X8 hn bz _ _]
 by_cases aB:r.Queue.length≤64
 ·simp only [aB,show¬ 64<r.Queue.length by omega,alO,alP,Bool.and_true,Bool.or_false,r3]
  cases decide (0≤r.Pos)<;>cases decide (r.Pos≤1099511627776)<;>cases l1 r.aG<;>cases decide (r.aG.b0=r.Pos)<;>cases r' r.cf<;>cases o1 r.cR<;>cases nV r.Place<;>cases pW r.bj<;>simp
 ·simp only [aB,show 64<r.Queue.length by omega,alO,alP,Bool.and_false,al2,alQ]
theorem aip{l:List Request}(af:l.length<n)(h:∀i,r4 n (l.getD i default)):E3 n l=some (uA l):=by
 unfold E3 uA;rw [iD (L:=wA n l) (chk:=λi=>decide (pY (l.getD i default)=0)) (no:=false) (yes:=decide (l.length≤64)) af,r3]
 ·intro m i hi;simp only [wA,E2,alX,hi,alO,alQ,b6 hi,a_,aC,alW,ck (show i≤4611686018427387904 by omega),XN (show 2000≤n by omega) bz (h i)]
  exact je rfl
 ·intro m;simp only [wA,E2,MS,al1,alP,alR,jb]
theorem aiq{r:cb}(h:GD n r):E4 n r=some (lC r):=by
 unfold E4 lC;rw [X1 (by omega) bz h.st,ain hn bz h.GE h.p3,XU (by omega) bz h.xm h.nX,aia (by omega) bz h.pl h.Bs,ah5 (by omega) bz h.bS h.jV,aip hn bz h.o3 h.xn]
 simp only [aC,ng,e8];cases decide (0≤r.Pos)<;>cases decide (r.Pos≤1099511627776)<;>cases l1 r.aG<;>cases decide (r.aG.b0=r.Pos)<;>cases r' r.cf<;>cases o1 r.cR<;>cases nV r.Place<;>cases pW r.bj<;>rfl
end
abbrev Bt:=Int×List bE×qQ×List bI×cd×List bj×List Request×Int
def ju(p:Bt):al5:=lX p.1++(cP jt p.2.1++(cP gh p.2.2.1++(cP iE p.2.2.2.1++(jN p.2.2.2.2.1++(cP k2 p.2.2.2.2.2.1++(cP gA p.2.2.2.2.2.2.1++iC p.2.2.2.2.2.2.2))))))
structure xo(p:Bt):Prop where
 pos:eX p.1
 p3:(p.2.1.length≤2147483647∧∀v∈p.2.1,Gz v)∧OM p.2.1=true
 src:p.2.2.1.length≤16∧∀s∈p.2.2.1,s.length≤16384
 nX:(p.2.2.2.1.length≤32∧∀v∈p.2.2.2.1,r9 v)∧o1 p.2.2.2.1=true
 qR:(eX p.2.2.2.2.1.Version∧p.2.2.2.2.1.aD.length≤16∧∀v∈p.2.2.2.2.1.aD,uz v)∧nV p.2.2.2.2.1=true
 bS:p.2.2.2.2.2.1.length≤32∧∀h∈p.2.2.2.2.2.1,h.Key.length≤24∧eX h.Count
 o3:p.2.2.2.2.2.2.1.length≤64∧∀v∈p.2.2.2.2.2.2.1,o2 v∧GB v=true
 OU:iS p.2.2.2.2.2.2.2
section
variable {n:Nat} (hn:3000000≤n) (bz:n≤1000000000) {s:al5} (hs:s.length<n)
include hn bz hs
end
section
variable {n:Nat} (hn:3000000≤n) (bz:n≤1000000000) {s:al5} (hs:s.length<n)
include hn bz hs
end
abbrev air:cb:=⟨0,⟨0,0,[]⟩,[],[],⟨0,[]⟩,[],[],0⟩
def X9{n:Nat}(hn:2000≤n):r4 n default:=ail hn ⟨by show iS 0;unfold iS;omega,by show iS 0;unfold iS;omega,by show([]:al5).length≤16;simp,⟨by show([]:List bw).length≤6;simp,λv ay=>by cases ay⟩,rfl,rfl⟩
def X'{p:Bt}(h:xo p):p.2.1.length≤(ju p).length:=by
 have Z:=Gt (E:=jt) (l:=p.2.1) λv _=>by unfold jt gh;simp [OL]
 unfold ju;rw [show cP jt p.2.1=eH p.2.1.length++gi jt p.2.1 from rfl]
 simp only [alY];omega
def X_{n:Nat}(hn:2000≤n):GD n air:=by
 have h0:∀{α:Type} (l:List α),l=[]→l.length<n:=λl h=>by rw [h];show 0<n;omega
 exact {
  st:=by
   refine⟨h0 _ rfl,λi=>⟨?_,?_,λk=>?_⟩⟩
   ·show([]:al5).length≤1000;simp
   ·exact h0 _ rfl
   ·show([]:al5).length≤1000;simp
  GE:=h0 _ rfl
  p3:=λi=>r7 (P:=nW) (λx hx=>absurd hx (by show¬ x∈([]:List be);simp)) X7 i
  xm:=h0 _ rfl
  nX:=OS hn (λx hx=>by cases hx)
  pl:=h0 _ rfl
  Bs:=aij (λx hx=>by cases hx)
  bS:=h0 _ rfl
  jV:=λi=>by show([]:al5).length≤1000;simp
  o3:=h0 _ rfl
  xn:=λi=>r7 (P:=r4 n) (λx hx=>absurd hx (by show¬ x∈([]:List Request);simp)) (X9 hn) i}
section
variable {n:Nat} (hn:3000000≤n) (bz:n≤1000000000) {s:al5} (hs:s.length≤2000)
include hn bz hs
end
def Ya:Eg 10000000=some true:=by kernel_rfl
def jO{α R:Type}[Inhabited α]{l:List α}{E:α→al5}{B:Nat}{L:Nat→al5→Nat→Option R}{fin:al5→Option R}
 (hs:∀m i acc,i<l.length→acc.length+(E (l.getD i default)).length≤B→L (m+1) acc i=L m (acc++E (l.getD i default)) (i+1))
 (he:∀m acc,acc.length≤B→L (m+1) acc l.length=fin acc):
 ∀m i acc,l.length<m+i→i≤l.length→acc.length+(gi E (l.drop i)).length≤B→L m acc i=fin (acc++gi E (l.drop i)):=by
 intro m;induction m with
 |zero=>intro i acc Z ae;omega
 |succ m a7=>
  intro i acc Z ae ar;by_cases hi:i<l.length
  ·rw [gR l i default hi,uu]at ar ⊢;rw [alY]at ar;rw [hs m i acc hi (by omega),a7 (i+1) _ (by omega) (by omega) (by rw [alY];omega),List.append_assoc]
  ·obtain rfl:i=l.length:=by omega
   rw [iO l _ hi,ahZ]at ar ⊢;rw [he m acc (by simpa using ar),List.append_nil]
def xp{n:Nat}(hn:10≤n){z:Int}(h:iS z):gV n (IntKind.u64.wrap z)=some (iC z):=by
 obtain⟨Z,ae⟩:=h;have e:IntKind.u64.wrap z=((z.toNat:Nat):Int):=by rw [IntKind.wrap_u64];omega
 rw [e];exact rX hn (by omega)
def qS{n:Nat}(hn:10≤n){k:Nat}(h:k<18446744073709551616):gV n (IntKind.u64.wrap (k:Int))=some (eH k):=by
 rw [uq h];exact rX hn h
def kP{n:Nat}{s t:al5}(h:t.length+s.length≤10000000):jm n s (gq t)=some (((s.length:Nat):Int),gq (t++s)):=by
 unfold jm vL;simp only [aC,Gm,Oz (show t.length+s.length≤140737488355328 by omega),a_]
 rw [Ow];rfl
def OV{n:Nat}{t:al5}(h:t.length≤10000000):qv n (gq t)=some (t,gq t):=by
 unfold qv;simp only [Bj,Bi,Gm,show t.length≤9223372036854775807 by omega,alO,Bool.and_self,a_]
def jP{α:Type}[Inhabited α]{P:α→Prop}{l:List α}(h:∀x∈l,P x){i:Nat}(hi:i<l.length):P (l.getD i default):=by
 rw [List.getD_eq_getElem?_getD,List.getElem?_eq_getElem hi];exact h _ (List.getElem_mem hi)
def ais{n:Nat}(hn:2000≤n){l:List bE}(af:l.length<n)(h:∀p∈l,Gz p)(ci:(cP jt l).length≤1000000):DO n l=some (cP jt l):=by
 have hlen:l.length≤(gi jt l).length:=Gt λv _=>by unfold jt gh;simp [OL]
 unfold cP at ci ⊢;rw [alY]at ci
 have key:=jO (l:=l) (E:=jt) (B:=2000000) (L:=λm acc i=>vR n l m (gq acc) (i:Int)) (fin:=λacc=>some acc)
  (λm i acc hi hb=>by
   obtain⟨Z,ae⟩:=jP h hi;have ar:=nh ae;unfold jt at hb ⊢;rw [alY]at hb;simp only [vR,DN,hi,b6 hi,alW,alX,alO,alQ,a_,ck (show i≤4611686018427387904 by omega)]
   rw [rZ (by omega) (by omega),aC,kP (by omega),aC,
    show tc n (⟨((l.getD i default).b7).Kind,((l.getD i default).b7).N,((l.getD i default).b7).S⟩:bw)=_ from OH (v:=(l.getD i default).b7) (by omega) ae.2 (by omega),aC,
    kP (by rw [alY];omega),aC,List.append_assoc])
  (λm acc ha=>by
   simp only [vR,DN,alX,Nat.lt_irrefl,alP,alR,J'];rw [OV (by omega),aC])
 unfold DO;rw [qS (by omega) (by omega),aC,Ox,kP (by simp;omega),aC]
 exact key n 0 _ (by omega) (by omega) (by simp;omega)
def ait{n:Nat}(hn:2000≤n){p:cd}(h0:eX p.Version)(af:p.aD.length≤16)(h:∀x∈p.aD,uz x)(ci:(jN p).length≤1000000):yZ n p=some (jN p):=by
 have ay:=nf h0;unfold jN cP at ci ⊢;simp only [alY]at ci
 have key:=jO (l:=p.aD) (E:=r8) (B:=2000000) (L:=λm acc i=>vD n p m (i:Int) acc) (fin:=λacc=>some acc)
  (λm i acc hi hb=>by
   obtain⟨Z,ae,ar,aK,bc⟩:=jP h hi;unfold r8 at hb ⊢;simp only [alY]at hb;simp only [vD,Db,hi,b6 hi,alW,alX,alO,alQ,a_,ck (show i≤4611686018427387904 by omega)]
   rw [ut (by omega) Z,aC,rZ (by omega) (by omega),aC,ut (by omega) ar,aC,ut (by omega) aK,aC,rZ (by omega) (by omega),aC]
   simp (disch:=omega) only [List.length_append,dq,a_,List.append_assoc])
  (λm acc ha=>by simp only [vD,Db,alX,Nat.lt_irrefl,alP,alR,Jm])
 unfold yZ;rw [ut (by omega) h0,aC,qS (by omega) (by omega),aC,dq (by omega),a_,←List.append_assoc]
 exact key n 0 _ (by omega) (by omega) (by simp only [alY,List.drop_zero];omega)
def Yb{n:Nat}(hn:2000≤n){l:qQ}(af:l.length≤64)(h:∀x∈l,x.length≤24)(ci:(cP gh l).length≤1000000):yS n l=some (cP gh l):=by
 unfold cP at ci ⊢;simp only [alY]at ci
 have key:=jO (l:=l) (E:=gh) (B:=2000000) (L:=λm acc i=>vw n l m (i:Int) acc) (fin:=λacc=>some acc)
  (λm i acc hi hb=>by
   have Z:=jP h hi;simp only [vw,C3,hi,b6 hi,alW,alX,alO,alQ,a_,ck (show i≤4611686018427387904 by omega)]
   rw [rZ (by omega) (by omega),aC]
   simp (disch:=omega) only [dq,a_])
  (λm acc ha=>by simp only [vw,C3,alX,Nat.lt_irrefl,alP,alR,Jd])
 unfold yS;rw [qS (by omega) (by omega),aC]
 exact key n 0 _ (by omega) (by omega) (by rw [List.drop_zero];omega)
def jv{z:Int}(h:iS z):(iC z).length≤10:=iR (by obtain⟨Z,ae⟩:=h;omega)
def OW{o:Outcome}(h:mD o):iS o.Status∧iS o.Code:=⟨⟨h.1.1,by have:=h.1.2;omega⟩,⟨h.2.1.1,by have:=h.2.1.2;omega⟩⟩
def GF{α β:Type}(E:β→al5)(f:α→β)(l:List α):gi E (l.map f)=gi (λx=>E (f x)) l:=by
 unfold gi;rw [List.map_map];rfl
section
variable {n:Nat} (hn:2000≤n)
include hn
theorem aiu(dx aj:List Int→Int→Option al5)(l:List bI)(i j:Nat)(hj:j≤4611686018427387904)(ax:mD ((((l.getD i default).bG).getD j default).Outcome))(acc:al5)
 (ci:acc.length+(gi bR ((((l.getD i default).bG).getD j default).Outcome.Out)).length≤2000000):
 tk n dx aj l (i:Int) (j:Int) n (gq acc) 0=dx (gq (acc++gi bR ((((l.getD i default).bG).getD j default).Outcome.Out))) ((j+1:Nat):Int):=by
 have af:=ax.2.2.1
 have key:=jO (l:=(((l.getD i default).bG).getD j default).Outcome.Out) (E:=bR) (B:=2000000) (L:=λm acc k=>tk n dx aj l (i:Int) (j:Int) m (gq acc) (k:Int)) (fin:=λacc=>dx (gq acc) ((j+1:Nat):Int))
  (λm k acc hk hb=>by
   have ae:=jP ax.2.2.2 hk;have ar:=nh ae;simp only [tk,DJ,alW,hk,b6 hk,alX,alO,alQ,a_,ck (show k≤4611686018427387904 by omega)]
   rw [OH (by omega) ae.2 (by omega),aC,kP (by omega),aC])
  (λm acc ha=>by
   simp only [tk,DJ,alW,alX,Nat.lt_irrefl,alP,alR,J7,ck hj])
 have:=key n 0 acc (by omega) (by omega) (by rw [List.drop_zero];exact ci)
 rw [List.drop_zero]at this;exact this
theorem aiv(aj:List Int→Int→Option al5)(l:List bI)(i:Nat)(hi:i≤4611686018427387904)(af:(l.getD i default).bG.length≤1000)(ax:∀r∈(l.getD i default).bG,mD r.Outcome)(acc:al5)
 (ci:acc.length+(gi (λr:es=>mC r.Outcome) (l.getD i default).bG).length≤2000000):
 tm n aj l (i:Int) n (gq acc) 0=aj (gq (acc++gi (λr:es=>mC r.Outcome) (l.getD i default).bG)) ((i+1:Nat):Int):=by
 have key:=jO (l:=(l.getD i default).bG) (E:=λr:es=>mC r.Outcome) (B:=2000000) (L:=λm acc j=>tm n aj l (i:Int) m (gq acc) (j:Int)) (fin:=λacc=>aj (gq acc) ((i+1:Nat):Int))
  (λm j acc hj hb=>by
   have ae:=jP (P:=λr:es=>mD r.Outcome) ax hj
   obtain⟨ar,aK⟩:=OW ae;have bc:=ae.2.2.1;have gb:=jv ar;have h8:=jv aK;have aiw:=iR (u:=(((l.getD i default).bG).getD j default).Outcome.Out.length) (by omega)
   unfold mC cP at hb ⊢;simp only [alY]at hb;simp only [tm,DK,alW,hj,b6 hj,alX,alO,alQ,a_]
   rw [xp (by omega) ar,aC,xp (by omega) aK,aC,dq (by omega),a_,qS (by omega) (by omega),aC,dq (by rw [alY];omega),a_,
    kP (by simp only [alY];omega),aC]
   refine(aiu hn _ aj l i j (by omega) ae _ (by simp only [alY];omega)).trans ?_
   simp only [List.append_assoc])
  (λm acc ha=>by
   simp only [tm,DK,alW,alX,Nat.lt_irrefl,alP,alR,J6,ck hi])
 have:=key n 0 acc (by omega) (by omega) (by rw [List.drop_zero];exact ci)
 rw [List.drop_zero]at this;exact this
theorem aix{l:List bI}(ay:rz n l=some true)(af:l.length≤32)(h:∀s∈l,r9 s)(ci:(cP iE l).length≤1000000):zh n l=some (cP iE l):=by
 unfold cP at ci ⊢;simp only [alY]at ci
 have key:=jO (l:=l) (E:=iE) (B:=2000000) (L:=λm acc i=>vQ n l m (gq acc) (i:Int)) (fin:=λacc=>some acc)
  (λm i acc hi hb=>by
   have ae:=jP h hi;obtain⟨⟨c1,c2⟩,⟨d1,d2⟩,bc,b2,cU⟩:=ae;have cN:iS (l.getD i default).Client:=⟨by omega,by omega⟩
   have aj:iS (l.getD i default).Next:=⟨by omega,by omega⟩
   have gb:=jv cN;have h8:=jv aj;have hk:=Bp ⟨d1,d2⟩;have ak:(l.getD i default).bG.length≤1000:=by rw [List.length_map]at b2;omega
   have ax:∀r∈(l.getD i default).bG,mD r.Outcome:=λr ak=>cU _ (List.mem_map_of_mem ak)
   unfold iE at hb ⊢;rw [GF]at hb ⊢;simp only [alY]at hb;simp only [vQ,DM,alW,hi,b6 hi,alX,alO,alQ,a_];rw [xp (by omega) cN,aC,xp (by omega) aj,aC,dq (by omega),a_,kP (by simp only [alY];omega),aC]
   refine(aiv hn _ l i (by omega) ak ax _ (by simp only [alY];omega)).trans ?_
   simp only [List.append_assoc])
  (λm acc ha=>by
   simp only [vQ,DM,alX,Nat.lt_irrefl,alP,alR,J5];rw [OV (by omega),aC])
 unfold zh;rw [ay,aC,alS,alR,qS (by omega) (by omega),aC,Ox,kP (by simp;omega),aC]
 have:=key n 0 (eH l.length) (by omega) (by omega) (by rw [List.drop_zero];omega)
 rw [List.drop_zero]at this;exact this
end
def aiy{n:Nat}(hn:10≤n){z:Int}(h:iS z):gV n z=some (iC z):=by
 obtain⟨Z,ae⟩:=h;have e:z=((z.toNat:Nat):Int):=by omega
 have:=rX (n:=n) (u:=z.toNat) hn (by omega)
 rw [←e]at this;exact this
def aiz{n:Nat}(b:Bool):Je n b=some (r1 b):=by cases b<;>rfl
def Bu(b:Bool):(r1 b).length=1:=by cases b<;>rfl
section
variable {n:Nat} (hn:2000≤n)
include hn
theorem aiA{r:Request}(h:o2 r)(acc:al5)(ci:acc.length+(r1 r.dO++l2 r.dO (r.bi.Reads,r.bi.b_)).length≤2000000)(ki:(l2 r.dO (r.bi.Reads,r.bi.b_)).length≤1000000):
 yU n r acc=some (acc++(r1 r.dO++l2 r.dO (r.bi.Reads,r.bi.b_))):=by
 have bc:=h.2.2.2.2.1;rw [alY]at ci;unfold yU;rw [aiz,aC,dq (by omega),a_]
 cases hd:r.dO
 ·simp only [alR,yT,l2,al4,Bool.false_eq_true,List.append_nil]
 ·rw [hd]at bc ci ki;obtain⟨⟨aY,a2⟩,cS,hz⟩:=bc;simp only at aY a2 cS hz
  simp only [l2,al3,alY]at ci ki;rw [alQ,Yb hn aY a2 (by omega),aC,Yb hn cS hz (by omega),aC]
  simp (disch:=omega) only [List.length_append,dq,a_,yT,l2,if_true,List.append_assoc]
theorem aiB{r:Request}(ay:oy n r=some 0)(h:o2 r)(ci:(gA r).length≤1000000):C5 n r=some (gA r):=by
 obtain⟨c1,c2,c3,⟨c4,c5⟩,kn,jQ⟩:=id h;have gb:=jv c1;have h8:=jv c2;unfold gA cP at ci ⊢;simp only [alY]at ci
 have key:=jO (l:=r.au) (E:=bR) (B:=900000) (L:=λm acc i=>vx n r m acc (i:Int)) (fin:=λacc=>yU n r acc)
  (λm i acc hi hb=>by
   have ae:=jP c5 hi;have ar:=nh ae;simp only [vx,C4,hi,b6 hi,alW,alX,alO,alQ,a_,ck (show i≤4611686018427387904 by omega)]
   rw [OH (by omega) ae.2 (by omega),aC,dq (by omega),a_])
  (λm acc ha=>by simp only [vx,C4,alX,Nat.lt_irrefl,alP,alR])
 unfold C5;rw [ay,aC];simp only [alO,alS,alR];have t1:=xh (s:=r.be) (by omega)
 have Bv:=iR (u:=r.au.length) (by omega)
 have v1:(gi bR r.au).length≤1000:=by
  have:∀l:List bw,(∀v∈l,r2 v)→(gi bR l).length≤100*l.length:=by
   intro l;induction l with
   |nil=>intro _;simp [gi]
   |cons v l a7=>
    intro bx;have g:=bx v (by simp)
    have g2:=OJ g.2 (by have:=nh g;omega)
    have g3:=nh g;have g4:=a7 λw hw=>bx w (by simp [hw])
    rw [uu,alY,alU];omega
  have:=this r.au c5
  omega
 rw [xp (by omega) c1,aC,xp (by omega) c2,aC,dq (by omega),a_,rZ (by omega) (by omega),aC,dq (by simp only [alY];omega),a_,
  qS (by omega) (by omega),aC,dq (by simp only [alY];omega),a_]
 have:=key n 0 (((iC r.Client++iC r.Seq)++gh r.be)++eH r.au.length) (by omega) (by omega) (by rw [List.drop_zero];simp only [alY];omega)
 rw [List.drop_zero]at this;refine this.trans ?_;rw [aiA hn h _ (by simp only [alY,Bu];simp only [alY,Bu]at ci;omega) (by omega)]
 simp only [List.append_assoc]
theorem aiC{l:List Request}(af:l.length≤64)(h:∀r∈l,o2 r∧oy n r=some 0)(ci:(cP gA l).length≤900000):vz n l=some (cP gA l):=by
 unfold cP at ci ⊢;simp only [alY]at ci
 have key:=jO (l:=l) (E:=gA) (B:=1000000) (L:=λm acc i=>vy n l m (i:Int) acc) (fin:=λacc=>some acc)
  (λm i acc hi hb=>by
   obtain⟨Z,ae⟩:=jP h hi;simp only [vy,C6,hi,b6 hi,alW,alX,alO,alQ,a_,ck (show i≤4611686018427387904 by omega)]
   rw [ae,aC];simp only [alO,alS,alR];rw [aiB hn ae Z (by omega),aC,dq (by omega),a_])
  (λm acc ha=>by simp only [vy,C6,alX,Nat.lt_irrefl,alP,alR,Jf])
 unfold vz;simp only [e7,show¬ 64<l.length by omega,alP,alR]
 rw [qS (by omega) (by omega),aC]
 have:=key n 0 (eH l.length) (by omega) (by omega) (by rw [List.drop_zero];omega)
 rw [List.drop_zero]at this;exact this
theorem aiD{r:cb}(aB:vz n r.Queue=some (cP gA r.Queue))(hc:iS r.dj)(acc:al5)(ci:acc.length+(cP gA r.Queue).length≤3000000):
 zi n r (gq acc)=some (acc++(cP gA r.Queue++iC r.dj)):=by
 have:=jv hc
 unfold zi;rw [aB,aC,kP (by omega),aC,aiy (by omega) hc,aC,kP (by rw [alY];omega),aC,OV (by simp only [alY];omega),aC]
 simp only [List.append_assoc]
theorem aiE{r:cb}(Z:zh n r.cR=some (cP iE r.cR))(ae:yZ n r.Place=some (jN r.Place))(ar:r.bj.length≤32∧∀h∈r.bj,h.Key.length≤24∧eX h.Count)
 (aB:vz n r.Queue=some (cP gA r.Queue)) (hc:iS r.dj) (acc:al5) (ci:acc.length+(cP iE r.cR).length+(jN r.Place).length+(cP k2 r.bj).length+(cP gA r.Queue).length≤2000000):
 vT n r (gq acc)=some (acc++(cP iE r.cR++(jN r.Place++(cP k2 r.bj++(cP gA r.Queue++iC r.dj))))):=by
 obtain⟨ar,aK⟩:=ar;have Bv:=iR (u:=r.bj.length) (by omega)
 have ki:=ci;rw [show(cP k2 r.bj).length=(eH r.bj.length).length+(gi k2 r.bj).length by unfold cP;simp]at ki
 have key:=jO (l:=r.bj) (E:=k2) (B:=2000000) (L:=λm acc i=>vS n r m (gq acc) (i:Int)) (fin:=λacc=>zi n r (gq acc))
  (λm i acc hi hb=>by
   obtain⟨g1,g2⟩:=jP aK hi;unfold k2 at hb ⊢;rw [alY]at hb;simp only [vS,DP,hi,b6 hi,alW,alX,alO,alQ,a_,ck (show i≤4611686018427387904 by omega)]
   rw [rZ (by omega) (by omega),aC,kP (by omega),aC,ut (by omega) g2,aC,kP (by rw [alY];omega),aC,List.append_assoc])
  (λm acc ha=>by simp only [vS,DP,alX,Nat.lt_irrefl,alP,alR])
 unfold vT;rw [Z,aC,kP (by omega),aC,ae,aC,kP (by rw [alY];omega),aC,qS (by omega) (by omega),aC,kP (by simp only [alY];omega),aC]
 have:=key n 0 (((acc++cP iE r.cR)++jN r.Place)++eH r.bj.length) (by omega) (by omega) (by rw [List.drop_zero];simp only [alY];omega)
 rw [List.drop_zero]at this;refine this.trans ?_;rw [aiD hn aB hc _ (by simp only [alY];omega)]
 unfold cP;simp only [List.append_assoc]
end
section
variable {n:Nat} (hn:3000000≤n) (bz:n≤1000000000)
include hn bz
end
section
variable {n:Nat} (hn:3000000≤n) (bz:n≤1000000000) {s:al5} (hs:s.length≤2000)
include hn bz hs
end
def xq{n:Nat}(hn:10≤n){z:Int}(h:iS z):gW n (IntKind.u64.wrap z)=some (iC z):=by
 obtain⟨Z,ae⟩:=h;have e:IntKind.u64.wrap z=((z.toNat:Nat):Int):=by rw [IntKind.wrap_u64];omega
 rw [e];exact rY hn (by omega)
def qT{n:Nat}(hn:10≤n){k:Nat}(h:k<18446744073709551616):gW n (IntKind.u64.wrap (k:Int))=some (eH k):=by
 rw [uq h];exact rY hn h
def aiF{n:Nat}(hn:10≤n){z:Int}(h:iS z):gW n z=some (iC z):=by
 obtain⟨Z,ae⟩:=h;have e:z=((z.toNat:Nat):Int):=by omega
 have:=rY (n:=n) (u:=z.toNat) hn (by omega)
 rw [←e]at this;exact this
def aiG{n:Nat}(b:Bool):M3 n b=some (r1 b):=by cases b<;>rfl
section
variable {n:Nat} (hn:2000≤n)
include hn
theorem aiH{l:List bE}(af:l.length<n)(h:∀p∈l,Gz p)(ci:(cP jt l).length≤1000000):E7 n l=some (cP jt l):=by
 have hlen:l.length≤(gi jt l).length:=Gt λv _=>by unfold jt gh;simp [OL]
 unfold cP at ci ⊢;rw [alY]at ci
 have key:=jO (l:=l) (E:=jt) (B:=2000000) (L:=λm acc i=>wC n l m acc (i:Int)) (fin:=λacc=>some acc)
  (λm i acc hi hb=>by
   obtain⟨Z,ae⟩:=jP h hi;have ar:=nh ae;unfold jt at hb ⊢;rw [alY]at hb;simp only [wC,E6,hi,b6 hi,alW,alX,alO,alQ,a_,ck (show i≤4611686018427387904 by omega)]
   rw [r0 (by omega) (by omega),aC,dq (by omega),a_,OI (by omega) ae.2 (by omega),aC,dq (by rw [alY];omega),a_,List.append_assoc])
  (λm acc ha=>by simp only [wC,E6,alX,Nat.lt_irrefl,alP,alR,MV])
 unfold E7;rw [qT (by omega) (by omega),aC]
 exact key n 0 _ (by omega) (by omega) (by rw [List.drop_zero];omega)
theorem aiI{p:cd}(h0:eX p.Version)(af:p.aD.length≤16)(h:∀x∈p.aD,uz x)(ci:(jN p).length≤1000000):z_ n p=some (jN p):=by
 have ay:=nf h0;unfold jN cP at ci ⊢;simp only [alY]at ci
 have key:=jO (l:=p.aD) (E:=r8) (B:=2000000) (L:=λm acc i=>wE n p m acc (i:Int)) (fin:=λacc=>some acc)
  (λm i acc hi hb=>by
   obtain⟨Z,ae,ar,aK,bc⟩:=jP h hi;unfold r8 at hb ⊢;simp only [alY]at hb;simp only [wE,E',hi,b6 hi,alW,alX,alO,alQ,a_,ck (show i≤4611686018427387904 by omega)]
   rw [ur (by omega) Z,aC,r0 (by omega) (by omega),aC,ur (by omega) ar,aC,ur (by omega) aK,aC,r0 (by omega) (by omega),aC]
   simp (disch:=omega) only [List.length_append,dq,a_,List.append_assoc])
  (λm acc ha=>by simp only [wE,E',alX,Nat.lt_irrefl,alP,alR,M1])
 unfold z_;rw [ur (by omega) h0,aC,qT (by omega) (by omega),aC,dq (by omega),a_,←List.append_assoc]
 exact key n 0 _ (by omega) (by omega) (by simp only [alY,List.drop_zero];omega)
theorem Yc{l:qQ}(af:l.length≤64)(h:∀x∈l,x.length≤24)(ci:(cP gh l).length≤1000000):Aa n l=some (cP gh l):=by
 unfold cP at ci ⊢;simp only [alY]at ci
 have key:=jO (l:=l) (E:=gh) (B:=2000000) (L:=λm acc i=>wF n l m acc (i:Int)) (fin:=λacc=>some acc)
  (λm i acc hi hb=>by
   have Z:=jP h hi;simp only [wF,E_,hi,b6 hi,alW,alX,alO,alQ,a_,ck (show i≤4611686018427387904 by omega)]
   rw [r0 (by omega) (by omega),aC]
   simp (disch:=omega) only [dq,a_])
  (λm acc ha=>by simp only [wF,E_,alX,Nat.lt_irrefl,alP,alR,M4])
 unfold Aa;rw [qT (by omega) (by omega),aC]
 exact key n 0 _ (by omega) (by omega) (by rw [List.drop_zero];omega)
theorem aiJ{o:Outcome}(ax:mD o)(ci:(mC o).length≤1000000):Fe n o=some (mC o):=by
 obtain⟨ar,aK⟩:=OW ax;have bc:=ax.2.2.1;have gb:=jv ar;have h8:=jv aK;have aiw:=iR (u:=o.Out.length) (by omega)
 unfold mC cP at ci ⊢;simp only [alY]at ci
 have key:=jO (l:=o.Out) (E:=bR) (B:=2000000) (L:=λm acc i=>wJ n o m acc (i:Int)) (fin:=λacc=>some acc)
  (λm i acc hi hb=>by
   have ae:=jP ax.2.2.2 hi;have ar:=nh ae;simp only [wJ,Fd,hi,b6 hi,alW,alX,alO,alQ,a_,ck (show i≤4611686018427387904 by omega)]
   rw [OI (by omega) ae.2 (by omega),aC,dq (by omega),a_])
  (λm acc ha=>by simp only [wJ,Fd,alX,Nat.lt_irrefl,alP,alR,M6])
 unfold Fe;rw [xq (by omega) ar,aC,xq (by omega) aK,aC,dq (by omega),a_,qT (by omega) (by omega),aC,dq (by rw [alY];omega),a_]
 have:=key n 0 ((iC o.Status++iC o.Code)++eH o.Out.length) (by omega) (by omega) (by rw [List.drop_zero];simp only [alY];omega)
 rw [List.drop_zero]at this;refine this.trans ?_;simp only [List.append_assoc]
theorem aiK(aj:al5→Int→Option al5)(l:List bI)(i:Nat)(uU:i<l.length)(hi:i≤4611686018427387904)(af:(l.getD i default).bG.length≤1000)(ax:∀r∈(l.getD i default).bG,mD r.Outcome)(acc:al5)
 (ci:acc.length+(gi (λr:es=>mC r.Outcome) (l.getD i default).bG).length≤1000000):
 tQ n aj l (i:Int) n acc 0=aj (acc++gi (λr:es=>mC r.Outcome) (l.getD i default).bG) ((i+1:Nat):Int):=by
 have key:=jO (l:=(l.getD i default).bG) (E:=λr:es=>mC r.Outcome) (B:=1000000) (L:=λm acc j=>tQ n aj l (i:Int) m acc (j:Int)) (fin:=λacc=>aj acc ((i+1:Nat):Int))
  (λm j acc hj hb=>by
   have ae:=jP (P:=λr:es=>mD r.Outcome) ax hj
   simp only [tQ,Fg,alW,hj,b6 hj,b6 uU,alX,alO,alQ,a_,ck (show j≤4611686018427387904 by omega)]
   rw [aiJ hn ae (by omega),aC,dq (by omega),a_])
  (λm acc ha=>by
   simp only [tQ,Fg,alW,b6 uU,a_,alX,Nat.lt_irrefl,alP,alR,M8,ck hi])
 have:=key n 0 acc (by omega) (by omega) (by rw [List.drop_zero];exact ci)
 rw [List.drop_zero]at this;exact this
theorem aiL{l:List bI}(ay:tK n l=some true)(af:l.length≤32)(h:∀s∈l,r9 s)(ci:(cP iE l).length≤900000):Ae n l=some (cP iE l):=by
 unfold cP at ci ⊢;simp only [alY]at ci
 have key:=jO (l:=l) (E:=iE) (B:=1000000) (L:=λm acc i=>wK n l m acc (i:Int)) (fin:=λacc=>some acc)
  (λm i acc hi hb=>by
   have ae:=jP h hi;obtain⟨⟨c1,c2⟩,⟨d1,d2⟩,bc,b2,cU⟩:=ae;have cN:iS (l.getD i default).Client:=⟨by omega,by omega⟩
   have aj:iS (l.getD i default).Next:=⟨by omega,by omega⟩
   have gb:=jv cN;have h8:=jv aj;have hk:=Bp ⟨d1,d2⟩;have ak:(l.getD i default).bG.length≤1000:=by rw [List.length_map]at b2;omega
   have ax:∀r∈(l.getD i default).bG,mD r.Outcome:=λr ak=>cU _ (List.mem_map_of_mem ak)
   unfold iE at hb ⊢;rw [GF]at hb ⊢;simp only [alY]at hb;simp only [wK,Fh,alW,hi,b6 hi,alX,alO,alQ,a_];rw [xq (by omega) cN,aC,dq (by omega),a_,xq (by omega) aj,aC,dq (by rw [alY];omega),a_]
   refine(aiK hn _ l i hi (by omega) ak ax _ (by simp only [alY];omega)).trans ?_
   simp only [List.append_assoc])
  (λm acc ha=>by simp only [wK,Fh,alX,Nat.lt_irrefl,alP,alR,M7])
 unfold Ae;rw [ay,aC,alS,alR,qT (by omega) (by omega),aC]
 have:=key n 0 (eH l.length) (by omega) (by omega) (by rw [List.drop_zero];omega)
 rw [List.drop_zero]at this;exact this
end
section
variable {n:Nat} (hn:2000≤n)
include hn
theorem aiM{r:Request}(h:o2 r)(acc:al5)(ci:acc.length+(r1 r.dO++l2 r.dO (r.bi.Reads,r.bi.b_)).length≤2000000)(ki:(l2 r.dO (r.bi.Reads,r.bi.b_)).length≤1000000):
 Ad n r acc=some (acc++(r1 r.dO++l2 r.dO (r.bi.Reads,r.bi.b_))):=by
 have bc:=h.2.2.2.2.1;rw [alY]at ci;unfold Ad;rw [aiG,aC,dq (by omega),a_]
 cases hd:r.dO
 ·simp only [alR,Ac,l2,al4,Bool.false_eq_true,List.append_nil]
 ·rw [hd]at bc ci ki;obtain⟨⟨aY,a2⟩,cS,hz⟩:=bc;simp only at aY a2 cS hz
  simp only [l2,al3,alY]at ci ki;rw [alQ,Yc hn aY a2 (by omega),aC,dq (by rw [alY];omega),a_,Yc hn cS hz (by omega),aC]
  simp (disch:=omega) only [List.length_append,dq,a_,Ac,l2,if_true,List.append_assoc]
theorem aiN{r:Request}(ay:pK n r=some 0)(h:o2 r)(ci:(gA r).length≤1000000):Fb n r=some (gA r):=by
 obtain⟨c1,c2,c3,⟨c4,c5⟩,kn,jQ⟩:=id h;have gb:=jv c1;have h8:=jv c2;unfold gA cP at ci ⊢;simp only [alY]at ci
 have key:=jO (l:=r.au) (E:=bR) (B:=900000) (L:=λm acc i=>wG n r m acc (i:Int)) (fin:=λacc=>Ad n r acc)
  (λm i acc hi hb=>by
   have ae:=jP c5 hi;have ar:=nh ae;simp only [wG,Fa,hi,b6 hi,alW,alX,alO,alQ,a_,ck (show i≤4611686018427387904 by omega)]
   rw [OI (by omega) ae.2 (by omega),aC,dq (by omega),a_])
  (λm acc ha=>by simp only [wG,Fa,alX,Nat.lt_irrefl,alP,alR])
 unfold Fb;rw [ay,aC];simp only [alO,alS,alR];have t1:=xh (s:=r.be) (by omega)
 have Bv:=iR (u:=r.au.length) (by omega)
 have v1:(gi bR r.au).length≤1000:=by
  have:∀l:List bw,(∀v∈l,r2 v)→(gi bR l).length≤100*l.length:=by
   intro l;induction l with
   |nil=>intro _;simp [gi]
   |cons v l a7=>
    intro bx;have g:=bx v (by simp)
    have g2:=OJ g.2 (by have:=nh g;omega)
    have g3:=nh g;have g4:=a7 λw hw=>bx w (by simp [hw])
    rw [uu,alY,alU];omega
  have:=this r.au c5
  omega
 rw [xq (by omega) c1,aC,xq (by omega) c2,aC,dq (by omega),a_,r0 (by omega) (by omega),aC,dq (by simp only [alY];omega),a_,
  qT (by omega) (by omega),aC,dq (by simp only [alY];omega),a_]
 have:=key n 0 (((iC r.Client++iC r.Seq)++gh r.be)++eH r.au.length) (by omega) (by omega) (by rw [List.drop_zero];simp only [alY];omega)
 rw [List.drop_zero]at this;refine this.trans ?_;rw [aiM hn h _ (by simp only [alY,Bu];simp only [alY,Bu]at ci;omega) (by omega)]
 simp only [List.append_assoc]
theorem aiO{l:List Request}(af:l.length≤64)(h:∀r∈l,o2 r∧pK n r=some 0)(ci:(cP gA l).length≤900000):wI n l=some (cP gA l):=by
 unfold cP at ci ⊢;simp only [alY]at ci
 have key:=jO (l:=l) (E:=gA) (B:=1000000) (L:=λm acc i=>wH n l m acc (i:Int)) (fin:=λacc=>some acc)
  (λm i acc hi hb=>by
   obtain⟨Z,ae⟩:=jP h hi;simp only [wH,Fc,hi,b6 hi,alW,alX,alO,alQ,a_,ck (show i≤4611686018427387904 by omega)]
   rw [ae,aC];simp only [alO,alS,alR];rw [aiN hn ae Z (by omega),aC,dq (by omega),a_])
  (λm acc ha=>by simp only [wH,Fc,alX,Nat.lt_irrefl,alP,alR,M5])
 unfold wI;simp only [e7,show¬ 64<l.length by omega,alP,alR]
 rw [qT (by omega) (by omega),aC]
 have:=key n 0 (eH l.length) (by omega) (by omega) (by rw [List.drop_zero];omega)
 rw [List.drop_zero]at this;exact this
end
def k3(r:cb)(A:List bE):Bt:=(r.Pos,A,r.cf.map jf,r.cR,r.Place,r.bj,r.Queue,r.dj)
section
variable {n:Nat} (hn:2000≤n)
include hn
theorem aiP{r:cb}(aB:wI n r.Queue=some (cP gA r.Queue))(hc:iS r.dj)(acc:al5)(ci:acc.length+(cP gA r.Queue).length≤3000000):
 Af n r acc=some (acc++(cP gA r.Queue++iC r.dj)):=by
 have:=jv hc
 unfold Af;rw [aB,aC,dq (by omega),a_,aiF (by omega) hc,aC,dq (by rw [alY];omega),a_]
 simp only [List.append_assoc]
theorem aiQ{r:cb}(Z:Ae n r.cR=some (cP iE r.cR))(ae:z_ n r.Place=some (jN r.Place))(ar:r.bj.length≤32∧∀h∈r.bj,h.Key.length≤24∧eX h.Count)
 (aB:wI n r.Queue=some (cP gA r.Queue)) (hc:iS r.dj) (acc:al5) (ci:acc.length+(cP iE r.cR).length+(jN r.Place).length+(cP k2 r.bj).length+(cP gA r.Queue).length≤2000000):
 wM n r acc=some (acc++(cP iE r.cR++(jN r.Place++(cP k2 r.bj++(cP gA r.Queue++iC r.dj))))):=by
 obtain⟨ar,aK⟩:=ar;have Bv:=iR (u:=r.bj.length) (by omega)
 have ki:=ci;rw [show(cP k2 r.bj).length=(eH r.bj.length).length+(gi k2 r.bj).length by unfold cP;simp]at ki
 have key:=jO (l:=r.bj) (E:=k2) (B:=2000000) (L:=λm acc i=>wL n r m acc (i:Int)) (fin:=λacc=>Af n r acc)
  (λm i acc hi hb=>by
   obtain⟨g1,g2⟩:=jP aK hi;unfold k2 at hb ⊢;rw [alY]at hb;simp only [wL,Fj,hi,b6 hi,alW,alX,alO,alQ,a_,ck (show i≤4611686018427387904 by omega)]
   rw [r0 (by omega) (by omega),aC,ur (by omega) g2,aC,dq (by omega),a_,dq (by rw [alY];omega),a_])
  (λm acc ha=>by simp only [wL,Fj,alX,Nat.lt_irrefl,alP,alR])
 unfold wM;rw [Z,aC,ae,aC,dq (by omega),a_,qT (by omega) (by omega),aC,dq (by rw [alY];omega),a_,dq (by simp only [alY];omega),a_]
 have:=key n 0 (acc++((cP iE r.cR++jN r.Place)++eH r.bj.length)) (by omega) (by omega) (by rw [List.drop_zero];simp only [alY];omega)
 rw [List.drop_zero]at this;refine this.trans ?_;rw [aiP hn aB hc _ (by simp only [alY];omega)]
 unfold cP;simp only [List.append_assoc]
end
section
variable {n:Nat} (hn:3000000≤n) (bz:n≤1000000000) {r:cb} {A:List bE} (hp:xo (k3 r A)) (hs:(ju (k3 r A)).length≤800000) (hg:∀q∈r.cf,nW q) (nq:r.cf.length≤1000)
include hn bz hp hs hg nq
theorem aiR(OX:z' n r.aG r.Pos=some (A,0))(OY:tK n r.cR=some true)(OZ:∀q∈r.Queue,pK n q=some 0):Ag n r=some (ju (k3 r A)):=by
 have aiS:A.length≤(ju (k3 r A)).length:=X' hp;have pu:=hs;unfold ju k3 at hs;simp only [alY]at hs;have O0:=aiL (n:=n) (by omega) OY hp.nX.1.1 hp.nX.1.2 (by show(cP iE r.cR).length≤_;omega)
 have O1:=aiI (n:=n) (by omega) hp.qR.1.1 hp.qR.1.2.1 hp.qR.1.2.2 (by show(jN r.Place).length≤_;omega)
 have O2:=aiO (n:=n) (by omega) hp.o3.1 (λq aB=>⟨(hp.o3.2 q aB).1,OZ q aB⟩) (by show(cP gA r.Queue).length≤_;omega)
 have bb:=aiH (n:=n) (l:=A) (by omega) (by omega) hp.p3.1.2 (by omega)
 have B7:eX r.Pos:=hp.pos;have i1:(lX r.Pos).length≤10:=nf hp.pos;have Bv:=iR (u:=r.cf.length) (by omega)
 have ky:cP gh (r.cf.map jf)=eH r.cf.length++gi (λq=>gh (jf q)) r.cf:=by
  unfold cP;rw [GF,List.length_map]
 rw [ky]at hs;simp only [alY]at hs
 have j:∀B:al5,B.length≤1000000→wM n r B=some (B++(cP iE r.cR++(jN r.Place++(cP k2 r.bj++(cP gA r.Queue++iC r.dj))))):=λB ci=>
  aiQ (by omega) O0 O1 hp.bS O2 hp.OU B (by omega)
 have key:=jO (l:=r.cf) (E:=λq=>gh (jf q)) (B:=1000000) (L:=λm acc i=>wN n r m acc (i:Int)) (fin:=λacc=>wM n r acc)
  (λm i acc hi hb=>by
   have g:=jP hg hi;have g2:=X6 g;simp only [wN,Fk,hi,b6 hi,alW,alX,alO,alQ,a_,ck (show i≤4611686018427387904 by omega)]
   rw [X5 g hn,aC,r0 (by omega) (by omega),aC,dq (by omega),a_])
  (λm acc ha=>by simp only [wN,Fk,alX,Nat.lt_irrefl,alP,alR])
 unfold Ag;rw [OX,aC,ur (by omega) B7,aC,bb,aC,dq (by omega),a_,qT (by omega) (by omega),aC,dq (by simp only [alY];omega),a_]
 have:=key n 0 ((lX r.Pos++cP jt A)++eH r.cf.length) (by omega) (by omega) (by rw [List.drop_zero];simp only [alY];omega)
 rw [List.drop_zero]at this;refine this.trans ?_;rw [j _ (by simp only [alY];omega)]
 unfold ju k3;simp only
 rw [ky];simp only [List.append_assoc]
end
section
variable {n:Nat} (hn:3000000≤n) (bz:n≤1000000000) {r:cb} {A:List bE} (hp:xo (k3 r A)) (hs:(ju (k3 r A)).length≤800000) (hg:∀q∈r.cf,nW q) (nq:r.cf.length≤1000)
include hn bz hp hs hg nq
theorem aiT(OX:yY n r.aG r.Pos=some (A,0))(OY:rz n r.cR=some true)(OZ:∀q∈r.Queue,oy n q=some 0):tp n r=some (ju (k3 r A)):=by
 have aiS:A.length≤(ju (k3 r A)).length:=X' hp;have pu:=hs;unfold ju k3 at hs;simp only [alY]at hs;have O0:=aix (n:=n) (by omega) OY hp.nX.1.1 hp.nX.1.2 (by show(cP iE r.cR).length≤_;omega)
 have O1:=ait (n:=n) (by omega) hp.qR.1.1 hp.qR.1.2.1 hp.qR.1.2.2 (by show(jN r.Place).length≤_;omega)
 have O2:=aiC (n:=n) (by omega) hp.o3.1 (λq aB=>⟨(hp.o3.2 q aB).1,OZ q aB⟩) (by show(cP gA r.Queue).length≤_;omega)
 have bb:=ais (n:=n) (l:=A) (by omega) (by omega) hp.p3.1.2 (by omega)
 have B7:eX r.Pos:=hp.pos;have i1:(lX r.Pos).length≤10:=nf hp.pos;have Bv:=iR (u:=r.cf.length) (by omega)
 have ky:cP gh (r.cf.map jf)=eH r.cf.length++gi (λq=>gh (jf q)) r.cf:=by
  unfold cP;rw [GF,List.length_map]
 rw [ky]at hs;simp only [alY]at hs
 have j:∀B:al5,B.length≤1000000→vT n r (gq B)=some (B++(cP iE r.cR++(jN r.Place++(cP k2 r.bj++(cP gA r.Queue++iC r.dj))))):=λB ci=>
  aiE (by omega) O0 O1 hp.bS O2 hp.OU B (by omega)
 have key:=jO (l:=r.cf) (E:=λq=>gh (jf q)) (B:=1000000) (L:=λm acc i=>vU n r m (gq acc) (i:Int)) (fin:=λacc=>vT n r (gq acc))
  (λm i acc hi hb=>by
   have g:=jP hg hi;have g2:=X6 g;simp only [vU,DQ,hi,b6 hi,alW,alX,alO,alQ,a_,ck (show i≤4611686018427387904 by omega)]
   rw [X4 g hn,aC,rZ (by omega) (by omega),aC,kP (by omega),aC])
  (λm acc ha=>by simp only [vU,DQ,alX,Nat.lt_irrefl,alP,alR])
 unfold tp;rw [OX,aC,ut (by omega) B7,aC,Ox,kP (by simp;omega),aC,bb,aC,kP (by simp;omega),aC,qS (by omega) (by omega),aC,kP (by simp only [alY,alV];omega),aC]
 have:=key n 0 ((([]++lX r.Pos)++cP jt A)++eH r.cf.length) (by omega) (by omega) (by rw [List.drop_zero];simp only [alY,alV];omega)
 rw [List.drop_zero]at this;refine this.trans ?_;rw [j _ (by simp only [alY,alV];omega)]
 unfold ju k3;simp only
 rw [ky];simp only [List.append_assoc,List.nil_append]
end
def uB(r:Row):Bool:=(decide (r.bl.length≤12)&&decide (r.Key.length≤200))&&allI r.bl.length λk=>decide ((r.bl.getD k default).b7.S.length≤200)
def aiU{n:Nat}(hn:2000≤n)(s:aG):Fr n s 12=some (decide (s.Rows.length≤12)&&allI s.Rows.length λi=>uB (s.Rows.getD i default)):=by
 unfold Fr;by_cases h:s.Rows.length≤12
 ·simp only [e7,show¬ 12<s.Rows.length by omega,alP,alR,h,alO,Bool.true_and]
  refine(iD (L:=rI n s) (len:=s.Rows.length) (chk:=λi=>uB (s.Rows.getD i default)) (no:=false) (yes:=true) (m:=n) (by omega) ?_ ?_).trans (by cases allI s.Rows.length (λi=>uB (s.Rows.getD i default))<;>rfl)
  ·intro m i hi;simp only [rI,Fq,hi,b6 hi,alW,alX,e7,alO,alQ,a_,al2,eg];unfold uB;by_cases Z:(s.Rows.getD i default).bl.length≤12
   ·by_cases ae:(s.Rows.getD i default).Key.length≤200
    ·simp only [show¬ 12<(s.Rows.getD i default).bl.length by omega,show¬ 200<(s.Rows.getD i default).Key.length by omega,Z,ae,hi,b6 hi,alP,alO,Bool.or_false,Bool.false_or,alQ,alR,Bool.true_and,a_]
     refine XQ (L:=wQ n (rI n s m) (i:Int) s) (len:=(s.Rows.getD i default).bl.length) (chk:=λk=>decide (((s.Rows.getD i default).bl.getD k default).b7.S.length≤200)) (no:=false) (yes:=rI n s m ((i+1:Nat):Int)) (m:=n) (by omega) ?_ ?_
     ·intro m2 k hk;simp only [wQ,Fp,hi,hk,b6 hi,b6 hk,alW,alX,e7,alO,alQ,a_,ck (show k≤4611686018427387904 by omega)]
      by_cases ar:((s.Rows.getD i default).bl.getD k default).b7.S.length≤200
      ·simp only [show¬ 200<((s.Rows.getD i default).bl.getD k default).b7.S.length by omega,ar,alP,alO,alR,al3]
      ·simp only [show 200<((s.Rows.getD i default).bl.getD k default).b7.S.length by omega,ar,alO,alP,alQ,al4,Bool.false_eq_true]
     ·intro m2;simp only [wQ,Fp,Nf,b6 hi,alW,a_,alX,Nat.lt_irrefl,alP,alR,ck (show i≤4611686018427387904 by omega)]
    ·simp only [show 200<(s.Rows.getD i default).Key.length by omega,ae,hi,b6 hi,a_,alO,alP,al2,alQ,Bool.and_false,Bool.false_and,al4,Bool.false_eq_true]
   ·simp only [show 12<(s.Rows.getD i default).bl.length by omega,Z,hi,b6 hi,a_,alO,alP,Bool.true_or,alQ,Bool.false_and,al4,Bool.false_eq_true]
  ·intro m;simp only [rI,Fq,Nd,alX,Nat.lt_irrefl,alP,alR]
 ·simp only [e7,show 12<s.Rows.length by omega,h,alO,alP,alQ,Bool.false_and]
def aiV{L:Nat→Int→al9}{len:Nat}{Q:Nat→Prop}{fin:al9}
 (step:∀m i,i<len→L (m+1) (i:Int)=some false∨(Q i∧L (m+1) (i:Int)=L m ((i+1:Nat):Int))) (stop:∀m,L (m+1) (len:Int)=fin):
 ∀m i,len<m+i→i≤len→L m (i:Int)=some false∨((∀k,i≤k→k<len→Q k)∧L m (i:Int)=fin):=by
 intro m;induction m with
 |zero=>intro i Z ae;omega
 |succ m a7=>
  intro i Z ae;by_cases hi:i<len
  ·rcases step m i hi with h|⟨aB,h⟩
   ·exact Or.inl h
   ·rcases a7 (i+1) (by omega) (by omega)with ar|⟨ar,aK⟩
    ·exact Or.inl (h.trans ar)
    ·refine Or.inr ⟨λk hk nz=>?_,h.trans aK⟩
     by_cases e:k=i
     ·subst e;exact aB
     ·exact ar k (by omega) nz
  ·obtain rfl:i=len:=by omega
   exact Or.inr ⟨λk hk nz=>by omega,stop m⟩
def p4{L:Nat→Int→al9}{len m:Nat}{Q:Nat→Prop}{fin:al9}(hm:len<m)
 (step:∀m i,i<len→L (m+1) (i:Int)=some false∨(Q i∧L (m+1) (i:Int)=L m ((i+1:Nat):Int))) (stop:∀m,L (m+1) (len:Int)=fin):
 L m 0=some false∨((∀k,k<len→Q k)∧L m 0=fin):=by
 rcases aiV step stop m 0 (by omega) (by omega)with h|⟨Z,ae⟩
 ·exact Or.inl h
 ·exact Or.inr ⟨λk hk=>Z k (by omega) hk,ae⟩
structure Yd(f:eP):Prop where
 r:f.Reads.length≤100
 w:f.b_.length≤100
 rs:∀i,i<f.Reads.length→(f.Reads.getD i default).length≤100
 ws:∀i,i<f.b_.length→(f.b_.getD i default).length≤100
def aiW{n:Nat}(hn:2000≤n)(f:eP):tS n f 100=some false∨(Yd f∧tS n f 100=some true):=by
 unfold tS;simp only [e7,eg];by_cases Z:f.Reads.length≤100
 ·by_cases ae:f.b_.length≤100
  ·simp only [show¬ 100<f.Reads.length by omega,show¬ 100<f.b_.length by omega,alP,Bool.or_false,alR]
   have hw:=p4 (L:=tR n f) (len:=f.b_.length) (m:=n) (Q:=λi=>(f.b_.getD i default).length≤100) (fin:=some true) (by omega)
    (λm i hi=>by
     simp only [tR,Fs,hi,b6 hi,alW,alX,e7,alO,alQ,a_,ck (show i≤4611686018427387904 by omega)]
     by_cases h:(f.b_.getD i default).length≤100
     ·right;simp only [show¬ 100<(f.b_.getD i default).length by omega,alP,alR,h,true_and]
     ·left;simp only [show 100<(f.b_.getD i default).length by omega,alO,alQ])
    (λm=>by simp only [tR,Fs,Ng,alX,Nat.lt_irrefl,alP,alR])
   have ak:=p4 (L:=wR n f) (len:=f.Reads.length) (m:=n) (Q:=λi=>(f.Reads.getD i default).length≤100) (fin:=tR n f n 0) (by omega)
    (λm i hi=>by
     simp only [wR,Ft,hi,b6 hi,alW,alX,e7,alO,alQ,a_,ck (show i≤4611686018427387904 by omega)]
     by_cases h:(f.Reads.getD i default).length≤100
     ·right;simp only [show¬ 100<(f.Reads.getD i default).length by omega,alP,alR,h,true_and]
     ·left;simp only [show 100<(f.Reads.getD i default).length by omega,alO,alQ])
    (λm=>by simp only [wR,Ft,Nh,alX,Nat.lt_irrefl,alP,alR])
   rcases ak with ak|⟨ik,iG⟩
   ·exact Or.inl ak
   ·rw [iG];rcases hw with hw|⟨vh,yu⟩
    ·exact Or.inl hw
    ·exact Or.inr ⟨⟨Z,ae,ik,vh⟩,yu⟩
  ·left;simp only [show 100<f.b_.length by omega,alO,al2,alQ]
 ·left;simp only [show 100<f.Reads.length by omega,alO,Bool.true_or,alQ]
structure O3(r:Request):Prop where
 p:r.be.length≤300
 a:r.au.length≤40
 vs:∀i,i<r.au.length→(r.au.getD i default).S.length≤300
 f:Yd r.bi
def aiX{n:Nat}(hn:2000≤n)(r:Request):Ak n r=some false∨(O3 r∧Ak n r=some true):=by
 unfold Ak;simp only [e7,eg];by_cases Z:r.be.length≤300
 ·by_cases ae:r.au.length≤40
  ·simp only [show¬ 300<r.be.length by omega,show¬ 40<r.au.length by omega,alP,Bool.or_false,Bool.false_or,alT,alQ]
   rcases aiW hn r.bi with h|⟨ar,h⟩
   ·left;rw [show tS n _ 100=some false from h];rfl
   ·rw [show tS n (⟨r.bi.dI,r.bi.Reads,r.bi.b_⟩:eP) 100=some true from h,aC]
    simp only [alS,alR]
    rcases p4 (L:=wS n r) (len:=r.au.length) (m:=n) (Q:=λi=>(r.au.getD i default).S.length≤300) (fin:=some true) (by omega)
     (λm i hi=>by
      simp only [wS,Fu,hi,b6 hi,alW,alX,e7,alO,alQ,a_,ck (show i≤4611686018427387904 by omega)]
      by_cases h:(r.au.getD i default).S.length≤300
      ·right;simp only [show¬ 300<(r.au.getD i default).S.length by omega,alP,alR,h,true_and]
      ·left;simp only [show 300<(r.au.getD i default).S.length by omega,alO,alQ])
     (λm=>by simp only [wS,Fu,Ni,alX,Nat.lt_irrefl,alP,alR])with aK|⟨aK,bc⟩
    ·exact Or.inl aK
    ·exact Or.inr ⟨⟨Z,ae,aK,ar⟩,bc⟩
  ·left;simp only [show 40<r.au.length by omega,alO,al2,Bool.true_or,alS,alR,aC,alQ]
 ·left;simp only [show 300<r.be.length by omega,alO,Bool.true_or,alS,alR,aC,alQ]
structure Ye(p:cd)(h:List bj):Prop where
 pl:p.aD.length≤20
 af:h.length≤40
 cy:∀i,i<p.aD.length→(p.aD.getD i default).dS.length≤200∧(p.aD.getD i default).gd.length≤200
 hs:∀i,i<h.length→(h.getD i default).Key.length≤200
def aiY{n:Nat}(hn:2000≤n)(p:cd)(h:List bj):Al n p h=some false∨(Ye p h∧Al n p h=some true):=by
 unfold Al
 have bx:=p4 (L:=tT n h p) (len:=min h.length 41) (m:=n) (Q:=λi=>(h.getD i default).Key.length≤200) (fin:=Fv n h p) (by omega)
  (λm i hi=>by
   have o4:i<h.length:=by omega
   have q4:(i:Int)<41:=by omega
   simp only [tT,Fw,o4,q4,b6 o4,alW,alX,e7,alO,alQ,a_,ck (show i≤4611686018427387904 by omega)]
   by_cases g:(h.getD i default).Key.length≤200
   ·right;simp only [show¬ 200<(h.getD i default).Key.length by omega,alP,alR,g,true_and]
   ·left;simp only [show 200<(h.getD i default).Key.length by omega,alO,alQ])
  (λm=>by
   simp only [tT,Fw];by_cases e:h.length≤40
   ·rw [Nat.min_eq_left (by omega)];simp only [alX,Nat.lt_irrefl,alP,alR]
   ·rw [Nat.min_eq_right (by omega)]
    cases decide (((41:Nat):Int)<((h.length:Nat):Int))<;>rfl)
 have hp:=p4 (L:=wT n h p) (len:=min p.aD.length 21) (m:=n) (Q:=λi=>(p.aD.getD i default).dS.length≤200∧(p.aD.getD i default).gd.length≤200) (fin:=tT n h p n 0) (by omega)
  (λm i hi=>by
   have o4:i<p.aD.length:=by omega
   have q4:(i:Int)<21:=by omega
   simp only [wT,Fx,o4,q4,b6 o4,alW,alX,e7,alO,alQ,eg,al2,a_,ck (show i≤4611686018427387904 by omega)]
   by_cases Z:(p.aD.getD i default).dS.length≤200
   ·by_cases ae:(p.aD.getD i default).gd.length≤200
    ·right;simp only [show¬ 200<(p.aD.getD i default).dS.length by omega,show¬ 200<(p.aD.getD i default).gd.length by omega,alP,Bool.or_false,alR,Z,ae,true_and,and_self]
    ·left;simp only [show 200<(p.aD.getD i default).gd.length by omega,alO,al2,alQ]
   ·left;simp only [show 200<(p.aD.getD i default).dS.length by omega,alO,Bool.true_or,alQ])
  (λm=>by
   simp only [wT,Fx,Nj];by_cases e:p.aD.length≤20
   ·rw [Nat.min_eq_left (by omega)];simp only [alX,Nat.lt_irrefl,alP,alR]
   ·rw [Nat.min_eq_right (by omega)]
    cases decide (((21:Nat):Int)<((p.aD.length:Nat):Int))<;>rfl)
 rcases hp with hp|⟨H8,u'⟩
 ·exact Or.inl hp
 ·rw [u'];rcases bx with bx|⟨aiZ,BT⟩
  ·exact Or.inl bx
  ·rw [BT];unfold Fv;by_cases a:p.aD.length≤20
   ·by_cases b:h.length≤40
    ·right
     refine⟨⟨a,b,λi hi=>H8 i (by omega),λi hi=>aiZ i (by omega)⟩,?_⟩
     simp only [jb,a,b,alO,alQ]
    ·left;simp only [jb,a,b,alO,alP,alQ]
   ·left;simp only [jb,a,alP,alR]
structure Yf(o:Outcome):Prop where
 l:o.Out.length≤20
 vs:∀i,i<o.Out.length→(o.Out.getD i default).S.length≤200
structure O4(s:bI):Prop where
 l:s.bG.length≤12
 os:∀i,i<s.bG.length→Yf (s.bG.getD i default).Outcome
def ai0{n:Nat}(hn:2000≤n)(l:List bI):Am n l=some false∨((l.length≤6∧∀i,i<l.length→O4 (l.getD i default))∧Am n l=some true):=by
 unfold Am
 rcases p4 (L:=oJ n l) (len:=min l.length 7) (m:=n) (Q:=λi=>O4 (l.getD i default)) (fin:=Fy n l) (by omega)
  (λm i hi=>by
   have o4:i<l.length:=by omega
   have q4:(i:Int)<7:=by omega
   simp only [oJ,FB,o4,q4,b6 o4,alW,alX,e7,alO,alQ,a_];by_cases Z:(l.getD i default).bG.length≤12
   ·simp only [show¬ 12<(l.getD i default).bG.length by omega,alP,alR]
    rcases p4 (L:=rJ n (oJ n l m) l (i:Int)) (len:=(l.getD i default).bG.length) (m:=n) (Q:=λj=>Yf ((l.getD i default).bG.getD j default).Outcome) (fin:=oJ n l m ((i+1:Nat):Int)) (by omega)
     (λm2 j hj=>by
      simp only [rJ,FA,o4,hj,b6 o4,b6 hj,alW,alX,e7,alO,alQ,a_];by_cases ae:((l.getD i default).bG.getD j default).Outcome.Out.length≤20
      ·simp only [show¬ 20<((l.getD i default).bG.getD j default).Outcome.Out.length by omega,alP,alR]
       rcases p4 (L:=wU n (rJ n (oJ n l m) l (i:Int) m2) (oJ n l m) l (i:Int) (j:Int)) (len:=((l.getD i default).bG.getD j default).Outcome.Out.length) (m:=n) (Q:=λk=>(((l.getD i default).bG.getD j default).Outcome.Out.getD k default).S.length≤200) (fin:=rJ n (oJ n l m) l (i:Int) m2 ((j+1:Nat):Int)) (by omega)
        (λm3 k hk=>by
         simp only [wU,Fz,hk,b6 hk,alW,alX,e7,alO,alQ,a_,ck (show k≤4611686018427387904 by omega)]
         by_cases ar:(((l.getD i default).bG.getD j default).Outcome.Out.getD k default).S.length≤200
         ·right;simp only [show¬ 200<(((l.getD i default).bG.getD j default).Outcome.Out.getD k default).S.length by omega,alP,alR,ar,true_and]
         ·left;simp only [show 200<(((l.getD i default).bG.getD j default).Outcome.Out.getD k default).S.length by omega,alO,alQ])
        (λm3=>by simp only [wU,Fz,Nl,alW,alX,Nat.lt_irrefl,alP,alR,ck (show j≤4611686018427387904 by omega)])with h|⟨h,g⟩
       ·exact Or.inl h
       ·exact Or.inr ⟨⟨ae,h⟩,g⟩
      ·left;simp only [show 20<((l.getD i default).bG.getD j default).Outcome.Out.length by omega,alO,alQ])
     (λm2=>by simp only [rJ,FA,Nk,b6 o4,a_,alW,alX,Nat.lt_irrefl,alP,alR,ck (show i≤4611686018427387904 by omega)])with h|⟨h,g⟩
    ·exact Or.inl h
    ·exact Or.inr ⟨⟨Z,h⟩,g⟩
   ·left;simp only [show 12<(l.getD i default).bG.length by omega,alO,alQ])
  (λm=>by
   simp only [oJ,FB];by_cases e:l.length≤6
   ·rw [Nat.min_eq_left (by omega)];simp only [alX,Nat.lt_irrefl,alP,alR]
   ·rw [Nat.min_eq_right (by omega)]
    cases decide (((7:Nat):Int)<((l.length:Nat):Int))<;>rfl)with h|⟨h,g⟩
 ·exact Or.inl h
 ·rw [g];unfold Fy;by_cases a:l.length≤6
  ·right;exact⟨⟨a,λi hi=>h i (by omega)⟩,by simp only [jb,a,alO]⟩
  ·left;simp only [jb,a,alP]
structure GG(r:cb):Prop where
 GH:r.aG.Rows.length≤12
 rs:∀i,i<r.aG.Rows.length→uB (r.aG.Rows.getD i default)=true
 pl:r.cf.length≤4
 cy:∀i,i<r.cf.length→Gj (r.cf.getD i default) 60
 kl:r.cR.length≤6
 mX:∀i,i<r.cR.length→O4 (r.cR.getD i default)
 GI:Ye r.Place r.bj
 Yg:r.Queue.length≤6
 ai1:∀i,i<r.Queue.length→O3 (r.Queue.getD i default)
def ai2{n:Nat}(hn:2000≤n)(r:cb)(hp:∀i,i<r.cf.length→pV (r.cf.getD i default)):An n r=some false∨(GG r∧An n r=some true):=by
 unfold An;rw [aiU hn,aC];simp only [e7,eg];cases Z:decide (r.aG.Rows.length≤12)&&allI r.aG.Rows.length λi=>uB (r.aG.Rows.getD i default)
 ·left;simp only [alT,Bool.true_or,alS,alR,alQ,aC]
 ·by_cases ae:r.cf.length≤4
  ·by_cases ar:r.Queue.length≤6
   ·simp only [show¬ 4<r.cf.length by omega,show¬ 6<r.Queue.length by omega,alP,alS,Bool.or_false,Bool.false_or,alT,alQ]
    rcases ai0 hn r.cR with aK|⟨⟨aK,bc⟩,b2⟩
    ·left;rw [aK,aC];simp only [alT,Bool.true_or,alS,alR,alQ,aC]
    ·rw [b2,aC];simp only [alS,alT,alQ,Bool.false_or,Bool.or_false]
     (try rw [Br])
     rcases aiY hn r.Place r.bj with cU|⟨cU,dQ⟩
     ·left;rw [cU,aC];rfl
     ·rw [dQ,aC];simp only [alS,alR]
      rcases p4 (L:=wV n r) (len:=r.cf.length) (m:=n) (Q:=λi=>Gj (r.cf.getD i default) 60) (fin:=tU n r n 0) (by omega)
       (λm i hi=>by
        obtain⟨b,e1,e2⟩:=ahf (n:=n) (r.cf.getD i default) 60 (by omega) (by omega) (hp i hi)
        simp only [wV,FD,hi,b6 hi,alW,alX,alO,alQ,a_,ck (show i≤4611686018427387904 by omega)]
        rw [show Aj n (r.cf.getD i default) 60=some b from e1,aC]
        cases b
        ·left;rfl
        ·right;exact⟨e2 rfl,rfl⟩)
       (λm=>by simp only [wV,FD,No,alX,Nat.lt_irrefl,alP,alR])with f'|⟨f',g9⟩
      ·exact Or.inl f'
      ·rw [g9]
       rcases p4 (L:=tU n r) (len:=r.Queue.length) (m:=n) (Q:=λi=>O3 (r.Queue.getD i default)) (fin:=some true) (by omega)
        (λm i hi=>by
         simp only [tU,FC,hi,b6 hi,alW,alX,alO,alQ,a_,ck (show i≤4611686018427387904 by omega)]
         rcases aiX hn (r.Queue.getD i default)with h|⟨h,g⟩
         ·left;rw [h];rfl
         ·right;rw [g];exact⟨h,rfl⟩)
        (λm=>by simp only [tU,FC,Nn,alX,Nat.lt_irrefl,alP,alR])with kC|⟨kC,g10⟩
       ·exact Or.inl kC
       ·rw [Bool.and_eq_true,decide_eq_true_eq,js]at Z;exact Or.inr ⟨⟨Z.1,Z.2,ae,f',aK,bc,cU,ar,kC⟩,g10⟩
   ·left;simp only [show 6<r.Queue.length by omega,alO,al2,Bool.true_or,alS,alR,alQ,aC]
  ·left;simp only [show 4<r.cf.length by omega,alO,al2,Bool.true_or,alS,alR,alQ,aC]
def mE(r:Row):bw:=(r.bl.getD (r.bl.length-1) default).b7
def gr:List Row→List bE
 |[]=>[]
 |r::l=>if(mE r).Kind=0 then gr l else⟨r.Key,mE r⟩::gr l
structure xr(n:Nat)(a:Int)(r:Row):Prop where
 l:r.bl.length<n
 b:r.bl.length≤1000000000
 p:0<r.bl.length
 s:∀i,i<r.bl.length→(r.bl.getD i default).fe≤a
def ai3{n:Nat}{a:Int}{r:Row}(h:xr n a r):C_ n r a=some ((r.bl.length:Nat):Int):=by
 have af:=h.l;have hb:=h.b;unfold C_
 have key:∀m i,r.bl.length<m+i→i≤r.bl.length→yV n a r m (i:Int)=some ((r.bl.length:Nat):Int):=by
  intro m;induction m with
  |zero=>intro i Z ae;omega
  |succ m a7=>
   intro i Z ae;simp only [yV,Jj,Ji,alX,alW];by_cases hi:i<r.bl.length
   ·simp only [hi,b6 hi,alO,al2,a_,alQ,h.s i hi,ck (show i≤4611686018427387904 by omega)]
    exact a7 (i+1) (by omega) (by omega)
   ·obtain rfl:i=r.bl.length:=by omega
    simp only [Nat.lt_irrefl,alP,alT,Bool.true_or,a_,alR]
 exact key n 0 (by omega) (by omega)
def ai4{n:Nat}{a:Int}{r:Row}(h:xr n a r):Da n r a=some (mE r):=by
 have af:=h.l;have hb:=h.b;have hp:=h.p;unfold Da;rw [ai3 h,aC];have e:al7 (((r.bl.length:Nat):Int)-1)=((r.bl.length-1:Nat):Int):=by(try unfold al7);rw [IntKind.wrap_i64];omega
 simp only [show¬ ((r.bl.length:Nat):Int)=0 by omega,alP,alR,e,b6 (show r.bl.length-1<r.bl.length by omega),a_,alW]
 rfl
def ai5{n:Nat}{a:Int}{r:Row}(h:xr n a r):E9 n r a=some (mE r):=by
 have af:=h.l;have hb:=h.b;have hp:=h.p;unfold E9
 have key:∀m i K N S,r.bl.length<m+i→i≤r.bl.length→z7 n a r m K N S (i:Int)=some (if i=r.bl.length then⟨K,N,S⟩else mE r):=by
  intro m;induction m with
  |zero=>intro i K N S Z ae;omega
  |succ m a7=>
   intro i K N S Z ae;simp only [z7,MX,MW,E8,alX,alW];by_cases hi:i<r.bl.length
   ·simp only [hi,b6 hi,alO,a_,alQ,h.s i hi,ck (show i≤4611686018427387904 by omega)]
    rw [a7 (i+1) _ _ _ (by omega) (by omega),if_neg (show¬ i=r.bl.length by omega)]
    by_cases e:i+1=r.bl.length
    ·rw [if_pos e];unfold mE;rw [←e,Nat.add_sub_cancel]
    ·rw [if_neg e]
   ·obtain rfl:i=r.bl.length:=by omega
    simp only [Nat.lt_irrefl,alP,alR,al3]
 have:=key n 0 0 0 [] (by omega) (by omega)
 rw [if_neg (by omega)]at this
 exact this
section
variable {n:Nat} {s:aG} {a:Int} (af:s.Rows.length≤1000) (hn:2000≤n) (h:∀i,i<s.Rows.length→xr n a (s.Rows.getD i default)) (ba:s.cq≤a) (ha:a≤s.b0)
include af hn h ba ha
theorem ai6(ay:vC n s=some true):yY n s a=some (gr s.Rows,0):=by
 have key:∀m i acc,s.Rows.length<m+i→i≤s.Rows.length→acc.length≤i→yX n a s m (i:Int) acc=some (acc++gr (s.Rows.drop i),0):=by
  intro m;induction m with
  |zero=>intro i acc Z ae;omega
  |succ m a7=>
   intro i acc Z ae ar;simp only [yX,Jl,alX];by_cases hi:i<s.Rows.length
   ·simp only [hi,b6 hi,alW,alO,alQ,a_];rw [ai4 (h i hi),aC,gR s.Rows i default hi,gr];by_cases k:(mE (s.Rows.getD i default)).Kind=0
    ·simp only [k,alO,alS,alR,yW,ck (show i≤4611686018427387904 by omega),al3]
     exact a7 (i+1) _ (by omega) (by omega) (by omega)
    ·simp only [k,alP,alT,alQ,alZ,yW,ck (show i≤4611686018427387904 by omega),XW (show(acc.length+1)*48≤140737488355328 by omega),a_,al4]
     rw [a7 (i+1) _ (by omega) (by omega) (by rw [alY,alZ];omega)]
     simp
   ·obtain rfl:i=s.Rows.length:=by omega
    simp only [Nat.lt_irrefl,alP,alR,Jk,iO s.Rows _ hi,gr,List.append_nil]
 unfold yY;rw [ay,aC]
 have ak:C' n s a=some 0:=by
  unfold C';simp only [show¬ a<s.cq by omega,show¬ s.b0<a by omega,alP,alR]
 simp only [alS,alR,ak,aC,alO];exact key n 0 [] (by omega) (by omega) (by simp)
theorem ai7(ay:wg n s=some true):z' n s a=some (gr s.Rows,0):=by
 have key:∀m i acc,s.Rows.length<m+i→i≤s.Rows.length→acc.length≤i→wD n a s m acc (i:Int)=some (acc++gr (s.Rows.drop i)):=by
  intro m;induction m with
  |zero=>intro i acc Z ae;omega
  |succ m a7=>
   intro i acc Z ae ar;simp only [wD,MZ,alX];by_cases hi:i<s.Rows.length
   ·simp only [hi,b6 hi,alW,alO,alQ,a_];rw [ai5 (h i hi),aC,gR s.Rows i default hi,gr];by_cases k:(mE (s.Rows.getD i default)).Kind=0
    ·simp only [k,alO,alS,alR,z8,ck (show i≤4611686018427387904 by omega),al3]
     exact a7 (i+1) _ (by omega) (by omega) (by omega)
    ·simp only [k,alP,alT,alQ,alZ,z8,ck (show i≤4611686018427387904 by omega),XW (show(acc.length+1)*48≤140737488355328 by omega),a_,al4]
     rw [a7 (i+1) _ (by omega) (by omega) (by rw [alY,alZ];omega)]
     simp
   ·obtain rfl:i=s.Rows.length:=by omega
    simp only [Nat.lt_irrefl,alP,alR,MY,iO s.Rows _ hi,gr,List.append_nil]
 unfold z' M0;rw [ay,aC];simp only [show¬ a<s.cq by omega,show¬ s.b0<a by omega,alP,alR,alS]
 rw [show wD n a s n [] 0=_ from key n 0 [] (by omega) (by omega) (by simp),aC]
 rfl
end
def Yh{n:Nat}{s:aG}(hs:l1 s=true)(ay:∀i,i<s.Rows.length→(s.Rows.getD i default).bl.length<n∧(s.Rows.getD i default).bl.length≤1000000000)(i:Nat)(hi:i<s.Rows.length):xr n s.b0 (s.Rows.getD i default):=by
 unfold l1 at hs;rw [Bool.and_eq_true,js]at hs;have Z:=hs.2 i hi;rw [Bool.and_eq_true]at Z;have ae:=Z.2;unfold p2 at ae;rw [Bool.and_eq_true,js]at ae;obtain⟨ar,aK⟩:=ae;refine⟨(ay i hi).1,(ay i hi).2,?_,λk hk=>?_⟩
 ·by_cases e:(s.Rows.getD i default).bl.length=0
  ·rw [e]at ar;simp at ar
  ·omega
 ·have bc:=aK k hk;unfold uy at bc;simp only [Bool.and_eq_true,Bool.not_eq_true',decide_eq_false_iff_not]at bc;have:=bc.1.1.2
  omega
def xt:List al5→Prop
 |[]=>True
 |k::l=>(∀j∈l,Op.bytesLess k j=true)∧xt l
def Yi:∀l:List al5,(∀i,i+1<l.length→Op.bytesLess (l.getD i []) (l.getD (i+1) [])=true)→xt l
 |[],_=>trivial
 |k::l,h=>by
  have a7:=Yi l λi hi=>by have:=h (i+1) (by simpa using hi);simpa using this
  refine⟨λj hj=>?_,a7⟩
  cases l with
  |nil=>simp at hj
  |cons aj l=>
   have h0:Op.bytesLess k aj=true:=by simpa using h 0 (by simp)
   rcases List.mem_cons.1 hj with rfl|hj
   ·exact h0
   ·exact XE _ _ _ h0 (a7.1 j hj)
def Yj:∀(l:List al5) (i:Nat),xt l→i+1<l.length→Op.bytesLess (l.getD i []) (l.getD (i+1) [])=true
 |[],i,_,h=>by simp at h
 |k::l,0,⟨Z,_⟩,h=>by
  cases l with
  |nil=>simp at h
  |cons aj l=>simpa using Z aj (by simp)
 |k::l,i+1,⟨_,ae⟩,h=>by
  have:=Yj l i ae (by simpa using h)
  simpa using this
def O5:∀l:List Row,(∀p∈gr l,p.Key∈l.map (·.Key))
 |[],p,h=>by simp [gr]at h
 |r::l,p,h=>by
  unfold gr at h;by_cases k:(mE r).Kind=0
  ·rw [if_pos k]at h;have:=O5 l p h
   simp only [List.map_cons,List.mem_cons];exact Or.inr this
  ·rw [if_neg k]at h;rcases List.mem_cons.1 h with rfl|h
   ·simp
   ·have:=O5 l p h
    simp only [List.map_cons,List.mem_cons];exact Or.inr this
def Yk:∀l:List Row,xt (l.map (·.Key))→xt ((gr l).map (·.Key))
 |[],_=>trivial
 |r::l,h=>by
  obtain⟨Z,ae⟩:=h;have a7:=Yk l ae;unfold gr;by_cases k:(mE r).Kind=0
  ·rw [if_pos k];exact a7
  ·rw [if_neg k];refine⟨λj hj=>?_,a7⟩
   obtain⟨p,hp,rfl⟩:=List.mem_map.1 hj;exact Z _ (O5 l p hp)
def GJ:∀(l:List Row) (p:bE),p∈gr l→∃r∈l,p=⟨r.Key,mE r⟩∧(mE r).Kind≠0
 |[],p,h=>by simp [gr]at h
 |r::l,p,h=>by
  unfold gr at h;by_cases k:(mE r).Kind=0
  ·rw [if_pos k]at h;obtain⟨x,hx,e⟩:=GJ l p h;exact⟨x,by simp [hx],e⟩
  ·rw [if_neg k]at h;rcases List.mem_cons.1 h with rfl|h
   ·exact⟨r,by simp,rfl,k⟩
   ·obtain⟨x,hx,e⟩:=GJ l p h;exact⟨x,by simp [hx],e⟩
def Yl{s:aG}(hs:l1 s=true)(hb:∀i,i<s.Rows.length→(s.Rows.getD i default).bl.length≤1000000000)(i:Nat)(hi:i<s.Rows.length):kN (s.Rows.getD i default).Key=true∧kO (mE (s.Rows.getD i default))=true:=by
 have h0:=Yh (n:=1000000001) hs (λi hi=>⟨by have:=hb i hi;omega,hb i hi⟩) i hi
 unfold l1 at hs;rw [Bool.and_eq_true,js]at hs;have Z:=hs.2 i hi;simp only [Bool.and_eq_true]at Z;refine⟨Z.1.1,?_⟩
 have ae:=Z.2;unfold p2 at ae;rw [Bool.and_eq_true,js]at ae;have hp:=h0.p;have bc:=ae.2 ((s.Rows.getD i default).bl.length-1) (by omega)
 unfold uy at bc;simp only [Bool.and_eq_true]at bc;exact bc.1.2
def O6{α:Type}[Inhabited α]{l:List α}{x:α}(h:x∈l):∃i,i<l.length∧l.getD i default=x:=by
 obtain⟨i,hi,e⟩:=List.mem_iff_getElem.1 h;exact⟨i,hi,by rw [List.getD_eq_getElem?_getD,List.getElem?_eq_getElem hi];exact e⟩
def GK{α:Type}[Inhabited α](l:List α)(f:α→al5)(i:Nat)(hi:i<l.length):(l.map f).getD i []=f (l.getD i default):=by
 simp only [List.getD_eq_getElem?_getD,List.getElem?_map,List.getElem?_eq_getElem hi,Option.map_some,Option.getD_some]
def GL:∀l:List Row,(gr l).length≤l.length
 |[]=>Nat.le_refl _
 |r::l=>by
  have:=GL l
  unfold gr;split
  ·simp only [alU];omega
  ·simp only [alU];omega
def ai8{s:aG}(hs:l1 s=true)(af:s.Rows.length≤1000000)(hb:∀i,i<s.Rows.length→(s.Rows.getD i default).bl.length≤1000000000):OM (gr s.Rows)=true:=by
 have hlen:=GL s.Rows
 have ai9:xt (s.Rows.map (·.Key)):=by
  refine Yi _ λi hi=>?_
  rw [List.length_map]at hi;have h0:=hs;unfold l1 at h0;rw [Bool.and_eq_true,js]at h0;have Z:=h0.2 (i+1) hi;simp only [Bool.and_eq_true]at Z;have ae:=Z.1.2;rw [XF i (by omega),show decide (0<((i+1:Nat):Int))=true from decide_eq_true (by omega),alS,Bool.false_or]at ae
  rw [GK s.Rows (·.Key) i (by omega),GK s.Rows (·.Key) (i+1) hi]
  exact ae
 have ai':=Yk _ ai9
 have O7:∀i,i<(gr s.Rows).length→kN ((gr s.Rows).getD i default).Key=true∧kO ((gr s.Rows).getD i default).b7=true∧((gr s.Rows).getD i default).b7.Kind≠0:=λi hi=>by
  have hm:(gr s.Rows).getD i default∈gr s.Rows:=by
   rw [List.getD_eq_getElem?_getD,List.getElem?_eq_getElem hi];exact List.getElem_mem hi
  obtain⟨r,ak,e,hk⟩:=GJ _ _ hm;obtain⟨j,hj,rfl⟩:=O6 ak;obtain⟨a,b⟩:=Yl hs hb j hj;rw [e];exact⟨a,b,hk⟩
 unfold OM XH;rw [Bool.and_eq_true,js,js];refine⟨λi hi=>?_,λi hi=>by rw [decide_eq_false (O7 i hi).2.2];rfl⟩
 rw [(O7 i hi).1,(O7 i hi).2.1];cases i with
 |zero=>rfl
 |succ i=>
  have:=Yj _ i ai' (by rw [List.length_map];exact hi)
  rw [GK (gr s.Rows) (λx=>x.Key) i (by omega),GK (gr s.Rows) (λx=>x.Key) (i+1) hi]at this
  rw [XF i (by omega),this]
  simp
end Go.Ab.Y

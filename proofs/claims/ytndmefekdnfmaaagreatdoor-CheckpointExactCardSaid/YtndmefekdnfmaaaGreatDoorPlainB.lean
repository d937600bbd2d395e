/- The plain law: what the functions compute answers as the statement says. -/
import Derived.Lib.ItoaLen
import Derived.Test.YtndmefekdnfmaaaGreatDoorPlainA
set_option linter.all false
namespace Go.Ab.Y
open Go Go.Ab Go.Proofs Tryz
def h'{k:Nat}(h:k<=1000000000000):bF k=true:=avi (by omega)
def aaE{k:Nat}(h:k<=1000000000000):room k 1=true:=by simp[room];omega
def aaF(n:Nat)(op:Int):Hk n op=some ((cy op:Nat):Int):=by
 by_cases h:1<=op/\op<=27
 ·obtain rfl|rfl|rfl|rfl|rfl|rfl|rfl|rfl|rfl|rfl|rfl|rfl|rfl|rfl|rfl|rfl|rfl|rfl|rfl|rfl|rfl|rfl|rfl|rfl|rfl|rfl|rfl:op=1\/op=2\/op=3\/op=4\/op=5\/op=6\/op=7\/op=8\/op=9\/op=10\/op=11\/op=12\/op=13\/op=14\/op=15\/op=16\/op=17\/op=18\/op=19\/op=20\/op=21\/op=22\/op=23\/op=24\/op=25\/op=26\/op=27:=by omega
  all_goals rfl
 ·have e:cy op=9:=by
   unfold cy;rw[de<|by omega,de<|by omega,de<|by omega,de<|by omega,de<|by omega,de<|by omega,de<|by omega,de<|by omega]
  rw[e];simp only[Hk,w9,M_,Hj,Vs,show¬ op=17 by omega,show¬ op=16 by omega,show¬ op=18 by omega,show¬ op=10 by omega,show¬ op=11 by omega,show¬ op=12 by omega,show¬ op=13 by omega,show¬ op=14 by omega,show¬ op=15 by omega,show¬ op=19 by omega,show¬ op=4 by omega,show¬ op=5 by omega,show¬ op=6 by omega,show¬ op=7 by omega,show¬ op=8 by omega,show¬ op=9 by omega,UN,UK]
  rfl
def ajx(n:Nat)(op:Int)(h:20<=op/\op<=27):Nb n op=some (spell<|iE op):=by
 obtain rfl|rfl|rfl|rfl|rfl|rfl|rfl|rfl:op=20\/op=21\/op=22\/op=23\/op=24\/op=25\/op=26\/op=27:=by omega
 all_goals rfl
def ajy(n:Nat)(op:Int)(h:4<=op/\op<=8\/10<=op/\op<=17\/op=19):Na n op=some (spell<|pz op):=by
 have:op=4\/op=5\/op=6\/op=7\/op=8\/op=10\/op=11\/op=12\/op=13\/op=14\/op=15\/op=16\/op=17\/op=19:=by omega
 rcases this with rfl|rfl|rfl|rfl|rfl|rfl|rfl|rfl|rfl|rfl|rfl|rfl|rfl|rfl<;>rfl
def ajz(n:Nat)(i:Int)(b:0<=i)(a:i<=2^63-1):zp n i=some (Lib.decDigits i.toNat):=by
 unfold zp MD;rw[fp (show(10:Int)=10 /\ -9223372036854775808<=i/\i<=2^63-1 from⟨rfl,by omega,a⟩)]
 simp only[aF,aj];unfold Lib.itoa;rw[de<|by omega]
def E3(i:Int)(b:0<=i)(a:i<=2^63-1):(Lib.decDigits i.toNat).length<=21:=by
 have:=Lib.itoa_length_le i (by omega) a
 unfold Lib.itoa at this
 rwa [de<|by omega]at this
def Kk(n:Nat)(c:UInt8)(b:UB)(h:b.length<=100000000):tK n (c.toNat:Int) (gu b)=some (gu<|b++[c]):=by
 unfold tK CJ;simp only[aj,Z',UT,UU,aaE (show b.length+(0+1)<=1000000000000 by omega),aF,Z_]
def awF(n:Nat)(s:UB)(b:s.length<=2^62):∀m i,s.length<i+m->i<=s.length->Hh n s m (i:Int)=some ((s.drop i).all okB):=by
 intro m;induction m with
 |zero=>intro i h e;omega
 |succ m a=>
  intro i c d;simp only[Hh,Vn,Vm];by_cases h:i<s.length
  ·rw[gl s i 0 h,fz<|by omega,a (i+1) (by omega)<|by omega]
   simp only[h,bW h,US,UP,YW,UL,aF,U4,ny,uf,fq,dU,J3];cases okB (s.getD i 0)<;>simp
  ·rw[i_ s i h];simp[h]
def awG{n:Nat}(s:UB)(h:s.length<n)(a:s.length<=2^62):Vo n s=some (s.all okB):=by
 have:=awF n s a n 0 (by omega) (by omega)
 rw[gj]at this;exact this
def AR:∀s:UB,(ho s).length<=2*s.length
 |[]=>fS _
 |c::s=>by
  have:=AR s
  simp only[ho];split<;>simp only[UT]<;>omega
def ajA(s:UB)(c:UInt8):ho (s++[c])=ho s++ho [c]:=by
 induction s with
 |nil=>rfl
 |cons d s a=>simp only[gk,ho,a];split<;>rfl
def awH(n:Nat)(s:UB)(p:s.length<=64):∀m i,s.length<i+m->i<=s.length->Hi n s m (gu<|34::ho (s.take i)) (i:Int)=some (quo s,0):=by
 intro m;induction m with
 |zero=>intro i h t;omega
 |succ m l=>
  intro i q r;simp only[Hi,Vr,Vp,Vq,M8];have hlen:=AR<|s.take i;have o:(s.take i).length<=i:=by simp;omega
  by_cases h:i<s.length
  ·(rw[fz<|by omega];simp only[US])
   have a:=l (i+1) (by omega) (by omega)
   have k:s.take (i+1)=s.take i++[s.getD i 0]:=by
    rw[xI,gl s i 0 h,pk,qj]
   rw[k,ajA]at a;generalize s.getD i 0=c at a
   simp only[h,bW h,UP,YW,UL,aF,U4,hM,dU];by_cases hc:c.toNat=34\/c.toNat=92
   ·have d:(decide (c.toNat=34)||decide (c.toNat=92))=true:=by rcases hc with hc|hc<;>rw[fp hc]<;>simp
    have g:=Kk n 92 (34::ho (s.take i)) (by simp only[UT];omega)
    have f:=Kk n c (34::ho (s.take i)++[92]) (by simp only[UO,UT,UU];omega)
    rw[d];simp only[UL];rw[show tK n 92 _=_ from g]
    simp only[aj];rw[f];simp only[aj];rw[show(34::ho (s.take i)++[92]++[c])=34::(ho (s.take i)++ho [c])by simp only[ho];rw[eI hc];simp]
    exact a
   ·have d:(decide (c.toNat=34)||decide (c.toNat=92))=false:=by rw[en<|λe=>hc<|kP e,en<|λe=>hc<|iR e];rfl
    have f:=Kk n c (34::ho (s.take i)) (by simp only[UT];omega)
    rw[d];simp only[UK];rw[f];simp only[aj];rw[show(34::ho (s.take i)++[c])=34::(ho (s.take i)++ho [c])by simp only[ho];rw[de hc];simp]
    exact a
  ·have j:i=s.length:=by omega
   subst j;simp only[UP,hS,UN,UK,rH];have g:=Kk n 34 (34::ho s) (by have:=AR s;simp only[UT];omega)
   rw[show tK n 34 _=_ from g]
   have u:=AR s;have b:(gu<|34::ho s++[34]).length<=9223372036854775807:=by rw[Z'];simp only[UO,UT,UU];omega
   simp only[aj,tJ,Z9,Z8,b,YW,nG,aF];rfl
def awI{n:Nat}(s:UB)(h:kc s=true)(b:100<n):M9 n s=some (quo s,0):=by
 unfold kc at h;simp only[cb,fx]at h;unfold M9;simp only[fq,show¬ 64<s.length by omega,UN,UK,awG s (show s.length<n by omega)<|by omega,aj,h.1,UR]
 have a:=Kk n 34 [] (by simp)
 rw[show tK n 34 []=_ from a]
 exact awH n s (by omega) n 0 (by omega) (by omega)
def awJ(s:UB):(quo s).length<=2*s.length+2:=by
 have:=AR s
 simp only[quo,UT,UO,UU];omega
def ajB{c:Prop}[Decidable c]{a b:Bm}{k:Nat}(e:(spell a).length<=k)(d:(spell b).length<=k):(spell (if c then a else b)).length<=k:=by
 by_cases h:c
 ·rw[eI h];exact e
 ·rw[de h];exact d
def aaH(op:Int):(spell<|pz op).length<=3:=by
 unfold pz
 repeat refine ajB (by decide) ?_
 decide
def E4(op:Int):(spell<|iE op).length<=6:=by
 unfold iE
 repeat refine ajB (by decide) ?_
 decide
def rr(op:Int)(p:mM)(k:Nat):(flat<|gf op p k).length<=(flat p).length+2:=by
 unfold gf;split
 ·simp only[flat,oc,spell,bn,UO,UT];simp;omega
 ·omega
def ru{w:UB}(h:hl w=true):w.length<=16:=by
 let⟨c,l,_,_,_,_,a⟩:=Re h;exact a
def ti:∀(h:Nat) (e:Bi),ge e<=h->hH e->(flat<|b6 e).length<=4*dD e:=by
 intro h;induction h with
 |zero=>intro e k;rw[v_]at k;omega
 |succ h j=>
  intro e k m;have pA:=(Rg e).1 m;have u:=sH e;rcases AQ e m with⟨f,c⟩|⟨f,c⟩|⟨f,c⟩|⟨r,c⟩|⟨a,c,i,q,g⟩|⟨a,b,c,i,p,q,g⟩
  ·have:=E3 e.N (pA.2.1 f).1 (pA.2.1 f).2
   have d:flat (b6 e)=Lib.decDigits e.N.toNat++[]:=by rw[c];rfl
   rw[d,gJ];omega
  ·have:=awJ e.S
   have d:flat (b6 e)=quo e.S++[]:=by rw[c];rfl
   rw[d,gJ];omega
  ·have:=ru<|pA.2.2.2.2.2.1 f
   have d:flat (b6 e)=e.S++[]:=by rw[c];rfl
   rw[d,gJ];omega
  ·have:=E4 e.Op
   generalize e.Op=op at r c this
   have d:flat (b6 e)=spell (iE op)++([40]++([41]++[])):=by
    rw[c];simp only[b6,kC,md];rw[de<|by omega,de<|by omega,de<|by omega];rfl
   rw[d];simp only[UO,UT,UU];omega
  ·have o:=j a (by omega) i
   have t:dD e=30+(dD a+1):=by rw[c];simp[dD,n7,EO]
   have:=E4 e.Op
   have n:=rr a.Op (b6 a) 3;have l:=rr a.Op (b6 a) 8;generalize e.Op=op at g c this
   have d:b6 e=if op=18 then some (d' [110,111,116])::none::gf a.Op (b6 a) 3 else if op=9 then some (bn [45])::gf a.Op (b6 a) 8 else some (iE op)::some (bn [40])::(b6 a++[some<|bn [41]]):=by
    rw[c];simp only[b6,kC,md];rw[de<|by omega,de<|by omega,de<|by omega]
   rw[d];split
   ·simp only[flat,spell,d',UO,UT];simp;omega
   ·split
    ·simp only[flat,spell,bn,UO,UT];simp;omega
    ·simp only[flat,oc,UO];have x:(spell<|bn [40]).length=1:=rfl;have w:(spell<|bn [41]).length=1:=rfl;simp only[UU];omega
  ·have o:=j a (by omega) i
   have s:=j b (by omega) p
   have t:dD e=30+(dD a+1+(dD b+1)):=by rw[c];simp[dD,n7,EO]
   have:=aaH e.Op
   have n:=rr a.Op (b6 a) (if cy e.Op=4 then 5 else cy e.Op)
   have l:=rr b.Op (b6 b)<|cy e.Op+1;generalize e.Op=op at g c this n l
   have d:b6 e=gf a.Op (b6 a) (if cy op=4 then 5 else cy op)++none::some (pz op)::none::gf b.Op (b6 b) (cy op+1):=by rw[c,Rl g]
   rw[d];simp only[oc,flat,UO,UT];omega
def awK(n:Nat):nz (n+1)=Nc n (nz n) (zq n):=rfl
def awL(n:Nat):zq (n+1)=Nd n (nz n) (zq n):=rfl
def Kl{n:Nat}{e:Bi}{k:Nat}(h:nz n e=some (flat<|b6 e))(b:(flat<|b6 e).length<=100000000):zq (n+1) e (k:Int)=some (flat<|gf e.Op (b6 e) k):=by
 rw[awL];unfold Nd gf;rw[aaF,h];simp only[aj,UP];by_cases a:cy e.Op<k
 ·simp only[a,YW,UL,U3];rw[h' (by simp;omega),h' (by simp;omega)]
  simp only[aF,flat,oc,spell,bn];simp
 ·simp only[a,UN,UK,UY]
def awM:∀(h:Nat) (e:Bi) (n:Nat),ge e≤h→hH e→2*h+200≤n→dD e≤1000000→nz n e=some (flat (b6 e)):=by
 intro h;induction h with
 |zero=>intro e n he;rw [v_]at he;omega
 |succ h aE=>
  intro e n he cU hn awN;obtain⟨n,rfl⟩:∃j,n=j+1:=⟨n-1,by omega⟩
  obtain⟨n,rfl⟩:∃j,n=j+1:=⟨n-1,by omega⟩
  have pA:=(Rg e).1 cU;have xS:=sH e;rw [awK];unfold Nc;rw [aaF];simp only [aj];rcases AQ e cU with⟨h1,am⟩|⟨h1,am⟩|⟨h1,am⟩|⟨af,am⟩|⟨a,am,ha,bf,ei⟩|⟨a,b,am,ha,hb,bf,ei⟩
  ·have e2:flat (b6 e)=Lib.decDigits e.N.toNat++[]:=by rw [am];rfl
   rw [ajz _ e.N (pA.2.1 h1).1 (pA.2.1 h1).2,e2,List.append_nil];simp only [h1,YW,UL,aj]
  ·have e2:flat (b6 e)=quo e.S++[]:=by rw [am];rfl
   rw [awI e.S (pA.2.2.2.2.1 h1) (by omega),e2,List.append_nil]
   simp only [h1,show¬ (2:Int)=1 by omega,YW,UN,UL,UK,aj]
  ·have e2:flat (b6 e)=e.S++[]:=by rw [am];rfl
   rw [e2,List.append_nil];simp only [h1,show¬ (3:Int)=1 by omega,show¬ (3:Int)=2 by omega,YW,UN,UL,UK]
  ·have hw:=E4 e.Op;have aaJ:=ajx (n+1) e.Op (by omega)
   have gH:cy e.Op=9:=by
    have:e.Op=25∨e.Op=26∨e.Op=27:=by omega
    rcases this with h|h|h<;>rw [h]<;>decide
   have fE:e.ax=[]:=by rw [am]
   have e2:flat (b6 e)=spell (iE e.Op)++([40]++([41]++[])):=by
    generalize e.Op=op at af am
    rw [am];simp only [b6,kC,md];rw [if_neg (by omega),if_neg (by omega),if_neg (by omega)];rfl
   rw [aaJ,e2];simp only [aj];rw [h' (show(spell (iE e.Op)).length+([40,41]:UB).length≤1000000000000 by simp;omega)]
   simp only [gH,fE,show¬ e.Op=1 by omega,show¬ e.Op=2 by omega,show¬ e.Op=3 by omega,show¬ e.Op=18 by omega,show¬ e.Op=9 by omega,UN,UK,UU,hM,YW,UL,aF]
   simp
  ·have AL:dD e=30+(dD a+1):=by rw [am];simp [dD,n7,EO]
   have sO:=aE a n (by omega) ha (by omega) (by omega)
   have aaK:=aE a (n+1) (by omega) ha (by omega) (by omega)
   have wb:=ti (ge a) a (Nat.le_refl _) ha;have fE:e.ax=[a]:=by rw [am]
   have ah:=rr a.Op (b6 a) 3;have dk:=rr a.Op (b6 a) 8
   have e2:b6 e=if e.Op=18 then some (d' [110,111,116])::none::gf a.Op (b6 a) 3 else if e.Op=9 then some (bn [45])::gf a.Op (b6 a) 8 else some (iE e.Op)::some (bn [40])::(b6 a++[some (bn [41])]):=by
    generalize e.Op=op at ei am
    rw [am];simp only [b6,kC,md];rw [if_neg (by omega),if_neg (by omega),if_neg (by omega)]
   rw [e2,fE];simp only [UT,UU,ql (show 0<0+1 by omega),aF,List.getD_cons_zero,show¬ e.Op=1 by omega,show¬ e.Op=2 by omega,show¬ e.Op=3 by omega,UN,UK]
   by_cases od:e.Op=18
   ·have:=Kl (k:=3) sO (by omega)
    rw [od];simp only [YW,UL,U3,show cy 18=3 from rfl]
    rw [this];simp only [aj];rw [h' (by simp;omega)]
    rfl
   ·by_cases ea:e.Op=9
    ·have:=Kl (k:=8) sO (by omega)
     rw [ea];simp only [show¬ (9:Int)=18 by omega,YW,UN,UL,UK,U3,UY,show cy 9=8 from rfl]
     rw [this];simp only [aj];rw [h' (by simp;omega)]
     rfl
    ·have aaC:20≤e.Op∧e.Op≤24:=by omega
     have gH:cy e.Op=9:=by
      have:e.Op=20∨e.Op=21∨e.Op=22∨e.Op=23∨e.Op=24:=by omega
      rcases this with h|h|h|h|h<;>rw [h]<;>decide
     have hw:=E4 e.Op;rw [ajx (n+1) e.Op (by omega),aaK,if_neg od,if_neg ea]
     have e3:flat (some (iE e.Op)::some (bn [40])::(b6 a++[some (bn [41])]))=spell (iE e.Op)++([40]++(flat (b6 a)++([41]++[]))):=by
      simp only [flat,oc];rfl
     rw [e3];generalize spell (iE e.Op)=W at hw
     simp only [od,ea,gH,UN,YW,UK,UL,aj];rw [h' (show W.length+(0+1)≤1000000000000 by omega),h' (show(W++([40]:UB)).length+(flat (b6 a)).length≤1000000000000 by simp;omega),h' (show((W++([40]:UB))++flat (b6 a)).length+(0+1)≤1000000000000 by simp;omega)]
     simp only [show((0+1:Nat):Int)=1 from rfl,show¬ (1:Int)=0 by omega,show((9:Nat):Int)=9 from rfl,YW,UN,UL,UK,aF]
     simp
  ·have AL:dD e=30+(dD a+1+(dD b+1)):=by rw [am];simp [dD,n7,EO]
   have sO:=aE a n (by omega) ha (by omega) (by omega)
   have aaL:=aE b n (by omega) hb (by omega) (by omega)
   have wb:=ti (ge a) a (Nat.le_refl _) ha;have aaI:=ti (ge b) b (Nat.le_refl _) hb;have fE:e.ax=[a,b]:=by rw [am]
   have gH:=E0 ei;have awO:=aaH e.Op
   have e2:b6 e=gf a.Op (b6 a) (if cy e.Op=4 then 5 else cy e.Op)++none::some (pz e.Op)::none::gf b.Op (b6 b) (cy e.Op+1):=by
    generalize e.Op=op at ei am
    rw [am,Rl ei]
   have ah:=rr a.Op (b6 a) (if cy e.Op=4 then 5 else cy e.Op)
   have dk:=rr b.Op (b6 b) (cy e.Op+1);have vl:=Kl (k:=cy e.Op+1) aaL (by omega)
   rw [e2,fE,ajy (n+1) e.Op ei];simp only [UT,UU,ql (show 0<0+1+1 by omega),aF,List.getD_cons_zero,List.getD_cons_succ,show¬ e.Op=1 by omega,show¬ e.Op=2 by omega,show¬ e.Op=3 by omega,show¬ e.Op=18 by omega,show¬ e.Op=9 by omega,UN,UK,hM,show¬ cy e.Op=9 by omega,show aP 1 (0+1+1)=true from rfl]
   by_cases ay:cy e.Op=4
   ·have u4:=Kl (k:=5) sO (by omega)
    rw [ay]at vl ⊢;rw [if_pos rfl];rw [if_pos ay]at ah;simp only [YW,UL];rw [show zq (n+1) a 5=_ from u4,show zq (n+1) b 5=_ from vl]
    simp only [aj];rw [ay]at dk;rw [h' (by simp;omega),h' (by simp;omega),h' (by simp;omega),h' (by simp only [UO,UT,UU];omega)]
    simp only [aF,oc,flat];simp
   ·have u4:=Kl (k:=cy e.Op) sO (by omega)
    rw [if_neg ay]at ah ⊢;simp only [ay,UN,UK];rw [u4,fz (by omega),vl]
    simp only [aj];rw [h' (by simp;omega),h' (by simp;omega),h' (by simp;omega),h' (by simp only [UO,UT,UU];omega)]
    simp only [aF,oc,flat];simp
mutual
def oe:Bi->Prop
 |⟨Op,N,S,a⟩=>(-9223372036854775808<=N/\N<=2^63-1)/\S.length<=2^63-1/\a.length<=2^63-1/\AS a
def AS:List Bi->Prop
 |[]=>True
 |x::l=>oe x/\AS l
end
def Rp(e:Bi):oe e↔(-9223372036854775808<=e.N/\e.N<=2^63-1)/\e.S.length<=2^63-1/\e.ax.length<=2^63-1/\AS e.ax:=by cases e;rfl
def ajC:∀(l:List Bi) (i:Nat),i<l.length->AS l->oe (l.getD i default)
 |[],i,h,_=>by simp at h
 |x::l,0,h,a=>a.1
 |x::l,i+1,h,a=>by simp only[oO];exact ajC l i (by simpa using h) a.2
mutual
def uj:Bi->Nat
 |⟨_,_,S,a⟩=>1+S.length / 64+AT a
def AT:List Bi->Nat
 |[]=>0
 |x::l=>uj x+AT l
end
def awP(e:Bi):uj e=1+e.S.length / 64+AT e.ax:=by cases e;rfl
mutual
def aaM:∀e:Bi,oe e->dD e+1<=95*uj e
 |⟨Op,N,S,a⟩,h=>by
  have:=ajD a h.2.2.2
  simp only[dD,uj,Z5 h.1];omega
def ajD:∀l:List Bi,AS l->n7 l<=95*AT l
 |[],_=>fS _
 |x::l,h=>by
  have b:=aaM x h.1;have a:=ajD l h.2;simp only[n7,AT];omega
end
def aaN(k:Nat):Int.tdiv (k:Int) 64=((k / 64:Nat):Int):=by
 rw[wO<|by omega];rfl
def awQ:∀(n:Nat) (e:Bi) (m:Nat),m<=1000->m+3<=n->oe e->
 ∃r:Nat,tX n e (m:Int)=some (r:Int)/\1<=r/\r<=m+144115188075855873/\(r<=m->r=uj e):=by
 intro n;induction n with
 |zero=>intro e m h j;omega
 |succ n y=>
  intro e m E B q;let⟨t,j,x,o⟩:=(Rp e).1 q;simp only[tX,OH];rw[aaN];rw[show YV ((e.S.length / 64:Nat):Int)=((e.S.length / 64:Nat):Int)by rw[wr]<;>omega]
  rw[show YV (1+((e.S.length / 64:Nat):Int))=((1+e.S.length / 64:Nat):Int)by rw[wr]<;>omega]
  have s:∀k i v,m+2<=v+k->i<=e.ax.length->i<=v->1<=v->v<=m+144115188075855873->1<=k->
   ∃r:Nat,Du n (tX n) (m:Int) e k (v:Int) (i:Int)=some (r:Int)/\v<=r/\r<=m+144115188075855873/\(r<=m->r=v+AT (e.ax.drop i)):=by
   intro k;induction k with
   |zero=>intro i v t j F x o O;omega
   |succ k z=>
    intro i v K J L I l H;simp only[Du,OG,OF,ew,UP,vF];by_cases a:i<e.ax.length
    ·by_cases b:v<=m
     ·let⟨r1,w,N,M,p⟩:=y (e.ax.getD i default) (m-v) (by omega) (by omega)<|ajC _ _ a o
      (rw[show YV ((m:Int)-(v:Int))=((m-v:Nat):Int)by rw[wr]<;>omega,fz<|by omega];simp only[US];rw[w])
      simp only[a,b,YW,nG,UL,bW a,aF,aj];rw[show YV ((v:Int)+(r1:Int))=((v+r1:Nat):Int)by rw[wr]<;>omega]
      let⟨r,f,u,d,c⟩:=z (i+1) (v+r1) (by omega) (by omega) (by omega) (by omega) (by omega) (by omega)
      refine⟨r,f,by omega,d,λg=>?_⟩
      have:=c g
      have A:=p (by omega)
      rw[gl e.ax i default a];simp only[AT];omega
     ·simp only[a,b,YW,UN,kL,UK];exact⟨v,rfl,fS _,l,λh=>absurd h b⟩
    ·rw[i_ e.ax i a];simp only[a,UN,jH,UK];exact⟨v,rfl,fS _,l,λh=>rfl⟩
  let⟨r,f,u,d,c⟩:=s n 0 (1+e.S.length / 64) (by omega) (by omega) (by omega) (by omega) (by omega) (by omega)
  exact⟨r,f,by omega,d,λg=>by rw[c g,awP,gj]⟩
def awR:∀(h:Nat) (e:Bi) (d:Nat),ge e<=h->oe e->h9 e (d:Int)=0->d<=1000->hH e/\d+ge e<=13:=by
 intro h;induction h with
 |zero=>intro e d p;rw[v_]at p;omega
 |succ h K=>
  intro e d p z g hd;let⟨y,O,M,w⟩:=(Rp e).1 z;rw[aiZ]at g
  have f:rm e (d:Int)=0:=by
   by_cases c:rm e (d:Int)=0
   ·exact c
   ·rw[de c]at g;exact absurd g c
  rw[eI f]at g;unfold rm at f;split at f
  ·omega
  rename_i s;split at f
  ·omega
  rename_i r;split at f
  ·omega
  rename_i q;split at f
  ·omega
  rename_i P;simp only[xn,not_and,vT]at s r q;let⟨n,a2,a3⟩:=s;let⟨R,u,L⟩:=q
  have E:1<=e.Op/\e.Op<=27:=by
   unfold kN at n;by_cases a:e.Op<1
   ·simp[a]at n
   ·by_cases A:27<e.Op
    ·simp[A]at n
    ·omega
  rw[show YV ((d:Int)+1)=((d+1:Nat):Int)by rw[wr]<;>omega]at g
  have J:∀l:List Bi,sM l<=h->AS l->v8 l ((d+1:Nat):Int)=0->Kf l/\(d+1+sM l<=13\/l=[]):=by
   intro l;induction l with
   |nil=>intro _ _ _;exact⟨trivial,iR rfl⟩
   |cons x l m=>
    intro I j i;simp only[sM]at I;simp only[v8]at i
    have o:h9 x ((d+1:Nat):Int)=0:=by
     by_cases c:h9 x ((d+1:Nat):Int)=0
     ·exact c
     ·rw[de c]at i;exact absurd i c
    rw[eI o]at i;let⟨B,Q⟩:=K x (d+1) (by omega) j.1 o (by omega)
    let⟨H,t⟩:=m (by omega) j.2 i
    refine⟨⟨B,H⟩,kP ?_⟩
    simp only[sM];rcases t with t|rfl
    ·omega
    ·simp only[sM];omega
  have k:=v_ e;let⟨F,ak⟩:=J e.ax (by omega) w g
  refine⟨(Rg e).2 ⟨⟨E,?_⟩,λa=>⟨by omega,y.2⟩,λa=>?_,λa=>?_,λa=>?_,λa=>?_,F⟩,?_⟩
  ·by_cases b:(e.ax.length:Int)=kN e.Op
   ·exact b
   ·exact absurd b L
  ·by_cases b:e.N=0
   ·exact b
   ·exact absurd b<|a2 a
  ·by_cases b:e.S=[]
   ·exact b
   ·exact absurd b<|a3 a.1 a.2
  ·exact u a
  ·exact r a
  ·rcases ak with ak|ak
   ·omega
   ·rw[ak]at k;simp only[sM]at k;omega
open Go Go.Ab Go.Proofs Tryz
mutual
def sP:Bj->Prop
 |⟨_,BY,Max,A,B,BZ,a⟩=>(-9223372036854775808<=Max/\Max<=2^63-1)/\BY.length<=2^63-1/\oe A/\oe B/\sQ BZ/\sQ a
def sQ:List Bj->Prop
 |[]=>True
 |x::l=>sP x/\sQ l
end
def aaO(s:Bj):sP s↔(-9223372036854775808<=s.Max/\s.Max<=2^63-1)/\s.BY.length<=2^63-1/\oe s.A/\oe s.B/\sQ s.BZ/\sQ s.b0:=by cases s;rfl
def ajF:∀(l:List Bj) (i:Nat),i<l.length->sQ l->sP (l.getD i default)
 |[],i,h,_=>by simp at h
 |x::l,0,h,a=>a.1
 |x::l,i+1,h,a=>by simp only[oO];exact ajF l i (by simpa using h) a.2
mutual
def Rq:Bj->Nat
 |⟨_,BY,_,A,B,BZ,a⟩=>1+BY.length / 64+uj A+uj B+sR BZ+sR a
def sR:List Bj->Nat
 |[]=>0
 |x::l=>Rq x+sR l
end
def awT(s:Bj):Rq s=1+s.BY.length / 64+uj s.A+uj s.B+sR s.BZ+sR s.b0:=by cases s;rfl
mutual
def awU:∀s:Bj,sP s->fst s+1<=150*Rq s
 |⟨Op,BY,Max,A,B,BZ,a⟩,h=>by
  have c:=aaM A h.2.2.1;have b:=aaM B h.2.2.2.1;have e:=Rr BZ h.2.2.2.2.1;have d:=Rr a h.2.2.2.2.2;simp only[fst,Rq,Z5 h.1];omega
def Rr:∀l:List Bj,sQ l->dV l<=150*sR l
 |[],_=>rZ _
 |x::l,h=>by
  have b:=awU x h.1;have a:=Rr l h.2;simp only[dV,sR];omega
end
def awV(n:Nat)(e:Bi)(m:Int)(c:m<0)(b:2<=n)(a:oe e):tX n e m=some ((1+e.S.length / 64:Nat):Int):=by
 obtain⟨n,rfl⟩:∃k,n=k+2:=⟨n-2,by omega⟩
 let⟨f,d,h,g⟩:=(Rp e).1 a;simp only[tX,OH];rw[aaN];rw[show YV ((e.S.length / 64:Nat):Int)=((e.S.length / 64:Nat):Int)by rw[wr]<;>omega]
 rw[show YV (1+((e.S.length / 64:Nat):Int))=((1+e.S.length / 64:Nat):Int)by rw[wr]<;>omega]
 simp only[Du,OG,OF,ew];rw[show decide (((1+e.S.length / 64:Nat):Int)<=m)=false from en (by omega)]
 simp
def ajG(n:Nat)(e:Bi)(m:Int)(i:m<=1000)(g:m+3<=n)(l:3<=n)(a:oe e):
 ∃r:Nat,tX n e m=some (r:Int)/\1<=r/\(r:Int)<=(if m<0 then 0 else m)+144115188075855873/\((r:Int)<=m->r=uj e):=by
 by_cases h:m<0
 ·have b:=((Rp e).1 a).2.1;exact⟨_,awV n e m h (by omega) a,by omega,by rw[eI h];omega,λf=>by omega⟩
 ·obtain⟨k,rfl⟩:=lJ (show 0<=m by omega)
  let⟨r,c,b,j,d⟩:=awQ n e k (by omega) (by omega) a
  exact⟨r,c,b,by rw[de h];omega,λf=>d<|by omega⟩
def awW:∀(n:Nat) (l:List Bj) (m:Int),-4611686018427387904<=m->m<=1000->m+6<=n->5<=n->sQ l->
 ∃r:Nat,Dv n l m=some (r:Int)/\(r:Int)<=(if m<0 then 0 else m+576460752303423500)/\((r:Int)<=m->r=sR l):=by
 intro n;induction n with
 |zero=>intro l m _ _ _ h;omega
 |succ n p=>
  intro l m W hm hn ET U;simp only[Dv,WT]
  have E:∀(k i v:Nat),m+2<=v+k->1<=k->i<=v->(v:Int)<=(if m<0 then 0 else m+576460752303423500)->
   ∃r:Nat,Ip n (Dv n) l m k (v:Int) (i:Int)=some (r:Int)/\v<=r/\(r:Int)<=(if m<0 then 0 else m+576460752303423500)/\((r:Int)<=m->r=v+sR (l.drop i)):=by
   intro k;induction k with
   |zero=>intro i v _ h;omega
   |succ k x=>
    intro i v g1 g2 g3 e;simp only[Ip,WS,WR,ew,UP];by_cases a:i<l.length
    ·by_cases d:(v:Int)<=m
     ·have b:¬ m<0:=by omega
      rw[de b];simp only[de b]at x e;let⟨a1,Z,w,u,t,q⟩:=(aaO _).1<|ajF l i a U
      (simp only[US])
      generalize z:l.getD i default=s at a1 Z w u t q
      simp only[a,d,YW,nG,UL,bW a,aF];rw[aaN];rw[show YV ((s.BY.length / 64:Nat):Int)=((s.BY.length / 64:Nat):Int)by rw[wr]<;>omega]
      rw[show YV ((v:Int)+1)=((v+1:Nat):Int)by rw[wr]<;>omega]
      rw[show YV (((v+1:Nat):Int)+((s.BY.length / 64:Nat):Int))=((v+1+s.BY.length / 64:Nat):Int)by rw[wr]<;>omega]
      rw[show YV (m-((v+1+s.BY.length / 64:Nat):Int))=m-((v+1+s.BY.length / 64:Nat):Int)by rw[wr]<;>omega]
      let⟨r1,J,bj,R,N⟩:=ajG n s.A (m-((v+1+s.BY.length / 64:Nat):Int)) (by omega) (by omega) (by omega) w
      rw[J];simp only[aj];have T:(v+1+s.BY.length / 64+r1:Nat)<=m+288230376151711750:=by split at R<;>omega
      rw[show YV (((v+1+s.BY.length / 64:Nat):Int)+(r1:Int))=((v+1+s.BY.length / 64+r1:Nat):Int)by rw[wr]<;>omega]
      rw[show YV (m-((v+1+s.BY.length / 64+r1:Nat):Int))=m-((v+1+s.BY.length / 64+r1:Nat):Int)by rw[wr]<;>omega]
      let⟨r2,I,jq,Q,M⟩:=ajG n s.B (m-((v+1+s.BY.length / 64+r1:Nat):Int)) (by omega) (by omega) (by omega) u
      rw[I];simp only[aj];have S:(v+1+s.BY.length / 64+r1+r2:Nat)<=m+432345564227567625:=by split at Q<;>omega
      rw[show YV (((v+1+s.BY.length / 64+r1:Nat):Int)+(r2:Int))=((v+1+s.BY.length / 64+r1+r2:Nat):Int)by rw[wr]<;>omega]
      rw[show YV (m-((v+1+s.BY.length / 64+r1+r2:Nat):Int))=m-((v+1+s.BY.length / 64+r1+r2:Nat):Int)by rw[wr]<;>omega]
      let⟨r3,H,P,L⟩:=p s.BZ (m-((v+1+s.BY.length / 64+r1+r2:Nat):Int)) (by omega) (by omega) (by omega) (by omega) t
      rw[H];simp only[aj];have Y:(v+1+s.BY.length / 64+r1+r2+r3:Nat)<=m+576460752303423500:=by split at P<;>omega
      rw[show YV (((v+1+s.BY.length / 64+r1+r2:Nat):Int)+(r3:Int))=((v+1+s.BY.length / 64+r1+r2+r3:Nat):Int)by rw[wr]<;>omega]
      rw[show YV (m-((v+1+s.BY.length / 64+r1+r2+r3:Nat):Int))=m-((v+1+s.BY.length / 64+r1+r2+r3:Nat):Int)by rw[wr]<;>omega]
      let⟨c,y,O,K⟩:=p s.b0 (m-((v+1+s.BY.length / 64+r1+r2+r3:Nat):Int)) (by omega) (by omega) (by omega) (by omega) q
      rw[y];simp only[aj];have X:(v+1+s.BY.length / 64+r1+r2+r3+c:Nat)<=m+576460752303423500:=by split at O<;>omega
      rw[show YV (((v+1+s.BY.length / 64+r1+r2+r3:Nat):Int)+(c:Int))=((v+1+s.BY.length / 64+r1+r2+r3+c:Nat):Int)by rw[wr]<;>omega]
      rw[fz<|by omega]
      let⟨r,j,F,g,f⟩:=x (i+1) (v+1+s.BY.length / 64+r1+r2+r3+c) (by omega) (by omega) (by omega) (by omega)
      refine⟨r,j,by omega,g,λo=>?_⟩
      have h0:=f o;have h1:=N (by omega)
      have h2:=M (by omega)
      have ah:=L (by omega)
      have ay:=K (by omega)
      rw[gl l i default a,z];have:=awT s
      simp only[sR];omega
     ·simp only[a,d,YW,UN,kL,UK];exact⟨v,rfl,fS _,e,λh=>absurd h d⟩
    ·rw[i_ l i a];simp only[a,UN,jH,UK];exact⟨v,rfl,fS _,e,λh=>rfl⟩
  let⟨r,j,F,g,f⟩:=E n 0 0 (by omega) (by omega) (by omega) (by split<;>omega)
  exact⟨r,j,g,λo=>by rw[f o,gj];omega⟩
def uk(p:bk):Prop:=p.BY.length<=2^63-1/\p.Cq.length<=2^63-1/\(∀i,i<p.Cq.length->(p.Cq.getD i default).BY.length<=2^63-1)/\sQ p.BZ
def ajH:∀l:List BM,(∀i,i<l.length->(l.getD i default).BY.length<=200)->ja l<=400*l.length
 |[],_=>fS _
 |x::l,h=>by
  have b:=h 0 (by simp)
  have c:=ajH l λi a=>by have:=h (i+1) (by simpa using a);simpa using this
  simp only[lD]at b;simp only[ja,UT];omega
def Rs(p:bk)(m:Nat):Prop:=p.BY.length<=200/\p.Cq.length<=40/\ja p.Cq<=16000/\sR p.BZ<=m
def awX{n:Nat}(p:bk)(m:Nat)(z:m<=1000)(y:1100<=n)(f:uk p):∃b,Ir n p (m:Int)=some b/\(b=true->Rs p m):=by
 let⟨B,A,F,u⟩:=f;simp only[Ir,dU];by_cases g:40<p.Cq.length\/200<p.BY.length
 ·rw[show(decide (40<(p.Cq.length:Int))||decide (200<(p.BY.length:Int)))=true by
   rcases g with h|h
   ·rw[fp (show 40<(p.Cq.length:Int)by omega)];rfl
   ·rw[fp (show 200<(p.BY.length:Int)by omega),U4]]
  exact⟨false,rfl,λh=>by cases h⟩
 ·rw[show(
   decide (40<(p.Cq.length:Int))||decide (200<(p.BY.length:Int)))=false by
   rw[en (show¬ 40<(p.Cq.length:Int)by omega),en (show¬ 200<(p.BY.length:Int)by omega)];rfl]
  simp only[UK]
  have l:∀k i,p.Cq.length<i+k->i<=p.Cq.length->(∀j,j<i->(p.Cq.getD j default).BY.length<=200)->∃b,Iq n (m:Int) p k (i:Int)=some b/\(b=true->Rs p m):=by
   intro k;induction k with
   |zero=>intro i q o;omega
   |succ k w=>
    intro i q o e;simp only[Iq,WV,WU,UP,US];by_cases a:i<p.Cq.length
    ·simp only[a,YW,UL,bW a,aF];by_cases x:200<(p.Cq.getD i default).BY.length
     ·rw[fp (show 200<(((p.Cq.getD i default).BY.length:Nat):Int)by omega)]
      exact⟨false,rfl,λh=>by cases h⟩
     ·rw[en (show¬ 200<(((p.Cq.getD i default).BY.length:Nat):Int)by omega),fz<|by omega]
      exact w (i+1) (by omega) (by omega) λj d=>by
       by_cases h:j<i
       ·exact e j h
       ·obtain rfl:j=i:=by omega
        omega
    ·simp only[a,UN,UK];let⟨r,t,E,s⟩:=awW n p.BZ (m:Int) (by omega) (by omega) (by omega) (by omega) u
     rw[t];refine⟨_,rfl,λc=>?_⟩
     have c:=ky c;have:=s c
     have H:=ajH p.Cq λj d=>e j (by omega)
     exact⟨by omega,by omega,by omega,by omega⟩
  exact l n 0 (by omega) (by omega) λj d=>by omega
open Go Go.Ab Go.Proofs Tryz
abbrev eN:Bi:=⟨0,0,[],[]⟩
def jQ(e:Bi):Prop:=hH e/\ge e<=12
def Km(s:Bj):Prop:=
 ((s.Op=1\/s.Op=2)/\s=⟨s.Op,s.BY,0,s.A,eN,[],[]⟩/\hl s.BY=true/\jQ s.A)\/
 (s=⟨3,[],0,s.A,s.B,[],[]⟩/\jQ s.A/\jQ s.B)\/
 ((s.Op=4\/s.Op=7)/\s=⟨s.Op,[],0,s.A,eN,[],[]⟩/\jQ s.A)\/
 (s=⟨5,[],0,s.A,eN,s.BZ,s.b0⟩/\jQ s.A)\/
 (s=⟨6,s.BY,s.Max,s.A,s.B,s.BZ,[]⟩/\hl s.BY=true/\(1<=s.Max/\s.Max<=16)/\jQ s.A/\jQ s.B)\/
 (s=⟨8,[],s.Max,eN,eN,[],[]⟩/\0<=s.Max/\s.Max<=999)
mutual
def wc:Bj->Nat->Prop
 |⟨Op,BY,Max,A,B,BZ,a⟩,d=>d<=12/\Km ⟨Op,BY,Max,A,B,BZ,a⟩/\lH BZ (d+1)/\lH a (d+1)
def lH:List Bj->Nat->Prop
 |[],_=>True
 |s::l,d=>wc s d/\lH l d
end
def x0(s:Bj)(d:Nat):wc s d↔d<=12/\Km s/\lH s.BZ (d+1)/\lH s.b0 (d+1):=by cases s;rfl
def AU{e:Bi}(h:oQ e=true):e=eN:=by
 let⟨a,b,c,l⟩:=e;unfold oQ at h;simp only[cb,fx]at h;obtain⟨⟨⟨rfl,rfl⟩,rfl⟩,h⟩:=h;rw[oJ]at h;subst h;rfl
def we{e:Bi}(hi:oe e)(h:h9 e 1=0):jQ e:=by
 let⟨a,b⟩:=awR (ge e) e 1 (fS _) hi h (by omega)
 exact⟨a,by omega⟩
def awY{s:Bj}{d:Int}(hi:sP s)(h:lF s d=0):d<=12/\Km s:=by
 let⟨u,t,i,m,r,q⟩:=(aaO s).1 hi;unfold lF at h;split at h
 ·omega
 rename_i n;split at h
 ·omega
 rename_i j;split at h
 ·rename_i g;exact absurd h g.2
 rename_i e;split at h
 ·rename_i g;exact absurd h g.2
 rename_i k;split at h
 ·omega
 rename_i w;refine⟨by omega,?_⟩
 simp only[xn,not_and,vT,Bool.not_eq_true,Decidable.not_not]at n j e k;let⟨o,f,l⟩:=n
 have x:1<=s.Op/\s.Op<=8:=by
  by_cases p:1<=s.Op/\s.Op<=8
  ·exact p
  ·rw[show k8 s.Op=(⟨false,false,false,false,false,false⟩,false) by
    unfold k8;rw[de<|by omega,de<|by omega,de<|by omega,de<|by omega,de<|by omega,de<|by omega]]at o
   cases o
 let⟨Op,BY,Max,A,B,BZ,y⟩:=s;simp only at *
 obtain rfl|rfl|rfl|rfl|rfl|rfl|rfl|rfl:Op=1\/Op=2\/Op=3\/Op=4\/Op=5\/Op=6\/Op=7\/Op=8:=by omega
 all_goals
  simp only[EU,ui,k8]at f l j e k;simp[-List.length_eq_zero_iff]at f l j e k
 all_goals unfold Km;simp only[]
 ·obtain⟨⟨⟨c,rfl⟩,b⟩,a⟩:=f;obtain rfl:=AU c;obtain rfl:=gQ b;obtain rfl:=gQ a;exact kP ⟨kP trivial,rfl,j,we i e⟩
 ·obtain⟨⟨⟨c,rfl⟩,b⟩,a⟩:=f;obtain rfl:=AU c;obtain rfl:=gQ b;obtain rfl:=gQ a;exact kP ⟨iR trivial,rfl,j,we i e⟩
 ·obtain⟨⟨⟨rfl,rfl⟩,b⟩,a⟩:=f;obtain rfl:=gQ b;obtain rfl:=gQ a;exact iR<|kP ⟨rfl,we i e,we m k⟩
 ·obtain⟨⟨⟨⟨rfl,c⟩,rfl⟩,b⟩,a⟩:=f;obtain rfl:=AU c;obtain rfl:=gQ b;obtain rfl:=gQ a;exact iR<|iR<|kP ⟨kP trivial,rfl,we i e⟩
 ·obtain⟨⟨rfl,c⟩,rfl⟩:=f;obtain rfl:=AU c;exact iR<|iR<|iR<|kP ⟨rfl,we i e⟩
 ·obtain rfl:=gQ f;exact iR<|iR<|iR<|iR<|kP ⟨rfl,j,l,we i e,we m k⟩
 ·obtain⟨⟨⟨⟨rfl,c⟩,rfl⟩,b⟩,a⟩:=f;obtain rfl:=AU c;obtain rfl:=gQ b;obtain rfl:=gQ a;exact iR<|iR<|kP ⟨iR trivial,rfl,we i e⟩
 ·obtain⟨⟨⟨⟨rfl,aT⟩,c⟩,b⟩,a⟩:=f;obtain rfl:=AU aT;obtain rfl:=AU c;obtain rfl:=gQ b;obtain rfl:=gQ a;exact iR (iR<|iR<|iR<|iR ⟨rfl,l⟩)
mutual
def ajI:∀(s:Bj) (d:Int) (r:Nat×Int),(sL s d r).2=0->r.2=0/\lF s d=0
 |⟨Op,BY,Max,A,B,BZ,c⟩,d,r,h=>by
  simp only[sL]at h;have a:=Kn BZ _ _<|Kn c _ _ h;simp only at a
  by_cases b:r.2=0
  ·rw[eI b]at a;exact⟨b,a⟩
  ·rw[de b]at a;exact absurd a b
def Kn:∀(l:List Bj) (d:Int) (r:Nat×Int),(jb l d r).2=0->r.2=0
 |[],d,r,h=>h
 |s::l,d,r,h=>by
  simp only[jb]at h;split at h
  ·exact h
  ·exact(ajI s d r<|Kn l d _ h).1
end
mutual
def awZ:∀(s:Bj) (d:Nat) (r:Nat×Int),sP s->(sL s (d:Int) r).1≠0->(sL s (d:Int) r).2=0->wc s d
 |⟨Op,BY,Max,A,B,BZ,b⟩,d,r,c,e,a=>by
  have h:=awY c (ajI _ _ _ a).2;let⟨m,l,k,j,g,f⟩:=(aaO _).1 c;have hd:YV ((d:Int)+1)=((d+1:Nat):Int):=by rw[wr]<;>omega
  simp only[sL,hd]at e a;have i:=Kn _ _ _ a;have n:=xV b ((d+1:Nat):Int)<|jb BZ ((d+1:Nat):Int) (k9 B<|k9 A<|r.1-1,if r.2=0 then lF ⟨Op,BY,Max,A,B,BZ,b⟩ d else r.2)
  exact⟨by omega,h.2,Rt BZ (d+1) _ g (by omega) i,Rt b (d+1) _ f e a⟩
def Rt:∀(l:List Bj) (d:Nat) (r:Nat×Int),sQ l->(jb l (d:Int) r).1≠0->(jb l (d:Int) r).2=0->lH l d
 |[],d,r,_,_,_=>trivial
 |s::l,d,r,c,b,a=>by
  simp only[jb]at b a;split at b
  ·rename_i h;exact absurd h b
  ·rename_i h;rw[de h]at a;have k:=xV l (d:Int)<|sL s (d:Int) r;exact⟨awZ s d r c.1 (by omega)<|Kn _ _ _ a,Rt l d _ c.2 b a⟩
end
def Ru(p:bk):Prop:=hl p.BY=true/\sJ p.Cq=0/\lH p.BZ 1
def Rv{p:bk}(hi:uk p)(h:n_ p=0):Ru p:=by
 unfold n_ at h;split at h
 ·omega
 rename_i b;split at h
 ·rename_i g;exact absurd h g
 rename_i a;split at h
 ·omega
 rename_i c;simp only[vT,Decidable.not_not]at b a;exact⟨b,a,Rt p.BZ 1 (401,0) hi.2.2.2 (λe=>c ⟨h,e⟩) h⟩
open Go Go.Ab Go.Proofs Tryz
def ind:Nat->UB
 | 0=>[]
 |d+1=>32::32::32::32::ind d
def cat:List UB->UB
 |[]=>[]
 |x::l=>x++cat l
def dR(d:Nat)(l:List UB):UB:=ind d++(cat l++[10])
abbrev fG(e:Bi):UB:=flat (b6 e)
abbrev gG(e:Bi):List Bm:=dH (b6 e)
mutual
def eS:Bj->Nat->UB
 |⟨Op,BY,Max,A,B,BZ,a⟩,d=>
  if Op=1 then dR d [[108,101,116,32],BY,[32,61,32],fG A,[59]]
  else if Op=2 then dR d [BY,[32,61,32],fG A,[59]]
  else if Op=3 then dR d [[112,117,116,32],fG A,[32,61,32],fG B,[59]]
  else if Op=4 then dR d [[100,101,108,101,116,101,32],fG A,[59]]
  else if Op=5 then dR d [[105,102,32],fG A,[32,123]]++(f8 BZ (d+1)++((if a.length=0 then[]else dR d [[125,32,101,108,115,101,32,123]]++f8 a (d+1))++dR d [[125]]))
  else if Op=6 then dR d [[102,111,114,32],BY,[32,61,32],fG A,[32,116,111,32],fG B,[32,109,97,120,32],Lib.decDigits Max.toNat,[32,123]]++(f8 BZ (d+1)++dR d [[125]])
  else if Op=7 then dR d [[101,109,105,116,32],fG A,[59]]
  else dR d [[97,98,111,114,116,32],Lib.decDigits Max.toNat,[59]]
def f8:List Bj->Nat->UB
 |[],_=>[]
 |s::l,d=>eS s d++f8 l d
end
mutual
def e':Bj->List Bm
 |⟨Op,BY,Max,A,B,BZ,a⟩=>
  if Op=1 then d' [108,101,116]::iS BY::bn [61]::(gG A++[bn [59]])
  else if Op=2 then iS BY::bn [61]::(gG A++[bn [59]])
  else if Op=3 then d' [112,117,116]::(gG A++bn [61]::(gG B++[bn [59]]))
  else if Op=4 then d' [100,101,108,101,116,101]::(gG A++[bn [59]])
  else if Op=5 then d' [105,102]::(gG A++bn [123]::(gM BZ++bn [125]::(if a.length=0 then[]else d' [101,108,115,101]::bn [123]::(gM a++[bn [125]]))))
  else if Op=6 then d' [102,111,114]::iS BY::bn [61]::(gG A++d' [116,111]::(gG B++d' [109,97,120]::py Max::bn [123]::(gM BZ++[bn [125]])))
  else if Op=7 then d' [101,109,105,116]::(gG A++[bn [59]])
  else[d' [97,98,111,114,116],py Max,bn [59]]
def gM:List Bj->List Bm
 |[]=>[]
 |s::l=>e' s++gM l
end
def rv{r:UB}{T:List Bm}(h:fc r T):∀d,fc (ind d++r) T
 | 0=>h
 |d+1=>ob (ob<|ob<|ob<|rv h d)
def sS{w r:UB}{T:List Bm}(a:w∈rl)(h:fc r T):fc (w++32::r) (d' w::T):=mL (t:=d' w) (xY a) EW (ob h)
def Ko{w r:UB}{T:List Bm}(a:hl w=true)(b:px r)(h:fc r T):fc (w++r) (iS w::T):=mL (t:=iS w) (aji a) (Kg (by simp[iS,py]) b) h
def ajJ{n:Int}{r:UB}{T:List Bm}(c:0<=n)(b:n<=2^63-1)(a:px r)(h:fc r T):fc (Lib.decDigits n.toNat++r) (py n::T):=mL (t:=py n) (ajj c b) (Kg (by simp[iS,py]) a) h
def Rw{r:UB}{T:List Bm}(h:fc r T):fc (32::61::32::r) (bn [61]::T):=ob (mL (t:=bn [61]) (rp<|by decide) EW<|ob h)
def E6{r:UB}{T:List Bm}(h:fc r T):fc (59::10::r) (bn [59]::T):=mL (t:=bn [59]) (rp<|by decide) aas (aar h)
def Kp{r:UB}{T:List Bm}(h:fc r T):fc (32::123::10::r) (bn [123]::T):=ob (mL (t:=bn [123]) (rp<|by decide) aas<|aar h)
def Rx{r:UB}{T:List Bm}(d:Nat)(h:fc r T):fc (dR d [[125]]++r) (bn [125]::T):=by
 have e:dR d [[125]]++r=ind d++(125::10::r):=by simp[dR,cat]
 rw[e];exact rv (mL (t:=bn [125]) (rp<|by decide) aas<|aar h) d
def ul{e:Bi}{r:UB}{T:List Bm}(a:hH e)(b:px r)(h:fc r T):fc (fG e++r) (gG e++T):=ajl e a r T b h
mutual
def aw0:∀(s:Bj) (d o:Nat),wc s o->∀(r:UB) (T:List Bm),fc r T->fc (eS s d++r) (e' s++T)
 |⟨Op,BY,Max,A,B,BZ,f⟩,d,o,h,r,T,c=>by
  let⟨_,p,m,l⟩:=(x0 _ _).1 h;have AV:=Ry BZ (d+1) _ m;have Rz:=Ry f (d+1) _ l;rcases p with⟨i,b,j,aT⟩|⟨b,aT,n⟩|⟨i,b,aT⟩|⟨b,aT⟩|⟨b,j,g,aT,n⟩|⟨b,g⟩
  ·simp only[Bj.mk.injEq,kY,lY]at b i;obtain⟨rfl,rfl,rfl,rfl⟩:=b;rcases i with rfl|rfl
   ·have e:eS ⟨1,BY,0,A,eN,[],[]⟩ d++r=ind d++([108,101,116]++32::(BY++32::61::32::(fG A++59::10::r))):=by simp[eS,dR,cat]
    have a:e' ⟨1,BY,0,A,eN,[],[]⟩++T=d' [108,101,116]::iS BY::bn [61]::(gG A++bn [59]::T):=by simp[e']
    rw[e,a];exact rv (sS (by decide)<|Ko j (ke rfl)<|Rw<|ul aT.1 (ke rfl)<|E6 c) d
   ·have e:eS ⟨2,BY,0,A,eN,[],[]⟩ d++r=ind d++(BY++32::61::32::(fG A++59::10::r)):=by simp[eS,dR,cat]
    have a:e' ⟨2,BY,0,A,eN,[],[]⟩++T=iS BY::bn [61]::(gG A++bn [59]::T):=by simp[e']
    rw[e,a];exact rv (Ko j (ke rfl)<|Rw<|ul aT.1 (ke rfl)<|E6 c) d
  ·simp only[Bj.mk.injEq,kY,lY]at b;obtain⟨rfl,rfl,rfl,rfl,rfl⟩:=b;have e:eS ⟨3,[],0,A,B,[],[]⟩ d++r=ind d++([112,117,116]++32::(fG A++32::61::32::(fG B++59::10::r))):=by simp[eS,dR,cat]
   have a:e' ⟨3,[],0,A,B,[],[]⟩++T=d' [112,117,116]::(gG A++bn [61]::(gG B++bn [59]::T)):=by simp[e']
   rw[e,a];exact rv (sS (by decide)<|ul aT.1 (ke rfl)<|Rw<|ul n.1 (ke rfl)<|E6 c) d
  ·simp only[Bj.mk.injEq,kY,lY]at b i;obtain⟨rfl,rfl,rfl,rfl,rfl⟩:=b;rcases i with rfl|rfl
   ·have e:eS ⟨4,[],0,A,eN,[],[]⟩ d++r=ind d++([100,101,108,101,116,101]++32::(fG A++59::10::r)):=by simp[eS,dR,cat]
    have a:e' ⟨4,[],0,A,eN,[],[]⟩++T=d' [100,101,108,101,116,101]::(gG A++bn [59]::T):=by simp[e']
    rw[e,a];exact rv (sS (by decide)<|ul aT.1 (ke rfl)<|E6 c) d
   ·have e:eS ⟨7,[],0,A,eN,[],[]⟩ d++r=ind d++([101,109,105,116]++32::(fG A++59::10::r)):=by simp[eS,dR,cat]
    have a:e' ⟨7,[],0,A,eN,[],[]⟩++T=d' [101,109,105,116]::(gG A++bn [59]::T):=by simp[e']
    rw[e,a];exact rv (sS (by decide)<|ul aT.1 (ke rfl)<|E6 c) d
  ·simp only[Bj.mk.injEq,kY,lY]at b;obtain⟨rfl,rfl,rfl,rfl⟩:=b;by_cases k:f.length=0
   ·have e:eS ⟨5,[],0,A,eN,BZ,f⟩ d++r=ind d++([105,102]++32::(fG A++32::123::10::(f8 BZ (d+1)++(dR d [[125]]++r)))):=by
     simp only[eS,k];simp[dR,cat]
    have a:e' ⟨5,[],0,A,eN,BZ,f⟩++T=d' [105,102]::(gG A++bn [123]::(gM BZ++bn [125]::T)):=by simp only[e',k];simp
    rw[e,a];exact rv (sS (by decide)<|ul aT.1 (ke rfl)<|Kp<|AV _ _<|Rx d c) d
   ·have e:eS ⟨5,[],0,A,eN,BZ,f⟩ d++r=ind d++([105,102]++32::(fG A++32::123::10::(f8 BZ (d+1)++(ind d++(125::32::([101,108,115,101]++32::123::10::(f8 f (d+1)++(dR d [[125]]++r)))))))):=by
     simp only[eS,k];simp[dR,cat]
    have a:e' ⟨5,[],0,A,eN,BZ,f⟩++T=d' [105,102]::(gG A++bn [123]::(gM BZ++bn [125]::d' [101,108,115,101]::bn [123]::(gM f++bn [125]::T))):=by simp only[e',k];simp
    rw[e,a];exact rv (sS (by decide)<|ul aT.1 (ke rfl)<|Kp<|AV _ _<|rv (mL (t:=bn [125]) (rp<|by decide) EW<|ob<|mL (t:=d' [101,108,115,101]) (xY<|by decide) EW<|Kp<|Rz _ _<|Rx d c) d) d
  ·simp only[Bj.mk.injEq,kY,lY]at b;obtain⟨rfl,rfl⟩:=b;have g:1<=Max/\Max<=16:=g
   have e:eS ⟨6,BY,Max,A,B,BZ,[]⟩ d++r=ind d++([102,111,114]++32::(BY++32::61::32::(fG A++32::([116,111]++32::(fG B++32::([109,97,120]++32::(Lib.decDigits Max.toNat++32::123::10::(f8 BZ (d+1)++(dR d [[125]]++r))))))))):=by
    simp[eS,dR,cat]
   have a:e' ⟨6,BY,Max,A,B,BZ,[]⟩++T=d' [102,111,114]::iS BY::bn [61]::(gG A++d' [116,111]::(gG B++d' [109,97,120]::py Max::bn [123]::(gM BZ++bn [125]::T))):=by simp[e']
   rw[e,a];exact rv (sS (by decide)<|Ko j (ke rfl)<|Rw<|ul aT.1 (ke rfl)<|ob<|sS (by decide)<|ul n.1 (ke rfl)<|ob<|sS (by decide)<|ajJ (by omega) (by omega) (ke rfl)<|Kp<|AV _ _<|Rx d c) d
  ·simp only[Bj.mk.injEq,kY,lY]at b;obtain⟨rfl,rfl,rfl,rfl,rfl,rfl⟩:=b;have g:0<=Max/\Max<=999:=g;have e:eS ⟨8,[],Max,eN,eN,[],[]⟩ d++r=ind d++([97,98,111,114,116]++32::(Lib.decDigits Max.toNat++59::10::r)):=by simp[eS,dR,cat]
   have a:e' ⟨8,[],Max,eN,eN,[],[]⟩++T=d' [97,98,111,114,116]::py Max::bn [59]::T:=by simp[e']
   rw[e,a];exact rv (sS (by decide)<|ajJ (by omega) (by omega) (ke rfl)<|E6 c) d
def Ry:∀(l:List Bj) (d a:Nat),lH l a->∀(r:UB) (T:List Bm),fc r T->fc (f8 l d++r) (gM l++T)
 |[],d,a,h,r,T,b=>b
 |s::l,d,a,h,r,T,b=>by
  have:=aw0 s d a h.1 _ _<|Ry l d a h.2 r T b
  simp only[f8,gM,eO];exact this
end
open Go Go.Ab Go.Proofs Tryz
def ajK(n:Nat)(s b:UB)(x:Int)(h:b.length+s.length<=1000000000):He n s (gu b) x=some ((s.length:Int),gu<|b++s):=by
 unfold He CI;rw[show(gu b).length+s.length=b.length+s.length by simp[gu],aaE<|by omega]
 simp[gu,aj,aF]
def aw1(n:Nat)(b:UB)(x:Int)(h:b.length<=1000000000):M7 n 10 (gu b) x=some (gu<|b++[10]):=by
 unfold M7 CI;rw[show(gu b).length+([10]:List Int).length=b.length+1 by simp[gu],aaE<|by omega]
 simp[gu,aj,aF]
def aaQ:∀l m:List UB,cat (l++m)=cat l++cat m
 |[],m=>rfl
 |x::l,m=>by simp only[gk,cat,aaQ l m,eO]
def aaR:∀d,ind (d+1)=ind d++[32,32,32,32]
 | 0=>rfl
 |d+1=>by
  show 32::32::32::32::ind (d+1)=(32::32::32::32::ind d)++[32,32,32,32]
  rw[aaR d];rfl
def Kq:∀d,(ind d).length=4*d
 | 0=>rfl
 |d+1=>by simp only[ind,UT,Kq d];omega
def aw2(n:Nat)(parts:List UB)(d:Nat)(b:UB)(k:b.length+(cat parts).length<=1000000000)(j:parts.length<=1000):∀m i,parts.length<i+m->i<=parts.length->
 Hf n parts (d:Int) m (gu<|b++cat (parts.take i)) (i:Int)=some (gu<|b++(cat parts++[10])):=by
 intro m;induction m with
 |zero=>intro i g f;omega
 |succ m h=>
  intro i g f;have e:cat parts=cat (parts.take i)++cat (parts.drop i):=by rw[<-aaQ,pK]
  have c:(cat parts).length=(cat<|parts.take i).length+(cat<|parts.drop i).length:=by rw[e,UO]
  simp only[Hf,Vi,Vh,UP,US];by_cases a:i<parts.length
  ·rw[gl parts i default a]at c;simp only[cat,UO]at c;simp only[a,YW,UL,bW a,aF];rw[ajK n _ _ _ (by rw[UO];omega),fz<|by omega]
   simp only[aj];have:=h (i+1) (by omega) (by omega)
   rw[AP parts i a,aaQ]at this;simp only[cat,gJ]at this;rw[eO];exact this
  ·simp only[a,UN,UK];obtain rfl:i=parts.length:=by omega
   rw[rH,aw1 n _ _ (by rw[UO];omega)]
   simp only[aj,eO]
def pB{n:Nat}(parts:List UB)(d:Nat)(b:UB)(l:b.length+(cat parts).length<=900000000)(j:parts.length<=10)(hd:d<=100)(k:200<=n):
 n2 n parts (gu b) (d:Int)=some (gu<|b++dR d parts):=by
 have c:∀m i,d<i+m->i<=d->Hg n parts (d:Int) m (gu<|b++ind i) (i:Int)=some (gu<|b++dR d parts):=by
  intro m;induction m with
  |zero=>intro i f e;omega
  |succ m g=>
   intro i f e;have h:=Kq i;simp only[Hg,Vk,Vj,UP];by_cases a:i<d
   ·simp only[a,YW,UL];rw[ajK n _ _ _ (by simp only[UO,UT,UU];omega),fz<|by omega]
    simp only[aj];have:=g (i+1) (by omega) (by omega)
    rw[aaR]at this;rw[eO];exact this
   ·simp only[a,UN,UK];obtain rfl:i=d:=by omega
    have:=aw2 n parts i (b++ind i) (by rw[UO];omega) (by omega) n 0 (by omega) (by omega)
    simp only[qj,cat,gJ]at this;rw[show((0:Nat):Int)=0 from rfl]at this
    rw[this,dR,eO]
 have:=c n 0 (by omega) (by omega)
 simp only[ind,gJ]at this;exact this
def nd(d:Nat)(l:List UB):(dR d l).length=4*d+(cat l).length+1:=by
 unfold dR;simp only[UO,Kq,UT,UU];omega
def og{e:Bi}(h:jQ e):(fG e).length<=4*dD e:=ti (ge e) e (fS _) h.1
mutual
def ajL:∀(s:Bj) (d:Nat),wc s d->(eS s d).length<=4*fst s
 |⟨Op,BY,Max,A,B,BZ,g⟩,d,h=>by
  let⟨hd,n,k,j⟩:=(x0 _ _).1 h;have t:=qn BZ (d+1) k;have r:=qn g (d+1) j;rcases n with⟨f,a,i,aT⟩|⟨a,aT,l⟩|⟨f,a,aT⟩|⟨a,aT⟩|⟨a,i,e,aT,l⟩|⟨a,e⟩
  ·simp only[Bj.mk.injEq,kY,lY]at a f;obtain⟨rfl,rfl,rfl,rfl⟩:=a;have b:=og aT;have c:=ru i;simp only at b c
   rcases f with rfl|rfl
   ·rw[show eS ⟨1,BY,0,A,eN,[],[]⟩ d=dR d [[108,101,116,32],BY,[32,61,32],fG A,[59]]by simp[eS],nd]
    simp only[cat,fst,UO,UT,UU];omega
   ·rw[show eS ⟨2,BY,0,A,eN,[],[]⟩ d=dR d [BY,[32,61,32],fG A,[59]]by simp[eS],nd]
    simp only[cat,fst,UO,UT,UU];omega
  ·simp only[Bj.mk.injEq,kY,lY]at a;obtain⟨rfl,rfl,rfl,rfl,rfl⟩:=a;have b:=og aT;have c:=og l;simp only at b c
   rw[show eS ⟨3,[],0,A,B,[],[]⟩ d=dR d [[112,117,116,32],fG A,[32,61,32],fG B,[59]]by simp[eS],nd]
   simp only[cat,fst,UO,UT,UU];omega
  ·simp only[Bj.mk.injEq,kY,lY]at a f;obtain⟨rfl,rfl,rfl,rfl,rfl⟩:=a;have b:=og aT;simp only at b
   rcases f with rfl|rfl
   ·rw[show eS ⟨4,[],0,A,eN,[],[]⟩ d=dR d [[100,101,108,101,116,101,32],fG A,[59]]by simp[eS],nd]
    simp only[cat,fst,UO,UT,UU];omega
   ·rw[show eS ⟨7,[],0,A,eN,[],[]⟩ d=dR d [[101,109,105,116,32],fG A,[59]]by simp[eS],nd]
    simp only[cat,fst,UO,UT,UU];omega
  ·simp only[Bj.mk.injEq,kY,lY]at a;obtain⟨rfl,rfl,rfl,rfl⟩:=a;have b:=og aT;simp only at b
   have c:(eS ⟨5,[],0,A,eN,BZ,g⟩ d).length<=(dR d [[105,102,32],fG A,[32,123]]).length+((f8 BZ<|d+1).length+(((dR d [[125,32,101,108,115,101,32,123]]).length+(f8 g<|d+1).length)+(dR d [[125]]).length)):=by
    by_cases m:g.length=0
    ·simp[eS,m]
    ·simp[eS,m];omega
   simp only[nd,cat,UO,UT,UU]at c;simp only[fst];omega
  ·simp only[Bj.mk.injEq,kY,lY]at a;obtain⟨rfl,rfl⟩:=a;have e:1<=Max/\Max<=16:=e;have b:=og aT;have c:=og l;have p:=ru i;have o:=E3 Max (by omega) (by omega)
   simp only at b c p
   have q:eS ⟨6,BY,Max,A,B,BZ,[]⟩ d=dR d [[102,111,114,32],BY,[32,61,32],fG A,[32,116,111,32],fG B,[32,109,97,120,32],Lib.decDigits Max.toNat,[32,123]]++(f8 BZ (d+1)++dR d [[125]]):=by simp[eS]
   rw[q];simp only[nd,cat,fst,UO,UT,UU];omega
  ·simp only[Bj.mk.injEq,kY,lY]at a;obtain⟨rfl,rfl,rfl,rfl,rfl,rfl⟩:=a;have e:0<=Max/\Max<=999:=e;have o:=E3 Max (by omega) (by omega)
   rw[show eS ⟨8,[],Max,eN,eN,[],[]⟩ d=dR d [[97,98,111,114,116,32],Lib.decDigits Max.toNat,[59]]by simp[eS],nd]
   simp only[cat,fst,UO,UT,UU];omega
def qn:∀(l:List Bj) (d:Nat),lH l d->(f8 l d).length<=4*dV l
 |[],d,h=>fS _
 |s::l,d,h=>by
  have b:=ajL s d h.1;have a:=qn l d h.2;simp only[f8,dV,UO];omega
end
def ajM(n:Nat)(i:Int)(b:0<=i)(a:i<=2^63-1):zp n i=some (Lib.decDigits i.toNat):=ajz n i b a
open Go Go.Ab Go.Proofs Tryz
def aw3(n:Nat):tM (n+1)=Nf n (tM n) (zr n) (zt n):=rfl
def aw4(n:Nat):zr (n+1)=Nh n (tM n) (zr n) (zt n):=rfl
def aw5(n:Nat):zt (n+1)=Ni n (tM n) (zr n) (zt n):=rfl
def wg{n:Nat}{e:Bi}(h:jQ e)(b:300<=n)(a:dD e<=1000000):nz n e=some (fG e):=awM (ge e) e n (fS _) h.1 (by have:=h.2;omega) a
def wh(n:Nat)(l:List Bj)(d:Nat)(b:UB):Prop:=tM n l (gu b) (d:Int)=some (gu<|b++f8 l (d+1),(d:Int))
def aw6{n d:Nat}{b:UB}{A:Bi}{BZ a:List Bj}(aT:jQ A)(p:dD A<=300000)(hd:d<=12)(k:400<=n)(l:b.length<=10000000)(o:(f8 BZ<|d+1).length<=10000000)(h:(f8 a<|d+1).length<=10000000)
 (j:∀c:UB,c.length<=b.length+4*dD A+100->wh n BZ d c) (i:∀c:UB,c.length<=b.length+4*dD A+200+(f8 BZ<|d+1).length->wh n a d c):
 zr (n+1) ⟨5,[],0,A,eN,BZ,a⟩ (gu b) (d:Int)=some (gu<|b++eS ⟨5,[],0,A,eN,BZ,a⟩ d,(d:Int)):=by
 have m:=og aT;rw[aw4];simp only[Nh,Ng];rw[wg aT (by omega)<|by omega]
 simp only[aj];rw[pB _ d b (by simp only[cat,UO,UT,UU];omega) (by simp) (by omega)<|by omega]
 simp only[aj];have f:=j (b++dR d [[105,102,32],fG A,[32,123]]) (by simp only[UO,nd,cat,UT,UU];omega)
 unfold wh at f;rw[f];simp only[aj];by_cases g:a.length=0
 ·rw[show decide (0<(a.length:Int))=false from en (by omega)]
  simp only[UK];rw[pB _ d _ (by simp only[UO,nd,cat,UT,UU];omega) (by simp) (by omega)<|by omega]
  simp only[aj];have:eS ⟨5,[],0,A,eN,BZ,a⟩ d=dR d [[105,102,32],fG A,[32,123]]++(f8 BZ (d+1)++dR d [[125]]):=by simp[eS,g]
  rw[this];simp only[eO]
 ·rw[show decide (0<(a.length:Int))=true from fp (by omega)]
  simp only[UL];rw[pB _ d _ (by simp only[UO,nd,cat,UT,UU];omega) (by simp) (by omega)<|by omega]
  simp only[aj];have e:=i (b++dR d [[105,102,32],fG A,[32,123]]++f8 BZ (d+1)++dR d [[125,32,101,108,115,101,32,123]]) (by simp only[UO,nd,cat,UT,UU];omega)
  unfold wh at e;rw[e];simp only[aj];rw[pB _ d _ (by simp only[UO,nd,cat,UT,UU];omega) (by simp) (by omega)<|by omega]
  simp only[aj];have:eS ⟨5,[],0,A,eN,BZ,a⟩ d=dR d [[105,102,32],fG A,[32,123]]++(f8 BZ (d+1)++((dR d [[125,32,101,108,115,101,32,123]]++f8 a (d+1))++dR d [[125]])):=by simp[eS,g]
  rw[this];simp only[eO]
def aw7{n d:Nat}{b BY:UB}{Max:Int}{A B:Bi}{BZ:List Bj}(aT:jQ A)(a:jQ B)(r:dD A<=300000)(h:dD B<=300000)(g:hl BY=true)(j:1<=Max/\Max<=16)(hd:d<=12)(i:400<=n)(k:b.length<=10000000)(o:(f8 BZ<|d+1).length<=10000000)
 (f:∀e:UB,e.length<=b.length+4*dD A+4*dD B+120->wh n BZ d e):
 zt (n+1) ⟨6,BY,Max,A,B,BZ,[]⟩ (gu b) (d:Int)=some (gu<|b++eS ⟨6,BY,Max,A,B,BZ,[]⟩ d,(d:Int)):=by
 have m:=og aT;have l:=og a;have q:=ru g;have p:=E3 Max (by omega) (by omega)
 rw[aw5];simp only[Ni];rw[wg aT (by omega)<|by omega,wg a (by omega)<|by omega,ajM n Max (by omega)<|by omega]
 simp only[aj];rw[pB _ d b (by simp only[cat,UO,UT,UU];omega) (by simp) (by omega)<|by omega]
 simp only[aj];have c:=f (b++dR d [[102,111,114,32],BY,[32,61,32],fG A,[32,116,111,32],fG B,[32,109,97,120,32],Lib.decDigits Max.toNat,[32,123]]) (by simp only[UO,nd,cat,UT,UU];omega)
 unfold wh at c;rw[c];simp only[aj];rw[pB _ d _ (by simp only[UO,nd,cat,UT,UU];omega) (by simp) (by omega)<|by omega]
 simp only[aj];have:eS ⟨6,BY,Max,A,B,BZ,[]⟩ d=dR d [[102,111,114,32],BY,[32,61,32],fG A,[32,116,111,32],fG B,[32,109,97,120,32],Lib.decDigits Max.toNat,[32,123]]++(f8 BZ (d+1)++dR d [[125]]):=by simp[eS]
 rw[this];simp only[eO]
def aaS:∀(l:List Bj) (i d:Nat),i<l.length->lH l d->wc (l.getD i default) d
 |[],i,d,h,_=>by simp at h
 |x::l,0,d,h,a=>a.1
 |x::l,i+1,d,h,a=>by simp only[oO];exact aaS l i d (by simpa using h) a.2
def aaT:∀(l m:List Bj) (d:Nat),lH (l++m) d↔lH l d/\lH m d
 |[],m,d=>by simp[lH]
 |x::l,m,d=>by simp only[gk,lH,aaT l m d,and_assoc]
def aaU:∀(l m:List Bj) (d:Nat),f8 (l++m) d=f8 l d++f8 m d
 |[],m,d=>rfl
 |x::l,m,d=>by simp only[gk,f8,aaU l m d,eO]
def aw8:∀(n:Nat) (l:List Bj) (d:Nat) (b:UB),lH l (d+1)->d<=12->dV l<=300000->2*dV l+500<=n->b.length+4*dV l<=9000000->wh n l d b:=by
 intro n;induction n using Nat.strongRecOn with
 |_ n w=>
  intro l d b x hd U S T;obtain⟨n,rfl⟩:∃k,n=k+2:=⟨n-2,by omega⟩
  have hlen:=vZ l;unfold wh;rw[aw3];unfold Nf;rw[fz<|by omega]
  have K:∀m i,l.length<i+m->i<=l.length->Hl (n+1) (tM<|n+1) (zr<|n+1) (zt<|n+1) l m (gu<|b++f8 (l.take i) (d+1)) ((d+1:Nat):Int) (i:Int)=some (gu<|b++f8 l (d+1),(d:Int)):=by
   intro m;induction m with
   |zero=>intro i M L;omega
   |succ m H=>
    intro i M L;simp only[Hl,Vz,Vy,UP,US];by_cases g:i<l.length
    ·simp only[g,YW,UL,bW g,aF];have y:=aaS l i (d+1) g x;have P:lH (l.take i) (d+1):=((aaT (l.take i) (l.drop i)<|d+1).1 (by rw[pK];exact x)).1
     have Q:=qn _ _ P
     have E:dV l=dV (l.take i)+(fst (l.getD i default)+1+dV (l.drop<|i+1)):=by
      have:dV l=dV (l.take i++l.drop i):=by rw[pK]
      rw[aaj,gl l i default g]at this;simpa only[dV]using this
     have a:=H (i+1) (by omega) (by omega)
     rw[AP l i g,aaU,<-eO]at a;simp only[f8,gJ]at a;have t:(b++f8 (l.take i) (d+1)).length<=b.length+4*dV (l.take i):=by rw[UO];omega
     generalize b++f8 (l.take i) (d+1)=E7 at a t
     rw[fz<|by omega]
     generalize l.getD i default=s at y E a
     have F:=fst_eq s;let⟨R,I,e,f⟩:=(x0 _ _).1 y;let⟨Op,BY,Max,A,B,BZ,O⟩:=s;simp only at F e f
     rcases I with⟨j,c,u,aT⟩|⟨c,aT,q⟩|⟨j,c,aT⟩|⟨c,aT⟩|⟨c,u,p,aT,q⟩|⟨c,p⟩
     ·simp only[Bj.mk.injEq,kY,lY]at c j;obtain⟨rfl,rfl,rfl,rfl⟩:=c;have o:=og aT;have r:=ru u;simp only at o r
      rcases j with rfl|rfl
      ·simp only[show tI (n+1) 1=some (.inl ())from rfl,aj,jt.on,Vu]
       rw[wg aT (by omega) (by show dD A<=_;omega)]
       simp only[aj];rw[pB _ (d+1) E7 (by simp only[cat,UO,UT,UU];omega) (by simp) (by omega)<|by omega]
       simp only[aj];rw[show eS ⟨1,BY,0,A,eN,[],[]⟩ (d+1)=dR (d+1) [[108,101,116,32],BY,[32,61,32],fG A,[59]]by simp[eS]]at a
       exact a
      ·simp only[show tI (n+1) 2=some (.inr<|.inl ())from rfl,aj,jt.on,Vt]
       rw[wg aT (by omega) (by show dD A<=_;omega)]
       simp only[aj];rw[pB _ (d+1) E7 (by simp only[cat,UO,UT,UU];omega) (by simp) (by omega)<|by omega]
       simp only[aj];rw[show eS ⟨2,BY,0,A,eN,[],[]⟩ (d+1)=dR (d+1) [BY,[32,61,32],fG A,[59]]by simp[eS]]at a
       exact a
     ·simp only[Bj.mk.injEq,kY,lY]at c;obtain⟨rfl,rfl,rfl,rfl,rfl⟩:=c;have o:=og aT;have r:=og q;simp only at o r
      simp only[show tI (n+1) 3=some (.inr<|.inr<|.inl ())from rfl,aj,jt.on,Vw]
      rw[wg aT (by omega) (by show dD A<=_;omega),wg q (by omega) (by show dD B<=_;omega)]
      simp only[aj];rw[pB _ (d+1) E7 (by simp only[cat,UO,UT,UU];omega) (by simp) (by omega)<|by omega]
      simp only[aj];rw[show eS ⟨3,[],0,A,B,[],[]⟩ (d+1)=dR (d+1) [[112,117,116,32],fG A,[32,61,32],fG B,[59]]by simp[eS]]at a
      exact a
     ·simp only[Bj.mk.injEq,kY,lY]at c j;obtain⟨rfl,rfl,rfl,rfl,rfl⟩:=c;have o:=og aT;simp only at o
      rcases j with rfl|rfl
      ·simp only[show tI (n+1) 4=some (.inr<|.inr<|.inr<|.inl ())from rfl,aj,jt.on,Vx]
       rw[wg aT (by omega) (by show dD A<=_;omega)]
       simp only[aj];rw[pB _ (d+1) E7 (by simp only[cat,UO,UT,UU];omega) (by simp) (by omega)<|by omega]
       simp only[aj];rw[show eS ⟨4,[],0,A,eN,[],[]⟩ (d+1)=dR (d+1) [[100,101,108,101,116,101,32],fG A,[59]]by simp[eS]]at a
       exact a
      ·simp only[show tI (n+1) 7=some (.inr<|.inr<|.inr<|.inr<|.inr<|.inr<|.inl ())from rfl,aj,jt.on,Vv]
       rw[wg aT (by omega) (by show dD A<=_;omega)]
       simp only[aj];rw[pB _ (d+1) E7 (by simp only[cat,UO,UT,UU];omega) (by simp) (by omega)<|by omega]
       simp only[aj];rw[show eS ⟨7,[],0,A,eN,[],[]⟩ (d+1)=dR (d+1) [[101,109,105,116,32],fG A,[59]]by simp[eS]]at a
       exact a
     ·simp only[Bj.mk.injEq,kY,lY]at c;obtain⟨rfl,rfl,rfl,rfl⟩:=c;have N:=qn _ _ e;have J:=qn _ _ f;simp only[show tI (n+1) 5=some (.inr<|.inr<|.inr<|.inr<|.inl ())from rfl,aj,jt.on]
      rw[aw6 (A:=A) aT (by show dD A<=_;omega) (by omega) (by omega) (by omega) (by omega) (by omega)
       (λh z=>w n (by omega) BZ (d+1) h e (by omega) (by omega) (by omega)<|by omega) (λh z=>w n (by omega) O (d+1) h f (by omega) (by omega) (by omega)<|by omega)]
      exact a
     ·simp only[Bj.mk.injEq,kY,lY]at c;obtain⟨rfl,rfl⟩:=c;have N:=qn _ _ e;simp only[show tI (n+1) 6=some (.inr<|.inr<|.inr<|.inr<|.inr<|.inl ())from rfl,aj,jt.on]
      rw[aw7 (A:=A) (B:=B) aT q (by show dD A<=_;omega) (by show dD B<=_;omega) u p (by omega) (by omega) (by omega) (by omega)
       (λh z=>w n (by omega) BZ (d+1) h e (by omega) (by omega) (by omega)<|by omega)]
      exact a
     ·simp only[Bj.mk.injEq,kY,lY]at c;obtain⟨rfl,rfl,rfl,rfl,rfl,rfl⟩:=c;have p:0<=Max/\Max<=999:=p;have r:=E3 Max (by omega) (by omega)
      simp only[show tI (n+1) 8=some (.inr<|.inr<|.inr<|.inr<|.inr<|.inr<|.inr ())from rfl,aj,jt.on,Vl]
      rw[ajM _ Max (by omega)<|by omega]
      simp only[aj];rw[pB _ (d+1) E7 (by simp only[cat,UO,UT,UU];omega) (by simp) (by omega)<|by omega]
      simp only[aj];rw[show eS ⟨8,[],Max,eN,eN,[],[]⟩ (d+1)=dR (d+1) [[97,98,111,114,116,32],Lib.decDigits Max.toNat,[59]]by simp[eS]]at a
      exact a
    ·simp only[g,UN,UK];obtain rfl:i=l.length:=by omega
     rw[rH,show YV (((d+1:Nat):Int)-1)=(d:Int)by rw[wr]<;>omega]
  have:=K (n+1) 0 (by omega) (by omega)
  simp only[qj,f8,gJ]at this;exact this
open Go Go.Ab Go.Proofs Tryz
section
variable {l:List Bm}
def oS{i n:Nat}{t:Bm}{T R:List Bm}{w:UB}(a:l.length<=1000000000)(aT:br l i (t::T) R)(h:gF [t] w=true):l5 n w ⟨l,(i:Int)⟩=some (true,((i+1:Nat):Int)):=by
 have:=aT.lt
 rw[Ka n l i w<|by omega,aT.is,show gF ((t::T)++R) w=true from h];rfl
def iz{i n:Nat}{t:Bm}{T R:List Bm}{w:UB}(a:l.length<=1000000000)(aT:br l i (t::T) R)(h:gF [t] w=false):l5 n w ⟨l,(i:Int)⟩=some (false,(i:Int)):=by
 have:=aT.lt
 rw[Ka n l i w<|by omega,aT.is,show gF ((t::T)++R) w=false from h];rfl
def sT{i n:Nat}{t:Bm}{T R:List Bm}{w:UB}(a:l.length<=1000000000)(aT:br l i (t::T) R)(h:gF [t] w=true):l6 n w ⟨l,(i:Int)⟩=some (.ret () ((i+1:Nat):Int)):=by
 have:=aT.lt
 rw[ER n l i w (by omega)<|by omega,aT.is,show gF ((t::T)++R) w=true from h];rfl
def E8{i n:Nat}{T R:List Bm}{s:Bj}(a:l.length<=1000000000)(aT:br l i (bn [59]::T) R):tS n s ⟨l,(i:Int)⟩=some (.ret s ((i+1:Nat):Int)):=by
 have:=aT.lt
 rw[avB n s l i (by omega)<|by omega,aT.is];rfl
def AW{i n:Nat}{t:Bm}{T R:List Bm}{kd:Int}(d:l.length<=1000000000)(aT:br l i (t::T) R)(h:t.Cc=kd):∃u:Bm,sm n kd ⟨l,(i:Int)⟩=some (.ret u ((i+1:Nat):Int))/\u.Text=t.Text/\u.N=t.N:=by
 have:=aT.lt
 let⟨b,a,c⟩:=Ro aT.hd;refine⟨l.getD i default,?_,a,c⟩
 rw[avA n l i kd d<|by omega,eI ⟨this,by rw[b,h]⟩]
def um{i n:Nat}{e:Bi}{R:List Bm}(h:l.length<=1000000000)(f:mJ l)(b:jQ e)(aT:br l i (gG e) R)(g:kf R<1)(j:24*l.length+100<=n):
 iZ n 1 0 ⟨l,(i:Int)⟩=some (.ret e ((i+(gG e).length:Nat):Int)):=by
 have k:=aaw e.Op;have c:fO e 1=gG e:=by unfold fO gf;rw[de<|by omega]
 have a:=Rn e 1 b.1;have d:=(awC h f (ge e) e (fS _) b.1).1 1 i 0 R (by omega) (by omega) (by rw[c];exact aT) g<|kP (by have:=b.2;omega)
 rw[c]at d a;have:=aT.le a
 exact d n (by omega)
def nI{α:Type}{x:α}{a b:Nat}(h:a=b):(some (.ret x (a:Int)):Option<|aG α Int)=some (.ret x (b:Int)):=by rw[h]
def ajO{s:Bj}{d:Nat}(h:wc s d)(R:List Bm):gF (e' s++R) [125]=false/\gF (e' s++R) [101,108,115,101]=false:=by
 let⟨_,c,_,_⟩:=(x0 _ _).1 h;let⟨Op,BY,Max,A,B,BZ,i⟩:=s;rcases c with⟨b,a,e,aT⟩|⟨a,aT,g⟩|⟨b,a,aT⟩|⟨a,aT⟩|⟨a,e,f,aT,g⟩|⟨a,f⟩
 ·simp only at b
  rcases b with rfl|rfl<;>simp[e',gF,d',iS]
 ·simp only[Bj.mk.injEq,kY,lY]at a;obtain⟨rfl,rfl,rfl,rfl,rfl⟩:=a;simp[e',gF,d',iS]
 ·simp only at b
  rcases b with rfl|rfl<;>simp[e',gF,d',iS]
 ·simp only[Bj.mk.injEq,kY,lY]at a;obtain⟨rfl,rfl,rfl,rfl⟩:=a;simp[e',gF,d',iS]
 ·simp only[Bj.mk.injEq,kY,lY]at a;obtain⟨rfl,rfl⟩:=a;simp[e',gF,d',iS]
 ·simp only[Bj.mk.injEq,kY,lY]at a;obtain⟨rfl,rfl,rfl,rfl,rfl,rfl⟩:=a;simp[e',gF,d',iS]
def Kr(R:List Bm):kf (bn [59]::R)<1:=by have:kf (bn [59]::R)=0:=rfl;omega
def aw9(R:List Bm):kf (bn [61]::R)<1:=by have:kf (bn [61]::R)=0:=rfl;omega
def ajP(R:List Bm):kf (bn [123]::R)<1:=by have:kf (bn [123]::R)=0:=rfl;omega
def aw'(R:List Bm):kf (d' [116,111]::R)<1:=by have:kf (d' [116,111]::R)=0:=rfl;omega
def aw_(R:List Bm):kf (d' [109,97,120]::R)<1:=by have:kf (d' [109,97,120]::R)=0:=rfl;omega
def ne(l:List Bm)(n d i:Nat)(s:Bj):Prop:=zX n (d:Int) ⟨l,(i:Int)⟩=some (.ret s ((i+(e' s).length:Nat):Int))
def uo(l:List Bm)(n d i:Nat)(b:List Bj):Prop:=tV n (d:Int) ⟨l,(i:Int)⟩=some (.ret b ((i+(gM b).length+2:Nat):Int))
def axa{i n d:Nat}{BY:UB}{A:Bi}{R:List Bm}(a:l.length<=1000000000)(k:mJ l)(m:jQ A)(aT:br l i (e' ⟨1,BY,0,A,eN,[],[]⟩) R)(j:24*l.length+100<=n):ne l (n+1) d i ⟨1,BY,0,A,eN,[],[]⟩:=by
 have e:e' ⟨1,BY,0,A,eN,[],[]⟩=d' [108,101,116]::iS BY::bn [61]::(gG A++[bn [59]]):=by simp[e']
 unfold ne;rw[e]at aT ⊢;have c:=aT.gv;have b:=c.gv;have f:=b.gv;let⟨u,h,g,o⟩:=AW (n:=n) (kd:=1) a c rfl;rw[v7];unfold q_;rw[oS a aT rfl];simp only[aj,UL];rw[h];simp only[aj,aG.on];rw[sT a b rfl];simp only[aj,aG.on];rw[um a k m f.nc (Kr _) j];simp only[aj,aG.on];rw[E8 a f.iy];simp only[aj,aG.on,g];exact nI (by simp only[UT,UO,UU];omega)
def axb{i n d:Nat}{BY:UB}{A:Bi}{R:List Bm}(a:l.length<=1000000000)(j:mJ l)(k:jQ A)(aT:br l i (e' ⟨2,BY,0,A,eN,[],[]⟩) R)(h:24*l.length+100<=n):ne l (n+1) d i ⟨2,BY,0,A,eN,[],[]⟩:=by
 have e:e' ⟨2,BY,0,A,eN,[],[]⟩=iS BY::bn [61]::(gG A++[bn [59]]):=by simp[e']
 unfold ne;rw[e]at aT ⊢;have b:=aT.gv;have c:=b.gv;let⟨u,g,f,m⟩:=AW (n:=n) (kd:=1) a aT rfl;rw[v7];unfold q_;simp only[iz a aT (show gF [iS BY] _=false from rfl),aj,UK]
 rw[g];simp only[aj,aG.on];rw[sT a b rfl];simp only[aj,aG.on];rw[um a j k c.nc (Kr _) h];simp only[aj,aG.on];rw[E8 a c.iy];simp only[aj,aG.on,f];exact nI (by simp only[UT,UO,UU];omega)
def axc{i n d:Nat}{A B:Bi}{R:List Bm}(a:l.length<=1000000000)(c:mJ l)(k:jQ A)(j:jQ B)(aT:br l i (e' ⟨3,[],0,A,B,[],[]⟩) R)(b:24*l.length+100<=n):ne l (n+1) d i ⟨3,[],0,A,B,[],[]⟩:=by
 have e:e' ⟨3,[],0,A,B,[],[]⟩=d' [112,117,116]::(gG A++bn [61]::(gG B++[bn [59]])):=by simp[e']
 unfold ne;rw[e]at aT ⊢;have g:=aT.gv;have f:=g.iy;have h:=f.gv;rw[v7];unfold q_;rw[iz a aT rfl];simp only[aj,UK];rw[oS a aT rfl];simp only[aj,UL];rw[um a c k g.nc (aw9 _) b];simp only[aj,aG.on];rw[sT a f rfl];simp only[aj,aG.on];rw[um a c j h.nc (Kr _) b];simp only[aj,aG.on];rw[E8 a h.iy];simp only[aj,aG.on];exact nI (by simp only[UT,UO,UU];omega)
def axd{i n d:Nat}{A:Bi}{R:List Bm}(a:l.length<=1000000000)(f:mJ l)(g:jQ A)(aT:br l i (e' ⟨4,[],0,A,eN,[],[]⟩) R)(c:24*l.length+100<=n):ne l (n+1) d i ⟨4,[],0,A,eN,[],[]⟩:=by
 have e:e' ⟨4,[],0,A,eN,[],[]⟩=d' [100,101,108,101,116,101]::(gG A++[bn [59]]):=by simp[e']
 unfold ne;rw[e]at aT ⊢;have b:=aT.gv;rw[v7];unfold q_;rw[iz a aT rfl];simp only[aj,UK];rw[iz a aT rfl];simp only[aj,UK];rw[oS a aT rfl];simp only[aj,UL];rw[um a f g b.nc (Kr _) c];simp only[aj,aG.on];rw[E8 a b.iy];simp only[aj,aG.on];exact nI (by simp only[UT,UO,UU];omega)
def axe{i n d:Nat}{A:Bi}{R:List Bm}(a:l.length<=1000000000)(f:mJ l)(g:jQ A)(aT:br l i (e' ⟨7,[],0,A,eN,[],[]⟩) R)(c:24*l.length+100<=n):ne l (n+1) d i ⟨7,[],0,A,eN,[],[]⟩:=by
 have e:e' ⟨7,[],0,A,eN,[],[]⟩=d' [101,109,105,116]::(gG A++[bn [59]]):=by simp[e']
 unfold ne;rw[e]at aT ⊢;have b:=aT.gv;rw[v7];unfold q_;rw[iz a aT rfl];simp only[aj,UK];rw[iz a aT rfl];simp only[aj,UK];rw[iz a aT rfl];simp only[aj,UK];rw[oS a aT rfl];simp only[aj,UL];rw[um a f g b.nc (Kr _) c];simp only[aj,aG.on];rw[E8 a b.iy];simp only[aj,aG.on];exact nI (by simp only[UT,UO,UU];omega)
def axf{i n d:Nat}{Max:Int}{R:List Bm}(a:l.length<=1000000000)(aT:br l i (e' ⟨8,[],Max,eN,eN,[],[]⟩) R):ne l (n+1) d i ⟨8,[],Max,eN,eN,[],[]⟩:=by
 have e:e' ⟨8,[],Max,eN,eN,[],[]⟩=[d' [97,98,111,114,116],py Max,bn [59]]:=by simp[e']
 unfold ne;rw[e]at aT ⊢;have b:=aT.gv;have g:=b.gv;let⟨u,f,h,c⟩:=AW (n:=n) (kd:=3) a b rfl;rw[v7];unfold q_;rw[iz a aT rfl];simp only[aj,UK];rw[iz a aT rfl];simp only[aj,UK];rw[iz a aT rfl];simp only[aj,UK];rw[iz a aT rfl];simp only[aj,UK];rw[oS a aT rfl];simp only[aj,UL];rw[f];simp only[aj,aG.on];rw[E8 a g];simp only[aj,aG.on,c];exact nI (by simp only[UT,UO,UU])
end
open Go Go.Ab Go.Proofs Tryz
section
variable {l:List Bm}
def ajQ(l:List Bm)(n d k:Nat)(b:List Bj):Prop:=∀(i m:Nat) (a:List Bj),b.length<m->a.length+b.length<=1000000->
 Dg n (tV n) (zX n) (Dh n) (d:Int) ⟨l,(i:Int)⟩ m (k:Int) a=some (.ret (a++b) ((k+(gM b).length+1:Nat):Int))
def RA{n d i:Nat}{b:List Bj}{T R:List Bm}(f:l.length<=1000000000)(aT:br l i (bn [123]::T) R)(hd:d<=12)(a:b.length<n)(g:b.length<=1000000)(h:ajQ l n d (i+1) b):uo l (n+1) d i b:=by
 unfold uo;have:=aT.lt
 rw[avC];unfold Oa N_;rw[AN,aj,show decide ((12:Int)<(d:Int))=false from en (by omega)]
 have e:(bif (bif iD l i [123]then false else false) then(true:Bool)else false)=false:=by cases iD l i [123]<;>rfl
 have c:(bif iD l i [123]then false else false)=false:=by cases iD l i [123]<;>rfl
 rw[c];simp only[UK];rw[sT f aT rfl];simp only[aj,aG.on];rw[h i n [] a (by simp;omega)]
 exact nI (by omega)
def axg{i n d:Nat}{A:Bi}{BZ b:List Bj}{R:List Bm}(a:l.length<=1000000000)(q:mJ l)(t:jQ A)(u:gF R [101,108,115,101]=false)(aT:br l i (e' ⟨5,[],0,A,eN,BZ,b⟩) R)(p:24*l.length+100<=n)
 (s:∀y o,br l (i+1+(gG A).length) (bn [123]::(gM BZ++bn [125]::y)) o->uo l n d (i+1+(gG A).length) BZ)
 (w:∀k o,b.length≠0->br l k (bn [123]::(gM b++[bn [125]])) o->uo l n d k b):ne l (n+1) d i ⟨5,[],0,A,eN,BZ,b⟩:=by
 unfold ne;by_cases j:b.length=0
 ·have e:e' ⟨5,[],0,A,eN,BZ,b⟩=d' [105,102]::(gG A++bn [123]::(gM BZ++bn [125]::[])):=by simp only[e',j];simp
  obtain rfl:=gQ j;rw[e]at aT ⊢;have h:=aT.gv;have f:=h.iy;have g:=s [] R f;unfold uo at g;have c:=(show br l (i+1+(gG A).length) ((bn [123]::(gM BZ++[bn [125]]))++[]) R by rw[gJ];exact f).iy
  have m:=f.le (by simp)
  simp only[UT,UO,UU]at c m;rw[v7];unfold q_ HX;rw[iz a aT rfl];simp only[aj,UK];rw[iz a aT rfl];simp only[aj,UK];rw[iz a aT rfl];simp only[aj,UK];rw[iz a aT rfl];simp only[aj,UK];rw[iz a aT rfl];simp only[aj,UK];rw[oS a aT rfl];simp only[aj,UL];rw[um a q t h.nc (ajP _) p];simp only[aj,aG.on];rw[g];simp only[aj,aG.on];rw[Ka n l _ _<|by omega,show i+1+(gG A).length+(gM BZ).length+2=i+1+(gG A).length+((gM BZ).length+(0+1)+1)by omega,c.is,show gF ([]++R) [101,108,115,101]=false from u]
  simp only[aj,UK];exact nI (by simp only[UT,UO,UU];omega)
 ·have e:e' ⟨5,[],0,A,eN,BZ,b⟩=d' [105,102]::(gG A++bn [123]::(gM BZ++bn [125]::(d' [101,108,115,101]::bn [123]::(gM b++[bn [125]])))):=by simp only[e',j];simp
  rw[e]at aT ⊢;have h:=aT.gv;have f:=h.iy;have g:=s _ R f;unfold uo at g;have c:=(show br l (i+1+(gG A).length) ((bn [123]::(gM BZ++[bn [125]]))++(d' [101,108,115,101]::bn [123]::(gM b++[bn [125]]))) R by simpa using f).iy
  simp only[UT,UO,UU]at c;rw[show i+1+(gG A).length+((gM BZ).length+(0+1)+1)=i+1+(gG A).length+(gM BZ).length+2 by omega]at c
  have x:=c.gv;have r:=w _ R j x;unfold uo at r;rw[v7];unfold q_ HX;rw[iz a aT rfl];simp only[aj,UK];rw[iz a aT rfl];simp only[aj,UK];rw[iz a aT rfl];simp only[aj,UK];rw[iz a aT rfl];simp only[aj,UK];rw[iz a aT rfl];simp only[aj,UK];rw[oS a aT rfl];simp only[aj,UL];rw[um a q t h.nc (ajP _) p];simp only[aj,aG.on];rw[g];simp only[aj,aG.on];rw[oS a c rfl];simp only[aj,UL];rw[r];simp only[aj,aG.on];exact nI (by simp only[UT,UO,UU];omega)
def axi{i n d:Nat}{BY:UB}{Max:Int}{A B:Bi}{BZ:List Bj}{R:List Bm}(a:l.length<=1000000000)(c:mJ l)(E:jQ A)(x:jQ B)(aT:br l i (e' ⟨6,BY,Max,A,B,BZ,[]⟩) R)(b:24*l.length+100<=n)
 (z:∀k F,br l k (bn [123]::(gM BZ++[bn [125]])) F->uo l n d k BZ):ne l (n+2) d i ⟨6,BY,Max,A,B,BZ,[]⟩:=by
 have e:e' ⟨6,BY,Max,A,B,BZ,[]⟩=d' [102,111,114]::iS BY::bn [61]::(gG A++d' [116,111]::(gG B++d' [109,97,120]::py Max::bn [123]::(gM BZ++[bn [125]]))):=by simp[e']
 unfold ne;rw[e]at aT ⊢;have h:=aT.gv;have g:=h.gv;have p:=g.gv;have o:=p.iy;have q:=o.gv;have m:=q.iy;have j:=m.gv;have y:=j.gv;have f:=z _ _ y;unfold uo at f;let⟨u,w,t,I⟩:=AW (n:=n) (kd:=1) a h rfl;let⟨v,s,H,r⟩:=AW (n:=n) (kd:=3) a j rfl;rw[v7];unfold q_;rw[iz a aT rfl];simp only[aj,UK];rw[iz a aT rfl];simp only[aj,UK];rw[iz a aT rfl];simp only[aj,UK];rw[iz a aT rfl];simp only[aj,UK];rw[iz a aT rfl];simp only[aj,UK];rw[iz a aT rfl];simp only[aj,UK];rw[oS a aT rfl];simp only[aj,UL];rw[avD];unfold Og;rw[w];simp only[aj,aG.on];rw[sT a g rfl];simp only[aj,aG.on];rw[um a c E p.nc (aw' _) b];simp only[aj,aG.on];rw[sT a o rfl];simp only[aj,aG.on];rw[um a c x q.nc (aw_ _) b];simp only[aj,aG.on];rw[sT a m rfl];simp only[aj,aG.on];rw[s];simp only[aj,aG.on];rw[f];simp only[aj,aG.on,t,r];exact nI (by simp only[UT,UO,UU];omega)
mutual
def axj(b:l.length<=1000000000)(e:mJ l):∀(s:Bj) (d i n:Nat) (R:List Bm),wc s d->gF R [101,108,115,101]=false->br l i (e' s) R->fst s<=1000000->24*l.length+200+3*fst s<=n->ne l n d i s
 |⟨Op,BY,Max,A,B,BZ,j⟩,d,i,n,R,w,u,aT,I,F=>by
  let⟨hd,r,o,m⟩:=(x0 _ _).1 w;have E:fst ⟨Op,BY,Max,A,B,BZ,j⟩=80+BY.length+iH Max+dD A+dD B+dV BZ+dV j:=rfl;have x:=vZ BZ;have z:=vZ j;have AV:=λk n R=>RB b e BZ d k n R o
  have Rz:=λk n R=>RB b e j d k n R m
  obtain⟨n,rfl⟩:∃k,n=k+3:=⟨n-3,by omega⟩
  rcases r with⟨f,a,y,c⟩|⟨a,c,p⟩|⟨f,a,c⟩|⟨a,c⟩|⟨a,y,t,c,p⟩|⟨a,t⟩
  ·simp only[Bj.mk.injEq,kY,lY]at a f;obtain⟨rfl,rfl,rfl,rfl⟩:=a;rcases f with rfl|rfl
   ·exact axa b e c aT (by omega)
   ·exact axb b e c aT (by omega)
  ·simp only[Bj.mk.injEq,kY,lY]at a;obtain⟨rfl,rfl,rfl,rfl,rfl⟩:=a;exact axc b e c p aT (by omega)
  ·simp only[Bj.mk.injEq,kY,lY]at a f;obtain⟨rfl,rfl,rfl,rfl,rfl⟩:=a;rcases f with rfl|rfl
   ·exact axd b e c aT (by omega)
   ·exact axe b e c aT (by omega)
  ·simp only[Bj.mk.injEq,kY,lY]at a;obtain⟨rfl,rfl,rfl,rfl⟩:=a;refine axg (A:=A) b e c u aT (by omega) (λq g h=>?_)<|λk g H h=>?_
   ·refine RA b h hd (by omega) (by omega)<|AV _ (n+1) (q++g) ?_ (by omega)<|by omega
    have:=h.gv
    rw[show gM BZ++bn [125]::q=(gM BZ++[bn [125]])++q by simp]at this
    exact this.nc
   ·exact RA b h hd (by omega) (by omega)<|Rz _ (n+1) g h.gv (by omega)<|by omega
  ·simp only[Bj.mk.injEq,kY,lY]at a;obtain⟨rfl,rfl⟩:=a;refine axi (A:=A) (B:=B) b e c p aT (by omega)<|λk g h=>?_
   exact RA b h hd (by omega) (by omega)<|AV _ n g h.gv (by omega)<|by omega
  ·simp only[Bj.mk.injEq,kY,lY]at a;obtain⟨rfl,rfl,rfl,rfl,rfl,rfl⟩:=a;exact axf b aT
def RB(f:l.length<=1000000000)(h:mJ l):∀(b:List Bj) (d k n:Nat) (R:List Bm),lH b (d+1)->br l k (gM b++[bn [125]]) R->dV b<=1000000->24*l.length+200+3*dV b<=n->ajQ l n d k b
 |[],d,k,n,R,c,aT,u,q=>by
  intro i m a e o;obtain⟨m,rfl⟩:∃j,m=j+1:=⟨m-1,by simp at e;omega⟩
  simp only[Dg,N',Wg];rw[oS f (show br l k (bn [125]::[]) R from aT) rfl]
  simp only[aj,UR,UK,gJ];exact nI rfl
 |s::b,d,k,n,R,c,aT,u,q=>by
  intro i m a e o;simp only[UT]at e o;obtain⟨m,rfl⟩:∃j,m=j+1:=⟨m-1,by omega⟩
  have w:dV (s::b)=fst s+1+dV b:=rfl;simp only[gM,eO]at aT
  have t:gF ((gM b++[bn [125]])++R) [101,108,115,101]=false:=by
   cases b with
   |nil=>rfl
   |cons x b=>simp only[gM,eO];exact(ajO c.2.1 _).2
  have p:=axj f h s (d+1) k n _ c.1 t aT.nc (by omega) (by omega)
  have r:=RB f h b d (k+(e' s).length) n R c.2 aT.iy (by omega) (by omega) i m (a++[s]) (by omega) (by simp only[UO,UT,UU];omega)
  unfold ne at p
  have g:k<l.length:=by
   by_cases g:k<l.length
   ·exact g
   ·unfold br at aT;have:=congrArg List.length aT
    simp only[od,jz,UO,UT,UU]at this;omega
  simp only[Dg,N'];rw[Ka n l k _<|by omega,aT.is,eO,(ajO c.1 _).1]
  simp only[aj,YY,UL,UK];rw[fz (by have:=((x0 _ _).1 c.1).1;omega),p]
  simp only[aj,aG.on];rw[show(a.length+([s]:List Bj).length)=a.length+1 from rfl,avE<|by omega]
  simp only[aF];rw[r];simp only[gM,eO,gk,iK,UO];exact nI (by omega)
end
end
open Go Go.Ab Go.Proofs Tryz
def pC(t:Int):UB:=if t=1 then[105,110,116]else if t=2 then[115,116,114] else[98,111,111,108]
def oh(x:BM):UB:=(x.BY++[58,32])++pC x.fT
def x1(x:BM):List Bm:=[iS x.BY,bn [58],d'<|pC x.fT]
def sU:List BM->List Bm
 |[]=>[]
 |x::l=>bn [44]::(x1 x++sU l)
def x2:List BM->List Bm
 |[]=>[]
 |x::l=>x1 x++sU l
def uq(x:BM):Prop:=hl x.BY=true/\1<=x.fT/\x.fT<=3
def ajR:∀(l b:List BM),xU b l=0->∀x,x∈l->uq x
 |[],b,h,x,hx=>by cases hx
 |y::l,b,h,x,hx=>by
  unfold xU at h;split at h
  ·omega
  rename_i a;split at h
  ·omega
  rename_i d;split at h
  ·omega
  rename_i c;rcases gh.1 hx with rfl|hx
  ·exact⟨by simpa using a,by omega,by omega⟩
  ·exact ajR l _ h x hx
def Ks{l:List BM}(h:sJ l=0):l.length<=6/\∀x,x∈l->uq x:=by
 unfold sJ at h;split at h
 ·omega
 ·exact⟨by omega,ajR l [] h⟩
def oT(l:List BM):UB:=Lib.join (l.map oh) [44,32]
def me(p:bk):UB:=dR 0 [[112,114,111,99,32],p.BY,[40],oT p.Cq,[41,32,123]]++(f8 p.BZ 1++dR 0 [[125]])
def x3(p:bk):List Bm:=d' [112,114,111,99]::iS p.BY::bn [40]::(x2 p.Cq++bn [41]::bn [123]::(gM p.BZ++[bn [125]]))
def axl(t:Int):pC t∈rl:=by
 unfold pC;by_cases b:t=1
 ·rw[eI b];decide
 ·rw[de b];by_cases a:t=2
  ·rw[eI a];decide
  ·rw[de a];decide
def aaV(t:Int):(pC t).length<=4:=by
 unfold pC;split
 ·simp
 ·split<;>simp
def ajS(n:Nat)(t:Int):M6 n t=some (pC t):=by
 unfold M6 pC;by_cases b:t=1
 ·simp[b]
 ·by_cases a:t=2
  ·simp[a]
  ·simp[b,a]
def ajT{x:BM}{r:UB}{T:List Bm}(a:uq x)(b:px r)(h:fc r T):fc (oh x++r) (x1 x++T):=by
 have e:oh x++r=x.BY++58::32::(pC x.fT++r):=by simp[oh]
 rw[e];exact Ko a.1 (ke rfl) (mL (t:=bn [58]) (rp<|by decide) (Kh<|by decide)<|ob<|mL (t:=d'<|pC x.fT) (xY<|axl _) (Kg (by simp[d']) b) h)
def Kt(x:UB)(l:List UB):Lib.joinTail [44,32] (x::l)=44::32::(x++Lib.joinTail [44,32] l):=by simp[Lib.joinTail]
def ajU{l:List BM}{r:UB}(a:px r):px (Lib.joinTail [44,32] (l.map oh)++r):=by
 cases l with
 |nil=>exact a
 |cons x l=>rw[kz,Kt];exact ke rfl
def ajV{r:UB}{T:List Bm}(a:px r)(h:fc r T):∀l:List BM,(∀x,x∈l->uq x)->fc (Lib.joinTail [44,32] (l.map oh)++r) (sU l++T)
 |[],_=>h
 |x::l,b=>by
  rw[kz,Kt];have:=ajT (b x<|by simp) (ajU (l:=l) a)<|ajV a h l λy c=>b y<|by simp[c]
  simp only[gk,eO,sU];exact mL (t:=bn [44]) (rp<|by decide) (Kh<|by decide) (ob this)
def axm{r:UB}{T:List Bm}(a:px r)(h:fc r T)(l:List BM)(b:∀x,x∈l->uq x):fc (oT l++r) (x2 l++T):=by
 unfold oT;cases l with
 |nil=>exact h
 |cons x l=>
  rw[kz,Lib.join_cons];simp only[eO,x2];exact ajT (b x<|by simp) (ajU (l:=l) a) (ajV a h l λy c=>b y<|by simp[c])
def axn{p:bk}(a:Ru p){r:UB}{T:List Bm}(h:fc r T):fc (me p++r) (x3 p++T):=by
 let⟨c,b,f⟩:=a;have e:me p++r=[112,114,111,99]++32::(p.BY++40::(oT p.Cq++41::32::123::10::(f8 p.BZ 1++(dR 0 [[125]]++r)))):=by simp[me,dR,ind,cat]
 have d:x3 p++T=d' [112,114,111,99]::iS p.BY::bn [40]::(x2 p.Cq++bn [41]::bn [123]::(gM p.BZ++bn [125]::T)):=by simp[x3]
 rw[e,d];exact sS (by decide) (Ko c (ke rfl)<|aau<|axm (ke rfl) (Rh<|Kp<|Ry p.BZ 1 1 f _ _<|Rx 0 h) p.Cq (Ks b).2)
def ajW{x:BM}(h:uq x):(oh x).length<=22:=by
 have:=ru h.1
 have:=aaV x.fT
 unfold oh;simp only[UO,UT,UU];omega
def ajX:∀l:List BM,(∀x,x∈l->uq x)->(Lib.joinTail [44,32]<|l.map oh).length<=24*l.length
 |[],_=>fS _
 |x::l,h=>by
  have c:=ajX l λy a=>h y (by simp[a])
  have b:=ajW<|h x<|by simp
  rw[kz,Kt];simp only[UO,UT];omega
def aaW{l:List BM}(aa:∀x,x∈l->uq x):(oT l).length<=24*l.length:=by
 unfold oT;cases l with
 |nil=>exact fS _
 |cons x l=>
  have c:=ajX l λy a=>aa y (by simp[a])
  have b:=ajW<|aa x<|by simp
  rw[kz,Lib.join_cons];simp only[UO,UT];omega
def ajY{p:bk}(a:Ru p):(me p).length<=4*dV p.BZ+300:=by
 let⟨c,b,d⟩:=a;let⟨i,e⟩:=Ks b;have h:=aaW e;have g:=ru c;have f:=qn p.BZ 1 d;unfold me;simp only[UO,nd,cat,UT,UU];omega
def axo{n:Nat}(p:bk)(hi:uk p)(c:n_ p=0)(x:3000000<=n)(F:ja p.Cq<=300000)(A:dV p.BZ<=300000):w_ n p=some (me p):=by
 have d:=Rv hi c;have w:=d;let⟨o,l,f⟩:=d;let⟨E,g⟩:=Ks l;have B:=aaW g;have z:=ru o;have s:=qn p.BZ 1 f;have y:(f8 p.BZ<|0+1).length<=4*dV p.BZ:=s;unfold w_;rw[aao p (by omega) (by omega) (by omega) (by omega)<|by omega,c]
 simp only[aj,YW,UR,UK]
 have k:∀m i,p.Cq.length<i+m->i<=p.Cq.length->Hm n p m (i:Int) ((p.Cq.take i).map oh)=some (me p):=by
  intro m;induction m with
  |zero=>intro i r q;omega
  |succ m u=>
   intro i r q;simp only[Hm,VB,UP,US];by_cases hi:i<p.Cq.length
   ·have h:=g (p.Cq.getD i default) (by rw[ie,ed hi];exact pj hi)
    have j:=ru h.1;have t:=aaV (p.Cq.getD i default).fT;have:=u (i+1) (by omega) (by omega)
    rw[AP p.Cq i hi,vS]at this;simp only[kz,rf]at this;simp only[hi,YW,UL,bW hi,aF];rw[h' (by simp only[UT,UU];omega),ajS]
    simp only[aF,aj];rw[h' (by simp only[UO,UT,UU];omega)]
    simp only[aF]
    rw[show room ((List.map oh<|p.Cq.take i).length+([(p.Cq.getD i default).BY++[58,32]++pC (p.Cq.getD i default).fT]:List UB).length) 16=true by
     simp[room];omega]
    simp only[aF];rw[fz<|by omega]
    exact this
   ·simp only[hi,UN,UK];obtain rfl:i=p.Cq.length:=by omega
    unfold VA;rw[rH];unfold ME;rw[show decide ((p.Cq.map oh).length<=140737488355328/\(Lib.join (p.Cq.map oh) [44,32]).length<=140737488355328)=true from fp ⟨by rw[jz];omega,by show(oT p.Cq).length<=_;omega⟩]
    simp only[aF,aj];have b:=pB (n:=n) [[112,114,111,99,32],p.BY,[40],oT p.Cq,[41,32,123]] 0 [] (by simp only[cat,UO,UT,UU];omega) (by simp) (by omega) (by omega)
    have b:n2 n [[112,114,111,99,32],p.BY,[40],Lib.join (p.Cq.map oh) [44,32],[41,32,123]] [] 0=_:=b;rw[b];simp only[aj,iK];have e:=aw8 n p.BZ 0 (dR 0 [[112,114,111,99,32],p.BY,[40],oT p.Cq,[41,32,123]]) f (by omega) (by omega) (by omega) (by simp only[nd,cat,UO,UT,UU];omega)
    unfold wh at e;rw[show tM n p.BZ (gu<|dR 0 [[112,114,111,99,32],p.BY,[40],oT p.Cq,[41,32,123]]) 0=_ from e]
    simp only[aj];rw[pB _ 0 _ (by simp only[cat,UO,nd,UT,UU];omega) (by simp) (by omega)<|by omega]
    simp only[aj];unfold Nj;rw[Z9,Z8];have hlen:=ajY w;have a:dR 0 [[112,114,111,99,32],p.BY,[40],oT p.Cq,[41,32,123]]++f8 p.BZ (0+1)++dR 0 [[125]]=me p:=by unfold me;rw[eO]
    rw[a];rw[show decide ((gu<|me p).length<=2^63-1)=true from fp (by rw[show(gu<|me p).length=(me p).length by simp[gu]];omega)]
    rfl
 exact k n 0 (by omega) (by omega)
open Go Go.Ab Go.Proofs Tryz
section
variable {l:List Bm}
def aj0{i n:Nat}{x:BM}{R:List Bm}(a:l.length<=1000000000)(g:uq x)(aT:br l i (x1 x) R):H8 n ⟨l,(i:Int)⟩=some (.ret x ((i+3:Nat):Int)):=by
 have aT:br l i (iS x.BY::bn [58]::d' (pC x.fT)::[]) R:=aT;have e:=aT.gv;have b:=e.gv;let⟨u,f,d,k⟩:=AW (n:=n) (kd:=1) a aT rfl;let⟨m,c⟩:=x;unfold H8 Di;rw[f];simp only[aj,aG.on];rw[sT a e rfl];simp only[aj,aG.on];let⟨_,j,h⟩:=g;simp only at j h
 have:c=1\/c=2\/c=3:=by omega
 rcases this with rfl|rfl|rfl
 ·rw[oS a b rfl];simp only[aj,UL,d];exact nI rfl
 ·rw[iz a b rfl];simp only[aj,UK];rw[oS a b rfl];simp only[aj,UL,d];exact nI rfl
 ·rw[iz a b rfl];simp only[aj,UK];rw[iz a b rfl];simp only[aj,UK];rw[oS a b rfl];simp only[aj,UL,d];exact nI rfl
def aj1{n:Nat}{b:Int}{t:Bm}(c:l.length<=1000000000):∀(ps a:List BM) (k m:Nat) (T R:List Bm),(∀x,x∈ps->uq x)->br l k (sU ps++bn [41]::T) R->ps.length<m->a.length+ps.length<=1000->
 Dj n ⟨l,b⟩ t m (k:Int) a=Oi n ⟨l,b⟩ t ((k+(sU ps).length:Nat):Int) (a++ps)
 |[],a,k,m,T,R,d,aT,e,g=>by
  obtain⟨m,rfl⟩:∃j,m=j+1:=⟨m-1,by simp at e;omega⟩
  simp only[Dj,Oj];rw[iz c (show br l k (bn [41]::T) R from aT) rfl]
  simp only[aj,UK,gJ];rfl
 |x::ps,a,k,m,T,R,d,aT,e,g=>by
  simp only[UT]at e g;obtain⟨m,rfl⟩:∃j,m=j+1:=⟨m-1,by omega⟩
  have aT:br l k (bn [44]::(x1 x++sU ps++bn [41]::T)) R:=aT;have f:=aT.gv;rw[eO]at f;have h:=aj1 (n:=n) (b:=b) (t:=t) c ps (a++[x]) (k+1+(x1 x).length) m T R (λy o=>d y<|by simp[o]) f.iy (by omega) (by simp only[UO,UT,UU];omega)
  simp only[Dj,Oj];rw[oS c aT rfl];simp only[aj,UL];rw[aj0 c (d x<|by simp) f.nc]
  simp only[aj,aG.on];rw[show a.length+([x]:List BM).length=a.length+1 from rfl,aiY<|by omega]
  simp only[aF];have i:(x1 x).length=3:=rfl;rw[i]at h;rw[h,eO,show k+1+3+(sU ps).length=k+(sU<|x::ps).length by simp only[sU,UT,UO,i];omega]
  rfl
def aj2{n i k:Nat}{b:Int}{t:Bm}{ps:List BM}{BZ:List Bj}{R:List Bm}(c:l.length<=1000000000)(d:mJ l)(f:lH BZ 1)(h:dV BZ<=1000000)(m:24*l.length+201+3*dV BZ<=n)(aT:br l k (bn [123]::(gM BZ++[bn [125]])) R):
 H9 n ⟨l,b⟩ t (k:Int) ps=some (.ret ⟨t.Text,ps,BZ⟩ ((k+(gM BZ).length+2:Nat):Int)):=by
 have g:=vZ BZ;obtain⟨n,rfl⟩:∃j,n=j+1:=⟨n-1,by omega⟩
 have e:=RB c d BZ 0 (k+1) n R f aT.gv h (by omega)
 have a:=RA c aT (by omega) (by omega) (by omega) e
 unfold uo at a;unfold H9;rw[show tV (n+1) 0 ⟨l,(k:Int)⟩=_ from a]
 simp only[aj,aG.on]
def axq{n i:Nat}{p:bk}{R:List Bm}(a:l.length<=1000000000)(m:mJ l)(z:Ru p)(j:dV p.BZ<=1000000)(e:24*l.length+201+3*dV p.BZ<=n)(aT:br l i (x3 p) R):
 H_ n ⟨l,(i:Int)⟩=some (.ret p ((i+(x3 p).length:Nat):Int)):=by
 let⟨k,c,iH⟩:=p;let⟨B,A,g⟩:=z;let⟨r,f⟩:=Ks A;simp only at B r f g j e
 have aT:br l i (d' [112,114,111,99]::iS k::bn [40]::(x2 c++bn [41]::bn [123]::(gM iH++[bn [125]]))) R:=aT;have q:=aT.gv;have o:=q.gv;have b:=o.gv;let⟨u,w,d,F⟩:=AW (n:=n) (kd:=1) a q rfl;have d:u.Text=k:=d;unfold H_;rw[sT a aT rfl];simp only[aj,aG.on];rw[w];simp only[aj,aG.on];rw[sT a o rfl];simp only[aj,aG.on];cases c with
 |nil=>
  have b:br l (i+1+1+1) (bn [41]::bn [123]::(gM iH++[bn [125]])) R:=b;rw[oS a b rfl];simp only[aj,UR,UK];rw[aj2 (i:=0) a m g j e b.gv,d];exact nI (by simp only[x3,x2,UT,UO,UU];omega)
 |cons x c=>
  have s:(x1 x).length=3:=rfl;simp only[x2,eO]at b;have h:=b.iy;rw[s]at h;have t:=h.iy;rw[iz a (show br l (i+1+1+1) (iS x.BY::(bn [58]::d' (pC x.fT)::(sU c++bn [41]::bn [123]::(gM iH++[bn [125]])))) R from b) rfl]
  simp only[aj,YY,UL];rw[aj0 a (f x<|by simp) b.nc]
  simp only[aj,aG.on];rw[show(([]:List BM).length+([x]:List BM).length)=1 from rfl,aiY<|by omega]
  simp only[aF,iK];simp only[UT]at r;rw[aj1 a c [x] _ n _ R (λy E=>f y<|by simp[E]) h (by omega) (by simp;omega)]
  unfold Oi;rw[sT a t rfl];simp only[aj,aG.on];rw[aj2 (i:=0) a m g j e t.gv,d];exact nI (by simp only[x3,x2,s,UT,UO,UU];omega)
end
def axr{l T:List Bm}(h:l.map dr=T):br l 0 T []:=by
 unfold br;rw[gj,h,gJ]
def axs{l T:List Bm}(h:l.map dr=T):l.length=T.length:=by rw[<-h,jz]
def axt{n:Nat}{p:bk}(hi:uk p)(d:n_ p=0)(k:3000000<=n)(s:ja p.Cq<=300000)(m:dV p.BZ<=300000)(f:(me p).length<=16384):Ia n (me p)=some (p,0,0):=by
 have a:=Rv hi d
 have j:fc (me p) (x3 p):=by
  have:=axn a fc.nil
  rwa [gJ,gJ]at this
 have r:=ru a.1;let⟨l,g,e,o,h,q⟩:=av7 j f (n:=n) (by omega) (by omega)
 have hlen:=aad l;have c:=axs e;unfold Ia Ok WB;rw[g];simp only[aj,YW,UR,UK];have b:=axq (l:=l) (i:=0) (n:=n) (by omega) h a (by omega) (by omega)<|axr e
 rw[show H_ n ⟨l,0⟩=_ from b]
 simp only[aj,aG.on,c,mE,UZ,UN,UK,YW,UL];rw[aao p (by omega) (by omega) (by omega) (by omega)<|by omega,d]
 simp only[aj,Ol,YW,UR,UK]
open Go Go.Ab Go.Proofs Tryz
def hT(s:UB):List Int:=s.map λb=>(b.toNat:Int)
def Ku(s:UB):jh (hT s)=s:=by
 simp only[jh,hT,yi]
 conv=>rhs;rw[<-List.map_id s]
 apply zk;intro b _;simp
def Kv(s:UB):n0 (hT s)=true:=by
 simp only[n0,hT,gK,jk,forall_exists_index,and_imp,forall_apply_eq_imp_iff₂];intro b _;have:=b.toNat_lt
 simp;omega
def aaX(s t:UB):hT (s++t)=hT s++hT t:=List.map_append
def E9(s:UB):(hT s).length=s.length:=jz _
def aaY:[]=hT []:=rfl
def dw(u:Nat):UB:=if u<128 then[UInt8.ofNat u]else UInt8.ofNat (u % 128+128)::dw (u / 128)
termination_by u
decreasing_by omega
def aj3:∀(k u:Nat),u<128 ^ k->0<k->(dw u).length<=k
 | 0,u,_,h=>by omega
 |k+1,u,a,_=>by
  rw[dw];split
  ·simp
  ·have b:0<k:=by
    rcases Nat.eq_zero_or_pos k with rfl|h
    ·simp at a;omega
    ·exact h
   have:=aj3 k (u / 128) (by rw[Nat.pow_succ]at a;omega) b
   simp;omega
def kg{u:Nat}(h:u<2^64):(dw u).length<=10:=aj3 10 u (by omega) (by omega)
def axw:∀x:Nat,x<256->s9 .u8 (x:Int) 128=((x % 128+128:Nat):Int):=by decide +kernel
def aaZ(u:Nat):IntKind.u8.wrap (u:Int)=((u % 256:Nat):Int):=by rw[IntKind.wrap_u8];omega
def qo{u:Nat}(h:u<2^64):IntKind.u64.wrap (u:Int)=(u:Int):=by rw[IntKind.wrap_u64];omega
def Kw(u:Nat)(h:u<256):[(u:Int)]=hT [UInt8.ofNat u]:=by
 simp only[hT,kz,rf,vG,tv (show u<2 ^ 8 from h)]
def axx(u:Nat):mq .u64 (u:Int) 7=((u / 128:Nat):Int):=by
 unfold mq;rw[show min (7:Int).toNat (IntKind.bits .u64)=7 by decide,wU _<|by omega]
 omega
def aa0{n:Nat}(h:n<=140737488355328):room n 1=true:=by simp[room];omega
def dW{n:Nat}(h:n<=2^63-1):bF n=true:=by simp[bF];omega
def axy(n:Nat):∀m u (a:UB),u<2^64->(dw u).length<=m->a.length+(dw u).length<=1000->G1 n m (u:Int) (hT a)=some (a++dw u):=by
 intro m;induction m with
 |zero=>intro u a _ h _;rw[dw]at h;split at h<;>simp at h
 |succ m d=>
  intro u a e c b;simp only[G1,aEd,aEf,MK];rw[dw]at c b ⊢;by_cases h:u<128
  ·rw[eI h]at c b ⊢;simp only[U1]at b;have:¬ (128:Int)<=(u:Int):=by omega
   rw[aaZ,tv<|by omega,Kw u<|by omega,<-aaX]
   simp only[this,UN,UK,U1,E9,aa0 (show a.length+1<=140737488355328 by omega),aF,aj,Kv,Ku]
  ·rw[de h]at c b ⊢;simp only[UT]at c b;have:(128:Int)<=(u:Int):=by omega
   rw[aaZ,axw _<|by omega,show u % 256 % 128=u % 128 by omega,Kw _<|by omega,<-aaX,axx]
   simp only[this,YW,UL,U1,E9,aa0 (show a.length+1<=140737488355328 by omega),aF,aj]
   rw[d (u / 128) _ (by omega) (by omega) (by simp;omega)]
   simp
def wi{n u:Nat}(b:10<=n)(a:u<2^64):iL n (u:Int)=some (dw u):=by
 have:=kg a
 exact axy n n u [] a (by omega) (by simp;omega)
def axz(n:Nat):∀m u (a:UB),u<2^64->(dw u).length<=m->a.length+(dw u).length<=1000->I0 n m (u:Int) a=some (a++dw u):=by
 intro m;induction m with
 |zero=>intro u a _ h _;rw[dw]at h;split at h<;>simp at h
 |succ m f=>
  intro u a g c b;simp only[I0,YG,YF];rw[dw]at c b ⊢;by_cases h:u<128
  ·rw[eI h]at c b ⊢;simp only[U1]at b;have:¬ (128:Int)<=(u:Int):=by omega
   rw[aaZ,tv<|by omega,Kw u<|by omega]
   simp only[this,UN,UK,Kv,Ku,U1,dW (show a.length+1<=2^63-1 by omega),aF]
  ·rw[de h]at c b ⊢;simp only[UT]at c b;have:(128:Int)<=(u:Int):=by omega
   have e:IntKind.u8.wrap (IntKind.u8.wrap (Int.tmod (u:Int) 128)+128)=((u % 128+128:Nat):Int):=by
    rw[Int.tmod_eq_emod_of_nonneg<|by omega,IntKind.wrap_u8,IntKind.wrap_u8];omega
   have d:IntKind.u64.wrap (Int.tdiv (u:Int) 128)=((u / 128:Nat):Int):=by
    rw[wO<|by omega,IntKind.wrap_u64];omega
   rw[e,d,Kw _<|by omega]
   simp only[this,YW,UL,Kv,Ku,U1,dW (show a.length+1<=2^63-1 by omega),aF]
   rw[f (u / 128) _ (by omega) (by omega) (by simp;omega)]
   simp
def wj{n u:Nat}(b:10<=n)(a:u<2^64):iQ n (u:Int)=some (dw u):=by
 have:=kg a
 exact axz n n u [] a (by omega) (by simp;omega)
def fold(n:Int):Nat:=if n<0 then(2*(-(n+1))+1).toNat else(2*n).toNat
def eo(x:Int):Prop := -9223372036854775808<=x/\x<=2^63-1
def RC{n:Int}(h:eo n):fold n<18446744073709551616:=by
 unfold eo at h;unfold fold;split<;>omega
def mN(n:Int):UB:=dw (fold n)
def qp{n:Int}(h:eo n):(mN n).length<=10:=kg (RC h)
def axA{n:Nat}{x:Int}(h:eo x):P4 n x=some (fold x:Int):=by
 unfold eo at h;unfold P4 fold;by_cases a:x<0
 ·simp only[a,YW,UL,U3,IntKind.wrap_u64,IntKind.wrap_i64]
  congr 1;omega
 ·simp only[a,UN,UK,UY,IntKind.wrap_u64]
  congr 1;omega
def AX{n:Nat}{x:Int}(a:10<=n)(h:eo x):t_ n x=some (mN x):=by
 unfold t_;rw[axA h,aj,wj a<|RC h];rfl
def xor_zero{a:Nat}(h:a<2^64):oy .u64 (a:Int) 0=(a:Int):=by
 unfold oy;rw[show BitVec.ofInt (IntKind.bits .u64) 0=0#_ from rfl,BitVec.xor_zero]
 rw[show((BitVec.ofInt (IntKind.bits .u64) (a:Int)).toNat:Int)=(a:Int) by
  rw[BitVec.toNat_ofInt];simp only[IntKind.bits];omega]
 exact qo h
def axB{a:Nat}(h:a<2^64):oy .u64 (a:Int) 18446744073709551615=((18446744073709551615-a:Nat):Int):=by
 unfold oy;rw[show BitVec.ofInt (IntKind.bits .u64) 18446744073709551615=BitVec.allOnes _ by decide,BitVec.xor_allOnes]
 rw[show((~~~ BitVec.ofInt (IntKind.bits .u64) (a:Int)).toNat:Int)=((18446744073709551615-a:Nat):Int) by
  rw[BitVec.toNat_not,BitVec.toNat_ofInt];simp only[IntKind.bits];omega]
 exact qo (by omega)
def axC{x:Int}(h:eo x):oy .u64 (qA .u64 (IntKind.u64.wrap x) 1) (IntKind.u64.wrap<|mq .i64 x 63)=(fold x:Int):=by
 unfold eo at h
 have c:mq .i64 x 63=if x<0 then -1 else 0:=by
  unfold mq;rw[show min (63:Int).toNat (IntKind.bits .i64)=63 by decide,wU _<|by omega]
  split<;>omega
 have b:qA .u64 (IntKind.u64.wrap x) 1=(((2*x) % 18446744073709551616).toNat:Int):=by
  unfold qA;rw[show min (1:Int).toNat (IntKind.bits .u64)=1 by decide,IntKind.wrap_u64,IntKind.wrap_u64]
  omega
 rw[c,b];unfold fold;by_cases a:x<0
 ·rw[eI a,eI a,show IntKind.u64.wrap (-1)=18446744073709551615 by decide,axB<|by omega]
  omega
 ·rw[de a,de a,show IntKind.u64.wrap 0=0 by decide,xor_zero<|by omega]
  omega
def AY{n:Nat}{x:Int}(a:10<=n)(h:eo x):tG n x=some (mN x):=by
 unfold tG;rw[axC h,wi a<|RC h];rfl
def dq(s:UB):UB:=dw s.length++s
def ur{n:Nat}{s:UB}(a:10<=n)(h:s.length<=2^62):p6 n s=some (dq s):=by
 unfold p6;have:=kg (u:=s.length) (by omega)
 rw[qo<|by omega,wi a<|by omega]
 simp only[aj,dW (show(dw s.length).length+s.length<=2^63-1 by omega),aF];rfl
def ut{n:Nat}{s:UB}(a:10<=n)(h:s.length<=2^62):qf n s=some (dq s):=by
 unfold qf;have:=kg (u:=s.length) (by omega)
 rw[qo<|by omega,wj a<|by omega]
 simp only[aj,dW (show(dw s.length).length+s.length<=2^63-1 by omega),aF];rfl
def uu{s:UB}(h:s.length<=2^62):(dq s).length<=s.length+10:=by
 have:=kg (u:=s.length) (by omega)
 simp[dq];omega
open Go Go.Ab Go.Proofs Tryz
def aj4(n:Nat)(op:Int):PN n op=some ((cy op:Nat):Int):=aaF n op
def axD(n:Nat)(op:Int)(h:4<=op/\op<=8\/10<=op/\op<=17\/op=19):PO n op=some (spell<|pz op):=ajy n op h
def aj5(n:Nat)(op:Int)(h:20<=op/\op<=27):PP n op=some (spell<|iE op):=by
 obtain rfl|rfl|rfl|rfl|rfl|rfl|rfl|rfl:op=20\/op=21\/op=22\/op=23\/op=24\/op=25\/op=26\/op=27:=by omega
 all_goals rfl
def aj6(u:Nat)(h:u<2^64):jh [(IntKind.u8.wrap<|IntKind.u64.wrap<|48+(Int.tmod (u:Int) 10))]=[UInt8.ofNat<|48+u % 10]/\n0 [(IntKind.u8.wrap<|IntKind.u64.wrap<|48+(Int.tmod (u:Int) 10))]=true:=by
 have:IntKind.u8.wrap (IntKind.u64.wrap<|48+(Int.tmod (u:Int) 10))=((48+u % 10:Nat):Int):=by
  rw[Int.tmod_eq_emod_of_nonneg<|by omega,IntKind.wrap_u64,IntKind.wrap_u8];omega
 rw[this,Kw _<|by omega]
 exact⟨Ku _,Kv _⟩
def aj7(u:Nat)(h:u<2^64):IntKind.u64.wrap (Int.tdiv (u:Int) 10)=((u / 10:Nat):Int):=by
 rw[wO<|by omega,IntKind.wrap_u64];omega
def axE(n:Nat)(i:Int)(hi:0<=i):∀(m f u:Nat) (a:UB),u<2^64->u<10 ^ m->a.length+m<=1000000000->(0<u\/a≠[])->ss n i (m+f+1) (u:Int) a=some ((if u=0 then[]else Lib.decDigits u)++a):=by
 intro m;induction m with
 |zero=>
  intro f u a d e p j;have c:u=0:=by simp at e;omega
  subst c;have b:a≠[]:=by rcases j with h|h;exact absurd h (by omega);exact h
  have:¬ i<0:=by omega
  simp[ss,vP,IP,b,this]
 |succ m q=>
  intro f u a d e p j;rw[show m+1+f+1=m+f+1+1 by omega,show ss n i (m+f+1+1)=vP n i (ss n i<|m+f+1)from rfl]
  simp only[vP,IP];by_cases c:u=0
  ·subst c;have b:a≠[]:=by rcases j with h|h;exact absurd h (by omega);exact h
   have:¬ i<0:=by omega
   simp[b,this]
  ·have k:(0:Int)<(u:Int):=by omega
   let⟨o,l⟩:=aj6 u d;rw[o,l,aj7 u d];simp only[k,YW,UL,aF,U1,dW (show 1+a.length<=2^63-1 by omega)]
   rw[q f (u / 10) _ (by omega) (by rw[Nat.pow_succ]at e;omega) (by simp;omega)<|.inr<|by simp]
   rw[de c]
   conv=>rhs;rw[Lib.decDigits]
   by_cases g:u<10
   ·rw[dif_pos g,eI<|by omega,tv g];rfl
   ·rw[dif_neg g,de<|by omega];simp
def aj8(n:Nat)(f:30<=n)(i:Int)(a:0<=i)(g:i<=2^63-1):Ak n i=some (Lib.decDigits i.toNat):=by
 unfold Ak Yg;obtain⟨u,rfl⟩:=lJ a;have:¬ (u:Int)<0:=by omega
 simp only[this,UN,UK,aj,qo (show u<2^64 by omega),US]
 obtain⟨k,rfl⟩:∃k,n=k+30:=⟨n-30,by omega⟩
 by_cases b:u=0
 ·subst b;rw[show ss (k+30) ((0:Nat):Int) (k+30)=vP (k+30) ((0:Nat):Int) (ss (k+30) ((0:Nat):Int)<|k+28+1)from rfl]
  let⟨e,d⟩:=aj6 0 (by omega)
  have c:=dW (n:=([UInt8.ofNat<|48+0 % 10]:UB).length+([]:UB).length) (by decide)
  simp only[vP,e,d,aj7 0<|by omega,c,aF]
  rw[show ss (k+30) ((0:Nat):Int) (k+28+1)=vP (k+30) ((0:Nat):Int) (ss (k+30) ((0:Nat):Int)<|k+28)from rfl]
  simp[vP,IP,Lib.decDigits]
 ·have:=axE (k+30) (u:Int) a 20 (k+9) u [] (by omega) (by omega) (by simp)<|.inl<|by omega
  rw[de b,gJ,show 20+(k+9)+1=k+30 by omega]at this;exact this
def axF(n:Nat)(s:UB)(b:s.length<=2^63-1):∀m i,s.length<i+m->i<=s.length->D2 n s m (i:Int)=some ((s.drop i).all okB):=by
 intro m;induction m with
 |zero=>intro i h e;omega
 |succ m a=>
  intro i c d;simp only[D2,Yl,Yk];by_cases h:i<s.length
  ·rw[gl s i 0 h,cu<|by omega,a (i+1) (by omega)<|by omega]
   simp only[h,bW h,US,UP,YW,UL,aF,U4,ny,uf,fq,dU,J3];cases okB (s.getD i 0)<;>simp
  ·rw[i_ s i h];simp[h]
def aj9{n:Nat}(s:UB)(h:s.length<n)(a:s.length<=2^63-1):Ym n s=some (s.all okB):=by
 have:=axF n s a n 0 (by omega) (by omega)
 rw[gj]at this;exact this
def take_one(s:UB)(i:Nat)(h:i<s.length):(s.take<|i+1).drop i=[s.getD i 0]:=by
 rw[Ay,gl s i 0 h];simp
def axG(n:Nat)(s:UB)(k:s.length<=64):∀m i,s.length<i+m->i<=s.length->IR n s m (34::ho (s.take i)) (i:Int)=some (quo s,0):=by
 intro m;induction m with
 |zero=>intro i h p;omega
 |succ m g=>
  intro i l o;simp only[IR,Yp,Yn,Yo,PK];have hlen:=AR<|s.take i;have j:(s.take i).length<=i:=by simp;omega
  by_cases h:i<s.length
  ·(rw[fz<|by omega];simp only[US];rw[take_one s i h])
   have a:=g (i+1) (by omega) (by omega)
   have f:s.take (i+1)=s.take i++[s.getD i 0]:=by
    rw[xI,gl s i 0 h,pk,qj]
   rw[f,ajA]at a;generalize s.getD i 0=c at a
   simp only[h,bW h,UP,YW,UL,aF,U4,hM,dU,auR (show i<=i+1 by omega) (show i+1<=s.length by omega)]
   by_cases hc:c.toNat=34\/c.toNat=92
   ·have b:(decide (c.toNat=34)||decide (c.toNat=92))=true:=by rcases hc with hc|hc<;>rw[fp hc]<;>simp
    rw[b];simp only[UL];rw[dW (by simp only[UT,UU];omega),dW (by simp only[UO,UT,UU];omega)]
    simp only[aF];rw[show(34::ho (s.take i)++[92]++[c])=34::(ho (s.take i)++ho [c])by simp only[ho];rw[eI hc];simp]
    exact a
   ·have b:(decide (c.toNat=34)||decide (c.toNat=92))=false:=by rw[en<|λe=>hc<|kP e,en<|λe=>hc<|iR e];rfl
    rw[b];simp only[UK];rw[dW (by simp only[UT,UU];omega)]
    simp only[aF];rw[show(34::ho (s.take i)++[c])=34::(ho (s.take i)++ho [c])by simp only[ho];rw[de hc];simp]
    exact a
  ·have d:i=s.length:=by omega
   subst d;simp only[UP,hS,UN,UK,rH];have q:=AR s;rw[dW (by simp only[UT,UU];omega)]
   rfl
def axH{n:Nat}(s:UB)(h:kc s=true)(a:100<n):PL n s=some (quo s,0):=by
 unfold kc at h;simp only[cb,fx]at h;unfold PL;simp only[fq,show¬ 64<s.length by omega,UN,UK,aj9 s (show s.length<n by omega)<|by omega,aj,h.1,UR]
 exact axG n s (by omega) n 0 (by omega) (by omega)
open Go Go.Ab Go.Proofs Tryz
def axI(n:Nat):mD (n+1)=PQ n (mD n) (Am n):=rfl
def axJ(n:Nat):Am (n+1)=PR n (mD n) (Am n):=rfl
def Kx{n:Nat}{e:Bi}{k:Nat}(h:mD n e=some (flat<|b6 e))(b:(flat<|b6 e).length<=100000000):Am (n+1) e (k:Int)=some (flat<|gf e.Op (b6 e) k):=by
 rw[axJ];unfold PR gf;rw[aj4,h];simp only[aj,UP];by_cases a:cy e.Op<k
 ·simp only[a,YW,UL,U3];rw[h' (by simp;omega),h' (by simp;omega)]
  simp only[aF,flat,oc,spell,bn];simp
 ·simp only[a,UN,UK,UY]
def axK:∀(h:Nat) (e:Bi) (n:Nat),ge e≤h→hH e→2*h+200≤n→dD e≤1000000→mD n e=some (flat (b6 e)):=by
 intro h;induction h with
 |zero=>intro e n he;rw [v_]at he;omega
 |succ h aE=>
  intro e n he cU hn awN;obtain⟨n,rfl⟩:∃j,n=j+1:=⟨n-1,by omega⟩
  obtain⟨n,rfl⟩:∃j,n=j+1:=⟨n-1,by omega⟩
  have pA:=(Rg e).1 cU;have xS:=sH e;rw [axI];unfold PQ;rw [aj4];simp only [aj];rcases AQ e cU with⟨h1,am⟩|⟨h1,am⟩|⟨h1,am⟩|⟨af,am⟩|⟨a,am,ha,bf,ei⟩|⟨a,b,am,ha,hb,bf,ei⟩
  ·have e2:flat (b6 e)=Lib.decDigits e.N.toNat++[]:=by rw [am];rfl
   rw [aj8 _ (by omega) e.N (pA.2.1 h1).1 (pA.2.1 h1).2,e2,List.append_nil]
   simp only [h1,YW,UL,aj]
  ·have e2:flat (b6 e)=quo e.S++[]:=by rw [am];rfl
   rw [axH e.S (pA.2.2.2.2.1 h1) (by omega),e2,List.append_nil]
   simp only [h1,show¬ (2:Int)=1 by omega,YW,UN,UL,UK,aj]
  ·have e2:flat (b6 e)=e.S++[]:=by rw [am];rfl
   rw [e2,List.append_nil];simp only [h1,show¬ (3:Int)=1 by omega,show¬ (3:Int)=2 by omega,YW,UN,UL,UK]
  ·have hw:=E4 e.Op;have aaJ:=aj5 (n+1) e.Op (by omega)
   have gH:cy e.Op=9:=by
    have:e.Op=25∨e.Op=26∨e.Op=27:=by omega
    rcases this with h|h|h<;>rw [h]<;>decide
   have fE:e.ax=[]:=by rw [am]
   have e2:flat (b6 e)=spell (iE e.Op)++([40]++([41]++[])):=by
    generalize e.Op=op at af am
    rw [am];simp only [b6,kC,md];rw [if_neg (by omega),if_neg (by omega),if_neg (by omega)];rfl
   rw [aaJ,e2];simp only [aj];rw [h' (show(spell (iE e.Op)).length+([40,41]:UB).length≤1000000000000 by simp;omega)]
   simp only [gH,fE,show¬ e.Op=1 by omega,show¬ e.Op=2 by omega,show¬ e.Op=3 by omega,show¬ e.Op=18 by omega,show¬ e.Op=9 by omega,UN,UK,UU,hM,YW,UL,aF]
   simp
  ·have AL:dD e=30+(dD a+1):=by rw [am];simp [dD,n7,EO]
   have sO:=aE a n (by omega) ha (by omega) (by omega)
   have aaK:=aE a (n+1) (by omega) ha (by omega) (by omega)
   have wb:=ti (ge a) a (Nat.le_refl _) ha;have fE:e.ax=[a]:=by rw [am]
   have ah:=rr a.Op (b6 a) 3;have dk:=rr a.Op (b6 a) 8
   have e2:b6 e=if e.Op=18 then some (d' [110,111,116])::none::gf a.Op (b6 a) 3 else if e.Op=9 then some (bn [45])::gf a.Op (b6 a) 8 else some (iE e.Op)::some (bn [40])::(b6 a++[some (bn [41])]):=by
    generalize e.Op=op at ei am
    rw [am];simp only [b6,kC,md];rw [if_neg (by omega),if_neg (by omega),if_neg (by omega)]
   rw [e2,fE];simp only [UT,UU,ql (show 0<0+1 by omega),aF,List.getD_cons_zero,show¬ e.Op=1 by omega,show¬ e.Op=2 by omega,show¬ e.Op=3 by omega,UN,UK]
   by_cases od:e.Op=18
   ·have:=Kx (k:=3) sO (by omega)
    rw [od];simp only [YW,UL,U3,show cy 18=3 from rfl]
    rw [this];simp only [aj];rw [h' (by simp;omega)]
    rfl
   ·by_cases ea:e.Op=9
    ·have:=Kx (k:=8) sO (by omega)
     rw [ea];simp only [show¬ (9:Int)=18 by omega,YW,UN,UL,UK,U3,UY,show cy 9=8 from rfl]
     rw [this];simp only [aj];rw [h' (by simp;omega)]
     rfl
    ·have aaC:20≤e.Op∧e.Op≤24:=by omega
     have gH:cy e.Op=9:=by
      have:e.Op=20∨e.Op=21∨e.Op=22∨e.Op=23∨e.Op=24:=by omega
      rcases this with h|h|h|h|h<;>rw [h]<;>decide
     have hw:=E4 e.Op;rw [aj5 (n+1) e.Op (by omega),aaK,if_neg od,if_neg ea]
     have e3:flat (some (iE e.Op)::some (bn [40])::(b6 a++[some (bn [41])]))=spell (iE e.Op)++([40]++(flat (b6 a)++([41]++[]))):=by
      simp only [flat,oc];rfl
     rw [e3];generalize spell (iE e.Op)=W at hw
     simp only [od,ea,gH,UN,YW,UK,UL,aj];rw [h' (show W.length+(0+1)≤1000000000000 by omega),h' (show(W++([40]:UB)).length+(flat (b6 a)).length≤1000000000000 by simp;omega),h' (show((W++([40]:UB))++flat (b6 a)).length+(0+1)≤1000000000000 by simp;omega)]
     simp only [show((0+1:Nat):Int)=1 from rfl,show¬ (1:Int)=0 by omega,show((9:Nat):Int)=9 from rfl,YW,UN,UL,UK,aF]
     simp
  ·have AL:dD e=30+(dD a+1+(dD b+1)):=by rw [am];simp [dD,n7,EO]
   have sO:=aE a n (by omega) ha (by omega) (by omega)
   have aaL:=aE b n (by omega) hb (by omega) (by omega)
   have wb:=ti (ge a) a (Nat.le_refl _) ha;have aaI:=ti (ge b) b (Nat.le_refl _) hb;have fE:e.ax=[a,b]:=by rw [am]
   have gH:=E0 ei;have awO:=aaH e.Op
   have e2:b6 e=gf a.Op (b6 a) (if cy e.Op=4 then 5 else cy e.Op)++none::some (pz e.Op)::none::gf b.Op (b6 b) (cy e.Op+1):=by
    generalize e.Op=op at ei am
    rw [am,Rl ei]
   have ah:=rr a.Op (b6 a) (if cy e.Op=4 then 5 else cy e.Op)
   have dk:=rr b.Op (b6 b) (cy e.Op+1);have vl:=Kx (k:=cy e.Op+1) aaL (by omega)
   rw [e2,fE,axD (n+1) e.Op ei];simp only [UT,UU,ql (show 0<0+1+1 by omega),aF,List.getD_cons_zero,List.getD_cons_succ,show¬ e.Op=1 by omega,show¬ e.Op=2 by omega,show¬ e.Op=3 by omega,show¬ e.Op=18 by omega,show¬ e.Op=9 by omega,UN,UK,hM,show¬ cy e.Op=9 by omega,show aP 1 (0+1+1)=true from rfl]
   by_cases ay:cy e.Op=4
   ·have u4:=Kx (k:=5) sO (by omega)
    rw [ay]at vl ⊢;rw [if_pos rfl];rw [if_pos ay]at ah;simp only [YW,UL];rw [show Am (n+1) a 5=_ from u4,show Am (n+1) b 5=_ from vl]
    simp only [aj];rw [ay]at dk;rw [h' (by simp;omega),h' (by simp;omega),h' (by simp;omega),h' (by simp only [UO,UT,UU];omega)]
    simp only [aF,oc,flat];simp
   ·have u4:=Kx (k:=cy e.Op) sO (by omega)
    rw [if_neg ay]at ah ⊢;simp only [ay,UN,UK];rw [u4,fz (by omega),vl]
    simp only [aj];rw [h' (by simp;omega),h' (by simp;omega),h' (by simp;omega),h' (by simp only [UO,UT,UU];omega)]
    simp only [aF,oc,flat];simp
open Go Go.Ab Go.Proofs Tryz
def axL(n d:Nat)(hd:d<=100):∀m i,d<i+m->i<=d->IQ n (d:Int) m (ind i) (i:Int)=some (ind d):=by
 intro m;induction m with
 |zero=>intro i h e;omega
 |succ m a=>
  intro i b c;simp only[IQ,Yi,Yh,UP];by_cases h:i<d
  ·simp only[h,YW,UL];rw[dW (by rw[Kq];simp;omega),fz<|by omega,<-aaR,a (i+1) (by omega)<|by omega]
   rfl
  ·simp only[h,UN,UK];rw[show i=d by omega]
def axM{n d:Nat}(hd:d<=100)(a:d<n):Yj n (d:Int)=some (ind d):=axL n d hd n 0 (by omega) (by omega)
def aj'{n:Nat}{e:Bi}(h:jQ e)(b:300<=n)(a:dD e<=1000000):mD n e=some (fG e):=axK (ge e) e n (fS _) h.1 (by have:=h.2;omega) a
def axN(n:Nat):tZ (n+1)=PS n (tZ n) (D5 n):=rfl
def axO(n:Nat):D5 (n+1)=PT n (tZ n) (D5 n):=rfl
set_option maxHeartbeats 4000000 in
def axP{n:Nat}{s:Bj}{d:Nat}(S:wc s d)(T:fst s<=300000)(X:500<=n)
 (m:tZ n s.BZ ((d+1:Nat):Int)=some (f8 s.BZ<|d+1)) (F:tZ n s.b0 ((d+1:Nat):Int)=some (f8 s.b0<|d+1)):D5 (n+1) s (d:Int)=some (eS s d):=by
 let⟨hd,e,I,E⟩:=(x0 s d).1 S;have R:=qn _ _ I;have Q:=qn _ _ E;have Y:=Kq d;let⟨Op,BY,Max,A,B,BZ,x⟩:=s
 dsimp only at m F I E R Q
 have M:dD A<=300000/\dD B<=300000/\dV BZ<=300000/\dV x<=300000:=by simp only[fst]at T;omega
 let⟨f1,f2,f3,Z⟩:=M;rw[axO];unfold PT;rw[axM (by omega)<|by omega]
 simp only[aj,fz (show d<=2^62 by omega)]
 have aT:jQ A->mD n A=some (fG A)/\(fG A).length<=1200000:=λh=>⟨aj' h (by omega)<|by omega,by have:=og h;omega⟩
 have K:jQ B->mD n B=some (fG B)/\(fG B).length<=1200000:=λh=>⟨aj' h (by omega)<|by omega,by have:=og h;omega⟩
 have L:hl BY=true->BY.length<=16:=λh=>by let⟨_,_,_,_,_,_,h⟩:=Re h;exact h
 have J:0<=Max/\Max<=999->Ak n Max=some (Lib.decDigits Max.toNat)/\(Lib.decDigits Max.toNat).length<=21:=λh=>⟨aj8 n (by omega) Max h.1<|by omega,E3 Max h.1<|by omega⟩
 unfold eS;unfold Km at e;simp only at e
 rcases e with⟨y,c,z,b⟩|⟨c,b,t⟩|⟨y,c,b⟩|⟨c,b⟩|⟨c,z,W,b,t⟩|⟨c,W⟩
 ·let⟨a,o⟩:=aT b;have U:=L z;rcases y with rfl|rfl
  ·simp (disch:=first|omega|(simp only[UO,UT,UU];omega)) only[a,pU,oK,aj,dW,aF,nY,dR,cat]
   simp
  ·simp (disch:=first|omega|(simp only[UO,UT,UU];omega)) only[a,show¬ (2:Int)=1 by omega,pU,sj,qe,nE,oK,aj,dW,aF,nY,dR,cat]
   simp
 ·cases c;let⟨a,o⟩:=aT b;let⟨w,O⟩:=K t;simp (disch:=first|omega|(simp only[UO,UT,UU];omega)) only[a,w,show¬ (3:Int)=1 by omega,show¬ (3:Int)=2 by omega,pU,sj,qe,nE,oK,aj,dW,aF,nY,dR,cat]
  simp
 ·let⟨a,o⟩:=aT b;rcases y with rfl|rfl<;>simp (disch:=first|omega|(simp only[UO,UT,UU];omega)) only[a,show¬ (4:Int)=1 by omega,show¬ (4:Int)=2 by omega,show¬ (4:Int)=3 by omega,show¬ (7:Int)=1 by omega,show¬ (7:Int)=2 by omega,show¬ (7:Int)=3 by omega,show¬ (7:Int)=4 by omega,show¬ (7:Int)=5 by omega,show¬ (7:Int)=6 by omega,pU,sj,qe,nE,oK,aj,dW,aF,nY,dR,cat]<;>simp
 ·cases c;let⟨a,o⟩:=aT b;have l:¬ (5:Int)=1/\¬ (5:Int)=2/\¬ (5:Int)=3/\¬ (5:Int)=4/\¬ (5:Int)=7/\¬ (5:Int)=8/\¬ (5:Int)=6:=by omega
  let⟨j,i,g,f,k,p,q⟩:=l;by_cases H:x.length=0
  ·simp (disch:=first|omega|(simp only[UO,UT,UU];omega)) only[a,m,j,i,g,f,q,k,p,H,IT,Int.lt_irrefl,show¬ ((0:Int)<((0:Nat):Int))by omega,pU,sj,qe,nE,oK,aj,dW,aF,nY,dR,cat]
   simp
  ·have P:(0:Int)<(x.length:Int):=by omega
   simp (disch:=first|omega|(simp only[UO,UT,UU];omega)) only[a,m,F,P,j,i,g,f,q,k,p,H,IT,pU,sj,qe,nE,oK,aj,dW,aF,nY,dR,cat]
   simp
 ·cases c;let⟨a,o⟩:=aT b;let⟨w,O⟩:=K t;let⟨u,N⟩:=J ⟨by omega,by omega⟩
  have U:=L z;have l:¬ (6:Int)=1/\¬ (6:Int)=2/\¬ (6:Int)=3/\¬ (6:Int)=4/\¬ (6:Int)=7/\¬ (6:Int)=8/\¬ (6:Int)=5:=by omega
  let⟨j,i,g,f,k,p,r⟩:=l;simp (disch:=first|omega|(simp only[UO,UT,UU];omega)) only[a,w,u,m,j,i,g,f,r,k,p,pU,sj,qe,nE,oK,aj,dW,aF,nY,dR,cat]
  simp
 ·cases c;let⟨u,N⟩:=J ⟨by omega,by omega⟩
  have l:¬ (8:Int)=1/\¬ (8:Int)=2/\¬ (8:Int)=3/\¬ (8:Int)=4/\¬ (8:Int)=7/\¬ (8:Int)=5/\¬ (8:Int)=6:=by omega
  let⟨j,i,g,f,k,r,q⟩:=l;simp (disch:=first|omega|(simp only[UO,UT,UU];omega)) only[u,j,i,g,f,r,q,k,pU,sj,qe,nE,oK,aj,dW,aF,nY,dR,cat]
  simp
open Go Go.Ab Go.Proofs Tryz
def axQ:∀(n:Nat) (l:List Bj) (d:Nat),lH l d->dV l<=300000->2*dV l+600<=n->tZ n l (d:Int)=some (f8 l d):=by
 intro n;induction n using Nat.strongRecOn with
 |_ n h=>
  intro l d g B A;obtain⟨n,rfl⟩:∃k,n=k+2:=⟨n-2,by omega⟩
  have hlen:=vZ l;rw[axN];unfold PS
  have r:∀m i,l.length<i+m->i<=l.length->IS (n+1) (tZ<|n+1) (D5<|n+1) l (d:Int) m (f8 (l.take i) d) (i:Int)=some (f8 l d):=by
   intro m;induction m with
   |zero=>intro i u t;omega
   |succ m o=>
    intro i u t;simp only[IS,Ys,Yr,UP,US];by_cases a:i<l.length
    ·simp only[a,YW,UL,bW a,aF];have b:=aaS l i d a g;have w:lH (l.take i) d:=((aaT (l.take i) (l.drop i) d).1 (by rw[pK];exact g)).1
     have y:=qn _ _ w
     have j:dV l=dV (l.take i)+(fst (l.getD i default)+1+dV (l.drop<|i+1)):=by
      have:dV l=dV (l.take i++l.drop i):=by rw[pK]
      rw[aaj,gl l i default a]at this;simpa only[dV]using this
     have c:=o (i+1) (by omega) (by omega)
     rw[AP l i a,aaU]at c;generalize l.getD i default=s at b j c
     have z:=ajL s d b;have x:=fst_eq s;let⟨_,_,f,e⟩:=(x0 s d).1 b;have q:=h n (by omega) s.BZ (d+1) f (by omega) (by omega)
     have p:=h n (by omega) s.b0 (d+1) e (by omega) (by omega)
     rw[axP b (by omega) (by omega) q p,aj,dW<|by omega,aF,fz<|by omega]
     simpa only[f8,gJ]using c
    ·simp only[a,UN,UK];rw[re<|by omega]
  exact r (n+1) 0 (by omega) (by omega)
open Go Go.Ab Go.Proofs Tryz
def axT(n:Nat)(t:Int):Yt n t=some (pC t):=ajS n t
def aj_(x:UB):∀l:List UB,Lib.joinTail [44,32] (l++[x])=Lib.joinTail [44,32] l++([44,32]++x)
 |[]=>by simp[Lib.joinTail]
 |y::l=>by rw[gk,Kt,Kt,aj_ x l];simp
def axU(x:UB)(l:List UB):Lib.join (l++[x]) [44,32]=(if l.length=0 then Lib.join l [44,32]else Lib.join l [44,32]++[44,32])++x:=by
 cases l with
 |nil=>simp[Lib.join,Lib.joinTail]
 |cons y l=>rw[gk,Lib.join_cons,Lib.join_cons,aj_,de<|by simp];simp
def axV{n:Nat}(p:bk)(hi:uk p)(g:n_ p=0)(z:3000000<=n)(F:ja p.Cq<=300000)(u:dV p.BZ<=300000):An n p=some (me p):=by
 have k:=Rv hi g;let⟨q,o,h⟩:=k;let⟨E,j⟩:=Ks o;have B:=ru q;have A:=qn p.BZ 1 h;unfold An;rw[ajb p (by omega) (by omega) (by omega) (by omega) (by omega) (by omega)<|by omega,g]
 simp only[aj,YW,UR,UK];rw[dW (by simp only[UT,UU];omega),dW (by simp only[UO,UT,UU];omega)]
 simp only[aF]
 have l:∀m i,p.Cq.length<i+m->i<=p.Cq.length->IU n p m ((([112,114,111,99,32]++p.BY)++[40])++oT (p.Cq.take i)) (i:Int)=some (me p):=by
  intro m;induction m with
  |zero=>intro i t s;omega
  |succ m w=>
   intro i t s;have b:(oT<|p.Cq.take i).length<=24*(p.Cq.take i).length:=aaW λx c=>j x<|mI c
   have e:(p.Cq.take i).length<=6:=by simp;omega
   simp only[IU,Yw,PU,Yv,UP,US];by_cases hi:i<p.Cq.length
   ·have c:=j (p.Cq.getD i default) (by rw[ie,ed hi];exact pj hi)
    have d:=ru c.1;have f:=aaV (p.Cq.getD i default).fT;have a:=w (i+1) (by omega) (by omega)
    unfold oT at a b ⊢;rw[AP p.Cq i hi,vS]at a;simp only[kz,rf]at a;rw[axU]at a;generalize y:p.Cq.getD i default=x at a d f
    simp only[hi,YW,UL,bW hi,aF,axT,aj,fz (show i<=2^62 by omega),fq]
    by_cases r:i=0
    ·subst r;simp (disch:=first|omega|(simp only[UO,UT,UU];omega)) only[hS,sj,qe,dW,aF]
     rw[<-a];simp[oh]
    ·simp (disch:=first|omega|(simp only[UO,UT,UU];omega)) only[show 0<i by omega,pU,oK,dW,aF]
     rw[<-a,de (by rw[jz,jF];omega)];simp[oh]
   ·simp only[hi,UN,UK];obtain rfl:i=p.Cq.length:=by omega
    unfold Yu;rw[rH]at b e ⊢;rw[show(1:Int)=((1:Nat):Int)from rfl,axQ n p.BZ 1 h u<|by omega]
    simp (disch:=first|omega|(simp only[UO,UT,UU];omega)) only[aj,dW,aF]
    simp[me,dR,cat,ind]
 have:=l n 0 (by omega) (by omega)
 rw[show oT (p.Cq.take 0)=[]from rfl,gJ]at this
 exact this
open Go Go.Ab Go.Proofs Tryz
def axX{β:Type}{L:Nat->Int->Option β}{len:Nat}{U2:Nat->Bool}{no yes:β}
 (step:∀m i,i<len->L (m+1) (i:Int)=if U2 i then L m ((i+1:Nat):Int)else some no) (a:∀m,L (m+1) (len:Int)=some yes):
 ∀m i,len<i+m->i<=len->L m (i:Int)=some (if(List.range' i<|len-i).all U2 then yes else no):=by
 intro m;induction m with
 |zero=>intro i h c;omega
 |succ m d=>
  intro i h c;by_cases b:i<len
  ·rw[step m i b,d (i+1) (by omega)<|by omega,show len-i=(len-(i+1))+1 by omega,vo,ny]
   cases U2 i
   ·rfl
   ·rw[eI rfl,iP]
  ·obtain rfl:i=len:=by omega
   rw[a m];simp
def aa2{β:Type}{L:Nat->Int->Option β}{len:Nat}{U2:Nat->Bool}{no yes:β}{m:Nat}(b:len<m)
 (step:∀m i,i<len->L (m+1) (i:Int)=if U2 i then L m ((i+1:Nat):Int)else some no) (a:∀m,L (m+1) (len:Int)=some yes):
 L m 0=some (if(List.range len).all U2 then yes else no):=by
 have:=axX step a m 0 (by omega) (by omega)
 rwa [pN,<-sd]at this
def qq(c:UInt8):Bool:=decide (97<=c.toNat/\c.toNat<=122)||decide (48<=c.toNat/\c.toNat<=57)||decide (c.toNat=47)||decide (c.toNat=46)||decide (c.toNat=95)||decide (c.toNat=45)
def fY(k:UB):Bool:=decide (1<=k.length)&&decide (k.length<=24)&&(List.range k.length).all λi=>qq (k.getD i 0)
def axY{n:Nat}{s:UB}(h:24<n):MH n s=some (decide (s.length<=24)&&(List.range s.length).all λi=>qq<|s.getD i 0):=by
 unfold MH;by_cases b:s.length<=24
 ·simp only[fq,show¬ 24<s.length by omega,UN,UK,b,YW,iP]
  rw[aa2 (L:=Cr n s) (len:=s.length) (U2:=λi=>qq<|s.getD i 0) (no:=false) (yes:=true)<|by omega]
  ·cases (List.range s.length).all λi=>qq (s.getD i 0)<;>rfl
  ·intro m i a;simp only[Cr,MG,opsA,UP,a,YW,UL,bW a,aF,aj,US,fz (show i<=2^62 by omega),ug,mH,hM,dU,ew]
   have:(((((decide (97<=(s.getD i 0).toNat)&&decide ((s.getD i 0).toNat<=122)||(decide (48<=(s.getD i 0).toNat)&&decide ((s.getD i 0).toNat<=57)))||decide ((s.getD i 0).toNat=47))||decide ((s.getD i 0).toNat=46))||decide ((s.getD i 0).toNat=95))||decide ((s.getD i 0).toNat=45))=qq (s.getD i 0):=by
    simp[qq,qm]
   rw[this];cases qq (s.getD i 0)<;>rfl
  ·intro m;simp only[Cr,MG,aEa,UZ,UN,UK]
 ·simp only[fq,show 24<s.length by omega,YW,UL,b,UN,jH]
def Ky{n:Nat}{k:UB}(h:24<n):w7 n k=some (fY k):=by
 unfold w7 fY;rw[axY h];cases k with
 |nil=>rfl
 |cons c l=>simp[aj]
def axZ(c:Nat):(((((decide (c<97)||decide (122<c))&&(decide (c<48)||decide (57<c))) && !decide (c=47)) && !decide (c=46)) && !decide (c=95) && !decide (c=45)) = !(decide (97<=c/\c<=122)||decide (48<=c/\c<=57)||decide (c=47)||decide (c=46)||decide (c=95)||decide (c=45)):=by
 rw[yQ];simp only[cb,mu,fx,hh,lG,iv];omega
def Kz{n:Nat}{k:UB}(h:k.length<n)(b:k.length<=2^63-1):Ac n k=some (fY k):=by
 unfold Ac;rw[aa2 (L:=Dz n k) (len:=k.length) (U2:=λi=>qq<|k.getD i 0) (no:=false) (yes:=decide (1<=k.length)&&decide (k.length<=24)) h]
 ·unfold fY;cases (List.range k.length).all λi=>qq (k.getD i 0)<;>simp
 ·intro m i a;simp only[Dz,OQ,UP,a,YW,UL,bW a,aF,US,cu (show i<=2^63-2 by omega),uf,fq,hM,dU,ew]
  have:=axZ (k.getD i 0).toNat
  rw[show(decide (97<=(k.getD i 0).toNat/\(k.getD i 0).toNat<=122)||decide (48<=(k.getD i 0).toNat/\(k.getD i 0).toNat<=57)||decide ((k.getD i 0).toNat=47)||decide ((k.getD i 0).toNat=46)||decide ((k.getD i 0).toNat=95)||decide ((k.getD i 0).toNat=45))=qq (k.getD i 0)from rfl]at this
  rw[this];cases qq (k.getD i 0)<;>rfl
 ·intro m;simp only[Dz,OQ,W4,UZ,UN,UK,ug,mH,ew]
open Go Go.Ab Go.Proofs Tryz
def akb(n:Nat)(s:UB):∀m,GZ n s m=CE n s m
 | 0=>rfl
 |m+1=>by
  show aD' n s (GZ n s m)=_
  rw[akb n s m];rfl
def akc{n:Nat}{s:UB}(h:s.length<n)(a:s.length<=2^63-1):G0 n s=some (kc s):=by
 unfold G0;rw[akb];exact aiH h a
def akd(n:Nat)(s:UB):∀m,Iu n s m=D2 n s m
 | 0=>rfl
 |m+1=>by
  show W3 n s (Iu n s m)=_
  rw[akd n s m];rfl
def ax0{n:Nat}{s:UB}(h:s.length<n)(b:s.length<=2^63-1):OP n s=some (kc s):=by
 unfold OP kc;by_cases a:s.length<=64
 ·simp only[fq,show¬ 64<s.length by omega,UN,UK,a,YW,oP]
  rw[akd];exact aj9 s h b
 ·simp only[fq,show 64<s.length by omega,YW,UL,a,UN,kL]
def gS(v:bJ):Bool:=if v.Cc=0 then decide (v.N=0)&&decide (v.S=[])else if v.Cc=1 then decide (v.S=[])else decide (v.Cc=2)&&decide (v.N=0)&&kc v.S
def KA{n:Nat}{v:bJ}(h:v.S.length<n)(e:v.S.length<=2^63-1):sh n v=some (gS v):=by
 unfold sh gS;by_cases c:v.Cc=0
 ·simp[c]
 ·by_cases b:v.Cc=1
  ·simp[b]
  ·by_cases a:v.Cc=2
   ·by_cases d:v.N=0
    ·simp[a,d,akc h e]
    ·simp[a,d]
   ·simp[c,b,a]
def KB{n:Nat}{v:bJ}(h:v.S.length<n)(e:v.S.length<=2^63-1):xl n v=some (gS v):=by
 unfold xl gS;by_cases d:v.Cc=0
 ·by_cases a:v.N=0<;>simp[d,a]
 ·by_cases c:v.Cc=1
  ·simp[c]
  ·by_cases b:v.Cc=2
   ·by_cases a:v.N=0
    ·simp[b,a,ax0 h e]
    ·simp[b,a]
   ·simp[d,c,b]
def bX(v:bJ):UB:=if v.Cc=1 then dw 1++mN v.N else if v.Cc=2 then dw 2++dq v.S else dw 0
def aa3{n:Nat}{v:bJ}(a:10<=n)(e:eo v.N)(b:v.S.length<=2^62):zm n v=some (bX v):=by
 have l:=qp e;have k:=uu b;have j:=kg (u:=1) (by omega)
 have i:=kg (u:=2) (by omega)
 have h:iL n 0=some (dw 0):=wi (u:=0) a (by omega)
 have g:iL n 1=some (dw 1):=wi (u:=1) a (by omega)
 have f:iL n 2=some (dw 2):=wi (u:=2) a (by omega)
 unfold zm bX;by_cases c:v.Cc=1
 ·simp (disch:=omega) only[c,pU,oK,g,aj,AY a e,dW,aF,nY]
 ·by_cases d:v.Cc=2
  ·simp (disch:=omega) only[d,show¬ (2:Int)=1 by omega,pU,sj,oK,qe,f,aj,ur a b,dW,aF,nY,nE]
  ·simp only[c,d,UN,UK,h,aj,UY]
def aa4{n:Nat}{v:bJ}(a:10<=n)(e:eo v.N)(b:v.S.length<=2^62):Ec n v=some (bX v):=by
 have l:=qp e;have k:=uu b;have j:=kg (u:=1) (by omega)
 have i:=kg (u:=2) (by omega)
 have h:iQ n 0=some (dw 0):=wj (u:=0) a (by omega)
 have g:iQ n 1=some (dw 1):=wj (u:=1) a (by omega)
 have f:iQ n 2=some (dw 2):=wj (u:=2) a (by omega)
 unfold Ec bX;by_cases c:v.Cc=1
 ·simp (disch:=omega) only[c,pU,oK,g,aj,AX a e,dW,aF,nY]
 ·by_cases d:v.Cc=2
  ·simp (disch:=omega) only[d,show¬ (2:Int)=1 by omega,pU,sj,oK,qe,f,aj,ut a b,dW,aF,nY,nE]
  ·simp only[c,d,UN,UK,h,aj,UY]
def aa5{v:bJ}(b:eo v.N)(a:v.S.length<=2^62):(bX v).length<=v.S.length+20:=by
 have g:=qp b;have f:=uu a;have c:=kg (u:=0) (by omega)
 have e:=kg (u:=1) (by omega)
 have d:=kg (u:=2) (by omega)
 unfold bX;split
 ·simp;omega
 ·split
  ·simp;omega
  ·omega
open Go Go.Ab Go.Proofs Tryz
abbrev eY(α:Type):=UB->Except Int (α×UB)
structure eB{α:Type}(D:eY α)(E:α->UB)(ok:α->Prop):Prop where
 rt:∀v t,ok v->D (E v++t) = .ok (v,t)
 gY:∀x v t,D x = .ok (v,t)->x=E v++t/\ok v
 dr:∀x e,D x = .error e->e≠0
def eB.mf{α:Type}{D:eY α}{E:α->UB}{ok:α->Prop}(h:eB D E ok){x:UB}{v:α}{t:UB}(a:D x = .ok (v,t)):t <:+ x:=⟨E v,(h.gY x v t a).1.symm⟩
def ek{α β:Type}(D:eY α)(k:α->eY β):eY (α×β):=λx=>match D x with
 |.ok (v,t)=>match k v t with
  |.ok (w,u)=>.ok ((v,w),u)
  |.error e=>.error e
 |.error e=>.error e
def eB.dep{α β:Type}{D:eY α}{E:α->UB}{ok:α->Prop}{k:α->eY β}{dG:α->β->UB}{j:α->β->Prop}(h:eB D E ok)(i:∀a,ok a->eB (k a) (dG a) (j a)):
 eB (ek D k) (λp=>E p.1++dG p.1 p.2) (λp=>ok p.1/\j p.1 p.2) where
 rt:=fun⟨v,w⟩ t ⟨d,c⟩=>by simp only[ek,eO,h.rt v _ d,(i v d).rt w t c]
 gY:=
  λx ⟨v,w⟩ t b=>by
  unfold ek at b;split at b
  ·rename_i f l hd;let⟨d,c⟩:=h.gY _ _ _ hd;split at b
   ·rename_i r q g;let⟨o,n⟩:=(i f c).gY _ _ _ g;cases b;exact⟨by rw[d,o,eO],c,n⟩
   ·cases b
  ·cases b
 dr:=
  λx e b=>by
  unfold ek at b;split at b
  ·rename_i f l hd;split at b
   ·cases b
   ·rename_i m g;cases b;exact(i f (h.gY _ _ _ hd).2).dr _ _ g
  ·rename_i m hd;cases b;exact h.dr _ _ hd
def gw{α β:Type}(f:α->β)(D:eY α):eY β:=λx=>match D x with
 |.ok (v,t)=>.ok (f v,t)
 |.error e=>.error e
def eB.map{α β:Type}{D:eY α}{E:α->UB}{ok:α->Prop}(h:eB D E ok)(f:α->β)(g:β->α)(k:β->Prop)(m:β->UB)(l:∀b,k b->f (g b)=b/\ok (g b)/\m b=E (g b))(p:∀a,ok a->g (f a)=a/\k (f a)):
 eB (gw f D) m k where
 rt:=λv t o=>by
  let⟨i,d,j⟩:=l v o;simp only[gw,j,h.rt _ t d,i]
 gY:=λx v t c=>by
  unfold gw at c;split at c
  ·rename_i r s hd;cases c;let⟨i,d⟩:=h.gY _ _ _ hd;let⟨j,n⟩:=p _ d;let⟨_,_,q⟩:=l _ n;exact⟨by rw[q,j,i],n⟩
  ·cases c
 dr:=λx e c=>by
  unfold gw at c;split at c
  ·cases c
  ·rename_i u hd;cases c;exact h.dr _ _ hd
def oi{α:Type}(p:α->Bool)(e:Int)(D:eY α):eY α:=λx=>match D x with
 |.ok (v,t)=>if p v then .ok (v,t)else .error e
 |.error f=>.error f
def eB.U2{α:Type}{D:eY α}{E:α->UB}{ok:α->Prop}(h:eB D E ok)(p:α->Bool)(e:Int)(c:e≠0):eB (oi p e D) E (λv=>ok v/\p v=true) where
 rt:=λv t ⟨g,d⟩=>by simp only[oi,h.rt v t g,d,U3]
 gY:=
  λx v t a=>by
  unfold oi at a;split at a
  ·rename_i i j hd;split at a
   ·rename_i b;cases a;exact⟨(h.gY _ _ _ hd).1,(h.gY _ _ _ hd).2,b⟩
   ·cases a
  ·cases a
 dr:=λx f a=>by
  unfold oi at a;split at a
  ·split at a
   ·cases a
   ·cases a;exact c
  ·rename_i k hd;cases a;exact h.dr _ _ hd
def eZ{α:Type}(E:α->UB)(l:List α):UB:=(l.map E).flatten
def AZ{α:Type}(E:α->UB)(v:α)(l:List α):eZ E (v::l)=E v++eZ E l:=rfl
def ax1{α:Type}(E:α->UB):eZ E []=[]:=rfl
def hq{α:Type}(D:eY α):Nat->eY (List α)
 | 0,x=>.ok ([],x)
 |n+1,x=>match D x with
  |.ok (v,t)=>match hq D n t with
   |.ok (l,u)=>.ok (v::l,u)
   |.error e=>.error e
  |.error e=>.error e
def eB.rep{α:Type}{D:eY α}{E:α->UB}{ok:α->Prop}(h:eB D E ok):∀n,eB (hq D n) (eZ E) (λl=>l.length=n/\∀v∈l,ok v)
 | 0=>{
  rt:=λv t ⟨c,_⟩=>by
   obtain rfl:=gQ c;rfl
  gY:=λx v t b=>by cases b;exact⟨rfl,rfl,λv hv=>by cases hv⟩
  dr:=λx e b=>by cases b}
 |n+1=>{
  rt:=λv t ⟨c,h2⟩=>by
   cases v with
   |nil=>simp at c
   |cons a l=>
    have g:=h.rt a (eZ E l++t)<|h2 a<|by simp
    have f:=(eB.rep h n).rt l t ⟨by simpa using c,λv hv=>h2 v<|by simp[hv]⟩
    simp only[hq,AZ,eO,g,f]
  gY:=
   λx v t b=>by
   unfold hq at b;split at b
   ·rename_i o p hd;split at b
    ·rename_i r q d;cases b;let⟨g,f⟩:=h.gY _ _ _ hd;let⟨m,k,i⟩:=(eB.rep h n).gY _ _ _ d;refine⟨by rw[g,m,AZ,eO],by simp[k],λv hv=>?_⟩
     rcases gh.1 hv with rfl|hv
     ·exact f
     ·exact i v hv
    ·cases b
   ·cases b
  dr:=λx e b=>by
   unfold hq at b;split at b
   ·split at b
    ·cases b
    ·rename_i j d;cases b;exact(eB.rep h n).dr _ _ d
   ·rename_i j hd;cases b;exact h.dr _ _ hd}
def oj:Nat->eY Nat
 | 0,_=>.error 5
 |_+1,[]=>.error 6
 |k+1,c::t=>if k=0/\1<c.toNat\/c.toNat=0/\k<9 then .error 5 else if c.toNat<128 then .ok (c.toNat,t)else match oj k t with
  |.ok (u,t)=>.ok (c.toNat % 128+128*u,t)
  |.error e=>.error e
def uv:eY Nat:=oj 10
def ake:∀(k u:Nat) (t:UB),u<2 ^ (7*k+1)->(k<9->0<u)->oj (k+1) (dw u++t) = .ok (u,t)
 |k,u,t,h,c=>by
  rw[dw];by_cases a:u<128
  ·rw[eI a];have e:(UInt8.ofNat u).toNat=u:=by simp only[vG];omega
   simp only[rY,oj,e];rw[de,eI a];intro d;rcases d with⟨rfl,b⟩|⟨f,b⟩
   ·simp at h;omega
   ·have:=c b;omega
  ·rw[de a];have e:(UInt8.ofNat<|u % 128+128).toNat=u % 128+128:=by simp only[vG];omega
   cases k with
   |zero=>simp at h;omega
   |succ k=>
    have:=ake k (u / 128) t (by rw[show 7*(k+1)+1=7*k+1+7 by omega,Nat.pow_add]at h;omega) (λ_=>by omega)
    simp only[gk,oj,e]at this ⊢;rw[de<|by omega,de<|by omega,this]
    simp only
    rw[show(u % 128+128) % 128+128*(u / 128)=u by omega]
def aa6:∀(k:Nat) (x:UB) (u:Nat) (t:UB),k<=9->oj (k+1) x = .ok (u,t)->x=dw u++t/\u<2 ^ (7*k+1)/\(k<9->0<u)
 |k,[],u,t,_,h=>by simp[oj]at h
 |k,c::x,u,t,j,h=>by
  have n:=c.toNat_lt;unfold oj at h;split at h
  ·cases h
  ·rename_i o;split at h
   ·rename_i e;cases h;rw[dw,eI e];refine⟨by simp,?_,λb=>by omega⟩
    cases k with
    |zero=>simp;omega
    |succ k=>
     rw[show 7*(k+1)+1=7*k+1+7 by omega,Nat.pow_add]
     have:=Nat.two_pow_pos<|7*k+1
     omega
   ·rename_i e;split at h
    ·rename_i a m d;cases h;cases k with
     |zero=>simp[oj]at d
     |succ k=>
      let⟨i,g,f⟩:=aa6 k _ _ _ (by omega) d
      refine⟨?_,?_,λ_=>?_⟩
      ·have l:0<a:=by
        by_cases b:k<9
        ·exact f b
        ·omega
       rw[dw,de<|by omega,i]
       rw[show(c.toNat % 128+128*a) / 128=a by omega,show(c.toNat % 128+128*a) % 128+128=c.toNat by omega]
       simp
      ·rw[show 7*(k+1)+1=7*k+1+7 by omega,Nat.pow_add]
       generalize 2 ^ (7*k+1)=P at g ⊢
       omega
      ·by_cases b:k<9
       ·have:=f b;omega
       ·omega
    ·cases h
def akf:∀(k:Nat) (x:UB) (e:Int),oj k x = .error e->e=5\/e=6
 | 0,x,e,h=>by cases h;simp
 |k+1,[],e,h=>by cases h;simp
 |k+1,c::x,e,h=>by
  unfold oj at h;split at h
  ·cases h;simp
  ·split at h
   ·cases h
   ·split at h
    ·cases h
    ·rename_i b a;cases h;exact akf k _ _ a
def uw:eB uv dw (λu=>u<2^64) where
 rt:=λu t h=>ake 9 u t h (by omega)
 gY:=λx u t h=>⟨(aa6 9 x u t (by omega) h).1,(aa6 9 x u t (by omega) h).2.1⟩
 dr:=λx e h=>by have:=akf 10 x e h;omega
def jm:eY Int:=gw (λu:Nat=>(u:Int)) uv
def hr(z:Int):Prop:=0<=z/\z<2^64
def ih(z:Int):UB:=dw z.toNat
def ol:eB jm ih hr:=
 uw.map _ Int.toNat hr ih (λb h=>by unfold hr at h;exact⟨by omega,by omega,rfl⟩) (λa h=>⟨by omega,by unfold hr;omega⟩)
def Fb(u:Nat):Int:=if u % 2=1 then -((u / 2:Nat):Int)-1 else((u / 2:Nat):Int)
def jR:eY Int:=gw Fb uv
def mg:eB jR mN eo:=
 uw.map _ fold eo mN (λb h=>⟨by unfold eo at h;unfold fold Fb;split<;>(split<;>omega),RC h,rfl⟩)
  (λa h=>⟨by unfold fold Fb;split<;>(split<;>omega),by unfold eo Fb;split<;>omega⟩)
def jS(most:Nat):eY Nat:=λx=>match uv x with
 |.ok (u,t)=>if most<u then .error 2 else if t.length<u then .error 6 else .ok (u,t)
 |.error e=>.error e
def rx{most:Nat}{x t:UB}{u:Nat}(h:jS most x = .ok (u,t)):x=dw u++t/\u<=most/\u<=t.length:=by
 unfold jS at h;split at h
 ·rename_i b a hd;split at h
  ·cases h
  ·split at h
   ·cases h
   ·cases h;exact⟨(uw.gY _ _ _ hd).1,by omega,by omega⟩
 ·cases h
def qr{most:Nat}{x:UB}{e:Int}(h:jS most x = .error e):e≠0:=by
 unfold jS at h;split at h
 ·split at h
  ·cases h;omega
  ·split at h
   ·cases h;omega
   ·cases h
 ·rename_i a hd;cases h;exact uw.dr _ _ hd
def aa7{most u:Nat}{t:UB}(h:u<=most)(b:most<2^64)(a:u<=t.length):jS most (dw u++t) = .ok (u,t):=by
 unfold jS;rw[uw.rt u t<|by omega]
 simp only
 rw[de<|by omega,de<|by omega]
def kD{α:Type}(most:Nat)(D:eY α):eY (List α):=λx=>match jS most x with
 |.ok (u,t)=>hq D u t
 |.error e=>.error e
def cX{α:Type}(E:α->UB)(l:List α):UB:=dw l.length++eZ E l
def Fc{α:Type}{E:α->UB}:∀{l:List α},(∀v∈l,E v≠[])->l.length<=(eZ E l).length
 |[],_=>by simp
 |v::l,h=>by
  have c:(E v).length≠0:=by simpa using h v (by simp)
  have b:=Fc (E:=E) (l:=l) λw a=>h w (by simp[a])
  simp only[AZ,UO,UT];omega
def eB.x4{α:Type}{D:eY α}{E:α->UB}{ok:α->Prop}(h:eB D E ok)(most:Nat)(g:most<2^64)(b:∀v,ok v->E v≠[]):eB (kD most D) (cX E) (λl=>l.length<=most/\∀v∈l,ok v) where
 rt:=λl t ⟨c,h2⟩=>by
  have k:=Fc (E:=E) (l:=l) λv f=>b v<|h2 v f
  unfold kD cX;rw[eO,aa7 c g (by simp;omega)]
  exact(h.rep l.length).rt l t ⟨rfl,h2⟩
 gY:=λx l t a=>by
  unfold kD at a;split at a
  ·rename_i d n hd;let⟨c,h2,k⟩:=rx hd;let⟨j,m,i⟩:=(h.rep d).gY _ _ _ a;subst m;exact⟨by rw[c,j,cX,eO],h2,i⟩
  ·cases a
 dr:=λx e a=>by
  unfold kD at a;split at a
  ·exact(h.rep _).dr _ _ a
  ·rename_i o hd;cases a;exact qr hd
def fH(most:Nat):eY UB:=λx=>match jS most x with
 |.ok (u,t)=>.ok (t.take u,t.drop u)
 |.error e=>.error e
def wk(most:Nat)(d:most<2^64):eB (fH most) dq (λs=>s.length<=most) where
 rt:=λs t h=>by
  unfold fH dq;rw[eO,aa7 h d<|by simp]
  simp
 gY:=λx s t a=>by
  unfold fH at a;split at a
  ·rename_i b c hd;let⟨f,g,j⟩:=rx hd;cases a;have:(c.take b).length=b:=by simp;omega
   unfold dq;rw[this];exact⟨by rw[eO,pK,f],by omega⟩
  ·cases a
 dr:=λx e a=>by
  unfold fH at a;split at a
  ·cases a
  ·rename_i i hd;cases a;exact qr hd
def ux:eY Bool
 |[]=>.error 6
 |c::t=>if 1<c.toNat then .error 5 else .ok (decide<|c.toNat=1,t)
def uy(b:Bool):UB:=if b then[1] else[0]
def aa8:eB ux uy (λ_=>True) where
 rt:=λb t _=>by cases b<;>rfl
 gY:=
  λx b t a=>by
  cases x with
  |nil=>cases a
  |cons c x=>
   simp only[ux]at a;by_cases d:1<c.toNat
   ·rw[eI d]at a;cases a
   ·rw[de d]at a;cases a;refine⟨?_,trivial⟩
    unfold uy;by_cases f:c.toNat=1
    ·rw[fp f];have:c=1:=xa.1 (by simpa using f)
     rw[this];rfl
    ·rw[en f];have:c=0:=xa.1 (by simp;omega)
     rw[this];rfl
 dr:=λx e a=>by
  cases x with
  |nil=>cases a;omega
  |cons c x=>
   simp only[ux]at a;by_cases d:1<c.toNat
   ·rw[eI d]at a;cases a;omega
   ·rw[de d]at a;cases a
def qs(u:Nat):dw u≠[]:=by rw[dw];split<;>simp
open Go Go.Ab Go.Proofs Tryz
def aa9{α:Type}(v:α):eY α:=λx=>.ok (v,x)
def akg{α:Type}(v:α):eB (aa9 v) (λ_=>[]) (λw=>w=v) where
 rt:=λw t h=>by subst h;rfl
 gY:=λx w t h=>by cases h;exact⟨rfl,rfl⟩
 dr:=λx e h=>by cases h
def eB.as{α:Type}{D:eY α}{E:α->UB}{ok:α->Prop}(h:eB D E ok)(d:α->UB)(f:α->Prop)(a:∀v,f v↔ok v)(c:∀v,ok v->d v=E v):eB D d f where
 rt:=λv t b=>by rw[c v<|(a v).1 b];exact h.rt v t<|(a v).1 b
 gY:=λx v t g=>by
  let⟨i,e⟩:=h.gY x v t g;exact⟨by rw[c v e];exact i,(a v).2 e⟩
 dr:=h.dr
def pD(lo hi:Int):eY Int:=oi (λz=>decide (lo<=z)&&decide (z<=hi)) 5 jm
def aa'{lo hi:Int}(b:0<=lo)(a:hi<2^64):eB (pD lo hi) ih (λz=>lo<=z/\z<=hi):=
 (ol.U2 _ 5<|by omega).as _ _ (λv=>by simp only[cb,fx,hr];omega) (λ_ _=>rfl)
def Fd(k:Int):eY bJ:=if k=0 then aa9 ⟨0,0,[]⟩else if k=1 then gw (λn=>⟨1,n,[]⟩) jR else if k=2 then oi (λv=>kc v.S) 5 (gw (λs=>⟨2,0,s⟩)<|fH 64)else λ_=>.error 5
def om:eY bJ:=gw Prod.snd (ek jm Fd)
def ry(v:bJ):Prop:=gS v=true/\eo v.N
def akh{s:UB}(h:kc s=true):s.length<=64:=by
 unfold kc at h;simp only[cb,fx]at h;exact h.2
def A0{v:bJ}(h:gS v=true):v=⟨0,0,[]⟩\/(v.Cc=1/\v.S=[])\/(v.Cc=2/\v.N=0/\kc v.S=true):=by
 let⟨k,n,s⟩:=v;unfold gS at h;simp only at h ⊢
 split at h
 ·rename_i b;simp only[cb,fx]at h;obtain⟨rfl,rfl⟩:=h;exact .inl (by rw[b])
 ·split at h
  ·rename_i a;exact .inr<|.inl ⟨a,by simpa using h⟩
  ·simp only[cb,fx]at h;exact .inr (.inr ⟨h.1.1,h.1.2,h.2⟩)
def wm:eB om bX ry:=by
 have dJ:∀k,hr k→eB (Fd k) (λv=>if k=1 then mN v.N else if k=2 then dq v.S else[]) (λv=>ry v∧v.Cc=k):=by
  intro k hk;unfold Fd;by_cases h0:k=0
  ·subst h0;rw [if_pos rfl];refine(akg _).as _ _ (λv=>⟨fun⟨⟨h1,h2⟩,ah⟩=>?_,λh=>?_⟩) (λv _=>?_)
   ·rcases A0 h1 with h|h|h
    ·exact h
    ·exact absurd (h.1.symm.trans ah) (by omega)
    ·exact absurd (h.1.symm.trans ah) (by omega)
   ·subst h;exact⟨⟨rfl,by unfold eo;simp⟩,rfl⟩
   ·simp
  ·rw [if_neg h0];by_cases h1:k=1
   ·subst h1;rw [if_pos rfl];refine mg.map _ (λv=>v.N) _ _ (λv ⟨⟨h2,ah⟩,ay⟩=>⟨?_,ah,by simp⟩) (λn hn=>⟨rfl,⟨⟨by simp [gS],hn⟩,rfl⟩⟩)
    rcases A0 h2 with h|h|h
    ·rw [h]at ay;exact absurd ay (by simp)
    ·obtain⟨a,b,c⟩:=v;simp only at h ay ⊢;rw [ay,h.2]
    ·exact absurd (h.1.symm.trans ay) (by omega)
   ·rw [if_neg h1];by_cases h2:k=2
    ·subst h2;rw [if_pos rfl];refine(((wk 64 (by omega)).map (λs=>(⟨2,0,s⟩:bJ)) (λv=>v.S) (λv=>v.Cc=2∧v.N=0∧v.S.length≤64) (λv=>dq v.S) (λv ⟨ah,ay,aO⟩=>⟨?_,aO,rfl⟩) (λs hs=>⟨rfl,rfl,rfl,hs⟩)).U2 _ 5 (by omega)).as _ _ (λv=>⟨fun⟨⟨ah,ay⟩,aO⟩=>?_,fun⟨⟨ah,ay,aO⟩,bG⟩=>?_⟩) (λv _=>by simp)
     ·obtain⟨a,b,c⟩:=v;simp only at ah ay ⊢;rw [ah,ay]
     ·rcases A0 ah with h|h|h
      ·rw [h]at aO;exact absurd aO (by simp)
      ·exact absurd (h.1.symm.trans aO) (by omega)
      ·exact⟨⟨h.1,h.2.1,akh h.2.2⟩,h.2.2⟩
     ·refine⟨⟨?_,by rw [ay];unfold eo;omega⟩,ah⟩
      unfold gS;rw [ah,ay];simp [bG]
    ·rw [if_neg h2]
     exact {
      rt:=λv t ⟨⟨ah,ay⟩,aO⟩=>by
       exfalso
       rcases A0 ah with h|h|h
       ·rw [h]at aO;exact h0 aO.symm
       ·exact h1 (aO.symm.trans h.1)
       ·exact h2 (aO.symm.trans h.1)
      gY:=λx v t h=>by cases h
      dr:=λx e h=>by cases h;omega}
 refine(ol.dep dJ).map Prod.snd (λv=>(v.Cc,v)) ry bX (λv hv=>⟨rfl,⟨?_,hv,rfl⟩,?_⟩) (fun⟨k,v⟩ ⟨h1,h2,ah⟩=>⟨congrArg (·,v) ah,h2⟩)
 ·rcases A0 hv.1 with h|h|h
  ·rw [h];unfold hr;simp
  ·unfold hr;rw [h.1];omega
  ·unfold hr;rw [h.1];omega
 ·unfold bX ih;rcases A0 hv.1 with h|h|h
  ·rw [h];simp
  ·simp only [h.1];rfl
  ·simp only [h.1];rfl
def ax2(v:bJ):bX v≠[]:=by
 unfold bX;split
 ·simp[qs]
 ·split
  ·simp[qs]
  ·exact qs _
end Go.Ab.Y

/- The plain law: what the functions compute answers as the statement says. -/
import Derived.Test.YtbncfepdlmnmiaaGreatDoorPlainA
set_option linter.all false
namespace Go.Ab.Y
open Go Go.Ab Go.Proofs
structure BE(s:ao):Prop where
 xi:s.Rows.length≤60
 vs:∀i,i<s.Rows.length→(s.Rows.getD i default).bi.length≤40
def WA{n:Nat}(hn:2000≤n)(s:ao):s7 n s=some false∨(BE s∧s7 n s=some true):=by
 unfold s7;simp only [ix];by_cases ab:s.Rows.length≤60
 ·simp only [show¬ 60<s.Rows.length by omega,aju,ajw]
  rcases p4 (L:=s6 n s) (len:=s.Rows.length) (m:=n) (Q:=λi=>(s.Rows.getD i default).bi.length≤40) (fin:=some true) (by omega)
   (λm i hi=>by
    simp only [s6,zJ,hi,eo hi,ajB,ajC,ix,ajt,ajv,dy,fy (show i≤9223372036854775806 by omega)]
    by_cases h:(s.Rows.getD i default).bi.length≤40
    ·right;simp only [show¬ 40<(s.Rows.getD i default).bi.length by omega,aju,ajw,h,true_and]
    ·left;simp only [show 40<(s.Rows.getD i default).bi.length by omega,ajt,ajv])
   (λm=>by simp only [s6,zJ,GB,ajC,Nat.lt_irrefl,aju,ajw])with h|⟨h,g⟩
  ·exact Or.inl h
  ·exact Or.inr ⟨⟨ab,h⟩,g⟩
 ·left;simp only [show 60<s.Rows.length by omega,ajt,ajv]
structure BF(r:bF):Prop where
 st:BE r.ao
 pl:r.bI.length≤16
 cx:∀i,i<r.bI.length→Bl (r.bI.getD i default) 600
 jG:r.bT.length≤10
 me:∀i,i<r.bT.length→(r.bT.getD i default).c'.length≤20
 ah:r.bc.length≤40
 ahn:r.Queue.length≤70
 aho:∀i,i<r.Queue.length→JJ (r.Queue.getD i default)
 oQ:r.Place.a7.length≤40
def BF.cp{r:bF}(h:BF r)(hi:t_ r){n:Nat}(hn:n=9223372036854775808):rX n r where
 st:=⟨by have:=h.st.xi;omega,λi=>li (P:=xl n) (λk hk=>by
  have ab:=hi.ag9.Wn.2 k hk;have ai:=ab.xq;have ay:=ab.BA.1;exact⟨by omega,by omega,λj=>li (P:=λx:Version=>x.bo.S.length<n) (λm hm=>by have:=(ab.BA.2 m hm).JY.JW;omega) (by show 0<n;omega) j⟩) ((xn (n:=n) (by omega)).st.row 0) i⟩
 JE:=by have:=h.pl;omega
 Bs:=λi=>li (P:=p3) (λk hk=>by
  obtain⟨ab,ai,ay,bg⟩:=h.cx k hk;have bQ:=Bk (r.bI.getD k default).Body;exact⟨hi.Wv.2 k hk,by omega,by omega,by omega⟩) VT i
 JF:=by have:=h.jG;omega
 Bt:=λi=>li (P:=rT n) (λk hk=>by
  have ab:=hi.ag'.2 k hk;have ai:=ab.Wr.1
  exact⟨by omega,λj=>li (P:=λx:eT=>xk n x.Outcome) (λm hm=>by
   have ay:=(ab.Wr.2 m hm).agZ.agW;have bg:=ay.1;exact⟨by omega,λq=>li (P:=λx:bB=>x.S.length<n) (λm hm=>by have:=(ay.2 m hm).JW;omega) (by show 0<n;omega) q⟩) ((JC (n:=n) (by omega) (l:=[]) (λx hx=>by cases hx) 0).out 0) j⟩) (JC (n:=n) (by omega) (l:=[]) (λx hx=>by cases hx) 0) i
 pl:=by have:=h.oQ;omega
 JG:=λi=>li (P:=xj n) (λk hk=>by
  have ab:=hi.ag_.ag4.2 k hk;have ai:=ab.ag2;have ay:=ab.Ws;exact⟨by omega,by omega⟩) ((xn (n:=n) (by omega)).JG 0) i
 ce:=by have:=h.ah;omega
 jp:=λi=>li (P:=λx:bc=>x.Key.length<n) (λk hk=>by have:=(hi.aha.2 k hk).xq;omega) (by show 0<n;omega) i
 Bu:=by have:=h.ahn;omega
 JH:=λi=>li (P:=t8 n) (λk hk=>by
  obtain⟨ab,ai,ay,f1,f2,f3,f4⟩:=h.aho k hk
  exact⟨by omega,by omega,λj=>li (P:=λx:bB=>x.S.length<n) (λm hm=>by have:=ay m hm;omega) (by show 0<n;omega) j,by omega,by omega,by omega,by omega,
   λj=>li (P:=λx:ajK=>x.length<n) (λm hm=>by have:=f3 m hm;omega) (by show 0<n;omega) j,
   λj=>li (P:=λx:ajK=>x.length<n) (λm hm=>by have:=f4 m hm;omega) (by show 0<n;omega) j⟩) (VW (by omega)) i
def ahp{n:Nat}(hn:2000≤n)(r:bF)(hp:∀i,i<r.bI.length→pX (r.bI.getD i default)):vV n r=some false∨(BF r∧vV n r=some true):=by
 unfold vV;simp only [ix,ig];rcases WA hn r.ao with h0|⟨h0,g0⟩
 ·left;simp only [h0,c_,ajy,Bool.true_or,ajv]
 ·simp only [g0,c_,ajx,Bool.false_or];by_cases ab:r.bI.length≤16
  ·by_cases ai:r.bT.length≤10
   ·by_cases ay:r.bc.length≤40
    ·by_cases bg:r.Queue.length≤70
     ·by_cases bQ:r.Place.a7.length≤40
      ·simp only [show¬ 16<r.bI.length by omega,show¬ 10<r.bT.length by omega,show¬ 40<r.bc.length by omega,show¬ 70<r.Queue.length by omega,show¬ 40<r.Place.a7.length by omega,aju,Bool.or_self,Bool.or_false,ajw]
       rcases p4 (L:=ta n r) (len:=r.bI.length) (m:=n) (Q:=λi=>Bl (r.bI.getD i default) 600) (fin:=rv n r n 0) (by omega)
        (λm i hi=>by
         obtain⟨b,e1,e2⟩:=afm (n:=n) (r.bI.getD i default) 600 (by omega) (by omega) (hp i hi)
         simp only [ta,zS,hi,eo hi,ajB,ajC,ajt,ajv,dy,fy (show i≤9223372036854775806 by omega)]
         rw [show vT n (r.bI.getD i default) 600=some b from e1,c_]
         cases b
         ·left;rfl
         ·right;exact⟨e2 rfl,rfl⟩)
        (λm=>by simp only [ta,zS,GM,ajC,Nat.lt_irrefl,aju,ajw])with dh|⟨dh,g6⟩
       ·exact Or.inl dh
       ·rw [g6]
        rcases p4 (L:=rv n r) (len:=r.bT.length) (m:=n) (Q:=λi=>(r.bT.getD i default).c'.length≤20) (fin:=ru n r n 0) (by omega)
         (λm i hi=>by
          simp only [rv,zR,hi,eo hi,ajB,ajC,ix,ajt,ajv,dy,fy (show i≤9223372036854775806 by omega)]
          by_cases h:(r.bT.getD i default).c'.length≤20
          ·right;simp only [show¬ 20<(r.bT.getD i default).c'.length by omega,aju,ajw,h,true_and]
          ·left;simp only [show 20<(r.bT.getD i default).c'.length by omega,ajt,ajv])
         (λm=>by simp only [rv,zR,GL,ajC,Nat.lt_irrefl,aju,ajw])with e5|⟨e5,g7⟩
        ·exact Or.inl e5
        ·rw [g7]
         rcases p4 (L:=ru n r) (len:=r.Queue.length) (m:=n) (Q:=λi=>JJ (r.Queue.getD i default)) (fin:=some true) (by omega)
          (λm i hi=>by
           simp only [ru,zQ,hi,eo hi,ajB,ajC,ajt,ajv,dy,fy (show i≤9223372036854775806 by omega)]
           rcases agt hn (r.Queue.getD i default)with h|⟨h,g⟩
           ·left;rw [h];rfl
           ·right;rw [g];exact⟨h,rfl⟩)
          (λm=>by simp only [ru,zQ,GK,ajC,Nat.lt_irrefl,aju,ajw])with gH|⟨gH,g8⟩
         ·exact Or.inl gH
         ·exact Or.inr ⟨⟨h0,ab,dh,ai,e5,ay,bg,gH,bQ⟩,g8⟩
      ·left;simp only [show 40<r.Place.a7.length by omega,ajt,ajH,ajv]
     ·left;simp only [show 70<r.Queue.length by omega,ajt,ajH,Bool.true_or,ajv]
    ·left;simp only [show 40<r.bc.length by omega,ajt,ajH,Bool.true_or,ajv]
   ·left;simp only [show 10<r.bT.length by omega,ajt,ajH,Bool.true_or,ajv]
  ·left;simp only [show 16<r.bI.length by omega,ajt,ajH,Bool.true_or,ajv]
def J_:Az 9223372036854775808=some true:=by kernel_rfl
def xu(x:de):(⟨x.bH,x.Rest,x.Next,x.cN,x.c8,x.cU⟩:de)=x:=rfl
def WB{n:Nat}{s:ajK}(h:24<n):vY n s=some (iz s):=by
 unfold vY GV iz;by_cases ah:s.length≤24
 ·simp only [ix,show¬ 24<s.length by omega,aju,ajw,ah,ajt,Bool.and_true]
  rw [rS (L:=tb n s) (chk:=λi=>t' (s.getD i 0)) (no:=false) (yes:=true) (show s.length<n by omega),t7,c_]
  ·intro m i hi;simp only [tb,zV,GT,ajC,hi,ajt,ajv,eo hi,dy,c_,ajB,lL (show i≤4611686018427387904 by omega),Bd,w3,lM]
   refine Bq ?_;unfold t';rw [Bool.eq_iff_iff];simp only [Bool.not_eq_true',Bool.and_eq_false_iff,Bool.not_eq_false',Bool.or_eq_true,decide_eq_true_eq,decide_eq_false_iff_not,Bool.not_not];omega
  ·intro m;simp only [tb,zV,GU,ajG,aju,ajw]
 ·simp only [ix,show 24<s.length by omega,ajt,ajv,ah,aju,Bool.and_false,c_]
def Ka{n:Nat}{s:ajK}(h:s.length<n)(hk:s.length≤9223372036854775807):tE n s=some (iz s):=by
 unfold tE iz;rw [rS (L:=tD n s) (chk:=λi=>t' (s.getD i 0)) (no:=false) (yes:=decide (s.length≤24)) h]
 ·cases allI s.length λi=>t' (s.getD i 0)<;>rfl
 ·intro m i hi;simp only [tD,AE,ajC,hi,ajt,ajv,eo hi,ajH,dy,ajB,fy (show i≤9223372036854775806 by omega),Bc,ix,ig]
  exact Bq (by simp only [t',Bool.not_not])
 ·intro m;simp only [tD,AE,Iz,ajG,aju,ajw,w3]
def Kb{n:Nat}{x:ajK}(h:24<n):tc n ⟨x,[]⟩=some (iz x):=by
 unfold tc;rw [WB h,c_,WB h,show iz []=true from rfl]
 cases iz x<;>rfl
def ahq{n:Nat}{x:ajK}(h:x.length<n)(hk:x.length≤9223372036854775807):AF n ⟨x,[]⟩=some (iz x):=by
 unfold AF;rw [Ka h hk,c_,Ka (show([]:ajK).length<n from Nat.lt_of_le_of_lt (Nat.zero_le _) h) (by simp),show iz []=true from rfl]
 cases iz x<;>rfl
def oW(x k:ajK):Bool:=!Op.bytesLess k x
def ahr(x k:ajK):(Op.bytesLess x k||decide (x=k))=oW x k:=by
 unfold oW;rw [Jy k x]
def ahs{n:Nat}{x k:ajK}(h:24<n)(hx:iz x=true):zW n ⟨x,[]⟩ k=some (oW x k):=by
 unfold zW;rw [Kb h,c_,hx];simp only [ajv,ahr,ajt];cases oW x k<;>rfl
def aht{n:Nat}{x k:ajK}(h:x.length<n)(hk:x.length≤9223372036854775807)(hx:iz x=true):AG n ⟨x,[]⟩ k=some (oW x k):=by
 unfold AG;rw [ahq h hk,c_,hx];simp only [ajv,ajt];unfold oW;cases Op.bytesLess k x<;>rfl
def jH(x:ajK)(l:List aI):List aI:=l.filter λp=>oW x p.Key
def oX(l:List aI)(k:Nat):ajK:=if k<l.length then(l.getD k default).Key else[]
def Kc(x:ajK)(l:List aI):(jH x l).length≤l.length:=List.length_filter_le _ _
def ahu{n:Nat}{x:ajK}{l:List aI}(ah:l.length<n)(hb:l.length≤1000000)(h:x.length<n)(hk:x.length≤9223372036854775807)(hx:iz x=true):IC n l ⟨x,[]⟩=some (jH x l):=by
 have key:∀m i acc,l.length<m+i→i≤l.length→acc.length≤i→wo n l ⟨x,[]⟩ m acc (i:Int)=some (acc++jH x (l.drop i)):=by
  intro m;induction m with
  |zero=>intro i acc ab ai;omega
  |succ m bv=>
   intro i acc ab ai ay;simp only [wo,IB,ajC];by_cases hi:i<l.length
   ·simp only [hi,eo hi,ajB,ajt,ajv,dy];rw [aht h hk hx,c_,mq l i default hi,jH,List.filter_cons];cases hg:oW x (l.getD i default).Key
    ·simp only [ajw,wn,fy (show i≤9223372036854775806 by omega),Bool.false_eq_true,ajJ]
     exact bv (i+1) _ (by omega) (by omega) (by omega)
    ·simp only [ajv,ajE,wn,fy (show i≤9223372036854775806 by omega),lP (show(acc.length+1)*48≤140737488355328 by omega),dy,ajI]
     rw [bv (i+1) _ (by omega) (by omega) (by rw [ajD,ajE];omega)]
     simp [jH]
   ·obtain rfl:i=l.length:=by omega
    simp only [Nat.lt_irrefl,aju,ajw,IA,List.drop_length,jH,List.filter_nil,List.append_nil]
 exact key n 0 [] (by omega) (by omega) (by simp)
def ahv{α:Type}{a b:List α}{k:Nat}(h:a.length=k):(a++b).take k=a:=by subst h;simp
def ahw{α:Type}[Inhabited α]{a b:List α}{p:α}{k:Nat}(h:a.length=k):(a++p::b).getD k default=p:=by subst h;simp [List.getD]
def ahx{n:Nat}{s:ao}(hn:2000≤n)(b5:n≤9223372036854775808)(h:p1 n s)(ah:s.Rows.length≤1000)(a:Int){x:ajK}(hx:iz x=true)(k:Nat):
 zX n s a ⟨x,[]⟩ (k:Int)=some (bif !decide ((fH s a).2=0) then([],[],(fH s a).2) else((jH x (fH s a).1).take k,oX (jH x (fH s a).1) k,0)):=by
 unfold zX;rw [Kb (by omega),c_,hx]
 simp only [ajx,ajw];rw [ahk hn b5 h ah,c_];cases hd:decide ((fH s a).2=0)
 ·rfl
 ·simp only [ajx,ajw]
  have hlen:(fH s a).1.length≤1000:=by
   unfold fH;cases jk s
   ·simp
   ·cases decide (a<s.bm)||decide (s.bk<a)
    ·have:=J' (a:=a) s.Rows;simp only [ajx,ajw];omega
    ·simp
  have key:∀m i acc,(fH s a).1.length<m+i→i≤(fH s a).1.length→acc.length≤i→acc.length≤k→
   v7 n (k:Int) (fH s a) ⟨x,[]⟩ m acc (i:Int)=some ((acc++jH x ((fH s a).1.drop i)).take k,oX (acc++jH x ((fH s a).1.drop i)) k,0):=by
   intro m;induction m with
   |zero=>intro i acc ab ai;omega
   |succ m bv=>
    intro i acc ab ai ay bg;simp only [v7,GX,ajC];by_cases hi:i<(fH s a).1.length
    ·simp only [hi,eo hi,ajB,ajt,ajv,dy];rw [ahs (by omega) hx,c_,mq (fH s a).1 i default hi,jH,List.filter_cons]
     cases hg:oW x ((fH s a).1.getD i default).Key
     ·simp only [ajy,ajv,vZ,fy (show i≤9223372036854775806 by omega),Bool.false_eq_true,ajJ]
      exact bv (i+1) _ (by omega) (by omega) (by omega) bg
     ·simp only [ajx,ajw,Int.ofNat_le,ajI];by_cases hk:k≤acc.length
      ·have e:acc.length=k:=by omega
       simp only [hk,ajt,ajv,ahv e];unfold oX;rw [if_pos (by rw [ajD,ajz];omega),ahw e]
      ·simp only [hk,aju,ajw,ajE,vZ,fy (show i≤9223372036854775806 by omega),lP (show(acc.length+1)*48≤140737488355328 by omega),dy]
       rw [bv (i+1) _ (by omega) (by omega) (by rw [ajD,ajE];omega) (by rw [ajD,ajE];omega)]
       simp [jH]
    ·obtain rfl:i=(fH s a).1.length:=by omega
     simp only [Nat.lt_irrefl,aju,ajw,GW,List.drop_length,jH,List.filter_nil,List.append_nil];unfold oX;rw [List.take_of_length_le bg,if_neg (by omega)]
  exact key n 0 [] (by omega) (by omega) (by simp) (by simp)
abbrev WC:de:=⟨0,VV,[],false,[],[]⟩
def oY(c:de)(s:ao)(k:Int):de×Int:=
 bif (decide (k<1) || !jk s) || !iz c.Next then(WC,1)else bif c.cN then(c,0) else
 bif !decide ((fH s c.bH).2=0) then(WC,(fH s c.bH).2) else
 (⟨c.bH,c.Rest,oX (jH c.Next (fH s c.bH).1) k.toNat,decide ((jH c.Next (fH s c.bH).1).length≤k.toNat),c.c8++(jH c.Next (fH s c.bH).1).take k.toNat,c.cU⟩,0)
structure xv(n:Nat)(c:de):Prop where
 e4:c.Next.length<n
 WD:c.Next.length≤9223372036854775807
 pl:c.c8.length≤100000
 oQ:c.cU.length≤100000
def WE{n:Nat}{c:de}(h:xv n c):vW n c=some c:=by
 have ab:=h.pl;have ai:=h.oQ;unfold vW zT zU;simp only [ajA,Nat.zero_add,List.nil_append,lP (show c.c8.length*48≤140737488355328 by omega),lP (show c.cU.length*16≤140737488355328 by omega),dy,c_]
def Kd{s:ao}(ah:s.Rows.length≤1000)(a:Int):(fH s a).1.length≤1000:=by
 unfold fH;cases jk s
 ·simp
 ·cases decide (a<s.bm)||decide (s.bk<a)
  ·have:=J' (a:=a) s.Rows;simp only [ajx,ajw];omega
  ·simp
def ahy{s:ao}(ah:s.Rows.length≤1000)(a:Int)(p:aI)(hp:p∈(fH s a).1):p.Key≠[]:=by
 unfold fH at hp;cases hs:jk s
 ·rw [hs]at hp;simp at hp
 ·rw [hs]at hp;cases ak:decide (a<s.bm)||decide (s.bk<a)
  ·rw [ak]at hp;simp only [ajx,ajw]at hp;obtain⟨r,ak,e,_⟩:=J9 _ _ hp;obtain⟨j,hj,rfl⟩:=agv ak;have ab:=(ahj hs a j hj).1;rw [e];intro hc;rw [show(s.Rows.getD j default).Key=[]from hc]at ab
   cases ab
  ·rw [ak]at hp;simp at hp
def ahz{l:List aI}{k:Nat}(h:∀p∈l,p.Key≠[]):decide (oX l k=[])=decide (l.length≤k):=by
 unfold oX;by_cases hk:k<l.length
 ·rw [if_pos hk,decide_eq_false (h _ (VF hk)),decide_eq_false (by omega)]
 ·rw [if_neg hk,decide_eq_true rfl,decide_eq_true (by omega)]
section
variable {n:Nat} {s:ao} (hn:2000≤n) (b5:n≤9223372036854775808) (h:p1 n s) (ah:s.Rows.length≤1000) {c:de} (hc:xv n c)
include hn b5 h ah hc
theorem ahA(k:Int):td n c s k=some (oY c s k):=by
 unfold td oY
 (try simp only [xu])
 cases hk:decide (k<1)
 ·have ahB:¬ k<1:=of_decide_eq_false hk;obtain⟨m,rfl⟩:∃m:Nat,k=(m:Int):=⟨k.toNat,by omega⟩
  simp only [ajy,ajv,ajw,Bool.false_or];rw [VJ hn b5 h,c_];cases hs:jk s
  ·rfl
  ·simp only [ajx,ajy,ajv,ajw,Bool.false_or];rw [Kb (by omega),c_]
   cases hb:iz c.Next
   ·rfl
   ·simp only [ajx,ajw];rw [WE hc,c_];cases hd:c.cN
    ·simp only [ajw];rw [ahx hn b5 h ah c.bH hb m,c_];cases he:decide ((fH s c.bH).2=0)
     ·simp only [ajy,ajv,he]
     ·have hlen:=Kd ah c.bH;have bh:=Kc c.Next (fH s c.bH).1;have hp:=hc.pl;simp only [ajx,ajw,ajB,ajt];rw [lP (by rw [List.length_take];omega),dy,ahz (l:=jH c.Next (fH s c.bH).1) λp hp=>ahy ah _ p (List.mem_filter.1 hp).1]
    ·simp only [ajv]
 ·rfl
theorem ahC(e6:∀i,i<s.Rows.length→(s.Rows.getD i default).bi.length≤1000000000)(k:Int):AH n c s k=some (oY c s k):=by
 unfold AH oY
 (try simp only [xu])
 cases hk:decide (k<1)
 ·have ahB:¬ k<1:=of_decide_eq_false hk;obtain⟨m,rfl⟩:∃m:Nat,k=(m:Int):=⟨k.toNat,by omega⟩
  simp only [ajy,ajv,ajw,Bool.false_or];rw [VK hn b5 h,c_];cases hs:jk s
  ·rfl
  ·simp only [ajx,ajy,ajv,ajw,Bool.false_or];rw [Ka hc.e4 hc.WD,c_];cases hb:iz c.Next
   ·rfl
   ·simp only [ajx,ajw];cases hd:c.cN
    ·simp only [ajw];rw [ahl hn b5 h ah e6,c_];cases he:decide ((fH s c.bH).2=0)
     ·simp only [ajy,ajv]
     ·have hlen:=Kd ah c.bH;have bh:=Kc c.Next (fH s c.bH).1;have hp:=hc.pl;simp only [ajx,ajw,ajB];rw [ahu (by omega) (by omega) hc.e4 hc.WD hb,c_]
      simp only [ajA,Nat.zero_add,List.nil_append,lP (show c.c8.length*48≤140737488355328 by omega),dy,ajC]
      by_cases hm:m<(jH c.Next (fH s c.bH).1).length
      ·simp only [hm,eo hm,ajt,ajv,dy,wq];rw [Lj ⟨Int.natCast_nonneg m,by omega⟩,dy,lP (by rw [List.length_take];omega),dy]
       unfold oX;rw [if_pos hm,decide_eq_false (by omega)]
      ·simp only [hm,aju,ajw,wq];rw [lP (by omega),dy]
       unfold oX;rw [if_neg hm,decide_eq_true (by omega),List.take_of_length_le (by omega)]
    ·simp only [ajv]
 ·rfl
end
def ahD{n:Nat}{c:de}(hc:xv n c)(x:ajK):vX n c x=some ⟨c.bH,c.Rest,c.Next,c.cN,c.c8,c.cU++[x]⟩:=by
 have:=hc.oQ
 unfold vX
 (try simp only [xu])
 rw [WE hc,c_,lP (by rw [ajE];omega),dy]
def ahE{n:Nat}{c:de}(hc:xv n c)(x:ajK):AD n c x=some ⟨c.bH,c.Rest,c.Next,c.cN,c.c8,c.cU++[x]⟩:=by
 have:=hc.oQ
 unfold AD;simp only [xu,ajA,Nat.zero_add,List.nil_append];rw [lP (by omega),dy,lP (by rw [ajE];omega),dy]
def ahF{n:Nat}{l:List aI}(ah:l.length<n)(b5:n≤9223372036854775808):AB n l l=some true:=by
 unfold AB;simp only [ajt,ajx,ajw];refine nk (L:=tB n l l) (len:=l.length) ah (λm i hi=>?_) λm=>?_
 ·simp only [tB,AA,ajC,hi,eo hi,ajt,ajv,dy,Bool.and_self,ajx,ajw,fy (show i≤9223372036854775806 by omega)]
 ·simp only [tB,AA,Iw,ajG,aju,ajw]
def WF{n:Nat}(hn:3000000≤n)(b5:n≤9223372036854775808){c:de}(h:rX n c.Rest)(hp:c.c8.length<n)(ce:c.cU.length<n):wk n c c=some true:=by
 unfold wk;simp only [ajt,ajv,beq_self_eq_true];rw [ahF hp b5,c_];simp only [ajv];unfold Ix;rw [JI (by omega) b5 ce,c_,c_]
 simp only [ajv];rw [agq hn b5 h];rfl
structure Ke(c:de):Prop where
 rest:BF c.Rest
 pl:c.c8.length≤60
 oQ:c.cU.length≤40
 ts:∀i,i<c.cU.length→(c.cU.getD i default).length≤5000
def ahG{n:Nat}(hn:2000≤n)(c:de)(hp:∀i,i<c.Rest.bI.length→pX (c.Rest.bI.getD i default)):wm n c=some false∨(Ke c∧wm n c=some true):=by
 unfold wm;simp only [ix,ig];rcases ahp hn c.Rest hp with h0|⟨h0,g0⟩
 ·left;simp only [h0,c_,ajy,Bool.true_or,ajv]
 ·simp only [g0,c_,ajx,Bool.false_or];by_cases ab:c.c8.length≤60
  ·by_cases ai:c.cU.length≤40
   ·simp only [show¬ 60<c.c8.length by omega,show¬ 40<c.cU.length by omega,aju,Bool.or_self,ajw]
    rcases p4 (L:=tC n c) (len:=c.cU.length) (m:=n) (Q:=λi=>(c.cU.getD i default).length≤5000) (fin:=some true) (by omega)
     (λm i hi=>by
      simp only [tC,AC,hi,eo hi,ajB,ajC,ix,ajt,ajv,dy,fy (show i≤9223372036854775806 by omega)]
      by_cases h:(c.cU.getD i default).length≤5000
      ·right;simp only [show¬ 5000<(c.cU.getD i default).length by omega,aju,ajw,h,true_and]
      ·left;simp only [show 5000<(c.cU.getD i default).length by omega,ajt,ajv])
     (λm=>by simp only [tC,AC,Iy,ajC,Nat.lt_irrefl,aju,ajw])with h|⟨h,g⟩
    ·exact Or.inl h
    ·exact Or.inr ⟨⟨h0,ab,ai,h⟩,g⟩
   ·left;simp only [show 40<c.cU.length by omega,ajt,ajH,ajv]
  ·left;simp only [show 60<c.c8.length by omega,ajt,ajH,Bool.true_or,ajv]
def Ke.cp{c:de}(h:Ke c)(hi:BB c){n:Nat}(hn:n=9223372036854775808):xv n c:=
 ⟨by have:=hi.J2;omega,hi.J2,by have:=h.pl;omega,by have:=h.oQ;omega⟩
def BE.cp{s:ao}(h:BE s)(hi:xr s){n:Nat}(hn:n=9223372036854775808):p1 n s:=
 ⟨by
  have:=h.xi;omega,λi=>li (P:=xl n) (λk hk=>by
  have ab:=hi.Wn.2 k hk;have ai:=ab.xq;have ay:=ab.BA.1;exact⟨by omega,by omega,λj=>li (P:=λx:Version=>x.bo.S.length<n) (λm hm=>by have:=(ab.BA.2 m hm).JY.JW;omega) (by show 0<n;omega) j⟩) ((xn (n:=n) (by omega)).st.row 0) i⟩
def ahH{n:Nat}(hn:2000≤n){c:de}(h:rX n c.Rest)(s:ao)(k:Int):rX n (oY c s k).1.Rest:=by
 unfold oY;cases (decide (k<1) || !jk s) || !iz c.Next
 ·cases c.cN
  ·cases !decide ((fH s c.bH).2=0)
   ·exact h
   ·exact xn hn
  ·exact h
 ·exact xn hn
def ahI{c:de}{s:ao}(ah:s.Rows.length≤1000)(k:Int):(oY c s k).1.c8.length≤c.c8.length+1000∧(oY c s k).1.cU.length≤c.cU.length:=by
 have ab:=Kd ah c.bH;have ai:=Kc c.Next (fH s c.bH).1;unfold oY;cases (decide (k<1) || !jk s) || !iz c.Next
 ·cases c.cN
  ·cases !decide ((fH s c.bH).2=0)
   ·simp only [ajw,ajD,List.length_take];omega
   ·simp
  ·simp
 ·simp
def ahJ(c:de)(s:ao)(k:Int)(hi:BB c)(hs:xr s):ID 9223372036854775808 c s k=some true:=by
 unfold ID
 (try simp only [xu])
 rcases ahG (n:=9223372036854775808) (by omega) c hi.Ww.Wv.2 with h|⟨bh,h⟩
 ·simp only [h,c_,ajy,ajx,ajv,ajw,J_]
 ·rw [h,c_];simp only [ajx,ajy,ajv,ajw];rcases WA (n:=9223372036854775808) (by omega) s with ai|⟨qj,ai⟩
  ·simp only [ai,c_,ajy,ajv,J_]
  ·have hc:=bh.cp hi (n:=9223372036854775808) rfl;have eA:=qj.cp hs (n:=9223372036854775808) rfl;have ak:=bh.rest.cp hi.Ww (n:=9223372036854775808) rfl;have ajo:=qj.xi;have ah:=ahI (c:=c) (s:=s) (by omega) k
   have iE:=bh.pl;have L5:=bh.oQ;rw [ai,c_];simp only [ajx,ajw]
   rw [ahA (by omega) (by omega) eA (by omega) hc k,c_,ahC (by omega) (by omega) eA (by omega) hc (λi hi=>by have:=qj.vs i hi;omega) k,c_,
    WF (by omega) (by omega) (ahH (by omega) ak s k) (by omega) (by omega),c_]
   simp only [ajt,ajv];rw [ahD hc,c_,ahE hc,c_,WF (c:=⟨c.bH,c.Rest,c.Next,c.cN,c.c8,c.cU++[[120]]⟩) (by omega) (by omega) ak (by show c.c8.length<_;omega) (by show(c.cU++[[120]]).length<_;rw [ajD,ajE];omega),c_]
   simp only [ajv,J_,c_]
end Go.Ab.Y

/- The plain law: what the functions compute answers as the statement says. -/
import Derived.Test.YtndmefekdnfmaaaGreatDoorPlainD
set_option linter.all false
namespace Go.Ab.Y
open Go Go.Ab Go.Proofs Tryz
def amo{eQ a:Int}:∀{R:List Row},(∀r∈R,jo r eQ a=true/\r.aR.length<=1000000)->iG a R=dx R
 |[],_=>rfl
 |r::R,h=>by
  have b:=h r (by simp)
  have c:lN a r=ov r:=amf b.2 b.1;have e:=amo (R:=R) λq d=>h q (by simp[d])
  simp only[iG,dx,c,e]
section
variable {n:Nat} (c:100000000<=n) (d:n<=2^63)
include c d
theorem aBR{e:UB}{R:bK}{T:List UB}(g:(dq e++(dw T.length++eZ dq T)).length<=16384)(p:Ij n e=some (R,0))(w:0<=R.Pos/\R.Pos+(T.length:Int)<=1099511627776)(t:∀x∈T,x.length<=4096)(y:T.length<=40):
 Ik n (dq e++(dw T.length++eZ dq T))=some (R,T,0):=by
 obtain⟨s,gD⟩:∃s,s=dq e++(dw T.length++eZ dq T):=⟨_,rfl⟩;rw[<-gD]at g ⊢
 have l:e.length<=16384:=by
  have:=congrArg List.length gD
  rw[UO,dq,UO]at this;omega
 have m:fH 16384 s = .ok (e,dw T.length++eZ dq T):=by rw[gD];exact al8.rt e _ l
 have o:=al8.mf m
 have i:T.length<=(eZ dq T).length:=Fc λv _=>by
  unfold dq;intro h;have j:=congrArg List.length h;rw[UO]at j;have r:dw v.length≠[]:=qs _;cases f:dw v.length with
  |nil=>exact r f
  |cons a b=>rw[f]at j;simp at j
 have q:jS 16384 (dw T.length++eZ dq T) = .ok (T.length,eZ dq T):=aa7 (by omega) (by omega) i
 have f:eZ dq T <:+ s:=(show eZ dq T <:+ dw T.length++eZ dq T from⟨dw T.length,rfl⟩).trans o
 have u:hq (fH 4096) T.length (eZ dq T) = .ok (T,[]):=by
  have:=(eB.rep acg T.length).rt T [] ⟨rfl,t⟩
  rwa [gJ]at this
 unfold Ik;rw[en (show¬ (16384:Int)<(s.length:Int)by omega)]
 simp only[UK];rw[show z1 n 16384 s 0=_ from(aki s) ▸ al9 c d g (most:=16384) (by omega) (by omega) (List.suffix_refl s),aj,m]
 simp only[YW,UR,UK];rw[p,aj];simp only[YW,UR,UK];rw[show p' n s (bx s<|dw T.length++eZ dq T) 16384=_ from wn (most:=16384) o (by omega) (by omega) (by omega),aj]
 simp only[sW q,h_,YW,UR,UK];rw[show z6 n ((T.length:Int),bx s<|eZ dq T,0) s (R,0) n (bx s<|eZ dq T) [] 0=_ from aBr c d g (k:=T.length) rfl (by omega) T.length n 0 (eZ dq T) [] (by omega) (by omega) f rfl,u]
 simp only[Oy,iK,aBs c d g<|List.nil_suffix,dU,show YV (1099511627776-R.Pos)=1099511627776-R.Pos from by rw[wr]<;>omega]
 rw[show decide True=true from rfl,en (show¬ 1099511627776-R.Pos<(T.length:Int)by omega)]
 rfl
end
def K0:eo 0:=by unfold eo;omega
def aBT{r:bK}(hi:oX r):oX (Sd r):=⟨hi.R7,⟨(K0:eo 0),(K0:eo 0),by show 0<=_;omega,λi h=>absurd h<|Nat.not_lt_zero i⟩,hi.KR,hi.R8,hi.KS,hi.R9,hi.ab0,hi.ab1⟩
def aBU{r:bK}(h:uQ r):uQ (Sd r):=⟨⟨by show 0<=_;omega,λi h=>absurd h<|Nat.not_lt_zero i⟩,h.pl,h.ps,h.ma,h.jv,h.aa,h.alS,h.alT,h.iy⟩
section
variable {n:Nat} (b:n=9223372036854775808) {r:bK} (d:uQ r) (hi:oX r) (a:gx r=true) {T:List UB} (c:∀x∈T,x.length<=4096) (f:T.length<=40) (g:r.Pos+(T.length:Int)<=1099511627776)
include b d hi a c f g
theorem aBV:Eo n T r (kT r (dx r.aq.Rows) T)=some true:=by
 have m:=d.alU hi b;have s4:=d.st.nf;have p3:=uN r.aq.Rows;let⟨H,aa⟩:=Bl (n:=n) (by omega) (by omega) m hi a
 let⟨J,I,R⟩:=aA2 (n:=n) (by omega) (by omega) m hi a
 have A:=a;unfold gx at A;simp only[cb,fx]at A;let⟨⟨⟨⟨⟨⟨⟨⟨Q,eH⟩,hR⟩,jK⟩,nC⟩,pq⟩,S⟩,xx⟩,xA⟩:=A
 have F:gx (ki r)=true:=by
  have k:=Fp (n:=n) (by omega) (by omega) J
  rw[I]at k;exact(ju k).symm
 have u:la (dx r.aq.Rows) r.Pos=(ii (dx r.aq.Rows) r.Pos,0):=by
  unfold la;rw[show mj (dx r.aq.Rows)=true from H.kR.2,en (show¬ r.Pos<0 by omega),en (show¬ 1099511627776<r.Pos by omega)];rfl
 have K:h6 (kT r (dx r.aq.Rows) T)=ki r:=by
  show(⟨r.Pos,(la (dx r.aq.Rows) r.Pos).1,r.bY,r.b7,r.EG,r.be,r.EK,r.cN⟩:bK)=_
  rw[u]
 have p:Sc (kT r (dx r.aq.Rows) T):=⟨aBU d,by show(dx r.aq.Rows).length<=_;omega,f,λi h=>by have:=c _<|nJ h;show(T.getD i default).length<=_;omega⟩
 have o:ab2 (kT r (dx r.aq.Rows) T):=⟨hi.R7,aBT hi,by show 0<=_;omega,trivial,⟨by show(dx r.aq.Rows).length<=_;omega,λi h=>?_⟩,⟨by show T.length<=_;omega,λi h=>by have:=c _<|nJ h;show(T.getD i default).length<=_;omega⟩⟩
 ·have s:yk (kT r (dx r.aq.Rows) T)=bif decide (16384<(((gy<|gT r).length:Nat):Int)) then([],0,2)else pJ (kT r (dx r.aq.Rows) T) (dq (gy<|gT r)++dw T.length) T:=by
   unfold yk;rw[K,show(la (kT r (dx r.aq.Rows) T).fg (kT r (dx r.aq.Rows) T).br).2=0 by show(la (dx r.aq.Rows) r.Pos).2=0;rw[u]]
   have W:encA (ki r)=bif decide (16384<(((gy<|gT r).length:Nat):Int)) then([],2) else(gy<|gT r,0):=by
    unfold encA;rw[F,aAY];rfl
   rw[W];cases decide (16384<(((gy<|gT r).length:Nat):Int))<;>rfl
  have E:yk (kT r (dx r.aq.Rows) T)=([],0,2)\/((dq (gy<|gT r)++(dw T.length++eZ dq T)).length<=16384/\(gy<|gT r).length<=16384/\yk (kT r (dx r.aq.Rows) T)=(dq (gy<|gT r)++(dw T.length++eZ dq T),r.Pos+(T.length:Int),0)):=by
   rw[s];by_cases k:16384<(((gy<|gT r).length:Nat):Int)
   ·rw[fp k];exact .inl rfl
   ·rw[en k,UK];unfold pJ;rw[eO];by_cases t:(dq (gy<|gT r)++(dw T.length++eZ dq T)).length<=16384
    ·refine .inr ⟨t,by omega,?_⟩
     rw[fp t,show(T.all λx=>decide<|x.length<=4096)=true from gK.2 λx N=>fp<|c x N,show decide ((((kT r (dx r.aq.Rows) T).dg.length:Nat):Int)<=1099511627776-(kT r (dx r.aq.Rows) T).br)=true from fp (by show(T.length:Int)<=1099511627776-r.Pos;omega)]
     rfl
    ·rw[en t,kL,jH];exact .inl rfl
  unfold Eo;rw[aBp b p o,aj,aBq b p o,aj];have z:=aca;rw[<-b]at z;rcases E with h|⟨k,t,h⟩
  ·rw[h];simp only[YW,UR,UK,UL,show(kT r (dx r.aq.Rows) T).dO=true from rfl,z,aj]
  ·rw[h];simp only[YW,UR,UK];rw[show decide ((0:Int)=2)=false from rfl,UK]
   have X:Ij n (gy<|gT r)=some (ki r,0):=by
    unfold Ij;simp only[fq,show¬ 16384<(gy<|gT r).length by omega,UN,UK]
    rw[ab' (by omega) (by omega) m hi a];rfl
   rw[aBR (by omega) (by omega) k X ⟨Q,g⟩ c f,aj]
   have Z:OD n (ki r) r=some true:=by
    unfold OD;rw[Fp (by omega) (by omega) m.b5,a,I,ab7 (by omega) (by omega) m hi a,alP (by omega) (by omega) m hi a]
    simp only[aj,UL,YW]
   have M:yj r=(ki r,0):=by unfold yj;rw[a];rfl
   have Y:D' n (ki r)=some (ki r,0):=by
    let⟨y,w⟩:=acf b p o (by show(la (dx r.aq.Rows) r.Pos).2=0;rw[u])
    rw[K]at y w;have L:=alN (by omega) (by omega) y w
    rw[R]at L;rw[alO (by omega) (by omega) y w,<-L]
   have B:IX n (ki r) r=some true:=by
    unfold IX;rw[Y,aj,alO (by omega) (by omega) m hi,M,aj]
    simp only[YW,UL];rw[aze (by omega) (by omega) J,aj]
   rw[show YV (r.Pos+(T.length:Int))=r.Pos+(T.length:Int)by rw[wr]<;>omega]
   simp only[YW,UL];rw[Z,aj];simp only[UL];rw[B,aj];simp only[UL];rw[abu (by omega) (by omega)<|by omega,aj]
   simp only[UL,z,aj]
 ·let⟨q,U,e,_⟩:=Bh _ _<|nJ (l:=dx r.aq.Rows) h;show KT ((dx r.aq.Rows).getD i default)
  rw[e];obtain⟨j,O,rfl⟩:=yf U;have k:=hi.abZ.R6.2 j O;exact⟨k.uO,(lM (P:=abR) k.FA.2 ⟨K0,K0,K0,by show 0<=_;omega⟩ _).wA⟩
end
abbrev entry:UB:=[101,110,116,114,121]
section
variable {n:Nat} (g:n=9223372036854775808) {r:bK} (f:uQ r) (hi:oX r) (d:gx r=true) {l:List qY} (h:l.length<=12) (a:∀i,i<l.length->KU (l.getD i default)) (b:r.Pos<=1099511627756)
include g f hi d h a b
theorem aB0:∀B i m c eQ o R,l.length<B+i->i<=l.length->m<=i->Bs r (dx r.aq.Rows) (List.replicate m entry) c->gN ⟨eQ,o,R⟩=true->o=r.Pos+(m:Int)->eQ<=r.Pos->R.length<=60+40*m->(∀q∈R,q.aR.length<=40+m)->iG r.Pos R=dx r.aq.Rows->
 Ja n l r B c eQ o R (List.replicate m entry) (i:Int)=some true:=by
 have J:=aca;rw[<-g]at J;have L:=d;unfold gx at L;simp only[cb,fx]at L;let⟨⟨⟨⟨⟨⟨⟨⟨fX,eH⟩,hR⟩,jK⟩,nC⟩,pq⟩,amp⟩,xx⟩,xA⟩:=L;have s4:=f.st.nf;have ah:=(KZ<|by omega).1 hR
 have Y:kS ((dx r.aq.Rows).map (·.Key)):=abH _ ah.2.1
 have I:∀p∈dx r.aq.Rows,fY p.Key=true:=λp b=>by
  let⟨q,u,e,_⟩:=Bh _ _ b;rw[e];exact(ah.2.2 q u).1
 have A:(dx r.aq.Rows).length<=60:=xb (uN _) s4;intro B;induction B with
 |zero=>intro i m c eQ o R h1 h2;omega
 |succ B O=>
  intro i m c eQ o R h1 h2 hm w t H F dK y E;have Bu:(List.replicate m entry).length=m:=List.length_replicate
  have fA:hU ⟨eQ,o,R⟩ r.Pos=(dx r.aq.Rows,0):=by
   unfold hU;rw[t,show decide (r.Pos<(⟨eQ,o,R⟩:aq).bu)=false from en (by show¬ r.Pos<eQ;omega),show decide ((⟨eQ,o,R⟩:aq).bi<r.Pos)=false from en (by show¬ o<r.Pos;omega)]
   show(iG r.Pos R,(0:Int))=_
   rw[E]
  have K:=acj (n:=n) (by omega) (s:=⟨eQ,o,R⟩) (by show R.length<=_;omega) (λq u=>by have:=y q u;omega) t
  have er:FD n c:=amn (by omega) A (by omega) I w
  have T:YV ((i:Int)+1)=((i+1:Nat):Int):=cu (by omega)
  simp only[Ja,YT,I_];by_cases U:i<l.length
  ·have ei:=a i U;rw[fp (show(i:Int)<(l.length:Int)by omega),bW U]
   simp only[UL,aF,US,U4,T];cases aD6:(l.getD i default).UA with
   |true=>
    simp only[UL]
    have X:∀k,oV n ((l.getD i default).cp.getD k default):=λk=>lM (P:=oV n) (λj hj=>by
     have aO:=ei.alF.2 j hj;have bG:=aO.uO;have cG:=aO.wA.Fz;exact⟨by omega,by omega⟩) ⟨by show 0<n;omega,by show 0<n;omega⟩ k
    by_cases z:(40:Int)<(((l.getD i default).cp.length:Nat):Int)
    ·rw[fp z];simp only[UR,UK,UL,aj,J]
    ·rw[en z];simp only[YY,UL,UK];rw[aBJ (by omega) (by omega) (by omega) X,aj]
     generalize S:((allI (l.getD i default).cp.length λk=>gS ((l.getD i default).cp.getD k default).aY)&&allI (l.getD i default).cp.length λk=>fY ((l.getD i default).cp.getD k default).Key&&(!decide (0<(k:Int))||Op.bytesLess ((l.getD i default).cp.getD (pv k) default).Key ((l.getD i default).cp.getD k default).Key))=aB3
     cases aB3 with
     |false=>simp only[YY,UL,J,aj]
     |true=>
      let⟨l1,eU,M⟩:=aBK (by omega) S
      let⟨R',a1,a2,a3,a4,a5⟩:=aBL (n:=n) (by omega) (by omega) (s:=⟨eQ,o,R⟩) (W:=(l.getD i default).cp) (V:=40+m) t (by show R.length+_<=_;omega) (by omega) y X l1 eU M (by show o+1<=_;omega)
      simp only[UR,UK];rw[show YV (o+1)=o+1 by rw[wr]<;>omega]
      rw[show xu n ⟨eQ,o,R⟩ (o+1) (l.getD i default).cp=_ from a1,aj]
      simp only[YW,UR,UK];rw[iF (by rw[Bu,U1];omega),aF,aBf er,aj]
      rw[show List.replicate m entry++[entry]=List.replicate (m+1) entry from(List.replicate_succ' ..).symm]
      refine O (i+1) (m+1) _ eQ (o+1) R' (by omega) (by omega) (by omega) ?_ a2 (by rw[H];omega) F ?_ (λq u=>by have:=a4 q u;omega) ?_
      ·rw[List.replicate_succ'];exact aBO w entry
      ·have a3:R'.length<=R.length+(l.getD i default).cp.length:=a3;omega
      ·rw[a5 r.Pos (by show r.Pos<=o;omega)];exact E
   |false=>
    simp only[UK];by_cases Z:0<(l.getD i default).N
    ·rw[fp Z];simp only[UL];let⟨gU,e1,e2⟩:=aBN t fA Y I w (k:=(l.getD i default).N) (by omega)
     rw[alZ (by omega) (by omega) K (by show R.length<=_;omega) er,aj,e1]
     simp only[YW,UR,UK];exact O (i+1) m gU eQ o R (by omega) (by omega) (by omega) e2 t H F dK y E
    ·rw[en Z];simp only[UK];exact O (i+1) m c eQ o R (by omega) (by omega) (by omega) w t H F dK y E
  ·rw[en (show¬ (i:Int)<(l.length:Int)by omega)]
   simp only[UK]
   have Q:∀x∈List.replicate m entry,x.length<=4096:=λx hx=>by
    rw[List.eq_of_mem_replicate hx];show 5<=4096;omega
   exact aBQ (n:=n) (by omega) (by omega) (s:=⟨eQ,o,R⟩) t (by show R.length<=_;omega) (λq u=>by have:=y q u;omega) fA Y I A (by omega) (aBV g f hi d Q (by omega) (by rw[Bu];omega)) w
end
def aB5(r:bK)(l:List qY)(hi:oX r)(t:l.length<=2^63-1/\∀i,i<l.length->KU (l.getD i default)):YU 9223372036854775808 r l=some true:=by
 obtain⟨n,hn⟩:∃n,n=9223372036854775808:=⟨_,rfl⟩;have a:=aca;rw[<-hn]at a ⊢;unfold YU;rcases aA8 (n:=n) (by omega) r hi.KR.2 with h|⟨c,h⟩
 ·rw[h,aj];simp only[YY,UR,UL,UK,aj,a]
 ·rw[h,aj];have f:=c.alU hi hn;by_cases m:(12:Int)<(l.length:Int)
  ·rw[fp m];simp only[UR,UL,UK,aj,a]
  ·rw[en m,abt (by omega) (by omega) f.b5]
   simp only[UR,YY,UL,UK,aj];cases hs:gx r with
   |false=>simp only[YY,UL,aj,a]
   |true=>
    simp only[UR,UK];by_cases j:1099511627756<r.Pos
    ·rw[fp j];simp only[UL,aj,a]
    ·rw[en j];simp only[UK]
     have p:Ic n r=some (ow r (dx r.aq.Rows) [] 0,0):=by
      unfold Ic;rw[alN (by omega) (by omega) f hi,aj,show yj r=(ki r,0)by unfold yj;rw[hs];rfl]
      simp only[YW,UR,UK];rfl
     rw[p,aj];simp only[YW,UR,UK];have e:=hs;unfold gx at e;simp only[cb,fx]at e;let⟨⟨⟨⟨⟨⟨⟨⟨A,B⟩,k⟩,d⟩,z⟩,y⟩,s⟩,u⟩,w⟩:=e;have x:=c.st.nf;have o:=(KZ<|by omega).1 k
     have g:∀q∈r.aq.Rows,q.aR.length<=40:=nN c.st.vs
     exact aB0 hn c hi hs (by omega) t.2 (by omega) n 0 0 _ r.aq.bu r.aq.bi r.aq.Rows (by omega) (rZ _) (fS _) (.inr ⟨0,.inl rfl,rfl⟩) k (by rw[d];omega) (by rw[<-d];exact o.1.2.1) (by omega) (λq b=>by have:=g q b;omega) (by
      rw[<-d];exact amo λq b=>⟨(o.2.2 q b).2,by have:=g q b;omega⟩)
end Go.Ab.Y

/- The plain law: what the functions compute answers as the statement says. -/
import Derived.Test.YtbncfepdlmnmiaaGreatDoorPlainC
set_option linter.all false
namespace Go.Ab.Y
open Go Go.Ab Go.Proofs
abbrev og:=Int×List aU×kK×List b_×cc×List bg×List Request×Int
def vy:eu og:=dZ i8 λ_=>dZ Bp λ_=>dZ UR λ_=>dZ vw λ_=>dZ vt λ_=>dZ yd λ_=>dZ pU λ_=>ix
def ko(p:og):au':=nm p.1++(eg mr p.2.1++(eg eH p.2.2.1++(eg mV p.2.2.2.1++(pT p.2.2.2.2.1++(eg o_ p.2.2.2.2.2.1++(eg k_ p.2.2.2.2.2.2.1++jI p.2.2.2.2.2.2.2))))))
structure vz(p:og):Prop where
 pos:fy p.1
 pc:(p.2.1.length≤2147483647∧∀v∈p.2.1,tK v)∧o8 p.2.1=true
 src:p.2.2.1.length≤16∧∀s∈p.2.2.1,s.length≤16384
 qS:(p.2.2.2.1.length≤32∧∀v∈p.2.2.2.1,vv v)∧r7 p.2.2.2.1=true
 Bt:(fy p.2.2.2.2.1.Version∧p.2.2.2.2.1.aS.length≤16∧∀v∈p.2.2.2.2.1.aS,tL v)∧r6 p.2.2.2.2.1=true
 aF:p.2.2.2.2.2.1.length≤32∧∀h∈p.2.2.2.2.2.1,h.Key.length≤24∧fy h.Count
 pd:p.2.2.2.2.2.2.1.length≤64∧∀v∈p.2.2.2.2.2.2.1,qR v∧yb v=true
 aeE:h2 p.2.2.2.2.2.2.2
def F0:dY vy ko vz:=
 (k9.dep λ_ _=>LW.dep λ_ _=>aqZ.dep λ_ _=>L2.dep λ_ _=>LX.dep λ_ _=>aqY.dep λ_ _=>L5.dep λ_ _=>mR).as _ _
  (λv=>⟨λh=>⟨h.pos,h.pc,h.src,h.qS,h.Bt,h.aF,h.pd,h.aeE⟩,λh=>⟨h.1,h.2.1,h.2.2.1,h.2.2.2.1,h.2.2.2.2.1,h.2.2.2.2.2.1,h.2.2.2.2.2.2.1,h.2.2.2.2.2.2.2⟩⟩) (λv _=>rfl)
def arj{k:Nat}{t:au'}{e:Int}(h:qN k t = .error e):e≠0:=by
 unfold qN fV at h;cases aa:iy k t with
 |error f=>rw [aa]at h;cases h;exact np aa
 |ok r=>rw [aa]at h;cases h
def ib{α:Type}(z:α)(s:au')(a:Int):Except Int (α×au')→α×Int×Int
 |.ok (v,t)=>(v,bl s t,0)
 |.error e=>(z,a,e)
section
variable {n:Nat} (hn:100000000≤n) (aZ:n≤9223372036854775808) {s:au'} (hs:s.length<min n 1000000000)
theorem vA{α:Type}{z:α}{D:eu α}{t:au'}{a:Int}(h0:∀e,D t = .error e→e≠0):(bif (!decide ((res z s (D t)).2.2=0))then some (z,a,(res z s (D t)).2.2)else some ((res z s (D t)).1,(res z s (D t)).2.1,(res z s (D t)).2.2))=some (ib z s a (D t)):=by
 cases h:D t with
 |error e=>rw [fB];simp only [gf (h0 e h),auV];rfl
 |ok r=>obtain⟨v,bX⟩:=r;rfl
theorem ark{a e:Int}(he:e≠0):w8 n ⟨s,a,e⟩=some (0,a,e):=by unfold w8;simp only [gf he,auV]
theorem arl{a e:Int}(he:e≠0):zH n ⟨s,a,e⟩=some ([],a,e):=by unfold zH;simp only [gf he,auV]
theorem F1{p a e:Int}(he:e≠0):w7 n p ⟨s,a,e⟩=some (0,a,e):=by unfold w7;simp only [gf he,auV]
theorem arm{a e:Int}(he:e≠0):zU n ⟨s,a,e⟩=some ([],a,e):=by unfold zU;simp only [gf he,auV]
theorem aeF{a e:Int}(he:e≠0):zL n ⟨s,a,e⟩=some (⟨0,[]⟩,a,e):=by unfold zL;simp only [gf he,auV]
theorem arn{a e:Int}(he:e≠0):zR n ⟨s,a,e⟩=some ([],a,e):=by unfold zR;simp only [gf he,auV]
theorem aeG{a e:Int}(he:e≠0):zV n ⟨s,a,e⟩=some (0,a,e):=by unfold zV;simp only [gf he,auV]
include hn aZ hs
theorem aeH{t:au'}(aF:t <:+ s):w8 n ⟨s,bl s t,0⟩=some (ib 0 s (bl s t) (i8 t)):=by
 unfold w8;simp only [auT,auX,auW];rw [Uy aF (by omega) (by omega),ak];exact vA (λe h=>k9.cN _ _ h)
theorem aro{t:au'}(aF:t <:+ s):zH n ⟨s,bl s t,0⟩=some (ib [] s (bl s t) (Bp t)):=by
 unfold zH;simp only [auT,auX,auW];rw [aqN (by omega) aZ hs aF,ak];exact vA (λe h=>LW.cN _ _ h)
theorem aeI{k:Nat}(hk:k≤1000){t:au'}(aF:t <:+ s):w7 n (k:Int) ⟨s,bl s t,0⟩=some (ib 0 s (bl s t) (qN k t)):=by
 unfold w7 PS;simp only [auT,auX,auW];rw [tJ aF (by omega) (by omega) (by omega),ak,ak];exact vA (λe h=>arj h)
theorem aeJ{k:Nat}(hk:k≤20000){t:au'}(aF:t <:+ s):Du n (k:Int) ⟨s,bl s t,0⟩=some (ib [] s (bl s t) (eU k t)):=by
 unfold Du PT;simp only [auT,auX,auW];rw [Bk aF (by omega) (by omega) (by omega),ak,ak];exact vA (λe h=>(tG k (by omega)).cN _ _ h)
theorem arp{t:au'}(aF:t <:+ s):zU n ⟨s,bl s t,0⟩=some (ib [] s (bl s t) (vw t)):=by
 unfold zU;simp only [auT,auX,auW];rw [aqV (by omega) aZ hs aF,ak];exact vA (λe h=>L2.cN _ _ h)
theorem arq{t:au'}(aF:t <:+ s):zL n ⟨s,bl s t,0⟩=some (ib ⟨0,[]⟩ s (bl s t) (vt t)):=by
 unfold zL;simp only [auT,auX,auW];rw [aqQ (by omega) aZ hs aF,ak];exact vA (λe h=>LX.cN _ _ h)
theorem ars{t:au'}(aF:t <:+ s):zR n ⟨s,bl s t,0⟩=some (ib [] s (bl s t) (pU t)):=by
 unfold zR;simp only [auT,auX,auW];rw [aq' (by omega) aZ hs aF,ak];exact vA (λe h=>L5.cN _ _ h)
theorem art{t:au'}(aF:t <:+ s):zV n ⟨s,bl s t,0⟩=some (ib 0 s (bl s t) (ix t)):=by
 unfold zV;simp only [auT,auX,auW];rw [Bj aF (by omega) (by omega),ak];exact vA (λe h=>mR.cN _ _ h)
theorem aru{b:fw}(hb:b.s=s){r1 r26 r27 r2 v25}{a e:Int}{l:List bg}(he:e≠0):l1 e (uJ n b r1 r26 r27 r2 v25 a e l):=by
 unfold uJ;rw [arn he,ak,aeG he,ak];exact⟨_,_,rfl⟩
theorem Bu{b:fw}(hb:b.s=s){r1 r26 r27 r2 v25}{a e c:Int}{l:List bg}{m:Nat}(he:e≠0):l1 e (rE n b r1 r26 r27 r2 v25 (m+1) a e l c):=by
 have su:decide (e=0)=false:=decide_eq_false he;simp only [rE,Dw,su,fk,Bool.and_false,auW];exact aru hn aZ hs hb he
theorem arv{b:fw}(hb:b.s=s){r1 r2}{a e:Int}{l:kK}(he:e≠0):l1 e (uK n b r1 r2 a e l):=by
 unfold uK zC;rw [arm he,ak,aeF he,ak,ak,F1 he,ak];obtain⟨m,rfl⟩:∃j,n=j+1:=⟨n-1,by omega⟩
 exact Bu hn aZ hs hb he
theorem Mb{b:fw}(hb:b.s=s){r1 r2}{a e c:Int}{l:kK}{m:Nat}(he:e≠0):l1 e (uL n b r1 r2 (m+1) a e l c):=by
 have su:decide (e=0)=false:=decide_eq_false he;simp only [uL,Dx,su,fk,Bool.and_false,auW];exact arv hn aZ hs hb he
theorem arw{b:fw}(hb:b.s=s){r1:Int×Int×Int}{r26:List b_×Int×Int}{r27:cc×Int×Int}{r2:List aU×Int×Int}{v25:kK}{l:List bg}{t:au'}(aF:t <:+ s):
 match dZ pU (λ_=>ix) t with|.ok (p,bX)=>uJ n b r1 r26 r27 r2 v25 (bl s t) 0 l=some (⟨⟨r1.1,⟨0,0,[]⟩,[],r26.1,r27.1,l,p.1,p.2⟩,r2.1,v25⟩,bl s bX,0)|.error e=>l1 e (uJ n b r1 r26 r27 r2 v25 (bl s t) 0 l):=by
 unfold uJ dZ;rw [hb,ars hn aZ hs aF,ak];cases g1:pU t with
 |error e=>
  have he:=L5.cN _ _ g1;simp only [ib];rw [aeG he,ak];exact⟨_,_,rfl⟩
 |ok r=>
  obtain⟨gw,t1⟩:=r;have kJ:=jj L5 g1 aF;simp only [ib];rw [art hn aZ hs kJ,ak];cases g2:ix t1 with
  |error e=>exact⟨_,_,rfl⟩
  |ok r=>rfl
theorem arx{b:fw}(hb:b.s=s){r1:Int×Int×Int}{r26:List b_×Int×Int}{r27:cc×Int×Int}{r2:List aU×Int×Int}{v25:kK}{u:Nat}(hu:u<min n 1000000000){t:au'}(aF:t <:+ s):
 match dZ (ge (fV (λp=>(⟨p.1,p.2⟩:bg)) (dZ (eU 24) λ_=>i8)) u) (λ_=>dZ pU (λ_=>ix)) t with|.ok (p,bX)=>rE n b r1 r26 r27 r2 v25 n (bl s t) 0 [] (u:Int)=some (⟨⟨r1.1,⟨0,0,[]⟩,[],r26.1,r27.1,p.1,p.2.1,p.2.2⟩,r2.1,v25⟩,bl s bX,0)|.error e=>l1 e (rE n b r1 r26 r27 r2 v25 n (bl s t) 0 [] (u:Int)):=by
 have dm:=vq (L:=λm i t acc=>rE n b r1 r26 r27 r2 v25 m (bl s t) 0 acc ((u-i:Nat):Int)) (f:=λ_ v=>v) (D:=fV (λp=>(⟨p.1,p.2⟩:bg)) (dZ (eU 24) λ_=>i8)) (u:=u) (s:=s) (fin:=λacc t=>uJ n b r1 r26 r27 r2 v25 (bl s t) 0 acc) (bad:=λe x=>l1 e x) (λx v t hx=>UQ.km hx) (by
  intro m i t acc hm hi ha aF;have hc:(0:Int)<((u-i:Nat):Int):=by omega
  simp only [rE,Dw,hc,auT,auV,Dv,ak];rw [hb,show(24:Int)=((24:Nat):Int)from rfl,aeJ hn aZ hs (by omega) aF,ak]
  have gu:room (acc.length+1) 24=true:=jK (by omega)
  obtain⟨m,rfl⟩:∃j,m=j+1:=⟨m-1,by omega⟩
  unfold fV dZ;cases g1:eU 24 t with
  |error e=>
   have he:=oc.cN _ _ g1;simp only [ib];rw [ark he,ak];simp only [au4,show(((24:Nat):Int)).toNat=24 from rfl,gu,a6]
   exact Bu hn aZ hs hb he
  |ok r=>
   obtain⟨gw,t1⟩:=r;have kJ:=jj oc g1 aF;simp only [ib];rw [aeH hn aZ hs kJ,ak];cases g2:i8 t1 with
   |error e=>
    have he:=k9.cN _ _ g2;simp only [ib,au4,gu,a6];exact Bu hn aZ hs hb he
   |ok r=>
    obtain⟨gW,t2⟩:=r;simp only [ib,au4,gu,a6];rw [show ava (((u-i:Nat):Int)-1)=((u-(i+1):Nat):Int)by rw [wr]<;>omega]) (by
  intro m t acc ha aF;simp only [rE,Dw,Nat.sub_self,show¬ (0:Int)<((0:Nat):Int)by omega,auU,auW]) u n 0 t [] (by omega) (by omega) rfl aF
 simp only [Nat.sub_zero]at dm;unfold dZ;cases ai:ge (fV (λp=>(⟨p.1,p.2⟩:bg)) (dZ (eU 24) λ_=>i8)) u t with
 |error e=>unfold dZ at ai;rw [ai];unfold dZ at dm;rw [ai]at dm;exact dm
 |ok r=>
  obtain⟨l,nq⟩:=r;have UY:=jj (UQ.rep u) ai aF;rw [ai]at dm;unfold dZ at ai;rw [ai];simp only [List.nil_append,vr]at dm ⊢;rw [dm];have hj:=arw hn aZ hs hb (r1:=r1) (r26:=r26) (r27:=r27) (r2:=r2) (v25:=v25) (l:=l) UY;unfold dZ at hj;cases g:pU nq with
  |error e=>rw [g]at hj;exact hj
  |ok r=>
   obtain⟨q,t1⟩:=r;rw [g]at hj;simp only at hj ⊢
   cases e0:ix t1 with
   |error e=>rw [e0]at hj;exact hj
   |ok r=>rw [e0]at hj;exact hj
end
def tO{α β:Type}{D:eu α}{k:α→eu β}{t:au'}{e:Int}(h:D t = .error e):dZ D k t = .error e:=by unfold dZ;rw [h]
def yf{α β:Type}{D:eu α}{k:α→eu β}{t bX:au'}{v:α}(h:D t = .ok (v,bX)):dZ D k t=match k v bX with|.ok (w,u)=>.ok ((v,w),u)|.error e=>.error e:=by unfold dZ;rw [h];rfl
def aeK{t:au'}:yd t=match iy 32 t with|.ok (u,t)=>ge (fV (λp=>(⟨p.1,p.2⟩:bg)) (dZ (eU 24) λ_=>i8)) u t|.error e=>.error e:=rfl
abbrev tailD:eu (List b_×cc×List bg×List Request×Int):=dZ vw λ_=>dZ vt λ_=>dZ yd λ_=>dZ pU λ_=>ix
section
variable {n:Nat} (hn:100000000≤n) (aZ:n≤9223372036854775808) {s:au'} (hs:s.length<min n 1000000000)
include hn aZ hs
theorem ary{b:fw}(hb:b.s=s){r1:Int×Int×Int}{r2:List aU×Int×Int}{v25:kK}{t:au'}(aF:t <:+ s):
 match tailD t with|.ok (p,bX)=>uK n b r1 r2 (bl s t) 0 v25=some (⟨⟨r1.1,⟨0,0,[]⟩,[],p.1,p.2.1,p.2.2.1,p.2.2.2.1,p.2.2.2.2⟩,r2.1,v25⟩,bl s bX,0)|.error e=>l1 e (uK n b r1 r2 (bl s t) 0 v25):=by
 unfold uK zC tailD;obtain⟨r8,kx⟩:∃j,n=j+1:=⟨n-1,by omega⟩
 rw [hb,arp hn aZ hs aF,ak];cases g1:vw t with
 |error e=>
  have he:=L2.cN _ _ g1;rw [tO g1];simp only [ib];rw [aeF he,ak,ak,F1 he,ak];have:=Bu hn aZ hs hb (r1:=r1) (r26:=([],bl s t,e)) (r27:=(⟨0,[]⟩,bl s t,e)) (r2:=r2) (v25:=v25) (a:=bl s t) (c:=0) (l:=[]) (m:=r8) he
  rw [←kx]at this;exact this
 |ok r=>
  obtain⟨gw,t1⟩:=r;have kJ:=jj L2 g1 aF;rw [yf g1];simp only [ib];rw [arq hn aZ hs kJ,ak,ak];cases g2:vt t1 with
  |error e=>
   have he:=LX.cN _ _ g2;rw [tO g2];simp only [ib];rw [F1 he,ak];have:=Bu hn aZ hs hb (r1:=r1) (r26:=(gw,bl s t1,0)) (r27:=(⟨0,[]⟩,bl s t1,e)) (r2:=r2) (v25:=v25) (a:=bl s t1) (c:=0) (l:=[]) (m:=r8) he
   rw [←kx]at this;exact this
  |ok r=>
   obtain⟨gW,t2⟩:=r;have kc:=jj LX g2 kJ;rw [yf g2];simp only [ib];rw [show(32:Int)=((32:Nat):Int)from rfl,aeI hn aZ hs (by omega) kc,ak]
   cases h:iy 32 t2 with
   |error e=>
    have he:=np h;have bn:yd t2 = .error e:=by rw [aeK,h]
    rw [tO bn,qP h];simp only [ib];have:=Bu hn aZ hs hb (r1:=r1) (r26:=(gw,bl s t1,0)) (r27:=(gW,bl s t2,0)) (r2:=r2) (v25:=v25) (a:=bl s t2) (c:=0) (l:=[]) (m:=r8) he
    rw [←kx]at this;exact this
   |ok r=>
    obtain⟨u,bX⟩:=r;obtain⟨Z,aa,am⟩:=oa h;have e6:bX <:+ s:=List.IsSuffix.trans ⟨eM u,Z.symm⟩ kc;have hu:=e6.length_le;rw [qO h];simp only [ib];have dm:=arx hn aZ hs hb (r1:=r1) (r26:=(gw,bl s t1,0)) (r27:=(gW,bl s t2,0)) (r2:=r2) (v25:=v25) (u:=u) (by omega) e6
    have bn:yd t2=ge (fV (λp=>(⟨p.1,p.2⟩:bg)) (dZ (eU 24) λ_=>i8)) u bX:=by rw [aeK,h]
    cases ai:ge (fV (λp=>(⟨p.1,p.2⟩:bg)) (dZ (eU 24) λ_=>i8)) u bX with
    |error e=>
     rw [tO ai]at dm;rw [ai]at bn;rw [tO bn];exact dm
    |ok r=>
     obtain⟨l,nq⟩:=r;rw [yf ai]at dm;rw [ai]at bn;rw [yf bn];cases g:dZ pU (λ_=>ix) nq with
     |error e=>rw [g]at dm;exact dm
     |ok r=>rw [g]at dm;exact dm
theorem aeL:match vy s with|.ok (p,bX)=>Dy n ⟨s,0,0⟩=some (⟨⟨p.1,⟨0,0,[]⟩,[],p.2.2.2.1,p.2.2.2.2.1,p.2.2.2.2.2.1,p.2.2.2.2.2.2.1,p.2.2.2.2.2.2.2⟩,p.2.1,p.2.2.1⟩,bl s bX,0)|.error e=>l1 e (Dy n ⟨s,0,0⟩):=by
 unfold Dy zC vy;obtain⟨r8,kx⟩:∃j,n=j+1:=⟨n-1,by omega⟩
 have hb:(⟨s,0,0⟩:fw).s=s:=rfl;have aF:s <:+ s:=List.suffix_refl s;rw [show(⟨s,0,0⟩:fw)=⟨s,bl s s,0⟩by rw [ad5],aeH hn aZ hs aF,ak]
 generalize dg:(⟨s,bl s s,0⟩:fw)=B
 have hb:B.s=s:=by rw [←dg]
 rw [hb];cases g1:i8 s with
 |error e=>
  have he:=k9.cN _ _ g1;rw [tO g1];simp only [ib];rw [arl he,ak,ak,F1 he,ak];have:=Mb hn aZ hs hb (r1:=(0,bl s s,e)) (r2:=([],bl s s,e)) (a:=bl s s) (c:=0) (l:=[]) (m:=r8) he
  rw [←kx]at this;exact this
 |ok r=>
  obtain⟨gw,t1⟩:=r;have kJ:=jj k9 g1 aF;rw [yf g1];simp only [ib];rw [aro hn aZ hs kJ,ak,ak];cases g2:Bp t1 with
  |error e=>
   have he:=LW.cN _ _ g2;rw [tO g2];simp only [ib];rw [F1 he,ak];have:=Mb hn aZ hs hb (r1:=(gw,bl s t1,0)) (r2:=([],bl s t1,e)) (a:=bl s t1) (c:=0) (l:=[]) (m:=r8) he
   rw [←kx]at this;exact this
  |ok r=>
   obtain⟨gW,t2⟩:=r;have kc:=jj LW g2 kJ;rw [yf g2];simp only [ib];rw [show(16:Int)=((16:Nat):Int)from rfl,aeI hn aZ hs (by omega) kc,ak]
   have jd:UR t2=match iy 16 t2 with|.ok (u,t)=>ge (eU 16384) u t|.error e=>.error e:=rfl
   cases h:iy 16 t2 with
   |error e=>
    have he:=np h;rw [h]at jd;rw [tO jd,qP h];simp only [ib];have:=Mb hn aZ hs hb (r1:=(gw,bl s t1,0)) (r2:=(gW,bl s t2,0)) (a:=bl s t2) (c:=0) (l:=[]) (m:=r8) he
    rw [←kx]at this;exact this
   |ok r=>
    obtain⟨u,bX⟩:=r;obtain⟨Z,aa,am⟩:=oa h;have e6:bX <:+ s:=List.IsSuffix.trans ⟨eM u,Z.symm⟩ kc;have hu:=e6.length_le;rw [h]at jd;rw [qO h];simp only [ib]
    have dm:=vq (L:=λm i t acc=>uL n B (gw,bl s t1,0) (gW,bl s t2,0) m (bl s t) 0 acc ((u-i:Nat):Int)) (f:=λ_ v=>v) (D:=eU 16384) (u:=u) (s:=s) (fin:=λacc t=>uK n B (gw,bl s t1,0) (gW,bl s t2,0) (bl s t) 0 acc) (bad:=λe x=>l1 e x) (λx v t hx=>L6.km hx) (by
     intro m i t acc hm hi ha aF;have hc:(0:Int)<((u-i:Nat):Int):=by omega
     simp only [uL,Dx,hc,auT,auV,Dv,ak];rw [hb,show(16384:Int)=((16384:Nat):Int)from rfl,aeJ hn aZ hs (by omega) aF,ak]
     have gu:room (acc.length+1) 16=true:=jK (by omega)
     obtain⟨m,rfl⟩:∃j,m=j+1:=⟨m-1,by omega⟩
     cases g1:eU 16384 t with
     |error e=>
      have he:=L6.cN _ _ g1;simp only [ib,au4,gu,a6];exact Mb hn aZ hs hb he
     |ok r=>
      obtain⟨gw,t1⟩:=r;simp only [ib,au4,gu,a6];rw [show ava (((u-i:Nat):Int)-1)=((u-(i+1):Nat):Int)by rw [wr]<;>omega]) (by
     intro m t acc ha aF;simp only [uL,Dx,Nat.sub_self,show¬ (0:Int)<((0:Nat):Int)by omega,auU,auW]) u n 0 bX [] (by omega) (by omega) rfl e6
    simp only [Nat.sub_zero]at dm;cases ai:ge (eU 16384) u bX with
    |error e=>
     rw [ai]at dm;simp only at jd
     rw [ai]at jd;rw [tO jd];exact dm
    |ok r=>
     obtain⟨l,nq⟩:=r;have UY:=jj (L6.rep u) ai e6;rw [ai]at dm;simp only at jd
     rw [ai]at jd;rw [yf jd];simp only [List.nil_append,vr]at dm ⊢;rw [dm];have hj:=ary hn aZ hs hb (r1:=(gw,bl s t1,0)) (r2:=(gW,bl s t2,0)) (v25:=l) UY;unfold tailD at hj;cases g:(dZ vw λ_=>dZ vt λ_=>dZ yd λ_=>dZ pU λ_=>ix) nq with
     |error e=>rw [g]at hj;exact hj
     |ok r=>rw [g]at hj;exact hj
end
abbrev l2:bN:=⟨0,⟨0,0,[]⟩,[],[],⟨0,[]⟩,[],[],0⟩
def fz(p:og)(l:List bb):bN:=⟨p.1,hE p.2.1 p.1,l,p.2.2.2.1,p.2.2.2.2.1,p.2.2.2.2.2.1,p.2.2.2.2.2.2.1,p.2.2.2.2.2.2.2⟩
def arz(l:List aU)(a:Int)(i:Nat)(hi:i<l.length):((hE l a).Rows.getD i default)=⟨(l.getD i default).Key,[⟨a,(l.getD i default).bj⟩]⟩:=by
 unfold hE;simp [List.getD_eq_getElem?_getD,hi]
def arA{n:Nat}(hn:2000≤n){l:List aU}(ab:l.length<n)(h:∀p∈l,tK p)(a:Int):x7 n (hE l a):=by
 refine⟨by unfold hE;simpa using ab,λi=>?_⟩
 by_cases hi:i<l.length
 ·rw [arz l a i hi];have hp:=aem hn (h _ (FP hi));refine⟨hp.1,by show 1<n;omega,λk=>?_⟩
  refine o9 (P:=λv:Version=>v.bj.S.length<n) (λx hx=>?_) (by show 0<n;omega) k
  rw [List.mem_singleton.1 hx];exact hp.2
 ·have:(hE l a).Rows.getD i default=default:=by
   unfold hE;rw [List.getD_eq_getElem?_getD,List.getElem?_eq_none (by simp;omega)];rfl
  rw [this];refine⟨by show 0<n;omega,by show 0<n;omega,λk=>?_⟩
  show(([]:List Version).getD k default).bj.S.length<n
  simp [List.getD];show 0<n
  omega
def UZ{n:Nat}(hn:2000≤n):vo n default:=FV hn ⟨by show h2 0;unfold h2;omega,by show h2 0;unfold h2;omega,by show([]:au').length≤16;simp,⟨by show([]:List bz).length≤6;simp,λv au=>by cases au⟩,rfl,rfl⟩
def U0{n:Nat}(hn:2000≤n){p:og}(h:vz p)(hp:p.2.1.length<n){l:List bb}(ab:l.length≤1000)(hg:∀q∈l,pb q):tN n (fz p l) where
 st:=arA hn hp h.pc.1.2 p.1
 L':=by show l.length<n;omega
 pc:=λi=>o9 (P:=pV) (λx hx=>(hg x hx).fA) UW i
 FY:=by have:=h.qS.1.1;show p.2.2.2.1.length<n;omega
 qS:=FU hn h.qS.1.2
 pl:=by have:=h.Bt.1.2.1;show p.2.2.2.2.1.aS.length<n;omega
 FZ:=UJ (by omega) h.Bt.1.2.2
 aF:=by have:=h.aF.1;show p.2.2.2.2.2.1.length<n;omega
 li:=λi=>o9 (P:=λx:bg=>x.Key.length<n) (λx hx=>by have:=(h.aF.2 x hx).1;omega) (by show 0<n;omega) i
 pd:=by have:=h.pd.1;show p.2.2.2.2.2.2.1.length<n;omega
 L_:=λi=>o9 (P:=vo n) (λx hx=>FV hn (h.pd.2 x hx).1) (UZ hn) i
def aeM{α:Type}{E:α→au'}:∀{l:List α} {x:α},x∈l→(E x).length≤(ht E l).length
 |y::l,x,h=>by
  rw [Bg,au3];rcases List.mem_cons.1 h with rfl|h
  ·omega
  ·have:=aeM (E:=E) h;omega
def arB{p:og}{x:au'}(h:x∈p.2.2.1):x.length≤(ko p).length:=by
 have Z:=aeM (E:=eH) h;have aa:x.length≤(eH x).length:=by unfold eH;simp
 unfold ko eg;simp only [au3];omega
def Mc{p:og}(h:vz p):p.2.1.length≤(ko p).length:=by
 have Z:=LP (E:=mr) (l:=p.2.1) λv _=>by unfold mr eH;simp [qM]
 unfold ko;rw [show eg mr p.2.1=eM p.2.1.length++ht mr p.2.1 from rfl]
 simp only [au3];omega
def F2{n:Nat}(hn:2000≤n):tN n l2:=by
 have h0:∀{α:Type} (l:List α),l=[]→l.length<n:=λl h=>by rw [h];show 0<n;omega
 exact {
  st:=by
   refine⟨h0 _ rfl,λi=>⟨?_,?_,λk=>?_⟩⟩
   ·show 0<n;omega
   ·exact h0 _ rfl
   ·show 0<n;omega
  L':=h0 _ rfl
  pc:=λi=>o9 (P:=pV) (λx hx=>absurd hx (by show¬ x∈([]:List bb);simp)) UW i
  FY:=h0 _ rfl
  qS:=FU hn (λx hx=>by cases hx)
  pl:=h0 _ rfl
  FZ:=UJ (by omega) (λx hx=>by cases hx)
  aF:=h0 _ rfl
  li:=λi=>by show 0<n;omega
  pd:=h0 _ rfl
  L_:=λi=>o9 (P:=vo n) (λx hx=>absurd hx (by show¬ x∈([]:List Request);simp)) (UZ hn) i}
def Md{s t:au'}(h:t <:+ s):(bl s t=((s.length:Nat):Int))↔t=[]:=by
 have:=h.length_le
 unfold bl;constructor
 ·intro e;have:t.length=0:=by omega
  exact List.eq_nil_of_length_eq_zero this
 ·intro e;subst e;simp
def Bv(p:og)(t:au')(o:List bb×Bool):bN×Int:=
 bif ((!decide (t=[]) || !(decide (0≤p.1)&&decide (p.1≤1099511627776))) || !o.2) || !mW (fz p o.1) then(l2,5) else(fz p o.1,0)
section
variable {n:Nat} (hn:100000000≤n) (aZ:n≤9223372036854775808) {s:au'} (hs:s.length≤4000)
include hn aZ hs
theorem aeN{p:og}(hp:vz p)(ab:p.2.1.length≤4000)(h0:(decide (0≤p.1)&&decide (p.1≤1099511627776))=true):Ad n p.2.1 p.1=some (hE p.2.1 p.1,0)∧An n p.2.1 p.1=some (hE p.2.1 p.1,0):=by
 have e:Bn p.2.1 p.1=(hE p.2.1 p.1,0):=by
  simp only [Bool.and_eq_true,decide_eq_true_eq]at h0;unfold Bn;rw [hp.pc.2,decide_eq_false (show¬ p.1<0 by omega),decide_eq_false (show¬ 1099511627776<p.1 by omega)];rfl
 rw [aqK (by omega) aZ (by omega) (by omega) (UH (by omega) hp.pc.1.2),aqL (by omega) aZ (by omega) (by omega) (UH (by omega) hp.pc.1.2),e]
 exact⟨rfl,rfl⟩
theorem arC{p:og}{t:au'}(hd:vy s = .ok (p,t)){o:List bb×Bool}(ay:Jt n p.2.2.1=some o)(Ui:o.1.length≤1000)(hg:∀q∈o.1,pb q):rI n s=some (Bv p t o):=by
 have ai:=aeL hn aZ (s:=s) (by omega)
 rw [hd]at ai;simp only at ai
 obtain⟨hc,hp⟩:=F0.fL _ _ _ hd;have aeO:=F0.km hd
 have hlen:p.2.1.length≤4000:=by
  have:=Mc hp;have aa:s.length=(ko p).length+t.length:=by rw [hc];simp
  omega
 have c_:=U0 (n:=n) (by omega) hp (by omega) Ui hg
 unfold rI Bv;rw [ai,ak]
 have e1:decide (bl s t=((s.length:Nat):Int))=decide (t=[]):=by
  by_cases h:t=[]
  ·rw [decide_eq_true h,decide_eq_true ((Md aeO).2 h)]
  ·rw [decide_eq_false h,decide_eq_false (λg=>h ((Md aeO).1 g))]
 simp only [auT,auX,auW,eG];rw [e1,show decide (p.1<0) = !decide (0≤p.1)from Ma hn aZ _ _,show decide (1099511627776<p.1) = !decide (p.1≤1099511627776)from Ma hn aZ _ _]
 by_cases aF:t=[]
 ·rw [decide_eq_true aF];cases h0:decide (0≤p.1)&&decide (p.1≤1099511627776)
  ·have:(!true || !decide (0≤p.1) || !decide (p.1≤1099511627776))=true:=by
    cases Z:decide (0≤p.1)<;>cases aa:decide (p.1≤1099511627776)<;>rw [Z,aa]at h0<;>first|rfl|cases h0
   rw [this];rfl
  ·have:(!true || !decide (0≤p.1) || !decide (p.1≤1099511627776))=false:=by
    cases Z:decide (0≤p.1)<;>cases aa:decide (p.1≤1099511627776)<;>rw [Z,aa]at h0<;>first|rfl|cases h0
   rw [this,auW,ay,ak,(aeN hn aZ hs hp hlen h0).1];cases aum:o.2
   ·rfl
   ·simp only [auX,auW,ak,auT];refine(congrArg (λx=>Option.bind x _) (UX hn aZ c_)).trans ?_
    simp only [ak];cases mW (fz p o.1)<;>rfl
 ·rw [decide_eq_false aF];rfl
end
def r'{α R:Type}[Inhabited α]{l:List α}{E:α→au'}{B:Nat}{L:Nat→au'→Nat→Option R}{fin:au'→Option R}
 (hs:∀m i acc,i<l.length→acc.length+(E (l.getD i default)).length≤B→L (m+1) acc i=L m (acc++E (l.getD i default)) (i+1))
 (he:∀m acc,acc.length≤B→L (m+1) acc l.length=fin acc):
 ∀m i acc,l.length<m+i→i≤l.length→acc.length+(ht E (l.drop i)).length≤B→L m acc i=fin (acc++ht E (l.drop i)):=by
 intro m;induction m with
 |zero=>intro i acc Z aa;omega
 |succ m aM=>
  intro i acc Z aa am;by_cases hi:i<l.length
  ·rw [eZ l i default hi,Bg]at am ⊢;rw [au3]at am;rw [hs m i acc hi (by omega),aM (i+1) _ (by omega) (by omega) (by rw [au3];omega),List.append_assoc]
  ·obtain rfl:i=l.length:=by omega
   rw [gE l _ hi,ap9]at am ⊢;rw [he m acc (by simpa using am),List.append_nil]
def Bw{n:Nat}(hn:10≤n){z:Int}(h:h2 z):hL n (IntKind.u64.wrap z)=some (jI z):=by
 obtain⟨Z,aa⟩:=h;have e:IntKind.u64.wrap z=((z.toNat:Nat):Int):=by rw [IntKind.wrap_u64];omega
 rw [e];exact tC hn (by omega)
def tP{n:Nat}(hn:10≤n){k:Nat}(h:k<18446744073709551616):hL n (IntKind.u64.wrap (k:Int))=some (eM k):=by
 rw [qK h];exact tC hn h
def la{n:Nat}{s t:au'}(h:t.length+s.length≤10000000):jS n s (gK t)=some (((s.length:Nat):Int),gK (t++s)):=by
 unfold jS zr;simp only [ak,Bb,Ug (show t.length+s.length≤140737488355328 by omega),a6]
 rw [Ud];rfl
def Me{n:Nat}{t:au'}(h:t.length≤10000000):rz n (gK t)=some (t,gK t):=by
 unfold rz;simp only [Uc,Ub,Bb,show t.length≤9223372036854775807 by omega,auT,Bool.and_self,a6]
def r_{α:Type}[Inhabited α]{P:α→Prop}{l:List α}(h:∀x∈l,P x){i:Nat}(hi:i<l.length):P (l.getD i default):=by
 rw [List.getD_eq_getElem?_getD,List.getElem?_eq_getElem hi];exact h _ (List.getElem_mem hi)
def arD{n:Nat}(hn:2000≤n){l:List aU}(ab:l.length<n)(h:∀p∈l,tK p)(dg:(eg mr l).length≤1000000):IA n l=some (eg mr l):=by
 have hlen:l.length≤(ht mr l).length:=LP λv _=>by unfold mr eH;simp [qM]
 unfold eg at dg ⊢;rw [au3]at dg
 have key:=r' (l:=l) (E:=mr) (B:=2000000) (L:=λm acc i=>zy n l m (gK acc) (i:Int)) (fin:=λacc=>some acc)
  (λm i acc hi hb=>by
   obtain⟨Z,aa⟩:=r_ h hi;have am:=vp aa;unfold mr at hb ⊢;rw [au3]at hb;simp only [zy,Iz,hi,cC hi,au1,au2,auT,auV,a6,ea (show i≤9223372036854775806 by omega)]
   rw [rY (by omega) (by omega),ak,la (by omega),ak,
    show wK n (⟨((l.getD i default).bj).Kind,((l.getD i default).bj).N,((l.getD i default).bj).S⟩:bz)=_ from Uk (v:=(l.getD i default).bj) (by omega) aa.2 (by omega),ak,
    la (by rw [au3];omega),ak,List.append_assoc])
  (λm acc ha=>by
   simp only [zy,Iz,au2,Nat.lt_irrefl,auU,auW,PC];rw [Me (by omega),ak])
 unfold IA;rw [tP (by omega) (by omega),ak,Ue,la (by simp;omega),ak]
 exact key n 0 _ (by omega) (by omega) (by simp;omega)
def arE{n:Nat}(hn:2000≤n){p:cc}(h0:fy p.Version)(ab:p.aS.length≤16)(h:∀x∈p.aS,tL x)(dg:(pT p).length≤1000000):CR n p=some (pT p):=by
 have au:=LI h0;unfold pT eg at dg ⊢;simp only [au3]at dg
 have key:=r' (l:=p.aS) (E:=x8) (B:=2000000) (L:=λm acc i=>zj n p m (i:Int) acc) (fin:=λacc=>some acc)
  (λm i acc hi hb=>by
   obtain⟨Z,aa,am,aK,bd⟩:=r_ h hi;unfold x8 at hb ⊢;simp only [au3]at hb;simp only [zj,HX,hi,cC hi,au1,au2,auT,auV,a6,ea (show i≤9223372036854775806 by omega)]
   rw [xV (by omega) Z,ak,rY (by omega) (by omega),ak,xV (by omega) am,ak,xV (by omega) aK,ak,rY (by omega) (by omega),ak]
   simp (disch:=omega) only [List.length_append,gC,a6,List.append_assoc])
  (λm acc ha=>by simp only [zj,HX,au2,Nat.lt_irrefl,auU,auW,OQ])
 unfold CR;rw [xV (by omega) h0,ak,tP (by omega) (by omega),ak,gC (by omega),a6,←List.append_assoc]
 exact key n 0 _ (by omega) (by omega) (by simp only [au3,List.drop_zero];omega)
def aeP{n:Nat}(hn:2000≤n){l:kK}(ab:l.length≤64)(h:∀x∈l,x.length≤24)(dg:(eg eH l).length≤1000000):CN n l=some (eg eH l):=by
 unfold eg at dg ⊢;simp only [au3]at dg
 have key:=r' (l:=l) (E:=eH) (B:=2000000) (L:=λm acc i=>zb n l m (i:Int) acc) (fin:=λacc=>some acc)
  (λm i acc hi hb=>by
   have Z:=r_ h hi;simp only [zb,HL,hi,cC hi,au1,au2,auT,auV,a6,ea (show i≤9223372036854775806 by omega)]
   rw [rY (by omega) (by omega),ak]
   simp (disch:=omega) only [gC,a6])
  (λm acc ha=>by simp only [zb,HL,au2,Nat.lt_irrefl,auU,auW,OL])
 unfold CN;rw [tP (by omega) (by omega),ak]
 exact key n 0 _ (by omega) (by omega) (by rw [List.drop_zero];omega)
def yg{z:Int}(h:h2 z):(jI z).length≤10:=nl (by obtain⟨Z,aa⟩:=h;omega)
def arF{o:Outcome}(h:tM o):h2 o.Status∧h2 o.Code:=⟨⟨h.1.1,by have:=h.1.2;omega⟩,⟨h.2.1.1,by have:=h.2.1.2;omega⟩⟩
def aeQ{α β:Type}(E:β→au')(f:α→β)(l:List α):ht E (l.map f)=ht (λx=>E (f x)) l:=by
 unfold ht;rw [List.map_map];rfl
section
variable {n:Nat} (hn:2000≤n)
include hn
theorem arG(eQ aj:List Int→Int→Option au')(l:List b_)(i j:Nat)(hj:j≤9223372036854775806)(ay:tM ((((l.getD i default).cZ).getD j default).Outcome))(acc:au')
 (dg:acc.length+(ht b7 ((((l.getD i default).cZ).getD j default).Outcome.Out)).length≤2000000):
 wU n eQ aj l (i:Int) (j:Int) n (gK acc) 0=eQ (gK (acc++ht b7 ((((l.getD i default).cZ).getD j default).Outcome.Out))) ((j+1:Nat):Int):=by
 have ab:=ay.2.2.1
 have key:=r' (l:=(((l.getD i default).cZ).getD j default).Outcome.Out) (E:=b7) (B:=2000000) (L:=λm acc k=>wU n eQ aj l (i:Int) (j:Int) m (gK acc) (k:Int)) (fin:=λacc=>eQ (gK acc) ((j+1:Nat):Int))
  (λm k acc hk hb=>by
   have aa:=r_ ay.2.2.2 hk;have am:=vp aa;simp only [wU,Iv,au1,hk,cC hk,au2,auT,auV,a6,ea (show k≤9223372036854775806 by omega)]
   rw [Uk (by omega) aa.2 (by omega),ak,la (by omega),ak])
  (λm acc ha=>by
   simp only [wU,Iv,au1,au2,Nat.lt_irrefl,auU,auW,Pz,ea hj])
 have:=key n 0 acc (by omega) (by omega) (by rw [List.drop_zero];exact dg)
 rw [List.drop_zero]at this;exact this
theorem arH(aj:List Int→Int→Option au')(l:List b_)(i:Nat)(hi:i≤9223372036854775806)(ab:(l.getD i default).cZ.length≤1000)(ay:∀r∈(l.getD i default).cZ,tM r.Outcome)(acc:au')
 (dg:acc.length+(ht (λr:fg=>x' r.Outcome) (l.getD i default).cZ).length≤2000000):
 wW n aj l (i:Int) n (gK acc) 0=aj (gK (acc++ht (λr:fg=>x' r.Outcome) (l.getD i default).cZ)) ((i+1:Nat):Int):=by
 have key:=r' (l:=(l.getD i default).cZ) (E:=λr:fg=>x' r.Outcome) (B:=2000000) (L:=λm acc j=>wW n aj l (i:Int) m (gK acc) (j:Int)) (fin:=λacc=>aj (gK acc) ((i+1:Nat):Int))
  (λm j acc hj hb=>by
   have aa:=r_ (P:=λr:fg=>tM r.Outcome) ay hj
   obtain⟨am,aK⟩:=arF aa;have bd:=aa.2.2.1;have hf:=yg am;have jr:=yg aK;have aeR:=nl (u:=(((l.getD i default).cZ).getD j default).Outcome.Out.length) (by omega)
   unfold x' eg at hb ⊢;simp only [au3]at hb;simp only [wW,Iw,au1,hj,cC hj,au2,auT,auV,a6]
   rw [Bw (by omega) am,ak,Bw (by omega) aK,ak,gC (by omega),a6,tP (by omega) (by omega),ak,gC (by rw [au3];omega),a6,
    la (by simp only [au3];omega),ak]
   refine(arG hn _ aj l i j (by omega) aa _ (by simp only [au3];omega)).trans ?_
   simp only [List.append_assoc])
  (λm acc ha=>by
   simp only [wW,Iw,au1,au2,Nat.lt_irrefl,auU,auW,Py,ea hi])
 have:=key n 0 acc (by omega) (by omega) (by rw [List.drop_zero];exact dg)
 rw [List.drop_zero]at this;exact this
theorem arI{l:List b_}(au:uD n l=some true)(ab:l.length≤32)(h:∀s∈l,vv s)(dg:(eg mV l).length≤1000000):Da n l=some (eg mV l):=by
 unfold eg at dg ⊢;simp only [au3]at dg
 have key:=r' (l:=l) (E:=mV) (B:=2000000) (L:=λm acc i=>zx n l m (gK acc) (i:Int)) (fin:=λacc=>some acc)
  (λm i acc hi hb=>by
   have aa:=r_ h hi;obtain⟨⟨c1,c2⟩,⟨d1,d2⟩,bd,b',eb⟩:=aa;have dc:h2 (l.getD i default).Client:=⟨by omega,by omega⟩
   have aj:h2 (l.getD i default).Next:=⟨by omega,by omega⟩
   have hf:=yg dc;have jr:=yg aj;have hk:=UL ⟨d1,d2⟩;have ai:(l.getD i default).cZ.length≤1000:=by rw [List.length_map]at b';omega
   have ay:∀r∈(l.getD i default).cZ,tM r.Outcome:=λr ai=>eb _ (List.mem_map_of_mem ai)
   unfold mV at hb ⊢;rw [aeQ]at hb ⊢;simp only [au3]at hb;simp only [zx,Iy,au1,hi,cC hi,au2,auT,auV,a6];rw [Bw (by omega) dc,ak,Bw (by omega) aj,ak,gC (by omega),a6,la (by simp only [au3];omega),ak]
   refine(arH hn _ l i (by omega) ai ay _ (by simp only [au3];omega)).trans ?_
   simp only [List.append_assoc])
  (λm acc ha=>by
   simp only [zx,Iy,au2,Nat.lt_irrefl,auU,auW,Px];rw [Me (by omega),ak])
 unfold Da;rw [au,ak,auX,auW,tP (by omega) (by omega),ak,Ue,la (by simp;omega),ak]
 have:=key n 0 (eM l.length) (by omega) (by omega) (by rw [List.drop_zero];omega)
 rw [List.drop_zero]at this;exact this
theorem arJ(k:au')(v:bz)(a:Int):zh n ⟨k,[⟨a,v⟩]⟩ a=some v:=by
 obtain⟨m,rfl⟩:∃m,n=m+3:=⟨n-3,by omega⟩
 unfold zh HU
 have e:wL (m+3) a ⟨k,[⟨a,v⟩]⟩ (m+3) 0=some 1:=by
  have w:ava (0+1)=1:=rfl;simp only [wL,HT,HS,w];have h0:decide ((0:Int)<(([⟨a,v⟩]:List Version).length:Nat))=true:=rfl;have Z:decide ((1:Int)<(([⟨a,v⟩]:List Version).length:Nat))=false:=rfl;have aa:aI 0 ([⟨a,v⟩]:List Version).length=true:=rfl;have am:(([⟨a,v⟩]:List Version).getD (0:Int).toNat default).cg=a:=rfl;simp only [h0,Z,aa,am,Int.le_refl,auT,auX,auY,Bool.true_or,Bool.false_or,a6,auV,auW]
 rw [e,ak];rfl
theorem arK{l:List aU}{a:Int}(ab:l.length≤4000)(eD:l.length<n)(hk:∀i,i<l.length→(l.getD i default).bj.Kind≠0)(au:uz n (hE l a)=some true):uA n (hE l a) a=some (l,0):=by
 have hg:∀i,i<l.length→(hE l a).Rows.getD i default=⟨(l.getD i default).Key,[⟨a,(l.getD i default).bj⟩]⟩:=λi hi=>by
  unfold hE;simp only [List.getD_eq_getElem?_getD,List.getElem?_map,List.getElem?_eq_getElem hi,Option.map_some,Option.getD_some]
 have hlen:(hE l a).Rows.length=l.length:=by unfold hE;simp
 have key:∀m i acc,l.length<m+i→i≤l.length→acc.length≤i→wM n a (hE l a) m (i:Int) acc=some (acc++l.drop i,0):=by
  intro m;induction m with
  |zero=>intro i acc Z aa;omega
  |succ m aM=>
   intro i acc Z aa am;simp only [wM,HW,hlen,au2];by_cases hi:i<l.length
   ·simp only [hi,cC hi,au1,auT,auV,a6];rw [hg i hi,arJ hn,ak];simp only [hk i hi,auU,auY,auV,au4,zi,ea (show i≤9223372036854775806 by omega),jK (show(acc.length+1)*48≤140737488355328 by omega),a6]
    rw [aM (i+1) _ (by omega) (by omega) (by rw [au3,au4];omega),eZ l i default hi]
    simp
   ·obtain rfl:i=l.length:=by omega
    simp only [Nat.lt_irrefl,auU,auW,HV,gE l _ hi,List.append_nil]
 unfold uA;rw [au,ak]
 have ai:CQ n (hE l a) a=some 0:=by
  unfold CQ hE;simp only [au6,auU,auW]
 simp only [auX,auW,ai,ak,auT];exact key n 0 [] (by omega) (by omega) (by simp)
end
def arL{n:Nat}(hn:10≤n){z:Int}(h:h2 z):hL n z=some (jI z):=by
 obtain⟨Z,aa⟩:=h;have e:z=((z.toNat:Nat):Int):=by omega
 have:=tC (n:=n) (u:=z.toNat) hn (by omega)
 rw [←e]at this;exact this
def arM{n:Nat}(b:Bool):OM n b=some (x0 b):=by cases b<;>rfl
def aeS(b:Bool):(x0 b).length=1:=by cases b<;>rfl
section
variable {n:Nat} (hn:2000≤n)
include hn
theorem arN{r:Request}(h:qR r)(acc:au')(dg:acc.length+(x0 r.fE++vx r.fE (r.bU.Reads,r.bU.dI)).length≤2000000)(n4:(vx r.fE (r.bU.Reads,r.bU.dI)).length≤1000000):
 CP n r acc=some (acc++(x0 r.fE++vx r.fE (r.bU.Reads,r.bU.dI))):=by
 have bd:=h.2.2.2.2.1;rw [au3]at dg;unfold CP;rw [arM,ak,gC (by omega),a6]
 cases hd:r.fE
 ·simp only [auW,CO,vx,au9,Bool.false_eq_true,List.append_nil]
 ·rw [hd]at bd dg n4;obtain⟨⟨bc,a2⟩,b9,ho⟩:=bd;simp only at bc a2 b9 ho
  simp only [vx,au8,au3]at dg n4;rw [auV,aeP hn bc a2 (by omega),ak,aeP hn b9 ho (by omega),ak]
  simp (disch:=omega) only [List.length_append,gC,a6,CO,vx,if_true,List.append_assoc]
theorem arO{r:Request}(au:rx n r=some 0)(h:qR r)(dg:(k_ r).length≤1000000):HN n r=some (k_ r):=by
 obtain⟨c1,c2,c3,⟨c4,c5⟩,aun,auo⟩:=id h;have hf:=yg c1;have jr:=yg c2;unfold k_ eg at dg ⊢;simp only [au3]at dg
 have key:=r' (l:=r.ax) (E:=b7) (B:=900000) (L:=λm acc i=>zc n r m acc (i:Int)) (fin:=λacc=>CP n r acc)
  (λm i acc hi hb=>by
   have aa:=r_ c5 hi;have am:=vp aa;simp only [zc,HM,hi,cC hi,au1,au2,auT,auV,a6,ea (show i≤9223372036854775806 by omega)]
   rw [Uk (by omega) aa.2 (by omega),ak,gC (by omega),a6])
  (λm acc ha=>by simp only [zc,HM,au2,Nat.lt_irrefl,auU,auW])
 unfold HN;rw [au,ak];simp only [auT,auX,auW];have t1:=Fz (s:=r.bb) (by omega)
 have aeT:=nl (u:=r.ax.length) (by omega)
 have v1:(ht b7 r.ax).length≤1000:=by
  have:∀l:List bz,(∀v∈l,tH v)→(ht b7 l).length≤100*l.length:=by
   intro l;induction l with
   |nil=>intro _;simp [ht]
   |cons v l aM=>
    intro bn;have g:=bn v (by simp)
    have g2:=apJ g.2 (by have:=vp g;omega)
    have g3:=vp g;have g4:=aM λw hw=>bn w (by simp [hw])
    rw [Bg,au3,auZ];omega
  have:=this r.ax c5
  omega
 rw [Bw (by omega) c1,ak,Bw (by omega) c2,ak,gC (by omega),a6,rY (by omega) (by omega),ak,gC (by simp only [au3];omega),a6,
  tP (by omega) (by omega),ak,gC (by simp only [au3];omega),a6]
 have:=key n 0 (((jI r.Client++jI r.Seq)++eH r.bb)++eM r.ax.length) (by omega) (by omega) (by rw [List.drop_zero];simp only [au3];omega)
 rw [List.drop_zero]at this;refine this.trans ?_;rw [arN hn h _ (by simp only [au3,aeS];simp only [au3,aeS]at dg;omega) (by omega)]
 simp only [List.append_assoc]
theorem arP{l:List Request}(ab:l.length≤64)(h:∀r∈l,qR r∧rx n r=some 0)(dg:(eg k_ l).length≤900000):ze n l=some (eg k_ l):=by
 unfold eg at dg ⊢;simp only [au3]at dg
 have key:=r' (l:=l) (E:=k_) (B:=1000000) (L:=λm acc i=>zd n l m (i:Int) acc) (fin:=λacc=>some acc)
  (λm i acc hi hb=>by
   obtain⟨Z,aa⟩:=r_ h hi;simp only [zd,HO,hi,cC hi,au1,au2,auT,auV,a6,ea (show i≤9223372036854775806 by omega)]
   rw [aa,ak];simp only [auT,auX,auW];rw [arO hn aa Z (by omega),ak,gC (by omega),a6])
  (λm acc ha=>by simp only [zd,HO,au2,Nat.lt_irrefl,auU,auW,ON])
 unfold ze;simp only [gb,show¬ 64<l.length by omega,auU,auW]
 rw [tP (by omega) (by omega),ak]
 have:=key n 0 (eM l.length) (by omega) (by omega) (by rw [List.drop_zero];omega)
 rw [List.drop_zero]at this;exact this
theorem arQ{r:bN}(ao:ze n r.Queue=some (eg k_ r.Queue))(hc:h2 r.cz)(acc:au')(dg:acc.length+(eg k_ r.Queue).length≤3000000):
 Db n r (gK acc)=some (acc++(eg k_ r.Queue++jI r.cz)):=by
 have:=yg hc
 unfold Db;rw [ao,ak,la (by omega),ak,arL (by omega) hc,ak,la (by rw [au3];omega),ak,Me (by simp only [au3];omega),ak]
 simp only [List.append_assoc]
theorem arR{r:bN}(Z:Da n r.cp=some (eg mV r.cp))(aa:CR n r.Place=some (pT r.Place))(am:r.bg.length≤32∧∀h∈r.bg,h.Key.length≤24∧fy h.Count)
 (ao:ze n r.Queue=some (eg k_ r.Queue)) (hc:h2 r.cz) (acc:au') (dg:acc.length+(eg mV r.cp).length+(pT r.Place).length+(eg o_ r.bg).length+(eg k_ r.Queue).length≤2000000):
 zA n r (gK acc)=some (acc++(eg mV r.cp++(pT r.Place++(eg o_ r.bg++(eg k_ r.Queue++jI r.cz))))):=by
 obtain⟨am,aK⟩:=am;have aeT:=nl (u:=r.bg.length) (by omega)
 have n4:=dg;rw [show(eg o_ r.bg).length=(eM r.bg.length).length+(ht o_ r.bg).length by unfold eg;simp]at n4
 have key:=r' (l:=r.bg) (E:=o_) (B:=2000000) (L:=λm acc i=>zz n r m (gK acc) (i:Int)) (fin:=λacc=>Db n r (gK acc))
  (λm i acc hi hb=>by
   obtain⟨g1,g2⟩:=r_ aK hi;unfold o_ at hb ⊢;rw [au3]at hb;simp only [zz,ID,hi,cC hi,au1,au2,auT,auV,a6,ea (show i≤9223372036854775806 by omega)]
   rw [rY (by omega) (by omega),ak,la (by omega),ak,xV (by omega) g2,ak,la (by rw [au3];omega),ak,List.append_assoc])
  (λm acc ha=>by simp only [zz,ID,au2,Nat.lt_irrefl,auU,auW])
 unfold zA;rw [Z,ak,la (by omega),ak,aa,ak,la (by rw [au3];omega),ak,tP (by omega) (by omega),ak,la (by simp only [au3];omega),ak]
 have:=key n 0 (((acc++eg mV r.cp)++pT r.Place)++eM r.bg.length) (by omega) (by omega) (by rw [List.drop_zero];simp only [au3];omega)
 rw [List.drop_zero]at this;refine this.trans ?_;rw [arQ hn ao hc _ (by simp only [au3];omega)]
 unfold eg;simp only [List.append_assoc]
end
section
variable {n:Nat} (hn:100000000≤n) (aZ:n≤9223372036854775808)
include hn aZ
theorem arS{p:og}{l:List bb}(hp:vz p)(hs:(ko p).length≤4000)(ab:l.map kn=p.2.2.1)(hg:∀q∈l,pb q)(k7:l.length≤1000)(c_:mW (fz p l)=true):Df n (fz p l)=some (ko p):=by
 have jc:=Mc hp;have hsh:=U0 (n:=n) (by omega) hp (by omega) k7 hg
 have aid:=hs;unfold ko at hs;simp only [au3]at hs;have U1:=c_;unfold mW at U1;simp only [Bool.and_eq_true]at U1;obtain⟨⟨⟨⟨⟨⟨⟨_,s1⟩,_⟩,_⟩,s2⟩,_⟩,_⟩,_⟩:=U1
 have arT:uz n (hE p.2.1 p.1)=some true:=by
  have:=LV (by omega) aZ hsh.st
  rw [s1]at this;exact this
 have arU:uD n p.2.2.2.1=some true:=by
  have:=UF (by omega) aZ hsh.FY hsh.qS
  rw [s2]at this;exact this
 have kinds:∀i,i<p.2.1.length→(p.2.1.getD i default).bj.Kind≠0:=by
  have:=hp.pc.2
  unfold o8 at this;rw [Bool.and_eq_true,x3]at this;intro i hi;have:=this.2 i hi
  simpa using this
 have arV:=arI (by omega) arU hp.qS.1.1 hp.qS.1.2 (by omega)
 have arW:=arE (n:=n) (by omega) hp.Bt.1.1 hp.Bt.1.2.1 hp.Bt.1.2.2 (by omega)
 have arX:=arP (n:=n) (by omega) hp.pd.1 (λr ai=>⟨(hp.pd.2 r ai).1,by
  have Z:=(hp.pd.2 r ai).2;unfold yb at Z;simp only [Bool.and_eq_true,decide_eq_true_eq]at Z;rw [UB (by omega) aZ (FV (by omega) (hp.pd.2 r ai).1),Z.2]⟩) (by omega)
 have a':=arD (n:=n) (by omega) (by omega) hp.pc.1.2 (by omega)
 have i1:=LI hp.pos;have aeT:=nl (u:=l.length) (by omega)
 have jd:eg eH p.2.2.1=eM l.length++ht (λq=>eH (kn q)) l:=by
  rw [←ab];unfold eg;rw [aeQ,List.length_map]
 rw [jd]at hs;simp only [au3]at hs
 have key:=r' (l:=l) (E:=λq=>eH (kn q)) (B:=1000000) (L:=λm acc i=>zB n (fz p l) m (gK acc) (i:Int)) (fin:=λacc=>zA n (fz p l) (gK acc))
  (λm i acc hi hb=>by
   have g:=r_ hg hi;have g2:=arf g.fA;simp only [zB,IE,show(fz p l).cj=l from rfl,hi,cC hi,au1,au2,auT,auV,a6,ea (show i≤9223372036854775806 by omega)]
   rw [UU g.fA hn,ak,rY (by omega) (by omega),ak,la (by omega),ak])
  (λm acc ha=>by simp only [zB,IE,show(fz p l).cj=l from rfl,au2,Nat.lt_irrefl,auU,auW])
 unfold Df
 rw [show uA n (fz p l).aw (fz p l).Pos=_ from arK (by omega) (by omega) (by omega) kinds arT,ak,
  show qq n (fz p l).Pos=some (nm p.1)from xV (by omega) hp.pos,ak,Ue,la (by simp;omega),ak,a',ak,la (by simp;omega),ak,
  show hL n (IntKind.u64.wrap (((fz p l).cj.length:Nat):Int))=some (eM l.length)from tP (k:=l.length) (by omega) (by omega),ak,la (by simp only [au3,au0];omega),ak]
 have:=key n 0 ((([]++nm p.1)++eg mr p.2.1)++eM l.length) (by omega) (by omega) (by rw [List.drop_zero];simp only [au3,au0];omega)
 rw [List.drop_zero]at this;refine this.trans ?_
 have j:∀A:au',A.length≤1000000→zA n (fz p l) (gK A)=some (A++(eg mV p.2.2.2.1++(pT p.2.2.2.2.1++(eg o_ p.2.2.2.2.2.1++(eg k_ p.2.2.2.2.2.2.1++jI p.2.2.2.2.2.2.2))))):=λA eA=>
  arR (r:=fz p l) (by omega) arV arW hp.aF arX hp.aeE A (by
   show A.length+(eg mV p.2.2.2.1).length+(pT p.2.2.2.2.1).length+(eg o_ p.2.2.2.2.2.1).length+(eg k_ p.2.2.2.2.2.2.1).length≤_
   omega)
 rw [j _ (by simp only [au3,au0];omega)]
 unfold ko;rw [jd];simp only [List.append_assoc,List.nil_append]
end
section
variable {n:Nat} (hn:100000000≤n) (aZ:n≤9223372036854775808) {s:au'} (hs:s.length≤4000)
include hn aZ hs
theorem arY:∃R,rI n s=some R∧tN n R.1∧(R.2=0→∃p l,vy s = .ok (p,[])∧R.1=fz p l∧l.map kn=p.2.2.1∧(∀q∈l,pb q)∧l.length≤1000∧mW (fz p l)=true)∧(R.2≠0→R.1=l2):=by
 cases hd:vy s with
 |error e=>
  have ai:=aeL hn aZ (s:=s) (by omega)
  rw [hd]at ai;obtain⟨v,a,ai⟩:=ai;have he:=F0.cN _ _ hd;refine⟨(l2,e),?_,F2 (by omega),λh=>absurd h he,λ_=>rfl⟩
  unfold rI;rw [ai,ak];simp only [gf he,auV]
 |ok r=>
  obtain⟨p,t⟩:=r;obtain⟨hc,hp⟩:=F0.fL _ _ _ hd;have aa:s.length=(ko p).length+t.length:=by rw [hc];simp
  have yX:=hp.src.1;obtain⟨o,cR,il,aup,U2,arZ⟩:=arh (n:=n) hn p.2.2.1 (by omega) (λx hx=>by have:=arB hx;omega)
  have hlen:=Mc hp;refine⟨Bv p t o,arC hn aZ hs hd cR (by omega) U2,?_,?_,?_⟩
  ·unfold Bv;cases ((!decide (t=[]) || !(decide (0≤p.1)&&decide (p.1≤1099511627776))) || !o.2) || !mW (fz p o.1)
   ·exact U0 (by omega) hp (by omega) (by omega) U2
   ·exact F2 (by omega)
  ·intro h;unfold Bv at h ⊢;cases hb:((!decide (t=[]) || !(decide (0≤p.1)&&decide (p.1≤1099511627776))) || !o.2) || !mW (fz p o.1)
   ·simp only [Bool.or_eq_false_iff,Bool.not_eq_false',Bool.and_eq_true,decide_eq_true_eq]at hb;obtain⟨⟨⟨b9,ho,o2⟩,vi⟩,ar0⟩:=hb;subst b9;exact⟨p,o.1,rfl,rfl,arZ vi,U2,by omega,ar0⟩
   ·rw [hb]at h;cases h
  ·intro h;unfold Bv at h ⊢;cases hb:((!decide (t=[]) || !(decide (0≤p.1)&&decide (p.1≤1099511627776))) || !o.2) || !mW (fz p o.1)
   ·rw [hb]at h;exact absurd rfl h
   ·rfl
end
section
variable {n:Nat} (hn:2000≤n)
include hn
end
section
variable {n:Nat} (hn:2000≤n)
include hn
end
def Mf(r:bN)(A:List aU):og:=(r.Pos,A,r.cj.map kn,r.cp,r.Place,r.bg,r.Queue,r.cz)
section
variable {n:Nat} (hn:2000≤n)
include hn
end
section
variable {n:Nat} (hn:100000000≤n) (aZ:n≤9223372036854775808) {r:bN} {A:List aU} (hp:vz (Mf r A)) (hs:(ko (Mf r A)).length≤800000) (hg:∀q∈r.cj,pV q) (jc:r.cj.length≤1000)
include hn aZ hp hs hg jc
end
section
variable {n:Nat} (hn:100000000≤n) (aZ:n≤9223372036854775808) {r:bN} {A:List aU} (hp:vz (Mf r A)) (hs:(ko (Mf r A)).length≤800000) (hg:∀q∈r.cj,pV q) (jc:r.cj.length≤1000)
include hn aZ hp hs hg jc
end
structure ar1(f:gP):Prop where
 r:f.Reads.length≤100
 w:f.dI.length≤100
 rs:∀i,i<f.Reads.length→(f.Reads.getD i default).length≤100
 ws:∀i,i<f.dI.length→(f.dI.getD i default).length≤100
structure ar2(r:Request):Prop where
 p:r.bb.length≤300
 a:r.ax.length≤40
 vs:∀i,i<r.ax.length→(r.ax.getD i default).S.length≤300
 f:ar1 r.bU
structure ar3(n:Nat)(a:Int)(r:Row):Prop where
 l:r.bA.length<n
 b:r.bA.length≤1000000000
 p:0<r.bA.length
 s:∀i,i<r.bA.length→(r.bA.getD i default).cg≤a
section
variable {n:Nat} {s:aw} {a:Int} (ab:s.Rows.length≤1000) (hn:2000≤n) (h:∀i,i<s.Rows.length→ar3 n a (s.Rows.getD i default)) (bP:s.bB≤a) (ha:a≤s.bv)
include ab hn h bP ha
end
def aeU{α:Type}[Inhabited α]{l:List α}{x:α}(h:x∈l):∃i,i<l.length∧l.getD i default=x:=by
 obtain⟨i,hi,e⟩:=List.mem_iff_getElem.1 h;exact⟨i,hi,by rw [List.getD_eq_getElem?_getD,List.getElem?_eq_getElem hi];exact e⟩
section
variable {H:Type} {enc:TypeId×Value→H} {W:World}
end
section
variable {H:Type} {enc:TypeId×Value→H} {W:World}
end
section
variable {H:Type} {enc:TypeId×Value→H} {W:World}
variable {n:Nat} {t:TypeId} {l:List Value} {x:DataW H×List MemPlace}
structure Mg(x:bz):Prop where
 auq:fy x.Kind
 aur:fy x.N
 U3:x.S.length≤9223372036854775807
structure ar4(x:Version):Prop where
 ar5:fy x.cg
 U4:Mg x.bj
structure ar6(x:Row):Prop where
 F3:x.Key.length≤9223372036854775807
 Mh:x.bA.length≤9223372036854775807∧∀i,i<x.bA.length→ar4 (x.bA.getD i default)
structure aeV(x:aw):Prop where
 aus:fy x.bB
 aut:fy x.bv
 aeW:x.Rows.length≤9223372036854775807∧∀i,i<x.Rows.length→ar6 (x.Rows.getD i default)
structure ar7(x:Outcome):Prop where
 auu:fy x.Status
 auv:fy x.Code
 ar8:x.Out.length≤9223372036854775807∧∀i,i<x.Out.length→Mg (x.Out.getD i default)
structure ar9(x:fg):Prop where
 aeX:fy x.Client
 ar':fy x.Seq
 ar_:ar7 x.Outcome
structure asa(x:b_):Prop where
 aeX:fy x.Client
 U5:fy x.Next
 aeY:x.cZ.length≤9223372036854775807∧∀i,i<x.cZ.length→ar9 (x.cZ.getD i default)
structure asb(x:Part):Prop where
 auw:fy x.Id
 asc:x.es.length≤9223372036854775807
 aux:fy x.Node
 auy:fy x.gO
 aeZ:x.dQ.length≤9223372036854775807
structure asd(x:cc):Prop where
 auz:fy x.Version
 ase:x.aS.length≤9223372036854775807∧∀i,i<x.aS.length→asb (x.aS.getD i default)
structure asf(x:bg):Prop where
 F3:x.Key.length≤9223372036854775807
 auA:fy x.Count
structure asg(x:gP):Prop where
 auB:True
 auC:x.Reads.length≤9223372036854775807∧∀i,i<x.Reads.length→(x.Reads.getD i default).length≤9223372036854775807
 auD:x.dI.length≤9223372036854775807∧∀i,i<x.dI.length→(x.dI.getD i default).length≤9223372036854775807
structure ash(x:Request):Prop where
 aeX:fy x.Client
 ar':fy x.Seq
 auE:x.bb.length≤9223372036854775807
 fArgs:x.ax.length≤9223372036854775807∧∀i,i<x.ax.length→Mg (x.ax.getD i default)
 auF:True
 auG:asg x.bU
structure F4(x:bN):Prop where
 auH:fy x.Pos
 asi:aeV x.aw
 asj:x.cj.length≤9223372036854775807∧∀i,i<x.cj.length→xS (x.cj.getD i default)
 ask:x.cp.length≤9223372036854775807∧∀i,i<x.cp.length→asa (x.cp.getD i default)
 asl:asd x.Place
 asm:x.bg.length≤9223372036854775807∧∀i,i<x.bg.length→asf (x.bg.getD i default)
 auI:x.Queue.length≤9223372036854775807∧∀i,i<x.Queue.length→ash (x.Queue.getD i default)
 auJ:h2 x.cz
structure asn(x:aU):Prop where
 F3:x.Key.length≤9223372036854775807
 U4:Mg x.bj
structure ae0(x:dw):Prop where
 ar5:fy x.cg
 auK:F4 x.Rest
 U5:x.Next.length≤9223372036854775807
 aeZ:True
 auL:x.e_.length≤9223372036854775807∧∀i,i<x.e_.length→asn (x.e_.getD i default)
 auM:x.dD.length≤9223372036854775807∧∀i,i<x.dD.length→(x.dD.getD i default).length≤9223372036854775807
end
def oh{α:Type}[Inhabited α]{P:α→Prop}{l:List α}(h:∀i,i<l.length→P (l.getD i default))(h0:P default)(i:Nat):P (l.getD i default):=by
 by_cases hi:i<l.length
 ·exact h i hi
 ·rw [List.getD_eq_getElem?_getD,List.getElem?_eq_none (by omega)];exact h0
structure U6(n:Nat)(r:bN):Prop where
 cB:tN n r
 FL:r.aw.Rows.length≤100
 vs:∀i,i<r.aw.Rows.length→(r.aw.Rows.getD i default).bA.length≤1000
 pl:r.cj.length≤1000
 c6:r.cp.length≤10
section
variable {n:Nat} (hn:100000000≤n) (aZ:n≤9223372036854775808) {r:bN} (bP:U6 n r) (hi:F4 r)
include hn aZ bP hi
end
def aso(A:List aU)(a:Int):(hE A a).Rows.length=A.length:=by unfold hE;simp
section
variable {n:Nat} (hn:100000000≤n) (aZ:n≤9223372036854775808) {r:bN} (bP:U6 n r) (hi:F4 r)
include hn aZ bP hi
end
section
variable {n:Nat} (hn:100000000≤n) (aZ:n≤9223372036854775808) {r:bN} (bP:U6 n r) (hi:F4 r)
include hn aZ bP hi
end
def lb(a:Int):List Version→Nat
 |[]=>0
 |v::l=>if v.cg≤a then lb a l+1 else 0
def U7(a:Int):∀l:List Version,lb a l≤l.length
 |[]=>Nat.le_refl _
 |v::l=>by
  have:=U7 a l
  unfold lb;split
  ·simp only [auZ];omega
  ·exact Nat.zero_le _
def pW(a:Int)(r:Row):bz:=if lb a r.bA=0 then⟨0,0,[]⟩ else(r.bA.getD (lb a r.bA-1) default).bj
def oi(a:Int):List Row→List aU
 |[]=>[]
 |r::l=>if(pW a r).Kind=0 then oi a l else⟨r.Key,pW a r⟩::oi a l
section
variable {n:Nat} {a:Int} {r:Row} (ab:r.bA.length<n) (aZ:n≤9223372036854775808)
include ab aZ
theorem asp:HU n r a=some ((lb a r.bA:Nat):Int):=by
 have key:∀m i,r.bA.length<m+i→i≤r.bA.length→wL n a r m (i:Int)=some ((i+lb a (r.bA.drop i):Nat):Int):=by
  intro m;induction m with
  |zero=>intro i Z aa;omega
  |succ m aM=>
   intro i Z aa;simp only [wL,HT,HS,au2,au1];by_cases hi:i<r.bA.length
   ·rw [eZ r.bA i default hi,lb];by_cases h:(r.bA.getD i default).cg≤a
    ·simp only [hi,cC hi,auT,au7,a6,auV,h,ea (show i≤9223372036854775806 by omega),au8]
     rw [aM (i+1) (by omega) (by omega),show i+1+lb a (r.bA.drop (i+1))=i+(lb a (r.bA.drop (i+1))+1)by omega]
    ·simp only [hi,cC hi,auT,auU,au7,a6,auV,auW,h,au9];rfl
   ·obtain rfl:i=r.bA.length:=by omega
    simp only [Nat.lt_irrefl,auU,auY,Bool.true_or,a6,auW,List.drop_length,lb,Nat.add_zero]
 have:=key n 0 (by omega) (by omega)
 rw [List.drop_zero,Nat.zero_add]at this;exact this
theorem asq:zh n r a=some (pW a r):=by
 have hs:=U7 a r.bA;unfold zh pW;rw [asp ab aZ,ak];by_cases h0:lb a r.bA=0
 ·rw [h0];rfl
 ·have e:ava (((lb a r.bA:Nat):Int)-1)=((lb a r.bA-1:Nat):Int):=by rw [wr]<;>omega
  simp only [show¬ ((lb a r.bA:Nat):Int)=0 by omega,auU,auW,e,cC (show lb a r.bA-1<r.bA.length by omega),a6,au1,h0,au9]
end
def U8{a:Int}:∀(l:List Row) (p:aU),p∈oi a l→∃r∈l,p=⟨r.Key,pW a r⟩∧(pW a r).Kind≠0
 |[],p,h=>by simp [oi]at h
 |r::l,p,h=>by
  unfold oi at h;by_cases k:(pW a r).Kind=0
  ·rw [if_pos k]at h;obtain⟨x,hx,e⟩:=U8 l p h;exact⟨x,by simp [hx],e⟩
  ·rw [if_neg k]at h;rcases List.mem_cons.1 h with rfl|h
   ·exact⟨r,by simp,rfl,k⟩
   ·obtain⟨x,hx,e⟩:=U8 l p h;exact⟨x,by simp [hx],e⟩
def ae1{a:Int}:∀l:List Row,(oi a l).length≤l.length
 |[]=>Nat.le_refl _
 |r::l=>by
  have:=ae1 (a:=a) l
  unfold oi;split
  ·simp only [auZ];omega
  ·simp only [auZ];omega
def asr{s:aw}(hs:od s=true)(a:Int)(i:Nat)(hi:i<s.Rows.length):mp (s.Rows.getD i default).Key=true∧kI (pW a (s.Rows.getD i default))=true:=by
 unfold od at hs;rw [Bool.and_eq_true,x3]at hs;have Z:=hs.2 i hi;simp only [Bool.and_eq_true]at Z;refine⟨Z.1.1,?_⟩
 have aa:=Z.2;unfold FQ at aa;rw [Bool.and_eq_true,x3]at aa;have hle:=U7 a (s.Rows.getD i default).bA;unfold pW;by_cases h0:lb a (s.Rows.getD i default).bA=0
 ·rw [if_pos h0];rfl
 ·rw [if_neg h0];have bd:=aa.2 (lb a (s.Rows.getD i default).bA-1) (by omega)
  unfold LT at bd;simp only [Bool.and_eq_true]at bd;exact bd.1.2
def hF(s:aw)(a:Int):List aU×Int:=bif !od s then([],1)else bif (decide (a<s.bB)||decide (s.bv<a)) then([],15) else(oi a s.Rows,0)
section
variable {n:Nat} {s:aw} (hn:2000≤n) (aZ:n≤9223372036854775808) (h:x7 n s) (ab:s.Rows.length≤5000)
include hn aZ h ab
theorem ass(a:Int):uA n s a=some (hF s a):=by
 have key:∀m i acc,s.Rows.length<m+i→i≤s.Rows.length→acc.length≤i→wM n a s m (i:Int) acc=some (acc++oi a (s.Rows.drop i),0):=by
  intro m;induction m with
  |zero=>intro i acc Z aa;omega
  |succ m aM=>
   intro i acc Z aa am;simp only [wM,HW,au2];by_cases hi:i<s.Rows.length
   ·simp only [hi,cC hi,au1,auT,auV,a6];rw [asq (h.row i).ael aZ,ak,eZ s.Rows i default hi,oi];by_cases k:(pW a (s.Rows.getD i default)).Kind=0
    ·simp only [k,auT,auX,auW,zi,ea (show i≤9223372036854775806 by omega),au8]
     exact aM (i+1) _ (by omega) (by omega) (by omega)
    ·simp only [k,auU,auY,auV,au4,zi,ea (show i≤9223372036854775806 by omega),jK (show(acc.length+1)*48≤140737488355328 by omega),a6,au9]
     rw [aM (i+1) _ (by omega) (by omega) (by rw [au3,au4];omega)]
     simp
   ·obtain rfl:i=s.Rows.length:=by omega
    simp only [Nat.lt_irrefl,auU,auW,HV,gE s.Rows _ hi,oi,List.append_nil]
 unfold uA CQ hF;rw [LV hn aZ h,ak];cases od s
 ·rfl
 ·simp only [auX,auW,eG];cases decide (a<s.bB)||decide (s.bv<a)
  ·simp only [auW,ak,auT,auX];exact key n 0 [] (by have:=h.rows;omega) (by omega) (by simp)
  ·rfl
end
structure U9(s:aw):Prop where
 FL:s.Rows.length≤60
 vs:∀i,i<s.Rows.length→(s.Rows.getD i default).bA.length≤40
structure U'(r:bN):Prop where
 st:U9 r.aw
 pl:r.cj.length≤16
 bu:∀i,i<r.cj.length→ao3 (r.cj.getD i default) 600
 c6:r.cp.length≤10
 pA:∀i,i<r.cp.length→(r.cp.getD i default).cZ.length≤20
 ab:r.bg.length≤40
 ast:r.Queue.length≤70
 asu:∀i,i<r.Queue.length→ar2 (r.Queue.getD i default)
 xN:r.Place.aS.length≤40
def U'.cB{r:bN}(h:U' r)(hi:F4 r){n:Nat}(hn:n=9223372036854775808):tN n r where
 st:=⟨by have:=h.st.FL;omega,λi=>oh (P:=LU n) (λk hk=>by
  have Z:=hi.asi.aeW.2 k hk;have aa:=Z.F3;have am:=Z.Mh.1;exact⟨by omega,by omega,λj=>oh (P:=λx:Version=>x.bj.S.length<n) (λm hm=>by have:=(Z.Mh.2 m hm).U4.U3;omega) (by show 0<n;omega) j⟩) ((F2 (n:=n) (by omega)).st.row 0) i⟩
 L':=by have:=h.pl;omega
 pc:=λi=>oh (P:=pV) (λk hk=>by
  obtain⟨Z,aa,am,aK⟩:=h.bu k hk;have bd:=LF (r.cj.getD k default).Body;exact⟨hi.asj.2 k hk,by omega,by omega,by omega⟩) UW i
 FY:=by have:=h.c6;omega
 qS:=λi=>oh (P:=x6 n) (λk hk=>by
  have Z:=hi.ask.2 k hk;have aa:=Z.aeY.1
  exact⟨by omega,λj=>oh (P:=λx:fg=>FN n x.Outcome) (λm hm=>by
   have am:=(Z.aeY.2 m hm).ar_.ar8;have aK:=am.1;exact⟨by omega,λq=>oh (P:=λx:bz=>x.S.length<n) (λm hm=>by have:=(am.2 m hm).U3;omega) (by show 0<n;omega) q⟩) ((FU (n:=n) (by omega) (l:=[]) (λx hx=>by cases hx) 0).out 0) j⟩) (FU (n:=n) (by omega) (l:=[]) (λx hx=>by cases hx) 0) i
 pl:=by have:=h.xN;omega
 FZ:=λi=>oh (P:=x5 n) (λk hk=>by
  have Z:=hi.asl.ase.2 k hk;have aa:=Z.asc;have am:=Z.aeZ;exact⟨by omega,by omega⟩) ((F2 (n:=n) (by omega)).FZ 0) i
 aF:=by have:=h.ab;omega
 li:=λi=>oh (P:=λx:bg=>x.Key.length<n) (λk hk=>by have:=(hi.asm.2 k hk).F3;omega) (by show 0<n;omega) i
 pd:=by have:=h.ast;omega
 L_:=λi=>oh (P:=vo n) (λk hk=>by
  obtain⟨Z,aa,am,f1,f2,f3,f4⟩:=h.asu k hk
  exact⟨by omega,by omega,λj=>oh (P:=λx:bz=>x.S.length<n) (λm hm=>by have:=am m hm;omega) (by show 0<n;omega) j,by omega,by omega,by omega,by omega,
   λj=>oh (P:=λx:au'=>x.length<n) (λm hm=>by have:=f3 m hm;omega) (by show 0<n;omega) j,
   λj=>oh (P:=λx:au'=>x.length<n) (λm hm=>by have:=f4 m hm;omega) (by show 0<n;omega) j⟩) (UZ (by omega)) i
def ae2:Ax 9223372036854775808=some true:=by kernel_rfl
abbrev sa(r:bN):bN:=⟨r.Pos,⟨0,0,[]⟩,r.cj,r.cp,r.Place,r.bg,r.Queue,r.cz⟩
def F5(x:dw):(⟨x.cg,x.Rest,x.Next,x.dQ,x.e_,x.dD⟩:dw)=x:=rfl
def ae3{n:Nat}{s:au'}(h:24<n):D5 n s=some (mq s):=by
 unfold D5 QA mq;by_cases ab:s.length≤24
 ·simp only [gb,show¬ 24<s.length by omega,auU,auW,ab,auT,Bool.and_true]
  rw [mU (L:=Ag n s) (chk:=λi=>LR (s.getD i 0)) (no:=false) (yes:=true) (show s.length<n by omega),r5,ak]
  ·intro m i hi;simp only [Ag,JF,Qy,au2,hi,auT,auV,cC hi,a6,ak,au1,c8 (show i≤4611686018427387904 by omega),rQ,ng,fk]
   refine mT ?_;unfold LR;rw [Bool.eq_iff_iff];simp only [Bool.not_eq_true',Bool.and_eq_false_iff,Bool.not_eq_false',Bool.or_eq_true,decide_eq_true_eq,decide_eq_false_iff_not,Bool.not_not];omega
  ·intro m;simp only [Ag,JF,Qz,au6,auU,auW]
 ·simp only [gb,show 24<s.length by omega,auT,auV,ab,auU,Bool.and_false,ak]
def U_{n:Nat}{x:au'}(h:24<n):Ah n ⟨x,[]⟩=some (mq x):=by
 unfold Ah;rw [ae3 h,ak,ae3 h,show mq []=true from rfl]
 cases mq x<;>rfl
def vB(x k:au'):Bool:=!Op.bytesLess k x
def asv(x k:au'):(Op.bytesLess x k||decide (x=k))=vB x k:=by
 unfold vB;rw [x2 k x]
def asw{n:Nat}{x k:au'}(h:24<n)(hx:mq x=true):JG n ⟨x,[]⟩ k=some (vB x k):=by
 unfold JG;rw [U_ h,ak,hx];simp only [auV,asv,auT];cases vB x k<;>rfl
def oj(x:au')(l:List aU):List aU:=l.filter λp=>vB x p.Key
def vC(l:List aU)(k:Nat):au':=if k<l.length then(l.getD k default).Key else[]
def asx(x:au')(l:List aU):(oj x l).length≤l.length:=List.length_filter_le _ _
def asy{α:Type}{a b:List α}{k:Nat}(h:a.length=k):(a++b).take k=a:=by subst h;simp
def asz{α:Type}[Inhabited α]{a b:List α}{p:α}{k:Nat}(h:a.length=k):(a++p::b).getD k default=p:=by subst h;simp [List.getD]
def ae4(s:aw)(a:Int):(hF s a).1.length≤s.Rows.length:=by
 unfold hF;cases od s
 ·simp
 ·cases decide (a<s.bB)||decide (s.bv<a)
  ·exact ae1 (a:=a) s.Rows
  ·simp
def asA{n:Nat}{s:aw}(hn:2000≤n)(aZ:n≤9223372036854775808)(h:x7 n s)(ab:s.Rows.length≤5000)(a:Int){x:au'}(hx:mq x=true)(k:Nat):
 JH n s a ⟨x,[]⟩ (k:Int)=some (bif !decide ((hF s a).2=0) then([],[],(hF s a).2) else((oj x (hF s a).1).take k,vC (oj x (hF s a).1) k,0)):=by
 unfold JH;rw [U_ (by omega),ak,hx]
 simp only [auX,auW];rw [ass hn aZ h ab,ak];cases hd:decide ((hF s a).2=0)
 ·rfl
 ·simp only [auX,auW];have hle:=ae4 s a;have auN:=h.rows;have hlen:(hF s a).1.length≤5000:=by omega
  have key:∀m i acc,(hF s a).1.length<m+i→i≤(hF s a).1.length→acc.length≤i→acc.length≤k→
   D7 n (k:Int) (hF s a) ⟨x,[]⟩ m acc (i:Int)=some ((acc++oj x ((hF s a).1.drop i)).take k,vC (acc++oj x ((hF s a).1.drop i)) k,0):=by
   intro m;induction m with
   |zero=>intro i acc Z aa;omega
   |succ m aM=>
    intro i acc Z aa am aK;simp only [D7,QC,au2];by_cases hi:i<(hF s a).1.length
    ·simp only [hi,cC hi,au1,auT,auV,a6];rw [asw (by omega) hx,ak,eZ (hF s a).1 i default hi,oj,List.filter_cons]
     cases hg:vB x ((hF s a).1.getD i default).Key
     ·simp only [auY,auV,D6,ea (show i≤9223372036854775806 by omega),Bool.false_eq_true,au9]
      exact aM (i+1) _ (by omega) (by omega) (by omega) aK
     ·simp only [auX,auW,Int.ofNat_le,au8];by_cases hk:k≤acc.length
      ·have e:acc.length=k:=by omega
       simp only [hk,auT,auV,asy e];unfold vC;rw [if_pos (by rw [au3,auZ];omega),asz e]
      ·simp only [hk,auU,auW,au4,D6,ea (show i≤9223372036854775806 by omega),jK (show(acc.length+1)*48≤140737488355328 by omega),a6]
       rw [aM (i+1) _ (by omega) (by omega) (by rw [au3,au4];omega) (by rw [au3,au4];omega)]
       simp [oj]
    ·obtain rfl:i=(hF s a).1.length:=by omega
     simp only [Nat.lt_irrefl,auU,auW,QB,List.drop_length,oj,List.filter_nil,List.append_nil];unfold vC;rw [List.take_of_length_le aK,if_neg (by omega)]
  exact key n 0 [] (by omega) (by omega) (by simp) (by simp)
abbrev ae5:dw:=⟨0,l2,[],false,[],[]⟩
def F6(c:dw)(s:aw)(k:Int):dw×Int:=
 bif (decide (k<1) || !od s) || !mq c.Next then(ae5,1)else bif c.dQ then(c,0) else
 bif !decide ((hF s c.cg).2=0) then(ae5,(hF s c.cg).2) else
 (⟨c.cg,c.Rest,vC (oj c.Next (hF s c.cg).1) k.toNat,decide ((oj c.Next (hF s c.cg).1).length≤k.toNat),c.e_++(oj c.Next (hF s c.cg).1).take k.toNat,c.dD⟩,0)
structure Bx(n:Nat)(c:dw):Prop where
 fv:c.Next.length<n
 auO:c.Next.length≤9223372036854775807
 pl:c.e_.length≤100000
 xN:c.dD.length≤100000
def ae6{n:Nat}{c:dw}(h:Bx n c):D3 n c=some c:=by
 have Z:=h.pl;have aa:=h.xN;unfold D3 JB JC;simp only [au0,Nat.zero_add,List.nil_append,jK (show c.e_.length*48≤140737488355328 by omega),jK (show c.dD.length*16≤140737488355328 by omega),a6,ak]
def asB{s:aw}(ab:s.Rows.length≤5000)(a:Int):(hF s a).1.length≤5000:=Nat.le_trans (ae4 s a) ab
def asC{s:aw}(ab:s.Rows.length≤5000)(a:Int)(p:aU)(hp:p∈(hF s a).1):p.Key≠[]:=by
 unfold hF at hp;cases hs:od s
 ·rw [hs]at hp;simp at hp
 ·rw [hs]at hp;cases ai:decide (a<s.bB)||decide (s.bv<a)
  ·rw [ai]at hp;simp only [auX,auW]at hp;obtain⟨r,ai,e,_⟩:=U8 _ _ hp;obtain⟨j,hj,rfl⟩:=aeU ai;have Z:=(asr hs a j hj).1;rw [e];intro hc;rw [show(s.Rows.getD j default).Key=[]from hc]at Z
   cases Z
  ·rw [ai]at hp;simp at hp
def asD{l:List aU}{k:Nat}(h:∀p∈l,p.Key≠[]):decide (vC l k=[])=decide (l.length≤k):=by
 unfold vC;by_cases hk:k<l.length
 ·rw [if_pos hk,decide_eq_false (h _ (FP hk)),decide_eq_false (by omega)]
 ·rw [if_neg hk,decide_eq_true rfl,decide_eq_true (by omega)]
section
variable {n:Nat} {s:aw} (hn:2000≤n) (aZ:n≤9223372036854775808) (h:x7 n s) (ab:s.Rows.length≤5000) {c:dw} (hc:Bx n c)
include hn aZ h ab hc
theorem asE(k:Int):xh n c s k=some (F6 c s k):=by
 unfold xh F6
 (try simp only [F5])
 cases hk:decide (k<1)
 ·have ki:¬ k<1:=of_decide_eq_false hk;obtain⟨m,rfl⟩:∃m:Nat,k=(m:Int):=⟨k.toNat,by omega⟩
  simp only [auY,auV,auW,Bool.false_or];rw [LV hn aZ h,ak];cases hs:od s
  ·rfl
  ·simp only [auX,auY,auV,auW,Bool.false_or];rw [U_ (by omega),ak]
   cases hb:mq c.Next
   ·rfl
   ·simp only [auX,auW];rw [ae6 hc,ak];cases hd:c.dQ
    ·simp only [auW];rw [asA hn aZ h ab c.cg hb m,ak];cases he:decide ((hF s c.cg).2=0)
     ·simp only [auY,auV,he]
     ·have hlen:=asB ab c.cg;have bP:=asx c.Next (hF s c.cg).1;have hp:=hc.pl;simp only [auX,auW,au1,auT];rw [jK (by rw [List.length_take];omega),a6,asD (l:=oj c.Next (hF s c.cg).1) λp hp=>asC ab _ p (List.mem_filter.1 hp).1]
    ·simp only [auV]
 ·rfl
end
def asF{n:Nat}{c:dw}(hc:Bx n c)(x:au'):Af n c x=some ⟨c.cg,c.Rest,c.Next,c.dQ,c.e_,c.dD++[x]⟩:=by
 have:=hc.xN
 unfold Af
 (try simp only [F5])
 rw [ae6 hc,ak,jK (by rw [au4];omega),a6]
structure Va(c:dw):Prop where
 rest:U' c.Rest
 pl:c.e_.length≤60
 xN:c.dD.length≤40
 ts:∀i,i<c.dD.length→(c.dD.getD i default).length≤5000
def Va.cB{c:dw}(h:Va c)(hi:ae0 c){n:Nat}(hn:n=9223372036854775808):Bx n c:=
 ⟨by have:=hi.U5;omega,hi.U5,by have:=h.pl;omega,by have:=h.xN;omega⟩
def U9.cB{s:aw}(h:U9 s)(hi:aeV s){n:Nat}(hn:n=9223372036854775808):x7 n s:=
 ⟨by
  have:=h.FL;omega,λi=>oh (P:=LU n) (λk hk=>by
  have Z:=hi.aeW.2 k hk;have aa:=Z.F3;have am:=Z.Mh.1;exact⟨by omega,by omega,λj=>oh (P:=λx:Version=>x.bj.S.length<n) (λm hm=>by have:=(Z.Mh.2 m hm).U4.U3;omega) (by show 0<n;omega) j⟩) ((F2 (n:=n) (by omega)).st.row 0) i⟩
def asG{x:au'}{l:List aU}(h:∀p∈l,vB x p.Key=true):oj x l=l:=List.filter_eq_self.2 h
def asH(l:List aU):oj [] l=l:=asG λp _=>by
 unfold vB;cases p.Key<;>rfl
section
variable {W:List aU} {a:Int}
end
def pX(c:dw)(acc:au')(l:List au'):au'×Int×Int:=
 bif (l.all (λx=>decide (x.length≤4096))&&decide ((acc++ht eH l).length≤16384))&&decide (((c.dD.length:Nat):Int)≤1099511627776-c.cg) then(acc++ht eH l,c.cg+((c.dD.length:Nat):Int),0) else([],0,2)
def asI{c:dw}{acc x:au'}{l:List au'}(h:x.length≤4096):pX c acc (x::l)=pX c (acc++eH x) l:=by
 unfold pX;rw [List.all_cons,decide_eq_true h,Bool.true_and,show ht eH (x::l)=eH x++ht eH l from rfl,←List.append_assoc]
def asJ{c:dw}{acc x:au'}{l:List au'}(h:¬ x.length≤4096):pX c acc (x::l)=([],0,2):=by
 unfold pX;rw [List.all_cons,decide_eq_false h];rfl
def asK{c:dw}{acc:au'}{l:List au'}(h:16384<acc.length):pX c acc l=([],0,2):=by
 unfold pX;rw [decide_eq_false (show¬ (acc++ht eH l).length≤16384 by rw [au3];omega),Bool.and_false,Bool.false_and];rfl
def asL{c:dw}{acc:au'}:pX c acc []=bif decide (16384<acc.length)||decide (1099511627776-c.cg<((c.dD.length:Nat):Int)) then([],0,2) else(acc,c.cg+((c.dD.length:Nat):Int),0):=by
 unfold pX;rw [show ht eH []=[]from rfl,List.append_nil,List.all_nil,Bool.true_and]
 by_cases Z:acc.length≤16384
 ·rw [decide_eq_true Z,decide_eq_false (show¬ 16384<acc.length by omega)]
  by_cases aa:((c.dD.length:Nat):Int)≤1099511627776-c.cg
  ·rw [decide_eq_true aa,decide_eq_false (show¬ 1099511627776-c.cg<((c.dD.length:Nat):Int)by omega)];rfl
  ·rw [decide_eq_false aa,decide_eq_true (show 1099511627776-c.cg<((c.dD.length:Nat):Int)by omega)];rfl
 ·rw [decide_eq_false Z,decide_eq_true (show 16384<acc.length by omega)];rfl
section
variable {n:Nat} (hn:100000000≤n) (aZ:n≤9223372036854775808) {c:dw} (eA:0≤c.cg∧c.cg≤1099511627776) (aD:c.dD.length≤4000) (aF:∀i,i<c.dD.length→(c.dD.getD i default).length≤5000)
include hn aZ eA aD aF
theorem ae7:ava (1099511627776-c.cg)=1099511627776-c.cg∧ava (c.cg+((c.dD.length:Nat):Int))=c.cg+((c.dD.length:Nat):Int):=by
 obtain⟨Z,aa⟩:=eA;constructor
 ·rw [wr]<;>omega
 ·rw [wr]<;>omega
theorem asM:∀m i acc,c.dD.length<m+i→i≤c.dD.length→acc.length≤1000000→Ae n c m (gK acc) (i:Int)=some (pX c acc (c.dD.drop i)):=by
 obtain⟨nn,nF⟩:=ae7 hn aZ eA aD aF;intro m;induction m with
 |zero=>intro i acc Z aa;omega
 |succ m aM=>
  intro i acc Z aa am;simp only [Ae,Qw,au2];by_cases hi:i<c.dD.length
  ·have hx:=aF i hi;simp only [hi,cC hi,au1,auT,auV,a6,gb];rw [eZ c.dD i default hi];by_cases ab:(c.dD.getD i default).length≤4096
   ·simp only [show¬ 4096<(c.dD.getD i default).length by omega,auU,auY,auV,D2,ak,Bb,gb,auW]
    by_cases ha:16384<acc.length
    ·rw [decide_eq_true ha,asK ha];rfl
    ·rw [decide_eq_false ha,asI ab];simp only [auW];have uj:=Fz (s:=c.dD.getD i default) (by omega)
     rw [rY (by omega) (by omega),ak,la (by omega),ak]
     simp only [ea (show i≤9223372036854775806 by omega)]
     exact aM (i+1) _ (by omega) (by omega) (by rw [au3];omega)
   ·simp only [show 4096<(c.dD.getD i default).length by omega,auT,auX,auW,ak,auV]
    rw [asJ ab]
  ·obtain rfl:i=c.dD.length:=by omega
   simp only [Nat.lt_irrefl,auU,auW,Qv,D2,ak,Bb,gb,List.drop_length,asL,eG,nn,nF];cases decide (16384<acc.length)||decide (1099511627776-c.cg<((c.dD.length:Nat):Int))
   ·simp only [auW];rw [Me (by omega),ak]
   ·rfl
end
section
variable {n:Nat} (hn:n=9223372036854775808) {c:dw} (bP:Va c) (hi:ae0 c)
include hn bP hi
end
def yh(dec:au'→bN×Int)(s:au'):bN×List au'×Int:=
 match eU 16384 s with
 |.error e=>(l2,[],e)
 |.ok (eB,t)=>bif !decide ((dec eB).2=0) then(l2,[],(dec eB).2) else
  match iy 16384 t with
  |.error e=>(l2,[],e)
  |.ok (k,u)=>match ge (eU 4096) k u with
   |.error e=>(l2,[],e)
   |.ok (l,v)=>bif !decide (v=[])||decide (1099511627776-(dec eB).1.Pos<(k:Int)) then(l2,[],5) else((dec eB).1,l,0)
def F7:dY (eU 4096) eH (λs=>s.length≤4096):=tG 4096 (by omega)
def F8:dY (eU 16384) eH (λs=>s.length≤16384):=tG 16384 (by omega)
section
variable {n:Nat} (hn:100000000≤n) (aZ:n≤9223372036854775808) {s:au'} (hs:s.length≤4000)
include hn aZ hs
theorem ae8{most:Nat}(hm:most<9223372036854775808)(E_:most<18446744073709551616){t:au'}(aF:t <:+ s):
 xf n (most:Int) s (bl s t)=some (match eU most t with|.error e=>([],e,bl s t)|.ok (x,u)=>(x,0,bl s u)):=by
 unfold xf;rw [Bk aF (by omega) hm (by omega),ak]
 cases hx:eU most t with
 |error e=>
  have:=(tG most E_).cN _ _ hx
  rw [fB,show decide (((([],0,e):au'×Int×Int)).2.2=0)=false from decide_eq_false this]
  rfl
 |ok r=>obtain⟨x,u⟩:=r;rfl
theorem asN{aT:Int×Int×Int}{aR:bN×Int}{k:Nat}(hk:aT.1=(k:Int))(fq:k≤100000):∀j m i t acc,i+j=k→j<m→t <:+ s→acc.length=i→
 xg n aT s aR m (bl s t) acc (i:Int)=match ge (eU 4096) j t with|.error e=>some (l2,[],e)|.ok (l,v)=>JD n aT s aR (bl s v) (acc++l):=by
 intro j;induction j with
 |zero=>
  intro m i t acc Z aa aF ha;obtain⟨m,rfl⟩:∃q,m=q+1:=⟨m-1,by omega⟩
  obtain rfl:i=k:=by omega
  simp only [xg,JE,hk,au6,auU,auW,ge,List.append_nil]
 |succ j aM=>
  intro m i t acc Z aa aF ha;obtain⟨m,rfl⟩:∃q,m=q+1:=⟨m-1,by omega⟩
  simp only [xg,JE,hk,au2,show i<k by omega,auT,auV,ge]
  rw [show xf n 4096 s (bl s t)=_ from ae8 hn aZ hs (most:=4096) (by omega) (by omega) aF,ak]
  cases hx:eU 4096 t with
  |error e=>simp only [gf (F7.cN _ _ hx),auV]
  |ok r=>
   obtain⟨x,u⟩:=r;simp only [auT,auX,auW,au4,jK (show(acc.length+1)*16≤140737488355328 by omega),a6,ea (show i≤9223372036854775806 by omega)]
   rw [aM m (i+1) u (acc++[x]) (by omega) (by omega) ((F7.km hx).trans aF) (by rw [au3,au4,ha])]
   cases ge (eU 4096) j u with
   |error e=>rfl
   |ok r=>obtain⟨l,v⟩:=r;simp only [List.append_assoc,List.singleton_append]
theorem asO{v:au'}(au:v <:+ s):decide (bl s v=((s.length:Nat):Int))=decide (v=[]):=by
 by_cases h:v=[]
 ·rw [decide_eq_true h,decide_eq_true ((Md au).2 h)]
 ·rw [decide_eq_false h,decide_eq_false (λe=>h ((Md au).1 e))]
theorem asP{D:eu au'}{E:au'→au'}{ok:au'→Prop}(h:dY D E ok){k:Nat}{u:au'}{l:List au'}{v:au'}(hx:ge D k u = .ok (l,v)):v <:+ u:=(dY.rep h k).km hx
theorem asQ{dec:au'→bN×Int}(hd:∀eB,eB.length≤4000→oR n eB=some (dec eB)∧((dec eB).2=0→0≤(dec eB).1.Pos∧(dec eB).1.Pos≤1099511627776)):D4 n s=some (yh dec s):=by
 unfold D4 yh
 (try simp only [r9])
 rw [decide_eq_false (show¬ (16384:Int)<((s.length:Nat):Int)by omega)]
 simp only [auW];rw [show xf n 16384 s 0=_ from(ad5 s) ▸ ae8 hn aZ hs (most:=16384) (by omega) (by omega) (List.suffix_refl s),ak]
 cases hx:eU 16384 s with
 |error e=>simp only [gf (F8.cN _ _ hx),auV]
 |ok r=>
  obtain⟨eB,t⟩:=r;have hc:=(F8.fL _ _ _ hx).1
  have ab:eB.length≤4000:=by
   have:=congrArg List.length hc
   rw [au3,eH,au3]at this;omega
  have aF:=F8.km hx;obtain⟨Z,aa⟩:=hd eB ab;simp only [auT,auX,auW];rw [Z,ak];cases h0:decide ((dec eB).2=0)
  ·rfl
  ·obtain⟨bc,a2⟩:=aa (of_decide_eq_true h0);simp only [auX,auW];rw [show oN n s (bl s t) 16384=_ from tJ (most:=16384) aF (by omega) (by omega) (by omega),ak]
   cases hk:iy 16384 t with
   |error e=>
    rw [qP hk,fB];simp only [gf (np hk),auV]
   |ok r=>
    obtain⟨k,u⟩:=r;obtain⟨dc,aj,fp⟩:=oa hk;have hu:u <:+ s:=(show u <:+ t from⟨eM k,dc.symm⟩).trans aF
    simp only [qO hk,g_,auT,auX,auW];rw [show xg n ((k:Int),bl s u,0) s (dec eB) n (bl s u) [] 0=_ from asN hn aZ hs (k:=k) rfl (by omega) k n 0 u [] (by omega) (by omega) hu rfl]
    cases ai:ge (eU 4096) k u with
    |error e=>rfl
    |ok r=>
     obtain⟨l,v⟩:=r;have au:=(asP hn aZ hs F7 ai).trans hu;simp only [JD,List.nil_append,asO hn aZ hs au,eG,show ava (1099511627776-(dec eB).1.Pos)=1099511627776-(dec eB).1.Pos from by rw [wr]<;>omega]
     cases !decide (v=[])||decide (1099511627776-(dec eB).1.Pos<(k:Int))<;>rfl
end
section
variable {n:Nat} (hn:100000000≤n) (aZ:n≤9223372036854775808)
include hn aZ
theorem ae9{p:og}{l:List bb}(h:mW (fz p l)=true):0≤(fz p l).Pos∧(fz p l).Pos≤1099511627776:=by
 unfold mW at h;simp only [Bool.and_eq_true,decide_eq_true_eq]at h;exact h.1.1.1.1.1.1.1
end
def ae'{a:Int}:∀{A:List aU},(∀p∈A,p.bj.Kind≠0)→oi a (hE A a).Rows=A
 |[],_=>rfl
 |p::A,h=>by
  have aM:=ae' (a:=a) (A:=A) λq ao=>h q (by simp [ao])
  have au:pW a (⟨p.Key,[⟨a,p.bj⟩]⟩:Row)=p.bj:=by
   have e:lb a [(⟨a,p.bj⟩:Version)]=1:=by
    unfold lb;rw [if_pos (Int.le_refl a)];rfl
   unfold pW;rw [e];rfl
  show oi a ((⟨p.Key,[⟨a,p.bj⟩]⟩:Row)::(hE A a).Rows)=_
  unfold oi;rw [au,if_neg (h p (by simp)),aM]
def asR{a:Int}{R:bN}{A:List aU}(hs:od (hE A a)=true)(hk:∀p∈A,p.bj.Kind≠0)(ab:A.length≤4000):
 F6 ⟨a,R,[],false,[],[]⟩ (hE A a) 4000=(⟨a,R,[],true,A,[]⟩,0):=by
 have eA:hF (hE A a) a=(A,0):=by
  unfold hF;rw [hs,show(hE A a).bB=a from rfl,show(hE A a).bv=a from rfl,decide_eq_false (au6 a),ae' hk]
  rfl
 unfold F6;rw [hs,show mq []=true from rfl]
 simp only [show decide ((4000:Int)<1)=false from rfl,auX,Bool.or_self,auW,eA,auT,asH,List.nil_append]
 have aK:(4000:Int).toNat=4000:=rfl;rw [aK,List.take_of_length_le ab,decide_eq_true ab];unfold vC;rw [if_neg (by omega)]
def asS{α:Type}[Inhabited α]{l:List α}{i:Nat}(hi:i<l.length):l.take i++[l.getD i default]=l.take (i+1):=by
 rw [List.take_succ];simp [List.getD,hi]
def yi(n:Nat)(s:au')(r3:bN×List au'×Int)(bH:dw×Int)(m:Nat)(c:dw)(i:Int):avc:=
 Az n s r3 bH m c i
def asT(n:Nat)(s:au')(r3:bN×List au'×Int)(bH:dw×Int)(m:Nat)(c x:dw)(i:Nat)(hi:i<r3.2.1.length)(yC:i≤9223372036854775806)(hx:Af n c (r3.2.1.getD i default)=some x):
 yi n s r3 bH (m+1) c (i:Int)=yi n s r3 bH m x ((i+1:Nat):Int):=by
 unfold yi;simp only [Az,KB,au2,hi,cC hi,auT,auV,a6,au1,ea yC,F5,hx,ak]
def asU(n:Nat)(s:au')(r3:bN×List au'×Int)(bH:dw×Int)(m:Nat)(c:dw)(d':bH.2=0)(dz:xe n c=some (s,ava (r3.1.Pos+((r3.2.1.length:Nat):Int)),0))(hw:Ax n=some true):
 yi n s r3 bH (m+1) c (r3.2.1.length:Int)=some true:=by
 unfold yi;simp only [Az,KB,au6,auU,auW,Sq,F5,dz,ak,d',auT,auV,hw]
section
variable {n:Nat} (hn:100000000≤n) (aZ:n≤9223372036854775808)
include hn aZ
theorem asV:∃dec:au'→bN×Int,∀eB:au',eB.length≤4000→(oR n eB=some (dec eB)∧rI n eB=some (dec eB)∧tN n (dec eB).1∧
 ((dec eB).2=0→∃p l,vy eB = .ok (p,[])∧(dec eB).1=fz p l∧l.map kn=p.2.2.1∧(∀q∈l,pb q)∧l.length≤1000∧mW (fz p l)=true)):=by
 refine⟨λeB=>(oR n eB).getD (l2,1),λeB ab=>?_⟩
 obtain⟨R,Z,am,aK,bd⟩:=arY hn aZ (s:=eB) ab
 have e:oR n eB=some R:=by
  unfold oR;rw [decide_eq_false (show¬ (16384:Int)<((eB.length:Nat):Int)by omega)]
  simp only [auW];rw [Z,ak]
 show oR n eB=some ((oR n eB).getD (l2,1))∧rI n eB=some ((oR n eB).getD (l2,1))∧tN n ((oR n eB).getD (l2,1)).1∧
  (((oR n eB).getD (l2,1)).2=0→∃p l,vy eB = .ok (p,[])∧((oR n eB).getD (l2,1)).1=fz p l∧l.map kn=p.2.2.1∧(∀q∈l,pb q)∧l.length≤1000∧mW (fz p l)=true)
 rw [e,Z];exact⟨rfl,rfl,am,aK⟩
omit hn aZ in
theorem asW{dec:au'→bN×Int}{s:au'}(hs:s.length≤4000):((yh dec s).2.2≠0∧(yh dec s).1=l2∧(yh dec s).2.1=[])∨
 ∃eB l,s=eH eB++(eM l.length++ht eH l)∧eB.length≤4000∧l.length≤4000∧(∀x∈l,x.length≤4096)∧(dec eB).2=0∧yh dec s=((dec eB).1,l,0)∧((l.length:Nat):Int)≤1099511627776-(dec eB).1.Pos:=by
 unfold yh;cases hx:eU 16384 s with
 |error e=>exact Or.inl ⟨F8.cN _ _ hx,rfl,rfl⟩
 |ok r=>
  obtain⟨eB,t⟩:=r;have hc:=(F8.fL _ _ _ hx).1;have hlen:=congrArg List.length hc;rw [au3,eH,au3]at hlen
  dsimp only
  by_cases h0:(dec eB).2=0
  ·simp only [h0,auT,auX,auW];cases hk:iy 16384 t with
   |error e=>exact Or.inl ⟨np hk,rfl,rfl⟩
   |ok r=>
    obtain⟨k,u⟩:=r;obtain⟨dc,aj,fp⟩:=oa hk
    dsimp only
    cases ai:ge (eU 4096) k u with
    |error e=>exact Or.inl ⟨(dY.rep F7 k).cN _ _ ai,rfl,rfl⟩
    |ok r=>
     obtain⟨l,v⟩:=r;obtain⟨hf,jr,aeR⟩:=(dY.rep F7 k).fL _ _ _ ai
     dsimp only
     by_cases au:v=[]
     ·by_cases hp:1099511627776-(dec eB).1.Pos<(k:Int)
      ·left;simp [hp]
      ·right
       subst au;rw [List.append_nil]at hf;refine⟨eB,l,by rw [jr,←hf,←dc,←hc],by omega,?_,aeR,h0,by simp [hp],by rw [jr];omega⟩
       have:=congrArg List.length dc
       rw [au3]at this;omega
     ·left;simp [au]
  ·rw [decide_eq_false h0];exact Or.inl ⟨h0,rfl,rfl⟩
theorem asX{p:og}{l:List bb}(hp:vz p)(hs:(ko p).length≤4000)(ab:l.map kn=p.2.2.1)(hg:∀q∈l,pb q)(k7:l.length≤1000)(c_:mW (fz p l)=true)(hsh:tN n (fz p l)):
 D1 n (fz p l)=some (ko p,0)∧JA n (fz p l)=Option.bind (rI n (ko p)) λr=>some r:=by
 have Z:=arS (by omega) aZ hp hs ab hg k7 c_
 constructor
 ·unfold D1
  (try simp only [r9])
  rw [UX (by omega) aZ hsh,ak,c_]
  simp only [auX,auW];rw [Z,ak,decide_eq_false (show¬ (16384:Int)<(((ko p).length:Nat):Int)by omega)]
  rfl
 ·unfold JA
  (try simp only [r9])
  rw [UX (by omega) aZ hsh,ak,c_]
  simp only [auX,auW];rw [Z,ak]
end
def asY(s:au'):Sr 9223372036854775808 s=some true:=by
 unfold Sr
 (try simp only [F5])
 by_cases hs:s.length≤4000
 ·rw [decide_eq_false (show¬ (4000:Int)<((s.length:Nat):Int)by omega)]
  simp only [auW];obtain⟨N,ae_⟩:∃N:Nat,N=9223372036854775808:=⟨_,rfl⟩;have qT:=ae2;rw [←ae_]at qT ⊢;have hn:100000000≤N:=by omega
  have aZ:N≤9223372036854775808:=by omega
  clear ae_;obtain⟨dec,hd⟩:=asV hn aZ
  rw [asQ hn aZ hs (dec:=dec) λeB ab=>⟨(hd eB ab).1,λh0=>by
   obtain⟨p,l,_,e2,_,_,_,c_⟩:=(hd eB ab).2.2.2 h0;rw [e2];exact ae9 hn aZ c_⟩,ak]
  rcases asW (dec:=dec) hs with⟨Z,aa,am⟩|⟨eB,l,hc,tY,k7,hx,h0,sB,GH⟩
  ·simp only [decide_eq_false Z,auY,auV,aa,am,au0,show decide ((((0:Nat):Int))=0)=true from rfl,auT,qT,ak]
  ·obtain⟨_,hS,hsh,asZ⟩:=hd eB tY;obtain⟨p,q,hi,e2,ao,hg,as0,c_⟩:=asZ h0;obtain⟨tq,hp⟩:=F0.fL _ _ _ hi;rw [List.append_nil]at tq;rw [e2]at hsh sB GH;obtain⟨bc,a2⟩:=ae9 hn aZ c_;obtain⟨b2,dz⟩:=asX hn aZ hp (by rw [←tq];exact tY) ao hg as0 c_ hsh
   have afa:p.2.1.length≤4000:=by have:=Mc hp;rw [tq]at tY;omega
   obtain⟨NM,_⟩:=aeN hn aZ (s:=s) hs hp afa (by rw [Bool.and_eq_true,decide_eq_true_eq,decide_eq_true_eq];exact⟨bc,a2⟩)
   have as1:od (hE p.2.1 p.1)=true:=by
    have:=c_
    unfold mW at this;simp only [Bool.and_eq_true]at this;exact this.1.1.1.1.1.1.2
   have Fk:∀x∈p.2.1,x.bj.Kind≠0:=by
    have:=hp.pc.2
    unfold o8 at this;rw [Bool.and_eq_true,x3]at this;intro x l8;obtain⟨j,hj,rfl⟩:=aeU l8;have:=this.2 j hj
    simpa using this
   rw [sB];simp only [auT,auX,auW]
   have dg:D0 N (fz p q)=some ((⟨p.1,sa (fz p q),[],false,[],[]⟩:dw),0):=by
    unfold D0
    (try simp only [r9])
    rw [dz,←tq,hS,ak,ak];simp only [h0,auT,auX,auW];rfl
   rw [dg,ak];simp only [auT,auX,auW];have hc0:Bx N (⟨p.1,sa (fz p q),[],false,[],[]⟩:dw):=⟨by show 0<N;omega,by show 0≤_;omega,by show 0≤_;omega,by show 0≤_;omega⟩
   have afb:=asE (by omega) aZ hsh.st (by show(hE p.2.1 p.1).Rows.length≤5000;rw [aso];omega) hc0 4000
   rw [show F6 (⟨p.1,sa (fz p q),[],false,[],[]⟩:dw) (fz p q).aw 4000=_ from asR as1 Fk afa]at afb
   rw [show xh N _ _ 4000=_ from afb,ak]
   have as2:xe N (⟨p.1,sa (fz p q),[],true,p.2.1,l⟩:dw)=some (s,ava (p.1+((l.length:Nat):Int)),0):=by
    have l8:∀i,i<l.length→(l.getD i default).length≤5000:=λi hi=>by have:=hx _ (FP hi);omega
    have dm:=asM (c:=(⟨p.1,sa (fz p q),[],true,p.2.1,l⟩:dw)) hn aZ ⟨bc,a2⟩ k7 l8;obtain⟨nn,nF⟩:=ae7 (c:=(⟨p.1,sa (fz p q),[],true,p.2.1,l⟩:dw)) hn aZ ⟨bc,a2⟩ k7 l8;have e1:=Fz (s:=ko p) (by rw [←tq];omega)
    have e2:=nl (u:=l.length) (by omega)
    have e3:(ko p).length≤4000:=by rw [←tq];exact tY
    unfold xe;simp only [auX,auW];rw [NM,ak];simp only [auT,auX,auW];show Option.bind (D1 N (fz p q)) _=_
    rw [b2,ak];simp only [auT,auX,auW]
    rw [rY (by omega) (by omega),ak,qK (by omega),tC (by omega) (by omega),ak,gC (by omega),a6,
     show([]:List Int)=gK []from rfl,la (by rw [au3];simp;omega),ak,List.nil_append]
    rw [show Ae N _ N (gK (eH (ko p)++eM l.length)) 0=_ from dm N 0 (eH (ko p)++eM l.length) (by show l.length<N+0;omega) (by omega) (by rw [au3];omega)]
    have lK:(l.all λx=>decide (x.length≤4096))=true:=by
     rw [List.all_eq_true];exact λx l8=>decide_eq_true (hx x l8)
    have si:(eH (ko p)++eM l.length)++ht eH l=s:=by rw [List.append_assoc,←tq,←hc]
    show some (pX _ _ (l.drop 0))=_
    rw [List.drop_zero];unfold pX;simp only [si];rw [lK,decide_eq_true (show s.length≤16384 by omega),decide_eq_true (show((l.length:Nat):Int)≤1099511627776-p.1 from GH)]
    simp only [Bool.and_self,auV];exact congrArg (λz=>some (s,z,(0:Int))) nF.symm
   have run:∀m i,l.length<m+i→i≤l.length→yi N s (fz p q,l,0) ((⟨p.1,sa (fz p q),[],true,p.2.1,[]⟩:dw),0) m (⟨p.1,sa (fz p q),[],true,p.2.1,l.take i⟩:dw) (i:Int)=some true:=by
    intro m;induction m with
    |zero=>intro i g1 g2;omega
    |succ m aM=>
     intro i g1 g2;by_cases yC:i<l.length
     ·have uf:Bx N (⟨p.1,sa (fz p q),[],true,p.2.1,l.take i⟩:dw):=⟨by show 0<N;omega,by show 0≤_;omega,by show p.2.1.length≤_;omega,by show(l.take i).length≤_;rw [List.length_take];omega⟩
      have yK:=asF uf (l.getD i default);rw [asT _ _ _ _ _ _ _ i yC (by omega) yK]
      show yi N s _ _ m (⟨p.1,sa (fz p q),[],true,p.2.1,l.take i++[l.getD i default]⟩:dw) _=_
      rw [asS yC];exact aM (i+1) (by omega) (by omega)
     ·obtain rfl:i=l.length:=by omega
      rw [List.take_length];exact asU N s (fz p q,l,0) _ m _ rfl as2 qT
   exact run N 0 (by omega) (by omega)
 ·rw [decide_eq_true (show(4000:Int)<((s.length:Nat):Int)by omega)]
  simp only [auV,ae2,ak]
end Go.Ab.Y
